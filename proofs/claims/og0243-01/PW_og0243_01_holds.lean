import PyProof.Rows.All
import Wide.All
import OpenK.AllK
import Wide.FinOn
import Lean
import PySem.Challenge.RW_og0243_01
open PySem PySem.W PyProof.Rows
set_option Elab.async false
-- part HA
section
open PySem PySem.W PySem.Calls PyProof.Rows
set_option maxRecDepth 100000
set_option maxHeartbeats 4000000
namespace Hd
noncomputable section
/- the head: the module's top, run by the kernel in one piece; the program's parts are read off the row's own constant -/
noncomputable abbrev pg : Program := PySem.Challenge.pw_og0243_01
noncomputable def nthS : List Stmt → Nat → Stmt
  | [], _ => .Pass ⟨0, 0, 0, 0⟩
  | s :: _, 0 => s
  | _ :: l, k + 1 => nthS l k
noncomputable def sT (i : Nat) : Stmt := nthS pg.main.body i
noncomputable def mE (i : Nat) : Stmt := match sT 17 with | .ClassDef _ _ _ b .. => nthS b i | s => s
noncomputable def aO : Stmt → Arguments | .FunctionDef _ a .. => a | _ => ⟨[], [], none, [], [], none, []⟩
noncomputable def bO : Stmt → List Stmt | .FunctionDef _ _ b .. => b | _ => []
noncomputable def sO : Stmt → Scope | .FunctionDef _ _ _ _ _ _ s .. => s | _ => default
noncomputable def pO : Stmt → Pos | .FunctionDef _ _ _ _ _ _ _ _ _ p => p | _ => ⟨0, 0, 0, 0⟩
noncomputable def vs (s : String) (n : Nat) : Value := .str (Str.ofString s) n
noncomputable def de (P : Params) (s : String) (n : Nat) (v : Value) : DictEntry := ⟨PyData.keyHash P (Str.ofString s), vs s n, v⟩
noncomputable def oT (l : List Value) : Obj := Obj.mk (.type "tuple") none (Data.seq l.toArray) #[]
noncomputable def oF (l : List Value) : Obj := Obj.mk .none none (Data.fields l.toArray) #[]
noncomputable def oR (a b : String) (s s' : Stmt) : Obj := Obj.mk .none none (Data.func (FuncData.mk (Str.ofString a) (Str.ofString b) (aO s) (FuncBody.stmts (bO s)) (sO s') 0 [] .none .none .none .none none .none .none 0)) #[]
noncomputable def oN (a b : String) (s s' : Stmt) (v : Value) (m : String) (n c u : Nat) : Obj := Obj.mk (.type "function") none (Data.func (FuncData.mk (Str.ofString a) (Str.ofString b) (aO s) (FuncBody.stmts (bO s)) (sO s') 3 [] v .none .none (vs m n) none (.ref c) .none u)) #[]
noncomputable def oC (a b : String) (t : Bool) : List Nat → Obj
  | [n0, n1, n2, n3, n4, n5, n6, n7, n8, n9, n10, n11, n12, n13, n14, n15, n16] => Obj.mk (.type "code") none (Data.fields #[vs a n0, vs b n1, vs "/claim/cut.py" n2, .int n3 0, .int n4 0, .int n5 0, .int n6 0, .int n7 0, .ref n8, .bool t, .int n9 0, .ref n10, .none, .ref n11, .ref n12, .ref n13, .int n14 0, .int n15 0, vs "/claim/cut.py" n16]) #[]
  | _ => oT []
noncomputable def lf : Life := Life.mk [] [] [] 0 [] [] false #[] [] 0 false false false 0 [2000, 10, 10] false 0 true [] [] 0 false

noncomputable def g44 (_ : Params) : Obj := oF []
noncomputable def h3 (P : Params) : Obj := Obj.mk (.type "dict") none (Data.dict #[de P "__name__" 165 (vs "law_og0243_01" 472), de P "__doc__" 166 .none, de P "__package__" 167 .none, de P "__loader__" 168 (.builtin "__main__.__loader__#opaque"), de P "__spec__" 169 .none, de P "__annotations__" 170 (.ref 6), de P "__builtins__" 171 (.ref 4), de P "__file__" 173 (vs "/claim/cut.py" 172), de P "__cached__" 174 .none, de P "_wall" 193 (.ref 21), de P "NO_COLOUR" 198 (.int (-1) 197), de P "PLAIN" 201 (.ref 22), de P "BACK" 203 (.int 2 202), de P "clamp" 212 (.ref 29), de P "erased_pen" 219 (.ref 36), de P "blank_cell" 226 (.ref 43), de P "is_blank" 233 (.ref 50), de P "is_plain_blank" 240 (.ref 57), de P "LINE_SIZES" 247 (.ref 58), de P "line_blanks" 255 (.ref 65), de P "right_half" 262 (.ref 72), de P "line_part" 270 (.ref 79), de P "line_slice" 280 (.ref 86), de P "line_codes" 290 (.ref 93), de P "Line" 471 (.ref 218), de P "_law_pens" 488 (.ref 225), de P "_law_deck" 494 (.ref 230), de P "_law_draw" 502 (.ref 237), de P "_law_blank" 509 (.ref 244), de P "_law_sign" 520 (.ref 251), de P "_law_mended" 534 (.ref 258), de P "_law_laid" 546 (.ref 265), de P "_law_erased" 561 (.ref 272), de P "_law_deed" 567 (.ref 277), de P "_law_is_so" 573 (.ref 282), de P "_law_codes" 582 (.ref 289), de P "law" 588 (.ref 294)] 37) #[]
noncomputable def h11 (_ : Params) : Obj := oT []
noncomputable def h12 (_ : Params) : Obj := oF [.int 1 0, .int 0 0, .ref 20, .int 8 0, .int 0 0, .ref 28, .int 10 0, .int 0 0, .ref 35, .int 12 0, .int 0 0, .ref 42, .int 14 0, .int 0 0, .ref 49, .int 16 0, .int 0 0, .ref 56, .int 20 0, .int 0 0, .ref 64, .int 22 0, .int 0 0, .ref 71, .int 24 0, .int 0 0, .ref 78, .int 28 0, .int 0 0, .ref 85, .int 35 0, .int 0 0, .ref 92, .int 44 0, .int 0 0, .ref 99, .int 142 0, .int 0 0, .ref 229, .int 147 0, .int 0 0, .ref 236, .int 152 0, .int 0 0, .ref 243, .int 154 0, .int 0 0, .ref 250, .int 159 0, .int 0 0, .ref 257, .int 167 0, .int 0 0, .ref 264, .int 173 0, .int 0 0, .ref 271, .int 179 0, .int 0 0, .ref 276, .int 207 0, .int 0 0, .ref 281, .int 212 0, .int 0 0, .ref 288, .int 219 0, .int 0 0, .ref 293]
noncomputable def h13 (_ : Params) : Obj := Obj.mk (.type "code") none (Data.fields #[vs "<module>" 182, vs "<module>" 183, vs "/claim/cut.py" 184, .int 1 0, .int 0 0, .int 0 0, .int 0 0, .int 0 0, .ref 11, .bool false, .int 181 0, .ref 12, .none, .none, .none, .none, .int 185 0, .int 1 0, vs "/claim/cut.py" 186]) #[]
noncomputable def h14 (_ : Params) : Obj := Obj.mk (.type "frame") none Data.plain #[some (.ref 13), some (.ref 3), some (.ref 3), none, some (vs "__main__" 164), none, some (.ref 0)]
noncomputable def h15 (_ : Params) : Obj := oT []
noncomputable def h16 (_ : Params) : Obj := oF []
noncomputable def h17 (_ : Params) : Obj := oT [vs "k" 190]
noncomputable def h18 (_ : Params) : Obj := oT []
noncomputable def h19 (_ : Params) : Obj := oR "_wall" "_wall" (sT 0) (sT 0)
noncomputable def h20 (_ : Params) : Obj := oC "_wall" "_wall" true [187, 188, 189, 1, 1, 0, 0, 3, 15, 181, 16, 17, 18, 19, 191, 1, 192]
noncomputable def h21 (_ : Params) : Obj := oN "_wall" "_wall" (sT 0) (sT 0) .none "__main__" 164 20 0
noncomputable def h22 (_ : Params) : Obj := oT [.int 0 199, .int (-1) 197, .int (-1) 197, .int (-1) 197, .int 0 200]
noncomputable def h23 (_ : Params) : Obj := oT []
noncomputable def h24 (_ : Params) : Obj := oF []
noncomputable def h25 (_ : Params) : Obj := oT [vs "value" 207, vs "least" 208, vs "most" 209]
noncomputable def h26 (_ : Params) : Obj := oT []
noncomputable def h27 (_ : Params) : Obj := oR "clamp" "clamp" (sT 5) (sT 5)
noncomputable def h28 (_ : Params) : Obj := oC "clamp" "clamp" true [204, 205, 206, 8, 3, 0, 0, 3, 23, 181, 24, 25, 26, 27, 210, 8, 211]
noncomputable def h29 (_ : Params) : Obj := oN "clamp" "clamp" (sT 5) (sT 5) .none "termcore.base" 194 28 0
noncomputable def h30 (_ : Params) : Obj := oT []
noncomputable def h31 (_ : Params) : Obj := oF []
noncomputable def h32 (_ : Params) : Obj := oT [vs "pen" 216]
noncomputable def h33 (_ : Params) : Obj := oT []
noncomputable def h34 (_ : Params) : Obj := oR "erased_pen" "erased_pen" (sT 6) (sT 6)
noncomputable def h35 (_ : Params) : Obj := oC "erased_pen" "erased_pen" true [213, 214, 215, 10, 1, 0, 0, 3, 30, 181, 31, 32, 33, 34, 217, 10, 218]
noncomputable def h36 (_ : Params) : Obj := oN "erased_pen" "erased_pen" (sT 6) (sT 6) .none "termcore.base" 194 35 0
noncomputable def h37 (_ : Params) : Obj := oT []
noncomputable def h38 (_ : Params) : Obj := oF []
noncomputable def h39 (_ : Params) : Obj := oT [vs "pen" 223]
noncomputable def h40 (_ : Params) : Obj := oT []
noncomputable def h41 (_ : Params) : Obj := oR "blank_cell" "blank_cell" (sT 7) (sT 7)
noncomputable def h42 (_ : Params) : Obj := oC "blank_cell" "blank_cell" true [220, 221, 222, 12, 1, 0, 0, 3, 37, 181, 38, 39, 40, 41, 224, 12, 225]
noncomputable def h43 (_ : Params) : Obj := oN "blank_cell" "blank_cell" (sT 7) (sT 7) .none "termcore.base" 194 42 0
noncomputable def h44 (_ : Params) : Obj := oT []
noncomputable def h45 (_ : Params) : Obj := oF []
noncomputable def h46 (_ : Params) : Obj := oT [vs "cell" 230]
noncomputable def h47 (_ : Params) : Obj := oT []
noncomputable def h48 (_ : Params) : Obj := oR "is_blank" "is_blank" (sT 8) (sT 13)
noncomputable def h49 (_ : Params) : Obj := oC "is_blank" "is_blank" true [227, 228, 229, 14, 1, 0, 0, 3, 44, 181, 45, 46, 47, 48, 231, 14, 232]
noncomputable def h50 (_ : Params) : Obj := oN "is_blank" "is_blank" (sT 8) (sT 13) .none "termcore.base" 194 49 0
noncomputable def h51 (_ : Params) : Obj := oT []
noncomputable def h52 (_ : Params) : Obj := oF []
noncomputable def h53 (_ : Params) : Obj := oT [vs "cell" 237]
noncomputable def h54 (_ : Params) : Obj := oT []
noncomputable def h55 (_ : Params) : Obj := oR "is_plain_blank" "is_plain_blank" (sT 9) (sT 9)
noncomputable def h56 (_ : Params) : Obj := oC "is_plain_blank" "is_plain_blank" true [234, 235, 236, 16, 1, 0, 0, 3, 51, 181, 52, 53, 54, 55, 238, 16, 239]
noncomputable def h57 (_ : Params) : Obj := oN "is_plain_blank" "is_plain_blank" (sT 9) (sT 9) .none "termcore.base" 194 56 0
noncomputable def h58 (_ : Params) : Obj := oT [vs "single" 243, vs "wide" 244, vs "top" 245, vs "bottom" 246]
noncomputable def h59 (_ : Params) : Obj := oT []
noncomputable def h60 (_ : Params) : Obj := oF []
noncomputable def h61 (_ : Params) : Obj := oT [vs "many" 251, vs "pen" 252]
noncomputable def h62 (_ : Params) : Obj := oT []
noncomputable def h63 (_ : Params) : Obj := oR "line_blanks" "line_blanks" (sT 12) (sT 12)
noncomputable def h64 (_ : Params) : Obj := oC "line_blanks" "line_blanks" true [248, 249, 250, 20, 2, 0, 0, 3, 59, 181, 60, 61, 62, 63, 253, 20, 254]
noncomputable def h65 (_ : Params) : Obj := oN "line_blanks" "line_blanks" (sT 12) (sT 12) .none "termcore.lines" 241 64 0
noncomputable def h66 (_ : Params) : Obj := oT []
noncomputable def h67 (_ : Params) : Obj := oF []
noncomputable def h68 (_ : Params) : Obj := oT [vs "cell" 259]
noncomputable def h69 (_ : Params) : Obj := oT []
noncomputable def h70 (_ : Params) : Obj := oR "right_half" "right_half" (sT 13) (sT 13)
noncomputable def h71 (_ : Params) : Obj := oC "right_half" "right_half" true [256, 257, 258, 22, 1, 0, 0, 3, 66, 181, 67, 68, 69, 70, 260, 22, 261]
noncomputable def h72 (_ : Params) : Obj := oN "right_half" "right_half" (sT 13) (sT 13) .none "termcore.lines" 241 71 0
noncomputable def h73 (_ : Params) : Obj := oT []
noncomputable def h74 (_ : Params) : Obj := oF []
noncomputable def h75 (_ : Params) : Obj := oT [vs "cells" 266, vs "at" 267]
noncomputable def h76 (_ : Params) : Obj := oT []
noncomputable def h77 (_ : Params) : Obj := oR "line_part" "line_part" (sT 14) (sT 14)
noncomputable def h78 (_ : Params) : Obj := oC "line_part" "line_part" true [263, 264, 265, 24, 2, 0, 0, 3, 73, 181, 74, 75, 76, 77, 268, 24, 269]
noncomputable def h79 (_ : Params) : Obj := oN "line_part" "line_part" (sT 14) (sT 14) .none "termcore.lines" 241 78 0
noncomputable def h80 (_ : Params) : Obj := oT []
noncomputable def h81 (_ : Params) : Obj := oF []
noncomputable def h82 (_ : Params) : Obj := oT [vs "cells" 274, vs "left" 275, vs "right" 276, vs "found" 277]
noncomputable def h83 (_ : Params) : Obj := oT []
noncomputable def h84 (_ : Params) : Obj := oR "line_slice" "line_slice" (sT 15) (sT 15)
noncomputable def h85 (_ : Params) : Obj := oC "line_slice" "line_slice" true [271, 272, 273, 28, 3, 0, 0, 3, 80, 181, 81, 82, 83, 84, 278, 28, 279]
noncomputable def h86 (_ : Params) : Obj := oN "line_slice" "line_slice" (sT 15) (sT 15) .none "termcore.lines" 241 85 0
noncomputable def h87 (_ : Params) : Obj := oT []
noncomputable def h88 (_ : Params) : Obj := oF []
noncomputable def h89 (_ : Params) : Obj := oT [vs "cells" 284, vs "last" 285, vs "found" 286, vs "cell" 287]
noncomputable def h90 (_ : Params) : Obj := oT []
noncomputable def h91 (_ : Params) : Obj := oR "line_codes" "line_codes" (sT 16) (sT 16)
noncomputable def h92 (_ : Params) : Obj := oC "line_codes" "line_codes" true [281, 282, 283, 35, 1, 0, 0, 3, 87, 181, 88, 89, 90, 91, 288, 35, 289]
noncomputable def h93 (_ : Params) : Obj := oN "line_codes" "line_codes" (sT 16) (sT 16) .none "termcore.lines" 241 92 0
noncomputable def h94 (_ : Params) : Obj := oT []
noncomputable def h95 (_ : Params) : Obj := Obj.mk (.type "builtin_function_or_method") none (Data.fields #[.builtin "type.__prepare__", .type "type"]) #[]
noncomputable def h96 (P : Params) : Obj := Obj.mk (.type "dict") none (Data.dict #[de P "__module__" 298 (vs "termcore.lines" 241), de P "__qualname__" 300 (vs "Line" 299), de P "__firstlineno__" 302 (.int 44 301), de P "__init__" 311 (.ref 107), de P "columns" 319 (.ref 115), de P "shown" 326 (.ref 122), de P "part" 334 (.ref 129), de P "put" 343 (.ref 136), de P "put_cells" 353 (.ref 143), de P "erase" 366 (.ref 151), de P "shift" 383 (.ref 158), de P "insert" 394 (.ref 165), de P "delete" 405 (.ref 172), de P "fill" 416 (.ref 179), de P "copy" 424 (.ref 186), de P "codes" 434 (.ref 194), de P "used" 442 (.ref 201), de P "resized" 452 (.ref 208), de P "equals" 460 (.ref 215), de P "__static_attributes__" 464 (.ref 216)] 20) #[]
noncomputable def h97 (_ : Params) : Obj := oT []
noncomputable def h98 (_ : Params) : Obj := oF [.int 46 0, .int 4 0, .ref 106, .int 52 0, .int 4 0, .ref 113, .int 55 0, .int 4 0, .ref 121, .int 58 0, .int 4 0, .ref 128, .int 61 0, .int 4 0, .ref 135, .int 72 0, .int 4 0, .ref 142, .int 80 0, .int 4 0, .ref 150, .int 93 0, .int 4 0, .ref 157, .int 104 0, .int 4 0, .ref 164, .int 107 0, .int 4 0, .ref 171, .int 110 0, .int 4 0, .ref 178, .int 114 0, .int 4 0, .ref 185, .int 121 0, .int 4 0, .ref 193, .int 124 0, .int 4 0, .ref 200, .int 130 0, .int 4 0, .ref 207, .int 138 0, .int 4 0, .ref 214]
noncomputable def h99 (_ : Params) : Obj := Obj.mk (.type "code") none (Data.fields #[vs "Line" 293, vs "Line" 294, vs "/claim/cut.py" 295, .int 44 0, .int 0 0, .int 0 0, .int 0 0, .int 0 0, .ref 97, .bool false, .int 181 0, .ref 98, .none, .none, .none, .none, .int 296 0, .int 44 0, vs "/claim/cut.py" 297]) #[]
noncomputable def h100 (_ : Params) : Obj := Obj.mk (.type "frame") none Data.plain #[some (.ref 99), some (.ref 3), some (.ref 96), none, some (vs "termcore.lines" 241), none, some (.ref 0)]
noncomputable def h101 (_ : Params) : Obj := oT []
noncomputable def h102 (_ : Params) : Obj := oF []
noncomputable def h103 (_ : Params) : Obj := oT [vs "self" 306, vs "columns" 307, vs "pen" 308]
noncomputable def h104 (_ : Params) : Obj := oT []
noncomputable def h105 (_ : Params) : Obj := oR "__init__" "Line.__init__" (mE 0) (mE 0)
noncomputable def h106 (_ : Params) : Obj := oC "__init__" "Line.__init__" true [303, 304, 305, 46, 3, 0, 0, 3, 101, 181, 102, 103, 104, 105, 309, 46, 310]
noncomputable def h107 (_ : Params) : Obj := oN "__init__" "Line.__init__" (mE 0) (mE 0) .none "termcore.lines" 241 106 0
noncomputable def h108 (_ : Params) : Obj := oT []
noncomputable def h109 (_ : Params) : Obj := oF []
noncomputable def h110 (_ : Params) : Obj := oT [vs "self" 315]
noncomputable def h111 (_ : Params) : Obj := oT []
noncomputable def h112 (_ : Params) : Obj := oR "columns" "Line.columns" (mE 1) (mE 1)
noncomputable def h113 (_ : Params) : Obj := oC "columns" "Line.columns" true [312, 313, 314, 51, 1, 0, 0, 3, 108, 181, 109, 110, 111, 112, 316, 51, 317]
noncomputable def h114 (_ : Params) : Obj := oN "columns" "Line.columns" (mE 1) (mE 1) .none "termcore.lines" 241 113 0
noncomputable def h115 (_ : Params) : Obj := Obj.mk (.type "property") none (Data.fields #[.ref 114, .none, .none, .none, vs "columns" 319, .bool false]) #[]
noncomputable def h116 (_ : Params) : Obj := oT []
noncomputable def h117 (_ : Params) : Obj := oF []
noncomputable def h118 (_ : Params) : Obj := oT [vs "self" 323]
noncomputable def h119 (_ : Params) : Obj := oT []
noncomputable def h120 (_ : Params) : Obj := oR "shown" "Line.shown" (mE 2) (mE 2)
noncomputable def h121 (_ : Params) : Obj := oC "shown" "Line.shown" true [320, 321, 322, 55, 1, 0, 0, 3, 116, 181, 117, 118, 119, 120, 324, 55, 325]
noncomputable def h122 (_ : Params) : Obj := oN "shown" "Line.shown" (mE 2) (mE 2) .none "termcore.lines" 241 121 0
noncomputable def h123 (_ : Params) : Obj := oT []
noncomputable def h124 (_ : Params) : Obj := oF []
noncomputable def h125 (_ : Params) : Obj := oT [vs "self" 330, vs "at" 331]
noncomputable def h126 (_ : Params) : Obj := oT []
noncomputable def h127 (_ : Params) : Obj := oR "part" "Line.part" (mE 3) (mE 3)
noncomputable def h128 (_ : Params) : Obj := oC "part" "Line.part" true [327, 328, 329, 58, 2, 0, 0, 3, 123, 181, 124, 125, 126, 127, 332, 58, 333]
noncomputable def h129 (_ : Params) : Obj := oN "part" "Line.part" (mE 3) (mE 3) .none "termcore.lines" 241 128 0
noncomputable def h130 (_ : Params) : Obj := oT []
noncomputable def h131 (_ : Params) : Obj := oF []
noncomputable def h132 (_ : Params) : Obj := oT [vs "self" 338, vs "column" 339, vs "cell" 340]
noncomputable def h133 (_ : Params) : Obj := oT []
noncomputable def h134 (_ : Params) : Obj := oR "put" "Line.put" (mE 4) (mE 4)
noncomputable def h135 (_ : Params) : Obj := oC "put" "Line.put" true [335, 336, 337, 61, 3, 0, 0, 3, 130, 181, 131, 132, 133, 134, 341, 61, 342]
noncomputable def h136 (_ : Params) : Obj := oN "put" "Line.put" (mE 4) (mE 4) .none "termcore.lines" 241 135 0
noncomputable def h137 (_ : Params) : Obj := oT []
noncomputable def h138 (_ : Params) : Obj := oF []
noncomputable def h139 (_ : Params) : Obj := oT [vs "self" 347, vs "column" 348, vs "cells" 349, vs "some" 350]
noncomputable def h140 (_ : Params) : Obj := oT []
noncomputable def h141 (_ : Params) : Obj := oR "put_cells" "Line.put_cells" (mE 5) (mE 5)
noncomputable def h142 (_ : Params) : Obj := oC "put_cells" "Line.put_cells" true [344, 345, 346, 72, 3, 0, 0, 3, 137, 181, 138, 139, 140, 141, 351, 72, 352]
noncomputable def h143 (_ : Params) : Obj := oN "put_cells" "Line.put_cells" (mE 5) (mE 5) .none "termcore.lines" 241 142 0
noncomputable def h144 (_ : Params) : Obj := oT [.bool false]
noncomputable def h145 (_ : Params) : Obj := oT []
noncomputable def h146 (_ : Params) : Obj := oF []
noncomputable def h147 (_ : Params) : Obj := oT [vs "self" 357, vs "left" 358, vs "right" 359, vs "pen" 360, vs "is_selective" 361, vs "border" 362, vs "column" 363]
noncomputable def h148 (_ : Params) : Obj := oT []
noncomputable def h149 (_ : Params) : Obj := oR "erase" "Line.erase" (mE 6) (mE 6)
noncomputable def h150 (_ : Params) : Obj := oC "erase" "Line.erase" true [354, 355, 356, 80, 5, 0, 0, 3, 145, 181, 146, 147, 148, 149, 364, 80, 365]
noncomputable def h151 (_ : Params) : Obj := oN "erase" "Line.erase" (mE 6) (mE 6) (.ref 144) "termcore.lines" 241 150 0
noncomputable def h152 (_ : Params) : Obj := oT []
noncomputable def h153 (_ : Params) : Obj := oF []
noncomputable def h154 (_ : Params) : Obj := oT [vs "self" 370, vs "column" 371, vs "many" 372, vs "right" 373, vs "pen" 374, vs "is_back" 375, vs "first" 376, vs "last" 377, vs "border" 378, vs "kept" 379, vs "blanks" 380]
noncomputable def h155 (_ : Params) : Obj := oT []
noncomputable def h156 (_ : Params) : Obj := oR "shift" "Line.shift" (mE 7) (mE 7)
noncomputable def h157 (_ : Params) : Obj := oC "shift" "Line.shift" true [367, 368, 369, 93, 6, 0, 0, 3, 152, 181, 153, 154, 155, 156, 381, 93, 382]
noncomputable def h158 (_ : Params) : Obj := oN "shift" "Line.shift" (mE 7) (mE 7) .none "termcore.lines" 241 157 0
noncomputable def h159 (_ : Params) : Obj := oT []
noncomputable def h160 (_ : Params) : Obj := oF []
noncomputable def h161 (_ : Params) : Obj := oT [vs "self" 387, vs "column" 388, vs "many" 389, vs "right" 390, vs "pen" 391]
noncomputable def h162 (_ : Params) : Obj := oT []
noncomputable def h163 (_ : Params) : Obj := oR "insert" "Line.insert" (mE 8) (mE 9)
noncomputable def h164 (_ : Params) : Obj := oC "insert" "Line.insert" true [384, 385, 386, 104, 5, 0, 0, 3, 159, 181, 160, 161, 162, 163, 392, 104, 393]
noncomputable def h165 (_ : Params) : Obj := oN "insert" "Line.insert" (mE 8) (mE 9) .none "termcore.lines" 241 164 0
noncomputable def h166 (_ : Params) : Obj := oT []
noncomputable def h167 (_ : Params) : Obj := oF []
noncomputable def h168 (_ : Params) : Obj := oT [vs "self" 398, vs "column" 399, vs "many" 400, vs "right" 401, vs "pen" 402]
noncomputable def h169 (_ : Params) : Obj := oT []
noncomputable def h170 (_ : Params) : Obj := oR "delete" "Line.delete" (mE 9) (mE 9)
noncomputable def h171 (_ : Params) : Obj := oC "delete" "Line.delete" true [395, 396, 397, 107, 5, 0, 0, 3, 166, 181, 167, 168, 169, 170, 403, 107, 404]
noncomputable def h172 (_ : Params) : Obj := oN "delete" "Line.delete" (mE 9) (mE 9) .none "termcore.lines" 241 171 0
noncomputable def h173 (_ : Params) : Obj := oT []
noncomputable def h174 (_ : Params) : Obj := oF []
noncomputable def h175 (_ : Params) : Obj := oT [vs "self" 409, vs "left" 410, vs "right" 411, vs "cell" 412, vs "column" 413]
noncomputable def h176 (_ : Params) : Obj := oT []
noncomputable def h177 (_ : Params) : Obj := oR "fill" "Line.fill" (mE 10) (mE 10)
noncomputable def h178 (_ : Params) : Obj := oC "fill" "Line.fill" true [406, 407, 408, 110, 4, 0, 0, 3, 173, 181, 174, 175, 176, 177, 414, 110, 415]
noncomputable def h179 (_ : Params) : Obj := oN "fill" "Line.fill" (mE 10) (mE 10) .none "termcore.lines" 241 178 0
noncomputable def h180 (_ : Params) : Obj := oT []
noncomputable def h181 (_ : Params) : Obj := oF []
noncomputable def h182 (_ : Params) : Obj := oT [vs "self" 420, vs "found" 421]
noncomputable def h183 (_ : Params) : Obj := oT []
noncomputable def h184 (_ : Params) : Obj := oR "copy" "Line.copy" (mE 11) (mE 11)
noncomputable def h185 (_ : Params) : Obj := oC "copy" "Line.copy" true [417, 418, 419, 114, 1, 0, 0, 3, 180, 181, 181, 182, 183, 184, 422, 114, 423]
noncomputable def h186 (_ : Params) : Obj := oN "copy" "Line.copy" (mE 11) (mE 11) .none "termcore.lines" 241 185 0
noncomputable def h187 (_ : Params) : Obj := oT [.int 0 425, .none]
noncomputable def h188 (_ : Params) : Obj := oT []
noncomputable def h189 (_ : Params) : Obj := oF []
noncomputable def h190 (_ : Params) : Obj := oT [vs "self" 429, vs "left" 430, vs "right" 431]
noncomputable def h191 (_ : Params) : Obj := oT []
noncomputable def h192 (_ : Params) : Obj := oR "codes" "Line.codes" (mE 12) (mE 12)
noncomputable def h193 (_ : Params) : Obj := oC "codes" "Line.codes" true [426, 427, 428, 121, 3, 0, 0, 3, 188, 181, 189, 190, 191, 192, 432, 121, 433]
noncomputable def h194 (_ : Params) : Obj := oN "codes" "Line.codes" (mE 12) (mE 12) (.ref 187) "termcore.lines" 241 193 0
noncomputable def h195 (_ : Params) : Obj := oT []
noncomputable def h196 (_ : Params) : Obj := oF []
noncomputable def h197 (_ : Params) : Obj := oT [vs "self" 438, vs "last" 439]
noncomputable def h198 (_ : Params) : Obj := oT []
noncomputable def h199 (_ : Params) : Obj := oR "used" "Line.used" (mE 13) (mE 13)
noncomputable def h200 (_ : Params) : Obj := oC "used" "Line.used" true [435, 436, 437, 124, 1, 0, 0, 3, 195, 181, 196, 197, 198, 199, 440, 124, 441]
noncomputable def h201 (_ : Params) : Obj := oN "used" "Line.used" (mE 13) (mE 13) .none "termcore.lines" 241 200 0
noncomputable def h202 (_ : Params) : Obj := oT []
noncomputable def h203 (_ : Params) : Obj := oF []
noncomputable def h204 (_ : Params) : Obj := oT [vs "self" 446, vs "columns" 447, vs "pen" 448, vs "found" 449]
noncomputable def h205 (_ : Params) : Obj := oT []
noncomputable def h206 (_ : Params) : Obj := oR "resized" "Line.resized" (mE 14) (mE 14)
noncomputable def h207 (_ : Params) : Obj := oC "resized" "Line.resized" true [443, 444, 445, 130, 3, 0, 0, 3, 202, 181, 203, 204, 205, 206, 450, 130, 451]
noncomputable def h208 (_ : Params) : Obj := oN "resized" "Line.resized" (mE 14) (mE 14) .none "termcore.lines" 241 207 0
noncomputable def h209 (_ : Params) : Obj := oT []
noncomputable def h210 (_ : Params) : Obj := oF []
noncomputable def h211 (_ : Params) : Obj := oT [vs "self" 456, vs "other" 457]
noncomputable def h212 (_ : Params) : Obj := oT []
noncomputable def h213 (_ : Params) : Obj := oR "equals" "Line.equals" (mE 15) (mE 15)
noncomputable def h214 (_ : Params) : Obj := oC "equals" "Line.equals" true [453, 454, 455, 138, 2, 0, 0, 3, 209, 181, 210, 211, 212, 213, 458, 138, 459]
noncomputable def h215 (_ : Params) : Obj := oN "equals" "Line.equals" (mE 15) (mE 15) .none "termcore.lines" 241 214 0
noncomputable def h216 (_ : Params) : Obj := oT [vs "cells" 461, vs "is_wrapped" 462, vs "size" 463]
noncomputable def h217 (P : Params) : Obj := Obj.mk (.type "dict") none (Data.dict #[de P "__module__" 298 (vs "termcore.lines" 241), de P "__firstlineno__" 302 (.int 44 301), de P "__init__" 311 (.ref 107), de P "columns" 319 (.ref 115), de P "shown" 326 (.ref 122), de P "part" 334 (.ref 129), de P "put" 343 (.ref 136), de P "put_cells" 353 (.ref 143), de P "erase" 366 (.ref 151), de P "shift" 383 (.ref 158), de P "insert" 394 (.ref 165), de P "delete" 405 (.ref 172), de P "fill" 416 (.ref 179), de P "copy" 424 (.ref 186), de P "codes" 434 (.ref 194), de P "used" 442 (.ref 201), de P "resized" 452 (.ref 208), de P "equals" 460 (.ref 215), de P "__static_attributes__" 464 (.ref 216), de P "__dict__" 466 (.ref 219), de P "__weakref__" 468 (.ref 220), de P "__doc__" 469 .none] 4) #[]
noncomputable def h218 (_ : Params) : Obj := Obj.mk (.type "type") none (Data.cls (ClassData.mk (Str.ofString "Line") [.type "object"] [.ref 218, .type "object"] 217 (Str.ofString "Line") true [] [] false none false)) #[none, none, some (vs "Line" 291), some (vs "Line" 299), some (.builtin "object.__new__"), some (.bool true)]
noncomputable def h219 (_ : Params) : Obj := Obj.mk (.type "getset_descriptor") none (Data.fields #[vs "__dict__" 465, .ref 218, .builtin "function.__dict__", .builtin "function.__dict__#set"]) #[]
noncomputable def h220 (_ : Params) : Obj := Obj.mk (.type "getset_descriptor") none (Data.fields #[vs "__weakref__" 467, .ref 218, .builtin "ExceptionGroup.__weakref__", .none]) #[]
noncomputable def h221 (_ : Params) : Obj := Obj.mk (.type "super") none (Data.fields #[.ref 218, .ref 218, .ref 218]) #[]
noncomputable def h222 (_ : Params) : Obj := Obj.mk (.type "builtin_function_or_method") none (Data.fields #[.builtin "object.__init_subclass__", .ref 218]) #[]
noncomputable def h223 (_ : Params) : Obj := oT [.int 0 474, .int (-1) 476, .int (-1) 478, .int (-1) 480, .int 0 481]
noncomputable def h224 (_ : Params) : Obj := oT [.int 1 482, .int 2 483, .int 4 484, .int (-1) 486, .int 0 487]
noncomputable def h225 (_ : Params) : Obj := oT [.ref 223, .ref 224]
noncomputable def h226 (_ : Params) : Obj := oT []
noncomputable def h227 (_ : Params) : Obj := oF []
noncomputable def h228 (_ : Params) : Obj := oR "_law_deck" "_law_deck" (sT 20) (sT 20)
noncomputable def h229 (_ : Params) : Obj := Obj.mk (.type "code") none (Data.fields #[vs "_law_deck" 489, vs "_law_deck" 490, vs "/claim/cut.py" 491, .int 142 0, .int 1 0, .int 0 0, .int 0 0, .int 3 0, .ref 226, .bool true, .int 181 0, .ref 227, .none, .none, .none, .ref 228, .int 492 0, .int 142 0, vs "/claim/cut.py" 493]) #[]
noncomputable def h230 (_ : Params) : Obj := oN "_law_deck" "_law_deck" (sT 20) (sT 20) .none "law_og0243_01" 472 229 0
noncomputable def h231 (_ : Params) : Obj := oT []
noncomputable def h232 (_ : Params) : Obj := oF []
noncomputable def h233 (_ : Params) : Obj := oT [vs "deck" 498, vs "many" 499]
noncomputable def h234 (_ : Params) : Obj := oT []
noncomputable def h235 (_ : Params) : Obj := oR "_law_draw" "_law_draw" (sT 21) (sT 21)
noncomputable def h236 (_ : Params) : Obj := oC "_law_draw" "_law_draw" true [495, 496, 497, 147, 2, 0, 0, 3, 231, 181, 232, 233, 234, 235, 500, 147, 501]
noncomputable def h237 (_ : Params) : Obj := oN "_law_draw" "_law_draw" (sT 21) (sT 21) .none "law_og0243_01" 472 236 0
noncomputable def h238 (_ : Params) : Obj := oT []
noncomputable def h239 (_ : Params) : Obj := oF []
noncomputable def h240 (_ : Params) : Obj := oT [vs "pen" 506]
noncomputable def h241 (_ : Params) : Obj := oT []
noncomputable def h242 (_ : Params) : Obj := oR "_law_blank" "_law_blank" (sT 22) (sT 22)
noncomputable def h243 (_ : Params) : Obj := oC "_law_blank" "_law_blank" true [503, 504, 505, 152, 1, 0, 0, 3, 238, 181, 239, 240, 241, 242, 507, 152, 508]
noncomputable def h244 (_ : Params) : Obj := oN "_law_blank" "_law_blank" (sT 22) (sT 22) .none "law_og0243_01" 472 243 0
noncomputable def h245 (_ : Params) : Obj := oT []
noncomputable def h246 (_ : Params) : Obj := oF []
noncomputable def h247 (_ : Params) : Obj := oT [vs "deck" 513, vs "w" 514, vs "pen" 515, vs "width" 516, vs "cell" 517]
noncomputable def h248 (_ : Params) : Obj := oT []
noncomputable def h249 (_ : Params) : Obj := oR "_law_sign" "_law_sign" (sT 23) (sT 23)
noncomputable def h250 (_ : Params) : Obj := oC "_law_sign" "_law_sign" true [510, 511, 512, 154, 2, 0, 0, 3, 245, 181, 246, 247, 248, 249, 518, 154, 519]
noncomputable def h251 (_ : Params) : Obj := oN "_law_sign" "_law_sign" (sT 23) (sT 23) .none "law_og0243_01" 472 250 0
noncomputable def h252 (_ : Params) : Obj := oT []
noncomputable def h253 (_ : Params) : Obj := oF []
noncomputable def h254 (_ : Params) : Obj := oT [vs "cells" 524, vs "found" 525, vs "at" 526, vs "cell" 527, vs "near" 528, vs "far" 529, vs "is_left" 530, vs "is_right" 531]
noncomputable def h255 (_ : Params) : Obj := oT []
noncomputable def h256 (_ : Params) : Obj := oR "_law_mended" "_law_mended" (sT 24) (sT 24)
noncomputable def h257 (_ : Params) : Obj := oC "_law_mended" "_law_mended" true [521, 522, 523, 159, 1, 0, 0, 3, 252, 181, 253, 254, 255, 256, 532, 159, 533]
noncomputable def h258 (_ : Params) : Obj := oN "_law_mended" "_law_mended" (sT 24) (sT 24) .none "law_og0243_01" 472 257 0
noncomputable def h259 (_ : Params) : Obj := oT []
noncomputable def h260 (_ : Params) : Obj := oF []
noncomputable def h261 (_ : Params) : Obj := oT [vs "cells" 538, vs "column" 539, vs "some" 540, vs "found" 541, vs "k" 542, vs "cell" 543]
noncomputable def h262 (_ : Params) : Obj := oT []
noncomputable def h263 (_ : Params) : Obj := oR "_law_laid" "_law_laid" (sT 25) (sT 25)
noncomputable def h264 (_ : Params) : Obj := oC "_law_laid" "_law_laid" true [535, 536, 537, 167, 3, 0, 0, 3, 259, 181, 260, 261, 262, 263, 544, 167, 545]
noncomputable def h265 (_ : Params) : Obj := oN "_law_laid" "_law_laid" (sT 25) (sT 25) .none "law_og0243_01" 472 264 0
noncomputable def h266 (_ : Params) : Obj := oT []
noncomputable def h267 (_ : Params) : Obj := oF []
noncomputable def h268 (_ : Params) : Obj := oT [vs "cells" 550, vs "left" 551, vs "right" 552, vs "pen" 553, vs "is_selective" 554, vs "found" 555, vs "at" 556, vs "cell" 557, vs "stays" 558]
noncomputable def h269 (_ : Params) : Obj := oT []
noncomputable def h270 (_ : Params) : Obj := oR "_law_erased" "_law_erased" (sT 26) (sT 26)
noncomputable def h271 (_ : Params) : Obj := oC "_law_erased" "_law_erased" true [547, 548, 549, 173, 5, 0, 0, 3, 266, 181, 267, 268, 269, 270, 559, 173, 560]
noncomputable def h272 (_ : Params) : Obj := oN "_law_erased" "_law_erased" (sT 26) (sT 26) .none "law_og0243_01" 472 271 0
noncomputable def h273 (_ : Params) : Obj := oT []
noncomputable def h274 (_ : Params) : Obj := oF []
noncomputable def h275 (_ : Params) : Obj := oR "_law_deed" "_law_deed" (sT 27) (sT 27)
noncomputable def h276 (_ : Params) : Obj := Obj.mk (.type "code") none (Data.fields #[vs "_law_deed" 562, vs "_law_deed" 563, vs "/claim/cut.py" 564, .int 179 0, .int 4 0, .int 0 0, .int 0 0, .int 3 0, .ref 273, .bool true, .int 181 0, .ref 274, .none, .none, .none, .ref 275, .int 565 0, .int 179 0, vs "/claim/cut.py" 566]) #[]
noncomputable def h277 (_ : Params) : Obj := oN "_law_deed" "_law_deed" (sT 27) (sT 27) .none "law_og0243_01" 472 276 0
noncomputable def h278 (_ : Params) : Obj := oT []
noncomputable def h279 (_ : Params) : Obj := oF []
noncomputable def h280 (_ : Params) : Obj := oR "_law_is_so" "_law_is_so" (sT 28) (sT 28)
noncomputable def h281 (_ : Params) : Obj := Obj.mk (.type "code") none (Data.fields #[vs "_law_is_so" 568, vs "_law_is_so" 569, vs "/claim/cut.py" 570, .int 207 0, .int 2 0, .int 0 0, .int 0 0, .int 3 0, .ref 278, .bool true, .int 181 0, .ref 279, .none, .none, .none, .ref 280, .int 571 0, .int 207 0, vs "/claim/cut.py" 572]) #[]
noncomputable def h282 (_ : Params) : Obj := oN "_law_is_so" "_law_is_so" (sT 28) (sT 28) .none "law_og0243_01" 472 281 0
noncomputable def h283 (_ : Params) : Obj := oT []
noncomputable def h284 (_ : Params) : Obj := oF []
noncomputable def h285 (_ : Params) : Obj := oT [vs "cells" 577, vs "found" 578, vs "cell" 579]
noncomputable def h286 (_ : Params) : Obj := oT []
noncomputable def h287 (_ : Params) : Obj := oR "_law_codes" "_law_codes" (sT 29) (sT 29)
noncomputable def h288 (_ : Params) : Obj := oC "_law_codes" "_law_codes" true [574, 575, 576, 212, 1, 0, 0, 3, 283, 181, 284, 285, 286, 287, 580, 212, 581]
noncomputable def h289 (_ : Params) : Obj := oN "_law_codes" "_law_codes" (sT 29) (sT 29) .none "law_og0243_01" 472 288 0
noncomputable def h290 (_ : Params) : Obj := oT []
noncomputable def h291 (_ : Params) : Obj := oF []
noncomputable def h292 (_ : Params) : Obj := oR "law" "law" (sT 30) (sT 30)
noncomputable def h293 (_ : Params) : Obj := Obj.mk (.type "code") none (Data.fields #[vs "law" 583, vs "law" 584, vs "/claim/cut.py" 585, .int 219 0, .int 1 0, .int 0 0, .int 0 0, .int 3 0, .ref 290, .bool true, .int 181 0, .ref 291, .none, .none, .none, .ref 292, .int 586 0, .int 219 0, vs "/claim/cut.py" 587]) #[]
noncomputable def h294 (_ : Params) : Obj := oN "law" "law" (sT 30) (sT 30) .none "law_og0243_01" 472 293 0
noncomputable def H46 (P : Params) : Heap := .mk (.mk [boot_o_0 P, boot_o_1 P, boot_o_2 P, boot_o_3 P, boot_o_4 P, boot_o_5 P, boot_o_6 P, boot_o_7 P, boot_o_8 P, boot_o_9 P, boot_o_10 P, h11 P, g44 P, h13 P, h14 P]) lf
noncomputable def T47 (P : Params) : BT := .node (boot_o_0 P) (.node (boot_o_1 P) (.node (boot_o_3 P) (.node (boot_o_7 P) .nil .nil) (.node (h11 P) .nil .nil)) (.node (boot_o_5 P) (.node (boot_o_9 P) .nil .nil) (.node (h13 P) .nil .nil))) (.node (boot_o_2 P) (.node (boot_o_4 P) (.node (boot_o_8 P) .nil .nil) (.node (g44 P) .nil .nil)) (.node (boot_o_6 P) (.node (boot_o_10 P) .nil .nil) (.node (h14 P) .nil .nil)))
noncomputable def HF (P : Params) : Heap := .mk (.mk [boot_o_0 P, boot_o_1 P, boot_o_2 P, h3 P, boot_o_4 P, boot_o_5 P, boot_o_6 P, boot_o_7 P, boot_o_8 P, boot_o_9 P, boot_o_10 P, h11 P, h12 P, h13 P, h14 P, h15 P, h16 P, h17 P, h18 P, h19 P, h20 P, h21 P, h22 P, h23 P, h24 P, h25 P, h26 P, h27 P, h28 P, h29 P, h30 P, h31 P, h32 P, h33 P, h34 P, h35 P, h36 P, h37 P, h38 P, h39 P, h40 P, h41 P, h42 P, h43 P, h44 P, h45 P, h46 P, h47 P, h48 P, h49 P, h50 P, h51 P, h52 P, h53 P, h54 P, h55 P, h56 P, h57 P, h58 P, h59 P, h60 P, h61 P, h62 P, h63 P, h64 P, h65 P, h66 P, h67 P, h68 P, h69 P, h70 P, h71 P, h72 P, h73 P, h74 P, h75 P, h76 P, h77 P, h78 P, h79 P, h80 P, h81 P, h82 P, h83 P, h84 P, h85 P, h86 P, h87 P, h88 P, h89 P, h90 P, h91 P, h92 P, h93 P, h94 P, h95 P, h96 P, h97 P, h98 P, h99 P, h100 P, h101 P, h102 P, h103 P, h104 P, h105 P, h106 P, h107 P, h108 P, h109 P, h110 P, h111 P, h112 P, h113 P, h114 P, h115 P, h116 P, h117 P, h118 P, h119 P, h120 P, h121 P, h122 P, h123 P, h124 P, h125 P, h126 P, h127 P, h128 P, h129 P, h130 P, h131 P, h132 P, h133 P, h134 P, h135 P, h136 P, h137 P, h138 P, h139 P, h140 P, h141 P, h142 P, h143 P, h144 P, h145 P, h146 P, h147 P, h148 P, h149 P, h150 P, h151 P, h152 P, h153 P, h154 P, h155 P, h156 P, h157 P, h158 P, h159 P, h160 P, h161 P, h162 P, h163 P, h164 P, h165 P, h166 P, h167 P, h168 P, h169 P, h170 P, h171 P, h172 P, h173 P, h174 P, h175 P, h176 P, h177 P, h178 P, h179 P, h180 P, h181 P, h182 P, h183 P, h184 P, h185 P, h186 P, h187 P, h188 P, h189 P, h190 P, h191 P, h192 P, h193 P, h194 P, h195 P, h196 P, h197 P, h198 P, h199 P, h200 P, h201 P, h202 P, h203 P, h204 P, h205 P, h206 P, h207 P, h208 P, h209 P, h210 P, h211 P, h212 P, h213 P, h214 P, h215 P, h216 P, h217 P, h218 P, h219 P, h220 P, h221 P, h222 P, h223 P, h224 P, h225 P, h226 P, h227 P, h228 P, h229 P, h230 P, h231 P, h232 P, h233 P, h234 P, h235 P, h236 P, h237 P, h238 P, h239 P, h240 P, h241 P, h242 P, h243 P, h244 P, h245 P, h246 P, h247 P, h248 P, h249 P, h250 P, h251 P, h252 P, h253 P, h254 P, h255 P, h256 P, h257 P, h258 P, h259 P, h260 P, h261 P, h262 P, h263 P, h264 P, h265 P, h266 P, h267 P, h268 P, h269 P, h270 P, h271 P, h272 P, h273 P, h274 P, h275 P, h276 P, h277 P, h278 P, h279 P, h280 P, h281 P, h282 P, h283 P, h284 P, h285 P, h286 P, h287 P, h288 P, h289 P, h290 P, h291 P, h292 P, h293 P, h294 P]) lf
noncomputable def TF (P : Params) : BT := .node (boot_o_0 P) (.node (boot_o_1 P) (.node (h3 P) (.node (boot_o_7 P) (.node (h15 P) (.node (h31 P) (.node (h63 P) (.node (h127 P) (.node (h255 P) .nil .nil) .nil) (.node (h191 P) .nil .nil)) (.node (h95 P) (.node (h159 P) (.node (h287 P) .nil .nil) .nil) (.node (h223 P) .nil .nil))) (.node (h47 P) (.node (h79 P) (.node (h143 P) (.node (h271 P) .nil .nil) .nil) (.node (h207 P) .nil .nil)) (.node (h111 P) (.node (h175 P) .nil .nil) (.node (h239 P) .nil .nil)))) (.node (h23 P) (.node (h39 P) (.node (h71 P) (.node (h135 P) (.node (h263 P) .nil .nil) .nil) (.node (h199 P) .nil .nil)) (.node (h103 P) (.node (h167 P) .nil .nil) (.node (h231 P) .nil .nil))) (.node (h55 P) (.node (h87 P) (.node (h151 P) (.node (h279 P) .nil .nil) .nil) (.node (h215 P) .nil .nil)) (.node (h119 P) (.node (h183 P) .nil .nil) (.node (h247 P) .nil .nil))))) (.node (h11 P) (.node (h19 P) (.node (h35 P) (.node (h67 P) (.node (h131 P) (.node (h259 P) .nil .nil) .nil) (.node (h195 P) .nil .nil)) (.node (h99 P) (.node (h163 P) (.node (h291 P) .nil .nil) .nil) (.node (h227 P) .nil .nil))) (.node (h51 P) (.node (h83 P) (.node (h147 P) (.node (h275 P) .nil .nil) .nil) (.node (h211 P) .nil .nil)) (.node (h115 P) (.node (h179 P) .nil .nil) (.node (h243 P) .nil .nil)))) (.node (h27 P) (.node (h43 P) (.node (h75 P) (.node (h139 P) (.node (h267 P) .nil .nil) .nil) (.node (h203 P) .nil .nil)) (.node (h107 P) (.node (h171 P) .nil .nil) (.node (h235 P) .nil .nil))) (.node (h59 P) (.node (h91 P) (.node (h155 P) (.node (h283 P) .nil .nil) .nil) (.node (h219 P) .nil .nil)) (.node (h123 P) (.node (h187 P) .nil .nil) (.node (h251 P) .nil .nil)))))) (.node (boot_o_5 P) (.node (boot_o_9 P) (.node (h17 P) (.node (h33 P) (.node (h65 P) (.node (h129 P) (.node (h257 P) .nil .nil) .nil) (.node (h193 P) .nil .nil)) (.node (h97 P) (.node (h161 P) (.node (h289 P) .nil .nil) .nil) (.node (h225 P) .nil .nil))) (.node (h49 P) (.node (h81 P) (.node (h145 P) (.node (h273 P) .nil .nil) .nil) (.node (h209 P) .nil .nil)) (.node (h113 P) (.node (h177 P) .nil .nil) (.node (h241 P) .nil .nil)))) (.node (h25 P) (.node (h41 P) (.node (h73 P) (.node (h137 P) (.node (h265 P) .nil .nil) .nil) (.node (h201 P) .nil .nil)) (.node (h105 P) (.node (h169 P) .nil .nil) (.node (h233 P) .nil .nil))) (.node (h57 P) (.node (h89 P) (.node (h153 P) (.node (h281 P) .nil .nil) .nil) (.node (h217 P) .nil .nil)) (.node (h121 P) (.node (h185 P) .nil .nil) (.node (h249 P) .nil .nil))))) (.node (h13 P) (.node (h21 P) (.node (h37 P) (.node (h69 P) (.node (h133 P) (.node (h261 P) .nil .nil) .nil) (.node (h197 P) .nil .nil)) (.node (h101 P) (.node (h165 P) (.node (h293 P) .nil .nil) .nil) (.node (h229 P) .nil .nil))) (.node (h53 P) (.node (h85 P) (.node (h149 P) (.node (h277 P) .nil .nil) .nil) (.node (h213 P) .nil .nil)) (.node (h117 P) (.node (h181 P) .nil .nil) (.node (h245 P) .nil .nil)))) (.node (h29 P) (.node (h45 P) (.node (h77 P) (.node (h141 P) (.node (h269 P) .nil .nil) .nil) (.node (h205 P) .nil .nil)) (.node (h109 P) (.node (h173 P) .nil .nil) (.node (h237 P) .nil .nil))) (.node (h61 P) (.node (h93 P) (.node (h157 P) (.node (h285 P) .nil .nil) .nil) (.node (h221 P) .nil .nil)) (.node (h125 P) (.node (h189 P) .nil .nil) (.node (h253 P) .nil .nil))))))) (.node (boot_o_2 P) (.node (boot_o_4 P) (.node (boot_o_8 P) (.node (h16 P) (.node (h32 P) (.node (h64 P) (.node (h128 P) (.node (h256 P) .nil .nil) .nil) (.node (h192 P) .nil .nil)) (.node (h96 P) (.node (h160 P) (.node (h288 P) .nil .nil) .nil) (.node (h224 P) .nil .nil))) (.node (h48 P) (.node (h80 P) (.node (h144 P) (.node (h272 P) .nil .nil) .nil) (.node (h208 P) .nil .nil)) (.node (h112 P) (.node (h176 P) .nil .nil) (.node (h240 P) .nil .nil)))) (.node (h24 P) (.node (h40 P) (.node (h72 P) (.node (h136 P) (.node (h264 P) .nil .nil) .nil) (.node (h200 P) .nil .nil)) (.node (h104 P) (.node (h168 P) .nil .nil) (.node (h232 P) .nil .nil))) (.node (h56 P) (.node (h88 P) (.node (h152 P) (.node (h280 P) .nil .nil) .nil) (.node (h216 P) .nil .nil)) (.node (h120 P) (.node (h184 P) .nil .nil) (.node (h248 P) .nil .nil))))) (.node (h12 P) (.node (h20 P) (.node (h36 P) (.node (h68 P) (.node (h132 P) (.node (h260 P) .nil .nil) .nil) (.node (h196 P) .nil .nil)) (.node (h100 P) (.node (h164 P) (.node (h292 P) .nil .nil) .nil) (.node (h228 P) .nil .nil))) (.node (h52 P) (.node (h84 P) (.node (h148 P) (.node (h276 P) .nil .nil) .nil) (.node (h212 P) .nil .nil)) (.node (h116 P) (.node (h180 P) .nil .nil) (.node (h244 P) .nil .nil)))) (.node (h28 P) (.node (h44 P) (.node (h76 P) (.node (h140 P) (.node (h268 P) .nil .nil) .nil) (.node (h204 P) .nil .nil)) (.node (h108 P) (.node (h172 P) .nil .nil) (.node (h236 P) .nil .nil))) (.node (h60 P) (.node (h92 P) (.node (h156 P) (.node (h284 P) .nil .nil) .nil) (.node (h220 P) .nil .nil)) (.node (h124 P) (.node (h188 P) .nil .nil) (.node (h252 P) .nil .nil)))))) (.node (boot_o_6 P) (.node (boot_o_10 P) (.node (h18 P) (.node (h34 P) (.node (h66 P) (.node (h130 P) (.node (h258 P) .nil .nil) .nil) (.node (h194 P) .nil .nil)) (.node (h98 P) (.node (h162 P) (.node (h290 P) .nil .nil) .nil) (.node (h226 P) .nil .nil))) (.node (h50 P) (.node (h82 P) (.node (h146 P) (.node (h274 P) .nil .nil) .nil) (.node (h210 P) .nil .nil)) (.node (h114 P) (.node (h178 P) .nil .nil) (.node (h242 P) .nil .nil)))) (.node (h26 P) (.node (h42 P) (.node (h74 P) (.node (h138 P) (.node (h266 P) .nil .nil) .nil) (.node (h202 P) .nil .nil)) (.node (h106 P) (.node (h170 P) .nil .nil) (.node (h234 P) .nil .nil))) (.node (h58 P) (.node (h90 P) (.node (h154 P) (.node (h282 P) .nil .nil) .nil) (.node (h218 P) .nil .nil)) (.node (h122 P) (.node (h186 P) .nil .nil) (.node (h250 P) .nil .nil))))) (.node (h14 P) (.node (h22 P) (.node (h38 P) (.node (h70 P) (.node (h134 P) (.node (h262 P) .nil .nil) .nil) (.node (h198 P) .nil .nil)) (.node (h102 P) (.node (h166 P) (.node (h294 P) .nil .nil) .nil) (.node (h230 P) .nil .nil))) (.node (h54 P) (.node (h86 P) (.node (h150 P) (.node (h278 P) .nil .nil) .nil) (.node (h214 P) .nil .nil)) (.node (h118 P) (.node (h182 P) .nil .nil) (.node (h246 P) .nil .nil)))) (.node (h30 P) (.node (h46 P) (.node (h78 P) (.node (h142 P) (.node (h270 P) .nil .nil) .nil) (.node (h206 P) .nil .nil)) (.node (h110 P) (.node (h174 P) .nil .nil) (.node (h238 P) .nil .nil))) (.node (h62 P) (.node (h94 P) (.node (h158 P) (.node (h286 P) .nil .nil) .nil) (.node (h222 P) .nil .nil)) (.node (h126 P) (.node (h190 P) .nil .nil) (.node (h254 P) .nil .nil)))))))
noncomputable def hK (P : Params) : Frag := [(2, boot_o_2 P), (3, h3 P), (15, h15 P), (17, h17 P), (18, h18 P), (20, h20 P), (21, h21 P), (22, h22 P), (23, h23 P), (25, h25 P), (26, h26 P), (28, h28 P), (29, h29 P), (30, h30 P), (32, h32 P), (33, h33 P), (35, h35 P), (36, h36 P), (37, h37 P), (39, h39 P), (40, h40 P), (42, h42 P), (43, h43 P), (44, h44 P), (46, h46 P), (47, h47 P), (49, h49 P), (50, h50 P), (51, h51 P), (53, h53 P), (54, h54 P), (56, h56 P), (57, h57 P), (58, h58 P), (59, h59 P), (61, h61 P), (62, h62 P), (64, h64 P), (65, h65 P), (66, h66 P), (68, h68 P), (69, h69 P), (71, h71 P), (72, h72 P), (73, h73 P), (75, h75 P), (76, h76 P), (78, h78 P), (79, h79 P), (80, h80 P), (82, h82 P), (83, h83 P), (85, h85 P), (86, h86 P), (87, h87 P), (89, h89 P), (90, h90 P), (92, h92 P), (93, h93 P), (101, h101 P), (103, h103 P), (104, h104 P), (106, h106 P), (107, h107 P), (108, h108 P), (110, h110 P), (111, h111 P), (113, h113 P), (114, h114 P), (115, h115 P), (116, h116 P), (118, h118 P), (119, h119 P), (121, h121 P), (122, h122 P), (123, h123 P), (125, h125 P), (126, h126 P), (128, h128 P), (129, h129 P), (130, h130 P), (132, h132 P), (133, h133 P), (135, h135 P), (136, h136 P), (137, h137 P), (139, h139 P), (140, h140 P), (142, h142 P), (143, h143 P), (144, h144 P), (145, h145 P), (147, h147 P), (148, h148 P), (150, h150 P), (151, h151 P), (152, h152 P), (154, h154 P), (155, h155 P), (157, h157 P), (158, h158 P), (159, h159 P), (161, h161 P), (162, h162 P), (164, h164 P), (165, h165 P), (166, h166 P), (168, h168 P), (169, h169 P), (171, h171 P), (172, h172 P), (173, h173 P), (175, h175 P), (176, h176 P), (178, h178 P), (179, h179 P), (180, h180 P), (182, h182 P), (183, h183 P), (185, h185 P), (186, h186 P), (187, h187 P), (188, h188 P), (190, h190 P), (191, h191 P), (193, h193 P), (194, h194 P), (195, h195 P), (197, h197 P), (198, h198 P), (200, h200 P), (201, h201 P), (202, h202 P), (204, h204 P), (205, h205 P), (207, h207 P), (208, h208 P), (209, h209 P), (211, h211 P), (212, h212 P), (214, h214 P), (215, h215 P), (216, h216 P), (217, h217 P), (218, h218 P), (219, h219 P), (220, h220 P), (223, h223 P), (224, h224 P), (225, h225 P), (226, h226 P), (229, h229 P), (230, h230 P), (231, h231 P), (233, h233 P), (234, h234 P), (236, h236 P), (237, h237 P), (238, h238 P), (240, h240 P), (241, h241 P), (243, h243 P), (244, h244 P), (245, h245 P), (247, h247 P), (248, h248 P), (250, h250 P), (251, h251 P), (252, h252 P), (254, h254 P), (255, h255 P), (257, h257 P), (258, h258 P), (259, h259 P), (261, h261 P), (262, h262 P), (264, h264 P), (265, h265 P), (266, h266 P), (268, h268 P), (269, h269 P), (271, h271 P), (272, h272 P), (273, h273 P), (276, h276 P), (277, h277 P), (278, h278 P), (281, h281 P), (282, h282 P), (283, h283 P), (285, h285 P), (286, h286 P), (288, h288 P), (289, h289 P), (290, h290 P), (293, h293 P), (294, h294 P)]
noncomputable def aS : List Nat := [2, 3, 15, 17, 18, 20, 21, 22, 23, 25, 26, 28, 29, 30, 32, 33, 35, 36, 37, 39, 40, 42, 43, 44, 46, 47, 49, 50, 51, 53, 54, 56, 57, 58, 59, 61, 62, 64, 65, 66, 68, 69, 71, 72, 73, 75, 76, 78, 79, 80, 82, 83, 85, 86, 87, 89, 90, 92, 93, 101, 103, 104, 106, 107, 108, 110, 111, 113, 114, 115, 116, 118, 119, 121, 122, 123, 125, 126, 128, 129, 130, 132, 133, 135, 136, 137, 139, 140, 142, 143, 144, 145, 147, 148, 150, 151, 152, 154, 155, 157, 158, 159, 161, 162, 164, 165, 166, 168, 169, 171, 172, 173, 175, 176, 178, 179, 180, 182, 183, 185, 186, 187, 188, 190, 191, 193, 194, 195, 197, 198, 200, 201, 202, 204, 205, 207, 208, 209, 211, 212, 214, 215, 216, 217, 218, 219, 220, 223, 224, 225, 226, 229, 230, 231, 233, 234, 236, 237, 238, 240, 241, 243, 244, 245, 247, 248, 250, 251, 252, 254, 255, 257, 258, 259, 261, 262, 264, 265, 266, 268, 269, 271, 272, 273, 276, 277, 278, 281, 282, 283, 285, 286, 288, 289, 290, 293, 294]
noncomputable def vw : Program := { pg with main := { pg.main with body := [sT 0, sT 2, sT 3, sT 4, sT 5, sT 6, sT 7, sT 8, sT 9, sT 11, sT 12, sT 13, sT 14, sT 15, sT 16, sT 17, sT 19, sT 20, sT 21, sT 22, sT 23, sT 24, sT 25, sT 26, sT 27, sT 28, sT 29, sT 30] } }
noncomputable def ev : Env := .mk pg.main.scope mainNs mainNs [] Str.empty none (.ref 13) (some 14) 0
noncomputable def cd : Code := .body (behindTheImports pg) ev
noncomputable def p0 : Pos := ⟨0, 0, 0, 0⟩
noncomputable def bt : List Frame := [topFrame p0]
noncomputable def a0 : Array GenState := .mk []
noncomputable def dr : Drawn := .mk 0 0 0 0
noncomputable def an : Option Value := some (.ref 6)
noncomputable def all : List Stmt := [sT 0, sT 1, sT 2, sT 3, sT 4, sT 5, sT 6, sT 7, sT 8, sT 9, sT 10, sT 11, sT 12, sT 13, sT 14, sT 15, sT 16, sT 17, sT 18, sT 19, sT 20, sT 21, sT 22, sT 23, sT 24, sT 25, sT 26, sT 27, sT 28, sT 29, sT 30]
noncomputable def sh (h : Heap) (n : Nat) (os : OsState) : Shared := .mk h a0 dr n os
noncomputable def s1 (w : World) (os : OsState) : SharedT := .mk (T47 w.params) 15 lf a0 dr 187 os
noncomputable def s2 (w : World) (os : OsState) : SharedT := .mk (TF w.params) 295 lf a0 dr 589 os
theorem k1 (w : World) (os : OsState) : topGo treeTable pg w 11 an 12 (.mk (boot_heap w.params) a0 boot_drawn boot_toks os) (topStub pg) = some (sh (H46 w.params) 187 os, .mk (denote treeTable cd) cd p0 bt) := by
  rewrite [Fast.te15667345088766844465, Fast.te14364793385576792824, Fast.te11892475500146522536]
  kernel_rfl
theorem k2 (w : World) (os : OsState) : segRun treeTable pg w 11 an 1 1 (sh (H46 w.params) 187 os) (blockOf (behindTheImports pg) ev cd p0 bt) = some (.next, (s1 w os).abs, cd, p0) := by
  rewrite [Fast.te14374325043358763698, Fast.te14364793385576792824]
  kernel_rfl
theorem k3 (w : World) (os : OsState) : segRunT treeTable pg w 11 an 1 1583 (s1 w os) (piecesOf all ev cd p0 bt) = some (.next, s2 w os, cd, pO (sT 30)) := by
  rewrite [Fast.te10110043849684766642, Fast.te14364793385576792824]
  kernel_rfl
theorem k4 (w : World) (os : OsState) : topRun treeTable pg w 11 an 2 (s2 w os).abs (.mk (doneF .next) cd (pO (sT 30)) bt) = some (sh (HF w.params) 589 os) := by
  rewrite [Fast.te14082659384304107361, Fast.te14364793385576792824]
  kernel_rfl
end
end Hd
end
-- part HB
section
open PySem PySem.W PySem.Calls PyProof.Rows
set_option maxRecDepth 100000
set_option maxHeartbeats 4000000
namespace Hd
theorem said : OpenLaw.wellSaid PySem.Challenge.rw_og0243_01 = true := by
  delta OpenLaw.wellSaid OpenRow.wellSaid OpenRow.partSaid looksOpen
  rewrite [R.allR_eq, R.filterR_eq, R.mapR_eq, Fast.sDec_eq, Fast.named_eq, Fast.te11788848310118352699, Fast.te9807087744658564304, Fast.te12862048085361865435, Fast.te8377067652309620493, Fast.te18344453789297297638, Fast.te3471404346716756564, Fast.te14412699480532031325, Fast.te8326940854005059898, Fast.te5923862056798008813, Fast.te17691160309236699985, Fast.te13343964577679436407, Fast.te17119622794617984870, Fast.te17868728402115742887, Fast.te4857012375875476094, Fast.te13582783067957832011, Fast.te5318747976498570220, Fast.te12749700546528644094, Fast.te10501279942588096481, Fast.te8179353310426384613, Fast.te797321630700447069, Fast.te9572597257264208301, Fast.te9558739934217749035, Fast.te16286561074155671207, Fast.te6984425678791042302, Fast.te17095254045102204799, Fast.te12879404354523853263, Fast.te482687673346738481, Fast.te10792542408131684335, Fast.te7723801398212525404]
  kernel_rfl
theorem size (w : World) : ((boot_heap w.params).isNs mainGlobals && a0.size == 0, (boot_heap w.params).objs.size, (boot_heap w.params).nsMap mainGlobals "__annotations__") = (true, 11, an) := by
  rewrite [Fast.te8920871248978507458]
  kernel_rfl
theorem run (w : World) (os : OsState) : topRun treeTable pg w 11 an (12 + (1 + (1583 + 2))) ⟨boot_heap w.params, a0, boot_drawn, boot_toks, os⟩ (topStub pg) = some ⟨HF w.params, a0, dr, 589, os⟩ :=
  go_top (k1 w os) (piece_block (k2 w os) (piece_app (l := all) (rest := []) (segRun_of (k3 w os)) (k4 w os)))
end Hd
end
-- part HC
section
open PySem PySem.W PySem.Calls PyProof.Rows
set_option maxRecDepth 100000
set_option maxHeartbeats 4000000
namespace Hd
noncomputable section
noncomputable abbrev rO : OpenRow := OpenLaw.row PySem.Challenge.rw_og0243_01
noncomputable abbrev los : List Str := ["PLAIN", "Line"]
noncomputable abbrev lv : List (Str × WData) := [("PLAIN", .tuple [.int 0, .int (-1), .int (-1), .int (-1), .int 0])]
noncomputable abbrev hk : Hook := kHook hK aS (fun _ => by kernel_rfl)
noncomputable abbrev xt (s : Shared) : Bool := xlAt vw lv s && recOk rO.records s
theorem looks (w : World) : (fun os => ((staticsOk (importedModules pg.main.body) (boot_heap w.params) (HF w.params) && namesBound pg (HF w.params) && gensDone ⟨HF w.params, a0, dr, 589, os⟩ && laidKept (boot_heap w.params) (HF w.params)),
    openSeen vw los (importedModules pg.main.body) xt true ⟨HF w.params, a0, dr, 589, os⟩, hk.obs ⟨HF w.params, a0, dr, 589, os⟩)) = fun _ => (true, openGood vw los, hk.val w) := by
  delta openSeen openGood
  rewrite [R.mapR_eq, Fast.te5923862056798008813, Fast.te5160383126252970620, Fast.te3399658132070893891, Fast.te5991557255702980513, Fast.te10880121769531294198, Fast.te821141287760084731, Fast.te7409074990110511671, Fast.te13664370479719496447, Fast.te14722251495701143533, Fast.te10994771534591457954, Fast.te479339242167458305, Fast.te16090120013241838585, Fast.te3247288618530077131, Fast.te2386780881361962483, Fast.te11698064438423848299, Fast.te7317090234206586261, Fast.te7369524293546568484]
  kernel_rfl
theorem left : LeftO rO.prog vw los xt hk.obs hk.val 3290 :=
  LeftO.of_pieces (p := pg) (boot_open (by kernel_rfl) (by decide) (fun s => by kernel_rfl)) size run (by decide) looks
end
end Hd
end
-- part FW1
section
open PySem PySem.W PySem.Calls PyProof.Rows
set_option maxRecDepth 100000
namespace Mine
theorem nos {α : Type} {r : α} {p : Prop} (e : (none : Option α) = some r) : p := by cases e

/-- abstract values: what a Value reads as -/
inductive AV where
  | none
  | bool (b : Bool)
  | int (i : Int)
  | str (s : Str)
  | tup (l : List AV)
  | ref (i : Nat)
  | raw (a : Addr)
/-- abstract objects that may change -/
inductive AO where
  | list (l : List AV)
  | dict (l : List (Str × AV))
  | ns (l : List (Str × AV))
  | inst (C : Addr) (d : Nat)

noncomputable abbrev Store := List AO
noncomputable abbrev Lc := List (Option AV)
noncomputable abbrev EM := Lc → Store → Option (AV × Store)
inductive Fl where
  | next
  | ret (v : AV)
noncomputable abbrev SM := Lc → Store → Option (Fl × Lc × Store)
noncomputable abbrev FM := List AV → Store → Option (AV × Store)

noncomputable abbrev tupObj (vs : Array Value) (n : Nat) : Obj := { cls := .type "tuple", data := .seq vs n }
mutual
inductive V (ρ : List Addr) (h : Heap) : AV → Value → Prop
  | none : V ρ h .none .none
  | bool (b : Bool) : V ρ h (.bool b) (.bool b)
  | int (i : Int) (t : Tok) : V ρ h (.int i) (.int i t)
  | str (x : Str) (t : Tok) : V ρ h (.str x) (.str x t)
  | tup {a : Addr} {vs : Array Value} {n : Nat} {ds : List AV} : h.get? a = some (tupObj vs n) → Vs ρ h ds vs.toList → V ρ h (.tup ds) (.ref a)
  | ref {i : Nat} {a : Addr} : ρ[i]? = some a → V ρ h (.ref i) (.ref a)
  | raw (a : Addr) : V ρ h (.raw a) (.ref a)
inductive Vs (ρ : List Addr) (h : Heap) : List AV → List Value → Prop
  | nil : Vs ρ h [] []
  | cons {d : AV} {v : Value} {ds : List AV} {vs : List Value} : V ρ h d v → Vs ρ h ds vs → Vs ρ h (d :: ds) (v :: vs)
end

/-- an object that holds a tuple -/
noncomputable def isTup (o : Obj) : Prop := ∃ vs n, o = tupObj vs n
noncomputable def KeepT (h h' : Heap) : Prop := ∀ a o, h.get? a = some o → isTup o → h'.get? a = some o
theorem KeepT.of {h h' : Heap} (k : ∀ b o, h.get? b = some o → h'.get? b = some o) : KeepT h h' := fun a o e _ => k a o e
section
variable {ρ ρ' : List Addr} {h h' : Heap}
mutual
theorem V.mono (hk : KeepT h h') (hp : ∀ (i : Nat) (a : Addr), ρ[i]? = some a → ρ'[i]? = some a) :
    ∀ {d : AV} {v : Value}, V ρ h d v → V ρ' h' d v
  | _, _, .none => .none
  | _, _, .bool b => .bool b
  | _, _, .int i t => .int i t
  | _, _, .str x t => .str x t
  | _, _, .tup e r => .tup (hk _ _ e ⟨_, _, rfl⟩) (Vs.mono hk hp r)
  | _, _, .ref e => .ref (hp _ _ e)
  | _, _, .raw a => .raw a
theorem Vs.mono (hk : KeepT h h') (hp : ∀ (i : Nat) (a : Addr), ρ[i]? = some a → ρ'[i]? = some a) :
    ∀ {ds : List AV} {vs : List Value}, Vs ρ h ds vs → Vs ρ' h' ds vs
  | _, _, .nil => .nil
  | _, _, .cons a r => .cons (V.mono hk hp a) (Vs.mono hk hp r)
end
theorem Vs.length {ds : List AV} {vs : List Value} (x : Vs ρ h ds vs) : ds.length = vs.length := by
  induction ds generalizing vs with
  | nil => cases x; rfl
  | cons d ds ih => cases x with | cons a r => simp [ih r]
theorem Vs.get {ds : List AV} {vs : List Value} (x : Vs ρ h ds vs) {k : Nat} {d : AV} (e : ds[k]? = some d) : ∃ v, vs[k]? = some v ∧ V ρ h d v := by
  induction ds generalizing vs k with
  | nil => exact nos e
  | cons d ds ih =>
    cases x with
    | cons a r =>
      cases k with
      | zero => cases e; exact ⟨_, rfl, a⟩
      | succ k => exact ih r e
theorem Vs.append {ds es : List AV} {vs ws : List Value} (x : Vs ρ h ds vs) (y : Vs ρ h es ws) : Vs ρ h (ds ++ es) (vs ++ ws) := by
  induction ds generalizing vs with
  | nil => cases x; exact y
  | cons d ds ih => cases x with | cons a r => exact .cons a (ih r)
theorem Vs.take {ds : List AV} {vs : List Value} (x : Vs ρ h ds vs) (k : Nat) : Vs ρ h (ds.take k) (vs.take k) := by
  induction ds generalizing vs k with
  | nil => cases x; simp; exact .nil
  | cons d ds ih =>
    cases x with
    | cons a r =>
      cases k with
      | zero => simp; exact .nil
      | succ k => simp only [List.take_succ_cons]; exact .cons a (ih r k)
theorem Vs.drop {ds : List AV} {vs : List Value} (x : Vs ρ h ds vs) (k : Nat) : Vs ρ h (ds.drop k) (vs.drop k) := by
  induction ds generalizing vs k with
  | nil => cases x; simp; exact .nil
  | cons d ds ih =>
    cases x with
    | cons a r =>
      cases k with
      | zero => simp only [List.drop_zero]; exact .cons a r
      | succ k => simp only [List.drop_succ_cons]; exact ih r k
theorem Vs.set {ds : List AV} {vs : List Value} (x : Vs ρ h ds vs) (k : Nat) {d : AV} {v : Value} (y : V ρ h d v) : Vs ρ h (ds.set k d) (vs.set k v) := by
  induction ds generalizing vs k with
  | nil => cases x; simp; exact .nil
  | cons e ds ih =>
    cases x with
    | cons a r =>
      cases k with
      | zero => simp only [List.set_cons_zero]; exact .cons y r
      | succ k => simp only [List.set_cons_succ]; exact .cons a (ih r k)
theorem Vs.reverse {ds : List AV} {vs : List Value} (x : Vs ρ h ds vs) : Vs ρ h ds.reverse vs.reverse := by
  induction ds generalizing vs with
  | nil => cases x; exact .nil
  | cons d ds ih => cases x with | cons a r => simp only [List.reverse_cons]; exact (ih r).append (.cons a .nil)
end

/-- the program, its world, the heap at the law's entry, the known part of it -/
structure Cx where
  prog : Program
  w : World
  hB : Heap
  K : Frag
  mg : Str → Option Value
  mb : Str → Option Value
  sa : Addr
  sl : List Int
structure Cx.Ok (X : Cx) : Prop where
  K : X.K.In X.hB
  g : X.hB.Ns mainGlobals X.mg
  b : X.hB.Ns builtinsNs X.mb
  nolimit : X.hB.NoLimit
  boot : ∀ x : Str, x ≠ "__name__" → X.mb x = bootBuiltins x
  script : ∃ (vs : Array Value), X.hB.IsList X.sa vs ∧ ∀ ρ h, Vs ρ h (X.sl.map .int) vs.toList

inductive KV (ρ : List Addr) (h : Heap) : List (Str × AV) → List (Str × Value) → Prop
  | nil : KV ρ h [] []
  | cons {x : Str} {d : AV} {v : Value} {kvs : List (Str × AV)} {ws : List (Str × Value)} : V ρ h d v → KV ρ h kvs ws → KV ρ h ((x, d) :: kvs) ((x, v) :: ws)

inductive NV (ρ : List Addr) (h : Heap) : List (Str × AV) → List DictEntry → Prop
  | nil : NV ρ h [] []
  | cons {x : Str} {t : Tok} {hs : Int} {d : AV} {v : Value} {kvs : List (Str × AV)} {es : List DictEntry} : V ρ h d v → NV ρ h kvs es → NV ρ h ((x, d) :: kvs) (⟨hs, .str x t, v⟩ :: es)

noncomputable def O (X : Cx) (ρ : List Addr) (h : Heap) : AO → Obj → Prop
  | .list l, o => ∃ (vs : Array Value) (n : Nat), o = { cls := .type "list", data := .seq vs n } ∧ Vs ρ h l vs.toList
  | .dict kvs, o => ∃ ws, o.IsDictOf (strKind X.prog X.w) ws ∧ KV ρ h kvs ws
  | .ns kvs, o => ∃ es n, o = dictOf es n ∧ NV ρ h kvs es
  | .inst C d, o => ∃ dx, o = instObj C dx ∧ ρ[d]? = some dx

section
variable {X : Cx} {ρ ρ' : List Addr} {h h' : Heap}
theorem KV.mono (hk : KeepT h h') (hp : ∀ (i : Nat) (a : Addr), ρ[i]? = some a → ρ'[i]? = some a)
    {kvs : List (Str × AV)} {ws : List (Str × Value)} (x : KV ρ h kvs ws) : KV ρ' h' kvs ws := by
  induction x with
  | nil => exact .nil
  | cons v _ ih => exact .cons (v.mono hk hp) ih
theorem NV.mono (hk : KeepT h h') (hp : ∀ (i : Nat) (a : Addr), ρ[i]? = some a → ρ'[i]? = some a)
    {kvs : List (Str × AV)} {ws : List DictEntry} (x : NV ρ h kvs ws) : NV ρ' h' kvs ws := by
  induction x with
  | nil => exact .nil
  | cons v _ ih => exact .cons (v.mono hk hp) ih
theorem O.mono (hk : KeepT h h') (hp : ∀ (i : Nat) (a : Addr), ρ[i]? = some a → ρ'[i]? = some a)
    {ao : AO} {o : Obj} (x : O X ρ h ao o) : O X ρ' h' ao o := by
  cases ao with
  | list l => obtain ⟨vs, n, e, r⟩ := x; exact ⟨vs, n, e, r.mono hk hp⟩
  | dict l => obtain ⟨ws, e, r⟩ := x; exact ⟨ws, e, r.mono hk hp⟩
  | ns l => obtain ⟨es, n, e, r⟩ := x; exact ⟨es, n, e, r.mono hk hp⟩
  | inst C d => obtain ⟨dx, e, r⟩ := x; exact ⟨dx, e, hp _ _ r⟩
theorem O.noTuple {ao : AO} {o : Obj} (x : O X ρ h ao o) : ¬ isTup o := by
  rintro ⟨vs', n', rfl⟩
  cases ao with
  | list l => obtain ⟨vs, n, e, r⟩ := x; have := congrArg Obj.cls e; simp at this
  | dict l => obtain ⟨ws, ⟨es, ep, _, hd, _⟩, r⟩ := x; cases hd
  | ns l => obtain ⟨es, ep, e, r⟩ := x; have := congrArg Obj.cls e; simp at this
  | inst C d => obtain ⟨dx, e, r⟩ := x; have := congrArg Obj.cls e; simp at this
end

structure St (X : Cx) (ρ : List Addr) (σ : Store) (h : Heap) : Prop where
  len : ρ.length = σ.length
  nd : ρ.Nodup
  new : ∀ a ∈ ρ, X.hB.get? a = none
  keep : ∀ b o, X.hB.get? b = some o → h.get? b = some o
  obj : ∀ (i : Nat) (ao : AO), σ[i]? = some ao → ∃ a o, ρ[i]? = some a ∧ h.get? a = some o ∧ O X ρ h ao o

/-- from s to s': all but ex is kept, the store may grow -/
structure Post (X : Cx) (ex : Addr → Prop) (ρ : List Addr) (s : Shared) (ρ' : List Addr) (σ' : Store) (s' : Shared) : Prop where
  st : St X ρ' σ' s'.heap
  pre : ∃ new, ρ' = ρ ++ new
  fresh : ∀ a ∈ ρ', a ∈ ρ ∨ s.heap.get? a = none
  keep : ∀ b o, ¬ ex b → s.heap.get? b = some o → s'.heap.get? b = some o
  live : ∀ b o, s.heap.get? b = some o → ∃ o', s'.heap.get? b = some o'
  same : s' = { s with heap := s'.heap, toks := s'.toks }

section
variable {X : Cx} {ρ ρ' : List Addr} {σ σ' : Store} {h h' : Heap} {s s' s₁ s₂ : Shared} {ex ex' : Addr → Prop}

theorem St.notTuple (S : St X ρ σ h) {a : Addr} {o : Obj} (e : h.get? a = some o) (c : isTup o) : a ∉ ρ := by
  intro hm
  obtain ⟨i, hi, rfl⟩ := List.mem_iff_getElem.mp hm
  have hl : i < σ.length := S.len ▸ hi
  obtain ⟨a', o', e1, e2, e3⟩ := S.obj i σ[i] (List.getElem?_eq_getElem hl)
  rw [List.getElem?_eq_getElem hi] at e1
  cases e1
  rw [e] at e2; cases e2
  exact e3.noTuple c
theorem Post.idx (P : Post X ex ρ s ρ' σ' s') : ∀ (i : Nat) (a : Addr), ρ[i]? = some a → ρ'[i]? = some a := by
  obtain ⟨new, e⟩ := P.pre
  intro i a hi
  rw [e, List.getElem?_append_left (List.getElem?_eq_some_iff.mp hi).1]
  exact hi
theorem Post.refl (S : St X ρ σ s.heap) : Post X ex ρ s ρ σ s := ⟨S, ⟨[], by simp⟩, fun a ha => .inl ha, fun _ _ _ e => e, fun _ o e => ⟨o, e⟩, rfl⟩
theorem Post.weaken (P : Post X ex ρ s ρ' σ' s') (w : ∀ b, ex b → ex' b) : Post X ex' ρ s ρ' σ' s' :=
  ⟨P.st, P.pre, P.fresh, fun b o n e => P.keep b o (fun q => n (w _ q)) e, P.live, P.same⟩
theorem Post.ofToks {k : Nat} (P : Post X ex ρ { s with toks := k } ρ' σ' s') : Post X ex ρ s ρ' σ' s' :=
  ⟨P.st, P.pre, P.fresh, P.keep, P.live, P.same⟩
theorem Post.trans {ρ'' : List Addr} {σ'' : Store} (P : Post X ex ρ s ρ' σ' s₁) (P' : Post X ex' ρ' s₁ ρ'' σ'' s₂) (w : ∀ b o, s.heap.get? b = some o → ex' b → ex b) : Post X ex ρ s ρ'' σ'' s₂ := by
  obtain ⟨n1, e1⟩ := P.pre
  obtain ⟨n2, e2⟩ := P'.pre
  refine ⟨P'.st, ⟨n1 ++ n2, by rw [e2, e1, List.append_assoc]⟩, fun a ha => ?_, fun b o nb e => ?_, fun b o e => ?_, ?_⟩
  · rcases P'.fresh a ha with q | q
    · exact P.fresh a q
    · right
      cases e : s.heap.get? a with
      | none => rfl
      | some o => obtain ⟨o', e'⟩ := P.live a o e; rw [e'] at q; cases q
  · exact P'.keep b o (fun q => nb (w b o e q)) (P.keep b o nb e)
  · obtain ⟨o', e'⟩ := P.live b o e
    exact P'.live b o' e'
  · rw [P'.same, P.same]
/-- for two steps that change the store alone -/
theorem Post.transR {ρ'' : List Addr} {σ'' : Store} (P : Post X (· ∈ ρ) ρ s ρ' σ' s₁) (P' : Post X (· ∈ ρ') ρ' s₁ ρ'' σ'' s₂) : Post X (· ∈ ρ) ρ s ρ'' σ'' s₂ :=
  P.trans P' fun b o e hb => by
    rcases P.fresh b hb with q | q
    · exact q
    · rw [q] at e; cases e
theorem Post.tup (P : Post X ex ρ s ρ' σ' s') (w : ∀ b o, s.heap.get? b = some o → isTup o → ¬ ex b) : KeepT s.heap s'.heap :=
  fun a o e c => P.keep a o (w a o e c) e
theorem Post.v (P : Post X (· ∈ ρ) ρ s ρ' σ' s') (S : St X ρ σ s.heap) {d : AV} {v : Value} (x : V ρ s.heap d v) : V ρ' s'.heap d v :=
  x.mono (P.tup fun _ _ e c => S.notTuple e c) P.idx
theorem Post.vs (P : Post X (· ∈ ρ) ρ s ρ' σ' s') (S : St X ρ σ s.heap) {d : List AV} {v : List Value} (x : Vs ρ s.heap d v) : Vs ρ' s'.heap d v :=
  x.mono (P.tup fun _ _ e c => S.notTuple e c) P.idx

/-- a heap that keeps what is there: the store stands -/
theorem St.keeps (S : St X ρ σ h) (hk : ∀ b o, h.get? b = some o → h'.get? b = some o) : St X ρ σ h' :=
  ⟨S.len, S.nd, S.new, fun b o e => hk b o (S.keep b o e), fun i ao e => by
    obtain ⟨a, o, e1, e2, e3⟩ := S.obj i ao e
    exact ⟨a, o, e1, hk _ _ e2, e3.mono (.of hk) fun _ _ e => e⟩⟩
theorem Post.keeps (S : St X ρ σ s.heap) {tk : Nat} (hk : ∀ b o, s.heap.get? b = some o → h'.get? b = some o) : Post X ex ρ s ρ σ { s with heap := h', toks := tk } :=
  ⟨S.keeps hk, ⟨[], by simp⟩, fun _ ha => .inl ha, fun b o _ e => hk b o e, fun b o e => ⟨o, hk b o e⟩, rfl⟩
/-- a new object of the store -/
theorem Post.new (S : St X ρ σ s.heap) {a : Addr} {o : Obj} {ao : AO} {tk : Nat} (hn : s.heap.get? a = none) (ha : h'.get? a = some o) (hk : ∀ b o, s.heap.get? b = some o → h'.get? b = some o) (ho : O X (ρ ++ [a]) h' ao o) :
    Post X ex ρ s (ρ ++ [a]) (σ ++ [ao]) { s with heap := h', toks := tk } := by
  have hB : X.hB.get? a = none := by
    cases e : X.hB.get? a with
    | none => rfl
    | some o => rw [S.keep _ _ e] at hn; cases hn
  have ix : ∀ (i : Nat) (b : Addr), ρ[i]? = some b → (ρ ++ [a])[i]? = some b := fun i b e => by
    rw [List.getElem?_append_left (List.getElem?_eq_some_iff.mp e).1]; exact e
  have hna : a ∉ ρ := by
    intro hm
    obtain ⟨i, hi, rfl⟩ := List.mem_iff_getElem.mp hm
    obtain ⟨a', o', e1, e2, e3⟩ := S.obj i (σ[i]'(S.len ▸ hi)) (List.getElem?_eq_getElem _)
    rw [List.getElem?_eq_getElem hi] at e1
    cases e1
    rw [e2] at hn; cases hn
  refine ⟨⟨by simp [S.len], ?_, ?_, fun b o e => hk b o (S.keep b o e), ?_⟩, ⟨[a], rfl⟩, ?_, fun b o _ e => hk b o e, fun b o e => ⟨o, hk b o e⟩, rfl⟩
  · rw [List.nodup_append]
    exact ⟨S.nd, List.nodup_cons.mpr ⟨by simp, List.nodup_nil⟩, fun x hx y hy => by rw [List.mem_singleton.mp hy]; rintro rfl; exact hna hx⟩
  · intro b hb
    rcases List.mem_append.mp hb with q | q
    · exact S.new b q
    · rw [List.mem_singleton.mp q]; exact hB
  · intro i ao' e
    by_cases hi : i < σ.length
    · rw [List.getElem?_append_left hi] at e
      obtain ⟨b, ob, e1, e2, e3⟩ := S.obj i ao' e
      exact ⟨b, ob, ix _ _ e1, hk _ _ e2, e3.mono (.of hk) ix⟩
    · have : i = σ.length := by
        have := (List.getElem?_eq_some_iff.mp e).1
        simp at this; lia
      subst this
      simp at e
      subst e
      exact ⟨a, o, by rw [← S.len]; simp, ha, ho⟩
  · intro b hb
    rcases List.mem_append.mp hb with q | q
    · exact .inl q
    · rw [List.mem_singleton.mp q]; exact .inr hn
/-- one object of the store turned -/
theorem Post.set (S : St X ρ σ s.heap) {i : Nat} {a : Addr} {o : Obj} {ao : AO} {tk : Nat} (hi : ρ[i]? = some a) (ha : h'.get? a = some o) (hk : ∀ b o, b ≠ a → s.heap.get? b = some o → h'.get? b = some o) (ho : O X ρ h' ao o) :
    Post X (· ∈ ρ) ρ s ρ (σ.set i ao) { s with heap := h', toks := tk } := by
  have hm : a ∈ ρ := List.mem_of_getElem? hi
  have hl := (List.getElem?_eq_some_iff.mp hi).1
  have ht : KeepT s.heap h' := fun b o e c => hk b o (fun q => S.notTuple e c (q ▸ hm)) e
  refine ⟨⟨by simp [S.len], S.nd, S.new, fun b o e => hk b o ?_ (S.keep b o e), ?_⟩, ⟨[], by simp⟩, fun _ ha => .inl ha, fun b o nb e => hk b o (fun q => nb (q ▸ hm)) e, fun b o' e => ?_, rfl⟩
  · rintro rfl
    rw [S.new _ hm] at e; cases e
  · intro j ao' e
    by_cases hj : j = i
    · subst hj
      rw [List.getElem?_set_self (S.len ▸ hl)] at e
      cases e
      exact ⟨a, o, hi, ha, ho⟩
    · rw [List.getElem?_set_ne (Ne.symm hj)] at e
      obtain ⟨b, ob, e1, e2, e3⟩ := S.obj j ao' e
      refine ⟨b, ob, e1, hk b ob ?_ e2, e3.mono ht fun _ _ e => e⟩
      rintro rfl
      have l1 := (List.getElem?_eq_some_iff.mp e1)
      have l2 := (List.getElem?_eq_some_iff.mp hi)
      obtain ⟨l1, q1⟩ := l1
      obtain ⟨l2, q2⟩ := l2
      have nd := List.pairwise_iff_getElem.mp S.nd
      rcases Nat.lt_trichotomy j i with q | q | q
      · exact nd j i l1 l2 q (q1.trans q2.symm)
      · exact hj q
      · exact nd i j l2 l1 q (q2.trans q1.symm)
  · by_cases q : b = a
    · subst q; exact ⟨o, ha⟩
    · exact ⟨o', hk b o' q e⟩
end
end Mine
end
-- part FW2
section
open PySem PySem.W PySem.Calls PyProof.Rows
set_option maxRecDepth 100000
namespace Mine

structure Cn where
  X : Cx
  lv : Nat
  ns : List Str
  env : Env

noncomputable def own (env : Env) (b : Addr) : Prop := b = env.locals ∨ ∃ n, env.cells.lookup n = some b

structure EnvOk (ns : List Str) (env : Env) : Prop where
  kind : env.scope.kind = .function
  glob : env.globals = mainGlobals
  blt : env.builtins = builtinsNs
  nd : ns.Nodup
  loc : ∀ x ∈ ns, env.kindOf x = some .local ∨ ((env.kindOf x = some .cell ∨ (env.kindOf x = some .free ∧ (x == ("__classdict__" : Str)) = false)) ∧ (env.cells.lookup x).isSome = true)
  one : ∀ n c n' c', env.cells.lookup n = some c → env.cells.lookup n' = some c' → n = n'

noncomputable def Slot (env : Env) (m : Str → Option Value) (h : Heap) (x : Str) (v : Value) : Prop :=
  (env.kindOf x = some .local ∧ m x = some v) ∨ ((env.kindOf x = some .cell ∨ (env.kindOf x = some .free ∧ (x == ("__classdict__" : Str)) = false)) ∧ ∃ c, env.cells.lookup x = some c ∧ h.IsCell c (some v))

structure FR (X : Cx) (ns : List Str) (env : Env) (ρ : List Addr) (lc : Lc) (h : Heap) : Prop where
  loc : ∃ m, h.Ns env.locals m ∧ ∀ (k : Nat) (x : Str) (av : AV), ns[k]? = some x → lc[k]? = some (some av) → ∃ v, Slot env m h x v ∧ V ρ h av v
  off : ∀ b, own env b → b ∉ ρ ∧ X.hB.get? b = none
  cells : ∀ n c, env.cells.lookup n = some c → ∃ v, h.IsCell c v
  len : lc.length = ns.length

noncomputable def AOk (lv : Nat) (A : Around) : Prop := A.handled = none ∧ A.depth + 2 * lv ≤ 600 ∧ A.units + 60 * lv + 500 ≤ cLine
theorem AOk.in1 {lv : Nat} {A : Around} (h : AOk (lv + 1) A) : AOk lv A.in1 := ⟨h.1, by have := h.2.1; show A.depth + _ ≤ _; lia, by have := h.2.2; show A.units + 1 + _ + _ ≤ _; lia⟩
theorem AOk.units {lv : Nat} {A : Around} (h : AOk lv A) : A.units + 64 < cLine := by have := h.2.2; lia

theorem FR.post {X : Cx} {ns : List Str} {env : Env} {ρ ρ' : List Addr} {lc : Lc} {σ σ' : Store} {s s' : Shared} (F : FR X ns env ρ lc s.heap) (S : St X ρ σ s.heap) (P : Post X (· ∈ ρ) ρ s ρ' σ' s') : FR X ns env ρ' lc s'.heap := by
  obtain ⟨⟨m, hn, hl⟩, off, cells, len⟩ := F
  have kp : ∀ b, own env b → ∀ o, s.heap.get? b = some o → s'.heap.get? b = some o := fun b hb o e => P.keep b o (off b hb).1 e
  have ck : ∀ n c, env.cells.lookup n = some c → ∀ v, s.heap.IsCell c v → s'.heap.IsCell c v := fun n c e v ⟨o, ho, hd⟩ => ⟨o, kp c (.inr ⟨n, e⟩) o ho, hd⟩
  refine ⟨⟨m, ?_, fun k x av hk hv => ?_⟩, fun b hb => ⟨fun hm => ?_, (off b hb).2⟩, fun n c e => ?_, len⟩
  · obtain ⟨o, es, ep, ho, r⟩ := hn
    exact ⟨o, es, ep, kp _ (.inl rfl) _ ho, r⟩
  · obtain ⟨v, hs, hv⟩ := hl k x av hk hv
    refine ⟨v, ?_, P.v S hv⟩
    rcases hs with q | ⟨q, c, hc, hi⟩
    · exact .inl q
    · exact .inr ⟨q, c, hc, ck _ _ hc _ hi⟩
  · rcases P.fresh b hm with q | q
    · exact (off b hb).1 q
    · rcases hb with rfl | ⟨n, hc⟩
      · obtain ⟨o, es, ep, ho, r⟩ := hn
        rw [ho] at q; cases q
      · obtain ⟨v, o, ho, _⟩ := cells n b hc
        rw [ho] at q; cases q
  · obtain ⟨v, hv⟩ := cells n c e
    exact ⟨v, ck n c e v hv⟩

noncomputable abbrev Rel (α β : Type) := List Addr → Heap → β → α → Prop
/-- the tree t does what m says -/
noncomputable def RG (C : Cn) {α β : Type} (rel : Rel α β) (t : Sem α) (m : Lc → Store → Option (β × Store)) : Prop :=
  ∀ {A : Around} {E : Value → Shared → Prop} {Q : α → Shared → Prop} {s : Shared} {ρ : List Addr} {σ : Store} {lc : Lc} {r : β} {σ' : Store},
    C.X.Ok → EnvOk C.ns C.env → AOk C.lv A → FR C.X C.ns C.env ρ lc s.heap → St C.X ρ σ s.heap → m lc σ = some (r, σ') →
    (∀ v s' ρ', Post C.X (· ∈ ρ) ρ s ρ' σ' s' → rel ρ' s'.heap r v → Q v s') → wpAny (model C.X.prog C.X.w) A t Q E s
noncomputable def isB : Rel Bool Bool := fun _ _ b a => b = a
noncomputable abbrev RE (C : Cn) (e : Expr) (m : EM) : Prop := RG C V (eval e C.env) m
noncomputable abbrev RB (C : Cn) (e : Expr) (m : Lc → Store → Option (Bool × Store)) : Prop := RG C isB (isTrue e C.env (eval e C.env)) m
noncomputable abbrev RArgs (C : Cn) (pos : Pos) (es : List Expr) (m : Lc → Store → Option (List AV × Store)) : Prop := RG C Vs (spliced (backTo pos (starEach es C.env))) m

/-- an operation on values -/
noncomputable def ROp1 (X : Cx) (lv : Nat) (g : Value → Sem Value) (f : AV → Store → Option (AV × Store)) : Prop :=
  ∀ {A : Around} {E Q} {s : Shared} {ρ : List Addr} {σ : Store} {a : AV} {va : Value} {r : AV} {σ' : Store}, X.Ok → AOk lv A → St X ρ σ s.heap → V ρ s.heap a va → f a σ = some (r, σ') →
    (∀ v s' ρ', Post X (· ∈ ρ) ρ s ρ' σ' s' → V ρ' s'.heap r v → Q v s') → wpAny (model X.prog X.w) A (g va) Q E s
noncomputable def ROp2 (X : Cx) (lv : Nat) (g : Value → Value → Sem Value) (f : AV → AV → Store → Option (AV × Store)) : Prop :=
  ∀ {A : Around} {E Q} {s : Shared} {ρ : List Addr} {σ : Store} {a b : AV} {va vb : Value} {r : AV} {σ' : Store}, X.Ok → AOk lv A → St X ρ σ s.heap → V ρ s.heap a va → V ρ s.heap b vb → f a b σ = some (r, σ') →
    (∀ v s' ρ', Post X (· ∈ ρ) ρ s ρ' σ' s' → V ρ' s'.heap r v → Q v s') → wpAny (model X.prog X.w) A (g va vb) Q E s

/- the combinators -/
noncomputable def eLoc (k : Nat) : EM := fun lc σ => (lc[k]?.join).map fun v => (v, σ)
noncomputable def eVal (v : AV) : EM := fun _ σ => some (v, σ)
noncomputable def eBin (f : AV → AV → Store → Option (AV × Store)) (a b : EM) : EM := fun lc σ => (a lc σ).bind fun p => (b lc p.2).bind fun q => f p.1 q.1 q.2
noncomputable def eUn (f : AV → Store → Option (AV × Store)) (a : EM) : EM := fun lc σ => (a lc σ).bind fun p => f p.1 p.2
noncomputable def boolOf : AV → Option Bool
  | .bool b => some b
  | _ => none
noncomputable def bOf (a : EM) : Lc → Store → Option (Bool × Store) := fun lc σ => (a lc σ).bind fun p => (boolOf p.1).map fun b => (b, p.2)
noncomputable abbrev BM := Lc → Store → Option (Bool × Store)
noncomputable def bNot (a : BM) : BM := fun lc σ => (a lc σ).map fun p => (!p.1, p.2)
noncomputable def bAnd (a b : BM) : BM := fun lc σ => (a lc σ).bind fun p => if p.1 then b lc p.2 else some (false, p.2)
noncomputable def bOr (a b : BM) : BM := fun lc σ => (a lc σ).bind fun p => if p.1 then some (true, p.2) else b lc p.2
noncomputable def bVal (b : Bool) : BM := fun _ σ => some (b, σ)
noncomputable def eIf (c : BM) (a b : EM) : EM := fun lc σ => (c lc σ).bind fun p => if p.1 then a lc p.2 else b lc p.2
noncomputable def eAnd (a b : EM) : EM := fun lc σ => (a lc σ).bind fun p => (boolOf p.1).bind fun c => if c then b lc p.2 else some (p.1, p.2)
noncomputable def eOr (a b : EM) : EM := fun lc σ => (a lc σ).bind fun p => (boolOf p.1).bind fun c => if c then some (p.1, p.2) else b lc p.2
noncomputable def aNil : Lc → Store → Option (List AV × Store) := fun _ σ => some ([], σ)
noncomputable def aCons (a : EM) (b : Lc → Store → Option (List AV × Store)) : Lc → Store → Option (List AV × Store) := fun lc σ => (a lc σ).bind fun p => (b lc p.2).map fun q => (p.1 :: q.1, q.2)

section
variable {C : Cn}

theorem bind_some {α β : Type} {x : Option α} {f : α → Option β} {b : β} (h : x.bind f = some b) : ∃ a, x = some a ∧ f a = some b := by
  cases x with
  | none => cases h
  | some a => exact ⟨a, rfl, h⟩
theorem map_some' {α β : Type} {x : Option α} {f : α → β} {b : β} (h : x.map f = some b) : ∃ a, x = some a ∧ f a = b := by
  cases x with
  | none => cases h
  | some a => exact ⟨a, rfl, Option.some.inj h⟩

theorem bindS {α β γ : Type} {x : Option (α × β)} {f : α × β → Option γ} {b : γ} {G : Prop} (h : x.bind f = some b) (k : ∀ a s, x = some (a, s) → f (a, s) = some b → G) : G := by
  obtain ⟨⟨a, s⟩, h1, h2⟩ := bind_some h
  exact k a s h1 h2
theorem bind3 {α β γ δ : Type} {x : Option (α × β × δ)} {f : α × β × δ → Option γ} {b : γ} {G : Prop} (h : x.bind f = some b) (k : ∀ a s t, x = some (a, s, t) → f (a, s, t) = some b → G) : G := by
  obtain ⟨⟨a, s, t⟩, h1, h2⟩ := bind_some h
  exact k a s t h1 h2
theorem bind1 {α γ : Type} {x : Option α} {f : α → Option γ} {b : γ} {G : Prop} (h : x.bind f = some b) (k : ∀ a, x = some a → f a = some b → G) : G := by
  obtain ⟨a, h1, h2⟩ := bind_some h
  exact k a h1 h2
theorem mapS {α β γ : Type} {x : Option (α × β)} {f : α × β → γ} {b : γ} {G : Prop} (h : x.map f = some b) (k : ∀ a s, x = some (a, s) → f (a, s) = b → G) : G := by
  obtain ⟨⟨a, s⟩, h1, h2⟩ := map_some' h
  exact k a s h1 h2
theorem map3 {α β γ δ : Type} {x : Option (α × β × δ)} {f : α × β × δ → γ} {b : γ} {G : Prop} (h : x.map f = some b) (k : ∀ a s t, x = some (a, s, t) → f (a, s, t) = b → G) : G := by
  obtain ⟨⟨a, s, t⟩, h1, h2⟩ := map_some' h
  exact k a s t h1 h2
theorem map1 {α γ : Type} {x : Option α} {f : α → γ} {b : γ} {G : Prop} (h : x.map f = some b) (k : ∀ a, x = some a → f a = b → G) : G := by
  obtain ⟨a, h1, h2⟩ := map_some' h
  exact k a h1 h2

theorem RE.loc {x : Str} {pos : Pos} (k : Nat) (hk : C.ns[k]? = some x) (hd : (x == ("__debug__" : Str)) = false) : RE C (.Name x pos) (eLoc k) := by
  intro A E Q s ρ σ lc r σ' ok eo ao F S e h
  refine map1 e fun v hv e => ?_
  cases e
  have hl : lc[k]? = some (some r) := by
    cases q : lc[k]? with
    | none => rw [q] at hv; cases hv
    | some o => rw [q] at hv; cases o with
      | none => cases hv
      | some w => cases hv; rfl
  obtain ⟨m, hn, hs⟩ := F.loc
  obtain ⟨w, hw, hV⟩ := hs k x r hk hl
  have hq := h w s ρ (Post.refl S) hV
  refine wpAny_Name ?_ hd
  rcases hw with ⟨kx, mx⟩ | ⟨kx, c, hc, hi⟩
  · exact wpAny_loadName_local eo.kind kx hn mx hq
  · rcases kx with kx | ⟨kx, hx⟩
    · exact wpAny_loadName_cell eo.kind kx hc hi hq
    · exact wpAny_loadName_free eo.kind kx hc hi hq hx

theorem RE.int {i : Int} {k : Nat} {pos : Pos} : RE C (.Constant (.int i) k pos) (eVal (.int i)) := by
  intro A E Q s ρ σ lc r σ' ok eo ao F S e h
  cases e
  exact wpAny_Constant_int (h _ _ ρ (Post.keeps S fun _ _ e => e) (.int _ _))
theorem RE.str {x : Str} {k : Nat} {pos : Pos} : RE C (.Constant (.str x) k pos) (eVal (.str x)) := by
  intro A E Q s ρ σ lc r σ' ok eo ao F S e h
  cases e
  exact Calls.Constant_str (h _ _ ρ (Post.keeps S fun _ _ e => e) (.str _ _))
theorem RE.bool {b : Bool} {k : Nat} {pos : Pos} : RE C (.Constant (.bool b) k pos) (eVal (.bool b)) := by
  intro A E Q s ρ σ lc r σ' ok eo ao F S e h
  cases e
  exact PyProof.Rows.Constant_bool (h _ _ ρ (Post.refl S) (.bool _))
theorem RE.cNone {k : Nat} {pos : Pos} : RE C (.Constant .none k pos) (eVal .none) := by
  intro A E Q s ρ σ lc r σ' ok eo ao F S e h
  cases e
  exact PyProof.Rows.Constant_none (h _ _ ρ (Post.refl S) .none)
/-- a name of the text's top that holds plain data -/
theorem RE.glob {x : Str} {pos : Pos} {v : Value} {d : AV} (hx : C.env.kindOf x = some .globalImplicit) (hd : (x == ("__debug__" : Str)) = false) (hk : nsIn C.X.K mainGlobals x = some (some v))
    (hv : ∀ ρ h, C.X.K.In h → V ρ h d v) : RE C (.Name x pos) (eVal d) := by
  intro A E Q s ρ σ lc r σ' ok eo ao F S e h
  cases e
  have hg := ok.g.keeps S.keep
  exact Calls.Name_function_global eo.kind hx (Calls.loadGlobal_global (by rw [eo.glob]; exact hg) (mg_of ok.K ok.g hk) (h _ _ ρ (Post.refl S) (hv _ _ (ok.K.keeps S.keep)))) hd

theorem RE.bin {l r : Expr} {op : Operator} {pos : Pos} {f ml mr} (hl : RE C l ml) (hr : RE C r mr) (ho : ROp2 C.X C.lv (binaryOp op) f) : RE C (.BinOp l op r pos) (eBin f ml mr) := by
  intro A E Q s ρ σ lc r σ' ok eo ao F S e h
  refine bindS e fun a σ₁ e1 e => ?_
  refine bindS e fun b σ₂ e2 e3 => ?_
  refine wpAny_BinOp (hl ok eo ao F S e1 fun va s₁ ρ₁ P₁ V₁ => hr ok eo ao (F.post S P₁) P₁.st e2 fun vb s₂ ρ₂ P₂ V₂ => ?_)
  exact ho ok ao P₂.st (P₂.v P₁.st V₁) V₂ e3 fun v s₃ ρ₃ P₃ V₃ => h v s₃ ρ₃ ((P₁.transR P₂).transR P₃) V₃
theorem RE.cmp {l r : Expr} {op : CmpOp} {pos : Pos} {f ml mr} (hl : RE C l ml) (hr : RE C r mr) (ho : ROp2 C.X C.lv (compareOp op) f) (hm : behindInMarks op r = false := by with_unfolding_all rfl) : RE C (.Compare l [op] [r] pos) (eBin f ml mr) := by
  intro A E Q s ρ σ lc r σ' ok eo ao F S e h
  refine bindS e fun a σ₁ e1 e => ?_
  refine bindS e fun b σ₂ e2 e3 => ?_
  refine wpAny_Compare1 (hl ok eo ao F S e1 fun va s₁ ρ₁ P₁ V₁ => hr ok eo ao (F.post S P₁) P₁.st e2 fun vb s₂ ρ₂ P₂ V₂ => ?_) hm
  exact ho ok ao P₂.st (P₂.v P₁.st V₁) V₂ e3 fun v s₃ ρ₃ P₃ V₃ => h v s₃ ρ₃ ((P₁.transR P₂).transR P₃) V₃
theorem RE.un {x : Expr} {op : UnaryOp} {pos : Pos} {f mx} (hx : RE C x mx) (ho : ROp1 C.X C.lv (unaryOp op) f) : RE C (.UnaryOp op x pos) (eUn f mx) := by
  intro A E Q s ρ σ lc r σ' ok eo ao F S e h
  refine bindS e fun a σ₁ e1 e => ?_
  refine UnaryOp_ (hx ok eo ao F S e1 fun va s₁ ρ₁ P₁ V₁ => ?_)
  exact ho ok ao P₁.st V₁ e fun v s₃ ρ₃ P₃ V₃ => h v s₃ ρ₃ (P₁.transR P₃) V₃

theorem truthy_of {M : Model} {A : Around} {E : Value → Shared → Prop} {Q : Bool → Shared → Prop} {s : Shared} {ρ : List Addr} {a : AV} {b : Bool} {v : Value} (hb : boolOf a = some b) (hv : V ρ s.heap a v) (h : Q b s) : wpAny M A (truthy v) Q E s := by
  cases a <;> cases hb
  cases hv
  exact wpAny_truthy_bool h

theorem RE.if_ {c a b : Expr} {pos : Pos} {mc ma mb} (hc : RB C c mc) (ha : RE C a ma) (hb : RE C b mb) : RE C (.IfExp c a b pos) (eIf mc ma mb) := by
  intro A E Q s ρ σ lc r σ' ok eo ao F S e h
  refine bindS e fun t σ₁ e1 e => ?_
  refine IfExp_ (hc ok eo ao F S e1 fun t' s₁ ρ₁ P₁ V₁ => ?_)
  cases V₁
  cases t with
  | true => exact ha ok eo ao (F.post S P₁) P₁.st e fun v s₃ ρ₃ P₃ V₃ => h v s₃ ρ₃ (P₁.transR P₃) V₃
  | false => exact hb ok eo ao (F.post S P₁) P₁.st e fun v s₃ ρ₃ P₃ V₃ => h v s₃ ρ₃ (P₁.transR P₃) V₃
theorem RE.one {op : BoolOp} {a : Expr} {pos : Pos} {ma} (ha : RE C a ma) : RE C (.BoolOp op [a] pos) ma := by
  intro A E Q s ρ σ lc r σ' ok eo ao F S e h
  exact BoolOp_one (ha ok eo ao F S e h)
theorem RE.and_ {a b : Expr} {rest : List Expr} {pos : Pos} {ma mb} (ha : RE C a ma) (hb : RE C (.BoolOp .And (b :: rest) pos) mb) : RE C (.BoolOp .And (a :: b :: rest) pos) (eAnd ma mb) := by
  intro A E Q s ρ σ lc r σ' ok eo ao F S e h
  refine bindS e fun t σ₁ e1 e => ?_
  refine bind1 e fun c e2 e => ?_
  refine BoolOp_and (ha ok eo ao F S e1 fun v s₁ ρ₁ P₁ V₁ => truthy_of e2 V₁ ?_)
  cases c with
  | true => exact hb ok eo ao (F.post S P₁) P₁.st e fun v s₃ ρ₃ P₃ V₃ => h v s₃ ρ₃ (P₁.transR P₃) V₃
  | false => cases e; exact h _ _ _ P₁ V₁
theorem RE.or_ {a b : Expr} {rest : List Expr} {pos : Pos} {ma mb} (ha : RE C a ma) (hb : RE C (.BoolOp .Or (b :: rest) pos) mb) : RE C (.BoolOp .Or (a :: b :: rest) pos) (eOr ma mb) := by
  intro A E Q s ρ σ lc r σ' ok eo ao F S e h
  refine bindS e fun t σ₁ e1 e => ?_
  refine bind1 e fun c e2 e => ?_
  refine BoolOp_or (ha ok eo ao F S e1 fun v s₁ ρ₁ P₁ V₁ => truthy_of e2 V₁ ?_)
  cases c with
  | false => exact hb ok eo ao (F.post S P₁) P₁.st e fun v s₃ ρ₃ P₃ V₃ => h v s₃ ρ₃ (P₁.transR P₃) V₃
  | true => cases e; exact h _ _ _ P₁ V₁

/- tests -/
theorem RB.not_ {x : Expr} {pos : Pos} {mx} (hx : RB C x mx) : RB C (.UnaryOp .Not x pos) (bNot mx) := by
  intro A E Q s ρ σ lc r σ' ok eo ao F S e h
  refine mapS e fun t σ₁ e1 e => ?_
  cases e
  refine isTrue_not (hx ok eo ao F S e1 fun v s₁ ρ₁ P₁ V₁ => ?_)
  cases V₁
  exact h _ _ _ P₁ rfl
theorem RB.andNil {pos : Pos} : RB C (.BoolOp .And [] pos) (bVal true) := by
  intro A E Q s ρ σ lc r σ' ok eo ao F S e h
  cases e
  exact isTrue_and_nil (h _ _ _ (Post.refl S) rfl)
theorem RB.orNil {pos : Pos} : RB C (.BoolOp .Or [] pos) (bVal false) := by
  intro A E Q s ρ σ lc r σ' ok eo ao F S e h
  cases e
  exact isTrue_or_nil (h _ _ _ (Post.refl S) rfl)
theorem RB.and_ {a : Expr} {rest : List Expr} {pos : Pos} {ma mb} (ha : RB C a ma) (hb : RB C (.BoolOp .And rest pos) mb) : RB C (.BoolOp .And (a :: rest) pos) (bAnd ma mb) := by
  intro A E Q s ρ σ lc r σ' ok eo ao F S e h
  refine bindS e fun t σ₁ e1 e => ?_
  refine isTrue_and (ha ok eo ao F S e1 fun v s₁ ρ₁ P₁ V₁ => ?_)
  cases V₁
  cases t with
  | true => exact hb ok eo ao (F.post S P₁) P₁.st e fun v s₃ ρ₃ P₃ V₃ => h v s₃ ρ₃ (P₁.transR P₃) V₃
  | false => cases e; exact h _ _ _ P₁ rfl
theorem RB.or_ {a : Expr} {rest : List Expr} {pos : Pos} {ma mb} (ha : RB C a ma) (hb : RB C (.BoolOp .Or rest pos) mb) : RB C (.BoolOp .Or (a :: rest) pos) (bOr ma mb) := by
  intro A E Q s ρ σ lc r σ' ok eo ao F S e h
  refine bindS e fun t σ₁ e1 e => ?_
  refine isTrue_or (ha ok eo ao F S e1 fun v s₁ ρ₁ P₁ V₁ => ?_)
  cases V₁
  cases t with
  | false => exact hb ok eo ao (F.post S P₁) P₁.st e fun v s₃ ρ₃ P₃ V₃ => h v s₃ ρ₃ (P₁.transR P₃) V₃
  | true => cases e; exact h _ _ _ P₁ rfl
theorem RB.plain {e : Expr} {m} (he : RE C e m) (hp : isTrue e C.env (eval e C.env) = (do let v ← eval e C.env; standAt e.pos; holding [v] (truthy v)) := by rfl) : RB C e (bOf m) := by
  intro A E Q s ρ σ lc r σ' ok eo ao F S e h
  refine bindS e fun t σ₁ e1 e => ?_
  refine map1 e fun b e2 e => ?_
  cases e
  exact isTrue_plain (he ok eo ao F S e1 fun v s₁ ρ₁ P₁ V₁ => truthy_of e2 V₁ (h _ _ _ P₁ rfl)) hp
theorem RB.cmp {l r : Expr} {op : CmpOp} {pos : Pos} {f ml mr} (hl : RE C l ml) (hr : RE C r mr) (ho : ROp2 C.X C.lv (compareOp op) f) (hm : behindInMarks op r = false := by with_unfolding_all rfl) : RB C (.Compare l [op] [r] pos) (bOf (eBin f ml mr)) := by
  intro A E Q s ρ σ lc r σ' ok eo ao F S e h
  refine bindS e fun t σ₃ e e4 => ?_
  refine bindS e fun a σ₁ e1 e => ?_
  refine bindS e fun b σ₂ e2 e3 => ?_
  refine map1 e4 fun c e5 e4 => ?_
  cases e4
  refine wpAny_isTrue_Compare1 (hl ok eo ao F S e1 fun va s₁ ρ₁ P₁ V₁ => hr ok eo ao (F.post S P₁) P₁.st e2 fun vb s₂ ρ₂ P₂ V₂ => ?_) hm
  exact ho ok ao P₂.st (P₂.v P₁.st V₁) V₂ e3 fun v s₃ ρ₃ P₃ V₃ => truthy_of e5 V₃ (h _ s₃ ρ₃ ((P₁.transR P₂).transR P₃) rfl)

/- arguments -/
noncomputable def plainE : Expr → Bool
  | .Starred .. => false
  | _ => true
theorem starEach_plain {e : Expr} {rest : List Expr} {env : Env} (h : plainE e = true) : starEach (e :: rest) env = (false, eval e env) :: starEach rest env := by
  cases e <;> first | rfl | cases h
theorem RArgs.nil {pos : Pos} : RArgs C pos [] aNil := by
  intro A E Q s ρ σ lc r σ' ok eo ao F S e h
  cases e
  exact Calls.spliced_nil (h _ _ _ (Post.refl S) .nil)
theorem RArgs.cons {e : Expr} {rest : List Expr} {pos : Pos} {m ms} (he : RE C e m) (hr : RArgs C pos rest ms) (hp : plainE e = true := by rfl) : RArgs C pos (e :: rest) (aCons m ms) := by
  intro A E Q s ρ σ lc r σ' ok eo ao F S e h
  refine bindS e fun a σ₁ e1 e => ?_
  refine mapS e fun b σ₂ e2 e => ?_
  cases e
  rw [starEach_plain hp]
  refine Calls.spliced_cons (he ok eo ao F S e1 fun v s₁ ρ₁ P₁ V₁ => hr ok eo ao (F.post S P₁) P₁.st e2 fun vs s₂ ρ₂ P₂ V₂ => ?_)
  exact h _ _ _ (P₁.transR P₂) (.cons (P₂.v P₁.st V₁) V₂)
noncomputable def eTup (m : Lc → Store → Option (List AV × Store)) : EM := fun lc σ => (m lc σ).bind fun p => if p.1.length ≤ 100 then some (.tup p.1, p.2) else none
noncomputable def eList (m : Lc → Store → Option (List AV × Store)) : EM := fun lc σ => (m lc σ).bind fun p => if p.1.length ≤ 100 then some (.ref p.2.length, p.2 ++ [.list p.1]) else none
theorem get_none_size {h : Heap} : h.get? h.objs.size = none := by
  cases e : h.get? h.objs.size with
  | none => rfl
  | some o => exact absurd (Heap.lt_size e) (Nat.lt_irrefl _)
theorem small_line {n : Nat} (h : n ≤ 1000) : n ≤ sizeLine := by rw [sizeLine_eq]; lia
theorem RE.tuple {es : List Expr} {k : Nat} {pos : Pos} {m} (h : RArgs C pos es m) : RE C (.Tuple es k pos) (eTup m) := by
  intro A E Q s ρ σ lc r σ' ok eo ao F S e hq
  refine bindS e fun l σ₁ e1 e => ?_
  split at e
  · rename_i hl
    cases e
    refine Tuple_ (h ok eo ao F S e1 fun vs s₁ ρ₁ P₁ V₁ => ?_)
    have hl' : vs.length ≤ sizeLine := small_line (by rw [← V₁.length]; simp only at hl; lia)
    refine wpAny_newObj_type ?_ (by show vs.toArray.size ≤ sizeLine; rw [List.size_toArray]; exact hl')
    have kp : ∀ b o, s₁.heap.get? b = some o → (s₁.heap.push { cls := .type "tuple", data := .seq vs.toArray }).get? b = some o := fun b o e => Heap.get?_push_of_some _ e
    refine hq _ _ ρ₁ (P₁.transR (Post.keeps P₁.st kp)) (.tup (Heap.get?_push_size _ rfl) ?_)
    simpa using V₁.mono (.of kp) fun _ _ e => e
  · exact nos e
theorem RE.list {es : List Expr} {pos : Pos} {m} (h : RArgs C pos es m) : RE C (.List es pos) (eList m) := by
  intro A E Q s ρ σ lc r σ' ok eo ao F S e hq
  refine bindS e fun l σ₁ e1 e => ?_
  split at e
  · rename_i hl
    cases e
    refine List_ (h ok eo ao F S e1 fun vs s₁ ρ₁ P₁ V₁ => ?_)
    have hl' : vs.length ≤ sizeLine := small_line (by rw [← V₁.length]; simp only at hl; lia)
    refine wpAny_newObj_type ?_ (by show vs.toArray.size ≤ sizeLine; rw [List.size_toArray]; exact hl')
    have kp : ∀ b o, s₁.heap.get? b = some o → (s₁.heap.push { cls := .type "list", data := .seq vs.toArray }).get? b = some o := fun b o e => Heap.get?_push_of_some _ e
    have P₂ := Post.new (ex := (· ∈ ρ₁)) (tk := s₁.toks) (ao := .list l) P₁.st get_none_size (Heap.get?_push_size _ rfl) kp ⟨vs.toArray, 0, rfl, by
      simp only []
      refine V₁.mono (.of kp) fun i a e => ?_
      rw [List.getElem?_append_left (List.getElem?_eq_some_iff.mp e).1]; exact e⟩
    exact hq _ _ _ (P₁.transR P₂) (.ref (by rw [← P₁.st.len]; simp))
  · exact nos e
end
end Mine
end
-- part FW3
section
open PySem PySem.W PySem.Calls PyProof.Rows
set_option maxRecDepth 100000
namespace Mine

noncomputable def small (i : Int) : Bool := decide (-(2 ^ 62) < i) && decide (i < 2 ^ 62)
theorem small_iff {i : Int} : small i = true ↔ -(2 ^ 62) < i ∧ i < 2 ^ 62 := by
  unfold small; simp [Bool.and_eq_true]

noncomputable def opAdd : AV → AV → Store → Option (AV × Store)
  | .int a, .int b, σ => some (.int (a + b), σ)
  | .ref i, .ref j, σ => match σ[i]?, σ[j]? with
    | some (.list l), some (.list k) => if l.length + k.length ≤ 1000 then some (.ref σ.length, σ ++ [.list (l ++ k)]) else none
    | _, _ => none
  | _, _, _ => none
noncomputable def opSub : AV → AV → Store → Option (AV × Store)
  | .int a, .int b, σ => some (.int (a - b), σ)
  | _, _, _ => none
noncomputable def opMod : AV → AV → Store → Option (AV × Store)
  | .int a, .int b, σ => if b = 0 then none else some (.int (a.fmod b), σ)
  | _, _, _ => none
noncomputable def opDiv : AV → AV → Store → Option (AV × Store)
  | .int a, .int b, σ => if b = 64 then some (.int (a.fdiv b), σ) else none
  | _, _, _ => none
noncomputable def opMul : AV → AV → Store → Option (AV × Store)
  | .int a, .int b, σ => if small b = true then some (.int (a * b), σ) else none
  | .ref i, .int b, σ => match σ[i]? with
    | some (.list l) => if l.length ≤ 10 ∧ -1000 ≤ b ∧ b ≤ 1000 then some (.ref σ.length, σ ++ [.list (List.replicate b.toNat l).flatten]) else none
    | _ => none
  | _, _, _ => none

section
variable {X : Cx} {lv : Nat}

theorem keepPush {h : Heap} {o : Obj} : ∀ b o', h.get? b = some o' → (h.push o).get? b = some o' := fun _ _ e => Heap.get?_push_of_some _ e
/-- a new list upon the heap and the store -/
theorem Post.newList {ρ : List Addr} {σ : Store} {s : Shared} {l : List AV} {vs : Array Value} {n : Nat} {tk : Nat} (S : St X ρ σ s.heap) (hv : Vs ρ s.heap l vs.toList) {ex : Addr → Prop} :
    Post X ex ρ s (ρ ++ [s.heap.objs.size]) (σ ++ [.list l]) { s with heap := s.heap.push { cls := .type "list", data := .seq vs n }, toks := tk } :=
  Post.new S get_none_size (Heap.get?_push_size _ rfl) keepPush ⟨vs, n, rfl, hv.mono (.of keepPush) fun i a e => by
    rw [List.getElem?_append_left (List.getElem?_eq_some_iff.mp e).1]; exact e⟩
theorem V.newRef {ρ : List Addr} {σ : Store} {h h' : Heap} {a : Addr} (S : St X ρ σ h) : V (ρ ++ [a]) h' (.ref σ.length) (.ref a) := .ref (by rw [← S.len]; simp)
/-- a list of the store upon the heap -/
theorem St.list {ρ : List Addr} {σ : Store} {h : Heap} (S : St X ρ σ h) {i : Nat} {v : Value} {l : List AV} (hv : V ρ h (.ref i) v) (hi : σ[i]? = some (.list l)) :
    ∃ (a : Addr) (vs : Array Value) (n : Nat), v = .ref a ∧ ρ[i]? = some a ∧ h.get? a = some { cls := .type "list", data := .seq vs n } ∧ Vs ρ h l vs.toList := by
  cases hv with
  | ref ha =>
    obtain ⟨a', o, e1, e2, vs, n, rfl, r⟩ := S.obj i _ hi
    rw [ha] at e1; cases e1
    exact ⟨_, vs, n, rfl, ha, e2, r⟩
theorem isListOf {h : Heap} {a : Addr} {vs : Array Value} {n : Nat} (e : h.get? a = some { cls := .type "list", data := .seq vs n }) : h.IsList a vs := ⟨_, e, rfl, n, rfl⟩

theorem ROp2.add : ROp2 X lv (binaryOp .Add) opAdd := by
  intro A E Q s ρ σ a b va vb r σ' ok ao S ha hb e h
  cases a <;> try exact nos e
  all_goals (cases b <;> try exact nos e)
  · cases e; cases ha; cases hb
    exact wpAny_add_int (h _ _ ρ (Post.keeps S fun _ _ e => e) (.int _ _))
  · rename_i i j
    simp only [opAdd] at e
    split at e
    · rename_i l k hi hj
      split at e
      · rename_i hl
        cases e
        obtain ⟨a, vs, n, rfl, _, ea, rl⟩ := S.list ha hi
        obtain ⟨b, ws, m, rfl, _, eb, rk⟩ := S.list hb hj
        have e1 : vs.size = l.length := by rw [rl.length]; simp
        have e2 : ws.size = k.length := by rw [rk.length]; simp
        refine concat_meets ⟨_, ea, rfl⟩ ⟨_, eb, rfl⟩ noFill_list_add seq_list_add PySem.F.slot_list_add PySem.F.entry_list_add (PySem.F.args_list_add_2 _ _) (list_addW a b vs ws n m none none #[] #[] (by rw [e1, e2]; exact small_line hl)) ⟨ea, eb, ?_⟩
        refine h _ _ _ (Post.newList S (l := l ++ k) ?_) (V.newRef S)
        rw [Array.toList_append]
        exact rl.append rk
      · exact nos e
    · exact nos e
theorem ROp2.sub : ROp2 X lv (binaryOp .Sub) opSub := by
  intro A E Q s ρ σ a b va vb r σ' ok ao S ha hb e h
  cases a <;> try exact nos e
  all_goals (cases b <;> try exact nos e)
  cases e; cases ha; cases hb
  exact PyProof.Rows.sub_int (h _ _ ρ (Post.keeps S fun _ _ e => e) (.int _ _))
theorem ROp2.mod : ROp2 X lv (binaryOp .Mod) opMod := by
  intro A E Q s ρ σ a b va vb r σ' ok ao S ha hb e h
  cases a <;> try exact nos e
  all_goals (cases b <;> try exact nos e)
  simp only [opMod] at e
  split at e
  · exact nos e
  · rename_i hb0
    cases e; cases ha; cases hb
    exact PyProof.Rows.mod_int hb0 (h _ _ ρ (Post.keeps S fun _ _ e => e) (.int _ _))
theorem ROp2.div : ROp2 X lv (binaryOp .FloorDiv) opDiv := by
  intro A E Q s ρ σ a b va vb r σ' ok ao S ha hb e h
  cases a <;> try exact nos e
  all_goals (cases b <;> try exact nos e)
  simp only [opDiv] at e
  split at e
  · rename_i hb0
    subst hb0
    cases e; cases ha; cases hb
    exact floordiv_int_or ao.1 (fun z => absurd z (by decide)) (fun _ => h _ _ ρ (Post.keeps S fun _ _ e => e) (.int _ _)) (fun _ => .inl (PyProof.noPylong_small (by decide)))
  · exact nos e
theorem foldl_flatten (k : Nat) (xs : Array Value) : ∀ acc : Array Value, (List.foldl (fun x1 x2 => x1 ++ x2) acc (List.replicate k xs)).toList = acc.toList ++ (List.replicate k xs.toList).flatten := by
  induction k with
  | zero => intro acc; simp
  | succ k ih => intro acc; rw [List.replicate_succ, List.foldl_cons, ih]; simp [List.replicate_succ]
theorem Vs.rep {ρ : List Addr} {h : Heap} {l : List AV} {vs : List Value} (x : Vs ρ h l vs) : ∀ k : Nat, Vs ρ h (List.replicate k l).flatten (List.replicate k vs).flatten
  | 0 => .nil
  | k + 1 => by rw [List.replicate_succ, List.flatten_cons, List.replicate_succ, List.flatten_cons]; exact x.append (x.rep k)
theorem ROp2.mul : ROp2 X lv (binaryOp .Mult) opMul := by
  intro A E Q s ρ σ a b va vb r σ' ok ao S ha hb e h
  cases a <;> try exact nos e
  all_goals (cases b <;> try exact nos e)
  · simp only [opMul] at e
    split at e
    · rename_i hs
      cases e; cases ha; cases hb
      have hb' := small_iff.mp hs
      refine PyProof.Rows.mul_int (h _ _ ρ (Post.keeps S fun _ _ e => e) (.int _ _)) (IntMulOk.of_right (intBits_le_64 (by lia) (by lia)))
    · exact nos e
  · rename_i i b
    simp only [opMul] at e
    split at e
    · rename_i l hi
      split at e
      · rename_i hl
        cases e
        obtain ⟨a, vs, n, rfl, _, ea, rl⟩ := S.list ha hi
        cases hb with
        | int _ u =>
          have e1 : vs.size = l.length := by rw [rl.length]; simp
          obtain ⟨h1, h2, h3⟩ := hl
          have hsz : vs.size * b.toNat ≤ 10000 := by
            rw [e1]
            exact Nat.mul_le_mul h1 (show b.toNat ≤ 1000 by lia)
          refine wpAny_binaryOp_repeat_ref (T := "list") (U := "int") (by decide) ⟨_, ea, rfl⟩ (fun s' => typeIs_int s' b u) noFill_list_mul F.fills_int_mul F.slot_int_rmul repeat_list F.slot_int_index.lookup
            (call_meets F.slot_int_rmul (typeIs_int s b u) F.entry_int_rmul (F.args_int_rmul_2 _ _) (int___rmul___int_list b u a vs n)
              ⟨ea, rfl, ⟨_, ea, rfl⟩, call_meets F.slot_list_mul ⟨_, ea, rfl⟩ F.entry_list_mul (F.args_list_mul_2 _ _)
                (AutoListH.list___mul___list_int_3 a vs n b u (by simp [Builtin.List.listFitsIndex]; lia) (by lia) (by simp [Builtin.List.listTooLong, sizeLine]; lia))
                ⟨ea, ?_⟩⟩)
          refine h _ _ _ (Post.newList S (l := (List.replicate b.toNat l).flatten) ?_) (V.newRef S)
          rw [foldl_flatten]
          simp only [List.nil_append]
          split
          · rename_i hem
            have : vs.toList = [] := by simpa using hem
            rw [this] at rl
            cases rl
            simp
            exact .nil
          · exact rl.rep _
      · exact nos e
    · exact nos e

/- comparisons -/
noncomputable def cmpInt (f : Int → Int → Bool) : AV → AV → Store → Option (AV × Store)
  | .int a, .int b, σ => some (.bool (f a b), σ)
  | _, _, _ => none
theorem ROp2.lt : ROp2 X lv (compareOp .Lt) (cmpInt fun a b => decide (a < b)) := by
  intro A E Q s ρ σ a b va vb r σ' ok ao S ha hb e h
  cases a <;> try exact nos e
  all_goals (cases b <;> try exact nos e)
  cases e; cases ha; cases hb
  exact PyProof.Rows.lt_int (h _ _ ρ (Post.refl S) (.bool _))
theorem ROp2.gt : ROp2 X lv (compareOp .Gt) (cmpInt fun a b => decide (b < a)) := by
  intro A E Q s ρ σ a b va vb r σ' ok ao S ha hb e h
  cases a <;> try exact nos e
  all_goals (cases b <;> try exact nos e)
  cases e; cases ha; cases hb
  exact PyProof.Rows.gt_int (h _ _ ρ (Post.refl S) (.bool _))
theorem ROp2.le : ROp2 X lv (compareOp .LtE) (cmpInt fun a b => decide (a ≤ b)) := by
  intro A E Q s ρ σ a b va vb r σ' ok ao S ha hb e h
  cases a <;> try exact nos e
  all_goals (cases b <;> try exact nos e)
  cases e; cases ha; cases hb
  exact PyProof.Rows.le_int (h _ _ ρ (Post.refl S) (.bool _))
noncomputable def isNone : AV → Bool
  | .none => true
  | _ => false
noncomputable def isA : AV → AV → Store → Option (AV × Store)
  | a, .none, σ => some (.bool (isNone a), σ)
  | _, _, _ => none
theorem ROp2.is_ : ROp2 X lv (compareOp .Is) isA := by
  intro A E Q s ρ σ a b va vb r σ' ok ao S ha hb e h
  cases b <;> try (first | exact nos e | (cases a <;> exact nos e))
  cases hb
  have key : plainIs va .none = true ∧ (va == Value.none) = isNone a := by
    cases a <;> cases ha <;> exact ⟨rfl, rfl⟩
  have e' : r = .bool (isNone a) ∧ σ' = σ := by
    cases a <;> cases e <;> exact ⟨rfl, rfl⟩
  obtain ⟨rfl, rfl⟩ := e'
  refine wpAny_is_plain key.1 ?_
  rw [key.2]
  exact h _ _ ρ (Post.refl S) (.bool _)

/- equality, over data -/
noncomputable def mapO {α β : Type} (f : α → Option β) : List α → Option (List β)
  | [] => some []
  | x :: xs => (f x).bind fun y => (mapO f xs).map (y :: ·)
noncomputable def py (σ : Store) : Nat → AV → Option PyData
  | _, .none => some .none
  | _, .bool b => some (.bool b)
  | _, .int i => some (.int i)
  | _, .str x => if PyData.strOk x = true then some (.str x) else none
  | n + 1, .tup l => (mapO (py σ n) l).map .tuple
  | n + 1, .ref i => match σ[i]? with
    | some (.list l) => (mapO (py σ n) l).map .list
    | _ => none
  | _, _ => none
noncomputable def eqA : AV → AV → Store → Option (AV × Store) := fun a b σ => (py σ 8 a).bind fun x => (py σ 8 b).map fun y => (.bool (PyData.eqv x y), σ)
noncomputable def neA : AV → AV → Store → Option (AV × Store) := fun a b σ => (py σ 8 a).bind fun x => (py σ 8 b).map fun y => (.bool (!PyData.eqv x y), σ)

theorem readsAll_of {ρ : List Addr} {σ : Store} {h : Heap} {n : Nat} (ih : ∀ (d : AV) (v : Value) (p : PyData), V ρ h d v → py σ n d = some p → (∃ as, Reads h v p as) ∧ p.canLay0 = true ∧ p.depth ≤ n) :
    ∀ (ds : List AV) (vs : List Value) (ps : List PyData), Vs ρ h ds vs → mapO (py σ n) ds = some ps → (∃ as, ReadsAll h vs ps as) ∧ PyData.canLayAll0 ps = true ∧ PyData.depthAll ps ≤ n
  | [], _, _, .nil, e => by cases e; exact ⟨⟨_, .nil⟩, rfl, Nat.zero_le _⟩
  | d :: ds, _, _, .cons hd hr, e => by
    refine bind1 e fun p e1 e => ?_
    obtain ⟨ps, e2, rfl⟩ := map_some' e
    obtain ⟨⟨as, a1⟩, a2, a3⟩ := ih _ _ _ hd e1
    obtain ⟨⟨bs, b1⟩, b2, b3⟩ := readsAll_of ih ds _ _ hr e2
    refine ⟨⟨_, .cons a1 b1⟩, ?_, ?_⟩
    · simp only [PyData.canLayAll0, a2, b2, Bool.and_self]
    · simp only [PyData.depthAll]; lia
theorem reads_of {ρ : List Addr} {σ : Store} {h : Heap} (S : St X ρ σ h) : ∀ (n : Nat) (d : AV) (v : Value) (p : PyData), V ρ h d v → py σ n d = some p → (∃ as, Reads h v p as) ∧ p.canLay0 = true ∧ p.depth ≤ n := by
  intro n
  induction n with
  | zero =>
    intro d v p hv e
    cases d <;> cases hv <;> simp only [py] at e
    · cases e; exact ⟨⟨_, .none⟩, rfl, Nat.zero_le _⟩
    · cases e; exact ⟨⟨_, .bool _⟩, rfl, Nat.zero_le _⟩
    · cases e; exact ⟨⟨_, .int _ _⟩, rfl, Nat.zero_le _⟩
    · split at e
      · rename_i hs; cases e; exact ⟨⟨_, .str _ _⟩, hs, Nat.zero_le _⟩
      · exact nos e
    · exact nos e
    · exact nos e
    · exact nos e
  | succ n ih =>
    intro d v p hv e
    cases d <;> cases hv <;> simp only [py] at e
    · cases e; exact ⟨⟨_, .none⟩, rfl, Nat.zero_le _⟩
    · cases e; exact ⟨⟨_, .bool _⟩, rfl, Nat.zero_le _⟩
    · cases e; exact ⟨⟨_, .int _ _⟩, rfl, Nat.zero_le _⟩
    · split at e
      · rename_i hs; cases e; exact ⟨⟨_, .str _ _⟩, hs, Nat.zero_le _⟩
      · exact nos e
    · rename_i h1 h4
      obtain ⟨ps, e1, rfl⟩ := map_some' e
      obtain ⟨⟨as, a1⟩, a2, a3⟩ := readsAll_of ih _ _ _ h4 e1
      exact ⟨⟨_, .tuple h1 rfl rfl a1⟩, a2, by simp only [PyData.depth]; lia⟩
    · rename_i hi
      split at e
      · rename_i l hl
        obtain ⟨ps, e1, rfl⟩ := map_some' e
        obtain ⟨a', o, q1, q2, vs, m, rfl, r⟩ := S.obj _ _ hl
        rw [hi] at q1; cases q1
        obtain ⟨⟨as, a1⟩, a2, a3⟩ := readsAll_of ih _ _ _ r e1
        exact ⟨⟨_, .list q2 rfl rfl a1⟩, a2, by simp only [PyData.depth]; lia⟩
      · exact nos e
    · exact nos e
theorem shaped_of {p : PyData} {n : Nat} (a : p.canLay0 = true) (b : p.depth ≤ n) (hn : n ≤ 64) : SeqAt.shaped p = true := by
  unfold SeqAt.shaped
  rw [a, Bool.true_and]
  exact decide_eq_true (Nat.le_trans b hn)
theorem ROp2.eq : ROp2 X lv (compareOp .Eq) eqA := by
  intro A E Q s ρ σ a b va vb r σ' ok ao S ha hb e h
  refine bind1 e fun x e1 e => ?_
  refine map1 e fun y e2 e => ?_
  cases e
  obtain ⟨⟨as, a1⟩, a2, a3⟩ := reads_of S 8 _ _ _ ha e1
  obtain ⟨⟨bs, b1⟩, b2, b3⟩ := reads_of S 8 _ _ _ hb e2
  exact eq_dataH a1 b1 (shaped_of a2 a3 (by decide)) (shaped_of b2 b3 (by decide)) ao.units (h _ _ ρ (Post.refl S) (.bool _))
theorem ROp2.ne : ROp2 X lv (compareOp .NotEq) neA := by
  intro A E Q s ρ σ a b va vb r σ' ok ao S ha hb e h
  refine bind1 e fun x e1 e => ?_
  refine map1 e fun y e2 e => ?_
  cases e
  obtain ⟨⟨as, a1⟩, a2, a3⟩ := reads_of S 8 _ _ _ ha e1
  obtain ⟨⟨bs, b1⟩, b2, b3⟩ := reads_of S 8 _ _ _ hb e2
  exact ne_dataH a1 b1 (shaped_of a2 a3 (by decide)) (shaped_of b2 b3 (by decide)) ao.units (h _ _ ρ (Post.refl S) (.bool _))

/- unary -/
noncomputable def negA : AV → Store → Option (AV × Store)
  | .int a, σ => some (.int (-a), σ)
  | _, _ => none
theorem ROp1.neg : ROp1 X lv (unaryOp .USub) negA := by
  intro A E Q s ρ σ a va r σ' ok ao S ha e h
  cases a <;> try exact nos e
  cases e; cases ha
  exact PyProof.Rows.neg_int (h _ _ ρ (Post.keeps S fun _ _ e => e) (.int _ _))
noncomputable def notA : AV → Store → Option (AV × Store) := fun a σ => (boolOf a).map fun b => (.bool (!b), σ)
theorem ROp1.not_ : ROp1 X lv (unaryOp .Not) notA := by
  intro A E Q s ρ σ a va r σ' ok ao S ha e h
  refine map1 e fun b e1 e => ?_
  cases e
  exact PyProof.Rows.not_of (truthy_of e1 ha (h _ _ ρ (Post.refl S) (.bool _)))
end
end Mine
end
-- part FW4
section
open PySem PySem.W PySem.Calls PyProof.Rows
set_option maxRecDepth 100000
namespace Mine

/- chains of two comparisons -/
noncomputable def eChain (f g : AV → AV → Store → Option (AV × Store)) (a b c : EM) : EM := fun lc σ =>
  (a lc σ).bind fun p => (b lc p.2).bind fun q => (f p.1 q.1 q.2).bind fun r => (boolOf r.1).bind fun t => if t then (c lc r.2).bind fun z => g q.1 z.1 z.2 else some r
section
variable {C : Cn}
theorem RE.chain {l m r : Expr} {o p : CmpOp} {pos : Pos} {f g ml mm mr} (hl : RE C l ml) (hm : RE C m mm) (hr : RE C r mr) (ho : ROp2 C.X C.lv (compareOp o) f) (hp : ROp2 C.X C.lv (compareOp p) g)
    (hq : lastMarks [o, p] [m, r] = false := by with_unfolding_all rfl) : RE C (.Compare l [o, p] [m, r] pos) (eChain f g ml mm mr) := by
  intro A E Q s ρ σ lc r σ' ok eo ao F S e h
  refine bindS e fun a σ₁ e1 e => ?_
  refine bindS e fun b σ₂ e2 e => ?_
  refine bindS e fun c σ₃ e3 e => ?_
  refine bind1 e fun t e4 e => ?_
  refine Compare_chain (hl ok eo ao F S e1 fun va s₁ ρ₁ P₁ V₁ => chain_link (hm ok eo ao (F.post S P₁) P₁.st e2 fun vb s₂ ρ₂ P₂ V₂ => ?_)) hq
  have P₁₂ := P₁.transR P₂
  refine ho ok ao P₂.st (P₂.v P₁.st V₁) V₂ e3 fun vc s₃ ρ₃ P₃ V₃ => truthy_of e4 V₃ ?_
  have P₁₃ := P₁₂.transR P₃
  cases t with
  | false => cases e; exact h _ _ _ P₁₃ V₃
  | true =>
    refine bindS e fun z σ₄ e5 e6 => ?_
    exact chain_last (hr ok eo ao (F.post S P₁₃) P₃.st e5 fun vz s₄ ρ₄ P₄ V₄ => hp ok ao P₄.st (P₄.v P₃.st (P₃.v P₂.st V₂)) V₄ e6 fun v s₅ ρ₅ P₅ V₅ => h _ _ _ ((P₁₃.transR P₄).transR P₅) V₅)
theorem RB.chain {l m r : Expr} {o p : CmpOp} {pos : Pos} {f g ml mm mr} (hl : RE C l ml) (hm : RE C m mm) (hr : RE C r mr) (ho : ROp2 C.X C.lv (compareOp o) f) (hp : ROp2 C.X C.lv (compareOp p) g)
    (hq : lastMarks [o, p] [m, r] = false := by with_unfolding_all rfl) : RB C (.Compare l [o, p] [m, r] pos) (bOf (eChain f g ml mm mr)) := by
  intro A E Q s ρ σ lc r σ' ok eo ao F S e h
  refine bindS e fun w σ₀ ea e0 => ?_
  refine map1 e0 fun bb e7 e9 => ?_
  cases e9
  clear e e0
  have e := ea
  refine bindS e fun a σ₁ e1 e => ?_
  refine bindS e fun b σ₂ e2 e => ?_
  refine bindS e fun c σ₃ e3 e => ?_
  refine bind1 e fun t e4 e => ?_
  refine isTrue_chain (hl ok eo ao F S e1 fun va s₁ ρ₁ P₁ V₁ => test_link (hm ok eo ao (F.post S P₁) P₁.st e2 fun vb s₂ ρ₂ P₂ V₂ => ?_)) hq
  have P₁₂ := P₁.transR P₂
  refine ho ok ao P₂.st (P₂.v P₁.st V₁) V₂ e3 fun vc s₃ ρ₃ P₃ V₃ => truthy_of e4 V₃ ?_
  have P₁₃ := P₁₂.transR P₃
  cases t with
  | false =>
    cases e
    simp only [e4] at e7
    cases e7
    exact h _ _ _ P₁₃ rfl
  | true =>
    refine bindS e fun z σ₄ e5 e6 => ?_
    exact test_last (hr ok eo ao (F.post S P₁₃) P₃.st e5 fun vz s₄ ρ₄ P₄ V₄ => hp ok ao P₄.st (P₄.v P₃.st (P₃.v P₂.st V₂)) V₄ e6 fun v s₅ ρ₅ P₅ V₅ => truthy_of e7 V₅ (h _ _ _ ((P₁₃.transR P₄).transR P₅) rfl))
end

/- items -/
noncomputable def idx (l : List AV) (i : Int) : Option AV :=
  if l.length ≤ 1000 then (if 0 ≤ i then l[i.toNat]? else if 0 ≤ i + l.length then l[(i + l.length).toNat]? else none) else none
noncomputable def getA : AV → AV → Store → Option (AV × Store)
  | .tup l, .int i, σ => (idx l i).map fun v => (v, σ)
  | .ref r, .int i, σ => match σ[r]? with
    | some (.list l) => (idx l i).map fun v => (v, σ)
    | _ => none
  | .ref r, .str x, σ => match σ[r]? with
    | some (.dict kvs) => (kvs.lookup x).map fun v => (v, σ)
    | _ => none
  | _, _, _ => none
noncomputable def hasGet : AV → Store → Bool
  | .tup _, _ => true
  | .ref r, σ => match σ[r]? with
    | some (.list _) => true
    | some (.dict _) => true
    | _ => false
  | _, _ => false

theorem idx_some {l : List AV} {i : Int} {v : AV} (h : idx l i = some v) : ∃ j, seqIndex? i l.length = some j ∧ l[j]? = some v ∧ -(2 ^ 63) ≤ i ∧ i < 2 ^ 63 := by
  unfold idx at h
  split at h
  · rename_i hl
    split at h
    · rename_i h0
      have hj := (List.getElem?_eq_some_iff.mp h).1
      exact ⟨i.toNat, seqIndex_of h0 (by lia), h, by lia, by lia⟩
    · split at h
      · rename_i h0 h1
        exact ⟨(i + l.length).toNat, seqIndex_neg (by lia) (by lia), h, by lia, by lia⟩
      · exact nos h
  · exact nos h

section
variable {X : Cx} {lv : Nat}
theorem KV.lookup {ρ : List Addr} {h : Heap} {kvs : List (Str × AV)} {ws : List (Str × Value)} (x : KV ρ h kvs ws) {k : Str} {d : AV} (e : kvs.lookup k = some d) : ∃ v, valueAt ws k = some v ∧ V ρ h d v := by
  induction x with
  | nil => exact nos e
  | @cons y d' v kvs ws hv _ ih =>
    by_cases q : k = y
    · subst q
      simp at e
      subst e
      exact ⟨v, by simp [valueAt], hv⟩
    · have q' : (k == y) = false := by simpa using q
      rw [List.lookup_cons, q'] at e
      obtain ⟨v', a, b⟩ := ih e
      refine ⟨v', ?_, b⟩
      have : ¬ y = k := fun z => q z.symm
      simpa [valueAt, List.find?_cons, this] using a
theorem V.typeGet {ρ : List Addr} {σ : Store} {s : Shared} (S : St X ρ σ s.heap) {a : AV} {va : Value} (ha : V ρ s.heap a va) (hg : hasGet a σ = true) :
    ∃ T id, s.TypeIs va T ∧ typeLookup (.type T) "__getitem__" = pure (some (.builtin id)) := by
  cases a <;> try (cases hg; done)
  · cases ha with
    | tup e r => exact ⟨"tuple", _, ⟨_, e, rfl⟩, slot_tuple_getitem.lookup⟩
  · rename_i r
    simp only [hasGet] at hg
    split at hg
    · rename_i l hl
      obtain ⟨b, vs, n, rfl, _, eb, _⟩ := S.list ha hl
      exact ⟨"list", _, ⟨_, eb, rfl⟩, slot_list_getitem.lookup⟩
    · rename_i l hl
      cases ha with
      | ref hr =>
        obtain ⟨b, o, q1, q2, ws, hd, _⟩ := S.obj _ _ hl
        rw [hr] at q1; cases q1
        obtain ⟨es, ep, hx, _⟩ := hd
        exact ⟨"dict", _, ⟨o, q2, hx.1⟩, slot_dict_getitem.lookup⟩
    · exact absurd hg Bool.false_ne_true
theorem ROp2.get : ROp2 X lv getItem getA := by
  intro A E Q s ρ σ a b va vb r σ' ok ao S ha hb e h
  cases a <;> try exact nos e
  all_goals (cases b <;> try exact nos e)
  · rename_i l i
    refine map1 e fun v e1 e => ?_
    cases e
    obtain ⟨j, hj, hv, h1, h2⟩ := idx_some e1
    cases hb with
    | int _ u =>
      cases ha with
      | @tup a vs n _ e rl =>
        obtain ⟨w, hw, hV⟩ := rl.get hv
        have hsz : l.length = vs.size := by rw [rl.length]; simp
        exact PyProof.Rows.getItem_tuple ⟨_, e, rfl, _, rfl⟩ h1 h2 (by rw [← hsz]; exact hj) (by rw [← Array.getElem?_toList]; exact hw) (h _ _ _ (Post.refl S) hV)
  · rename_i r i
    simp only [getA] at e
    split at e
    · rename_i l hl
      refine map1 e fun v e1 e => ?_
      cases e
      obtain ⟨j, hj, hv, h1, h2⟩ := idx_some e1
      obtain ⟨b, vs, n, rfl, _, eb, rl⟩ := S.list ha hl
      have hsz : l.length = vs.size := by rw [rl.length]; simp
      obtain ⟨w, hw, hV⟩ := rl.get hv
      cases hb with
      | int _ u =>
        unfold idx at e1
        split at e1
        · split at e1
          · rename_i h0
            obtain ⟨w', hw', hV'⟩ := rl.get e1
            exact wpAny_getItem_list (isListOf eb) h0 h2 (by rw [← Array.getElem?_toList]; exact hw') (h _ _ _ (Post.refl S) hV')
          · split at e1
            · rename_i h0 h3
              obtain ⟨w', hw', hV'⟩ := rl.get e1
              exact wpAny_getItem_list_neg (isListOf eb) (by lia) (by rw [← hsz]; lia) h1 (x := w') (by rw [← hsz, ← Array.getElem?_toList]; exact hw') (h _ _ _ (Post.refl S) hV')
            · exact nos e1
        · exact nos e1
    · exact nos e
  · rename_i r x
    simp only [getA] at e
    split at e
    · rename_i kvs hl
      refine map1 e fun v e1 e => ?_
      cases e
      cases hb with
      | str _ u =>
        cases ha with
        | ref hr =>
          obtain ⟨b, o, q1, q2, ws, hd, hk⟩ := S.obj _ _ hl
          rw [hr] at q1; cases q1
          obtain ⟨w, hw, hV⟩ := hk.lookup e1
          have hm : s.heap.MapOf (strKind X.prog X.w) _ (valueAt ws) := (Heap.dictOf_iff.mpr ⟨o, q2, hd⟩).mapOf
          exact wpAny_getItem_of (knd := strKind X.prog X.w) (k := x) (strKind_is _ _ x u) hm hw (h _ _ _ (Post.keeps S fun _ _ e => e) (hV))
    · exact nos e
end

/-- o[i], i no slice -/
noncomputable def eGet (a b : EM) : EM := fun lc σ => (a lc σ).bind fun p => (b lc p.2).bind fun q => if hasGet p.1 q.2 = true then getA p.1 q.1 q.2 else none
section
variable {C : Cn}
theorem RE.get {value slice : Expr} {pos : Pos} {ma mb} (ha : RE C value ma) (hb : RE C slice mb) (hs : ∀ o i, subscripted slice false o i = operate [o, i] (getItem o i) := by intro _ _; rfl) : RE C (.Subscript value slice pos) (eGet ma mb) := by
  intro A E Q s ρ σ lc r σ' ok eo ao F S e h
  refine bindS e fun a σ₁ e1 e => ?_
  refine bindS e fun b σ₂ e2 e => ?_
  split at e
  · rename_i hg
    refine Subscript_ (ha ok eo ao F S e1 fun va s₁ ρ₁ P₁ V₁ => hb ok eo ao (F.post S P₁) P₁.st e2 fun vb s₂ ρ₂ P₂ V₂ => ?_)
    have V₁' := P₂.v P₁.st V₁
    obtain ⟨T, id, hT, hl⟩ := V₁'.typeGet P₂.st hg
    exact tail_any hT hl (ROp2.get ok ao P₂.st V₁' V₂ e fun v s₃ ρ₃ P₃ V₃ => h _ _ _ ((P₁.transR P₂).transR P₃) V₃) (hs _ _)
  · exact nos e

/- slices of lists -/
noncomputable def partOf : AV → Option (Option Int)
  | .none => some none
  | .int i => some (some i)
  | _ => none
noncomputable def sliceL (l : List AV) (lo hi : Option Int) : List AV :=
  (l.drop (lo.elim 0 (clipAt l.length))).take (hi.elim l.length (clipAt l.length) - lo.elim 0 (clipAt l.length))
noncomputable def RPart (C : Cn) (e : Option Expr) (m : EM) : Prop := RG C V (evalPart e C.env) m
theorem RPart.no : RPart C none (eVal .none) := by
  intro A E Q s ρ σ lc r σ' ok eo ao F S e h
  cases e
  exact wpAny_pure (h _ _ _ (Post.refl S) .none)
theorem RPart.yes {e : Expr} {m} (he : RE C e m) : RPart C (some e) m := he
theorem isPart_of {ρ : List Addr} {h : Heap} {a : AV} {v : Value} {p : Option Int} (hv : V ρ h a v) (e : partOf a = some p) : IsPart v p := by
  cases a <;> cases e <;> cases hv
  · exact .none
  · exact .int _ _
noncomputable def eSlice (a lo hi : EM) : EM := fun lc σ => (a lc σ).bind fun p => (lo lc p.2).bind fun q => (hi lc q.2).bind fun r => (partOf q.1).bind fun x => (partOf r.1).bind fun y =>
  match p.1, (match p.1 with | .ref i => r.2[i]? | _ => none) with
  | .ref _, some (.list l) => if l.length ≤ 1000 then some (.ref r.2.length, r.2 ++ [.list (sliceL l x y)]) else none
  | _, _ => none
theorem Vs.slice {ρ : List Addr} {h : Heap} {l : List AV} {vs : Array Value} (x : Vs ρ h l vs.toList) (lo hi : Option Int) : Vs ρ h (sliceL l lo hi) (slicePick vs lo hi none).toList := by
  rw [slicePick_plain]
  have hsz : l.length = vs.size := by rw [x.length]; simp
  unfold sliceL
  rw [hsz]
  exact (x.drop _).take _
theorem RE.slice {value : Expr} {lower upper : Option Expr} {p pos : Pos} {ma ml mu} (ha : RE C value ma) (hlo : RPart C lower ml) (hup : RPart C upper mu) : RE C (.Subscript value (.Slice lower upper Option.none p) pos) (eSlice ma ml mu) := by
  intro A E Q s ρ σ lc r σ' ok eo ao F S e h
  refine bindS e fun a σ₁ e1 e => ?_
  refine bindS e fun b σ₂ e2 e => ?_
  refine bindS e fun c σ₃ e3 e => ?_
  refine bind1 e fun x e4 e => ?_
  refine bind1 e fun y e5 e => ?_
  cases a <;> simp only [] at e <;> try exact nos e
  rename_i i
  split at e
  · rename_i l heq hl
    split at e
    · rename_i hn
      cases e
      refine Subscript_ (ha ok eo ao F S e1 fun va s₁ ρ₁ P₁ V₁ => wpAny_Slice (hlo ok eo ao (F.post S P₁) P₁.st e2 fun vb s₂ ρ₂ P₂ V₂ => hup ok eo ao ((F.post S P₁).post P₁.st P₂) P₂.st e3 fun vc s₃ ρ₃ P₃ V₃ => ?_))
      rw [evalPart_none]
      refine wpAny_pure ?_
      have V₁' := P₃.v P₂.st (P₂.v P₁.st V₁)
      have V₂' := P₃.v P₂.st V₂
      have P₁₃ := (P₁.transR P₂).transR P₃
      have P₄ : Post C.X (· ∈ ρ₃) ρ₃ s₃ ρ₃ _ { s₃ with heap := s₃.heap.push { cls := .type "slice", data := .fields #[vb, vc, .none] } } := Post.keeps P₃.st keepPush
      obtain ⟨b, vs, n, rfl, _, eb, rl⟩ := P₄.st.list (P₄.v P₃.st V₁') hl
      have hsz : vs.size ≤ sizeLine := small_line (by have : l.length = vs.size := by { rw [rl.length]; simp }
                                                      lia)
      refine tail_any (s := { s₃ with heap := s₃.heap.push { cls := .type "slice", data := .fields #[vb, vc, .none] } }) (T := "list") ⟨_, eb, rfl⟩ slot_list_getitem.lookup (wpAny_getItem_list_slice (isListOf eb) (Heap.IsSliceOf.new ..) (isPart_of V₂' e4) (isPart_of V₃ e5) .none (by simp) ?_ hsz) rfl
      exact h _ _ _ (P₁₃.transR (P₄.transR (Post.newList P₄.st (rl.slice x y)))) (V.newRef P₄.st)
    · exact nos e
  · exact nos e
/-- script[lo:hi] -/
noncomputable def eSliceRaw (sa : Addr) (sl : List Int) (a lo hi : EM) : EM := fun lc σ => (a lc σ).bind fun p => (lo lc p.2).bind fun q => (hi lc q.2).bind fun r => (partOf q.1).bind fun x => (partOf r.1).bind fun y =>
  match p.1 with
  | .raw b => if b = sa ∧ sl.length ≤ 1000 then some (.ref r.2.length, r.2 ++ [.list (sliceL (sl.map .int) x y)]) else none
  | _ => none
theorem RE.sliceRaw {value : Expr} {lower upper : Option Expr} {p pos : Pos} {ma ml mu} (ha : RE C value ma) (hlo : RPart C lower ml) (hup : RPart C upper mu) : RE C (.Subscript value (.Slice lower upper Option.none p) pos) (eSliceRaw C.X.sa C.X.sl ma ml mu) := by
  intro A E Q s ρ σ lc r σ' ok eo ao F S e h
  refine bindS e fun a σ₁ e1 e => ?_
  refine bindS e fun b σ₂ e2 e => ?_
  refine bindS e fun c σ₃ e3 e => ?_
  refine bind1 e fun x e4 e => ?_
  refine bind1 e fun y e5 e6 => ?_
  cases a <;> simp only [] at e6 <;> try exact nos e6
  rename_i i
  split at e6
  · rename_i hn
    obtain ⟨hi, hn⟩ := hn
    subst hi
    cases e6
    refine Subscript_ (ha ok eo ao F S e1 fun va s₁ ρ₁ P₁ V₁ => wpAny_Slice (hlo ok eo ao (F.post S P₁) P₁.st e2 fun vb s₂ ρ₂ P₂ V₂ => hup ok eo ao ((F.post S P₁).post P₁.st P₂) P₂.st e3 fun vc s₃ ρ₃ P₃ V₃ => ?_))
    rw [evalPart_none]
    refine wpAny_pure ?_
    have V₂' := P₃.v P₂.st V₂
    have P₁₃ := (P₁.transR P₂).transR P₃
    have P₄ : Post C.X (· ∈ ρ₃) ρ₃ s₃ ρ₃ _ { s₃ with heap := s₃.heap.push { cls := .type "slice", data := .fields #[vb, vc, .none] } } := Post.keeps P₃.st keepPush
    cases V₁
    obtain ⟨vs, ⟨ob, eb, ec, n, ed⟩, rl⟩ := ok.script
    have rl := rl ρ₃ (s₃.heap.push { cls := .type "slice", data := .fields #[vb, vc, .none] })
    have eb := P₄.st.keep _ _ eb
    have hsz : vs.size ≤ sizeLine := small_line (by have : (C.X.sl.map AV.int).length = vs.size := by { rw [rl.length]; simp }
                                                    simp at this; lia)
    refine tail_any (s := { s₃ with heap := s₃.heap.push { cls := .type "slice", data := .fields #[vb, vc, .none] } }) (T := "list") ⟨_, eb, ec⟩ slot_list_getitem.lookup (wpAny_getItem_list_slice (items := vs) ⟨_, eb, ec, n, ed⟩ (Heap.IsSliceOf.new ..) (isPart_of V₂' e4) (isPart_of V₃ e5) .none (by simp) ?_ hsz) rfl
    exact h _ _ _ (P₁₃.transR (P₄.transR (Post.newList P₄.st (rl.slice x y)))) (V.newRef P₄.st)
  · exact nos e6
/-- l[::-1] -/
noncomputable def eRev (a : EM) : EM := fun lc σ => (a lc σ).bind fun p =>
  match p.1, (match p.1 with | .ref i => p.2[i]? | _ => none) with
  | .ref _, some (.list l) => if l.length ≤ 1000 then some (.ref p.2.length, p.2 ++ [.list l.reverse]) else none
  | _, _ => none
theorem RE.rev {value : Expr} {k : Nat} {p pos p1 p2 : Pos} {ma} (ha : RE C value ma) : RE C (.Subscript value (.Slice Option.none Option.none (Option.some (.UnaryOp .USub (.Constant (.int 1) k p1) p2)) p) pos) (eRev ma) := by
  intro A E Q s ρ σ lc r σ' ok eo ao F S e h
  refine bindS e fun a σ₁ e1 e => ?_
  cases a <;> simp only [] at e <;> try exact nos e
  rename_i i
  split at e
  · rename_i l heq hl
    split at e
    · rename_i hn
      cases e
      refine Subscript_ (ha ok eo ao F S e1 fun va s₁ ρ₁ P₁ V₁ => wpAny_Slice (wpAny_pure (wpAny_pure ?_)))
      have hneg : RE C (.UnaryOp .USub (.Constant (.int 1) k p1) p2) (eUn negA (eVal (.int 1))) := RE.un RE.int ROp1.neg
      refine hneg ok eo ao (F.post S P₁) P₁.st (r := .int (-1)) rfl fun vc s₃ ρ₃ P₃ V₃ => ?_
      have P₄ : Post C.X (· ∈ ρ₃) ρ₃ s₃ ρ₃ _ { s₃ with heap := s₃.heap.push { cls := .type "slice", data := .fields #[.none, .none, vc] } } := Post.keeps P₃.st keepPush
      obtain ⟨b, vs, n, rfl, _, eb, rl⟩ := P₄.st.list (P₄.v P₃.st (P₃.v P₁.st V₁)) hl
      have hsz : vs.size ≤ sizeLine := small_line (by have : l.length = vs.size := by { rw [rl.length]; simp }
                                                      lia)
      cases V₃ with
      | int _ t =>
        refine tail_any (s := { s₃ with heap := s₃.heap.push { cls := .type "slice", data := .fields #[.none, .none, .int (-1) t] } }) (T := "list") ⟨_, eb, rfl⟩ slot_list_getitem.lookup (wpAny_getItem_list_slice (isListOf eb) (Heap.IsSliceOf.new ..) .none .none (.int _ _) (by decide) ?_ hsz) rfl
        exact h _ _ _ ((P₁.transR P₃).transR (P₄.transR (Post.newList P₄.st (by rw [krv_pick]; exact rl.reverse)))) (V.newRef P₄.st)
    · exact nos e
  · exact nos e
end
end Mine
end
-- part FW5
section
open PySem PySem.W PySem.Calls PyProof.Rows
set_option maxRecDepth 100000
namespace Mine

/-- a call of a fixed value -/
noncomputable def RC (X : Cx) (lv : Nat) (f : Value) (F : FM) : Prop :=
  ∀ {A : Around} {E Q} {s : Shared} {ρ : List Addr} {σ : Store} {args : List AV} {vals : List Value} {r : AV} {σ' : Store}, X.Ok → AOk lv A → St X ρ σ s.heap → Vs ρ s.heap args vals → F args σ = some (r, σ') →
    (∀ v s' ρ', Post X (· ∈ ρ) ρ s ρ' σ' s' → V ρ' s'.heap r v → Q v s') → wpAny (model X.prog X.w) A (call f vals) Q E s
/-- a call, as code -/
noncomputable def RF (X : Cx) (lv : Nat) (f : Value) (F : FM) : Prop :=
  ∀ {A : Around} {R : Result → Shared → Prop} {s : Shared} {ρ : List Addr} {σ : Store} {args : List AV} {vals : List Value} {r : AV} {σ' : Store}, X.Ok → AOk lv A → St X ρ σ s.heap → Vs ρ s.heap args vals → F args σ = some (r, σ') →
    (∀ v s' ρ', Post X (· ∈ ρ) ρ s ρ' σ' s' → V ρ' s'.heap r v → R (.ok (.ret v)) s') → codeAny (model X.prog X.w) A (.call f ⟨vals, []⟩) R s
theorem RF.call {X : Cx} {lv : Nat} {f : Value} {F : FM} (h : RF X lv f F) : RC X lv f F := by
  intro A E Q s ρ σ args vals r σ' ok ao S hv e hq
  exact wpAny_call (h ok ao S hv e fun v s' ρ' P W => hq v s' ρ' P W)

theorem any_plain {env : Env} {pos : Pos} : ∀ {es : List Expr}, es.all plainE = true → (backTo pos (starEach es env)).any (·.1) = false
  | [], _ => rfl
  | e :: es, h => by
    have h' : plainE e = true ∧ es.all plainE = true := by simpa using h
    rw [starEach_plain h'.1]
    show (false || (backTo pos (starEach es env)).any (·.1)) = false
    rw [any_plain h'.2]; rfl
theorem evalArgs_of {M : Model} {A : Around} {E : Value → Shared → Prop} {s : Shared} {env : Env} {pos : Pos} {f : Value} {es : List Expr} {Q : Args → Shared → Prop} (hp : es.all plainE = true)
    (h : wpAny M A (spliced (backTo pos (starEach es env))) (fun vs s' => Q ⟨vs, []⟩ s') E s) : wpAny M A (evalArgs f true (backTo pos (starEach es env)) []) Q E s := by
  cases es with
  | nil =>
    unfold evalArgs
    show wpAny M A (spliced [] >>= _) Q E s
    refine wpAny_bind (wpAny_mono h (fun vs s' h' => ?_) fun _ _ x => x)
    refine wpAny_holding ?_
    exact wpAny_bind (wpAny_pure (wpAny_bind (wpAny_pure (wpAny_pure h'))))
  | cons e es =>
    have h' : plainE e = true := by simp only [List.all_cons, Bool.and_eq_true] at hp; exact hp.1
    rw [starEach_plain h'] at h ⊢
    exact Calls.evalArgs_plain h

noncomputable def eCall (F : FM) (a : Lc → Store → Option (List AV × Store)) : EM := fun lc σ => (a lc σ).bind fun p => F p.1 p.2
section
variable {C : Cn}
/-- f(..), f a def or a class of the text's top -/
theorem RE.call {id : Str} {p pos : Pos} {es : List Expr} {f : Value} {F : FM} {m} (hx : C.env.kindOf id = some .globalImplicit) (hd : (id == ("__debug__" : Str)) = false) (hk : nsIn C.X.K mainGlobals id = some (some f)) (hf : keepIn C.X.K f = true)
    (hF : RC C.X C.lv f F) (ha : RArgs C pos es m) (hp : es.all plainE = true := by rfl) : RE C (.Call (.Name id p) es [] pos) (eCall F m) := by
  intro A E Q s ρ σ lc r σ' ok eo ao FR S e h
  refine bindS e fun l σ₁ e1 e => ?_
  have hg := ok.g.keeps S.keep
  refine wpAny_Call_Name_kw (Calls.Name_function_global eo.kind hx (Calls.loadGlobal_global (by rw [eo.glob]; exact hg) (mg_of ok.K ok.g hk) ?_) hd)
  show wpAny _ _ (callWith pos f [] (backTo pos (starEach es C.env)) []) _ _ _
  refine callWith_of (P := C.X.K.In) (by rw [any_plain hp]; rfl) (keeps_K hf) (evalArgs_of hp (ha ok eo ao FR S e1 fun vs s₁ ρ₁ P₁ V₁ => ⟨ok.K.keeps P₁.st.keep, ?_⟩))
  exact hF ok ao P₁.st V₁ e fun v s₂ ρ₂ P₂ V₂ => h _ _ _ (P₁.transR P₂) V₂
/-- f(..), f a built-in function -/
theorem RE.callB {id : Str} {bid : String} {p pos : Pos} {es : List Expr} {F : FM} {m} (hx : C.env.kindOf id = some .globalImplicit) (hd : (id == ("__debug__" : Str)) = false) (hn : id ≠ ("__name__" : Str)) (hk : nsIn C.X.K mainGlobals id = some none) (hb : bootBuiltins id = some (.builtin bid))
    (hF : RC C.X C.lv (.builtin bid) F) (ha : RArgs C pos es m) (hp : es.all plainE = true := by rfl) : RE C (.Call (.Name id p) es [] pos) (eCall F m) := by
  intro A E Q s ρ σ lc r σ' ok eo ao FR S e h
  refine bindS e fun l σ₁ e1 e => ?_
  refine wpAny_Call_Name_kw (Calls.Name_function_global eo.kind hx (Calls.loadGlobal_builtin (by rw [eo.glob]; exact ok.g.keeps S.keep) (mg_none_of ok.K ok.g hk) (by rw [eo.blt]; exact ok.b.keeps S.keep) ((ok.boot id hn).trans hb) ?_) hd)
  refine Calls.callWith_builtin (any_plain hp) (evalArgs_of hp (ha ok eo ao FR S e1 fun vs s₁ ρ₁ P₁ V₁ => ?_))
  exact hF ok ao P₁.st V₁ e fun v s₂ ρ₂ P₂ V₂ => h _ _ _ (P₁.transR P₂) V₂
/-- T(..), T a built-in type -/
theorem RE.callT {id : Str} {T : String} {p pos : Pos} {es : List Expr} {F : FM} {m} (hx : C.env.kindOf id = some .globalImplicit) (hd : (id == ("__debug__" : Str)) = false) (hn : id ≠ ("__name__" : Str)) (hk : nsIn C.X.K mainGlobals id = some none) (hb : bootBuiltins id = some (.type T))
    (hF : RC C.X C.lv (.type T) F) (ha : RArgs C pos es m) (hp : es.all plainE = true := by rfl) : RE C (.Call (.Name id p) es [] pos) (eCall F m) := by
  intro A E Q s ρ σ lc r σ' ok eo ao FR S e h
  refine bindS e fun l σ₁ e1 e => ?_
  refine wpAny_Call_Name_kw (Calls.Name_function_global eo.kind hx (Calls.loadGlobal_builtin (by rw [eo.glob]; exact ok.g.keeps S.keep) (mg_none_of ok.K ok.g hk) (by rw [eo.blt]; exact ok.b.keeps S.keep) ((ok.boot id hn).trans hb) ?_) hd)
  refine PySem.callWith_type (any_plain hp) (evalArgs_of hp (ha ok eo ao FR S e1 fun vs s₁ ρ₁ P₁ V₁ => ?_))
  exact hF ok ao P₁.st V₁ e fun v s₂ ρ₂ P₂ V₂ => h _ _ _ (P₁.transR P₂) V₂
end

section
variable {X : Cx} {lv : Nat}
theorem Vs.one {ρ : List Addr} {h : Heap} {x : AV} {vs : List Value} (V₁ : Vs ρ h [x] vs) : ∃ v, vs = [v] ∧ V ρ h x v := by
  cases V₁ with | cons a b => cases b; exact ⟨_, rfl, a⟩
theorem Vs.two {ρ : List Addr} {h : Heap} {x y : AV} {vs : List Value} (V₁ : Vs ρ h [x, y] vs) : ∃ v w, vs = [v, w] ∧ V ρ h x v ∧ V ρ h y w := by
  cases V₁ with | cons a b => obtain ⟨w, rfl, c⟩ := b.one; exact ⟨_, _, rfl, a, c⟩
/-- lists of one and of two told apart -/
theorem list_one {p : List AV → Prop} {l : List AV} (h : p l) (h0 : p [] → False) (h2 : ∀ x y l, p (x :: y :: l) → False) : ∃ x, l = [x] := by
  match l with
  | [] => exact (h0 h).elim
  | [x] => exact ⟨x, rfl⟩
  | x :: y :: l => exact (h2 _ _ _ h).elim
theorem list_two {p : List AV → Prop} {l : List AV} (h : p l) (h0 : p [] → False) (h1 : ∀ x, p [x] → False) (h3 : ∀ x y z l, p (x :: y :: z :: l) → False) : ∃ x y, l = [x, y] := by
  match l with
  | [] => exact (h0 h).elim
  | [x] => exact (h1 _ h).elim
  | [x, y] => exact ⟨x, y, rfl⟩
  | x :: y :: z :: l => exact (h3 _ _ _ _ h).elim
noncomputable def fLen : FM
  | [.ref i], σ => match σ[i]? with
    | some (.list l) => if l.length ≤ 1000 then some (.int l.length, σ) else none
    | _ => none
  | _, _ => none
theorem RC.len : RC X lv (.builtin "len") fLen := by
  intro A E Q s ρ σ args vals r σ' ok ao S hv e h
  obtain ⟨x, rfl⟩ := list_one (p := fun l => fLen l σ = some (r, σ')) e (fun e => nos e) fun x y l e => by cases x <;> exact nos e
  obtain ⟨v, rfl, ha⟩ := hv.one
  cases x with
  | none => exact nos e | bool _ => exact nos e | int _ => exact nos e | str _ => exact nos e | tup _ => exact nos e | raw _ => exact nos e
  | ref i =>
    simp only [fLen] at e
    split at e
    · rename_i l hl
      split at e
      · rename_i hn
        cases e
        obtain ⟨b, vs, n, rfl, _, eb, rl⟩ := S.list ha hl
        have hsz : l.length = vs.size := by rw [rl.length]; simp
        refine Calls.call_len_list (isListOf eb) (by lia) ?_
        rw [← hsz]
        exact h _ _ _ (Post.keeps S fun _ _ e => e) (.int _ _)
      · exact nos e
    · exact nos e
noncomputable def fMax : FM
  | [.int a, .int b], σ => some (.int (if b > a then b else a), σ)
  | _, _ => none
theorem RC.max : RC X lv (.builtin "max") fMax := by
  intro A E Q s ρ σ args vals r σ' ok ao S hv e h
  obtain ⟨x, y, rfl⟩ := list_two (p := fun l => fMax l σ = some (r, σ')) e (fun e => nos e) (fun x e => by cases x <;> exact nos e) fun x y z l e => by cases x <;> first | exact nos e | (cases y <;> exact nos e)
  obtain ⟨v, w, rfl, ha, hb⟩ := hv.two
  cases x with
  | none => exact nos e | bool _ => exact nos e | ref _ => exact nos e | str _ => exact nos e | tup _ => exact nos e | raw _ => exact nos e
  | int a =>
    cases y with
    | none => exact nos e | bool _ => exact nos e | ref _ => exact nos e | str _ => exact nos e | tup _ => exact nos e | raw _ => exact nos e
    | int b =>
    cases e; cases ha; cases hb
    refine max_two_ints ao.1 fun h' tk hk => ?_
    split
    · rename_i c
      exact h _ _ _ (Post.keeps S hk) (by rw [if_pos c]; exact .int _ _)
    · rename_i c
      exact h _ _ _ (Post.keeps S hk) (by rw [if_neg c]; exact .int _ _)
noncomputable def fMin : FM
  | [.int a, .int b], σ => some (.int (if b < a then b else a), σ)
  | _, _ => none
theorem RC.min : RC X lv (.builtin "min") fMin := by
  intro A E Q s ρ σ args vals r σ' ok ao S hv e h
  obtain ⟨x, y, rfl⟩ := list_two (p := fun l => fMin l σ = some (r, σ')) e (fun e => nos e) (fun x e => by cases x <;> exact nos e) fun x y z l e => by cases x <;> first | exact nos e | (cases y <;> exact nos e)
  obtain ⟨v, w, rfl, ha, hb⟩ := hv.two
  cases x with
  | none => exact nos e | bool _ => exact nos e | ref _ => exact nos e | str _ => exact nos e | tup _ => exact nos e | raw _ => exact nos e
  | int a =>
    cases y with
    | none => exact nos e | bool _ => exact nos e | ref _ => exact nos e | str _ => exact nos e | tup _ => exact nos e | raw _ => exact nos e
    | int b =>
    cases e; cases ha; cases hb
    refine min_two_ints ao.1 fun h' tk hk => ?_
    split
    · rename_i c
      exact h _ _ _ (Post.keeps S hk) (by rw [if_pos c]; exact .int _ _)
    · rename_i c
      exact h _ _ _ (Post.keeps S hk) (by rw [if_neg c]; exact .int _ _)
noncomputable def fInt : FM
  | [.int a], σ => some (.int a, σ)
  | [.bool b], σ => some (.int (if b then 1 else 0), σ)
  | _, _ => none
theorem RC.int : RC X lv (.type "int") fInt := by
  intro A E Q s ρ σ args vals r σ' ok ao S hv e h
  obtain ⟨x, rfl⟩ := list_one (p := fun l => fInt l σ = some (r, σ')) e (fun e => nos e) fun x y l e => by cases x <;> exact nos e
  obtain ⟨v, rfl, ha⟩ := hv.one
  cases x with
  | none => exact nos e | ref _ => exact nos e | str _ => exact nos e | tup _ => exact nos e | raw _ => exact nos e
  | int a =>
    cases e; cases ha
    exact call_int_int (h _ _ _ (Post.refl S) (.int _ _))
  | bool b =>
    cases e; cases ha
    exact call_int_bool (h _ _ _ (Post.keeps S fun _ _ e => e) (.int _ _))
noncomputable def fTuple : FM
  | [.tup l], σ => some (.tup l, σ)
  | _, _ => none
theorem RC.tuple : RC X lv (.type "tuple") fTuple := by
  intro A E Q s ρ σ args vals r σ' ok ao S hv e h
  obtain ⟨x, rfl⟩ := list_one (p := fun l => fTuple l σ = some (r, σ')) e (fun e => nos e) fun x y l e => by cases x <;> exact nos e
  obtain ⟨v, rfl, ha⟩ := hv.one
  cases x with
  | none => exact nos e | bool _ => exact nos e | int _ => exact nos e | str _ => exact nos e | ref _ => exact nos e | raw _ => exact nos e
  | tup l =>
    cases e
    cases ha with
    | tup e rl => exact call_tuple_same ⟨_, e, rfl, _, rfl⟩ (h _ _ _ (Post.refl S) (.tup e rl))
noncomputable def fList : FM
  | [.tup l], σ => if l.length ≤ 1000 then some (.ref σ.length, σ ++ [.list l]) else none
  | [.ref i], σ => match σ[i]? with
    | some (.list l) => if l.length ≤ 1000 then some (.ref σ.length, σ ++ [.list l]) else none
    | _ => none
  | _, _ => none
theorem RC.list : RC X lv (.type "list") fList := by
  intro A E Q s ρ σ args vals r σ' ok ao S hv e h
  obtain ⟨x, rfl⟩ := list_one (p := fun l => fList l σ = some (r, σ')) e (fun e => nos e) fun x y l e => by cases x <;> exact nos e
  obtain ⟨v, rfl, ha⟩ := hv.one
  cases x with
  | none => exact nos e | bool _ => exact nos e | int _ => exact nos e | str _ => exact nos e | raw _ => exact nos e
  | tup l =>
    simp only [fList] at e
    split at e
    · rename_i hn
      cases e
      cases ha with
      | @tup a vs n _ ea rl =>
        have hsz : l.length = vs.size := by rw [rl.length]; simp
        refine call_list_seq a (.inr rfl) ea rfl rfl (fun h' c' hk hl => ?_) (small_line (by lia))
        refine h _ _ _ (Post.new (ao := .list l) S get_none_size hl hk ⟨vs, c', rfl, rl.mono (.of hk) fun i b e => ?_⟩) (V.newRef S)
        rw [List.getElem?_append_left (List.getElem?_eq_some_iff.mp e).1]; exact e
    · exact nos e
  | ref i =>
    simp only [fList] at e
    split at e
    · rename_i l hl
      split at e
      · rename_i hn
        cases e
        obtain ⟨b, vs, n, rfl, _, eb, rl⟩ := S.list ha hl
        have hsz : l.length = vs.size := by rw [rl.length]; simp
        refine call_list_seq b (.inl rfl) eb rfl rfl (fun h' c' hk hl => ?_) (small_line (by lia))
        refine h _ _ _ (Post.new (ao := .list l) S get_none_size hl hk ⟨vs, c', rfl, rl.mono (.of hk) fun i b e => ?_⟩) (V.newRef S)
        rw [List.getElem?_append_left (List.getElem?_eq_some_iff.mp e).1]; exact e
      · exact nos e
    · exact nos e

/- attributes of instances -/
noncomputable def getAttrA (K : Frag) (name : Str) : AV → Store → Option (AV × Store)
  | .ref i, σ => match σ[i]? with
    | some (.inst C d) => if plainGet K C name = true ∧ hasDictIn K C = true ∧ findIn K (.ref C) name = some none then (match σ[d]? with
      | some (.ns kvs) => (kvs.lookup name).map fun v => (v, σ)
      | _ => none) else none
    | _ => none
  | _, _ => none
theorem NV.getL_some {ρ : List Addr} {h : Heap} {kvs : List (Str × AV)} {es : List DictEntry} (x : NV ρ h kvs es) {k : Str} {d : AV} (e : kvs.lookup k = some d) : ∃ v, getL k es = some (some v) ∧ V ρ h d v := by
  have key : ∃ v, (∃ en, es.find? (·.key.isStr k) = some en ∧ en.val = v) ∧ V ρ h d v := by
    induction x with
    | nil => exact nos e
    | @cons y t hs d' v kvs es hv _ ih =>
      by_cases q : k = y
      · subst q
        simp at e
        subst e
        exact ⟨v, ⟨⟨hs, .str k t, v⟩, by rw [List.find?_cons]; simp [Value.isStr], rfl⟩, hv⟩
      · have q' : (k == y) = false := by simpa using q
        rw [List.lookup_cons, q'] at e
        obtain ⟨w, ⟨en, a, a'⟩, b⟩ := ih e
        have q2 : (y == k) = false := by simpa using fun z => q z.symm
        exact ⟨w, ⟨en, by rw [List.find?_cons]; simp only [Value.isStr, q2]; exact a, a'⟩, b⟩
  obtain ⟨v, ⟨en, a, rfl⟩, b⟩ := key
  exact ⟨_, by unfold getL; rw [a], b⟩
theorem NV.getL_none {ρ : List Addr} {h : Heap} {kvs : List (Str × AV)} {es : List DictEntry} (x : NV ρ h kvs es) {k : Str} (e : kvs.lookup k = none) : getL k es = some none := by
  have key : es.find? (·.key.isStr k) = none ∧ es.any (·.refKey) = false := by
    induction x with
    | nil => exact ⟨rfl, rfl⟩
    | @cons y t hs d' v kvs es hv _ ih =>
      by_cases q : k = y
      · subst q
        simp at e
      · have q' : (k == y) = false := by simpa using q
        rw [List.lookup_cons, q'] at e
        obtain ⟨a, b⟩ := ih e
        have q2 : (y == k) = false := by simpa using fun z => q z.symm
        exact ⟨by rw [List.find?_cons]; simp only [Value.isStr, q2]; exact a, by rw [List.any_cons, b]; rfl⟩
  unfold getL
  rw [key.1, key.2]; rfl
theorem St.inst {ρ : List Addr} {σ : Store} {h : Heap} (S : St X ρ σ h) {i : Nat} {v : Value} {C : Addr} {d : Nat} {kvs : List (Str × AV)} (hv : V ρ h (.ref i) v) (hi : σ[i]? = some (.inst C d)) (hd : σ[d]? = some (.ns kvs)) :
    ∃ (a dx : Addr) (es : List DictEntry) (n : Nat), v = .ref a ∧ ρ[i]? = some a ∧ ρ[d]? = some dx ∧ h.get? a = some (instObj C dx) ∧ h.get? dx = some (dictOf es n) ∧
      NV ρ h kvs es ∧ InstAt h a (instObj C dx) C (some (dictOf es n)) := by
  cases hv with
  | ref ha =>
    obtain ⟨a', o, q1, q2, dx, rfl, q3⟩ := S.obj _ _ hi
    rw [ha] at q1; cases q1
    obtain ⟨dx', od, p1, p2, es, n, rfl, p3⟩ := S.obj _ _ hd
    rw [q3] at p1; cases p1
    exact ⟨_, _, es, n, rfl, ha, q3, q2, p2, p3, q2, rfl, rfl, p2⟩
theorem V.handed {ρ : List Addr} {h : Heap} {d : AV} {v : Value} (x : V ρ h d v) : handedIn v = true := by cases x <;> rfl
theorem RO1.getAttr {name : Str} {expr : Bool} : ROp1 X lv (fun o => getAttr o name expr) (getAttrA X.K name) := by
  intro A E Q s ρ σ a va r σ' ok ao S ha e h
  cases a <;> try exact nos e
  rename_i i
  simp only [getAttrA] at e
  split at e
  · rename_i C d hi
    split at e
    · rename_i hK
      split at e
      · rename_i kvs hd
        refine map1 e fun v e1 e => ?_
        cases e
        obtain ⟨b, dx, es, n, rfl, _, _, hb, hdx, hm, I⟩ := S.inst ha hi hd
        obtain ⟨w, hw, hV⟩ := hm.getL_some e1
        refine get_value (ok.K.keeps S.keep) I (plainGet_of hK.1).1 (findObj_own hK.2.1 hK.2.2 rfl (by rw [lookIn_dict, hw])) hV.handed (h _ _ _ (Post.keeps S fun _ _ e => e) hV)
      · exact nos e
    · exact nos e
  · exact nos e
end
section
variable {C : Cn}
theorem RE.attr {value : Expr} {attr : Str} {pos : Pos} {m} (hv : RE C value m)
    (he : eval (.Attribute value attr pos) C.env = (do
      let o ← eval value C.env
      standAt pos.atName
      let r ← holding [o] (getAttr o attr true)
      letTemporaryGo value o r
      pure r) := by with_unfolding_all rfl) : RE C (.Attribute value attr pos) (eUn (getAttrA C.X.K attr) m) := by
  intro A E Q s ρ σ lc r σ' ok eo ao F S e h
  refine bindS e fun a σ₁ e1 e => ?_
  refine Attribute_any_ (hv ok eo ao F S e1 fun va s₁ ρ₁ P₁ V₁ => ?_) he
  exact RO1.getAttr (X := C.X) (lv := C.lv) ok ao P₁.st V₁ e fun v s₃ ρ₃ P₃ V₃ => h v s₃ ρ₃ (P₁.transR P₃) V₃
end
end Mine
end
-- part FW6
section
open PySem PySem.W PySem.Calls PyProof.Rows
set_option maxRecDepth 100000
namespace Mine

section
variable {C : Cn}
/-- o.name(..), o made of the class Cl, name a def f of it -/
noncomputable def eMeth (Cl : Addr) (name : Str) (F : FM) (a : EM) (b : Lc → Store → Option (List AV × Store)) : EM := fun lc σ => (a lc σ).bind fun p =>
  match p.1 with
  | .ref i => match p.2[i]? with
    | some (.inst D d) => match p.2[d]? with
      | some (.ns kvs) => if D = Cl ∧ kvs.lookup name = none then (b lc p.2).bind fun q => F (p.1 :: q.1) q.2 else none
      | _ => none
    | _ => none
  | _ => none
theorem RE.meth {o : Expr} {name : Str} {apos pos : Pos} {es : List Expr} {pl : Sem Bool} {Cl f : Addr} {F : FM} {ma mb} (ho : RE C o ma) (hg : plainGet C.X.K Cl name = true) (hf : findIn C.X.K (.ref Cl) name = some (some (.ref f))) (ht : isFn C.X.K (.ref f) = true)
    (hk : keepIn C.X.K (.ref f) = true) (hF : RC C.X C.lv (.ref f) F) (ha : RArgs C pos es mb)
    (he : eval (.Call (.Attribute o name apos) es [] pos) C.env = (do
      let ov ← eval o C.env
      standAt apos.atName
      let (f, first) ← holding [ov] (getMethod ov name pl)
      callWith pos f first (backTo pos (starEach es C.env)) [])) (hp : es.all plainE = true := by rfl) :
    RE C (.Call (.Attribute o name apos) es [] pos) (eMeth Cl name F ma mb) := by
  intro A E Q s ρ σ lc r σ' ok eo ao FR S e₀ h
  refine bindS e₀ fun a σ₁ e1 e => ?_
  cases a <;> simp only [] at e <;> try exact nos e
  rename_i i
  split at e
  · rename_i D d hi
    split at e
    · rename_i kvs hd
      split at e
      · rename_i hc
        obtain ⟨rfl, hl⟩ := hc
        refine bindS e fun l σ₂ e2 e => ?_
        refine MethodCall_ (pl := pl) (ho ok eo ao FR S e1 fun va s₁ ρ₁ P₁ V₁ => ?_) he
        obtain ⟨b, dx, des, n, rfl, hbi, _, hb, hdx, hm, I⟩ := P₁.st.inst V₁ hi hd
        have hmm := hm.getL_none hl
        refine method_fn (ok.K.keeps P₁.st.keep) I (plainGet_of hg).1 (plainGet_of hg).2 hf (beq_iff_eq.mp ht) (by show (lookIn name (dictOf des n)).map _ = _; rw [lookIn_dict, hmm]; rfl) ?_
        refine callWith_of (P := C.X.K.In) (by rw [any_plain hp]; rfl) (keeps_K hk) (evalArgs_of hp (ha ok eo ao (FR.post S P₁) P₁.st e2 fun vs s₂ ρ₂ P₂ V₂ => ⟨ok.K.keeps P₂.st.keep, ?_⟩))
        exact hF ok ao P₂.st (.cons (P₂.v P₁.st V₁) V₂) e fun v s₃ ρ₃ P₃ V₃ => h _ _ _ ((P₁.transR P₂).transR P₃) V₃
      · exact nos e
    · exact nos e
  · exact nos e
/-- a method of a built-in list -/
noncomputable def eMethL (F : FM) (a : EM) (b : Lc → Store → Option (List AV × Store)) : EM := fun lc σ => (a lc σ).bind fun p =>
  match p.1 with
  | .ref i => match p.2[i]? with
    | some (.list _) => (b lc p.2).bind fun q => F (p.1 :: q.1) q.2
    | _ => none
  | _ => none
theorem RE.methL {o : Expr} {name : Str} {id : String} {apos pos : Pos} {es : List Expr} {pl : Sem Bool} {F : FM} {ma mb} (ho : RE C o ma) (slot : PySem.Slot "list" name id) (ty : typeOf (.builtin id) = pure (.type "method_descriptor"))
    (hF : RC C.X C.lv (.builtin id) F) (ha : RArgs C pos es mb)
    (he : eval (.Call (.Attribute o name apos) es [] pos) C.env = (do
      let ov ← eval o C.env
      standAt apos.atName
      let (f, first) ← holding [ov] (getMethod ov name pl)
      callWith pos f first (backTo pos (starEach es C.env)) [])) (hp : es.all plainE = true := by rfl) :
    RE C (.Call (.Attribute o name apos) es [] pos) (eMethL F ma mb) := by
  intro A E Q s ρ σ lc r σ' ok eo ao FR S e₀ h
  refine bindS e₀ fun a σ₁ e1 e => ?_
  cases a <;> simp only [] at e <;> try exact nos e
  rename_i i
  split at e
  · rename_i l₀ hi
    refine bindS e fun l σ₂ e2 e => ?_
    refine MethodCall_ (pl := pl) (ho ok eo ao FR S e1 fun va s₁ ρ₁ P₁ V₁ => ?_) he
    obtain ⟨b, vs, n, rfl, _, eb, rl⟩ := P₁.st.list V₁ hi
    refine getMethod_builtin (T := "list") ⟨_, eb, rfl⟩ PySem.F.plainAttrs_list slot ty (fun a q => by cases q; exact ⟨_, eb, rfl⟩) ?_
    refine Calls.callWith_builtin (any_plain hp) (evalArgs_of hp (ha ok eo ao (FR.post S P₁) P₁.st e2 fun vs s₂ ρ₂ P₂ V₂ => ?_))
    exact hF ok ao P₂.st (.cons (P₂.v P₁.st V₁) V₂) e fun v s₃ ρ₃ P₃ V₃ => h _ _ _ ((P₁.transR P₂).transR P₃) V₃
  · exact nos e
end

section
variable {X : Cx} {lv : Nat}
theorem Vs.push {ρ : List Addr} {h : Heap} {l : List AV} {vs : List Value} (x : Vs ρ h l vs) {d : AV} {v : Value} (y : V ρ h d v) : Vs ρ h (l ++ [d]) (vs ++ [v]) := x.append (.cons y .nil)
/-- a list of the store turned by an update of its items -/
theorem Post.setList {ρ : List Addr} {σ : Store} {s : Shared} {i : Nat} {a : Addr} {l : List AV} {vs : Array Value} {n : Nat} {f : Array Value → Array Value} {tk : Nat} (S : St X ρ σ s.heap) (hi : ρ[i]? = some a) (ea : s.heap.get? a = some { cls := .type "list", data := .seq vs n })
    (hv : Vs ρ s.heap l (f vs).toList) : Post X (· ∈ ρ) ρ s ρ (σ.set i (.list l)) { s with heap := s.heap.update a (Obj.mapSeq f), toks := tk } := by
  have hk : ∀ b o, b ≠ a → s.heap.get? b = some o → (s.heap.update a (Obj.mapSeq f)).get? b = some o := fun b o n e => (Heap.get?_update_other s.heap (Obj.mapSeq f) (Ne.symm n)).trans e
  have ht : KeepT s.heap (s.heap.update a (Obj.mapSeq f)) := fun b o e t => hk b o (by rintro rfl; rw [ea] at e; cases e; obtain ⟨_, _, t⟩ := t; have := congrArg Obj.cls t; simp at this) e
  exact Post.set S hi (IsL.update (h := s.heap) ea f) hk ⟨_, _, rfl, hv.mono ht fun _ _ e => e⟩
noncomputable def fAppend : FM
  | [.ref i, x], σ => match σ[i]? with
    | some (.list l) => if l.length ≤ 1000 then some (.none, σ.set i (.list (l ++ [x]))) else none
    | _ => none
  | _, _ => none
theorem RC.append : RC X lv (.builtin "list.append") fAppend := by
  intro A E Q s ρ σ args vals r σ' ok ao S hv e h
  obtain ⟨y, x, rfl⟩ := list_two (p := fun l => fAppend l σ = some (r, σ')) e (fun e => nos e) (fun x e => by cases x <;> exact nos e) fun x y z l e => by cases x <;> exact nos e
  obtain ⟨v, w, rfl, ha, hx⟩ := hv.two
  cases y with
  | none => exact nos e | bool _ => exact nos e | int _ => exact nos e | str _ => exact nos e | tup _ => exact nos e | raw _ => exact nos e
  | ref i =>
    simp only [fAppend] at e
    split at e
    · rename_i l hl
      split at e
      · rename_i hn
        cases e
        obtain ⟨b, vs, n, rfl, hi, eb, rl⟩ := S.list ha hl
        have hsz : l.length = vs.size := by rw [rl.length]; simp
        refine call_meets slot_list_append (T := "list") ⟨_, eb, rfl⟩ entry_list_append (args_list_append _ _) (list_append b vs n _ (small_line (by lia))) ⟨eb, ?_⟩
        exact h _ _ _ (Post.setList S hi eb (by rw [Array.toList_push]; exact rl.push hx)) .none
      · exact nos e
    · exact nos e
noncomputable def fPop : FM
  | [.ref i], σ => match σ[i]? with
    | some (.list l) => if l.length ≤ 1000 then (l.getLast?).map fun x => (x, σ.set i (.list l.dropLast)) else none
    | _ => none
  | _, _ => none
theorem erase_last (vs : Array Value) (h : 0 < vs.size) : (vs.eraseIdxIfInBounds (vs.size - 1)).toList = vs.toList.dropLast := by
  obtain ⟨l⟩ := vs
  simp only [List.size_toArray] at h ⊢
  unfold Array.eraseIdxIfInBounds
  rw [dif_pos (by simpa using (by omega : l.length - 1 < l.length))]
  simp [List.dropLast_eq_take, List.eraseIdx_eq_take_drop_succ]
  omega
theorem RC.pop : RC X lv (.builtin "list.pop") fPop := by
  intro A E Q s ρ σ args vals r σ' ok ao S hv e h
  obtain ⟨x, rfl⟩ := list_one (p := fun l => fPop l σ = some (r, σ')) e (fun e => nos e) fun x y l e => by cases x <;> exact nos e
  obtain ⟨v, rfl, ha⟩ := hv.one
  cases x with
  | none => exact nos e | bool _ => exact nos e | int _ => exact nos e | str _ => exact nos e | tup _ => exact nos e | raw _ => exact nos e
  | ref i =>
    simp only [fPop] at e
    split at e
    · rename_i l hl
      split at e
      · rename_i hn
        refine map1 e fun x e1 e => ?_
        cases e
        obtain ⟨b, vs, n, rfl, hi, eb, rl⟩ := S.list ha hl
        have hsz : l.length = vs.size := by rw [rl.length]; simp
        rw [List.getLast?_eq_getElem?] at e1
        have hlt := (List.getElem?_eq_some_iff.mp e1).1
        obtain ⟨w, hw, hV⟩ := rl.get e1
        refine call_meets PySem.F.slot_list_pop (T := "list") ⟨_, eb, rfl⟩ PySem.F.entry_list_pop (PySem.F.args_list_pop_1 _) (PySem.MeetsSeq.list_pop_last b vs n w (by rw [← hsz, ← Array.getElem?_toList]; exact hw) (small_line (by lia))) ⟨eb, ?_⟩
        have P := Post.setList (tk := s.toks) (l := l.dropLast) (f := fun xs => xs.eraseIdxIfInBounds (vs.size - 1)) S hi eb (by
          rw [erase_last vs (by lia), List.dropLast_eq_take, List.dropLast_eq_take]
          have : vs.toList.length = l.length := by rw [hsz]; simp
          rw [this]; exact rl.take _)
        exact h _ _ _ P (P.v S hV)
      · exact nos e
    · exact nos e
noncomputable def fExtend : FM
  | [.ref i, .tup k], σ => match σ[i]? with
    | some (.list l) => if l.length + k.length ≤ 1000 then some (.none, σ.set i (.list (l ++ k))) else none
    | _ => none
  | [.ref i, .ref j], σ => match σ[i]?, σ[j]? with
    | some (.list l), some (.list k) => if l.length + k.length ≤ 1000 then some (.none, σ.set i (.list (l ++ k))) else none
    | _, _ => none
  | _, _ => none
theorem RC.extend : RC X lv (.builtin "list.extend") fExtend := by
  intro A E Q s ρ σ args vals r σ' ok ao S hv e h
  have room : ∀ {vs ws : Array Value}, vs.size + ws.size ≤ 1000 → ¬(!vs.isEmpty && Builtin.List.listTooLong (vs.size + ws.size)) = true := by
    intro vs ws hh
    have : Builtin.List.listTooLong (vs.size + ws.size) = false := by
      unfold Builtin.List.listTooLong
      exact decide_eq_false (by rw [sizeLine_eq]; lia)
    rw [this]; simp
  obtain ⟨x, y, rfl⟩ := list_two (p := fun l => fExtend l σ = some (r, σ')) e (fun e => nos e) (fun x e => by cases x <;> exact nos e) fun x y z l e => by cases x <;> first | exact nos e | (cases y <;> exact nos e)
  obtain ⟨v, w, rfl, ha, hb⟩ := hv.two
  cases x with
  | none => exact nos e | bool _ => exact nos e | int _ => exact nos e | str _ => exact nos e | tup _ => exact nos e | raw _ => exact nos e
  | ref i =>
  cases y with
  | none => exact nos e | bool _ => exact nos e | int _ => exact nos e | str _ => exact nos e | raw _ => exact nos e
  | tup k =>
    simp only [fExtend] at e
    split at e
    · rename_i l hl
      split at e
      · rename_i hn
        cases e
        obtain ⟨b, vs, n, rfl, hi, eb, rl⟩ := S.list ha hl
        have hsz : l.length = vs.size := by rw [rl.length]; simp
        cases hb with
        | @tup c ws m _ ec rk =>
          have hsz2 : k.length = ws.size := by rw [rk.length]; simp
          refine call_meets PySem.F.slot_list_extend (T := "list") ⟨_, eb, rfl⟩ PySem.F.entry_list_extend (PySem.F.args_list_extend_2 _ _) (AutoSeq1.list_extend_list_tuple_0 b vs n c ws m (room (by lia)) (small_line (by lia)) (by rw [sizeLine_eq]; lia)) ⟨eb, ec, ?_⟩
          exact h _ _ _ (Post.setList S hi eb (by rw [Array.toList_append]; exact rl.append rk)) .none
      · exact nos e
    · exact nos e
  | ref j =>
    simp only [fExtend] at e
    split at e
    · rename_i l k hl hk
      split at e
      · rename_i hn
        cases e
        obtain ⟨b, vs, n, rfl, hi, eb, rl⟩ := S.list ha hl
        have hsz : l.length = vs.size := by rw [rl.length]; simp
        obtain ⟨c, ws, m, rfl, hj, ec, rk⟩ := S.list hb hk
        have hsz2 : k.length = ws.size := by rw [rk.length]; simp
        refine call_meets PySem.F.slot_list_extend (T := "list") ⟨_, eb, rfl⟩ PySem.F.entry_list_extend (PySem.F.args_list_extend_2 _ _) (AutoSeq1.list_extend_list_list_0 b vs n c ws m (room (by lia)) (small_line (by lia)) (by rw [sizeLine_eq]; lia)) ⟨eb, ec, ?_⟩
        exact h _ _ _ (Post.setList S hi eb (by rw [Array.toList_append]; exact rl.append rk)) .none
      · exact nos e
    · exact nos e

/- one made of a class -/
noncomputable def fMake (Cl : Addr) (F : FM) : FM := fun args σ =>
  match F (.ref (σ.length + 1) :: args) (σ ++ [.ns [], .inst Cl σ.length]) with
  | some (.none, σ') => some (.ref (σ.length + 1), σ')
  | _ => none
theorem AOk.make {lv : Nat} {A : Around} {Cl : Addr} {rest : List Value} {kw : List (Str × Value)} (h : AOk (lv + 1) A) : AOk lv (A.under (.builtin "type.__call__" ⟨.ref Cl :: rest, kw⟩)) := by
  have hw : (Code.builtin "type.__call__" ⟨.ref Cl :: rest, kw⟩).weight = 1 := rfl
  have hu : (Code.builtin "type.__call__" ⟨.ref Cl :: rest, kw⟩).cUnits = 1 := rfl
  obtain ⟨a, b, c⟩ := h
  exact ⟨a, by show A.depth + _ + _ ≤ _; lia, by show A.units + _ + _ + _ ≤ _; lia⟩
theorem RF.make {Cl f : Addr} {F : FM} (hm : makesIn X.K Cl = true) (hi : findIn X.K (.ref Cl) "__init__" = some (some (.ref f))) (hf : typeIn X.K (.ref f) = some (.type "function")) (hF : RF X lv (.ref f) F) : RF X (lv + 1) (.ref Cl) (fMake Cl F) := by
  intro A R s ρ σ args vals r σ' ok ao S hv e h
  unfold fMake at e
  split at e
  · rename_i σ₁ e1
    cases e
    obtain ⟨hh, g, d, t, os⟩ := s
    have K' := ok.K.keeps S.keep
    refine make_core (makes_of K' hm) (looks_findIn K' hi) (fun self => bind_fn K' self hf) (.inl rfl) ?_
    have P₁ : Post X (· ∈ ρ) ρ ⟨hh, g, d, t, os⟩ (ρ ++ [hh.objs.size]) (σ ++ [.ns []]) ⟨hh.push emptyDict, g, d, t, os⟩ :=
      Post.new (s := ⟨hh, g, d, t, os⟩) (ao := .ns []) S get_none_size (Heap.get?_push_size _ rfl) keepPush ⟨[], 0, rfl, .nil⟩
    have hsz : (hh.push emptyDict).objs.size = hh.objs.size + 1 := Heap.size_push ..
    have P₂ : Post X (· ∈ ρ ++ [hh.objs.size]) (ρ ++ [hh.objs.size]) ⟨hh.push emptyDict, g, d, t, os⟩ (ρ ++ [hh.objs.size] ++ [hh.objs.size + 1]) (σ ++ [.ns []] ++ [.inst Cl σ.length]) ⟨(hh.push emptyDict).push (instObj Cl hh.objs.size), g, d, t, os⟩ :=
      Post.new (s := ⟨hh.push emptyDict, g, d, t, os⟩) (ao := .inst Cl σ.length) P₁.st (by rw [← hsz]; exact get_none_size) (by rw [← hsz]; exact Heap.get?_push_size _ rfl) keepPush ⟨hh.objs.size, rfl, by rw [← S.len]; simp⟩
    have P := P₁.transR P₂
    have e2 : σ ++ [AO.ns []] ++ [AO.inst Cl σ.length] = σ ++ [.ns [], .inst Cl σ.length] := by simp
    have hself : V (ρ ++ [hh.objs.size] ++ [hh.objs.size + 1]) ((hh.push emptyDict).push (instObj Cl hh.objs.size)) (.ref (σ.length + 1)) (.ref (hh.objs.size + 1)) := .ref (by rw [← S.len]; simp)
    refine hF ok ao.make P.st (.cons hself (P.vs S hv)) (by rw [e2]; exact e1) fun v s' ρ' P' V' => ?_
    cases V'
    exact ⟨rfl, h _ _ _ (P.transR P') (P'.v P.st hself)⟩
  · exact nos e
end
end Mine
end
-- part FW7
section
open PySem PySem.W PySem.Calls PyProof.Rows
set_option maxRecDepth 100000
namespace Mine

noncomputable def exS (env : Env) (ρ : List Addr) (b : Addr) : Prop := own env b ∨ b ∈ ρ
inductive FlV (ρ : List Addr) (h : Heap) : Fl → Flow → Prop
  | next : FlV ρ h .next .next
  | ret {d : AV} {v : Value} : V ρ h d v → FlV ρ h (.ret d) (.ret v)

section
variable {X : Cx} {ns : List Str} {env : Env} {ρ ρ' ρ'' : List Addr} {lc lc' : Lc} {σ σ' σ'' : Store} {s s₁ s₂ s' : Shared}

theorem FR.ownNoTup (F : FR X ns env ρ lc s.heap) {b : Addr} (hb : own env b) {o : Obj} (e : s.heap.get? b = some o) : ¬ isTup o := by
  rintro ⟨vs, n, rfl⟩
  rcases hb with rfl | ⟨x, hc⟩
  · obtain ⟨m, ⟨o, es, ep, ho, hd, _⟩, _⟩ := F.loc
    rw [e] at ho; cases ho; cases hd
  · obtain ⟨v, o, ho, hd⟩ := F.cells _ _ hc
    rw [e] at ho; cases ho; cases hd
theorem Post.toS (P : Post X (· ∈ ρ) ρ s ρ' σ' s') : Post X (exS env ρ) ρ s ρ' σ' s' := P.weaken fun _ h => .inr h
theorem Post.transS (P : Post X (exS env ρ) ρ s ρ' σ' s₁) (P' : Post X (exS env ρ') ρ' s₁ ρ'' σ'' s₂) : Post X (exS env ρ) ρ s ρ'' σ'' s₂ :=
  P.trans P' fun b o e hb => by
    rcases hb with q | q
    · exact .inl q
    · rcases P.fresh b q with r | r
      · exact .inr r
      · rw [r] at e; cases e
theorem Post.keepTS (P : Post X (exS env ρ) ρ s ρ' σ' s') (S : St X ρ σ s.heap) (F : FR X ns env ρ lc s.heap) : KeepT s.heap s'.heap :=
  P.tup fun b o e t hb => by
    rcases hb with q | q
    · exact F.ownNoTup q e t
    · exact S.notTuple e t q
theorem Post.vS (P : Post X (exS env ρ) ρ s ρ' σ' s') (S : St X ρ σ s.heap) (F : FR X ns env ρ lc s.heap) {d : AV} {v : Value} (x : V ρ s.heap d v) : V ρ' s'.heap d v := x.mono (P.keepTS S F) P.idx
theorem Post.vsS (P : Post X (exS env ρ) ρ s ρ' σ' s') (S : St X ρ σ s.heap) (F : FR X ns env ρ lc s.heap) {d : List AV} {v : List Value} (x : Vs ρ s.heap d v) : Vs ρ' s'.heap d v := x.mono (P.keepTS S F) P.idx

/-- one of the frame's own objects turned -/
theorem Post.own (S : St X ρ σ s.heap) (F : FR X ns env ρ lc s.heap) {a : Addr} (ha : own env a) {h' : Heap} {tk : Nat} (hs : Heap.SameBut a s.heap h') (hl : ∃ o, h'.get? a = some o) : Post X (exS env ρ) ρ s ρ σ { s with heap := h', toks := tk } := by
  have hk : ∀ b o, b ≠ a → s.heap.get? b = some o → h'.get? b = some o := fun b o n e => (hs.2 b n).trans e
  have ht : KeepT s.heap h' := fun b o e t => hk b o (by rintro rfl; exact F.ownNoTup ha e t) e
  obtain ⟨hr, hB⟩ := F.off a ha
  refine ⟨⟨S.len, S.nd, S.new, fun b o e => hk b o (by rintro rfl; rw [hB] at e; cases e) (S.keep b o e), fun i ao e => ?_⟩, ⟨[], by simp⟩, fun _ h => .inl h, fun b o n e => hk b o (by rintro rfl; exact n (.inl ha)) e, fun b o e => ?_, rfl⟩
  · obtain ⟨b, o, e1, e2, e3⟩ := S.obj i ao e
    exact ⟨b, o, e1, hk b o (by rintro rfl; exact hr (List.mem_of_getElem? e1)) e2, e3.mono ht fun _ _ e => e⟩
  · by_cases q : b = a
    · subst q; exact hl
    · exact ⟨o, hk b o q e⟩
end

noncomputable def RT (C : Cn) (target : Expr) (t : AV → Lc → Store → Option (Lc × Store)) : Prop :=
  ∀ {A : Around} {E : Value → Shared → Prop} {Q : Unit → Shared → Prop} {s : Shared} {ρ : List Addr} {σ : Store} {lc lc' : Lc} {d : AV} {v : Value} {σ' : Store},
    C.X.Ok → EnvOk C.ns C.env → AOk C.lv A → FR C.X C.ns C.env ρ lc s.heap → St C.X ρ σ s.heap → V ρ s.heap d v → t d lc σ = some (lc', σ') →
    (∀ s' ρ', Post C.X (exS C.env ρ) ρ s ρ' σ' s' → FR C.X C.ns C.env ρ' lc' s'.heap → Q () s') → wpAny (model C.X.prog C.X.w) A (assign target C.env v) Q E s
noncomputable def RTb (C : Cn) (x : Str) (t : AV → Lc → Store → Option (Lc × Store)) : Prop :=
  ∀ {A : Around} {E : Value → Shared → Prop} {Q : Unit → Shared → Prop} {s : Shared} {ρ : List Addr} {σ : Store} {lc lc' : Lc} {d : AV} {v : Value} {σ' : Store},
    C.X.Ok → EnvOk C.ns C.env → AOk C.lv A → FR C.X C.ns C.env ρ lc s.heap → St C.X ρ σ s.heap → V ρ s.heap d v → t d lc σ = some (lc', σ') →
    (∀ s' ρ', Post C.X (exS C.env ρ) ρ s ρ' σ' s' → FR C.X C.ns C.env ρ' lc' s'.heap → Q () s') → wpAny (model C.X.prog C.X.w) A (bindName C.env x v) Q E s
noncomputable def RSem (C : Cn) (t : Sem Flow) (m : SM) : Prop :=
  ∀ {A : Around} {E : Value → Shared → Prop} {Q : Flow → Shared → Prop} {s : Shared} {ρ : List Addr} {σ : Store} {lc lc' : Lc} {fl : Fl} {σ' : Store},
    C.X.Ok → EnvOk C.ns C.env → AOk C.lv A → FR C.X C.ns C.env ρ lc s.heap → St C.X ρ σ s.heap → m lc σ = some (fl, lc', σ') →
    (∀ f s' ρ', Post C.X (exS C.env ρ) ρ s ρ' σ' s' → FR C.X C.ns C.env ρ' lc' s'.heap → FlV ρ' s'.heap fl f → Q f s') → wpAny (model C.X.prog C.X.w) A t Q E s
noncomputable abbrev RX (C : Cn) (st : Stmt) (m : SM) : Prop := RSem C (exec st C.env) m
noncomputable abbrev RS (C : Cn) (sts : List Stmt) (m : SM) : Prop := RSem C (execs sts C.env) m

noncomputable def tLoc (k : Nat) : AV → Lc → Store → Option (Lc × Store) := fun d lc σ => if k < lc.length then some (lc.set k (some d), σ) else none

section
variable {C : Cn}
theorem nodup_get {l : List Str} (nd : l.Nodup) {i j : Nat} {x : Str} (a : l[i]? = some x) (b : l[j]? = some x) : i = j := by
  obtain ⟨l1, q1⟩ := List.getElem?_eq_some_iff.mp a
  obtain ⟨l2, q2⟩ := List.getElem?_eq_some_iff.mp b
  have nd := List.pairwise_iff_getElem.mp nd
  rcases Nat.lt_trichotomy i j with q | q | q
  · exact absurd (q1.trans q2.symm) (nd i j l1 l2 q)
  · exact q
  · exact absurd (q2.trans q1.symm) (nd j i l2 l1 q)
theorem RTb.loc {x : Str} (k : Nat) (hk : C.ns[k]? = some x) (hnf : (C.env.kindOf x == some .free) = false) : RTb C x (tLoc k) := by
  intro A E Q s ρ σ lc lc' d v σ' ok eo ao F S hv e h
  unfold tLoc at e
  split at e
  · rename_i hkl
    cases e
    refine wpAny_bindName ?_
    have hm : x ∈ C.ns := List.mem_of_getElem? hk
    obtain ⟨m, hn, hs⟩ := F.loc
    have other : ∀ (j : Nat) (y : Str), C.ns[j]? = some y → j ≠ k → y ≠ x := fun j y hj n e => n (nodup_get eo.nd (e ▸ hj) hk)
    have lcs : ∀ (j : Nat) (av : AV), (lc.set k (some d))[j]? = some (some av) → (j = k ∧ av = d) ∨ (j ≠ k ∧ lc[j]? = some (some av)) := by
      intro j av e
      by_cases q : j = k
      · subst q; rw [List.getElem?_set_self hkl] at e; cases e; exact .inl ⟨rfl, rfl⟩
      · rw [List.getElem?_set_ne (Ne.symm q)] at e; exact .inr ⟨q, e⟩
    rcases eo.loc x hm with hl | ⟨hl, hc⟩
    · refine wpAny_storeName_local hl hn (fun h' hn' hs' => ?_) (by rw [eo.kind]; rfl)
      have ha : own C.env C.env.locals := .inl rfl
      have P : Post C.X (exS C.env ρ) ρ s ρ σ { s with heap := h', toks := s.toks + 1 } := Post.own S F ha hs' (by obtain ⟨o, _, _, ho, _⟩ := hn'; exact ⟨o, ho⟩)
      have ck : ∀ n c v, C.env.cells.lookup n = some c → s.heap.IsCell c v → h'.IsCell c v := fun n c v _ hi => hi.sameBut hs' (by
        rintro rfl
        obtain ⟨o, ho, hd⟩ := hi
        obtain ⟨o', es, ep, ho', hd', _⟩ := hn
        rw [ho] at ho'; cases ho'; rw [hd] at hd'; cases hd')
      refine h _ _ P ⟨⟨_, hn', fun j y av hj e => ?_⟩, F.off, fun n c hc => ?_, by rw [List.length_set]; exact F.len⟩
      · rcases lcs j av e with ⟨rfl, rfl⟩ | ⟨q, e⟩
        · rw [hk] at hj; cases hj
          exact ⟨v, .inl ⟨hl, by simp⟩, P.vS S F hv⟩
        · obtain ⟨w, hw, hV⟩ := hs j y av hj e
          refine ⟨w, ?_, P.vS S F hV⟩
          rcases hw with ⟨a, b⟩ | ⟨a, c, hc, hi⟩
          · exact .inl ⟨a, by simpa [other j y hj q] using b⟩
          · exact .inr ⟨a, c, hc, ck _ _ _ hc hi⟩
      · obtain ⟨w, hw⟩ := F.cells n c hc
        exact ⟨w, ck _ _ _ hc hw⟩
    · rcases hl with hl | ⟨hl, _⟩
      · obtain ⟨c, hc⟩ := Option.isSome_iff_exists.mp hc
        obtain ⟨v₀, hv₀⟩ := F.cells x c hc
        refine wpAny_storeName_cell eo.kind hl hc hv₀ fun h' hi' hs' => ?_
        have ha : own C.env c := .inr ⟨x, hc⟩
        have P : Post C.X (exS C.env ρ) ρ s ρ σ { s with heap := h', toks := s.toks } := Post.own S F ha hs' (by obtain ⟨o, ho, _⟩ := hi'; exact ⟨o, ho⟩)
        have hne : C.env.locals ≠ c := by
          rintro rfl
          obtain ⟨o, ho, hd⟩ := hv₀
          obtain ⟨o', es, ep, ho', hd', _⟩ := hn
          rw [ho] at ho'; cases ho'; rw [hd] at hd'; cases hd'
        have ck : ∀ n c' v, C.env.cells.lookup n = some c' → n ≠ x → s.heap.IsCell c' v → h'.IsCell c' v := fun n c' v hc' hne hi => absurd (eo.one _ _ _ _ hc' hc) hne
        refine h _ _ P ⟨⟨m, hn.sameBut hs' hne, fun j y av hj e => ?_⟩, F.off, fun n c' hc' => ?_, by rw [List.length_set]; exact F.len⟩
        · rcases lcs j av e with ⟨rfl, rfl⟩ | ⟨q, e⟩
          · rw [hk] at hj; cases hj
            exact ⟨v, .inr ⟨.inl hl, c, hc, hi'⟩, P.vS S F hv⟩
          · obtain ⟨w, hw, hV⟩ := hs j y av hj e
            refine ⟨w, ?_, P.vS S F hV⟩
            rcases hw with q' | ⟨a, c', hc', hi⟩
            · exact .inl q'
            · exact .inr ⟨a, c', hc', ck _ _ _ hc' (other j y hj q) hi⟩
        · by_cases q : n = x
          · subst q; rw [hc] at hc'; cases hc'; exact ⟨_, hi'⟩
          · obtain ⟨w, hw⟩ := F.cells n c' hc'
            exact ⟨w, ck _ _ _ hc' q hw⟩
      · -- a free name is not stored into
        rw [hl] at hnf; simp at hnf
  · exact nos e
end

section
variable {X : Cx} {lv : Nat}
/- stores into lists and dicts -/
noncomputable def idxN (l : List AV) (i : Int) : Option Nat :=
  if l.length ≤ 1000 then (if 0 ≤ i ∧ i < l.length then some i.toNat else if -(l.length : Int) ≤ i ∧ i < 0 then some (i + l.length).toNat else none) else none
noncomputable def putKV (kvs : List (Str × AV)) (x : Str) (d : AV) : List (Str × AV) :=
  if kvs.any (fun kv => kv.1 = x) then kvs.map (fun kv => if kv.1 = x then (kv.1, d) else kv) else kvs ++ [(x, d)]
noncomputable def setA : AV → AV → AV → Store → Option Store
  | .ref r, .int i, v, σ => match σ[r]? with
    | some (.list l) => (idxN l i).map fun j => σ.set r (.list (l.set j v))
    | _ => none
  | .ref r, .str x, v, σ => match σ[r]? with
    | some (.dict kvs) => if kvs.length ≤ 1000 then some (σ.set r (.dict (putKV kvs x v))) else none
    | _ => none
  | _, _, _, _ => none
theorem KV.any {ρ : List Addr} {h : Heap} {kvs : List (Str × AV)} {ws : List (Str × Value)} (x : KV ρ h kvs ws) (k : Str) : kvs.any (fun kv => decide (kv.1 = k)) = ws.any (fun kv => decide (kv.1 = k)) := by
  induction x with
  | nil => rfl
  | cons _ _ ih => simp only [List.any_cons, ih]
theorem KV.mapSet {ρ : List Addr} {h : Heap} {kvs : List (Str × AV)} {ws : List (Str × Value)} (x : KV ρ h kvs ws) (k : Str) {d : AV} {v : Value} (hv : V ρ h d v) :
    KV ρ h (kvs.map (fun kv => if kv.1 = k then (kv.1, d) else kv)) (ws.map (fun kv => if kv.1 = k then (kv.1, v) else kv)) := by
  induction x with
  | nil => exact .nil
  | @cons y d' v' kvs ws hd _ ih =>
    simp only [List.map_cons]
    by_cases q : y = k
    · simp only [q, if_true]; exact .cons hv ih
    · simp only [q, if_false]; exact .cons hd ih
theorem KV.snoc {ρ : List Addr} {h : Heap} {kvs : List (Str × AV)} {ws : List (Str × Value)} (x : KV ρ h kvs ws) {k : Str} {d : AV} {v : Value} (hv : V ρ h d v) : KV ρ h (kvs ++ [(k, d)]) (ws ++ [(k, v)]) := by
  induction x with
  | nil => exact .cons hv .nil
  | cons hd _ ih => exact .cons hd ih
theorem KV.stored {ρ : List Addr} {h : Heap} {kvs : List (Str × AV)} {ws : List (Str × Value)} (x : KV ρ h kvs ws) (k : Str) {d : AV} {v : Value} (hv : V ρ h d v) : KV ρ h (putKV kvs k d) (PySem.stored ws k v) := by
  unfold putKV PySem.stored
  rw [x.any k]
  split
  · exact x.mapSet k hv
  · exact x.snoc hv
theorem KV.length {ρ : List Addr} {h : Heap} {kvs : List (Str × AV)} {ws : List (Str × Value)} (x : KV ρ h kvs ws) : kvs.length = ws.length := by
  induction x with
  | nil => rfl
  | cons _ _ ih => simp [ih]

theorem seqItem_list {l : Addr} {items : Array Value} {k : Int} {n : Nat} {prog : Program} {w : World} {A : Around} {E : Value → Shared → Prop} {s : Shared} {t : Tok} {v : Value} {Q : Unit → Shared → Prop} (hl : s.heap.get? l = some { cls := .type "list", data := .seq items n })
    (h0 : k < 0) (h1 : -(items.size : Int) ≤ k) (hfit : -(2 ^ 63) ≤ k) (h : Q () { s with heap := s.heap.update l (Obj.mapSeq (·.setIfInBounds (k + items.size).toNat v)) }) :
    wpAny (model prog w) A (setItem (.ref l) (.int k t) v) Q E s := by
  have hT : s.TypeIs (.ref l) "list" := ⟨_, hl, rfl⟩
  unfold setItem
  try with_reducible refine wpAny_holding ?_
  first | refine wpAny_bind (wpAny_pure ?_) | skip
  refine wpAny_bind (wpAny_sequenceKey hT (by decide) ?_)
  refine wpAny_bind (wpAny_callSpecial?_slot (name := Str.ofString "__setitem__") hT slot_list_setitem
    (wpAny_call_entry slot_list_setitem hT entry_list_setitem ?_ (args_list_setitem _ _ _)))
  show wpAny _ _ (Builtin.List.listSubscript? (.int k t) >>= _) _ _ s
  refine wpAny_bind (wpAny_listSubscript_int (fitsIndex_neg h0 hfit) ?_)
  have hj : (k + items.size).toNat < items.size := by lia
  have hx' : items[(k + items.size).toNat]? = some items[(k + items.size).toNat] := Array.getElem?_eq_getElem hj
  obtain ⟨j, rfl⟩ : ∃ j : Nat, k = Int.negSucc j := Int.eq_negSucc_of_lt_zero h0
  show wpAny _ _ ((Builtin.List.listItems (.ref l) >>= fun xs => pure ((seqIndex? (Int.negSucc j) xs.size).bind fun i => xs[i]?.map (i, ·))) >>= _) _ _ s
  unfold Builtin.List.listItems
  refine wpAny_bind (wpAny_bind (wpAny_bind (wpAny_seqItems hl rfl (wpAny_pure (wpAny_pure ?_)))))
  rw [seqIndex_neg h0 h1, Option.bind_some, hx', Option.map_some]
  show wpAny _ _ (setSeqItemAt l (Int.negSucc j + items.size).toNat v >>= _) _ _ s
  refine wpAny_bind (wpAny_setSeqItemAt hl rfl ?_)
  first
    | exact wpAny_bind (wpAny_pure (wpAny_pure ⟨.none, rfl, wpAny_pure h⟩))
    | exact wpAny_pure ⟨.none, rfl, wpAny_pure h⟩
theorem seqItem_list0 {l : Addr} {items : Array Value} {k : Int} {n : Nat} {prog : Program} {w : World} {A : Around} {E : Value → Shared → Prop} {s : Shared} {t : Tok} {v : Value} {Q : Unit → Shared → Prop} (hl : s.heap.get? l = some { cls := .type "list", data := .seq items n })
    (h0 : 0 ≤ k) (h1 : k < (items.size : Int)) (hfit : k < 2 ^ 63) (h : Q () { s with heap := s.heap.update l (Obj.mapSeq (·.setIfInBounds k.toNat v)) }) :
    wpAny (model prog w) A (setItem (.ref l) (.int k t) v) Q E s := by
  have hT : s.TypeIs (.ref l) "list" := ⟨_, hl, rfl⟩
  unfold setItem
  try with_reducible refine wpAny_holding ?_
  first | refine wpAny_bind (wpAny_pure ?_) | skip
  refine wpAny_bind (wpAny_sequenceKey hT (by decide) ?_)
  refine wpAny_bind (wpAny_callSpecial?_slot (name := Str.ofString "__setitem__") hT slot_list_setitem
    (wpAny_call_entry slot_list_setitem hT entry_list_setitem ?_ (args_list_setitem _ _ _)))
  show wpAny _ _ (Builtin.List.listSubscript? (.int k t) >>= _) _ _ s
  refine wpAny_bind (wpAny_listSubscript_int (fitsIndex_of h0 hfit) ?_)
  clear hfit
  obtain ⟨j, rfl⟩ := Int.eq_ofNat_of_zero_le h0
  have hj : j < items.size := by lia
  have hx' : items[j]? = some items[j] := Array.getElem?_eq_getElem hj
  show wpAny _ _ ((seqItemAt l j >>= fun r => pure (r.map (j, ·))) >>= _) _ _ s
  refine wpAny_bind (wpAny_bind (wpAny_seqItemAt hl rfl (wpAny_pure ?_)))
  rw [hx']
  show wpAny _ _ (setSeqItemAt l j v >>= _) _ _ s
  refine wpAny_bind (wpAny_setSeqItemAt hl rfl ?_)
  first
    | exact wpAny_bind (wpAny_pure (wpAny_pure ⟨.none, rfl, wpAny_pure h⟩))
    | exact wpAny_pure ⟨.none, rfl, wpAny_pure h⟩
theorem seqSlice_list {l r sl : Addr} {items new : Array Value} {n m : Nat} {vl vu : Value} {lo hi : Option Int} {prog : Program} {w : World} {A : Around} {E : Value → Shared → Prop} {s : Shared} {Q : Unit → Shared → Prop}
    (hl : s.heap.get? l = some { cls := .type "list", data := .seq items n }) (hr : s.heap.get? r = some { cls := .type "list", data := .seq new m }) (hne : l ≠ r) (hs : s.heap.IsSliceOf sl vl vu .none) (pl : IsPart vl lo) (pu : IsPart vu hi)
    (hsz : items.size + new.size ≤ 1000)
    (h : Q () { s with heap := s.heap.update l (Obj.mapSeq fun xs => xs.extract 0 (lo.elim 0 (clipAt items.size)) ++ new ++ xs.extract (max (lo.elim 0 (clipAt items.size)) (hi.elim items.size (clipAt items.size))) xs.size) }) :
    wpAny (model prog w) A (setItem (.ref l) (.ref sl) (.ref r)) Q E s := by
  have hT : s.TypeIs (.ref l) "list" := ⟨_, hl, rfl⟩
  obtain ⟨os, hos, hcs, hds⟩ := id hs
  have hTs : s.TypeIs (.ref sl) "slice" := ⟨os, hos, hcs⟩
  have hTr : s.TypeIs (.ref r) "list" := ⟨_, hr, rfl⟩
  unfold setItem
  try with_reducible refine wpAny_holding ?_
  first | refine wpAny_bind (wpAny_pure ?_) | skip
  refine wpAny_bind (wpAny_sequenceKey hT (by decide) ?_)
  refine wpAny_bind (wpAny_callSpecial?_slot (name := Str.ofString "__setitem__") hT slot_list_setitem
    (wpAny_call_entry slot_list_setitem hT entry_list_setitem ?_ (args_list_setitem _ _ _)))
  show wpAny _ _ (Builtin.List.listSubscript? (.ref sl) >>= _) _ _ s
  refine wpAny_bind ?_
  unfold Builtin.List.listSubscript?
  refine wpAny_bind (wpAny_specialOf hTs slice_no_index ?_)
  simp only [Option.isNone_none, if_true]
  refine wpAny_pure ?_
  show wpAny _ _ (typeOf (.ref sl) >>= _) _ _ s
  refine wpAny_bind (wpAny_typeOf hTs ?_)
  rw [if_neg (by decide)]
  rw [listSliceParts_eq]
  refine wpAny_bind (wpAny_bind (wpAny_field hos hds (x := .none) rfl (wpAny_bind (wpAny_listPart .none ?_))))
  rw [if_neg (show ¬ ((rawPart none == rawInt 0) = true) from Bool.false_ne_true)]
  refine wpAny_bind (wpAny_field hos hds (x := vl) rfl (wpAny_bind (wpAny_listPart pl ?_)))
  refine wpAny_bind (wpAny_field hos hds (x := vu) rfl (wpAny_bind (wpAny_listPart pu (wpAny_pure ?_))))
  have hsame : Builtin.List.listSameRef (.ref l) (.ref r) = false := by
    show (l == r) = false
    simpa using hne
  rw [hsame, if_neg Bool.false_ne_true]
  refine wpAny_bind ?_
  unfold Builtin.List.listAllItems
  refine wpAny_bind (wpAny_typeOf hTr ?_)
  rw [if_pos (by decide)]
  unfold Builtin.List.listItems
  refine wpAny_bind (wpAny_seqItems hr rfl (wpAny_pure ?_))
  refine wpAny_bind (wpAny_bind (wpAny_seqItems hl rfl (wpAny_pure ?_)))
  refine wpAny_bind (wpAny_of_eq (sliceIndices_raw lo hi none items.size (by simp)) ?_)
  rw [sliceBounds_plain]
  rw [if_pos (by rfl)]
  refine wpAny_bind (wpAny_rule ?_)
  have hlong : Builtin.List.listTooLong (items.size + new.size) = false := decide_eq_false (by rw [sizeLine_eq]; lia)
  rw [if_neg (by rw [hlong]; exact Bool.false_ne_true)]
  have e1 : (((lo.elim 0 (clipAt items.size) : Nat) : Int)).toNat = lo.elim 0 (clipAt items.size) := Int.toNat_natCast _
  have e2 : (max ((lo.elim 0 (clipAt items.size) : Nat) : Int) ((hi.elim items.size (clipAt items.size) : Nat) : Int)).toNat = max (lo.elim 0 (clipAt items.size)) (hi.elim items.size (clipAt items.size)) := by
    rcases Nat.le_total (lo.elim 0 (clipAt items.size)) (hi.elim items.size (clipAt items.size)) with q | q
    · rw [Int.max_eq_right (Int.ofNat_le.mpr q), Nat.max_eq_right q]; exact Int.toNat_natCast _
    · rw [Int.max_eq_left (Int.ofNat_le.mpr q), Nat.max_eq_left q]; exact Int.toNat_natCast _
  dsimp only
  rw [e1, e2]
  refine wpAny_bind (m := updateSeq l _) (wpAny_updateSeq hl rfl (wpAny_bind (wpAny_letGo ?_)) (small_line (by lia)) ?_)
  · exact wpAny_pure ⟨.none, rfl, wpAny_pure h⟩
  · rw [sizeLine_eq]
    simp only [Array.size_append, Array.size_extract]
    exact Nat.le_trans (Nat.add_le_add (Nat.add_le_add_right (Nat.le_trans (Nat.sub_le _ _) (Nat.min_le_right _ _)) _) (Nat.le_trans (Nat.sub_le _ _) (Nat.min_le_left _ _))) (by lia)
end
end Mine
end
-- part FW8
section
open PySem PySem.W PySem.Calls PyProof.Rows
set_option maxRecDepth 100000
namespace Mine

section
variable {X : Cx} {lv : Nat}
theorem set_of {A : Around} {E : Value → Shared → Prop} {Q : Unit → Shared → Prop} {s : Shared} {ρ : List Addr} {σ σ' : Store} {a b d : AV} {va vb vd : Value} (S : St X ρ σ s.heap) (ha : V ρ s.heap a va) (hb : V ρ s.heap b vb) (hd : V ρ s.heap d vd)
    (e : setA a b d σ = some σ') (h : ∀ s', Post X (· ∈ ρ) ρ s ρ σ' s' → Q () s') : wpAny (model X.prog X.w) A (setItem va vb vd) Q E s := by
  cases a <;> try exact nos e
  all_goals (cases b <;> try exact nos e)
  · rename_i r i
    simp only [setA] at e
    split at e
    · rename_i l hl
      refine map1 e fun j e1 e => ?_
      cases e
      obtain ⟨b, vs, n, rfl, hi, eb, rl⟩ := S.list ha hl
      have hsz : l.length = vs.size := by rw [rl.length]; simp
      cases hb with
      | int _ u =>
        have key : ∀ k : Nat, Vs ρ s.heap (l.set k d) (vs.setIfInBounds k vd).toList := fun k => by rw [Array.toList_setIfInBounds]; exact rl.set k hd
        unfold idxN at e1
        split at e1
        · rename_i hn
          split at e1
          · rename_i h0
            cases e1
            exact seqItem_list0 eb h0.1 (by lia) (by lia) (h _ (Post.setList (tk := s.toks) S hi eb (key _)))
          · split at e1
            · rename_i h0
              cases e1
              refine seqItem_list eb (by lia) (by lia) (by lia) ?_
              rw [← hsz]
              exact h _ (Post.setList (tk := s.toks) S hi eb (key _))
            · exact nos e1
        · exact nos e1
    · exact nos e
  · rename_i r x
    simp only [setA] at e
    split at e
    · rename_i kvs hl
      split at e
      · rename_i hn
        cases e
        cases hb with
        | str _ u =>
          cases ha with
          | ref hr =>
            obtain ⟨b, o, q1, q2, ws, hw, hk⟩ := S.obj _ _ hl
            rw [hr] at q1; cases q1
            refine wpAny_setItem_pairs (knd := strKind X.prog X.w) (k := x) (hsz := small_line (by rw [← hk.length]; exact hn)) (strKind_is _ _ x u) (Heap.dictOf_iff.mpr ⟨o, q2, hw⟩) fun h' hm hs => ?_
            obtain ⟨o', ho', hw'⟩ := Heap.dictOf_iff.mp hm
            have hk' : ∀ c o, c ≠ _ → s.heap.get? c = some o → h'.get? c = some o := fun c o n e => (hs.2 c n).trans e
            have ht : KeepT s.heap h' := fun c o e t => hk' c o (by rintro rfl; exact S.notTuple e t (List.mem_of_getElem? hr)) e
            exact h _ (Post.set S hr ho' hk' ⟨_, hw', (hk.stored x hd).mono ht fun _ _ e => e⟩)
      · exact nos e
    · exact nos e
noncomputable def setSliceL (l k : List AV) (lo hi : Option Int) : List AV :=
  l.take (lo.elim 0 (clipAt l.length)) ++ k ++ l.drop (max (lo.elim 0 (clipAt l.length)) (hi.elim l.length (clipAt l.length)))

/- attributes stored -/
noncomputable def putN (x : Str) (d : AV) : List (Str × AV) → List (Str × AV)
  | [] => [(x, d)]
  | (y, e) :: r => if y = x then (y, d) :: r else (y, e) :: putN x d r
noncomputable def setAttrA (K : Frag) (name : Str) : AV → AV → Store → Option Store
  | .ref i, v, σ => match σ[i]? with
    | some (.inst C d) => if findIn K (.ref C) "__setattr__" = some (some (.builtin "object.__setattr__")) ∧ plainOver K C = true ∧ takerIn K C name = some none ∧ hasDictIn K C = true then (match σ[d]? with
      | some (.ns kvs) => if kvs.length ≤ 100 then some (σ.set d (.ns (putN name v kvs))) else none
      | _ => none) else none
    | _ => none
  | _, _, _ => none
theorem NV.put {ρ : List Addr} {h : Heap} {kvs : List (Str × AV)} {es : List DictEntry} (x : NV ρ h kvs es) (k : Str) {d : AV} {v : Value} (hv : V ρ h d v) (hs : Int) (t : Tok) : NV ρ h (putN k d kvs) (putL k hs (.str k t) v es) := by
  induction x with
  | nil => exact .cons hv .nil
  | @cons y t' hs' d' v' kvs es hd hr ih =>
    unfold putN putL
    by_cases q : y = k
    · have : (Value.str y t').isStr k = true := by simp [Value.isStr, q]
      rw [if_pos q, if_pos this]
      exact .cons hv hr
    · have : ¬ (Value.str y t').isStr k = true := by simp [Value.isStr, q]
      rw [if_neg q, if_neg this]
      exact .cons hd ih
theorem NV.noRef {ρ : List Addr} {h : Heap} {kvs : List (Str × AV)} {es : List DictEntry} (x : NV ρ h kvs es) : es.any (·.refKey) = false := by
  induction x with
  | nil => rfl
  | cons _ _ ih => rw [List.any_cons, ih]; rfl
theorem NV.length {ρ : List Addr} {h : Heap} {kvs : List (Str × AV)} {es : List DictEntry} (x : NV ρ h kvs es) : kvs.length = es.length := by
  induction x with
  | nil => rfl
  | cons _ _ ih => simp [ih]
theorem putN_length (k : Str) (d : AV) : ∀ kvs : List (Str × AV), (putN k d kvs).length ≤ kvs.length + 1
  | [] => by simp [putN]
  | (y, e) :: r => by
    unfold putN
    split
    · simp
    · have := putN_length k d r; simp; omega
theorem nsSet_exact {A : Around} {E : Value → Shared → Prop} {Q : Unit → Shared → Prop} {s : Shared} {prog : Program} {w : World} {a : Addr} {es : List DictEntry} {n : Nat} {name : Str} {v : Value} (ho : s.heap.get? a = some (dictOf es n)) (hk : es.any (·.refKey) = false)
    (h : Q () { s with heap := s.heap.update a (Obj.putName name (PyData.keyHash w.params name) (.str name s.toks) v), toks := s.toks + 1 }) : wpAny (model prog w) A (nsSet a name v) Q E s := by
  unfold nsSet
  refine wpAny_bind (wpAny_bind (wpAny_askSetting (wpAny_pure (wpAny_bind (wpAny_mkText (wpAny_bind (wpAny_loadPart ho ?_)))))))
  have c : (!es.toArray.any (·.key.isStr name) && es.toArray.any (·.refKey)) = false := by
    have : es.toArray.any (fun x => x.refKey) = false := by rw [← Array.any_toList]; exact hk
    rw [this, Bool.and_false]
  dsimp only
  rw [aRefKeyMayBeTheName_at, c]
  exact wpAny_updatePart ho h
theorem setAttr_of {A : Around} {E : Value → Shared → Prop} {Q : Unit → Shared → Prop} {s : Shared} {ρ : List Addr} {σ σ' : Store} {a d : AV} {va vd : Value} {name : Str} (ok : X.Ok) (S : St X ρ σ s.heap) (ha : V ρ s.heap a va) (hd : V ρ s.heap d vd)
    (e : setAttrA X.K name a d σ = some σ') (h : ∀ s', Post X (· ∈ ρ) ρ s ρ σ' s' → Q () s') : wpAny (model X.prog X.w) A (setAttr va name vd) Q E s := by
  cases a <;> try exact nos e
  rename_i i
  simp only [setAttrA] at e
  split at e
  · rename_i C dd hi
    split at e
    · rename_i hK
      split at e
      · rename_i kvs hdd
        split at e
        · rename_i hlen
          cases e
          obtain ⟨b, dx, es, n, rfl, hbi, hdi, hb, hdx, hm, I⟩ := S.inst ha hi hdd
          have XK := ok.K.keeps S.keep
          refine set_plain XK I hK.1 (osa_open (s := { s with toks := s.toks + 1 }) XK I hK.2.1 hK.2.2.1 fun bb => ?_)
          obtain ⟨cd, hc, hd'⟩ := any_some hK.2.2.2
          refine wpAny_bind (wpAny_pure (wpAny_bind (wpAny_bind (wpAny_loadPart hb (wpAny_bind (Looks.here (s := { s with toks := s.toks + 1 }) (looks_clsIn XK hc) ?_))))))
          rw [hd']
          refine wpAny_pure (a := some dx) (wpAny_bind (wpAny_pure (wpAny_bind ?_)))
          refine nsSet_exact (s := { s with toks := s.toks + 1 }) hdx hm.noRef ?_
          have hm' := hm.put name hd (PyData.keyHash X.w.params name) (s.toks + 1)
          have hlive : (Obj.putName name (PyData.keyHash X.w.params name) (.str name (s.toks + 1)) vd (dictOf es n)).isFreed = false := by rw [putName_dict]; rfl
          have hnew := Heap.get?_update_self (Obj.putName name (PyData.keyHash X.w.params name) (.str name (s.toks + 1)) vd) hdx hlive
          rw [putName_dict] at hnew
          refine wpAny_bind (wpAny_lookBehind hnew (pastItsLine_dict (by
            have e1 := hm'.length
            have e2 := putN_length name d kvs
            rw [List.size_toArray, sizeLine_eq]; lia)) ?_)
          have hk' : ∀ c o, c ≠ dx → s.heap.get? c = some o → (s.heap.update dx (Obj.putName name (PyData.keyHash X.w.params name) (.str name (s.toks + 1)) vd)).get? c = some o := fun c o n e => (Heap.get?_update_other s.heap _ (Ne.symm n)).trans e
          have ht : KeepT s.heap (s.heap.update dx (Obj.putName name (PyData.keyHash X.w.params name) (.str name (s.toks + 1)) vd)) := fun c o e t => hk' c o (by rintro rfl; exact S.notTuple e t (List.mem_of_getElem? hdi)) e
          refine wpAny_pure ?_
          show Q () _
          exact h _ (Post.set S hdi hnew hk' ⟨_, _, rfl, hm'.mono ht fun _ _ e => e⟩)
        · exact nos e
      · exact nos e
    · exact nos e
  · exact nos e
end

/- targets -/
noncomputable def tSub (mo mi : EM) : AV → Lc → Store → Option (Lc × Store) := fun d lc σ => (mo lc σ).bind fun p => (mi lc p.2).bind fun q => (setA p.1 q.1 d q.2).map fun σ' => (lc, σ')
noncomputable def tAttr (K : Frag) (name : Str) (mo : EM) : AV → Lc → Store → Option (Lc × Store) := fun d lc σ => (mo lc σ).bind fun p => (setAttrA K name p.1 d p.2).map fun σ' => (lc, σ')
section
variable {C : Cn}
theorem RT.sub {o i : Expr} {pos : Pos} {mo mi} (ho : RE C o mo) (hi : RE C i mi) : RT C (.Subscript o i pos) (tSub mo mi) := by
  intro A E Q s ρ σ lc lc' d v σ' ok eo ao F S hv e h
  refine bindS e fun a σ₁ e1 e => ?_
  refine bindS e fun b σ₂ e2 e => ?_
  refine map1 e fun σ₃ e3 e => ?_
  cases e
  rw [assign_Subscript]
  refine wpAny_bind (wpAny_holding (ho ok eo ao F S e1 fun va s₁ ρ₁ P₁ V₁ => wpAny_bind (wpAny_holding (hi ok eo ao (F.post S P₁) P₁.st e2 fun vb s₂ ρ₂ P₂ V₂ => wpAny_bind (wpAny_standAt (wpAny_bind (wpAny_holding ?_)))))))
  have P₁₂ := P₁.transR P₂
  refine set_of P₂.st (P₂.v P₁.st V₁) V₂ (P₁₂.v S hv) e3 fun s₃ P₃ => ?_
  have P := P₁₂.transR P₃
  exact wpAny_release' (h _ _ P.toS (F.post S P))
theorem RT.attr {o : Expr} {attr : Str} {pos : Pos} {mo} (ho : RE C o mo) : RT C (.Attribute o attr pos) (tAttr C.X.K attr mo) := by
  intro A E Q s ρ σ lc lc' d v σ' ok eo ao F S hv e h
  refine bindS e fun a σ₁ e1 e => ?_
  refine map1 e fun σ₃ e3 e => ?_
  cases e
  show wpAny _ _ (do
    let ov ← holding [v] (eval o C.env)
    standAt pos.atName
    holding [v, ov] (setAttr ov attr v)
    release [v, ov] []) _ _ _
  refine wpAny_bind (wpAny_holding (ho ok eo ao F S e1 fun va s₁ ρ₁ P₁ V₁ => wpAny_bind (wpAny_standAt (wpAny_bind (wpAny_holding ?_)))))
  refine setAttr_of ok P₁.st V₁ (P₁.v S hv) e3 fun s₃ P₃ => ?_
  have P := P₁.transR P₃
  exact wpAny_release' (h _ _ P.toS (F.post S P))
/-- o[lo:hi] = list -/
noncomputable def tSlice (mo ml mu : EM) : AV → Lc → Store → Option (Lc × Store) := fun d lc σ => (mo lc σ).bind fun p => (ml lc p.2).bind fun q => (mu lc q.2).bind fun r => (partOf q.1).bind fun x => (partOf r.1).bind fun y =>
  match p.1, d with
  | .ref i, .ref j => match r.2[i]?, r.2[j]? with
    | some (.list l), some (.list k) => if i ≠ j ∧ l.length + k.length ≤ 1000 then some (lc, r.2.set i (.list (setSliceL l k x y))) else none
    | _, _ => none
  | _, _ => none
theorem RT.slice {o : Expr} {lower upper : Option Expr} {p pos : Pos} {mo ml mu} (ho : RE C o mo) (hlo : RPart C lower ml) (hup : RPart C upper mu) : RT C (.Subscript o (.Slice lower upper Option.none p) pos) (tSlice mo ml mu) := by
  intro A E Q s ρ σ lc lc' d v σ' ok eo ao F S hv e h
  have e := bind_some e
  obtain ⟨⟨a, σ₁⟩, e1, e⟩ := e
  have e := bind_some e
  obtain ⟨⟨b, σ₂⟩, e2, e⟩ := e
  have e := bind_some e
  obtain ⟨⟨c, σ₃⟩, e3, e⟩ := e
  have e := bind_some e
  obtain ⟨x, e4, e⟩ := e
  have e := bind_some e
  obtain ⟨y, e5, e⟩ := e
  rcases a with _ | _ | _ | _ | _ | ii <;> try exact nos e
  rcases d with _ | _ | _ | _ | _ | jj <;> try exact nos e
  simp only [] at e
  split at e
  · rename_i l k hl hk
    split at e
    · rename_i hn
      cases e
      rw [assign_Subscript]
      refine wpAny_bind (wpAny_holding (ho ok eo ao F S e1 fun va s₁ ρ₁ P₁ V₁ => wpAny_bind (wpAny_holding (wpAny_Slice (hlo ok eo ao (F.post S P₁) P₁.st e2 fun vb s₂ ρ₂ P₂ V₂ => hup ok eo ao ((F.post S P₁).post P₁.st P₂) P₂.st e3 fun vc s₃ ρ₃ P₃ V₃ => ?_)))))
      rw [evalPart_none]
      refine wpAny_pure (wpAny_bind (wpAny_standAt (wpAny_bind (wpAny_holding ?_))))
      have P₁₃ := (P₁.transR P₂).transR P₃
      have P₄ : Post C.X (· ∈ ρ₃) ρ₃ s₃ ρ₃ _ { s₃ with heap := s₃.heap.push { cls := .type "slice", data := .fields #[vb, vc, .none] } } := Post.keeps P₃.st keepPush
      have P₁₄ := P₁₃.transR P₄
      have Vo := P₄.v P₃.st (P₃.v P₂.st (P₂.v P₁.st V₁))
      have Vd := P₁₄.v S hv
      obtain ⟨b₁, vs, n, rfl, hbi, eb, rl⟩ := P₄.st.list Vo hl
      obtain ⟨b₂, ws, m, rfl, hbj, ec, rk⟩ := P₄.st.list Vd hk
      have hsz : l.length = vs.size := by rw [rl.length]; simp
      have hsz2 : k.length = ws.size := by rw [rk.length]; simp
      have hne : b₁ ≠ b₂ := by
        rintro rfl
        have nd := List.pairwise_iff_getElem.mp P₄.st.nd
        obtain ⟨l1, q1⟩ := List.getElem?_eq_some_iff.mp hbi
        obtain ⟨l2, q2⟩ := List.getElem?_eq_some_iff.mp hbj
        rcases Nat.lt_trichotomy ii jj with q | q | q
        · exact nd ii jj l1 l2 q (q1.trans q2.symm)
        · exact hn.1 q
        · exact nd jj ii l2 l1 q (q2.trans q1.symm)
      refine seqSlice_list (s := { s₃ with heap := s₃.heap.push { cls := .type "slice", data := .fields #[vb, vc, .none] } }) eb ec hne (Heap.IsSliceOf.new ..) (isPart_of (P₃.v P₂.st V₂) e4) (isPart_of V₃ e5) (by lia) ?_
      have P₅ := Post.setList (tk := s₃.toks) (l := setSliceL l k x y) P₄.st hbi eb (f := fun xs => xs.extract 0 (x.elim 0 (clipAt vs.size)) ++ ws ++ xs.extract (max (x.elim 0 (clipAt vs.size)) (y.elim vs.size (clipAt vs.size))) xs.size) (by
        simp only [Array.toList_append, Array.toList_extract]
        unfold setSliceL
        rw [hsz]
        refine ((?_ : Vs _ _ _ _).append rk).append ?_
        · simpa using rl.take _
        · have := rl.drop (max (x.elim 0 (clipAt vs.size)) (y.elim vs.size (clipAt vs.size)))
          rw [List.extract_eq_take_drop, List.take_of_length_le (by simp)]
          simpa using this)
      have P := P₁₄.transR P₅
      exact wpAny_release' (h _ _ P.toS (F.post S P))
    · exact nos e
  · exact nos e
/- several targets at once -/
noncomputable def tNil : List AV → Lc → Store → Option (Lc × Store) := fun l lc σ => match l with | [] => some (lc, σ) | _ => none
noncomputable def tCons (t : AV → Lc → Store → Option (Lc × Store)) (ts : List AV → Lc → Store → Option (Lc × Store)) : List AV → Lc → Store → Option (Lc × Store) := fun l lc σ => match l with | d :: ds => (t d lc σ).bind fun p => ts ds p.1 p.2 | [] => none
noncomputable def RTs (C : Cn) (fs : List (Value → Sem Unit)) (t : List AV → Lc → Store → Option (Lc × Store)) : Prop :=
  ∀ {A : Around} {E : Value → Shared → Prop} {Q : Unit → Shared → Prop} {s : Shared} {ρ : List Addr} {σ : Store} {lc lc' : Lc} {d : List AV} {v : List Value} {σ' : Store},
    C.X.Ok → EnvOk C.ns C.env → AOk C.lv A → FR C.X C.ns C.env ρ lc s.heap → St C.X ρ σ s.heap → Vs ρ s.heap d v → t d lc σ = some (lc', σ') →
    (∀ s' ρ', Post C.X (exS C.env ρ) ρ s ρ' σ' s' → FR C.X C.ns C.env ρ' lc' s'.heap → Q () s') → wpAny (model C.X.prog C.X.w) A (assignInOrder fs v) Q E s
theorem RTs.nil : RTs C [] tNil := by
  intro A E Q s ρ σ lc lc' d v σ' ok eo ao F S hv e h
  cases hv with
  | nil => cases e; exact wpAny_pure (h _ _ (Post.refl S) F)
  | cons _ _ => exact nos e
theorem RTs.cons {f : Expr} {fs : List (Value → Sem Unit)} {t ts} (hf : RT C f t) (hr : RTs C fs ts) : RTs C (assign f C.env :: fs) (tCons t ts) := by
  intro A E Q s ρ σ lc lc' d v σ' ok eo ao F S hv e h
  cases hv with
  | nil => exact nos e
  | cons hd hr' =>
    refine bindS e fun lc₁ σ₁ e1 e => ?_
    refine wpAny_bind (wpAny_holding (hf ok eo ao F S hd e1 fun s₁ ρ₁ P₁ F₁ => ?_))
    exact hr ok eo ao F₁ P₁.st (P₁.vsS S F hr') e fun s₂ ρ₂ P₂ F₂ => h _ _ (P₁.transS P₂) F₂
theorem RTs.bind {x : Str} {fs : List (Value → Sem Unit)} {t ts} (hf : RTb C x t) (hr : RTs C fs ts) : RTs C ((fun v => bindName C.env x v) :: fs) (tCons t ts) := by
  intro A E Q s ρ σ lc lc' d v σ' ok eo ao F S hv e h
  cases hv with
  | nil => exact nos e
  | cons hd hr' =>
    refine bindS e fun lc₁ σ₁ e1 e => ?_
    refine wpAny_bind (wpAny_holding (hf ok eo ao F S hd e1 fun s₁ ρ₁ P₁ F₁ => ?_))
    exact hr ok eo ao F₁ P₁.st (P₁.vsS S F hr') e fun s₂ ρ₂ P₂ F₂ => h _ _ (P₁.transS P₂) F₂
noncomputable def tTup (ts : List AV → Lc → Store → Option (Lc × Store)) : AV → Lc → Store → Option (Lc × Store) := fun d lc σ => match d with | .tup l => ts l lc σ | _ => none
theorem RTs.tuple_len {fs : List (Value → Sem Unit)} {t} : RTs C fs t → True := fun _ => trivial
theorem RT.tuple {elts : List Expr} {k : Nat} {pos : Pos} {n : Nat} {ts} (hr : RTs C ((assignEach elts C.env).map (·.2)) ts) (hn : (assignEach elts C.env).length = n) (hst : (assignEach elts C.env).findIdx? (·.1) = Option.none) :
    RT C (.Tuple elts k pos) (tTup fun l => if l.length = n then ts l else fun _ _ => Option.none) := by
  intro A E Q s ρ σ lc lc' d v σ' ok eo ao F S hv e h
  cases d <;> simp only [tTup] at e <;> try exact nos e
  rename_i l
  split at e
  · rename_i hl
    cases hv with
    | @tup a vs m _ ea rl =>
      have hsz : l.length = vs.size := by rw [rl.length]; simp
      show wpAny _ _ (do standAt pos; unpack (.ref a) (assignEach elts C.env)) _ _ _
      refine wpAny_bind (wpAny_standAt ?_)
      unfold unpack
      refine wpAny_bind (wpAny_holding ?_)
      rw [hst, hn, ← hl, hsz]
      refine unpackItems_tuple ao.1 ⟨_, ea, rfl, _, rfl⟩ fun h' he => ?_
      have hk : ∀ b o, s.heap.get? b = some o → h'.get? b = some o := fun b o e => he b o (Nat.ne_of_lt (Heap.lt_size e)) e
      have P : Post C.X (· ∈ ρ) ρ s ρ σ { s with heap := h', toks := s.toks } := Post.keeps S hk
      exact hr ok eo ao (F.post S P) P.st (P.vs S rl) e fun s₂ ρ₂ P₂ F₂ => h _ _ (P.toS.transS P₂) F₂
  · exact nos e
end
end Mine
end
-- part FW9
section
open PySem PySem.W PySem.Calls PyProof.Rows
set_option maxRecDepth 100000
namespace Mine

section
variable {X : Cx} {ns : List Str} {env : Env} {ρ ρ' : List Addr} {lc : Lc} {σ σ' : Store} {s s' : Shared} {ex : Addr → Prop}

theorem St.alive (S : St X ρ σ s.heap) {a : Addr} (h : a ∈ ρ) : ∃ o, s.heap.get? a = some o := by
  obtain ⟨i, hi, rfl⟩ := List.mem_iff_getElem.mp h
  obtain ⟨a', o', e1, e2, e3⟩ := S.obj i (σ[i]'(S.len ▸ hi)) (List.getElem?_eq_getElem _)
  rw [List.getElem?_eq_getElem hi] at e1
  cases e1
  exact ⟨o', e2⟩
theorem St.fresh (S : St X ρ σ s.heap) {a : Addr} (h : s.heap.get? a = none) : a ∉ ρ := fun hm => by
  obtain ⟨o, e⟩ := S.alive hm
  rw [h] at e; cases e
/-- fresh objects, none of the store, turned -/
theorem Post.junk (S : St X ρ σ s.heap) (P : Post X ex ρ s ρ' σ' s') (D : Addr → Prop) {h' : Heap} {tk : Nat} (hk : ∀ b o, ¬ D b → s'.heap.get? b = some o → h'.get? b = some o)
    (hD : ∀ b, D b → b ∉ ρ' ∧ s.heap.get? b = none ∧ ∀ o, s'.heap.get? b = some o → ¬ isTup o) : Post X ex ρ s ρ' σ' { s' with heap := h', toks := tk } := by
  have ht : KeepT s'.heap h' := fun b o e t => hk b o (fun d => (hD b d).2.2 o e t) e
  have nD : ∀ b o, s.heap.get? b = some o → ¬ D b := fun b o e d => by rw [(hD b d).2.1] at e; cases e
  refine ⟨⟨P.st.len, P.st.nd, P.st.new, fun b o e => hk b o (nD b o (S.keep b o e)) (P.st.keep b o e), fun i ao e => ?_⟩, P.pre, P.fresh, fun b o nb e => hk b o (nD b o e) (P.keep b o nb e), fun b o e => ?_, ?_⟩
  · obtain ⟨a, o, e1, e2, e3⟩ := P.st.obj i ao e
    exact ⟨a, o, e1, hk a o (fun d => (hD a d).1 (List.mem_of_getElem? e1)) e2, e3.mono ht fun _ _ e => e⟩
  · obtain ⟨o', e'⟩ := P.live b o e
    exact ⟨o', hk b o' (nD b o e) e'⟩
  · rw [P.same]
theorem FR.junk (F : FR X ns env ρ' lc s'.heap) (D : Addr → Prop) {h' : Heap} (hk : ∀ b o, ¬ D b → s'.heap.get? b = some o → h'.get? b = some o)
    (hD : ∀ b, D b → ¬ own env b ∧ ∀ o, s'.heap.get? b = some o → ¬ isTup o) : FR X ns env ρ' lc h' := by
  have ht : KeepT s'.heap h' := fun b o e t => hk b o (fun d => (hD b d).2 o e t) e
  obtain ⟨⟨m, hn, hl⟩, off, cells, len⟩ := F
  have kp : ∀ b, own env b → ∀ o, s'.heap.get? b = some o → h'.get? b = some o := fun b hb o e => hk b o (fun d => (hD b d).1 hb) e
  have ck : ∀ n c, env.cells.lookup n = some c → ∀ v, s'.heap.IsCell c v → h'.IsCell c v := fun n c e v ⟨o, ho, hd⟩ => ⟨o, kp c (.inr ⟨n, e⟩) o ho, hd⟩
  refine ⟨⟨m, ?_, fun k x av hk hv => ?_⟩, off, fun n c e => ?_, len⟩
  · obtain ⟨o, es, ep, ho, r⟩ := hn
    exact ⟨o, es, ep, kp _ (.inl rfl) _ ho, r⟩
  · obtain ⟨v, hs, hv⟩ := hl k x av hk hv
    refine ⟨v, ?_, hv.mono ht fun _ _ e => e⟩
    rcases hs with q | ⟨q, c, hc, hi⟩
    · exact .inl q
    · exact .inr ⟨q, c, hc, ck _ _ hc _ hi⟩
  · obtain ⟨v, hv⟩ := cells n c e
    exact ⟨v, ck n c e v hv⟩
/-- in a frame's post, the frame comes along where the frame's own objects stand -/
theorem FR.postS (F : FR X ns env ρ lc s.heap) {ex : Addr → Prop} (P : Post X ex ρ s ρ' σ' s') (hex : ∀ b o, s.heap.get? b = some o → isTup o ∨ own env b → ¬ ex b) : FR X ns env ρ' lc s'.heap := by
  have ht : KeepT s.heap s'.heap := fun b o e t => P.keep b o (hex b o e (.inl t)) e
  obtain ⟨⟨m, hn, hl⟩, off, cells, len⟩ := F
  have kp : ∀ b, own env b → ∀ o, s.heap.get? b = some o → s'.heap.get? b = some o := fun b hb o e => P.keep b o (hex b o e (.inr hb)) e
  have ck : ∀ n c, env.cells.lookup n = some c → ∀ v, s.heap.IsCell c v → s'.heap.IsCell c v := fun n c e v ⟨o, ho, hd⟩ => ⟨o, kp c (.inr ⟨n, e⟩) o ho, hd⟩
  refine ⟨⟨m, ?_, fun k x av hk hv => ?_⟩, fun b hb => ⟨fun hm => ?_, (off b hb).2⟩, fun n c e => ?_, len⟩
  · obtain ⟨o, es, ep, ho, r⟩ := hn
    exact ⟨o, es, ep, kp _ (.inl rfl) _ ho, r⟩
  · obtain ⟨v, hs, hv⟩ := hl k x av hk hv
    refine ⟨v, ?_, hv.mono ht P.idx⟩
    rcases hs with q | ⟨q, c, hc, hi⟩
    · exact .inl q
    · exact .inr ⟨q, c, hc, ck _ _ hc _ hi⟩
  · rcases P.fresh b hm with q | q
    · exact (off b hb).1 q
    · rcases hb with rfl | ⟨n, hc⟩
      · obtain ⟨o, es, ep, ho, r⟩ := hn
        rw [ho] at q; cases q
      · obtain ⟨v, o, ho, _⟩ := cells n b hc
        rw [ho] at q; cases q
  · obtain ⟨v, hv⟩ := cells n c e
    exact ⟨v, ck n c e v hv⟩
theorem FR.alive (F : FR X ns env ρ lc s.heap) {b : Addr} (h : own env b) : ∃ o, s.heap.get? b = some o := by
  rcases h with rfl | ⟨n, hc⟩
  · obtain ⟨m, ⟨o, es, ep, ho, r⟩, _⟩ := F.loc
    exact ⟨o, ho⟩
  · obtain ⟨v, o, ho, _⟩ := F.cells n b hc
    exact ⟨o, ho⟩
end

/-- what a loop walks over -/
inductive Src where
  | list (k : Nat)
  | enum (k : Nat)
  | tup (l : List AV)
  | range (a : Int) (n : Nat)
noncomputable def Src.items : Src → Store → Option (List AV)
  | .list k, σ => match σ[k]? with | some (.list l) => if l.length ≤ 1000 then some l else none | _ => none
  | .enum k, σ => match σ[k]? with | some (.list l) => if l.length ≤ 1000 then some (l.mapIdx fun i d => .tup [.int i, d]) else none | _ => none
  | .tup l, _ => if l.length ≤ 1000 then some l else none
  | .range a n, _ => if n ≤ 1000 then some ((List.range n).map fun i : Nat => .int (a + (i : Int))) else none
noncomputable def ItR (ρ : List Addr) (h : Heap) : Src → Nat → Value → (Addr → Prop) → Prop
  | .list k, i, it, D => ∃ I ax, it = .ref I ∧ D = (· = I) ∧ ρ[k]? = some ax ∧ h.IsListIter I ax i
  | .enum k, i, it, D => ∃ e I ax old, it = .ref e ∧ D = (fun b => b = e ∨ b = I) ∧ e ≠ I ∧ ρ[k]? = some ax ∧ IsEnum h e I i old ∧ h.IsListIter I ax i
  | .tup l, i, it, D => ∃ I ax vs n, it = .ref I ∧ D = (· = I) ∧ h.get? ax = some (tupObj vs n) ∧ Vs ρ h l vs.toList ∧ h.IsTupleIter I ax i
  | .range a n, i, it, D => ∃ I, it = .ref I ∧ D = (· = I) ∧ IsRangeIter h I (a + (i : Nat)) ((n : Int) - (i : Nat)) 1
noncomputable def Src.isEnum : Src → Bool
  | .enum _ => true
  | _ => false
noncomputable def tgtOk : Src → Expr → Prop
  | .enum _, t => ∃ elts x1 pos, t = .Tuple elts x1 pos
  | _, t => ∀ it v, letOwnedTupleGo t it v = pure ()

theorem listIter_noTup {h : Heap} {I ax : Addr} {i : Nat} (x : h.IsListIter I ax i) : ∃ o, h.get? I = some o ∧ ¬ isTup o := by
  obtain ⟨o, ho, hc, hd⟩ := x
  exact ⟨o, ho, by rintro ⟨vs, n, rfl⟩; cases hd⟩
theorem tupIter_noTup {h : Heap} {I ax : Addr} {i : Nat} (x : h.IsTupleIter I ax i) : ∃ o, h.get? I = some o ∧ ¬ isTup o := by
  obtain ⟨o, ho, hc, hd⟩ := x
  exact ⟨o, ho, by rintro ⟨vs, n, rfl⟩; cases hd⟩
theorem ItR.noTup {ρ : List Addr} {h : Heap} {src : Src} {i : Nat} {it : Value} {D : Addr → Prop} (x : ItR ρ h src i it D) : ∀ b, D b → ∃ o, h.get? b = some o ∧ ¬ isTup o := by
  cases src with
  | list k => obtain ⟨I, ax, rfl, rfl, hx, hi⟩ := x; rintro b rfl; exact listIter_noTup hi
  | enum k =>
    obtain ⟨e, I, ax, old, rfl, rfl, hne, hx, he, hi⟩ := x
    rintro b (rfl | rfl)
    · exact ⟨_, he, by rintro ⟨vs, n, q⟩; have := congrArg Obj.cls q; simp at this⟩
    · exact listIter_noTup hi
  | tup l => obtain ⟨I, ax, vs, n, rfl, rfl, hx, hv, hi⟩ := x; rintro b rfl; exact tupIter_noTup hi
  | range a n => obtain ⟨I, rfl, rfl, hi⟩ := x; rintro b rfl; exact ⟨_, hi, by rintro ⟨vs, n, q⟩; have := congrArg Obj.cls q; simp at this⟩
theorem ItR.mono {ρ ρ' : List Addr} {h h' : Heap} {src : Src} {i : Nat} {it : Value} {D : Addr → Prop} (x : ItR ρ h src i it D) (hp : ∀ (i : Nat) (a : Addr), ρ[i]? = some a → ρ'[i]? = some a) (ht : KeepT h h') (hk : ∀ b o, D b → h.get? b = some o → h'.get? b = some o) : ItR ρ' h' src i it D := by
  cases src with
  | list k => obtain ⟨I, ax, rfl, rfl, hx, hi⟩ := x; exact ⟨I, ax, rfl, rfl, hp _ _ hx, hi.at fun o e => hk _ o rfl e⟩
  | enum k =>
    obtain ⟨e, I, ax, old, rfl, rfl, hne, hx, he, hi⟩ := x
    exact ⟨e, I, ax, old, rfl, rfl, hne, hp _ _ hx, hk _ _ (.inl rfl) he, hi.at fun o e => hk _ o (.inr rfl) e⟩
  | tup l => obtain ⟨I, ax, vs, n, rfl, rfl, hx, hv, hi⟩ := x; exact ⟨I, ax, vs, n, rfl, rfl, ht _ _ hx ⟨_, _, rfl⟩, hv.mono ht hp, hi.at fun o e => hk _ o rfl e⟩
  | range a n => obtain ⟨I, rfl, rfl, hi⟩ := x; exact ⟨I, rfl, rfl, hk _ _ rfl hi⟩

theorem slot_list {X : Cx} {ρ : List Addr} {σ : Store} {h : Heap} (S : St X ρ σ h) {k : Nat} {ax : Addr} {l : List AV} (hx : ρ[k]? = some ax) (hi : σ[k]? = some (.list l)) : ∃ vs n, h.get? ax = some { cls := .type "list", data := .seq vs n } ∧ Vs ρ h l vs.toList := by
  obtain ⟨b, vs, n, hb, hbi, eb, rl⟩ := S.list (.ref hx) hi
  cases hb
  exact ⟨vs, n, eb, rl⟩

theorem next_ofN {X : Cx} {A : Around} {E : Value → Shared → Prop} {ρ : List Addr} {σ : Store} {s : Shared} {src : Src} {i : Nat} {it : Value} {D : Addr → Prop} {items : List AV} {Q : Option Value → Shared → Prop}
    (hh : A.handled = none) (S : St X ρ σ s.heap) (hi : ItR ρ s.heap src i it D) (hoff : ∀ b, D b → b ∉ ρ) (hs : src.items σ = some items) (hen : src.isEnum = false)
    (hend : items[i]? = none → ∀ h' tk, (∀ b o, ¬ D b → s.heap.get? b = some o → h'.get? b = some o) → Q none { s with heap := h', toks := tk })
    (hitem : ∀ d v h' tk, items[i]? = some d → V ρ h' d v → ItR ρ h' src (i + 1) it D → (∀ b o, ¬ D b → s.heap.get? b = some o → h'.get? b = some o) → Q (some v) { s with heap := h', toks := tk }) : wpAny (model X.prog X.w) A (pyNext it) Q E s := by
  cases src with
  | list k =>
    obtain ⟨I, ax, rfl, rfl, hx, hi⟩ := hi
    simp only [Src.items] at hs
    split at hs <;> try (cases hs; done)
    rename_i l hl
    split at hs <;> try (cases hs; done)
    cases hs
    obtain ⟨vs, n, eb, rl⟩ := slot_list S hx hl
    have hne : ax ≠ I := by rintro rfl; exact hoff _ rfl (List.mem_of_getElem? hx)
    cases hv : items[i]? with
    | none =>
      have hvs : vs[i]? = none := by
        rw [List.getElem?_eq_none_iff] at hv
        have := rl.length
        rw [Array.getElem?_eq_none_iff]; simp at this; lia
      exact wpAny_pyNext_list_end hh hi (isListOf eb) hvs fun h' he => hend hv h' s.toks fun b o nb e => he b o nb e
    | some d =>
      obtain ⟨v, hv', hV⟩ := rl.get hv
      have hvs : vs[i]? = some v := by simpa using hv'
      refine wpAny_pyNext_list_item hi (isListOf eb) hvs fun h' hit' hsb => ?_
      have kp : ∀ b o, ¬ b = I → s.heap.get? b = some o → h'.get? b = some o := fun b o nb e => hsb.extBut b o nb e
      have kt : KeepT s.heap h' := fun b o e t => kp b o (by rintro rfl; obtain ⟨o', ho', hn⟩ := listIter_noTup hi; rw [e] at ho'; cases ho'; exact hn t) e
      exact hitem d v h' s.toks hv (hV.mono kt fun _ _ e => e) ⟨I, ax, rfl, rfl, hx, hit'⟩ kp
  | enum k => cases hen
  | tup l =>
    obtain ⟨I, ax, vs, n, rfl, rfl, hx, rl, hi⟩ := hi
    simp only [Src.items] at hs
    split at hs <;> try (cases hs; done)
    cases hs
    have hT : s.heap.IsTuple ax vs := ⟨_, hx, rfl, _, rfl⟩
    have hne : ax ≠ I := by rintro rfl; obtain ⟨o, ho, hn⟩ := tupIter_noTup hi; rw [hx] at ho; cases ho; exact hn ⟨_, _, rfl⟩
    cases hv : items[i]? with
    | none =>
      have hvs : vs[i]? = none := by
        rw [List.getElem?_eq_none_iff] at hv
        have := rl.length
        rw [Array.getElem?_eq_none_iff]; simp at this; lia
      exact wpAny_pyNext_tuple_end hh hi hT hvs fun h' he => hend hv h' s.toks fun b o nb e => he b o nb e
    | some d =>
      obtain ⟨v, hv', hV⟩ := rl.get hv
      have hvs : vs[i]? = some v := by simpa using hv'
      refine wpAny_pyNext_tuple_item hi hT hvs fun h' hit' hsb => ?_
      have kp : ∀ b o, ¬ b = I → s.heap.get? b = some o → h'.get? b = some o := fun b o nb e => hsb.extBut b o nb e
      have kt : KeepT s.heap h' := fun b o e t => kp b o (by rintro rfl; obtain ⟨o', ho', hn⟩ := tupIter_noTup hi; rw [e] at ho'; cases ho'; exact hn t) e
      exact hitem d v h' s.toks hv (hV.mono kt fun _ _ e => e) ⟨I, ax, vs, n, rfl, rfl, kp _ _ hne hx, rl.mono kt fun _ _ e => e, hit'⟩ kp
  | range a n =>
    obtain ⟨I, rfl, rfl, hi⟩ := hi
    simp only [Src.items] at hs
    split at hs <;> try (cases hs; done)
    cases hs
    cases hv : ((List.range n).map fun i : Nat => AV.int (a + (i : Int)))[i]? with
    | none =>
      rw [List.getElem?_eq_none_iff] at hv
      simp at hv
      exact wpAny_pyNext_range_end hh hi (by lia) fun h' he => hend (by simpa using hv) h' s.toks fun b o nb e => he b o nb e
    | some d =>
      have hd : i < n ∧ d = .int (a + i) := by
        simp only [List.getElem?_map, Option.map_eq_some_iff] at hv
        obtain ⟨d', h1, h2⟩ := hv
        have := List.getElem?_eq_some_iff.mp h1
        obtain ⟨hl, hg⟩ := this
        simp at hl hg
        subst hg
        exact ⟨hl, h2.symm⟩
      obtain ⟨hlt, rfl⟩ := hd
      refine wpAny_pyNext_range_item hi (by lia) fun h' hit' hsb => ?_
      have kp : ∀ b o, ¬ b = I → s.heap.get? b = some o → h'.get? b = some o := fun b o nb e => hsb.extBut b o nb e
      refine hitem _ _ h' _ hv (.int _ _) ⟨I, rfl, rfl, ?_⟩ kp
      have e1 : a + ((i + 1 : Nat) : Int) = a + (i : Int) + 1 := by push_cast; lia
      have e2 : (n : Int) - ((i + 1 : Nat) : Int) = (n : Int) - (i : Int) - 1 := by push_cast; lia
      rw [e1, e2]; exact hit'
theorem next_of {X : Cx} {A : Around} {E : Value → Shared → Prop} {ρ : List Addr} {σ : Store} {s : Shared} {target : Expr} {src : Src} {i : Nat} {it : Value} {D : Addr → Prop} {items : List AV} {Q : Option Value → Shared → Prop}
    (hh : A.handled = none) (S : St X ρ σ s.heap) (hi : ItR ρ s.heap src i it D) (hoff : ∀ b, D b → b ∉ ρ) (hs : src.items σ = some items) (ht : tgtOk src target)
    (hend : items[i]? = none → ∀ h' tk, (∀ b o, ¬ D b → s.heap.get? b = some o → h'.get? b = some o) → Q none { s with heap := h', toks := tk })
    (hitem : ∀ d v s₁, items[i]? = some d → (∀ {E' : Value → Shared → Prop} {Q' : Unit → Shared → Prop}, (∀ h' tk, V ρ h' d v → ItR ρ h' src (i + 1) it D → (∀ b o, ¬ D b → s.heap.get? b = some o → h'.get? b = some o) → Q' () { s with heap := h', toks := tk }) →
      wpAny (model X.prog X.w) A (letOwnedTupleGo target it v) Q' E' s₁) → Q (some v) s₁) : wpAny (model X.prog X.w) A (pyNext it) Q E s := by
  have nonEnum : src.isEnum = false → (∀ it v, letOwnedTupleGo target it v = pure ()) → wpAny (model X.prog X.w) A (pyNext it) Q E s := fun hen htn =>
    next_ofN hh S hi hoff hs hen hend fun d v h' tk hv hV hI kp => hitem d v _ hv fun {E' Q'} hq => wpAny_of_eq (htn _ _) (hq h' tk hV hI kp)
  cases src with
  | list k => exact nonEnum rfl ht
  | enum k =>
    obtain ⟨e, I, ax, old, rfl, rfl, hne, hx, he, hi⟩ := hi
    simp only [Src.items] at hs
    split at hs <;> try (cases hs; done)
    rename_i l hl
    split at hs <;> try (cases hs; done)
    cases hs
    obtain ⟨vs, n, eb, rl⟩ := slot_list S hx hl
    have hne1 : ax ≠ e := by rintro rfl; exact hoff _ (.inl rfl) (List.mem_of_getElem? hx)
    have hne2 : ax ≠ I := by rintro rfl; exact hoff _ (.inr rfl) (List.mem_of_getElem? hx)
    obtain ⟨elts, x1, pos, rfl⟩ := ht
    cases hv : (l.mapIdx fun i d => AV.tup [.int i, d])[i]? with
    | none =>
      have hvs : vs[i]? = none := by
        rw [List.getElem?_eq_none_iff] at hv
        have := rl.length
        rw [Array.getElem?_eq_none_iff]; simp at this hv; lia
      exact wpAny_pyNext_enum_end hh he hi (isListOf eb) hvs fun h' he' => hend hv h' s.toks fun b o nb e => he' b o (fun q => nb (.inr q)) e
    | some d =>
      have hd : ∃ d', l[i]? = some d' ∧ d = .tup [.int i, d'] := by
        simp only [List.getElem?_mapIdx, Option.map_eq_some_iff] at hv
        obtain ⟨d', h1, h2⟩ := hv
        exact ⟨d', h1, h2.symm⟩
      obtain ⟨d', hd', rfl⟩ := hd
      obtain ⟨v, hv', hV⟩ := rl.get hd'
      have hvs : vs[i]? = some v := by simpa using hv'
      refine wpAny_pyNext_enum_item he hi (isListOf eb) hvs hne fun h' heo hit' htp hsz kp => ?_
      refine hitem _ _ _ hv fun {E' Q'} hq => wpAny_letOwnedTupleGo_enum heo fun h'' he'' hsb => ?_
      have hnoI := listIter_noTup hi
      have hnoE : ∀ o, s.heap.get? e = some o → ¬ isTup o := by
        intro o ho; rw [he] at ho; cases ho
        rintro ⟨vs, n, q⟩; have := congrArg Obj.cls q; simp at this
      have kp' : ∀ b o, ¬ (b = e ∨ b = I) → s.heap.get? b = some o → h''.get? b = some o := fun b o nb e' => hsb.extBut b o (fun q => nb (.inl q)) (kp b o (fun q => nb (.inl q)) (fun q => nb (.inr q)) e')
      have kt : KeepT s.heap h'' := fun b o e' t => kp' b o (by
        rintro (rfl | rfl)
        · exact hnoE _ e' t
        · obtain ⟨o', ho', hn⟩ := hnoI; rw [e'] at ho'; cases ho'; exact hn t) e'
      have hlt : e < s.heap.objs.size := Heap.lt_size he
      have htp' : h''.get? s.heap.objs.size = some (tupObj #[.int i s.toks, v] 0) := hsb.extBut _ _ (Nat.ne_of_gt hlt) htp
      refine hq h'' _ (.tup htp' (.cons (.int _ _) (.cons (hV.mono kt fun _ _ e => e) .nil))) ⟨e, I, ax, v, rfl, rfl, hne, hx, ?_, hit'.extBut hsb.extBut (Ne.symm hne)⟩ kp'
      have : ((i + 1 : Nat) : Int) = (i : Int) + 1 := by push_cast; rfl
      rw [this]; exact he''
  | tup l => exact nonEnum rfl ht
  | range a n => exact nonEnum rfl ht
end Mine
end
-- part FW10
section
open PySem PySem.W PySem.Calls PyProof.Rows
set_option maxRecDepth 100000
namespace Mine

noncomputable def ItNew (D : Addr → Prop) (ρ' : List Addr) (s s' : Shared) : Prop := ∀ b, D b → s.heap.get? b = none ∧ b ∉ ρ' ∧ ∃ o, s'.heap.get? b = some o ∧ ¬ isTup o
/-- e, and an iterator over it -/
noncomputable def RI (C : Cn) (e : Expr) (m : Lc → Store → Option (Src × Store)) : Prop :=
  ∀ {A : Around} {E : Value → Shared → Prop} {Q : Value → Shared → Prop} {s : Shared} {ρ : List Addr} {σ : Store} {lc : Lc} {r : Src} {σ' : Store},
    C.X.Ok → EnvOk C.ns C.env → AOk C.lv A → FR C.X C.ns C.env ρ lc s.heap → St C.X ρ σ s.heap → m lc σ = some (r, σ') →
    (∀ it s' ρ' D, Post C.X (· ∈ ρ) ρ s ρ' σ' s' → ItR ρ' s'.heap r 0 it D → ItNew D ρ' s s' → Q it s') →
    wpAny (model C.X.prog C.X.w) A (eval e C.env) (fun x s₁ => wpAny (model C.X.prog C.X.w) A (pyIter x) Q E s₁) E s
noncomputable def seqSrc : AV → Store → Option Src
  | .ref k, σ => match σ[k]? with | some (.list _) => some (.list k) | _ => none
  | .tup l, _ => some (.tup l)
  | _, _ => none
noncomputable def iSeq (m : EM) : Lc → Store → Option (Src × Store) := fun lc σ => (m lc σ).bind fun p => (seqSrc p.1 p.2).map fun r => (r, p.2)
noncomputable def rangeSrc : List AV → Option Src
  | [.int n] => if n ≤ 1000 ∧ -1000 ≤ n then some (.range 0 n.toNat) else none
  | [.int a, .int b] => if b ≤ 1000 ∧ -1000 ≤ b ∧ a ≤ 1000 ∧ -1000 ≤ a then some (.range a (b - a).toNat) else none
  | _ => none
noncomputable def iRange (m : Lc → Store → Option (List AV × Store)) : Lc → Store → Option (Src × Store) := fun lc σ => (m lc σ).bind fun p => (rangeSrc p.1).map fun r => (r, p.2)
noncomputable def iEnum (m : Lc → Store → Option (List AV × Store)) : Lc → Store → Option (Src × Store) := fun lc σ => (m lc σ).bind fun p => match p.1 with
  | [.ref k] => (match p.2[k]? with | some (.list _) => some (.enum k, p.2) | _ => none)
  | _ => none

section
variable {C : Cn}
theorem ItNew.of {D : Addr → Prop} {X : Cx} {ex : Addr → Prop} {ρ ρ' : List Addr} {σ' : Store} {s s₁ s' : Shared} (P : Post X ex ρ s ρ' σ' s₁) {src : Src} {i : Nat} {it : Value} (hit : ItR ρ' s'.heap src i it D) (hD : ∀ b, D b → s₁.heap.get? b = none) : ItNew D ρ' s s' := by
  intro b hb
  refine ⟨?_, P.st.fresh (hD b hb), hit.noTup b hb⟩
  cases e : s.heap.get? b with
  | none => rfl
  | some o => obtain ⟨o', e'⟩ := P.live b o e; rw [hD b hb] at e'; cases e'
theorem size_none {h : Heap} {k : Nat} (hk : h.objs.size ≤ k) : h.get? k = none := by
  cases e : h.get? k with
  | none => rfl
  | some o => exact absurd (Heap.lt_size e) (Nat.not_lt.mpr hk)

theorem RI.seq {e : Expr} {m} (he : RE C e m) : RI C e (iSeq m) := by
  intro A E Q s ρ σ lc r σ' ok eo ao F S e h
  refine bindS e fun a σ₁ e1 e => ?_
  refine map1 e fun src e2 e => ?_
  cases e
  refine he ok eo ao F S e1 fun v s₁ ρ₁ P₁ V₁ => ?_
  cases a with
  | none => exact nos e2 | bool _ => exact nos e2 | int _ => exact nos e2 | str _ => exact nos e2 | raw _ => exact nos e2
  | tup ds =>
    cases V₁ with
    | tup ea rl =>
    rename_i b vs n
    cases e2
    refine PySem.wpAny_pyIter_tuple ⟨_, ea, rfl, _, rfl⟩ ?_
    have hit : ItR ρ₁ (s₁.heap.push { cls := .type "tuple_iterator", data := .fields #[.ref b, .int 0 0] }) (.tup ds) 0 (.ref s₁.heap.objs.size) (· = s₁.heap.objs.size) :=
      ⟨_, b, vs, n, rfl, rfl, Heap.get?_push_of_some _ ea, rl.mono (.of keepPush) fun _ _ e => e, ⟨_, Heap.get?_push_size _ rfl, rfl, rfl⟩⟩
    exact h _ { s₁ with heap := s₁.heap.push { cls := .type "tuple_iterator", data := .fields #[.ref b, .int 0 0] } } ρ₁ _ (P₁.transR (Post.keeps P₁.st keepPush)) hit (ItNew.of P₁ hit (by rintro b rfl; exact get_none_size))
  | ref k =>
    cases V₁ with
    | ref hb =>
    rename_i b
    simp only [seqSrc] at e2
    split at e2 <;> try exact nos e2
    rename_i l hl
    cases e2
    obtain ⟨vs, n, eb, rl⟩ := slot_list P₁.st hb hl
    refine PySem.wpAny_pyIter_list (isListOf eb) ?_
    have hit : ItR ρ₁ (s₁.heap.push { cls := .type "list_iterator", data := .fields #[.ref b, .int 0 0] }) (.list k) 0 (.ref s₁.heap.objs.size) (· = s₁.heap.objs.size) :=
      ⟨_, b, rfl, rfl, hb, ⟨_, Heap.get?_push_size _ rfl, rfl, rfl⟩⟩
    exact h _ { s₁ with heap := s₁.heap.push { cls := .type "list_iterator", data := .fields #[.ref b, .int 0 0] } } ρ₁ _ (P₁.transR (Post.keeps P₁.st keepPush)) hit (ItNew.of P₁ hit (by rintro b rfl; exact get_none_size))

theorem rangeSrc_inv {l : List AV} {src : Src} (e : rangeSrc l = some src) : (∃ n, l = [.int n]) ∨ ∃ a b, l = [.int a, .int b] := by
  unfold rangeSrc at e
  split at e
  · exact .inl ⟨_, rfl⟩
  · exact .inr ⟨_, _, rfl⟩
  · cases e
theorem RI.range {p pos : Pos} {es : List Expr} {m} (hx : C.env.kindOf "range" = some .globalImplicit) (hk : nsIn C.X.K mainGlobals "range" = some none)
    (ha : RArgs C pos es m) (hp : es.all plainE = true := by rfl) : RI C (.Call (.Name "range" p) es [] pos) (iRange m) := by
  intro A E Q s ρ σ lc r σ' ok eo ao FR S e h
  refine bindS e fun l σ₁ e1 e => ?_
  refine map1 e fun src e2 e => ?_
  cases e
  refine wpAny_Call_Name_kw (Calls.Name_function_global eo.kind hx (Calls.loadGlobal_builtin (by rw [eo.glob]; exact ok.g.keeps S.keep) (mg_none_of ok.K ok.g hk) (by rw [eo.blt]; exact ok.b.keeps S.keep) ((ok.boot _ (by decide)).trans (by decide +kernel : bootBuiltins "range" = some (.type "range"))) ?_) (by decide))
  refine PySem.callWith_type (any_plain hp) (evalArgs_of hp (ha ok eo ao FR S e1 fun vs s₁ ρ₁ P₁ V₁ => ?_))
  have fin : ∀ (a b : Int) (n : Nat) (t u w : Tok) (tk : Nat), r = .range a n → n = (b - a).toNat → -1000 ≤ a → a ≤ 1000 → -1000 ≤ b → b ≤ 1000 →
      wpAny (model C.X.prog C.X.w) A (pyIter (.ref s₁.heap.objs.size)) Q E { s₁ with heap := s₁.heap.push { cls := .type "range", data := .fields #[.int a t, .int b u, .int 1 w] }, toks := tk } := by
    rintro a b n t u w tk rfl rfl h1 h2 h3 h4
    have k1 : ∀ b' o', s₁.heap.get? b' = some o' → (s₁.heap.push { cls := .type "range", data := .fields #[.int a t, .int b u, .int 1 w] }).get? b' = some o' := keepPush
    generalize hH : s₁.heap.push { cls := .type "range", data := .fields #[.int a t, .int b u, .int 1 w] } = H at k1
    have hz : H.objs.size = s₁.heap.objs.size + 1 := by rw [← hH, Heap.size_push]
    refine wpAny_pyIter_range (a := a) (b := b) (c := 1) (t := t) (u := u) (v := w) (by rw [← hH]; exact IsRange.new ..) (small_one (by lia) (by lia) (by lia) (by lia)) ?_
    rw [rangeSize_one]
    have hn : (if a < b then b - a else 0) = (((b - a).toNat : Nat) : Int) := by split <;> lia
    rw [hn]
    have k2 : ∀ b' o', s₁.heap.get? b' = some o' → (H.push { cls := .type "range_iterator", data := .fields #[rawInt a, rawInt ((b - a).toNat : Int), rawInt 1] }).get? b' = some o' := fun b' o' e => keepPush _ _ (k1 _ _ e)
    have hit : ItR ρ₁ (H.push { cls := .type "range_iterator", data := .fields #[rawInt a, rawInt ((b - a).toNat : Int), rawInt 1] }) (.range a (b - a).toNat) 0 (.ref H.objs.size) (· = H.objs.size) :=
      ⟨_, rfl, rfl, by simpa using Heap.get?_push_size H (o := { cls := .type "range_iterator", data := .fields #[rawInt a, rawInt ((b - a).toNat : Int), rawInt 1] }) rfl⟩
    exact h _ { s₁ with heap := H.push { cls := .type "range_iterator", data := .fields #[rawInt a, rawInt ((b - a).toNat : Int), rawInt 1] }, toks := tk } ρ₁ _ (P₁.transR (Post.keeps P₁.st k2)) hit (ItNew.of P₁ hit (by rintro b rfl; exact size_none (by lia)))
  rcases rangeSrc_inv e2 with ⟨n, rfl⟩ | ⟨a, b, rfl⟩
  · obtain ⟨v, rfl, hv⟩ := V₁.one
    cases hv with
    | int _ t =>
    simp only [rangeSrc] at e2
    split at e2 <;> try exact nos e2
    rename_i hc
    cases e2
    exact call_range_1 (fin 0 n _ s₁.toks t _ _ rfl (by rw [Int.sub_zero]) (by lia) (by lia) (by lia) (by lia))
  · obtain ⟨v, w, rfl, hv, hw⟩ := V₁.two
    cases hv with
    | int _ t =>
    cases hw with
    | int _ u =>
    simp only [rangeSrc] at e2
    split at e2 <;> try exact nos e2
    rename_i hc
    cases e2
    exact call_range_2 (fin a b _ t u _ _ rfl rfl (by lia) (by omega) (by omega) (by omega))

theorem RI.enum {p pos : Pos} {es : List Expr} {m} (hx : C.env.kindOf "enumerate" = some .globalImplicit) (hk : nsIn C.X.K mainGlobals "enumerate" = some none)
    (ha : RArgs C pos es m) (hp : es.all plainE = true := by rfl) : RI C (.Call (.Name "enumerate" p) es [] pos) (iEnum m) := by
  intro A E Q s ρ σ lc r σ' ok eo ao FR S e h
  refine bindS e fun l σ₁ e1 e => ?_
  refine wpAny_Call_Name_kw (Calls.Name_function_global eo.kind hx (Calls.loadGlobal_builtin (by rw [eo.glob]; exact ok.g.keeps S.keep) (mg_none_of ok.K ok.g hk) (by rw [eo.blt]; exact ok.b.keeps S.keep) ((ok.boot _ (by decide)).trans (by decide +kernel : bootBuiltins "enumerate" = some (.type "enumerate"))) ?_) (by decide))
  refine PySem.callWith_type (any_plain hp) (evalArgs_of hp (ha ok eo ao FR S e1 fun vs s₁ ρ₁ P₁ V₁ => ?_))
  obtain ⟨x, rfl⟩ := list_one (p := fun l => (match l with | [.ref k] => (match σ₁[k]? with | some (.list _) => some (Src.enum k, σ₁) | _ => none) | _ => none) = some (r, σ')) e (fun e => nos e) fun x y l e => by cases x <;> exact nos e
  obtain ⟨v, rfl, hv⟩ := V₁.one
  cases x with
  | none => exact nos e | bool _ => exact nos e | int _ => exact nos e | str _ => exact nos e | tup _ => exact nos e | raw _ => exact nos e
  | ref k =>
    cases hv with
    | ref hb =>
    simp only [] at e
    split at e <;> try exact nos e
    rename_i l hl
    cases e
    obtain ⟨vs, n, eb, rl⟩ := slot_list P₁.st hb hl
    refine call_enumerate_list (isListOf eb) fun h' he hi hz kp => wpAny_pyIter_enum he ?_
    have hit : ItR ρ₁ h' (.enum k) 0 (.ref (s₁.heap.objs.size + 1)) (fun b => b = s₁.heap.objs.size + 1 ∨ b = s₁.heap.objs.size) := ⟨_, _, _, _, rfl, rfl, Nat.succ_ne_self _, hb, he, hi⟩
    exact h _ { s₁ with heap := h' } ρ₁ _ (P₁.transR (Post.keeps P₁.st kp)) hit (ItNew.of P₁ hit (by rintro b (rfl | rfl) <;> exact size_none (by lia)))

/- statements -/
noncomputable def sNil : SM := fun lc σ => some (.next, lc, σ)
noncomputable def sCons (a b : SM) : SM := fun lc σ => (a lc σ).bind fun p => match p.1 with
  | .next => b p.2.1 p.2.2
  | .ret v => some (.ret v, p.2)
theorem RS.nil : RS C [] sNil := by
  intro A E Q s ρ σ lc lc' fl σ' ok eo ao F S e h
  cases e
  exact wpAny_execs_nil (h _ _ _ (Post.refl S) F .next)
theorem RS.cons {st : Stmt} {rest : List Stmt} {a b} (ha : RX C st a) (hb : RS C rest b) : RS C (st :: rest) (sCons a b) := by
  intro A E Q s ρ σ lc lc' fl σ' ok eo ao F S e h
  refine bind3 e fun fl₁ lc₁ σ₁ e1 e => ?_
  refine wpAny_execs_cons (ha ok eo ao F S e1 fun f s₁ ρ₁ P₁ F₁ V₁ => ?_)
  cases V₁ with
  | next => exact hb ok eo ao F₁ P₁.st e fun f s₂ ρ₂ P₂ F₂ V₂ => h _ _ _ (P₁.transS P₂) F₂ V₂
  | ret hv => cases e; exact h _ _ _ P₁ F₁ (.ret hv)

noncomputable def sAsg (m : EM) (t : AV → Lc → Store → Option (Lc × Store)) : SM := fun lc σ => (m lc σ).bind fun p => (t p.1 lc p.2).map fun q => (.next, q)
theorem RX.assign {target value : Expr} {pos : Pos} {m t} (hv : RE C value m) (ht : RT C target t)
    (hs : swapsWithSole [target] value pos.line C.env = pure false := by rfl) (hw : swappedStores [target] value C.env = pure Option.none := by rfl) (he : assignEach [target] C.env = [(false, PySem.assign target C.env)] := by rfl) : RX C (.Assign [target] value pos) (sAsg m t) := by
  intro A E Q s ρ σ lc lc' fl σ' ok eo ao F S e h
  refine bindS e fun a σ₁ e1 e => ?_
  refine mapS e fun lc₂ σ₂ e2 e => ?_
  cases e
  refine (?_ : wpAny _ _ (exec _ _) _ _ _)
  rw [PyProof.Rows.exec_Assign]
  refine wpAny_bind (wpAny_standAt ?_)
  rw [hs]
  refine wpAny_bind (wpAny_pure ?_)
  rw [if_neg (by decide)]
  refine wpAny_bind (hv ok eo ao F S e1 fun v s₁ ρ₁ P₁ V₁ => ?_)
  rw [hw, he]
  refine wpAny_bind (wpAny_pure ?_)
  show wpAny _ _ (do assignAll v [PySem.assign target C.env]; pure .next) Q E s₁
  refine wpAny_bind (ht ok eo ao (F.post S P₁) P₁.st V₁ e2 fun s₂ ρ₂ P₂ F₂ => wpAny_pure ?_)
  exact h _ _ _ (P₁.toS.transS P₂) F₂ .next

/-- a, b = x, y with the stores swapped -/
theorem RX.swap {elts : List Expr} {k : Nat} {tpos pos : Pos} {value : Expr} {names : List Str} {m ts} (hv : RE C value m) (ht : RTs C (names.reverse.map fun n v => bindName C.env n v) ts)
    (hs : swapsWithSole [.Tuple elts k tpos] value pos.line C.env = pure false := by rfl) (hw : swappedStores [.Tuple elts k tpos] value C.env = pure (some names) := by rfl) :
    RX C (.Assign [.Tuple elts k tpos] value pos) (sAsg m (tTup fun l => if l.length = names.length then ts l.reverse else fun _ _ => Option.none)) := by
  intro A E Q s ρ σ lc lc' fl σ' ok eo ao F S e h
  refine bindS e fun a σ₁ e1 e => ?_
  refine mapS e fun lc₂ σ₂ e2 e => ?_
  cases e
  refine Assign_Tuple_swapped (hv ok eo ao F S e1 fun v s₁ ρ₁ P₁ V₁ => ?_) hs hw
  cases V₁ <;> simp only [tTup] at e2 <;> try exact nos e2
  rename_i b vs n ds ea rl
  split at e2 <;> try exact nos e2
  rename_i hl
  have hsz : ds.length = vs.size := by rw [rl.length]; simp
  rw [← hl, hsz]
  refine unpackItems_tuple ao.1 ⟨_, ea, rfl, _, rfl⟩ fun h' he => ?_
  have hk : ∀ b o, s₁.heap.get? b = some o → h'.get? b = some o := fun b o e => he b o (Nat.ne_of_lt (Heap.lt_size e)) e
  have P₂ : Post C.X (· ∈ ρ₁) ρ₁ s₁ ρ₁ σ₁ { s₁ with heap := h', toks := s₁.toks } := Post.keeps P₁.st hk
  refine ht ok eo ao ((F.post S P₁).post P₁.st P₂) P₂.st (P₂.vs P₁.st rl).reverse e2 fun s₃ ρ₃ P₃ F₃ => ?_
  exact h _ _ _ ((P₁.transR P₂).toS.transS P₃) F₃ .next

noncomputable def sIf (c : BM) (a b : SM) : SM := fun lc σ => (c lc σ).bind fun p => if p.1 then a lc p.2 else b lc p.2
theorem RX.if_ {test : Expr} {body orelse : List Stmt} {pos : Pos} {c a b} (hc : RB C test c) (ha : RS C body a) (hb : RS C orelse b) : RX C (.If test body orelse pos) (sIf c a b) := by
  intro A E Q s ρ σ lc lc' fl σ' ok eo ao F S e h
  refine bindS e fun t σ₁ e1 e => ?_
  refine wpAny_If (hc ok eo ao F S e1 fun t' s₁ ρ₁ P₁ V₁ => ?_)
  cases V₁
  cases t with
  | true => exact ha ok eo ao (F.post S P₁) P₁.st e fun f s₂ ρ₂ P₂ F₂ V₂ => h _ _ _ (P₁.toS.transS P₂) F₂ V₂
  | false => exact hb ok eo ao (F.post S P₁) P₁.st e fun f s₂ ρ₂ P₂ F₂ V₂ => h _ _ _ (P₁.toS.transS P₂) F₂ V₂
noncomputable def sRet (m : EM) : SM := fun lc σ => (m lc σ).map fun p => (.ret p.1, lc, p.2)
theorem RX.ret {e : Expr} {pos : Pos} {m} (he : RE C e m) : RX C (.Return (some e) pos) (sRet m) := by
  intro A E Q s ρ σ lc lc' fl σ' ok eo ao F S e h
  refine mapS e fun a σ₁ e1 e => ?_
  cases e
  exact wpAny_Return_some (he ok eo ao F S e1 fun v s₁ ρ₁ P₁ V₁ => h _ _ _ P₁.toS (F.post S P₁) (.ret V₁))
theorem RX.ret0 {pos : Pos} : RX C (.Return Option.none pos) (sRet (eVal .none)) := by
  intro A E Q s ρ σ lc lc' fl σ' ok eo ao F S e h
  cases e
  exact wpAny_Return_none (h _ _ _ (Post.refl S) F (.ret .none))
noncomputable def isRefA : AV → Bool
  | .tup _ => true
  | .ref _ => true
  | .raw _ => true
  | _ => false
noncomputable def sExpr (m : EM) : SM := fun lc σ => (m lc σ).bind fun p => if isRefA p.1 = false then some (.next, lc, p.2) else none
theorem RX.expr {e : Expr} {pos : Pos} {m} (he : RE C e m) (hi : interactive C.env = false := by rfl) (hs : swapsWith e Option.none pos.line C.env = pure false := by rfl) : RX C (.Expr e pos) (sExpr m) := by
  intro A E Q s ρ σ lc lc' fl σ' ok eo ao F S e h
  refine bindS e fun a σ₁ e1 e => ?_
  split at e <;> try exact nos e
  rename_i hr
  cases e
  refine wpAny_Expr (he ok eo ao F S e1 fun v s₁ ρ₁ P₁ V₁ => ?_) hi hs
  have := h .next s₁ ρ₁ P₁.toS (F.post S P₁) .next
  cases V₁ <;> first | exact this | cases hr
end
end Mine
end
-- part FW11
section
open PySem PySem.W PySem.Calls PyProof.Rows
set_option maxRecDepth 100000
namespace Mine
open Classical in
noncomputable def loopF (src : Src) (items : List AV) (t : AV → Lc → Store → Option (Lc × Store)) (b : SM) : List AV → SM
  | [] => fun lc σ => if src.items σ = some items then some (.next, lc, σ) else none
  | d :: ds => fun lc σ => if src.items σ = some items then (t d lc σ).bind fun p => (b p.1 p.2).bind fun q => match q.1 with
    | .next => loopF src items t b ds q.2.1 q.2.2
    | .ret v => some (.ret v, q.2) else none
noncomputable def sFor (en : Bool) (mi : Lc → Store → Option (Src × Store)) (t : AV → Lc → Store → Option (Lc × Store)) (b : SM) : SM := fun lc σ => (mi lc σ).bind fun p =>
  if p.1.isEnum = en then (p.1.items p.2).bind fun items => loopF p.1 items t b items lc p.2 else none
noncomputable def tgtIs (en : Bool) (t : Expr) : Prop := if en = true then ∃ elts x1 pos, t = .Tuple elts x1 pos else ∀ it v, letOwnedTupleGo t it v = pure ()
theorem tgtIs.ok {en : Bool} {t : Expr} (h : tgtIs en t) {src : Src} (e : src.isEnum = en) : tgtOk src t := by
  unfold tgtIs at h
  cases src <;> cases e <;> exact h

inductive ForI (C : Cn) (src : Src) (items : List AV) (t : AV → Lc → Store → Option (Lc × Store)) (b : SM) (ρ : List Addr) (s : Shared) (it : Value) (D : Addr → Prop) (fl : Fl) (lc' : Lc) (σ' : Store) (n : Nat) (s' : Shared) : Prop
  | mk (ρ' : List Addr) (lc₂ : Lc) (σ₂ : Store) (rest : List AV) (i : Nat) (P : Post C.X (exS C.env ρ) ρ s ρ' σ₂ s') (F : FR C.X C.ns C.env ρ' lc₂ s'.heap) (I : ItR ρ' s'.heap src i it D)
    (off : ∀ b, D b → b ∉ ρ' ∧ ¬ own C.env b ∧ s.heap.get? b = none) (hd : items.drop i = rest) (hm : loopF src items t b rest lc₂ σ₂ = some (fl, lc', σ')) (hn : n = rest.length)
section
variable {C : Cn}
theorem RX.forG (en : Bool) {target iter : Expr} {body : List Stmt} {pos : Pos} {mi t b} (hi : RI C iter mi) (ht : RT C target t) (hb : RS C body b) (hg : tgtIs en target)
    (hs : ∀ x, foldedSetIterable iter C.env x = pure x := by intro _; rfl) : RX C (.For target iter body [] pos) (sFor en mi t b) := by
  intro A E Q s ρ σ lc lc' fl σ' ok eo ao F S e h
  refine bindS e fun src σ₁ e1 e => ?_
  simp only [] at e
  split at e <;> try exact nos e
  rename_i hen
  refine bind1 e fun items e2 e => ?_
  have htg := hg.ok hen
  refine wpAny_For (hi ok eo ao F S e1 fun it s₁ ρ₁ D P₁ I₁ N₁ => ?_) hs
  refine codeAny_forLoop_any
    (ForI C src items t b ρ s it D fl lc' σ') ?_ items.length
    ⟨ρ₁, lc, σ₁, items, 0, P₁.toS, F.post S P₁, I₁, fun b hb => ⟨(N₁ b hb).2.1, fun ho => ?_, (N₁ b hb).1⟩, rfl, e, rfl⟩
  rotate_left
  · obtain ⟨o, e⟩ := F.alive ho
    rw [(N₁ b hb).1] at e; cases e
  rintro n s' ⟨ρ', lc₂, σ₂, rest, i, P, F', I, off, hd, hm, rfl⟩
  have hsrc : src.items σ₂ = some items := by
    cases rest with
    | nil => simp only [loopF] at hm; split at hm; assumption; cases hm
    | cons d ds => simp only [loopF] at hm; split at hm; assumption; cases hm
  have noT : ∀ b, D b → ∀ o, s'.heap.get? b = some o → ¬ isTup o := fun b hb o e => by
    obtain ⟨o', ho', hn⟩ := I.noTup b hb
    rw [e] at ho'; cases ho'; exact hn
  refine next_of ao.1 P.st I (fun b hb => (off b hb).1) hsrc htg (fun hn h' tk kp => ?_) fun d v s₃ hd' hgo => ?_
  · have : rest = [] := by rw [← hd]; exact List.drop_eq_nil_of_le (by rw [List.getElem?_eq_none_iff] at hn; exact hn)
    subst this
    simp only [loopF, hsrc, if_true] at hm
    cases hm
    refine wpAny_execs_nil ?_
    have P' := P.junk S D (tk := tk) kp fun b hb => ⟨(off b hb).1, (off b hb).2.2, noT b hb⟩
    exact h .next _ ρ' P' (F'.junk D kp fun b hb => ⟨(off b hb).2.1, noT b hb⟩) .next
  · have hr : ∃ ds, rest = d :: ds ∧ items.drop (i + 1) = ds := by
      refine ⟨_, ?_, rfl⟩
      rw [← hd]
      obtain ⟨hl, hgi⟩ := List.getElem?_eq_some_iff.mp hd'
      rw [← hgi]; exact List.drop_eq_getElem_cons hl
    obtain ⟨ds, rfl, hds⟩ := hr
    simp only [loopF, hsrc, if_true] at hm
    refine bindS hm fun lc₃ σ₃ m1 hm => ?_
    refine bind3 hm fun fl₄ lc₄ σ₄ m2 hm => ?_
    refine hgo fun h' tk V' I' kp => ?_
    have P' := P.junk S D (tk := tk) kp fun b hb => ⟨(off b hb).1, (off b hb).2.2, noT b hb⟩
    have F₁ := F'.junk D kp fun b hb => ⟨(off b hb).2.1, noT b hb⟩
    refine ht ok eo ao F₁ P'.st V' m1 fun s₄ ρ₄ P₄ F₄ => ?_
    refine hb ok eo ao F₄ P₄.st m2 fun f s₅ ρ₅ P₅ F₅ V₅ => ?_
    have P₁₅ := P₄.transS P₅
    have dead : ∀ b, D b → ¬ exS C.env ρ' b := fun b hb q => by
      rcases q with q | q
      · exact (off b hb).2.1 q
      · exact (off b hb).1 q
    have kD : ∀ b o, D b → h'.get? b = some o → s₅.heap.get? b = some o := fun b o hb e => P₁₅.keep b o (dead b hb) e
    have I₅ : ItR ρ₅ s₅.heap src (i + 1) it D := I'.mono P₁₅.idx (P₁₅.keepTS P'.st F₁) kD
    have off₅ : ∀ b, D b → b ∉ ρ₅ ∧ ¬ own C.env b ∧ s.heap.get? b = none := fun b hb => by
      refine ⟨fun hm => ?_, (off b hb).2⟩
      rcases P₁₅.fresh b hm with q | q
      · exact (off b hb).1 q
      · obtain ⟨o, ho, _⟩ := I'.noTup b hb
        rw [ho] at q; cases q
    cases V₅ with
    | next => exact ⟨ds.length, Nat.lt_succ_self _, ρ₅, lc₄, σ₄, ds, i + 1, P'.transS P₁₅, F₅, I₅, off₅, hds, hm, rfl⟩
    | ret hv => cases hm; exact h _ _ _ (P'.transS P₁₅) F₅ (.ret hv)
theorem RX.for_ {target iter : Expr} {body : List Stmt} {pos : Pos} {mi t b} (hi : RI C iter mi) (ht : RT C target t) (hb : RS C body b) (hg : ∀ it v, letOwnedTupleGo target it v = pure () := by intro _ _; rfl)
    (hs : ∀ x, foldedSetIterable iter C.env x = pure x := by intro _; rfl) : RX C (.For target iter body [] pos) (sFor false mi t b) := RX.forG false hi ht hb hg hs
theorem RX.forE {elts : List Expr} {k : Nat} {tpos : Pos} {iter : Expr} {body : List Stmt} {pos : Pos} {mi t b} (hi : RI C iter mi) (ht : RT C (.Tuple elts k tpos) t) (hb : RS C body b)
    (hs : ∀ x, foldedSetIterable iter C.env x = pure x := by intro _; rfl) : RX C (.For (.Tuple elts k tpos) iter body [] pos) (sFor true mi t b) := RX.forG true hi ht hb ⟨_, _, _, rfl⟩ hs

noncomputable def loopW (c : BM) (b : SM) : Nat → SM
  | 0 => fun _ _ => none
  | n + 1 => fun lc σ => (c lc σ).bind fun p => if p.1 then (b lc p.2).bind fun q => match q.1 with
    | .next => loopW c b n q.2.1 q.2.2
    | .ret v => some (.ret v, q.2) else some (.next, lc, p.2)
theorem RX.while_ (n : Nat) {test : Expr} {body : List Stmt} {pos : Pos} {c b} (hc : RB C test c) (hb : RS C body b) : RX C (.While test body [] pos) (loopW c b n) := by
  intro A E Q s ρ σ lc lc' fl σ' ok eo ao F S e h
  refine wpAny_While (codeAny_whileLoop
    (fun n s' => ∃ ρ' lc₂ σ₂, Post C.X (exS C.env ρ) ρ s ρ' σ₂ s' ∧ FR C.X C.ns C.env ρ' lc₂ s'.heap ∧ loopW c b n lc₂ σ₂ = some (fl, lc', σ')) ?_ n
    ⟨ρ, lc, σ, Post.refl S, F, e⟩)
  rintro n s' ⟨ρ', lc₂, σ₂, P, F', hm⟩
  cases n with
  | zero => cases hm
  | succ n =>
    simp only [loopW] at hm
    refine bindS hm fun t σ₃ m1 hm => ?_
    refine hc ok eo ao F' P.st m1 fun t' s₃ ρ₃ P₃ V₃ => ?_
    cases V₃
    cases t with
    | false =>
      cases hm
      exact wpAny_execs_nil (h .next _ _ (P.transS P₃.toS) (F'.post P.st P₃) .next)
    | true =>
      simp only [if_true] at hm
      refine bind3 hm fun fl₄ lc₄ σ₄ m2 hm => ?_
      refine hb ok eo ao (F'.post P.st P₃) P₃.st m2 fun f s₄ ρ₄ P₄ F₄ V₄ => ?_
      have P' := P.transS (P₃.toS.transS P₄)
      cases V₄ with
      | next => exact ⟨n, Nat.lt_succ_self _, ρ₄, lc₄, σ₄, P', F₄, hm⟩
      | ret hv => cases hm; exact h _ _ _ P' F₄ (.ret hv)

noncomputable def sAugSub (k : Nat) (m : EM) : SM := fun lc σ => (eBin opSub (eLoc k) m lc σ).bind fun p => (tLoc k p.1 lc p.2).map fun q => (.next, q)
theorem RX.augSub {x : Str} {npos pos : Pos} {value : Expr} {m} (k : Nat) (hk : C.ns[k]? = some x) (hnf : (C.env.kindOf x == some .free) = false) (hv : RE C value m) : RX C (.AugAssign (.Name x npos) .Sub value pos) (sAugSub k m) := by
  intro A E Q s ρ σ lc lc' fl σ' ok eo ao F S e h
  refine bindS e fun a σ₁ e1 e => ?_
  refine mapS e fun lc₂ σ₂ e2 e => ?_
  cases e
  refine bindS e1 fun x1 σ₃ e3 e1 => ?_
  refine bindS e1 fun y1 σ₄ e4 e1 => ?_
  refine map1 e3 fun v hv' e3 => ?_
  cases e3
  have hl : lc[k]? = some (some x1) := by
    cases q : lc[k]? with
    | none => rw [q] at hv'; cases hv'
    | some o => rw [q] at hv'; cases o with
      | none => cases hv'
      | some w => cases hv'; rfl
  obtain ⟨m', hn, hs⟩ := F.loc
  obtain ⟨w, hw, hV⟩ := hs k x x1 hk hl
  rw [exec_AugAssign_Name]
  refine wpAny_bind (wpAny_standAt (wpAny_bind ?_))
  have rest : wpAny (model C.X.prog C.X.w) A (do
      let v ← holding [w] (PySem.eval value C.env)
      standAt pos
      let new ← operate [w, v] (inplaceOp .Sub w v)
      standAt npos
      bindName C.env x new
      pure Flow.next) Q E s := by
    refine wpAny_bind (wpAny_holding (hv ok eo ao F S e4 fun v₂ s₂ ρ₂ P₂ V₂ => wpAny_bind (wpAny_standAt (wpAny_bind (wpAny_operate' ?_)))))
    have V₁ := P₂.v S hV
    cases x1 with
    | none => exact nos e1 | bool _ => exact nos e1 | ref _ => exact nos e1 | str _ => exact nos e1 | tup _ => exact nos e1 | raw _ => exact nos e1
    | int i =>
    cases y1 with
    | none => exact nos e1 | bool _ => exact nos e1 | ref _ => exact nos e1 | str _ => exact nos e1 | tup _ => exact nos e1 | raw _ => exact nos e1
    | int j =>
      cases V₁
      cases V₂
      cases e1
      refine isub_int ?_
      have P₃ : Post C.X (· ∈ ρ₂) ρ₂ s₂ ρ₂ _ { s₂ with heap := s₂.heap, toks := s₂.toks + 1 } := Post.keeps P₂.st fun _ _ e => e
      refine wpAny_bind (wpAny_standAt (wpAny_bind (RTb.loc k hk hnf ok eo ao ((F.post S P₂).post P₂.st P₃) P₃.st (.int _ _) e2 fun s₄ ρ₄ P₄ F₄ => wpAny_pure ?_)))
      exact h _ _ _ ((P₂.transR P₃).toS.transS P₄) F₄ .next
  rcases hw with ⟨kx, mx⟩ | ⟨kx, c, hc, hi⟩
  · exact wpAny_loadName_local eo.kind kx hn mx rest
  · rcases kx with kx | ⟨kx, hx⟩
    · exact wpAny_loadName_cell eo.kind kx hc hi rest
    · exact wpAny_loadName_free eo.kind kx hc hi rest hx
end
end Mine
end
-- part FW12
section
open PySem PySem.W PySem.Calls PyProof.Rows
set_option maxRecDepth 100000
namespace Mine

structure CompOk (C : Cn) (scope : Scope) (cl : List (Str × Addr)) (x : Str) (fs : List (Str × Nat)) : Prop where
  clos : closureFor scope C.env = pure cl
  kind : scope.kind = .function
  names : ∀ y ∈ scope.names, y.2 = .local → scope.names.lookup y.1 = some .local
  cell : ∀ y ∈ scope.names, y.2 ≠ .cell
  hx : scope.names.lookup x = some .local
  nd : (x :: fs.map (·.1)).Nodup
  fr : ∀ n j, (n, j) ∈ fs → C.ns[j]? = some n ∧ (relabel scope C.env).names.lookup n = some .cell ∧ (cl.lookup n).isSome = true ∧ C.env.kindOf n = some .cell
  sub : ∀ n c, cl.lookup n = some c → C.env.cells.lookup n = some c
noncomputable def cIn (C : Cn) (scope : Scope) (cl : List (Str × Addr)) (x : Str) (fs : List (Str × Nat)) (Ca : Addr) : Cn := ⟨C.X, C.lv, x :: fs.map (·.1), compEnvC scope cl Ca C.env⟩

section
variable {C : Cn} {scope : Scope} {cl : List (Str × Addr)} {x : Str} {fs : List (Str × Nat)}
theorem CompOk.env (co : CompOk C scope cl x fs) (eo : EnvOk C.ns C.env) (Ca : Addr) : EnvOk (cIn C scope cl x fs Ca).ns (cIn C scope cl x fs Ca).env where
  kind := co.kind
  glob := eo.glob
  blt := eo.blt
  nd := co.nd
  loc := by
    intro y hy
    rcases List.mem_cons.mp hy with rfl | hy
    · exact .inl (lookup_relabel_local co.hx)
    · obtain ⟨⟨n, j⟩, hm, rfl⟩ := List.mem_map.mp hy
      obtain ⟨h1, h2, h3, h4⟩ := co.fr n j hm
      exact .inr ⟨.inl h2, h3⟩
  one := fun n c n' c' h h' => eo.one n c n' c' (co.sub _ _ h) (co.sub _ _ h')

noncomputable def lcIn (fs : List (Str × Nat)) (lc : Lc) (d : AV) : Lc := some d :: fs.map fun f => (lc[f.2]?).join
theorem CompOk.fr_in (co : CompOk C scope cl x fs) {ρ : List Addr} {lc : Lc} {h : Heap} (F : FR C.X C.ns C.env ρ lc h) {Ca : Addr} {m : Str → Option Value} {d : AV} {v : Value} (hn : h.Ns Ca m) (hm : m x = some v) (hv : V ρ h d v)
    (hr : Ca ∉ ρ) (hB : C.X.hB.get? Ca = none) : FR (cIn C scope cl x fs Ca).X (cIn C scope cl x fs Ca).ns (cIn C scope cl x fs Ca).env ρ (lcIn fs lc d) h where
  loc := by
    refine ⟨m, hn, fun k y av hk hl => ?_⟩
    cases k with
    | zero => cases hk; cases hl; exact ⟨v, .inl ⟨lookup_relabel_local co.hx, hm⟩, hv⟩
    | succ k =>
      have hk' : (fs.map (·.1))[k]? = some y := hk
      have hl' : (fs.map fun f => (lc[f.2]?).join)[k]? = some (some av) := hl
      simp only [List.getElem?_map, Option.map_eq_some_iff] at hk' hl'
      obtain ⟨⟨n, j⟩, e1, rfl⟩ := hk'
      obtain ⟨⟨n', j'⟩, e2, e3⟩ := hl'
      rw [e1] at e2; cases e2
      obtain ⟨h1, h2, h3, h4⟩ := co.fr n j (List.mem_of_getElem? e1)
      have hj : lc[j]? = some (some av) := by
        simp only [] at e3
        cases q : lc[j]? with
        | none => rw [q] at e3; cases e3
        | some o => rw [q] at e3; cases o with
          | none => exact nos e3
          | some w => cases e3; rfl
      obtain ⟨mo, _, hs⟩ := F.loc
      obtain ⟨w, hw, hV⟩ := hs j n av h1 hj
      refine ⟨w, .inr ⟨.inl h2, ?_⟩, hV⟩
      rcases hw with ⟨a, _⟩ | ⟨_, c, hc, hi⟩
      · rw [h4] at a; cases a
      · obtain ⟨c', hc'⟩ := Option.isSome_iff_exists.mp h3
        have := co.sub _ _ hc'
        rw [hc] at this; cases this
        exact ⟨c, hc', hi⟩
  off := by
    rintro b (rfl | ⟨n, hc⟩)
    · exact ⟨hr, hB⟩
    · exact F.off b (.inr ⟨n, co.sub _ _ hc⟩)
  cells := fun n c h => F.cells n c (co.sub _ _ h)
  len := by simp [lcIn, cIn]

noncomputable def RIfs (C : Cn) (ifs : List Expr) (m : BM) : Prop := RG C isB (forIn ifs true fun c r => if r = true then do let ok ← isTrue c C.env (eval c C.env); pure (ForInStep.yield ok) else pure (ForInStep.yield r)) m
theorem RIfs.nil : RIfs C [] (bVal true) := by
  intro A E Q s ρ σ lc r σ' ok eo ao F S e h
  cases e
  exact wpAny_tests_nil (h _ _ _ (Post.refl S) rfl)
theorem RIfs.one {c : Expr} {m} (hc : RB C c m) : RIfs C [c] m := by
  intro A E Q s ρ σ lc r σ' ok eo ao F S e h
  exact wpAny_tests_one (hc ok eo ao F S e h)

open Classical in
noncomputable def compM (src : Src) (items : List AV) (k : Nat) (mt : BM) (me : EM) (fs : List (Str × Nat)) (lc : Lc) : List AV → Store → Option Store
  | [], σ => if src.items σ = some items then some σ else none
  | d :: ds, σ => if src.items σ = some items then (mt (lcIn fs lc d) σ).bind fun p => if p.1 then (me (lcIn fs lc d) p.2).bind fun q => (fAppend [.ref k, q.1] q.2).bind fun r => compM src items k mt me fs lc ds r.2
    else compM src items k mt me fs lc ds p.2 else none
noncomputable def compA (mi : Lc → Store → Option (Src × Store)) (mt : BM) (me : EM) (fs : List (Str × Nat)) (lc : Lc) (σ : Store) : Option (Nat × Store) := (mi lc σ).bind fun p =>
  if p.1.isEnum = false then (p.1.items p.2).bind fun items => (compM p.1 items p.2.length mt me fs lc items (p.2 ++ [.list []])).map fun σ' => (p.2.length, σ') else none

theorem ItR.self {ρ : List Addr} {A : Around} {E : Value → Shared → Prop} {s : Shared} {prog : Program} {w : World} {src : Src} {i : Nat} {it : Value} {D : Addr → Prop} {Q : Value → Shared → Prop} (hi : ItR ρ s.heap src i it D) (he : src.isEnum = false) (hQ : Q it s) : wpAny (model prog w) A (pyIter it) Q E s := by
  cases src with
  | list k => obtain ⟨I, ax, rfl, rfl, hx, hi⟩ := hi; exact wpAny_pyIter_listiter hi hQ
  | enum k => cases he
  | tup l => obtain ⟨I, ax, vs, n, rfl, rfl, hx, hv, hi⟩ := hi; exact wpAny_pyIter_tupleiter hi hQ
  | range a n => obtain ⟨I, rfl, rfl, hi⟩ := hi; exact wpAny_pyIter_rangeiter hi hQ

theorem compM_src {src : Src} {items : List AV} {k : Nat} {mt : BM} {me : EM} {lc : Lc} {rest : List AV} {σ σ' : Store} (h : compM src items k mt me fs lc rest σ = some σ') : src.items σ = some items := by
  cases rest with
  | nil => simp only [compM] at h; split at h; assumption; cases h
  | cons d ds => simp only [compM] at h; split at h; assumption; cases h

inductive CompI (C : Cn) (src : Src) (items : List AV) (mt : BM) (me : EM) (fs : List (Str × Nat)) (lc : Lc) (ρ : List Addr) (s : Shared) (it : Value) (D : Addr → Prop) (k : Nat) (Da Ca : Addr) (σ' : Store) (n : Nat) (s' : Shared) : Prop
  | mk (ρ' : List Addr) (σ₃ : Store) (m : Str → Option Value) (rest : List AV) (i : Nat) (P : Post C.X (· ∈ ρ) ρ s ρ' σ₃ s') (I : ItR ρ' s'.heap src i it D) (hn : s'.heap.Ns Ca m) (hC : Ca ∉ ρ') (hD : ρ'[k]? = some Da)
    (off : ∀ b, D b → b ∉ ρ' ∧ s.heap.get? b = none ∧ b ≠ Ca) (hd : items.drop i = rest) (hm : compM src items k mt me fs lc rest σ₃ = some σ') (hl : n = rest.length)
structure CompS (src : Src) (i : Nat) (it : Value) (D : Addr → Prop) (k : Nat) (Da Ca : Addr) (m : Str → Option Value) (ρ : List Addr) (h : Heap) : Prop where
  I : ItR ρ h src i it D
  N : h.Ns Ca m
  C : Ca ∉ ρ
  A : ρ[k]? = some Da
  O : ∀ b, D b → b ∉ ρ
theorem comp_core (co : CompOk C scope cl x fs) {elt iter : Expr} {ifs : List Expr} {px pos p2 : Pos} {mi mt me} {use : Option (Value → Sem Unit)} (hi : RI C iter mi) (ht : ∀ Ca, RIfs (cIn C scope cl x fs Ca) ifs mt) (he : ∀ Ca, RE (cIn C scope cl x fs Ca) elt me)
    {A : Around} {E : Value → Shared → Prop} {Q : Value → Shared → Prop} {s : Shared} {ρ : List Addr} {σ σ' : Store} {lc : Lc} {k : Nat} (ok : C.X.Ok) (eo : EnvOk C.ns C.env) (ao : AOk C.lv A) (F : FR C.X C.ns C.env ρ lc s.heap) (S : St C.X ρ σ s.heap)
    (e : compA mi mt me fs lc σ = some (k, σ')) (hs : ∀ x, foldedSetIterable iter C.env x = pure x)
    (hQ : ∀ Da Ca s' ρ' m, Post C.X (· ∈ ρ) ρ s ρ' σ' s' → ρ'[k]? = some Da → s'.heap.Ns Ca m → s.heap.get? Ca = none → Ca ∉ ρ' → compPost (model C.X.prog C.X.w) A E use Q (.ref Da) Ca (.ok .next) s') :
    wpAny (model C.X.prog C.X.w) A (comprehension (.ListComp elt [⟨.Name x px, iter, ifs, 0⟩] scope pos) scope C.env p2 (newList []) false (eval iter C.env) use) Q E s := by
  refine bindS e fun src σ₁ e1 e => ?_
  simp only at e
  split at e <;> try exact nos e
  rename_i hen
  refine bind1 e fun items e2 e => ?_
  refine map1 e fun σ₂ e3 e => ?_
  cases e
  have htg : tgtOk src (.Name x px) := tgtIs.ok (en := false) (by intro it v; rfl) hen
  refine wpAny_comprehension_free rfl hs co.clos co.kind co.names (hi ok eo ao F S e1 fun it s₁ ρ₁ D P₁ I₁ N₁ => ?_)
  refine wpAny_newObj_type (wpAny_newFunctionEnv co.cell (by intro y hy; simp at hy) (fun h₁ hns₁ hsb₁ => ?_) co.kind)
  dsimp only at hns₁ hsb₁ ⊢
  have P₂ := Post.newList (ex := (· ∈ ρ₁)) (tk := s₁.toks) (n := 0) P₁.st (l := []) (vs := ([] : List Value).toArray) .nil
  generalize hH2 : s₁.heap.push { cls := .type "list", dict := none, data := .seq ([] : List Value).toArray } = H2 at hns₁ hsb₁ P₂ ⊢
  have hC : H2.objs.size = s₁.heap.objs.size + 1 := by rw [← hH2, Heap.size_push]
  have nC1 : s₁.heap.get? H2.objs.size = none := size_none (by rw [hC]; exact Nat.le_succ _)
  have nC2 : H2.get? H2.objs.size = none := size_none (Nat.le_refl _)
  have kp : ∀ b o, H2.get? b = some o → h₁.get? b = some o := fun b o e => hsb₁.extBut b o (by rintro rfl; rw [nC2] at e; cases e) (Heap.get?_push_of_some _ e)
  have P₃ : Post C.X (· ∈ ρ₁ ++ [s₁.heap.objs.size]) (ρ₁ ++ [s₁.heap.objs.size]) { s₁ with heap := H2, toks := s₁.toks } (ρ₁ ++ [s₁.heap.objs.size]) (σ₁ ++ [.list []]) { s₁ with heap := h₁, toks := s₁.toks + ([] : List (Str × Value)).length } := Post.keeps P₂.st kp
  have P₀ := P₁.transR (P₂.transR P₃)
  have nC : s.heap.get? H2.objs.size = none := by
    cases e : s.heap.get? H2.objs.size with
    | none => rfl
    | some o => obtain ⟨o', e'⟩ := P₁.live _ _ e; rw [nC1] at e'; cases e'
  have nCB : C.X.hB.get? H2.objs.size = none := by
    cases e : C.X.hB.get? H2.objs.size with
    | none => rfl
    | some o => have := S.keep _ _ e; rw [nC] at this; cases this
  have nCr : H2.objs.size ∉ ρ₁ ++ [s₁.heap.objs.size] := P₂.st.fresh nC2
  have I₀ : ItR (ρ₁ ++ [s₁.heap.objs.size]) h₁ src 0 it D := I₁.mono P₂.idx (fun a o e t => kp _ _ (by rw [← hH2]; exact keepPush _ _ e)) fun b o hb e => kp _ _ (by rw [← hH2]; exact keepPush _ _ e)
  have off₀ : ∀ b, D b → b ∉ ρ₁ ++ [s₁.heap.objs.size] ∧ s.heap.get? b = none ∧ b ≠ H2.objs.size := fun b hb => by
    obtain ⟨q1, q2, o, q3, q4⟩ := N₁ b hb
    have hlt := Heap.lt_size q3
    refine ⟨fun hm => ?_, q1, Nat.ne_of_lt (by rw [hC]; exact Nat.lt_succ_of_lt hlt)⟩
    rcases List.mem_append.mp hm with q | q
    · exact q2 q
    · exact absurd (List.mem_singleton.mp q) (Nat.ne_of_lt hlt)
  generalize hs₀ : ({ s₁ with heap := h₁, toks := s₁.toks + ([] : List (Str × Value)).length } : Shared) = s₀ at P₀
  have hh₀ : s₀.heap = h₁ := by rw [← hs₀]
  have loop : codeAny (model C.X.prog C.X.w) A (.compLoop (.ListComp elt [⟨.Name x px, iter, ifs, 0⟩] scope pos) 0 it (.ref s₁.heap.objs.size) (cIn C scope cl x fs H2.objs.size).env) (compPost (model C.X.prog C.X.w) A E use Q (.ref s₁.heap.objs.size) H2.objs.size) s₀ := by
    refine codeAny_compLoop_tests
      (CompI C src items mt me fs lc ρ s it D σ₁.length s₁.heap.objs.size H2.objs.size σ') ?_ items.length
      ⟨_, _, _, items, 0, P₀, hh₀ ▸ I₀, hh₀ ▸ hns₁, nCr, by rw [← P₁.st.len]; simp, off₀, rfl, e3, rfl⟩
    rintro n s' ⟨ρ', σ₃, m, rest, i, P, I, hn, hCr, hDa, off, hd, hm, rfl⟩
    have hsrc := compM_src hm
    have noT : ∀ b, D b → ∀ o, s'.heap.get? b = some o → ¬ isTup o := fun b hb o e => by
      obtain ⟨o', ho', hn⟩ := I.noTup b hb
      rw [e] at ho'; cases ho'; exact hn
    refine next_ofN ao.1 P.st I (fun b hb => (off b hb).1) hsrc hen (fun hnn h' tk kp => ?_) fun d v h' tk hd' V' I' kp => ?_
    · have : rest = [] := by rw [← hd]; exact List.drop_eq_nil_of_le (by rw [List.getElem?_eq_none_iff] at hnn; exact hnn)
      subst this
      simp only [compM, hsrc, if_true] at hm
      cases hm
      have P' := P.junk S D (tk := tk) kp fun b hb => ⟨(off b hb).1, (off b hb).2.1, noT b hb⟩
      exact hQ _ _ _ ρ' m P' hDa (hn.at' fun o e => kp _ o (fun q => (off _ q).2.2 rfl) e) nC hCr
    · have hr : ∃ ds, rest = d :: ds ∧ items.drop (i + 1) = ds := by
        refine ⟨_, ?_, rfl⟩
        rw [← hd]
        obtain ⟨hl, hgi⟩ := List.getElem?_eq_some_iff.mp hd'
        rw [← hgi]; exact List.drop_eq_getElem_cons hl
      obtain ⟨ds, rfl, hds⟩ := hr
      simp only [compM, hsrc, if_true] at hm
      refine bindS hm fun t σ₄ m1 hm => ?_
      have P' := P.junk S D (tk := tk) kp fun b hb => ⟨(off b hb).1, (off b hb).2.1, noT b hb⟩
      have hn' : h'.Ns H2.objs.size m := hn.at' fun o e => kp _ o (fun q => (off _ q).2.2 rfl) e
      refine wpAny_assign_Name (wpAny_storeName_local (lookup_relabel_local co.hx) hn' (fun h₄ hn₄ hs₄ => ?_) (by show (Scope.kind _ == _ || _) = false; rw [show (cIn C scope cl x fs H2.objs.size).env.scope.kind = .function from co.kind]; rfl))
      have kp₄ : ∀ b o, ¬ b = H2.objs.size → h'.get? b = some o → h₄.get? b = some o := fun b o nb e => hs₄.extBut b o nb e
      have nsT : ∀ {g : Heap} {m'}, g.Ns H2.objs.size m' → ∀ o, g.get? H2.objs.size = some o → ¬ isTup o := by
        rintro g m' ⟨o, es, ep, ho, hd, _⟩ o' ho' ⟨vs, n, rfl⟩
        rw [ho] at ho'; cases ho'; cases hd
      have P₄ := P'.junk S (· = H2.objs.size) (tk := tk + 1) kp₄ (by rintro b rfl; exact ⟨hCr, nC, nsT hn'⟩)
      have kt₄ : KeepT h' h₄ := fun b o e t => kp₄ b o (by rintro rfl; exact nsT hn' _ e t) e
      have V₄ := V'.mono (ρ' := ρ') kt₄ fun _ _ e => e
      have I₄ : ItR ρ' h₄ src (i + 1) it D := I'.mono (fun _ _ e => e) kt₄ fun b o hb e => kp₄ b o (off b hb).2.2 e
      have F₄ := co.fr_in (F.post S P₄) hn₄ (by simp) V₄ hCr nCB
      have ao' : AOk (cIn C scope cl x fs H2.objs.size).lv A := ao
      refine ht H2.objs.size ok (co.env eo _) ao' F₄ P₄.st m1 fun t' s₅ ρ₅ P₅ V₅ => ?_
      cases V₅
      -- what stands behind an inner step
      have step : ∀ {sa sb : Shared} {ρa ρb : List Addr} {σb : Store} {ma : Str → Option Value}, Post C.X (· ∈ ρa) ρa sa ρb σb sb → ItR ρa sa.heap src (i + 1) it D → sa.heap.Ns H2.objs.size ma → H2.objs.size ∉ ρa → ρa[σ₁.length]? = some s₁.heap.objs.size →
          (∀ b, D b → b ∉ ρa) → (∀ b o, sa.heap.get? b = some o → isTup o → b ∉ ρa) → CompS src (i + 1) it D σ₁.length s₁.heap.objs.size H2.objs.size ma ρb sb.heap := by
        intro sa sb ρa ρb σb ma Pab Ia Na Ca Da offa noa
        refine ⟨Ia.mono Pab.idx (Pab.tup noa) fun b o hb e => Pab.keep b o (offa b hb) e, Na.at' fun o e => Pab.keep _ o Ca e, fun hm => ?_, Pab.idx _ _ Da, fun b hb hm => ?_⟩
        · rcases Pab.fresh _ hm with q | q
          · exact Ca q
          · obtain ⟨o, _, _, ho, _⟩ := Na; rw [ho] at q; cases q
        · rcases Pab.fresh _ hm with q | q
          · exact offa b hb q
          · obtain ⟨o, ho, _⟩ := Ia.noTup b hb; rw [ho] at q; cases q
      have T5 := step P₅ I₄ hn₄ hCr hDa (fun b hb => (off b hb).1) fun b o e t => P₄.st.notTuple e t
      have P₀₅ := P₄.transR P₅
      cases t with
      | false =>
        simp only [Bool.false_eq_true, if_false] at hm ⊢
        exact ⟨ds.length, Nat.lt_succ_self _, ρ₅, _, _, ds, i + 1, P₀₅, T5.I, T5.N, T5.C, T5.A, fun b hb => ⟨T5.O b hb, (off b hb).2⟩, hds, hm, rfl⟩
      | true =>
        simp only [if_true] at hm ⊢
        refine bindS hm fun y σ₅ m2 hm => ?_
        refine bindS hm fun z σ₆ m3 hm => ?_
        refine he H2.objs.size ok (co.env eo _) ao' (F₄.post P₄.st P₅) P₅.st m2 fun v' s₆ ρ₆ P₆ V₆ => ?_
        have T6 := step P₆ T5.I T5.N T5.C T5.A T5.O fun b o e t => P₅.st.notTuple e t
        refine RC.append ok ao P₆.st (.cons (.ref T6.A) (.cons V₆ .nil)) m3 fun v'' s₇ ρ₇ P₇ V₇ => ?_
        have T7 := step P₇ T6.I T6.N T6.C T6.A T6.O fun b o e t => P₆.st.notTuple e t
        exact ⟨ds.length, Nat.lt_succ_self _, ρ₇, _, _, ds, i + 1, (P₀₅.transR P₆).transR P₇, T7.I, T7.N, T7.C, T7.A, fun b hb => ⟨T7.O b hb, (off b hb).2⟩, hds, hm, rfl⟩
  refine codeAny_compStart_list loop ((hh₀ ▸ I₀).self hen loop)
end
end Mine
end
-- part FW13
section
open PySem PySem.W PySem.Calls PyProof.Rows
set_option maxRecDepth 100000
namespace Mine

section
variable {C : Cn}
noncomputable def eComp (mi : Lc → Store → Option (Src × Store)) (mt : BM) (me : EM) (fs : List (Str × Nat)) : EM := fun lc σ => (compA mi mt me fs lc σ).map fun p => (.ref p.1, p.2)
theorem ns_noTup {g : Heap} {a : Addr} {m' : Str → Option Value} (h : g.Ns a m') : ∀ o, g.get? a = some o → ¬ isTup o := by
  obtain ⟨o, es, ep, ho, hd, _⟩ := h
  rintro o' ho' ⟨vs, n, rfl⟩
  rw [ho] at ho'; cases ho'; cases hd
theorem RE.comp {scope : Scope} {cl : List (Str × Addr)} {x : Str} {fs : List (Str × Nat)} {elt iter : Expr} {ifs : List Expr} {px pos : Pos} {mi mt me} (co : CompOk C scope cl x fs) (hi : RI C iter mi) (ht : ∀ Ca, RIfs (cIn C scope cl x fs Ca) ifs mt) (he : ∀ Ca, RE (cIn C scope cl x fs Ca) elt me)
    (hs : ∀ x, foldedSetIterable iter C.env x = pure x := by intro _; rfl) : RE C (.ListComp elt [⟨.Name x px, iter, ifs, 0⟩] scope pos) (eComp mi mt me fs) := by
  intro A E Q s ρ σ lc r σ' ok eo ao F S e h
  refine mapS e fun k σ₁ e1 e => ?_
  cases e
  rw [eval_ListComp]
  refine comp_core (use := Option.none) co hi ht he ok eo ao F S e1 hs fun Da Ca s' ρ' m P hDa hn hC hCr => ?_
  refine ⟨m, hn, fun h' hs' => ?_⟩
  have P' := P.junk S (· = Ca) (tk := s'.toks) (fun b o nb e => hs'.extBut b o nb e) (by rintro b rfl; exact ⟨hCr, hC, ns_noTup hn⟩)
  exact h (.ref Da) _ ρ' P' (.ref hDa)
theorem RX.asgComp {y : Str} {py spos : Pos} {scope : Scope} {cl : List (Str × Addr)} {x : Str} {fs : List (Str × Nat)} {elt iter : Expr} {ifs : List Expr} {px pos : Pos} {mi mt me t}
    (hsw : swapsWith (.ListComp elt [⟨.Name x px, iter, ifs, 0⟩] scope pos) (some (.Name y py)) spos.line C.env = pure true)
    (co : CompOk C scope cl x fs) (hi : RI C iter mi) (ht : ∀ Ca, RIfs (cIn C scope cl x fs Ca) ifs mt) (he : ∀ Ca, RE (cIn C scope cl x fs Ca) elt me) (hy : RT C (.Name y py) t)
    (hs : ∀ x, foldedSetIterable iter C.env x = pure x := by intro _; rfl) : RX C (.Assign [.Name y py] (.ListComp elt [⟨.Name x px, iter, ifs, 0⟩] scope pos) spos) (sAsg (eComp mi mt me fs) t) := by
  intro A E Q s ρ σ lc lc' fl σ' ok eo ao F S e h
  refine bindS e fun a σ₁ e1 e => ?_
  refine mapS e fun lc₂ σ₂ e2 e => ?_
  cases e
  refine mapS e1 fun k σ₃ e3 e1 => ?_
  cases e1
  rw [exec_Assign_Name_used _ _ _ _ hsw]
  refine wpAny_bind (wpAny_standAt (wpAny_bind ?_))
  show wpAny _ A (do let _ ← comprehension (.ListComp elt [⟨.Name x px, iter, ifs, 0⟩] scope pos) scope C.env _ (newList []) false (PySem.eval iter C.env) (some (PySem.assign (.Name y py) C.env))) _ _ s
  refine wpAny_bind (wpAny_mono (comp_core (use := some (PySem.assign (.Name y py) C.env)) (Q := fun _ s' => Q .next s') co hi ht he ok eo ao F S e3 hs fun Da Ca s' ρ' m P hDa hn hC hCr => ?_) (fun _ s' hq => wpAny_pure (wpAny_pure hq)) fun _ _ e => e)
  have F' := F.post S P
  refine hy ok eo ao F' P.st (.ref hDa) e2 fun s₂ ρ₂ P₂ F₂ => ?_
  have nown : ¬ own C.env Ca := fun ho => by obtain ⟨o, e⟩ := F.alive ho; rw [hC] at e; cases e
  have nex : ¬ exS C.env ρ' Ca := fun q => q.elim nown hCr
  have hn₂ : s₂.heap.Ns Ca m := hn.at' fun o e => P₂.keep Ca o nex e
  refine ⟨m, hn₂, fun h' hs' => ?_⟩
  have P₀ := P.toS.transS P₂
  have hCr₂ : Ca ∉ ρ₂ := fun hm => by
    rcases P₂.fresh _ hm with q | q
    · exact hCr q
    · obtain ⟨o, _, _, ho, _⟩ := hn; rw [ho] at q; cases q
  have kp : ∀ b o, ¬ b = Ca → s₂.heap.get? b = some o → h'.get? b = some o := fun b o nb e => hs'.extBut b o nb e
  have P' := P₀.junk S (· = Ca) (tk := s₂.toks) kp (by rintro b rfl; exact ⟨hCr₂, hC, ns_noTup hn₂⟩)
  exact h .next _ ρ₂ P' (F₂.junk (· = Ca) kp (by rintro b rfl; exact ⟨nown, ns_noTup hn₂⟩)) .next

/- t[:b] of a tuple -/
theorem sliceApplied_upto {prog : Program} {w : World} {A : Around} {E : Value → Shared → Prop} {s : Shared} {sl : Addr} {b n : Nat} {u : Tok} {Q : Int × Int × Nat → Shared → Prop} (hs : s.heap.IsSliceOf sl .none (.int b u) .none) (hb : b ≤ n) (h : Q (0, 1, b) s) :
    wpAny (model prog w) A (Builtin.Slice.sliceApplied (.ref sl) (pure (n : Int))) Q E s := by
  obtain ⟨os, hos, hcs, hds⟩ := id hs
  unfold Builtin.Slice.sliceApplied Builtin.Slice.sliceFields
  refine wpAny_bind (wpAny_bind (wpAny_field hos hds (x := .none) rfl (wpAny_bind (wpAny_field hos hds (x := .int b u) rfl (wpAny_bind (wpAny_field hos hds (x := .none) rfl (wpAny_pure ?_)))))))
  refine wpAny_bind (slicePart_none ?_)
  show wpAny _ _ (if ((1 : Int) == 0) = true then _ else _) _ _ s
  rw [if_neg (by decide)]
  refine wpAny_bind (slicePart_none (wpAny_bind (slicePart_int (wpAny_bind (wpAny_pure ?_)))))
  show wpAny _ _ (match Builtin.Slice.sliceAdjust none (some (b : Int)) 1 (n : Int) with | (lo, hi) => pure (lo, (1 : Int), Builtin.Slice.slicePlaces lo hi 1)) _ _ s
  have ea : Builtin.Slice.sliceAdjust none (some (b : Int)) 1 (n : Int) = (0, (b : Int)) := by
    unfold Builtin.Slice.sliceAdjust
    have h1 : ¬ ((1 : Int) < 0) := by lia
    have h2 : ¬ ((b : Int) < 0) := by lia
    simp only [h1, h2, if_false]
    congr 1
    lia
  have ep : Builtin.Slice.slicePlaces 0 (b : Int) 1 = b := by
    unfold Builtin.Slice.slicePlaces
    have h1 : (1 : Int) > 0 := by lia
    simp only [h1, if_true, Int.ediv_one]
    split <;> lia
  rw [ea]
  show wpAny _ _ (pure ((0 : Int), (1 : Int), Builtin.Slice.slicePlaces 0 (b : Int) 1)) _ _ s
  rw [ep]
  exact wpAny_pure h
theorem pick_upto (xs : Array Value) (b : Nat) : ((List.range b).filterMap fun (k : Nat) => xs[((0 : Int) + (k : Int) * 1).toNat]?).toArray = (xs.toList.take b).toArray := by
  have e : (fun (k : Nat) => xs[((0 : Int) + (k : Int) * 1).toNat]?) = fun k => xs[0 + k]? := by
    funext k
    have : ((0 : Int) + (k : Int) * 1).toNat = 0 + k := by lia
    rw [this]
  rw [e]
  have := pick_run xs 0 b
  rw [List.filterMap_map] at this
  have e2 : ((fun x => xs[x]?) ∘ fun x => 0 + x) = fun k => xs[0 + k]? := rfl
  rw [e2] at this
  rw [this, List.drop_zero]
theorem getItem_tuple_upto {prog : Program} {w : World} {A : Around} {E : Value → Shared → Prop} {s : Shared} {t sl : Addr} {items : Array Value} {b : Nat} {u : Tok} {Q : Value → Shared → Prop} (ht : IsTup s.heap t items) (hs : s.heap.IsSliceOf sl .none (.int b u) .none) (hb : b < items.size)
    (h : Q (.ref s.heap.objs.size) { s with heap := s.heap.push { cls := .type "tuple", data := .seq (items.toList.take b).toArray } })
    (hsz : items.size ≤ sizeLine) : wpAny (model prog w) A (getItem (.ref t) (.ref sl)) Q E s := by
  have htake : sizeOk (.seq (items.toList.take b).toArray) := by
    show (items.toList.take b).toArray.size ≤ sizeLine
    rw [List.size_toArray, List.length_take, Array.length_toList]
    lia
  obtain ⟨os, hos, hcs, hds⟩ := id hs
  have hTs : s.TypeIs (.ref sl) "slice" := ⟨os, hos, hcs⟩
  unfold getItem
  try with_reducible refine wpAny_holding ?_
  first | refine wpAny_bind (wpAny_pure ?_) | skip
  refine wpAny_bind (wpAny_sequenceKey ht.typeIs (by decide) ?_)
  refine wpAny_bind (wpAny_callSpecial?_slot (name := Str.ofString "__getitem__") ht.typeIs slot_tuple_getitem
    (wpAny_call_entry slot_tuple_getitem ht.typeIs entry_tuple_getitem ?_ (args_tuple_getitem _ _)))
  show wpAny _ _ (Builtin.Tuple.tupleItemsOf (.ref t) >>= _) _ _ s
  refine wpAny_bind (tupleItemsOf_ ht ?_)
  refine wpAny_bind (wpAny_typeOf hTs ?_)
  rw [if_pos (by decide)]
  refine wpAny_bind (sliceApplied_upto hs (Nat.le_of_lt hb) ?_)
  have hno : ¬ (((0 : Int) == 0 && (1 : Int) == 1 && b == items.size) = true) := by
    have : (b == items.size) = false := by rw [beq_eq_false_iff_ne]; lia
    rw [this]; simp
  show wpAny _ _ (if ((0 : Int) == 0 && (1 : Int) == 1 && b == items.size) = true then _ else _) _ _ s
  rw [if_neg hno, pick_upto items b]
  first
    | exact wpAny_bind (m := Builtin.Tuple.tupleExact _) (wpAny_newObj_type (wpAny_pure ⟨_, rfl, wpAny_pure h⟩) htake)
    | exact wpAny_bind (m := Builtin.Tuple.tupleExact _) (wpAny_newObj_type (wpAny_bind (wpAny_pure (wpAny_pure ⟨_, rfl, wpAny_pure h⟩))) htake)
    | exact wpAny_bind (wpAny_bind (m := Builtin.Tuple.tupleExact _) (wpAny_newObj_type (wpAny_pure (wpAny_pure ⟨_, rfl, wpAny_pure h⟩)) htake))
    | exact wpAny_bind (wpAny_bind (m := Builtin.Tuple.tupleExact _) (wpAny_newObj_type (wpAny_pure ⟨_, rfl, wpAny_pure h⟩) htake))

noncomputable def eTake (a hi : EM) : EM := fun lc σ => (a lc σ).bind fun p => (hi lc p.2).bind fun r => match p.1, r.1 with
  | .tup l, .int b => if 0 ≤ b ∧ b < l.length ∧ l.length ≤ 1000 then some (.tup (l.take b.toNat), r.2) else none
  | _, _ => none
theorem RE.take {value : Expr} {upper : Expr} {p pos : Pos} {ma mu} (ha : RE C value ma) (hup : RE C upper mu) : RE C (.Subscript value (.Slice Option.none (Option.some upper) Option.none p) pos) (eTake ma mu) := by
  intro A E Q s ρ σ lc r σ' ok eo ao F S e h
  refine bindS e fun a σ₁ e1 e => ?_
  refine bindS e fun c σ₃ e3 e => ?_
  cases a with
  | none => exact nos e | bool _ => exact nos e | int _ => exact nos e | str _ => exact nos e | ref _ => exact nos e | raw _ => exact nos e
  | tup l =>
  cases c with
  | none => exact nos e | bool _ => exact nos e | ref _ => exact nos e | str _ => exact nos e | tup _ => exact nos e | raw _ => exact nos e
  | int b =>
  simp only [] at e
  split at e <;> try exact nos e
  rename_i hc
  cases e
  refine Subscript_ (ha ok eo ao F S e1 fun va s₁ ρ₁ P₁ V₁ => wpAny_Slice (wpAny_pure ?_))
  refine (RPart.yes hup) ok eo ao (F.post S P₁) P₁.st e3 fun vc s₃ ρ₃ P₃ V₃ => ?_
  rw [evalPart_none]
  refine wpAny_pure ?_
  have P₁₃ := P₁.transR P₃
  have P₄ : Post C.X (· ∈ ρ₃) ρ₃ s₃ ρ₃ _ { s₃ with heap := s₃.heap.push { cls := .type "slice", data := .fields #[.none, vc, .none] } } := Post.keeps P₃.st keepPush
  have V₁' := P₄.v P₃.st (P₃.v P₁.st V₁)
  cases V₃ with
  | int _ t =>
  cases V₁' with
  | @tup ta vs n _ ea rl =>
  have hsz : l.length = vs.size := by rw [rl.length]; simp
  have hb : b = ((b.toNat : Nat) : Int) := by lia
  have hit : IsTup (s₃.heap.push { cls := .type "slice", data := .fields #[.none, .int b t, .none] }) ta vs := ⟨_, ea, rfl, _, rfl⟩
  refine tail_any (s := { s₃ with heap := s₃.heap.push { cls := .type "slice", data := .fields #[.none, .int b t, .none] } }) (T := "tuple") hit.typeIs slot_tuple_getitem.lookup
    (getItem_tuple_upto (b := b.toNat) (u := t) hit (by rw [← hb]; exact Heap.IsSliceOf.new ..) (by lia) ?_ (small_line (by lia))) rfl
  have rt := rl.take b.toNat
  refine h _ { s₃ with heap := (s₃.heap.push { cls := .type "slice", data := .fields #[.none, .int b t, .none] }).push { cls := .type "tuple", data := .seq (vs.toList.take b.toNat).toArray } } ρ₃ (P₁₃.transR (P₄.transR (Post.keeps P₄.st keepPush))) (.tup (Heap.get?_push_size _ rfl) ?_)
  have rt' := rt.mono (ρ' := ρ₃) (.of (keepPush (o := { cls := .type "tuple", data := .seq (vs.toList.take b.toNat).toArray }))) fun _ _ e => e
  simpa using rt'

/- {k: v, ..} -/
inductive PV (ρ : List Addr) (h : Heap) : List (Str × AV) → List (Value × Value) → Prop
  | nil : PV ρ h [] []
  | cons {x : Str} {t : Tok} {d : AV} {v : Value} {kvs : List (Str × AV)} {ws : List (Value × Value)} : V ρ h d v → PV ρ h kvs ws → PV ρ h ((x, d) :: kvs) ((.str x t, v) :: ws)
theorem PV.all {ρ : List Addr} {h : Heap} {kvs : List (Str × AV)} {ws : List (Value × Value)} (x : PV ρ h kvs ws) : allStrKeys ws = true ∧ (strPairs ws).map (·.1) = kvs.map (·.1) ∧ KV ρ h kvs (strPairs ws) := by
  induction x with
  | nil => exact ⟨rfl, rfl, .nil⟩
  | cons v _ ih => obtain ⟨a, b, c⟩ := ih; exact ⟨a, by simp only [strPairs, List.map_cons, b], .cons v c⟩
noncomputable def RPairs (C : Cn) (keys : List (Option Expr)) (values : List Expr) (pos : Pos) (m : Lc → Store → Option (List (Str × AV) × Store)) : Prop := RG C PV (evalPairs (pairTrees keys values C.env pos)) m
noncomputable def pNil : Lc → Store → Option (List (Str × AV) × Store) := fun _ σ => some ([], σ)
noncomputable def pCons (x : Str) (a : EM) (b : Lc → Store → Option (List (Str × AV) × Store)) : Lc → Store → Option (List (Str × AV) × Store) := fun lc σ => (a lc σ).bind fun p => (b lc p.2).map fun q => ((x, p.1) :: q.1, q.2)
theorem RPairs.nil {pos : Pos} : RPairs C [] [] pos pNil := by
  intro A E Q s ρ σ lc r σ' ok eo ao F S e h
  cases e
  exact pairTrees_nil_walk (h _ _ _ (Post.refl S) .nil)
theorem RPairs.cons {x : Str} {k : Nat} {kp pos : Pos} {v : Expr} {ks : List (Option Expr)} {vs : List Expr} {a b} (ha : RE C v a) (hb : RPairs C ks vs pos b) : RPairs C (some (.Constant (.str x) k kp) :: ks) (v :: vs) pos (pCons x a b) := by
  intro A E Q s ρ σ lc r σ' ok eo ao F S e h
  refine bindS e fun d σ₁ e1 e => ?_
  refine mapS e fun kvs σ₂ e2 e => ?_
  cases e
  refine pairTrees_cons_walk (Calls.Constant_str ?_)
  have P₀ : Post C.X (· ∈ ρ) ρ s ρ σ { s with heap := s.heap, toks := s.toks + 1 } := Post.keeps S fun _ _ e => e
  refine ha ok eo ao (F.post S P₀) P₀.st e1 fun v₁ s₁ ρ₁ P₁ V₁ => ?_
  refine hb ok eo ao ((F.post S P₀).post P₀.st P₁) P₁.st e2 fun v₂ s₂ ρ₂ P₂ V₂ => ?_
  exact h _ _ _ ((P₀.transR P₁).transR P₂) (.cons (P₂.v P₁.st V₁) V₂)
noncomputable def eDict (m : Lc → Store → Option (List (Str × AV) × Store)) : EM := fun lc σ => (m lc (σ ++ [.dict []])).bind fun p =>
  match p.2[σ.length]? with
  | some (.dict []) => if (p.1.map (·.1)).Nodup then some (.ref σ.length, p.2.set σ.length (.dict p.1)) else none
  | _ => none
theorem RE.dict {keys : List (Option Expr)} {values : List Expr} {pos : Pos} {m} (h : RPairs C keys values pos m) (hall : keys.all (·.isSome) = true := by rfl) (hl : keys.length = values.length := by rfl) (h0 : keys ≠ [] := by simp) (hlen : keys.length ≤ 15 := by decide) :
    RE C (.Dict keys values pos) (eDict m) := by
  intro A E Q s ρ σ lc r σ' ok eo ao F S e hq
  refine bindS e fun kvs σ₁ e1 e => ?_
  split at e <;> try exact nos e
  rename_i hd
  split at e <;> try exact nos e
  rename_i hnd
  cases e
  refine wpAny_Dict_walk (knd := strKind C.X.prog C.X.w) hall hl h0 hlen ?_
  have hnew : ∃ o, (s.heap.push { cls := .type "dict", data := .dict #[] }).get? s.heap.objs.size = some o ∧ o.IsDictOf (strKind C.X.prog C.X.w) [] := Heap.dictOf_iff.mp (Heap.DictOf.new _)
  obtain ⟨o, ho, hO⟩ := hnew
  have P₀ := Post.new (ex := (· ∈ ρ)) (tk := s.toks) (ao := .dict []) S get_none_size ho keepPush ⟨[], hO, .nil⟩
  refine h ok eo ao (F.post S P₀) P₀.st e1 fun vs s₁ ρ₁ P₁ V₁ => ?_
  obtain ⟨a1, a2, a3⟩ := V₁.all
  have hρ : (ρ ++ [s.heap.objs.size])[σ.length]? = some s.heap.objs.size := by rw [← S.len]; simp
  have hρ₁ := P₁.idx _ _ hρ
  obtain ⟨a', o', b1, b2, ws, b3, b4⟩ := P₁.st.obj _ _ hd
  rw [hρ₁] at b1; cases b1
  cases b4
  refine display_done_str (P := fun h' => Q (.ref s.heap.objs.size) { s₁ with heap := h', toks := s₁.toks + vs.length }) a1 (by rw [a2]; exact hnd) (Heap.dictOf_iff.mpr ⟨o', b2, b3⟩) fun h' hdo hsb => ?_
  obtain ⟨o₂, c1, c2⟩ := Heap.dictOf_iff.mp hdo
  have noT : ∀ o, s₁.heap.get? s.heap.objs.size = some o → ¬ isTup o := fun o e t => P₁.st.notTuple e t (List.mem_of_getElem? hρ₁)
  have kt : KeepT s₁.heap h' := fun b o e t => hsb.extBut b o (by rintro rfl; exact noT o e t) e
  have P₂ := Post.set (tk := s₁.toks + vs.length) P₁.st hρ₁ c1 (fun b o nb e => hsb.extBut b o nb e) (ao := .dict kvs) ⟨_, c2, a3.mono kt fun _ _ e => e⟩
  exact hq _ _ _ ((P₀.transR P₁).transR P₂) (.ref hρ₁)
end
end Mine
end
-- part FW14
section
open PySem PySem.W PySem.Calls PyProof.Rows
set_option maxRecDepth 100000
namespace Mine
theorem len0 {α : Type} {p : List α → Prop} (h : p []) : ∀ l, l.length = 0 → p l := fun l e => by rw [List.eq_nil_of_length_eq_zero e]; exact h
theorem lenS {α : Type} {n : Nat} {p : List α → Prop} (h : ∀ x l, l.length = n → p (x :: l)) : ∀ l, l.length = n + 1 → p l
  | [], e => Nat.noConfusion e
  | x :: l, e => h x l (Nat.succ.inj e)
theorem len1 {α : Type} {p : List α → Prop} (h : ∀ a, p [a]) : ∀ l, l.length = 1 → p l := lenS fun a => len0 (p := fun l => p (a :: l)) (h a)
theorem len2 {α : Type} {p : List α → Prop} (h : ∀ a b, p [a, b]) : ∀ l, l.length = 2 → p l := lenS fun a => len1 (p := fun l => p (a :: l)) (h a)
theorem len3 {α : Type} {p : List α → Prop} (h : ∀ a b c, p [a, b, c]) : ∀ l, l.length = 3 → p l := lenS fun a => len2 (p := fun l => p (a :: l)) (h a)
theorem len4 {α : Type} {p : List α → Prop} (h : ∀ a b c d, p [a, b, c, d]) : ∀ l, l.length = 4 → p l := lenS fun a => len3 (p := fun l => p (a :: l)) (h a)
theorem len5 {α : Type} {p : List α → Prop} (h : ∀ a b c d e, p [a, b, c, d, e]) : ∀ l, l.length = 5 → p l := lenS fun a => len4 (p := fun l => p (a :: l)) (h a)
theorem len6 {α : Type} {p : List α → Prop} (h : ∀ a b c d e f, p [a, b, c, d, e, f]) : ∀ l, l.length = 6 → p l := lenS fun a => len5 (p := fun l => p (a :: l)) (h a)
theorem bt1 {s F} {pn : List Str} (h : ∀ a, BindsTo s F ⟨[a], []⟩ (pn.zip [a])) : ∀ vals : List Value, vals.length = 1 → BindsTo s F ⟨vals, []⟩ (pn.zip vals) := len1 h
theorem bt2 {s F} {pn : List Str} (h : ∀ a b, BindsTo s F ⟨[a, b], []⟩ (pn.zip [a, b])) : ∀ vals : List Value, vals.length = 2 → BindsTo s F ⟨vals, []⟩ (pn.zip vals) := len2 h
theorem bt3 {s F} {pn : List Str} (h : ∀ a b c, BindsTo s F ⟨[a, b, c], []⟩ (pn.zip [a, b, c])) : ∀ vals : List Value, vals.length = 3 → BindsTo s F ⟨vals, []⟩ (pn.zip vals) := len3 h
theorem bt4 {s F} {pn : List Str} (h : ∀ a b c d, BindsTo s F ⟨[a, b, c, d], []⟩ (pn.zip [a, b, c, d])) : ∀ vals : List Value, vals.length = 4 → BindsTo s F ⟨vals, []⟩ (pn.zip vals) := len4 h
theorem bt5 {s F} {pn : List Str} (h : ∀ a b c d e, BindsTo s F ⟨[a, b, c, d, e], []⟩ (pn.zip [a, b, c, d, e])) : ∀ vals : List Value, vals.length = 5 → BindsTo s F ⟨vals, []⟩ (pn.zip vals) := len5 h
theorem bt6 {s F} {pn : List Str} (h : ∀ a b c d e f, BindsTo s F ⟨[a, b, c, d, e, f], []⟩ (pn.zip [a, b, c, d, e, f])) : ∀ vals : List Value, vals.length = 6 → BindsTo s F ⟨vals, []⟩ (pn.zip vals) := len6 h

theorem AOk.le {lv lv' : Nat} {A : Around} (h : AOk lv' A) (hl : lv ≤ lv') : AOk lv A := by
  obtain ⟨a, b, c⟩ := h
  exact ⟨a, by lia, by lia⟩
theorem RC.le {X : Cx} {lv lv' : Nat} {f : Value} {F : FM} (h : RC X lv f F) (hl : lv ≤ lv') : RC X lv' f F :=
  fun ok ao => h ok (ao.le hl)
theorem RF.rc {X : Cx} {lv lv' : Nat} {f : Value} {F : FM} (h : RF X lv f F) (hl : lv ≤ lv' := by decide) : RC X lv' f F := RC.le (RF.call h) hl
theorem AOk.deeper {lv : Nat} {A : Around} {env : Env} (h : AOk (lv + 1) A) : AOk lv (A.deeper env) := by
  obtain ⟨a, b, c⟩ := h
  exact ⟨a, by show A.depth + 1 + _ ≤ _; lia, by show A.units + 3 + _ + _ ≤ _; lia⟩

/-- a def: n parameters, k other locals -/
noncomputable def defM (n k : Nat) (fill : List AV → List AV) (b : SM) : FM := fun args σ =>
  if (fill args).length = n then (b ((fill args).map some ++ List.replicate k none) σ).map fun p => ((match p.1 with | .ret v => v | .next => .none), p.2.2) else none
noncomputable def defN (n k : Nat) (b : SM) : FM := defM n k id b

theorem lookup_zip {α β : Type} [BEq α] [LawfulBEq α] : ∀ {l : List α} {r : List β}, l.Nodup → ∀ {k : Nat} {x : α} {v : β}, l[k]? = some x → r[k]? = some v → (l.zip r).lookup x = some v
  | [], _, _, _, _, _, h, _ => by cases h
  | a :: l, [], _, _, _, _, _, h => by cases h
  | a :: l, b :: r, nd, 0, x, v, h1, h2 => by
    cases h1; cases h2
    simp
  | a :: l, b :: r, nd, k + 1, x, v, h1, h2 => by
    have nd' := List.nodup_cons.mp nd
    have hx : x ∈ l := List.mem_of_getElem? h1
    have hne : (x == a) = false := by
      rw [beq_eq_false_iff_ne]; rintro rfl; exact nd'.1 hx
    rw [List.zip_cons_cons, List.lookup_cons, hne]
    exact lookup_zip nd'.2 h1 h2
theorem lookup_cons_if {α β : Type} [BEq α] [LawfulBEq α] (x : α) (p : α × β) (l : List (α × β)) : (p :: l).lookup x = if x == p.1 then some p.2 else l.lookup x := by
  obtain ⟨a, b⟩ := p
  rw [List.lookup_cons]
  cases h : x == a <;> simp
theorem lookup_rev {α β : Type} [BEq α] [LawfulBEq α] : ∀ {l : List (α × β)}, (l.map (·.1)).Nodup → ∀ x, l.reverse.lookup x = l.lookup x
  | [], _, _ => rfl
  | p :: l, nd, x => by
    have nd' := List.nodup_cons.mp nd
    rw [List.reverse_cons, List.lookup_append, lookup_rev nd'.2 x, lookup_cons_if, lookup_cons_if]
    by_cases q : x = p.1
    · subst q
      have : l.lookup p.1 = none := by
        rw [List.lookup_eq_none_iff]
        intro p' hp'
        rw [bne_iff_ne]
        intro q
        exact nd'.1 (List.mem_map.mpr ⟨p', hp', q.symm⟩)
      simp [this]
    · have : (x == p.1) = false := by simpa using q
      simp [this]

theorem RF.fnD {X : Cx} {lv : Nat} {f : Addr} {name qual : Str} {params : Arguments} {body : List Stmt} {scope : Scope} {dV kV doc pm cdv ct oc : Value} {an od : Option Addr} {osl : Array (Option Value)} {b : SM}
    (pn rest : List Str) (fill : List AV → List AV) (fillV : List Value → List Value)
    (ho : X.K.lookup f = some ⟨oc, od, .func (fnOf name qual params body scope dV kV doc pm an cdv ct), osl⟩)
    (hcd : codeIn X.K cdv qual = true)
    (hbody : ∀ L, RS ⟨X, lv, pn ++ rest, envOf qual scope L f cdv⟩ body b)
    (hfill : ∀ ρ h args vals, Vs ρ h args vals → Vs ρ h (fill args) (fillV vals))
    (hbind : ∀ (s : Shared) vals, X.K.In s.heap → (fillV vals).length = pn.length → BindsTo s (fnOf name qual params body scope dV kV doc pm an cdv ct) ⟨vals, []⟩ (pn.zip (fillV vals)))
    (hloc : (pn ++ rest).all (fun x => decide (scope.names.lookup x = some .local)) = true := by decide)
    (hnd : (pn ++ rest).Nodup := by decide)
    (hcell : ∀ x ∈ scope.names, x.2 ≠ .cell := by decide)
    (hco : scope.isCoroutine = false := by rfl) (hgen : scope.isGenerator = false := by rfl) (hk : scope.kind = .function := by rfl) :
    RF X (lv + 1) (.ref f) (defM pn.length rest.length fill b) := by
  intro A R s ρ σ args vals r σ' ok ao S hv e h
  unfold defM at e
  split at e
  rotate_left
  · exact nos e
  rename_i hlen
  refine map3 e fun fl lc' σ₁ e1 e => ?_
  cases e
  have K' := ok.K.keeps S.keep
  have hv' := hfill ρ s.heap _ _ hv
  have hlenV : (fillV vals).length = pn.length := by rw [← hv'.length, hlen]
  have hl' : ∀ x ∈ pn ++ rest, scope.names.lookup x = some .local := fun x hx => of_decide_eq_true (List.all_eq_true.mp hloc x hx)
  have ndp : pn.Nodup := (List.nodup_append.mp hnd).1
  have e0 : (pn.zip (fillV vals)).map (·.1) = pn := by
    rw [List.map_fst_zip]
    exact Nat.le_of_eq hlenV.symm
  refine codeAny_call_def (fd := fnOf name qual params body scope dV kV doc pm an cdv ct) (body := body) (binds := pn.zip (fillV vals)) (by have := ao.2.1; show A.depth < 1000; lia) (K' _ _ ho) rfl (ok.nolimit.keeps S.keep) (codeRec_of K' hcd) rfl (hbind s vals K' hlenV) hcell
    (fun x hx => hl' _ (List.mem_append_left _ (List.of_mem_zip hx).1)) (fun h₁ hns kp => ?_) hco hgen hk
  have P₁ : Post X (· ∈ ρ) ρ s ρ σ { s with heap := h₁, toks := s.toks + (pn.zip (fillV vals)).length } := Post.keeps S kp
  have nL : s.heap.get? s.heap.objs.size = none := get_none_size
  have nB : X.hB.get? s.heap.objs.size = none := by
    cases e : X.hB.get? s.heap.objs.size with
    | none => rfl
    | some o => rw [S.keep _ _ e] at nL; cases nL
  have eo : EnvOk (pn ++ rest) (envOf qual scope s.heap.objs.size f cdv) := ⟨hk, rfl, rfl, hnd, fun x hx => .inl (hl' x hx), fun n c n' c' e => by cases e⟩
  have F₁ : FR X (pn ++ rest) (envOf qual scope s.heap.objs.size f cdv) ρ ((fill args).map some ++ List.replicate rest.length none) h₁ := by
    refine ⟨⟨_, hns, fun k x av hk' hav => ?_⟩, fun b hb => ?_, (fun n c e => by cases e), (by simp [hlen])⟩
    · have hka : (fill args)[k]? = some av := by
        by_cases q : k < (fill args).length
        · rw [List.getElem?_append_left (by simpa using q), List.getElem?_map] at hav
          simpa using hav
        · rw [List.getElem?_append_right (by simpa using q)] at hav
          rw [List.getElem?_replicate] at hav
          split at hav <;> simp at hav
      have hkl : k < pn.length := by rw [← hlen]; exact (List.getElem?_eq_some_iff.mp hka).1
      rw [List.getElem?_append_left hkl] at hk'
      obtain ⟨v, h1, h2⟩ := hv'.get hka
      refine ⟨v, .inl ⟨hl' _ (List.mem_append_left _ (List.mem_of_getElem? hk')), ?_⟩, h2.mono (.of kp) fun _ _ e => e⟩
      show (pn.zip (fillV vals)).reverse.lookup x = some v
      rw [lookup_rev (by rw [e0]; exact ndp)]
      exact lookup_zip ndp hk' h1
    · rcases hb with rfl | ⟨n, hc⟩
      · exact ⟨S.fresh nL, nB⟩
      · exact nos hc
  refine hbody _ ok eo ao.deeper F₁ P₁.st e1 fun fv s' ρ' P F V => ?_
  have P₂ := P₁.trans P (w := fun b o e q => by
    rcases q with q | q
    · rcases q with rfl | ⟨n, hc⟩
      · exact absurd e (by show ¬ s.heap.get? s.heap.objs.size = some o; rw [nL]; simp)
      · exact nos hc
    · exact q)
  cases V with
  | next => exact h .none s' ρ' P₂ .none
  | ret hd => exact h _ s' ρ' P₂ hd

theorem RF.fn {X : Cx} {lv : Nat} {f : Addr} {name qual : Str} {params : Arguments} {body : List Stmt} {scope : Scope} {dV kV doc pm cdv ct oc : Value} {an od : Option Addr} {osl : Array (Option Value)} {b : SM}
    (pn rest : List Str)
    (ho : X.K.lookup f = some ⟨oc, od, .func (fnOf name qual params body scope dV kV doc pm an cdv ct), osl⟩)
    (hcd : codeIn X.K cdv qual = true)
    (hbody : ∀ L, RS ⟨X, lv, pn ++ rest, envOf qual scope L f cdv⟩ body b)
    (hbind : ∀ (s : Shared) vals, X.K.In s.heap → vals.length = pn.length → BindsTo s (fnOf name qual params body scope dV kV doc pm an cdv ct) ⟨vals, []⟩ (pn.zip vals))
    (hloc : (pn ++ rest).all (fun x => decide (scope.names.lookup x = some .local)) = true := by decide)
    (hnd : (pn ++ rest).Nodup := by decide)
    (hcell : ∀ x ∈ scope.names, x.2 ≠ .cell := by decide)
    (hco : scope.isCoroutine = false := by rfl) (hgen : scope.isGenerator = false := by rfl) (hk : scope.kind = .function := by rfl) :
    RF X (lv + 1) (.ref f) (defN pn.length rest.length b) :=
  RF.fnD pn rest id id ho hcd hbody (fun _ _ _ _ x => x) hbind hloc hnd hcell hco hgen hk
end Mine
end
-- part FW15
section
open PySem PySem.W PySem.Calls PyProof.Rows
set_option maxRecDepth 100000
namespace Mine

section
variable {C : Cn}
theorem RT.name {x : Str} {pos : Pos} {t} (h : RTb C x t) : RT C (.Name x pos) t := by
  intro A E Q s ρ σ lc lc' d v σ' ok eo ao F S hv e hq
  show wpAny _ _ (do standAt pos; bindName C.env x v) _ _ _
  exact wpAny_bind (wpAny_standAt (h ok eo ao F S hv e hq))
theorem RT.loc {x : Str} {pos : Pos} (k : Nat) (hk : C.ns[k]? = some x) (hnf : (C.env.kindOf x == some .free) = false) : RT C (.Name x pos) (tLoc k) := RT.name (RTb.loc k hk hnf)

/-- attributes of one class's instances -/
noncomputable def getC (Cl : Addr) (name : Str) : AV → Store → Option (AV × Store)
  | .ref i, σ => match σ[i]? with
    | some (.inst C d) => if C = Cl then (match σ[d]? with
      | some (.ns kvs) => (kvs.lookup name).map fun v => (v, σ)
      | _ => none) else none
    | _ => none
  | _, _ => none
noncomputable def setC (Cl : Addr) (name : Str) : AV → AV → Store → Option Store
  | .ref i, v, σ => match σ[i]? with
    | some (.inst C d) => if C = Cl then (match σ[d]? with
      | some (.ns kvs) => if kvs.length ≤ 100 then some (σ.set d (.ns (putN name v kvs))) else none
      | _ => none) else none
    | _ => none
  | _, _, _ => none
noncomputable def eAttr (Cl : Addr) (name : Str) (m : EM) : EM := eUn (getC Cl name) m
noncomputable def tAttrC (Cl : Addr) (name : Str) (mo : EM) : AV → Lc → Store → Option (Lc × Store) := fun d lc σ => (mo lc σ).bind fun p => (setC Cl name p.1 d p.2).map fun σ' => (lc, σ')
theorem getC_of {K : Frag} {Cl : Addr} {name : Str} (h : plainGet K Cl name = true ∧ hasDictIn K Cl = true ∧ findIn K (.ref Cl) name = some none) {a : AV} {σ : Store} {r : AV × Store} (e : getC Cl name a σ = some r) : getAttrA K name a σ = some r := by
  cases a <;> try exact nos e
  simp only [getC] at e
  split at e
  · rename_i C d hi
    split at e
    · rename_i hC
      subst hC
      simp only [getAttrA, hi, h, and_self, if_true]
      exact e
    · exact nos e
  · exact nos e
theorem setC_of {K : Frag} {Cl : Addr} {name : Str} (h : findIn K (.ref Cl) "__setattr__" = some (some (.builtin "object.__setattr__")) ∧ plainOver K Cl = true ∧ takerIn K Cl name = some none ∧ hasDictIn K Cl = true) {a v : AV} {σ : Store} {r : Store} (e : setC Cl name a v σ = some r) : setAttrA K name a v σ = some r := by
  cases a <;> try exact nos e
  simp only [setC] at e
  split at e
  · rename_i C d hi
    split at e
    · rename_i hC
      subst hC
      simp only [setAttrA, hi, h, and_self, if_true]
      exact e
    · exact nos e
  · exact nos e
theorem RE.attrC {value : Expr} {attr : Str} {pos : Pos} {m} {Cl : Addr} (hv : RE C value m) (h : plainGet C.X.K Cl attr = true ∧ hasDictIn C.X.K Cl = true ∧ findIn C.X.K (.ref Cl) attr = some none)
    (he : eval (.Attribute value attr pos) C.env = (do
      let o ← eval value C.env
      standAt pos.atName
      let r ← holding [o] (getAttr o attr true)
      letTemporaryGo value o r
      pure r) := by with_unfolding_all rfl) : RE C (.Attribute value attr pos) (eAttr Cl attr m) := by
  intro A E Q s ρ σ lc r σ' ok eo ao F S e hq
  refine RE.attr hv he ok eo ao F S ?_ hq
  refine bind1 e fun p e1 e2 => ?_
  show (m lc σ).bind _ = _
  rw [e1]
  exact getC_of h e2
theorem RT.attrC {o : Expr} {attr : Str} {pos : Pos} {mo} {Cl : Addr} (ho : RE C o mo) (h : findIn C.X.K (.ref Cl) "__setattr__" = some (some (.builtin "object.__setattr__")) ∧ plainOver C.X.K Cl = true ∧ takerIn C.X.K Cl attr = some none ∧ hasDictIn C.X.K Cl = true) :
    RT C (.Attribute o attr pos) (tAttrC Cl attr mo) := by
  intro A E Q s ρ σ lc lc' d v σ' ok eo ao F S hv e hq
  refine RT.attr ho ok eo ao F S hv ?_ hq
  refine bind1 e fun p e1 e2 => ?_
  refine map1 e2 fun σ₂ e3 e4 => ?_
  show (mo lc σ).bind _ = _
  rw [e1]
  show (setAttrA _ _ _ _ _).map _ = _
  rw [setC_of h e3]
  exact congrArg some e4
noncomputable def tTupN (n : Nat) (ts : List AV → Lc → Store → Option (Lc × Store)) : AV → Lc → Store → Option (Lc × Store) := tTup fun l => if l.length = n then ts l else fun _ _ => none
noncomputable def tSwap (n : Nat) (ts : List AV → Lc → Store → Option (Lc × Store)) : AV → Lc → Store → Option (Lc × Store) := tTup fun l => if l.length = n then ts l.reverse else fun _ _ => none
theorem RT.tupleN {elts : List Expr} {k : Nat} {pos : Pos} {n : Nat} {fs : List (Value → Sem Unit)} {ts} (hn : (assignEach elts C.env).length = n) (hst : (assignEach elts C.env).findIdx? (·.1) = Option.none) (he : (assignEach elts C.env).map (·.2) = fs) (hr : RTs C fs ts) :
    RT C (.Tuple elts k pos) (tTupN n ts) := RT.tuple (by rw [he]; exact hr) hn hst
theorem CompOk.plain {scope : Scope} {x : Str} (clos : closureFor scope C.env = pure [] := by rfl) (kind : scope.kind = .function := by rfl)
    (names : ∀ y ∈ scope.names, y.2 = .local → scope.names.lookup y.1 = some .local := by decide) (cell : ∀ y ∈ scope.names, y.2 ≠ .cell := by decide) (hx : scope.names.lookup x = some .local := by rfl) : CompOk C scope [] x [] :=
  ⟨clos, kind, names, cell, hx, (by simp), (fun _ _ h => by cases h), (fun _ _ h => by cases h)⟩
end
theorem b_max : bootBuiltins "max" = some (.builtin "max") := by decide +kernel
theorem b_min : bootBuiltins "min" = some (.builtin "min") := by decide +kernel
theorem b_len : bootBuiltins "len" = some (.builtin "len") := by decide +kernel
theorem b_int : bootBuiltins "int" = some (.type "int") := by decide +kernel
theorem b_list : bootBuiltins "list" = some (.type "list") := by decide +kernel
theorem b_tuple : bootBuiltins "tuple" = some (.type "tuple") := by decide +kernel
end Mine
end
-- part WM
section
open PySem PySem.W PySem.Calls PyProof.Rows
set_option maxRecDepth 100000
set_option maxHeartbeats 4000000
namespace Mine
noncomputable abbrev cLt := cmpInt fun a b => decide (a < b)
noncomputable abbrev cGt := cmpInt fun a b => decide (b < a)
noncomputable abbrev cLe := cmpInt fun a b => decide (a ≤ b)
noncomputable def v_NO_COLOUR : AV := .int (-1)
noncomputable def v_BACK : AV := .int 2
noncomputable def pen0 : AV := .tup [.int 0, .int (-1), .int (-1), .int (-1), .int 0]
noncomputable def pen1 : AV := .tup [.int 1, .int 2, .int 4, .int (-1), .int 0]
noncomputable def v_PLAIN : AV := pen0
noncomputable def v_LINE_SIZES : AV := .tup [.str "single", .str "wide", .str "top", .str "bottom"]
noncomputable def v_law_pens : AV := .tup [pen0, pen1]
noncomputable def m_clamp : SM := sCons (sRet (eCall fMax (aCons (eLoc 1) (aCons (eCall fMin (aCons (eLoc 0) (aCons (eLoc 2) (aNil)))) (aNil))))) (sNil)
noncomputable def F_clamp : FM := defN 3 0 (m_clamp)
noncomputable def m_erased_pen : SM := sCons (sRet (eTup (aCons (eVal (.int 0)) (aCons (eVal v_NO_COLOUR) (aCons (eGet (eLoc 0) (eVal v_BACK)) (aCons (eVal v_NO_COLOUR) (aCons (eVal (.int 0)) (aNil)))))))) (sNil)
noncomputable def F_erased_pen : FM := defN 1 0 (m_erased_pen)
noncomputable def m_blank_cell : SM := sCons (sRet (eTup (aCons (eTup (aNil)) (aCons (eVal (.int 1)) (aCons (eCall (F_erased_pen) (aCons (eLoc 0) (aNil))) (aCons (eVal (.bool false)) (aNil))))))) (sNil)
noncomputable def F_blank_cell : FM := defN 1 0 (m_blank_cell)
noncomputable def m_is_blank : SM := sCons (sRet (eAnd (eBin eqA (eGet (eLoc 0) (eVal (.int 0))) (eTup (aNil))) (eBin eqA (eGet (eLoc 0) (eVal (.int 1))) (eVal (.int 1))))) (sNil)
noncomputable def F_is_blank : FM := defN 1 0 (m_is_blank)
noncomputable def m_is_plain_blank : SM := sCons (sRet (eBin eqA (eLoc 0) (eTup (aCons (eTup (aNil)) (aCons (eVal (.int 1)) (aCons (eVal v_PLAIN) (aCons (eVal (.bool false)) (aNil)))))))) (sNil)
noncomputable def F_is_plain_blank : FM := defN 1 0 (m_is_plain_blank)
noncomputable def m_line_blanks : SM := sCons (sRet (eBin opMul (eList (aCons (eCall (F_blank_cell) (aCons (eLoc 1) (aNil))) (aNil))) (eCall fMax (aCons (eVal (.int 0)) (aCons (eLoc 0) (aNil)))))) (sNil)
noncomputable def F_line_blanks : FM := defN 2 0 (m_line_blanks)
noncomputable def m_right_half : SM := sCons (sRet (eTup (aCons (eTup (aNil)) (aCons (eVal (.int 0)) (aCons (eGet (eLoc 0) (eVal (.int 2))) (aCons (eGet (eLoc 0) (eVal (.int 3))) (aNil))))))) (sNil)
noncomputable def F_right_half : FM := defN 1 0 (m_right_half)
noncomputable def m_line_part : SM := sCons (sIf (bAnd (bOf (eChain cLt cLt (eVal (.int 0)) (eLoc 1) (eCall fLen (aCons (eLoc 0) (aNil))))) (bAnd (bOf (eBin eqA (eGet (eGet (eLoc 0) (eLoc 1)) (eVal (.int 1))) (eVal (.int 0)))) (bVal true))) (sCons (sAsg (eCall (F_blank_cell) (aCons (eGet (eGet (eLoc 0) (eBin opSub (eLoc 1) (eVal (.int 1)))) (eVal (.int 2))) (aNil))) (tSub (eLoc 0) (eBin opSub (eLoc 1) (eVal (.int 1))))) (sCons (sAsg (eCall (F_blank_cell) (aCons (eGet (eGet (eLoc 0) (eLoc 1)) (eVal (.int 2))) (aNil))) (tSub (eLoc 0) (eLoc 1))) (sNil))) (sNil)) (sNil)
noncomputable def F_line_part : FM := defN 2 0 (m_line_part)
noncomputable def m_line_slice : SM := sCons (sAsg (eCall fList (aCons (eSlice (eLoc 0) (eCall fMax (aCons (eVal (.int 0)) (aCons (eLoc 1) (aNil)))) (eCall fMax (aCons (eVal (.int 0)) (aCons (eBin opAdd (eLoc 2) (eVal (.int 1))) (aNil))))) (aNil))) (tLoc 3)) (sCons (sIf (bAnd (bOf (eBin neA (eLoc 3) (eList (aNil)))) (bAnd (bOf (eBin eqA (eGet (eGet (eLoc 3) (eVal (.int 0))) (eVal (.int 1))) (eVal (.int 0)))) (bVal true))) (sCons (sAsg (eCall (F_blank_cell) (aCons (eGet (eGet (eLoc 3) (eVal (.int 0))) (eVal (.int 2))) (aNil))) (tSub (eLoc 3) (eVal (.int 0)))) (sNil)) (sNil)) (sCons (sIf (bAnd (bOf (eBin neA (eLoc 3) (eList (aNil)))) (bAnd (bOf (eBin eqA (eGet (eGet (eLoc 3) (eUn negA (eVal (.int 1)))) (eVal (.int 1))) (eVal (.int 2)))) (bVal true))) (sCons (sAsg (eCall (F_blank_cell) (aCons (eGet (eGet (eLoc 3) (eUn negA (eVal (.int 1)))) (eVal (.int 2))) (aNil))) (tSub (eLoc 3) (eUn negA (eVal (.int 1))))) (sNil)) (sNil)) (sCons (sRet (eLoc 3)) (sNil))))
noncomputable def F_line_slice : FM := defN 3 1 (m_line_slice)
noncomputable def m_line_codes : SM := sCons (sAsg (eCall fLen (aCons (eLoc 0) (aNil))) (tLoc 1)) (sCons (loopW (bAnd (bOf (eBin cGt (eLoc 1) (eVal (.int 0)))) (bAnd (bOf (eCall (F_is_blank) (aCons (eGet (eLoc 0) (eBin opSub (eLoc 1) (eVal (.int 1)))) (aNil)))) (bVal true))) (sCons (sAugSub 1 (eVal (.int 1))) (sNil)) 60) (sCons (sAsg (eList (aNil)) (tLoc 2)) (sCons (sFor false (iSeq (eSlice (eLoc 0) (eVal .none) (eLoc 1))) (tLoc 3) (sCons (sIf (bOf (eBin neA (eGet (eLoc 3) (eVal (.int 1))) (eVal (.int 0)))) (sCons (sExpr (eMethL fExtend (eLoc 2) (aCons (eIf (bOf (eBin neA (eGet (eLoc 3) (eVal (.int 0))) (eTup (aNil)))) (eGet (eLoc 3) (eVal (.int 0))) (eTup (aCons (eVal (.int 32)) (aNil)))) (aNil)))) (sNil)) (sNil)) (sNil))) (sCons (sRet (eLoc 2)) (sNil)))))
noncomputable def F_line_codes : FM := defN 1 3 (m_line_codes)
noncomputable def m_L_init : SM := sCons (sAsg (eCall (F_line_blanks) (aCons (eLoc 1) (aCons (eLoc 2) (aNil)))) (tAttrC 218 "cells" (eLoc 0))) (sCons (sAsg (eVal (.bool false)) (tAttrC 218 "is_wrapped" (eLoc 0))) (sCons (sAsg (eGet (eVal v_LINE_SIZES) (eVal (.int 0))) (tAttrC 218 "size" (eLoc 0))) (sNil)))
noncomputable def F_L_init : FM := defN 3 0 (m_L_init)
noncomputable def F_Line : FM := fMake 218 F_L_init
noncomputable def m_L_part : SM := sCons (sExpr (eCall (F_line_part) (aCons (eAttr 218 "cells" (eLoc 0)) (aCons (eLoc 1) (aNil))))) (sNil)
noncomputable def F_L_part : FM := defN 2 0 (m_L_part)
noncomputable def m_L_put : SM := sCons (sIf (bOr (bNot (bOf (eChain cLe cLt (eVal (.int 0)) (eLoc 1) (eCall fLen (aCons (eAttr 218 "cells" (eLoc 0)) (aNil)))))) (bOr (bOf (eBin eqA (eGet (eLoc 2) (eVal (.int 1))) (eVal (.int 0)))) (bVal false))) (sCons (sRet (eVal .none)) (sNil)) (sNil)) (sCons (sIf (bAnd (bOf (eBin eqA (eGet (eLoc 2) (eVal (.int 1))) (eVal (.int 2)))) (bAnd (bOf (eBin eqA (eBin opAdd (eLoc 1) (eVal (.int 1))) (eCall fLen (aCons (eAttr 218 "cells" (eLoc 0)) (aNil))))) (bVal true))) (sCons (sAsg (eCall (F_blank_cell) (aCons (eGet (eLoc 2) (eVal (.int 2))) (aNil))) (tLoc 2)) (sNil)) (sNil)) (sCons (sExpr (eMeth 218 "part" F_L_part (eLoc 0) (aCons (eLoc 1) (aNil)))) (sCons (sExpr (eMeth 218 "part" F_L_part (eLoc 0) (aCons (eBin opAdd (eLoc 1) (eGet (eLoc 2) (eVal (.int 1)))) (aNil)))) (sCons (sAsg (eLoc 2) (tSub (eAttr 218 "cells" (eLoc 0)) (eLoc 1))) (sCons (sIf (bOf (eBin eqA (eGet (eLoc 2) (eVal (.int 1))) (eVal (.int 2)))) (sCons (sAsg (eCall (F_right_half) (aCons (eLoc 2) (aNil))) (tSub (eAttr 218 "cells" (eLoc 0)) (eBin opAdd (eLoc 1) (eVal (.int 1))))) (sNil)) (sNil)) (sNil))))))
noncomputable def F_L_put : FM := defN 3 0 (m_L_put)
noncomputable def m_L_put_cells : SM := sCons (sIf (bOr (bNot (bOf (eChain cLe cLt (eVal (.int 0)) (eLoc 1) (eCall fLen (aCons (eAttr 218 "cells" (eLoc 0)) (aNil)))))) (bOr (bOf (eBin eqA (eLoc 2) (eList (aNil)))) (bVal false))) (sCons (sRet (eVal .none)) (sNil)) (sNil)) (sCons (sAsg (eCall (F_line_slice) (aCons (eLoc 2) (aCons (eVal (.int 0)) (aCons (eBin opSub (eBin opSub (eCall fLen (aCons (eAttr 218 "cells" (eLoc 0)) (aNil))) (eLoc 1)) (eVal (.int 1))) (aNil))))) (tLoc 3)) (sCons (sExpr (eMeth 218 "part" F_L_part (eLoc 0) (aCons (eLoc 1) (aNil)))) (sCons (sExpr (eMeth 218 "part" F_L_part (eLoc 0) (aCons (eBin opAdd (eLoc 1) (eCall fLen (aCons (eLoc 3) (aNil)))) (aNil)))) (sCons (sAsg (eLoc 3) (tSlice (eAttr 218 "cells" (eLoc 0)) (eLoc 1) (eBin opAdd (eLoc 1) (eCall fLen (aCons (eLoc 3) (aNil)))))) (sNil)))))
noncomputable def F_L_put_cells : FM := defN 3 1 (m_L_put_cells)
noncomputable def m_L_erase : SM := sCons (sAsg (eTup (aCons (eCall fMax (aCons (eVal (.int 0)) (aCons (eLoc 1) (aNil)))) (aCons (eCall fMin (aCons (eLoc 2) (aCons (eBin opSub (eCall fLen (aCons (eAttr 218 "cells" (eLoc 0)) (aNil))) (eVal (.int 1))) (aNil)))) (aNil)))) (tSwap 2 (tCons (tLoc 2) (tCons (tLoc 1) (tNil))))) (sCons (sIf (bOf (eBin cGt (eLoc 1) (eLoc 2))) (sCons (sRet (eVal .none)) (sNil)) (sNil)) (sCons (sFor false (iSeq (eTup (aCons (eLoc 1) (aCons (eBin opAdd (eLoc 2) (eVal (.int 1))) (aNil))))) (tLoc 5) (sCons (sIf (bAnd (bOf (eBin cLt (eLoc 5) (eCall fLen (aCons (eAttr 218 "cells" (eLoc 0)) (aNil))))) (bAnd (bNot (bAnd (bOf (eLoc 4)) (bAnd (bOf (eGet (eGet (eAttr 218 "cells" (eLoc 0)) (eLoc 5)) (eVal (.int 3)))) (bVal true)))) (bVal true))) (sCons (sExpr (eMeth 218 "part" F_L_part (eLoc 0) (aCons (eLoc 5) (aNil)))) (sNil)) (sNil)) (sNil))) (sCons (sFor false (iRange (aCons (eLoc 1) (aCons (eBin opAdd (eLoc 2) (eVal (.int 1))) (aNil)))) (tLoc 6) (sCons (sIf (bNot (bAnd (bOf (eLoc 4)) (bAnd (bOf (eGet (eGet (eAttr 218 "cells" (eLoc 0)) (eLoc 6)) (eVal (.int 3)))) (bVal true)))) (sCons (sAsg (eCall (F_blank_cell) (aCons (eLoc 3) (aNil))) (tSub (eAttr 218 "cells" (eLoc 0)) (eLoc 6))) (sNil)) (sNil)) (sNil))) (sCons (sIf (bOf (eBin eqA (eLoc 2) (eBin opSub (eCall fLen (aCons (eAttr 218 "cells" (eLoc 0)) (aNil))) (eVal (.int 1))))) (sCons (sAsg (eVal (.bool false)) (tAttrC 218 "is_wrapped" (eLoc 0))) (sNil)) (sNil)) (sNil)))))
noncomputable def F_L_erase : FM := defN 5 2 (m_L_erase)
noncomputable def m_L_shift : SM := sCons (sAsg (eCall fMin (aCons (eLoc 3) (aCons (eBin opSub (eCall fLen (aCons (eAttr 218 "cells" (eLoc 0)) (aNil))) (eVal (.int 1))) (aNil)))) (tLoc 3)) (sCons (sIf (bNot (bOf (eChain cLe cLe (eVal (.int 0)) (eLoc 1) (eLoc 3)))) (sCons (sRet (eVal .none)) (sNil)) (sNil)) (sCons (sAsg (eCall (F_clamp) (aCons (eLoc 2) (aCons (eVal (.int 0)) (aCons (eBin opAdd (eBin opSub (eLoc 3) (eLoc 1)) (eVal (.int 1))) (aNil))))) (tLoc 2)) (sCons (sAsg (eIf (bOf (eLoc 5)) (eTup (aCons (eBin opAdd (eLoc 1) (eLoc 2)) (aCons (eBin opAdd (eLoc 3) (eVal (.int 1))) (aNil)))) (eTup (aCons (eLoc 1) (aCons (eBin opSub (eBin opAdd (eLoc 3) (eVal (.int 1))) (eLoc 2)) (aNil))))) (tTupN 2 (tCons (tLoc 6) (tCons (tLoc 7) (tNil))))) (sCons (sFor false (iSeq (eTup (aCons (eLoc 1) (aCons (eBin opAdd (eLoc 3) (eVal (.int 1))) (aCons (eLoc 6) (aCons (eLoc 7) (aNil))))))) (tLoc 8) (sCons (sExpr (eMeth 218 "part" F_L_part (eLoc 0) (aCons (eLoc 8) (aNil)))) (sNil))) (sCons (sAsg (eTup (aCons (eSlice (eAttr 218 "cells" (eLoc 0)) (eLoc 6) (eLoc 7)) (aCons (eCall (F_line_blanks) (aCons (eLoc 2) (aCons (eLoc 4) (aNil)))) (aNil)))) (tSwap 2 (tCons (tLoc 10) (tCons (tLoc 9) (tNil))))) (sCons (sAsg (eIf (bOf (eLoc 5)) (eBin opAdd (eLoc 9) (eLoc 10)) (eBin opAdd (eLoc 10) (eLoc 9))) (tSlice (eAttr 218 "cells" (eLoc 0)) (eLoc 1) (eBin opAdd (eLoc 3) (eVal (.int 1))))) (sNil)))))))
noncomputable def F_L_shift : FM := defN 6 5 (m_L_shift)
noncomputable def m_L_insert : SM := sCons (sExpr (eMeth 218 "shift" F_L_shift (eLoc 0) (aCons (eLoc 1) (aCons (eLoc 2) (aCons (eLoc 3) (aCons (eLoc 4) (aCons (eVal (.bool false)) (aNil)))))))) (sNil)
noncomputable def F_L_insert : FM := defN 5 0 (m_L_insert)
noncomputable def m_L_delete : SM := sCons (sExpr (eMeth 218 "shift" F_L_shift (eLoc 0) (aCons (eLoc 1) (aCons (eLoc 2) (aCons (eLoc 3) (aCons (eLoc 4) (aCons (eVal (.bool true)) (aNil)))))))) (sNil)
noncomputable def F_L_delete : FM := defN 5 0 (m_L_delete)
noncomputable def m_L_fill : SM := sCons (sFor false (iRange (aCons (eCall fMax (aCons (eVal (.int 0)) (aCons (eLoc 1) (aNil)))) (aCons (eBin opAdd (eCall fMin (aCons (eLoc 2) (aCons (eBin opSub (eCall fLen (aCons (eAttr 218 "cells" (eLoc 0)) (aNil))) (eVal (.int 1))) (aNil)))) (eVal (.int 1))) (aNil)))) (tLoc 4) (sCons (sExpr (eMeth 218 "put" F_L_put (eLoc 0) (aCons (eLoc 4) (aCons (eLoc 3) (aNil))))) (sNil))) (sNil)
noncomputable def F_L_fill : FM := defN 4 1 (m_L_fill)
noncomputable def m_L_copy : SM := sCons (sAsg (eCall (F_Line) (aCons (eVal (.int 0)) (aCons (eVal v_PLAIN) (aNil)))) (tLoc 1)) (sCons (sAsg (eCall fList (aCons (eAttr 218 "cells" (eLoc 0)) (aNil))) (tAttrC 218 "cells" (eLoc 1))) (sCons (sAsg (eAttr 218 "is_wrapped" (eLoc 0)) (tAttrC 218 "is_wrapped" (eLoc 1))) (sCons (sAsg (eAttr 218 "size" (eLoc 0)) (tAttrC 218 "size" (eLoc 1))) (sCons (sRet (eLoc 1)) (sNil)))))
noncomputable def F_L_copy : FM := defN 1 1 (m_L_copy)
noncomputable def m_L_codes : SM := sCons (sRet (eCall (F_line_codes) (aCons (eCall (F_line_slice) (aCons (eAttr 218 "cells" (eLoc 0)) (aCons (eLoc 1) (aCons (eIf (bOf (eBin isA (eLoc 2) (eVal .none))) (eBin opSub (eCall fLen (aCons (eAttr 218 "cells" (eLoc 0)) (aNil))) (eVal (.int 1))) (eLoc 2)) (aNil))))) (aNil)))) (sNil)
noncomputable def fill_codes (l : List AV) : List AV := if l.length = 1 then l ++ [.int 0, .none] else l
noncomputable def fillV_codes (l : List Value) : List Value := if l.length = 1 then l ++ [.int 0 425, .none] else l
noncomputable def F_L_codes : FM := defM 3 0 fill_codes m_L_codes
noncomputable def m_L_used : SM := sCons (sAsg (eCall fLen (aCons (eAttr 218 "cells" (eLoc 0)) (aNil))) (tLoc 1)) (sCons (loopW (bAnd (bOf (eBin cGt (eLoc 1) (eVal (.int 0)))) (bAnd (bOf (eCall (F_is_plain_blank) (aCons (eGet (eAttr 218 "cells" (eLoc 0)) (eBin opSub (eLoc 1) (eVal (.int 1)))) (aNil)))) (bVal true))) (sCons (sAugSub 1 (eVal (.int 1))) (sNil)) 60) (sCons (sRet (eLoc 1)) (sNil)))
noncomputable def F_L_used : FM := defN 1 1 (m_L_used)
noncomputable def m_L_resized : SM := sCons (sAsg (eMeth 218 "copy" F_L_copy (eLoc 0) (aNil)) (tLoc 3)) (sCons (sIf (bOf (eBin cLt (eLoc 1) (eCall fLen (aCons (eAttr 218 "cells" (eLoc 3)) (aNil))))) (sCons (sAsg (eCall (F_line_slice) (aCons (eAttr 218 "cells" (eLoc 3)) (aCons (eVal (.int 0)) (aCons (eBin opSub (eLoc 1) (eVal (.int 1))) (aNil))))) (tAttrC 218 "cells" (eLoc 3))) (sNil)) (sNil)) (sCons (sAsg (eBin opAdd (eAttr 218 "cells" (eLoc 3)) (eCall (F_line_blanks) (aCons (eBin opSub (eLoc 1) (eCall fLen (aCons (eAttr 218 "cells" (eLoc 3)) (aNil)))) (aCons (eLoc 2) (aNil))))) (tAttrC 218 "cells" (eLoc 3))) (sCons (sAsg (eAnd (eAttr 218 "is_wrapped" (eLoc 0)) (eBin eqA (eLoc 1) (eCall fLen (aCons (eAttr 218 "cells" (eLoc 0)) (aNil))))) (tAttrC 218 "is_wrapped" (eLoc 3))) (sCons (sRet (eLoc 3)) (sNil)))))
noncomputable def F_L_resized : FM := defN 3 1 (m_L_resized)
noncomputable def m_L_equals : SM := sCons (sRet (eBin eqA (eTup (aCons (eAttr 218 "cells" (eLoc 0)) (aCons (eAttr 218 "is_wrapped" (eLoc 0)) (aCons (eAttr 218 "size" (eLoc 0)) (aNil))))) (eTup (aCons (eAttr 218 "cells" (eLoc 1)) (aCons (eAttr 218 "is_wrapped" (eLoc 1)) (aCons (eAttr 218 "size" (eLoc 1)) (aNil))))))) (sNil)
noncomputable def F_L_equals : FM := defN 2 0 (m_L_equals)
noncomputable def m_law_deck (sa : Addr) (sl : List Int) : SM := sCons (sAsg (eTup (aCons (eComp (iSeq (eSliceRaw sa sl (eLoc 0) (eVal .none) (eVal (.int 40)))) (bVal true) (eCall fInt (aCons (eLoc 0) (aNil))) []) (aCons (eVal (.int 11)) (aNil)))) (tSwap 2 (tCons (tLoc 2) (tCons (tLoc 1) (tNil))))) (sCons (sFor false (iSeq (eLoc 1)) (tLoc 3) (sCons (sAsg (eBin opMod (eBin opAdd (eBin opMul (eLoc 2) (eVal (.int 31))) (eLoc 3)) (eVal (.int 1000003))) (tLoc 2)) (sNil))) (sCons (sRet (eDict (pCons "cells" (eRev (eLoc 1)) (pCons "mixed" (eLoc 2) (pNil))))) (sNil)))
noncomputable def F_law_deck (sa : Addr) (sl : List Int) : FM := defN 1 3 (m_law_deck sa sl)
noncomputable def m_law_draw : SM := sCons (sIf (bOf (eBin neA (eGet (eLoc 0) (eVal (.str "cells"))) (eList (aNil)))) (sCons (sRet (eBin opMod (eMethL fPop (eGet (eLoc 0) (eVal (.str "cells"))) (aNil)) (eLoc 1))) (sNil)) (sNil)) (sCons (sAsg (eBin opMod (eBin opAdd (eBin opMul (eGet (eLoc 0) (eVal (.str "mixed"))) (eVal (.int 16807))) (eVal (.int 29))) (eVal (.int 2147483647))) (tSub (eLoc 0) (eVal (.str "mixed")))) (sCons (sRet (eBin opMod (eBin opDiv (eGet (eLoc 0) (eVal (.str "mixed"))) (eVal (.int 64))) (eLoc 1))) (sNil)))
noncomputable def F_law_draw : FM := defN 2 0 (m_law_draw)
noncomputable def m_law_blank : SM := sCons (sRet (eTup (aCons (eTup (aNil)) (aCons (eVal (.int 1)) (aCons (eTup (aCons (eVal (.int 0)) (aCons (eUn negA (eVal (.int 1))) (aCons (eGet (eLoc 0) (eVal (.int 2))) (aCons (eUn negA (eVal (.int 1))) (aCons (eVal (.int 0)) (aNil))))))) (aCons (eVal (.bool false)) (aCons (eVal (.int 0)) (aNil)))))))) (sNil)
noncomputable def F_law_blank : FM := defN 1 0 (m_law_blank)
noncomputable def m_law_sign : SM := sCons (sAsg (eBin opAdd (eGet (eLoc 1) (eVal (.str "signs"))) (eVal (.int 1))) (tSub (eLoc 1) (eVal (.str "signs")))) (sCons (sAsg (eTup (aCons (eGet (eVal v_law_pens) (eCall (F_law_draw) (aCons (eLoc 0) (aCons (eVal (.int 2)) (aNil))))) (aCons (eBin opAdd (eVal (.int 1)) (eCall (F_law_draw) (aCons (eLoc 0) (aCons (eVal (.int 2)) (aNil))))) (aNil)))) (tSwap 2 (tCons (tLoc 3) (tCons (tLoc 2) (tNil))))) (sCons (sAsg (eTup (aCons (eTup (aCons (eBin opAdd (eVal (.int 97)) (eCall (F_law_draw) (aCons (eLoc 0) (aCons (eVal (.int 3)) (aNil))))) (aNil))) (aCons (eLoc 3) (aCons (eLoc 2) (aCons (eBin eqA (eCall (F_law_draw) (aCons (eLoc 0) (aCons (eVal (.int 4)) (aNil)))) (eVal (.int 3))) (aCons (eGet (eLoc 1) (eVal (.str "signs"))) (aNil))))))) (tLoc 4)) (sCons (sRet (eBin opAdd (eList (aCons (eLoc 4) (aNil))) (eBin opMul (eList (aCons (eTup (aCons (eTup (aNil)) (aCons (eVal (.int 0)) (aCons (eLoc 2) (aCons (eGet (eLoc 4) (eVal (.int 3))) (aCons (eGet (eLoc 1) (eVal (.str "signs"))) (aNil))))))) (aNil))) (eBin opSub (eLoc 3) (eVal (.int 1)))))) (sNil))))
noncomputable def F_law_sign : FM := defN 2 3 (m_law_sign)
noncomputable def m_law_mended : SM := sCons (sAsg (eList (aNil)) (tLoc 1)) (sCons (sFor true (iEnum (aCons (eLoc 0) (aNil))) (tTupN 2 (tCons (tLoc 2) (tCons (tLoc 3) (tNil)))) (sCons (sAsg (eTup (aCons (eIf (bOf (eBin cGt (eLoc 2) (eVal (.int 0)))) (eGet (eLoc 0) (eBin opSub (eLoc 2) (eVal (.int 1)))) (eVal .none)) (aCons (eIf (bOf (eBin cLt (eBin opAdd (eLoc 2) (eVal (.int 1))) (eCall fLen (aCons (eLoc 0) (aNil))))) (eGet (eLoc 0) (eBin opAdd (eLoc 2) (eVal (.int 1)))) (eVal .none)) (aNil)))) (tSwap 2 (tCons (tLoc 5) (tCons (tLoc 4) (tNil))))) (sCons (sAsg (eAnd (eBin eqA (eGet (eLoc 3) (eVal (.int 1))) (eVal (.int 2))) (eOr (eBin isA (eLoc 5) (eVal .none)) (eOr (eBin neA (eGet (eLoc 5) (eVal (.int 1))) (eVal (.int 0))) (eBin neA (eGet (eLoc 5) (eVal (.int 4))) (eGet (eLoc 3) (eVal (.int 4))))))) (tLoc 6)) (sCons (sAsg (eAnd (eBin eqA (eGet (eLoc 3) (eVal (.int 1))) (eVal (.int 0))) (eOr (eBin isA (eLoc 4) (eVal .none)) (eOr (eBin neA (eGet (eLoc 4) (eVal (.int 1))) (eVal (.int 2))) (eBin neA (eGet (eLoc 4) (eVal (.int 4))) (eGet (eLoc 3) (eVal (.int 4))))))) (tLoc 7)) (sCons (sExpr (eMethL fAppend (eLoc 1) (aCons (eIf (bOr (bOf (eLoc 6)) (bOr (bOf (eLoc 7)) (bVal false))) (eCall (F_law_blank) (aCons (eGet (eLoc 3) (eVal (.int 2))) (aNil))) (eLoc 3)) (aNil)))) (sNil)))))) (sCons (sRet (eLoc 1)) (sNil)))
noncomputable def F_law_mended : FM := defN 1 7 (m_law_mended)
noncomputable def m_law_laid : SM := sCons (sAsg (eCall fList (aCons (eLoc 0) (aNil))) (tLoc 3)) (sCons (sFor true (iEnum (aCons (eLoc 2) (aNil))) (tTupN 2 (tCons (tLoc 4) (tCons (tLoc 5) (tNil)))) (sCons (sIf (bOf (eBin cLt (eBin opAdd (eLoc 1) (eLoc 4)) (eCall fLen (aCons (eLoc 3) (aNil))))) (sCons (sAsg (eLoc 5) (tSub (eLoc 3) (eBin opAdd (eLoc 1) (eLoc 4)))) (sNil)) (sNil)) (sNil))) (sCons (sRet (eCall (F_law_mended) (aCons (eLoc 3) (aNil)))) (sNil)))
noncomputable def F_law_laid : FM := defN 3 3 (m_law_laid)
noncomputable def m_law_erased : SM := sCons (sAsg (eList (aNil)) (tLoc 5)) (sCons (sFor true (iEnum (aCons (eLoc 0) (aNil))) (tTupN 2 (tCons (tLoc 6) (tCons (tLoc 7) (tNil)))) (sCons (sAsg (eOr (eUn notA (eChain cLe cLe (eLoc 1) (eLoc 6) (eLoc 2))) (eAnd (eLoc 4) (eGet (eLoc 7) (eVal (.int 3))))) (tLoc 8)) (sCons (sExpr (eMethL fAppend (eLoc 5) (aCons (eIf (bOf (eLoc 8)) (eLoc 7) (eCall (F_law_blank) (aCons (eLoc 3) (aNil)))) (aNil)))) (sNil)))) (sCons (sRet (eCall (F_law_mended) (aCons (eLoc 5) (aNil)))) (sNil)))
noncomputable def F_law_erased : FM := defN 5 4 (m_law_erased)
noncomputable def m_law_deed : SM := sCons (sAsg (eTup (aCons (eCall (F_law_draw) (aCons (eLoc 0) (aCons (eVal (.int 7)) (aNil)))) (aCons (eCall (F_law_draw) (aCons (eLoc 0) (aCons (eVal (.int 7)) (aNil)))) (aCons (eBin opSub (eVal (.int 5)) (eCall (F_law_draw) (aCons (eLoc 0) (aCons (eVal (.int 3)) (aNil))))) (aNil))))) (tSwap 3 (tCons (tLoc 6) (tCons (tLoc 5) (tCons (tLoc 4) (tNil)))))) (sCons (sAsg (eTup (aCons (eGet (eVal v_law_pens) (eCall (F_law_draw) (aCons (eLoc 0) (aCons (eVal (.int 2)) (aNil))))) (aCons (eBin opAdd (eVal (.int 1)) (eCall (F_law_draw) (aCons (eLoc 0) (aCons (eVal (.int 4)) (aNil))))) (aNil)))) (tSwap 2 (tCons (tLoc 8) (tCons (tLoc 7) (tNil))))) (sCons (sAsg (eCall fMin (aCons (eLoc 5) (aCons (eLoc 6) (aNil)))) (tLoc 9)) (sCons (sIf (bOf (eBin cLt (eLoc 4) (eVal (.int 3)))) (sCons (sAsg (eCall (F_law_sign) (aCons (eLoc 0) (aCons (eLoc 3) (aNil)))) (tLoc 10)) (sCons (sExpr (eMeth 218 "put" F_L_put (eLoc 1) (aCons (eLoc 5) (aCons (eTake (eGet (eLoc 10) (eVal (.int 0))) (eVal (.int 4))) (aNil))))) (sCons (sRet (eCall (F_law_laid) (aCons (eLoc 2) (aCons (eLoc 5) (aCons (eLoc 10) (aNil)))))) (sNil)))) (sNil)) (sCons (sIf (bOf (eBin eqA (eLoc 4) (eVal (.int 3)))) (sCons (sAsg (eBin opAdd (eCall (F_law_sign) (aCons (eLoc 0) (aCons (eLoc 3) (aNil)))) (eCall (F_law_sign) (aCons (eLoc 0) (aCons (eLoc 3) (aNil))))) (tLoc 10)) (sCons (sExpr (eMeth 218 "put_cells" F_L_put_cells (eLoc 1) (aCons (eLoc 9) (aCons (eComp (iSeq (eLoc 10)) (bVal true) (eTake (eLoc 0) (eVal (.int 4))) []) (aNil))))) (sCons (sRet (eCall (F_law_laid) (aCons (eLoc 2) (aCons (eLoc 9) (aCons (eLoc 10) (aNil)))))) (sNil)))) (sNil)) (sCons (sIf (bOf (eBin eqA (eLoc 4) (eVal (.int 4)))) (sCons (sAsg (eTup (aCons (eVal (.bool true)) (aCons (eBin cGt (eLoc 8) (eVal (.int 2))) (aNil)))) (tTupN 2 (tCons (tAttrC 218 "is_wrapped" (eLoc 1)) (tCons (tLoc 11) (tNil))))) (sCons (sExpr (eMeth 218 "erase" F_L_erase (eLoc 1) (aCons (eLoc 9) (aCons (eLoc 6) (aCons (eLoc 7) (aCons (eLoc 11) (aNil))))))) (sCons (sIf (bOr (bOf (eBin cLt (eLoc 6) (eVal (.int 5)))) (bOr (bNot (bOf (eLoc 11))) (bVal false))) (sCons (sAsg (eAnd (eGet (eLoc 3) (eVal (.str "is_right"))) (eBin eqA (eAttr 218 "is_wrapped" (eLoc 1)) (eBin cLt (eLoc 6) (eVal (.int 5))))) (tSub (eLoc 3) (eVal (.str "is_right")))) (sNil)) (sNil)) (sCons (sRet (eCall (F_law_erased) (aCons (eLoc 2) (aCons (eLoc 9) (aCons (eLoc 6) (aCons (eLoc 7) (aCons (eLoc 11) (aNil)))))))) (sNil))))) (sNil)) (sCons (sIf (bOf (eBin eqA (eLoc 4) (eVal (.int 5)))) (sCons (sAsg (eBin opMul (eList (aCons (eCall (F_law_blank) (aCons (eLoc 7) (aNil))) (aNil))) (eLoc 8)) (tLoc 12)) (sCons (sIf (bOf (eBin eqA (eBin opMod (eLoc 8) (eVal (.int 2))) (eVal (.int 0)))) (sCons (sExpr (eMeth 218 "insert" F_L_insert (eLoc 1) (aCons (eLoc 9) (aCons (eLoc 8) (aCons (eLoc 6) (aCons (eLoc 7) (aNil))))))) (sCons (sRet (eCall (F_law_mended) (aCons (eBin opAdd (eBin opAdd (eSlice (eLoc 2) (eVal .none) (eLoc 9)) (eSlice (eBin opAdd (eLoc 12) (eSlice (eLoc 2) (eLoc 9) (eBin opAdd (eLoc 6) (eVal (.int 1))))) (eVal .none) (eBin opSub (eBin opAdd (eLoc 6) (eVal (.int 1))) (eLoc 9)))) (eSlice (eLoc 2) (eBin opAdd (eLoc 6) (eVal (.int 1))) (eVal .none))) (aNil)))) (sNil))) (sNil)) (sCons (sExpr (eMeth 218 "delete" F_L_delete (eLoc 1) (aCons (eLoc 9) (aCons (eLoc 8) (aCons (eLoc 6) (aCons (eLoc 7) (aNil))))))) (sCons (sAsg (eBin opAdd (eSlice (eLoc 2) (eBin opAdd (eLoc 9) (eLoc 8)) (eBin opAdd (eLoc 6) (eVal (.int 1)))) (eLoc 12)) (tLoc 13)) (sCons (sRet (eCall (F_law_mended) (aCons (eBin opAdd (eBin opAdd (eSlice (eLoc 2) (eVal .none) (eLoc 9)) (eSlice (eLoc 13) (eVal .none) (eBin opSub (eBin opAdd (eLoc 6) (eVal (.int 1))) (eLoc 9)))) (eSlice (eLoc 2) (eBin opAdd (eLoc 6) (eVal (.int 1))) (eVal .none))) (aNil)))) (sNil)))))) (sNil)) (sCons (sExpr (eMeth 218 "fill" F_L_fill (eLoc 1) (aCons (eLoc 9) (aCons (eLoc 6) (aCons (eTup (aCons (eTup (aCons (eVal (.int 120)) (aNil))) (aCons (eVal (.int 1)) (aCons (eLoc 7) (aCons (eVal (.bool false)) (aNil)))))) (aNil)))))) (sCons (sRet (eCall (F_law_mended) (aCons (eBin opAdd (eBin opAdd (eSlice (eLoc 2) (eVal .none) (eLoc 9)) (eBin opMul (eList (aCons (eTup (aCons (eTup (aCons (eVal (.int 120)) (aNil))) (aCons (eVal (.int 1)) (aCons (eLoc 7) (aCons (eVal (.bool false)) (aCons (eVal (.int 0)) (aNil))))))) (aNil))) (eBin opSub (eBin opAdd (eLoc 6) (eVal (.int 1))) (eLoc 9)))) (eSlice (eLoc 2) (eBin opAdd (eLoc 6) (eVal (.int 1))) (eVal .none))) (aNil)))) (sNil)))))))))
noncomputable def F_law_deed : FM := defN 4 10 (m_law_deed)
noncomputable def m_law_is_so : SM := sCons (sAsg (eComp (iSeq (eAttr 218 "cells" (eLoc 0))) (bVal true) (eCall fTuple (aCons (eLoc 0) (aNil))) []) (tLoc 2)) (sCons (sIf (bOf (eBin neA (eComp (iSeq (eLoc 2)) (bVal true) (eTake (eLoc 0) (eVal (.int 3))) []) (eComp (iSeq (eLoc 1)) (bVal true) (eTake (eLoc 0) (eVal (.int 3))) []))) (sCons (sRet (eVal (.bool false))) (sNil)) (sNil)) (sCons (sRet (eBin eqA (eComp (iSeq (eLoc 2)) (bOf (eBin cGt (eGet (eLoc 0) (eVal (.int 1))) (eVal (.int 0)))) (eGet (eLoc 0) (eVal (.int 3))) []) (eComp (iSeq (eLoc 1)) (bOf (eBin cGt (eGet (eLoc 0) (eVal (.int 1))) (eVal (.int 0)))) (eGet (eLoc 0) (eVal (.int 3))) []))) (sNil)))
noncomputable def F_law_is_so : FM := defN 2 1 (m_law_is_so)
noncomputable def m_law_codes : SM := sCons (sAsg (eList (aNil)) (tLoc 1)) (sCons (sFor false (iSeq (eCall (F_law_mended) (aCons (eLoc 0) (aNil)))) (tLoc 2) (sCons (sExpr (eMethL fExtend (eLoc 1) (aCons (eIf (bOf (eBin neA (eGet (eLoc 2) (eVal (.int 0))) (eTup (aNil)))) (eCall fList (aCons (eGet (eLoc 2) (eVal (.int 0))) (aNil))) (eBin opMul (eList (aCons (eVal (.int 32)) (aNil))) (eCall fInt (aCons (eBin eqA (eGet (eLoc 2) (eVal (.int 1))) (eVal (.int 1))) (aNil))))) (aNil)))) (sNil))) (sCons (loopW (bAnd (bOf (eBin neA (eLoc 1) (eList (aNil)))) (bAnd (bOf (eBin eqA (eGet (eLoc 1) (eUn negA (eVal (.int 1)))) (eVal (.int 32)))) (bVal true))) (sCons (sExpr (eMethL fPop (eLoc 1) (aNil))) (sNil)) 60) (sCons (sRet (eLoc 1)) (sNil))))
noncomputable def F_law_codes : FM := defN 1 2 (m_law_codes)
noncomputable def m_law (sa : Addr) (sl : List Int) : SM := sCons (sAsg (eCall (F_law_deck sa sl) (aCons (eLoc 0) (aNil))) (tLoc 1)) (sCons (sAsg (eTup (aCons (eCall (F_Line) (aCons (eVal (.int 6)) (aCons (eGet (eVal v_law_pens) (eVal (.int 1))) (aNil)))) (aCons (eDict (pCons "signs" (eVal (.int 0)) (pCons "is_right" (eVal (.bool true)) (pNil)))) (aNil)))) (tSwap 2 (tCons (tLoc 3) (tCons (tLoc 2) (tNil))))) (sCons (sAsg (eBin opMul (eList (aCons (eCall (F_law_blank) (aCons (eGet (eVal v_law_pens) (eVal (.int 1))) (aNil))) (aNil))) (eVal (.int 6))) (tLoc 4)) (sCons (sIf (bNot (bOf (eCall (F_law_is_so) (aCons (eLoc 2) (aCons (eLoc 4) (aNil)))))) (sCons (sRet (eVal (.bool false))) (sNil)) (sNil)) (sCons (sAsg (eTup (aCons (eCall (F_Line) (aCons (eVal (.int 6)) (aCons (eGet (eVal v_law_pens) (eVal (.int 0))) (aNil)))) (aCons (eBin opMul (eList (aCons (eCall (F_law_blank) (aCons (eGet (eVal v_law_pens) (eVal (.int 0))) (aNil))) (aNil))) (eVal (.int 6))) (aNil)))) (tTupN 2 (tCons (tLoc 2) (tCons (tLoc 4) (tNil))))) (sCons (sFor false (iRange (aCons (eBin opAdd (eVal (.int 1)) (eCall (F_law_draw) (aCons (eLoc 1) (aCons (eVal (.int 6)) (aNil))))) (aNil))) (tLoc 5) (sCons (sAsg (eTup (aCons (eMeth 218 "copy" F_L_copy (eLoc 2) (aNil)) (aCons (eLoc 4) (aNil)))) (tSwap 2 (tCons (tLoc 7) (tCons (tLoc 6) (tNil))))) (sCons (sAsg (eCall (F_law_deed) (aCons (eLoc 1) (aCons (eLoc 2) (aCons (eLoc 4) (aCons (eLoc 3) (aNil)))))) (tLoc 4)) (sCons (sIf (bOr (bNot (bOf (eCall (F_law_is_so) (aCons (eLoc 2) (aCons (eLoc 4) (aNil)))))) (bOr (bNot (bOf (eCall (F_law_is_so) (aCons (eLoc 6) (aCons (eLoc 7) (aNil)))))) (bOr (bNot (bOf (eGet (eLoc 3) (eVal (.str "is_right"))))) (bVal false)))) (sCons (sRet (eVal (.bool false))) (sNil)) (sNil)) (sNil))))) (sCons (sAsg (eCall (F_law_draw) (aCons (eLoc 1) (aCons (eVal (.int 6)) (aNil)))) (tLoc 8)) (sCons (sAsg (eBin opAdd (eLoc 8) (eCall (F_law_draw) (aCons (eLoc 1) (aCons (eBin opSub (eVal (.int 6)) (eLoc 8)) (aNil))))) (tLoc 9)) (sCons (sAsg (eComp (iRange (aCons (eVal (.int 6)) (aNil))) (bOf (eBin neA (eTake (eGet (eLoc 1) (eLoc 0)) (eVal (.int 4))) (eTake (eCall (F_law_blank) (aCons (eGet (eVal v_law_pens) (eVal (.int 0))) (aNil))) (eVal (.int 4))))) (eBin opAdd (eLoc 0) (eVal (.int 1))) [("cells", 4)]) (tLoc 10)) (sCons (sIf (bOr (bOf (eBin neA (eCall fList (aCons (eMeth 218 "codes" F_L_codes (eLoc 2) (aNil)) (aNil))) (eCall (F_law_codes) (aCons (eLoc 4) (aNil))))) (bOr (bOf (eBin neA (eCall fList (aCons (eMeth 218 "codes" F_L_codes (eLoc 2) (aCons (eLoc 8) (aCons (eLoc 9) (aNil)))) (aNil))) (eCall (F_law_codes) (aCons (eSlice (eLoc 4) (eLoc 8) (eBin opAdd (eLoc 9) (eVal (.int 1)))) (aNil))))) (bVal false))) (sCons (sRet (eVal (.bool false))) (sNil)) (sNil)) (sCons (sIf (bOr (bOf (eBin neA (eMeth 218 "used" F_L_used (eLoc 2) (aNil)) (eIf (bOf (eBin neA (eLoc 10) (eList (aNil)))) (eGet (eLoc 10) (eUn negA (eVal (.int 1)))) (eVal (.int 0))))) (bOr (bNot (bOf (eMeth 218 "equals" F_L_equals (eMeth 218 "copy" F_L_copy (eLoc 2) (aNil)) (aCons (eLoc 2) (aNil))))) (bVal false))) (sCons (sRet (eVal (.bool false))) (sNil)) (sNil)) (sCons (sAsg (eTup (aCons (eBin opAdd (eVal (.int 3)) (eCall (F_law_draw) (aCons (eLoc 1) (aCons (eVal (.int 6)) (aNil))))) (aCons (eVal (.bool true)) (aNil)))) (tTupN 2 (tCons (tLoc 11) (tCons (tAttrC 218 "is_wrapped" (eLoc 2)) (tNil))))) (sCons (sAsg (eMeth 218 "resized" F_L_resized (eLoc 2) (aCons (eLoc 11) (aCons (eGet (eVal v_law_pens) (eVal (.int 1))) (aNil)))) (tLoc 12)) (sCons (sAsg (eCall (F_law_mended) (aCons (eSlice (eBin opAdd (eLoc 4) (eBin opMul (eList (aCons (eCall (F_law_blank) (aCons (eGet (eVal v_law_pens) (eVal (.int 1))) (aNil))) (aNil))) (eVal (.int 6)))) (eVal .none) (eLoc 11)) (aNil))) (tLoc 13)) (sCons (sRet (eAnd (eCall (F_law_is_so) (aCons (eLoc 12) (aCons (eLoc 13) (aNil)))) (eAnd (eBin eqA (eAttr 218 "is_wrapped" (eLoc 12)) (eBin eqA (eLoc 11) (eVal (.int 6)))) (eCall (F_law_is_so) (aCons (eLoc 2) (aCons (eLoc 4) (aNil))))))) (sNil)))))))))))))))
-- law: level 7, ns ['script', 'deck', 'line', 'w', 'cells', 'turn', 'was', 'old', 'left', 'right', 'used', 'columns', 'other', 'due']
end Mine
end
-- part WC
section
open PySem PySem.W PySem.Calls PyProof.Rows
set_option maxRecDepth 100000
set_option maxHeartbeats 4000000
namespace Mine
noncomputable abbrev XX (w : World) (hB : Heap) (mg mb : Str → Option Value) (sa : Addr) (sl : List Int) : Cx := ⟨PySem.Challenge.rw_og0243_01.row.prog, w, hB, Hd.hK w.params, mg, mb, sa, sl⟩
theorem g_max (P : Params) : nsIn (Hd.hK P) mainGlobals "max" = some none := by with_unfolding_all rfl
theorem g_min (P : Params) : nsIn (Hd.hK P) mainGlobals "min" = some none := by with_unfolding_all rfl
theorem g_len (P : Params) : nsIn (Hd.hK P) mainGlobals "len" = some none := by with_unfolding_all rfl
theorem g_int (P : Params) : nsIn (Hd.hK P) mainGlobals "int" = some none := by with_unfolding_all rfl
theorem g_list (P : Params) : nsIn (Hd.hK P) mainGlobals "list" = some none := by with_unfolding_all rfl
theorem g_tuple (P : Params) : nsIn (Hd.hK P) mainGlobals "tuple" = some none := by with_unfolding_all rfl
theorem g_range (P : Params) : nsIn (Hd.hK P) mainGlobals "range" = some none := by with_unfolding_all rfl
theorem g_enumerate (P : Params) : nsIn (Hd.hK P) mainGlobals "enumerate" = some none := by with_unfolding_all rfl
theorem g_clamp (P : Params) : nsIn (Hd.hK P) mainGlobals "clamp" = some (some (.ref 29)) := by with_unfolding_all rfl
theorem k_clamp (P : Params) : keepIn (Hd.hK P) (.ref 29) = true := by with_unfolding_all rfl
theorem g_erased_pen (P : Params) : nsIn (Hd.hK P) mainGlobals "erased_pen" = some (some (.ref 36)) := by with_unfolding_all rfl
theorem k_erased_pen (P : Params) : keepIn (Hd.hK P) (.ref 36) = true := by with_unfolding_all rfl
theorem g_blank_cell (P : Params) : nsIn (Hd.hK P) mainGlobals "blank_cell" = some (some (.ref 43)) := by with_unfolding_all rfl
theorem k_blank_cell (P : Params) : keepIn (Hd.hK P) (.ref 43) = true := by with_unfolding_all rfl
theorem g_is_blank (P : Params) : nsIn (Hd.hK P) mainGlobals "is_blank" = some (some (.ref 50)) := by with_unfolding_all rfl
theorem k_is_blank (P : Params) : keepIn (Hd.hK P) (.ref 50) = true := by with_unfolding_all rfl
theorem g_is_plain_blank (P : Params) : nsIn (Hd.hK P) mainGlobals "is_plain_blank" = some (some (.ref 57)) := by with_unfolding_all rfl
theorem k_is_plain_blank (P : Params) : keepIn (Hd.hK P) (.ref 57) = true := by with_unfolding_all rfl
theorem g_line_blanks (P : Params) : nsIn (Hd.hK P) mainGlobals "line_blanks" = some (some (.ref 65)) := by with_unfolding_all rfl
theorem k_line_blanks (P : Params) : keepIn (Hd.hK P) (.ref 65) = true := by with_unfolding_all rfl
theorem g_right_half (P : Params) : nsIn (Hd.hK P) mainGlobals "right_half" = some (some (.ref 72)) := by with_unfolding_all rfl
theorem k_right_half (P : Params) : keepIn (Hd.hK P) (.ref 72) = true := by with_unfolding_all rfl
theorem g_line_part (P : Params) : nsIn (Hd.hK P) mainGlobals "line_part" = some (some (.ref 79)) := by with_unfolding_all rfl
theorem k_line_part (P : Params) : keepIn (Hd.hK P) (.ref 79) = true := by with_unfolding_all rfl
theorem g_line_slice (P : Params) : nsIn (Hd.hK P) mainGlobals "line_slice" = some (some (.ref 86)) := by with_unfolding_all rfl
theorem k_line_slice (P : Params) : keepIn (Hd.hK P) (.ref 86) = true := by with_unfolding_all rfl
theorem g_line_codes (P : Params) : nsIn (Hd.hK P) mainGlobals "line_codes" = some (some (.ref 93)) := by with_unfolding_all rfl
theorem k_line_codes (P : Params) : keepIn (Hd.hK P) (.ref 93) = true := by with_unfolding_all rfl
theorem g_law_deck (P : Params) : nsIn (Hd.hK P) mainGlobals "_law_deck" = some (some (.ref 230)) := by with_unfolding_all rfl
theorem k_law_deck (P : Params) : keepIn (Hd.hK P) (.ref 230) = true := by with_unfolding_all rfl
theorem g_law_draw (P : Params) : nsIn (Hd.hK P) mainGlobals "_law_draw" = some (some (.ref 237)) := by with_unfolding_all rfl
theorem k_law_draw (P : Params) : keepIn (Hd.hK P) (.ref 237) = true := by with_unfolding_all rfl
theorem g_law_blank (P : Params) : nsIn (Hd.hK P) mainGlobals "_law_blank" = some (some (.ref 244)) := by with_unfolding_all rfl
theorem k_law_blank (P : Params) : keepIn (Hd.hK P) (.ref 244) = true := by with_unfolding_all rfl
theorem g_law_sign (P : Params) : nsIn (Hd.hK P) mainGlobals "_law_sign" = some (some (.ref 251)) := by with_unfolding_all rfl
theorem k_law_sign (P : Params) : keepIn (Hd.hK P) (.ref 251) = true := by with_unfolding_all rfl
theorem g_law_mended (P : Params) : nsIn (Hd.hK P) mainGlobals "_law_mended" = some (some (.ref 258)) := by with_unfolding_all rfl
theorem k_law_mended (P : Params) : keepIn (Hd.hK P) (.ref 258) = true := by with_unfolding_all rfl
theorem g_law_laid (P : Params) : nsIn (Hd.hK P) mainGlobals "_law_laid" = some (some (.ref 265)) := by with_unfolding_all rfl
theorem k_law_laid (P : Params) : keepIn (Hd.hK P) (.ref 265) = true := by with_unfolding_all rfl
theorem g_law_erased (P : Params) : nsIn (Hd.hK P) mainGlobals "_law_erased" = some (some (.ref 272)) := by with_unfolding_all rfl
theorem k_law_erased (P : Params) : keepIn (Hd.hK P) (.ref 272) = true := by with_unfolding_all rfl
theorem g_law_deed (P : Params) : nsIn (Hd.hK P) mainGlobals "_law_deed" = some (some (.ref 277)) := by with_unfolding_all rfl
theorem k_law_deed (P : Params) : keepIn (Hd.hK P) (.ref 277) = true := by with_unfolding_all rfl
theorem g_law_is_so (P : Params) : nsIn (Hd.hK P) mainGlobals "_law_is_so" = some (some (.ref 282)) := by with_unfolding_all rfl
theorem k_law_is_so (P : Params) : keepIn (Hd.hK P) (.ref 282) = true := by with_unfolding_all rfl
theorem g_law_codes (P : Params) : nsIn (Hd.hK P) mainGlobals "_law_codes" = some (some (.ref 289)) := by with_unfolding_all rfl
theorem k_law_codes (P : Params) : keepIn (Hd.hK P) (.ref 289) = true := by with_unfolding_all rfl
theorem g_Line (P : Params) : nsIn (Hd.hK P) mainGlobals "Line" = some (some (.ref 218)) := by with_unfolding_all rfl
theorem k_Line (P : Params) : keepIn (Hd.hK P) (.ref 218) = true := by with_unfolding_all rfl
theorem mg_part (P : Params) : plainGet (Hd.hK P) 218 "part" = true := by with_unfolding_all rfl
theorem mf_part (P : Params) : findIn (Hd.hK P) (.ref 218) "part" = some (some (.ref 129)) := by with_unfolding_all rfl
theorem mt_part (P : Params) : isFn (Hd.hK P) (.ref 129) = true := by with_unfolding_all rfl
theorem mk_part (P : Params) : keepIn (Hd.hK P) (.ref 129) = true := by with_unfolding_all rfl
theorem mg_put (P : Params) : plainGet (Hd.hK P) 218 "put" = true := by with_unfolding_all rfl
theorem mf_put (P : Params) : findIn (Hd.hK P) (.ref 218) "put" = some (some (.ref 136)) := by with_unfolding_all rfl
theorem mt_put (P : Params) : isFn (Hd.hK P) (.ref 136) = true := by with_unfolding_all rfl
theorem mk_put (P : Params) : keepIn (Hd.hK P) (.ref 136) = true := by with_unfolding_all rfl
theorem mg_put_cells (P : Params) : plainGet (Hd.hK P) 218 "put_cells" = true := by with_unfolding_all rfl
theorem mf_put_cells (P : Params) : findIn (Hd.hK P) (.ref 218) "put_cells" = some (some (.ref 143)) := by with_unfolding_all rfl
theorem mt_put_cells (P : Params) : isFn (Hd.hK P) (.ref 143) = true := by with_unfolding_all rfl
theorem mk_put_cells (P : Params) : keepIn (Hd.hK P) (.ref 143) = true := by with_unfolding_all rfl
theorem mg_erase (P : Params) : plainGet (Hd.hK P) 218 "erase" = true := by with_unfolding_all rfl
theorem mf_erase (P : Params) : findIn (Hd.hK P) (.ref 218) "erase" = some (some (.ref 151)) := by with_unfolding_all rfl
theorem mt_erase (P : Params) : isFn (Hd.hK P) (.ref 151) = true := by with_unfolding_all rfl
theorem mk_erase (P : Params) : keepIn (Hd.hK P) (.ref 151) = true := by with_unfolding_all rfl
theorem mg_shift (P : Params) : plainGet (Hd.hK P) 218 "shift" = true := by with_unfolding_all rfl
theorem mf_shift (P : Params) : findIn (Hd.hK P) (.ref 218) "shift" = some (some (.ref 158)) := by with_unfolding_all rfl
theorem mt_shift (P : Params) : isFn (Hd.hK P) (.ref 158) = true := by with_unfolding_all rfl
theorem mk_shift (P : Params) : keepIn (Hd.hK P) (.ref 158) = true := by with_unfolding_all rfl
theorem mg_insert (P : Params) : plainGet (Hd.hK P) 218 "insert" = true := by with_unfolding_all rfl
theorem mf_insert (P : Params) : findIn (Hd.hK P) (.ref 218) "insert" = some (some (.ref 165)) := by with_unfolding_all rfl
theorem mt_insert (P : Params) : isFn (Hd.hK P) (.ref 165) = true := by with_unfolding_all rfl
theorem mk_insert (P : Params) : keepIn (Hd.hK P) (.ref 165) = true := by with_unfolding_all rfl
theorem mg_delete (P : Params) : plainGet (Hd.hK P) 218 "delete" = true := by with_unfolding_all rfl
theorem mf_delete (P : Params) : findIn (Hd.hK P) (.ref 218) "delete" = some (some (.ref 172)) := by with_unfolding_all rfl
theorem mt_delete (P : Params) : isFn (Hd.hK P) (.ref 172) = true := by with_unfolding_all rfl
theorem mk_delete (P : Params) : keepIn (Hd.hK P) (.ref 172) = true := by with_unfolding_all rfl
theorem mg_fill (P : Params) : plainGet (Hd.hK P) 218 "fill" = true := by with_unfolding_all rfl
theorem mf_fill (P : Params) : findIn (Hd.hK P) (.ref 218) "fill" = some (some (.ref 179)) := by with_unfolding_all rfl
theorem mt_fill (P : Params) : isFn (Hd.hK P) (.ref 179) = true := by with_unfolding_all rfl
theorem mk_fill (P : Params) : keepIn (Hd.hK P) (.ref 179) = true := by with_unfolding_all rfl
theorem mg_copy (P : Params) : plainGet (Hd.hK P) 218 "copy" = true := by with_unfolding_all rfl
theorem mf_copy (P : Params) : findIn (Hd.hK P) (.ref 218) "copy" = some (some (.ref 186)) := by with_unfolding_all rfl
theorem mt_copy (P : Params) : isFn (Hd.hK P) (.ref 186) = true := by with_unfolding_all rfl
theorem mk_copy (P : Params) : keepIn (Hd.hK P) (.ref 186) = true := by with_unfolding_all rfl
theorem mg_codes (P : Params) : plainGet (Hd.hK P) 218 "codes" = true := by with_unfolding_all rfl
theorem mf_codes (P : Params) : findIn (Hd.hK P) (.ref 218) "codes" = some (some (.ref 194)) := by with_unfolding_all rfl
theorem mt_codes (P : Params) : isFn (Hd.hK P) (.ref 194) = true := by with_unfolding_all rfl
theorem mk_codes (P : Params) : keepIn (Hd.hK P) (.ref 194) = true := by with_unfolding_all rfl
theorem mg_used (P : Params) : plainGet (Hd.hK P) 218 "used" = true := by with_unfolding_all rfl
theorem mf_used (P : Params) : findIn (Hd.hK P) (.ref 218) "used" = some (some (.ref 201)) := by with_unfolding_all rfl
theorem mt_used (P : Params) : isFn (Hd.hK P) (.ref 201) = true := by with_unfolding_all rfl
theorem mk_used (P : Params) : keepIn (Hd.hK P) (.ref 201) = true := by with_unfolding_all rfl
theorem mg_resized (P : Params) : plainGet (Hd.hK P) 218 "resized" = true := by with_unfolding_all rfl
theorem mf_resized (P : Params) : findIn (Hd.hK P) (.ref 218) "resized" = some (some (.ref 208)) := by with_unfolding_all rfl
theorem mt_resized (P : Params) : isFn (Hd.hK P) (.ref 208) = true := by with_unfolding_all rfl
theorem mk_resized (P : Params) : keepIn (Hd.hK P) (.ref 208) = true := by with_unfolding_all rfl
theorem mg_equals (P : Params) : plainGet (Hd.hK P) 218 "equals" = true := by with_unfolding_all rfl
theorem mf_equals (P : Params) : findIn (Hd.hK P) (.ref 218) "equals" = some (some (.ref 215)) := by with_unfolding_all rfl
theorem mt_equals (P : Params) : isFn (Hd.hK P) (.ref 215) = true := by with_unfolding_all rfl
theorem mk_equals (P : Params) : keepIn (Hd.hK P) (.ref 215) = true := by with_unfolding_all rfl
theorem a_cells (P : Params) : plainGet (Hd.hK P) 218 "cells" = true ∧ hasDictIn (Hd.hK P) 218 = true ∧ findIn (Hd.hK P) (.ref 218) "cells" = some none := by refine ⟨?_, ?_, ?_⟩ <;> with_unfolding_all rfl
theorem s_cells (P : Params) : findIn (Hd.hK P) (.ref 218) "__setattr__" = some (some (.builtin "object.__setattr__")) ∧ plainOver (Hd.hK P) 218 = true ∧ takerIn (Hd.hK P) 218 "cells" = some none ∧ hasDictIn (Hd.hK P) 218 = true := by refine ⟨?_, ?_, ?_, ?_⟩ <;> with_unfolding_all rfl
theorem a_is_wrapped (P : Params) : plainGet (Hd.hK P) 218 "is_wrapped" = true ∧ hasDictIn (Hd.hK P) 218 = true ∧ findIn (Hd.hK P) (.ref 218) "is_wrapped" = some none := by refine ⟨?_, ?_, ?_⟩ <;> with_unfolding_all rfl
theorem s_is_wrapped (P : Params) : findIn (Hd.hK P) (.ref 218) "__setattr__" = some (some (.builtin "object.__setattr__")) ∧ plainOver (Hd.hK P) 218 = true ∧ takerIn (Hd.hK P) 218 "is_wrapped" = some none ∧ hasDictIn (Hd.hK P) 218 = true := by refine ⟨?_, ?_, ?_, ?_⟩ <;> with_unfolding_all rfl
theorem a_size (P : Params) : plainGet (Hd.hK P) 218 "size" = true ∧ hasDictIn (Hd.hK P) 218 = true ∧ findIn (Hd.hK P) (.ref 218) "size" = some none := by refine ⟨?_, ?_, ?_⟩ <;> with_unfolding_all rfl
theorem s_size (P : Params) : findIn (Hd.hK P) (.ref 218) "__setattr__" = some (some (.builtin "object.__setattr__")) ∧ plainOver (Hd.hK P) 218 = true ∧ takerIn (Hd.hK P) 218 "size" = some none ∧ hasDictIn (Hd.hK P) 218 = true := by refine ⟨?_, ?_, ?_, ?_⟩ <;> with_unfolding_all rfl
theorem g_NO_COLOUR (P : Params) : nsIn (Hd.hK P) mainGlobals "NO_COLOUR" = some (some (.int (-1) 197)) := by with_unfolding_all rfl
theorem g_BACK (P : Params) : nsIn (Hd.hK P) mainGlobals "BACK" = some (some (.int 2 202)) := by with_unfolding_all rfl
theorem g_PLAIN (P : Params) : nsIn (Hd.hK P) mainGlobals "PLAIN" = some (some (.ref 22)) := by with_unfolding_all rfl
theorem g_LINE_SIZES (P : Params) : nsIn (Hd.hK P) mainGlobals "LINE_SIZES" = some (some (.ref 58)) := by with_unfolding_all rfl
theorem g_law_pens (P : Params) : nsIn (Hd.hK P) mainGlobals "_law_pens" = some (some (.ref 225)) := by with_unfolding_all rfl
theorem hv_NO_COLOUR {K : Frag} (ρ : List Addr) (h : Heap) (_ : K.In h) : V ρ h v_NO_COLOUR (.int (-1) 197) := .int _ _
theorem hv_BACK {K : Frag} (ρ : List Addr) (h : Heap) (_ : K.In h) : V ρ h v_BACK (.int 2 202) := .int _ _
theorem hv_pen0 {P : Params} (ρ : List Addr) (h : Heap) (x : (Hd.hK P).In h) : V ρ h pen0 (.ref 223) := .tup (x 223 _ (by with_unfolding_all rfl)) (.cons (.int _ _) (.cons (.int _ _) (.cons (.int _ _) (.cons (.int _ _) (.cons (.int _ _) .nil)))))
theorem hv_pen1 {P : Params} (ρ : List Addr) (h : Heap) (x : (Hd.hK P).In h) : V ρ h pen1 (.ref 224) := .tup (x 224 _ (by with_unfolding_all rfl)) (.cons (.int _ _) (.cons (.int _ _) (.cons (.int _ _) (.cons (.int _ _) (.cons (.int _ _) .nil)))))
theorem hv_PLAIN {P : Params} (ρ : List Addr) (h : Heap) (x : (Hd.hK P).In h) : V ρ h v_PLAIN (.ref 22) := .tup (x 22 _ (by with_unfolding_all rfl)) (.cons (.int _ _) (.cons (.int _ _) (.cons (.int _ _) (.cons (.int _ _) (.cons (.int _ _) .nil)))))
theorem hv_LINE_SIZES {P : Params} (ρ : List Addr) (h : Heap) (x : (Hd.hK P).In h) : V ρ h v_LINE_SIZES (.ref 58) := .tup (x 58 _ (by with_unfolding_all rfl)) (.cons (.str _ _) (.cons (.str _ _) (.cons (.str _ _) (.cons (.str _ _) .nil))))
theorem hv_law_pens {P : Params} (ρ : List Addr) (h : Heap) (x : (Hd.hK P).In h) : V ρ h v_law_pens (.ref 225) := .tup (x 225 _ (by with_unfolding_all rfl)) (.cons (hv_pen0 ρ h x) (.cons (hv_pen1 ρ h x) .nil))
end Mine
end
-- part WD
section
open PySem PySem.W PySem.Calls PyProof.Rows
set_option maxRecDepth 100000
set_option maxHeartbeats 4000000
namespace Mine
section
variable {w : World} {hB : Heap} {mg mb : Str → Option Value} {sa : Addr} {sl : List Int}
theorem R_clamp : RF (XX w hB mg mb sa sl) 1 (.ref 29) (F_clamp) :=
  RF.fn (lv := 0) ["value", "least", "most"] [] (by with_unfolding_all rfl) (by with_unfolding_all rfl)
    (fun L => RS.cons (RX.ret (RE.callB (by rfl) (by rfl) (by decide) (g_max _) b_max RC.max (RArgs.cons (RE.loc 1 (by rfl) (by rfl)) (RArgs.cons (RE.callB (by rfl) (by rfl) (by decide) (g_min _) b_min RC.min (RArgs.cons (RE.loc 0 (by rfl) (by rfl)) (RArgs.cons (RE.loc 2 (by rfl) (by rfl)) (RArgs.nil)))) (RArgs.nil))))) (RS.nil))
    (by intro s vals _ hl; refine bt3 (fun x0 x1 x2 => ?_) vals hl; exact BindsTo.of_eq (by with_unfolding_all rfl))
theorem R_erased_pen : RF (XX w hB mg mb sa sl) 1 (.ref 36) (F_erased_pen) :=
  RF.fn (lv := 0) ["pen"] [] (by with_unfolding_all rfl) (by with_unfolding_all rfl)
    (fun L => RS.cons (RX.ret (RE.tuple (RArgs.cons (RE.int) (RArgs.cons (RE.glob (by rfl) (by rfl) (g_NO_COLOUR _) hv_NO_COLOUR) (RArgs.cons (RE.get (RE.loc 0 (by rfl) (by rfl)) (RE.glob (by rfl) (by rfl) (g_BACK _) hv_BACK)) (RArgs.cons (RE.glob (by rfl) (by rfl) (g_NO_COLOUR _) hv_NO_COLOUR) (RArgs.cons (RE.int) (RArgs.nil)))))))) (RS.nil))
    (by intro s vals _ hl; refine bt1 (fun x0 => ?_) vals hl; exact BindsTo.of_eq (by with_unfolding_all rfl))
theorem R_blank_cell : RF (XX w hB mg mb sa sl) 2 (.ref 43) (F_blank_cell) :=
  RF.fn (lv := 1) ["pen"] [] (by with_unfolding_all rfl) (by with_unfolding_all rfl)
    (fun L => RS.cons (RX.ret (RE.tuple (RArgs.cons (RE.tuple (RArgs.nil)) (RArgs.cons (RE.int) (RArgs.cons (RE.call (by rfl) (by rfl) (g_erased_pen _) (k_erased_pen _) (RC.le (RF.call R_erased_pen) (Nat.le_of_ble_eq_true rfl)) (RArgs.cons (RE.loc 0 (by rfl) (by rfl)) (RArgs.nil))) (RArgs.cons (RE.bool) (RArgs.nil))))))) (RS.nil))
    (by intro s vals _ hl; refine bt1 (fun x0 => ?_) vals hl; exact BindsTo.of_eq (by with_unfolding_all rfl))
theorem R_is_blank : RF (XX w hB mg mb sa sl) 1 (.ref 50) (F_is_blank) :=
  RF.fn (lv := 0) ["cell"] [] (by with_unfolding_all rfl) (by with_unfolding_all rfl)
    (fun L => RS.cons (RX.ret (RE.and_ (RE.cmp (RE.get (RE.loc 0 (by rfl) (by rfl)) (RE.int)) (RE.tuple (RArgs.nil)) ROp2.eq) (RE.one (RE.cmp (RE.get (RE.loc 0 (by rfl) (by rfl)) (RE.int)) (RE.int) ROp2.eq)))) (RS.nil))
    (by intro s vals _ hl; refine bt1 (fun x0 => ?_) vals hl; exact BindsTo.of_eq (by with_unfolding_all rfl))
theorem R_is_plain_blank : RF (XX w hB mg mb sa sl) 1 (.ref 57) (F_is_plain_blank) :=
  RF.fn (lv := 0) ["cell"] [] (by with_unfolding_all rfl) (by with_unfolding_all rfl)
    (fun L => RS.cons (RX.ret (RE.cmp (RE.loc 0 (by rfl) (by rfl)) (RE.tuple (RArgs.cons (RE.tuple (RArgs.nil)) (RArgs.cons (RE.int) (RArgs.cons (RE.glob (by rfl) (by rfl) (g_PLAIN _) hv_PLAIN) (RArgs.cons (RE.bool) (RArgs.nil)))))) ROp2.eq)) (RS.nil))
    (by intro s vals _ hl; refine bt1 (fun x0 => ?_) vals hl; exact BindsTo.of_eq (by with_unfolding_all rfl))
theorem R_line_blanks : RF (XX w hB mg mb sa sl) 3 (.ref 65) (F_line_blanks) :=
  RF.fn (lv := 2) ["many", "pen"] [] (by with_unfolding_all rfl) (by with_unfolding_all rfl)
    (fun L => RS.cons (RX.ret (RE.bin (RE.list (RArgs.cons (RE.call (by rfl) (by rfl) (g_blank_cell _) (k_blank_cell _) (RC.le (RF.call R_blank_cell) (Nat.le_of_ble_eq_true rfl)) (RArgs.cons (RE.loc 1 (by rfl) (by rfl)) (RArgs.nil))) (RArgs.nil))) (RE.callB (by rfl) (by rfl) (by decide) (g_max _) b_max RC.max (RArgs.cons (RE.int) (RArgs.cons (RE.loc 0 (by rfl) (by rfl)) (RArgs.nil)))) ROp2.mul)) (RS.nil))
    (by intro s vals _ hl; refine bt2 (fun x0 x1 => ?_) vals hl; exact BindsTo.of_eq (by with_unfolding_all rfl))
theorem R_right_half : RF (XX w hB mg mb sa sl) 1 (.ref 72) (F_right_half) :=
  RF.fn (lv := 0) ["cell"] [] (by with_unfolding_all rfl) (by with_unfolding_all rfl)
    (fun L => RS.cons (RX.ret (RE.tuple (RArgs.cons (RE.tuple (RArgs.nil)) (RArgs.cons (RE.int) (RArgs.cons (RE.get (RE.loc 0 (by rfl) (by rfl)) (RE.int)) (RArgs.cons (RE.get (RE.loc 0 (by rfl) (by rfl)) (RE.int)) (RArgs.nil))))))) (RS.nil))
    (by intro s vals _ hl; refine bt1 (fun x0 => ?_) vals hl; exact BindsTo.of_eq (by with_unfolding_all rfl))
theorem R_line_part : RF (XX w hB mg mb sa sl) 3 (.ref 79) (F_line_part) :=
  RF.fn (lv := 2) ["cells", "at"] [] (by with_unfolding_all rfl) (by with_unfolding_all rfl)
    (fun L => RS.cons (RX.if_ (RB.and_ (RB.chain (RE.int) (RE.loc 1 (by rfl) (by rfl)) (RE.callB (by rfl) (by rfl) (by decide) (g_len _) b_len RC.len (RArgs.cons (RE.loc 0 (by rfl) (by rfl)) (RArgs.nil))) ROp2.lt ROp2.lt) (RB.and_ (RB.cmp (RE.get (RE.get (RE.loc 0 (by rfl) (by rfl)) (RE.loc 1 (by rfl) (by rfl))) (RE.int)) (RE.int) ROp2.eq) (RB.andNil))) (RS.cons (RX.assign (RE.call (by rfl) (by rfl) (g_blank_cell _) (k_blank_cell _) (RC.le (RF.call R_blank_cell) (Nat.le_of_ble_eq_true rfl)) (RArgs.cons (RE.get (RE.get (RE.loc 0 (by rfl) (by rfl)) (RE.bin (RE.loc 1 (by rfl) (by rfl)) (RE.int) ROp2.sub)) (RE.int)) (RArgs.nil))) (RT.sub (RE.loc 0 (by rfl) (by rfl)) (RE.bin (RE.loc 1 (by rfl) (by rfl)) (RE.int) ROp2.sub))) (RS.cons (RX.assign (RE.call (by rfl) (by rfl) (g_blank_cell _) (k_blank_cell _) (RC.le (RF.call R_blank_cell) (Nat.le_of_ble_eq_true rfl)) (RArgs.cons (RE.get (RE.get (RE.loc 0 (by rfl) (by rfl)) (RE.loc 1 (by rfl) (by rfl))) (RE.int)) (RArgs.nil))) (RT.sub (RE.loc 0 (by rfl) (by rfl)) (RE.loc 1 (by rfl) (by rfl)))) (RS.nil))) (RS.nil)) (RS.nil))
    (by intro s vals _ hl; refine bt2 (fun x0 x1 => ?_) vals hl; exact BindsTo.of_eq (by with_unfolding_all rfl))
theorem R_line_slice : RF (XX w hB mg mb sa sl) 3 (.ref 86) (F_line_slice) :=
  RF.fn (lv := 2) ["cells", "left", "right"] ["found"] (by with_unfolding_all rfl) (by with_unfolding_all rfl)
    (fun L => RS.cons (RX.assign (RE.callT (by rfl) (by rfl) (by decide) (g_list _) b_list RC.list (RArgs.cons (RE.slice (RE.loc 0 (by rfl) (by rfl)) (RPart.yes (RE.callB (by rfl) (by rfl) (by decide) (g_max _) b_max RC.max (RArgs.cons (RE.int) (RArgs.cons (RE.loc 1 (by rfl) (by rfl)) (RArgs.nil))))) (RPart.yes (RE.callB (by rfl) (by rfl) (by decide) (g_max _) b_max RC.max (RArgs.cons (RE.int) (RArgs.cons (RE.bin (RE.loc 2 (by rfl) (by rfl)) (RE.int) ROp2.add) (RArgs.nil)))))) (RArgs.nil))) (RT.loc 3 (by rfl) (by rfl))) (RS.cons (RX.if_ (RB.and_ (RB.cmp (RE.loc 3 (by rfl) (by rfl)) (RE.list (RArgs.nil)) ROp2.ne) (RB.and_ (RB.cmp (RE.get (RE.get (RE.loc 3 (by rfl) (by rfl)) (RE.int)) (RE.int)) (RE.int) ROp2.eq) (RB.andNil))) (RS.cons (RX.assign (RE.call (by rfl) (by rfl) (g_blank_cell _) (k_blank_cell _) (RC.le (RF.call R_blank_cell) (Nat.le_of_ble_eq_true rfl)) (RArgs.cons (RE.get (RE.get (RE.loc 3 (by rfl) (by rfl)) (RE.int)) (RE.int)) (RArgs.nil))) (RT.sub (RE.loc 3 (by rfl) (by rfl)) (RE.int))) (RS.nil)) (RS.nil)) (RS.cons (RX.if_ (RB.and_ (RB.cmp (RE.loc 3 (by rfl) (by rfl)) (RE.list (RArgs.nil)) ROp2.ne) (RB.and_ (RB.cmp (RE.get (RE.get (RE.loc 3 (by rfl) (by rfl)) (RE.un (RE.int) ROp1.neg)) (RE.int)) (RE.int) ROp2.eq) (RB.andNil))) (RS.cons (RX.assign (RE.call (by rfl) (by rfl) (g_blank_cell _) (k_blank_cell _) (RC.le (RF.call R_blank_cell) (Nat.le_of_ble_eq_true rfl)) (RArgs.cons (RE.get (RE.get (RE.loc 3 (by rfl) (by rfl)) (RE.un (RE.int) ROp1.neg)) (RE.int)) (RArgs.nil))) (RT.sub (RE.loc 3 (by rfl) (by rfl)) (RE.un (RE.int) ROp1.neg))) (RS.nil)) (RS.nil)) (RS.cons (RX.ret (RE.loc 3 (by rfl) (by rfl))) (RS.nil)))))
    (by intro s vals _ hl; refine bt3 (fun x0 x1 x2 => ?_) vals hl; exact BindsTo.of_eq (by with_unfolding_all rfl))
theorem R_line_codes : RF (XX w hB mg mb sa sl) 2 (.ref 93) (F_line_codes) :=
  RF.fn (lv := 1) ["cells"] ["last", "found", "cell"] (by with_unfolding_all rfl) (by with_unfolding_all rfl)
    (fun L => RS.cons (RX.assign (RE.callB (by rfl) (by rfl) (by decide) (g_len _) b_len RC.len (RArgs.cons (RE.loc 0 (by rfl) (by rfl)) (RArgs.nil))) (RT.loc 1 (by rfl) (by rfl))) (RS.cons (RX.while_ 60 (RB.and_ (RB.cmp (RE.loc 1 (by rfl) (by rfl)) (RE.int) ROp2.gt) (RB.and_ (RB.plain (RE.call (by rfl) (by rfl) (g_is_blank _) (k_is_blank _) (RC.le (RF.call R_is_blank) (Nat.le_of_ble_eq_true rfl)) (RArgs.cons (RE.get (RE.loc 0 (by rfl) (by rfl)) (RE.bin (RE.loc 1 (by rfl) (by rfl)) (RE.int) ROp2.sub)) (RArgs.nil)))) (RB.andNil))) (RS.cons (RX.augSub 1 (by rfl) (by rfl) (RE.int)) (RS.nil))) (RS.cons (RX.assign (RE.list (RArgs.nil)) (RT.loc 2 (by rfl) (by rfl))) (RS.cons (RX.for_ (RI.seq (RE.slice (RE.loc 0 (by rfl) (by rfl)) (RPart.no) (RPart.yes (RE.loc 1 (by rfl) (by rfl))))) (RT.loc 3 (by rfl) (by rfl)) (RS.cons (RX.if_ (RB.cmp (RE.get (RE.loc 3 (by rfl) (by rfl)) (RE.int)) (RE.int) ROp2.ne) (RS.cons (RX.expr (RE.methL (RE.loc 2 (by rfl) (by rfl)) PySem.F.slot_list_extend (by rfl) RC.extend (RArgs.cons (RE.if_ (RB.cmp (RE.get (RE.loc 3 (by rfl) (by rfl)) (RE.int)) (RE.tuple (RArgs.nil)) ROp2.ne) (RE.get (RE.loc 3 (by rfl) (by rfl)) (RE.int)) (RE.tuple (RArgs.cons (RE.int) (RArgs.nil)))) (RArgs.nil)) (by with_unfolding_all rfl))) (RS.nil)) (RS.nil)) (RS.nil))) (RS.cons (RX.ret (RE.loc 2 (by rfl) (by rfl))) (RS.nil))))))
    (by intro s vals _ hl; refine bt1 (fun x0 => ?_) vals hl; exact BindsTo.of_eq (by with_unfolding_all rfl))
theorem R_L_init : RF (XX w hB mg mb sa sl) 4 (.ref 107) (F_L_init) :=
  RF.fn (lv := 3) ["self", "columns", "pen"] [] (by with_unfolding_all rfl) (by with_unfolding_all rfl)
    (fun L => RS.cons (RX.assign (RE.call (by rfl) (by rfl) (g_line_blanks _) (k_line_blanks _) (RC.le (RF.call R_line_blanks) (Nat.le_of_ble_eq_true rfl)) (RArgs.cons (RE.loc 1 (by rfl) (by rfl)) (RArgs.cons (RE.loc 2 (by rfl) (by rfl)) (RArgs.nil)))) (RT.attrC (RE.loc 0 (by rfl) (by rfl)) (s_cells _))) (RS.cons (RX.assign (RE.bool) (RT.attrC (RE.loc 0 (by rfl) (by rfl)) (s_is_wrapped _))) (RS.cons (RX.assign (RE.get (RE.glob (by rfl) (by rfl) (g_LINE_SIZES _) hv_LINE_SIZES) (RE.int)) (RT.attrC (RE.loc 0 (by rfl) (by rfl)) (s_size _))) (RS.nil))))
    (by intro s vals _ hl; refine bt3 (fun x0 x1 x2 => ?_) vals hl; exact BindsTo.of_eq (by with_unfolding_all rfl))
theorem R_Line : RF (XX w hB mg mb sa sl) 5 (.ref 218) F_Line := RF.make (by with_unfolding_all rfl) (by with_unfolding_all rfl) (by with_unfolding_all rfl) R_L_init
theorem R_L_part : RF (XX w hB mg mb sa sl) 4 (.ref 129) (F_L_part) :=
  RF.fn (lv := 3) ["self", "at"] [] (by with_unfolding_all rfl) (by with_unfolding_all rfl)
    (fun L => RS.cons (RX.expr (RE.call (by rfl) (by rfl) (g_line_part _) (k_line_part _) (RC.le (RF.call R_line_part) (Nat.le_of_ble_eq_true rfl)) (RArgs.cons (RE.attrC (RE.loc 0 (by rfl) (by rfl)) (a_cells _)) (RArgs.cons (RE.loc 1 (by rfl) (by rfl)) (RArgs.nil))))) (RS.nil))
    (by intro s vals _ hl; refine bt2 (fun x0 x1 => ?_) vals hl; exact BindsTo.of_eq (by with_unfolding_all rfl))
theorem R_L_put : RF (XX w hB mg mb sa sl) 5 (.ref 136) (F_L_put) :=
  RF.fn (lv := 4) ["self", "column", "cell"] [] (by with_unfolding_all rfl) (by with_unfolding_all rfl)
    (fun L => RS.cons (RX.if_ (RB.or_ (RB.not_ (RB.chain (RE.int) (RE.loc 1 (by rfl) (by rfl)) (RE.callB (by rfl) (by rfl) (by decide) (g_len _) b_len RC.len (RArgs.cons (RE.attrC (RE.loc 0 (by rfl) (by rfl)) (a_cells _)) (RArgs.nil))) ROp2.le ROp2.lt)) (RB.or_ (RB.cmp (RE.get (RE.loc 2 (by rfl) (by rfl)) (RE.int)) (RE.int) ROp2.eq) (RB.orNil))) (RS.cons (RX.ret0) (RS.nil)) (RS.nil)) (RS.cons (RX.if_ (RB.and_ (RB.cmp (RE.get (RE.loc 2 (by rfl) (by rfl)) (RE.int)) (RE.int) ROp2.eq) (RB.and_ (RB.cmp (RE.bin (RE.loc 1 (by rfl) (by rfl)) (RE.int) ROp2.add) (RE.callB (by rfl) (by rfl) (by decide) (g_len _) b_len RC.len (RArgs.cons (RE.attrC (RE.loc 0 (by rfl) (by rfl)) (a_cells _)) (RArgs.nil))) ROp2.eq) (RB.andNil))) (RS.cons (RX.assign (RE.call (by rfl) (by rfl) (g_blank_cell _) (k_blank_cell _) (RC.le (RF.call R_blank_cell) (Nat.le_of_ble_eq_true rfl)) (RArgs.cons (RE.get (RE.loc 2 (by rfl) (by rfl)) (RE.int)) (RArgs.nil))) (RT.loc 2 (by rfl) (by rfl))) (RS.nil)) (RS.nil)) (RS.cons (RX.expr (RE.meth (RE.loc 0 (by rfl) (by rfl)) (mg_part _) (mf_part _) (mt_part _) (mk_part _) (RC.le (RF.call R_L_part) (Nat.le_of_ble_eq_true rfl)) (RArgs.cons (RE.loc 1 (by rfl) (by rfl)) (RArgs.nil)) (by with_unfolding_all rfl))) (RS.cons (RX.expr (RE.meth (RE.loc 0 (by rfl) (by rfl)) (mg_part _) (mf_part _) (mt_part _) (mk_part _) (RC.le (RF.call R_L_part) (Nat.le_of_ble_eq_true rfl)) (RArgs.cons (RE.bin (RE.loc 1 (by rfl) (by rfl)) (RE.get (RE.loc 2 (by rfl) (by rfl)) (RE.int)) ROp2.add) (RArgs.nil)) (by with_unfolding_all rfl))) (RS.cons (RX.assign (RE.loc 2 (by rfl) (by rfl)) (RT.sub (RE.attrC (RE.loc 0 (by rfl) (by rfl)) (a_cells _)) (RE.loc 1 (by rfl) (by rfl)))) (RS.cons (RX.if_ (RB.cmp (RE.get (RE.loc 2 (by rfl) (by rfl)) (RE.int)) (RE.int) ROp2.eq) (RS.cons (RX.assign (RE.call (by rfl) (by rfl) (g_right_half _) (k_right_half _) (RC.le (RF.call R_right_half) (Nat.le_of_ble_eq_true rfl)) (RArgs.cons (RE.loc 2 (by rfl) (by rfl)) (RArgs.nil))) (RT.sub (RE.attrC (RE.loc 0 (by rfl) (by rfl)) (a_cells _)) (RE.bin (RE.loc 1 (by rfl) (by rfl)) (RE.int) ROp2.add))) (RS.nil)) (RS.nil)) (RS.nil)))))))
    (by intro s vals _ hl; refine bt3 (fun x0 x1 x2 => ?_) vals hl; exact BindsTo.of_eq (by with_unfolding_all rfl))
theorem R_L_put_cells : RF (XX w hB mg mb sa sl) 5 (.ref 143) (F_L_put_cells) :=
  RF.fn (lv := 4) ["self", "column", "cells"] ["some"] (by with_unfolding_all rfl) (by with_unfolding_all rfl)
    (fun L => RS.cons (RX.if_ (RB.or_ (RB.not_ (RB.chain (RE.int) (RE.loc 1 (by rfl) (by rfl)) (RE.callB (by rfl) (by rfl) (by decide) (g_len _) b_len RC.len (RArgs.cons (RE.attrC (RE.loc 0 (by rfl) (by rfl)) (a_cells _)) (RArgs.nil))) ROp2.le ROp2.lt)) (RB.or_ (RB.cmp (RE.loc 2 (by rfl) (by rfl)) (RE.list (RArgs.nil)) ROp2.eq) (RB.orNil))) (RS.cons (RX.ret0) (RS.nil)) (RS.nil)) (RS.cons (RX.assign (RE.call (by rfl) (by rfl) (g_line_slice _) (k_line_slice _) (RC.le (RF.call R_line_slice) (Nat.le_of_ble_eq_true rfl)) (RArgs.cons (RE.loc 2 (by rfl) (by rfl)) (RArgs.cons (RE.int) (RArgs.cons (RE.bin (RE.bin (RE.callB (by rfl) (by rfl) (by decide) (g_len _) b_len RC.len (RArgs.cons (RE.attrC (RE.loc 0 (by rfl) (by rfl)) (a_cells _)) (RArgs.nil))) (RE.loc 1 (by rfl) (by rfl)) ROp2.sub) (RE.int) ROp2.sub) (RArgs.nil))))) (RT.loc 3 (by rfl) (by rfl))) (RS.cons (RX.expr (RE.meth (RE.loc 0 (by rfl) (by rfl)) (mg_part _) (mf_part _) (mt_part _) (mk_part _) (RC.le (RF.call R_L_part) (Nat.le_of_ble_eq_true rfl)) (RArgs.cons (RE.loc 1 (by rfl) (by rfl)) (RArgs.nil)) (by with_unfolding_all rfl))) (RS.cons (RX.expr (RE.meth (RE.loc 0 (by rfl) (by rfl)) (mg_part _) (mf_part _) (mt_part _) (mk_part _) (RC.le (RF.call R_L_part) (Nat.le_of_ble_eq_true rfl)) (RArgs.cons (RE.bin (RE.loc 1 (by rfl) (by rfl)) (RE.callB (by rfl) (by rfl) (by decide) (g_len _) b_len RC.len (RArgs.cons (RE.loc 3 (by rfl) (by rfl)) (RArgs.nil))) ROp2.add) (RArgs.nil)) (by with_unfolding_all rfl))) (RS.cons (RX.assign (RE.loc 3 (by rfl) (by rfl)) (RT.slice (RE.attrC (RE.loc 0 (by rfl) (by rfl)) (a_cells _)) (RPart.yes (RE.loc 1 (by rfl) (by rfl))) (RPart.yes (RE.bin (RE.loc 1 (by rfl) (by rfl)) (RE.callB (by rfl) (by rfl) (by decide) (g_len _) b_len RC.len (RArgs.cons (RE.loc 3 (by rfl) (by rfl)) (RArgs.nil))) ROp2.add)))) (RS.nil))))))
    (by intro s vals _ hl; refine bt3 (fun x0 x1 x2 => ?_) vals hl; exact BindsTo.of_eq (by with_unfolding_all rfl))
theorem R_L_erase : RF (XX w hB mg mb sa sl) 5 (.ref 151) (F_L_erase) :=
  RF.fn (lv := 4) ["self", "left", "right", "pen", "is_selective"] ["border", "column"] (by with_unfolding_all rfl) (by with_unfolding_all rfl)
    (fun L => RS.cons (RX.swap (names := ["left", "right"]) (RE.tuple (RArgs.cons (RE.callB (by rfl) (by rfl) (by decide) (g_max _) b_max RC.max (RArgs.cons (RE.int) (RArgs.cons (RE.loc 1 (by rfl) (by rfl)) (RArgs.nil)))) (RArgs.cons (RE.callB (by rfl) (by rfl) (by decide) (g_min _) b_min RC.min (RArgs.cons (RE.loc 2 (by rfl) (by rfl)) (RArgs.cons (RE.bin (RE.callB (by rfl) (by rfl) (by decide) (g_len _) b_len RC.len (RArgs.cons (RE.attrC (RE.loc 0 (by rfl) (by rfl)) (a_cells _)) (RArgs.nil))) (RE.int) ROp2.sub) (RArgs.nil)))) (RArgs.nil)))) (RTs.bind (RTb.loc 2 (by rfl) (by rfl)) (RTs.bind (RTb.loc 1 (by rfl) (by rfl)) (RTs.nil)))) (RS.cons (RX.if_ (RB.cmp (RE.loc 1 (by rfl) (by rfl)) (RE.loc 2 (by rfl) (by rfl)) ROp2.gt) (RS.cons (RX.ret0) (RS.nil)) (RS.nil)) (RS.cons (RX.for_ (RI.seq (RE.tuple (RArgs.cons (RE.loc 1 (by rfl) (by rfl)) (RArgs.cons (RE.bin (RE.loc 2 (by rfl) (by rfl)) (RE.int) ROp2.add) (RArgs.nil))))) (RT.loc 5 (by rfl) (by rfl)) (RS.cons (RX.if_ (RB.and_ (RB.cmp (RE.loc 5 (by rfl) (by rfl)) (RE.callB (by rfl) (by rfl) (by decide) (g_len _) b_len RC.len (RArgs.cons (RE.attrC (RE.loc 0 (by rfl) (by rfl)) (a_cells _)) (RArgs.nil))) ROp2.lt) (RB.and_ (RB.not_ (RB.and_ (RB.plain (RE.loc 4 (by rfl) (by rfl))) (RB.and_ (RB.plain (RE.get (RE.get (RE.attrC (RE.loc 0 (by rfl) (by rfl)) (a_cells _)) (RE.loc 5 (by rfl) (by rfl))) (RE.int))) (RB.andNil)))) (RB.andNil))) (RS.cons (RX.expr (RE.meth (RE.loc 0 (by rfl) (by rfl)) (mg_part _) (mf_part _) (mt_part _) (mk_part _) (RC.le (RF.call R_L_part) (Nat.le_of_ble_eq_true rfl)) (RArgs.cons (RE.loc 5 (by rfl) (by rfl)) (RArgs.nil)) (by with_unfolding_all rfl))) (RS.nil)) (RS.nil)) (RS.nil))) (RS.cons (RX.for_ (RI.range (by rfl) (g_range _) (RArgs.cons (RE.loc 1 (by rfl) (by rfl)) (RArgs.cons (RE.bin (RE.loc 2 (by rfl) (by rfl)) (RE.int) ROp2.add) (RArgs.nil)))) (RT.loc 6 (by rfl) (by rfl)) (RS.cons (RX.if_ (RB.not_ (RB.and_ (RB.plain (RE.loc 4 (by rfl) (by rfl))) (RB.and_ (RB.plain (RE.get (RE.get (RE.attrC (RE.loc 0 (by rfl) (by rfl)) (a_cells _)) (RE.loc 6 (by rfl) (by rfl))) (RE.int))) (RB.andNil)))) (RS.cons (RX.assign (RE.call (by rfl) (by rfl) (g_blank_cell _) (k_blank_cell _) (RC.le (RF.call R_blank_cell) (Nat.le_of_ble_eq_true rfl)) (RArgs.cons (RE.loc 3 (by rfl) (by rfl)) (RArgs.nil))) (RT.sub (RE.attrC (RE.loc 0 (by rfl) (by rfl)) (a_cells _)) (RE.loc 6 (by rfl) (by rfl)))) (RS.nil)) (RS.nil)) (RS.nil))) (RS.cons (RX.if_ (RB.cmp (RE.loc 2 (by rfl) (by rfl)) (RE.bin (RE.callB (by rfl) (by rfl) (by decide) (g_len _) b_len RC.len (RArgs.cons (RE.attrC (RE.loc 0 (by rfl) (by rfl)) (a_cells _)) (RArgs.nil))) (RE.int) ROp2.sub) ROp2.eq) (RS.cons (RX.assign (RE.bool) (RT.attrC (RE.loc 0 (by rfl) (by rfl)) (s_is_wrapped _))) (RS.nil)) (RS.nil)) (RS.nil))))))
    (by intro s vals K hl; refine bt5 (fun x0 x1 x2 x3 x4 => ?_) vals hl; exact BindsTo.of_defaults (T := 144) rfl (K 144 _ (by with_unfolding_all rfl)) rfl (by with_unfolding_all rfl) (by with_unfolding_all rfl))
theorem R_L_shift : RF (XX w hB mg mb sa sl) 5 (.ref 158) (F_L_shift) :=
  RF.fn (lv := 4) ["self", "column", "many", "right", "pen", "is_back"] ["first", "last", "border", "kept", "blanks"] (by with_unfolding_all rfl) (by with_unfolding_all rfl)
    (fun L => RS.cons (RX.assign (RE.callB (by rfl) (by rfl) (by decide) (g_min _) b_min RC.min (RArgs.cons (RE.loc 3 (by rfl) (by rfl)) (RArgs.cons (RE.bin (RE.callB (by rfl) (by rfl) (by decide) (g_len _) b_len RC.len (RArgs.cons (RE.attrC (RE.loc 0 (by rfl) (by rfl)) (a_cells _)) (RArgs.nil))) (RE.int) ROp2.sub) (RArgs.nil)))) (RT.loc 3 (by rfl) (by rfl))) (RS.cons (RX.if_ (RB.not_ (RB.chain (RE.int) (RE.loc 1 (by rfl) (by rfl)) (RE.loc 3 (by rfl) (by rfl)) ROp2.le ROp2.le)) (RS.cons (RX.ret0) (RS.nil)) (RS.nil)) (RS.cons (RX.assign (RE.call (by rfl) (by rfl) (g_clamp _) (k_clamp _) (RC.le (RF.call R_clamp) (Nat.le_of_ble_eq_true rfl)) (RArgs.cons (RE.loc 2 (by rfl) (by rfl)) (RArgs.cons (RE.int) (RArgs.cons (RE.bin (RE.bin (RE.loc 3 (by rfl) (by rfl)) (RE.loc 1 (by rfl) (by rfl)) ROp2.sub) (RE.int) ROp2.add) (RArgs.nil))))) (RT.loc 2 (by rfl) (by rfl))) (RS.cons (RX.assign (RE.if_ (RB.plain (RE.loc 5 (by rfl) (by rfl))) (RE.tuple (RArgs.cons (RE.bin (RE.loc 1 (by rfl) (by rfl)) (RE.loc 2 (by rfl) (by rfl)) ROp2.add) (RArgs.cons (RE.bin (RE.loc 3 (by rfl) (by rfl)) (RE.int) ROp2.add) (RArgs.nil)))) (RE.tuple (RArgs.cons (RE.loc 1 (by rfl) (by rfl)) (RArgs.cons (RE.bin (RE.bin (RE.loc 3 (by rfl) (by rfl)) (RE.int) ROp2.add) (RE.loc 2 (by rfl) (by rfl)) ROp2.sub) (RArgs.nil))))) (RT.tupleN (by rfl) (by rfl) (by rfl) (RTs.cons (RT.loc 6 (by rfl) (by rfl)) (RTs.cons (RT.loc 7 (by rfl) (by rfl)) (RTs.nil))))) (RS.cons (RX.for_ (RI.seq (RE.tuple (RArgs.cons (RE.loc 1 (by rfl) (by rfl)) (RArgs.cons (RE.bin (RE.loc 3 (by rfl) (by rfl)) (RE.int) ROp2.add) (RArgs.cons (RE.loc 6 (by rfl) (by rfl)) (RArgs.cons (RE.loc 7 (by rfl) (by rfl)) (RArgs.nil))))))) (RT.loc 8 (by rfl) (by rfl)) (RS.cons (RX.expr (RE.meth (RE.loc 0 (by rfl) (by rfl)) (mg_part _) (mf_part _) (mt_part _) (mk_part _) (RC.le (RF.call R_L_part) (Nat.le_of_ble_eq_true rfl)) (RArgs.cons (RE.loc 8 (by rfl) (by rfl)) (RArgs.nil)) (by with_unfolding_all rfl))) (RS.nil))) (RS.cons (RX.swap (names := ["kept", "blanks"]) (RE.tuple (RArgs.cons (RE.slice (RE.attrC (RE.loc 0 (by rfl) (by rfl)) (a_cells _)) (RPart.yes (RE.loc 6 (by rfl) (by rfl))) (RPart.yes (RE.loc 7 (by rfl) (by rfl)))) (RArgs.cons (RE.call (by rfl) (by rfl) (g_line_blanks _) (k_line_blanks _) (RC.le (RF.call R_line_blanks) (Nat.le_of_ble_eq_true rfl)) (RArgs.cons (RE.loc 2 (by rfl) (by rfl)) (RArgs.cons (RE.loc 4 (by rfl) (by rfl)) (RArgs.nil)))) (RArgs.nil)))) (RTs.bind (RTb.loc 10 (by rfl) (by rfl)) (RTs.bind (RTb.loc 9 (by rfl) (by rfl)) (RTs.nil)))) (RS.cons (RX.assign (RE.if_ (RB.plain (RE.loc 5 (by rfl) (by rfl))) (RE.bin (RE.loc 9 (by rfl) (by rfl)) (RE.loc 10 (by rfl) (by rfl)) ROp2.add) (RE.bin (RE.loc 10 (by rfl) (by rfl)) (RE.loc 9 (by rfl) (by rfl)) ROp2.add)) (RT.slice (RE.attrC (RE.loc 0 (by rfl) (by rfl)) (a_cells _)) (RPart.yes (RE.loc 1 (by rfl) (by rfl))) (RPart.yes (RE.bin (RE.loc 3 (by rfl) (by rfl)) (RE.int) ROp2.add)))) (RS.nil))))))))
    (by intro s vals _ hl; refine bt6 (fun x0 x1 x2 x3 x4 x5 => ?_) vals hl; exact BindsTo.of_eq (by with_unfolding_all rfl))
theorem R_L_insert : RF (XX w hB mg mb sa sl) 6 (.ref 165) (F_L_insert) :=
  RF.fn (lv := 5) ["self", "column", "many", "right", "pen"] [] (by with_unfolding_all rfl) (by with_unfolding_all rfl)
    (fun L => RS.cons (RX.expr (RE.meth (RE.loc 0 (by rfl) (by rfl)) (mg_shift _) (mf_shift _) (mt_shift _) (mk_shift _) (RC.le (RF.call R_L_shift) (Nat.le_of_ble_eq_true rfl)) (RArgs.cons (RE.loc 1 (by rfl) (by rfl)) (RArgs.cons (RE.loc 2 (by rfl) (by rfl)) (RArgs.cons (RE.loc 3 (by rfl) (by rfl)) (RArgs.cons (RE.loc 4 (by rfl) (by rfl)) (RArgs.cons (RE.bool) (RArgs.nil)))))) (by with_unfolding_all rfl))) (RS.nil))
    (by intro s vals _ hl; refine bt5 (fun x0 x1 x2 x3 x4 => ?_) vals hl; exact BindsTo.of_eq (by with_unfolding_all rfl))
theorem R_L_delete : RF (XX w hB mg mb sa sl) 6 (.ref 172) (F_L_delete) :=
  RF.fn (lv := 5) ["self", "column", "many", "right", "pen"] [] (by with_unfolding_all rfl) (by with_unfolding_all rfl)
    (fun L => RS.cons (RX.expr (RE.meth (RE.loc 0 (by rfl) (by rfl)) (mg_shift _) (mf_shift _) (mt_shift _) (mk_shift _) (RC.le (RF.call R_L_shift) (Nat.le_of_ble_eq_true rfl)) (RArgs.cons (RE.loc 1 (by rfl) (by rfl)) (RArgs.cons (RE.loc 2 (by rfl) (by rfl)) (RArgs.cons (RE.loc 3 (by rfl) (by rfl)) (RArgs.cons (RE.loc 4 (by rfl) (by rfl)) (RArgs.cons (RE.bool) (RArgs.nil)))))) (by with_unfolding_all rfl))) (RS.nil))
    (by intro s vals _ hl; refine bt5 (fun x0 x1 x2 x3 x4 => ?_) vals hl; exact BindsTo.of_eq (by with_unfolding_all rfl))
theorem R_L_fill : RF (XX w hB mg mb sa sl) 6 (.ref 179) (F_L_fill) :=
  RF.fn (lv := 5) ["self", "left", "right", "cell"] ["column"] (by with_unfolding_all rfl) (by with_unfolding_all rfl)
    (fun L => RS.cons (RX.for_ (RI.range (by rfl) (g_range _) (RArgs.cons (RE.callB (by rfl) (by rfl) (by decide) (g_max _) b_max RC.max (RArgs.cons (RE.int) (RArgs.cons (RE.loc 1 (by rfl) (by rfl)) (RArgs.nil)))) (RArgs.cons (RE.bin (RE.callB (by rfl) (by rfl) (by decide) (g_min _) b_min RC.min (RArgs.cons (RE.loc 2 (by rfl) (by rfl)) (RArgs.cons (RE.bin (RE.callB (by rfl) (by rfl) (by decide) (g_len _) b_len RC.len (RArgs.cons (RE.attrC (RE.loc 0 (by rfl) (by rfl)) (a_cells _)) (RArgs.nil))) (RE.int) ROp2.sub) (RArgs.nil)))) (RE.int) ROp2.add) (RArgs.nil)))) (RT.loc 4 (by rfl) (by rfl)) (RS.cons (RX.expr (RE.meth (RE.loc 0 (by rfl) (by rfl)) (mg_put _) (mf_put _) (mt_put _) (mk_put _) (RC.le (RF.call R_L_put) (Nat.le_of_ble_eq_true rfl)) (RArgs.cons (RE.loc 4 (by rfl) (by rfl)) (RArgs.cons (RE.loc 3 (by rfl) (by rfl)) (RArgs.nil))) (by with_unfolding_all rfl))) (RS.nil))) (RS.nil))
    (by intro s vals _ hl; refine bt4 (fun x0 x1 x2 x3 => ?_) vals hl; exact BindsTo.of_eq (by with_unfolding_all rfl))
theorem R_L_copy : RF (XX w hB mg mb sa sl) 6 (.ref 186) (F_L_copy) :=
  RF.fn (lv := 5) ["self"] ["found"] (by with_unfolding_all rfl) (by with_unfolding_all rfl)
    (fun L => RS.cons (RX.assign (RE.call (by rfl) (by rfl) (g_Line _) (k_Line _) (RC.le (RF.call R_Line) (Nat.le_of_ble_eq_true rfl)) (RArgs.cons (RE.int) (RArgs.cons (RE.glob (by rfl) (by rfl) (g_PLAIN _) hv_PLAIN) (RArgs.nil)))) (RT.loc 1 (by rfl) (by rfl))) (RS.cons (RX.assign (RE.callT (by rfl) (by rfl) (by decide) (g_list _) b_list RC.list (RArgs.cons (RE.attrC (RE.loc 0 (by rfl) (by rfl)) (a_cells _)) (RArgs.nil))) (RT.attrC (RE.loc 1 (by rfl) (by rfl)) (s_cells _))) (RS.cons (RX.assign (RE.attrC (RE.loc 0 (by rfl) (by rfl)) (a_is_wrapped _)) (RT.attrC (RE.loc 1 (by rfl) (by rfl)) (s_is_wrapped _))) (RS.cons (RX.assign (RE.attrC (RE.loc 0 (by rfl) (by rfl)) (a_size _)) (RT.attrC (RE.loc 1 (by rfl) (by rfl)) (s_size _))) (RS.cons (RX.ret (RE.loc 1 (by rfl) (by rfl))) (RS.nil))))))
    (by intro s vals _ hl; refine bt1 (fun x0 => ?_) vals hl; exact BindsTo.of_eq (by with_unfolding_all rfl))
theorem fill_codes_ok (ρ : List Addr) (h : Heap) (args : List AV) (vals : List Value) (x : Vs ρ h args vals) : Vs ρ h (fill_codes args) (fillV_codes vals) := by
  unfold fill_codes fillV_codes
  rw [x.length]
  split
  · exact x.append (.cons (.int _ _) (.cons .none .nil))
  · exact x
theorem R_L_codes : RF (XX w hB mg mb sa sl) 4 (.ref 194) F_L_codes :=
  RF.fnD (lv := 3) ["self", "left", "right"] [] fill_codes fillV_codes (by with_unfolding_all rfl) (by with_unfolding_all rfl)
    (fun L => RS.cons (RX.ret (RE.call (by rfl) (by rfl) (g_line_codes _) (k_line_codes _) (RC.le (RF.call R_line_codes) (Nat.le_of_ble_eq_true rfl)) (RArgs.cons (RE.call (by rfl) (by rfl) (g_line_slice _) (k_line_slice _) (RC.le (RF.call R_line_slice) (Nat.le_of_ble_eq_true rfl)) (RArgs.cons (RE.attrC (RE.loc 0 (by rfl) (by rfl)) (a_cells _)) (RArgs.cons (RE.loc 1 (by rfl) (by rfl)) (RArgs.cons (RE.if_ (RB.cmp (RE.loc 2 (by rfl) (by rfl)) (RE.cNone) ROp2.is_) (RE.bin (RE.callB (by rfl) (by rfl) (by decide) (g_len _) b_len RC.len (RArgs.cons (RE.attrC (RE.loc 0 (by rfl) (by rfl)) (a_cells _)) (RArgs.nil))) (RE.int) ROp2.sub) (RE.loc 2 (by rfl) (by rfl))) (RArgs.nil))))) (RArgs.nil)))) (RS.nil)) fill_codes_ok
    (by
      intro s vals K hl
      match vals, hl with
      | [x0], _ => exact BindsTo.of_defaults (T := 187) rfl (K 187 _ (by with_unfolding_all rfl)) rfl (by with_unfolding_all rfl) (by with_unfolding_all rfl)
      | [x0, x1, x2], _ => exact BindsTo.of_defaults (T := 187) rfl (K 187 _ (by with_unfolding_all rfl)) rfl (by with_unfolding_all rfl) (by with_unfolding_all rfl))
theorem R_L_used : RF (XX w hB mg mb sa sl) 2 (.ref 201) (F_L_used) :=
  RF.fn (lv := 1) ["self"] ["last"] (by with_unfolding_all rfl) (by with_unfolding_all rfl)
    (fun L => RS.cons (RX.assign (RE.callB (by rfl) (by rfl) (by decide) (g_len _) b_len RC.len (RArgs.cons (RE.attrC (RE.loc 0 (by rfl) (by rfl)) (a_cells _)) (RArgs.nil))) (RT.loc 1 (by rfl) (by rfl))) (RS.cons (RX.while_ 60 (RB.and_ (RB.cmp (RE.loc 1 (by rfl) (by rfl)) (RE.int) ROp2.gt) (RB.and_ (RB.plain (RE.call (by rfl) (by rfl) (g_is_plain_blank _) (k_is_plain_blank _) (RC.le (RF.call R_is_plain_blank) (Nat.le_of_ble_eq_true rfl)) (RArgs.cons (RE.get (RE.attrC (RE.loc 0 (by rfl) (by rfl)) (a_cells _)) (RE.bin (RE.loc 1 (by rfl) (by rfl)) (RE.int) ROp2.sub)) (RArgs.nil)))) (RB.andNil))) (RS.cons (RX.augSub 1 (by rfl) (by rfl) (RE.int)) (RS.nil))) (RS.cons (RX.ret (RE.loc 1 (by rfl) (by rfl))) (RS.nil))))
    (by intro s vals _ hl; refine bt1 (fun x0 => ?_) vals hl; exact BindsTo.of_eq (by with_unfolding_all rfl))
theorem R_L_resized : RF (XX w hB mg mb sa sl) 7 (.ref 208) (F_L_resized) :=
  RF.fn (lv := 6) ["self", "columns", "pen"] ["found"] (by with_unfolding_all rfl) (by with_unfolding_all rfl)
    (fun L => RS.cons (RX.assign (RE.meth (RE.loc 0 (by rfl) (by rfl)) (mg_copy _) (mf_copy _) (mt_copy _) (mk_copy _) (RC.le (RF.call R_L_copy) (Nat.le_of_ble_eq_true rfl)) (RArgs.nil) (by with_unfolding_all rfl)) (RT.loc 3 (by rfl) (by rfl))) (RS.cons (RX.if_ (RB.cmp (RE.loc 1 (by rfl) (by rfl)) (RE.callB (by rfl) (by rfl) (by decide) (g_len _) b_len RC.len (RArgs.cons (RE.attrC (RE.loc 3 (by rfl) (by rfl)) (a_cells _)) (RArgs.nil))) ROp2.lt) (RS.cons (RX.assign (RE.call (by rfl) (by rfl) (g_line_slice _) (k_line_slice _) (RC.le (RF.call R_line_slice) (Nat.le_of_ble_eq_true rfl)) (RArgs.cons (RE.attrC (RE.loc 3 (by rfl) (by rfl)) (a_cells _)) (RArgs.cons (RE.int) (RArgs.cons (RE.bin (RE.loc 1 (by rfl) (by rfl)) (RE.int) ROp2.sub) (RArgs.nil))))) (RT.attrC (RE.loc 3 (by rfl) (by rfl)) (s_cells _))) (RS.nil)) (RS.nil)) (RS.cons (RX.assign (RE.bin (RE.attrC (RE.loc 3 (by rfl) (by rfl)) (a_cells _)) (RE.call (by rfl) (by rfl) (g_line_blanks _) (k_line_blanks _) (RC.le (RF.call R_line_blanks) (Nat.le_of_ble_eq_true rfl)) (RArgs.cons (RE.bin (RE.loc 1 (by rfl) (by rfl)) (RE.callB (by rfl) (by rfl) (by decide) (g_len _) b_len RC.len (RArgs.cons (RE.attrC (RE.loc 3 (by rfl) (by rfl)) (a_cells _)) (RArgs.nil))) ROp2.sub) (RArgs.cons (RE.loc 2 (by rfl) (by rfl)) (RArgs.nil)))) ROp2.add) (RT.attrC (RE.loc 3 (by rfl) (by rfl)) (s_cells _))) (RS.cons (RX.assign (RE.and_ (RE.attrC (RE.loc 0 (by rfl) (by rfl)) (a_is_wrapped _)) (RE.one (RE.cmp (RE.loc 1 (by rfl) (by rfl)) (RE.callB (by rfl) (by rfl) (by decide) (g_len _) b_len RC.len (RArgs.cons (RE.attrC (RE.loc 0 (by rfl) (by rfl)) (a_cells _)) (RArgs.nil))) ROp2.eq))) (RT.attrC (RE.loc 3 (by rfl) (by rfl)) (s_is_wrapped _))) (RS.cons (RX.ret (RE.loc 3 (by rfl) (by rfl))) (RS.nil))))))
    (by intro s vals _ hl; refine bt3 (fun x0 x1 x2 => ?_) vals hl; exact BindsTo.of_eq (by with_unfolding_all rfl))
theorem R_L_equals : RF (XX w hB mg mb sa sl) 1 (.ref 215) (F_L_equals) :=
  RF.fn (lv := 0) ["self", "other"] [] (by with_unfolding_all rfl) (by with_unfolding_all rfl)
    (fun L => RS.cons (RX.ret (RE.cmp (RE.tuple (RArgs.cons (RE.attrC (RE.loc 0 (by rfl) (by rfl)) (a_cells _)) (RArgs.cons (RE.attrC (RE.loc 0 (by rfl) (by rfl)) (a_is_wrapped _)) (RArgs.cons (RE.attrC (RE.loc 0 (by rfl) (by rfl)) (a_size _)) (RArgs.nil))))) (RE.tuple (RArgs.cons (RE.attrC (RE.loc 1 (by rfl) (by rfl)) (a_cells _)) (RArgs.cons (RE.attrC (RE.loc 1 (by rfl) (by rfl)) (a_is_wrapped _)) (RArgs.cons (RE.attrC (RE.loc 1 (by rfl) (by rfl)) (a_size _)) (RArgs.nil))))) ROp2.eq)) (RS.nil))
    (by intro s vals _ hl; refine bt2 (fun x0 x1 => ?_) vals hl; exact BindsTo.of_eq (by with_unfolding_all rfl))
theorem R_law_deck : RF (XX w hB mg mb sa sl) 1 (.ref 230) (F_law_deck sa sl) :=
  RF.fn (lv := 0) ["script"] ["cells", "mixed", "cell"] (by with_unfolding_all rfl) (by with_unfolding_all rfl)
    (fun L => RS.cons (RX.swap (names := ["cells", "mixed"]) (RE.tuple (RArgs.cons (RE.comp CompOk.plain (RI.seq (RE.sliceRaw (RE.loc 0 (by rfl) (by rfl)) (RPart.no) (RPart.yes (RE.int)))) (fun Ca => RIfs.nil) (fun Ca => RE.callT (by rfl) (by rfl) (by decide) (g_int _) b_int RC.int (RArgs.cons (RE.loc 0 (by rfl) (by rfl)) (RArgs.nil)))) (RArgs.cons (RE.int) (RArgs.nil)))) (RTs.bind (RTb.loc 2 (by rfl) (by rfl)) (RTs.bind (RTb.loc 1 (by rfl) (by rfl)) (RTs.nil)))) (RS.cons (RX.for_ (RI.seq (RE.loc 1 (by rfl) (by rfl))) (RT.loc 3 (by rfl) (by rfl)) (RS.cons (RX.assign (RE.bin (RE.bin (RE.bin (RE.loc 2 (by rfl) (by rfl)) (RE.int) ROp2.mul) (RE.loc 3 (by rfl) (by rfl)) ROp2.add) (RE.int) ROp2.mod) (RT.loc 2 (by rfl) (by rfl))) (RS.nil))) (RS.cons (RX.ret (RE.dict (RPairs.cons (RE.rev (RE.loc 1 (by rfl) (by rfl))) (RPairs.cons (RE.loc 2 (by rfl) (by rfl)) (RPairs.nil))))) (RS.nil))))
    (by intro s vals _ hl; refine bt1 (fun x0 => ?_) vals hl; exact BindsTo.of_eq (by with_unfolding_all rfl))
theorem R_law_draw : RF (XX w hB mg mb sa sl) 1 (.ref 237) (F_law_draw) :=
  RF.fn (lv := 0) ["deck", "many"] [] (by with_unfolding_all rfl) (by with_unfolding_all rfl)
    (fun L => RS.cons (RX.if_ (RB.cmp (RE.get (RE.loc 0 (by rfl) (by rfl)) (RE.str)) (RE.list (RArgs.nil)) ROp2.ne) (RS.cons (RX.ret (RE.bin (RE.methL (RE.get (RE.loc 0 (by rfl) (by rfl)) (RE.str)) PySem.F.slot_list_pop (by rfl) RC.pop (RArgs.nil) (by with_unfolding_all rfl)) (RE.loc 1 (by rfl) (by rfl)) ROp2.mod)) (RS.nil)) (RS.nil)) (RS.cons (RX.assign (RE.bin (RE.bin (RE.bin (RE.get (RE.loc 0 (by rfl) (by rfl)) (RE.str)) (RE.int) ROp2.mul) (RE.int) ROp2.add) (RE.int) ROp2.mod) (RT.sub (RE.loc 0 (by rfl) (by rfl)) (RE.str))) (RS.cons (RX.ret (RE.bin (RE.bin (RE.get (RE.loc 0 (by rfl) (by rfl)) (RE.str)) (RE.int) ROp2.div) (RE.loc 1 (by rfl) (by rfl)) ROp2.mod)) (RS.nil))))
    (by intro s vals _ hl; refine bt2 (fun x0 x1 => ?_) vals hl; exact BindsTo.of_eq (by with_unfolding_all rfl))
theorem R_law_blank : RF (XX w hB mg mb sa sl) 1 (.ref 244) (F_law_blank) :=
  RF.fn (lv := 0) ["pen"] [] (by with_unfolding_all rfl) (by with_unfolding_all rfl)
    (fun L => RS.cons (RX.ret (RE.tuple (RArgs.cons (RE.tuple (RArgs.nil)) (RArgs.cons (RE.int) (RArgs.cons (RE.tuple (RArgs.cons (RE.int) (RArgs.cons (RE.un (RE.int) ROp1.neg) (RArgs.cons (RE.get (RE.loc 0 (by rfl) (by rfl)) (RE.int)) (RArgs.cons (RE.un (RE.int) ROp1.neg) (RArgs.cons (RE.int) (RArgs.nil))))))) (RArgs.cons (RE.bool) (RArgs.cons (RE.int) (RArgs.nil)))))))) (RS.nil))
    (by intro s vals _ hl; refine bt1 (fun x0 => ?_) vals hl; exact BindsTo.of_eq (by with_unfolding_all rfl))
theorem R_law_sign : RF (XX w hB mg mb sa sl) 2 (.ref 251) (F_law_sign) :=
  RF.fn (lv := 1) ["deck", "w"] ["pen", "width", "cell"] (by with_unfolding_all rfl) (by with_unfolding_all rfl)
    (fun L => RS.cons (RX.assign (RE.bin (RE.get (RE.loc 1 (by rfl) (by rfl)) (RE.str)) (RE.int) ROp2.add) (RT.sub (RE.loc 1 (by rfl) (by rfl)) (RE.str))) (RS.cons (RX.swap (names := ["pen", "width"]) (RE.tuple (RArgs.cons (RE.get (RE.glob (by rfl) (by rfl) (g_law_pens _) hv_law_pens) (RE.call (by rfl) (by rfl) (g_law_draw _) (k_law_draw _) (RC.le (RF.call R_law_draw) (Nat.le_of_ble_eq_true rfl)) (RArgs.cons (RE.loc 0 (by rfl) (by rfl)) (RArgs.cons (RE.int) (RArgs.nil))))) (RArgs.cons (RE.bin (RE.int) (RE.call (by rfl) (by rfl) (g_law_draw _) (k_law_draw _) (RC.le (RF.call R_law_draw) (Nat.le_of_ble_eq_true rfl)) (RArgs.cons (RE.loc 0 (by rfl) (by rfl)) (RArgs.cons (RE.int) (RArgs.nil)))) ROp2.add) (RArgs.nil)))) (RTs.bind (RTb.loc 3 (by rfl) (by rfl)) (RTs.bind (RTb.loc 2 (by rfl) (by rfl)) (RTs.nil)))) (RS.cons (RX.assign (RE.tuple (RArgs.cons (RE.tuple (RArgs.cons (RE.bin (RE.int) (RE.call (by rfl) (by rfl) (g_law_draw _) (k_law_draw _) (RC.le (RF.call R_law_draw) (Nat.le_of_ble_eq_true rfl)) (RArgs.cons (RE.loc 0 (by rfl) (by rfl)) (RArgs.cons (RE.int) (RArgs.nil)))) ROp2.add) (RArgs.nil))) (RArgs.cons (RE.loc 3 (by rfl) (by rfl)) (RArgs.cons (RE.loc 2 (by rfl) (by rfl)) (RArgs.cons (RE.cmp (RE.call (by rfl) (by rfl) (g_law_draw _) (k_law_draw _) (RC.le (RF.call R_law_draw) (Nat.le_of_ble_eq_true rfl)) (RArgs.cons (RE.loc 0 (by rfl) (by rfl)) (RArgs.cons (RE.int) (RArgs.nil)))) (RE.int) ROp2.eq) (RArgs.cons (RE.get (RE.loc 1 (by rfl) (by rfl)) (RE.str)) (RArgs.nil))))))) (RT.loc 4 (by rfl) (by rfl))) (RS.cons (RX.ret (RE.bin (RE.list (RArgs.cons (RE.loc 4 (by rfl) (by rfl)) (RArgs.nil))) (RE.bin (RE.list (RArgs.cons (RE.tuple (RArgs.cons (RE.tuple (RArgs.nil)) (RArgs.cons (RE.int) (RArgs.cons (RE.loc 2 (by rfl) (by rfl)) (RArgs.cons (RE.get (RE.loc 4 (by rfl) (by rfl)) (RE.int)) (RArgs.cons (RE.get (RE.loc 1 (by rfl) (by rfl)) (RE.str)) (RArgs.nil))))))) (RArgs.nil))) (RE.bin (RE.loc 3 (by rfl) (by rfl)) (RE.int) ROp2.sub) ROp2.mul) ROp2.add)) (RS.nil)))))
    (by intro s vals _ hl; refine bt2 (fun x0 x1 => ?_) vals hl; exact BindsTo.of_eq (by with_unfolding_all rfl))
theorem R_law_mended : RF (XX w hB mg mb sa sl) 2 (.ref 258) (F_law_mended) :=
  RF.fn (lv := 1) ["cells"] ["found", "at", "cell", "near", "far", "is_left", "is_right"] (by with_unfolding_all rfl) (by with_unfolding_all rfl)
    (fun L => RS.cons (RX.assign (RE.list (RArgs.nil)) (RT.loc 1 (by rfl) (by rfl))) (RS.cons (RX.forE (RI.enum (by rfl) (g_enumerate _) (RArgs.cons (RE.loc 0 (by rfl) (by rfl)) (RArgs.nil))) (RT.tupleN (by rfl) (by rfl) (by rfl) (RTs.cons (RT.loc 2 (by rfl) (by rfl)) (RTs.cons (RT.loc 3 (by rfl) (by rfl)) (RTs.nil)))) (RS.cons (RX.swap (names := ["near", "far"]) (RE.tuple (RArgs.cons (RE.if_ (RB.cmp (RE.loc 2 (by rfl) (by rfl)) (RE.int) ROp2.gt) (RE.get (RE.loc 0 (by rfl) (by rfl)) (RE.bin (RE.loc 2 (by rfl) (by rfl)) (RE.int) ROp2.sub)) (RE.cNone)) (RArgs.cons (RE.if_ (RB.cmp (RE.bin (RE.loc 2 (by rfl) (by rfl)) (RE.int) ROp2.add) (RE.callB (by rfl) (by rfl) (by decide) (g_len _) b_len RC.len (RArgs.cons (RE.loc 0 (by rfl) (by rfl)) (RArgs.nil))) ROp2.lt) (RE.get (RE.loc 0 (by rfl) (by rfl)) (RE.bin (RE.loc 2 (by rfl) (by rfl)) (RE.int) ROp2.add)) (RE.cNone)) (RArgs.nil)))) (RTs.bind (RTb.loc 5 (by rfl) (by rfl)) (RTs.bind (RTb.loc 4 (by rfl) (by rfl)) (RTs.nil)))) (RS.cons (RX.assign (RE.and_ (RE.cmp (RE.get (RE.loc 3 (by rfl) (by rfl)) (RE.int)) (RE.int) ROp2.eq) (RE.one (RE.or_ (RE.cmp (RE.loc 5 (by rfl) (by rfl)) (RE.cNone) ROp2.is_) (RE.or_ (RE.cmp (RE.get (RE.loc 5 (by rfl) (by rfl)) (RE.int)) (RE.int) ROp2.ne) (RE.one (RE.cmp (RE.get (RE.loc 5 (by rfl) (by rfl)) (RE.int)) (RE.get (RE.loc 3 (by rfl) (by rfl)) (RE.int)) ROp2.ne)))))) (RT.loc 6 (by rfl) (by rfl))) (RS.cons (RX.assign (RE.and_ (RE.cmp (RE.get (RE.loc 3 (by rfl) (by rfl)) (RE.int)) (RE.int) ROp2.eq) (RE.one (RE.or_ (RE.cmp (RE.loc 4 (by rfl) (by rfl)) (RE.cNone) ROp2.is_) (RE.or_ (RE.cmp (RE.get (RE.loc 4 (by rfl) (by rfl)) (RE.int)) (RE.int) ROp2.ne) (RE.one (RE.cmp (RE.get (RE.loc 4 (by rfl) (by rfl)) (RE.int)) (RE.get (RE.loc 3 (by rfl) (by rfl)) (RE.int)) ROp2.ne)))))) (RT.loc 7 (by rfl) (by rfl))) (RS.cons (RX.expr (RE.methL (RE.loc 1 (by rfl) (by rfl)) slot_list_append (by rfl) RC.append (RArgs.cons (RE.if_ (RB.or_ (RB.plain (RE.loc 6 (by rfl) (by rfl))) (RB.or_ (RB.plain (RE.loc 7 (by rfl) (by rfl))) (RB.orNil))) (RE.call (by rfl) (by rfl) (g_law_blank _) (k_law_blank _) (RC.le (RF.call R_law_blank) (Nat.le_of_ble_eq_true rfl)) (RArgs.cons (RE.get (RE.loc 3 (by rfl) (by rfl)) (RE.int)) (RArgs.nil))) (RE.loc 3 (by rfl) (by rfl))) (RArgs.nil)) (by with_unfolding_all rfl))) (RS.nil)))))) (RS.cons (RX.ret (RE.loc 1 (by rfl) (by rfl))) (RS.nil))))
    (by intro s vals _ hl; refine bt1 (fun x0 => ?_) vals hl; exact BindsTo.of_eq (by with_unfolding_all rfl))
theorem R_law_laid : RF (XX w hB mg mb sa sl) 3 (.ref 265) (F_law_laid) :=
  RF.fn (lv := 2) ["cells", "column", "some"] ["found", "k", "cell"] (by with_unfolding_all rfl) (by with_unfolding_all rfl)
    (fun L => RS.cons (RX.assign (RE.callT (by rfl) (by rfl) (by decide) (g_list _) b_list RC.list (RArgs.cons (RE.loc 0 (by rfl) (by rfl)) (RArgs.nil))) (RT.loc 3 (by rfl) (by rfl))) (RS.cons (RX.forE (RI.enum (by rfl) (g_enumerate _) (RArgs.cons (RE.loc 2 (by rfl) (by rfl)) (RArgs.nil))) (RT.tupleN (by rfl) (by rfl) (by rfl) (RTs.cons (RT.loc 4 (by rfl) (by rfl)) (RTs.cons (RT.loc 5 (by rfl) (by rfl)) (RTs.nil)))) (RS.cons (RX.if_ (RB.cmp (RE.bin (RE.loc 1 (by rfl) (by rfl)) (RE.loc 4 (by rfl) (by rfl)) ROp2.add) (RE.callB (by rfl) (by rfl) (by decide) (g_len _) b_len RC.len (RArgs.cons (RE.loc 3 (by rfl) (by rfl)) (RArgs.nil))) ROp2.lt) (RS.cons (RX.assign (RE.loc 5 (by rfl) (by rfl)) (RT.sub (RE.loc 3 (by rfl) (by rfl)) (RE.bin (RE.loc 1 (by rfl) (by rfl)) (RE.loc 4 (by rfl) (by rfl)) ROp2.add))) (RS.nil)) (RS.nil)) (RS.nil))) (RS.cons (RX.ret (RE.call (by rfl) (by rfl) (g_law_mended _) (k_law_mended _) (RC.le (RF.call R_law_mended) (Nat.le_of_ble_eq_true rfl)) (RArgs.cons (RE.loc 3 (by rfl) (by rfl)) (RArgs.nil)))) (RS.nil))))
    (by intro s vals _ hl; refine bt3 (fun x0 x1 x2 => ?_) vals hl; exact BindsTo.of_eq (by with_unfolding_all rfl))
theorem R_law_erased : RF (XX w hB mg mb sa sl) 3 (.ref 272) (F_law_erased) :=
  RF.fn (lv := 2) ["cells", "left", "right", "pen", "is_selective"] ["found", "at", "cell", "stays"] (by with_unfolding_all rfl) (by with_unfolding_all rfl)
    (fun L => RS.cons (RX.assign (RE.list (RArgs.nil)) (RT.loc 5 (by rfl) (by rfl))) (RS.cons (RX.forE (RI.enum (by rfl) (g_enumerate _) (RArgs.cons (RE.loc 0 (by rfl) (by rfl)) (RArgs.nil))) (RT.tupleN (by rfl) (by rfl) (by rfl) (RTs.cons (RT.loc 6 (by rfl) (by rfl)) (RTs.cons (RT.loc 7 (by rfl) (by rfl)) (RTs.nil)))) (RS.cons (RX.assign (RE.or_ (RE.un (RE.chain (RE.loc 1 (by rfl) (by rfl)) (RE.loc 6 (by rfl) (by rfl)) (RE.loc 2 (by rfl) (by rfl)) ROp2.le ROp2.le) ROp1.not_) (RE.one (RE.and_ (RE.loc 4 (by rfl) (by rfl)) (RE.one (RE.get (RE.loc 7 (by rfl) (by rfl)) (RE.int)))))) (RT.loc 8 (by rfl) (by rfl))) (RS.cons (RX.expr (RE.methL (RE.loc 5 (by rfl) (by rfl)) slot_list_append (by rfl) RC.append (RArgs.cons (RE.if_ (RB.plain (RE.loc 8 (by rfl) (by rfl))) (RE.loc 7 (by rfl) (by rfl)) (RE.call (by rfl) (by rfl) (g_law_blank _) (k_law_blank _) (RC.le (RF.call R_law_blank) (Nat.le_of_ble_eq_true rfl)) (RArgs.cons (RE.loc 3 (by rfl) (by rfl)) (RArgs.nil)))) (RArgs.nil)) (by with_unfolding_all rfl))) (RS.nil)))) (RS.cons (RX.ret (RE.call (by rfl) (by rfl) (g_law_mended _) (k_law_mended _) (RC.le (RF.call R_law_mended) (Nat.le_of_ble_eq_true rfl)) (RArgs.cons (RE.loc 5 (by rfl) (by rfl)) (RArgs.nil)))) (RS.nil))))
    (by intro s vals _ hl; refine bt5 (fun x0 x1 x2 x3 x4 => ?_) vals hl; exact BindsTo.of_eq (by with_unfolding_all rfl))
theorem R_law_deed : RF (XX w hB mg mb sa sl) 7 (.ref 277) (F_law_deed) :=
  RF.fn (lv := 6) ["deck", "line", "cells", "w"] ["way", "column", "right", "pen", "many", "left", "some", "is_selective", "blanks", "rest"] (by with_unfolding_all rfl) (by with_unfolding_all rfl)
    (fun L => RS.cons (RX.swap (names := ["way", "column", "right"]) (RE.tuple (RArgs.cons (RE.call (by rfl) (by rfl) (g_law_draw _) (k_law_draw _) (RC.le (RF.call R_law_draw) (Nat.le_of_ble_eq_true rfl)) (RArgs.cons (RE.loc 0 (by rfl) (by rfl)) (RArgs.cons (RE.int) (RArgs.nil)))) (RArgs.cons (RE.call (by rfl) (by rfl) (g_law_draw _) (k_law_draw _) (RC.le (RF.call R_law_draw) (Nat.le_of_ble_eq_true rfl)) (RArgs.cons (RE.loc 0 (by rfl) (by rfl)) (RArgs.cons (RE.int) (RArgs.nil)))) (RArgs.cons (RE.bin (RE.int) (RE.call (by rfl) (by rfl) (g_law_draw _) (k_law_draw _) (RC.le (RF.call R_law_draw) (Nat.le_of_ble_eq_true rfl)) (RArgs.cons (RE.loc 0 (by rfl) (by rfl)) (RArgs.cons (RE.int) (RArgs.nil)))) ROp2.sub) (RArgs.nil))))) (RTs.bind (RTb.loc 6 (by rfl) (by rfl)) (RTs.bind (RTb.loc 5 (by rfl) (by rfl)) (RTs.bind (RTb.loc 4 (by rfl) (by rfl)) (RTs.nil))))) (RS.cons (RX.swap (names := ["pen", "many"]) (RE.tuple (RArgs.cons (RE.get (RE.glob (by rfl) (by rfl) (g_law_pens _) hv_law_pens) (RE.call (by rfl) (by rfl) (g_law_draw _) (k_law_draw _) (RC.le (RF.call R_law_draw) (Nat.le_of_ble_eq_true rfl)) (RArgs.cons (RE.loc 0 (by rfl) (by rfl)) (RArgs.cons (RE.int) (RArgs.nil))))) (RArgs.cons (RE.bin (RE.int) (RE.call (by rfl) (by rfl) (g_law_draw _) (k_law_draw _) (RC.le (RF.call R_law_draw) (Nat.le_of_ble_eq_true rfl)) (RArgs.cons (RE.loc 0 (by rfl) (by rfl)) (RArgs.cons (RE.int) (RArgs.nil)))) ROp2.add) (RArgs.nil)))) (RTs.bind (RTb.loc 8 (by rfl) (by rfl)) (RTs.bind (RTb.loc 7 (by rfl) (by rfl)) (RTs.nil)))) (RS.cons (RX.assign (RE.callB (by rfl) (by rfl) (by decide) (g_min _) b_min RC.min (RArgs.cons (RE.loc 5 (by rfl) (by rfl)) (RArgs.cons (RE.loc 6 (by rfl) (by rfl)) (RArgs.nil)))) (RT.loc 9 (by rfl) (by rfl))) (RS.cons (RX.if_ (RB.cmp (RE.loc 4 (by rfl) (by rfl)) (RE.int) ROp2.lt) (RS.cons (RX.assign (RE.call (by rfl) (by rfl) (g_law_sign _) (k_law_sign _) (RC.le (RF.call R_law_sign) (Nat.le_of_ble_eq_true rfl)) (RArgs.cons (RE.loc 0 (by rfl) (by rfl)) (RArgs.cons (RE.loc 3 (by rfl) (by rfl)) (RArgs.nil)))) (RT.loc 10 (by rfl) (by rfl))) (RS.cons (RX.expr (RE.meth (RE.loc 1 (by rfl) (by rfl)) (mg_put _) (mf_put _) (mt_put _) (mk_put _) (RC.le (RF.call R_L_put) (Nat.le_of_ble_eq_true rfl)) (RArgs.cons (RE.loc 5 (by rfl) (by rfl)) (RArgs.cons (RE.take (RE.get (RE.loc 10 (by rfl) (by rfl)) (RE.int)) (RE.int)) (RArgs.nil))) (by with_unfolding_all rfl))) (RS.cons (RX.ret (RE.call (by rfl) (by rfl) (g_law_laid _) (k_law_laid _) (RC.le (RF.call R_law_laid) (Nat.le_of_ble_eq_true rfl)) (RArgs.cons (RE.loc 2 (by rfl) (by rfl)) (RArgs.cons (RE.loc 5 (by rfl) (by rfl)) (RArgs.cons (RE.loc 10 (by rfl) (by rfl)) (RArgs.nil)))))) (RS.nil)))) (RS.nil)) (RS.cons (RX.if_ (RB.cmp (RE.loc 4 (by rfl) (by rfl)) (RE.int) ROp2.eq) (RS.cons (RX.assign (RE.bin (RE.call (by rfl) (by rfl) (g_law_sign _) (k_law_sign _) (RC.le (RF.call R_law_sign) (Nat.le_of_ble_eq_true rfl)) (RArgs.cons (RE.loc 0 (by rfl) (by rfl)) (RArgs.cons (RE.loc 3 (by rfl) (by rfl)) (RArgs.nil)))) (RE.call (by rfl) (by rfl) (g_law_sign _) (k_law_sign _) (RC.le (RF.call R_law_sign) (Nat.le_of_ble_eq_true rfl)) (RArgs.cons (RE.loc 0 (by rfl) (by rfl)) (RArgs.cons (RE.loc 3 (by rfl) (by rfl)) (RArgs.nil)))) ROp2.add) (RT.loc 10 (by rfl) (by rfl))) (RS.cons (RX.expr (RE.meth (RE.loc 1 (by rfl) (by rfl)) (mg_put_cells _) (mf_put_cells _) (mt_put_cells _) (mk_put_cells _) (RC.le (RF.call R_L_put_cells) (Nat.le_of_ble_eq_true rfl)) (RArgs.cons (RE.loc 9 (by rfl) (by rfl)) (RArgs.cons (RE.comp CompOk.plain (RI.seq (RE.loc 10 (by rfl) (by rfl))) (fun Ca => RIfs.nil) (fun Ca => RE.take (RE.loc 0 (by rfl) (by rfl)) (RE.int))) (RArgs.nil))) (by with_unfolding_all rfl))) (RS.cons (RX.ret (RE.call (by rfl) (by rfl) (g_law_laid _) (k_law_laid _) (RC.le (RF.call R_law_laid) (Nat.le_of_ble_eq_true rfl)) (RArgs.cons (RE.loc 2 (by rfl) (by rfl)) (RArgs.cons (RE.loc 9 (by rfl) (by rfl)) (RArgs.cons (RE.loc 10 (by rfl) (by rfl)) (RArgs.nil)))))) (RS.nil)))) (RS.nil)) (RS.cons (RX.if_ (RB.cmp (RE.loc 4 (by rfl) (by rfl)) (RE.int) ROp2.eq) (RS.cons (RX.assign (RE.tuple (RArgs.cons (RE.bool) (RArgs.cons (RE.cmp (RE.loc 8 (by rfl) (by rfl)) (RE.int) ROp2.gt) (RArgs.nil)))) (RT.tupleN (by rfl) (by rfl) (by rfl) (RTs.cons (RT.attrC (RE.loc 1 (by rfl) (by rfl)) (s_is_wrapped _)) (RTs.cons (RT.loc 11 (by rfl) (by rfl)) (RTs.nil))))) (RS.cons (RX.expr (RE.meth (RE.loc 1 (by rfl) (by rfl)) (mg_erase _) (mf_erase _) (mt_erase _) (mk_erase _) (RC.le (RF.call R_L_erase) (Nat.le_of_ble_eq_true rfl)) (RArgs.cons (RE.loc 9 (by rfl) (by rfl)) (RArgs.cons (RE.loc 6 (by rfl) (by rfl)) (RArgs.cons (RE.loc 7 (by rfl) (by rfl)) (RArgs.cons (RE.loc 11 (by rfl) (by rfl)) (RArgs.nil))))) (by with_unfolding_all rfl))) (RS.cons (RX.if_ (RB.or_ (RB.cmp (RE.loc 6 (by rfl) (by rfl)) (RE.int) ROp2.lt) (RB.or_ (RB.not_ (RB.plain (RE.loc 11 (by rfl) (by rfl)))) (RB.orNil))) (RS.cons (RX.assign (RE.and_ (RE.get (RE.loc 3 (by rfl) (by rfl)) (RE.str)) (RE.one (RE.cmp (RE.attrC (RE.loc 1 (by rfl) (by rfl)) (a_is_wrapped _)) (RE.cmp (RE.loc 6 (by rfl) (by rfl)) (RE.int) ROp2.lt) ROp2.eq))) (RT.sub (RE.loc 3 (by rfl) (by rfl)) (RE.str))) (RS.nil)) (RS.nil)) (RS.cons (RX.ret (RE.call (by rfl) (by rfl) (g_law_erased _) (k_law_erased _) (RC.le (RF.call R_law_erased) (Nat.le_of_ble_eq_true rfl)) (RArgs.cons (RE.loc 2 (by rfl) (by rfl)) (RArgs.cons (RE.loc 9 (by rfl) (by rfl)) (RArgs.cons (RE.loc 6 (by rfl) (by rfl)) (RArgs.cons (RE.loc 7 (by rfl) (by rfl)) (RArgs.cons (RE.loc 11 (by rfl) (by rfl)) (RArgs.nil)))))))) (RS.nil))))) (RS.nil)) (RS.cons (RX.if_ (RB.cmp (RE.loc 4 (by rfl) (by rfl)) (RE.int) ROp2.eq) (RS.cons (RX.assign (RE.bin (RE.list (RArgs.cons (RE.call (by rfl) (by rfl) (g_law_blank _) (k_law_blank _) (RC.le (RF.call R_law_blank) (Nat.le_of_ble_eq_true rfl)) (RArgs.cons (RE.loc 7 (by rfl) (by rfl)) (RArgs.nil))) (RArgs.nil))) (RE.loc 8 (by rfl) (by rfl)) ROp2.mul) (RT.loc 12 (by rfl) (by rfl))) (RS.cons (RX.if_ (RB.cmp (RE.bin (RE.loc 8 (by rfl) (by rfl)) (RE.int) ROp2.mod) (RE.int) ROp2.eq) (RS.cons (RX.expr (RE.meth (RE.loc 1 (by rfl) (by rfl)) (mg_insert _) (mf_insert _) (mt_insert _) (mk_insert _) (RC.le (RF.call R_L_insert) (Nat.le_of_ble_eq_true rfl)) (RArgs.cons (RE.loc 9 (by rfl) (by rfl)) (RArgs.cons (RE.loc 8 (by rfl) (by rfl)) (RArgs.cons (RE.loc 6 (by rfl) (by rfl)) (RArgs.cons (RE.loc 7 (by rfl) (by rfl)) (RArgs.nil))))) (by with_unfolding_all rfl))) (RS.cons (RX.ret (RE.call (by rfl) (by rfl) (g_law_mended _) (k_law_mended _) (RC.le (RF.call R_law_mended) (Nat.le_of_ble_eq_true rfl)) (RArgs.cons (RE.bin (RE.bin (RE.slice (RE.loc 2 (by rfl) (by rfl)) (RPart.no) (RPart.yes (RE.loc 9 (by rfl) (by rfl)))) (RE.slice (RE.bin (RE.loc 12 (by rfl) (by rfl)) (RE.slice (RE.loc 2 (by rfl) (by rfl)) (RPart.yes (RE.loc 9 (by rfl) (by rfl))) (RPart.yes (RE.bin (RE.loc 6 (by rfl) (by rfl)) (RE.int) ROp2.add))) ROp2.add) (RPart.no) (RPart.yes (RE.bin (RE.bin (RE.loc 6 (by rfl) (by rfl)) (RE.int) ROp2.add) (RE.loc 9 (by rfl) (by rfl)) ROp2.sub))) ROp2.add) (RE.slice (RE.loc 2 (by rfl) (by rfl)) (RPart.yes (RE.bin (RE.loc 6 (by rfl) (by rfl)) (RE.int) ROp2.add)) (RPart.no)) ROp2.add) (RArgs.nil)))) (RS.nil))) (RS.nil)) (RS.cons (RX.expr (RE.meth (RE.loc 1 (by rfl) (by rfl)) (mg_delete _) (mf_delete _) (mt_delete _) (mk_delete _) (RC.le (RF.call R_L_delete) (Nat.le_of_ble_eq_true rfl)) (RArgs.cons (RE.loc 9 (by rfl) (by rfl)) (RArgs.cons (RE.loc 8 (by rfl) (by rfl)) (RArgs.cons (RE.loc 6 (by rfl) (by rfl)) (RArgs.cons (RE.loc 7 (by rfl) (by rfl)) (RArgs.nil))))) (by with_unfolding_all rfl))) (RS.cons (RX.assign (RE.bin (RE.slice (RE.loc 2 (by rfl) (by rfl)) (RPart.yes (RE.bin (RE.loc 9 (by rfl) (by rfl)) (RE.loc 8 (by rfl) (by rfl)) ROp2.add)) (RPart.yes (RE.bin (RE.loc 6 (by rfl) (by rfl)) (RE.int) ROp2.add))) (RE.loc 12 (by rfl) (by rfl)) ROp2.add) (RT.loc 13 (by rfl) (by rfl))) (RS.cons (RX.ret (RE.call (by rfl) (by rfl) (g_law_mended _) (k_law_mended _) (RC.le (RF.call R_law_mended) (Nat.le_of_ble_eq_true rfl)) (RArgs.cons (RE.bin (RE.bin (RE.slice (RE.loc 2 (by rfl) (by rfl)) (RPart.no) (RPart.yes (RE.loc 9 (by rfl) (by rfl)))) (RE.slice (RE.loc 13 (by rfl) (by rfl)) (RPart.no) (RPart.yes (RE.bin (RE.bin (RE.loc 6 (by rfl) (by rfl)) (RE.int) ROp2.add) (RE.loc 9 (by rfl) (by rfl)) ROp2.sub))) ROp2.add) (RE.slice (RE.loc 2 (by rfl) (by rfl)) (RPart.yes (RE.bin (RE.loc 6 (by rfl) (by rfl)) (RE.int) ROp2.add)) (RPart.no)) ROp2.add) (RArgs.nil)))) (RS.nil)))))) (RS.nil)) (RS.cons (RX.expr (RE.meth (RE.loc 1 (by rfl) (by rfl)) (mg_fill _) (mf_fill _) (mt_fill _) (mk_fill _) (RC.le (RF.call R_L_fill) (Nat.le_of_ble_eq_true rfl)) (RArgs.cons (RE.loc 9 (by rfl) (by rfl)) (RArgs.cons (RE.loc 6 (by rfl) (by rfl)) (RArgs.cons (RE.tuple (RArgs.cons (RE.tuple (RArgs.cons (RE.int) (RArgs.nil))) (RArgs.cons (RE.int) (RArgs.cons (RE.loc 7 (by rfl) (by rfl)) (RArgs.cons (RE.bool) (RArgs.nil)))))) (RArgs.nil)))) (by with_unfolding_all rfl))) (RS.cons (RX.ret (RE.call (by rfl) (by rfl) (g_law_mended _) (k_law_mended _) (RC.le (RF.call R_law_mended) (Nat.le_of_ble_eq_true rfl)) (RArgs.cons (RE.bin (RE.bin (RE.slice (RE.loc 2 (by rfl) (by rfl)) (RPart.no) (RPart.yes (RE.loc 9 (by rfl) (by rfl)))) (RE.bin (RE.list (RArgs.cons (RE.tuple (RArgs.cons (RE.tuple (RArgs.cons (RE.int) (RArgs.nil))) (RArgs.cons (RE.int) (RArgs.cons (RE.loc 7 (by rfl) (by rfl)) (RArgs.cons (RE.bool) (RArgs.cons (RE.int) (RArgs.nil))))))) (RArgs.nil))) (RE.bin (RE.bin (RE.loc 6 (by rfl) (by rfl)) (RE.int) ROp2.add) (RE.loc 9 (by rfl) (by rfl)) ROp2.sub) ROp2.mul) ROp2.add) (RE.slice (RE.loc 2 (by rfl) (by rfl)) (RPart.yes (RE.bin (RE.loc 6 (by rfl) (by rfl)) (RE.int) ROp2.add)) (RPart.no)) ROp2.add) (RArgs.nil)))) (RS.nil))))))))))
    (by intro s vals _ hl; refine bt4 (fun x0 x1 x2 x3 => ?_) vals hl; exact BindsTo.of_eq (by with_unfolding_all rfl))
theorem R_law_is_so : RF (XX w hB mg mb sa sl) 1 (.ref 282) (F_law_is_so) :=
  RF.fn (lv := 0) ["line", "cells"] ["told"] (by with_unfolding_all rfl) (by with_unfolding_all rfl)
    (fun L => RS.cons (RX.asgComp (by rfl) CompOk.plain (RI.seq (RE.attrC (RE.loc 0 (by rfl) (by rfl)) (a_cells _))) (fun Ca => RIfs.nil) (fun Ca => RE.callT (by rfl) (by rfl) (by decide) (g_tuple _) b_tuple RC.tuple (RArgs.cons (RE.loc 0 (by rfl) (by rfl)) (RArgs.nil))) (RT.loc 2 (by rfl) (by rfl))) (RS.cons (RX.if_ (RB.cmp (RE.comp CompOk.plain (RI.seq (RE.loc 2 (by rfl) (by rfl))) (fun Ca => RIfs.nil) (fun Ca => RE.take (RE.loc 0 (by rfl) (by rfl)) (RE.int))) (RE.comp CompOk.plain (RI.seq (RE.loc 1 (by rfl) (by rfl))) (fun Ca => RIfs.nil) (fun Ca => RE.take (RE.loc 0 (by rfl) (by rfl)) (RE.int))) ROp2.ne) (RS.cons (RX.ret (RE.bool)) (RS.nil)) (RS.nil)) (RS.cons (RX.ret (RE.cmp (RE.comp CompOk.plain (RI.seq (RE.loc 2 (by rfl) (by rfl))) (fun Ca => RIfs.one (RB.cmp (RE.get (RE.loc 0 (by rfl) (by rfl)) (RE.int)) (RE.int) ROp2.gt)) (fun Ca => RE.get (RE.loc 0 (by rfl) (by rfl)) (RE.int))) (RE.comp CompOk.plain (RI.seq (RE.loc 1 (by rfl) (by rfl))) (fun Ca => RIfs.one (RB.cmp (RE.get (RE.loc 0 (by rfl) (by rfl)) (RE.int)) (RE.int) ROp2.gt)) (fun Ca => RE.get (RE.loc 0 (by rfl) (by rfl)) (RE.int))) ROp2.eq)) (RS.nil))))
    (by intro s vals _ hl; refine bt2 (fun x0 x1 => ?_) vals hl; exact BindsTo.of_eq (by with_unfolding_all rfl))
theorem R_law_codes : RF (XX w hB mg mb sa sl) 3 (.ref 289) (F_law_codes) :=
  RF.fn (lv := 2) ["cells"] ["found", "cell"] (by with_unfolding_all rfl) (by with_unfolding_all rfl)
    (fun L => RS.cons (RX.assign (RE.list (RArgs.nil)) (RT.loc 1 (by rfl) (by rfl))) (RS.cons (RX.for_ (RI.seq (RE.call (by rfl) (by rfl) (g_law_mended _) (k_law_mended _) (RC.le (RF.call R_law_mended) (Nat.le_of_ble_eq_true rfl)) (RArgs.cons (RE.loc 0 (by rfl) (by rfl)) (RArgs.nil)))) (RT.loc 2 (by rfl) (by rfl)) (RS.cons (RX.expr (RE.methL (RE.loc 1 (by rfl) (by rfl)) PySem.F.slot_list_extend (by rfl) RC.extend (RArgs.cons (RE.if_ (RB.cmp (RE.get (RE.loc 2 (by rfl) (by rfl)) (RE.int)) (RE.tuple (RArgs.nil)) ROp2.ne) (RE.callT (by rfl) (by rfl) (by decide) (g_list _) b_list RC.list (RArgs.cons (RE.get (RE.loc 2 (by rfl) (by rfl)) (RE.int)) (RArgs.nil))) (RE.bin (RE.list (RArgs.cons (RE.int) (RArgs.nil))) (RE.callT (by rfl) (by rfl) (by decide) (g_int _) b_int RC.int (RArgs.cons (RE.cmp (RE.get (RE.loc 2 (by rfl) (by rfl)) (RE.int)) (RE.int) ROp2.eq) (RArgs.nil))) ROp2.mul)) (RArgs.nil)) (by with_unfolding_all rfl))) (RS.nil))) (RS.cons (RX.while_ 60 (RB.and_ (RB.cmp (RE.loc 1 (by rfl) (by rfl)) (RE.list (RArgs.nil)) ROp2.ne) (RB.and_ (RB.cmp (RE.get (RE.loc 1 (by rfl) (by rfl)) (RE.un (RE.int) ROp1.neg)) (RE.int) ROp2.eq) (RB.andNil))) (RS.cons (RX.expr (RE.methL (RE.loc 1 (by rfl) (by rfl)) PySem.F.slot_list_pop (by rfl) RC.pop (RArgs.nil) (by with_unfolding_all rfl))) (RS.nil))) (RS.cons (RX.ret (RE.loc 1 (by rfl) (by rfl))) (RS.nil)))))
    (by intro s vals _ hl; refine bt1 (fun x0 => ?_) vals hl; exact BindsTo.of_eq (by with_unfolding_all rfl))
end
end Mine
end
-- part WL
section
open PySem PySem.W PySem.Calls PyProof.Rows
set_option maxRecDepth 100000
set_option maxHeartbeats 4000000
namespace Mine
section
variable {w : World} {hB : Heap} {mg mb : Str → Option Value} {sa : Addr} {sl : List Int}

noncomputable def lawStmt : Stmt := PySem.Challenge.pw_og0243_01.main.body.getLast!
noncomputable def lawBody : List Stmt := match lawStmt with | .FunctionDef _ _ b .. => b | _ => []
noncomputable def lawScope : Scope := match lawStmt with | .FunctionDef _ _ _ _ _ _ s .. => s | _ => default
noncomputable def lawNs : List Str := ["script", "deck", "line", "w", "cells", "turn", "was", "old", "left", "right", "used", "columns", "other", "due"]
noncomputable abbrev LC (w : World) (hB : Heap) (mg mb : Str → Option Value) (sa : Addr) (sl : List Int) (L a : Addr) (cd : Value) : Cn := ⟨XX w hB mg mb sa sl, 7, lawNs, envOfC "law" lawScope L a cd⟩
noncomputable def lawCNames : List (Str × NameKind) := [((".0" : Str), NameKind.local), (("k" : Str), NameKind.local), (("_law_blank" : Str), NameKind.globalImplicit), (("_law_pens" : Str), NameKind.globalImplicit), (("cells" : Str), NameKind.free)]
theorem co_law {L a : Addr} {cd : Value} {scope : Scope} (h : scope.names = lawCNames) (hk : scope.kind = .function) :
    CompOk (LC w hB mg mb sa sl L a cd) scope [("cells", L + 1)] "k" [("cells", 4)] where
  clos := by unfold closureFor; rw [h]; rfl
  kind := hk
  names := by rw [h]; decide
  cell := by rw [h]; decide
  hx := by rw [h]; rfl
  nd := by decide
  fr := by
    intro n j hm
    have hm := List.mem_singleton.mp hm
    cases hm
    refine ⟨by rfl, ?_, by rfl, by rfl⟩
    unfold relabel
    simp only [h]
    rfl
  sub := fun n c h => h
theorem R_law (L a : Addr) (cd : Value) : RS (LC w hB mg mb sa sl L a cd) lawBody (m_law sa sl) :=
  RS.cons (RX.assign (RE.call (by rfl) (by rfl) (g_law_deck _) (k_law_deck _) (RC.le (RF.call R_law_deck) (Nat.le_of_ble_eq_true rfl)) (RArgs.cons (RE.loc 0 (by rfl) (by rfl)) (RArgs.nil))) (RT.loc 1 (by rfl) (by rfl))) (RS.cons (RX.swap (names := ["line", "w"]) (RE.tuple (RArgs.cons (RE.call (by rfl) (by rfl) (g_Line _) (k_Line _) (RC.le (RF.call R_Line) (Nat.le_of_ble_eq_true rfl)) (RArgs.cons (RE.int) (RArgs.cons (RE.get (RE.glob (by rfl) (by rfl) (g_law_pens _) hv_law_pens) (RE.int)) (RArgs.nil)))) (RArgs.cons (RE.dict (RPairs.cons (RE.int) (RPairs.cons (RE.bool) (RPairs.nil)))) (RArgs.nil)))) (RTs.bind (RTb.loc 3 (by rfl) (by rfl)) (RTs.bind (RTb.loc 2 (by rfl) (by rfl)) (RTs.nil)))) (RS.cons (RX.assign (RE.bin (RE.list (RArgs.cons (RE.call (by rfl) (by rfl) (g_law_blank _) (k_law_blank _) (RC.le (RF.call R_law_blank) (Nat.le_of_ble_eq_true rfl)) (RArgs.cons (RE.get (RE.glob (by rfl) (by rfl) (g_law_pens _) hv_law_pens) (RE.int)) (RArgs.nil))) (RArgs.nil))) (RE.int) ROp2.mul) (RT.loc 4 (by rfl) (by rfl))) (RS.cons (RX.if_ (RB.not_ (RB.plain (RE.call (by rfl) (by rfl) (g_law_is_so _) (k_law_is_so _) (RC.le (RF.call R_law_is_so) (Nat.le_of_ble_eq_true rfl)) (RArgs.cons (RE.loc 2 (by rfl) (by rfl)) (RArgs.cons (RE.loc 4 (by rfl) (by rfl)) (RArgs.nil)))))) (RS.cons (RX.ret (RE.bool)) (RS.nil)) (RS.nil)) (RS.cons (RX.assign (RE.tuple (RArgs.cons (RE.call (by rfl) (by rfl) (g_Line _) (k_Line _) (RC.le (RF.call R_Line) (Nat.le_of_ble_eq_true rfl)) (RArgs.cons (RE.int) (RArgs.cons (RE.get (RE.glob (by rfl) (by rfl) (g_law_pens _) hv_law_pens) (RE.int)) (RArgs.nil)))) (RArgs.cons (RE.bin (RE.list (RArgs.cons (RE.call (by rfl) (by rfl) (g_law_blank _) (k_law_blank _) (RC.le (RF.call R_law_blank) (Nat.le_of_ble_eq_true rfl)) (RArgs.cons (RE.get (RE.glob (by rfl) (by rfl) (g_law_pens _) hv_law_pens) (RE.int)) (RArgs.nil))) (RArgs.nil))) (RE.int) ROp2.mul) (RArgs.nil)))) (RT.tupleN (by rfl) (by rfl) (by rfl) (RTs.cons (RT.loc 2 (by rfl) (by rfl)) (RTs.cons (RT.loc 4 (by rfl) (by rfl)) (RTs.nil))))) (RS.cons (RX.for_ (RI.range (by rfl) (g_range _) (RArgs.cons (RE.bin (RE.int) (RE.call (by rfl) (by rfl) (g_law_draw _) (k_law_draw _) (RC.le (RF.call R_law_draw) (Nat.le_of_ble_eq_true rfl)) (RArgs.cons (RE.loc 1 (by rfl) (by rfl)) (RArgs.cons (RE.int) (RArgs.nil)))) ROp2.add) (RArgs.nil))) (RT.loc 5 (by rfl) (by rfl)) (RS.cons (RX.swap (names := ["was", "old"]) (RE.tuple (RArgs.cons (RE.meth (RE.loc 2 (by rfl) (by rfl)) (mg_copy _) (mf_copy _) (mt_copy _) (mk_copy _) (RC.le (RF.call R_L_copy) (Nat.le_of_ble_eq_true rfl)) (RArgs.nil) (by with_unfolding_all rfl)) (RArgs.cons (RE.loc 4 (by rfl) (by rfl)) (RArgs.nil)))) (RTs.bind (RTb.loc 7 (by rfl) (by rfl)) (RTs.bind (RTb.loc 6 (by rfl) (by rfl)) (RTs.nil)))) (RS.cons (RX.assign (RE.call (by rfl) (by rfl) (g_law_deed _) (k_law_deed _) (RC.le (RF.call R_law_deed) (Nat.le_of_ble_eq_true rfl)) (RArgs.cons (RE.loc 1 (by rfl) (by rfl)) (RArgs.cons (RE.loc 2 (by rfl) (by rfl)) (RArgs.cons (RE.loc 4 (by rfl) (by rfl)) (RArgs.cons (RE.loc 3 (by rfl) (by rfl)) (RArgs.nil)))))) (RT.loc 4 (by rfl) (by rfl))) (RS.cons (RX.if_ (RB.or_ (RB.not_ (RB.plain (RE.call (by rfl) (by rfl) (g_law_is_so _) (k_law_is_so _) (RC.le (RF.call R_law_is_so) (Nat.le_of_ble_eq_true rfl)) (RArgs.cons (RE.loc 2 (by rfl) (by rfl)) (RArgs.cons (RE.loc 4 (by rfl) (by rfl)) (RArgs.nil)))))) (RB.or_ (RB.not_ (RB.plain (RE.call (by rfl) (by rfl) (g_law_is_so _) (k_law_is_so _) (RC.le (RF.call R_law_is_so) (Nat.le_of_ble_eq_true rfl)) (RArgs.cons (RE.loc 6 (by rfl) (by rfl)) (RArgs.cons (RE.loc 7 (by rfl) (by rfl)) (RArgs.nil)))))) (RB.or_ (RB.not_ (RB.plain (RE.get (RE.loc 3 (by rfl) (by rfl)) (RE.str)))) (RB.orNil)))) (RS.cons (RX.ret (RE.bool)) (RS.nil)) (RS.nil)) (RS.nil))))) (RS.cons (RX.assign (RE.call (by rfl) (by rfl) (g_law_draw _) (k_law_draw _) (RC.le (RF.call R_law_draw) (Nat.le_of_ble_eq_true rfl)) (RArgs.cons (RE.loc 1 (by rfl) (by rfl)) (RArgs.cons (RE.int) (RArgs.nil)))) (RT.loc 8 (by rfl) (by rfl))) (RS.cons (RX.assign (RE.bin (RE.loc 8 (by rfl) (by rfl)) (RE.call (by rfl) (by rfl) (g_law_draw _) (k_law_draw _) (RC.le (RF.call R_law_draw) (Nat.le_of_ble_eq_true rfl)) (RArgs.cons (RE.loc 1 (by rfl) (by rfl)) (RArgs.cons (RE.bin (RE.int) (RE.loc 8 (by rfl) (by rfl)) ROp2.sub) (RArgs.nil)))) ROp2.add) (RT.loc 9 (by rfl) (by rfl))) (RS.cons (RX.asgComp (by rfl) (co_law (by rfl) (by rfl)) (RI.range (by rfl) (g_range _) (RArgs.cons (RE.int) (RArgs.nil))) (fun Ca => RIfs.one (RB.cmp (RE.take (RE.get (RE.loc 1 (by rfl) (by rfl)) (RE.loc 0 (by rfl) (by rfl))) (RE.int)) (RE.take (RE.call (by rfl) (by rfl) (g_law_blank _) (k_law_blank _) (RC.le (RF.call R_law_blank) (Nat.le_of_ble_eq_true rfl)) (RArgs.cons (RE.get (RE.glob (by rfl) (by rfl) (g_law_pens _) hv_law_pens) (RE.int)) (RArgs.nil))) (RE.int)) ROp2.ne)) (fun Ca => RE.bin (RE.loc 0 (by rfl) (by rfl)) (RE.int) ROp2.add) (RT.loc 10 (by rfl) (by rfl))) (RS.cons (RX.if_ (RB.or_ (RB.cmp (RE.callT (by rfl) (by rfl) (by decide) (g_list _) b_list RC.list (RArgs.cons (RE.meth (RE.loc 2 (by rfl) (by rfl)) (mg_codes _) (mf_codes _) (mt_codes _) (mk_codes _) (RC.le (RF.call R_L_codes) (Nat.le_of_ble_eq_true rfl)) (RArgs.nil) (by with_unfolding_all rfl)) (RArgs.nil))) (RE.call (by rfl) (by rfl) (g_law_codes _) (k_law_codes _) (RC.le (RF.call R_law_codes) (Nat.le_of_ble_eq_true rfl)) (RArgs.cons (RE.loc 4 (by rfl) (by rfl)) (RArgs.nil))) ROp2.ne) (RB.or_ (RB.cmp (RE.callT (by rfl) (by rfl) (by decide) (g_list _) b_list RC.list (RArgs.cons (RE.meth (RE.loc 2 (by rfl) (by rfl)) (mg_codes _) (mf_codes _) (mt_codes _) (mk_codes _) (RC.le (RF.call R_L_codes) (Nat.le_of_ble_eq_true rfl)) (RArgs.cons (RE.loc 8 (by rfl) (by rfl)) (RArgs.cons (RE.loc 9 (by rfl) (by rfl)) (RArgs.nil))) (by with_unfolding_all rfl)) (RArgs.nil))) (RE.call (by rfl) (by rfl) (g_law_codes _) (k_law_codes _) (RC.le (RF.call R_law_codes) (Nat.le_of_ble_eq_true rfl)) (RArgs.cons (RE.slice (RE.loc 4 (by rfl) (by rfl)) (RPart.yes (RE.loc 8 (by rfl) (by rfl))) (RPart.yes (RE.bin (RE.loc 9 (by rfl) (by rfl)) (RE.int) ROp2.add))) (RArgs.nil))) ROp2.ne) (RB.orNil))) (RS.cons (RX.ret (RE.bool)) (RS.nil)) (RS.nil)) (RS.cons (RX.if_ (RB.or_ (RB.cmp (RE.meth (RE.loc 2 (by rfl) (by rfl)) (mg_used _) (mf_used _) (mt_used _) (mk_used _) (RC.le (RF.call R_L_used) (Nat.le_of_ble_eq_true rfl)) (RArgs.nil) (by with_unfolding_all rfl)) (RE.if_ (RB.cmp (RE.loc 10 (by rfl) (by rfl)) (RE.list (RArgs.nil)) ROp2.ne) (RE.get (RE.loc 10 (by rfl) (by rfl)) (RE.un (RE.int) ROp1.neg)) (RE.int)) ROp2.ne) (RB.or_ (RB.not_ (RB.plain (RE.meth (RE.meth (RE.loc 2 (by rfl) (by rfl)) (mg_copy _) (mf_copy _) (mt_copy _) (mk_copy _) (RC.le (RF.call R_L_copy) (Nat.le_of_ble_eq_true rfl)) (RArgs.nil) (by with_unfolding_all rfl)) (mg_equals _) (mf_equals _) (mt_equals _) (mk_equals _) (RC.le (RF.call R_L_equals) (Nat.le_of_ble_eq_true rfl)) (RArgs.cons (RE.loc 2 (by rfl) (by rfl)) (RArgs.nil)) (by with_unfolding_all rfl)))) (RB.orNil))) (RS.cons (RX.ret (RE.bool)) (RS.nil)) (RS.nil)) (RS.cons (RX.assign (RE.tuple (RArgs.cons (RE.bin (RE.int) (RE.call (by rfl) (by rfl) (g_law_draw _) (k_law_draw _) (RC.le (RF.call R_law_draw) (Nat.le_of_ble_eq_true rfl)) (RArgs.cons (RE.loc 1 (by rfl) (by rfl)) (RArgs.cons (RE.int) (RArgs.nil)))) ROp2.add) (RArgs.cons (RE.bool) (RArgs.nil)))) (RT.tupleN (by rfl) (by rfl) (by rfl) (RTs.cons (RT.loc 11 (by rfl) (by rfl)) (RTs.cons (RT.attrC (RE.loc 2 (by rfl) (by rfl)) (s_is_wrapped _)) (RTs.nil))))) (RS.cons (RX.assign (RE.meth (RE.loc 2 (by rfl) (by rfl)) (mg_resized _) (mf_resized _) (mt_resized _) (mk_resized _) (RC.le (RF.call R_L_resized) (Nat.le_of_ble_eq_true rfl)) (RArgs.cons (RE.loc 11 (by rfl) (by rfl)) (RArgs.cons (RE.get (RE.glob (by rfl) (by rfl) (g_law_pens _) hv_law_pens) (RE.int)) (RArgs.nil))) (by with_unfolding_all rfl)) (RT.loc 12 (by rfl) (by rfl))) (RS.cons (RX.assign (RE.call (by rfl) (by rfl) (g_law_mended _) (k_law_mended _) (RC.le (RF.call R_law_mended) (Nat.le_of_ble_eq_true rfl)) (RArgs.cons (RE.slice (RE.bin (RE.loc 4 (by rfl) (by rfl)) (RE.bin (RE.list (RArgs.cons (RE.call (by rfl) (by rfl) (g_law_blank _) (k_law_blank _) (RC.le (RF.call R_law_blank) (Nat.le_of_ble_eq_true rfl)) (RArgs.cons (RE.get (RE.glob (by rfl) (by rfl) (g_law_pens _) hv_law_pens) (RE.int)) (RArgs.nil))) (RArgs.nil))) (RE.int) ROp2.mul) ROp2.add) (RPart.no) (RPart.yes (RE.loc 11 (by rfl) (by rfl)))) (RArgs.nil))) (RT.loc 13 (by rfl) (by rfl))) (RS.cons (RX.ret (RE.and_ (RE.call (by rfl) (by rfl) (g_law_is_so _) (k_law_is_so _) (RC.le (RF.call R_law_is_so) (Nat.le_of_ble_eq_true rfl)) (RArgs.cons (RE.loc 12 (by rfl) (by rfl)) (RArgs.cons (RE.loc 13 (by rfl) (by rfl)) (RArgs.nil)))) (RE.and_ (RE.cmp (RE.attrC (RE.loc 12 (by rfl) (by rfl)) (a_is_wrapped _)) (RE.cmp (RE.loc 11 (by rfl) (by rfl)) (RE.int) ROp2.eq) ROp2.eq) (RE.one (RE.call (by rfl) (by rfl) (g_law_is_so _) (k_law_is_so _) (RC.le (RF.call R_law_is_so) (Nat.le_of_ble_eq_true rfl)) (RArgs.cons (RE.loc 2 (by rfl) (by rfl)) (RArgs.cons (RE.loc 4 (by rfl) (by rfl)) (RArgs.nil)))))))) (RS.nil)))))))))))))))
end
end Mine
end
-- part P1
section
open PySem PySem.W PySem.Calls PyProof.Rows
set_option maxRecDepth 100000
namespace Mine

structure Pen where
  a : Int
  b : Int
  c : Int
  d : Int
  e : Int
structure Cell where
  ch : List Int
  w : Int
  pen : Pen
  g : Bool
structure LCell where
  cell : Cell
  id : Int
noncomputable def ep (p : Pen) : Pen := ⟨0, -1, p.c, -1, 0⟩
noncomputable def blank (p : Pen) : Cell := ⟨[], 1, ep p, false⟩
noncomputable def lblank (p : Pen) : LCell := ⟨blank p, 0⟩
noncomputable def mR (c : LCell) : Option LCell → Bool
  | none => false
  | some f => f.cell.w == 0 && f.id == c.id
noncomputable def mL (c : LCell) : Option LCell → Bool
  | none => false
  | some f => f.cell.w == 2 && f.id == c.id
noncomputable def orph (near far : Option LCell) (c : LCell) : Bool := (c.cell.w == 2 && !mR c far) || (c.cell.w == 0 && !mL c near)
noncomputable def mendAt (near far : Option LCell) (c : LCell) : LCell := if orph near far c = true then lblank c.cell.pen else c
noncomputable def prev (N : List LCell) (i : Nat) : Option LCell := if i = 0 then none else N[i - 1]?
noncomputable def mend (N : List LCell) : List LCell := N.mapIdx fun i c => mendAt (prev N i) N[i + 1]? c

theorem mend_length (N : List LCell) : (mend N).length = N.length := by simp [mend]
theorem mend_get (N : List LCell) (i : Nat) : (mend N)[i]? = N[i]?.map (mendAt (prev N i) N[i + 1]?) := by simp [mend, List.getElem?_mapIdx]
theorem mendAt_one {near far : Option LCell} {c : LCell} (h : c.cell.w = 1) : mendAt near far c = c := by
  simp [mendAt, orph, h]
theorem mendAt_two {near far : Option LCell} {c : LCell} (h : c.cell.w = 2) : mendAt near far c = if mR c far = true then c else lblank c.cell.pen := by
  simp only [mendAt, orph, h]
  cases mR c far <;> simp
theorem mendAt_zero {near far : Option LCell} {c : LCell} (h : c.cell.w = 0) : mendAt near far c = if mL c near = true then c else lblank c.cell.pen := by
  simp only [mendAt, orph, h]
  cases mL c near <;> simp
theorem mendAt_or (near far : Option LCell) (c : LCell) : mendAt near far c = c ∨ mendAt near far c = lblank c.cell.pen := by
  unfold mendAt; split
  · exact .inr rfl
  · exact .inl rfl

noncomputable def okC (n : Int) (c : LCell) : Prop :=
  (c.cell.w = 0 ∧ c.cell.ch = [] ∨ c.cell.w = 1 ∨ c.cell.w = 2 ∧ c.cell.ch ≠ []) ∧ (c.cell.w ≠ 1 → c.id ≤ n) ∧ (∀ x ∈ c.cell.ch, x ≠ 32) ∧ c.cell.ch.length ≤ 1
theorem okC.le {n m : Int} {c : LCell} (h : okC n c) (l : n ≤ m) : okC m c := ⟨h.1, fun q => Int.le_trans (h.2.1 q) l, h.2.2⟩
theorem okC.w3 {n : Int} {c : LCell} (h : okC n c) : c.cell.w = 0 ∨ c.cell.w = 1 ∨ c.cell.w = 2 := by
  rcases h.1 with h | h | h
  · exact .inl h.1
  · exact .inr (.inl h)
  · exact .inr (.inr h.1)
theorem okC.lblank (n : Int) (p : Pen) : okC n (lblank p) := ⟨.inr (.inl rfl), fun h => absurd rfl h, by simp [Mine.lblank, Mine.blank], by simp [Mine.lblank, Mine.blank]⟩
noncomputable def Tie (c d : LCell) : Prop := c.cell.w ≠ 1 → d.cell.w ≠ 1 → c.id = d.id → c.cell.w ≠ d.cell.w ∧ c.cell.g = d.cell.g
theorem Tie.one {c d : LCell} (h : c.cell.w = 1 ∨ d.cell.w = 1) : Tie c d := fun a b => by
  rcases h with h | h
  · exact absurd h a
  · exact absurd h b
theorem Tie.symm {c d : LCell} (h : Tie c d) : Tie d c := fun a b e => ⟨fun q => (h b a e.symm).1 q.symm, (h b a e.symm).2.symm⟩
structure PI (n : Int) (N : List LCell) : Prop where
  ok : ∀ c ∈ N, okC n c
  rel : N.Pairwise Tie
structure Inv (n : Int) (M : List LCell) : Prop extends PI n M where
  mended : mend M = M

section
variable {n : Int} {M N P Q : List LCell}
theorem Inv.at (h : Inv n M) {i : Nat} {c : LCell} (e : M[i]? = some c) : mendAt (prev M i) M[i + 1]? c = c := by
  have := mend_get M i
  rw [h.mended, e] at this
  simpa using this.symm
theorem lblank_w (p : Pen) : (lblank p).cell.w = 1 := rfl
/-- a left half has its right one behind it -/
theorem Inv.right (h : Inv n M) {i : Nat} {c : LCell} (e : M[i]? = some c) (w : c.cell.w = 2) : ∃ d, M[i + 1]? = some d ∧ d.cell.w = 0 ∧ d.id = c.id := by
  have := h.at e
  rw [mendAt_two w] at this
  split at this
  · rename_i q
    cases e1 : M[i + 1]? with
    | none => rw [e1] at q; cases q
    | some d =>
      rw [e1] at q
      simp only [mR, Bool.and_eq_true, beq_iff_eq] at q
      exact ⟨d, rfl, q⟩
  · rw [← this, lblank_w] at w; exact absurd w (by decide)
theorem Inv.left (h : Inv n M) {i : Nat} {c : LCell} (e : M[i]? = some c) (w : c.cell.w = 0) : ∃ j d, i = j + 1 ∧ M[j]? = some d ∧ d.cell.w = 2 ∧ d.id = c.id := by
  have := h.at e
  rw [mendAt_zero w] at this
  split at this
  · rename_i q
    cases i with
    | zero => cases q
    | succ j =>
      simp only [prev, Nat.add_sub_cancel] at q
      rw [if_neg (by lia)] at q
      cases e1 : M[j]? with
      | none => rw [e1] at q; cases q
      | some d =>
        rw [e1] at q
        simp only [mL, Bool.and_eq_true, beq_iff_eq] at q
        exact ⟨j, d, rfl, e1, q⟩
  · rw [← this, lblank_w] at w; exact absurd w (by decide)
theorem PI.rel_at (h : PI n N) {i j : Nat} {c d : LCell} (hne : i ≠ j) (e1 : N[i]? = some c) (e2 : N[j]? = some d) : Tie c d := by
  have hp := List.pairwise_iff_getElem.mp h.rel
  obtain ⟨l1, rfl⟩ := List.getElem?_eq_some_iff.mp e1
  obtain ⟨l2, rfl⟩ := List.getElem?_eq_some_iff.mp e2
  rcases Nat.lt_or_gt_of_ne hne with q | q
  · exact hp i j l1 l2 q
  · exact (hp j i l2 l1 q).symm
theorem PI.w3 (h : PI n N) {i : Nat} {c : LCell} (e : N[i]? = some c) : c.cell.w = 0 ∨ c.cell.w = 1 ∨ c.cell.w = 2 := (h.ok c (List.mem_of_getElem? e)).w3
/-- halves that lie apart are of different signs -/
theorem Inv.far (h : Inv n M) {i j : Nat} {c d : LCell} (e1 : M[i]? = some c) (e2 : M[j]? = some d) (w1 : c.cell.w = 2) (w2 : d.cell.w = 0) (hne : j ≠ i + 1) : c.id ≠ d.id := by
  obtain ⟨f, e3, w3, hid⟩ := h.right e1 w1
  intro q
  have := h.rel_at hne e2 e3 (by rw [w2]; decide) (by rw [w3]; decide) (by rw [hid, q])
  exact this.1 (w2.trans w3.symm)
theorem Inv.guard (h : Inv n M) {i : Nat} {c d : LCell} (e1 : M[i]? = some c) (e2 : M[i + 1]? = some d) (w1 : c.cell.w = 2) (w2 : d.cell.w = 0) : c.cell.g = d.cell.g := by
  obtain ⟨f, e3, w3, hid⟩ := h.right e1 w1
  rw [e2] at e3; cases e3
  exact (h.rel_at (Nat.ne_of_lt (Nat.lt_succ_self i)) e1 e2 (by rw [w1]; decide) (by rw [w2]; decide) hid.symm).2

theorem mend_mend (h : ∀ c ∈ N, c.cell.w = 0 ∨ c.cell.w = 1 ∨ c.cell.w = 2) : mend (mend N) = mend N := by
  refine List.ext_getElem? fun i => ?_
  rw [mend_get (mend N)]
  cases e : N[i]? with
  | none => rw [mend_get N i, e]; rfl
  | some c =>
    rw [mend_get N i, e]
    simp only [Option.map_some]
    congr 1
    rcases mendAt_or (prev N i) N[i + 1]? c with q | q
    · rw [q]
      rcases h c (List.mem_of_getElem? e) with w | w | w
      · rw [mendAt_zero w] at q ⊢
        split at q
        · rename_i hm
          have : mL c (prev (mend N) i) = true := by
            cases i with
            | zero => cases hm
            | succ j =>
              simp only [prev, Nat.add_sub_cancel] at hm ⊢
              rw [if_neg (by lia)] at hm ⊢
              cases e1 : N[j]? with
              | none => rw [e1] at hm; cases hm
              | some d =>
                rw [e1] at hm
                simp only [mL, Bool.and_eq_true, beq_iff_eq] at hm
                rw [mend_get, e1, e, Option.map_some, mendAt_two hm.1]
                rw [if_pos (by simp [mR, w, hm.2])]
                simp [mL, hm]
          rw [if_pos this]
        · rw [← q, lblank_w] at w; exact absurd w (by decide)
      · exact mendAt_one w
      · rw [mendAt_two w] at q ⊢
        split at q
        · rename_i hm
          have : mR c (mend N)[i + 1]? = true := by
            cases e1 : N[i + 1]? with
            | none => rw [e1] at hm; cases hm
            | some d =>
              rw [e1] at hm
              simp only [mR, Bool.and_eq_true, beq_iff_eq] at hm
              rw [mend_get, e1, Option.map_some, mendAt_zero hm.1]
              have : mL d (prev N (i + 1)) = true := by
                simp only [prev, Nat.add_sub_cancel]
                rw [if_neg (by lia), e]
                simp [mL, w, hm.2]
              rw [if_pos this]
              simp [mR, hm]
          rw [if_pos this]
        · rw [← q, lblank_w] at w; exact absurd w (by decide)
    · rw [q]; exact mendAt_one rfl
theorem PI.inv (h : PI n N) : Inv n (mend N) where
  ok := by
    intro c hc
    obtain ⟨i, hi⟩ := List.mem_iff_getElem?.mp hc
    rw [mend_get] at hi
    cases e : N[i]? with
    | none => rw [e] at hi; cases hi
    | some d =>
      rw [e] at hi
      cases hi
      rcases mendAt_or (prev N i) N[i + 1]? d with q | q
      · rw [q]; exact h.ok d (List.mem_of_getElem? e)
      · rw [q]; exact okC.lblank _ _
  rel := by
    refine List.pairwise_iff_getElem.mpr fun i j hi hj hij => ?_
    have hi' : i < N.length := by rw [mend_length] at hi; exact hi
    have hj' : j < N.length := by rw [mend_length] at hj; exact hj
    have e1 := mend_get N i
    have e2 := mend_get N j
    rw [List.getElem?_eq_getElem hi, List.getElem?_eq_getElem hi'] at e1
    rw [List.getElem?_eq_getElem hj, List.getElem?_eq_getElem hj'] at e2
    simp only [Option.map_some, Option.some.injEq] at e1 e2
    rw [e1, e2]
    rcases mendAt_or (prev N i) N[i + 1]? N[i] with q | q
    · rcases mendAt_or (prev N j) N[j + 1]? N[j] with r | r
      · rw [q, r]; exact List.pairwise_iff_getElem.mp h.rel i j hi' hj' hij
      · rw [r]; exact Tie.one (.inr rfl)
    · rw [q]; exact Tie.one (.inl rfl)
  mended := mend_mend fun c hc => (h.ok c hc).w3

/-- no sign lies across the seam -/
noncomputable def NJ (P Q : List LCell) : Prop := ∀ c d, P[P.length - 1]? = some c → Q[0]? = some d → ¬ (c.cell.w = 2 ∧ d.cell.w = 0 ∧ c.id = d.id)
theorem mendAt_far {near f1 f2 : Option LCell} {c : LCell} (h : c.cell.w = 2 → mR c f1 = mR c f2) : mendAt near f1 c = mendAt near f2 c := by
  unfold mendAt orph
  by_cases w : c.cell.w = 2
  · rw [h w]
  · have : (c.cell.w == 2) = false := by simpa using w
    rw [this]; simp
theorem mendAt_near {n1 n2 far : Option LCell} {c : LCell} (h : c.cell.w = 0 → mL c n1 = mL c n2) : mendAt n1 far c = mendAt n2 far c := by
  unfold mendAt orph
  by_cases w : c.cell.w = 0
  · rw [h w]
  · have : (c.cell.w == 0) = false := by simpa using w
    rw [this]; simp
theorem mend_append (h : NJ P Q) : mend (P ++ Q) = mend P ++ mend Q := by
  refine List.ext_getElem? fun i => ?_
  rw [mend_get]
  by_cases hi : i < P.length
  · rw [List.getElem?_append_left hi, List.getElem?_append_left (l₁ := mend P) (by rw [mend_length]; exact hi), mend_get P i]
    cases e : P[i]? with
    | none => rfl
    | some c =>
      simp only [Option.map_some]
      congr 1
      have hp : prev (P ++ Q) i = prev P i := by
        unfold prev
        split
        · rfl
        · rw [List.getElem?_append_left (by omega)]
      rw [hp]
      by_cases h1 : i + 1 < P.length
      · rw [List.getElem?_append_left h1]
      · have hl : i = P.length - 1 := by omega
        rw [List.getElem?_append_right (by lia), show i + 1 - P.length = 0 by omega, List.getElem?_eq_none (l := P) (by lia)]
        refine mendAt_far fun w => ?_
        cases e2 : Q[0]? with
        | none => rfl
        | some d =>
          simp only [mR]
          have := h c d (by rw [← hl]; exact e) e2
          cases hw : d.cell.w == 0 <;> cases hid : d.id == c.id <;> simp at hw hid ⊢
          exact this ⟨w, hw, hid.symm⟩
  · rw [List.getElem?_append_right (l₁ := P) (i := i) (by lia), List.getElem?_append_right (l₁ := mend P) (by rw [mend_length]; lia), mend_length, mend_get Q]
    cases e : Q[i - P.length]? with
    | none => rfl
    | some d =>
      simp only [Option.map_some]
      congr 1
      have hf : (P ++ Q)[i + 1]? = Q[i - P.length + 1]? := by
        rw [List.getElem?_append_right (by lia), show i + 1 - P.length = i - P.length + 1 by lia]
      rw [hf]
      refine mendAt_near fun w => ?_
      unfold prev
      by_cases h0 : i - P.length = 0
      · rw [if_pos h0]
        split
        · rfl
        · have hlt : i - 1 < P.length := by omega
          rw [List.getElem?_append_left hlt]
          have hl : i - 1 = P.length - 1 := by lia
          cases e2 : P[i - 1]? with
          | none => rfl
          | some c =>
            simp only [mL]
            have := h c d (by rw [← hl]; exact e2) (by rw [← h0]; exact e)
            cases hw : c.cell.w == 2 <;> cases hid : c.id == d.id <;> simp at hw hid ⊢
            exact this ⟨hw, w, hid⟩
      · rw [if_neg h0, if_neg (by lia), List.getElem?_append_right (by omega), show i - 1 - P.length = i - P.length - 1 by lia]
theorem mend_ones (h : ∀ c ∈ N, c.cell.w = 1) : mend N = N := by
  refine List.ext_getElem? fun i => ?_
  rw [mend_get]
  cases e : N[i]? with
  | none => rfl
  | some c => simp only [Option.map_some]; rw [mendAt_one (h c (List.mem_of_getElem? e))]
end
end Mine
end
-- part P2
section
open PySem PySem.W PySem.Calls PyProof.Rows
set_option maxRecDepth 100000
namespace Mine

noncomputable def str (M : List LCell) : List Cell := M.map (·.cell)
theorem str_get (M : List LCell) (i : Nat) : (str M)[i]? = M[i]?.map (·.cell) := by simp [str]
theorem str_length (M : List LCell) : (str M).length = M.length := by simp [str]
open Classical in
noncomputable def cut (B : Int → Prop) (M : List LCell) : List LCell := M.mapIdx fun i c => if (c.cell.w = 2 ∧ B ((i : Int) + 1)) ∨ (c.cell.w = 0 ∧ B (i : Int)) then lblank c.cell.pen else c
theorem cut_length (B : Int → Prop) (M : List LCell) : (cut B M).length = M.length := by simp [cut]
open Classical in
theorem cut_get (B : Int → Prop) (M : List LCell) (i : Nat) : (cut B M)[i]? = M[i]?.map fun c => if (c.cell.w = 2 ∧ B ((i : Int) + 1)) ∨ (c.cell.w = 0 ∧ B (i : Int)) then lblank c.cell.pen else c := by simp [cut, List.getElem?_mapIdx]
theorem cut_hit {B : Int → Prop} {M : List LCell} {i : Nat} {c : LCell} (e : M[i]? = some c) (h : (c.cell.w = 2 ∧ B ((i : Int) + 1)) ∨ (c.cell.w = 0 ∧ B (i : Int))) : (cut B M)[i]? = some (lblank c.cell.pen) := by
  rw [cut_get, e, Option.map_some, if_pos h]
theorem cut_miss {B : Int → Prop} {M : List LCell} {i : Nat} {c : LCell} (e : M[i]? = some c) (h : ¬ ((c.cell.w = 2 ∧ B ((i : Int) + 1)) ∨ (c.cell.w = 0 ∧ B (i : Int)))) : (cut B M)[i]? = some c := by
  rw [cut_get, e, Option.map_some, if_neg h]
theorem cut_congr {B B' : Int → Prop} {M : List LCell} (h : ∀ (i : Nat) (c : LCell), M[i]? = some c → (((c.cell.w = 2 ∧ B ((i : Int) + 1)) ∨ (c.cell.w = 0 ∧ B (i : Int))) ↔ ((c.cell.w = 2 ∧ B' ((i : Int) + 1)) ∨ (c.cell.w = 0 ∧ B' (i : Int))))) : cut B M = cut B' M := by
  refine List.ext_getElem? fun i => ?_
  cases e : M[i]? with
  | none => rw [cut_get, cut_get, e]; rfl
  | some c =>
    by_cases q : (c.cell.w = 2 ∧ B ((i : Int) + 1)) ∨ (c.cell.w = 0 ∧ B (i : Int))
    · rw [cut_hit e q, cut_hit e ((h i c e).mp q)]
    · rw [cut_miss e q, cut_miss e (fun r => q ((h i c e).mpr r))]
theorem cut_none {M : List LCell} : cut (fun _ => False) M = M := by
  refine List.ext_getElem? fun i => ?_
  cases e : M[i]? with
  | none => rw [cut_get, e]; rfl
  | some c => rw [cut_miss e (by simp)]

/-- line_part -/
noncomputable def partL (L : List Cell) (at' : Int) : List Cell :=
  if 0 < at' ∧ at' < L.length then
    match L[at'.toNat]?, L[at'.toNat - 1]? with
    | some c, some b => if c.w = 0 then (L.set (at'.toNat - 1) (blank b.pen)).set at'.toNat (blank c.pen) else L
    | _, _ => L
  else L
theorem partL_length (L : List Cell) (a : Int) : (partL L a).length = L.length := by
  unfold partL
  split
  · split
    · split <;> simp
    · rfl
  · rfl
section
variable {n : Int} {M : List LCell} {B : Int → Prop}
theorem part_cut (h : Inv n M) (a : Int) : partL (str (cut B M)) a = str (cut (fun x => B x ∨ x = a) M) := by
  unfold partL
  rw [str_length, cut_length]
  by_cases hr : 0 < a ∧ a < M.length
  · rw [if_pos hr]
    obtain ⟨k, rfl⟩ : ∃ k : Nat, a = (k : Int) + 1 := ⟨(a - 1).toNat, by omega⟩
    have hk : k + 1 < M.length := by lia
    have e1 : M[k + 1]? = some M[k + 1] := List.getElem?_eq_getElem hk
    have e0 : M[k]? = some M[k] := List.getElem?_eq_getElem (by omega)
    generalize M[k + 1] = c at e1
    generalize M[k] = b at e0
    rw [show ((k : Int) + 1).toNat = k + 1 by lia, Nat.add_sub_cancel]
    by_cases hc : c.cell.w = 0 ∧ ¬ B ((k : Int) + 1)
    · have c1 : (cut B M)[k + 1]? = some c := cut_miss e1 (by rw [hc.1]; rintro (⟨q, _⟩ | ⟨_, q⟩); exact absurd q (by decide); exact hc.2 (by simpa using q))
      have hb : b.cell.w = 2 := by
        obtain ⟨j, d, hj, hd, w, _⟩ := h.left e1 hc.1
        have : j = k := by lia
        subst this
        rw [e0] at hd; cases hd; exact w
      have c0 : (cut B M)[k]? = some b := cut_miss e0 (by rw [hb]; rintro (⟨_, q⟩ | ⟨q, _⟩); exact hc.2 q; exact absurd q (by decide))
      rw [str_get, c1, str_get, c0]
      simp only [Option.map_some, hc.1, if_true]
      refine List.ext_getElem? fun i => ?_
      by_cases i1 : i = k + 1
      · subst i1
        rw [List.getElem?_set_self (by simp [str, cut]; omega), str_get, cut_hit e1 (.inr ⟨hc.1, .inr (by push_cast; rfl)⟩)]
        rfl
      · rw [List.getElem?_set_ne (Ne.symm i1)]
        by_cases i0 : i = k
        · subst i0
          rw [List.getElem?_set_self (by simp [str, cut]; lia), str_get, cut_hit e0 (.inl ⟨hb, .inr rfl⟩)]
          rfl
        · rw [List.getElem?_set_ne (Ne.symm i0), str_get, str_get]
          congr 1
          cases e : M[i]? with
          | none => rw [cut_get, cut_get, e]; rfl
          | some d =>
            by_cases q : (d.cell.w = 2 ∧ B ((i : Int) + 1)) ∨ (d.cell.w = 0 ∧ B (i : Int))
            · rw [cut_hit e q, cut_hit e (q.imp (fun r => ⟨r.1, .inl r.2⟩) (fun r => ⟨r.1, .inl r.2⟩))]
            · rw [cut_miss e q, cut_miss e]
              rintro (⟨w, r | r⟩ | ⟨w, r | r⟩)
              · exact q (.inl ⟨w, r⟩)
              · lia
              · exact q (.inr ⟨w, r⟩)
              · lia
    · have key : cut B M = cut (fun x => B x ∨ x = (k : Int) + 1) M := by
        refine cut_congr fun i d e => ⟨fun q => q.imp (fun r => ⟨r.1, .inl r.2⟩) (fun r => ⟨r.1, .inl r.2⟩), ?_⟩
        rintro (⟨w, r | r⟩ | ⟨w, r | r⟩)
        · exact .inl ⟨w, r⟩
        · have : i = k := by lia
          subst this
          obtain ⟨f, ef, wf, _⟩ := h.right e w
          rw [e1] at ef; cases ef
          exact .inl ⟨w, Classical.byContradiction fun nb => hc ⟨wf, nb⟩⟩
        · exact .inr ⟨w, r⟩
        · have : i = k + 1 := by lia
          subst this
          rw [e1] at e; cases e
          exact .inr ⟨w, Classical.byContradiction fun nb => hc ⟨w, fun q => nb (by simpa using q)⟩⟩
      rw [← key]
      have hne : ∀ c', (str (cut B M))[k + 1]? = some c' → c'.w ≠ 0 := by
        intro c' e'
        rw [str_get] at e'
        by_cases q : (c.cell.w = 2 ∧ B (((k + 1 : Nat) : Int) + 1)) ∨ (c.cell.w = 0 ∧ B ((k + 1 : Nat) : Int))
        · rw [cut_hit e1 q] at e'; cases e'; exact (by decide : (1 : Int) ≠ 0)
        · rw [cut_miss e1 q] at e'
          cases e'
          intro w0
          exact q (.inr ⟨w0, Classical.byContradiction fun nb => hc ⟨w0, fun r => nb (by simpa using r)⟩⟩)
      split
      · rename_i x1 x2 q1 q2
        rw [if_neg (hne _ q1)]
      · rfl
  · rw [if_neg hr]
    congr 1
    refine cut_congr fun i d e => ⟨fun q => q.imp (fun r => ⟨r.1, .inl r.2⟩) (fun r => ⟨r.1, .inl r.2⟩), ?_⟩
    have hi := (List.getElem?_eq_some_iff.mp e).1
    rintro (⟨w, r | r⟩ | ⟨w, r | r⟩)
    · exact .inl ⟨w, r⟩
    · obtain ⟨f, ef, _⟩ := h.right e w
      have := (List.getElem?_eq_some_iff.mp ef).1
      lia
    · exact .inr ⟨w, r⟩
    · obtain ⟨j, d', hj, _⟩ := h.left e w
      lia

noncomputable def sl' (M : List LCell) (a b : Nat) : List LCell := (M.take b).drop a
theorem sl_get (M : List LCell) (a b j : Nat) : (sl' M a b)[j]? = if a + j < b then M[a + j]? else none := by
  unfold sl'
  rw [List.getElem?_drop, List.getElem?_take]
theorem slice_cut (h : Inv n M) {a b : Nat} (hab : a ≤ b) (hb : b ≤ M.length) (h1 : a = 0 ∨ B a) (h2 : b = M.length ∨ B b) (h3 : ∀ x : Int, a < x → x < b → ¬ B x) : sl' (cut B M) a b = mend (sl' M a b) := by
  refine List.ext_getElem? fun j => ?_
  rw [mend_get, sl_get, sl_get, sl_get]
  by_cases hj : a + j < b
  · rw [if_pos hj, if_pos hj]
    cases e : M[a + j]? with
    | none => rw [cut_get, e]; rfl
    | some c =>
      simp only [Option.map_some]
      rcases h.w3 e with w | w | w
      · rw [mendAt_zero w]
        obtain ⟨i, d, hi, ed, wd, hid⟩ := h.left e w
        by_cases j0 : j = 0
        · subst j0
          have : B (a : Int) := by
            rcases h1 with q | q
            · lia
            · exact q
          rw [cut_hit e (.inr ⟨w, by simpa using this⟩)]
          simp [prev, mL]
        · have hn : ¬ B ((a + j : Nat) : Int) := h3 _ (by lia) (by lia)
          rw [cut_miss e (by rintro (⟨q, _⟩ | ⟨_, q⟩); rw [w] at q; exact absurd q (by decide); exact hn q)]
          have : prev (sl' M a b) j = some d := by
            unfold prev
            rw [if_neg j0, sl_get, if_pos (by lia), show a + (j - 1) = i by lia, ed]
          rw [this]
          simp [mL, wd, hid]
      · rw [mendAt_one w, cut_miss e (by rw [w]; rintro (⟨q, _⟩ | ⟨q, _⟩) <;> exact absurd q (by decide))]
      · rw [mendAt_two w]
        obtain ⟨d, ed, wd, hid⟩ := h.right e w
        have hlt := (List.getElem?_eq_some_iff.mp ed).1
        by_cases j1 : a + (j + 1) < b
        · have hn : ¬ B (((a + j : Nat) : Int) + 1) := h3 _ (by lia) (by lia)
          rw [cut_miss e (by rintro (⟨_, q⟩ | ⟨q, _⟩); exact hn q; rw [w] at q; exact absurd q (by decide)), if_pos j1, show a + (j + 1) = a + j + 1 by lia, ed]
          simp [mR, wd, hid]
        · have hB : B (((a + j : Nat) : Int) + 1) := by
            rcases h2 with q | q
            · lia
            · rw [show ((a + j : Nat) : Int) + 1 = (b : Int) by lia]; exact q
          rw [cut_hit e (.inl ⟨w, hB⟩), if_neg j1]
          simp [mR]
  · rw [if_neg hj, if_neg hj]; rfl
theorem take_cut (h : Inv n M) {b : Nat} (hb : b ≤ M.length) (h2 : b = M.length ∨ B b) (h3 : ∀ x : Int, 0 < x → x < b → ¬ B x) : (cut B M).take b = mend (M.take b) := by
  have := slice_cut (B := B) h (a := 0) (Nat.zero_le b) hb (.inl rfl) h2 (by simpa using h3)
  simpa [sl'] using this
theorem drop_cut (h : Inv n M) {a : Nat} (ha : a ≤ M.length) (h1 : a = 0 ∨ B a) (h3 : ∀ x : Int, a < x → x < M.length → ¬ B x) : (cut B M).drop a = mend (M.drop a) := by
  have := slice_cut (B := B) h (a := a) (b := M.length) ha (Nat.le_refl _) h1 (.inl rfl) h3
  unfold sl' at this
  rw [List.take_of_length_le (by rw [cut_length]; exact Nat.le_refl _), List.take_of_length_le (Nat.le_refl _)] at this
  exact this

theorem NJ.ofHead {P Q : List LCell} (h : ∀ d, Q[0]? = some d → d.cell.w ≠ 0) : NJ P Q := fun _ d _ e => fun q => h d e q.2.1
theorem NJ.ofLast {P Q : List LCell} (h : ∀ c, P[P.length - 1]? = some c → c.cell.w ≠ 2) : NJ P Q := fun c _ e _ => fun q => h c e q.1
theorem NJ.nil {P : List LCell} : NJ P [] := fun _ _ _ e => by simp at e
theorem NJ.nilL {Q : List LCell} : NJ [] Q := fun _ _ e _ => by simp at e
theorem NJ.far (h : Inv n M) {P Q : List LCell} (hpq : ∀ c d, P[P.length - 1]? = some c → Q[0]? = some d → ∃ i j, M[i]? = some c ∧ M[j]? = some d ∧ j ≠ i + 1) : NJ P Q := by
  intro c d e1 e2 q
  obtain ⟨i, j, h1, h2, h3⟩ := hpq c d e1 e2
  exact h.far h1 h2 q.1 q.2.1 h3 q.2.2

/-- columns overwritten by X -/
noncomputable def over (M : List LCell) (k : Nat) (X : List LCell) : List LCell := M.take k ++ X ++ M.drop (k + X.length)
theorem mend_over (h : Inv n M) {k : Nat} {X : List LCell} (hX : 0 < X.length) (hk : k + X.length ≤ M.length) (h1 : ∀ d, X[0]? = some d → d.cell.w ≠ 0) (h2 : (∀ c, X[X.length - 1]? = some c → c.cell.w ≠ 2) ∨ k + X.length = M.length)
    (hB1 : B k) (hB2 : B ((k + X.length : Nat) : Int)) (hB : ∀ x : Int, B x → x = k ∨ x = ((k + X.length : Nat) : Int)) :
    mend (over M k X) = (cut B M).take k ++ mend X ++ (cut B M).drop (k + X.length) := by
  unfold over
  have j1 : NJ (M.take k) X := NJ.ofHead h1
  have j2 : NJ (M.take k ++ X) (M.drop (k + X.length)) := by
    rcases h2 with q | q
    · refine NJ.ofLast fun c e => ?_
      rw [List.getElem?_append_right (by simp; omega)] at e
      refine q c ?_
      rw [← e]
      congr 1
      simp
      lia
    · rw [q, List.drop_length]; exact NJ.nil
  rw [mend_append j2, mend_append j1, take_cut h (by lia) (.inr hB1) (fun x a b c => by rcases hB x c with q | q <;> lia), drop_cut h hk (.inr hB2) (fun x a b c => by rcases hB x c with q | q <;> lia)]
end
end Mine
end
-- part P3
section
open PySem PySem.W PySem.Calls PyProof.Rows
set_option maxRecDepth 100000
namespace Mine

/- a small logic over the shallow functions -/
noncomputable def W {β : Type} (o : Option (β × Store)) (P : β → Store → Prop) : Prop := ∃ r σ', o = some (r, σ') ∧ P r σ'
noncomputable def WS (o : Option (Fl × Lc × Store)) (P : Fl → Lc → Store → Prop) : Prop := ∃ fl lc σ', o = some (fl, lc, σ') ∧ P fl lc σ'
theorem no_W {β : Type} {P : β → Store → Prop} {α : Prop} (h : W none P) : α := by obtain ⟨_, _, e, _⟩ := h; cases e
noncomputable def Keep (mod : Nat → Prop) (σ σ' : Store) : Prop := σ.length ≤ σ'.length ∧ ∀ j x, ¬ mod j → σ[j]? = some x → σ'[j]? = some x
noncomputable abbrev Keep0 (σ σ' : Store) : Prop := Keep (fun _ => False) σ σ'
theorem Keep.get {mod : Nat → Prop} {σ σ' : Store} (k : Keep mod σ σ') {j : Nat} {x : AO} (h : ¬ mod j) (e : σ[j]? = some x) : σ'[j]? = some x := k.2 j x h e
theorem Keep.get0 {σ σ' : Store} (k : Keep0 σ σ') {j : Nat} {x : AO} (e : σ[j]? = some x) : σ'[j]? = some x := k.2 j x (fun h => h) e
theorem Keep.refl {mod : Nat → Prop} {σ : Store} : Keep mod σ σ := ⟨Nat.le_refl _, fun _ _ _ e => e⟩
theorem Keep.trans {m1 m2 m : Nat → Prop} {σ σ1 σ2 : Store} (a : Keep m1 σ σ1) (b : Keep m2 σ1 σ2) (h1 : ∀ j, j < σ.length → m1 j → m j) (h2 : ∀ j, j < σ.length → m2 j → m j) : Keep m σ σ2 :=
  ⟨Nat.le_trans a.1 b.1, fun j x n e => b.2 j x (fun q => n (h2 j (List.getElem?_eq_some_iff.mp e).1 q)) (a.2 j x (fun q => n (h1 j (List.getElem?_eq_some_iff.mp e).1 q)) e)⟩
theorem Keep.tr {m : Nat → Prop} {σ σ1 σ2 : Store} (a : Keep m σ σ1) (b : Keep m σ1 σ2) : Keep m σ σ2 := a.trans b (fun _ _ h => h) (fun _ _ h => h)
theorem Keep.weak {m m' : Nat → Prop} {σ σ1 : Store} (a : Keep m σ σ1) (h : ∀ j, j < σ.length → m j → m' j) : Keep m' σ σ1 := ⟨a.1, fun j x n e => a.2 j x (fun q => n (h j (List.getElem?_eq_some_iff.mp e).1 q)) e⟩
theorem Keep.up {m : Nat → Prop} {σ σ1 : Store} (a : Keep0 σ σ1) : Keep m σ σ1 := a.weak fun _ _ h => h.elim
/-- what is new may turn -/
theorem Keep.new {σ σ1 σ2 : Store} {m : Nat → Prop} (a : Keep0 σ σ1) (b : Keep m σ1 σ2) (h : ∀ j, m j → σ.length ≤ j) : Keep0 σ σ2 := a.trans b (fun _ _ h => h) fun j l q => absurd l (Nat.not_lt.mpr (h j q))
theorem lt_of_get {σ : Store} {j : Nat} {x : AO} (e : σ[j]? = some x) : j < σ.length := (List.getElem?_eq_some_iff.mp e).1

noncomputable def Alloc (σ : Store) (o : AO) (P : AV → Store → Prop) : Prop := P (.ref σ.length) (σ ++ [o])
theorem Alloc.intro {σ : Store} {o : AO} {P : AV → Store → Prop} (h : ∀ k σ2, σ2[k]? = some o → Keep0 σ σ2 → σ.length ≤ k → P (.ref k) σ2) : Alloc σ o P :=
  h _ _ (by simp) ⟨by simp, fun j x _ e => by rw [List.getElem?_append_left (lt_of_get e)]; exact e⟩ (Nat.le_refl _)
noncomputable def Upd (σ : Store) (k : Nat) (o : AO) (P : Store → Prop) : Prop := P (σ.set k o)
theorem Upd.intro {σ : Store} {k : Nat} {o : AO} {P : Store → Prop} (hk : k < σ.length) (h : ∀ σ2, σ2[k]? = some o → Keep (· = k) σ σ2 → P σ2) : Upd σ k o P :=
  h _ (by rw [List.getElem?_set_self hk]) ⟨by simp, fun j x n e => by rw [List.getElem?_set_ne (Ne.symm n)]; exact e⟩

section
variable {β : Type} {P Q : β → Store → Prop} {σ : Store} {lc : Lc}
theorem W.mono {o : Option (β × Store)} (h : W o Q) (k : ∀ r σ', Q r σ' → P r σ') : W o P := by
  obtain ⟨r, σ', e, q⟩ := h
  exact ⟨r, σ', e, k _ _ q⟩
theorem WS.mono {o : Option (Fl × Lc × Store)} {P Q : Fl → Lc → Store → Prop} (h : WS o Q) (k : ∀ fl lc σ', Q fl lc σ' → P fl lc σ') : WS o P := by
  obtain ⟨f, l, σ', e, q⟩ := h
  exact ⟨f, l, σ', e, k _ _ _ q⟩
theorem W.ret {r : β} (h : P r σ) : W (some (r, σ)) P := ⟨_, _, rfl, h⟩
theorem W.bind {γ : Type} {o : Option (γ × Store)} {f : γ × Store → Option (β × Store)} {Q : γ → Store → Prop} (h : W o Q) (k : ∀ x σ1, Q x σ1 → W (f (x, σ1)) P) : W (o.bind f) P := by
  obtain ⟨x, σ1, e, q⟩ := h
  rw [e]; exact k x σ1 q
theorem W.map {γ : Type} {o : Option (γ × Store)} {f : γ × Store → β × Store} (h : W o fun x σ1 => P (f (x, σ1)).1 (f (x, σ1)).2) : W (o.map f) P := by
  obtain ⟨x, σ1, e, q⟩ := h
  rw [e]; exact ⟨_, _, rfl, q⟩
theorem W.gd {c : Prop} [Decidable c] {a : Option (β × Store)} (hc : c) (h : W a P) : W (if c then a else none) P := by rw [if_pos hc]; exact h
theorem W.ob {γ : Type} {o : Option γ} {v : γ} {f : γ → Option (β × Store)} (e : o = some v) (h : W (f v) P) : W (o.bind f) P := by rw [e]; exact h
theorem W.om {γ : Type} {o : Option γ} {v : γ} {f : γ → β × Store} (e : o = some v) (h : P (f v).1 (f v).2) : W (o.map f) P := by rw [e]; exact ⟨_, _, rfl, h⟩
end
section
variable {P : AV → Store → Prop} {σ : Store} {lc : Lc}
theorem W_val {v : AV} (h : P v σ) : W (eVal v lc σ) P := W.ret h
noncomputable def noKey (name : Str) (kvs : List (Str × AV)) : Bool := match kvs.lookup name with | none => true | _ => false
theorem noKey_none {name : Str} {kvs : List (Str × AV)} (h : noKey name kvs = true) : kvs.lookup name = none := by
  unfold noKey at h
  cases e : kvs.lookup name with
  | none => rfl
  | some v => rw [e] at h; cases h
theorem W_meth {Cl name F b} {i d : Nat} {kvs} (hi : σ[i]? = some (.inst Cl d)) (hd : σ[d]? = some (.ns kvs)) (hn : noKey name kvs = true) (h : W (b lc σ) fun l σ2 => W (F (.ref i :: l) σ2) P) : W (eMeth Cl name F (eVal (.ref i)) b lc σ) P := by
  show W (match σ[i]? with
    | some (.inst D d) => match σ[d]? with
      | some (.ns kvs) => if D = Cl ∧ kvs.lookup name = none then (b lc σ).bind fun q => F (.ref i :: q.1) q.2 else none
      | _ => none
    | _ => none) P
  simp only [hi, hd]
  exact W.gd ⟨trivial, noKey_none hn⟩ (h.bind fun _ _ h => h)
theorem W_methL {F b} {i : Nat} {l} (hi : σ[i]? = some (.list l)) (h : W (b lc σ) fun l σ2 => W (F (.ref i :: l) σ2) P) : W (eMethL F (eVal (.ref i)) b lc σ) P := by
  show W (match σ[i]? with
    | some (.list _) => (b lc σ).bind fun q => F (.ref i :: q.1) q.2
    | _ => none) P
  simp only [hi]
  exact h.bind fun _ _ h => h
theorem W_getC {Cl name} {i d : Nat} {kvs v} (hi : σ[i]? = some (.inst Cl d)) (hd : σ[d]? = some (.ns kvs)) (hv : kvs.lookup name = some v) (h : P v σ) : W (getC Cl name (.ref i) σ) P := by
  unfold getC
  simp only [hi, if_true, hd]
  exact W.om hv h
theorem W_slice {i : Nat} {p q : Option Int} {l : List AV} (hi : σ[i]? = some (.list l)) (hl : l.length ≤ 1000) (h : Alloc σ (.list (sliceL l p q)) P) {y z : AV} (hy : partOf y = some p) (hz : partOf z = some q) : W (eSlice (eVal (.ref i)) (eVal y) (eVal z) lc σ) P := by
  show W ((partOf y).bind fun x => (partOf z).bind fun w => match AV.ref i, σ[i]? with
    | .ref _, some (.list l) => if l.length ≤ 1000 then some (AV.ref σ.length, σ ++ [AO.list (sliceL l x w)]) else none
    | _, _ => none) P
  refine W.ob hy (W.ob hz ?_)
  simp only [hi]
  exact W.gd hl (W.ret h)
theorem W_take {l : List AV} {b : Int} (h1 : 0 ≤ b ∧ b < l.length ∧ l.length ≤ 1000) (h : P (.tup (l.take b.toNat)) σ) : W (eTake (eVal (.tup l)) (eVal (.int b)) lc σ) P := W.gd h1 (W.ret h)
theorem W_bVal {b : Bool} {P : Bool → Store → Prop} (h : P b σ) : W (bVal b lc σ) P := W.ret h
/- operations -/
theorem mod_ii {a b : Int} (hb : ¬ b = 0) (h : P (.int (a.fmod b)) σ) : W (opMod (.int a) (.int b) σ) P := by
  show W (if b = 0 then none else some (AV.int (a.fmod b), σ)) P
  rw [if_neg hb]; exact W.ret h
theorem div_ii {a b : Int} (hb : b = 64) (h : P (.int (a.fdiv b)) σ) : W (opDiv (.int a) (.int b) σ) P := W.gd hb (W.ret h)
theorem mul_ii {a b : Int} (hb : small b = true) (h : P (.int (a * b)) σ) : W (opMul (.int a) (.int b) σ) P := W.gd hb (W.ret h)
theorem mul_ri {i : Nat} {b : Int} {l} (hi : σ[i]? = some (.list l)) (h1 : l.length ≤ 10 ∧ -1000 ≤ b ∧ b ≤ 1000) (h : Alloc σ (.list (List.replicate b.toNat l).flatten) P) : W (opMul (.ref i) (.int b) σ) P := by
  unfold opMul
  simp only [hi]
  exact W.gd h1 (W.ret h)
theorem add_rr {i j : Nat} {l k} (hi : σ[i]? = some (.list l)) (hj : σ[j]? = some (.list k)) (h1 : l.length + k.length ≤ 1000) (h : Alloc σ (.list (l ++ k)) P) : W (opAdd (.ref i) (.ref j) σ) P := by
  unfold opAdd
  simp only [hi, hj]
  exact W.gd h1 (W.ret h)
theorem is_n {a : AV} (h : P (.bool (isNone a)) σ) : W (isA a .none σ) P := by
  cases a <;> exact W.ret h
theorem get_ri {r : Nat} {i : Int} {l v} (hi : σ[r]? = some (.list l)) (hv : idx l i = some v) (h : P v σ) : W (getA (.ref r) (.int i) σ) P := by
  unfold getA
  simp only [hi]
  exact W.om hv h
theorem get_ti {l : List AV} {i : Int} {v} (hv : idx l i = some v) (h : P v σ) : W (getA (.tup l) (.int i) σ) P := W.om hv h
theorem get_rs {r : Nat} {x : Str} {kvs v} (hi : σ[r]? = some (.dict kvs)) (hv : kvs.lookup x = some v) (h : P v σ) : W (getA (.ref r) (.str x) σ) P := by
  unfold getA
  simp only [hi]
  exact W.om hv h
theorem has_t {l : List AV} : hasGet (.tup l) σ = true := rfl
theorem has_l {r : Nat} {l : List AV} (h : σ[r]? = some (.list l)) : hasGet (.ref r) σ = true := by unfold hasGet; simp only [h]
theorem has_d {r : Nat} {l : List (Str × AV)} (h : σ[r]? = some (.dict l)) : hasGet (.ref r) σ = true := by unfold hasGet; simp only [h]
theorem len_r {i : Nat} {l} (hi : σ[i]? = some (.list l)) (hl : l.length ≤ 1000) (h : P (.int l.length) σ) : W (fLen [.ref i] σ) P := by
  unfold fLen
  simp only [hi]
  exact W.gd hl (W.ret h)
theorem max_ii {a b : Int} (h : P (.int (max a b)) σ) : W (fMax [.int a, .int b] σ) P := by
  have : (if b > a then b else a) = max a b := by
    split
    · exact (Int.max_eq_right (Int.le_of_lt ‹_›)).symm
    · exact (Int.max_eq_left (Int.not_lt.mp ‹_›)).symm
  show W (some (AV.int (if b > a then b else a), σ)) P
  rw [this]; exact W.ret h
theorem min_ii {a b : Int} (h : P (.int (min a b)) σ) : W (fMin [.int a, .int b] σ) P := by
  have : (if b < a then b else a) = min a b := by
    split
    · exact (Int.min_eq_right (Int.le_of_lt ‹_›)).symm
    · exact (Int.min_eq_left (Int.not_lt.mp ‹_›)).symm
  show W (some (AV.int (if b < a then b else a), σ)) P
  rw [this]; exact W.ret h
theorem int_i {a : Int} (h : P (.int a) σ) : W (fInt [.int a] σ) P := W.ret h
theorem int_b {b : Bool} (h : P (.int (if b = true then 1 else 0)) σ) : W (fInt [.bool b] σ) P := W.ret h
theorem tuple_t {l : List AV} (h : P (.tup l) σ) : W (fTuple [.tup l] σ) P := W.ret h
theorem list_t {l : List AV} (hl : l.length ≤ 1000) (h : Alloc σ (.list l) P) : W (fList [.tup l] σ) P := W.gd hl (W.ret h)
theorem list_r {i : Nat} {l} (hi : σ[i]? = some (.list l)) (hl : l.length ≤ 1000) (h : Alloc σ (.list l) P) : W (fList [.ref i] σ) P := by
  unfold fList
  simp only [hi]
  exact W.gd hl (W.ret h)
theorem append_r {i : Nat} {x : AV} {l} (hi : σ[i]? = some (.list l)) (hl : l.length ≤ 1000) (h : Upd σ i (.list (l ++ [x])) (P .none)) : W (fAppend [.ref i, x] σ) P := by
  unfold fAppend
  simp only [hi]
  exact W.gd hl (W.ret h)
theorem pop_r {i : Nat} {l x} (hi : σ[i]? = some (.list l)) (hl : l.length ≤ 1000) (hx : l.getLast? = some x) (h : Upd σ i (.list l.dropLast) (P x)) : W (fPop [.ref i] σ) P := by
  unfold fPop
  simp only [hi]
  exact W.gd hl (W.om hx h)
theorem extend_rt {i : Nat} {k : List AV} {l} (hi : σ[i]? = some (.list l)) (hl : l.length + k.length ≤ 1000) (h : Upd σ i (.list (l ++ k)) (P .none)) : W (fExtend [.ref i, .tup k] σ) P := by
  unfold fExtend
  simp only [hi]
  exact W.gd hl (W.ret h)
theorem extend_rr {i j : Nat} {l k} (hi : σ[i]? = some (.list l)) (hj : σ[j]? = some (.list k)) (hl : l.length + k.length ≤ 1000) (h : Upd σ i (.list (l ++ k)) (P .none)) : W (fExtend [.ref i, .ref j] σ) P := by
  unfold fExtend
  simp only [hi, hj]
  exact W.gd hl (W.ret h)
end
end Mine
end
-- part P4
section
open PySem PySem.W PySem.Calls PyProof.Rows
set_option maxRecDepth 100000
namespace Mine
noncomputable def US (o : Option Store) (P : Store → Prop) : Prop := ∃ σ', o = some σ' ∧ P σ'
section
variable {P : Lc → Store → Prop} {σ : Store} {lc : Lc} {d : AV}
theorem US.w {o : Option Store} (h : US o (P lc)) : W (o.map fun σ' => (lc, σ')) P := by
  obtain ⟨s, e, h⟩ := h
  exact ⟨lc, s, by rw [e]; rfl, h⟩
theorem set_ri {P : Store → Prop} {r : Nat} {i : Int} {l j} (hl : σ[r]? = some (.list l)) (hj : idxN l i = some j) (h : Upd σ r (.list (l.set j d)) P) : US (setA (.ref r) (.int i) d σ) P := by
  refine ⟨_, ?_, h⟩
  unfold setA
  simp only [hl, hj, Option.map_some]
theorem set_rs {P : Store → Prop} {r : Nat} {x : Str} {kvs} (hl : σ[r]? = some (.dict kvs)) (hn : kvs.length ≤ 1000) (h : Upd σ r (.dict (putKV kvs x d)) P) : US (setA (.ref r) (.str x) d σ) P := by
  refine ⟨_, ?_, h⟩
  unfold setA
  simp only [hl, hn, if_true]
theorem set_c {P : Store → Prop} {Cl : Addr} {name : Str} {i dd : Nat} {kvs} (hi : σ[i]? = some (.inst Cl dd)) (hd : σ[dd]? = some (.ns kvs)) (hn : kvs.length ≤ 100) (h : Upd σ dd (.ns (putN name d kvs)) P) : US (setC Cl name (.ref i) d σ) P := by
  refine ⟨_, ?_, h⟩
  unfold setC
  simp only [hi, hd, hn, if_true]
theorem t_slice {i j : Nat} {p q : Option Int} {l k : List AV} {y z : AV} (hy : partOf y = some p) (hz : partOf z = some q) (hi : σ[i]? = some (.list l)) (hj : σ[j]? = some (.list k)) (hc : i ≠ j ∧ l.length + k.length ≤ 1000) (h : Upd σ i (.list (setSliceL l k p q)) (P lc)) : W (tSlice (eVal (.ref i)) (eVal y) (eVal z) (.ref j) lc σ) P := by
  show W ((partOf y).bind fun x => (partOf z).bind fun w => match σ[i]?, σ[j]? with
    | some (.list l), some (.list k) => if i ≠ j ∧ l.length + k.length ≤ 1000 then some (lc, σ.set i (AO.list (setSliceL l k x w))) else none
    | _, _ => none) P
  refine W.ob hy (W.ob hz ?_)
  simp only [hi, hj]
  exact W.gd hc (W.ret h)
theorem t_tup {n : Nat} {ts} {l : List AV} (hl : l.length = n) (h : W (ts l lc σ) P) : W (tTupN n ts (.tup l) lc σ) P := by
  show W ((if l.length = n then ts l else fun _ _ => none) lc σ) P
  rw [if_pos hl]; exact h
theorem t_swap {n : Nat} {ts} {l : List AV} (hl : l.length = n) (h : W (ts l.reverse lc σ) P) : W (tSwap n ts (.tup l) lc σ) P := by
  show W ((if l.length = n then ts l.reverse else fun _ _ => none) lc σ) P
  rw [if_pos hl]; exact h
end
noncomputable def flV : Fl → AV
  | .next => .none
  | .ret v => v
section
variable {P : Fl → Lc → Store → Prop} {σ : Store} {lc : Lc}
theorem WS.ret {fl : Fl} (h : P fl lc σ) : WS (some (fl, lc, σ)) P := ⟨_, _, _, rfl, h⟩
theorem WS.bind {γ : Type} {o : Option (γ × Store)} {f : γ × Store → Option (Fl × Lc × Store)} {Q : γ → Store → Prop} (h : W o Q) (k : ∀ x σ1, Q x σ1 → WS (f (x, σ1)) P) : WS (o.bind f) P := by
  obtain ⟨x, σ1, e, q⟩ := h
  rw [e]; exact k x σ1 q
theorem WS.seq {o : Option (Fl × Lc × Store)} {f : Fl × Lc × Store → Option (Fl × Lc × Store)} {Q : Fl → Lc → Store → Prop} (h : WS o Q) (k : ∀ fl lc1 σ1, Q fl lc1 σ1 → WS (f (fl, lc1, σ1)) P) : WS (o.bind f) P := by
  obtain ⟨fl, x, σ1, e, q⟩ := h
  rw [e]; exact k fl x σ1 q
theorem WS.nx {o : Option (Lc × Store)} (h : W o (P .next)) : WS (o.map fun q => (.next, q)) P := by
  obtain ⟨x, σ1, e, q⟩ := h
  exact ⟨.next, x, σ1, by rw [e]; rfl, q⟩
theorem s_ret {m} (h : W (m lc σ) fun v σ1 => P (.ret v) lc σ1) : WS (sRet m lc σ) P := by
  obtain ⟨x, σ1, e, h⟩ := h
  exact ⟨_, _, _, by unfold sRet; rw [e]; rfl, h⟩
theorem s_for {en mi t b} (h : W (mi lc σ) fun src σ1 => src.isEnum = en ∧ ∃ items, src.items σ1 = some items ∧ WS (loopF src items t b items lc σ1) P) : WS (sFor en mi t b lc σ) P := by
  refine WS.bind h fun src σ1 h => ?_
  obtain ⟨he, items, e1, h⟩ := h
  simp only [he, if_true, e1, Option.bind_some]
  exact h
/- iterables -/
noncomputable def SQ (x : AV) (σ : Store) (P : Src → Store → Prop) : Prop := ∃ r, seqSrc x σ = some r ∧ P r σ
theorem i_seq {m} {P : Src → Store → Prop} (h : W (m lc σ) fun x σ1 => SQ x σ1 P) : W (iSeq m lc σ) P := h.bind fun x σ1 ⟨s, e, h⟩ => W.om e h
theorem SQ_t {l : List AV} {P : Src → Store → Prop} (h : P (.tup l) σ) : SQ (.tup l) σ P := ⟨_, rfl, h⟩
theorem SQ_r {k : Nat} {P : Src → Store → Prop} {l} (hl : σ[k]? = some (.list l)) (h : P (.list k) σ) : SQ (.ref k) σ P := ⟨_, by unfold seqSrc; simp only [hl], h⟩
theorem i_enum {m} {P : Src → Store → Prop} (h : W (m lc σ) fun x σ1 => ∃ k l, x = [.ref k] ∧ σ1[k]? = some (.list l) ∧ P (.enum k) σ1) : W (iEnum m lc σ) P := by
  refine h.bind fun x σ1 h => ?_
  obtain ⟨k, l, rfl, hl, h⟩ := h
  simp only [hl]
  exact W.ret h
/-- a loop by an invariant over the number of turns done -/
theorem loop_go {src : Src} {items : List AV} {t b} (J : Nat → Lc → Store → Prop) (hsrc : ∀ i lc σ, J i lc σ → src.items σ = some items)
    (step : ∀ i d lc σ, items[i]? = some d → J i lc σ → W (t d lc σ) fun lc1 σ1 => WS (b lc1 σ1) fun fl lc2 σ2 => fl = .next ∧ J (i + 1) lc2 σ2)
    (hend : ∀ lc σ, J items.length lc σ → P .next lc σ) : ∀ (rest : List AV) (i : Nat) (lc : Lc) (σ : Store), items.drop i = rest → i ≤ items.length → J i lc σ → WS (loopF src items t b rest lc σ) P := by
  intro rest
  induction rest with
  | nil =>
    intro i lc σ hd hi hJ
    have : i = items.length := by
      have := List.drop_eq_nil_iff.mp hd; lia
    subst this
    unfold loopF
    rw [if_pos (hsrc _ _ _ hJ)]
    exact WS.ret (hend _ _ hJ)
  | cons d ds ih =>
    intro i lc σ hd hi hJ
    have hlt : i < items.length := by
      have := congrArg List.length hd
      simp at this; omega
    have hg : items[i]? = some d := by
      have := congrArg (fun l => l[0]?) hd
      simpa using this
    have hds : items.drop (i + 1) = ds := by
      have := congrArg List.tail hd
      simpa using this
    unfold loopF
    rw [if_pos (hsrc _ _ _ hJ)]
    refine WS.bind (step i d lc σ hg hJ) fun lc1 σ1 h => ?_
    obtain ⟨fl, lc2, σ2, e, rfl, hJ2⟩ := h
    obtain ⟨fl3, lc3, σ3, e3, h3⟩ := ih (i + 1) lc2 σ2 hds (by lia) hJ2
    exact ⟨fl3, lc3, σ3, by rw [e]; exact e3, h3⟩
theorem loop_rule {src : Src} {items : List AV} {t b} (J : Nat → Lc → Store → Prop) (h0 : J 0 lc σ) (hsrc : ∀ i lc σ, J i lc σ → src.items σ = some items)
    (step : ∀ i d lc σ, items[i]? = some d → J i lc σ → W (t d lc σ) fun lc1 σ1 => WS (b lc1 σ1) fun fl lc2 σ2 => fl = .next ∧ J (i + 1) lc2 σ2)
    (hend : ∀ lc σ, J items.length lc σ → P .next lc σ) : WS (loopF src items t b items lc σ) P :=
  loop_go J hsrc step hend items 0 lc σ (by simp) (Nat.zero_le _) h0
theorem while_rule {c : BM} {b : SM} (J : Nat → Lc → Store → Prop) (step : ∀ k lc σ, J k lc σ → W (c lc σ) fun t σ1 => if t = true then ∃ k', k = k' + 1 ∧ WS (b lc σ1) fun fl lc2 σ2 => fl = .next ∧ J k' lc2 σ2 else P .next lc σ1) :
    ∀ (n k : Nat) (lc : Lc) (σ : Store), k < n → J k lc σ → WS (loopW c b n lc σ) P := by
  intro n
  induction n with
  | zero => intro k lc σ h; lia
  | succ n ih =>
    intro k lc σ hk hJ
    unfold loopW
    refine WS.bind (step k lc σ hJ) fun t σ1 h => ?_
    cases t with
    | false => exact WS.ret h
    | true =>
      obtain ⟨k', rfl, fl, lc2, σ2, e, rfl, hJ2⟩ := h
      obtain ⟨fl3, lc3, σ3, e3, h3⟩ := ih k' lc2 σ2 (by lia) hJ2
      exact ⟨fl3, lc3, σ3, by show Option.bind (b lc σ1) _ = _; rw [e]; exact e3, h3⟩
end
section
variable {P : AV → Store → Prop} {σ : Store} {lc : Lc}
theorem d_n {n k : Nat} {b : SM} {args : List AV} (hl : args.length = n) (h : WS (b (args.map some ++ List.replicate k none) σ) fun fl _ σ' => P (flV fl) σ') : W (defN n k b args σ) P := by
  refine W.gd (c := (id args).length = n) hl ?_
  obtain ⟨fl, l, s, e1, h⟩ := h
  refine ⟨flV fl, s, ?_, h⟩
  show ((b (args.map some ++ List.replicate k none) σ).map _) = _
  rw [e1]
  cases fl <;> rfl
theorem d_m {n k : Nat} {fill : List AV → List AV} {b : SM} {args : List AV} (hl : (fill args).length = n) (h : WS (b ((fill args).map some ++ List.replicate k none) σ) fun fl _ σ' => P (flV fl) σ') : W (defM n k fill b args σ) P := d_n (args := fill args) hl h
theorem d_make {Cl : Addr} {F : FM} {args : List AV} (h : W (F (.ref (σ.length + 1) :: args) (σ ++ [.ns [], .inst Cl σ.length])) fun v σ' => v = .none ∧ P (.ref (σ.length + 1)) σ') : W (fMake Cl F args σ) P := by
  obtain ⟨v, σ', e, rfl, h⟩ := h
  unfold fMake
  rw [e]
  exact W.ret h
theorem eq_py {a b : AV} {x y} (e1 : py σ 8 a = some x) (e2 : py σ 8 b = some y) (h : P (.bool (PyData.eqv x y)) σ) : W (eqA a b σ) P := W.ob e1 (W.om e2 h)
theorem ne_py {a b : AV} {x y} (e1 : py σ 8 a = some x) (e2 : py σ 8 b = some y) (h : P (.bool (!PyData.eqv x y)) σ) : W (neA a b σ) P := W.ob e1 (W.om e2 h)
theorem py_int {n : Nat} {i : Int} : py σ n (.int i) = some (.int i) := by unfold py; rfl
theorem py_bool {n : Nat} {b : Bool} : py σ n (.bool b) = some (.bool b) := by unfold py; rfl
theorem eqv_int {a b : Int} : PyData.eqv (.int a) (.int b) = (a == b) := rfl
theorem eq_ii {a b : Int} (h : P (.bool (a == b)) σ) : W (eqA (.int a) (.int b) σ) P := eq_py py_int py_int h
theorem ne_ii {a b : Int} (h : P (.bool (!(a == b))) σ) : W (neA (.int a) (.int b) σ) P := ne_py py_int py_int h
theorem eq_bb {a b : Bool} (h : P (.bool (a == b)) σ) : W (eqA (.bool a) (.bool b) σ) P := eq_py py_bool py_bool h
end
end Mine
end
-- part PX
section
open PySem PySem.W PySem.Calls PyProof.Rows
set_option maxRecDepth 100000
namespace Mine
/- the shallow functions once more, each with what it asks (wp): what it asks is read off by unfolding, with no proof -/
structure XE (α : Type) where
  m : Lc → Store → Option (α × Store)
  wp : Lc → Store → (α → Store → Prop) → Prop
  ok : ∀ {lc σ P}, wp lc σ P → W (m lc σ) P
structure XS where
  m : SM
  wp : Lc → Store → (Fl → Lc → Store → Prop) → Prop
  ok : ∀ {lc σ P}, wp lc σ P → WS (m lc σ) P
structure XO where
  f : AV → AV → Store → Option (AV × Store)
  wp : AV → AV → Store → (AV → Store → Prop) → Prop
  ok : ∀ {x y σ P}, wp x y σ P → W (f x y σ) P
structure XU where
  f : AV → Store → Option (AV × Store)
  wp : AV → Store → (AV → Store → Prop) → Prop
  ok : ∀ {x σ P}, wp x σ P → W (f x σ) P
noncomputable def NewO (σ : Store) (o : AO) (P : AV → Store → Prop) : Prop := ∀ k σ2, σ2[k]? = some o → Keep0 σ σ2 → σ.length ≤ k → P (.ref k) σ2
theorem NewO.al {σ o P} (h : NewO σ o P) : Alloc σ o P := Alloc.intro h
noncomputable def UpdO (σ : Store) (k : Nat) (o : AO) (P : Store → Prop) : Prop := ∀ σ2, σ2[k]? = some o → Keep (· = k) σ σ2 → P σ2
@[irreducible] noncomputable def CallR (F : FM) (l : List AV) (σ : Store) (P : AV → Store → Prop) : Prop := W (F l σ) P
theorem CallR.mk {F l σ P} (h : W (F l σ) P) : CallR F l σ P := by unfold CallR; exact h
theorem CallR.h {F l σ P} (h : CallR F l σ P) : W (F l σ) P := by unfold CallR at h; exact h
@[irreducible] noncomputable def RawR {α : Type} (m : Lc → Store → Option (α × Store)) (lc : Lc) (σ : Store) (P : α → Store → Prop) : Prop := W (m lc σ) P
theorem RawR.mk {α m lc σ} {P : α → Store → Prop} (h : W (m lc σ) P) : RawR m lc σ P := by unfold RawR; exact h
theorem RawR.h {α m lc σ} {P : α → Store → Prop} (h : RawR m lc σ P) : W (m lc σ) P := by unfold RawR at h; exact h
@[irreducible] noncomputable def OpR (f : AV → AV → Store → Option (AV × Store)) (x y : AV) (σ : Store) (P : AV → Store → Prop) : Prop := W (f x y σ) P
theorem OpR.mk {f x y σ P} (h : W (f x y σ) P) : OpR f x y σ P := by unfold OpR; exact h
theorem OpR.h {f x y σ P} (h : OpR f x y σ P) : W (f x y σ) P := by unfold OpR at h; exact h
noncomputable def IfB (t : Bool) (A B : Prop) : Prop := match t with | true => A | false => B
theorem IfB.tt {t A B} (h : t = true) (k : A) : IfB t A B := by subst h; exact k
theorem IfB.ff {t A B} (h : t = false) (k : B) : IfB t A B := by subst h; exact k
theorem IfB.both {t A B} (h : t = true → A) (k : t = false → B) : IfB t A B := by cases t; exact k rfl; exact h rfl
theorem IfB.w {t : Bool} {A B : Prop} {β : Type} {P : β → Store → Prop} {p q : Option (β × Store)} (h : IfB t A B) (f : A → W p P) (g : B → W q P) : W (if t = true then p else q) P := by cases t; exact g h; exact f h
theorem IfB.ws {t : Bool} {A B : Prop} {P : Fl → Lc → Store → Prop} {p q : Option (Fl × Lc × Store)} (h : IfB t A B) (f : A → WS p P) (g : B → WS q P) : WS (if t = true then p else q) P := by cases t; exact g h; exact f h
theorem IfB.ite {t : Bool} {α : Type} {p : Option α} {q : Option α} {R : Option α → Prop} (h : IfB t (R p) (R q)) : R (if t = true then p else q) := by cases t <;> exact h
noncomputable def locV : Nat → Lc → Option AV
  | _, [] => none
  | 0, x :: _ => x
  | k + 1, _ :: lc => locV k lc
theorem locV_eq {lc : Lc} : ∀ {k}, lc[k]?.join = locV k lc := by
  induction lc with
  | nil => intro k; cases k <;> rfl
  | cons x lc ih =>
    intro k
    cases k with
    | zero => cases x <;> rfl
    | succ k => exact ih
noncomputable def ltL {α : Type} : Nat → List α → Bool
  | _, [] => false
  | 0, _ :: _ => true
  | k + 1, _ :: l => ltL k l
theorem ltL_lt {α : Type} {l : List α} : ∀ {k}, ltL k l = true → k < l.length := by
  induction l with
  | nil => intro k h; cases k <;> cases h
  | cons x l ih =>
    intro k h
    cases k with
    | zero => exact Nat.zero_lt_succ _
    | succ k => exact Nat.succ_lt_succ (ih h)
noncomputable def leL {α : Type} : Nat → List α → Bool
  | _, [] => true
  | 0, _ :: _ => false
  | k + 1, _ :: l => leL k l
theorem leL_le {α : Type} {l : List α} : ∀ {k}, leL k l = true → l.length ≤ k := by
  induction l with
  | nil => intro k _; exact Nat.zero_le _
  | cons x l ih =>
    intro k h
    cases k with
    | zero => cases h
    | succ k => exact Nat.succ_le_succ (ih h)
noncomputable def eqL {α : Type} : Nat → List α → Bool
  | 0, [] => true
  | k + 1, _ :: l => eqL k l
  | _, _ => false
theorem eqL_eq {α : Type} {l : List α} : ∀ {k}, eqL k l = true → l.length = k := by
  induction l with
  | nil => intro k h; cases k; rfl; cases h
  | cons x l ih =>
    intro k h
    cases k with
    | zero => cases h
    | succ k => exact congrArg Nat.succ (ih h)
/-- a test that is read off -/
noncomputable def Tst (t : Bool) (p : Prop) : Prop := match t with | true => p | false => False
theorem Tst.h {t p} (h : Tst t p) : t = true ∧ p := by cases t; exact h.elim; exact ⟨rfl, h⟩
noncomputable def Som {α : Type} (o : Option α) (p : α → Prop) : Prop := match o with | some v => p v | none => False
theorem Som.h {α : Type} {o : Option α} {p : α → Prop} (h : Som o p) : ∃ v, o = some v ∧ p v := by cases o; exact h.elim; exact ⟨_, rfl, h⟩
inductive GetR (i : Nat) (k : Int) (P : AV → Store → Prop) (σ : Store) : Prop
  | mk {l v} (h1 : σ[i]? = some (.list l)) (h2 : idx l k = some v) (h : P v σ)
inductive GetD (i : Nat) (k : Str) (P : AV → Store → Prop) (σ : Store) : Prop
  | mk {l v} (h1 : σ[i]? = some (.dict l)) (h2 : l.lookup k = some v) (h : P v σ)
inductive GetT (l : List AV) (k : Int) (P : AV → Store → Prop) (σ : Store) : Prop
  | mk {v} (h2 : idx l k = some v) (h : P v σ)
inductive MethR (Cl : Addr) (name : Str) (i : Nat) (σ : Store) (K : Prop) : Prop
  | mk {d kvs} (h1 : σ[i]? = some (.inst Cl d)) (h2 : σ[d]? = some (.ns kvs)) (h3 : noKey name kvs = true) (h : K)
inductive AttrR (Cl : Addr) (name : Str) (i : Nat) (P : AV → Store → Prop) (σ : Store) : Prop
  | mk {d kvs v} (h1 : σ[i]? = some (.inst Cl d)) (h2 : σ[d]? = some (.ns kvs)) (h3 : kvs.lookup name = some v) (h : P v σ)
inductive ListR (i : Nat) (σ : Store) (K : Prop) : Prop
  | mk {l} (h1 : σ[i]? = some (.list l)) (h : K)
inductive SliceR (i : Nat) (p q : Option Int) (P : AV → Store → Prop) (σ : Store) : Prop
  | mk {l} (h1 : σ[i]? = some (.list l)) (h2 : l.length ≤ 1000) (h : NewO σ (.list (sliceL l p q)) P)
inductive LenR (i : Nat) (P : AV → Store → Prop) (σ : Store) : Prop
  | mk {l n} (h1 : σ[i]? = some (.list l)) (h2 : l.length = n) (h3 : n ≤ 1000) (h : P (.int n) σ)
inductive AddR (i j : Nat) (P : AV → Store → Prop) (σ : Store) : Prop
  | mk {l k} (h1 : σ[i]? = some (.list l)) (h2 : σ[j]? = some (.list k)) (h3 : l.length + k.length ≤ 1000) (h : NewO σ (.list (l ++ k)) P)
inductive MulR (i : Nat) (b : Int) (P : AV → Store → Prop) (σ : Store) : Prop
  | mk {l} (h1 : σ[i]? = some (.list l)) (h2 : l.length ≤ 10 ∧ -1000 ≤ b ∧ b ≤ 1000) (h : NewO σ (.list (List.replicate b.toNat l).flatten) P)
inductive AskR (c : Prop) (K : Prop) : Prop
  | mk (h1 : c) (h : K)
inductive SetR (i : Nat) (k : Int) (d : AV) (σ : Store) (U : Store → Prop) : Prop
  | mk {l j} (h1 : σ[i]? = some (.list l)) (h2 : idxN l k = some j) (h : UpdO σ i (.list (l.set j d)) U)
inductive SetD (i : Nat) (k : Str) (d : AV) (σ : Store) (U : Store → Prop) : Prop
  | mk {l} (h1 : σ[i]? = some (.dict l)) (h2 : l.length ≤ 1000) (h : UpdO σ i (.dict (putKV l k d)) U)
inductive SetA (Cl : Addr) (name : Str) (i : Nat) (d : AV) (σ : Store) (U : Store → Prop) : Prop
  | mk {dd kvs} (h1 : σ[i]? = some (.inst Cl dd)) (h2 : σ[dd]? = some (.ns kvs)) (h3 : leL 100 kvs = true) (h : UpdO σ dd (.ns (putN name d kvs)) U)
noncomputable section
noncomputable def xLoc (k : Nat) : XE AV where
  m := eLoc k
  wp lc σ P := Som (locV k lc) fun v => P v σ
  ok h := by
    obtain ⟨v, e, h⟩ := h.h
    exact ⟨v, _, by unfold eLoc; rw [locV_eq, e]; rfl, h⟩
noncomputable def xVal (v : AV) : XE AV where
  m := eVal v
  wp _ σ P := P v σ
  ok h := W_val h
noncomputable def xBin (o : XO) (a b : XE AV) : XE AV where
  m := eBin o.f a.m b.m
  wp lc σ P := a.wp lc σ fun x σ1 => b.wp lc σ1 fun y σ2 => o.wp x y σ2 P
  ok h := (a.ok h).bind fun _ _ h => (b.ok h).bind fun _ _ h => o.ok h
noncomputable def xUn (o : XU) (a : XE AV) : XE AV where
  m := eUn o.f a.m
  wp lc σ P := a.wp lc σ fun x σ1 => o.wp x σ1 P
  ok h := (a.ok h).bind fun _ _ h => o.ok h
theorem ifb_w {t : Bool} {A B C D : Prop} (h : IfB t A B) (f : A → C) (g : B → D) : if t = true then C else D := by cases t; exact g h; exact f h
noncomputable def xIf (c : XE Bool) (a b : XE AV) : XE AV where
  m := eIf c.m a.m b.m
  wp lc σ P := c.wp lc σ fun t σ1 => IfB t (a.wp lc σ1 P) (b.wp lc σ1 P)
  ok h := (c.ok h).bind fun _ _ h => h.w a.ok b.ok
noncomputable def boolW (x : AV) (p : Bool → Prop) : Prop := match x with | .bool b => p b | _ => False
theorem boolW.h {x p} (h : boolW x p) : ∃ b, x = .bool b ∧ p b := by cases x <;> first | exact h.elim | exact ⟨_, rfl, h⟩
noncomputable def xAnd (a b : XE AV) : XE AV where
  m := eAnd a.m b.m
  wp lc σ P := a.wp lc σ fun x σ1 => boolW x fun c => IfB c (b.wp lc σ1 P) (P x σ1)
  ok h := (a.ok h).bind fun _ _ h => by obtain ⟨c, rfl, h⟩ := h.h; exact h.w b.ok W.ret
noncomputable def xOr (a b : XE AV) : XE AV where
  m := eOr a.m b.m
  wp lc σ P := a.wp lc σ fun x σ1 => boolW x fun c => IfB c (P x σ1) (b.wp lc σ1 P)
  ok h := (a.ok h).bind fun _ _ h => by obtain ⟨c, rfl, h⟩ := h.h; exact h.w W.ret b.ok
noncomputable def xChain (f g : XO) (a b c : XE AV) : XE AV where
  m := eChain f.f g.f a.m b.m c.m
  wp lc σ P := a.wp lc σ fun x σ1 => b.wp lc σ1 fun y σ2 => f.wp x y σ2 fun r σ3 => boolW r fun t => IfB t (c.wp lc σ3 fun z σ4 => g.wp y z σ4 P) (P r σ3)
  ok h := (a.ok h).bind fun _ _ h => (b.ok h).bind fun _ _ h => (f.ok h).bind fun _ _ h => by obtain ⟨c', rfl, h⟩ := h.h; exact h.w (fun h => (c.ok h).bind fun _ _ h => g.ok h) W.ret
noncomputable def getW (x y : AV) (σ : Store) (P : AV → Store → Prop) : Prop := match x, y with
  | .ref i, .int k => GetR i k P σ
  | .ref i, .str s => GetD i s P σ
  | .tup l, .int k => GetT l k P σ
  | _, _ => False
theorem getW.h {x y σ P} (h : getW x y σ P) : hasGet x σ = true ∧ W (getA x y σ) P := by
  unfold getW at h
  split at h
  · obtain ⟨h1, h2, h⟩ := h; exact ⟨has_l h1, get_ri h1 h2 h⟩
  · obtain ⟨h1, h2, h⟩ := h; exact ⟨has_d h1, get_rs h1 h2 h⟩
  · obtain ⟨h2, h⟩ := h; exact ⟨has_t, get_ti h2 h⟩
  · exact h.elim
noncomputable def xGet (a b : XE AV) : XE AV where
  m := eGet a.m b.m
  wp lc σ P := a.wp lc σ fun x σ1 => b.wp lc σ1 fun y σ2 => getW x y σ2 P
  ok h := (a.ok h).bind fun _ _ h => (b.ok h).bind fun _ _ h => W.gd h.h.1 h.h.2
noncomputable def xTup (m : XE (List AV)) : XE AV where
  m := eTup m.m
  wp lc σ P := m.wp lc σ fun l σ1 => Tst (leL 100 l) (P (.tup l) σ1)
  ok h := (m.ok h).bind fun _ _ h => W.gd (leL_le h.h.1) (W.ret h.h.2)
noncomputable def xList (m : XE (List AV)) : XE AV where
  m := eList m.m
  wp lc σ P := m.wp lc σ fun l σ1 => Tst (leL 100 l) (NewO σ1 (.list l) P)
  ok h := (m.ok h).bind fun _ _ h => W.gd (leL_le h.h.1) (W.ret (NewO.al h.h.2))
noncomputable def xaNil : XE (List AV) where
  m := aNil
  wp _ σ P := P [] σ
  ok h := W.ret h
noncomputable def xaCons (a : XE AV) (b : XE (List AV)) : XE (List AV) where
  m := aCons a.m b.m
  wp lc σ P := a.wp lc σ fun x σ1 => b.wp lc σ1 fun l σ2 => P (x :: l) σ2
  ok h := (a.ok h).bind fun _ _ h => W.map (b.ok h)
noncomputable def xCall (F : FM) (m : XE (List AV)) : XE AV where
  m := eCall F m.m
  wp lc σ P := m.wp lc σ fun l σ1 => CallR F l σ1 P
  ok h := (m.ok h).bind fun _ _ h => h.h
noncomputable def lenW (l : List AV) (σ : Store) (P : AV → Store → Prop) : Prop := match l with | [.ref i] => LenR i P σ | _ => False
theorem lenW.h {l σ P} (h : lenW l σ P) : W (fLen l σ) P := by
  unfold lenW at h
  split at h
  · obtain ⟨h1, rfl, h2, h⟩ := h; exact len_r h1 h2 h
  · exact h.elim
noncomputable def xLen (m : XE (List AV)) : XE AV where
  m := eCall fLen m.m
  wp lc σ P := m.wp lc σ fun l σ1 => lenW l σ1 P
  ok h := (m.ok h).bind fun _ _ h => h.h
noncomputable def mmW (f : Int → Int → Int) (l : List AV) (σ : Store) (P : AV → Store → Prop) : Prop := match l with | [.int a, .int b] => P (.int (f a b)) σ | _ => False
theorem mmW.max {l σ P} (h : mmW max l σ P) : W (fMax l σ) P := by
  unfold mmW at h
  split at h
  · exact max_ii h
  · exact h.elim
theorem mmW.min {l σ P} (h : mmW min l σ P) : W (fMin l σ) P := by
  unfold mmW at h
  split at h
  · exact min_ii h
  · exact h.elim
noncomputable def xMax (m : XE (List AV)) : XE AV where
  m := eCall fMax m.m
  wp lc σ P := m.wp lc σ fun l σ1 => mmW max l σ1 P
  ok h := (m.ok h).bind fun _ _ h => h.max
noncomputable def xMin (m : XE (List AV)) : XE AV where
  m := eCall fMin m.m
  wp lc σ P := m.wp lc σ fun l σ1 => mmW min l σ1 P
  ok h := (m.ok h).bind fun _ _ h => h.min
noncomputable def refW (x : AV) (p : Nat → Prop) : Prop := match x with | .ref i => p i | _ => False
theorem refW.h {x p} (h : refW x p) : ∃ i, x = .ref i ∧ p i := by cases x <;> first | exact h.elim | exact ⟨_, rfl, h⟩
noncomputable def xMeth (Cl : Addr) (name : Str) (F : FM) (a : XE AV) (b : XE (List AV)) : XE AV where
  m := eMeth Cl name F a.m b.m
  wp lc σ P := a.wp lc σ fun x σ1 => refW x fun i => MethR Cl name i σ1 (b.wp lc σ1 fun l σ2 => CallR F (x :: l) σ2 P)
  ok h := (a.ok h).bind fun _ _ h => by obtain ⟨i, rfl, h1, h2, h3, h⟩ := h.h; exact W_meth h1 h2 h3 ((b.ok h).mono fun _ _ h => h.h)
noncomputable def xMethL (F : FM) (a : XE AV) (b : XE (List AV)) : XE AV where
  m := eMethL F a.m b.m
  wp lc σ P := a.wp lc σ fun x σ1 => refW x fun i => ListR i σ1 (b.wp lc σ1 fun l σ2 => CallR F (x :: l) σ2 P)
  ok h := (a.ok h).bind fun _ _ h => by obtain ⟨i, rfl, h1, h⟩ := h.h; exact W_methL h1 ((b.ok h).mono fun _ _ h => h.h)
noncomputable def xAttr (Cl : Addr) (name : Str) (a : XE AV) : XE AV where
  m := eAttr Cl name a.m
  wp lc σ P := a.wp lc σ fun x σ1 => refW x fun i => AttrR Cl name i P σ1
  ok h := (a.ok h).bind fun _ _ h => by obtain ⟨i, rfl, h1, h2, h3, h⟩ := h.h; exact W_getC h1 h2 h3 h
noncomputable def xSlice (a lo hi : XE AV) : XE AV where
  m := eSlice a.m lo.m hi.m
  wp lc σ P := a.wp lc σ fun x σ1 => lo.wp lc σ1 fun y σ2 => hi.wp lc σ2 fun z σ3 => refW x fun i => Som (partOf y) fun p => Som (partOf z) fun q => SliceR i p q P σ3
  ok h := (a.ok h).bind fun _ _ h => (lo.ok h).bind fun _ _ h => (hi.ok h).bind fun _ _ h => by
    obtain ⟨i, e0, h⟩ := h.h
    obtain ⟨p, e1, h⟩ := h.h
    obtain ⟨q, e2, h1, h2, hz⟩ := h.h
    subst e0
    exact W_slice (lc := []) h1 h2 hz.al e1 e2
noncomputable def xRaw (m : EM) : XE AV where
  m := m
  wp lc σ P := RawR m lc σ P
  ok h := h.h
noncomputable def xbOf (a : XE AV) : XE Bool where
  m := bOf a.m
  wp lc σ P := a.wp lc σ fun x σ1 => boolW x fun b => P b σ1
  ok h := (a.ok h).bind fun _ _ h => by obtain ⟨b, rfl, h⟩ := h.h; exact W.ret h
noncomputable def xbNot (a : XE Bool) : XE Bool where
  m := bNot a.m
  wp lc σ P := a.wp lc σ fun x σ1 => P (!x) σ1
  ok h := W.map (a.ok h)
noncomputable def xbAnd (a b : XE Bool) : XE Bool where
  m := bAnd a.m b.m
  wp lc σ P := a.wp lc σ fun x σ1 => IfB x (b.wp lc σ1 P) (P false σ1)
  ok h := (a.ok h).bind fun _ _ h => h.w b.ok W.ret
noncomputable def xbOr (a b : XE Bool) : XE Bool where
  m := bOr a.m b.m
  wp lc σ P := a.wp lc σ fun x σ1 => IfB x (P true σ1) (b.wp lc σ1 P)
  ok h := (a.ok h).bind fun _ _ h => h.w W.ret b.ok
noncomputable def xbVal (b : Bool) : XE Bool where
  m := bVal b
  wp _ σ P := P b σ
  ok h := W.ret h
/- operations -/
noncomputable def i2 (x y : AV) (p : Int → Int → Prop) : Prop := match x, y with | .int a, .int b => p a b | _, _ => False
theorem i2.h {x y p} (h : i2 x y p) : ∃ a b, x = .int a ∧ y = .int b ∧ p a b := by unfold i2 at h; split at h; exact ⟨_, _, rfl, rfl, h⟩; exact h.elim
noncomputable def addW (x y : AV) (σ : Store) (P : AV → Store → Prop) : Prop := match x, y with | .int a, .int b => P (.int (a + b)) σ | .ref i, .ref j => AddR i j P σ | _, _ => False
noncomputable def oAdd : XO where
  f := opAdd
  wp := addW
  ok h := by
    unfold addW at h
    split at h
    · exact W.ret h
    · obtain ⟨h1, h2, h3, h⟩ := h; exact add_rr h1 h2 h3 h.al
    · exact h.elim
noncomputable def oSub : XO where
  f := opSub
  wp x y σ P := i2 x y fun a b => P (.int (a - b)) σ
  ok h := by obtain ⟨a, b, rfl, rfl, h⟩ := h.h; exact W.ret h
noncomputable def oMod : XO where
  f := opMod
  wp x y σ P := i2 x y fun a b => AskR (b ≠ 0) (P (.int (a.fmod b)) σ)
  ok h := by obtain ⟨a, b, rfl, rfl, h1, h⟩ := h.h; exact mod_ii h1 h
noncomputable def oDiv : XO where
  f := opDiv
  wp x y σ P := i2 x y fun a b => AskR (b = 64) (P (.int (a.fdiv b)) σ)
  ok h := by obtain ⟨a, b, rfl, rfl, h1, h⟩ := h.h; exact div_ii h1 h
noncomputable def mulW (x y : AV) (σ : Store) (P : AV → Store → Prop) : Prop := match x, y with | .int a, .int b => AskR (small b = true) (P (.int (a * b)) σ) | .ref i, .int b => MulR i b P σ | _, _ => False
noncomputable def oMul : XO where
  f := opMul
  wp := mulW
  ok h := by
    unfold mulW at h
    split at h
    · obtain ⟨h1, h⟩ := h; exact mul_ii h1 h
    · obtain ⟨h1, h2, h⟩ := h; exact mul_ri h1 h2 h.al
    · exact h.elim
noncomputable def oCmp (f : Int → Int → Bool) : XO where
  f := cmpInt f
  wp x y σ P := i2 x y fun a b => P (.bool (f a b)) σ
  ok h := by obtain ⟨a, b, rfl, rfl, h⟩ := h.h; exact W.ret h
noncomputable def isW (x y : AV) (σ : Store) (P : AV → Store → Prop) : Prop := match y with | .none => P (.bool (isNone x)) σ | _ => False
noncomputable def oIs : XO where
  f := isA
  wp := isW
  ok h := by unfold isW at h; split at h; exact is_n h; exact h.elim
noncomputable def eqW (x y : AV) (σ : Store) (P : AV → Store → Prop) : Prop := match x, y with | .int a, .int b => P (.bool (a == b)) σ | .bool a, .bool b => P (.bool (a == b)) σ | _, _ => OpR eqA x y σ P
noncomputable def oEq : XO where
  f := eqA
  wp := eqW
  ok h := by
    unfold eqW at h
    split at h
    · exact eq_ii h
    · exact eq_bb h
    · exact h.h
noncomputable def neW (x y : AV) (σ : Store) (P : AV → Store → Prop) : Prop := match x, y with | .int a, .int b => P (.bool (!(a == b))) σ | _, _ => OpR neA x y σ P
noncomputable def oNe : XO where
  f := neA
  wp := neW
  ok h := by
    unfold neW at h
    split at h
    · exact ne_ii h
    · exact h.h
noncomputable def oNeg : XU where
  f := negA
  wp x σ P := match x with | .int a => P (.int (-a)) σ | _ => False
  ok {x σ P} h := by cases x <;> first | exact h.elim | exact W.ret h
noncomputable def oNot : XU where
  f := notA
  wp x σ P := boolW x fun b => P (.bool (!b)) σ
  ok h := by obtain ⟨b, rfl, h⟩ := h.h; exact W.ret h
/- targets -/
noncomputable def xtLoc (k : Nat) (d : AV) : XE Lc where
  m := tLoc k d
  wp lc σ P := Tst (ltL k lc) (P (lc.set k (some d)) σ)
  ok h := W.gd (ltL_lt h.h.1) (W.ret h.h.2)
noncomputable def setW (x y d : AV) (σ : Store) (U : Store → Prop) : Prop := match x, y with | .ref i, .int k => SetR i k d σ U | .ref i, .str k => SetD i k d σ U | _, _ => False
theorem setW.h {x y d σ U} (h : setW x y d σ U) : US (setA x y d σ) U := by
  unfold setW at h
  split at h
  · obtain ⟨h1, h2, h⟩ := h; exact set_ri h1 h2 (Upd.intro (lt_of_get h1) h)
  · obtain ⟨h1, h2, h⟩ := h; exact set_rs h1 h2 (Upd.intro (lt_of_get h1) h)
  · exact h.elim
noncomputable def xtSub (mo mi : XE AV) (d : AV) : XE Lc where
  m := tSub mo.m mi.m d
  wp lc σ P := mo.wp lc σ fun x σ1 => mi.wp lc σ1 fun y σ2 => setW x y d σ2 (P lc)
  ok h := (mo.ok h).bind fun _ _ h => (mi.ok h).bind fun _ _ h => US.w h.h
noncomputable def xtAttr (Cl : Addr) (name : Str) (mo : XE AV) (d : AV) : XE Lc where
  m := tAttrC Cl name mo.m d
  wp lc σ P := mo.wp lc σ fun x σ1 => refW x fun i => SetA Cl name i d σ1 (P lc)
  ok h := (mo.ok h).bind fun _ _ h => by
    obtain ⟨i, rfl, h1, h2, h3, h⟩ := h.h
    exact US.w (set_c h1 h2 (leL_le h3) (Upd.intro (lt_of_get h2) h))
noncomputable def xtNil (l : List AV) : XE Lc where
  m := tNil l
  wp lc σ P := match l with | [] => P lc σ | _ => False
  ok h := by cases l; exact W.ret h; exact h.elim
noncomputable def xtCons (t : AV → XE Lc) (ts : List AV → XE Lc) (l : List AV) : XE Lc where
  m := tCons (fun d => (t d).m) (fun d => (ts d).m) l
  wp lc σ P := match l with | d :: ds => (t d).wp lc σ fun lc1 σ1 => (ts ds).wp lc1 σ1 P | _ => False
  ok h := by
    cases l with
    | nil => exact h.elim
    | cons d ds => exact ((t d).ok h).bind fun _ _ h => (ts ds).ok h
noncomputable def tupW (x : AV) (p : List AV → Prop) : Prop := match x with | .tup l => p l | _ => False
theorem tupW.h {x p} (h : tupW x p) : ∃ l, x = .tup l ∧ p l := by cases x <;> first | exact h.elim | exact ⟨_, rfl, h⟩
noncomputable def xtTupN (n : Nat) (ts : List AV → XE Lc) (d : AV) : XE Lc where
  m := tTupN n (fun d => (ts d).m) d
  wp lc σ P := tupW d fun l => Tst (eqL n l) ((ts l).wp lc σ P)
  ok h := by
    obtain ⟨l, rfl, h⟩ := h.h
    obtain ⟨h1, h2⟩ := Tst.h h
    exact t_tup (eqL_eq h1) ((ts l).ok h2)
noncomputable def xtSwap (n : Nat) (ts : List AV → XE Lc) (d : AV) : XE Lc where
  m := tSwap n (fun d => (ts d).m) d
  wp lc σ P := tupW d fun l => Tst (eqL n l) ((ts l.reverse).wp lc σ P)
  ok h := by
    obtain ⟨l, rfl, h⟩ := h.h
    obtain ⟨h1, h2⟩ := Tst.h h
    exact t_swap (eqL_eq h1) ((ts l.reverse).ok h2)
inductive SetS (i j : Nat) (p q : Option Int) (σ : Store) (U : Store → Prop) : Prop
  | mk {l k} (h1 : σ[i]? = some (.list l)) (h2 : σ[j]? = some (.list k)) (h3 : i ≠ j ∧ l.length + k.length ≤ 1000) (h : UpdO σ i (.list (setSliceL l k p q)) U)
noncomputable def xtSlice (mo ml mu : XE AV) (d : AV) : XE Lc where
  m := tSlice mo.m ml.m mu.m d
  wp lc σ P := mo.wp lc σ fun x σ1 => ml.wp lc σ1 fun y σ2 => mu.wp lc σ2 fun z σ3 => refW x fun i => refW d fun j => Som (partOf y) fun p => Som (partOf z) fun q => SetS i j p q σ3 (P lc)
  ok h := (mo.ok h).bind fun _ _ h => (ml.ok h).bind fun _ _ h => (mu.ok h).bind fun _ _ h => by
    obtain ⟨i, e0, h⟩ := h.h
    obtain ⟨j, e3, h⟩ := h.h
    obtain ⟨p, e1, h⟩ := h.h
    obtain ⟨q, e2, h1, h2, h3, hz⟩ := h.h
    subst e0 e3
    exact t_slice e1 e2 h1 h2 h3 (Upd.intro (lt_of_get h1) hz)
noncomputable def intW (x : AV) (p : Int → Prop) : Prop := match x with | .int a => p a | _ => False
theorem intW.h {x p} (h : intW x p) : ∃ a, x = .int a ∧ p a := by cases x <;> first | exact h.elim | exact ⟨_, rfl, h⟩
noncomputable def xTake (a hi : XE AV) : XE AV where
  m := eTake a.m hi.m
  wp lc σ P := a.wp lc σ fun x σ1 => hi.wp lc σ1 fun z σ2 => tupW x fun l => intW z fun b => AskR (0 ≤ b ∧ b < l.length ∧ l.length ≤ 1000) (P (.tup (l.take b.toNat)) σ2)
  ok h := (a.ok h).bind fun _ _ h => (hi.ok h).bind fun _ _ h => by
    obtain ⟨l, e0, h⟩ := h.h
    obtain ⟨b, e1, h1, hz⟩ := h.h
    subst e0 e1
    exact W.gd h1 (W.ret hz)
noncomputable def xtRaw (t : AV → Lc → Store → Option (Lc × Store)) (d : AV) : XE Lc where
  m := t d
  wp lc σ P := RawR (t d) lc σ P
  ok h := h.h
/- statements -/
noncomputable def flW (fl : Fl) (p : Prop) (q : AV → Prop) : Prop := match fl with | .next => p | .ret v => q v
noncomputable def xsNil : XS where
  m := sNil
  wp lc σ S := S .next lc σ
  ok h := WS.ret h
noncomputable def xsCons (a b : XS) : XS where
  m := sCons a.m b.m
  wp lc σ S := a.wp lc σ fun fl lc1 σ1 => flW fl (b.wp lc1 σ1 S) fun v => S (.ret v) lc1 σ1
  ok h := WS.seq (a.ok h) fun fl _ _ h => by cases fl; exact b.ok h; exact WS.ret h
noncomputable def xsAsg (m : XE AV) (t : AV → XE Lc) : XS where
  m := sAsg m.m (fun d => (t d).m)
  wp lc σ S := m.wp lc σ fun d σ1 => (t d).wp lc σ1 (S .next)
  ok h := WS.bind (m.ok h) fun d _ h => WS.nx ((t d).ok h)
noncomputable def xsIf (c : XE Bool) (a b : XS) : XS where
  m := sIf c.m a.m b.m
  wp lc σ S := c.wp lc σ fun t σ1 => IfB t (a.wp lc σ1 S) (b.wp lc σ1 S)
  ok h := WS.bind (c.ok h) fun _ _ h => h.ws a.ok b.ok
noncomputable def xsRet (m : XE AV) : XS where
  m := sRet m.m
  wp lc σ S := m.wp lc σ fun v σ1 => S (.ret v) lc σ1
  ok h := s_ret (m.ok h)
noncomputable def xsExpr (m : XE AV) : XS where
  m := sExpr m.m
  wp lc σ S := m.wp lc σ fun v σ1 => Tst (!isRefA v) (S .next lc σ1)
  ok h := WS.bind (m.ok h) fun v _ h => by rw [if_pos (by have := h.h.1; revert this; cases isRefA v <;> decide)]; exact WS.ret h.h.2
noncomputable def xsAugSub (k : Nat) (m : XE AV) : XS where
  m := sAugSub k m.m
  wp lc σ S := (xLoc k).wp lc σ fun x σ1 => m.wp lc σ1 fun y σ2 => i2 x y fun a b => (xtLoc k (.int (a - b))).wp lc σ2 (S .next)
  ok h := WS.bind ((xBin oSub (xLoc k) m).ok (P := fun v σ2 => (xtLoc k v).wp _ σ2 _) h) fun _ _ h => WS.nx ((xtLoc k _).ok h)
@[irreducible] noncomputable def ForR (en : Bool) (src : Src) (t : AV → XE Lc) (b : XS) (lc : Lc) (σ : Store) (S : Fl → Lc → Store → Prop) : Prop := src.isEnum = en ∧ ∃ items, src.items σ = some items ∧ WS (loopF src items (fun d => (t d).m) b.m items lc σ) S
theorem ForR.h {en src t b lc σ S} (h : ForR en src t b lc σ S) : src.isEnum = en ∧ ∃ items, src.items σ = some items ∧ WS (loopF src items (fun d => (t d).m) b.m items lc σ) S := by unfold ForR at h; exact h
theorem x_for {en src t b lc σ S} (items : List AV) (J : Nat → Lc → Store → Prop) (hen : src.isEnum = en) (h0 : J 0 lc σ) (hsrc : ∀ i lc σ, J i lc σ → src.items σ = some items)
    (step : ∀ i d lc σ, items[i]? = some d → J i lc σ → (t d).wp lc σ fun lc1 σ1 => b.wp lc1 σ1 fun fl lc2 σ2 => fl = .next ∧ J (i + 1) lc2 σ2)
    (hend : ∀ lc σ, J items.length lc σ → S .next lc σ) : ForR en src t b lc σ S := by
  unfold ForR
  exact ⟨hen, items, hsrc _ _ _ h0, loop_rule J h0 hsrc (fun i d lc σ hd hJ => ((t d).ok (step i d lc σ hd hJ)).mono fun _ _ h => b.ok h) hend⟩
noncomputable def xsFor (en : Bool) (mi : XE Src) (t : AV → XE Lc) (b : XS) : XS where
  m := sFor en mi.m (fun d => (t d).m) b.m
  wp lc σ S := mi.wp lc σ fun src σ1 => ForR en src t b lc σ1 S
  ok h := s_for ((mi.ok h).mono fun _ _ h => h.h)
@[irreducible] noncomputable def WhileR (c : XE Bool) (b : XS) (n : Nat) (lc : Lc) (σ : Store) (S : Fl → Lc → Store → Prop) : Prop := WS (loopW c.m b.m n lc σ) S
theorem WhileR.h {c b n lc σ S} (h : WhileR c b n lc σ S) : WS (loopW c.m b.m n lc σ) S := by unfold WhileR at h; exact h
theorem x_while {c b n lc σ S} (k : Nat) (J : Nat → Lc → Store → Prop) (hk : k < n) (h0 : J k lc σ)
    (step : ∀ k lc σ, J k lc σ → c.wp lc σ fun t σ1 => IfB t (∃ k', k = k' + 1 ∧ b.wp lc σ1 fun fl lc2 σ2 => fl = .next ∧ J k' lc2 σ2) (S .next lc σ1)) : WhileR c b n lc σ S := by
  unfold WhileR
  exact while_rule J (fun k lc σ hJ => (c.ok (step k lc σ hJ)).mono fun _ _ h => ifb_w h (fun ⟨k', e, h⟩ => ⟨k', e, b.ok h⟩) id) n k lc σ hk h0
noncomputable def xWhile (c : XE Bool) (b : XS) (n : Nat) : XS where
  m := loopW c.m b.m n
  wp lc σ S := WhileR c b n lc σ S
  ok h := h.h
noncomputable def seqW (x : AV) (σ : Store) (P : Src → Store → Prop) : Prop := match x with | .tup l => P (.tup l) σ | .ref k => ListR k σ (P (.list k) σ) | _ => False
noncomputable def xiSeq (m : XE AV) : XE Src where
  m := iSeq m.m
  wp lc σ P := m.wp lc σ fun x σ1 => seqW x σ1 P
  ok h := i_seq ((m.ok h).mono fun x _ h => by
    unfold seqW at h
    split at h
    · exact SQ_t h
    · obtain ⟨h1, h⟩ := h; exact SQ_r h1 h
    · exact h.elim)
noncomputable def xiRange (m : XE (List AV)) : XE Src where
  m := iRange m.m
  wp lc σ P := m.wp lc σ fun x σ1 => Som (rangeSrc x) fun r => P r σ1
  ok h := (m.ok h).bind fun _ _ h => by obtain ⟨r, e, h⟩ := h.h; exact W.om e h
noncomputable def enumW (l : List AV) (σ : Store) (P : Src → Store → Prop) : Prop := match l with | [.ref k] => ListR k σ (P (.enum k) σ) | _ => False
noncomputable def xiEnum (m : XE (List AV)) : XE Src where
  m := iEnum m.m
  wp lc σ P := m.wp lc σ fun x σ1 => enumW x σ1 P
  ok h := i_enum ((m.ok h).mono fun x _ h => by
    unfold enumW at h
    split at h
    · obtain ⟨h1, h⟩ := h; exact ⟨_, _, rfl, h1, h⟩
    · exact h.elim)
theorem x_def {n k : Nat} {X : XS} {args : List AV} {σ : Store} {P : AV → Store → Prop} (h1 : eqL n args = true) (h : X.wp (args.map some ++ List.replicate k none) σ fun fl _ σ' => P (flV fl) σ') : W (defN n k X.m args σ) P := d_n (eqL_eq h1) (X.ok h)
end
theorem join {T Q : Store → Prop} {G : Prop} (main : (∀ σ', Q σ' → T σ') → G) (tail : ∀ σ', Q σ' → T σ') : G := main tail
theorem join2 {α : Type} {T Q : α → Store → Prop} {G : Prop} (main : (∀ a σ', Q a σ' → T a σ') → G) (tail : ∀ a σ', Q a σ' → T a σ') : G := main tail
theorem join3 {α β : Type} {T Q : α → β → Store → Prop} {G : Prop} (main : (∀ a b σ', Q a b σ' → T a b σ') → G) (tail : ∀ a b σ', Q a b σ' → T a b σ') : G := main tail
theorem c_list {i : Nat} {l} {σ : Store} {P : AV → Store → Prop} (h1 : σ[i]? = some (.list l)) (h2 : l.length ≤ 1000) (h : NewO σ (.list l) P) : CallR fList [.ref i] σ P := CallR.mk (list_r h1 h2 h.al)
theorem t_lt {c : Prop} [Decidable c] (h : c) : decide c = true := decide_eq_true h
theorem t_nlt {c : Prop} [Decidable c] (h : ¬ c) : decide c = false := decide_eq_false h
theorem t_eq {a b : Int} (h : a = b) : (a == b) = true := beq_iff_eq.mpr h
theorem t_ne {a b : Int} (h : a ≠ b) : (a == b) = false := beq_eq_false_iff_ne.mpr h
theorem t_not {a : Bool} (h : a = false) : (!a) = true := by subst h; rfl
theorem t_nnot {a : Bool} (h : a = true) : (!a) = false := by subst h; rfl
end Mine
end
-- part PY
section
open PySem PySem.W PySem.Calls PyProof.Rows
set_option maxRecDepth 100000
set_option maxHeartbeats 4000000
namespace Mine
noncomputable def xLt : XO := oCmp fun a b => decide (a < b)
noncomputable def xGt : XO := oCmp fun a b => decide (b < a)
noncomputable def xLe : XO := oCmp fun a b => decide (a ≤ b)
noncomputable def xm_clamp : XS := xsCons (xsRet (xMax (xaCons (xLoc 1) (xaCons (xMin (xaCons (xLoc 0) (xaCons (xLoc 2) xaNil))) xaNil)))) xsNil
noncomputable def xm_erased_pen : XS := xsCons (xsRet (xTup (xaCons (xVal (.int 0)) (xaCons (xVal v_NO_COLOUR) (xaCons (xGet (xLoc 0) (xVal v_BACK)) (xaCons (xVal v_NO_COLOUR) (xaCons (xVal (.int 0)) xaNil))))))) xsNil
noncomputable def xm_blank_cell : XS := xsCons (xsRet (xTup (xaCons (xTup xaNil) (xaCons (xVal (.int 1)) (xaCons (xCall F_erased_pen (xaCons (xLoc 0) xaNil)) (xaCons (xVal (.bool false)) xaNil)))))) xsNil
noncomputable def xm_is_blank : XS := xsCons (xsRet (xAnd (xBin oEq (xGet (xLoc 0) (xVal (.int 0))) (xTup xaNil)) (xBin oEq (xGet (xLoc 0) (xVal (.int 1))) (xVal (.int 1))))) xsNil
noncomputable def xm_is_plain_blank : XS := xsCons (xsRet (xBin oEq (xLoc 0) (xTup (xaCons (xTup xaNil) (xaCons (xVal (.int 1)) (xaCons (xVal v_PLAIN) (xaCons (xVal (.bool false)) xaNil))))))) xsNil
noncomputable def xm_line_blanks : XS := xsCons (xsRet (xBin oMul (xList (xaCons (xCall F_blank_cell (xaCons (xLoc 1) xaNil)) xaNil)) (xMax (xaCons (xVal (.int 0)) (xaCons (xLoc 0) xaNil))))) xsNil
noncomputable def xm_right_half : XS := xsCons (xsRet (xTup (xaCons (xTup xaNil) (xaCons (xVal (.int 0)) (xaCons (xGet (xLoc 0) (xVal (.int 2))) (xaCons (xGet (xLoc 0) (xVal (.int 3))) xaNil)))))) xsNil
noncomputable def xm_line_part : XS := xsCons (xsIf (xbAnd (xbOf (xChain xLt xLt (xVal (.int 0)) (xLoc 1) (xLen (xaCons (xLoc 0) xaNil)))) (xbAnd (xbOf (xBin oEq (xGet (xGet (xLoc 0) (xLoc 1)) (xVal (.int 1))) (xVal (.int 0)))) (xbVal true))) (xsCons (xsAsg (xCall F_blank_cell (xaCons (xGet (xGet (xLoc 0) (xBin oSub (xLoc 1) (xVal (.int 1)))) (xVal (.int 2))) xaNil)) (xtSub (xLoc 0) (xBin oSub (xLoc 1) (xVal (.int 1))))) (xsCons (xsAsg (xCall F_blank_cell (xaCons (xGet (xGet (xLoc 0) (xLoc 1)) (xVal (.int 2))) xaNil)) (xtSub (xLoc 0) (xLoc 1))) xsNil)) xsNil) xsNil
noncomputable def xm_line_slice : XS := xsCons (xsAsg (xCall fList (xaCons (xSlice (xLoc 0) (xMax (xaCons (xVal (.int 0)) (xaCons (xLoc 1) xaNil))) (xMax (xaCons (xVal (.int 0)) (xaCons (xBin oAdd (xLoc 2) (xVal (.int 1))) xaNil)))) xaNil)) (xtLoc 3)) (xsCons (xsIf (xbAnd (xbOf (xBin oNe (xLoc 3) (xList xaNil))) (xbAnd (xbOf (xBin oEq (xGet (xGet (xLoc 3) (xVal (.int 0))) (xVal (.int 1))) (xVal (.int 0)))) (xbVal true))) (xsCons (xsAsg (xCall F_blank_cell (xaCons (xGet (xGet (xLoc 3) (xVal (.int 0))) (xVal (.int 2))) xaNil)) (xtSub (xLoc 3) (xVal (.int 0)))) xsNil) xsNil) (xsCons (xsIf (xbAnd (xbOf (xBin oNe (xLoc 3) (xList xaNil))) (xbAnd (xbOf (xBin oEq (xGet (xGet (xLoc 3) (xUn oNeg (xVal (.int 1)))) (xVal (.int 1))) (xVal (.int 2)))) (xbVal true))) (xsCons (xsAsg (xCall F_blank_cell (xaCons (xGet (xGet (xLoc 3) (xUn oNeg (xVal (.int 1)))) (xVal (.int 2))) xaNil)) (xtSub (xLoc 3) (xUn oNeg (xVal (.int 1))))) xsNil) xsNil) (xsCons (xsRet (xLoc 3)) xsNil)))
noncomputable def xm_line_codes : XS := xsCons (xsAsg (xLen (xaCons (xLoc 0) xaNil)) (xtLoc 1)) (xsCons (xWhile (xbAnd (xbOf (xBin xGt (xLoc 1) (xVal (.int 0)))) (xbAnd (xbOf (xCall F_is_blank (xaCons (xGet (xLoc 0) (xBin oSub (xLoc 1) (xVal (.int 1)))) xaNil))) (xbVal true))) (xsCons (xsAugSub 1 (xVal (.int 1))) xsNil) 60) (xsCons (xsAsg (xList xaNil) (xtLoc 2)) (xsCons (xsFor false (xiSeq (xSlice (xLoc 0) (xVal .none) (xLoc 1))) (xtLoc 3) (xsCons (xsIf (xbOf (xBin oNe (xGet (xLoc 3) (xVal (.int 1))) (xVal (.int 0)))) (xsCons (xsExpr (xMethL fExtend (xLoc 2) (xaCons (xIf (xbOf (xBin oNe (xGet (xLoc 3) (xVal (.int 0))) (xTup xaNil))) (xGet (xLoc 3) (xVal (.int 0))) (xTup (xaCons (xVal (.int 32)) xaNil))) xaNil))) xsNil) xsNil) xsNil)) (xsCons (xsRet (xLoc 2)) xsNil))))
noncomputable def xm_L_init : XS := xsCons (xsAsg (xCall F_line_blanks (xaCons (xLoc 1) (xaCons (xLoc 2) xaNil))) (xtAttr 218 "cells" (xLoc 0))) (xsCons (xsAsg (xVal (.bool false)) (xtAttr 218 "is_wrapped" (xLoc 0))) (xsCons (xsAsg (xGet (xVal v_LINE_SIZES) (xVal (.int 0))) (xtAttr 218 "size" (xLoc 0))) xsNil))
noncomputable def xm_L_part : XS := xsCons (xsExpr (xCall F_line_part (xaCons (xAttr 218 "cells" (xLoc 0)) (xaCons (xLoc 1) xaNil)))) xsNil
noncomputable def xm_L_put : XS := xsCons (xsIf (xbOr (xbNot (xbOf (xChain xLe xLt (xVal (.int 0)) (xLoc 1) (xLen (xaCons (xAttr 218 "cells" (xLoc 0)) xaNil))))) (xbOr (xbOf (xBin oEq (xGet (xLoc 2) (xVal (.int 1))) (xVal (.int 0)))) (xbVal false))) (xsCons (xsRet (xVal .none)) xsNil) xsNil) (xsCons (xsIf (xbAnd (xbOf (xBin oEq (xGet (xLoc 2) (xVal (.int 1))) (xVal (.int 2)))) (xbAnd (xbOf (xBin oEq (xBin oAdd (xLoc 1) (xVal (.int 1))) (xLen (xaCons (xAttr 218 "cells" (xLoc 0)) xaNil)))) (xbVal true))) (xsCons (xsAsg (xCall F_blank_cell (xaCons (xGet (xLoc 2) (xVal (.int 2))) xaNil)) (xtLoc 2)) xsNil) xsNil) (xsCons (xsExpr (xMeth 218 "part" F_L_part (xLoc 0) (xaCons (xLoc 1) xaNil))) (xsCons (xsExpr (xMeth 218 "part" F_L_part (xLoc 0) (xaCons (xBin oAdd (xLoc 1) (xGet (xLoc 2) (xVal (.int 1)))) xaNil))) (xsCons (xsAsg (xLoc 2) (xtSub (xAttr 218 "cells" (xLoc 0)) (xLoc 1))) (xsCons (xsIf (xbOf (xBin oEq (xGet (xLoc 2) (xVal (.int 1))) (xVal (.int 2)))) (xsCons (xsAsg (xCall F_right_half (xaCons (xLoc 2) xaNil)) (xtSub (xAttr 218 "cells" (xLoc 0)) (xBin oAdd (xLoc 1) (xVal (.int 1))))) xsNil) xsNil) xsNil)))))
noncomputable def xm_L_put_cells : XS := xsCons (xsIf (xbOr (xbNot (xbOf (xChain xLe xLt (xVal (.int 0)) (xLoc 1) (xLen (xaCons (xAttr 218 "cells" (xLoc 0)) xaNil))))) (xbOr (xbOf (xBin oEq (xLoc 2) (xList xaNil))) (xbVal false))) (xsCons (xsRet (xVal .none)) xsNil) xsNil) (xsCons (xsAsg (xCall F_line_slice (xaCons (xLoc 2) (xaCons (xVal (.int 0)) (xaCons (xBin oSub (xBin oSub (xLen (xaCons (xAttr 218 "cells" (xLoc 0)) xaNil)) (xLoc 1)) (xVal (.int 1))) xaNil)))) (xtLoc 3)) (xsCons (xsExpr (xMeth 218 "part" F_L_part (xLoc 0) (xaCons (xLoc 1) xaNil))) (xsCons (xsExpr (xMeth 218 "part" F_L_part (xLoc 0) (xaCons (xBin oAdd (xLoc 1) (xLen (xaCons (xLoc 3) xaNil))) xaNil))) (xsCons (xsAsg (xLoc 3) (xtSlice (xAttr 218 "cells" (xLoc 0)) (xLoc 1) (xBin oAdd (xLoc 1) (xLen (xaCons (xLoc 3) xaNil))))) xsNil))))
noncomputable def xm_L_erase : XS := xsCons (xsAsg (xTup (xaCons (xMax (xaCons (xVal (.int 0)) (xaCons (xLoc 1) xaNil))) (xaCons (xMin (xaCons (xLoc 2) (xaCons (xBin oSub (xLen (xaCons (xAttr 218 "cells" (xLoc 0)) xaNil)) (xVal (.int 1))) xaNil))) xaNil))) (xtSwap 2 (xtCons (xtLoc 2) (xtCons (xtLoc 1) xtNil)))) (xsCons (xsIf (xbOf (xBin xGt (xLoc 1) (xLoc 2))) (xsCons (xsRet (xVal .none)) xsNil) xsNil) (xsCons (xsFor false (xiSeq (xTup (xaCons (xLoc 1) (xaCons (xBin oAdd (xLoc 2) (xVal (.int 1))) xaNil)))) (xtLoc 5) (xsCons (xsIf (xbAnd (xbOf (xBin xLt (xLoc 5) (xLen (xaCons (xAttr 218 "cells" (xLoc 0)) xaNil)))) (xbAnd (xbNot (xbAnd (xbOf (xLoc 4)) (xbAnd (xbOf (xGet (xGet (xAttr 218 "cells" (xLoc 0)) (xLoc 5)) (xVal (.int 3)))) (xbVal true)))) (xbVal true))) (xsCons (xsExpr (xMeth 218 "part" F_L_part (xLoc 0) (xaCons (xLoc 5) xaNil))) xsNil) xsNil) xsNil)) (xsCons (xsFor false (xiRange (xaCons (xLoc 1) (xaCons (xBin oAdd (xLoc 2) (xVal (.int 1))) xaNil))) (xtLoc 6) (xsCons (xsIf (xbNot (xbAnd (xbOf (xLoc 4)) (xbAnd (xbOf (xGet (xGet (xAttr 218 "cells" (xLoc 0)) (xLoc 6)) (xVal (.int 3)))) (xbVal true)))) (xsCons (xsAsg (xCall F_blank_cell (xaCons (xLoc 3) xaNil)) (xtSub (xAttr 218 "cells" (xLoc 0)) (xLoc 6))) xsNil) xsNil) xsNil)) (xsCons (xsIf (xbOf (xBin oEq (xLoc 2) (xBin oSub (xLen (xaCons (xAttr 218 "cells" (xLoc 0)) xaNil)) (xVal (.int 1))))) (xsCons (xsAsg (xVal (.bool false)) (xtAttr 218 "is_wrapped" (xLoc 0))) xsNil) xsNil) xsNil))))
noncomputable def xm_L_shift : XS := xsCons (xsAsg (xMin (xaCons (xLoc 3) (xaCons (xBin oSub (xLen (xaCons (xAttr 218 "cells" (xLoc 0)) xaNil)) (xVal (.int 1))) xaNil))) (xtLoc 3)) (xsCons (xsIf (xbNot (xbOf (xChain xLe xLe (xVal (.int 0)) (xLoc 1) (xLoc 3)))) (xsCons (xsRet (xVal .none)) xsNil) xsNil) (xsCons (xsAsg (xCall F_clamp (xaCons (xLoc 2) (xaCons (xVal (.int 0)) (xaCons (xBin oAdd (xBin oSub (xLoc 3) (xLoc 1)) (xVal (.int 1))) xaNil)))) (xtLoc 2)) (xsCons (xsAsg (xIf (xbOf (xLoc 5)) (xTup (xaCons (xBin oAdd (xLoc 1) (xLoc 2)) (xaCons (xBin oAdd (xLoc 3) (xVal (.int 1))) xaNil))) (xTup (xaCons (xLoc 1) (xaCons (xBin oSub (xBin oAdd (xLoc 3) (xVal (.int 1))) (xLoc 2)) xaNil)))) (xtTupN 2 (xtCons (xtLoc 6) (xtCons (xtLoc 7) xtNil)))) (xsCons (xsFor false (xiSeq (xTup (xaCons (xLoc 1) (xaCons (xBin oAdd (xLoc 3) (xVal (.int 1))) (xaCons (xLoc 6) (xaCons (xLoc 7) xaNil)))))) (xtLoc 8) (xsCons (xsExpr (xMeth 218 "part" F_L_part (xLoc 0) (xaCons (xLoc 8) xaNil))) xsNil)) (xsCons (xsAsg (xTup (xaCons (xSlice (xAttr 218 "cells" (xLoc 0)) (xLoc 6) (xLoc 7)) (xaCons (xCall F_line_blanks (xaCons (xLoc 2) (xaCons (xLoc 4) xaNil))) xaNil))) (xtSwap 2 (xtCons (xtLoc 10) (xtCons (xtLoc 9) xtNil)))) (xsCons (xsAsg (xIf (xbOf (xLoc 5)) (xBin oAdd (xLoc 9) (xLoc 10)) (xBin oAdd (xLoc 10) (xLoc 9))) (xtSlice (xAttr 218 "cells" (xLoc 0)) (xLoc 1) (xBin oAdd (xLoc 3) (xVal (.int 1))))) xsNil))))))
noncomputable def xm_L_insert : XS := xsCons (xsExpr (xMeth 218 "shift" F_L_shift (xLoc 0) (xaCons (xLoc 1) (xaCons (xLoc 2) (xaCons (xLoc 3) (xaCons (xLoc 4) (xaCons (xVal (.bool false)) xaNil))))))) xsNil
noncomputable def xm_L_delete : XS := xsCons (xsExpr (xMeth 218 "shift" F_L_shift (xLoc 0) (xaCons (xLoc 1) (xaCons (xLoc 2) (xaCons (xLoc 3) (xaCons (xLoc 4) (xaCons (xVal (.bool true)) xaNil))))))) xsNil
noncomputable def xm_L_fill : XS := xsCons (xsFor false (xiRange (xaCons (xMax (xaCons (xVal (.int 0)) (xaCons (xLoc 1) xaNil))) (xaCons (xBin oAdd (xMin (xaCons (xLoc 2) (xaCons (xBin oSub (xLen (xaCons (xAttr 218 "cells" (xLoc 0)) xaNil)) (xVal (.int 1))) xaNil))) (xVal (.int 1))) xaNil))) (xtLoc 4) (xsCons (xsExpr (xMeth 218 "put" F_L_put (xLoc 0) (xaCons (xLoc 4) (xaCons (xLoc 3) xaNil)))) xsNil)) xsNil
noncomputable def xm_L_copy : XS := xsCons (xsAsg (xCall F_Line (xaCons (xVal (.int 0)) (xaCons (xVal v_PLAIN) xaNil))) (xtLoc 1)) (xsCons (xsAsg (xCall fList (xaCons (xAttr 218 "cells" (xLoc 0)) xaNil)) (xtAttr 218 "cells" (xLoc 1))) (xsCons (xsAsg (xAttr 218 "is_wrapped" (xLoc 0)) (xtAttr 218 "is_wrapped" (xLoc 1))) (xsCons (xsAsg (xAttr 218 "size" (xLoc 0)) (xtAttr 218 "size" (xLoc 1))) (xsCons (xsRet (xLoc 1)) xsNil))))
noncomputable def xm_L_codes : XS := xsCons (xsRet (xCall F_line_codes (xaCons (xCall F_line_slice (xaCons (xAttr 218 "cells" (xLoc 0)) (xaCons (xLoc 1) (xaCons (xIf (xbOf (xBin oIs (xLoc 2) (xVal .none))) (xBin oSub (xLen (xaCons (xAttr 218 "cells" (xLoc 0)) xaNil)) (xVal (.int 1))) (xLoc 2)) xaNil)))) xaNil))) xsNil
noncomputable def xm_L_used : XS := xsCons (xsAsg (xLen (xaCons (xAttr 218 "cells" (xLoc 0)) xaNil)) (xtLoc 1)) (xsCons (xWhile (xbAnd (xbOf (xBin xGt (xLoc 1) (xVal (.int 0)))) (xbAnd (xbOf (xCall F_is_plain_blank (xaCons (xGet (xAttr 218 "cells" (xLoc 0)) (xBin oSub (xLoc 1) (xVal (.int 1)))) xaNil))) (xbVal true))) (xsCons (xsAugSub 1 (xVal (.int 1))) xsNil) 60) (xsCons (xsRet (xLoc 1)) xsNil))
noncomputable def xm_L_resized : XS := xsCons (xsAsg (xMeth 218 "copy" F_L_copy (xLoc 0) xaNil) (xtLoc 3)) (xsCons (xsIf (xbOf (xBin xLt (xLoc 1) (xLen (xaCons (xAttr 218 "cells" (xLoc 3)) xaNil)))) (xsCons (xsAsg (xCall F_line_slice (xaCons (xAttr 218 "cells" (xLoc 3)) (xaCons (xVal (.int 0)) (xaCons (xBin oSub (xLoc 1) (xVal (.int 1))) xaNil)))) (xtAttr 218 "cells" (xLoc 3))) xsNil) xsNil) (xsCons (xsAsg (xBin oAdd (xAttr 218 "cells" (xLoc 3)) (xCall F_line_blanks (xaCons (xBin oSub (xLoc 1) (xLen (xaCons (xAttr 218 "cells" (xLoc 3)) xaNil))) (xaCons (xLoc 2) xaNil)))) (xtAttr 218 "cells" (xLoc 3))) (xsCons (xsAsg (xAnd (xAttr 218 "is_wrapped" (xLoc 0)) (xBin oEq (xLoc 1) (xLen (xaCons (xAttr 218 "cells" (xLoc 0)) xaNil)))) (xtAttr 218 "is_wrapped" (xLoc 3))) (xsCons (xsRet (xLoc 3)) xsNil))))
noncomputable def xm_L_equals : XS := xsCons (xsRet (xBin oEq (xTup (xaCons (xAttr 218 "cells" (xLoc 0)) (xaCons (xAttr 218 "is_wrapped" (xLoc 0)) (xaCons (xAttr 218 "size" (xLoc 0)) xaNil)))) (xTup (xaCons (xAttr 218 "cells" (xLoc 1)) (xaCons (xAttr 218 "is_wrapped" (xLoc 1)) (xaCons (xAttr 218 "size" (xLoc 1)) xaNil)))))) xsNil
noncomputable def xm_law_deck (sa : Addr) (sl : List Int) : XS := xsCons (xsAsg (xTup (xaCons (xRaw (eComp (iSeq (eSliceRaw sa sl (eLoc 0) (eVal .none) (eVal (.int 40)))) (bVal true) (eCall fInt (aCons (eLoc 0) (aNil))) [])) (xaCons (xVal (.int 11)) xaNil))) (xtSwap 2 (xtCons (xtLoc 2) (xtCons (xtLoc 1) xtNil)))) (xsCons (xsFor false (xiSeq (xLoc 1)) (xtLoc 3) (xsCons (xsAsg (xBin oMod (xBin oAdd (xBin oMul (xLoc 2) (xVal (.int 31))) (xLoc 3)) (xVal (.int 1000003))) (xtLoc 2)) xsNil)) (xsCons (xsRet (xRaw (eDict (pCons "cells" (eRev (eLoc 1)) (pCons "mixed" (eLoc 2) (pNil)))))) xsNil))
noncomputable def xm_law_draw : XS := xsCons (xsIf (xbOf (xBin oNe (xGet (xLoc 0) (xVal (.str "cells"))) (xList xaNil))) (xsCons (xsRet (xBin oMod (xMethL fPop (xGet (xLoc 0) (xVal (.str "cells"))) xaNil) (xLoc 1))) xsNil) xsNil) (xsCons (xsAsg (xBin oMod (xBin oAdd (xBin oMul (xGet (xLoc 0) (xVal (.str "mixed"))) (xVal (.int 16807))) (xVal (.int 29))) (xVal (.int 2147483647))) (xtSub (xLoc 0) (xVal (.str "mixed")))) (xsCons (xsRet (xBin oMod (xBin oDiv (xGet (xLoc 0) (xVal (.str "mixed"))) (xVal (.int 64))) (xLoc 1))) xsNil))
noncomputable def xm_law_blank : XS := xsCons (xsRet (xTup (xaCons (xTup xaNil) (xaCons (xVal (.int 1)) (xaCons (xTup (xaCons (xVal (.int 0)) (xaCons (xUn oNeg (xVal (.int 1))) (xaCons (xGet (xLoc 0) (xVal (.int 2))) (xaCons (xUn oNeg (xVal (.int 1))) (xaCons (xVal (.int 0)) xaNil)))))) (xaCons (xVal (.bool false)) (xaCons (xVal (.int 0)) xaNil))))))) xsNil
noncomputable def xm_law_sign : XS := xsCons (xsAsg (xBin oAdd (xGet (xLoc 1) (xVal (.str "signs"))) (xVal (.int 1))) (xtSub (xLoc 1) (xVal (.str "signs")))) (xsCons (xsAsg (xTup (xaCons (xGet (xVal v_law_pens) (xCall F_law_draw (xaCons (xLoc 0) (xaCons (xVal (.int 2)) xaNil)))) (xaCons (xBin oAdd (xVal (.int 1)) (xCall F_law_draw (xaCons (xLoc 0) (xaCons (xVal (.int 2)) xaNil)))) xaNil))) (xtSwap 2 (xtCons (xtLoc 3) (xtCons (xtLoc 2) xtNil)))) (xsCons (xsAsg (xTup (xaCons (xTup (xaCons (xBin oAdd (xVal (.int 97)) (xCall F_law_draw (xaCons (xLoc 0) (xaCons (xVal (.int 3)) xaNil)))) xaNil)) (xaCons (xLoc 3) (xaCons (xLoc 2) (xaCons (xBin oEq (xCall F_law_draw (xaCons (xLoc 0) (xaCons (xVal (.int 4)) xaNil))) (xVal (.int 3))) (xaCons (xGet (xLoc 1) (xVal (.str "signs"))) xaNil)))))) (xtLoc 4)) (xsCons (xsRet (xBin oAdd (xList (xaCons (xLoc 4) xaNil)) (xBin oMul (xList (xaCons (xTup (xaCons (xTup xaNil) (xaCons (xVal (.int 0)) (xaCons (xLoc 2) (xaCons (xGet (xLoc 4) (xVal (.int 3))) (xaCons (xGet (xLoc 1) (xVal (.str "signs"))) xaNil)))))) xaNil)) (xBin oSub (xLoc 3) (xVal (.int 1)))))) xsNil)))
noncomputable def xm_law_mended : XS := xsCons (xsAsg (xList xaNil) (xtLoc 1)) (xsCons (xsFor true (xiEnum (xaCons (xLoc 0) xaNil)) (xtTupN 2 (xtCons (xtLoc 2) (xtCons (xtLoc 3) xtNil))) (xsCons (xsAsg (xTup (xaCons (xIf (xbOf (xBin xGt (xLoc 2) (xVal (.int 0)))) (xGet (xLoc 0) (xBin oSub (xLoc 2) (xVal (.int 1)))) (xVal .none)) (xaCons (xIf (xbOf (xBin xLt (xBin oAdd (xLoc 2) (xVal (.int 1))) (xLen (xaCons (xLoc 0) xaNil)))) (xGet (xLoc 0) (xBin oAdd (xLoc 2) (xVal (.int 1)))) (xVal .none)) xaNil))) (xtSwap 2 (xtCons (xtLoc 5) (xtCons (xtLoc 4) xtNil)))) (xsCons (xsAsg (xAnd (xBin oEq (xGet (xLoc 3) (xVal (.int 1))) (xVal (.int 2))) (xOr (xBin oIs (xLoc 5) (xVal .none)) (xOr (xBin oNe (xGet (xLoc 5) (xVal (.int 1))) (xVal (.int 0))) (xBin oNe (xGet (xLoc 5) (xVal (.int 4))) (xGet (xLoc 3) (xVal (.int 4))))))) (xtLoc 6)) (xsCons (xsAsg (xAnd (xBin oEq (xGet (xLoc 3) (xVal (.int 1))) (xVal (.int 0))) (xOr (xBin oIs (xLoc 4) (xVal .none)) (xOr (xBin oNe (xGet (xLoc 4) (xVal (.int 1))) (xVal (.int 2))) (xBin oNe (xGet (xLoc 4) (xVal (.int 4))) (xGet (xLoc 3) (xVal (.int 4))))))) (xtLoc 7)) (xsCons (xsExpr (xMethL fAppend (xLoc 1) (xaCons (xIf (xbOr (xbOf (xLoc 6)) (xbOr (xbOf (xLoc 7)) (xbVal false))) (xCall F_law_blank (xaCons (xGet (xLoc 3) (xVal (.int 2))) xaNil)) (xLoc 3)) xaNil))) xsNil))))) (xsCons (xsRet (xLoc 1)) xsNil))
noncomputable def xm_law_laid : XS := xsCons (xsAsg (xCall fList (xaCons (xLoc 0) xaNil)) (xtLoc 3)) (xsCons (xsFor true (xiEnum (xaCons (xLoc 2) xaNil)) (xtTupN 2 (xtCons (xtLoc 4) (xtCons (xtLoc 5) xtNil))) (xsCons (xsIf (xbOf (xBin xLt (xBin oAdd (xLoc 1) (xLoc 4)) (xLen (xaCons (xLoc 3) xaNil)))) (xsCons (xsAsg (xLoc 5) (xtSub (xLoc 3) (xBin oAdd (xLoc 1) (xLoc 4)))) xsNil) xsNil) xsNil)) (xsCons (xsRet (xCall F_law_mended (xaCons (xLoc 3) xaNil))) xsNil))
noncomputable def xm_law_erased : XS := xsCons (xsAsg (xList xaNil) (xtLoc 5)) (xsCons (xsFor true (xiEnum (xaCons (xLoc 0) xaNil)) (xtTupN 2 (xtCons (xtLoc 6) (xtCons (xtLoc 7) xtNil))) (xsCons (xsAsg (xOr (xUn oNot (xChain xLe xLe (xLoc 1) (xLoc 6) (xLoc 2))) (xAnd (xLoc 4) (xGet (xLoc 7) (xVal (.int 3))))) (xtLoc 8)) (xsCons (xsExpr (xMethL fAppend (xLoc 5) (xaCons (xIf (xbOf (xLoc 8)) (xLoc 7) (xCall F_law_blank (xaCons (xLoc 3) xaNil))) xaNil))) xsNil))) (xsCons (xsRet (xCall F_law_mended (xaCons (xLoc 5) xaNil))) xsNil))
noncomputable def xm_law_deed : XS := xsCons (xsAsg (xTup (xaCons (xCall F_law_draw (xaCons (xLoc 0) (xaCons (xVal (.int 7)) xaNil))) (xaCons (xCall F_law_draw (xaCons (xLoc 0) (xaCons (xVal (.int 7)) xaNil))) (xaCons (xBin oSub (xVal (.int 5)) (xCall F_law_draw (xaCons (xLoc 0) (xaCons (xVal (.int 3)) xaNil)))) xaNil)))) (xtSwap 3 (xtCons (xtLoc 6) (xtCons (xtLoc 5) (xtCons (xtLoc 4) xtNil))))) (xsCons (xsAsg (xTup (xaCons (xGet (xVal v_law_pens) (xCall F_law_draw (xaCons (xLoc 0) (xaCons (xVal (.int 2)) xaNil)))) (xaCons (xBin oAdd (xVal (.int 1)) (xCall F_law_draw (xaCons (xLoc 0) (xaCons (xVal (.int 4)) xaNil)))) xaNil))) (xtSwap 2 (xtCons (xtLoc 8) (xtCons (xtLoc 7) xtNil)))) (xsCons (xsAsg (xMin (xaCons (xLoc 5) (xaCons (xLoc 6) xaNil))) (xtLoc 9)) (xsCons (xsIf (xbOf (xBin xLt (xLoc 4) (xVal (.int 3)))) (xsCons (xsAsg (xCall F_law_sign (xaCons (xLoc 0) (xaCons (xLoc 3) xaNil))) (xtLoc 10)) (xsCons (xsExpr (xMeth 218 "put" F_L_put (xLoc 1) (xaCons (xLoc 5) (xaCons (xTake (xGet (xLoc 10) (xVal (.int 0))) (xVal (.int 4))) xaNil)))) (xsCons (xsRet (xCall F_law_laid (xaCons (xLoc 2) (xaCons (xLoc 5) (xaCons (xLoc 10) xaNil))))) xsNil))) xsNil) (xsCons (xsIf (xbOf (xBin oEq (xLoc 4) (xVal (.int 3)))) (xsCons (xsAsg (xBin oAdd (xCall F_law_sign (xaCons (xLoc 0) (xaCons (xLoc 3) xaNil))) (xCall F_law_sign (xaCons (xLoc 0) (xaCons (xLoc 3) xaNil)))) (xtLoc 10)) (xsCons (xsExpr (xMeth 218 "put_cells" F_L_put_cells (xLoc 1) (xaCons (xLoc 9) (xaCons (xRaw (eComp (iSeq (eLoc 10)) (bVal true) (eTake (eLoc 0) (eVal (.int 4))) [])) xaNil)))) (xsCons (xsRet (xCall F_law_laid (xaCons (xLoc 2) (xaCons (xLoc 9) (xaCons (xLoc 10) xaNil))))) xsNil))) xsNil) (xsCons (xsIf (xbOf (xBin oEq (xLoc 4) (xVal (.int 4)))) (xsCons (xsAsg (xTup (xaCons (xVal (.bool true)) (xaCons (xBin xGt (xLoc 8) (xVal (.int 2))) xaNil))) (xtTupN 2 (xtCons (xtAttr 218 "is_wrapped" (xLoc 1)) (xtCons (xtLoc 11) xtNil)))) (xsCons (xsExpr (xMeth 218 "erase" F_L_erase (xLoc 1) (xaCons (xLoc 9) (xaCons (xLoc 6) (xaCons (xLoc 7) (xaCons (xLoc 11) xaNil)))))) (xsCons (xsIf (xbOr (xbOf (xBin xLt (xLoc 6) (xVal (.int 5)))) (xbOr (xbNot (xbOf (xLoc 11))) (xbVal false))) (xsCons (xsAsg (xAnd (xGet (xLoc 3) (xVal (.str "is_right"))) (xBin oEq (xAttr 218 "is_wrapped" (xLoc 1)) (xBin xLt (xLoc 6) (xVal (.int 5))))) (xtSub (xLoc 3) (xVal (.str "is_right")))) xsNil) xsNil) (xsCons (xsRet (xCall F_law_erased (xaCons (xLoc 2) (xaCons (xLoc 9) (xaCons (xLoc 6) (xaCons (xLoc 7) (xaCons (xLoc 11) xaNil))))))) xsNil)))) xsNil) (xsCons (xsIf (xbOf (xBin oEq (xLoc 4) (xVal (.int 5)))) (xsCons (xsAsg (xBin oMul (xList (xaCons (xCall F_law_blank (xaCons (xLoc 7) xaNil)) xaNil)) (xLoc 8)) (xtLoc 12)) (xsCons (xsIf (xbOf (xBin oEq (xBin oMod (xLoc 8) (xVal (.int 2))) (xVal (.int 0)))) (xsCons (xsExpr (xMeth 218 "insert" F_L_insert (xLoc 1) (xaCons (xLoc 9) (xaCons (xLoc 8) (xaCons (xLoc 6) (xaCons (xLoc 7) xaNil)))))) (xsCons (xsRet (xCall F_law_mended (xaCons (xBin oAdd (xBin oAdd (xSlice (xLoc 2) (xVal .none) (xLoc 9)) (xSlice (xBin oAdd (xLoc 12) (xSlice (xLoc 2) (xLoc 9) (xBin oAdd (xLoc 6) (xVal (.int 1))))) (xVal .none) (xBin oSub (xBin oAdd (xLoc 6) (xVal (.int 1))) (xLoc 9)))) (xSlice (xLoc 2) (xBin oAdd (xLoc 6) (xVal (.int 1))) (xVal .none))) xaNil))) xsNil)) xsNil) (xsCons (xsExpr (xMeth 218 "delete" F_L_delete (xLoc 1) (xaCons (xLoc 9) (xaCons (xLoc 8) (xaCons (xLoc 6) (xaCons (xLoc 7) xaNil)))))) (xsCons (xsAsg (xBin oAdd (xSlice (xLoc 2) (xBin oAdd (xLoc 9) (xLoc 8)) (xBin oAdd (xLoc 6) (xVal (.int 1)))) (xLoc 12)) (xtLoc 13)) (xsCons (xsRet (xCall F_law_mended (xaCons (xBin oAdd (xBin oAdd (xSlice (xLoc 2) (xVal .none) (xLoc 9)) (xSlice (xLoc 13) (xVal .none) (xBin oSub (xBin oAdd (xLoc 6) (xVal (.int 1))) (xLoc 9)))) (xSlice (xLoc 2) (xBin oAdd (xLoc 6) (xVal (.int 1))) (xVal .none))) xaNil))) xsNil))))) xsNil) (xsCons (xsExpr (xMeth 218 "fill" F_L_fill (xLoc 1) (xaCons (xLoc 9) (xaCons (xLoc 6) (xaCons (xTup (xaCons (xTup (xaCons (xVal (.int 120)) xaNil)) (xaCons (xVal (.int 1)) (xaCons (xLoc 7) (xaCons (xVal (.bool false)) xaNil))))) xaNil))))) (xsCons (xsRet (xCall F_law_mended (xaCons (xBin oAdd (xBin oAdd (xSlice (xLoc 2) (xVal .none) (xLoc 9)) (xBin oMul (xList (xaCons (xTup (xaCons (xTup (xaCons (xVal (.int 120)) xaNil)) (xaCons (xVal (.int 1)) (xaCons (xLoc 7) (xaCons (xVal (.bool false)) (xaCons (xVal (.int 0)) xaNil)))))) xaNil)) (xBin oSub (xBin oAdd (xLoc 6) (xVal (.int 1))) (xLoc 9)))) (xSlice (xLoc 2) (xBin oAdd (xLoc 6) (xVal (.int 1))) (xVal .none))) xaNil))) xsNil))))))))
noncomputable def xm_law_is_so : XS := xsCons (xsAsg (xRaw (eComp (iSeq (eAttr 218 "cells" (eLoc 0))) (bVal true) (eCall fTuple (aCons (eLoc 0) (aNil))) [])) (xtLoc 2)) (xsCons (xsIf (xbOf (xBin oNe (xRaw (eComp (iSeq (eLoc 2)) (bVal true) (eTake (eLoc 0) (eVal (.int 3))) [])) (xRaw (eComp (iSeq (eLoc 1)) (bVal true) (eTake (eLoc 0) (eVal (.int 3))) [])))) (xsCons (xsRet (xVal (.bool false))) xsNil) xsNil) (xsCons (xsRet (xBin oEq (xRaw (eComp (iSeq (eLoc 2)) (bOf (eBin cGt (eGet (eLoc 0) (eVal (.int 1))) (eVal (.int 0)))) (eGet (eLoc 0) (eVal (.int 3))) [])) (xRaw (eComp (iSeq (eLoc 1)) (bOf (eBin cGt (eGet (eLoc 0) (eVal (.int 1))) (eVal (.int 0)))) (eGet (eLoc 0) (eVal (.int 3))) [])))) xsNil))
noncomputable def xm_law_codes : XS := xsCons (xsAsg (xList xaNil) (xtLoc 1)) (xsCons (xsFor false (xiSeq (xCall F_law_mended (xaCons (xLoc 0) xaNil))) (xtLoc 2) (xsCons (xsExpr (xMethL fExtend (xLoc 1) (xaCons (xIf (xbOf (xBin oNe (xGet (xLoc 2) (xVal (.int 0))) (xTup xaNil))) (xCall fList (xaCons (xGet (xLoc 2) (xVal (.int 0))) xaNil)) (xBin oMul (xList (xaCons (xVal (.int 32)) xaNil)) (xCall fInt (xaCons (xBin oEq (xGet (xLoc 2) (xVal (.int 1))) (xVal (.int 1))) xaNil)))) xaNil))) xsNil)) (xsCons (xWhile (xbAnd (xbOf (xBin oNe (xLoc 1) (xList xaNil))) (xbAnd (xbOf (xBin oEq (xGet (xLoc 1) (xUn oNeg (xVal (.int 1)))) (xVal (.int 32)))) (xbVal true))) (xsCons (xsExpr (xMethL fPop (xLoc 1) xaNil)) xsNil) 60) (xsCons (xsRet (xLoc 1)) xsNil)))
noncomputable def xm_law (sa : Addr) (sl : List Int) : XS := xsCons (xsAsg (xCall (F_law_deck sa sl) (xaCons (xLoc 0) xaNil)) (xtLoc 1)) (xsCons (xsAsg (xTup (xaCons (xCall F_Line (xaCons (xVal (.int 6)) (xaCons (xGet (xVal v_law_pens) (xVal (.int 1))) xaNil))) (xaCons (xRaw (eDict (pCons "signs" (eVal (.int 0)) (pCons "is_right" (eVal (.bool true)) (pNil))))) xaNil))) (xtSwap 2 (xtCons (xtLoc 3) (xtCons (xtLoc 2) xtNil)))) (xsCons (xsAsg (xBin oMul (xList (xaCons (xCall F_law_blank (xaCons (xGet (xVal v_law_pens) (xVal (.int 1))) xaNil)) xaNil)) (xVal (.int 6))) (xtLoc 4)) (xsCons (xsIf (xbNot (xbOf (xCall F_law_is_so (xaCons (xLoc 2) (xaCons (xLoc 4) xaNil))))) (xsCons (xsRet (xVal (.bool false))) xsNil) xsNil) (xsCons (xsAsg (xTup (xaCons (xCall F_Line (xaCons (xVal (.int 6)) (xaCons (xGet (xVal v_law_pens) (xVal (.int 0))) xaNil))) (xaCons (xBin oMul (xList (xaCons (xCall F_law_blank (xaCons (xGet (xVal v_law_pens) (xVal (.int 0))) xaNil)) xaNil)) (xVal (.int 6))) xaNil))) (xtTupN 2 (xtCons (xtLoc 2) (xtCons (xtLoc 4) xtNil)))) (xsCons (xsFor false (xiRange (xaCons (xBin oAdd (xVal (.int 1)) (xCall F_law_draw (xaCons (xLoc 1) (xaCons (xVal (.int 6)) xaNil)))) xaNil)) (xtLoc 5) (xsCons (xsAsg (xTup (xaCons (xMeth 218 "copy" F_L_copy (xLoc 2) xaNil) (xaCons (xLoc 4) xaNil))) (xtSwap 2 (xtCons (xtLoc 7) (xtCons (xtLoc 6) xtNil)))) (xsCons (xsAsg (xCall F_law_deed (xaCons (xLoc 1) (xaCons (xLoc 2) (xaCons (xLoc 4) (xaCons (xLoc 3) xaNil))))) (xtLoc 4)) (xsCons (xsIf (xbOr (xbNot (xbOf (xCall F_law_is_so (xaCons (xLoc 2) (xaCons (xLoc 4) xaNil))))) (xbOr (xbNot (xbOf (xCall F_law_is_so (xaCons (xLoc 6) (xaCons (xLoc 7) xaNil))))) (xbOr (xbNot (xbOf (xGet (xLoc 3) (xVal (.str "is_right"))))) (xbVal false)))) (xsCons (xsRet (xVal (.bool false))) xsNil) xsNil) xsNil)))) (xsCons (xsAsg (xCall F_law_draw (xaCons (xLoc 1) (xaCons (xVal (.int 6)) xaNil))) (xtLoc 8)) (xsCons (xsAsg (xBin oAdd (xLoc 8) (xCall F_law_draw (xaCons (xLoc 1) (xaCons (xBin oSub (xVal (.int 6)) (xLoc 8)) xaNil)))) (xtLoc 9)) (xsCons (xsAsg (xRaw (eComp (iRange (aCons (eVal (.int 6)) (aNil))) (bOf (eBin neA (eTake (eGet (eLoc 1) (eLoc 0)) (eVal (.int 4))) (eTake (eCall (F_law_blank) (aCons (eGet (eVal v_law_pens) (eVal (.int 0))) (aNil))) (eVal (.int 4))))) (eBin opAdd (eLoc 0) (eVal (.int 1))) [("cells", 4)])) (xtLoc 10)) (xsCons (xsIf (xbOr (xbOf (xBin oNe (xCall fList (xaCons (xMeth 218 "codes" F_L_codes (xLoc 2) xaNil) xaNil)) (xCall F_law_codes (xaCons (xLoc 4) xaNil)))) (xbOr (xbOf (xBin oNe (xCall fList (xaCons (xMeth 218 "codes" F_L_codes (xLoc 2) (xaCons (xLoc 8) (xaCons (xLoc 9) xaNil))) xaNil)) (xCall F_law_codes (xaCons (xSlice (xLoc 4) (xLoc 8) (xBin oAdd (xLoc 9) (xVal (.int 1)))) xaNil)))) (xbVal false))) (xsCons (xsRet (xVal (.bool false))) xsNil) xsNil) (xsCons (xsIf (xbOr (xbOf (xBin oNe (xMeth 218 "used" F_L_used (xLoc 2) xaNil) (xIf (xbOf (xBin oNe (xLoc 10) (xList xaNil))) (xGet (xLoc 10) (xUn oNeg (xVal (.int 1)))) (xVal (.int 0))))) (xbOr (xbNot (xbOf (xMeth 218 "equals" F_L_equals (xMeth 218 "copy" F_L_copy (xLoc 2) xaNil) (xaCons (xLoc 2) xaNil)))) (xbVal false))) (xsCons (xsRet (xVal (.bool false))) xsNil) xsNil) (xsCons (xsAsg (xTup (xaCons (xBin oAdd (xVal (.int 3)) (xCall F_law_draw (xaCons (xLoc 1) (xaCons (xVal (.int 6)) xaNil)))) (xaCons (xVal (.bool true)) xaNil))) (xtTupN 2 (xtCons (xtLoc 11) (xtCons (xtAttr 218 "is_wrapped" (xLoc 2)) xtNil)))) (xsCons (xsAsg (xMeth 218 "resized" F_L_resized (xLoc 2) (xaCons (xLoc 11) (xaCons (xGet (xVal v_law_pens) (xVal (.int 1))) xaNil))) (xtLoc 12)) (xsCons (xsAsg (xCall F_law_mended (xaCons (xSlice (xBin oAdd (xLoc 4) (xBin oMul (xList (xaCons (xCall F_law_blank (xaCons (xGet (xVal v_law_pens) (xVal (.int 1))) xaNil)) xaNil)) (xVal (.int 6)))) (xVal .none) (xLoc 11)) xaNil)) (xtLoc 13)) (xsCons (xsRet (xAnd (xCall F_law_is_so (xaCons (xLoc 12) (xaCons (xLoc 13) xaNil))) (xAnd (xBin oEq (xAttr 218 "is_wrapped" (xLoc 12)) (xBin oEq (xLoc 11) (xVal (.int 6)))) (xCall F_law_is_so (xaCons (xLoc 2) (xaCons (xLoc 4) xaNil)))))) xsNil))))))))))))))
end Mine
end
local macro_rules | `(tactic| walk_at "ct") => `(tactic| first | with_reducible assumption | exact Mine.t_lt (by first | with_reducible assumption | (first | lia | omega)) | exact Mine.t_eq (by first | with_reducible assumption | (first | lia | omega)) | (with_reducible refine Mine.t_not ?_; walk_at "cf") | rfl)
local macro_rules | `(tactic| walk_at "cf") => `(tactic| first | with_reducible assumption | exact Mine.t_nlt (by first | with_reducible assumption | (first | lia | omega)) | exact Mine.t_ne (by first | with_reducible assumption | (first | lia | omega)) | (with_reducible refine Mine.t_nnot ?_; walk_at "ct") | rfl)
local macro_rules | `(tactic| walk_at "sd") => `(tactic| first | with_reducible assumption | exact List.length_map _ | (rw [List.length_map]; with_reducible assumption) | rfl | exact Nat.le_of_ble_eq_true rfl)
local macro_rules | `(tactic| walk_at "x1") => `(tactic| first
  | (constructor; (· walk_at "sd"); (· walk_at "sd"); (· walk_at "sd"))
  | (constructor; (· walk_at "sd"); (· walk_at "sd"))
  | (constructor; (· walk_at "sd"))
  | refine Mine.IfB.tt (by walk_at "ct") ?_ | refine Mine.IfB.ff (by walk_at "cf") ?_)
local macro_rules | `(tactic| walk_at "xs") => `(tactic| repeat walk_at "x1")
-- part P5
section
open PySem PySem.W PySem.Calls PyProof.Rows
set_option maxRecDepth 100000
namespace Mine
noncomputable def Pen.av (p : Pen) : AV := .tup [.int p.a, .int p.b, .int p.c, .int p.d, .int p.e]
noncomputable def Cell.av (c : Cell) : AV := .tup [.tup (c.ch.map .int), .int c.w, c.pen.av, .bool c.g]
noncomputable def LCell.av (c : LCell) : AV := .tup [.tup (c.cell.ch.map .int), .int c.cell.w, c.cell.pen.av, .bool c.cell.g, .int c.id]
section
variable {P : AV → Store → Prop} {σ : Store}
theorem idx_at {α : Type} {f : α → AV} {L : List α} {a : Int} {c : α} (h0 : 0 ≤ a) (hl : L.length ≤ 1000) (hc : L[a.toNat]? = some c) : idx (L.map f) a = some (f c) := by
  unfold idx
  rw [if_pos (by simpa using hl), if_pos h0, List.getElem?_map, hc]; rfl
theorem idxN_at {l : List AV} {a : Int} (h0 : 0 ≤ a) (hl : l.length ≤ 1000) (ha : a < l.length) : idxN l a = some a.toNat := by
  unfold idxN
  rw [if_pos hl, if_pos ⟨h0, ha⟩]
theorem py_ch {c : List Int} : py σ 8 (.tup (c.map .int)) = some (.tuple (c.map .int)) := by
  have e : mapO (py σ 7) (c.map AV.int) = some (c.map PyData.int) := by
    induction c with
    | nil => rfl
    | cons x c ih => simp only [List.map_cons, mapO, ih, py_int]; rfl
  unfold py; rw [e]; rfl
theorem o_eqch {c : List Int} (h : P (.bool c.isEmpty) σ) : OpR eqA (.tup (c.map .int)) (.tup []) σ P := OpR.mk (eq_py py_ch (py_ch (c := [])) (by cases c <;> exact h))
theorem o_nech {c : List Int} (h : P (.bool (!c.isEmpty)) σ) : OpR neA (.tup (c.map .int)) (.tup []) σ P := OpR.mk (ne_py py_ch (py_ch (c := [])) (by cases c <;> exact h))
theorem c_erased {p : Pen} (h : P (ep p).av σ) : CallR F_erased_pen [p.av] σ P := CallR.mk (x_def (X := xm_erased_pen) rfl (by walk_at "xs"; exact h))
theorem c_blank {p : Pen} (h : P (blank p).av σ) : CallR F_blank_cell [p.av] σ P := CallR.mk (x_def (X := xm_blank_cell) rfl (by refine c_erased ?_; exact h))
theorem c_right {c : Cell} (h : P (Cell.av ⟨[], 0, c.pen, c.g⟩) σ) : CallR F_right_half [c.av] σ P := CallR.mk (x_def (X := xm_right_half) rfl (by walk_at "xs"; exact h))
theorem c_isblank {c : Cell} (h : P (.bool (c.ch.isEmpty && c.w == 1)) σ) : CallR F_is_blank [c.av] σ P := CallR.mk (x_def (X := xm_is_blank) rfl (by
  walk_at "xs"
  refine o_eqch ?_
  refine IfB.both (fun e => ?_) fun e => ?_
  · rw [e] at h; walk_at "xs"; exact h
  · show P (.bool c.ch.isEmpty) σ
    rw [e]; rw [e] at h; exact h))
theorem c_lblank {p : Pen} (h : P (lblank p).av σ) : CallR F_law_blank [p.av] σ P := CallR.mk (x_def (X := xm_law_blank) rfl (by walk_at "xs"; exact h))
theorem c_clamp {a b c : Int} (h : P (.int (max b (min a c))) σ) : CallR F_clamp [.int a, .int b, .int c] σ P := CallR.mk (x_def (X := xm_clamp) rfl h)
theorem line_part_ {L : List Cell} {a : Int} {i : Nat} (h : σ[i]? = some (.list (L.map Cell.av))) (hl : L.length ≤ 1000)
    (hP : ∀ σ2, σ2[i]? = some (.list ((partL L a).map Cell.av)) → Keep (· = i) σ σ2 → P .none σ2) : W (F_line_part [.ref i, .int a] σ) P := by
  have same : partL L a = L → P .none σ := fun e => hP σ (by rw [e]; exact h) Keep.refl
  refine x_def (X := xm_line_part) rfl ?_
  by_cases hr : 0 < a ∧ a < L.length
  · obtain ⟨k, rfl⟩ : ∃ k : Nat, a = (k : Int) + 1 := ⟨(a - 1).toNat, by omega⟩
    have hk : k + 1 < L.length := by lia
    have e1 : L[k + 1]? = some L[k + 1] := List.getElem?_eq_getElem hk
    have e0 : L[k]? = some L[k] := List.getElem?_eq_getElem (by omega)
    generalize L[k + 1] = c at e1
    generalize L[k] = b at e0
    have i1 : idx (L.map Cell.av) ((k : Int) + 1) = some c.av := idx_at (by lia) hl e1
    have i0 : idx (L.map Cell.av) ((k : Int) + 1 - 1) = some b.av := idx_at (by lia) hl (by rw [show ((k : Int) + 1 - 1).toNat = k by lia]; exact e0)
    have n0 : idxN (L.map Cell.av) ((k : Int) + 1 - 1) = some k := by rw [idxN_at (by lia) (by rw [List.length_map]; exact hl) (by rw [List.length_map]; lia)]; congr 1; lia
    have hp : partL L ((k : Int) + 1) = if c.w = 0 then (L.set k (blank b.pen)).set (k + 1) (blank c.pen) else L := by
      unfold partL
      rw [if_pos hr, show ((k : Int) + 1).toNat = k + 1 by lia, Nat.add_sub_cancel, e1, e0]
    by_cases hw : c.w = 0
    · rw [if_pos hw] at hp
      walk_at "xs"
      refine c_blank ?_
      walk_at "xs"
      intro σ2 h2 kp2
      rw [← List.map_set] at h2
      have hl2 : (L.set k (blank b.pen)).length ≤ 1000 := by rw [List.length_set]; exact hl
      have i2 : idx ((L.set k (blank b.pen)).map Cell.av) ((k : Int) + 1) = some c.av := idx_at (by lia) hl2 (by rw [List.getElem?_set_ne (by lia)]; exact e1)
      have n2 : idxN ((L.set k (blank b.pen)).map Cell.av) ((k : Int) + 1) = some (k + 1) := idxN_at (by lia) (by rw [List.length_map]; exact hl2) (by rw [List.length_map, List.length_set]; lia)
      walk_at "xs"
      refine c_blank ?_
      walk_at "xs"
      intro σ3 h3 kp3
      refine hP σ3 ?_ (kp2.tr kp3)
      rw [h3, hp, List.map_set (l := L.set k _)]
    · rw [if_neg hw] at hp
      walk_at "xs"
      exact same hp
  · have hp : partL L a = L := by unfold partL; rw [if_neg hr]
    have := same hp
    by_cases h0 : 0 < a
    · walk_at "xs"
      exact this
    · walk_at "xs"
      exact this
end
end Mine
end
-- part P6
section
open PySem PySem.W PySem.Calls PyProof.Rows
set_option maxRecDepth 100000
namespace Mine
noncomputable def nsL (c : Nat) (wr : Bool) : List (Str × AV) := [("cells", .ref c), ("is_wrapped", .bool wr), ("size", .str "single")]
theorem nsL_cells {c wr} : (nsL c wr).lookup ("cells" : Str) = some (.ref c) := rfl
theorem nsL_wr {c wr} : (nsL c wr).lookup ("is_wrapped" : Str) = some (.bool wr) := rfl
theorem nsL_size {c wr} : (nsL c wr).lookup ("size" : Str) = some (.str "single") := rfl
theorem nsL_part {c wr} : noKey ("part" : Str) (nsL c wr) = true := rfl
theorem nsL_put {c wr} : noKey ("put" : Str) (nsL c wr) = true := rfl
theorem nsL_put_cells {c wr} : noKey ("put_cells" : Str) (nsL c wr) = true := rfl
theorem nsL_erase {c wr} : noKey ("erase" : Str) (nsL c wr) = true := rfl
theorem nsL_shift {c wr} : noKey ("shift" : Str) (nsL c wr) = true := rfl
theorem nsL_insert {c wr} : noKey ("insert" : Str) (nsL c wr) = true := rfl
theorem nsL_delete {c wr} : noKey ("delete" : Str) (nsL c wr) = true := rfl
theorem nsL_fill {c wr} : noKey ("fill" : Str) (nsL c wr) = true := rfl
theorem nsL_copy {c wr} : noKey ("copy" : Str) (nsL c wr) = true := rfl
theorem nsL_codes {c wr} : noKey ("codes" : Str) (nsL c wr) = true := rfl
theorem nsL_used {c wr} : noKey ("used" : Str) (nsL c wr) = true := rfl
theorem nsL_resized {c wr} : noKey ("resized" : Str) (nsL c wr) = true := rfl
theorem nsL_equals {c wr} : noKey ("equals" : Str) (nsL c wr) = true := rfl
theorem ref_none : isRefA .none = false := rfl
theorem nsL_len {c wr} : (nsL c wr).length = 3 := rfl
theorem nsL_put_wr {c wr b} : putN ("is_wrapped" : Str) (.bool b) (nsL c wr) = nsL c b := rfl
theorem nsL_put_cs {c wr k} : putN ("cells" : Str) (.ref k) (nsL c wr) = nsL k wr := rfl
theorem nsL_put_sz {c wr} : putN ("size" : Str) (.str "single") (nsL c wr) = nsL c wr := rfl
structure LineAt (σ : Store) (o d c : Nat) (L : List Cell) (wr : Bool) : Prop where
  o : σ[o]? = some (.inst 218 d)
  d : σ[d]? = some (.ns (nsL c wr))
  c : σ[c]? = some (.list (L.map Cell.av))
theorem LineAt.oc {σ o d c L wr} (A : LineAt σ o d c L wr) : o ≠ c := by rintro rfl; have := A.o.symm.trans A.c; cases this
theorem LineAt.dc {σ o d c L wr} (A : LineAt σ o d c L wr) : d ≠ c := by rintro rfl; have := A.d.symm.trans A.c; cases this
theorem LineAt.od {σ o d c L wr} (A : LineAt σ o d c L wr) : o ≠ d := by rintro rfl; have := A.o.symm.trans A.d; cases this
theorem LineAt.keep {σ σ' o d c L wr} {m : Nat → Prop} (A : LineAt σ o d c L wr) (k : Keep m σ σ') (h1 : ¬ m o) (h2 : ¬ m d) (h3 : ¬ m c) : LineAt σ' o d c L wr := ⟨k.get h1 A.o, k.get h2 A.d, k.get h3 A.c⟩
theorem LineAt.keep0 {σ σ' o d c L wr} (A : LineAt σ o d c L wr) (k : Keep0 σ σ') : LineAt σ' o d c L wr := A.keep k (fun h => h) (fun h => h) fun h => h
/-- the cells turned -/
theorem LineAt.cells {σ σ' o d c L L' wr} (A : LineAt σ o d c L wr) (k : Keep (· = c) σ σ') (h : σ'[c]? = some (.list (L'.map Cell.av))) : LineAt σ' o d c L' wr := ⟨k.get A.oc A.o, k.get A.dc A.d, h⟩
section
variable {P : AV → Store → Prop} {σ : Store} {o d c : Nat} {L : List Cell} {wr : Bool}
theorem L_part_ {a : Int} (A : LineAt σ o d c L wr) (hl : L.length ≤ 1000) (hP : ∀ σ2, LineAt σ2 o d c (partL L a) wr → Keep (· = c) σ σ2 → P .none σ2) : W (F_L_part [.ref o, .int a] σ) P := by
  obtain ⟨ho, hd, hc⟩ := id A
  refine x_def (X := xm_L_part) rfl ?_
  walk_at "xs"
  exact CallR.mk (line_part_ hc hl fun σ2 h2 k2 => hP σ2 (A.cells k2 h2) k2)
/-- Line.put -/
noncomputable def putL (L : List Cell) (col : Int) (s : Cell) : List Cell :=
  if ¬ (0 ≤ col ∧ col < L.length) ∨ s.w = 0 then L else
    let s' := if s.w = 2 ∧ col + 1 = L.length then blank s.pen else s
    let L2 := (partL (partL L col) (col + s'.w)).set col.toNat s'
    if s'.w = 2 then L2.set (col.toNat + 1) ⟨[], 0, s'.pen, s'.g⟩ else L2
theorem L_put_ {col : Int} {s : Cell} (A : LineAt σ o d c L wr) (hl : L.length ≤ 1000) (hw : s.w = 0 ∨ s.w = 1 ∨ s.w = 2) (hP : ∀ σ2, LineAt σ2 o d c (putL L col s) wr → Keep (· = c) σ σ2 → P .none σ2) : W (F_L_put [.ref o, .int col, s.av] σ) P := by
  obtain ⟨ho, hd, hc⟩ := id A
  refine x_def (X := xm_L_put) rfl ?_
  have same : putL L col s = L → P .none σ := fun e => hP σ (by rw [e]; exact A) Keep.refl
  by_cases hr : ¬ (0 ≤ col ∧ col < L.length) ∨ s.w = 0
  · have := same (by unfold putL; rw [if_pos hr])
    by_cases h0 : 0 ≤ col
    · by_cases h1 : col < L.length
      · have : s.w = 0 := by lia
        walk_at "xs"
        assumption
      · walk_at "xs"
        exact this
    · walk_at "xs"
      exact this
  · have h0 : 0 ≤ col := by lia
    have h1 : col < L.length := by omega
    have h2 : ¬ s.w = 0 := by lia
    have key : putL L col s = (let s' := if s.w = 2 ∧ col + 1 = L.length then blank s.pen else s
      let L2 := (partL (partL L col) (col + s'.w)).set col.toNat s'
      if s'.w = 2 then L2.set (col.toNat + 1) ⟨[], 0, s'.pen, s'.g⟩ else L2) := by unfold putL; rw [if_neg hr]
    have tail : ∀ s' : Cell, (if s.w = 2 ∧ col + 1 = L.length then blank s.pen else s) = s' → (s'.w = 1 ∨ (s'.w = 2 ∧ col + 1 < L.length)) →
        (xsCons (xsExpr (xMeth 218 "part" F_L_part (xLoc 0) (xaCons (xLoc 1) xaNil))) (xsCons (xsExpr (xMeth 218 "part" F_L_part (xLoc 0) (xaCons (xBin oAdd (xLoc 1) (xGet (xLoc 2) (xVal (.int 1)))) xaNil))) (xsCons (xsAsg (xLoc 2) (xtSub (xAttr 218 "cells" (xLoc 0)) (xLoc 1))) (xsCons (xsIf (xbOf (xBin oEq (xGet (xLoc 2) (xVal (.int 1))) (xVal (.int 2)))) (xsCons (xsAsg (xCall F_right_half (xaCons (xLoc 2) xaNil)) (xtSub (xAttr 218 "cells" (xLoc 0)) (xBin oAdd (xLoc 1) (xVal (.int 1))))) xsNil) xsNil) xsNil)))).wp [some (.ref o), some (.int col), some s'.av] σ fun fl _ σ' => P (flV fl) σ' := by
      intro s' hs hs'
      rw [hs] at key
      walk_at "xs"
      refine CallR.mk (L_part_ A hl fun σ1 A1 k1 => ?_)
      obtain ⟨ho1, hd1, hc1⟩ := id A1
      walk_at "xs"
      refine CallR.mk (L_part_ A1 (by rw [partL_length]; exact hl) fun σ2 A2 k2 => ?_)
      obtain ⟨ho2, hd2, hc2⟩ := id A2
      have n1 : idxN ((partL (partL L col) (col + s'.w)).map Cell.av) col = some col.toNat := idxN_at h0 (by rw [List.length_map, partL_length, partL_length]; exact hl) (by rw [List.length_map, partL_length, partL_length]; exact h1)
      walk_at "xs"
      intro σ3 h3 k3
      rw [← List.map_set] at h3
      have A3 := A2.cells k3 h3
      obtain ⟨ho3, hd3, hc3⟩ := id A3
      rcases hs' with w | ⟨w, q⟩
      · walk_at "xs"
        refine hP σ3 ?_ ((k1.tr k2).tr k3)
        rw [key]
        simp only []
        rw [if_neg (by lia)]
        exact A3
      · have n2 : idxN (((partL (partL L col) (col + s'.w)).set col.toNat s').map Cell.av) (col + 1) = some (col.toNat + 1) := (idxN_at (by lia) (by rw [List.length_map, List.length_set, partL_length, partL_length]; exact hl) (by rw [List.length_map, List.length_set, partL_length, partL_length]; exact q)).trans (by congr 1; lia)
        walk_at "xs"
        refine c_right ?_
        walk_at "xs"
        intro σ4 h4 k4
        rw [← List.map_set] at h4
        refine hP σ4 ?_ (((k1.tr k2).tr k3).tr k4)
        rw [key]
        simp only []
        rw [if_pos w]
        exact A3.cells k4 h4
    by_cases q : s.w = 2
    · by_cases q' : col + 1 = L.length
      · walk_at "xs"
        refine c_blank ?_
        exact tail (blank s.pen) (by rw [if_pos ⟨q, q'⟩]) (.inl rfl)
      · have := tail s (by rw [if_neg fun h => q' h.2]) (.inr ⟨q, by lia⟩)
        repeat (first | exact this | walk_at "x1")
    · have := tail s (by rw [if_neg fun h => q h.1]) (.inl (by lia))
      repeat (first | exact this | walk_at "x1")
end
end Mine
end
-- part P7
section
open PySem PySem.W PySem.Calls PyProof.Rows
set_option maxRecDepth 100000
namespace Mine
theorem partOf_i {i : Int} : partOf (.int i) = some (some i) := rfl
theorem partOf_n : partOf .none = some none := rfl
noncomputable def Pen.py (p : Pen) : PyData := .tuple [.int p.a, .int p.b, .int p.c, .int p.d, .int p.e]
noncomputable def Cell.py (c : Cell) : PyData := .tuple [.tuple (c.ch.map .int), .int c.w, c.pen.py, .bool c.g]
theorem mapO_map {α β γ : Type} {f : β → Option γ} {g : α → β} {h : α → γ} : ∀ {l : List α}, (∀ x ∈ l, f (g x) = some (h x)) → mapO f (l.map g) = some (l.map h)
  | [], _ => rfl
  | x :: l, hx => by
    have ih := mapO_map (f := f) (g := g) (h := h) (l := l) fun y hy => hx y (by simp [hy])
    simp only [List.map_cons, mapO, hx x (by simp), ih]
    rfl
section
variable {σ : Store}
theorem py_tup {n : Nat} {l : List AV} {r : List PyData} (h : mapO (py σ n) l = some r) : py σ (n + 1) (.tup l) = some (.tuple r) := by
  unfold py; rw [h]; rfl
theorem py_ref {n i : Nat} {l : List AV} {r : List PyData} (e : σ[i]? = some (.list l)) (h : mapO (py σ n) l = some r) : py σ (n + 1) (.ref i) = some (.list r) := by
  unfold py; rw [e]; simp only [h]; rfl
theorem py_ints {n : Nat} {l : List Int} : mapO (py σ n) (l.map .int) = some (l.map .int) := mapO_map fun x _ => py_int
theorem py_pen {n : Nat} {p : Pen} : py σ (n + 1) p.av = some p.py := py_tup (by simp [mapO, py_int])
theorem py_cell {n : Nat} {c : Cell} : py σ (n + 2) c.av = some c.py := py_tup (by simp [mapO, py_int, py_bool, py_pen, py_tup py_ints])
theorem py_cells {n i : Nat} {L : List Cell} (h : σ[i]? = some (.list (L.map Cell.av))) : py σ (n + 3) (.ref i) = some (.list (L.map Cell.py)) := py_ref h (mapO_map fun _ _ => py_cell)
theorem eqvAll_nil {l : List PyData} : PyData.eqvAll l [] = l.isEmpty := by cases l <;> rfl
theorem ne_cells_nil {P : AV → Store → Prop} {a b : Nat} {L : List Cell} (h : σ[a]? = some (.list (L.map Cell.av))) (hb : σ[b]? = some (.list [])) (hP : P (.bool (!L.isEmpty)) σ) : W (neA (.ref a) (.ref b) σ) P := by
  refine ne_py (py_cells h) (py_ref hb rfl) ?_
  have : PyData.eqv (.list (L.map Cell.py)) (.list []) = L.isEmpty := by
    show PyData.eqvAll _ [] = _
    rw [eqvAll_nil]; cases L <;> rfl
  rw [this]; exact hP
theorem ne_ints_nil {P : AV → Store → Prop} {a b : Nat} {L : List Int} (h : σ[a]? = some (.list (L.map .int))) (hb : σ[b]? = some (.list [])) (hP : P (.bool (!L.isEmpty)) σ) : W (neA (.ref a) (.ref b) σ) P := by
  refine ne_py (py_ref h py_ints) (py_ref hb rfl) ?_
  have : PyData.eqv (.list (L.map .int)) (.list []) = L.isEmpty := by
    show PyData.eqvAll _ [] = _
    rw [eqvAll_nil]; cases L <;> rfl
  rw [this]; exact hP
theorem idx_last {α : Type} {f : α → AV} {L : List α} {c : α} (hl : L.length ≤ 1000) (hc : L[L.length - 1]? = some c) : idx (L.map f) (-1) = some (f c) := by
  have hlt := (List.getElem?_eq_some_iff.mp hc).1
  unfold idx
  rw [if_pos (by simpa using hl), if_neg (by lia), if_pos (by simp; lia), List.getElem?_map, show ((-1 : Int) + ((L.map f).length : Int)).toNat = L.length - 1 by simp; lia, hc]; rfl
theorem idxN_last {l : List AV} (hl : l.length ≤ 1000) (h0 : 0 < l.length) : idxN l (-1) = some (l.length - 1) := by
  unfold idxN
  rw [if_pos hl, if_neg (by omega), if_pos (by lia)]
  congr 1; lia
noncomputable def sliceG {α : Type} (l : List α) (lo hi : Option Int) : List α :=
  (l.drop (lo.elim 0 (clipAt l.length))).take (hi.elim l.length (clipAt l.length) - lo.elim 0 (clipAt l.length))
theorem sliceL_map {α : Type} {f : α → AV} {L : List α} {lo hi : Option Int} : sliceL (L.map f) lo hi = (sliceG L lo hi).map f := by
  unfold sliceL sliceG
  rw [List.length_map, List.map_take, List.map_drop]
theorem sliceG_length {α : Type} {l : List α} {lo hi : Option Int} : (sliceG l lo hi).length ≤ l.length := by
  unfold sliceG; simp; lia
noncomputable def fixFirst (L : List Cell) : List Cell := match L[0]? with
  | some c => if c.w = 0 then L.set 0 (blank c.pen) else L
  | none => L
noncomputable def fixLast (L : List Cell) : List Cell := match L[L.length - 1]? with
  | some c => if c.w = 2 then L.set (L.length - 1) (blank c.pen) else L
  | none => L
theorem fixFirst_length {L : List Cell} : (fixFirst L).length = L.length := by
  unfold fixFirst; split
  · split <;> simp
  · rfl
noncomputable def lineSliceL (L : List Cell) (l r : Int) : List Cell := fixLast (fixFirst (sliceG L (some (max 0 l)) (some (max 0 (r + 1)))))
theorem o_nec {P : AV → Store → Prop} {a b : Nat} {L : List Cell} (h : σ[a]? = some (.list (L.map Cell.av))) (hb : σ[b]? = some (.list [])) (hP : P (.bool (!L.isEmpty)) σ) : OpR neA (.ref a) (.ref b) σ P := OpR.mk (ne_cells_nil h hb hP)
theorem isEmpty_of {α : Type} {L : List α} {k : Nat} {c : α} (h : L[k]? = some c) : L.isEmpty = false := by cases L with | nil => cases h | cons _ _ => rfl
theorem line_slice_ {P : AV → Store → Prop} {L : List Cell} {i : Nat} {l r : Int} (h : σ[i]? = some (.list (L.map Cell.av))) (hl : L.length ≤ 1000)
    (hP : ∀ k σ2, σ2[k]? = some (.list ((lineSliceL L l r).map Cell.av)) → Keep0 σ σ2 → σ.length ≤ k → P (.ref k) σ2) : W (F_line_slice [.ref i, .int l, .int r] σ) P := by
  refine x_def (X := xm_line_slice) rfl ?_
  have hs := sliceG_length (l := L) (lo := some (max 0 l)) (hi := some (max 0 (r + 1)))
  have done : lineSliceL L l r = fixLast (fixFirst (sliceG L (some (max 0 l)) (some (max 0 (r + 1))))) := rfl
  walk_at "xs"
  intro k1 σ1 h1 k1p n1
  rw [sliceL_map] at h1
  generalize sliceG L (some (max 0 l)) (some (max 0 (r + 1))) = G at h1 hs done
  have hG : G.length ≤ 1000 := by lia
  refine c_list h1 (by rw [List.length_map]; exact hG) fun k σ2 h2 k2p nk => ?_
  have kp : Keep0 σ σ2 := k1p.tr k2p
  have nk0 : σ.length ≤ k := by have := k1p.1; lia
  clear h1 k1p n1 nk k2p
  apply join (Q := fun σ' => σ'[k]? = some (.list ((fixFirst G).map Cell.av)) ∧ Keep0 σ σ')
  · intro tail
    walk_at "xs"
    intro k2 σ3 h3 k3 n3
    have h2' := k3.get0 h2
    have kk := kp.tr k3
    refine o_nec h2' h3 ?_
    cases hc : G[0]? with
    | none =>
      have ne : G.isEmpty = true := by cases G with | nil => rfl | cons _ _ => cases hc
      have e1 : fixFirst G = G := by unfold fixFirst; rw [hc]
      rw [e1] at tail
      walk_at "xs"
      exact tail σ3 ⟨h2', kk⟩
    | some c =>
      have ne := isEmpty_of hc
      have i0 : idx (G.map Cell.av) 0 = some c.av := idx_at (by lia) hG hc
      have n0 : idxN (G.map Cell.av) 0 = some 0 := idxN_at (by lia) (by rw [List.length_map]; exact hG) (by have := (List.getElem?_eq_some_iff.mp hc).1; rw [List.length_map]; lia)
      by_cases w : c.w = 0
      · have e1 : fixFirst G = G.set 0 (blank c.pen) := by unfold fixFirst; rw [hc]; exact if_pos w
        walk_at "xs"
        refine c_blank ?_
        walk_at "xs"
        intro σ4 h4 k4
        exact tail σ4 ⟨by rw [h4, e1, ← List.map_set], kk.new k4 fun j q => by lia⟩
      · have e1 : fixFirst G = G := by unfold fixFirst; rw [hc]; exact if_neg w
        rw [e1] at tail
        have := tail σ3 ⟨h2', kk⟩
        walk_at "xs"
        exact this
  intro σ2 ⟨h2, kp2⟩
  have hs2 : (fixFirst G).length ≤ 1000 := by rw [fixFirst_length]; exact hG
  generalize fixFirst G = H at h2 hs2 done
  clear kp
  apply join (Q := fun σ' => σ'[k]? = some (.list ((fixLast H).map Cell.av)) ∧ Keep0 σ σ')
  · intro tail
    walk_at "xs"
    intro k2 σ3 h3 k3 n3
    have h2' := k3.get0 h2
    have kk := kp2.tr k3
    refine o_nec h2' h3 ?_
    cases hc : H[H.length - 1]? with
    | none =>
      have ne : H.isEmpty = true := by cases H with | nil => rfl | cons _ _ => simp at hc
      have e1 : fixLast H = H := by unfold fixLast; rw [hc]
      rw [e1] at tail
      walk_at "xs"
      exact tail σ3 ⟨h2', kk⟩
    | some c =>
      have ne := isEmpty_of hc
      have hlt := (List.getElem?_eq_some_iff.mp hc).1
      have i0 : idx (H.map Cell.av) (-1) = some c.av := idx_last hs2 hc
      have n0 : idxN (H.map Cell.av) (-1) = some (H.length - 1) := by rw [idxN_last (by rw [List.length_map]; exact hs2) (by rw [List.length_map]; lia), List.length_map]
      by_cases w : c.w = 2
      · have e1 : fixLast H = H.set (H.length - 1) (blank c.pen) := by unfold fixLast; rw [hc]; exact if_pos w
        walk_at "xs"
        refine c_blank ?_
        walk_at "xs"
        intro σ4 h4 k4
        exact tail σ4 ⟨by rw [h4, e1, ← List.map_set], kk.new k4 fun j q => by lia⟩
      · have e1 : fixLast H = H := by unfold fixLast; rw [hc]; exact if_neg w
        rw [e1] at tail
        have := tail σ3 ⟨h2', kk⟩
        walk_at "xs"
        exact this
  intro σ3 ⟨h3, kp3⟩
  rw [← done] at h3
  exact hP k σ3 h3 kp3 nk0
end
end Mine
end
-- part P8
section
open PySem PySem.W PySem.Calls PyProof.Rows
set_option maxRecDepth 100000
namespace Mine
theorem x_loop_nil {src : Src} {items : List AV} {t : AV → XE Lc} {b : XS} {lc : Lc} {σ : Store} {P : Fl → Lc → Store → Prop} (h : src.items σ = some items) (k : P .next lc σ) : WS (loopF src items (fun d => (t d).m) b.m [] lc σ) P := by
  unfold loopF; rw [if_pos h]; exact WS.ret k
theorem x_loop_cons {src : Src} {items : List AV} {t : AV → XE Lc} {b : XS} {d : AV} {ds : List AV} {lc : Lc} {σ : Store} {P : Fl → Lc → Store → Prop} (h : src.items σ = some items)
    (k : (t d).wp lc σ fun lc1 σ1 => b.wp lc1 σ1 fun fl lc2 σ2 => flW fl (WS (loopF src items (fun d => (t d).m) b.m ds lc2 σ2) P) fun v => P (.ret v) lc2 σ2) :
    WS (loopF src items (fun d => (t d).m) b.m (d :: ds) lc σ) P := by
  have e0 : loopF src items (fun d => (t d).m) b.m (d :: ds) lc σ = ((t d).m lc σ).bind fun p => (b.m p.1 p.2).bind fun q => match q.1 with
      | .next => loopF src items (fun d => (t d).m) b.m ds q.2.1 q.2.2
      | .ret v => some (.ret v, q.2) := by rw [loopF]; exact if_pos h
  rw [e0]
  exact WS.bind ((t d).ok k) fun lc1 σ1 h => WS.seq (b.ok h) fun fl _ _ h => by cases fl; exact h; exact WS.ret h
theorem x_forL {en src t b lc σ S} {items : List AV} (hen : src.isEnum = en) (h : src.items σ = some items) (k : WS (loopF src items (fun d => (t d).m) b.m items lc σ) S) : ForR en src t b lc σ S := by
  unfold ForR; exact ⟨hen, items, h, k⟩
theorem eq_cells_nil {σ : Store} {P : AV → Store → Prop} {a b : Nat} {L : List Cell} (h : σ[a]? = some (.list (L.map Cell.av))) (hb : σ[b]? = some (.list [])) (hP : P (.bool L.isEmpty) σ) : W (eqA (.ref a) (.ref b) σ) P := by
  refine eq_py (py_cells h) (py_ref hb rfl) ?_
  have : PyData.eqv (.list (L.map Cell.py)) (.list []) = L.isEmpty := by
    show PyData.eqvAll _ [] = _
    rw [eqvAll_nil]; cases L <;> rfl
  rw [this]; exact hP
theorem o_eqc {σ : Store} {P : AV → Store → Prop} {a b : Nat} {L : List Cell} (h : σ[a]? = some (.list (L.map Cell.av))) (hb : σ[b]? = some (.list [])) (hP : P (.bool L.isEmpty) σ) : OpR eqA (.ref a) (.ref b) σ P := OpR.mk (eq_cells_nil h hb hP)
theorem flat_one {α : Type} {x : α} : ∀ {n : Nat}, (List.replicate n [x]).flatten = List.replicate n x
  | 0 => rfl
  | n + 1 => by rw [List.replicate_succ, List.flatten_cons, flat_one, List.replicate_succ]; rfl
theorem setSlice_at {α : Type} {f : α → AV} {l k : List α} {lo hi : Int} (h0 : 0 ≤ lo) (h1 : lo ≤ hi) (h2 : hi ≤ l.length) : setSliceL (l.map f) (k.map f) (some lo) (some hi) = (l.take lo.toNat ++ k ++ l.drop hi.toNat).map f := by
  unfold setSliceL
  simp only [Option.elim]
  rw [clipAt_in h0 (by simpa using Int.le_trans h1 h2), clipAt_in (by lia) (by simpa using h2), show max lo.toNat hi.toNat = hi.toNat by lia]
  simp [List.map_take, List.map_drop]
theorem sliceG_at {α : Type} {l : List α} {lo hi : Int} (h0 : 0 ≤ lo) (h1 : lo ≤ hi) (h2 : hi ≤ l.length) : sliceG l (some lo) (some hi) = (l.take hi.toNat).drop lo.toNat := by
  unfold sliceG
  simp only [Option.elim]
  rw [clipAt_in h0 (by lia), clipAt_in (by lia) h2, List.drop_take]
section
variable {P : AV → Store → Prop} {σ : Store} {o d c : Nat} {L : List Cell} {wr : Bool}
theorem line_blanks_ {n : Int} {p : Pen} (hn : n ≤ 1000) (hP : ∀ k σ2, σ2[k]? = some (.list ((List.replicate n.toNat (blank p)).map Cell.av)) → Keep0 σ σ2 → σ.length ≤ k → P (.ref k) σ2) : W (F_line_blanks [.int n, p.av] σ) P := by
  refine x_def (X := xm_line_blanks) rfl ?_
  refine c_blank fun k1 σ1 h1 kp1 n1 => ?_
  have hm : ([(blank p).av] : List AV).length ≤ 10 ∧ -1000 ≤ max 0 n ∧ max 0 n ≤ 1000 := ⟨Nat.le_of_ble_eq_true rfl, by lia, by lia⟩
  walk_at "xs"
  intro k2 σ2 h2 kp2 n2
  refine hP k2 σ2 ?_ (kp1.tr kp2) (by have := kp1.1; lia)
  rw [h2, flat_one, List.map_replicate, show (max 0 n).toNat = n.toNat by lia]
theorem Line_ {n : Int} {p : Pen} (hn : n ≤ 1000) (hP : ∀ o d c σ2, LineAt σ2 o d c (List.replicate n.toNat (blank p)) false → Keep0 σ σ2 → σ.length ≤ o → σ.length ≤ d → σ.length ≤ c → P (.ref o) σ2) : W (F_Line [.int n, p.av] σ) P := by
  unfold F_Line
  refine d_make ?_
  generalize hτ : σ ++ [AO.ns [], AO.inst 218 σ.length] = τ
  have ho : τ[σ.length + 1]? = some (.inst 218 σ.length) := by rw [← hτ, List.getElem?_append_right (by lia)]; simp
  have hd : τ[σ.length]? = some (.ns []) := by rw [← hτ, List.getElem?_append_right (by lia)]; simp
  have kp : Keep0 σ τ := ⟨by rw [← hτ]; simp, fun j x _ e => by rw [← hτ, List.getElem?_append_left (lt_of_get e)]; exact e⟩
  clear hτ
  refine x_def (X := xm_L_init) rfl ?_
  refine CallR.mk (line_blanks_ hn fun k σ1 h1 kp1 n1 => ?_)
  have ho1 := kp1.get0 ho
  have hd1 := kp1.get0 hd
  walk_at "xs"
  intro σ2 h2 kp2
  have ho2 := kp2.get (by lia) ho1
  have hk1 : k ≠ σ.length := by rintro rfl; rw [hd1] at h1; cases h1
  have h1' := kp2.get hk1 h1
  walk_at "xs"
  intro σ3 h3 kp3
  have ho3 := kp3.get (by lia) ho2
  have h1'' := kp3.get hk1 h1'
  walk_at "xs"
  intro σ4 h4 kp4
  have ho4 := kp4.get (by lia) ho3
  have h14 := kp4.get hk1 h1''
  have nk : σ.length ≤ k := by have := kp.1; lia
  refine ⟨rfl, hP _ _ k σ4 ⟨ho4, h4, h14⟩ (((((kp.tr kp1).new kp2 ?_).new kp3 ?_)).new kp4 ?_) (by lia) (by lia) nk⟩
  all_goals intro j q; lia
/-- Line.put_cells -/
noncomputable def putCellsL (L : List Cell) (col : Int) (cs : List Cell) : List Cell :=
  if ¬ (0 ≤ col ∧ col < L.length) ∨ cs = [] then L else
    let s := lineSliceL cs 0 (L.length - col - 1)
    let L2 := partL (partL L col) (col + s.length)
    L2.take col.toNat ++ s ++ L2.drop (col + s.length).toNat
theorem fixLast_length {L : List Cell} : (fixLast L).length = L.length := by
  unfold fixLast; split
  · split <;> simp
  · rfl
theorem lineSliceL_length {L : List Cell} {l r : Int} : (lineSliceL L l r).length = (sliceG L (some (max 0 l)) (some (max 0 (r + 1)))).length := by
  unfold lineSliceL; rw [fixLast_length, fixFirst_length]
theorem L_put_cells_ {col : Int} {cs : List Cell} {i : Nat} (A : LineAt σ o d c L wr) (hl : L.length ≤ 400) (hi : σ[i]? = some (.list (cs.map Cell.av))) (hcs : cs.length ≤ 400)
    (h0 : 0 ≤ col) (h1 : col < L.length) (hne : cs ≠ [])
    (hP : ∀ σ2, LineAt σ2 o d c (putCellsL L col cs) wr → Keep (· = c) σ σ2 → P .none σ2) : W (F_L_put_cells [.ref o, .int col, .ref i] σ) P := by
  obtain ⟨ho, hd, hc⟩ := id A
  have hl2 : L.length ≤ 1000 := by lia
  refine x_def (X := xm_L_put_cells) rfl ?_
  walk_at "xs"
  intro k1 σ1 e1 kp1 n1
  have A1 := A.keep0 kp1
  have hi1 := kp1.get0 hi
  obtain ⟨ho1, hd1, hc1⟩ := id A1
  refine o_eqc hi1 e1 ?_
  have : cs.isEmpty = false := by cases cs with | nil => exact absurd rfl hne | cons _ _ => rfl
  have key : putCellsL L col cs = (let s := lineSliceL cs 0 (L.length - col - 1)
    let L2 := partL (partL L col) (col + s.length)
    L2.take col.toNat ++ s ++ L2.drop (col + s.length).toNat) := by
    unfold putCellsL; rw [if_neg]; rintro (q | q)
    · exact q ⟨h0, h1⟩
    · exact hne q
  have hsl : (lineSliceL cs 0 (L.length - col - 1)).length ≤ L.length - col.toNat := by
    rw [lineSliceL_length]
    unfold sliceG
    simp only [Option.elim, List.length_take, List.length_drop]
    refine Nat.le_trans (Nat.min_le_left _ _) (Nat.le_trans (Nat.sub_le _ _) ?_)
    obtain ⟨e, he⟩ : ∃ e : Nat, (L.length : Int) - col = e := ⟨((L.length : Int) - col).toNat, (Int.toNat_of_nonneg (Int.sub_nonneg_of_le (Int.le_of_lt h1))).symm⟩
    rw [show max 0 ((L.length : Int) - col - 1 + 1) = (e : Int) by lia, clipAt_nat]
    exact Nat.le_trans (Nat.min_le_left _ _) (by lia)
  have hsl2 : (lineSliceL cs 0 (L.length - col - 1)).length ≤ 1000 := by
    rw [lineSliceL_length]; have := sliceG_length (l := cs) (lo := some (max 0 0)) (hi := some (max 0 ((L.length : Int) - col - 1 + 1))); lia
  walk_at "xs"
  refine CallR.mk (line_slice_ hi1 (by lia) fun k σ2 h2 kp2 nk => ?_)
  have A2 := A1.keep0 kp2
  obtain ⟨ho2, hd2, hc2⟩ := id A2
  generalize lineSliceL cs 0 (L.length - col - 1) = s at key hsl hsl2 h2
  walk_at "xs"
  refine CallR.mk (L_part_ A2 (by omega) fun σ3 A3 kp3 => ?_)
  obtain ⟨ho3, hd3, hc3⟩ := id A3
  have nkc : k ≠ c := by have := lt_of_get hc1; lia
  have h3 := kp3.get nkc h2
  walk_at "xs"
  refine CallR.mk (L_part_ A3 (by rw [partL_length]; omega) fun σ4 A4 kp4 => ?_)
  obtain ⟨ho4, hd4, hc4⟩ := id A4
  have h4 := kp4.get nkc h3
  have e5 := setSlice_at (f := Cell.av) (l := partL (partL L col) (col + s.length)) (k := s) (lo := col) (hi := col + s.length) h0 (by lia) (by rw [partL_length, partL_length]; lia)
  have h54 : c ≠ k ∧ ((partL (partL L col) (col + s.length)).map Cell.av).length + (s.map Cell.av).length ≤ 1000 := ⟨nkc.symm, by rw [List.length_map, List.length_map, partL_length, partL_length]; lia⟩
  walk_at "xs"
  intro σ5 h5 kp5
  refine hP σ5 ?_ (((kp1.up.tr kp2.up).tr kp3).tr (kp4.tr kp5))
  rw [key]
  refine A4.cells kp5 ?_
  rw [h5, e5]
end
end Mine
end
-- part P9
section
open PySem PySem.W PySem.Calls PyProof.Rows
set_option maxRecDepth 100000
namespace Mine
theorem tn_sub {a b : Int} (h0 : 0 ≤ a) (h : a ≤ b) : b.toNat - a.toNat = (b - a).toNat := by omega
theorem tn_le {a : Int} {n : Nat} (h : a ≤ n) : a.toNat ≤ n := by omega
theorem tn_add {a b : Int} {n : Nat} (h0 : 0 ≤ a) (h1 : 0 ≤ b) (h : a + b ≤ n) : a.toNat + b.toNat ≤ n := by omega
theorem tn {a : Int} {b : Nat} (h : a = b) : a.toNat = b := by rw [h]; rfl
theorem part_len {L : List Cell} {a : Int} : (partL L a).length = L.length := partL_length L a
section
variable {P : AV → Store → Prop} {σ : Store} {o d c : Nat} {L : List Cell} {wr : Bool}
/-- Line.shift -/
noncomputable def shiftL (L : List Cell) (col many right : Int) (p : Pen) (back : Bool) : List Cell :=
  let n := max 0 (min many (right - col + 1))
  let first := if back = true then col + n else col
  let last := if back = true then right + 1 else right + 1 - n
  let L4 := partL (partL (partL (partL L col) (right + 1)) first) last
  let kept := (L4.take last.toNat).drop first.toNat
  let bl := List.replicate n.toNat (blank p)
  L4.take col.toNat ++ (if back = true then kept ++ bl else bl ++ kept) ++ L4.drop (right + 1).toNat
noncomputable def xr_shift : XS := xsCons (xsFor false (xiSeq (xTup (xaCons (xLoc 1) (xaCons (xBin oAdd (xLoc 3) (xVal (.int 1))) (xaCons (xLoc 6) (xaCons (xLoc 7) xaNil)))))) (xtLoc 8) (xsCons (xsExpr (xMeth 218 "part" F_L_part (xLoc 0) (xaCons (xLoc 8) xaNil))) xsNil)) (xsCons (xsAsg (xTup (xaCons (xSlice (xAttr 218 "cells" (xLoc 0)) (xLoc 6) (xLoc 7)) (xaCons (xCall F_line_blanks (xaCons (xLoc 2) (xaCons (xLoc 4) xaNil))) xaNil))) (xtSwap 2 (xtCons (xtLoc 10) (xtCons (xtLoc 9) xtNil)))) (xsCons (xsAsg (xIf (xbOf (xLoc 5)) (xBin oAdd (xLoc 9) (xLoc 10)) (xBin oAdd (xLoc 10) (xLoc 9))) (xtSlice (xAttr 218 "cells" (xLoc 0)) (xLoc 1) (xBin oAdd (xLoc 3) (xVal (.int 1))))) xsNil))
theorem L_shift_ {col many right : Int} {p : Pen} {back : Bool} (A : LineAt σ o d c L wr) (hl : L.length ≤ 400) (h0 : 0 ≤ col) (h1 : col ≤ right) (h2 : right < L.length)
    (hP : ∀ σ2, LineAt σ2 o d c (shiftL L col many right p back) wr → Keep (· = c) σ σ2 → P .none σ2) : W (F_L_shift [.ref o, .int col, .int many, .int right, p.av, .bool back] σ) P := by
  obtain ⟨ho, hd, hc⟩ := id A
  have hl2 : L.length ≤ 1000 := by lia
  have m1 : min right ((L.length : Int) - 1) = right := by lia
  unfold shiftL at hP
  generalize hn : max 0 (min many (right - col + 1)) = n at hP
  simp only at hP
  have n0 : 0 ≤ n := by omega
  have n1 : n ≤ right - col + 1 := by lia
  generalize hf : (if back = true then col + n else col) = first at hP
  generalize hla : (if back = true then right + 1 else right + 1 - n) = last at hP
  have f0 : 0 ≤ first := by rw [← hf]; split <;> lia
  have f1 : first ≤ last := by rw [← hf, ← hla]; split <;> lia
  have f2 : last ≤ L.length := by rw [← hla]; split <;> lia
  have f3 : last - first = right + 1 - col - n := by rw [← hf, ← hla]; split <;> lia
  generalize hL4 : partL (partL (partL (partL L col) (right + 1)) first) last = L4 at hP
  have hlen4 : L4.length = L.length := by rw [← hL4]; simp only [part_len]
  generalize hkept : (L4.take last.toNat).drop first.toNat = kept at hP
  have hkl : kept.length = (last - first).toNat := by rw [← hkept, List.length_drop, List.length_take, hlen4, Nat.min_eq_left (tn_le f2)]; exact tn_sub f0 f1
  have rest : xr_shift.wp [some (.ref o), some (.int col), some (.int n), some (.int right), some p.av, some (.bool back), some (.int first), some (.int last), none, none, none] σ (fun fl _ σ' => P (flV fl) σ') := by
    refine x_forL (items := [.int col, .int (right + 1), .int first, .int last]) rfl rfl ?_
    refine x_loop_cons (by rfl) ?_
    walk_at "xs"
    refine CallR.mk (L_part_ A (by omega) fun σ1 A1 kp1 => ?_)
    obtain ⟨ho1, hd1, hc1⟩ := id A1
    refine x_loop_cons (by rfl) ?_
    walk_at "xs"
    refine CallR.mk (L_part_ A1 (by simp only [part_len]; omega) fun σ2 A2 kp2 => ?_)
    obtain ⟨ho2, hd2, hc2⟩ := id A2
    refine x_loop_cons (by rfl) ?_
    walk_at "xs"
    refine CallR.mk (L_part_ A2 (by simp only [part_len]; omega) fun σ3 A3 kp3 => ?_)
    obtain ⟨ho3, hd3, hc3⟩ := id A3
    refine x_loop_cons (by rfl) ?_
    walk_at "xs"
    refine CallR.mk (L_part_ A3 (by simp only [part_len]; omega) fun σ4 A4 kp4 => ?_)
    rw [hL4] at A4
    obtain ⟨ho4, hd4, hc4⟩ := id A4
    have kp := (kp1.tr kp2).tr (kp3.tr kp4)
    refine x_loop_nil (by rfl) ?_
    have hl4 : L4.length ≤ 1000 := by lia
    walk_at "xs"
    intro k2 σ5 e5 kp5 n5
    rw [sliceL_map, sliceG_at f0 f1 (by lia), hkept] at e5
    refine CallR.mk (line_blanks_ (by lia) fun k3 σ6 e6 kp6 n6 => ?_)
    have e5' := kp6.get0 e5
    have A6 := (A4.keep0 kp5).keep0 kp6
    obtain ⟨ho6, hd6, hc6⟩ := id A6
    generalize hbl : List.replicate n.toNat (blank p) = bl at hP e6
    have hbn : bl.length = n.toNat := by rw [← hbl, List.length_replicate]
    have hkb : kept.length + bl.length ≤ L.length := by rw [hkl, hbn]; exact tn_add (Int.sub_nonneg_of_le f1) n0 (by lia)
    have hkb2 : kept.length + bl.length ≤ 1000 := Nat.le_trans hkb hl2
    have ek : ∀ k : List Cell, setSliceL (L4.map Cell.av) (k.map Cell.av) (some col) (some (right + 1)) = (L4.take col.toNat ++ k ++ L4.drop (right + 1).toNat).map Cell.av := fun k => setSlice_at (f := Cell.av) (l := L4) (lo := col) (hi := right + 1) h0 (by lia) (by lia)
    have fin : ∀ kk σ7, ∀ k : List Cell, k.length = kept.length + bl.length → σ7[kk]? = some (.list (k.map Cell.av)) → Keep0 σ6 σ7 → σ6.length ≤ kk → (∀ σ2, LineAt σ2 o d c (L4.take col.toNat ++ k ++ L4.drop (right + 1).toNat) wr → Keep (· = c) σ σ2 → P .none σ2) → SetS c kk (some col) (some (right + 1)) σ7 fun σ8 => P .none σ8 := by
      intro kk σ7 k hk e7 kp7 n7 h
      have A7 := A6.keep0 kp7
      refine .mk A7.c e7 ⟨by have := lt_of_get hc6; lia, by rw [List.length_map, List.length_map, hlen4, hk]; exact Nat.le_trans (Nat.add_le_add hl (Nat.le_trans hkb hl)) (Nat.le_of_ble_eq_true rfl)⟩ fun σ8 h8 kp8 => ?_
      rw [ek] at h8
      exact h σ8 (A7.cells kp8 h8) (((kp.tr kp5.up).tr kp6.up).tr (kp7.up.tr kp8))
    cases back with
    | true =>
      have h3 : (kept.map Cell.av).length + (bl.map Cell.av).length ≤ 1000 := by rw [List.length_map, List.length_map]; exact hkb2
      walk_at "xs"
      intro kk σ7 e7 kp7 n7
      rw [← List.map_append] at e7
      obtain ⟨ho7, hd7, hc7⟩ := A6.keep0 kp7
      have := fin kk σ7 _ List.length_append e7 kp7 n7 hP
      repeat (first | exact this | walk_at "x1")
    | false =>
      have h3 : (bl.map Cell.av).length + (kept.map Cell.av).length ≤ 1000 := by rw [List.length_map, List.length_map, Nat.add_comm]; exact hkb2
      walk_at "xs"
      intro kk σ7 e7 kp7 n7
      rw [← List.map_append] at e7
      obtain ⟨ho7, hd7, hc7⟩ := A6.keep0 kp7
      have := fin kk σ7 _ (by rw [List.length_append, Nat.add_comm]) e7 kp7 n7 hP
      repeat (first | exact this | walk_at "x1")
  refine x_def (X := xm_L_shift) rfl ?_
  walk_at "xs"
  show CallR _ _ _ _
  rw [m1]
  refine c_clamp ?_
  rw [hn]
  cases back with
  | true => simp only [if_true] at hf hla; subst hf hla; exact rest
  | false => simp only [Bool.false_eq_true, if_false] at hf hla; subst hf hla; exact rest
theorem L_insert_ {col many right : Int} {p : Pen} (A : LineAt σ o d c L wr) (hl : L.length ≤ 400) (h0 : 0 ≤ col) (h1 : col ≤ right) (h2 : right < L.length)
    (hP : ∀ σ2, LineAt σ2 o d c (shiftL L col many right p false) wr → Keep (· = c) σ σ2 → P .none σ2) : W (F_L_insert [.ref o, .int col, .int many, .int right, p.av] σ) P := by
  obtain ⟨ho, hd, hc⟩ := id A
  refine x_def (X := xm_L_insert) rfl ?_
  walk_at "xs"
  exact CallR.mk (L_shift_ A hl h0 h1 h2 fun σ2 A2 kp2 => hP σ2 A2 kp2)
theorem L_delete_ {col many right : Int} {p : Pen} (A : LineAt σ o d c L wr) (hl : L.length ≤ 400) (h0 : 0 ≤ col) (h1 : col ≤ right) (h2 : right < L.length)
    (hP : ∀ σ2, LineAt σ2 o d c (shiftL L col many right p true) wr → Keep (· = c) σ σ2 → P .none σ2) : W (F_L_delete [.ref o, .int col, .int many, .int right, p.av] σ) P := by
  obtain ⟨ho, hd, hc⟩ := id A
  refine x_def (X := xm_L_delete) rfl ?_
  walk_at "xs"
  exact CallR.mk (L_shift_ A hl h0 h1 h2 fun σ2 A2 kp2 => hP σ2 A2 kp2)
end
end Mine
end
-- part P10
section
open PySem PySem.W PySem.Calls PyProof.Rows
set_option maxRecDepth 100000
namespace Mine
section
variable {P : AV → Store → Prop} {σ : Store} {o d c : Nat} {L : List Cell} {wr : Bool}
noncomputable def keepG (sel : Bool) (x : Cell) : Bool := sel && x.g
noncomputable def bordL (sel : Bool) (L : List Cell) (x : Nat) : List Cell := match L[x]? with
  | some q => if keepG sel q = true then L else partL L x
  | none => L
theorem bordL_length {sel : Bool} {x : Nat} : (bordL sel L x).length = L.length := by
  unfold bordL; split
  · split
    · rfl
    · exact part_len
  · rfl
/-- columns lo <= i < hi erased -/
noncomputable def eraseR (sel : Bool) (p : Pen) (lo hi : Nat) (L : List Cell) : List Cell := L.mapIdx fun i x => if lo ≤ i ∧ i < hi ∧ keepG sel x = false then blank p else x
theorem eraseR_length {sel : Bool} {p : Pen} {lo hi : Nat} : (eraseR sel p lo hi L).length = L.length := by simp [eraseR]
theorem eraseR_get {sel : Bool} {p : Pen} {lo hi i : Nat} : (eraseR sel p lo hi L)[i]? = L[i]?.map fun x => if lo ≤ i ∧ i < hi ∧ keepG sel x = false then blank p else x := by simp [eraseR, List.getElem?_mapIdx]
noncomputable def eraseL (sel : Bool) (p : Pen) (l r : Nat) (L : List Cell) : List Cell := eraseR sel p l (r + 1) (bordL sel (bordL sel L l) (r + 1))
noncomputable def xb_bord : XS := xsCons (xsIf (xbAnd (xbOf (xBin xLt (xLoc 5) (xLen (xaCons (xAttr 218 "cells" (xLoc 0)) xaNil)))) (xbAnd (xbNot (xbAnd (xbOf (xLoc 4)) (xbAnd (xbOf (xGet (xGet (xAttr 218 "cells" (xLoc 0)) (xLoc 5)) (xVal (.int 3)))) (xbVal true)))) (xbVal true))) (xsCons (xsExpr (xMeth 218 "part" F_L_part (xLoc 0) (xaCons (xLoc 5) xaNil))) xsNil) xsNil) xsNil
theorem bord_step {x : Nat} {sel : Bool} {lc : Lc} {a1 a2 a3 : Option AV} (A : LineAt σ o d c L wr) (hl : L.length ≤ 400) {S : Fl → Lc → Store → Prop}
    (hP : ∀ σ2, LineAt σ2 o d c (bordL sel L x) wr → Keep (· = c) σ σ2 → S .next (some (.ref o) :: a1 :: a2 :: a3 :: some (.bool sel) :: some (.int x) :: lc) σ2) :
    xb_bord.wp (some (.ref o) :: a1 :: a2 :: a3 :: some (.bool sel) :: some (.int x) :: lc) σ S := by
  obtain ⟨ho, hd, hc⟩ := id A
  have hl2 : L.length ≤ 1000 := by lia
  unfold bordL at hP
  cases hx : L[x]? with
  | none =>
    rw [hx] at hP
    have h1 : L.length ≤ x := List.getElem?_eq_none_iff.mp hx
    have := hP σ A Keep.refl
    walk_at "xs"
    exact this
  | some q =>
    rw [hx] at hP
    have h1 := (List.getElem?_eq_some_iff.mp hx).1
    have ix : idx (L.map Cell.av) (x : Int) = some q.av := idx_at (by lia) hl2 hx
    cases sel with
    | false =>
      walk_at "xs"
      exact CallR.mk (L_part_ A hl2 fun σ2 A2 kp2 => hP σ2 A2 kp2)
    | true =>
      cases hq : q.g with
      | true =>
        dsimp only at hP
        rw [if_pos (show keepG true q = true from hq)] at hP
        have := hP σ A Keep.refl
        walk_at "xs"
        exact this
      | false =>
        dsimp only at hP
        rw [if_neg (show ¬ keepG true q = true by rw [show keepG true q = q.g from rfl, hq]; decide)] at hP
        walk_at "xs"
        exact CallR.mk (L_part_ A hl2 fun σ2 A2 kp2 => hP σ2 A2 kp2)
theorem range_get {a : Int} {n i : Nat} {d : AV} (h : ((List.range n).map fun i : Nat => AV.int (a + (i : Int)))[i]? = some d) : i < n ∧ d = .int (a + i) := by
  simp only [List.getElem?_map, Option.map_eq_some_iff] at h
  obtain ⟨d', h1, h2⟩ := h
  obtain ⟨hl, hg⟩ := List.getElem?_eq_some_iff.mp h1
  simp at hl hg
  subst hg
  exact ⟨hl, h2.symm⟩
theorem range_items {a : Int} {n : Nat} (h : n ≤ 1000) {σ : Store} : (Src.range a n).items σ = some ((List.range n).map fun i : Nat => .int (a + (i : Int))) := by
  show (if n ≤ 1000 then _ else none) = _
  exact if_pos h
noncomputable def xb_erase : XS := xsCons (xsIf (xbNot (xbAnd (xbOf (xLoc 4)) (xbAnd (xbOf (xGet (xGet (xAttr 218 "cells" (xLoc 0)) (xLoc 6)) (xVal (.int 3)))) (xbVal true)))) (xsCons (xsAsg (xCall F_blank_cell (xaCons (xLoc 3) xaNil)) (xtSub (xAttr 218 "cells" (xLoc 0)) (xLoc 6))) xsNil) xsNil) xsNil
theorem L_erase_ {l r : Nat} {p : Pen} {sel : Bool} (A : LineAt σ o d c L wr) (hl : L.length ≤ 400) (h1 : l ≤ r) (h2 : r < L.length)
    (hP : ∀ σ2, LineAt σ2 o d c (eraseL sel p l r L) (if r + 1 = L.length then false else wr) → Keep (fun j => j = c ∨ j = d) σ σ2 → P .none σ2) : W (F_L_erase [.ref o, .int l, .int r, p.av, .bool sel] σ) P := by
  obtain ⟨ho, hd, hc⟩ := id A
  have hl2 : L.length ≤ 1000 := by lia
  have m1 : max 0 (l : Int) = l := by lia
  have m2 : min (r : Int) ((L.length : Int) - 1) = r := by lia
  unfold eraseL at hP
  generalize hB : bordL sel (bordL sel L l) (r + 1) = B at hP
  have hlB : B.length = L.length := by rw [← hB, bordL_length, bordL_length]
  have hlB2 : B.length ≤ 1000 := by lia
  refine x_def (X := xm_L_erase) rfl ?_
  walk_at "xs"
  show ForR _ _ _ _ _ _ _
  rw [m1, m2]
  refine x_forL (items := [.int l, .int (r + 1)]) rfl rfl ?_
  refine x_loop_cons (by rfl) ?_
  refine bord_step (x := l) (sel := sel) A hl fun σ1 A1 kp1 => ?_
  refine x_loop_cons (by rfl) ?_
  refine bord_step (x := r + 1) (sel := sel) A1 (by rw [bordL_length]; exact hl) fun σ2 A2 kp2 => ?_
  rw [hB] at A2
  refine x_loop_nil (by rfl) ?_
  have kp12 := kp1.tr kp2
  clear A1 kp1 kp2
  have rs : rangeSrc [.int l, .int ((r : Int) + 1)] = some (.range l (r + 1 - l)) := by
    simp only [rangeSrc]
    rw [if_pos (by lia), show ((r : Int) + 1 - l).toNat = r + 1 - l by lia]
  show Som (rangeSrc _) _
  rw [rs]
  refine x_for (src := .range l (r + 1 - l)) ((List.range (r + 1 - l)).map fun i : Nat => .int ((l : Int) + (i : Int))) (fun i lc2 σ3 => i ≤ r + 1 - l ∧ (∃ y, lc2 = [some (.ref o), some (.int l), some (.int r), some p.av, some (.bool sel), some (.int (r + 1)), y]) ∧ LineAt σ3 o d c (eraseR sel p l (l + i) B) wr ∧ Keep (· = c) σ2 σ3) rfl ?_ (fun _ _ _ _ => range_items (by lia)) ?_ ?_
  · have : eraseR sel p l (l + 0) B = B := by
      refine List.ext_getElem? fun i => ?_
      rw [eraseR_get]
      cases B[i]? with
      | none => rfl
      | some x => exact congrArg some (if_neg (by lia))
    exact ⟨Nat.zero_le _, ⟨_, rfl⟩, by rw [this]; exact A2, Keep.refl⟩
  · rintro i dd lc2 σ3 hdd ⟨hi, ⟨y, rfl⟩, A3, kp3⟩
    obtain ⟨hlt, rfl⟩ := range_get hdd
    obtain ⟨ho3, hd3, hc3⟩ := id A3
    obtain ⟨q, hq⟩ : ∃ q, B[l + i]? = some q := ⟨_, List.getElem?_eq_getElem (by lia)⟩
    have hE : (eraseR sel p l (l + i) B).length = B.length := eraseR_length
    have hq2 : (eraseR sel p l (l + i) B)[l + i]? = some q := by rw [eraseR_get, hq]; exact congrArg some (if_neg (by lia))
    have ix : idx ((eraseR sel p l (l + i) B).map Cell.av) ((l : Int) + i) = some q.av := idx_at (by lia) (by lia) (by rw [show ((l : Int) + (i : Int)).toNat = l + i by lia]; exact hq2)
    have nx : idxN ((eraseR sel p l (l + i) B).map Cell.av) ((l : Int) + i) = some (l + i) := by
      rw [idxN_at (by lia) (by rw [List.length_map, hE]; omega) (by rw [List.length_map, hE]; lia)]; congr 1
    have keyT : keepG sel q = true → eraseR sel p l (l + (i + 1)) B = eraseR sel p l (l + i) B := by
      intro hk
      refine List.ext_getElem? fun j => ?_
      rw [eraseR_get, eraseR_get]
      by_cases hj : j = l + i
      · subst hj; rw [hq]; simp [hk]
      · cases B[j]? with
        | none => rfl
        | some x =>
          simp only [Option.map_some]
          congr 1
          have : (l ≤ j ∧ j < l + (i + 1) ∧ keepG sel x = false) ↔ (l ≤ j ∧ j < l + i ∧ keepG sel x = false) := by constructor <;> (rintro ⟨a, b, c⟩; exact ⟨a, by lia, c⟩)
          simp only [this]
    have keyF : keepG sel q = false → eraseR sel p l (l + (i + 1)) B = (eraseR sel p l (l + i) B).set (l + i) (blank p) := by
      intro hk
      refine List.ext_getElem? fun j => ?_
      by_cases hj : j = l + i
      · subst hj
        rw [List.getElem?_set_self (by rw [hE]; lia), eraseR_get, hq]
        simp [hk]
      · rw [List.getElem?_set_ne (Ne.symm hj), eraseR_get, eraseR_get]
        cases B[j]? with
        | none => rfl
        | some x =>
          simp only [Option.map_some]
          congr 1
          have : (l ≤ j ∧ j < l + (i + 1) ∧ keepG sel x = false) ↔ (l ≤ j ∧ j < l + i ∧ keepG sel x = false) := by constructor <;> (rintro ⟨a, b, c⟩; exact ⟨a, by lia, c⟩)
          simp only [this]
    have go : keepG sel q = false → UpdO σ3 c (.list (((eraseR sel p l (l + i) B).map Cell.av).set (l + i) (blank p).av)) fun σ4 => Fl.next = .next ∧ i + 1 ≤ r + 1 - l ∧ (∃ y, [some (.ref o), some (.int l), some (.int r), some p.av, some (.bool sel), some (.int (r + 1)), some (.int ((l : Int) + i))] = [some (.ref o), some (.int l), some (.int r), some p.av, some (.bool sel), some (.int (r + 1)), y]) ∧ LineAt σ4 o d c (eraseR sel p l (l + (i + 1)) B) wr ∧ Keep (· = c) σ2 σ4 := by
      intro hk σ4 h4 kp4
      rw [← List.map_set] at h4
      exact ⟨rfl, hlt, ⟨_, rfl⟩, by rw [keyF hk]; exact A3.cells kp4 h4, kp3.tr kp4⟩
    cases sel with
    | false =>
      refine c_blank ?_
      walk_at "xs"
      exact go rfl
    | true =>
      cases hqg : q.g with
      | true =>
        walk_at "xs"
        exact ⟨hlt, ⟨_, rfl⟩, by rw [keyT hqg]; exact A3, kp3⟩
      | false =>
        walk_at "xs"
        refine c_blank ?_
        walk_at "xs"
        exact go hqg
  · rintro lc2 σ3 ⟨_, ⟨y, rfl⟩, A3, kp3⟩
    rw [List.length_map, List.length_range, show l + (r + 1 - l) = r + 1 by lia] at A3
    obtain ⟨ho3, hd3, hc3⟩ := id A3
    have kp := kp12.tr kp3
    have hE : (eraseR sel p l (r + 1) B).length = L.length := by rw [eraseR_length, hlB]
    have hE2 : (eraseR sel p l (r + 1) B).length ≤ 1000 := by lia
    by_cases hr : r + 1 = L.length
    · rw [if_pos hr] at hP
      walk_at "xs"
      intro σ4 h4 kp4
      exact hP σ4 ⟨kp4.get A3.od A3.o, h4, kp4.get (fun q => A3.dc q.symm) A3.c⟩ ((kp.weak fun _ _ h => .inl h).tr (kp4.weak fun _ _ h => .inr h))
    · rw [if_neg hr] at hP
      have := hP σ3 A3 (kp.weak fun _ _ h => .inl h)
      walk_at "xs"
      exact this
end
end Mine
end
-- part P11
section
open PySem PySem.W PySem.Calls PyProof.Rows
set_option maxRecDepth 100000
namespace Mine
section
variable {P : AV → Store → Prop} {σ : Store} {o d c : Nat} {L : List Cell} {wr : Bool}
noncomputable def fillL (s : Cell) (l : Nat) : Nat → List Cell → List Cell
  | 0, L => L
  | k + 1, L => putL (fillL s l k L) ((l + k : Nat) : Int) s
theorem putL_length {col : Int} {s : Cell} : (putL L col s).length = L.length := by
  unfold putL
  split
  · rfl
  · dsimp only
    generalize (if s.w = 2 ∧ col + 1 = (L.length : Int) then blank s.pen else s) = s'
    split
    · rw [List.length_set, List.length_set, part_len, part_len]
    · rw [List.length_set, part_len, part_len]
theorem fillL_length {s : Cell} {l : Nat} : ∀ {k : Nat}, (fillL s l k L).length = L.length
  | 0 => rfl
  | k + 1 => by unfold fillL; rw [putL_length, fillL_length]
theorem L_fill_ {l r : Nat} {s : Cell} (A : LineAt σ o d c L wr) (hl : L.length ≤ 400) (h1 : l ≤ r) (h2 : r < L.length) (hs : s.w = 0 ∨ s.w = 1 ∨ s.w = 2)
    (hP : ∀ σ2, LineAt σ2 o d c (fillL s l (r + 1 - l) L) wr → Keep (· = c) σ σ2 → P .none σ2) : W (F_L_fill [.ref o, .int l, .int r, s.av] σ) P := by
  obtain ⟨ho, hd, hc⟩ := id A
  have hl2 : L.length ≤ 1000 := by lia
  have m1 : max 0 (l : Int) = l := by lia
  have m2 : min (r : Int) ((L.length : Int) - 1) = r := by omega
  have rs : rangeSrc [.int l, .int ((r : Int) + 1)] = some (.range l (r + 1 - l)) := by
    simp only [rangeSrc]
    rw [if_pos (by lia), show ((r : Int) + 1 - l).toNat = r + 1 - l by lia]
  refine x_def (X := xm_L_fill) rfl ?_
  walk_at "xs"
  show Som (rangeSrc [.int (max 0 (l : Int)), .int (min (r : Int) ((L.length : Int) - 1) + 1)]) _
  rw [m1, m2, rs]
  refine x_for (src := .range l (r + 1 - l)) ((List.range (r + 1 - l)).map fun i : Nat => .int ((l : Int) + (i : Int))) (fun i lc2 σ2 => i ≤ r + 1 - l ∧ (∃ y, lc2 = [some (.ref o), some (.int l), some (.int r), some s.av, y]) ∧ LineAt σ2 o d c (fillL s l i L) wr ∧ Keep (· = c) σ σ2) rfl ?_ (fun _ _ _ _ => range_items (by omega)) ?_ ?_
  · exact ⟨Nat.zero_le _, ⟨_, rfl⟩, A, Keep.refl⟩
  · rintro i dd lc2 σ2 hdd ⟨hi, ⟨y, rfl⟩, A2, kp2⟩
    obtain ⟨hlt, rfl⟩ := range_get hdd
    obtain ⟨ho2, hd2, hc2⟩ := id A2
    walk_at "xs"
    exact CallR.mk (L_put_ A2 (by rw [fillL_length]; exact hl2) hs fun σ3 A3 kp3 => ⟨rfl, hlt, ⟨_, rfl⟩, A3, kp2.tr kp3⟩)
  · rintro lc2 σ2 ⟨_, ⟨y, rfl⟩, A2, kp2⟩
    rw [List.length_map, List.length_range] at A2
    exact hP σ2 A2 kp2
theorem L_copy_ (A : LineAt σ o d c L wr) (hl : L.length ≤ 400)
    (hP : ∀ o' d' c' σ2, LineAt σ2 o' d' c' L wr → Keep0 σ σ2 → σ.length ≤ o' → σ.length ≤ d' → σ.length ≤ c' → P (.ref o') σ2) : W (F_L_copy [.ref o] σ) P := by
  have hl2 : L.length ≤ 1000 := by lia
  refine x_def (X := xm_L_copy) rfl ?_
  refine CallR.mk (Line_ (n := 0) (p := ⟨0, -1, -1, -1, 0⟩) (by lia) fun o' d' c' σ1 B kp1 n1 n2 n3 => ?_)
  have A1 := A.keep0 kp1
  obtain ⟨ho1, hd1, hc1⟩ := id A1
  obtain ⟨bo1, bd1, bc1⟩ := id B
  have lo := lt_of_get A.o
  have ld := lt_of_get A.d
  have lc := lt_of_get A.c
  clear A B
  walk_at "xs"
  refine c_list hc1 (by rw [List.length_map]; exact hl2) fun k2 σ2 e2 kp2 n3 => ?_
  have A2 := A1.keep0 kp2
  obtain ⟨ho2, hd2, hc2⟩ := id A2
  have bo2 := kp2.get0 bo1
  have bd2 := kp2.get0 bd1
  clear ho1 hd1 hc1 bo1 bd1 bc1 A1
  walk_at "xs"
  intro σ3 bd3 kp3
  have A3 := A2.keep kp3 (by lia) (by lia) (by lia)
  have bo3 := kp3.get (by rintro rfl; rw [bo2] at bd2; cases bd2) bo2
  have e3 := kp3.get (by rintro rfl; rw [bd2] at e2; cases e2) e2
  obtain ⟨ho3, hd3, hc3⟩ := id A3
  clear ho2 hd2 hc2 bo2 e2 A2
  walk_at "xs"
  intro σ4 bd4 kp4
  have A4 := A3.keep kp4 (by lia) (by lia) (by lia)
  have bo4 := kp4.get (by rintro rfl; rw [bo3] at bd3; cases bd3) bo3
  have e4 := kp4.get (by rintro rfl; rw [bd3] at e3; cases e3) e3
  obtain ⟨ho4, hd4, hc4⟩ := id A4
  clear ho3 hd3 hc3 bo3 e3 A3
  walk_at "xs"
  intro σ5 bd5 kp5
  have bo5 := kp5.get (by rintro rfl; rw [bo4] at bd4; cases bd4) bo4
  have e5 := kp5.get (by rintro rfl; rw [bd4] at e4; cases e4) e4
  have kk : Keep0 σ σ5 := (((kp1.tr kp2).new kp3 fun j q => by lia).new kp4 fun j q => by lia).new kp5 fun j q => by lia
  exact hP o' d' k2 σ5 ⟨bo5, bd5, e5⟩ kk n1 n2 (by have := kp1.1; lia)
theorem eqv_ints : ∀ l : List Int, PyData.eqvAll (l.map PyData.int) (l.map PyData.int) = true
  | [] => rfl
  | x :: l => by
    show (PyData.eqv (.int x) (.int x) && _) = true
    rw [eqv_ints l, eqv_int]; simp
theorem eqv_pen (p : Pen) : PyData.eqv p.py p.py = true := by
  show PyData.eqvAll _ _ = true
  simp [PyData.eqvAll, PyData.eqv]
theorem eqv_cell (x : Cell) : PyData.eqv x.py x.py = true := by
  show PyData.eqvAll _ _ = true
  have e1 : PyData.eqv (.tuple (x.ch.map .int)) (.tuple (x.ch.map .int)) = true := eqv_ints _
  have e2 : PyData.eqv (.bool x.g) (.bool x.g) = true := by show (x.g == x.g) = true; simp
  simp only [PyData.eqvAll, e1, eqv_int, eqv_pen, e2]
  simp
theorem eqv_all {α : Type} {f : α → PyData} (h : ∀ x, PyData.eqv (f x) (f x) = true) : ∀ l : List α, PyData.eqvAll (l.map f) (l.map f) = true
  | [] => rfl
  | x :: l => by
    show (PyData.eqv (f x) (f x) && _) = true
    rw [h, eqv_all h l]; rfl
theorem L_equals_ {o' d' c' : Nat} (A : LineAt σ o d c L wr) (B : LineAt σ o' d' c' L wr) (hP : P (.bool true) σ) : W (F_L_equals [.ref o, .ref o'] σ) P := by
  obtain ⟨ho, hd, hc⟩ := id A
  obtain ⟨bo, bd, bc⟩ := id B
  refine x_def (X := xm_L_equals) rfl ?_
  walk_at "xs"
  refine OpR.mk ?_
  have e : ∀ k : Nat, σ[k]? = some (.list (L.map Cell.av)) → py σ 8 (.tup [.ref k, .bool wr, .str "single"]) = some (.tuple [.list (L.map Cell.py), .bool wr, .str "single"]) := by
    intro k hk
    refine py_tup ?_
    have h1 : py σ 7 (.ref k) = some (.list (L.map Cell.py)) := py_cells hk
    have h2 : py σ 7 (.str "single") = some (.str "single") := by unfold py; rw [if_pos (by decide +kernel)]
    simp only [mapO, h1, h2, py_bool]
    rfl
  refine eq_py (e c hc) (e c' bc) ?_
  have : PyData.eqv (.tuple [.list (L.map Cell.py), .bool wr, .str "single"]) (.tuple [.list (L.map Cell.py), .bool wr, .str "single"]) = true := by
    show PyData.eqvAll _ _ = true
    have e1 : PyData.eqv (.list (L.map Cell.py)) (.list (L.map Cell.py)) = true := eqv_all eqv_cell L
    have e2 : PyData.eqv (.bool wr) (.bool wr) = true := by show (wr == wr) = true; simp
    simp only [PyData.eqvAll, e1, e2]
    rfl
  rw [this]
  exact hP
end
end Mine
end
-- part P12
section
open PySem PySem.W PySem.Calls PyProof.Rows
set_option maxRecDepth 100000
namespace Mine
noncomputable def isBl (c : Cell) : Bool := c.ch.isEmpty && c.w == 1
theorem c_isbl {P : AV → Store → Prop} {σ : Store} {c : Cell} (h : P (.bool (isBl c)) σ) : CallR F_is_blank [c.av] σ P := c_isblank h
noncomputable def plainC : Cell := ⟨[], 1, ⟨0, -1, -1, -1, 0⟩, false⟩
noncomputable def isPB (c : Cell) : Bool := PyData.eqv c.py plainC.py
noncomputable def trimN (q : Cell → Bool) (L : List Cell) : Nat → Nat
  | 0 => 0
  | k + 1 => if (L[k]?).any q = true then trimN q L k else k + 1
theorem trimN_succ {q : Cell → Bool} {L : List Cell} {k : Nat} : trimN q L (k + 1) = if (L[k]?).any q = true then trimN q L k else k + 1 := rfl
theorem trimN_le {q : Cell → Bool} {L : List Cell} : ∀ {k : Nat}, trimN q L k ≤ k
  | 0 => Nat.le_refl _
  | k + 1 => by
    unfold trimN
    split
    · exact Nat.le_succ_of_le trimN_le
    · exact Nat.le_refl _
noncomputable def codeC (c : Cell) : List Int := if c.w = 0 then [] else if c.ch = [] then [32] else c.ch
noncomputable def lineCodes (L : List Cell) : List Int := (L.take (trimN isBl L L.length)).flatMap codeC
section
variable {P : AV → Store → Prop} {σ : Store} {o d c : Nat} {L : List Cell} {wr : Bool}
theorem c_isplain {x : Cell} (h : P (.bool (isPB x)) σ) : CallR F_is_plain_blank [x.av] σ P := CallR.mk (x_def (X := xm_is_plain_blank) rfl (by
  refine OpR.mk ?_
  show W (eqA x.av plainC.av σ) _
  exact eq_py py_cell py_cell h))
theorem c_extT {i : Nat} {k : List AV} {l} (h1 : σ[i]? = some (.list l)) (h2 : l.length + k.length ≤ 1000) (h : UpdO σ i (.list (l ++ k)) (P .none)) : CallR fExtend [.ref i, .tup k] σ P := CallR.mk (extend_rt h1 h2 (Upd.intro (lt_of_get h1) h))
theorem L_used_ (A : LineAt σ o d c L wr) (hl : L.length ≤ 50) (hP : P (.int (trimN isPB L L.length)) σ) : W (F_L_used [.ref o] σ) P := by
  obtain ⟨ho, hd, hc⟩ := id A
  have hl2 : L.length ≤ 1000 := by lia
  refine x_def (X := xm_L_used) rfl ?_
  walk_at "xs"
  refine x_while L.length (fun k lc1 σ1 => k ≤ L.length ∧ (∃ z : Int, lc1 = [some (.ref o), some (.int z)] ∧ z = k) ∧ trimN isPB L k = trimN isPB L L.length ∧ σ = σ1) (by lia) ⟨Nat.le_refl _, ⟨_, rfl, rfl⟩, rfl, rfl⟩ ?_
  rintro k lc1 σ1 ⟨hk, ⟨z, rfl, hz⟩, ht, rfl⟩
  rw [← ht] at hP
  cases k with
  | zero =>
    have hz' : z = 0 := hz
    subst hz'
    walk_at "xs"
    exact hP
  | succ k =>
    have hx : L[k]? = some L[k] := List.getElem?_eq_getElem (by lia)
    generalize L[k] = x at hx
    have ix : idx (L.map Cell.av) (z - 1) = some x.av := idx_at (by lia) hl2 (by rw [show (z - 1).toNat = k by omega]; exact hx)
    walk_at "xs"
    refine c_isplain ?_
    rw [trimN_succ, hx, Option.any_some] at ht hP
    cases hb : isPB x with
    | false =>
      rw [if_neg (by rw [hb]; decide), show ((k + 1 : Nat) : Int) = z from hz.symm] at hP
      exact hP
    | true =>
      rw [if_pos hb] at ht
      refine ⟨k, rfl, rfl, by lia, ⟨_, rfl, by lia⟩, ht, rfl⟩
noncomputable def xr_codes : XS := xsCons (xsAsg (xList xaNil) (xtLoc 2)) (xsCons (xsFor false (xiSeq (xSlice (xLoc 0) (xVal .none) (xLoc 1))) (xtLoc 3) (xsCons (xsIf (xbOf (xBin oNe (xGet (xLoc 3) (xVal (.int 1))) (xVal (.int 0)))) (xsCons (xsExpr (xMethL fExtend (xLoc 2) (xaCons (xIf (xbOf (xBin oNe (xGet (xLoc 3) (xVal (.int 0))) (xTup xaNil))) (xGet (xLoc 3) (xVal (.int 0))) (xTup (xaCons (xVal (.int 32)) xaNil))) xaNil))) xsNil) xsNil) xsNil)) (xsCons (xsRet (xLoc 2)) xsNil))
theorem line_codes_ {i : Nat} (h : σ[i]? = some (.list (L.map Cell.av))) (hl : L.length ≤ 50) (hch : ∀ x ∈ L, x.ch.length ≤ 1)
    (hP : ∀ k σ2, σ2[k]? = some (.list ((lineCodes L).map .int)) → Keep0 σ σ2 → σ.length ≤ k → P (.ref k) σ2) : W (F_line_codes [.ref i] σ) P := by
  have hl2 : L.length ≤ 1000 := by lia
  refine x_def (X := xm_line_codes) rfl ?_
  walk_at "xs"
  have htn := trimN_le (q := isBl) (L := L) (k := L.length)
  refine x_while L.length (fun k lc1 σ1 => k ≤ L.length ∧ (∃ z : Int, lc1 = [some (.ref i), some (.int z), none, none] ∧ z = k) ∧ trimN isBl L k = trimN isBl L L.length ∧ σ = σ1) (by lia) ⟨Nat.le_refl _, ⟨_, rfl, rfl⟩, rfl, rfl⟩ ?_
  rintro k lc1 σ1 ⟨hk, ⟨z, rfl, hz⟩, ht, rfl⟩
  have rest : ∀ t : Nat, trimN isBl L k = t → z = t → xr_codes.wp [some (.ref i), some (.int z), none, none] σ fun fl _ σ' => P (flV fl) σ' := by
    rintro t ht2 rfl
    unfold lineCodes at hP
    rw [← ht, ht2] at hP
    rw [← ht, ht2] at htn
    clear ht ht2 hz hk
    refine fun kf σ1 ef kp1 nf => ?_
    have h1 := kp1.get0 h
    walk_at "xs"
    intro k2 σ2 e2 kp2 n2
    have es : sliceG L none (some (t : Int)) = L.take t := by
      unfold sliceG
      simp only [Option.elim]
      rw [clipAt_nat, List.drop_zero, Nat.sub_zero, Nat.min_eq_left htn]
    rw [sliceL_map, es, List.map_take] at e2
    have ef2 := kp2.get0 ef
    have nk : kf ≠ k2 := by have := lt_of_get ef; lia
    have it : ∀ σ3, σ3[k2]? = some (AO.list ((L.map Cell.av).take t)) → (Src.list k2).items σ3 = some ((L.map Cell.av).take t) := by
      intro σ3 q
      simp only [Src.items, q]
      rw [if_pos (by rw [List.length_take, List.length_map]; lia)]
    walk_at "xs"
    refine x_for ((L.map Cell.av).take t) (fun j lc3 σ3 => j ≤ t ∧ (∃ y, lc3 = [some (.ref i), some (.int t), some (.ref kf), y]) ∧ Keep0 σ σ3 ∧ σ3[k2]? = some (.list ((L.map Cell.av).take t)) ∧ σ3[kf]? = some (.list (((L.take j).flatMap codeC).map .int)) ∧ ((L.take j).flatMap codeC).length ≤ j) rfl ?_ (fun _ _ _ q => it _ q.2.2.2.1) ?_ ?_
    · exact ⟨Nat.zero_le _, ⟨_, rfl⟩, kp1.tr kp2, e2, ef2, Nat.le_refl _⟩
    · rintro j dd lc3 σ3 hdd ⟨hj, ⟨y, rfl⟩, kp3, e3, f3, hlen⟩
      clear hP
      obtain ⟨x, hx, rfl⟩ : ∃ x, L[j]? = some x ∧ dd = x.av := by
        rw [List.getElem?_take] at hdd
        split at hdd
        · rw [List.getElem?_map] at hdd
          cases q : L[j]? with
          | none => rw [q] at hdd; cases hdd
          | some x => rw [q] at hdd; cases hdd; exact ⟨x, rfl, rfl⟩
        · cases hdd
      have hjt : j < t := by
        have := (List.getElem?_eq_some_iff.mp hdd).1
        rw [List.length_take] at this; lia
      have hxc : x.ch.length ≤ 1 := hch x (List.mem_of_getElem? hx)
      have hstep : (L.take (j + 1)).flatMap codeC = (L.take j).flatMap codeC ++ codeC x := by
        rw [List.take_add_one, hx, List.flatMap_append]; exact congrArg _ (List.append_nil _)
      have hcl : (codeC x).length ≤ 1 := by
        unfold codeC; split
        · exact Nat.zero_le _
        · split
          · exact Nat.le_refl _
          · exact hxc
      generalize hF : (L.take j).flatMap codeC = F at f3 hlen hstep
      generalize hF2 : (L.take (j + 1)).flatMap codeC = F2 at hstep ⊢
      have fin : ∀ σ4, σ4[kf]? = some (.list (F2.map .int)) → Keep (· = kf) σ3 σ4 → j + 1 ≤ t ∧ (∃ y, [some (.ref i), some (.int t), some (.ref kf), some x.av] = [some (.ref i), some (.int t), some (.ref kf), y]) ∧ Keep0 σ σ4 ∧ σ4[k2]? = some (.list ((L.map Cell.av).take t)) ∧ σ4[kf]? = some (.list (F2.map .int)) ∧ F2.length ≤ j + 1 :=
        fun σ4 g4 k4 => ⟨hjt, ⟨_, rfl⟩, kp3.new k4 (fun q r => by lia), k4.get (fun q => nk q.symm) e3, g4, by rw [hstep, List.length_append]; lia⟩
      by_cases w0 : x.w = 0
      · have hc0 : codeC x = [] := by unfold codeC; rw [if_pos w0]
        rw [hc0, List.append_nil] at hstep
        have := fin σ3 (by rw [hstep]; exact f3) Keep.refl
        walk_at "xs"
        exact this
      · cases hc : x.ch with
        | nil =>
          have hc0 : codeC x = [32] := by unfold codeC; rw [if_neg w0, if_pos hc]
          rw [hc0] at hstep
          have he : x.ch.isEmpty = true := by rw [hc]; rfl
          walk_at "xs"
          refine o_nech ?_
          walk_at "xs"
          refine c_extT f3 (by rw [List.length_map, List.length_singleton]; lia) fun σ4 g4 k4 => ?_
          exact ⟨rfl, fin σ4 (by rw [g4, hstep, List.map_append]; rfl) k4⟩
        | cons a zs =>
          have hc0 : codeC x = x.ch := by unfold codeC; rw [if_neg w0, if_neg (by rw [hc]; exact List.cons_ne_nil _ _)]
          have he : x.ch.isEmpty = false := by rw [hc]; rfl
          rw [hc0] at hstep
          walk_at "xs"
          refine o_nech ?_
          walk_at "xs"
          refine c_extT f3 (by rw [List.length_map, List.length_map]; lia) fun σ4 g4 k4 => ?_
          exact ⟨rfl, fin σ4 (by rw [g4, hstep, List.map_append]) k4⟩
    · rintro lc3 σ3 ⟨_, ⟨y, rfl⟩, kp3, _, f3, _⟩
      rw [List.length_take, List.length_map, Nat.min_eq_left htn] at f3
      exact hP kf σ3 f3 kp3 nf
  cases k with
  | zero =>
    have hz' : z = 0 := hz
    subst hz'
    exact rest 0 rfl rfl
  | succ k =>
    have hx : L[k]? = some L[k] := List.getElem?_eq_getElem (by lia)
    generalize L[k] = x at hx
    have ix : idx (L.map Cell.av) (z - 1) = some x.av := idx_at (by lia) hl2 (by rw [show (z - 1).toNat = k by omega]; exact hx)
    walk_at "xs"
    refine c_isbl ?_
    rw [trimN_succ, hx, Option.any_some] at ht rest
    cases hb : isBl x with
    | false =>
      exact rest (k + 1) (if_neg (by rw [hb]; decide)) hz
    | true =>
      rw [if_pos hb] at ht
      refine ⟨k, rfl, rfl, by lia, ⟨_, rfl, by lia⟩, ht, rfl⟩
end
end Mine
end
-- part P13
section
open PySem PySem.W PySem.Calls PyProof.Rows
set_option maxRecDepth 100000
namespace Mine
section
variable {P : AV → Store → Prop} {σ : Store} {o d c : Nat} {L : List Cell} {wr : Bool}
theorem fixFirst_ch {n : Nat} {L : List Cell} (h : ∀ x ∈ L, x.ch.length ≤ n) : ∀ x ∈ fixFirst L, x.ch.length ≤ n := by
  unfold fixFirst
  intro x hx
  split at hx
  · split at hx
    · rcases List.mem_or_eq_of_mem_set hx with q | q
      · exact h x q
      · rw [q]; exact Nat.zero_le _
    · exact h x hx
  · exact h x hx
theorem fixLast_ch {n : Nat} {L : List Cell} (h : ∀ x ∈ L, x.ch.length ≤ n) : ∀ x ∈ fixLast L, x.ch.length ≤ n := by
  unfold fixLast
  intro x hx
  split at hx
  · split at hx
    · rcases List.mem_or_eq_of_mem_set hx with q | q
      · exact h x q
      · rw [q]; exact Nat.zero_le _
    · exact h x hx
  · exact h x hx
theorem lineSliceL_ch {n : Nat} {l r : Int} (h : ∀ x ∈ L, x.ch.length ≤ n) : ∀ x ∈ lineSliceL L l r, x.ch.length ≤ n := by
  unfold lineSliceL
  refine fixLast_ch (fixFirst_ch fun x hx => h x ?_)
  unfold sliceG at hx
  exact List.mem_of_mem_drop (List.mem_of_mem_take hx)
theorem lineSliceL_le {l r : Int} : (lineSliceL L l r).length ≤ L.length := by
  rw [lineSliceL_length]; exact sliceG_length
theorem x_defm {n k : Nat} {fill : List AV → List AV} {X : XS} {args l : List AV} {σ : Store} {P : AV → Store → Prop} (e : fill args = l) (h1 : eqL n l = true) (h : X.wp (l.map some ++ List.replicate k none) σ fun fl _ σ' => P (flV fl) σ') : W (defM n k fill X.m args σ) P := by subst e; exact d_m (eqL_eq h1) (X.ok h)
theorem L_codes_ {l r : Int} (A : LineAt σ o d c L wr) (hl : L.length ≤ 50) (hch : ∀ x ∈ L, x.ch.length ≤ 1)
    (hP : ∀ k σ2, σ2[k]? = some (.list ((lineCodes (lineSliceL L l r)).map .int)) → Keep0 σ σ2 → σ.length ≤ k → P (.ref k) σ2) : W (F_L_codes [.ref o, .int l, .int r] σ) P := by
  obtain ⟨ho, hd, hc⟩ := id A
  refine x_defm (X := xm_L_codes) (l := [.ref o, .int l, .int r]) rfl rfl ?_
  walk_at "xs"
  refine CallR.mk (line_slice_ hc (by lia) fun k1 σ1 h1 kp1 n1 => ?_)
  exact CallR.mk (line_codes_ h1 (Nat.le_trans lineSliceL_le hl) (lineSliceL_ch hch) fun k2 σ2 h2 kp2 n2 => hP k2 σ2 h2 (kp1.tr kp2) (by have := kp1.1; lia))
theorem L_codes_all (A : LineAt σ o d c L wr) (hl : L.length ≤ 50) (hch : ∀ x ∈ L, x.ch.length ≤ 1)
    (hP : ∀ k σ2, σ2[k]? = some (.list ((lineCodes (lineSliceL L 0 (L.length - 1))).map .int)) → Keep0 σ σ2 → σ.length ≤ k → P (.ref k) σ2) : W (F_L_codes [.ref o] σ) P := by
  obtain ⟨ho, hd, hc⟩ := id A
  have hl2 : L.length ≤ 1000 := by lia
  refine x_defm (X := xm_L_codes) (l := [.ref o, .int 0, .none]) rfl rfl ?_
  walk_at "xs"
  refine CallR.mk (line_slice_ hc (by omega) fun k1 σ1 h1 kp1 n1 => ?_)
  exact CallR.mk (line_codes_ h1 (Nat.le_trans lineSliceL_le hl) (lineSliceL_ch hch) fun k2 σ2 h2 kp2 n2 => hP k2 σ2 h2 (kp1.tr kp2) (by have := kp1.1; lia))
noncomputable def resizedL (L : List Cell) (n : Nat) (p : Pen) : List Cell :=
  let K := if n < L.length then lineSliceL L 0 ((n : Int) - 1) else L
  K ++ List.replicate (n - K.length) (blank p)
theorem L_resized_ {n : Nat} {p : Pen} (A : LineAt σ o d c L wr) (hl : L.length ≤ 50) (hn : n ≤ 50)
    (hP : ∀ o' d' c' σ2, LineAt σ2 o' d' c' (resizedL L n p) (wr && n == L.length) → Keep0 σ σ2 → P (.ref o') σ2) : W (F_L_resized [.ref o, .int n, p.av] σ) P := by
  have hl2 : L.length ≤ 1000 := by lia
  obtain ⟨ho, hd, hc⟩ := id A
  refine x_def (X := xm_L_resized) rfl ?_
  walk_at "xs"
  refine CallR.mk (L_copy_ A (by lia) fun o' d' c' σ1 B1 kp1 n1 n2 n3 => ?_)
  have A1 := A.keep0 kp1
  have lo := lt_of_get A.o
  have ld := lt_of_get A.d
  have lc := lt_of_get A.c
  clear A ho hd hc
  obtain ⟨bo, bd, bc⟩ := id B1
  unfold resizedL at hP
  dsimp only at hP
  generalize hK : (if n < L.length then lineSliceL L 0 ((n : Int) - 1) else L) = K at hP
  have hKl : K.length ≤ L.length := by rw [← hK]; split; exact lineSliceL_le; exact Nat.le_refl _
  have hK2 : K.length ≤ 1000 := by lia
  have e1 : ((n : Int) - K.length).toNat = n - K.length := by lia
  apply join2 (Q := fun c2 σ2 => LineAt σ2 o' d' c2 K wr ∧ LineAt σ2 o d c L wr ∧ Keep0 σ σ2)
  · intro tail
    by_cases hc : n < L.length
    · rw [if_pos hc] at hK
      walk_at "xs"
      refine CallR.mk (line_slice_ bc (by omega) fun k σ2 h2 kp2 nk => ?_)
      rw [hK] at h2
      have bo2 := kp2.get0 bo
      have bd2 := kp2.get0 bd
      walk_at "xs"
      intro σ3 h3 kp3
      exact tail k σ3 ⟨⟨kp3.get (by rintro rfl; rw [bo2] at bd2; cases bd2) bo2, h3, kp3.get (by rintro rfl; rw [bd2] at h2; cases h2) h2⟩, (A1.keep0 kp2).keep kp3 (by lia) (by lia) (by lia), (kp1.tr kp2).new kp3 fun j q => by lia⟩
    · rw [if_neg hc] at hK
      rw [← hK] at tail
      have := tail c' σ1 ⟨B1, A1, kp1⟩
      repeat (first | exact this | walk_at "x1")
  intro c2 σ2 ⟨B2, A2, kp2⟩
  clear bo bd bc B1 A1
  obtain ⟨bo, bd, bc⟩ := id B2
  walk_at "xs"
  refine CallR.mk (line_blanks_ (by lia) fun k σ3 h3 kp3 nk => ?_)
  rw [e1] at h3
  have bc3 := kp3.get0 bc
  have bo3 := kp3.get0 bo
  have bd3 := kp3.get0 bd
  have A3 := A2.keep0 kp3
  clear bo bd bc A2
  have hs : (K.map Cell.av).length + ((List.replicate (n - K.length) (blank p)).map Cell.av).length ≤ 1000 := by rw [List.length_map, List.length_map, List.length_replicate]; lia
  walk_at "xs"
  intro k4 σ4 h4 kp4 n4
  rw [← List.map_append] at h4
  have bo4 := kp4.get0 bo3
  have bd4 := kp4.get0 bd3
  have A4 := A3.keep0 kp4
  clear bo3 bd3 bc3 A3 h3
  walk_at "xs"
  intro σ5 h5 kp5
  have B5 : LineAt σ5 o' d' k4 (K ++ List.replicate (n - K.length) (blank p)) wr := ⟨kp5.get (by rintro rfl; rw [bo4] at bd4; cases bd4) bo4, h5, kp5.get (by rintro rfl; rw [bd4] at h4; cases h4) h4⟩
  have A5 := A4.keep kp5 (by lia) (by lia) (by lia)
  have kk := (kp2.tr (kp3.tr kp4)).new kp5 fun j q => by lia
  obtain ⟨bo, bd, bc⟩ := id B5
  obtain ⟨ho, hd, hc⟩ := id A5
  have e2 : ((n : Int) == (L.length : Int)) = (n == L.length) := by
    by_cases q : n = L.length
    · rw [beq_iff_eq.mpr q, beq_iff_eq.mpr (congrArg _ q)]
    · have : ¬ (n : Int) = L.length := by lia
      rw [beq_eq_false_iff_ne.mpr this, beq_eq_false_iff_ne.mpr q]
  have fin : ∀ b, b = (wr && n == L.length) → UpdO σ5 d' (.ns (nsL k4 b)) fun σ6 => P (.ref o') σ6 := by
    rintro b rfl σ6 h6 kp6
    exact hP o' d' k4 σ6 ⟨kp6.get (by rintro rfl; rw [bo] at bd; cases bd) bo, h6, kp6.get (by rintro rfl; rw [bd] at bc; cases bc) bc⟩ (kk.new kp6 fun j q => by lia)
  cases wr with
  | false =>
    walk_at "xs"
    exact fin false rfl
  | true =>
    walk_at "xs"
    exact fin _ e2
end
end Mine
end
-- part P14
section
open PySem PySem.W PySem.Calls PyProof.Rows
set_option maxRecDepth 100000
namespace Mine
noncomputable def kvD (dc : Nat) (m : Int) : List (Str × AV) := [("cells", .ref dc), ("mixed", .int m)]
noncomputable def kvW (n : Int) (b : Bool) : List (Str × AV) := [("signs", .int n), ("is_right", .bool b)]
theorem kvD_cells {dc m} : (kvD dc m).lookup ("cells" : Str) = some (.ref dc) := rfl
theorem kvD_mixed {dc m} : (kvD dc m).lookup ("mixed" : Str) = some (.int m) := rfl
theorem kvD_put {dc m v} : putKV (kvD dc m) ("mixed" : Str) (.int v) = kvD dc v := rfl
theorem kvD_len {dc m} : (kvD dc m).length = 2 := rfl
theorem kvW_signs {n b} : (kvW n b).lookup ("signs" : Str) = some (.int n) := rfl
theorem kvW_right {n b} : (kvW n b).lookup ("is_right" : Str) = some (.bool b) := rfl
theorem kvW_put {n b v} : putKV (kvW n b) ("signs" : Str) (.int v) = kvW v b := rfl
theorem kvW_put2 {n b v} : putKV (kvW n b) ("is_right" : Str) (.bool v) = kvW n v := rfl
theorem kvW_len {n b} : (kvW n b).length = 2 := rfl
structure DeckAt (σ : Store) (dk dc : Nat) : Prop where
  ex : ∃ (l : List Int) (m : Int), σ[dk]? = some (.dict (kvD dc m)) ∧ σ[dc]? = some (.list (l.map .int)) ∧ l.length ≤ 40
structure WAt (σ : Store) (wk : Nat) (n : Int) (b : Bool) : Prop where
  w : σ[wk]? = some (.dict (kvW n b))
theorem DeckAt.keep {σ σ' : Store} {dk dc : Nat} {m : Nat → Prop} (D : DeckAt σ dk dc) (k : Keep m σ σ') (h1 : ¬ m dk) (h2 : ¬ m dc) : DeckAt σ' dk dc := by
  obtain ⟨l, n, a, b, c⟩ := D
  exact ⟨l, n, k.get h1 a, k.get h2 b, c⟩
theorem WAt.keep {σ σ' : Store} {wk : Nat} {n : Int} {b : Bool} {m : Nat → Prop} (D : WAt σ wk n b) (k : Keep m σ σ') (h1 : ¬ m wk) : WAt σ' wk n b := ⟨k.get h1 D.w⟩
theorem DeckAt.ne {σ : Store} {dk dc : Nat} (D : DeckAt σ dk dc) : dk ≠ dc := by
  obtain ⟨l, n, a, b, c⟩ := D
  rintro rfl; rw [a] at b; cases b
section
variable {P : AV → Store → Prop} {σ : Store} {dk dc wk : Nat}
theorem o_nei {a b : Nat} {L : List Int} (h : σ[a]? = some (.list (L.map .int))) (hb : σ[b]? = some (.list [])) (hP : P (.bool (!L.isEmpty)) σ) : OpR neA (.ref a) (.ref b) σ P := OpR.mk (ne_ints_nil h hb hP)
theorem c_pop {i : Nat} {l x} (h1 : σ[i]? = some (.list l)) (h2 : l.length ≤ 1000) (h3 : l.getLast? = some x) (h : UpdO σ i (.list l.dropLast) (P x)) : CallR fPop [.ref i] σ P := CallR.mk (pop_r h1 h2 h3 (Upd.intro (lt_of_get h1) h))
theorem draw_ {many : Int} (D : DeckAt σ dk dc) (hm : 0 < many) (hP : ∀ x σ2, 0 ≤ x → x < many → DeckAt σ2 dk dc → Keep (fun j => j = dk ∨ j = dc) σ σ2 → P (.int x) σ2) : W (F_law_draw [.ref dk, .int many] σ) P := by
  have ne := D.ne
  obtain ⟨l, m, h1, h2, hl⟩ := D
  have hm0 : many ≠ 0 := by lia
  have key : ∀ a : Int, 0 ≤ a.fmod many ∧ a.fmod many < many := fun a => ⟨Int.fmod_nonneg_of_pos a hm, Int.fmod_lt_of_pos a hm⟩
  refine x_def (X := xm_law_draw) rfl ?_
  walk_at "xs"
  intro k1 σ1 e1 kp1 n1
  have h1' := kp1.get0 h1
  have h2' := kp1.get0 h2
  refine o_nei h2' e1 ?_
  cases hn : l.isEmpty with
  | true =>
    have s1 : small 16807 = true := by decide
    have s2 : (2147483647 : Int) ≠ 0 := by decide
    walk_at "xs"
    intro σ2 h3 kp2
    walk_at "xs"
    exact hP _ σ2 (key _).1 (key _).2 ⟨l, _, h3, kp2.get ne.symm h2', hl⟩ ((kp1.up).tr (kp2.weak fun _ _ h => .inl h))
  | false =>
    have hne : l ≠ [] := by rintro rfl; cases hn
    obtain ⟨z, hz⟩ : ∃ z, l.getLast? = some z := by
      cases q : l.getLast? with
      | none => rw [List.getLast?_eq_none_iff] at q; exact absurd q hne
      | some z => exact ⟨z, rfl⟩
    walk_at "xs"
    refine c_pop (x := .int z) h2' (by rw [List.length_map]; lia) (by rw [List.getLast?_map, hz]; rfl) fun σ2 h3 kp2 => ?_
    walk_at "xs"
    refine hP _ σ2 (key _).1 (key _).2 ⟨l.dropLast, m, kp2.get ne h1', by rw [h3, List.map_dropLast], by rw [List.length_dropLast]; omega⟩ ((kp1.up).tr (kp2.weak fun _ _ h => .inr h))
noncomputable def P0 : Pen := ⟨0, -1, -1, -1, 0⟩
noncomputable def P1 : Pen := ⟨1, 2, 4, -1, 0⟩
theorem pens_get {x : Int} (h0 : 0 ≤ x) (h1 : x < 2) : idx [pen0, pen1] x = some (if x = 0 then P0 else P1).av := by
  have : x = 0 ∨ x = 1 := by lia
  rcases this with rfl | rfl <;> rfl
noncomputable def signL (c : Cell) (id : Int) : List LCell := ⟨c, id⟩ :: if c.w = 2 then [⟨⟨[], 0, c.pen, c.g⟩, id⟩] else []
theorem sign_ {n : Int} {b : Bool} (D : DeckAt σ dk dc) (hw : WAt σ wk n b) (ne1 : wk ≠ dk) (ne2 : wk ≠ dc)
    (hP : ∀ k c σ2, (c.w = 1 ∨ c.w = 2) → (∃ z, c.ch = [z] ∧ z ≠ 32) → σ2[k]? = some (.list ((signL c (n + 1)).map LCell.av)) → DeckAt σ2 dk dc → WAt σ2 wk (n + 1) b → Keep (fun j => j = dk ∨ j = dc ∨ j = wk) σ σ2 → σ.length ≤ k → P (.ref k) σ2) :
    W (F_law_sign [.ref dk, .ref wk] σ) P := by
  obtain ⟨hw⟩ := hw
  refine x_def (X := xm_law_sign) rfl ?_
  walk_at "xs"
  intro σ1 w1 kp1
  have D1 := D.keep kp1 ne1.symm ne2.symm
  refine CallR.mk (draw_ D1 (by decide) fun x1 σ2 a1 a2 D2 kp2 => ?_)
  have w2 := kp2.get (by lia) w1
  have ix := pens_get a1 a2
  generalize (if x1 = 0 then P0 else P1) = p at ix
  clear w1 D D1 hw
  walk_at "xs"
  refine CallR.mk (draw_ D2 (by decide) fun x2 σ3 b1 b2 D3 kp3 => ?_)
  have w3 := kp3.get (by lia) w2
  clear w2 D2
  walk_at "xs"
  refine CallR.mk (draw_ D3 (by decide) fun x3 σ4 c1 c2 D4 kp4 => ?_)
  have w4 := kp4.get (by lia) w3
  clear w3 D3
  walk_at "xs"
  refine CallR.mk (draw_ D4 (by decide) fun x4 σ5 d1 d2 D5 kp5 => ?_)
  have w5 := kp5.get (by lia) w4
  clear w4 D4
  walk_at "xs"
  intro k1 σ6 e1 kp6 n1
  have w6 := kp6.get0 w5
  have D6 := D5.keep kp6 (fun h => h) fun h => h
  clear w5 D5
  walk_at "xs"
  intro k2 σ7 e2 kp7 n2
  have e17 := kp7.get0 e1
  have w7 := kp7.get0 w6
  have D7 := D6.keep kp7 (fun h => h) fun h => h
  clear w6 D6 e1
  refine MulR.mk e2 ⟨Nat.le_of_ble_eq_true rfl, by lia, by lia⟩ fun k3 σ8 e3 kp8 n3 => ?_
  have e18 := kp8.get0 e17
  have w8 := kp8.get0 w7
  have D8 := D7.keep kp8 (fun h => h) fun h => h
  clear w7 D7 e17 e2
  rw [flat_one] at e3
  refine AddR.mk e18 e3 (by rw [List.length_replicate, List.length_singleton]; lia) fun k4 σ9 e4 kp9 n4 => ?_
  have l1 := kp1.1
  have l2 := kp2.1
  have l3 := kp3.1
  have l4 := kp4.1
  have l5 := kp5.1
  have l6 := kp6.1
  have l7 := kp7.1
  have l8 := kp8.1
  refine hP k4 ⟨[97 + x3], 1 + x2, p, x4 == 3⟩ σ9 (by show 1 + x2 = 1 ∨ 1 + x2 = 2; lia) ⟨97 + x3, rfl, by lia⟩ ?_ (D8.keep kp9 (fun h => h) fun h => h) ⟨kp9.get0 w8⟩ ?_ (by lia)
  · rw [e4]
    have : x2 = 0 ∨ x2 = 1 := by lia
    rcases this with rfl | rfl <;> rfl
  · have w : ∀ {σa σb : Store}, Keep (fun j => j = dk ∨ j = dc) σa σb → Keep (fun j => j = dk ∨ j = dc ∨ j = wk) σa σb := fun k => k.weak fun _ _ h => h.elim .inl fun h => .inr (.inl h)
    exact ((((kp1.weak fun _ _ h => .inr (.inr h)).tr (w kp2)).tr (w kp3)).tr ((w kp4).tr (w kp5))).tr ((kp6.up.tr kp7.up).tr (kp8.up.tr kp9.up))
end
end Mine
end
-- part P15
section
open PySem PySem.W PySem.Calls PyProof.Rows
set_option maxRecDepth 100000
namespace Mine
theorem isNone_l {c : LCell} : isNone c.av = false := rfl
theorem isNone_n : isNone .none = true := rfl
noncomputable def avO : Option LCell → AV
  | none => .none
  | some c => c.av
section
variable {P : AV → Store → Prop} {σ : Store}
theorem enum_items {k : Nat} {l : List AV} (h : σ[k]? = some (.list l)) (hl : l.length ≤ 1000) : (Src.enum k).items σ = some (l.mapIdx fun i d => .tup [.int i, d]) := by
  simp only [Src.items, h]
  rw [if_pos hl]
theorem enum_get {f : LCell → AV} {M : List LCell} {i : Nat} {d : AV} (h : ((M.map f).mapIdx fun i d => AV.tup [.int i, d])[i]? = some d) : ∃ c, M[i]? = some c ∧ d = .tup [.int i, f c] := by
  rw [List.getElem?_mapIdx, List.getElem?_map] at h
  cases q : M[i]? with
  | none => rw [q] at h; cases h
  | some c => rw [q] at h; cases h; exact ⟨c, rfl, rfl⟩
theorem c_append {i : Nat} {x : AV} {l} (h1 : σ[i]? = some (.list l)) (h2 : l.length ≤ 1000) (h : UpdO σ i (.list (l ++ [x])) (P .none)) : CallR fAppend [.ref i, x] σ P := CallR.mk (append_r h1 h2 (Upd.intro (lt_of_get h1) h))
noncomputable def xe_left : XE AV := xAnd (xBin oEq (xGet (xLoc 3) (xVal (.int 1))) (xVal (.int 2))) (xOr (xBin oIs (xLoc 5) (xVal .none)) (xOr (xBin oNe (xGet (xLoc 5) (xVal (.int 1))) (xVal (.int 0))) (xBin oNe (xGet (xLoc 5) (xVal (.int 4))) (xGet (xLoc 3) (xVal (.int 4))))))
noncomputable def xe_right : XE AV := xAnd (xBin oEq (xGet (xLoc 3) (xVal (.int 1))) (xVal (.int 0))) (xOr (xBin oIs (xLoc 4) (xVal .none)) (xOr (xBin oNe (xGet (xLoc 4) (xVal (.int 1))) (xVal (.int 2))) (xBin oNe (xGet (xLoc 4) (xVal (.int 4))) (xGet (xLoc 3) (xVal (.int 4))))))
noncomputable def xr_mtail : XS := xsCons (xsExpr (xMethL fAppend (xLoc 1) (xaCons (xIf (xbOr (xbOf (xLoc 6)) (xbOr (xbOf (xLoc 7)) (xbVal false))) (xCall F_law_blank (xaCons (xGet (xLoc 3) (xVal (.int 2))) xaNil)) (xLoc 3)) xaNil))) xsNil
noncomputable def xr_mend : XS := xsCons (xsAsg xe_left (xtLoc 6)) (xsCons (xsAsg xe_right (xtLoc 7)) xr_mtail)
theorem is_left_ {c : LCell} {far : Option LCell} {a0 a1 a2 a4 a6 a7 : Option AV} (hQ : P (.bool (c.cell.w == 2 && !mR c far)) σ) :
    xe_left.wp [a0, a1, a2, some c.av, a4, some (avO far), a6, a7] σ P := by
  by_cases w : c.cell.w = 2
  · rw [t_eq w, Bool.true_and] at hQ
    cases far with
    | none =>
      walk_at "xs"
      exact hQ
    | some f =>
      by_cases w0 : f.cell.w = 0
      · rw [show mR c (some f) = (f.id == c.id) by show (f.cell.w == 0 && f.id == c.id) = _; rw [t_eq w0, Bool.true_and]] at hQ
        walk_at "xs"
        exact hQ
      · rw [show mR c (some f) = false by show (f.cell.w == 0 && f.id == c.id) = _; rw [t_ne w0, Bool.false_and]] at hQ
        walk_at "xs"
        show P (.bool (!(f.cell.w == 0))) σ
        rw [t_ne w0]
        exact hQ
  · rw [t_ne w, Bool.false_and] at hQ
    walk_at "xs"
    show P (.bool (c.cell.w == 2)) σ
    rw [t_ne w]
    exact hQ
theorem is_right_ {c : LCell} {near : Option LCell} {a0 a1 a2 a5 a6 a7 : Option AV} (hQ : P (.bool (c.cell.w == 0 && !mL c near)) σ) :
    xe_right.wp [a0, a1, a2, some c.av, some (avO near), a5, a6, a7] σ P := by
  by_cases w : c.cell.w = 0
  · rw [t_eq w, Bool.true_and] at hQ
    cases near with
    | none =>
      walk_at "xs"
      exact hQ
    | some f =>
      by_cases w0 : f.cell.w = 2
      · rw [show mL c (some f) = (f.id == c.id) by show (f.cell.w == 2 && f.id == c.id) = _; rw [t_eq w0, Bool.true_and]] at hQ
        walk_at "xs"
        exact hQ
      · rw [show mL c (some f) = false by show (f.cell.w == 2 && f.id == c.id) = _; rw [t_ne w0, Bool.false_and]] at hQ
        walk_at "xs"
        show P (.bool (!(f.cell.w == 2))) σ
        rw [t_ne w0]
        exact hQ
  · rw [t_ne w, Bool.false_and] at hQ
    walk_at "xs"
    show P (.bool (c.cell.w == 0)) σ
    rw [t_ne w]
    exact hQ
theorem mended_ {i : Nat} {M : List LCell} (h : σ[i]? = some (.list (M.map LCell.av))) (hl : M.length ≤ 400)
    (hP : ∀ k σ2, σ2[k]? = some (.list ((mend M).map LCell.av)) → Keep0 σ σ2 → σ.length ≤ k → P (.ref k) σ2) : W (F_law_mended [.ref i] σ) P := by
  have hl2 : M.length ≤ 1000 := by lia
  refine x_def (X := xm_law_mended) rfl ?_
  refine fun kf σ1 ef kp1 nf => ?_
  have h1 := kp1.get0 h
  walk_at "xs"
  have it : ∀ σ3, σ3[i]? = some (AO.list (M.map LCell.av)) → (Src.enum i).items σ3 = some ((M.map LCell.av).mapIdx fun i d => .tup [.int i, d]) := fun σ3 q => enum_items q (by rw [List.length_map]; exact hl2)
  refine x_for ((M.map LCell.av).mapIdx fun i d => .tup [.int i, d]) (fun j lc3 σ3 => (∃ a2 a3 a4 a5 a6 a7, lc3 = [some (.ref i), some (.ref kf), a2, a3, a4, a5, a6, a7]) ∧ Keep0 σ σ3 ∧ σ3[i]? = some (.list (M.map LCell.av)) ∧ σ3[kf]? = some (.list (((mend M).take j).map LCell.av))) rfl ?_ (fun _ _ _ q => it _ q.2.2.1) ?_ ?_
  · exact ⟨⟨_, _, _, _, _, _, rfl⟩, kp1, h1, ef⟩
  · rintro j dd lc3 σ3 hdd ⟨⟨a2, a3, a4, a5, a6, a7, rfl⟩, kp3, e3, f3⟩
    obtain ⟨c, hc, rfl⟩ := enum_get hdd
    have hj := (List.getElem?_eq_some_iff.mp hc).1
    have rest : ∀ near far, near = prev M j → far = M[j + 1]? → xr_mend.wp [some (.ref i), some (.ref kf), some (.int j), some c.av, some (avO near), some (avO far), a6, a7] σ3 fun fl lc2 σ2 => fl = .next ∧ (∃ a2 a3 a4 a5 a6 a7, lc2 = [some (.ref i), some (.ref kf), a2, a3, a4, a5, a6, a7]) ∧ Keep0 σ σ2 ∧ σ2[i]? = some (.list (M.map LCell.av)) ∧ σ2[kf]? = some (.list (((mend M).take (j + 1)).map LCell.av)) := by
      rintro near far hn hf
      refine is_left_ ?_
      refine is_right_ ?_
      rw [hn, hf]
      generalize hB1 : (c.cell.w == 2 && !mR c M[j + 1]?) = b1
      generalize hB2 : (c.cell.w == 0 && !mL c (prev M j)) = b2
      have hm : mendAt (prev M j) M[j + 1]? c = if (b1 || b2) = true then lblank c.cell.pen else c := by unfold mendAt orph; rw [hB1, hB2]
      have hmj : (mend M)[j]? = some (mendAt (prev M j) M[j + 1]? c) := by rw [mend_get, hc]; rfl
      have hstep : ((mend M).take (j + 1)).map LCell.av = ((mend M).take j).map LCell.av ++ [(mendAt (prev M j) M[j + 1]? c).av] := by
        rw [List.take_add_one, hmj, List.map_append]; rfl
      have hFl : (((mend M).take j).map LCell.av).length ≤ 1000 := by rw [List.length_map, List.length_take, mend_length]; lia
      have nk : i ≠ kf := by have := lt_of_get h; lia
      rw [hm] at hstep
      have fin : ∀ x : AV, ((mend M).take (j + 1)).map LCell.av = ((mend M).take j).map LCell.av ++ [x] → UpdO σ3 kf (.list (((mend M).take j).map LCell.av ++ [x])) fun σ2 => (∃ a2 a3 a4 a5 a6 a7, [some (.ref i), some (.ref kf), some (.int j), some c.av, some (avO (prev M j)), some (avO M[j + 1]?), some (.bool b1), some (.bool b2)] = [some (.ref i), some (.ref kf), a2, a3, a4, a5, a6, a7]) ∧ Keep0 σ σ2 ∧ σ2[i]? = some (.list (M.map LCell.av)) ∧ σ2[kf]? = some (.list (((mend M).take (j + 1)).map LCell.av)) :=
        fun x hx σ4 g4 k4 => ⟨⟨_, _, _, _, _, _, rfl⟩, kp3.new k4 (fun q r => by lia), k4.get nk e3, by rw [g4, hx]⟩
      clear hP it hdd hB1 hB2 hm hmj
      cases b1 with
      | true =>
        walk_at "xs"
        refine c_lblank ?_
        exact c_append f3 hFl fun σ4 g4 k4 => ⟨rfl, fin _ hstep σ4 g4 k4⟩
      | false =>
        cases b2 with
        | true =>
          walk_at "xs"
          refine c_lblank ?_
          exact c_append f3 hFl fun σ4 g4 k4 => ⟨rfl, fin _ hstep σ4 g4 k4⟩
        | false =>
          walk_at "xs"
          exact c_append f3 hFl fun σ4 g4 k4 => ⟨rfl, fin _ hstep σ4 g4 k4⟩
    have far : M[j + 1]? = none ∧ ¬ ((j : Int) + 1 < M.length) ∨ ∃ f, M[j + 1]? = some f ∧ (j : Int) + 1 < M.length ∧ idx (M.map LCell.av) ((j : Int) + 1) = some f.av := by
      cases q : M[j + 1]? with
      | none => exact .inl ⟨rfl, by have := List.getElem?_eq_none_iff.mp q; lia⟩
      | some f => exact .inr ⟨f, rfl, by have := (List.getElem?_eq_some_iff.mp q).1; lia, idx_at (by lia) hl2 q⟩
    have near : prev M j = none ∧ ¬ (0 : Int) < j ∨ ∃ b, prev M j = some b ∧ (0 : Int) < j ∧ idx (M.map LCell.av) ((j : Int) - 1) = some b.av := by
      cases j with
      | zero => exact .inl ⟨rfl, by decide⟩
      | succ j =>
        obtain ⟨b, hb⟩ : ∃ b, M[j]? = some b := ⟨_, List.getElem?_eq_getElem (by lia)⟩
        exact .inr ⟨b, by unfold prev; rw [if_neg (by lia), Nat.add_sub_cancel, hb], by lia, idx_at (by lia) hl2 (by rw [show (((j + 1 : Nat) : Int) - 1).toNat = j by lia]; exact hb)⟩
    clear hdd hc hP it
    rcases near with ⟨n1, n2⟩ | ⟨b, n1, n2, n3⟩
    · rcases far with ⟨f1, f2⟩ | ⟨f, f1, f2, f3'⟩
      · have := rest none none n1.symm f1.symm
        repeat (first | exact this | walk_at "x1")
      · have := rest none (some f) n1.symm f1.symm
        repeat (first | exact this | walk_at "x1")
    · rcases far with ⟨f1, f2⟩ | ⟨f, f1, f2, f3'⟩
      · have := rest (some b) none n1.symm f1.symm
        repeat (first | exact this | walk_at "x1")
      · have := rest (some b) (some f) n1.symm f1.symm
        repeat (first | exact this | walk_at "x1")
  · rintro lc3 σ3 ⟨⟨a2, a3, a4, a5, a6, a7, rfl⟩, kp3, _, f3⟩
    rw [List.length_mapIdx, List.length_map, List.take_of_length_le (by rw [mend_length]; exact Nat.le_refl _)] at f3
    exact hP kf σ3 f3 kp3 nf
end
end Mine
end
-- part P16
section
open PySem PySem.W PySem.Calls PyProof.Rows
set_option maxRecDepth 100000
namespace Mine
noncomputable def laidK (M : List LCell) (col : Nat) (X : List LCell) : Nat → List LCell
  | 0 => M
  | j + 1 => match X[j]? with
    | some x => if col + j < M.length then (laidK M col X j).set (col + j) x else laidK M col X j
    | none => laidK M col X j
theorem laidK_length {M : List LCell} {col : Nat} {X : List LCell} : ∀ {j : Nat}, (laidK M col X j).length = M.length
  | 0 => rfl
  | j + 1 => by
    unfold laidK
    split
    · split
      · rw [List.length_set, laidK_length]
      · exact laidK_length
    · exact laidK_length
noncomputable def eM (sel : Bool) (p : Pen) (l r : Nat) (M : List LCell) : List LCell := M.mapIdx fun i c => if (l ≤ i ∧ i ≤ r) ∧ keepG sel c.cell = false then lblank p else c
theorem eM_length {sel p l r} {M : List LCell} : (eM sel p l r M).length = M.length := by simp [eM]
theorem eM_get {sel p l r} {M : List LCell} {i : Nat} : (eM sel p l r M)[i]? = M[i]?.map fun c => if (l ≤ i ∧ i ≤ r) ∧ keepG sel c.cell = false then lblank p else c := by simp [eM, List.getElem?_mapIdx]
section
variable {P : AV → Store → Prop} {σ : Store}
theorem laid_ {mi si col : Nat} {M X : List LCell} (h : σ[mi]? = some (.list (M.map LCell.av))) (hx : σ[si]? = some (.list (X.map LCell.av))) (hl : M.length ≤ 400) (hl' : X.length ≤ 400)
    (hP : ∀ k σ2, σ2[k]? = some (.list ((mend (laidK M col X X.length)).map LCell.av)) → Keep0 σ σ2 → σ.length ≤ k → P (.ref k) σ2) : W (F_law_laid [.ref mi, .int col, .ref si] σ) P := by
  have hl2 : M.length ≤ 1000 := by lia
  refine x_def (X := xm_law_laid) rfl ?_
  refine c_list h (by rw [List.length_map]; exact hl2) fun kf σ1 ef kp1 nf => ?_
  have hx1 := kp1.get0 hx
  have nk : si ≠ kf := by have := lt_of_get hx; lia
  walk_at "xs"
  have it : ∀ σ3, σ3[si]? = some (AO.list (X.map LCell.av)) → (Src.enum si).items σ3 = some ((X.map LCell.av).mapIdx fun i d => .tup [.int i, d]) := fun σ3 q => enum_items q (by rw [List.length_map]; lia)
  refine x_for ((X.map LCell.av).mapIdx fun i d => .tup [.int i, d]) (fun j lc3 σ3 => (∃ a2 a3, lc3 = [some (.ref mi), some (.int col), some (.ref si), some (.ref kf), a2, a3]) ∧ Keep0 σ σ3 ∧ σ3[si]? = some (.list (X.map LCell.av)) ∧ σ3[kf]? = some (.list ((laidK M col X j).map LCell.av))) rfl ?_ (fun _ _ _ q => it _ q.2.2.1) ?_ ?_
  · exact ⟨⟨_, _, rfl⟩, kp1, hx1, ef⟩
  · rintro j dd lc3 σ3 hdd ⟨⟨a2, a3, rfl⟩, kp3, e3, f3⟩
    obtain ⟨x, hc, rfl⟩ := enum_get hdd
    have hlen : (laidK M col X j).length = M.length := laidK_length
    have hL1 : (laidK M col X j).length ≤ 1000 := by lia
    have hstep : laidK M col X (j + 1) = if col + j < M.length then (laidK M col X j).set (col + j) x else laidK M col X j := by
      show (match X[j]? with | some x => _ | none => _) = _
      rw [hc]
    clear hdd it hP
    by_cases hlt : col + j < M.length
    · rw [if_pos hlt] at hstep
      have nx : idxN ((laidK M col X j).map LCell.av) ((col : Int) + j) = some (col + j) := by
        rw [idxN_at (by lia) (by rw [List.length_map]; exact hL1) (by rw [List.length_map, hlen]; lia)]; congr 1
      walk_at "xs"
      intro σ4 g4 k4
      exact ⟨rfl, ⟨_, _, rfl⟩, kp3.new k4 (fun q r => by lia), k4.get nk e3, by rw [g4, hstep, List.map_set]⟩
    · rw [if_neg hlt] at hstep
      walk_at "xs"
      exact ⟨⟨_, _, rfl⟩, kp3, e3, by rw [hstep]; exact f3⟩
  · rintro lc3 σ3 ⟨⟨a2, a3, rfl⟩, kp3, _, f3⟩
    rw [List.length_mapIdx, List.length_map] at f3
    exact CallR.mk (mended_ f3 (by rw [laidK_length]; exact hl) fun k σ4 h4 kp4 nk => hP k σ4 h4 (kp3.tr kp4) (by have := kp3.1; lia))
noncomputable def xr_etail : XS := xsCons (xsExpr (xMethL fAppend (xLoc 5) (xaCons (xIf (xbOf (xLoc 8)) (xLoc 7) (xCall F_law_blank (xaCons (xLoc 3) xaNil))) xaNil))) xsNil
theorem erased_ {mi l r : Nat} {p : Pen} {sel : Bool} {M : List LCell} (h : σ[mi]? = some (.list (M.map LCell.av))) (hl : M.length ≤ 400)
    (hP : ∀ k σ2, σ2[k]? = some (.list ((mend (eM sel p l r M)).map LCell.av)) → Keep0 σ σ2 → σ.length ≤ k → P (.ref k) σ2) : W (F_law_erased [.ref mi, .int l, .int r, p.av, .bool sel] σ) P := by
  have hl2 : M.length ≤ 1000 := by lia
  refine x_def (X := xm_law_erased) rfl ?_
  refine fun kf σ1 ef kp1 nf => ?_
  have h1 := kp1.get0 h
  have nk : mi ≠ kf := by have := lt_of_get h; lia
  walk_at "xs"
  have it : ∀ σ3, σ3[mi]? = some (AO.list (M.map LCell.av)) → (Src.enum mi).items σ3 = some ((M.map LCell.av).mapIdx fun i d => .tup [.int i, d]) := fun σ3 q => enum_items q (by rw [List.length_map]; omega)
  refine x_for ((M.map LCell.av).mapIdx fun i d => .tup [.int i, d]) (fun j lc3 σ3 => (∃ a2 a3 a4, lc3 = [some (.ref mi), some (.int l), some (.int r), some p.av, some (.bool sel), some (.ref kf), a2, a3, a4]) ∧ Keep0 σ σ3 ∧ σ3[mi]? = some (.list (M.map LCell.av)) ∧ σ3[kf]? = some (.list (((eM sel p l r M).take j).map LCell.av))) rfl ?_ (fun _ _ _ q => it _ q.2.2.1) ?_ ?_
  · exact ⟨⟨_, _, _, rfl⟩, kp1, h1, ef⟩
  · rintro j dd lc3 σ3 hdd ⟨⟨a2, a3, a4, rfl⟩, kp3, e3, f3⟩
    obtain ⟨x, hc, rfl⟩ := enum_get hdd
    have hj := (List.getElem?_eq_some_iff.mp hc).1
    have hstep : ((eM sel p l r M).take (j + 1)).map LCell.av = ((eM sel p l r M).take j).map LCell.av ++ [(if (l ≤ j ∧ j ≤ r) ∧ keepG sel x.cell = false then lblank p else x).av] := by
      rw [List.take_add_one, eM_get, hc, List.map_append]; rfl
    have hFl : (((eM sel p l r M).take j).map LCell.av).length ≤ 1000 := by rw [List.length_map, List.length_take, eM_length]; omega
    clear hP it hdd
    have rest : ∀ st : Bool, (if (l ≤ j ∧ j ≤ r) ∧ keepG sel x.cell = false then lblank p else x) = (if st = true then x else lblank p) → xr_etail.wp [some (.ref mi), some (.int l), some (.int r), some p.av, some (.bool sel), some (.ref kf), some (.int j), some x.av, some (.bool st)] σ3 fun fl lc2 σ2 => fl = .next ∧ (∃ a2 a3 a4, lc2 = [some (.ref mi), some (.int l), some (.int r), some p.av, some (.bool sel), some (.ref kf), a2, a3, a4]) ∧ Keep0 σ σ2 ∧ σ2[mi]? = some (.list (M.map LCell.av)) ∧ σ2[kf]? = some (.list (((eM sel p l r M).take (j + 1)).map LCell.av)) := by
      intro st hst
      rw [hst] at hstep
      have fin : ∀ y : AV, ((eM sel p l r M).take (j + 1)).map LCell.av = ((eM sel p l r M).take j).map LCell.av ++ [y] → UpdO σ3 kf (.list (((eM sel p l r M).take j).map LCell.av ++ [y])) fun σ2 => Keep0 σ σ2 ∧ σ2[mi]? = some (.list (M.map LCell.av)) ∧ σ2[kf]? = some (.list (((eM sel p l r M).take (j + 1)).map LCell.av)) :=
        fun y hy σ4 g4 k4 => ⟨kp3.new k4 (fun q r => by lia), k4.get nk e3, by rw [g4, hy]⟩
      cases st with
      | true =>
        walk_at "xs"
        exact c_append f3 hFl fun σ4 g4 k4 => ⟨rfl, ⟨_, _, _, rfl⟩, fin _ hstep σ4 g4 k4⟩
      | false =>
        walk_at "xs"
        refine c_lblank ?_
        exact c_append f3 hFl fun σ4 g4 k4 => ⟨rfl, ⟨_, _, _, rfl⟩, fin _ hstep σ4 g4 k4⟩
    by_cases q1 : l ≤ j
    · by_cases q2 : j ≤ r
      · cases sel with
        | true =>
          have := rest x.cell.g (by
            cases hg : x.cell.g with
            | true => exact if_neg (by rw [show keepG true x.cell = x.cell.g from rfl, hg]; rintro ⟨_, q⟩; cases q)
            | false => exact if_pos ⟨⟨q1, q2⟩, hg⟩)
          repeat (first | exact this | walk_at "x1")
        | false =>
          have := rest false (if_pos ⟨⟨q1, q2⟩, rfl⟩)
          repeat (first | exact this | walk_at "x1")
      · have := rest (!decide ((j : Int) ≤ r)) (by rw [t_nlt (by lia)]; exact if_neg fun q => q2 q.1.2)
        repeat (first | exact this | walk_at "x1")
    · have := rest (!decide ((l : Int) ≤ j)) (by rw [t_nlt (by lia)]; exact if_neg fun q => q1 q.1.1)
      repeat (first | exact this | walk_at "x1")
  · rintro lc3 σ3 ⟨⟨a2, a3, a4, rfl⟩, kp3, _, f3⟩
    rw [List.length_mapIdx, List.length_map, List.take_of_length_le (by rw [eM_length]; exact Nat.le_refl _)] at f3
    exact CallR.mk (mended_ f3 (by rw [eM_length]; exact hl) fun k σ4 h4 kp4 nk => hP k σ4 h4 (kp3.tr kp4) (by have := kp3.1; lia))
end
end Mine
end
-- part P17
section
open PySem PySem.W PySem.Calls PyProof.Rows
set_option maxRecDepth 100000
namespace Mine
theorem XE.okm {α : Type} {X : XE α} {m : Lc → Store → Option (α × Store)} {lc σ P} (e : X.m = m) (h : X.wp lc σ P) : W (m lc σ) P := by subst e; exact X.ok h
theorem W_eq {β : Type} {o : Option (β × Store)} {v : β} {σ : Store} (h : W o fun r σ' => r = v ∧ σ' = σ) : o = some (v, σ) := by
  obtain ⟨r, σ', e, rfl, rfl⟩ := h; exact e
theorem comp_goF {α : Type} {f : α → AV} {X : List α} {src : Src} {k : Nat} {mt : BM} {me : EM} {fs : List (Str × Nat)} {lc : Lc} {g : α → AV} {p : α → Bool} {σ0 : Store} (hk : σ0.length ≤ k)
    (hsrc : ∀ σ2, Keep0 σ0 σ2 → src.items σ2 = some (X.map f))
    (ht : ∀ d ∈ X, ∀ σ2, Keep0 σ0 σ2 → W (mt (lcIn fs lc (f d)) σ2) fun b σ3 => b = p d ∧ σ3 = σ2) (he : ∀ d ∈ X, p d = true → ∀ σ2, Keep0 σ0 σ2 → W (me (lcIn fs lc (f d)) σ2) fun v σ3 => v = g d ∧ σ3 = σ2) :
    ∀ (rest : List α) (done : List AV) (σ2 : Store), (∀ d ∈ rest, d ∈ X) → done.length + rest.length ≤ 1000 → Keep0 σ0 σ2 → σ2[k]? = some (.list done) → ∃ σ', compM src (X.map f) k mt me fs lc (rest.map f) σ2 = some σ' ∧ Keep0 σ0 σ' ∧ σ'[k]? = some (.list (done ++ (rest.filter p).map g)) := by
  intro rest
  induction rest with
  | nil =>
    intro done σ2 _ _ kp hd
    exact ⟨σ2, by show compM src (X.map f) k mt me fs lc [] σ2 = _; unfold compM; rw [if_pos (hsrc _ kp)], kp, by simpa using hd⟩
  | cons d ds ih =>
    intro done σ2 hm hl kp hd
    have hl : done.length + (ds.length + 1) ≤ 1000 := by simpa using hl
    have hd0 : d ∈ X := hm d (by simp)
    rw [List.map_cons]
    unfold compM
    rw [if_pos (hsrc _ kp), W_eq (ht d hd0 σ2 kp)]
    simp only [Option.bind_some]
    cases hp : p d with
    | false =>
      simp only [Bool.false_eq_true, if_false]
      obtain ⟨σ', e, k', h'⟩ := ih done σ2 (fun x hx => hm x (by simp [hx])) (by lia) kp hd
      exact ⟨σ', e, k', by simpa [hp] using h'⟩
    | true =>
      simp only [if_true]
      rw [W_eq (he d hd0 hp σ2 kp)]
      have e1 : fAppend [.ref k, g d] σ2 = some (.none, σ2.set k (.list (done ++ [g d]))) := by
        simp only [fAppend, hd]
        rw [if_pos (by lia)]
      simp only [Option.bind_some, e1]
      have kp' : Keep0 σ0 (σ2.set k (.list (done ++ [g d]))) := ⟨by simpa using kp.1, fun j x n e => by
        have hj := lt_of_get e
        rw [List.getElem?_set_ne (by lia)]; exact kp.2 j x n e⟩
      obtain ⟨σ', e, k', h'⟩ := ih (done ++ [g d]) _ (fun x hx => hm x (by simp [hx])) (by simp; lia) kp' (by rw [List.getElem?_set_self (lt_of_get hd)])
      exact ⟨σ', e, k', by simpa [hp] using h'⟩
theorem W_compF {α : Type} {f : α → AV} {X : List α} {σ : Store} {lc : Lc} {P : AV → Store → Prop} {mi : Lc → Store → Option (Src × Store)} {mt : BM} {me : EM} {fs : List (Str × Nat)} (p : α → Bool) (g : α → AV)
    (h : W (mi lc σ) fun src σ1 => src.isEnum = false ∧ X.length ≤ 1000 ∧ (∀ σ2, Keep0 σ1 σ2 → src.items σ2 = some (X.map f)) ∧
      (∀ d ∈ X, ∀ σ2, Keep0 σ1 σ2 → W (mt (lcIn fs lc (f d)) σ2) fun b σ3 => b = p d ∧ σ3 = σ2) ∧ (∀ d ∈ X, p d = true → ∀ σ2, Keep0 σ1 σ2 → W (me (lcIn fs lc (f d)) σ2) fun v σ3 => v = g d ∧ σ3 = σ2) ∧
      ∀ k σ2, σ2[k]? = some (.list ((X.filter p).map g)) → Keep0 σ1 σ2 → σ1.length ≤ k → P (.ref k) σ2) : W (eComp mi mt me fs lc σ) P := by
  obtain ⟨src, σ1, e, hen, hl, hsrc, ht, he, hP⟩ := h
  have kp : Keep0 σ1 (σ1 ++ [.list []]) := ⟨by simp, fun j x _ e => by rw [List.getElem?_append_left (lt_of_get e)]; exact e⟩
  obtain ⟨σ', e1, k', h'⟩ := comp_goF (k := σ1.length) (Nat.le_refl _) hsrc ht he X [] (σ1 ++ [.list []]) (fun _ h => h) (by simpa using hl) kp (by simp)
  refine ⟨.ref σ1.length, σ', ?_, hP _ _ (by simpa using h') k' (Nat.le_refl _)⟩
  unfold eComp compA
  rw [e]
  simp only [Option.bind_some, hen, if_true, hsrc σ1 Keep.refl, e1, Option.map_some]
/-- a comprehension over a list of the store -/
theorem comp_list {α : Type} {f : α → AV} {X : List α} {σ : Store} {lc : Lc} {P : AV → Store → Prop} {m : EM} {mt : BM} {me : EM} {fs : List (Str × Nat)} (p : α → Bool) (g : α → AV) {i : Nat} (hm : W (m lc σ) fun v σ1 => v = .ref i ∧ σ1 = σ) (hi : σ[i]? = some (.list (X.map f))) (hl : X.length ≤ 1000)
    (ht : ∀ d ∈ X, ∀ σ2, Keep0 σ σ2 → W (mt (lcIn fs lc (f d)) σ2) fun b σ3 => b = p d ∧ σ3 = σ2) (he : ∀ d ∈ X, p d = true → ∀ σ2, Keep0 σ σ2 → W (me (lcIn fs lc (f d)) σ2) fun v σ3 => v = g d ∧ σ3 = σ2)
    (hP : ∀ k σ2, σ2[k]? = some (.list ((X.filter p).map g)) → Keep0 σ σ2 → σ.length ≤ k → P (.ref k) σ2) : W (eComp (iSeq m) mt me fs lc σ) P := by
  refine W_compF (f := f) (X := X) p g ?_
  refine i_seq (hm.mono ?_)
  rintro _ _ ⟨rfl, rfl⟩
  refine SQ_r hi ⟨rfl, hl, fun σ2 kp => ?_, ht, he, hP⟩
  simp only [Src.items, kp.get0 hi]
  rw [if_pos (by simpa using hl)]
section
variable {P : AV → Store → Prop} {σ : Store} {o d c : Nat} {L : List Cell} {wr : Bool}
noncomputable def takeC (n : Nat) (c : Cell) : AV := .tup ([.tup (c.ch.map .int), .int c.w, c.pen.av, .bool c.g].take n)
theorem take_l {c : LCell} {b : Int} (h0 : 0 ≤ b) (h4 : b ≤ 4) {Q : AV → Store → Prop} (hQ : Q (takeC b.toNat c.cell) σ) : W (eTake (eLoc 0) (eVal (.int b)) [some c.av] σ) Q := by
  have : b = 0 ∨ b = 1 ∨ b = 2 ∨ b = 3 ∨ b = 4 := by lia
  refine XE.okm (X := xTake (xLoc 0) (xVal (.int b))) rfl (AskR.mk ⟨h0, Int.lt_of_le_of_lt h4 (by decide : _ < ((5 : Nat) : Int)), Nat.le_of_ble_eq_true rfl⟩ ?_)
  rcases this with rfl | rfl | rfl | rfl | rfl <;> exact hQ
theorem take_c {c : Cell} {b : Int} (h0 : 0 ≤ b) (h4 : b ≤ 3) {Q : AV → Store → Prop} (hQ : Q (takeC b.toNat c) σ) : W (eTake (eLoc 0) (eVal (.int b)) [some c.av] σ) Q := by
  have : b = 0 ∨ b = 1 ∨ b = 2 ∨ b = 3 := by lia
  refine XE.okm (X := xTake (xLoc 0) (xVal (.int b))) rfl (AskR.mk ⟨h0, Int.lt_of_le_of_lt h4 (by decide : _ < ((4 : Nat) : Int)), Nat.le_of_ble_eq_true rfl⟩ ?_)
  rcases this with rfl | rfl | rfl | rfl <;> exact hQ
noncomputable def py3 (c : Cell) : PyData := .tuple [.tuple (c.ch.map .int), .int c.w, c.pen.py]
theorem py_3 {n : Nat} {c : Cell} : py σ (n + 2) (takeC 3 c) = some (py3 c) := py_tup (by simp [mapO, py_int, py_pen, py_tup py_ints])
theorem eqv_3 (x : Cell) : PyData.eqv (py3 x) (py3 x) = true := by
  show PyData.eqvAll _ _ = true
  have e1 : PyData.eqv (.tuple (x.ch.map .int)) (.tuple (x.ch.map .int)) = true := eqv_ints _
  simp only [PyData.eqvAll, e1, eqv_int, eqv_pen]
  simp
theorem is_so_ {mi : Nat} {M : List LCell} (A : LineAt σ o d c (str M) wr) (h : σ[mi]? = some (.list (M.map LCell.av))) (hl : M.length ≤ 400)
    (hP : ∀ σ2, Keep0 σ σ2 → P (.bool true) σ2) : W (F_law_is_so [.ref o, .ref mi] σ) P := by
  obtain ⟨ho, hd, hc⟩ := id A
  have hl2 : M.length ≤ 1000 := by lia
  have hsl : (str M).length ≤ 1000 := by rw [str_length]; exact hl2
  refine x_def (X := xm_law_is_so) rfl ?_
  refine RawR.mk (comp_list (f := Cell.av) (X := str M) (fun _ => true) Cell.av (i := c) ?_ hc hsl (fun _ _ _ _ => W_bVal ⟨rfl, rfl⟩) ?_ fun k1 σ1 e1 kp1 n1 => ?_)
  · exact XE.okm (X := (xAttr 218 "cells" (xLoc 0))) rfl (AttrR.mk ho hd rfl ⟨rfl, rfl⟩)
  · exact fun x _ _ σ2 _ => XE.okm (X := (xCall fTuple (xaCons (xLoc 0) xaNil))) rfl (CallR.mk (tuple_t ⟨rfl, rfl⟩))
  have e1' : σ1[k1]? = some (.list ((str M).map Cell.av)) := by rw [e1, List.filter_eq_self.mpr (fun _ _ => rfl)]
  have h1 := kp1.get0 h
  refine RawR.mk (comp_list (f := Cell.av) (X := str M) (fun _ => true) (takeC 3) (i := k1) (XE.okm (X := xLoc 2) rfl ⟨rfl, rfl⟩) e1' hsl (fun _ _ _ _ => W_bVal ⟨rfl, rfl⟩) (fun _ _ _ _ _ => take_c (by decide) (by decide) ⟨rfl, rfl⟩) fun k2 σ2 e2 kp2 n2 => ?_)
  have e1'' := kp2.get0 e1'
  have h2 := kp2.get0 h1
  refine RawR.mk (comp_list (f := LCell.av) (X := M) (fun _ => true) (fun x => takeC 3 x.cell) (i := mi) (XE.okm (X := xLoc 1) rfl ⟨rfl, rfl⟩) h2 hl2 (fun _ _ _ _ => W_bVal ⟨rfl, rfl⟩) (fun _ _ _ _ _ => take_l (by decide) (by decide) ⟨rfl, rfl⟩) fun k3 σ3 e3 kp3 n3 => ?_)
  have e2' := kp3.get0 e2
  have h3 := kp3.get0 h2
  have e13 := kp3.get0 e1''
  have q2 : py σ3 8 (.ref k2) = some (.list ((str M).map py3)) := py_ref e2' (by
    rw [List.filter_eq_self.mpr (fun _ _ => rfl)]
    exact mapO_map fun _ _ => py_3)
  have q3 : py σ3 8 (.ref k3) = some (.list ((str M).map py3)) := py_ref e3 (by
    rw [List.filter_eq_self.mpr (fun _ _ => rfl)]
    unfold str
    rw [List.map_map]
    exact mapO_map fun _ _ => py_3)
  have t3 : PyData.eqv (.list ((str M).map py3)) (.list ((str M).map py3)) = true := eqv_all eqv_3 _
  refine OpR.mk (ne_py q2 q3 (IfB.ff (by rw [t3]; rfl) ?_))
  refine RawR.mk (comp_list (f := Cell.av) (X := str M) (fun x => decide (0 < x.w)) (fun x => .bool x.g) (i := k1) (XE.okm (X := xLoc 2) rfl ⟨rfl, rfl⟩) e13 hsl ?_ ?_ fun k4 σ4 e4 kp4 n4 => ?_)
  · exact fun x _ σ2 _ => XE.okm (X := (xbOf (xBin xGt (xGet (xLoc 0) (xVal (.int 1))) (xVal (.int 0))))) rfl (GetT.mk rfl ⟨rfl, rfl⟩)
  · exact fun x _ _ σ2 _ => XE.okm (X := (xGet (xLoc 0) (xVal (.int 3)))) rfl (GetT.mk rfl ⟨rfl, rfl⟩)
  have h4 := kp4.get0 h3
  refine RawR.mk (comp_list (f := LCell.av) (X := M) (fun x => decide (0 < x.cell.w)) (fun x => .bool x.cell.g) (i := mi) (XE.okm (X := xLoc 1) rfl ⟨rfl, rfl⟩) h4 hl2 ?_ ?_ fun k5 σ5 e5 kp5 n5 => ?_)
  · exact fun x _ σ2 _ => XE.okm (X := (xbOf (xBin xGt (xGet (xLoc 0) (xVal (.int 1))) (xVal (.int 0))))) rfl (GetT.mk rfl ⟨rfl, rfl⟩)
  · exact fun x _ _ σ2 _ => XE.okm (X := (xGet (xLoc 0) (xVal (.int 3)))) rfl (GetT.mk rfl ⟨rfl, rfl⟩)
  have e4' := kp5.get0 e4
  have r2 : py σ5 8 (.ref k4) = some (.list (((str M).filter fun x => decide (0 < x.w)).map fun x => .bool x.g)) := py_ref e4' (mapO_map fun _ _ => py_bool)
  have r3 : py σ5 8 (.ref k5) = some (.list (((str M).filter fun x => decide (0 < x.w)).map fun x => .bool x.g)) := py_ref e5 (by
    rw [mapO_map (h := fun x : LCell => PyData.bool x.cell.g) fun _ _ => py_bool]
    unfold str
    rw [List.filter_map, List.map_map]
    rfl)
  have t5 : PyData.eqv (.list (((str M).filter fun x => decide (0 < x.w)).map fun x => .bool x.g)) (.list (((str M).filter fun x => decide (0 < x.w)).map fun x => .bool x.g)) = true :=
    eqv_all (f := fun x : Cell => PyData.bool x.g) (fun x => beq_self_eq_true x.g) _
  refine OpR.mk (eq_py r2 r3 ?_)
  show P (.bool (PyData.eqv _ _)) σ5
  rw [t5]
  exact hP σ5 (((kp1.tr kp2).tr (kp3.tr kp4)).tr kp5)
end
end Mine
end
-- part P18
section
open PySem PySem.W PySem.Calls PyProof.Rows
set_option maxRecDepth 100000
namespace Mine
noncomputable def codeM (c : LCell) : List Int := if c.cell.ch = [] then (if c.cell.w = 1 then [32] else []) else c.cell.ch
noncomputable def popT (l : List Int) : List Int := (l.reverse.dropWhile (· == 32)).reverse
theorem popT_nil : popT [] = [] := rfl
theorem popT_32 {l : List Int} : popT (l ++ [32]) = popT l := by unfold popT; simp
theorem popT_ne {l : List Int} {z : Int} (h : z ≠ 32) : popT (l ++ [z]) = l ++ [z] := by
  unfold popT
  rw [List.reverse_append]
  simp [h]
section
variable {P : AV → Store → Prop} {σ : Store}
theorem c_extR {i j : Nat} {l k} (h1 : σ[i]? = some (.list l)) (h2 : σ[j]? = some (.list k)) (h3 : l.length + k.length ≤ 1000) (h : UpdO σ i (.list (l ++ k)) (P .none)) : CallR fExtend [.ref i, .ref j] σ P := CallR.mk (extend_rr h1 h2 h3 (Upd.intro (lt_of_get h1) h))
theorem c_intB {b : Bool} (h : P (.int (if b = true then 1 else 0)) σ) : CallR fInt [.bool b] σ P := CallR.mk (int_b h)
theorem c_listT {l : List AV} (h1 : l.length ≤ 1000) (h : NewO σ (.list l) P) : CallR fList [.tup l] σ P := CallR.mk (list_t h1 h.al)
theorem law_codes_ {mi : Nat} {M : List LCell} (h : σ[mi]? = some (.list (M.map LCell.av))) (hl : M.length ≤ 50) (hch : ∀ x ∈ mend M, x.cell.ch.length ≤ 1)
    (hP : ∀ k σ2, σ2[k]? = some (.list ((popT ((mend M).flatMap codeM)).map .int)) → Keep0 σ σ2 → σ.length ≤ k → P (.ref k) σ2) : W (F_law_codes [.ref mi] σ) P := by
  refine x_def (X := xm_law_codes) rfl ?_
  refine fun kf σ1 ef kp1 nf => ?_
  have h1 := kp1.get0 h
  have hml : (mend M).length ≤ 50 := by rw [mend_length]; exact hl
  refine CallR.mk (mended_ h1 (by lia) fun k2 σ2 e2 kp2 n2 => ?_)
  have ef2 := kp2.get0 ef
  have nk : kf ≠ k2 := by have := lt_of_get ef; lia
  generalize mend M = N at hml hch e2 hP
  have it : ∀ σ3, σ3[k2]? = some (AO.list (N.map LCell.av)) → (Src.list k2).items σ3 = some (N.map LCell.av) := by
    intro σ3 q
    simp only [Src.items, q]
    rw [if_pos (by rw [List.length_map]; lia)]
  walk_at "xs"
  refine x_for (N.map LCell.av) (fun j lc3 σ3 => (∃ y, lc3 = [some (.ref mi), some (.ref kf), y]) ∧ Keep0 σ σ3 ∧ σ3[k2]? = some (.list (N.map LCell.av)) ∧ σ3[kf]? = some (.list (((N.take j).flatMap codeM).map .int)) ∧ ((N.take j).flatMap codeM).length ≤ j) rfl ?_ (fun _ _ _ q => it _ q.2.2.1) ?_ ?_
  · exact ⟨⟨_, rfl⟩, kp1.tr kp2, e2, ef2, Nat.le_refl _⟩
  · rintro j dd lc3 σ3 hdd ⟨⟨y, rfl⟩, kp3, e3, f3, hlen⟩
    obtain ⟨x, hx, rfl⟩ : ∃ x, N[j]? = some x ∧ dd = x.av := by
      rw [List.getElem?_map] at hdd
      cases q : N[j]? with
      | none => rw [q] at hdd; cases hdd
      | some x => rw [q] at hdd; cases hdd; exact ⟨x, rfl, rfl⟩
    have hj := (List.getElem?_eq_some_iff.mp hx).1
    have hxc : x.cell.ch.length ≤ 1 := hch x (List.mem_of_getElem? hx)
    have hstep : (N.take (j + 1)).flatMap codeM = (N.take j).flatMap codeM ++ codeM x := by
      rw [List.take_add_one, hx, List.flatMap_append]; exact congrArg _ (List.append_nil _)
    have hcl : (codeM x).length ≤ 1 := by
      unfold codeM; split
      · split
        · exact Nat.le_refl _
        · exact Nat.zero_le _
      · exact hxc
    generalize hF : (N.take j).flatMap codeM = F at f3 hlen hstep
    generalize hF2 : (N.take (j + 1)).flatMap codeM = F2 at hstep
    clear hdd it e2 hP
    have fin : ∀ σm σ4, Keep0 σ3 σm → σ4[kf]? = some (.list ((F ++ codeM x).map .int)) → Keep (· = kf) σm σ4 → (∃ y, [some (.ref mi), some (.ref kf), some x.av] = [some (.ref mi), some (.ref kf), y]) ∧ Keep0 σ σ4 ∧ σ4[k2]? = some (.list (N.map LCell.av)) ∧ σ4[kf]? = some (.list (F2.map .int)) ∧ F2.length ≤ j + 1 := fun σm σ4 km g4 k4 =>
      ⟨⟨_, rfl⟩, (kp3.tr km).new k4 (fun q r => by lia), k4.get (fun q => nk q.symm) (km.get0 e3), by rw [hstep]; exact g4, by rw [hstep, List.length_append]; lia⟩
    unfold codeM at fin hcl
    cases hc : x.cell.ch with
    | nil =>
      have he : x.cell.ch.isEmpty = true := by rw [hc]; rfl
      rw [if_pos hc] at fin hcl
      walk_at "xs"
      refine o_nech ?_
      walk_at "xs"
      intro k4 σ4 e4 kp4 n4
      walk_at "xs"
      refine c_intB ?_
      refine MulR.mk e4 ⟨Nat.le_of_ble_eq_true rfl, by split <;> decide, by split <;> decide⟩ fun k5 σ5 e5 kp5 n5 => ?_
      have f5 := kp5.get0 (kp4.get0 f3)
      rw [flat_one] at e5
      by_cases w1 : x.cell.w = 1
      · rw [if_pos w1] at fin
        rw [t_eq w1, if_pos rfl] at e5
        exact c_extR f5 e5 (by rw [List.length_map, List.length_replicate]; show _ + 1 ≤ _; lia) fun σ6 g6 k6 => ⟨rfl, fin σ5 σ6 (kp4.tr kp5) (by rw [g6, List.map_append]; rfl) k6⟩
      · rw [if_neg w1] at fin
        rw [t_ne w1, if_neg Bool.false_ne_true] at e5
        exact c_extR f5 e5 (by rw [List.length_map, List.length_replicate]; show _ + 0 ≤ _; lia) fun σ6 g6 k6 => ⟨rfl, fin σ5 σ6 (kp4.tr kp5) (by rw [g6, List.map_append]; rfl) k6⟩
    | cons z zs =>
      have he : x.cell.ch.isEmpty = false := by rw [hc]; rfl
      rw [if_neg (by rw [hc]; exact List.cons_ne_nil _ _)] at fin hcl
      walk_at "xs"
      refine o_nech ?_
      walk_at "xs"
      refine c_listT (by rw [List.length_map]; lia) fun k4 σ4 e4 kp4 n4 => ?_
      exact c_extR (kp4.get0 f3) e4 (by rw [List.length_map, List.length_map]; lia) fun σ6 g6 k6 => ⟨rfl, fin σ4 σ6 kp4 (by rw [g6, List.map_append]) k6⟩
  rintro lc3 σ3 ⟨⟨y, rfl⟩, kp3, _, f3, hlen⟩
  rw [List.length_map, List.take_of_length_le (Nat.le_refl _)] at f3 hlen
  generalize N.flatMap codeM = F at hP f3 hlen
  refine x_while F.length (fun k lc1 σ1 => ∃ l : List Int, l.length = k ∧ l.length ≤ 50 ∧ lc1 = [some (.ref mi), some (.ref kf), y] ∧ popT l = popT F ∧ Keep0 σ σ1 ∧ σ1[kf]? = some (.list (l.map .int))) (by lia) ⟨F, rfl, by lia, rfl, rfl, kp3, f3⟩ ?_
  rintro k lc1 σ4 ⟨l, hk, hl50, rfl, hpop, kp4, f4⟩
  walk_at "xs"
  intro k5 σ5 e5 kp5 n5
  have f5 := kp5.get0 f4
  have kk := kp4.tr kp5
  refine o_nei f5 e5 ?_
  rcases List.eq_nil_or_concat l with rfl | ⟨l', z, rfl⟩
  · rw [popT_nil] at hpop
    rw [← hpop] at hP
    exact hP kf σ5 f5 kk nf
  · rw [List.concat_eq_append] at *
    have hemp : (l' ++ [z]).isEmpty = false := by cases l' <;> rfl
    rw [List.length_append, List.length_singleton] at hk hl50
    have iz : idx ((l' ++ [z]).map AV.int) (-1) = some (.int z) := idx_last (by rw [List.length_append, List.length_singleton]; lia) (by rw [List.length_append, List.length_singleton, Nat.add_sub_cancel, List.getElem?_append_right (Nat.le_refl _), Nat.sub_self]; rfl)
    by_cases hz : z = 32
    · rw [hz, popT_32] at hpop
      walk_at "xs"
      refine ⟨l'.length, by lia, ?_⟩
      walk_at "xs"
      refine c_pop f5 (by rw [List.length_map, List.length_append, List.length_singleton]; lia) (x := .int z) (by rw [List.map_append]; exact List.getLast?_concat) fun σ6 f6 kp6 => ?_
      exact ⟨rfl, l', rfl, by lia, rfl, hpop, kk.new kp6 fun q r => by lia, by rw [f6, List.map_append]; exact congrArg some (congrArg AO.list List.dropLast_concat)⟩
    · rw [popT_ne hz] at hpop
      rw [← hpop] at hP
      have := hP kf σ5 f5 kk nf
      walk_at "xs"
      exact this
end
end Mine
end
-- part P19
section
open PySem PySem.W PySem.Calls PyProof.Rows
set_option maxRecDepth 100000
namespace Mine
section
variable {P : AV → Store → Prop} {σ : Store} {lc : Lc}
theorem W_sliceRaw {sa : Addr} {sl : List Int} {a : EM} {y z : AV} {p q : Option Int} (hy : partOf y = some p) (hz : partOf z = some q) (hl : sl.length ≤ 1000) (h : W (a lc σ) fun x σ1 => x = .raw sa ∧ Alloc σ1 (.list (sliceL (sl.map .int) p q)) P) : W (eSliceRaw sa sl a (eVal y) (eVal z) lc σ) P := by
  refine h.bind fun x σ1 h => ?_
  obtain ⟨rfl, h⟩ := h
  show W ((partOf y).bind fun u => (partOf z).bind fun v => if sa = sa ∧ sl.length ≤ 1000 then some (AV.ref σ1.length, σ1 ++ [AO.list (sliceL (sl.map AV.int) u v)]) else none) P
  exact W.ob hy (W.ob hz (W.gd ⟨rfl, hl⟩ (W.ret h)))
theorem W_rev {a : EM} (h : W (a lc σ) fun x σ1 => ∃ i l, x = .ref i ∧ σ1[i]? = some (.list l) ∧ l.length ≤ 1000 ∧ Alloc σ1 (.list l.reverse) P) : W (eRev a lc σ) P := by
  refine h.bind fun x σ1 h => ?_
  obtain ⟨i, l, rfl, hi, hl, h⟩ := h
  simp only [hi]
  exact W.gd hl (W.ret h)
theorem W_dict2 {x y : Str} {a b : EM} (hxy : x ≠ y) (h : ∀ k σ1, σ1[k]? = some (.dict []) → Keep0 σ σ1 → σ.length ≤ k → W (a lc σ1) fun u σ2 => W (b lc σ2) fun v σ3 => σ3[k]? = some (.dict []) ∧ Upd σ3 k (.dict [(x, u), (y, v)]) (P (.ref k))) :
    W (eDict (pCons x a (pCons y b pNil)) lc σ) P := by
  have h0 := h σ.length (σ ++ [.dict []]) (by simp) ⟨by simp, fun j x _ e => by rw [List.getElem?_append_left (lt_of_get e)]; exact e⟩ (Nat.le_refl _)
  obtain ⟨u, σ2, e1, v, σ3, e2, h3, h4⟩ := h0
  refine ⟨.ref σ.length, σ3.set σ.length (.dict [(x, u), (y, v)]), ?_, h4⟩
  unfold eDict pCons pNil
  rw [e1]
  simp only [Option.bind_some, e2, Option.map_some, h3]
  rw [if_pos (by simp [hxy])]
theorem deck_ {sa : Addr} {sl : List Int} (hsl : sl.length ≤ 1000) (hP : ∀ dk dc σ2, DeckAt σ2 dk dc → Keep0 σ σ2 → σ.length ≤ dk → σ.length ≤ dc → P (.ref dk) σ2) : W (F_law_deck sa sl [.raw sa] σ) P := by
  refine x_def (X := xm_law_deck sa sl) rfl ?_
  have hlen : (sliceG sl none (some 40)).length ≤ 40 := by
    unfold sliceG
    rw [List.length_take]
    refine Nat.le_trans (Nat.min_le_left _ _) (Nat.le_trans (Nat.sub_le _ _) ?_)
    show clipAt sl.length ((40 : Nat) : Int) ≤ 40
    rw [clipAt_nat]
    exact Nat.min_le_left _ _
  refine RawR.mk ?_
  refine W_compF (f := AV.int) (X := sliceG sl none (some 40)) (fun _ => true) AV.int ?_
  refine i_seq (W_sliceRaw rfl rfl hsl (XE.okm (X := xLoc 0) rfl ⟨rfl, Alloc.intro fun k1 σ1 e1 kp1 n1 => ?_⟩))
  rw [sliceL_map] at e1
  generalize sliceG sl none (some 40) = G at hlen e1
  refine SQ_r e1 ⟨rfl, by lia, fun σ2 kp2 => ?_, fun x _ σ2 _ => W_bVal ⟨rfl, rfl⟩, fun x _ _ σ2 _ => ?_, fun k σ2 e2 kp2 n2 => ?_⟩
  · simp only [Src.items, kp2.get0 e1]
    rw [if_pos (by rw [List.length_map]; lia)]
  · refine XE.okm (X := xCall fInt (xaCons (xLoc 0) xaNil)) rfl ?_
    exact CallR.mk (int_i ⟨rfl, rfl⟩)
  · have := kp1.1
    rw [List.filter_eq_self.mpr (fun _ _ => rfl)] at e2
    have it : (Src.list k).items σ2 = some (G.map AV.int) := by
      simp only [Src.items, e2]
      rw [if_pos (by rw [List.length_map]; lia)]
    have kp := kp1.tr kp2
    walk_at "xs"
    refine x_for (G.map AV.int) (fun j lc3 σ3 => (∃ m y, lc3 = [some (.raw sa), some (.ref k), some (.int m), y]) ∧ σ2 = σ3) rfl ⟨⟨_, _, rfl⟩, rfl⟩ (fun _ _ _ q => q.2 ▸ it) ?_ ?_
    · rintro j dd lc3 σ3 hdd ⟨⟨m, y, rfl⟩, rfl⟩
      obtain ⟨x, rfl⟩ : ∃ x, dd = .int x := by
        rw [List.getElem?_map] at hdd
        cases q : G[j]? with
        | none => rw [q] at hdd; cases hdd
        | some x => rw [q] at hdd; cases hdd; exact ⟨x, rfl⟩
      have s1 : small 31 = true := by decide
      have s2 : (1000003 : Int) ≠ 0 := by decide
      clear hP hdd
      walk_at "xs"
      exact ⟨⟨_, _, rfl⟩, rfl⟩
    · rintro lc3 σ3 ⟨⟨m, y, rfl⟩, rfl⟩
      refine RawR.mk ?_
      refine W_dict2 (by decide) fun dk σ3 e3 kp3 n3 => ?_
      have e13 := kp3.get0 e2
      refine W_rev ?_
      refine XE.okm (X := xLoc 1) rfl ?_
      refine ⟨k, _, rfl, e13, by rw [List.length_map]; lia, Alloc.intro fun dc σ4 e4 kp4 n4 => ?_⟩
      refine XE.okm (X := xLoc 2) rfl ?_
      have e34 := kp4.get0 e3
      refine ⟨e34, Upd.intro (lt_of_get e34) fun σ5 e5 kp5 => ?_⟩
      have := kp.1
      have := kp3.1
      refine hP dk dc σ5 ⟨⟨G.reverse, m, e5, ?_, by rw [List.length_reverse]; exact hlen⟩⟩ ((kp.tr (kp3.tr kp4)).new kp5 fun j q => by lia) (by lia) (by lia)
      rw [kp5.get (by have := lt_of_get e3; lia) e4, List.map_reverse]
end
end Mine
end
-- part P20
section
open PySem PySem.W PySem.Calls PyProof.Rows
set_option maxRecDepth 100000
namespace Mine
section
variable {n : Int} {M : List LCell}
theorem str_append {A B : List LCell} : str (A ++ B) = str A ++ str B := by simp [str]
theorem str_take {A : List LCell} {k : Nat} : str (A.take k) = (str A).take k := by simp [str, List.map_take]
theorem str_drop {A : List LCell} {k : Nat} : str (A.drop k) = (str A).drop k := by simp [str, List.map_drop]
theorem part_str (h : Inv n M) (a : Int) : partL (str M) a = str (cut (fun x => x = a) M) := by
  have := part_cut (B := fun _ => False) h a
  rw [cut_none] at this
  rw [this]
  congr 1
  refine cut_congr fun i c _ => ?_
  simp
/-- each half within lies by its other one -/
structure Semi (T : List LCell) : Prop where
  w3 : ∀ (i : Nat) (c : LCell), T[i]? = some c → c.cell.w = 0 ∨ c.cell.w = 1 ∨ c.cell.w = 2
  right : ∀ (i : Nat) (c : LCell), T[i]? = some c → c.cell.w = 2 → i + 1 < T.length → ∃ d, T[i + 1]? = some d ∧ d.cell.w = 0 ∧ d.id = c.id
  left : ∀ (i : Nat) (c : LCell), T[i + 1]? = some c → c.cell.w = 0 → ∃ d, T[i]? = some d ∧ d.cell.w = 2 ∧ d.id = c.id
theorem Inv.semi (h : Inv n M) (a b : Nat) : Semi (sl' M a b) where
  w3 := fun i c e => by
    rw [sl_get] at e
    split at e
    · exact h.w3 e
    · cases e
  right := fun i c e w hl => by
    have hb : (sl' M a b).length ≤ b - a := by unfold sl'; simp; omega
    rw [sl_get] at e
    split at e
    · obtain ⟨d, e1, e2, e3⟩ := h.right e w
      refine ⟨d, ?_, e2, e3⟩
      rw [sl_get, if_pos (by lia), show a + (i + 1) = a + i + 1 by lia]
      exact e1
    · cases e
  left := fun i c e w => by
    rw [sl_get] at e
    split at e
    · obtain ⟨j, d, hj, e1, e2, e3⟩ := h.left e w
      refine ⟨d, ?_, e2, e3⟩
      rw [sl_get, if_pos (by lia), show a + i = j by lia]
      exact e1
    · cases e
theorem fixFirst_get {L : List Cell} {i : Nat} : (fixFirst L)[i]? = L[i]?.map fun c => if i = 0 ∧ c.w = 0 then blank c.pen else c := by
  unfold fixFirst
  cases e : L[0]? with
  | none =>
    have : L = [] := by cases L with | nil => rfl | cons _ _ => simp at e
    subst this; simp
  | some c =>
    simp only []
    by_cases hi : i = 0
    · subst hi
      rw [e]
      by_cases w : c.w = 0
      · rw [if_pos w, List.getElem?_set_self (List.getElem?_eq_some_iff.mp e).1]; simp [w]
      · rw [if_neg w, e]; simp [w]
    · have : L[i]?.map (fun c => if i = 0 ∧ c.w = 0 then blank c.pen else c) = L[i]? := by
        cases L[i]? <;> simp [hi]
      rw [this]
      split
      · rw [List.getElem?_set_ne (Ne.symm hi)]
      · rfl
theorem fixLast_get {L : List Cell} {i : Nat} : (fixLast L)[i]? = L[i]?.map fun c => if i + 1 = L.length ∧ c.w = 2 then blank c.pen else c := by
  unfold fixLast
  cases e : L[L.length - 1]? with
  | none =>
    have : L = [] := by cases L with | nil => rfl | cons _ _ => simp at e
    subst this; simp
  | some c =>
    simp only []
    have hl := (List.getElem?_eq_some_iff.mp e).1
    by_cases hi : i + 1 = L.length
    · have hi' : i = L.length - 1 := by lia
      rw [← hi'] at e
      rw [← hi', e]
      by_cases w : c.w = 2
      · rw [if_pos w, List.getElem?_set_self (by lia)]; simp [w, hi]
      · rw [if_neg w, e]; simp [w]
    · have : L[i]?.map (fun c => if i + 1 = L.length ∧ c.w = 2 then blank c.pen else c) = L[i]? := by
        cases L[i]? <;> simp [hi]
      rw [this]
      split
      · rw [List.getElem?_set_ne (by lia)]
      · rfl
theorem fix_semi {T : List LCell} (h : Semi T) : fixLast (fixFirst (str T)) = str (mend T) := by
  refine List.ext_getElem? fun i => ?_
  rw [fixLast_get, fixFirst_get, fixFirst_length, str_length, str_get, str_get, mend_get]
  cases e : T[i]? with
  | none => rfl
  | some c =>
    have hi := (List.getElem?_eq_some_iff.mp e).1
    simp only [Option.map_some]
    congr 1
    rcases h.w3 i c e with w | w | w
    · rw [mendAt_zero w]
      cases i with
      | zero =>
        simp only [prev, if_true, mL]
        simp [w, blank, lblank]
      | succ j =>
        obtain ⟨d, e1, e2, e3⟩ := h.left j c e w
        have : mL c (prev T (j + 1)) = true := by
          unfold prev
          rw [if_neg (by lia), Nat.add_sub_cancel, e1]
          simp [mL, e2, e3]
        rw [if_pos this]
        simp [w]
    · rw [mendAt_one w]; simp [w]
    · rw [mendAt_two w]
      by_cases hl : i + 1 < T.length
      · obtain ⟨d, e1, e2, e3⟩ := h.right i c e w hl
        have : mR c T[i + 1]? = true := by rw [e1]; simp [mR, e2, e3]
        rw [if_pos this]
        have hne : ¬ i + 1 = T.length := by lia
        simp [w, hne]
      · have hn : T[i + 1]? = none := List.getElem?_eq_none_iff.mpr (by lia)
        have heq : i + 1 = T.length := by lia
        rw [hn]
        simp [w, heq, mR, lblank]
theorem sliceG_nat {α : Type} {l : List α} {a b : Nat} : sliceG l (some (a : Int)) (some (b : Int)) = (l.take b).drop a := by
  unfold sliceG
  simp only [Option.elim]
  rw [clipAt_nat, clipAt_nat, List.drop_take]
  by_cases h1 : a ≤ l.length
  · rw [Nat.min_eq_left h1]
    by_cases h2 : b ≤ l.length
    · rw [Nat.min_eq_left h2]
    · rw [Nat.min_eq_right (by lia), List.take_of_length_le (l := l.drop a) (i := b - a) (by simp; lia), List.take_of_length_le (by simp)]
  · have e1 : l.drop a = [] := List.drop_eq_nil_of_le (by lia)
    have e2 : l.drop (min a l.length) = [] := List.drop_eq_nil_of_le (by lia)
    rw [e1, e2]; simp
theorem lineSlice_str {S : List LCell} (h : Inv n S) (a b : Nat) : lineSliceL (str S) (a : Int) ((b : Int) - 1) = str (mend (sl' S a b)) := by
  unfold lineSliceL
  rw [show max 0 (a : Int) = (a : Int) by lia, show max 0 ((b : Int) - 1 + 1) = (b : Int) by lia, sliceG_nat]
  have : ((str S).take b).drop a = str (sl' S a b) := by unfold sl'; rw [str_drop, str_take]
  rw [this]
  exact fix_semi (h.semi a b)
/-- the law's cells laid -/
theorem laidK_get {M X : List LCell} {col : Nat} : ∀ {j i : Nat}, (laidK M col X j)[i]? = if col ≤ i ∧ i < col + j ∧ i < M.length ∧ i - col < X.length then X[i - col]? else M[i]?
  | 0, i => by rw [if_neg fun q => Nat.lt_irrefl _ (Nat.lt_of_le_of_lt q.1 q.2.1)]; rfl
  | j + 1, i => by
    unfold laidK
    by_cases hi : i = col + j
    · subst hi
      have e0 : (laidK M col X j)[col + j]? = M[col + j]? := by rw [laidK_get, if_neg fun q => Nat.lt_irrefl _ q.2.1]
      rw [Nat.add_sub_cancel_left]
      cases e : X[j]? with
      | none =>
        simp only []
        rw [e0, if_neg fun q => Nat.lt_irrefl _ (Nat.lt_of_lt_of_le q.2.2.2 (List.getElem?_eq_none_iff.mp e))]
      | some x =>
        simp only []
        by_cases hc : col + j < M.length
        · rw [if_pos hc, List.getElem?_set_self (by rw [laidK_length]; exact hc), if_pos ⟨Nat.le_add_right _ _, Nat.lt_succ_self _, hc, (List.getElem?_eq_some_iff.mp e).1⟩]
        · rw [if_neg hc, e0, if_neg fun q => hc q.2.2.1]
    · have hl : (i < col + (j + 1)) = (i < col + j) := propext ⟨fun h => Nat.lt_of_le_of_ne (Nat.le_of_lt_succ h) hi, fun h => Nat.lt_succ_of_lt h⟩
      simp only [hl]
      rw [← laidK_get (j := j)]
      split
      · split
        · exact List.getElem?_set_ne (Ne.symm hi)
        · rfl
      · rfl
theorem laidK_over {M X : List LCell} {col : Nat} (hc : col ≤ M.length) : laidK M col X X.length = over M col (X.take (M.length - col)) := by
  refine List.ext_getElem? fun i => ?_
  have lt : (M.take col).length = col := by rw [List.length_take, Nat.min_eq_left hc]
  rw [laidK_get]
  unfold over
  rw [List.append_assoc]
  by_cases h1 : i < col
  · rw [if_neg fun q => Nat.lt_irrefl _ (Nat.lt_of_lt_of_le h1 q.1), List.getElem?_append_left (by rw [lt]; exact h1), List.getElem?_take, if_pos h1]
  · obtain ⟨t, rfl⟩ := Nat.le.dest (Nat.not_lt.mp h1)
    obtain ⟨d, hd⟩ := Nat.le.dest hc
    rw [List.getElem?_append_right (by rw [lt]; exact Nat.le_add_right _ _), lt, Nat.add_sub_cancel_left, ← hd, Nat.add_sub_cancel_left]
    by_cases h2 : t < (X.take d).length
    · have h3 := h2
      rw [List.length_take] at h3
      have h4 := Nat.lt_min.mp h3
      rw [if_pos ⟨Nat.le_add_right _ _, Nat.add_lt_add_left h4.2 _, Nat.add_lt_add_left h4.1 _, h4.2⟩, List.getElem?_append_left h2, List.getElem?_take, if_pos h4.1]
    · rw [if_neg fun q => h2 (by rw [List.length_take]; exact Nat.lt_min.mpr ⟨Nat.lt_of_add_lt_add_left q.2.2.1, q.2.2.2⟩), List.getElem?_append_right (Nat.not_lt.mp h2), List.getElem?_drop, Nat.add_assoc, Nat.add_sub_cancel' (Nat.not_lt.mp h2)]
theorem laidK_out {M X : List LCell} {col : Nat} (hc : M.length ≤ col) : laidK M col X X.length = M := by
  refine List.ext_getElem? fun i => ?_
  rw [laidK_get, if_neg (by lia)]
theorem PI.mix {n n' : Int} {M A B X : List LCell} (h : PI n M) (hs : (A ++ B).Sublist M) (hn : n ≤ n') (hX : ∀ x ∈ X, okC n' x) (hR : X.Pairwise Tie) (hf : ∀ x ∈ X, x.cell.w ≠ 1 → n < x.id) : PI n' (A ++ X ++ B) := by
  have hmem : ∀ c ∈ A ++ B, okC n c := fun c hc => h.ok c (hs.subset hc)
  have hpw := h.rel.sublist hs
  rw [List.pairwise_append] at hpw
  have tie : ∀ a, okC n a → ∀ x ∈ X, Tie a x := fun a ha x hx w1 w2 e => by
    have := ha.2.1 w1
    have := hf x hx w2
    lia
  refine ⟨fun c hc => ?_, ?_⟩
  · rcases List.mem_append.mp hc with q | q
    · rcases List.mem_append.mp q with q | q
      · exact (hmem c (List.mem_append_left _ q)).le hn
      · exact hX c q
    · exact (hmem c (List.mem_append_right _ q)).le hn
  · rw [List.pairwise_append, List.pairwise_append]
    refine ⟨⟨hpw.1, hR, fun a ha x hx => tie a (hmem a (List.mem_append_left _ ha)) x hx⟩, hpw.2.1, fun a ha b hb => ?_⟩
    rcases List.mem_append.mp ha with q | q
    · exact hpw.2.2 a q b hb
    · exact (tie b (hmem b (List.mem_append_right _ hb)) a q).symm
theorem take_drop_sub {M : List LCell} {a b : Nat} (h : a ≤ b) : (M.take a ++ M.drop b).Sublist M := by
  have e : M.take a ++ M.drop a = M := List.take_append_drop a M
  have : (M.drop b).Sublist (M.drop a) := by
    have : M.drop b = (M.drop a).drop (b - a) := by rw [List.drop_drop]; congr 1; lia
    rw [this]; exact List.drop_sublist _ _
  have := (List.Sublist.refl (M.take a)).append this
  rwa [e] at this
end
end Mine
end
-- part P21
section
open PySem PySem.W PySem.Calls PyProof.Rows
set_option maxRecDepth 100000
namespace Mine
section
variable {n : Int} {M : List LCell}
theorem PI.le {n n' : Int} {M : List LCell} (h : PI n M) (hn : n ≤ n') : PI n' M := ⟨fun c hc => (h.ok c hc).le hn, h.rel⟩
theorem Inv.le {n n' : Int} {M : List LCell} (h : Inv n M) (hn : n ≤ n') : Inv n' M := { h.toPI.le hn with mended := h.mended }
theorem over_str (h : Inv n M) {k : Nat} {X : List LCell} (hX : 0 < X.length) (hk : k + X.length ≤ M.length) (h1 : ∀ d, X[0]? = some d → d.cell.w ≠ 0) (h2 : (∀ c, X[X.length - 1]? = some c → c.cell.w ≠ 2) ∨ k + X.length = M.length) :
    str (mend (over M k X)) = (partL (partL (str M) k) ((k : Int) + X.length)).take k ++ str (mend X) ++ (partL (partL (str M) k) ((k : Int) + X.length)).drop (k + X.length) := by
  rw [part_str h, part_cut h]
  rw [mend_over (B := fun x => x = (k : Int) ∨ x = (k : Int) + X.length) h hX hk h1 h2 (.inl rfl) (.inr (by push_cast; rfl)) (fun x hx => by push_cast; exact hx)]
  rw [str_append, str_append, str_take, str_drop]
theorem mend_one {c : LCell} : mend [c] = [mendAt none none c] := rfl
theorem mend_two {a b : LCell} : mend [a, b] = [mendAt none (some b) a, mendAt (some a) none b] := rfl
theorem signL_head {c : Cell} {id : Int} {X : List LCell} : (signL c id ++ X)[0]? = some ⟨c, id⟩ := rfl
theorem mend_sign {c : Cell} {id : Int} (hc : c.w = 1 ∨ c.w = 2) : mend (signL c id) = signL c id := by
  unfold signL
  rcases hc with w | w
  · rw [if_neg (by lia), mend_one, mendAt_one w]
  · rw [if_pos w, mend_two, mendAt_two w, mendAt_zero rfl]
    simp [mR, mL, w]
theorem signL_one {c : Cell} {id : Int} (w : c.w = 1) : signL c id = [⟨c, id⟩] := by unfold signL; rw [if_neg (by lia)]
theorem signL_two {c : Cell} {id : Int} (w : c.w = 2) : signL c id = [⟨c, id⟩, ⟨⟨[], 0, c.pen, c.g⟩, id⟩] := by unfold signL; rw [if_pos w]
theorem set_take_drop {α : Type} {l : List α} {k : Nat} {a : α} (h : k < l.length) : l.set k a = l.take k ++ [a] ++ l.drop (k + 1) := by
  refine List.ext_getElem? fun i => ?_
  rw [List.append_assoc]
  by_cases h1 : i < k
  · rw [List.getElem?_set_ne (by lia), List.getElem?_append_left (by simp; lia), List.getElem?_take, if_pos h1]
  · by_cases h2 : i = k
    · subst h2
      rw [List.getElem?_set_self h, List.getElem?_append_right (by simp; lia), List.length_take, Nat.min_eq_left (by lia), Nat.sub_self]
      rfl
    · rw [List.getElem?_set_ne (by lia), List.getElem?_append_right (by simp; lia), List.length_take, Nat.min_eq_left (by lia), List.getElem?_append_right (by simp; lia), List.getElem?_drop]
      congr 1
      simp; lia
theorem set_two {α : Type} {l : List α} {k : Nat} {a b : α} (h : k + 1 < l.length) : (l.set k a).set (k + 1) b = l.take k ++ [a, b] ++ l.drop (k + 2) := by
  refine List.ext_getElem? fun i => ?_
  rw [List.append_assoc]
  by_cases h1 : i < k
  · rw [List.getElem?_set_ne (by lia), List.getElem?_set_ne (by lia), List.getElem?_append_left (by simp; lia), List.getElem?_take, if_pos h1]
  · by_cases h2 : i = k
    · subst h2
      rw [List.getElem?_set_ne (by lia), List.getElem?_set_self (by lia), List.getElem?_append_right (by simp; lia), List.length_take, Nat.min_eq_left (by lia), Nat.sub_self]
      rfl
    · by_cases h3 : i = k + 1
      · subst h3
        rw [List.getElem?_set_self (by simp; omega), List.getElem?_append_right (by simp; lia), List.length_take, Nat.min_eq_left (by lia), show k + 1 - k = 1 by lia]
        rfl
      · rw [List.getElem?_set_ne (by lia), List.getElem?_set_ne (by lia), List.getElem?_append_right (by simp; lia), List.length_take, Nat.min_eq_left (by lia), List.getElem?_append_right (by simp; lia), List.getElem?_drop]
        congr 1
        simp; lia
theorem put_law (h : Inv n M) {s : Cell} {id : Int} (hs : s.w = 1 ∨ s.w = 2) (col : Nat) : str (mend (laidK M col (signL s id) (signL s id).length)) = putL (str M) col s := by
  by_cases hc : M.length ≤ col
  · rw [laidK_out hc, h.mended]
    unfold putL
    rw [if_pos (.inl (by rw [str_length]; lia))]
  · rw [laidK_over (by lia)]
    unfold putL
    rw [if_neg (by rw [str_length]; lia)]
    dsimp only
    rw [str_length]
    rcases hs with w | w
    · rw [show (if s.w = 2 ∧ (col : Int) + 1 = M.length then blank s.pen else s) = s from if_neg (by lia), if_neg (by lia), signL_one w, List.take_of_length_le (by simp; lia)]
      rw [over_str h (by simp) (by simp; lia) (by intro d e; cases e; show s.w ≠ 0; lia) (.inl (by intro d e; cases e; show s.w ≠ 2; lia))]
      rw [mend_one, mendAt_one w, w]
      rw [show ((col : Int)).toNat = col by lia, set_take_drop (by simp [part_len, str_length]; lia)]
      rfl
    · by_cases hl : col + 1 = M.length
      · rw [show (if s.w = 2 ∧ (col : Int) + 1 = M.length then blank s.pen else s) = blank s.pen from if_pos ⟨w, by lia⟩, if_neg (by show ¬ (1 : Int) = 2; decide), signL_two w, show M.length - col = 1 by lia]
        show str (mend (over M col [⟨s, id⟩])) = _
        rw [over_str h (by simp) (by simp; lia) (by intro d e; cases e; show s.w ≠ 0; lia) (.inr (by simpa using hl))]
        rw [mend_one, mendAt_two w]
        rw [show ((col : Int)).toNat = col by lia, set_take_drop (by simp [part_len, str_length]; lia)]
        simp [mR, str, lblank, blank]
      · rw [show (if s.w = 2 ∧ (col : Int) + 1 = M.length then blank s.pen else s) = s from if_neg (by lia), if_pos w, signL_two w, List.take_of_length_le (by simp; lia)]
        rw [over_str h (by simp) (by simp; lia) (by intro d e; cases e; show s.w ≠ 0; lia) (.inl (by intro d e; cases e; show (0 : Int) ≠ 2; decide))]
        rw [mend_two, mendAt_two w, mendAt_zero rfl, w]
        rw [show ((col : Int)).toNat = col by lia, set_two (by simp [part_len, str_length]; lia)]
        simp [mR, mL, str, w]
theorem sign_ok {s : Cell} {id n : Int} (hs : s.w = 1 ∨ s.w = 2) (hch : ∃ z, s.ch = [z] ∧ z ≠ 32) (hid : id ≤ n) : ∀ x ∈ signL s id, okC n x := by
  obtain ⟨z, hz, hz2⟩ := hch
  intro x hx
  have h0 : okC n ⟨s, id⟩ := ⟨by
    rcases hs with w | w
    · exact .inr (.inl w)
    · exact .inr (.inr ⟨w, by show s.ch ≠ []; rw [hz]; simp⟩), fun _ => hid, by intro y hy; have hy : y ∈ s.ch := hy; rw [hz] at hy; simp at hy; lia, by show s.ch.length ≤ 1; rw [hz]; simp⟩
  rcases hs with w | w
  · rw [signL_one w] at hx
    rw [List.mem_singleton.mp hx]; exact h0
  · rw [signL_two w] at hx
    rcases List.mem_cons.mp hx with rfl | hx
    · exact h0
    · rw [List.mem_singleton.mp hx]
      exact ⟨.inl ⟨rfl, rfl⟩, fun _ => hid, by simp, by simp⟩
theorem sign_tie {s : Cell} {id : Int} (hs : s.w = 1 ∨ s.w = 2) : (signL s id).Pairwise Tie := by
  rcases hs with w | w
  · rw [signL_one w]; simp
  · rw [signL_two w]
    refine List.pairwise_cons.mpr ⟨fun x hx => ?_, by simp⟩
    rw [List.mem_singleton.mp hx]
    intro _ _ _
    exact ⟨by show s.w ≠ 0; lia, rfl⟩
theorem sign_id {s : Cell} {id : Int} : ∀ x ∈ signL s id, x.id = id := by
  unfold signL
  intro x hx
  rcases List.mem_cons.mp hx with rfl | hx
  · rfl
  · split at hx
    · rw [List.mem_singleton.mp hx]
    · cases hx
theorem over_inv {n' : Int} (h : Inv n M) {k : Nat} {X : List LCell} (hn : n ≤ n') (hX : ∀ x ∈ X, okC n' x) (hR : X.Pairwise Tie) (hf : ∀ x ∈ X, x.cell.w ≠ 1 → n < x.id) : Inv n' (mend (over M k X)) :=
  PI.inv (h.toPI.mix (take_drop_sub (Nat.le_add_right _ _)) hn hX hR hf)
theorem put_inv (h : Inv n M) {s : Cell} (hs : s.w = 1 ∨ s.w = 2) (hch : ∃ z, s.ch = [z] ∧ z ≠ 32) (col : Nat) : Inv (n + 1) (mend (laidK M col (signL s (n + 1)) (signL s (n + 1)).length)) := by
  by_cases hc : M.length ≤ col
  · rw [laidK_out hc, h.mended]; exact h.le (by lia)
  · rw [laidK_over (by lia)]
    refine over_inv h (by lia) (fun x hx => sign_ok hs hch (by lia) x (List.mem_of_mem_take hx)) ((sign_tie hs).sublist (List.take_sublist _ _)) fun x hx _ => ?_
    rw [sign_id x (List.mem_of_mem_take hx)]; lia
/-- two signs -/
theorem two_tie {s t : Cell} {id id' : Int} (hs : s.w = 1 ∨ s.w = 2) (ht : t.w = 1 ∨ t.w = 2) (hne : id ≠ id') : (signL s id ++ signL t id').Pairwise Tie := by
  rw [List.pairwise_append]
  refine ⟨sign_tie hs, sign_tie ht, fun a ha b hb _ _ e => ?_⟩
  rw [sign_id a ha, sign_id b hb] at e
  exact absurd e hne
theorem two_inv {s t : Cell} {id id' : Int} (hs : s.w = 1 ∨ s.w = 2) (ht : t.w = 1 ∨ t.w = 2) (hcs : ∃ z, s.ch = [z] ∧ z ≠ 32) (hct : ∃ z, t.ch = [z] ∧ z ≠ 32) (hne : id ≠ id') : Inv (max id id') (signL s id ++ signL t id') where
  ok := fun x hx => by
    rcases List.mem_append.mp hx with q | q
    · exact sign_ok hs hcs (by omega) x q
    · exact sign_ok ht hct (by omega) x q
  rel := two_tie hs ht hne
  mended := by
    rw [mend_append, mend_sign hs, mend_sign ht]
    refine NJ.ofHead fun d e => ?_
    have : d = ⟨t, id'⟩ := by
      have q : (signL t id' ++ [])[0]? = some ⟨t, id'⟩ := signL_head
      rw [List.append_nil, e] at q
      exact Option.some.inj q
    rw [this]
    show t.w ≠ 0
    lia
theorem sign_last {s : Cell} {id : Int} (hs : s.w = 1 ∨ s.w = 2) : ∀ c, (signL s id)[(signL s id).length - 1]? = some c → c.cell.w ≠ 2 := by
  intro c e
  rcases hs with w | w
  · rw [signL_one w] at e
    cases e; show s.w ≠ 2; lia
  · rw [signL_two w] at e
    cases e; show (0 : Int) ≠ 2; decide
theorem put_cells_law (h : Inv n M) {s t : Cell} {id id' : Int} (hs : s.w = 1 ∨ s.w = 2) (ht : t.w = 1 ∨ t.w = 2) (hcs : ∃ z, s.ch = [z] ∧ z ≠ 32) (hct : ∃ z, t.ch = [z] ∧ z ≠ 32) (hne : id ≠ id') {col : Nat} (hc : col < M.length) :
    str (mend (laidK M col (signL s id ++ signL t id') (signL s id ++ signL t id').length)) = putCellsL (str M) col (str (signL s id ++ signL t id')) := by
  have hS := two_inv hs ht hcs hct hne
  have hlen : 0 < (signL s id ++ signL t id').length := by unfold signL; simp
  have hhead : (signL s id ++ signL t id')[0]? = some ⟨s, id⟩ := signL_head
  have hlast : ∀ c, (signL s id ++ signL t id')[(signL s id ++ signL t id').length - 1]? = some c → c.cell.w ≠ 2 := by
    intro c e
    rw [List.getElem?_append_right (by rw [List.length_append]; have : 0 < (signL t id').length := by { unfold signL; simp }; omega)] at e
    refine sign_last (id := id') ht c ?_
    rw [← e]; congr 1; rw [List.length_append]; lia
  generalize signL s id ++ signL t id' = X at hS hlen hhead hlast ⊢
  rw [laidK_over (by lia)]
  unfold putCellsL
  rw [if_neg (by
    rw [str_length]
    rintro (q | q)
    · omega
    · have := congrArg List.length q; rw [str_length, List.length_nil] at this; lia)]
  dsimp only
  rw [str_length, show (M.length : Int) - col - 1 = ((M.length - col : Nat) : Int) - 1 by lia]
  have e1 : lineSliceL (str X) 0 (((M.length - col : Nat) : Int) - 1) = str (mend (X.take (M.length - col))) := by
    have := lineSlice_str hS 0 (M.length - col)
    unfold sl' at this
    rw [List.drop_zero] at this
    exact this
  rw [e1, str_length, mend_length]
  have hl : (X.take (M.length - col)).length = min (M.length - col) X.length := List.length_take
  rw [over_str h (by lia) (by omega) (by
      intro d e
      rw [List.getElem?_take, if_pos (by lia), hhead] at e
      cases e; show s.w ≠ 0; lia) (by
      by_cases q : X.length ≤ M.length - col
      · left; rw [List.take_of_length_le q]; exact hlast
      · right; lia)]
  rw [show ((col : Int)).toNat = col by lia, show ((col : Int) + ((X.take (M.length - col)).length : Int)).toNat = col + (X.take (M.length - col)).length by lia]
theorem put_cells_inv (h : Inv n M) {s t : Cell} (hs : s.w = 1 ∨ s.w = 2) (ht : t.w = 1 ∨ t.w = 2) (hcs : ∃ z, s.ch = [z] ∧ z ≠ 32) (hct : ∃ z, t.ch = [z] ∧ z ≠ 32) {col : Nat} (hc : col < M.length) :
    Inv (n + 1 + 1) (mend (laidK M col (signL s (n + 1) ++ signL t (n + 1 + 1)) (signL s (n + 1) ++ signL t (n + 1 + 1)).length)) := by
  have hS := two_inv hs ht hcs hct (id := n + 1) (id' := n + 1 + 1) (by lia)
  rw [laidK_over (by lia)]
  refine over_inv h (by lia) (fun x hx => ((hS.ok x (List.mem_of_mem_take hx)).le (by lia))) (hS.rel.sublist (List.take_sublist _ _)) fun x hx _ => ?_
  rcases List.mem_append.mp (List.mem_of_mem_take hx) with q | q
  · rw [sign_id x q]; lia
  · rw [sign_id x q]; lia
end
end Mine
end
-- part P22
section
open PySem PySem.W PySem.Calls PyProof.Rows
set_option maxRecDepth 100000
namespace Mine
section
variable {n : Int} {M : List LCell}
theorem PI.repl (h : PI n M) {N : List LCell} (hl : N.length = M.length) (hN : ∀ (i : Nat) (c : LCell), M[i]? = some c → N[i]? = some c ∨ ∃ p, N[i]? = some (lblank p)) : PI n N where
  ok := by
    intro c hc
    obtain ⟨i, hi⟩ := List.mem_iff_getElem?.mp hc
    have hlt := (List.getElem?_eq_some_iff.mp hi).1
    have e : M[i]? = some M[i] := List.getElem?_eq_getElem (by omega)
    rcases hN i _ e with q | ⟨p, q⟩
    · rw [q] at hi; cases hi; exact h.ok _ (List.mem_of_getElem? e)
    · rw [q] at hi; cases hi; exact okC.lblank _ _
  rel := by
    refine List.pairwise_iff_getElem.mpr fun i j hi hj hij => ?_
    have ei : M[i]? = some M[i] := List.getElem?_eq_getElem (by omega)
    have ej : M[j]? = some M[j] := List.getElem?_eq_getElem (by omega)
    have fi : N[i]? = some N[i] := List.getElem?_eq_getElem hi
    have fj : N[j]? = some N[j] := List.getElem?_eq_getElem hj
    rcases hN i _ ei with q | ⟨p, q⟩
    · rcases hN j _ ej with r | ⟨p, r⟩
      · rw [fi] at q; rw [fj] at r
        rw [Option.some.inj q, Option.some.inj r]
        exact h.rel_at (Nat.ne_of_lt hij) ei ej
      · rw [fj] at r; rw [Option.some.inj r]; exact Tie.one (.inr rfl)
    · rw [fi] at q; rw [Option.some.inj q]; exact Tie.one (.inl rfl)
theorem erase_inv (h : Inv n M) {sel : Bool} {p : Pen} {l r : Nat} : Inv n (mend (eM sel p l r M)) :=
  PI.inv (h.toPI.repl eM_length fun i c e => by
    rw [eM_get, e, Option.map_some]
    split
    · exact .inr ⟨p, rfl⟩
    · exact .inl rfl)
theorem bord_cut {sel : Bool} {B : Int → Prop} (h : Inv n M) {x : Nat} (hB : ∀ c, M[x]? = some c → (cut B M)[x]? = some c) :
    bordL sel (str (cut B M)) x = str (cut (fun y => B y ∨ (y = (x : Int) ∧ ∃ c, M[x]? = some c ∧ keepG sel c.cell = false)) M) := by
  unfold bordL
  rw [str_get]
  cases e : M[x]? with
  | none =>
    have : (cut B M)[x]? = none := by rw [cut_get, e]; rfl
    rw [this]
    simp only [Option.map_none]
    congr 1
    refine cut_congr fun i c _ => ?_
    simp
  | some c =>
    rw [hB c e]
    simp only [Option.map_some]
    cases hk : keepG sel c.cell with
    | true =>
      rw [if_pos rfl]
      congr 1
      refine cut_congr fun i c' _ => ?_
      simp [hk]
    | false =>
      rw [if_neg (by decide), part_cut h]
      congr 1
      refine cut_congr fun i c' _ => ?_
      simp [hk]
theorem keepG_blank {sel : Bool} {p : Pen} : keepG sel (blank p) = false := by unfold keepG blank; simp
theorem erase_law (h : Inv n M) {sel : Bool} {p : Pen} {l r : Nat} (h1 : l ≤ r) (h2 : r < M.length) : str (mend (eM sel p l r M)) = eraseL sel p l r (str M) := by
  unfold eraseL
  have s1 : bordL sel (str M) l = str (cut (fun y => False ∨ (y = (l : Int) ∧ ∃ c, M[l]? = some c ∧ keepG sel c.cell = false)) M) := by
    have := bord_cut (sel := sel) (B := fun _ => False) (x := l) h (fun c e => by rw [cut_none]; exact e)
    rw [cut_none] at this
    exact this
  rw [s1, bord_cut h (fun c e => cut_miss e (by rintro (⟨_, q | ⟨q, _⟩⟩ | ⟨_, q | ⟨q, _⟩⟩) <;> lia))]
  refine List.ext_getElem? fun i => ?_
  rw [eraseR_get, str_get, str_get, mend_get, eM_get (i := i)]
  cases e : M[i]? with
  | none => rw [cut_get, e]; rfl
  | some c =>
    obtain ⟨dl, el⟩ : ∃ d, M[l]? = some d := ⟨_, List.getElem?_eq_getElem (by lia)⟩
    simp only [Option.map_some]
    -- neighbours in the erased list
    have E : ∀ j d, M[j]? = some d → (eM sel p l r M)[j]? = some (if (l ≤ j ∧ j ≤ r) ∧ keepG sel d.cell = false then lblank p else d) := fun j d ej => by rw [eM_get, ej]; rfl
    by_cases hin : l ≤ i ∧ i ≤ r
    · cases hk : keepG sel c.cell with
      | false =>
        rw [if_pos ⟨hin, rfl⟩, mendAt_one rfl]
        rw [cut_get, e]
        simp only [Option.map_some]
        split
        · have : keepG sel (lblank c.cell.pen).cell = false := keepG_blank
          rw [if_pos ⟨hin.1, by lia, this⟩]; rfl
        · rw [if_pos ⟨hin.1, by lia, hk⟩]; rfl
      | true =>
        rw [if_neg (by simp)]
        have miss : (cut (fun y => (False ∨ (y = (l : Int) ∧ ∃ c, M[l]? = some c ∧ keepG sel c.cell = false)) ∨ (y = ((r + 1 : Nat) : Int) ∧ ∃ c, M[r + 1]? = some c ∧ keepG sel c.cell = false)) M)[i]? = some c := by
          refine cut_miss e ?_
          rintro (⟨w, (q | ⟨q, _⟩) | ⟨q, d, ed, hd⟩⟩ | ⟨w, (q | ⟨q, d, ed, hd⟩) | ⟨q, _⟩⟩)
          · exact q
          · lia
          · have hi : r + 1 = i + 1 := by lia
            rw [hi] at ed
            obtain ⟨f, ef, wf, _⟩ := h.right e w
            rw [ed] at ef; cases ef
            have := h.guard e ed w wf
            unfold keepG at hk hd
            rw [← this] at hd
            rw [hk] at hd; cases hd
          · exact q
          · have hi : l = i := by lia
            subst hi
            rw [ed] at e; cases e
            rw [hk] at hd; cases hd
          · lia
        rw [miss]
        simp only [Option.map_some]
        rw [if_neg (by rw [hk]; simp)]
        congr 1
        rcases h.w3 e with w | w | w
        · obtain ⟨j, d, hj, ed, wd, hid⟩ := h.left e w
          subst hj
          have hg := h.guard ed e wd w
          have hkd : keepG sel d.cell = true := by unfold keepG at hk ⊢; rw [hg]; exact hk
          rw [mendAt_zero w]
          have : mL c (prev (eM sel p l r M) (j + 1)) = true := by
            unfold prev
            rw [if_neg (by lia), Nat.add_sub_cancel, E j d ed, if_neg (by rw [hkd]; simp)]
            simp [mL, wd, hid]
          rw [if_pos this]
        · rw [mendAt_one w]
        · obtain ⟨d, ed, wd, hid⟩ := h.right e w
          have hg := h.guard e ed w wd
          have hkd : keepG sel d.cell = true := by unfold keepG at hk ⊢; rw [← hg]; exact hk
          rw [mendAt_two w]
          have : mR c (eM sel p l r M)[i + 1]? = true := by
            rw [E (i + 1) d ed, if_neg (by rw [hkd]; simp)]
            simp [mR, wd, hid]
          rw [if_pos this]
    · rw [if_neg (fun q => hin q.1)]
      rcases h.w3 e with w | w | w
      · obtain ⟨j, d, hj, ed, wd, hid⟩ := h.left e w
        subst hj
        have hg := h.guard ed e wd w
        have hkd : keepG sel d.cell = keepG sel c.cell := by unfold keepG; rw [hg]
        rw [mendAt_zero w]
        have hpv : prev (eM sel p l r M) (j + 1) = some (if (l ≤ j ∧ j ≤ r) ∧ keepG sel d.cell = false then lblank p else d) := by
          unfold prev
          rw [if_neg (by lia), Nat.add_sub_cancel, E j d ed]
        rw [hpv]
        by_cases hc : j + 1 = r + 1 ∧ keepG sel c.cell = false
        · rw [if_pos (c := (l ≤ j ∧ j ≤ r) ∧ _) ⟨by lia, by rw [hkd]; exact hc.2⟩]
          rw [if_neg (by simp [mL, lblank, blank])]
          rw [cut_hit e (.inr ⟨w, .inr ⟨by lia, c, by rw [← hc.1]; exact e, hc.2⟩⟩)]
          simp only [Option.map_some]
          rw [if_neg (by lia)]
        · rw [if_neg (c := (l ≤ j ∧ j ≤ r) ∧ _) (fun q => hc ⟨by lia, by rw [← hkd]; exact q.2⟩)]
          rw [if_pos (by simp [mL, wd, hid])]
          rw [cut_miss e]
          · simp only [Option.map_some]
            rw [if_neg (by omega)]
          · rintro (⟨q, _⟩ | ⟨_, (q | ⟨q, _⟩) | ⟨q, f, ef, hf⟩⟩)
            · lia
            · exact q
            · lia
            · have hr : r + 1 = j + 1 := by lia
              rw [hr, e] at ef
              cases ef
              exact hc ⟨by lia, hf⟩
      · rw [mendAt_one w, cut_miss e (by omega)]
        simp only [Option.map_some]
        rw [if_neg (by lia)]
      · obtain ⟨d, ed, wd, hid⟩ := h.right e w
        rw [mendAt_two w, E (i + 1) d ed]
        by_cases hc : i + 1 = l ∧ keepG sel d.cell = false
        · rw [if_pos (c := (l ≤ i + 1 ∧ i + 1 ≤ r) ∧ _) ⟨by lia, hc.2⟩]
          rw [if_neg (by simp [mR, lblank, blank])]
          rw [cut_hit e (.inl ⟨w, .inl (.inr ⟨by lia, d, by rw [← hc.1]; exact ed, hc.2⟩)⟩)]
          simp only [Option.map_some]
          rw [if_neg (by lia)]
        · rw [if_neg (c := (l ≤ i + 1 ∧ i + 1 ≤ r) ∧ _) (fun q => hc ⟨by lia, q.2⟩)]
          rw [if_pos (by simp [mR, wd, hid])]
          rw [cut_miss e]
          · simp only [Option.map_some]
            rw [if_neg (by lia)]
          · rintro (⟨_, (q | ⟨q, f, ef, hf⟩) | ⟨q, _⟩⟩ | ⟨q, _⟩)
            · exact q
            · have hr : l = i + 1 := by lia
              rw [hr, ed] at ef
              cases ef
              exact hc ⟨by lia, hf⟩
            · lia
            · lia
end
end Mine
end
-- part P23
section
open PySem PySem.W PySem.Calls PyProof.Rows
set_option maxRecDepth 100000
namespace Mine
section
variable {n : Int} {M : List LCell}
theorem mend_drop_mend {Q : List LCell} (h3 : ∀ c ∈ Q, c.cell.w = 0 ∨ c.cell.w = 1 ∨ c.cell.w = 2) (k : Nat) : mend ((mend Q).drop k) = mend (Q.drop k) := by
  refine List.ext_getElem? fun i => ?_
  rw [mend_get, mend_get, List.getElem?_drop, List.getElem?_drop, List.getElem?_drop, List.getElem?_drop, mend_get Q (k + i)]
  cases e : Q[k + i]? with
  | none => rfl
  | some c =>
    simp only [Option.map_some]
    congr 1
    have pd : ∀ R : List LCell, prev (R.drop k) i = if i = 0 then none else R[k + i - 1]? := by
      intro R
      unfold prev
      split
      · rfl
      · rw [List.getElem?_drop]; congr 1; lia
    rcases h3 c (List.mem_of_getElem? e) with w | w | w
    · rw [mendAt_zero w, mendAt_zero w, pd]
      by_cases hm : mL c (prev Q (k + i)) = true
      · rw [if_pos hm, mendAt_zero w, pd]
        by_cases i0 : i = 0
        · rw [if_pos i0, if_pos i0]
        · rw [if_neg i0, if_neg i0]
          have hp : prev Q (k + i) = Q[k + i - 1]? := by unfold prev; rw [if_neg (by lia)]
          rw [hp] at hm
          rw [if_pos hm]
          cases e1 : Q[k + i - 1]? with
          | none => rw [e1] at hm; cases hm
          | some d =>
            rw [e1] at hm
            simp only [mL, Bool.and_eq_true, beq_iff_eq] at hm
            have : (mend Q)[k + i - 1]? = some d := by
              rw [mend_get, e1, Option.map_some, mendAt_two hm.1, show k + i - 1 + 1 = k + i by lia, e]
              rw [if_pos (by simp [mR, w, hm.2])]
            rw [this]
            rw [if_pos (by simp [mL, hm])]
      · rw [if_neg hm, mendAt_one rfl, pd]
        by_cases i0 : i = 0
        · rw [if_pos i0]; simp [mL]
        · rw [if_neg i0]
          have hp : prev Q (k + i) = Q[k + i - 1]? := by unfold prev; rw [if_neg (by lia)]
          rw [hp] at hm
          rw [if_neg hm]
    · rw [mendAt_one w, mendAt_one w, mendAt_one w]
    · rw [mendAt_two w, mendAt_two w, show k + (i + 1) = k + i + 1 by lia]
      by_cases hm : mR c Q[k + i + 1]? = true
      · rw [if_pos hm, mendAt_two w]
        cases e1 : Q[k + i + 1]? with
        | none => rw [e1] at hm; cases hm
        | some d =>
          rw [e1] at hm
          simp only [mR, Bool.and_eq_true, beq_iff_eq] at hm
          have : (mend Q)[k + i + 1]? = some d := by
            rw [mend_get, e1, Option.map_some, mendAt_zero hm.1]
            have : mL d (prev Q (k + i + 1)) = true := by
              unfold prev
              rw [if_neg (by lia), Nat.add_sub_cancel, e]
              simp [mL, w, hm.2]
            rw [if_pos this]
          rw [this]
          rw [if_pos (by simp [mR, hm])]
      · rw [if_neg hm, mendAt_one rfl]
theorem fillC_w (p : Pen) : (⟨[120], 1, p, false⟩ : Cell).w = 1 := rfl
theorem fill_go (h : Inv n M) (p : Pen) (l : Nat) : ∀ k : Nat, l + k ≤ M.length →
    fillL ⟨[120], 1, p, false⟩ l k (str M) = str (mend (M.take l ++ List.replicate k ⟨⟨[120], 1, p, false⟩, 0⟩ ++ M.drop (l + k))) ∧ Inv n (mend (M.take l ++ List.replicate k ⟨⟨[120], 1, p, false⟩, 0⟩ ++ M.drop (l + k))) := by
  intro k
  have inv : ∀ k, Inv n (mend (M.take l ++ List.replicate k ⟨⟨[120], 1, p, false⟩, 0⟩ ++ M.drop (l + k))) := fun k =>
    PI.inv (h.toPI.mix (take_drop_sub (Nat.le_add_right _ _)) (Int.le_refl _) (fun x hx => by
      rw [(List.mem_replicate.mp hx).2]
      exact ⟨.inr (.inl rfl), fun q => absurd rfl q, by simp, by simp⟩) (by
      refine List.pairwise_iff_getElem.mpr fun i j hi hj _ => ?_
      rw [List.getElem_replicate]
      exact Tie.one (.inl rfl)) fun x hx q => by
      rw [(List.mem_replicate.mp hx).2] at q
      exact absurd rfl q)
  induction k with
  | zero =>
    intro _
    refine ⟨?_, inv 0⟩
    simp only [List.replicate_zero, List.append_nil, Nat.add_zero, List.take_append_drop]
    rw [h.mended]; rfl
  | succ k ih =>
    intro hk
    refine ⟨?_, inv (k + 1)⟩
    obtain ⟨ih1, ih2⟩ := ih (by lia)
    show putL (fillL _ l k (str M)) ((l + k : Nat) : Int) _ = _
    rw [ih1, ← put_law ih2 (id := 0) (.inl rfl) (l + k)]
    congr 1
    have hX : ∀ k : Nat, ∀ c ∈ List.replicate k (⟨⟨[120], 1, p, false⟩, 0⟩ : LCell), c.cell.w = 1 := fun k c hc => by rw [(List.mem_replicate.mp hc).2]
    have j1 : ∀ k, NJ (M.take l) (List.replicate k (⟨⟨[120], 1, p, false⟩, 0⟩ : LCell)) := fun k => NJ.ofHead fun d e => by
      rw [hX k d (List.mem_of_getElem? e)]; decide
    have lastw : ∀ (A X : List LCell), (∀ c ∈ X, c.cell.w = 1) → 0 < X.length → ∀ c, (A ++ X)[(A ++ X).length - 1]? = some c → c.cell.w ≠ 2 := by
      intro A X hX hx c e
      rw [List.getElem?_append_right (by simp; lia)] at e
      rw [hX c (List.mem_of_getElem? e)]; decide
    have ml : mend (M.take l ++ List.replicate (k + 1) ⟨⟨[120], 1, p, false⟩, 0⟩ ++ M.drop (l + (k + 1))) = mend (M.take l) ++ List.replicate (k + 1) ⟨⟨[120], 1, p, false⟩, 0⟩ ++ mend (M.drop (l + (k + 1))) := by
      rw [mend_append (NJ.ofLast (lastw _ _ (hX (k + 1)) (by simp))), mend_append (j1 _), mend_ones (hX _)]
    rw [ml]
    by_cases k0 : k = 0
    · subst k0
      have e0 : mend (M.take l ++ List.replicate 0 (⟨⟨[120], 1, p, false⟩, 0⟩ : LCell) ++ M.drop (l + 0)) = M := by
        simp only [List.replicate_zero, List.append_nil, Nat.add_zero, List.take_append_drop]
        exact h.mended
      rw [e0, signL_one rfl, laidK_over (by lia), List.take_of_length_le (by simp; lia)]
      unfold over
      rw [mend_append (NJ.ofLast (lastw _ _ (by simp) (by simp))), mend_append (NJ.ofHead (by intro d e; cases e; show (1 : Int) ≠ 0; decide)), mend_one, mendAt_one rfl]
      rfl
    · have mk : mend (M.take l ++ List.replicate k ⟨⟨[120], 1, p, false⟩, 0⟩ ++ M.drop (l + k)) = mend (M.take l) ++ List.replicate k ⟨⟨[120], 1, p, false⟩, 0⟩ ++ mend (M.drop (l + k)) := by
        rw [mend_append (NJ.ofLast (lastw _ _ (hX k) (by simp; lia))), mend_append (j1 _), mend_ones (hX _)]
      rw [mk]
      have hlen : (mend (M.take l) ++ List.replicate k (⟨⟨[120], 1, p, false⟩, 0⟩ : LCell) ++ mend (M.drop (l + k))).length = M.length := by
        simp [mend_length]; lia
      rw [signL_one rfl, laidK_over (by lia), List.take_of_length_le (l := [(⟨⟨[120], 1, p, false⟩, 0⟩ : LCell)]) (by rw [hlen]; simp; lia)]
      unfold over
      have hlen2 : (mend (M.take l) ++ List.replicate k (⟨⟨[120], 1, p, false⟩, 0⟩ : LCell)).length = l + k := by simp [mend_length]; lia
      rw [List.take_left' hlen2]
      have hd : (mend (M.take l) ++ List.replicate k (⟨⟨[120], 1, p, false⟩, 0⟩ : LCell) ++ mend (M.drop (l + k))).drop (l + k + 1) = (mend (M.drop (l + k))).drop 1 := by
        rw [← List.drop_drop, List.drop_left' hlen2]
      show mend (_ ++ _ ++ List.drop (l + k + 1) _) = _
      rw [hd]
      rw [mend_append (NJ.ofLast (lastw _ _ (by simp) (by simp))), mend_append (NJ.ofHead (by intro d e; cases e; show (1 : Int) ≠ 0; decide)), mend_one, mendAt_one rfl]
      rw [mend_append (NJ.ofHead fun d e => by rw [hX k d (List.mem_of_getElem? e)]; decide), mend_ones (hX k)]
      rw [mend_mend (fun c hc => (h.ok c (List.mem_of_mem_take hc)).w3)]
      rw [mend_drop_mend (fun c hc => (h.ok c (List.mem_of_mem_drop hc)).w3), List.drop_drop]
      rw [List.append_assoc (mend (M.take l)), ← List.replicate_succ', show l + k + 1 = l + (k + 1) by lia]
/-- what stands behind a shift -/
theorem sl_str {A : List LCell} {a b : Nat} : ((str A).take b).drop a = str (sl' A a b) := by unfold sl'; rw [str_drop, str_take]
theorem last_drop {A : List LCell} {k : Nat} : NJ A (M.drop k) → NJ A (M.drop k) := id
theorem str_rep {k : Nat} {p : Pen} : str (List.replicate k (lblank p)) = List.replicate k (blank p) := by unfold str; rw [List.map_replicate]; rfl
theorem rep_one {k : Nat} {p : Pen} : ∀ c ∈ List.replicate k (lblank p), c.cell.w = 1 := fun c hc => by rw [(List.mem_replicate.mp hc).2]; rfl
theorem take_last {A : List LCell} {l : Nat} {c : LCell} (h : (A.take l)[(A.take l).length - 1]? = some c) : ∃ i, i + 1 = min l A.length ∧ A[i]? = some c := by
  have hl := (List.getElem?_eq_some_iff.mp h).1
  rw [List.length_take] at hl h
  rw [List.getElem?_take, if_pos (by lia)] at h
  exact ⟨_, by lia, h⟩
theorem tnat {a : Int} {b : Nat} (h : a = b) : a.toNat = b := by rw [h]; rfl
theorem sl_len {a b : Nat} (h : b ≤ M.length) : (sl' M a b).length = b - a := by unfold sl'; rw [List.length_drop, List.length_take, Nat.min_eq_left h]
theorem sl_nil {a b : Nat} (h : b ≤ a) : sl' M a b = [] := by unfold sl'; exact List.drop_eq_nil_of_le (Nat.le_trans (List.length_take_le _ _) h)
theorem rep_last {k : Nat} {p : Pen} (k1 : 1 ≤ k) (A : List LCell) (c) (e : (A ++ List.replicate k (lblank p))[(A ++ List.replicate k (lblank p)).length - 1]? = some c) : c.cell.w ≠ 2 := by
  rw [List.getElem?_append_right (by rw [List.length_append, List.length_replicate]; lia)] at e
  rw [rep_one c (List.mem_of_getElem? e)]; decide
theorem delete_law (h : Inv n M) {p : Pen} {l r k t : Nat} (ht : l + (k + t) = r + 1) (h2 : r < M.length) (k1 : 1 ≤ k) {many : Int} (hm : max 0 (min many ((r : Int) - l + 1)) = k) :
    str (mend (M.take l ++ (sl' M (l + k) (l + (k + t)) ++ List.replicate k (lblank p)) ++ M.drop (l + (k + t)))) = shiftL (str M) l many r p true := by
  unfold shiftL
  rw [hm, show (r : Int) + 1 = ((l + (k + t) : Nat) : Int) by lia]
  dsimp only
  simp only [if_true]
  rw [show (l : Int) + k = ((l + k : Nat) : Int) by lia, part_str h, part_cut h, part_cut h, part_cut h]
  generalize hB : (fun x : Int => ((x = (l : Int) ∨ x = ((l + (k + t) : Nat) : Int)) ∨ x = ((l + k : Nat) : Int)) ∨ x = ((l + (k + t) : Nat) : Int)) = B
  have b1 : B l := by rw [← hB]; exact .inl (.inl (.inl rfl))
  have b2 : B ((l + (k + t) : Nat) : Int) := by rw [← hB]; exact .inr rfl
  have b3 : B ((l + k : Nat) : Int) := by rw [← hB]; exact .inl (.inr rfl)
  have b4 : ∀ x, B x → x = l ∨ x = ((l + k : Nat) : Int) ∨ x = ((l + (k + t) : Nat) : Int) := by
    rw [← hB]
    rintro x (((q | q) | q) | q)
    · exact .inl q
    · exact .inr (.inr q)
    · exact .inr (.inl q)
    · exact .inr (.inr q)
  clear hm
  rw [Int.toNat_natCast, Int.toNat_natCast, Int.toNat_natCast, Int.toNat_natCast]
  rw [sl_str, slice_cut h (by lia) (by lia) (.inr b3) (.inr b2) (fun x q1 q2 q3 => by have := b4 x q3; lia)]
  rw [← str_take, ← str_drop, take_cut h (by lia) (.inr b1) (fun x q1 q2 q3 => by have := b4 x q3; lia), drop_cut h (by lia) (.inr b2) (fun x q1 q2 q3 => by have := b4 x q3; lia)]
  have j1 : NJ (M.take l ++ (sl' M (l + k) (l + (k + t)) ++ List.replicate k (lblank p))) (M.drop (l + (k + t))) := by
    rw [← List.append_assoc]
    exact NJ.ofLast (rep_last k1 _)
  have j2 : NJ (M.take l) (sl' M (l + k) (l + (k + t)) ++ List.replicate k (lblank p)) := by
    intro c d e1 e2
    obtain ⟨i, hi, ei⟩ := take_last e1
    by_cases q : 0 < (sl' M (l + k) (l + (k + t))).length
    · rw [List.getElem?_append_left q, sl_get] at e2
      split at e2
      · intro w
        have hi2 : i + 1 ≤ l := by rw [hi]; exact Nat.min_le_left _ _
        exact h.far ei e2 w.1 w.2.1 (by lia) w.2.2
      · cases e2
    · rw [List.getElem?_append_right (Nat.le_of_not_lt q)] at e2
      intro w
      rw [rep_one d (List.mem_of_getElem? e2)] at w
      exact absurd w.2.1 (by decide)
  have j3 : NJ (sl' M (l + k) (l + (k + t))) (List.replicate k (lblank p)) := NJ.ofHead fun d e => by rw [rep_one d (List.mem_of_getElem? e)]; decide
  rw [mend_append j1, mend_append j2, mend_append j3, mend_ones rep_one]
  simp only [str_append, str_rep]
theorem insert_law (h : Inv n M) {p : Pen} {l r k t : Nat} (ht : l + (k + t) = r + 1) (h2 : r < M.length) (k1 : 1 ≤ k) {many : Int} (hm : max 0 (min many ((r : Int) - l + 1)) = k) :
    str (mend (M.take l ++ (List.replicate k (lblank p) ++ sl' M l (l + t)) ++ M.drop (l + (k + t)))) = shiftL (str M) l many r p false := by
  unfold shiftL
  rw [hm, show (r : Int) + 1 = ((l + (k + t) : Nat) : Int) by lia]
  dsimp only
  simp only [Bool.false_eq_true, if_false]
  rw [show ((l + (k + t) : Nat) : Int) - k = ((l + t : Nat) : Int) by lia, part_str h, part_cut h, part_cut h, part_cut h]
  generalize hB : (fun x : Int => ((x = (l : Int) ∨ x = ((l + (k + t) : Nat) : Int)) ∨ x = (l : Int)) ∨ x = ((l + t : Nat) : Int)) = B
  have b1 : B l := by rw [← hB]; exact .inl (.inl (.inl rfl))
  have b2 : B ((l + (k + t) : Nat) : Int) := by rw [← hB]; exact .inl (.inl (.inr rfl))
  have b3 : B ((l + t : Nat) : Int) := by rw [← hB]; exact .inr rfl
  have b4 : ∀ x, B x → x = l ∨ x = ((l + t : Nat) : Int) ∨ x = ((l + (k + t) : Nat) : Int) := by
    rw [← hB]
    rintro x (((q | q) | q) | q)
    · exact .inl q
    · exact .inr (.inr q)
    · exact .inl q
    · exact .inr (.inl q)
  clear hm
  rw [Int.toNat_natCast, Int.toNat_natCast, Int.toNat_natCast, Int.toNat_natCast]
  rw [sl_str, slice_cut h (by lia) (by lia) (.inr b1) (.inr b3) (fun x q1 q2 q3 => by have := b4 x q3; lia)]
  rw [← str_take, ← str_drop, take_cut h (by lia) (.inr b1) (fun x q1 q2 q3 => by have := b4 x q3; lia), drop_cut h (by lia) (.inr b2) (fun x q1 q2 q3 => by have := b4 x q3; lia)]
  have hsl : (sl' M l (l + t)).length = t := by rw [sl_len (by lia), Nat.add_sub_cancel_left]
  have j1 : NJ (M.take l ++ (List.replicate k (lblank p) ++ sl' M l (l + t))) (M.drop (l + (k + t))) := by
    rw [← List.append_assoc]
    cases t with
    | zero =>
      rw [sl_nil (a := l) (b := l + 0) (Nat.le_refl _), List.append_nil]
      exact NJ.ofLast (rep_last k1 _)
    | succ u =>
      intro c d e1 e2
      rw [List.length_append, hsl, show (M.take l ++ List.replicate k (lblank p)).length + (u + 1) - 1 = (M.take l ++ List.replicate k (lblank p)).length + u from rfl, List.getElem?_append_right (Nat.le_add_right _ _), Nat.add_sub_cancel_left, sl_get, if_pos (by lia)] at e1
      rw [List.getElem?_drop] at e2
      intro w
      exact h.far e1 e2 w.1 w.2.1 (by lia) w.2.2
  have j2 : NJ (M.take l) (List.replicate k (lblank p) ++ sl' M l (l + t)) := NJ.ofHead fun d e => by
    rw [List.getElem?_append_left (by rw [List.length_replicate]; exact k1)] at e
    rw [rep_one d (List.mem_of_getElem? e)]; decide
  have j3 : NJ (List.replicate k (lblank p)) (sl' M l (l + t)) := NJ.ofLast fun c e => by rw [rep_one c (List.mem_of_getElem? e)]; decide
  rw [mend_append j1, mend_append j2, mend_append j3, mend_ones rep_one]
  simp only [str_append, str_rep]
theorem rep_tie {k : Nat} {p : Pen} : (List.replicate k (lblank p)).Pairwise Tie := by
  refine List.pairwise_iff_getElem.mpr fun i j hi hj _ => ?_
  rw [List.getElem_replicate]
  exact Tie.one (.inl rfl)
theorem rep_ok {n : Int} {k : Nat} {p : Pen} : ∀ x ∈ List.replicate k (lblank p), okC n x := fun x hx => by rw [(List.mem_replicate.mp hx).2]; exact okC.lblank _ _
theorem delete_inv (h : Inv n M) {p : Pen} {l k t : Nat} : Inv n (mend (M.take l ++ (sl' M (l + k) (l + (k + t)) ++ List.replicate k (lblank p)) ++ M.drop (l + (k + t)))) := by
  rw [← List.append_assoc]
  refine PI.inv (h.toPI.mix ?_ (Int.le_refl _) rep_ok rep_tie fun x hx q => absurd (rep_one x hx) q)
  unfold sl'
  have e : M.take (l + (k + t)) ++ M.drop (l + (k + t)) = M := List.take_append_drop _ M
  have s1 : (M.take l ++ (M.take (l + (k + t))).drop (l + k)).Sublist (M.take (l + (k + t))) := by
    have := take_drop_sub (M := M.take (l + (k + t))) (a := l) (b := l + k) (Nat.le_add_right _ _)
    rw [List.take_take, Nat.min_eq_left (Nat.le_add_right _ _)] at this
    exact this
  have := s1.append (List.Sublist.refl (M.drop (l + (k + t))))
  rwa [e] at this
theorem insert_inv (h : Inv n M) {p : Pen} {l k t : Nat} : Inv n (mend (M.take l ++ (List.replicate k (lblank p) ++ sl' M l (l + t)) ++ M.drop (l + (k + t)))) := by
  rw [← List.append_assoc, List.append_assoc (M.take l ++ _)]
  refine PI.inv (h.toPI.mix ?_ (Int.le_refl _) rep_ok rep_tie fun x hx q => absurd (rep_one x hx) q)
  have s1 : (sl' M l (l + t) ++ M.drop (l + (k + t))).Sublist (M.drop l) := by
    unfold sl'
    rw [List.drop_take, Nat.add_sub_cancel_left, ← List.drop_drop]
    exact take_drop_sub (Nat.le_add_left _ _)
  have := (List.Sublist.refl (M.take l)).append s1
  rwa [List.take_append_drop] at this
end
end Mine
end
-- part P24
section
open PySem PySem.W PySem.Calls PyProof.Rows
set_option maxRecDepth 100000
namespace Mine
section
variable {n : Int} {M : List LCell}
theorem code_eq {c : LCell} (h : okC n c) : codeC c.cell = codeM c := by
  unfold codeC codeM
  rcases h.1 with q | q | q
  · rw [if_pos q.1, if_pos q.2, if_neg (by lia)]
  · rw [if_neg (by lia)]
    by_cases e : c.cell.ch = []
    · rw [if_pos e, if_pos e, if_pos q]
    · rw [if_neg e, if_neg e]
  · rw [if_neg (by lia), if_neg q.2, if_neg q.2]
theorem ch_one {c : LCell} (h : okC n c) (e : c.cell.ch ≠ []) : ∃ z, c.cell.ch = [z] ∧ z ≠ 32 := by
  have h1 := h.2.2.1
  have h2 := h.2.2.2
  cases q : c.cell.ch with
  | nil => exact absurd q e
  | cons z t =>
    rw [q] at h1 h2
    have : t = [] := by cases t with | nil => rfl | cons _ _ => simp at h2
    subst this
    exact ⟨z, rfl, h1 z (by simp)⟩
theorem take_flat (f : LCell → List Int) {k : Nat} {c : LCell} (e : M[k]? = some c) : (M.take (k + 1)).flatMap f = (M.take k).flatMap f ++ f c := by
  rw [List.take_add_one, e]; simp
theorem flat_code {N : List LCell} (h : ∀ c ∈ N, okC n c) : (str N).flatMap codeC = N.flatMap codeM := by
  induction N with
  | nil => rfl
  | cons c t ih =>
    show codeC c.cell ++ (str t).flatMap codeC = codeM c ++ t.flatMap codeM
    rw [ih fun d hd => h d (List.mem_cons_of_mem _ hd), code_eq (h c List.mem_cons_self)]
theorem pop_go (h : Inv n M) : ∀ k : Nat, k ≤ M.length → popT ((M.take k).flatMap codeM) = (M.take (trimN isBl (str M) k)).flatMap codeM := by
  intro k
  induction k with
  | zero => intro _; rfl
  | succ k ih =>
    intro hk
    have hlt : k < M.length := hk
    have e : M[k]? = some M[k] := List.getElem?_eq_getElem hlt
    generalize M[k] = c at e
    have ok := h.ok c (List.mem_of_getElem? e)
    rw [trimN_succ, str_get, e]
    simp only [Option.map_some, Option.any_some]
    by_cases hb : isBl c.cell = true
    · rw [if_pos hb, take_flat codeM e]
      unfold isBl at hb
      simp only [Bool.and_eq_true, List.isEmpty_iff, beq_iff_eq] at hb
      have : codeM c = [32] := by unfold codeM; rw [if_pos hb.1, if_pos hb.2]
      rw [this, popT_32]
      exact ih (by lia)
    · rw [if_neg hb]
      by_cases hc : c.cell.ch = []
      · have w : c.cell.w = 0 := by
          rcases ok.1 with q | q | q
          · exact q.1
          · exfalso; apply hb; unfold isBl; simp [hc, q]
          · exact absurd hc q.2
        obtain ⟨j, d, hj, e1, w1, _⟩ := h.left e w
        have okd := h.ok d (List.mem_of_getElem? e1)
        have hdch : d.cell.ch ≠ [] := by
          rcases okd.1 with q | q | q
          · lia
          · lia
          · exact q.2
        obtain ⟨z, hz, hz2⟩ := ch_one okd hdch
        have cm : codeM c = [] := by unfold codeM; rw [if_pos hc, if_neg (by lia)]
        have dm : codeM d = [z] := by unfold codeM; rw [if_neg hdch, hz]
        rw [take_flat codeM e, cm, List.append_nil, hj, take_flat codeM e1, dm, popT_ne hz2]
      · obtain ⟨z, hz, hz2⟩ := ch_one ok hc
        have cm : codeM c = [z] := by unfold codeM; rw [if_neg hc, hz]
        rw [take_flat codeM e, cm, popT_ne hz2]
theorem codes_eq (h : Inv n M) : lineCodes (str M) = popT (M.flatMap codeM) := by
  have := pop_go h M.length (Nat.le_refl _)
  rw [List.take_length] at this
  unfold lineCodes
  rw [this, str_length, ← str_take]
  exact flat_code fun c hc => h.ok c (List.mem_of_mem_take hc)
theorem sl_sub {a b : Nat} : (sl' M a b).Sublist M := (List.drop_sublist _ _).trans (List.take_sublist _ _)
theorem slice_inv (h : Inv n M) (a b : Nat) : Inv n (mend (sl' M a b)) := PI.inv ⟨fun c hc => h.ok c (sl_sub.subset hc), h.rel.sublist sl_sub⟩
theorem codes_law (h : Inv n M) (l r : Nat) : lineCodes (lineSliceL (str M) l r) = popT ((mend (sl' M l (r + 1))).flatMap codeM) := by
  have := lineSlice_str h l (r + 1)
  rw [show ((r + 1 : Nat) : Int) - 1 = r by lia] at this
  rw [this, codes_eq (slice_inv h l (r + 1))]
theorem codes_law_all (h : Inv n M) : lineCodes (lineSliceL (str M) 0 ((str M).length - 1)) = popT ((mend M).flatMap codeM) := by
  have := lineSlice_str h 0 M.length
  rw [str_length]
  rw [show ((0 : Nat) : Int) = 0 from rfl] at this
  rw [this, codes_eq (slice_inv h 0 _)]
  unfold sl'
  rw [List.take_length, List.drop_zero]
noncomputable def usedM (M : List LCell) (k : Nat) : List Nat := (List.range k).filter fun i => !(M[i]?.any fun c => isPB c.cell)
theorem usedM_succ {k : Nat} : usedM M (k + 1) = usedM M k ++ if (M[k]?.any fun c => isPB c.cell) = true then [] else [k] := by
  unfold usedM
  rw [List.range_succ, List.filter_append]
  congr 1
  cases q : M[k]?.any fun c => isPB c.cell <;> simp [q]
theorem used_go : ∀ k : Nat, trimN isPB (str M) k = match (usedM M k).getLast? with | none => 0 | some i => i + 1 := by
  intro k
  induction k with
  | zero => rfl
  | succ k ih =>
    rw [trimN_succ, usedM_succ, str_get]
    have : (Option.map (fun x : LCell => x.cell) M[k]?).any isPB = M[k]?.any fun c => isPB c.cell := by cases M[k]? <;> rfl
    rw [this]
    cases q : M[k]?.any fun c => isPB c.cell
    · simp
    · simp [ih]
theorem sl_zero {b : Nat} : sl' M 0 b = M.take b := by unfold sl'; rw [List.drop_zero]
theorem resized_law (h : Inv n M) {p : Pen} {m k : Nat} (hk : k ≤ M.length + m) : str (mend ((M ++ List.replicate m (lblank p)).take k)) = resizedL (str M) k p := by
  unfold resizedL
  dsimp only
  rw [str_length]
  by_cases hl : k < M.length
  · rw [if_pos hl]
    have := lineSlice_str h 0 k
    rw [show ((0 : Nat) : Int) = 0 from rfl] at this
    rw [this, sl_zero, List.take_append_of_le_length (by lia), str_length, mend_length]
    rw [show k - (M.take k).length = 0 by rw [List.length_take]; lia, List.replicate_zero, List.append_nil]
  · rw [if_neg hl, str_length, List.take_append, List.take_of_length_le (by lia), List.take_replicate, Nat.min_eq_left (by lia)]
    rw [mend_append (NJ.ofHead fun d e => by rw [rep_one d (List.mem_of_getElem? e)]; decide), h.mended, mend_ones rep_one, str_append, str_rep]
theorem resized_inv (h : Inv n M) {p : Pen} {m k : Nat} : Inv n (mend ((M ++ List.replicate m (lblank p)).take k)) := by
  have a := h.toPI.mix (A := M) (B := []) (X := List.replicate m (lblank p)) (by simp) (Int.le_refl _) rep_ok rep_tie fun x hx q => absurd (rep_one x hx) q
  rw [List.append_nil] at a
  have s : ((M ++ List.replicate m (lblank p)).take k).Sublist (M ++ List.replicate m (lblank p)) := List.take_sublist _ _
  exact PI.inv ⟨fun c hc => a.ok c (s.subset hc), a.rel.sublist s⟩
end
end Mine
end
-- part P25
section
open PySem PySem.W PySem.Calls PyProof.Rows
set_option maxRecDepth 100000
namespace Mine
theorem sliceG_to {α : Type} {l : List α} {a : Nat} : sliceG l none (some (a : Int)) = l.take a := by
  unfold sliceG
  simp only [Option.elim]
  rw [clipAt_nat, List.drop_zero, Nat.sub_zero]
  by_cases h : a ≤ l.length
  · rw [Nat.min_eq_left h]
  · rw [Nat.min_eq_right (by lia), List.take_of_length_le (Nat.le_refl _), List.take_of_length_le (by lia)]
theorem sliceG_from {α : Type} {l : List α} {a : Nat} : sliceG l (some (a : Int)) none = l.drop a := by
  unfold sliceG
  simp only [Option.elim]
  rw [clipAt_nat]
  by_cases h : a ≤ l.length
  · rw [Nat.min_eq_left h, List.take_of_length_le (by simp)]
  · rw [Nat.min_eq_right (by lia), Nat.sub_self, List.take_zero, List.drop_eq_nil_of_le (by lia)]
section
variable {P : AV → Store → Prop} {σ : Store}
theorem three_ {X : XE AV} {mi l r : Nat} {M Y : List LCell} {a0 a1 a3 a4 a5 a7 a8 a10 a11 a12 a13 : Option AV} (h : σ[mi]? = some (.list (M.map LCell.av))) (hl : M.length ≤ 100) (hY : Y.length ≤ 100)
    (hX : ∀ σ1 (R : AV → Store → Prop), Keep0 σ σ1 → (∀ k σ2, σ2[k]? = some (.list (Y.map LCell.av)) → Keep0 σ1 σ2 → R (.ref k) σ2) → X.wp [a0, a1, some (.ref mi), a3, a4, a5, some (.int r), a7, a8, some (.int l), a10, a11, a12, a13] σ1 R)
    (hP : ∀ k σ2, σ2[k]? = some (.list ((mend (M.take l ++ Y ++ M.drop (r + 1))).map LCell.av)) → Keep0 σ σ2 → σ.length ≤ k → P (.ref k) σ2) :
    (xCall F_law_mended (xaCons (xBin oAdd (xBin oAdd (xSlice (xLoc 2) (xVal .none) (xLoc 9)) X) (xSlice (xLoc 2) (xBin oAdd (xLoc 6) (xVal (.int 1))) (xVal .none))) xaNil)).wp [a0, a1, some (.ref mi), a3, a4, a5, some (.int r), a7, a8, some (.int l), a10, a11, a12, a13] σ P := by
  have hM : (M.map LCell.av).length ≤ 1000 := by rw [List.length_map]; exact Nat.le_trans hl (Nat.le_of_ble_eq_true rfl)
  have t1 : (M.take l).length ≤ 100 := Nat.le_trans (List.length_take_le' _ _) hl
  have d1 : (M.drop (r + 1)).length ≤ 100 := by rw [List.length_drop]; exact Nat.le_trans (Nat.sub_le _ _) hl
  have tY : (M.take l ++ Y).length ≤ 200 := by rw [List.length_append]; exact Nat.add_le_add t1 hY
  refine SliceR.mk h hM fun k1 σ1 e1 kp1 n1 => ?_
  rw [sliceL_map, sliceG_to] at e1
  refine hX σ1 _ kp1 fun k2 σ2 e2 kp2 => ?_
  refine AddR.mk (kp2.get0 e1) e2 (by rw [List.length_map, List.length_map]; exact Nat.le_trans (Nat.add_le_add t1 hY) (Nat.le_of_ble_eq_true rfl)) fun k3 σ3 e3 kp3 n3 => ?_
  rw [← List.map_append] at e3
  have k13 := kp1.tr (kp2.tr kp3)
  refine SliceR.mk (k13.get0 h) hM fun k4 σ4 e4 kp4 n4 => ?_
  rw [sliceL_map, show ((r : Int) + 1) = ((r + 1 : Nat) : Int) from rfl, sliceG_from] at e4
  refine AddR.mk (kp4.get0 e3) e4 (by rw [List.length_map, List.length_map]; exact Nat.le_trans (Nat.add_le_add tY d1) (Nat.le_of_ble_eq_true rfl)) fun k5 σ5 e5 kp5 n5 => ?_
  rw [← List.map_append] at e5
  have k15 := k13.tr (kp4.tr kp5)
  exact CallR.mk (mended_ e5 (by rw [List.length_append]; exact Nat.le_trans (Nat.add_le_add tY d1) (Nat.le_of_ble_eq_true rfl)) fun k6 σ6 e6 kp6 n6 => hP k6 σ6 e6 (k15.tr kp6) (Nat.le_trans k15.1 n6))
theorem DeckAt.lt {dk dc : Nat} (D : DeckAt σ dk dc) : dk < σ.length ∧ dc < σ.length := by
  obtain ⟨l, m, a, b, _⟩ := D
  exact ⟨lt_of_get a, lt_of_get b⟩
/-- what the deed finds -/
structure DS (σ : Store) (dk dc o d c mi wk : Nat) (n : Int) (M : List LCell) (wr : Bool) : Prop where
  L : LineAt σ o d c (str M) wr
  D : DeckAt σ dk dc
  K : WAt σ wk n true
  m : σ[mi]? = some (.list (M.map LCell.av))
  ne1 : wk ≠ dk
  ne2 : c ≠ dc
  ne3 : c ≠ mi
  ne4 : dc ≠ mi
  inv : Inv n M
  len : M.length = 6
section
variable {dk dc o d c mi wk : Nat} {n : Int} {M : List LCell} {wr : Bool}
theorem DS.wdc (A : DS σ dk dc o d c mi wk n M wr) : wk ≠ dc := by
  obtain ⟨l, m, a, b, _⟩ := A.D
  have := A.K.w
  rintro rfl; rw [this] at b; cases b
theorem DS.wo (A : DS σ dk dc o d c mi wk n M wr) : wk ≠ o := by
  have a := A.K.w
  have b := A.L.o
  rintro rfl; rw [a] at b; cases b
theorem DS.wd (A : DS σ dk dc o d c mi wk n M wr) : wk ≠ d := by
  have a := A.K.w
  have b := A.L.d
  rintro rfl; rw [a] at b; cases b
theorem DS.wc (A : DS σ dk dc o d c mi wk n M wr) : wk ≠ c := by
  have a := A.K.w
  have b := A.L.c
  rintro rfl; rw [a] at b; cases b
theorem DS.wm (A : DS σ dk dc o d c mi wk n M wr) : wk ≠ mi := by
  have a := A.K.w
  have b := A.m
  rintro rfl; rw [a] at b; cases b
theorem DS.ko (A : DS σ dk dc o d c mi wk n M wr) : dk ≠ o := by
  obtain ⟨l, m, a, _, _⟩ := A.D
  have b := A.L.o
  rintro rfl; rw [a] at b; cases b
theorem DS.kd (A : DS σ dk dc o d c mi wk n M wr) : dk ≠ d := by
  obtain ⟨l, m, a, _, _⟩ := A.D
  have b := A.L.d
  rintro rfl; rw [a] at b; cases b
theorem DS.kc (A : DS σ dk dc o d c mi wk n M wr) : dk ≠ c := by
  obtain ⟨l, m, a, _, _⟩ := A.D
  have b := A.L.c
  rintro rfl; rw [a] at b; cases b
theorem DS.km (A : DS σ dk dc o d c mi wk n M wr) : dk ≠ mi := by
  obtain ⟨l, m, a, _, _⟩ := A.D
  have b := A.m
  rintro rfl; rw [a] at b; cases b
theorem DS.co (A : DS σ dk dc o d c mi wk n M wr) : dc ≠ o := by
  obtain ⟨l, m, _, a, _⟩ := A.D
  have b := A.L.o
  rintro rfl; rw [a] at b; cases b
theorem DS.cd (A : DS σ dk dc o d c mi wk n M wr) : dc ≠ d := by
  obtain ⟨l, m, _, a, _⟩ := A.D
  have b := A.L.d
  rintro rfl; rw [a] at b; cases b
theorem DS.mo (A : DS σ dk dc o d c mi wk n M wr) : mi ≠ o := by
  have a := A.m
  have b := A.L.o
  rintro rfl; rw [a] at b; cases b
theorem DS.md (A : DS σ dk dc o d c mi wk n M wr) : mi ≠ d := by
  have a := A.m
  have b := A.L.d
  rintro rfl; rw [a] at b; cases b
/-- draws turn only the deck -/
theorem DS.draw (A : DS σ dk dc o d c mi wk n M wr) {σ2 : Store} (D : DeckAt σ2 dk dc) (k : Keep (fun j => j = dk ∨ j = dc) σ σ2) : DS σ2 dk dc o d c mi wk n M wr where
  L := A.L.keep k (by rintro (q | q); exact A.ko q.symm; exact A.co q.symm) (by rintro (q | q); exact A.kd q.symm; exact A.cd q.symm) (by rintro (q | q); exact A.kc q.symm; exact A.ne2 q)
  D := D
  K := A.K.keep k (by rintro (q | q); exact A.ne1 q; exact A.wdc q)
  m := k.get (by rintro (q | q); exact A.km q.symm; exact A.ne4 q.symm) A.m
  ne1 := A.ne1
  ne2 := A.ne2
  ne3 := A.ne3
  ne4 := A.ne4
  inv := A.inv
  len := A.len
theorem DS.keep0 (A : DS σ dk dc o d c mi wk n M wr) {σ1 : Store} (kp : Keep0 σ σ1) : DS σ1 dk dc o d c mi wk n M wr := { L := A.L.keep0 kp, D := A.D.keep kp (fun h => h) fun h => h, K := A.K.keep kp fun h => h, m := kp.get0 A.m, ne1 := A.ne1, ne2 := A.ne2, ne3 := A.ne3, ne4 := A.ne4, inv := A.inv, len := A.len }
theorem DS.hl6 (A : DS σ dk dc o d c mi wk n M wr) : (str M).length = 6 := by rw [str_length, A.len]
theorem DS.hl4 (A : DS σ dk dc o d c mi wk n M wr) : (str M).length ≤ 400 := by rw [A.hl6]; exact Nat.le_of_ble_eq_true rfl
theorem DS.m4 (A : DS σ dk dc o d c mi wk n M wr) : M.length ≤ 400 := by rw [A.len]; exact Nat.le_of_ble_eq_true rfl
theorem DS.m1 (A : DS σ dk dc o d c mi wk n M wr) : M.length ≤ 100 := by rw [A.len]; exact Nat.le_of_ble_eq_true rfl
/-- signs turn the deck and the well -/
theorem DS.sign (A : DS σ dk dc o d c mi wk n M wr) {σ2 : Store} (k : Keep (fun j => j = dk ∨ j = dc ∨ j = wk) σ σ2) : LineAt σ2 o d c (str M) wr ∧ σ2[mi]? = some (.list (M.map LCell.av)) :=
  ⟨A.L.keep k (by rintro (q | q | q); exact A.ko q.symm; exact A.co q.symm; exact A.wo q.symm) (by rintro (q | q | q); exact A.kd q.symm; exact A.cd q.symm; exact A.wd q.symm) (by rintro (q | q | q); exact A.kc q.symm; exact A.ne2 q; exact A.wc q.symm),
    k.get (by rintro (q | q | q); exact A.km q.symm; exact A.ne4 q.symm; exact A.wm q.symm) A.m⟩
theorem DS.lt (A : DS σ dk dc o d c mi wk n M wr) : c < σ.length := lt_of_get A.L.c
noncomputable def DMod (dk dc d c wk : Nat) : Nat → Prop := fun j => j = dk ∨ j = dc ∨ j = wk ∨ j = c ∨ j = d
theorem DMod.k1 {dk dc d c wk : Nat} {σ1 σ2 : Store} (k : Keep (fun j => j = dk ∨ j = dc) σ1 σ2) : Keep (DMod dk dc d c wk) σ1 σ2 := k.weak fun _ _ h => h.elim .inl fun h => .inr (.inl h)
theorem DMod.k2 {dk dc d c wk : Nat} {σ1 σ2 : Store} (k : Keep (fun j => j = dk ∨ j = dc ∨ j = wk) σ1 σ2) : Keep (DMod dk dc d c wk) σ1 σ2 := k.weak fun _ _ h => h.elim .inl fun h => h.elim (fun h => .inr (.inl h)) fun h => .inr (.inr (.inl h))
theorem DMod.k3 {dk dc d c wk : Nat} {σ1 σ2 : Store} (k : Keep (· = c) σ1 σ2) : Keep (DMod dk dc d c wk) σ1 σ2 := k.weak fun _ _ h => .inr (.inr (.inr (.inl h)))
theorem DMod.k4 {dk dc d c wk : Nat} {σ1 σ2 : Store} (k : Keep (· = d) σ1 σ2) : Keep (DMod dk dc d c wk) σ1 σ2 := k.weak fun _ _ h => .inr (.inr (.inr (.inr h)))
theorem DMod.k5 {dk dc d c wk : Nat} {σ1 σ2 : Store} (k : Keep (fun j => j = c ∨ j = d) σ1 σ2) : Keep (DMod dk dc d c wk) σ1 σ2 := k.weak fun _ _ h => h.elim (fun h => .inr (.inr (.inr (.inl h)))) fun h => .inr (.inr (.inr (.inr h)))
theorem DMod.k6 {dk dc d c wk : Nat} {σ1 σ2 : Store} (k : Keep (· = wk) σ1 σ2) : Keep (DMod dk dc d c wk) σ1 σ2 := k.weak fun _ _ h => .inr (.inr (.inl h))
end
end
end Mine
end
-- part P26
section
open PySem PySem.W PySem.Calls PyProof.Rows
set_option maxRecDepth 100000
namespace Mine
noncomputable def DeedK (σ : Store) (dk dc o d c wk : Nat) (Q : Fl → Lc → Store → Prop) : Prop := ∀ k n' M' wr' σ2 lc, Inv n' M' → M'.length = 6 → σ2[k]? = some (.list (M'.map LCell.av)) → LineAt σ2 o d c (str M') wr' → DeckAt σ2 dk dc → WAt σ2 wk n' true → Keep (DMod dk dc d c wk) σ σ2 → σ.length ≤ k → Q (.ret (.ref k)) lc σ2
noncomputable def xB_put : XS := xsCons (xsAsg (xCall F_law_sign (xaCons (xLoc 0) (xaCons (xLoc 3) xaNil))) (xtLoc 10)) (xsCons (xsExpr (xMeth 218 "put" F_L_put (xLoc 1) (xaCons (xLoc 5) (xaCons (xTake (xGet (xLoc 10) (xVal (.int 0))) (xVal (.int 4))) xaNil)))) (xsCons (xsRet (xCall F_law_laid (xaCons (xLoc 2) (xaCons (xLoc 5) (xaCons (xLoc 10) xaNil))))) xsNil))
noncomputable def xB_cells : XS := xsCons (xsAsg (xBin oAdd (xCall F_law_sign (xaCons (xLoc 0) (xaCons (xLoc 3) xaNil))) (xCall F_law_sign (xaCons (xLoc 0) (xaCons (xLoc 3) xaNil)))) (xtLoc 10)) (xsCons (xsExpr (xMeth 218 "put_cells" F_L_put_cells (xLoc 1) (xaCons (xLoc 9) (xaCons (xRaw (eComp (iSeq (eLoc 10)) (bVal true) (eTake (eLoc 0) (eVal (.int 4))) [])) xaNil)))) (xsCons (xsRet (xCall F_law_laid (xaCons (xLoc 2) (xaCons (xLoc 9) (xaCons (xLoc 10) xaNil))))) xsNil))
section
variable {σ : Store} {Q : Fl → Lc → Store → Prop} {dk dc o d c mi wk : Nat} {n : Int} {M : List LCell} {wr : Bool}
theorem signL_le {s : Cell} {id : Int} : 1 ≤ (signL s id).length ∧ (signL s id).length ≤ 2 := by unfold signL; split <;> exact ⟨Nat.le_of_ble_eq_true rfl, Nat.le_of_ble_eq_true rfl⟩
theorem deed_put {col : Nat} {a4 a6 a7 a8 a9 : Option AV} (A : DS σ dk dc o d c mi wk n M wr) (hP : DeedK σ dk dc o d c wk Q) :
    xB_put.wp [some (.ref dk), some (.ref o), some (.ref mi), some (.ref wk), a4, some (.int col), a6, a7, a8, a9, none, none, none, none] σ Q := by
  refine CallR.mk (sign_ A.D A.K A.ne1 A.wdc fun sk s σ2 hs hch e2 D2 K2 kp2 n2 => ?_)
  have L2 := (A.sign kp2).1
  have m2 := (A.sign kp2).2
  have hsk : sk ≠ c := Nat.ne_of_gt (Nat.lt_of_lt_of_le A.lt n2)
  have ho := L2.o
  have hd := L2.d
  have ll : (signL s (n + 1)).length ≤ 400 := Nat.le_trans signL_le.2 (Nat.le_of_ble_eq_true rfl)
  have ix : idx ((signL s (n + 1)).map LCell.av) 0 = some (⟨s, n + 1⟩ : LCell).av := idx_at (a := 0) (by decide) (Nat.le_trans ll (Nat.le_of_ble_eq_true rfl)) (c := ⟨s, n + 1⟩) rfl
  walk_at "xs"
  refine AskR.mk ⟨by decide, (by decide : (4 : Int) < ((5 : Nat) : Int)), Nat.le_of_ble_eq_true rfl⟩ ?_
  refine CallR.mk (L_put_ L2 (Nat.le_trans A.hl4 (Nat.le_of_ble_eq_true rfl)) (.inr hs) fun σ3 L3 kp3 => ?_)
  refine CallR.mk (laid_ (kp3.get A.ne3.symm m2) (kp3.get hsk e2) A.m4 ll fun k σ4 e4 kp4 n4 => ?_)
  exact hP k (n + 1) _ wr σ4 _ (put_inv A.inv hs hch col) (by rw [mend_length, laidK_length, A.len]) e4 (by rw [put_law A.inv hs col]; exact L3.keep0 kp4) ((D2.keep kp3 A.kc A.ne2.symm).keep kp4 (fun h => h) fun h => h) ((K2.keep kp3 A.wc).keep kp4 fun h => h) ((DMod.k2 kp2).tr ((DMod.k3 kp3).tr kp4.up)) (Nat.le_trans (Nat.le_trans kp2.1 kp3.1) n4)
theorem deed_cells {left : Nat} {a4 a5 a6 a7 a8 : Option AV} (A : DS σ dk dc o d c mi wk n M wr) (hl : left < 6) (hP : DeedK σ dk dc o d c wk Q) :
    xB_cells.wp [some (.ref dk), some (.ref o), some (.ref mi), some (.ref wk), a4, a5, a6, a7, a8, some (.int left), none, none, none, none] σ Q := by
  refine CallR.mk (sign_ A.D A.K A.ne1 A.wdc fun sk s σ2 hs hch e2 D2 K2 kp2 n2 => ?_)
  refine CallR.mk (sign_ D2 K2 A.ne1 A.wdc fun tk t σ3 ht hct e3 D3 K3 kp3 n3 => ?_)
  have k3 := kp2.tr kp3
  have L3 := (A.sign k3).1
  have m3 := (A.sign k3).2
  have e2' := kp3.get (by rintro (q | q | q); exact absurd A.D.lt.1 (by rw [← q]; exact Nat.not_lt.mpr n2); exact absurd A.D.lt.2 (by rw [← q]; exact Nat.not_lt.mpr n2); exact absurd (lt_of_get A.K.w) (by rw [← q]; exact Nat.not_lt.mpr n2)) e2
  have lX : (signL s (n + 1) ++ signL t (n + 1 + 1)).length ≤ 400 := by rw [List.length_append]; exact Nat.le_trans (Nat.add_le_add signL_le.2 signL_le.2) (Nat.le_of_ble_eq_true rfl)
  refine AddR.mk e2' e3 (by rw [List.length_map, List.length_map, ← List.length_append]; exact Nat.le_trans lX (Nat.le_of_ble_eq_true rfl)) fun k4 σ4 e4 kp4 n4 => ?_
  rw [← List.map_append] at e4
  have lX0 : signL s (n + 1) ++ signL t (n + 1 + 1) ≠ [] := by unfold signL; exact List.cons_ne_nil _ _
  have hlM : left < M.length := by rw [A.len]; exact hl
  have put := put_cells_law A.inv hs ht hch hct (Int.ne_of_lt (Int.lt_succ (n + 1))) hlM
  have inv := put_cells_inv A.inv hs ht hch hct hlM
  generalize signL s (n + 1) ++ signL t (n + 1 + 1) = X at e4 lX lX0 put inv
  have L4 := L3.keep0 kp4
  have ho := L4.o
  have hd := L4.d
  walk_at "xs"
  refine RawR.mk (comp_list (f := LCell.av) (X := X) (fun _ => true) (fun x => x.cell.av) (i := k4) (XE.okm (X := xLoc 10) rfl ⟨rfl, rfl⟩) e4 (Nat.le_trans lX (Nat.le_of_ble_eq_true rfl)) (fun x _ σ5 _ => W_bVal ⟨rfl, rfl⟩) (fun x _ _ σ5 _ => take_l (b := 4) (by decide) (by decide) ⟨rfl, rfl⟩) fun k5 σ5 e5 kp5 n5 => ?_)
  rw [List.filter_eq_self.mpr (fun _ _ => rfl)] at e5
  have e5' : σ5[k5]? = some (.list ((str X).map Cell.av)) := by rw [e5]; unfold str; rw [List.map_map]; rfl
  refine CallR.mk (L_put_cells_ (L4.keep0 kp5) A.hl4 e5' (by rw [str_length]; exact lX) (Int.natCast_nonneg _) (by rw [A.hl6]; lia) (fun q => lX0 (List.map_eq_nil_iff.mp q)) fun σ6 L6 kp6 => ?_)
  have k45 := kp4.tr kp5
  have h4 : k4 ≠ c := Nat.ne_of_gt (Nat.lt_of_lt_of_le (lt_of_get L3.c) n4)
  refine CallR.mk (laid_ (kp6.get A.ne3.symm (k45.get0 m3)) (kp6.get h4 (kp5.get0 e4)) A.m4 lX fun k σ7 e7 kp7 n7 => ?_)
  exact hP k (n + 1 + 1) _ wr σ7 _ inv (by rw [mend_length, laidK_length, A.len]) e7 (by rw [put]; exact L6.keep0 kp7) (((D3.keep k45 (fun h => h) fun h => h).keep kp6 A.kc A.ne2.symm).keep kp7 (fun h => h) fun h => h) (((K3.keep k45 fun h => h).keep kp6 A.wc).keep kp7 fun h => h) ((DMod.k2 k3).tr ((k45.up).tr ((DMod.k3 kp6).tr kp7.up))) (Nat.le_trans (Nat.le_trans (Nat.le_trans k3.1 k45.1) kp6.1) n7)
end
end Mine
end
-- part P28
section
open PySem PySem.W PySem.Calls PyProof.Rows
set_option maxRecDepth 100000
namespace Mine
noncomputable def xB_erase : XS := xsCons (xsAsg (xTup (xaCons (xVal (.bool true)) (xaCons (xBin xGt (xLoc 8) (xVal (.int 2))) xaNil))) (xtTupN 2 (xtCons (xtAttr 218 "is_wrapped" (xLoc 1)) (xtCons (xtLoc 11) xtNil)))) (xsCons (xsExpr (xMeth 218 "erase" F_L_erase (xLoc 1) (xaCons (xLoc 9) (xaCons (xLoc 6) (xaCons (xLoc 7) (xaCons (xLoc 11) xaNil)))))) (xsCons (xsIf (xbOr (xbOf (xBin xLt (xLoc 6) (xVal (.int 5)))) (xbOr (xbNot (xbOf (xLoc 11))) (xbVal false))) (xsCons (xsAsg (xAnd (xGet (xLoc 3) (xVal (.str "is_right"))) (xBin oEq (xAttr 218 "is_wrapped" (xLoc 1)) (xBin xLt (xLoc 6) (xVal (.int 5))))) (xtSub (xLoc 3) (xVal (.str "is_right")))) xsNil) xsNil) (xsCons (xsRet (xCall F_law_erased (xaCons (xLoc 2) (xaCons (xLoc 9) (xaCons (xLoc 6) (xaCons (xLoc 7) (xaCons (xLoc 11) xaNil))))))) xsNil)))
noncomputable def xr_right : XS := xsCons (xsAsg (xAnd (xGet (xLoc 3) (xVal (.str "is_right"))) (xBin oEq (xAttr 218 "is_wrapped" (xLoc 1)) (xBin xLt (xLoc 6) (xVal (.int 5))))) (xtSub (xLoc 3) (xVal (.str "is_right")))) xsNil
noncomputable def xr_erest : XS := xsCons (xsExpr (xMeth 218 "erase" F_L_erase (xLoc 1) (xaCons (xLoc 9) (xaCons (xLoc 6) (xaCons (xLoc 7) (xaCons (xLoc 11) xaNil)))))) (xsCons (xsIf (xbOr (xbOf (xBin xLt (xLoc 6) (xVal (.int 5)))) (xbOr (xbNot (xbOf (xLoc 11))) (xbVal false))) xr_right xsNil) (xsCons (xsRet (xCall F_law_erased (xaCons (xLoc 2) (xaCons (xLoc 9) (xaCons (xLoc 6) (xaCons (xLoc 7) (xaCons (xLoc 11) xaNil))))))) xsNil))
section
variable {σ : Store} {Q : Fl → Lc → Store → Prop} {dk dc o d c mi wk : Nat} {n : Int} {M : List LCell} {wr : Bool}
theorem right_ {right : Nat} {a0 a2 a4 a5 a7 a8 a9 a10 a11 a12 a13 : Option AV} {S : Fl → Lc → Store → Prop} {L : List Cell} (L2 : LineAt σ o d c L (if right + 1 = 6 then false else true)) (hr : right < 6) (K : WAt σ wk n true)
    (hS : ∀ σ3, WAt σ3 wk n true → Keep (· = wk) σ σ3 → S .next [a0, some (.ref o), a2, some (.ref wk), a4, a5, some (.int right), a7, a8, a9, a10, a11, a12, a13] σ3) :
    xr_right.wp [a0, some (.ref o), a2, some (.ref wk), a4, a5, some (.int right), a7, a8, a9, a10, a11, a12, a13] σ S := by
  have hw := K.w
  have ho := L2.o
  have hd := L2.d
  have hb : ((if right + 1 = 6 then false else true) == decide ((right : Int) < 5)) = true := by
    by_cases q : right + 1 = 6
    · rw [if_pos q, t_nlt (by lia)]; rfl
    · rw [if_neg q, t_lt (by lia)]; rfl
  walk_at "xs"
  intro σ3 e3 kp3
  exact hS σ3 ⟨e3.trans (congrArg (fun b => some (AO.dict (kvW n b))) hb)⟩ kp3
theorem erest_ {left right : Nat} {p : Pen} {sel : Bool} {σ1 : Store} {a4 a5 a8 : Option AV} (A : DS σ dk dc o d c mi wk n M wr) (hl : left ≤ right) (hr : right < 6) (L1 : LineAt σ1 o d c (str M) true) (kp1 : Keep (· = d) σ σ1) (hP : DeedK σ dk dc o d c wk Q) :
    xr_erest.wp [some (.ref dk), some (.ref o), some (.ref mi), some (.ref wk), a4, a5, some (.int right), some p.av, a8, some (.int left), none, some (.bool sel), none, none] σ1 Q := by
  have ho := L1.o
  have hd := L1.d
  have hr2 : right < (str M).length := by rw [A.hl6]; exact hr
  walk_at "xs"
  refine CallR.mk (L_erase_ L1 A.hl4 hl hr2 fun σ2 L2 kp2 => ?_)
  rw [A.hl6] at L2
  have K2 := (A.K.keep kp1 A.wd).keep kp2 (by rintro (q | q); exact A.wc q; exact A.wd q)
  have fin : ∀ σ3, WAt σ3 wk n true → Keep (· = wk) σ2 σ3 → (xsCons (xsRet (xCall F_law_erased (xaCons (xLoc 2) (xaCons (xLoc 9) (xaCons (xLoc 6) (xaCons (xLoc 7) (xaCons (xLoc 11) xaNil))))))) xsNil).wp [some (.ref dk), some (.ref o), some (.ref mi), some (.ref wk), a4, a5, some (.int right), some p.av, a8, some (.int left), none, some (.bool sel), none, none] σ3 Q := by
    intro σ3 K3 kp3
    have m3 := kp3.get (fun q => A.wm q.symm) (kp2.get (by rintro (q | q); exact A.ne3 q.symm; exact A.md q) (kp1.get A.md A.m))
    refine CallR.mk (erased_ m3 A.m4 fun k σ4 e4 kp4 n4 => ?_)
    exact hP k n _ _ σ4 _ (erase_inv A.inv) (by rw [mend_length, eM_length, A.len]) e4 (by rw [erase_law A.inv hl (by rw [A.len]; exact hr)]; exact (L2.keep kp3 (fun q => A.wo q.symm) (fun q => A.wd q.symm) fun q => A.wc q.symm).keep0 kp4) ((((A.D.keep kp1 A.kd A.cd).keep kp2 (by rintro (q | q); exact A.kc q; exact A.kd q) (by rintro (q | q); exact A.ne2 q.symm; exact A.cd q)).keep kp3 (fun q => A.ne1 q.symm) fun q => A.wdc q.symm).keep kp4 (fun h => h) fun h => h) (K3.keep kp4 fun h => h) ((DMod.k4 kp1).tr ((DMod.k5 kp2).tr ((DMod.k6 kp3).tr kp4.up))) (Nat.le_trans (Nat.le_trans (Nat.le_trans kp1.1 kp2.1) kp3.1) n4)
  refine IfB.both (fun _ => right_ L2 hr K2 fin) fun _ => IfB.both (fun _ => right_ L2 hr K2 fin) fun _ => ?_
  exact fin σ2 K2 Keep.refl
theorem deed_erase {left right : Nat} {many : Int} {p : Pen} {a4 a5 : Option AV} (A : DS σ dk dc o d c mi wk n M wr) (hl : left ≤ right) (hr : right < 6) (hP : DeedK σ dk dc o d c wk Q) :
    xB_erase.wp [some (.ref dk), some (.ref o), some (.ref mi), some (.ref wk), a4, a5, some (.int right), some p.av, some (.int many), some (.int left), none, none, none, none] σ Q := by
  have ho := A.L.o
  have hd := A.L.d
  walk_at "xs"
  intro σ1 e1 kp1
  exact erest_ A hl hr ⟨kp1.get A.L.od ho, e1, kp1.get A.L.dc.symm A.L.c⟩ kp1 hP
end
end Mine
end
-- part P29
section
open PySem PySem.W PySem.Calls PyProof.Rows
set_option maxRecDepth 100000
namespace Mine
noncomputable def xB_shift : XS := xsCons (xsAsg (xBin oMul (xList (xaCons (xCall F_law_blank (xaCons (xLoc 7) xaNil)) xaNil)) (xLoc 8)) (xtLoc 12)) (xsCons (xsIf (xbOf (xBin oEq (xBin oMod (xLoc 8) (xVal (.int 2))) (xVal (.int 0)))) (xsCons (xsExpr (xMeth 218 "insert" F_L_insert (xLoc 1) (xaCons (xLoc 9) (xaCons (xLoc 8) (xaCons (xLoc 6) (xaCons (xLoc 7) xaNil)))))) (xsCons (xsRet (xCall F_law_mended (xaCons (xBin oAdd (xBin oAdd (xSlice (xLoc 2) (xVal .none) (xLoc 9)) (xSlice (xBin oAdd (xLoc 12) (xSlice (xLoc 2) (xLoc 9) (xBin oAdd (xLoc 6) (xVal (.int 1))))) (xVal .none) (xBin oSub (xBin oAdd (xLoc 6) (xVal (.int 1))) (xLoc 9)))) (xSlice (xLoc 2) (xBin oAdd (xLoc 6) (xVal (.int 1))) (xVal .none))) xaNil))) xsNil)) xsNil) (xsCons (xsExpr (xMeth 218 "delete" F_L_delete (xLoc 1) (xaCons (xLoc 9) (xaCons (xLoc 8) (xaCons (xLoc 6) (xaCons (xLoc 7) xaNil)))))) (xsCons (xsAsg (xBin oAdd (xSlice (xLoc 2) (xBin oAdd (xLoc 9) (xLoc 8)) (xBin oAdd (xLoc 6) (xVal (.int 1)))) (xLoc 12)) (xtLoc 13)) (xsCons (xsRet (xCall F_law_mended (xaCons (xBin oAdd (xBin oAdd (xSlice (xLoc 2) (xVal .none) (xLoc 9)) (xSlice (xLoc 13) (xVal .none) (xBin oSub (xBin oAdd (xLoc 6) (xVal (.int 1))) (xLoc 9)))) (xSlice (xLoc 2) (xBin oAdd (xLoc 6) (xVal (.int 1))) (xVal .none))) xaNil))) xsNil))))
noncomputable def xB_fill : XS := xsCons (xsExpr (xMeth 218 "fill" F_L_fill (xLoc 1) (xaCons (xLoc 9) (xaCons (xLoc 6) (xaCons (xTup (xaCons (xTup (xaCons (xVal (.int 120)) xaNil)) (xaCons (xVal (.int 1)) (xaCons (xLoc 7) (xaCons (xVal (.bool false)) xaNil))))) xaNil))))) (xsCons (xsRet (xCall F_law_mended (xaCons (xBin oAdd (xBin oAdd (xSlice (xLoc 2) (xVal .none) (xLoc 9)) (xBin oMul (xList (xaCons (xTup (xaCons (xTup (xaCons (xVal (.int 120)) xaNil)) (xaCons (xVal (.int 1)) (xaCons (xLoc 7) (xaCons (xVal (.bool false)) (xaCons (xVal (.int 0)) xaNil)))))) xaNil)) (xBin oSub (xBin oAdd (xLoc 6) (xVal (.int 1))) (xLoc 9)))) (xSlice (xLoc 2) (xBin oAdd (xLoc 6) (xVal (.int 1))) (xVal .none))) xaNil))) xsNil)
section
variable {M : List LCell}
theorem sl_take {l s t : Nat} (h : t ≤ s) : (sl' M l (l + s)).take t = sl' M l (l + t) := by
  unfold sl'
  rw [List.drop_take, List.drop_take, List.take_take, Nat.add_sub_cancel_left, Nat.add_sub_cancel_left, Nat.min_eq_left h]
theorem ins_list {p : Pen} {l k t m : Nat} (hk : m = k ∨ t = 0 ∧ k ≤ m) : (List.replicate m (lblank p) ++ sl' M l (l + (k + t))).take (k + t) = List.replicate k (lblank p) ++ sl' M l (l + t) := by
  rcases hk with rfl | ⟨rfl, hk⟩
  · have := List.take_length_add_append (l₁ := List.replicate m (lblank p)) (l₂ := sl' M l (l + (m + t))) t
    rw [List.length_replicate] at this
    rw [this, sl_take (Nat.le_add_left _ _)]
  · rw [sl_nil (a := l) (b := l + 0) (Nat.le_refl _), List.append_nil, Nat.add_zero, List.take_append_of_le_length (by rw [List.length_replicate]; exact hk), List.take_replicate, Nat.min_eq_left hk]
theorem del_list {p : Pen} {l k t m : Nat} (h : l + (k + t) ≤ M.length) (hk : m = k ∨ t = 0 ∧ k ≤ m) : (sl' M (l + m) (l + (k + t)) ++ List.replicate m (lblank p)).take (k + t) = sl' M (l + k) (l + (k + t)) ++ List.replicate k (lblank p) := by
  rcases hk with rfl | ⟨rfl, hk⟩
  · exact List.take_of_length_le (by rw [List.length_append, List.length_replicate, sl_len h]; lia)
  · rw [Nat.add_zero, sl_nil (a := l + m) (b := l + k) (Nat.add_le_add_left hk _), sl_nil (a := l + k) (b := l + k) (Nat.le_refl _), List.nil_append, List.nil_append, List.take_replicate, Nat.min_eq_left hk]
theorem kt_ {l r m : Nat} (h : l ≤ r) (hm : 1 ≤ m) : ∃ k t, l + (k + t) = r + 1 ∧ 1 ≤ k ∧ (m = k ∨ t = 0 ∧ k ≤ m) ∧ max 0 (min (m : Int) ((r : Int) - l + 1)) = k := by
  by_cases q : l + m ≤ r + 1
  · obtain ⟨t, ht⟩ := Nat.le.dest q
    refine ⟨m, t, by lia, hm, .inl rfl, ?_⟩
    rw [Int.min_eq_left (by lia), Int.max_eq_right (by lia)]
  · obtain ⟨k, hk⟩ := Nat.le.dest (Nat.le_succ_of_le h)
    refine ⟨k, 0, hk, by lia, .inr ⟨rfl, by lia⟩, ?_⟩
    rw [Int.min_eq_right (by lia), Int.max_eq_right (by lia)]
    lia
theorem lenY {Y : List LCell} {l w r : Nat} (hY : Y.length = w) (h : l + w = r + 1) (hr : r < M.length) : (M.take l ++ Y ++ M.drop (l + w)).length = M.length := by
  rw [List.length_append, List.length_append, List.length_take, List.length_drop, hY, h, Nat.min_eq_left (by lia)]
  lia
section
variable {σ : Store} {Q : Fl → Lc → Store → Prop} {dk dc o d c mi wk : Nat} {n : Int} {wr : Bool}
theorem deed_shift {left right many : Nat} {p : Pen} {a4 a5 : Option AV} (A : DS σ dk dc o d c mi wk n M wr) (hl : left ≤ right) (hr : right < 6) (h1 : 1 ≤ many) (h4 : many ≤ 4) (hP : DeedK σ dk dc o d c wk Q) :
    xB_shift.wp [some (.ref dk), some (.ref o), some (.ref mi), some (.ref wk), a4, a5, some (.int right), some p.av, some (.int many), some (.int left), none, none, none, none] σ Q := by
  obtain ⟨k, t, ht, hk1, hk, hm⟩ := kt_ hl h1
  have hrM : right < M.length := by rw [A.len]; exact hr
  have hrL : (right : Int) < (str M).length := by rw [A.hl6]; exact Int.ofNat_lt.mpr hr
  have hlr : (left : Int) ≤ right := Int.ofNat_le.mpr hl
  have hr1 : (right : Int) + 1 = ((left + (k + t) : Nat) : Int) := by lia
  have hr2 : ((left + (k + t) : Nat) : Int) - left = ((k + t : Nat) : Int) := by lia
  have htM : left + (k + t) ≤ M.length := by rw [ht]; exact hrM
  have hkt : k + t ≤ 6 := by lia
  have hM : (M.map LCell.av).length ≤ 1000 := by rw [List.length_map, A.len]; exact Nat.le_of_ble_eq_true rfl
  refine c_lblank ?_
  refine fun k1 σ1 e1 kp1 n1 => ?_
  refine MulR.mk e1 ⟨Nat.le_of_ble_eq_true rfl, by lia, by lia⟩ fun k2 σ2 e2 kp2 n2 => ?_
  rw [flat_one, Int.toNat_natCast] at e2
  have k12 := kp1.tr kp2
  have A2 := A.keep0 k12
  have e2' : σ2[k2]? = some (.list ((List.replicate many (lblank p)).map LCell.av)) := by rw [e2, List.map_replicate]
  have ho := A2.L.o
  have hd := A2.L.d
  have s2 : (2 : Int) ≠ 0 := by decide
  have hkc : k2 ≠ c := Nat.ne_of_gt (Nat.lt_of_lt_of_le A.lt (Nat.le_trans kp1.1 n2))
  clear e1 e2
  walk_at "xs"
  refine IfB.both (fun _ => ?_) fun _ => ?_
  · walk_at "xs"
    refine CallR.mk (L_insert_ A2.L A.hl4 (Int.natCast_nonneg _) hlr hrL fun σ3 L3 kp3 => ?_)
    rw [← insert_law A.inv ht hrM hk1 hm] at L3
    have m3 := kp3.get A.ne3.symm A2.m
    have e3 := kp3.get hkc e2'
    have hY : (List.replicate k (lblank p) ++ sl' M left (left + t)).length = k + t := by rw [List.length_append, List.length_replicate, sl_len (by lia), Nat.add_sub_cancel_left]
    refine three_ (Y := List.replicate k (lblank p) ++ sl' M left (left + t)) m3 A.m1 (by rw [hY]; exact Nat.le_trans hkt (Nat.le_of_ble_eq_true rfl)) (fun σ6 R kp6 hR => ?_) fun kk σ6 e6 kp6 n6 => ?_
    · refine SliceR.mk (kp6.get0 m3) hM fun k7 σ7 e7 kp7 n7 => ?_
      rw [hr1, sliceL_map, sliceG_nat] at e7
      refine AddR.mk (kp7.get0 (kp6.get0 e3)) e7 (by rw [List.length_map, List.length_map, List.length_replicate, List.length_drop, List.length_take]; lia) fun k8 σ8 e8 kp8 n8 => ?_
      rw [← List.map_append] at e8
      refine SliceR.mk e8 (by rw [List.length_map, List.length_append, List.length_replicate, List.length_drop, List.length_take]; lia) fun k9 σ9 e9 kp9 n9 => ?_
      rw [hr1, hr2, sliceL_map, sliceG_to, show (M.take (left + (k + t))).drop left = sl' M left (left + (k + t)) from rfl, ins_list hk] at e9
      exact hR k9 σ9 e9 (kp7.tr (kp8.tr kp9))
    · rw [← ht] at e6
      exact hP kk n _ wr σ6 _ (insert_inv A.inv) (by rw [mend_length, lenY hY ht hrM, A.len]) e6 (L3.keep0 kp6) ((A2.D.keep kp3 A.kc A.ne2.symm).keep kp6 (fun h => h) fun h => h) ((A2.K.keep kp3 A.wc).keep kp6 fun h => h) (k12.up.tr ((DMod.k3 kp3).tr kp6.up)) (Nat.le_trans (Nat.le_trans k12.1 kp3.1) n6)
  · walk_at "xs"
    refine CallR.mk (L_delete_ A2.L A.hl4 (Int.natCast_nonneg _) hlr hrL fun σ3 L3 kp3 => ?_)
    rw [← delete_law A.inv ht hrM hk1 hm] at L3
    have m3 := kp3.get A.ne3.symm A2.m
    have e3 := kp3.get hkc e2'
    refine SliceR.mk m3 hM fun k4 σ4 e4 kp4 n4 => ?_
    rw [hr1, show (left : Int) + many = ((left + many : Nat) : Int) from rfl, sliceL_map, sliceG_nat] at e4
    refine AddR.mk e4 (kp4.get0 e3) (by rw [List.length_map, List.length_map, List.length_replicate, List.length_drop, List.length_take]; lia) fun k5 σ5 e5 kp5 n5 => ?_
    rw [← List.map_append] at e5
    have k45 := kp4.tr kp5
    have hY : (sl' M (left + k) (left + (k + t)) ++ List.replicate k (lblank p)).length = k + t := by rw [List.length_append, List.length_replicate, sl_len htM]; lia
    refine three_ (Y := sl' M (left + k) (left + (k + t)) ++ List.replicate k (lblank p)) (k45.get0 m3) A.m1 (by rw [hY]; exact Nat.le_trans hkt (Nat.le_of_ble_eq_true rfl)) (fun σ6 R kp6 hR => ?_) fun kk σ6 e6 kp6 n6 => ?_
    · refine SliceR.mk (kp6.get0 e5) (by rw [List.length_map, List.length_append, List.length_replicate, List.length_drop, List.length_take]; lia) fun k9 σ9 e9 kp9 n9 => ?_
      rw [hr1, hr2, sliceL_map, sliceG_to, show (M.take (left + (k + t))).drop (left + many) = sl' M (left + many) (left + (k + t)) from rfl, del_list htM hk] at e9
      exact hR k9 σ9 e9 kp9
    · rw [← ht] at e6
      have k46 := k45.tr kp6
      exact hP kk n _ wr σ6 _ (delete_inv A.inv) (by rw [mend_length, lenY hY ht hrM, A.len]) e6 (L3.keep0 k46) ((A2.D.keep kp3 A.kc A.ne2.symm).keep k46 (fun h => h) fun h => h) ((A2.K.keep kp3 A.wc).keep k46 fun h => h) (k12.up.tr ((DMod.k3 kp3).tr k46.up)) (Nat.le_trans (Nat.le_trans (Nat.le_trans k12.1 kp3.1) k45.1) n6)
theorem deed_fill {left right : Nat} {p : Pen} {a4 a5 a8 : Option AV} (A : DS σ dk dc o d c mi wk n M wr) (hl : left ≤ right) (hr : right < 6) (hP : DeedK σ dk dc o d c wk Q) :
    xB_fill.wp [some (.ref dk), some (.ref o), some (.ref mi), some (.ref wk), a4, a5, some (.int right), some p.av, a8, some (.int left), none, none, none, none] σ Q := by
  obtain ⟨w, hw⟩ : ∃ w, left + w = right + 1 := Nat.le.dest (Nat.le_succ_of_le hl)
  have hrM : right < M.length := by rw [A.len]; exact hr
  have hwr : right + 1 - left = w := by rw [← hw, Nat.add_sub_cancel_left]
  have hwi : (right : Int) + 1 - left = w := by lia
  have ho := A.L.o
  have hd := A.L.d
  walk_at "xs"
  refine CallR.mk (L_fill_ (s := ⟨[120], 1, p, false⟩) A.L A.hl4 hl (by rw [A.hl6]; exact hr) (.inr (.inl rfl)) fun σ3 L3 kp3 => ?_)
  have m3 := kp3.get A.ne3.symm A.m
  have fg := fill_go A.inv p left w (by rw [hw]; exact hrM)
  rw [hwr, fg.1] at L3
  have hY : (List.replicate w (⟨⟨[120], 1, p, false⟩, 0⟩ : LCell)).length = w := List.length_replicate
  refine three_ (Y := List.replicate w ⟨⟨[120], 1, p, false⟩, 0⟩) m3 A.m1 (by rw [hY]; lia) (fun σ6 R kp6 hR => ?_) fun k σ6 e6 kp6 n6 => ?_
  · refine fun k7 σ7 e7 kp7 n7 => ?_
    refine MulR.mk e7 ⟨Nat.le_of_ble_eq_true rfl, by lia, by lia⟩ fun k8 σ8 e8 kp8 n8 => ?_
    rw [hwi, flat_one, Int.toNat_natCast] at e8
    exact hR k8 σ8 (by rw [e8, List.map_replicate]; rfl) (kp7.tr kp8)
  · rw [← hw] at e6
    exact hP k n _ wr σ6 _ fg.2 (by rw [mend_length, lenY hY hw hrM, A.len]) e6 (L3.keep0 kp6) ((A.D.keep kp3 A.kc A.ne2.symm).keep kp6 (fun h => h) fun h => h) ((A.K.keep kp3 A.wc).keep kp6 fun h => h) ((DMod.k3 kp3).tr kp6.up) (Nat.le_trans kp3.1 n6)
end
end
end Mine
end
-- part P30
section
open PySem PySem.W PySem.Calls PyProof.Rows
set_option maxRecDepth 100000
namespace Mine
noncomputable def xr_deed : XS := xsCons (xsIf (xbOf (xBin xLt (xLoc 4) (xVal (.int 3)))) xB_put xsNil) (xsCons (xsIf (xbOf (xBin oEq (xLoc 4) (xVal (.int 3)))) xB_cells xsNil) (xsCons (xsIf (xbOf (xBin oEq (xLoc 4) (xVal (.int 4)))) xB_erase xsNil) (xsCons (xsIf (xbOf (xBin oEq (xLoc 4) (xVal (.int 5)))) xB_shift xsNil) xB_fill)))
section
variable {σ : Store} {P : AV → Store → Prop} {Q : Fl → Lc → Store → Prop} {dk dc o d c mi wk : Nat} {n : Int} {M : List LCell} {wr : Bool}
theorem drest_ {x1 ri mm li : Int} {col right many left : Nat} {p : Pen} (A : DS σ dk dc o d c mi wk n M wr) (hl : left ≤ right) (hr : right < 6) (h1 : 1 ≤ many) (h4 : many ≤ 4) (er : ri = right) (em : mm = many) (el : li = left) (hP : DeedK σ dk dc o d c wk Q) :
    xr_deed.wp [some (.ref dk), some (.ref o), some (.ref mi), some (.ref wk), some (.int x1), some (.int col), some (.int ri), some p.av, some (.int mm), some (.int li), none, none, none, none] σ Q := by
  subst er em el
  exact IfB.both (fun _ => deed_put A hP) fun _ => IfB.both (fun _ => deed_cells A (Nat.lt_of_le_of_lt hl hr) hP) fun _ => IfB.both (fun _ => deed_erase A hl hr hP) fun _ => IfB.both (fun _ => deed_shift A hl hr h1 h4 hP) fun _ => deed_fill A hl hr hP
set_option maxHeartbeats 2000000 in
theorem deed_ (A : DS σ dk dc o d c mi wk n M wr)
    (hP : ∀ k n' M' wr' σ2, Inv n' M' → M'.length = 6 → σ2[k]? = some (.list (M'.map LCell.av)) → LineAt σ2 o d c (str M') wr' → DeckAt σ2 dk dc → WAt σ2 wk n' true → Keep (DMod dk dc d c wk) σ σ2 → σ.length ≤ k → P (.ref k) σ2) :
    W (F_law_deed [.ref dk, .ref o, .ref mi, .ref wk] σ) P := by
  refine x_def (X := xm_law_deed) rfl ?_
  refine CallR.mk (draw_ A.D (by decide) fun x1 σ1 a1 b1 D1 kp1 => ?_)
  refine CallR.mk (draw_ D1 (by decide) fun x2 σ2 a2 b2 D2 kp2 => ?_)
  refine CallR.mk (draw_ D2 (by decide) fun x3 σ3 a3 b3 D3 kp3 => ?_)
  refine CallR.mk (draw_ D3 (by decide) fun x4 σ4 a4 b4 D4 kp4 => ?_)
  refine GetT.mk (pens_get a4 b4) ?_
  refine CallR.mk (draw_ D4 (by decide) fun x5 σ5 a5 b5 D5 kp5 => ?_)
  obtain ⟨col, rfl⟩ := Int.eq_ofNat_of_zero_le a2
  obtain ⟨right, hr⟩ : ∃ r : Nat, 5 - x3 = r := Int.eq_ofNat_of_zero_le (by lia)
  obtain ⟨many, hm⟩ : ∃ m : Nat, 1 + x5 = m := Int.eq_ofNat_of_zero_le (by lia)
  obtain ⟨left, hle, el⟩ : ∃ l : Nat, l ≤ right ∧ min (col : Int) (5 - x3) = l := by
    rw [hr]
    rcases Nat.le_total col right with q | q
    · exact ⟨col, q, Int.min_eq_left (Int.ofNat_le.mpr q)⟩
    · exact ⟨right, Nat.le_refl _, Int.min_eq_right (Int.ofNat_le.mpr q)⟩
  have kk := kp1.tr (kp2.tr (kp3.tr (kp4.tr kp5)))
  show xr_deed.wp [some (.ref dk), some (.ref o), some (.ref mi), some (.ref wk), some (.int x1), some (.int col), some (.int (5 - x3)), some (if x4 = 0 then P0 else P1).av, some (.int (1 + x5)), some (.int (min col (5 - x3))), none, none, none, none] σ5 fun fl _ σ' => P (flV fl) σ'
  exact drest_ (A.draw D5 kk) hle (by lia) (by lia) (by lia) hr hm el fun k n' M' wr' σ9 lc i1 i2 e L D K kp nk => hP k n' M' wr' σ9 i1 i2 e L D K ((DMod.k1 kk).tr kp) (Nat.le_trans kk.1 nk)
end
end Mine
end
-- part P31
section
open PySem PySem.W PySem.Calls PyProof.Rows
set_option maxRecDepth 100000
namespace Mine
noncomputable def xL_0 (sa : Addr) (sl : List Int) : XS := xsAsg (xCall (F_law_deck sa sl) (xaCons (xLoc 0) xaNil)) (xtLoc 1)
noncomputable def xL_1 : XS := xsAsg (xTup (xaCons (xCall F_Line (xaCons (xVal (.int 6)) (xaCons (xGet (xVal v_law_pens) (xVal (.int 1))) xaNil))) (xaCons (xRaw (eDict (pCons "signs" (eVal (.int 0)) (pCons "is_right" (eVal (.bool true)) (pNil))))) xaNil))) (xtSwap 2 (xtCons (xtLoc 3) (xtCons (xtLoc 2) xtNil)))
noncomputable def xL_2 : XS := xsAsg (xBin oMul (xList (xaCons (xCall F_law_blank (xaCons (xGet (xVal v_law_pens) (xVal (.int 1))) xaNil)) xaNil)) (xVal (.int 6))) (xtLoc 4)
noncomputable def xL_3 : XS := xsIf (xbNot (xbOf (xCall F_law_is_so (xaCons (xLoc 2) (xaCons (xLoc 4) xaNil))))) (xsCons (xsRet (xVal (.bool false))) xsNil) xsNil
noncomputable def xL_4 : XS := xsAsg (xTup (xaCons (xCall F_Line (xaCons (xVal (.int 6)) (xaCons (xGet (xVal v_law_pens) (xVal (.int 0))) xaNil))) (xaCons (xBin oMul (xList (xaCons (xCall F_law_blank (xaCons (xGet (xVal v_law_pens) (xVal (.int 0))) xaNil)) xaNil)) (xVal (.int 6))) xaNil))) (xtTupN 2 (xtCons (xtLoc 2) (xtCons (xtLoc 4) xtNil)))
noncomputable def xL_body : XS := xsCons (xsAsg (xTup (xaCons (xMeth 218 "copy" F_L_copy (xLoc 2) xaNil) (xaCons (xLoc 4) xaNil))) (xtSwap 2 (xtCons (xtLoc 7) (xtCons (xtLoc 6) xtNil)))) (xsCons (xsAsg (xCall F_law_deed (xaCons (xLoc 1) (xaCons (xLoc 2) (xaCons (xLoc 4) (xaCons (xLoc 3) xaNil))))) (xtLoc 4)) (xsCons (xsIf (xbOr (xbNot (xbOf (xCall F_law_is_so (xaCons (xLoc 2) (xaCons (xLoc 4) xaNil))))) (xbOr (xbNot (xbOf (xCall F_law_is_so (xaCons (xLoc 6) (xaCons (xLoc 7) xaNil))))) (xbOr (xbNot (xbOf (xGet (xLoc 3) (xVal (.str "is_right"))))) (xbVal false)))) (xsCons (xsRet (xVal (.bool false))) xsNil) xsNil) xsNil))
noncomputable def xL_5 : XS := xsFor false (xiRange (xaCons (xBin oAdd (xVal (.int 1)) (xCall F_law_draw (xaCons (xLoc 1) (xaCons (xVal (.int 6)) xaNil)))) xaNil)) (xtLoc 5) xL_body
noncomputable def xL_6 : XS := xsAsg (xCall F_law_draw (xaCons (xLoc 1) (xaCons (xVal (.int 6)) xaNil))) (xtLoc 8)
noncomputable def xL_7 : XS := xsAsg (xBin oAdd (xLoc 8) (xCall F_law_draw (xaCons (xLoc 1) (xaCons (xBin oSub (xVal (.int 6)) (xLoc 8)) xaNil)))) (xtLoc 9)
noncomputable def xL_8 : XS := xsAsg (xRaw (eComp (iRange (aCons (eVal (.int 6)) (aNil))) (bOf (eBin neA (eTake (eGet (eLoc 1) (eLoc 0)) (eVal (.int 4))) (eTake (eCall (F_law_blank) (aCons (eGet (eVal v_law_pens) (eVal (.int 0))) (aNil))) (eVal (.int 4))))) (eBin opAdd (eLoc 0) (eVal (.int 1))) [("cells", 4)])) (xtLoc 10)
noncomputable def xL_9 : XS := xsIf (xbOr (xbOf (xBin oNe (xCall fList (xaCons (xMeth 218 "codes" F_L_codes (xLoc 2) xaNil) xaNil)) (xCall F_law_codes (xaCons (xLoc 4) xaNil)))) (xbOr (xbOf (xBin oNe (xCall fList (xaCons (xMeth 218 "codes" F_L_codes (xLoc 2) (xaCons (xLoc 8) (xaCons (xLoc 9) xaNil))) xaNil)) (xCall F_law_codes (xaCons (xSlice (xLoc 4) (xLoc 8) (xBin oAdd (xLoc 9) (xVal (.int 1)))) xaNil)))) (xbVal false))) (xsCons (xsRet (xVal (.bool false))) xsNil) xsNil
noncomputable def xL_10 : XS := xsIf (xbOr (xbOf (xBin oNe (xMeth 218 "used" F_L_used (xLoc 2) xaNil) (xIf (xbOf (xBin oNe (xLoc 10) (xList xaNil))) (xGet (xLoc 10) (xUn oNeg (xVal (.int 1)))) (xVal (.int 0))))) (xbOr (xbNot (xbOf (xMeth 218 "equals" F_L_equals (xMeth 218 "copy" F_L_copy (xLoc 2) xaNil) (xaCons (xLoc 2) xaNil)))) (xbVal false))) (xsCons (xsRet (xVal (.bool false))) xsNil) xsNil
noncomputable def xL_11 : XS := xsAsg (xTup (xaCons (xBin oAdd (xVal (.int 3)) (xCall F_law_draw (xaCons (xLoc 1) (xaCons (xVal (.int 6)) xaNil)))) (xaCons (xVal (.bool true)) xaNil))) (xtTupN 2 (xtCons (xtLoc 11) (xtCons (xtAttr 218 "is_wrapped" (xLoc 2)) xtNil)))
noncomputable def xL_12 : XS := xsAsg (xMeth 218 "resized" F_L_resized (xLoc 2) (xaCons (xLoc 11) (xaCons (xGet (xVal v_law_pens) (xVal (.int 1))) xaNil))) (xtLoc 12)
noncomputable def xL_13 : XS := xsAsg (xCall F_law_mended (xaCons (xSlice (xBin oAdd (xLoc 4) (xBin oMul (xList (xaCons (xCall F_law_blank (xaCons (xGet (xVal v_law_pens) (xVal (.int 1))) xaNil)) xaNil)) (xVal (.int 6)))) (xVal .none) (xLoc 11)) xaNil)) (xtLoc 13)
noncomputable def xL_14 : XS := xsRet (xAnd (xCall F_law_is_so (xaCons (xLoc 12) (xaCons (xLoc 13) xaNil))) (xAnd (xBin oEq (xAttr 218 "is_wrapped" (xLoc 12)) (xBin oEq (xLoc 11) (xVal (.int 6)))) (xCall F_law_is_so (xaCons (xLoc 2) (xaCons (xLoc 4) xaNil)))))
theorem law_eq (sa : Addr) (sl : List Int) : m_law sa sl = (xsCons (xL_0 sa sl) (xsCons xL_1 (xsCons xL_2 (xsCons xL_3 (xsCons xL_4 (xsCons xL_5 (xsCons xL_6 (xsCons xL_7 (xsCons xL_8 (xsCons xL_9 (xsCons xL_10 (xsCons xL_11 (xsCons xL_12 (xsCons xL_13 (xsCons xL_14 xsNil))))))))))))))).m := by exact rfl
section
variable {σ : Store} {P : AV → Store → Prop} {lc : Lc}
theorem pen0_ : idx [pen0, pen1] 0 = some P0.av := rfl
theorem pen1_ : idx [pen0, pen1] 1 = some P1.av := rfl
theorem blanks6_ {i : Int} {p : Pen} (h : idx [pen0, pen1] i = some p.av) (hP : ∀ k σ2, σ2[k]? = some (.list ((List.replicate 6 (lblank p)).map LCell.av)) → Keep0 σ σ2 → σ.length ≤ k → P (.ref k) σ2) :
    (xBin oMul (xList (xaCons (xCall F_law_blank (xaCons (xGet (xVal v_law_pens) (xVal (.int i))) xaNil)) xaNil)) (xVal (.int 6))).wp lc σ P := by
  refine GetT.mk h ?_
  refine c_lblank ?_
  refine fun k1 σ1 e1 kp1 n1 => ?_
  refine MulR.mk e1 ⟨Nat.le_of_ble_eq_true rfl, by decide, by decide⟩ fun k2 σ2 e2 kp2 n2 => ?_
  rw [flat_one] at e2
  exact hP k2 σ2 (by rw [e2, List.map_replicate]; rfl) (kp1.tr kp2) (Nat.le_trans kp1.1 n2)
theorem ne_ints_same {a b : Nat} {L : List Int} (h : σ[a]? = some (.list (L.map .int))) (hb : σ[b]? = some (.list (L.map .int))) (hP : P (.bool false) σ) : OpR neA (.ref a) (.ref b) σ P := OpR.mk (by
  refine ne_py (py_ref h py_ints) (py_ref hb py_ints) ?_
  have : PyData.eqv (.list (L.map PyData.int)) (.list (L.map PyData.int)) = true := eqv_ints L
  rw [this]; exact hP)
theorem init_inv (p : Pen) : Inv 0 (List.replicate 6 (lblank p)) where
  ok := rep_ok
  rel := rep_tie
  mended := mend_ones rep_one
theorem law_init {sa : Addr} {sl : List Int} {K : XS} {Q : Fl → Lc → Store → Prop} (hsl : sl.length ≤ 1000)
    (hP : ∀ dk dc o d c mi wk σ2, DS σ2 dk dc o d c mi wk 0 (List.replicate 6 (lblank P0)) false → K.wp [some (.raw sa), some (.ref dk), some (.ref o), some (.ref wk), some (.ref mi), none, none, none, none, none, none, none, none, none] σ2 Q) :
    (xsCons (xL_0 sa sl) (xsCons xL_1 (xsCons xL_2 (xsCons xL_3 (xsCons xL_4 K))))).wp [some (.raw sa), none, none, none, none, none, none, none, none, none, none, none, none, none] [] Q := by
  refine CallR.mk (deck_ hsl fun dk dc σ1 D1 kp1 n1 n1' => ?_)
  refine GetT.mk pen1_ ?_
  refine CallR.mk (Line_ (by decide) fun o d c σ2 L2 kp2 no nd nc => ?_)
  refine RawR.mk (W_dict2 (by decide) fun wk σ3 e3 kp3 n3 => ?_)
  refine W_val (W_val ⟨e3, Upd.intro (lt_of_get e3) fun σ4 e4 kp4 => ?_⟩)
  have D3 := (D1.keep kp2 (fun h => h) fun h => h).keep kp3 (fun h => h) fun h => h
  have bk := Nat.lt_of_lt_of_le D1.lt.1 (Nat.le_trans kp2.1 n3)
  have bc := Nat.lt_of_lt_of_le D1.lt.2 (Nat.le_trans kp2.1 n3)
  have D4 := D3.keep kp4 (Nat.ne_of_lt bk) (Nat.ne_of_lt bc)
  have L4 := (L2.keep0 kp3).keep kp4 (Nat.ne_of_lt (Nat.lt_of_lt_of_le (lt_of_get L2.o) n3)) (Nat.ne_of_lt (Nat.lt_of_lt_of_le (lt_of_get L2.d) n3)) (Nat.ne_of_lt (Nat.lt_of_lt_of_le (lt_of_get L2.c) n3))
  have W4 : WAt σ4 wk 0 true := ⟨e4⟩
  clear D1 D3 L2 e3 e4
  refine blanks6_ pen1_ fun mi σ5 e5 kp5 n5 => ?_
  have L5 : LineAt σ5 o d c (str (List.replicate 6 (lblank P1))) false := by
    rw [str_rep]; exact L4.keep0 kp5
  refine CallR.mk (is_so_ L5 e5 (Nat.le_of_ble_eq_true rfl) fun σ6 kp6 => ?_)
  have k56 := kp5.tr kp6
  have D6 := D4.keep k56 (fun h => h) fun h => h
  have W6 := W4.keep k56 fun h => h
  refine GetT.mk pen0_ ?_
  refine CallR.mk (Line_ (by decide) fun o2 d2 c2 σ7 L7 kp7 no7 nd7 nc7 => ?_)
  refine blanks6_ pen0_ fun m2 σ8 e8 kp8 n8 => ?_
  have k78 := kp7.tr kp8
  exact hP dk dc o2 d2 c2 m2 wk σ8 {
    L := by rw [str_rep]; exact L7.keep0 kp8
    D := D6.keep k78 (fun h => h) fun h => h
    K := W6.keep k78 fun h => h
    m := e8
    ne1 := Nat.ne_of_gt bk
    ne2 := Nat.ne_of_gt (Nat.lt_of_lt_of_le D6.lt.2 nc7)
    ne3 := Nat.ne_of_lt (Nat.lt_of_lt_of_le (lt_of_get L7.c) n8)
    ne4 := Nat.ne_of_lt (Nat.lt_of_lt_of_le D6.lt.2 (Nat.le_trans kp7.1 n8))
    inv := init_inv P0
    len := rfl }
end
end Mine
end
-- part P32
section
open PySem PySem.W PySem.Calls PyProof.Rows
set_option maxRecDepth 100000
namespace Mine
section
variable {σ : Store} {dk dc o d c mi wk : Nat} {n : Int} {M : List LCell} {wr : Bool}
theorem DS.out (A : DS σ dk dc o d c mi wk n M wr) {j : Nat} (h : σ.length ≤ j) : ¬ DMod dk dc d c wk j := by
  rintro (rfl | rfl | rfl | rfl | rfl)
  · exact Nat.lt_irrefl _ (Nat.lt_of_lt_of_le A.D.lt.1 h)
  · exact Nat.lt_irrefl _ (Nat.lt_of_lt_of_le A.D.lt.2 h)
  · exact Nat.lt_irrefl _ (Nat.lt_of_lt_of_le (lt_of_get A.K.w) h)
  · exact Nat.lt_irrefl _ (Nat.lt_of_lt_of_le (lt_of_get A.L.c) h)
  · exact Nat.lt_irrefl _ (Nat.lt_of_lt_of_le (lt_of_get A.L.d) h)
theorem DS.mi_out (A : DS σ dk dc o d c mi wk n M wr) : ¬ DMod dk dc d c wk mi := by
  rintro (q | q | q | q | q)
  · exact A.km q.symm
  · exact A.ne4 q.symm
  · exact A.wm q.symm
  · exact A.ne3 q.symm
  · exact A.md q
theorem body_ {sa : Addr} {a5 a6 a7 : Option AV} {Q : Fl → Lc → Store → Prop} (A : DS σ dk dc o d c mi wk n M wr)
    (hP : ∀ mi' n' M' wr' b6 b7 σ2, DS σ2 dk dc o d c mi' wk n' M' wr' → Q .next [some (.raw sa), some (.ref dk), some (.ref o), some (.ref wk), some (.ref mi'), a5, b6, b7, none, none, none, none, none, none] σ2) :
    xL_body.wp [some (.raw sa), some (.ref dk), some (.ref o), some (.ref wk), some (.ref mi), a5, a6, a7, none, none, none, none, none, none] σ Q := by
  have ho := A.L.o
  have hd := A.L.d
  walk_at "xs"
  refine CallR.mk (L_copy_ A.L A.hl4 fun o' d' c' σ1 L1 kp1 no nd nc => ?_)
  refine CallR.mk (deed_ (A.keep0 kp1) fun k n' M' wr' σ2 iv ln e2 L2 D2 K2 kp2 n2 => ?_)
  have W1 : LineAt σ2 o' d' c' (str M) wr := L1.keep kp2 (A.out no) (A.out nd) (A.out nc)
  refine CallR.mk (is_so_ L2 e2 (by rw [ln]; exact Nat.le_of_ble_eq_true rfl) fun σ3 kp3 => ?_)
  refine CallR.mk (is_so_ (W1.keep0 kp3) (kp3.get0 (kp2.get A.mi_out (kp1.get0 A.m))) A.m4 fun σ4 kp4 => ?_)
  have k34 := kp3.tr kp4
  have K4 := K2.keep k34 fun h => h
  have hw := K4.w
  walk_at "xs"
  exact hP k n' M' wr' _ _ σ4 { L := L2.keep0 k34, D := D2.keep k34 (fun h => h) fun h => h, K := K4, m := k34.get0 e2, ne1 := A.ne1, ne2 := A.ne2, ne3 := Nat.ne_of_lt (Nat.lt_of_lt_of_le A.lt (Nat.le_trans kp1.1 n2)), ne4 := Nat.ne_of_lt (Nat.lt_of_lt_of_le A.D.lt.2 (Nat.le_trans kp1.1 n2)), inv := iv, len := ln }
theorem loop_ {sa : Addr} {K : XS} {Q : Fl → Lc → Store → Prop} (A : DS σ dk dc o d c mi wk n M wr)
    (hP : ∀ mi' n' M' wr' b5 b6 b7 σ2, DS σ2 dk dc o d c mi' wk n' M' wr' → K.wp [some (.raw sa), some (.ref dk), some (.ref o), some (.ref wk), some (.ref mi'), b5, b6, b7, none, none, none, none, none, none] σ2 Q) :
    (xsCons xL_5 K).wp [some (.raw sa), some (.ref dk), some (.ref o), some (.ref wk), some (.ref mi), none, none, none, none, none, none, none, none, none] σ Q := by
  refine CallR.mk (draw_ A.D (many := 6) (by decide) fun x σ1 a1 b1 D1 kp1 => ?_)
  have rs : rangeSrc [.int (1 + x)] = some (.range 0 (1 + x).toNat) := if_pos ⟨by lia, by lia⟩
  have hx : (1 + x).toNat ≤ 1000 := by lia
  show Som (rangeSrc _) _
  rw [rs]
  refine x_for (src := .range 0 (1 + x).toNat) _ (fun _ lc3 σ3 => ∃ mi' n' M' wr' b5 b6 b7, lc3 = [some (.raw sa), some (.ref dk), some (.ref o), some (.ref wk), some (.ref mi'), b5, b6, b7, none, none, none, none, none, none] ∧ DS σ3 dk dc o d c mi' wk n' M' wr') rfl ?_ (fun _ _ _ _ => range_items hx) ?_ ?_
  · exact ⟨_, _, _, _, _, _, _, rfl, A.draw D1 kp1⟩
  · rintro i y lc3 σ3 _ ⟨mi', n', M', wr', b5, b6, b7, rfl, A3⟩
    exact body_ A3 fun mi4 n4 M4 wr4 b64 b74 σ4 A4 => ⟨rfl, _, _, _, _, _, _, _, rfl, A4⟩
  · rintro lc3 σ3 ⟨mi', n', M', wr', b5, b6, b7, rfl, A3⟩
    exact hP mi' n' M' wr' b5 b6 b7 σ3 A3
end
end Mine
end
-- part P33
section
open PySem PySem.W PySem.Calls PyProof.Rows
set_option maxRecDepth 100000
namespace Mine
theorem popT_len {l : List Int} : (popT l).length ≤ l.length := by
  unfold popT
  rw [List.length_reverse]
  have := (List.dropWhile_sublist (l := l.reverse) (p := fun x => x == 32)).length_le
  rwa [List.length_reverse] at this
theorem flat_len {N : List LCell} (h : ∀ x ∈ N, x.cell.ch.length ≤ 1) : (N.flatMap codeM).length ≤ N.length := by
  induction N with
  | nil => simp
  | cons c t ih =>
    have h1 := h c List.mem_cons_self
    have h2 := ih fun x hx => h x (List.mem_cons_of_mem _ hx)
    have h3 : (codeM c).length ≤ 1 := by
      unfold codeM
      split
      · split <;> simp
      · exact h1
    rw [List.flatMap_cons, List.length_append, List.length_cons]
    lia
theorem Inv.ch {n : Int} {M : List LCell} (h : Inv n M) : ∀ x ∈ M, x.cell.ch.length ≤ 1 := fun x hx => (h.ok x hx).2.2.2
theorem Inv.chs {n : Int} {M : List LCell} (h : Inv n M) : ∀ x ∈ str M, x.ch.length ≤ 1 := fun x hx => by
  obtain ⟨y, hy, rfl⟩ := List.mem_map.mp hx
  exact h.ch y hy
section
variable {σ : Store} {dk dc o d c mi wk : Nat} {n : Int} {M : List LCell} {wr : Bool}
noncomputable def usedI (M : List LCell) : List Int := (usedM M 6).map fun i : Nat => (i : Int) + 1
theorem ask4 {c : LCell} : (0 : Int) ≤ 4 ∧ (4 : Int) < (([.tup (c.cell.ch.map .int), .int c.cell.w, c.cell.pen.av, .bool c.cell.g, .int c.id] : List AV).length : Int) ∧ ([.tup (c.cell.ch.map .int), .int c.cell.w, c.cell.pen.av, .bool c.cell.g, .int c.id] : List AV).length ≤ 1000 := ⟨by decide, (by decide : (4 : Int) < ((5 : Nat) : Int)), Nat.le_of_ble_eq_true rfl⟩
theorem mid_ {a0 b5 b6 b7 : Option AV} {K : XS} {Q : Fl → Lc → Store → Prop} (A : DS σ dk dc o d c mi wk n M wr)
    (hP : ∀ (left right k : Nat) (ri : Int) σ2, ri = right → left ≤ right → right < 6 → DS σ2 dk dc o d c mi wk n M wr → σ2[k]? = some (.list ((usedI M).map .int)) →
      K.wp [a0, some (.ref dk), some (.ref o), some (.ref wk), some (.ref mi), b5, b6, b7, some (.int left), some (.int ri), some (.ref k), none, none, none] σ2 Q) :
    (xsCons xL_6 (xsCons xL_7 (xsCons xL_8 K))).wp [a0, some (.ref dk), some (.ref o), some (.ref wk), some (.ref mi), b5, b6, b7, none, none, none, none, none, none] σ Q := by
  refine CallR.mk (draw_ A.D (many := 6) (by decide) fun x σ1 a1 b1 D1 kp1 => ?_)
  have A1 := A.draw D1 kp1
  clear A D1 kp1
  refine CallR.mk (draw_ A1.D (many := 6 - x) (by lia) fun y σ2 a2 b2 D2 kp2 => ?_)
  have A2 := A1.draw D2 kp2
  clear A1 D2 kp2
  obtain ⟨left, rfl⟩ := Int.eq_ofNat_of_zero_le a1
  obtain ⟨right, hr⟩ : ∃ r : Nat, (left : Int) + y = r := Int.eq_ofNat_of_zero_le (by lia)
  refine RawR.mk (W_compF (f := fun i : Nat => AV.int (0 + (i : Int))) (X := List.range 6) (fun i => !(M[i]?.any fun c => isPB c.cell)) (fun i => .int ((i : Int) + 1)) ?_)
  refine XE.okm (X := xiRange (xaCons (xVal (.int 6)) xaNil)) rfl ?_
  refine ⟨rfl, Nat.le_of_ble_eq_true rfl, fun σ3 _ => range_items (by decide), ?_, ?_, ?_⟩
  · intro i hi σ3 kp
    have hi6 : i < M.length := by rw [A2.len]; exact List.mem_range.mp hi
    have e : M[i]? = some M[i] := List.getElem?_eq_getElem hi6
    generalize M[i] = x at e
    refine XE.okm (X := xbOf (xBin oNe (xTake (xGet (xLoc 1) (xLoc 0)) (xVal (.int 4))) (xTake (xCall F_law_blank (xaCons (xGet (xVal v_law_pens) (xVal (.int 0))) xaNil)) (xVal (.int 4))))) rfl ?_
    refine GetR.mk (kp.get0 A2.m) (idx_at (by lia) (by rw [A2.len]; exact Nat.le_of_ble_eq_true rfl) (c := x) (by rw [Int.zero_add]; exact e)) ?_
    refine AskR.mk ask4 ?_
    refine GetT.mk pen0_ ?_
    refine c_lblank ?_
    refine AskR.mk ask4 ?_
    refine OpR.mk ?_
    show W (neA x.cell.av plainC.av σ3) _
    refine ne_py py_cell py_cell ⟨?_, rfl⟩
    rw [e]; rfl
  · intro i _ _ σ3 _
    refine XE.okm (X := xBin oAdd (xLoc 0) (xVal (.int 1))) rfl ?_
    exact ⟨by rw [Int.zero_add], rfl⟩
  · intro k σ3 e3 kp3 n3
    refine hP left right k _ σ3 hr (by lia) (by lia) (A2.keep0 kp3) ?_
    rw [e3]
    unfold usedI usedM
    rw [List.map_map]; rfl
theorem pop_le {N : List LCell} (h1 : N.length ≤ 6) (h2 : ∀ x ∈ N, x.cell.ch.length ≤ 1) : ((popT (N.flatMap codeM)).map AV.int).length ≤ 1000 := by
  rw [List.length_map]
  exact Nat.le_trans popT_len (Nat.le_trans (flat_len h2) (Nat.le_trans h1 (Nat.le_of_ble_eq_true rfl)))
theorem codes_ {a0 a1 a3 b5 b6 b7 b10 : Option AV} {left right : Nat} {K : XS} {Q : Fl → Lc → Store → Prop} (A : DS σ dk dc o d c mi wk n M wr)
    (hP : ∀ σ2, Keep0 σ σ2 → K.wp [a0, a1, some (.ref o), a3, some (.ref mi), b5, b6, b7, some (.int left), some (.int right), b10, none, none, none] σ2 Q) :
    (xsCons xL_9 K).wp [a0, a1, some (.ref o), a3, some (.ref mi), b5, b6, b7, some (.int left), some (.int right), b10, none, none, none] σ Q := by
  have inv := A.inv
  have hl : (str M).length ≤ 50 := by rw [A.hl6]; exact Nat.le_of_ble_eq_true rfl
  refine MethR.mk A.L.o A.L.d rfl ?_
  refine CallR.mk (L_codes_all A.L hl inv.chs fun k1 σ1 e1 kp1 n1 => ?_)
  rw [codes_law_all inv] at e1
  have hm : ∀ x ∈ mend M, x.cell.ch.length ≤ 1 := by rw [inv.mended]; exact inv.ch
  refine c_list e1 (pop_le (by rw [mend_length, A.len]; exact Nat.le_refl _) hm) fun k2 σ2 e2 kp2 n2 => ?_
  refine CallR.mk (law_codes_ (kp2.get0 (kp1.get0 A.m)) (by rw [A.len]; exact Nat.le_of_ble_eq_true rfl) hm fun k3 σ3 e3 kp3 n3 => ?_)
  refine ne_ints_same (kp3.get0 e2) e3 ?_
  have k13 := kp1.tr (kp2.tr kp3)
  have A3 := A.keep0 k13
  refine MethR.mk A3.L.o A3.L.d rfl ?_
  refine CallR.mk (L_codes_ A3.L hl inv.chs fun k4 σ4 e4 kp4 n4 => ?_)
  rw [codes_law inv] at e4
  have i2 := slice_inv inv left (right + 1)
  have hsl : (sl' M left (right + 1)).length ≤ 6 := by rw [← A.len]; exact (sl_sub (M := M) (a := left) (b := right + 1)).length_le
  refine c_list e4 (pop_le (by rw [mend_length]; exact hsl) i2.ch) fun k5 σ5 e5 kp5 n5 => ?_
  refine SliceR.mk (kp5.get0 (kp4.get0 A3.m)) (by rw [List.length_map, A.len]; exact Nat.le_of_ble_eq_true rfl) fun k6 σ6 e6 kp6 n6 => ?_
  rw [sliceL_map, show (right : Int) + 1 = ((right + 1 : Nat) : Int) from rfl, sliceG_nat] at e6
  refine CallR.mk (law_codes_ (M := sl' M left (right + 1)) e6 (Nat.le_trans hsl (Nat.le_of_ble_eq_true rfl)) i2.ch fun k7 σ7 e7 kp7 n7 => ?_)
  refine ne_ints_same (kp7.get0 (kp6.get0 e5)) e7 ?_
  exact hP σ7 (k13.tr ((kp4.tr kp5).tr (kp6.tr kp7)))
theorem used_ {a0 a1 a3 a4 b5 b6 b7 b8 b9 : Option AV} {k : Nat} {K : XS} {Q : Fl → Lc → Store → Prop} (A : DS σ dk dc o d c mi wk n M wr) (hk : σ[k]? = some (.list ((usedI M).map .int)))
    (hP : ∀ σ2, Keep0 σ σ2 → K.wp [a0, a1, some (.ref o), a3, a4, b5, b6, b7, b8, b9, some (.ref k), none, none, none] σ2 Q) :
    (xsCons xL_10 K).wp [a0, a1, some (.ref o), a3, a4, b5, b6, b7, b8, b9, some (.ref k), none, none, none] σ Q := by
  have hu := used_go (M := M) 6
  have hul : (usedM M 6).length ≤ 6 := by unfold usedM; exact Nat.le_trans (List.length_filter_le _ _) (Nat.le_of_ble_eq_true rfl)
  have hil : (usedI M).length ≤ 1000 := by unfold usedI; rw [List.length_map]; exact Nat.le_trans hul (Nat.le_of_ble_eq_true rfl)
  have rest : ∀ σ1 (R : Bool → Store → Prop), Keep0 σ σ1 → (∀ σ2, Keep0 σ σ2 → R false σ2) → (xbOr (xbNot (xbOf (xMeth 218 "equals" F_L_equals (xMeth 218 "copy" F_L_copy (xLoc 2) xaNil) (xaCons (xLoc 2) xaNil)))) (xbVal false)).wp [a0, a1, some (.ref o), a3, a4, b5, b6, b7, b8, b9, some (.ref k), none, none, none] σ1 R := by
    intro σ1 R kp1 hR
    have L1 := A.L.keep0 kp1
    refine MethR.mk L1.o L1.d rfl ?_
    refine CallR.mk (L_copy_ L1 A.hl4 fun o' d' c' σ2 L2 kp2 no nd nc => ?_)
    refine MethR.mk L2.o L2.d rfl ?_
    exact CallR.mk (L_equals_ L2 (L1.keep0 kp2) (hR σ2 (kp1.tr kp2)))
  refine MethR.mk A.L.o A.L.d rfl ?_
  refine CallR.mk (L_used_ A.L (by rw [A.hl6]; exact Nat.le_of_ble_eq_true rfl) ?_)
  rw [A.hl6]
  generalize trimN isPB (str M) 6 = z at hu
  refine fun k1 σ1 e1 kp1 n1 => ?_
  have hk1 := kp1.get0 hk
  refine o_nei hk1 e1 ?_
  cases q : (usedM M 6).getLast? with
  | none =>
    rw [q] at hu
    have e0 : usedI M = [] := by unfold usedI; rw [List.getLast?_eq_none_iff.mp q]; rfl
    have hz : z = 0 := hu
    refine IfB.ff (by rw [e0]; rfl) ?_
    refine IfB.ff (t_nnot (t_eq (by rw [hz]; rfl))) ?_
    refine rest σ1 _ kp1 ?_
    exact fun σ2 kp2 => hP σ2 kp2
  | some i =>
    rw [q] at hu
    have e1 : (usedI M).getLast? = some ((i : Int) + 1) := by unfold usedI; rw [List.getLast?_map, q]; rfl
    have hz : z = i + 1 := hu
    refine IfB.tt (by cases r : usedI M with | nil => rw [r] at e1; cases e1 | cons _ _ => rfl) ?_
    refine GetR.mk hk1 (idx_last hil (c := (i : Int) + 1) (by rw [← List.getLast?_eq_getElem?]; exact e1)) ?_
    refine IfB.ff (t_nnot (t_eq (by rw [hz]; rfl))) ?_
    refine rest σ1 _ kp1 ?_
    exact fun σ2 kp2 => hP σ2 kp2
/-- the width turned, and the last word -/
theorem last_ {a0 b5 b6 b7 b8 b9 b10 : Option AV} {Q : Fl → Lc → Store → Prop} (A : DS σ dk dc o d c mi wk n M wr) (hP : ∀ lc σ2, Q (.ret (.bool true)) lc σ2) :
    (xsCons xL_11 (xsCons xL_12 (xsCons xL_13 (xsCons xL_14 xsNil)))).wp [a0, some (.ref dk), some (.ref o), some (.ref wk), some (.ref mi), b5, b6, b7, b8, b9, b10, none, none, none] σ Q := by
  have inv := A.inv
  refine CallR.mk (draw_ A.D (many := 6) (by decide) fun x σ1 a1 b1 D1 kp1 => ?_)
  have A1 := A.draw D1 kp1
  clear A D1 kp1
  obtain ⟨cols, hc⟩ : ∃ r : Nat, 3 + x = r := Int.eq_ofNat_of_zero_le (by lia)
  have c50 : cols ≤ 50 := by lia
  have c12 : cols ≤ 6 + 6 := by lia
  clear a1 b1
  refine SetA.mk A1.L.o A1.L.d rfl fun σ2 e2 kp2 => ?_
  have L2 : LineAt σ2 o d c (str M) true := ⟨kp2.get A1.L.od A1.L.o, e2, kp2.get A1.L.dc.symm A1.L.c⟩
  have m2 := kp2.get A1.md A1.m
  refine MethR.mk L2.o L2.d rfl ?_
  refine GetT.mk pen1_ ?_
  show CallR F_L_resized [.ref o, .int (3 + x), P1.av] σ2 _
  rw [hc]
  refine CallR.mk (L_resized_ L2 (by rw [A1.hl6]; exact Nat.le_of_ble_eq_true rfl) c50 fun o' d' c' σ3 L3 kp3 => ?_)
  refine blanks6_ pen1_ fun k4 σ4 e4 kp4 n4 => ?_
  refine AddR.mk (kp4.get0 (kp3.get0 m2)) e4 (by rw [List.length_map, List.length_map, A1.len]; exact Nat.le_of_ble_eq_true rfl) fun k5 σ5 e5 kp5 n5 => ?_
  rw [← List.map_append] at e5
  have lMB : (M ++ List.replicate 6 (lblank P1)).length = 12 := by rw [List.length_append, A1.len]; rfl
  refine SliceR.mk e5 (by rw [List.length_map, lMB]; exact Nat.le_of_ble_eq_true rfl) fun k6 σ6 e6 kp6 n6 => ?_
  rw [sliceL_map, sliceG_to] at e6
  have lT : ((M ++ List.replicate 6 (lblank P1)).take cols).length ≤ 400 := Nat.le_trans (List.length_take_le' _ _) (by rw [lMB]; exact Nat.le_of_ble_eq_true rfl)
  refine CallR.mk (mended_ e6 lT fun k7 σ7 e7 kp7 n7 => ?_)
  have k37 := (kp4.tr kp5).tr (kp6.tr kp7)
  have L7 := L3.keep0 k37
  rw [← resized_law inv (m := 6) (by rw [A1.len]; exact c12)] at L7
  refine CallR.mk (is_so_ L7 e7 (by rw [mend_length]; exact lT) fun σ8 kp8 => ?_)
  have L8 := L7.keep0 kp8
  refine AttrR.mk L8.o L8.d rfl ?_
  have hb : ((true && cols == (str M).length) == ((cols : Int) == 6)) = true := by
    rw [A1.hl6]
    by_cases q : cols = 6
    · subst q; rfl
    · rw [t_ne (a := (cols : Int)) (b := 6) (by lia), beq_eq_false_iff_ne.mpr q]; rfl
  refine IfB.tt hb ?_
  have k38 := kp3.tr (k37.tr kp8)
  exact CallR.mk (is_so_ (L2.keep0 k38) (k38.get0 m2) A1.m4 fun σ9 kp9 => hP _ _)
end
theorem law_done (sa : Addr) (sl : List Int) (h : sl.length ≤ 63) : WS (m_law sa sl [some (.raw sa), none, none, none, none, none, none, none, none, none, none, none, none, none] []) fun fl _ _ => fl = .ret (.bool true) := by
  rw [law_eq]
  refine XS.ok _ (law_init (Nat.le_trans h (Nat.le_of_ble_eq_true rfl)) fun dk dc o d c mi wk σ A => ?_)
  refine loop_ A fun mi' n' M' wr' b5 b6 b7 σ2 A2 => ?_
  refine mid_ A2 fun left right k ri σ3 er h1 h2 A3 hk => ?_
  subst er
  refine codes_ A3 fun σ4 kp4 => ?_
  have A4 := A3.keep0 kp4
  refine used_ A4 (kp4.get0 hk) fun σ5 kp5 => ?_
  exact last_ (A4.keep0 kp5) fun _ _ => rfl
end Mine
end
-- part JN
section
open PySem PySem.W PySem.Calls PyProof.Rows
set_option pp.proofs false
set_option pp.deepTerms false
set_option pp.maxSteps 800
namespace Mine
noncomputable def lc0 (sa : Addr) : Lc := some (.raw sa) :: List.replicate 13 none
theorem PL (sa : Addr) (sl : List Int) (h : sl.length ≤ 63) : ∃ lc' σ', m_law sa sl (lc0 sa) [] = some (.ret (.bool true), lc', σ') := by
  obtain ⟨fl, lc', σ', e, rfl⟩ := law_done sa sl h
  exact ⟨lc', σ', e⟩
theorem vs_ints {vs : List Value} {ns : List Int} (h : IntsAre vs ns) (ρ : List Addr) (hp : Heap) : Vs ρ hp (ns.map .int) vs := by
  induction h with
  | nil => exact .nil
  | cons _ _ _ ih => exact .cons (.int _ _) ih
theorem law_env (L a : Addr) (cd : Value) : EnvOk lawNs (envOfC "law" lawScope L a cd) where
  kind := rfl
  glob := rfl
  blt := rfl
  nd := by decide
  loc := by
    intro x hx
    have key : (lawNs.all fun x => decide (lawScope.names.lookup x = some .local) || decide (x = ("cells" : Str))) = true := by decide +kernel
    have h := List.all_eq_true.mp key x hx
    simp only [Bool.or_eq_true, decide_eq_true_eq] at h
    rcases h with h | rfl
    · exact .inl h
    · exact .inr ⟨.inl (by rfl), by rfl⟩
  one := by
    intro n c n' c' h h'
    have e : (envOfC "law" lawScope L a cd).cells = [(("cells" : Str), L + 1)] := by rfl
    rw [e] at h h'
    rw [lookup_cons_if] at h h'
    split at h <;> split at h'
    · rename_i p q; rw [eq_of_beq p, eq_of_beq q]
    · cases h'
    · cases h
    · cases h
theorem law_fr {w : World} {hB h₁ : Heap} {mg mb : Str → Option Value} {sa : Addr} {sl : List Int} {fa : Addr} {cd : Value} {wc : Obj} {cv : Option Value} {m : Str → Option Value} (hn : h₁.Ns hB.objs.size m) (hm : m "script" = some (.ref sa))
    (hc : h₁.get? (hB.objs.size + 1) = some wc) (hd : wc.data = .cell cv) :
    FR (XX w hB mg mb sa sl) lawNs (envOfC "law" lawScope hB.objs.size fa cd) [] (lc0 sa) h₁ := by
  have e : (envOfC "law" lawScope hB.objs.size fa cd).cells = [(("cells" : Str), hB.objs.size + 1)] := by rfl
  have key : ∀ n c, (envOfC "law" lawScope hB.objs.size fa cd).cells.lookup n = some c → c = hB.objs.size + 1 := by
    intro n c h
    rw [e, lookup_cons_if] at h
    split at h
    · exact (Option.some.inj h).symm
    · cases h
  refine ⟨⟨m, hn, fun k x av hk hv => ?_⟩, fun b hb => ⟨by simp, ?_⟩, fun n c h => ⟨cv, wc, ?_, hd⟩, rfl⟩
  · cases k with
    | zero => cases hk; cases hv; exact ⟨_, .inl ⟨by rfl, hm⟩, .raw _⟩
    | succ k =>
      have : (List.replicate 13 (none : Option AV))[k]? = some (some av) := hv
      rw [List.getElem?_replicate] at this
      split at this <;> cases this
  · rcases hb with rfl | ⟨n, h⟩
    · exact get_none_size
    · rw [key n b h]; exact size_none (Nat.le_succ _)
  · rw [key n c h]; exact hc
theorem law_good {prog : Program} {w : World} {s : Shared} {h₁ : Heap} {tk : Nat} {mg mb : Str → Option Value} {sa : Addr} {sl : List Int} {vs : List Value} {fa : Addr} {cd : Value} {wc : Obj} {cv : Option Value} {m : Str → Option Value} {Q : Flow → Shared → Prop} {E : Value → Shared → Prop}
    (hp : prog = PySem.Challenge.rw_og0243_01.row.prog) (hl : ¬ ((63 : Nat) : Int) < (sl.length : Int))
    (KX : (Hd.hK w.params).In s.heap) (g : s.heap.Ns mainGlobals mg) (b : s.heap.Ns builtinsNs mb) (nl : s.heap.NoLimit) (bt : ∀ x : Str, x ≠ "__name__" → mb x = bootBuiltins x)
    (hL : s.heap.IsList sa vs.toArray) (hI : IntsAre vs sl)
    (F : Fr s.heap s.heap.objs.size h₁ m) (hm : m "script" = some (.ref sa)) (hc : h₁.get? (s.heap.objs.size + 1) = some wc) (hd : wc.data = .cell cv)
    (hQ : ∀ s' m', Fr s.heap s.heap.objs.size s'.heap m' → s'.gens = s.gens → s'.os = s.os → Q (.ret (.bool true)) s') :
    wpAny (model prog w) (callerA.deeper (envOfC "law" lawScope s.heap.objs.size fa cd)) (execs lawBody (envOfC "law" lawScope s.heap.objs.size fa cd)) Q E { s with heap := h₁, toks := tk } := by
  subst hp
  obtain ⟨lc', σ', e⟩ := PL sa sl (by omega)
  have ok : (XX w s.heap mg mb sa sl).Ok := ⟨KX, g, b, nl, bt, vs.toArray, hL, fun ρ h => by simpa using vs_ints hI ρ h⟩
  have S : St (XX w s.heap mg mb sa sl) [] [] h₁ := ⟨rfl, List.nodup_nil, by simp, F.keep, by simp⟩
  have ao : AOk 7 (callerA.deeper (envOfC "law" lawScope s.heap.objs.size fa cd)) := ⟨rfl, by show 1 + claimMargin + 1 + _ ≤ _; decide, by show 4 + 3 + _ + _ ≤ _; decide⟩
  refine R_law (w := w) (hB := s.heap) (mg := mg) (mb := mb) (sa := sa) (sl := sl) s.heap.objs.size fa cd ok (law_env _ _ _) ao (s := { s with heap := h₁, toks := tk }) (law_fr F.ns hm hc hd) S e fun f s' ρ' P F' V => ?_
  cases V with
  | ret hv =>
    cases hv
    obtain ⟨m', hn', _⟩ := F'.loc
    exact hQ s' m' ⟨hn', P.st.keep, Nat.le_refl _⟩ (by rw [P.same]) (by rw [P.same])
set_option maxRecDepth 100000 in
set_option maxHeartbeats 8000000 in
theorem tt : PySem.Challenge.rw_og0243_01.Holds := by
  w_on
  refine holds_law Hd.said fun said => ?_
  refine holds_open (q := Hd.vw) (loose := Hd.los) (Xt := Hd.xt) (XP := XL Hd.vw Hd.lv) (Yf := Hd.hk.obs) (Ya := Hd.hk.val) (YP := Hd.hk.says) (N := 3290) Hd.left (Hook.of Hd.hk) (Hook.keeps Hd.hk) (fun s e => xl_of s (Bool.and_eq_true_iff.mp e).1) XL.keeps (by rfl) (by rfl) (by rfl) (fun s e => recFacts_of (Bool.and_eq_true_iff.mp e).2) (by rfl) (row_said Hd.said) (by decide +kernel) ⟨rfl, rfl, rfl, rfl, rfl, by decide +kernel⟩ ?hw ?hc
  case hw => w_witness2
  w_strict (
  k_fill
  intro w s₀ s₁ mg mb G Y fa o pm cd doc dV kV ho hd hcd hD hmg hg args vals as hpre hlay hrd hwl hlo
  have KX := kIn_of Y
  refine Ground.open G ?_
  intro T B D TE TW
  try (refine guard_noD D (by decide +kernel) ?_; clear D)
  obtain ⟨_, _, M⟩ := bmod_of_top T
  have TA := at_of_top T
  try (obtain ⟨_, _, he, B0⟩ := based_of_top T rfl hmg ho hd; have he' : cd = _ := he; subst he'; clear he)
  clear hmg
  wrow_args hpre hlay hrd hwl hlo
  refine enter_call ?_
  w_top on
  try refine codeAny_mono ?_ (fun _ _ g => GoodW.toG g)
  have K0 := below_caller (Top.heap T)
  w_call any ho hd hcd hD T F
  clear hd TA
  k_drop
  rename_i w10 w9 w8 w7 sl hs hlay0 hL1 hr1 hl2 w5 w4 w3 w2 w1 hL ra w1' r0 hI hr hcond' hcond h₁ tk₁ wc hwc N0 X0
  refine law_good (sl := sl) (vs := w2) (wc := wc) rfl hcond' KX T.g T.b T.nolimit T.builtins hL hI F (by rfl) (N0 (_, wc) (by simp)).1 hwc fun s' m' F' hg' ho' => ?_
  refine goodW_bool F' (hg'.trans hg) (raisesW_false ?_) ?_ ho'
  · wrow_none_raised
  · wrow_post)
end Mine
end
set_option maxRecDepth 100000 in
set_option maxHeartbeats 8000000 in
theorem PySem.Challenge.cw_og0243_01_holds : PySem.Challenge.rw_og0243_01.Holds := by
  exact Mine.tt

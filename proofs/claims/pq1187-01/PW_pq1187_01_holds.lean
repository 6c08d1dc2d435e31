import PyProof.Rows.All
import Wide.All
import OpenK.AllK
import Wide.FinOn
import PySem.Challenge.RW_pq1187_01
set_option Elab.async false
set_option compiler.extract_closed false
set_option linter.all false
set_option linter.unusedVariables false
section PartHk
open PySem PySem.W PyProof.Rows
namespace Mine
noncomputable def stAt (i : Nat) : Stmt := (Challenge.pw_pq1187_01.main.body[i]?).getD (.Pass ⟨0, 0, 0, 0⟩)
noncomputable def inCls (s : Stmt) (j : Nat) : Stmt := match s with
  | .ClassDef _ _ _ b _ _ _ _ _ _ _ => (b[j]?).getD s
  | _ => s
noncomputable def fnO (s : Stmt) (name qual : String) (dV pm : Value) (cd : Addr) : Obj := match s with
  | .FunctionDef _ ps b _ _ _ sc _ _ _ => ⟨.type "function", none, .func (fnOf (Str.ofString name) (Str.ofString qual) ps b sc dV .none .none pm none (.ref cd) .none), #[]⟩
  | _ => { cls := Value.none, data := Data.dict #[] }
noncomputable def heapK : Params → Frag := fun P =>
  [(2, { cls := Value.none, data := Data.dict #[] }),
  (3, { cls := Value.type "dict", data := Data.dict #[{ hash := PyData.keyHash P (Str.ofString "__name__"), key := Value.str (Str.ofString "__name__") 165, val := Value.str (Str.ofString "law_pq1187_01") 707 }, { hash := PyData.keyHash P (Str.ofString "__doc__"), key := Value.str (Str.ofString "__doc__") 166, val := Value.none }, { hash := PyData.keyHash P (Str.ofString "__package__"), key := Value.str (Str.ofString "__package__") 167, val := Value.none }, { hash := PyData.keyHash P (Str.ofString "__loader__"), key := Value.str (Str.ofString "__loader__") 168, val := Value.builtin "__main__.__loader__#opaque" }, { hash := PyData.keyHash P (Str.ofString "__spec__"), key := Value.str (Str.ofString "__spec__") 169, val := Value.none }, { hash := PyData.keyHash P (Str.ofString "__annotations__"), key := Value.str (Str.ofString "__annotations__") 170, val := Value.ref 6 }, { hash := PyData.keyHash P (Str.ofString "__builtins__"), key := Value.str (Str.ofString "__builtins__") 171, val := Value.ref 4 }, { hash := PyData.keyHash P (Str.ofString "__file__"), key := Value.str (Str.ofString "__file__") 173, val := Value.str (Str.ofString "/claim/cut.py") 172 }, { hash := PyData.keyHash P (Str.ofString "__cached__"), key := Value.str (Str.ofString "__cached__") 174, val := Value.none }, { hash := PyData.keyHash P (Str.ofString "_wall"), key := Value.str (Str.ofString "_wall") 193, val := Value.ref 21 }, { hash := PyData.keyHash P (Str.ofString "NO_COLOUR"), key := Value.str (Str.ofString "NO_COLOUR") 198, val := Value.int (-1) 197 }, { hash := PyData.keyHash P (Str.ofString "PLAIN"), key := Value.str (Str.ofString "PLAIN") 201, val := Value.ref 22 }, { hash := PyData.keyHash P (Str.ofString "BACK"), key := Value.str (Str.ofString "BACK") 203, val := Value.int 2 202 }, { hash := PyData.keyHash P (Str.ofString "erased_pen"), key := Value.str (Str.ofString "erased_pen") 210, val := Value.ref 29 }, { hash := PyData.keyHash P (Str.ofString "blank_cell"), key := Value.str (Str.ofString "blank_cell") 217, val := Value.ref 36 }, { hash := PyData.keyHash P (Str.ofString "is_blank"), key := Value.str (Str.ofString "is_blank") 224, val := Value.ref 43 }, { hash := PyData.keyHash P (Str.ofString "is_plain_blank"), key := Value.str (Str.ofString "is_plain_blank") 231, val := Value.ref 50 }, { hash := PyData.keyHash P (Str.ofString "LINE_SIZES"), key := Value.str (Str.ofString "LINE_SIZES") 238, val := Value.ref 51 }, { hash := PyData.keyHash P (Str.ofString "line_blanks"), key := Value.str (Str.ofString "line_blanks") 246, val := Value.ref 58 }, { hash := PyData.keyHash P (Str.ofString "right_half"), key := Value.str (Str.ofString "right_half") 253, val := Value.ref 65 }, { hash := PyData.keyHash P (Str.ofString "line_part"), key := Value.str (Str.ofString "line_part") 261, val := Value.ref 72 }, { hash := PyData.keyHash P (Str.ofString "line_slice"), key := Value.str (Str.ofString "line_slice") 271, val := Value.ref 79 }, { hash := PyData.keyHash P (Str.ofString "Line"), key := Value.str (Str.ofString "Line") 442, val := Value.ref 204 }, { hash := PyData.keyHash P (Str.ofString "line_of"), key := Value.str (Str.ofString "line_of") 453, val := Value.ref 216 }, { hash := PyData.keyHash P (Str.ofString "SINGLE"), key := Value.str (Str.ofString "SINGLE") 457, val := Value.str (Str.ofString "single") 456 }, { hash := PyData.keyHash P (Str.ofString "LogicalLine"), key := Value.str (Str.ofString "LogicalLine") 525, val := Value.ref 261 }, { hash := PyData.keyHash P (Str.ofString "reflow_used"), key := Value.str (Str.ofString "reflow_used") 533, val := Value.ref 272 }, { hash := PyData.keyHash P (Str.ofString "reflow_begins_wide"), key := Value.str (Str.ofString "reflow_begins_wide") 540, val := Value.ref 279 }, { hash := PyData.keyHash P (Str.ofString "reflow_part"), key := Value.str (Str.ofString "reflow_part") 549, val := Value.ref 286 }, { hash := PyData.keyHash P (Str.ofString "reflow_goes_on"), key := Value.str (Str.ofString "reflow_goes_on") 557, val := Value.ref 293 }, { hash := PyData.keyHash P (Str.ofString "logical_of"), key := Value.str (Str.ofString "logical_of") 567, val := Value.ref 300 }, { hash := PyData.keyHash P (Str.ofString "cut_with_places"), key := Value.str (Str.ofString "cut_with_places") 583, val := Value.ref 307 }, { hash := PyData.keyHash P (Str.ofString "reflow_place"), key := Value.str (Str.ofString "reflow_place") 592, val := Value.ref 314 }, { hash := PyData.keyHash P (Str.ofString "reflow_line"), key := Value.str (Str.ofString "reflow_line") 604, val := Value.ref 321 }, { hash := PyData.keyHash P (Str.ofString "Cutting"), key := Value.str (Str.ofString "Cutting") 706, val := Value.ref 373 }, { hash := PyData.keyHash P (Str.ofString "_law_signs"), key := Value.str (Str.ofString "_law_signs") 719, val := Value.ref 383 }, { hash := PyData.keyHash P (Str.ofString "_law_take"), key := Value.str (Str.ofString "_law_take") 730, val := Value.ref 390 }, { hash := PyData.keyHash P (Str.ofString "_law_paragraph"), key := Value.str (Str.ofString "_law_paragraph") 736, val := Value.ref 395 }, { hash := PyData.keyHash P (Str.ofString "_law_shown"), key := Value.str (Str.ofString "_law_shown") 750, val := Value.ref 402 }, { hash := PyData.keyHash P (Str.ofString "_law_lines"), key := Value.str (Str.ofString "_law_lines") 756, val := Value.ref 407 }, { hash := PyData.keyHash P (Str.ofString "_law_led"), key := Value.str (Str.ofString "_law_led") 779, val := Value.ref 414 }, { hash := PyData.keyHash P (Str.ofString "law"), key := Value.str (Str.ofString "law") 785, val := Value.ref 419 }] 42 }),
  (22, { cls := Value.type "tuple", data := Data.seq #[Value.int 0 199, Value.int (-1) 197, Value.int (-1) 197, Value.int (-1) 197, Value.int 0 200] }),
  (28, { cls := Value.type "code", data := Data.fields #[Value.str (Str.ofString "erased_pen") 204, Value.str (Str.ofString "erased_pen") 205, Value.str (Str.ofString "/claim/cut.py") 206, Value.int 8 0, Value.int 1 0, Value.int 0 0, Value.int 0 0, Value.int 3 0, Value.ref 23, Value.bool true, Value.int 181 0, Value.ref 24, Value.none, Value.ref 25, Value.ref 26, Value.ref 27, Value.int 208 0, Value.int 8 0, Value.str (Str.ofString "/claim/cut.py") 209] }),
  (29, fnO (stAt 5) "erased_pen" "erased_pen" (Value.none) (Value.str (Str.ofString "termcore.base") 194) 28),
  (35, { cls := Value.type "code", data := Data.fields #[Value.str (Str.ofString "blank_cell") 211, Value.str (Str.ofString "blank_cell") 212, Value.str (Str.ofString "/claim/cut.py") 213, Value.int 10 0, Value.int 1 0, Value.int 0 0, Value.int 0 0, Value.int 3 0, Value.ref 30, Value.bool true, Value.int 181 0, Value.ref 31, Value.none, Value.ref 32, Value.ref 33, Value.ref 34, Value.int 215 0, Value.int 10 0, Value.str (Str.ofString "/claim/cut.py") 216] }),
  (36, fnO (stAt 6) "blank_cell" "blank_cell" (Value.none) (Value.str (Str.ofString "termcore.base") 194) 35),
  (42, { cls := Value.type "code", data := Data.fields #[Value.str (Str.ofString "is_blank") 218, Value.str (Str.ofString "is_blank") 219, Value.str (Str.ofString "/claim/cut.py") 220, Value.int 12 0, Value.int 1 0, Value.int 0 0, Value.int 0 0, Value.int 3 0, Value.ref 37, Value.bool true, Value.int 181 0, Value.ref 38, Value.none, Value.ref 39, Value.ref 40, Value.ref 41, Value.int 222 0, Value.int 12 0, Value.str (Str.ofString "/claim/cut.py") 223] }),
  (43, fnO (stAt 7) "is_blank" "is_blank" (Value.none) (Value.str (Str.ofString "termcore.base") 194) 42),
  (49, { cls := Value.type "code", data := Data.fields #[Value.str (Str.ofString "is_plain_blank") 225, Value.str (Str.ofString "is_plain_blank") 226, Value.str (Str.ofString "/claim/cut.py") 227, Value.int 14 0, Value.int 1 0, Value.int 0 0, Value.int 0 0, Value.int 3 0, Value.ref 44, Value.bool true, Value.int 181 0, Value.ref 45, Value.none, Value.ref 46, Value.ref 47, Value.ref 48, Value.int 229 0, Value.int 14 0, Value.str (Str.ofString "/claim/cut.py") 230] }),
  (50, fnO (stAt 8) "is_plain_blank" "is_plain_blank" (Value.none) (Value.str (Str.ofString "termcore.base") 194) 49),
  (51, { cls := Value.type "tuple", data := Data.seq #[Value.str (Str.ofString "single") 234, Value.str (Str.ofString "wide") 235, Value.str (Str.ofString "top") 236, Value.str (Str.ofString "bottom") 237] }),
  (57, { cls := Value.type "code", data := Data.fields #[Value.str (Str.ofString "line_blanks") 239, Value.str (Str.ofString "line_blanks") 240, Value.str (Str.ofString "/claim/cut.py") 241, Value.int 18 0, Value.int 2 0, Value.int 0 0, Value.int 0 0, Value.int 3 0, Value.ref 52, Value.bool true, Value.int 181 0, Value.ref 53, Value.none, Value.ref 54, Value.ref 55, Value.ref 56, Value.int 244 0, Value.int 18 0, Value.str (Str.ofString "/claim/cut.py") 245] }),
  (58, fnO (stAt 11) "line_blanks" "line_blanks" (Value.none) (Value.str (Str.ofString "termcore.lines") 232) 57),
  (78, { cls := Value.type "code", data := Data.fields #[Value.str (Str.ofString "line_slice") 262, Value.str (Str.ofString "line_slice") 263, Value.str (Str.ofString "/claim/cut.py") 264, Value.int 26 0, Value.int 3 0, Value.int 0 0, Value.int 0 0, Value.int 3 0, Value.ref 73, Value.bool true, Value.int 181 0, Value.ref 74, Value.none, Value.ref 75, Value.ref 76, Value.ref 77, Value.int 269 0, Value.int 26 0, Value.str (Str.ofString "/claim/cut.py") 270] }),
  (79, fnO (stAt 14) "line_slice" "line_slice" (Value.none) (Value.str (Str.ofString "termcore.lines") 232) 78),
  (92, { cls := Value.type "code", data := Data.fields #[Value.str (Str.ofString "__init__") 284, Value.str (Str.ofString "Line.__init__") 285, Value.str (Str.ofString "/claim/cut.py") 286, Value.int 35 0, Value.int 3 0, Value.int 0 0, Value.int 0 0, Value.int 3 0, Value.ref 87, Value.bool true, Value.int 181 0, Value.ref 88, Value.none, Value.ref 89, Value.ref 90, Value.ref 91, Value.int 290 0, Value.int 35 0, Value.str (Str.ofString "/claim/cut.py") 291] }),
  (93, fnO (inCls (stAt 15) 0) "__init__" "Line.__init__" (Value.none) (Value.str (Str.ofString "termcore.lines") 232) 92),
  (101, { cls := Value.type "property", data := Data.fields #[Value.ref 100, Value.none, Value.none, Value.none, Value.str (Str.ofString "columns") 300, Value.bool false] }),
  (203, { cls := Value.type "dict", data := Data.dict #[{ hash := PyData.keyHash P (Str.ofString "__module__"), key := Value.str (Str.ofString "__module__") 279, val := Value.str (Str.ofString "termcore.lines") 232 }, { hash := PyData.keyHash P (Str.ofString "__firstlineno__"), key := Value.str (Str.ofString "__firstlineno__") 283, val := Value.int 33 282 }, { hash := PyData.keyHash P (Str.ofString "__init__"), key := Value.str (Str.ofString "__init__") 292, val := Value.ref 93 }, { hash := PyData.keyHash P (Str.ofString "columns"), key := Value.str (Str.ofString "columns") 300, val := Value.ref 101 }, { hash := PyData.keyHash P (Str.ofString "shown"), key := Value.str (Str.ofString "shown") 307, val := Value.ref 108 }, { hash := PyData.keyHash P (Str.ofString "part"), key := Value.str (Str.ofString "part") 315, val := Value.ref 115 }, { hash := PyData.keyHash P (Str.ofString "put"), key := Value.str (Str.ofString "put") 324, val := Value.ref 122 }, { hash := PyData.keyHash P (Str.ofString "put_cells"), key := Value.str (Str.ofString "put_cells") 333, val := Value.ref 129 }, { hash := PyData.keyHash P (Str.ofString "erase"), key := Value.str (Str.ofString "erase") 344, val := Value.ref 137 }, { hash := PyData.keyHash P (Str.ofString "shift"), key := Value.str (Str.ofString "shift") 356, val := Value.ref 144 }, { hash := PyData.keyHash P (Str.ofString "insert"), key := Value.str (Str.ofString "insert") 367, val := Value.ref 151 }, { hash := PyData.keyHash P (Str.ofString "delete"), key := Value.str (Str.ofString "delete") 378, val := Value.ref 158 }, { hash := PyData.keyHash P (Str.ofString "fill"), key := Value.str (Str.ofString "fill") 388, val := Value.ref 165 }, { hash := PyData.keyHash P (Str.ofString "copy"), key := Value.str (Str.ofString "copy") 396, val := Value.ref 172 }, { hash := PyData.keyHash P (Str.ofString "codes"), key := Value.str (Str.ofString "codes") 406, val := Value.ref 180 }, { hash := PyData.keyHash P (Str.ofString "used"), key := Value.str (Str.ofString "used") 413, val := Value.ref 187 }, { hash := PyData.keyHash P (Str.ofString "resized"), key := Value.str (Str.ofString "resized") 423, val := Value.ref 194 }, { hash := PyData.keyHash P (Str.ofString "equals"), key := Value.str (Str.ofString "equals") 431, val := Value.ref 201 }, { hash := PyData.keyHash P (Str.ofString "__static_attributes__"), key := Value.str (Str.ofString "__static_attributes__") 435, val := Value.ref 202 }, { hash := PyData.keyHash P (Str.ofString "__dict__"), key := Value.str (Str.ofString "__dict__") 437, val := Value.ref 205 }, { hash := PyData.keyHash P (Str.ofString "__weakref__"), key := Value.str (Str.ofString "__weakref__") 439, val := Value.ref 206 }, { hash := PyData.keyHash P (Str.ofString "__doc__"), key := Value.str (Str.ofString "__doc__") 440, val := Value.none }] 4 }),
  (204, { cls := Value.type "type", data := Data.cls { name := Str.ofString "Line", bases := [Value.type "object"], mro := [Value.ref 204, Value.type "object"], ns := 203, qualname := Str.ofString "Line" }, slots := #[none, none, some (Value.str (Str.ofString "Line") 272), some (Value.str (Str.ofString "Line") 280), some (Value.builtin "object.__new__"), some (Value.bool true)] }),
  (205, { cls := Value.type "getset_descriptor", data := Data.fields #[Value.str (Str.ofString "__dict__") 436, Value.ref 204, Value.builtin "function.__dict__", Value.builtin "function.__dict__#set"] }),
  (206, { cls := Value.type "getset_descriptor", data := Data.fields #[Value.str (Str.ofString "__weakref__") 438, Value.ref 204, Value.builtin "ExceptionGroup.__weakref__", Value.none] }),
  (209, { cls := Value.type "tuple", data := Data.seq #[Value.bool false, Value.str (Str.ofString "single") 234] }),
  (215, { cls := Value.type "code", data := Data.fields #[Value.str (Str.ofString "line_of") 444, Value.str (Str.ofString "line_of") 445, Value.str (Str.ofString "/claim/cut.py") 446, Value.int 102 0, Value.int 3 0, Value.int 0 0, Value.int 0 0, Value.int 3 0, Value.ref 210, Value.bool true, Value.int 181 0, Value.ref 211, Value.none, Value.ref 212, Value.ref 213, Value.ref 214, Value.int 451 0, Value.int 102 0, Value.str (Str.ofString "/claim/cut.py") 452] }),
  (216, fnO (stAt 16) "line_of" "line_of" (Value.ref 209) (Value.str (Str.ofString "termcore.lines") 232) 215),
  (229, { cls := Value.type "code", data := Data.fields #[Value.str (Str.ofString "__init__") 470, Value.str (Str.ofString "LogicalLine.__init__") 471, Value.str (Str.ofString "/claim/cut.py") 472, Value.int 112 0, Value.int 3 0, Value.int 0 0, Value.int 0 0, Value.int 3 0, Value.ref 224, Value.bool true, Value.int 181 0, Value.ref 225, Value.none, Value.ref 226, Value.ref 227, Value.ref 228, Value.int 476 0, Value.int 112 0, Value.str (Str.ofString "/claim/cut.py") 477] }),
  (230, fnO (inCls (stAt 19) 0) "__init__" "LogicalLine.__init__" (Value.none) (Value.str (Str.ofString "termcore.reflow") 454) 229),
  (236, { cls := Value.type "code", data := Data.fields #[Value.str (Str.ofString "put") 479, Value.str (Str.ofString "LogicalLine.put") 480, Value.str (Str.ofString "/claim/cut.py") 481, Value.int 119 0, Value.int 2 0, Value.int 0 0, Value.int 0 0, Value.int 3 0, Value.ref 231, Value.bool true, Value.int 181 0, Value.ref 232, Value.none, Value.ref 233, Value.ref 234, Value.ref 235, Value.int 484 0, Value.int 119 0, Value.str (Str.ofString "/claim/cut.py") 485] }),
  (237, fnO (inCls (stAt 19) 1) "put" "LogicalLine.put" (Value.none) (Value.str (Str.ofString "termcore.reflow") 454) 236),
  (243, { cls := Value.type "code", data := Data.fields #[Value.str (Str.ofString "kept_to") 487, Value.str (Str.ofString "LogicalLine.kept_to") 488, Value.str (Str.ofString "/claim/cut.py") 489, Value.int 123 0, Value.int 2 0, Value.int 0 0, Value.int 0 0, Value.int 3 0, Value.ref 238, Value.bool true, Value.int 181 0, Value.ref 239, Value.none, Value.ref 240, Value.ref 241, Value.ref 242, Value.int 492 0, Value.int 123 0, Value.str (Str.ofString "/claim/cut.py") 493] }),
  (244, fnO (inCls (stAt 19) 2) "kept_to" "LogicalLine.kept_to" (Value.none) (Value.str (Str.ofString "termcore.reflow") 454) 243),
  (250, { cls := Value.type "code", data := Data.fields #[Value.str (Str.ofString "size_of") 495, Value.str (Str.ofString "LogicalLine.size_of") 496, Value.str (Str.ofString "/claim/cut.py") 497, Value.int 127 0, Value.int 2 0, Value.int 0 0, Value.int 0 0, Value.int 3 0, Value.ref 245, Value.bool true, Value.int 181 0, Value.ref 246, Value.none, Value.ref 247, Value.ref 248, Value.ref 249, Value.int 500 0, Value.int 127 0, Value.str (Str.ofString "/claim/cut.py") 501] }),
  (251, fnO (inCls (stAt 19) 3) "size_of" "LogicalLine.size_of" (Value.none) (Value.str (Str.ofString "termcore.reflow") 454) 250),
  (257, { cls := Value.type "code", data := Data.fields #[Value.str (Str.ofString "offset_of") 503, Value.str (Str.ofString "LogicalLine.offset_of") 504, Value.str (Str.ofString "/claim/cut.py") 505, Value.int 130 0, Value.int 3 0, Value.int 0 0, Value.int 0 0, Value.int 3 0, Value.ref 252, Value.bool true, Value.int 181 0, Value.ref 253, Value.none, Value.ref 254, Value.ref 255, Value.ref 256, Value.int 510 0, Value.int 130 0, Value.str (Str.ofString "/claim/cut.py") 511] }),
  (258, fnO (inCls (stAt 19) 4) "offset_of" "LogicalLine.offset_of" (Value.none) (Value.str (Str.ofString "termcore.reflow") 454) 257),
  (260, { cls := Value.type "dict", data := Data.dict #[{ hash := PyData.keyHash P (Str.ofString "__module__"), key := Value.str (Str.ofString "__module__") 465, val := Value.str (Str.ofString "termcore.reflow") 454 }, { hash := PyData.keyHash P (Str.ofString "__firstlineno__"), key := Value.str (Str.ofString "__firstlineno__") 469, val := Value.int 110 468 }, { hash := PyData.keyHash P (Str.ofString "__init__"), key := Value.str (Str.ofString "__init__") 478, val := Value.ref 230 }, { hash := PyData.keyHash P (Str.ofString "put"), key := Value.str (Str.ofString "put") 486, val := Value.ref 237 }, { hash := PyData.keyHash P (Str.ofString "kept_to"), key := Value.str (Str.ofString "kept_to") 494, val := Value.ref 244 }, { hash := PyData.keyHash P (Str.ofString "size_of"), key := Value.str (Str.ofString "size_of") 502, val := Value.ref 251 }, { hash := PyData.keyHash P (Str.ofString "offset_of"), key := Value.str (Str.ofString "offset_of") 512, val := Value.ref 258 }, { hash := PyData.keyHash P (Str.ofString "__static_attributes__"), key := Value.str (Str.ofString "__static_attributes__") 518, val := Value.ref 259 }, { hash := PyData.keyHash P (Str.ofString "__dict__"), key := Value.str (Str.ofString "__dict__") 520, val := Value.ref 262 }, { hash := PyData.keyHash P (Str.ofString "__weakref__"), key := Value.str (Str.ofString "__weakref__") 522, val := Value.ref 263 }, { hash := PyData.keyHash P (Str.ofString "__doc__"), key := Value.str (Str.ofString "__doc__") 523, val := Value.none }] 4 }),
  (261, { cls := Value.type "type", data := Data.cls { name := Str.ofString "LogicalLine", bases := [Value.type "object"], mro := [Value.ref 261, Value.type "object"], ns := 260, qualname := Str.ofString "LogicalLine" }, slots := #[none, none, some (Value.str (Str.ofString "LogicalLine") 458), some (Value.str (Str.ofString "LogicalLine") 466), some (Value.builtin "object.__new__"), some (Value.bool true)] }),
  (262, { cls := Value.type "getset_descriptor", data := Data.fields #[Value.str (Str.ofString "__dict__") 519, Value.ref 261, Value.builtin "function.__dict__", Value.builtin "function.__dict__#set"] }),
  (263, { cls := Value.type "getset_descriptor", data := Data.fields #[Value.str (Str.ofString "__weakref__") 521, Value.ref 261, Value.builtin "ExceptionGroup.__weakref__", Value.none] }),
  (271, { cls := Value.type "code", data := Data.fields #[Value.str (Str.ofString "reflow_used") 526, Value.str (Str.ofString "reflow_used") 527, Value.str (Str.ofString "/claim/cut.py") 528, Value.int 135 0, Value.int 1 0, Value.int 0 0, Value.int 0 0, Value.int 3 0, Value.ref 266, Value.bool true, Value.int 181 0, Value.ref 267, Value.none, Value.ref 268, Value.ref 269, Value.ref 270, Value.int 531 0, Value.int 135 0, Value.str (Str.ofString "/claim/cut.py") 532] }),
  (272, fnO (stAt 20) "reflow_used" "reflow_used" (Value.none) (Value.str (Str.ofString "termcore.reflow") 454) 271),
  (278, { cls := Value.type "code", data := Data.fields #[Value.str (Str.ofString "reflow_begins_wide") 534, Value.str (Str.ofString "reflow_begins_wide") 535, Value.str (Str.ofString "/claim/cut.py") 536, Value.int 140 0, Value.int 1 0, Value.int 0 0, Value.int 0 0, Value.int 3 0, Value.ref 273, Value.bool true, Value.int 181 0, Value.ref 274, Value.none, Value.ref 275, Value.ref 276, Value.ref 277, Value.int 538 0, Value.int 140 0, Value.str (Str.ofString "/claim/cut.py") 539] }),
  (279, fnO (stAt 21) "reflow_begins_wide" "reflow_begins_wide" (Value.none) (Value.str (Str.ofString "termcore.reflow") 454) 278),
  (285, { cls := Value.type "code", data := Data.fields #[Value.str (Str.ofString "reflow_part") 541, Value.str (Str.ofString "reflow_part") 542, Value.str (Str.ofString "/claim/cut.py") 543, Value.int 142 0, Value.int 2 0, Value.int 0 0, Value.int 0 0, Value.int 3 0, Value.ref 280, Value.bool true, Value.int 181 0, Value.ref 281, Value.none, Value.ref 282, Value.ref 283, Value.ref 284, Value.int 547 0, Value.int 142 0, Value.str (Str.ofString "/claim/cut.py") 548] }),
  (286, fnO (stAt 22) "reflow_part" "reflow_part" (Value.none) (Value.str (Str.ofString "termcore.reflow") 454) 285),
  (292, { cls := Value.type "code", data := Data.fields #[Value.str (Str.ofString "reflow_goes_on") 550, Value.str (Str.ofString "reflow_goes_on") 551, Value.str (Str.ofString "/claim/cut.py") 552, Value.int 149 0, Value.int 2 0, Value.int 0 0, Value.int 0 0, Value.int 3 0, Value.ref 287, Value.bool true, Value.int 181 0, Value.ref 288, Value.none, Value.ref 289, Value.ref 290, Value.ref 291, Value.int 555 0, Value.int 149 0, Value.str (Str.ofString "/claim/cut.py") 556] }),
  (293, fnO (stAt 23) "reflow_goes_on" "reflow_goes_on" (Value.none) (Value.str (Str.ofString "termcore.reflow") 454) 292),
  (299, { cls := Value.type "code", data := Data.fields #[Value.str (Str.ofString "logical_of") 558, Value.str (Str.ofString "logical_of") 559, Value.str (Str.ofString "/claim/cut.py") 560, Value.int 153 0, Value.int 1 0, Value.int 0 0, Value.int 0 0, Value.int 3 0, Value.ref 294, Value.bool true, Value.int 181 0, Value.ref 295, Value.none, Value.ref 296, Value.ref 297, Value.ref 298, Value.int 565 0, Value.int 153 0, Value.str (Str.ofString "/claim/cut.py") 566] }),
  (300, fnO (stAt 24) "logical_of" "logical_of" (Value.none) (Value.str (Str.ofString "termcore.reflow") 454) 299),
  (306, { cls := Value.type "code", data := Data.fields #[Value.str (Str.ofString "cut_with_places") 568, Value.str (Str.ofString "cut_with_places") 569, Value.str (Str.ofString "/claim/cut.py") 570, Value.int 165 0, Value.int 2 0, Value.int 0 0, Value.int 0 0, Value.int 3 0, Value.ref 301, Value.bool true, Value.int 181 0, Value.ref 302, Value.none, Value.ref 303, Value.ref 304, Value.ref 305, Value.int 581 0, Value.int 165 0, Value.str (Str.ofString "/claim/cut.py") 582] }),
  (307, fnO (stAt 25) "cut_with_places" "cut_with_places" (Value.none) (Value.str (Str.ofString "termcore.reflow") 454) 306),
  (313, { cls := Value.type "code", data := Data.fields #[Value.str (Str.ofString "reflow_place") 584, Value.str (Str.ofString "reflow_place") 585, Value.str (Str.ofString "/claim/cut.py") 586, Value.int 184 0, Value.int 3 0, Value.int 0 0, Value.int 0 0, Value.int 3 0, Value.ref 308, Value.bool true, Value.int 181 0, Value.ref 309, Value.none, Value.ref 310, Value.ref 311, Value.ref 312, Value.int 590 0, Value.int 184 0, Value.str (Str.ofString "/claim/cut.py") 591] }),
  (314, fnO (stAt 26) "reflow_place" "reflow_place" (Value.none) (Value.str (Str.ofString "termcore.reflow") 454) 313),
  (320, { cls := Value.type "code", data := Data.fields #[Value.str (Str.ofString "reflow_line") 593, Value.str (Str.ofString "reflow_line") 594, Value.str (Str.ofString "/claim/cut.py") 595, Value.int 188 0, Value.int 3 0, Value.int 0 0, Value.int 0 0, Value.int 3 0, Value.ref 315, Value.bool true, Value.int 181 0, Value.ref 316, Value.none, Value.ref 317, Value.ref 318, Value.ref 319, Value.int 602 0, Value.int 188 0, Value.str (Str.ofString "/claim/cut.py") 603] }),
  (321, fnO (stAt 27) "reflow_line" "reflow_line" (Value.none) (Value.str (Str.ofString "termcore.reflow") 454) 320),
  (334, { cls := Value.type "code", data := Data.fields #[Value.str (Str.ofString "__init__") 617, Value.str (Str.ofString "Cutting.__init__") 618, Value.str (Str.ofString "/claim/cut.py") 619, Value.int 196 0, Value.int 5 0, Value.int 0 0, Value.int 0 0, Value.int 3 0, Value.ref 329, Value.bool true, Value.int 181 0, Value.ref 330, Value.none, Value.ref 331, Value.ref 332, Value.ref 333, Value.int 626 0, Value.int 196 0, Value.str (Str.ofString "/claim/cut.py") 627] }),
  (335, fnO (inCls (stAt 28) 0) "__init__" "Cutting.__init__" (Value.none) (Value.str (Str.ofString "termcore.reflow") 454) 334),
  (341, { cls := Value.type "code", data := Data.fields #[Value.str (Str.ofString "put") 629, Value.str (Str.ofString "Cutting.put") 630, Value.str (Str.ofString "/claim/cut.py") 631, Value.int 207 0, Value.int 5 0, Value.int 0 0, Value.int 0 0, Value.int 3 0, Value.ref 336, Value.bool true, Value.int 181 0, Value.ref 337, Value.none, Value.ref 338, Value.ref 339, Value.ref 340, Value.int 651 0, Value.int 207 0, Value.str (Str.ofString "/claim/cut.py") 652] }),
  (342, fnO (inCls (stAt 28) 1) "put" "Cutting.put" (Value.none) (Value.str (Str.ofString "termcore.reflow") 454) 341),
  (355, { cls := Value.type "code", data := Data.fields #[Value.str (Str.ofString "place_of") 661, Value.str (Str.ofString "Cutting.place_of") 662, Value.str (Str.ofString "/claim/cut.py") 663, Value.int 249 0, Value.int 3 0, Value.int 0 0, Value.int 0 0, Value.int 3 0, Value.ref 350, Value.bool true, Value.int 181 0, Value.ref 351, Value.none, Value.ref 352, Value.ref 353, Value.ref 354, Value.int 673 0, Value.int 249 0, Value.str (Str.ofString "/claim/cut.py") 674] }),
  (356, fnO (inCls (stAt 28) 3) "place_of" "Cutting.place_of" (Value.none) (Value.str (Str.ofString "termcore.reflow") 454) 355),
  (372, { cls := Value.type "dict", data := Data.dict #[{ hash := PyData.keyHash P (Str.ofString "__module__"), key := Value.str (Str.ofString "__module__") 612, val := Value.str (Str.ofString "termcore.reflow") 454 }, { hash := PyData.keyHash P (Str.ofString "__firstlineno__"), key := Value.str (Str.ofString "__firstlineno__") 616, val := Value.int 194 615 }, { hash := PyData.keyHash P (Str.ofString "__init__"), key := Value.str (Str.ofString "__init__") 628, val := Value.ref 335 }, { hash := PyData.keyHash P (Str.ofString "put"), key := Value.str (Str.ofString "put") 653, val := Value.ref 342 }, { hash := PyData.keyHash P (Str.ofString "go_behind"), key := Value.str (Str.ofString "go_behind") 660, val := Value.ref 349 }, { hash := PyData.keyHash P (Str.ofString "place_of"), key := Value.str (Str.ofString "place_of") 675, val := Value.ref 356 }, { hash := PyData.keyHash P (Str.ofString "give_up"), key := Value.str (Str.ofString "give_up") 683, val := Value.ref 363 }, { hash := PyData.keyHash P (Str.ofString "top"), key := Value.str (Str.ofString "top") 691, val := Value.ref 370 }, { hash := PyData.keyHash P (Str.ofString "__static_attributes__"), key := Value.str (Str.ofString "__static_attributes__") 699, val := Value.ref 371 }, { hash := PyData.keyHash P (Str.ofString "__dict__"), key := Value.str (Str.ofString "__dict__") 701, val := Value.ref 374 }, { hash := PyData.keyHash P (Str.ofString "__weakref__"), key := Value.str (Str.ofString "__weakref__") 703, val := Value.ref 375 }, { hash := PyData.keyHash P (Str.ofString "__doc__"), key := Value.str (Str.ofString "__doc__") 704, val := Value.none }] 4 }),
  (373, { cls := Value.type "type", data := Data.cls { name := Str.ofString "Cutting", bases := [Value.type "object"], mro := [Value.ref 373, Value.type "object"], ns := 372, qualname := Str.ofString "Cutting" }, slots := #[none, none, some (Value.str (Str.ofString "Cutting") 605), some (Value.str (Str.ofString "Cutting") 613), some (Value.builtin "object.__new__"), some (Value.bool true)] }),
  (374, { cls := Value.type "getset_descriptor", data := Data.fields #[Value.str (Str.ofString "__dict__") 700, Value.ref 373, Value.builtin "function.__dict__", Value.builtin "function.__dict__#set"] }),
  (375, { cls := Value.type "getset_descriptor", data := Data.fields #[Value.str (Str.ofString "__weakref__") 702, Value.ref 373, Value.builtin "ExceptionGroup.__weakref__", Value.none] }),
  (378, { cls := Value.type "tuple", data := Data.seq #[Value.int 97 709, Value.int 1 710] }),
  (379, { cls := Value.type "tuple", data := Data.seq #[Value.int 20013 711, Value.int 2 712] }),
  (380, { cls := Value.type "tuple", data := Data.seq #[Value.int 98 713, Value.int 1 714] }),
  (381, { cls := Value.type "tuple", data := Data.seq #[Value.int 99 715, Value.int 1 716] }),
  (382, { cls := Value.type "tuple", data := Data.seq #[Value.int 25991 717, Value.int 2 718] }),
  (383, { cls := Value.type "list", data := Data.seq #[Value.ref 378, Value.ref 379, Value.ref 380, Value.ref 381, Value.ref 382] }),
  (389, { cls := Value.type "code", data := Data.fields #[Value.str (Str.ofString "_law_take") 720, Value.str (Str.ofString "_law_take") 721, Value.str (Str.ofString "/claim/cut.py") 722, Value.int 267 0, Value.int 2 0, Value.int 0 0, Value.int 0 0, Value.int 3 0, Value.ref 384, Value.bool true, Value.int 181 0, Value.ref 385, Value.none, Value.ref 386, Value.ref 387, Value.ref 388, Value.int 728 0, Value.int 267 0, Value.str (Str.ofString "/claim/cut.py") 729] }),
  (390, fnO (stAt 31) "_law_take" "_law_take" (Value.none) (Value.str (Str.ofString "law_pq1187_01") 707) 389),
  (394, { cls := Value.type "code", data := Data.fields #[Value.str (Str.ofString "_law_paragraph") 731, Value.str (Str.ofString "_law_paragraph") 732, Value.str (Str.ofString "/claim/cut.py") 733, Value.int 272 0, Value.int 1 0, Value.int 0 0, Value.int 0 0, Value.int 3 0, Value.ref 391, Value.bool true, Value.int 181 0, Value.ref 392, Value.none, Value.none, Value.none, Value.ref 393, Value.int 734 0, Value.int 272 0, Value.str (Str.ofString "/claim/cut.py") 735] }),
  (395, fnO (stAt 32) "_law_paragraph" "_law_paragraph" (Value.none) (Value.str (Str.ofString "law_pq1187_01") 707) 394),
  (401, { cls := Value.type "code", data := Data.fields #[Value.str (Str.ofString "_law_shown") 737, Value.str (Str.ofString "_law_shown") 738, Value.str (Str.ofString "/claim/cut.py") 739, Value.int 274 0, Value.int 2 0, Value.int 0 0, Value.int 0 0, Value.int 3 0, Value.ref 396, Value.bool true, Value.int 181 0, Value.ref 397, Value.none, Value.ref 398, Value.ref 399, Value.ref 400, Value.int 748 0, Value.int 274 0, Value.str (Str.ofString "/claim/cut.py") 749] }),
  (402, fnO (stAt 33) "_law_shown" "_law_shown" (Value.none) (Value.str (Str.ofString "law_pq1187_01") 707) 401),
  (406, { cls := Value.type "code", data := Data.fields #[Value.str (Str.ofString "_law_lines") 751, Value.str (Str.ofString "_law_lines") 752, Value.str (Str.ofString "/claim/cut.py") 753, Value.int 283 0, Value.int 2 0, Value.int 0 0, Value.int 0 0, Value.int 3 0, Value.ref 403, Value.bool true, Value.int 181 0, Value.ref 404, Value.none, Value.none, Value.none, Value.ref 405, Value.int 754 0, Value.int 283 0, Value.str (Str.ofString "/claim/cut.py") 755] }),
  (407, fnO (stAt 34) "_law_lines" "_law_lines" (Value.none) (Value.str (Str.ofString "law_pq1187_01") 707) 406),
  (413, { cls := Value.type "code", data := Data.fields #[Value.str (Str.ofString "_law_led") 757, Value.str (Str.ofString "_law_led") 758, Value.str (Str.ofString "/claim/cut.py") 759, Value.int 291 0, Value.int 6 0, Value.int 0 0, Value.int 0 0, Value.int 3 0, Value.ref 408, Value.bool true, Value.int 181 0, Value.ref 409, Value.none, Value.ref 410, Value.ref 411, Value.ref 412, Value.int 777 0, Value.int 291 0, Value.str (Str.ofString "/claim/cut.py") 778] }),
  (414, fnO (stAt 35) "_law_led" "_law_led" (Value.none) (Value.str (Str.ofString "law_pq1187_01") 707) 413)]
noncomputable def heapAs : List Addr := [2, 3, 22, 28, 29, 35, 36, 42, 43, 49, 50, 51, 57, 58, 78, 79, 92, 93, 101, 203, 204, 205, 206, 209, 215, 216, 229, 230, 236, 237, 243, 244, 250, 251, 257, 258, 260, 261, 262, 263, 271, 272, 278, 279, 285, 286, 292, 293, 299, 300, 306, 307, 313, 314, 320, 321, 334, 335, 341, 342, 355, 356, 372, 373, 374, 375, 378, 379, 380, 381, 382, 383, 389, 390, 394, 395, 401, 402, 406, 407, 413, 414]
theorem heapE (P : Params) : heapAs = (heapK P).map (·.1) := by kernel_rfl
noncomputable abbrev hookK : Hook := kHook heapK heapAs heapE
noncomputable def lawView : Program := view Challenge.pw_pq1187_01 [36]
noncomputable def looseN : List Str := ["_wall", "NO_COLOUR", "PLAIN", "BACK", "erased_pen", "blank_cell", "is_blank", "is_plain_blank", "LINE_SIZES", "line_blanks", "right_half", "line_part", "line_slice", "Line", "line_of", "SINGLE", "LogicalLine", "reflow_used", "reflow_begins_wide", "reflow_part", "reflow_goes_on", "logical_of", "cut_with_places", "reflow_place", "reflow_line", "Cutting", "_law_signs", "_law_take", "_law_paragraph", "_law_shown", "_law_lines", "_law_led"]
set_option maxRecDepth 100000 in
set_option maxHeartbeats 8000000 in
theorem leftK : LeftO Challenge.pw_pq1187_01 lawView looseN (fun s => xlAt lawView [] s && recOk [] s) hookK.obs hookK.val 5012 := fun w => by
  unfold openEnds fencedOpening topFrom
  rw [PySem.W.Fast.te14082659384304107361, PySem.W.Fast.te14364793385576792824, PySem.W.Fast.te4187177175401517315, PySem.W.Fast.te10274390034422433532, PySem.W.Fast.te14289696077712309145, PySem.W.Fast.te1435165496053646825]
  kernel_rfl
end Mine
end PartHk
section PartC1
open PySem PySem.W PyProof.Rows
namespace Mine
inductive V where
  | none
  | bool (b : Bool)
  | int (i : Int)
  | str (s : Str)
  | tup (vs : List V)
  | lst (vs : List V)
  | obj (C : Addr) (at_ : List (Str × V))
  | ref (a : Addr)
inductive Rep (h : Heap) (M : Addr → Prop) : Value → V → Prop
  | none : Rep h M .none .none
  | bool (b : Bool) : Rep h M (.bool b) (.bool b)
  | int (i : Int) (t : Tok) : Rep h M (.int i t) (.int i)
  | str (s : Str) (t : Tok) : Rep h M (.str s t) (.str s)
  | ref (a : Addr) : Rep h M (.ref a) (.ref a)
  | tup {a : Addr} {items : Array Value} {vs : List V} (ho : IsTup h a items) (hm : ¬ M a) (hs : items.size = vs.length)
      (hi : ∀ (i : Nat) v V, items[i]? = some v → vs[i]? = some V → Rep h M v V) : Rep h M (.ref a) (.tup vs)
  | lst {a : Addr} {items : Array Value} {vs : List V} (ho : h.PlainList a items) (hm : ¬ M a) (hs : items.size = vs.length)
      (hi : ∀ (i : Nat) v V, items[i]? = some v → vs[i]? = some V → Rep h M v V) : Rep h M (.ref a) (.lst vs)
  | obj {x C dx : Addr} {es : List DictEntry} {n : Nat} {at_ : List (Str × V)} (hx : h.get? x = some (instObj C dx)) (hd : h.get? dx = some (dictOf es n)) (hm : ¬ M x) (hm' : ¬ M dx)
      (hs : es.length = at_.length) (hn : (at_.map (·.1)).Nodup) (hk : ∀ (i : Nat) e p, es[i]? = some e → at_[i]? = some p → ∃ t, e.key = .str p.1 t)
      (hi : ∀ (i : Nat) e p, es[i]? = some e → at_[i]? = some p → Rep h M e.val p.2) : Rep h M (.ref x) (.obj C at_)
theorem Rep.I {h : Heap} {M : Addr → Prop} {v : Value} {i : Int} (r : Rep h M v (.int i)) : ∃ t, v = .int i t := by cases r; exact ⟨_, rfl⟩
theorem Rep.R {h : Heap} {M : Addr → Prop} {v : Value} {a : Addr} (r : Rep h M v (.ref a)) : v = .ref a := by cases r; rfl
theorem Rep.B {h : Heap} {M : Addr → Prop} {v : Value} {b : Bool} (r : Rep h M v (.bool b)) : v = .bool b := by cases r; rfl
theorem Rep.N {h : Heap} {M : Addr → Prop} {v : Value} (r : Rep h M v .none) : v = .none := by cases r; rfl
theorem Rep.S {h : Heap} {M : Addr → Prop} {v : Value} {x : Str} (r : Rep h M v (.str x)) : ∃ t, v = .str x t := by cases r; exact ⟨_, rfl⟩
noncomputable abbrev Stays (h h' : Heap) (M M' : Addr → Prop) : Prop := ∀ b o, h.get? b = some o → ¬ M b → h'.get? b = some o ∧ ¬ M' b
theorem isTup_at {h h' : Heap} {a : Addr} {items : Array Value} (x : IsTup h a items) (k : ∀ o, h.get? a = some o → h'.get? a = some o) : IsTup h' a items := let ⟨o, e, r⟩ := x; ⟨o, k o e, r⟩
theorem isTup_some {h : Heap} {a : Addr} {items : Array Value} (x : IsTup h a items) : ∃ o, h.get? a = some o := let ⟨o, e, _⟩ := x; ⟨o, e⟩
theorem plain_at {h h' : Heap} {a : Addr} {items : Array Value} (x : h.PlainList a items) (k : ∀ o, h.get? a = some o → h'.get? a = some o) : h'.PlainList a items := let ⟨n, e⟩ := x; ⟨n, k _ e⟩
theorem Rep.mono {h h' : Heap} {M M' : Addr → Prop} (k : Stays h h' M M') {v : Value} {V : V} (r : Rep h M v V) : Rep h' M' v V := by
  induction r with
  | none => exact .none
  | bool b => exact .bool b
  | int i t => exact .int i t
  | str s t => exact .str s t
  | ref a => exact .ref a
  | tup ho hm hs _ ih => exact .tup (isTup_at ho fun o e => (k _ o e hm).1) (let ⟨o, e⟩ := isTup_some ho; (k _ o e hm).2) hs ih
  | lst ho hm hs _ ih => exact .lst (plain_at ho fun o e => (k _ o e hm).1) (let ⟨_, e⟩ := ho; (k _ _ e hm).2) hs ih
  | obj hx hd hm hm' hs hn hk _ ih => exact .obj (k _ _ hx hm).1 (k _ _ hd hm').1 (k _ _ hx hm).2 (k _ _ hd hm').2 hs hn hk ih
noncomputable def Reps (h : Heap) (M : Addr → Prop) (items : List Value) (vs : List V) : Prop := items.length = vs.length ∧ ∀ (i : Nat) v V, items[i]? = some v → vs[i]? = some V → Rep h M v V
theorem Reps.nil {h : Heap} {M : Addr → Prop} : Reps h M [] [] := ⟨rfl, fun i v V e => by simp at e⟩
theorem Reps.cons {h : Heap} {M : Addr → Prop} {v : Value} {V : V} {items : List Value} {vs : List Mine.V} (r : Rep h M v V) (x : Reps h M items vs) : Reps h M (v :: items) (V :: vs) :=
  ⟨by simp [x.1], fun i v' V' e e' => by
    cases i with
    | zero => simp at e e'; subst e e'; exact r
    | succ i => simp at e e'; exact x.2 i v' V' e e'⟩
theorem Reps.mono {h h' : Heap} {M M' : Addr → Prop} (k : Stays h h' M M') {items : List Value} {vs : List V} (x : Reps h M items vs) : Reps h' M' items vs := ⟨x.1, fun i v V e e' => (x.2 i v V e e').mono k⟩
theorem Reps.uncons {h : Heap} {M : Addr → Prop} {items : List Value} {V : V} {vs : List Mine.V} (x : Reps h M items (V :: vs)) : ∃ v r, items = v :: r ∧ Rep h M v V ∧ Reps h M r vs := by
  obtain ⟨hl, hi⟩ := x
  cases items with
  | nil => simp at hl
  | cons v r => exact ⟨v, r, rfl, hi 0 v V (by simp) (by simp), by simpa using hl, fun i v' V' e e' => hi (i + 1) v' V' (by simpa using e) (by simpa using e')⟩
theorem Reps.unnil {h : Heap} {M : Addr → Prop} {items : List Value} (x : Reps h M items []) : items = [] := by
  cases items with | nil => rfl | cons _ _ => have := x.1; simp at this
theorem Reps.get {h : Heap} {M : Addr → Prop} {items : List Value} {vs : List V} (x : Reps h M items vs) {i : Nat} {V : V} (e : vs[i]? = some V) : ∃ v, items[i]? = some v ∧ Rep h M v V := by
  have hlt : i < vs.length := (List.getElem?_eq_some_iff.mp e).1
  have : i < items.length := by rw [x.1]; exact hlt
  exact ⟨items[i], by simp [this], x.2 i _ _ (by simp [this]) e⟩
theorem Reps.append {h : Heap} {M : Addr → Prop} {l l' : List Value} {vs vs' : List V} (x : Reps h M l vs) (y : Reps h M l' vs') : Reps h M (l ++ l') (vs ++ vs') := by
  refine ⟨by simp [x.1, y.1], fun i v V e e' => ?_⟩
  by_cases hi : i < l.length
  · rw [List.getElem?_append_left hi] at e
    rw [List.getElem?_append_left (by rw [← x.1]; exact hi)] at e'
    exact x.2 i v V e e'
  · rw [List.getElem?_append_right (by lia)] at e
    rw [List.getElem?_append_right (by rw [← x.1]; lia)] at e'
    exact y.2 _ v V e (by rw [x.1]; exact e')
theorem Reps.sub {h : Heap} {M : Addr → Prop} {l : List Value} {vs : List V} (x : Reps h M l vs) (a n : Nat) : Reps h M ((l.drop a).take n) ((vs.drop a).take n) := by
  refine ⟨by simp [x.1], fun i v V e e' => ?_⟩
  rw [List.getElem?_take] at e e'
  split at e
  · rename_i hlt
    rw [if_pos hlt] at e'
    rw [List.getElem?_drop] at e e'
    exact x.2 _ v V e e'
  · cases e
theorem Reps.set {h : Heap} {M : Addr → Prop} {l : List Value} {vs : List V} (x : Reps h M l vs) (k : Nat) {v : Value} {V : V} (r : Rep h M v V) : Reps h M (l.set k v) (vs.set k V) := by
  refine ⟨by simp [x.1], fun i v' V' e e' => ?_⟩
  rw [List.getElem?_set] at e e'
  by_cases hk : k = i
  · rw [if_pos hk] at e e'
    split at e
    · split at e'
      · cases e; cases e'; exact r
      · cases e'
    · cases e
  · rw [if_neg hk] at e e'
    exact x.2 i v' V' e e'
theorem Reps.replicate {h : Heap} {M : Addr → Prop} {v : Value} {V : V} (r : Rep h M v V) (n : Nat) : Reps h M (List.replicate n v) (List.replicate n V) := by
  refine ⟨by simp, fun i v' V' e e' => ?_⟩
  rw [List.getElem?_replicate] at e e'
  split at e
  · rename_i hi; rw [if_pos hi] at e'; cases e; cases e'; exact r
  · cases e
theorem Rep.tup_iff {h : Heap} {M : Addr → Prop} {v : Value} {vs : List V} : Rep h M v (.tup vs) ↔ ∃ a items, v = .ref a ∧ IsTup h a items ∧ ¬ M a ∧ Reps h M items.toList vs := by
  constructor
  · intro r
    cases r with
    | tup ho hm hs hi => exact ⟨_, _, rfl, ho, hm, by simpa using hs, fun i v V e e' => hi i v V (by simpa using e) e'⟩
  · rintro ⟨a, items, rfl, ho, hm, hs, hi⟩
    exact .tup ho hm (by simpa using hs) fun i v V e e' => hi i v V (by simpa using e) e'
theorem Rep.lst_iff {h : Heap} {M : Addr → Prop} {v : Value} {vs : List V} : Rep h M v (.lst vs) ↔ ∃ a items, v = .ref a ∧ h.PlainList a items ∧ ¬ M a ∧ Reps h M items.toList vs := by
  constructor
  · intro r
    cases r with
    | lst ho hm hs hi => exact ⟨_, _, rfl, ho, hm, by simpa using hs, fun i v V e e' => hi i v V (by simpa using e) e'⟩
  · rintro ⟨a, items, rfl, ho, hm, hs, hi⟩
    exact .lst ho hm (by simpa using hs) fun i v V e e' => hi i v V (by simpa using e) e'
structure Ents (h : Heap) (M : Addr → Prop) (es : List DictEntry) (at_ : List (Str × V)) : Prop where
  len : es.length = at_.length
  nodup : (at_.map (·.1)).Nodup
  key : ∀ (i : Nat) e p, es[i]? = some e → at_[i]? = some p → ∃ t, e.key = .str p.1 t
  val : ∀ (i : Nat) e p, es[i]? = some e → at_[i]? = some p → Rep h M e.val p.2
theorem Ents.mono {h h' : Heap} {M M' : Addr → Prop} (k : Stays h h' M M') {es : List DictEntry} {at_ : List (Str × V)} (x : Ents h M es at_) : Ents h' M' es at_ := ⟨x.len, x.nodup, x.key, fun i e p a b => (x.val i e p a b).mono k⟩
theorem Rep.obj_iff {h : Heap} {M : Addr → Prop} {v : Value} {C : Addr} {at_ : List (Str × V)} :
    Rep h M v (.obj C at_) ↔ ∃ x dx es n, v = .ref x ∧ h.get? x = some (instObj C dx) ∧ h.get? dx = some (dictOf es n) ∧ ¬ M x ∧ ¬ M dx ∧ Ents h M es at_ := by
  constructor
  · intro r
    cases r with
    | obj hx hd hm hm' hs hn hk hi => exact ⟨_, _, _, _, rfl, hx, hd, hm, hm', hs, hn, hk, hi⟩
  · rintro ⟨x, dx, es, n, rfl, hx, hd, hm, hm', hs, hn, hk, hi⟩
    exact .obj hx hd hm hm' hs hn hk hi
theorem pairs_all {p : Program} {w : World} {es : List DictEntry} {g : List (Int × Value)} (x : Pairs (intKind p w) es g) (p' : Program) (w' : World) : Pairs (intKind p' w') es g := by
  induction x with
  | nil => exact .nil
  | cons a b _ ih => exact .cons a b ih
noncomputable def DictI (h : Heap) (a : Addr) (g : List (Int × Value)) : Prop := ∀ prog w, h.DictOf (intKind prog w) a g
theorem DictOf_all {h : Heap} {a : Addr} {g : List (Int × Value)} {p : Program} {w : World} (x : h.DictOf (intKind p w) a g) : DictI h a g := fun p' w' => by
  obtain ⟨o, es, ep, ho, hc, hd, hk, hp, hn⟩ := x
  exact ⟨o, es, ep, ho, hc, hd, fun e he => hk e he, pairs_all hp p' w', hn⟩
theorem some_of_DictOf (prog : Program) (w : World) {h : Heap} {a : Addr} {g : List (Int × Value)} (x : DictI h a g) : ∃ o, h.get? a = some o := by
  obtain ⟨o, _, _, ho, _⟩ := x prog w
  exact ⟨o, ho⟩
theorem DictOf_at {h h' : Heap} {a : Addr} {g : List (Int × Value)} (x : DictI h a g) (k : ∀ o, h.get? a = some o → h'.get? a = some o) : DictI h' a g := fun p w =>
  let ⟨o, es, ep, e, r⟩ := x p w; ⟨o, es, ep, k o e, r⟩
inductive Cell where
  | list (vs : List V)
  | inst (C dx : Addr)
  | ns (at_ : List (Str × V))
  | dict (kv : List (Int × V))
noncomputable def CRep (h : Heap) (M : Addr → Prop) (a : Addr) : Cell → Prop
  | .list vs => ∃ items : Array Value, h.PlainList a items ∧ Reps h M items.toList vs
  | .inst C dx => h.get? a = some (instObj C dx)
  | .ns at_ => ∃ es n, h.get? a = some (dictOf es n) ∧ Ents h M es at_
  | .dict kv => ∃ g : List (Int × Value), (∃ o, h.get? a = some o) ∧ DictI h a g ∧ g.map (·.1) = kv.map (·.1) ∧ Reps h M (g.map (·.2)) (kv.map (·.2))
noncomputable abbrev Hp := Addr → Option Cell
noncomputable def Hp.set (H : Hp) (a : Addr) (c : Cell) : Hp := fun b => if b = a then some c else H b
noncomputable def Hp.del (H : Hp) (a : Addr) : Hp := fun b => if b = a then none else H b
@[simp] theorem Hp.set_same (H : Hp) (a : Addr) (c : Cell) : H.set a c a = some c := by simp [Hp.set]
theorem Hp.set_ne (H : Hp) {a b : Addr} (c : Cell) (e : b ≠ a) : H.set a c b = H b := by simp [Hp.set, e]
@[simp] theorem Hp.del_same (H : Hp) (a : Addr) : H.del a a = none := by simp [Hp.del]
theorem Hp.del_ne (H : Hp) {a b : Addr} (e : b ≠ a) : H.del a b = H b := by simp [Hp.del, e]
noncomputable def Mut (Z : Addr → Prop) (H : Hp) (a : Addr) : Prop := Z a ∨ H a ≠ none
theorem CRep.there {h : Heap} {M : Addr → Prop} {a : Addr} {c : Cell} (x : CRep h M a c) : ∃ o, h.get? a = some o := by
  cases c with
  | list vs => obtain ⟨_, ⟨_, e⟩, _⟩ := x; exact ⟨_, e⟩
  | inst C dx => exact ⟨_, x⟩
  | ns at_ => obtain ⟨_, _, e, _⟩ := x; exact ⟨_, e⟩
  | dict kv => exact x.choose_spec.1
structure HA (base : Heap) (Z : Addr → Prop) (H : Hp) (h : Heap) : Prop where
  keep : ∀ b o, base.get? b = some o → h.get? b = some o
  cell : ∀ a c, H a = some c → CRep h (Mut Z H) a c
  off : ∀ a, H a ≠ none → ¬ Z a ∧ base.get? a = none
  low : ∀ a, H a ≠ none → 2 < a
  zin : ∀ a, Z a → ∃ o, h.get? a = some o
  zoff : ∀ a o, Z a → base.get? a = some o → False
theorem HA.lt {base : Heap} {Z : Addr → Prop} {H : Hp} {h : Heap} (x : HA base Z H h) {a : Addr} (e : H a ≠ none) : a < h.objs.size := by
  cases hc : H a with
  | none => exact absurd hc e
  | some c => obtain ⟨o, ho⟩ := (x.cell a c hc).there; exact Heap.lt_size ho
theorem HA.mlt {base : Heap} {Z : Addr → Prop} {H : Hp} {h : Heap} (x : HA base Z H h) {a : Addr} (e : Mut Z H a) : a < h.objs.size := e.elim (fun z => let ⟨_, q⟩ := x.zin a z; Heap.lt_size q) x.lt
structure Kp (O : Addr → Prop) (H H' : Hp) (s s' : Shared) : Prop where
  same : ∀ b o, s.heap.get? b = some o → H b = none → ¬ O b → s'.heap.get? b = some o
  new : ∀ b o, s.heap.get? b = some o → H b = none → H' b = none
  there : ∀ b o, s.heap.get? b = some o → ∃ o', s'.heap.get? b = some o'
  gens : s'.gens = s.gens
  os : s'.os = s.os
theorem Kp.refl {O : Addr → Prop} {H : Hp} {s : Shared} : Kp O H H s s := ⟨fun _ _ e _ _ => e, fun _ _ _ e => e, fun _ o e => ⟨o, e⟩, rfl, rfl⟩
theorem Kp.trans {O : Addr → Prop} {H H₁ H₂ : Hp} {s s₁ s₂ : Shared} (x : Kp O H H₁ s s₁) (y : Kp O H₁ H₂ s₁ s₂) : Kp O H H₂ s s₂ :=
  ⟨fun b o e n q => y.same b o (x.same b o e n q) (x.new b o e n) q, fun b o e n => let ⟨o', e'⟩ := x.there b o e; y.new b o' e' (x.new b o e n), fun b o e => let ⟨o', e'⟩ := x.there b o e; y.there b o' e', y.gens.trans x.gens, y.os.trans x.os⟩
theorem Kp.weaken {O O' : Addr → Prop} {H H' : Hp} {s s' : Shared} (x : Kp O H H' s s') (w : ∀ a, O a → O' a) : Kp O' H H' s s' := ⟨fun b o e n q => x.same b o e n fun z => q (w b z), x.new, x.there, x.gens, x.os⟩
theorem Kp.grown {O : Addr → Prop} {H : Hp} {s : Shared} {h' : Heap} {t : Nat} (k : ∀ b o, s.heap.get? b = some o → h'.get? b = some o) : Kp O H H s { s with heap := h', toks := t } := ⟨fun b o e _ _ => k b o e, fun _ _ _ e => e, fun b o e => ⟨o, k b o e⟩, rfl, rfl⟩
theorem Kp.tok {O : Addr → Prop} {H : Hp} {s : Shared} {t : Nat} : Kp O H H s { s with toks := t } := .grown fun _ _ e => e
noncomputable abbrev No : Addr → Prop := fun _ => False
theorem Kp.stays {Z O : Addr → Prop} {H H' : Hp} {s s' : Shared} (x : Kp O H H' s s') (oz : ∀ a, O a → Z a) : Stays s.heap s'.heap (Mut Z H) (Mut Z H') := fun b o e n => by
  have hz : ¬ Z b := fun z => n (.inl z)
  have hh : H b = none := by
    cases q : H b with
    | none => rfl
    | some c => exact absurd (.inr (by rw [q]; simp)) n
  exact ⟨x.same b o e hh fun z => hz (oz b z), fun m => m.elim hz fun q => q (x.new b o e hh)⟩
noncomputable def VarAt (h : Heap) (M : Addr → Prop) (env : Env) (x : Str) (W : V) : Prop :=
  ∃ v, Rep h M v W ∧ ((env.kindOf x = some .local ∧ ∃ f, h.Ns env.locals f ∧ f x = some v) ∨ ((env.kindOf x = some .cell ∨ env.kindOf x = some .free) ∧ ∃ c, env.cells.lookup x = some c ∧ h.IsCell c (some v)))
noncomputable def Own (env : Env) (a : Addr) : Prop := a = env.locals ∨ (env.func ≠ none ∧ ∃ x, env.kindOf x = some .cell ∧ env.cells.lookup x = some a)
noncomputable abbrev Vm := List (Str × Option V)
structure VA (base : Heap) (Z : Addr → Prop) (env : Env) (m : Vm) (M : Addr → Prop) (h : Heap) : Prop where
  kind : env.scope.kind = .function
  glob : env.globals = mainGlobals
  bi : env.builtins = builtinsNs
  ns : ∃ f, h.Ns env.locals f
  nodup : (m.map (·.1)).Nodup
  dom : ∀ x W, (x, W) ∈ m → env.kindOf x = some .local ∨ ((env.kindOf x = some .cell ∨ env.kindOf x = some .free) ∧ ∃ c v, env.cells.lookup x = some c ∧ h.IsCell c v)
  var : ∀ x W, (x, some W) ∈ m → VarAt h M env x W
  own : ∀ a, Own env a → Z a
  fresh : ∀ a, Own env a → base.get? a = none
  cin : ∀ x c, env.cells.lookup x = some c → Z c
  inj : ∀ x y c, env.cells.lookup x = some c → env.cells.lookup y = some c → x = y
  dbg : ∀ x W, (x, W) ∈ m → (x == ("__debug__" : Str)) = false
  cls : ∀ x W, (x, W) ∈ m → (x == ("__classdict__" : Str)) = false
  sto : ∀ x W, (x, W) ∈ m → env.func ≠ none → env.kindOf x ≠ some .free
theorem Ns_at {h h' : Heap} {a : Addr} {f : Str → Option Value} (x : h.Ns a f) (k : ∀ o, h.get? a = some o → h'.get? a = some o) : h'.Ns a f := let ⟨o, es, ep, e, r⟩ := x; ⟨o, es, ep, k o e, r⟩
theorem Cell_at {h h' : Heap} {a : Addr} {v : Option Value} (x : h.IsCell a v) (k : ∀ o, h.get? a = some o → h'.get? a = some o) : h'.IsCell a v := let ⟨o, e, r⟩ := x; ⟨o, k o e, r⟩
theorem VarAt.mono {h h' : Heap} {M M' : Addr → Prop} {Z : Addr → Prop} {env : Env} {x : Str} {W : V} (k : Stays h h' M M') (kz : ∀ b o, Z b → h.get? b = some o → h'.get? b = some o)
    (hl : Z env.locals) (hc : ∀ x c, env.cells.lookup x = some c → Z c) (y : VarAt h M env x W) : VarAt h' M' env x W := by
  obtain ⟨v, r, y⟩ := y
  refine ⟨v, r.mono k, y.imp (fun ⟨a, f, n, e⟩ => ⟨a, f, Ns_at n fun o e => kz _ o hl e, e⟩) fun ⟨a, c, e, q⟩ => ⟨a, c, e, Cell_at q fun o e' => kz _ o (hc _ _ e) e'⟩⟩
theorem VA.mono {base : Heap} {Z Z' : Addr → Prop} {env : Env} {m : Vm} {M M' : Addr → Prop} {h h' : Heap} (x : VA base Z env m M h) (k : Stays h h' M M') (kz : ∀ b o, Z b → h.get? b = some o → h'.get? b = some o) (zz : ∀ a, Z a → Z' a) : VA base Z' env m M' h' :=
  { x with
    ns := let ⟨f, n⟩ := x.ns; ⟨f, Ns_at n fun o e => kz _ o (x.own _ (.inl rfl)) e⟩
    dom := fun y W hy => (x.dom y W hy).imp id fun ⟨a, c, v, e, q⟩ => ⟨a, c, v, e, Cell_at q fun o e' => kz _ o (x.cin _ _ e) e'⟩
    var := fun y W hy => (x.var y W hy).mono k kz (x.own _ (.inl rfl)) x.cin
    own := fun a o => zz a (x.own a o)
    cin := fun y c e => zz c (x.cin y c e) }
theorem VA.step {base : Heap} {Z : Addr → Prop} {env : Env} {m : Vm} {H H' : Hp} {s s' : Shared} (x : VA base Z env m (Mut Z H) s.heap) (a : HA base Z H s.heap) (k : Kp No H H' s s') : VA base Z env m (Mut Z H') s'.heap :=
  x.mono (k.stays fun _ f => f.elim) (fun b o z e => k.same b o e (by
    cases q : H b with
    | none => rfl
    | some c => exact absurd z (a.off b (by rw [q]; simp)).1) id) fun _ z => z
structure Room (A : Around) (n : Nat) : Prop where
  handled : A.handled = none
  depth : A.depth + 10 * n < recursionLimit
  units : A.units + 100 * n < cLine
theorem Room.le {A : Around} {n n' : Nat} (r : Room A n) (h : n' ≤ n) : Room A n' := ⟨r.handled, by have := r.depth; lia, by have := r.units; lia⟩
theorem CRep.mono {h h' : Heap} {M M' : Addr → Prop} {a : Addr} {c : Cell} (k : Stays h h' M M') (ka : ∀ o, h.get? a = some o → h'.get? a = some o) (x : CRep h M a c) : CRep h' M' a c := by
  cases c with
  | list vs => obtain ⟨items, hp, r⟩ := x; exact ⟨items, plain_at hp ka, r.mono k⟩
  | inst C dx => exact ka _ x
  | ns at_ => obtain ⟨es, n, e, r⟩ := x; exact ⟨es, n, ka _ e, r.mono k⟩
  | dict kv =>
    obtain ⟨g, ⟨o, ho⟩, hi, hk, hr⟩ := x
    exact ⟨g, ⟨o, ka o ho⟩, DictOf_at hi ka, hk, hr.mono k⟩
theorem HA.stays {base : Heap} {Z : Addr → Prop} {H H' : Hp} {h h' : Heap} (x : HA base Z H h) (k : ∀ b o, h.get? b = some o → H b = none → h'.get? b = some o) (n : ∀ b o, h.get? b = some o → H b = none → H' b = none) : Stays h h' (Mut Z H) (Mut Z H') := fun b o e q => by
  have hh : H b = none := by
    cases z : H b with
    | none => rfl
    | some c => exact absurd (.inr (by rw [z]; simp)) q
  exact ⟨k b o e hh, fun m => m.elim (fun z => q (.inl z)) fun z => z (n b o e hh)⟩
theorem HA.grown {base : Heap} {Z : Addr → Prop} {H : Hp} {h h' : Heap} (x : HA base Z H h) (k : ∀ b o, h.get? b = some o → h'.get? b = some o) : HA base Z H h' :=
  ⟨fun b o e => k b o (x.keep b o e), fun a c e => (x.cell a c e).mono (x.stays (fun b o e _ => k b o e) fun _ _ _ e => e) (k a), x.off, x.low, fun a z => let ⟨o, e⟩ := x.zin a z; ⟨o, k a o e⟩, x.zoff⟩
theorem HA.free {base : Heap} {Z : Addr → Prop} {H : Hp} {h : Heap} (x : HA base Z H h) {a : Addr} (e : h.get? a = none) : H a = none ∧ ¬ Z a ∧ base.get? a = none := by
  refine ⟨?_, fun z => ?_, ?_⟩
  · cases q : H a with
    | none => rfl
    | some c => obtain ⟨o, ho⟩ := (x.cell a c q).there; rw [e] at ho; cases ho
  · obtain ⟨o, ho⟩ := x.zin a z; rw [e] at ho; cases ho
  · cases q : base.get? a with
    | none => rfl
    | some o => have := x.keep a o q; rw [e] at this; cases this
theorem HA.stays_set {base : Heap} {Z : Addr → Prop} {H : Hp} {h h' : Heap} (x : HA base Z H h) {a : Addr} {c : Cell} (hf : h.get? a = none ∨ H a ≠ none) (k : ∀ b o, b ≠ a → h.get? b = some o → h'.get? b = some o) :
    Stays h h' (Mut Z H) (Mut Z (H.set a c)) := fun b o e q => by
  have ne : b ≠ a := by
    rintro rfl
    rcases hf with hf | hf
    · rw [hf] at e; cases e
    · exact q (.inr hf)
  exact ⟨k b o ne e, fun m => m.elim (fun z => q (.inl z)) fun z => q (.inr (by rwa [Hp.set_ne _ _ ne] at z))⟩
theorem HA.put {base : Heap} {Z : Addr → Prop} {H : Hp} {h h' : Heap} (x : HA base Z H h) {a : Addr} {c : Cell} (hf : h.get? a = none ∨ H a ≠ none) (k : ∀ b o, b ≠ a → h.get? b = some o → h'.get? b = some o)
    (hc : CRep h' (Mut Z (H.set a c)) a c) (h2 : 2 < a) : HA base Z (H.set a c) h' := by
  have st := x.stays_set (c := c) hf k
  have nb : base.get? a = none := hf.elim (fun e => (x.free e).2.2) fun e => (x.off a e).2
  have nz : ¬ Z a := hf.elim (fun e => (x.free e).2.1) fun e => (x.off a e).1
  refine ⟨fun b o e => k b o ?_ (x.keep b o e), fun b d e => ?_, fun b e => ?_, fun b e => ?_, fun b z => ?_, x.zoff⟩
  · rintro rfl; rw [nb] at e; cases e
  · by_cases q : b = a
    · subst q; rw [Hp.set_same] at e; cases e; exact hc
    · rw [Hp.set_ne _ _ q] at e
      exact (x.cell b d e).mono st fun o e' => k b o q e'
  · by_cases q : b = a
    · subst q; exact ⟨nz, nb⟩
    · rw [Hp.set_ne _ _ q] at e; exact x.off b e
  · by_cases q : b = a
    · subst q; exact h2
    · rw [Hp.set_ne _ _ q] at e; exact x.low b e
  · obtain ⟨o, ho⟩ := x.zin b z
    exact ⟨o, k b o (fun q => nz (q ▸ z)) ho⟩
theorem Kp.put {O : Addr → Prop} {H : Hp} {s : Shared} {h' : Heap} {t : Nat} {a : Addr} {c : Cell} (hf : s.heap.get? a = none ∨ H a ≠ none) (k : ∀ b o, b ≠ a → s.heap.get? b = some o → h'.get? b = some o) (hc : ∃ o, h'.get? a = some o) :
    Kp O H (H.set a c) s { s with heap := h', toks := t } :=
  ⟨fun b o e q _ => k b o (by rintro rfl; rcases hf with hf | hf; · rw [hf] at e; cases e
                              · exact hf q) e,
   fun b o e q => by
     have ne : b ≠ a := by rintro rfl; rcases hf with hf | hf; · rw [hf] at e; cases e
                           · exact hf q
     rw [Hp.set_ne _ _ ne]; exact q,
   fun b o e => by
     by_cases q : b = a
     · subst q; exact hc
     · exact ⟨o, k b o q e⟩, rfl, rfl⟩
theorem HA.less {base : Heap} {Z : Addr → Prop} {H H' : Hp} {h : Heap} (x : HA base Z H h) (l : ∀ a d, H' a = some d → H a = some d) : HA base Z H' h := by
  have lm : ∀ a, Mut Z H' a → Mut Z H a := fun a m => m.imp id fun z => by
    cases q : H' a with
    | none => exact absurd q z
    | some d => rw [l a d q]; simp
  refine ⟨x.keep, fun a d e => (x.cell a d (l a d e)).mono (fun b o e q => ⟨e, fun z => q (lm b z)⟩) fun _ e => e, fun a e => ?_, fun a e => ?_, x.zin, x.zoff⟩
  · cases q : H' a with
    | none => exact absurd q e
    | some d => exact x.off a (by rw [l a d q]; simp)
  · cases q : H' a with
    | none => exact absurd q e
    | some d => exact x.low a (by rw [l a d q]; simp)
theorem Kp.less {O : Addr → Prop} {H H₁ H₂ : Hp} {s s' : Shared} (x : Kp O H H₁ s s') (l : ∀ a d, H₂ a = some d → H₁ a = some d) : Kp O H H₂ s s' :=
  ⟨x.same, fun b o e q => by
    cases z : H₂ b with
    | none => rfl
    | some d => (have := x.new b o e q; rw [l b d z] at this; cases this), x.there, x.gens, x.os⟩
theorem Rep.less {h : Heap} {Z : Addr → Prop} {H H' : Hp} {v : Value} {W : V} (r : Rep h (Mut Z H) v W) (l : ∀ a d, H' a = some d → H a = some d) : Rep h (Mut Z H') v W :=
  r.mono fun b o e q => ⟨e, fun m => q (m.imp id fun z => by
    cases p : H' b with
    | none => exact absurd p z
    | some d => rw [l b d p]; simp)⟩
end Mine
end PartC1
section PartC2
open PySem PySem.W PyProof.Rows PySem.Calls
namespace Mine
structure Cx where
  prog : Program
  w : World
  base : Heap
  K : Frag
  hK : K = heapK w.params
  X : K.In base
  lim : base.NoLimit
  p : Program
  loose : List Str
  mg : Str → Option Value
  mb : Str → Option Value
  T : TopRead p loose mg mb base
variable {c : Cx}
inductive Post (c : Cx) (Z : Addr → Prop) (H : Hp) (s : Shared) (Q : V → Hp → Prop) (v : Value) (s' : Shared) : Prop
  | mk (W : V) (H' : Hp) (r : Rep s'.heap (Mut Z H') v W) (a : HA c.base Z H' s'.heap) (k : Kp No H H' s s') (q : Q W H')
inductive PostT (c : Cx) (Z : Addr → Prop) (H : Hp) (s : Shared) (Q : Bool → Hp → Prop) (b : Bool) (s' : Shared) : Prop
  | mk (H' : Hp) (a : HA c.base Z H' s'.heap) (k : Kp No H H' s s') (q : Q b H')
inductive PostE (c : Cx) (Z : Addr → Prop) (H : Hp) (s : Shared) (z : Nat) (Q : List V → Hp → Prop) (vs : List Value) (s' : Shared) : Prop
  | mk (Ws : List V) (H' : Hp) (r : Reps s'.heap (Mut Z H') vs Ws) (l : Ws.length = z) (a : HA c.base Z H' s'.heap) (k : Kp No H H' s s') (q : Q Ws H')
noncomputable abbrev ff : Value → Shared → Prop := fun _ _ => False
theorem Post.pre {Z : Addr → Prop} {H H₁ : Hp} {s s₁ : Shared} {Q : V → Hp → Prop} {v : Value} {s' : Shared} (k : Kp No H H₁ s s₁) (p : Post c Z H₁ s₁ Q v s') : Post c Z H s Q v s' :=
  let ⟨W, H', r, a, k', q⟩ := p; ⟨W, H', r, a, k.trans k', q⟩
noncomputable def EV (c : Cx) (n : Nat) (env : Env) (m : Vm) (H : Hp) (e : Expr) (Q : V → Hp → Prop) : Prop :=
  ∀ A s Z, Room A n → HA c.base Z H s.heap → VA c.base Z env m (Mut Z H) s.heap → wpAny (model c.prog c.w) A (eval e env) (Post c Z H s Q) ff s
noncomputable def TT (c : Cx) (n : Nat) (env : Env) (m : Vm) (H : Hp) (e : Expr) (Q : Bool → Hp → Prop) : Prop :=
  ∀ A s Z, Room A n → HA c.base Z H s.heap → VA c.base Z env m (Mut Z H) s.heap →
    wpAny (model c.prog c.w) A (isTrue e env (eval e env)) (PostT c Z H s Q) ff s
noncomputable def ES (c : Cx) (n : Nat) (env : Env) (m : Vm) (H : Hp) (es : List Expr) (Q : List V → Hp → Prop) : Prop :=
  ∀ A s Z pos, Room A n → HA c.base Z H s.heap → VA c.base Z env m (Mut Z H) s.heap →
    wpAny (model c.prog c.w) A (spliced (backTo pos (starEach es env))) (PostE c Z H s es.length Q) ff s
section
variable {n : Nat} {env : Env} {m : Vm} {H : Hp}
theorem EV.mono {e : Expr} {Q Q' : V → Hp → Prop} (x : EV c n env m H e Q) (k : ∀ W H', Q W H' → Q' W H') : EV c n env m H e Q' := fun A s Z r a v =>
  wpAny_mono (x A s Z r a v) (fun _ _ ⟨W, H', r, a, k', q⟩ => ⟨W, H', r, a, k', k W H' q⟩) fun _ _ f => f
theorem EV.then {e : Expr} {R : V → Hp → Prop} {P : Value → Shared → Prop} {A : Around} {s : Shared} {Z : Addr → Prop} (x : EV c n env m H e R) (r : Room A n) (a : HA c.base Z H s.heap) (v : VA c.base Z env m (Mut Z H) s.heap)
    (k : ∀ v' s' W H', Rep s'.heap (Mut Z H') v' W → HA c.base Z H' s'.heap → VA c.base Z env m (Mut Z H') s'.heap → Kp No H H' s s' → R W H' → P v' s') :
    wpAny (model c.prog c.w) A (eval e env) P ff s :=
  wpAny_mono (x A s Z r a v) (fun v' s' ⟨W, H', r', a', k', q⟩ => k v' s' W H' r' a' (v.step a k') k' q) fun _ _ f => f
theorem EV.cInt {i : Int} {k : Nat} {p : Pos} {Q : V → Hp → Prop} (h : Q (.int i) H) : EV c n env m H (.Constant (.int i) k p) Q := fun A s Z r a v =>
  wpAny_Constant_int ⟨.int i, H, .int _ _, a, Kp.tok, h⟩
theorem EV.cBool {b : Bool} {k : Nat} {p : Pos} {Q : V → Hp → Prop} (h : Q (.bool b) H) : EV c n env m H (.Constant (.bool b) k p) Q := fun A s Z r a v =>
  wpAny_Constant_bool ⟨.bool b, H, .bool _, a, Kp.refl, h⟩
theorem EV.cNone {k : Nat} {p : Pos} {Q : V → Hp → Prop} (h : Q .none H) : EV c n env m H (.Constant .none k p) Q := fun A s Z r a v =>
  wpAny_Constant_none ⟨.none, H, .none, a, Kp.refl, h⟩
theorem EV.cStr {x : Str} {k : Nat} {p : Pos} {Q : V → Hp → Prop} (h : Q (.str x) H) : EV c n env m H (.Constant (.str x) k p) Q := fun A s Z r a v =>
  wpAny_Constant_str ⟨.str x, H, .str _ _, a, Kp.tok, h⟩
theorem EV.loc {x : Str} {p : Pos} {W : V} {Q : V → Hp → Prop} (hm : (x, some W) ∈ m) (h : Q W H) : EV c n env m H (.Name x p) Q := fun A s Z r a v => by
  obtain ⟨val, rr, y⟩ := v.var x W hm
  have hd := v.dbg x _ hm
  have hq : Post c Z H s Q val s := ⟨W, H, rr, a, Kp.tok, h⟩
  refine wpAny_Name ?_ hd
  rcases y with ⟨hk, f, hn, hf⟩ | ⟨hk | hk, cc, hc, hv⟩
  · exact wpAny_loadName_local v.kind hk hn hf hq
  · exact wpAny_loadName_cell v.kind hk hc hv hq
  · exact wpAny_loadName_free v.kind hk hc hv hq (v.cls x _ hm)
theorem EV.glo {x : Str} {p : Pos} {val : Value} {W : V} {Q : V → Hp → Prop} (hg : nsIn c.K mainGlobals x = some (some val)) (hx : env.kindOf x = some .globalImplicit) (hr : Rep c.base (fun _ => False) val W) (h : Q W H)
    (hd : (x == ("__debug__" : Str)) = false := by decide) : EV c n env m H (.Name x p) Q := fun A s Z r a v => by
  refine Name_function_global v.kind hx (loadGlobal_global (env := env) ?_ (mg_of c.X c.T.g hg) ?_) hd
  · rw [v.glob]; exact c.T.g.keeps a.keep
  · exact ⟨W, H, hr.mono fun b o e _ => ⟨a.keep b o e, fun z => by
      rcases z with z | z
      · exact a.zoff b o z e
      · have := (a.off b z).2; rw [e] at this; cases this⟩, a, Kp.tok, h⟩
theorem ES.nil {Q : List V → Hp → Prop} (h : Q [] H) : ES c n env m H [] Q := fun A s Z pos r a v => by
  show wpAny _ _ (spliced []) _ _ _
  exact wpAny_pure ⟨[], H, Reps.nil, rfl, a, Kp.refl, h⟩
theorem ES.cons {e : Expr} {es : List Expr} {Q : List V → Hp → Prop} (h : EV c n env m H e fun W H₁ => ES c n env m H₁ es fun Ws H₂ => Q (W :: Ws) H₂)
    (hs : starEach (e :: es) env = (false, eval e env) :: starEach es env := by with_unfolding_all rfl) : ES c n env m H (e :: es) Q := fun A s Z pos r a v => by
  rw [hs]
  show wpAny _ _ (spliced ((false, eval e env) :: backTo pos (starEach es env))) _ _ _
  refine wpAny_bind (h.then r a v fun v' s' W H' r' a' va k q => ?_)
  show wpAny _ _ (do let here ← pure [v']; return here ++ (← holding here (spliced (backTo pos (starEach es env))))) _ _ _
  refine wpAny_bind (wpAny_pure (wpAny_bind (wpAny_holding (wpAny_mono (q A s' Z pos r a' va) (fun vs s₂ hh => ?_) fun _ _ f => f))))
  obtain ⟨Ws, H₂, rs, ln, a₂, k₂, q₂⟩ := hh
  exact wpAny_pure ⟨W :: Ws, H₂, Reps.cons (r'.mono (k₂.stays fun _ f => f.elim)) rs, by simp [ln], a₂, k.trans k₂, q₂⟩
end
end Mine
end PartC2
section PartC3
open PySem PySem.W PyProof.Rows PySem.Calls
namespace Mine
variable {c : Cx} {n : Nat} {env : Env} {m : Vm} {H : Hp}
noncomputable def IsL (H : Hp) (W : V) (vs : List V) : Prop := W = .lst vs ∨ ∃ a, W = .ref a ∧ H a = some (.list vs)
theorem IsL.rep {base : Heap} {Z : Addr → Prop} {h : Heap} {W : V} {vs : List V} {v : Value} (x : IsL H W vs) (a : HA base Z H h) (r : Rep h (Mut Z H) v W) :
    ∃ l items, v = .ref l ∧ h.PlainList l items ∧ Reps h (Mut Z H) items.toList vs := by
  rcases x with rfl | ⟨b, rfl, hb⟩
  · obtain ⟨l, items, rfl, ho, _, rs⟩ := Rep.lst_iff.mp r
    exact ⟨l, items, rfl, ho, rs⟩
  · cases r
    obtain ⟨items, ho, rs⟩ := a.cell b _ hb
    exact ⟨b, items, rfl, ho, rs⟩
noncomputable def IsO (H : Hp) (W : V) (C : Addr) (at_ : List (Str × V)) : Prop := W = .obj C at_ ∨ ∃ x dx, W = .ref x ∧ H x = some (.inst C dx) ∧ H dx = some (.ns at_)
theorem IsO.rep {base : Heap} {Z : Addr → Prop} {h : Heap} {W : V} {C : Addr} {at_ : List (Str × V)} {v : Value} (x : IsO H W C at_) (a : HA base Z H h) (r : Rep h (Mut Z H) v W) :
    ∃ x dx es n, v = .ref x ∧ h.get? x = some (instObj C dx) ∧ h.get? dx = some (dictOf es n) ∧ Ents h (Mut Z H) es at_ := by
  rcases x with rfl | ⟨b, dx, rfl, hb, hd⟩
  · obtain ⟨l, dx, es, n, rfl, ho, hd, _, _, rs⟩ := Rep.obj_iff.mp r
    exact ⟨l, dx, es, n, rfl, ho, hd, rs⟩
  · cases r
    obtain ⟨es, n, e, rs⟩ := a.cell dx _ hd
    exact ⟨b, dx, es, n, rfl, a.cell b _ hb, e, rs⟩
noncomputable def OP (c : Cx) (n : Nat) (t : Value → Value → Sem Value) (a b : V) (H : Hp) (Q : V → Hp → Prop) : Prop :=
  ∀ A s Z va vb, Room A n → HA c.base Z H s.heap → Rep s.heap (Mut Z H) va a → Rep s.heap (Mut Z H) vb b → wpAny (model c.prog c.w) A (t va vb) (Post c Z H s Q) ff s
noncomputable abbrev BOP (c : Cx) (n : Nat) (op : Operator) := OP c n (binaryOp op)
noncomputable abbrev SUB (c : Cx) (n : Nat) := OP c n getItem
inductive PostC (c : Cx) (Z : Addr → Prop) (H : Hp) (s : Shared) (Q : Bool → Prop) (v : Value) (s' : Shared) : Prop
  | mk (t : Bool) (e : v = .bool t) (a : HA c.base Z H s'.heap) (k : Kp No H H s s') (q : Q t)
noncomputable def CMP (c : Cx) (n : Nat) (op : CmpOp) (a b : V) (H : Hp) (Q : Bool → Prop) : Prop :=
  ∀ A s Z va vb, Room A n → HA c.base Z H s.heap → Rep s.heap (Mut Z H) va a → Rep s.heap (Mut Z H) vb b →
    wpAny (model c.prog c.w) A (compareOp op va vb) (PostC c Z H s Q) ff s
theorem EV.two {l r : Expr} {t : Value → Value → Sem Value} {Q : V → Hp → Prop} {A : Around} {s : Shared} {Z : Addr → Prop}
    (h : EV c n env m H l fun a H₁ => EV c n env m H₁ r fun b H₂ => OP c n t a b H₂ Q) (ro : Room A n) (a : HA c.base Z H s.heap) (v : VA c.base Z env m (Mut Z H) s.heap) :
    wpAny (model c.prog c.w) A (eval l env) (fun va s₁ => wpAny (model c.prog c.w) A (eval r env) (fun vb s₂ => wpAny (model c.prog c.w) A (t va vb) (Post c Z H s Q) ff s₂) ff s₁) ff s :=
  h.then ro a v fun va s₁ Wa H₁ ra a₁ v₁ k₁ q₁ => q₁.then ro a₁ v₁ fun vb s₂ Wb H₂ rb a₂ v₂ k₂ q₂ =>
    wpAny_mono (q₂ A s₂ Z va vb ro a₂ (ra.mono (k₂.stays fun _ f => f.elim)) rb) (fun _ _ p => Post.pre (k₁.trans k₂) p) fun _ _ f => f
theorem EV.bin {l r : Expr} {op : Operator} {p : Pos} {Q : V → Hp → Prop} (h : EV c n env m H l fun a H₁ => EV c n env m H₁ r fun b H₂ => BOP c n op a b H₂ Q) :
    EV c n env m H (.BinOp l op r p) Q := fun A s Z ro a v => wpAny_BinOp (h.two ro a v)
section ops
variable {i j : Int} {Q : V → Hp → Prop}
theorem BOP.add (h : Q (.int (i + j)) H) : BOP c n .Add (.int i) (.int j) H Q := fun A s Z va vb ro a ra rb => by
  (first | obtain ⟨_, rfl⟩ := Rep.I ra | obtain rfl := Rep.R ra | obtain rfl := Rep.B ra | obtain rfl := Rep.N ra | obtain ⟨_, rfl⟩ := Rep.S ra); (first | obtain ⟨_, rfl⟩ := Rep.I rb | obtain rfl := Rep.R rb | obtain rfl := Rep.B rb | obtain rfl := Rep.N rb | obtain ⟨_, rfl⟩ := Rep.S rb); exact add_int ⟨_, H, .int _ _, a, Kp.tok, h⟩
theorem BOP.sub (h : Q (.int (i - j)) H) : BOP c n .Sub (.int i) (.int j) H Q := fun A s Z va vb ro a ra rb => by
  (first | obtain ⟨_, rfl⟩ := Rep.I ra | obtain rfl := Rep.R ra | obtain rfl := Rep.B ra | obtain rfl := Rep.N ra | obtain ⟨_, rfl⟩ := Rep.S ra); (first | obtain ⟨_, rfl⟩ := Rep.I rb | obtain rfl := Rep.R rb | obtain rfl := Rep.B rb | obtain rfl := Rep.N rb | obtain ⟨_, rfl⟩ := Rep.S rb); exact sub_int ⟨_, H, .int _ _, a, Kp.tok, h⟩
theorem BOP.mul (hi : IntMulOk i j) (h : Q (.int (i * j)) H) : BOP c n .Mult (.int i) (.int j) H Q := fun A s Z va vb ro a ra rb => by
  (first | obtain ⟨_, rfl⟩ := Rep.I ra | obtain rfl := Rep.R ra | obtain rfl := Rep.B ra | obtain rfl := Rep.N ra | obtain ⟨_, rfl⟩ := Rep.S ra); (first | obtain ⟨_, rfl⟩ := Rep.I rb | obtain rfl := Rep.R rb | obtain rfl := Rep.B rb | obtain rfl := Rep.N rb | obtain ⟨_, rfl⟩ := Rep.S rb); exact mul_int ⟨_, H, .int _ _, a, Kp.tok, h⟩ hi
theorem BOP.mod (hj : j ≠ 0) (h : Q (.int (i.fmod j)) H) : BOP c n .Mod (.int i) (.int j) H Q := fun A s Z va vb ro a ra rb => by
  (first | obtain ⟨_, rfl⟩ := Rep.I ra | obtain rfl := Rep.R ra | obtain rfl := Rep.B ra | obtain rfl := Rep.N ra | obtain ⟨_, rfl⟩ := Rep.S ra); (first | obtain ⟨_, rfl⟩ := Rep.I rb | obtain rfl := Rep.R rb | obtain rfl := Rep.B rb | obtain rfl := Rep.N rb | obtain ⟨_, rfl⟩ := Rep.S rb); exact mod_int' hj ⟨_, H, .int _ _, a, Kp.tok, h⟩
theorem small_div (hj : j ≠ 0) (hs : j.natAbs < 2 ^ 64) : Builtin.divisionGoesByPylong i j = false := by
  unfold Builtin.divisionGoesByPylong
  have h1 : j.natAbs.log2 < 64 := (Nat.log2_lt (by lia)).mpr hs
  have h2 : (j == 0) = false := by simpa using hj
  simp only [h2, Bool.false_eq_true, if_false, Bool.and_eq_false_imp, decide_eq_true_eq]
  intro h; lia
theorem BOP.div (hj : j ≠ 0) (hs : j.natAbs < 2 ^ 64) (h : Q (.int (i.fdiv j)) H) : BOP c n .FloorDiv (.int i) (.int j) H Q := fun A s Z va vb ro a ra rb => by
  (first | obtain ⟨_, rfl⟩ := Rep.I ra | obtain rfl := Rep.R ra | obtain rfl := Rep.B ra | obtain rfl := Rep.N ra | obtain ⟨_, rfl⟩ := Rep.S ra); (first | obtain ⟨_, rfl⟩ := Rep.I rb | obtain rfl := Rep.R rb | obtain rfl := Rep.B rb | obtain rfl := Rep.N rb | obtain ⟨_, rfl⟩ := Rep.S rb); exact floordiv_int hj ⟨_, H, .int _ _, a, Kp.tok, h⟩ (.inl (small_div hj hs))
end ops
section cmps
variable {i j : Int} {Q : Bool → Prop}
theorem CMP.lt (h : Q (decide (i < j))) : CMP c n .Lt (.int i) (.int j) H Q := fun A s Z va vb ro a ra rb => by (first | obtain ⟨_, rfl⟩ := Rep.I ra | obtain rfl := Rep.R ra | obtain rfl := Rep.B ra | obtain rfl := Rep.N ra | obtain ⟨_, rfl⟩ := Rep.S ra); (first | obtain ⟨_, rfl⟩ := Rep.I rb | obtain rfl := Rep.R rb | obtain rfl := Rep.B rb | obtain rfl := Rep.N rb | obtain ⟨_, rfl⟩ := Rep.S rb); exact lt_int ⟨_, rfl, a, Kp.refl, h⟩
theorem CMP.le (h : Q (decide (i ≤ j))) : CMP c n .LtE (.int i) (.int j) H Q := fun A s Z va vb ro a ra rb => by (first | obtain ⟨_, rfl⟩ := Rep.I ra | obtain rfl := Rep.R ra | obtain rfl := Rep.B ra | obtain rfl := Rep.N ra | obtain ⟨_, rfl⟩ := Rep.S ra); (first | obtain ⟨_, rfl⟩ := Rep.I rb | obtain rfl := Rep.R rb | obtain rfl := Rep.B rb | obtain rfl := Rep.N rb | obtain ⟨_, rfl⟩ := Rep.S rb); exact PySem.P.le_int ⟨_, rfl, a, Kp.refl, h⟩
theorem CMP.gt (h : Q (decide (j < i))) : CMP c n .Gt (.int i) (.int j) H Q := fun A s Z va vb ro a ra rb => by (first | obtain ⟨_, rfl⟩ := Rep.I ra | obtain rfl := Rep.R ra | obtain rfl := Rep.B ra | obtain rfl := Rep.N ra | obtain ⟨_, rfl⟩ := Rep.S ra); (first | obtain ⟨_, rfl⟩ := Rep.I rb | obtain rfl := Rep.R rb | obtain rfl := Rep.B rb | obtain rfl := Rep.N rb | obtain ⟨_, rfl⟩ := Rep.S rb); exact PySem.P.gt_int ⟨_, rfl, a, Kp.refl, h⟩
theorem CMP.ge (h : Q (decide (j ≤ i))) : CMP c n .GtE (.int i) (.int j) H Q := fun A s Z va vb ro a ra rb => by (first | obtain ⟨_, rfl⟩ := Rep.I ra | obtain rfl := Rep.R ra | obtain rfl := Rep.B ra | obtain rfl := Rep.N ra | obtain ⟨_, rfl⟩ := Rep.S ra); (first | obtain ⟨_, rfl⟩ := Rep.I rb | obtain rfl := Rep.R rb | obtain rfl := Rep.B rb | obtain rfl := Rep.N rb | obtain ⟨_, rfl⟩ := Rep.S rb); exact PySem.P.ge_int ⟨_, rfl, a, Kp.refl, h⟩
theorem CMP.eq (h : Q (decide (i = j))) : CMP c n .Eq (.int i) (.int j) H Q := fun A s Z va vb ro a ra rb => by
  (first | obtain ⟨_, rfl⟩ := Rep.I ra | obtain rfl := Rep.R ra | obtain rfl := Rep.B ra | obtain rfl := Rep.N ra | obtain ⟨_, rfl⟩ := Rep.S ra); (first | obtain ⟨_, rfl⟩ := Rep.I rb | obtain rfl := Rep.R rb | obtain rfl := Rep.B rb | obtain rfl := Rep.N rb | obtain ⟨_, rfl⟩ := Rep.S rb); exact PyProof.Rows.eq_int ⟨_, rfl, a, Kp.refl, by rwa [show (i == j) = decide (i = j) from rfl]⟩
theorem CMP.ne (h : Q (decide (i ≠ j))) : CMP c n .NotEq (.int i) (.int j) H Q := fun A s Z va vb ro a ra rb => by
  (first | obtain ⟨_, rfl⟩ := Rep.I ra | obtain rfl := Rep.R ra | obtain rfl := Rep.B ra | obtain rfl := Rep.N ra | obtain ⟨_, rfl⟩ := Rep.S ra); (first | obtain ⟨_, rfl⟩ := Rep.I rb | obtain rfl := Rep.R rb | obtain rfl := Rep.B rb | obtain rfl := Rep.N rb | obtain ⟨_, rfl⟩ := Rep.S rb); exact PyProof.Rows.ne_int ⟨_, rfl, a, Kp.refl, by rwa [show (i != j) = decide (i ≠ j) by simp [bne]; rfl]⟩
end cmps
mutual
noncomputable def ofD : PyData → V
  | .none => .none
  | .bool b => .bool b
  | .int i => .int i
  | .str x => .str x
  | .list xs => .lst (ofDs xs)
  | .tuple xs => .tup (ofDs xs)
  | .dict _ => .none
noncomputable def ofDs : List PyData → List V
  | [] => []
  | d :: r => ofD d :: ofDs r
end
mutual
theorem reads_of {h : Heap} {M : Addr → Prop} : ∀ (d : PyData) (v : Value), d.canLay0 = true → Rep h M v (ofD d) → ∃ as, Reads h v d as
  | .none, v, _, r => by cases r; exact ⟨_, .none⟩
  | .bool b, v, _, r => by cases r; exact ⟨_, .bool b⟩
  | .int i, v, _, r => by cases r; exact ⟨_, .int i _⟩
  | .str x, v, _, r => by cases r; exact ⟨_, .str x _⟩
  | .list xs, v, hc, r => by
    obtain ⟨a, items, rfl, ⟨k, ho⟩, _, rs⟩ := Rep.lst_iff.mp r
    obtain ⟨as, q⟩ := reads_all xs items.toList (by simpa [PyData.canLay0] using hc) rs
    exact ⟨_, .list ho rfl rfl q⟩
  | .tuple xs, v, hc, r => by
    obtain ⟨a, items, rfl, ⟨o, ho, hcl, k, hd⟩, _, rs⟩ := Rep.tup_iff.mp r
    obtain ⟨as, q⟩ := reads_all xs items.toList (by simpa [PyData.canLay0] using hc) rs
    exact ⟨_, .tuple ho hcl hd q⟩
  | .dict _, v, hc, _ => by simp [PyData.canLay0] at hc
theorem reads_all {h : Heap} {M : Addr → Prop} : ∀ (ds : List PyData) (vs : List Value), PyData.canLayAll0 ds = true → Reps h M vs (ofDs ds) → ∃ as, ReadsAll h vs ds as
  | [], vs, _, rs => by rw [rs.unnil]; exact ⟨_, .nil⟩
  | d :: r, vs, hc, rs => by
    obtain ⟨v, vr, rfl, r1, r2⟩ := rs.uncons
    have hc' : d.canLay0 = true ∧ PyData.canLayAll0 r = true := by simpa [PyData.canLayAll0] using hc
    obtain ⟨as, q1⟩ := reads_of d v hc'.1 r1
    obtain ⟨bs, q2⟩ := reads_all r vr hc'.2 r2
    exact ⟨_, .cons q1 q2⟩
end
theorem room64 {A : Around} (r : Room A (n + 1)) : A.units + 64 < cLine := by have := r.units; lia
theorem CMP.eqd {a b : V} {da db : PyData} {Q : Bool → Prop} (ea : a = ofD da) (eb : b = ofD db) (sa : SeqAt.shaped da = true) (sb : SeqAt.shaped db = true) (h : Q (PyData.eqv da db)) : CMP c (n + 1) .Eq a b H Q := fun A s Z va vb ro aa ra rb => by
  subst ea eb
  obtain ⟨as, qa⟩ := reads_of da va (SeqAt.canLay_of_shaped sa) ra
  obtain ⟨bs, qb⟩ := reads_of db vb (SeqAt.canLay_of_shaped sb) rb
  exact eq_dataH qa qb sa sb (room64 ro) ⟨_, rfl, aa, Kp.refl, h⟩
theorem CMP.ned {a b : V} {da db : PyData} {Q : Bool → Prop} (ea : a = ofD da) (eb : b = ofD db) (sa : SeqAt.shaped da = true) (sb : SeqAt.shaped db = true) (h : Q (!PyData.eqv da db)) : CMP c (n + 1) .NotEq a b H Q := fun A s Z va vb ro aa ra rb => by
  subst ea eb
  obtain ⟨as, qa⟩ := reads_of da va (SeqAt.canLay_of_shaped sa) ra
  obtain ⟨bs, qb⟩ := reads_of db vb (SeqAt.canLay_of_shaped sb) rb
  exact ne_dataH qa qb sa sb (room64 ro) ⟨_, rfl, aa, Kp.refl, h⟩
end Mine
end PartC3
section PartC4
open PySem PySem.W PyProof.Rows PySem.Calls
namespace Mine
variable {c : Cx} {n : Nat} {env : Env} {m : Vm} {H : Hp}
theorem TT.mono {e : Expr} {Q Q' : Bool → Hp → Prop} (x : TT c n env m H e Q) (k : ∀ b H', Q b H' → Q' b H') : TT c n env m H e Q' := fun A s Z r a v =>
  wpAny_mono (x A s Z r a v) (fun _ _ ⟨H', a, k', q⟩ => ⟨H', a, k', k _ H' q⟩) fun _ _ f => f
theorem TT.then {e : Expr} {R : Bool → Hp → Prop} {P : Bool → Shared → Prop} {A : Around} {s : Shared} {Z : Addr → Prop} (x : TT c n env m H e R) (r : Room A n) (a : HA c.base Z H s.heap) (v : VA c.base Z env m (Mut Z H) s.heap)
    (k : ∀ b s' H', HA c.base Z H' s'.heap → VA c.base Z env m (Mut Z H') s'.heap → Kp No H H' s s' → R b H' → P b s') :
    wpAny (model c.prog c.w) A (isTrue e env (eval e env)) P ff s :=
  wpAny_mono (x A s Z r a v) (fun b s' ⟨H', a', k', q⟩ => k b s' H' a' (v.step a k') k' q) fun _ _ f => f
theorem CMP.then {op : CmpOp} {a b : V} {R : Bool → Prop} {P : Value → Shared → Prop} {A : Around} {s : Shared} {Z : Addr → Prop} {va vb : Value} (x : CMP c n op a b H R) (r : Room A n) (aa : HA c.base Z H s.heap)
    (ra : Rep s.heap (Mut Z H) va a) (rb : Rep s.heap (Mut Z H) vb b) (k : ∀ t s', HA c.base Z H s'.heap → Kp No H H s s' → R t → P (.bool t) s') : wpAny (model c.prog c.w) A (compareOp op va vb) P ff s :=
  wpAny_mono (x A s Z va vb r aa ra rb) (fun v s' ⟨t, e, a', k', q⟩ => e ▸ k t s' a' k' q) fun _ _ f => f
theorem EV.cmp {l r : Expr} {op : CmpOp} {p : Pos} {Q : V → Hp → Prop} (h : EV c n env m H l fun a H₁ => EV c n env m H₁ r fun b H₂ => CMP c n op a b H₂ fun t => Q (.bool t) H₂)
    (hm : behindInMarks op r = false := by with_unfolding_all rfl) : EV c n env m H (.Compare l [op] [r] p) Q := fun A s Z ro a v =>
  wpAny_Compare1 (h.then ro a v fun va s₁ Wa H₁ ra a₁ v₁ k₁ q₁ => q₁.then ro a₁ v₁ fun vb s₂ Wb H₂ rb a₂ v₂ k₂ q₂ =>
    q₂.then ro a₂ (ra.mono (k₂.stays fun _ f => f.elim)) rb fun t s₃ a₃ k₃ q₃ => ⟨_, H₂, .bool t, a₃, (k₁.trans k₂).trans k₃, q₃⟩) hm
theorem TT.cmp {l r : Expr} {op : CmpOp} {p : Pos} {Q : Bool → Hp → Prop} (h : EV c n env m H l fun a H₁ => EV c n env m H₁ r fun b H₂ => CMP c n op a b H₂ fun t => Q t H₂)
    (hm : behindInMarks op r = false := by with_unfolding_all rfl) : TT c n env m H (.Compare l [op] [r] p) Q := fun A s Z ro a v =>
  wpAny_isTrue_Compare1 (h.then ro a v fun va s₁ Wa H₁ ra a₁ v₁ k₁ q₁ => q₁.then ro a₁ v₁ fun vb s₂ Wb H₂ rb a₂ v₂ k₂ q₂ =>
    q₂.then ro a₂ (ra.mono (k₂.stays fun _ f => f.elim)) rb fun t s₃ a₃ k₃ q₃ => wpAny_truthy_bool ⟨H₂, a₃, (k₁.trans k₂).trans k₃, q₃⟩) hm
theorem testChain_two {pos : Pos} {va : Value} {op₁ op₂ : CmpOp} {x y : Sem Value} : testChain pos va [op₁, op₂] [x, y] = (do
    let rv ← holding [va] x
    standAt pos
    let c ← holding [va, rv] (compareOp op₁ va rv)
    release [va, rv] [c]
    if ← holding [c, rv] (truthy c) then testChain pos rv [op₂] [y] else pure false) := rfl
theorem testChain_one {pos : Pos} {va : Value} {op₁ : CmpOp} {x : Sem Value} : testChain pos va [op₁] [x] = (do
    let rv ← holding [va] x
    standAt pos
    let c ← operate [va, rv] (compareOp op₁ va rv)
    holding [c] (truthy c)) := rfl
theorem compareChain_two {pos : Pos} {va : Value} {op₁ op₂ : CmpOp} {x y : Sem Value} : compareChain pos va [op₁, op₂] [x, y] = (do
    let rv ← holding [va] x
    standAt pos
    let c ← holding [va, rv] (compareOp op₁ va rv)
    release [va, rv] [c]
    if ← holding [c, rv] (truthy c) then compareChain pos rv [op₂] [y] else pure c) := rfl
theorem compareChain_one {pos : Pos} {va : Value} {op₁ : CmpOp} {x : Sem Value} : compareChain pos va [op₁] [x] = (do
    let rv ← holding [va] x
    standAt pos
    operate [va, rv] (compareOp op₁ va rv)) := rfl
theorem rel_any {M : Model} {A : Around} {E : Value → Shared → Prop} {s : Shared} {vs ks : List Value} {Q : Unit → Shared → Prop} (h : Q () s) : wpAny M A (release vs ks) Q E s := fun Γ p _ => by rw [Sem.wp_release]; exact h
theorem op_any {M : Model} {A : Around} {E : Value → Shared → Prop} {s : Shared} {vs : List Value} {t : Sem Value} {Q : Value → Shared → Prop} (h : wpAny M A t Q E s) : wpAny M A (operate vs t) Q E s := fun Γ p hΓ => by rw [Sem.wp_operate]; exact h Γ p hΓ
theorem TT.cmp2 {l r₁ r₂ : Expr} {op₁ op₂ : CmpOp} {p : Pos} {Q : Bool → Hp → Prop}
    (h : EV c n env m H l fun a H₁ => EV c n env m H₁ r₁ fun b H₂ => CMP c n op₁ a b H₂ fun t => if t = true then EV c n env m H₂ r₂ fun d H₃ => CMP c n op₂ b d H₃ fun u => Q u H₃ else Q false H₂)
    (hl : lastMarks [op₁, op₂] [r₁, r₂] = false := by with_unfolding_all rfl) : TT c n env m H (.Compare l [op₁, op₂] [r₁, r₂] p) Q := fun A s Z ro a v => by
  refine isTrue_chain (ops := []) (rs := []) ?_ hl
  refine h.then ro a v fun va s₁ Wa H₁ ra a₁ v₁ k₁ q₁ => ?_
  rw [show evalEach ([] : List Expr) env = [] from rfl, testChain_two]
  refine wpAny_bind (wpAny_holding (q₁.then ro a₁ v₁ fun vb s₂ Wb H₂ rb a₂ v₂ k₂ q₂ => wpAny_bind (wpAny_standAt (wpAny_bind (wpAny_holding
    (q₂.then ro a₂ (ra.mono (k₂.stays fun _ f => f.elim)) rb fun t s₃ a₃ k₃ q₃ => wpAny_bind (rel_any (wpAny_bind (wpAny_holding (wpAny_truthy_bool ?_))))))))))
  have K := (k₁.trans k₂).trans k₃
  cases t with
  | false => exact wpAny_pure ⟨H₂, a₃, K, q₃⟩
  | true =>
    rw [if_pos rfl] at q₃ ⊢
    rw [testChain_one]
    refine wpAny_bind (wpAny_holding (q₃.then ro a₃ (v₂.step a₂ k₃) fun vd s₄ Wd H₃ rd a₄ v₄ k₄ q₄ => wpAny_bind (wpAny_standAt (wpAny_bind (op_any
      (q₄.then ro a₄ ((rb.mono (k₃.stays fun _ f => f.elim)).mono (k₄.stays fun _ f => f.elim)) rd fun u s₅ a₅ k₅ q₅ => wpAny_holding (wpAny_truthy_bool ⟨H₃, a₅, (K.trans k₄).trans k₅, q₅⟩)))))))
theorem eval_chain {l r₁ r₂ : Expr} {op₁ op₂ : CmpOp} {p : Pos} (hl : lastMarks [op₁, op₂] [r₁, r₂] = false) : eval (.Compare l [op₁, op₂] [r₁, r₂] p) env = (do compareChain p (← eval l env) [op₁, op₂] [eval r₁ env, eval r₂ env]) := by
  show (do compareChain p (← eval l env) [op₁, op₂] (markedEach [op₁, op₂] [r₁, r₂] [eval r₁ env, eval r₂ env])) = _
  have : markedEach [op₁, op₂] [r₁, r₂] [eval r₁ env, eval r₂ env] = [eval r₁ env, eval r₂ env] := by
    show eval r₁ env :: [markedBehindIn op₂ r₂ (eval r₂ env)] = _
    rw [markedBehindIn_of_false hl]
  rw [this]
theorem EV.cmp2 {l r₁ r₂ : Expr} {op₁ op₂ : CmpOp} {p : Pos} {Q : V → Hp → Prop}
    (h : EV c n env m H l fun a H₁ => EV c n env m H₁ r₁ fun b H₂ => CMP c n op₁ a b H₂ fun t => if t = true then EV c n env m H₂ r₂ fun d H₃ => CMP c n op₂ b d H₃ fun u => Q (.bool u) H₃ else Q (.bool false) H₂)
    (hl : lastMarks [op₁, op₂] [r₁, r₂] = false := by with_unfolding_all rfl) : EV c n env m H (.Compare l [op₁, op₂] [r₁, r₂] p) Q := fun A s Z ro a v => by
  rw [eval_chain hl]
  refine wpAny_bind (h.then ro a v fun va s₁ Wa H₁ ra a₁ v₁ k₁ q₁ => ?_)
  rw [compareChain_two]
  refine wpAny_bind (wpAny_holding (q₁.then ro a₁ v₁ fun vb s₂ Wb H₂ rb a₂ v₂ k₂ q₂ => wpAny_bind (wpAny_standAt (wpAny_bind (wpAny_holding
    (q₂.then ro a₂ (ra.mono (k₂.stays fun _ f => f.elim)) rb fun t s₃ a₃ k₃ q₃ => wpAny_bind (rel_any (wpAny_bind (wpAny_holding (wpAny_truthy_bool ?_))))))))))
  have K := (k₁.trans k₂).trans k₃
  cases t with
  | false => exact wpAny_pure ⟨_, H₂, .bool _, a₃, K, q₃⟩
  | true =>
    rw [if_pos rfl] at q₃ ⊢
    rw [compareChain_one]
    refine wpAny_bind (wpAny_holding (q₃.then ro a₃ (v₂.step a₂ k₃) fun vd s₄ Wd H₃ rd a₄ v₄ k₄ q₄ => wpAny_bind (wpAny_standAt (op_any
      (q₄.then ro a₄ ((rb.mono (k₃.stays fun _ f => f.elim)).mono (k₄.stays fun _ f => f.elim)) rd fun u s₅ a₅ k₅ q₅ => ⟨_, H₃, .bool u, a₅, (K.trans k₄).trans k₅, q₅⟩)))))
theorem TT.val {e : Expr} {Q : Bool → Hp → Prop} (h : EV c n env m H e fun W H' => ∃ b, W = .bool b ∧ Q b H')
    (hs : isTrue e env (eval e env) = (do let v ← eval e env; standAt e.pos; holding [v] (truthy v)) := by with_unfolding_all rfl) : TT c n env m H e Q := fun A s Z ro a v => by
  rw [hs]
  refine wpAny_bind (h.then ro a v fun va s₁ Wa H₁ ra a₁ v₁ k₁ q₁ => wpAny_bind (wpAny_standAt (wpAny_holding ?_)))
  obtain ⟨b, rfl, q⟩ := q₁
  (first | obtain ⟨_, rfl⟩ := Rep.I ra | obtain rfl := Rep.R ra | obtain rfl := Rep.B ra | obtain rfl := Rep.N ra | obtain ⟨_, rfl⟩ := Rep.S ra)
  exact wpAny_truthy_bool ⟨H₁, a₁, k₁, q⟩
theorem TT.tnot {x : Expr} {p : Pos} {Q : Bool → Hp → Prop} (h : TT c n env m H x fun b H' => Q (!b) H') : TT c n env m H (.UnaryOp .Not x p) Q := fun A s Z ro a v =>
  wpAny_isTrue_Not (wpAny_mono (h A s Z ro a v) (fun b s' ⟨H', a', k', q⟩ => ⟨H', a', k', q⟩) fun _ _ f => f)
noncomputable def TA (c : Cx) (n : Nat) (env : Env) (m : Vm) (H : Hp) (op : BoolOp) (es : List Expr) (Q : Bool → Hp → Prop) : Prop :=
  ∀ A s Z, Room A n → HA c.base Z H s.heap → VA c.base Z env m (Mut Z H) s.heap →
    wpAny (model c.prog c.w) A (allTrue op es env) (PostT c Z H s Q) ff s
theorem TT.all {op : BoolOp} {es : List Expr} {p : Pos} {Q : Bool → Hp → Prop} (h : TA c n env m H op es Q) : TT c n env m H (.BoolOp op es p) Q := fun A s Z ro a v => wpAny_isTrue_BoolOp (h A s Z ro a v)
theorem TA.andNil {Q : Bool → Hp → Prop} (h : Q true H) : TA c n env m H .And [] Q := fun A s Z ro a v => wpAny_allTrue_And_nil ⟨H, a, Kp.refl, h⟩
theorem TA.orNil {Q : Bool → Hp → Prop} (h : Q false H) : TA c n env m H .Or [] Q := fun A s Z ro a v => wpAny_allTrue_Or_nil ⟨H, a, Kp.refl, h⟩
theorem TA.and {x : Expr} {es : List Expr} {Q : Bool → Hp → Prop} (h : TT c n env m H x fun b H' => if b = true then TA c n env m H' .And es Q else Q false H') : TA c n env m H .And (x :: es) Q := fun A s Z ro a v =>
  wpAny_allTrue_And_cons (h.then ro a v fun b s' H' a' v' k' q => by
    cases b with
    | false => exact ⟨H', a', k', q⟩
    | true => rw [if_pos rfl] at q ⊢; exact wpAny_mono (q A s' Z ro a' v') (fun b s₂ ⟨H₂, a₂, k₂, q₂⟩ => ⟨H₂, a₂, k'.trans k₂, q₂⟩) fun _ _ f => f)
theorem TA.or {x : Expr} {es : List Expr} {Q : Bool → Hp → Prop} (h : TT c n env m H x fun b H' => if b = true then Q true H' else TA c n env m H' .Or es Q) : TA c n env m H .Or (x :: es) Q := fun A s Z ro a v =>
  wpAny_allTrue_Or_cons (h.then ro a v fun b s' H' a' v' k' q => by
    cases b with
    | true => exact ⟨H', a', k', q⟩
    | false => rw [if_neg (by decide)] at q ⊢; exact wpAny_mono (q A s' Z ro a' v') (fun b s₂ ⟨H₂, a₂, k₂, q₂⟩ => ⟨H₂, a₂, k'.trans k₂, q₂⟩) fun _ _ f => f)
noncomputable def EB (c : Cx) (n : Nat) (env : Env) (m : Vm) (H : Hp) (op : BoolOp) (es : List Expr) (Q : V → Hp → Prop) : Prop :=
  ∀ A s Z p, Room A n → HA c.base Z H s.heap → VA c.base Z env m (Mut Z H) s.heap → wpAny (model c.prog c.w) A (boolOp p op (evalEach es env)) (Post c Z H s Q) ff s
theorem EV.boolop {op : BoolOp} {es : List Expr} {p : Pos} {Q : V → Hp → Prop} (h : EB c n env m H op es Q) : EV c n env m H (.BoolOp op es p) Q := fun A s Z ro a v => h A s Z p ro a v
theorem EB.one {op : BoolOp} {x : Expr} {Q : V → Hp → Prop} (h : EV c n env m H x Q) : EB c n env m H op [x] Q := fun A s Z p ro a v => h A s Z ro a v
theorem boolOp_cons {p : Pos} {op : BoolOp} {x y : Sem Value} {r : List (Sem Value)} : boolOp p op (x :: y :: r) = (do
    let v ← x
    standAt p
    let t ← holding [v] (truthy v)
    match op, t with
    | .And, false | .Or, true => pure v
    | _, _ => boolOp p op (y :: r)) := rfl
theorem EB.and {x y : Expr} {es : List Expr} {Q : V → Hp → Prop} (h : EV c n env m H x fun W H' => ∃ b, W = .bool b ∧ if b = true then EB c n env m H' .And (y :: es) Q else Q (.bool false) H') : EB c n env m H .And (x :: y :: es) Q := fun A s Z p ro a v => by
  show wpAny _ _ (boolOp p .And (eval x env :: eval y env :: evalEach es env)) _ _ _
  rw [boolOp_cons]
  refine wpAny_bind (h.then ro a v fun va s₁ Wa H₁ ra a₁ v₁ k₁ q₁ => ?_)
  obtain ⟨b, rfl, q⟩ := q₁
  (first | obtain ⟨_, rfl⟩ := Rep.I ra | obtain rfl := Rep.R ra | obtain rfl := Rep.B ra | obtain rfl := Rep.N ra | obtain ⟨_, rfl⟩ := Rep.S ra)
  refine wpAny_bind (wpAny_standAt (wpAny_bind (wpAny_holding (wpAny_truthy_bool ?_))))
  cases b with
  | false => exact wpAny_pure ⟨_, H₁, .bool _, a₁, k₁, q⟩
  | true => rw [if_pos rfl] at q; exact wpAny_mono (q A s₁ Z p ro a₁ v₁) (fun _ _ p => Post.pre k₁ p) fun _ _ f => f
theorem EB.or {x y : Expr} {es : List Expr} {Q : V → Hp → Prop} (h : EV c n env m H x fun W H' => ∃ b, W = .bool b ∧ if b = true then Q (.bool true) H' else EB c n env m H' .Or (y :: es) Q) : EB c n env m H .Or (x :: y :: es) Q := fun A s Z p ro a v => by
  show wpAny _ _ (boolOp p .Or (eval x env :: eval y env :: evalEach es env)) _ _ _
  rw [boolOp_cons]
  refine wpAny_bind (h.then ro a v fun va s₁ Wa H₁ ra a₁ v₁ k₁ q₁ => ?_)
  obtain ⟨b, rfl, q⟩ := q₁
  (first | obtain ⟨_, rfl⟩ := Rep.I ra | obtain rfl := Rep.R ra | obtain rfl := Rep.B ra | obtain rfl := Rep.N ra | obtain ⟨_, rfl⟩ := Rep.S ra)
  refine wpAny_bind (wpAny_standAt (wpAny_bind (wpAny_holding (wpAny_truthy_bool ?_))))
  cases b with
  | true => exact wpAny_pure ⟨_, H₁, .bool _, a₁, k₁, q⟩
  | false => rw [if_neg (by decide)] at q; exact wpAny_mono (q A s₁ Z p ro a₁ v₁) (fun _ _ p => Post.pre k₁ p) fun _ _ f => f
theorem EV.notb {x : Expr} {p : Pos} {Q : V → Hp → Prop} (h : EV c n env m H x fun W H' => ∃ b, W = .bool b ∧ Q (.bool (!b)) H') : EV c n env m H (.UnaryOp .Not x p) Q := fun A s Z ro a v =>
  wpAny_UnaryOp (h.then ro a v fun va s₁ Wa H₁ ra a₁ v₁ k₁ q₁ => by
    obtain ⟨b, rfl, q⟩ := q₁
    (first | obtain ⟨_, rfl⟩ := Rep.I ra | obtain rfl := Rep.R ra | obtain rfl := Rep.B ra | obtain rfl := Rep.N ra | obtain ⟨_, rfl⟩ := Rep.S ra)
    exact not_of (wpAny_truthy_bool ⟨_, H₁, .bool _, a₁, k₁, q⟩))
theorem EV.neg {x : Expr} {p : Pos} {Q : V → Hp → Prop} (h : EV c n env m H x fun W H' => ∃ i, W = .int i ∧ Q (.int (-i)) H') : EV c n env m H (.UnaryOp .USub x p) Q := fun A s Z ro a v =>
  wpAny_UnaryOp (h.then ro a v fun va s₁ Wa H₁ ra a₁ v₁ k₁ q₁ => by
    obtain ⟨b, rfl, q⟩ := q₁
    (first | obtain ⟨_, rfl⟩ := Rep.I ra | obtain rfl := Rep.R ra | obtain rfl := Rep.B ra | obtain rfl := Rep.N ra | obtain ⟨_, rfl⟩ := Rep.S ra)
    exact PySem.P.neg_int ⟨_, H₁, .int _ _, a₁, k₁.trans Kp.tok, q⟩)
theorem EV.ifexp {t b o : Expr} {p : Pos} {Q : V → Hp → Prop} (h : TT c n env m H t fun x H' => if x = true then EV c n env m H' b Q else EV c n env m H' o Q) : EV c n env m H (.IfExp t b o p) Q := fun A s Z ro a v =>
  wpAny_IfExp (h.then ro a v fun x s' H' a' v' k' q => by
    cases x with
    | true => rw [if_pos rfl] at q ⊢; exact wpAny_mono (q A s' Z ro a' v') (fun _ _ p => Post.pre k' p) fun _ _ f => f
    | false => rw [if_neg (by decide)] at q ⊢; exact wpAny_mono (q A s' Z ro a' v') (fun _ _ p => Post.pre k' p) fun _ _ f => f)
end Mine
end PartC4
section PartC5
open PySem PySem.W PyProof.Rows PySem.Calls
namespace Mine
variable {c : Cx} {n : Nat} {env : Env} {m : Vm} {H : Hp}
theorem HA.two {Z : Addr → Prop} {h : Heap} (a : HA c.base Z H h) : 2 < h.objs.size := by
  obtain ⟨mc, ⟨o, es, ep, e, _⟩, _⟩ := c.lim
  exact Heap.lt_size (a.keep _ _ e)
theorem HA.fresh {Z : Addr → Prop} {h : Heap} (a : HA c.base Z H h) : h.get? h.objs.size = none := by
  cases q : h.get? h.objs.size with
  | none => rfl
  | some o => exact absurd (Heap.lt_size q) (Nat.lt_irrefl _)
theorem HA.alloc {Z : Addr → Prop} {s : Shared} {o : Obj} {d : Cell} {t : Nat} (a : HA c.base Z H s.heap) (hf : o.isFreed = false)
    (hc : ∀ h', h'.get? s.heap.objs.size = some o → Stays s.heap h' (Mut Z H) (Mut Z (H.set s.heap.objs.size d)) → CRep h' (Mut Z (H.set s.heap.objs.size d)) s.heap.objs.size d) :
    H s.heap.objs.size = none ∧ HA c.base Z (H.set s.heap.objs.size d) (s.heap.push o) ∧ Kp No H (H.set s.heap.objs.size d) s { s with heap := s.heap.push o, toks := t } := by
  have k : ∀ b x, b ≠ s.heap.objs.size → s.heap.get? b = some x → (s.heap.push o).get? b = some x := fun b x _ e => Heap.get?_push_of_some _ e
  have g := Heap.get?_push_size s.heap hf
  exact ⟨(a.free a.fresh).1, a.put (.inl a.fresh) k (hc _ g (a.stays_set (.inl a.fresh) k)) a.two, Kp.put (.inl a.fresh) k ⟨_, g⟩⟩
theorem HA.lay {Z : Addr → Prop} {s : Shared} {o : Obj} {t : Nat} (a : HA c.base Z H s.heap) : HA c.base Z H (s.heap.push o) ∧ Kp No H H s { s with heap := s.heap.push o, toks := t } ∧ Stays s.heap (s.heap.push o) (Mut Z H) (Mut Z H) ∧ ¬ Mut Z H s.heap.objs.size :=
  ⟨a.grown fun b x e => Heap.get?_push_of_some _ e, Kp.grown fun b x e => Heap.get?_push_of_some _ e, a.stays (fun b x e _ => Heap.get?_push_of_some _ e) fun _ _ _ e => e, fun z => z.elim (a.free a.fresh).2.1 fun z => z (a.free a.fresh).1⟩
theorem line100 {k : Nat} (h : k ≤ 1000000) : k ≤ sizeLine := by rw [sizeLine_eq]; lia
theorem EV.tuple {es : List Expr} {k : Nat} {p : Pos} {Q : V → Hp → Prop} (h : ES c n env m H es fun Ws H' => Q (.tup Ws) H') (hz : es.length ≤ 1000000 := by decide) : EV c n env m H (.Tuple es k p) Q := fun A s Z ro a v => by
  refine wpAny_Tuple (wpAny_mono (h A s Z p ro a v) (fun vs s' hh => ?_) fun _ _ f => f)
  obtain ⟨Ws, H', rs, ln, a', k', q⟩ := hh
  obtain ⟨a₂, k₂, st, nm⟩ := a'.lay (o := { cls := .type "tuple", data := .seq vs.toArray }) (t := s'.toks)
  refine ⟨line100 (by rw [rs.1, ln]; exact hz), .tup Ws, H', ?_, a₂, k'.trans k₂, q⟩
  exact Rep.tup_iff.mpr ⟨_, vs.toArray, rfl, ⟨_, Heap.get?_push_size _ rfl, rfl, _, rfl⟩, nm, by simpa using rs.mono st⟩
theorem newL {Z : Addr → Prop} {s : Shared} {vs : List Value} {Ws : List V} {t : Nat} (a : HA c.base Z H s.heap) (rs : Reps s.heap (Mut Z H) vs Ws) :
    H s.heap.objs.size = none ∧ HA c.base Z (H.set s.heap.objs.size (.list Ws)) (s.heap.push { cls := .type "list", data := .seq vs.toArray }) ∧
      Kp No H (H.set s.heap.objs.size (.list Ws)) s { s with heap := s.heap.push { cls := .type "list", data := .seq vs.toArray }, toks := t } :=
  a.alloc rfl fun h' e st => ⟨vs.toArray, ⟨0, e⟩, by simpa using rs.mono st⟩
theorem EV.list {es : List Expr} {p : Pos} {Q : V → Hp → Prop} (h : ES c n env m H es fun Ws H' => ∀ a, H' a = none → Q (.ref a) (H'.set a (.list Ws))) (hz : es.length ≤ 1000000 := by decide) : EV c n env m H (.List es p) Q := fun A s Z ro a v => by
  refine wpAny_List (wpAny_mono (h A s Z p ro a v) (fun vs s' hh => ?_) fun _ _ f => f)
  obtain ⟨Ws, H', rs, ln, a', k', q⟩ := hh
  obtain ⟨hn, a₂, k₂⟩ := newL (t := s'.toks) a' rs
  exact ⟨line100 (by rw [rs.1, ln]; exact hz), .ref _, _, .ref _, a₂, k'.trans k₂, q _ hn⟩
theorem EV.dict0 {p : Pos} {Q : V → Hp → Prop} (h : ∀ a, H a = none → Q (.ref a) (H.set a (.dict []))) : EV c n env m H (.Dict [] [] p) Q := fun A s Z ro a v => by
  refine wpAny_Dict_empty ?_
  obtain ⟨hn, a₂, k₂⟩ := a.alloc (o := { cls := .type "dict", data := .dict #[] }) (d := .dict []) (t := s.toks) rfl fun h' e st =>
    ⟨[], ⟨_, e⟩, DictOf_all (p := c.prog) (w := c.w) ⟨_, #[], 0, e, ⟨rfl, rfl, rfl⟩, rfl, (fun _ he => by simp at he), .nil, .nil⟩, rfl, Reps.nil⟩
  exact ⟨.ref _, _, .ref _, a₂, k₂, h _ hn⟩
noncomputable def idx (vs : List V) (k : Int) : Option V := if 0 ≤ k then vs[k.toNat]? else if -(vs.length : Int) ≤ k then vs[(k + vs.length).toNat]? else none
theorem seqIndex_idx {vs : List V} {k : Int} {W : V} (h : idx vs k = some W) : ∃ j, seqIndex? k vs.length = some j ∧ vs[j]? = some W := by
  unfold idx at h
  unfold seqIndex?
  by_cases h0 : 0 ≤ k
  · rw [if_pos h0] at h
    have hl := (List.getElem?_eq_some_iff.mp h).1
    refine ⟨k.toNat, ?_, h⟩
    have e : (if k < 0 then k + (vs.length : Int) else k) = k := if_neg (by lia)
    simp only [e]
    rw [if_pos (by simp; lia)]
  · rw [if_neg h0] at h
    split at h
    · rename_i h1
      have hl := (List.getElem?_eq_some_iff.mp h).1
      refine ⟨(k + vs.length).toNat, ?_, h⟩
      have e : (if k < 0 then k + (vs.length : Int) else k) = k + vs.length := if_pos (by lia)
      simp only [e]
      rw [if_pos (by simp; lia)]
    · cases h
inductive SubAt (H : Hp) : V → V → V → Prop
  | list {o : V} {vs : List V} {k : Int} {W : V} (l : IsL H o vs) (h1 : -(2 ^ 63) ≤ k) (h2 : k < 2 ^ 63) (h : idx vs k = some W) : SubAt H o (.int k) W
  | tup {vs : List V} {k : Int} {W : V} (h1 : -(2 ^ 63) ≤ k) (h2 : k < 2 ^ 63) (h : idx vs k = some W) : SubAt H (.tup vs) (.int k) W
  | dict {a : Addr} {kv : List (Int × V)} {k : Int} {W : V} (hd : H a = some (.dict kv)) (h : (k, W) ∈ kv) (hn : (kv.map (·.1)).Nodup) : SubAt H (.ref a) (.int k) W
theorem find_mem {g : List (Int × Value)} {k : Int} {v : Value} (hm : (k, v) ∈ g) (hn : (g.map (·.1)).Nodup) : valueAt g k = some v := by
  unfold valueAt
  induction g with
  | nil => cases hm
  | cons p r ih =>
    rw [List.map_cons, List.nodup_cons] at hn
    rcases List.mem_cons.mp hm with e | hm
    · subst e; simp
    · have ne : p.1 ≠ k := fun e => hn.1 (e ▸ List.mem_map.mpr ⟨_, hm, rfl⟩)
      rw [List.find?_cons_of_neg (by simpa using ne)]
      exact ih hm hn.2
theorem Reps.pair {h : Heap} {M : Addr → Prop} : ∀ {g : List (Int × Value)} {kv : List (Int × V)} {k : Int} {W : V}, g.map (·.1) = kv.map (·.1) → Reps h M (g.map (·.2)) (kv.map (·.2)) → (k, W) ∈ kv → ∃ v, (k, v) ∈ g ∧ Rep h M v W
  | [], [], _, _, _, _, hm => nomatch hm
  | [], _ :: _, _, _, e, _, _ => by simp at e
  | _ :: _, [], _, _, e, _, _ => by simp at e
  | (k1, v1) :: g, (k2, W2) :: kv, k, W, e, r, hm => by
    simp only [List.map_cons, List.cons.injEq] at e
    obtain ⟨rfl, e⟩ := e
    obtain ⟨v', vr, e', r1, r2⟩ := Reps.uncons (vs := kv.map (·.2)) (V := W2) r
    simp only [List.map_cons, List.cons.injEq] at e'
    obtain ⟨rfl, rfl⟩ := e'
    rcases List.mem_cons.mp hm with e'' | hm
    · cases e''; exact ⟨v1, List.mem_cons_self, r1⟩
    · obtain ⟨v, a, b⟩ := Reps.pair e r2 hm; exact ⟨v, List.mem_cons_of_mem _ a, b⟩
theorem EV.sub {value slice : Expr} {p : Pos} {Q : V → Hp → Prop} (h : EV c n env m H value fun o H₁ => EV c n env m H₁ slice fun i H₂ => ∃ W, SubAt H₂ o i W ∧ Q W H₂)
    (hs : ∀ o i, subscripted slice false o i = operate [o, i] (getItem o i) := by intro _ _; with_unfolding_all rfl) : EV c n env m H (.Subscript value slice p) Q := fun A s Z ro a v => by
  refine Subscript_ (h.then ro a v fun vo s₁ Wo H₁ ra a₁ v₁ k₁ q₁ => q₁.then ro a₁ v₁ fun vi s₂ Wi H₂ rb a₂ v₂ k₂ q₂ => ?_)
  obtain ⟨W, sa, q⟩ := q₂
  have ra := ra.mono (k₂.stays fun _ f => f.elim)
  cases sa with
  | @list _ vs k _ l h1 h2 hi =>
    obtain ⟨b, items, rfl, ho, rs⟩ := l.rep a₂ ra
    (first | obtain ⟨_, rfl⟩ := Rep.I rb | obtain rfl := Rep.R rb | obtain rfl := Rep.B rb | obtain rfl := Rep.N rb | obtain ⟨_, rfl⟩ := Rep.S rb)
    unfold idx at hi
    have hl : s₂.heap.IsList b items := ho.isList
    by_cases h0 : 0 ≤ k
    · rw [if_pos h0] at hi
      obtain ⟨x, hx, rx⟩ := rs.get hi
      exact tail_any hl.typeIs slot_list_getitem.lookup (wpAny_getItem_list hl h0 h2 (by simpa using hx) ⟨W, H₂, rx, a₂, k₁.trans k₂, q⟩) (hs _ _)
    · rw [if_neg h0] at hi
      split at hi
      · rename_i h3
        obtain ⟨x, hx, rx⟩ := rs.get hi
        have hsz : (items.size : Int) = vs.length := by rw [← rs.1]; simp
        exact tail_any hl.typeIs slot_list_getitem.lookup (wpAny_getItem_list_neg hl (by lia) (by lia) h1 (by rw [hsz]; simpa using hx) ⟨W, H₂, rx, a₂, k₁.trans k₂, q⟩) (hs _ _)
      · cases hi
  | tup h1 h2 hi =>
    obtain ⟨b, items, rfl, ho, _, rs⟩ := Rep.tup_iff.mp ra
    (first | obtain ⟨_, rfl⟩ := Rep.I rb | obtain rfl := Rep.R rb | obtain rfl := Rep.B rb | obtain rfl := Rep.N rb | obtain ⟨_, rfl⟩ := Rep.S rb)
    obtain ⟨j, hj, hv⟩ := seqIndex_idx hi
    obtain ⟨x, hx, rx⟩ := rs.get hv
    exact tail_any ho.typeIs PySem.F.slot_tuple_getitem.lookup (PyProof.Rows.getItem_tuple ho h1 h2 (by rw [show items.size = items.toList.length by simp, rs.1]; exact hj) (by simpa using hx) ⟨W, H₂, rx, a₂, k₁.trans k₂, q⟩) (hs _ _)
  | dict hd hm hn =>
    (first | obtain ⟨_, rfl⟩ := Rep.I ra | obtain rfl := Rep.R ra | obtain rfl := Rep.B ra | obtain rfl := Rep.N ra | obtain ⟨_, rfl⟩ := Rep.S ra)
    (first | obtain ⟨_, rfl⟩ := Rep.I rb | obtain rfl := Rep.R rb | obtain rfl := Rep.B rb | obtain rfl := Rep.N rb | obtain ⟨_, rfl⟩ := Rep.S rb)
    obtain ⟨g, _, hg, hk, rs⟩ := a₂.cell _ _ hd
    obtain ⟨v', hv, rv⟩ := Reps.pair hk rs hm
    have D := hg c.prog c.w
    have hT : s₂.TypeIs (.ref _) "dict" := let ⟨o, _, _, ho, hc, _⟩ := D; ⟨o, ho, hc.1⟩
    refine tail_any hT slot_dict_getitem.lookup (wpAny_getItem_of (intKind_is c.prog c.w _ _) D.mapOf ?_ ⟨W, H₂, rv, a₂.grown fun _ _ e => e, (k₁.trans k₂).trans Kp.tok, q⟩) (hs _ _)
    exact find_mem hv (by rw [hk]; exact hn)
end Mine
end PartC5
section PartC6
open PySem PySem.W PyProof.Rows PySem.Calls
namespace Mine
variable {c : Cx} {n : Nat} {env : Env} {m : Vm} {H : Hp}
noncomputable def EP (c : Cx) (n : Nat) (env : Env) (m : Vm) (H : Hp) (e : Option Expr) (Q : Option Int → Hp → Prop) : Prop :=
  match e with
  | none => Q none H
  | some e => EV c n env m H e fun W H' => ∃ i, W = .int i ∧ Q (some i) H'
noncomputable def pick (vs : List V) (lo hi : Option Int) : List V := (vs.drop (kms_lo lo vs.length)).take (kms_hi hi vs.length - kms_lo lo vs.length)
theorem EP.then {e : Option Expr} {R : Option Int → Hp → Prop} {P : Value → Shared → Prop} {A : Around} {s : Shared} {Z : Addr → Prop} (x : EP c n env m H e R) (r : Room A n) (a : HA c.base Z H s.heap) (v : VA c.base Z env m (Mut Z H) s.heap)
    (k : ∀ v' s' i H', IsPart v' i → HA c.base Z H' s'.heap → VA c.base Z env m (Mut Z H') s'.heap → Kp No H H' s s' → R i H' → P v' s') : wpAny (model c.prog c.w) A (evalPart e env) P ff s := by
  cases e with
  | none => rw [evalPart_none]; exact wpAny_pure (k _ _ none H .none a v Kp.refl x)
  | some e => exact EV.then (e := e) x r a v fun v' s' W H' r' a' va kk ⟨i, e, q⟩ => by subst e; (first | obtain ⟨_, rfl⟩ := Rep.I r' | obtain rfl := Rep.R r' | obtain rfl := Rep.B r' | obtain rfl := Rep.N r' | obtain ⟨_, rfl⟩ := Rep.S r'); exact k _ _ (some i) H' (.int i _) a' va kk q
theorem EV.slice {value : Expr} {lo hi : Option Expr} {p p' : Pos} {Q : V → Hp → Prop}
    (h : EV c n env m H value fun o H₁ => EP c n env m H₁ lo fun l H₂ => EP c n env m H₂ hi fun u H₃ => ∃ vs, IsL H₃ o vs ∧ vs.length ≤ 1000000 ∧ ∀ a, H₃ a = none → Q (.ref a) (H₃.set a (.list (pick vs l u))))
    (ht : ∀ o r, letTemporaryGo value o r = pure () := by intro _ _; rfl) : EV c n env m H (.Subscript value (.Slice lo hi none p) p') Q := fun A s Z ro a v => by
  refine wpAny_Subscript_list_slice (h.then ro a v fun vo s₁ Wo H₁ ra a₁ v₁ k₁ q₁ => q₁.then ro a₁ v₁ fun vl s₂ l H₂ pl a₂ v₂ k₂ q₂ => q₂.then ro a₂ v₂ fun vu s₃ u H₃ pu a₃ v₃ k₃ q₃ => ?_) ht
  obtain ⟨vs, il, hz, q⟩ := q₃
  obtain ⟨b, items, rfl, ho, rs⟩ := il.rep a₃ ((ra.mono (k₂.stays fun _ f => f.elim)).mono (k₃.stays fun _ f => f.elim))
  have hsz : items.size = vs.length := by rw [← rs.1]; simp
  refine ⟨b, items, l, u, rfl, ho.isList, line100 (by lia), pl, pu, ?_⟩
  obtain ⟨a₄, k₄, st, nm⟩ := a₃.lay (o := { cls := .type "slice", data := .fields #[vl, vu, .none] }) (t := s₃.toks)
  have rs' : Reps (s₃.heap.push { cls := .type "slice", data := .fields #[vl, vu, .none] }) (Mut Z H₃) (kms_pick items.toList l u) (pick vs l u) := by
    have := (rs.mono st).sub (kms_lo l vs.length) (kms_hi u vs.length - kms_lo l vs.length)
    unfold kms_pick pick
    rwa [show items.toList.length = vs.length from rs.1]
  obtain ⟨hn, a₅, k₅⟩ := newL (s := { s₃ with heap := s₃.heap.push { cls := .type "slice", data := .fields #[vl, vu, .none] } }) (t := s₃.toks) a₄ rs'
  rw [kms_pick_eq]
  have e : (s₃.heap.push { cls := .type "slice", data := .fields #[vl, vu, .none] }).objs.size = s₃.heap.objs.size + 1 := Heap.size_push ..
  simp only [e] at hn a₅ k₅
  exact ⟨.ref _, _, .ref _, a₅, ((k₁.trans k₂).trans k₃).trans (k₄.trans k₅), q _ hn⟩
theorem EV.freeze {e : Expr} {Q : V → Hp → Prop} (h : EV c n env m H e fun W H' => ∃ a vs, W = .ref a ∧ H' a = some (.list vs) ∧ Q (.lst vs) (H'.del a)) : EV c n env m H e Q := fun A s Z ro a v =>
  wpAny_mono (h A s Z ro a v) (fun v' s' p => by
    obtain ⟨W, H', r, a', k, b, vs, rfl, hb, q⟩ := p
    (first | obtain ⟨_, rfl⟩ := Rep.I r | obtain rfl := Rep.R r | obtain rfl := Rep.B r | obtain rfl := Rep.N r | obtain ⟨_, rfl⟩ := Rep.S r)
    have l : ∀ x d, (H'.del b) x = some d → H' x = some d := fun x d e => by
      by_cases hx : x = b
      · subst hx; rw [Hp.del_same] at e; cases e
      · rwa [Hp.del_ne _ hx] at e
    have a₂ := a'.less l
    obtain ⟨items, ho, rs⟩ := a'.cell b _ hb
    refine ⟨.lst vs, H'.del b, Rep.lst_iff.mpr ⟨b, items, rfl, ho, fun z => z.elim (fun z => (a'.off b (by rw [hb]; simp)).1 z) fun z => z (Hp.del_same ..), ?_⟩, a₂, k.less l, q⟩
    exact ⟨rs.1, fun i x W e e' => (rs.2 i x W e e').less l⟩) fun _ _ f => f
theorem EV.forget {e : Expr} {Q : V → Hp → Prop} (h : EV c n env m H e fun W H' => ∃ H'', (∀ x d, H'' x = some d → H' x = some d) ∧ Q W H'') : EV c n env m H e Q := fun A s Z ro a v =>
  wpAny_mono (h A s Z ro a v) (fun v' s' p => by
    obtain ⟨W, H', r, a', k, H'', l, q⟩ := p
    exact ⟨W, H'', r.less l, a'.less l, k.less l, q⟩) fun _ _ f => f
theorem Ents.tail {h : Heap} {M : Addr → Prop} {e : DictEntry} {es : List DictEntry} {p : Str × V} {at_ : List (Str × V)} (x : Ents h M (e :: es) (p :: at_)) : Ents h M es at_ :=
  ⟨by simpa using x.len, (List.nodup_cons.mp (by simpa using x.nodup)).2, fun i e' p' a b => x.key (i + 1) e' p' (by simpa using a) (by simpa using b), fun i e' p' a b => x.val (i + 1) e' p' (by simpa using a) (by simpa using b)⟩
theorem isStr_lit (k x : Str) (t : Tok) : (Value.str k t).isStr x = (k == x) := rfl
theorem Ents.get {h : Heap} {M : Addr → Prop} : ∀ {es : List DictEntry} {at_ : List (Str × V)} {k : Str} {W : V}, Ents h M es at_ → (k, W) ∈ at_ → ∃ v, getL k es = some (some v) ∧ Rep h M v W
  | _, [], _, _, _, hm => nomatch hm
  | [], _ :: _, _, _, x, _ => by have := x.len; simp at this
  | e :: es, p :: at_, k, W, x, hm => by
    obtain ⟨t, hk⟩ := x.key 0 e p (by simp) (by simp)
    have hv := x.val 0 e p (by simp) (by simp)
    by_cases q : p.1 = k
    · have : p = (k, W) := by
        rcases List.mem_cons.mp hm with e' | hm
        · exact e'.symm
        · have := (List.nodup_cons.mp (show (p.1 :: at_.map (·.1)).Nodup by simpa using x.nodup)).1
          exact absurd (List.mem_map.mpr ⟨_, hm, rfl⟩) (by rw [q] at this; exact this)
      subst this
      refine ⟨e.val, ?_, hv⟩
      unfold getL
      rw [List.find?_cons_of_pos (by rw [hk, isStr_lit]; simp)]
    · have hm : (k, W) ∈ at_ := by
        rcases List.mem_cons.mp hm with e' | hm
        · subst e'; exact absurd rfl q
        · exact hm
      obtain ⟨v, h1, h2⟩ := Ents.get x.tail hm
      refine ⟨v, ?_, h2⟩
      unfold getL at h1 ⊢
      rw [List.find?_cons_of_neg (by rw [hk, isStr_lit]; simpa using q)]
      have hr : e.refKey = false := by unfold DictEntry.refKey; rw [hk]
      rw [List.any_cons, hr, Bool.false_or]
      exact h1
theorem Ents.no {h : Heap} {M : Addr → Prop} : ∀ {es : List DictEntry} {at_ : List (Str × V)} {k : Str}, Ents h M es at_ → k ∉ at_.map (·.1) → getL k es = some none
  | [], _, _, _, _ => rfl
  | _ :: _, [], _, x, _ => by have := x.len; simp at this
  | e :: es, p :: at_, k, x, hm => by
    obtain ⟨t, hk⟩ := x.key 0 e p (by simp) (by simp)
    have q : p.1 ≠ k := fun e' => hm (by simp [e'])
    have h1 := Ents.no x.tail (k := k) fun z => hm (by simp at z ⊢; exact .inr z)
    unfold getL at h1 ⊢
    rw [List.find?_cons_of_neg (by rw [hk, isStr_lit]; simpa using q)]
    have hr : e.refKey = false := by unfold DictEntry.refKey; rw [hk]
    rw [List.any_cons, hr, Bool.false_or]
    exact h1
noncomputable def ownName (K : Frag) (C : Addr) (x : Str) : Bool := plainGet K C x && hasDictIn K C && (match findIn K (.ref C) x with | some a => noGet K a | none => false)
theorem handed_rep {h : Heap} {M : Addr → Prop} {v : Value} {W : V} (r : Rep h M v W) : handedIn v = true := by cases r <;> rfl
theorem fr_base (c : Cx) {Z : Addr → Prop} {h : Heap} (a : HA c.base Z H h) : c.K.In h := c.X.keeps a.keep
theorem EV.attr {o : Expr} {x : Str} {p : Pos} {Q : V → Hp → Prop} (h : EV c n env m H o fun W H' => ∃ C at_ X, IsO H' W C at_ ∧ (x, X) ∈ at_ ∧ ownName c.K C x = true ∧ Q X H')
    (hs : eval (o.Attribute x p) env = (do let v ← eval o env; standAt p.atName; let r ← holding [v] (getAttr v x true); letTemporaryGo o v r; pure r) := by with_unfolding_all rfl) : EV c n env m H (.Attribute o x p) Q := fun A s Z ro a v => by
  refine Attribute_any_ (h.then ro a v fun vo s₁ Wo H₁ ra a₁ v₁ k₁ q₁ => ?_) hs
  obtain ⟨C, at_, X, io, hm, hn, q⟩ := q₁
  obtain ⟨b, dx, es, nn, rfl, hb, hd, en⟩ := io.rep a₁ ra
  obtain ⟨val, hg, rv⟩ := en.get hm
  unfold ownName at hn
  rw [Bool.and_eq_true, Bool.and_eq_true] at hn
  obtain ⟨⟨h1, h2⟩, h3⟩ := hn
  split at h3
  · rename_i attr ha
    refine get_value (fr_base c a₁) (x := b) (C := C) (od := some (dictOf es nn)) ⟨hb, rfl, rfl, hd⟩ (plainGet_of h1).1 (findObj_own h2 ha h3 hg) (handed_rep rv) ⟨X, H₁, rv, a₁, k₁.trans Kp.tok, q⟩
  · cases h3
end Mine
end PartC6
section PartC7
open PySem PySem.W PyProof.Rows PySem.Calls
namespace Mine
variable {c : Cx} {n : Nat} {env : Env} {m : Vm} {H : Hp}
inductive Fl where
  | next
  | brk
  | cont
  | ret (W : V)
inductive FlRep (h : Heap) (M : Addr → Prop) : Flow → Fl → Prop
  | next : FlRep h M .next .next
  | brk : FlRep h M .brk .brk
  | cont : FlRep h M .cont .cont
  | ret {v : Value} {W : V} (r : Rep h M v W) : FlRep h M (.ret v) (.ret W)
theorem FlRep.mono {h h' : Heap} {M M' : Addr → Prop} (k : Stays h h' M M') {f : Flow} {F : Fl} (r : FlRep h M f F) : FlRep h' M' f F := by
  cases r with
  | next => exact .next
  | brk => exact .brk
  | cont => exact .cont
  | ret r => exact .ret (r.mono k)
inductive PostS (c : Cx) (Z : Addr → Prop) (env : Env) (H : Hp) (s : Shared) (Q : Fl → Vm → Hp → Prop) (f : Flow) (s' : Shared) : Prop
  | mk (F : Fl) (m' : Vm) (H' : Hp) (r : FlRep s'.heap (Mut Z H') f F) (a : HA c.base Z H' s'.heap) (v : VA c.base Z env m' (Mut Z H') s'.heap) (k : Kp (Own env) H H' s s') (q : Q F m' H')
theorem PostS.pre {Z : Addr → Prop} {H₁ : Hp} {s s₁ : Shared} {Q : Fl → Vm → Hp → Prop} {f : Flow} {s' : Shared} (k : Kp (Own env) H H₁ s s₁) (p : PostS c Z env H₁ s₁ Q f s') : PostS c Z env H s Q f s' :=
  let ⟨F, m', H', r, a, v, k', q⟩ := p; ⟨F, m', H', r, a, v, k.trans k', q⟩
noncomputable def ST (c : Cx) (n : Nat) (env : Env) (m : Vm) (H : Hp) (st : Stmt) (Q : Fl → Vm → Hp → Prop) : Prop :=
  ∀ A s Z, Room A n → HA c.base Z H s.heap → VA c.base Z env m (Mut Z H) s.heap → wpAny (model c.prog c.w) A (exec st env) (PostS c Z env H s Q) ff s
noncomputable def SX (c : Cx) (n : Nat) (env : Env) (m : Vm) (H : Hp) (st : List Stmt) (Q : Fl → Vm → Hp → Prop) : Prop :=
  ∀ A s Z, Room A n → HA c.base Z H s.heap → VA c.base Z env m (Mut Z H) s.heap → wpAny (model c.prog c.w) A (execs st env) (PostS c Z env H s Q) ff s
theorem Kp.no {O : Addr → Prop} {H H' : Hp} {s s' : Shared} (x : Kp No H H' s s') : Kp O H H' s s' := x.weaken fun _ f => f.elim
theorem SX.mono {st : List Stmt} {Q Q' : Fl → Vm → Hp → Prop} (x : SX c n env m H st Q) (k : ∀ F m' H', Q F m' H' → Q' F m' H') : SX c n env m H st Q' := fun A s Z r a v =>
  wpAny_mono (x A s Z r a v) (fun _ _ ⟨F, m', H', f, a, v, kk, q⟩ => ⟨F, m', H', f, a, v, kk, k F m' H' q⟩) fun _ _ f => f
theorem SX.nil {Q : Fl → Vm → Hp → Prop} (h : Q .next m H) : SX c n env m H [] Q := fun A s Z r a v => wpAny_execs_nil ⟨.next, m, H, .next, a, v, Kp.refl, h⟩
theorem SX.cons {st : Stmt} {r : List Stmt} {Q : Fl → Vm → Hp → Prop} (h : ST c n env m H st fun F m' H' => match F with | .next => SX c n env m' H' r Q | F => Q F m' H') : SX c n env m H (st :: r) Q := fun A s Z ro a v =>
  wpAny_execs_cons (wpAny_mono (h A s Z ro a v) (fun f s' ⟨F, m', H', fr, a', v', k, q⟩ => by
    cases fr with
    | next => exact wpAny_mono (q A s' Z ro a' v') (fun _ _ p => PostS.pre k p) fun _ _ f => f
    | brk => exact ⟨.brk, m', H', .brk, a', v', k, q⟩
    | cont => exact ⟨.cont, m', H', .cont, a', v', k, q⟩
    | ret r => exact ⟨.ret _, m', H', .ret r, a', v', k, q⟩) fun _ _ f => f)
theorem ST.ret {e : Expr} {p : Pos} {Q : Fl → Vm → Hp → Prop} (h : EV c n env m H e fun W H' => Q (.ret W) m H') : ST c n env m H (.Return (some e) p) Q := fun A s Z ro a v =>
  wpAny_Return_some (h.then ro a v fun v' s' W H' r a' va k q => ⟨.ret W, m, H', .ret r, a', va, k.no, q⟩)
theorem ST.retNone {p : Pos} {Q : Fl → Vm → Hp → Prop} (h : Q (.ret .none) m H) : ST c n env m H (.Return none p) Q := fun A s Z ro a v =>
  wpAny_Return_none ⟨.ret .none, m, H, .ret .none, a, v, Kp.refl, h⟩
theorem ST.pass {p : Pos} {Q : Fl → Vm → Hp → Prop} (h : Q .next m H) : ST c n env m H (.Pass p) Q := fun A s Z ro a v => wpAny_Pass ⟨.next, m, H, .next, a, v, Kp.refl, h⟩
theorem ST.ite {t : Expr} {b o : List Stmt} {p : Pos} {Q : Fl → Vm → Hp → Prop} (h : TT c n env m H t fun x H' => if x = true then SX c n env m H' b Q else SX c n env m H' o Q) : ST c n env m H (.If t b o p) Q := fun A s Z ro a v =>
  wpAny_If (h.then ro a v fun x s' H' a' v' k' q => by
    cases x with
    | true => rw [if_pos rfl] at q ⊢; exact wpAny_mono (q A s' Z ro a' v') (fun _ _ p => PostS.pre k'.no p) fun _ _ f => f
    | false => rw [if_neg (by decide)] at q ⊢; exact wpAny_mono (q A s' Z ro a' v') (fun _ _ p => PostS.pre k'.no p) fun _ _ f => f)
theorem ST.expr {e : Expr} {p : Pos} {Q : Fl → Vm → Hp → Prop} (h : EV c n env m H e fun W H' => Q .next m H') (hi : interactive env = false := by rfl) (hs : swapsWith e none p.line env = pure false := by rfl) : ST c n env m H (.Expr e p) Q := fun A s Z ro a v =>
  wpAny_Expr_any (h.then ro a v fun v' s' W H' r a' va k q => ⟨.next, m, H', .next, a', va, k.no, q⟩) hi hs
inductive Upd (x : Str) (W : V) : Vm → Vm → Prop
  | hit {W₀ : Option V} {m : Vm} : Upd x W ((x, W₀) :: m) ((x, some W) :: m)
  | miss {p : Str × Option V} {m m' : Vm} (h : Upd x W m m') : Upd x W (p :: m) (p :: m')
theorem Upd.keys {x : Str} {W : V} {m m' : Vm} (u : Upd x W m m') : m'.map (·.1) = m.map (·.1) := by
  induction u with
  | hit => rfl
  | miss _ ih => simp [ih]
theorem Upd.mem {x : Str} {W : V} {m m' : Vm} (u : Upd x W m m') : (x, some W) ∈ m' := by
  induction u with
  | hit => exact .head _
  | miss _ ih => exact .tail _ ih
theorem Upd.old {x : Str} {W : V} {m m' : Vm} (u : Upd x W m m') (nd : (m.map (·.1)).Nodup) : ∀ y Y, (y, Y) ∈ m' → (y = x ∧ Y = some W) ∨ (y ≠ x ∧ (y, Y) ∈ m) := by
  induction u with
  | hit =>
    intro y Y hm
    rcases List.mem_cons.mp hm with e | hm
    · cases e; exact .inl ⟨rfl, rfl⟩
    · exact .inr ⟨fun e => (List.nodup_cons.mp nd).1 (List.mem_map.mpr ⟨_, hm, e⟩), .tail _ hm⟩
  | miss h ih =>
    intro y Y hm
    have nd' := List.nodup_cons.mp nd
    rcases List.mem_cons.mp hm with e | hm
    · subst e
      refine .inr ⟨fun e => nd'.1 ?_, .head _⟩
      have := List.mem_map_of_mem (f := fun p : Str × Option V => p.1) h.mem
      rw [h.keys] at this
      show y ∈ _
      rw [e]; exact this
    · exact (ih nd'.2 y Y hm).imp id fun ⟨a, b⟩ => ⟨a, .tail _ b⟩
theorem Upd.was {x : Str} {W : V} {m m' : Vm} (u : Upd x W m m') : ∃ W₀, (x, W₀) ∈ m := by
  induction u with
  | hit => exact ⟨_, .head _⟩
  | miss _ ih => obtain ⟨w, h⟩ := ih; exact ⟨w, .tail _ h⟩
theorem store {Z : Addr → Prop} {A : Around} {s : Shared} {x : Str} {v : Value} {W : V} {m' : Vm} {P : Unit → Shared → Prop} (a : HA c.base Z H s.heap) (va : VA c.base Z env m (Mut Z H) s.heap) (r : Rep s.heap (Mut Z H) v W) (u : Upd x W m m')
    (hst : env.func ≠ none ∨ env.kindOf x = some .local)
    (h : ∀ s', HA c.base Z H s'.heap → VA c.base Z env m' (Mut Z H) s'.heap → Kp (Own env) H H s s' → Stays s.heap s'.heap (Mut Z H) (Mut Z H) → P () s') : wpAny (model c.prog c.w) A (storeName env x v) P ff s := by
  obtain ⟨W₀, hm⟩ := u.was
  -- one address of the frame's own is written
  have main : ∀ (L : Addr) (h' : Heap) (t : Nat), Own env L → Heap.SameBut L s.heap h' → (∃ o, h'.get? L = some o) →
      (∀ y Y, (y, Y) ∈ m' → env.kindOf y = some .local ∨ ((env.kindOf y = some .cell ∨ env.kindOf y = some .free) ∧ ∃ c v, env.cells.lookup y = some c ∧ h'.IsCell c v)) →
      (∃ f, h'.Ns env.locals f) → (∀ y Y, (y, some Y) ∈ m' → VarAt h' (Mut Z H) env y Y) → P () { s with heap := h', toks := t } := by
    intro L h' t ho hs hex hdom hns hvar
    have zL := va.own L ho
    have nL : H L = none := by
      cases q : H L with
      | none => rfl
      | some d => exact absurd zL (a.off L (by rw [q]; simp)).1
    have k : ∀ b o, b ≠ L → s.heap.get? b = some o → h'.get? b = some o := fun b o q e => (hs.2 b q).trans e
    have st : Stays s.heap h' (Mut Z H) (Mut Z H) := fun b o e q => ⟨k b o (fun z => q (.inl (z ▸ zL))) e, q⟩
    refine h _ ⟨fun b o e => k b o (fun z => a.zoff b o (z ▸ zL) e) (a.keep b o e), fun b d e => (a.cell b d e).mono st fun o e' => k b o (fun z => by rw [z, nL] at e; cases e) e', a.off, a.low, fun b z => ?_, a.zoff⟩
      { va with
        ns := hns
        nodup := by rw [u.keys]; exact va.nodup
        dom := hdom
        var := hvar
        dbg := fun y Y hy => (u.old va.nodup y Y hy).elim (fun ⟨e, _⟩ => e ▸ va.dbg x W₀ hm) fun ⟨_, q⟩ => va.dbg y Y q
        cls := fun y Y hy => (u.old va.nodup y Y hy).elim (fun ⟨e, _⟩ => e ▸ va.cls x W₀ hm) fun ⟨_, q⟩ => va.cls y Y q
        sto := fun y Y hy => (u.old va.nodup y Y hy).elim (fun ⟨e, _⟩ => e ▸ va.sto x W₀ hm) fun ⟨_, q⟩ => va.sto y Y q }
      ⟨fun b o e _ q => k b o (fun z => q (z ▸ ho)) e, fun _ _ _ e => e, fun b o e => ?_, rfl, rfl⟩ st
    · by_cases q : b = L
      · subst q; exact hex
      · obtain ⟨o, ho⟩ := a.zin b z; exact ⟨o, k b o q ho⟩
    · by_cases q : b = L
      · subst q; exact hex
      · exact ⟨o, k b o q e⟩
  rcases va.dom x W₀ hm with hk | ⟨hk | hk, cc, v₀, hc, hv⟩
  · obtain ⟨f, hn⟩ := va.ns
    refine wpAny_storeName_local hk hn (fun h' hn' hs' => ?_) (by rw [va.kind]; rfl)
    have zl : Z env.locals := va.own _ (.inl rfl)
    have ob : ∃ o, h'.get? env.locals = some o := let ⟨o, _, _, e, _⟩ := hn'; ⟨o, e⟩
    have notc : ∀ d w, s.heap.IsCell d w → d ≠ env.locals := fun d w ⟨o, e, q⟩ z => by
      obtain ⟨o', es, ep, e', q', _⟩ := hn
      rw [z, e'] at e; cases e; rw [q'] at q; cases q
    have st : Stays s.heap h' (Mut Z H) (Mut Z H) := fun b o e q => ⟨(hs'.2 b fun z => q (.inl (z ▸ zl))).trans e, q⟩
    refine main env.locals h' _ (.inl rfl) hs' ob (fun y Y hy => ?_) ⟨_, hn'⟩ fun y Y hy => ?_
    · rcases u.old va.nodup y Y hy with ⟨e, _⟩ | ⟨_, q⟩
      · exact .inl (e ▸ hk)
      · exact (va.dom y Y q).imp id fun ⟨b, d, w, e, z⟩ => ⟨b, d, w, e, z.sameBut hs' (notc d w z)⟩
    · rcases u.old va.nodup y (some Y) hy with ⟨e, e'⟩ | ⟨ne, q⟩
      · cases e'; subst e
        exact ⟨v, r.mono st, .inl ⟨hk, _, hn', by simp⟩⟩
      · obtain ⟨v₁, r₁, z⟩ := va.var y Y q
        refine ⟨v₁, r₁.mono st, z.imp (fun ⟨b, f', n', e⟩ => ⟨b, _, hn', ?_⟩) fun ⟨b, d, e, z⟩ => ⟨b, d, e, z.sameBut hs' (notc d _ z)⟩⟩
        have : f' y = f y := by
          obtain ⟨o1, es1, ep1, e1, d1, _, f1⟩ := n'
          obtain ⟨o2, es2, ep2, e2, d2, _, f2⟩ := hn
          rw [e1] at e2; cases e2; rw [d1] at d2; cases d2
          rw [← f1, ← f2]
        simp only [if_neg ne]
        rw [← this]; exact e
  · have hz : Own env cc := .inr ⟨hst.elim id fun q => (by rw [hk] at q; cases q), x, hk, hc⟩
    have zl : Z cc := va.own _ hz
    refine wpAny_storeName_cell va.kind hk hc hv fun h' hv' hs' => ?_
    have ob : ∃ o, h'.get? cc = some o := let ⟨o, e, _⟩ := hv'; ⟨o, e⟩
    have nl : env.locals ≠ cc := fun z => by
      obtain ⟨f, o', es, ep, e', q', _⟩ := va.ns
      obtain ⟨o, e, q⟩ := hv
      rw [← z, e'] at e; cases e; rw [q'] at q; cases q
    have st : Stays s.heap h' (Mut Z H) (Mut Z H) := fun b o e q => ⟨(hs'.2 b fun z => q (.inl (z ▸ zl))).trans e, q⟩
    refine main cc h' s.toks hz hs' ob (fun y Y hy => ?_) (let ⟨f, hn⟩ := va.ns; ⟨f, hn.sameBut hs' nl⟩) fun y Y hy => ?_
    · rcases u.old va.nodup y Y hy with ⟨e, _⟩ | ⟨ne, q⟩
      · subst e; exact .inr ⟨.inl hk, cc, _, hc, hv'⟩
      · exact (va.dom y Y q).imp id fun ⟨b, d, w, e, z⟩ => ⟨b, d, w, e, z.sameBut hs' fun z' => ne (va.inj y x cc (z' ▸ e) hc)⟩
    · rcases u.old va.nodup y (some Y) hy with ⟨e, e'⟩ | ⟨ne, q⟩
      · cases e'; subst e
        exact ⟨v, r.mono st, .inr ⟨.inl hk, cc, hc, hv'⟩⟩
      · obtain ⟨v₁, r₁, z⟩ := va.var y Y q
        exact ⟨v₁, r₁.mono st, z.imp (fun ⟨b, f', n', e⟩ => ⟨b, f', n'.sameBut hs' nl, e⟩) fun ⟨b, d, e, z⟩ => ⟨b, d, e, z.sameBut hs' fun z' => ne (va.inj y x cc (z' ▸ e) hc)⟩⟩
  · exact hst.elim (fun q => absurd hk (va.sto x W₀ hm q)) fun q => by rw [hk] at q; cases q
end Mine
end PartC7
section PartC8
open PySem PySem.W PyProof.Rows PySem.Calls Builtin Builtin.ObjectAttr Builtin.Getset_descriptor
namespace Mine
variable {c : Cx} {n : Nat} {env : Env} {m : Vm} {H : Hp}
section
variable {prog : Program} {w : World} {A : Around} {K : Frag} {C x : Addr} {s : Shared} {R : Result → Shared → Prop}
theorem osa_own {ox od od' : Obj} {dx : Addr} {name : Str} {tk : Tok} {v : Value} {es : List DictEntry} {n : Nat} (X : K.In s.heap)
    (I : W.InstAt s.heap x ox C (some od)) (hd : ox.dict = some dx) (hp : plainOver K C = true) (ht : takerIn K C name = some none) (hh : (clsIn K C).any (·.hasDict) = true)
    (hl : (lookIn name od).isSome = true) (e : Obj.putName name (PyData.keyHash w.params name) (.str name s.toks) v od = od') (e' : od'.data = .dict es.toArray n) (hz : es.length ≤ 1000)
    (h : (s.heap.update dx (Obj.putName name (PyData.keyHash w.params name) (.str name s.toks) v)).get? dx = some od' →
      R (.ok (.ret .none)) { s with heap := s.heap.update dx (Obj.putName name (PyData.keyHash w.params name) (.str name s.toks) v), toks := s.toks + 1 }) :
    codeAny (model prog w) A (.call (.builtin "object.__setattr__") ⟨[.ref x, .str name tk, v], []⟩) R s := by
  refine osa_open X I hp ht fun b => ?_
  obtain ⟨cd, hc, hd'⟩ := any_some hh
  obtain ⟨hx, hcl, hn, hD⟩ := I
  obtain ⟨oc, odi, oda, osl⟩ := ox
  dsimp only at hcl hd hD
  subst hcl hd
  have D : s.heap.get? dx = some od := hD
  have D' : (s.heap.update dx (Obj.putName name (PyData.keyHash w.params name) (.str name s.toks) v)).get? dx = some od' := by
    rw [← e]
    refine Heap.get?_update_self _ D ?_
    rw [e]
    obtain ⟨_, _, dd, _⟩ := od'; cases e'; rfl
  refine wpAny_bind (wpAny_pure (wpAny_bind (wpAny_bind (wpAny_loadPart hx (wpAny_bind ((looks_clsIn X hc).here ?_))))))
  rw [hd']
  refine wpAny_pure (a := some dx) (wpAny_bind (wpAny_pure (wpAny_bind ?_)))
  unfold nsSet
  refine wpAny_bind (wpAny_bind (wpAny_askSetting (wpAny_pure (wpAny_bind (wpAny_mkText (wpAny_bind (wpAny_loadPart D ?_)))))))
  unfold lookIn at hl
  split at hl
  · rename_i es₀ n₀ q
    rw [q]
    dsimp only
    have cc : (!es₀.any (·.key.isStr name) && es₀.any (·.refKey)) = false := by
      rw [← Array.any_toList, ← Array.any_toList]
      split at hl
      · rename_i en he
        rw [List.any_eq_true.mpr ⟨en, List.mem_of_find?_eq_some he, List.find?_some he⟩]; rfl
      · split at hl
        · cases hl
        · rename_i z; rw [Bool.not_eq_true] at z; rw [z, Bool.and_false]
    rw [aRefKeyMayBeTheName_at, cc]
    refine wpAny_updatePart D ?_
    refine wpAny_bind (wpAny_lookBehind D' (by rw [e']; exact pastItsLine_dict (by rw [List.size_toArray, sizeLine_eq]; lia)) ?_)
    exact wpAny_pure (h D')
  · cases hl
end
inductive UpdH (x : Str) (W : V) : List (Str × V) → List (Str × V) → Prop
  | hit {W₀ : V} {at_ : List (Str × V)} : UpdH x W ((x, W₀) :: at_) ((x, W) :: at_)
  | miss {p : Str × V} {at_ at' : List (Str × V)} (h : UpdH x W at_ at') : UpdH x W (p :: at_) (p :: at')
theorem UpdH.keys {x : Str} {W : V} {m m' : List (Str × V)} (u : UpdH x W m m') : m'.map (·.1) = m.map (·.1) := by
  induction u with
  | hit => rfl
  | miss _ ih => simp [ih]
theorem UpdH.len {x : Str} {W : V} {m m' : List (Str × V)} (u : UpdH x W m m') : m'.length = m.length := by
  have := congrArg List.length u.keys; simpa using this
theorem UpdH.mem {x : Str} {W : V} {m m' : List (Str × V)} (u : UpdH x W m m') : x ∈ m.map (·.1) := by
  induction u with
  | hit => simp
  | miss _ ih => simp at ih ⊢; exact .inr ih
theorem Ents.cons {h : Heap} {M : Addr → Prop} {e : DictEntry} {es : List DictEntry} {p : Str × V} {at_ : List (Str × V)} {t : Tok} (hk : e.key = .str p.1 t) (hv : Rep h M e.val p.2) (hn : p.1 ∉ at_.map (·.1)) (x : Ents h M es at_) : Ents h M (e :: es) (p :: at_) := by
  refine ⟨by simp [x.len], by simpa using List.nodup_cons.mpr ⟨hn, x.nodup⟩, fun i e' p' a b => ?_, fun i e' p' a b => ?_⟩
  · cases i with
    | zero => simp at a b; subst a b; exact ⟨t, hk⟩
    | succ i => exact x.key i e' p' (by simpa using a) (by simpa using b)
  · cases i with
    | zero => simp at a b; subst a b; exact hv
    | succ i => exact x.val i e' p' (by simpa using a) (by simpa using b)
theorem Ents.uncons {h : Heap} {M : Addr → Prop} {es : List DictEntry} {p : Str × V} {at_ : List (Str × V)} (x : Ents h M es (p :: at_)) : ∃ e r t, es = e :: r ∧ e.key = .str p.1 t ∧ Rep h M e.val p.2 ∧ p.1 ∉ at_.map (·.1) ∧ Ents h M r at_ := by
  cases es with
  | nil => have := x.len; simp at this
  | cons e r =>
    obtain ⟨t, hk⟩ := x.key 0 e p (by simp) (by simp)
    exact ⟨e, r, t, rfl, hk, x.val 0 e p (by simp) (by simp), (List.nodup_cons.mp (by simpa using x.nodup)).1, x.tail⟩
theorem Ents.hit {h : Heap} {M : Addr → Prop} {x : Str} {W : V} {at_ at' : List (Str × V)} (u : UpdH x W at_ at') : ∀ {es : List DictEntry} {hs : Int} {key v : Value}, Ents h M es at_ → Rep h M v W → Ents h M (putL x hs key v es) at' := by
  induction u with
  | hit =>
    intro es hs key v en r
    obtain ⟨e, q, t, rfl, hk, _, hn, en'⟩ := en.uncons
    have : putL x hs key v (e :: q) = ⟨e.hash, e.key, v⟩ :: q := by unfold putL; rw [if_pos (by rw [hk, isStr_lit]; simp)]
    rw [this]
    exact Ents.cons (t := t) hk r hn en'
  | @miss p at_ at' u ih =>
    intro es hs key v en r
    obtain ⟨e, q, t, rfl, hk, hv, hn, en'⟩ := en.uncons
    have ne : p.1 ≠ x := fun z => hn (z ▸ u.mem)
    have : putL x hs key v (e :: q) = e :: putL x hs key v q := by
      show (if e.key.isStr x then _ else e :: putL x hs key v q) = _
      rw [if_neg (by rw [hk, isStr_lit]; simpa using ne)]
    rw [this]
    exact Ents.cons (t := t) hk hv (by rw [u.keys]; exact hn) (ih en' r)
theorem Ents.add {h : Heap} {M : Addr → Prop} {x : Str} {W : V} {hs : Int} {tk : Tok} {v : Value} : ∀ {at_ : List (Str × V)} {es : List DictEntry}, Ents h M es at_ → Rep h M v W → x ∉ at_.map (·.1) → Ents h M (putL x hs (.str x tk) v es) (at_ ++ [(x, W)])
  | [], es, en, r, hn => by
    have : es = [] := List.length_eq_zero_iff.mp en.len
    subst this
    exact Ents.cons (t := tk) (p := (x, W)) rfl r (by simp) ⟨rfl, by simp, fun i e p a => by simp at a, fun i e p a => by simp at a⟩
  | p :: at_, es, en, r, hn => by
    obtain ⟨e, q, t, rfl, hk, hv, hn', en'⟩ := en.uncons
    have ne : p.1 ≠ x := fun z => hn (by simp [z])
    have : putL x hs (.str x tk) v (e :: q) = e :: putL x hs (.str x tk) v q := by
      show (if e.key.isStr x then _ else e :: putL x hs (.str x tk) v q) = _
      rw [if_neg (by rw [hk, isStr_lit]; simpa using ne)]
    rw [this]
    refine Ents.cons (t := t) hk hv ?_ (Ents.add en' r fun z => hn (by simp at z ⊢; exact .inr z))
    show ¬ p.1 ∈ (at_ ++ [(x, W)]).map (·.1)
    rw [List.map_append, List.mem_append]
    rintro (z | z)
    · exact hn' z
    · simp at z; exact ne z
noncomputable def setName (K : Frag) (C : Addr) (x : Str) : Bool := findIn K (.ref C) "__setattr__" == some (some (.builtin "object.__setattr__")) && plainOver K C && takerIn K C x == some none && hasDictIn K C
noncomputable def AttrPut (x : Str) (W : V) (at_ at' : List (Str × V)) : Prop := UpdH x W at_ at' ∨ (x ∉ at_.map (·.1) ∧ at' = at_ ++ [(x, W)])
theorem setattr {Z : Addr → Prop} {A : Around} {s : Shared} {x : Str} {v : Value} {W : V} {X C dx : Addr} {at_ at' : List (Str × V)} {P : Unit → Shared → Prop} (a : HA c.base Z H s.heap) (r : Rep s.heap (Mut Z H) v W)
    (hX : H X = some (.inst C dx)) (hd : H dx = some (.ns at_)) (u : AttrPut x W at_ at') (ho : setName c.K C x = true) (hz : at_.length ≤ 900)
    (h : ∀ s', HA c.base Z (H.set dx (.ns at')) s'.heap → Kp No H (H.set dx (.ns at')) s s' → P () s') : wpAny (model c.prog c.w) A (setAttr (.ref X) x v) P ff s := by
  unfold setName at ho
  simp only [Bool.and_eq_true, beq_iff_eq] at ho
  obtain ⟨⟨⟨h1, h2⟩, h3⟩, h4⟩ := ho
  have hx : s.heap.get? X = some (instObj C dx) := a.cell X _ hX
  obtain ⟨es, nn, hdx, en⟩ := a.cell dx _ hd
  have I : PySem.W.InstAt s.heap X (instObj C dx) C (some (dictOf es nn)) := ⟨hx, rfl, rfl, hdx⟩
  have hl : (lookIn x (dictOf es nn)).isSome = true := by
    rw [lookIn_dict]
    by_cases q : x ∈ at_.map (·.1)
    · obtain ⟨p, hp, rfl⟩ := List.mem_map.mp q
      obtain ⟨v', e, _⟩ := en.get (k := p.1) (W := p.2) hp
      rw [e]; rfl
    · rw [en.no q]; rfl
  have lz : (putL x (PyData.keyHash c.w.params x) (.str x (s.toks + 1)) v es).length ≤ 1000 := by
    have : (putL x (PyData.keyHash c.w.params x) (.str x (s.toks + 1)) v es).length ≤ es.length + 1 := by
      clear hdx en I hl
      induction es with
      | nil => simp [putL]
      | cons e q ih => unfold putL; split <;> simp <;> lia
    have := en.len; lia
  refine set_plain (fr_base c a) I h1 (osa_own (s := { s with toks := s.toks + 1 }) (fr_base c a) I rfl h2 h3 h4 hl (putName_dict _ _ _ _ _ _) rfl lz fun e => ?_)
  have k : ∀ b o, b ≠ dx → s.heap.get? b = some o → (s.heap.update dx (Obj.putName x (PyData.keyHash c.w.params x) (.str x (s.toks + 1)) v)).get? b = some o := fun b o q e => (Heap.get?_update_other _ _ (Ne.symm q)).trans e
  have nn' : H dx ≠ none := by rw [hd]; simp
  have st := a.stays_set (c := .ns at') (.inr nn') k
  refine h _ (a.put (.inr nn') k ⟨_, _, e, ?_⟩ (a.low dx nn')) (Kp.put (.inr nn') k ⟨_, e⟩)
  rcases u with u | ⟨hn, rfl⟩
  · exact Ents.hit u (en.mono st) (r.mono st)
  · exact Ents.add (en.mono st) (r.mono st) hn
theorem ST.setattr {o value : Expr} {x : Str} {p p' : Pos} {Q : Fl → Vm → Hp → Prop}
    (h : EV c n env m H value fun W H₁ => EV c n env m H₁ o fun O H₂ => ∃ X C dx at_ at', O = .ref X ∧ H₂ X = some (.inst C dx) ∧ H₂ dx = some (.ns at_) ∧ AttrPut x W at_ at' ∧ setName c.K C x = true ∧ at_.length ≤ 900 ∧ Q .next m (H₂.set dx (.ns at')))
    (hs : swapsWith value (some (o.Attribute x p')) p.line env = pure false := by rfl) : ST c n env m H (.Assign [.Attribute o x p'] value p) Q := fun A s Z ro a v => by
  refine plainObj_wpAny_Assign_Attribute (h.then ro a v fun vw s₁ W H₁ rw_ a₁ v₁ k₁ q₁ => q₁.then ro a₁ v₁ fun vo s₂ O H₂ ro' a₂ v₂ k₂ q₂ => ?_) hs
  obtain ⟨X, C, dx, at_, at', rfl, hX, hd, u, hn, hz, q⟩ := q₂
  cases ro'
  exact Mine.setattr a₂ (rw_.mono (k₂.stays fun _ f => f.elim)) hX hd u hn hz fun s' a' k' => ⟨.next, m, _, .next, a', v₂.step a₂ k', ((k₁.trans k₂).trans k').no, q⟩
end Mine
end PartC8
section PartC9
open PySem PySem.W PyProof.Rows PySem.Calls
namespace Mine
variable {c : Cx} {n : Nat} {env : Env} {m : Vm} {H : Hp}
inductive PostA (c : Cx) (Z : Addr → Prop) (env : Env) (H : Hp) (s : Shared) (Q : Vm → Hp → Prop) (u : Unit) (s' : Shared) : Prop
  | mk (m' : Vm) (H' : Hp) (a : HA c.base Z H' s'.heap) (v : VA c.base Z env m' (Mut Z H') s'.heap) (k : Kp (Own env) H H' s s') (q : Q m' H')
theorem PostA.pre {Z : Addr → Prop} {H₁ : Hp} {s s₁ : Shared} {Q : Vm → Hp → Prop} {f : Unit} {s' : Shared} (k : Kp (Own env) H H₁ s s₁) (p : PostA c Z env H₁ s₁ Q f s') : PostA c Z env H s Q f s' :=
  let ⟨m', H', a, v, k', q⟩ := p; ⟨m', H', a, v, k.trans k', q⟩
noncomputable def AS (c : Cx) (n : Nat) (env : Env) (m : Vm) (H : Hp) (t : Expr) (W : V) (Q : Vm → Hp → Prop) : Prop :=
  ∀ A s Z v, Room A n → HA c.base Z H s.heap → VA c.base Z env m (Mut Z H) s.heap → Rep s.heap (Mut Z H) v W → wpAny (model c.prog c.w) A (assign t env v) (PostA c Z env H s Q) ff s
noncomputable def AO (c : Cx) (n : Nat) (env : Env) : Vm → Hp → List Expr → List V → (Vm → Hp → Prop) → Prop
  | m, H, [], [], Q => Q m H
  | m, H, t :: ts, W :: Ws, Q => AS c n env m H t W fun m' H' => AO c n env m' H' ts Ws Q
  | _, _, _, _, _ => False
theorem AS.name {x : Str} {p : Pos} {W : V} {m' : Vm} {Q : Vm → Hp → Prop} (u : Upd x W m m') (h : Q m' H) (hst : env.func ≠ none ∨ env.kindOf x = some .local) : AS c n env m H (.Name x p) W Q := fun A s Z v ro a va r => by
  refine wpAny_assign_Name ?_
  exact store a va r u hst fun s' a' v' k' st => ⟨m', H, a', v', k', h⟩
noncomputable def plainEs : List Expr → Bool
  | [] => true
  | .Starred _ _ :: _ => false
  | _ :: r => plainEs r
theorem assignEach_plain : ∀ (ts : List Expr), plainEs ts = true → assignEach ts env = ts.map fun t => (false, assign t env)
  | [], _ => rfl
  | t :: r, h => by
    have hr : plainEs r = true := by cases t <;> first | exact h | cases h
    have : assignEach (t :: r) env = (false, assign t env) :: assignEach r env := by cases t <;> first | rfl | cases h
    rw [this, assignEach_plain r hr]; rfl
theorem AO.go {A : Around} {Z : Addr → Prop} (ro : Room A n) : ∀ (ts : List Expr) (Ws : List V) (m : Vm) (H : Hp) (Q : Vm → Hp → Prop) (s : Shared) (vs : List Value), AO c n env m H ts Ws Q → HA c.base Z H s.heap → VA c.base Z env m (Mut Z H) s.heap → Reps s.heap (Mut Z H) vs Ws →
    wpAny (model c.prog c.w) A (assignInOrder (ts.map fun t => assign t env) vs) (PostA c Z env H s Q) ff s
  | [], [], m, H, Q, s, vs, h, a, v, r => by rw [r.unnil]; exact wpAny_pure ⟨m, H, a, v, Kp.refl, h⟩
  | t :: ts, W :: Ws, m, H, Q, s, vs, h, a, v, r => by
    obtain ⟨x, xs, rfl, r1, r2⟩ := r.uncons
    show wpAny _ _ (do holding xs (assign t env x); assignInOrder (ts.map fun t => assign t env) xs) _ _ _
    refine wpAny_bind (wpAny_holding (wpAny_mono (h A s Z x ro a v r1) (fun _ s₁ p => ?_) fun _ _ f => f))
    obtain ⟨m₁, H₁, a₁, v₁, k₁, q₁⟩ := p
    refine wpAny_mono (AO.go ro ts Ws m₁ H₁ Q s₁ xs q₁ a₁ v₁ (r2.mono (k₁.stays v.own))) (fun _ _ p => PostA.pre k₁ p) fun _ _ f => f
  | [], _ :: _, _, _, _, _, _, h, _, _, _ => h.elim
  | _ :: _, [], _, _, _, _, _, h, _, _, _ => h.elim
noncomputable def IsS (H : Hp) (W : V) (vs : List V) : Prop := W = .tup vs ∨ IsL H W vs
theorem unpackV {A : Around} {Z : Addr → Prop} {s : Shared} {v : Value} {W : V} {Ws : List V} {k : Nat} {P : List Value → Shared → Prop} (ro : Room A n) (a : HA c.base Z H s.heap) (r : Rep s.heap (Mut Z H) v W) (hs : IsS H W Ws) (hk : k = Ws.length)
    (h : ∀ vs s', Reps s'.heap (Mut Z H) vs Ws → HA c.base Z H s'.heap → Kp No H H s s' → P vs s') : wpAny (model c.prog c.w) A (unpackItems v k none) P ff s := by
  have keep : ∀ h' : Heap, Heap.ExtBut s.heap.objs.size s.heap h' → ∀ b o, s.heap.get? b = some o → h'.get? b = some o := fun h' e b o q => e b o (Nat.ne_of_lt (Heap.lt_size q)) q
  rcases hs with rfl | hl
  · obtain ⟨t, items, rfl, ho, _, rs⟩ := Rep.tup_iff.mp r
    have hz : items.size = k := by rw [hk, ← rs.1]; simp
    rw [← hz]
    exact wpAny_unpackItems_tuple ro.handled ho fun h' e => h _ _ (rs.mono (a.stays (fun b o q _ => keep h' e b o q) fun _ _ _ q => q)) (a.grown (keep h' e)) (Kp.grown (keep h' e))
  · obtain ⟨t, items, rfl, ho, rs⟩ := hl.rep a r
    have hz : items.size = k := by rw [hk, ← rs.1]; simp
    rw [← hz]
    exact kun_itemsOf ro.handled ho.isList fun h' e => h _ _ (rs.mono (a.stays (fun b o q _ => keep h' e b o q) fun _ _ _ q => q)) (a.grown (keep h' e)) (Kp.grown (keep h' e))
theorem findIdx_plain (ts : List Expr) : List.findIdx? (fun x : Bool × (Value → Sem Unit) => x.1) (ts.map fun t => (false, assign t env)) = none := by
  rw [List.findIdx?_eq_none_iff]; intro x hx; obtain ⟨t, _, rfl⟩ := List.mem_map.mp hx; rfl
theorem AS.tuple {ts : List Expr} {k : Nat} {p : Pos} {W : V} {Ws : List V} {Q : Vm → Hp → Prop} (hs : IsS H W Ws) (hl : ts.length = Ws.length) (h : AO c n env m H ts Ws Q) (hp : plainEs ts = true := by rfl) : AS c n env m H (.Tuple ts k p) W Q := fun A s Z v ro a va r => by
  rw [assign_Tuple, assignEach_plain ts hp]
  refine wpAny_bind (wpAny_standAt ?_)
  unfold unpack
  rw [findIdx_plain]
  refine wpAny_bind (wpAny_holding (unpackV ro a r hs (by simpa using hl) fun vs s' rs a' k' => ?_))
  rw [List.map_map]
  exact wpAny_mono (AO.go ro ts Ws m H Q s' vs h a' (va.step a k') rs) (fun _ _ p => PostA.pre k'.no p) fun _ _ f => f
theorem ST.asg {x : Str} {value : Expr} {p p' : Pos} {Q : Fl → Vm → Hp → Prop} (h : EV c n env m H value fun W H' => ∃ m', Upd x W m m' ∧ Q .next m' H')
    (hs : swapsWith value (some (.Name x p')) p.line env = pure false := by rfl) (hf : env.func ≠ none := by exact Option.some_ne_none _) : ST c n env m H (.Assign [.Name x p'] value p) Q := fun A s Z ro a v =>
  wpAny_Assign_Name (EV.then h ro a v fun v' s₁ W H₁ r a₁ v₁ k₁ ⟨m', u, q⟩ => store a₁ v₁ r u (.inl hf) fun s' a' v' k' _ => ⟨.next, m', H₁, .next, a', v', k₁.no.trans k', q⟩) hs
theorem ST.unpack {ts : List Expr} {value : Expr} {k : Nat} {p p' : Pos} {Q : Fl → Vm → Hp → Prop} (h : EV c n env m H value fun W H' => AS c n env m H' (.Tuple ts k p') W fun m' H₂ => Q .next m' H₂)
    (hs : swapsWithSole [.Tuple ts k p'] value p.line env = pure false := by rfl) (hw : swappedStores [.Tuple ts k p'] value env = pure none := by with_unfolding_all rfl) : ST c n env m H (.Assign [.Tuple ts k p'] value p) Q := fun A s Z ro a v => by
  refine wpAny_Assign_stores (h.then ro a v fun v' s₁ W H₁ r a₁ v₁ k₁ q => ?_) hs hw
  show wpAny _ _ (assign (Expr.Tuple ts k p') env v') _ _ _
  exact wpAny_mono (q A s₁ Z v' ro a₁ v₁ r) (fun _ s' ⟨m', H', a', v', k', q⟩ => ⟨.next, m', H', .next, a', v', k₁.no.trans k', q⟩) fun _ _ f => f
noncomputable def AN (c : Cx) (n : Nat) (env : Env) (m : Vm) : List Str → List V → (Vm → Prop) → Prop
  | [], [], Q => Q m
  | x :: xs, W :: Ws, Q => ∃ m', Upd x W m m' ∧ AN c n env m' xs Ws Q
  | _, _, _ => False
theorem AN.go {A : Around} {Z : Addr → Prop} (hf : env.func ≠ none) : ∀ (xs : List Str) (Ws : List V) (m : Vm) (Q : Vm → Prop) (s : Shared) (vs : List Value), AN c n env m xs Ws Q → HA c.base Z H s.heap → VA c.base Z env m (Mut Z H) s.heap → Reps s.heap (Mut Z H) vs Ws →
    wpAny (model c.prog c.w) A (assignInOrder (xs.map fun x => bindName env x) vs) (PostA c Z env H s fun m' H' => H' = H ∧ Q m') ff s
  | [], [], m, Q, s, vs, h, a, v, r => by rw [r.unnil]; exact wpAny_pure ⟨m, H, a, v, Kp.refl, rfl, h⟩
  | t :: ts, W :: Ws, m, Q, s, vs, h, a, v, r => by
    obtain ⟨x, xs, rfl, r1, r2⟩ := r.uncons
    obtain ⟨m₁, u, q₁⟩ := h
    show wpAny _ _ (do holding xs (bindName env t x); assignInOrder (ts.map fun t => bindName env t) xs) _ _ _
    refine wpAny_bind (wpAny_holding (wpAny_bindName (store a v r1 u (.inl hf) fun s₁ a₁ v₁ k₁ st => ?_)))
    exact wpAny_mono (AN.go hf ts Ws m₁ Q s₁ xs q₁ a₁ v₁ (r2.mono st)) (fun _ _ p => PostA.pre k₁ p) fun _ _ f => f
  | [], _ :: _, _, _, _, _, h, _, _, _ => h.elim
  | _ :: _, [], _, _, _, _, h, _, _, _ => h.elim
theorem ST.swap {ts : List Expr} {value : Expr} {k : Nat} {names : List Str} {p p' : Pos} {Q : Fl → Vm → Hp → Prop} (hw : swappedStores [.Tuple ts k p'] value env = pure (some names))
    (h : EV c n env m H value fun W H' => ∃ Ws, W = .tup Ws ∧ Ws.length = names.length ∧ AN c n env m names.reverse Ws.reverse fun m' => Q .next m' H')
    (hs : swapsWithSole [.Tuple ts k p'] value p.line env = pure false := by rfl) (hf : env.func ≠ none := by exact Option.some_ne_none _) : ST c n env m H (.Assign [.Tuple ts k p'] value p) Q := fun A s Z ro a v => by
  rw [exec_Assign_arm]
  refine wpAny_bind (wpAny_standAt ?_)
  rw [hs]
  refine wpAny_bind (wpAny_pure ?_)
  rw [if_neg (by decide)]
  refine wpAny_bind (h.then ro a v fun v' s₁ W H₁ r a₁ v₁ k₁ q => ?_)
  obtain ⟨Ws, rfl, hl, q⟩ := q
  rw [hw]
  refine wpAny_bind (wpAny_pure ?_)
  show wpAny _ _ (do rule "assign.swapped-stores"; let items ← unpackItems v' names.length none; assignInOrder (names.reverse.map fun n => bindName env n) items.reverse; pure Flow.next : Sem Flow) _ _ _
  refine wpAny_bind (wpAny_rule (wpAny_bind (unpackV ro a₁ r (.inl rfl) hl.symm fun vs s₂ rs a₂ k₂ => ?_)))
  have rr : Reps s₂.heap (Mut Z H₁) vs.reverse Ws.reverse := ⟨by simp [rs.1], fun i x X e e' => by
    have h1 := (List.getElem?_eq_some_iff.mp e).1
    rw [List.getElem?_reverse (by simpa using h1)] at e
    rw [List.getElem?_reverse (by rw [← rs.1]; simpa using h1)] at e'
    exact rs.2 _ x X e (by rw [rs.1]; exact e')⟩
  refine wpAny_bind (wpAny_mono (AN.go (n := n) hf names.reverse Ws.reverse m _ s₂ vs.reverse q a₂ (v₁.step a₁ k₂) rr) (fun _ s' p => ?_) fun _ _ f => f)
  obtain ⟨m', H', a', v', k', rfl, q⟩ := p
  exact wpAny_pure ⟨.next, m', _, .next, a', v', (k₁.trans k₂).no.trans k', q⟩
theorem setItem_plain {prog : Program} {w : World} {A : Around} {E : Value → Shared → Prop} {s : Shared} {l : Addr} {items : Array Value} {k : Int} {t : Tok} {v : Value} {Q : Unit → Shared → Prop} (hp : s.heap.PlainList l items)
    (h0 : 0 ≤ k) (hfit : k < 2 ^ 63) (hn : k < items.size)
    (hQ : ∀ h', h'.PlainList l (items.setIfInBounds k.toNat v) → Heap.SameBut l s.heap h' → Q () { s with heap := h' }) :
    wpAny (model prog w) A (setItem (.ref l) (.int k t) v) Q E s := by
  have hl := hp.isList
  obtain ⟨ne, ho⟩ := hp
  unfold setItem
  try with_reducible refine wpAny_holding ?_
  first | refine wpAny_bind (wpAny_pure ?_) | skip
  refine wpAny_bind (wpAny_sequenceKey hl.typeIs (by decide) ?_)
  refine wpAny_bind (wpAny_callSpecial?_slot (name := Str.ofString "__setitem__") hl.typeIs slot_list_setitem
    (wpAny_call_entry slot_list_setitem hl.typeIs entry_list_setitem ?_ (args_list_setitem _ _ _)))
  show wpAny _ _ (Builtin.List.listSubscript? (.int k t) >>= _) _ _ s
  refine wpAny_bind (wpAny_listSubscript_int (fitsIndex_of h0 hfit) ?_)
  clear hfit
  obtain ⟨j, rfl⟩ := Int.eq_ofNat_of_zero_le h0
  have hj : j < items.size := by lia
  have hx' : items[j]? = some items[j] := Array.getElem?_eq_getElem hj
  show wpAny _ _ ((seqItemAt l j >>= fun r => pure (r.map (j, ·))) >>= _) _ _ s
  refine wpAny_bind (wpAny_bind (wpAny_seqItemAt ho rfl (wpAny_pure ?_)))
  rw [hx']
  show wpAny _ _ (setSeqItemAt l j v >>= _) _ _ s
  have hfin : (s.heap.update l (Obj.mapSeq (·.setIfInBounds j v))).PlainList l (items.setIfInBounds j v) :=
    ⟨_, Heap.get?_update_self _ ho rfl⟩
  refine wpAny_bind (wpAny_setSeqItemAt ho rfl ?_)
  first
    | exact wpAny_bind (wpAny_pure (wpAny_pure ⟨.none, rfl, wpAny_pure (hQ _ hfin (Heap.SameBut.update ..))⟩))
    | exact wpAny_pure ⟨.none, rfl, wpAny_pure (hQ _ hfin (Heap.SameBut.update ..))⟩
theorem putL' {Z : Addr → Prop} {s : Shared} {b : Addr} {vs : List V} {Ws : List V} {items : Array Value} {h' : Heap} {t : Nat} (a : HA c.base Z H s.heap) (hb : H b = some (.list vs)) (hp : h'.PlainList b items) (hs : ∀ x d, x ≠ b → s.heap.get? x = some d → h'.get? x = some d)
    (hr : Reps s.heap (Mut Z H) items.toList Ws) : HA c.base Z (H.set b (.list Ws)) h' ∧ Kp No H (H.set b (.list Ws)) s { s with heap := h', toks := t } ∧ Stays s.heap h' (Mut Z H) (Mut Z (H.set b (.list Ws))) := by
  have nn : H b ≠ none := by rw [hb]; simp
  have st := a.stays_set (c := .list Ws) (.inr nn) hs
  obtain ⟨k, e⟩ := id hp
  exact ⟨a.put (.inr nn) hs ⟨items, hp, hr.mono st⟩ (a.low b nn), Kp.put (.inr nn) hs ⟨_, e⟩, st⟩
theorem ST.setitem {o i value : Expr} {p p' : Pos} {Q : Fl → Vm → Hp → Prop}
    (h : EV c n env m H value fun W H₁ => EV c n env m H₁ o fun O H₂ => EV c n env m H₂ i fun I H₃ => ∃ a vs k, O = .ref a ∧ H₃ a = some (.list vs) ∧ I = .int k ∧ 0 ≤ k ∧ k < vs.length ∧ k < 2 ^ 63 ∧ Q .next m (H₃.set a (.list (vs.set k.toNat W))))
    (hs : swapsWith value (some (o.Subscript i p')) p.line env = pure false := by rfl) : ST c n env m H (.Assign [.Subscript o i p'] value p) Q := fun A s Z ro a v => by
  refine wpAny_Assign_Subscript (h.then ro a v fun vw s₁ W H₁ rw_ a₁ v₁ k₁ q₁ => q₁.then ro a₁ v₁ fun vo s₂ O H₂ ro' a₂ v₂ k₂ q₂ => q₂.then ro a₂ v₂ fun vi s₃ I H₃ ri a₃ v₃ k₃ q₃ => ?_) hs
  obtain ⟨b, vs, k, rfl, hb, rfl, h0, h1, h2, q⟩ := q₃
  (first | obtain ⟨_, rfl⟩ := Rep.I ro' | obtain rfl := Rep.R ro' | obtain rfl := Rep.B ro' | obtain rfl := Rep.N ro' | obtain ⟨_, rfl⟩ := Rep.S ro'); (first | obtain ⟨_, rfl⟩ := Rep.I ri | obtain rfl := Rep.R ri | obtain rfl := Rep.B ri | obtain rfl := Rep.N ri | obtain ⟨_, rfl⟩ := Rep.S ri)
  obtain ⟨items, ho, rs⟩ := a₃.cell b _ hb
  have hz : items.size = vs.length := by rw [← rs.1]; simp
  refine setItem_plain ho h0 h2 (by lia) fun h' hl' hs' => ?_
  have rw3 := (rw_.mono (k₂.stays fun _ f => f.elim)).mono (k₃.stays fun _ f => f.elim)
  obtain ⟨a₄, k₄, _⟩ := putL' (t := s₃.toks) a₃ hb hl' (fun x d q e => (hs'.2 x q).trans e) (Ws := vs.set k.toNat W) (by simpa using rs.set k.toNat rw3)
  exact ⟨.next, m, _, .next, a₄, v₃.step a₃ k₄, (((k₁.trans k₂).trans k₃).trans k₄).no, q⟩
theorem Reps.get' {h : Heap} {M : Addr → Prop} {v : Value} {W : V} {k : Int} : ∀ {g : List (Int × Value)} {kv : List (Int × V)}, g.map (·.1) = kv.map (·.1) → Reps h M (g.map (·.2)) (kv.map (·.2)) → Rep h M v W →
    (g.map fun p => if p.1 = k then (p.1, v) else p).map (·.1) = (kv.map fun p => if p.1 = k then (p.1, W) else p).map (·.1) ∧ Reps h M ((g.map fun p => if p.1 = k then (p.1, v) else p).map (·.2)) ((kv.map fun p => if p.1 = k then (p.1, W) else p).map (·.2))
  | [], [], _, _, _ => ⟨rfl, Reps.nil⟩
  | [], _ :: _, e, _, _ => by simp at e
  | _ :: _, [], e, _, _ => by simp at e
  | (k1, v1) :: g, (k2, W2) :: kv, e, r, rv => by
    simp only [List.map_cons, List.cons.injEq] at e
    obtain ⟨rfl, e⟩ := e
    obtain ⟨v', vr, e', r1, r2⟩ := Reps.uncons (vs := kv.map (·.2)) (V := W2) r
    simp only [List.map_cons, List.cons.injEq] at e'
    obtain ⟨rfl, rfl⟩ := e'
    obtain ⟨h1, h2⟩ := Reps.get' e r2 rv
    by_cases q : k1 = k
    · simp only [List.map_cons, if_pos q]
      exact ⟨by rw [h1], Reps.cons rv h2⟩
    · simp only [List.map_cons, if_neg q]
      exact ⟨by rw [h1], Reps.cons r1 h2⟩
noncomputable def storedV (kv : List (Int × V)) (k : Int) (W : V) : List (Int × V) := if kv.any (fun p => p.1 = k) then kv.map (fun p => if p.1 = k then (p.1, W) else p) else kv ++ [(k, W)]
theorem any_keys {α β : Type} {k : Int} : ∀ {g : List (Int × α)} {kv : List (Int × β)}, g.map (·.1) = kv.map (·.1) → (g.any fun p => decide (p.1 = k)) = (kv.any fun p => decide (p.1 = k))
  | [], [], _ => rfl
  | [], _ :: _, e => by simp at e
  | _ :: _, [], e => by simp at e
  | (k1, v1) :: g, (k2, W2) :: kv, e => by
    simp only [List.map_cons, List.cons.injEq] at e
    obtain ⟨rfl, e⟩ := e
    simp only [List.any_cons, any_keys e]
theorem stored_rep {h : Heap} {M : Addr → Prop} {v : Value} {W : V} {k : Int} {g : List (Int × Value)} {kv : List (Int × V)} (e : g.map (·.1) = kv.map (·.1)) (r : Reps h M (g.map (·.2)) (kv.map (·.2))) (rv : Rep h M v W) :
    (stored g k v).map (·.1) = (storedV kv k W).map (·.1) ∧ Reps h M ((stored g k v).map (·.2)) ((storedV kv k W).map (·.2)) := by
  unfold stored storedV
  rw [any_keys e]
  split
  · exact Reps.get' e r rv
  · refine ⟨by simp [e], ?_⟩
    rw [List.map_append, List.map_append]
    exact r.append (Reps.cons rv Reps.nil)
theorem ST.setkey {o i value : Expr} {p p' : Pos} {Q : Fl → Vm → Hp → Prop}
    (h : EV c n env m H value fun W H₁ => EV c n env m H₁ o fun O H₂ => EV c n env m H₂ i fun I H₃ => ∃ a kv k, O = .ref a ∧ H₃ a = some (.dict kv) ∧ I = .int k ∧ kv.length ≤ 1000000 ∧ Q .next m (H₃.set a (.dict (storedV kv k W))))
    (hs : swapsWith value (some (o.Subscript i p')) p.line env = pure false := by rfl) : ST c n env m H (.Assign [.Subscript o i p'] value p) Q := fun A s Z ro a v => by
  refine wpAny_Assign_Subscript (h.then ro a v fun vw s₁ W H₁ rw_ a₁ v₁ k₁ q₁ => q₁.then ro a₁ v₁ fun vo s₂ O H₂ ro' a₂ v₂ k₂ q₂ => q₂.then ro a₂ v₂ fun vi s₃ I H₃ ri a₃ v₃ k₃ q₃ => ?_) hs
  obtain ⟨b, kv, k, rfl, hb, rfl, hz, q⟩ := q₃
  (first | obtain ⟨_, rfl⟩ := Rep.I ro' | obtain rfl := Rep.R ro' | obtain rfl := Rep.B ro' | obtain rfl := Rep.N ro' | obtain ⟨_, rfl⟩ := Rep.S ro'); (first | obtain ⟨_, rfl⟩ := Rep.I ri | obtain rfl := Rep.R ri | obtain rfl := Rep.B ri | obtain rfl := Rep.N ri | obtain ⟨_, rfl⟩ := Rep.S ri)
  obtain ⟨g, _, hg, hk, rs⟩ := a₃.cell b _ hb
  have rw3 := (rw_.mono (k₂.stays fun _ f => f.elim)).mono (k₃.stays fun _ f => f.elim)
  have hl : g.length = kv.length := by have := congrArg List.length hk; simpa using this
  refine wpAny_setItem_pairs (intKind_is c.prog c.w _ _) (hg c.prog c.w) (fun h' hd' hs' => ?_) (line100 (by lia))
  have k4 : ∀ x d, x ≠ b → s₃.heap.get? x = some d → h'.get? x = some d := fun x d q e => (hs'.2 x q).trans e
  have nn : H₃ b ≠ none := by rw [hb]; simp
  have st := a₃.stays_set (c := .dict (storedV kv k W)) (.inr nn) k4
  obtain ⟨e1, e2⟩ := stored_rep (k := k) hk rs rw3
  have D := DictOf_all hd'
  have ob := some_of_DictOf c.prog c.w D
  exact ⟨.next, m, _, .next, a₃.put (c := .dict (storedV kv k W)) (.inr nn) k4 ⟨_, ob, D, e1, e2.mono st⟩ (a₃.low b nn), v₃.step a₃ (Kp.put (t := s₃.toks + 1) (.inr nn) k4 ob), (((k₁.trans k₂).trans k₃).trans (Kp.put (.inr nn) k4 ob)).no, q⟩
end Mine
end PartC9
section PartC10
open PySem PySem.W PyProof.Rows PySem.Calls
namespace Mine
variable {c : Cx} {n : Nat} {env : Env} {m : Vm} {H : Hp}
noncomputable def CL (c : Cx) (n : Nat) (f : Value) (Ws : List V) (H : Hp) (Q : V → Hp → Prop) : Prop :=
  ∀ A s Z vs, Room A n → HA c.base Z H s.heap → Reps s.heap (Mut Z H) vs Ws → wpAny (model c.prog c.w) A (call f vs) (Post c Z H s Q) ff s
noncomputable def FN (c : Cx) (n : Nat) (f : Value) (Ws : List V) (H : Hp) (Q : V → Hp → Prop) : Prop :=
  ∀ A s Z vs, Room A n → HA c.base Z H s.heap → Reps s.heap (Mut Z H) vs Ws → codeAny (model c.prog c.w) A (.call f ⟨vs, []⟩) (fun r s' => ∃ v, r = .ok (.ret v) ∧ Post c Z H s Q v s') s
theorem FN.cl {f : Value} {Ws : List V} {Q : V → Hp → Prop} (h : FN c n f Ws H Q) : CL c n f Ws H Q := fun A s Z vs ro a r => wpAny_call (codeAny_mono (h A s Z vs ro a r) fun r s' ⟨v, e, p⟩ => by subst e; exact p)
theorem FN.mono {f : Value} {Ws : List V} {Q Q' : V → Hp → Prop} (h : FN c n f Ws H Q) (k : ∀ W H', Q W H' → Q' W H') : FN c n f Ws H Q' := fun A s Z vs ro a r =>
  codeAny_mono (h A s Z vs ro a r) fun r s' ⟨v, e, W, H', r', a', k', q⟩ => ⟨v, e, W, H', r', a', k', k W H' q⟩
theorem FN.le {n' : Nat} {f : Value} {Ws : List V} {Q : V → Hp → Prop} (h : FN c n f Ws H Q) (l : n ≤ n') : FN c n' f Ws H Q := fun A s Z vs ro a r => h A s Z vs (ro.le l) a r
theorem FN.forget {f : Value} {Ws : List V} {Q : V → Hp → Prop} (h : FN c n f Ws H fun W H' => ∃ H'', (∀ x d, H'' x = some d → H' x = some d) ∧ Q W H'') : FN c n f Ws H Q := fun A s Z vs ro a r =>
  codeAny_mono (h A s Z vs ro a r) fun r s' ⟨v, e, W, H', r', a', k', H'', l, q⟩ => ⟨v, e, W, H'', r'.less l, a'.less l, k'.less l, q⟩
noncomputable def okNames (scope : Scope) (ps rest : List Str) : Bool :=
  decide ((ps ++ rest).Nodup) && (ps ++ rest).all fun x => scope.names.lookup x == some .local && x != ("__debug__" : Str) && x != ("__classdict__" : Str)
noncomputable def frame (ps : List Str) (Ws : List V) (rest : List Str) : Vm := ps.zip (Ws.map some) ++ rest.map fun x => (x, none)
theorem zip_keys : ∀ (ps : List Str) (Ws : List V), ps.length = Ws.length → (ps.zip (Ws.map some)).map (·.1) = ps
  | [], [], _ => rfl
  | p :: ps, W :: Ws, h => by simp at h; simp [zip_keys ps Ws h]
  | [], _ :: _, h => by simp at h
  | _ :: _, [], h => by simp at h
theorem frame_keys {ps : List Str} {Ws : List V} {rest : List Str} (h : ps.length = Ws.length) : (frame ps Ws rest).map (·.1) = ps ++ rest := by
  unfold frame; rw [List.map_append, zip_keys ps Ws h]; simp [Function.comp_def]
theorem lookup_zip {h : Heap} {M : Addr → Prop} : ∀ {ps : List Str} {Ws : List V} {vs : List Value} {x : Str} {W : V}, ps.length = Ws.length → ps.Nodup → Reps h M vs Ws → (x, some W) ∈ ps.zip (Ws.map some) → ∃ v, (ps.zip vs).reverse.lookup x = some v ∧ Rep h M v W
  | [], _, _, _, _, _, _, _, hm => by simp at hm
  | p :: ps, [], _, _, _, h, _, _, _ => by simp at h
  | p :: ps, W₀ :: Ws, vs, x, W, h, nd, r, hm => by
    obtain ⟨v, vr, rfl, r1, r2⟩ := r.uncons
    have nd' := List.nodup_cons.mp nd
    simp only [List.map_cons, List.zip_cons_cons, List.reverse_cons, List.lookup_append] at hm ⊢
    rcases List.mem_cons.mp hm with e | hm
    · cases e
      refine ⟨v, ?_, r1⟩
      have : (ps.zip vr).reverse.lookup p = none := by
        rw [List.lookup_eq_none_iff]
        intro y hp
        have := List.mem_reverse.mp hp
        have := (List.of_mem_zip (show (y.1, y.2) ∈ ps.zip vr from this)).1
        simp only [bne_iff_ne, ne_eq]
        exact fun e => nd'.1 (e ▸ this)
      rw [this]; simp
    · obtain ⟨v', e, r'⟩ := lookup_zip (by simpa using h) nd'.2 r2 hm
      exact ⟨v', by rw [e]; rfl, r'⟩
theorem FN.def {oc : Value} {od : Option Addr} {osl : Array (Option Value)} {name qual : Str} {params : Arguments} {body : List Stmt} {scope : Scope} {dV kV doc pm cdv ct : Value} {an : Option Addr} {f : Addr} {Ws Ds : List V} {ps rest : List Str} {ds : List Value} {Q : V → Hp → Prop}
    (ho : c.K.lookup f = some ⟨oc, od, .func (fnOf name qual params body scope dV kV doc pm an cdv ct), osl⟩) (hcd : codeIn c.K cdv qual = true) (hlen : ps.length = (Ws ++ Ds).length) (hds : ∀ h M, Reps h M ds Ds)
    (hbind : ∀ (s : Shared) (vs : List Value), c.K.In s.heap → vs.length = Ws.length → BindsTo s (fnOf name qual params body scope dV kV doc pm an cdv ct) ⟨vs, []⟩ (ps.zip (vs ++ ds)))
    (hok : okNames scope ps rest = true) (hcell : scope.names.all (fun x => x.2 != .cell) = true) (hco : scope.isCoroutine = false) (hgen : scope.isGenerator = false) (hk : scope.kind = .function)
    (h : ∀ L, SX c n (envX qual scope L f cdv []) (frame ps (Ws ++ Ds) rest) H body fun F _ H' => match F with | .ret W => Q W H' | .next => Q .none H' | _ => False) : FN c (n + 1) (.ref f) Ws H Q := fun A s Z vs ro a r => by
  have hok' := Bool.and_eq_true_iff.mp hok
  have nd : (ps ++ rest).Nodup := of_decide_eq_true hok'.1
  have all : ∀ x ∈ ps ++ rest, scope.names.lookup x = some .local ∧ (x == ("__debug__" : Str)) = false ∧ (x == ("__classdict__" : Str)) = false := fun x hx => by
    have := List.all_eq_true.mp hok'.2 x hx
    simp only [Bool.and_eq_true, beq_iff_eq, bne_iff_ne, ne_eq] at this
    exact ⟨this.1.1, by simpa using this.1.2, by simpa using this.2⟩
  have rr : Reps s.heap (Mut Z H) (vs ++ ds) (Ws ++ Ds) := r.append (hds _ _)
  refine codeAny_call_def (fd := fnOf name qual params body scope dV kV doc pm an cdv ct) (body := body) (binds := ps.zip (vs ++ ds)) (by have := ro.depth; lia) (fr_base c a _ _ ho) rfl (c.lim.keeps a.keep) (codeRec_of (fr_base c a) hcd) rfl
    (hbind s vs (fr_base c a) r.1) (fun x hx => ?_) (fun x hx => ?_) (fun h₁ hns hk₁ => ?_) hco hgen hk
  · have := List.all_eq_true.mp hcell x hx; simpa using this
  · exact (all x.1 (List.mem_append_left _ (List.of_mem_zip (show (x.1, x.2) ∈ ps.zip (vs ++ ds) from hx)).1)).1
  · let L := s.heap.objs.size
    let Z' : Addr → Prop := fun b => Z b ∨ b = L
    have fz : s.heap.get? L = none := a.fresh
    have st : Stays s.heap h₁ (Mut Z H) (Mut Z' H) := fun b o e q => ⟨hk₁ b o e, fun z => by
      rcases z with (z | z) | z
      · exact q (.inl z)
      · rw [z, fz] at e; cases e
      · exact q (.inr z)⟩
    have a₁ : HA c.base Z' H h₁ := ⟨fun b o e => hk₁ b o (a.keep b o e), fun b d e => (a.cell b d e).mono st (hk₁ b), fun b e => ⟨fun z => z.elim (a.off b e).1 fun z => (by
        obtain ⟨o, q⟩ : ∃ o, s.heap.get? b = some o := by
          cases q : H b with
          | none => exact absurd q e
          | some d => exact (a.cell b d q).there
        rw [z, fz] at q; cases q), (a.off b e).2⟩, a.low,
      fun b z => z.elim (fun z => let ⟨o, e⟩ := a.zin b z; ⟨o, hk₁ b o e⟩) fun z => (by rw [z]; obtain ⟨o, _, _, e, _⟩ := hns; exact ⟨o, e⟩), fun b o z e => z.elim (fun z => a.zoff b o z e) fun z => by
        have := a.keep b o e; rw [z, fz] at this; cases this⟩
    have v₁ : VA c.base Z' (envX qual scope L f cdv []) (frame ps (Ws ++ Ds) rest) (Mut Z' H) h₁ := {
      kind := hk, glob := rfl, bi := rfl, ns := ⟨_, hns⟩
      nodup := by rw [frame_keys hlen]; exact nd
      dom := fun x W hx => .inl (all x (by rw [← frame_keys (Ws := Ws ++ Ds) (rest := rest) hlen]; exact List.mem_map.mpr ⟨_, hx, rfl⟩)).1
      var := fun x W hx => by
        rcases List.mem_append.mp hx with hx | hx
        · have hx' := List.of_mem_zip hx
          obtain ⟨v, e, rv⟩ := lookup_zip hlen (List.nodup_append.mp nd).1 rr hx
          exact ⟨v, rv.mono st, .inl ⟨(all x (List.mem_append_left _ hx'.1)).1, _, hns, e⟩⟩
        · obtain ⟨y, _, e⟩ := List.mem_map.mp hx
          cases e
      own := fun b z => by
        rcases z with z | ⟨_, x, _, z⟩
        · exact .inr z
        · simp at z
      fresh := fun b z => by
        rcases z with z | ⟨_, x, _, z⟩
        · rw [z]; exact (a.free fz).2.2
        · simp at z
      cin := fun x d e => by simp at e
      inj := fun x y d e => by simp at e
      dbg := fun x W hx => (all x (by rw [← frame_keys (Ws := Ws ++ Ds) (rest := rest) hlen]; exact List.mem_map.mpr ⟨_, hx, rfl⟩)).2.1
      cls := fun x W hx => (all x (by rw [← frame_keys (Ws := Ws ++ Ds) (rest := rest) hlen]; exact List.mem_map.mpr ⟨_, hx, rfl⟩)).2.2
      sto := fun x W hx _ q => by
        have := (all x (by rw [← frame_keys (Ws := Ws ++ Ds) (rest := rest) hlen]; exact List.mem_map.mpr ⟨_, hx, rfl⟩)).1
        rw [show (envX qual scope L f cdv []).kindOf x = scope.names.lookup x from rfl, this] at q; cases q }
    have ro' : Room (A.deeper (callEnv (fnOf name qual params body scope dV kV doc pm an cdv ct) s.heap.objs.size f)) n := ⟨ro.handled, by have := ro.depth; show A.depth + 1 + 10 * n < _; lia, by have := ro.units; show A.units + 3 + 100 * n < _; lia⟩
    refine wpAny_mono (h L _ { s with heap := h₁, toks := s.toks + (ps.zip (vs ++ ds)).length } Z' ro' a₁ v₁) (fun fl s' p => ?_) fun _ _ f => f.elim
    obtain ⟨F, m', H', fr, a', v', k', q⟩ := p
    have back : ∀ v W, Rep s'.heap (Mut Z' H') v W → Q W H' → Post c Z H s Q v s' := fun v W rv q => by
      refine ⟨W, H', rv.mono fun b o e z => ⟨e, fun y => z (y.imp .inl id)⟩, ⟨a'.keep, fun b d e => (a'.cell b d e).mono (fun b o e z => ⟨e, fun y => z (y.imp .inl id)⟩) fun _ e => e, fun b e => ⟨fun z => (a'.off b e).1 (.inl z), (a'.off b e).2⟩, a'.low, fun b z => a'.zin b (.inl z), fun b o z e => a'.zoff b o (.inl z) e⟩, ⟨fun b o e z _ => ?_, fun b o e z => k'.new b o (hk₁ b o e) z, fun b o e => k'.there b o (hk₁ b o e), k'.gens, k'.os⟩, q⟩
      refine k'.same b o (hk₁ b o e) z fun y => ?_
      rcases y with y | ⟨_, x, _, y⟩
      · have : b = L := y
        rw [this, fz] at e; cases e
      · simp at y
    cases fr with
    | next => exact ⟨.none, rfl, back _ _ .none q⟩
    | brk => exact q.elim
    | cont => exact q.elim
    | ret rv => exact ⟨_, rfl, back _ _ rv q⟩
end Mine
end PartC10
section PartC11
open PySem PySem.W PyProof.Rows PySem.Calls
namespace Mine
variable {c : Cx} {n : Nat} {env : Env} {m : Vm} {H : Hp}
theorem starEach_cons {e : Expr} {r : List Expr} (h : plainEs (e :: r) = true) : starEach (e :: r) env = (false, eval e env) :: starEach r env ∧ plainEs r = true := by
  cases e <;> first | exact ⟨rfl, h⟩ | cases h
theorem plain_any {p : Pos} : ∀ (es : List Expr), plainEs es = true → (backTo p (starEach es env)).any (·.1) = false
  | [], _ => rfl
  | e :: r, h => by
    obtain ⟨h1, h2⟩ := starEach_cons (env := env) h
    rw [h1]
    show (false || (backTo p (starEach r env)).any (·.1)) = false
    rw [plain_any r h2]; rfl
theorem evalArgs_empty {M : Model} {A : Around} {E : Value → Shared → Prop} {s : Shared} {f : Value} {Q : Args → Shared → Prop} (h : wpAny M A (spliced []) (fun vs s' => Q ⟨vs, []⟩ s') E s) : wpAny M A (evalArgs f true [] []) Q E s := by
  unfold evalArgs
  show wpAny M A (spliced [] >>= _) Q E s
  refine wpAny_bind (wpAny_mono h (fun vs s' h' => ?_) fun _ _ x => x)
  refine wpAny_holding ?_
  exact wpAny_bind (wpAny_pure (wpAny_bind (wpAny_pure (wpAny_pure h'))))
theorem callW {f : Value} {first : List Value} {Fs : List V} {args : List Expr} {p : Pos} {Q : V → Hp → Prop} {A : Around} {s : Shared} {Z : Addr → Prop} (ro : Room A n) (a : HA c.base Z H s.heap) (v : VA c.base Z env m (Mut Z H) s.heap)
    (rf : Reps s.heap (Mut Z H) first Fs) (hk : ∀ h, c.K.In h → ∃ k, (k = Keeper.frame ∨ k = Keeper.machine ∨ k = Keeper.boundFrame) ∧ Looks (model c.prog c.w) h (keeperOf f) k)
    (h : ES c n env m H args fun Ws H' => CL c n f (Fs ++ Ws) H' Q) (hp : plainEs args = true) : wpAny (model c.prog c.w) A (callWith p f first (backTo p (starEach args env)) []) (Post c Z H s Q) ff s := by
  refine callWith_of (P := c.K.In) (by rw [plain_any args hp]; rfl) hk ?_
  have fin : ∀ vs s₁, PostE c Z H s args.length (fun Ws H' => CL c n f (Fs ++ Ws) H' Q) vs s₁ →
      c.K.In s₁.heap ∧ wpAny (model c.prog c.w) A (call f (first ++ vs) []) (Post c Z H s Q) ff s₁ := by
    rintro vs s₁ ⟨Ws, H', rs, _, a', k, q⟩
    refine ⟨fr_base c a', wpAny_mono (q A s₁ Z _ ro a' ((rf.mono (k.stays fun _ f => f.elim)).append rs)) (fun _ _ p => Post.pre k p) fun _ _ f => f⟩
  cases args with
  | nil =>
    refine evalArgs_empty (wpAny_mono (h A s Z p ro a v) (fun vs s₁ x => fin vs s₁ x) fun _ _ f => f)
  | cons e r =>
    obtain ⟨h1, h2⟩ := starEach_cons (env := env) hp
    have hh := h A s Z p ro a v
    rw [h1] at hh ⊢
    exact evalArgs_plain (wpAny_mono hh (fun vs s₁ x => fin vs s₁ x) fun _ _ f => f)
theorem eval_callName {x : Str} {p pos : Pos} {args : List Expr} : eval (.Call (.Name x p) args [] pos) env = (do callWith pos (← eval (.Name x p) env) [] (backTo pos (starEach args env)) []) := rfl
theorem keeps_plain {f : Value} (hf : ∀ a, f ≠ .ref a) (h : Heap) : ∃ k, (k = Keeper.frame ∨ k = Keeper.machine ∨ k = Keeper.boundFrame) ∧ Looks (model c.prog c.w) h (keeperOf f) k := by
  refine ⟨.machine, .inr (.inl rfl), ?_⟩
  cases f <;> first | exact .now | exact absurd rfl (hf _)
theorem EV.callG {x : Str} {p pos : Pos} {args : List Expr} {f : Value} {Q : V → Hp → Prop} (hg : nsIn c.K mainGlobals x = some (some f)) (hk : keepIn c.K f = true) (hx : env.kindOf x = some .globalImplicit)
    (h : ES c n env m H args fun Ws H' => CL c n f Ws H' Q) (hp : plainEs args = true := by rfl) (hd : (x == ("__debug__" : Str)) = false := by decide) : EV c n env m H (.Call (.Name x p) args [] pos) Q := fun A s Z ro a v => by
  rw [eval_callName]
  refine wpAny_bind (Name_function_global v.kind hx (loadGlobal_global (env := env) ?_ (mg_of c.X c.T.g hg) ?_) hd)
  · rw [v.glob]; exact c.T.g.keeps a.keep
  · exact callW ro a v Reps.nil (keeps_K hk) h hp
theorem EV.callB {x : Str} {p pos : Pos} {args : List Expr} {f : Value} {Q : V → Hp → Prop} (hg : nsIn c.K mainGlobals x = some none) (hb : bootBuiltins x = some f) (hn : x ≠ "__name__") (hf : ∀ a, f ≠ .ref a) (hx : env.kindOf x = some .globalImplicit)
    (h : ES c n env m H args fun Ws H' => CL c n f Ws H' Q) (hp : plainEs args = true := by rfl) (hd : (x == ("__debug__" : Str)) = false := by decide) : EV c n env m H (.Call (.Name x p) args [] pos) Q := fun A s Z ro a v => by
  rw [eval_callName]
  refine wpAny_bind (Name_function_global v.kind hx (loadGlobal_builtin (env := env) (mg := c.mg) (mb := c.mb) ?_ (mg_none_of c.X c.T.g hg) ?_ ((c.T.builtins x hn).trans hb) ?_) hd)
  · rw [v.glob]; exact c.T.g.keeps a.keep
  · rw [v.bi]; exact c.T.b.keeps a.keep
  · exact callW ro a v Reps.nil (fun h _ => keeps_plain hf h) h hp
theorem EV.callM {o : Expr} {x : Str} {p pos : Pos} {args : List Expr} {Q : V → Hp → Prop} {pl : Sem Bool}
    (h : EV c n env m H o fun O H₁ => ∃ C at_ f, IsO H₁ O C at_ ∧ x ∉ at_.map (·.1) ∧ plainGet c.K C x = true ∧ findIn c.K (.ref C) x = some (some (.ref f)) ∧ isFn c.K (.ref f) = true ∧ keepIn c.K (.ref f) = true ∧
      ES c n env m H₁ args fun Ws H' => CL c n (.ref f) (O :: Ws) H' Q) (hp : plainEs args = true := by rfl)
    (hs : eval (.Call (.Attribute o x p) args [] pos) env = (do
      let ov ← eval o env
      standAt p.atName
      let fx ← holding [ov] (getMethod ov x pl)
      callWith pos fx.1 fx.2 (backTo pos (starEach args env)) (backToKw pos (keywordEach [] env))) := by with_unfolding_all rfl) : EV c n env m H (.Call (.Attribute o x p) args [] pos) Q := fun A s Z ro a v => by
  rw [hs]
  refine wpAny_bind (h.then ro a v fun vo s₁ O H₁ r a₁ v₁ k₁ q => wpAny_bind (wpAny_standAt (wpAny_bind (wpAny_holding ?_))))
  obtain ⟨C, at_, f, io, hn, h1, h2, h3, h4, q⟩ := q
  obtain ⟨b, dx, es, nn, rfl, hb, hd, en⟩ := io.rep a₁ r
  refine method_fn (fr_base c a₁) (x := b) (C := C) (od := some (dictOf es nn)) ⟨hb, rfl, rfl, hd⟩ (plainGet_of h1).1 (plainGet_of h1).2 h2 (beq_iff_eq.mp h3) ?_ ?_
  · show (lookIn x (dictOf es nn)).map _ = _
    rw [lookIn_dict, en.no hn]; rfl
  · exact wpAny_mono (callW ro a₁ v₁ (Reps.cons r Reps.nil) (keeps_K h4) q hp) (fun _ _ p => Post.pre k₁ p) fun _ _ f => f
theorem EV.callT {o : Expr} {x : Str} {p pos : Pos} {args : List Expr} {T id : String} {Q : V → Hp → Prop} (pa : PlainAttrs T) (slot : Slot T x id) (hty : typeOf (.builtin id) = pure (.type "method_descriptor"))
    (h : EV c n env m H o fun O H₁ => (∃ a, O = .ref a ∧ ((∃ vs, H₁ a = some (.list vs) ∧ T = "list") ∨ (∃ kv, H₁ a = some (.dict kv) ∧ T = "dict"))) ∧ ES c n env m H₁ args fun Ws H' => CL c n (.builtin id) (O :: Ws) H' Q) (hp : plainEs args = true := by rfl)
    (hbase : attributeBase o x env (eval o env) = eval o env := by with_unfolding_all rfl)
    (hfew : ((backTo pos (starEach args env)).all (fun x => !x.1) && (backToKw pos (keywordEach [] env)).all (fun x => x.1.isSome) && decide (args.length + ([] : List Keyword).length + (if ([] : List Keyword).isEmpty then 0 else 1) < 30)) = true := by with_unfolding_all rfl)
    (hline : (p.endLine == pos.line) = true := by rfl) : EV c n env m H (.Call (.Attribute o x p) args [] pos) Q := fun A s Z ro a v => by
  refine wpAny_Call_method hbase hfew hline pa slot hty (h.then ro a v fun vo s₁ O H₁ r a₁ v₁ k₁ q => ?_)
  obtain ⟨⟨b, rfl, hb⟩, q⟩ := q
  (first | obtain ⟨_, rfl⟩ := Rep.I r | obtain rfl := Rep.R r | obtain rfl := Rep.B r | obtain rfl := Rep.N r | obtain ⟨_, rfl⟩ := Rep.S r)
  refine ⟨?_, fun y hy => ?_, wpAny_mono (callW ro a₁ v₁ (Reps.cons (.ref b) Reps.nil) (fun h _ => keeps_plain (by intro a e; cases e) h) q hp) (fun _ _ p => Post.pre k₁ p) fun _ _ f => f⟩
  · rcases hb with ⟨vs, hb, rfl⟩ | ⟨kv, hb, rfl⟩
    · obtain ⟨items, hp, _⟩ := a₁.cell b _ hb; exact hp.isList.typeIs
    · obtain ⟨g, _, hg, _⟩ := a₁.cell b _ hb; exact (hg c.prog c.w).typeIs
  · cases hy
    rcases hb with ⟨vs, hb, rfl⟩ | ⟨kv, hb, rfl⟩
    · obtain ⟨items, ⟨k, e⟩, _⟩ := a₁.cell b _ hb; exact ⟨_, e, rfl⟩
    · obtain ⟨g, _, hg, _⟩ := a₁.cell b _ hb
      obtain ⟨o, _, _, e, hx, _⟩ := hg c.prog c.w
      exact ⟨o, e, hx.2.1⟩
theorem CL.len {W : V} {vs : List V} {Q : V → Hp → Prop} (hs : IsS H W vs) (hz : (vs.length : Int) < 2 ^ 63) (h : Q (.int vs.length) H) : CL c n (.builtin "len") [W] H Q := fun A s Z xs ro a r => by
  obtain ⟨v, q, rfl, r1, r2⟩ := r.uncons
  rw [r2.unnil]
  rcases hs with rfl | hl
  · obtain ⟨t, items, rfl, ho, _, rs⟩ := Rep.tup_iff.mp r1
    have e : items.size = vs.length := by rw [← rs.1]; simp
    exact len_tuple ho (by rw [e]; exact hz) ⟨.int vs.length, H, by rw [e]; exact .int _ _, a, Kp.tok, h⟩
  · obtain ⟨t, items, rfl, ho, rs⟩ := hl.rep a r1
    have e : items.size = vs.length := by rw [← rs.1]; simp
    exact call_len_list ho.isList (by rw [e]; exact hz) ⟨.int vs.length, H, by rw [e]; exact .int _ _, a, Kp.tok, h⟩
theorem CL.min {i j : Int} {Q : V → Hp → Prop} (h : Q (.int (min i j)) H) : CL c n (.builtin "min") [.int i, .int j] H Q := fun A s Z xs ro a r => by
  obtain ⟨v, q, rfl, r1, r2⟩ := r.uncons
  obtain ⟨w, q, rfl, r3, r4⟩ := r2.uncons
  rw [r4.unnil]
  (first | obtain ⟨_, rfl⟩ := Rep.I r1 | obtain rfl := Rep.R r1 | obtain rfl := Rep.B r1 | obtain rfl := Rep.N r1 | obtain ⟨_, rfl⟩ := Rep.S r1); (first | obtain ⟨_, rfl⟩ := Rep.I r3 | obtain rfl := Rep.R r3 | obtain rfl := Rep.B r3 | obtain rfl := Rep.N r3 | obtain ⟨_, rfl⟩ := Rep.S r3)
  refine min_two_ints ro.handled fun h' tk k => ⟨_, H, ?_, a.grown k, Kp.grown k, h⟩
  split
  · rw [Int.min_def, if_neg (by lia)]; exact .int _ _
  · rw [Int.min_def, if_pos (by lia)]; exact .int _ _
theorem CL.max {i j : Int} {Q : V → Hp → Prop} (h : Q (.int (max i j)) H) : CL c n (.builtin "max") [.int i, .int j] H Q := fun A s Z xs ro a r => by
  obtain ⟨v, q, rfl, r1, r2⟩ := r.uncons
  obtain ⟨w, q, rfl, r3, r4⟩ := r2.uncons
  rw [r4.unnil]
  (first | obtain ⟨_, rfl⟩ := Rep.I r1 | obtain rfl := Rep.R r1 | obtain rfl := Rep.B r1 | obtain rfl := Rep.N r1 | obtain ⟨_, rfl⟩ := Rep.S r1); (first | obtain ⟨_, rfl⟩ := Rep.I r3 | obtain rfl := Rep.R r3 | obtain rfl := Rep.B r3 | obtain rfl := Rep.N r3 | obtain ⟨_, rfl⟩ := Rep.S r3)
  refine max_two_ints ro.handled fun h' tk k => ⟨_, H, ?_, a.grown k, Kp.grown k, h⟩
  split
  · rw [Int.max_def, if_pos (by lia)]; exact .int _ _
  · rw [Int.max_def]; split
    · rename_i h1 h2; have : _ = _ := Int.le_antisymm h2 (by lia); subst this; exact .int _ _
    · exact .int _ _
theorem CL.abs {i : Int} {Q : V → Hp → Prop} (h : Q (.int i.natAbs) H) : CL c n (.builtin "abs") [.int i] H Q := fun A s Z xs ro a r => by
  obtain ⟨v, q, rfl, r1, r2⟩ := r.uncons
  rw [r2.unnil]
  (first | obtain ⟨_, rfl⟩ := Rep.I r1 | obtain rfl := Rep.R r1 | obtain rfl := Rep.B r1 | obtain rfl := Rep.N r1 | obtain ⟨_, rfl⟩ := Rep.S r1)
  refine call_abs_int fun u tk => ⟨.int i.natAbs, H, ?_, a, Kp.tok, h⟩
  have e : (if i < 0 then -i else i) = (i.natAbs : Int) := by split <;> lia
  rw [e]; exact .int _ _
theorem CL.append {b : Addr} {vs : List V} {W : V} {Q : V → Hp → Prop} (hb : H b = some (.list vs)) (hz : vs.length ≤ 1000000) (h : Q .none (H.set b (.list (vs ++ [W])))) : CL c n (.builtin "list.append") [.ref b, W] H Q := fun A s Z xs ro a r => by
  obtain ⟨v, q, rfl, r1, r2⟩ := r.uncons
  obtain ⟨w, q, rfl, r3, r4⟩ := r2.uncons
  rw [r4.unnil]
  (first | obtain ⟨_, rfl⟩ := Rep.I r1 | obtain rfl := Rep.R r1 | obtain rfl := Rep.B r1 | obtain rfl := Rep.N r1 | obtain ⟨_, rfl⟩ := Rep.S r1)
  obtain ⟨items, ho, rs⟩ := a.cell b _ hb
  have e : items.size = vs.length := by rw [← rs.1]; simp
  refine wpAny_list_append_plain ho (fun h' hl' hs' => ?_) (line100 (by lia))
  obtain ⟨a₂, k₂, _⟩ := putL' (t := s.toks) a hb hl' (fun x d q e => (hs'.2 x q).trans e) (Ws := vs ++ [W]) (by rw [Array.toList_push]; exact rs.append (Reps.cons r3 Reps.nil))
  exact ⟨.none, _, .none, a₂, k₂, h⟩
end Mine
end PartC11
section PartC12
open PySem PySem.W PyProof.Rows PySem.Calls
namespace Mine
variable {c : Cx} {n : Nat} {env : Env} {m : Vm} {H : Hp}
theorem CL.int {i : Int} {Q : V → Hp → Prop} (h : Q (.int i) H) : CL c n (.type "int") [.int i] H Q := fun A s Z xs ro a r => by
  obtain ⟨v, q, rfl, r1, r2⟩ := r.uncons
  rw [r2.unnil]
  (first | obtain ⟨_, rfl⟩ := Rep.I r1 | obtain rfl := Rep.R r1 | obtain rfl := Rep.B r1 | obtain rfl := Rep.N r1 | obtain ⟨_, rfl⟩ := Rep.S r1)
  exact call_int_int ⟨.int i, H, .int _ _, a, Kp.refl, h⟩
theorem CL.extend {b : Addr} {W : V} {vs ws : List V} {Q : V → Hp → Prop} (hb : H b = some (.list vs)) (hl : IsL H W ws) (hz : vs.length + ws.length ≤ 1000000) (h : Q .none (H.set b (.list (vs ++ ws)))) : CL c n (.builtin "list.extend") [.ref b, W] H Q := fun A s Z xs ro a r => by
  obtain ⟨v, q, rfl, r1, r2⟩ := r.uncons
  obtain ⟨w, q, rfl, r3, r4⟩ := r2.uncons
  rw [r4.unnil]
  (first | obtain ⟨_, rfl⟩ := Rep.I r1 | obtain rfl := Rep.R r1 | obtain rfl := Rep.B r1 | obtain rfl := Rep.N r1 | obtain ⟨_, rfl⟩ := Rep.S r1)
  obtain ⟨items, ⟨n1, ho⟩, rs⟩ := a.cell b _ hb
  obtain ⟨l, items2, rfl, ⟨n2, ho2⟩, rs2⟩ := hl.rep a r3
  have e1 : items.size = vs.length := by rw [← rs.1]; simp
  have e2 : items2.size = ws.length := by rw [← rs2.1]; simp
  have hsz : items.size + items2.size ≤ sizeLine := line100 (by lia)
  refine call_meets PySem.F.slot_list_extend ⟨_, ho, rfl⟩ PySem.F.entry_list_extend (PySem.F.args_list_extend_2 _ _) (AutoSeq1.list_extend_list_list_0 b items n1 l items2 n2 (extend_door hsz) (Nat.le_trans (Nat.le_add_right _ _) hsz) (Nat.le_trans hsz (Nat.le_succ _))) ⟨ho, ho2, ?_⟩
  have hp : (s.heap.update b (Obj.mapSeq fun x => x ++ items2)).PlainList b (items ++ items2) := ⟨_, Heap.get?_update_self _ ho rfl⟩
  obtain ⟨a₂, k₂, _⟩ := putL' (t := s.toks) a hb hp (fun x d q e => (Heap.get?_update_other _ _ (Ne.symm q)).trans e) (Ws := vs ++ ws) (by rw [Array.toList_append]; exact rs.append rs2)
  exact ⟨.none, _, .none, a₂, k₂, h⟩
theorem CL.listOf {W : V} {vs : List V} {Q : V → Hp → Prop} (hl : IsL H W vs) (hz : vs.length ≤ 1000000) (h : ∀ a, H a = none → Q (.ref a) (H.set a (.list vs))) : CL c n (.type "list") [W] H Q := fun A s Z xs ro a r => by
  obtain ⟨v, q, rfl, r1, r2⟩ := r.uncons
  rw [r2.unnil]
  obtain ⟨l, items, rfl, ⟨n2, ho⟩, rs⟩ := hl.rep a r1
  have e1 : items.size = vs.length := by rw [← rs.1]; simp
  refine call_list_seq l (.inl rfl) ho rfl rfl (fun h' c' hk hD => ?_) (line100 (by lia))
  have st := a.stays_set (c := .list vs) (.inl a.fresh) fun b o _ e => hk b o e
  exact ⟨.ref _, _, .ref _, a.put (c := .list vs) (.inl a.fresh) (fun b o _ e => hk b o e) ⟨items, ⟨_, hD⟩, rs.mono st⟩ a.two, Kp.put (.inl a.fresh) (fun b o _ e => hk b o e) ⟨_, hD⟩, h _ (a.free a.fresh).1⟩
noncomputable def mergedV (kv more : List (Int × V)) : List (Int × V) := more.foldl (fun acc p => storedV acc p.1 p.2) kv
theorem merged_rep {h : Heap} {M : Addr → Prop} : ∀ {more : List (Int × Value)} {moreV : List (Int × V)} {g : List (Int × Value)} {kv : List (Int × V)}, g.map (·.1) = kv.map (·.1) → Reps h M (g.map (·.2)) (kv.map (·.2)) → more.map (·.1) = moreV.map (·.1) → Reps h M (more.map (·.2)) (moreV.map (·.2)) →
    (merged g more).map (·.1) = (mergedV kv moreV).map (·.1) ∧ Reps h M ((merged g more).map (·.2)) ((mergedV kv moreV).map (·.2))
  | [], [], _, _, e, r, _, _ => ⟨e, r⟩
  | [], _ :: _, _, _, _, _, e, _ => by simp at e
  | _ :: _, [], _, _, _, _, e, _ => by simp at e
  | (k1, v1) :: more, (k2, W2) :: moreV, g, kv, e, r, e', r' => by
    simp only [List.map_cons, List.cons.injEq] at e'
    obtain ⟨rfl, e'⟩ := e'
    obtain ⟨v', vr, e'', r1, r2⟩ := Reps.uncons (vs := moreV.map (·.2)) (V := W2) r'
    simp only [List.map_cons, List.cons.injEq] at e''
    obtain ⟨rfl, rfl⟩ := e''
    obtain ⟨s1, s2⟩ := stored_rep (k := k1) e r r1
    exact merged_rep (more := more) (moreV := moreV) s1 s2 e' r2
theorem CL.update {b d : Addr} {kv more : List (Int × V)} {Q : V → Hp → Prop} (hb : H b = some (.dict kv)) (hd : H d = some (.dict more)) (hne : b ≠ d) (hz : kv.length + more.length ≤ 1000000) (h : Q .none (H.set b (.dict (mergedV kv more)))) :
    CL c n (.builtin "dict.update") [.ref b, .ref d] H Q := fun A s Z xs ro a r => by
  obtain ⟨v, q, rfl, r1, r2⟩ := r.uncons
  obtain ⟨w, q, rfl, r3, r4⟩ := r2.uncons
  rw [r4.unnil]
  (first | obtain ⟨_, rfl⟩ := Rep.I r1 | obtain rfl := Rep.R r1 | obtain rfl := Rep.B r1 | obtain rfl := Rep.N r1 | obtain ⟨_, rfl⟩ := Rep.S r1); (first | obtain ⟨_, rfl⟩ := Rep.I r3 | obtain rfl := Rep.R r3 | obtain rfl := Rep.B r3 | obtain rfl := Rep.N r3 | obtain ⟨_, rfl⟩ := Rep.S r3)
  obtain ⟨g, _, hg, hk, rs⟩ := a.cell b _ hb
  obtain ⟨g2, _, hg2, hk2, rs2⟩ := a.cell d _ hd
  have l1 : g.length = kv.length := by have := congrArg List.length hk; simpa using this
  have l2 : g2.length = more.length := by have := congrArg List.length hk2; simpa using this
  have nd : H d ≠ none := by rw [hd]; simp
  have nb : H b ≠ none := by rw [hb]; simp
  refine call_meetsIn PySem.F.slot_dict_update (hg c.prog c.w).typeIs PySem.F.entry_dict_update (PySem.F.args_dict_update_2 _ _)
    (meets_dict_update (intKind c.prog c.w) b d hne (beq_eq_false_iff_ne.mpr (show d ≠ 1 from Nat.ne_of_gt (Nat.lt_trans (by decide) (a.low d nd))))) ⟨g, g2, hg _ _, hg2 _ _, line100 (by lia), fun h' hD hD2 hs' => ?_⟩
  have k4 : ∀ x o, x ≠ b → s.heap.get? x = some o → h'.get? x = some o := fun x o q e => (hs'.2 x q).trans e
  have st := a.stays_set (c := .dict (mergedV kv more)) (.inr nb) k4
  obtain ⟨e1, e2⟩ := merged_rep hk rs hk2 rs2
  have D := DictOf_all hD
  have ob := some_of_DictOf c.prog c.w D
  exact ⟨.none, _, .none, a.put (c := .dict (mergedV kv more)) (.inr nb) k4 ⟨_, ob, D, e1, e2.mono st⟩ (a.low b nb), Kp.put (.inr nb) k4 ob, h⟩
theorem BOP.tup {vs ws : List V} {Q : V → Hp → Prop} (hv : vs ≠ []) (hw : ws ≠ []) (hz : vs.length + ws.length ≤ 1000000) (h : Q (.tup (vs ++ ws)) H) : BOP c n .Add (.tup vs) (.tup ws) H Q := fun A s Z va vb ro a ra rb => by
  obtain ⟨t, items, rfl, ⟨⟨cls, dd, data, sl⟩, ho, hc, n1, hd⟩, _, rs⟩ := Rep.tup_iff.mp ra
  obtain ⟨u, items2, rfl, ⟨⟨cls2, dd2, data2, sl2⟩, ho2, hc2, n2, hd2⟩, _, rs2⟩ := Rep.tup_iff.mp rb
  simp only at hc hd hc2 hd2
  subst hc hd hc2 hd2
  have e1 : items.size = vs.length := by rw [← rs.1]; simp
  have e2 : items2.size = ws.length := by rw [← rs2.1]; simp
  have l1 : vs.length ≠ 0 := fun e => hv (List.length_eq_zero_iff.mp e)
  have l2 : ws.length ≠ 0 := fun e => hw (List.length_eq_zero_iff.mp e)
  refine concat_meets ⟨_, ho, rfl⟩ ⟨_, ho2, rfl⟩ noFill_tuple_add seq_tuple_add PySem.F.slot_tuple_add PySem.F.entry_tuple_add (PySem.F.args_tuple_add_2 _ _)
    (tuple_addW2 t u items items2 n1 n2 dd dd2 sl sl2 (by simp [Array.isEmpty]; intro e; rw [e] at e1; simp at e1; lia) (by simp [Array.isEmpty]; intro e; rw [e] at e2; simp at e2; lia) (line100 (by lia))) ⟨ho, ho2, ?_⟩
  obtain ⟨a₂, k₂, st, nm⟩ := a.lay (o := { cls := .type "tuple", data := .seq (items ++ items2) }) (t := s.toks)
  exact ⟨.tup (vs ++ ws), H, Rep.tup_iff.mpr ⟨_, _, rfl, ⟨_, Heap.get?_push_size _ rfl, rfl, _, rfl⟩, nm, by rw [Array.toList_append]; exact (rs.append rs2).mono st⟩, a₂, k₂, h⟩
theorem foldl_rep (x : Value) : ∀ (k : Nat) (acc : Array Value), List.foldl (fun x1 x2 => x1 ++ x2) acc (List.replicate k #[x]) = acc ++ (List.replicate k x).toArray
  | 0, acc => by simp
  | k + 1, acc => by
    rw [List.replicate_succ, List.foldl_cons, foldl_rep x k, Array.append_assoc]
    congr 1
    rw [List.replicate_succ]
    apply Array.ext'
    simp
theorem BOP.rep {b : Addr} {W : V} {k : Int} {Q : V → Hp → Prop} (hb : H b = some (.list [W])) (hk : k ≤ 1000000) (hk0 : -1000000 ≤ k) (h : ∀ a, H a = none → Q (.ref a) (H.set a (.list (List.replicate k.toNat W)))) : BOP c n .Mult (.ref b) (.int k) H Q := fun A s Z va vb ro a ra rb => by
  (first | obtain ⟨_, rfl⟩ := Rep.I ra | obtain rfl := Rep.R ra | obtain rfl := Rep.B ra | obtain rfl := Rep.N ra | obtain ⟨_, rfl⟩ := Rep.S ra); (first | obtain ⟨_, rfl⟩ := Rep.I rb | obtain rfl := Rep.R rb | obtain rfl := Rep.B rb | obtain rfl := Rep.N rb | obtain ⟨_, rfl⟩ := Rep.S rb)
  rename_i u
  obtain ⟨items, ⟨n1, hl⟩, rs⟩ := a.cell b _ hb
  have e1 : items.size = 1 := by have := rs.1; simpa using this
  obtain ⟨x, hx⟩ : ∃ x, items = #[x] := by
    obtain ⟨l⟩ := items
    match l, e1 with
    | [x], _ => exact ⟨x, rfl⟩
  subst hx
  refine wpAny_binaryOp_repeat_ref (T := "list") (U := "int") (by decide) ⟨_, hl, rfl⟩ (fun s' => typeIs_int s' k u) noFill_list_mul PySem.F.fills_int_mul PySem.F.slot_int_rmul repeat_list PySem.F.slot_int_index.lookup
    (call_meets PySem.F.slot_int_rmul (typeIs_int s k u) PySem.F.entry_int_rmul (PySem.F.args_int_rmul_2 _ _) (int___rmul___int_list k u b #[x] n1)
      ⟨hl, rfl, ⟨_, hl, rfl⟩, call_meets PySem.F.slot_list_mul ⟨_, hl, rfl⟩ PySem.F.entry_list_mul (PySem.F.args_list_mul_2 _ _)
        (AutoListH.list___mul___list_int_3 b #[x] n1 k u (by simp [Builtin.List.listFitsIndex]; lia) (by simp; lia) (by simp [Builtin.List.listTooLong, sizeLine]; lia))
        ⟨hl, ?_⟩⟩)
  have e : List.foldl (fun x1 x2 => x1 ++ x2) #[] (List.replicate (if (#[x] : Array Value).isEmpty = true then 0 else k.toNat) #[x]) = (List.replicate k.toNat x).toArray := by
    rw [show (if (#[x] : Array Value).isEmpty = true then 0 else k.toNat) = k.toNat from rfl, foldl_rep]; simp
  rw [e]
  obtain ⟨w, q, e', r1, r2⟩ := Reps.uncons rs
  simp only [List.cons.injEq] at e'
  obtain ⟨rfl, _⟩ := e'
  obtain ⟨hn, a₂, k₂⟩ := newL (t := s.toks) a (Reps.replicate r1 k.toNat)
  exact ⟨.ref _, _, .ref _, a₂, k₂, h _ hn⟩
noncomputable def isN : V → Bool
  | .none => true
  | _ => false
theorem CMP.isNone {W : V} {Q : Bool → Prop} (h : Q (isN W)) : CMP c n .Is W .none H Q := fun A s Z va vb ro a ra rb => by
  (first | obtain ⟨_, rfl⟩ := Rep.I rb | obtain rfl := Rep.R rb | obtain rfl := Rep.B rb | obtain rfl := Rep.N rb | obtain ⟨_, rfl⟩ := Rep.S rb)
  cases ra <;> first | exact wpAny_is_other rfl (by intro e; cases e) ⟨_, rfl, a, Kp.refl, h⟩ | exact wpAny_is_self rfl ⟨_, rfl, a, Kp.refl, h⟩
theorem CMP.isNotNone {W : V} {Q : Bool → Prop} (h : Q (!isN W)) : CMP c n .IsNot W .none H Q := fun A s Z va vb ro a ra rb => by
  (first | obtain ⟨_, rfl⟩ := Rep.I rb | obtain rfl := Rep.R rb | obtain rfl := Rep.B rb | obtain rfl := Rep.N rb | obtain ⟨_, rfl⟩ := Rep.S rb)
  cases ra <;> first | exact wpAny_isNot_other rfl (by intro e; cases e) ⟨_, rfl, a, Kp.refl, h⟩ | exact wpAny_isNot_self rfl ⟨_, rfl, a, Kp.refl, h⟩
theorem CL.cls {C fI : Addr} {Ws : List V} {Q : V → Hp → Prop} (hm : makesIn c.K C = true) (hi : findIn c.K (.ref C) "__init__" = some (some (.ref fI))) (hf : isFn c.K (.ref fI) = true)
    (h : ∀ x dx, x ≠ dx → H x = none → H dx = none → FN c n (.ref fI) (.ref x :: Ws) ((H.set dx (.ns [])).set x (.inst C dx)) fun W H' => W = .none ∧ Q (.ref x) H') : CL c (n + 1) (.ref C) Ws H Q := fun A s Z vs ro a r => by
  refine wpAny_call ?_
  obtain ⟨hh, g, d, t, os⟩ := s
  have a₀ : HA c.base Z H hh := a
  let s₀ : Shared := ⟨hh, g, d, t, os⟩
  refine make_core (makes_of (fr_base c a₀) hm) (looks_findIn (fr_base c a₀) hi) (fun self => bind_fn (fr_base c a₀) self (beq_iff_eq.mp hf)) (.inl rfl) ?_
  obtain ⟨hn1, a₁, k₁⟩ := HA.alloc (s := s₀) (o := emptyDict) (d := .ns []) (t := t) a₀ rfl fun h' e st => ⟨[], 0, e, rfl, by simp, fun i e p q => by simp at q, fun i e p q => by simp at q⟩
  let s₁ : Shared := ⟨hh.push emptyDict, g, d, t, os⟩
  have e1 : s₁.heap.objs.size = hh.objs.size + 1 := Heap.size_push ..
  obtain ⟨hn2, a₂, k₂⟩ := HA.alloc (s := s₁) (o := instObj C hh.objs.size) (d := .inst C hh.objs.size) (t := t) a₁ rfl fun h' e st => e
  rw [e1] at hn2 a₂ k₂
  have ne : hh.objs.size + 1 ≠ hh.objs.size := by lia
  have hx : H (hh.objs.size + 1) = none := by rw [← Hp.set_ne H (.ns []) ne]; exact hn2
  have st := (k₁.trans k₂).stays (Z := Z) (fun _ f => f.elim)
  refine codeAny_mono (h (hh.objs.size + 1) hh.objs.size ne hx hn1 _ ⟨(hh.push emptyDict).push (instObj C hh.objs.size), g, d, t, os⟩ Z _ ?_ a₂ (Reps.cons (.ref _) (r.mono st))) fun rr s' ⟨v, e, W, H', rv, a', k', hW, q⟩ => ?_
  · refine ⟨ro.handled, ?_, ?_⟩
    · have := ro.depth
      have w : (Code.builtin "type.__call__" ⟨.ref C :: vs, []⟩).weight ≤ 9 := by
        rw [show (Code.builtin "type.__call__" ⟨.ref C :: vs, []⟩).weight = 1 from rfl]; lia
      show A.depth + (Code.builtin "type.__call__" ⟨.ref C :: vs, []⟩).weight + 10 * n < _
      lia
    · have := ro.units
      have w : (Code.builtin "type.__call__" ⟨.ref C :: vs, []⟩).cUnits ≤ 9 := by
        rw [show (Code.builtin "type.__call__" ⟨.ref C :: vs, []⟩).cUnits = 1 from rfl]; lia
      show A.units + (Code.builtin "type.__call__" ⟨.ref C :: vs, []⟩).cUnits + 100 * n < _
      lia
  · subst e hW
    (first | obtain ⟨_, rfl⟩ := Rep.I rv | obtain rfl := Rep.R rv | obtain rfl := Rep.B rv | obtain rfl := Rep.N rv | obtain ⟨_, rfl⟩ := Rep.S rv)
    exact ⟨rfl, .ref _, H', .ref _, a', (k₁.trans k₂).trans k', q⟩
end Mine
end PartC12
section PartC13
open PySem PySem.W PyProof.Rows PySem.Calls
namespace Mine
variable {c : Cx} {n : Nat} {env : Env} {m : Vm} {H : Hp}
theorem ST.while {t : Expr} {b : List Stmt} {p : Pos} {Q : Fl → Vm → Hp → Prop} (I : Nat → Vm → Hp → Prop) (k : Nat) (h0 : I k m H)
    (turn : ∀ k m H, I k m H → TT c n env m H t fun x H' => if x = true then SX c n env m H' b fun F m' H'' => match F with
        | .next => ∃ j, j < k ∧ I j m' H'' | .cont => ∃ j, j < k ∧ I j m' H'' | .brk => Q .next m' H'' | .ret W => Q (.ret W) m' H'' else Q .next m H') : ST c n env m H (.While t b [] p) Q := fun A s Z ro a v => by
  refine wpAny_While (codeAny_whileLoop (fun k s' => ∃ m' H', HA c.base Z H' s'.heap ∧ VA c.base Z env m' (Mut Z H') s'.heap ∧ Kp (Own env) H H' s s' ∧ I k m' H') (fun k s₁ ⟨m₁, H₁, a₁, v₁, k₁, i₁⟩ => ?_) k ⟨m, H, a, v, Kp.refl, h0⟩)
  refine wpAny_mono (turn k m₁ H₁ i₁ A s₁ Z ro a₁ v₁) (fun x s₂ ⟨H₂, a₂, k₂, q⟩ => ?_) fun _ _ f => f.elim
  have v₂ := v₁.step a₁ k₂
  cases x with
  | false =>
    rw [if_neg (by decide)] at q ⊢
    exact wpAny_execs_nil ⟨.next, m₁, H₂, .next, a₂, v₂, k₁.trans k₂.no, q⟩
  | true =>
    rw [if_pos rfl] at q ⊢
    refine wpAny_mono (q A s₂ Z ro a₂ v₂) (fun f s₃ ⟨F, m₃, H₃, fr, a₃, v₃, k₃, q₃⟩ => ?_) fun _ _ f => f.elim
    have kk := (k₁.trans k₂.no).trans k₃
    cases fr with
    | next => obtain ⟨j, hj, i⟩ := q₃; exact ⟨j, hj, m₃, H₃, a₃, v₃, kk, i⟩
    | cont => obtain ⟨j, hj, i⟩ := q₃; exact ⟨j, hj, m₃, H₃, a₃, v₃, kk, i⟩
    | brk => exact ⟨.next, m₃, H₃, .next, a₃, v₃, kk, q₃⟩
    | ret r => exact ⟨.ret _, m₃, H₃, .ret r, a₃, v₃, kk, q₃⟩
end Mine
end PartC13
section PartC14
open PySem PySem.W PyProof.Rows PySem.Calls
namespace Mine
variable {c : Cx} {n : Nat} {env : Env} {m : Vm} {H : Hp}
structure Wk (c : Cx) (Zi : Addr → Prop) (target : Expr) (it : Value) (fp : List Addr) (Ws : List V) (SR : Heap → (Addr → Prop) → Prop) (St : Nat → Heap → Prop) : Prop where
  mono : ∀ h h' M M', Stays h h' M M' → SR h M → SR h' M'
  frame : ∀ i h h', St i h → (∀ b ∈ fp, ∀ o, h.get? b = some o → h'.get? b = some o) → St i h'
  live : ∀ i h a, St i h → Zi a → ∃ o, h.get? a = some o
  inz : ∀ a, Zi a → a ∈ fp
  item : ∀ A i W s M (Q : Value → Shared → Prop), A.handled = none → Ws[i]? = some W → St i s.heap → SR s.heap M → (∀ a, M a → a < s.heap.objs.size) → (∀ a, Zi a → M a) →
    (∀ v h' tk, St (i + 1) h' → (∀ b o, ¬ Zi b → s.heap.get? b = some o → h'.get? b = some o) → Rep h' M v W → Q v { s with heap := h', toks := tk }) →
    wpAny (model c.prog c.w) A (pyNext it) (fun r s₁ => ∃ v, r = some v ∧ wpAny (model c.prog c.w) A (letOwnedTupleGo target it v) (fun _ s₂ => Q v s₂) ff s₁) ff s
  done : ∀ A s M (Q : Shared → Prop), A.handled = none → St Ws.length s.heap → SR s.heap M → (∀ h' tk, (∀ b o, ¬ Zi b → s.heap.get? b = some o → h'.get? b = some o) → Q { s with heap := h', toks := tk }) →
    wpAny (model c.prog c.w) A (pyNext it) (fun r s₁ => r = none ∧ Q s₁) ff s
  self : ∀ A i s (Q : Value → Shared → Prop), St i s.heap → Q it s → wpAny (model c.prog c.w) A (pyIter it) Q ff s
inductive ItAt (c : Cx) (Z : Addr → Prop) (H : Hp) (s : Shared) (target : Expr) (Q : List V → Hp → Prop) (it : Value) (s₂ : Shared) : Prop
  | mk (Zi : Addr → Prop) (fp : List Addr) (Ws : List V) (SR : Heap → (Addr → Prop) → Prop) (St : Nat → Heap → Prop) (H' : Hp) (a : HA c.base (fun b => Z b ∨ Zi b) H' s₂.heap) (k : Kp No H H' s s₂) (w : Wk c Zi target it fp Ws SR St)
    (sr : SR s₂.heap (Mut (fun b => Z b ∨ Zi b) H')) (st : St 0 s₂.heap) (zi : ∀ a, Zi a → s.heap.get? a = none ∧ H' a = none ∧ c.base.get? a = none) (hf : ∀ b ∈ fp, H' b = none ∧ (Zi b ∨ ¬ Z b) ∧ ∃ o, s₂.heap.get? b = some o) (q : Q Ws H')
noncomputable def IT (c : Cx) (n : Nat) (env : Env) (m : Vm) (H : Hp) (target e : Expr) (Q : List V → Hp → Prop) : Prop :=
  ∀ A s Z, Room A n → HA c.base Z H s.heap → VA c.base Z env m (Mut Z H) s.heap →
    wpAny (model c.prog c.w) A (eval e env) (fun x s₁ => wpAny (model c.prog c.w) A (pyIter x) (fun it s₂ => ItAt c Z H s target Q it s₂) ff s₁) ff s
theorem HA.show {base : Heap} {Z Zi : Addr → Prop} {h : Heap} (a : HA base (fun b => Z b ∨ Zi b) H h) : HA base Z H h :=
  ⟨a.keep, fun b d e => (a.cell b d e).mono (fun b o e z => ⟨e, fun y => z (y.imp .inl id)⟩) fun _ e => e, fun b e => ⟨fun z => (a.off b e).1 (.inl z), (a.off b e).2⟩, a.low, fun b z => a.zin b (.inl z), fun b o z e => a.zoff b o (.inl z) e⟩
theorem Stays.show {Z Zi : Addr → Prop} {h : Heap} : Stays h h (Mut (fun b => Z b ∨ Zi b) H) (Mut Z H) := fun b o e z => ⟨e, fun y => z (y.imp .inl id)⟩
theorem VA.rez {base : Heap} {Z Z' : Addr → Prop} {env : Env} {m : Vm} {M M' : Addr → Prop} {h : Heap} (x : VA base Z env m M h) (k : Stays h h M M') (o : ∀ a, Own env a → Z' a) (cc : ∀ x c, env.cells.lookup x = some c → Z' c) : VA base Z' env m M' h :=
  { x with
    var := fun y W hy => (x.var y W hy).mono (Z := Z) k (fun b o z e => e) (x.own _ (.inl rfl)) x.cin
    own := o
    cin := cc }
theorem loop_item {Zi : Addr → Prop} {target : Expr} {it : Value} {fp : List Addr} {Ws : List V} {SR : Heap → (Addr → Prop) → Prop} {St : Nat → Heap → Prop} (K : Wk c Zi target it fp Ws SR St) {A : Around} {s : Shared} {Z : Addr → Prop} {i : Nat} {W : V}
    {Q : Value → Shared → Prop} (ro : Room A n) (hW : Ws[i]? = some W) (a : HA c.base (fun b => Z b ∨ Zi b) H s.heap) (v : VA c.base (fun b => Z b ∨ Zi b) env m (Mut (fun b => Z b ∨ Zi b) H) s.heap) (st : St i s.heap) (sr : SR s.heap (Mut (fun b => Z b ∨ Zi b) H))
    (own : ∀ a, Own env a → ¬ Zi a) (cel : ∀ x c, env.cells.lookup x = some c → ¬ Zi c)
    (h : ∀ w s', HA c.base (fun b => Z b ∨ Zi b) H s'.heap → VA c.base (fun b => Z b ∨ Zi b) env m (Mut (fun b => Z b ∨ Zi b) H) s'.heap → St (i + 1) s'.heap → SR s'.heap (Mut (fun b => Z b ∨ Zi b) H) → Rep s'.heap (Mut (fun b => Z b ∨ Zi b) H) w W →
      (∀ b o, ¬ Zi b → s.heap.get? b = some o → s'.heap.get? b = some o) → s'.gens = s.gens → s'.os = s.os → Q w s') :
    wpAny (model c.prog c.w) A (pyNext it) (fun r s₁ => ∃ w, r = some w ∧ wpAny (model c.prog c.w) A (letOwnedTupleGo target it w) (fun _ s₂ => Q w s₂) ff s₁) ff s := by
  refine K.item A i W s _ _ ro.handled hW st sr (fun a' z => a.mlt z) (fun a z => .inl (.inr z)) fun w h' tk st' kp rw_ => ?_
  have stays : Stays s.heap h' (Mut (fun b => Z b ∨ Zi b) H) (Mut (fun b => Z b ∨ Zi b) H) := fun b o e z => ⟨kp b o (fun y => z (.inl (.inr y))) e, z⟩
  have nz : ∀ b, H b ≠ none → ¬ Zi b := fun b e z => (a.off b e).1 (.inr z)
  refine h w _ ⟨fun b o e => kp b o (fun z => a.zoff b o (.inr z) e) (a.keep b o e), fun b d e => (a.cell b d e).mono stays (fun o e' => kp b o (nz b (by rw [e]; simp)) e'), a.off, a.low, fun b z => ?_, a.zoff⟩ ?_ st' (K.mono _ _ _ _ stays sr) rw_ kp rfl rfl
  · by_cases q : Zi b
    · exact K.live _ _ b st' q
    · obtain ⟨o, e⟩ := a.zin b z; exact ⟨o, kp b o q e⟩
  · exact { v with
      ns := let ⟨f, n⟩ := v.ns; ⟨f, Ns_at n fun o e => kp _ o (own _ (.inl rfl)) e⟩
      dom := fun y W hy => (v.dom y W hy).imp id fun ⟨a, c, w, e, q⟩ => ⟨a, c, w, e, Cell_at q fun o e' => kp _ o (cel _ _ e) e'⟩
      var := fun y W hy => by
        obtain ⟨v', r, z⟩ := v.var y W hy
        exact ⟨v', r.mono stays, z.imp (fun ⟨a, f, n, e⟩ => ⟨a, f, Ns_at n fun o e => kp _ o (own _ (.inl rfl)) e, e⟩) fun ⟨a, c, e, q⟩ => ⟨a, c, e, Cell_at q fun o e' => kp _ o (cel _ _ e) e'⟩⟩ }
theorem Kp.next {Zi O : Addr → Prop} {H H' : Hp} {s s₁ s₂ : Shared} (k : Kp O H H' s s₁) (kp : ∀ b o, ¬ Zi b → s₁.heap.get? b = some o → s₂.heap.get? b = some o) (z : ∀ b, Zi b → s.heap.get? b = none) (g : s₂.gens = s₁.gens) (o : s₂.os = s₁.os) : Kp O H H' s s₂ :=
  have nz : ∀ b o, s.heap.get? b = some o → ¬ Zi b := fun b o e q => by rw [z b q] at e; cases e
  ⟨fun b o e h q => kp b o (nz b o e) (k.same b o e h q), k.new, fun b o e => let ⟨o', e'⟩ := k.there b o e; ⟨o', kp b o' (nz b o e) e'⟩, g.trans k.gens, o.trans k.os⟩
theorem HA.done {base : Heap} {Z Zi : Addr → Prop} {h h' : Heap} (a : HA base (fun b => Z b ∨ Zi b) H h) (zi : ∀ b, Zi b → ¬ Z b) (kp : ∀ b o, ¬ Zi b → h.get? b = some o → h'.get? b = some o) : HA base Z H h' := by
  have nz : ∀ b, H b ≠ none → ¬ Zi b := fun b e z => (a.off b e).1 (.inr z)
  exact ⟨fun b o e => kp b o (fun z => a.zoff b o (.inr z) e) (a.keep b o e), fun b d e => (a.cell b d e).mono (fun b o e z => ⟨kp b o (fun y => z (.inl (.inr y))) e, fun y => z (y.imp .inl id)⟩) (fun o e' => kp b o (nz b (by rw [e]; simp)) e'),
    fun b e => ⟨fun z => (a.off b e).1 (.inl z), (a.off b e).2⟩, a.low, fun b z => let ⟨o, e⟩ := a.zin b (.inl z); ⟨o, kp b o (fun q => zi b q z) e⟩, fun b o z e => a.zoff b o (.inl z) e⟩
theorem VA.done {base : Heap} {Z Zi : Addr → Prop} {h h' : Heap} (v : VA base (fun b => Z b ∨ Zi b) env m (Mut (fun b => Z b ∨ Zi b) H) h) (own : ∀ a, Own env a → Z a) (cel : ∀ x c, env.cells.lookup x = some c → Z c) (zi : ∀ b, Zi b → ¬ Z b)
    (kp : ∀ b o, ¬ Zi b → h.get? b = some o → h'.get? b = some o) : VA base Z env m (Mut Z H) h' :=
  have kz : ∀ b o, Z b → h.get? b = some o → h'.get? b = some o := fun b o z e => kp b o (fun q => zi b q z) e
  { v with
    ns := let ⟨f, n⟩ := v.ns; ⟨f, Ns_at n fun o e => kz _ o (own _ (.inl rfl)) e⟩
    dom := fun y W hy => (v.dom y W hy).imp id fun ⟨a, c, w, e, q⟩ => ⟨a, c, w, e, Cell_at q fun o e' => kz _ o (cel _ _ e) e'⟩
    var := fun y W hy => (v.var y W hy).mono (fun b o e z => ⟨kp b o (fun y => z (.inl (.inr y))) e, fun y => z (y.imp .inl id)⟩) kz (own _ (.inl rfl)) cel
    own := own
    cin := cel }
theorem VA.hide {base : Heap} {Z Zi : Addr → Prop} {H' : Hp} {s s' : Shared} (v : VA base Z env m (Mut Z H) s.heap) (a : HA base Z H s.heap) (k : Kp No H H' s s') (zi : ∀ b, Zi b → s.heap.get? b = none) : VA base (fun b => Z b ∨ Zi b) env m (Mut (fun b => Z b ∨ Zi b) H') s'.heap :=
  v.mono (fun b o e z => ⟨((k.stays (Z := Z) fun _ f => f.elim) b o e z).1, fun y => y.elim (fun y => y.elim (fun y => z (.inl y)) fun y => by rw [zi b y] at e; cases e) fun y => ((k.stays (Z := Z) fun _ f => f.elim) b o e z).2 (.inr y)⟩)
    (fun b o z e => k.same b o e (by
      cases q : H b with
      | none => rfl
      | some c => exact absurd z (a.off b (by rw [q]; simp)).1) id) fun _ z => .inl z
theorem ST.for {target iter : Expr} {body : List Stmt} {p : Pos} {Q : Fl → Vm → Hp → Prop} (I : Nat → Vm → Hp → Prop)
    (h : IT c n env m H target iter fun Ws H' => I 0 m H' ∧ (∀ i W m H, Ws[i]? = some W → I i m H → AS c n env m H target W fun m' H' => SX c n env m' H' body fun F m'' H'' => match F with
        | .next => I (i + 1) m'' H'' | .cont => I (i + 1) m'' H'' | .brk => Q .next m'' H'' | .ret W => Q (.ret W) m'' H'') ∧ ∀ m H, I Ws.length m H → Q .next m H)
    (hs : ∀ x, foldedSetIterable iter env x = pure x := by intro _; rfl) : ST c n env m H (.For target iter body [] p) Q := fun A s Z ro a v => by
  refine wpAny_For (wpAny_mono (h A s Z ro a v) (fun x s₁ h₁ => wpAny_mono h₁ (fun it s₂ h₂ => ?_) fun _ _ f => f.elim) fun _ _ f => f.elim) hs
  obtain ⟨Zi, fp, Ws, SR, St, H₂, a₂, k₂, K, sr, st, zi, hfp, i0, turn, fin⟩ := h₂
  have own : ∀ b, Own env b → ¬ Zi b := fun b o z => by
    obtain ⟨q, e⟩ := a.zin b (v.own b o); rw [(zi b z).1] at e; cases e
  have cel : ∀ x d, env.cells.lookup x = some d → ¬ Zi d := fun x d o z => by
    obtain ⟨q, e⟩ := a.zin d (v.cin x d o); rw [(zi d z).1] at e; cases e
  have zn : ∀ b, Zi b → ¬ Z b := fun b z y => by
    obtain ⟨q, e⟩ := a.zin b y; rw [(zi b z).1] at e; cases e
  have v₂ := v.hide a k₂ (Zi := Zi) fun b z => (zi b z).1
  let INV : Nat → Shared → Prop := fun k s' => ∃ i m' H', HA c.base (fun b => Z b ∨ Zi b) H' s'.heap ∧ VA c.base (fun b => Z b ∨ Zi b) env m' (Mut (fun b => Z b ∨ Zi b) H') s'.heap ∧ Kp (Own env) H H' s s' ∧ St i s'.heap ∧
    SR s'.heap (Mut (fun b => Z b ∨ Zi b) H') ∧ (∀ b ∈ fp, H' b = none ∧ ∃ o, s'.heap.get? b = some o) ∧ i ≤ Ws.length ∧ k + i = Ws.length ∧ I i m' H'
  refine codeAny_forLoop_any INV ?_ Ws.length ⟨0, m, H₂, a₂, v₂, k₂.no, st, sr, fun b hb => ⟨(hfp b hb).1, (hfp b hb).2.2⟩, Nat.zero_le _, rfl, i0⟩
  rintro k s₃ ⟨i, m₃, H₃, a₃, v₃, k₃, st₃, sr₃, fp₃, hi, hk, i₃⟩
  have own' : ∀ b ∈ fp, ¬ Own env b := fun b hb o => (hfp b hb).2.1.elim (own b o) fun z => z (v.own b o)
  by_cases hlt : i < Ws.length
  · have item := loop_item (Q := fun w s₄ => wpAny (model c.prog c.w) A (assign target env w) (fun _ s₅ => wpAny (model c.prog c.w) A (execs body env) (fun f s₆ => match f with
        | .next => ∃ j, j < k ∧ INV j s₆ | .cont => ∃ j, j < k ∧ INV j s₆ | .brk => PostS c Z env H s Q .next s₆ | .ret w => PostS c Z env H s Q (.ret w) s₆) ff s₅) ff s₄)
        K (W := Ws[i]) ro (by simp [hlt]) a₃ v₃ st₃ sr₃ own cel fun w s₄ a₄ v₄ st₄ sr₄ rw_ kp hg ho => by
      refine wpAny_mono (turn i Ws[i] m₃ H₃ (by simp [hlt]) i₃ A s₄ (fun b => Z b ∨ Zi b) w ro a₄ v₄ rw_) (fun _ s₅ ⟨m₅, H₅, a₅, v₅, k₅, q⟩ => ?_) fun _ _ f => f.elim
      refine wpAny_mono (q A s₅ _ ro a₅ v₅) (fun f s₆ ⟨F, m₆, H₆, fr, a₆, v₆, k₆, q₆⟩ => ?_) fun _ _ f => f.elim
      have k46 := k₅.trans k₆
      have kk : Kp (Own env) H H₆ s s₆ := (k₃.next kp (fun b z => (zi b z).1) hg ho).trans k46
      have st₆ : St (i + 1) s₆.heap := K.frame _ _ _ st₄ fun b hb o e => k46.same b o e (fp₃ b hb).1 (own' b hb)
      have sr₆ := K.mono _ _ _ _ (k46.stays v₄.own) sr₄
      have ex : ∀ b ∈ fp, ∃ o, s₄.heap.get? b = some o := fun b hb => by
        by_cases zb : Zi b
        · exact K.live _ _ b st₄ zb
        · obtain ⟨o, e⟩ := (fp₃ b hb).2; exact ⟨o, kp b o zb e⟩
      have fp₆ : ∀ b ∈ fp, H₆ b = none ∧ ∃ o, s₆.heap.get? b = some o := fun b hb => let ⟨o, e⟩ := ex b hb; ⟨k46.new b o e (fp₃ b hb).1, k46.there b o e⟩
      have back := (show HA c.base Z H₆ s₆.heap from a₆.show)
      have vback : VA c.base Z env m₆ (Mut Z H₆) s₆.heap := v₆.rez Stays.show v.own v.cin
      cases fr with
      | next => exact ⟨k - 1, by lia, i + 1, m₆, H₆, a₆, v₆, kk, st₆, sr₆, fp₆, hlt, by lia, q₆⟩
      | cont => exact ⟨k - 1, by lia, i + 1, m₆, H₆, a₆, v₆, kk, st₆, sr₆, fp₆, hlt, by lia, q₆⟩
      | brk => exact ⟨.next, m₆, H₆, .next, back, vback, kk, q₆⟩
      | ret rv => exact ⟨.ret _, m₆, H₆, .ret (rv.mono Stays.show), back, vback, kk, q₆⟩
    refine wpAny_mono item (fun r s₁ ⟨w, e, q⟩ => ?_) fun _ _ f => f.elim
    subst e
    refine wpAny_mono q (fun _ _ q => wpAny_mono q (fun _ _ q => wpAny_mono q (fun f _ q => ?_) fun _ _ f => f.elim) fun _ _ f => f.elim) fun _ _ f => f.elim
    cases f <;> exact q
  · have e : i = Ws.length := by lia
    subst e
    refine wpAny_mono (K.done A s₃ _ (fun s' => PostS c Z env H s Q .next s') ro.handled st₃ sr₃ fun h' tk kp => ?_) (fun r s₁ ⟨e, q⟩ => ?_) fun _ _ f => f.elim
    · exact ⟨.next, m₃, H₃, .next, a₃.done zn kp, v₃.done v.own v.cin zn kp, k₃.next kp (fun b z => (zi b z).1) rfl rfl, fin m₃ H₃ i₃⟩
    · subst e
      exact wpAny_execs_nil q
end Mine
end PartC14
section PartC15
open PySem PySem.W PyProof.Rows PySem.Calls
namespace Mine
variable {c : Cx} {n : Nat} {env : Env} {m : Vm} {H : Hp}
noncomputable def tgt : Expr → Bool
  | .Name _ _ => true
  | .Tuple _ _ _ => true
  | _ => false
theorem stays_hide {base : Heap} {Z Zi : Addr → Prop} {h h' : Heap} (k : ∀ b o, h.get? b = some o → h'.get? b = some o) (zi : ∀ b, Zi b → h.get? b = none) : Stays h h' (Mut Z H) (Mut (fun b => Z b ∨ Zi b) H) := fun b o e z =>
  ⟨k b o e, fun y => y.elim (fun y => y.elim (fun y => z (.inl y)) fun y => by rw [zi b y] at e; cases e) fun y => z (.inr y)⟩
theorem HA.hideNew {base : Heap} {Z Zi : Addr → Prop} {h h' : Heap} (a : HA base Z H h) (k : ∀ b o, h.get? b = some o → h'.get? b = some o) (zi : ∀ b, Zi b → h.get? b = none) (l : ∀ b, Zi b → ∃ o, h'.get? b = some o) : HA base (fun b => Z b ∨ Zi b) H h' :=
  ⟨fun b o e => k b o (a.keep b o e), fun b d e => (a.cell b d e).mono (stays_hide (base := base) k zi) (k b), fun b e => ⟨fun z => z.elim (a.off b e).1 fun z => e (a.free (zi b z)).1, (a.off b e).2⟩, a.low,
    fun b z => z.elim (fun z => let ⟨o, e⟩ := a.zin b z; ⟨o, k b o e⟩) (l b), fun b o z e => z.elim (fun z => a.zoff b o z e) fun z => by rw [(a.free (zi b z)).2.2] at e; cases e⟩
theorem letGo_list {A : Around} {s : Shared} {target : Expr} {I l : Addr} {i : Nat} {v : Value} {Q : Unit → Shared → Prop} (ht : tgt target = true) (hit : s.heap.IsListIter I l i) (hQ : Q () s) : wpAny (model c.prog c.w) A (letOwnedTupleGo target (.ref I) v) Q ff s := by
  cases target <;> first | cases ht | skip
  · exact wpAny_pure hQ
  · cases v <;> first | exact wpAny_letOwnedTupleGo_listiter hit hQ | exact wpAny_pure hQ
theorem Wk.list {target : Expr} {I l : Addr} {Ws : List V} (ht : tgt target = true) : Wk c (fun b => b = I) target (.ref I) [I, l] Ws (fun h M => Rep h M (.ref l) (.lst Ws)) (fun i h => h.IsListIter I l i) where
  mono := fun h h' M M' k r => r.mono k
  frame := fun i h h' st k => st.at fun o e => k I (by simp) o e
  live := fun i h a st z => by subst z; obtain ⟨o, e, _⟩ := st; exact ⟨o, e⟩
  inz := fun a z => by simp [z]
  item := fun A i W s M Q hh hW st sr hM hZ hQ => by
    obtain ⟨b, items, e, hp, nm, rs⟩ := Rep.lst_iff.mp sr
    cases e
    obtain ⟨v, hv, rv⟩ := rs.get hW
    have hl : s.heap.IsList l items := Heap.PlainList.isList hp
    refine wpAny_pyNext_list_item st hl (x := v) (by simpa using hv) fun h' hit' hs' => ⟨v, rfl, letGo_list ht hit' ?_⟩
    have kp : ∀ b o, ¬ b = I → s.heap.get? b = some o → h'.get? b = some o := fun b o q e => (hs'.2 b q).trans e
    exact hQ v h' s.toks hit' kp (rv.mono fun b o e z => ⟨kp b o (fun q => z (hZ b q)) e, z⟩)
  done := fun A s M Q hh st sr hQ => by
    obtain ⟨b, items, e, hp, nm, rs⟩ := Rep.lst_iff.mp sr
    cases e
    have hl : s.heap.IsList l items := Heap.PlainList.isList hp
    exact wpAny_pyNext_list_end hh st hl (by have := rs.1; simp at this; simp [this]) fun h' he' => ⟨rfl, hQ h' s.toks fun b o q e => he' b o q e⟩
  self := fun A i s Q st hQ => wpAny_pyIter_listiter st hQ
theorem Wk.range {target : Expr} {I : Addr} {k : Nat} (ht : ∃ x p, target = .Name x p) : Wk c (fun b => b = I) target (.ref I) [I] ((List.range k).map fun (i : Nat) => V.int i) (fun _ _ => True) (fun i h => IsRangeIter h I (0 + (i : Nat) * 1) ((k : Int) - (i : Nat)) 1) where
  mono := fun h h' M M' k r => r
  frame := fun i h h' st k => k I (by simp) _ st
  live := fun i h a st z => by subst z; exact ⟨_, st⟩
  inz := fun a z => by simp [z]
  item := fun A i W s M Q hh hW st sr hM hZ hQ => by
    obtain ⟨hi, eW⟩ : i < k ∧ V.int (i : Nat) = W := by
      rw [List.getElem?_map] at hW
      cases q : (List.range k)[i]? with
      | none => rw [q] at hW; cases hW
      | some j =>
        rw [q] at hW
        have hlt := (List.getElem?_eq_some_iff.mp q).1
        rw [List.getElem?_eq_getElem hlt] at q; simp at q hlt; subst q
        cases hW; exact ⟨hlt, rfl⟩
    refine (Walks.range (prog := c.prog) (w := c.w) (A := A) hh I 0 1 k).item i s _ _ hi st fun v h' tk ⟨t, e⟩ st' kp => ⟨v, rfl, ?_⟩
    obtain ⟨x, p, rfl⟩ := ht
    refine wpAny_pure (hQ v h' tk st' (fun b o q e => kp b o (by simpa using q) e) ?_)
    subst e
    have : W = .int (0 + i * 1) := by rw [← eW]; simp
    rw [this]
    exact .int _ _
  done := fun A s M Q hh st sr hQ => by
    refine (Walks.range (prog := c.prog) (w := c.w) (A := A) hh I 0 1 k).done s _ _ (by simpa using st) fun h' tk kp => ⟨rfl, hQ h' tk fun b o q e => kp b o (by simpa using q) e⟩
  self := fun A i s Q st hQ => wpAny_pyIter_rangeiter st hQ
theorem Wk.enum {ts : List Expr} {k : Nat} {p : Pos} {e it l : Addr} {Ws : List V} (hei : e ≠ it) (hle : l ≠ e) (hli : l ≠ it) : Wk c (fun b => b = e ∨ b = it) (.Tuple ts k p) (.ref e) [e, it, l] ((List.range Ws.length).zipWith (fun (i : Nat) W => .tup [.int i, W]) Ws) (fun h M => Rep h M (.ref l) (.lst Ws))
    (fun i h => (∃ old, IsEnum h e it i old) ∧ h.IsListIter it l i) where
  mono := fun h h' M M' k r => r.mono k
  frame := fun i h h' ⟨⟨old, he⟩, st⟩ k => ⟨⟨old, k e (by simp) _ he⟩, st.at fun o e => k it (by simp) o e⟩
  live := fun i h a ⟨⟨old, he⟩, st⟩ z => by
    rcases z with rfl | rfl
    · exact ⟨_, he⟩
    · obtain ⟨o, e, _⟩ := st; exact ⟨o, e⟩
  inz := fun a z => by rcases z with rfl | rfl <;> simp
  item := fun A i W s M Q hh hW st sr hM hZ hQ => by
    obtain ⟨⟨old, he⟩, hit⟩ := st
    obtain ⟨b, items, e', hp, nm, rs⟩ := Rep.lst_iff.mp sr
    cases e'
    obtain ⟨i', X, h1, h2, rfl⟩ : ∃ (i' : Nat) (X : V), (List.range Ws.length)[i]? = some i' ∧ Ws[i]? = some X ∧ W = .tup [.int i', X] := by
      rw [List.getElem?_zipWith] at hW
      split at hW
      · rename_i a b e1 e2; cases hW; exact ⟨_, _, e1, e2, rfl⟩
      · cases hW
    have : i' = i := by
      have hlt := (List.getElem?_eq_some_iff.mp h1).1
      rw [List.getElem?_eq_getElem hlt] at h1; simp at h1; exact h1.symm
    subst this
    obtain ⟨v, hv, rv⟩ := rs.get h2
    have hl : s.heap.IsList l items := Heap.PlainList.isList hp
    refine wpAny_pyNext_enum_item he hit hl (x := v) (by simpa using hv) hei fun h₁ heo hit₁ ht₁ hz₁ hk₁ => ⟨_, rfl, wpAny_letOwnedTupleGo_enum heo fun h₂ he₂ hs₂ => ?_⟩
    have helt : e < s.heap.objs.size := Heap.lt_size he
    have kp : ∀ b o, ¬ (b = e ∨ b = it) → s.heap.get? b = some o → h₂.get? b = some o := fun b o q e => (hs₂.2 b fun z => q (.inl z)).trans (hk₁ b o (fun z => q (.inl z)) (fun z => q (.inr z)) e)
    refine hQ _ h₂ _ ⟨⟨v, by simpa using he₂⟩, hit₁.at fun o y => (hs₂.2 it hei.symm).trans y⟩ kp ?_
    refine Rep.tup_iff.mpr ⟨_, #[.int i' s.toks, v], rfl, ⟨_, (hs₂.2 _ (Nat.ne_of_gt helt)).trans ht₁, rfl, _, rfl⟩, fun z => Nat.lt_irrefl _ (hM _ z), ?_⟩
    exact Reps.cons (.int _ _) (Reps.cons (rv.mono fun b o e z => ⟨kp b o (fun q => z (hZ b q)) e, z⟩) Reps.nil)
  done := fun A s M Q hh st sr hQ => by
    obtain ⟨⟨old, he⟩, hit⟩ := st
    obtain ⟨b, items, e', hp, nm, rs⟩ := Rep.lst_iff.mp sr
    cases e'
    have hl : s.heap.IsList l items := Heap.PlainList.isList hp
    refine wpAny_pyNext_enum_end hh he hit hl (by have := rs.1; simp at this; simp [this]) fun h' hx => ⟨rfl, hQ h' s.toks fun b o q e => hx b o (fun z => q (.inr z)) e⟩
  self := fun A i s Q ⟨⟨old, he⟩, st⟩ hQ => wpAny_pyIter_enum he hQ
end Mine
end PartC15
section PartC16
open PySem PySem.W PyProof.Rows PySem.Calls
namespace Mine
variable {c : Cx} {n : Nat} {env : Env} {m : Vm} {H : Hp}
theorem callP {f : Value} {args : List Expr} {p : Pos} {R : List V → Hp → Prop} {P : Value → Shared → Prop} {A : Around} {s : Shared} {Z : Addr → Prop} (ro : Room A n) (a : HA c.base Z H s.heap) (v : VA c.base Z env m (Mut Z H) s.heap)
    (hk : ∀ h, c.K.In h → ∃ k, (k = Keeper.frame ∨ k = Keeper.machine ∨ k = Keeper.boundFrame) ∧ Looks (model c.prog c.w) h (keeperOf f) k)
    (h : ES c n env m H args R) (hc : ∀ vs s₁ Ws H', Reps s₁.heap (Mut Z H') vs Ws → HA c.base Z H' s₁.heap → Kp No H H' s s₁ → R Ws H' → wpAny (model c.prog c.w) A (call f vs []) P ff s₁) (hp : plainEs args = true) :
    wpAny (model c.prog c.w) A (callWith p f [] (backTo p (starEach args env)) []) P ff s := by
  refine callWith_of (P := c.K.In) (by rw [plain_any args hp]; rfl) hk ?_
  have fin : ∀ vs s₁, PostE c Z H s args.length R vs s₁ →
      c.K.In s₁.heap ∧ wpAny (model c.prog c.w) A (call f ([] ++ vs) []) P ff s₁ := by
    rintro vs s₁ ⟨Ws, H', rs, _, a', k, q⟩
    exact ⟨fr_base c a', hc vs s₁ Ws H' rs a' k q⟩
  cases args with
  | nil =>
    refine evalArgs_empty (wpAny_mono (h A s Z p ro a v) (fun vs s₁ x => fin vs s₁ x) fun _ _ f => f)
  | cons e r =>
    obtain ⟨h1, h2⟩ := starEach_cons (env := env) hp
    have hh := h A s Z p ro a v
    rw [h1] at hh ⊢
    exact evalArgs_plain (wpAny_mono hh (fun vs s₁ x => fin vs s₁ x) fun _ _ f => f)
theorem callBP {x : Str} {p pos : Pos} {args : List Expr} {f : Value} {R : List V → Hp → Prop} {P : Value → Shared → Prop} {A : Around} {s : Shared} {Z : Addr → Prop} (ro : Room A n) (a : HA c.base Z H s.heap) (v : VA c.base Z env m (Mut Z H) s.heap)
    (hg : nsIn c.K mainGlobals x = some none) (hb : bootBuiltins x = some f) (hn : x ≠ "__name__") (hf : ∀ a, f ≠ .ref a) (hx : env.kindOf x = some .globalImplicit)
    (h : ES c n env m H args R) (hc : ∀ vs s₁ Ws H', Reps s₁.heap (Mut Z H') vs Ws → HA c.base Z H' s₁.heap → Kp No H H' s s₁ → R Ws H' → wpAny (model c.prog c.w) A (call f vs []) P ff s₁)
    (hp : plainEs args = true := by rfl) (hd : (x == ("__debug__" : Str)) = false := by decide) : wpAny (model c.prog c.w) A (eval (.Call (.Name x p) args [] pos) env) P ff s := by
  rw [eval_callName]
  refine wpAny_bind (Name_function_global v.kind hx (loadGlobal_builtin (env := env) (mg := c.mg) (mb := c.mb) ?_ (mg_none_of c.X c.T.g hg) ?_ ((c.T.builtins x hn).trans hb) ?_) hd)
  · rw [v.glob]; exact c.T.g.keeps a.keep
  · rw [v.bi]; exact c.T.b.keeps a.keep
  · exact callP ro a v (fun h _ => keeps_plain hf h) h hc hp
theorem size_free {h : Heap} {a : Addr} (e : h.objs.size ≤ a) : h.get? a = none := by
  cases q : h.get? a with
  | none => rfl
  | some o => exact absurd (Heap.lt_size q) (Nat.not_lt.mpr e)
theorem ItAt.mk' {Z Zi : Addr → Prop} {H H₁ : Hp} {s s₁ s₂ : Shared} {target : Expr} {Q : List V → Hp → Prop} {it : Value} {fp : List Addr} {Ws : List V} {SR : Heap → (Addr → Prop) → Prop} {St : Nat → Heap → Prop}
    (a₁ : HA c.base Z H₁ s₁.heap) (k₁ : Kp No H H₁ s s₁) (kp : ∀ b o, s₁.heap.get? b = some o → s₂.heap.get? b = some o) (g : s₂.gens = s₁.gens) (o : s₂.os = s₁.os) (zi : ∀ b, Zi b → s₁.heap.get? b = none) (K : Wk c Zi target it fp Ws SR St)
    (sr : SR s₁.heap (Mut Z H₁)) (st : St 0 s₂.heap) (hfp : ∀ b ∈ fp, Zi b ∨ (¬ Mut Z H₁ b ∧ ∃ o, s₁.heap.get? b = some o)) (q : Q Ws H₁) : ItAt c Z H s target Q it s₂ := by
  have ex : ∀ b, Zi b → ∃ o, s₂.heap.get? b = some o := fun b z => K.live 0 _ b st z
  refine ⟨Zi, fp, Ws, SR, St, H₁, a₁.hideNew kp zi ex, ⟨fun b o e h q => kp b o (k₁.same b o e h q), k₁.new, fun b o e => let ⟨o', e'⟩ := k₁.there b o e; ⟨o', kp b o' e'⟩, g.trans k₁.gens, o.trans k₁.os⟩, K, K.mono _ _ _ _ (stays_hide (base := c.base) kp zi) sr, st, fun b z => ?_, fun b hb => ?_, q⟩
  · refine ⟨?_, (a₁.free (zi b z)).1, (a₁.free (zi b z)).2.2⟩
    cases q : s.heap.get? b with
    | none => rfl
    | some o => obtain ⟨o', e⟩ := k₁.there b o q; rw [zi b z] at e; cases e
  · rcases hfp b hb with z | ⟨nm, o, e⟩
    · exact ⟨(a₁.free (zi b z)).1, .inl z, ex b z⟩
    · refine ⟨?_, .inr fun z => nm (.inl z), o, kp b o e⟩
      cases q : H₁ b with
      | none => rfl
      | some d => exact absurd (.inr (by rw [q]; simp)) nm
theorem IT.lst {target e : Expr} {Q : List V → Hp → Prop} (h : EV c n env m H e fun W H' => ∃ Ws, W = .lst Ws ∧ Q Ws H') (ht : tgt target = true := by rfl) : IT c n env m H target e Q := fun A s Z ro a v => by
  refine h.then ro a v fun v' s₁ W H₁ r a₁ v₁ k₁ ⟨Ws, e, q⟩ => ?_
  subst e
  obtain ⟨l, items, rfl, hp, nm, rs⟩ := Rep.lst_iff.mp r
  have hl : s₁.heap.IsList l items := Heap.PlainList.isList hp
  refine wpAny_pyIter_list hl ?_
  refine ItAt.mk' (s₁ := s₁) a₁ k₁ (fun b o e => Heap.get?_push_of_some _ e) rfl rfl (Zi := fun b => b = s₁.heap.objs.size) (fun b z => by rw [z]; exact size_free (Nat.le_refl _)) (Wk.list ht) r ⟨_, Heap.get?_push_size _ rfl, rfl, rfl⟩ (fun b hb => ?_) q
  simp at hb
  rcases hb with rfl | rfl
  · exact .inl rfl
  · obtain ⟨_, e⟩ := hp; exact .inr ⟨nm, _, e⟩
theorem IT.range {x : Str} {p pos : Pos} {arg : Expr} {px : Pos} {y : Str} {Q : List V → Hp → Prop} (hg : nsIn c.K mainGlobals "range" = some none) (hb : bootBuiltins "range" = some (.type "range")) (hx : env.kindOf "range" = some .globalImplicit)
    (h : EV c n env m H arg fun W H' => ∃ k : Int, W = .int k ∧ k < 2 ^ 62 ∧ -(2 ^ 62) ≤ k ∧ Q ((List.range k.toNat).map fun (i : Nat) => V.int i) H') (hp : plainEs [arg] = true := by rfl) : IT c n env m H (.Name y px) (.Call (.Name "range" p) [arg] [] pos) Q := fun A s Z ro a v => by
  refine callBP (R := fun Ws H' => ∃ k : Int, Ws = [.int k] ∧ k < 2 ^ 62 ∧ -(2 ^ 62) ≤ k ∧ Q ((List.range k.toNat).map fun (i : Nat) => V.int i) H') ro a v hg hb (by decide) (fun a e => by cases e) hx (ES.cons (h.mono fun W H' q => ES.nil ?_) (starEach_cons hp).1) ?_ hp
  · obtain ⟨k, rfl, q⟩ := q; exact ⟨k, rfl, q⟩
  · rintro vs s₁ Ws H₁ rs a₁ k₁ ⟨k, rfl, h1, h2, q⟩
    obtain ⟨v, r, rfl, rv, rr⟩ := rs.uncons
    rw [rr.unnil]
    (first | obtain ⟨_, rfl⟩ := Rep.I rv | obtain rfl := Rep.R rv | obtain rfl := Rep.B rv | obtain rfl := Rep.N rv | obtain ⟨_, rfl⟩ := Rep.S rv)
    refine call_range_1 ?_
    refine wpAny_pyIter_range (Heap.get?_push_size _ rfl) (small_one (by decide) (by decide) h2 h1) ?_
    have z1 : (s₁.heap.push { cls := .type "range", data := .fields #[.int 0 s₁.toks, .int k ‹Tok›, .int 1 (s₁.toks + 1)] }).objs.size = s₁.heap.objs.size + 1 := Heap.size_push ..
    refine ItAt.mk' (s₁ := s₁) a₁ k₁ (fun b o e => Heap.get?_push_of_some _ (Heap.get?_push_of_some _ e)) rfl rfl (Zi := fun b => b = _) (fun b z => by rw [z, z1]; exact size_free (Nat.le_succ _)) (Wk.range (k := k.toNat) ⟨_, _, rfl⟩) trivial ?_ (fun b hb => .inl (by simpa using hb)) q
    have e : Builtin.Range.rangeSize 0 k 1 = (k.toNat : Int) - ((0 : Nat) : Int) := by rw [rangeSize_one]; split <;> lia
    rw [← e]
    exact Heap.get?_push_size _ rfl
theorem IT.enum {p pos pt : Pos} {arg : Expr} {ts : List Expr} {kt : Nat} {Q : List V → Hp → Prop} (hg : nsIn c.K mainGlobals "enumerate" = some none) (hb : bootBuiltins "enumerate" = some (.type "enumerate")) (hx : env.kindOf "enumerate" = some .globalImplicit)
    (h : EV c n env m H arg fun W H' => ∃ Ws, W = .lst Ws ∧ Q ((List.range Ws.length).zipWith (fun (i : Nat) W => .tup [.int i, W]) Ws) H') (hp : plainEs [arg] = true := by rfl) : IT c n env m H (.Tuple ts kt pt) (.Call (.Name "enumerate" p) [arg] [] pos) Q := fun A s Z ro a v => by
  refine callBP (R := fun Ws H' => ∃ k, Ws = [.lst k] ∧ Q ((List.range k.length).zipWith (fun (i : Nat) W => .tup [.int i, W]) k) H') ro a v hg hb (by decide) (fun a e => by cases e) hx (ES.cons (h.mono fun W H' q => ES.nil ?_) (starEach_cons hp).1) ?_ hp
  · obtain ⟨k, rfl, q⟩ := q; exact ⟨k, rfl, q⟩
  · rintro vs s₁ Ws H₁ rs a₁ k₁ ⟨k, rfl, q⟩
    obtain ⟨v, r, rfl, rv, rr⟩ := rs.uncons
    rw [rr.unnil]
    obtain ⟨l, items, rfl, hp', nm, rs'⟩ := Rep.lst_iff.mp rv
    have hl : s₁.heap.IsList l items := Heap.PlainList.isList hp'
    have ll : l < s₁.heap.objs.size := by obtain ⟨_, e⟩ := hp'; exact Heap.lt_size e
    refine call_enumerate_list hl fun h' he hit hz kp => wpAny_pyIter_enum he ?_
    refine ItAt.mk' (s₁ := s₁) (s₂ := { s₁ with heap := h' }) a₁ k₁ kp rfl rfl (fun b z => ?_) (Wk.enum (e := s₁.heap.objs.size + 1) (it := s₁.heap.objs.size) (l := l) (Nat.succ_ne_self _) (Nat.ne_of_lt (Nat.lt_succ_of_lt ll)) (Nat.ne_of_lt ll)) rv ⟨⟨_, he⟩, hit⟩ (fun b hb => ?_) q
    · rcases z with rfl | rfl
      · exact size_free (Nat.le_succ _)
      · exact size_free (Nat.le_refl _)
    · simp at hb
      rcases hb with rfl | rfl | rfl
      · exact .inl (.inl rfl)
      · exact .inl (.inr rfl)
      · obtain ⟨_, e⟩ := hp'; exact .inr ⟨nm, _, e⟩
end Mine
end PartC16
section PartC17
open PySem PySem.W PyProof.Rows PySem.Calls
namespace Mine
noncomputable abbrev IsTrip (h : Heap) (T : Addr) (a b d : Value) : Prop := h.get? T = some { cls := .type "tuple", data := .seq #[a, b, d] }
structure Z3 (z TI TO i1 i2 i3 l1 l2 l3 : Addr) : Prop where
  TIz : TI ≠ z
  TOz : TO ≠ z
  i1z : i1 ≠ z
  i2z : i2 ≠ z
  i3z : i3 ≠ z
  TITO : TI ≠ TO
  TIi1 : TI ≠ i1
  TIi2 : TI ≠ i2
  TIi3 : TI ≠ i3
  TOi1 : TO ≠ i1
  TOi2 : TO ≠ i2
  TOi3 : TO ≠ i3
  i12 : i1 ≠ i2
  i13 : i1 ≠ i3
  i23 : i2 ≠ i3
  l1 : l1 ≠ z ∧ l1 ≠ TO ∧ l1 ≠ i1 ∧ l1 ≠ i2 ∧ l1 ≠ i3
  l2 : l2 ≠ z ∧ l2 ≠ TO ∧ l2 ≠ i1 ∧ l2 ≠ i2 ∧ l2 ≠ i3
  l3 : l3 ≠ z ∧ l3 ≠ TO ∧ l3 ≠ i1 ∧ l3 ≠ i2 ∧ l3 ≠ i3
section
variable {prog : Program} {w : World} {A : Around} {E : Value → Shared → Prop} {s : Shared}
theorem updateSeq_trip {T : Addr} {a b d x : Value} {k : Nat} {Q : Unit → Shared → Prop} (hT : IsTrip s.heap T a b d)
    (h : ∀ h', h'.get? T = some { cls := .type "tuple", data := .seq ((#[a, b, d] : Array Value).setIfInBounds k x) } → Heap.SameBut T s.heap h' → Q () { s with heap := h' }) :
    wpAny (model prog w) A (updateSeq T (·.setIfInBounds k x)) Q E s := by
  refine wpAny_updateSeq hT rfl (h _ ?_ (Heap.SameBut.update ..))
  rw [Heap.get?_update_self _ hT rfl]
  simp [Obj.mapSeq]
theorem zip3_item {z TI TO i1 i2 i3 l1 l2 l3 : Addr} {k : Nat} {xs ys us : Array Value} {x y u a b d : Value} {Q : Value → Shared → Prop} (D : Z3 z TI TO i1 i2 i3 l1 l2 l3)
    (hz : IsZip s.heap z TI TO .none) (hTI : IsTrip s.heap TI (.ref i1) (.ref i2) (.ref i3)) (hTO : IsTrip s.heap TO a b d)
    (h1 : s.heap.IsListIter i1 l1 k) (h2 : s.heap.IsListIter i2 l2 k) (h3 : s.heap.IsListIter i3 l3 k) (hl1 : s.heap.IsList l1 xs) (hl2 : s.heap.IsList l2 ys) (hl3 : s.heap.IsList l3 us)
    (hx : xs[k]? = some x) (hy : ys[k]? = some y) (hu : us[k]? = some u)
    (hQ : ∀ h', IsZip h' z TI TO (rawInt s.heap.objs.size) → IsTrip h' TO x y u → h'.IsListIter i1 l1 (k + 1) → h'.IsListIter i2 l2 (k + 1) → h'.IsListIter i3 l3 (k + 1) → IsTrip h' s.heap.objs.size x y u →
      (∀ c o, c ≠ z → c ≠ TO → c ≠ i1 → c ≠ i2 → c ≠ i3 → s.heap.get? c = some o → h'.get? c = some o) → Q (.ref s.heap.objs.size) { s with heap := h' }) :
    wpAny (model prog w) A (Builtin.«zip.__next__» ⟨[.ref z], []⟩) (fun fin s' => ∃ v, fin = .done (.ret v) ∧ Q v s') E s := by
  show wpAny _ _ (field (.ref z) 2 >>= _) _ _ _
  refine wpAny_bind (wpAny_field hz rfl (x := .bool false) rfl ?_)
  show wpAny _ _ (field (.ref z) 3 >>= _) _ _ _
  refine wpAny_bind (wpAny_field hz rfl (x := .ref TI) rfl ?_)
  refine wpAny_bind (wpAny_seqItems hTI rfl ?_)
  show wpAny _ _ (Builtin.SmallTypes.ownedTupleIsFree (.ref z) >>= _) _ _ _
  refine wpAny_bind ?_
  unfold Builtin.SmallTypes.ownedTupleIsFree
  refine wpAny_bind (wpAny_field hz rfl (x := .none) rfl (wpAny_pure ?_))
  simp only [if_true]
  refine wpAny_bind (wpAny_rule ?_)
  refine wpAny_bind (wpAny_field hz rfl (x := .ref TO) rfl ?_)
  refine wpAny_bind (wpAny_setField_rec hz (by simp) fun h₁ hz₁ hs₁ => ?_)
  replace hz₁ : IsZip h₁ z TI TO .ellipsis := hz₁
  replace hs₁ : Heap.SameBut z s.heap h₁ := hs₁
  refine wpAny_bind ?_
  simp only [List.zipIdx_cons, List.zipIdx_nil, List.forIn_cons, List.forIn_nil]
  have o1 : ∀ c o, c ≠ z → s.heap.get? c = some o → h₁.get? c = some o := fun c o q e => hs₁.extBut _ _ q e
  refine wpAny_bind (wpAny_bind (wpAny_onRaise ?_))
  show wpAny _ _ (Builtin.SmallTypes.nextOf (.ref i1) >>= _) _ _ _
  refine wpAny_bind (wpAny_nextOf_list_item (h1.at fun o e => o1 _ o D.i1z e) (hl1.at fun o e => o1 _ o D.l1.1 e) hx fun h₂ h1₂ hs₂ => wpAny_pure ?_)
  replace hs₂ : Heap.SameBut i1 h₁ h₂ := hs₂
  have o2 : ∀ c o, c ≠ i1 → h₁.get? c = some o → h₂.get? c = some o := fun c o q e => hs₂.extBut _ _ q e
  have hTO₂ : IsTrip h₂ TO a b d := o2 _ _ D.TOi1 (o1 _ _ D.TOz hTO)
  refine wpAny_bind (wpAny_seqItems hTO₂ rfl ?_)
  refine wpAny_bind (updateSeq_trip hTO₂ fun h₃ hTO₃ hs₃ => ?_)
  replace hs₃ : Heap.SameBut TO h₂ h₃ := hs₃
  replace hTO₃ : IsTrip h₃ TO x b d := hTO₃
  have o3 : ∀ c o, c ≠ TO → h₂.get? c = some o → h₃.get? c = some o := fun c o q e => hs₃.extBut _ _ q e
  refine wpAny_bind (wpAny_letGo (wpAny_pure ?_))
  refine wpAny_bind (wpAny_bind (wpAny_onRaise ?_))
  show wpAny _ _ (Builtin.SmallTypes.nextOf (.ref i2) >>= _) _ _ _
  refine wpAny_bind (wpAny_nextOf_list_item (h2.at fun o e => o3 _ o D.TOi2.symm (o2 _ o D.i12.symm (o1 _ o D.i2z e))) (hl2.at fun o e => o3 _ o D.l2.2.1 (o2 _ o D.l2.2.2.1 (o1 _ o D.l2.1 e))) hy fun h₄ h2₄ hs₄ => wpAny_pure ?_)
  replace hs₄ : Heap.SameBut i2 h₃ h₄ := hs₄
  have o4 : ∀ c o, c ≠ i2 → h₃.get? c = some o → h₄.get? c = some o := fun c o q e => hs₄.extBut _ _ q e
  have hTO₄ : IsTrip h₄ TO x b d := o4 _ _ D.TOi2 hTO₃
  refine wpAny_bind (wpAny_seqItems hTO₄ rfl ?_)
  refine wpAny_bind (updateSeq_trip hTO₄ fun h₅ hTO₅ hs₅ => ?_)
  replace hs₅ : Heap.SameBut TO h₄ h₅ := hs₅
  replace hTO₅ : IsTrip h₅ TO x y d := hTO₅
  have o5 : ∀ c o, c ≠ TO → h₄.get? c = some o → h₅.get? c = some o := fun c o q e => hs₅.extBut _ _ q e
  refine wpAny_bind (wpAny_letGo (wpAny_pure ?_))
  refine wpAny_bind (wpAny_bind (wpAny_onRaise ?_))
  show wpAny _ _ (Builtin.SmallTypes.nextOf (.ref i3) >>= _) _ _ _
  refine wpAny_bind (wpAny_nextOf_list_item (h3.at fun o e => o5 _ o D.TOi3.symm (o4 _ o D.i23.symm (o3 _ o D.TOi3.symm (o2 _ o D.i13.symm (o1 _ o D.i3z e)))))
    (hl3.at fun o e => o5 _ o D.l3.2.1 (o4 _ o D.l3.2.2.2.1 (o3 _ o D.l3.2.1 (o2 _ o D.l3.2.2.1 (o1 _ o D.l3.1 e))))) hu fun h₆ h3₆ hs₆ => wpAny_pure ?_)
  replace hs₆ : Heap.SameBut i3 h₅ h₆ := hs₆
  have o6 : ∀ c o, c ≠ i3 → h₅.get? c = some o → h₆.get? c = some o := fun c o q e => hs₆.extBut _ _ q e
  have hTO₆ : IsTrip h₆ TO x y d := o6 _ _ D.TOi3 hTO₅
  refine wpAny_bind (wpAny_seqItems hTO₆ rfl ?_)
  refine wpAny_bind (updateSeq_trip hTO₆ fun h₇ hTO₇ hs₇ => ?_)
  replace hs₇ : Heap.SameBut TO h₆ h₇ := hs₇
  replace hTO₇ : IsTrip h₇ TO x y u := hTO₇
  have o7 : ∀ c o, c ≠ TO → h₆.get? c = some o → h₇.get? c = some o := fun c o q e => hs₇.extBut _ _ q e
  refine wpAny_bind (wpAny_letGo (wpAny_pure (wpAny_pure ?_)))
  refine wpAny_bind (wpAny_seqItems hTO₇ rfl ?_)
  refine wpAny_bind (wpAny_newTuple ?_)
  have hsz : h₇.objs.size = s.heap.objs.size := by rw [hs₇.1, hs₆.1, hs₅.1, hs₄.1, hs₃.1, hs₂.1, hs₁.1]
  have hz₇ : IsZip h₇ z TI TO .ellipsis := o7 _ _ D.TOz.symm (o6 _ _ D.i3z.symm (o5 _ _ D.TOz.symm (o4 _ _ D.i2z.symm (o3 _ _ D.TOz.symm (o2 _ _ D.i1z.symm hz₁)))))
  have hk : ∀ c o, c ≠ z → c ≠ TO → c ≠ i1 → c ≠ i2 → c ≠ i3 → s.heap.get? c = some o → h₇.get? c = some o := fun c o c1 c2 c3 c4 c5 e =>
    o7 _ _ c2 (o6 _ _ c5 (o5 _ _ c2 (o4 _ _ c4 (o3 _ _ c2 (o2 _ _ c3 (o1 _ _ c1 e))))))
  have h1₇ : h₇.IsListIter i1 l1 (k + 1) := h1₂.at fun o e => o7 _ _ D.TOi1.symm (o6 _ _ D.i13 (o5 _ _ D.TOi1.symm (o4 _ _ D.i12 (o3 _ _ D.TOi1.symm e))))
  have h2₇ : h₇.IsListIter i2 l2 (k + 1) := h2₄.at fun o e => o7 _ _ D.TOi2.symm (o6 _ _ D.i23 (o5 _ _ D.TOi2.symm e))
  have h3₇ : h₇.IsListIter i3 l3 (k + 1) := h3₆.at fun o e => o7 _ _ D.TOi3.symm e
  have hzlt : z < h₇.objs.size := Heap.lt_size hz₇
  show wpAny _ _ (Builtin.SmallTypes.ownedTupleHandOut (.ref z) (.ref h₇.objs.size) >>= _) _ _ _
  refine wpAny_bind ?_
  unfold Builtin.SmallTypes.ownedTupleHandOut
  have hz₈ : IsZip (h₇.push { cls := .type "tuple", data := .seq #[x, y, u] }) z TI TO .ellipsis := Heap.get?_push_of_some _ hz₇
  refine wpAny_bind (wpAny_setField_rec hz₈ (by simp) fun h₉ hz₉ hs₉ => ?_)
  replace hs₉ : Heap.SameBut z (h₇.push { cls := .type "tuple", data := .seq #[x, y, u] }) h₉ := hs₉
  replace hz₉ : IsZip h₉ z TI TO (rawInt h₇.objs.size) := hz₉
  refine wpAny_setField_rec hz₉ (by simp) fun hA hzA hsA => ?_
  replace hsA : Heap.SameBut z h₉ hA := hsA
  replace hzA : IsZip hA z TI TO (rawInt h₇.objs.size) := hzA
  have up : ∀ c o, c ≠ z → h₇.get? c = some o → hA.get? c = some o := fun c o c1 e => hsA.extBut _ _ c1 (hs₉.extBut _ _ c1 (Heap.get?_push_of_some _ e))
  have hTA : IsTrip hA h₇.objs.size x y u := hsA.extBut _ _ (Nat.ne_of_gt hzlt) (hs₉.extBut _ _ (Nat.ne_of_gt hzlt) (Heap.get?_push_size _ rfl))
  rw [hsz] at hzA hTA
  refine wpAny_pure ⟨_, rfl, ?_⟩
  show Q (.ref h₇.objs.size) _
  rw [hsz]
  exact hQ hA hzA (up _ _ D.TOz hTO₇) (h1₇.at fun o e => up _ o D.i1z e) (h2₇.at fun o e => up _ o D.i2z e) (h3₇.at fun o e => up _ o D.i3z e) hTA fun c o c1 c2 c3 c4 c5 e => up c o c1 (hk c o c1 c2 c3 c4 c5 e)
theorem zip3_end {z TI TO i1 i2 i3 l1 : Addr} {k : Nat} {xs : Array Value} {Q : Fin → Shared → Prop} (hh : A.handled = none)
    (hi : i1 ≠ z) (hl : l1 ≠ z)
    (hz : IsZip s.heap z TI TO .none) (hTI : IsTrip s.heap TI (.ref i1) (.ref i2) (.ref i3))
    (h1 : s.heap.IsListIter i1 l1 k) (hl1 : s.heap.IsList l1 xs) (hend : xs[k]? = none)
    (hE : ∀ h' e, (∀ c o, c ≠ z → c ≠ i1 → s.heap.get? c = some o → h'.get? c = some o) → (∃ o, h'.get? e = some o ∧ o.cls = .type "StopIteration") → E (.ref e) { s with heap := h' }) :
    wpAny (model prog w) A (Builtin.«zip.__next__» ⟨[.ref z], []⟩) Q E s := by
  show wpAny _ _ (field (.ref z) 2 >>= _) _ _ _
  refine wpAny_bind (wpAny_field hz rfl (x := .bool false) rfl ?_)
  show wpAny _ _ (field (.ref z) 3 >>= _) _ _ _
  refine wpAny_bind (wpAny_field hz rfl (x := .ref TI) rfl ?_)
  refine wpAny_bind (wpAny_seqItems hTI rfl ?_)
  show wpAny _ _ (Builtin.SmallTypes.ownedTupleIsFree (.ref z) >>= _) _ _ _
  refine wpAny_bind ?_
  unfold Builtin.SmallTypes.ownedTupleIsFree
  refine wpAny_bind (wpAny_field hz rfl (x := .none) rfl (wpAny_pure ?_))
  simp only [if_true]
  refine wpAny_bind (wpAny_rule ?_)
  refine wpAny_bind (wpAny_field hz rfl (x := .ref TO) rfl ?_)
  refine wpAny_bind (wpAny_setField_rec hz (by simp) fun h₁ hz₁ hs₁ => ?_)
  replace hz₁ : IsZip h₁ z TI TO .ellipsis := hz₁
  refine wpAny_bind ?_
  simp only [List.zipIdx_cons, List.zipIdx_nil, List.forIn_cons, List.forIn_nil]
  refine wpAny_bind (wpAny_bind (wpAny_onRaise ?_))
  show wpAny _ _ (Builtin.SmallTypes.nextOf (.ref i1) >>= _) _ _ _
  refine wpAny_bind (wpAny_nextOf_list_end hh (h1.extBut hs₁.extBut hi) (hl1.extBut hs₁.extBut hl) hend fun h₂ e hs₂ he => ?_)
  obtain ⟨oe, hoe, hce⟩ := he
  have hz₂ : IsZip h₂ z TI TO .ellipsis := hs₂ _ _ hi.symm hz₁
  have hez : e ≠ z := fun x => by subst x; rw [hz₂] at hoe; cases hoe; simp at hce
  refine wpAny_setField_rec hz₂ (by simp) fun h₃ _ hs₃ => hE h₃ e (fun c o c1 c3 x => hs₃.extBut _ _ c1 (hs₂ _ _ c3 (hs₁.extBut _ _ c1 x))) ⟨oe, hs₃.extBut _ _ hez hoe, hce⟩
theorem pyNext_zip3_item {z TI TO i1 i2 i3 l1 l2 l3 : Addr} {k : Nat} {xs ys us : Array Value} {x y u a b d : Value} {Q : Option Value → Shared → Prop} (D : Z3 z TI TO i1 i2 i3 l1 l2 l3)
    (hz : IsZip s.heap z TI TO .none) (hTI : IsTrip s.heap TI (.ref i1) (.ref i2) (.ref i3)) (hTO : IsTrip s.heap TO a b d)
    (h1 : s.heap.IsListIter i1 l1 k) (h2 : s.heap.IsListIter i2 l2 k) (h3 : s.heap.IsListIter i3 l3 k) (hl1 : s.heap.IsList l1 xs) (hl2 : s.heap.IsList l2 ys) (hl3 : s.heap.IsList l3 us)
    (hx : xs[k]? = some x) (hy : ys[k]? = some y) (hu : us[k]? = some u)
    (hQ : ∀ h', IsZip h' z TI TO (rawInt s.heap.objs.size) → IsTrip h' TO x y u → h'.IsListIter i1 l1 (k + 1) → h'.IsListIter i2 l2 (k + 1) → h'.IsListIter i3 l3 (k + 1) → IsTrip h' s.heap.objs.size x y u →
      (∀ c o, c ≠ z → c ≠ TO → c ≠ i1 → c ≠ i2 → c ≠ i3 → s.heap.get? c = some o → h'.get? c = some o) → Q (some (.ref s.heap.objs.size)) { s with heap := h' }) :
    wpAny (model prog w) A (pyNext (.ref z)) Q E s := by
  have hT : s.TypeIs (.ref z) "zip" := ⟨_, hz, rfl⟩
  unfold pyNext
  exact wpAny_bind (wpAny_attempt (wpAny_callSpecial?_slot (name := Str.ofString "__next__") hT F.slot_zip_next
    (wpAny_call_entry F.slot_zip_next hT F.entry_zip_next
      (zip3_item D hz hTI hTO h1 h2 h3 hl1 hl2 hl3 hx hy hu fun h' a1 a2 a3 a4 a5 a6 a7 => wpAny_pure (hQ h' a1 a2 a3 a4 a5 a6 a7)) (F.args_zip_next_1 _))))
theorem pyNext_zip3_end {z TI TO i1 i2 i3 l1 : Addr} {k : Nat} {xs : Array Value} {Q : Option Value → Shared → Prop} (hh : A.handled = none) (hi : i1 ≠ z) (hl : l1 ≠ z)
    (hz : IsZip s.heap z TI TO .none) (hTI : IsTrip s.heap TI (.ref i1) (.ref i2) (.ref i3)) (h1 : s.heap.IsListIter i1 l1 k) (hl1 : s.heap.IsList l1 xs) (hend : xs[k]? = none)
    (hQ : ∀ h', (∀ c o, c ≠ z → c ≠ i1 → s.heap.get? c = some o → h'.get? c = some o) → Q none { s with heap := h' }) : wpAny (model prog w) A (pyNext (.ref z)) Q E s := by
  have hT : s.TypeIs (.ref z) "zip" := ⟨_, hz, rfl⟩
  unfold pyNext
  refine wpAny_bind (wpAny_attempt (wpAny_callSpecial?_slot (name := Str.ofString "__next__") hT F.slot_zip_next
    (wpAny_call_entry F.slot_zip_next hT F.entry_zip_next (zip3_end hh hi hl hz hTI h1 hl1 hend fun h' e hk he => ?_) (F.args_zip_next_1 _))))
  obtain ⟨o, ho, hc⟩ := he
  refine wpAny_bind (wpAny_isInstance (T := "StopIteration") (b := true) ⟨o, ho, hc⟩ isSubtype_stop ?_)
  exact wpAny_pure (hQ _ hk)
noncomputable abbrev z3H1 (h : Heap) (l1 : Addr) : Heap := h.push { cls := .type "list_iterator", data := .fields #[.ref l1, .int 0 0] }
noncomputable abbrev z3H2 (h : Heap) (l1 l2 : Addr) : Heap := (z3H1 h l1).push { cls := .type "list_iterator", data := .fields #[.ref l2, .int 0 0] }
noncomputable abbrev z3H3 (h : Heap) (l1 l2 l3 : Addr) : Heap := (z3H2 h l1 l2).push { cls := .type "list_iterator", data := .fields #[.ref l3, .int 0 0] }
noncomputable abbrev z3H4 (h : Heap) (l1 l2 l3 : Addr) : Heap := (z3H3 h l1 l2 l3).push { cls := .type "tuple", data := .seq #[.ref h.objs.size, .ref (z3H1 h l1).objs.size, .ref (z3H2 h l1 l2).objs.size] }
noncomputable abbrev z3H5 (h : Heap) (l1 l2 l3 : Addr) : Heap := (z3H4 h l1 l2 l3).push { cls := .type "tuple", data := .seq #[.none, .none, .none] }
noncomputable abbrev z3H6 (h : Heap) (l1 l2 l3 : Addr) : Heap := (z3H5 h l1 l2 l3).push { cls := .type "zip", data := .fields #[.none, .bool false, .bool false, .ref (z3H3 h l1 l2 l3).objs.size, .ref (z3H4 h l1 l2 l3).objs.size] }
set_option maxHeartbeats 1000000 in
theorem meets_zip3_new (l1 l2 l3 : Addr) (xs ys us : Array Value) :
    Meets (Builtin.«zip.__new__» ⟨[.type "zip", .ref l1, .ref l2, .ref l3], []⟩) (fun _ R s => s.heap.IsList l1 xs ∧ s.heap.IsList l2 ys ∧ s.heap.IsList l3 us ∧
      R (.ok (.ret (.ref (z3H5 s.heap l1 l2 l3).objs.size))) { s with heap := z3H6 s.heap l1 l2 l3 }) :=
  .of_wp fun prog w A R s h => by
    obtain ⟨hp, g, d, tk, os⟩ := s; obtain ⟨hl1, hl2, hl3, h⟩ := h
    have hsub := sub_zip
    have hL1 : Heap.IsList (Shared.heap ⟨hp, g, d, tk, os⟩) l1 xs := hl1
    have hL2 : Heap.IsList (Shared.heap ⟨hp.push { cls := .type "list_iterator", data := .fields #[.ref l1, .int 0 0] }, g, d, tk, os⟩) l2 ys := Heap.IsList.push hl2 _
    have hL3 : Heap.IsList (Shared.heap ⟨(hp.push { cls := .type "list_iterator", data := .fields #[.ref l1, .int 0 0] }).push { cls := .type "list_iterator", data := .fields #[.ref l2, .int 0 0] }, g, d, tk, os⟩) l3 us := Heap.IsList.push (Heap.IsList.push hl3 _) _
    wp_walk using wpAny_pyIter_list hL1, wpAny_pyIter_list hL2, wpAny_pyIter_list hL3
    exact ⟨_, rfl, h⟩
end
end Mine
end PartC17
section PartC18
open PySem PySem.W PyProof.Rows PySem.Calls
namespace Mine
theorem typeCall_zip_3 (a b d : Value) : checkTypeCall "zip" ⟨[a, b, d], []⟩ = pure () := by kernel_rfl
theorem newCall_zip_3 (a b d : Value) : checkBuiltinCall "zip.__new__" ⟨[.type "zip", a, b, d], []⟩ = pure () := by rw [PySem.W.Fast.te10254737850608025244]; kernel_rfl
theorem args_object_init_4z (a b c d : Value) : argsOk "object.__init__" ⟨[a, b, c, d], []⟩ := by
  unfold argsOk; rw [signature?_of (id := "object.__init__") (n := ['_', '_', 't', 'i', 'n', 'i', '_', '_']) (o := ['t', 'c', 'e', 'j', 'b', 'o']) (by kernel_rfl) F.owner_object]; kernel_rfl
section
variable {prog : Program} {w : World} {A : Around} {E : Value → Shared → Prop} {s : Shared}
theorem call_zip_3 {l1 l2 l3 : Addr} {xs ys us : Array Value} {Q : Value → Shared → Prop} (hl1 : s.heap.IsList l1 xs) (hl2 : s.heap.IsList l2 ys) (hl3 : s.heap.IsList l3 us)
    (h : ∀ h', IsZip h' (s.heap.objs.size + 5) (s.heap.objs.size + 3) (s.heap.objs.size + 4) .none → IsTrip h' (s.heap.objs.size + 3) (.ref s.heap.objs.size) (.ref (s.heap.objs.size + 1)) (.ref (s.heap.objs.size + 2)) →
      IsTrip h' (s.heap.objs.size + 4) .none .none .none → h'.IsListIter s.heap.objs.size l1 0 → h'.IsListIter (s.heap.objs.size + 1) l2 0 → h'.IsListIter (s.heap.objs.size + 2) l3 0 →
      (∀ c o, s.heap.get? c = some o → h'.get? c = some o) → Q (.ref (s.heap.objs.size + 5)) { s with heap := h' }) :
    wpAny (model prog w) A (call (.type "zip") [.ref l1, .ref l2, .ref l3]) Q E s := by
  refine callType_new F.called_zip (by decide) (typeCall_zip_3 _ _ _) (newCall_zip_3 _ _ _) (fun obj => args_object_init_4z obj _ _ _) F.entry_zip_new
    (meets_zip3_new l1 l2 l3 xs ys us) ⟨hl1, hl2, hl3, ?_⟩
  have z1 : (z3H1 s.heap l1).objs.size = s.heap.objs.size + 1 := Heap.size_push ..
  have z2 : (z3H2 s.heap l1 l2).objs.size = s.heap.objs.size + 2 := by rw [Heap.size_push, z1]
  have z3 : (z3H3 s.heap l1 l2 l3).objs.size = s.heap.objs.size + 3 := by rw [Heap.size_push, z2]
  have z4 : (z3H4 s.heap l1 l2 l3).objs.size = s.heap.objs.size + 4 := by rw [Heap.size_push, z3]
  have z5 : (z3H5 s.heap l1 l2 l3).objs.size = s.heap.objs.size + 5 := by rw [Heap.size_push, z4]
  have up : ∀ {h : Heap} {o : Obj} {b o'}, h.get? b = some o' → (h.push o).get? b = some o' := fun e => Heap.get?_push_of_some _ e
  have g6 : (z3H6 s.heap l1 l2 l3).get? (z3H5 s.heap l1 l2 l3).objs.size = some _ := Heap.get?_push_size _ rfl
  have g5 : (z3H6 s.heap l1 l2 l3).get? (z3H4 s.heap l1 l2 l3).objs.size = some _ := Heap.get?_push_of_some _ (Heap.get?_push_size _ rfl)
  have g4 : (z3H6 s.heap l1 l2 l3).get? (z3H3 s.heap l1 l2 l3).objs.size = some _ := Heap.get?_push_of_some _ (Heap.get?_push_of_some _ (Heap.get?_push_size _ rfl))
  have g3 : (z3H6 s.heap l1 l2 l3).get? (z3H2 s.heap l1 l2).objs.size = some _ := Heap.get?_push_of_some _ (Heap.get?_push_of_some _ (Heap.get?_push_of_some _ (Heap.get?_push_size _ rfl)))
  have g2 : (z3H6 s.heap l1 l2 l3).get? (z3H1 s.heap l1).objs.size = some _ := Heap.get?_push_of_some _ (Heap.get?_push_of_some _ (Heap.get?_push_of_some _ (Heap.get?_push_of_some _ (Heap.get?_push_size _ rfl))))
  have g1 : (z3H6 s.heap l1 l2 l3).get? s.heap.objs.size = some _ := Heap.get?_push_of_some _ (Heap.get?_push_of_some _ (Heap.get?_push_of_some _ (Heap.get?_push_of_some _ (Heap.get?_push_of_some _ (Heap.get?_push_size _ rfl)))))
  show _ ∧ _
  rw [z3, z4, z5] at g6
  rw [z1, z2, z3] at g4
  rw [z4] at g5
  rw [z1] at g2
  rw [z2] at g3
  rw [z5]
  exact ⟨⟨_, g6, rfl⟩, h _ g6 g4 g5 ⟨_, g1, rfl, rfl⟩ ⟨_, g2, rfl, rfl⟩ ⟨_, g3, rfl, rfl⟩ fun c o x =>
    Heap.get?_push_of_some _ (Heap.get?_push_of_some _ (Heap.get?_push_of_some _ (Heap.get?_push_of_some _ (Heap.get?_push_of_some _ (Heap.get?_push_of_some _ x)))))⟩
end
variable {c : Cx} {n : Nat} {env : Env} {m : Vm} {H : Hp}
theorem Wk.zip2 {ts : List Expr} {k : Nat} {p : Pos} {z TI TO i1 i2 l1 l2 : Addr} {Ws Xs : List V} (D : ZipApart z TI TO i1 i2 l1 l2) (hlen : Ws.length = Xs.length) :
    Wk c (fun b => b = z ∨ b = TI ∨ b = TO ∨ b = i1 ∨ b = i2) (.Tuple ts k p) (.ref z) [z, TI, TO, i1, i2, l1, l2] (Ws.zipWith (fun W X => .tup [W, X]) Xs) (fun h M => Rep h M (.ref l1) (.lst Ws) ∧ Rep h M (.ref l2) (.lst Xs))
    (fun i h => IsZip h z TI TO .none ∧ IsPair h TI (.ref i1) (.ref i2) ∧ (∃ a b, IsPair h TO a b) ∧ h.IsListIter i1 l1 i ∧ h.IsListIter i2 l2 i) where
  mono := fun h h' M M' k r => ⟨r.1.mono k, r.2.mono k⟩
  frame := fun i h h' ⟨hz, hTI, ⟨a, b, hTO⟩, h1, h2⟩ k => ⟨k z (by simp) _ hz, k TI (by simp) _ hTI, ⟨a, b, k TO (by simp) _ hTO⟩, h1.at fun o e => k i1 (by simp) o e, h2.at fun o e => k i2 (by simp) o e⟩
  live := fun i h a ⟨hz, hTI, ⟨x, y, hTO⟩, h1, h2⟩ zz => by
    rcases zz with rfl | rfl | rfl | rfl | rfl
    · exact ⟨_, hz⟩
    · exact ⟨_, hTI⟩
    · exact ⟨_, hTO⟩
    · obtain ⟨o, e, _⟩ := h1; exact ⟨o, e⟩
    · obtain ⟨o, e, _⟩ := h2; exact ⟨o, e⟩
  inz := fun a z => by rcases z with rfl | rfl | rfl | rfl | rfl <;> simp
  item := fun A i W s M Q hh hW st sr hM hZ hQ => by
    obtain ⟨hz, hTI, ⟨a, b, hTO⟩, h1, h2⟩ := st
    obtain ⟨r1, r2⟩ := sr
    obtain ⟨_, it1, e1, hp1, nm1, rs1⟩ := Rep.lst_iff.mp r1
    obtain ⟨_, it2, e2, hp2, nm2, rs2⟩ := Rep.lst_iff.mp r2
    cases e1; cases e2
    obtain ⟨X1, X2, q1, q2, rfl⟩ : ∃ (X1 X2 : V), Ws[i]? = some X1 ∧ Xs[i]? = some X2 ∧ W = .tup [X1, X2] := by
      rw [List.getElem?_zipWith] at hW
      split at hW
      · rename_i a b e1 e2; cases hW; exact ⟨_, _, e1, e2, rfl⟩
      · cases hW
    obtain ⟨v1, hv1, rv1⟩ := rs1.get q1
    obtain ⟨v2, hv2, rv2⟩ := rs2.get q2
    refine wpAny_pyNext_zip_item D hz hTI hTO h1 h2 (Heap.PlainList.isList hp1) (Heap.PlainList.isList hp2) (x := v1) (y := v2) (by simpa using hv1) (by simpa using hv2) fun h₁ a1 a2 a3 a4 a5 _ a6 => ⟨_, rfl, wpAny_letOwnedTupleGo_zip a1 fun h₂ hz₂ hs₂ => ?_⟩
    replace hs₂ : Heap.SameBut z h₁ h₂ := hs₂
    have lt : ∀ {b o}, s.heap.get? b = some o → s.heap.objs.size ≠ b := fun e => Nat.ne_of_gt (Heap.lt_size e)
    have o2 : ∀ b o, b ≠ z → h₁.get? b = some o → h₂.get? b = some o := fun b o q e => (hs₂.2 b q).trans e
    have kp : ∀ b o, ¬ (b = z ∨ b = TI ∨ b = TO ∨ b = i1 ∨ b = i2) → s.heap.get? b = some o → h₂.get? b = some o := fun b o q e =>
      o2 b o (fun y => q (by simp [y])) (a6 b o (fun y => q (by simp [y])) (fun y => q (by simp [y])) (fun y => q (by simp [y])) (fun y => q (by simp [y])) e)
    refine hQ _ h₂ s.toks ⟨hz₂, o2 _ _ D.TIz (a6 _ _ D.TIz D.TITO D.TIi1 D.TIi2 hTI), ⟨_, _, o2 _ _ D.TOz a2⟩, a3.at fun o e => o2 _ o D.i1z e, a4.at fun o e => o2 _ o D.i2z e⟩ kp ?_
    have mo : ∀ {v W}, Rep s.heap M v W → Rep h₂ M v W := fun r => r.mono fun b o e y => ⟨kp b o (fun q => y (hZ b q)) e, y⟩
    exact Rep.tup_iff.mpr ⟨_, #[v1, v2], rfl, ⟨_, o2 _ _ (lt hz) a5, rfl, _, rfl⟩, fun y => Nat.lt_irrefl _ (hM _ y), Reps.cons (mo rv1) (Reps.cons (mo rv2) Reps.nil)⟩
  done := fun A s M Q hh st sr hQ => by
    obtain ⟨hz, hTI, ⟨a, b, hTO⟩, h1, h2⟩ := st
    obtain ⟨r1, r2⟩ := sr
    obtain ⟨_, it1, e1, hp1, nm1, rs1⟩ := Rep.lst_iff.mp r1
    obtain ⟨_, it2, e2, hp2, nm2, rs2⟩ := Rep.lst_iff.mp r2
    cases e1; cases e2
    refine wpAny_pyNext_zip_end hh D hz hTI hTO h1 h2 (Heap.PlainList.isList hp1) (Heap.PlainList.isList hp2) (.inl ?_) fun h' a6 => ⟨rfl, hQ h' s.toks fun b o q e => a6 b o (fun y => q (by simp [y])) (fun y => q (by simp [y])) (fun y => q (by simp [y])) (fun y => q (by simp [y])) e⟩
    have := rs1.1; simp at this; simp [this, hlen]
  self := fun A i s Q ⟨hz, _⟩ hQ => wpAny_pyIter_zip hz hQ
theorem Wk.zip3 {ts : List Expr} {k : Nat} {p : Pos} {z TI TO i1 i2 i3 l1 l2 l3 : Addr} {Ws Xs Ys : List V} (D : Z3 z TI TO i1 i2 i3 l1 l2 l3) (h12 : Ws.length = Xs.length) (h13 : Ws.length = Ys.length) :
    Wk c (fun b => b = z ∨ b = TI ∨ b = TO ∨ b = i1 ∨ b = i2 ∨ b = i3) (.Tuple ts k p) (.ref z) [z, TI, TO, i1, i2, i3, l1, l2, l3] ((Ws.zip (Xs.zip Ys)).map fun p => .tup [p.1, p.2.1, p.2.2])
    (fun h M => Rep h M (.ref l1) (.lst Ws) ∧ Rep h M (.ref l2) (.lst Xs) ∧ Rep h M (.ref l3) (.lst Ys))
    (fun i h => IsZip h z TI TO .none ∧ IsTrip h TI (.ref i1) (.ref i2) (.ref i3) ∧ (∃ a b d, IsTrip h TO a b d) ∧ h.IsListIter i1 l1 i ∧ h.IsListIter i2 l2 i ∧ h.IsListIter i3 l3 i) where
  mono := fun h h' M M' k r => ⟨r.1.mono k, r.2.1.mono k, r.2.2.mono k⟩
  frame := fun i h h' ⟨hz, hTI, ⟨a, b, d, hTO⟩, h1, h2, h3⟩ k => ⟨k z (by simp) _ hz, k TI (by simp) _ hTI, ⟨a, b, d, k TO (by simp) _ hTO⟩, h1.at fun o e => k i1 (by simp) o e, h2.at fun o e => k i2 (by simp) o e, h3.at fun o e => k i3 (by simp) o e⟩
  live := fun i h a ⟨hz, hTI, ⟨x, y, d, hTO⟩, h1, h2, h3⟩ zz => by
    rcases zz with rfl | rfl | rfl | rfl | rfl | rfl
    · exact ⟨_, hz⟩
    · exact ⟨_, hTI⟩
    · exact ⟨_, hTO⟩
    · obtain ⟨o, e, _⟩ := h1; exact ⟨o, e⟩
    · obtain ⟨o, e, _⟩ := h2; exact ⟨o, e⟩
    · obtain ⟨o, e, _⟩ := h3; exact ⟨o, e⟩
  inz := fun a z => by rcases z with rfl | rfl | rfl | rfl | rfl | rfl <;> simp
  item := fun A i W s M Q hh hW st sr hM hZ hQ => by
    obtain ⟨hz, hTI, ⟨a, b, d, hTO⟩, h1, h2, h3⟩ := st
    obtain ⟨r1, r2, r3⟩ := sr
    obtain ⟨_, it1, e1, hp1, nm1, rs1⟩ := Rep.lst_iff.mp r1
    obtain ⟨_, it2, e2, hp2, nm2, rs2⟩ := Rep.lst_iff.mp r2
    obtain ⟨_, it3, e3, hp3, nm3, rs3⟩ := Rep.lst_iff.mp r3
    cases e1; cases e2; cases e3
    obtain ⟨X1, X2, X3, q1, q2, q3, rfl⟩ : ∃ (X1 X2 X3 : V), Ws[i]? = some X1 ∧ Xs[i]? = some X2 ∧ Ys[i]? = some X3 ∧ W = .tup [X1, X2, X3] := by
      rw [List.getElem?_map] at hW
      cases q : (Ws.zip (Xs.zip Ys))[i]? with
      | none => rw [q] at hW; cases hW
      | some t =>
        rw [q] at hW; cases hW
        obtain ⟨t1, t2, t3⟩ := t
        rw [List.getElem?_zip_eq_some] at q
        obtain ⟨q1, q⟩ := q
        rw [List.getElem?_zip_eq_some] at q
        exact ⟨t1, t2, t3, q1, q.1, q.2, rfl⟩
    obtain ⟨v1, hv1, rv1⟩ := rs1.get q1
    obtain ⟨v2, hv2, rv2⟩ := rs2.get q2
    obtain ⟨v3, hv3, rv3⟩ := rs3.get q3
    refine pyNext_zip3_item D hz hTI hTO h1 h2 h3 (Heap.PlainList.isList hp1) (Heap.PlainList.isList hp2) (Heap.PlainList.isList hp3) (x := v1) (y := v2) (u := v3) (by simpa using hv1) (by simpa using hv2) (by simpa using hv3) fun h₁ a1 a2 a3 a4 a4' a5 a6 => ⟨_, rfl, wpAny_letOwnedTupleGo_zip a1 fun h₂ hz₂ hs₂ => ?_⟩
    replace hs₂ : Heap.SameBut z h₁ h₂ := hs₂
    have lt : ∀ {b o}, s.heap.get? b = some o → s.heap.objs.size ≠ b := fun e => Nat.ne_of_gt (Heap.lt_size e)
    have o2 : ∀ b o, b ≠ z → h₁.get? b = some o → h₂.get? b = some o := fun b o q e => (hs₂.2 b q).trans e
    have kp : ∀ b o, ¬ (b = z ∨ b = TI ∨ b = TO ∨ b = i1 ∨ b = i2 ∨ b = i3) → s.heap.get? b = some o → h₂.get? b = some o := fun b o q e =>
      o2 b o (fun y => q (by simp [y])) (a6 b o (fun y => q (by simp [y])) (fun y => q (by simp [y])) (fun y => q (by simp [y])) (fun y => q (by simp [y])) (fun y => q (by simp [y])) e)
    refine hQ _ h₂ s.toks ⟨hz₂, o2 _ _ D.TIz (a6 _ _ D.TIz D.TITO D.TIi1 D.TIi2 D.TIi3 hTI), ⟨_, _, _, o2 _ _ D.TOz a2⟩, a3.at fun o e => o2 _ o D.i1z e, a4.at fun o e => o2 _ o D.i2z e, a4'.at fun o e => o2 _ o D.i3z e⟩ kp ?_
    have mo : ∀ {v W}, Rep s.heap M v W → Rep h₂ M v W := fun r => r.mono fun b o e y => ⟨kp b o (fun q => y (hZ b q)) e, y⟩
    exact Rep.tup_iff.mpr ⟨_, #[v1, v2, v3], rfl, ⟨_, o2 _ _ (lt hz) a5, rfl, _, rfl⟩, fun y => Nat.lt_irrefl _ (hM _ y), Reps.cons (mo rv1) (Reps.cons (mo rv2) (Reps.cons (mo rv3) Reps.nil))⟩
  done := fun A s M Q hh st sr hQ => by
    obtain ⟨hz, hTI, ⟨a, b, d, hTO⟩, h1, h2, h3⟩ := st
    obtain ⟨_, it1, e1, hp1, nm1, rs1⟩ := Rep.lst_iff.mp sr.1
    cases e1
    refine pyNext_zip3_end hh D.i1z D.l1.1 hz hTI h1 (Heap.PlainList.isList hp1) ?_ fun h' a6 => ⟨rfl, hQ h' s.toks fun b o q e => a6 b o (fun y => q (by simp [y])) (fun y => q (by simp [y])) e⟩
    have := rs1.1; simp at this; simp [this, ← h12, ← h13]
  self := fun A i s Q ⟨hz, _⟩ hQ => wpAny_pyIter_zip hz hQ
theorem IT.zip2 {p pos pt : Pos} {a1 a2 : Expr} {ts : List Expr} {kt : Nat} {Q : List V → Hp → Prop} (hg : nsIn c.K mainGlobals "zip" = some none) (hb : bootBuiltins "zip" = some (.type "zip")) (hx : env.kindOf "zip" = some .globalImplicit)
    (h : ES c n env m H [a1, a2] fun Ws H' => ∃ Xs Ys, Ws = [.lst Xs, .lst Ys] ∧ Xs.length = Ys.length ∧ Q (Xs.zipWith (fun W X => .tup [W, X]) Ys) H') (hp : plainEs [a1, a2] = true := by rfl) : IT c n env m H (.Tuple ts kt pt) (.Call (.Name "zip" p) [a1, a2] [] pos) Q := fun A s Z ro a v => by
  refine callBP ro a v hg hb (by decide) (fun a e => by cases e) hx h ?_ hp
  rintro vs s₁ Ws H₁ rs a₁ k₁ ⟨Xs, Ys, rfl, hl, q⟩
  obtain ⟨v1, r, rfl, rv1, rr⟩ := rs.uncons
  obtain ⟨v2, r, rfl, rv2, rr⟩ := rr.uncons
  rw [rr.unnil]
  obtain ⟨l1, it1, rfl, hp1, nm1, rs1⟩ := Rep.lst_iff.mp rv1
  obtain ⟨l2, it2, rfl, hp2, nm2, rs2⟩ := Rep.lst_iff.mp rv2
  have ll1 : l1 < s₁.heap.objs.size := by obtain ⟨_, e⟩ := hp1; exact Heap.lt_size e
  have ll2 : l2 < s₁.heap.objs.size := by obtain ⟨_, e⟩ := hp2; exact Heap.lt_size e
  refine call_zip_2 (Heap.PlainList.isList hp1) (Heap.PlainList.isList hp2) fun h' b1 b2 b3 b4 b5 _ kp => wpAny_pyIter_zip b1 ?_
  have sz : ∀ k : Nat, s₁.heap.get? (s₁.heap.objs.size + k) = none := fun k => size_free (Nat.le_add_right _ _)
  have ne : ∀ {l : Addr}, l < s₁.heap.objs.size → ∀ k : Nat, l ≠ s₁.heap.objs.size + k := fun h k => Nat.ne_of_lt (Nat.lt_of_lt_of_le h (Nat.le_add_right _ _))
  have nn : ∀ i j : Nat, i ≠ j → s₁.heap.objs.size + i ≠ s₁.heap.objs.size + j := fun i j h e => h (Nat.add_left_cancel e)
  have D : ZipApart (s₁.heap.objs.size + 4) (s₁.heap.objs.size + 2) (s₁.heap.objs.size + 3) (s₁.heap.objs.size + 0) (s₁.heap.objs.size + 1) l1 l2 := ⟨nn _ _ (by decide), nn _ _ (by decide), nn _ _ (by decide), nn _ _ (by decide), nn _ _ (by decide), nn _ _ (by decide), nn _ _ (by decide), nn _ _ (by decide), nn _ _ (by decide), nn _ _ (by decide),
    ne ll1 _, ne ll1 _, ne ll1 _, ne ll1 _, ne ll2 _, ne ll2 _, ne ll2 _, ne ll2 _⟩
  refine ItAt.mk' (s₁ := s₁) (s₂ := { s₁ with heap := h' }) a₁ k₁ kp rfl rfl (fun b z => ?_) (Wk.zip2 D hl) ⟨rv1, rv2⟩ ⟨b1, b2, ⟨_, _, b3⟩, b4, b5⟩ (fun b hb => ?_) q
  · rcases z with rfl | rfl | rfl | rfl | rfl <;> exact sz _
  · simp only [List.mem_cons, List.not_mem_nil, or_false] at hb
    rcases hb with rfl | rfl | rfl | rfl | rfl | rfl | rfl
    · exact .inl (.inl rfl)
    · exact .inl (.inr (.inl rfl))
    · exact .inl (.inr (.inr (.inl rfl)))
    · exact .inl (.inr (.inr (.inr (.inl rfl))))
    · exact .inl (.inr (.inr (.inr (.inr rfl))))
    · obtain ⟨_, e⟩ := hp1; exact .inr ⟨nm1, _, e⟩
    · obtain ⟨_, e⟩ := hp2; exact .inr ⟨nm2, _, e⟩
theorem IT.zip3 {p pos pt : Pos} {a1 a2 a3 : Expr} {ts : List Expr} {kt : Nat} {Q : List V → Hp → Prop} (hg : nsIn c.K mainGlobals "zip" = some none) (hb : bootBuiltins "zip" = some (.type "zip")) (hx : env.kindOf "zip" = some .globalImplicit)
    (h : ES c n env m H [a1, a2, a3] fun Ws H' => ∃ Xs Ys Us, Ws = [.lst Xs, .lst Ys, .lst Us] ∧ Xs.length = Ys.length ∧ Xs.length = Us.length ∧ Q ((Xs.zip (Ys.zip Us)).map fun p => .tup [p.1, p.2.1, p.2.2]) H') (hp : plainEs [a1, a2, a3] = true := by rfl) :
    IT c n env m H (.Tuple ts kt pt) (.Call (.Name "zip" p) [a1, a2, a3] [] pos) Q := fun A s Z ro a v => by
  refine callBP ro a v hg hb (by decide) (fun a e => by cases e) hx h ?_ hp
  rintro vs s₁ Ws H₁ rs a₁ k₁ ⟨Xs, Ys, Us, rfl, hl, hl', q⟩
  obtain ⟨v1, r, rfl, rv1, rr⟩ := rs.uncons
  obtain ⟨v2, r, rfl, rv2, rr⟩ := rr.uncons
  obtain ⟨v3, r, rfl, rv3, rr⟩ := rr.uncons
  rw [rr.unnil]
  obtain ⟨l1, it1, rfl, hp1, nm1, rs1⟩ := Rep.lst_iff.mp rv1
  obtain ⟨l2, it2, rfl, hp2, nm2, rs2⟩ := Rep.lst_iff.mp rv2
  obtain ⟨l3, it3, rfl, hp3, nm3, rs3⟩ := Rep.lst_iff.mp rv3
  have ll1 : l1 < s₁.heap.objs.size := by obtain ⟨_, e⟩ := hp1; exact Heap.lt_size e
  have ll2 : l2 < s₁.heap.objs.size := by obtain ⟨_, e⟩ := hp2; exact Heap.lt_size e
  have ll3 : l3 < s₁.heap.objs.size := by obtain ⟨_, e⟩ := hp3; exact Heap.lt_size e
  refine call_zip_3 (Heap.PlainList.isList hp1) (Heap.PlainList.isList hp2) (Heap.PlainList.isList hp3) fun h' b1 b2 b3 b4 b5 b6 kp => wpAny_pyIter_zip b1 ?_
  have sz : ∀ k : Nat, s₁.heap.get? (s₁.heap.objs.size + k) = none := fun k => size_free (Nat.le_add_right _ _)
  have ne : ∀ {l : Addr}, l < s₁.heap.objs.size → ∀ k : Nat, l ≠ s₁.heap.objs.size + k := fun h k => Nat.ne_of_lt (Nat.lt_of_lt_of_le h (Nat.le_add_right _ _))
  have nn : ∀ i j : Nat, i ≠ j → s₁.heap.objs.size + i ≠ s₁.heap.objs.size + j := fun i j h e => h (Nat.add_left_cancel e)
  have D : Z3 (s₁.heap.objs.size + 5) (s₁.heap.objs.size + 3) (s₁.heap.objs.size + 4) (s₁.heap.objs.size + 0) (s₁.heap.objs.size + 1) (s₁.heap.objs.size + 2) l1 l2 l3 := ⟨nn _ _ (by decide), nn _ _ (by decide), nn _ _ (by decide), nn _ _ (by decide), nn _ _ (by decide), nn _ _ (by decide), nn _ _ (by decide), nn _ _ (by decide), nn _ _ (by decide), nn _ _ (by decide),
    nn _ _ (by decide), nn _ _ (by decide), nn _ _ (by decide), nn _ _ (by decide), nn _ _ (by decide), ⟨ne ll1 _, ne ll1 _, ne ll1 _, ne ll1 _, ne ll1 _⟩, ⟨ne ll2 _, ne ll2 _, ne ll2 _, ne ll2 _, ne ll2 _⟩, ⟨ne ll3 _, ne ll3 _, ne ll3 _, ne ll3 _, ne ll3 _⟩⟩
  refine ItAt.mk' (s₁ := s₁) (s₂ := { s₁ with heap := h' }) a₁ k₁ kp rfl rfl (fun b z => ?_) (Wk.zip3 D hl hl') ⟨rv1, rv2, rv3⟩ ⟨b1, b2, ⟨_, _, _, b3⟩, b4, b5, b6⟩ (fun b hb => ?_) q
  · rcases z with rfl | rfl | rfl | rfl | rfl | rfl <;> exact sz _
  · simp only [List.mem_cons, List.not_mem_nil, or_false] at hb
    rcases hb with rfl | rfl | rfl | rfl | rfl | rfl | rfl | rfl | rfl
    · exact .inl (.inl rfl)
    · exact .inl (.inr (.inl rfl))
    · exact .inl (.inr (.inr (.inl rfl)))
    · exact .inl (.inr (.inr (.inr (.inl rfl))))
    · exact .inl (.inr (.inr (.inr (.inr (.inl rfl)))))
    · exact .inl (.inr (.inr (.inr (.inr (.inr rfl)))))
    · obtain ⟨_, e⟩ := hp1; exact .inr ⟨nm1, _, e⟩
    · obtain ⟨_, e⟩ := hp2; exact .inr ⟨nm2, _, e⟩
    · obtain ⟨_, e⟩ := hp3; exact .inr ⟨nm3, _, e⟩
end Mine
end PartC18
section PartC19
open PySem PySem.W PyProof.Rows PySem.Calls
namespace Mine
variable {c : Cx} {n : Nat} {env : Env} {m : Vm} {H : Hp}
noncomputable def BJ (c : Cx) (n : Nat) (env : Env) (m : Vm) (H : Hp) (B : Sem Unit) (Q : Vm → Hp → Prop) : Prop :=
  ∀ A s Z, Room A n → HA c.base Z H s.heap → VA c.base Z env m (Mut Z H) s.heap → wpAny (model c.prog c.w) A B (PostA c Z env H s Q) ff s
theorem cloop {elt : Expr} {gens : List Comprehension} {scope : Scope} {pos p : Pos} {d : Nat} {it acc : Value} {target : Expr} {B : Sem Unit}
    (heq : compTurn (.ListComp elt gens scope pos) d it acc env = (standAt p >>= fun _ => pyNext it >>= fun r => match r with
      | none => pure (.done .next)
      | some v => letOwnedTupleGo target it v >>= fun _ => assign target env v >>= fun _ => B >>= fun _ => again (.compLoop (.ListComp elt gens scope pos) d it acc env)))
    {A : Around} {s s₂ : Shared} {Z Zi : Addr → Prop} {fp : List Addr} {Ws : List V} {SR : Heap → (Addr → Prop) → Prop} {St : Nat → Heap → Prop} {H₀ H₂ : Hp} (ro : Room A n)
    (a₂ : HA c.base (fun b => Z b ∨ Zi b) H₂ s₂.heap) (v₂ : VA c.base (fun b => Z b ∨ Zi b) env m (Mut (fun b => Z b ∨ Zi b) H₂) s₂.heap) (k₂ : Kp (Own env) H₀ H₂ s s₂) (K : Wk c Zi target it fp Ws SR St)
    (sr : SR s₂.heap (Mut (fun b => Z b ∨ Zi b) H₂)) (st : St 0 s₂.heap) (zi : ∀ b, Zi b → s.heap.get? b = none) (zn : ∀ b, Zi b → ¬ Z b) (vo : ∀ b, Own env b → Z b) (vc : ∀ x d, env.cells.lookup x = some d → Z d)
    (hfp : ∀ b ∈ fp, H₂ b = none ∧ (Zi b ∨ ¬ Z b) ∧ ∃ o, s₂.heap.get? b = some o) (I : Nat → Vm → Hp → Prop) (i0 : I 0 m H₂)
    (turn : ∀ i W m H, Ws[i]? = some W → I i m H → AS c n env m H target W fun m' H' => BJ c n env m' H' B fun m'' H'' => I (i + 1) m'' H'') :
    codeAny (model c.prog c.w) A (.compLoop (.ListComp elt gens scope pos) d it acc env) (fun r s' => r = .ok .next ∧ ∃ m' H', HA c.base Z H' s'.heap ∧ VA c.base Z env m' (Mut Z H') s'.heap ∧ Kp (Own env) H₀ H' s s' ∧ I Ws.length m' H') s₂ := by
  have own : ∀ b, Own env b → ¬ Zi b := fun b o z => zn b z (vo b o)
  have cel : ∀ x d, env.cells.lookup x = some d → ¬ Zi d := fun x d o z => zn d z (vc x d o)
  let INV : Nat → Shared → Prop := fun k s' => ∃ i m' H', HA c.base (fun b => Z b ∨ Zi b) H' s'.heap ∧ VA c.base (fun b => Z b ∨ Zi b) env m' (Mut (fun b => Z b ∨ Zi b) H') s'.heap ∧ Kp (Own env) H₀ H' s s' ∧ St i s'.heap ∧
    SR s'.heap (Mut (fun b => Z b ∨ Zi b) H') ∧ (∀ b ∈ fp, H' b = none ∧ ∃ o, s'.heap.get? b = some o) ∧ i ≤ Ws.length ∧ k + i = Ws.length ∧ I i m' H'
  refine codeAny_loop rfl INV (fun k s₃ h₃ => ?_) Ws.length ⟨0, m, H₂, a₂, v₂, k₂, st, sr, fun b hb => ⟨(hfp b hb).1, (hfp b hb).2.2⟩, Nat.zero_le _, rfl, i0⟩
  obtain ⟨i, m₃, H₃, a₃, v₃, k₃, st₃, sr₃, fp₃, hi, hk, i₃⟩ := h₃
  show wpAny _ A ((compTurn (.ListComp elt gens scope pos) d it acc env).onRaise (fun x => do noteFrame x env; theTreesLotGoes x)) _ _ _
  refine wpAny_noted ?_
  rw [heq]
  have own' : ∀ b ∈ fp, ¬ Own env b := fun b hb o => (hfp b hb).2.1.elim (own b o) fun z => z (vo b o)
  by_cases hlt : i < Ws.length
  · have item := loop_item (Q := fun w s₄ => wpAny (model c.prog c.w) A (assign target env w) (fun _ s₅ => wpAny (model c.prog c.w) A B (fun _ s₆ => ∃ j, j < k ∧ INV j s₆) ff s₅) ff s₄)
        K (W := Ws[i]) ro (by simp [hlt]) a₃ v₃ st₃ sr₃ own cel fun w s₄ a₄ v₄ st₄ sr₄ rw_ kp hg ho => by
      refine wpAny_mono (turn i Ws[i] m₃ H₃ (by simp [hlt]) i₃ A s₄ (fun b => Z b ∨ Zi b) w ro a₄ v₄ rw_) (fun _ s₅ ⟨m₅, H₅, a₅, v₅, k₅, q⟩ => ?_) fun _ _ f => f.elim
      refine wpAny_mono (q A s₅ _ ro a₅ v₅) (fun f s₆ ⟨m₆, H₆, a₆, v₆, k₆, q₆⟩ => ?_) fun _ _ f => f.elim
      have k46 := k₅.trans k₆
      have kk : Kp (Own env) H₀ H₆ s s₆ := (k₃.next kp zi hg ho).trans k46
      have st₆ : St (i + 1) s₆.heap := K.frame _ _ _ st₄ fun b hb o e => k46.same b o e (fp₃ b hb).1 (own' b hb)
      have sr₆ := K.mono _ _ _ _ (k46.stays v₄.own) sr₄
      have ex : ∀ b ∈ fp, ∃ o, s₄.heap.get? b = some o := fun b hb => by
        by_cases zb : Zi b
        · exact K.live _ _ b st₄ zb
        · obtain ⟨o, e⟩ := (fp₃ b hb).2; exact ⟨o, kp b o zb e⟩
      have fp₆ : ∀ b ∈ fp, H₆ b = none ∧ ∃ o, s₆.heap.get? b = some o := fun b hb => let ⟨o, e⟩ := ex b hb; ⟨k46.new b o e (fp₃ b hb).1, k46.there b o e⟩
      exact ⟨k - 1, by lia, i + 1, m₆, H₆, a₆, v₆, kk, st₆, sr₆, fp₆, hlt, by lia, q₆⟩
    refine wpAny_bind (wpAny_standAt (wpAny_bind (wpAny_mono item (fun r s₁ ⟨w, e, q⟩ => ?_) fun _ _ f => f.elim)))
    subst e
    refine wpAny_bind (wpAny_mono q (fun _ _ q => wpAny_bind (wpAny_mono q (fun _ _ q => wpAny_bind (wpAny_mono q (fun f _ q => wpAny_pure ⟨rfl, q⟩) fun _ _ f => f.elim)) fun _ _ f => f.elim)) fun _ _ f => f.elim)
  · have e : i = Ws.length := by lia
    subst e
    refine wpAny_bind (wpAny_standAt (wpAny_bind (wpAny_mono (K.done A s₃ _ (fun s' => ∃ m' H', HA c.base Z H' s'.heap ∧ VA c.base Z env m' (Mut Z H') s'.heap ∧ Kp (Own env) H₀ H' s s' ∧ I Ws.length m' H') ro.handled st₃ sr₃ fun h' tk kp => ?_) (fun r s₁ ⟨e, q⟩ => ?_) fun _ _ f => f.elim)))
    · exact ⟨m₃, H₃, a₃.done zn kp, v₃.done vo vc zn kp, k₃.next kp zi rfl rfl, i₃⟩
    · subst e
      exact wpAny_pure ⟨rfl, q⟩
end Mine
end PartC19
section PartC20
open PySem PySem.W PyProof.Rows PySem.Calls
namespace Mine
variable {c : Cx} {n : Nat} {env : Env} {m : Vm} {H : Hp}
inductive Caps (env : Env) (scope : Scope) (cl : List (Str × Addr)) (m : Vm) : Vm → Prop
  | nil : Caps env scope cl m []
  | loc {x : Str} {r : Vm} (h : (relabel scope env).names.lookup x = some .local) (t : Caps env scope cl m r) (hd : (x == ("__debug__" : Str)) = false := by decide) (hc : (x == ("__classdict__" : Str)) = false := by decide) : Caps env scope cl m ((x, none) :: r)
  | cap {x : Str} {W : Option V} {r : Vm} (hm : (x, W) ∈ m) (h : (relabel scope env).names.lookup x = some .cell ∨ (relabel scope env).names.lookup x = some .free) (ho : env.kindOf x = some .cell ∨ env.kindOf x = some .free) (hc : cl.lookup x = env.cells.lookup x) (t : Caps env scope cl m r) : Caps env scope cl m ((x, W) :: r)
structure CompOK (env : Env) (scope : Scope) (cl : List (Str × Addr)) (m mc : Vm) : Prop where
  clos : closureFor scope env = pure cl
  cell : ∀ y ∈ scope.names, y.2 ≠ .cell
  kind : scope.kind = .function
  names : ∀ z ∈ scope.names, z.2 = .local → scope.names.lookup z.1 = some .local
  sub : ∀ x d, cl.lookup x = some d → env.cells.lookup x = some d
  nodup : (mc.map (·.1)).Nodup
  caps : Caps env scope cl m mc
theorem Caps.mem {scope : Scope} {cl : List (Str × Addr)} {m mc : Vm} (x : Caps env scope cl m mc) : ∀ y W, (y, W) ∈ mc →
    ((relabel scope env).names.lookup y = some .local ∧ W = none ∧ (y == ("__debug__" : Str)) = false ∧ (y == ("__classdict__" : Str)) = false) ∨
    ((y, W) ∈ m ∧ ((relabel scope env).names.lookup y = some .cell ∨ (relabel scope env).names.lookup y = some .free) ∧ (env.kindOf y = some .cell ∨ env.kindOf y = some .free) ∧ cl.lookup y = env.cells.lookup y) := by
  induction x with
  | nil => intro y W h; cases h
  | loc h t hd hc ih =>
    intro y W hm
    rcases List.mem_cons.mp hm with e | hm
    · cases e; exact .inl ⟨h, rfl, hd, hc⟩
    · exact ih y W hm
  | cap hm' h ho hc t ih =>
    intro y W hm
    rcases List.mem_cons.mp hm with e | hm
    · cases e; exact .inr ⟨hm', h, ho, hc⟩
    · exact ih y W hm
theorem VA.comp {base : Heap} {Z M : Addr → Prop} {h : Heap} {scope : Scope} {cl : List (Str × Addr)} {mc : Vm} {C : Addr} (v : VA base Z env m M h) (hC : ∃ f, h.Ns C f) (zC : Z C) (bC : base.get? C = none) (ok : CompOK env scope cl m mc) : VA base Z (compEnvC scope cl C env) mc M h where
  kind := ok.kind
  glob := v.glob
  bi := v.bi
  ns := hC
  nodup := ok.nodup
  dom := fun x W hx => by
    rcases ok.caps.mem x W hx with ⟨e, _⟩ | ⟨hm, e, ho, hc⟩
    · exact .inl e
    · refine .inr ⟨e, ?_⟩
      rcases v.dom x W hm with q | ⟨_, d, w, q1, q2⟩
      · rcases ho with ho | ho <;> rw [ho] at q <;> cases q
      · exact ⟨d, w, hc.trans q1, q2⟩
  var := fun x W hx => by
    rcases ok.caps.mem x _ hx with ⟨_, e, _⟩ | ⟨hm, e, ho, hc⟩
    · cases e
    · obtain ⟨w, r, q⟩ := v.var x W hm
      refine ⟨w, r, ?_⟩
      rcases q with ⟨q, _⟩ | ⟨_, d, q1, q2⟩
      · rcases ho with ho | ho <;> rw [ho] at q <;> cases q
      · exact .inr ⟨e, d, hc.trans q1, q2⟩
  own := fun a o => by
    rcases o with o | ⟨o, _⟩
    · rw [o]; exact zC
    · exact absurd rfl o
  fresh := fun a o => by
    rcases o with o | ⟨o, _⟩
    · rw [o]; exact bC
    · exact absurd rfl o
  cin := fun x d e => v.cin x d (ok.sub x d e)
  inj := fun x y d e e' => v.inj x y d (ok.sub x d e) (ok.sub y d e')
  dbg := fun x W hx => by
    rcases ok.caps.mem x W hx with ⟨_, _, e, _⟩ | ⟨hm, _⟩
    · exact e
    · exact v.dbg x W hm
  cls := fun x W hx => by
    rcases ok.caps.mem x W hx with ⟨_, _, _, e⟩ | ⟨hm, _⟩
    · exact e
    · exact v.cls x W hm
  sto := fun x W hx o => absurd rfl o
theorem HA.rez {base : Heap} {Z Z' : Addr → Prop} {h : Heap} (a : HA base Z H h) (e : ∀ b, Z b ↔ Z' b) : HA base Z' H h := by
  have : Z = Z' := funext fun b => propext (e b)
  subst this; exact a
theorem comp_core {elt target iter : Expr} {rest : List Comprehension} {scope : Scope} {pos pos' p : Pos} {cl : List (Str × Addr)} {mc : Vm} {use : Option (Value → Sem Unit)} {P : Value → Shared → Prop} {B : Value → Env → Sem Unit} {Q : V → Hp → Prop}
    (heq : ∀ it acc cenv, compTurn (.ListComp elt (⟨target, iter, [], 0⟩ :: rest) scope pos) 0 it acc cenv = (standAt p >>= fun _ => pyNext it >>= fun r => match r with
      | none => pure (.done .next)
      | some v => letOwnedTupleGo target it v >>= fun _ => assign target cenv v >>= fun _ => B acc cenv >>= fun _ => again (.compLoop (.ListComp elt (⟨target, iter, [], 0⟩ :: rest) scope pos) 0 it acc cenv)))
    (ok : CompOK env scope cl m mc) {A : Around} {s : Shared} {Z : Addr → Prop} (ro : Room A n) (a : HA c.base Z H s.heap) (v : VA c.base Z env m (Mut Z H) s.heap)
    (h : IT c n env m H target iter fun Ws H' => ∀ D C, H' D = none → ∃ I : Nat → Vm → Hp → Prop, I 0 mc (H'.set D (.list [])) ∧
      (∀ i W m H, Ws[i]? = some W → I i m H → AS c n (compEnvC scope cl C env) m H target W fun m' H' => BJ c n (compEnvC scope cl C env) m' H' (B (.ref D) (compEnvC scope cl C env)) fun m'' H'' => I (i + 1) m'' H'') ∧
      ∀ m'' H'', I Ws.length m'' H'' → Q (.ref D) H'')
    (fin : ∀ D C s' H', HA c.base (fun b => Z b ∨ b = C) H' s'.heap → (∃ mC, s'.heap.Ns C mC) → VA c.base (fun b => Z b ∨ b = C) env m (Mut (fun b => Z b ∨ b = C) H') s'.heap → Kp No H H' s s' → s.heap.get? C = none → H' C = none → Q (.ref D) H' →
      compPost (model c.prog c.w) A ff use P (.ref D) C (.ok .next) s')
    (hs : ∀ x, foldedSetIterable iter env x = pure x := by intro _; rfl) :
    wpAny (model c.prog c.w) A (comprehension (.ListComp elt (⟨target, iter, [], 0⟩ :: rest) scope pos) scope env pos' (newList []) false (eval iter env) use) P ff s := by
  refine wpAny_comprehension_free rfl hs ok.clos ok.kind ok.names (wpAny_mono (h A s Z ro a v) (fun x s₁ h₁ => wpAny_mono h₁ (fun it s₂ h₂ => ?_) fun _ _ f => f.elim) fun _ _ f => f.elim)
  obtain ⟨Zi, fp, Ws, SR, St, H₂, a₂, k₂, K, sr, st, zi, hfp, q⟩ := h₂
  have zn : ∀ b, Zi b → ¬ Z b := fun b z y => by
    obtain ⟨q, e⟩ := a.zin b y; rw [(zi b z).1] at e; cases e
  refine wpAny_newObj_type (wpAny_newFunctionEnv ok.cell (by intro y hy; simp at hy) (fun h₁ hns₁ hsb₁ => ?_) ok.kind)
  dsimp only at hns₁ hsb₁ ⊢
  generalize hH2 : s₂.heap.push { cls := .type "list", dict := none, data := .seq ([] : List Value).toArray } = H3 at hns₁ hsb₁ ⊢
  have hC : H3.objs.size = s₂.heap.objs.size + 1 := by rw [← hH2, Heap.size_push]
  have fD : s₂.heap.get? s₂.heap.objs.size = none := size_free (Nat.le_refl _)
  have fC : s₂.heap.get? H3.objs.size = none := by rw [hC]; exact size_free (Nat.le_succ _)
  have hDC : s₂.heap.objs.size ≠ H3.objs.size := by rw [hC]; exact Nat.ne_of_lt (Nat.lt_succ_self _)
  have k3 : ∀ b o, s₂.heap.get? b = some o → H3.get? b = some o := fun b o e => hH2 ▸ Heap.get?_push_of_some _ e
  have k4 : ∀ b o, H3.get? b = some o → h₁.get? b = some o := fun b o e => hsb₁.extBut b o (fun z => by rw [z] at e; exact Nat.lt_irrefl _ (Heap.lt_size e)) (Heap.get?_push_of_some _ e)
  have k24 : ∀ b o, s₂.heap.get? b = some o → h₁.get? b = some o := fun b o e => k4 b o (k3 b o e)
  have gD : H3.get? s₂.heap.objs.size = some { cls := .type "list", dict := none, data := .seq ([] : List Value).toArray } := hH2 ▸ Heap.get?_push_size _ rfl
  generalize hCe : H3.objs.size = C at *
  generalize hDe : s₂.heap.objs.size = D at *
  obtain ⟨I, i0, turn, fQ⟩ := q D C (a₂.free fD).1
  have low : 2 < D := hDe ▸ a₂.two
  have fC3 : H3.get? C = none := size_free (hCe ▸ Nat.le_refl _)
  have neD : ∀ b o, s₂.heap.get? b = some o → b ≠ D := fun b o e z => by rw [z, fD] at e; cases e
  have neC : ∀ b o, s₂.heap.get? b = some o → b ≠ C := fun b o e z => by rw [z, fC] at e; cases e
  have a₃ : HA c.base (fun b => Z b ∨ Zi b) (H₂.set D (.list [])) H3 := a₂.put (c := .list []) (.inl fD) (fun b o _ e => k3 b o e) ⟨#[], ⟨_, gD⟩, Reps.nil⟩ low
  have a₄ : HA c.base (fun b => (Z b ∨ b = C) ∨ Zi b) (H₂.set D (.list [])) h₁ := (a₃.hideNew (Zi := fun b => b = C) k4 (fun b z => by rw [z]; exact fC3) fun b z => by rw [z]; obtain ⟨o, _, _, e, _⟩ := hns₁; exact ⟨o, e⟩).rez
    fun b => ⟨fun z => z.elim (fun z => z.elim (fun z => .inl (.inl z)) .inr) fun z => .inl (.inr z), fun z => z.elim (fun z => z.elim (fun z => .inl (.inl z)) .inr) fun z => .inl (.inr z)⟩
  have st24 : Stays s₂.heap h₁ (Mut (fun b => Z b ∨ Zi b) H₂) (Mut (fun b => (Z b ∨ b = C) ∨ Zi b) (H₂.set D (.list []))) := fun b o e z => ⟨k24 b o e, fun y => by
    rcases y with ((y | y) | y) | y
    · exact z (.inl (.inl y))
    · exact neC b o e y
    · exact z (.inl (.inr y))
    · rw [Hp.set_ne _ _ (neD b o e)] at y; exact z (.inr y)⟩
  have v₂ : VA c.base (fun b => Z b ∨ Zi b) env m (Mut (fun b => Z b ∨ Zi b) H₂) s₂.heap := v.hide a k₂ fun b z => (zi b z).1
  have v₄ : VA c.base (fun b => (Z b ∨ b = C) ∨ Zi b) env m (Mut (fun b => (Z b ∨ b = C) ∨ Zi b) (H₂.set D (.list []))) h₁ := v₂.mono st24 (fun b o _ e => k24 b o e) fun b z => z.elim (fun z => .inl (.inl z)) .inr
  have bC : c.base.get? C = none := (a₃.free fC3).2.2
  have vc := v₄.comp (C := C) ⟨_, hns₁⟩ (.inl (.inr rfl)) bC ok
  have sC : s.heap.get? C = none := by
    cases q : s.heap.get? C with
    | none => rfl
    | some o => obtain ⟨o', e⟩ := k₂.there C o q; rw [fC] at e; cases e
  have kk : ∀ t, Kp (Own (compEnvC scope cl C env)) H (H₂.set D (.list [])) s { s₂ with heap := h₁, toks := t } := fun t =>
    ⟨fun b o e hb _ => k24 b o (k₂.same b o e hb id), fun b o e hb => by
      obtain ⟨o', e'⟩ := k₂.there b o e
      rw [Hp.set_ne _ _ (neD b o' e')]; exact k₂.new b o e hb, fun b o e => let ⟨o', e'⟩ := k₂.there b o e; ⟨o', k24 b o' e'⟩, k₂.gens, k₂.os⟩
  have loop : ∀ t, codeAny (model c.prog c.w) A (.compLoop (.ListComp elt (⟨target, iter, [], 0⟩ :: rest) scope pos) 0 it (.ref D) (compEnvC scope cl C env)) (compPost (model c.prog c.w) A ff use P (.ref D) C) { s₂ with heap := h₁, toks := t } := fun t => by
    refine codeAny_mono (cloop (B := B (.ref D) (compEnvC scope cl C env)) (heq it (.ref D) _) (s := s) (Z := fun b => Z b ∨ b = C) ro a₄ vc (kk t) K (K.mono _ _ _ _ st24 sr) (K.frame 0 _ _ st fun b _ o e => k24 b o e) (fun b z => (zi b z).1) (fun b z y => ?_) (fun b o => ?_)
      (fun x d e => .inl (v.cin x d (ok.sub x d e))) (fun b hb => ?_) I i0 turn) fun r s' ⟨e, m', H', a', v', k', i'⟩ => ?_
    · rcases y with y | y
      · exact zn b z y
      · obtain ⟨o, e⟩ := K.live 0 _ b st z; exact neC b o e y
    · rcases o with o | ⟨o, _⟩
      · exact .inr o
      · exact absurd rfl o
    · obtain ⟨h1, h2, o, h3⟩ := hfp b hb
      exact ⟨by rw [Hp.set_ne _ _ (neD b o h3)]; exact h1, h2.imp id fun q => fun y => y.elim q (neC b o h3), o, k24 b o h3⟩
    · subst e
      have kNo : Kp No H H' s s' := ⟨fun b o e h _ => k'.same b o e h fun y => by
        rcases y with y | ⟨y, _⟩
        · have : b = C := y
          rw [this, sC] at e; cases e
        · exact absurd rfl y, k'.new, k'.there, k'.gens, k'.os⟩
      refine fin D C s' H' a' v'.ns (v.hide a kNo fun b z => by rw [z]; exact sC) kNo sC ?_ (fQ m' H' i')
      cases q : H' C with
      | none => rfl
      | some d => exact absurd (.inr rfl) (a'.off C (by rw [q]; simp)).1
  exact codeAny_compStart_list (loop _) (wpAny_mono (K.self A 0 _ _ (K.frame 0 _ _ st fun b _ o e => k24 b o e) (loop _)) (fun _ _ q => q) fun _ _ f => f.elim)
end Mine
end PartC20
section PartC21
open PySem PySem.W PyProof.Rows PySem.Calls
namespace Mine
variable {c : Cx} {n : Nat} {env : Env} {m : Vm} {H : Hp}
theorem IT.mono {target e : Expr} {Q Q' : List V → Hp → Prop} (x : IT c n env m H target e Q) (k : ∀ Ws H', Q Ws H' → Q' Ws H') : IT c n env m H target e Q' := fun A s Z r a v =>
  wpAny_mono (x A s Z r a v) (fun _ _ h => wpAny_mono h (fun _ _ ⟨Zi, fp, Ws, SR, St, H', a1, a2, a3, a4, a5, a6, a7, q⟩ => ⟨Zi, fp, Ws, SR, St, H', a1, a2, a3, a4, a5, a6, a7, k Ws H' q⟩) fun _ _ f => f) fun _ _ f => f
theorem AS.mono {t : Expr} {W : V} {Q Q' : Vm → Hp → Prop} (x : AS c n env m H t W Q) (k : ∀ m' H', Q m' H' → Q' m' H') : AS c n env m H t W Q' := fun A s Z v ro a va r =>
  wpAny_mono (x A s Z v ro a va r) (fun _ _ ⟨m', H', a', v', kk, q⟩ => ⟨m', H', a', v', kk, k m' H' q⟩) fun _ _ f => f
noncomputable abbrev emitB (elt : Expr) (acc : Value) (env : Env) : Sem Unit := eval elt env >>= fun x => call (.builtin "list.append") [acc, x] >>= fun _ => pure ()
theorem BJ.emit {elt : Expr} {D : Addr} {Q : Vm → Hp → Prop} (h : EV c n env m H elt fun X H' => ∃ vs, H' D = some (.list vs) ∧ vs.length ≤ 1000000 ∧ Q m (H'.set D (.list (vs ++ [X])))) : BJ c n env m H (emitB elt (.ref D) env) Q := fun A s Z ro a v =>
  wpAny_bind (h.then ro a v fun x s₁ X H₁ r a₁ v₁ k₁ ⟨vs, hb, hz, q⟩ => wpAny_bind (wpAny_mono
    (CL.append (n := n) (Q := fun _ H' => Q m H') hb hz q A s₁ Z [.ref D, x] ro a₁ (Reps.cons (.ref D) (Reps.cons r Reps.nil))) (fun _ s₂ ⟨W, H₂, r₂, a₂, k₂, q₂⟩ => wpAny_pure ⟨m, H₂, a₂, v₁.step a₁ k₂, (k₁.trans k₂).no, q₂⟩) fun _ _ f => f.elim))
theorem EV.comp {elt target iter : Expr} {scope : Scope} {pos : Pos} {cl : List (Str × Addr)} {mc : Vm} {Q : V → Hp → Prop} (ok : CompOK env scope cl m mc)
    (h : IT c n env m H target iter fun Ws H' => ∀ D C, H' D = none → ∃ I : Nat → Vm → Hp → Prop, I 0 mc (H'.set D (.list [])) ∧
      (∀ i W m H, Ws[i]? = some W → I i m H → AS c n (compEnvC scope cl C env) m H target W fun m' H' => EV c n (compEnvC scope cl C env) m' H' elt fun X H'' => ∃ vs, H'' D = some (.list vs) ∧ vs.length ≤ 1000000 ∧ I (i + 1) m' (H''.set D (.list (vs ++ [X])))) ∧
      ∀ m'' H'', I Ws.length m'' H'' → Q (.ref D) H'')
    (hs : ∀ x, foldedSetIterable iter env x = pure x := by intro _; rfl) : EV c n env m H (.ListComp elt [⟨target, iter, [], 0⟩] scope pos) Q := fun A s Z ro a v => by
  rw [eval_ListComp]
  refine comp_core (B := fun acc env => emitB elt acc env) (use := none) (Q := Q) (fun it acc cenv => compTurn_list1 elt target iter scope pos it acc cenv) ok ro a v (IT.mono h fun Ws H' q D C hD => ?_) (fun D C s' H' a' hn v' k' sC hC q => ?_) hs
  · obtain ⟨I, i0, t, f⟩ := q D C hD
    exact ⟨I, i0, fun i W m H hW hI => AS.mono (t i W m H hW hI) fun m' H' q => BJ.emit q, f⟩
  · obtain ⟨mC, hn⟩ := hn
    refine ⟨mC, hn, fun h' hs' => ?_⟩
    have zn : ∀ b, b = C → ¬ Z b := fun b z y => by
      obtain ⟨o, e⟩ := a.zin b y; rw [z, sC] at e; cases e
    have kp : ∀ b o, ¬ b = C → s'.heap.get? b = some o → h'.get? b = some o := fun b o q e => (hs'.2 b q).trans e
    exact ⟨.ref D, H', .ref D, a'.done zn kp, k'.next (s₂ := { s' with heap := h' }) kp (fun b z => by rw [z]; exact sC) rfl rfl, q⟩
theorem ST.asgCompB {elt target iter : Expr} {rest : List Comprehension} {p : Pos} {B : Value → Env → Sem Unit} {scope : Scope} {pos py spos : Pos} {y : Str} {cl : List (Str × Addr)} {mc : Vm} {Q : Fl → Vm → Hp → Prop} (heq : ∀ it acc cenv, compTurn (.ListComp elt (⟨target, iter, [], 0⟩ :: rest) scope pos) 0 it acc cenv = (standAt p >>= fun _ => pyNext it >>= fun r => match r with
      | none => pure (.done .next)
      | some v => letOwnedTupleGo target it v >>= fun _ => assign target cenv v >>= fun _ => B acc cenv >>= fun _ => again (.compLoop (.ListComp elt (⟨target, iter, [], 0⟩ :: rest) scope pos) 0 it acc cenv)))
    (ok : CompOK env scope cl m mc)
    (hsw : swapsWith (.ListComp elt (⟨target, iter, [], 0⟩ :: rest) scope pos) (some (.Name y py)) spos.line env = pure true)
    (h : IT c n env m H target iter fun Ws H' => ∀ D C, H' D = none → ∃ I : Nat → Vm → Hp → Prop, I 0 mc (H'.set D (.list [])) ∧
      (∀ i W m H, Ws[i]? = some W → I i m H → AS c n (compEnvC scope cl C env) m H target W fun m' H' => BJ c n (compEnvC scope cl C env) m' H' (B (.ref D) (compEnvC scope cl C env)) fun m'' H'' => I (i + 1) m'' H'') ∧
      ∀ m'' H'', I Ws.length m'' H'' → ∃ W H₃ m₃, ((∃ vs, W = .lst vs ∧ H'' D = some (.list vs) ∧ H₃ = H''.del D) ∨ (W = .ref D ∧ H₃ = H'')) ∧ Upd y W m m₃ ∧ Q .next m₃ H₃)
    (hst : env.func ≠ none ∨ env.kindOf y = some .local)
    (hs : ∀ x, foldedSetIterable iter env x = pure x := by intro _; rfl) : ST c n env m H (.Assign [.Name y py] (.ListComp elt (⟨target, iter, [], 0⟩ :: rest) scope pos) spos) Q := fun A s Z ro a v => by
  rw [exec_Assign_Name_used _ _ _ _ hsw]
  refine wpAny_bind (wpAny_standAt (wpAny_bind ?_))
  show wpAny _ A (do let _ ← comprehension (.ListComp elt (⟨target, iter, [], 0⟩ :: rest) scope pos) scope env _ (newList []) false (eval iter env) (some (assign (.Name y py) env))) _ _ s
  refine wpAny_bind (wpAny_mono (comp_core (P := fun _ s' => PostS c Z env H s Q .next s') (B := B) (use := some (assign (.Name y py) env))
    (Q := fun X H'' => ∃ D, X = .ref D ∧ ∃ W H₃ m₃, ((∃ vs, W = .lst vs ∧ H'' D = some (.list vs) ∧ H₃ = H''.del D) ∨ (W = .ref D ∧ H₃ = H'')) ∧ Upd y W m m₃ ∧ Q .next m₃ H₃) heq ok ro a v (IT.mono h fun Ws H' q D C hD => ?_) (fun D C s' H' a' hn v' k' sC hC q => ?_) hs)
    (fun _ s' hq => wpAny_pure (wpAny_pure hq)) fun _ _ e => e)
  · obtain ⟨I, i0, t, f⟩ := q D C hD
    exact ⟨I, i0, fun i W m H hW hI => AS.mono (t i W m H hW hI) fun m' H' q => q, fun m'' H'' hI => ⟨D, rfl, f m'' H'' hI⟩⟩
  · obtain ⟨_, e, W, H₃, m₃, hW, u, q⟩ := q
    cases e
    have hr : Rep s'.heap (Mut (fun b => Z b ∨ b = C) H₃) (.ref D) W ∧ (∀ a d, H₃ a = some d → H' a = some d) := by
      rcases hW with ⟨vs, rfl, hb, rfl⟩ | ⟨rfl, rfl⟩
      · obtain ⟨items, hp, rs⟩ := a'.cell D _ hb
        have l : ∀ a d, H'.del D a = some d → H' a = some d := fun x d e => by
          by_cases q : x = D
          · subst q; rw [Hp.del_same] at e; cases e
          · rwa [Hp.del_ne _ q] at e
        refine ⟨Rep.lst_iff.mpr ⟨D, items, rfl, hp, fun z => ?_, rs.1, fun i v V e e' => (rs.2 i v V e e').less l⟩, l⟩
        rcases z with z | z
        · exact (a'.off D (by rw [hb]; simp)).1 z
        · rw [Hp.del_same] at z; exact z rfl
      · exact ⟨.ref D, fun _ _ e => e⟩
    obtain ⟨hr, l⟩ := hr
    have a₃ := a'.less l
    have k₃ := k'.less l
    have v₃ : VA c.base (fun b => Z b ∨ b = C) env m (Mut (fun b => Z b ∨ b = C) H₃) s'.heap := v'.mono (fun b o e q => ⟨e, fun m => q (m.imp id fun z => by
      cases p : H₃ b with
      | none => exact absurd p z
      | some d => rw [l b d p]; simp)⟩) (fun _ _ _ e => e) fun _ z => z
    have nC : ¬ Own env C := fun o => by
      obtain ⟨o', e⟩ := a.zin C (v.own C o); rw [sC] at e; cases e
    have h3C : H₃ C = none := by
      cases p : H₃ C with
      | none => rfl
      | some d => rw [l C d p] at hC; cases hC
    show wpAny _ A (assign (.Name y py) env (.ref D)) _ _ _
    refine wpAny_mono (AS.name (c := c) (n := n) (Q := fun m' H' => m' = m₃ ∧ H' = H₃) u ⟨rfl, rfl⟩ hst A s' (fun b => Z b ∨ b = C) (.ref D) ro a₃ v₃ hr) (fun _ s₄ ⟨m₄, H₄, a₄, v₄, k₄, e⟩ => ?_) fun _ _ f => f.elim
    obtain ⟨rfl, rfl⟩ := e
    obtain ⟨mC, hn⟩ := hn
    refine ⟨mC, Ns_at hn fun o e => k₄.same C o e h3C nC, fun h' hs' => ?_⟩
    have zn : ∀ b, b = C → ¬ Z b := fun b z y => by
      obtain ⟨o, e⟩ := a.zin b y; rw [z, sC] at e; cases e
    have kp : ∀ b o, ¬ b = C → s₄.heap.get? b = some o → h'.get? b = some o := fun b o q e => (hs'.2 b q).trans e
    exact ⟨.next, m₄, H₄, .next, a₄.done zn kp, v₄.done v.own v.cin zn kp, (k₃.no.trans k₄).next (s₂ := { s₄ with heap := h' }) kp (fun b z => by rw [z]; exact sC) rfl rfl, q⟩
theorem ST.asgComp {elt target iter : Expr} {scope : Scope} {pos py spos : Pos} {y : Str} {cl : List (Str × Addr)} {mc : Vm} {Q : Fl → Vm → Hp → Prop} (ok : CompOK env scope cl m mc)
    (hsw : swapsWith (.ListComp elt [⟨target, iter, [], 0⟩] scope pos) (some (.Name y py)) spos.line env = pure true)
    (h : IT c n env m H target iter fun Ws H' => ∀ D C, H' D = none → ∃ I : Nat → Vm → Hp → Prop, I 0 mc (H'.set D (.list [])) ∧
      (∀ i W m H, Ws[i]? = some W → I i m H → AS c n (compEnvC scope cl C env) m H target W fun m' H' => EV c n (compEnvC scope cl C env) m' H' elt fun X H'' => ∃ vs, H'' D = some (.list vs) ∧ vs.length ≤ 1000000 ∧ I (i + 1) m' (H''.set D (.list (vs ++ [X])))) ∧
      ∀ m'' H'', I Ws.length m'' H'' → ∃ W H₃ m₃, ((∃ vs, W = .lst vs ∧ H'' D = some (.list vs) ∧ H₃ = H''.del D) ∨ (W = .ref D ∧ H₃ = H'')) ∧ Upd y W m m₃ ∧ Q .next m₃ H₃)
    (hst : env.func ≠ none ∨ env.kindOf y = some .local)
    (hs : ∀ x, foldedSetIterable iter env x = pure x := by intro _; rfl) : ST c n env m H (.Assign [.Name y py] (.ListComp elt [⟨target, iter, [], 0⟩] scope pos) spos) Q :=
  ST.asgCompB (B := fun acc env => emitB elt acc env) (fun it acc cenv => compTurn_list1 elt target iter scope pos it acc cenv) ok hsw (IT.mono h fun Ws H' q D C hD => by
    obtain ⟨I, i0, t, f⟩ := q D C hD
    exact ⟨I, i0, fun i W m H hW hI => AS.mono (t i W m H hW hI) fun m' H' q => BJ.emit q, f⟩) hst hs
noncomputable abbrev emitB2 (elt target iter : Expr) (g0 : Comprehension) (scope : Scope) (pos : Pos) (acc : Value) (env : Env) : Sem Unit := eval iter env >>= fun x => standAt iter.pos >>= fun _ => foldedSetIterable iter env x >>= fun x =>
  holding [x] (pyIter x) >>= fun it => runOwn (.compStart (.ListComp elt [g0, ⟨target, iter, [], 0⟩] scope pos) 1 it acc env) env >>= fun _ => pure ()
theorem compTurn_two (elt t0 i0 target iter : Expr) (scope : Scope) (pos : Pos) (it acc : Value) (env : Env) :
    compTurn (.ListComp elt [⟨t0, i0, [], 0⟩, ⟨target, iter, [], 0⟩] scope pos) 0 it acc env = (standAt i0.pos >>= fun _ => pyNext it >>= fun r => match r with
      | none => pure (.done .next)
      | some v => letOwnedTupleGo t0 it v >>= fun _ => assign t0 env v >>= fun _ => emitB2 elt target iter ⟨t0, i0, [], 0⟩ scope pos acc env >>= fun _ =>
          again (.compLoop (.ListComp elt [⟨t0, i0, [], 0⟩, ⟨target, iter, [], 0⟩] scope pos) 0 it acc env)) := by
  simp only [emitB2, bind_assoc, pure_bind]
  rfl
theorem compTurn_two1 (elt : Expr) (g0 : Comprehension) (target iter : Expr) (scope : Scope) (pos : Pos) (it acc : Value) (env : Env) :
    compTurn (.ListComp elt [g0, ⟨target, iter, [], 0⟩] scope pos) 1 it acc env = (standAt iter.pos >>= fun _ => pyNext it >>= fun r => match r with
      | none => pure (.done .next)
      | some v => letOwnedTupleGo target it v >>= fun _ => assign target env v >>= fun _ => emitB elt acc env >>= fun _ =>
          again (.compLoop (.ListComp elt [g0, ⟨target, iter, [], 0⟩] scope pos) 1 it acc env)) := by rfl
theorem compStart_two {elt target iter : Expr} {g0 : Comprehension} {scope : Scope} {pos : Pos} {it acc : Value} {A : Around} {R : Result → Shared → Prop} {s : Shared}
    (h0 : codeAny (model c.prog c.w) A (.compLoop (.ListComp elt [g0, ⟨target, iter, [], 0⟩] scope pos) 1 it acc env) R s)
    (h : wpAny (model c.prog c.w) A (pyIter it) (fun it' s' => codeAny (model c.prog c.w) A (.compLoop (.ListComp elt [g0, ⟨target, iter, [], 0⟩] scope pos) 1 it' acc env) R s')
      (notedBy (model c.prog c.w) A env fun x s' => R (.error x) s') s) :
    codeAny (model c.prog c.w) A (.compStart (.ListComp elt [g0, ⟨target, iter, [], 0⟩] scope pos) 1 it acc env) R s := by
  refine codeAny_of_tree ?_
  show wpAny _ _ ((compStart (.ListComp elt [g0, ⟨target, iter, [], 0⟩] scope pos) 1 it acc env).onRaise (fun x => do noteFrame x env; standAt theWindowsPlace)) _ _ s
  refine wpAny_notedAt ?_
  unfold compStart
  show wpAny _ _ (ask >>= _) _ _ s
  refine wpAny_bind (wpAny_askSetting (wpAny_ite ?_))
  split
  · first
      | exact wpAny_bind (wpAny_pure (wpAny_pure (And.intro rfl h0)))
      | exact wpAny_pure (And.intro rfl h0)
  · first
      | exact wpAny_bind (wpAny_rule (wpAny_bind (wpAny_standAt (wpAny_bind (wpAny_mono h (fun it' s' h' => wpAny_pure (And.intro rfl h')) fun _ _ x => x)))))
      | (refine wpAny_bind (wpAny_rule ?_); show wpAny _ _ (standAt iter.pos >>= _) _ _ s; exact wpAny_bind (wpAny_standAt (wpAny_bind (wpAny_mono h (fun it' s' h' => wpAny_pure (And.intro rfl h')) fun _ _ x => x))))
theorem BJ.two {elt target iter : Expr} {g0 : Comprehension} {scope : Scope} {pos : Pos} {D : Addr} {Q : Vm → Hp → Prop}
    (h : IT c n env m H target iter fun Ws H' => ∃ I : Nat → Vm → Hp → Prop, I 0 m H' ∧ (∀ i W m H, Ws[i]? = some W → I i m H → AS c n env m H target W fun m' H' => EV c n env m' H' elt fun X H'' => ∃ vs, H'' D = some (.list vs) ∧ vs.length ≤ 1000000 ∧ I (i + 1) m' (H''.set D (.list (vs ++ [X])))) ∧
      ∀ m'' H'', I Ws.length m'' H'' → Q m'' H'')
    (hs : ∀ x, foldedSetIterable iter env x = pure x := by intro _; rfl) : BJ c n env m H (emitB2 elt target iter g0 scope pos (.ref D) env) Q := fun A s Z ro a v => by
  refine wpAny_bind (wpAny_mono (h A s Z ro a v) (fun x s₁ h₁ => wpAny_bind (wpAny_standAt (wpAny_bind (wpAny_of_eq (hs x) (wpAny_bind (wpAny_holding (wpAny_mono h₁ (fun it s₂ h₂ => ?_) fun _ _ f => f.elim))))))) fun _ _ f => f.elim)
  obtain ⟨Zi, fp, Ws, SR, St, H₂, a₂, k₂, K, sr, st, zi, hfp, I, i0, turn, fQ⟩ := h₂
  have zn : ∀ b, Zi b → ¬ Z b := fun b z y => by
    obtain ⟨q, e⟩ := a.zin b y; rw [(zi b z).1] at e; cases e
  have v₂ := v.hide a k₂ (Zi := Zi) fun b z => (zi b z).1
  refine wpAny_bind (wpAny_runOwn ?_)
  have loop : codeAny (model c.prog c.w) A (.compLoop (.ListComp elt [g0, ⟨target, iter, [], 0⟩] scope pos) 1 it (.ref D) env) (fun r s' => match r with
      | .ok f => wpAny (model c.prog c.w) A (pure ()) (PostA c Z env H s Q) ff s' | .error e => cameBackBy (model c.prog c.w) A env ff e s') s₂ := by
    refine codeAny_mono (cloop (B := emitB elt (.ref D) env) (compTurn_two1 elt g0 target iter scope pos it (.ref D) env) ro a₂ v₂ k₂.no K sr st (fun b z => (zi b z).1) zn v.own v.cin hfp I i0
      fun i W m H hW hI => AS.mono (turn i W m H hW hI) fun m' H' q => BJ.emit q) fun r s' ⟨e, m', H', a', v', k', i'⟩ => ?_
    subst e
    exact wpAny_pure ⟨m', H', a', v', k', fQ m' H' i'⟩
  exact compStart_two loop (wpAny_mono (K.self A 0 s₂ _ st loop) (fun _ _ q => q) fun _ _ f => f.elim)
end Mine
end PartC21
section PartC22
open PySem PySem.W PyProof.Rows PySem.Calls
namespace Mine
variable {c : Cx} {n : Nat} {env : Env} {m : Vm} {H : Hp}
theorem bindL_other {k : Str → Option NameKind} {x : Str} : ∀ {b : List (Str × Value)} {m : Str → Option Value}, (∀ p ∈ b, p.1 ≠ x) → bindL k b m x = m x
  | [], _, _ => rfl
  | (y, v) :: r, m, h => by
    unfold bindL
    rw [bindL_other fun p hp => h p (.tail _ hp)]
    split
    · show (if x = y then some v else m x) = m x
      rw [if_neg fun e => h (y, v) (.head _) e.symm]
    · rfl
theorem bindC_other {k : Str → Option NameKind} {x : Str} : ∀ {b : List (Str × Value)} {m : Str → Option Value}, (∀ p ∈ b, p.1 ≠ x) → bindC k b m x = m x
  | [], _, _ => rfl
  | (y, v) :: r, m, h => by
    unfold bindC
    rw [bindC_other fun p hp => h p (.tail _ hp)]
    split
    · rfl
    · show (if x = y then some v else m x) = m x
      rw [if_neg fun e => h (y, v) (.head _) e.symm]
theorem bindL_at {k : Str → Option NameKind} {x : Str} {v : Value} (hk : k x = some .local) : ∀ {b : List (Str × Value)} {m : Str → Option Value}, (b.map (·.1)).Nodup → (x, v) ∈ b → bindL k b m x = some v
  | [], _, _, h => by cases h
  | (y, u) :: r, m, nd, h => by
    have nd' := List.nodup_cons.mp nd
    unfold bindL
    rcases List.mem_cons.mp h with e | h
    · cases e
      rw [bindL_other fun p hp e => nd'.1 (List.mem_map.mpr ⟨p, hp, e⟩), if_pos hk]
      simp
    · exact bindL_at hk nd'.2 h
theorem bindC_at {k : Str → Option NameKind} {x : Str} {v : Value} (hk : k x ≠ some .local) : ∀ {b : List (Str × Value)} {m : Str → Option Value}, (b.map (·.1)).Nodup → (x, v) ∈ b → bindC k b m x = some v
  | [], _, _, h => by cases h
  | (y, u) :: r, m, nd, h => by
    have nd' := List.nodup_cons.mp nd
    unfold bindC
    rcases List.mem_cons.mp h with e | h
    · cases e
      rw [bindC_other fun p hp e => nd'.1 (List.mem_map.mpr ⟨p, hp, e⟩), if_neg hk]
      simp
    · exact bindC_at hk nd'.2 h
theorem mem_zip {h : Heap} {M : Addr → Prop} : ∀ {ps : List Str} {Ws : List V} {vs : List Value} {x : Str} {W : V}, Reps h M vs Ws → (x, some W) ∈ ps.zip (Ws.map some) → ∃ v, (x, v) ∈ ps.zip vs ∧ Rep h M v W
  | [], _, _, _, _, _, hm => by simp at hm
  | p :: ps, [], _, _, _, r, hm => by simp at hm
  | p :: ps, W₀ :: Ws, vs, x, W, r, hm => by
    obtain ⟨v, vr, rfl, r1, r2⟩ := r.uncons
    simp only [List.map_cons, List.zip_cons_cons] at hm ⊢
    rcases List.mem_cons.mp hm with e | hm
    · cases e; exact ⟨v, .head _, r1⟩
    · obtain ⟨v', e, r'⟩ := mem_zip r2 hm
      exact ⟨v', .tail _ e, r'⟩
theorem lookup_some_of_names {x : Str} : ∀ {cs ds : List (Str × Addr)}, cs.map (·.1) = ds.map (·.1) → (cs.lookup x).isSome = true → (ds.lookup x).isSome = true
  | [], [], _, h => h
  | [], _ :: _, e, _ => by simp at e
  | _ :: _, [], e, _ => by simp at e
  | (a, b) :: cs, (a', b') :: ds, e, h => by
    simp only [List.map_cons, List.cons.injEq] at e
    obtain ⟨rfl, e⟩ := e
    simp only [List.lookup_cons] at h ⊢
    cases q : x == a with
    | true => rfl
    | false => rw [q] at h; exact lookup_some_of_names e h
noncomputable def okNamesC (scope : Scope) (ps rest : List Str) : Bool :=
  decide ((ps ++ rest).Nodup) && (ps ++ rest).all fun x => (scope.names.lookup x == some .local || (scope.names.lookup x == some .cell && ((cellsFrom 0 scope.names []).lookup x).isSome)) && x != ("__debug__" : Str) && x != ("__classdict__" : Str)
theorem zip_fst {α : Type} : ∀ (ps : List Str) (vs : List α), ps.length = vs.length → (ps.zip vs).map (·.1) = ps
  | [], [], _ => rfl
  | p :: ps, W :: Ws, h => by simp at h; simp [zip_fst ps Ws h]
  | [], _ :: _, h => by simp at h
  | _ :: _, [], h => by simp at h
theorem mem_of_lookup {x : Str} {d : Addr} : ∀ {cs : List (Str × Addr)}, cs.lookup x = some d → (x, d) ∈ cs
  | [], e => by simp at e
  | (y, w) :: cs, e => by
    rw [List.lookup_cons] at e
    split at e
    · rename_i hk
      rw [beq_iff_eq] at hk; subst hk; cases e; exact .head _
    · exact .tail _ (mem_of_lookup e)
theorem same_of_apart {cs : List (Str × Addr)} (h : cs.Pairwise fun x y => x.2 ≠ y.2) {x y : Str} {d : Addr} : (x, d) ∈ cs → (y, d) ∈ cs → x = y := by
  induction h with
  | nil => intro h; cases h
  | cons h1 _ ih =>
    intro h h'
    rcases List.mem_cons.mp h with e | h <;> rcases List.mem_cons.mp h' with e' | h'
    · have := e.trans e'.symm; cases this; rfl
    · exact absurd (by rw [← e]) (h1 _ h')
    · exact absurd (by rw [← e']) (h1 _ h)
    · exact ih h h'
theorem FN.defC {oc : Value} {od : Option Addr} {osl : Array (Option Value)} {name qual : Str} {params : Arguments} {body : List Stmt} {scope : Scope} {dV kV doc pm cdv ct : Value} {an : Option Addr} {f : Addr} {Ws Ds : List V} {ps rest : List Str} {ds : List Value} {Q : V → Hp → Prop}
    (ho : c.K.lookup f = some ⟨oc, od, .func (fnOf name qual params body scope dV kV doc pm an cdv ct), osl⟩) (hcd : codeIn c.K cdv qual = true) (hlen : ps.length = (Ws ++ Ds).length) (hds : ∀ h M, Reps h M ds Ds)
    (hbind : ∀ (s : Shared) (vs : List Value), c.K.In s.heap → vs.length = Ws.length → BindsTo s (fnOf name qual params body scope dV kV doc pm an cdv ct) ⟨vs, []⟩ (ps.zip (vs ++ ds)))
    (hok : okNamesC scope ps rest = true) (hco : scope.isCoroutine = false) (hgen : scope.isGenerator = false) (hk : scope.kind = .function)
    (h : ∀ L, SX c n (envX qual scope L f cdv (cellsFrom (L + 1) scope.names [])) (frame ps (Ws ++ Ds) rest) H body fun F _ H' => match F with | .ret W => Q W H' | .next => Q .none H' | _ => False) : FN c (n + 1) (.ref f) Ws H Q := fun A s Z vs ro a r => by
  have hok' := Bool.and_eq_true_iff.mp hok
  have nd : (ps ++ rest).Nodup := of_decide_eq_true hok'.1
  have all : ∀ x ∈ ps ++ rest, (scope.names.lookup x = some .local ∨ (scope.names.lookup x = some .cell ∧ ((cellsFrom 0 scope.names []).lookup x).isSome = true)) ∧ (x == ("__debug__" : Str)) = false ∧ (x == ("__classdict__" : Str)) = false := fun x hx => by
    have := List.all_eq_true.mp hok'.2 x hx
    simp only [Bool.and_eq_true, Bool.or_eq_true, beq_iff_eq, bne_iff_ne, ne_eq] at this
    exact ⟨this.1.1, by simpa using this.1.2, by simpa using this.2⟩
  have up : ∀ k x, ((cellsFrom 0 scope.names []).lookup x).isSome = true → ((cellsFrom k scope.names []).lookup x).isSome = true := fun k x e => lookup_some_of_names (cellsFrom_names scope.names 0 k [] [] rfl) e
  have rr : Reps s.heap (Mut Z H) (vs ++ ds) (Ws ++ Ds) := r.append (hds _ _)
  have hlen' : ps.length = (vs ++ ds).length := by rw [hlen, rr.1]
  refine codeAny_call_function (fd := fnOf name qual params body scope dV kV doc pm an cdv ct) (body := body) (by have := ro.depth; lia) (fr_base c a _ _ ho) rfl hco hgen rfl (codeRec_of (fr_base c a) hcd) (hbind s vs (fr_base c a) r.1 _ _ _ _ ?_)
  refine wpAny_newFunctionEnv_cells hk (fun x hx => ?_) fun env he s₁ X => ?_
  · have := all x.1 (List.mem_append_left _ (List.of_mem_zip (show (x.1, x.2) ∈ ps.zip (vs ++ ds) from hx)).1)
    exact this.1.imp id fun q => ⟨q.1, up _ _ q.2⟩
  subst he
  obtain ⟨h₁, tk, rfl, _⟩ := X.done
  have hk₁ := X.toInCall.keep
  refine ⟨c.lim.keeps fun b o e => hk₁ b o (a.keep b o e), codeAny_func ?_⟩
  let L := s.heap.objs.size
  let E : Env := envX qual scope L f cdv (cellsFrom (L + 1) scope.names [])
  show wpAny _ (A.deeper E) (execs body E) _ _ _
  let Zi : Addr → Prop := fun b => b = L ∨ ∃ x, E.cells.lookup x = some b
  have fz : ∀ b, Zi b → s.heap.get? b = none := fun b z => by
    rcases z with z | ⟨x, z⟩
    · rw [z]; exact size_free (Nat.le_refl _)
    · exact size_free (Nat.le_of_lt (X.above x b (mem_of_lookup z)))
  have a₁ : HA c.base (fun b => Z b ∨ Zi b) H h₁ := a.hideNew hk₁ fz fun b z => by
    rcases z with z | ⟨x, z⟩
    · rw [z]; obtain ⟨o, _, _, e, _⟩ := X.toInCall.ns; exact ⟨o, e⟩
    · obtain ⟨o, e, _⟩ := X.cell x b z; exact ⟨o, e⟩
  have st : Stays s.heap h₁ (Mut Z H) (Mut (fun b => Z b ∨ Zi b) H) := stays_hide (base := c.base) hk₁ fz
  have memf : ∀ x W, (x, W) ∈ frame ps (Ws ++ Ds) rest → x ∈ ps ++ rest := fun x W hx => by
    rw [← frame_keys (Ws := Ws ++ Ds) (rest := rest) hlen]; exact List.mem_map.mpr ⟨_, hx, rfl⟩
  have ndz : ((ps.zip (vs ++ ds)).map (·.1)).Nodup := by rw [zip_fst _ _ hlen']; exact (List.nodup_append.mp nd).1
  have v₁ : VA c.base (fun b => Z b ∨ Zi b) E (frame ps (Ws ++ Ds) rest) (Mut (fun b => Z b ∨ Zi b) H) h₁ := {
    kind := hk, glob := rfl, bi := rfl, ns := ⟨_, X.toInCall.ns⟩
    nodup := by rw [frame_keys hlen]; exact nd
    dom := fun x W hx => (all x (memf x W hx)).1.imp id fun ⟨q, e⟩ => ⟨.inl q, by
      obtain ⟨d, e⟩ := Option.isSome_iff_exists.mp (up (L + 1) x e)
      exact ⟨d, _, e, X.cell x d e⟩⟩
    var := fun x W hx => by
      rcases List.mem_append.mp hx with hx' | hx'
      · obtain ⟨v, e, rv⟩ := mem_zip rr hx'
        refine ⟨v, rv.mono st, ?_⟩
        rcases (all x (memf x _ hx)).1 with q | ⟨q, e'⟩
        · exact .inl ⟨q, _, X.toInCall.ns, bindL_at q ndz e⟩
        · obtain ⟨d, e'⟩ := Option.isSome_iff_exists.mp (up (L + 1) x e')
          have this : h₁.IsCell d (bindC E.kindOf (ps.zip (vs ++ ds)) (fun _ => none) x) := X.cell x d e'
          rw [bindC_at (k := E.kindOf) (show E.kindOf x ≠ some .local by rw [show E.kindOf x = scope.names.lookup x from rfl, q]; intro z; cases z) ndz e] at this
          exact .inr ⟨.inl q, d, e', this⟩
      · obtain ⟨y, _, e⟩ := List.mem_map.mp hx'
        cases e
    own := fun b z => by
      rcases z with z | ⟨_, x, _, z⟩
      · exact .inr (.inl z)
      · exact .inr (.inr ⟨x, z⟩)
    fresh := fun b z => by
      refine (a.free (fz b ?_)).2.2
      rcases z with z | ⟨_, x, _, z⟩
      · exact .inl z
      · exact .inr ⟨x, z⟩
    cin := fun x d e => .inr (.inr ⟨x, e⟩)
    inj := fun x y d e e' => same_of_apart X.apart (mem_of_lookup e) (mem_of_lookup e')
    dbg := fun x W hx => (all x (memf x W hx)).2.1
    cls := fun x W hx => (all x (memf x W hx)).2.2
    sto := fun x W hx _ q => by
      rw [show E.kindOf x = scope.names.lookup x from rfl] at q
      rcases (all x (memf x W hx)).1 with e | ⟨e, _⟩ <;> rw [e] at q <;> cases q }
  have ro' : Room (A.deeper E) n := ⟨ro.handled, by have := ro.depth; show A.depth + 1 + 10 * n < _; lia, by have := ro.units; show A.units + 3 + 100 * n < _; lia⟩
  refine wpAny_mono (h L _ { s with heap := h₁, toks := tk } _ ro' a₁ v₁) (fun fl s' p => ?_) fun _ _ f => f.elim
  obtain ⟨F, m', H', fr, a', v', k', q⟩ := p
  have back : ∀ v W, Rep s'.heap (Mut (fun b => Z b ∨ Zi b) H') v W → Q W H' → Post c Z H s Q v s' := fun v W rv q => by
    refine ⟨W, H', rv.mono Stays.show, a'.show, ⟨fun b o e z _ => ?_, fun b o e z => k'.new b o (hk₁ b o e) z, fun b o e => k'.there b o (hk₁ b o e), k'.gens, k'.os⟩, q⟩
    refine k'.same b o (hk₁ b o e) z fun y => ?_
    have : Zi b := by
      rcases y with y | ⟨_, x, _, y⟩
      · exact .inl y
      · exact .inr ⟨x, y⟩
    rw [fz b this] at e; cases e
  cases fr with
  | next => exact ⟨.none, rfl, back _ _ .none q⟩
  | brk => exact q.elim
  | cont => exact q.elim
  | ret rv => exact ⟨_, rfl, back _ _ rv q⟩
theorem SX.ghost {st : List Stmt} {m' : Vm} {H' : Hp} {Q : Fl → Vm → Hp → Prop} (hH : ∀ Z h, HA c.base Z H h → VA c.base Z env m (Mut Z H) h → HA c.base Z H' h ∧ VA c.base Z env m' (Mut Z H') h) (hn : ∀ b, H b = none → H' b = none)
    (h : SX c n env m' H' st Q) : SX c n env m H st Q := fun A s Z ro a v => by
  obtain ⟨a', v'⟩ := hH Z _ a v
  refine wpAny_mono (h A s Z ro a' v') (fun f s' p => p.pre ⟨fun b o e _ _ => e, fun b o e q => hn b q, fun b o e => ⟨o, e⟩, rfl, rfl⟩) fun _ _ f => f
end Mine
end PartC22
section PartC23
open PySem PySem.W PyProof.Rows PySem.Calls
namespace Mine
variable {c : Cx} {n : Nat} {env : Env} {m : Vm} {H : Hp}
noncomputable def Gh (c : Cx) (H : Hp) (W : V) (H' : Hp) (W' : V) : Prop :=
  (∀ b, H b = none → H' b = none) ∧ ∀ Z h v, HA c.base Z H h → Rep h (Mut Z H) v W → HA c.base Z H' h ∧ Rep h (Mut Z H') v W'
theorem gh_stays {Z : Addr → Prop} {H H' : Hp} {h : Heap} (n : ∀ b, H b = none → H' b = none) : Stays h h (Mut Z H) (Mut Z H') := fun b o e q => ⟨e, fun m => m.elim (fun z => q (.inl z)) fun z => q (.inr fun y => z (n b y))⟩
theorem Gh.refl {W : V} : Gh c H W H W := ⟨fun _ e => e, fun Z h v a r => ⟨a, r⟩⟩
theorem Gh.trans {W W' W'' : V} {H' H'' : Hp} (x : Gh c H W H' W') (y : Gh c H' W' H'' W'') : Gh c H W H'' W'' := ⟨fun b e => y.1 b (x.1 b e), fun Z h v a r => let ⟨a', r'⟩ := x.2 Z h v a r; y.2 Z h v a' r'⟩
theorem del_less {a : Addr} : ∀ x d, H.del a x = some d → H x = some d := fun x d e => by
  by_cases q : x = a
  · subst q; rw [Hp.del_same] at e; cases e
  · rwa [Hp.del_ne _ q] at e
theorem less_none {H' : Hp} (l : ∀ x d, H' x = some d → H x = some d) : ∀ b, H b = none → H' b = none := fun b e => by
  cases q : H' b with
  | none => rfl
  | some d => rw [l b d q] at e; cases e
theorem Gh.drop {W : V} {H' : Hp} (l : ∀ x d, H' x = some d → H x = some d) : Gh c H W H' W := ⟨less_none l, fun Z h v a r => ⟨a.less l, r.less l⟩⟩
theorem Gh.lst {a : Addr} {vs : List V} (hb : H a = some (.list vs)) : Gh c H (.ref a) (H.del a) (.lst vs) := ⟨less_none del_less, fun Z h v x r => by
  (first | obtain ⟨_, rfl⟩ := Rep.I r | obtain rfl := Rep.R r | obtain rfl := Rep.B r | obtain rfl := Rep.N r | obtain ⟨_, rfl⟩ := Rep.S r)
  obtain ⟨items, hp, rs⟩ := x.cell a _ hb
  refine ⟨x.less del_less, Rep.lst_iff.mpr ⟨a, items, rfl, hp, fun z => ?_, rs.1, fun i v V e e' => (rs.2 i v V e e').less del_less⟩⟩
  rcases z with z | z
  · exact (x.off a (by rw [hb]; simp)).1 z
  · rw [Hp.del_same] at z; exact z rfl⟩
theorem Gh.obj {x C d : Addr} {at_ : List (Str × V)} (hx : H x = some (.inst C d)) (hd : H d = some (.ns at_)) : Gh c H (.ref x) ((H.del x).del d) (.obj C at_) :=
  have l : ∀ y e, (H.del x).del d y = some e → H y = some e := fun y e h => del_less y e (del_less y e h)
  ⟨less_none l, fun Z h v a r => by
    (first | obtain ⟨_, rfl⟩ := Rep.I r | obtain rfl := Rep.R r | obtain rfl := Rep.B r | obtain rfl := Rep.N r | obtain ⟨_, rfl⟩ := Rep.S r)
    obtain ⟨es, k, e, E⟩ := a.cell d _ hd
    have ne : x ≠ d := fun q => by rw [q, hd] at hx; cases hx
    refine ⟨a.less l, Rep.obj_iff.mpr ⟨x, d, es, k, rfl, a.cell x _ hx, e, fun z => ?_, fun z => ?_, E.len, E.nodup, E.key, fun i e p h1 h2 => (E.val i e p h1 h2).less l⟩⟩
    · rcases z with z | z
      · exact (a.off x (by rw [hx]; simp)).1 z
      · rw [Hp.del_ne _ ne, Hp.del_same] at z; exact z rfl
    · rcases z with z | z
      · exact (a.off d (by rw [hd]; simp)).1 z
      · rw [Hp.del_same] at z; exact z rfl⟩
inductive UpdG (k : Str) (X X' : V) : List (Str × V) → List (Str × V) → Prop
  | hit {r : List (Str × V)} : UpdG k X X' ((k, X) :: r) ((k, X') :: r)
  | miss {p : Str × V} {r r' : List (Str × V)} (h : UpdG k X X' r r') : UpdG k X X' (p :: r) (p :: r')
theorem UpdG.keys {k : Str} {X X' : V} {a b : List (Str × V)} (u : UpdG k X X' a b) : b.map (·.1) = a.map (·.1) := by
  induction u with
  | hit => rfl
  | miss _ ih => simp [ih]
theorem UpdG.at {k : Str} {X X' : V} {a b : List (Str × V)} (u : UpdG k X X' a b) : ∀ (i : Nat) q, b[i]? = some q → ∃ p, a[i]? = some p ∧ p.1 = q.1 ∧ (p.2 = q.2 ∨ (p.2 = X ∧ q.2 = X')) := by
  induction u with
  | hit =>
    intro i q h
    cases i with
    | zero => simp at h; subst h; exact ⟨_, rfl, rfl, .inr ⟨rfl, rfl⟩⟩
    | succ i => simp at h; exact ⟨q, by simpa using h, rfl, .inl rfl⟩
  | miss _ ih =>
    intro i q h
    cases i with
    | zero => simp at h; subst h; exact ⟨_, rfl, rfl, .inl rfl⟩
    | succ i => simp at h; obtain ⟨p, h1, h2⟩ := ih i q h; exact ⟨p, by simpa using h1, h2⟩
theorem Gh.attr {d : Addr} {k : Str} {X X' W : V} {H₁ : Hp} {at_ at' : List (Str × V)} (hd : H d = some (.ns at_)) (g : Gh c H X H₁ X') (h1 : H₁ d = some (.ns at_)) (u : UpdG k X X' at_ at') : Gh c H W (H₁.set d (.ns at')) W :=
  have nn : ∀ b, H b = none → H₁.set d (.ns at') b = none := fun b e => by
    rw [Hp.set_ne _ _ (fun q => by rw [q, hd] at e; cases e)]; exact g.1 b e
  ⟨nn, fun Z h v a r => by
    have el : at'.length = at_.length := by have := congrArg List.length u.keys; simpa using this
    refine ⟨?_, r.mono (gh_stays nn)⟩
    obtain ⟨es, kk, e, E⟩ := a.cell d _ hd
    have same : Stays h h (Mut Z H₁) (Mut Z (H₁.set d (.ns at'))) := gh_stays fun b e => by rw [Hp.set_ne _ _ (fun q => by rw [q, h1] at e; cases e)]; exact e
    have x₀ : ∃ (i : Nat) (e : DictEntry) (p : Str × V), es[i]? = some e ∧ at_[i]? = some p ∧ p.2 = X := by
      have : ∃ (i : Nat) (p : Str × V), at_[i]? = some p ∧ p.2 = X := by
        clear E e a r hd h1 el same nn
        induction u with
        | hit => exact ⟨0, _, rfl, rfl⟩
        | miss _ ih => obtain ⟨i, p, h, q⟩ := ih; exact ⟨i + 1, p, by simpa using h, q⟩
      obtain ⟨i, p, h, q⟩ := this
      have hi : i < es.length := by rw [E.len]; exact (List.getElem?_eq_some_iff.mp h).1
      exact ⟨i, es[i], p, by simp [hi], h, q⟩
    obtain ⟨i₀, e₀, p₀, q1, q2, q3⟩ := x₀
    have a₁ : HA c.base Z H₁ h := (g.2 Z h _ a (q3 ▸ E.val i₀ e₀ p₀ q1 q2)).1
    refine a₁.put (c := .ns at') (.inr (by rw [h1]; simp)) (fun b o _ e => e) ⟨es, kk, e, by rw [E.len, el], by rw [u.keys]; exact E.nodup, fun i e p h2 h3 => ?_, fun i e p h2 h3 => ?_⟩ (a.low d (by rw [hd]; simp))
    · obtain ⟨p', h4, h5, _⟩ := u.at i p h3
      obtain ⟨t, ht⟩ := E.key i e p' h2 h4
      exact ⟨t, by rw [ht, h5]⟩
    · obtain ⟨p', h4, h5, h6⟩ := u.at i p h3
      rcases h6 with h6 | ⟨h6, h7⟩
      · have := E.val i e p' h2 h4
        rw [h6] at this
        exact (this.mono (gh_stays g.1)).mono same
      · have := E.val i e p' h2 h4
        rw [h6] at this
        rw [h7]
        exact ((g.2 Z h _ a this).2).mono same⟩
theorem EV.gh {e : Expr} {Q : V → Hp → Prop} (h : EV c n env m H e fun W H' => ∃ W' H'', Gh c H' W H'' W' ∧ Q W' H'') : EV c n env m H e Q := fun A s Z ro a v =>
  wpAny_mono (h A s Z ro a v) (fun v' s' ⟨W, H', r, a', k, W', H'', g, q⟩ => by
    obtain ⟨a'', r''⟩ := g.2 Z _ v' a' r
    exact ⟨W', H'', r'', a'', k.trans ⟨fun b o e _ _ => e, fun b o e q => g.1 b q, fun b o e => ⟨o, e⟩, rfl, rfl⟩, q⟩) fun _ _ f => f
theorem FN.gh {f : Value} {Ws : List V} {Q : V → Hp → Prop} (h : FN c n f Ws H fun W H' => ∃ W' H'', Gh c H' W H'' W' ∧ Q W' H'') : FN c n f Ws H Q := fun A s Z vs ro a r =>
  codeAny_mono (h A s Z vs ro a r) (fun r s' ⟨v', e, W, H', r', a', k, W', H'', g, q⟩ => by
    obtain ⟨a'', r''⟩ := g.2 Z _ v' a' r'
    exact ⟨v', e, W', H'', r'', a'', k.trans ⟨fun b o e _ _ => e, fun b o e q => g.1 b q, fun b o e => ⟨o, e⟩, rfl, rfl⟩, q⟩)
theorem CL.gh {f : Value} {Ws : List V} {Q : V → Hp → Prop} (h : CL c n f Ws H fun W H' => ∃ W' H'', Gh c H' W H'' W' ∧ Q W' H'') : CL c n f Ws H Q := fun A s Z vs ro a r =>
  wpAny_mono (h A s Z vs ro a r) (fun v' s' ⟨W, H', r', a', k, W', H'', g, q⟩ => by
    obtain ⟨a'', r''⟩ := g.2 Z _ v' a' r'
    exact ⟨W', H'', r'', a'', k.trans ⟨fun b o e _ _ => e, fun b o e q => g.1 b q, fun b o e => ⟨o, e⟩, rfl, rfl⟩, q⟩) fun _ _ f => f
theorem SX.gh {st : List Stmt} {x : Str} {W W' : V} {m' : Vm} {H' : Hp} {Q : Fl → Vm → Hp → Prop} (hm : (x, some W) ∈ m) (g : Gh c H W H' W') (u : Upd x W' m m') (h : SX c n env m' H' st Q) : SX c n env m H st Q :=
  SX.ghost (fun Z hp a v => by
    obtain ⟨w, r, _⟩ := v.var x W hm
    refine ⟨(g.2 Z hp w a r).1, { v with
      nodup := by rw [u.keys]; exact v.nodup
      dom := fun y Y hy => (u.old v.nodup y Y hy).elim (fun ⟨e, _⟩ => e ▸ v.dom x _ hm) fun ⟨_, q⟩ => v.dom y Y q
      var := fun y Y hy => ?_
      dbg := fun y Y hy => (u.old v.nodup y Y hy).elim (fun ⟨e, _⟩ => e ▸ v.dbg x _ hm) fun ⟨_, q⟩ => v.dbg y Y q
      cls := fun y Y hy => (u.old v.nodup y Y hy).elim (fun ⟨e, _⟩ => e ▸ v.cls x _ hm) fun ⟨_, q⟩ => v.cls y Y q
      sto := fun y Y hy => (u.old v.nodup y Y hy).elim (fun ⟨e, _⟩ => e ▸ v.sto x _ hm) fun ⟨_, q⟩ => v.sto y Y q }⟩
    rcases u.old v.nodup y _ hy with ⟨e, e'⟩ | ⟨_, q⟩
    · cases e'; subst e
      obtain ⟨w, r, z⟩ := v.var y W hm
      exact ⟨w, (g.2 Z hp w a r).2, z⟩
    · obtain ⟨w, r, z⟩ := v.var y Y q
      exact ⟨w, r.mono (gh_stays g.1), z⟩) g.1 h
end Mine
end PartC23
section PartC24
open PySem PySem.W PyProof.Rows PySem.Calls
namespace Mine
variable {c : Cx} {n : Nat} {env : Env} {m : Vm} {H : Hp}
section
variable {P : Params}
theorem g_erased_pen : nsIn (heapK P) mainGlobals (Str.ofString "erased_pen") = some (some (.ref 29)) := by kernel_rfl
theorem kp_29 : keepIn (heapK P) (.ref 29) = true := by kernel_rfl
theorem g_blank_cell : nsIn (heapK P) mainGlobals (Str.ofString "blank_cell") = some (some (.ref 36)) := by kernel_rfl
theorem kp_36 : keepIn (heapK P) (.ref 36) = true := by kernel_rfl
theorem g_is_blank : nsIn (heapK P) mainGlobals (Str.ofString "is_blank") = some (some (.ref 43)) := by kernel_rfl
theorem kp_43 : keepIn (heapK P) (.ref 43) = true := by kernel_rfl
theorem g_is_plain_blank : nsIn (heapK P) mainGlobals (Str.ofString "is_plain_blank") = some (some (.ref 50)) := by kernel_rfl
theorem kp_50 : keepIn (heapK P) (.ref 50) = true := by kernel_rfl
theorem g_line_blanks : nsIn (heapK P) mainGlobals (Str.ofString "line_blanks") = some (some (.ref 58)) := by kernel_rfl
theorem kp_58 : keepIn (heapK P) (.ref 58) = true := by kernel_rfl
theorem g_line_slice : nsIn (heapK P) mainGlobals (Str.ofString "line_slice") = some (some (.ref 79)) := by kernel_rfl
theorem kp_79 : keepIn (heapK P) (.ref 79) = true := by kernel_rfl
theorem g_line_of : nsIn (heapK P) mainGlobals (Str.ofString "line_of") = some (some (.ref 216)) := by kernel_rfl
theorem kp_216 : keepIn (heapK P) (.ref 216) = true := by kernel_rfl
theorem g_reflow_used : nsIn (heapK P) mainGlobals (Str.ofString "reflow_used") = some (some (.ref 272)) := by kernel_rfl
theorem kp_272 : keepIn (heapK P) (.ref 272) = true := by kernel_rfl
theorem g_reflow_begins_wide : nsIn (heapK P) mainGlobals (Str.ofString "reflow_begins_wide") = some (some (.ref 279)) := by kernel_rfl
theorem kp_279 : keepIn (heapK P) (.ref 279) = true := by kernel_rfl
theorem g_reflow_part : nsIn (heapK P) mainGlobals (Str.ofString "reflow_part") = some (some (.ref 286)) := by kernel_rfl
theorem kp_286 : keepIn (heapK P) (.ref 286) = true := by kernel_rfl
theorem g_reflow_goes_on : nsIn (heapK P) mainGlobals (Str.ofString "reflow_goes_on") = some (some (.ref 293)) := by kernel_rfl
theorem kp_293 : keepIn (heapK P) (.ref 293) = true := by kernel_rfl
theorem g_logical_of : nsIn (heapK P) mainGlobals (Str.ofString "logical_of") = some (some (.ref 300)) := by kernel_rfl
theorem kp_300 : keepIn (heapK P) (.ref 300) = true := by kernel_rfl
theorem g_cut_with_places : nsIn (heapK P) mainGlobals (Str.ofString "cut_with_places") = some (some (.ref 307)) := by kernel_rfl
theorem kp_307 : keepIn (heapK P) (.ref 307) = true := by kernel_rfl
theorem g_reflow_place : nsIn (heapK P) mainGlobals (Str.ofString "reflow_place") = some (some (.ref 314)) := by kernel_rfl
theorem kp_314 : keepIn (heapK P) (.ref 314) = true := by kernel_rfl
theorem g_reflow_line : nsIn (heapK P) mainGlobals (Str.ofString "reflow_line") = some (some (.ref 321)) := by kernel_rfl
theorem kp_321 : keepIn (heapK P) (.ref 321) = true := by kernel_rfl
theorem g_law_take : nsIn (heapK P) mainGlobals (Str.ofString "_law_take") = some (some (.ref 390)) := by kernel_rfl
theorem kp_390 : keepIn (heapK P) (.ref 390) = true := by kernel_rfl
theorem g_law_paragraph : nsIn (heapK P) mainGlobals (Str.ofString "_law_paragraph") = some (some (.ref 395)) := by kernel_rfl
theorem kp_395 : keepIn (heapK P) (.ref 395) = true := by kernel_rfl
theorem g_law_shown : nsIn (heapK P) mainGlobals (Str.ofString "_law_shown") = some (some (.ref 402)) := by kernel_rfl
theorem kp_402 : keepIn (heapK P) (.ref 402) = true := by kernel_rfl
theorem g_law_lines : nsIn (heapK P) mainGlobals (Str.ofString "_law_lines") = some (some (.ref 407)) := by kernel_rfl
theorem kp_407 : keepIn (heapK P) (.ref 407) = true := by kernel_rfl
theorem g_law_led : nsIn (heapK P) mainGlobals (Str.ofString "_law_led") = some (some (.ref 414)) := by kernel_rfl
theorem kp_414 : keepIn (heapK P) (.ref 414) = true := by kernel_rfl
theorem g_Line : nsIn (heapK P) mainGlobals (Str.ofString "Line") = some (some (.ref 204)) := by kernel_rfl
theorem kp_204 : keepIn (heapK P) (.ref 204) = true := by kernel_rfl
theorem g_LogicalLine : nsIn (heapK P) mainGlobals (Str.ofString "LogicalLine") = some (some (.ref 261)) := by kernel_rfl
theorem kp_261 : keepIn (heapK P) (.ref 261) = true := by kernel_rfl
theorem g_Cutting : nsIn (heapK P) mainGlobals (Str.ofString "Cutting") = some (some (.ref 373)) := by kernel_rfl
theorem kp_373 : keepIn (heapK P) (.ref 373) = true := by kernel_rfl
theorem g_len : nsIn (heapK P) mainGlobals (Str.ofString "len") = some none := by kernel_rfl
theorem g_min : nsIn (heapK P) mainGlobals (Str.ofString "min") = some none := by kernel_rfl
theorem g_max : nsIn (heapK P) mainGlobals (Str.ofString "max") = some none := by kernel_rfl
theorem g_abs : nsIn (heapK P) mainGlobals (Str.ofString "abs") = some none := by kernel_rfl
theorem g_int : nsIn (heapK P) mainGlobals (Str.ofString "int") = some none := by kernel_rfl
theorem g_list : nsIn (heapK P) mainGlobals (Str.ofString "list") = some none := by kernel_rfl
theorem g_range : nsIn (heapK P) mainGlobals (Str.ofString "range") = some none := by kernel_rfl
theorem g_enumerate : nsIn (heapK P) mainGlobals (Str.ofString "enumerate") = some none := by kernel_rfl
theorem g_zip : nsIn (heapK P) mainGlobals (Str.ofString "zip") = some none := by kernel_rfl
theorem find_204_init : findIn (heapK P) (.ref 204) (Str.ofString "__init__") = some (some (.ref 93)) := by kernel_rfl
theorem fn_93 : isFn (heapK P) (.ref 93) = true := by kernel_rfl
theorem makes_204 : makesIn (heapK P) 204 = true := by kernel_rfl
theorem find_261_init : findIn (heapK P) (.ref 261) (Str.ofString "__init__") = some (some (.ref 230)) := by kernel_rfl
theorem fn_230 : isFn (heapK P) (.ref 230) = true := by kernel_rfl
theorem find_261_put : findIn (heapK P) (.ref 261) (Str.ofString "put") = some (some (.ref 237)) := by kernel_rfl
theorem fn_237 : isFn (heapK P) (.ref 237) = true := by kernel_rfl
theorem kp_237 : keepIn (heapK P) (.ref 237) = true := by kernel_rfl
theorem pg_261_put : plainGet (heapK P) 261 (Str.ofString "put") = true := by kernel_rfl
theorem find_261_kept_to : findIn (heapK P) (.ref 261) (Str.ofString "kept_to") = some (some (.ref 244)) := by kernel_rfl
theorem fn_244 : isFn (heapK P) (.ref 244) = true := by kernel_rfl
theorem kp_244 : keepIn (heapK P) (.ref 244) = true := by kernel_rfl
theorem pg_261_kept_to : plainGet (heapK P) 261 (Str.ofString "kept_to") = true := by kernel_rfl
theorem find_261_size_of : findIn (heapK P) (.ref 261) (Str.ofString "size_of") = some (some (.ref 251)) := by kernel_rfl
theorem fn_251 : isFn (heapK P) (.ref 251) = true := by kernel_rfl
theorem kp_251 : keepIn (heapK P) (.ref 251) = true := by kernel_rfl
theorem pg_261_size_of : plainGet (heapK P) 261 (Str.ofString "size_of") = true := by kernel_rfl
theorem find_261_offset_of : findIn (heapK P) (.ref 261) (Str.ofString "offset_of") = some (some (.ref 258)) := by kernel_rfl
theorem fn_258 : isFn (heapK P) (.ref 258) = true := by kernel_rfl
theorem kp_258 : keepIn (heapK P) (.ref 258) = true := by kernel_rfl
theorem pg_261_offset_of : plainGet (heapK P) 261 (Str.ofString "offset_of") = true := by kernel_rfl
theorem makes_261 : makesIn (heapK P) 261 = true := by kernel_rfl
theorem find_373_init : findIn (heapK P) (.ref 373) (Str.ofString "__init__") = some (some (.ref 335)) := by kernel_rfl
theorem fn_335 : isFn (heapK P) (.ref 335) = true := by kernel_rfl
theorem find_373_put : findIn (heapK P) (.ref 373) (Str.ofString "put") = some (some (.ref 342)) := by kernel_rfl
theorem fn_342 : isFn (heapK P) (.ref 342) = true := by kernel_rfl
theorem kp_342 : keepIn (heapK P) (.ref 342) = true := by kernel_rfl
theorem pg_373_put : plainGet (heapK P) 373 (Str.ofString "put") = true := by kernel_rfl
theorem find_373_place_of : findIn (heapK P) (.ref 373) (Str.ofString "place_of") = some (some (.ref 356)) := by kernel_rfl
theorem fn_356 : isFn (heapK P) (.ref 356) = true := by kernel_rfl
theorem kp_356 : keepIn (heapK P) (.ref 356) = true := by kernel_rfl
theorem pg_373_place_of : plainGet (heapK P) 373 (Str.ofString "place_of") = true := by kernel_rfl
theorem makes_373 : makesIn (heapK P) 373 = true := by kernel_rfl
end
theorem call_erased_pen {args : List Expr} {p pos : Pos} {Q : V → Hp → Prop} (h : ES c n env m H args fun Ws H' => CL c n (.ref 29) Ws H' Q) (hx : env.kindOf (Str.ofString "erased_pen") = some .globalImplicit := by kernel_rfl) (hp : plainEs args = true := by rfl) : EV c n env m H (.Call (.Name (Str.ofString "erased_pen") p) args [] pos) Q := EV.callG (by rw [c.hK]; exact g_erased_pen) (by rw [c.hK]; exact kp_29) hx h hp (by decide)
theorem call_blank_cell {args : List Expr} {p pos : Pos} {Q : V → Hp → Prop} (h : ES c n env m H args fun Ws H' => CL c n (.ref 36) Ws H' Q) (hx : env.kindOf (Str.ofString "blank_cell") = some .globalImplicit := by kernel_rfl) (hp : plainEs args = true := by rfl) : EV c n env m H (.Call (.Name (Str.ofString "blank_cell") p) args [] pos) Q := EV.callG (by rw [c.hK]; exact g_blank_cell) (by rw [c.hK]; exact kp_36) hx h hp (by decide)
theorem call_is_blank {args : List Expr} {p pos : Pos} {Q : V → Hp → Prop} (h : ES c n env m H args fun Ws H' => CL c n (.ref 43) Ws H' Q) (hx : env.kindOf (Str.ofString "is_blank") = some .globalImplicit := by kernel_rfl) (hp : plainEs args = true := by rfl) : EV c n env m H (.Call (.Name (Str.ofString "is_blank") p) args [] pos) Q := EV.callG (by rw [c.hK]; exact g_is_blank) (by rw [c.hK]; exact kp_43) hx h hp (by decide)
theorem call_is_plain_blank {args : List Expr} {p pos : Pos} {Q : V → Hp → Prop} (h : ES c n env m H args fun Ws H' => CL c n (.ref 50) Ws H' Q) (hx : env.kindOf (Str.ofString "is_plain_blank") = some .globalImplicit := by kernel_rfl) (hp : plainEs args = true := by rfl) : EV c n env m H (.Call (.Name (Str.ofString "is_plain_blank") p) args [] pos) Q := EV.callG (by rw [c.hK]; exact g_is_plain_blank) (by rw [c.hK]; exact kp_50) hx h hp (by decide)
theorem call_line_blanks {args : List Expr} {p pos : Pos} {Q : V → Hp → Prop} (h : ES c n env m H args fun Ws H' => CL c n (.ref 58) Ws H' Q) (hx : env.kindOf (Str.ofString "line_blanks") = some .globalImplicit := by kernel_rfl) (hp : plainEs args = true := by rfl) : EV c n env m H (.Call (.Name (Str.ofString "line_blanks") p) args [] pos) Q := EV.callG (by rw [c.hK]; exact g_line_blanks) (by rw [c.hK]; exact kp_58) hx h hp (by decide)
theorem call_line_slice {args : List Expr} {p pos : Pos} {Q : V → Hp → Prop} (h : ES c n env m H args fun Ws H' => CL c n (.ref 79) Ws H' Q) (hx : env.kindOf (Str.ofString "line_slice") = some .globalImplicit := by kernel_rfl) (hp : plainEs args = true := by rfl) : EV c n env m H (.Call (.Name (Str.ofString "line_slice") p) args [] pos) Q := EV.callG (by rw [c.hK]; exact g_line_slice) (by rw [c.hK]; exact kp_79) hx h hp (by decide)
theorem call_line_of {args : List Expr} {p pos : Pos} {Q : V → Hp → Prop} (h : ES c n env m H args fun Ws H' => CL c n (.ref 216) Ws H' Q) (hx : env.kindOf (Str.ofString "line_of") = some .globalImplicit := by kernel_rfl) (hp : plainEs args = true := by rfl) : EV c n env m H (.Call (.Name (Str.ofString "line_of") p) args [] pos) Q := EV.callG (by rw [c.hK]; exact g_line_of) (by rw [c.hK]; exact kp_216) hx h hp (by decide)
theorem call_reflow_used {args : List Expr} {p pos : Pos} {Q : V → Hp → Prop} (h : ES c n env m H args fun Ws H' => CL c n (.ref 272) Ws H' Q) (hx : env.kindOf (Str.ofString "reflow_used") = some .globalImplicit := by kernel_rfl) (hp : plainEs args = true := by rfl) : EV c n env m H (.Call (.Name (Str.ofString "reflow_used") p) args [] pos) Q := EV.callG (by rw [c.hK]; exact g_reflow_used) (by rw [c.hK]; exact kp_272) hx h hp (by decide)
theorem call_reflow_begins_wide {args : List Expr} {p pos : Pos} {Q : V → Hp → Prop} (h : ES c n env m H args fun Ws H' => CL c n (.ref 279) Ws H' Q) (hx : env.kindOf (Str.ofString "reflow_begins_wide") = some .globalImplicit := by kernel_rfl) (hp : plainEs args = true := by rfl) : EV c n env m H (.Call (.Name (Str.ofString "reflow_begins_wide") p) args [] pos) Q := EV.callG (by rw [c.hK]; exact g_reflow_begins_wide) (by rw [c.hK]; exact kp_279) hx h hp (by decide)
theorem call_reflow_part {args : List Expr} {p pos : Pos} {Q : V → Hp → Prop} (h : ES c n env m H args fun Ws H' => CL c n (.ref 286) Ws H' Q) (hx : env.kindOf (Str.ofString "reflow_part") = some .globalImplicit := by kernel_rfl) (hp : plainEs args = true := by rfl) : EV c n env m H (.Call (.Name (Str.ofString "reflow_part") p) args [] pos) Q := EV.callG (by rw [c.hK]; exact g_reflow_part) (by rw [c.hK]; exact kp_286) hx h hp (by decide)
theorem call_reflow_goes_on {args : List Expr} {p pos : Pos} {Q : V → Hp → Prop} (h : ES c n env m H args fun Ws H' => CL c n (.ref 293) Ws H' Q) (hx : env.kindOf (Str.ofString "reflow_goes_on") = some .globalImplicit := by kernel_rfl) (hp : plainEs args = true := by rfl) : EV c n env m H (.Call (.Name (Str.ofString "reflow_goes_on") p) args [] pos) Q := EV.callG (by rw [c.hK]; exact g_reflow_goes_on) (by rw [c.hK]; exact kp_293) hx h hp (by decide)
theorem call_logical_of {args : List Expr} {p pos : Pos} {Q : V → Hp → Prop} (h : ES c n env m H args fun Ws H' => CL c n (.ref 300) Ws H' Q) (hx : env.kindOf (Str.ofString "logical_of") = some .globalImplicit := by kernel_rfl) (hp : plainEs args = true := by rfl) : EV c n env m H (.Call (.Name (Str.ofString "logical_of") p) args [] pos) Q := EV.callG (by rw [c.hK]; exact g_logical_of) (by rw [c.hK]; exact kp_300) hx h hp (by decide)
theorem call_cut_with_places {args : List Expr} {p pos : Pos} {Q : V → Hp → Prop} (h : ES c n env m H args fun Ws H' => CL c n (.ref 307) Ws H' Q) (hx : env.kindOf (Str.ofString "cut_with_places") = some .globalImplicit := by kernel_rfl) (hp : plainEs args = true := by rfl) : EV c n env m H (.Call (.Name (Str.ofString "cut_with_places") p) args [] pos) Q := EV.callG (by rw [c.hK]; exact g_cut_with_places) (by rw [c.hK]; exact kp_307) hx h hp (by decide)
theorem call_reflow_place {args : List Expr} {p pos : Pos} {Q : V → Hp → Prop} (h : ES c n env m H args fun Ws H' => CL c n (.ref 314) Ws H' Q) (hx : env.kindOf (Str.ofString "reflow_place") = some .globalImplicit := by kernel_rfl) (hp : plainEs args = true := by rfl) : EV c n env m H (.Call (.Name (Str.ofString "reflow_place") p) args [] pos) Q := EV.callG (by rw [c.hK]; exact g_reflow_place) (by rw [c.hK]; exact kp_314) hx h hp (by decide)
theorem call_reflow_line {args : List Expr} {p pos : Pos} {Q : V → Hp → Prop} (h : ES c n env m H args fun Ws H' => CL c n (.ref 321) Ws H' Q) (hx : env.kindOf (Str.ofString "reflow_line") = some .globalImplicit := by kernel_rfl) (hp : plainEs args = true := by rfl) : EV c n env m H (.Call (.Name (Str.ofString "reflow_line") p) args [] pos) Q := EV.callG (by rw [c.hK]; exact g_reflow_line) (by rw [c.hK]; exact kp_321) hx h hp (by decide)
theorem call_law_take {args : List Expr} {p pos : Pos} {Q : V → Hp → Prop} (h : ES c n env m H args fun Ws H' => CL c n (.ref 390) Ws H' Q) (hx : env.kindOf (Str.ofString "_law_take") = some .globalImplicit := by kernel_rfl) (hp : plainEs args = true := by rfl) : EV c n env m H (.Call (.Name (Str.ofString "_law_take") p) args [] pos) Q := EV.callG (by rw [c.hK]; exact g_law_take) (by rw [c.hK]; exact kp_390) hx h hp (by decide)
theorem call_law_paragraph {args : List Expr} {p pos : Pos} {Q : V → Hp → Prop} (h : ES c n env m H args fun Ws H' => CL c n (.ref 395) Ws H' Q) (hx : env.kindOf (Str.ofString "_law_paragraph") = some .globalImplicit := by kernel_rfl) (hp : plainEs args = true := by rfl) : EV c n env m H (.Call (.Name (Str.ofString "_law_paragraph") p) args [] pos) Q := EV.callG (by rw [c.hK]; exact g_law_paragraph) (by rw [c.hK]; exact kp_395) hx h hp (by decide)
theorem call_law_shown {args : List Expr} {p pos : Pos} {Q : V → Hp → Prop} (h : ES c n env m H args fun Ws H' => CL c n (.ref 402) Ws H' Q) (hx : env.kindOf (Str.ofString "_law_shown") = some .globalImplicit := by kernel_rfl) (hp : plainEs args = true := by rfl) : EV c n env m H (.Call (.Name (Str.ofString "_law_shown") p) args [] pos) Q := EV.callG (by rw [c.hK]; exact g_law_shown) (by rw [c.hK]; exact kp_402) hx h hp (by decide)
theorem call_law_lines {args : List Expr} {p pos : Pos} {Q : V → Hp → Prop} (h : ES c n env m H args fun Ws H' => CL c n (.ref 407) Ws H' Q) (hx : env.kindOf (Str.ofString "_law_lines") = some .globalImplicit := by kernel_rfl) (hp : plainEs args = true := by rfl) : EV c n env m H (.Call (.Name (Str.ofString "_law_lines") p) args [] pos) Q := EV.callG (by rw [c.hK]; exact g_law_lines) (by rw [c.hK]; exact kp_407) hx h hp (by decide)
theorem call_law_led {args : List Expr} {p pos : Pos} {Q : V → Hp → Prop} (h : ES c n env m H args fun Ws H' => CL c n (.ref 414) Ws H' Q) (hx : env.kindOf (Str.ofString "_law_led") = some .globalImplicit := by kernel_rfl) (hp : plainEs args = true := by rfl) : EV c n env m H (.Call (.Name (Str.ofString "_law_led") p) args [] pos) Q := EV.callG (by rw [c.hK]; exact g_law_led) (by rw [c.hK]; exact kp_414) hx h hp (by decide)
theorem call_Line {args : List Expr} {p pos : Pos} {Q : V → Hp → Prop} (h : ES c n env m H args fun Ws H' => CL c n (.ref 204) Ws H' Q) (hx : env.kindOf (Str.ofString "Line") = some .globalImplicit := by kernel_rfl) (hp : plainEs args = true := by rfl) : EV c n env m H (.Call (.Name (Str.ofString "Line") p) args [] pos) Q := EV.callG (by rw [c.hK]; exact g_Line) (by rw [c.hK]; exact kp_204) hx h hp (by decide)
theorem call_LogicalLine {args : List Expr} {p pos : Pos} {Q : V → Hp → Prop} (h : ES c n env m H args fun Ws H' => CL c n (.ref 261) Ws H' Q) (hx : env.kindOf (Str.ofString "LogicalLine") = some .globalImplicit := by kernel_rfl) (hp : plainEs args = true := by rfl) : EV c n env m H (.Call (.Name (Str.ofString "LogicalLine") p) args [] pos) Q := EV.callG (by rw [c.hK]; exact g_LogicalLine) (by rw [c.hK]; exact kp_261) hx h hp (by decide)
theorem call_Cutting {args : List Expr} {p pos : Pos} {Q : V → Hp → Prop} (h : ES c n env m H args fun Ws H' => CL c n (.ref 373) Ws H' Q) (hx : env.kindOf (Str.ofString "Cutting") = some .globalImplicit := by kernel_rfl) (hp : plainEs args = true := by rfl) : EV c n env m H (.Call (.Name (Str.ofString "Cutting") p) args [] pos) Q := EV.callG (by rw [c.hK]; exact g_Cutting) (by rw [c.hK]; exact kp_373) hx h hp (by decide)
theorem gg_len : nsIn c.K mainGlobals (Str.ofString "len") = some none := by rw [c.hK]; exact g_len
theorem call_len {args : List Expr} {p pos : Pos} {Q : V → Hp → Prop} (h : ES c n env m H args fun Ws H' => CL c n (.builtin "len") Ws H' Q) (hx : env.kindOf (Str.ofString "len") = some .globalImplicit := by kernel_rfl) (hp : plainEs args = true := by rfl) : EV c n env m H (.Call (.Name (Str.ofString "len") p) args [] pos) Q := EV.callB gg_len (by kernel_rfl) (by decide) (by intro a e; cases e) hx h hp (by decide)
theorem gg_min : nsIn c.K mainGlobals (Str.ofString "min") = some none := by rw [c.hK]; exact g_min
theorem call_min {args : List Expr} {p pos : Pos} {Q : V → Hp → Prop} (h : ES c n env m H args fun Ws H' => CL c n (.builtin "min") Ws H' Q) (hx : env.kindOf (Str.ofString "min") = some .globalImplicit := by kernel_rfl) (hp : plainEs args = true := by rfl) : EV c n env m H (.Call (.Name (Str.ofString "min") p) args [] pos) Q := EV.callB gg_min (by kernel_rfl) (by decide) (by intro a e; cases e) hx h hp (by decide)
theorem gg_max : nsIn c.K mainGlobals (Str.ofString "max") = some none := by rw [c.hK]; exact g_max
theorem call_max {args : List Expr} {p pos : Pos} {Q : V → Hp → Prop} (h : ES c n env m H args fun Ws H' => CL c n (.builtin "max") Ws H' Q) (hx : env.kindOf (Str.ofString "max") = some .globalImplicit := by kernel_rfl) (hp : plainEs args = true := by rfl) : EV c n env m H (.Call (.Name (Str.ofString "max") p) args [] pos) Q := EV.callB gg_max (by kernel_rfl) (by decide) (by intro a e; cases e) hx h hp (by decide)
theorem gg_abs : nsIn c.K mainGlobals (Str.ofString "abs") = some none := by rw [c.hK]; exact g_abs
theorem call_abs {args : List Expr} {p pos : Pos} {Q : V → Hp → Prop} (h : ES c n env m H args fun Ws H' => CL c n (.builtin "abs") Ws H' Q) (hx : env.kindOf (Str.ofString "abs") = some .globalImplicit := by kernel_rfl) (hp : plainEs args = true := by rfl) : EV c n env m H (.Call (.Name (Str.ofString "abs") p) args [] pos) Q := EV.callB gg_abs (by kernel_rfl) (by decide) (by intro a e; cases e) hx h hp (by decide)
theorem gg_int : nsIn c.K mainGlobals (Str.ofString "int") = some none := by rw [c.hK]; exact g_int
theorem call_int {args : List Expr} {p pos : Pos} {Q : V → Hp → Prop} (h : ES c n env m H args fun Ws H' => CL c n (.type "int") Ws H' Q) (hx : env.kindOf (Str.ofString "int") = some .globalImplicit := by kernel_rfl) (hp : plainEs args = true := by rfl) : EV c n env m H (.Call (.Name (Str.ofString "int") p) args [] pos) Q := EV.callB gg_int (by kernel_rfl) (by decide) (by intro a e; cases e) hx h hp (by decide)
theorem gg_list : nsIn c.K mainGlobals (Str.ofString "list") = some none := by rw [c.hK]; exact g_list
theorem call_list {args : List Expr} {p pos : Pos} {Q : V → Hp → Prop} (h : ES c n env m H args fun Ws H' => CL c n (.type "list") Ws H' Q) (hx : env.kindOf (Str.ofString "list") = some .globalImplicit := by kernel_rfl) (hp : plainEs args = true := by rfl) : EV c n env m H (.Call (.Name (Str.ofString "list") p) args [] pos) Q := EV.callB gg_list (by kernel_rfl) (by decide) (by intro a e; cases e) hx h hp (by decide)
theorem gg_range : nsIn c.K mainGlobals (Str.ofString "range") = some none := by rw [c.hK]; exact g_range
theorem call_range {args : List Expr} {p pos : Pos} {Q : V → Hp → Prop} (h : ES c n env m H args fun Ws H' => CL c n (.type "range") Ws H' Q) (hx : env.kindOf (Str.ofString "range") = some .globalImplicit := by kernel_rfl) (hp : plainEs args = true := by rfl) : EV c n env m H (.Call (.Name (Str.ofString "range") p) args [] pos) Q := EV.callB gg_range (by kernel_rfl) (by decide) (by intro a e; cases e) hx h hp (by decide)
theorem gg_enumerate : nsIn c.K mainGlobals (Str.ofString "enumerate") = some none := by rw [c.hK]; exact g_enumerate
theorem call_enumerate {args : List Expr} {p pos : Pos} {Q : V → Hp → Prop} (h : ES c n env m H args fun Ws H' => CL c n (.type "enumerate") Ws H' Q) (hx : env.kindOf (Str.ofString "enumerate") = some .globalImplicit := by kernel_rfl) (hp : plainEs args = true := by rfl) : EV c n env m H (.Call (.Name (Str.ofString "enumerate") p) args [] pos) Q := EV.callB gg_enumerate (by kernel_rfl) (by decide) (by intro a e; cases e) hx h hp (by decide)
theorem gg_zip : nsIn c.K mainGlobals (Str.ofString "zip") = some none := by rw [c.hK]; exact g_zip
theorem call_zip {args : List Expr} {p pos : Pos} {Q : V → Hp → Prop} (h : ES c n env m H args fun Ws H' => CL c n (.type "zip") Ws H' Q) (hx : env.kindOf (Str.ofString "zip") = some .globalImplicit := by kernel_rfl) (hp : plainEs args = true := by rfl) : EV c n env m H (.Call (.Name (Str.ofString "zip") p) args [] pos) Q := EV.callB gg_zip (by kernel_rfl) (by decide) (by intro a e; cases e) hx h hp (by decide)
theorem own_of {C : Addr} {x : Str} (h : ∀ P, ownName (heapK P) C x = true) : ownName c.K C x = true := by rw [c.hK]; exact h _
theorem set_of {C : Addr} {x : Str} (h : ∀ P, setName (heapK P) C x = true) : setName c.K C x = true := by rw [c.hK]; exact h _
theorem make_204 {Ws : List V} {Q : V → Hp → Prop} (h : ∀ x dx, x ≠ dx → H x = none → H dx = none → FN c n (.ref 93) (.ref x :: Ws) ((H.set dx (.ns [])).set x (.inst 204 dx)) fun W H' => W = .none ∧ Q (.ref x) H') : CL c (n + 1) (.ref 204) Ws H Q := CL.cls (by rw [c.hK]; exact makes_204) (by rw [c.hK]; exact find_204_init) (by rw [c.hK]; exact fn_93) h
theorem make_261 {Ws : List V} {Q : V → Hp → Prop} (h : ∀ x dx, x ≠ dx → H x = none → H dx = none → FN c n (.ref 230) (.ref x :: Ws) ((H.set dx (.ns [])).set x (.inst 261 dx)) fun W H' => W = .none ∧ Q (.ref x) H') : CL c (n + 1) (.ref 261) Ws H Q := CL.cls (by rw [c.hK]; exact makes_261) (by rw [c.hK]; exact find_261_init) (by rw [c.hK]; exact fn_230) h
theorem meth_261_put {o : Expr} {p pos : Pos} {args : List Expr} {Q : V → Hp → Prop} {pl : Sem Bool}
    (h : EV c n env m H o fun O H₁ => ∃ at_, IsO H₁ O 261 at_ ∧ (Str.ofString "put") ∉ at_.map (·.1) ∧ ES c n env m H₁ args fun Ws H' => CL c n (.ref 237) (O :: Ws) H' Q) (hp : plainEs args = true := by rfl)
    (hs : eval (.Call (.Attribute o (Str.ofString "put") p) args [] pos) env = (do
      let ov ← eval o env
      standAt p.atName
      let fx ← holding [ov] (getMethod ov (Str.ofString "put") pl)
      callWith pos fx.1 fx.2 (backTo pos (starEach args env)) (backToKw pos (keywordEach [] env))) := by with_unfolding_all rfl) : EV c n env m H (.Call (.Attribute o (Str.ofString "put") p) args [] pos) Q :=
  EV.callM (h.mono fun O H₁ ⟨at_, io, hn, q⟩ => ⟨261, at_, 237, io, hn, by rw [c.hK]; exact pg_261_put, by rw [c.hK]; exact find_261_put, by rw [c.hK]; exact fn_237, by rw [c.hK]; exact kp_237, q⟩) hp hs
theorem meth_261_kept_to {o : Expr} {p pos : Pos} {args : List Expr} {Q : V → Hp → Prop} {pl : Sem Bool}
    (h : EV c n env m H o fun O H₁ => ∃ at_, IsO H₁ O 261 at_ ∧ (Str.ofString "kept_to") ∉ at_.map (·.1) ∧ ES c n env m H₁ args fun Ws H' => CL c n (.ref 244) (O :: Ws) H' Q) (hp : plainEs args = true := by rfl)
    (hs : eval (.Call (.Attribute o (Str.ofString "kept_to") p) args [] pos) env = (do
      let ov ← eval o env
      standAt p.atName
      let fx ← holding [ov] (getMethod ov (Str.ofString "kept_to") pl)
      callWith pos fx.1 fx.2 (backTo pos (starEach args env)) (backToKw pos (keywordEach [] env))) := by with_unfolding_all rfl) : EV c n env m H (.Call (.Attribute o (Str.ofString "kept_to") p) args [] pos) Q :=
  EV.callM (h.mono fun O H₁ ⟨at_, io, hn, q⟩ => ⟨261, at_, 244, io, hn, by rw [c.hK]; exact pg_261_kept_to, by rw [c.hK]; exact find_261_kept_to, by rw [c.hK]; exact fn_244, by rw [c.hK]; exact kp_244, q⟩) hp hs
theorem meth_261_size_of {o : Expr} {p pos : Pos} {args : List Expr} {Q : V → Hp → Prop} {pl : Sem Bool}
    (h : EV c n env m H o fun O H₁ => ∃ at_, IsO H₁ O 261 at_ ∧ (Str.ofString "size_of") ∉ at_.map (·.1) ∧ ES c n env m H₁ args fun Ws H' => CL c n (.ref 251) (O :: Ws) H' Q) (hp : plainEs args = true := by rfl)
    (hs : eval (.Call (.Attribute o (Str.ofString "size_of") p) args [] pos) env = (do
      let ov ← eval o env
      standAt p.atName
      let fx ← holding [ov] (getMethod ov (Str.ofString "size_of") pl)
      callWith pos fx.1 fx.2 (backTo pos (starEach args env)) (backToKw pos (keywordEach [] env))) := by with_unfolding_all rfl) : EV c n env m H (.Call (.Attribute o (Str.ofString "size_of") p) args [] pos) Q :=
  EV.callM (h.mono fun O H₁ ⟨at_, io, hn, q⟩ => ⟨261, at_, 251, io, hn, by rw [c.hK]; exact pg_261_size_of, by rw [c.hK]; exact find_261_size_of, by rw [c.hK]; exact fn_251, by rw [c.hK]; exact kp_251, q⟩) hp hs
theorem meth_261_offset_of {o : Expr} {p pos : Pos} {args : List Expr} {Q : V → Hp → Prop} {pl : Sem Bool}
    (h : EV c n env m H o fun O H₁ => ∃ at_, IsO H₁ O 261 at_ ∧ (Str.ofString "offset_of") ∉ at_.map (·.1) ∧ ES c n env m H₁ args fun Ws H' => CL c n (.ref 258) (O :: Ws) H' Q) (hp : plainEs args = true := by rfl)
    (hs : eval (.Call (.Attribute o (Str.ofString "offset_of") p) args [] pos) env = (do
      let ov ← eval o env
      standAt p.atName
      let fx ← holding [ov] (getMethod ov (Str.ofString "offset_of") pl)
      callWith pos fx.1 fx.2 (backTo pos (starEach args env)) (backToKw pos (keywordEach [] env))) := by with_unfolding_all rfl) : EV c n env m H (.Call (.Attribute o (Str.ofString "offset_of") p) args [] pos) Q :=
  EV.callM (h.mono fun O H₁ ⟨at_, io, hn, q⟩ => ⟨261, at_, 258, io, hn, by rw [c.hK]; exact pg_261_offset_of, by rw [c.hK]; exact find_261_offset_of, by rw [c.hK]; exact fn_258, by rw [c.hK]; exact kp_258, q⟩) hp hs
theorem make_373 {Ws : List V} {Q : V → Hp → Prop} (h : ∀ x dx, x ≠ dx → H x = none → H dx = none → FN c n (.ref 335) (.ref x :: Ws) ((H.set dx (.ns [])).set x (.inst 373 dx)) fun W H' => W = .none ∧ Q (.ref x) H') : CL c (n + 1) (.ref 373) Ws H Q := CL.cls (by rw [c.hK]; exact makes_373) (by rw [c.hK]; exact find_373_init) (by rw [c.hK]; exact fn_335) h
theorem meth_373_put {o : Expr} {p pos : Pos} {args : List Expr} {Q : V → Hp → Prop} {pl : Sem Bool}
    (h : EV c n env m H o fun O H₁ => ∃ at_, IsO H₁ O 373 at_ ∧ (Str.ofString "put") ∉ at_.map (·.1) ∧ ES c n env m H₁ args fun Ws H' => CL c n (.ref 342) (O :: Ws) H' Q) (hp : plainEs args = true := by rfl)
    (hs : eval (.Call (.Attribute o (Str.ofString "put") p) args [] pos) env = (do
      let ov ← eval o env
      standAt p.atName
      let fx ← holding [ov] (getMethod ov (Str.ofString "put") pl)
      callWith pos fx.1 fx.2 (backTo pos (starEach args env)) (backToKw pos (keywordEach [] env))) := by with_unfolding_all rfl) : EV c n env m H (.Call (.Attribute o (Str.ofString "put") p) args [] pos) Q :=
  EV.callM (h.mono fun O H₁ ⟨at_, io, hn, q⟩ => ⟨373, at_, 342, io, hn, by rw [c.hK]; exact pg_373_put, by rw [c.hK]; exact find_373_put, by rw [c.hK]; exact fn_342, by rw [c.hK]; exact kp_342, q⟩) hp hs
theorem meth_373_place_of {o : Expr} {p pos : Pos} {args : List Expr} {Q : V → Hp → Prop} {pl : Sem Bool}
    (h : EV c n env m H o fun O H₁ => ∃ at_, IsO H₁ O 373 at_ ∧ (Str.ofString "place_of") ∉ at_.map (·.1) ∧ ES c n env m H₁ args fun Ws H' => CL c n (.ref 356) (O :: Ws) H' Q) (hp : plainEs args = true := by rfl)
    (hs : eval (.Call (.Attribute o (Str.ofString "place_of") p) args [] pos) env = (do
      let ov ← eval o env
      standAt p.atName
      let fx ← holding [ov] (getMethod ov (Str.ofString "place_of") pl)
      callWith pos fx.1 fx.2 (backTo pos (starEach args env)) (backToKw pos (keywordEach [] env))) := by with_unfolding_all rfl) : EV c n env m H (.Call (.Attribute o (Str.ofString "place_of") p) args [] pos) Q :=
  EV.callM (h.mono fun O H₁ ⟨at_, io, hn, q⟩ => ⟨373, at_, 356, io, hn, by rw [c.hK]; exact pg_373_place_of, by rw [c.hK]; exact find_373_place_of, by rw [c.hK]; exact fn_356, by rw [c.hK]; exact kp_356, q⟩) hp hs
noncomputable abbrev penV : V := .tup [.int 0, .int (-1), .int (-1), .int (-1), .int 0]
theorem rep_tup {h : Heap} {M : Addr → Prop} {a : Addr} {dd : Option Addr} {items : List Value} {k : Nat} {sl : Array (Option Value)} {vs : List V} (e : h.get? a = some ⟨.type "tuple", dd, .seq items.toArray k, sl⟩) (hm : ¬ M a) (r : Reps h M items vs) : Rep h M (.ref a) (.tup vs) :=
  Rep.tup_iff.mpr ⟨a, items.toArray, rfl, ⟨_, e, rfl, _, rfl⟩, hm, by simpa using r⟩
noncomputable abbrev NoM : Addr → Prop := fun _ => False
theorem pen_rep : Rep c.base NoM (.ref 22) penV :=
  rep_tup (dd := none) (k := 0) (sl := #[]) (items := [.int 0 199, .int (-1) 197, .int (-1) 197, .int (-1) 197, .int 0 200]) (c.X _ _ (by rw [c.hK]; kernel_rfl)) (fun f => f) (.cons (.int _ _) (.cons (.int _ _) (.cons (.int _ _) (.cons (.int _ _) (.cons (.int _ _) .nil)))))
noncomputable abbrev sgV (k w : Int) : V := .tup [.int k, .int w]
noncomputable abbrev signsV : List V := [sgV 97 1, sgV 20013 2, sgV 98 1, sgV 99 1, sgV 25991 2]
theorem sg_rep {a : Addr} {k w : Int} {t u : Tok} {j : Nat} (e : c.K.lookup a = some ⟨.type "tuple", none, .seq [.int k t, .int w u].toArray j, #[]⟩) : Rep c.base NoM (.ref a) (sgV k w) :=
  rep_tup (c.X _ _ e) (fun f => f) (.cons (.int _ _) (.cons (.int _ _) .nil))
theorem signs_rep : Rep c.base NoM (.ref 383) (.lst signsV) :=
  Rep.lst_iff.mpr ⟨383, [.ref 378, .ref 379, .ref 380, .ref 381, .ref 382].toArray, rfl, ⟨0, c.X _ _ (by rw [c.hK]; kernel_rfl)⟩, fun f => f,
    .cons (sg_rep (t := 709) (u := 710) (j := 0) (by rw [c.hK]; kernel_rfl)) (.cons (sg_rep (t := 711) (u := 712) (j := 0) (by rw [c.hK]; kernel_rfl)) (.cons (sg_rep (t := 713) (u := 714) (j := 0) (by rw [c.hK]; kernel_rfl)) (.cons (sg_rep (t := 715) (u := 716) (j := 0) (by rw [c.hK]; kernel_rfl)) (.cons (sg_rep (t := 717) (u := 718) (j := 0) (by rw [c.hK]; kernel_rfl)) .nil))))⟩
theorem g_PLAIN {P : Params} : nsIn (heapK P) mainGlobals (Str.ofString "PLAIN") = some (some (.ref 22)) := by kernel_rfl
theorem name_PLAIN {p : Pos} {Q : V → Hp → Prop} (h : Q (penV) H) (hx : env.kindOf (Str.ofString "PLAIN") = some .globalImplicit := by kernel_rfl) : EV c n env m H (.Name (Str.ofString "PLAIN") p) Q := EV.glo (by rw [c.hK]; exact g_PLAIN) hx pen_rep h (by decide)
theorem g_law_signs {P : Params} : nsIn (heapK P) mainGlobals (Str.ofString "_law_signs") = some (some (.ref 383)) := by kernel_rfl
theorem name_law_signs {p : Pos} {Q : V → Hp → Prop} (h : Q (.lst signsV) H) (hx : env.kindOf (Str.ofString "_law_signs") = some .globalImplicit := by kernel_rfl) : EV c n env m H (.Name (Str.ofString "_law_signs") p) Q := EV.glo (by rw [c.hK]; exact g_law_signs) hx signs_rep h (by decide)
theorem g_NO_COLOUR {P : Params} : nsIn (heapK P) mainGlobals (Str.ofString "NO_COLOUR") = some (some (.int (-1) 197)) := by kernel_rfl
theorem name_NO_COLOUR {p : Pos} {Q : V → Hp → Prop} (h : Q (.int (-1)) H) (hx : env.kindOf (Str.ofString "NO_COLOUR") = some .globalImplicit := by kernel_rfl) : EV c n env m H (.Name (Str.ofString "NO_COLOUR") p) Q := EV.glo (by rw [c.hK]; exact g_NO_COLOUR) hx (.int _ _) h (by decide)
theorem g_BACK {P : Params} : nsIn (heapK P) mainGlobals (Str.ofString "BACK") = some (some (.int 2 202)) := by kernel_rfl
theorem name_BACK {p : Pos} {Q : V → Hp → Prop} (h : Q (.int 2) H) (hx : env.kindOf (Str.ofString "BACK") = some .globalImplicit := by kernel_rfl) : EV c n env m H (.Name (Str.ofString "BACK") p) Q := EV.glo (by rw [c.hK]; exact g_BACK) hx (.int _ _) h (by decide)
theorem g_SINGLE {P : Params} : nsIn (heapK P) mainGlobals (Str.ofString "SINGLE") = some (some (.str (Str.ofString "single") 456)) := by kernel_rfl
theorem name_SINGLE {p : Pos} {Q : V → Hp → Prop} (h : Q (.str (Str.ofString "single")) H) (hx : env.kindOf (Str.ofString "SINGLE") = some .globalImplicit := by kernel_rfl) : EV c n env m H (.Name (Str.ofString "SINGLE") p) Q := EV.glo (by rw [c.hK]; exact g_SINGLE) hx (.str _ _) h (by decide)
theorem g_LINE_SIZES {P : Params} : nsIn (heapK P) mainGlobals (Str.ofString "LINE_SIZES") = some (some (.ref 51)) := by kernel_rfl
end Mine
end PartC24
section PartC25
open PySem PySem.W PyProof.Rows PySem.Calls
namespace Mine
variable {c : Cx} {n : Nat} {env : Env} {m : Vm} {H : Hp}
noncomputable def Kn (c : Cx) (n : Nat) (env : Env) (r : List Stmt) (Q : Fl → Vm → Hp → Prop) : Fl → Vm → Hp → Prop
  | .next, m, H => SX c n env m H r Q
  | F, m, H => Q F m H
theorem Kn.next {r : List Stmt} {Q : Fl → Vm → Hp → Prop} (h : SX c n env m H r Q) : Kn c n env r Q .next m H := h
theorem Kn.ret {r : List Stmt} {Q : Fl → Vm → Hp → Prop} {W : V} (h : Q (.ret W) m H) : Kn c n env r Q (.ret W) m H := h
theorem Kn.brk {r : List Stmt} {Q : Fl → Vm → Hp → Prop} (h : Q .brk m H) : Kn c n env r Q .brk m H := h
theorem Kn.cont {r : List Stmt} {Q : Fl → Vm → Hp → Prop} (h : Q .cont m H) : Kn c n env r Q .cont m H := h
theorem SX.st {st : Stmt} {r : List Stmt} {Q : Fl → Vm → Hp → Prop} (h : ST c n env m H st (Kn c n env r Q)) : SX c n env m H (st :: r) Q := SX.cons (by
  intro A s Z ro a v
  refine wpAny_mono (h A s Z ro a v) (fun f s' ⟨F, m', H', fr, a', v', k, q⟩ => ⟨F, m', H', fr, a', v', k, ?_⟩) fun _ _ f => f
  cases F <;> exact q)
section
variable {r : List Stmt} {Q : Fl → Vm → Hp → Prop}
theorem SX.asg {x : Str} {value : Expr} {p p' : Pos} (h : EV c n env m H value fun W H' => ∃ m', Upd x W m m' ∧ SX c n env m' H' r Q)
    (hs : swapsWith value (some (.Name x p')) p.line env = pure false := by with_unfolding_all rfl) (hf : env.func ≠ none := by with_unfolding_all exact Option.some_ne_none _) : SX c n env m H (.Assign [.Name x p'] value p :: r) Q := SX.st (ST.asg h hs hf)
theorem SX.unpack {ts : List Expr} {value : Expr} {k : Nat} {p p' : Pos} (h : EV c n env m H value fun W H' => AS c n env m H' (.Tuple ts k p') W fun m' H₂ => SX c n env m' H₂ r Q)
    (hs : swapsWithSole [.Tuple ts k p'] value p.line env = pure false := by rfl) (hw : swappedStores [.Tuple ts k p'] value env = pure none := by with_unfolding_all rfl) : SX c n env m H (.Assign [.Tuple ts k p'] value p :: r) Q := SX.st (ST.unpack h hs hw)
theorem SX.swap {ts : List Expr} {value : Expr} {k : Nat} {names : List Str} {p p' : Pos} (hw : swappedStores [.Tuple ts k p'] value env = pure (some names))
    (h : EV c n env m H value fun W H' => ∃ Ws, W = .tup Ws ∧ Ws.length = names.length ∧ AN c n env m names.reverse Ws.reverse fun m' => SX c n env m' H' r Q)
    (hs : swapsWithSole [.Tuple ts k p'] value p.line env = pure false := by rfl) (hf : env.func ≠ none := by exact Option.some_ne_none _) : SX c n env m H (.Assign [.Tuple ts k p'] value p :: r) Q := SX.st (ST.swap hw h hs hf)
theorem SX.setattr {o value : Expr} {x : Str} {p p' : Pos}
    (h : EV c n env m H value fun W H₁ => EV c n env m H₁ o fun O H₂ => ∃ X C dx at_ at', O = .ref X ∧ H₂ X = some (.inst C dx) ∧ H₂ dx = some (.ns at_) ∧ AttrPut x W at_ at' ∧ setName c.K C x = true ∧ at_.length ≤ 900 ∧ SX c n env m (H₂.set dx (.ns at')) r Q)
    (hs : swapsWith value (some (o.Attribute x p')) p.line env = pure false := by with_unfolding_all rfl) : SX c n env m H (.Assign [.Attribute o x p'] value p :: r) Q := SX.st (ST.setattr h hs)
theorem SX.setitem {o i value : Expr} {p p' : Pos}
    (h : EV c n env m H value fun W H₁ => EV c n env m H₁ o fun O H₂ => EV c n env m H₂ i fun I H₃ => ∃ a vs k, O = .ref a ∧ H₃ a = some (.list vs) ∧ I = .int k ∧ 0 ≤ k ∧ k < vs.length ∧ k < 2 ^ 63 ∧ SX c n env m (H₃.set a (.list (vs.set k.toNat W))) r Q)
    (hs : swapsWith value (some (o.Subscript i p')) p.line env = pure false := by rfl) : SX c n env m H (.Assign [.Subscript o i p'] value p :: r) Q := SX.st (ST.setitem h hs)
theorem SX.setkey {o i value : Expr} {p p' : Pos}
    (h : EV c n env m H value fun W H₁ => EV c n env m H₁ o fun O H₂ => EV c n env m H₂ i fun I H₃ => ∃ a kv k, O = .ref a ∧ H₃ a = some (.dict kv) ∧ I = .int k ∧ kv.length ≤ 1000000 ∧ SX c n env m (H₃.set a (.dict (storedV kv k W))) r Q)
    (hs : swapsWith value (some (o.Subscript i p')) p.line env = pure false := by rfl) : SX c n env m H (.Assign [.Subscript o i p'] value p :: r) Q := SX.st (ST.setkey h hs)
theorem SX.expr {e : Expr} {p : Pos} (h : EV c n env m H e fun W H' => SX c n env m H' r Q) (hi : interactive env = false := by with_unfolding_all rfl) (hs : swapsWith e none p.line env = pure false := by with_unfolding_all rfl) : SX c n env m H (.Expr e p :: r) Q := SX.st (ST.expr h hi hs)
theorem SX.ret {e : Expr} {p : Pos} (h : EV c n env m H e fun W H' => Q (.ret W) m H') : SX c n env m H (.Return (some e) p :: r) Q := SX.st (ST.ret h)
theorem SX.retNone {p : Pos} (h : Q (.ret .none) m H) : SX c n env m H (.Return none p :: r) Q := SX.st (ST.retNone h)
theorem SX.ite {t : Expr} {b o : List Stmt} {p : Pos} (h : TT c n env m H t fun x H' => if x = true then SX c n env m H' b (Kn c n env r Q) else SX c n env m H' o (Kn c n env r Q)) : SX c n env m H (.If t b o p :: r) Q := SX.st (ST.ite h)
theorem SX.if1 {t : Expr} {b : List Stmt} {p : Pos} (h : TT c n env m H t fun x H' => if x = true then SX c n env m H' b (Kn c n env r Q) else SX c n env m H' r Q) : SX c n env m H (.If t b [] p :: r) Q := SX.ite (h.mono fun x H' q => by
  cases x with
  | true => rw [if_pos rfl] at q ⊢; exact q
  | false => rw [if_neg (by decide)] at q ⊢; exact SX.nil q)
end
theorem ifd {p : Prop} [Decidable p] {A B : Prop} (h1 : p → A) (h2 : ¬ p → B) : if (decide p) = true then A else B := by
  by_cases q : p
  · rw [if_pos (by simp [q])]; exact h1 q
  · rw [if_neg (by simp [q])]; exact h2 q
theorem ifT {A B : Prop} (h : A) : if true = true then A else B := by rw [if_pos rfl]; exact h
theorem ifF {A B : Prop} (h : B) : if false = true then A else B := by rw [if_neg (by decide)]; exact h
theorem ifb {b : Bool} {A B : Prop} (h1 : b = true → A) (h2 : b = false → B) : if b = true then A else B := by
  cases b
  · exact ifF (h2 rfl)
  · exact ifT (h1 rfl)
theorem boolI {b : Bool} {Q : V → Prop} (h : Q (.bool (!b))) : ∃ b', V.bool b = .bool b' ∧ Q (.bool (!b')) := ⟨b, rfl, h⟩
noncomputable def Rt (Q : V → Hp → Prop) : Fl → Vm → Hp → Prop
  | .ret W, _, H => Q W H
  | .next, _, H => Q .none H
  | _, _, _ => False
theorem Rt.ret {Q : V → Hp → Prop} {W : V} (h : Q W H) : Rt Q (.ret W) m H := h
theorem Rt.next {Q : V → Hp → Prop} (h : Q .none H) : Rt Q .next m H := h
theorem FN.defm {oc : Value} {od : Option Addr} {osl : Array (Option Value)} {name qual : Str} {params : Arguments} {body : List Stmt} {scope : Scope} {dV kV doc pm cdv ct : Value} {an : Option Addr} {f : Addr} {Ws : List V} {Q : V → Hp → Prop}
    (ho : c.K.lookup f = some ⟨oc, od, .func (fnOf name qual params body scope dV kV doc pm an cdv ct), osl⟩) (ps rest : List Str) (m : Vm) (hcd : codeIn c.K cdv qual = true) (hlen : ps.length = Ws.length) (hm : frame ps Ws rest = m)
    (hbind : ∀ (vs : List Value), vs.length = Ws.length → bindArgs (fnOf name qual params body scope dV kV doc pm an cdv ct) ⟨vs, []⟩ = pure (ps.zip vs))
    (hok : okNames scope ps rest = true) (hcell : scope.names.all (fun x => x.2 != .cell) = true) (hco : scope.isCoroutine = false) (hgen : scope.isGenerator = false) (hk : scope.kind = .function)
    (h : ∀ L, SX c n (envX qual scope L f cdv []) m H body (Rt Q)) : FN c (n + 1) (.ref f) Ws H Q :=
  FN.def (Ds := []) (ds := []) ho hcd (by simpa using hlen) (fun _ _ => Reps.nil) (fun s vs _ hv => by simpa using BindsTo.of_eq (hbind vs hv)) hok hcell hco hgen hk (by subst hm; intro L; rw [List.append_nil]; exact (h L).mono fun F m' H' q => by cases F <;> exact q)
theorem FN.defd {oc : Value} {od : Option Addr} {osl : Array (Option Value)} {name qual : Str} {params : Arguments} {body : List Stmt} {scope : Scope} {dV kV doc pm cdv ct : Value} {an : Option Addr} {f : Addr} {Ws Ds : List V} {ds : List Value} {Q : V → Hp → Prop}
    (ho : c.K.lookup f = some ⟨oc, od, .func (fnOf name qual params body scope dV kV doc pm an cdv ct), osl⟩) (ps rest : List Str) (m : Vm) (hcd : codeIn c.K cdv qual = true) (hlen : ps.length = (Ws ++ Ds).length) (hm : frame ps (Ws ++ Ds) rest = m) (hds : ∀ h M, Reps h M ds Ds)
    (hbind : ∀ (s : Shared) (vs : List Value), c.K.In s.heap → vs.length = Ws.length → BindsTo s (fnOf name qual params body scope dV kV doc pm an cdv ct) ⟨vs, []⟩ (ps.zip (vs ++ ds)))
    (hok : okNames scope ps rest = true) (hcell : scope.names.all (fun x => x.2 != .cell) = true) (hco : scope.isCoroutine = false) (hgen : scope.isGenerator = false) (hk : scope.kind = .function)
    (h : ∀ L, SX c n (envX qual scope L f cdv []) m H body (Rt Q)) : FN c (n + 1) (.ref f) Ws H Q :=
  FN.def ho hcd hlen hds hbind hok hcell hco hgen hk (by subst hm; intro L; exact (h L).mono fun F m' H' q => by cases F <;> exact q)
end Mine
end PartC25
section PartC26
open PySem PySem.W PyProof.Rows PySem.Calls
namespace Mine
variable {c : Cx} {n : Nat} {env : Env} {m : Vm} {H : Hp}
theorem EV.append {o e : Expr} {p pos : Pos} {Q : V → Hp → Prop}
    (h : EV c n env m H o fun O H₁ => ∃ a vs₀, O = .ref a ∧ H₁ a = some (.list vs₀) ∧ EV c n env m H₁ e fun W H₂ => ∃ vs, H₂ a = some (.list vs) ∧ vs.length ≤ 1000000 ∧ Q .none (H₂.set a (.list (vs ++ [W]))))
    (hp : plainEs [e] = true := by rfl)
    (hbase : attributeBase o (Str.ofString "append") env (eval o env) = eval o env := by with_unfolding_all rfl)
    (hfew : ((backTo pos (starEach [e] env)).all (fun x => !x.1) && (backToKw pos (keywordEach [] env)).all (fun x => x.1.isSome) && decide ([e].length + ([] : List Keyword).length + (if ([] : List Keyword).isEmpty then 0 else 1) < 30)) = true := by with_unfolding_all rfl)
    (hline : (p.endLine == pos.line) = true := by rfl) : EV c n env m H (.Call (.Attribute o (Str.ofString "append") p) [e] [] pos) Q :=
  EV.callT F.plainAttrs_list F.slot_list_append F.type_list_append (h.mono fun O H₁ ⟨a, vs₀, e0, ha, q⟩ => ⟨⟨a, e0, .inl ⟨vs₀, ha, rfl⟩⟩, ES.cons (q.mono fun W H₂ ⟨vs, hb, hz, q⟩ => ES.nil (by subst e0; exact CL.append hb hz q)) (starEach_cons hp).1⟩) hp hbase hfew hline
theorem EV.extend {o e : Expr} {p pos : Pos} {Q : V → Hp → Prop}
    (h : EV c n env m H o fun O H₁ => ∃ a vs₀, O = .ref a ∧ H₁ a = some (.list vs₀) ∧ EV c n env m H₁ e fun W H₂ => ∃ vs ws, H₂ a = some (.list vs) ∧ IsL H₂ W ws ∧ vs.length + ws.length ≤ 1000000 ∧ Q .none (H₂.set a (.list (vs ++ ws))))
    (hp : plainEs [e] = true := by rfl)
    (hbase : attributeBase o (Str.ofString "extend") env (eval o env) = eval o env := by with_unfolding_all rfl)
    (hfew : ((backTo pos (starEach [e] env)).all (fun x => !x.1) && (backToKw pos (keywordEach [] env)).all (fun x => x.1.isSome) && decide ([e].length + ([] : List Keyword).length + (if ([] : List Keyword).isEmpty then 0 else 1) < 30)) = true := by with_unfolding_all rfl)
    (hline : (p.endLine == pos.line) = true := by rfl) : EV c n env m H (.Call (.Attribute o (Str.ofString "extend") p) [e] [] pos) Q :=
  EV.callT F.plainAttrs_list F.slot_list_extend F.type_list_extend (h.mono fun O H₁ ⟨a, vs₀, e0, ha, q⟩ => ⟨⟨a, e0, .inl ⟨vs₀, ha, rfl⟩⟩, ES.cons (q.mono fun W H₂ ⟨vs, ws, hb, hl, hz, q⟩ => ES.nil (by subst e0; exact CL.extend hb hl hz q)) (starEach_cons hp).1⟩) hp hbase hfew hline
theorem EV.update {o e : Expr} {p pos : Pos} {Q : V → Hp → Prop}
    (h : EV c n env m H o fun O H₁ => ∃ a vs₀, O = .ref a ∧ H₁ a = some (.dict vs₀) ∧ EV c n env m H₁ e fun W H₂ => ∃ d kv more, W = .ref d ∧ H₂ a = some (.dict kv) ∧ H₂ d = some (.dict more) ∧ a ≠ d ∧ kv.length + more.length ≤ 1000000 ∧ Q .none (H₂.set a (.dict (mergedV kv more))))
    (hp : plainEs [e] = true := by rfl)
    (hbase : attributeBase o (Str.ofString "update") env (eval o env) = eval o env := by with_unfolding_all rfl)
    (hfew : ((backTo pos (starEach [e] env)).all (fun x => !x.1) && (backToKw pos (keywordEach [] env)).all (fun x => x.1.isSome) && decide ([e].length + ([] : List Keyword).length + (if ([] : List Keyword).isEmpty then 0 else 1) < 30)) = true := by with_unfolding_all rfl)
    (hline : (p.endLine == pos.line) = true := by rfl) : EV c n env m H (.Call (.Attribute o (Str.ofString "update") p) [e] [] pos) Q :=
  EV.callT F.plainAttrs_dict F.slot_dict_update F.type_dict_update (h.mono fun O H₁ ⟨a, vs₀, e0, ha, q⟩ => ⟨⟨a, e0, .inr ⟨vs₀, ha, rfl⟩⟩, ES.cons (q.mono fun W H₂ ⟨d, kv, more, e1, hb, hd, hne, hz, q⟩ => ES.nil (by subst e0 e1; exact CL.update hb hd hne hz q)) (starEach_cons hp).1⟩) hp hbase hfew hline
theorem IsO.fr {C : Addr} {at_ : List (Str × V)} : IsO H (.obj C at_) C at_ := .inl rfl
theorem IsO.own {x C dx : Addr} {at_ : List (Str × V)} (h1 : H x = some (.inst C dx)) (h2 : H dx = some (.ns at_)) : IsO H (.ref x) C at_ := .inr ⟨x, dx, rfl, h1, h2⟩
theorem IsL.fr {vs : List V} : IsL H (.lst vs) vs := .inl rfl
theorem IsL.own {a : Addr} {vs : List V} (h : H a = some (.list vs)) : IsL H (.ref a) vs := .inr ⟨a, rfl, h⟩
noncomputable abbrev Less (H'' H' : Hp) : Prop := ∀ x d, H'' x = some d → H' x = some d
theorem Less.refl : Less H H := fun _ _ e => e
theorem Less.trans {H₁ H₂ H₃ : Hp} (x : Less H₁ H₂) (y : Less H₂ H₃) : Less H₁ H₃ := fun a d e => y a d (x a d e)
theorem Less.set {H'' H' : Hp} {a : Addr} {d : Cell} (l : Less H'' H') : Less (H''.set a d) (H'.set a d) := fun x e h => by
  by_cases q : x = a
  · subst q; rw [Hp.set_same] at h ⊢; exact h
  · rw [Hp.set_ne _ _ q] at h ⊢; exact l x e h
theorem Less.skip {H'' H' : Hp} {a : Addr} {d : Cell} (l : Less H'' H') (n : H'' a = none) : Less H'' (H'.set a d) := fun x e h => by
  by_cases q : x = a
  · subst q; rw [n] at h; cases h
  · rw [Hp.set_ne _ _ q]; exact l x e h
theorem Less.out {H'' H' : Hp} {a : Addr} (l : Less H'' H') (n : H'' a = none) : Less H'' (H'.del a) := fun x e h => by
  by_cases q : x = a
  · subst q; rw [n] at h; cases h
  · rw [Hp.del_ne _ q]; exact l x e h
theorem Less.del {H' : Hp} {a : Addr} : Less (H'.del a) H' := del_less
theorem Hp.setN {a b : Addr} {d : Cell} {e : Cell} (h : H a = some d) (n : H b = none) : H.set b e a = some d := by
  rw [Hp.set_ne]; exact h
  rintro rfl; rw [n] at h; cases h
theorem Hp.setD {a b : Addr} {d : Cell} {e : Cell} (h : H a = some d) (n : a ≠ b) : H.set b e a = some d := by rw [Hp.set_ne _ _ n]; exact h
theorem Hp.delD {a b : Addr} {d : Cell} (h : H a = some d) (n : a ≠ b) : H.del b a = some d := by rw [Hp.del_ne _ n]; exact h
theorem Hp.noS {a b : Addr} {e : Cell} (h : H a = none) (n : a ≠ b) : H.set b e a = none := by rw [Hp.set_ne _ _ n]; exact h
theorem Hp.noD {a b : Addr} (h : H a = none) : H.del b a = none := by
  by_cases q : a = b
  · subst q; exact Hp.del_same ..
  · rw [Hp.del_ne _ q]; exact h
theorem Hp.apart {a b : Addr} {d : Cell} (h : H a = some d) (n : H b = none) : a ≠ b := by rintro rfl; rw [n] at h; cases h
theorem Hp.newNe {a b : Addr} {d : Cell} (h : H.set a d b = none) : b ≠ a := by rintro rfl; rw [Hp.set_same] at h; cases h
theorem Hp.newNo {a b : Addr} {d : Cell} (h : H.set a d b = none) : H b = none := by rw [Hp.set_ne _ _ (Hp.newNe h)] at h; exact h
theorem Hp.setBack {a : Addr} {d : Cell} (h : H a = none) : (H.set a d).del a = H := by
  funext x
  by_cases q : x = a
  · subst q; rw [Hp.del_same, h]
  · rw [Hp.del_ne _ q, Hp.set_ne _ _ q]
theorem Hp.setSet {a : Addr} {d e : Cell} : (H.set a d).set a e = H.set a e := by
  funext x
  by_cases q : x = a
  · subst q; simp
  · simp [Hp.set, q]
theorem Hp.setComm {a b : Addr} {d e : Cell} (h : a ≠ b) : (H.set a d).set b e = (H.set b e).set a d := by
  funext x
  by_cases q : x = a
  · subst q; simp [Hp.set, h]
  · by_cases q' : x = b
    · subst q'; simp [Hp.set, q]
    · simp [Hp.set, q, q']
theorem Hp.setId {a : Addr} {d : Cell} (h : H a = some d) : H.set a d = H := by
  funext x
  by_cases q : x = a
  · subst q; rw [Hp.set_same, h]
  · rw [Hp.set_ne _ _ q]
theorem EV.nilL {p : Pos} {Q : V → Hp → Prop} (h : Q (.lst []) H) : EV c n env m H (.List [] p) Q :=
  EV.freeze (EV.list (ES.nil fun a ha => ⟨a, [], rfl, Hp.set_same .., by rw [Hp.setBack ha]; exact h⟩))
inductive AddH (x : Str) (W : V) : List (Str × V) → List (Str × V) → Prop
  | nil : AddH x W [] [(x, W)]
  | cons {p : Str × V} {a b : List (Str × V)} (h : AddH x W a b) : AddH x W (p :: a) (p :: b)
theorem AddH.eq {x : Str} {W : V} {a b : List (Str × V)} (h : AddH x W a b) : b = a ++ [(x, W)] := by
  induction h with
  | nil => rfl
  | cons _ ih => rw [ih]; rfl
theorem sizes_rep : Rep c.base NoM (.ref 51) (.tup [.str (Str.ofString "single"), .str (Str.ofString "wide"), .str (Str.ofString "top"), .str (Str.ofString "bottom")]) :=
  rep_tup (dd := none) (k := 0) (sl := #[]) (items := [.str (Str.ofString "single") 234, .str (Str.ofString "wide") 235, .str (Str.ofString "top") 236, .str (Str.ofString "bottom") 237]) (c.X _ _ (by rw [c.hK]; kernel_rfl)) (fun f => f) (.cons (.str _ _) (.cons (.str _ _) (.cons (.str _ _) (.cons (.str _ _) .nil))))
theorem name_LINE_SIZES {p : Pos} {Q : V → Hp → Prop} (h : Q (.tup [.str (Str.ofString "single"), .str (Str.ofString "wide"), .str (Str.ofString "top"), .str (Str.ofString "bottom")]) H) (hx : env.kindOf (Str.ofString "LINE_SIZES") = some .globalImplicit := by kernel_rfl) : EV c n env m H (.Name (Str.ofString "LINE_SIZES") p) Q := EV.glo (by rw [c.hK]; exact g_LINE_SIZES) hx sizes_rep h (by decide)
theorem idx_at {vs : List V} {i : Nat} {W : V} (h : vs[i]? = some W) : idx vs (i : Int) = some W := by unfold idx; rw [if_pos (by lia)]; simpa using h
theorem idx_last {vs : List V} {W : V} (h : vs.getLast? = some W) : idx vs (-1) = some W := by
  unfold idx
  rw [if_neg (by decide)]
  rw [List.getLast?_eq_getElem?] at h
  have hl := (List.getElem?_eq_some_iff.mp h).1
  rw [if_pos (by lia)]
  rw [show ((-1 : Int) + (vs.length : Int)).toNat = vs.length - 1 by lia]; exact h
theorem TA.andF {x : Expr} {es : List Expr} {Q : Bool → Hp → Prop} (h : TT c n env m H x fun b H' => b = false ∧ Q false H') : TA c n env m H .And (x :: es) Q := TA.and (h.mono fun b H' ⟨e, q⟩ => by subst e; exact ifF q)
theorem IsL.less {H' : Hp} {W : V} {vs : List V} (x : IsL H W vs) (l : Less H H') : IsL H' W vs := x.imp id fun ⟨a, e, h⟩ => ⟨a, e, l _ _ h⟩
theorem IsO.less {H' : Hp} {W : V} {C : Addr} {at_ : List (Str × V)} (x : IsO H W C at_) (l : Less H H') : IsO H' W C at_ := x.imp id fun ⟨a, d, e, h, h'⟩ => ⟨a, d, e, l _ _ h, l _ _ h'⟩
theorem TT.is (b : Bool) {e : Expr} {Q : Bool → Hp → Prop} (h : TT c n env m H e fun b' H' => b' = b ∧ H' = H) (q : Q b H) : TT c n env m H e Q := h.mono fun b' H' ⟨e1, e2⟩ => by subst e1 e2; exact q
theorem TT.isF {e : Expr} {Q : Bool → Hp → Prop} (h : TT c n env m H e fun b' H' => b' = false ∧ H' = H) (q : Q false H) : TT c n env m H e Q := TT.is false h q
theorem TT.isT {e : Expr} {Q : Bool → Hp → Prop} (h : TT c n env m H e fun b' H' => b' = true ∧ H' = H) (q : Q true H) : TT c n env m H e Q := TT.is true h q
theorem TT.andB {x y : Expr} {p : Pos} {Q : Bool → Hp → Prop} (h : TT c n env m H x fun b H' => if b = true then TT c n env m H' y Q else Q false H') : TT c n env m H (.BoolOp .And [x, y] p) Q :=
  TT.all (TA.and (h.mono fun b H' q => by
    cases b with
    | false => rw [if_neg (by decide)] at q ⊢; exact q
    | true => rw [if_pos rfl] at q ⊢; exact TA.and (q.mono fun b H'' q => by
        cases b with
        | false => exact ifF q
        | true => exact ifT (TA.andNil q))))
theorem TT.orB {x y : Expr} {p : Pos} {Q : Bool → Hp → Prop} (h : TT c n env m H x fun b H' => if b = true then Q true H' else TT c n env m H' y Q) : TT c n env m H (.BoolOp .Or [x, y] p) Q :=
  TT.all (TA.or (h.mono fun b H' q => by
    cases b with
    | true => rw [if_pos rfl] at q ⊢; exact q
    | false => rw [if_neg (by decide)] at q ⊢; exact TA.or (q.mono fun b H'' q => by
        cases b with
        | true => exact ifT q
        | false => exact ifF (TA.orNil q))))
end Mine
end PartC26
section PartC27
open PySem PySem.W PyProof.Rows PySem.Calls
namespace Mine
variable {c : Cx} {n : Nat} {env : Env} {m : Vm} {H : Hp}
noncomputable def Tn (N B : Vm → Hp → Prop) (Q : Fl → Vm → Hp → Prop) : Fl → Vm → Hp → Prop
  | .next, m, H => N m H
  | .cont, m, H => N m H
  | .brk, m, H => B m H
  | .ret W, m, H => Q (.ret W) m H
theorem Tn.next {N B : Vm → Hp → Prop} {Q : Fl → Vm → Hp → Prop} (h : N m H) : Tn N B Q .next m H := h
theorem Tn.cont {N B : Vm → Hp → Prop} {Q : Fl → Vm → Hp → Prop} (h : N m H) : Tn N B Q .cont m H := h
theorem Tn.brk {N B : Vm → Hp → Prop} {Q : Fl → Vm → Hp → Prop} (h : B m H) : Tn N B Q .brk m H := h
theorem Tn.ret {N B : Vm → Hp → Prop} {Q : Fl → Vm → Hp → Prop} {W : V} (h : Q (.ret W) m H) : Tn N B Q (.ret W) m H := h
theorem SX.while {t : Expr} {b r : List Stmt} {p : Pos} {Q : Fl → Vm → Hp → Prop} (I : Nat → Vm → Hp → Prop) (k : Nat) (h0 : I k m H)
    (turn : ∀ k m H, I k m H → TT c n env m H t fun x H' => if x = true then SX c n env m H' b (Tn (fun m'' H'' => ∃ j, j < k ∧ I j m'' H'') (fun m'' H'' => SX c n env m'' H'' r Q) Q) else SX c n env m H' r Q) : SX c n env m H (.While t b [] p :: r) Q :=
  SX.st (ST.while I k h0 fun k m H i => (turn k m H i).mono fun x H' q => by
    cases x with
    | false => rw [if_neg (by decide)] at q ⊢; exact q
    | true => rw [if_pos rfl] at q ⊢; exact q.mono fun F m' H'' q => by cases F <;> exact q)
theorem SX.while2 {t : Expr} {b r : List Stmt} {p : Pos} {Q : Fl → Vm → Hp → Prop} (I : Nat → Vm → Hp → Prop) (E : Vm → Hp → Prop) (k : Nat) (h0 : I k m H)
    (turn : ∀ k m H, I k m H → TT c n env m H t fun x H' => if x = true then SX c n env m H' b (Tn (fun m'' H'' => ∃ j, j < k ∧ I j m'' H'') E Q) else E m H') (fin : ∀ m H, E m H → SX c n env m H r Q) : SX c n env m H (.While t b [] p :: r) Q :=
  SX.while I k h0 fun k m H i => (turn k m H i).mono fun x H' q => by
    cases x with
    | false => rw [if_neg (by decide)] at q ⊢; exact fin _ _ q
    | true => rw [if_pos rfl] at q ⊢; exact q.mono fun F m' H'' q => by
                cases F with
                | brk => exact fin _ _ q
                | next => exact q
                | cont => exact q
                | ret W => exact q
theorem SX.for2 {target iter : Expr} {body r : List Stmt} {p : Pos} {Q : Fl → Vm → Hp → Prop} (I : Nat → Vm → Hp → Prop) (E : Vm → Hp → Prop)
    (h : IT c n env m H target iter fun Ws H' => I 0 m H' ∧ (∀ i W m H, Ws[i]? = some W → I i m H → AS c n env m H target W fun m' H' => SX c n env m' H' body (Tn (fun m'' H'' => I (i + 1) m'' H'') E Q)) ∧ ∀ m H, I Ws.length m H → E m H)
    (fin : ∀ m H, E m H → SX c n env m H r Q)
    (hs : ∀ x, foldedSetIterable iter env x = pure x := by intro _; rfl) : SX c n env m H (.For target iter body [] p :: r) Q :=
  SX.st (ST.for I (IT.mono h fun Ws H' ⟨h1, h2, h3⟩ => ⟨h1, fun i W m H hW hI => AS.mono (h2 i W m H hW hI) fun m' H' q => q.mono fun F m'' H'' q => by
    cases F with
    | brk => exact fin _ _ q
    | next => exact q
    | cont => exact q
    | ret W => exact q, fun m H i => fin _ _ (h3 m H i)⟩) hs)
theorem SX.for {target iter : Expr} {body r : List Stmt} {p : Pos} {Q : Fl → Vm → Hp → Prop} (I : Nat → Vm → Hp → Prop)
    (h : IT c n env m H target iter fun Ws H' => I 0 m H' ∧ (∀ i W m H, Ws[i]? = some W → I i m H → AS c n env m H target W fun m' H' => SX c n env m' H' body (Tn (fun m'' H'' => I (i + 1) m'' H'') (fun m'' H'' => SX c n env m'' H'' r Q) Q)) ∧ ∀ m H, I Ws.length m H → SX c n env m H r Q)
    (hs : ∀ x, foldedSetIterable iter env x = pure x := by intro _; rfl) : SX c n env m H (.For target iter body [] p :: r) Q :=
  SX.st (ST.for I (IT.mono h fun Ws H' ⟨h1, h2, h3⟩ => ⟨h1, fun i W m H hW hI => AS.mono (h2 i W m H hW hI) fun m' H' q => q.mono fun F m'' H'' q => by cases F <;> exact q, h3⟩) hs)
end Mine
end PartC27
section PartC28
open PySem PySem.W PyProof.Rows PySem.Calls
namespace Mine
variable {c : Cx} {n : Nat} {env : Env} {m : Vm} {H : Hp}
noncomputable def Same (H H' : Hp) (l : List Addr) : Prop := ∀ z d, H z = some d → z ∉ l → H' z = some d
theorem Same.refl {l : List Addr} : Same H H l := fun _ _ e _ => e
theorem Same.set {H' : Hp} {l : List Addr} {a : Addr} {d : Cell} (s : Same H H' l) (h : a ∈ l) : Same H (H'.set a d) l := fun z e hz hl => by
  rw [Hp.set_ne]
  · exact s z e hz hl
  · rintro rfl; exact hl h
theorem Same.new {H' : Hp} {l : List Addr} {a : Addr} {d : Cell} (s : Same H H' l) (h : H' a = none) : Same H (H'.set a d) l := fun z e hz hl => by
  have := s z e hz hl
  rw [Hp.set_ne _ _ (fun q => by rw [q, h] at this; cases this)]; exact this
theorem Same.old {H' : Hp} {l : List Addr} {a : Addr} {d : Cell} (s : Same H H' l) (h : H a = none) : Same H (H'.set a d) l := fun z e hz hl => by
  rw [Hp.set_ne _ _ (fun q => by rw [q, h] at hz; cases hz)]; exact s z e hz hl
theorem Same.del {H' : Hp} {l : List Addr} {a : Addr} (s : Same H H' l) (h : a ∈ l) : Same H (H'.del a) l := fun z e hz hl => by
  rw [Hp.del_ne]
  · exact s z e hz hl
  · rintro rfl; exact hl h
theorem Same.delo {H' : Hp} {l : List Addr} {a : Addr} (s : Same H H' l) (h : H a = none) : Same H (H'.del a) l := fun z e hz hl => by
  rw [Hp.del_ne _ (fun q => by rw [q, h] at hz; cases hz)]; exact s z e hz hl
theorem Same.trans {H' H'' : Hp} {l l' : List Addr} (s : Same H H' l) (t : Same H' H'' l') (h : ∀ a ∈ l', a ∈ l ∨ H a = none) : Same H H'' l := fun z d hz hl => t z d (s z d hz hl) fun q => (h z q).elim hl fun e => by rw [e] at hz; cases hz
theorem Same.less {H' : Hp} (s : Same H H' []) : Less H H' := fun z d e => s z d e (by simp)
theorem Same.of {H' : Hp} (s : Less H H') {l : List Addr} : Same H H' l := fun z d e _ => s z d e
section
variable {r : List Stmt} {Q : Fl → Vm → Hp → Prop}
theorem SX.swap2 {ts : List Expr} {value : Expr} {k : Nat} {x y : Str} {p p' : Pos}
    (h : EV c n env m H value fun W H' => ∃ X Y, W = .tup [X, Y] ∧ ∃ m₁, Upd y Y m m₁ ∧ ∃ m₂, Upd x X m₁ m₂ ∧ SX c n env m₂ H' r Q)
    (hw : swappedStores [.Tuple ts k p'] value env = pure (some [x, y]) := by with_unfolding_all rfl)
    (hs : swapsWithSole [.Tuple ts k p'] value p.line env = pure false := by rfl) (hf : env.func ≠ none := by exact Option.some_ne_none _) : SX c n env m H (.Assign [.Tuple ts k p'] value p :: r) Q :=
  SX.swap hw (h.mono fun W H' ⟨X, Y, e, m₁, u, m₂, u', q⟩ => ⟨[X, Y], e, rfl, m₁, u, m₂, u', q⟩) hs hf
theorem SX.swap3 {ts : List Expr} {value : Expr} {k : Nat} {x y z : Str} {p p' : Pos}
    (h : EV c n env m H value fun W H' => ∃ X Y Z, W = .tup [X, Y, Z] ∧ ∃ m₀, Upd z Z m m₀ ∧ ∃ m₁, Upd y Y m₀ m₁ ∧ ∃ m₂, Upd x X m₁ m₂ ∧ SX c n env m₂ H' r Q)
    (hw : swappedStores [.Tuple ts k p'] value env = pure (some [x, y, z]) := by with_unfolding_all rfl)
    (hs : swapsWithSole [.Tuple ts k p'] value p.line env = pure false := by rfl) (hf : env.func ≠ none := by exact Option.some_ne_none _) : SX c n env m H (.Assign [.Tuple ts k p'] value p :: r) Q :=
  SX.swap hw (h.mono fun W H' ⟨X, Y, Z, e, m₀, v, m₁, u, m₂, u', q⟩ => ⟨[X, Y, Z], e, rfl, m₀, v, m₁, u, m₂, u', q⟩) hs hf
end
theorem EV.is (W : V) {e : Expr} {Q : V → Hp → Prop} (h : EV c n env m H e fun W' H' => W' = W ∧ H' = H) (q : Q W H) : EV c n env m H e Q := h.mono fun W' H' ⟨e1, e2⟩ => by subst e1 e2; exact q
noncomputable def Kp' (P : Vm → Hp → Prop) (Q : Fl → Vm → Hp → Prop) : Fl → Vm → Hp → Prop
  | .next, m, H => P m H
  | F, m, H => Q F m H
theorem Kp'.next {P : Vm → Hp → Prop} {Q : Fl → Vm → Hp → Prop} (h : P m H) : Kp' P Q .next m H := h
theorem Kp'.ret {P : Vm → Hp → Prop} {Q : Fl → Vm → Hp → Prop} {W : V} (h : Q (.ret W) m H) : Kp' P Q (.ret W) m H := h
theorem Kp'.cont {P : Vm → Hp → Prop} {Q : Fl → Vm → Hp → Prop} (h : Q .cont m H) : Kp' P Q .cont m H := h
theorem Kp'.brk {P : Vm → Hp → Prop} {Q : Fl → Vm → Hp → Prop} (h : Q .brk m H) : Kp' P Q .brk m H := h
theorem SX.ifP {t : Expr} {b r : List Stmt} {p : Pos} {Q : Fl → Vm → Hp → Prop} (P : Vm → Hp → Prop) (h : TT c n env m H t fun x H' => if x = true then SX c n env m H' b (Kp' P Q) else P m H')
    (k : ∀ m H, P m H → SX c n env m H r Q) : SX c n env m H (.If t b [] p :: r) Q := SX.if1 (h.mono fun x H' q => by
  cases x with
  | false => rw [if_neg (by decide)] at q ⊢; exact k _ _ q
  | true => rw [if_pos rfl] at q ⊢; exact q.mono fun F m' H'' q => by
              cases F with
              | next => exact k _ _ q
              | brk => exact q
              | cont => exact q
              | ret W => exact q)
theorem cast_hp {Q : V → Hp → Prop} {W : V} {H₁ H₂ : Hp} (h : Q W H₁) (e : H₁ = H₂) : Q W H₂ := e ▸ h
end Mine
end PartC28
section PartC29
open PySem PySem.W PyProof.Rows PySem.Calls
namespace Mine
variable {c : Cx} {n : Nat} {env : Env} {m : Vm} {H : Hp}
theorem AO.nil {Q : Vm → Hp → Prop} (h : Q m H) : AO c n env m H [] [] Q := h
theorem AO.cons {t : Expr} {ts : List Expr} {W : V} {Ws : List V} {Q : Vm → Hp → Prop} (h : AS c n env m H t W fun m' H' => AO c n env m' H' ts Ws Q) : AO c n env m H (t :: ts) (W :: Ws) Q := h
theorem EV.someB {e : Expr} {Q : V → Hp → Prop} (h : EV c n env m H e fun W' H' => (∃ b, W' = .bool b) ∧ H' = H) (q : ∀ b, Q (.bool b) H) : EV c n env m H e Q := h.mono fun W' H' ⟨⟨b, e1⟩, e2⟩ => by subst e1 e2; exact q b
theorem AS.attr {o : Expr} {x : Str} {p : Pos} {W : V} {Q : Vm → Hp → Prop}
    (h : EV c n env m H o fun O H₂ => ∃ X C dx at_ at', O = .ref X ∧ H₂ X = some (.inst C dx) ∧ H₂ dx = some (.ns at_) ∧ AttrPut x W at_ at' ∧ setName c.K C x = true ∧ at_.length ≤ 900 ∧ Q m (H₂.set dx (.ns at'))) : AS c n env m H (.Attribute o x p) W Q := fun A s Z v ro a va r => by
  have base : wpAny (model c.prog c.w) A (eval o env) (fun ov s₂ => wpAny (model c.prog c.w) A (setAttr ov x v) (fun _ s' => PostA c Z env H s Q () s') ff s₂) ff s := h.then ro a va fun vo s₂ O H₂ ro' a₂ v₂ k₂ q₂ => by
    obtain ⟨X, C, dx, at_, at', rfl, hX, hd, u, hn, hz, q⟩ := q₂
    cases ro'
    exact Mine.setattr a₂ (r.mono (k₂.stays fun _ f => f.elim)) hX hd u hn hz fun s' a' k' => ⟨m, _, a', v₂.step a₂ k', (k₂.trans k').no, q⟩
  intro Γ p hΓ
  simp only [PySem.assign_Attribute, Sem.wp_bind', Sem.wp_holding, Sem.wp_cmd_standAt, Sem.wp_release, Sem.wp_pure']
  exact Sem.wp_mono _ Γ _ (fun ov _ s₂ h₂ => h₂ Γ _ hΓ) (fun _ _ _ h' => h') _ _ (base Γ _ hΓ)
end Mine
end PartC29
section PartC30
open PySem PySem.W PyProof.Rows PySem.Calls
namespace Mine
variable {c : Cx} {n : Nat} {env : Env} {m : Vm} {H : Hp}
theorem ST.forE {target iter : Expr} {body : List Stmt} {p : Pos} {Q : Fl → Vm → Hp → Prop}
    (h : IT c n env m H target iter fun Ws H' => ∃ I : Nat → Vm → Hp → Prop, I 0 m H' ∧ (∀ i W m H, Ws[i]? = some W → I i m H → AS c n env m H target W fun m' H' => SX c n env m' H' body fun F m'' H'' => match F with
        | .next => I (i + 1) m'' H'' | .cont => I (i + 1) m'' H'' | .brk => Q .next m'' H'' | .ret W => Q (.ret W) m'' H'') ∧ ∀ m H, I Ws.length m H → Q .next m H)
    (hs : ∀ x, foldedSetIterable iter env x = pure x := by intro _; rfl) : ST c n env m H (.For target iter body [] p) Q := fun A s Z ro a v => by
  refine wpAny_For (wpAny_mono (h A s Z ro a v) (fun x s₁ h₁ => wpAny_mono h₁ (fun it s₂ h₂ => ?_) fun _ _ f => f.elim) fun _ _ f => f.elim) hs
  obtain ⟨Zi, fp, Ws, SR, St, H₂, a₂, k₂, K, sr, st, zi, hfp, I, i0, turn, fin⟩ := h₂
  have own : ∀ b, Own env b → ¬ Zi b := fun b o z => by
    obtain ⟨q, e⟩ := a.zin b (v.own b o); rw [(zi b z).1] at e; cases e
  have cel : ∀ x d, env.cells.lookup x = some d → ¬ Zi d := fun x d o z => by
    obtain ⟨q, e⟩ := a.zin d (v.cin x d o); rw [(zi d z).1] at e; cases e
  have zn : ∀ b, Zi b → ¬ Z b := fun b z y => by
    obtain ⟨q, e⟩ := a.zin b y; rw [(zi b z).1] at e; cases e
  have v₂ := v.hide a k₂ (Zi := Zi) fun b z => (zi b z).1
  let INV : Nat → Shared → Prop := fun k s' => ∃ i m' H', HA c.base (fun b => Z b ∨ Zi b) H' s'.heap ∧ VA c.base (fun b => Z b ∨ Zi b) env m' (Mut (fun b => Z b ∨ Zi b) H') s'.heap ∧ Kp (Own env) H H' s s' ∧ St i s'.heap ∧
    SR s'.heap (Mut (fun b => Z b ∨ Zi b) H') ∧ (∀ b ∈ fp, H' b = none ∧ ∃ o, s'.heap.get? b = some o) ∧ i ≤ Ws.length ∧ k + i = Ws.length ∧ I i m' H'
  refine codeAny_forLoop_any INV ?_ Ws.length ⟨0, m, H₂, a₂, v₂, k₂.no, st, sr, fun b hb => ⟨(hfp b hb).1, (hfp b hb).2.2⟩, Nat.zero_le _, rfl, i0⟩
  rintro k s₃ ⟨i, m₃, H₃, a₃, v₃, k₃, st₃, sr₃, fp₃, hi, hk, i₃⟩
  have own' : ∀ b ∈ fp, ¬ Own env b := fun b hb o => (hfp b hb).2.1.elim (own b o) fun z => z (v.own b o)
  by_cases hlt : i < Ws.length
  · have item := loop_item (Q := fun w s₄ => wpAny (model c.prog c.w) A (assign target env w) (fun _ s₅ => wpAny (model c.prog c.w) A (execs body env) (fun f s₆ => match f with
        | .next => ∃ j, j < k ∧ INV j s₆ | .cont => ∃ j, j < k ∧ INV j s₆ | .brk => PostS c Z env H s Q .next s₆ | .ret w => PostS c Z env H s Q (.ret w) s₆) ff s₅) ff s₄)
        K (W := Ws[i]) ro (by simp [hlt]) a₃ v₃ st₃ sr₃ own cel fun w s₄ a₄ v₄ st₄ sr₄ rw_ kp hg ho => by
      refine wpAny_mono (turn i Ws[i] m₃ H₃ (by simp [hlt]) i₃ A s₄ (fun b => Z b ∨ Zi b) w ro a₄ v₄ rw_) (fun _ s₅ ⟨m₅, H₅, a₅, v₅, k₅, q⟩ => ?_) fun _ _ f => f.elim
      refine wpAny_mono (q A s₅ _ ro a₅ v₅) (fun f s₆ ⟨F, m₆, H₆, fr, a₆, v₆, k₆, q₆⟩ => ?_) fun _ _ f => f.elim
      have k46 := k₅.trans k₆
      have kk : Kp (Own env) H H₆ s s₆ := (k₃.next kp (fun b z => (zi b z).1) hg ho).trans k46
      have st₆ : St (i + 1) s₆.heap := K.frame _ _ _ st₄ fun b hb o e => k46.same b o e (fp₃ b hb).1 (own' b hb)
      have sr₆ := K.mono _ _ _ _ (k46.stays v₄.own) sr₄
      have ex : ∀ b ∈ fp, ∃ o, s₄.heap.get? b = some o := fun b hb => by
        by_cases zb : Zi b
        · exact K.live _ _ b st₄ zb
        · obtain ⟨o, e⟩ := (fp₃ b hb).2; exact ⟨o, kp b o zb e⟩
      have fp₆ : ∀ b ∈ fp, H₆ b = none ∧ ∃ o, s₆.heap.get? b = some o := fun b hb => let ⟨o, e⟩ := ex b hb; ⟨k46.new b o e (fp₃ b hb).1, k46.there b o e⟩
      have back := (show HA c.base Z H₆ s₆.heap from a₆.show)
      have vback : VA c.base Z env m₆ (Mut Z H₆) s₆.heap := v₆.rez Stays.show v.own v.cin
      cases fr with
      | next => exact ⟨k - 1, by lia, i + 1, m₆, H₆, a₆, v₆, kk, st₆, sr₆, fp₆, hlt, by lia, q₆⟩
      | cont => exact ⟨k - 1, by lia, i + 1, m₆, H₆, a₆, v₆, kk, st₆, sr₆, fp₆, hlt, by lia, q₆⟩
      | brk => exact ⟨.next, m₆, H₆, .next, back, vback, kk, q₆⟩
      | ret rv => exact ⟨.ret _, m₆, H₆, .ret (rv.mono Stays.show), back, vback, kk, q₆⟩
    refine wpAny_mono item (fun r s₁ ⟨w, e, q⟩ => ?_) fun _ _ f => f.elim
    subst e
    refine wpAny_mono q (fun _ _ q => wpAny_mono q (fun _ _ q => wpAny_mono q (fun f _ q => ?_) fun _ _ f => f.elim) fun _ _ f => f.elim) fun _ _ f => f.elim
    cases f <;> exact q
  · have e : i = Ws.length := by lia
    subst e
    refine wpAny_mono (K.done A s₃ _ (fun s' => PostS c Z env H s Q .next s') ro.handled st₃ sr₃ fun h' tk kp => ?_) (fun r s₁ ⟨e, q⟩ => ?_) fun _ _ f => f.elim
    · exact ⟨.next, m₃, H₃, .next, a₃.done zn kp, v₃.done v.own v.cin zn kp, k₃.next kp (fun b z => (zi b z).1) rfl rfl, fin m₃ H₃ i₃⟩
    · subst e
      exact wpAny_execs_nil q
theorem SX.forE {target iter : Expr} {body r : List Stmt} {p : Pos} {Q : Fl → Vm → Hp → Prop} (E : Vm → Hp → Prop)
    (h : IT c n env m H target iter fun Ws H' => ∃ I : Nat → Vm → Hp → Prop, I 0 m H' ∧ (∀ i W m H, Ws[i]? = some W → I i m H → AS c n env m H target W fun m' H' => SX c n env m' H' body (Tn (fun m'' H'' => I (i + 1) m'' H'') E Q)) ∧ ∀ m H, I Ws.length m H → E m H)
    (fin : ∀ m H, E m H → SX c n env m H r Q)
    (hs : ∀ x, foldedSetIterable iter env x = pure x := by intro _; rfl) : SX c n env m H (.For target iter body [] p :: r) Q :=
  SX.st (ST.forE (IT.mono h fun Ws H' ⟨I, h1, h2, h3⟩ => ⟨I, h1, fun i W m H hW hI => AS.mono (h2 i W m H hW hI) fun m' H' q => q.mono fun F m'' H'' q => by
    cases F with
    | brk => exact fin _ _ q
    | next => exact q
    | cont => exact q
    | ret W => exact q, fun m H i => fin _ _ (h3 m H i)⟩) hs)
end Mine
end PartC30
section PartC31
open PySem PySem.W PyProof.Rows PySem.Calls
namespace Mine
variable {c : Cx} {n : Nat} {env : Env} {m : Vm} {H : Hp}
theorem FN.defB {o : Obj} {name qual : Str} {params : Arguments} {body : List Stmt} {scope : Scope} {dV kV doc pm cdv ct : Value} {an : Option Addr} {f : Addr} {Ws Ds : List V} {ps rest : List Str} {ds : List Value} {Q : V → Hp → Prop}
    (ho : c.base.get? f = some o) (hod : o.data = .func (fnOf name qual params body scope dV kV doc pm an cdv ct)) (hcd : c.base.CodeRec cdv qual) (hlen : ps.length = (Ws ++ Ds).length) (hds : ∀ h M, Reps h M ds Ds)
    (hbind : ∀ (s : Shared) (vs : List Value), c.K.In s.heap → vs.length = Ws.length → BindsTo s (fnOf name qual params body scope dV kV doc pm an cdv ct) ⟨vs, []⟩ (ps.zip (vs ++ ds)))
    (hok : okNamesC scope ps rest = true) (hco : scope.isCoroutine = false) (hgen : scope.isGenerator = false) (hk : scope.kind = .function)
    (h : ∀ L, SX c n (envX qual scope L f cdv (cellsFrom (L + 1) scope.names [])) (frame ps (Ws ++ Ds) rest) H body fun F _ H' => match F with | .ret W => Q W H' | .next => Q .none H' | _ => False) : FN c (n + 1) (.ref f) Ws H Q := fun A s Z vs ro a r => by
  have hok' := Bool.and_eq_true_iff.mp hok
  have nd : (ps ++ rest).Nodup := of_decide_eq_true hok'.1
  have all : ∀ x ∈ ps ++ rest, (scope.names.lookup x = some .local ∨ (scope.names.lookup x = some .cell ∧ ((cellsFrom 0 scope.names []).lookup x).isSome = true)) ∧ (x == ("__debug__" : Str)) = false ∧ (x == ("__classdict__" : Str)) = false := fun x hx => by
    have := List.all_eq_true.mp hok'.2 x hx
    simp only [Bool.and_eq_true, Bool.or_eq_true, beq_iff_eq, bne_iff_ne, ne_eq] at this
    exact ⟨this.1.1, by simpa using this.1.2, by simpa using this.2⟩
  have up : ∀ k x, ((cellsFrom 0 scope.names []).lookup x).isSome = true → ((cellsFrom k scope.names []).lookup x).isSome = true := fun k x e => lookup_some_of_names (cellsFrom_names scope.names 0 k [] [] rfl) e
  have rr : Reps s.heap (Mut Z H) (vs ++ ds) (Ws ++ Ds) := r.append (hds _ _)
  have hlen' : ps.length = (vs ++ ds).length := by rw [hlen, rr.1]
  refine codeAny_call_function (fd := fnOf name qual params body scope dV kV doc pm an cdv ct) (body := body) (by have := ro.depth; lia) (a.keep _ _ ho) hod hco hgen rfl (let ⟨x1, x2, x3, x4, x5, x6, x7⟩ := hcd; ⟨x1, x2, x3, x4, x5, a.keep _ _ x6, x7⟩) (hbind s vs (fr_base c a) r.1 _ _ _ _ ?_)
  refine wpAny_newFunctionEnv_cells hk (fun x hx => ?_) fun env he s₁ X => ?_
  · have := all x.1 (List.mem_append_left _ (List.of_mem_zip (show (x.1, x.2) ∈ ps.zip (vs ++ ds) from hx)).1)
    exact this.1.imp id fun q => ⟨q.1, up _ _ q.2⟩
  subst he
  obtain ⟨h₁, tk, rfl, _⟩ := X.done
  have hk₁ := X.toInCall.keep
  refine ⟨c.lim.keeps fun b o e => hk₁ b o (a.keep b o e), codeAny_func ?_⟩
  let L := s.heap.objs.size
  let E : Env := envX qual scope L f cdv (cellsFrom (L + 1) scope.names [])
  show wpAny _ (A.deeper E) (execs body E) _ _ _
  let Zi : Addr → Prop := fun b => b = L ∨ ∃ x, E.cells.lookup x = some b
  have fz : ∀ b, Zi b → s.heap.get? b = none := fun b z => by
    rcases z with z | ⟨x, z⟩
    · rw [z]; exact size_free (Nat.le_refl _)
    · exact size_free (Nat.le_of_lt (X.above x b (mem_of_lookup z)))
  have a₁ : HA c.base (fun b => Z b ∨ Zi b) H h₁ := a.hideNew hk₁ fz fun b z => by
    rcases z with z | ⟨x, z⟩
    · rw [z]; obtain ⟨o, _, _, e, _⟩ := X.toInCall.ns; exact ⟨o, e⟩
    · obtain ⟨o, e, _⟩ := X.cell x b z; exact ⟨o, e⟩
  have st : Stays s.heap h₁ (Mut Z H) (Mut (fun b => Z b ∨ Zi b) H) := stays_hide (base := c.base) hk₁ fz
  have memf : ∀ x W, (x, W) ∈ frame ps (Ws ++ Ds) rest → x ∈ ps ++ rest := fun x W hx => by
    rw [← frame_keys (Ws := Ws ++ Ds) (rest := rest) hlen]; exact List.mem_map.mpr ⟨_, hx, rfl⟩
  have ndz : ((ps.zip (vs ++ ds)).map (·.1)).Nodup := by rw [zip_fst _ _ hlen']; exact (List.nodup_append.mp nd).1
  have v₁ : VA c.base (fun b => Z b ∨ Zi b) E (frame ps (Ws ++ Ds) rest) (Mut (fun b => Z b ∨ Zi b) H) h₁ := {
    kind := hk, glob := rfl, bi := rfl, ns := ⟨_, X.toInCall.ns⟩
    nodup := by rw [frame_keys hlen]; exact nd
    dom := fun x W hx => (all x (memf x W hx)).1.imp id fun ⟨q, e⟩ => ⟨.inl q, by
      obtain ⟨d, e⟩ := Option.isSome_iff_exists.mp (up (L + 1) x e)
      exact ⟨d, _, e, X.cell x d e⟩⟩
    var := fun x W hx => by
      rcases List.mem_append.mp hx with hx' | hx'
      · obtain ⟨v, e, rv⟩ := mem_zip rr hx'
        refine ⟨v, rv.mono st, ?_⟩
        rcases (all x (memf x _ hx)).1 with q | ⟨q, e'⟩
        · exact .inl ⟨q, _, X.toInCall.ns, bindL_at q ndz e⟩
        · obtain ⟨d, e'⟩ := Option.isSome_iff_exists.mp (up (L + 1) x e')
          have this : h₁.IsCell d (bindC E.kindOf (ps.zip (vs ++ ds)) (fun _ => none) x) := X.cell x d e'
          rw [bindC_at (k := E.kindOf) (show E.kindOf x ≠ some .local by rw [show E.kindOf x = scope.names.lookup x from rfl, q]; intro z; cases z) ndz e] at this
          exact .inr ⟨.inl q, d, e', this⟩
      · obtain ⟨y, _, e⟩ := List.mem_map.mp hx'
        cases e
    own := fun b z => by
      rcases z with z | ⟨_, x, _, z⟩
      · exact .inr (.inl z)
      · exact .inr (.inr ⟨x, z⟩)
    fresh := fun b z => by
      refine (a.free (fz b ?_)).2.2
      rcases z with z | ⟨_, x, _, z⟩
      · exact .inl z
      · exact .inr ⟨x, z⟩
    cin := fun x d e => .inr (.inr ⟨x, e⟩)
    inj := fun x y d e e' => same_of_apart X.apart (mem_of_lookup e) (mem_of_lookup e')
    dbg := fun x W hx => (all x (memf x W hx)).2.1
    cls := fun x W hx => (all x (memf x W hx)).2.2
    sto := fun x W hx _ q => by
      rw [show E.kindOf x = scope.names.lookup x from rfl] at q
      rcases (all x (memf x W hx)).1 with e | ⟨e, _⟩ <;> rw [e] at q <;> cases q }
  have ro' : Room (A.deeper E) n := ⟨ro.handled, by have := ro.depth; show A.depth + 1 + 10 * n < _; lia, by have := ro.units; show A.units + 3 + 100 * n < _; lia⟩
  refine wpAny_mono (h L _ { s with heap := h₁, toks := tk } _ ro' a₁ v₁) (fun fl s' p => ?_) fun _ _ f => f.elim
  obtain ⟨F, m', H', fr, a', v', k', q⟩ := p
  have back : ∀ v W, Rep s'.heap (Mut (fun b => Z b ∨ Zi b) H') v W → Q W H' → Post c Z H s Q v s' := fun v W rv q => by
    refine ⟨W, H', rv.mono Stays.show, a'.show, ⟨fun b o e z _ => ?_, fun b o e z => k'.new b o (hk₁ b o e) z, fun b o e => k'.there b o (hk₁ b o e), k'.gens, k'.os⟩, q⟩
    refine k'.same b o (hk₁ b o e) z fun y => ?_
    have : Zi b := by
      rcases y with y | ⟨_, x, _, y⟩
      · exact .inl y
      · exact .inr ⟨x, y⟩
    rw [fz b this] at e; cases e
  cases fr with
  | next => exact ⟨.none, rfl, back _ _ .none q⟩
  | brk => exact q.elim
  | cont => exact q.elim
  | ret rv => exact ⟨_, rfl, back _ _ rv q⟩
theorem FN.defCm {oc : Value} {od : Option Addr} {osl : Array (Option Value)} {name qual : Str} {params : Arguments} {body : List Stmt} {scope : Scope} {dV kV doc pm cdv ct : Value} {an : Option Addr} {f : Addr} {Ws : List V} {Q : V → Hp → Prop}
    (ho : c.K.lookup f = some ⟨oc, od, .func (fnOf name qual params body scope dV kV doc pm an cdv ct), osl⟩) (ps rest : List Str) (m : Vm) (hcd : codeIn c.K cdv qual = true) (hlen : ps.length = Ws.length) (hm : frame ps Ws rest = m)
    (hbind : ∀ (vs : List Value), vs.length = Ws.length → bindArgs (fnOf name qual params body scope dV kV doc pm an cdv ct) ⟨vs, []⟩ = pure (ps.zip vs))
    (hok : okNamesC scope ps rest = true) (hco : scope.isCoroutine = false) (hgen : scope.isGenerator = false) (hk : scope.kind = .function)
    (h : ∀ L, SX c n (envX qual scope L f cdv (cellsFrom (L + 1) scope.names [])) m H body (Rt Q)) : FN c (n + 1) (.ref f) Ws H Q :=
  FN.defC (Ds := []) (ds := []) ho hcd (by simpa using hlen) (fun _ _ => Reps.nil) (fun s vs _ hv => by simpa using BindsTo.of_eq (hbind vs hv)) hok hco hgen hk (by subst hm; intro L; rw [List.append_nil]; exact (h L).mono fun F m' H' q => by cases F <;> exact q)
theorem FN.defBm {o : Obj} {name qual : Str} {params : Arguments} {body : List Stmt} {scope : Scope} {dV kV doc pm cdv ct : Value} {an : Option Addr} {f : Addr} {Ws : List V} {Q : V → Hp → Prop}
    (ho : c.base.get? f = some o) (hod : o.data = .func (fnOf name qual params body scope dV kV doc pm an cdv ct)) (ps rest : List Str) (m : Vm) (hcd : c.base.CodeRec cdv qual) (hlen : ps.length = Ws.length) (hm : frame ps Ws rest = m)
    (hbind : ∀ (vs : List Value), vs.length = Ws.length → bindArgs (fnOf name qual params body scope dV kV doc pm an cdv ct) ⟨vs, []⟩ = pure (ps.zip vs))
    (hok : okNamesC scope ps rest = true) (hco : scope.isCoroutine = false) (hgen : scope.isGenerator = false) (hk : scope.kind = .function)
    (h : ∀ L, SX c n (envX qual scope L f cdv (cellsFrom (L + 1) scope.names [])) m H body (Rt Q)) : FN c (n + 1) (.ref f) Ws H Q :=
  FN.defB (Ds := []) (ds := []) ho hod hcd (by simpa using hlen) (fun _ _ => Reps.nil) (fun s vs _ hv => by simpa using BindsTo.of_eq (hbind vs hv)) hok hco hgen hk (by subst hm; intro L; rw [List.append_nil]; exact (h L).mono fun F m' H' q => by cases F <;> exact q)
theorem CompOK.of {scope : Scope} {cl : List (Str × Addr)} {mc : Vm} (clos : closureFor scope env = pure cl) (cell : scope.names.all (fun y => y.2 != .cell) = true) (kind : scope.kind = .function)
    (names : scope.names.all (fun z => z.2 != .local || scope.names.lookup z.1 == some .local) = true) (sub : ∀ q ∈ cl, env.cells.lookup q.1 = some q.2) (nodup : (mc.map (·.1)).Nodup) (caps : Caps env scope cl m mc) : CompOK env scope cl m mc where
  clos := clos
  cell := fun y hy => by
    have := List.all_eq_true.mp cell y hy
    simpa using this
  kind := kind
  names := fun z hz e => by
    have := List.all_eq_true.mp names z hz
    rw [e] at this
    simpa using this
  sub := fun x d e => sub (x, d) (mem_of_lookup e)
  nodup := nodup
  caps := caps
end Mine
end PartC31
section PartC32
open PySem PySem.W PyProof.Rows PySem.Calls
namespace Mine
inductive E1 {a0 : Type} (p : a0 → Prop) : Prop
  | intro (x0 : a0) (h : p x0) : E1 p
inductive E2 {a0 : Type} {a1 : Type} (p : a0 → a1 → Prop) : Prop
  | intro (x0 : a0) (x1 : a1) (h : p x0 x1) : E2 p
inductive E3 {a0 : Type} {a1 : Type} {a2 : Type} (p : a0 → a1 → a2 → Prop) : Prop
  | intro (x0 : a0) (x1 : a1) (x2 : a2) (h : p x0 x1 x2) : E3 p
inductive E4 {a0 : Type} {a1 : Type} {a2 : Type} {a3 : Type} (p : a0 → a1 → a2 → a3 → Prop) : Prop
  | intro (x0 : a0) (x1 : a1) (x2 : a2) (x3 : a3) (h : p x0 x1 x2 x3) : E4 p
inductive E5 {a0 : Type} {a1 : Type} {a2 : Type} {a3 : Type} {a4 : Type} (p : a0 → a1 → a2 → a3 → a4 → Prop) : Prop
  | intro (x0 : a0) (x1 : a1) (x2 : a2) (x3 : a3) (x4 : a4) (h : p x0 x1 x2 x3 x4) : E5 p
inductive E6 {a0 : Type} {a1 : Type} {a2 : Type} {a3 : Type} {a4 : Type} {a5 : Type} (p : a0 → a1 → a2 → a3 → a4 → a5 → Prop) : Prop
  | intro (x0 : a0) (x1 : a1) (x2 : a2) (x3 : a3) (x4 : a4) (x5 : a5) (h : p x0 x1 x2 x3 x4 x5) : E6 p
inductive E7 {a0 : Type} {a1 : Type} {a2 : Type} {a3 : Type} {a4 : Type} {a5 : Type} {a6 : Type} (p : a0 → a1 → a2 → a3 → a4 → a5 → a6 → Prop) : Prop
  | intro (x0 : a0) (x1 : a1) (x2 : a2) (x3 : a3) (x4 : a4) (x5 : a5) (x6 : a6) (h : p x0 x1 x2 x3 x4 x5 x6) : E7 p
inductive E8 {a0 : Type} {a1 : Type} {a2 : Type} {a3 : Type} {a4 : Type} {a5 : Type} {a6 : Type} {a7 : Type} (p : a0 → a1 → a2 → a3 → a4 → a5 → a6 → a7 → Prop) : Prop
  | intro (x0 : a0) (x1 : a1) (x2 : a2) (x3 : a3) (x4 : a4) (x5 : a5) (x6 : a6) (x7 : a7) (h : p x0 x1 x2 x3 x4 x5 x6 x7) : E8 p
inductive E12 {a0 : Type} {a1 : Type} {a2 : Type} {a3 : Type} {a4 : Type} {a5 : Type} {a6 : Type} {a7 : Type} {a8 : Type} {a9 : Type} {a10 : Type} {a11 : Type} (p : a0 → a1 → a2 → a3 → a4 → a5 → a6 → a7 → a8 → a9 → a10 → a11 → Prop) : Prop
  | intro (x0 : a0) (x1 : a1) (x2 : a2) (x3 : a3) (x4 : a4) (x5 : a5) (x6 : a6) (x7 : a7) (x8 : a8) (x9 : a9) (x10 : a10) (x11 : a11) (h : p x0 x1 x2 x3 x4 x5 x6 x7 x8 x9 x10 x11) : E12 p
structure A2 (p0 p1 : Prop) : Prop where
  h0 : p0
  h1 : p1
structure A3 (p0 p1 p2 : Prop) : Prop where
  h0 : p0
  h1 : p1
  h2 : p2
structure A4 (p0 p1 p2 p3 : Prop) : Prop where
  h0 : p0
  h1 : p1
  h2 : p2
  h3 : p3
structure A5 (p0 p1 p2 p3 p4 : Prop) : Prop where
  h0 : p0
  h1 : p1
  h2 : p2
  h3 : p3
  h4 : p4
structure A6 (p0 p1 p2 p3 p4 p5 : Prop) : Prop where
  h0 : p0
  h1 : p1
  h2 : p2
  h3 : p3
  h4 : p4
  h5 : p5
structure A7 (p0 p1 p2 p3 p4 p5 p6 : Prop) : Prop where
  h0 : p0
  h1 : p1
  h2 : p2
  h3 : p3
  h4 : p4
  h5 : p5
  h6 : p6
structure A8 (p0 p1 p2 p3 p4 p5 p6 p7 : Prop) : Prop where
  h0 : p0
  h1 : p1
  h2 : p2
  h3 : p3
  h4 : p4
  h5 : p5
  h6 : p6
  h7 : p7
structure A9 (p0 p1 p2 p3 p4 p5 p6 p7 p8 : Prop) : Prop where
  h0 : p0
  h1 : p1
  h2 : p2
  h3 : p3
  h4 : p4
  h5 : p5
  h6 : p6
  h7 : p7
  h8 : p8
structure A13 (p0 p1 p2 p3 p4 p5 p6 p7 p8 p9 p10 p11 p12 : Prop) : Prop where
  h0 : p0
  h1 : p1
  h2 : p2
  h3 : p3
  h4 : p4
  h5 : p5
  h6 : p6
  h7 : p7
  h8 : p8
  h9 : p9
  h10 : p10
  h11 : p11
  h12 : p12
structure A19 (p0 p1 p2 p3 p4 p5 p6 p7 p8 p9 p10 p11 p12 p13 p14 p15 p16 p17 p18 : Prop) : Prop where
  h0 : p0
  h1 : p1
  h2 : p2
  h3 : p3
  h4 : p4
  h5 : p5
  h6 : p6
  h7 : p7
  h8 : p8
  h9 : p9
  h10 : p10
  h11 : p11
  h12 : p12
  h13 : p13
  h14 : p14
  h15 : p15
  h16 : p16
  h17 : p17
  h18 : p18
end Mine
end PartC32
section PartW
open PySem PySem.W PyProof.Rows PySem.Calls
namespace Mine
variable {c : Cx} {n : Nat} {env : Env} {m : Vm} {H : Hp}
set_option maxRecDepth 100000
local macro_rules | `(tactic| walk_at "oo") => `(tactic| exact own_of fun _ => (by kernel_rfl))
local macro_rules | `(tactic| walk_at "ss") => `(tactic| exact set_of fun _ => (by kernel_rfl))
local macro_rules | `(tactic| walk_at "ne") => `(tactic| first | assumption | exact Ne.symm (by assumption) | exact Hp.apart (by assumption) (by assumption) | exact Ne.symm (Hp.apart (by assumption) (by assumption)))
local macro_rules | `(tactic| walk_at "hn") => `(tactic| with_reducible first | assumption | exact Hp.del_same _ _ | (refine Hp.noS ?_ (by walk_at "ne"); walk_at "hn") | (refine Hp.noD ?_; walk_at "hn"))
local macro_rules | `(tactic| walk_at "hp") => `(tactic| with_reducible first | assumption | exact Hp.set_same _ _ _ | (refine Hp.setN ?_ (by walk_at "hn"); walk_at "hp") | (refine Hp.setD ?_ (by walk_at "ne"); walk_at "hp") | (refine Hp.delD ?_ (by walk_at "ne"); walk_at "hp"))
local macro_rules | `(tactic| walk_at "iso") => `(tactic| with_reducible first | exact IsO.fr | assumption | exact IsO.own (by walk_at "hp") (by walk_at "hp"))
local macro_rules | `(tactic| walk_at "isl") => `(tactic| with_reducible first | exact IsL.fr | assumption | exact IsL.own (by walk_at "hp"))
local macro_rules | `(tactic| walk_at "add") => `(tactic| with_reducible first | exact AddH.nil | (apply AddH.cons; walk_at "add"))
local macro_rules | `(tactic| walk_at "updh") => `(tactic| with_reducible first | exact UpdH.hit | (apply UpdH.miss; walk_at "updh"))
local macro_rules | `(tactic| walk_at "updg") => `(tactic| with_reducible first | exact UpdG.hit | (apply UpdG.miss; walk_at "updg"))
local macro_rules | `(tactic| walk_at "notin") => `(tactic| (simp only [List.map_cons, List.map_nil]; decide))
local macro_rules | `(tactic| walk_at "put") => `(tactic| first | exact Or.inl (by walk_at "updh") | exact Or.inr ⟨by walk_at "notin", AddH.eq (by walk_at "add")⟩)
local macro_rules | `(tactic| walk_at "less") => `(tactic| with_reducible first | exact Less.refl | assumption | (refine Less.set ?_; walk_at "less") | (refine Less.skip ?_ (by walk_at "hn"); walk_at "less") | (refine Less.out ?_ (by walk_at "hn"); walk_at "less"))
local macro_rules | `(tactic| walk_at "mem") => `(tactic| with_reducible first | exact List.mem_cons_self | (refine List.mem_cons_of_mem _ ?_; walk_at "mem"))
local macro_rules | `(tactic| walk_at "upd") => `(tactic| with_reducible first | exact Upd.hit | (apply Upd.miss; walk_at "upd"))
local macro_rules | `(tactic| walk_at "w") => `(tactic| first
  | (with_reducible show EV _ _ _ _ _ _ _); first
    | with_reducible first | refine EV.cInt ?_ | refine EV.loc (by walk_at "mem") ?_ | refine EV.bin ?_ | refine EV.sub ?_ | refine EV.attr ?_ | refine EV.tuple ?_ | refine EV.cBool ?_ | refine EV.cNone ?_ | refine name_PLAIN ?_ | refine name_NO_COLOUR ?_ | refine name_BACK ?_ | refine name_SINGLE ?_ | refine EV.cmp ?_ | refine EV.cmp2 ?_ | refine EV.notb ?_ | refine EV.neg ?_ | refine EV.ifexp ?_ | refine EV.boolop ?_
    | ((with_reducible show EV _ _ _ _ _ (Expr.Call (Expr.Attribute _ _ _) _ _ _) _); first | refine EV.append ?_ | refine EV.extend ?_)
  | with_reducible first | refine ES.cons ?_ | refine ES.nil ?_ | refine AO.nil ?_ | refine AO.cons ?_ | refine SX.nil ?_ | refine SX.ret ?_ | refine SX.if1 ?_ | refine SX.ite ?_ | refine SX.asg ?_ | refine SX.setattr ?_ | refine SX.expr ?_ | refine BOP.add ?_ | refine BOP.sub ?_ | refine TT.cmp ?_ | refine TT.cmp2 ?_ | refine TT.all ?_ | refine TT.tnot ?_ | refine TT.val ?_ | refine Rt.ret ?_ | refine Rt.next ?_ | refine CMP.lt ?_ | refine CMP.le ?_ | refine CMP.gt ?_ | refine CMP.ge ?_ | refine CMP.eq ?_ | refine CMP.ne ?_ | refine CMP.isNone ?_ | refine CMP.isNotNone ?_ | refine TA.and ?_ | refine TA.or ?_ | refine TA.andNil ?_ | refine TA.orNil ?_ | refine EB.and ?_ | refine EB.or ?_ | refine EB.one ?_ | refine Kn.next ?_ | refine Kn.ret ?_ | refine Tn.next ?_ | refine Kp'.next ?_
  | ((with_reducible show ∃ at_, IsO _ _ _ at_ ∧ _); refine ⟨_, by walk_at "iso", by walk_at "notin", ?_⟩)
  | ((with_reducible show ∃ a vs₀, V.ref _ = V.ref a ∧ _); refine ⟨_, _, rfl, by walk_at "hp", ?_⟩)
  | ((with_reducible show ∃ m', Upd _ _ _ m' ∧ _); refine ⟨_, by walk_at "upd", ?_⟩)
  | ((with_reducible show AS _ _ _ _ _ (Expr.Name _ _) _ _); refine AS.name (by walk_at "upd") ?_ (.inl (by exact Option.some_ne_none _)))
  | ((with_reducible show AS _ _ _ _ _ (Expr.Tuple _ _ _) (V.tup _) _); refine AS.tuple (.inl rfl) rfl ?_)
  | ((with_reducible show ∃ b, V.bool _ = V.bool b ∧ _); refine ⟨_, rfl, ?_⟩)
  | ((with_reducible show ∃ b, V.int _ = V.int b ∧ _); refine ⟨_, rfl, ?_⟩)
  | ((with_reducible show ∃ W, SubAt _ (V.tup _) _ W ∧ _); refine ⟨_, SubAt.tup (by decide) (by decide) rfl, ?_⟩)
  | ((with_reducible show ∃ C at_ X, IsO _ _ C at_ ∧ _); refine ⟨_, _, _, by walk_at "iso", by walk_at "mem", by walk_at "oo", ?_⟩)
  | ((with_reducible show ∃ X C dx at_ at', V.ref _ = V.ref X ∧ _); refine ⟨_, _, _, _, _, rfl, by walk_at "hp", by walk_at "hp", by walk_at "put", by walk_at "ss", by simp only [List.length_cons, List.length_nil]; decide, ?_⟩))
local macro_rules | `(tactic| walk_at "ww") => `(tactic| repeat' walk_at "w")
section PartW1
inductive Cl where
  | blank
  | sign (k w : Int)
  | right
noncomputable def Cl.wid : Cl → Int
  | .blank => 1
  | .sign _ w => w
  | .right => 0
noncomputable def Cl.txtD : Cl → PyData
  | .sign k _ => .tuple [.int k]
  | _ => .tuple []
noncomputable abbrev Cl.txt (c : Cl) : V := ofD c.txtD
noncomputable abbrev cellV (c : Cl) : V := .tup [c.txt, .int c.wid, penV, .bool false]
noncomputable abbrev cellD (c : Cl) : PyData := .tuple [c.txtD, .int c.wid, .tuple [.int 0, .int (-1), .int (-1), .int (-1), .int 0], .bool false]
theorem cell_of (c : Cl) : cellV c = ofD (cellD c) := rfl
theorem cell_shaped (c : Cl) : SeqAt.shaped (cellD c) = true := by cases c <;> rfl
theorem txt_shaped (c : Cl) : SeqAt.shaped c.txtD = true := by cases c <;> rfl
noncomputable def Cl.isB : Cl → Bool
  | .blank => true
  | _ => false
noncomputable def Cl.noT : Cl → Bool
  | .sign _ _ => false
  | _ => true
theorem txt_eqv (c : Cl) : PyData.eqv c.txtD (.tuple []) = c.noT := by cases c <;> rfl
theorem isB_of (c : Cl) : c.isB = (c.noT && decide (c.wid = 1)) := by cases c <;> rfl
theorem cell_eqv (c : Cl) : PyData.eqv (cellD c) (cellD .blank) = c.isB := by cases c <;> simp [PyData.eqv, PyData.eqvAll, Cl.txtD, Cl.wid, Cl.isB]
theorem f_erased {Q : V → Hp → Prop} (h : Q penV H) : FN c 1 (.ref 29) [penV] H Q := by
  refine FN.defm (by rw [c.hK]; exact rfl) [Str.ofString "pen"] [] [(Str.ofString "pen", some (penV))] (by rw [c.hK]; kernel_rfl) rfl rfl (fun vs hv => by rcases vs with _ | ⟨a0, _ | ⟨q, r⟩⟩ <;> first | rfl | (simp at hv; done)) (by kernel_rfl) (by kernel_rfl) rfl rfl rfl fun L => ?_
  walk_at "ww"
  exact h
theorem f_blank {Q : V → Hp → Prop} (h : Q (cellV .blank) H) : FN c 2 (.ref 36) [penV] H Q := by
  refine FN.defm (by rw [c.hK]; exact rfl) [Str.ofString "pen"] [] [(Str.ofString "pen", some (penV))] (by rw [c.hK]; kernel_rfl) rfl rfl (fun vs hv => by rcases vs with _ | ⟨a0, _ | ⟨q, r⟩⟩ <;> first | rfl | (simp at hv; done)) (by kernel_rfl) (by kernel_rfl) rfl rfl rfl fun L => ?_
  walk_at "ww"
  refine call_erased_pen ?_
  walk_at "ww"
  refine ((f_erased ?_).le (by decide)).cl
  walk_at "ww"
  exact h
theorem f_is_blank {k : Cl} {Q : V → Hp → Prop} (h : Q (.bool k.isB) H) : FN c 2 (.ref 43) [cellV k] H Q := by
  rw [isB_of, ← txt_eqv] at h
  refine FN.defm (by rw [c.hK]; exact rfl) [Str.ofString "cell"] [] [(Str.ofString "cell", some (cellV k))] (by rw [c.hK]; kernel_rfl) rfl rfl (fun vs hv => by rcases vs with _ | ⟨a0, _ | ⟨q, r⟩⟩ <;> first | rfl | (simp at hv; done)) (by kernel_rfl) (by kernel_rfl) rfl rfl rfl fun L => ?_
  walk_at "ww"
  refine CMP.eqd (da := k.txtD) (db := .tuple []) rfl rfl (txt_shaped k) rfl ?_
  refine ⟨_, rfl, ?_⟩
  refine ifb (fun e => ?_) fun e => ?_
  · rw [e] at h
    walk_at "ww"
    exact h
  · rw [e] at h
    walk_at "ww"
    exact h
theorem f_is_plain_blank {k : Cl} {Q : V → Hp → Prop} (h : Q (.bool k.isB) H) : FN c 2 (.ref 50) [cellV k] H Q := by
  rw [← cell_eqv] at h
  refine FN.defm (by rw [c.hK]; exact rfl) [Str.ofString "cell"] [] [(Str.ofString "cell", some (cellV k))] (by rw [c.hK]; kernel_rfl) rfl rfl (fun vs hv => by rcases vs with _ | ⟨a0, _ | ⟨q, r⟩⟩ <;> first | rfl | (simp at hv; done)) (by kernel_rfl) (by kernel_rfl) rfl rfl rfl fun L => ?_
  walk_at "ww"
  refine CMP.eqd (cell_of k) (cell_of .blank) (cell_shaped k) (cell_shaped .blank) ?_
  walk_at "ww"
  exact h
end PartW1
section PartW2
theorem f_line_blanks {k : Int} {Q : V → Hp → Prop} (h : ∀ a, H a = none → Q (.ref a) (H.set a (.list (List.replicate k.toNat (cellV .blank))))) (hk : 0 ≤ k) (hk' : k ≤ 1000) : FN c 3 (.ref 58) [.int k, penV] H Q := by
  refine FN.forget ?_
  refine FN.defm (by rw [c.hK]; exact rfl) [Str.ofString "many", Str.ofString "pen"] [] [(Str.ofString "many", some (.int k)), (Str.ofString "pen", some (penV))] (by rw [c.hK]; kernel_rfl) rfl rfl (fun vs hv => by rcases vs with _ | ⟨a0, _ | ⟨a1, _ | ⟨q, r⟩⟩⟩ <;> first | rfl | (simp at hv; done)) (by kernel_rfl) (by kernel_rfl) rfl rfl rfl fun L => ?_
  walk_at "ww"
  refine EV.list ?_
  walk_at "ww"
  refine call_blank_cell ?_
  walk_at "ww"
  refine ((f_blank ?_).le (by decide)).cl
  walk_at "ww"
  intro b hb
  refine call_max ?_
  walk_at "ww"
  refine CL.max ?_
  walk_at "ww"
  have e : max 0 k = k := by lia
  rw [e]
  refine BOP.rep (by walk_at "hp") (by lia) (by lia) fun a ha => ?_
  walk_at "ww"
  refine ⟨H.set a (.list (List.replicate k.toNat (cellV .blank))), ?_, h a (Hp.newNo ha)⟩
  have := Hp.newNe ha
  walk_at "less"
theorem cells_ofDs (cs : List Cl) : cs.map cellV = ofDs (cs.map cellD) := by
  induction cs with
  | nil => rfl
  | cons a r ih => simp only [List.map_cons, ofDs]; rw [ih, cell_of]
theorem cells_of (cs : List Cl) : V.lst (cs.map cellV) = ofD (.list (cs.map cellD)) := by rw [cells_ofDs]; rfl
theorem cells_lay (cs : List Cl) : PyData.canLayAll0 (cs.map cellD) = true := by
  induction cs with
  | nil => rfl
  | cons a r ih =>
    simp only [List.map_cons, PyData.canLayAll0, ih, Bool.and_true]
    exact SeqAt.canLay_of_shaped (cell_shaped a)
theorem cells_depth (cs : List Cl) : PyData.depthAll (cs.map cellD) ≤ 3 := by
  induction cs with
  | nil => simp [PyData.depthAll]
  | cons a r ih =>
    simp only [List.map_cons, PyData.depthAll]
    have : PyData.depth (cellD a) ≤ 3 := by cases a <;> simp [PyData.depth, PyData.depthAll, Cl.txtD]
    lia
theorem cells_shaped (cs : List Cl) : SeqAt.shaped (.list (cs.map cellD)) = true := by
  unfold SeqAt.shaped
  have h1 := cells_lay cs
  have h2 := cells_depth cs
  rw [Bool.and_eq_true]
  refine ⟨by simpa [PyData.canLay0] using h1, decide_eq_true ?_⟩
  simp only [PyData.depth]; lia
theorem cells_eqv (cs : List Cl) : PyData.eqv (.list (cs.map cellD)) (.list []) = cs.isEmpty := by cases cs <;> simp [PyData.eqv, PyData.eqvAll]
theorem cell_at (cs : List Cl) {i : Nat} {k : Cl} (h : cs[i]? = some k) : (cs.map cellV)[i]? = some (cellV k) := by rw [List.getElem?_map, h]; rfl
theorem f_line_slice {W : V} {cs : List Cl} {Q : V → Hp → Prop} (hl : IsL H W (cs.map cellV)) (hz : cs.length ≤ 1000) (h0 : ∀ k, cs[0]? = some k → k.wid ≠ 0) (h1 : ∀ k, cs.getLast? = some k → k.wid ≠ 2) (h : Q (.lst (cs.map cellV)) H) : FN c 3 (.ref 79) [W, .int 0, .int ((cs.length : Int) - 1)] H Q := by
  refine FN.defm (by rw [c.hK]; exact rfl) [Str.ofString "cells", Str.ofString "left", Str.ofString "right"] [Str.ofString "found"] [(Str.ofString "cells", some (W)), (Str.ofString "left", some (.int 0)), (Str.ofString "right", some (.int ((cs.length : Int) - 1))), (Str.ofString "found", none)] (by rw [c.hK]; kernel_rfl) rfl rfl (fun vs hv => by rcases vs with _ | ⟨a0, _ | ⟨a1, _ | ⟨a2, _ | ⟨q, r⟩⟩⟩⟩ <;> first | rfl | (simp at hv; done)) (by kernel_rfl) (by kernel_rfl) rfl rfl rfl fun L => ?_
  refine SX.asg ?_
  refine EV.forget ?_
  refine EV.freeze ?_
  refine call_list ?_
  walk_at "w"
  refine EV.slice ?_
  walk_at "w"
  show EV _ _ _ _ _ _ _
  refine call_max ?_
  walk_at "ww"
  refine CL.max ?_
  refine ⟨_, rfl, ?_⟩
  show EV _ _ _ _ _ _ _
  refine call_max ?_
  walk_at "ww"
  refine CL.max ?_
  refine ⟨_, rfl, ?_⟩
  refine ⟨cs.map cellV, hl, by simp; lia, fun a ha => ?_⟩
  have e : pick (cs.map cellV) (some (max 0 0)) (some (max 0 ((cs.length : Int) - 1 + 1))) = cs.map cellV := by
    unfold pick kms_lo kms_hi
    simp only [List.length_map]
    rw [if_neg (by lia), if_neg (by lia)]
    rw [show min ((max 0 0 : Int)).toNat cs.length = 0 by lia, show min (max 0 ((cs.length : Int) - 1 + 1)).toNat cs.length = cs.length by lia]
    simp [List.take_of_length_le]
  rw [e]
  walk_at "ww"
  refine CL.listOf (vs := cs.map cellV) (by walk_at "isl") (by simp; lia) fun b hb => ?_
  refine ⟨b, _, rfl, Hp.set_same .., ?_⟩
  rw [Hp.setBack hb]
  refine ⟨H, by walk_at "less", ?_⟩
  refine ⟨_, by walk_at "upd", ?_⟩
  refine SX.if1 (TT.isF ?_ (ifF ?_))
  · refine TT.andB ?_
    walk_at "ww"
    refine EV.nilL ?_
    rw [cells_of]
    refine CMP.ned (db := .list []) rfl rfl (cells_shaped cs) rfl ?_
    rw [cells_eqv, ← cells_of]
    refine ifb (fun e1 => ?_) fun e1 => ⟨rfl, rfl⟩
    rcases cs with _ | ⟨k, r⟩
    · cases e1
    walk_at "ww"
    refine ⟨_, SubAt.list IsL.fr (by decide) (by decide) rfl, ?_⟩
    walk_at "ww"
    exact ⟨decide_eq_false (h0 k rfl), rfl⟩
  refine SX.if1 (TT.isF ?_ (ifF ?_))
  · refine TT.andB ?_
    walk_at "ww"
    refine EV.nilL ?_
    rw [cells_of]
    refine CMP.ned (db := .list []) rfl rfl (cells_shaped cs) rfl ?_
    rw [cells_eqv, ← cells_of]
    refine ifb (fun e1 => ?_) fun e1 => ⟨rfl, rfl⟩
    obtain ⟨k, hk⟩ : ∃ k, cs.getLast? = some k := by
      cases cs with
      | nil => cases e1
      | cons a r => exact ⟨_, List.getLast?_cons⟩
    walk_at "ww"
    refine ⟨_, SubAt.list IsL.fr (by decide) (by decide) (idx_last (by rw [List.getLast?_map, hk]; rfl)), ?_⟩
    walk_at "ww"
    exact ⟨decide_eq_false (h1 k hk), rfl⟩
  walk_at "ww"
  exact h
noncomputable abbrev single : V := .str (Str.ofString "single")
theorem f_Line_init {x dx : Addr} {k : Int} {Q : V → Hp → Prop} (hx : H x = some (.inst 204 dx)) (hd : H dx = some (.ns [])) (hk : 0 ≤ k) (hk' : k ≤ 1000)
    (h : ∀ a, H a = none → Q .none ((H.set a (.list (List.replicate k.toNat (cellV .blank)))).set dx (.ns [((Str.ofString "cells") , .ref a), ((Str.ofString "is_wrapped") , .bool false), ((Str.ofString "size") , single)]))) : FN c 4 (.ref 93) [.ref x, .int k, penV] H Q := by
  have nxd : x ≠ dx := by rintro rfl; rw [hx] at hd; cases hd
  refine FN.defm (by rw [c.hK]; exact rfl) [Str.ofString "self", Str.ofString "columns", Str.ofString "pen"] [] [(Str.ofString "self", some (.ref x)), (Str.ofString "columns", some (.int k)), (Str.ofString "pen", some (penV))] (by rw [c.hK]; kernel_rfl) rfl rfl (fun vs hv => by rcases vs with _ | ⟨a0, _ | ⟨a1, _ | ⟨a2, _ | ⟨q, r⟩⟩⟩⟩ <;> first | rfl | (simp at hv; done)) (by kernel_rfl) (by kernel_rfl) rfl rfl rfl fun L => ?_
  refine SX.setattr ?_
  refine call_line_blanks ?_
  walk_at "ww"
  refine ((f_line_blanks (fun a ha => ?_) hk hk').le (by decide)).cl
  have hx' : H.set a (.list (List.replicate k.toNat (cellV .blank))) x = some (.inst 204 dx) := by walk_at "hp"
  have hd' : H.set a (.list (List.replicate k.toNat (cellV .blank))) dx = some (.ns []) := by walk_at "hp"
  walk_at "ww"
  refine name_LINE_SIZES ?_
  walk_at "ww"
  rw [Hp.setSet, Hp.setSet]
  exact h a ha
noncomputable abbrev lineV (cs : List Cl) (w : Bool) : V := .obj 204 [((Str.ofString "cells"), .lst (cs.map cellV)), ((Str.ofString "is_wrapped"), .bool w), ((Str.ofString "size"), single)]
theorem f_line_of {W : V} {cs : List Cl} {w : Bool} {Q : V → Hp → Prop} (hl : IsL H W (cs.map cellV)) (hz : cs.length ≤ 1000) (h0 : ∀ k, cs[0]? = some k → k.wid ≠ 0) (h1 : ∀ k, cs.getLast? = some k → k.wid ≠ 2) (h : Q (lineV cs w) H) : FN c 6 (.ref 216) [W, .bool w] H Q := by
  refine FN.forget (FN.gh ?_)
  refine FN.defd (Ds := [single]) (ds := [.str (Str.ofString "single") 234]) (by rw [c.hK]; exact rfl) [(Str.ofString "cells"), (Str.ofString "is_wrapped"), (Str.ofString "size")] [(Str.ofString "found")] [((Str.ofString "cells"), some W), ((Str.ofString "is_wrapped"), some (.bool w)), ((Str.ofString "size"), some single), ((Str.ofString "found"), none)] (by rw [c.hK]; kernel_rfl) rfl rfl (fun _ _ => .cons (.str _ _) .nil)
    (fun s vs X hv => by rcases vs with _ | ⟨a, _ | ⟨b, _ | ⟨q, r⟩⟩⟩ <;> first | exact binds_K X rfl (by rw [c.hK]; exact rfl) rfl rfl rfl | (simp at hv; done)) (by kernel_rfl) (by kernel_rfl) rfl rfl rfl fun L => ?_
  walk_at "w"
  refine call_Line ?_
  walk_at "ww"
  refine make_204 fun x dx nxd hx hdx => ?_
  have hx1 : ((H.set dx (.ns [])).set x (.inst 204 dx)) x = some (.inst 204 dx) := by walk_at "hp"
  have hd1 : ((H.set dx (.ns [])).set x (.inst 204 dx)) dx = some (.ns []) := by walk_at "hp"
  refine (f_Line_init hx1 hd1 (by decide) (by decide) fun a ha => ⟨rfl, ?_⟩).le (by decide)
  have nax : a ≠ x := Hp.newNe ha
  have nad : a ≠ dx := Hp.newNe (Hp.newNo ha)
  have na : H a = none := Hp.newNo (Hp.newNo ha)
  generalize hH1 : (((H.set dx (.ns [])).set x (.inst 204 dx)).set a (.list (List.replicate (0 : Int).toNat (cellV .blank)))).set dx _ = H1
  have hx2 : H1 x = some (.inst 204 dx) := by subst hH1; walk_at "hp"
  have hd2 : H1 dx = some (.ns [((Str.ofString "cells"), .ref a), ((Str.ofString "is_wrapped"), .bool false), ((Str.ofString "size"), single)]) := by subst hH1; exact Hp.set_same ..
  have l1 : Less H H1 := by subst hH1; walk_at "less"
  have hl1 : IsL H1 W (cs.map cellV) := hl.less l1
  walk_at "w"
  refine SX.setattr ?_
  refine call_line_slice ?_
  walk_at "ww"
  refine call_len ?_
  walk_at "ww"
  refine CL.len (.inr hl1) (by simp; lia) ?_
  walk_at "ww"
  rw [List.length_map]
  refine ((f_line_slice hl1 hz h0 h1 ?_).le (by decide)).cl
  walk_at "ww"
  rw [Hp.setSet, Hp.setSet]
  refine ⟨_, _, Gh.obj (by walk_at "hp") (Hp.set_same ..), H, ?_, h⟩
  walk_at "less"
end PartW2
section PartW3
theorem pick_to (vs : List V) (k : Nat) : pick vs none (some (k : Int)) = vs.take k := by
  unfold pick kms_lo kms_hi
  dsimp only
  rw [if_neg (by lia), List.drop_zero, Nat.sub_zero, Int.toNat_natCast]
  by_cases h : k ≤ vs.length
  · rw [Nat.min_eq_left h]
  · rw [Nat.min_eq_right (by lia), List.take_of_length_le (Nat.le_refl _), List.take_of_length_le (by lia)]
theorem pick_last (vs : List V) : pick vs none (some (-1)) = vs.dropLast := by
  unfold pick kms_lo kms_hi
  dsimp only
  rw [if_pos (by decide), List.drop_zero, Nat.sub_zero, List.dropLast_eq_take]
  rfl
theorem pick_ft (vs : List V) (i j : Nat) : pick vs (some (i : Int)) (some (j : Int)) = (vs.drop i).take (j - i) := by
  unfold pick kms_lo kms_hi
  dsimp only
  rw [if_neg (by lia), if_neg (by lia), Int.toNat_natCast, Int.toNat_natCast]
  by_cases h : i ≤ vs.length
  · rw [Nat.min_eq_left h]
    by_cases h' : j ≤ vs.length
    · rw [Nat.min_eq_left h']
    · rw [Nat.min_eq_right (by lia), List.take_of_length_le (by simp), List.take_of_length_le (by simp; lia)]
  · rw [show min i vs.length = vs.length by lia, List.drop_of_length_le (Nat.le_refl _), List.drop_of_length_le (by lia)]; simp
theorem f_used {p : List Cl} {g : Nat} {Q : V → Hp → Prop} (hz : p.length + g ≤ 1000) (hp : ∀ k, p.getLast? = some k → k.isB = false) (h : Q (.lst (p.map cellV)) H) : FN c 4 (.ref 272) [.lst ((p ++ List.replicate g Cl.blank).map cellV)] H Q := by
  refine FN.forget (FN.gh ?_)
  refine FN.defm (by rw [c.hK]; exact rfl) [Str.ofString "cells"] [Str.ofString "many"] [(Str.ofString "cells", some (.lst ((p ++ List.replicate g Cl.blank).map cellV))), (Str.ofString "many", none)] (by rw [c.hK]; kernel_rfl) rfl rfl (fun vs hv => by rcases vs with _ | ⟨a0, _ | ⟨q, r⟩⟩ <;> first | rfl | (simp at hv; done)) (by kernel_rfl) (by kernel_rfl) rfl rfl rfl fun L => ?_
  walk_at "w"
  refine call_len ?_
  walk_at "ww"
  refine CL.len (.inr IsL.fr) (by simp; lia) ?_
  walk_at "ww"
  have e : ((p ++ List.replicate g Cl.blank).map cellV).length = p.length + g := by simp
  rw [e]
  refine SX.while2 (fun j m' H' => j ≤ g ∧ m' = [((Str.ofString "cells"), some (.lst ((p ++ List.replicate g Cl.blank).map cellV))), ((Str.ofString "many"), some (.int ((p.length + j : Nat) : Int)))] ∧ H' = H) (fun m' H' => m' = [((Str.ofString "cells"), some (.lst ((p ++ List.replicate g Cl.blank).map cellV))), ((Str.ofString "many"), some (.int ((p.length : Nat) : Int)))] ∧ H' = H) g ⟨Nat.le_refl _, rfl, rfl⟩ ?_ ?_
  rotate_left
  · rintro _ _ ⟨rfl, rfl⟩
    refine SX.ret ?_
    refine EV.slice ?_
    walk_at "ww"
    show EV _ _ _ _ _ _ _
    walk_at "ww"
    refine ⟨_, IsL.fr, by simp; lia, fun a ha => ?_⟩
    walk_at "ww"
    have e : pick ((p ++ List.replicate g Cl.blank).map cellV) none (some ((p.length : Nat) : Int)) = p.map cellV := by
      rw [pick_to, List.map_append, List.take_left' (by simp)]
    rw [e]
    exact ⟨_, _, Gh.lst (Hp.set_same ..), _, by walk_at "less", h⟩
  rintro j _ _ ⟨hj, rfl, rfl⟩
  refine TT.andB ?_
  walk_at "ww"
  refine ifd (fun h0 => ?_) fun h0 => ?_
  · refine TT.val ?_
    refine call_is_plain_blank ?_
    walk_at "ww"
    have hlt : p.length + j - 1 < (p ++ List.replicate g Cl.blank).length := by simp; lia
    obtain ⟨k, hk⟩ : ∃ k, (p ++ List.replicate g Cl.blank)[p.length + j - 1]? = some k := ⟨_, List.getElem?_eq_getElem hlt⟩
    refine ⟨cellV k, SubAt.list IsL.fr (by lia) (by lia) ?_, ?_⟩
    · rw [show ((p.length + j : Nat) : Int) - 1 = ((p.length + j - 1 : Nat) : Int) by lia]
      exact idx_at (cell_at _ hk)
    walk_at "ww"
    refine ((f_is_plain_blank ?_).le (by decide)).cl
    walk_at "ww"
    by_cases hj0 : j = 0
    · subst hj0
      have : k.isB = false := by
        rw [List.getElem?_append_left (by lia)] at hk
        refine hp k ?_
        rw [List.getLast?_eq_getElem?]
        simpa using hk
      rw [this]
      refine ifF ?_
      exact ⟨rfl, rfl⟩
    · have : k.isB = true := by
        rw [List.getElem?_append_right (by lia), List.getElem?_replicate] at hk
        split at hk
        · cases hk; rfl
        · cases hk
      rw [this]
      refine ifT ?_
      walk_at "ww"
      refine ⟨j - 1, by lia, by lia, ?_, rfl⟩
      rw [show ((p.length + j : Nat) : Int) - 1 = ((p.length + (j - 1) : Nat) : Int) by lia]
  · have hj0 : j = 0 := by lia
    subst hj0
    exact ⟨rfl, rfl⟩
noncomputable def wide1 (cs : List Cl) : Bool := match cs with
  | [] => false
  | k :: _ => decide (k.wid = 2)
theorem f_begins_wide {cs : List Cl} {w : Bool} {Q : V → Hp → Prop} (hz : cs.length ≤ 1000) (h : Q (.bool (wide1 cs)) H) : FN c 2 (.ref 279) [lineV cs w] H Q := by
  refine FN.defm (by rw [c.hK]; exact rfl) [Str.ofString "line"] [] [(Str.ofString "line", some (lineV cs w))] (by rw [c.hK]; kernel_rfl) rfl rfl (fun vs hv => by rcases vs with _ | ⟨a0, _ | ⟨q, r⟩⟩ <;> first | rfl | (simp at hv; done)) (by kernel_rfl) (by kernel_rfl) rfl rfl rfl fun L => ?_
  walk_at "ww"
  refine call_len ?_
  walk_at "ww"
  refine CL.len (.inr IsL.fr) (by simp; lia) ?_
  walk_at "ww"
  rcases cs with _ | ⟨k, r⟩
  · refine ifd (fun h0 => by simp at h0) fun h0 => ?_
    walk_at "ww"
    exact h
  · refine ifd (fun h0 => ?_) fun h0 => by simp at h0
    walk_at "ww"
    refine ⟨_, SubAt.list IsL.fr (by decide) (by decide) rfl, ?_⟩
    walk_at "ww"
    exact h
theorem eq_single {Q : Bool → Prop} (h : Q true) : CMP c (n + 1) .Eq single single H Q := CMP.eqd (da := .str (Str.ofString "single")) (db := .str (Str.ofString "single")) rfl rfl (by decide +kernel) (by decide +kernel) (by rw [show PyData.eqv (.str (Str.ofString "single")) (.str (Str.ofString "single")) = true by decide +kernel]; exact h)
theorem ne_single {Q : Bool → Prop} (h : Q false) : CMP c (n + 1) .NotEq single single H Q := CMP.ned (da := .str (Str.ofString "single")) (db := .str (Str.ofString "single")) rfl rfl (by decide +kernel) (by decide +kernel) (by rw [show PyData.eqv (.str (Str.ofString "single")) (.str (Str.ofString "single")) = true by decide +kernel]; exact h)
noncomputable abbrev linesV (ls : List (List Cl × Bool)) : V := .lst (ls.map fun l => lineV l.1 l.2)
noncomputable def goesOn (ls : List (List Cl × Bool)) (i : Nat) : Bool := match ls[i]? with
  | some l => decide (i + 1 < ls.length) && l.2 && decide (l.1.length ≠ 0)
  | none => false
theorem line_at {ls : List (List Cl × Bool)} {i : Nat} {l : List Cl × Bool} (h : ls[i]? = some l) : idx (ls.map fun l => lineV l.1 l.2) (i : Int) = some (lineV l.1 l.2) := idx_at (by rw [List.getElem?_map, h]; rfl)
theorem f_goes_on {ls : List (List Cl × Bool)} {i : Nat} {Q : V → Hp → Prop} (hi : i < ls.length) (hz : ls.length ≤ 1000) (hz' : ∀ l ∈ ls, l.1.length ≤ 1000) (h : Q (.bool (goesOn ls i)) H) : FN c 2 (.ref 293) [linesV ls, .int i] H Q := by
  obtain ⟨l, hl⟩ : ∃ l, ls[i]? = some l := ⟨_, List.getElem?_eq_getElem hi⟩
  have hlz := hz' l (List.mem_of_getElem? hl)
  unfold goesOn at h
  rw [hl] at h
  dsimp only at h
  refine FN.defm (by rw [c.hK]; exact rfl) [Str.ofString "lines", Str.ofString "at"] [] [(Str.ofString "lines", some (linesV ls)), (Str.ofString "at", some (.int i))] (by rw [c.hK]; kernel_rfl) rfl rfl (fun vs hv => by rcases vs with _ | ⟨a0, _ | ⟨a1, _ | ⟨q, r⟩⟩⟩ <;> first | rfl | (simp at hv; done)) (by kernel_rfl) (by kernel_rfl) rfl rfl rfl fun L => ?_
  refine SX.if1 ?_
  walk_at "ww"
  refine call_len ?_
  walk_at "ww"
  refine CL.len (.inr IsL.fr) (by simp; lia) ?_
  walk_at "ww"
  refine ifd (fun h0 => ?_) fun h0 => ?_
  · refine ifT ?_
    walk_at "ww"
    rw [List.length_map] at h0
    rw [decide_eq_false (by lia)] at h
    exact h
  rw [List.length_map] at h0
  have h1 : i + 1 < ls.length := by lia
  rw [decide_eq_true h1, Bool.true_and] at h
  walk_at "ww"
  refine ⟨lineV l.1 l.2, SubAt.list IsL.fr (by lia) (by lia) (line_at hl), ?_⟩
  walk_at "ww"
  obtain ⟨cs, w⟩ := l
  dsimp only at hlz
  cases w with
  | false =>
    refine ifT (ifT ?_)
    walk_at "ww"
    exact h
  | true =>
  refine ifF ?_
  walk_at "ww"
  refine call_len ?_
  walk_at "ww"
  refine ⟨lineV cs true, SubAt.list IsL.fr (by lia) (by lia) (line_at hl), ?_⟩
  walk_at "ww"
  refine CL.len (.inr IsL.fr) (by simp; lia) ?_
  walk_at "ww"
  rw [Bool.true_and] at h
  refine ifd (fun h2 => ifT ?_) fun h2 => ?_
  · walk_at "ww"
    rw [List.length_map] at h2
    dsimp only at h; rw [decide_eq_false (by lia)] at h
    exact h
  rw [List.length_map] at h2
  dsimp only at h; rw [decide_eq_true (by lia)] at h
  walk_at "ww"
  refine ifF ?_
  walk_at "ww"
  refine ⟨lineV cs true, SubAt.list IsL.fr (by lia) (by lia) (line_at hl), ?_⟩
  walk_at "ww"
  refine eq_single ?_
  walk_at "ww"
  refine ifT ?_
  walk_at "ww"
  obtain ⟨l', hl'⟩ : ∃ l', ls[i + 1]? = some l' := ⟨_, List.getElem?_eq_getElem h1⟩
  refine ⟨lineV l'.1 l'.2, SubAt.list IsL.fr (by lia) (by lia) (line_at hl'), ?_⟩
  walk_at "ww"
  refine eq_single ?_
  walk_at "ww"
  exact h
noncomputable def IsPart (ls : List (List Cl × Bool)) (i : Nat) (p : List Cl) : Prop := ∃ row w g, ls[i]? = some (row, w) ∧ row = p ++ List.replicate g Cl.blank ∧ (∀ k, p.getLast? = some k → k.isB = false) ∧
  (goesOn ls i = true → p ≠ [] ∧ (g = 0 ∨ (g = 1 ∧ ∃ nx, ls[i + 1]? = some nx ∧ wide1 nx.1 = true)))
theorem f_part {ls : List (List Cl × Bool)} {i : Nat} {p : List Cl} {Q : V → Hp → Prop} (hp : IsPart ls i p) (hz : ls.length ≤ 1000) (hz' : ∀ l ∈ ls, l.1.length ≤ 1000) (h : Q (.lst (p.map cellV)) H) : FN c 5 (.ref 286) [linesV ls, .int i] H Q := by
  obtain ⟨row, w, g, hl, hr, hb, hg⟩ := hp
  have hi : i < ls.length := (List.getElem?_eq_some_iff.mp hl).1
  have hlz := hz' _ (List.mem_of_getElem? hl)
  have hrl := congrArg List.length hr
  rw [List.length_append, List.length_replicate] at hrl
  dsimp only at hlz
  refine FN.forget (FN.gh ?_)
  refine FN.defm (by rw [c.hK]; exact rfl) [Str.ofString "lines", Str.ofString "at"] [Str.ofString "cells"] [(Str.ofString "lines", some (linesV ls)), (Str.ofString "at", some (.int i)), (Str.ofString "cells", none)] (by rw [c.hK]; kernel_rfl) rfl rfl (fun vs hv => by rcases vs with _ | ⟨a0, _ | ⟨a1, _ | ⟨q, r⟩⟩⟩ <;> first | rfl | (simp at hv; done)) (by kernel_rfl) (by kernel_rfl) rfl rfl rfl fun L => ?_
  walk_at "ww"
  refine ⟨lineV row w, SubAt.list IsL.fr (by lia) (by lia) (line_at hl), ?_⟩
  walk_at "ww"
  refine call_reflow_goes_on ?_
  walk_at "ww"
  refine ((f_goes_on hi hz hz' ?_).le (by decide)).cl
  walk_at "ww"
  refine ifb (fun e => ?_) fun e => ?_
  · subst hr
    walk_at "ww"
    refine call_reflow_used ?_
    walk_at "ww"
    refine ((f_used (by lia) hb ?_).le (by decide)).cl
    walk_at "ww"
    exact ⟨_, _, Gh.refl, _, Less.refl, h⟩
  · obtain ⟨hne, hg⟩ := hg (by simpa using e)
    obtain ⟨k, hk⟩ : ∃ k, p.getLast? = some k := by
      cases p with
      | nil => exact absurd rfl hne
      | cons a r => exact ⟨_, List.getLast?_cons⟩
    walk_at "w"
    refine TT.andB (TT.val ?_)
    refine call_is_blank ?_
    walk_at "ww"
    rcases hg with rfl | ⟨rfl, nx, hnx, hw⟩
    · have hr' : row = p := by simpa using hr
      subst hr'
      refine ⟨cellV k, SubAt.list IsL.fr (by decide) (by decide) (idx_last (by rw [List.getLast?_map, hk]; rfl)), ?_⟩
      walk_at "ww"
      refine ((f_is_blank ?_).le (by decide)).cl
      walk_at "ww"
      rw [hb k hk]
      refine ifF (ifF ?_)
      walk_at "ww"
      exact ⟨_, _, Gh.refl, _, Less.refl, h⟩
    · subst hr
      refine ⟨cellV .blank, SubAt.list IsL.fr (by decide) (by decide) (idx_last (by rw [List.getLast?_map]; simp)), ?_⟩
      walk_at "ww"
      refine ((f_is_blank ?_).le (by decide)).cl
      walk_at "ww"
      refine ifT ?_
      refine TT.val ?_
      refine call_reflow_begins_wide ?_
      walk_at "ww"
      have hz2 := hz' nx (List.mem_of_getElem? hnx)
      refine ⟨lineV nx.1 nx.2, SubAt.list IsL.fr (by lia) (by lia) (line_at hnx), ?_⟩
      walk_at "ww"
      refine ((f_begins_wide hz2 ?_).le (by decide)).cl
      walk_at "ww"
      rw [hw]
      refine ifT ?_
      refine SX.ret ?_
      refine EV.slice ?_
      walk_at "ww"
      show EV _ _ _ _ _ _ _
      walk_at "ww"
      refine ⟨_, IsL.fr, by simp; lia, fun a ha => ?_⟩
      walk_at "ww"
      refine ⟨_, _, Gh.lst (Hp.set_same ..), H, by walk_at "less", ?_⟩
      rw [pick_last]
      simpa using h
end PartW3
section PartW4
noncomputable abbrev wholeNs (f : Int) (B C : V) (w : Bool) : List (Str × V) := [((Str.ofString "first"), .int f), ((Str.ofString "size"), single), ((Str.ofString "begins"), B), ((Str.ofString "cells"), C), ((Str.ofString "is_whole"), .bool w)]
theorem f_LL_init {x dx : Addr} {f : Int} {Q : V → Hp → Prop} (hx : H x = some (.inst 261 dx)) (hd : H dx = some (.ns []))
    (h : ∀ b a, H b = none → (H.set b (.list [])) a = none → Q .none (((H.set b (.list [])).set a (.list [])).set dx (.ns (wholeNs f (.ref b) (.ref a) true)))) : FN c 1 (.ref 230) [.ref x, .int f, single] H Q := by
  have nxd : x ≠ dx := by rintro rfl; rw [hx] at hd; cases hd
  refine FN.defm (by rw [c.hK]; exact rfl) [Str.ofString "self", Str.ofString "first", Str.ofString "size"] [] [(Str.ofString "self", some (.ref x)), (Str.ofString "first", some (.int f)), (Str.ofString "size", some (single))] (by rw [c.hK]; kernel_rfl) rfl rfl (fun vs hv => by rcases vs with _ | ⟨a0, _ | ⟨a1, _ | ⟨a2, _ | ⟨q, r⟩⟩⟩⟩ <;> first | rfl | (simp at hv; done)) (by kernel_rfl) (by kernel_rfl) rfl rfl rfl fun L => ?_
  walk_at "ww"
  rw [Hp.setSet]
  refine EV.list ?_
  walk_at "ww"
  intro b hb
  walk_at "ww"
  refine EV.list ?_
  walk_at "ww"
  intro a ha
  walk_at "ww"
  have hb1 := Hp.newNo hb
  have nbd := Hp.newNe hb
  have nad := Hp.newNe ha
  have ha1 := Hp.newNo ha
  have nab := Hp.newNe ha1
  have ha2 := Hp.newNo (Hp.newNo ha1)
  refine cast_hp (h b a hb1 (by walk_at "hn")) ?_
  funext z
  simp only [Hp.set]
  repeat' split <;> simp_all
theorem f_LL_put {x dx b a : Addr} {f : Int} {bs ps cs : List V} {w : Bool} {Q : V → Hp → Prop} (hx : H x = some (.inst 261 dx)) (hd : H dx = some (.ns (wholeNs f (.ref b) (.ref a) w))) (hb : H b = some (.list bs)) (ha : H a = some (.list cs)) (nab : a ≠ b)
    (z1 : bs.length ≤ 1000) (z2 : cs.length ≤ 1000) (z3 : ps.length ≤ 1000)
    (h : Q .none ((H.set b (.list (bs ++ [.int cs.length]))).set a (.list (cs ++ ps)))) : FN c 1 (.ref 237) [.ref x, .lst ps] H Q := by
  have nxb : x ≠ b := by rintro rfl; rw [hx] at hb; cases hb
  have ndb : dx ≠ b := by rintro rfl; rw [hd] at hb; cases hb
  refine FN.defm (by rw [c.hK]; exact rfl) [Str.ofString "self", Str.ofString "cells"] [] [(Str.ofString "self", some (.ref x)), (Str.ofString "cells", some (.lst ps))] (by rw [c.hK]; kernel_rfl) rfl rfl (fun vs hv => by rcases vs with _ | ⟨a0, _ | ⟨a1, _ | ⟨q, r⟩⟩⟩ <;> first | rfl | (simp at hv; done)) (by kernel_rfl) (by kernel_rfl) rfl rfl rfl fun L => ?_
  walk_at "ww"
  refine call_len ?_
  walk_at "ww"
  refine CL.len (vs := cs) (.inr (by walk_at "isl")) (by lia) ?_
  walk_at "ww"
  refine ⟨_, hb, by lia, ?_⟩
  walk_at "ww"
  refine ⟨cs, ps, by walk_at "hp", IsL.fr, by lia, ?_⟩
  walk_at "ww"
  exact h
theorem f_LL_kept {x dx a : Addr} {f : Int} {B : V} {k : Nat} {cs : List Cl} {w : Bool} {Q : V → Hp → Prop} (hx : H x = some (.inst 261 dx)) (hd : H dx = some (.ns (wholeNs f B (.ref a) w))) (ha : H a = some (.list (cs.map cellV)))
    (z2 : cs.length ≤ 1000) (z3 : k ≤ 1000) (h : Q .none (H.set a (.list ((cs ++ List.replicate (k - cs.length) Cl.blank).map cellV)))) : FN c 3 (.ref 244) [.ref x, .int k] H Q := by
  have nxb : x ≠ a := by rintro rfl; rw [hx] at ha; cases ha
  have ndb : dx ≠ a := by rintro rfl; rw [hd] at ha; cases ha
  refine FN.defm (by rw [c.hK]; exact rfl) [Str.ofString "self", Str.ofString "many"] [] [(Str.ofString "self", some (.ref x)), (Str.ofString "many", some (.int k))] (by rw [c.hK]; kernel_rfl) rfl rfl (fun vs hv => by rcases vs with _ | ⟨a0, _ | ⟨a1, _ | ⟨q, r⟩⟩⟩ <;> first | rfl | (simp at hv; done)) (by kernel_rfl) (by kernel_rfl) rfl rfl rfl fun L => ?_
  refine SX.while2 (fun j m' H' => j ≤ k - cs.length ∧ m' = [((Str.ofString "self"), some (.ref x)), ((Str.ofString "many"), some (.int k))] ∧ H' = H.set a (.list ((cs ++ List.replicate (k - cs.length - j) Cl.blank).map cellV)))
    (fun m' H' => m' = [((Str.ofString "self"), some (.ref x)), ((Str.ofString "many"), some (.int k))] ∧ H' = H.set a (.list ((cs ++ List.replicate (k - cs.length) Cl.blank).map cellV))) (k - cs.length) ⟨Nat.le_refl _, rfl, ?_⟩ ?_ ?_
  · simp [Hp.setId ha]
  · rintro j _ _ ⟨hj, rfl, rfl⟩
    walk_at "ww"
    refine call_len ?_
    walk_at "ww"
    refine CL.len (.inr (by walk_at "isl")) (by simp; lia) ?_
    walk_at "ww"
    rw [show ((cs ++ List.replicate (k - cs.length - j) Cl.blank).map cellV).length = cs.length + (k - cs.length - j) by simp]
    refine ifd (fun e => ?_) fun e => ?_
    · walk_at "ww"
      refine call_blank_cell ?_
      walk_at "ww"
      refine ((f_blank ?_).le (by decide)).cl
      walk_at "ww"
      refine ⟨_, Hp.set_same .., by simp; lia, ?_⟩
      walk_at "ww"
      refine ⟨j - 1, by lia, by lia, rfl, ?_⟩
      rw [Hp.setSet, show k - cs.length - (j - 1) = (k - cs.length - j) + 1 by lia, List.replicate_succ']
      simp
    · have : j = 0 := by lia
      subst this
      exact ⟨rfl, rfl⟩
  · rintro _ _ ⟨rfl, rfl⟩
    walk_at "ww"
    exact h
noncomputable def sizeV (bs : List Int) (i : Nat) : V := match bs[i + 1]?, bs[i]? with
  | some e, some b => .int (e - b)
  | _, _ => .none
theorem f_LL_size {W C : V} {f : Int} {bs : List Int} {i : Nat} {w : Bool} {Q : V → Hp → Prop} (hW : IsO H W 261 (wholeNs f (.lst (bs.map V.int)) C w)) (z : bs.length ≤ 1000) (hi : i < bs.length) (h : Q (sizeV bs i) H) : FN c 1 (.ref 251) [W, .int i] H Q := by
  obtain ⟨b, hb⟩ : ∃ b, bs[i]? = some b := ⟨_, List.getElem?_eq_getElem hi⟩
  unfold sizeV at h
  rw [hb] at h
  refine FN.defm (by rw [c.hK]; exact rfl) [Str.ofString "self", Str.ofString "at"] [] [(Str.ofString "self", some (W)), (Str.ofString "at", some (.int i))] (by rw [c.hK]; kernel_rfl) rfl rfl (fun vs hv => by rcases vs with _ | ⟨a0, _ | ⟨a1, _ | ⟨q, r⟩⟩⟩ <;> first | rfl | (simp at hv; done)) (by kernel_rfl) (by kernel_rfl) rfl rfl rfl fun L => ?_
  walk_at "ww"
  refine call_len ?_
  walk_at "ww"
  refine CL.len (.inr IsL.fr) (by simp; lia) ?_
  walk_at "ww"
  rw [List.length_map]
  refine ifd (fun e => ?_) fun e => ?_
  · obtain ⟨b', hb'⟩ : ∃ b, bs[i + 1]? = some b := ⟨_, List.getElem?_eq_getElem (by lia)⟩
    rw [hb'] at h
    walk_at "ww"
    refine ⟨.int b', SubAt.list IsL.fr (by lia) (by lia) (idx_at (i := i + 1) (by rw [List.getElem?_map, hb']; rfl)), ?_⟩
    walk_at "ww"
    refine ⟨.int b, SubAt.list IsL.fr (by lia) (by lia) (idx_at (by rw [List.getElem?_map, hb]; rfl)), ?_⟩
    walk_at "ww"
    exact h
  · rw [List.getElem?_eq_none (by lia)] at h
    walk_at "ww"
    exact h
theorem f_LL_offset {W C : V} {f b : Int} {bs : List Int} {i : Nat} {w : Bool} {Q : V → Hp → Prop} (hW : IsO H W 261 (wholeNs f (.lst (bs.map V.int)) C w)) (z : bs.length ≤ 1000) (hb : bs[i]? = some b) (h : Q (.tup [.int b, .bool false]) H) : FN c 2 (.ref 258) [W, .int i, .int 0] H Q := by
  have hi := (List.getElem?_eq_some_iff.mp hb).1
  refine FN.defm (by rw [c.hK]; exact rfl) [Str.ofString "self", Str.ofString "at", Str.ofString "column"] [Str.ofString "size"] [(Str.ofString "self", some (W)), (Str.ofString "at", some (.int i)), (Str.ofString "column", some (.int 0)), (Str.ofString "size", none)] (by rw [c.hK]; kernel_rfl) rfl rfl (fun vs hv => by rcases vs with _ | ⟨a0, _ | ⟨a1, _ | ⟨a2, _ | ⟨q, r⟩⟩⟩⟩ <;> first | rfl | (simp at hv; done)) (by kernel_rfl) (by kernel_rfl) rfl rfl rfl fun L => ?_
  walk_at "w"
  refine meth_261_size_of ?_
  walk_at "ww"
  refine ((f_LL_size hW z hi ?_).le (by decide)).cl
  walk_at "w"
  refine SX.if1 (TT.isF ?_ (ifF ?_))
  · refine TT.andB ?_
    walk_at "ww"
    unfold sizeV
    rw [hb]
    cases he : bs[i + 1]? with
    | none => exact ifF ⟨rfl, rfl⟩
    | some e =>
      refine ifT ?_
      walk_at "ww"
      refine ifd (fun h1 => ?_) fun h1 => ⟨rfl, rfl⟩
      walk_at "ww"
      exact ⟨decide_eq_false (by lia), rfl⟩
  · walk_at "ww"
    refine ⟨.int b, SubAt.list IsL.fr (by lia) (by lia) (idx_at (by rw [List.getElem?_map, hb]; rfl)), ?_⟩
    walk_at "ww"
    rw [Int.add_zero]
    exact h
end PartW4
section PartW5
noncomputable def begs : Nat → List (List Cl) → List Int
  | _, [] => []
  | o, p :: r => (o : Int) :: begs (o + p.length) r
theorem begs_snoc (p : List Cl) : ∀ (q : List (List Cl)) (o : Nat), begs o (q ++ [p]) = begs o q ++ [((o + q.flatten.length : Nat) : Int)]
  | [], o => by simp [begs]
  | a :: r, o => by simp only [List.cons_append, begs, begs_snoc p r]; simp [Nat.add_assoc]
theorem begs_len : ∀ (q : List (List Cl)) (o : Nat), (begs o q).length = q.length
  | [], _ => rfl
  | _ :: r, o => by simp [begs, begs_len r]
structure Wh where
  x : Addr
  dx : Addr
  a : Addr
  f : Int
  bs : List Int
  cs : List Cl
  w : Bool
noncomputable def Has (H : Hp) (w : Wh) : Prop := H w.x = some (.inst 261 w.dx) ∧ H w.dx = some (.ns (wholeNs w.f (.lst (w.bs.map V.int)) (.ref w.a) w.w)) ∧ H w.a = some (.list (w.cs.map cellV))
theorem Has.same {H' : Hp} {w : Wh} {l : List Addr} (h : Has H w) (s : Same H H' l) (h1 : w.x ∉ l) (h2 : w.dx ∉ l) (h3 : w.a ∉ l) : Has H' w := ⟨s _ _ h.1 h1, s _ _ h.2.1 h2, s _ _ h.2.2 h3⟩
theorem Has.less {H' : Hp} {w : Wh} (h : Has H w) (s : Less H H') : Has H' w := ⟨s _ _ h.1, s _ _ h.2.1, s _ _ h.2.2⟩
noncomputable def off (ps : List (List (List Cl))) (j : Nat) : Nat := ((ps.take j).flatten).length
structure Spec (ls : List (List Cl × Bool)) (ps : List (List (List Cl))) : Prop where
  len : ps.flatten.length = ls.length
  part : ∀ i p, ps.flatten[i]? = some p → IsPart ls i p
  ne : ∀ q ∈ ps, q ≠ []
  go : ∀ j q t, ps[j]? = some q → t < q.length → goesOn ls (off ps j + t) = decide (t + 1 < q.length)
  z1 : ls.length ≤ 500
  z2 : ∀ l ∈ ls, l.1.length ≤ 1000
  z3 : ∀ p ∈ ps, p.flatten.length ≤ 900
  z4 : ps.length ≤ 100
theorem off_succ {ps : List (List (List Cl))} {j : Nat} {q : List (List Cl)} (h : ps[j]? = some q) : off ps (j + 1) = off ps j + q.length := by
  unfold off
  rw [List.take_add_one, h]; simp
theorem off_at {ps : List (List (List Cl))} : ∀ {j : Nat} {q : List (List Cl)} {t : Nat} {p : List Cl}, ps[j]? = some q → q[t]? = some p → ps.flatten[off ps j + t]? = some p := by
  intro j q t p hj ht
  have hl := (List.getElem?_eq_some_iff.mp hj).1
  have e : ps.flatten = (ps.take j).flatten ++ (q ++ (ps.drop (j + 1)).flatten) := by
    conv => lhs; rw [← List.take_append_drop j ps]
    rw [List.flatten_append, List.drop_eq_getElem_cons hl, List.flatten_cons]
    rw [List.getElem?_eq_getElem hl] at hj; cases hj; rfl
  have htl := (List.getElem?_eq_some_iff.mp ht).1
  rw [e, List.getElem?_append_right (by unfold off; lia)]
  unfold off
  rw [Nat.add_sub_cancel_left, List.getElem?_append_left htl]; exact ht
theorem off_lt {ls : List (List Cl × Bool)} {ps : List (List (List Cl))} (S : Spec ls ps) {j : Nat} {q : List (List Cl)} {t : Nat} (hj : ps[j]? = some q) (ht : t < q.length) : off ps j + t < ls.length := by
  have := off_at hj (List.getElem?_eq_getElem ht)
  rw [← S.len]; exact (List.getElem?_eq_some_iff.mp this).1
noncomputable def WhOf (ps : List (List (List Cl))) (ws : List Wh) : Prop := ws.length = ps.length ∧ ∀ (j : Nat) q w, ps[j]? = some q → ws[j]? = some w → w.f = off ps j ∧ w.bs = begs 0 q ∧ w.cs = q.flatten
noncomputable def WhP (ps : List (List (List Cl))) (k : Nat) (ws : List Wh) : Prop := ws.length = k ∧ ∀ (j : Nat) q w, ps[j]? = some q → ws[j]? = some w → w.f = off ps j ∧ w.bs = begs 0 q ∧ w.cs = q.flatten
theorem off_all (ps : List (List (List Cl))) : off ps ps.length = ps.flatten.length := by unfold off; rw [List.take_length]
theorem f_logical {ls : List (List Cl × Bool)} {ps : List (List (List Cl))} {Q : V → Hp → Prop} (S : Spec ls ps)
    (h : ∀ ws H', WhOf ps ws → (∀ w ∈ ws, Has H' w) → (ws.map Wh.a).Nodup → (∀ w ∈ ws, H w.a = none) → Less H H' → Q (.lst (ws.map fun w => .ref w.x)) H') : FN c 7 (.ref 300) [linesV ls] H Q := by
  refine FN.gh ?_
  refine FN.defm (by rw [c.hK]; exact rfl) [Str.ofString "lines"] [Str.ofString "found", Str.ofString "at", Str.ofString "whole"] [(Str.ofString "lines", some (linesV ls)), (Str.ofString "found", none), (Str.ofString "at", none), (Str.ofString "whole", none)] (by rw [c.hK]; kernel_rfl) rfl rfl (fun vs hv => by rcases vs with _ | ⟨a0, _ | ⟨q, r⟩⟩ <;> first | rfl | (simp at hv; done)) (by kernel_rfl) (by kernel_rfl) rfl rfl rfl fun L => ?_
  refine SX.swap2 ?_
  walk_at "ww"
  refine EV.list ?_
  walk_at "ww"
  intro F hF
  walk_at "ww"
  refine ⟨_, _, rfl, ?_⟩
  walk_at "w"
  walk_at "w"
  refine SX.while2 (fun k m' H' => E3 fun (j : Nat) (ws : List Wh) (o : Option V) => A9 (j ≤ ps.length) (k = ps.length - j) (m' = [((Str.ofString "lines"), some (linesV ls)), ((Str.ofString "found"), some (.ref F)), ((Str.ofString "at"), some (.int (off ps j))), ((Str.ofString "whole"), o)]) (H' F = some (.list (ws.map fun w => .ref w.x))) (WhP ps j ws) ((∀ w ∈ ws, Has H' w)) ((ws.map Wh.a).Nodup) ((∀ w ∈ ws, H w.a = none ∧ w.a ≠ F)) (Less H H'))
    (fun m' H' => E2 fun (ws : List Wh) (o : Option V) => A7 (m' = [((Str.ofString "lines"), some (linesV ls)), ((Str.ofString "found"), some (.ref F)), ((Str.ofString "at"), some (.int (off ps ps.length))), ((Str.ofString "whole"), o)]) (H' F = some (.list (ws.map fun w => .ref w.x))) (WhP ps ps.length ws) ((∀ w ∈ ws, Has H' w)) ((ws.map Wh.a).Nodup) ((∀ w ∈ ws, H w.a = none ∧ w.a ≠ F)) (Less H H')) ps.length
    ⟨0, [], none, Nat.zero_le _, rfl, rfl, Hp.set_same .., ⟨rfl, fun j q w _ e => by simp at e⟩, by simp, by simp, by simp, Less.skip Less.refl hF⟩ ?_ ?_
  · rintro k _ H' ⟨j, ws, o, hj, rfl, rfl, hFv, hw, hs, hnd, hfr, hl⟩
    walk_at "ww"
    refine call_len ?_
    walk_at "ww"
    refine CL.len (.inr IsL.fr) (by have := S.z1; simp; lia) ?_
    walk_at "ww"
    rw [List.length_map]
    have hFn : ∀ z, H' z = none → z ≠ F := fun z e => by rintro rfl; rw [hFv] at e; cases e
    by_cases hjl : j < ps.length
    case neg =>
      have : j = ps.length := by lia
      subst this
      refine ifd (fun e => ?_) fun e => ⟨ws, o, rfl, hFv, hw, hs, hnd, hfr, hl⟩
      rw [off_all, S.len] at e; lia
    obtain ⟨q, hq⟩ : ∃ q, ps[j]? = some q := ⟨_, List.getElem?_eq_getElem hjl⟩
    have hqm : q ∈ ps := List.mem_of_getElem? hq
    have hq0 : 0 < q.length := List.length_pos_iff.mpr (S.ne q hqm)
    have hlt := off_lt S hq hq0
    refine ifd (fun _ => ?_) fun e => by lia
    have hqz : off ps j + q.length ≤ 500 := by
      have := off_lt S hq (t := q.length - 1) (by lia)
      have := S.z1; lia
    obtain ⟨l0, hl0⟩ : ∃ l, ls[off ps j]? = some l := ⟨_, List.getElem?_eq_getElem (by lia)⟩
    walk_at "w"
    refine call_LogicalLine ?_
    walk_at "ww"
    refine ⟨lineV l0.1 l0.2, SubAt.list IsL.fr (by lia) (by lia) (line_at hl0), ?_⟩
    walk_at "ww"
    refine make_261 fun x dx nxd hx hdx => ?_
    refine (f_LL_init (by walk_at "hp") (by walk_at "hp") fun b a hb ha => ⟨rfl, ?_⟩).le (by decide)
    have nab := Hp.newNe ha
    have ha1 := Hp.newNo ha
    have nbx := Hp.newNe hb
    have nbd := Hp.newNe (Hp.newNo hb)
    have nax := Hp.newNe ha1
    have nad := Hp.newNe (Hp.newNo ha1)
    have hb' : H' b = none := Hp.newNo (Hp.newNo hb)
    have ha' : H' a = none := Hp.newNo (Hp.newNo ha1)
    generalize hH1 : (((((H'.set dx (.ns [])).set x (.inst 261 dx)).set b (.list [])).set a (.list [])).set dx _) = H1
    have x1 : H1 x = some (.inst 261 dx) := by subst hH1; walk_at "hp"
    have d1 : H1 dx = some (.ns (wholeNs (off ps j) (.ref b) (.ref a) true)) := by subst hH1; exact Hp.set_same ..
    have b1 : H1 b = some (.list []) := by subst hH1; walk_at "hp"
    have a1 : H1 a = some (.list []) := by subst hH1; walk_at "hp"
    have l1 : Less H' H1 := by subst hH1; walk_at "less"
    clear hH1
    walk_at "w"
    have put : ∀ {t : Nat} {p : List Cl} {H₂ : Hp} {n : Nat} {Q' : V → Hp → Prop}, q[t]? = some p → H₂ x = some (.inst 261 dx) → H₂ dx = some (.ns (wholeNs (off ps j) (.ref b) (.ref a) true)) → H₂ b = some (.list ((begs 0 (q.take t)).map V.int)) → H₂ a = some (.list ((q.take t).flatten.map cellV)) → 1 ≤ n →
        Q' .none ((H₂.set b (.list ((begs 0 (q.take (t + 1))).map V.int))).set a (.list ((q.take (t + 1)).flatten.map cellV))) → CL c n (.ref 237) [.ref x, .lst (p.map cellV)] H₂ Q' := by
      intro t p H₂ n Q' ht e1 e2 e3 e4 hn hQ
      have htl := (List.getElem?_eq_some_iff.mp ht).1
      have hfz := S.z3 q hqm
      have z0 : (q.take t).flatten.length + p.length ≤ 900 := by
        have : (q.take t).flatten ++ p ++ (q.drop (t + 1)).flatten = q.flatten := by
          conv => rhs; rw [← List.take_append_drop t q]
          rw [List.flatten_append, List.drop_eq_getElem_cons htl, List.flatten_cons, List.getElem?_eq_getElem htl] at *
          cases ht; simp
        have := congrArg List.length this
        simp only [List.length_append] at this; lia
      refine ((f_LL_put e1 e2 e3 e4 nab (by simp [begs_len]; lia) (by rw [List.length_map]; lia) (by rw [List.length_map]; lia) ?_).le hn).cl
      rw [List.take_add_one, ht, Option.toList_some, begs_snoc, List.flatten_append] at hQ
      simp only [List.map_append, List.map_cons, List.map_nil, List.flatten_cons, List.flatten_nil, List.append_nil, Nat.zero_add] at hQ
      rw [List.length_map]; exact hQ
    refine SX.while2 (fun k m₂ H₂ => E1 fun (t : Nat) => A8 (t + 1 ≤ q.length) (k = q.length - 1 - t) (m₂ = [((Str.ofString "lines"), some (linesV ls)), ((Str.ofString "found"), some (.ref F)), ((Str.ofString "at"), some (.int (off ps j + t : Nat))), ((Str.ofString "whole"), some (.ref x))]) (H₂ x = some (.inst 261 dx)) (H₂ dx = some (.ns (wholeNs (off ps j) (.ref b) (.ref a) true))) (H₂ b = some (.list ((begs 0 (q.take t)).map V.int))) (H₂ a = some (.list ((q.take t).flatten.map cellV))) (Same H1 H₂ [b, a]))
      (fun m₂ H₂ => E1 fun (t : Nat) => A7 (t + 1 = q.length) (m₂ = [((Str.ofString "lines"), some (linesV ls)), ((Str.ofString "found"), some (.ref F)), ((Str.ofString "at"), some (.int (off ps j + t : Nat))), ((Str.ofString "whole"), some (.ref x))]) (H₂ x = some (.inst 261 dx)) (H₂ dx = some (.ns (wholeNs (off ps j) (.ref b) (.ref a) true))) (H₂ b = some (.list ((begs 0 (q.take t)).map V.int))) (H₂ a = some (.list ((q.take t).flatten.map cellV))) (Same H1 H₂ [b, a]))
      (q.length - 1) ⟨0, by lia, rfl, rfl, x1, d1, b1, a1, Same.refl⟩ ?_ ?_
    · rintro k2 _ H₂ ⟨t, ht, rfl, rfl, x2, d2, b2, a2, s2⟩
      have hlt' := off_lt S hq (t := t) (by lia)
      obtain ⟨p, hp⟩ : ∃ p, q[t]? = some p := ⟨_, List.getElem?_eq_getElem (by lia)⟩
      refine TT.val ?_
      refine call_reflow_goes_on ?_
      walk_at "ww"
      refine ((f_goes_on hlt' (by have := S.z1; lia) S.z2 ?_).le (by decide)).cl
      rw [S.go j q t hq (by lia)]
      walk_at "ww"
      refine ifd (fun e => ?_) fun e => ⟨t, by lia, rfl, x2, d2, b2, a2, s2⟩
      walk_at "w"
      refine meth_261_put ?_
      walk_at "ww"
      refine call_reflow_part ?_
      walk_at "ww"
      refine ((f_part (S.part _ p (off_at hq hp)) (by have := S.z1; lia) S.z2 ?_).le (by decide)).cl
      walk_at "ww"
      refine put hp x2 d2 b2 a2 (by decide) ?_
      walk_at "ww"
      refine ⟨q.length - 1 - (t + 1), by lia, t + 1, by lia, rfl, ?_, ?_, ?_, ?_, Hp.set_same .., ?_⟩
      · rw [show (((off ps j + t : Nat) : Int) + 1) = ((off ps j + (t + 1) : Nat) : Int) by lia]
      · walk_at "hp"
      · walk_at "hp"
      · walk_at "hp"
      · exact (s2.set (by simp)).set (by simp)
    · rintro _ H₂ ⟨t, ht, rfl, x2, d2, b2, a2, s2⟩
      have hlt' := off_lt S hq (t := t) (by lia)
      obtain ⟨p, hp⟩ : ∃ p, q[t]? = some p := ⟨_, List.getElem?_eq_getElem (by lia)⟩
      obtain ⟨l, hl1⟩ : ∃ l, ls[off ps j + t]? = some l := ⟨_, List.getElem?_eq_getElem hlt'⟩
      walk_at "w"
      refine meth_261_put ?_
      walk_at "ww"
      refine call_reflow_part ?_
      walk_at "ww"
      refine ((f_part (S.part _ p (off_at hq hp)) (by have := S.z1; lia) S.z2 ?_).le (by decide)).cl
      walk_at "ww"
      refine put hp x2 d2 b2 a2 (by decide) ?_
      have x3 : ((H₂.set b (.list ((begs 0 (q.take (t + 1))).map V.int))).set a (.list ((q.take (t + 1)).flatten.map cellV))) x = some (.inst 261 dx) := by walk_at "hp"
      have d3 : ((H₂.set b (.list ((begs 0 (q.take (t + 1))).map V.int))).set a (.list ((q.take (t + 1)).flatten.map cellV))) dx = some (.ns (wholeNs (off ps j) (.ref b) (.ref a) true)) := by walk_at "hp"
      have s3 : Same H1 ((H₂.set b (.list ((begs 0 (q.take (t + 1))).map V.int))).set a (.list ((q.take (t + 1)).flatten.map cellV))) [b, a] := (s2.set (by simp)).set (by simp)
      have b3 : ((H₂.set b (.list ((begs 0 (q.take (t + 1))).map V.int))).set a (.list ((q.take (t + 1)).flatten.map cellV))) b = some (.list ((begs 0 (q.take (t + 1))).map V.int)) := by walk_at "hp"
      have a3 : ((H₂.set b (.list ((begs 0 (q.take (t + 1))).map V.int))).set a (.list ((q.take (t + 1)).flatten.map cellV))) a = some (.list ((q.take (t + 1)).flatten.map cellV)) := Hp.set_same ..
      rw [List.take_of_length_le (by lia)] at x3 d3 s3 b3 a3 ⊢
      generalize (H₂.set b (.list ((begs 0 q).map V.int))).set a (.list (q.flatten.map cellV)) = H3 at *
      have nFa : F ≠ a := (hFn a ha').symm
      have nFb : F ≠ b := (hFn b hb').symm
      have nFx : F ≠ x := (hFn x hx).symm
      have nFd : F ≠ dx := (hFn dx hdx).symm
      have ndb : dx ≠ b := nbd.symm
      have nxb : x ≠ b := nbx.symm
      have nda : dx ≠ a := nad.symm
      have nxa : x ≠ a := nax.symm
      have F3 : H3 F = some (.list (ws.map fun w => .ref w.x)) := s3 F _ (l1 F _ hFv) (by simp [nFa, nFb])
      walk_at "ww"
      refine ⟨lineV l.1 l.2, SubAt.list IsL.fr (by lia) (by lia) (line_at hl1), ?_⟩
      walk_at "ww"
      refine ⟨_, by walk_at "hp", by have := hw.1; have := S.z4; simp; lia, ?_⟩
      refine SX.gh (x := (Str.ofString "whole")) (W := .ref x) (by walk_at "mem") (Gh.attr (d := dx) (k := (Str.ofString "begins")) (by walk_at "hp") (Gh.lst (a := b) (by walk_at "hp")) (by walk_at "hp") (by walk_at "updg")) (by walk_at "upd") ?_
      have x4 : ((((H3.set dx (.ns (wholeNs (off ps j) (.ref b) (.ref a) (!l.2)))).set F (.list ((ws.map fun w => .ref w.x) ++ [.ref x]))).del b).set dx (.ns (wholeNs (off ps j) (.lst ((begs 0 q).map V.int)) (.ref a) (!l.2)))) x = some (.inst 261 dx) := by walk_at "hp"
      have a4 : ((((H3.set dx (.ns (wholeNs (off ps j) (.ref b) (.ref a) (!l.2)))).set F (.list ((ws.map fun w => .ref w.x) ++ [.ref x]))).del b).set dx (.ns (wholeNs (off ps j) (.lst ((begs 0 q).map V.int)) (.ref a) (!l.2)))) a = some (.list (q.flatten.map cellV)) := by walk_at "hp"
      have F4 : ((((H3.set dx (.ns (wholeNs (off ps j) (.ref b) (.ref a) (!l.2)))).set F (.list ((ws.map fun w => .ref w.x) ++ [.ref x]))).del b).set dx (.ns (wholeNs (off ps j) (.lst ((begs 0 q).map V.int)) (.ref a) (!l.2)))) F = some (.list ((ws.map fun w => .ref w.x) ++ [.ref x])) := by walk_at "hp"
      have s4 : Same H' ((((H3.set dx (.ns (wholeNs (off ps j) (.ref b) (.ref a) (!l.2)))).set F (.list ((ws.map fun w => .ref w.x) ++ [.ref x]))).del b).set dx (.ns (wholeNs (off ps j) (.lst ((begs 0 q).map V.int)) (.ref a) (!l.2)))) [F] := by
        refine Same.old (Same.delo (Same.set (Same.old ?_ hdx) (by simp)) hb') hdx
        exact (Same.of l1).trans s3 fun y hy => .inr (by simp at hy; rcases hy with rfl | rfl; exact hb'; exact ha')
      have d4 : ((((H3.set dx (.ns (wholeNs (off ps j) (.ref b) (.ref a) (!l.2)))).set F (.list ((ws.map fun w => .ref w.x) ++ [.ref x]))).del b).set dx (.ns (wholeNs (off ps j) (.lst ((begs 0 q).map V.int)) (.ref a) (!l.2)))) dx = some (.ns (wholeNs (off ps j) (.lst ((begs 0 q).map V.int)) (.ref a) (!l.2))) := Hp.set_same ..
      generalize ((((H3.set dx (.ns (wholeNs (off ps j) (.ref b) (.ref a) (!l.2)))).set F (.list ((ws.map fun w => .ref w.x) ++ [.ref x]))).del b).set dx (.ns (wholeNs (off ps j) (.lst ((begs 0 q).map V.int)) (.ref a) (!l.2)))) = H4 at *
      walk_at "ww"
      have naF : ∀ w ∈ ws, w.a ≠ a := fun w hwm e => by
        have := (hs w hwm).2.2; rw [e, ha'] at this; cases this
      have na0 : H a = none := by
        cases e : H a with
        | none => rfl
        | some d => have := hl _ _ e; rw [ha'] at this; cases this
      refine ⟨ps.length - (j + 1), by lia, j + 1, ws ++ [⟨x, dx, a, off ps j, begs 0 q, q.flatten, !l.2⟩], some (.ref x), by lia, rfl, ?_, by simpa using F4, ⟨by simp [hw.1], ?_⟩, ?_, ?_, ?_, ?_⟩
      · rw [off_succ hq, show (((off ps j + t : Nat) : Int) + 1) = ((off ps j + q.length : Nat) : Int) by lia]
      · intro i q' w hq' hw'
        by_cases hi : i < ws.length
        · rw [List.getElem?_append_left hi] at hw'; exact hw.2 i q' w hq' hw'
        · rw [List.getElem?_append_right (by lia)] at hw'
          have : i = j := by
            have := (List.getElem?_eq_some_iff.mp hw').1
            have := hw.1
            simp at *; lia
          subst this
          rw [hw.1, Nat.sub_self] at hw'
          cases hw'
          rw [hq] at hq'; cases hq'
          exact ⟨rfl, rfl, rfl⟩
      · intro w hwm
        rcases List.mem_append.mp hwm with hwm | hwm
        · refine (hs w hwm).same s4 ?_ ?_ ?_
          · have := (hs w hwm).1; simp; rintro e; rw [e, hFv] at this; cases this
          · have := (hs w hwm).2.1; simp; rintro e; rw [e, hFv] at this; cases this
          · simp; exact (hfr w hwm).2
        · simp at hwm; subst hwm; exact ⟨x4, d4, a4⟩
      · rw [List.map_append, List.nodup_append]
        refine ⟨hnd, by simp, ?_⟩
        intro y hy z hz
        simp at hz; subst hz
        obtain ⟨w, hwm, rfl⟩ := List.mem_map.mp hy
        exact naF w hwm
      · intro w hwm
        rcases List.mem_append.mp hwm with hwm | hwm
        · exact hfr w hwm
        · simp at hwm; subst hwm; exact ⟨na0, nFa.symm⟩
      · intro z d e
        exact s4 z d (hl z d e) (by simp; rintro rfl; rw [hF] at e; cases e)
  · rintro _ H' ⟨ws, o, rfl, hFv, hw, hs, hnd, hfr, hl⟩
    walk_at "ww"
    refine ⟨_, _, Gh.lst hFv, h ws _ hw (fun w hwm => ?_) hnd (fun w hwm => (hfr w hwm).1) (Less.out hl hF)⟩
    have h1 := (hs w hwm).1
    have h2 := (hs w hwm).2.1
    refine ⟨Hp.delD h1 ?_, Hp.delD h2 ?_, Hp.delD (hs w hwm).2.2 (hfr w hwm).2⟩
    · intro e; rw [e, hFv] at h1; cases h1
    · intro e; rw [e, hFv] at h2; cases h2
end PartW5
section PartW6
inductive Un where
  | one (k : Cl)
  | two (k : Int)
noncomputable def Un.cells : Un → List Cl
  | .one k => [k]
  | .two k => [.sign k 2, .right]
noncomputable def Un.fst : Un → Cl
  | .one k => k
  | .two k => .sign k 2
noncomputable def Un.w : Un → Nat
  | .one _ => 1
  | .two _ => 2
noncomputable def Un.ok : Un → Prop
  | .one k => k.wid = 1
  | .two _ => True
noncomputable def cells (us : List Un) : List Cl := us.flatMap Un.cells
theorem cells_nil : cells [] = [] := rfl
theorem cells_cons (u : Un) (r : List Un) : cells (u :: r) = u.cells ++ cells r := by simp [cells]
theorem cells_append (a b : List Un) : cells (a ++ b) = cells a ++ cells b := by simp [cells]
noncomputable def nxt (N l k w : Nat) : Nat × Nat := if N < k + min w N then (l + 1, 0) else (l, k)
noncomputable def pl (N : Nat) (p : Nat × Nat) : Un → List (Nat × Nat)
  | .one _ => [p]
  | .two _ => [p, (p.1, p.2 + min 1 (min 2 N - 1))]
noncomputable def cutGo (N : Nat) : Nat → Nat → List Un → List (Nat × Nat)
  | _, _, [] => []
  | l, k, u :: r => pl N (nxt N l k u.w) u ++ cutGo N (nxt N l k u.w).1 ((nxt N l k u.w).2 + min u.w N) r
noncomputable def cutEnd (N : Nat) : Nat → Nat → List Un → Nat
  | l, _, [] => l
  | l, k, u :: r => cutEnd N (nxt N l k u.w).1 ((nxt N l k u.w).2 + min u.w N) r
noncomputable abbrev placeV (p : Nat × Nat) : V := .tup [.int p.1, .int p.2]
theorem Un.len (u : Un) : u.cells.length = u.w := by cases u <;> rfl
theorem pl_len (N : Nat) (p : Nat × Nat) (u : Un) : (pl N p u).length = u.w := by cases u <;> rfl
theorem pl_at (N : Nat) (p : Nat × Nat) (u : Un) {i : Nat} (h : i < u.w) : (pl N p u)[i]? = some (p.1, p.2 + min i (min u.w N - 1)) := by
  cases u with
  | one k => simp [Un.w] at h; subst h; simp [pl]
  | two k =>
    simp [Un.w] at h
    rcases i with _ | _ | i
    · simp [pl]
    · simp [pl, Un.w]
    · lia
set_option maxHeartbeats 4000000 in
theorem f_cut {W : V} {us : List Un} {N : Nat} {Q : V → Hp → Prop} (hW : IsL H W ((cells us).map cellV)) (hz : (cells us).length ≤ 900) (hN : 1 ≤ N) (hN' : N ≤ 100) (hu : ∀ u ∈ us, u.ok)
    (h : ∀ pcs : List (List V), pcs.length = cutEnd N 0 0 us + 1 → (∀ pc ∈ pcs, pc.length ≤ N) → (us = [] → pcs = [[]]) → Q (.tup [.lst (pcs.map V.lst), .lst ((cutGo N 0 0 us).map placeV)]) H) : FN c 4 (.ref 307) [W, .int N] H Q := by
  refine FN.forget ?_
  refine FN.defm (by rw [c.hK]; exact rfl) [Str.ofString "cells", Str.ofString "columns"] [Str.ofString "pieces", Str.ofString "piece", Str.ofString "places", Str.ofString "at", Str.ofString "cell", Str.ofString "many", Str.ofString "part", Str.ofString "step"] [(Str.ofString "cells", some (W)), (Str.ofString "columns", some (.int N)), (Str.ofString "pieces", none), (Str.ofString "piece", none), (Str.ofString "places", none), (Str.ofString "at", none), (Str.ofString "cell", none), (Str.ofString "many", none), (Str.ofString "part", none), (Str.ofString "step", none)] (by rw [c.hK]; kernel_rfl) rfl rfl (fun vs hv => by rcases vs with _ | ⟨a0, _ | ⟨a1, _ | ⟨q, r⟩⟩⟩ <;> first | rfl | (simp at hv; done)) (by kernel_rfl) (by kernel_rfl) rfl rfl rfl fun L => ?_
  refine SX.unpack ?_
  walk_at "ww"
  refine EV.list ?_
  walk_at "ww"
  intro PS hPS
  refine ES.cons (EV.list ?_)
  walk_at "ww"
  intro P hP
  refine ES.cons (EV.list ?_)
  walk_at "ww"
  intro PL hPL
  walk_at "ww"
  have p1 := Hp.newNo hP
  have p2 := Hp.newNe hP
  have q1 := Hp.newNo hPL
  have q2 := Hp.newNe hPL
  have q3 := Hp.newNe q1
  have q4 := Hp.newNo q1
  refine SX.while2 (fun k m' H' => E12 fun (dn rs : List Un) (l col : Nat) (P : Addr) (pv : List V) (pcs : List (List V)) (plc : List (Nat × Nat)) (o1 o2 o3 o4 : Option V) => A19 (us = dn ++ rs) (k = rs.length) (m' = [((Str.ofString "cells"), some W), ((Str.ofString "columns"), some (.int N)), ((Str.ofString "pieces"), some (.ref PS)), ((Str.ofString "piece"), some (.ref P)), ((Str.ofString "places"), some (.ref PL)), ((Str.ofString "at"), some (.int ((cells dn).length : Nat))), ((Str.ofString "cell"), o1), ((Str.ofString "many"), o2), ((Str.ofString "part"), o3), ((Str.ofString "step"), o4)]) (H' P = some (.list pv)) (pv.length = col) (H' PS = some (.list (pcs.map V.lst))) (pcs.length = l) ((∀ pc ∈ pcs, pc.length ≤ N)) (col ≤ N) (H' PL = some (.list (plc.map placeV))) (plc ++ cutGo N l col rs = cutGo N 0 0 us) (cutEnd N l col rs = cutEnd N 0 0 us) (Less H H') (P ≠ PS) (P ≠ PL) (H P = none) ((dn = [] → pcs = [] ∧ pv = [])) (l ≤ (cells dn).length) (plc.length = (cells dn).length))
    (fun m' H' => E7 fun (P : Addr) (pv : List V) (pcs : List (List V)) (o1 o2 o3 o4 : Option V) => A13 (m' = [((Str.ofString "cells"), some W), ((Str.ofString "columns"), some (.int N)), ((Str.ofString "pieces"), some (.ref PS)), ((Str.ofString "piece"), some (.ref P)), ((Str.ofString "places"), some (.ref PL)), ((Str.ofString "at"), some (.int ((cells us).length : Nat))), ((Str.ofString "cell"), o1), ((Str.ofString "many"), o2), ((Str.ofString "part"), o3), ((Str.ofString "step"), o4)]) (H' P = some (.list pv)) (pv.length ≤ N) (H' PS = some (.list (pcs.map V.lst))) (pcs.length ≤ 900) (pcs.length = cutEnd N 0 0 us) ((∀ pc ∈ pcs, pc.length ≤ N)) (H' PL = some (.list ((cutGo N 0 0 us).map placeV))) (Less H H') (P ≠ PS) (P ≠ PL) (H P = none) ((us = [] → pcs = [] ∧ pv = [])))
    us.length ⟨[], us, 0, 0, P, [], [], [], none, none, none, none, rfl, rfl, rfl, by walk_at "hp", rfl, by simp only [List.map_nil]; walk_at "hp", rfl, by simp, by lia, by simp only [List.map_nil]; walk_at "hp", rfl, rfl, by walk_at "less", p2, q2.symm, p1, by simp, by simp, rfl⟩ ?_ ?_
  · rintro k _ H' ⟨dn, rs, l, col, P, pv, pcs, plc, o1, o2, o3, o4, hus, rfl, rfl, hPv, hcol, hPSv, hl, hpc, hcN, hPLv, e1, e2, hless, n1, n2, n3, n4, n5, n6⟩
    have hW' := hW.less hless
    have zc : (cells us).length = (cells dn).length + (cells rs).length := by rw [hus, cells_append, List.length_append]
    walk_at "ww"
    refine call_len ?_
    walk_at "ww"
    refine CL.len (.inr hW') (by rw [List.length_map]; lia) ?_
    walk_at "ww"
    rw [List.length_map]
    rcases rs with _ | ⟨u, r⟩
    · simp only [cells_nil, List.length_nil, Nat.add_zero] at zc
      refine ifd (fun e => by lia) fun e => ?_
      refine ⟨P, pv, pcs, o1, o2, o3, o4, by rw [zc], hPv, by lia, hPSv, by lia, by rw [hl]; exact e2, hpc, ?_, hless, n1, n2, n3, fun e => n4 ?_⟩
      · rw [← e1]; simpa [cutGo] using hPLv
      · rw [e] at hus; cases dn with
        | nil => rfl
        | cons a b => simp at hus
    have hut : u ∈ us := by rw [hus]; simp
    have zu : (cells us).length = (cells dn).length + u.w + (cells r).length := by rw [zc, cells_cons, List.length_append, Un.len]; lia
    have hw1 : 1 ≤ u.w ∧ u.w ≤ 2 := by cases u <;> simp [Un.w]
    refine ifd (fun _ => ?_) fun e => by lia
    have hat : ∀ (j : Nat) k, u.cells[j]? = some k → idx ((cells us).map cellV) (((cells dn).length : Nat) + (j : Nat) : Int) = some (cellV k) := fun j k hk => by
      rw [show (((cells dn).length : Nat) + (j : Nat) : Int) = (((cells dn).length + j : Nat) : Int) by lia]
      refine idx_at (cell_at _ ?_)
      rw [hus, cells_append, List.getElem?_append_right (by lia), Nat.add_sub_cancel_left, cells_cons, List.getElem?_append_left (List.getElem?_eq_some_iff.mp hk).1]
      exact hk
    have cut : ((cells us).map cellV).drop (cells dn).length = u.cells.map cellV ++ (cells r).map cellV := by
      rw [hus, cells_append, cells_cons, List.map_append, List.drop_left' (by simp), List.map_append]
    have hkf : idx ((cells us).map cellV) ((cells dn).length : Nat) = some (cellV u.fst) := by
      have := hat 0 u.fst (by cases u <;> rfl)
      simpa using this
    walk_at "ww"
    refine ⟨cellV u.fst, SubAt.list hW' (by lia) (by lia) hkf, ?_⟩
    walk_at "w"
    walk_at "w"
    refine EV.is (.int u.w) ?_ ?_
    · refine EV.ifexp ?_
      cases u with
      | one k =>
        have hk : k.wid = 1 := hu _ hut
        refine TT.isF ?_ (ifF ?_)
        · refine TT.all ?_
          walk_at "ww"
          exact ifd (fun e => by change k.wid = 2 at e; lia) fun e => ⟨rfl, rfl⟩
        · walk_at "ww"
          exact ⟨rfl, rfl⟩
      | two k =>
        have hk0 : (cells dn).length + 2 ≤ (cells us).length := by rw [zu]; simp [Un.w]
        refine TT.isT ?_ (ifT ?_)
        · walk_at "ww"
          refine ifT ?_
          walk_at "ww"
          refine call_len ?_
          walk_at "ww"
          refine CL.len (.inr hW') (by rw [List.length_map]; lia) ?_
          walk_at "ww"
          rw [List.length_map]
          refine ifd (fun _ => ?_) fun e => by lia
          walk_at "ww"
          refine ⟨cellV .right, SubAt.list hW' (by lia) (by lia) (by simpa using hat 1 _ rfl), ?_⟩
          walk_at "ww"
          refine ifT ?_
          walk_at "ww"
          exact ⟨rfl, rfl⟩
        · walk_at "ww"
          exact ⟨rfl, rfl⟩
    walk_at "w"
    walk_at "w"
    refine EV.slice ?_
    walk_at "ww"
    refine EV.loc (by walk_at "mem") ?_
    refine ⟨_, rfl, ?_⟩
    show EV _ _ _ _ _ _ _
    walk_at "ww"
    refine ⟨_, hW', by rw [List.length_map]; lia, fun pt hpt => ?_⟩
    rw [show (((cells dn).length : Nat) : Int) + u.w = (((cells dn).length + u.w : Nat) : Int) by lia, pick_ft, cut, Nat.add_sub_cancel_left, List.take_left' (by rw [List.length_map, Un.len])]
    walk_at "w"
    refine SX.ifP (fun m' H2 => E2 fun pt ptv => A5 (m' = [((Str.ofString "cells"), some W), ((Str.ofString "columns"), some (.int N)), ((Str.ofString "pieces"), some (.ref PS)), ((Str.ofString "piece"), some (.ref P)), ((Str.ofString "places"), some (.ref PL)), ((Str.ofString "at"), some (.int ((cells dn).length : Nat))), ((Str.ofString "cell"), some (cellV u.fst)), ((Str.ofString "many"), some (.int u.w)), ((Str.ofString "part"), some (.ref pt)), ((Str.ofString "step"), o4)]) (H2 pt = some (.list ptv)) (ptv.length = min u.w N) (Less H' H2) (H' pt = none)) ?_ ?_
    · cases u with
      | one k =>
        have hk : k.wid = 1 := hu _ hut
        refine TT.isF ?_ (ifF ?_)
        · refine TT.orB ?_
          walk_at "ww"
          refine ifd (fun e => by simp [Un.w] at e; lia) fun e => ?_
          refine TT.andB ?_
          walk_at "ww"
          refine ifd (fun _ => ?_) fun e => by simp [Un.w] at e
          walk_at "ww"
          exact ⟨by change decide (k.wid ≠ 1) = false; rw [hk]; rfl, rfl⟩
        · exact ⟨pt, _, rfl, Hp.set_same _ _ _, by simp [Un.cells, Un.w]; lia, Less.skip Less.refl hpt, hpt⟩
      | two k =>
        by_cases hN2 : 2 ≤ N
        · refine TT.isF ?_ (ifF ?_)
          · refine TT.orB ?_
            walk_at "ww"
            refine ifd (fun e => by simp [Un.w] at e; lia) fun e => ?_
            refine TT.andB ?_
            walk_at "ww"
            exact ifd (fun e => by simp [Un.w] at e) fun _ => ⟨rfl, rfl⟩
          · exact ⟨pt, _, rfl, Hp.set_same _ _ _, by simp [Un.cells, Un.w]; lia, Less.skip Less.refl hpt, hpt⟩
        · refine TT.isT ?_ (ifT ?_)
          · refine TT.orB ?_
            walk_at "ww"
            exact ifd (fun e => ⟨rfl, rfl⟩) fun e => by simp [Un.w] at e; lia
          · walk_at "w"
            refine EV.list ?_
            walk_at "w"
            refine call_blank_cell ?_
            walk_at "ww"
            refine ((f_blank ?_).le (by decide)).cl
            walk_at "ww"
            intro pt2 hpt2
            walk_at "ww"
            exact ⟨pt2, _, rfl, Hp.set_same _ _ _, by simp [Un.w]; lia, Less.skip (Less.skip Less.refl hpt) (Hp.newNo hpt2), Hp.newNo hpt2⟩
    rintro _ H2 ⟨pt, ptv, rfl, hptv, hptl, hl2, hptn⟩
    have hP2 : H2 P = some (.list pv) := hl2 _ _ hPv
    have hPS2 : H2 PS = some (.list (pcs.map V.lst)) := hl2 _ _ hPSv
    have hPL2 : H2 PL = some (.list (plc.map placeV)) := hl2 _ _ hPLv
    have hless2 : Less H H2 := hless.trans hl2
    have npP : pt ≠ P := by rintro rfl; rw [hptn] at hPv; cases hPv
    have npPS : pt ≠ PS := by rintro rfl; rw [hptn] at hPSv; cases hPSv
    have npPL : pt ≠ PL := by rintro rfl; rw [hptn] at hPLv; cases hPLv
    clear hPv hPSv hPLv
    refine SX.ifP (fun m' H3 => E3 fun (P' : Addr) (pv' : List V) (pcs' : List (List V)) => A13 (m' = [((Str.ofString "cells"), some W), ((Str.ofString "columns"), some (.int N)), ((Str.ofString "pieces"), some (.ref PS)), ((Str.ofString "piece"), some (.ref P')), ((Str.ofString "places"), some (.ref PL)), ((Str.ofString "at"), some (.int ((cells dn).length : Nat))), ((Str.ofString "cell"), some (cellV u.fst)), ((Str.ofString "many"), some (.int u.w)), ((Str.ofString "part"), some (.ref pt)), ((Str.ofString "step"), o4)]) (H3 P' = some (.list pv')) (pv'.length = (nxt N l col u.w).2) (H3 PS = some (.list (pcs'.map V.lst))) (pcs'.length = (nxt N l col u.w).1) ((∀ pc ∈ pcs', pc.length ≤ N)) (H3 PL = some (.list (plc.map placeV))) (H3 pt = some (.list ptv)) (Less H H3) (P' ≠ PS) (P' ≠ PL) (P' ≠ pt) (H P' = none)) ?_ ?_
    · walk_at "ww"
      refine call_len ?_
      walk_at "ww"
      refine CL.len (.inr (by walk_at "isl")) (by lia) ?_
      walk_at "ww"
      refine call_len ?_
      walk_at "ww"
      refine CL.len (.inr (by walk_at "isl")) (by lia) ?_
      walk_at "ww"
      refine ifd (fun e => ?_) fun e => ?_
      · refine SX.ifP (fun m' H3 => E1 fun pv2 => A3 (m' = [((Str.ofString "cells"), some W), ((Str.ofString "columns"), some (.int N)), ((Str.ofString "pieces"), some (.ref PS)), ((Str.ofString "piece"), some (.ref P)), ((Str.ofString "places"), some (.ref PL)), ((Str.ofString "at"), some (.int ((cells dn).length : Nat))), ((Str.ofString "cell"), some (cellV u.fst)), ((Str.ofString "many"), some (.int u.w)), ((Str.ofString "part"), some (.ref pt)), ((Str.ofString "step"), o4)]) (H3 = H2.set P (.list pv2)) (pv2.length ≤ N)) ?_ ?_
        · walk_at "ww"
          refine call_len ?_
          walk_at "ww"
          refine CL.len (.inr (by walk_at "isl")) (by lia) ?_
          walk_at "ww"
          refine ifd (fun e => ?_) fun e => ⟨pv, rfl, (Hp.setId hP2).symm, by lia⟩
          walk_at "ww"
          refine call_blank_cell ?_
          walk_at "ww"
          refine ((f_blank ?_).le (by decide)).cl
          walk_at "ww"
          refine ⟨_, hP2, by lia, ?_⟩
          walk_at "ww"
          exact ⟨_, rfl, rfl, by simp; lia⟩
        · rintro _ _ ⟨pv2, rfl, rfl, hpv2⟩
          refine SX.gh (x := (Str.ofString "piece")) (W := .ref P) (by walk_at "mem") (Gh.lst (a := P) (by walk_at "hp")) (by walk_at "upd") ?_
          walk_at "ww"
          refine ⟨_, by walk_at "hp", by simp; lia, ?_⟩
          walk_at "ww"
          refine EV.list ?_
          walk_at "ww"
          intro P' hP'
          have y1 := Hp.newNe hP'
          have y2 : (H2.set P (.list pv2)).del P P' = none := Hp.newNo hP'
          have y5 : P' ≠ pt := by
            rintro rfl; rw [Hp.del_ne _ npP, Hp.set_ne _ _ npP, hptv] at y2; cases y2
          have y6 : P' ≠ PL := by
            rintro rfl; rw [Hp.del_ne _ n2.symm, Hp.set_ne _ _ n2.symm, hPL2] at y2; cases y2
          have y7 : H P' = none := by
            cases z : H P' with
            | none => rfl
            | some d =>
              have : P' ≠ P := by rintro rfl; rw [n3] at z; cases z
              rw [Hp.del_ne _ this, Hp.set_ne _ _ this, hless2 _ _ z] at y2; cases y2
          walk_at "ww"
          have nx : nxt N l col u.w = (l + 1, 0) := by unfold nxt; rw [if_pos (by lia)]
          rw [nx]
          refine ⟨P', [], pcs ++ [pv2], rfl, Hp.set_same _ _ _, rfl, ?_, by simp [hl], ?_, by walk_at "hp", ?_, ?_, y1, y6, y5, y7⟩
          · simp only [List.map_append, List.map_cons, List.map_nil]; walk_at "hp"
          · intro pc hpcm
            rcases List.mem_append.mp hpcm with q | q
            · exact hpc pc q
            · simp at q; subst q; exact hpv2
          · walk_at "hp"
          · refine Less.skip ?_ y7
            refine Less.skip ?_ hPS
            refine Less.out ?_ n3
            exact Less.skip hless2 n3
      · have nx : nxt N l col u.w = (l, col) := by unfold nxt; rw [if_neg (by lia)]
        rw [nx]
        exact ⟨P, pv, pcs, rfl, hP2, hcol, hPS2, hl, hpc, hPL2, hptv, hless2, n1, n2, npP.symm, n3⟩
    rintro _ H3 ⟨P', pv', pcs', rfl, hP3, hpv3, hPS3, hpcl3, hpc3, hPL3, hpt3, hless3, m1, m2, m3, m4⟩
    have hcol3 : (nxt N l col u.w).2 + min u.w N ≤ N := by unfold nxt; split <;> simp <;> lia
    have hlz3 : (nxt N l col u.w).1 ≤ l + 1 := by unfold nxt; split <;> simp
    generalize hpp : nxt N l col u.w = pp at *
    have cg : cutGo N l col (u :: r) = pl N pp u ++ cutGo N pp.1 (pp.2 + min u.w N) r := by simp only [cutGo, hpp]
    have ce : cutEnd N l col (u :: r) = cutEnd N pp.1 (pp.2 + min u.w N) r := by simp only [cutEnd, hpp]
    refine SX.for2 (fun i m' H' => E1 fun o => A2 (m' = [((Str.ofString "cells"), some W), ((Str.ofString "columns"), some (.int N)), ((Str.ofString "pieces"), some (.ref PS)), ((Str.ofString "piece"), some (.ref P')), ((Str.ofString "places"), some (.ref PL)), ((Str.ofString "at"), some (.int ((cells dn).length : Nat))), ((Str.ofString "cell"), some (cellV u.fst)), ((Str.ofString "many"), some (.int u.w)), ((Str.ofString "part"), some (.ref pt)), ((Str.ofString "step"), o)]) (H' = H3.set PL (.list ((plc ++ (pl N pp u).take i).map placeV))))
      (fun m' H' => E1 fun o => A2 (m' = [((Str.ofString "cells"), some W), ((Str.ofString "columns"), some (.int N)), ((Str.ofString "pieces"), some (.ref PS)), ((Str.ofString "piece"), some (.ref P')), ((Str.ofString "places"), some (.ref PL)), ((Str.ofString "at"), some (.int ((cells dn).length : Nat))), ((Str.ofString "cell"), some (cellV u.fst)), ((Str.ofString "many"), some (.int u.w)), ((Str.ofString "part"), some (.ref pt)), ((Str.ofString "step"), o)]) (H' = H3.set PL (.list ((plc ++ pl N pp u).map placeV)))) ?_ ?_
    · refine IT.range (x := (Str.ofString "range")) gg_range (by kernel_rfl) (by kernel_rfl) ?_
      walk_at "ww"
      refine ⟨by lia, by lia, ⟨o4, rfl, ?_⟩, ?_, ?_⟩
      · rw [List.take_zero, List.append_nil, Hp.setId hPL3]
      · rintro i W2 _ _ hW2 ⟨o, rfl, rfl⟩
        rw [Int.toNat_natCast, List.getElem?_map] at hW2
        have hi : i < u.w := by
          by_cases q : i < u.w
          · exact q
          · rw [List.getElem?_eq_none (by simp; lia)] at hW2; cases hW2
        rw [List.getElem?_range hi] at hW2
        cases hW2
        refine AS.name (by walk_at "upd") ?_ (.inl (by exact Option.some_ne_none _))
        walk_at "ww"
        refine call_len ?_
        walk_at "ww"
        refine CL.len (.inr (by walk_at "isl")) (by simp; lia) ?_
        walk_at "ww"
        refine call_len ?_
        walk_at "ww"
        refine CL.len (.inr (by walk_at "isl")) (by lia) ?_
        walk_at "ww"
        refine call_min ?_
        walk_at "ww"
        refine call_len ?_
        walk_at "ww"
        refine CL.len (.inr (by walk_at "isl")) (by lia) ?_
        walk_at "ww"
        refine CL.min ?_
        walk_at "ww"
        refine ⟨_, Hp.set_same _ _ _, by simp [pl_len]; lia, ?_⟩
        walk_at "ww"
        refine ⟨_, rfl, ?_⟩
        rw [Hp.setSet, List.take_add_one, pl_at N pp u hi, Option.toList_some, ← List.append_assoc, List.length_map, hpcl3, hpv3, hptl]
        have hv : V.tup [.int ((pp.1 : Nat) : Int), .int (((pp.2 : Nat) : Int) + min ((i : Nat) : Int) (((min u.w N : Nat) : Int) - 1))] = placeV (pp.1, pp.2 + min i (min u.w N - 1)) := by
          show V.tup [.int _, .int _] = V.tup [.int _, .int _]
          rw [show ((pp.2 : Nat) : Int) + min ((i : Nat) : Int) (((min u.w N : Nat) : Int) - 1) = ((pp.2 + min i (min u.w N - 1) : Nat) : Int) by lia]
        rw [hv]
        simp only [List.map_append, List.map_cons, List.map_nil]
      · rintro _ _ ⟨o, rfl, rfl⟩
        refine ⟨o, rfl, ?_⟩
        simp only [List.length_map, List.length_range, Int.toNat_natCast]
        rw [List.take_of_length_le (by rw [pl_len]; lia)]
    · rintro _ _ ⟨o, rfl, rfl⟩
      walk_at "ww"
      refine ⟨_, _, by walk_at "hp", by walk_at "isl", by lia, ?_⟩
      walk_at "ww"
      refine ⟨r.length, by simp, dn ++ [u], r, pp.1, pp.2 + min u.w N, P', _, pcs', plc ++ pl N pp u, some (cellV u.fst), some (.int u.w), some (.ref pt), o, by rw [hus]; simp, rfl, ?_, Hp.set_same _ _ _, by simp; lia, by walk_at "hp", hpcl3, hpc3, hcol3, by walk_at "hp", by rw [List.append_assoc, ← cg]; exact e1, by rw [← ce]; exact e2, ?_, m1, m2, m4, by simp, ?_, ?_⟩
      · rw [cells_append, List.length_append, cells_cons, cells_nil, List.append_nil, Un.len]
        rfl
      · exact Less.skip (Less.skip hless3 q4) m4
      · rw [cells_append, List.length_append, cells_cons, cells_nil, List.append_nil, Un.len]; lia
      · simp only [cells_append, List.length_append, cells_cons, cells_nil, List.append_nil, Un.len, pl_len, n6]
  · rintro _ H' ⟨P, pv, pcs, o1, o2, o3, o4, rfl, hPv, hpvl, hPSv, hpcz, hpcl, hpc, hPLv, hless, n1, n2, n3, n4⟩
    have n7 : pcs.length ≤ 900 ∧ (us = [] → pcs = [] ∧ pv = []) := ⟨hpcz, n4⟩
    refine SX.gh (x := (Str.ofString "piece")) (W := .ref P) (by walk_at "mem") (Gh.lst (a := P) (by walk_at "hp")) (by walk_at "upd") ?_
    walk_at "ww"
    refine ⟨_, by walk_at "hp", by simp; lia, ?_⟩
    refine SX.gh (x := (Str.ofString "pieces")) (W := .ref PS) (by walk_at "mem") (Gh.lst (a := PS) (by walk_at "hp")) (by walk_at "upd") ?_
    have q5 : PL ≠ PS := q3
    have q6 : PL ≠ P := n2.symm
    refine SX.gh (x := (Str.ofString "places")) (W := .ref PL) (by walk_at "mem") (Gh.lst (a := PL) (by walk_at "hp")) (by walk_at "upd") ?_
    walk_at "ww"
    refine ⟨H, ?_, ?_⟩
    · refine Less.out (Less.out (Less.skip (Less.out hless n3) hPS) hPS) q4
    · have := h (pcs ++ [pv]) (by simp [hpcl]) (fun pc hm => by
        rcases List.mem_append.mp hm with q | q
        · exact hpc pc q
        · simp at q; subst q; exact hpvl) (fun e => by obtain ⟨e1, e2⟩ := n4 e; rw [e1, e2]; rfl)
      simpa using this
end PartW6
section PartW7
noncomputable def plA (N : Nat) (us : List Un) (o : Nat) : Nat × Nat := ((cutGo N 0 0 us)[o]?).getD (0, 0)
theorem f_place {pcs : List (List V)} {us : List Un} {N o : Nat} {Q : V → Hp → Prop} (hz : (cutGo N 0 0 us).length ≤ 1000) (ho : o < (cutGo N 0 0 us).length ∨ (us = [] ∧ pcs = [[]])) (hz' : o ≤ 1000)
    (h : Q (placeV (plA N us o)) H) : FN c 1 (.ref 314) [.lst (pcs.map V.lst), .lst ((cutGo N 0 0 us).map placeV), .int o] H Q := by
  refine FN.defm (by rw [c.hK]; exact rfl) [Str.ofString "pieces", Str.ofString "places", Str.ofString "offset"] [] [(Str.ofString "pieces", some (.lst (pcs.map V.lst))), (Str.ofString "places", some (.lst ((cutGo N 0 0 us).map placeV))), (Str.ofString "offset", some (.int o))] (by rw [c.hK]; kernel_rfl) rfl rfl (fun vs hv => by rcases vs with _ | ⟨a0, _ | ⟨a1, _ | ⟨a2, _ | ⟨q, r⟩⟩⟩⟩ <;> first | rfl | (simp at hv; done)) (by kernel_rfl) (by kernel_rfl) rfl rfl rfl fun L => ?_
  walk_at "ww"
  refine call_len ?_
  walk_at "ww"
  refine CL.len (.inr IsL.fr) (by simp; lia) ?_
  walk_at "ww"
  rw [List.length_map]
  refine ifd (fun e => ?_) fun e => ?_
  · obtain ⟨p, hp⟩ : ∃ p, (cutGo N 0 0 us)[o]? = some p := ⟨_, List.getElem?_eq_getElem (by lia)⟩
    unfold plA at h
    rw [hp] at h
    walk_at "ww"
    refine ⟨placeV p, SubAt.list IsL.fr (by lia) (by lia) (idx_at (by rw [List.getElem?_map, hp]; rfl)), ?_⟩
    walk_at "ww"
    exact h
  · rcases ho with ho | ⟨rfl, rfl⟩
    · lia
    walk_at "ww"
    refine call_len ?_
    walk_at "ww"
    refine CL.len (.inr IsL.fr) (by simp) ?_
    walk_at "ww"
    refine call_len ?_
    walk_at "ww"
    refine ⟨.lst [], SubAt.list IsL.fr (by decide) (by decide) (idx_last rfl), ?_⟩
    walk_at "ww"
    refine CL.len (.inr IsL.fr) (by simp) ?_
    walk_at "ww"
    exact h
theorem f_reflow_line {pv : List V} {N : Nat} {b : Bool} {Q : V → Hp → Prop} (hN : N ≤ 100) (hp : pv.length ≤ N) (h : ∀ x, Q (.ref x) H) : FN c 6 (.ref 321) [.lst pv, .int N, .bool b] H Q := by
  refine FN.forget ?_
  refine FN.defm (by rw [c.hK]; exact rfl) [Str.ofString "piece", Str.ofString "columns", Str.ofString "is_wrapped"] [Str.ofString "line", Str.ofString "column", Str.ofString "cell"] [(Str.ofString "piece", some (.lst pv)), (Str.ofString "columns", some (.int N)), (Str.ofString "is_wrapped", some (.bool b)), (Str.ofString "line", none), (Str.ofString "column", none), (Str.ofString "cell", none)] (by rw [c.hK]; kernel_rfl) rfl rfl (fun vs hv => by rcases vs with _ | ⟨a0, _ | ⟨a1, _ | ⟨a2, _ | ⟨q, r⟩⟩⟩⟩ <;> first | rfl | (simp at hv; done)) (by kernel_rfl) (by kernel_rfl) rfl rfl rfl fun L => ?_
  walk_at "w"
  refine call_Line ?_
  walk_at "ww"
  refine make_204 fun x dx nxd hx hdx => ?_
  refine (f_Line_init (by walk_at "hp") (by walk_at "hp") (by lia) (by lia) fun a ha => ⟨rfl, ?_⟩).le (by decide)
  have nax : a ≠ x := Hp.newNe ha
  have nad : a ≠ dx := Hp.newNe (Hp.newNo ha)
  have na : H a = none := Hp.newNo (Hp.newNo ha)
  generalize hH1 : (((H.set dx (.ns [])).set x (.inst 204 dx)).set a (.list (List.replicate ((N : Nat) : Int).toNat (cellV .blank)))).set dx _ = H1
  have hx2 : H1 x = some (.inst 204 dx) := by subst hH1; walk_at "hp"
  have hd2 : H1 dx = some (.ns [((Str.ofString "cells"), .ref a), ((Str.ofString "is_wrapped"), .bool false), ((Str.ofString "size"), single)]) := by subst hH1; exact Hp.set_same ..
  have ha2 : H1 a = some (.list (List.replicate N (cellV .blank))) := by subst hH1; rw [Int.toNat_natCast]; walk_at "hp"
  have l1 : Less H H1 := by subst hH1; walk_at "less"
  clear hH1 ha
  walk_at "w"
  refine SX.for2 (fun i m' H' => E3 fun o1 o2 vs => A3 (m' = [((Str.ofString "piece"), some (.lst pv)), ((Str.ofString "columns"), some (.int N)), ((Str.ofString "is_wrapped"), some (.bool b)), ((Str.ofString "line"), some (.ref x)), ((Str.ofString "column"), o1), ((Str.ofString "cell"), o2)]) (H' = H1.set a (.list vs)) (vs.length = N))
    (fun m' H' => E3 fun o1 o2 vs => A3 (m' = [((Str.ofString "piece"), some (.lst pv)), ((Str.ofString "columns"), some (.int N)), ((Str.ofString "is_wrapped"), some (.bool b)), ((Str.ofString "line"), some (.ref x)), ((Str.ofString "column"), o1), ((Str.ofString "cell"), o2)]) (H' = H1.set a (.list vs)) (vs.length = N)) ?_ ?_
  · refine IT.enum gg_enumerate (by kernel_rfl) (by kernel_rfl) ?_
    walk_at "ww"
    refine ⟨_, rfl, ⟨none, none, _, rfl, (Hp.setId ha2).symm, by simp⟩, ?_, fun m H i => i⟩
    rintro i W2 _ _ hW2 ⟨o1, o2, vs, rfl, rfl, hvs⟩
    rw [List.getElem?_zipWith] at hW2
    split at hW2
    · rename_i i' X e1 e2
      cases hW2
      have hi := (List.getElem?_eq_some_iff.mp e2).1
      rw [List.getElem?_range hi] at e1
      cases e1
      refine AS.tuple (.inl rfl) rfl ?_
      refine AS.name (by walk_at "upd") ?_ (.inl (by exact Option.some_ne_none _))
      refine AS.name (by walk_at "upd") ?_ (.inl (by exact Option.some_ne_none _))
      refine SX.setitem ?_
      walk_at "ww"
      refine ⟨_, _, _, rfl, Hp.set_same .., rfl, by lia, by lia, by lia, ?_⟩
      walk_at "ww"
      exact ⟨_, _, _, rfl, Hp.setSet, by simp [hvs]⟩
    · cases hW2
  · rintro _ _ ⟨o1, o2, vs, rfl, rfl, hvs⟩
    walk_at "ww"
    refine ⟨H, ?_, h x⟩
    refine Less.skip (Less.skip l1 na) hdx
end PartW7
section PartW8
structure Sp where
  g : Nat
  b : Nat
  size : V
  pcs : List (List V)
  us : List Un
noncomputable def Sp.v (N : Nat) (s : Sp) : V := .tup [.int s.g, .int s.b, s.size, .lst (s.pcs.map V.lst), .lst ((cutGo N 0 0 s.us).map placeV)]
noncomputable abbrev cutNs (N : Nat) (L : V) (f r k : Int) (w : Bool) (S : V) : List (Str × V) := [((Str.ofString "columns"), .int N), ((Str.ofString "lines"), L), ((Str.ofString "first"), .int f), ((Str.ofString "row"), .int r), ((Str.ofString "column"), .int k), ((Str.ofString "is_waiting"), .bool w), ((Str.ofString "spots"), S)]
noncomputable def Sp.ok (N : Nat) (s : Sp) (o : Nat) : Prop := (cutGo N 0 0 s.us).length ≤ 1000 ∧ (o < (cutGo N 0 0 s.us).length ∨ (s.us = [] ∧ s.pcs = [[]])) ∧ o ≤ 1000 ∧ s.g ≤ 100000
theorem f_place_of {N i k : Nat} {L : V} {f r kk : Int} {w : Bool} {sp : List Sp} {s : Sp} {Q : V → Hp → Prop} (hz : sp.length ≤ 1000) (hN : N ≤ 100) (hs : sp[i]? = some s) (hk : s.size = .none ∨ ∃ z : Int, s.size = .int z ∧ (k : Int) < z) (hok : s.ok N (s.b + k))
    (h : Q (.tup [.int ((s.g + (plA N s.us (s.b + k)).1 : Nat) : Int), .int (min ((plA N s.us (s.b + k)).2 : Int) ((N : Int) - 1))]) H) : FN c 2 (.ref 356) [.obj 373 (cutNs N L f r kk w (.lst (sp.map (Sp.v N)))), .int i, .int k] H Q := by
  have hi := (List.getElem?_eq_some_iff.mp hs).1
  refine FN.defm (by rw [c.hK]; exact rfl) [Str.ofString "self", Str.ofString "number", Str.ofString "column"] [Str.ofString "begun", Str.ofString "begin", Str.ofString "size", Str.ofString "pieces", Str.ofString "places", Str.ofString "place"] [(Str.ofString "self", some (.obj 373 (cutNs N L f r kk w (.lst (sp.map (Sp.v N)))))), (Str.ofString "number", some (.int i)), (Str.ofString "column", some (.int k)), (Str.ofString "begun", none), (Str.ofString "begin", none), (Str.ofString "size", none), (Str.ofString "pieces", none), (Str.ofString "places", none), (Str.ofString "place", none)] (by rw [c.hK]; kernel_rfl) rfl rfl (fun vs hv => by rcases vs with _ | ⟨a0, _ | ⟨a1, _ | ⟨a2, _ | ⟨q, r⟩⟩⟩⟩ <;> first | rfl | (simp at hv; done)) (by kernel_rfl) (by kernel_rfl) rfl rfl rfl fun L => ?_
  refine SX.if1 (TT.isF ?_ (ifF ?_))
  · refine TT.tnot ?_
    walk_at "ww"
    refine ifd (fun _ => ?_) fun e => by lia
    refine call_len ?_
    walk_at "ww"
    refine CL.len (.inr IsL.fr) (by simp; lia) ?_
    walk_at "ww"
    rw [List.length_map]
    exact ⟨by rw [decide_eq_true (by lia)]; rfl, rfl⟩
  refine SX.unpack ?_
  walk_at "ww"
  refine ⟨s.v N, SubAt.list IsL.fr (by lia) (by lia) (idx_at (by rw [List.getElem?_map, hs]; rfl)), ?_⟩
  refine AS.tuple (.inl rfl) rfl ?_
  refine AS.name (by walk_at "upd") ?_ (.inl (by exact Option.some_ne_none _))
  refine AS.name (by walk_at "upd") ?_ (.inl (by exact Option.some_ne_none _))
  refine AS.name (by walk_at "upd") ?_ (.inl (by exact Option.some_ne_none _))
  refine AS.name (by walk_at "upd") ?_ (.inl (by exact Option.some_ne_none _))
  refine AS.name (by walk_at "upd") ?_ (.inl (by exact Option.some_ne_none _))
  refine SX.if1 (TT.isF ?_ (ifF ?_))
  · walk_at "ww"
    exact ⟨rfl, rfl⟩
  walk_at "w"
  refine call_reflow_place ?_
  refine ES.cons (EV.loc (by walk_at "mem") ?_)
  refine ES.cons (EV.loc (by walk_at "mem") ?_)
  refine ES.cons (EV.is (.int ((s.b + k : Nat) : Int)) ?_ ?_)
  · walk_at "w"
    refine EV.loc (by walk_at "mem") ?_
    refine EV.is (.int k) ?_ ?_
    · refine EV.ifexp ?_
      walk_at "ww"
      rcases hk with e | ⟨z, e, hz⟩
      · rw [e]
        refine ifT ?_
        walk_at "ww"
        exact ⟨rfl, rfl⟩
      · rw [e]
        refine ifF ?_
        refine call_min ?_
        walk_at "ww"
        refine call_max ?_
        walk_at "ww"
        refine CL.max ?_
        walk_at "ww"
        refine CL.min ?_
        refine ⟨?_, rfl⟩
        rw [show min (k : Int) (max 0 (z - 1)) = k by lia]
    · walk_at "ww"
      exact ⟨rfl, rfl⟩
  walk_at "ww"
  refine ((f_place hok.1 hok.2.1 hok.2.2.1 ?_).le (by decide)).cl
  walk_at "ww"
  refine call_min ?_
  walk_at "ww"
  refine CL.min ?_
  walk_at "ww"
  exact h
theorem f_place_none {N : Nat} {i k : Int} {L : V} {f r kk : Int} {w : Bool} {sp : List Sp} {Q : V → Hp → Prop} (hz : sp.length ≤ 1000) (hi : i < 0 ∨ (sp.length : Int) ≤ i)
    (h : Q .none H) : FN c 2 (.ref 356) [.obj 373 (cutNs N L f r kk w (.lst (sp.map (Sp.v N)))), .int i, .int k] H Q := by
  refine FN.defm (by rw [c.hK]; exact rfl) [Str.ofString "self", Str.ofString "number", Str.ofString "column"] [Str.ofString "begun", Str.ofString "begin", Str.ofString "size", Str.ofString "pieces", Str.ofString "places", Str.ofString "place"] [(Str.ofString "self", some (.obj 373 (cutNs N L f r kk w (.lst (sp.map (Sp.v N)))))), (Str.ofString "number", some (.int i)), (Str.ofString "column", some (.int k)), (Str.ofString "begun", none), (Str.ofString "begin", none), (Str.ofString "size", none), (Str.ofString "pieces", none), (Str.ofString "places", none), (Str.ofString "place", none)] (by rw [c.hK]; kernel_rfl) rfl rfl (fun vs hv => by rcases vs with _ | ⟨a0, _ | ⟨a1, _ | ⟨a2, _ | ⟨q, r⟩⟩⟩⟩ <;> first | rfl | (simp at hv; done)) (by kernel_rfl) (by kernel_rfl) rfl rfl rfl fun L => ?_
  refine SX.if1 (TT.isT ?_ (ifT ?_))
  · refine TT.tnot ?_
    walk_at "ww"
    refine ifd (fun _ => ?_) fun e => ⟨rfl, rfl⟩
    refine call_len ?_
    walk_at "ww"
    refine CL.len (.inr IsL.fr) (by simp; lia) ?_
    walk_at "ww"
    rw [List.length_map]
    exact ⟨by rw [decide_eq_false (by lia)]; rfl, rfl⟩
  · walk_at "ww"
    exact h
end PartW8
section PartW9
noncomputable def inP (f n x : Nat) : Bool := decide (f ≤ x) && decide (x < f + n)
theorem inP_iff {f n x : Nat} : inP f n x = true ↔ f ≤ x ∧ x < f + n := by simp [inP]
noncomputable def us2 (hc : Bool) (us : List Un) : List Un := if hc && us.isEmpty then [.one .blank] else us
theorem us2_ne {hc : Bool} {us : List Un} (h : us ≠ []) : us2 hc us = us := by unfold us2; cases us <;> simp at h ⊢
theorem us2_f {us : List Un} : us2 false us = us := rfl
noncomputable def zs (bs : List Nat) : List Int := bs.map fun (b : Nat) => (b : Int)
theorem zs_len {bs : List Nat} : (zs bs).length = bs.length := by simp [zs]
theorem zs_at {bs : List Nat} {t b : Nat} (h : bs[t]? = some b) : (zs bs)[t]? = some (b : Int) := by unfold zs; rw [List.getElem?_map, h]; rfl
noncomputable def mkSpots (g : Nat) (us : List Un) (pcs : List (List V)) (bs : List Nat) : List Sp := (List.range bs.length).map fun t => ⟨g, bs.getD t 0, sizeV (zs bs) t, pcs, us⟩
theorem mkSpots_len {g : Nat} {us : List Un} {pcs : List (List V)} {bs : List Nat} : (mkSpots g us pcs bs).length = bs.length := by simp [mkSpots]
theorem mkSpots_at {g : Nat} {us : List Un} {pcs : List (List V)} {bs : List Nat} {t : Nat} {b : Nat} (h : bs[t]? = some b) : (mkSpots g us pcs bs)[t]? = some ⟨g, b, sizeV (zs bs) t, pcs, us⟩ := by
  have ht := (List.getElem?_eq_some_iff.mp h).1
  unfold mkSpots
  rw [List.getElem?_map, List.getElem?_range ht]
  simp [List.getD, h]
theorem cutGo_len (N : Nat) : ∀ (us : List Un) (l k : Nat), (cutGo N l k us).length = (cells us).length
  | [], _, _ => rfl
  | u :: r, l, k => by simp only [cutGo, List.length_append, pl_len, cutGo_len N r, cells_cons, Un.len]
theorem cutEnd_le (N : Nat) : ∀ (us : List Un) (l k : Nat), cutEnd N l k us ≤ l + (cells us).length
  | [], _, _ => Nat.le_refl _
  | u :: r, l, k => by
    have h := cutEnd_le N r (nxt N l k u.w).1 ((nxt N l k u.w).2 + min u.w N)
    have h2 : (nxt N l k u.w).1 ≤ l + 1 := by unfold nxt; split <;> simp
    have h3 : 1 ≤ u.w := by cases u <;> simp [Un.w]
    rw [cells_cons, List.length_append, Un.len]
    simp only [cutEnd]
    lia
theorem us2_len {hc : Bool} {us : List Un} : (cells (us2 hc us)).length ≤ (cells us).length + 1 := by
  unfold us2
  split
  · simp [cells, Un.cells]
  · lia
noncomputable abbrev putM (X wx : Addr) (lns : V) (fi here g lst : Nat) (hc : Bool) (o : Nat) (pcs : List (List V)) (pls : List (Nat × Nat)) (a1 a2 a3 a4 a5 a6 : Option V) : Vm :=
  [((Str.ofString "self"), some (.ref X)), ((Str.ofString "whole"), some (.ref wx)), ((Str.ofString "lines"), some lns), ((Str.ofString "first"), some (.int fi)), ((Str.ofString "cursor"), some (.tup [.int here, .int 0, .bool false])), ((Str.ofString "begun"), some (.int g)), ((Str.ofString "last"), some (.int lst)), ((Str.ofString "has_cursor"), some (.bool hc)), ((Str.ofString "offset"), some (.int o)), ((Str.ofString "is_free"), some (.bool false)),
      ((Str.ofString "pieces"), some (.lst (pcs.map V.lst))), ((Str.ofString "places"), some (.lst (pls.map placeV))), ((Str.ofString "is_behind"), some (.bool false)), ((Str.ofString "at"), a1), ((Str.ofString "begin"), a2), ((Str.ofString "number"), a3), ((Str.ofString "piece"), a4), ((Str.ofString "is_wrapped"), a5), ((Str.ofString "place"), a6)]
set_option maxHeartbeats 4000000 in
theorem f_put {X D Lr Sr : Addr} {N f0 here fi : Nat} {f r k : Int} {w : Wh} {us : List Un} {bs : List Nat} {lv sv : List V} {lns : V} {Q : V → Hp → Prop}
    (hX : H X = some (.inst 373 D)) (hD : H D = some (.ns (cutNs N (.ref Lr) f r k false (.ref Sr)))) (hL : H Lr = some (.list lv)) (hS : H Sr = some (.list sv)) (hw : Has H w)
    (nLS : Lr ≠ Sr) (naL : w.a ≠ Lr) (naS : w.a ≠ Sr) (hcs : w.cs = cells us) (hbs : w.bs = zs bs) (hf : w.f = (f0 : Int)) (hN : 1 ≤ N) (hN' : N ≤ 100) (hu : ∀ u ∈ us, u.ok)
    (z1 : (cells us).length ≤ 800) (z2 : bs.length ≤ 800) (z3 : lv.length ≤ 100000) (z4 : sv.length ≤ 100000) (z5 : 0 < bs.length) (hb : ∀ b ∈ bs, (us ≠ [] → b < (cells us).length) ∧ (us = [] → b = 0))
    (h : ∀ (pcs : List (List V)) (nl : List V) H', nl.length = cutEnd N 0 0 (us2 (inP f0 bs.length here) us) + 1 → (us2 (inP f0 bs.length here) us = [] → pcs = [[]]) →
      H' D = some (.ns (cutNs N (.ref Lr) (if inP f0 bs.length fi = true then ((lv.length + (plA N (us2 (inP f0 bs.length here) us) (bs.getD (fi - f0) 0)).1 : Nat) : Int) else f)
        (if inP f0 bs.length here = true then ((lv.length + (plA N (us2 (inP f0 bs.length here) us) (bs.getD (here - f0) 0)).1 : Nat) : Int) else r)
        (if inP f0 bs.length here = true then min ((plA N (us2 (inP f0 bs.length here) us) (bs.getD (here - f0) 0)).2 : Int) ((N : Int) - 1) else k) false (.ref Sr))) →
      H' Lr = some (.list (lv ++ nl)) → H' Sr = some (.list (sv ++ (mkSpots lv.length (us2 (inP f0 bs.length here) us) pcs bs).map (Sp.v N))) → Same H H' [D, Lr, Sr, w.a] → Q .none H') :
    FN c 9 (.ref 342) [.ref X, .ref w.x, lns, .int fi, .tup [.int here, .int 0, .bool false]] H Q := by
  generalize hhc : inP f0 bs.length here = hc at *
  obtain ⟨hwx, hwd, hwa⟩ := hw
  rw [hcs] at hwa
  rw [hbs, hf] at hwd
  have hbl : w.bs.length = bs.length := by rw [hbs, zs_len]
  refine FN.defm (by rw [c.hK]; exact rfl) [Str.ofString "self", Str.ofString "whole", Str.ofString "lines", Str.ofString "first", Str.ofString "cursor"] [Str.ofString "begun", Str.ofString "last", Str.ofString "has_cursor", Str.ofString "offset", Str.ofString "is_free", Str.ofString "pieces", Str.ofString "places", Str.ofString "is_behind", Str.ofString "at", Str.ofString "begin", Str.ofString "number", Str.ofString "piece", Str.ofString "is_wrapped", Str.ofString "place"] [(Str.ofString "self", some (.ref X)), (Str.ofString "whole", some (.ref w.x)), (Str.ofString "lines", some (lns)), (Str.ofString "first", some (.int fi)), (Str.ofString "cursor", some (.tup [.int here, .int 0, .bool false])), (Str.ofString "begun", none), (Str.ofString "last", none), (Str.ofString "has_cursor", none), (Str.ofString "offset", none), (Str.ofString "is_free", none), (Str.ofString "pieces", none), (Str.ofString "places", none), (Str.ofString "is_behind", none), (Str.ofString "at", none), (Str.ofString "begin", none), (Str.ofString "number", none), (Str.ofString "piece", none), (Str.ofString "is_wrapped", none), (Str.ofString "place", none)] (by rw [c.hK]; kernel_rfl) rfl rfl (fun vs hv => by rcases vs with _ | ⟨a0, _ | ⟨a1, _ | ⟨a2, _ | ⟨a3, _ | ⟨a4, _ | ⟨q, r⟩⟩⟩⟩⟩⟩ <;> first | rfl | (simp at hv; done)) (by kernel_rfl) (by kernel_rfl) rfl rfl rfl fun L => ?_
  refine SX.swap2 ?_
  walk_at "ww"
  refine call_len ?_
  walk_at "ww"
  refine CL.len (.inr (by walk_at "isl")) (by lia) ?_
  walk_at "ww"
  refine call_len ?_
  walk_at "ww"
  refine CL.len (.inr IsL.fr) (by rw [List.length_map, zs_len]; lia) ?_
  walk_at "ww"
  rw [List.length_map, zs_len]
  refine ⟨_, _, rfl, ?_⟩
  walk_at "w"
  walk_at "w"
  rw [show (f0 : Int) + (bs.length : Nat) - 1 = ((f0 + bs.length - 1 : Nat) : Int) by lia]
  refine SX.if1 (TT.isF ?_ (ifF ?_))
  · walk_at "ww"
    refine ne_single ?_
    exact ⟨rfl, rfl⟩
  walk_at "w"
  refine EV.is (.bool hc) ?_ ?_
  · walk_at "ww"
    refine ifd (fun e1 => ?_) fun e1 => ?_
    · walk_at "ww"
      refine ⟨?_, rfl⟩
      rw [← hhc]; unfold inP
      rw [decide_eq_true (by lia : f0 ≤ here), Bool.true_and]
      exact congrArg V.bool (decide_eq_decide.mpr (by lia))
    · refine ⟨?_, rfl⟩
      rw [← hhc]; unfold inP
      rw [decide_eq_false (by lia : ¬ f0 ≤ here)]; rfl
  walk_at "w"
  obtain ⟨o, ho1, ho2⟩ : ∃ o : Nat, (hc = true → bs[here - f0]? = some o ∧ f0 ≤ here ∧ here < f0 + bs.length) ∧ (hc = false → o = 0) := by
    cases hc with
    | false => exact ⟨0, fun e => (by cases e), fun _ => rfl⟩
    | true =>
      have := inP_iff.mp hhc
      exact ⟨bs[here - f0]'(by lia), fun _ => ⟨List.getElem?_eq_getElem _, this.1, this.2⟩, fun e => (by cases e)⟩
  have hgo : hc = true → bs.getD (here - f0) 0 = o := fun e => by rw [List.getD_eq_getElem?_getD, (ho1 e).1]; rfl
  have hob : o ≤ 800 ∧ (us ≠ [] → 0 < (cells us).length → o < (cells us).length) ∧ (us = [] → o = 0) := by
    cases hc with
    | false => have := ho2 rfl; exact ⟨by lia, fun _ _ => by lia, fun _ => this⟩
    | true =>
      have hm := hb o (List.mem_of_getElem? (ho1 rfl).1)
      refine ⟨?_, fun e _ => hm.1 e, hm.2⟩
      by_cases e : us = []
      · rw [hm.2 e]; lia
      · have := hm.1 e; lia
  have hcz : us ≠ [] → 0 < (cells us).length := fun e => by
    cases us with
    | nil => exact absurd rfl e
    | cons u r => rw [cells_cons, List.length_append, Un.len]; cases u <;> simp [Un.w] <;> lia
  have hWO : IsO H (.ref w.x) 261 (wholeNs (f0 : Int) (.lst ((zs bs).map V.int)) (.ref w.a) w.w) := IsO.own hwx hwd
  refine SX.unpack ?_
  refine EV.is (.tup [.int ((o : Nat) : Int), .bool false]) ?_ ?_
  · refine EV.ifexp ?_
    walk_at "ww"
    refine ifb (fun e => ?_) fun e => ?_
    · obtain ⟨q1, q2, q3⟩ := ho1 e
      refine meth_261_offset_of ?_
      walk_at "ww"
      rw [show (here : Int) - (f0 : Int) = ((here - f0 : Nat) : Int) by lia]
      refine ((f_LL_offset hWO (by rw [zs_len]; lia) (zs_at q1) ?_).le (by decide)).cl
      exact ⟨rfl, rfl⟩
    · walk_at "ww"
      rw [ho2 e]
      exact ⟨rfl, rfl⟩
  iterate 6 walk_at "w"
  refine SX.unpack ?_
  refine call_cut_with_places ?_
  walk_at "ww"
  refine ((f_cut (us := us) (IsL.own hwa) (by lia) hN hN' hu fun pcs hpl hpN hp0 => ?_).le (by decide)).cl
  iterate 6 walk_at "w"
  walk_at "w"
  refine EV.is (.bool false) ?_ ?_
  · walk_at "ww"
    refine ifb (fun e => ?_) fun e => ⟨rfl, rfl⟩
    walk_at "ww"
    refine ifT ?_
    walk_at "ww"
    refine call_len ?_
    walk_at "ww"
    refine CL.len (.inr (by walk_at "isl")) (by rw [List.length_map]; lia) ?_
    walk_at "ww"
    rw [List.length_map]
    by_cases eu : us = []
    · refine ifd (fun e1 => by rw [eu] at e1; simp [cells_nil] at e1) fun e1 => ?_
      exact ⟨_, rfl, ifF ⟨rfl, rfl⟩⟩
    · have l1 := hcz eu
      have l2 := hob.2.1 eu l1
      refine ifd (fun e1 => ?_) fun e1 => by lia
      walk_at "ww"
      rw [decide_eq_false (by lia)]
      exact ifF ⟨rfl, rfl⟩
  walk_at "w"
  refine SX.ifP (fun m' H' => E1 fun (pcs : List (List V)) => A5 (m' = [((Str.ofString "self"), some (.ref X)), ((Str.ofString "whole"), some (.ref w.x)), ((Str.ofString "lines"), some lns), ((Str.ofString "first"), some (.int fi)), ((Str.ofString "cursor"), some (.tup [.int here, .int 0, .bool false])), ((Str.ofString "begun"), some (.int (lv.length : Nat))), ((Str.ofString "last"), some (.int ((f0 + bs.length - 1 : Nat) : Int))), ((Str.ofString "has_cursor"), some (.bool hc)), ((Str.ofString "offset"), some (.int ((o : Nat) : Int))), ((Str.ofString "is_free"), some (.bool false)),
      ((Str.ofString "pieces"), some (.lst (pcs.map V.lst))), ((Str.ofString "places"), some (.lst ((cutGo N 0 0 (us2 hc us)).map placeV))), ((Str.ofString "is_behind"), some (.bool false)), ((Str.ofString "at"), none), ((Str.ofString "begin"), none), ((Str.ofString "number"), none), ((Str.ofString "piece"), none), ((Str.ofString "is_wrapped"), none), ((Str.ofString "place"), none)]) (pcs.length = cutEnd N 0 0 (us2 hc us) + 1) ((∀ pc ∈ pcs, pc.length ≤ N)) ((us2 hc us = [] → pcs = [[]])) (Same H H' [w.a])) ?_ ?_
  · refine TT.andB ?_
    walk_at "ww"
    refine ifb (fun e => ?_) fun e => by subst e; exact ⟨pcs, rfl, hpl, hpN, hp0, Same.refl⟩
    walk_at "ww"
    refine ifT ?_
    walk_at "w"
    refine meth_261_kept_to ?_
    walk_at "ww"
    rw [show ((o : Nat) : Int) + 1 = ((o + 1 : Nat) : Int) by lia]
    refine ((f_LL_kept (k := o + 1) hwx hwd hwa (by lia) (by lia) ?_).le (by decide)).cl
    have e2 : cells us ++ List.replicate (o + 1 - (cells us).length) Cl.blank = cells (us2 hc us) := by
      by_cases eu : us = []
      · rw [hob.2.2 eu, eu, e]; rfl
      · rw [us2_ne eu]
        have := hob.2.1 eu (hcz eu)
        rw [show o + 1 - (cells us).length = 0 by lia]; simp
    rw [e2]
    have hz2 : (cells (us2 hc us)).length ≤ 900 := by rw [← e2, List.length_append, List.length_replicate]; lia
    have hu2 : ∀ u ∈ us2 hc us, u.ok := by
      unfold us2
      split
      · intro u hm; simp at hm; subst hm; rfl
      · exact hu
    have nxa : w.x ≠ w.a := by intro e; rw [e, hwa] at hwx; cases hwx
    have nda : w.dx ≠ w.a := by intro e; rw [e, hwa] at hwd; cases hwd
    have nXa : X ≠ w.a := by rintro rfl; rw [hX] at hwa; cases hwa
    have nDa : D ≠ w.a := by rintro rfl; rw [hD] at hwa; cases hwa
    refine SX.unpack ?_
    refine call_cut_with_places ?_
    walk_at "ww"
    refine ((f_cut (us := us2 hc us) (IsL.own (Hp.set_same ..)) hz2 hN hN' hu2 fun pcs2 hpl2 hpN2 hp02 => ?_).le (by decide)).cl
    walk_at "ww"
    exact ⟨pcs2, rfl, hpl2, hpN2, hp02, Same.refl.set (by simp)⟩
  clear hpl hpN hp0
  rintro _ H7 ⟨pcs, rfl, hpl, hpN, hp0, hs7⟩
  have x7 := hs7 _ _ hwx (by simp; intro e; rw [e, hwa] at hwx; cases hwx)
  have d7 := hs7 _ _ hwd (by simp; intro e; rw [e, hwa] at hwd; cases hwd)
  have X7 := hs7 _ _ hX (by simp; rintro rfl; rw [hwa] at hX; cases hX)
  have D7 := hs7 _ _ hD (by simp; rintro rfl; rw [hwa] at hD; cases hD)
  have L7 := hs7 _ _ hL (by simp; exact naL.symm)
  have S7 := hs7 _ _ hS (by simp; exact naS.symm)
  have nXS : X ≠ Sr := by rintro rfl; rw [hX] at hS; cases hS
  have nDS : D ≠ Sr := by rintro rfl; rw [hD] at hS; cases hS
  have nXL : X ≠ Lr := by rintro rfl; rw [hX] at hL; cases hL
  have nDL : D ≠ Lr := by rintro rfl; rw [hD] at hL; cases hL
  have nxS : w.x ≠ Sr := by intro e; rw [e, hS] at hwx; cases hwx
  have ndS : w.dx ≠ Sr := by intro e; rw [e, hS] at hwd; cases hwd
  have nxL : w.x ≠ Lr := by intro e; rw [e, hL] at hwx; cases hwx
  have ndL : w.dx ≠ Lr := by intro e; rw [e, hL] at hwd; cases hwd
  have nxD : w.x ≠ D := by intro e; rw [e, hD] at hwx; cases hwx
  have ndD : w.dx ≠ D := by
    intro e; rw [e, hD] at hwd; cases hwd
  have nXD : X ≠ D := by rintro rfl; rw [hX] at hD; cases hD
  have spv : ∀ t b, bs[t]? = some b → Sp.v N ⟨lv.length, b, sizeV (zs bs) t, pcs, us2 hc us⟩ = .tup [.int (lv.length : Nat), .int (b : Nat), sizeV (zs bs) t, .lst (pcs.map V.lst), .lst ((cutGo N 0 0 (us2 hc us)).map placeV)] := fun _ _ _ => rfl
  refine SX.for2 (fun i m' H' => E2 fun a1 a2 => A2 (m' = putM X w.x lns fi here lv.length (f0 + bs.length - 1) hc o pcs (cutGo N 0 0 (us2 hc us)) a1 a2 none none none none) (H' = H7.set Sr (.list (sv ++ ((mkSpots lv.length (us2 hc us) pcs bs).take i).map (Sp.v N)))))
    (fun m' H' => E2 fun a1 a2 => A2 (m' = putM X w.x lns fi here lv.length (f0 + bs.length - 1) hc o pcs (cutGo N 0 0 (us2 hc us)) a1 a2 none none none none) (H' = H7.set Sr (.list (sv ++ (mkSpots lv.length (us2 hc us) pcs bs).map (Sp.v N))))) ?_ ?_
  · refine IT.enum gg_enumerate (by kernel_rfl) (by kernel_rfl) ?_
    walk_at "ww"
    refine ⟨_, rfl, ⟨none, none, rfl, ?_⟩, ?_, ?_⟩
    · rw [List.take_zero, List.map_nil, List.append_nil, Hp.setId S7]
    · rintro i W2 _ _ hW2 ⟨a1, a2, rfl, rfl⟩
      rw [List.getElem?_zipWith] at hW2
      split at hW2
      · rename_i i' Y e1 e2
        cases hW2
        have hi : i < bs.length := by
          have := (List.getElem?_eq_some_iff.mp e2).1
          simpa [zs] using this
        rw [List.getElem?_range (by simpa [zs] using hi)] at e1
        cases e1
        obtain ⟨b, hbi⟩ : ∃ b, bs[i]? = some b := ⟨_, List.getElem?_eq_getElem hi⟩
        rw [List.getElem?_map, zs_at hbi] at e2
        cases e2
        walk_at "ww"
        refine meth_261_size_of ?_
        walk_at "ww"
        refine ((f_LL_size (i := i) (IsO.own (by walk_at "hp") (by walk_at "hp")) (by rw [zs_len]; lia) (by rw [zs_len]; exact hi) ?_).le (by decide)).cl
        walk_at "ww"
        refine ⟨_, Hp.set_same .., by simp [mkSpots]; lia, ?_⟩
        walk_at "ww"
        refine ⟨_, _, rfl, ?_⟩
        rw [Hp.setSet, List.take_add_one, mkSpots_at hbi, Option.toList_some, List.map_append, ← List.append_assoc]
        rfl
      · cases hW2
    · rintro _ _ ⟨a1, a2, rfl, rfl⟩
      refine ⟨a1, a2, rfl, ?_⟩
      rw [List.take_of_length_le (by simp [mkSpots, zs])]
  rintro _ _ ⟨a1, a2, rfl, rfl⟩
  have x8 : (H7.set Sr (.list (sv ++ (mkSpots lv.length (us2 hc us) pcs bs).map (Sp.v N)))) w.x = some (.inst 261 w.dx) := by walk_at "hp"
  have d8 : (H7.set Sr (.list (sv ++ (mkSpots lv.length (us2 hc us) pcs bs).map (Sp.v N)))) w.dx = some (.ns (wholeNs (f0 : Int) (.lst ((zs bs).map V.int)) (.ref w.a) w.w)) := by walk_at "hp"
  have X8 : (H7.set Sr (.list (sv ++ (mkSpots lv.length (us2 hc us) pcs bs).map (Sp.v N)))) X = some (.inst 373 D) := by walk_at "hp"
  have D8 : (H7.set Sr (.list (sv ++ (mkSpots lv.length (us2 hc us) pcs bs).map (Sp.v N)))) D = some (.ns (cutNs N (.ref Lr) f r k false (.ref Sr))) := by walk_at "hp"
  have L8 : (H7.set Sr (.list (sv ++ (mkSpots lv.length (us2 hc us) pcs bs).map (Sp.v N)))) Lr = some (.list lv) := by walk_at "hp"
  have S8 : (H7.set Sr (.list (sv ++ (mkSpots lv.length (us2 hc us) pcs bs).map (Sp.v N)))) Sr = some (.list (sv ++ (mkSpots lv.length (us2 hc us) pcs bs).map (Sp.v N))) := Hp.set_same ..
  have s8 : Same H (H7.set Sr (.list (sv ++ (mkSpots lv.length (us2 hc us) pcs bs).map (Sp.v N)))) [D, Lr, Sr, w.a] := Same.set (fun z d e hz => hs7 z d e (by simp at hz ⊢; exact hz.2.2.2)) (by simp)
  generalize H7.set Sr (.list (sv ++ (mkSpots lv.length (us2 hc us) pcs bs).map (Sp.v N))) = H8 at *
  have hpz : pcs.length ≤ 1000 := by
    have h1 := cutEnd_le N (us2 hc us) 0 0
    have h2 := @us2_len hc us
    lia
  clear x7 d7 X7 D7 L7 S7 hs7 hX hD hL hS hwx hwd hwa hWO
  refine SX.for2 (fun i m' H' => E4 fun a3 a4 a5 nl => A3 (m' = putM X w.x lns fi here lv.length (f0 + bs.length - 1) hc o pcs (cutGo N 0 0 (us2 hc us)) a1 a2 a3 a4 a5 none) (H' = H8.set Lr (.list (lv ++ nl))) (nl.length = i))
    (fun m' H' => E4 fun a3 a4 a5 nl => A3 (m' = putM X w.x lns fi here lv.length (f0 + bs.length - 1) hc o pcs (cutGo N 0 0 (us2 hc us)) a1 a2 a3 a4 a5 none) (H' = H8.set Lr (.list (lv ++ nl))) (nl.length = pcs.length)) ?_ ?_
  · refine IT.enum gg_enumerate (by kernel_rfl) (by kernel_rfl) ?_
    walk_at "ww"
    refine ⟨_, rfl, ⟨none, none, none, [], rfl, by rw [List.append_nil, Hp.setId L8], rfl⟩, ?_, ?_⟩
    · rintro i W2 _ _ hW2 ⟨a3, a4, a5, nl, rfl, rfl, hnl⟩
      rw [List.getElem?_zipWith] at hW2
      split at hW2
      · rename_i i' Y e1 e2
        cases hW2
        have hi : i < pcs.length := by
          have := (List.getElem?_eq_some_iff.mp e2).1
          simpa using this
        rw [List.getElem?_range (by simpa using hi)] at e1
        cases e1
        obtain ⟨pc, hpc⟩ : ∃ pc, pcs[i]? = some pc := ⟨_, List.getElem?_eq_getElem hi⟩
        rw [List.getElem?_map, hpc] at e2
        cases e2
        iterate 7 walk_at "w"
        refine EV.someB ?_ ?_
        · walk_at "ww"
          refine call_len ?_
          walk_at "ww"
          refine CL.len (.inr IsL.fr) (by rw [List.length_map]; lia) ?_
          walk_at "ww"
          refine ifd (fun _ => ⟨⟨_, rfl⟩, rfl⟩) fun _ => ?_
          walk_at "ww"
          exact ⟨⟨_, rfl⟩, rfl⟩
        intro b
        walk_at "ww"
        refine call_reflow_line ?_
        walk_at "ww"
        refine ((f_reflow_line hN' (hpN pc (List.mem_of_getElem? hpc)) fun x => ?_).le (by decide)).cl
        walk_at "ww"
        refine ⟨_, Hp.set_same .., by simp; lia, ?_⟩
        walk_at "ww"
        exact ⟨_, _, _, nl ++ [.ref x], rfl, by rw [Hp.setSet, List.append_assoc], by simp [hnl]⟩
      · cases hW2
    · rintro _ _ ⟨a3, a4, a5, nl, rfl, rfl, hnl⟩
      exact ⟨a3, a4, a5, nl, rfl, rfl, by rw [hnl]; simp⟩
  rintro _ _ ⟨a3, a4, a5, nl, rfl, rfl, hnl⟩
  have x9 : (H8.set Lr (.list (lv ++ nl))) w.x = some (.inst 261 w.dx) := by walk_at "hp"
  have d9 : (H8.set Lr (.list (lv ++ nl))) w.dx = some (.ns (wholeNs (f0 : Int) (.lst ((zs bs).map V.int)) (.ref w.a) w.w)) := by walk_at "hp"
  have X9 : (H8.set Lr (.list (lv ++ nl))) X = some (.inst 373 D) := by walk_at "hp"
  have D9 : (H8.set Lr (.list (lv ++ nl))) D = some (.ns (cutNs N (.ref Lr) f r k false (.ref Sr))) := by walk_at "hp"
  have L9 : (H8.set Lr (.list (lv ++ nl))) Lr = some (.list (lv ++ nl)) := Hp.set_same ..
  have S9 : (H8.set Lr (.list (lv ++ nl))) Sr = some (.list (sv ++ (mkSpots lv.length (us2 hc us) pcs bs).map (Sp.v N))) := by walk_at "hp"
  have s9 : Same H (H8.set Lr (.list (lv ++ nl))) [D, Lr, Sr, w.a] := s8.set (by simp)
  generalize H8.set Lr (.list (lv ++ nl)) = H9 at *
  clear x8 d8 X8 D8 L8 S8 s8
  have hcg : (cutGo N 0 0 (us2 hc us)).length ≤ 1000 := by rw [cutGo_len]; have := @us2_len hc us; lia
  have hoo : ∀ b ∈ bs, b < (cutGo N 0 0 (us2 hc us)).length ∨ (us2 hc us = [] ∧ pcs = [[]]) := fun b hbm => by
    by_cases e : us2 hc us = []
    · exact .inr ⟨e, hp0 e⟩
    · left
      rw [cutGo_len]
      by_cases eu : us = []
      · have : b = 0 := (hb b hbm).2 eu
        subst this
        cases hq : us2 hc us with
        | nil => exact absurd hq e
        | cons u r => rw [cells_cons, List.length_append, Un.len]; cases u <;> simp [Un.w] <;> lia
      · rw [us2_ne eu]; exact (hb b hbm).1 eu
  have hbz : ∀ b ∈ bs, b ≤ 1000 := fun b hbm => by
    by_cases eu : us = []
    · rw [(hb b hbm).2 eu]; lia
    · have := (hb b hbm).1 eu; lia
  refine SX.ifP (fun m' H' => E1 fun a6 => A2 (m' = putM X w.x lns fi here lv.length (f0 + bs.length - 1) hc o pcs (cutGo N 0 0 (us2 hc us)) a1 a2 a3 a4 a5 a6) (H' = H9.set D (.ns (cutNs N (.ref Lr) (if inP f0 bs.length fi = true then ((lv.length + (plA N (us2 hc us) (bs.getD (fi - f0) 0)).1 : Nat) : Int) else f) r k false (.ref Sr))))) ?_ ?_
  · walk_at "ww"
    have hno : ¬ (f0 ≤ fi ∧ fi < f0 + bs.length) → inP f0 bs.length fi = true → False := fun q e => q (inP_iff.mp e)
    refine ifd (fun e1 => ?_) fun e1 => ⟨none, rfl, by rw [if_neg (fun e => hno (by lia) e)]; exact (Hp.setId D9).symm⟩
    walk_at "ww"
    refine ifd (fun e2 => ?_) fun e2 => ⟨none, rfl, by rw [if_neg (fun e => hno (by lia) e)]; exact (Hp.setId D9).symm⟩
    have hin : inP f0 bs.length fi = true := inP_iff.mpr ⟨by lia, by lia⟩
    obtain ⟨b, hbi⟩ : ∃ b, bs[fi - f0]? = some b := ⟨_, List.getElem?_eq_getElem (by lia)⟩
    have hbm := List.mem_of_getElem? hbi
    walk_at "w"
    refine call_reflow_place ?_
    walk_at "ww"
    rw [show (fi : Int) - (f0 : Int) = ((fi - f0 : Nat) : Int) by lia]
    refine ⟨.int ((b : Nat) : Int), SubAt.list IsL.fr (by lia) (by lia) (idx_at (by rw [List.getElem?_map, zs_at hbi]; rfl)), ?_⟩
    walk_at "ww"
    refine ((f_place hcg (hoo b hbm) (hbz b hbm) ?_).le (by decide)).cl
    walk_at "ww"
    refine ⟨_, rfl, ?_⟩
    rw [if_pos hin, List.getD_eq_getElem?_getD, hbi, Int.natCast_add]
    rfl
  rintro _ _ ⟨a6, rfl, rfl⟩
  generalize (if inP f0 bs.length fi = true then ((lv.length + (plA N (us2 hc us) (bs.getD (fi - f0) 0)).1 : Nat) : Int) else f) = f' at *
  have X10 : (H9.set D (.ns (cutNs N (.ref Lr) f' r k false (.ref Sr)))) X = some (.inst 373 D) := by walk_at "hp"
  walk_at "ww"
  refine ifb (fun e => ?_) fun e => ?_
  · have hbm := List.mem_of_getElem? (ho1 e).1
    walk_at "w"
    refine call_reflow_place ?_
    walk_at "ww"
    refine ((f_place hcg (hoo o hbm) (hbz o hbm) ?_).le (by decide)).cl
    walk_at "w"
    refine SX.unpack ?_
    walk_at "ww"
    refine call_min ?_
    walk_at "ww"
    refine CL.min ?_
    walk_at "ww"
    refine AS.attr ?_
    walk_at "ww"
    refine AS.attr ?_
    walk_at "ww"
    refine ifF ?_
    walk_at "ww"
    refine ifF ?_
    walk_at "ww"
    refine ifF ?_
    walk_at "ww"
    rw [if_pos e, if_pos e, hgo e, Int.natCast_add] at h
    rw [Hp.setSet, Hp.setSet]
    exact h pcs nl _ (by rw [hnl, hpl]) hp0 (Hp.set_same ..) (by walk_at "hp") (by walk_at "hp") (s9.set (by simp))
  · walk_at "ww"
    rw [if_neg (by rw [e]; decide), if_neg (by rw [e]; decide)] at h
    exact h pcs nl _ (by rw [hnl, hpl]) hp0 (Hp.set_same ..) (by walk_at "hp") (by walk_at "hp") (s9.set (by simp))
end PartW9
section PartW10
noncomputable def begN : Nat → List (List Cl) → List Nat
  | _, [] => []
  | o, p :: r => o :: begN (o + p.length) r
theorem begN_zs : ∀ (q : List (List Cl)) (o : Nat), begs o q = zs (begN o q)
  | [], _ => rfl
  | p :: r, o => by simp only [begs, begN, zs, List.map_cons]; rw [begN_zs r]; rfl
theorem begN_len : ∀ (q : List (List Cl)) (o : Nat), (begN o q).length = q.length
  | [], _ => rfl
  | _ :: r, o => by simp [begN, begN_len r]
structure Para where
  q : List (List Cl)
  us : List Un
structure Para.ok (p : Para) : Prop where
  cells : p.q.flatten = Mine.cells p.us
  unit : ∀ u ∈ p.us, u.ok
  z1 : (Mine.cells p.us).length ≤ 800
  z2 : p.q.length ≤ 800
  ne : 0 < p.q.length
  beg : ∀ b ∈ begN 0 p.q, (p.us ≠ [] → b < (Mine.cells p.us).length) ∧ (p.us = [] → b = 0)
noncomputable abbrev qs (ps : List Para) : List (List (List Cl)) := ps.map Para.q
theorem cutEnd_us2 {N : Nat} (hN : 1 ≤ N) {hc : Bool} {us : List Un} : cutEnd N 0 0 (us2 hc us) = cutEnd N 0 0 us := by
  unfold us2
  split
  · rename_i h
    simp at h
    rw [h.2]
    show (nxt N 0 0 1).1 = 0
    unfold nxt
    rw [if_neg (by lia)]
  · rfl
noncomputable def gAt (N : Nat) (ps : List Para) : Nat → Nat
  | 0 => 0
  | j + 1 => gAt N ps j + match ps[j]? with
    | some p => cutEnd N 0 0 p.us + 1
    | none => 0
theorem gAt_succ {N : Nat} {ps : List Para} {j : Nat} {p : Para} (h : ps[j]? = some p) : gAt N ps (j + 1) = gAt N ps j + (cutEnd N 0 0 p.us + 1) := by simp only [gAt, h]
theorem gAt_le {N : Nat} {ps : List Para} (hp : ∀ p ∈ ps, p.ok) : ∀ j, gAt N ps j ≤ 900 * j
  | 0 => Nat.le_refl _
  | j + 1 => by
    have := gAt_le hp j (N := N)
    simp only [gAt]
    cases h : ps[j]? with
    | none => simp; lia
    | some p =>
      have h1 := cutEnd_le N p.us 0 0
      have h2 := (hp p (List.mem_of_getElem? h)).z1
      simp only; lia
noncomputable def Para.u2 (p : Para) (f0 here : Nat) : List Un := us2 (inP f0 p.q.length here) p.us
structure Made (N here fi : Nat) (ps : List Para) (i : Nat) (sp : List Sp) (lv : List V) (f r k : Int) : Prop where
  len : lv.length = gAt N ps i
  slen : sp.length = off (qs ps) i
  spot : ∀ (j : Nat) p (t b : Nat), j < i → ps[j]? = some p → (begN 0 p.q)[t]? = some b → ∃ pcs : List (List V), sp[off (qs ps) j + t]? = some ⟨gAt N ps j, b, sizeV (zs (begN 0 p.q)) t, pcs, p.u2 (off (qs ps) j) here⟩ ∧ (p.u2 (off (qs ps) j) here = [] → pcs = [[]])
  fst : ∀ (j : Nat) p (t b : Nat), j < i → ps[j]? = some p → (begN 0 p.q)[t]? = some b → fi = off (qs ps) j + t → f = ((gAt N ps j + (plA N (p.u2 (off (qs ps) j) here) b).1 : Nat) : Int)
  row : ∀ (j : Nat) p (t b : Nat), j < i → ps[j]? = some p → (begN 0 p.q)[t]? = some b → here = off (qs ps) j + t → r = ((gAt N ps j + (plA N (p.u2 (off (qs ps) j) here) b).1 : Nat) : Int) ∧ k = min ((plA N (p.u2 (off (qs ps) j) here) b).2 : Int) ((N : Int) - 1)
theorem off_mono {ps : List (List (List Cl))} : ∀ {i j : Nat}, i ≤ j → off ps i ≤ off ps j := by
  intro i j h
  obtain ⟨d, rfl⟩ := Nat.exists_eq_add_of_le h
  clear h
  induction d with
  | zero => exact Nat.le_refl _
  | succ d ih =>
    refine Nat.le_trans ih ?_
    unfold off
    rw [show i + (d + 1) = (i + d) + 1 by lia, List.take_add_one]
    cases ps[i + d]? with
    | none => simp
    | some q => simp
theorem Made.step {N here fi i : Nat} {ps : List Para} {sp : List Sp} {lv nl : List V} {f r k : Int} {p : Para} {pcs : List (List V)} (M : Made N here fi ps i sp lv f r k) (hp : ps[i]? = some p) (hN : 1 ≤ N)
    (h1 : nl.length = cutEnd N 0 0 (p.u2 (off (qs ps) i) here) + 1) (h2 : p.u2 (off (qs ps) i) here = [] → pcs = [[]]) :
    Made N here fi ps (i + 1) (sp ++ mkSpots lv.length (p.u2 (off (qs ps) i) here) pcs (begN 0 p.q)) (lv ++ nl)
      (if inP (off (qs ps) i) (begN 0 p.q).length fi = true then ((lv.length + (plA N (p.u2 (off (qs ps) i) here) ((begN 0 p.q).getD (fi - off (qs ps) i) 0)).1 : Nat) : Int) else f)
      (if inP (off (qs ps) i) (begN 0 p.q).length here = true then ((lv.length + (plA N (p.u2 (off (qs ps) i) here) ((begN 0 p.q).getD (here - off (qs ps) i) 0)).1 : Nat) : Int) else r)
      (if inP (off (qs ps) i) (begN 0 p.q).length here = true then min ((plA N (p.u2 (off (qs ps) i) here) ((begN 0 p.q).getD (here - off (qs ps) i) 0)).2 : Int) ((N : Int) - 1) else k) := by
  have hq : (qs ps)[i]? = some p.q := by rw [List.getElem?_map, hp]; rfl
  have split : ∀ (x j : Nat) p' (t b : Nat), j < i + 1 → ps[j]? = some p' → (begN 0 p'.q)[t]? = some b → x = off (qs ps) j + t →
      (j = i ∧ p' = p ∧ inP (off (qs ps) i) (begN 0 p.q).length x = true ∧ (begN 0 p.q).getD (x - off (qs ps) i) 0 = b) ∨ (j < i ∧ ¬ inP (off (qs ps) i) (begN 0 p.q).length x = true) := by
    intro x j p' t b hj hp' hb hx
    have ht := (List.getElem?_eq_some_iff.mp hb).1
    by_cases e : j = i
    · subst e
      rw [hp] at hp'; cases hp'
      refine .inl ⟨rfl, rfl, inP_iff.mpr ⟨by lia, by lia⟩, ?_⟩
      rw [hx, Nat.add_sub_cancel_left, List.getD_eq_getElem?_getD, hb]; rfl
    · refine .inr ⟨by lia, fun q => ?_⟩
      have := inP_iff.mp q
      have h3 : off (qs ps) (j + 1) = off (qs ps) j + p'.q.length := off_succ (by rw [List.getElem?_map, hp']; rfl)
      have h4 := off_mono (ps := qs ps) (show j + 1 ≤ i by lia)
      rw [begN_len] at ht
      lia
  refine ⟨?_, ?_, ?_, ?_, ?_⟩
  · rw [List.length_append, M.len, gAt_succ hp, h1]
    unfold Para.u2
    rw [cutEnd_us2 hN]
  · rw [List.length_append, M.slen, mkSpots_len, begN_len, off_succ hq]
  · intro j p' t b hj hp' hb
    have ht := (List.getElem?_eq_some_iff.mp hb).1
    by_cases e : j = i
    · subst e
      rw [hp] at hp'; cases hp'
      refine ⟨pcs, ?_, h2⟩
      rw [List.getElem?_append_right (by rw [M.slen]; lia), M.slen, Nat.add_sub_cancel_left, mkSpots_at hb, M.len]
    · obtain ⟨pcs', e1, e2⟩ := M.spot j p' t b (by lia) hp' hb
      exact ⟨pcs', by rw [List.getElem?_append_left (List.getElem?_eq_some_iff.mp e1).1]; exact e1, e2⟩
  · intro j p' t b hj hp' hb hx
    rcases split fi j p' t b hj hp' hb hx with ⟨rfl, rfl, e1, e2⟩ | ⟨e1, e2⟩
    · rw [if_pos e1, e2, M.len]
    · rw [if_neg e2]; exact M.fst j p' t b e1 hp' hb hx
  · intro j p' t b hj hp' hb hx
    rcases split here j p' t b hj hp' hb hx with ⟨rfl, rfl, e1, e2⟩ | ⟨e1, e2⟩
    · rw [if_pos e1, if_pos e1, e2, M.len]; exact ⟨rfl, rfl⟩
    · rw [if_neg e2, if_neg e2]; exact M.row j p' t b e1 hp' hb hx
end PartW10
section PartW11
set_option maxHeartbeats 4000000 in
theorem f_Cutting {ls : List (List Cl × Bool)} {ps : List Para} {N here fi : Nat} {Q : V → Hp → Prop} (S : Spec ls (qs ps)) (hp : ∀ p ∈ ps, p.ok) (hN : 1 ≤ N) (hN' : N ≤ 100)
    (h : ∀ sp lv f r k, Made N here fi ps ps.length sp lv f r k → Q (.obj 373 (cutNs N (.lst lv) f r k false (.lst (sp.map (Sp.v N))))) H) : CL c 12 (.ref 373) [linesV ls, .int N, .int fi, .tup [.int here, .int 0, .bool false]] H Q := by
  refine CL.gh ?_
  refine make_373 fun X D nXD hX hD => ?_
  refine FN.le (n := 10) ?_ (by decide)
  have hX0 : ((H.set D (.ns [])).set X (.inst 373 D)) X = some (.inst 373 D) := by walk_at "hp"
  have hD0 : ((H.set D (.ns [])).set X (.inst 373 D)) D = some (.ns []) := by walk_at "hp"
  have l0 : Less H ((H.set D (.ns [])).set X (.inst 373 D)) := by walk_at "less"
  generalize (H.set D (.ns [])).set X (.inst 373 D) = H0 at *
  refine FN.defm (by rw [c.hK]; exact rfl) [Str.ofString "self", Str.ofString "lines", Str.ofString "columns", Str.ofString "first", Str.ofString "cursor"] [Str.ofString "whole"] [(Str.ofString "self", some (.ref X)), (Str.ofString "lines", some (linesV ls)), (Str.ofString "columns", some (.int N)), (Str.ofString "first", some (.int fi)), (Str.ofString "cursor", some (.tup [.int here, .int 0, .bool false])), (Str.ofString "whole", none)] (by rw [c.hK]; kernel_rfl) rfl rfl (fun vs hv => by rcases vs with _ | ⟨a0, _ | ⟨a1, _ | ⟨a2, _ | ⟨a3, _ | ⟨a4, _ | ⟨q, r⟩⟩⟩⟩⟩⟩ <;> first | rfl | (simp at hv; done)) (by kernel_rfl) (by kernel_rfl) rfl rfl rfl fun L => ?_
  walk_at "ww"
  refine EV.list ?_
  walk_at "ww"
  intro Lr hLr
  have nLD : Lr ≠ D := Hp.newNe hLr
  have nL0 : H0 Lr = none := Hp.newNo hLr
  walk_at "ww"
  refine EV.list ?_
  walk_at "ww"
  intro Sr hSr
  walk_at "ww"
  have nSD : Sr ≠ D := Hp.newNe hSr
  have nSr5 := Hp.newNo (Hp.newNo (Hp.newNo (Hp.newNo (Hp.newNo hSr))))
  have nSL : Sr ≠ Lr := Hp.newNe nSr5
  have nS0 : H0 Sr = none := Hp.newNo (Hp.newNo nSr5)
  have nL : H Lr = none := by
    cases z : H Lr with
    | none => rfl
    | some d => rw [l0 _ _ z] at nL0; cases nL0
  have nS : H Sr = none := by
    cases z : H Sr with
    | none => rfl
    | some d => rw [l0 _ _ z] at nS0; cases nS0
  generalize hH1 : Hp.set (Hp.set (Hp.set _ D _) Sr (Cell.list [])) D _ = H1
  have X1 : H1 X = some (.inst 373 D) := by subst hH1; walk_at "hp"
  have D1 : H1 D = some (.ns (cutNs N (.ref Lr) 0 0 0 false (.ref Sr))) := by subst hH1; exact Hp.set_same ..
  have L1 : H1 Lr = some (.list []) := by subst hH1; walk_at "hp"
  have S1 : H1 Sr = some (.list []) := by subst hH1; walk_at "hp"
  have l1 : Less H H1 := by subst hH1; walk_at "less"
  clear hH1 hLr hSr nSr5 hX0 hD0 l0
  refine SX.forE
    (fun m' H' => E6 fun o sp lv f r k => A7 (m' = [((Str.ofString "self"), some (.ref X)), ((Str.ofString "lines"), some (linesV ls)), ((Str.ofString "columns"), some (.int N)), ((Str.ofString "first"), some (.int fi)), ((Str.ofString "cursor"), some (.tup [.int here, .int 0, .bool false])), ((Str.ofString "whole"), o)]) (H' X = some (.inst 373 D)) (H' D = some (.ns (cutNs N (.ref Lr) f r k false (.ref Sr)))) (H' Lr = some (.list lv)) (H' Sr = some (.list (sp.map (Sp.v N)))) (Made N here fi ps ps.length sp lv f r k) (Less H H')) ?_ ?_
  · refine IT.lst ?_
    refine call_logical_of ?_
    walk_at "ww"
    refine ((f_logical S fun ws H2 hwo hws hnd hfr hl2 => ?_).le (by decide)).cl
    refine ⟨_, rfl, fun i m' H' => E6 fun o sp lv f r k => A9 (i ≤ ps.length) (m' = [((Str.ofString "self"), some (.ref X)), ((Str.ofString "lines"), some (linesV ls)), ((Str.ofString "columns"), some (.int N)), ((Str.ofString "first"), some (.int fi)), ((Str.ofString "cursor"), some (.tup [.int here, .int 0, .bool false])), ((Str.ofString "whole"), o)]) (H' X = some (.inst 373 D)) (H' D = some (.ns (cutNs N (.ref Lr) f r k false (.ref Sr)))) (H' Lr = some (.list lv)) (H' Sr = some (.list (sp.map (Sp.v N)))) (Made N here fi ps i sp lv f r k) (Less H H') ((∀ (j : Nat) w, i ≤ j → ws[j]? = some w → Has H' w)), ?_, ?_, ?_⟩
    · refine ⟨none, [], [], 0, 0, 0, Nat.zero_le _, rfl, hl2 _ _ X1, hl2 _ _ D1, hl2 _ _ L1, hl2 _ _ S1, ⟨rfl, rfl, ?_, ?_, ?_⟩, l1.trans hl2, fun j w _ hw => hws w (List.mem_of_getElem? hw)⟩
      · intro j p t b hj; lia
      · intro j p t b hj; lia
      · intro j p t b hj; lia
    · rintro i W2 _ H' hW2 ⟨o, sp, lv, f, r, k, hi, rfl, x2, d2, L2, S2, M, l2, hh⟩
      rw [List.getElem?_map] at hW2
      obtain ⟨w, hw, rfl⟩ : ∃ w, ws[i]? = some w ∧ W2 = .ref w.x := by
        cases z : ws[i]? with
        | none => rw [z] at hW2; cases hW2
        | some w => rw [z] at hW2; cases hW2; exact ⟨w, rfl, rfl⟩
      have hil : i < ps.length := by
        have := (List.getElem?_eq_some_iff.mp hw).1
        rw [hwo.1, List.length_map] at this; exact this
      obtain ⟨p, hpi⟩ : ∃ p, ps[i]? = some p := ⟨_, List.getElem?_eq_getElem hil⟩
      have hpo := hp p (List.mem_of_getElem? hpi)
      obtain ⟨w1, w2, w3⟩ := hwo.2 i p.q w (by rw [List.getElem?_map, hpi]; rfl) hw
      have hwm := List.mem_of_getElem? hw
      have hwa := hfr w hwm
      walk_at "w"
      walk_at "w"
      refine meth_373_put ?_
      walk_at "ww"
      refine ((f_put (f0 := off (qs ps) i) (us := p.us) (bs := begN 0 p.q) x2 d2 L2 S2 (hh i w (Nat.le_refl _) hw) nSL.symm (fun e => by rw [e, L1] at hwa; cases hwa) (fun e => by rw [e, S1] at hwa; cases hwa) (by rw [w3, hpo.cells]) (by rw [w2, begN_zs]) w1 hN hN' hpo.unit hpo.z1 (by rw [begN_len]; exact hpo.z2)
        ?_ ?_ (by rw [begN_len]; exact hpo.ne) hpo.beg fun pcs nl H3 e1 e2 e3 e4 e5 e6 => ?_).le (by decide)).cl
      · rw [M.len]; have := gAt_le (N := N) hp i; have := S.z4; rw [List.length_map] at this; lia
      · rw [List.length_map, M.slen]
        have h1 := off_mono (ps := qs ps) (i := i) (j := ps.length) hi
        have h2 := off_all (qs ps)
        rw [List.length_map] at h2
        have := S.len; have := S.z1; lia
      · walk_at "ww"
        have hwA := (hh i w (Nat.le_refl _) hw).2.2
        have hx3 : H3 X = some (.inst 373 D) := e6 _ _ x2 (by
          simp only [List.mem_cons, List.not_mem_nil, or_false, not_or]
          refine ⟨nXD, ?_, ?_, ?_⟩
          · rintro rfl; rw [x2] at L2; cases L2
          · rintro rfl; rw [x2] at S2; cases S2
          · rintro rfl; rw [x2] at hwA; cases hwA)
        refine ⟨_, sp ++ mkSpots lv.length (us2 (inP (off (qs ps) i) (begN 0 p.q).length here) p.us) pcs (begN 0 p.q), lv ++ nl, _, _, _, hil, rfl, hx3, e3, e4, ?_, ?_, ?_, ?_⟩
        · rw [List.map_append]; exact e5
        · have := M.step (nl := nl) (pcs := pcs) hpi hN (by unfold Para.u2; rw [← begN_len p.q 0]; exact e1) (by unfold Para.u2; rw [← begN_len p.q 0]; exact e2)
          unfold Para.u2 at this
          rw [← begN_len p.q 0] at this
          exact this
        · intro z d hz
          refine e6 z d (l2 z d hz) ?_
          simp only [List.mem_cons, List.not_mem_nil, or_false, not_or]
          refine ⟨?_, ?_, ?_, ?_⟩
          · rintro rfl; rw [hD] at hz; cases hz
          · rintro rfl; rw [nL] at hz; cases hz
          · rintro rfl; rw [nS] at hz; cases hz
          · rintro rfl; rw [l1 _ _ hz] at hwa; cases hwa
        · intro j w' hj hw'
          have hh' := hh j w' (by lia) hw'
          obtain ⟨y1, y2, y3⟩ := hh'
          have hwa' := hfr w' (List.mem_of_getElem? hw')
          refine Has.same ⟨y1, y2, y3⟩ e6 ?_ ?_ ?_
          · simp only [List.mem_cons, List.not_mem_nil, or_false, not_or]
            refine ⟨?_, ?_, ?_, ?_⟩ <;> intro e <;> rw [e] at y1
            · rw [d2] at y1; cases y1
            · rw [L2] at y1; cases y1
            · rw [S2] at y1; cases y1
            · rw [hwA] at y1; cases y1
          · simp only [List.mem_cons, List.not_mem_nil, or_false, not_or]
            refine ⟨?_, ?_, ?_, ?_⟩ <;> intro e <;> rw [e] at y2
            · rw [d2] at y2; cases y2
            · rw [L2] at y2; cases y2
            · rw [S2] at y2; cases y2
            · rw [hwA] at y2; cases y2
          · simp only [List.mem_cons, List.not_mem_nil, or_false, not_or]
            refine ⟨?_, ?_, ?_, ?_⟩ <;> intro e
            · rw [e, d2] at y3; cases y3
            · rw [e, L1] at hwa'; cases hwa'
            · rw [e, S1] at hwa'; cases hwa'
            · have e1 : (ws.map Wh.a)[j]? = some w'.a := by rw [List.getElem?_map, hw']; rfl
              have e2 : (ws.map Wh.a)[i]? = some w'.a := by rw [List.getElem?_map, hw, e]; rfl
              have := (List.getElem?_inj (List.getElem?_eq_some_iff.mp e1).1 hnd).mp (e1.trans e2.symm)
              lia
    · rintro _ H' ⟨o, sp, lv, f, r, k, hi, rfl, x2, d2, L2, S2, M, l2, hh⟩
      rw [List.length_map, hwo.1, List.length_map] at M
      exact ⟨o, sp, lv, f, r, k, rfl, x2, d2, L2, S2, M, l2⟩
  · rintro _ H' ⟨o, sp, lv, f, r, k, rfl, x2, d2, L2, S2, M, l2⟩
    walk_at "ww"
    have nXL : X ≠ Lr := by rintro rfl; rw [x2] at L2; cases L2
    have nXS : X ≠ Sr := by rintro rfl; rw [x2] at S2; cases S2
    refine ⟨rfl, _, _, ((Gh.attr (k := (Str.ofString "lines")) (X := .ref Lr) (X' := .lst lv) d2 (Gh.lst L2) (by walk_at "hp") (by walk_at "updg")).trans
      ((Gh.attr (k := (Str.ofString "spots")) (X := .ref Sr) (X' := .lst (sp.map (Sp.v N))) (Hp.set_same ..) (Gh.lst (by walk_at "hp")) (by walk_at "hp") (by walk_at "updg")).trans ((Gh.obj (by walk_at "hp") (Hp.set_same ..)).trans (Gh.drop ?_)))), h sp lv f r k M⟩
    exact Less.out (Less.out (Less.skip (Less.out (Less.skip (Less.out l2 nL) hD) nS) hD) hX) hD
end PartW11
section PartW12
set_option maxRecDepth 100000
theorem ints_ofDs (cs : List Int) : cs.map V.int = ofDs (cs.map PyData.int) := by
  induction cs with
  | nil => rfl
  | cons a r ih => simp only [List.map_cons, ofDs]; rw [ih]; rfl
theorem ints_of (cs : List Int) : V.lst (cs.map V.int) = ofD (.list (cs.map PyData.int)) := by rw [ints_ofDs]; rfl
theorem ints_lay (cs : List Int) : PyData.canLayAll0 (cs.map PyData.int) = true := by
  induction cs with
  | nil => rfl
  | cons a r ih => simp only [List.map_cons, PyData.canLayAll0, ih, Bool.and_true]; rfl
theorem ints_depth (cs : List Int) : PyData.depthAll (cs.map PyData.int) ≤ 1 := by
  induction cs with
  | nil => simp [PyData.depthAll]
  | cons a r ih =>
    simp only [List.map_cons, PyData.depthAll]
    have : PyData.depth (PyData.int a) ≤ 1 := by simp [PyData.depth]
    lia
theorem ints_shaped (cs : List Int) : SeqAt.shaped (.list (cs.map PyData.int)) = true := by
  unfold SeqAt.shaped
  have h1 := ints_lay cs
  have h2 := ints_depth cs
  rw [Bool.and_eq_true]
  refine ⟨by simpa [PyData.canLay0] using h1, decide_eq_true ?_⟩
  simp only [PyData.depth]; lia
theorem ints_eqv (cs : List Int) : PyData.eqv (.list (cs.map PyData.int)) (.list []) = cs.isEmpty := by cases cs <;> simp [PyData.eqv, PyData.eqvAll]
theorem fmod_lt (a : Int) {b : Int} (h : 0 < b) : 0 ≤ a.fmod b ∧ a.fmod b < b := by
  rw [Int.fmod_eq_emod_of_nonneg _ (by lia)]
  exact ⟨Int.emod_nonneg _ (by lia), Int.emod_lt_of_pos _ h⟩
theorem EV.someI {e : Expr} {Q : V → Hp → Prop} (h : EV c n env m H e fun W' H' => (∃ i, W' = .int i) ∧ H' = H) (q : ∀ i, Q (.int i) H) : EV c n env m H e Q := h.mono fun W' H' ⟨⟨b, e1⟩, e2⟩ => by subst e1 e2; exact q b
noncomputable def PenAt (H : Hp) (p : Addr) (at_ : Nat) (cs : List Int) : Prop := H p = some (.list [.int at_, .lst (cs.map V.int)])
theorem f_take {p : Addr} {at_ many : Nat} {cs : List Int} {Q : V → Hp → Prop} (hp : PenAt H p at_ cs) (hz : cs.length ≤ 1000) (ha : at_ ≤ 100000) (hm : 0 < many) (hm' : many ≤ 100000)
    (h : ∀ r : Nat, r < many → Q (.int r) (H.set p (.list [.int ((at_ + 1 : Nat) : Int), .lst (cs.map V.int)]))) : FN c 2 (.ref 390) [.ref p, .int many] H Q := by
  unfold PenAt at hp
  refine FN.defm (by rw [c.hK]; exact rfl) [Str.ofString "pen", Str.ofString "many"] [Str.ofString "at", Str.ofString "cells", Str.ofString "told"] [(Str.ofString "pen", some (.ref p)), (Str.ofString "many", some (.int many)), (Str.ofString "at", none), (Str.ofString "cells", none), (Str.ofString "told", none)] (by rw [c.hK]; kernel_rfl) rfl rfl (fun vs hv => by rcases vs with _ | ⟨a0, _ | ⟨a1, _ | ⟨q, r⟩⟩⟩ <;> first | rfl | (simp at hv; done)) (by kernel_rfl) (by kernel_rfl) rfl rfl rfl fun L => ?_
  refine SX.unpack ?_
  walk_at "ww"
  refine AS.tuple (.inr (IsL.own hp)) rfl ?_
  walk_at "w"
  walk_at "w"
  walk_at "w"
  walk_at "w"
  walk_at "w"
  refine SX.setitem ?_
  walk_at "ww"
  refine ⟨_, _, _, rfl, hp, rfl, by decide, by simp, by decide, ?_⟩
  have hh : ∀ r : Nat, r < many → Q (.int r) (H.set p (.list (([V.int at_, V.lst (cs.map V.int)] : List V).set (0 : Int).toNat (V.int ((at_ : Int) + 1))))) := h
  generalize H.set p (.list (([V.int at_, V.lst (cs.map V.int)] : List V).set (0 : Int).toNat (V.int ((at_ : Int) + 1)))) = H1 at *
  walk_at "w"
  refine EV.someI ?_ ?_
  · refine EV.ifexp ?_
    walk_at "ww"
    refine EV.nilL ?_
    rw [ints_of]
    refine CMP.eqd (db := .list []) rfl rfl (ints_shaped cs) rfl ?_
    rw [ints_eqv, ← ints_of]
    refine ifb (fun e => ?_) fun e => ?_
    · walk_at "ww"
      refine BOP.mul (IntMulOk.of_left (by decide)) ?_
      exact ⟨⟨_, rfl⟩, rfl⟩
    · have hl : 0 < cs.length := by cases cs with
        | nil => cases e
        | cons a r => simp
      walk_at "ww"
      refine call_len ?_
      walk_at "ww"
      refine CL.len (.inr IsL.fr) (by simp; lia) ?_
      rw [List.length_map]
      refine BOP.mod (by lia) ?_
      have hf := fmod_lt (at_ : Int) (b := (cs.length : Int)) (by lia)
      obtain ⟨i, hi⟩ : ∃ i : Nat, (at_ : Int).fmod (cs.length : Int) = i := ⟨((at_ : Int).fmod (cs.length : Int)).toNat, by lia⟩
      rw [hi] at hf ⊢
      obtain ⟨x, hx⟩ : ∃ x, cs[i]? = some x := ⟨_, List.getElem?_eq_getElem (by lia)⟩
      refine ⟨.int x, SubAt.list IsL.fr (by lia) (by lia) (idx_at (by rw [List.getElem?_map, hx]; rfl)), ?_⟩
      walk_at "ww"
      refine call_len ?_
      walk_at "ww"
      refine CL.len (.inr IsL.fr) (by simp; lia) ?_
      rw [List.length_map]
      refine BOP.div (by lia) (by lia) ?_
      walk_at "ww"
      refine BOP.mul (IntMulOk.of_right (by decide)) ?_
      walk_at "ww"
      exact ⟨⟨_, rfl⟩, rfl⟩
  intro told
  walk_at "ww"
  refine BOP.div (by decide) (by decide) ?_
  walk_at "ww"
  refine BOP.mod (by lia) ?_
  have hf := fmod_lt (told + (at_ : Int).fdiv 4) (b := (many : Int)) (by lia)
  obtain ⟨i, hi⟩ : ∃ i : Nat, (told + (at_ : Int).fdiv 4).fmod (many : Int) = i := ⟨((told + (at_ : Int).fdiv 4).fmod (many : Int)).toNat, by lia⟩
  rw [hi] at hf ⊢
  walk_at "ww"
  exact hh i (by lia)
end PartW12
section PartW13
set_option maxRecDepth 100000
noncomputable abbrev Sg := Int × Int
noncomputable abbrev sV (s : Sg) : V := sgV s.1 s.2
noncomputable def table : List Sg := [(97, 1), (20013, 2), (98, 1), (99, 1), (25991, 2)]
noncomputable def Sg.ok (s : Sg) : Prop := s ∈ table
theorem f_para {p : Addr} {at_ : Nat} {cs : List Int} {Q : V → Hp → Prop} (hp : PenAt H p at_ cs) (hz : cs.length ≤ 1000) (ha : at_ ≤ 10000)
    (h : ∀ (ss : List Sg) (a : Nat), ss.length ≤ 8 → (∀ s ∈ ss, s ∈ table) → a ≤ at_ + 10 → Q (.lst (ss.map sV)) (H.set p (.list [.int (a : Nat), .lst (cs.map V.int)]))) : FN c 4 (.ref 395) [.ref p] H Q := by
  refine FN.gh ?_
  refine FN.defCm (by rw [c.hK]; exact rfl) [(Str.ofString "pen")] [] [((Str.ofString "pen"), some (.ref p))] (by rw [c.hK]; kernel_rfl) rfl rfl (fun vs hv => by rcases vs with _ | ⟨a0, _ | ⟨q, r⟩⟩ <;> first | rfl | (simp at hv; done)) (by kernel_rfl) rfl rfl rfl fun L => ?_
  refine SX.ret ?_
  refine EV.comp (mc := [((Str.ofString "turn"), none), ((Str.ofString "pen"), some (.ref p))]) (cl := [((Str.ofString "pen"), L + 1)]) ?_ ?_
  · refine CompOK.of rfl (by kernel_rfl) rfl (by kernel_rfl) (by intro q hq; simp only [List.mem_singleton] at hq; subst hq; rfl) (by simp only [List.map_cons, List.map_nil]; decide) ?_
    exact Caps.loc (by kernel_rfl) (Caps.cap (by walk_at "mem") (.inl (by kernel_rfl)) (.inl (by kernel_rfl)) rfl Caps.nil)
  refine IT.range (x := (Str.ofString "range")) gg_range (by kernel_rfl) (by kernel_rfl) ?_
  refine call_law_take ?_
  walk_at "ww"
  refine ((f_take (many := 9) hp hz (by lia) (by decide) (by decide) fun r9 hr9 => ?_).le (by decide)).cl
  walk_at "ww"
  refine ⟨by lia, by lia, fun D C hD => ?_⟩
  have nDp : D ≠ p := Hp.newNe hD
  refine ⟨fun i m' H' => E2 fun (o : Option V) (ss : List Sg) => A5 (m' = [((Str.ofString "turn"), o), ((Str.ofString "pen"), some (.ref p))]) (i ≤ r9) (ss.length = i) ((∀ s ∈ ss, s ∈ table)) (H' = (H.set p (.list [.int ((at_ + 1 + i : Nat) : Int), .lst (cs.map V.int)])).set D (.list (ss.map sV))), ⟨none, [], rfl, by lia, rfl, by simp, rfl⟩, ?_, ?_⟩
  · rintro i W2 _ _ hW2 ⟨o, ss, rfl, hi, hss, hst, rfl⟩
    have hi' : i < r9 := by
      have := (List.getElem?_eq_some_iff.mp hW2).1
      simpa using this
    refine AS.name (by walk_at "upd") ?_ (.inr (by kernel_rfl))
    walk_at "ww"
    refine name_law_signs ?_
    walk_at "ww"
    refine call_law_take ?_
    walk_at "ww"
    have hp2 : PenAt ((H.set p (.list [.int ((at_ + 1 + i : Nat) : Int), .lst (cs.map V.int)])).set D (.list (ss.map sV))) p (at_ + 1 + i) cs := by unfold PenAt; walk_at "hp"
    refine ((f_take (many := 5) hp2 hz (by lia) (by decide) (by decide) fun r5 hr5 => ?_).le (by decide)).cl
    walk_at "ww"
    obtain ⟨s, hs⟩ : ∃ s, table[r5]? = some s := ⟨_, List.getElem?_eq_getElem (by simpa [table] using hr5)⟩
    refine ⟨sV s, SubAt.list IsL.fr (by lia) (by lia) (idx_at ?_), ?_⟩
    · show (table.map sV)[r5]? = some (sV s)
      rw [List.getElem?_map, hs]; rfl
    refine ⟨_, by walk_at "hp", by simp; lia, ?_⟩
    refine ⟨_, ss ++ [s], rfl, by lia, by simp [hss], ?_, ?_⟩
    · intro x hx
      rcases List.mem_append.mp hx with q | q
      · exact hst x q
      · simp at q; subst q; exact List.mem_of_getElem? hs
    · rw [List.map_append, Hp.setComm nDp, Hp.setSet, Hp.setSet]
      rfl
  · rintro _ _ ⟨o, ss, rfl, hi, hss, hst, rfl⟩
    simp only [List.length_map, List.length_range, Int.toNat_natCast] at hi hss ⊢
    walk_at "ww"
    refine ⟨_, _, (Gh.lst (Hp.set_same ..)).trans (Gh.drop (H' := H.set p (.list [.int ((at_ + 1 + r9 : Nat) : Int), .lst (cs.map V.int)])) ?_), h ss (at_ + 1 + r9) (by lia) hst (by lia)⟩
    rw [Hp.setBack]
    · exact Less.refl
    · rw [Hp.set_ne _ _ nDp]; exact Hp.newNo hD
end PartW13
section PartP1
noncomputable def Un.sgn : Un → Prop
  | .one k => k.wid = 1 ∧ k.isB = false
  | .two _ => True
theorem Un.sgn_ok {u : Un} (h : u.sgn) : u.ok := by cases u with | one k => exact h.1 | two k => trivial
theorem Un.w12 (u : Un) : 1 ≤ u.w ∧ u.w ≤ 2 := by cases u <;> simp [Un.w]
noncomputable def shGo (N : Nat) : Nat → Nat → List Un → List (Nat × Nat)
  | _, _, [] => []
  | l, k, u :: r => nxt N l k u.w :: shGo N (nxt N l k u.w).1 ((nxt N l k u.w).2 + min u.w N) r
theorem shGo_len (N : Nat) : ∀ (us : List Un) (l k : Nat), (shGo N l k us).length = us.length
  | [], _, _ => rfl
  | u :: r, l, k => by simp [shGo, shGo_len N r]
theorem cutGo_at (N : Nat) : ∀ (us : List Un) (l k i : Nat) (u : Un) (p : Nat × Nat) (j : Nat), us[i]? = some u → (shGo N l k us)[i]? = some p → j < u.w →
    (cutGo N l k us)[(cells (us.take i)).length + j]? = some (p.1, p.2 + min j (min u.w N - 1))
  | [], _, _, _, _, _, _, h, _, _ => by simp at h
  | v :: r, l, k, 0, u, p, j, h, hp, hj => by
    simp only [List.getElem?_cons_zero, Option.some.injEq, shGo] at h hp
    subst h; subst hp
    simp only [cutGo, List.take_zero, cells_nil, List.length_nil, Nat.zero_add]
    rw [List.getElem?_append_left (by rw [pl_len]; exact hj)]
    exact pl_at N _ _ hj
  | v :: r, l, k, i + 1, u, p, j, h, hp, hj => by
    simp only [List.getElem?_cons_succ, shGo] at h hp
    have := cutGo_at N r _ _ i u p j h hp hj
    simp only [cutGo, List.take_succ_cons, cells_cons, List.length_append, Un.len]
    rw [List.getElem?_append_right (by rw [pl_len]; lia), pl_len, show v.w + (cells (List.take i r)).length + j - v.w = (cells (List.take i r)).length + j by lia]
    exact this
theorem nxt_room (N l k w : Nat) : (nxt N l k w).2 + min w N ≤ N := by unfold nxt; split <;> simp <;> lia
theorem shGo_room (N : Nat) : ∀ (us : List Un) (l k i : Nat) (u : Un) (p : Nat × Nat), us[i]? = some u → (shGo N l k us)[i]? = some p → p.2 + min u.w N ≤ N
  | [], _, _, _, _, _, h, _ => by simp at h
  | v :: r, l, k, 0, u, p, h, hp => by
    simp only [List.getElem?_cons_zero, Option.some.injEq, shGo] at h hp
    subst h; subst hp; exact nxt_room N l k _
  | v :: r, l, k, i + 1, u, p, h, hp => by
    simp only [List.getElem?_cons_succ, shGo] at h hp
    exact shGo_room N r _ _ i u p h hp
theorem cutEnd_ge (N : Nat) : ∀ (us : List Un) (l k : Nat), l ≤ cutEnd N l k us
  | [], _, _ => Nat.le_refl _
  | u :: r, l, k => by
    have h := cutEnd_ge N r (nxt N l k u.w).1 ((nxt N l k u.w).2 + min u.w N)
    simp only [cutEnd]
    have : l ≤ (nxt N l k u.w).1 := by unfold nxt; split <;> simp
    lia
theorem shGo_row (N : Nat) : ∀ (us : List Un) (l k i : Nat) (p : Nat × Nat), (shGo N l k us)[i]? = some p → p.1 ≤ cutEnd N l k us
  | [], _, _, _, _, h => by simp [shGo] at h
  | v :: r, l, k, 0, p, hp => by
    simp only [List.getElem?_cons_zero, Option.some.injEq, shGo] at hp
    subst hp; simp only [cutEnd]; exact cutEnd_ge ..
  | v :: r, l, k, i + 1, p, hp => by
    simp only [List.getElem?_cons_succ, shGo] at hp
    simp only [cutEnd]
    exact shGo_row N r _ _ i p hp
noncomputable def partsGo (M : Nat) : List Cl → List Un → List (List Cl)
  | cur, [] => [cur]
  | cur, u :: r => if M < cur.length + u.w then cur :: partsGo M u.cells r else partsGo M (cur ++ u.cells) r
theorem parts_flat (M : Nat) : ∀ (us : List Un) (cur : List Cl), (partsGo M cur us).flatten = cur ++ cells us
  | [], cur => by simp [partsGo, cells_nil]
  | u :: r, cur => by
    unfold partsGo
    split
    · rw [List.flatten_cons, parts_flat M r, cells_cons]
    · rw [parts_flat M r, cells_cons, List.append_assoc]
theorem parts_first (M : Nat) : ∀ (us : List Un) (cur : List Cl), ∃ x, (partsGo M cur us)[0]? = some (cur ++ x)
  | [], cur => ⟨[], by simp [partsGo]⟩
  | u :: r, cur => by
    unfold partsGo
    split
    · exact ⟨[], by simp⟩
    · obtain ⟨x, h⟩ := parts_first M r (cur ++ u.cells)
      exact ⟨u.cells ++ x, by rw [h, List.append_assoc]⟩
theorem nxt_two {M l k w : Nat} (hM : 2 ≤ M) (hw : w ≤ 2) : nxt M l k w = if M < k + w then (l + 1, 0) else (l, k) := by unfold nxt; rw [Nat.min_eq_left (by lia)]
theorem parts_len {M : Nat} (hM : 2 ≤ M) : ∀ (us : List Un) (cur : List Cl) (l : Nat), (partsGo M cur us).length + l = cutEnd M l cur.length us + 1
  | [], cur, l => by simp [partsGo, cutEnd]; lia
  | u :: r, cur, l => by
    have hw := u.w12
    unfold partsGo cutEnd
    rw [nxt_two hM hw.2, Nat.min_eq_left (show u.w ≤ M by lia)]
    split
    · have := parts_len hM r u.cells (l + 1)
      rw [Un.len] at this
      simp only [List.length_cons, Nat.zero_add]; lia
    · have := parts_len hM r (cur ++ u.cells) l
      rw [List.length_append, Un.len] at this
      exact this
theorem begN_at (o : Nat) (q : List (List Cl)) {x : List Cl} (h : q[0]? = some x) : (begN o q)[0]? = some o := by
  cases q with
  | nil => simp at h
  | cons a r => rfl
theorem parts_at {M : Nat} (hM : 2 ≤ M) : ∀ (us : List Un) (cur : List Cl) (l o i : Nat) (u : Un) (p : Nat × Nat), us[i]? = some u → (shGo M l cur.length us)[i]? = some p →
    ∃ t b part, p.1 = l + t ∧ (begN o (partsGo M cur us))[t]? = some b ∧ (partsGo M cur us)[t]? = some part ∧ b + p.2 = o + cur.length + (cells (us.take i)).length ∧ p.2 + u.w ≤ part.length
  | [], _, _, _, _, _, _, h, _ => by simp at h
  | v :: r, cur, l, o, i, u, p, h, hp => by
    have hw := v.w12
    simp only [shGo] at hp
    rw [nxt_two hM hw.2, Nat.min_eq_left (show v.w ≤ M by lia)] at hp
    unfold partsGo
    by_cases hb : M < cur.length + v.w
    · rw [if_pos hb] at hp ⊢
      cases i with
      | zero =>
        simp only [List.getElem?_cons_zero, Option.some.injEq] at h hp
        subst h; subst hp
        obtain ⟨x, hx⟩ := parts_first M r v.cells
        refine ⟨1, o + cur.length, v.cells ++ x, rfl, ?_, ?_, ?_, ?_⟩
        · simp only [begN, List.getElem?_cons_succ]; exact begN_at _ _ hx
        · simpa using hx
        · simp [cells_nil]
        · simp [Un.len]
      | succ i =>
        simp only [List.getElem?_cons_succ, Nat.zero_add] at h hp
        have ih := parts_at hM r v.cells (l + 1) (o + cur.length) i u p h (by rw [Un.len]; exact hp)
        obtain ⟨t, b, part, e1, e2, e3, e4, e5⟩ := ih
        refine ⟨t + 1, b, part, by lia, by simpa [begN] using e2, by simpa using e3, ?_, e5⟩
        simp only [List.take_succ_cons, cells_cons, List.length_append]
        lia
    · rw [if_neg hb] at hp ⊢
      cases i with
      | zero =>
        simp only [List.getElem?_cons_zero, Option.some.injEq] at h hp
        subst h; subst hp
        obtain ⟨x, hx⟩ := parts_first M r (cur ++ v.cells)
        refine ⟨0, o, cur ++ v.cells ++ x, rfl, begN_at _ _ hx, hx, ?_, ?_⟩
        · simp [cells_nil]
        · simp [Un.len]
      | succ i =>
        simp only [List.getElem?_cons_succ] at h hp
        have ih := parts_at hM r (cur ++ v.cells) l o i u p h (by rw [List.length_append, Un.len]; exact hp)
        obtain ⟨t, b, part, e1, e2, e3, e4, e5⟩ := ih
        refine ⟨t, b, part, e1, e2, e3, ?_, e5⟩
        simp only [List.take_succ_cons, cells_cons, List.length_append, Un.len] at e4 ⊢
        lia
theorem parts_head {M : Nat} (hM : 2 ≤ M) : ∀ (us : List Un) (cur : List Cl) (l t : Nat), t < (partsGo M cur us).length → (t = 0 → cur = [] ∧ us ≠ []) → ∃ i : Nat, (shGo M l cur.length us)[i]? = some (l + t, 0)
  | [], cur, l, t, h, h0 => by
    simp [partsGo] at h
    exact absurd rfl (h0 (by lia)).2
  | v :: r, cur, l, t, h, h0 => by
    have hw := v.w12
    unfold partsGo at h
    simp only [shGo]
    rw [nxt_two hM hw.2, Nat.min_eq_left (show v.w ≤ M by lia)]
    by_cases hb : M < cur.length + v.w
    · rw [if_pos hb] at h ⊢
      rcases t with _ | _ | t
      · have := (h0 rfl).1
        subst this
        simp at hb; lia
      · exact ⟨0, rfl⟩
      · simp only [List.length_cons] at h
        obtain ⟨i, hi⟩ := parts_head hM r v.cells (l + 1) (t + 1) (by lia) (by lia)
        refine ⟨i + 1, ?_⟩
        rw [Un.len] at hi
        simp only [List.getElem?_cons_succ, Nat.zero_add]
        rw [hi]; congr 2; lia
    · rw [if_neg hb] at h ⊢
      cases t with
      | zero =>
        have := (h0 rfl).1
        subst this
        exact ⟨0, rfl⟩
      | succ t =>
        obtain ⟨i, hi⟩ := parts_head hM r (cur ++ v.cells) l (t + 1) h (by lia)
        refine ⟨i + 1, ?_⟩
        rw [List.length_append, Un.len] at hi
        simpa using hi
theorem parts_brk {M : Nat} (hM : 2 ≤ M) : ∀ (us : List Un) (cur : List Cl) (t : Nat) (p nx : List Cl), cur.length ≤ M → (partsGo M cur us)[t]? = some p → (partsGo M cur us)[t + 1]? = some nx →
    p ≠ [] ∧ (p.length = M ∨ (p.length + 1 = M ∧ wide1 nx = true))
  | [], cur, t, p, nx, _, _, h => by simp [partsGo] at h
  | v :: r, cur, t, p, nx, hc, h1, h2 => by
    have hw := v.w12
    unfold partsGo at h1 h2
    by_cases hb : M < cur.length + v.w
    · rw [if_pos hb] at h1 h2
      cases t with
      | zero =>
        simp only [List.getElem?_cons_zero, List.getElem?_cons_succ, Option.some.injEq, Nat.zero_add] at h1 h2
        subst h1
        refine ⟨by rintro rfl; simp at hb; lia, ?_⟩
        by_cases hc1 : cur.length = M
        · exact .inl hc1
        · refine .inr ⟨by lia, ?_⟩
          obtain ⟨x, hx⟩ := parts_first M r v.cells
          rw [hx] at h2; cases h2
          cases v with
          | one k => simp [Un.w] at hb; lia
          | two k => rfl
      | succ t =>
        simp only [List.getElem?_cons_succ] at h1 h2
        exact parts_brk hM r v.cells t p nx (by rw [Un.len]; lia) h1 h2
    · rw [if_neg hb] at h1 h2
      exact parts_brk hM r (cur ++ v.cells) t p nx (by rw [List.length_append, Un.len]; lia) h1 h2
theorem parts_le {M : Nat} (hM : 2 ≤ M) : ∀ (us : List Un) (cur : List Cl), cur.length ≤ M → ∀ p ∈ partsGo M cur us, p.length ≤ M
  | [], cur, h, p, hp => by simp [partsGo] at hp; subst hp; exact h
  | v :: r, cur, h, p, hp => by
    have hw := v.w12
    unfold partsGo at hp
    split at hp
    · rcases List.mem_cons.mp hp with rfl | hp
      · exact h
      · exact parts_le hM r v.cells (by rw [Un.len]; lia) p hp
    · exact parts_le hM r (cur ++ v.cells) (by rw [List.length_append, Un.len]; lia) p hp
theorem parts_ne {M : Nat} (hM : 2 ≤ M) : ∀ (us : List Un) (cur : List Cl), (us = [] → cur ≠ []) → ∀ p ∈ partsGo M cur us, p ≠ []
  | [], cur, h, p, hp => by simp [partsGo] at hp; subst hp; exact h rfl
  | v :: r, cur, h, p, hp => by
    have hw := v.w12
    have hv : v.cells ≠ [] := by intro e; have := congrArg List.length e; rw [Un.len] at this; simp at this; lia
    unfold partsGo at hp
    split at hp
    · rename_i hb
      rcases List.mem_cons.mp hp with rfl | hp
      · rintro rfl; simp at hb; lia
      · exact parts_ne hM r v.cells (fun _ => hv) p hp
    · exact parts_ne hM r (cur ++ v.cells) (fun _ => by simp [hv]) p hp
noncomputable def Whole (p : List Cl) : Prop := (∀ k, p[0]? = some k → k.wid ≠ 0) ∧ (∀ k, p.getLast? = some k → k.wid ≠ 2)
theorem Whole.nil : Whole [] := ⟨by simp, by simp⟩
theorem Whole.app {p : List Cl} {u : Un} (h : Whole p) (hu : u.ok) : Whole (p ++ u.cells) := by
  refine ⟨fun k hk => ?_, fun k hk => ?_⟩
  · cases p with
    | nil => cases u with
      | one c => simp [Un.cells] at hk; subst hk; simp [Un.ok] at hu; lia
      | two c => simp [Un.cells] at hk; subst hk; simp [Cl.wid]
    | cons a r => exact h.1 k (by simpa using hk)
  · cases u with
    | one c => simp [Un.cells] at hk; subst hk; simp [Un.ok] at hu; lia
    | two c => simp [Un.cells] at hk; subst hk; simp [Cl.wid]
theorem parts_whole (M : Nat) : ∀ (us : List Un) (cur : List Cl), (∀ u ∈ us, u.ok) → Whole cur → ∀ p ∈ partsGo M cur us, Whole p
  | [], cur, _, h, p, hp => by simp [partsGo] at hp; subst hp; exact h
  | v :: r, cur, hu, h, p, hp => by
    have hv := hu v (by simp)
    unfold partsGo at hp
    split at hp
    · rcases List.mem_cons.mp hp with rfl | hp
      · exact h
      · exact parts_whole M r v.cells (fun u hu' => hu u (by simp [hu'])) (by simpa using Whole.nil.app hv) p hp
    · exact parts_whole M r (cur ++ v.cells) (fun u hu' => hu u (by simp [hu'])) (h.app hv) p hp
noncomputable def pad (M : Nat) (p : List Cl) : List Cl := p ++ List.replicate (M - p.length) Cl.blank
theorem pad_len {M : Nat} {p : List Cl} (h : p.length ≤ M) : (pad M p).length = M := by unfold pad; simp; lia
theorem Whole.pad {M : Nat} {p : List Cl} (h : Whole p) : Whole (pad M p) := by
  unfold Mine.pad
  refine ⟨fun k hk => ?_, fun k hk => ?_⟩
  · cases p with
    | nil => simp [List.getElem?_replicate] at hk; obtain ⟨_, rfl⟩ := hk; simp [Cl.wid]
    | cons a r => exact h.1 k (by simpa using hk)
  · cases e : M - p.length with
    | zero => rw [e] at hk; exact h.2 k (by simpa using hk)
    | succ z =>
      rw [e, List.getLast?_append, List.getLast?_replicate] at hk
      simp at hk; subst hk; simp [Cl.wid]
noncomputable def setU (row : List Cl) (k : Nat) : Un → List Cl
  | .one c => row.set k c
  | .two c => (row.set k (.sign c 2)).set (k + 1) .right
noncomputable def putU (rows : List (List Cl)) (x : Un × (Nat × Nat)) : List (List Cl) := rows.set x.2.1 (setU (rows.getD x.2.1 []) x.2.2 x.1)
theorem setU_len {row : List Cl} {k : Nat} {u : Un} : (setU row k u).length = row.length := by cases u <;> simp [setU]
theorem setU_pad {M : Nat} {cur : List Cl} {u : Un} (h : cur.length + u.w ≤ M) : setU (pad M cur) cur.length u = pad M (cur ++ u.cells) := by
  unfold pad
  cases u with
  | one c =>
    simp only [Un.w] at h
    obtain ⟨z, hz⟩ : ∃ z, M - cur.length = z + 1 := ⟨M - cur.length - 1, by lia⟩
    simp only [setU, Un.cells, List.length_append, List.length_cons, List.length_nil]
    rw [hz, show M - (cur.length + (0 + 1)) = z by lia, List.replicate_succ, List.set_append_right _ _ (Nat.le_refl _)]
    simp
  | two c =>
    simp only [Un.w] at h
    obtain ⟨z, hz⟩ : ∃ z, M - cur.length = z + 2 := ⟨M - cur.length - 2, by lia⟩
    simp only [setU, Un.cells, List.length_append, List.length_cons, List.length_nil]
    rw [hz, show M - (cur.length + (0 + 1 + 1)) = z by lia, List.replicate_succ, List.replicate_succ, List.set_append_right _ _ (Nat.le_refl _), List.set_append_right _ _ (by lia)]
    simp
theorem fill {M : Nat} (hM : 2 ≤ M) : ∀ (us : List Un) (done : List (List Cl)) (cur : List Cl) (z : Nat), cur.length ≤ M → z + done.length = cutEnd M done.length cur.length us →
    (us.zip (shGo M done.length cur.length us)).foldl putU (done ++ pad M cur :: List.replicate z (List.replicate M .blank)) = done ++ (partsGo M cur us).map (pad M)
  | [], done, cur, z, hc, hz => by
    simp only [cutEnd] at hz
    have : z = 0 := by lia
    subst this
    simp [partsGo, shGo]
  | v :: r, done, cur, z, hc, hz => by
    have hw := v.w12
    unfold partsGo
    simp only [cutEnd, nxt_two hM hw.2, Nat.min_eq_left (show v.w ≤ M by lia)] at hz
    simp only [shGo, nxt_two hM hw.2, Nat.min_eq_left (show v.w ≤ M by lia), List.zip_cons_cons, List.foldl_cons]
    by_cases hb : M < cur.length + v.w
    · rw [if_pos hb] at hz ⊢
      simp only [if_pos hb]
      have hge := cutEnd_ge M r (done.length + 1) (0 + v.w)
      obtain ⟨y, rfl⟩ : ∃ y, z = y + 1 := ⟨z - 1, by simp only at hz; lia⟩
      have e : putU (done ++ pad M cur :: List.replicate (y + 1) (List.replicate M .blank)) (v, (done.length + 1, 0)) = (done ++ [pad M cur]) ++ pad M v.cells :: List.replicate y (List.replicate M .blank) := by
        have e1 : List.replicate M Cl.blank = pad M [] := by simp [pad]
        have e2 := setU_pad (M := M) (cur := []) (u := v) (by simp; lia)
        simp only [List.length_nil, List.nil_append] at e2
        unfold putU
        simp only
        rw [List.replicate_succ, show done ++ pad M cur :: List.replicate M Cl.blank :: List.replicate y (List.replicate M Cl.blank) = (done ++ [pad M cur]) ++ List.replicate M Cl.blank :: List.replicate y (List.replicate M Cl.blank) by simp]
        rw [List.set_append_right _ _ (by simp), List.getD_eq_getElem?_getD, List.getElem?_append_right (by simp)]
        simp only [List.length_append, List.length_cons, List.length_nil, Nat.zero_add, Nat.sub_self, List.getElem?_cons_zero, Option.getD_some, List.set_cons_zero]
        rw [e1, e2]
      rw [e]
      have := fill hM r (done ++ [pad M cur]) v.cells y (by rw [Un.len]; lia) (by simp only [List.length_append, List.length_cons, List.length_nil, Nat.zero_add, Un.len] at hz ⊢; lia)
      simp only [List.length_append, List.length_cons, List.length_nil, Nat.zero_add, Un.len] at this ⊢
      rw [this]; simp
    · rw [if_neg hb] at hz ⊢
      simp only [if_neg hb]
      have e : putU (done ++ pad M cur :: List.replicate z (List.replicate M .blank)) (v, (done.length, cur.length)) = done ++ pad M (cur ++ v.cells) :: List.replicate z (List.replicate M .blank) := by
        unfold putU
        simp only
        rw [List.set_append_right _ _ (Nat.le_refl _), List.getD_eq_getElem?_getD, List.getElem?_append_right (Nat.le_refl _)]
        simp only [Nat.sub_self, List.getElem?_cons_zero, Option.getD_some, List.set_cons_zero]
        rw [setU_pad (by lia)]
      rw [e]
      have := fill hM r done (cur ++ v.cells) z (by rw [List.length_append, Un.len]; lia) (by rw [List.length_append, Un.len]; exact hz)
      rw [List.length_append, Un.len] at this
      exact this
end PartP1
section PartP2
noncomputable def linesGo (M : Nat) : List (List Cl) → List (List Cl × Bool)
  | [] => []
  | p :: r => (pad M p, !r.isEmpty) :: linesGo M r
theorem linesGo_len (M : Nat) : ∀ q : List (List Cl), (linesGo M q).length = q.length
  | [] => rfl
  | _ :: r => by simp [linesGo, linesGo_len M r]
theorem linesGo_at (M : Nat) : ∀ (q : List (List Cl)) (t : Nat) (p : List Cl), q[t]? = some p → (linesGo M q)[t]? = some (pad M p, decide (t + 1 < q.length))
  | [], _, _, h => by simp at h
  | a :: r, 0, p, h => by
    simp only [List.getElem?_cons_zero, Option.some.injEq] at h
    subst h
    cases r <;> simp [linesGo]
  | a :: r, t + 1, p, h => by
    simp only [List.getElem?_cons_succ] at h
    simp only [linesGo, List.getElem?_cons_succ, linesGo_at M r t p h, List.length_cons]
    congr 2
    exact decide_eq_decide.mpr (by lia)
theorem linesGo_row {M : Nat} {q : List (List Cl)} {l : List Cl × Bool} (h : l ∈ linesGo M q) : ∃ p ∈ q, l.1 = pad M p := by
  obtain ⟨t, ht⟩ := List.getElem?_of_mem h
  have hl := (List.getElem?_eq_some_iff.mp ht).1
  rw [linesGo_len] at hl
  have hp := List.getElem?_eq_getElem hl
  rw [linesGo_at M q t _ hp] at ht
  cases ht
  exact ⟨_, List.getElem_mem hl, rfl⟩
theorem flat_split : ∀ (ps : List (List (List Cl))) (i : Nat) (p : List Cl), ps.flatten[i]? = some p → ∃ j q t, ps[j]? = some q ∧ q[t]? = some p ∧ i = off ps j + t
  | [], i, p, h => by simp at h
  | a :: r, i, p, h => by
    rw [List.flatten_cons] at h
    by_cases hi : i < a.length
    · rw [List.getElem?_append_left hi] at h
      exact ⟨0, a, i, rfl, h, by simp [off]⟩
    · rw [List.getElem?_append_right (by lia)] at h
      obtain ⟨j, q, t, h1, h2, h3⟩ := flat_split r _ p h
      refine ⟨j + 1, q, t, by simpa using h1, h2, ?_⟩
      unfold off at h3 ⊢
      rw [List.take_succ_cons, List.flatten_cons, List.length_append]; lia
theorem lines_off (M : Nat) : ∀ (ps : List (List (List Cl))) (j : Nat) (q : List (List Cl)) (t : Nat), ps[j]? = some q → t < q.length → (ps.flatMap (linesGo M))[off ps j + t]? = (linesGo M q)[t]?
  | [], j, q, t, h, _ => by simp at h
  | a :: r, 0, q, t, h, ht => by
    simp only [List.getElem?_cons_zero, Option.some.injEq] at h
    subst h
    rw [List.flatMap_cons, List.getElem?_append_left (by rw [linesGo_len]; simpa [off] using ht)]
    simp [off]
  | a :: r, j + 1, q, t, h, ht => by
    simp only [List.getElem?_cons_succ] at h
    have ih := lines_off M r j q t h ht
    have e : off (a :: r) (j + 1) = a.length + off r j := by unfold off; rw [List.take_succ_cons, List.flatten_cons, List.length_append]
    rw [List.flatMap_cons, e, List.getElem?_append_right (by rw [linesGo_len]; lia), linesGo_len, show a.length + off r j + t - a.length = off r j + t by lia]
    exact ih
theorem lines_len (M : Nat) : ∀ ps : List (List (List Cl)), (ps.flatMap (linesGo M)).length = ps.flatten.length
  | [] => rfl
  | a :: r => by rw [List.flatMap_cons, List.flatten_cons, List.length_append, List.length_append, linesGo_len, lines_len M r]
theorem cells_le : ∀ us : List Un, (cells us).length ≤ 2 * us.length
  | [] => Nat.le_refl _
  | u :: r => by
    have := cells_le r
    have := u.w12
    rw [cells_cons, List.length_append, Un.len, List.length_cons]; lia
theorem cells_noB : ∀ (us : List Un), (∀ u ∈ us, u.sgn) → ∀ k ∈ cells us, k.isB = false
  | [], _, k, h => by simp [cells_nil] at h
  | u :: r, hu, k, h => by
    rw [cells_cons] at h
    rcases List.mem_append.mp h with h | h
    · have hs := hu u (by simp)
      cases u with
      | one c => simp [Un.cells] at h; subst h; exact hs.2
      | two c => simp [Un.cells] at h; rcases h with rfl | rfl <;> rfl
    · exact cells_noB r (fun u hu' => hu u (by simp [hu'])) k h
theorem parts_noB {M : Nat} {us : List Un} (hu : ∀ u ∈ us, u.sgn) {p : List Cl} (hp : p ∈ partsGo M [] us) : ∀ k, p.getLast? = some k → k.isB = false := fun k hk => by
  refine cells_noB us hu k ?_
  have := parts_flat M us []
  rw [List.nil_append] at this
  rw [← this]
  exact List.mem_flatten.mpr ⟨p, hp, List.mem_of_getLast? hk⟩
noncomputable abbrev paraOf (M : Nat) (us : List Un) : Para := ⟨partsGo M [] us, us⟩
noncomputable def allLines (M : Nat) (ts : List (List Un)) : List (List Cl × Bool) := (qs (ts.map (paraOf M))).flatMap (linesGo M)
theorem parts_pos (M : Nat) (us : List Un) : 0 < (partsGo M [] us).length := by
  obtain ⟨x, h⟩ := parts_first M us []
  exact (List.getElem?_eq_some_iff.mp h).1
theorem parts_sz {M : Nat} (hM : 2 ≤ M) {us : List Un} (h : us.length ≤ 8) : (partsGo M [] us).length ≤ 17 := by
  have h1 := parts_len hM us [] 0
  have h2 := cutEnd_le M us 0 0
  have h3 := cells_le us
  simp only [List.length_nil] at h1
  lia
theorem begN_room : ∀ (q : List (List Cl)) (o t b : Nat) (p : List Cl), (begN o q)[t]? = some b → q[t]? = some p → b + p.length ≤ o + q.flatten.length
  | [], _, _, _, _, h, _ => by simp [begN] at h
  | a :: r, o, 0, b, p, h, hp => by
    simp only [begN, List.getElem?_cons_zero, Option.some.injEq] at h hp
    subst h; subst hp
    rw [List.flatten_cons, List.length_append]; lia
  | a :: r, o, t + 1, b, p, h, hp => by
    simp only [begN, List.getElem?_cons_succ] at h hp
    have := begN_room r _ t b p h hp
    rw [List.flatten_cons, List.length_append]; lia
theorem begN_succ : ∀ (q : List (List Cl)) (o t b b' : Nat) (p : List Cl), (begN o q)[t]? = some b → (begN o q)[t + 1]? = some b' → q[t]? = some p → b' = b + p.length
  | [], _, _, _, _, _, h, _, _ => by simp [begN] at h
  | a :: r, o, 0, b, b', p, h, h', hp => by
    simp only [begN, List.getElem?_cons_zero, Option.some.injEq, List.getElem?_cons_succ] at h h' hp
    subst h; subst hp
    cases r with
    | nil => simp [begN] at h'
    | cons a' r' => simp [begN] at h'; exact h'.symm
  | a :: r, o, t + 1, b, b', p, h, h', hp => by
    simp only [begN, List.getElem?_cons_succ] at h h' hp
    exact begN_succ r _ t b b' p h h' hp
theorem para_ok {M : Nat} (hM : 2 ≤ M) {us : List Un} (h8 : us.length ≤ 8) (hu : ∀ u ∈ us, u.sgn) : (paraOf M us).ok := by
  have h2 := parts_sz hM h8
  have h3 := cells_le us
  have hf : (partsGo M [] us).flatten = cells us := by rw [parts_flat]; rfl
  refine ⟨hf, fun u hm => Un.sgn_ok (hu u hm), by show (cells us).length ≤ 800; lia, by show (partsGo M [] us).length ≤ 800; lia, parts_pos M us, fun b hb => ⟨fun hne => ?_, fun he => ?_⟩⟩
  · obtain ⟨t, ht⟩ := List.getElem?_of_mem hb
    have htl := (List.getElem?_eq_some_iff.mp ht).1
    rw [begN_len] at htl
    have hp := List.getElem?_eq_getElem htl
    have h1 := begN_room _ _ t b _ ht hp
    have h4 := parts_ne hM us [] (fun e => absurd e hne) _ (List.getElem_mem htl)
    have h5 := List.length_pos_iff.mpr h4
    have h6 := congrArg List.length hf
    show b < (cells us).length
    simp only [paraOf] at h1 h5
    lia
  · simp only [paraOf] at he hb
    subst he
    simpa [partsGo, begN] using hb
theorem spec_of {M : Nat} (hM : 2 ≤ M) (hM' : M ≤ 100) {ts : List (List Un)} (hs : ∀ us ∈ ts, us.length ≤ 8 ∧ ∀ u ∈ us, u.sgn) (hz : ts.length ≤ 4) : Spec (allLines M ts) (qs (ts.map (paraOf M))) := by
  have hq : ∀ q ∈ qs (ts.map (paraOf M)), ∃ us ∈ ts, q = partsGo M [] us := fun q h => by
    simp only [qs, List.map_map, List.mem_map] at h
    obtain ⟨us, h1, h2⟩ := h
    exact ⟨us, h1, h2.symm⟩
  have at_ : ∀ (j : Nat) q (t : Nat) p, (qs (ts.map (paraOf M)))[j]? = some q → q[t]? = some p → (allLines M ts)[off (qs (ts.map (paraOf M))) j + t]? = some (pad M p, decide (t + 1 < q.length)) := fun j q t p h h' => by
    unfold allLines
    rw [lines_off M _ j q t h (List.getElem?_eq_some_iff.mp h').1]
    exact linesGo_at M q t p h'
  have go : ∀ (j : Nat) q (t : Nat), (qs (ts.map (paraOf M)))[j]? = some q → t < q.length → goesOn (allLines M ts) (off (qs (ts.map (paraOf M))) j + t) = decide (t + 1 < q.length) := fun j q t h ht => by
    obtain ⟨us, hus, rfl⟩ := hq q (List.mem_of_getElem? h)
    have hp := List.getElem?_eq_getElem ht
    have hle := parts_le hM us [] (by simp) _ (List.getElem_mem ht)
    unfold goesOn
    rw [at_ j _ t _ h hp]
    simp only [pad_len hle]
    by_cases hlt : t + 1 < (partsGo M [] us).length
    · have hp' := List.getElem?_eq_getElem hlt
      have hll := (List.getElem?_eq_some_iff.mp (at_ j _ (t + 1) _ h hp')).1
      rw [decide_eq_true hlt, decide_eq_true (by lia : off (qs (ts.map (paraOf M))) j + t + 1 < (allLines M ts).length), decide_eq_true (by lia : M ≠ 0)]
      rfl
    · rw [decide_eq_false hlt]; simp
  have flat17 : ∀ ts : List (List Un), (∀ us ∈ ts, us.length ≤ 8 ∧ ∀ u ∈ us, u.sgn) → (qs (ts.map (paraOf M))).flatten.length ≤ 17 * ts.length := by
    intro ts
    induction ts with
    | nil => intro _; simp [qs]
    | cons us r ih =>
      intro hs
      have h1 := ih fun u hu => hs u (by simp [hu])
      have h2 := parts_sz hM (hs us (by simp)).1
      simp only [qs, List.map_cons, List.flatten_cons, List.length_append, List.length_cons] at h1 ⊢
      lia
  refine ⟨(lines_len M _).symm, fun i p h => ?_, fun q h => ?_, go, ?_, fun l h => ?_, fun q h => ?_, ?_⟩
  · obtain ⟨j, q, t, h1, h2, rfl⟩ := flat_split _ i p h
    obtain ⟨us, hus, rfl⟩ := hq q (List.mem_of_getElem? h1)
    have htl := (List.getElem?_eq_some_iff.mp h2).1
    refine ⟨pad M p, _, M - p.length, at_ j _ t p h1 h2, rfl, parts_noB (hs us hus).2 (List.mem_of_getElem? h2), fun hg => ?_⟩
    rw [go j _ t h1 htl] at hg
    have hlt := of_decide_eq_true hg
    have hp' := List.getElem?_eq_getElem hlt
    obtain ⟨e1, e2⟩ := parts_brk hM us [] t p _ (by simp) h2 hp'
    refine ⟨e1, ?_⟩
    rcases e2 with e2 | ⟨e2, e3⟩
    · left; lia
    · right
      refine ⟨by lia, _, at_ j _ (t + 1) _ h1 hp', ?_⟩
      unfold pad
      revert e3
      cases (partsGo M [] us)[t + 1] with
      | nil => intro e3; cases e3
      | cons a r => exact id
  · obtain ⟨us, hus, rfl⟩ := hq q h
    exact List.length_pos_iff.mp (parts_pos M us)
  · have h1 := flat17 ts hs
    have h2 := lines_len M (qs (ts.map (paraOf M)))
    unfold allLines
    lia
  · unfold allLines at h
    obtain ⟨q, h1, h2⟩ := List.mem_flatMap.mp h
    obtain ⟨us, hus, rfl⟩ := hq q h1
    obtain ⟨p, hp, e⟩ := linesGo_row h2
    rw [e, pad_len (parts_le hM us [] (by simp) p hp)]
    lia
  · obtain ⟨us, hus, rfl⟩ := hq q h
    rw [parts_flat, List.nil_append]
    have := cells_le us
    have := (hs us hus).1
    lia
  · simp [qs]; lia
end PartP2
section PartW14
set_option maxRecDepth 100000
noncomputable def toU (s : Sg) : Un := if s.2 = 2 then .two s.1 else .one (.sign s.1 s.2)
theorem toU_w {s : Sg} (h : s ∈ table) : s.2 = ((toU s).w : Int) := by
  simp only [table, List.mem_cons, List.not_mem_nil, or_false] at h
  rcases h with rfl | rfl | rfl | rfl | rfl <;> rfl
theorem toU_sgn {s : Sg} (h : s ∈ table) : (toU s).sgn := by
  simp only [table, List.mem_cons, List.not_mem_nil, or_false] at h
  rcases h with rfl | rfl | rfl | rfl | rfl <;> first | exact ⟨rfl, rfl⟩ | exact trivial
noncomputable abbrev usOf (ss : List Sg) : List Un := ss.map toU
theorem f_shown {ss : List Sg} {N : Nat} {Q : V → Hp → Prop} (hs : ∀ s ∈ ss, s ∈ table) (hz : ss.length ≤ 1000)
    (h : Q (.tup [.lst ((shGo N 0 0 (usOf ss)).map placeV), .int ((cutEnd N 0 0 (usOf ss) + 1 : Nat) : Int)]) H) : FN c 2 (.ref 402) [.lst (ss.map sV), .int N] H Q := by
  refine FN.forget ?_
  refine FN.defm (by rw [c.hK]; exact rfl) [Str.ofString "signs", Str.ofString "columns"] [Str.ofString "spots", Str.ofString "line", Str.ofString "column", Str.ofString "code", Str.ofString "width", Str.ofString "room"] [(Str.ofString "signs", some (.lst (ss.map sV))), (Str.ofString "columns", some (.int N)), (Str.ofString "spots", none), (Str.ofString "line", none), (Str.ofString "column", none), (Str.ofString "code", none), (Str.ofString "width", none), (Str.ofString "room", none)] (by rw [c.hK]; kernel_rfl) rfl rfl (fun vs hv => by rcases vs with _ | ⟨a0, _ | ⟨a1, _ | ⟨q, r⟩⟩⟩ <;> first | rfl | (simp at hv; done)) (by kernel_rfl) (by kernel_rfl) rfl rfl rfl fun L => ?_
  refine SX.swap3 ?_
  walk_at "ww"
  refine EV.list ?_
  walk_at "ww"
  intro S hS
  walk_at "ww"
  refine ⟨_, _, _, rfl, ?_⟩
  iterate 3 walk_at "w"
  refine SX.for2 (fun i m' H' => E6 fun (l k : Nat) (plc : List (Nat × Nat)) (o1 o2 o3 : Option V) => A6 (m' = [((Str.ofString "signs"), some (.lst (ss.map sV))), ((Str.ofString "columns"), some (.int N)), ((Str.ofString "spots"), some (.ref S)), ((Str.ofString "line"), some (.int (l : Nat))), ((Str.ofString "column"), some (.int (k : Nat))), ((Str.ofString "code"), o1), ((Str.ofString "width"), o2), ((Str.ofString "room"), o3)]) (H' = H.set S (.list (plc.map placeV))) (plc.length = i) (i ≤ ss.length) (plc ++ shGo N l k (usOf (ss.drop i)) = shGo N 0 0 (usOf ss)) (cutEnd N l k (usOf (ss.drop i)) = cutEnd N 0 0 (usOf ss)))
    (fun m' H' => E4 fun (k : Nat) (o1 o2 o3 : Option V) => A2 (m' = [((Str.ofString "signs"), some (.lst (ss.map sV))), ((Str.ofString "columns"), some (.int N)), ((Str.ofString "spots"), some (.ref S)), ((Str.ofString "line"), some (.int (cutEnd N 0 0 (usOf ss) : Nat))), ((Str.ofString "column"), some (.int (k : Nat))), ((Str.ofString "code"), o1), ((Str.ofString "width"), o2), ((Str.ofString "room"), o3)]) (H' = H.set S (.list ((shGo N 0 0 (usOf ss)).map placeV)))) ?_ ?_
  · refine IT.lst ?_
    walk_at "ww"
    refine ⟨_, rfl, ⟨0, 0, [], none, none, none, rfl, rfl, rfl, Nat.zero_le _, rfl, rfl⟩, ?_, ?_⟩
    · rintro i W2 _ _ hW2 ⟨l, k, plc, o1, o2, o3, rfl, rfl, hl, hi, e1, e2⟩
      rw [List.getElem?_map] at hW2
      obtain ⟨s, hsi, rfl⟩ : ∃ s, ss[i]? = some s ∧ W2 = sV s := by
        cases z : ss[i]? with
        | none => rw [z] at hW2; cases hW2
        | some w => rw [z] at hW2; cases hW2; exact ⟨w, rfl, rfl⟩
      have hil := (List.getElem?_eq_some_iff.mp hsi).1
      have hw := toU_w (hs s (List.mem_of_getElem? hsi))
      have hd : ss.drop i = s :: ss.drop (i + 1) := by
        rw [List.drop_eq_getElem_cons hil]
        rw [List.getElem?_eq_getElem hil] at hsi; cases hsi; rfl
      rw [hd] at e1 e2
      simp only [usOf, List.map_cons, shGo, cutEnd] at e1 e2
      walk_at "ww"
      refine call_min ?_
      walk_at "ww"
      refine CL.min ?_
      refine ⟨_, by walk_at "upd", ?_⟩
      refine SX.ifP (fun m' H' => m' = [((Str.ofString "signs"), some (.lst (ss.map sV))), ((Str.ofString "columns"), some (.int N)), ((Str.ofString "spots"), some (.ref S)), ((Str.ofString "line"), some (.int ((nxt N l k (toU s).w).1 : Nat))), ((Str.ofString "column"), some (.int ((nxt N l k (toU s).w).2 : Nat))), ((Str.ofString "code"), some (.int s.1)), ((Str.ofString "width"), some (.int s.2)), ((Str.ofString "room"), some (.int (min s.2 (N : Int))))] ∧
        H' = H.set S (.list (plc.map placeV))) ?_ ?_
      · walk_at "ww"
        refine ifd (fun e => ?_) fun e => ?_
        · refine SX.swap2 ?_
          walk_at "ww"
          refine ⟨_, _, rfl, ?_⟩
          iterate 2 walk_at "w"
          walk_at "ww"
          have en : nxt N l k (toU s).w = (l + 1, 0) := by unfold nxt; rw [if_pos (by lia)]
          rw [en]
          exact ⟨rfl, rfl⟩
        · have en : nxt N l k (toU s).w = (l, k) := by unfold nxt; rw [if_neg (by lia)]
          rw [en]
          exact ⟨rfl, rfl⟩
      · rintro _ _ ⟨rfl, rfl⟩
        walk_at "ww"
        refine ⟨_, Hp.set_same .., by simp; lia, ?_⟩
        walk_at "ww"
        refine ⟨_, _, plc ++ [nxt N l k (toU s).w], some (.int s.1), some (.int s.2), some (.int (min s.2 (N : Int))), ?_, ?_, by simp [hl], hil, ?_, e2⟩
        · rw [show ((nxt N l k (toU s).w).2 : Int) + min s.2 (N : Int) = (((nxt N l k (toU s).w).2 + min (toU s).w N : Nat) : Int) by lia]
        · rw [Hp.setSet, List.map_append]; rfl
        · rw [List.append_assoc]; exact e1
    · rintro _ _ ⟨l, k, plc, o1, o2, o3, rfl, rfl, hl, hi, e1, e2⟩
      rw [List.length_map, List.drop_length] at e1 e2
      simp only [usOf, List.map_nil, shGo, cutEnd, List.append_nil] at e1 e2
      subst e1 e2
      exact ⟨k, o1, o2, o3, rfl, rfl⟩
  · rintro _ _ ⟨k, o1, o2, o3, rfl, rfl⟩
    refine SX.gh (x := (Str.ofString "spots")) (W := .ref S) (by walk_at "mem") (Gh.lst (Hp.set_same ..)) (by walk_at "upd") ?_
    walk_at "ww"
    rw [Hp.setBack hS]
    exact ⟨H, Less.refl, h⟩
end PartW14
section PartW15
set_option maxRecDepth 100000
theorem sign_cell {s : Sg} : V.tup [V.tup [V.int s.1], V.int s.2, penV, V.bool false] = cellV (.sign s.1 s.2) := rfl
theorem right_cell : V.tup [V.tup [], V.int 0, penV, V.bool false] = cellV .right := rfl
theorem toU_one {s : Sg} (h : s.2 ≠ 2) : toU s = .one (.sign s.1 s.2) := if_neg h
theorem toU_two {s : Sg} (h : s.2 = 2) : toU s = .two s.1 := if_pos h
noncomputable def RowsAt (H : Hp) (as : List Addr) (rows : List (List Cl)) : Prop := ∀ (t : Nat) a r, as[t]? = some a → rows[t]? = some r → H a = some (.list (r.map cellV))
theorem RowsAt.put {as : List Addr} {rows : List (List Cl)} (h : RowsAt H as rows) (nd : as.Nodup) {t : Nat} {a : Addr} {r' : List Cl} (ha : as[t]? = some a) : RowsAt (H.set a (.list (r'.map cellV))) as (rows.set t r') := by
  intro t' a' r h1 h2
  by_cases e : t' = t
  · subst e
    rw [ha] at h1; cases h1
    rw [List.getElem?_set_self' ] at h2
    cases z : rows[t']? with
    | none => rw [z] at h2; cases h2
    | some y => rw [z] at h2; cases h2; exact Hp.set_same ..
  · rw [List.getElem?_set_ne (Ne.symm e)] at h2
    have : a' ≠ a := by
      rintro rfl
      exact e ((List.getElem?_inj (List.getElem?_eq_some_iff.mp h1).1 nd).mp (h1.trans ha.symm))
    rw [Hp.set_ne _ _ this]
    exact h t' a' r h1 h2
theorem f_lines {ss : List Sg} {M : Nat} {Q : V → Hp → Prop} (hs : ∀ s ∈ ss, s ∈ table) (hz : ss.length ≤ 8) (hM : 2 ≤ M) (hM' : M ≤ 100)
    (h : Q (linesV (linesGo M (partsGo M [] (usOf ss)))) H) : FN c 8 (.ref 407) [.lst (ss.map sV), .int M] H Q := by
  have hU : ∀ u ∈ usOf ss, u.sgn := fun u hu => by
    obtain ⟨s, h1, rfl⟩ := List.mem_map.mp hu
    exact toU_sgn (hs s h1)
  have hzu : (usOf ss).length ≤ 8 := by rw [List.length_map]; exact hz
  have hpl := parts_len hM (usOf ss) [] 0
  simp only [List.length_nil, Nat.add_zero] at hpl
  have hpz := parts_sz hM hzu
  refine FN.gh ?_
  refine FN.defCm (by rw [c.hK]; exact rfl) [Str.ofString "signs", Str.ofString "columns"] [Str.ofString "spots", Str.ofString "many", Str.ofString "rows", Str.ofString "code", Str.ofString "width", Str.ofString "line", Str.ofString "column"] [(Str.ofString "signs", some (.lst (ss.map sV))), (Str.ofString "columns", some (.int M)), (Str.ofString "spots", none), (Str.ofString "many", none), (Str.ofString "rows", none), (Str.ofString "code", none), (Str.ofString "width", none), (Str.ofString "line", none), (Str.ofString "column", none)] (by rw [c.hK]; kernel_rfl) rfl rfl (fun vs hv => by rcases vs with _ | ⟨a0, _ | ⟨a1, _ | ⟨q, r⟩⟩⟩ <;> first | rfl | (simp at hv; done)) (by kernel_rfl) rfl rfl rfl fun L => ?_
  refine SX.unpack ?_
  refine call_law_shown ?_
  walk_at "ww"
  refine ((f_shown hs (by lia) ?_).le (by decide)).cl
  rw [← hpl]
  walk_at "ww"
  refine SX.st (ST.asgComp (mc := [((Str.ofString "line"), none), ((Str.ofString "columns"), some (.int M))]) (cl := [((Str.ofString "columns"), L + 1)]) ?_ rfl ?_ (.inl (by exact Option.some_ne_none _)))
  · refine CompOK.of rfl (by kernel_rfl) rfl (by kernel_rfl) (by intro q hq; simp only [List.mem_singleton] at hq; subst hq; rfl) (by simp only [List.map_cons, List.map_nil]; decide) ?_
    exact Caps.loc (by kernel_rfl) (Caps.cap (by walk_at "mem") (.inl (by kernel_rfl)) (.inl (by kernel_rfl)) rfl Caps.nil)
  refine IT.range (x := (Str.ofString "range")) gg_range (by kernel_rfl) (by kernel_rfl) ?_
  walk_at "ww"
  refine ⟨by lia, by lia, fun D C hD => ?_⟩
  refine ⟨fun i m' H' => E2 fun (o : Option V) (as : List Addr) => A7 (m' = [((Str.ofString "line"), o), ((Str.ofString "columns"), some (.int M))]) (i ≤ (partsGo M [] (usOf ss)).length) (as.length = i) (as.Nodup) (H' D = some (.list (as.map V.ref))) ((∀ a ∈ as, H' a = some (.list ((List.replicate M Cl.blank).map cellV)) ∧ H a = none ∧ a ≠ D)) (Less H H'),
    ⟨none, [], rfl, Nat.zero_le _, rfl, by simp, Hp.set_same .., by simp, Less.skip Less.refl hD⟩, ?_, ?_⟩
  · rintro i W2 _ H' hW2 ⟨o, as, rfl, hi, has, hnd, hDv, hrows, hl⟩
    have hi' : i < (partsGo M [] (usOf ss)).length := by
      have := (List.getElem?_eq_some_iff.mp hW2).1
      simpa using this
    refine AS.name (by walk_at "upd") ?_ (.inr (by kernel_rfl))
    refine EV.comp (mc := [((Str.ofString "column"), none)]) (cl := []) ?_ ?_
    · refine CompOK.of rfl (by kernel_rfl) rfl (by kernel_rfl) (by intro q hq; cases hq) (by simp only [List.map_cons, List.map_nil]; decide) ?_
      exact Caps.loc (by kernel_rfl) Caps.nil
    refine IT.range (x := (Str.ofString "range")) gg_range (by kernel_rfl) (by kernel_rfl) ?_
    walk_at "ww"
    refine ⟨by lia, by lia, fun D2 C2 hD2 => ?_⟩
    refine ⟨fun j m2 H2 => E1 fun (o : Option V) => A3 (m2 = [((Str.ofString "column"), o)]) (j ≤ M) (H2 = H'.set D2 (.list ((List.replicate j Cl.blank).map cellV))), ⟨none, rfl, Nat.zero_le _, rfl⟩, ?_, ?_⟩
    · rintro j W3 _ _ hW3 ⟨o2, rfl, hj, rfl⟩
      have hj' : j < M := by
        have := (List.getElem?_eq_some_iff.mp hW3).1
        simpa using this
      refine AS.name (by walk_at "upd") ?_ (.inr (by kernel_rfl))
      refine call_blank_cell ?_
      walk_at "ww"
      refine ((f_blank ?_).le (by decide)).cl
      walk_at "ww"
      refine ⟨_, Hp.set_same .., by simp; lia, _, rfl, hj', ?_⟩
      rw [Hp.setSet, List.replicate_succ', List.map_append]; rfl
    · rintro _ _ ⟨o2, rfl, hj, rfl⟩
      rw [List.length_map, List.length_range, Int.toNat_natCast]
      have nD : D ≠ D2 := by rintro rfl; rw [hDv] at hD2; cases hD2
      have hnew : H D2 = none := by
        cases z : H D2 with
        | none => rfl
        | some d => rw [hl _ _ z] at hD2; cases hD2
      have hna : ∀ a ∈ as, a ≠ D2 := fun a ha => by rintro rfl; rw [(hrows _ ha).1] at hD2; cases hD2
      refine ⟨_, by rw [Hp.set_ne _ _ nD]; exact hDv, by rw [List.length_map]; lia, _, as ++ [D2], rfl, hi', by simp [has], ?_, ?_, ?_, ?_⟩
      · rw [List.nodup_append]
        refine ⟨hnd, by simp, fun a ha b hb => ?_⟩
        simp at hb; subst hb; exact hna a ha
      · rw [List.map_append]; exact Hp.set_same ..
      · intro a ha
        rcases List.mem_append.mp ha with ha | ha
        · obtain ⟨q1, q2, q3⟩ := hrows a ha
          refine ⟨?_, q2, q3⟩
          rw [Hp.set_ne _ _ q3, Hp.set_ne _ _ (hna a ha)]; exact q1
        · simp at ha; subst ha
          refine ⟨?_, hnew, nD.symm⟩
          rw [Hp.set_ne _ _ nD.symm]; exact Hp.set_same ..
      · exact Less.skip (Less.skip hl hnew) hD
  rintro _ H0 ⟨o, as, rfl, hi, has, hnd, hDv, hrows, hl⟩
  rw [List.length_map, List.length_range, Int.toNat_natCast] at has
  refine ⟨_, _, _, .inl ⟨_, rfl, hDv, rfl⟩, by walk_at "upd", Kn.next ?_⟩
  have hl1 : Less H (H0.del D) := Less.out hl hD
  have hr1 : RowsAt (H0.del D) as (List.replicate (partsGo M [] (usOf ss)).length (List.replicate M Cl.blank)) := by
    intro t a r h1 h2
    have ha := List.mem_of_getElem? h1
    obtain ⟨q1, q2, q3⟩ := hrows a ha
    rw [Hp.del_ne _ q3, q1]
    rw [List.getElem?_replicate] at h2
    split at h2
    · cases h2; rfl
    · cases h2
  have hfill := fill hM (usOf ss) [] [] (cutEnd M 0 0 (usOf ss)) (by simp) (by simp)
  simp only [List.nil_append, List.length_nil] at hfill
  rw [show pad M [] = List.replicate M Cl.blank by simp [pad], ← List.replicate_succ, ← hpl] at hfill
  have hna : ∀ a ∈ as, H a = none := fun a ha => (hrows a ha).2.1
  generalize H0.del D = H1 at *
  clear hrows hDv hl
  have sgl : ∀ i s, ss[i]? = some s → (usOf ss)[i]? = some (toU s) := fun i s hi => by rw [List.getElem?_map, hi]; rfl
  refine SX.for2 (fun i m' H' => E5 fun (rows : List (List Cl)) (o1 o2 o3 o4 : Option V) => A6 (m' = [((Str.ofString "signs"), some (.lst (ss.map sV))), ((Str.ofString "columns"), some (.int M)), ((Str.ofString "spots"), some (.lst ((shGo M 0 0 (usOf ss)).map placeV))), ((Str.ofString "many"), some (.int ((partsGo M [] (usOf ss)).length : Nat))), ((Str.ofString "rows"), some (.lst (as.map V.ref))), ((Str.ofString "code"), o1), ((Str.ofString "width"), o2), ((Str.ofString "line"), o3), ((Str.ofString "column"), o4)]) (rows.length = (partsGo M [] (usOf ss)).length) ((∀ r ∈ rows, r.length = M)) (RowsAt H' as rows) (Less H H') ((((usOf ss).zip (shGo M 0 0 (usOf ss))).drop i).foldl putU rows = (partsGo M [] (usOf ss)).map (pad M)))
    (fun m' H' => E4 fun (o1 o2 o3 o4 : Option V) => A3 (m' = [((Str.ofString "signs"), some (.lst (ss.map sV))), ((Str.ofString "columns"), some (.int M)), ((Str.ofString "spots"), some (.lst ((shGo M 0 0 (usOf ss)).map placeV))), ((Str.ofString "many"), some (.int ((partsGo M [] (usOf ss)).length : Nat))), ((Str.ofString "rows"), some (.lst (as.map V.ref))), ((Str.ofString "code"), o1), ((Str.ofString "width"), o2), ((Str.ofString "line"), o3), ((Str.ofString "column"), o4)]) (RowsAt H' as ((partsGo M [] (usOf ss)).map (pad M))) (Less H H')) ?_ ?_
  · refine IT.zip2 gg_zip (by kernel_rfl) (by kernel_rfl) ?_
    walk_at "ww"
    refine ⟨_, _, rfl, by rw [List.length_map, List.length_map, shGo_len, List.length_map], ⟨_, none, none, none, none, rfl, by simp, ?_, hr1, hl1, hfill⟩, ?_, ?_⟩
    · intro r hr
      rw [(List.mem_replicate.mp hr).2]; simp
    · rintro i W2 _ H' hW2 ⟨rows, o1, o2, o3, o4, rfl, hrl, hrM, hr, hl, hf⟩
      rw [List.getElem?_zipWith, List.getElem?_map, List.getElem?_map] at hW2
      obtain ⟨s, hsi⟩ : ∃ s, ss[i]? = some s := by
        cases z : ss[i]? with
        | none => simp [z] at hW2
        | some w => exact ⟨w, rfl⟩
      obtain ⟨p, hpi⟩ : ∃ p, (shGo M 0 0 (usOf ss))[i]? = some p := by
        cases z : (shGo M 0 0 (usOf ss))[i]? with
        | none => simp [z] at hW2
        | some w => exact ⟨w, rfl⟩
      rw [hsi, hpi] at hW2
      cases hW2
      have hst := hs s (List.mem_of_getElem? hsi)
      have hw := toU_w hst
      have hw2 := (toU s).w12
      have hrow := shGo_row M _ _ _ _ _ hpi
      have hroom := shGo_room M _ _ _ _ _ _ (sgl i s hsi) hpi
      rw [Nat.min_eq_left (by lia)] at hroom
      have hp1 : p.1 < as.length := by lia
      obtain ⟨a, ha⟩ : ∃ a, as[p.1]? = some a := ⟨_, List.getElem?_eq_getElem hp1⟩
      have hp1' : p.1 < rows.length := by lia
      obtain ⟨row, hrow'⟩ : ∃ row, rows[p.1]? = some row := ⟨_, List.getElem?_eq_getElem hp1'⟩
      have hrowM := hrM row (List.mem_of_getElem? hrow')
      have hcell := hr p.1 a row ha hrow'
      have hd : ((usOf ss).zip (shGo M 0 0 (usOf ss))).drop i = (toU s, p) :: ((usOf ss).zip (shGo M 0 0 (usOf ss))).drop (i + 1) := by
        have e : ((usOf ss).zip (shGo M 0 0 (usOf ss)))[i]? = some (toU s, p) := List.getElem?_zip_eq_some.mpr ⟨sgl i s hsi, hpi⟩
        have hil := (List.getElem?_eq_some_iff.mp e).1
        rw [List.drop_eq_getElem_cons hil]
        rw [List.getElem?_eq_getElem hil] at e; rw [Option.some.inj e]
      rw [hd, List.foldl_cons] at hf
      have hput : putU rows (toU s, p) = rows.set p.1 (setU row p.2 (toU s)) := by
        unfold putU; simp only; rw [List.getD_eq_getElem?_getD, hrow']; rfl
      rw [hput] at hf
      have nsub : SubAt H' (.lst (as.map V.ref)) (.int p.1) (.ref a) := SubAt.list IsL.fr (by lia) (by lia) (idx_at (by rw [List.getElem?_map, ha]; rfl))
      have nsub' : ∀ d, SubAt (H'.set a d) (.lst (as.map V.ref)) (.int p.1) (.ref a) := fun d => SubAt.list IsL.fr (by lia) (by lia) (idx_at (by rw [List.getElem?_map, ha]; rfl))
      have fin : (∀ r ∈ rows.set p.1 (setU row p.2 (toU s)), r.length = M) ∧ RowsAt (H'.set a (.list ((setU row p.2 (toU s)).map cellV))) as (rows.set p.1 (setU row p.2 (toU s))) ∧ Less H (H'.set a (.list ((setU row p.2 (toU s)).map cellV))) := by
        refine ⟨fun r hr' => ?_, hr.put hnd ha, Less.skip hl (hna a (List.mem_of_getElem? ha))⟩
        rcases List.mem_or_eq_of_mem_set hr' with q | q
        · exact hrM r q
        · rw [q, setU_len]; exact hrowM
      obtain ⟨f1, f2, f3⟩ := fin
      walk_at "ww"
      refine SX.setitem ?_
      walk_at "ww"
      refine ⟨_, nsub, ?_⟩
      walk_at "ww"
      refine ⟨_, _, _, rfl, hcell, rfl, by lia, by rw [List.length_map]; lia, by lia, ?_⟩
      rw [sign_cell, Int.toNat_natCast]
      walk_at "ww"
      refine ifd (fun e => ?_) fun e => ?_
      · refine SX.setitem ?_
        walk_at "ww"
        refine ⟨_, nsub' _, ?_⟩
        walk_at "ww"
        refine ⟨_, _, _, rfl, Hp.set_same .., rfl, by lia, by rw [List.length_set, List.length_map]; rw [toU_two e] at hroom; simp only [Un.w] at hroom; lia, by lia, ?_⟩
        rw [right_cell]
        walk_at "ww"
        refine ⟨rows.set p.1 (setU row p.2 (toU s)), _, _, _, _, rfl, by simp [hrl], f1, ?_, ?_, hf⟩
        all_goals (
          rw [Hp.setSet, show ((p.2 : Int) + 1).toNat = p.2 + 1 by lia])
        all_goals (rw [toU_two e] at *)
        · simpa [setU, List.map_set, e] using f2
        · simpa [setU, List.map_set, e] using f3
      · walk_at "ww"
        refine ⟨rows.set p.1 (setU row p.2 (toU s)), _, _, _, _, rfl, by simp [hrl], f1, ?_, ?_, hf⟩
        all_goals (rw [toU_one e] at *)
        · simpa [setU, List.map_set] using f2
        · simpa [setU, List.map_set] using f3
    · rintro _ H' ⟨rows, o1, o2, o3, o4, rfl, hrl, hrM, hr, hl, hf⟩
      rw [List.drop_of_length_le (by simp [shGo_len])] at hf
      simp only [List.foldl_nil] at hf
      subst hf
      exact ⟨o1, o2, o3, o4, rfl, hr, hl⟩
  rintro _ H2 ⟨o1, o2, o3, o4, rfl, hr, hl⟩
  refine SX.ret ?_
  refine EV.comp (mc := [((Str.ofString "at"), none), ((Str.ofString "row"), none), ((Str.ofString "many"), some (.int ((partsGo M [] (usOf ss)).length : Nat)))]) (cl := [((Str.ofString "many"), L + 2)]) ?_ ?_
  · refine CompOK.of rfl (by kernel_rfl) rfl (by kernel_rfl) (by intro q hq; simp only [List.mem_singleton] at hq; subst hq; rfl) (by simp only [List.map_cons, List.map_nil]; decide) ?_
    exact Caps.loc (by kernel_rfl) (Caps.loc (by kernel_rfl) (Caps.cap (by walk_at "mem") (.inl (by kernel_rfl)) (.inl (by kernel_rfl)) rfl Caps.nil))
  refine IT.enum gg_enumerate (by kernel_rfl) (by kernel_rfl) ?_
  walk_at "ww"
  refine ⟨_, rfl, fun D C hD => ?_⟩
  refine ⟨fun i m' H' => E2 fun (o1 o2 : Option V) => A2 (m' = [((Str.ofString "at"), o1), ((Str.ofString "row"), o2), ((Str.ofString "many"), some (.int ((partsGo M [] (usOf ss)).length : Nat)))]) (H' = H2.set D (.list (((linesGo M (partsGo M [] (usOf ss))).take i).map fun l => lineV l.1 l.2))), ⟨none, none, rfl, rfl⟩, ?_, ?_⟩
  · rintro i W2 _ _ hW2 ⟨q1, q2, rfl, rfl⟩
    rw [List.getElem?_zipWith] at hW2
    split at hW2
    case h_2 => cases hW2
    rename_i i' X e1 e2
    cases hW2
    have hi := (List.getElem?_eq_some_iff.mp e2).1
    rw [List.getElem?_range hi] at e1
    cases e1
    rw [List.length_map] at hi
    obtain ⟨a, ha⟩ : ∃ a, as[i]? = some a := ⟨_, List.getElem?_eq_getElem hi⟩
    rw [List.getElem?_map, ha] at e2
    cases e2
    rw [has] at hi
    obtain ⟨p, hp⟩ : ∃ p, (partsGo M [] (usOf ss))[i]? = some p := ⟨_, List.getElem?_eq_getElem hi⟩
    have hpm := List.mem_of_getElem? hp
    have hcell := hr i a (pad M p) ha (by rw [List.getElem?_map, hp]; rfl)
    have hwh := (parts_whole M (usOf ss) [] (fun u hu => Un.sgn_ok (hU u hu)) Whole.nil p hpm).pad (M := M)
    have hple := parts_le hM (usOf ss) [] (by simp) p hpm
    have naD : a ≠ D := by rintro rfl; rw [hcell] at hD; cases hD
    refine AS.tuple (.inl rfl) rfl ?_
    refine AS.name (by walk_at "upd") ?_ (.inr (by kernel_rfl))
    refine AS.name (by walk_at "upd") ?_ (.inr (by kernel_rfl))
    refine call_line_of ?_
    walk_at "ww"
    refine ((f_line_of (cs := pad M p) (IsL.own (by rw [Hp.set_ne _ _ naD]; exact hcell)) (by rw [pad_len hple]; lia) hwh.1 hwh.2 ?_).le (by decide)).cl
    walk_at "ww"
    have hln : (linesGo M (partsGo M [] (usOf ss))).length ≤ 17 := by rw [linesGo_len]; exact hpz
    refine ⟨_, Hp.set_same .., by simp; lia, _, _, rfl, ?_⟩
    rw [Hp.setSet, List.take_add_one, linesGo_at M _ i p hp]
    simp only [Option.toList_some, List.map_append, List.map_cons, List.map_nil]
    rw [decide_eq_decide.mpr (show ((i : Int) + 1 < ((partsGo M [] (usOf ss)).length : Int)) ↔ i + 1 < (partsGo M [] (usOf ss)).length by lia)]
  · rintro _ _ ⟨q1, q2, rfl, rfl⟩
    rw [List.length_zipWith, List.length_range, List.length_map, Nat.min_self, has, List.take_of_length_le (by rw [linesGo_len]; lia)]
    walk_at "ww"
    refine ⟨_, _, (Gh.lst (Hp.set_same ..)).trans (Gh.drop (H' := H) ?_), h⟩
    rw [Hp.setBack hD]
    exact hl
end PartW15
section PartW16
set_option maxRecDepth 100000
local macro_rules | `(tactic| walk_at "tg") => `(tactic| repeat' first
  | ((with_reducible show AO _ _ _ _ _ [] [] _); refine AO.nil ?_)
  | ((with_reducible show AO _ _ _ _ _ (_ :: _) (_ :: _) _); refine AO.cons ?_)
  | ((with_reducible show AS _ _ _ _ _ (Expr.Name _ _) _ _); refine AS.name (by walk_at "upd") ?_ (.inl (by exact Option.some_ne_none _)))
  | ((with_reducible show AS _ _ _ _ _ (Expr.Tuple _ _ _) (V.tup _) _); refine AS.tuple (.inl rfl) rfl ?_))
noncomputable def DK (g : Nat → V) (kv : List (Int × V)) : Prop := (kv.map (·.1)).Nodup ∧ ∀ p ∈ kv, ∃ x : Nat, p.1 = x ∧ p.2 = g x
theorem DK.nil {g : Nat → V} : DK g [] := ⟨by simp, by simp⟩
theorem DK.store {g : Nat → V} {kv : List (Int × V)} (h : DK g kv) (x : Nat) : DK g (storedV kv x (g x)) ∧ (∀ k ∈ kv.map (·.1), k ∈ (storedV kv x (g x)).map (·.1)) ∧ (x : Int) ∈ (storedV kv x (g x)).map (·.1) ∧ (storedV kv x (g x)).length ≤ kv.length + 1 := by
  unfold storedV
  by_cases e : (kv.any fun p => decide (p.1 = (x : Int))) = true
  · rw [if_pos e]
    have ek : (kv.map fun p => if p.1 = (x : Int) then (p.1, g x) else p).map (·.1) = kv.map (·.1) := by
      rw [List.map_map]
      refine List.map_congr_left fun p _ => ?_
      simp only [Function.comp]
      split <;> rfl
    refine ⟨⟨by rw [ek]; exact h.1, fun p hp => ?_⟩, fun k hk => by rw [ek]; exact hk, ?_, by simp⟩
    · obtain ⟨q, hq, rfl⟩ := List.mem_map.mp hp
      split
      · rename_i e'; exact ⟨x, e', rfl⟩
      · exact h.2 q hq
    · rw [ek]
      obtain ⟨p, hp, e'⟩ := List.any_eq_true.mp e
      exact List.mem_map.mpr ⟨p, hp, of_decide_eq_true e'⟩
  · rw [if_neg e]
    have hn : (x : Int) ∉ kv.map (·.1) := fun hx => by
      obtain ⟨p, hp, e'⟩ := List.mem_map.mp hx
      exact e (List.any_eq_true.mpr ⟨p, hp, decide_eq_true e'⟩)
    refine ⟨⟨?_, fun p hp => ?_⟩, fun k hk => by rw [List.map_append]; exact List.mem_append_left _ hk, by rw [List.map_append]; exact List.mem_append_right _ (by simp), by simp⟩
    · rw [List.map_append, List.nodup_append]
      refine ⟨h.1, by simp, fun a ha b hb => ?_⟩
      simp at hb; subst hb
      rintro rfl; exact hn ha
    · rcases List.mem_append.mp hp with hp | hp
      · exact h.2 p hp
      · simp at hp; subst hp; exact ⟨x, rfl, rfl⟩
theorem DK.merge {g : Nat → V} : ∀ {more kv : List (Int × V)}, DK g kv → (∀ p ∈ more, ∃ x : Nat, p.1 = x ∧ p.2 = g x) → DK g (mergedV kv more) ∧ (∀ k ∈ kv.map (·.1), k ∈ (mergedV kv more).map (·.1)) ∧ (∀ k ∈ more.map (·.1), k ∈ (mergedV kv more).map (·.1)) ∧ (mergedV kv more).length ≤ kv.length + more.length
  | [], kv, h, _ => ⟨h, fun k hk => hk, by simp, by simp [mergedV]⟩
  | (k, W) :: r, kv, h, hm => by
    obtain ⟨x, rfl, rfl⟩ := hm (k, W) (by simp)
    obtain ⟨h1, h2, h3, h4⟩ := h.store x
    obtain ⟨i1, i2, i3, i4⟩ := DK.merge (more := r) h1 fun p hp => hm p (by simp [hp])
    have e : mergedV kv ((((x : Nat) : Int), g x) :: r) = mergedV (storedV kv x (g x)) r := rfl
    rw [e]
    refine ⟨i1, fun k hk => i2 k (h2 k hk), fun k hk => ?_, by simp only [List.length_cons]; lia⟩
    simp only [List.map_cons, List.mem_cons] at hk
    rcases hk with rfl | hk
    · exact i2 _ h3
    · exact i3 k hk
theorem DK.at {g : Nat → V} {kv : List (Int × V)} (h : DK g kv) {x : Nat} (hx : (x : Int) ∈ kv.map (·.1)) : ((x : Int), g x) ∈ kv := by
  obtain ⟨p, hp, e⟩ := List.mem_map.mp hx
  obtain ⟨y, e1, e2⟩ := h.2 p hp
  have : y = x := by lia
  subst this
  have : p = ((y : Int), g y) := by cases p; simp at e1 e2; rw [e1, e2]
  rw [← this]; exact hp
noncomputable def sD (s : Sg) : PyData := .tuple [.int s.1, .int s.2]
theorem sgs_ofDs (ss : List Sg) : ss.map sV = ofDs (ss.map sD) := by
  induction ss with
  | nil => rfl
  | cons a r ih => simp only [List.map_cons, ofDs]; rw [ih]; rfl
theorem sgs_of (ss : List Sg) : V.lst (ss.map sV) = ofD (.list (ss.map sD)) := by rw [sgs_ofDs]; rfl
theorem sgs_lay (ss : List Sg) : PyData.canLayAll0 (ss.map sD) = true := by
  induction ss with
  | nil => rfl
  | cons a r ih =>
    simp only [List.map_cons, PyData.canLayAll0, ih, Bool.and_true]
    rfl
theorem sgs_depth (ss : List Sg) : PyData.depthAll (ss.map sD) ≤ 3 := by
  induction ss with
  | nil => simp [PyData.depthAll]
  | cons a r ih =>
    simp only [List.map_cons, PyData.depthAll]
    have : PyData.depth (sD a) ≤ 3 := by simp [sD, PyData.depth, PyData.depthAll]
    lia
theorem sgs_shaped (ss : List Sg) : SeqAt.shaped (.list (ss.map sD)) = true := by
  unfold SeqAt.shaped
  have h1 := sgs_lay ss
  have h2 := sgs_depth ss
  rw [Bool.and_eq_true]
  refine ⟨by simpa [PyData.canLay0] using h1, decide_eq_true ?_⟩
  simp only [PyData.depth]; lia
theorem sgs_eqv (ss : List Sg) : PyData.eqv (.list (ss.map sD)) (.list []) = ss.isEmpty := by cases ss <;> simp [PyData.eqv, PyData.eqvAll]
theorem CMP.pt {i j i' j' : Int} {Q : Bool → Prop} (e1 : i = i') (e2 : j = j') (h : Q true) : CMP c (n + 1) .Eq (.tup [.int i, .int j]) (.tup [.int i', .int j']) H Q := by
  subst e1 e2
  refine CMP.eqd (da := .tuple [.int i, .int j]) (db := .tuple [.int i, .int j]) rfl rfl rfl rfl ?_
  rw [show PyData.eqv (.tuple [.int i, .int j]) (.tuple [.int i, .int j]) = true by simp [PyData.eqv, PyData.eqvAll]]
  exact h
theorem size_room {q : List (List Cl)} {o t b k : Nat} {p : List Cl} (hb : (begN o q)[t]? = some b) (hp : q[t]? = some p) (hk : k < p.length) : sizeV (zs (begN o q)) t = .none ∨ ∃ z : Int, sizeV (zs (begN o q)) t = .int z ∧ (k : Int) < z := by
  unfold sizeV
  cases e : (begN o q)[t + 1]? with
  | none => left; rw [show (zs (begN o q))[t + 1]? = none by unfold zs; rw [List.getElem?_map, e]; rfl]
  | some b' =>
    right
    have := begN_succ q o t b b' p hb e hp
    rw [zs_at e, zs_at hb]
    exact ⟨_, rfl, by lia⟩
theorem plA_nil {N : Nat} (hN : 1 ≤ N) (hc : Bool) : plA N (us2 hc []) 0 = (0, 0) := by
  cases hc with
  | false => rfl
  | true =>
    have e : nxt N 0 0 1 = (0, 0) := by unfold nxt; rw [if_neg (by lia)]
    show ((pl N (nxt N 0 0 1) (.one .blank) ++ [])[0]?).getD (0, 0) = (0, 0)
    rw [e]; rfl
noncomputable abbrev ledM (mv : V) (ss : List Sg) (bg M gl N : Nat) (A : Addr) (ir : Option V) (a1 a2 a3 a4 a5 a6 a7 : Option V) : Vm :=
  [((Str.ofString "made"), some mv), ((Str.ofString "signs"), some (.lst (ss.map sV))), ((Str.ofString "begun"), some (.int bg)), ((Str.ofString "old_wide"), some (.int M)), ((Str.ofString "goal"), some (.int gl)), ((Str.ofString "new_wide"), some (.int N)), ((Str.ofString "starts"), some (.ref A)),
   ((Str.ofString "old"), some (.tup [.lst ((shGo M 0 0 (usOf ss)).map placeV), .int ((cutEnd M 0 0 (usOf ss) + 1 : Nat) : Int)])), ((Str.ofString "new"), some (.tup [.lst ((shGo N 0 0 (usOf ss)).map placeV), .int ((cutEnd N 0 0 (usOf ss) + 1 : Nat) : Int)])),
   ((Str.ofString "is_right"), ir), ((Str.ofString "code"), a1), ((Str.ofString "width"), a2), ((Str.ofString "line"), a3), ((Str.ofString "column"), a4), ((Str.ofString "there"), a5), ((Str.ofString "where"), a6), ((Str.ofString "beside"), a7)]
theorem f_led {ss : List Sg} {M N bg gl : Nat} {hc : Bool} {Lv : V} {f r kk : Int} {sp : List Sp} {g : Nat → V} {Q : V → Hp → Prop} (hs : ∀ s ∈ ss, s ∈ table) (hz : ss.length ≤ 8) (hM : 2 ≤ M) (hM' : M ≤ 100) (hN : 1 ≤ N) (hN' : N ≤ 100)
    (hsp : sp.length ≤ 1000) (hgl : gl ≤ 10000)
    (hspot : ∀ t b, (begN 0 (partsGo M [] (usOf ss)))[t]? = some b → ∃ pcs, sp[bg + t]? = some ⟨gl, b, sizeV (zs (begN 0 (partsGo M [] (usOf ss)))) t, pcs, us2 hc (usOf ss)⟩ ∧ (us2 hc (usOf ss) = [] → pcs = [[]]))
    (hg : ∀ t b, (begN 0 (partsGo M [] (usOf ss)))[t]? = some b → g (bg + t) = .tup [.int ((gl + (plA N (us2 hc (usOf ss)) b).1 : Nat) : Int), .int ((plA N (us2 hc (usOf ss)) b).2 : Nat)])
    (h : ∀ a kv, H a = none → DK g kv → kv.length ≤ 10 → (∀ t, t < (partsGo M [] (usOf ss)).length → ((bg + t : Nat) : Int) ∈ kv.map (·.1)) →
      Q (.tup [.bool true, .ref a, .int ((cutEnd M 0 0 (usOf ss) + 1 : Nat) : Int), .int ((cutEnd N 0 0 (usOf ss) + 1 : Nat) : Int)]) (H.set a (.dict kv))) :
    FN c 4 (.ref 414) [.obj 373 (cutNs N Lv f r kk false (.lst (sp.map (Sp.v N)))), .lst (ss.map sV), .int bg, .int M, .int gl, .int N] H Q := by
  have hzu : (usOf ss).length ≤ 8 := by rw [List.length_map]; exact hz
  have hzc := cells_le (usOf ss)
  have hps := parts_pos M (usOf ss)
  generalize hmv : V.obj 373 (cutNs N Lv f r kk false (.lst (sp.map (Sp.v N)))) = mv
  refine FN.defm (by rw [c.hK]; exact rfl) [Str.ofString "made", Str.ofString "signs", Str.ofString "begun", Str.ofString "old_wide", Str.ofString "goal", Str.ofString "new_wide"] [Str.ofString "starts", Str.ofString "old", Str.ofString "new", Str.ofString "is_right", Str.ofString "code", Str.ofString "width", Str.ofString "line", Str.ofString "column", Str.ofString "there", Str.ofString "where", Str.ofString "beside"] [(Str.ofString "made", some (mv)), (Str.ofString "signs", some (.lst (ss.map sV))), (Str.ofString "begun", some (.int bg)), (Str.ofString "old_wide", some (.int M)), (Str.ofString "goal", some (.int gl)), (Str.ofString "new_wide", some (.int N)), (Str.ofString "starts", none), (Str.ofString "old", none), (Str.ofString "new", none), (Str.ofString "is_right", none), (Str.ofString "code", none), (Str.ofString "width", none), (Str.ofString "line", none), (Str.ofString "column", none), (Str.ofString "there", none), (Str.ofString "where", none), (Str.ofString "beside", none)] (by rw [c.hK]; kernel_rfl) rfl rfl (fun vs hv => by rcases vs with _ | ⟨a0, _ | ⟨a1, _ | ⟨a2, _ | ⟨a3, _ | ⟨a4, _ | ⟨a5, _ | ⟨q, r⟩⟩⟩⟩⟩⟩⟩ <;> first | rfl | (simp at hv; done)) (by kernel_rfl) (by kernel_rfl) rfl rfl rfl fun L => ?_
  refine SX.swap3 ?_
  walk_at "ww"
  refine EV.dict0 ?_
  intro A hA
  walk_at "ww"
  refine call_law_shown ?_
  walk_at "ww"
  refine ((f_shown hs (by lia) ?_).le (by decide)).cl
  walk_at "ww"
  refine call_law_shown ?_
  walk_at "ww"
  refine ((f_shown hs (by lia) ?_).le (by decide)).cl
  walk_at "ww"
  refine ⟨_, _, _, rfl, ?_⟩
  iterate 3 walk_at "w"
  have em : (usOf ss = []) ↔ ss = [] := by simp [usOf]
  -- the first test
  walk_at "w"
  refine EV.is (.bool true) ?_ ?_
  · refine EV.boolop (EB.or ?_)
    walk_at "ww"
    refine EV.nilL ?_
    rw [sgs_of]
    refine CMP.ned (db := .list []) rfl rfl (sgs_shaped ss) rfl ?_
    rw [sgs_eqv, ← sgs_of]
    refine ⟨_, rfl, ?_⟩
    refine ifb (fun e => ⟨rfl, rfl⟩) fun e => ?_
    have e' : ss = [] := by cases ss with
      | nil => rfl
      | cons a r => cases e
    subst e'
    refine EB.one ?_
    walk_at "w"
    refine meth_373_place_of ?_
    refine EV.loc (by walk_at "mem") ?_
    subst hmv
    walk_at "ww"
    obtain ⟨pcs, q1, q2⟩ := hspot 0 0 rfl
    refine ((f_place_of (i := bg) (k := 0) hsp hN' q1 (.inl rfl) ⟨?_, ?_, by simp, by simp only; lia⟩ ?_).le (by decide)).cl
    · simp only; cases hc <;> simp [us2, cutGo, usOf, pl]
    · simp only
      cases hc with
      | false => exact .inr ⟨rfl, q2 rfl⟩
      | true => left; simp [us2, cutGo, usOf, pl]
    · simp only [Nat.add_zero, usOf, List.map_nil]
      rw [plA_nil hN]
      walk_at "ww"
      refine CMP.pt (by simp) (by simp; lia) ⟨rfl, rfl⟩
  refine ⟨_, by walk_at "upd", ?_⟩
  show SX _ _ _ (ledM mv ss bg M gl N A (some (.bool true)) none none none none none none none) _ _ _
  refine SX.ifP (fun m' H' => m' = ledM mv ss bg M gl N A (some (.bool true)) none none none none none none none ∧ ∃ kv, H' = H.set A (.dict kv) ∧ DK g kv ∧ kv.length ≤ 1 ∧ (ss = [] → (bg : Int) ∈ kv.map (·.1))) ?_ ?_
  · walk_at "ww"
    refine EV.nilL ?_
    rw [sgs_of]
    refine CMP.eqd (db := .list []) rfl rfl (sgs_shaped ss) rfl ?_
    rw [sgs_eqv]
    refine ifb (fun e => ?_) fun e => ?_
    · have e' : ss = [] := by cases ss with
        | nil => rfl
        | cons a r => cases e
      subst e'
      refine SX.setkey ?_
      walk_at "ww"
      refine ⟨_, _, _, rfl, Hp.set_same .., rfl, by simp, ?_⟩
      walk_at "ww"
      have hg0 := hg 0 0 rfl
      simp only [Nat.add_zero, usOf, List.map_nil] at hg0
      rw [plA_nil hN] at hg0
      have hg1 : g bg = .tup [.int gl, .int 0] := hg0
      refine ⟨rfl, [((bg : Int), g bg)], ?_, ⟨by simp, fun p hp => ⟨bg, by simp at hp; rw [hp], by simp at hp; rw [hp]⟩⟩, by simp, by simp⟩
      rw [Hp.setSet, hg1]; rfl
    · exact ⟨rfl, [], rfl, DK.nil, by simp, fun e' => by subst e'; cases e⟩
  rintro _ _ ⟨rfl, kv0, rfl, dk0, kz0, kn0⟩
  have sgl : ∀ i s, ss[i]? = some s → (usOf ss)[i]? = some (toU s) := fun i s hi => by rw [List.getElem?_map, hi]; rfl
  refine SX.for2 (fun i m' H' => E8 fun (kv : List (Int × V)) (a1 a2 a3 a4 a5 a6 a7 : Option V) => A6 (m' = ledM mv ss bg M gl N A (some (.bool true)) a1 a2 a3 a4 a5 a6 a7) (H' = H.set A (.dict kv)) (DK g kv) (kv.length ≤ i + 1) ((ss = [] → (bg : Int) ∈ kv.map (·.1))) ((∀ (i' l : Nat), i' < i → (shGo M 0 0 (usOf ss))[i']? = some (l, 0) → ((bg + l : Nat) : Int) ∈ kv.map (·.1))))
    (fun m' H' => E8 fun (kv : List (Int × V)) (a1 a2 a3 a4 a5 a6 a7 : Option V) => A6 (m' = ledM mv ss bg M gl N A (some (.bool true)) a1 a2 a3 a4 a5 a6 a7) (H' = H.set A (.dict kv)) (DK g kv) (kv.length ≤ 9) ((ss = [] → (bg : Int) ∈ kv.map (·.1))) ((∀ (i' l : Nat), (shGo M 0 0 (usOf ss))[i']? = some (l, 0) → ((bg + l : Nat) : Int) ∈ kv.map (·.1)))) ?_ ?_
  · refine IT.zip3 gg_zip (by kernel_rfl) (by kernel_rfl) ?_
    walk_at "ww"
    refine ⟨_, _, _, rfl, by rw [List.length_map, List.length_map, shGo_len, List.length_map], by rw [List.length_map, List.length_map, shGo_len, List.length_map], ⟨kv0, none, none, none, none, none, none, none, rfl, rfl, dk0, by lia, kn0, fun i' l hi' => by lia⟩, ?_, ?_⟩
    · rintro i W2 _ _ hW2 ⟨kv, a1, a2, a3, a4, a5, a6, a7, rfl, rfl, dk, kz, kn, kd⟩
      rw [List.getElem?_map] at hW2
      obtain ⟨x, hx, rfl⟩ := Option.map_eq_some_iff.mp hW2
      obtain ⟨hx1, hx2⟩ := List.getElem?_zip_eq_some.mp hx
      obtain ⟨hx2, hx3⟩ := List.getElem?_zip_eq_some.mp hx2
      rw [List.getElem?_map] at hx1 hx2 hx3
      obtain ⟨s, hsi, hsx⟩ := Option.map_eq_some_iff.mp hx1
      obtain ⟨p, hpi, hpx⟩ := Option.map_eq_some_iff.mp hx2
      obtain ⟨p', hpi', hpx'⟩ := Option.map_eq_some_iff.mp hx3
      rw [← hsx, ← hpx, ← hpx']
      clear hsx hpx hpx' hx hx1 hx2 hx3 hW2
      have hil := (List.getElem?_eq_some_iff.mp hsi).1
      have hst := hs s (List.mem_of_getElem? hsi)
      have hw := toU_w hst
      have hw2 := (toU s).w12
      have hne : usOf ss ≠ [] := by rw [Ne, em]; rintro rfl; simp at hsi
      have hu2 : us2 hc (usOf ss) = usOf ss := us2_ne hne
      rw [hu2] at hspot hg
      obtain ⟨t, b, part, e1, e2, e3, e4, e5⟩ := parts_at hM (usOf ss) [] 0 0 i (toU s) p (sgl i s hsi) (by simpa using hpi)
      simp only [List.length_nil, Nat.zero_add] at e1 e4
      subst e1
      obtain ⟨pcs, q1, q2⟩ := hspot _ _ e2
      have hroom := shGo_room N _ _ _ _ _ _ (sgl i s hsi) hpi'
      have place : ∀ (j : Nat) {Q' : V → Hp → Prop}, j < (toU s).w → Q' (.tup [.int ((gl + p'.1 : Nat) : Int), .int (min ((p'.2 + min j (min (toU s).w N - 1) : Nat) : Int) ((N : Int) - 1))]) (H.set A (.dict kv)) → CL c 3 (.ref 356) [mv, .int ((bg + p.1 : Nat) : Int), .int ((p.2 + j : Nat) : Int)] (H.set A (.dict kv)) Q' := by
        intro j Q' hj hQ
        have hat := cutGo_at N (usOf ss) 0 0 i (toU s) p' j (sgl i s hsi) hpi' hj
        have hlt := (List.getElem?_eq_some_iff.mp hat).1
        have hcl := cutGo_len N (usOf ss) 0 0
        have ho : b + (p.2 + j) = (cells ((usOf ss).take i)).length + j := by lia
        subst hmv
        refine ((f_place_of (i := bg + p.1) (k := p.2 + j) hsp hN' q1 (size_room e2 e3 (by lia)) ⟨?_, ?_, ?_, ?_⟩ ?_).le (by decide)).cl
        · simp only; lia
        · simp only; left; lia
        · simp only; lia
        · simp only; lia
        · have : plA N (usOf ss) (b + (p.2 + j)) = (p'.1, p'.2 + min j (min (toU s).w N - 1)) := by unfold plA; rw [ho, hat]; rfl
          simp only [this]
          exact hQ
      walk_at "tg"
      walk_at "w"
      -- the sign itself
      refine EV.is (.bool true) ?_ ?_
      · refine EV.boolop (EB.and ?_)
        walk_at "ww"
        refine ifT (EB.one ?_)
        walk_at "w"
        refine meth_373_place_of ?_
        refine EV.loc (by walk_at "mem") ?_
        subst hmv
        walk_at "ww"
        rw [show (bg : Int) + (p.1 : Int) = ((bg + p.1 : Nat) : Int) by lia]
        refine place 0 (by lia) ?_
        walk_at "ww"
        exact CMP.pt (by lia) (by lia) ⟨rfl, rfl⟩
      refine ⟨_, by walk_at "upd", ?_⟩
      refine SX.ifP (fun m' H' => (∃ a7, m' = ledM mv ss bg M gl N A (some (.bool true)) (some (.int s.1)) (some (.int s.2)) (some (.int p.1)) (some (.int p.2)) (some (.int p'.1)) (some (.int p'.2)) a7) ∧ H' = H.set A (.dict kv)) ?_ ?_
      · walk_at "ww"
        refine ifd (fun e => ?_) fun e => ⟨⟨_, rfl⟩, rfl⟩
        walk_at "ww"
        refine call_min ?_
        walk_at "ww"
        refine CL.min ?_
        iterate 3 walk_at "w"
        refine EV.is (.bool true) ?_ ?_
        · refine EV.boolop (EB.and ?_)
          walk_at "ww"
          refine ifT (EB.one ?_)
          walk_at "w"
          refine meth_373_place_of ?_
          refine EV.loc (by walk_at "mem") ?_
          subst hmv
          walk_at "ww"
          rw [show (bg : Int) + (p.1 : Int) = ((bg + p.1 : Nat) : Int) by lia, show (p.2 : Int) + 1 = ((p.2 + 1 : Nat) : Int) by lia]
          refine place 1 (by lia) ?_
          walk_at "ww"
          exact CMP.pt (by lia) (by lia) ⟨rfl, rfl⟩
        refine ⟨_, by walk_at "upd", ?_⟩
        walk_at "ww"
        exact ⟨⟨_, rfl⟩, rfl⟩
      · rintro _ _ ⟨⟨a7, rfl⟩, rfl⟩
        walk_at "ww"
        refine ifd (fun e => ?_) fun e => ?_
        · refine SX.setkey ?_
          walk_at "ww"
          refine ⟨_, _, _, rfl, Hp.set_same .., rfl, by lia, ?_⟩
          walk_at "ww"
          have hp2 : p.2 = 0 := by lia
          have hat := cutGo_at N (usOf ss) 0 0 i (toU s) p' 0 (sgl i s hsi) hpi' (by lia)
          have hgp : g (bg + p.1) = .tup [.int ((gl : Int) + p'.1), .int p'.2] := by
            rw [hg _ _ e2]
            have : plA N (usOf ss) b = (p'.1, p'.2 + min 0 (min (toU s).w N - 1)) := by unfold plA; rw [show b = (cells ((usOf ss).take i)).length + 0 by lia, hat]; rfl
            rw [this]; simp
          obtain ⟨d1, d2, d3, d4⟩ := dk.store (bg + p.1)
          refine ⟨storedV kv ((bg + p.1 : Nat) : Int) (g (bg + p.1)), _, _, _, _, _, _, _, rfl, ?_, d1, by lia, fun e => d2 _ (kn e), fun i' l hi' hl => ?_⟩
          · rw [Hp.setSet, hgp, show (bg : Int) + (p.1 : Int) = ((bg + p.1 : Nat) : Int) by lia]
          · by_cases hii : i' = i
            · subst hii
              rw [hpi] at hl
              cases hl
              exact d3
            · exact d2 _ (kd i' l (by lia) hl)
        · walk_at "ww"
          refine ⟨kv, _, _, _, _, _, _, _, rfl, rfl, dk, by lia, kn, fun i' l hi' hl => ?_⟩
          by_cases hii : i' = i
          · subst hii
            rw [hpi] at hl
            cases hl
            exact absurd rfl e
          · exact kd i' l (by lia) hl
    · rintro _ _ ⟨kv, a1, a2, a3, a4, a5, a6, a7, rfl, rfl, dk, kz, kn, kd⟩
      simp only [List.length_map, List.length_zip, shGo_len, Nat.min_self] at kz kd
      refine ⟨kv, _, _, _, _, _, _, _, rfl, rfl, dk, by lia, kn, fun i' l hl => kd i' l ?_ hl⟩
      have := (List.getElem?_eq_some_iff.mp hl).1
      rw [shGo_len, List.length_map] at this; exact this
  rintro _ _ ⟨kv, a1, a2, a3, a4, a5, a6, a7, rfl, rfl, dk, kz, kn, kd⟩
  walk_at "ww"
  refine h A kv hA dk (by lia) fun t ht => ?_
  by_cases e : ss = []
  · have := kn e
    subst e
    have ht0 : t = 0 := by simp [partsGo] at ht; lia
    subst ht0
    exact this
  · obtain ⟨i, hi⟩ := parts_head hM (usOf ss) [] 0 t ht fun _ => ⟨rfl, fun q => e (em.mp q)⟩
    simp only [List.length_nil, Nat.zero_add] at hi
    exact kd i t hi
end PartW16
section PartP3
theorem cutGo_room {N : Nat} (hN : 1 ≤ N) : ∀ (us : List Un) (l k : Nat), ∀ p ∈ cutGo N l k us, p.2 < N
  | [], _, _, p, h => by simp [cutGo] at h
  | u :: r, l, k, p, h => by
    have hw := u.w12
    have hn := nxt_room N l k u.w
    simp only [cutGo] at h
    rcases List.mem_append.mp h with h | h
    · obtain ⟨i, hi⟩ := List.getElem?_of_mem h
      have hil := (List.getElem?_eq_some_iff.mp hi).1
      rw [pl_len] at hil
      rw [pl_at N _ u hil] at hi
      cases hi
      simp only; lia
    · exact cutGo_room hN r _ _ p h
theorem plA_lt {N : Nat} (hN : 1 ≤ N) (us : List Un) (o : Nat) : (plA N us o).2 < N := by
  unfold plA
  cases h : (cutGo N 0 0 us)[o]? with
  | none => exact hN
  | some p => exact cutGo_room hN us 0 0 p (List.mem_of_getElem? h)
theorem allLines_snoc (M : Nat) (ts : List (List Un)) (us : List Un) : allLines M (ts ++ [us]) = allLines M ts ++ linesGo M (partsGo M [] us) := by simp [allLines, qs]
theorem allLines_pos {M : Nat} : ∀ {ts : List (List Un)}, ts ≠ [] → 0 < (allLines M ts).length
  | [], h => absurd rfl h
  | us :: r, _ => by
    have := parts_pos M us
    simp only [allLines, qs, List.map_cons, List.flatMap_cons, List.length_append, linesGo_len]
    lia
theorem allLines_le {M : Nat} (hM : 2 ≤ M) : ∀ {ts : List (List Un)}, (∀ us ∈ ts, us.length ≤ 8) → (allLines M ts).length ≤ 17 * ts.length
  | [], _ => by simp [allLines, qs]
  | us :: r, h => by
    have h1 := parts_sz hM (h us (by simp))
    have h2 := allLines_le hM (ts := r) fun u hu => h u (by simp [hu])
    simp only [allLines, qs, List.map_cons, List.flatMap_cons, List.length_append, linesGo_len, List.length_cons] at h2 ⊢
    lia
end PartP3
section PartTop1
set_option maxRecDepth 100000
open PySem.Calls in
theorem args_of {w : World} {s₀ s₁ : Shared} {args : List WData} {vals : List Value} {as : List Addr} (hpre : Challenge.rw_pq1187_01.row.toRowW.claim.pre args = true) (hlay : WData.layableAll args = true) (hrd : ReadsAllW Challenge.rw_pq1187_01.row.toRowW.records (classAt s₀.heap) s₁.heap vals args as) (hwl : WellAll w.params s₁.heap vals args) (hlo : ∀ a ∈ as, (a == sysModules) = false) :
    ∃ (xs : List Int) (b : Addr) (vs : List Value), vals = [.ref b] ∧ s₁.heap.PlainList b vs.toArray ∧ IntsAre vs xs ∧ xs.length ≤ 63 := by
  wrow_args hpre hlay hrd hwl hlo
  rename_i xs _ _ _ _ _ _ _ b vs _ hl _ hw _ hi _ h63 _
  refine ⟨xs, b, vs, rfl, ?_, hi, by lia⟩
  cases hw with
  | list h _ =>
    obtain ⟨o, ho, hc, n, hd⟩ := hl
    rw [h] at ho; cases ho
    obtain ⟨e, _⟩ := Data.seq.inj hd
    rw [← e]
    exact ⟨_, h⟩
theorem post_of {s₀ s₁ s' : Shared} {args : List WData} (h1 : OldK s₁.heap s'.heap) (h2 : s'.os = s₁.os) (h3 : AllBare s'.gens) : GoodWG Challenge.rw_pq1187_01.row.toRowW.claim (classAt s₀.heap) (ExcName.means s₀.heap) args s₁ (.ok (.ret (.bool true))) s' := by
  refine ⟨.inl ⟨.bool true, .bool true, [], rfl, fun _ => rfl, .bool true, ?_, fun _ => ⟨by simp, by simp⟩⟩, h1, h2, h3⟩
  wrow_post
theorem ints_rep {h : Heap} {M : Addr → Prop} {vs : List Value} {xs : List Int} (x : IntsAre vs xs) : Reps h M vs (xs.map V.int) := by
  induction x with
  | nil => exact Reps.nil
  | cons n t _ ih => exact Reps.cons (.int _ _) ih
noncomputable def H0 : Hp := fun _ => none
theorem HA0 {base : Heap} : HA base (fun _ => False) H0 base := ⟨fun _ _ e => e, fun _ _ e => (by cases e), fun _ e => absurd rfl e, fun _ e => absurd rfl e, fun _ z => z.elim, fun _ _ z => z.elim⟩
theorem top_of {p : Program} {loose : List Str} {XP : (Str → Option Value) → Heap → Prop} {as : List Addr} {e : ∀ P, as = (heapK P).map (·.1)} {d : DefRec}
    (hco : d.scope.isCoroutine = false) (hgen : d.scope.isGenerator = false) (hk : d.scope.kind = .function) (rest : List Str) (m : List Int → Vm) (hm : ∀ xs, frame [(Str.ofString "script")] [.lst (xs.map V.int)] rest = m xs) (hok : okNamesC d.scope [(Str.ofString "script")] rest = true) (hdf : d.params.defaults = [])
    (hbind : ∀ (v pm doc cd : Value), bindArgs (fnOf d.name d.name d.params d.body d.scope .none .none doc pm none cd .none) ⟨[v], []⟩ = pure ([(Str.ofString "script")].zip [v]))
    (walk : ∀ (c : Cx) (fa L : Addr) (cd : Value) (xs : List Int), xs.length ≤ 63 → SX c 12 (envX d.name d.scope L fa cd (cellsFrom (L + 1) d.scope.names [])) (m xs) H0 d.body (Rt fun W _ => W = .bool true)) :
    WalkO p loose XP (kHook heapK as e).says Challenge.rw_pq1187_01.row.toRowW d [] fun f vs => PySem.call f vs := by
  intro w s₀ s₁ mg mb G Y fa o pm cd doc dV kV ho hod hcd hD hmg hg args vals as hpre hlay hrd hwl hlo
  obtain ⟨xs, b, vs, rfl, hb, hi, h63⟩ := args_of hpre hlay hrd hwl hlo
  have T := topRead_of G.T
  let c : Cx := ⟨Challenge.rw_pq1187_01.row.toRowW.prog, w, s₁.heap, heapK w.params, rfl, kIn_of Y, T.nolimit, _, _, mg, mb, T⟩
  obtain rfl : dV = .none := hD.pos.elim (·.2) fun q => absurd hdf q.1
  obtain rfl : kV = .none := hD.kw.elim (·.2) fun q => absurd rfl q.1
  have main : FN c 13 (.ref fa) [.lst (xs.map V.int)] H0 fun W _ => W = .bool true :=
    FN.defBm (c := c) ho hod [(Str.ofString "script")] rest (m xs) hcd rfl (hm xs) (fun vs' hv => by
      rcases vs' with _ | ⟨v, _ | ⟨q, r⟩⟩ <;> first | exact hbind v _ _ _ | (simp at hv; done)) hok hco hgen hk fun L => walk c fa L cd xs h63
  have rep : Reps s₁.heap (Mut (fun _ => False) H0) [.ref b] [.lst (xs.map V.int)] := by
    refine Reps.cons (Rep.lst_iff.mpr ⟨b, vs.toArray, rfl, hb, fun z => z.elim id fun z => z rfl, ?_⟩) Reps.nil
    simpa using ints_rep hi
  refine enter_call (codeAny_mono (main callerA s₁ (fun _ => False) [.ref b] ⟨rfl, by decide, by decide⟩ HA0 rep) fun r s' ⟨v, e', W, H', rv, a', k', q⟩ => ?_)
  subst e' q
  cases rv
  exact post_of (.of_keep fun b o e => k'.same b o e rfl id) k'.os (.of_eq (k'.gens.trans hg))
end PartTop1
section PartW17
set_option maxRecDepth 100000
noncomputable def gOf (N : Nat) (sp : List Sp) (x : Nat) : V := match sp[x]? with
  | some s => .tup [.int ((s.g + (plA N s.us s.b).1 : Nat) : Int), .int ((plA N s.us s.b).2 : Nat)]
  | none => .none
theorem gOf_at {N : Nat} {sp : List Sp} {x : Nat} {s : Sp} (h : sp[x]? = some s) : gOf N sp x = .tup [.int ((s.g + (plA N s.us s.b).1 : Nat) : Int), .int ((plA N s.us s.b).2 : Nat)] := by unfold gOf; rw [h]
noncomputable abbrev lawM (sc : V) (pn ow nw tx sg ln hr fs md st bg gl ir ld mn mr : Option V) : Vm :=
  [((Str.ofString "script"), some sc), ((Str.ofString "pen"), pn), ((Str.ofString "old_wide"), ow), ((Str.ofString "new_wide"), nw), ((Str.ofString "texts"), tx), ((Str.ofString "signs"), sg), ((Str.ofString "lines"), ln), ((Str.ofString "here"), hr), ((Str.ofString "first"), fs), ((Str.ofString "made"), md), ((Str.ofString "starts"), st), ((Str.ofString "begun"), bg), ((Str.ofString "goal"), gl), ((Str.ofString "is_right"), ir), ((Str.ofString "led"), ld), ((Str.ofString "many"), mn), ((Str.ofString "more"), mr)]
noncomputable abbrev thePg : Program := Challenge.rw_pq1187_01.row.prog
theorem said_names : namesResolve thePg = true := by rw [PySem.W.Fast.te8377067652309620493]; kernel_rfl
theorem said_roads : noRoadLSs { strict := !(importedModules thePg.main.body).all cThrough.contains, foot := none, bare := (["vars", "dir", "locals"] : List Str).filter (readsOut thePg thePg.main.body) } thePg.main.body = true := by
  rw [PySem.W.Fast.te8326940854005059898, PySem.W.Fast.te13343964577679436407]; kernel_rfl
theorem said_attrs : namesMeet thePg thePg.main.body (fun x n => attrL n) = true := by rw [PySem.W.Fast.te17119622794617984870, PySem.W.Fast.te17868728402115742887]; kernel_rfl
theorem said_own : namesMeet Challenge.rw_pq1187_01.prog Challenge.rw_pq1187_01.above (fun x n => !Challenge.rw_pq1187_01.own.contains n) = true := by
  rw [PySem.W.Fast.te17119622794617984870, PySem.W.Fast.te10792542408131684335]; kernel_rfl
theorem said_law : Challenge.rw_pq1187_01.wellSaid = true := by
  unfold OpenLaw.wellSaid OpenRow.wellSaid OpenRow.partSaid looksOpen
  repeat' with_reducible refine look_both ?_ ?_
  all_goals first | with_reducible exact said_names | with_reducible exact said_roads | with_reducible exact said_attrs | with_reducible exact said_own | kernel_rfl
set_option maxHeartbeats 8000000 in
theorem promised_law : Challenge.rw_pq1187_01.row.toRowW.promised := by w_witness2
set_option maxHeartbeats 8000000 in
theorem law_holds : PySem.Challenge.rw_pq1187_01.Holds := by
  refine holds_law said_law fun said => ?_
  refine holds_open (q := lawView) (loose := looseN) (Xt := fun s => xlAt lawView [] s && recOk [] s) (XP := XL lawView []) (Yf := hookK.obs) (Ya := hookK.val) (YP := hookK.says) (N := 5012) leftK (Hook.of hookK) (Hook.keeps hookK) (fun s e => xl_of s (Bool.and_eq_true_iff.mp e).1) XL.keeps (by rfl) (by rfl) (by rfl) (fun s e => recFacts_of (Bool.and_eq_true_iff.mp e).2) (by rfl) said (by decide +kernel) ⟨rfl, rfl, rfl, rfl, rfl, by decide +kernel⟩ promised_law ?_
  refine top_of rfl rfl rfl [(Str.ofString "pen"), (Str.ofString "old_wide"), (Str.ofString "new_wide"), (Str.ofString "texts"), (Str.ofString "signs"), (Str.ofString "lines"), (Str.ofString "here"), (Str.ofString "first"), (Str.ofString "made"), (Str.ofString "starts"), (Str.ofString "begun"), (Str.ofString "goal"), (Str.ofString "is_right"), (Str.ofString "led"), (Str.ofString "many"), (Str.ofString "more")]
    (fun xs => lawM (.lst (xs.map V.int)) none none none none none none none none none none none none none none none none) (fun xs => rfl) (by kernel_rfl) rfl (fun _ _ _ _ => rfl) ?_
  intro c fa L cd xs h63
  dsimp only
  generalize hscr : V.lst (xs.map V.int) = scr
  -- the pen
  walk_at "w"
  refine EV.list ?_
  walk_at "ww"
  refine EV.freeze ?_
  refine EV.comp (mc := [((Str.ofString "cell"), none)]) (cl := []) ?_ ?_
  · refine CompOK.of rfl (by kernel_rfl) rfl (by kernel_rfl) (by intro q hq; cases hq) (by simp only [List.map_cons, List.map_nil]; decide) ?_
    exact Caps.loc (by kernel_rfl) Caps.nil
  refine IT.lst ?_
  refine EV.freeze ?_
  refine EV.slice ?_
  refine EV.loc (by walk_at "mem") ?_
  subst hscr
  walk_at "ww"
  show EV _ _ _ _ _ _ _
  walk_at "ww"
  refine ⟨_, IsL.fr, by simp; lia, fun a ha => ?_⟩
  have e60 : pick (xs.map V.int) none (some 60) = (xs.take 60).map V.int := (pick_to _ 60).trans (List.map_take ..).symm
  rw [e60]
  have hy : (xs.take 60).length ≤ 60 := by simp; lia
  generalize xs.take 60 = ys at hy
  refine ⟨_, _, rfl, Hp.set_same .., ?_⟩
  rw [Hp.setBack ha]
  refine ⟨_, rfl, fun D C hD => ?_⟩
  refine ⟨fun i m' H' => E2 fun (o : Option V) (cs : List Int) => A4 (m' = [((Str.ofString "cell"), o)]) (cs.length = i) (i ≤ ys.length) (H' = H0.set D (.list (cs.map V.int))), ⟨none, [], rfl, rfl, Nat.zero_le _, rfl⟩, ?_, ?_⟩
  · rintro i W2 _ _ hW2 ⟨o, cs, rfl, hcs, hi, rfl⟩
    rw [List.getElem?_map] at hW2
    obtain ⟨x, hx, rfl⟩ := Option.map_eq_some_iff.mp hW2
    have hil := (List.getElem?_eq_some_iff.mp hx).1
    refine AS.name (by walk_at "upd") ?_ (.inr (by kernel_rfl))
    walk_at "ww"
    refine call_abs ?_
    walk_at "ww"
    refine call_int ?_
    walk_at "ww"
    refine CL.int ?_
    walk_at "ww"
    refine CL.abs ?_
    walk_at "ww"
    refine BOP.mod (by decide) ?_
    exact ⟨_, Hp.set_same .., by simp; lia, _, cs ++ [_], rfl, by simp [hcs], hil, by rw [Hp.setSet, List.map_append]; rfl⟩
  rintro _ _ ⟨o, cs, rfl, hcs, hi, rfl⟩
  refine ⟨_, _, rfl, Hp.set_same .., ?_⟩
  rw [Hp.setBack hD]
  have hcz : cs.length ≤ 1000 := by simp at hcs; lia
  clear hcs hi e60 hD ha
  generalize V.lst (xs.map V.int) = scr
  walk_at "ww"
  intro p hp
  walk_at "w"
  have hp1 : PenAt (H0.set p (.list [.int 0, .lst (cs.map V.int)])) p 0 cs := Hp.set_same ..
  -- the widths
  refine SX.unpack ?_
  walk_at "ww"
  refine call_law_take ?_
  walk_at "ww"
  refine ((f_take (many := 6) hp1 hcz (by decide) (by decide) (by decide) fun r1 hr1 => ?_).le (by decide)).cl
  rw [Hp.setSet]
  have hp2 : PenAt (H0.set p (.list [.int ((0 + 1 : Nat) : Int), .lst (cs.map V.int)])) p (0 + 1) cs := Hp.set_same ..
  walk_at "ww"
  refine call_law_take ?_
  walk_at "ww"
  refine ((f_take (many := 9) hp2 hcz (by decide) (by decide) (by decide) fun r2 hr2 => ?_).le (by decide)).cl
  rw [Hp.setSet]
  obtain ⟨M, hM⟩ : ∃ M : Nat, M = 2 + r1 := ⟨_, rfl⟩
  obtain ⟨N, hN⟩ : ∃ N : Nat, N = 1 + r2 := ⟨_, rfl⟩
  iterate 3 walk_at "w"
  rw [show (2 : Int) + (r1 : Int) = (M : Int) by lia, show (1 : Int) + (r2 : Int) = (N : Int) by lia]
  walk_at "ww"
  have hM2 : 2 ≤ M := by lia
  have hM3 : M ≤ 100 := by lia
  have hN1 : 1 ≤ N := by lia
  have hN2 : N ≤ 100 := by lia
  clear hp1 hp2 hr1 hr2 hM hN
  -- the texts
  refine SX.st (ST.asgComp (mc := [((Str.ofString "turn"), none), ((Str.ofString "pen"), some (.ref p))]) (cl := [((Str.ofString "pen"), L + 1)]) ?_ rfl ?_ (.inl (by exact Option.some_ne_none _)))
  · refine CompOK.of rfl (by kernel_rfl) rfl (by kernel_rfl) (by intro q hq; simp only [List.mem_singleton] at hq; subst hq; rfl) (by simp only [List.map_cons, List.map_nil]; decide) ?_
    exact Caps.loc (by kernel_rfl) (Caps.cap (by walk_at "mem") (.inl (by kernel_rfl)) (.inl (by kernel_rfl)) rfl Caps.nil)
  refine IT.range (x := (Str.ofString "range")) gg_range (by kernel_rfl) (by kernel_rfl) ?_
  walk_at "ww"
  refine call_law_take ?_
  walk_at "ww"
  have hp3 : PenAt (H0.set p (.list [.int ((0 + 1 + 1 : Nat) : Int), .lst (cs.map V.int)])) p (0 + 1 + 1) cs := Hp.set_same ..
  refine ((f_take (many := 4) hp3 hcz (by decide) (by decide) (by decide) fun r4 hr4 => ?_).le (by decide)).cl
  rw [Hp.setSet]
  walk_at "ww"
  refine ⟨by lia, by lia, fun D C hD => ?_⟩
  have nDp : D ≠ p := Hp.newNe hD
  refine ⟨fun i m' H' => E3 fun (o : Option V) (tss : List (List Sg)) (a : Nat) => A6 (m' = [((Str.ofString "turn"), o), ((Str.ofString "pen"), some (.ref p))]) (tss.length = i) (i ≤ 1 + r4) ((∀ ss ∈ tss, ss.length ≤ 8 ∧ ∀ s ∈ ss, s ∈ table)) (a ≤ 3 + 10 * i) (H' = (H0.set p (.list [.int (a : Nat), .lst (cs.map V.int)])).set D (.list (tss.map fun ss => .lst (ss.map sV)))), ⟨none, [], 3, rfl, rfl, Nat.zero_le _, by simp, by lia, rfl⟩, ?_, ?_⟩
  · rintro i W2 _ _ hW2 ⟨o, tss, a, rfl, hts, hi, htb, ha, rfl⟩
    have hi' : i < 1 + r4 := by
      have := (List.getElem?_eq_some_iff.mp hW2).1
      rw [List.length_map, List.length_range] at this
      lia
    refine AS.name (by walk_at "upd") ?_ (.inr (by kernel_rfl))
    refine call_law_paragraph ?_
    walk_at "ww"
    have hp4 : PenAt ((H0.set p (.list [.int (a : Nat), .lst (cs.map V.int)])).set D (.list (tss.map fun ss => .lst (ss.map sV)))) p a cs := by unfold PenAt; walk_at "hp"
    refine ((f_para hp4 hcz (by lia) fun ss a' h8 hst ha' => ?_).le (by decide)).cl
    walk_at "ww"
    refine ⟨_, by walk_at "hp", by simp; lia, _, tss ++ [ss], a', rfl, by simp [hts], hi', ?_, by lia, ?_⟩
    · intro x hx
      rcases List.mem_append.mp hx with q | q
      · exact htb x q
      · simp at q; subst q; exact ⟨h8, hst⟩
    · rw [List.map_append, Hp.setComm nDp, Hp.setSet, Hp.setSet]
      rfl
  rintro _ _ ⟨o, tss, a, rfl, hts, hi, htb, ha, rfl⟩
  rw [List.length_map, List.length_range] at hts hi ha
  have nDn : (H0.set p (.list [.int (a : Nat), .lst (cs.map V.int)])) D = none := by rw [Hp.set_ne _ _ nDp]; rfl
  refine ⟨_, _, _, .inl ⟨_, rfl, Hp.set_same .., rfl⟩, by walk_at "upd", Kn.next ?_⟩
  rw [Hp.setBack nDn]
  have hp5 : PenAt (H0.set p (.list [.int (a : Nat), .lst (cs.map V.int)])) p a cs := Hp.set_same ..
  have ha5 : a ≤ 100 := by lia
  have ht4 : tss.length ≤ 4 := by lia
  have ht0 : tss ≠ [] := by rintro rfl; simp at hts; lia
  generalize H0.set p (.list [.int (a : Nat), .lst (cs.map V.int)]) = H1 at hp5
  clear hts hi ha hD nDp nDn hp3 hp hr4
  -- the lines
  refine SX.st (ST.asgCompB (mc := [((Str.ofString "signs"), none), ((Str.ofString "line"), none), ((Str.ofString "old_wide"), some (.int M))]) (cl := [((Str.ofString "old_wide"), L + 2)]) (fun it acc cenv => compTurn_two ..) ?_ rfl ?_ (.inl (by exact Option.some_ne_none _)))
  · refine CompOK.of rfl (by kernel_rfl) rfl (by kernel_rfl) (by intro q hq; simp only [List.mem_singleton] at hq; subst hq; rfl) (by simp only [List.map_cons, List.map_nil]; decide) ?_
    exact Caps.loc (by kernel_rfl) (Caps.loc (by kernel_rfl) (Caps.cap (by walk_at "mem") (.inl (by kernel_rfl)) (.inl (by kernel_rfl)) rfl Caps.nil))
  refine IT.lst ?_
  walk_at "ww"
  refine ⟨_, rfl, fun D C hD => ?_⟩
  refine ⟨fun i m' H' => E2 fun (o1 o2 : Option V) => A2 (m' = [((Str.ofString "signs"), o1), ((Str.ofString "line"), o2), ((Str.ofString "old_wide"), some (.int M))]) (H' = H1.set D (.list ((allLines M ((tss.take i).map usOf)).map fun l => lineV l.1 l.2))), ⟨none, none, rfl, rfl⟩, ?_, ?_⟩
  · rintro i W2 _ _ hW2 ⟨o1, o2, rfl, rfl⟩
    rw [List.getElem?_map] at hW2
    obtain ⟨ss, hss, rfl⟩ := Option.map_eq_some_iff.mp hW2
    obtain ⟨h8, hst⟩ := htb ss (List.mem_of_getElem? hss)
    have hpz := parts_sz hM2 (us := usOf ss) (by rw [List.length_map]; exact h8)
    have hal := allLines_le hM2 (ts := (tss.take i).map usOf) (by
      intro us hu
      obtain ⟨s', h1, rfl⟩ := List.mem_map.mp hu
      rw [List.length_map]; exact (htb s' (List.mem_of_mem_take h1)).1)
    rw [List.length_map, List.length_take] at hal
    refine AS.name (by walk_at "upd") ?_ (.inr (by kernel_rfl))
    refine BJ.two ?_
    refine IT.lst ?_
    refine call_law_lines ?_
    walk_at "ww"
    refine ((f_lines hst h8 hM2 hM3 ?_).le (by decide)).cl
    walk_at "ww"
    refine ⟨_, rfl, fun j m' H' => E1 fun (o2 : Option V) => A2 (m' = [((Str.ofString "signs"), some (.lst (ss.map sV))), ((Str.ofString "line"), o2), ((Str.ofString "old_wide"), some (.int M))]) (H' = H1.set D (.list ((allLines M ((tss.take i).map usOf) ++ (linesGo M (partsGo M [] (usOf ss))).take j).map fun l => lineV l.1 l.2))), ⟨o2, rfl, by simp⟩, ?_, ?_⟩
    · rintro j W3 _ _ hW3 ⟨o3, rfl, rfl⟩
      have hjl := (List.getElem?_eq_some_iff.mp hW3).1
      rw [List.length_map, linesGo_len] at hjl
      rw [List.getElem?_map] at hW3
      obtain ⟨l, hl, rfl⟩ := Option.map_eq_some_iff.mp hW3
      refine AS.name (by walk_at "upd") ?_ (.inr (by kernel_rfl))
      walk_at "ww"
      refine ⟨_, Hp.set_same .., by rw [List.length_map, List.length_append, List.length_take, linesGo_len]; lia, _, rfl, ?_⟩
      rw [Hp.setSet, List.take_add_one, hl]
      simp
    · rintro _ _ ⟨o3, rfl, rfl⟩
      refine ⟨_, _, rfl, ?_⟩
      rw [List.length_map, List.take_of_length_le (Nat.le_refl _), List.take_add_one, hss]
      simp only [Option.toList_some, List.map_append, List.map_cons, List.map_nil, allLines_snoc]
  rintro _ _ ⟨o1, o2, rfl, rfl⟩
  rw [List.length_map, List.take_length]
  refine ⟨_, _, _, .inl ⟨_, rfl, Hp.set_same .., rfl⟩, by walk_at "upd", Kn.next ?_⟩
  rw [Hp.setBack hD]
  clear hD
  have hus : ∀ us ∈ tss.map usOf, us.length ≤ 8 ∧ ∀ u ∈ us, u.sgn := by
    intro us hu
    obtain ⟨s', h1, rfl⟩ := List.mem_map.mp hu
    obtain ⟨h8, hst⟩ := htb s' h1
    refine ⟨by rw [List.length_map]; exact h8, fun u hu' => ?_⟩
    obtain ⟨s, h2, rfl⟩ := List.mem_map.mp hu'
    exact toU_sgn (hst s h2)
  have hS := spec_of hM2 hM3 hus (by rw [List.length_map]; exact ht4)
  have hpos := allLines_pos (M := M) (ts := tss.map usOf) (by simpa using ht0)
  have hle := hS.z1
  show SX _ _ _ (lawM scr (some (.ref p)) (some (.int M)) (some (.int N)) (some (.lst (tss.map fun ss => .lst (ss.map sV)))) none (some (linesV (allLines M (tss.map usOf)))) none none none none none none none none none none) _ _ _
  -- the cursor's line, the first row
  refine SX.swap2 ?_
  walk_at "ww"
  refine call_law_take ?_
  walk_at "ww"
  refine call_len ?_
  walk_at "ww"
  refine CL.len (.inr IsL.fr) (by rw [List.length_map]; lia) ?_
  walk_at "ww"
  rw [List.length_map]
  refine ((f_take hp5 hcz (by lia) hpos (by lia) fun here hhere => ?_).le (by decide)).cl
  have hp6 : PenAt (H1.set p (.list [.int ((a + 1 : Nat) : Int), .lst (cs.map V.int)])) p (a + 1) cs := Hp.set_same ..
  generalize H1.set p (.list [.int ((a + 1 : Nat) : Int), .lst (cs.map V.int)]) = H2 at hp6
  walk_at "ww"
  refine call_law_take ?_
  walk_at "ww"
  refine call_len ?_
  walk_at "ww"
  refine CL.len (.inr IsL.fr) (by rw [List.length_map]; lia) ?_
  walk_at "ww"
  rw [List.length_map]
  refine ((f_take hp6 hcz (by lia) hpos (by lia) fun fi hfi => ?_).le (by decide)).cl
  generalize H2.set p (.list [.int ((a + 1 + 1 : Nat) : Int), .lst (cs.map V.int)]) = H3
  walk_at "ww"
  refine ⟨_, _, rfl, ?_⟩
  iterate 2 walk_at "w"
  clear hp5 hp6
  -- the cutting
  walk_at "w"
  refine call_Cutting ?_
  walk_at "ww"
  refine f_Cutting hS (fun q hq => ?_) hN1 hN2 fun sp lv f r k hmade => ?_
  · obtain ⟨us, hu, rfl⟩ := List.mem_map.mp hq
    exact para_ok hM2 (hus us hu).1 (hus us hu).2
  refine ⟨_, by walk_at "upd", ?_⟩
  obtain ⟨ps, hps⟩ : ∃ ps, ps = (tss.map usOf).map (paraOf M) := ⟨_, rfl⟩
  rw [← hps] at hmade hS
  have hpl : ps.length = tss.length := by rw [hps, List.length_map, List.length_map]
  have hpok : ∀ q ∈ ps, q.ok := fun q hq => by
    rw [hps] at hq
    obtain ⟨us, hu, rfl⟩ := List.mem_map.mp hq
    exact para_ok hM2 (hus us hu).1 (hus us hu).2
  have hpat : ∀ (i : Nat) ss, tss[i]? = some ss → ps[i]? = some (paraOf M (usOf ss)) := fun i ss hi => by rw [hps, List.getElem?_map, List.getElem?_map, hi]; rfl
  have hspl : sp.length = (allLines M (tss.map usOf)).length := by rw [hmade.slen, ← hS.len, ← off_all, List.length_map]
  have hgz : ∀ i, i ≤ ps.length → gAt N ps i ≤ 3600 := fun i hi => by
    have := gAt_le (N := N) hpok i
    lia
  have loc : ∀ x, x < (allLines M (tss.map usOf)).length → ∃ (j : Nat) (P : Para) (t b : Nat), j < ps.length ∧ ps[j]? = some P ∧ (begN 0 P.q)[t]? = some b ∧ x = off (qs ps) j + t := fun x hx => by
    rw [← hS.len] at hx
    obtain ⟨j, q, t, h1, h2, h3⟩ := flat_split _ x _ (List.getElem?_eq_getElem hx)
    rw [List.getElem?_map] at h1
    obtain ⟨P, hP, rfl⟩ := Option.map_eq_some_iff.mp h1
    have htl := (List.getElem?_eq_some_iff.mp h2).1
    exact ⟨j, P, t, _, (List.getElem?_eq_some_iff.mp hP).1, hP, List.getElem?_eq_getElem (by rw [begN_len]; exact htl), h3⟩
  generalize hmv : V.obj 373 (cutNs N (.lst lv) f r k false (.lst (sp.map (Sp.v N)))) = mv
  have led : ∀ (i : Nat) ss (H' : Hp) {Q' : V → Hp → Prop}, tss[i]? = some ss → (∀ a kv, H' a = none → DK (gOf N sp) kv → kv.length ≤ 10 → (∀ t, t < (partsGo M [] (usOf ss)).length → ((off (qs ps) i + t : Nat) : Int) ∈ kv.map (·.1)) →
      Q' (.tup [.bool true, .ref a, .int ((cutEnd M 0 0 (usOf ss) + 1 : Nat) : Int), .int ((cutEnd N 0 0 (usOf ss) + 1 : Nat) : Int)]) (H'.set a (.dict kv))) →
      CL c 12 (.ref 414) [mv, .lst (ss.map sV), .int (off (qs ps) i : Nat), .int M, .int (gAt N ps i : Nat), .int N] H' Q' := fun i ss H' Q' hss hQ => by
    have hil := (List.getElem?_eq_some_iff.mp hss).1
    obtain ⟨h8, hst⟩ := htb ss (List.mem_of_getElem? hss)
    have hsp : ∀ t b, (begN 0 (partsGo M [] (usOf ss)))[t]? = some b → ∃ pcs, sp[off (qs ps) i + t]? = some ⟨gAt N ps i, b, sizeV (zs (begN 0 (partsGo M [] (usOf ss)))) t, pcs, us2 (inP (off (qs ps) i) (partsGo M [] (usOf ss)).length here) (usOf ss)⟩ ∧ (us2 (inP (off (qs ps) i) (partsGo M [] (usOf ss)).length here) (usOf ss) = [] → pcs = [[]]) := fun t b hb =>
      hmade.spot i (paraOf M (usOf ss)) t b (by lia) (hpat i ss hss) hb
    subst hmv
    refine ((f_led (g := gOf N sp) hst h8 hM2 hM3 hN1 hN2 (by lia) (by have := hgz i (by lia); lia) hsp (fun t b hb => ?_) hQ).le (by decide)).cl
    obtain ⟨pcs, q1, _⟩ := hsp t b hb
    exact gOf_at q1
  have pnone : ∀ (i j : Int) (H' : Hp) {Q' : V → Hp → Prop}, (i < 0 ∨ (sp.length : Int) ≤ i) → Q' .none H' → CL c 12 (.ref 356) [mv, .int i, .int j] H' Q' := fun i j H' Q' hi hQ => by
    subst hmv
    exact ((f_place_none (by lia) hi hQ).le (by decide)).cl
  refine SX.swap3 ?_
  walk_at "ww"
  refine EV.dict0 ?_
  intro A hA
  walk_at "ww"
  refine ⟨_, _, _, rfl, ?_⟩
  iterate 3 walk_at "w"
  generalize hlns : linesV (allLines M (tss.map usOf)) = lns
  refine SX.for2 (fun i m' H' => E6 fun (kv : List (Int × V)) (o1 o2 o3 o4 o5 : Option V) => A6 (m' = lawM scr (some (.ref p)) (some (.int M)) (some (.int N)) (some (.lst (tss.map fun ss => .lst (ss.map sV)))) o1 (some lns) (some (.int here)) (some (.int fi)) (some mv) (some (.ref A)) (some (.int (off (qs ps) i : Nat))) (some (.int (gAt N ps i : Nat))) o2 o3 o4 o5) (i ≤ tss.length) (H' A = some (.dict kv)) (DK (gOf N sp) kv) (kv.length ≤ 10 * i) ((∀ x : Nat, x < off (qs ps) i → (x : Int) ∈ kv.map (·.1))))
    (fun m' H' => E6 fun (kv : List (Int × V)) (o1 o2 o3 o4 o5 : Option V) => A4 (m' = lawM scr (some (.ref p)) (some (.int M)) (some (.int N)) (some (.lst (tss.map fun ss => .lst (ss.map sV)))) o1 (some lns) (some (.int here)) (some (.int fi)) (some mv) (some (.ref A)) (some (.int (sp.length : Nat))) (some (.int (lv.length : Nat))) o2 o3 o4 o5) (H' A = some (.dict kv)) (DK (gOf N sp) kv) ((∀ x : Nat, x < sp.length → (x : Int) ∈ kv.map (·.1)))) ?_ ?_
  · refine IT.lst ?_
    walk_at "ww"
    refine ⟨_, rfl, ⟨[], none, none, none, none, none, rfl, Nat.zero_le _, Hp.set_same .., DK.nil, by simp, fun x hx => by simp [off] at hx⟩, ?_, ?_⟩
    · rintro i W2 _ H' hW2 ⟨kv, o1, o2, o3, o4, o5, rfl, hi, hkv, dk, kz, kd⟩
      rw [List.getElem?_map] at hW2
      obtain ⟨ss, hss, rfl⟩ := Option.map_eq_some_iff.mp hW2
      have hil := (List.getElem?_eq_some_iff.mp hss).1
      walk_at "w"
      refine SX.unpack ?_
      refine call_law_led ?_
      walk_at "ww"
      refine led i ss H' hss fun a kv2 ha dk2 kz2 kd2 => ?_
      have nAa : A ≠ a := by rintro rfl; rw [hkv] at ha; cases ha
      have hkv2 : (H'.set a (.dict kv2)) A = some (.dict kv) := by rw [Hp.set_ne _ _ nAa]; exact hkv
      have hkv3 : (H'.set a (.dict kv2)) a = some (.dict kv2) := Hp.set_same ..
      generalize H'.set a (.dict kv2) = H4 at hkv2 hkv3
      walk_at "ww"
      refine ifF ?_
      walk_at "w"
      refine EV.update ?_
      walk_at "ww"
      refine ⟨_, _, _, rfl, hkv2, hkv3, nAa, by lia, ?_⟩
      refine SX.swap2 ?_
      walk_at "ww"
      refine ⟨_, _, rfl, ?_⟩
      iterate 2 walk_at "w"
      walk_at "ww"
      obtain ⟨d1, d2, d3, d4⟩ := dk.merge dk2.2
      have hpi := hpat i ss hss
      have hoff : off (qs ps) (i + 1) = off (qs ps) i + (partsGo M [] (usOf ss)).length := off_succ (q := partsGo M [] (usOf ss)) (by rw [List.getElem?_map, hpi]; rfl)
      have hgat : gAt N ps (i + 1) = gAt N ps i + (cutEnd N 0 0 (usOf ss) + 1) := gAt_succ hpi
      have hpln := parts_len hM2 (usOf ss) [] 0
      simp only [List.length_nil, Nat.add_zero] at hpln
      rw [show ((off (qs ps) i : Nat) : Int) + ((cutEnd M 0 0 (usOf ss) + 1 : Nat) : Int) = ((off (qs ps) (i + 1) : Nat) : Int) by lia, show ((gAt N ps i : Nat) : Int) + ((cutEnd N 0 0 (usOf ss) + 1 : Nat) : Int) = ((gAt N ps (i + 1) : Nat) : Int) by lia]
      refine ⟨mergedV kv kv2, _, _, _, _, _, rfl, hil, Hp.set_same .., d1, by lia, fun x hx => ?_⟩
      · by_cases hx' : x < off (qs ps) i
        · exact d2 _ (kd x hx')
        · have := d3 _ (kd2 (x - off (qs ps) i) (by lia))
          rw [show off (qs ps) i + (x - off (qs ps) i) = x by lia] at this
          exact this
    · rintro _ H' ⟨kv, o1, o2, o3, o4, o5, rfl, hi, hkv, dk, kz, kd⟩
      rw [List.length_map, ← hpl] at kd ⊢
      refine ⟨kv, o1, o2, o3, o4, o5, ?_, hkv, dk, by rw [hmade.slen]; exact kd⟩
      rw [hmade.slen, hmade.len]
  rintro _ H' ⟨kv, o1, o2, o3, o4, o5, rfl, hkv, dk, kd⟩
  -- behind the last line, ahead of the first
  refine SX.if1 (TT.isF ?_ (ifF ?_))
  · refine TT.orB ?_
    walk_at "w"
    refine meth_373_place_of ?_
    refine EV.loc (by walk_at "mem") ?_
    refine ⟨_, by rw [← hmv]; exact IsO.fr, by walk_at "notin", ?_⟩
    walk_at "ww"
    refine pnone _ _ _ (.inr (Int.le_refl _)) ?_
    walk_at "ww"
    refine ifF ?_
    walk_at "w"
    refine meth_373_place_of ?_
    refine EV.loc (by walk_at "mem") ?_
    refine ⟨_, by rw [← hmv]; exact IsO.fr, by walk_at "notin", ?_⟩
    walk_at "ww"
    refine pnone _ _ _ (.inl (by decide)) ?_
    walk_at "ww"
    exact ⟨rfl, rfl⟩
  subst hmv
  obtain ⟨j1, P1, t1, b1, hj1, hP1, hb1, hx1⟩ := loc fi hfi
  obtain ⟨j2, P2, t2, b2, hj2, hP2, hb2, hx2⟩ := loc here hhere
  obtain ⟨pc1, hs1, _⟩ := hmade.spot j1 P1 t1 b1 (by lia) hP1 hb1
  obtain ⟨pc2, hs2, _⟩ := hmade.spot j2 P2 t2 b2 (by lia) hP2 hb2
  have hf1 := hmade.fst j1 P1 t1 b1 (by lia) hP1 hb1 hx1
  obtain ⟨hr1, hk1⟩ := hmade.row j2 P2 t2 b2 (by lia) hP2 hb2 hx2
  rw [← hx1] at hs1
  rw [← hx2] at hs2
  have hg1 := gOf_at (N := N) hs1
  have hg2 := gOf_at (N := N) hs2
  have hm1 := dk.at (kd fi (by lia))
  have hm2 := dk.at (kd here (by lia))
  rw [hg1] at hm1
  rw [hg2] at hm2
  simp only at hm1 hm2
  have hlt := plA_lt hN1 (P2.u2 (off (qs ps) j2) here) b2
  refine SX.if1 (TT.isF ?_ (ifF ?_))
  · refine TT.orB ?_
    walk_at "w"
    refine call_len ?_
    walk_at "ww"
    refine CL.len (.inr IsL.fr) (by rw [hmade.len]; have := hgz ps.length (Nat.le_refl _); lia) ?_
    walk_at "ww"
    refine ifd (fun e => absurd rfl e) fun _ => ?_
    walk_at "ww"
    refine ⟨_, SubAt.dict hkv hm1 dk.1, ?_⟩
    walk_at "ww"
    exact ⟨decide_eq_false (by lia), rfl⟩
  walk_at "ww"
  refine ⟨_, SubAt.dict hkv hm2 dk.1, ?_⟩
  walk_at "ww"
  refine BOP.tup (by simp) (by simp) (by simp) ?_
  rw [hr1, hk1, show min (((plA N (P2.u2 (off (qs ps) j2) here) b2).2 : Nat) : Int) ((N : Int) - 1) = (((plA N (P2.u2 (off (qs ps) j2) here) b2).2 : Nat) : Int) by lia]
  generalize ((gAt N ps j2 + (plA N (P2.u2 (off (qs ps) j2) here) b2).1 : Nat) : Int) = z1
  generalize (((plA N (P2.u2 (off (qs ps) j2) here) b2).2 : Nat) : Int) = z2
  refine CMP.eqd (da := .tuple [.int z1, .int z2, .bool false]) (db := .tuple [.int z1, .int z2, .bool false]) rfl rfl rfl rfl ?_
  walk_at "ww"
  rw [show PyData.eqv (.tuple [.int z1, .int z2, .bool false]) (.tuple [.int z1, .int z2, .bool false]) = true by simp [PyData.eqv, PyData.eqvAll]]
end PartW17
end Mine
end PartW
theorem PySem.Challenge.cw_pq1187_01_holds : PySem.Challenge.rw_pq1187_01.Holds :=
  Mine.law_holds

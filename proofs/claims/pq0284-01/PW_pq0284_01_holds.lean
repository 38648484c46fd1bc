import PyProof.Rows.All
import Wide.All
import OpenK.AllK
import Wide.FinOn
import KE.KSortTup
import Lean
import PySem.Challenge.RW_pq0284_01
set_option Elab.async false
set_option maxRecDepth 100000
set_option maxHeartbeats 8000000
set_option autoImplicit false
set_option linter.unusedSimpArgs false
set_option linter.unusedVariables false
set_option compiler.extract_closed false
set_option genSizeOf false
set_option hygiene false

noncomputable section
namespace Mine
open PySem PySem.W PySem.Calls PyProof.Rows PyProof.Rows.LCg
noncomputable abbrev vS (s : String) (t : Nat) : Value := .str (Str.ofString s) t
noncomputable abbrev vI (i : Int) (t : Nat) : Value := .int i t
noncomputable abbrev vR (a : Nat) : Value := .ref a
noncomputable abbrev vN : Value := .none
noncomputable abbrev vT : Value := .bool true
noncomputable abbrev dE (P : Params) (s : String) (t : Nat) (v : Value) : DictEntry := { hash := PyData.keyHash P (Str.ofString s), key := .str (Str.ofString s) t, val := v }
noncomputable abbrev cdO (l : List Value) : Obj := ⟨.type "code", none, .fields l.toArray, #[]⟩
noncomputable abbrev clO (n : String) (a ns t1 t2 : Nat) : Obj := ⟨.type "type", none, .cls { name := Str.ofString n, bases := [.type "object"], mro := [.ref a, .type "object"], ns := ns, qualname := Str.ofString n }, #[none, none, some (vS n t1), some (vS n t2), some (.builtin "object.__new__"), some (.bool true)]⟩
noncomputable def pwD (i : Nat) : Stmt := PySem.Challenge.pw_pq0284_01.main.body.getD i default
noncomputable abbrev fnB (name qual : Str) (args : Arguments) (body : List Stmt) (scope : Scope) (pm : Value) (c : Nat) : Obj := ⟨.type "function", none, .func { name := name, qualname := qual, params := args, body := .stmts body, scope := scope, globals := 3, closure := [], defaults := .none, kwdefaults := .none, pyModule := pm, code := .ref c }, #[]⟩
noncomputable def fnO (i : Nat) (pm : Value) (c : Nat) : Obj := match pwD i with
  | .FunctionDef name args body _ _ _ scope _ _ _ => fnB name name args body scope pm c
  | _ => default
noncomputable def fnI (i : Nat) (qual : String) (c : Nat) : Obj := match pwD i with
  | .ClassDef _ _ _ (.FunctionDef name args body _ _ _ scope _ _ _ :: _) _ _ _ _ _ _ _ => fnB name (Str.ofString qual) args body scope (vS "emacs.overlaytree" 187) c
  | _ => default
/-- the part of the heap that the walk reads -/
noncomputable def KK (P : Params) : Frag := [
(2, ⟨.none, none, .dict #[] 0, #[]⟩),
(3, ⟨.type "dict", none, .dict #[dE P "__name__" 165 (vS "law_pq0284_01" 543), dE P "__doc__" 166 (vN), dE P "__package__" 167 (vN), dE P "__loader__" 168 (.builtin "__main__.__loader__#opaque"), dE P "__spec__" 169 (vN), dE P "__annotations__" 170 (vR 6), dE P "__builtins__" 171 (vR 4), dE P "__file__" 173 (vS "/claim/cut.py" 172), dE P "__cached__" 174 (vN), dE P "OverlayNode" 231 (vR 31), dE P "OverlayTree" 260 (vR 52), dE P "hand_down" 268 (vR 63), dE P "hand_down_to" 277 (vR 70), dE P "greatest_end" 286 (vR 77), dE P "renew_limits" 294 (vR 84), dE P "hang" 304 (vR 91), dE P "turn_left" 313 (vR 98), dE P "turn_right" 322 (vR 105), dE P "is_red" 329 (vR 112), dE P "colour_inserted" 341 (vR 119), dE P "turned_inward" 351 (vR 126), dE P "put_node" 362 (vR 133), dE P "first_below" 369 (vR 140), dE P "take_place" 379 (vR 147), dE P "drop_node" 392 (vR 154), dE P "colour_dropped" 402 (vR 161), dE P "sibling_of" 410 (vR 168), dE P "turn_towards" 419 (vR 175), dE P "lightened" 432 (vR 182), dE P "all_nodes_in_order" 442 (vR 189), dE P "nodes_between" 454 (vR 196), dE P "begins_to_move" 465 (vR 203), dE P "grows" 474 (vR 210), dE P "open_gap" 480 (vR 215), dE P "shift_nodes" 492 (vR 222), dE P "close_gap" 503 (vR 229), dE P "black_height" 513 (vR 236), dE P "nodes_from_below" 523 (vR 243), dE P "shape_error" 531 (vR 250), dE P "overlay_tree_error" 542 (vR 257), dE P "_law_draw" 552 (vR 264), dE P "_law_tree" 565 (vR 271), dE P "_law_edit" 575 (vR 278), dE P "_law_done" 584 (vR 285), dE P "_law_led" 590 (vR 290), dE P "_law_shown" 596 (vR 295), dE P "law" 602 (vR 300)] 47, #[]⟩),
(27, cdO [vS "__init__" 201, vS "OverlayNode.__init__" 202, vS "/claim/cut.py" 203, vI 4 0, vI 6 0, vI 0 0, vI 0 0, vI 3 0, vR 22, vT, vI 181 0, vR 23, vN, vR 24, vR 25, vR 26, vI 210 0, vI 4 0, vS "/claim/cut.py" 211]),
(28, fnI 1 "OverlayNode.__init__" 27),
(30, ⟨.type "dict", none, .dict #[dE P "__module__" 196 (vS "emacs.overlaytree" 187), dE P "__firstlineno__" 200 (vI 2 199), dE P "__init__" 212 (vR 28), dE P "__static_attributes__" 224 (vR 29), dE P "__dict__" 226 (vR 32), dE P "__weakref__" 228 (vR 33), dE P "__doc__" 229 (vN)] 4, #[]⟩),
(31, clO "OverlayNode" 31 30 189 197),
(48, cdO [vS "__init__" 244, vS "OverlayTree.__init__" 245, vS "/claim/cut.py" 246, vI 18 0, vI 1 0, vI 0 0, vI 0 0, vI 3 0, vR 43, vT, vI 181 0, vR 44, vN, vR 45, vR 46, vR 47, vI 248 0, vI 18 0, vS "/claim/cut.py" 249]),
(49, fnI 2 "OverlayTree.__init__" 48),
(51, ⟨.type "dict", none, .dict #[dE P "__module__" 239 (vS "emacs.overlaytree" 187), dE P "__firstlineno__" 243 (vI 16 242), dE P "__init__" 250 (vR 49), dE P "__static_attributes__" 253 (vR 50), dE P "__dict__" 255 (vR 53), dE P "__weakref__" 257 (vR 54), dE P "__doc__" 258 (vN)] 4, #[]⟩),
(52, clO "OverlayTree" 52 51 232 240),
(62, cdO [vS "hand_down" 261, vS "hand_down" 262, vS "/claim/cut.py" 263, vI 21 0, vI 1 0, vI 0 0, vI 0 0, vI 3 0, vR 57, vT, vI 181 0, vR 58, vN, vR 59, vR 60, vR 61, vI 266 0, vI 21 0, vS "/claim/cut.py" 267]),
(63, fnO 3 (vS "emacs.overlaytree" 187) 62),
(69, cdO [vS "hand_down_to" 269, vS "hand_down_to" 270, vS "/claim/cut.py" 271, vI 31 0, vI 1 0, vI 0 0, vI 0 0, vI 3 0, vR 64, vT, vI 181 0, vR 65, vN, vR 66, vR 67, vR 68, vI 275 0, vI 31 0, vS "/claim/cut.py" 276]),
(70, fnO 4 (vS "emacs.overlaytree" 187) 69),
(76, cdO [vS "greatest_end" 278, vS "greatest_end" 279, vS "/claim/cut.py" 280, vI 38 0, vI 1 0, vI 0 0, vI 0 0, vI 3 0, vR 71, vT, vI 181 0, vR 72, vN, vR 73, vR 74, vR 75, vI 284 0, vI 38 0, vS "/claim/cut.py" 285]),
(77, fnO 5 (vS "emacs.overlaytree" 187) 76),
(83, cdO [vS "renew_limits" 287, vS "renew_limits" 288, vS "/claim/cut.py" 289, vI 44 0, vI 1 0, vI 0 0, vI 0 0, vI 3 0, vR 78, vT, vI 181 0, vR 79, vN, vR 80, vR 81, vR 82, vI 292 0, vI 44 0, vS "/claim/cut.py" 293]),
(84, fnO 6 (vS "emacs.overlaytree" 187) 83),
(90, cdO [vS "hang" 295, vS "hang" 296, vS "/claim/cut.py" 297, vI 51 0, vI 4 0, vI 0 0, vI 0 0, vI 3 0, vR 85, vT, vI 181 0, vR 86, vN, vR 87, vR 88, vR 89, vI 302 0, vI 51 0, vS "/claim/cut.py" 303]),
(91, fnO 7 (vS "emacs.overlaytree" 187) 90),
(97, cdO [vS "turn_left" 305, vS "turn_left" 306, vS "/claim/cut.py" 307, vI 60 0, vI 2 0, vI 0 0, vI 0 0, vI 3 0, vR 92, vT, vI 181 0, vR 93, vN, vR 94, vR 95, vR 96, vI 311 0, vI 60 0, vS "/claim/cut.py" 312]),
(98, fnO 8 (vS "emacs.overlaytree" 187) 97),
(104, cdO [vS "turn_right" 314, vS "turn_right" 315, vS "/claim/cut.py" 316, vI 72 0, vI 2 0, vI 0 0, vI 0 0, vI 3 0, vR 99, vT, vI 181 0, vR 100, vN, vR 101, vR 102, vR 103, vI 320 0, vI 72 0, vS "/claim/cut.py" 321]),
(105, fnO 9 (vS "emacs.overlaytree" 187) 104),
(111, cdO [vS "is_red" 323, vS "is_red" 324, vS "/claim/cut.py" 325, vI 84 0, vI 1 0, vI 0 0, vI 0 0, vI 3 0, vR 106, vT, vI 181 0, vR 107, vN, vR 108, vR 109, vR 110, vI 327 0, vI 84 0, vS "/claim/cut.py" 328]),
(112, fnO 10 (vS "emacs.overlaytree" 187) 111),
(118, cdO [vS "colour_inserted" 330, vS "colour_inserted" 331, vS "/claim/cut.py" 332, vI 86 0, vI 2 0, vI 0 0, vI 0 0, vI 3 0, vR 113, vT, vI 181 0, vR 114, vN, vR 115, vR 116, vR 117, vI 339 0, vI 86 0, vS "/claim/cut.py" 340]),
(119, fnO 11 (vS "emacs.overlaytree" 187) 118),
(125, cdO [vS "turned_inward" 342, vS "turned_inward" 343, vS "/claim/cut.py" 344, vI 106 0, vI 3 0, vI 0 0, vI 0 0, vI 3 0, vR 120, vT, vI 181 0, vR 121, vN, vR 122, vR 123, vR 124, vI 349 0, vI 106 0, vS "/claim/cut.py" 350]),
(126, fnO 12 (vS "emacs.overlaytree" 187) 125),
(132, cdO [vS "put_node" 352, vS "put_node" 353, vS "/claim/cut.py" 354, vI 115 0, vI 2 0, vI 0 0, vI 0 0, vI 3 0, vR 127, vT, vI 181 0, vR 128, vN, vR 129, vR 130, vR 131, vI 360 0, vI 115 0, vS "/claim/cut.py" 361]),
(133, fnO 13 (vS "emacs.overlaytree" 187) 132),
(139, cdO [vS "first_below" 363, vS "first_below" 364, vS "/claim/cut.py" 365, vI 142 0, vI 1 0, vI 0 0, vI 0 0, vI 3 0, vR 134, vT, vI 181 0, vR 135, vN, vR 136, vR 137, vR 138, vI 367 0, vI 142 0, vS "/claim/cut.py" 368]),
(140, fnO 14 (vS "emacs.overlaytree" 187) 139),
(146, cdO [vS "take_place" 370, vS "take_place" 371, vS "/claim/cut.py" 372, vI 148 0, vI 3 0, vI 0 0, vI 0 0, vI 3 0, vR 141, vT, vI 181 0, vR 142, vN, vR 143, vR 144, vR 145, vI 377 0, vI 148 0, vS "/claim/cut.py" 378]),
(147, fnO 15 (vS "emacs.overlaytree" 187) 146),
(153, cdO [vS "drop_node" 380, vS "drop_node" 381, vS "/claim/cut.py" 382, vI 157 0, vI 2 0, vI 0 0, vI 0 0, vI 3 0, vR 148, vT, vI 181 0, vR 149, vN, vR 150, vR 151, vR 152, vI 390 0, vI 157 0, vS "/claim/cut.py" 391]),
(154, fnO 16 (vS "emacs.overlaytree" 187) 153),
(160, cdO [vS "colour_dropped" 393, vS "colour_dropped" 394, vS "/claim/cut.py" 395, vI 179 0, vI 3 0, vI 0 0, vI 0 0, vI 3 0, vR 155, vT, vI 181 0, vR 156, vN, vR 157, vR 158, vR 159, vI 400 0, vI 179 0, vS "/claim/cut.py" 401]),
(161, fnO 17 (vS "emacs.overlaytree" 187) 160),
(167, cdO [vS "sibling_of" 403, vS "sibling_of" 404, vS "/claim/cut.py" 405, vI 188 0, vI 2 0, vI 0 0, vI 0 0, vI 3 0, vR 162, vT, vI 181 0, vR 163, vN, vR 164, vR 165, vR 166, vI 408 0, vI 188 0, vS "/claim/cut.py" 409]),
(168, fnO 18 (vS "emacs.overlaytree" 187) 167),
(174, cdO [vS "turn_towards" 411, vS "turn_towards" 412, vS "/claim/cut.py" 413, vI 190 0, vI 3 0, vI 0 0, vI 0 0, vI 3 0, vR 169, vT, vI 181 0, vR 170, vN, vR 171, vR 172, vR 173, vI 417 0, vI 190 0, vS "/claim/cut.py" 418]),
(175, fnO 19 (vS "emacs.overlaytree" 187) 174),
(181, cdO [vS "lightened" 420, vS "lightened" 421, vS "/claim/cut.py" 422, vI 195 0, vI 4 0, vI 0 0, vI 0 0, vI 3 0, vR 176, vT, vI 181 0, vR 177, vN, vR 178, vR 179, vR 180, vI 430 0, vI 195 0, vS "/claim/cut.py" 431]),
(182, fnO 20 (vS "emacs.overlaytree" 187) 181),
(188, cdO [vS "all_nodes_in_order" 433, vS "all_nodes_in_order" 434, vS "/claim/cut.py" 435, vI 221 0, vI 1 0, vI 0 0, vI 0 0, vI 3 0, vR 183, vT, vI 181 0, vR 184, vN, vR 185, vR 186, vR 187, vI 440 0, vI 221 0, vS "/claim/cut.py" 441]),
(189, fnO 21 (vS "emacs.overlaytree" 187) 188),
(195, cdO [vS "nodes_between" 443, vS "nodes_between" 444, vS "/claim/cut.py" 445, vI 234 0, vI 3 0, vI 0 0, vI 0 0, vI 3 0, vR 190, vT, vI 181 0, vR 191, vN, vR 192, vR 193, vR 194, vI 452 0, vI 234 0, vS "/claim/cut.py" 453]),
(196, fnO 22 (vS "emacs.overlaytree" 187) 195),
(202, cdO [vS "begins_to_move" 457, vS "begins_to_move" 458, vS "/claim/cut.py" 459, vI 253 0, vI 3 0, vI 0 0, vI 0 0, vI 3 0, vR 197, vT, vI 181 0, vR 198, vN, vR 199, vR 200, vR 201, vI 463 0, vI 253 0, vS "/claim/cut.py" 464]),
(203, fnO 24 (vS "emacs.overlaygaps" 455) 202),
(209, cdO [vS "grows" 466, vS "grows" 467, vS "/claim/cut.py" 468, vI 259 0, vI 3 0, vI 0 0, vI 0 0, vI 3 0, vR 204, vT, vI 181 0, vR 205, vN, vR 206, vR 207, vR 208, vI 472 0, vI 259 0, vS "/claim/cut.py" 473]),
(210, fnO 25 (vS "emacs.overlaygaps" 455) 209),
(214, cdO [vS "open_gap" 475, vS "open_gap" 476, vS "/claim/cut.py" 477, vI 261 0, vI 4 0, vI 0 0, vI 0 0, vI 3 0, vR 211, vT, vI 181 0, vR 212, vN, vN, vN, vR 213, vI 478 0, vI 261 0, vS "/claim/cut.py" 479]),
(215, fnO 26 (vS "emacs.overlaygaps" 455) 214),
(221, cdO [vS "shift_nodes" 481, vS "shift_nodes" 482, vS "/claim/cut.py" 483, vI 273 0, vI 4 0, vI 0 0, vI 0 0, vI 3 0, vR 216, vT, vI 181 0, vR 217, vN, vR 218, vR 219, vR 220, vI 490 0, vI 273 0, vS "/claim/cut.py" 491]),
(222, fnO 27 (vS "emacs.overlaygaps" 455) 221),
(228, cdO [vS "close_gap" 493, vS "close_gap" 494, vS "/claim/cut.py" 495, vI 290 0, vI 3 0, vI 0 0, vI 0 0, vI 3 0, vR 223, vT, vI 181 0, vR 224, vN, vR 225, vR 226, vR 227, vI 501 0, vI 290 0, vS "/claim/cut.py" 502]),
(229, fnO 28 (vS "emacs.overlaygaps" 455) 228),
(235, cdO [vS "black_height" 504, vS "black_height" 505, vS "/claim/cut.py" 506, vI 309 0, vI 2 0, vI 0 0, vI 0 0, vI 3 0, vR 230, vT, vI 181 0, vR 231, vN, vR 232, vR 233, vR 234, vI 511 0, vI 309 0, vS "/claim/cut.py" 512]),
(236, fnO 29 (vS "emacs.overlaygaps" 455) 235),
(242, cdO [vS "nodes_from_below" 514, vS "nodes_from_below" 515, vS "/claim/cut.py" 516, vI 315 0, vI 1 0, vI 0 0, vI 0 0, vI 3 0, vR 237, vT, vI 181 0, vR 238, vN, vR 239, vR 240, vR 241, vI 521 0, vI 315 0, vS "/claim/cut.py" 522]),
(243, fnO 30 (vS "emacs.overlaygaps" 455) 242),
(249, cdO [vS "shape_error" 524, vS "shape_error" 525, vS "/claim/cut.py" 526, vI 326 0, vI 1 0, vI 0 0, vI 0 0, vI 3 0, vR 244, vT, vI 181 0, vR 245, vN, vR 246, vR 247, vR 248, vI 529 0, vI 326 0, vS "/claim/cut.py" 530]),
(250, fnO 31 (vS "emacs.overlaygaps" 455) 249),
(256, cdO [vS "overlay_tree_error" 532, vS "overlay_tree_error" 533, vS "/claim/cut.py" 534, vI 338 0, vI 1 0, vI 0 0, vI 0 0, vI 3 0, vR 251, vT, vI 181 0, vR 252, vN, vR 253, vR 254, vR 255, vI 540 0, vI 338 0, vS "/claim/cut.py" 541]),
(257, fnO 32 (vS "emacs.overlaygaps" 455) 256),
(263, cdO [vS "_law_draw" 545, vS "_law_draw" 546, vS "/claim/cut.py" 547, vI 352 0, vI 2 0, vI 0 0, vI 0 0, vI 3 0, vR 258, vT, vI 181 0, vR 259, vN, vR 260, vR 261, vR 262, vI 550 0, vI 352 0, vS "/claim/cut.py" 551]),
(264, fnO 34 (vS "law_pq0284_01" 543) 263),
(270, cdO [vS "_law_tree" 553, vS "_law_tree" 554, vS "/claim/cut.py" 555, vI 357 0, vI 1 0, vI 0 0, vI 0 0, vI 3 0, vR 265, vT, vI 181 0, vR 266, vN, vR 267, vR 268, vR 269, vI 563 0, vI 357 0, vS "/claim/cut.py" 564]),
(271, fnO 35 (vS "law_pq0284_01" 543) 270),
(277, cdO [vS "_law_edit" 566, vS "_law_edit" 567, vS "/claim/cut.py" 568, vI 362 0, vI 3 0, vI 0 0, vI 0 0, vI 3 0, vR 272, vT, vI 181 0, vR 273, vN, vR 274, vR 275, vR 276, vI 573 0, vI 362 0, vS "/claim/cut.py" 574]),
(278, fnO 36 (vS "law_pq0284_01" 543) 277),
(284, cdO [vS "_law_done" 576, vS "_law_done" 577, vS "/claim/cut.py" 578, vI 367 0, vI 3 0, vI 0 0, vI 0 0, vI 3 0, vR 279, vT, vI 181 0, vR 280, vN, vR 281, vR 282, vR 283, vI 582 0, vI 367 0, vS "/claim/cut.py" 583]),
(285, fnO 37 (vS "law_pq0284_01" 543) 284),
(289, cdO [vS "_law_led" 585, vS "_law_led" 586, vS "/claim/cut.py" 587, vI 372 0, vI 2 0, vI 0 0, vI 0 0, vI 3 0, vR 286, vT, vI 181 0, vR 287, vN, vN, vN, vR 288, vI 588 0, vI 372 0, vS "/claim/cut.py" 589]),
(290, fnO 38 (vS "law_pq0284_01" 543) 289),
(294, cdO [vS "_law_shown" 591, vS "_law_shown" 592, vS "/claim/cut.py" 593, vI 381 0, vI 1 0, vI 0 0, vI 0 0, vI 3 0, vR 291, vT, vI 181 0, vR 292, vN, vN, vN, vR 293, vI 594 0, vI 381 0, vS "/claim/cut.py" 595]),
(295, fnO 39 (vS "law_pq0284_01" 543) 294),
(299, cdO [vS "law" 597, vS "law" 598, vS "/claim/cut.py" 599, vI 383 0, vI 1 0, vI 0 0, vI 0 0, vI 3 0, vR 296, vT, vI 181 0, vR 297, vN, vN, vN, vR 298, vI 600 0, vI 383 0, vS "/claim/cut.py" 601]),
(300, fnO 40 (vS "law_pq0284_01" 543) 299)]
/-- the text without its module names -/
noncomputable def vw : Program := { PySem.Challenge.pw_pq0284_01 with main := { PySem.Challenge.pw_pq0284_01.main with body := PySem.Challenge.pw_pq0284_01.main.body.filter (fun s => match s with | .Assign .. => false | _ => true) } }
noncomputable def asK : List Addr := [2, 3, 27, 28, 30, 31, 48, 49, 51, 52, 62, 63, 69, 70, 76, 77, 83, 84, 90, 91, 97, 98, 104, 105, 111, 112, 118, 119, 125, 126, 132, 133, 139, 140, 146, 147, 153, 154, 160, 161, 167, 168, 174, 175, 181, 182, 188, 189, 195, 196, 202, 203, 209, 210, 214, 215, 221, 222, 228, 229, 235, 236, 242, 243, 249, 250, 256, 257, 263, 264, 270, 271, 277, 278, 284, 285, 289, 290, 294, 295, 299, 300]
theorem asK_ok (P : Params) : asK = (KK P).map (·.1) := by kernel_rfl
noncomputable abbrev hK : Hook := kHook KK asK asK_ok
theorem said : PySem.Challenge.rw_pq0284_01.wellSaid = true := by
  try rw [PySem.W.Fast.te9446332074065402090]
  kernel_rfl
noncomputable abbrev xtK (s : Shared) : Bool := xlAt vw [] s && recOk (RowW.records PySem.Challenge.rw_pq0284_01.row.toRowW) s
/-- the whole run of the top at once; the library's twins of topRun, importEnds, fenceModules?, start, treeTable, openSeen halve the kernel's work (without them it closes as well) -/
theorem left0 : LeftO PySem.Challenge.pw_pq0284_01 vw [] xtK hK.obs hK.val 3340 := by
  intro w
  unfold openEnds fencedOpening topFrom
  try rw [PySem.W.Fast.te14082659384304107361]
  try rw [PySem.W.Fast.te10274390034422433532]
  try rw [PySem.W.Fast.te14289696077712309145]
  try rw [PySem.W.Fast.te1435165496053646825]
  try rw [PySem.W.Fast.te14364793385576792824]
  try rw [PySem.W.Fast.te4187177175401517315]
  kernel_rfl
/-- the goal put away while facts are taken apart -/
theorem cps {A : Prop} (h : ∀ X : Prop, (A → X) → X) : A := h A id

/-! ## values, objects, states of the small reading -/
inductive V where
  | none
  | bool (b : Bool)
  | int (i : Int)
  | str (x : Str)
  | ref (k : Nat)
  | tup (vs : List V)
  | base (a : Addr)

structure Nd where
  number : Int
  begin_ : Int
  end_ : Int
  front : Bool
  rear : Bool
  limit : Int
  offset : Int
  red : Bool
  left : Option Nat
  right : Option Nat
  parent : Option Nat

structure Tr where
  root : Option Nat
  count : Int

inductive MO where
  | node (n : Nd)
  | tree (t : Tr)
  | list (vs : List V)
  | dict (kvs : List (Int × Int))

noncomputable abbrev St := List MO
noncomputable abbrev Led := List (Addr × Obj)
noncomputable abbrev Al := List (Addr × Addr)
noncomputable abbrev Rho := List (Option V)

noncomputable def V.opt : Option Nat → V
  | Option.none => .none
  | some k => .ref k

inductive Fld where
  | number | begin_ | end_ | front | rear | limit | offset | red | left | right | parent | root | count
  deriving DecidableEq

noncomputable def Fld.name : Fld → Str
  | .number => Str.ofString "number"
  | .begin_ => Str.ofString "begin"
  | .end_ => Str.ofString "end"
  | .front => Str.ofString "front_advance"
  | .rear => Str.ofString "rear_advance"
  | .limit => Str.ofString "limit"
  | .offset => Str.ofString "offset"
  | .red => Str.ofString "is_red"
  | .left => Str.ofString "left"
  | .right => Str.ofString "right"
  | .parent => Str.ofString "parent"
  | .root => Str.ofString "root"
  | .count => Str.ofString "count"

noncomputable def ndFields (n : Nd) : List (Str × V) :=
  [(Fld.number.name, .int n.number), (Fld.begin_.name, .int n.begin_), (Fld.end_.name, .int n.end_), (Fld.front.name, .bool n.front),
   (Fld.rear.name, .bool n.rear), (Fld.limit.name, .int n.limit), (Fld.offset.name, .int n.offset), (Fld.red.name, .bool n.red),
   (Fld.left.name, V.opt n.left), (Fld.right.name, V.opt n.right), (Fld.parent.name, V.opt n.parent)]
noncomputable def trFields (t : Tr) : List (Str × V) := [(Fld.root.name, V.opt t.root), (Fld.count.name, .int t.count)]

noncomputable def getN (n : Nd) : Fld → Option V
  | .number => some (.int n.number)
  | .begin_ => some (.int n.begin_)
  | .end_ => some (.int n.end_)
  | .front => some (.bool n.front)
  | .rear => some (.bool n.rear)
  | .limit => some (.int n.limit)
  | .offset => some (.int n.offset)
  | .red => some (.bool n.red)
  | .left => some (V.opt n.left)
  | .right => some (V.opt n.right)
  | .parent => some (V.opt n.parent)
  | _ => Option.none
noncomputable def getT (t : Tr) : Fld → Option V
  | .root => some (V.opt t.root)
  | .count => some (.int t.count)
  | _ => Option.none
noncomputable def getF : MO → Fld → Option V
  | .node n, f => getN n f
  | .tree t, f => getT t f
  | _, _ => Option.none

noncomputable def V.toInt : V → Option Int
  | .int i => some i
  | _ => Option.none
noncomputable def V.toBool : V → Option Bool
  | .bool b => some b
  | _ => Option.none
noncomputable def V.toOpt : V → Option (Option Nat)
  | .none => some Option.none
  | .ref k => some (some k)
  | _ => Option.none

noncomputable def setN (n : Nd) (v : V) : Fld → Option Nd
  | .begin_ => v.toInt.map fun i => { n with begin_ := i }
  | .end_ => v.toInt.map fun i => { n with end_ := i }
  | .limit => v.toInt.map fun i => { n with limit := i }
  | .offset => v.toInt.map fun i => { n with offset := i }
  | .red => v.toBool.map fun b => { n with red := b }
  | .left => v.toOpt.map fun o => { n with left := o }
  | .right => v.toOpt.map fun o => { n with right := o }
  | .parent => v.toOpt.map fun o => { n with parent := o }
  | _ => Option.none
noncomputable def setT (t : Tr) (v : V) : Fld → Option Tr
  | .root => v.toOpt.map fun o => { t with root := o }
  | .count => v.toInt.map fun i => { t with count := i }
  | _ => Option.none
noncomputable def setF : MO → Fld → V → Option MO
  | .node n, f, v => (setN n v f).map .node
  | .tree t, f, v => (setT t v f).map .tree
  | _, _, _ => Option.none

noncomputable def fieldsOf : MO → List (Str × V)
  | .node n => ndFields n
  | .tree t => trFields t
  | _ => []

/-! ## what the heap says of a value -/
inductive RV (α : Al) (Φ : Addr × Obj → Prop) : V → Value → Prop
  | none : RV α Φ .none .none
  | bool (b : Bool) : RV α Φ (.bool b) (.bool b)
  | int (i : Int) (t : Tok) : RV α Φ (.int i) (.int i t)
  | str (x : Str) (t : Tok) : RV α Φ (.str x) (.str x t)
  | ref (k : Nat) (x d : Addr) : α[k]? = some (x, d) → RV α Φ (.ref k) (.ref x)
  | tup (vs : List V) (vals : List Value) (a : Addr) (n : Nat) : Φ (a, { cls := .type "tuple", data := .seq (List.toArray vals) n }) → vs.length = vals.length →
      (∀ (i : Nat) (v : V) (val : Value), vs[i]? = some v → vals[i]? = some val → RV α Φ v val) → RV α Φ (.tup vs) (.ref a)
  | base (a : Addr) : RV α Φ (.base a) (.ref a)

noncomputable def RVs (α : Al) (Φ : Addr × Obj → Prop) (vs : List V) (vals : List Value) : Prop :=
  vs.length = vals.length ∧ ∀ (i : Nat) (v : V) (val : Value), vs[i]? = some v → vals[i]? = some val → RV α Φ v val

theorem RV.mono {α α' : Al} {Φ Φ' : Addr × Obj → Prop} (ha : ∀ (k : Nat) (x : Addr × Addr), α[k]? = some x → α'[k]? = some x) (hf : ∀ p, Φ p → Φ' p) {v : V} {val : Value} (h : RV α Φ v val) : RV α' Φ' v val := by
  induction h with
  | none => exact .none
  | bool b => exact .bool b
  | int i t => exact .int i t
  | str x t => exact .str x t
  | ref k x d e => exact .ref k x d (ha _ _ e)
  | tup vs vals a n h1 h2 _ ih => exact .tup vs vals a n (hf _ h1) h2 ih
  | base a => exact .base a
theorem RVs.mono {α α' : Al} {Φ Φ' : Addr × Obj → Prop} (ha : ∀ (k : Nat) (x : Addr × Addr), α[k]? = some x → α'[k]? = some x) (hf : ∀ p, Φ p → Φ' p) {vs : List V} {vals : List Value} (h : RVs α Φ vs vals) : RVs α' Φ' vs vals :=
  ⟨h.1, fun i v val e e' => (h.2 i v val e e').mono ha hf⟩
theorem RVs.nil {α : Al} {Φ : Addr × Obj → Prop} : RVs α Φ [] [] := ⟨rfl, fun i _ _ e => by simp at e⟩
theorem RVs.cons {α : Al} {Φ : Addr × Obj → Prop} {v : V} {val : Value} {vs : List V} {vals : List Value} (h : RV α Φ v val) (r : RVs α Φ vs vals) : RVs α Φ (v :: vs) (val :: vals) := by
  refine ⟨by simp [r.1], fun i v' val' e e' => ?_⟩
  cases i with
  | zero => simp at e e'; subst e; subst e'; exact h
  | succ i => simp at e e'; exact r.2 i v' val' e e'
theorem RVs.head {α : Al} {Φ : Addr × Obj → Prop} {v : V} {vs : List V} {vals : List Value} (h : RVs α Φ (v :: vs) vals) : ∃ val vals', vals = val :: vals' ∧ RV α Φ v val ∧ RVs α Φ vs vals' := by
  cases vals with
  | nil => exact absurd h.1 (by simp)
  | cons val vals' =>
    refine ⟨val, vals', rfl, h.2 0 v val (by simp) (by simp), by simpa using h.1, fun i v' val' e e' => h.2 (i + 1) v' val' (by simpa using e) (by simpa using e')⟩
theorem RVs.nil_inv {α : Al} {Φ : Addr × Obj → Prop} {vals : List Value} (h : RVs α Φ [] vals) : vals = [] := by
  cases vals with
  | nil => rfl
  | cons _ _ => exact absurd h.1 (by simp)
theorem RVs.append {α : Al} {Φ : Addr × Obj → Prop} : ∀ {vs ws : List V} {vals wals : List Value}, RVs α Φ vs vals → RVs α Φ ws wals → RVs α Φ (vs ++ ws) (vals ++ wals)
  | [], _, _, _, h, h' => by rw [h.nil_inv]; exact h'
  | _ :: _, _, _, _, h, h' => by
    obtain ⟨val, vals', rfl, h1, h2⟩ := h.head
    exact .cons h1 (RVs.append h2 h')
theorem RVs.at {α : Al} {Φ : Addr × Obj → Prop} {vs : List V} {vals : List Value} (h : RVs α Φ vs vals) {i : Nat} {v : V} (e : vs[i]? = some v) : ∃ val, vals[i]? = some val ∧ RV α Φ v val := by
  have hi : i < vs.length := (List.getElem?_eq_some_iff.mp e).1
  have hj : i < vals.length := h.1 ▸ hi
  exact ⟨vals[i], by simp [hj], h.2 i v _ e (by simp [hj])⟩
theorem RVs.reverse {α : Al} {Φ : Addr × Obj → Prop} {vs : List V} {vals : List Value} (h : RVs α Φ vs vals) : RVs α Φ vs.reverse vals.reverse := by
  refine ⟨by simp [h.1], fun i v val e e' => ?_⟩
  have hi : i < vs.length := by have := (List.getElem?_eq_some_iff.mp e).1; simpa using this
  have hj : i < vals.length := h.1 ▸ hi
  rw [List.getElem?_reverse hi] at e
  rw [List.getElem?_reverse hj, ← h.1] at e'
  exact h.2 _ v val e e'
theorem RVs.take {α : Al} {Φ : Addr × Obj → Prop} {vs : List V} {vals : List Value} (h : RVs α Φ vs vals) (n : Nat) : RVs α Φ (vs.take n) (vals.take n) := by
  refine ⟨by simp [h.1], fun i v val e e' => ?_⟩
  rw [List.getElem?_take] at e e'
  split at e
  · rename_i hlt
    rw [if_pos hlt] at e'
    exact h.2 i v val e e'
  · cases e
theorem RVs.dropLast {α : Al} {Φ : Addr × Obj → Prop} {vs : List V} {vals : List Value} (h : RVs α Φ vs vals) : RVs α Φ vs.dropLast vals.dropLast := by
  rw [List.dropLast_eq_take, List.dropLast_eq_take, h.1]; exact h.1 ▸ h.take _

/-! ## the ledger -/
noncomputable def muts (α : Al) : List Addr := α.map (·.2)
noncomputable def isCell (o : Obj) : Bool := match o.data with | .cell _ => true | _ => false
noncomputable def isDct (o : Obj) : Bool := match o.data with | .dict _ _ => true | _ => false
noncomputable def isImm (o : Obj) : Bool := !isCell o && (!isDct o && match o.cls with | .ref _ => true | .type n => n == "tuple" | _ => false)
theorem isImm_cell {o : Obj} (h : isImm o = true) : isCell o = false := by
  unfold isImm at h
  cases hc : isCell o with
  | false => rfl
  | true => rw [hc] at h; cases h
noncomputable def Frz (α : Al) (news : Led) (p : Addr × Obj) : Prop := p ∈ news ∧ p.1 ∉ muts α ∧ isImm p.2 = true

structure GLe (own : List Addr) (α : Al) (news : Led) (α' : Al) (news' : Led) : Prop where
  al : ∀ (k : Nat) (x : Addr × Addr), α[k]? = some x → α'[k]? = some x
  keep : ∀ p ∈ news, p.1 ∉ muts α → (isCell p.2 = false ∨ p.1 ∉ own) → p ∈ news' ∧ p.1 ∉ muts α'
theorem GLe.refl {own : List Addr} {α : Al} {news : Led} : GLe own α news α news := ⟨fun _ _ e => e, fun _ h h' _ => ⟨h, h'⟩⟩
theorem GLe.trans {own : List Addr} {α α' α'' : Al} {news news' news'' : Led} (h : GLe own α news α' news') (h' : GLe own α' news' α'' news'') : GLe own α news α'' news'' :=
  ⟨fun k x e => h'.al k x (h.al k x e), fun p hp hm hc => let ⟨a, b⟩ := h.keep p hp hm hc; h'.keep p a b hc⟩
theorem GLe.weaken {own : List Addr} {α α' : Al} {news news' : Led} (h : GLe [] α news α' news') : GLe own α news α' news' :=
  ⟨h.al, fun p hp hm _ => h.keep p hp hm (.inr (by simp))⟩
theorem GLe.frz {own : List Addr} {α α' : Al} {news news' : Led} (h : GLe own α news α' news') {p : Addr × Obj} (x : Frz α news p) : Frz α' news' p :=
  let ⟨a, b⟩ := h.keep p x.1 x.2.1 (.inl (isImm_cell x.2.2)); ⟨a, b, x.2.2⟩
theorem RV.le {own : List Addr} {α α' : Al} {news news' : Led} {v : V} {val : Value} (h : RV α (Frz α news) v val) (g : GLe own α news α' news') : RV α' (Frz α' news') v val := h.mono g.al fun _ x => g.frz x
theorem RVs.le {own : List Addr} {α α' : Al} {news news' : Led} {v : List V} {val : List Value} (h : RVs α (Frz α news) v val) (g : GLe own α news α' news') : RVs α' (Frz α' news') v val := h.mono g.al fun _ x => g.frz x

/-! ## records in dicts -/
noncomputable def RE (α : Al) (Φ : Addr × Obj → Prop) : List (Str × V) → List DictEntry → Prop
  | [], [] => True
  | f :: fs, e :: es => (∃ t, e.key = .str f.1 t) ∧ RV α Φ f.2 e.val ∧ RE α Φ fs es
  | _, _ => False
theorem RE.mono {α α' : Al} {Φ Φ' : Addr × Obj → Prop} (ha : ∀ (k : Nat) (x : Addr × Addr), α[k]? = some x → α'[k]? = some x) (hf : ∀ p, Φ p → Φ' p) : ∀ {fs : List (Str × V)} {es : List DictEntry}, RE α Φ fs es → RE α' Φ' fs es
  | [], [], _ => trivial
  | _ :: _, _ :: _, ⟨a, b, c⟩ => ⟨a, b.mono ha hf, RE.mono ha hf c⟩
  | [], _ :: _, h => h.elim
  | _ :: _, [], h => h.elim
theorem RE.length {α : Al} {Φ : Addr × Obj → Prop} : ∀ {fs : List (Str × V)} {es : List DictEntry}, RE α Φ fs es → es.length = fs.length
  | [], [], _ => rfl
  | _ :: _, _ :: _, ⟨_, _, c⟩ => by simp [c.length]
  | [], _ :: _, h => h.elim
  | _ :: _, [], h => h.elim
noncomputable def lookF (name : Str) : List (Str × V) → Option V
  | [] => Option.none
  | f :: fs => if f.1 == name then some f.2 else lookF name fs
noncomputable def updF (name : Str) (v : V) : List (Str × V) → List (Str × V)
  | [] => []
  | f :: fs => if f.1 == name then (f.1, v) :: fs else f :: updF name v fs
theorem RE.get {α : Al} {Φ : Addr × Obj → Prop} {name : Str} {v : V} : ∀ {fs : List (Str × V)} {es : List DictEntry}, RE α Φ fs es → lookF name fs = some v → ∃ val, getL name es = some (some val) ∧ RV α Φ v val
  | f :: fs, e :: es, ⟨⟨t, a⟩, b, c⟩, h => by
    unfold lookF at h
    unfold getL
    rw [List.find?_cons]
    have hk : e.key.isStr name = (f.1 == name) := by rw [a]; rfl
    rw [hk]
    split at h
    · rename_i q
      cases h
      rw [q]
      exact ⟨_, rfl, b⟩
    · rename_i q
      rw [Bool.not_eq_true] at q
      rw [q]
      dsimp only
      obtain ⟨val, h1, h2⟩ := RE.get c h
      unfold getL at h1
      refine ⟨val, ?_, h2⟩
      cases hf : List.find? (fun x => x.key.isStr name) es with
      | some e' => rw [hf] at h1; exact h1
      | none => rw [hf] at h1; dsimp only at h1; split at h1 <;> simp at h1
  | [], [], _, h => by cases h
  | [], _ :: _, h, _ => h.elim
  | _ :: _, [], h, _ => h.elim
theorem RE.put {α : Al} {Φ : Addr × Obj → Prop} {name : Str} {v v₀ : V} {val : Value} {hsh : Int} {key : Value} (hv : RV α Φ v val) : ∀ {fs : List (Str × V)} {es : List DictEntry}, RE α Φ fs es → lookF name fs = some v₀ →
    RE α Φ (updF name v fs) (putL name hsh key val es) ∧ es.any (·.key.isStr name) = true
  | f :: fs, e :: es, ⟨⟨t, a⟩, b, c⟩, h => by
    unfold lookF at h
    unfold updF putL
    have hk : e.key.isStr name = (f.1 == name) := by rw [a]; rfl
    rw [hk, List.any_cons, hk]
    split at h
    · rename_i q
      rw [q]
      exact ⟨⟨⟨t, a⟩, hv, c⟩, rfl⟩
    · rename_i q
      rw [Bool.not_eq_true] at q
      rw [q]
      obtain ⟨h1, h2⟩ := RE.put hv c h
      exact ⟨⟨⟨t, a⟩, b, h1⟩, by rw [h2]; rfl⟩
  | [], [], _, h => by cases h
  | [], _ :: _, h, _ => h.elim
  | _ :: _, [], h, _ => h.elim

theorem len_z {α : Type} {vals : List α} (h : vals.length = 0) : vals = [] := List.eq_nil_of_length_eq_zero h
theorem len_s {α : Type} {n : Nat} {vals : List α} (h : vals.length = n + 1) : ∃ a r, vals = a :: r ∧ r.length = n := by
  cases vals with
  | nil => cases h
  | cons a r => exact ⟨a, r, rfl, Nat.succ.inj h⟩
theorem len_1 {α : Type} {vals : List α} (h : vals.length = 1) : ∃ a, vals = [a] := by
  obtain ⟨a, r, rfl, h1⟩ := len_s h
  obtain rfl := len_z h1
  exact ⟨a, rfl⟩
theorem len_2 {α : Type} {vals : List α} (h : vals.length = 2) : ∃ a b, vals = [a, b] := by
  obtain ⟨a, r, rfl, h1⟩ := len_s h
  obtain ⟨b, rfl⟩ := len_1 h1
  exact ⟨a, b, rfl⟩
theorem len_3 {α : Type} {vals : List α} (h : vals.length = 3) : ∃ a b c, vals = [a, b, c] := by
  obtain ⟨a, r, rfl, h1⟩ := len_s h
  obtain ⟨b, c, rfl⟩ := len_2 h1
  exact ⟨a, b, c, rfl⟩
theorem len_4 {α : Type} {vals : List α} (h : vals.length = 4) : ∃ a b c d, vals = [a, b, c, d] := by
  obtain ⟨a, r, rfl, h1⟩ := len_s h
  obtain ⟨b, c, d, rfl⟩ := len_3 h1
  exact ⟨a, b, c, d, rfl⟩
theorem len_5 {α : Type} {vals : List α} (h : vals.length = 5) : ∃ a b c d e, vals = [a, b, c, d, e] := by
  obtain ⟨a, r, rfl, h1⟩ := len_s h
  obtain ⟨b, c, d, e, rfl⟩ := len_4 h1
  exact ⟨a, b, c, d, e, rfl⟩
theorem len_6 {α : Type} {vals : List α} (h : vals.length = 6) : ∃ a b c d e f, vals = [a, b, c, d, e, f] := by
  obtain ⟨a, r, rfl, h1⟩ := len_s h
  obtain ⟨b, c, d, e, f, rfl⟩ := len_5 h1
  exact ⟨a, b, c, d, e, f, rfl⟩
theorem look_or {a b : Option V} {v : V} (h : b = Option.none ∨ a = b) (e : b = some v) : a = some v := h.elim (fun e' => nomatch e'.symm.trans e) (·.trans e)
theorem lookF_node {n : Nd} {f : Fld} {v : V} (h : getN n f = some v) : lookF f.name (ndFields n) = some v := by
  refine look_or ?_ h
  cases f <;> first | exact .inl rfl | exact .inr rfl
theorem lookF_tree {n : Tr} {f : Fld} {v : V} (h : getT n f = some v) : lookF f.name (trFields n) = some v := by
  refine look_or ?_ h
  cases f <;> first | exact .inl rfl | exact .inr rfl
theorem opt_toOpt {v : V} {o : Option Nat} (h : v.toOpt = some o) : v = V.opt o := by
  cases v <;> cases h <;> rfl
theorem toInt_int {v : V} {o : Int} (h : v.toInt = some o) : v = .int o := by
  cases v <;> cases h <;> rfl
theorem toBool_bool {v : V} {o : Bool} (h : v.toBool = some o) : v = .bool o := by
  cases v <;> cases h <;> rfl
theorem updF_node {n n' : Nd} {f : Fld} {v : V} (h : setN n v f = some n') : ndFields n' = updF f.name v (ndFields n) ∧ ∃ v₀, getN n f = some v₀ := by
  cases f <;> first | (simp only [setN, Option.map_eq_some_iff, reduceCtorEq, false_and, exists_false, and_false] at h; done) | skip
  all_goals
    simp only [setN, Option.map_eq_some_iff] at h
    obtain ⟨o, h1, rfl⟩ := h
    first
      | (obtain rfl := toInt_int h1; exact ⟨rfl, _, rfl⟩)
      | (obtain rfl := toBool_bool h1; exact ⟨rfl, _, rfl⟩)
      | (obtain rfl := opt_toOpt h1; exact ⟨rfl, _, rfl⟩)
theorem updF_tree {n n' : Tr} {f : Fld} {v : V} (h : setT n v f = some n') : trFields n' = updF f.name v (trFields n) ∧ ∃ v₀, getT n f = some v₀ := by
  cases f <;> first | (simp only [setT, Option.map_eq_some_iff, reduceCtorEq, false_and, exists_false, and_false] at h; done) | skip
  all_goals
    simp only [setT, Option.map_eq_some_iff] at h
    obtain ⟨o, h1, rfl⟩ := h
    first
      | (obtain rfl := toInt_int h1; exact ⟨rfl, _, rfl⟩)
      | (obtain rfl := opt_toOpt h1; exact ⟨rfl, _, rfl⟩)
structure Pg where
  prog : Program
  w : World
  K : Frag
  p : Program
  loose : List Str
  mean : ExcName → Option Value
  mg : Str → Option Value
  mb : Str → Option Value
  Cn : Addr
  Ct : Addr

noncomputable def MO.cls (P : Pg) : MO → Option Addr
  | .node _ => some P.Cn
  | .tree _ => some P.Ct
  | _ => none

noncomputable def KVR : List (Int × Int) → List (Int × Value) → Prop
  | [], [] => True
  | p :: r, q :: u => p.1 = q.1 ∧ (∃ t, q.2 = .int p.2 t) ∧ KVR r u
  | _, _ => False

noncomputable def RO (P : Pg) (α : Al) (news : Led) (x d : Addr) : MO → Obj → Prop
  | .list vs, o => x = d ∧ vs.length < 2 ^ 20 ∧ ∃ vals n, o = listOf (List.toArray vals) n ∧ RVs α (Frz α news) vs vals
  | .dict kvs, o => x = d ∧ (d == sysModules) = false ∧ kvs.length < 2 ^ 20 ∧ ∃ pairs, o.IsDictOf (PySem.intKind P.prog P.w) pairs ∧ KVR kvs pairs
  | .node n, o => Frz α news (x, instObj P.Cn d) ∧ ∃ es k, o = dictOf es k ∧ RE α (Frz α news) (ndFields n) es
  | .tree n, o => Frz α news (x, instObj P.Ct d) ∧ ∃ es k, o = dictOf es k ∧ RE α (Frz α news) (trFields n) es

theorem RO.mono {P : Pg} {α α' : Al} {news news' : Led} {x d : Addr} {mo : MO} {o : Obj} (ha : ∀ (k : Nat) (x : Addr × Addr), α[k]? = some x → α'[k]? = some x) (hf : ∀ p, Frz α news p → Frz α' news' p)
    (h : RO P α news x d mo o) : RO P α' news' x d mo o := by
  cases mo with
  | list vs => obtain ⟨a, b, vals, n, c, e⟩ := h; exact ⟨a, b, vals, n, c, e.mono ha hf⟩
  | dict kvs => exact h
  | node n => obtain ⟨a, es, k, b, c⟩ := h; exact ⟨hf _ a, es, k, b, c.mono ha hf⟩
  | tree n => obtain ⟨a, es, k, b, c⟩ := h; exact ⟨hf _ a, es, k, b, c.mono ha hf⟩

structure Inv (P : Pg) (α : Al) (news : Led) (σ : St) : Prop where
  len : α.length = σ.length
  nv : (α.map (·.1)).Nodup
  nd : (muts α).Nodup
  nn : (news.map (·.1)).Nodup
  obj : ∀ (k : Nat) (x d : Addr) (mo : MO), α[k]? = some (x, d) → σ[k]? = some mo → ∃ o, (d, o) ∈ news ∧ RO P α news x d mo o

theorem Inv.at {P : Pg} {α : Al} {news : Led} {σ : St} (I : Inv P α news σ) {k : Nat} {mo : MO} (e : σ[k]? = some mo) : ∃ x d o, α[k]? = some (x, d) ∧ (d, o) ∈ news ∧ RO P α news x d mo o := by
  have hk : k < σ.length := (List.getElem?_eq_some_iff.mp e).1
  have hj : k < α.length := I.len ▸ hk
  obtain ⟨o, h⟩ := I.obj k α[k].1 α[k].2 mo (by simp [hj]) e
  exact ⟨_, _, o, by simp [hj], h⟩

theorem mem_unique {news : Led} (nn : (news.map (·.1)).Nodup) {a : Addr} {o o' : Obj} (h : (a, o) ∈ news) (h' : (a, o') ∈ news) : o = o' := by
  induction news with
  | nil => cases h
  | cons p r ih =>
    rw [List.map_cons, List.nodup_cons] at nn
    have off : ∀ {u : Obj}, (a, u) ∈ r → p.1 ≠ a := fun hu e => nn.1 (by rw [e]; exact List.mem_map_of_mem (f := (·.1)) hu)
    rcases List.mem_cons.mp h with e1 | h1
    · rcases List.mem_cons.mp h' with e2 | h2
      · rw [← e1] at e2; exact (congrArg Prod.snd e2).symm
      · exact absurd (by rw [← e1]) (off h2)
    · rcases List.mem_cons.mp h' with e2 | h2
      · exact absurd (by rw [← e2]) (off h1)
      · exact ih nn.2 h1 h2

/-- the one entry of the ledger that is replaced -/
theorem upd_of_mem {news : Led} (nn : (news.map (·.1)).Nodup) {d : Addr} {o : Obj} (h : (d, o) ∈ news) :
    ∃ g : Obj → Led, UpdF d o news g ∧ (∀ o', Upd d o o' news (g o')) ∧ (∀ o', (d, o') ∈ g o') ∧ (∀ o' p, p.1 ≠ d → (p ∈ g o' ↔ p ∈ news)) ∧ (∀ o', (g o').map (·.1) = news.map (·.1)) := by
  induction news with
  | nil => cases h
  | cons p r ih =>
    rw [List.map_cons, List.nodup_cons] at nn
    by_cases e : p.1 = d
    · have hp : p = (d, o) := by
        rcases List.mem_cons.mp h with rfl | h
        · rfl
        · exact absurd (List.mem_map_of_mem (f := (·.1)) h) (by rw [← e]; exact nn.1)
      subst hp
      have off : ∀ q ∈ r, q.1 ≠ d := fun q hq z => nn.1 (by rw [← z]; exact List.mem_map_of_mem (f := (·.1)) hq)
      refine ⟨fun o' => (d, o') :: r, .head off, fun o' => .head off, fun o' => .head _, fun o' q hq => ?_, fun o' => rfl⟩
      simp only [List.mem_cons]
      constructor
      · rintro (rfl | h)
        · exact absurd rfl hq
        · exact .inr h
      · rintro (rfl | h)
        · exact absurd rfl hq
        · exact .inr h
    · have h' : (d, o) ∈ r := by
        rcases List.mem_cons.mp h with rfl | h
        · exact absurd rfl e
        · exact h
      refine cps fun Xc kc => ?_
      obtain ⟨g, a1, a2, a3, a4, a5⟩ := ih nn.2 h'
      refine kc ?_; clear kc Xc
      refine ⟨fun o' => p :: g o', .tail e a1, fun o' => .tail e (a2 o'), fun o' => .tail _ (a3 o'), fun o' q hq => ?_, fun o' => by simp [a5]⟩
      simp only [List.mem_cons, a4 o' q hq]

theorem nodup_inj {l : List Addr} (h : l.Nodup) {i j : Nat} (hi : i < l.length) (hj : j < l.length) (e : l[i] = l[j]) : i = j := by
  have p := List.pairwise_iff_getElem.mp h
  rcases Nat.lt_trichotomy i j with q | q | q
  · exact absurd e (p i j hi hj q)
  · exact q
  · exact absurd e.symm (p j i hj hi q)
theorem Inv.alne {P : Pg} {α : Al} {news : Led} {σ : St} (I : Inv P α news σ) {j k : Nat} {x y d : Addr} (e : α[j]? = some (x, d)) (e' : α[k]? = some (y, d)) : j = k := by
  have h1 : (muts α)[j]? = some d := by simp [muts, e]
  have h2 : (muts α)[k]? = some d := by simp [muts, e']
  obtain ⟨a, b⟩ := List.getElem?_eq_some_iff.mp h1
  obtain ⟨a', b'⟩ := List.getElem?_eq_some_iff.mp h2
  exact nodup_inj I.nd a a' (b.trans b'.symm)
theorem Inv.valne {P : Pg} {α : Al} {news : Led} {σ : St} (I : Inv P α news σ) {j k : Nat} {x d d' : Addr} (e : α[j]? = some (x, d)) (e' : α[k]? = some (x, d')) : j = k := by
  have h1 : (α.map (·.1))[j]? = some x := by simp [e]
  have h2 : (α.map (·.1))[k]? = some x := by simp [e']
  obtain ⟨a, b⟩ := List.getElem?_eq_some_iff.mp h1
  obtain ⟨a', b'⟩ := List.getElem?_eq_some_iff.mp h2
  exact nodup_inj I.nv a a' (b.trans b'.symm)
theorem mem_muts {α : Al} {k : Nat} {x d : Addr} (e : α[k]? = some (x, d)) : d ∈ muts α := List.mem_map_of_mem (f := (·.2)) (List.mem_of_getElem? e)

/-- one object of the state is changed -/
theorem Inv.update {P : Pg} {α : Al} {news : Led} {σ : St} (I : Inv P α news σ) {k : Nat} {x d : Addr} {mo mo' : MO} {o : Obj} (ek : α[k]? = some (x, d)) (es : σ[k]? = some mo) (hm : (d, o) ∈ news) :
    ∃ g : Obj → Led, UpdF d o news g ∧ (∀ o', Upd d o o' news (g o')) ∧ ∀ o', (∀ Φ : Addr × Obj → Prop, (∀ p, Frz α news p → Φ p) → (Φ = Frz α (g o')) → RO P α (g o') x d mo' o') →
      Inv P α (g o') (σ.set k mo') ∧ GLe [] α news α (g o') := by
  refine cps fun Xc kc => ?_
  obtain ⟨g, a1, a2, a3, a4, a5⟩ := upd_of_mem I.nn hm
  refine kc ?_; clear kc Xc
  refine ⟨g, a1, a2, fun o' hro => ?_⟩
  have fz : ∀ p, Frz α news p → Frz α (g o') p := fun p hp => ⟨(a4 o' p fun e => hp.2.1 (e ▸ mem_muts ek)).mpr hp.1, hp.2⟩
  refine ⟨⟨by simp [I.len], I.nv, I.nd, by rw [a5]; exact I.nn, fun j y c mj ej hj => ?_⟩, ⟨fun _ _ e => e, fun p hp hn _ => ⟨(a4 o' p fun e => hn (e ▸ mem_muts ek)).mpr hp, hn⟩⟩⟩
  by_cases hjk : j = k
  · subst hjk
    rw [ek] at ej
    cases ej
    have hlt : j < σ.length := (List.getElem?_eq_some_iff.mp es).1
    simp [List.getElem?_set, hlt] at hj
    subst hj
    exact ⟨o', a3 o', hro _ fz rfl⟩
  · rw [List.getElem?_set_ne (Ne.symm hjk)] at hj
    obtain ⟨oj, m1, m2⟩ := I.obj j y c mj ej hj
    refine ⟨oj, (a4 o' (c, oj) fun e => hjk (I.alne ej (e ▸ ek))).mpr m1, m2.mono (fun _ _ e => e) fz⟩

/-- an entry that is neither of the state nor frozen is replaced -/
theorem Inv.replace {P : Pg} {α : Al} {news : Led} {σ : St} (I : Inv P α news σ) {a : Addr} {o : Obj} (hm : (a, o) ∈ news) (ha : a ∉ muts α) (hi : isImm o = false) :
    ∃ g : Obj → Led, UpdF a o news g ∧ (∀ o', Upd a o o' news (g o')) ∧ ∀ o', Inv P α (g o') σ ∧ (a, o') ∈ g o' ∧ (∀ p ∈ news, p.1 ≠ a → p ∈ g o') ∧ (∀ p, Frz α news p → Frz α (g o') p) := by
  refine cps fun Xc kc => ?_
  obtain ⟨g, a1, a2, a3, a4, a5⟩ := upd_of_mem I.nn hm
  refine kc ?_; clear kc Xc
  refine ⟨g, a1, a2, fun o' => ?_⟩
  have off : ∀ p, Frz α news p → p.1 ≠ a := fun p hp e => by
    have : p.2 = o := mem_unique I.nn (show (a, p.2) ∈ news from e ▸ hp.1) hm
    have q := hp.2.2
    rw [this, hi] at q; cases q
  have fz : ∀ p, Frz α news p → Frz α (g o') p := fun p hp => ⟨(a4 o' p (off p hp)).mpr hp.1, hp.2⟩
  refine ⟨⟨I.len, I.nv, I.nd, by rw [a5]; exact I.nn, fun k x d mo e e' => ?_⟩, a3 o', fun p hp hne => (a4 o' p hne).mpr hp, fz⟩
  obtain ⟨oj, m1, m2⟩ := I.obj k x d mo e e'
  exact ⟨oj, (a4 o' (d, oj) fun q => ha (q ▸ mem_muts e)).mpr m1, m2.mono (fun _ _ e => e) fz⟩

/-- something new and frozen is laid beside -/
theorem Inv.beside {P : Pg} {α : Al} {news : Led} {σ : St} (I : Inv P α news σ) {a : Addr} {o : Obj} (ha : ∀ p ∈ news, p.1 ≠ a) : Inv P α ((a, o) :: news) σ ∧ GLe [] α news α ((a, o) :: news) := by
  have fz : ∀ p, Frz α news p → Frz α ((a, o) :: news) p := fun p hp => ⟨.tail _ hp.1, hp.2⟩
  refine ⟨⟨I.len, I.nv, I.nd, ?_, fun k x d mo e e' => ?_⟩, ⟨fun _ _ e => e, fun p hp hn _ => ⟨.tail _ hp, hn⟩⟩⟩
  · rw [List.map_cons, List.nodup_cons]
    exact ⟨fun h => by obtain ⟨p, hp, q⟩ := List.mem_map.mp h; exact ha p hp q, I.nn⟩
  · obtain ⟨oj, m1, m2⟩ := I.obj k x d mo e e'
    exact ⟨oj, .tail _ m1, m2.mono (fun _ _ e => e) fz⟩
theorem Inv.muts_in {P : Pg} {α : Al} {news : Led} {σ : St} (I : Inv P α news σ) {a : Addr} (ha : a ∈ muts α) : ∃ o, (a, o) ∈ news := by
  obtain ⟨p, hp, rfl⟩ := List.mem_map.mp ha
  obtain ⟨k, hk⟩ := List.getElem?_of_mem hp
  have hlt : k < α.length := (List.getElem?_eq_some_iff.mp hk).1
  obtain ⟨o, h, _⟩ := I.obj k p.1 p.2 (σ[k]'(I.len ▸ hlt)) hk (by simp [I.len ▸ hlt])
  exact ⟨o, h⟩
theorem Inv.vals_in {P : Pg} {α : Al} {news : Led} {σ : St} (I : Inv P α news σ) {a : Addr} (ha : a ∈ α.map (·.1)) : ∃ o, (a, o) ∈ news := by
  obtain ⟨p, hp, rfl⟩ := List.mem_map.mp ha
  obtain ⟨k, hk⟩ := List.getElem?_of_mem hp
  have hlt : k < α.length := (List.getElem?_eq_some_iff.mp hk).1
  obtain ⟨o, h, r⟩ := I.obj k p.1 p.2 (σ[k]'(I.len ▸ hlt)) hk (by simp [I.len ▸ hlt])
  generalize σ[k]'(I.len ▸ hlt) = mo at r
  cases mo with
  | list vs => rw [r.1]; exact ⟨o, h⟩
  | dict vs => rw [r.1]; exact ⟨o, h⟩
  | node n => exact ⟨_, r.1.1⟩
  | tree n => exact ⟨_, r.1.1⟩
theorem Inv.fresh_not {P : Pg} {α : Al} {news : Led} {σ : St} (I : Inv P α news σ) {a : Addr} (ha : ∀ p ∈ news, p.1 ≠ a) : a ∉ muts α := fun h => by
  obtain ⟨o, h⟩ := I.muts_in h
  exact ha _ h rfl

/-- a new object of the state (its value's address x, its changing part's address d) -/
theorem Inv.new {P : Pg} {α : Al} {news : Led} {σ : St} (I : Inv P α news σ) {x d : Addr} {o : Obj} {mo : MO} (hd : ∀ p ∈ news, p.1 ≠ d) (hx : x = d ∨ ∃ ox, (x, ox) ∈ news ∧ isCell ox = false ∧ x ∉ muts α ∧ x ∉ α.map (·.1))
    (hro : (∀ p, Frz α news p → Frz (α ++ [(x, d)]) ((d, o) :: news) p) → RO P (α ++ [(x, d)]) ((d, o) :: news) x d mo o) :
    Inv P (α ++ [(x, d)]) ((d, o) :: news) (σ ++ [mo]) ∧ GLe [] α news (α ++ [(x, d)]) ((d, o) :: news) := by
  have ap : ∀ (k : Nat) (y : Addr × Addr), α[k]? = some y → (α ++ [(x, d)])[k]? = some y := fun k y e => by
    rw [List.getElem?_append_left (List.getElem?_eq_some_iff.mp e).1]; exact e
  have mu : muts (α ++ [(x, d)]) = muts α ++ [d] := by simp [muts]
  have kp : ∀ p ∈ news, p.1 ∉ muts α → p.1 ∉ muts (α ++ [(x, d)]) := fun p hp hn h => by
    rw [mu] at h
    rcases List.mem_append.mp h with h | h
    · exact hn h
    · exact hd p hp (List.mem_singleton.mp h)
  have fz : ∀ p, Frz α news p → Frz (α ++ [(x, d)]) ((d, o) :: news) p := fun p hp => ⟨.tail _ hp.1, kp p hp.1 hp.2.1, hp.2.2⟩
  refine ⟨⟨by simp [I.len], ?_, ?_, ?_, fun k y c mk ek hk => ?_⟩, ⟨ap, fun p hp hn _ => ⟨.tail _ hp, kp p hp hn⟩⟩⟩
  · rw [List.map_append, List.nodup_append]
    refine ⟨I.nv, by simp, fun a ha b hb => ?_⟩
    rw [List.map_cons, List.map_nil, List.mem_singleton] at hb
    subst hb
    rintro rfl
    rcases hx with rfl | ⟨ox, _, _, _, q⟩
    · obtain ⟨o', h'⟩ := I.vals_in ha
      exact hd _ h' rfl
    · exact q ha
  · rw [mu, List.nodup_append]
    refine ⟨I.nd, by simp, fun a ha b hb => ?_⟩
    rw [List.mem_singleton] at hb
    subst hb
    rintro rfl
    obtain ⟨o', h'⟩ := I.muts_in ha
    exact hd _ h' rfl
  · rw [List.map_cons, List.nodup_cons]
    exact ⟨fun h => by obtain ⟨p, hp, q⟩ := List.mem_map.mp h; exact hd p hp q, I.nn⟩
  · by_cases hlt : k < α.length
    · rw [List.getElem?_append_left hlt] at ek
      rw [List.getElem?_append_left (I.len ▸ hlt)] at hk
      obtain ⟨ok, m1, m2⟩ := I.obj k y c mk ek hk
      exact ⟨ok, .tail _ m1, m2.mono ap fz⟩
    · have hk' : k = α.length := by
        have := (List.getElem?_eq_some_iff.mp ek).1
        simp at this; lia
      subst hk'
      rw [List.getElem?_append_right (Nat.le_refl _)] at ek
      rw [I.len, List.getElem?_append_right (Nat.le_refl _)] at hk
      simp at ek hk
      obtain ⟨rfl, rfl⟩ := ek
      subst hk
      exact ⟨o, .head _, hro fz⟩
structure Fm where
  A : Around
  A₀ : Around
  base : Heap
  h₀ : Heap
  outer : List Env
  cn : Str
  cs : Scope
  L : Addr
  a : Addr
  ccd : Value
  cl : List (Str × Addr)
noncomputable abbrev Fm.env (f : Fm) : Env := envX f.cn f.cs f.L f.a f.ccd f.cl

structure Fm.Ok (P : Pg) (f : Fm) (dp : Nat) : Prop where
  below : Below f.A₀ f.base f.outer f.h₀
  frames : f.A.frames = some (f.env :: f.outer)
  kin : P.K.In f.h₀
  top : Top P.p P.loose P.mean P.mg P.mb f.h₀
  handled : f.A.handled = none
  kind : f.cs.kind = .function
  depth : f.A.depth + dp < recursionLimit
  units : f.A.units + 8 * dp + 16 < cLine
theorem Fm.Ok.le {P : Pg} {f : Fm} {dp dq : Nat} (h : f.Ok P dp) (l : dq ≤ dp) : f.Ok P dq :=
  ⟨h.below, h.frames, h.kin, h.top, h.handled, h.kind, by have := h.depth; lia, by have := h.units; lia⟩

structure Fits (env : Env) : Prop where
  glob : env.globals = mainGlobals
  blt : env.builtins = builtinsNs
  kind : env.scope.kind = .function
theorem Fm.Ok.fits {P : Pg} {f : Fm} {dp : Nat} (h : f.Ok P dp) : Fits f.env := ⟨rfl, rfl, h.kind⟩

noncomputable def VarAt (env : Env) (L : Addr) (m : Str → Option Value) (α : Al) (news : Led) (x : Str) (val : Value) : Prop :=
  (env.kindOf x = some .local ∧ env.locals = L ∧ m x = some val) ∨
  (env.kindOf x = some .cell ∧ ∃ c o, env.cells.lookup x = some c ∧ (c, o) ∈ news ∧ c ∉ muts α ∧ o.data = .cell (some val)) ∨
  (env.kindOf x = some .local ∧ ∃ oC m₂, (env.locals, oC) ∈ news ∧ env.locals ∉ muts α ∧ NsObj oC m₂ ∧ m₂ x = some val)
theorem VarAt.le {env : Env} {L : Addr} {m : Str → Option Value} {α α' : Al} {news news' : Led} {x : Str} {val : Value} (h : VarAt env L m α news x val) (g : GLe [] α news α' news') : VarAt env L m α' news' x val := by
  rcases h with h | ⟨a, c, o, b, d, e, k⟩ | ⟨a, o, m₂, b, d, e, k⟩
  · exact .inl h
  · obtain ⟨u, v⟩ := g.keep _ d e (.inr (by simp))
    exact .inr (.inl ⟨a, c, o, b, u, v, k⟩)
  · obtain ⟨u, v⟩ := g.keep _ b d (.inr (by simp))
    exact .inr (.inr ⟨a, o, m₂, u, v, e, k⟩)

noncomputable def EO (env : Env) (L : Addr) (m : Str → Option Value) (α : Al) (news : Led) (names : List Str) (ρ : Rho) : Prop :=
  ∀ (i : Nat) (x : Str) (v : V), names[i]? = some x → ρ[i]? = some (some v) → ∃ val, RV α (Frz α news) v val ∧ VarAt env L m α news x val
theorem EO.le {env : Env} {L : Addr} {m : Str → Option Value} {α α' : Al} {news news' : Led} {names : List Str} {ρ : Rho} (h : EO env L m α news names ρ) (g : GLe [] α news α' news') : EO env L m α' news' names ρ :=
  fun i x v e e' => let ⟨val, a, b⟩ := h i x v e e'; ⟨val, a.le g, b.le g⟩

structure Pre (P : Pg) (f : Fm) (env : Env) (names : List Str) (ρ : Rho) (σ : St) (m : Str → Option Value) (news : Led) (α : Al) (h : Heap) : Prop where
  F : Fr f.h₀ f.L h m
  N : News f.h₀ f.L h news
  I : Inv P α news σ
  E : EO env f.L m α news names ρ
theorem Pre.to {P : Pg} {f : Fm} {env : Env} {names : List Str} {ρ : Rho} {σ σ' : St} {m : Str → Option Value} {news news' : Led} {α α' : Al} {h h' : Heap} (p : Pre P f env names ρ σ m news α h)
    (F : Fr f.h₀ f.L h' m) (N : News f.h₀ f.L h' news') (I : Inv P α' news' σ') (G : GLe [] α news α' news') : Pre P f env names ρ σ' m news' α' h' := ⟨F, N, I, p.E.le G⟩
theorem Pre.toks {P : Pg} {f : Fm} {env : Env} {names : List Str} {ρ : Rho} {σ : St} {m : Str → Option Value} {news : Led} {α : Al} {h : Heap} (p : Pre P f env names ρ σ m news α h) : True := trivial

noncomputable abbrev DE := Rho → St → Option (V × St)
noncomputable abbrev DL := Rho → St → Option (List V × St)

noncomputable def Post (P : Pg) (f : Fm) (m : Str → Option Value) (α : Al) (news : Led) (σ' : St) (v : V) (Q : Value → Shared → Prop) (s : Shared) : Prop :=
  ∀ h' tk news' α' val, Fr f.h₀ f.L h' m → News f.h₀ f.L h' news' → Inv P α' news' σ' → GLe [] α news α' news' → RV α' (Frz α' news') v val → Q val { s with heap := h', toks := tk }
noncomputable def PostL (P : Pg) (f : Fm) (m : Str → Option Value) (α : Al) (news : Led) (σ' : St) (vs : List V) (Q : List Value → Shared → Prop) (s : Shared) : Prop :=
  ∀ h' tk news' α' vals, Fr f.h₀ f.L h' m → News f.h₀ f.L h' news' → Inv P α' news' σ' → GLe [] α news α' news' → RVs α' (Frz α' news') vs vals → Q vals { s with heap := h', toks := tk }
noncomputable def PostB (P : Pg) (f : Fm) (m : Str → Option Value) (α : Al) (news : Led) (σ' : St) (b : Bool) (Q : Bool → Shared → Prop) (s : Shared) : Prop :=
  ∀ h' tk news' α', Fr f.h₀ f.L h' m → News f.h₀ f.L h' news' → Inv P α' news' σ' → GLe [] α news α' news' → Q b { s with heap := h', toks := tk }

noncomputable abbrev Ks := List (Str × NameKind)
noncomputable def SE (P : Pg) (dp : Nat) (ks : Ks) (names : List Str) (e : Expr) (d : DE) : Prop :=
  ∀ (f : Fm) (env : Env), f.Ok P dp → Fits env → env.scope.names = ks → ∀ ρ σ v σ', d ρ σ = some (v, σ') → ∀ m news α (s : Shared) (Q : Value → Shared → Prop), Pre P f env names ρ σ m news α s.heap →
    Post P f m α news σ' v Q s → wpAny (model P.prog P.w) f.A (eval e env) Q (fun _ _ => False) s
noncomputable def SL (P : Pg) (dp : Nat) (ks : Ks) (names : List Str) (es : List Expr) (d : DL) : Prop :=
  ∀ (f : Fm) (env : Env), f.Ok P dp → Fits env → env.scope.names = ks → ∀ ρ σ v σ', d ρ σ = some (v, σ') → ∀ m news α (s : Shared) (pos : Pos) (Q : List Value → Shared → Prop), Pre P f env names ρ σ m news α s.heap →
    PostL P f m α news σ' v Q s → wpAny (model P.prog P.w) f.A (spliced (backTo pos (starEach es env))) Q (fun _ _ => False) s
noncomputable def ST (P : Pg) (dp : Nat) (ks : Ks) (names : List Str) (e : Expr) (d : DE) : Prop :=
  ∀ (f : Fm) (env : Env), f.Ok P dp → Fits env → env.scope.names = ks → ∀ ρ σ b σ', d ρ σ = some (.bool b, σ') → ∀ m news α (s : Shared) (Q : Bool → Shared → Prop), Pre P f env names ρ σ m news α s.heap →
    PostB P f m α news σ' b Q s → wpAny (model P.prog P.w) f.A (isTrue e env (eval e env)) Q (fun _ _ => False) s

noncomputable def SF (P : Pg) (dp : Nat) (c : Value) (g : List V → St → Option (V × St)) : Prop :=
  ∀ (f : Fm), f.Ok P dp → ∀ vs σ v σ', g vs σ = some (v, σ') → ∀ m news α (s : Shared) (Q : Value → Shared → Prop) vals, Fr f.h₀ f.L s.heap m → News f.h₀ f.L s.heap news → Inv P α news σ → RVs α (Frz α news) vs vals →
    Post P f m α news σ' v Q s → wpAny (model P.prog P.w) f.A (call c vals) Q (fun _ _ => False) s

section
variable {P : Pg} {dp : Nat} {ks : Ks} {names : List Str}

/-! ### leaves -/
noncomputable def dVar (i : Nat) : DE := fun ρ σ => (ρ[i]?.bind id).map fun v => (v, σ)
theorem se_var {x : Str} {pos : Pos} (i : Nat) (hx : names[i]? = some x) (hd : (x == ("__debug__" : Str)) = false) : SE P dp ks names (.Name x pos) (dVar i) := by
  intro f env ok fit hks ρ σ v σ' hv m news α s Q pre post
  have hr : ρ[i]? = some (some v) ∧ σ = σ' := by
    unfold dVar at hv
    cases hq : ρ[i]? with
    | none => rw [hq] at hv; cases hv
    | some o => cases o with
      | none => rw [hq] at hv; cases hv
      | some u => rw [hq] at hv; cases hv; exact ⟨rfl, rfl⟩
  obtain ⟨hr, rfl⟩ := hr
  obtain ⟨val, rv, va⟩ := pre.E i x v hx hr
  have done := post s.heap s.toks news α val pre.F pre.N pre.I .refl rv
  rcases va with ⟨a, b, c⟩ | ⟨a, c, o, b, d, e, k⟩ | ⟨a, o, m₂, b, d, e, k⟩
  · exact wpAny_Name (wpAny_loadName_local fit.kind a (b ▸ pre.F.ns) c done) hd
  · exact wpAny_Name (wpAny_loadName_cell fit.kind a b ⟨o, (pre.N _ d).1, k⟩ done) hd
  · exact wpAny_Name (wpAny_loadName_local fit.kind a (e.ns (pre.N _ b).1) k done) hd

noncomputable def dNone : DE := fun _ σ => some (.none, σ)
noncomputable def dBool (b : Bool) : DE := fun _ σ => some (.bool b, σ)
noncomputable def dInt (i : Int) : DE := fun _ σ => some (.int i, σ)
noncomputable def dStr (x : Str) : DE := fun _ σ => some (.str x, σ)
theorem se_none {k : Nat} {pos : Pos} : SE P dp ks names (.Constant .none k pos) dNone := by
  intro f env ok fit hks ρ σ v σ' hv m news α s Q pre post
  cases hv
  exact Constant_none (post s.heap s.toks news α _ pre.F pre.N pre.I .refl .none)
theorem se_bool {b : Bool} {k : Nat} {pos : Pos} : SE P dp ks names (.Constant (.bool b) k pos) (dBool b) := by
  intro f env ok fit hks ρ σ v σ' hv m news α s Q pre post
  cases hv
  exact Constant_bool (post s.heap s.toks news α _ pre.F pre.N pre.I .refl (.bool b))
theorem se_int {i : Int} {k : Nat} {pos : Pos} : SE P dp ks names (.Constant (.int i) k pos) (dInt i) := by
  intro f env ok fit hks ρ σ v σ' hv m news α s Q pre post
  cases hv
  exact wpAny_Constant_int (post s.heap (s.toks + 1) news α _ pre.F pre.N pre.I .refl (.int i _))
theorem se_str {x : Str} {k : Nat} {pos : Pos} : SE P dp ks names (.Constant (.str x) k pos) (dStr x) := by
  intro f env ok fit hks ρ σ v σ' hv m news α s Q pre post
  cases hv
  exact Constant_str (post s.heap (s.toks + 1) news α _ pre.F pre.N pre.I .refl (.str x _))

/-! ### arithmetic, comparisons -/
inductive Bop where
  | add | sub | mul | fdiv | mod
noncomputable def Bop.op : Bop → Operator
  | .add => .Add
  | .sub => .Sub
  | .mul => .Mult
  | .fdiv => .FloorDiv
  | .mod => .Mod
noncomputable def Bop.ev : Bop → Int → Int → Option Int
  | .add, a, b => some (a + b)
  | .sub, a, b => some (a - b)
  | .mul, a, b => if -(2 ^ 63) < a ∧ a < 2 ^ 63 then some (a * b) else Option.none
  | .fdiv, a, b => if b ≠ 0 ∧ b.natAbs < 1073741824 then some (a.fdiv b) else Option.none
  | .mod, a, b => if b ≠ 0 then some (a.fmod b) else Option.none
noncomputable def dBin (o : Bop) (a b : DE) : DE := fun ρ σ => (a ρ σ).bind fun r => (b ρ r.2).bind fun u => r.1.toInt.bind fun i => u.1.toInt.bind fun j => (o.ev i j).map fun k => (.int k, u.2)
theorem bop_sound {o : Bop} {i j k : Int} (h : o.ev i j = some k) {A : Around} (hA : A.handled = none) {s : Shared} {t u : Tok} {prog : Program} {w : World} {Q : Value → Shared → Prop}
    (hq : Q (.int k s.toks) { s with toks := s.toks + 1 }) : wpAny (model prog w) A (binaryOp o.op (.int i t) (.int j u)) Q (fun _ _ => False) s := by
  cases o with
  | add => cases h; exact add_int hq
  | sub => cases h; exact sub_int hq
  | mul =>
    simp only [Bop.ev] at h
    split at h
    · rename_i hb
      cases h
      exact mul_int hq (IntMulOk.of_left (intBits_le_64 (by lia) (by lia)))
    · cases h
  | fdiv =>
    simp only [Bop.ev] at h
    split at h
    · rename_i hb
      cases h
      exact floordiv_int_or hA (fun e => absurd e hb.1) (fun _ => hq) (fun _ => .inl (PyProof.noPylong_small hb.2))
    · cases h
  | mod =>
    simp only [Bop.ev] at h
    split at h
    · rename_i hb
      cases h
      exact mod_int_or hA (fun e => absurd e hb) (fun _ => hq)
    · cases h
theorem se_bin {o : Bop} {l r : Expr} {pos : Pos} {a b : DE} (ha : SE P dp ks names l a) (hb : SE P dp ks names r b) : SE P dp ks names (.BinOp l o.op r pos) (dBin o a b) := by
  intro f env ok fit hks ρ σ v σ' hv m news α s Q pre post
  simp only [dBin, Option.bind_eq_some_iff, Option.map_eq_some_iff] at hv
  refine cps fun Xc kc => ?_
  obtain ⟨⟨v1, σ1⟩, h1, ⟨v2, σ2⟩, h2, i, hi, j, hj, k, hk, e⟩ := hv
  refine kc ?_; clear kc Xc
  cases e
  dsimp only at h2 hi hj
  obtain rfl := toInt_int hi
  obtain rfl := toInt_int hj
  refine wpAny_BinOp (ha f env ok fit hks ρ σ _ _ h1 m news α s _ pre ?_)
  intro h' tk news' α' val F' N' I' G' R'
  refine hb f env ok fit hks ρ σ1 _ _ h2 m news' α' _ _ (pre.to F' N' I' G') ?_
  intro h'' tk' news'' α'' val' F'' N'' I'' G'' R''
  cases R'
  cases R''
  exact bop_sound hk ok.handled (post _ _ _ _ _ F'' N'' I'' (G'.trans G'') (.int _ _))

inductive Cop where
  | eq | ne | lt | le | gt | ge
noncomputable def Cop.op : Cop → CmpOp
  | .eq => .Eq
  | .ne => .NotEq
  | .lt => .Lt
  | .le => .LtE
  | .gt => .Gt
  | .ge => .GtE
noncomputable def Cop.ev : Cop → Int → Int → Bool
  | .eq, a, b => a == b
  | .ne, a, b => a != b
  | .lt, a, b => decide (a < b)
  | .le, a, b => decide (a ≤ b)
  | .gt, a, b => decide (a > b)
  | .ge, a, b => decide (a ≥ b)
theorem cop_sound (o : Cop) (i j : Int) {A : Around} {s : Shared} {t u : Tok} {prog : Program} {w : World} {E : Value → Shared → Prop} {Q : Value → Shared → Prop}
    (hq : Q (.bool (o.ev i j)) s) : wpAny (model prog w) A (compareOp o.op (.int i t) (.int j u)) Q E s := by
  cases o with
  | eq => exact eq_int hq
  | ne => exact ne_int hq
  | lt => exact lt_int hq
  | le => exact le_int hq
  | gt => exact gt_int hq
  | ge => exact ge_int hq
noncomputable def dCmp (o : Cop) (a b : DE) : DE := fun ρ σ => (a ρ σ).bind fun r => (b ρ r.2).bind fun u => r.1.toInt.bind fun i => u.1.toInt.map fun j => (.bool (o.ev i j), u.2)

/-- a comparison of two values, from the rule for its operator -/
noncomputable def CmpOk (P : Pg) (op : CmpOp) (c : V → V → Option Bool) : Prop :=
  ∀ v1 v2 b, c v1 v2 = some b → ∀ (f : Fm) m news α σ (s : Shared) (Q : Value → Shared → Prop) val1 val2 dp, f.Ok P dp → Fr f.h₀ f.L s.heap m → News f.h₀ f.L s.heap news → Inv P α news σ → RV α (Frz α news) v1 val1 → RV α (Frz α news) v2 val2 →
    Q (.bool b) s → wpAny (model P.prog P.w) f.A (compareOp op val1 val2) Q (fun _ _ => False) s
noncomputable def dCm (c : V → V → Option Bool) (a b : DE) : DE := fun ρ σ => (a ρ σ).bind fun r => (b ρ r.2).bind fun u => (c r.1 u.1).map fun x => (.bool x, u.2)
theorem se_cm {op : CmpOp} {c : V → V → Option Bool} (hc : CmpOk P op c) {l r : Expr} {pos : Pos} {a b : DE} (hm : behindInMarks op r = false) (ha : SE P dp ks names l a) (hb : SE P dp ks names r b) :
    SE P dp ks names (.Compare l [op] [r] pos) (dCm c a b) := by
  intro f env ok fit hks ρ σ v σ' hv m news α s Q pre post
  simp only [dCm, Option.bind_eq_some_iff, Option.map_eq_some_iff] at hv
  refine cps fun Xc kc => ?_
  obtain ⟨⟨v1, σ1⟩, h1, ⟨v2, σ2⟩, h2, x, hx, e⟩ := hv
  refine kc ?_; clear kc Xc
  cases e
  refine wpAny_Compare1 (ha f env ok fit hks ρ σ _ _ h1 m news α s _ pre ?_) hm
  intro h' tk news' α' val F' N' I' G' R'
  refine hb f env ok fit hks ρ σ1 _ _ h2 m news' α' _ _ (pre.to F' N' I' G') ?_
  intro h'' tk' news'' α'' val' F'' N'' I'' G'' R''
  exact hc _ _ _ hx f m news'' α'' σ2 _ _ _ _ _ ok F'' N'' I'' (R'.le G'') R'' (post _ _ _ _ _ F'' N'' I'' (G'.trans G'') (.bool _))
theorem st_cm {op : CmpOp} {c : V → V → Option Bool} (hc : CmpOk P op c) {l r : Expr} {pos : Pos} {a b : DE} (hm : behindInMarks op r = false) (ha : SE P dp ks names l a) (hb : SE P dp ks names r b) :
    ST P dp ks names (.Compare l [op] [r] pos) (dCm c a b) := by
  intro f env ok fit hks ρ σ v σ' hv m news α s Q pre post
  simp only [dCm, Option.bind_eq_some_iff, Option.map_eq_some_iff] at hv
  refine cps fun Xc kc => ?_
  obtain ⟨⟨v1, σ1⟩, h1, ⟨v2, σ2⟩, h2, x, hx, e⟩ := hv
  refine kc ?_; clear kc Xc
  cases e
  refine wpAny_isTrue_Compare1 (ha f env ok fit hks ρ σ _ _ h1 m news α s _ pre ?_) hm
  intro h' tk news' α' val F' N' I' G' R'
  refine hb f env ok fit hks ρ σ1 _ _ h2 m news' α' _ _ (pre.to F' N' I' G') ?_
  intro h'' tk' news'' α'' val' F'' N'' I'' G'' R''
  exact hc _ _ _ hx f m news'' α'' σ2 _ _ _ _ _ ok F'' N'' I'' (R'.le G'') R'' (wpAny_truthy_bool (post _ _ _ _ F'' N'' I'' (G'.trans G'')))

noncomputable def cInt (o : Cop) (v1 v2 : V) : Option Bool := v1.toInt.bind fun i => v2.toInt.map fun j => o.ev i j
theorem cInt_ok (o : Cop) : CmpOk P o.op (cInt o) := by
  intro v1 v2 b h f m news α σ s Q val1 val2 dp ok F N I R1 R2 q
  obtain ⟨i, h1, h⟩ := Option.bind_eq_some_iff.mp h
  obtain ⟨j, h2, rfl⟩ := Option.map_eq_some_iff.mp h
  obtain rfl := toInt_int h1
  obtain rfl := toInt_int h2
  cases R1; cases R2
  exact cop_sound o _ _ q
noncomputable def cIs (v1 : V) : V → Option Bool
  | .none => match v1 with
    | .none => some true
    | .ref _ | .str _ => some false
    | _ => Option.none
  | .ref k => v1.toOpt.map fun o => match o with
    | Option.none => false
    | some j => j == k
  | _ => Option.none
theorem isSame_none_ref {x : Addr} {M : Model} {A : Around} {E : Value → Shared → Prop} {s : Shared} {Q : Bool → Shared → Prop} (h : Q false s) : wpAny M A (isSame .none (.ref x)) Q E s := wpAny_pure h
theorem RV.valObj {α : Al} {news : Led} {σ : St} (I : Inv P α news σ) {k : Nat} {x d : Addr} (e : α[k]? = some (x, d)) : ∃ o, (x, o) ∈ news ∧ o.cls ≠ .type "tuple" := by
  have hlt : k < α.length := (List.getElem?_eq_some_iff.mp e).1
  obtain ⟨o, h, r⟩ := I.obj k x d (σ[k]'(I.len ▸ hlt)) e (by simp [I.len ▸ hlt])
  generalize σ[k]'(I.len ▸ hlt) = mo at r
  cases mo with
  | list vs => obtain ⟨rfl, _, _, _, rfl, _⟩ := r; exact ⟨_, h, by simp⟩
  | dict vs => obtain ⟨rfl, _, _, _, ⟨es, ep, he, _⟩, _⟩ := r; exact ⟨_, h, by rw [he.1]; simp⟩
  | node n => exact ⟨_, r.1.1, by simp⟩
  | tree n => exact ⟨_, r.1.1, by simp⟩
theorem cIs_same {v1 v2 : V} {b : Bool} (h : cIs v1 v2 = some b) {f : Fm} {news : Led} {α : Al} {σ : St} {s : Shared} {Q : Bool → Shared → Prop} {val1 val2 : Value} (N : News f.h₀ f.L s.heap news) (I : Inv P α news σ)
    (R1 : RV α (Frz α news) v1 val1) (R2 : RV α (Frz α news) v2 val2) {M : Model} {A : Around} {E : Value → Shared → Prop} (q : Q b s) : wpAny M A (isSame val1 val2) Q E s := by
  cases v2 <;> first | cases h | skip
  · cases R2
    cases v1 <;> first | cases h | skip
    · cases R1; exact wpAny_pure q
    · cases R1; exact wpAny_pure q
    · cases R1; exact wpAny_pure q
  · rename_i k
    obtain ⟨o, h1, rfl⟩ := Option.map_eq_some_iff.mp h
    obtain rfl := opt_toOpt h1
    clear h h1
    cases o with
    | none => cases R1; cases R2; exact isSame_none_ref q
    | some j =>
    replace q : Q (j == k) s := q
    cases R1 with | ref _ x d e =>
    cases R2 with | ref _ y c e' =>
    by_cases hxy : x = y
    · subst hxy
      obtain rfl := I.valne e e'
      rw [show (j == j) = true by simp] at q
      exact PySem.wpAny_isSame_ref_self q
    · have hjk : (j == k) = false := by
        rw [beq_eq_false_iff_ne]
        rintro rfl
        rw [e] at e'
        exact hxy (congrArg Prod.fst (Option.some.inj e'))
      rw [hjk] at q
      obtain ⟨ox, hx, cx⟩ := RV.valObj I e
      obtain ⟨oy, hy, cy⟩ := RV.valObj I e'
      exact PySem.wpAny_isSame_ref_other hxy (N _ hx).1 (N _ hy).1 cx q
theorem cIs_ok : CmpOk P .Is cIs := by
  intro v1 v2 b h f m news α σ s Q val1 val2 dp ok F N I R1 R2 q
  show wpAny _ _ (do return Value.bool (← isSame val1 val2)) _ _ _
  exact wpAny_bind (cIs_same h N I R1 R2 (wpAny_pure q))
noncomputable def cIsNot (v1 v2 : V) : Option Bool := (cIs v1 v2).map (!·)
theorem cIsNot_ok : CmpOk P .IsNot cIsNot := by
  intro v1 v2 b h f m news α σ s Q val1 val2 dp ok F N I R1 R2 q
  obtain ⟨c, h1, rfl⟩ := Option.map_eq_some_iff.mp h
  show wpAny _ _ (do return Value.bool (!(← isSame val1 val2))) _ _ _
  exact wpAny_bind (cIs_same h1 N I R1 R2 (wpAny_pure q))
end
noncomputable def flds : List Fld := [.number, .begin_, .end_, .front, .rear, .limit, .offset, .red, .left, .right, .parent, .root, .count]
noncomputable def fldNames : List Str := flds.map Fld.name
theorem fld_mem (f : Fld) : f.name ∈ fldNames := by
  refine List.mem_map_of_mem ?_
  unfold flds
  cases f <;> repeat (first | exact .head _ | refine .tail _ ?_)
noncomputable def V.hand : V → Bool
  | .none | .ref _ | .bool _ | .int _ => true
  | _ => false
theorem hand_opt (o : Option Nat) : (V.opt o).hand = true := by cases o <;> rfl
theorem getF_hand (mo : MO) (f : Fld) : (getF mo f).all V.hand = true := by
  cases mo <;> first | rfl | (cases f <;> first | rfl | exact hand_opt _)
theorem hand_in {v : V} {u : Value} {α : Al} {Φ : Addr × Obj → Prop} (h : v.hand = true) (hu : RV α Φ v u) : handedIn u = true := by
  cases hu <;> first | rfl | cases h
noncomputable def clsChk (K : Frag) (C : Addr) : Bool :=
  plainGet K C Str.empty && hasDictIn K C && plainOver K C && (findIn K (.ref C) "__setattr__" == some (some (.builtin "object.__setattr__"))) && fldNames.all fun n => findIn K (.ref C) n == some none
structure Pg.Ok (P : Pg) : Prop where
  cn : clsChk P.K P.Cn = true
  ct : clsChk P.K P.Ct = true

section
variable {P : Pg} {dp : Nat} {ks : Ks} {names : List Str}

theorem getAttr_sound (PO : P.Ok) {f : Fm} (ok : f.Ok P dp) {α : Al} {news : Led} {σ : St} {m : Str → Option Value} {s : Shared} {Q : Value → Shared → Prop} (F : Fr f.h₀ f.L s.heap m) (N : News f.h₀ f.L s.heap news) (I : Inv P α news σ)
    {k : Nat} {mo : MO} {fl : Fld} {v : V} {val : Value} (hk : σ[k]? = some mo) (hf : getF mo fl = some v) (R : RV α (Frz α news) (.ref k) val) {expr : Bool}
    (h : ∀ u tk, RV α (Frz α news) v u → Q u { s with toks := tk }) : wpAny (model P.prog P.w) f.A (getAttr val fl.name expr) Q (fun _ _ => False) s := by
  refine cps fun Xc kc => ?_
  obtain ⟨x, d, o, e1, e2, ro⟩ := I.at hk
  refine kc ?_; clear kc Xc
  cases R with | ref _ y c e =>
  rw [e1] at e
  cases e
  have hv : ∀ u, RV α (Frz α news) v u → handedIn u = true := fun u hu => hand_in (by have := getF_hand mo fl; rwa [hf] at this) hu
  cases mo with
  | list vs => cases hf
  | dict vs => cases hf
  | node n =>
    refine cps fun Xc kc => ?_
    obtain ⟨fz, es, j, eq1, re⟩ := ro
    refine kc ?_; clear kc Xc; subst eq1
    obtain ⟨u, gl, ru⟩ := re.get (lookF_node hf)
    have chk := PO.cn
    simp only [clsChk, Bool.and_eq_true] at chk
    refine cps fun Xc kc => ?_
    obtain ⟨⟨⟨⟨c1, c2⟩, c3⟩, c4⟩, c5⟩ := chk
    refine kc ?_; clear kc Xc
    exact get_own F ok.kin (InstAt.of_news N fz.1 e2) c1 c2 (beq_iff_eq.mp (List.all_eq_true.mp c5 _ (fld_mem fl))) rfl gl (hv _ ru) (h _ _ ru)
  | tree n =>
    refine cps fun Xc kc => ?_
    obtain ⟨fz, es, j, eq1, re⟩ := ro
    refine kc ?_; clear kc Xc; subst eq1
    obtain ⟨u, gl, ru⟩ := re.get (lookF_tree hf)
    have chk := PO.ct
    simp only [clsChk, Bool.and_eq_true] at chk
    refine cps fun Xc kc => ?_
    obtain ⟨⟨⟨⟨c1, c2⟩, c3⟩, c4⟩, c5⟩ := chk
    refine kc ?_; clear kc Xc
    exact get_own F ok.kin (InstAt.of_news N fz.1 e2) c1 c2 (beq_iff_eq.mp (List.all_eq_true.mp c5 _ (fld_mem fl))) rfl gl (hv _ ru) (h _ _ ru)

theorem setAttr_sound (PO : P.Ok) {f : Fm} (ok : f.Ok P dp) {α : Al} {news : Led} {σ : St} {m : Str → Option Value} {s : Shared} {Q : Unit → Shared → Prop} (F : Fr f.h₀ f.L s.heap m) (N : News f.h₀ f.L s.heap news) (I : Inv P α news σ)
    {k : Nat} {mo mo' : MO} {fl : Fld} {v : V} {val u : Value} (hk : σ[k]? = some mo) (hf : setF mo fl v = some mo') (R : RV α (Frz α news) (.ref k) val) (RU : RV α (Frz α news) v u)
    (h : ∀ h' tk news', Fr f.h₀ f.L h' m → News f.h₀ f.L h' news' → Inv P α news' (σ.set k mo') → GLe [] α news α news' → Q () { s with heap := h', toks := tk }) :
    wpAny (model P.prog P.w) f.A (setAttr val fl.name u) Q (fun _ _ => False) s := by
  refine cps fun Xc kc => ?_
  obtain ⟨x, d, o, e1, e2, ro⟩ := I.at hk
  refine kc ?_; clear kc Xc
  cases R with | ref _ y c e =>
  rw [e1] at e
  cases e
  refine cps fun Xc kc => ?_
  obtain ⟨g, U1, U2, fin⟩ := I.update (mo' := mo') e1 hk e2
  refine kc ?_; clear kc Xc
  cases mo with
  | list vs => cases hf
  | dict vs => cases hf
  | node n =>
    refine cps fun Xc kc => ?_
    obtain ⟨fz, es, j, eq1, re⟩ := ro
    refine kc ?_; clear kc Xc; subst eq1
    obtain ⟨n', hn', rfl⟩ := Option.map_eq_some_iff.mp hf
    obtain ⟨e3, v₀, e4⟩ := updF_node hn'
    have chk := PO.cn
    simp only [clsChk, Bool.and_eq_true] at chk
    refine cps fun Xc kc => ?_
    obtain ⟨⟨⟨⟨c1, c2⟩, c3⟩, c4⟩, c5⟩ := chk
    refine kc ?_; clear kc Xc
    obtain ⟨u₀, gl, _⟩ := re.get (lookF_node e4)
    have pu := re.put (hsh := PyData.keyHash P.w.params fl.name) (key := .str fl.name (s.toks + 1)) RU (lookF_node e4)
    have ln := pu.1.length
    refine set_dict F ok.kin N (InstAt.of_news N fz.1 e2) rfl (beq_iff_eq.mp c4) c3 ?_ c2 (by rw [gl]; rfl) rfl (U2 _) (by rw [ln, ← e3]; show 11 ≤ 1000; lia) fun h' F' N' => ?_
    · unfold takerIn
      rw [beq_iff_eq.mp (List.all_eq_true.mp c5 _ (fld_mem fl))]; rfl
    · obtain ⟨I', G'⟩ := fin _ (fun Φ hΦ eΦ => ⟨eΦ ▸ hΦ _ fz, _, _, rfl, by rw [e3]; exact pu.1.mono (fun _ _ e => e) (eΦ ▸ hΦ)⟩)
      exact h _ _ _ F' N' I' G'
  | tree n =>
    refine cps fun Xc kc => ?_
    obtain ⟨fz, es, j, eq1, re⟩ := ro
    refine kc ?_; clear kc Xc; subst eq1
    obtain ⟨n', hn', rfl⟩ := Option.map_eq_some_iff.mp hf
    obtain ⟨e3, v₀, e4⟩ := updF_tree hn'
    have chk := PO.ct
    simp only [clsChk, Bool.and_eq_true] at chk
    refine cps fun Xc kc => ?_
    obtain ⟨⟨⟨⟨c1, c2⟩, c3⟩, c4⟩, c5⟩ := chk
    refine kc ?_; clear kc Xc
    obtain ⟨u₀, gl, _⟩ := re.get (lookF_tree e4)
    have pu := re.put (hsh := PyData.keyHash P.w.params fl.name) (key := .str fl.name (s.toks + 1)) RU (lookF_tree e4)
    have ln := pu.1.length
    refine set_dict F ok.kin N (InstAt.of_news N fz.1 e2) rfl (beq_iff_eq.mp c4) c3 ?_ c2 (by rw [gl]; rfl) rfl (U2 _) (by rw [ln, ← e3]; show 2 ≤ 1000; lia) fun h' F' N' => ?_
    · unfold takerIn
      rw [beq_iff_eq.mp (List.all_eq_true.mp c5 _ (fld_mem fl))]; rfl
    · obtain ⟨I', G'⟩ := fin _ (fun Φ hΦ eΦ => ⟨eΦ ▸ hΦ _ fz, _, _, rfl, by rw [e3]; exact pu.1.mono (fun _ _ e => e) (eΦ ▸ hΦ)⟩)
      exact h _ _ _ F' N' I' G'

noncomputable def V.toRef : V → Option Nat
  | .ref k => some k
  | _ => Option.none
theorem toRef_ref {v : V} {o : Nat} (h : v.toRef = some o) : v = .ref o := by
  cases v <;> cases h <;> rfl
noncomputable def dAttr (fl : Fld) (a : DE) : DE := fun ρ σ => (a ρ σ).bind fun r => r.1.toRef.bind fun k => r.2[k]?.bind fun mo => (getF mo fl).map fun v => (v, r.2)
theorem se_attr (PO : P.Ok) {fl : Fld} {e : Expr} {pos : Pos} {a : DE} {nm : Str} (hn : nm = fl.name) (ha : SE P dp ks names e a)
    (he : ∀ env, eval (.Attribute e nm pos) env = (do
      let o ← eval e env
      standAt pos.atName
      let r ← holding [o] (getAttr o nm true)
      letTemporaryGo e o r
      pure r)) : SE P dp ks names (.Attribute e nm pos) (dAttr fl a) := by
  subst hn
  intro f env ok fit hks ρ σ v σ' hv m news α s Q pre post
  simp only [dAttr, Option.bind_eq_some_iff, Option.map_eq_some_iff] at hv
  refine cps fun Xc kc => ?_
  obtain ⟨⟨v1, σ1⟩, h1, k, hk, mo, hmo, u, hu, e⟩ := hv
  refine kc ?_; clear kc Xc
  cases e
  dsimp only at hk hmo
  obtain rfl := toRef_ref hk
  refine Attribute_any_ (ha f env ok fit hks ρ σ _ _ h1 m news α s _ pre ?_) (he env)
  intro h' tk news' α' val F' N' I' G' R'
  exact getAttr_sound PO ok F' N' I' hmo hu R' fun w tk' rw => post _ _ _ _ _ F' N' I' G' rw

/-! ### truth -/
theorem st_of_se {e : Expr} {a : DE} (ha : SE P dp ks names e a) (he : ∀ env whole, isTrue e env whole = (do let v ← whole; standAt e.pos; holding [v] (truthy v))) : ST P dp ks names e a := by
  intro f env ok fit hks ρ σ b σ' hv m news α s Q pre post
  refine isTrue_plain (ha f env ok fit hks ρ σ _ _ hv m news α s _ pre ?_) (he _ _)
  intro h' tk news' α' val F' N' I' G' R'
  cases R'
  exact wpAny_truthy_bool (post _ _ _ _ F' N' I' G')
noncomputable def dNot (a : DE) : DE := fun ρ σ => (a ρ σ).bind fun r => r.1.toBool.map fun b => (.bool (!b), r.2)
theorem se_not {e : Expr} {pos : Pos} {a : DE} (ha : SE P dp ks names e a) : SE P dp ks names (.UnaryOp .Not e pos) (dNot a) := by
  intro f env ok fit hks ρ σ v σ' hv m news α s Q pre post
  simp only [dNot, Option.bind_eq_some_iff, Option.map_eq_some_iff] at hv
  refine cps fun Xc kc => ?_
  obtain ⟨⟨v1, σ1⟩, h1, b, hb, e⟩ := hv
  refine kc ?_; clear kc Xc
  cases e
  obtain rfl := toBool_bool hb
  refine UnaryOp_ (ha f env ok fit hks ρ σ _ _ h1 m news α s _ pre ?_)
  intro h' tk news' α' val F' N' I' G' R'
  cases R'
  exact not_of (wpAny_truthy_bool (post _ _ _ _ _ F' N' I' G' (.bool _)))
theorem st_not {e : Expr} {pos : Pos} {a : DE} (ha : ST P dp ks names e a) : ST P dp ks names (.UnaryOp .Not e pos) (dNot a) := by
  intro f env ok fit hks ρ σ v σ' hv m news α s Q pre post
  simp only [dNot, Option.bind_eq_some_iff, Option.map_eq_some_iff] at hv
  refine cps fun Xc kc => ?_
  obtain ⟨⟨v1, σ1⟩, h1, b, hb, e⟩ := hv
  refine kc ?_; clear kc Xc
  cases e
  obtain rfl := toBool_bool hb
  refine isTrue_not (ha f env ok fit hks ρ σ _ _ h1 m news α s _ pre ?_)
  intro h' tk news' α' F' N' I' G'
  exact post _ _ _ _ F' N' I' G'
noncomputable def dAnd (a b : DE) : DE := fun ρ σ => (a ρ σ).bind fun r => r.1.toBool.bind fun x => if x then (b ρ r.2).bind fun u => u.1.toBool.map fun y => (.bool y, u.2) else some (.bool false, r.2)
noncomputable def dOr (a b : DE) : DE := fun ρ σ => (a ρ σ).bind fun r => r.1.toBool.bind fun x => if x then some (.bool true, r.2) else (b ρ r.2).bind fun u => u.1.toBool.map fun y => (.bool y, u.2)
theorem se_and {l r : Expr} {pos : Pos} {a b : DE} (ha : SE P dp ks names l a) (hb : SE P dp ks names r b) : SE P dp ks names (.BoolOp .And [l, r] pos) (dAnd a b) := by
  intro f env ok fit hks ρ σ v σ' hv m news α s Q pre post
  simp only [dAnd, Option.bind_eq_some_iff, Option.map_eq_some_iff] at hv
  refine cps fun Xc kc => ?_
  obtain ⟨⟨v1, σ1⟩, h1, x, hx, hv⟩ := hv
  refine kc ?_; clear kc Xc
  obtain rfl := toBool_bool hx
  refine BoolOp_and (ha f env ok fit hks ρ σ _ _ h1 m news α s _ pre ?_)
  intro h' tk news' α' val F' N' I' G' R'
  cases R'
  refine wpAny_truthy_bool ?_
  cases x with
  | false =>
    simp only [Bool.false_eq_true, if_false] at hv ⊢
    cases hv
    exact post _ _ _ _ _ F' N' I' G' (.bool _)
  | true =>
    simp only [if_true, Option.bind_eq_some_iff, Option.map_eq_some_iff] at hv ⊢
    refine cps fun Xc kc => ?_
    obtain ⟨⟨v2, σ2⟩, h2, y, hy, e⟩ := hv
    refine kc ?_; clear kc Xc
    cases e
    obtain rfl := toBool_bool hy
    refine BoolOp_one (hb f env ok fit hks ρ σ1 _ _ h2 m news' α' _ _ (pre.to F' N' I' G') ?_)
    intro h'' tk' news'' α'' val' F'' N'' I'' G'' R''
    exact post _ _ _ _ _ F'' N'' I'' (G'.trans G'') R''
theorem se_or {l r : Expr} {pos : Pos} {a b : DE} (ha : SE P dp ks names l a) (hb : SE P dp ks names r b) : SE P dp ks names (.BoolOp .Or [l, r] pos) (dOr a b) := by
  intro f env ok fit hks ρ σ v σ' hv m news α s Q pre post
  simp only [dOr, Option.bind_eq_some_iff, Option.map_eq_some_iff] at hv
  refine cps fun Xc kc => ?_
  obtain ⟨⟨v1, σ1⟩, h1, x, hx, hv⟩ := hv
  refine kc ?_; clear kc Xc
  obtain rfl := toBool_bool hx
  refine BoolOp_or (ha f env ok fit hks ρ σ _ _ h1 m news α s _ pre ?_)
  intro h' tk news' α' val F' N' I' G' R'
  cases R'
  refine wpAny_truthy_bool ?_
  cases x with
  | true =>
    simp only [if_true] at hv ⊢
    cases hv
    exact post _ _ _ _ _ F' N' I' G' (.bool _)
  | false =>
    simp only [Bool.false_eq_true, if_false, Option.bind_eq_some_iff, Option.map_eq_some_iff] at hv ⊢
    refine cps fun Xc kc => ?_
    obtain ⟨⟨v2, σ2⟩, h2, y, hy, e⟩ := hv
    refine kc ?_; clear kc Xc
    cases e
    obtain rfl := toBool_bool hy
    refine BoolOp_one (hb f env ok fit hks ρ σ1 _ _ h2 m news' α' _ _ (pre.to F' N' I' G') ?_)
    intro h'' tk' news'' α'' val' F'' N'' I'' G'' R''
    exact post _ _ _ _ _ F'' N'' I'' (G'.trans G'') R''
theorem st_and {l r : Expr} {pos : Pos} {a b : DE} (ha : ST P dp ks names l a) (hb : ST P dp ks names r b) : ST P dp ks names (.BoolOp .And [l, r] pos) (dAnd a b) := by
  intro f env ok fit hks ρ σ v σ' hv m news α s Q pre post
  simp only [dAnd, Option.bind_eq_some_iff, Option.map_eq_some_iff] at hv
  refine cps fun Xc kc => ?_
  obtain ⟨⟨v1, σ1⟩, h1, x, hx, hv⟩ := hv
  refine kc ?_; clear kc Xc
  obtain rfl := toBool_bool hx
  refine isTrue_and (ha f env ok fit hks ρ σ _ _ h1 m news α s _ pre ?_)
  intro h' tk news' α' F' N' I' G'
  cases x with
  | false =>
    simp only [Bool.false_eq_true, if_false] at hv ⊢
    cases hv
    exact post _ _ _ _ F' N' I' G'
  | true =>
    simp only [if_true, Option.bind_eq_some_iff, Option.map_eq_some_iff] at hv ⊢
    refine cps fun Xc kc => ?_
    obtain ⟨⟨v2, σ2⟩, h2, y, hy, e⟩ := hv
    refine kc ?_; clear kc Xc
    cases e
    obtain rfl := toBool_bool hy
    refine isTrue_and (hb f env ok fit hks ρ σ1 _ _ h2 m news' α' _ _ (pre.to F' N' I' G') ?_)
    intro h'' tk' news'' α'' F'' N'' I'' G''
    have z := post _ tk' _ _ F'' N'' I'' (G'.trans G'')
    cases v with
    | false => simp only [Bool.false_eq_true, if_false]; exact z
    | true => simp only [if_true]; exact isTrue_and_nil z
theorem st_or {l r : Expr} {pos : Pos} {a b : DE} (ha : ST P dp ks names l a) (hb : ST P dp ks names r b) : ST P dp ks names (.BoolOp .Or [l, r] pos) (dOr a b) := by
  intro f env ok fit hks ρ σ v σ' hv m news α s Q pre post
  simp only [dOr, Option.bind_eq_some_iff, Option.map_eq_some_iff] at hv
  refine cps fun Xc kc => ?_
  obtain ⟨⟨v1, σ1⟩, h1, x, hx, hv⟩ := hv
  refine kc ?_; clear kc Xc
  obtain rfl := toBool_bool hx
  refine isTrue_or (ha f env ok fit hks ρ σ _ _ h1 m news α s _ pre ?_)
  intro h' tk news' α' F' N' I' G'
  cases x with
  | true =>
    simp only [if_true] at hv ⊢
    cases hv
    exact post _ _ _ _ F' N' I' G'
  | false =>
    simp only [Bool.false_eq_true, if_false, Option.bind_eq_some_iff, Option.map_eq_some_iff] at hv ⊢
    refine cps fun Xc kc => ?_
    obtain ⟨⟨v2, σ2⟩, h2, y, hy, e⟩ := hv
    refine kc ?_; clear kc Xc
    cases e
    obtain rfl := toBool_bool hy
    refine isTrue_or (hb f env ok fit hks ρ σ1 _ _ h2 m news' α' _ _ (pre.to F' N' I' G') ?_)
    intro h'' tk' news'' α'' F'' N'' I'' G''
    have z := post _ tk' _ _ F'' N'' I'' (G'.trans G'')
    cases v with
    | true => simp only [if_true]; exact z
    | false => simp only [Bool.false_eq_true, if_false]; exact isTrue_or_nil z
noncomputable def dIte (t a b : DE) : DE := fun ρ σ => (t ρ σ).bind fun r => r.1.toBool.bind fun x => if x then a ρ r.2 else b ρ r.2
theorem se_ite {t l r : Expr} {pos : Pos} {c a b : DE} (hc : ST P dp ks names t c) (ha : SE P dp ks names l a) (hb : SE P dp ks names r b) : SE P dp ks names (.IfExp t l r pos) (dIte c a b) := by
  intro f env ok fit hks ρ σ v σ' hv m news α s Q pre post
  simp only [dIte, Option.bind_eq_some_iff] at hv
  refine cps fun Xc kc => ?_
  obtain ⟨⟨v1, σ1⟩, h1, x, hx, hv⟩ := hv
  refine kc ?_; clear kc Xc
  obtain rfl := toBool_bool hx
  refine IfExp_ (hc f env ok fit hks ρ σ _ _ h1 m news α s _ pre ?_)
  intro h' tk news' α' F' N' I' G'
  have go : ∀ {e : Expr} {d : DE}, SE P dp ks names e d → d ρ σ1 = some (v, σ') → wpAny (model P.prog P.w) f.A (eval e env) Q (fun _ _ => False) { s with heap := h', toks := tk } := fun hd h2 =>
    hd f env ok fit hks ρ σ1 _ _ h2 m news' α' _ _ (pre.to F' N' I' G') fun h'' tk' news'' α'' val' F'' N'' I'' G'' R'' => post _ _ _ _ _ F'' N'' I'' (G'.trans G'') R''
  cases x with
  | true => simp only [if_true] at hv ⊢; exact go ha hv
  | false => simp only [Bool.false_eq_true, if_false] at hv ⊢; exact go hb hv

/-! ### lists of expressions -/
noncomputable def dNil : DL := fun _ σ => some ([], σ)
noncomputable def dCons (a : DE) (r : DL) : DL := fun ρ σ => (a ρ σ).bind fun u => (r ρ u.2).map fun w => (u.1 :: w.1, w.2)
theorem sl_nil : SL P dp ks names [] dNil := by
  intro f env ok fit hks ρ σ v σ' hv m news α s pos Q pre post
  cases hv
  exact spliced_nil (post s.heap s.toks news α _ pre.F pre.N pre.I .refl .nil)
theorem sl_cons {e : Expr} {es : List Expr} {a : DE} {r : DL} (ha : SE P dp ks names e a) (hr : SL P dp ks names es r) (he : ∀ env, starEach (e :: es) env = (false, eval e env) :: starEach es env) : SL P dp ks names (e :: es) (dCons a r) := by
  intro f env ok fit hks ρ σ v σ' hv m news α s pos Q pre post
  simp only [dCons, Option.bind_eq_some_iff, Option.map_eq_some_iff] at hv
  refine cps fun Xc kc => ?_
  obtain ⟨⟨v1, σ1⟩, h1, ⟨v2, σ2⟩, h2, e⟩ := hv
  refine kc ?_; clear kc Xc
  cases e
  rw [he]
  show wpAny _ _ (spliced ((false, eval _ env) :: backTo pos (starEach es env))) _ _ _
  refine spliced_cons (ha f env ok fit hks ρ σ _ _ h1 m news α s _ pre ?_)
  intro h' tk news' α' val F' N' I' G' R'
  refine hr f env ok fit hks ρ σ1 _ _ h2 m news' α' _ pos _ (pre.to F' N' I' G') ?_
  intro h'' tk' news'' α'' vals F'' N'' I'' G'' R''
  exact post _ _ _ _ _ F'' N'' I'' (G'.trans G'') (.cons (R'.le G'') R'')
end
section
variable {P : Pg} {dp : Nat} {ks : Ks} {names : List Str}

theorem fresh_of {h₀ h : Heap} {L : Addr} {news : Led} (N : News h₀ L h news) : ∀ p ∈ news, p.1 ≠ h.objs.size := fun p hp e => by
  have := Heap.lt_size (N p hp).1
  rw [e] at this
  exact Nat.lt_irrefl _ this

/-! ### names of the top, calls -/
noncomputable def NameOk (P : Pg) (x : Str) (c : Value) : Prop := nsIn P.K mainGlobals x = some (some c) ∨ (nsIn P.K mainGlobals x = some none ∧ bootBuiltins x = some c ∧ x ≠ "__name__")
theorem name_sound {x : Str} {c : Value} (hn : NameOk P x c) {f : Fm} (ok : f.Ok P dp) {env : Env} (fit : Fits env) (hk : env.kindOf x = some .globalImplicit) (hd : (x == ("__debug__" : Str)) = false) {pos : Pos} {s : Shared} {m : Str → Option Value}
    {Q : Value → Shared → Prop} (F : Fr f.h₀ f.L s.heap m) (h : Q c s) : wpAny (model P.prog P.w) f.A (eval (.Name x pos) env) Q (fun _ _ => False) s := by
  rcases hn with e | ⟨e, hv, hne⟩
  · exact Name_function_global fit.kind hk (loadGlobal_global (fit.glob ▸ (ok.top.g.keeps F.keep)) (mg_of ok.kin ok.top.g e) h) hd
  · exact Name_function_global fit.kind hk (loadGlobal_builtin (fit.glob ▸ (ok.top.g.keeps F.keep)) (mg_none_of ok.kin ok.top.g e) (fit.blt ▸ (ok.top.b.keeps F.keep)) ((ok.top.builtins x hne).trans hv) h) hd

noncomputable def KeepOk (P : Pg) (c : Value) : Prop := ∀ h : Heap, P.K.In h → ∃ k, (k = Keeper.frame ∨ k = Keeper.machine ∨ k = Keeper.boundFrame) ∧ Looks (model P.prog P.w) h (keeperOf c) k
theorem keep_def {fa : Addr} (h : keepIn P.K (.ref fa) = true) : KeepOk P (.ref fa) := fun h' X => keeps_K h h' X
theorem keep_builtin {id : String} : KeepOk P (.builtin id) := fun h' X => ⟨.machine, .inr (.inl rfl), Looks.of_pure rfl⟩

noncomputable def dCall (g : List V → St → Option (V × St)) (r : DL) : DE := fun ρ σ => (r ρ σ).bind fun u => g u.1 u.2
theorem call_eq (x : Str) (p : Pos) (args : List Expr) (pos : Pos) (env : Env) :
    eval (.Call (.Name x p) args [] pos) env = (do callWith pos (← eval (.Name x p) env) [] (backTo pos (starEach args env)) []) := rfl
theorem se_call {x : Str} {c : Value} {g : List V → St → Option (V × St)} {dq : Nat} {p pos : Pos} {args : List Expr} {r : DL} (hn : NameOk P x c) (hkp : KeepOk P c) (hg : SF P dq c g) (hq : dq ≤ dp) (hk : ks.lookup x = some .globalImplicit)
    (hd : (x == ("__debug__" : Str)) = false) (hr : SL P dp ks names args r) (he : ∀ env, (starEach args env).any (·.1) = false) (hb : ∀ env pos, (backTo pos (starEach args env)).any (·.1) = false)
    (hne : ∀ env, match args with | [] => True | e :: es => starEach (e :: es) env = (false, eval e env) :: starEach es env) :
    SE P dp ks names (.Call (.Name x p) args [] pos) (dCall g r) := by
  intro f env ok fit hks ρ σ v σ' hv m news α s Q pre post
  simp only [dCall, Option.bind_eq_some_iff] at hv
  obtain ⟨⟨v1, σ1⟩, h1, hv⟩ := hv
  rw [call_eq]
  refine wpAny_bind (name_sound hn ok fit (by rw [← hks] at hk; exact hk) hd pre.F ?_)
  refine callWith_of (P := fun h => P.K.In h) (by rw [hb env pos]; rfl) hkp ?_
  have fin : wpAny (model P.prog P.w) f.A (spliced (backTo pos (starEach args env))) (fun vs s₁ => P.K.In s₁.heap ∧ wpAny (model P.prog P.w) f.A (call c ([] ++ vs) []) Q (fun _ _ => False) s₁) (fun _ _ => False) s := by
    refine hr f env ok fit hks ρ σ _ _ h1 m news α s pos _ pre ?_
    intro h' tk news' α' vals F' N' I' G' R'
    refine ⟨ok.kin.keeps F'.keep, ?_⟩
    refine hg f (ok.le hq) _ _ _ _ hv m news' α' _ _ vals F' N' I' R' ?_
    intro h'' tk' news'' α'' val F'' N'' I'' G'' R''
    exact post _ _ _ _ _ F'' N'' I'' (G'.trans G'') R''
  cases args with
  | nil => exact evalArgs_nil3 (by
      have z : wpAny (model P.prog P.w) f.A (spliced []) (fun vs s₁ => P.K.In s₁.heap ∧ wpAny (model P.prog P.w) f.A (call c ([] ++ vs) []) Q (fun _ _ => False) s₁) (fun _ _ => False) s := fin
      refine ⟨ok.kin.keeps pre.F.keep, ?_⟩
      cases h1' : r ρ σ with
      | none => rw [h1'] at h1; cases h1
      | some u =>
        intro Γ q hΓ
        exact (z Γ q hΓ).2 Γ q hΓ)
  | cons e es =>
    rw [hne env] at fin ⊢
    exact evalArgs_plain fin

/-! ### built-in functions -/
noncomputable def gMax : List V → St → Option (V × St)
  | [.int a, .int b], σ => some (.int (if b > a then b else a), σ)
  | _, _ => Option.none
theorem sf_max : SF P dp (.builtin "max") gMax := by
  intro f ok vs σ v σ' hv m news α s Q vals F N I R post
  unfold gMax at hv
  split at hv
  · cases hv
    obtain ⟨v1, r1, rfl, h1, R⟩ := R.head
    obtain ⟨v2, r2, rfl, h2, R⟩ := R.head
    obtain rfl := R.nil_inv
    cases h1; cases h2
    exact max_two_N ok.handled F N fun h' tk F' N' => post _ _ _ _ _ F' N' I .refl (.int _ _)
  · cases hv
noncomputable def gAbs : List V → St → Option (V × St)
  | [.int a], σ => some (.int (if a < 0 then -a else a), σ)
  | _, _ => Option.none
theorem sf_abs : SF P dp (.builtin "abs") gAbs := by
  intro f ok vs σ v σ' hv m news α s Q vals F N I R post
  unfold gAbs at hv
  split at hv
  · cases hv
    obtain ⟨v1, r1, rfl, h1, R⟩ := R.head
    obtain rfl := R.nil_inv
    cases h1
    exact call_abs_int fun u tk => post _ _ _ _ _ F N I .refl (.int _ _)
  · cases hv
noncomputable def lstAt (σ : St) (k : Nat) : Option (List V) := match σ[k]? with
  | some (.list vs) => some vs
  | _ => Option.none
theorem lstAt_some {σ : St} {k : Nat} {vs : List V} (h : lstAt σ k = some vs) : σ[k]? = some (.list vs) := by
  unfold lstAt at h
  split at h
  · rename_i q; cases h; exact q
  · cases h
theorem Inv.list {α : Al} {news : Led} {σ : St} (I : Inv P α news σ) {k : Nat} {vs : List V} {val : Value} (hk : lstAt σ k = some vs) (R : RV α (Frz α news) (.ref k) val) :
    ∃ d vals n, val = .ref d ∧ α[k]? = some (d, d) ∧ (d, listOf (List.toArray vals) n) ∈ news ∧ RVs α (Frz α news) vs vals ∧ vs.length < 2 ^ 20 := by
  obtain ⟨x, d, o, e1, e2, ro⟩ := I.at (lstAt_some hk)
  cases R with | ref _ y c e =>
  rw [e1] at e
  cases e
  obtain ⟨rfl, hl, vals, n, rfl, r⟩ := ro
  exact ⟨_, vals, n, rfl, e1, e2, r, hl⟩
noncomputable def gLen : List V → St → Option (V × St)
  | [.ref k], σ => (lstAt σ k).map fun vs => (.int vs.length, σ)
  | _, _ => Option.none
theorem sf_len : SF P dp (.builtin "len") gLen := by
  intro f ok vs σ v σ' hv m news α s Q vals F N I R post
  unfold gLen at hv
  split at hv
  · obtain ⟨ws, hw, e⟩ := Option.map_eq_some_iff.mp hv
    cases e
    obtain ⟨v1, r1, rfl, h1, R⟩ := R.head
    obtain rfl := R.nil_inv
    obtain ⟨d, us, n, rfl, e1, e2, r, hl⟩ := I.list hw h1
    have hz : (List.toArray us).size = ws.length := by rw [List.size_toArray, r.1]
    refine len_list ⟨_, (N _ e2).1, rfl, _, rfl⟩ (by rw [hz]; lia) ?_
    rw [hz]
    exact post _ _ _ _ _ F N I .refl (.int _ _)
  · cases hv

/-! ### displays -/
noncomputable def dTup (r : DL) : DE := fun ρ σ => (r ρ σ).bind fun u => if u.1.length < 2 ^ 20 then some (.tup u.1, u.2) else Option.none
theorem se_tup {es : List Expr} {k : Nat} {pos : Pos} {r : DL} (hr : SL P dp ks names es r) : SE P dp ks names (.Tuple es k pos) (dTup r) := by
  intro f env ok fit hks ρ σ v σ' hv m news α s Q pre post
  simp only [dTup, Option.bind_eq_some_iff] at hv
  obtain ⟨⟨v1, σ1⟩, h1, hv⟩ := hv
  split at hv
  case isFalse => cases hv
  case isTrue hlt =>
  cases hv
  refine Tuple_ (hr f env ok fit hks ρ σ _ _ h1 m news α s pos _ pre ?_)
  intro h' tk news' α' vals F' N' I' G' R'
  refine newTuple_N F' N' (fun h'' F'' N'' => ?_) (by rw [← R'.1, sizeLine_eq]; dsimp only at hlt; lia)
  obtain ⟨I'', G''⟩ := I'.beside (o := { cls := .type "tuple", data := .seq vals.toArray }) (fresh_of N')
  have R'' := R'.le G''
  exact post _ _ _ _ _ F'' N'' I'' (G'.trans G'') (.tup v1 vals _ 0 ⟨.head _, I'.fresh_not (fresh_of N'), rfl⟩ R''.1 R''.2)
noncomputable def dList (r : DL) : DE := fun ρ σ => (r ρ σ).bind fun u => if u.1.length < 2 ^ 20 then some (.ref u.2.length, u.2 ++ [.list u.1]) else Option.none
theorem new_list {f : Fm} {α : Al} {news : Led} {σ : St} {m : Str → Option Value} {s : Shared} {Q : Value → Shared → Prop} (F : Fr f.h₀ f.L s.heap m) (N : News f.h₀ f.L s.heap news) (I : Inv P α news σ)
    {vs : List V} {vals : List Value} (R : RVs α (Frz α news) vs vals) (hlt : vs.length < 2 ^ 20) {M : Model} {A : Around} {E : Value → Shared → Prop}
    (h : ∀ h' news' α' val, Fr f.h₀ f.L h' m → News f.h₀ f.L h' news' → Inv P α' news' (σ ++ [.list vs]) → GLe [] α news α' news' → RV α' (Frz α' news') (.ref σ.length) val → Q val { s with heap := h' }) :
    wpAny M A (newList vals) Q E s := by
  refine newList_N F N (fun h'' F'' N'' => ?_) (by rw [← R.1, sizeLine_eq]; lia)
  obtain ⟨I'', G''⟩ := I.new (x := s.heap.objs.size) (d := s.heap.objs.size) (o := listOf (List.toArray vals) 0) (mo := .list vs) (fresh_of N) (.inl rfl)
    (fun fz => ⟨rfl, hlt, vals, 0, rfl, R.mono (fun k y e => by rw [List.getElem?_append_left (List.getElem?_eq_some_iff.mp e).1]; exact e) fz⟩)
  refine h _ _ _ _ F'' N'' I'' G'' (.ref _ _ s.heap.objs.size ?_)
  rw [List.getElem?_append_right (by rw [I.len]; exact Nat.le_refl _), I.len]
  simp
theorem se_list {es : List Expr} {pos : Pos} {r : DL} (hr : SL P dp ks names es r) : SE P dp ks names (.List es pos) (dList r) := by
  intro f env ok fit hks ρ σ v σ' hv m news α s Q pre post
  simp only [dList, Option.bind_eq_some_iff] at hv
  obtain ⟨⟨v1, σ1⟩, h1, hv⟩ := hv
  split at hv
  case isFalse => cases hv
  case isTrue hlt =>
  cases hv
  refine List_ (hr f env ok fit hks ρ σ _ _ h1 m news α s pos _ pre ?_)
  intro h' tk news' α' vals F' N' I' G' R'
  exact new_list (s := { s with heap := h', toks := tk }) F' N' I' R' hlt fun h'' news'' α'' val F'' N'' I'' G'' R'' => post _ _ _ _ _ F'' N'' I'' (G'.trans G'') R''
noncomputable def dDict : DE := fun ρ σ => some (.ref σ.length, σ ++ [.dict []])
theorem se_dict {pos : Pos} : SE P dp ks names (.Dict [] [] pos) dDict := by
  intro f env ok fit hks ρ σ v σ' hv m news α s Q pre post
  cases hv
  refine newDict_K pre.F pre.N ok.top.nolimit fun d h' o F' N' lt lo _ _ hd _ => ?_
  obtain ⟨I'', G''⟩ := pre.I.new (x := d) (d := d) (o := o) (mo := .dict []) (fun p hp => Nat.ne_of_lt (lt p hp)) (.inl rfl) (fun fz => ⟨rfl, lo, by simp, [], hd, trivial⟩)
  refine post _ _ _ _ _ F' N' I'' G'' (.ref _ _ d ?_)
  rw [List.getElem?_append_right (by rw [pre.I.len]; exact Nat.le_refl _), pre.I.len]
  simp
end
section
variable {P : Pg} {dp : Nat} {ks : Ks} {names : List Str}

theorem subTail {M : Model} {A : Around} {E : Value → Shared → Prop} {s : Shared} {value slice : Expr} {o i : Value} {T id : String} {ops : List Value} {Q : Value → Shared → Prop} (hT : s.TypeIs o T)
    (hl : typeLookup (.type T) "__getitem__" = pure (some (.builtin id))) (h : wpAny M A (getItem o i) Q E s) (hs : subscripted slice false o i = operate ops (getItem o i)) (hlt : ∀ s₃ r, (Q r s₃) → wpAny M A (letTemporaryGo value o r >>= fun _ => pure r) Q E s₃) :
    wpAny M A (subscriptTail value slice o i) Q E s := by
  unfold subscriptTail
  refine wpAny_bind ?_
  rw [getitemInPython_of_ne hT.not_modules]
  refine wpAny_bind (wpAny_specialOf hT hl ?_)
  have fin : wpAny M A (subscripted slice false o i) (fun r s₃ => wpAny M A (letTemporaryGo value o r >>= fun _ => pure r) Q E s₃) E s := by
    rw [hs]
    exact wpAny_operating (wpAny_mono h (fun r s₃ h₃ => hlt s₃ r h₃) fun _ _ x => x)
  first
    | exact wpAny_pure (wpAny_bind fin)
    | exact wpAny_bind (wpAny_pure (wpAny_bind fin))
    | exact wpAny_bind fin

noncomputable def lookKV : List (Int × Int) → Int → Option Int
  | [], _ => Option.none
  | p :: r, i => if p.1 = i then some p.2 else lookKV r i
theorem kvr_at {i : Int} : ∀ {kvs : List (Int × Int)} {pairs : List (Int × Value)}, KVR kvs pairs → (∀ j, lookKV kvs i = some j → ∃ t, valueAt pairs i = some (.int j t)) ∧ (lookKV kvs i = Option.none → valueAt pairs i = Option.none)
  | [], [], _ => ⟨fun j h => (by cases h), fun _ => rfl⟩
  | p :: r, q :: u, ⟨h1, ⟨t, h2⟩, h3⟩ => by
    obtain ⟨ih1, ih2⟩ := kvr_at (i := i) h3
    unfold lookKV valueAt
    rw [List.find?_cons]
    by_cases e : p.1 = i
    · rw [if_pos e]
      have e' : decide (q.1 = i) = true := by rw [← h1]; simpa using e
      rw [e']
      exact ⟨fun j hj => by cases hj; exact ⟨t, by simp [h2]⟩, fun hj => by cases hj⟩
    · rw [if_neg e]
      have e' : decide (q.1 = i) = false := by rw [← h1]; simpa using e
      rw [e']
      exact ⟨ih1, ih2⟩
  | [], _ :: _, h => h.elim
  | _ :: _, [], h => h.elim

noncomputable def MO.item (i : Int) : MO → Option V
  | .list vs => if 0 ≤ i ∧ i < 2 ^ 20 then vs[i.toNat]? else Option.none
  | .dict kvs => (lookKV kvs i).map .int
  | _ => Option.none
noncomputable def V.item (σ : St) (i : Int) : V → Option V
  | .tup vs => if 0 ≤ i ∧ i < 2 ^ 20 then vs[i.toNat]? else Option.none
  | .ref k => σ[k]?.bind (MO.item i)
  | _ => Option.none
noncomputable def itemAt (σ : St) (v u : V) : Option V := u.toInt.bind fun i => v.item σ i
noncomputable def dIdx (a b : DE) : DE := fun ρ σ => (a ρ σ).bind fun r => (b ρ r.2).bind fun u => (itemAt u.2 r.1 u.1).map fun v => (v, u.2)
theorem se_idx {e i : Expr} {pos : Pos} {a b : DE} (ha : SE P dp ks names e a) (hb : SE P dp ks names i b) (hsl : ∀ o j, subscripted i false o j = operate [o, j] (getItem o j)) : SE P dp ks names (.Subscript e i pos) (dIdx a b) := by
  intro f env ok fit hks ρ σ v σ' hv m news α s Q pre post
  simp only [dIdx, Option.bind_eq_some_iff, Option.map_eq_some_iff] at hv
  refine cps fun Xc kc => ?_
  obtain ⟨⟨v1, σ1⟩, h1, ⟨v2, σ2⟩, h2, u, hu, e⟩ := hv
  refine kc ?_; clear kc Xc
  cases e
  refine Subscript_ (ha f env ok fit hks ρ σ _ _ h1 m news α s _ pre ?_)
  intro h' tk news' α' val F' N' I' G' R'
  refine hb f env ok fit hks ρ σ1 _ _ h2 m news' α' _ _ (pre.to F' N' I' G') ?_
  intro h'' tk' news'' α'' val' F'' N'' I'' G'' R''
  have R1 := R'.le G''
  have fin : ∀ w tk, RV α'' (Frz α'' news'') v w → Q w { s with heap := h'', toks := tk } := fun w tk rw => post _ _ _ _ _ F'' N'' I'' (G'.trans G'') rw
  have lt : ∀ o (s₃ : Shared) r, Q r s₃ → wpAny (model P.prog P.w) f.A (letTemporaryGo e o r >>= fun _ => pure r) Q (fun _ _ => False) s₃ := fun o s₃ r q => wpAny_bind (wpAny_letTemporaryGo (wpAny_pure q))
  clear post pre h1 h2 ha hb R'
  dsimp only at hu
  obtain ⟨i, hi, hu1⟩ := Option.bind_eq_some_iff.mp hu
  obtain rfl := toInt_int hi
  clear hi hu
  cases R'' with | int _ t =>
  cases v1 <;> first | cases hu1 | skip
  case tup vs =>
    dsimp only [V.item] at hu1
    split at hu1
    case isFalse => cases hu1
    case isTrue hi =>
    have hu := hu1
    clear hu1
    cases R1 with | tup _ vals a n hf hl hr =>
    have hlt : i.toNat < vs.length := (List.getElem?_eq_some_iff.mp hu).1
    obtain ⟨w, hw, rw⟩ := RVs.at ⟨hl, hr⟩ hu
    exact subTail ⟨_, (N'' _ hf.1).1, rfl⟩ slot_tuple_getitem.lookup (getItem_tuple (items := List.toArray vals) ⟨_, (N'' _ hf.1).1, rfl, n, rfl⟩ (by lia) (by lia) (seqIndex_of hi.1 (by rw [List.size_toArray]; lia)) (by simpa using hw) (fin _ _ rw)) (hsl _ _) (lt _)
  case ref k =>
    obtain ⟨mo, hk, hu⟩ := Option.bind_eq_some_iff.mp hu1
    clear hu1
    cases mo <;> first | cases hu | skip
    case list vs =>
      dsimp only [MO.item] at hu
      split at hu
      case isFalse => cases hu
      case isTrue hi =>
      refine cps fun Xc kc => ?_
      obtain ⟨d, vals, n, eq1, e1, e2, r, hl⟩ := I''.list (by unfold lstAt; rw [hk]) R1
      refine kc ?_; clear kc Xc; subst eq1
      obtain ⟨w, hw, rw⟩ := r.at hu
      exact subTail ⟨_, (N'' _ e2).1, rfl⟩ slot_list_getitem.lookup (wpAny_getItem_list (items := List.toArray vals) ⟨_, (N'' _ e2).1, rfl, n, rfl⟩ hi.1 (by lia) (by simpa using hw) (fin _ _ rw)) (hsl _ _) (lt _)
    case dict kvs =>
      obtain ⟨j, hj, rfl⟩ := Option.map_eq_some_iff.mp hu
      refine cps fun Xc kc => ?_
      obtain ⟨x, d, o, e1, e2, ro⟩ := I''.at hk
      refine kc ?_; clear kc Xc
      cases R1 with | ref _ y c e =>
      rw [e1] at e
      cases e
      refine cps fun Xc kc => ?_
      obtain ⟨eq1, lo, hl, pairs, hd, kr⟩ := ro
      refine kc ?_; clear kc Xc; subst eq1
      obtain ⟨t', ht'⟩ := (kvr_at kr).1 j hj
      have hD := kda_dict (s := { s with heap := h'', toks := tk' }) N'' e2 hd
      exact subTail hD.typeIs slot_dict_getitem.lookup (kdt_getItem N'' e2 hd (intKind_is P.prog P.w i t) ht' (fin _ _ (.int _ _))) (hsl _ _) (lt _)

/-! ### slices -/
noncomputable def dRev (a : DE) : DE := fun ρ σ => (a ρ σ).bind fun r => r.1.toRef.bind fun k => (lstAt r.2 k).map fun vs => (.ref r.2.length, r.2 ++ [.list vs.reverse])
theorem slice_sound {f : Fm} (ok : f.Ok P dp) {α : Al} {news : Led} {σ : St} {m : Str → Option Value} {s : Shared} {Q : Value → Shared → Prop} (F : Fr f.h₀ f.L s.heap m) (N : News f.h₀ f.L s.heap news) (I : Inv P α news σ)
    {k : Nat} {vs ws : List V} {val vl vu vk : Value} {lo hi st : Option Int} (hk : lstAt σ k = some vs) (R : RV α (Frz α news) (.ref k) val) (pl : IsPart vl lo) (pu : IsPart vu hi) (pk : IsPart vk st) (h0 : st ≠ some 0) {value slice : Expr}
    (hp : ∀ vals : List Value, RVs α (Frz α news) vs vals → ∃ wals, slicePick (List.toArray vals) lo hi st = List.toArray wals ∧ RVs α (Frz α news) ws wals) (hlt : ws.length < 2 ^ 20)
    (hs : ∀ l j : Addr, subscripted slice false (.ref l) (.ref j) = operate [.ref j, .ref l] (getItem (.ref l) (.ref j)) ∨ subscripted slice false (.ref l) (.ref j) = operate [.ref l, .ref j] (getItem (.ref l) (.ref j))) (ht : ∀ l r, letTemporaryGo value (.ref l) r = pure ())
    (h : ∀ h' news' α' w, Fr f.h₀ f.L h' m → News f.h₀ f.L h' news' → Inv P α' news' (σ ++ [.list ws]) → GLe [] α news α' news' → RV α' (Frz α' news') (.ref σ.length) w → Q w { s with heap := h' }) :
    wpAny (model P.prog P.w) f.A (subscriptTail value slice val (.ref s.heap.objs.size)) Q (fun _ _ => False) { s with heap := s.heap.push { cls := .type "slice", data := .fields #[vl, vu, vk] } } := by
  refine cps fun Xc kc => ?_
  obtain ⟨d, vals, n, eq1, e1, e2, r, hl⟩ := I.list hk R
  refine kc ?_; clear kc Xc; subst eq1
  obtain ⟨wals, hw, rw⟩ := hp vals r
  have go : ∀ ops, subscripted slice false (.ref d) (.ref s.heap.objs.size) = operate ops (getItem (.ref d) (.ref s.heap.objs.size)) → wpAny (model P.prog P.w) f.A (subscriptTail value slice (.ref d) (.ref s.heap.objs.size)) Q (fun _ _ => False) { s with heap := s.heap.push { cls := .type "slice", data := .fields #[vl, vu, vk] } } := by
    intro ops hops
    refine slice_list3 F N (items := List.toArray vals) ⟨_, (N _ e2).1, rfl, n, rfl⟩ pl pu pk h0 (fun h' F' N' => ?_) hops (ht d) (by rw [List.size_toArray, ← r.1, sizeLine_eq]; lia)
    rw [hw] at N'
    obtain ⟨I'', G''⟩ := I.new (x := s.heap.objs.size + 1) (d := s.heap.objs.size + 1) (o := listOf (List.toArray wals) 0) (mo := .list ws) (fun p hp e => absurd (Heap.lt_size (N p hp).1) (by rw [e]; exact Nat.not_lt.mpr (Nat.le_succ _))) (.inl rfl)
      (fun fz => ⟨rfl, hlt, wals, 0, rfl, rw.mono (fun k y e => by rw [List.getElem?_append_left (List.getElem?_eq_some_iff.mp e).1]; exact e) fz⟩)
    refine h _ _ _ _ F' N' I'' G'' (.ref _ _ (s.heap.objs.size + 1) ?_)
    rw [List.getElem?_append_right (by rw [I.len]; exact Nat.le_refl _), I.len]
    simp
  rcases hs d s.heap.objs.size with z | z
  · exact go _ z
  · exact go _ z
theorem se_rev {e : Expr} {pos p p' p'' : Pos} {c : Nat} {a : DE} (ha : SE P dp ks names e a) (ht : ∀ l r, letTemporaryGo e (.ref l) r = pure ()) :
    SE P dp ks names (.Subscript e (.Slice Option.none Option.none (some (.UnaryOp .USub (.Constant (.int 1) c p) p')) p'') pos) (dRev a) := by
  intro f env ok fit hks ρ σ v σ' hv m news α s Q pre post
  simp only [dRev, Option.bind_eq_some_iff, Option.map_eq_some_iff] at hv
  refine cps fun Xc kc => ?_
  obtain ⟨⟨v1, σ1⟩, h1, k, hk, vs, hvs, e⟩ := hv
  refine kc ?_; clear kc Xc
  cases e
  obtain rfl := toRef_ref hk
  refine Subscript_ (ha f env ok fit hks ρ σ _ _ h1 m news α s _ pre ?_)
  intro h' tk news' α' val F' N' I' G' R'
  refine wpAny_Slice (wpAny_pure (wpAny_pure (show wpAny _ _ (eval (.UnaryOp .USub (.Constant (.int 1) c p) p') env) _ _ _ from ?_)))
  refine UnaryOp_ (wpAny_Constant_int (neg_int ?_))
  have hl : vs.length < 2 ^ 20 := by obtain ⟨_, _, _, _, _, _, _, hl⟩ := I'.list hvs R'; exact hl
  refine slice_sound (s := { s with heap := h', toks := tk + 1 + 1 }) (ws := vs.reverse) ok F' N' I' hvs R' .none .none (.int (-1) _) (by decide) (fun vals r => ⟨vals.reverse, by rw [krv_pick], r.reverse⟩) (by simpa using hl) (fun l j => ?_) ht
    fun h'' news'' α'' w F'' N'' I'' G'' R'' => post _ _ _ _ _ F'' N'' I'' (G'.trans G'') R''
  exact .inr rfl
noncomputable def dTake (n : Nat) (a : DE) : DE := fun ρ σ => (a ρ σ).bind fun r => r.1.toRef.bind fun k => (lstAt r.2 k).map fun vs => (.ref r.2.length, r.2 ++ [.list (vs.take n)])
theorem pick_take (vals : List Value) (n : Nat) : slicePick (List.toArray vals) Option.none (some (n : Int)) Option.none = List.toArray (vals.take n) := by
  have e : sliceBounds Option.none (some (n : Int)) Option.none (List.toArray vals).size = (((0 : Nat) : Int), ((min n (List.toArray vals).size : Nat) : Int), 1) := by
    simp only [sliceBounds, Option.getD_none, show (1 : Int) > 0 by decide, if_true, if_neg (show ¬ ((n : Int) < 0) by lia)]
    congr 1
    congr 1
    lia
  rw [kmk_pick_nat _ e]
  show List.toArray ((vals.drop 0).take (min n (List.toArray vals).size - 0)) = _
  rw [List.drop_zero, Nat.sub_zero, List.size_toArray, kmk_take_min]
theorem se_take {e : Expr} {pos p p'' : Pos} {c n : Nat} {a : DE} (ha : SE P dp ks names e a) (ht : ∀ l r, letTemporaryGo e (.ref l) r = pure ()) :
    SE P dp ks names (.Subscript e (.Slice Option.none (some (.Constant (.int (n : Int)) c p)) Option.none p'') pos) (dTake n a) := by
  intro f env ok fit hks ρ σ v σ' hv m news α s Q pre post
  simp only [dTake, Option.bind_eq_some_iff, Option.map_eq_some_iff] at hv
  refine cps fun Xc kc => ?_
  obtain ⟨⟨v1, σ1⟩, h1, k, hk, vs, hvs, e⟩ := hv
  refine kc ?_; clear kc Xc
  cases e
  obtain rfl := toRef_ref hk
  refine Subscript_ (ha f env ok fit hks ρ σ _ _ h1 m news α s _ pre ?_)
  intro h' tk news' α' val F' N' I' G' R'
  refine wpAny_Slice (wpAny_pure (show wpAny _ _ (eval (.Constant (.int (n : Int)) c p) env) _ _ _ from ?_))
  refine wpAny_Constant_int (wpAny_pure ?_)
  have hl : vs.length < 2 ^ 20 := by obtain ⟨_, _, _, _, _, _, _, hl⟩ := I'.list hvs R'; exact hl
  refine slice_sound (s := { s with heap := h', toks := tk + 1 }) (ws := vs.take n) ok F' N' I' hvs R' .none (.int (n : Int) _) .none (by decide) (fun vals r => ⟨vals.take n, pick_take _ _, r.take n⟩) (by rw [List.length_take]; lia) (fun l j => ?_) ht
    fun h'' news'' α'' w F'' N'' I'' G'' R'' => post _ _ _ _ _ F'' N'' I'' (G'.trans G'') R''
  exact .inl rfl

/-! ### methods -/
noncomputable def MethEq (o : Expr) (nm : Str) (apos pos : Pos) (args : List Expr) : Prop := ∀ env : Env, ∃ pl : Sem Bool, eval (.Call (.Attribute o nm apos) args [] pos) env = (do
      let ov ← eval o env
      standAt apos.atName
      let (f, first) ← holding [ov] (getMethod ov nm pl)
      callWith pos f first (backTo pos (starEach args env)) (backToKw pos (keywordEach [] env)))
theorem kl_last_of (p : List Value) (y : Value) : kl_last (p ++ [y]) = some (p, y) := by
  induction p with
  | nil => rfl
  | cons x r ih => show kl_last (x :: (r ++ [y])) = _; unfold kl_last; rw [ih]
theorem RVs.snoc_inv {α : Al} {Φ : Addr × Obj → Prop} {v : V} : ∀ {ws : List V} {vals : List Value}, RVs α Φ (ws ++ [v]) vals → ∃ p y, vals = p ++ [y] ∧ RVs α Φ ws p ∧ RV α Φ v y
  | [], vals, h => by
    refine cps fun Xc kc => ?_
    obtain ⟨y, r, eq1, h1, h2⟩ := h.head
    refine kc ?_; clear kc Xc; subst eq1
    obtain rfl := h2.nil_inv
    exact ⟨[], y, rfl, .nil, h1⟩
  | w :: ws, vals, h => by
    refine cps fun Xc kc => ?_
    obtain ⟨y, r, eq1, h1, h2⟩ := RVs.head (show RVs α Φ (w :: (ws ++ [v])) vals from h)
    refine kc ?_; clear kc Xc; subst eq1
    refine cps fun Xc kc => ?_
    obtain ⟨p, z, eq1, h3, h4⟩ := RVs.snoc_inv h2
    refine kc ?_; clear kc Xc; subst eq1
    exact ⟨y :: p, z, rfl, .cons h1 h3, h4⟩
theorem split_last {vs : List V} {v : V} (h : vs.getLast? = some v) : vs = vs.dropLast ++ [v] := by
  cases vs with
  | nil => cases h
  | cons x r =>
    have := List.getLast?_eq_some_iff.mp h
    obtain ⟨ys, e⟩ := this
    rw [e]
    simp
noncomputable def dPop (a : DE) : DE := fun ρ σ => (a ρ σ).bind fun r => r.1.toRef.bind fun k => (lstAt r.2 k).bind fun vs => vs.getLast?.map fun v => (v, r.2.set k (.list vs.dropLast))
theorem se_pop {o : Expr} {apos pos : Pos} {a : DE} (ha : SE P dp ks names o a) (hm : MethEq o (Str.ofString "pop") apos pos []) : SE P dp ks names (.Call (.Attribute o (Str.ofString "pop") apos) [] [] pos) (dPop a) := by
  intro f env ok fit hks ρ σ v σ' hv m news α s Q pre post
  simp only [dPop, Option.bind_eq_some_iff, Option.map_eq_some_iff] at hv
  refine cps fun Xc kc => ?_
  obtain ⟨⟨v1, σ1⟩, h1, k, hk, vs, hvs, u, hu, e⟩ := hv
  refine kc ?_; clear kc Xc
  cases e
  obtain rfl := toRef_ref hk
  obtain ⟨pl, he⟩ := hm env
  refine methodCall_KW (pl := pl) (ha f env ok fit hks ρ σ _ _ h1 m news α s _ pre ?_) he
  intro h' tk news' α' val F' N' I' G' R'
  refine cps fun Xc kc => ?_
  obtain ⟨d, vals, n, eq1, e1, e2, r, hl⟩ := I'.list hvs R'
  refine kc ?_; clear kc Xc; subst eq1
  refine kl_method N' e2 PySem.F.slot_list_pop PySem.F.type_list_pop ?_
  refine callWith_builtin rfl (evalArgs_nil3 ?_)
  have hvv := split_last hu
  refine cps fun Xc kc => ?_
  obtain ⟨g, U1, U2, fin⟩ := I'.update (mo' := .list vs.dropLast) e1 (lstAt_some hvs) e2
  refine kc ?_; clear kc Xc
  have hln : vs.dropLast.length < 2 ^ 20 := by rw [List.length_dropLast]; lia
  have hvl : vals.length ≤ sizeLine := by rw [← r.1, sizeLine_eq]; lia
  rw [hvv] at r
  refine cps fun Xc kc => ?_
  obtain ⟨p, y, eq1, r1, r2⟩ := r.snoc_inv
  refine kc ?_; clear kc Xc; subst eq1
  refine kl_pop F' N' (p := p) (y := y) (its := List.toArray (p ++ [y])) (n := n) (kl_last_of p y) (U2 _) hvl fun h'' F'' N'' => ?_
  obtain ⟨I'', G''⟩ := fin (listOf (List.toArray p) (n + 1)) (fun Φ hΦ eΦ => ⟨rfl, hln, _, _, rfl, eΦ ▸ (r1.mono (fun _ _ e => e) hΦ)⟩)
  exact post _ _ _ _ _ F'' N'' I'' (G'.trans G'') (r2.le G'')
noncomputable def dApp (a b : DE) : DE := fun ρ σ => (a ρ σ).bind fun r => r.1.toRef.bind fun k => (lstAt r.2 k).bind fun _ => (b ρ r.2).bind fun u => (lstAt u.2 k).bind fun vs => if vs.length + 1 < 2 ^ 20 then some (.none, u.2.set k (.list (vs ++ [u.1]))) else Option.none
theorem se_app {o e : Expr} {apos pos : Pos} {a b : DE} (ha : SE P dp ks names o a) (hb : SE P dp ks names e b) (hm : MethEq o (Str.ofString "append") apos pos [e]) (he : ∀ env, starEach [e] env = [(false, eval e env)]) :
    SE P dp ks names (.Call (.Attribute o (Str.ofString "append") apos) [e] [] pos) (dApp a b) := by
  intro f env ok fit hks ρ σ v σ' hv m news α s Q pre post
  simp only [dApp, Option.bind_eq_some_iff] at hv
  refine cps fun Xc kc => ?_
  obtain ⟨⟨v1, σ1⟩, h1, k, hk, vs0, hvs0, ⟨v2, σ2⟩, h2, vs, hvs, hv⟩ := hv
  refine kc ?_; clear kc Xc
  split at hv
  case isFalse => cases hv
  case isTrue hlt =>
  cases hv
  obtain rfl := toRef_ref hk
  obtain ⟨pl, hE⟩ := hm env
  refine methodCall_KW (pl := pl) (ha f env ok fit hks ρ σ _ _ h1 m news α s _ pre ?_) hE
  intro h' tk news' α' val F' N' I' G' R'
  refine cps fun Xc kc => ?_
  obtain ⟨d, vals0, n0, eq1, e1, e2, r0, hl0⟩ := I'.list hvs0 R'
  refine kc ?_; clear kc Xc; subst eq1
  refine kl_method N' e2 PySem.F.slot_list_append PySem.F.type_list_append ?_
  dsimp only
  rw [he env]
  refine callWith_builtin rfl (evalArgs_plain (spliced_cons ?_))
  refine hb f env ok fit hks ρ σ1 _ _ h2 m news' α' _ _ (pre.to F' N' I' G') ?_
  intro h'' tk' news'' α'' val' F'' N'' I'' G'' R''
  refine spliced_nil ?_
  refine cps fun Xc kc => ?_
  obtain ⟨d', vals, n, hd', e1', e2', r, hl⟩ := I''.list hvs (R'.le G'')
  refine kc ?_; clear kc Xc
  cases hd'
  refine cps fun Xc kc => ?_
  obtain ⟨g, U1, U2, fin⟩ := I''.update (mo' := .list (vs ++ [v2])) e1' (lstAt_some hvs) e2'
  refine kc ?_; clear kc Xc
  refine append_K F'' N'' (U2 _) (fun h3 F3 N3 => ?_) (by rw [List.size_toArray, ← r.1, sizeLine_eq]; lia)
  obtain ⟨I3, G3⟩ := fin (listOf ((List.toArray vals).push val') (n + 1)) (fun Φ hΦ eΦ => ⟨rfl, by rw [List.length_append]; simpa using hlt, vals ++ [val'], n + 1, by simp, eΦ ▸ ((r.append (.cons R'' .nil)).mono (fun _ _ e => e) hΦ)⟩)
  exact post _ _ _ _ _ F3 N3 I3 ((G'.trans G'').trans G3) .none
noncomputable def MO.dct : MO → Option (List (Int × Int))
  | .dict kvs => some kvs
  | _ => Option.none
noncomputable def dctAt (σ : St) (k : Nat) : Option (List (Int × Int)) := σ[k]?.bind MO.dct
theorem dctAt_some {σ : St} {k : Nat} {kvs : List (Int × Int)} (h : dctAt σ k = some kvs) : σ[k]? = some (.dict kvs) := by
  obtain ⟨mo, h1, h2⟩ := Option.bind_eq_some_iff.mp h
  rw [h1]
  cases mo <;> cases h2
  rfl
theorem dctAt_of {σ : St} {k : Nat} {kvs : List (Int × Int)} (h : σ[k]? = some (.dict kvs)) : dctAt σ k = some kvs := by
  unfold dctAt
  rw [h]
  rfl
noncomputable def ints2 (vs : List V) : Option (Int × Int) := if vs.length = 2 then (vs[0]?.bind V.toInt).bind fun i => (vs[1]?.bind V.toInt).map fun j => (i, j) else Option.none
theorem ints2_some {vs : List V} {p : Int × Int} (h : ints2 vs = some p) : vs = [.int p.1, .int p.2] := by
  unfold ints2 at h
  split at h
  case isFalse => cases h
  case isTrue hl =>
  obtain ⟨a, b, rfl⟩ := len_2 hl
  obtain ⟨i, hi, h⟩ := Option.bind_eq_some_iff.mp h
  obtain ⟨j, hj, rfl⟩ := Option.map_eq_some_iff.mp h
  obtain rfl := toInt_int (show a.toInt = some i from hi)
  obtain rfl := toInt_int (show b.toInt = some j from hj)
  rfl
noncomputable def dGetD (a : DE) (r : DL) : DE := fun ρ σ => (a ρ σ).bind fun u => u.1.toRef.bind fun k => (dctAt u.2 k).bind fun _ => (r ρ u.2).bind fun w => (ints2 w.1).bind fun p => (dctAt w.2 k).map fun kvs => (.int ((lookKV kvs p.1).getD p.2), w.2)
theorem se_getd {o e1 e2 : Expr} {apos pos : Pos} {a : DE} {r : DL} (ha : SE P dp ks names o a) (hr : SL P dp ks names [e1, e2] r) (hm : MethEq o (Str.ofString "get") apos pos [e1, e2]) (he : ∀ env, starEach [e1, e2] env = [(false, eval e1 env), (false, eval e2 env)]) :
    SE P dp ks names (.Call (.Attribute o (Str.ofString "get") apos) [e1, e2] [] pos) (dGetD a r) := by
  intro f env ok fit hks ρ σ v σ' hv m news α s Q pre post
  simp only [dGetD, Option.bind_eq_some_iff, Option.map_eq_some_iff] at hv
  refine cps fun Xc kc => ?_
  obtain ⟨⟨v1, σ1⟩, h1, k, hk, kvs0, hkv0, ⟨v2, σ2⟩, h2, ⟨i, j⟩, hw, kvs, hkv, e⟩ := hv
  refine kc ?_; clear kc Xc
  cases e
  replace hkv0 := dctAt_some hkv0
  replace hkv := dctAt_some hkv
  replace hw := ints2_some hw
  dsimp only at hw hkv0 hkv
  subst hw
  obtain rfl := toRef_ref hk
  obtain ⟨pl, hE⟩ := hm env
  refine methodCall_KW (pl := pl) (ha f env ok fit hks ρ σ _ _ h1 m news α s _ pre ?_) hE
  intro h' tk news' α' val F' N' I' G' R'
  refine cps fun Xc kc => ?_
  obtain ⟨x, d, ob, q1, q2, ro⟩ := I'.at hkv0
  refine kc ?_; clear kc Xc
  cases R' with | ref _ y c q =>
  rw [q1] at q
  cases q
  refine cps fun Xc kc => ?_
  obtain ⟨eq1, lo, hl, pairs0, hd0, kr0⟩ := ro
  refine kc ?_; clear kc Xc; subst eq1
  refine kdg_method N' q2 hd0 ?_
  dsimp only
  have hsp := hr f env ok fit hks ρ σ1 _ _ h2 m news' α' { s with heap := h', toks := tk } pos (fun vs s₁ => wpAny (model P.prog P.w) f.A (call (.builtin "dict.get") ([.ref x] ++ vs) []) Q (fun _ _ => False) s₁) (pre.to F' N' I' G') ?_
  · rw [he env] at hsp ⊢
    exact callWith_builtin rfl (evalArgs_plain hsp)
  intro h'' tk' news'' α'' vals F'' N'' I'' G'' R''
  refine cps fun Xc kc => ?_
  obtain ⟨w1, r1, eq1, z1, R2⟩ := R''.head
  refine kc ?_; clear kc Xc; subst eq1
  refine cps fun Xc kc => ?_
  obtain ⟨w2, r2, eq1, z2, R3⟩ := R2.head
  refine kc ?_; clear kc Xc; subst eq1
  obtain rfl := R3.nil_inv
  cases z1; cases z2
  refine cps fun Xc kc => ?_
  obtain ⟨x', d', ob', q1', q2', ro'⟩ := I''.at hkv
  refine kc ?_; clear kc Xc
  rw [G''.al _ _ q1] at q1'
  cases q1'
  refine cps fun Xc kc => ?_
  obtain ⟨_, lo', hl', pairs, hd, kr⟩ := ro'
  refine kc ?_; clear kc Xc
  rename_i t1 t2
  cases hq : lookKV kvs i with
  | none =>
    rw [hq] at post
    exact kdg_get2 N'' q2' hd lo' (intKind_is P.prog P.w i t1) _ ((kvr_at kr).2 hq) (post _ _ _ _ _ F'' N'' I'' (G'.trans G'') (.int _ _))
  | some z =>
    rw [hq] at post
    obtain ⟨t', ht'⟩ := (kvr_at kr).1 z hq
    exact kdg_get2 N'' q2' hd lo' (intKind_is P.prog P.w i t1) _ ht' (post _ _ _ _ _ F'' N'' I'' (G'.trans G'') (.int _ _))
end
inductive Fl where
  | next
  | ret (v : V)
noncomputable abbrev DS := Rho → St → Option (Fl × Rho × St)
noncomputable abbrev DA := Rho → St → V → Option (Rho × St)

noncomputable def Fm.own (f : Fm) : List Addr := f.cl.map (·.2)
structure OwnOk (f : Fm) (α : Al) (news : Led) : Prop where
  nd : (f.cl.map (·.2)).Nodup
  here : ∀ c ∈ f.own, ∃ o, (c, o) ∈ news ∧ isCell o = true ∧ c ∉ muts α
  all : ∀ x, f.cs.names.lookup x = some .cell → ∃ c, f.cl.lookup x = some c
theorem OwnOk.le {f : Fm} {α α' : Al} {news news' : Led} (h : OwnOk f α news) (g : GLe [] α news α' news') : OwnOk f α' news' :=
  ⟨h.nd, fun c hc => let ⟨o, a, b, d⟩ := h.here c hc; let ⟨u, v⟩ := g.keep _ a d (.inr (by simp)); ⟨o, u, b, v⟩, h.all⟩

structure PreS (P : Pg) (f : Fm) (names : List Str) (ρ : Rho) (σ : St) (m : Str → Option Value) (news : Led) (α : Al) (h : Heap) : Prop extends Pre P f f.env names ρ σ m news α h where
  O : OwnOk f α news

noncomputable def PostS (P : Pg) (f : Fm) (names : List Str) (α : Al) (news : Led) (fl : Fl) (ρ' : Rho) (σ' : St) (Q : Flow → Shared → Prop) (s : Shared) : Prop :=
  ∀ h' tk m' news' α', PreS P f names ρ' σ' m' news' α' h' → GLe f.own α news α' news' → match fl with
    | .next => Q .next { s with heap := h', toks := tk }
    | .ret v => ∀ val, RV α' (Frz α' news') v val → Q (.ret val) { s with heap := h', toks := tk }
noncomputable def PostA (P : Pg) (f : Fm) (names : List Str) (α : Al) (news : Led) (ρ' : Rho) (σ' : St) (Q : Unit → Shared → Prop) (s : Shared) : Prop :=
  ∀ h' tk m' news' α', PreS P f names ρ' σ' m' news' α' h' → GLe f.own α news α' news' → Q () { s with heap := h', toks := tk }

noncomputable def SX (P : Pg) (dp : Nat) (ks : Ks) (names : List Str) (st : Stmt) (d : DS) : Prop :=
  ∀ (f : Fm), f.Ok P dp → f.cs.names = ks → ∀ ρ σ fl ρ' σ', d ρ σ = some (fl, ρ', σ') → ∀ m news α (s : Shared) (Q : Flow → Shared → Prop), PreS P f names ρ σ m news α s.heap →
    PostS P f names α news fl ρ' σ' Q s → wpAny (model P.prog P.w) f.A (exec st f.env) Q (fun _ _ => False) s
noncomputable def SXs (P : Pg) (dp : Nat) (ks : Ks) (names : List Str) (st : List Stmt) (d : DS) : Prop :=
  ∀ (f : Fm), f.Ok P dp → f.cs.names = ks → ∀ ρ σ fl ρ' σ', d ρ σ = some (fl, ρ', σ') → ∀ m news α (s : Shared) (Q : Flow → Shared → Prop), PreS P f names ρ σ m news α s.heap →
    PostS P f names α news fl ρ' σ' Q s → wpAny (model P.prog P.w) f.A (execs st f.env) Q (fun _ _ => False) s
noncomputable def SA (P : Pg) (dp : Nat) (ks : Ks) (names : List Str) (t : Expr) (d : DA) : Prop :=
  ∀ (f : Fm), f.Ok P dp → f.cs.names = ks → ∀ ρ σ v ρ' σ', d ρ σ v = some (ρ', σ') → ∀ m news α (s : Shared) (Q : Unit → Shared → Prop) val, PreS P f names ρ σ m news α s.heap → RV α (Frz α news) v val →
    PostA P f names α news ρ' σ' Q s → wpAny (model P.prog P.w) f.A (assign t f.env val) Q (fun _ _ => False) s

section
variable {P : Pg} {dp : Nat} {ks : Ks} {names : List Str}

theorem nodup_str {l : List Str} (h : l.Nodup) {i j : Nat} {x : Str} (hi : l[i]? = some x) (hj : l[j]? = some x) : i = j := by
  obtain ⟨a, b⟩ := List.getElem?_eq_some_iff.mp hi
  obtain ⟨a', b'⟩ := List.getElem?_eq_some_iff.mp hj
  have p := List.pairwise_iff_getElem.mp h
  rcases Nat.lt_trichotomy i j with q | q | q
  · exact absurd (b.trans b'.symm) (p i j a a' q)
  · exact q
  · exact absurd (b'.trans b.symm) (p j i a' a q)

/-! ### stores into names -/
theorem kind_env {f : Fm} (hks : f.cs.names = ks) (x : Str) : f.env.kindOf x = ks.lookup x := by
  show f.cs.names.lookup x = _
  rw [hks]
theorem rho_set {ρ : Rho} {i j : Nat} {v w : V} (h : (ρ.set i (some v))[j]? = some (some w)) : (j = i ∧ w = v) ∨ (j ≠ i ∧ ρ[j]? = some (some w)) := by
  by_cases e : i = j
  · subst e
    rw [List.getElem?_set] at h
    simp at h
    exact .inl ⟨rfl, h.2.symm⟩
  · rw [List.getElem?_set_ne e] at h
    exact .inr ⟨Ne.symm e, h⟩
theorem lookup_inj {cl : List (Str × Addr)} (h : (cl.map (·.2)).Nodup) : ∀ {x y : Str} {c : Addr}, cl.lookup x = some c → cl.lookup y = some c → x = y := by
  induction cl with
  | nil => intro x y c h1 _; cases h1
  | cons p r ih =>
    intro x y c h1 h2
    rw [List.map_cons, List.nodup_cons] at h
    have mem : ∀ {z : Str}, r.lookup z = some c → c ∈ r.map (·.2) := by
      intro z hz
      clear ih h h1 h2
      induction r with
      | nil => cases hz
      | cons q u ih2 =>
        rw [List.lookup_cons] at hz
        rw [List.map_cons]
        split at hz
        · cases hz; exact .head _
        · exact .tail _ (ih2 hz)
    rw [List.lookup_cons] at h1 h2
    cases e1 : x == p.1 with
    | true =>
      cases e2 : y == p.1 with
      | true => rw [beq_iff_eq.mp e1, beq_iff_eq.mp e2]
      | false =>
        rw [e1] at h1; rw [e2] at h2
        cases h1
        exact absurd (mem h2) h.1
    | false =>
      cases e2 : y == p.1 with
      | true =>
        rw [e1] at h1; rw [e2] at h2
        cases h2
        exact absurd (mem h1) h.1
      | false =>
        rw [e1] at h1; rw [e2] at h2
        exact ih h.2 h1 h2

theorem not_own_ns {f : Fm} {h : Heap} {news : Led} (N : News f.h₀ f.L h news) {o : Obj} (hm : (f.env.locals, o) ∈ news) : False := (N _ hm).2.1 rfl

theorem store_local {f : Fm} (ok : f.Ok P dp) (hks : f.cs.names = ks) (hnd : names.Nodup) {i : Nat} {x : Str} (hx : names[i]? = some x) (hk : ks.lookup x = some .local) {ρ : Rho} {σ : St} {m : Str → Option Value} {news : Led} {α : Al} {s : Shared}
    {Q : Unit → Shared → Prop} {v : V} {val : Value} (pre : PreS P f names ρ σ m news α s.heap) (R : RV α (Frz α news) v val) (post : PostA P f names α news (ρ.set i (some v)) σ Q s) :
    wpAny (model P.prog P.w) f.A (storeName f.env x val) Q (fun _ _ => False) s := by
  refine storeX_L pre.F pre.N (fun h' F' N' => ?_) ok.kind (by rw [kind_env hks]; exact hk)
  refine post _ _ _ _ _ ⟨⟨F', N', pre.I, fun j y w hy hw => ?_⟩, pre.O⟩ .refl
  rcases rho_set hw with ⟨rfl, rfl⟩ | ⟨hne, hw⟩
  · rw [hx] at hy
    cases hy
    exact ⟨val, R, .inl ⟨by rw [kind_env hks]; exact hk, rfl, if_pos rfl⟩⟩
  · obtain ⟨val', R', va⟩ := pre.E j y w hy hw
    refine ⟨val', R', ?_⟩
    have hyx : y ≠ x := fun e => hne (nodup_str hnd (e ▸ hy) hx)
    rcases va with ⟨a, b, c⟩ | h | ⟨a, o, m₂, b, _⟩
    · exact .inl ⟨a, b, (if_neg hyx).trans c⟩
    · exact .inr (.inl h)
    · exact absurd b fun b => not_own_ns pre.N b
theorem store_cell {f : Fm} (ok : f.Ok P dp) (hks : f.cs.names = ks) (hnd : names.Nodup) {i : Nat} {x : Str} (hx : names[i]? = some x) (hk : ks.lookup x = some .cell) {ρ : Rho} {σ : St} {m : Str → Option Value} {news : Led} {α : Al} {s : Shared}
    {Q : Unit → Shared → Prop} {v : V} {val : Value} (pre : PreS P f names ρ σ m news α s.heap) (R : RV α (Frz α news) v val) (post : PostA P f names α news (ρ.set i (some v)) σ Q s) :
    wpAny (model P.prog P.w) f.A (storeName f.env x val) Q (fun _ _ => False) s := by
  obtain ⟨c, hc⟩ := pre.O.all x (by rw [hks]; exact hk)
  have mem : ∀ {z : Str} {d : Addr}, f.cl.lookup z = some d → d ∈ f.own := by
    intro z d hz
    unfold Fm.own
    generalize f.cl = l at hz
    induction l with
    | nil => cases hz
    | cons q u ih2 =>
      rw [List.lookup_cons] at hz
      rw [List.map_cons]
      split at hz
      · cases hz; exact .head _
      · exact .tail _ (ih2 hz)
  obtain ⟨o, hm, hcell, hnm⟩ := pre.O.here c (mem hc)
  obtain ⟨v₀, hd⟩ : ∃ v₀, o.data = .cell v₀ := by
    unfold isCell at hcell
    split at hcell
    · rename_i v₀ q; exact ⟨v₀, q⟩
    · cases hcell
  obtain ⟨g, U1, U2, fin⟩ := pre.I.replace hm hnm (by unfold isImm; rw [hcell]; rfl)
  refine storeX_C pre.F pre.N hc U1 hd (fun h' o' F' N' hd' => ?_) ok.kind (by rw [kind_env hks]; exact hk)
  obtain ⟨I', hm', kp, fz⟩ := fin o'
  have hcell' : isCell o' = true := by unfold isCell; rw [hd']
  refine post _ _ _ _ _ ⟨⟨F', N', I', fun j y w hy hw => ?_⟩, pre.O.nd, fun d hdd => ?_, pre.O.all⟩ ⟨fun _ _ e => e, fun p hp hn hc' => ?_⟩
  · rcases rho_set hw with ⟨rfl, rfl⟩ | ⟨hne, hw⟩
    · rw [hx] at hy
      cases hy
      exact ⟨val, R.mono (fun _ _ e => e) fz, .inr (.inl ⟨by rw [kind_env hks]; exact hk, c, o', hc, hm', hnm, hd'⟩)⟩
    · obtain ⟨val', R', va⟩ := pre.E j y w hy hw
      refine ⟨val', R'.mono (fun _ _ e => e) fz, ?_⟩
      have hyx : y ≠ x := fun e => hne (nodup_str hnd (e ▸ hy) hx)
      rcases va with h | ⟨a, d, od, b1, b2, b3, b4⟩ | ⟨a, o, m₂, b, _⟩
      · exact .inl h
      · refine .inr (.inl ⟨a, d, od, b1, kp _ b2 ?_, b3, b4⟩)
        intro e
        have e' : d = c := e
        subst e'
        exact hyx (lookup_inj pre.O.nd b1 hc)
      · exact absurd b fun b => not_own_ns pre.N b
  · by_cases e : d = c
    · subst e; exact ⟨o', hm', hcell', hnm⟩
    · obtain ⟨od, a1, a2, a3⟩ := pre.O.here d hdd
      exact ⟨od, kp _ a1 e, a2, a3⟩
  · refine ⟨kp p hp ?_, hn⟩
    intro e
    rcases hc' with hc' | hc'
    · rw [mem_unique pre.I.nn (show (c, p.2) ∈ news from e ▸ hp) hm] at hc'
      rw [hcell] at hc'; cases hc'
    · exact hc' (e ▸ mem hc)

/-! ### targets -/
noncomputable def daName (i : Nat) : DA := fun ρ σ v => some (ρ.set i (some v), σ)
theorem sa_name {x : Str} {pos : Pos} (i : Nat) (hnd : names.Nodup) (hx : names[i]? = some x) (hk : ks.lookup x = some .local) : SA P dp ks names (.Name x pos) (daName i) := by
  intro f ok hks ρ σ v ρ' σ' hv m news α s Q val pre R post
  cases hv
  exact PySem.wpAny_assign_Name (store_local ok hks hnd hx hk pre R post)
theorem sa_cell {x : Str} {pos : Pos} (i : Nat) (hnd : names.Nodup) (hx : names[i]? = some x) (hk : ks.lookup x = some .cell) : SA P dp ks names (.Name x pos) (daName i) := by
  intro f ok hks ρ σ v ρ' σ' hv m news α s Q val pre R post
  cases hv
  exact PySem.wpAny_assign_Name (store_cell ok hks hnd hx hk pre R post)
theorem PreS.step {f : Fm} {ρ : Rho} {σ σ' : St} {m : Str → Option Value} {news news' : Led} {α α' : Al} {h h' : Heap} (p : PreS P f names ρ σ m news α h) (F : Fr f.h₀ f.L h' m) (N : News f.h₀ f.L h' news') (I : Inv P α' news' σ') (G : GLe [] α news α' news') :
    PreS P f names ρ σ' m news' α' h' := ⟨p.toPre.to F N I G, p.O.le G⟩
noncomputable def daAttr (a : DE) (fl : Fld) : DA := fun ρ σ v => (a ρ σ).bind fun r => r.1.toRef.bind fun k => r.2[k]?.bind fun mo => (setF mo fl v).map fun mo' => (ρ, r.2.set k mo')
theorem sa_attr (PO : P.Ok) {o : Expr} {nm : Str} {pos : Pos} {fl : Fld} {a : DE} (hn : nm = fl.name) (ha : SE P dp ks names o a) : SA P dp ks names (.Attribute o nm pos) (daAttr a fl) := by
  subst hn
  intro f ok hks ρ σ v ρ' σ' hv m news α s Q val pre R post
  simp only [daAttr, Option.bind_eq_some_iff, Option.map_eq_some_iff] at hv
  obtain ⟨⟨v1, σ1⟩, h1, k, hk, mo, hmo, mo', hmo', e⟩ := hv
  cases e
  obtain rfl := toRef_ref hk
  show wpAny _ _ (do
    let ov ← holding [val] (eval o f.env)
    standAt pos.atName
    holding [val, ov] (setAttr ov fl.name val)
    release [val, ov] []) _ _ _
  refine wpAny_bind (wpAny_holding (ha f f.env ok ok.fits hks ρ σ _ _ h1 m news α s _ pre.toPre ?_))
  intro h' tk news' α' ov F' N' I' G' R'
  refine wpAny_bind (wpAny_standAt (wpAny_bind (wpAny_holding (setAttr_sound PO ok F' N' I' hmo hmo' R' (R.le G') fun h'' tk' news'' F'' N'' I'' G'' => ?_))))
  have z := post h'' tk' m news'' α' (pre.step F'' N'' I'' (G'.trans G'')) (G'.trans G'').weaken
  exact fun Γ p hΓ => by rw [Sem.wp_release]; exact z
theorem ki_setL_of {v : Value} : ∀ (l : List Value) (k : Nat), k < l.length → ki_setL l k v = some (l.set k v)
  | [], k, h => absurd h (Nat.not_lt_zero _)
  | x :: r, 0, _ => rfl
  | x :: r, k + 1, h => by
    have := ki_setL_of (v := v) r k (by simpa using h)
    unfold ki_setL
    rw [this]
    rfl
noncomputable def putKV (kvs : List (Int × Int)) (i j : Int) : List (Int × Int) :=
  if kvs.any (fun kv => decide (kv.1 = i)) then kvs.map (fun kv => if kv.1 = i then (kv.1, j) else kv) else kvs ++ [(i, j)]
noncomputable def MO.store (σ : St) (k : Nat) (i : Int) (v : V) : MO → Option St
  | .list vs => if 0 ≤ i ∧ i < vs.length then some (σ.set k (.list (vs.set i.toNat v))) else Option.none
  | .dict kvs => v.toInt.bind fun j => if kvs.length + 1 < 2 ^ 20 then some (σ.set k (.dict (putKV kvs i j))) else Option.none
  | _ => Option.none
noncomputable def storeAt (σ : St) (k : Nat) (i v : V) : Option St := i.toInt.bind fun i => σ[k]?.bind (MO.store σ k i v)
theorem RVs.set {α : Al} {Φ : Addr × Obj → Prop} {v : V} {val : Value} (h : RV α Φ v val) : ∀ {vs : List V} {vals : List Value} (k : Nat), RVs α Φ vs vals → RVs α Φ (vs.set k v) (vals.set k val)
  | [], vals, k, r => by rw [r.nil_inv]; exact .nil
  | x :: vs, vals, k, r => by
    obtain ⟨y, vals', rfl, h1, h2⟩ := r.head
    cases k with
    | zero => exact .cons h h2
    | succ k => exact .cons h1 (RVs.set h k h2)
theorem kvr_any {i : Int} : ∀ {kvs : List (Int × Int)} {pairs : List (Int × Value)}, KVR kvs pairs → (pairs.any fun kv => decide (kv.1 = i)) = (kvs.any fun kv => decide (kv.1 = i))
  | [], [], _ => rfl
  | p :: r, q :: u, ⟨h1, _, h3⟩ => by rw [List.any_cons, List.any_cons, kvr_any h3, h1]
  | [], _ :: _, h => h.elim
  | _ :: _, [], h => h.elim
theorem kvr_map {i j : Int} {t : Tok} : ∀ {kvs : List (Int × Int)} {pairs : List (Int × Value)}, KVR kvs pairs → KVR (kvs.map fun kv => if kv.1 = i then (kv.1, j) else kv) (pairs.map fun kv => if kv.1 = i then (kv.1, .int j t) else kv)
  | [], [], _ => trivial
  | p :: r, q :: u, ⟨h1, h2, h3⟩ => by
    rw [List.map_cons, List.map_cons]
    by_cases e : p.1 = i
    · rw [if_pos e, if_pos (h1 ▸ e)]
      exact ⟨h1, ⟨t, rfl⟩, kvr_map h3⟩
    · rw [if_neg e, if_neg (h1 ▸ e)]
      exact ⟨h1, h2, kvr_map h3⟩
  | [], _ :: _, h => h.elim
  | _ :: _, [], h => h.elim
theorem kvr_append {i j : Int} {t : Tok} : ∀ {kvs : List (Int × Int)} {pairs : List (Int × Value)}, KVR kvs pairs → KVR (kvs ++ [(i, j)]) (pairs ++ [(i, .int j t)])
  | [], [], _ => ⟨rfl, ⟨t, rfl⟩, trivial⟩
  | p :: r, q :: u, ⟨h1, h2, h3⟩ => ⟨h1, h2, kvr_append h3⟩
  | [], _ :: _, h => h.elim
  | _ :: _, [], h => h.elim
theorem kvr_put {i j : Int} {t : Tok} {kvs : List (Int × Int)} {pairs : List (Int × Value)} (h : KVR kvs pairs) : KVR (putKV kvs i j) (stored pairs i (.int j t)) := by
  unfold putKV stored
  rw [kvr_any h]
  split
  · exact kvr_map h
  · exact kvr_append h
theorem kvr_len : ∀ {kvs : List (Int × Int)} {pairs : List (Int × Value)}, KVR kvs pairs → pairs.length = kvs.length
  | [], [], _ => rfl
  | p :: r, q :: u, ⟨h1, h2, h3⟩ => by simp [kvr_len h3]
  | [], _ :: _, h => h.elim
  | _ :: _, [], h => h.elim
theorem putKV_len (kvs : List (Int × Int)) (i j : Int) : (putKV kvs i j).length ≤ kvs.length + 1 := by
  unfold putKV
  split
  · simp
  · simp

noncomputable def daSub (a b : DE) : DA := fun ρ σ v => (a ρ σ).bind fun r => r.1.toRef.bind fun k => (b ρ r.2).bind fun u => (storeAt u.2 k u.1 v).map fun σ' => (ρ, σ')
theorem sa_sub {o i : Expr} {pos : Pos} {a b : DE} (ha : SE P dp ks names o a) (hb : SE P dp ks names i b) (he : ∀ env v, assign (.Subscript o i pos) env v = (do
    let ov ← holding [v] (eval o env)
    let iv ← holding [v, ov] (eval i env)
    standAt pos
    holding [v, ov, iv] (setItem ov iv v)
    release [v, ov, iv] [])) : SA P dp ks names (.Subscript o i pos) (daSub a b) := by
  intro f ok hks ρ σ v ρ' σ' hv m news α s Q val pre R post
  simp only [daSub, Option.bind_eq_some_iff, Option.map_eq_some_iff] at hv
  refine cps fun Xc kc => ?_
  obtain ⟨⟨v1, σ1⟩, h1, k, hk, ⟨v2, σ2⟩, h2, σ3, h3, e⟩ := hv
  refine kc ?_; clear kc Xc
  cases e
  obtain rfl := toRef_ref hk
  rw [he]
  refine wpAny_bind (wpAny_holding (ha f f.env ok ok.fits hks ρ σ _ _ h1 m news α s _ pre.toPre ?_))
  intro h' tk news' α' ov F' N' I' G' R'
  refine wpAny_bind (wpAny_holding (hb f f.env ok ok.fits hks ρ σ1 _ _ h2 m news' α' _ _ (pre.toPre.to F' N' I' G') ?_))
  intro h'' tk' news'' α'' iv F'' N'' I'' G'' R''
  have RV1 := (R.le G').le G''
  have RO1 := R'.le G''
  have fin : ∀ h3 tk3 news3, Fr f.h₀ f.L h3 m → News f.h₀ f.L h3 news3 → Inv P α'' news3 σ' → GLe [] α'' news'' α'' news3 → wpAny (model P.prog P.w) f.A (release [val, ov, iv] []) Q (fun _ _ => False) { s with heap := h3, toks := tk3 } := by
    intro h3 tk3 news3 F3 N3 I3 G3
    have G := (G'.trans G'').trans G3
    have z := post h3 tk3 m news3 α'' (pre.step F3 N3 I3 G) G.weaken
    exact fun Γ p hΓ => by rw [Sem.wp_release]; exact z
  refine wpAny_bind (wpAny_standAt (wpAny_bind (wpAny_holding ?_)))
  clear post pre h1 h2 ha hb he R R' F' N' I' hk
  refine cps fun Xc kc => ?_
  dsimp only at h3
  obtain ⟨j, hi, h4⟩ := Option.bind_eq_some_iff.mp h3
  clear h3
  obtain ⟨mo, hkv, h3⟩ := Option.bind_eq_some_iff.mp h4
  obtain rfl := toInt_int hi
  clear hi h4
  cases mo <;> first | cases h3 | skip
  case list vs =>
    dsimp only [MO.store] at h3
    split at h3
    case isFalse => cases h3
    case isTrue hj =>
    cases h3
    cases R'' with | int _ t =>
    refine kc ?_; clear kc Xc
    obtain ⟨d, vals, n, rfl, e1, e2, r, hl⟩ := I''.list (by unfold lstAt; rw [hkv]) RO1
    obtain ⟨g, U1, U2, fin'⟩ := I''.update (mo' := .list (vs.set j.toNat _)) e1 hkv e2
    refine ki_set F'' N'' hj.1 (by lia) (ki_setL_of vals j.toNat (by rw [← r.1]; lia)) (U2 _) fun h3 F3 N3 => ?_
    obtain ⟨I3, G3⟩ := fin' (listOf (List.toArray (vals.set j.toNat val)) n) (fun Φ hΦ eΦ => ⟨rfl, by rw [List.length_set]; exact hl, _, _, rfl, eΦ ▸ ((r.set RV1 j.toNat).mono (fun _ _ e => e) hΦ)⟩)
    exact fin h3 _ _ F3 N3 I3 G3
  case dict kvs =>
    obtain ⟨jv, hi, h4⟩ := Option.bind_eq_some_iff.mp h3
    obtain rfl := toInt_int hi
    clear hi h3
    have h3 := h4
    clear h4
    split at h3
    case isFalse => cases h3
    case isTrue hj =>
    cases h3
    cases R'' with | int _ t =>
    cases RV1 with | int _ t' =>
    refine kc ?_; clear kc Xc
    obtain ⟨x, d, ob, q1, q2, ro⟩ := I''.at hkv
    cases RO1 with | ref _ y c q =>
    rw [q1] at q
    cases q
    obtain ⟨rfl, lo, hl, pairs, hd, kr⟩ := ro
    obtain ⟨g, U1, U2, fin'⟩ := I''.update (mo' := .dict (putKV kvs j jv)) q1 hkv q2
    refine kda_set F'' N'' U1 hd (intKind_is P.prog P.w j t) (by rw [kvr_len kr, sizeLine_eq]; lia) fun h3 o' F3 N3 hd' => ?_
    obtain ⟨I3, G3⟩ := fin' o' (fun Φ hΦ eΦ => ⟨rfl, lo, Nat.lt_of_le_of_lt (putKV_len _ _ _) hj, _, hd', kvr_put kr⟩)
    exact fin h3 _ _ F3 N3 I3 G3

/-! ### targets that are tuples -/
noncomputable def daMany : List DA → Rho → St → List V → Option (Rho × St)
  | [], ρ, σ, [] => some (ρ, σ)
  | d :: ds, ρ, σ, v :: vs => (d ρ σ v).bind fun r => daMany ds r.1 r.2 vs
  | _, _, _, _ => Option.none
inductive SAs (P : Pg) (dp : Nat) (ks : Ks) (names : List Str) : List Expr → List DA → Prop
  | nil : SAs P dp ks names [] []
  | cons {t : Expr} {ts : List Expr} {d : DA} {ds : List DA} : SA P dp ks names t d → (∀ env, assignEach (t :: ts) env = (false, assign t env) :: assignEach ts env) → SAs P dp ks names ts ds → SAs P dp ks names (t :: ts) (d :: ds)
theorem SAs.stars {ts : List Expr} {ds : List DA} (h : SAs P dp ks names ts ds) (env : Env) : (assignEach ts env).findIdx? (·.1) = Option.none ∧ (assignEach ts env).length = ts.length ∧ ds.length = ts.length := by
  induction h with
  | nil => exact ⟨rfl, rfl, rfl⟩
  | cons _ he _ ih =>
    rw [he env]
    refine ⟨?_, by simp [ih.2.1], by simp [ih.2.2]⟩
    rw [List.findIdx?_cons]
    simp [ih.1]
theorem daMany_len : ∀ {ds : List DA} {ρ : Rho} {σ : St} {vs : List V} {r : Rho × St}, daMany ds ρ σ vs = some r → vs.length = ds.length
  | [], _, _, [], _, _ => rfl
  | [], _, _, _ :: _, _, h => by cases h
  | _ :: _, _, _, [], _, h => by cases h
  | d :: ds, ρ, σ, v :: vs, r, h => by
    simp only [daMany, Option.bind_eq_some_iff] at h
    obtain ⟨x, _, h2⟩ := h
    simp [daMany_len h2]
theorem sas_sound {ts : List Expr} {ds : List DA} (h : SAs P dp ks names ts ds) {f : Fm} (ok : f.Ok P dp) (hks : f.cs.names = ks) : ∀ {ρ : Rho} {σ : St} {vs : List V} {ρ' : Rho} {σ' : St}, daMany ds ρ σ vs = some (ρ', σ') →
    ∀ {m : Str → Option Value} {news : Led} {α : Al} {s : Shared} {Q : Unit → Shared → Prop} {vals : List Value}, PreS P f names ρ σ m news α s.heap → RVs α (Frz α news) vs vals → PostA P f names α news ρ' σ' Q s →
      wpAny (model P.prog P.w) f.A (assignInOrder ((assignEach ts f.env).map (·.2)) vals) Q (fun _ _ => False) s := by
  induction h with
  | nil =>
    intro ρ σ vs ρ' σ' hd m news α s Q vals pre R post
    cases vs with
    | nil => cases hd; exact assignInOrder_nil (post _ _ _ _ _ pre .refl)
    | cons _ _ => cases hd
  | cons ha he _ ih =>
    intro ρ σ vs ρ' σ' hd m news α s Q vals pre R post
    cases vs with
    | nil => cases hd
    | cons v vs =>
      simp only [daMany, Option.bind_eq_some_iff] at hd
      obtain ⟨⟨ρ1, σ1⟩, h1, h2⟩ := hd
      obtain ⟨val, vals', rfl, r1, r2⟩ := R.head
      rw [he f.env]
      refine assignInOrder_cons (ha f ok hks ρ σ v _ _ h1 m news α s _ val pre r1 ?_)
      intro h' tk m' news' α' pre' G'
      refine ih h2 pre' (r2.le G') ?_
      intro h'' tk' m'' news'' α'' pre'' G''
      exact post _ _ _ _ _ pre'' (G'.trans G'')
noncomputable def daTup (ds : List DA) : DA := fun ρ σ v => match v with
  | .tup vs => daMany ds ρ σ vs
  | _ => Option.none
theorem tup_obj {α : Al} {news : Led} {vs : List V} {val : Value} (R : RV α (Frz α news) (.tup vs) val) : ∃ a vals n, val = .ref a ∧ (a, ({ cls := .type "tuple", data := .seq (List.toArray vals) n } : Obj)) ∈ news ∧ RVs α (Frz α news) vs vals := by
  cases R with | tup _ vals a n hf hl hr => exact ⟨a, vals, n, rfl, hf.1, hl, hr⟩
theorem assign_tuple_eq (ts : List Expr) (k : Nat) (pos : Pos) (env : Env) (v : Value) : assign (.Tuple ts k pos) env v = (do standAt pos; unpack v (assignEach ts env)) := rfl
theorem sa_tup {ts : List Expr} {k : Nat} {pos : Pos} {ds : List DA} (h : SAs P dp ks names ts ds) : SA P dp ks names (.Tuple ts k pos) (daTup ds) := by
  intro f ok hks ρ σ v ρ' σ' hv m news α s Q val pre R post
  cases v with
  | tup vs =>
    have hv' : daMany ds ρ σ vs = some (ρ', σ') := hv
    obtain ⟨a, vals, n, rfl, hm, rs⟩ := tup_obj R
    obtain ⟨s1, s2, s3⟩ := h.stars f.env
    have ht : IsTup s.heap a (List.toArray vals) := ⟨_, (pre.N _ hm).1, rfl, n, rfl⟩
    have hz : ts.length = (List.toArray vals).size := by rw [List.size_toArray, ← rs.1, daMany_len hv', s3]
    rw [assign_tuple_eq]
    refine wpAny_bind (wpAny_standAt ?_)
    unfold unpack
    rw [s1, s2]
    refine wpAny_bind (wpAny_holding (unpackItemsN_ pre.F pre.N ht ok.handled hz fun h' F' N' => ?_))
    have pre' : PreS P f names ρ σ m news α h' := ⟨⟨F', N', pre.I, pre.E⟩, pre.O⟩
    have z := sas_sound h ok hks hv' (m := m) (news := news) (α := α) (s := { s with heap := h' }) (Q := Q) (vals := vals) pre' rs (fun h'' tk' m'' news'' α'' pre'' G'' => post h'' tk' m'' news'' α'' pre'' G'')
    exact z
  | _ => cases hv

/-! ### statements -/
noncomputable def dsAssign (d : DA) (a : DE) : DS := fun ρ σ => (a ρ σ).bind fun r => (d ρ r.2 r.1).map fun u => (.next, u.1, u.2)
theorem sx_assign {t value : Expr} {pos : Pos} {d : DA} {a : DE} (hd : SA P dp ks names t d) (ha : SE P dp ks names value a) (hs : ∀ env : Env, swapsWithSole [t] value pos.line env = pure false) (hw : ∀ env : Env, swappedStores [t] value env = pure Option.none)
    (he : ∀ env : Env, (assignEach [t] env).map (·.2) = [assign t env]) : SX P dp ks names (.Assign [t] value pos) (dsAssign d a) := by
  intro f ok hks ρ σ fl ρ' σ' hv m news α s Q pre post
  simp only [dsAssign, Option.bind_eq_some_iff, Option.map_eq_some_iff] at hv
  obtain ⟨⟨v1, σ1⟩, h1, ⟨ρ2, σ2⟩, h2, e⟩ := hv
  cases e
  rw [exec_Assign]
  refine wpAny_bind (wpAny_standAt ?_)
  rw [hs]
  refine wpAny_bind (wpAny_pure ?_)
  rw [if_neg (by decide)]
  refine wpAny_bind (ha f f.env ok ok.fits hks ρ σ _ _ h1 m news α s _ pre.toPre ?_)
  intro h' tk news' α' val F' N' I' G' R'
  rw [hw, he]
  refine wpAny_bind (wpAny_pure ?_)
  show wpAny _ _ (do assignAll val [assign t f.env]; pure Flow.next) _ _ _
  refine wpAny_bind (hd f ok hks ρ σ1 _ _ _ h2 m news' α' _ _ val (pre.step F' N' I' G') R' ?_)
  intro h'' tk' m'' news'' α'' pre'' G''
  exact wpAny_pure (post _ _ _ _ _ pre'' (G'.weaken.trans G''))

noncomputable def dsExpr (a : DE) : DS := fun ρ σ => (a ρ σ).bind fun r => match r.1 with | .none => some (.next, ρ, r.2) | _ => Option.none
theorem sx_expr {e : Expr} {pos : Pos} {a : DE} (ha : SE P dp ks names e a) (hs : ∀ env : Env, swapsWith e Option.none pos.line env = pure false) : SX P dp ks names (.Expr e pos) (dsExpr a) := by
  intro f ok hks ρ σ fl ρ' σ' hv m news α s Q pre post
  simp only [dsExpr, Option.bind_eq_some_iff] at hv
  obtain ⟨⟨v1, σ1⟩, h1, hv⟩ := hv
  split at hv
  case h_2 => cases hv
  rename_i hn
  cases hv
  dsimp only at hn
  subst hn
  refine wpAny_Expr (ha f f.env ok ok.fits hks ρ σ _ _ h1 m news α s _ pre.toPre ?_) (by unfold interactive; rw [show f.env.scope.kind = .function from ok.kind]; rfl) (hs _)
  intro h' tk news' α' val F' N' I' G' R'
  cases R'
  exact post _ _ _ _ _ (pre.step F' N' I' G') G'.weaken
noncomputable def dsRet (a : DE) : DS := fun ρ σ => (a ρ σ).map fun r => (.ret r.1, ρ, r.2)
theorem sx_ret {e : Expr} {pos : Pos} {a : DE} (ha : SE P dp ks names e a) : SX P dp ks names (.Return (some e) pos) (dsRet a) := by
  intro f ok hks ρ σ fl ρ' σ' hv m news α s Q pre post
  simp only [dsRet, Option.map_eq_some_iff] at hv
  obtain ⟨⟨v1, σ1⟩, h1, e⟩ := hv
  cases e
  refine wpAny_Return_some (ha f f.env ok ok.fits hks ρ σ _ _ h1 m news α s _ pre.toPre ?_)
  intro h' tk news' α' val F' N' I' G' R'
  exact post _ _ _ _ _ (pre.step F' N' I' G') G'.weaken _ R'
noncomputable def dsRetN : DS := fun ρ σ => some (.ret .none, ρ, σ)
theorem sx_retn {pos : Pos} : SX P dp ks names (.Return Option.none pos) dsRetN := by
  intro f ok hks ρ σ fl ρ' σ' hv m news α s Q pre post
  cases hv
  exact wpAny_Return_none (post _ _ _ _ _ pre .refl _ .none)
noncomputable def dsNil : DS := fun ρ σ => some (.next, ρ, σ)
noncomputable def dsSeq (a b : DS) : DS := fun ρ σ => (a ρ σ).bind fun r => match r.1 with | .next => b r.2.1 r.2.2 | .ret v => some (.ret v, r.2.1, r.2.2)
theorem sxs_nil : SXs P dp ks names [] dsNil := by
  intro f ok hks ρ σ fl ρ' σ' hv m news α s Q pre post
  cases hv
  exact wpAny_execs_nil (post _ _ _ _ _ pre .refl)
theorem sxs_cons {st : Stmt} {rest : List Stmt} {a b : DS} (ha : SX P dp ks names st a) (hb : SXs P dp ks names rest b) : SXs P dp ks names (st :: rest) (dsSeq a b) := by
  intro f ok hks ρ σ fl ρ' σ' hv m news α s Q pre post
  simp only [dsSeq, Option.bind_eq_some_iff] at hv
  obtain ⟨⟨fl1, ρ1, σ1⟩, h1, hv⟩ := hv
  refine wpAny_execs_cons (ha f ok hks ρ σ _ _ _ h1 m news α s _ pre ?_)
  intro h' tk m' news' α' pre' G'
  cases fl1 with
  | next =>
    refine hb f ok hks ρ1 σ1 _ _ _ hv m' news' α' _ _ pre' ?_
    intro h'' tk' m'' news'' α'' pre'' G''
    exact post _ _ _ _ _ pre'' (G'.trans G'')
  | ret v =>
    cases hv
    intro val R
    exact post _ _ _ _ _ pre' G' val R
theorem sxs_one {st : Stmt} {a : DS} (ha : SX P dp ks names st a) : SXs P dp ks names [st] a := by
  intro f ok hks ρ σ fl ρ' σ' hv m news α s Q pre post
  refine wpAny_execs_cons (ha f ok hks ρ σ _ _ _ hv m news α s _ pre ?_)
  intro h' tk m' news' α' pre' G'
  cases fl with
  | next => exact wpAny_execs_nil (post _ _ _ _ _ pre' G')
  | ret v => intro val R; exact post _ _ _ _ _ pre' G' val R
noncomputable def dsIf (t : DE) (a b : DS) : DS := fun ρ σ => (t ρ σ).bind fun r => r.1.toBool.bind fun x => if x then a ρ r.2 else b ρ r.2
theorem sx_if {t : Expr} {body orelse : List Stmt} {pos : Pos} {c : DE} {a b : DS} (hc : ST P dp ks names t c) (ha : SXs P dp ks names body a) (hb : SXs P dp ks names orelse b) : SX P dp ks names (.If t body orelse pos) (dsIf c a b) := by
  intro f ok hks ρ σ fl ρ' σ' hv m news α s Q pre post
  simp only [dsIf, Option.bind_eq_some_iff] at hv
  obtain ⟨⟨v1, σ1⟩, h1, x, hx, hv⟩ := hv
  obtain rfl := toBool_bool hx
  refine wpAny_If (hc f f.env ok ok.fits hks ρ σ _ _ h1 m news α s _ pre.toPre ?_)
  intro h' tk news' α' F' N' I' G'
  have go : ∀ {l : List Stmt} {d : DS}, SXs P dp ks names l d → d ρ σ1 = some (fl, ρ', σ') → wpAny (model P.prog P.w) f.A (execs l f.env) Q (fun _ _ => False) { s with heap := h', toks := tk } := fun hd h2 =>
    hd f ok hks ρ σ1 _ _ _ h2 m news' α' _ _ (pre.step F' N' I' G') fun h'' tk' m'' news'' α'' pre'' G'' => post _ _ _ _ _ pre'' (G'.weaken.trans G'')
  cases x with
  | true => simp only [if_true] at hv ⊢; exact go ha hv
  | false => simp only [Bool.false_eq_true, if_false] at hv ⊢; exact go hb hv
end
noncomputable def loopN {S R : Type} (step : S → Option (Sum S R)) : Nat → S → Option R
  | 0, _ => Option.none
  | n + 1, s => match step s with
    | Option.none => Option.none
    | some (.inl s') => loopN step n s'
    | some (.inr r) => some r
theorem loopN_up {S R : Type} {step : S → Option (Sum S R)} : ∀ {n : Nat} {s : S} {r : R}, loopN step n s = some r → ∀ m, n ≤ m → loopN step m s = some r
  | 0, s, r, h, _, _ => by cases h
  | n + 1, s, r, h, 0, hm => absurd hm (Nat.not_succ_le_zero n)
  | n + 1, s, r, h, m + 1, hm => by
    unfold loopN at h ⊢
    split at h
    · cases h
    · exact loopN_up h m (Nat.le_of_succ_le_succ hm)
    · exact h
theorem loopN_one {S R : Type} {step : S → Option (Sum S R)} {n m : Nat} {s : S} {r r' : R} (h : loopN step n s = some r) (h' : loopN step m s = some r') : r = r' := by
  rcases Nat.le_total n m with q | q
  · exact Option.some.inj ((loopN_up h m q).symm.trans h')
  · exact Option.some.inj (h.symm.trans (loopN_up h' n q))
open Classical in
/-- a loop of any length -/
noncomputable def loopM {S R : Type} (step : S → Option (Sum S R)) (s : S) : Option R := if h : ∃ r n, loopN step n s = some r then some h.choose else Option.none
theorem loopM_iff {S R : Type} {step : S → Option (Sum S R)} {s : S} {r : R} : loopM step s = some r ↔ ∃ n, loopN step n s = some r := by
  unfold loopM
  constructor
  · intro h
    split at h
    · rename_i e
      obtain ⟨n, hn⟩ := e.choose_spec
      exact ⟨n, hn.trans h⟩
    · cases h
  · rintro ⟨n, hn⟩
    have e : ∃ r n, loopN step n s = some r := ⟨r, n, hn⟩
    rw [dif_pos e]
    obtain ⟨m, hm⟩ := e.choose_spec
    rw [loopN_one hm hn]
theorem loopM_eq {S R : Type} (step : S → Option (Sum S R)) (s : S) : loopM step s = (step s).bind fun r => match r with
    | .inl s' => loopM step s'
    | .inr r => some r := by
  apply Option.ext
  intro r
  rw [loopM_iff]
  cases hs : step s with
  | none =>
    simp only [Option.bind_none]
    constructor
    · rintro ⟨n, hn⟩
      cases n with
      | zero => cases hn
      | succ n => unfold loopN at hn; rw [hs] at hn; cases hn
    · intro h; cases h
  | some x =>
    simp only [Option.bind_some]
    cases x with
    | inl s' =>
      simp only []
      rw [loopM_iff]
      constructor
      · rintro ⟨n, hn⟩
        cases n with
        | zero => cases hn
        | succ n => unfold loopN at hn; rw [hs] at hn; exact ⟨n, hn⟩
      · rintro ⟨n, hn⟩
        exact ⟨n + 1, by unfold loopN; rw [hs]; exact hn⟩
    | inr r' =>
      simp only []
      constructor
      · rintro ⟨n, hn⟩
        cases n with
        | zero => cases hn
        | succ n => unfold loopN at hn; rw [hs] at hn; exact hn
      · intro h
        exact ⟨1, by unfold loopN; rw [hs]; exact h⟩
theorem loopM_ind {S R : Type} (step : S → Option (Sum S R)) (motive : S → R → Prop)
    (h : ∀ s r, (∃ s', step s = some (.inl s') ∧ motive s' r) ∨ step s = some (.inr r) → motive s r) : ∀ s r, loopM step s = some r → motive s r := by
  intro s r e
  obtain ⟨n, hn⟩ := loopM_iff.mp e
  clear e
  induction n generalizing s with
  | zero => cases hn
  | succ n ih =>
    unfold loopN at hn
    split at hn
    · cases hn
    · rename_i s' e
      exact h s r (.inl ⟨s', e, ih s' hn⟩)
    · rename_i r' e
      cases hn
      exact h s _ (.inr e)

section
variable {P : Pg} {dp : Nat} {ks : Ks} {names : List Str}

noncomputable def whStep (t : DE) (a : DS) (x : Rho × St) : Option (Sum (Rho × St) (Fl × Rho × St)) :=
  (t x.1 x.2).bind fun r => r.1.toBool.bind fun c => if c then (a x.1 r.2).map fun u => match u.1 with | .next => .inl u.2 | .ret v => .inr (.ret v, u.2) else some (.inr (.next, x.1, r.2))
noncomputable def dsWhile (t : DE) (a : DS) : DS := fun ρ σ => loopM (whStep t a) (ρ, σ)
theorem sx_while {t : Expr} {body : List Stmt} {pos : Pos} {c : DE} {a : DS} (hc : ST P dp ks names t c) (ha : SXs P dp ks names body a) : SX P dp ks names (.While t body [] pos) (dsWhile c a) := by
  intro f ok hks ρ σ fl ρ' σ' hv m news α s Q pre post
  refine whl_start 0 ?_
  have key := loopM_ind (whStep c a) (fun x r => ∀ m news α (s : Shared), PreS P f names x.1 x.2 m news α s.heap → PostS P f names α news r.1 r.2.1 r.2.2 Q s →
      WhlRest P.prog P.w f.A (fun _ _ => False) f.env t body [] Q 0 s) ?_ (ρ, σ) (fl, ρ', σ') hv
  · exact key m news α s pre post
  rintro ⟨ρ0, σ0⟩ ⟨fl0, ρ2, σ2⟩ hr m0 news0 α0 s0 pre0 post0
  refine whl_turn (k := 0) .never ?_
  have hst : ∃ b σ1, c ρ0 σ0 = some (.bool b, σ1) ∧ (if b then (a ρ0 σ1).map fun u => match u.1 with | .next => Sum.inl u.2 | .ret v => Sum.inr (Fl.ret v, u.2) else some (.inr (.next, ρ0, σ1))) = whStep c a (ρ0, σ0) := by
    have : ∃ y, whStep c a (ρ0, σ0) = some y := by rcases hr with ⟨s', e, _⟩ | e <;> exact ⟨_, e⟩
    obtain ⟨y, hy⟩ := this
    have hy' := hy
    unfold whStep at hy'
    simp only [Option.bind_eq_some_iff] at hy'
    refine cps fun Xc kc => ?_
    obtain ⟨⟨v1, σ1⟩, h1, b, hb, h2⟩ := hy'
    refine kc ?_; clear kc Xc
    obtain rfl := toBool_bool hb
    exact ⟨b, σ1, h1, h2.trans hy.symm⟩
  refine cps fun Xc kc => ?_
  obtain ⟨b, σ1, h1, h2⟩ := hst
  refine kc ?_; clear kc Xc
  refine hc f f.env ok ok.fits hks ρ0 σ0 _ _ h1 m0 news0 α0 s0 _ pre0.toPre ?_
  intro h' tk news' α' F' N' I' G'
  have pre1 := pre0.step F' N' I' G'
  cases b with
  | false =>
    simp only [Bool.false_eq_true, if_false] at h2
    refine WhlIf.no rfl ?_
    rw [← h2] at hr
    rcases hr with ⟨s', e, _⟩ | e
    · cases e
    · cases e
      exact wpAny_execs_nil (post0 h' tk m0 news' α' pre1 G'.weaken)
  | true =>
    simp only [if_true] at h2
    refine WhlIf.yes rfl ?_
    rw [← h2] at hr
    cases hq : a ρ0 σ1 with
    | none => rw [hq] at hr; rcases hr with ⟨s', e, _⟩ | e <;> cases e
    | some u =>
      obtain ⟨fl1, ρ1, σ3⟩ := u
      rw [hq] at hr
      refine ha f ok hks ρ0 σ1 _ _ _ hq m0 news' α' _ _ pre1 ?_
      intro h'' tk' m'' news'' α'' pre'' G''
      cases fl1 with
      | next =>
        rcases hr with ⟨s', e, ih⟩ | e
        · cases e
          have ih' := ih m'' news'' α'' { s0 with heap := h'', toks := tk' } pre'' (fun h3 tk3 m3 news3 α3 pre3 G3 => post0 h3 tk3 m3 news3 α3 pre3 ((G'.weaken.trans G'').trans G3))
          exact ih'
        · cases e
      | ret v =>
        rcases hr with ⟨s', e, ih⟩ | e
        · cases e
        · cases e
          intro val R
          exact post0 h'' tk' m'' news'' α'' pre'' (G'.weaken.trans G'') val R
end
section
variable {P : Pg} {dp : Nat} {ks : Ks} {names : List Str}

noncomputable def flVal : Fl → V
  | .next => .none
  | .ret v => v
noncomputable def rho0 (n : Nat) (vs : List V) : Rho := vs.map some ++ List.replicate (n - vs.length) Option.none
noncomputable def dFun (np nn : Nat) (body : DS) : List V → St → Option (V × St) := fun vs σ => if vs.length = np then (body (rho0 nn vs) σ).map fun r => (flVal r.1, r.2.2) else Option.none

theorem lookup_zip : ∀ {ps : List Str} {vals : List Value}, ps.Nodup → ∀ {i : Nat} {x : Str} {v : Value}, ps[i]? = some x → vals[i]? = some v → (ps.zip vals).reverse.lookup x = some v
  | [], _, _, i, x, v, h, _ => by simp at h
  | p :: ps, [], _, i, x, v, _, h => by simp at h
  | p :: ps, w :: vals, nd, i, x, v, h1, h2 => by
    rw [List.nodup_cons] at nd
    rw [List.zip_cons_cons, List.reverse_cons, List.lookup_append]
    cases i with
    | zero =>
      simp at h1 h2
      subst h1; subst h2
      have : (ps.zip vals).reverse.lookup p = Option.none := by
        rw [List.lookup_eq_none_iff]
        intro q hq
        have := (List.of_mem_zip (List.mem_reverse.mp hq)).1
        have hne : p ≠ q.1 := fun e => nd.1 (e ▸ this)
        simpa using hne
      rw [this]
      simp
    | succ i =>
      simp at h1 h2
      rw [lookup_zip nd.2 h1 h2]
      rfl
theorem rho0_get {n : Nat} {vs : List V} {i : Nat} {v : V} (h : (rho0 n vs)[i]? = some (some v)) : vs[i]? = some v := by
  unfold rho0 at h
  by_cases hi : i < vs.length
  · rw [List.getElem?_append_left (by simpa using hi), List.getElem?_map] at h
    cases hq : vs[i]? with
    | none => rw [hq] at h; cases h
    | some w => rw [hq] at h; simpa using h
  · rw [List.getElem?_append_right (by simpa using hi)] at h
    rw [List.getElem?_replicate] at h
    split at h <;> cases h

theorem deeper_ok {f : Fm} (ok : f.Ok P (dp + 1)) {g : Heap} {L' fa : Addr} {qual : Str} {scope : Scope} {cdv : Value} {cl : List (Str × Addr)} (B : Below f.A f.base (f.env :: f.outer) g) (X : P.K.In g) (T : Top P.p P.loose P.mean P.mg P.mb g) (hk : scope.kind = .function) :
    Fm.Ok P ⟨f.A.deeper (envX qual scope L' fa cdv cl), f.A, f.base, g, f.env :: f.outer, qual, scope, L', fa, cdv, cl⟩ dp :=
  ⟨B, by show f.A.frames.map _ = _; rw [ok.frames]; rfl, X, T, ok.handled, hk, by have := ok.depth; show f.A.depth + 1 + dp < _; lia, by have := ok.units; show f.A.units + 3 + 8 * dp + 16 < _; lia⟩

theorem sf_def {fa : Addr} {name qual : Str} {params : Arguments} {body : List Stmt} {scope : Scope} {dV kV doc pm cdv ct oc : Value} {an od : Option Addr} {osl : Array (Option Value)} {ps : List Str} {d : DS}
    (ho : P.K.lookup fa = some ⟨oc, od, .func (fnOf name qual params body scope dV kV doc pm an cdv ct), osl⟩) (hcd : codeIn P.K cdv qual = true)
    (hbind : ∀ vals : List Value, vals.length = ps.length → bindArgs (fnOf name qual params body scope dV kV doc pm an cdv ct) ⟨vals, []⟩ = pure (ps.zip vals))
    (hps : ∀ i x, i < ps.length → names[i]? = some x → ps[i]? = some x) (hnd : ps.Nodup) (hl : ∀ x ∈ ps, ks.lookup x = some .local) (hks : scope.names = ks)
    (hb : SXs P dp ks names body d) (hco : scope.isCoroutine = false) (hgen : scope.isGenerator = false) (hk : scope.kind = .function) (hcell : ∀ x ∈ scope.names, x.2 ≠ .cell) :
    SF P (dp + 1) (.ref fa) (dFun ps.length names.length d) := by
  intro f ok vs σ v σ' hv m news α s Q vals F N I R post
  unfold dFun at hv
  split at hv
  case isFalse => cases hv
  case isTrue hlen =>
  refine cps fun Xc kc => ?_
  obtain ⟨⟨fl, ρ', σ2⟩, hbody, e⟩ := Option.map_eq_some_iff.mp hv
  refine kc ?_; clear kc Xc
  cases e
  have hvl : vals.length = ps.length := R.1 ▸ hlen
  refine wpAny_call (code_def ok.below F ok.kin N ok.top ok.frames rfl ok.kind ho hcd (by have := ok.depth; lia) (.of_eq (hbind vals hvl)) ?_ ?_ hco hgen hk hcell)
  · intro y hy
    rw [hks]
    exact hl _ (List.of_mem_zip hy).1
  intro g L' h₁ FG F' N' B' X' T'
  have ok' := deeper_ok (L' := L') (fa := fa) (qual := qual) (cdv := cdv) (cl := []) ok B' X' T' hk
  refine wpAny_mono (hb _ ok' hks (rho0 names.length vs) σ _ _ _ hbody (fun y => (ps.zip vals).reverse.lookup y) news α { s with heap := h₁, toks := s.toks + (ps.zip vals).length } _ ⟨⟨F', N', I, ?_⟩, ⟨.nil, fun c hc => (by cases hc), fun x hx => ?_⟩⟩ ?_) (fun _ _ x => x) (fun _ _ x => x.elim)
  · intro i x w hx hw
    have hw' := rho0_get hw
    have hi : i < ps.length := by
      have := (List.getElem?_eq_some_iff.mp hw').1
      lia
    obtain ⟨val, h1, h2⟩ := R.at hw'
    have hxp := hps i x hi hx
    exact ⟨val, h2, .inl ⟨by show scope.names.lookup x = _; rw [hks]; exact hl x (List.mem_of_getElem? hxp), rfl, lookup_zip hnd hxp h1⟩⟩
  · exfalso
    have hx' : scope.names.lookup x = some .cell := hx
    generalize scope.names = l at hx' hcell
    induction l with
    | nil => cases hx'
    | cons p r ih =>
      rw [List.lookup_cons] at hx'
      split at hx'
      · exact hcell p (.head _) (Option.some.inj hx')
      · exact ih hx' fun y hy => hcell y (.tail _ hy)
  · intro h' tk m' news' α' pre'' G''
    cases fl with
    | next => exact leaveK_ pre''.F pre''.N fun F0 N0 => post _ _ _ _ _ F0 N0 pre''.I G'' .none
    | ret v => exact fun val rv => leaveK_ pre''.F pre''.N fun F0 N0 => post _ _ _ _ _ F0 N0 pre''.I G'' rv

/-! ### defs with captured names -/
theorem cells_in {cm : Str → Option Value} {α : Al} {news : Led} {σ : St} {cl : List (Str × Addr)} {cells : List (Addr × Obj)} (x : CellsAre cm cl cells) (nd : (cl.map (·.2)).Nodup) (hf : ∀ c ∈ cl.map (·.2), ∀ p ∈ news, p.1 ≠ c) (I : Inv P α news σ) :
    Inv P α (cells ++ news) σ ∧ GLe [] α news α (cells ++ news) ∧ (∀ n c, cl.lookup n = some c → ∃ o, (c, o) ∈ cells ∧ o.data = .cell (cm n)) ∧ (∀ c ∈ cl.map (·.2), c ∉ muts α) ∧ (cells.map (·.1) = cl.map (·.2)) ∧ ∀ c ∈ cl.map (·.2), ∃ o, (c, o) ∈ cells ∧ isCell o = true := by
  induction x with
  | nil => exact ⟨I, .refl, fun n c h => (by cases h), fun c h => (by cases h), rfl, fun c h => (by cases h)⟩
  | @cons n c o cs cells' hd hr ih =>
    rw [List.map_cons, List.nodup_cons] at nd
    refine cps fun Xc kc => ?_
    obtain ⟨I1, G1, k1, k2, k3, k4⟩ := ih nd.2 (fun c hc => hf c (.tail _ hc))
    refine kc ?_; clear kc Xc
    have fr : ∀ p ∈ cells' ++ news, p.1 ≠ c := by
      intro p hp e
      rcases List.mem_append.mp hp with hp | hp
      · exact nd.1 (by rw [← e, ← k3]; exact List.mem_map_of_mem (f := (·.1)) hp)
      · exact hf c (.head _) p hp e
    obtain ⟨I2, G2⟩ := I1.beside (o := o) fr
    refine ⟨I2, G1.trans G2, fun n' c' h => ?_, fun c' h => ?_, by rw [List.map_cons, List.map_cons, k3], fun c' h => ?_⟩
    · rw [List.lookup_cons] at h
      split at h
      · rename_i q
        cases h
        rw [beq_iff_eq.mp q]
        exact ⟨o, .head _, hd⟩
      · obtain ⟨o', a, b⟩ := k1 n' c' h
        exact ⟨o', .tail _ a, b⟩
    · rw [List.map_cons] at h
      rcases List.mem_cons.mp h with rfl | h
      · exact I.fresh_not (hf _ (.head _))
      · exact k2 c' h
    · rw [List.map_cons] at h
      rcases List.mem_cons.mp h with rfl | h
      · exact ⟨o, .head _, by unfold isCell; rw [hd]⟩
      · obtain ⟨o', a, b⟩ := k4 c' h
        exact ⟨o', .tail _ a, b⟩
theorem bindL_miss {kindOf : Str → Option NameKind} {x : Str} : ∀ (l : List (Str × Value)) (m : Str → Option Value), (∀ p ∈ l, p.1 ≠ x) → bindL kindOf l m x = m x
  | [], _, _ => rfl
  | (n, v) :: r, m, h => by
    unfold bindL
    rw [bindL_miss r _ fun p hp => h p (.tail _ hp)]
    split
    · exact if_neg (Ne.symm (h (n, v) (.head _)))
    · rfl
theorem bindC_miss {kindOf : Str → Option NameKind} {x : Str} : ∀ (l : List (Str × Value)) (m : Str → Option Value), (∀ p ∈ l, p.1 ≠ x) → bindC kindOf l m x = m x
  | [], _, _ => rfl
  | (n, v) :: r, m, h => by
    unfold bindC
    rw [bindC_miss r _ fun p hp => h p (.tail _ hp)]
    split
    · rfl
    · exact if_neg (Ne.symm (h (n, v) (.head _)))
theorem bind_zip {kindOf : Str → Option NameKind} : ∀ {ps : List Str} {vals : List Value}, ps.Nodup → ∀ {i : Nat} {x : Str} {v : Value}, ps[i]? = some x → vals[i]? = some v → ∀ (m cm : Str → Option Value),
    (kindOf x = some .local → bindL kindOf (ps.zip vals) m x = some v) ∧ (kindOf x ≠ some .local → bindC kindOf (ps.zip vals) cm x = some v)
  | [], _, _, i, x, v, h, _, _, _ => by simp at h
  | p :: ps, [], _, i, x, v, _, h, _, _ => by simp at h
  | p :: ps, w :: vals, nd, i, x, v, h1, h2, m, cm => by
    rw [List.nodup_cons] at nd
    rw [List.zip_cons_cons]
    unfold bindL bindC
    cases i with
    | zero =>
      simp at h1 h2
      subst h1; subst h2
      have off : ∀ q ∈ ps.zip vals, q.1 ≠ p := fun q hq e => nd.1 (e ▸ (List.of_mem_zip hq).1)
      refine ⟨fun hk => ?_, fun hk => ?_⟩
      · rw [bindL_miss _ _ off, if_pos hk, if_pos rfl]
      · rw [bindC_miss _ _ off, if_neg hk, if_pos rfl]
    | succ i =>
      simp at h1 h2
      exact bind_zip nd.2 h1 h2 _ _
theorem sf_defC {fa : Addr} {name qual : Str} {params : Arguments} {body : List Stmt} {scope : Scope} {dV kV doc pm cdv ct oc : Value} {an od : Option Addr} {osl : Array (Option Value)} {ps : List Str} {d : DS}
    (ho : P.K.lookup fa = some ⟨oc, od, .func (fnOf name qual params body scope dV kV doc pm an cdv ct), osl⟩) (hcd : codeIn P.K cdv qual = true)
    (hbind : ∀ vals : List Value, vals.length = ps.length → bindArgs (fnOf name qual params body scope dV kV doc pm an cdv ct) ⟨vals, []⟩ = pure (ps.zip vals))
    (hps : ∀ i x, i < ps.length → names[i]? = some x → ps[i]? = some x) (hnd : ps.Nodup) (hl : ∀ x ∈ ps, ks.lookup x = some .local ∨ ks.lookup x = some .cell) (hks : scope.names = ks)
    (hcl : ∀ k, ((cellsFrom k scope.names []).map (·.2)).Nodup ∧ ∀ c ∈ (cellsFrom k scope.names []).map (·.2), k ≤ c)
    (hnd' : ((cellsFrom 0 scope.names []).map (·.1)).Nodup)
    (hb : SXs P dp ks names body d)
    (hco : scope.isCoroutine = false) (hgen : scope.isGenerator = false) (hk : scope.kind = .function) :
    SF P (dp + 1) (.ref fa) (dFun ps.length names.length d) := by
  intro f ok vs σ v σ' hv m news α s Q vals F N I R post
  unfold dFun at hv
  split at hv
  case isFalse => cases hv
  case isTrue hlen =>
  refine cps fun Xc kc => ?_
  obtain ⟨⟨fl, ρ', σ2⟩, hbody, e⟩ := Option.map_eq_some_iff.mp hv
  refine kc ?_; clear kc Xc
  cases e
  have hvl : vals.length = ps.length := R.1 ▸ hlen
  refine wpAny_call (code_defC ok.below F ok.kin N ok.top ok.frames rfl ok.kind ho hcd (by have := ok.depth; lia) (.of_eq (hbind vals hvl)) ?_ hnd' ?_ hco hgen hk)
  · rw [List.all_eq_true]
    intro y hy
    rw [hks]
    rcases hl _ (List.of_mem_zip hy).1 with q | q <;> rw [q] <;> rfl
  intro g L' h₁ tk₁ cells FG F' N' CA B' X' T' lt
  have ok' := deeper_ok (L' := L') (fa := fa) (qual := qual) (cdv := cdv) (cl := cellsFrom (L' + 1) scope.names []) ok B' X' T' hk
  obtain ⟨c1, c2⟩ := hcl (L' + 1)
  refine cps fun Xc kc => ?_
  obtain ⟨I1, G1, k1, k2, k3, k4⟩ := cells_in CA c1 (fun c hc p hp e => absurd (e ▸ lt p hp : c < L') (Nat.not_lt.mpr (Nat.le_of_succ_le (c2 c hc)))) I
  refine kc ?_; clear kc Xc
  have hcx : ∀ x, scope.names.lookup x = some .cell → ∃ c, (cellsFrom (L' + 1) scope.names []).lookup x = some c := fun x hx => Option.isSome_iff_exists.mp (cellsFrom_some scope.names (L' + 1) [] (.inl hx))
  refine wpAny_mono (hb _ ok' hks (rho0 names.length vs) σ _ _ _ hbody _ (cells ++ news) α { s with heap := h₁, toks := tk₁ } _ ⟨⟨F', N', I1, ?_⟩, ⟨c1, fun c hc => ?_, hcx⟩⟩ ?_) (fun _ _ x => x) (fun _ _ x => x.elim)
  · intro i x w hx hw
    have hw' := rho0_get hw
    have hi : i < ps.length := by
      have := (List.getElem?_eq_some_iff.mp hw').1
      lia
    obtain ⟨val, h1, h2⟩ := R.at hw'
    have hxp := hps i x hi hx
    obtain ⟨z1, z2⟩ := bind_zip (kindOf := (envOfC qual scope L' fa cdv).kindOf) hnd hxp h1 (fun _ => Option.none) (fun _ => Option.none)
    have hkx : (envOfC qual scope L' fa cdv).kindOf x = ks.lookup x := by show scope.names.lookup x = _; rw [hks]
    refine ⟨val, h2.le G1, ?_⟩
    rcases hl x (List.mem_of_getElem? hxp) with q | q
    · exact .inl ⟨by show scope.names.lookup x = _; rw [hks]; exact q, rfl, z1 (hkx.trans q)⟩
    · obtain ⟨c, hc⟩ := hcx x (by rw [hks]; exact q)
      obtain ⟨o, a, b⟩ := k1 x c hc
      have hcm : c ∈ (cellsFrom (L' + 1) scope.names []).map (·.2) := by rw [← k3]; exact List.mem_map_of_mem (f := (·.1)) a
      refine .inr (.inl ⟨by show scope.names.lookup x = _; rw [hks]; exact q, c, o, hc, List.mem_append_left _ a, k2 c hcm, ?_⟩)
      rw [b]
      have : (envOfC qual scope L' fa cdv).kindOf x ≠ some .local := by rw [hkx, q]; simp
      rw [z2 this]
  · obtain ⟨o, a, b⟩ := k4 c hc
    exact ⟨o, List.mem_append_left _ a, b, k2 c hc⟩
  · intro h' tk m' news' α' pre'' G''
    have G : GLe [] α news α' news' := by
      refine ⟨G''.al, fun p hp hm _ => G''.keep p (List.mem_append_right _ hp) hm (.inr fun hc => ?_)⟩
      exact absurd (lt p hp) (Nat.not_lt.mpr (Nat.le_of_succ_le (c2 p.1 hc)))
    cases fl with
    | next => exact leaveK_ pre''.F pre''.N fun F0 N0 => post _ _ _ _ _ F0 N0 pre''.I G .none
    | ret v => exact fun val rv => leaveK_ pre''.F pre''.N fun F0 N0 => post _ _ _ _ _ F0 N0 pre''.I G rv
end
section
variable {P : Pg} {dp : Nat} {ks : Ks} {names : List Str}

theorem cells_own {f : Fm} {x : Str} {c : Addr} (h : f.env.cells.lookup x = some c) : c ∈ f.own := by
  have h' : f.cl.lookup x = some c := h
  unfold Fm.own
  generalize f.cl = l at h'
  induction l with
  | nil => cases h'
  | cons q u ih2 =>
    rw [List.lookup_cons] at h'
    rw [List.map_cons]
    split at h'
    · cases h'; exact .head _
    · exact .tail _ (ih2 h')
theorem PreS.relist {f : Fm} {ρ : Rho} {σ : St} {m : Str → Option Value} {news news' : Led} {α : Al} {h h' : Heap} {Is : List Addr} (p : PreS P f names ρ σ m news α h) (F : Fr f.h₀ f.L h' m) (N : News f.h₀ f.L h' news') (I : Inv P α news' σ)
    (fz : ∀ p, Frz α news p → Frz α news' p) (kp : ∀ p ∈ news, p.1 ∉ Is → p ∈ news') (hown : ∀ c ∈ f.own, c ∉ Is) : PreS P f names ρ σ m news' α h' := by
  refine ⟨⟨F, N, I, fun i x v hx hv => ?_⟩, p.O.nd, fun c hc => ?_, p.O.all⟩
  · obtain ⟨val, r, va⟩ := p.E i x v hx hv
    refine ⟨val, r.mono (fun _ _ e => e) fz, ?_⟩
    rcases va with q | ⟨a, c, o, b, d, e, k⟩ | ⟨a, o, m₂, b, d, e, k⟩
    · exact .inl q
    · exact .inr (.inl ⟨a, c, o, b, kp _ d (hown c (cells_own b)), e, k⟩)
    · exact absurd b fun b => not_own_ns p.N b
  · refine cps fun Xc kc => ?_
    obtain ⟨o, a, b, d⟩ := p.O.here c hc
    refine kc ?_; clear kc Xc
    exact ⟨o, kp _ a (hown c hc), b, d⟩

/-- entries that are neither of the state nor frozen may go -/
theorem Inv.drop {α : Al} {news : Led} {σ : St} (I : Inv P α news σ) (Is : List Addr) (h : ∀ p ∈ news, p.1 ∈ Is → isImm p.2 = false ∧ p.1 ∉ muts α) :
    Inv P α (news.filter fun p => decide (p.1 ∉ Is)) σ ∧ (∀ p, Frz α news p → Frz α (news.filter fun p => decide (p.1 ∉ Is)) p) ∧ (∀ p ∈ news, p.1 ∉ Is → p ∈ news.filter fun p => decide (p.1 ∉ Is)) ∧ ∀ p ∈ news.filter (fun p => decide (p.1 ∉ Is)), p ∈ news ∧ p.1 ∉ Is := by
  have kp : ∀ p ∈ news, p.1 ∉ Is → p ∈ news.filter fun p => decide (p.1 ∉ Is) := fun p hp hn => List.mem_filter.mpr ⟨hp, by simpa using hn⟩
  have fz : ∀ p, Frz α news p → Frz α (news.filter fun p => decide (p.1 ∉ Is)) p := fun p hp => ⟨kp p hp.1 (fun hI => Bool.noConfusion ((h p hp.1 hI).1.symm.trans hp.2.2)), hp.2⟩
  refine ⟨⟨I.len, I.nv, I.nd, ?_, fun k x d mo e e' => ?_⟩, fz, kp, fun p hp => ?_⟩
  · exact List.Nodup.sublist (List.Sublist.map _ List.filter_sublist) I.nn
  · obtain ⟨oj, m1, m2⟩ := I.obj k x d mo e e'
    exact ⟨oj, kp _ m1 fun hI => (h _ m1 hI).2 (mem_muts e), m2.mono (fun _ _ e => e) fz⟩
  · obtain ⟨a, b⟩ := List.mem_filter.mp hp
    exact ⟨a, by simpa using b⟩

/-- several new entries beside -/
theorem Inv.besides {α : Al} {σ : St} : ∀ (ext : Led) {news : Led}, Inv P α news σ → (ext.map (·.1)).Nodup → (∀ p ∈ ext, ∀ q ∈ news, q.1 ≠ p.1) → Inv P α (ext ++ news) σ ∧ GLe [] α news α (ext ++ news)
  | [], _, I, _, _ => ⟨I, .refl⟩
  | e :: ext, news, I, nd, h => by
    rw [List.map_cons, List.nodup_cons] at nd
    obtain ⟨I1, G1⟩ := Inv.besides ext I nd.2 fun p hp => h p (.tail _ hp)
    obtain ⟨I2, G2⟩ := I1.beside (a := e.1) (o := e.2) fun p hp q => by
      rcases List.mem_append.mp hp with hp | hp
      · exact nd.1 (by rw [← q]; exact List.mem_map_of_mem (f := (·.1)) hp)
      · exact h e (.head _) p hp q
    exact ⟨I2, G1.trans G2⟩

/-! ### for -/
noncomputable def forG (src : Nat → St → Option (Option V)) (d : DA) (body : DS) : Nat → Nat → Rho → St → Option (Fl × Rho × St)
  | 0, i, ρ, σ => match src i σ with
    | some Option.none => some (.next, ρ, σ)
    | _ => Option.none
  | n + 1, i, ρ, σ => match src i σ with
    | some Option.none => some (.next, ρ, σ)
    | some (some v) => (d ρ σ v).bind fun r => (body r.1 r.2).bind fun u => match u.1 with
      | .next => forG src d body n (i + 1) u.2.1 u.2.2
      | .ret v => some (.ret v, u.2)
    | Option.none => Option.none

structure Iter (P : Pg) (f : Fm) (target : Expr) (src : Nat → St → Option (Option V)) (Is : List Addr) (itv : Value) (It : Nat → Heap → Prop) (α0 : Al) (news0 : Led) : Prop where
  obj : ∀ i h, It i h → ∀ I ∈ Is, ∃ o, h.get? I = some o ∧ isImm o = false
  frame : ∀ i h h', It i h → (∀ I ∈ Is, ∀ o, h.get? I = some o → h'.get? I = some o) → It i h'
  nd : Is.Nodup
  off : ∀ p ∈ news0, p.1 ∉ Is
  offL : f.L ∉ Is
  offB : ∀ I ∈ Is, f.h₀.get? I = Option.none
  self : ∀ i (s : Shared) (K : Value → Shared → Prop), It i s.heap → K itv s → wpAny (model P.prog P.w) f.A (pyIter itv) K (fun _ _ => False) s
  item : ∀ i σ v, src i σ = some (some v) → ∀ m news α (s : Shared) (K : Value → Shared → Prop), Fr f.h₀ f.L s.heap m → News f.h₀ f.L s.heap news → Inv P α news σ → (∀ (k : Nat) (x : Addr × Addr), α0[k]? = some x → α[k]? = some x) → (∀ p, Frz α0 news0 p → Frz α news p) → It i s.heap →
    (∀ h' tk val ext, (ext.map (·.1)).Nodup → (∀ p ∈ ext, s.heap.objs.size ≤ p.1 ∧ h'.get? p.1 = some p.2) → It (i + 1) h' → (∀ b o, b ∉ Is → s.heap.get? b = some o → h'.get? b = some o) → RV α (Frz α (ext ++ news)) v val → K val { s with heap := h', toks := tk }) →
    wpAny (model P.prog P.w) f.A (pyNext itv) (fun r s1 => match r with | Option.none => False | some val => wpAny (model P.prog P.w) f.A (letOwnedTupleGo target itv val) (fun _ s2 => K val s2) (fun _ _ => False) s1) (fun _ _ => False) s
  done : ∀ i σ, src i σ = some Option.none → ∀ m news α (s : Shared) (K : Shared → Prop), Fr f.h₀ f.L s.heap m → News f.h₀ f.L s.heap news → Inv P α news σ → (∀ (k : Nat) (x : Addr × Addr), α0[k]? = some x → α[k]? = some x) → (∀ p, Frz α0 news0 p → Frz α news p) → It i s.heap →
    (∀ h', (∀ b o, b ∉ Is → s.heap.get? b = some o → h'.get? b = some o) → K { s with heap := h' }) →
    wpAny (model P.prog P.w) f.A (pyNext itv) (fun r s1 => match r with | Option.none => K s1 | some _ => False) (fun _ _ => False) s

theorem own_off {f : Fm} {α : Al} {news : Led} {Is : List Addr} (O : OwnOk f α news) (off : ∀ p ∈ news, p.1 ∉ Is) : ∀ c ∈ f.own, c ∉ Is := fun c hc => by
  obtain ⟨o, a, _⟩ := O.here c hc
  exact off _ a

theorem for_core {f : Fm} (ok : f.Ok P dp) (hks : f.cs.names = ks) {target : Expr} {body : List Stmt} {d : DA} {b : DS} {src : Nat → St → Option (Option V)} {Is : List Addr} {itv : Value} {It : Nat → Heap → Prop} {α0 : Al} {news0 : Led}
    (T : Iter P f target src Is itv It α0 news0) (hd : SA P dp ks names target d) (hb : SXs P dp ks names body b) {fuel : Nat} {ρ : Rho} {σ : St} {fl : Fl} {ρ' : Rho} {σ' : St} (hv : forG src d b fuel 0 ρ σ = some (fl, ρ', σ'))
    {m : Str → Option Value} {news : Led} {α : Al} {s : Shared} {Q : Flow → Shared → Prop} (pre : PreS P f names ρ σ m news α s.heap) (hown : ∀ c ∈ f.own, c ∉ Is) (G : GLe f.own α0 news0 α news) (hit : It 0 s.heap) (hIs : ∀ I ∈ Is, ∃ o, (I, o) ∈ news ∧ isImm o = false ∧ I ∉ muts α)
    (post : PostS P f names α0 news0 fl ρ' σ' Q s) :
    codeAny (model P.prog P.w) f.A (.forLoop target itv body [] f.env) (fun r s' => match r with | .ok f => Q f s' | .error e => cameBackBy (model P.prog P.w) f.A f.env (fun _ _ => False) e s') s := by
  obtain ⟨CI, hCI⟩ : ∃ CI : Nat → Shared → Prop, ∀ k s', CI k s' ↔ ∃ h tk m news α ρ σ i, s' = { s with heap := h, toks := tk } ∧ PreS P f names ρ σ m news α h ∧ GLe f.own α0 news0 α news ∧ It i h ∧ (∀ I ∈ Is, ∃ o, (I, o) ∈ news ∧ isImm o = false ∧ I ∉ muts α) ∧ forG src d b k i ρ σ = some (fl, ρ', σ') := ⟨_, fun _ _ => Iff.rfl⟩
  refine codeAny_forLoop_any CI ?_ fuel ((hCI _ _).mpr ⟨s.heap, s.toks, m, news, α, ρ, σ, 0, rfl, pre, G, hit, hIs, hv⟩)
  clear hit hIs hv pre G
  intro k s' HH
  refine cps fun Xc kc => ?_
  obtain ⟨h, tk, m, news, α, ρ, σ, i, es, pre, G, hit, hIs, hv⟩ := (hCI _ _).mp HH
  refine kc ?_; clear kc Xc HH
  subst es
  have hdrop : ∀ p ∈ news, p.1 ∈ Is → isImm p.2 = false ∧ p.1 ∉ muts α := fun p hp hI => by
    refine cps fun Xc kc => ?_
    obtain ⟨o, a, b, c⟩ := hIs p.1 hI
    refine kc ?_; clear kc Xc
    rw [mem_unique pre.I.nn (show (p.1, p.2) ∈ news from hp) a]
    exact ⟨b, c⟩
  refine cps fun Xc kc => ?_
  obtain ⟨I1, fz1, kp1, in1⟩ := pre.I.drop Is hdrop
  refine kc ?_; clear kc Xc
  have frz0 : ∀ p, Frz α0 news0 p → Frz α news p := fun p hp => G.frz hp
  have keepN : ∀ h', (∀ b o, b ∉ Is → h.get? b = some o → h'.get? b = some o) → Fr f.h₀ f.L h' m ∧ News f.h₀ f.L h' (news.filter fun p => decide (p.1 ∉ Is)) := fun h' hk => by
    refine ⟨⟨pre.F.ns.at' fun o e => hk _ o T.offL e, fun b o e => hk b o (fun hI => by rw [T.offB b hI] at e; cases e) (pre.F.keep b o e), pre.F.above⟩, fun p hp => ?_⟩
    obtain ⟨a, b⟩ := in1 p hp
    exact ⟨hk _ _ b (pre.N p a).1, (pre.N p a).2⟩
  have G1 : GLe f.own α0 news0 α (news.filter fun p => decide (p.1 ∉ Is)) := ⟨G.al, fun p hp hn hc => by
    obtain ⟨a, b⟩ := G.keep p hp hn hc
    exact ⟨kp1 p a (T.off p hp), b⟩⟩
  have atEnd : src i σ = some Option.none → (fl, ρ', σ') = (Fl.next, ρ, σ) → wpAny (model P.prog P.w) f.A (pyNext itv) (fun r s₁ => match r with
      | Option.none => wpAny (model P.prog P.w) f.A (execs [] f.env) (fun f₁ s₃ => Q f₁ s₃) (fun _ _ => False) s₁
      | some _ => False) (fun _ _ => False) { s with heap := h, toks := tk } := by
    intro hsrc e
    cases e
    refine T.done i _ hsrc m news α { s with heap := h, toks := tk } _ pre.F pre.N pre.I G.al frz0 hit fun h' hk => ?_
    obtain ⟨F', N'⟩ := keepN h' hk
    refine wpAny_execs_nil ?_
    exact post h' tk m _ α (pre.relist F' N' I1 fz1 kp1 hown) G1
  cases k with
  | zero =>
    unfold forG at hv
    split at hv
    case h_2 => cases hv
    rename_i hsrc
    refine wpAny_mono (atEnd hsrc (Option.some.inj hv).symm) (fun r s₁ z => ?_) (fun _ _ x => x.elim)
    cases r with
    | none => exact wpAny_mono z (fun _ _ x => x) (fun _ _ x => x.elim)
    | some v => exact z.elim
  | succ k =>
    unfold forG at hv
    split at hv
    · rename_i hsrc
      refine wpAny_mono (atEnd hsrc (Option.some.inj hv).symm) (fun r s₁ z => ?_) (fun _ _ x => x.elim)
      cases r with
      | none => exact wpAny_mono z (fun _ _ x => x) (fun _ _ x => x.elim)
      | some v => exact z.elim
    · rename_i v hsrc
      simp only [Option.bind_eq_some_iff] at hv
      refine cps fun Xc kc => ?_
      obtain ⟨⟨ρ1, σ1⟩, h1, ⟨fl2, ρ2, σ2⟩, h2, h3⟩ := hv
      refine kc ?_; clear kc Xc
      have step := T.item i σ v hsrc m news α { s with heap := h, toks := tk } (fun val s2 => wpAny (model P.prog P.w) f.A (assign target f.env val) (fun _ s₂ => wpAny (model P.prog P.w) f.A (execs body f.env) (fun f₁ s₃ => match f₁ with
          | .next | .cont => ∃ m_1, m_1 < k + 1 ∧ CI m_1 s₃
          | .brk => Q .next s₃
          | .ret v => Q (.ret v) s₃) (fun _ _ => False) s₂) (fun _ _ => False) s2) pre.F pre.N pre.I G.al frz0 hit ?_
      · refine wpAny_mono step (fun r s₁ z => ?_) (fun _ _ x => x.elim)
        cases r with
        | none => exact z.elim
        | some val => exact wpAny_mono z (fun _ s₂ z2 => wpAny_mono z2 (fun _ s₃ z3 => wpAny_mono z3 (fun _ _ x => x) (fun _ _ x => x.elim)) (fun _ _ x => x.elim)) (fun _ _ x => x.elim)
      intro h' tk' val ext end' hext hit' hk rv
      obtain ⟨F', N'⟩ := keepN h' hk
      -- the ledger: what stays, what came, the iterator's own
      have hobj := T.obj (i + 1) h' hit'
      have lt : ∀ p ∈ news, p.1 < h.objs.size := fun p hp => Heap.lt_size (pre.N p hp).1
      have sep1 : ∀ p ∈ ext, ∀ q ∈ news.filter (fun p => decide (p.1 ∉ Is)), q.1 ≠ p.1 := fun p hp q hq e => by
        have := lt q (in1 q hq).1
        rw [e] at this
        exact absurd (hext p hp).1 (Nat.not_le.mpr this)
      obtain ⟨I2, G2⟩ := I1.besides ext end' sep1
      have IsObj : ∃ own2 : Led, own2.map (·.1) = Is ∧ ∀ p ∈ own2, h'.get? p.1 = some p.2 ∧ isImm p.2 = false := by
        have : ∀ l : List Addr, (∀ I ∈ l, ∃ o, h'.get? I = some o ∧ isImm o = false) → ∃ own2 : Led, own2.map (·.1) = l ∧ ∀ p ∈ own2, h'.get? p.1 = some p.2 ∧ isImm p.2 = false := by
          intro l
          induction l with
          | nil => exact fun _ => ⟨[], rfl, fun p hp => nomatch hp⟩
          | cons a r ih =>
            intro hl
            obtain ⟨o, q1, q2⟩ := hl a (.head _)
            obtain ⟨w, w1, w2⟩ := ih fun I hI => hl I (.tail _ hI)
            exact ⟨(a, o) :: w, by rw [List.map_cons, w1], fun p hp => (List.mem_cons.mp hp).elim (fun e => e ▸ ⟨q1, q2⟩) (w2 p)⟩
        exact this Is hobj
      obtain ⟨own2, ow1, ow2⟩ := IsObj
      have inIs : ∀ p ∈ own2, p.1 ∈ Is := fun p hp => by rw [← ow1]; exact List.mem_map_of_mem (f := (·.1)) hp
      have ltIs : ∀ I ∈ Is, I < h.objs.size := fun I hI => by obtain ⟨o, a, _⟩ := hIs I hI; exact lt _ a
      have sep2 : ∀ p ∈ own2, ∀ q ∈ ext ++ news.filter (fun p => decide (p.1 ∉ Is)), q.1 ≠ p.1 := fun p hp q hq e => by
        rcases List.mem_append.mp hq with hq | hq
        · have := ltIs _ (inIs p hp)
          rw [← e] at this
          exact absurd (hext q hq).1 (Nat.not_le.mpr this)
        · exact (in1 q hq).2 (e ▸ inIs p hp)
      obtain ⟨I3, G3⟩ := I2.besides own2 (by rw [ow1]; exact T.nd) sep2
      have N3 : News f.h₀ f.L h' (own2 ++ (ext ++ news.filter fun p => decide (p.1 ∉ Is))) := fun p hp => by
        rcases List.mem_append.mp hp with hp | hp
        · exact ⟨(ow2 p hp).1, fun e => T.offL (e ▸ inIs p hp), T.offB _ (inIs p hp)⟩
        · rcases List.mem_append.mp hp with hp | hp
          · refine ⟨(hext p hp).2, fun e => ?_, ?_⟩
            · have := (hext p hp).1
              rw [e] at this
              exact absurd pre.F.ns.lt (Nat.not_lt.mpr this)
            · refine Heap.get?_none_of_le (Nat.le_trans pre.F.above (Nat.le_trans (Nat.le_of_lt pre.F.ns.lt) (hext p hp).1))
          · exact N' p hp
      have G23 := G2.trans G3
      have pre3 : PreS P f names ρ σ m (own2 ++ (ext ++ news.filter fun p => decide (p.1 ∉ Is))) α h' := (pre.relist (names := names) F' N' I1 fz1 kp1 hown).step F' N3 I3 G23
      have rv3 : RV α (Frz α (own2 ++ (ext ++ news.filter fun p => decide (p.1 ∉ Is)))) v val := by
        refine rv.mono (fun _ _ e => e) fun p hp => ?_
        rcases List.mem_append.mp hp.1 with q | q
        · exact ⟨List.mem_append_right _ (List.mem_append_left _ q), hp.2⟩
        · exact G23.frz (fz1 p ⟨q, hp.2⟩)
      refine hd f ok hks ρ σ v ρ1 σ1 h1 m _ α { s with heap := h', toks := tk' } _ val pre3 rv3 ?_
      intro h4 tk4 m4 news4 α4 pre4 G4
      refine hb f ok hks ρ1 σ1 fl2 ρ2 σ2 h2 m4 news4 α4 _ _ pre4 ?_
      intro h5 tk5 m5 news5 α5 pre5 G5
      have G05 : GLe f.own α0 news0 α5 news5 := ((G1.trans G23.weaken).trans G4).trans G5
      have G35 := G4.trans G5
      have keepIs : ∀ p ∈ own2, p ∈ news5 ∧ p.1 ∉ muts α5 := fun p hp => by
        refine G35.keep p (List.mem_append_left _ hp) ?_ (.inr fun hc => hown _ hc (inIs p hp))
        refine cps fun Xc kc => ?_
        obtain ⟨o, _, _, c⟩ := hIs _ (inIs p hp)
        refine kc ?_; clear kc Xc
        exact c
      cases fl2 with
      | next =>
        refine ⟨k, Nat.lt_succ_self _, (hCI _ _).mpr ⟨h5, tk5, m5, news5, α5, ρ2, σ2, i + 1, rfl, pre5, G05, ?_, fun I hI => ?_, h3⟩⟩
        · refine T.frame _ _ _ hit' fun I hI o e => ?_
          rw [← ow1] at hI
          obtain ⟨p, hp, rfl⟩ := List.mem_map.mp hI
          have : p.2 = o := Option.some.inj ((ow2 p hp).1.symm.trans e)
          rw [← this]
          exact (pre5.N p (keepIs p hp).1).1
        · rw [← ow1] at hI
          obtain ⟨p, hp, rfl⟩ := List.mem_map.mp hI
          exact ⟨p.2, (keepIs p hp).1, (ow2 p hp).2, (keepIs p hp).2⟩
      | ret v5 =>
        cases h3
        exact fun val5 rv5 => post h5 tk5 m5 news5 α5 pre5 G05 val5 rv5
    · cases hv
end
section
variable {P : Pg} {dp : Nat} {ks : Ks} {names : List Str}

noncomputable abbrev Src := Nat → St → Option (Option V)
noncomputable abbrev DI := Rho → St → Option (Src × Nat × St)
noncomputable def PostI (P : Pg) (f : Fm) (m : Str → Option Value) (α : Al) (news : Led) (σ' : St) (target : Expr) (src : Src) (Q : Value → Shared → Prop) (s : Shared) : Prop :=
  ∀ h' tk news1 news' α' Is itv It, Fr f.h₀ f.L h' m → News f.h₀ f.L h' news' → Inv P α' news' σ' → GLe [] α news α' news1 → GLe [] α' news1 α' news' → Iter P f target src Is itv It α' news1 → It 0 h' →
    (∀ I ∈ Is, ∃ o, (I, o) ∈ news' ∧ isImm o = false ∧ I ∉ muts α') → Q itv { s with heap := h', toks := tk }
noncomputable def SI (P : Pg) (dp : Nat) (ks : Ks) (names : List Str) (target iter : Expr) (d : DI) : Prop :=
  ∀ (f : Fm) (env : Env), f.Ok P dp → Fits env → env.scope.names = ks → ∀ ρ σ src n σ', d ρ σ = some (src, n, σ') → ∀ m news α (s : Shared) (Q : Value → Shared → Prop), Pre P f env names ρ σ m news α s.heap →
    PostI P f m α news σ' target src Q s → wpAny (model P.prog P.w) f.A (eval iter env) (fun x s1 => wpAny (model P.prog P.w) f.A (pyIter x) Q (fun _ _ => False) s1) (fun _ _ => False) s

theorem imm_type {o : Obj} {n : String} (h : o.cls = .type n) (hn : (n == "tuple") = false) : isImm o = false := by
  unfold isImm
  rw [h]
  simp only [hn, Bool.and_false]
theorem isListIter_at {h h' : Heap} {I l : Addr} {i : Nat} (x : h.IsListIter I l i) (hk : ∀ o, h.get? I = some o → h'.get? I = some o) : h'.IsListIter I l i := by
  obtain ⟨o, a, b⟩ := x
  exact ⟨o, hk o a, b⟩
theorem isTupleIter_at {h h' : Heap} {I l : Addr} {i : Nat} (x : h.IsTupleIter I l i) (hk : ∀ o, h.get? I = some o → h'.get? I = some o) : h'.IsTupleIter I l i := by
  obtain ⟨o, a, b⟩ := x
  exact ⟨o, hk o a, b⟩
theorem listOf_is {h : Heap} {l : Addr} {vals : List Value} {n : Nat} (e : h.get? l = some (listOf (List.toArray vals) n)) : h.IsList l (List.toArray vals) := ⟨_, e, rfl, n, rfl⟩

/-! ### over a list -/
noncomputable def srcL (k : Nat) : Src := fun i σ => (lstAt σ k).map (·[i]?)
theorem iter_list {f : Fm} (ok : f.Ok P dp) {α0 : Al} {news0 : Led} {k : Nat} {l I : Addr} (e0 : α0[k]? = some (l, l)) {target : Expr} (ht : ∀ it v, letOwnedTupleGo target it v = pure ()) (off : ∀ p ∈ news0, p.1 ≠ I) (offL : f.L ≠ I) (offB : f.h₀.get? I = Option.none) (hlI : l ≠ I) :
    Iter P f target (srcL k) [I] (.ref I) (fun i h => h.IsListIter I l i) α0 news0 where
  obj := fun i h x J hJ => by
    rw [List.mem_singleton.mp hJ]
    refine cps fun Xc kc => ?_
    obtain ⟨o, a, b, _⟩ := x
    refine kc ?_; clear kc Xc
    exact ⟨o, a, imm_type b (by decide)⟩
  frame := fun i h h' x hk => isListIter_at x (hk I (by simp))
  nd := by simp
  off := fun p hp => by simpa using off p hp
  offL := by simpa using offL
  offB := fun J hJ => by rw [List.mem_singleton.mp hJ]; exact offB
  self := fun i s K x hK => wpAny_pyIter_listiter x hK
  item := fun i σ v hv m news α s K F N I' hal hfz x hK => by
    unfold srcL at hv
    obtain ⟨vs, hvs, hi⟩ := Option.map_eq_some_iff.mp hv
    refine cps fun Xc kc => ?_
    obtain ⟨d, vals, n, hval, ea, hm, rs, hl⟩ := I'.list hvs (.ref k l l (hal k _ e0))
    refine kc ?_; clear kc Xc
    rw [hal k _ e0] at ea
    cases ea
    obtain ⟨val, h1, h2⟩ := rs.at hi
    refine wpAny_pyNext_list_item x (listOf_is (N _ hm).1) (x := val) (by simpa using h1) fun h' x' hs => ?_
    dsimp only
    rw [ht]
    exact wpAny_pure (hK h' s.toks val [] .nil (fun p hp => nomatch hp) x' (fun b o hb e => hs.extBut b o (by simpa using hb) e) h2)
  done := fun i σ hv m news α s K F N I' hal hfz x hK => by
    unfold srcL at hv
    obtain ⟨vs, hvs, hi⟩ := Option.map_eq_some_iff.mp hv
    refine cps fun Xc kc => ?_
    obtain ⟨d, vals, n, hval, ea, hm, rs, hl⟩ := I'.list hvs (.ref k l l (hal k _ e0))
    refine kc ?_; clear kc Xc
    rw [hal k _ e0] at ea
    cases ea
    refine wpAny_pyNext_list_end ok.handled x (listOf_is (N _ hm).1) (by
      rw [List.getElem?_eq_none_iff] at hi
      simp [← rs.1, hi]) fun h' hs => ?_
    exact hK h' fun b o hb e => hs b o (by simpa using hb) e

theorem fresh_base {f : Fm} {h : Heap} {m : Str → Option Value} (F : Fr f.h₀ f.L h m) {a : Addr} (ha : h.objs.size ≤ a) : f.h₀.get? a = Option.none :=
  Heap.get?_none_of_le (Nat.le_trans F.above (Nat.le_trans (Nat.le_of_lt F.ns.lt) ha))
theorem news_push {h₀ : Heap} {L : Addr} {h : Heap} {m : Str → Option Value} {news : Led} {o : Obj} (F : Fr h₀ L h m) (N : News h₀ L h news) (hf : o.isFreed = false) : Fr h₀ L (h.push o) m ∧ News h₀ L (h.push o) ((h.objs.size, o) :: news) := by
  refine ⟨F.keeps fun _ _ e => Heap.get?_push_of_some _ e, fun p hp => ?_⟩
  rcases List.mem_cons.mp hp with rfl | hp
  · exact ⟨Heap.get?_push_size _ hf, Nat.ne_of_gt F.ns.lt, Heap.get?_none_of_le (Nat.le_trans F.above (Nat.le_of_lt F.ns.lt))⟩
  · exact ⟨Heap.get?_push_of_some _ (N p hp).1, (N p hp).2⟩

noncomputable def diList (a : DE) : DI := fun ρ σ => (a ρ σ).bind fun r => r.1.toRef.bind fun k => (lstAt r.2 k).map fun vs => (srcL k, vs.length, r.2)
theorem si_list {target e : Expr} {a : DE} (ht : ∀ it v, letOwnedTupleGo target it v = pure ()) (ha : SE P dp ks names e a) : SI P dp ks names target e (diList a) := by
  intro f env ok fit hks ρ σ src n σ' hv m news α s Q pre post
  simp only [diList, Option.bind_eq_some_iff, Option.map_eq_some_iff] at hv
  refine cps fun Xc kc => ?_
  obtain ⟨⟨v1, σ1⟩, h1, k, hk, vs, hvs, e⟩ := hv
  refine kc ?_; clear kc Xc
  cases e
  obtain rfl := toRef_ref hk
  refine ha f env ok fit hks ρ σ _ _ h1 m news α s _ pre ?_
  intro h' tk news' α' val F' N' I' G' R'
  refine cps fun Xc kc => ?_
  obtain ⟨d, vals, n', eq1, ea, hm, rs, hl⟩ := I'.list hvs R'
  refine kc ?_; clear kc Xc; subst eq1
  have hd : d < h'.objs.size := Heap.lt_size (N' _ hm).1
  refine wpAny_pyIter_list (listOf_is (N' _ hm).1) ?_
  obtain ⟨F2, N2⟩ := news_push (o := { cls := .type "list_iterator", data := .fields #[.ref d, .int 0 0] }) F' N' rfl
  obtain ⟨I2, G2⟩ := I'.beside (o := { cls := .type "list_iterator", data := .fields #[.ref d, .int 0 0] }) (fresh_of N')
  exact post _ tk news' _ α' [h'.objs.size] _ _ F2 N2 I2 G' G2 (iter_list ok ea ht (fresh_of N') (Nat.ne_of_lt F'.ns.lt) (fresh_base F' (Nat.le_refl _)) (Nat.ne_of_lt hd)) ⟨_, Heap.get?_push_size _ rfl, rfl, rfl⟩
    fun J hJ => by rw [List.mem_singleton.mp hJ]; exact ⟨_, .head _, imm_type rfl (by decide), I'.fresh_not (fresh_of N')⟩

/-! ### over a tuple -/
noncomputable def srcT (vs : List V) : Src := fun i _ => some vs[i]?
theorem iter_tup {f : Fm} (ok : f.Ok P dp) {α0 : Al} {news0 : Led} {a I : Addr} {vs : List V} {vals : List Value} {n : Nat} (e0 : Frz α0 news0 (a, { cls := .type "tuple", data := .seq (List.toArray vals) n })) (rs : RVs α0 (Frz α0 news0) vs vals) {target : Expr} (ht : ∀ it v, letOwnedTupleGo target it v = pure ()) (off : ∀ p ∈ news0, p.1 ≠ I) (offL : f.L ≠ I) (offB : f.h₀.get? I = Option.none) :
    Iter P f target (srcT vs) [I] (.ref I) (fun i h => h.IsTupleIter I a i) α0 news0 where
  obj := fun i h x J hJ => by
    rw [List.mem_singleton.mp hJ]
    refine cps fun Xc kc => ?_
    obtain ⟨o, a, b, _⟩ := x
    refine kc ?_; clear kc Xc
    exact ⟨o, a, imm_type b (by decide)⟩
  frame := fun i h h' x hk => isTupleIter_at x (hk I (by simp))
  nd := by simp
  off := fun p hp => by simpa using off p hp
  offL := by simpa using offL
  offB := fun J hJ => by rw [List.mem_singleton.mp hJ]; exact offB
  self := fun i s K x hK => wpAny_pyIter_tupleiter x hK
  item := fun i σ v hv m news α s K F N I' hal hfz x hK => by
    have hi : vs[i]? = some v := Option.some.inj hv
    obtain ⟨val, h1, h2⟩ := rs.at hi
    refine wpAny_pyNext_tuple_item x ⟨_, (N _ (hfz _ e0).1).1, rfl, n, rfl⟩ (x := val) (by simpa using h1) fun h' x' hs => ?_
    dsimp only
    rw [ht]
    exact wpAny_pure (hK h' s.toks val [] .nil (fun p hp => nomatch hp) x' (fun b o hb e => hs.extBut b o (by simpa using hb) e) (h2.mono hal hfz))
  done := fun i σ hv m news α s K F N I' hal hfz x hK => by
    have hi : vs[i]? = Option.none := Option.some.inj hv
    refine wpAny_pyNext_tuple_end ok.handled x ⟨_, (N _ (hfz _ e0).1).1, rfl, n, rfl⟩ (by
      rw [List.getElem?_eq_none_iff] at hi
      simp [← rs.1, hi]) fun h' hs => ?_
    exact hK h' fun b o hb e => hs b o (by simpa using hb) e
noncomputable def diTup (a : DE) : DI := fun ρ σ => (a ρ σ).bind fun r => match r.1 with
  | .tup vs => some (srcT vs, vs.length, r.2)
  | _ => Option.none
theorem si_tup {target e : Expr} {a : DE} (ht : ∀ it v, letOwnedTupleGo target it v = pure ()) (ha : SE P dp ks names e a) : SI P dp ks names target e (diTup a) := by
  intro f env ok fit hks ρ σ src n σ' hv m news α s Q pre post
  simp only [diTup, Option.bind_eq_some_iff] at hv
  refine cps fun Xc kc => ?_
  obtain ⟨⟨v1, σ1⟩, h1, hv⟩ := hv
  refine kc ?_; clear kc Xc
  split at hv
  case h_2 => cases hv
  rename_i vs hvs
  cases hv
  dsimp only at hvs
  subst hvs
  refine ha f env ok fit hks ρ σ _ _ h1 m news α s _ pre ?_
  intro h' tk news' α' val F' N' I' G' R'
  cases R' with | tup _ vals a n hf hl hr =>
  refine wpAny_pyIter_tuple (items := List.toArray vals) ⟨_, (N' _ hf.1).1, rfl, n, rfl⟩ ?_
  obtain ⟨F2, N2⟩ := news_push (o := { cls := .type "tuple_iterator", data := .fields #[.ref a, .int 0 0] }) F' N' rfl
  obtain ⟨I2, G2⟩ := I'.beside (o := { cls := .type "tuple_iterator", data := .fields #[.ref a, .int 0 0] }) (fresh_of N')
  exact post _ tk news' _ α' [h'.objs.size] _ _ F2 N2 I2 G' G2 (iter_tup ok hf ⟨hl, hr⟩ ht (fresh_of N') (Nat.ne_of_lt F'.ns.lt) (fresh_base F' (Nat.le_refl _))) ⟨_, Heap.get?_push_size _ rfl, rfl, rfl⟩
    fun J hJ => by rw [List.mem_singleton.mp hJ]; exact ⟨_, .head _, imm_type rfl (by decide), I'.fresh_not (fresh_of N')⟩

/-! ### the for statement -/
noncomputable def dsFor (i : DI) (d : DA) (b : DS) : DS := fun ρ σ => (i ρ σ).bind fun r => forG r.1 d b r.2.1 0 ρ r.2.2
theorem sx_for {target iter : Expr} {body : List Stmt} {pos : Pos} {di : DI} {d : DA} {b : DS} (hi : SI P dp ks names target iter di) (hd : SA P dp ks names target d) (hb : SXs P dp ks names body b) (hs : ∀ (env : Env) x, foldedSetIterable iter env x = pure x) :
    SX P dp ks names (.For target iter body [] pos) (dsFor di d b) := by
  intro f ok hks ρ σ fl ρ' σ' hv m news α s Q pre post
  simp only [dsFor, Option.bind_eq_some_iff] at hv
  refine cps fun Xc kc => ?_
  obtain ⟨⟨src, n, σ1⟩, h1, h2⟩ := hv
  refine kc ?_; clear kc Xc
  refine wpAny_For (hi f f.env ok ok.fits hks ρ σ _ _ _ h1 m news α s _ pre.toPre ?_) (hs f.env)
  intro h' tk news1 news' α' Is itv It F' N' I' G1 G2 T hit hIs
  have G : GLe [] α news α' news' := G1.trans G2
  have O1 : OwnOk f α' news1 := pre.O.le G1
  exact for_core ok hks T hd hb h2 (pre.step F' N' I' G) (own_off O1 T.off) G2.weaken hit hIs fun h3 tk3 m3 news3 α3 pre3 G3 => post h3 tk3 m3 news3 α3 pre3 (G1.weaken.trans G3)
end
section
variable {P : Pg} {dp : Nat} {ks : Ks} {names : List Str}

/-! ### a call of one positional argument, up to what the callee does -/
theorem call_raw {x : Str} {c : Value} {p pos : Pos} {e : Expr} {r : DL} {f : Fm} {env : Env} (ok : f.Ok P dp) (fit : Fits env) (hks : env.scope.names = ks) (hn : NameOk P x c) (hkp : KeepOk P c) (hk : ks.lookup x = some .globalImplicit)
    (hd : (x == ("__debug__" : Str)) = false) (hr : SL P dp ks names [e] r) (hb : ∀ env pos, (backTo pos (starEach [e] env)).any (·.1) = false)
    (hne : ∀ env, starEach [e] env = (false, eval e env) :: starEach [] env) {ρ : Rho} {σ σ' : St} {v : List V} (h1 : r ρ σ = some (v, σ')) {m : Str → Option Value} {news : Led} {α : Al} {s : Shared} {Q : Value → Shared → Prop} (pre : Pre P f env names ρ σ m news α s.heap)
    (post : PostL P f m α news σ' v (fun vals s' => wpAny (model P.prog P.w) f.A (call c vals) Q (fun _ _ => False) s') s) :
    wpAny (model P.prog P.w) f.A (eval (.Call (.Name x p) [e] [] pos) env) Q (fun _ _ => False) s := by
  rw [call_eq]
  refine wpAny_bind (name_sound hn ok fit (by rw [← hks] at hk; exact hk) hd pre.F ?_)
  refine callWith_of (P := fun h => P.K.In h) (by rw [hb env pos]; rfl) hkp ?_
  have fin : wpAny (model P.prog P.w) f.A (spliced (backTo pos (starEach [e] env))) (fun vs s₁ => P.K.In s₁.heap ∧ wpAny (model P.prog P.w) f.A (call c ([] ++ vs) []) Q (fun _ _ => False) s₁) (fun _ _ => False) s := by
    refine hr f env ok fit hks ρ σ _ _ h1 m news α s pos _ pre ?_
    intro h' tk news' α' vals F' N' I' G' R'
    exact ⟨ok.kin.keeps F'.keep, post h' tk news' α' vals F' N' I' G' R'⟩
  rw [hne env] at fin ⊢
  exact evalArgs_plain fin

theorem keep_type {n : String} (h : ∃ k, (k = Keeper.frame ∨ k = Keeper.machine ∨ k = Keeper.boundFrame) ∧ keeperOf (.type n) = pure k) : KeepOk P (.type n) := fun h' X => by
  obtain ⟨k, a, b⟩ := h
  exact ⟨k, a, Looks.of_pure b⟩

/-! ### range(n) -/
noncomputable def srcR (n : Int) : Src := fun i _ => some (if (i : Int) < n then some (.int i) else Option.none)
noncomputable def diRange (r : DL) : DI := fun ρ σ => (r ρ σ).bind fun u => match u.1 with
  | [.int n] => if n < 2 ^ 62 ∧ -(2 ^ 62) ≤ n then some (srcR n, n.toNat, u.2) else Option.none
  | _ => Option.none
theorem rangeSize_one0 (n : Int) : Builtin.Range.rangeSize 0 n 1 = max 0 n := by
  rw [rangeSize_one]
  split <;> lia
theorem iter_range {f : Fm} (ok : f.Ok P dp) {α0 : Al} {news0 : Led} {I : Addr} {n : Int} {target : Expr} (ht : ∀ it v, letOwnedTupleGo target it v = pure ()) (off : ∀ p ∈ news0, p.1 ≠ I) (offL : f.L ≠ I) (offB : f.h₀.get? I = Option.none) :
    Iter P f target (srcR n) [I] (.ref I) (fun i h => IsRangeIter h I i (max 0 n - i) 1) α0 news0 where
  obj := fun i h x J hJ => by
    rw [List.mem_singleton.mp hJ]
    exact ⟨_, x, imm_type rfl (by decide)⟩
  frame := fun i h h' x hk => hk I (by simp) _ x
  nd := by simp
  off := fun p hp => by simpa using off p hp
  offL := by simpa using offL
  offB := fun J hJ => by rw [List.mem_singleton.mp hJ]; exact offB
  self := fun i s K x hK => wpAny_pyIter_rangeiter x hK
  item := fun i σ v hv m news α s K F N I' hal hfz x hK => by
    unfold srcR at hv
    have hv' := Option.some.inj hv
    split at hv'
    case isFalse => cases hv'
    case isTrue hlt =>
    cases hv'
    refine wpAny_pyNext_range_item x (by lia) fun h' x' hs => ?_
    dsimp only
    rw [ht]
    refine wpAny_pure (hK h' _ (.int i s.toks) [] .nil (fun p hp => nomatch hp) ?_ (fun b o hb e => hs.extBut b o (by simpa using hb) e) (.int _ _))
    rw [show max 0 n - ((i + 1 : Nat) : Int) = max 0 n - i - 1 by lia, show ((i + 1 : Nat) : Int) = (i : Int) + 1 by lia]
    exact x'
  done := fun i σ hv m news α s K F N I' hal hfz x hK => by
    unfold srcR at hv
    have hv' := Option.some.inj hv
    split at hv'
    case isTrue => cases hv'
    case isFalse hlt =>
    refine wpAny_pyNext_range_end ok.handled x (by lia) fun h' hs => ?_
    exact hK h' fun b o hb e => hs b o (by simpa using hb) e
theorem si_range {target e : Expr} {p pos : Pos} {r : DL} (ht : ∀ it v, letOwnedTupleGo target it v = pure ()) (hn : NameOk P (Str.ofString "range") (.type "range")) (hk : ks.lookup (Str.ofString "range") = some .globalImplicit)
    (hr : SL P dp ks names [e] r) (hb : ∀ env pos, (backTo pos (starEach [e] env)).any (·.1) = false) (hne : ∀ env, starEach [e] env = (false, eval e env) :: starEach [] env) :
    SI P dp ks names target (.Call (.Name (Str.ofString "range") p) [e] [] pos) (diRange r) := by
  intro f env ok fit hks ρ σ src n σ' hv m news α s Q pre post
  simp only [diRange, Option.bind_eq_some_iff] at hv
  obtain ⟨⟨v1, σ1⟩, h1, hv⟩ := hv
  split at hv
  case h_2 => cases hv
  rename_i i hvs
  dsimp only at hvs
  subst hvs
  split at hv
  case isFalse => cases hv
  case isTrue hlt =>
  cases hv
  refine call_raw ok fit hks hn (keep_type ⟨_, .inr (.inl rfl), rfl⟩) hk (by decide) hr hb hne h1 pre ?_
  intro h' tk news' α' vals F' N' I' G' R'
  obtain ⟨v1, r1, rfl, q1, R'⟩ := R'.head
  obtain rfl := R'.nil_inv
  cases q1 with | int _ t =>
  refine call_range_1 ?_
  dsimp only
  obtain ⟨F1, N1⟩ := news_push (o := { cls := .type "range", data := .fields #[.int 0 tk, .int i t, .int 1 (tk + 1)] }) F' N' rfl
  obtain ⟨I1, G1⟩ := I'.beside (o := { cls := .type "range", data := .fields #[.int 0 tk, .int i t, .int 1 (tk + 1)] }) (fresh_of N')
  refine wpAny_pyIter_range (Heap.get?_push_size _ rfl) (small_one (by lia) (by lia) (by lia) (by lia)) ?_
  dsimp only
  obtain ⟨F2, N2⟩ := news_push (o := { cls := .type "range_iterator", data := .fields #[rawInt 0, rawInt (Builtin.Range.rangeSize 0 i 1), rawInt 1] }) F1 N1 rfl
  obtain ⟨I2, G2⟩ := I1.beside (o := { cls := .type "range_iterator", data := .fields #[rawInt 0, rawInt (Builtin.Range.rangeSize 0 i 1), rawInt 1] }) (fresh_of N1)
  refine post _ _ _ _ α' [_] _ _ F2 N2 I2 (G'.trans G1) G2 (iter_range (n := i) ok ht (fresh_of N1) (Nat.ne_of_lt F1.ns.lt) (fresh_base F1 (Nat.le_refl _))) ?_
    fun J hJ => by rw [List.mem_singleton.mp hJ]; exact ⟨_, .head _, imm_type rfl (by decide), I1.fresh_not (fresh_of N1)⟩
  have := Heap.get?_push_size ((h'.push { cls := .type "range", data := .fields #[.int 0 tk, .int i t, .int 1 (tk + 1)] })) (o := { cls := .type "range_iterator", data := .fields #[rawInt 0, rawInt (Builtin.Range.rangeSize 0 i 1), rawInt 1] }) rfl
  rw [rangeSize_one0] at this
  show IsRangeIter _ _ _ _ _
  rw [rangeSize_one0, show (((0 : Nat) : Int)) = 0 from rfl, Int.sub_zero]
  exact this

/-! ### enumerate(list) -/
noncomputable def srcE (k : Nat) : Src := fun i σ => (lstAt σ k).map fun vs => vs[i]?.map fun v => .tup [.int i, v]
noncomputable def diEnum (r : DL) : DI := fun ρ σ => (r ρ σ).bind fun u => match u.1 with
  | [.ref k] => (lstAt u.2 k).map fun vs => (srcE k, vs.length, u.2)
  | _ => Option.none
theorem iter_enum {f : Fm} (ok : f.Ok P dp) {α0 : Al} {news0 : Led} {k : Nat} {l I e : Addr} (e0 : α0[k]? = some (l, l)) {elts : List Expr} {x1} {tpos : Pos} (off : ∀ p ∈ news0, p.1 ≠ I ∧ p.1 ≠ e) (offL : f.L ≠ I ∧ f.L ≠ e) (offB : f.h₀.get? I = Option.none ∧ f.h₀.get? e = Option.none) (hlI : l ≠ I) (heI : e ≠ I) :
    Iter P f (.Tuple elts x1 tpos) (srcE k) [I, e] (.ref e) (fun i h => (∃ old, IsEnum h e I i old) ∧ h.IsListIter I l i) α0 news0 where
  obj := fun i h x J hJ => by
    rcases List.mem_cons.mp hJ with rfl | hJ
    · obtain ⟨_, o, a, b, _⟩ := x
      exact ⟨o, a, imm_type b (by decide)⟩
    · rw [List.mem_singleton.mp hJ]
      obtain ⟨⟨old, y⟩, _⟩ := x
      exact ⟨_, y, imm_type rfl (by decide)⟩
  frame := fun i h h' x hk => by
    obtain ⟨⟨old, y⟩, z⟩ := x
    exact ⟨⟨old, hk e (by simp) _ y⟩, isListIter_at z (hk I (by simp))⟩
  nd := by simp [Ne.symm heI]
  off := fun p hp => by simpa using off p hp
  offL := by simpa using offL
  offB := fun J hJ => by
    rcases List.mem_cons.mp hJ with rfl | hJ
    · exact offB.1
    · rw [List.mem_singleton.mp hJ]; exact offB.2
  self := fun i s K x hK => by
    obtain ⟨⟨old, y⟩, _⟩ := x
    exact wpAny_pyIter_enum y hK
  item := fun i σ v hv m news α s K F N I' hal hfz x hK => by
    unfold srcE at hv
    obtain ⟨vs, hvs, hi⟩ := Option.map_eq_some_iff.mp hv
    obtain ⟨w, hi2, rfl⟩ := Option.map_eq_some_iff.mp hi
    obtain ⟨d, vals, n, hval, ea, hm, rs, hl⟩ := I'.list hvs (.ref k l l (hal k _ e0))
    rw [hal k _ e0] at ea
    cases ea
    obtain ⟨val, h1, h2⟩ := rs.at hi2
    obtain ⟨⟨old, y⟩, z⟩ := x
    refine wpAny_pyNext_enum_item y z (listOf_is (N _ hm).1) (x := val) (by simpa using h1) heI fun h' y' z' tup hz hk => ?_
    dsimp only
    have hlt : ∀ {a o}, s.heap.get? a = some o → a < s.heap.objs.size := fun q => Heap.lt_size q
    have hea : e < s.heap.objs.size := hlt y
    refine wpAny_letOwnedTupleGo_enum y' fun h'' y'' hs'' => ?_
    have fresh : ∀ p ∈ news, p.1 ≠ s.heap.objs.size := fresh_of N
    refine hK h'' _ (.ref s.heap.objs.size) [(s.heap.objs.size, { cls := .type "tuple", data := .seq #[.int i s.toks, val] })] (by simp) (fun p hp => ?_) ⟨⟨_, y''⟩, ?_⟩ (fun b o hb q => ?_) ?_
    · rw [List.mem_singleton.mp hp]
      exact ⟨Nat.le_refl _, hs''.extBut _ _ (Nat.ne_of_gt hea) tup⟩
    · exact isListIter_at z' fun o q => hs''.extBut _ _ (Ne.symm heI) q
    · have hb' : b ≠ I ∧ b ≠ e := by simpa using hb
      exact hs''.extBut b o hb'.2 (hk b o hb'.2 hb'.1 q)
    · refine .tup _ [.int i s.toks, val] _ 0 ⟨.head _, I'.fresh_not fresh, rfl⟩ rfl ?_
      have := (RVs.cons (.int (i : Int) s.toks) (.cons (h2.mono (fun _ _ q => q) fun p hp => ⟨.tail _ hp.1, hp.2⟩) .nil) : RVs α (Frz α ([(s.heap.objs.size, ({ cls := .type "tuple", data := .seq #[.int i s.toks, val] } : Obj))] ++ news)) [.int i, w] [.int i s.toks, val])
      exact this.2
  done := fun i σ hv m news α s K F N I' hal hfz x hK => by
    unfold srcE at hv
    obtain ⟨vs, hvs, hi⟩ := Option.map_eq_some_iff.mp hv
    rw [Option.map_eq_none_iff] at hi
    obtain ⟨d, vals, n, hval, ea, hm, rs, hl⟩ := I'.list hvs (.ref k l l (hal k _ e0))
    rw [hal k _ e0] at ea
    cases ea
    obtain ⟨⟨old, y⟩, z⟩ := x
    refine wpAny_pyNext_enum_end ok.handled y z (listOf_is (N _ hm).1) (by
      rw [List.getElem?_eq_none_iff] at hi
      simp [← rs.1, hi]) fun h' hs => ?_
    exact hK h' fun b o hb q => hs b o (by simp at hb; exact hb.1) q
theorem si_enum {elts : List Expr} {x1} {tpos : Pos} {e : Expr} {p pos : Pos} {r : DL} (hn : NameOk P (Str.ofString "enumerate") (.type "enumerate")) (hk : ks.lookup (Str.ofString "enumerate") = some .globalImplicit)
    (hr : SL P dp ks names [e] r) (hb : ∀ env pos, (backTo pos (starEach [e] env)).any (·.1) = false) (hne : ∀ env, starEach [e] env = (false, eval e env) :: starEach [] env) :
    SI P dp ks names (.Tuple elts x1 tpos) (.Call (.Name (Str.ofString "enumerate") p) [e] [] pos) (diEnum r) := by
  intro f env ok fit hks ρ σ src n σ' hv m news α s Q pre post
  simp only [diEnum, Option.bind_eq_some_iff] at hv
  obtain ⟨⟨v1, σ1⟩, h1, hv⟩ := hv
  split at hv
  case h_2 => cases hv
  rename_i k hvs
  dsimp only at hvs
  subst hvs
  obtain ⟨vs, hvs, e2⟩ := Option.map_eq_some_iff.mp hv
  cases e2
  refine call_raw ok fit hks hn (keep_type ⟨_, .inr (.inl rfl), rfl⟩) hk (by decide) hr hb hne h1 pre ?_
  intro h' tk news' α' vals F' N' I' G' R'
  obtain ⟨v1, r1, rfl, q1, R'⟩ := R'.head
  obtain rfl := R'.nil_inv
  obtain ⟨d, vals, n', rfl, ea, hm, rs, hl⟩ := I'.list hvs q1
  have hd : d < h'.objs.size := Heap.lt_size (N' _ hm).1
  refine call_enumerate_1 (N' _ hm).1 fun h2 y z hz hk2 => ?_
  refine wpAny_pyIter_enum y ?_
  obtain ⟨oI, zI, zc, zd⟩ := id z
  have F2 : Fr f.h₀ f.L h2 m := F'.keeps hk2
  have lt0 : ∀ p ∈ news', p.1 < h'.objs.size := fun p hp => Heap.lt_size (N' p hp).1
  have fr1 : ∀ p ∈ news', p.1 ≠ h'.objs.size := fresh_of N'
  have fr2 : ∀ p ∈ (h'.objs.size, oI) :: news', p.1 ≠ h'.objs.size + 1 := fun p hp => by
    rcases List.mem_cons.mp hp with rfl | hp
    · exact Nat.ne_of_lt (Nat.lt_succ_self _)
    · exact Nat.ne_of_lt (Nat.lt_succ_of_lt (lt0 p hp))
  obtain ⟨I2, G2⟩ := I'.beside (o := oI) fr1
  obtain ⟨I3, G3⟩ := I2.beside (o := { cls := .type "enumerate", dict := Option.none, data := .fields #[.none, .bool false, .ref h'.objs.size, rawInt 0, .none, .none], slots := #[] }) fr2
  have lL : f.L < h'.objs.size := F'.ns.lt
  have N3 : News f.h₀ f.L h2 ((h'.objs.size + 1, { cls := .type "enumerate", dict := Option.none, data := .fields #[.none, .bool false, .ref h'.objs.size, rawInt 0, .none, .none], slots := #[] }) :: (h'.objs.size, oI) :: news') := fun p hp => by
    rcases List.mem_cons.mp hp with rfl | hp
    · exact ⟨y, Nat.ne_of_gt (Nat.lt_succ_of_lt lL), fresh_base F' (Nat.le_succ _)⟩
    rcases List.mem_cons.mp hp with rfl | hp
    · exact ⟨zI, Nat.ne_of_gt lL, fresh_base F' (Nat.le_refl _)⟩
    · exact ⟨hk2 _ _ (N' p hp).1, (N' p hp).2⟩
  refine post h2 tk news' _ α' [h'.objs.size, h'.objs.size + 1] _ _ F2 N3 I3 G' (G2.trans G3) (iter_enum ok ea (fun p hp => ⟨fr1 p hp, Nat.ne_of_lt (Nat.lt_succ_of_lt (lt0 p hp))⟩) ⟨Nat.ne_of_lt lL, Nat.ne_of_lt (Nat.lt_succ_of_lt lL)⟩ ⟨fresh_base F' (Nat.le_refl _), fresh_base F' (Nat.le_succ _)⟩ (Nat.ne_of_lt hd) (Nat.ne_of_gt (Nat.lt_succ_self _))) ⟨⟨_, y⟩, z⟩ ?_
  intro J hJ
  rcases List.mem_cons.mp hJ with rfl | hJ
  · exact ⟨_, .tail _ (.head _), imm_type zc (by decide), I'.fresh_not fr1⟩
  · rw [List.mem_singleton.mp hJ]
    exact ⟨_, .head _, imm_type rfl (by decide), I2.fresh_not fr2⟩
end
section
variable {P : Pg} {dp : Nat} {ks : Ks} {names : List Str}

/-! ### a, b = (x, y) over local names: the stores go backwards -/
noncomputable def setAll : List Nat → Rho → List V → Rho
  | i :: is, ρ, v :: vs => setAll is (ρ.set i (some v)) vs
  | _, ρ, _ => ρ
noncomputable def NamesAt (names : List Str) (ks : Ks) : List Str → List Nat → Prop
  | [], [] => True
  | x :: xs, i :: is => names[i]? = some x ∧ ks.lookup x = some .local ∧ NamesAt names ks xs is
  | _, _ => False
theorem stores_sound {f : Fm} (ok : f.Ok P dp) (hks : f.cs.names = ks) (hnd : names.Nodup) : ∀ {xs : List Str} {is : List Nat}, NamesAt names ks xs is → ∀ {vs : List V} {vals : List Value}, vs.length = is.length → ∀ {ρ : Rho} {σ : St} {m : Str → Option Value} {news : Led} {α : Al} {s : Shared} {Q : Unit → Shared → Prop},
    PreS P f names ρ σ m news α s.heap → RVs α (Frz α news) vs vals → PostA P f names α news (setAll is ρ vs) σ Q s → wpAny (model P.prog P.w) f.A (assignInOrder (xs.map fun n => bindName f.env n) vals) Q (fun _ _ => False) s
  | [], [], _, vs, vals, hl, ρ, σ, m, news, α, s, Q, pre, R, post => by
    cases vs with
    | nil => rw [R.nil_inv]; exact assignInOrder_nil (post _ _ _ _ _ pre .refl)
    | cons _ _ => cases hl
  | x :: xs, i :: is, ⟨hx, hk, hr⟩, vs, vals, hl, ρ, σ, m, news, α, s, Q, pre, R, post => by
    cases vs with
    | nil => cases hl
    | cons v vs =>
      refine cps fun Xc kc => ?_
      obtain ⟨val, vals', eq1, h1, h2⟩ := R.head
      refine kc ?_; clear kc Xc; subst eq1
      refine assignInOrder_cons (wpAny_bindName (store_local ok hks hnd hx hk pre h1 ?_))
      intro h' tk m' news' α' pre' G'
      refine stores_sound ok hks hnd hr (by simpa using hl) pre' (h2.le G') ?_
      intro h'' tk' m'' news'' α'' pre'' G''
      exact post _ _ _ _ _ pre'' (G'.trans G'')
  | [], _ :: _, h, _, _, _, _, _, _, _, _, _, _, _, _, _ => h.elim
  | _ :: _, [], h, _, _, _, _, _, _, _, _, _, _, _, _, _ => h.elim

noncomputable def dsSwap (is : List Nat) (r : DL) : DS := fun ρ σ => (r ρ σ).bind fun u => if u.1.length = is.length ∧ u.1.length < 2 ^ 20 then some (.next, setAll is.reverse ρ u.1.reverse, u.2) else Option.none
theorem NamesAt.append {xs ys : List Str} : ∀ {is js : List Nat}, NamesAt names ks xs is → NamesAt names ks ys js → NamesAt names ks (xs ++ ys) (is ++ js) := by
  induction xs with
  | nil => intro is js h h'; cases is with
    | nil => exact h'
    | cons _ _ => exact h.elim
  | cons x xs ih => intro is js h h'; cases is with
    | nil => exact h.elim
    | cons i is => exact ⟨h.1, h.2.1, ih h.2.2 h'⟩
theorem NamesAt.reverse : ∀ {xs : List Str} {is : List Nat}, NamesAt names ks xs is → NamesAt names ks xs.reverse is.reverse
  | [], [], _ => trivial
  | x :: xs, i :: is, ⟨a, b, c⟩ => by
    rw [List.reverse_cons, List.reverse_cons]
    exact NamesAt.append c.reverse ⟨a, b, trivial⟩
  | [], _ :: _, h => h.elim
  | _ :: _, [], h => h.elim
theorem NamesAt.length : ∀ {xs : List Str} {is : List Nat}, NamesAt names ks xs is → xs.length = is.length
  | [], [], _ => rfl
  | x :: xs, i :: is, ⟨a, b, c⟩ => by simp [c.length]
  | [], _ :: _, h => h.elim
  | _ :: _, [], h => h.elim
theorem sx_swap {ts es : List Expr} {k k' : Nat} {tpos epos pos : Pos} {xs : List Str} {is : List Nat} {r : DL} (hnd : names.Nodup) (hn : NamesAt names ks xs is) (hr : SL P dp ks names es r)
    (hs : ∀ env : Env, swapsWithSole [.Tuple ts k tpos] (.Tuple es k' epos) pos.line env = pure false) (hw : ∀ env : Env, env.scope.names = ks → env.scope.kind = .function → swappedStores [.Tuple ts k tpos] (.Tuple es k' epos) env = pure (some xs)) :
    SX P dp ks names (.Assign [.Tuple ts k tpos] (.Tuple es k' epos) pos) (dsSwap is r) := by
  intro f ok hks ρ σ fl ρ' σ' hv m news α s Q pre post
  simp only [dsSwap, Option.bind_eq_some_iff] at hv
  refine cps fun Xc kc => ?_
  obtain ⟨⟨vs, σ1⟩, h1, hv⟩ := hv
  refine kc ?_; clear kc Xc
  split at hv
  case isFalse => cases hv
  case isTrue hlen =>
  cases hv
  have h2 : dTup r ρ σ = some (.tup vs, σ1) := by
    simp only [dTup, h1, Option.bind_some]
    rw [if_pos hlen.2]
  refine Assign_Tuple_swapped (names := xs) (se_tup hr f f.env ok ok.fits hks ρ σ _ _ h2 m news α s _ pre.toPre ?_) (hs _) (hw _ hks ok.kind)
  intro h' tk news' α' val F' N' I' G' R'
  refine cps fun Xc kc => ?_
  obtain ⟨a, vals, n, eq1, hm, rs⟩ := tup_obj R'
  refine kc ?_; clear kc Xc; subst eq1
  have ht : IsTup h' a (List.toArray vals) := ⟨_, (N' _ hm).1, rfl, n, rfl⟩
  refine unpackItemsN_ F' N' ht ok.handled (by rw [List.size_toArray, ← rs.1, hlen.1, hn.length]) fun h'' F'' N'' => ?_
  have pre' : PreS P f names ρ σ1 m news' α' h'' := ⟨⟨F'', N'', I', (pre.step F' N' I' G').E⟩, (pre.step F' N' I' G').O⟩
  have z := stores_sound ok hks hnd hn.reverse (s := { s with heap := h'', toks := tk }) (Q := fun _ => Q .next) (by simp [hlen.1]) pre' rs.reverse (fun h3 tk3 m3 news3 α3 pre3 G3 => post h3 tk3 m3 news3 α3 pre3 (G'.weaken.trans G3))
  exact z
end
section
variable {P : Pg} {dp : Nat} {ks : Ks} {names : List Str}

theorem keep_but {f : Fm} {m : Str → Option Value} {news : Led} {h h' : Heap} {Is : List Addr} (F : Fr f.h₀ f.L h m) (N : News f.h₀ f.L h news) (offL : f.L ∉ Is) (offB : ∀ I ∈ Is, f.h₀.get? I = Option.none) (hk : ∀ b o, b ∉ Is → h.get? b = some o → h'.get? b = some o) :
    Fr f.h₀ f.L h' m ∧ News f.h₀ f.L h' (news.filter fun p => decide (p.1 ∉ Is)) := by
  refine ⟨⟨F.ns.at' fun o e => hk _ o offL e, fun b o e => hk b o (fun hI => by rw [offB b hI] at e; cases e) (F.keep b o e), F.above⟩, fun p hp => ?_⟩
  obtain ⟨a, b⟩ := List.mem_filter.mp hp
  exact ⟨hk _ _ (by simpa using b) (N p a).1, (N p a).2⟩

theorem iter_step {f : Fm} {target : Expr} {src : Src} {Is : List Addr} {itv : Value} {It : Nat → Heap → Prop} {α0 : Al} {news0 : Led} (T : Iter P f target src Is itv It α0 news0) {σ : St} {i : Nat} {v : V} (hv : src i σ = some (some v))
    {m : Str → Option Value} {news : Led} {α : Al} {s : Shared} (F : Fr f.h₀ f.L s.heap m) (N : News f.h₀ f.L s.heap news) (I : Inv P α news σ) (G : GLe [] α0 news0 α news) (hit : It i s.heap) (hIs : ∀ I ∈ Is, ∃ o, (I, o) ∈ news ∧ isImm o = false ∧ I ∉ muts α) {K : Value → Shared → Prop}
    (hK : ∀ h' tk val news', Fr f.h₀ f.L h' m → News f.h₀ f.L h' news' → Inv P α news' σ → (∀ p, Frz α news p → Frz α news' p) → (∀ p ∈ news, p.1 ∉ Is → p ∈ news') → It (i + 1) h' → (∀ I ∈ Is, ∃ o, (I, o) ∈ news' ∧ isImm o = false ∧ I ∉ muts α) → RV α (Frz α news') v val → K val { s with heap := h', toks := tk }) :
    wpAny (model P.prog P.w) f.A (pyNext itv) (fun r s1 => match r with | Option.none => False | some val => wpAny (model P.prog P.w) f.A (letOwnedTupleGo target itv val) (fun _ s2 => K val s2) (fun _ _ => False) s1) (fun _ _ => False) s := by
  have hdrop : ∀ p ∈ news, p.1 ∈ Is → isImm p.2 = false ∧ p.1 ∉ muts α := fun p hp hI => by
    refine cps fun Xc kc => ?_
    obtain ⟨o, a, b, c⟩ := hIs p.1 hI
    refine kc ?_; clear kc Xc
    rw [mem_unique I.nn (show (p.1, p.2) ∈ news from hp) a]
    exact ⟨b, c⟩
  refine cps fun Xc kc => ?_
  obtain ⟨I1, fz1, kp1, in1⟩ := I.drop Is hdrop
  refine kc ?_; clear kc Xc
  refine T.item i σ v hv m news α s K F N I G.al (fun p hp => G.frz hp) hit ?_
  intro h' tk' val ext end' hext hit' hk rv
  obtain ⟨F', N'⟩ := keep_but F N T.offL T.offB hk
  have hobj := T.obj (i + 1) h' hit'
  have lt : ∀ p ∈ news, p.1 < s.heap.objs.size := fun p hp => Heap.lt_size (N p hp).1
  have sep1 : ∀ p ∈ ext, ∀ q ∈ news.filter (fun p => decide (p.1 ∉ Is)), q.1 ≠ p.1 := fun p hp q hq e => by
    have := lt q (in1 q hq).1
    rw [e] at this
    exact absurd (hext p hp).1 (Nat.not_le.mpr this)
  obtain ⟨I2, G2⟩ := I1.besides ext end' sep1
  have IsObj : ∃ own2 : Led, own2.map (·.1) = Is ∧ ∀ p ∈ own2, h'.get? p.1 = some p.2 ∧ isImm p.2 = false := by
    have : ∀ l : List Addr, (∀ I ∈ l, ∃ o, h'.get? I = some o ∧ isImm o = false) → ∃ own2 : Led, own2.map (·.1) = l ∧ ∀ p ∈ own2, h'.get? p.1 = some p.2 ∧ isImm p.2 = false := by
      intro l
      induction l with
      | nil => exact fun _ => ⟨[], rfl, fun p hp => nomatch hp⟩
      | cons a r ih =>
        intro hl
        obtain ⟨o, q1, q2⟩ := hl a (.head _)
        obtain ⟨w, w1, w2⟩ := ih fun I hI => hl I (.tail _ hI)
        exact ⟨(a, o) :: w, by rw [List.map_cons, w1], fun p hp => (List.mem_cons.mp hp).elim (fun e => e ▸ ⟨q1, q2⟩) (w2 p)⟩
    exact this Is hobj
  obtain ⟨own2, ow1, ow2⟩ := IsObj
  have inIs : ∀ p ∈ own2, p.1 ∈ Is := fun p hp => by rw [← ow1]; exact List.mem_map_of_mem (f := (·.1)) hp
  have ltIs : ∀ J ∈ Is, J < s.heap.objs.size := fun J hJ => by obtain ⟨o, a, _⟩ := hIs J hJ; exact lt _ a
  have sep2 : ∀ p ∈ own2, ∀ q ∈ ext ++ news.filter (fun p => decide (p.1 ∉ Is)), q.1 ≠ p.1 := fun p hp q hq e => by
    rcases List.mem_append.mp hq with hq | hq
    · have := ltIs _ (inIs p hp)
      rw [← e] at this
      exact absurd (hext q hq).1 (Nat.not_le.mpr this)
    · exact (in1 q hq).2 (e ▸ inIs p hp)
  obtain ⟨I3, G3⟩ := I2.besides own2 (by rw [ow1]; exact T.nd) sep2
  have N3 : News f.h₀ f.L h' (own2 ++ (ext ++ news.filter fun p => decide (p.1 ∉ Is))) := fun p hp => by
    rcases List.mem_append.mp hp with hp | hp
    · exact ⟨(ow2 p hp).1, fun e => T.offL (e ▸ inIs p hp), T.offB _ (inIs p hp)⟩
    · rcases List.mem_append.mp hp with hp | hp
      · refine ⟨(hext p hp).2, fun e => ?_, ?_⟩
        · have := (hext p hp).1
          rw [e] at this
          exact absurd F.ns.lt (Nat.not_lt.mpr this)
        · exact fresh_base F (hext p hp).1
      · exact N' p hp
  have fz : ∀ p, Frz α news p → Frz α (own2 ++ (ext ++ news.filter fun p => decide (p.1 ∉ Is))) p := fun p hp => (G2.trans G3).frz (fz1 p hp)
  refine hK h' tk' val _ F' N3 I3 fz (fun p hp hn => List.mem_append_right _ (List.mem_append_right _ (kp1 p hp hn))) hit' (fun J hJ => ?_) ?_
  · rw [← ow1] at hJ
    obtain ⟨p, hp, rfl⟩ := List.mem_map.mp hJ
    refine cps fun Xc kc => ?_
    obtain ⟨o, _, _, c⟩ := hIs _ (inIs p hp)
    refine kc ?_; clear kc Xc
    exact ⟨p.2, List.mem_append_left _ hp, (ow2 p hp).2, c⟩
  · refine rv.mono (fun _ _ e => e) fun p hp => ?_
    rcases List.mem_append.mp hp.1 with q | q
    · exact ⟨List.mem_append_right _ (List.mem_append_left _ q), hp.2⟩
    · exact fz p ⟨q, hp.2⟩

theorem iter_done {f : Fm} {target : Expr} {src : Src} {Is : List Addr} {itv : Value} {It : Nat → Heap → Prop} {α0 : Al} {news0 : Led} (T : Iter P f target src Is itv It α0 news0) {σ : St} {i : Nat} (hv : src i σ = some Option.none)
    {m : Str → Option Value} {news : Led} {α : Al} {s : Shared} (F : Fr f.h₀ f.L s.heap m) (N : News f.h₀ f.L s.heap news) (I : Inv P α news σ) (G : GLe [] α0 news0 α news) (hit : It i s.heap) (hIs : ∀ I ∈ Is, ∃ o, (I, o) ∈ news ∧ isImm o = false ∧ I ∉ muts α) {K : Shared → Prop}
    (hK : ∀ h' news', Fr f.h₀ f.L h' m → News f.h₀ f.L h' news' → Inv P α news' σ → (∀ p, Frz α news p → Frz α news' p) → (∀ p ∈ news, p.1 ∉ Is → p ∈ news') → K { s with heap := h' }) :
    wpAny (model P.prog P.w) f.A (pyNext itv) (fun r s1 => match r with | Option.none => K s1 | some _ => False) (fun _ _ => False) s := by
  have hdrop : ∀ p ∈ news, p.1 ∈ Is → isImm p.2 = false ∧ p.1 ∉ muts α := fun p hp hI => by
    refine cps fun Xc kc => ?_
    obtain ⟨o, a, b, c⟩ := hIs p.1 hI
    refine kc ?_; clear kc Xc
    rw [mem_unique I.nn (show (p.1, p.2) ∈ news from hp) a]
    exact ⟨b, c⟩
  refine cps fun Xc kc => ?_
  obtain ⟨I1, fz1, kp1, in1⟩ := I.drop Is hdrop
  refine kc ?_; clear kc Xc
  refine T.done i σ hv m news α s K F N I G.al (fun p hp => G.frz hp) hit ?_
  intro h' hk
  obtain ⟨F', N'⟩ := keep_but F N T.offL T.offB hk
  exact hK h' _ F' N' I1 fz1 kp1

theorem imm_ns {o : Obj} {m : Str → Option Value} (h : NsObj o m) : isImm o = false ∧ isCell o = false := by
  refine cps fun Xc kc => ?_
  obtain ⟨es, ep, hd, _⟩ := h
  refine kc ?_; clear kc Xc
  refine ⟨?_, by unfold isCell; rw [hd]⟩
  unfold isImm
  have : isDct o = true := by unfold isDct; rw [hd]
  rw [this]
  simp

theorem reput {f : Fm} {m : Str → Option Value} {news : Led} {α : Al} {σ : St} {h h' : Heap} {C : Addr} {oC oC' : Obj} (F : Fr f.h₀ f.L h m) (N : News f.h₀ f.L h news) (I : Inv P α news σ) (hm : (C, oC) ∈ news) (hi : isImm oC = false) (hC : C ∉ muts α) (hs : Heap.SameBut C h h') (e : h'.get? C = some oC') :
    ∃ news', Fr f.h₀ f.L h' m ∧ News f.h₀ f.L h' news' ∧ Inv P α news' σ ∧ (C, oC') ∈ news' ∧ (∀ p, Frz α news p → Frz α news' p) ∧ (∀ p ∈ news, p.1 ≠ C → p ∈ news') := by
  obtain ⟨I1, fz1, kp1, in1⟩ := I.drop [C] fun p hp hI => by
    have : p.1 = C := by simpa using hI
    rw [mem_unique I.nn (show (C, p.2) ∈ news from this ▸ hp) hm, this]
    exact ⟨hi, hC⟩
  obtain ⟨F', N'⟩ := keep_but (Is := [C]) F N (by simpa using Ne.symm (N _ hm).2.1) (by simpa using (N _ hm).2.2) (fun b o hb q => hs.extBut b o (by simpa using hb) q)
  obtain ⟨I2, G2⟩ := I1.beside (a := C) (o := oC') fun p hp q => by
    have := (in1 p hp).2
    simp [q] at this
  refine ⟨_, F', fun p hp => ?_, I2, .head _, fun p hp => G2.frz (fz1 p hp), fun p hp hn => .tail _ (kp1 p hp (by simpa using hn))⟩
  rcases List.mem_cons.mp hp with rfl | hp
  · exact ⟨e, (N _ hm).2⟩
  · exact N' p hp

noncomputable def appAt (σ : St) (k : Nat) (v : V) : Option St := (lstAt σ k).bind fun vs => if vs.length + 1 < 2 ^ 20 then some (σ.set k (.list (vs ++ [v]))) else Option.none
theorem append_sound {f : Fm} {m : Str → Option Value} {news : Led} {α : Al} {σ σ' : St} {s : Shared} (F : Fr f.h₀ f.L s.heap m) (N : News f.h₀ f.L s.heap news) (I : Inv P α news σ) {k : Nat} {v : V} {val : Value} {D : Addr} (hk : appAt σ k v = some σ')
    (eα : α[k]? = some (D, D)) (R : RV α (Frz α news) v val) {Q : Value → Shared → Prop} (hQ : ∀ h' news', Fr f.h₀ f.L h' m → News f.h₀ f.L h' news' → Inv P α news' σ' → GLe [] α news α news' → Q .none { s with heap := h' }) :
    wpAny (model P.prog P.w) f.A (call (.builtin "list.append") [.ref D, val]) Q (fun _ _ => False) s := by
  unfold appAt at hk
  obtain ⟨vs, hvs, hk⟩ := Option.bind_eq_some_iff.mp hk
  split at hk
  case isFalse => cases hk
  case isTrue hlt =>
  cases hk
  refine cps fun Xc kc => ?_
  obtain ⟨d, vals, n, hd, e1', e2', r, hl⟩ := I.list hvs (.ref k D D eα)
  refine kc ?_; clear kc Xc
  cases hd
  refine cps fun Xc kc => ?_
  obtain ⟨g, U1, U2, fin⟩ := I.update (mo' := .list (vs ++ [v])) e1' (lstAt_some hvs) e2'
  refine kc ?_; clear kc Xc
  refine append_K F N (U2 _) (fun h3 F3 N3 => ?_) (by rw [List.size_toArray, ← r.1, sizeLine_eq]; lia)
  obtain ⟨I3, G3⟩ := fin (listOf ((List.toArray vals).push val) (n + 1)) (fun Φ hΦ eΦ => ⟨rfl, by rw [List.length_append]; simpa using hlt, vals ++ [val], n + 1, by simp, eΦ ▸ ((r.append (.cons R .nil)).mono (fun _ _ e => e) hΦ)⟩)
  exact hQ _ _ F3 N3 I3 G3

/-! ### list comprehensions of one clause over a name -/
noncomputable def compG (src : Src) (ws : Rho) (test elt : DE) (k : Nat) : Nat → Nat → St → Option St
  | 0, i, σ => match src i σ with
    | some Option.none => some σ
    | _ => Option.none
  | n + 1, i, σ => match src i σ with
    | some Option.none => some σ
    | some (some v) => (test (some v :: ws) σ).bind fun r => r.1.toBool.bind fun c =>
        if c then (elt (some v :: ws) r.2).bind fun u => (appAt u.2 k u.1).bind fun σ' => compG src ws test elt k n (i + 1) σ'
        else compG src ws test elt k n (i + 1) r.2
    | Option.none => Option.none
noncomputable def STs (P : Pg) (dp : Nat) (ks : Ks) (names : List Str) (ifs : List Expr) (d : DE) : Prop :=
  ∀ (f : Fm) (env : Env), f.Ok P dp → Fits env → env.scope.names = ks → ∀ ρ σ b σ', d ρ σ = some (.bool b, σ') → ∀ m news α (s : Shared) (Q : Bool → Shared → Prop), Pre P f env names ρ σ m news α s.heap →
    PostB P f m α news σ' b Q s → wpAny (model P.prog P.w) f.A (forIn ifs true fun c r => if r = true then do let ok ← isTrue c env (eval c env); pure (ForInStep.yield ok) else pure (ForInStep.yield r)) Q (fun _ _ => False) s
theorem sts_nil : STs P dp ks names [] (dBool true) := by
  intro f env ok fit hks ρ σ b σ' hv m news α s Q pre post
  cases hv
  exact wpAny_tests_nil (post s.heap s.toks news α pre.F pre.N pre.I .refl)
theorem sts_one {c : Expr} {d : DE} (h : ST P dp ks names c d) : STs P dp ks names [c] d := by
  intro f env ok fit hks ρ σ b σ' hv m news α s Q pre post
  exact wpAny_tests_one (h f env ok fit hks ρ σ b σ' hv m news α s Q pre post)

noncomputable def relN (ks l : Ks) : Ks := l.map fun p => if (p.2 == .free && ks.lookup p.1 == some .cell) then (p.1, .cell) else p
theorem relabel_names {scope : Scope} {env : Env} (fit : Fits env) (hks : env.scope.names = ks) : (relabel scope env).names = relN ks scope.names := by
  show scope.names.map _ = scope.names.map _
  refine List.map_congr_left fun p _ => ?_
  obtain ⟨n, k⟩ := p
  simp [fit.kind, Env.kindOf, hks]

theorem comp_block {elt iter : Expr} {x : Str} {px : Pos} {scope : Scope} {cl : List (Str × Addr)} {pos : Pos} {ifs : List Expr} {f : Fm} {env : Env} (ok : f.Ok P dp) (fit : Fits env) (hks : env.scope.names = ks)
    (hcell : ∀ y ∈ scope.names, y.2 ≠ .cell) (hkind : scope.kind = .function) (hx : scope.names.lookup x = some .local) {xs : List Str} {src : Src} {Is : List Addr} {itv : Value} {It : Nat → Heap → Prop} {α0 : Al} {news0 : Led}
    (T : Iter P f (.Name x px) src Is itv It α0 news0) {test d : DE} (hts : STs P dp (relN ks scope.names) (x :: xs) ifs test) (hel : SE P dp (relN ks scope.names) (x :: xs) elt d) {ws : Rho}
    (E0 : ∀ (i : Nat) (y : Str) (w : V), xs[i]? = some y → ws[i]? = some (some w) → ∃ val, RV α0 (Frz α0 news0) w val ∧ (relN ks scope.names).lookup y = some .cell ∧ ∃ c o, cl.lookup y = some c ∧ (c, o) ∈ news0 ∧ c ∉ muts α0 ∧ o.data = .cell (some val))
    {m : Str → Option Value} {news : Led} {α : Al} {s : Shared} {σ σ' : St} {fuel : Nat} (F : Fr f.h₀ f.L s.heap m) (N : News f.h₀ f.L s.heap news) (I : Inv P α news σ) (G : GLe [] α0 news0 α news) (hit : It 0 s.heap) (hIs : ∀ I ∈ Is, ∃ o, (I, o) ∈ news ∧ isImm o = false ∧ I ∉ muts α)
    (hv : compG src ws test d σ.length fuel 0 (σ ++ [.list []]) = some σ') {RR : Value → Addr → Result → Shared → Prop}
    (hRR : ∀ h tk news' α' C oC mC val, Fr f.h₀ f.L h m → News f.h₀ f.L h news' → Inv P α' news' σ' → GLe [] α0 news0 α' news' → (C, oC) ∈ news' → NsObj oC mC → C ∉ muts α' → (∀ p ∈ news0, p.1 ≠ C) → RV α' (Frz α' news') (.ref σ.length) val → RR val C (.ok .next) { s with heap := h, toks := tk }) :
    wpAny (model P.prog P.w) f.A (newList []) (fun acc s₃ => wpAny (model P.prog P.w) f.A (newFunctionEnv scope env.globals cl [] env.qual Option.none .none (some env)) (fun cenv s₄ =>
      codeAny (model P.prog P.w) f.A (.compStart (.ListComp elt [⟨.Name x px, iter, ifs, 0⟩] scope pos) 0 itv acc { cenv with scope := relabel scope env }) (RR acc cenv.locals) s₄) (fun _ _ => False) s₃) (fun _ _ => False) s := by
  refine new_list F N I .nil (by decide) fun h2 news2 α2 val2 F2 N2 I2 G2 R2 => ?_
  cases R2 with | ref _ D d' eD =>
  refine cps fun Xc kc => ?_
  obtain ⟨D', valsD, nD, hD', eD2, _⟩ := I2.list (k := σ.length) (vs := []) (by unfold lstAt; rw [List.getElem?_append_right (Nat.le_refl _)]; simp) (.ref _ D d' eD)
  refine kc ?_; clear kc Xc
  cases hD'
  refine wpAny_newFunctionEnv hcell (by intro y hy; simp at hy) (fun h₁ hns₁ hsb₁ => ?_) hkind
  dsimp only at hns₁ hsb₁ ⊢
  obtain ⟨oC0, heC, hoC⟩ := ns_obj hns₁
  have old : ∀ b o, h2.get? b = some o → h₁.get? b = some o := fun b o e => hsb₁.extBut b o (Nat.ne_of_lt (Heap.lt_size e)) (Heap.get?_push_of_some _ e)
  have frC : ∀ p ∈ news2, p.1 ≠ h2.objs.size := fresh_of N2
  obtain ⟨I3, G3⟩ := I2.beside (a := h2.objs.size) (o := oC0) frC
  have CL : h2.objs.size ≠ f.L := Nat.ne_of_gt F2.ns.lt
  have CB : f.h₀.get? h2.objs.size = Option.none := fresh_base F2 (Nat.le_refl _)
  have N3 : News f.h₀ f.L h₁ ((h2.objs.size, oC0) :: news2) := fun p hp => by
    rcases List.mem_cons.mp hp with rfl | hp
    · exact ⟨heC, CL, CB⟩
    · exact ⟨old _ _ (N2 p hp).1, (N2 p hp).2⟩
  have CIs : h2.objs.size ∉ Is := fun hc => by
    refine cps fun Xc kc => ?_
    obtain ⟨o, a, _, b⟩ := hIs _ hc
    refine kc ?_; clear kc Xc
    obtain ⟨a', _⟩ := G2.keep _ a b (.inr (by simp))
    exact frC _ a' rfl
  have Cn0 : ∀ p ∈ news0, p.1 ≠ h2.objs.size := fun p hp e => by
    by_cases hm : p.1 ∈ muts α0
    · obtain ⟨k, hk⟩ := List.getElem?_of_mem hm
      have : (muts α2)[k]? = some p.1 := by
        unfold muts at hk ⊢
        rw [List.getElem?_map] at hk ⊢
        obtain ⟨y, hy, e'⟩ := Option.map_eq_some_iff.mp hk
        rw [(G.trans G2).al k y hy]
        exact congrArg some e'
      obtain ⟨o, h⟩ := I2.muts_in (List.mem_of_getElem? this)
      exact frC _ h e
    · obtain ⟨a', _⟩ := (G.trans G2).keep p hp hm (.inr (by simp))
      exact frC _ a' e
  generalize h2.objs.size = C at *
  have keepIs : ∀ {news news' : Led} {α α' : Al}, GLe [] α news α' news' → (∀ I ∈ Is, ∃ o, (I, o) ∈ news ∧ isImm o = false ∧ I ∉ muts α) → ∀ I ∈ Is, ∃ o, (I, o) ∈ news' ∧ isImm o = false ∧ I ∉ muts α' := fun g h J hJ => by
    refine cps fun Xc kc => ?_
    obtain ⟨o, a, b, c⟩ := h J hJ
    refine kc ?_; clear kc Xc
    obtain ⟨a', c'⟩ := g.keep _ a c (.inr (by simp))
    exact ⟨o, a', b, c'⟩
  have keepIt : ∀ {news news' : Led} {α α' : Al} {h h' : Heap} {i : Nat}, GLe [] α news α' news' → News f.h₀ f.L h news → News f.h₀ f.L h' news' → (∀ I ∈ Is, ∃ o, (I, o) ∈ news ∧ isImm o = false ∧ I ∉ muts α) → It i h → It i h' := fun g n n' hI hi => by
    refine T.frame _ _ _ hi fun J hJ o e => ?_
    refine cps fun Xc kc => ?_
    obtain ⟨o', a, b, c⟩ := hI J hJ
    refine kc ?_; clear kc Xc
    obtain ⟨a', c'⟩ := g.keep _ a c (.inr (by simp))
    have : o' = o := Option.some.inj ((n _ a).1.symm.trans e)
    rw [← this]
    exact (n' _ a').1
  have keepC : ∀ {news news' : Led} {α α' : Al} {oC : Obj}, GLe [] α news α' news' → (C, oC) ∈ news → C ∉ muts α → (C, oC) ∈ news' ∧ C ∉ muts α' := fun g a b => g.keep _ a b (.inr (by simp))
  have loop : ∀ s₃ : Shared, s₃ = { s with heap := h₁, toks := s.toks + ([] : List (Str × Value)).length } →
      codeAny (model P.prog P.w) f.A (.compLoop (.ListComp elt [⟨.Name x px, iter, ifs, 0⟩] scope pos) 0 itv (.ref D) (compEnvC scope cl C env)) (RR (.ref D) C) s₃ := by
    rintro s₃ rfl
    obtain ⟨CI, hCI⟩ : ∃ CI : Nat → Shared → Prop, ∀ k s', CI k s' ↔ ∃ h tk news α σ i oC mC, s' = { s with heap := h, toks := tk } ∧ Fr f.h₀ f.L h m ∧ News f.h₀ f.L h news ∧ Inv P α news σ ∧ GLe [] α0 news0 α news ∧ (∀ (k : Nat) (y : Addr × Addr), α2[k]? = some y → α[k]? = some y) ∧ It i h ∧
        (∀ I ∈ Is, ∃ o, (I, o) ∈ news ∧ isImm o = false ∧ I ∉ muts α) ∧ (C, oC) ∈ news ∧ NsObj oC mC ∧ C ∉ muts α ∧ compG src ws test d (σ.length.min 0 + (α2.length - 1)) k i σ = some σ' := ⟨_, fun _ _ => Iff.rfl⟩
    refine codeAny_compLoop_tests CI ?_ fuel
      ((hCI _ _).mpr ⟨h₁, _, _, α2, _, 0, oC0, _, rfl, F2.keeps old, N3, I3, (G.trans G2).trans G3, fun _ _ e => e, ?_, keepIs G3 (keepIs G2 hIs), .head _, hoC, I2.fresh_not frC, ?_⟩)
    · intro k s' HH
      refine cps fun Xc kc => ?_
      obtain ⟨h, tk, news, α, σ1, i, oC, mC, es, F, N, I, G, al2, hit, hIs, hCm, hoC, hCn, hv⟩ := (hCI _ _).mp HH
      refine kc ?_; clear kc Xc HH
      subst es
      have hkk : σ1.length.min 0 + (α2.length - 1) = σ.length := by
        have := I2.len
        simp at this
        simp [this]
      rw [hkk] at hv
      have atEnd : src i σ1 = some Option.none → σ1 = σ' → wpAny (model P.prog P.w) f.A (pyNext itv) (fun r s1 => match r with | Option.none => RR (.ref D) C (.ok .next) s1 | some _ => False) (fun _ _ => False) { s with heap := h, toks := tk } := by
        intro hsrc e
        subst e
        refine iter_done T hsrc F N I G hit hIs fun h' news' F' N' I' fz kp => ?_
        have G' : GLe [] α0 news0 α news' := ⟨G.al, fun p hp hn hc => by
          obtain ⟨a, b⟩ := G.keep p hp hn hc
          exact ⟨kp p a (T.off p hp), b⟩⟩
        exact hRR h' tk news' α C oC mC (.ref D) F' N' I' G' (kp _ hCm CIs) hoC hCn Cn0 (.ref _ D D (al2 _ _ eD2))
      have stop : ∀ {Qs : Value → Shared → Prop}, src i σ1 = some Option.none → σ1 = σ' → wpAny (model P.prog P.w) f.A (pyNext itv) (fun r s1 => match r with | Option.none => RR (.ref D) C (.ok .next) s1 | some v => Qs v s1) (notedBy (model P.prog P.w) f.A (compEnvC scope cl C env) fun e s' => RR (.ref D) C (.error e) s') { s with heap := h, toks := tk } := fun h1 h2 =>
        wpAny_mono (atEnd h1 h2) (fun r s₁ z => by cases r with | none => exact z | some v => exact z.elim) (fun _ _ x => x.elim)
      cases k with
      | zero =>
        unfold compG at hv
        split at hv
        case h_2 => cases hv
        rename_i hsrc
        exact stop hsrc (Option.some.inj hv)
      | succ k =>
        unfold compG at hv
        split at hv
        · rename_i hsrc
          exact stop hsrc (Option.some.inj hv)
        · rename_i v hsrc
          simp only [Option.bind_eq_some_iff] at hv
          refine cps fun Xc kc => ?_
          obtain ⟨⟨tv, σ2⟩, h1, b, hb, hv⟩ := hv
          refine kc ?_; clear kc Xc
          obtain rfl := toBool_bool hb
          refine wpAny_mono (iter_step T hsrc F N I G hit hIs (K := fun val s2 => wpAny (model P.prog P.w) f.A (assign (.Name x px) (compEnvC scope cl C env) val) (fun _ s₂ =>
            wpAny (model P.prog P.w) f.A (forIn ifs true fun c r => if r = true then do let ok ← isTrue c (compEnvC scope cl C env) (eval c (compEnvC scope cl C env)); pure (ForInStep.yield ok) else pure (ForInStep.yield r)) (fun ok s₃ =>
            if ok = true then wpAny (model P.prog P.w) f.A (eval elt (compEnvC scope cl C env)) (fun x s₄ =>
              wpAny (model P.prog P.w) f.A (call (.builtin "list.append") [.ref D, x]) (fun _ s₅ => ∃ m_1, m_1 < k + 1 ∧ CI m_1 s₅) (fun _ _ => False) s₄) (fun _ _ => False) s₃
            else ∃ m_1, m_1 < k + 1 ∧ CI m_1 s₃) (fun _ _ => False) s₂) (fun _ _ => False) s2) ?_) (fun r s₁ z => ?_) (fun _ _ x => x.elim)
          · intro h' tk' val news' F' N' I' fz kp hit' hIs' rv
            have G' : GLe [] α0 news0 α news' := ⟨G.al, fun p hp hn hc => by
              obtain ⟨a, b⟩ := G.keep p hp hn hc
              exact ⟨kp p a (T.off p hp), b⟩⟩
            have hCm' := kp _ hCm CIs
            refine wpAny_assign_Name (wpAny_storeName_local (lookup_relabel_local hx) (hoC.ns (N' _ hCm').1) (fun h3 hn3 hs3 => ?_) (by simp [compEnvC, relabel, hkind]))
            obtain ⟨oC3, heC3, hoC3⟩ := ns_obj hn3
            refine cps fun Xc kc => ?_
            obtain ⟨news3, F3, N3, I3, hC3, fz3, kp3⟩ := reput F' N' I' hCm' (imm_ns hoC).1 hCn hs3 heC3
            refine kc ?_; clear kc Xc
            have G3 : GLe [] α0 news0 α news3 := ⟨G'.al, fun p hp hn hc => by
              obtain ⟨a, b⟩ := G'.keep p hp hn hc
              exact ⟨kp3 p a (Cn0 p hp), b⟩⟩
            have hIs3 : ∀ I ∈ Is, ∃ o, (I, o) ∈ news3 ∧ isImm o = false ∧ I ∉ muts α := fun J hJ => by
              refine cps fun Xc kc => ?_
              obtain ⟨o, a, b, c⟩ := hIs' J hJ
              refine kc ?_; clear kc Xc
              exact ⟨o, kp3 _ a (fun e => CIs (e ▸ hJ)), b, c⟩
            have hit3 : It (i + 1) h3 := T.frame _ _ _ hit' fun J hJ o e => hs3.extBut _ _ (fun q => CIs ((show J = C from q) ▸ hJ)) e
            have fit' : Fits (compEnvC scope cl C env) := ⟨fit.glob, fit.blt, hkind⟩
            have pre3 : Pre P f (compEnvC scope cl C env) (x :: xs) (some v :: ws) σ1 m news3 α h3 := by
              refine ⟨F3, N3, I3, fun j y w hy hw => ?_⟩
              cases j with
              | zero =>
                simp at hy hw
                subst hy; subst hw
                exact ⟨val, rv.mono (fun _ _ e => e) fz3, .inr (.inr ⟨lookup_relabel_local hx, oC3, _, hC3, hCn, hoC3, if_pos rfl⟩)⟩
              | succ j =>
                simp at hy hw
                refine cps fun Xc kc => ?_
                obtain ⟨val', r1, r2, c, o, r3, r4, r5, r6⟩ := E0 j y w hy hw
                refine kc ?_; clear kc Xc
                obtain ⟨r7, r8⟩ := G3.keep _ r4 r5 (.inr (by simp))
                refine ⟨val', r1.le G3, .inr (.inl ⟨?_, c, o, r3, r7, r8, r6⟩)⟩
                show (relabel scope env).names.lookup y = _
                rw [relabel_names fit hks]
                exact r2
            refine hts f _ ok fit' (relabel_names fit hks) _ _ _ _ h1 m news3 α { s with heap := h3, toks := tk' + 1 } _ pre3 ?_
            intro h4 tk4 news4 α4 F4 N4 I4 G4
            have pre4 := pre3.to F4 N4 I4 G4
            obtain ⟨hC4, hCn4⟩ := keepC G4 hC3 hCn
            cases b with
            | false =>
              simp only [Bool.false_eq_true, if_false] at hv ⊢
              exact ⟨k, Nat.lt_succ_self _, (hCI _ _).mpr ⟨h4, tk4, news4, α4, σ2, i + 1, oC3, _, rfl, F4, N4, I4, G3.trans G4, fun k y e => G4.al k y (al2 k y e), keepIt G4 N3 N4 hIs3 hit3, keepIs G4 hIs3, hC4, hoC3, hCn4, by
                rw [show σ2.length.min 0 + (α2.length - 1) = σ.length by simpa using hkk]; exact hv⟩⟩
            | true =>
              simp only [if_true] at hv ⊢
              simp only [Option.bind_eq_some_iff] at hv
              refine cps fun Xc kc => ?_
              obtain ⟨⟨y, σ3⟩, h5, σ4, h6, h7⟩ := hv
              refine kc ?_; clear kc Xc
              refine hel f _ ok fit' (relabel_names fit hks) _ _ _ _ h5 m news4 α4 _ _ pre4 ?_
              intro h5' tk5 news5 α5 yv F5 N5 I5 G5 R5
              obtain ⟨hC5, hCn5⟩ := keepC G5 hC4 hCn4
              refine append_sound (s := { s with heap := h5', toks := tk5 }) F5 N5 I5 h6 (G5.al _ _ (G4.al _ _ (al2 _ _ eD2))) R5 fun h6' news6 F6 N6 I6 G6 => ?_
              obtain ⟨hC6, hCn6⟩ := keepC G6 hC5 hCn5
              have G46 := (G4.trans G5).trans G6
              exact ⟨k, Nat.lt_succ_self _, (hCI _ _).mpr ⟨h6', tk5, news6, α5, σ4, i + 1, oC3, _, rfl, F6, N6, I6, G3.trans G46, fun k y e => G46.al k y (al2 k y e), keepIt G46 N3 N6 hIs3 hit3, keepIs G46 hIs3, hC6, hoC3, hCn6, by
                rw [show σ4.length.min 0 + (α2.length - 1) = σ.length by simpa using hkk]; exact h7⟩⟩
          · cases r with
            | none => exact z.elim
            | some val =>
              have z' : wpAny (model P.prog P.w) f.A (pure () : Sem Unit) _ _ _ := z
              have z2 := fun Γ p hΓ => (z' Γ p hΓ) Γ p hΓ
              refine wpAny_mono z2 (fun _ s₂ z3 => wpAny_mono z3 (fun ok s₃ z4 => ?_) (fun _ _ x => x.elim)) (fun _ _ x => x.elim)
              cases ok with
              | false => simpa using z4
              | true =>
                simp only [if_true] at z4 ⊢
                exact wpAny_mono z4 (fun _ _ z5 => wpAny_mono z5 (fun _ _ x => x) (fun _ _ x => x.elim)) (fun _ _ x => x.elim)
        · cases hv
    · exact T.frame _ _ _ hit fun J hJ o e => by
        refine cps fun Xc kc => ?_
        obtain ⟨o', a, b, c⟩ := hIs J hJ
        refine kc ?_; clear kc Xc
        obtain ⟨a', c'⟩ := G2.keep _ a c (.inr (by simp))
        have : o' = o := Option.some.inj ((N _ a).1.symm.trans e)
        rw [← this]
        exact old _ _ (N2 _ a').1
    · have := I2.len
      simp at this
      rw [show ((σ ++ [MO.list []]).length.min 0 + (α2.length - 1)) = σ.length by simp [this]]
      exact hv
  refine codeAny_compStart_list (loop _ rfl) ?_
  refine wpAny_mono (T.self 0 _ (fun it' s' => codeAny (model P.prog P.w) f.A (.compLoop (.ListComp elt [⟨.Name x px, iter, ifs, 0⟩] scope pos) 0 it' (.ref D) (compEnvC scope cl C env)) (RR (.ref D) C) s') ?_ (loop _ rfl)) (fun _ _ z => z) (fun _ _ x => x.elim)
  exact T.frame _ _ _ hit fun J hJ o e => by
    refine cps fun Xc kc => ?_
    obtain ⟨o', a, b, c⟩ := hIs J hJ
    refine kc ?_; clear kc Xc
    obtain ⟨a', c'⟩ := G2.keep _ a c (.inr (by simp))
    have : o' = o := Option.some.inj ((N _ a).1.symm.trans e)
    rw [← this]
    exact old _ _ (N2 _ a').1
end
section
variable {P : Pg} {dp : Nat} {ks : Ks} {names : List Str}

noncomputable def capsOf (caps : List Nat) (ρ : Rho) : Rho := caps.map fun i => ρ[i]?.bind id
noncomputable def dComp (di : DI) (caps : List Nat) (test elt : DE) : DE := fun ρ σ => if (capsOf caps ρ).all (·.isSome) then (di ρ σ).bind fun r => (compG r.1 (capsOf caps ρ) test elt r.2.2.length r.2.1 0 (r.2.2 ++ [.list []])).map fun σ' => (.ref r.2.2.length, σ') else Option.none
/-- the names that the comprehension takes from around it -/
noncomputable def CapsAt (names : List Str) (ks ks' : Ks) : List Str → List Nat → Prop
  | [], [] => True
  | x :: xs, i :: is => names[i]? = some x ∧ ks.lookup x = some .cell ∧ ks'.lookup x = some .cell ∧ CapsAt names ks ks' xs is
  | _, _ => False
noncomputable def clOf (xs : List Str) (g : Str → Addr) : List (Str × Addr) := xs.reverse.map fun y => (y, g y)
theorem clOf_lookup (g : Str → Addr) : ∀ {l : List Str} {y : Str}, y ∈ l → (l.map fun y => (y, g y)).lookup y = some (g y)
  | z :: l, y, h => by
    rw [List.map_cons, List.lookup_cons]
    cases e : y == z with
    | true => rw [beq_iff_eq.mp e]
    | false =>
      dsimp only
      rcases List.mem_cons.mp h with rfl | h
      · simp at e
      · exact clOf_lookup g h

theorem caps_cells {ks' : Ks} {f : Fm} {env : Env} (hks : env.scope.names = ks) {m : Str → Option Value} {news : Led} {α : Al} {ρ : Rho} (E : EO env f.L m α news names ρ) :
    ∀ {xs : List Str} {caps : List Nat}, CapsAt names ks ks' xs caps → (capsOf caps ρ).all (·.isSome) = true → (∀ y ∈ xs, ∃ c, env.cells.lookup y = some c) ∧
      ∀ (i : Nat) (y : Str) (w : V), xs[i]? = some y → (capsOf caps ρ)[i]? = some (some w) → ∃ val, RV α (Frz α news) w val ∧ ks'.lookup y = some .cell ∧ ∃ c o, env.cells.lookup y = some c ∧ (c, o) ∈ news ∧ c ∉ muts α ∧ o.data = .cell (some val)
  | [], [], _, _ => ⟨fun y h => (nomatch h), fun i y w h => by simp at h⟩
  | x :: xs, j :: caps, ⟨a, b, c, d⟩, h => by
    have h' : (ρ[j]?.bind id).isSome = true ∧ (capsOf caps ρ).all (·.isSome) = true := by simpa [capsOf] using h
    obtain ⟨i1, i2⟩ := caps_cells hks E d h'.2
    obtain ⟨v, hv⟩ := Option.isSome_iff_exists.mp h'.1
    have hr : ρ[j]? = some (some v) := by
      cases q : ρ[j]? with
      | none => rw [q] at hv; cases hv
      | some o => rw [q] at hv; exact congrArg some hv
    obtain ⟨val, rv, va⟩ := E j x v a hr
    have hk : env.kindOf x = some .cell := by show env.scope.names.lookup x = _; rw [hks]; exact b
    have key : ∃ c o, env.cells.lookup x = some c ∧ (c, o) ∈ news ∧ c ∉ muts α ∧ o.data = .cell (some val) := by
      rcases va with ⟨q, _⟩ | ⟨_, c, o, q⟩ | ⟨q, _⟩
      · rw [hk] at q; cases q
      · exact ⟨c, o, q⟩
      · rw [hk] at q; cases q
    refine ⟨fun y hy => ?_, fun i y w hy hw => ?_⟩
    · rcases List.mem_cons.mp hy with rfl | hy
      · refine cps fun Xc kc => ?_
        obtain ⟨c, o, q, _⟩ := key
        refine kc ?_; clear kc Xc
        exact ⟨c, q⟩
      · exact i1 y hy
    · cases i with
      | zero =>
        simp at hy
        have : (capsOf (j :: caps) ρ)[0]? = some (ρ[j]?.bind id) := rfl
        rw [this, hr] at hw
        subst hy
        cases hw
        exact ⟨val, rv, c, key⟩
      | succ i => exact i2 i y w (by simpa using hy) hw
  | [], _ :: _, h, _ => h.elim
  | _ :: _, [], h, _ => h.elim

structure CompOk (scope : Scope) (x : Str) (xs : List Str) : Prop where
  hcell : ∀ y ∈ scope.names, y.2 ≠ .cell
  hkind : scope.kind = .function
  hx : scope.names.lookup x = some .local
  hnames : ∀ y ∈ scope.names, y.2 = .local → scope.names.lookup y.1 = some .local
  hclos : ∀ (env : Env) (g : Str → Addr), (∀ y ∈ xs, env.cells.lookup y = some (g y)) → closureFor scope env = pure (clOf xs g)

/-- from where the source stands to where the list is made, both for a bare comprehension and for one that is assigned -/
theorem comp_go {elt iter : Expr} {x : Str} {px : Pos} {scope : Scope} {pos : Pos} {ifs : List Expr} {xs : List Str} {caps : List Nat} (C : CompOk scope x xs) (hcaps : CapsAt names ks (relN ks scope.names) xs caps)
    {di : DI} {test d : DE} (hi : SI P dp ks names (.Name x px) iter di) (hts : STs P dp (relN ks scope.names) (x :: xs) ifs test) (hel : SE P dp (relN ks scope.names) (x :: xs) elt d) (hs : ∀ (env : Env) y, foldedSetIterable iter env y = pure y)
    {f : Fm} {env : Env} (ok : f.Ok P dp) (fit : Fits env) (hks : env.scope.names = ks) {ρ : Rho} {σ σ' : St} {v : V} (hv : dComp di caps test d ρ σ = some (v, σ')) {m : Str → Option Value} {news : Led} {α : Al} {s : Shared} (pre : Pre P f env names ρ σ m news α s.heap)
    {use : Option (Value → Sem Unit)} {Q : Value → Shared → Prop}
    (fin : ∀ h tk news' α' C oC mC val, Fr f.h₀ f.L h m → News f.h₀ f.L h news' → Inv P α' news' σ' → GLe [] α news α' news' → (C, oC) ∈ news' → NsObj oC mC → C ∉ muts α' → (∀ p ∈ news, p.1 ≠ C) → RV α' (Frz α' news') v val →
      compPost (model P.prog P.w) f.A (fun _ _ => False) use Q val C (.ok .next) { s with heap := h, toks := tk }) :
    ∃ cl, closureFor scope env = pure cl ∧ ∀ first : Sem Value, first = eval iter env → wpAny (model P.prog P.w) f.A (comprehension (.ListComp elt [⟨.Name x px, iter, ifs, 0⟩] scope pos) scope env (firstIterPos [⟨.Name x px, iter, ifs, 0⟩] pos) (newList []) false first use) Q (fun _ _ => False) s := by
  unfold dComp at hv
  split at hv
  case isFalse => cases hv
  case isTrue hall =>
  simp only [Option.bind_eq_some_iff, Option.map_eq_some_iff] at hv
  refine cps fun Xc kc => ?_
  obtain ⟨⟨src, n, σ1⟩, h1, σ2, h2, e⟩ := hv
  refine kc ?_; clear kc Xc
  cases e
  obtain ⟨cs1, cs2⟩ := caps_cells (ks' := relN ks scope.names) hks pre.E hcaps hall
  have hg : ∀ y ∈ xs, env.cells.lookup y = some ((env.cells.lookup y).getD 0) := fun y hy => by
    obtain ⟨c, hc⟩ := cs1 y hy
    rw [hc]; rfl
  refine ⟨_, C.hclos env (fun y => (env.cells.lookup y).getD 0) hg, ?_⟩
  rintro first rfl
  refine wpAny_comprehension_free (use := use) rfl (hs env) (C.hclos env (fun y => (env.cells.lookup y).getD 0) hg) C.hkind C.hnames ?_
  refine hi f env ok fit hks ρ σ _ _ _ h1 m news α s _ pre ?_
  intro h' tk news1 news' α' Is itv It F' N' I' G1 G2 T hit hIs
  refine comp_block (s := { s with heap := h', toks := tk }) ok fit hks C.hcell C.hkind C.hx T hts hel (cl := clOf xs fun y => (env.cells.lookup y).getD 0) (fun i y w hy hw => ?_) F' N' I' G2 hit hIs h2 (fun h3 tk3 news3 α3 C3 oC mC val F3 N3 I3 G3 q1 q2 q3 q4 R3 => ?_)
  · refine cps fun Xc kc => ?_
    obtain ⟨val, r1, r2, c, o, r3, r4, r5, r6⟩ := cs2 i y w hy hw
    refine kc ?_; clear kc Xc
    obtain ⟨r7, r8⟩ := G1.keep _ r4 r5 (.inr (by simp))
    refine ⟨val, r1.le G1, r2, c, o, ?_, r7, r8, r6⟩
    have hm : y ∈ xs := List.mem_of_getElem? hy
    have := clOf_lookup (fun y => (env.cells.lookup y).getD 0) (List.mem_reverse.mpr hm)
    rw [show (clOf xs fun y => (env.cells.lookup y).getD 0) = xs.reverse.map (fun y => (y, (env.cells.lookup y).getD 0)) from rfl, this, r3]
    rfl
  · refine fin h3 tk3 news3 α3 C3 oC mC val F3 N3 I3 (G1.trans G3) q1 q2 q3 (fun p hp e => ?_) R3
    -- C3 is not among the old entries: it is of none of the frozen ones, and no part of the state
    by_cases hm : p.1 ∈ muts α
    · have : p.1 ∈ muts α3 := by
        obtain ⟨k, hk⟩ := List.getElem?_of_mem hm
        unfold muts at hk ⊢
        rw [List.getElem?_map] at hk
        obtain ⟨y, hy, e'⟩ := Option.map_eq_some_iff.mp hk
        exact List.mem_of_getElem? (i := k) (by rw [List.getElem?_map, (G1.trans G3).al k y hy]; exact congrArg some e')
      exact q3 (e ▸ this)
    · obtain ⟨a, _⟩ := G1.keep p hp hm (.inr (by simp))
      exact q4 p a e

theorem drop_ns {f : Fm} {m : Str → Option Value} {news0 news : Led} {α0 α : Al} {σ : St} {h h' : Heap} {C : Addr} {oC : Obj} {own : List Addr} (F : Fr f.h₀ f.L h m) (N : News f.h₀ f.L h news) (I : Inv P α news σ) (G : GLe own α0 news0 α news) (hm : (C, oC) ∈ news) (hi : isImm oC = false) (hC : C ∉ muts α)
    (off : ∀ p ∈ news0, p.1 ≠ C) (hs : Heap.SameBut C h h') : ∃ news', Fr f.h₀ f.L h' m ∧ News f.h₀ f.L h' news' ∧ Inv P α news' σ ∧ GLe own α0 news0 α news' ∧ (∀ p, Frz α news p → Frz α news' p) ∧ (∀ p ∈ news, p.1 ∉ [C] → p ∈ news') := by
  obtain ⟨I1, fz1, kp1, in1⟩ := I.drop [C] fun p hp hI => by
    have : p.1 = C := by simpa using hI
    rw [mem_unique I.nn (show (C, p.2) ∈ news from this ▸ hp) hm, this]
    exact ⟨hi, hC⟩
  obtain ⟨F', N'⟩ := keep_but (Is := [C]) F N (by simpa using Ne.symm (N _ hm).2.1) (by simpa using (N _ hm).2.2) (fun b o hb q => hs.extBut b o (by simpa using hb) q)
  exact ⟨_, F', N', I1, ⟨G.al, fun p hp hn hc => by
    obtain ⟨a, b⟩ := G.keep p hp hn hc
    exact ⟨kp1 p a (by simpa using off p hp), b⟩⟩, fz1, kp1⟩

theorem se_comp {elt iter : Expr} {x : Str} {px : Pos} {scope : Scope} {pos : Pos} {ifs : List Expr} {xs : List Str} {caps : List Nat} (C : CompOk scope x xs) (hcaps : CapsAt names ks (relN ks scope.names) xs caps)
    {di : DI} {test d : DE} (hi : SI P dp ks names (.Name x px) iter di) (hts : STs P dp (relN ks scope.names) (x :: xs) ifs test) (hel : SE P dp (relN ks scope.names) (x :: xs) elt d) (hs : ∀ (env : Env) y, foldedSetIterable iter env y = pure y) :
    SE P dp ks names (.ListComp elt [⟨.Name x px, iter, ifs, 0⟩] scope pos) (dComp di caps test d) := by
  intro f env ok fit hks ρ σ v σ' hv m news α s Q pre post
  rw [eval_ListComp]
  refine Exists.elim (comp_go (iter := iter) (px := px) (pos := pos) (use := Option.none) (Q := Q) C hcaps hi hts hel hs ok fit hks hv pre (fun h tk news' α' C oC mC val F' N' I' G' q1 q2 q3 q4 R' => ?_)) fun cl h => h.2 _ rfl
  · refine ⟨mC, q2.ns (N' _ q1).1, fun h' hs' => ?_⟩
    refine cps fun Xc kc => ?_
    obtain ⟨news2, F2, N2, I2, G2, fz, _⟩ := drop_ns F' N' I' G' q1 (imm_ns q2).1 q3 q4 hs'
    refine kc ?_; clear kc Xc
    exact post h' tk news2 α' val F2 N2 I2 G2 (R'.mono (fun _ _ e => e) fz)

theorem sx_comp {elt iter : Expr} {x y : Str} {px py : Pos} {scope : Scope} {pos spos : Pos} {ifs : List Expr} {xs : List Str} {caps : List Nat} (C : CompOk scope x xs) (hcaps : CapsAt names ks (relN ks scope.names) xs caps)
    {di : DI} {test d : DE} {da : DA} (hi : SI P dp ks names (.Name x px) iter di) (hts : STs P dp (relN ks scope.names) (x :: xs) ifs test) (hel : SE P dp (relN ks scope.names) (x :: xs) elt d) (hs : ∀ (env : Env) y, foldedSetIterable iter env y = pure y)
    (hda : SA P dp ks names (.Name y py) da) (hsw : ∀ env : Env, env.scope.names = ks → env.scope.kind = .function → swapsWith (.ListComp elt [⟨.Name x px, iter, ifs, 0⟩] scope pos) (some (.Name y py)) spos.line env = pure true) :
    SX P dp ks names (.Assign [.Name y py] (.ListComp elt [⟨.Name x px, iter, ifs, 0⟩] scope pos) spos) (dsAssign da (dComp di caps test d)) := by
  intro f ok hks ρ σ fl ρ' σ' hv m news α s Q pre post
  simp only [dsAssign, Option.bind_eq_some_iff, Option.map_eq_some_iff] at hv
  refine cps fun Xc kc => ?_
  obtain ⟨⟨v1, σ1⟩, h1, ⟨ρ2, σ2⟩, h2, e⟩ := hv
  refine kc ?_; clear kc Xc
  cases e
  rw [exec_Assign_Name_used _ _ _ _ (hsw f.env hks ok.kind)]
  refine wpAny_bind (wpAny_standAt (wpAny_bind ?_))
  show wpAny _ _ (do let _ ← comprehension (.ListComp elt [⟨.Name x px, iter, ifs, 0⟩] scope pos) scope f.env _ (newList []) false (eval iter f.env) (some (assign (.Name y py) f.env))) _ _ s
  refine Exists.elim (comp_go (iter := iter) (px := px) (pos := pos) (use := some (assign (.Name y py) f.env)) (Q := fun _ s' => Q .next s') C hcaps hi hts hel hs ok ok.fits hks h1 pre.toPre (fun h tk news' α' C oC mC val F' N' I' G' q1 q2 q3 q4 R' => ?_)) fun cl h =>
    wpAny_bind (wpAny_mono (h.2 _ rfl) (fun _ s' hq => wpAny_pure (wpAny_pure hq)) fun _ _ e => e)
  · show wpAny _ _ (assign (.Name y py) f.env val) _ _ _
    refine hda f ok hks ρ σ1 v1 _ _ h2 m news' α' { s with heap := h, toks := tk } _ val (pre.step F' N' I' G') R' ?_
    intro h2' tk2 m2 news2 α2 pre2 G2
    obtain ⟨q1', q3'⟩ := G2.keep _ q1 q3 (.inl (imm_ns q2).2)
    refine ⟨mC, q2.ns (pre2.N _ q1').1, fun h3 hs3 => ?_⟩
    refine cps fun Xc kc => ?_
    obtain ⟨news3, F3, N3, I3, G3, fz, kp⟩ := drop_ns pre2.F pre2.N pre2.I (G'.weaken.trans G2) q1' (imm_ns q2).1 q3' q4 hs3
    refine kc ?_; clear kc Xc
    exact post h3 tk2 m2 news3 α2 (pre2.relist F3 N3 I3 fz kp fun c hc hcC => by
      have : c = C := by simpa using hcC
      subst this
      obtain ⟨o, a, _⟩ := pre.O.here c hc
      exact q4 _ a rfl) G3
end
section
variable {P : Pg} {dp : Nat} {ks : Ks} {names : List Str}

theorem type_call_weight (C : Addr) (rest : List Value) : (Code.builtin "type.__call__" ⟨.ref C :: rest, []⟩).weight = 1 := by rfl
theorem type_call_envs (C : Addr) (rest : List Value) : (Code.builtin "type.__call__" ⟨.ref C :: rest, []⟩).envs = [] := by rfl
theorem type_call_units (C : Addr) (rest : List Value) : (Code.builtin "type.__call__" ⟨.ref C :: rest, []⟩).cUnits = 1 := by rfl

theorem RE.norefs {α : Al} {Φ : Addr × Obj → Prop} : ∀ {fs : List (Str × V)} {es : List DictEntry}, RE α Φ fs es → es.any (·.refKey) = false
  | [], [], _ => rfl
  | f :: fs, e :: es, ⟨⟨t, a⟩, b, c⟩ => by
    rw [List.any_cons, c.norefs]
    unfold DictEntry.refKey
    rw [a]
    rfl
  | [], _ :: _, h => h.elim
  | _ :: _, [], h => h.elim
theorem RE.add {α : Al} {Φ : Addr × Obj → Prop} {name : Str} {v : V} {val : Value} {hsh : Int} {tk : Tok} (hv : RV α Φ v val) : ∀ {fs : List (Str × V)} {es : List DictEntry}, RE α Φ fs es → lookF name fs = Option.none →
    RE α Φ (fs ++ [(name, v)]) (putL name hsh (.str name tk) val es) ∧ es.find? (·.key.isStr name) = Option.none
  | [], [], _, _ => ⟨⟨⟨tk, rfl⟩, hv, trivial⟩, rfl⟩
  | f :: fs, e :: es, ⟨⟨t, a⟩, b, c⟩, h => by
    unfold lookF at h
    have hk : e.key.isStr name = (f.1 == name) := by rw [a]; rfl
    split at h
    · cases h
    · rename_i q
      rw [Bool.not_eq_true] at q
      obtain ⟨h1, h2⟩ := RE.add (hsh := hsh) (tk := tk) hv c h
      unfold putL
      rw [List.find?_cons, hk, q]
      exact ⟨⟨⟨t, a⟩, b, h1⟩, h2⟩
  | [], _ :: _, h, _ => h.elim
  | _ :: _, [], h, _ => h.elim
theorem RE.getL_none {α : Al} {Φ : Addr × Obj → Prop} {name : Str} {fs : List (Str × V)} {es : List DictEntry} (h : RE α Φ fs es) (hf : es.find? (·.key.isStr name) = Option.none) : getL name es = some Option.none := by
  unfold getL
  rw [hf, h.norefs]
  rfl

/-! ### the body of an __init__ that stores the fields one by one -/
inductive IB (P : Pg) (dp : Nat) (ks : Ks) (names : List Str) (self : Str) : List Stmt → List (Str × DE) → Prop
  | nil : IB P dp ks names self [] []
  | cons {nm : Str} {value : Expr} {p ap pos : Pos} {rest : List Stmt} {d : DE} {fs : List (Str × DE)} : SE P dp ks names value d → nm ∈ fldNames → (∀ env : Env, swapsWithSole [.Attribute (.Name self p) nm ap] value pos.line env = pure false) →
      (∀ env : Env, swappedStores [.Attribute (.Name self p) nm ap] value env = pure Option.none) → (∀ env : Env, (assignEach [.Attribute (.Name self p) nm ap] env).map (·.2) = [assign (.Attribute (.Name self p) nm ap) env]) →
      IB P dp ks names self rest fs → IB P dp ks names self (.Assign [.Attribute (.Name self p) nm ap] value pos :: rest) ((nm, d) :: fs)
noncomputable def EvAll : List (Str × DE) → Rho → List V → Prop
  | [], _, [] => True
  | f :: fs, ρ, v :: vs => (∀ σ, f.2 ρ σ = some (v, σ)) ∧ EvAll fs ρ vs
  | _, _, _ => False

theorem lookF_none {nm : Str} {done : List (Str × V)} (nin : nm ∉ done.map (·.1)) : lookF nm done = Option.none := by
  induction done with
  | nil => rfl
  | cons q r ih2 =>
    unfold lookF
    simp only [List.map_cons, List.mem_cons, not_or] at nin
    rw [if_neg (by simpa using Ne.symm nin.1)]
    exact ih2 nin.2
theorem ib_sound {self : Str} {C x dx : Addr} (hC : clsChk P.K C = true) (hself : ks.lookup self = some .local) (hdbg : (self == ("__debug__" : Str)) = false) {body : List Stmt} {fs : List (Str × DE)} (h : IB P dp ks names self body fs) : ∀ {f : Fm}, f.Ok P dp → f.cs.names = ks → ∀ {vs : List V} {ρ : Rho}, EvAll fs ρ vs →
    ∀ {done : List (Str × V)}, ((done.map (·.1)) ++ fs.map (·.1)).Nodup → (done.length + fs.length ≤ 20) → ∀ {σ : St} {m : Str → Option Value} {news : Led} {α : Al} {s : Shared} {Q : Flow → Shared → Prop} {es : List DictEntry} {k : Nat}, Pre P f f.env names ρ σ m news α s.heap → m self = some (.ref x) → (x, instObj C dx) ∈ news → x ∉ muts α →
      (dx, dictOf es k) ∈ news → dx ∉ muts α → RE α (Frz α news) done es →
      (∀ h' tk news' α' es' k', Pre P f f.env names ρ σ m news' α' h' → GLe [] α (news.filter fun p => decide (p.1 ≠ dx)) α' news' → (x, instObj C dx) ∈ news' → x ∉ muts α' → (dx, dictOf es' k') ∈ news' → dx ∉ muts α' → RE α' (Frz α' news') (done ++ (fs.map (·.1)).zip vs) es' → Q .next { s with heap := h', toks := tk }) →
      wpAny (model P.prog P.w) f.A (execs body f.env) Q (fun _ _ => False) s := by
  induction h with
  | nil =>
    intro f ok hks vs ρ hev done hnd hle σ m news α s Q es k pre hm hx hxm hdx hdm re post
    refine wpAny_execs_nil (post s.heap s.toks news α es k pre ⟨fun _ _ e => e, fun p hp hn _ => ⟨(List.mem_filter.mp hp).1, hn⟩⟩ hx hxm hdx hdm ?_)
    simpa using re
  | @cons nm value p ap pos rest d fs hse hnm hs hw he _ ih =>
    intro f ok hks vs ρ hev done hnd hle σ m news α s Q es k pre hm hx hxm hdx hdm re post
    cases vs with
    | nil => exact hev.elim
    | cons v vs =>
      refine wpAny_execs_cons ?_
      rw [exec_Assign]
      refine wpAny_bind (wpAny_standAt ?_)
      rw [hs]
      refine wpAny_bind (wpAny_pure ?_)
      rw [if_neg (by decide)]
      refine wpAny_bind (hse f f.env ok ok.fits hks ρ σ _ _ (hev.1 σ) m news α s _ pre ?_)
      intro h' tk news' α' val F' N' I' G' R'
      rw [hw, he]
      refine wpAny_bind (wpAny_pure ?_)
      show wpAny _ _ (do assignAll val [assign (.Attribute (.Name self p) nm ap) f.env]; pure Flow.next) _ _ _
      refine wpAny_bind ?_
      show wpAny _ _ (do
        let ov ← holding [val] (eval (.Name self p) f.env)
        standAt ap.atName
        holding [val, ov] (setAttr ov nm val)
        release [val, ov] []) _ _ _
      refine wpAny_bind (wpAny_holding (wpAny_Name (wpAny_loadName_local ok.kind (by show f.cs.names.lookup self = _; rw [hks]; exact hself) F'.ns hm ?_) hdbg))
      obtain ⟨hx', hxm'⟩ := G'.keep _ hx hxm (.inr (by simp))
      obtain ⟨hdx', hdm'⟩ := G'.keep _ hdx hdm (.inr (by simp))
      have re' : RE α' (Frz α' news') done es := re.mono G'.al fun _ q => G'.frz q
      have nin : nm ∉ done.map (·.1) := by
        rw [List.nodup_append] at hnd
        intro hin
        exact hnd.2.2 _ hin nm (by simp) rfl
      have hlk : lookF nm done = Option.none := lookF_none nin
      have chk := hC
      simp only [clsChk, Bool.and_eq_true] at chk
      refine cps fun Xc kc => ?_
      obtain ⟨⟨⟨⟨c1, c2⟩, c3⟩, c4⟩, c5⟩ := chk
      refine kc ?_; clear kc Xc
      have immd : isImm (dictOf es k) = false := by unfold isImm; rw [show isDct (dictOf es k) = true from rfl]; simp
      refine cps fun Xc kc => ?_
      obtain ⟨g, U1, U2, fin⟩ := I'.replace hdx' hdm' immd
      refine kc ?_; clear kc Xc
      obtain ⟨add, nf⟩ := re'.add (name := nm) (hsh := PyData.keyHash P.w.params nm) (tk := tk + 1) R' hlk
      refine wpAny_bind (wpAny_standAt (wpAny_bind (wpAny_holding ?_)))
      refine set_dict F' ok.kin N' (InstAt.of_news N' hx' hdx') rfl (beq_iff_eq.mp c4) c3 ?_ c2 (by rw [re'.getL_none nf]; rfl) rfl (U2 _) ?_ fun h2 F2 N2 => ?_
      · unfold takerIn
        rw [beq_iff_eq.mp (List.all_eq_true.mp c5 _ hnm)]; rfl
      · rw [add.length, List.length_append]
        simp at hle ⊢
        lia
      · refine cps fun Xc kc => ?_
        obtain ⟨I2, m2, kp2, fz2⟩ := fin (dictOf (putL nm (PyData.keyHash P.w.params nm) (.str nm (tk + 1)) val es) (putN nm es k))
        refine kc ?_; clear kc Xc
        have z : wpAny (model P.prog P.w) f.A (execs rest f.env) Q (fun _ _ => False) { s with heap := h2, toks := tk + 2 } := by
          have xd : x ≠ dx := fun e => by
            have := mem_unique I'.nn (show (x, dictOf es k) ∈ news' from e ▸ hdx') hx'
            have q := congrArg (fun o => isDct o) this
            cases q
          have G2 : GLe [] α (news.filter fun p => decide (p.1 ≠ dx)) α' (g (dictOf (putL nm (PyData.keyHash P.w.params nm) (.str nm (tk + 1)) val es) (putN nm es k))) := ⟨G'.al, fun q hq hn hc => by
            obtain ⟨a, b⟩ := List.mem_filter.mp hq
            obtain ⟨u, w⟩ := G'.keep q a hn hc
            exact ⟨kp2 q u (by simpa using b), w⟩⟩
          have pre2 : Pre P f f.env names ρ σ m (g (dictOf (putL nm (PyData.keyHash P.w.params nm) (.str nm (tk + 1)) val es) (putN nm es k))) α' h2 := by
            refine ⟨F2, N2, I2, fun i y w hy hw => ?_⟩
            obtain ⟨val', r1, va⟩ := pre.E i y w hy hw
            refine ⟨val', (r1.le G').mono (fun _ _ e => e) fz2, ?_⟩
            rcases va with q | ⟨a, c, o, b, e1, e2, e3⟩ | ⟨a, o, m₂, b, _⟩
            · exact .inl q
            · obtain ⟨u1, u2⟩ := G'.keep _ e1 e2 (.inr (by simp))
              refine .inr (.inl ⟨a, c, o, b, kp2 _ u1 ?_, u2, e3⟩)
              intro e
              have e' : c = dx := e
              subst e'
              have := mem_unique I'.nn hdx' u1
              have q := congrArg (fun o => isCell o) this
              have q2 : isCell o = true := by unfold isCell; rw [e3]
              rw [q2] at q
              cases q
            · exact absurd b fun b => not_own_ns pre.N b
          refine ih ok hks hev.2 (done := done ++ [(nm, v)]) ?_ ?_ pre2 hm (kp2 _ hx' xd) hxm' m2 hdm' (add.mono (fun _ _ e => e) fz2) ?_
          · simpa [List.append_assoc] using hnd
          · simp at hle ⊢; lia
          · intro h3 tk3 news3 α3 es3 k3 pre3 G3 a1 a2 a3 a4 re3
            refine post h3 tk3 news3 α3 es3 k3 pre3 ⟨fun k y e => G3.al k y (G2.al k y e), fun q hq hn hc => ?_⟩ a1 a2 a3 a4 (by simpa [List.append_assoc] using re3)
            obtain ⟨a, b⟩ := G2.keep q hq hn hc
            refine G3.keep q (List.mem_filter.mpr ⟨a, ?_⟩) b hc
            exact (List.mem_filter.mp hq).2
        exact fun Γ p hΓ => by
          rw [Sem.wp_release]
          refine wpAny_pure (a := Flow.next) ?_
          exact z
end
section
variable {P : Pg} {dp : Nat} {ks : Ks} {names : List Str}

theorem al_same {α α' : Al} (hl : α'.length = α.length) (h : ∀ (k : Nat) (x : Addr × Addr), α[k]? = some x → α'[k]? = some x) : α' = α := by
  refine List.ext_getElem? fun k => ?_
  by_cases hk : k < α.length
  · rw [h k α[k] (by simp [hk])]
    simp [hk]
  · rw [List.getElem?_eq_none (by lia), List.getElem?_eq_none (by lia)]

noncomputable def gNew (mk : List V → Option MO) : List V → St → Option (V × St) := fun vs σ => (mk vs).map fun mo => (.ref σ.length, σ ++ [mo])
theorem sf_cls {C fa : Addr} {self : Str} {ps : List Str} {fs : List (Str × DE)} {mk : List V → Option MO} {name qual : Str} {params : Arguments} {body : List Stmt} {scope : Scope} {dV kV doc pm cdv ct oc : Value} {an od : Option Addr} {osl : Array (Option Value)}
    (hC : clsChk P.K C = true) (hm : makesIn P.K C = true) (hi : findIn P.K (.ref C) "__init__" = some (some (.ref fa))) (hf : isFn P.K (.ref fa) = true)
    (ho : P.K.lookup fa = some ⟨oc, od, .func (fnOf name qual params body scope dV kV doc pm an cdv ct), osl⟩) (hcd : codeIn P.K cdv qual = true)
    (hbind : ∀ vals : List Value, vals.length = ps.length + 1 → bindArgs (fnOf name qual params body scope dV kV doc pm an cdv ct) ⟨vals, []⟩ = pure ((self :: ps).zip vals))
    (hnd : (self :: ps).Nodup) (hl : ∀ x ∈ self :: ps, ks.lookup x = some .local) (hks : scope.names = ks) (hdbg : (self == ("__debug__" : Str)) = false)
    (hb : IB P dp ks ps self body fs) (hfs : (fs.map (·.1)).Nodup) (hle : fs.length ≤ 20)
    (hco : scope.isCoroutine = false) (hgen : scope.isGenerator = false) (hk : scope.kind = .function) (hcell : ∀ x ∈ scope.names, x.2 ≠ .cell)
    (hmk : ∀ vs mo, mk vs = some mo → vs.length = ps.length ∧ ∃ ws, EvAll fs (vs.map some) ws ∧ mo.cls P = some C ∧ fieldsOf mo = (fs.map (·.1)).zip ws) :
    SF P (dp + 2) (.ref C) (gNew mk) := by
  intro f ok vs σ v σ' hv m news α s Q vals F N I R post
  obtain ⟨mo, hmo, e⟩ := Option.map_eq_some_iff.mp hv
  cases e
  obtain ⟨hlen, ws, hev, hcls, hfo⟩ := hmk vs mo hmo
  refine call_cls F ok.kin N hm hi hf fun x dx h' F' N' lt ltx => ?_
  have fr1 : ∀ p ∈ news, p.1 ≠ dx := fun p hp => Nat.ne_of_lt (lt p hp)
  have fr2 : ∀ p ∈ (dx, dictOf [] 0) :: news, p.1 ≠ x := fun p hp => by
    rcases List.mem_cons.mp hp with rfl | hp
    · exact Nat.ne_of_lt ltx
    · exact Nat.ne_of_lt (Nat.lt_trans (lt p hp) ltx)
  obtain ⟨I1, G1⟩ := I.beside (a := dx) (o := dictOf [] 0) fr1
  obtain ⟨I2, G2⟩ := I1.beside (a := x) (o := instObj C dx) fr2
  have hxm : x ∉ muts α := I1.fresh_not fr2
  have hdm : dx ∉ muts α := I.fresh_not fr1
  have hxv : x ∉ α.map (·.1) := fun hin => by
    obtain ⟨o, h⟩ := I.vals_in hin
    exact absurd (Nat.lt_trans (lt _ h) ltx) (Nat.lt_irrefl _)
  have hvl : vals.length = ps.length := R.1 ▸ hlen
  have hA : (f.A.under (.builtin "type.__call__" ⟨.ref C :: vals, []⟩)).frames = some (f.env :: f.outer) := by
    show pushEnvs (Code.builtin "type.__call__" ⟨.ref C :: vals, []⟩).envs f.A.frames = _
    rw [type_call_envs]
    exact ok.frames
  have hD : (f.A.under (.builtin "type.__call__" ⟨.ref C :: vals, []⟩)).depth = f.A.depth + 1 := by
    show f.A.depth + (Code.builtin "type.__call__" ⟨.ref C :: vals, []⟩).weight = _
    rw [type_call_weight]
  have hU : (f.A.under (.builtin "type.__call__" ⟨.ref C :: vals, []⟩)).units = f.A.units + 1 := by
    show f.A.units + (Code.builtin "type.__call__" ⟨.ref C :: vals, []⟩).cUnits = _
    rw [type_call_units]
  have hH : (f.A.under (.builtin "type.__call__" ⟨.ref C :: vals, []⟩)).handled = none := ok.handled
  generalize f.A.under (.builtin "type.__call__" ⟨.ref C :: vals, []⟩) = A1 at hA hD hU hH ⊢
  refine code_def ok.below F' ok.kin N' ok.top hA rfl ok.kind ho hcd (by rw [hD]; have := ok.depth; lia) (.of_eq (hbind (.ref x :: vals) (by simp [hvl]))) ?_ ?_ hco hgen hk hcell
  · intro y hy
    rw [hks]
    exact hl _ (List.of_mem_zip hy).1
  intro g L' h₁ FG F2 N2 B' X' T'
  have ok' : Fm.Ok P ⟨A1.deeper (envX qual scope L' fa cdv []), A1, f.base, g, f.env :: f.outer, qual, scope, L', fa, cdv, []⟩ dp :=
    ⟨B', by show A1.frames.map _ = _; rw [hA]; rfl, X', T', hH, hk, by have := ok.depth; show A1.depth + 1 + dp < _; rw [hD]; lia, by have := ok.units; show A1.units + 3 + 8 * dp + 16 < _; rw [hU]; lia⟩
  refine wpAny_mono (ib_sound (names := ps) (x := x) (dx := dx) hC (hl self (.head _)) hdbg hb ok' hks (ρ := vs.map some) hev (done := []) (by simpa using hfs) (by simpa using hle) (σ := σ) (m := fun y => ((self :: ps).zip (.ref x :: vals)).reverse.lookup y) (news := (x, instObj C dx) :: (dx, dictOf [] 0) :: news) (α := α) (s := { s with heap := h₁, toks := s.toks + ((self :: ps).zip (.ref x :: vals)).length }) (es := []) (k := 0)
    ⟨F2, N2, I2, ?_⟩ (lookup_zip (i := 0) hnd rfl rfl) (.head _) hxm (.tail _ (.head _)) hdm trivial ?_) (fun _ _ x => x) (fun _ _ x => x.elim)
  · intro i y w hy hw
    rw [List.getElem?_map] at hw
    obtain ⟨w', hw', e'⟩ := Option.map_eq_some_iff.mp hw
    cases e'
    obtain ⟨val, h1, h2⟩ := R.at hw'
    exact ⟨val, h2.le (G1.trans G2), .inl ⟨by show scope.names.lookup y = _; rw [hks]; exact hl y (.tail _ (List.mem_of_getElem? hy)), rfl, lookup_zip (i := i + 1) hnd (by simpa using hy) (by simpa using h1)⟩⟩
  · intro h3 tk3 news3 α3 es3 k3 pre3 G3 q1 q2 q3 q4 re3
    have hα : α3 = α := al_same (by rw [pre3.I.len, I.len]) G3.al
    subst hα
    have immd : isImm (dictOf es3 k3) = false := by unfold isImm; rw [show isDct (dictOf es3 k3) = true from rfl]; simp
    obtain ⟨I4, fz4, kp4, in4⟩ := pre3.I.drop [dx] fun p hp hI => by
      have : p.1 = dx := by simpa using hI
      rw [mem_unique pre3.I.nn (show (dx, p.2) ∈ news3 from this ▸ hp) q3, this]
      exact ⟨immd, q4⟩
    have xd : x ≠ dx := Nat.ne_of_gt ltx
    have qx : (x, instObj C dx) ∈ news3.filter (fun p => decide (p.1 ∉ [dx])) := kp4 _ q1 (by simpa using xd)
    have nodx : ∀ p ∈ news3.filter (fun p => decide (p.1 ∉ [dx])), p.1 ≠ dx := fun p hp => by simpa using (in4 p hp).2
    have frx : Frz α3 (news3.filter fun p => decide (p.1 ∉ [dx])) (x, instObj C dx) := ⟨qx, q2, rfl⟩
    obtain ⟨I5, G5⟩ := I4.new (x := x) (d := dx) (o := dictOf es3 k3) (mo := mo) nodx (.inr ⟨_, qx, rfl, q2, hxv⟩) (fun fz => by
      have re5 : RE (α3 ++ [(x, dx)]) (Frz (α3 ++ [(x, dx)]) ((dx, dictOf es3 k3) :: news3.filter fun p => decide (p.1 ∉ [dx]))) (fieldsOf mo) es3 := by
        rw [hfo]
        refine re3.mono (fun k y e => by rw [List.getElem?_append_left (List.getElem?_eq_some_iff.mp e).1]; exact e) fun p hp => fz p (fz4 p hp)
      cases mo with
      | node n => cases hcls; exact ⟨fz _ frx, _, _, rfl, re5⟩
      | tree n => cases hcls; exact ⟨fz _ frx, _, _, rfl, re5⟩
      | list _ => cases hcls
      | dict _ => cases hcls)
    have G : GLe [] α3 news (α3 ++ [(x, dx)]) ((dx, dictOf es3 k3) :: news3.filter fun p => decide (p.1 ∉ [dx])) := ⟨G5.al, fun p hp hn hc => by
      have hpd : p.1 ≠ dx := fr1 p hp
      obtain ⟨a, b⟩ := G3.keep p (List.mem_filter.mpr ⟨.tail _ (.tail _ hp), by simpa using hpd⟩) hn hc
      exact G5.keep p (kp4 p a (by simpa using hpd)) b (.inr (by simp))⟩
    refine leaveK_ pre3.F pre3.N fun F0 N0 => ⟨rfl, ?_⟩
    refine post h3 tk3 _ _ (.ref x) F0 (fun p hp => ?_) I5 G (.ref _ x dx (by rw [List.getElem?_append_right (by rw [I.len]; exact Nat.le_refl _), I.len]; simp))
    rcases List.mem_cons.mp hp with rfl | hp
    · exact N0 _ q3
    · exact N0 _ (in4 p hp).1
end
noncomputable def runO {β : Type} (lt : Nat → Nat → Option Bool) : KasT β → Option β
  | .ret a => some a
  | .ask i j k => match lt i j with
    | some b => runO lt (k b)
    | Option.none => Option.none
theorem runO_sound {β : Type} {lt : Nat → Nat → Option Bool} {cmp : Nat → Nat → (Bool → Shared → Prop) → Shared → Prop} {s : Shared} (hc : ∀ i j b (C : Bool → Shared → Prop), lt i j = some b → C b s → cmp i j C s) {Q : β → Shared → Prop} :
    ∀ (t : KasT β) (a : β), runO lt t = some a → Q a s → t.kasWp cmp Q s
  | .ret x, a, h, q => by cases h; exact q
  | .ask i j k, a, h, q => by
    unfold runO at h
    split at h
    · rename_i b hb
      exact hc i j b _ hb (runO_sound hc (k b) a h q)
    · cases h
noncomputable def lexLt (fin : Bool) : List (Int × Int) → Bool
  | [] => fin
  | (a, b) :: r => if (a == b) = true then lexLt fin r else decide (a < b)
noncomputable def intsOf : V → Option (List Int)
  | .tup vs => vs.mapM V.toInt
  | _ => Option.none
noncomputable def ltAt (xss : List (List Int)) (i j : Nat) : Option Bool := match xss[i]?, xss[j]? with
  | some a, some b => some (lexLt (decide (a.length < b.length)) (a.zip b))
  | _, _ => Option.none
noncomputable def gSorted : List V → St → Option (V × St)
  | [.ref k], σ => (lstAt σ k).bind fun vs => (vs.mapM intsOf).bind fun xss =>
      if vs.length < 2 then some (.ref σ.length, σ ++ [.list vs])
      else if vs.length < 64 ∧ xss.all (fun a => !a.isEmpty) = true then (runO (ltAt xss) (kas_sort vs.length)).bind fun p => if p.toList.length < 2 ^ 20 then some (.ref σ.length, σ ++ [.list (p.toList.map fun i => vs.getD i .none)]) else Option.none else Option.none
  | _, _ => Option.none

section
variable {P : Pg} {dp : Nat} {ks : Ks} {names : List Str}

theorem ints_of {α : Al} {Φ : Addr × Obj → Prop} : ∀ {vs : List V} {vals : List Value} {as : List Int}, vs.mapM V.toInt = some as → RVs α Φ vs vals → vs.length = as.length ∧ ∀ (i : Nat) (a : Int), as[i]? = some a → ∃ t, vals[i]? = some (Value.int a t)
  | [], vals, as, h, r => by
    cases h
    exact ⟨rfl, fun i a e => by simp at e⟩
  | v :: vs, vals, as, h, r => by
    rw [List.mapM_cons] at h
    obtain ⟨a, h1, h2⟩ := Option.bind_eq_some_iff.mp h
    obtain ⟨as', h3, h4⟩ := Option.bind_eq_some_iff.mp h2
    cases h4
    obtain ⟨val, vals', rfl, r1, r2⟩ := r.head
    obtain ⟨i1, i2⟩ := ints_of h3 r2
    obtain rfl := toInt_int h1
    cases r1 with | int _ t =>
    refine ⟨by simp [i1], fun i b e => ?_⟩
    cases i with
    | zero => simp at e; subst e; exact ⟨t, rfl⟩
    | succ i => exact i2 i b (by simpa using e)

theorem kat_ints {prog : Program} {w : World} {A : Around} {fin : Bool} {Q : Bool → Shared → Prop} {s : Shared} : ∀ (as bs : List Int) (xs ys : List Value) (i : Nat), as.length = xs.length → bs.length = ys.length → (∀ (i : Nat) (a : Int), as[i]? = some a → ∃ t, xs[i]? = some (Value.int a t)) → (∀ (i : Nat) (a : Int), bs[i]? = some a → ∃ t, ys[i]? = some (Value.int a t)) →
    Q (lexLt fin (as.zip bs)) s → KatLex prog w A true fin Q (xs.zip ys) i s
  | [], bs, xs, ys, i, h1, _, _, _, q => by
    cases xs with
    | nil => exact kat_nil q
    | cons _ _ => cases h1
  | a :: as, [], xs, ys, i, _, h2, _, _, q => by
    cases ys with
    | nil => rw [List.zip_nil_right] at q ⊢; exact kat_nil q
    | cons _ _ => cases h2
  | a :: as, b :: bs, xs, ys, i, h1, h2, hx, hy, q => by
    cases xs with
    | nil => cases h1
    | cons x xs =>
      cases ys with
      | nil => cases h2
      | cons y ys =>
        obtain ⟨t, e1⟩ := hx 0 a rfl
        obtain ⟨u, e2⟩ := hy 0 b rfl
        simp at e1 e2
        subst e1; subst e2
        rw [List.zip_cons_cons] at q ⊢
        refine kat_cons (wpAny_eqBool_int ?_)
        unfold lexLt at q
        cases hab : a == b with
        | true =>
          rw [hab] at q
          simp only [if_true] at q
          refine kat_yes (kat_ints as bs xs ys (i + 1) (by simpa using h1) (by simpa using h2) (fun j c e => ?_) (fun j c e => ?_) q)
          · have := hx (j + 1) c (by simpa using e); simpa using this
          · have := hy (j + 1) c (by simpa using e); simpa using this
        | false =>
          rw [hab] at q
          simp only [Bool.false_eq_true, if_false] at q
          refine kat_no ?_
          cases i with
          | zero => exact oneLt_int q
          | succ i => exact kat_one _ _ (lt_int q)

theorem kat_tups_of {α : Al} {news : Led} {h₀ h : Heap} {L : Addr} (N : News h₀ L h news) : ∀ {vs : List V} {vals : List Value} {xss : List (List Int)}, vs.mapM intsOf = some xss → xss.all (fun a => !a.isEmpty) = true → RVs α (Frz α news) vs vals →
    ∃ fs : List Value, KatTups h vals fs ∧ fs.length = vs.length ∧ ∀ v ∈ fs, ∃ a t, v = .int a t
  | [], vals, xss, hm, _, r => by
    cases hm
    rw [r.nil_inv]
    exact ⟨[], trivial, rfl, fun v hv => nomatch hv⟩
  | v :: vs, vals, xss, hm, ha, r => by
    rw [List.mapM_cons] at hm
    obtain ⟨a, h1, h2⟩ := Option.bind_eq_some_iff.mp hm
    obtain ⟨as', h3, h4⟩ := Option.bind_eq_some_iff.mp h2
    cases h4
    obtain ⟨val, vals', rfl, r1, r2⟩ := r.head
    rw [List.all_cons, Bool.and_eq_true] at ha
    obtain ⟨fs, k1, k2, k3⟩ := kat_tups_of N h3 ha.2 r2
    unfold intsOf at h1
    split at h1
    case h_2 => cases h1
    rename_i ws
    obtain ⟨ad, wv, n, rfl, hmem, rs⟩ := tup_obj r1
    obtain ⟨l1, l2⟩ := ints_of h1 rs
    cases a with
    | nil => simp at ha
    | cons c cs =>
      obtain ⟨t, ht⟩ := l2 0 c rfl
      refine ⟨.int c t :: fs, .cons (N _ hmem).1 rfl rfl (by simpa using ht) k1, by simp [k2], fun v hv => ?_⟩
      rcases List.mem_cons.mp hv with rfl | hv
      · exact ⟨c, t, rfl⟩
      · exact k3 v hv

theorem mapM_at {β : Type} {g : V → Option β} : ∀ {vs : List V} {xs : List β}, vs.mapM g = some xs → xs.length = vs.length ∧ ∀ (i : Nat) (x : β), xs[i]? = some x → ∃ v, vs[i]? = some v ∧ g v = some x
  | [], xs, h => by
    cases h
    exact ⟨rfl, fun i x e => by simp at e⟩
  | v :: vs, xs, h => by
    rw [List.mapM_cons] at h
    obtain ⟨a, h1, h2⟩ := Option.bind_eq_some_iff.mp h
    obtain ⟨as', h3, h4⟩ := Option.bind_eq_some_iff.mp h2
    cases h4
    obtain ⟨i1, i2⟩ := mapM_at h3
    refine ⟨by simp [i1], fun i x e => ?_⟩
    cases i with
    | zero => simp at e; subst e; exact ⟨v, rfl, h1⟩
    | succ i => exact i2 i x (by simpa using e)

theorem ask_sound {f : Fm} {α : Al} {news : Led} {s : Shared} (N : News f.h₀ f.L s.heap news) {vs : List V} {vals : List Value} {xss : List (List Int)} (hm : vs.mapM intsOf = some xss) (R : RVs α (Frz α news) vs vals) {A : Around} {i j : Nat} {b : Bool} {C : Bool → Shared → Prop}
    (h : ltAt xss i j = some b) (q : C b s) : kas_ask P.prog P.w A (tuples' true) vals i j C s := by
  unfold ltAt at h
  split at h
  case h_2 => cases h
  rename_i xa xb ea eb
  cases h
  obtain ⟨_, mm⟩ := mapM_at hm
  obtain ⟨va, e1, g1⟩ := mm i xa ea
  obtain ⟨vb, e2, g2⟩ := mm j xb eb
  obtain ⟨ua, u1, r1⟩ := R.at e1
  obtain ⟨ub, u2, r2⟩ := R.at e2
  unfold intsOf at g1 g2
  split at g1
  case h_2 => cases g1
  rename_i wa
  split at g2
  case h_2 => cases g2
  rename_i wb
  obtain ⟨pa, va', na, rfl, ma, ra⟩ := tup_obj r1
  obtain ⟨pb, vb', nb, rfl, mb, rb⟩ := tup_obj r2
  obtain ⟨la, xa'⟩ := ints_of g1 ra
  obtain ⟨lb, xb'⟩ := ints_of g2 rb
  unfold kas_ask
  rw [List.getD_eq_getElem?_getD, u1, List.getD_eq_getElem?_getD, u2]
  refine kat_lt (N _ ma).1 rfl (N _ mb).1 rfl ?_
  have z := kat_ints (prog := P.prog) (w := P.w) (A := A) (fin := decide (xa.length < xb.length)) (Q := C) (s := s) xa xb va' vb' 0 (by rw [← la, ra.1]) (by rw [← lb, rb.1]) xa' xb' q
  have e3 : (List.toArray va').size = xa.length := by rw [List.size_toArray, ← ra.1, la]
  have e4 : (List.toArray vb').size = xb.length := by rw [List.size_toArray, ← rb.1, lb]
  rw [e3, e4]
  exact z

/-- sorted() of a list of fewer than two -/
theorem sorted_short {prog : Program} {w : World} {A : Around} {E : Value → Shared → Prop} {s : Shared} {l : Addr} {vs : List Value} {Q : Value → Shared → Prop} (hl : s.heap.IsList l vs.toArray) (h2 : vs.length < 2)
    (h : ∀ h' c, (∀ b o, s.heap.get? b = some o → h'.get? b = some o) → h'.get? (s.heap.objs.size + 1) = some (listOf vs.toArray c) → Q (.ref (s.heap.objs.size + 1)) { s with heap := h' }) :
    wpAny (model prog w) A (call (.builtin "sorted") [.ref l]) Q E s := by
  refine Calls.call_function_entry kind_sorted plain_sorted entry_sorted (args_sorted1 _) ?_
  unfold Builtin.«sorted»
  refine wpAny_bind (m := checkCount "sorted" 1 1 _) (wpAny_pure ?_)
  refine wpAny_bind (collect_list hl ?_ (by rw [sizeLine_eq]; lia))
  refine wpAny_bind (wpAny_newList ?_ (by rw [sizeLine_eq]; lia))
  have hsz : ((s.heap.push (seqObj "list" #[] 0)).update s.heap.objs.size (Obj.mapSeq (· ++ vs.toArray))).objs.size = s.heap.objs.size + 1 := by
    rw [Heap.size_update, size_push']
  have hoL : (((s.heap.push (seqObj "list" #[] 0)).update s.heap.objs.size (Obj.mapSeq (· ++ vs.toArray))).push (seqObj "list" vs.toArray 0)).get? (s.heap.objs.size + 1) = some (seqObj "list" vs.toArray 0) := by
    rw [← hsz]; exact Heap.get?_push_size _ rfl
  have keep : ∀ b o, s.heap.get? b = some o → (((s.heap.push (seqObj "list" #[] 0)).update s.heap.objs.size (Obj.mapSeq (· ++ vs.toArray))).push (seqObj "list" vs.toArray 0)).get? b = some o := fun b o q => by
    have hlt : b < s.heap.objs.size := Heap.lt_size q
    rw [Heap.get?_push_ne _ _ _ (by rw [hsz]; exact Nat.ne_of_lt (Nat.lt_succ_of_lt hlt)), Heap.get?_update_ne _ _ _ _ (Nat.ne_of_lt hlt), Heap.get?_push_ne _ _ _ (Nat.ne_of_lt hlt)]
    exact q
  have hlt0 : ∀ b o, s.heap.get? b = some o → b ≠ s.heap.objs.size + 1 := fun b o e => Nat.ne_of_lt (Nat.lt_succ_of_lt (Heap.lt_size e))
  show wpAny _ _ _ _ _ { s with heap := ((s.heap.push (seqObj "list" #[] 0)).update s.heap.objs.size (Obj.mapSeq (· ++ vs.toArray))).push (seqObj "list" vs.toArray 0) }
  rw [hsz]
  refine wpAny_bind (wpAny_holding (wpAny_call_entry slot_list_sort ⟨_, hoL, rfl⟩ entry_list_sort ?body (args_list_sort _)))
  case body =>
    have lt1 : s.heap.objs.size + 1 < (((s.heap.push (seqObj "list" #[] 0)).update s.heap.objs.size (Obj.mapSeq (· ++ vs.toArray))).push (seqObj "list" vs.toArray 0)).objs.size := Heap.lt_size hoL
    generalize ((s.heap.push (seqObj "list" #[] 0)).update s.heap.objs.size (Obj.mapSeq (· ++ vs.toArray))).push (seqObj "list" vs.toArray 0) = H at hoL keep lt1 ⊢
    generalize s.heap.objs.size + 1 = a at h hoL hlt0 lt1 ⊢
    rw [list_sort_plain]
    refine wpAny_bind (listItems_at hoL rfl ?_)
    refine wpAny_bind (listUpdate_at hoL rfl ?_ (by rw [List.size_toArray, sizeLine_eq]; lia) (Nat.zero_le _))
    obtain ⟨e1, ho1⟩ : ∃ e1, (H.update a (Obj.mapSeq fun _ => #[])).get? a = some (seqObj "list" #[] e1) := ⟨_, get?_update_seq hoL (fun _ => #[])⟩
    refine wpAny_bind (seqEpoch_at ho1 rfl ?_)
    refine wpAny_bind (wpAny_newTuple ?_ (by show vs.length ≤ _; rw [sizeLine_eq]; lia))
    refine wpAny_bind (wpAny_newList ?_ (Nat.zero_le _))
    refine wpAny_holding ?_
    have ho6 : (((H.update a (Obj.mapSeq fun _ => #[])).push (seqObj "tuple" vs.toArray 0)).push (seqObj "list" #[] 0)).get? a = some (seqObj "list" #[] e1) := by
      rw [Heap.get?_push_ne _ _ _ (by rw [size_push', Heap.size_update]; exact Nat.ne_of_lt (Nat.lt_succ_of_lt lt1)), Heap.get?_push_ne _ _ _ (by rw [Heap.size_update]; exact Nat.ne_of_lt lt1)]
      exact ho1
    show wpAny (model prog w) _ _ _ _ { s with heap := ((H.update a (Obj.mapSeq fun _ => #[])).push (seqObj "tuple" vs.toArray 0)).push (seqObj "list" #[] 0) }
    dsimp only
    have h2' : vs.toArray.size < 2 := by rw [List.size_toArray]; exact h2
    rw [if_pos h2', if_pos h2']
    refine wpAny_bind (wpAny_pure ?_)
    rw [StateT.run_pure]
    refine wpAny_bind (wpAny_pure ?_)
    dsimp only
    refine wpAny_bind (seqEpoch_at ho6 rfl ?_)
    have out : ((arrOf (SortSt.mk' general' (vs.toArray.zip vs.toArray) #[] 7 none)).map (·.2)) = vs.toArray := by
      show (vs.toArray.zip vs.toArray).map (·.2) = vs.toArray
      apply Array.toList_inj.mp
      simp only [Array.toList_map, Array.toList_zip]
      exact List.map_snd_zip (Nat.le_refl _)
    rw [out]
    refine wpAny_bind (listUpdate_at ho6 rfl ?_ (Nat.zero_le _) (by rw [List.size_toArray, sizeLine_eq]; lia))
    simp only [bne_self_eq_false, Bool.false_eq_true, if_false]
    refine wpAny_pure ⟨_, rfl, wpAny_pure ⟨_, rfl, h _ _ (fun b o e => ?_) (get?_update_seq ho6 fun _ => vs.toArray)⟩⟩
    have hb := hlt0 b o e
    have e' := keep b o e
    have lb := Heap.lt_size e'
    rw [Heap.get?_update_ne _ _ _ _ hb, Heap.get?_push_ne _ _ _ (by rw [size_push', Heap.size_update]; exact Nat.ne_of_lt (Nat.lt_succ_of_lt lb)), Heap.get?_push_ne _ _ _ (by rw [Heap.size_update]; exact Nat.ne_of_lt lb), Heap.get?_update_ne _ _ _ _ hb]
    exact e'

theorem rvs_pick {α : Al} {Φ : Addr × Obj → Prop} {vs : List V} {vals : List Value} (R : RVs α Φ vs vals) : ∀ (l : List Nat), RVs α Φ (l.map fun i => vs.getD i .none) (l.map fun i => vals.getD i Value.none)
  | [] => .nil
  | i :: l => by
    refine .cons ?_ (rvs_pick R l)
    show RV α Φ (vs.getD i .none) (vals.getD i Value.none)
    rw [List.getD_eq_getElem?_getD, List.getD_eq_getElem?_getD]
    cases e : vs[i]? with
    | none =>
      rw [List.getElem?_eq_none_iff] at e
      rw [List.getElem?_eq_none (by rw [← R.1]; exact e)]
      exact .none
    | some v =>
      obtain ⟨val, h1, h2⟩ := R.at e
      rw [h1]
      exact h2

theorem sf_sorted : SF P dp (.builtin "sorted") gSorted := by
  intro f ok vs σ v σ' hv m news α s Q vals F N I R post
  unfold gSorted at hv
  split at hv
  case h_2 => cases hv
  rename_i k
  simp only [Option.bind_eq_some_iff] at hv
  obtain ⟨ws, hws, xss, hx, hv⟩ := hv
  obtain ⟨v1, r1, rfl, q1, R⟩ := R.head
  obtain rfl := R.nil_inv
  obtain ⟨d, wv, n, rfl, ea, hm, rs, hl⟩ := I.list hws q1
  split at hv
  · rename_i h2
    cases hv
    refine sorted_short (listOf_is (N _ hm).1) (by rw [← rs.1]; exact h2) fun h' c keep hD => ?_
    have fr : ∀ p ∈ news, p.1 ≠ s.heap.objs.size + 1 := fun p hp => Nat.ne_of_lt (Nat.lt_succ_of_lt (Heap.lt_size (N p hp).1))
    obtain ⟨I', G'⟩ := I.new (x := s.heap.objs.size + 1) (d := s.heap.objs.size + 1) (o := listOf (List.toArray wv) c) (mo := .list ws) fr (.inl rfl)
      (fun fz => ⟨rfl, hl, wv, c, rfl, rs.mono (fun k y e => by rw [List.getElem?_append_left (List.getElem?_eq_some_iff.mp e).1]; exact e) fz⟩)
    refine post h' s.toks _ _ _ (F.keeps keep) (fun p hp => ?_) I' G' (.ref _ _ (s.heap.objs.size + 1) ?_)
    · rcases List.mem_cons.mp hp with rfl | hp
      · exact ⟨hD, Nat.ne_of_gt (Nat.lt_succ_of_lt F.ns.lt), fresh_base F (Nat.le_succ _)⟩
      · exact ⟨keep _ _ (N p hp).1, (N p hp).2⟩
    · rw [List.getElem?_append_right (by rw [I.len]; exact Nat.le_refl _), I.len]
      simp
  · rename_i h2
    split at hv
    case isFalse => cases hv
    case isTrue h64 =>
    obtain ⟨p, hp, hv⟩ := Option.bind_eq_some_iff.mp hv
    split at hv
    case isFalse => cases hv
    case isTrue hpl =>
    cases hv
    refine kat_sorted F N (listOf_is (N _ hm).1) (by rw [← rs.1]; lia) (by rw [← rs.1]; exact h64.1) fun D e1 h' F' N' lt => ?_
    have N0 : News f.h₀ f.L h' news := fun p hp => N' p (.tail _ hp)
    obtain ⟨fs, k1, k2, k3⟩ := kat_tups_of N0 hx h64.2 rs
    refine kat_kind (T := .type "int") k1 (by rw [k2]; lia) (fun v hv => ?_) rfl ?_
    · obtain ⟨a, t, rfl⟩ := k3 v hv
      exact Looks.of_pure rfl
    · rw [show (Value.type "int" != Value.type "tuple") = true from by decide, ← rs.1]
      refine runO_sound (lt := ltAt xss) (s := { s with heap := h' }) (fun i j b C hb hC => ask_sound (P := P) (s := { s with heap := h' }) N0 hx rs hb hC) _ p hp ?_
      refine KasFin.intro F' N' (.head fun q hq => Nat.ne_of_lt (lt q hq)) fun h2 c F2 N2 => ?_
      have fr : ∀ p ∈ news, p.1 ≠ D := fun p hp => Nat.ne_of_lt (lt p hp)
      obtain ⟨I', G'⟩ := I.new (x := D) (d := D) (o := listOf (List.toArray (p.toList.map fun i => wv.getD i Value.none)) c) (mo := .list (p.toList.map fun i => ws.getD i .none)) fr (.inl rfl)
        (fun fz => ⟨rfl, by rw [List.length_map]; exact hpl, _, c, rfl, (rvs_pick rs p.toList).mono (fun k y e => by rw [List.getElem?_append_left (List.getElem?_eq_some_iff.mp e).1]; exact e) fz⟩)
      refine post h2 s.toks _ _ _ F2 N2 I' G' (.ref _ _ D ?_)
      rw [List.getElem?_append_right (by rw [I.len]; exact Nat.le_refl _), I.len]
      simp
end
section
variable {P : Pg} {dp : Nat} {ks : Ks} {names : List Str}

noncomputable def rowD (xs : List Int) : PyData := .tuple (xs.map PyData.int)
noncomputable def rowsD (xss : List (List Int)) : PyData := .list (xss.map rowD)
theorem rows_lay : ∀ xss : List (List Int), PyData.canLayAll0 (xss.map rowD) = true
  | [] => rfl
  | xs :: r => by simp [PyData.canLayAll0, rowD, PyData.canLay0, ke_canLayAll0, rows_lay r]
theorem rows_depth : ∀ xss : List (List Int), PyData.depthAll (xss.map rowD) ≤ 1
  | [] => Nat.zero_le _
  | xs :: r => by
    have := rows_depth r
    simp only [List.map_cons, PyData.depthAll, rowD, PyData.depth, ke_depthAll]
    lia
theorem rows_shaped (xss : List (List Int)) : SeqAt.shaped (rowsD xss) = true := by
  have := rows_depth xss
  simp only [SeqAt.shaped, rowsD, PyData.canLay0, PyData.depth, rows_lay, Bool.true_and, decide_eq_true_eq]
  lia
theorem ints_eqv : ∀ ns ms : List Int, PyData.eqvAll (ns.map PyData.int) (ms.map PyData.int) = decide (ns = ms)
  | [], [] => by simp [PyData.eqvAll]
  | [], _ :: _ => by simp [PyData.eqvAll]
  | _ :: _, [] => by simp [PyData.eqvAll]
  | a :: r, b :: t => by
    simp only [List.map_cons, PyData.eqvAll, PyData.eqv, ints_eqv r t]
    by_cases h : a = b <;> by_cases h' : r = t <;> simp [h, h']
theorem rows_eqv : ∀ xss yss : List (List Int), PyData.eqvAll (xss.map rowD) (yss.map rowD) = decide (xss = yss)
  | [], [] => by simp [PyData.eqvAll]
  | [], _ :: _ => by simp [PyData.eqvAll]
  | _ :: _, [] => by simp [PyData.eqvAll]
  | a :: r, b :: t => by
    simp only [List.map_cons, PyData.eqvAll, rowD, PyData.eqv, rows_eqv r t, ints_eqv]
    by_cases h : a = b <;> by_cases h' : r = t <;> simp [h, h']

theorem ints_reads {α : Al} {news : Led} {h : Heap} : ∀ {vs : List V} {vals : List Value} {as : List Int}, vs.mapM V.toInt = some as → RVs α (Frz α news) vs vals → ReadsAll h vals (as.map PyData.int) []
  | [], vals, as, hm, r => by
    cases hm
    rw [r.nil_inv]
    exact .nil
  | v :: vs, vals, as, hm, r => by
    rw [List.mapM_cons] at hm
    obtain ⟨a, h1, h2⟩ := Option.bind_eq_some_iff.mp hm
    obtain ⟨as', h3, h4⟩ := Option.bind_eq_some_iff.mp h2
    cases h4
    refine cps fun Xc kc => ?_
    obtain ⟨val, vals', eq1, r1, r2⟩ := r.head
    refine kc ?_; clear kc Xc; subst eq1
    obtain rfl := toInt_int h1
    cases r1 with | int _ t =>
    exact .cons (as := []) (.int _ t) (ints_reads h3 r2)
theorem rows_reads {α : Al} {news : Led} {h₀ h : Heap} {L : Addr} (N : News h₀ L h news) : ∀ {vs : List V} {vals : List Value} {xss : List (List Int)}, vs.mapM intsOf = some xss → RVs α (Frz α news) vs vals → ReadsAll h vals (xss.map rowD) []
  | [], vals, xss, hm, r => by
    cases hm
    rw [r.nil_inv]
    exact .nil
  | v :: vs, vals, xss, hm, r => by
    rw [List.mapM_cons] at hm
    obtain ⟨a, h1, h2⟩ := Option.bind_eq_some_iff.mp hm
    obtain ⟨as', h3, h4⟩ := Option.bind_eq_some_iff.mp h2
    cases h4
    refine cps fun Xc kc => ?_
    obtain ⟨val, vals', eq1, r1, r2⟩ := r.head
    refine kc ?_; clear kc Xc; subst eq1
    unfold intsOf at h1
    split at h1
    case h_2 => cases h1
    rename_i ws
    refine cps fun Xc kc => ?_
    obtain ⟨ad, wv, n, eq1, hmem, rs⟩ := tup_obj r1
    refine kc ?_; clear kc Xc; subst eq1
    exact .cons (as := []) (reads_tuple_at (N _ hmem).1 rfl rfl (ints_reads h1 rs)) (rows_reads N h3 r2)

/-- two lists of rows of ints, compared -/
noncomputable def rowsAt (σ : St) (v : V) : Option (List (List Int)) := v.toRef.bind fun k => (lstAt σ k).bind fun vs => vs.mapM intsOf
noncomputable def dEqL (a b : DE) : DE := fun ρ σ => (a ρ σ).bind fun r => (b ρ r.2).bind fun u => (rowsAt u.2 r.1).bind fun x => (rowsAt u.2 u.1).map fun y => (.bool (decide (x = y)), u.2)
theorem rowsAt_reads {f : Fm} {α : Al} {news : Led} {σ : St} {h : Heap} (N : News f.h₀ f.L h news) (I : Inv P α news σ) {v : V} {val : Value} {xss : List (List Int)} (hx : rowsAt σ v = some xss) (R : RV α (Frz α news) v val) : ∃ d as, val = .ref d ∧ Reads h val (rowsD xss) as := by
  unfold rowsAt at hx
  obtain ⟨k, hk, hx1⟩ := Option.bind_eq_some_iff.mp hx
  obtain ⟨vs, hvs, hx2⟩ := Option.bind_eq_some_iff.mp hx1
  obtain rfl := toRef_ref hk
  refine cps fun Xc kc => ?_
  obtain ⟨d, wv, n, eq1, ea, hm, rs, hl⟩ := I.list hvs R
  refine kc ?_; clear kc Xc; subst eq1
  exact ⟨d, _, rfl, reads_list_at (N _ hm).1 rfl rfl (rows_reads N hx2 rs)⟩
theorem se_eql {l r : Expr} {pos : Pos} {a b : DE} (hm : behindInMarks .Eq r = false) (ha : SE P dp ks names l a) (hb : SE P dp ks names r b) (hdp : 8 ≤ dp) :
    SE P dp ks names (.Compare l [.Eq] [r] pos) (dEqL a b) := by
  intro f env ok fit hks ρ σ v σ' hv m news α s Q pre post
  simp only [dEqL, Option.bind_eq_some_iff, Option.map_eq_some_iff] at hv
  refine cps fun Xc kc => ?_
  obtain ⟨⟨v1, σ1⟩, h1, ⟨v2, σ2⟩, h2, x, hx, y, hy, e⟩ := hv
  refine kc ?_; clear kc Xc
  cases e
  refine wpAny_Compare1 (ha f env ok fit hks ρ σ _ _ h1 m news α s _ pre ?_) hm
  intro h' tk news' α' val F' N' I' G' R'
  refine hb f env ok fit hks ρ σ1 _ _ h2 m news' α' _ _ (pre.to F' N' I' G') ?_
  intro h'' tk' news'' α'' val' F'' N'' I'' G'' R''
  refine cps fun Xc kc => ?_
  obtain ⟨d1, as1, eq1, q1⟩ := rowsAt_reads N'' I'' hx (R'.le G'')
  refine kc ?_; clear kc Xc; subst eq1
  refine cps fun Xc kc => ?_
  obtain ⟨d2, as2, eq1, q2⟩ := rowsAt_reads N'' I'' hy R''
  refine kc ?_; clear kc Xc; subst eq1
  refine eq_dataH q1 q2 (rows_shaped _) (rows_shaped _) (by have := ok.units; lia) ?_
  have e : PyData.eqv (rowsD x) (rowsD y) = decide (x = y) := by
    show PyData.eqvAll _ _ = _
    exact rows_eqv x y
  rw [e]
  exact post _ _ _ _ _ F'' N'' I'' (G'.trans G'') (.bool _)
end
section
variable {P : Pg} {dp : Nat} {ks : Ks} {names : List Str}

theorem se_neg {i : Int} {k : Nat} {pos pos' : Pos} : SE P dp ks names (.UnaryOp .USub (.Constant (.int i) k pos) pos') (dInt (-i)) := by
  intro f env ok fit hks ρ σ v σ' hv m news α s Q pre post
  cases hv
  exact UnaryOp_ (wpAny_Constant_int (neg_int (post s.heap (s.toks + 1 + 1) news α _ pre.F pre.N pre.I .refl (.int _ _))))
theorem st_or3 {l r q : Expr} {pos : Pos} {a b c : DE} (ha : ST P dp ks names l a) (hb : ST P dp ks names r b) (hc : ST P dp ks names q c) : ST P dp ks names (.BoolOp .Or [l, r, q] pos) (dOr a (dOr b c)) := by
  intro f env ok fit hks ρ σ v σ' hv m news α s Q pre post
  simp only [dOr, Option.bind_eq_some_iff, Option.map_eq_some_iff] at hv
  refine cps fun Xc kc => ?_
  obtain ⟨⟨v1, σ1⟩, h1, x, hx, hv⟩ := hv
  refine kc ?_; clear kc Xc
  obtain rfl := toBool_bool hx
  refine isTrue_or (ha f env ok fit hks ρ σ _ _ h1 m news α s _ pre ?_)
  intro h' tk news' α' F' N' I' G'
  cases x with
  | true =>
    simp only [if_true] at hv ⊢
    cases hv
    exact post _ _ _ _ F' N' I' G'
  | false =>
    simp only [Bool.false_eq_true, if_false, Option.bind_eq_some_iff, Option.map_eq_some_iff] at hv ⊢
    refine cps fun Xc kc => ?_
    obtain ⟨⟨v2, σ2⟩, ⟨⟨v3, σ3⟩, h2, y, hy, hv⟩, z, hz, e⟩ := hv
    refine kc ?_; clear kc Xc
    cases e
    obtain rfl := toBool_bool hz
    obtain rfl := toBool_bool hy
    refine isTrue_or (hb f env ok fit hks ρ σ1 _ _ h2 m news' α' _ _ (pre.to F' N' I' G') ?_)
    intro h'' tk' news'' α'' F'' N'' I'' G''
    cases y with
    | true =>
      simp only [if_true] at hv ⊢
      cases hv
      exact post _ _ _ _ F'' N'' I'' (G'.trans G'')
    | false =>
      simp only [Bool.false_eq_true, if_false, Option.bind_eq_some_iff, Option.map_eq_some_iff] at hv ⊢
      refine cps fun Xc kc => ?_
      obtain ⟨⟨v4, σ4⟩, h3, w, hw, e⟩ := hv
      refine kc ?_; clear kc Xc
      cases e
      obtain rfl := toBool_bool hw
      refine isTrue_or (hc f env ok fit hks ρ σ3 _ _ h3 m news'' α'' _ _ ((pre.to F' N' I' G').to F'' N'' I'' G'') ?_)
      intro h3' tk3 news3 α3 F3 N3 I3 G3
      have z := post h3' tk3 _ _ F3 N3 I3 ((G'.trans G'').trans G3)
      cases v with
      | true => simp only [if_true]; exact z
      | false => simp only [Bool.false_eq_true, if_false]; exact isTrue_or_nil z
end
theorem clos_go {env : Env} {g : Str → Addr} : ∀ (l : List (Str × NameKind)) (acc : List (Str × Addr)), (∀ y ∈ (l.filter fun p => p.2 == .free).map (·.1), env.cells.lookup y = some (g y)) →
    (forIn l acc fun (x : Str × NameKind) (cs : List (Str × Addr)) => (match x with | (name, kind) => if (kind == .free) = true then (do let c ← cellOf env name; pure (ForInStep.yield ((name, c) :: cs))) else pure (ForInStep.yield cs) : Sem (ForInStep (List (Str × Addr))))) = pure ((((l.filter fun p => p.2 == .free).map (·.1)).reverse.map fun y => (y, g y)) ++ acc)
  | [], acc, _ => rfl
  | (n, k) :: l, acc, h => by
    rw [List.forIn_cons]
    cases hk : (k == NameKind.free) with
    | true =>
      have e : List.filter (fun p : Str × NameKind => p.2 == .free) ((n, k) :: l) = (n, k) :: l.filter fun p => p.2 == .free := by rw [List.filter_cons, if_pos hk]
      rw [e, List.map_cons] at h ⊢
      have h1 := h n (.head _)
      have ih := clos_go l ((n, g n) :: acc) fun y hy => h y (.tail _ hy)
      have hc : cellOf env n = pure (g n) := by unfold cellOf; rw [h1]
      simp only [hk, if_true, hc]
      refine Eq.trans (b := (forIn l ((n, g n) :: acc) _)) rfl (ih.trans ?_)
      rw [List.reverse_cons, List.map_append, List.append_assoc]
      rfl
    | false =>
      have e : List.filter (fun p : Str × NameKind => p.2 == .free) ((n, k) :: l) = l.filter fun p => p.2 == .free := by rw [List.filter_cons, if_neg (by simp [hk])]
      rw [e] at h ⊢
      simp only [hk]
      exact Eq.trans rfl (clos_go l acc h)
theorem clos_gen {scope : Scope} {xs : List Str} (hx : (scope.names.filter fun p => p.2 == .free).map (·.1) = xs) (env : Env) (g : Str → Addr) (h : ∀ y ∈ xs, env.cells.lookup y = some (g y)) : closureFor scope env = pure (clOf xs g) := by
  subst hx
  unfold closureFor
  have := clos_go scope.names [] h
  rw [List.append_nil] at this
  unfold clOf
  refine Eq.trans ?_ (congrArg (fun z => z >>= fun cs => pure cs) this)
  rfl
noncomputable abbrev PG (prog : Program) (w : World) (p : Program) (loose : List Str) (mean : ExcName → Option Value) (mg mb : Str → Option Value) : Pg := ⟨prog, w, KK w.params, p, loose, mean, mg, mb, 31, 52⟩
theorem pok {prog : Program} {w : World} {p : Program} {loose : List Str} {mean : ExcName → Option Value} {mg mb : Str → Option Value} : (PG prog w p loose mean mg mb).Ok := ⟨by kernel_rfl, by kernel_rfl⟩
theorem hps_app {names ps rest : List Str} (h : names = ps ++ rest) : ∀ i x, i < ps.length → names[i]? = some x → ps[i]? = some x := fun i x hi hx => by
  rw [h, List.getElem?_append_left hi] at hx
  exact hx
theorem loc_of {ks : Ks} {ps : List Str} (h : (ps.all fun x => ks.lookup x == some .local) = true) : ∀ x ∈ ps, ks.lookup x = some .local := fun x hx => by
  have := List.all_eq_true.mp h x hx
  simpa using this
theorem loc_cell {ks : Ks} {ps : List Str} (h : (ps.all fun x => ks.lookup x == some .local || ks.lookup x == some .cell) = true) : ∀ x ∈ ps, ks.lookup x = some .local ∨ ks.lookup x = some .cell := fun x hx => by
  have := List.all_eq_true.mp h x hx
  simpa using this
theorem env_gen {β : Type} {F : Env → β} {b : β} {ks : List (Str × NameKind)} {env : Env} (h1 : env.scope.names = ks) (h2 : env.scope.kind = .function) (h : F { env with scope := { env.scope with names := ks, kind := .function } } = b) : F env = b := by
  subst h1
  rw [← h]
  obtain ⟨⟨⟩⟩ := env
  cases h2
  rfl
theorem cells_go : ∀ (ns : List (Str × NameKind)) (k k0 : Nat) (acc : List (Str × Addr)), k0 ≤ k → (acc.map (·.2)).Nodup → (∀ c ∈ acc.map (·.2), k0 ≤ c ∧ c < k) → ((cellsFrom k ns acc).map (·.2)).Nodup ∧ ∀ c ∈ (cellsFrom k ns acc).map (·.2), k0 ≤ c
  | [], _, _, _, _, h, h' => ⟨h, fun c hc => (h' c hc).1⟩
  | (n, kd) :: r, k, k0, acc, hk, h, h' => by
    unfold cellsFrom
    split
    · refine cells_go r (k + 1) k0 ((n, k) :: acc) (by lia) ?_ fun c hc => ?_
      · rw [List.map_cons, List.nodup_cons]
        exact ⟨fun hc => Nat.lt_irrefl _ (h' _ hc).2, h⟩
      · rcases List.mem_cons.mp hc with rfl | hc
        · exact ⟨hk, Nat.lt_succ_self _⟩
        · exact ⟨(h' c hc).1, Nat.lt_succ_of_lt (h' c hc).2⟩
    · exact cells_go r k k0 acc hk h h'
theorem cells_nod (ns : List (Str × NameKind)) (k : Nat) : ((cellsFrom k ns []).map (·.2)).Nodup ∧ ∀ c ∈ (cellsFrom k ns []).map (·.2), k ≤ c := cells_go ns k k [] (Nat.le_refl _) .nil fun c hc => nomatch hc
theorem no_hand_down {prog : Program} {w : World} {p : Program} {loose : List Str} {mean : ExcName → Option Value} {mg mb : Str → Option Value} : NameOk (PG prog w p loose mean mg mb) (Str.ofString "hand_down") (.ref 63) := .inl (by kernel_rfl)
theorem kp_hand_down {prog : Program} {w : World} {p : Program} {loose : List Str} {mean : ExcName → Option Value} {mg mb : Str → Option Value} : KeepOk (PG prog w p loose mean mg mb) (.ref 63) := keep_def (by kernel_rfl)
theorem no_hand_down_to {prog : Program} {w : World} {p : Program} {loose : List Str} {mean : ExcName → Option Value} {mg mb : Str → Option Value} : NameOk (PG prog w p loose mean mg mb) (Str.ofString "hand_down_to") (.ref 70) := .inl (by kernel_rfl)
theorem kp_hand_down_to {prog : Program} {w : World} {p : Program} {loose : List Str} {mean : ExcName → Option Value} {mg mb : Str → Option Value} : KeepOk (PG prog w p loose mean mg mb) (.ref 70) := keep_def (by kernel_rfl)
theorem no_greatest_end {prog : Program} {w : World} {p : Program} {loose : List Str} {mean : ExcName → Option Value} {mg mb : Str → Option Value} : NameOk (PG prog w p loose mean mg mb) (Str.ofString "greatest_end") (.ref 77) := .inl (by kernel_rfl)
theorem kp_greatest_end {prog : Program} {w : World} {p : Program} {loose : List Str} {mean : ExcName → Option Value} {mg mb : Str → Option Value} : KeepOk (PG prog w p loose mean mg mb) (.ref 77) := keep_def (by kernel_rfl)
theorem no_renew_limits {prog : Program} {w : World} {p : Program} {loose : List Str} {mean : ExcName → Option Value} {mg mb : Str → Option Value} : NameOk (PG prog w p loose mean mg mb) (Str.ofString "renew_limits") (.ref 84) := .inl (by kernel_rfl)
theorem kp_renew_limits {prog : Program} {w : World} {p : Program} {loose : List Str} {mean : ExcName → Option Value} {mg mb : Str → Option Value} : KeepOk (PG prog w p loose mean mg mb) (.ref 84) := keep_def (by kernel_rfl)
theorem no_hang {prog : Program} {w : World} {p : Program} {loose : List Str} {mean : ExcName → Option Value} {mg mb : Str → Option Value} : NameOk (PG prog w p loose mean mg mb) (Str.ofString "hang") (.ref 91) := .inl (by kernel_rfl)
theorem kp_hang {prog : Program} {w : World} {p : Program} {loose : List Str} {mean : ExcName → Option Value} {mg mb : Str → Option Value} : KeepOk (PG prog w p loose mean mg mb) (.ref 91) := keep_def (by kernel_rfl)
theorem no_turn_left {prog : Program} {w : World} {p : Program} {loose : List Str} {mean : ExcName → Option Value} {mg mb : Str → Option Value} : NameOk (PG prog w p loose mean mg mb) (Str.ofString "turn_left") (.ref 98) := .inl (by kernel_rfl)
theorem kp_turn_left {prog : Program} {w : World} {p : Program} {loose : List Str} {mean : ExcName → Option Value} {mg mb : Str → Option Value} : KeepOk (PG prog w p loose mean mg mb) (.ref 98) := keep_def (by kernel_rfl)
theorem no_turn_right {prog : Program} {w : World} {p : Program} {loose : List Str} {mean : ExcName → Option Value} {mg mb : Str → Option Value} : NameOk (PG prog w p loose mean mg mb) (Str.ofString "turn_right") (.ref 105) := .inl (by kernel_rfl)
theorem kp_turn_right {prog : Program} {w : World} {p : Program} {loose : List Str} {mean : ExcName → Option Value} {mg mb : Str → Option Value} : KeepOk (PG prog w p loose mean mg mb) (.ref 105) := keep_def (by kernel_rfl)
theorem no_is_red {prog : Program} {w : World} {p : Program} {loose : List Str} {mean : ExcName → Option Value} {mg mb : Str → Option Value} : NameOk (PG prog w p loose mean mg mb) (Str.ofString "is_red") (.ref 112) := .inl (by kernel_rfl)
theorem kp_is_red {prog : Program} {w : World} {p : Program} {loose : List Str} {mean : ExcName → Option Value} {mg mb : Str → Option Value} : KeepOk (PG prog w p loose mean mg mb) (.ref 112) := keep_def (by kernel_rfl)
theorem no_colour_inserted {prog : Program} {w : World} {p : Program} {loose : List Str} {mean : ExcName → Option Value} {mg mb : Str → Option Value} : NameOk (PG prog w p loose mean mg mb) (Str.ofString "colour_inserted") (.ref 119) := .inl (by kernel_rfl)
theorem kp_colour_inserted {prog : Program} {w : World} {p : Program} {loose : List Str} {mean : ExcName → Option Value} {mg mb : Str → Option Value} : KeepOk (PG prog w p loose mean mg mb) (.ref 119) := keep_def (by kernel_rfl)
theorem no_turned_inward {prog : Program} {w : World} {p : Program} {loose : List Str} {mean : ExcName → Option Value} {mg mb : Str → Option Value} : NameOk (PG prog w p loose mean mg mb) (Str.ofString "turned_inward") (.ref 126) := .inl (by kernel_rfl)
theorem kp_turned_inward {prog : Program} {w : World} {p : Program} {loose : List Str} {mean : ExcName → Option Value} {mg mb : Str → Option Value} : KeepOk (PG prog w p loose mean mg mb) (.ref 126) := keep_def (by kernel_rfl)
theorem no_put_node {prog : Program} {w : World} {p : Program} {loose : List Str} {mean : ExcName → Option Value} {mg mb : Str → Option Value} : NameOk (PG prog w p loose mean mg mb) (Str.ofString "put_node") (.ref 133) := .inl (by kernel_rfl)
theorem kp_put_node {prog : Program} {w : World} {p : Program} {loose : List Str} {mean : ExcName → Option Value} {mg mb : Str → Option Value} : KeepOk (PG prog w p loose mean mg mb) (.ref 133) := keep_def (by kernel_rfl)
theorem no_first_below {prog : Program} {w : World} {p : Program} {loose : List Str} {mean : ExcName → Option Value} {mg mb : Str → Option Value} : NameOk (PG prog w p loose mean mg mb) (Str.ofString "first_below") (.ref 140) := .inl (by kernel_rfl)
theorem kp_first_below {prog : Program} {w : World} {p : Program} {loose : List Str} {mean : ExcName → Option Value} {mg mb : Str → Option Value} : KeepOk (PG prog w p loose mean mg mb) (.ref 140) := keep_def (by kernel_rfl)
theorem no_take_place {prog : Program} {w : World} {p : Program} {loose : List Str} {mean : ExcName → Option Value} {mg mb : Str → Option Value} : NameOk (PG prog w p loose mean mg mb) (Str.ofString "take_place") (.ref 147) := .inl (by kernel_rfl)
theorem kp_take_place {prog : Program} {w : World} {p : Program} {loose : List Str} {mean : ExcName → Option Value} {mg mb : Str → Option Value} : KeepOk (PG prog w p loose mean mg mb) (.ref 147) := keep_def (by kernel_rfl)
theorem no_drop_node {prog : Program} {w : World} {p : Program} {loose : List Str} {mean : ExcName → Option Value} {mg mb : Str → Option Value} : NameOk (PG prog w p loose mean mg mb) (Str.ofString "drop_node") (.ref 154) := .inl (by kernel_rfl)
theorem kp_drop_node {prog : Program} {w : World} {p : Program} {loose : List Str} {mean : ExcName → Option Value} {mg mb : Str → Option Value} : KeepOk (PG prog w p loose mean mg mb) (.ref 154) := keep_def (by kernel_rfl)
theorem no_colour_dropped {prog : Program} {w : World} {p : Program} {loose : List Str} {mean : ExcName → Option Value} {mg mb : Str → Option Value} : NameOk (PG prog w p loose mean mg mb) (Str.ofString "colour_dropped") (.ref 161) := .inl (by kernel_rfl)
theorem kp_colour_dropped {prog : Program} {w : World} {p : Program} {loose : List Str} {mean : ExcName → Option Value} {mg mb : Str → Option Value} : KeepOk (PG prog w p loose mean mg mb) (.ref 161) := keep_def (by kernel_rfl)
theorem no_sibling_of {prog : Program} {w : World} {p : Program} {loose : List Str} {mean : ExcName → Option Value} {mg mb : Str → Option Value} : NameOk (PG prog w p loose mean mg mb) (Str.ofString "sibling_of") (.ref 168) := .inl (by kernel_rfl)
theorem kp_sibling_of {prog : Program} {w : World} {p : Program} {loose : List Str} {mean : ExcName → Option Value} {mg mb : Str → Option Value} : KeepOk (PG prog w p loose mean mg mb) (.ref 168) := keep_def (by kernel_rfl)
theorem no_turn_towards {prog : Program} {w : World} {p : Program} {loose : List Str} {mean : ExcName → Option Value} {mg mb : Str → Option Value} : NameOk (PG prog w p loose mean mg mb) (Str.ofString "turn_towards") (.ref 175) := .inl (by kernel_rfl)
theorem kp_turn_towards {prog : Program} {w : World} {p : Program} {loose : List Str} {mean : ExcName → Option Value} {mg mb : Str → Option Value} : KeepOk (PG prog w p loose mean mg mb) (.ref 175) := keep_def (by kernel_rfl)
theorem no_lightened {prog : Program} {w : World} {p : Program} {loose : List Str} {mean : ExcName → Option Value} {mg mb : Str → Option Value} : NameOk (PG prog w p loose mean mg mb) (Str.ofString "lightened") (.ref 182) := .inl (by kernel_rfl)
theorem kp_lightened {prog : Program} {w : World} {p : Program} {loose : List Str} {mean : ExcName → Option Value} {mg mb : Str → Option Value} : KeepOk (PG prog w p loose mean mg mb) (.ref 182) := keep_def (by kernel_rfl)
theorem no_all_nodes_in_order {prog : Program} {w : World} {p : Program} {loose : List Str} {mean : ExcName → Option Value} {mg mb : Str → Option Value} : NameOk (PG prog w p loose mean mg mb) (Str.ofString "all_nodes_in_order") (.ref 189) := .inl (by kernel_rfl)
theorem kp_all_nodes_in_order {prog : Program} {w : World} {p : Program} {loose : List Str} {mean : ExcName → Option Value} {mg mb : Str → Option Value} : KeepOk (PG prog w p loose mean mg mb) (.ref 189) := keep_def (by kernel_rfl)
theorem no_nodes_between {prog : Program} {w : World} {p : Program} {loose : List Str} {mean : ExcName → Option Value} {mg mb : Str → Option Value} : NameOk (PG prog w p loose mean mg mb) (Str.ofString "nodes_between") (.ref 196) := .inl (by kernel_rfl)
theorem kp_nodes_between {prog : Program} {w : World} {p : Program} {loose : List Str} {mean : ExcName → Option Value} {mg mb : Str → Option Value} : KeepOk (PG prog w p loose mean mg mb) (.ref 196) := keep_def (by kernel_rfl)
theorem no_begins_to_move {prog : Program} {w : World} {p : Program} {loose : List Str} {mean : ExcName → Option Value} {mg mb : Str → Option Value} : NameOk (PG prog w p loose mean mg mb) (Str.ofString "begins_to_move") (.ref 203) := .inl (by kernel_rfl)
theorem kp_begins_to_move {prog : Program} {w : World} {p : Program} {loose : List Str} {mean : ExcName → Option Value} {mg mb : Str → Option Value} : KeepOk (PG prog w p loose mean mg mb) (.ref 203) := keep_def (by kernel_rfl)
theorem no_grows {prog : Program} {w : World} {p : Program} {loose : List Str} {mean : ExcName → Option Value} {mg mb : Str → Option Value} : NameOk (PG prog w p loose mean mg mb) (Str.ofString "grows") (.ref 210) := .inl (by kernel_rfl)
theorem kp_grows {prog : Program} {w : World} {p : Program} {loose : List Str} {mean : ExcName → Option Value} {mg mb : Str → Option Value} : KeepOk (PG prog w p loose mean mg mb) (.ref 210) := keep_def (by kernel_rfl)
theorem no_open_gap {prog : Program} {w : World} {p : Program} {loose : List Str} {mean : ExcName → Option Value} {mg mb : Str → Option Value} : NameOk (PG prog w p loose mean mg mb) (Str.ofString "open_gap") (.ref 215) := .inl (by kernel_rfl)
theorem kp_open_gap {prog : Program} {w : World} {p : Program} {loose : List Str} {mean : ExcName → Option Value} {mg mb : Str → Option Value} : KeepOk (PG prog w p loose mean mg mb) (.ref 215) := keep_def (by kernel_rfl)
theorem no_shift_nodes {prog : Program} {w : World} {p : Program} {loose : List Str} {mean : ExcName → Option Value} {mg mb : Str → Option Value} : NameOk (PG prog w p loose mean mg mb) (Str.ofString "shift_nodes") (.ref 222) := .inl (by kernel_rfl)
theorem kp_shift_nodes {prog : Program} {w : World} {p : Program} {loose : List Str} {mean : ExcName → Option Value} {mg mb : Str → Option Value} : KeepOk (PG prog w p loose mean mg mb) (.ref 222) := keep_def (by kernel_rfl)
theorem no_close_gap {prog : Program} {w : World} {p : Program} {loose : List Str} {mean : ExcName → Option Value} {mg mb : Str → Option Value} : NameOk (PG prog w p loose mean mg mb) (Str.ofString "close_gap") (.ref 229) := .inl (by kernel_rfl)
theorem kp_close_gap {prog : Program} {w : World} {p : Program} {loose : List Str} {mean : ExcName → Option Value} {mg mb : Str → Option Value} : KeepOk (PG prog w p loose mean mg mb) (.ref 229) := keep_def (by kernel_rfl)
theorem no_black_height {prog : Program} {w : World} {p : Program} {loose : List Str} {mean : ExcName → Option Value} {mg mb : Str → Option Value} : NameOk (PG prog w p loose mean mg mb) (Str.ofString "black_height") (.ref 236) := .inl (by kernel_rfl)
theorem kp_black_height {prog : Program} {w : World} {p : Program} {loose : List Str} {mean : ExcName → Option Value} {mg mb : Str → Option Value} : KeepOk (PG prog w p loose mean mg mb) (.ref 236) := keep_def (by kernel_rfl)
theorem no_nodes_from_below {prog : Program} {w : World} {p : Program} {loose : List Str} {mean : ExcName → Option Value} {mg mb : Str → Option Value} : NameOk (PG prog w p loose mean mg mb) (Str.ofString "nodes_from_below") (.ref 243) := .inl (by kernel_rfl)
theorem kp_nodes_from_below {prog : Program} {w : World} {p : Program} {loose : List Str} {mean : ExcName → Option Value} {mg mb : Str → Option Value} : KeepOk (PG prog w p loose mean mg mb) (.ref 243) := keep_def (by kernel_rfl)
theorem no_shape_error {prog : Program} {w : World} {p : Program} {loose : List Str} {mean : ExcName → Option Value} {mg mb : Str → Option Value} : NameOk (PG prog w p loose mean mg mb) (Str.ofString "shape_error") (.ref 250) := .inl (by kernel_rfl)
theorem kp_shape_error {prog : Program} {w : World} {p : Program} {loose : List Str} {mean : ExcName → Option Value} {mg mb : Str → Option Value} : KeepOk (PG prog w p loose mean mg mb) (.ref 250) := keep_def (by kernel_rfl)
theorem no_overlay_tree_error {prog : Program} {w : World} {p : Program} {loose : List Str} {mean : ExcName → Option Value} {mg mb : Str → Option Value} : NameOk (PG prog w p loose mean mg mb) (Str.ofString "overlay_tree_error") (.ref 257) := .inl (by kernel_rfl)
theorem kp_overlay_tree_error {prog : Program} {w : World} {p : Program} {loose : List Str} {mean : ExcName → Option Value} {mg mb : Str → Option Value} : KeepOk (PG prog w p loose mean mg mb) (.ref 257) := keep_def (by kernel_rfl)
theorem no_law_draw {prog : Program} {w : World} {p : Program} {loose : List Str} {mean : ExcName → Option Value} {mg mb : Str → Option Value} : NameOk (PG prog w p loose mean mg mb) (Str.ofString "_law_draw") (.ref 264) := .inl (by kernel_rfl)
theorem kp_law_draw {prog : Program} {w : World} {p : Program} {loose : List Str} {mean : ExcName → Option Value} {mg mb : Str → Option Value} : KeepOk (PG prog w p loose mean mg mb) (.ref 264) := keep_def (by kernel_rfl)
theorem no_law_tree {prog : Program} {w : World} {p : Program} {loose : List Str} {mean : ExcName → Option Value} {mg mb : Str → Option Value} : NameOk (PG prog w p loose mean mg mb) (Str.ofString "_law_tree") (.ref 271) := .inl (by kernel_rfl)
theorem kp_law_tree {prog : Program} {w : World} {p : Program} {loose : List Str} {mean : ExcName → Option Value} {mg mb : Str → Option Value} : KeepOk (PG prog w p loose mean mg mb) (.ref 271) := keep_def (by kernel_rfl)
theorem no_law_edit {prog : Program} {w : World} {p : Program} {loose : List Str} {mean : ExcName → Option Value} {mg mb : Str → Option Value} : NameOk (PG prog w p loose mean mg mb) (Str.ofString "_law_edit") (.ref 278) := .inl (by kernel_rfl)
theorem kp_law_edit {prog : Program} {w : World} {p : Program} {loose : List Str} {mean : ExcName → Option Value} {mg mb : Str → Option Value} : KeepOk (PG prog w p loose mean mg mb) (.ref 278) := keep_def (by kernel_rfl)
theorem no_law_done {prog : Program} {w : World} {p : Program} {loose : List Str} {mean : ExcName → Option Value} {mg mb : Str → Option Value} : NameOk (PG prog w p loose mean mg mb) (Str.ofString "_law_done") (.ref 285) := .inl (by kernel_rfl)
theorem kp_law_done {prog : Program} {w : World} {p : Program} {loose : List Str} {mean : ExcName → Option Value} {mg mb : Str → Option Value} : KeepOk (PG prog w p loose mean mg mb) (.ref 285) := keep_def (by kernel_rfl)
theorem no_law_led {prog : Program} {w : World} {p : Program} {loose : List Str} {mean : ExcName → Option Value} {mg mb : Str → Option Value} : NameOk (PG prog w p loose mean mg mb) (Str.ofString "_law_led") (.ref 290) := .inl (by kernel_rfl)
theorem kp_law_led {prog : Program} {w : World} {p : Program} {loose : List Str} {mean : ExcName → Option Value} {mg mb : Str → Option Value} : KeepOk (PG prog w p loose mean mg mb) (.ref 290) := keep_def (by kernel_rfl)
theorem no_law_shown {prog : Program} {w : World} {p : Program} {loose : List Str} {mean : ExcName → Option Value} {mg mb : Str → Option Value} : NameOk (PG prog w p loose mean mg mb) (Str.ofString "_law_shown") (.ref 295) := .inl (by kernel_rfl)
theorem kp_law_shown {prog : Program} {w : World} {p : Program} {loose : List Str} {mean : ExcName → Option Value} {mg mb : Str → Option Value} : KeepOk (PG prog w p loose mean mg mb) (.ref 295) := keep_def (by kernel_rfl)
theorem no_law {prog : Program} {w : World} {p : Program} {loose : List Str} {mean : ExcName → Option Value} {mg mb : Str → Option Value} : NameOk (PG prog w p loose mean mg mb) (Str.ofString "law") (.ref 300) := .inl (by kernel_rfl)
theorem kp_law {prog : Program} {w : World} {p : Program} {loose : List Str} {mean : ExcName → Option Value} {mg mb : Str → Option Value} : KeepOk (PG prog w p loose mean mg mb) (.ref 300) := keep_def (by kernel_rfl)
theorem no_OverlayNode {prog : Program} {w : World} {p : Program} {loose : List Str} {mean : ExcName → Option Value} {mg mb : Str → Option Value} : NameOk (PG prog w p loose mean mg mb) (Str.ofString "OverlayNode") (.ref 31) := .inl (by kernel_rfl)
theorem kp_OverlayNode {prog : Program} {w : World} {p : Program} {loose : List Str} {mean : ExcName → Option Value} {mg mb : Str → Option Value} : KeepOk (PG prog w p loose mean mg mb) (.ref 31) := keep_def (by kernel_rfl)
theorem no_OverlayTree {prog : Program} {w : World} {p : Program} {loose : List Str} {mean : ExcName → Option Value} {mg mb : Str → Option Value} : NameOk (PG prog w p loose mean mg mb) (Str.ofString "OverlayTree") (.ref 52) := .inl (by kernel_rfl)
theorem kp_OverlayTree {prog : Program} {w : World} {p : Program} {loose : List Str} {mean : ExcName → Option Value} {mg mb : Str → Option Value} : KeepOk (PG prog w p loose mean mg mb) (.ref 52) := keep_def (by kernel_rfl)
theorem no_max {prog : Program} {w : World} {p : Program} {loose : List Str} {mean : ExcName → Option Value} {mg mb : Str → Option Value} : NameOk (PG prog w p loose mean mg mb) (Str.ofString "max") (.builtin "max") := .inr ⟨by kernel_rfl, by kernel_rfl, by decide⟩
theorem kp_max {prog : Program} {w : World} {p : Program} {loose : List Str} {mean : ExcName → Option Value} {mg mb : Str → Option Value} : KeepOk (PG prog w p loose mean mg mb) (.builtin "max") := keep_builtin
theorem no_abs {prog : Program} {w : World} {p : Program} {loose : List Str} {mean : ExcName → Option Value} {mg mb : Str → Option Value} : NameOk (PG prog w p loose mean mg mb) (Str.ofString "abs") (.builtin "abs") := .inr ⟨by kernel_rfl, by kernel_rfl, by decide⟩
theorem kp_abs {prog : Program} {w : World} {p : Program} {loose : List Str} {mean : ExcName → Option Value} {mg mb : Str → Option Value} : KeepOk (PG prog w p loose mean mg mb) (.builtin "abs") := keep_builtin
theorem no_len {prog : Program} {w : World} {p : Program} {loose : List Str} {mean : ExcName → Option Value} {mg mb : Str → Option Value} : NameOk (PG prog w p loose mean mg mb) (Str.ofString "len") (.builtin "len") := .inr ⟨by kernel_rfl, by kernel_rfl, by decide⟩
theorem kp_len {prog : Program} {w : World} {p : Program} {loose : List Str} {mean : ExcName → Option Value} {mg mb : Str → Option Value} : KeepOk (PG prog w p loose mean mg mb) (.builtin "len") := keep_builtin
theorem no_sorted {prog : Program} {w : World} {p : Program} {loose : List Str} {mean : ExcName → Option Value} {mg mb : Str → Option Value} : NameOk (PG prog w p loose mean mg mb) (Str.ofString "sorted") (.builtin "sorted") := .inr ⟨by kernel_rfl, by kernel_rfl, by decide⟩
theorem kp_sorted {prog : Program} {w : World} {p : Program} {loose : List Str} {mean : ExcName → Option Value} {mg mb : Str → Option Value} : KeepOk (PG prog w p loose mean mg mb) (.builtin "sorted") := keep_builtin
theorem no_range {prog : Program} {w : World} {p : Program} {loose : List Str} {mean : ExcName → Option Value} {mg mb : Str → Option Value} : NameOk (PG prog w p loose mean mg mb) (Str.ofString "range") (.type "range") := .inr ⟨by kernel_rfl, by kernel_rfl, by decide⟩
theorem no_enumerate {prog : Program} {w : World} {p : Program} {loose : List Str} {mean : ExcName → Option Value} {mg mb : Str → Option Value} : NameOk (PG prog w p loose mean mg mb) (Str.ofString "enumerate") (.type "enumerate") := .inr ⟨by kernel_rfl, by kernel_rfl, by decide⟩

noncomputable def bodyAt (K : Frag) (a : Addr) : List Stmt := match K.lookup a with
  | some ⟨_, _, .func fd, _⟩ => (match fd.body with | .stmts b => b | _ => [])
  | _ => []
noncomputable def namesAt (K : Frag) (a : Addr) : Ks := match K.lookup a with
  | some ⟨_, _, .func fd, _⟩ => fd.scope.names
  | _ => []
/-! the two classes -/
noncomputable def mkN (a b c d e : V) : Option MO := a.toInt.bind fun n => b.toInt.bind fun b => c.toInt.bind fun e' => d.toBool.bind fun f => e.toBool.map fun r => .node ⟨n, b, e', f, r, e', 0, false, Option.none, Option.none, Option.none⟩
noncomputable def mkNode (vs : List V) : Option MO := if vs.length = 5 then vs[0]?.bind fun a => vs[1]?.bind fun b => vs[2]?.bind fun c => vs[3]?.bind fun d => vs[4]?.bind fun e => mkN a b c d e else Option.none
theorem mkNode_inv {vs : List V} {mo : MO} (h : mkNode vs = some mo) : ∃ n b e f r, vs = [.int n, .int b, .int e, .bool f, .bool r] ∧ mo = .node ⟨n, b, e, f, r, e, 0, false, Option.none, Option.none, Option.none⟩ := by
  unfold mkNode at h
  by_cases hl : vs.length = 5
  · rw [if_pos hl] at h
    obtain ⟨a, b, c, d, e, rfl⟩ := len_5 hl
    obtain ⟨n, h1, h⟩ := Option.bind_eq_some_iff.mp (show mkN a b c d e = some mo from h)
    obtain ⟨b, h2, h⟩ := Option.bind_eq_some_iff.mp h
    obtain ⟨e, h3, h⟩ := Option.bind_eq_some_iff.mp h
    obtain ⟨f, h4, h⟩ := Option.bind_eq_some_iff.mp h
    obtain ⟨r, h5, h⟩ := Option.map_eq_some_iff.mp h
    rw [toInt_int h1, toInt_int h2, toInt_int h3, toBool_bool h4, toBool_bool h5]
    exact ⟨n, b, e, f, r, rfl, h.symm⟩
  · rw [if_neg hl] at h
    cases h
noncomputable def mkTree : List V → Option MO
  | [] => some (.tree ⟨Option.none, 0⟩)
  | _ => Option.none
noncomputable def g_Node := gNew mkNode
noncomputable def g_Tree := gNew mkTree
noncomputable def n_hand_down : List Str := [(Str.ofString "node"), (Str.ofString "son")]
noncomputable def b_hand_down_1 : DS :=
  (dsSeq (dsIf (dCm cIsNot (dVar 1) dNone)
  (dsSeq (dsAssign (daAttr (dVar 1) .offset) (dBin .add (dAttr .offset (dVar 1)) (dAttr .offset (dVar 0))))
  dsNil)
  dsNil)
  dsNil)
noncomputable def s_hand_down : DS :=
  (dsSeq (dsIf (dCm (cInt .eq) (dAttr .offset (dVar 0)) (dInt 0))
  (dsSeq dsRetN
  dsNil)
  dsNil)
  (dsSeq (dsAssign (daAttr (dVar 0) .begin_) (dBin .add (dAttr .begin_ (dVar 0)) (dAttr .offset (dVar 0))))
  (dsSeq (dsAssign (daAttr (dVar 0) .end_) (dBin .add (dAttr .end_ (dVar 0)) (dAttr .offset (dVar 0))))
  (dsSeq (dsAssign (daAttr (dVar 0) .limit) (dBin .add (dAttr .limit (dVar 0)) (dAttr .offset (dVar 0))))
  (dsSeq (dsFor (diTup (dTup (dCons (dAttr .left (dVar 0)) (dCons (dAttr .right (dVar 0)) dNil)))) (daName 1) b_hand_down_1)
  (dsSeq (dsAssign (daAttr (dVar 0) .offset) (dInt 0))
  dsNil))))))
noncomputable def g_hand_down : List V → St → Option (V × St) := dFun 1 2 s_hand_down
theorem sf_hand_down {prog : Program} {w : World} {p : Program} {loose : List Str} {mean : ExcName → Option Value} {mg mb : Str → Option Value} : SF (PG prog w p loose mean mg mb) 1 (.ref 63) g_hand_down :=
  sf_def (P := PG prog w p loose mean mg mb) (dp := 0) (names := n_hand_down) (ps := [(Str.ofString "node")]) (d := s_hand_down) (ho := rfl) (by kernel_rfl) (fun vals h => by
    obtain ⟨v0, rfl⟩ := len_1 h
    rfl) (hps_app (rest := [(Str.ofString "son")]) rfl) (by decide +kernel) (loc_of (by kernel_rfl)) rfl
  (sxs_cons (sx_if (st_cm (cInt_ok .eq) rfl (se_attr pok rfl (se_var 0 (by kernel_rfl) (by kernel_rfl)) (fun _ => rfl)) se_int) (sxs_cons sx_retn
  sxs_nil) sxs_nil)
  (sxs_cons (sx_assign (sa_attr pok rfl (se_var 0 (by kernel_rfl) (by kernel_rfl))) (se_bin (o := .add) (se_attr pok rfl (se_var 0 (by kernel_rfl) (by kernel_rfl)) (fun _ => rfl)) (se_attr pok rfl (se_var 0 (by kernel_rfl) (by kernel_rfl)) (fun _ => rfl))) (fun _ => rfl) (fun _ => rfl) (fun _ => rfl))
  (sxs_cons (sx_assign (sa_attr pok rfl (se_var 0 (by kernel_rfl) (by kernel_rfl))) (se_bin (o := .add) (se_attr pok rfl (se_var 0 (by kernel_rfl) (by kernel_rfl)) (fun _ => rfl)) (se_attr pok rfl (se_var 0 (by kernel_rfl) (by kernel_rfl)) (fun _ => rfl))) (fun _ => rfl) (fun _ => rfl) (fun _ => rfl))
  (sxs_cons (sx_assign (sa_attr pok rfl (se_var 0 (by kernel_rfl) (by kernel_rfl))) (se_bin (o := .add) (se_attr pok rfl (se_var 0 (by kernel_rfl) (by kernel_rfl)) (fun _ => rfl)) (se_attr pok rfl (se_var 0 (by kernel_rfl) (by kernel_rfl)) (fun _ => rfl))) (fun _ => rfl) (fun _ => rfl) (fun _ => rfl))
  (sxs_cons (sx_for (b := b_hand_down_1) (si_tup (fun _ _ => rfl) (se_tup (sl_cons (se_attr pok rfl (se_var 0 (by kernel_rfl) (by kernel_rfl)) (fun _ => rfl)) (sl_cons (se_attr pok rfl (se_var 0 (by kernel_rfl) (by kernel_rfl)) (fun _ => rfl)) sl_nil (fun _ => rfl)) (fun _ => rfl)))) (sa_name 1 (by decide +kernel) (by kernel_rfl) (by kernel_rfl)) (sxs_cons (sx_if (st_cm cIsNot_ok rfl (se_var 1 (by kernel_rfl) (by kernel_rfl)) se_none) (sxs_cons (sx_assign (sa_attr pok rfl (se_var 1 (by kernel_rfl) (by kernel_rfl))) (se_bin (o := .add) (se_attr pok rfl (se_var 1 (by kernel_rfl) (by kernel_rfl)) (fun _ => rfl)) (se_attr pok rfl (se_var 0 (by kernel_rfl) (by kernel_rfl)) (fun _ => rfl))) (fun _ => rfl) (fun _ => rfl) (fun _ => rfl))
  sxs_nil) sxs_nil)
  sxs_nil) (fun _ _ => rfl))
  (sxs_cons (sx_assign (sa_attr pok rfl (se_var 0 (by kernel_rfl) (by kernel_rfl))) se_int (fun _ => rfl) (fun _ => rfl) (fun _ => rfl))
  sxs_nil))))))
  rfl rfl rfl (by decide)

noncomputable def n_hand_down_to : List Str := [(Str.ofString "node"), (Str.ofString "path"), (Str.ofString "here")]
noncomputable def b_hand_down_to_1 : DS :=
  (dsSeq (dsExpr (dCall g_hand_down (dCons (dVar 2) dNil)))
  dsNil)
noncomputable def t_hand_down_to_2 : DE := (dCm cIsNot (dVar 0) dNone)
noncomputable def b_hand_down_to_2 : DS :=
  (dsSeq (dsExpr (dApp (dVar 1) (dVar 0)))
  (dsSeq (dsAssign (daName 0) (dAttr .parent (dVar 0)))
  dsNil))
noncomputable def s_hand_down_to : DS :=
  (dsSeq (dsAssign (daName 1) (dList dNil))
  (dsSeq (dsWhile t_hand_down_to_2 b_hand_down_to_2)
  (dsSeq (dsFor (diList (dRev (dVar 1))) (daName 2) b_hand_down_to_1)
  dsNil)))
noncomputable def g_hand_down_to : List V → St → Option (V × St) := dFun 1 3 s_hand_down_to
theorem sf_hand_down_to {prog : Program} {w : World} {p : Program} {loose : List Str} {mean : ExcName → Option Value} {mg mb : Str → Option Value} : SF (PG prog w p loose mean mg mb) 2 (.ref 70) g_hand_down_to :=
  sf_def (P := PG prog w p loose mean mg mb) (dp := 1) (names := n_hand_down_to) (ps := [(Str.ofString "node")]) (d := s_hand_down_to) (ho := rfl) (by kernel_rfl) (fun vals h => by
    obtain ⟨v0, rfl⟩ := len_1 h
    rfl) (hps_app (rest := [(Str.ofString "path"), (Str.ofString "here")]) rfl) (by decide +kernel) (loc_of (by kernel_rfl)) rfl
  (sxs_cons (sx_assign (sa_name 1 (by decide +kernel) (by kernel_rfl) (by kernel_rfl)) (se_list sl_nil) (fun _ => rfl) (fun _ => rfl) (fun _ => rfl))
  (sxs_cons (sx_while (c := t_hand_down_to_2) (a := b_hand_down_to_2) (st_cm cIsNot_ok rfl (se_var 0 (by kernel_rfl) (by kernel_rfl)) se_none) (sxs_cons (sx_expr (se_app (se_var 1 (by kernel_rfl) (by kernel_rfl)) (se_var 0 (by kernel_rfl) (by kernel_rfl)) (fun _ => ⟨_, rfl⟩) (fun _ => rfl)) (fun _ => rfl))
  (sxs_cons (sx_assign (sa_name 0 (by decide +kernel) (by kernel_rfl) (by kernel_rfl)) (se_attr pok rfl (se_var 0 (by kernel_rfl) (by kernel_rfl)) (fun _ => rfl)) (fun _ => rfl) (fun _ => rfl) (fun _ => rfl))
  sxs_nil)))
  (sxs_cons (sx_for (b := b_hand_down_to_1) (si_list (fun _ _ => rfl) (se_rev (se_var 1 (by kernel_rfl) (by kernel_rfl)) (fun _ _ => rfl))) (sa_name 2 (by decide +kernel) (by kernel_rfl) (by kernel_rfl)) (sxs_cons (sx_expr (se_call no_hand_down kp_hand_down sf_hand_down (by decide) (by kernel_rfl) (by kernel_rfl) (sl_cons (se_var 2 (by kernel_rfl) (by kernel_rfl)) sl_nil (fun _ => rfl)) (fun _ => rfl) (fun _ _ => rfl) (fun _ => rfl)) (fun _ => rfl))
  sxs_nil) (fun _ _ => rfl))
  sxs_nil)))
  rfl rfl rfl (by decide)

noncomputable def n_greatest_end : List Str := [(Str.ofString "node"), (Str.ofString "found"), (Str.ofString "son")]
noncomputable def b_greatest_end_1 : DS :=
  (dsSeq (dsIf (dCm cIsNot (dVar 2) dNone)
  (dsSeq (dsAssign (daName 1) (dCall gMax (dCons (dVar 1) (dCons (dBin .add (dAttr .limit (dVar 2)) (dAttr .offset (dVar 2))) dNil))))
  dsNil)
  dsNil)
  dsNil)
noncomputable def s_greatest_end : DS :=
  (dsSeq (dsAssign (daName 1) (dAttr .end_ (dVar 0)))
  (dsSeq (dsFor (diTup (dTup (dCons (dAttr .left (dVar 0)) (dCons (dAttr .right (dVar 0)) dNil)))) (daName 2) b_greatest_end_1)
  (dsSeq (dsRet (dVar 1))
  dsNil)))
noncomputable def g_greatest_end : List V → St → Option (V × St) := dFun 1 3 s_greatest_end
theorem sf_greatest_end {prog : Program} {w : World} {p : Program} {loose : List Str} {mean : ExcName → Option Value} {mg mb : Str → Option Value} : SF (PG prog w p loose mean mg mb) 1 (.ref 77) g_greatest_end :=
  sf_def (P := PG prog w p loose mean mg mb) (dp := 0) (names := n_greatest_end) (ps := [(Str.ofString "node")]) (d := s_greatest_end) (ho := rfl) (by kernel_rfl) (fun vals h => by
    obtain ⟨v0, rfl⟩ := len_1 h
    rfl) (hps_app (rest := [(Str.ofString "found"), (Str.ofString "son")]) rfl) (by decide +kernel) (loc_of (by kernel_rfl)) rfl
  (sxs_cons (sx_assign (sa_name 1 (by decide +kernel) (by kernel_rfl) (by kernel_rfl)) (se_attr pok rfl (se_var 0 (by kernel_rfl) (by kernel_rfl)) (fun _ => rfl)) (fun _ => rfl) (fun _ => rfl) (fun _ => rfl))
  (sxs_cons (sx_for (b := b_greatest_end_1) (si_tup (fun _ _ => rfl) (se_tup (sl_cons (se_attr pok rfl (se_var 0 (by kernel_rfl) (by kernel_rfl)) (fun _ => rfl)) (sl_cons (se_attr pok rfl (se_var 0 (by kernel_rfl) (by kernel_rfl)) (fun _ => rfl)) sl_nil (fun _ => rfl)) (fun _ => rfl)))) (sa_name 2 (by decide +kernel) (by kernel_rfl) (by kernel_rfl)) (sxs_cons (sx_if (st_cm cIsNot_ok rfl (se_var 2 (by kernel_rfl) (by kernel_rfl)) se_none) (sxs_cons (sx_assign (sa_name 1 (by decide +kernel) (by kernel_rfl) (by kernel_rfl)) (se_call no_max kp_max (sf_max (dp := 0)) (by decide) (by kernel_rfl) (by kernel_rfl) (sl_cons (se_var 1 (by kernel_rfl) (by kernel_rfl)) (sl_cons (se_bin (o := .add) (se_attr pok rfl (se_var 2 (by kernel_rfl) (by kernel_rfl)) (fun _ => rfl)) (se_attr pok rfl (se_var 2 (by kernel_rfl) (by kernel_rfl)) (fun _ => rfl))) sl_nil (fun _ => rfl)) (fun _ => rfl)) (fun _ => rfl) (fun _ _ => rfl) (fun _ => rfl)) (fun _ => rfl) (fun _ => rfl) (fun _ => rfl))
  sxs_nil) sxs_nil)
  sxs_nil) (fun _ _ => rfl))
  (sxs_cons (sx_ret (se_var 1 (by kernel_rfl) (by kernel_rfl)))
  sxs_nil)))
  rfl rfl rfl (by decide)

noncomputable def n_renew_limits : List Str := [(Str.ofString "node"), (Str.ofString "limit")]
noncomputable def t_renew_limits_1 : DE := (dCm cIsNot (dVar 0) dNone)
noncomputable def b_renew_limits_1 : DS :=
  (dsSeq (dsAssign (daName 1) (dCall g_greatest_end (dCons (dVar 0) dNil)))
  (dsSeq (dsIf (dCm (cInt .eq) (dVar 1) (dAttr .limit (dVar 0)))
  (dsSeq dsRetN
  dsNil)
  dsNil)
  (dsSeq (dsAssign (daAttr (dVar 0) .limit) (dVar 1))
  (dsSeq (dsAssign (daName 0) (dAttr .parent (dVar 0)))
  dsNil))))
noncomputable def s_renew_limits : DS :=
  (dsSeq (dsWhile t_renew_limits_1 b_renew_limits_1)
  dsNil)
noncomputable def g_renew_limits : List V → St → Option (V × St) := dFun 1 2 s_renew_limits
theorem sf_renew_limits {prog : Program} {w : World} {p : Program} {loose : List Str} {mean : ExcName → Option Value} {mg mb : Str → Option Value} : SF (PG prog w p loose mean mg mb) 2 (.ref 84) g_renew_limits :=
  sf_def (P := PG prog w p loose mean mg mb) (dp := 1) (names := n_renew_limits) (ps := [(Str.ofString "node")]) (d := s_renew_limits) (ho := rfl) (by kernel_rfl) (fun vals h => by
    obtain ⟨v0, rfl⟩ := len_1 h
    rfl) (hps_app (rest := [(Str.ofString "limit")]) rfl) (by decide +kernel) (loc_of (by kernel_rfl)) rfl
  (sxs_cons (sx_while (c := t_renew_limits_1) (a := b_renew_limits_1) (st_cm cIsNot_ok rfl (se_var 0 (by kernel_rfl) (by kernel_rfl)) se_none) (sxs_cons (sx_assign (sa_name 1 (by decide +kernel) (by kernel_rfl) (by kernel_rfl)) (se_call no_greatest_end kp_greatest_end sf_greatest_end (by decide) (by kernel_rfl) (by kernel_rfl) (sl_cons (se_var 0 (by kernel_rfl) (by kernel_rfl)) sl_nil (fun _ => rfl)) (fun _ => rfl) (fun _ _ => rfl) (fun _ => rfl)) (fun _ => rfl) (fun _ => rfl) (fun _ => rfl))
  (sxs_cons (sx_if (st_cm (cInt_ok .eq) rfl (se_var 1 (by kernel_rfl) (by kernel_rfl)) (se_attr pok rfl (se_var 0 (by kernel_rfl) (by kernel_rfl)) (fun _ => rfl))) (sxs_cons sx_retn
  sxs_nil) sxs_nil)
  (sxs_cons (sx_assign (sa_attr pok rfl (se_var 0 (by kernel_rfl) (by kernel_rfl))) (se_var 1 (by kernel_rfl) (by kernel_rfl)) (fun _ => rfl) (fun _ => rfl) (fun _ => rfl))
  (sxs_cons (sx_assign (sa_name 0 (by decide +kernel) (by kernel_rfl) (by kernel_rfl)) (se_attr pok rfl (se_var 0 (by kernel_rfl) (by kernel_rfl)) (fun _ => rfl)) (fun _ => rfl) (fun _ => rfl) (fun _ => rfl))
  sxs_nil)))))
  sxs_nil)
  rfl rfl rfl (by decide)

noncomputable def n_hang : List Str := [(Str.ofString "tree"), (Str.ofString "parent"), (Str.ofString "node"), (Str.ofString "other")]
noncomputable def s_hang : DS :=
  (dsSeq (dsIf (dCm cIs (dVar 1) dNone)
  (dsSeq (dsAssign (daAttr (dVar 0) .root) (dVar 3))
  dsNil)
  (dsSeq (dsIf (dCm cIs (dAttr .left (dVar 1)) (dVar 2))
  (dsSeq (dsAssign (daAttr (dVar 1) .left) (dVar 3))
  dsNil)
  (dsSeq (dsAssign (daAttr (dVar 1) .right) (dVar 3))
  dsNil))
  dsNil))
  (dsSeq (dsIf (dCm cIsNot (dVar 3) dNone)
  (dsSeq (dsAssign (daAttr (dVar 3) .parent) (dVar 1))
  dsNil)
  dsNil)
  dsNil))
noncomputable def g_hang : List V → St → Option (V × St) := dFun 4 4 s_hang
theorem sf_hang {prog : Program} {w : World} {p : Program} {loose : List Str} {mean : ExcName → Option Value} {mg mb : Str → Option Value} : SF (PG prog w p loose mean mg mb) 1 (.ref 91) g_hang :=
  sf_def (P := PG prog w p loose mean mg mb) (dp := 0) (names := n_hang) (ps := [(Str.ofString "tree"), (Str.ofString "parent"), (Str.ofString "node"), (Str.ofString "other")]) (d := s_hang) (ho := rfl) (by kernel_rfl) (fun vals h => by
    obtain ⟨v0, v1, v2, v3, rfl⟩ := len_4 h
    rfl) (hps_app (rest := []) rfl) (by decide +kernel) (loc_of (by kernel_rfl)) rfl
  (sxs_cons (sx_if (st_cm cIs_ok rfl (se_var 1 (by kernel_rfl) (by kernel_rfl)) se_none) (sxs_cons (sx_assign (sa_attr pok rfl (se_var 0 (by kernel_rfl) (by kernel_rfl))) (se_var 3 (by kernel_rfl) (by kernel_rfl)) (fun _ => rfl) (fun _ => rfl) (fun _ => rfl))
  sxs_nil) (sxs_cons (sx_if (st_cm cIs_ok rfl (se_attr pok rfl (se_var 1 (by kernel_rfl) (by kernel_rfl)) (fun _ => rfl)) (se_var 2 (by kernel_rfl) (by kernel_rfl))) (sxs_cons (sx_assign (sa_attr pok rfl (se_var 1 (by kernel_rfl) (by kernel_rfl))) (se_var 3 (by kernel_rfl) (by kernel_rfl)) (fun _ => rfl) (fun _ => rfl) (fun _ => rfl))
  sxs_nil) (sxs_cons (sx_assign (sa_attr pok rfl (se_var 1 (by kernel_rfl) (by kernel_rfl))) (se_var 3 (by kernel_rfl) (by kernel_rfl)) (fun _ => rfl) (fun _ => rfl) (fun _ => rfl))
  sxs_nil))
  sxs_nil))
  (sxs_cons (sx_if (st_cm cIsNot_ok rfl (se_var 3 (by kernel_rfl) (by kernel_rfl)) se_none) (sxs_cons (sx_assign (sa_attr pok rfl (se_var 3 (by kernel_rfl) (by kernel_rfl))) (se_var 1 (by kernel_rfl) (by kernel_rfl)) (fun _ => rfl) (fun _ => rfl) (fun _ => rfl))
  sxs_nil) sxs_nil)
  sxs_nil))
  rfl rfl rfl (by decide)
noncomputable def n_turn_left : List Str := [(Str.ofString "tree"), (Str.ofString "node"), (Str.ofString "son")]
noncomputable def s_turn_left : DS :=
  (dsSeq (dsAssign (daName 2) (dAttr .right (dVar 1)))
  (dsSeq (dsExpr (dCall g_hand_down (dCons (dVar 1) dNil)))
  (dsSeq (dsExpr (dCall g_hand_down (dCons (dVar 2) dNil)))
  (dsSeq (dsAssign (daAttr (dVar 1) .right) (dAttr .left (dVar 2)))
  (dsSeq (dsIf (dCm cIsNot (dAttr .left (dVar 2)) dNone)
  (dsSeq (dsAssign (daAttr (dAttr .left (dVar 2)) .parent) (dVar 1))
  dsNil)
  dsNil)
  (dsSeq (dsExpr (dCall g_hang (dCons (dVar 0) (dCons (dAttr .parent (dVar 1)) (dCons (dVar 1) (dCons (dVar 2) dNil))))))
  (dsSeq (dsAssign (daAttr (dVar 2) .left) (dVar 1))
  (dsSeq (dsAssign (daAttr (dVar 1) .parent) (dVar 2))
  (dsSeq (dsAssign (daAttr (dVar 1) .limit) (dCall g_greatest_end (dCons (dVar 1) dNil)))
  (dsSeq (dsAssign (daAttr (dVar 2) .limit) (dCall g_greatest_end (dCons (dVar 2) dNil)))
  dsNil))))))))))
noncomputable def g_turn_left : List V → St → Option (V × St) := dFun 2 3 s_turn_left
theorem sf_turn_left {prog : Program} {w : World} {p : Program} {loose : List Str} {mean : ExcName → Option Value} {mg mb : Str → Option Value} : SF (PG prog w p loose mean mg mb) 2 (.ref 98) g_turn_left :=
  sf_def (P := PG prog w p loose mean mg mb) (dp := 1) (names := n_turn_left) (ps := [(Str.ofString "tree"), (Str.ofString "node")]) (d := s_turn_left) (ho := rfl) (by kernel_rfl) (fun vals h => by
    obtain ⟨v0, v1, rfl⟩ := len_2 h
    rfl) (hps_app (rest := [(Str.ofString "son")]) rfl) (by decide +kernel) (loc_of (by kernel_rfl)) rfl
  (sxs_cons (sx_assign (sa_name 2 (by decide +kernel) (by kernel_rfl) (by kernel_rfl)) (se_attr pok rfl (se_var 1 (by kernel_rfl) (by kernel_rfl)) (fun _ => rfl)) (fun _ => rfl) (fun _ => rfl) (fun _ => rfl))
  (sxs_cons (sx_expr (se_call no_hand_down kp_hand_down sf_hand_down (by decide) (by kernel_rfl) (by kernel_rfl) (sl_cons (se_var 1 (by kernel_rfl) (by kernel_rfl)) sl_nil (fun _ => rfl)) (fun _ => rfl) (fun _ _ => rfl) (fun _ => rfl)) (fun _ => rfl))
  (sxs_cons (sx_expr (se_call no_hand_down kp_hand_down sf_hand_down (by decide) (by kernel_rfl) (by kernel_rfl) (sl_cons (se_var 2 (by kernel_rfl) (by kernel_rfl)) sl_nil (fun _ => rfl)) (fun _ => rfl) (fun _ _ => rfl) (fun _ => rfl)) (fun _ => rfl))
  (sxs_cons (sx_assign (sa_attr pok rfl (se_var 1 (by kernel_rfl) (by kernel_rfl))) (se_attr pok rfl (se_var 2 (by kernel_rfl) (by kernel_rfl)) (fun _ => rfl)) (fun _ => rfl) (fun _ => rfl) (fun _ => rfl))
  (sxs_cons (sx_if (st_cm cIsNot_ok rfl (se_attr pok rfl (se_var 2 (by kernel_rfl) (by kernel_rfl)) (fun _ => rfl)) se_none) (sxs_cons (sx_assign (sa_attr pok rfl (se_attr pok rfl (se_var 2 (by kernel_rfl) (by kernel_rfl)) (fun _ => rfl))) (se_var 1 (by kernel_rfl) (by kernel_rfl)) (fun _ => rfl) (fun _ => rfl) (fun _ => rfl))
  sxs_nil) sxs_nil)
  (sxs_cons (sx_expr (se_call no_hang kp_hang sf_hang (by decide) (by kernel_rfl) (by kernel_rfl) (sl_cons (se_var 0 (by kernel_rfl) (by kernel_rfl)) (sl_cons (se_attr pok rfl (se_var 1 (by kernel_rfl) (by kernel_rfl)) (fun _ => rfl)) (sl_cons (se_var 1 (by kernel_rfl) (by kernel_rfl)) (sl_cons (se_var 2 (by kernel_rfl) (by kernel_rfl)) sl_nil (fun _ => rfl)) (fun _ => rfl)) (fun _ => rfl)) (fun _ => rfl)) (fun _ => rfl) (fun _ _ => rfl) (fun _ => rfl)) (fun _ => rfl))
  (sxs_cons (sx_assign (sa_attr pok rfl (se_var 2 (by kernel_rfl) (by kernel_rfl))) (se_var 1 (by kernel_rfl) (by kernel_rfl)) (fun _ => rfl) (fun _ => rfl) (fun _ => rfl))
  (sxs_cons (sx_assign (sa_attr pok rfl (se_var 1 (by kernel_rfl) (by kernel_rfl))) (se_var 2 (by kernel_rfl) (by kernel_rfl)) (fun _ => rfl) (fun _ => rfl) (fun _ => rfl))
  (sxs_cons (sx_assign (sa_attr pok rfl (se_var 1 (by kernel_rfl) (by kernel_rfl))) (se_call no_greatest_end kp_greatest_end sf_greatest_end (by decide) (by kernel_rfl) (by kernel_rfl) (sl_cons (se_var 1 (by kernel_rfl) (by kernel_rfl)) sl_nil (fun _ => rfl)) (fun _ => rfl) (fun _ _ => rfl) (fun _ => rfl)) (fun _ => rfl) (fun _ => rfl) (fun _ => rfl))
  (sxs_cons (sx_assign (sa_attr pok rfl (se_var 2 (by kernel_rfl) (by kernel_rfl))) (se_call no_greatest_end kp_greatest_end sf_greatest_end (by decide) (by kernel_rfl) (by kernel_rfl) (sl_cons (se_var 2 (by kernel_rfl) (by kernel_rfl)) sl_nil (fun _ => rfl)) (fun _ => rfl) (fun _ _ => rfl) (fun _ => rfl)) (fun _ => rfl) (fun _ => rfl) (fun _ => rfl))
  sxs_nil))))))))))
  rfl rfl rfl (by decide)

noncomputable def n_turn_right : List Str := [(Str.ofString "tree"), (Str.ofString "node"), (Str.ofString "son")]
noncomputable def s_turn_right : DS :=
  (dsSeq (dsAssign (daName 2) (dAttr .left (dVar 1)))
  (dsSeq (dsExpr (dCall g_hand_down (dCons (dVar 1) dNil)))
  (dsSeq (dsExpr (dCall g_hand_down (dCons (dVar 2) dNil)))
  (dsSeq (dsAssign (daAttr (dVar 1) .left) (dAttr .right (dVar 2)))
  (dsSeq (dsIf (dCm cIsNot (dAttr .right (dVar 2)) dNone)
  (dsSeq (dsAssign (daAttr (dAttr .right (dVar 2)) .parent) (dVar 1))
  dsNil)
  dsNil)
  (dsSeq (dsExpr (dCall g_hang (dCons (dVar 0) (dCons (dAttr .parent (dVar 1)) (dCons (dVar 1) (dCons (dVar 2) dNil))))))
  (dsSeq (dsAssign (daAttr (dVar 2) .right) (dVar 1))
  (dsSeq (dsAssign (daAttr (dVar 1) .parent) (dVar 2))
  (dsSeq (dsAssign (daAttr (dVar 1) .limit) (dCall g_greatest_end (dCons (dVar 1) dNil)))
  (dsSeq (dsAssign (daAttr (dVar 2) .limit) (dCall g_greatest_end (dCons (dVar 2) dNil)))
  dsNil))))))))))
noncomputable def g_turn_right : List V → St → Option (V × St) := dFun 2 3 s_turn_right
theorem sf_turn_right {prog : Program} {w : World} {p : Program} {loose : List Str} {mean : ExcName → Option Value} {mg mb : Str → Option Value} : SF (PG prog w p loose mean mg mb) 2 (.ref 105) g_turn_right :=
  sf_def (P := PG prog w p loose mean mg mb) (dp := 1) (names := n_turn_right) (ps := [(Str.ofString "tree"), (Str.ofString "node")]) (d := s_turn_right) (ho := rfl) (by kernel_rfl) (fun vals h => by
    obtain ⟨v0, v1, rfl⟩ := len_2 h
    rfl) (hps_app (rest := [(Str.ofString "son")]) rfl) (by decide +kernel) (loc_of (by kernel_rfl)) rfl
  (sxs_cons (sx_assign (sa_name 2 (by decide +kernel) (by kernel_rfl) (by kernel_rfl)) (se_attr pok rfl (se_var 1 (by kernel_rfl) (by kernel_rfl)) (fun _ => rfl)) (fun _ => rfl) (fun _ => rfl) (fun _ => rfl))
  (sxs_cons (sx_expr (se_call no_hand_down kp_hand_down sf_hand_down (by decide) (by kernel_rfl) (by kernel_rfl) (sl_cons (se_var 1 (by kernel_rfl) (by kernel_rfl)) sl_nil (fun _ => rfl)) (fun _ => rfl) (fun _ _ => rfl) (fun _ => rfl)) (fun _ => rfl))
  (sxs_cons (sx_expr (se_call no_hand_down kp_hand_down sf_hand_down (by decide) (by kernel_rfl) (by kernel_rfl) (sl_cons (se_var 2 (by kernel_rfl) (by kernel_rfl)) sl_nil (fun _ => rfl)) (fun _ => rfl) (fun _ _ => rfl) (fun _ => rfl)) (fun _ => rfl))
  (sxs_cons (sx_assign (sa_attr pok rfl (se_var 1 (by kernel_rfl) (by kernel_rfl))) (se_attr pok rfl (se_var 2 (by kernel_rfl) (by kernel_rfl)) (fun _ => rfl)) (fun _ => rfl) (fun _ => rfl) (fun _ => rfl))
  (sxs_cons (sx_if (st_cm cIsNot_ok rfl (se_attr pok rfl (se_var 2 (by kernel_rfl) (by kernel_rfl)) (fun _ => rfl)) se_none) (sxs_cons (sx_assign (sa_attr pok rfl (se_attr pok rfl (se_var 2 (by kernel_rfl) (by kernel_rfl)) (fun _ => rfl))) (se_var 1 (by kernel_rfl) (by kernel_rfl)) (fun _ => rfl) (fun _ => rfl) (fun _ => rfl))
  sxs_nil) sxs_nil)
  (sxs_cons (sx_expr (se_call no_hang kp_hang sf_hang (by decide) (by kernel_rfl) (by kernel_rfl) (sl_cons (se_var 0 (by kernel_rfl) (by kernel_rfl)) (sl_cons (se_attr pok rfl (se_var 1 (by kernel_rfl) (by kernel_rfl)) (fun _ => rfl)) (sl_cons (se_var 1 (by kernel_rfl) (by kernel_rfl)) (sl_cons (se_var 2 (by kernel_rfl) (by kernel_rfl)) sl_nil (fun _ => rfl)) (fun _ => rfl)) (fun _ => rfl)) (fun _ => rfl)) (fun _ => rfl) (fun _ _ => rfl) (fun _ => rfl)) (fun _ => rfl))
  (sxs_cons (sx_assign (sa_attr pok rfl (se_var 2 (by kernel_rfl) (by kernel_rfl))) (se_var 1 (by kernel_rfl) (by kernel_rfl)) (fun _ => rfl) (fun _ => rfl) (fun _ => rfl))
  (sxs_cons (sx_assign (sa_attr pok rfl (se_var 1 (by kernel_rfl) (by kernel_rfl))) (se_var 2 (by kernel_rfl) (by kernel_rfl)) (fun _ => rfl) (fun _ => rfl) (fun _ => rfl))
  (sxs_cons (sx_assign (sa_attr pok rfl (se_var 1 (by kernel_rfl) (by kernel_rfl))) (se_call no_greatest_end kp_greatest_end sf_greatest_end (by decide) (by kernel_rfl) (by kernel_rfl) (sl_cons (se_var 1 (by kernel_rfl) (by kernel_rfl)) sl_nil (fun _ => rfl)) (fun _ => rfl) (fun _ _ => rfl) (fun _ => rfl)) (fun _ => rfl) (fun _ => rfl) (fun _ => rfl))
  (sxs_cons (sx_assign (sa_attr pok rfl (se_var 2 (by kernel_rfl) (by kernel_rfl))) (se_call no_greatest_end kp_greatest_end sf_greatest_end (by decide) (by kernel_rfl) (by kernel_rfl) (sl_cons (se_var 2 (by kernel_rfl) (by kernel_rfl)) sl_nil (fun _ => rfl)) (fun _ => rfl) (fun _ _ => rfl) (fun _ => rfl)) (fun _ => rfl) (fun _ => rfl) (fun _ => rfl))
  sxs_nil))))))))))
  rfl rfl rfl (by decide)

noncomputable def n_is_red : List Str := [(Str.ofString "node")]
noncomputable def s_is_red : DS :=
  (dsSeq (dsRet (dAnd (dCm cIsNot (dVar 0) dNone) (dAttr .red (dVar 0))))
  dsNil)
noncomputable def g_is_red : List V → St → Option (V × St) := dFun 1 1 s_is_red
theorem sf_is_red {prog : Program} {w : World} {p : Program} {loose : List Str} {mean : ExcName → Option Value} {mg mb : Str → Option Value} : SF (PG prog w p loose mean mg mb) 1 (.ref 112) g_is_red :=
  sf_def (P := PG prog w p loose mean mg mb) (dp := 0) (names := n_is_red) (ps := [(Str.ofString "node")]) (d := s_is_red) (ho := rfl) (by kernel_rfl) (fun vals h => by
    obtain ⟨v0, rfl⟩ := len_1 h
    rfl) (hps_app (rest := []) rfl) (by decide +kernel) (loc_of (by kernel_rfl)) rfl
  (sxs_cons (sx_ret (se_and (se_cm cIsNot_ok rfl (se_var 0 (by kernel_rfl) (by kernel_rfl)) se_none) (se_attr pok rfl (se_var 0 (by kernel_rfl) (by kernel_rfl)) (fun _ => rfl))))
  sxs_nil)
  rfl rfl rfl (by decide)

noncomputable def n_turned_inward : List Str := [(Str.ofString "tree"), (Str.ofString "node"), (Str.ofString "is_left"), (Str.ofString "parent")]
noncomputable def s_turned_inward : DS :=
  (dsSeq (dsAssign (daName 3) (dAttr .parent (dVar 1)))
  (dsSeq (dsIf (dAnd (dVar 2) (dCm cIs (dAttr .right (dVar 3)) (dVar 1)))
  (dsSeq (dsExpr (dCall g_turn_left (dCons (dVar 0) (dCons (dVar 3) dNil))))
  (dsSeq (dsRet (dVar 3))
  dsNil))
  dsNil)
  (dsSeq (dsIf (dAnd (dNot (dVar 2)) (dCm cIs (dAttr .left (dVar 3)) (dVar 1)))
  (dsSeq (dsExpr (dCall g_turn_right (dCons (dVar 0) (dCons (dVar 3) dNil))))
  (dsSeq (dsRet (dVar 3))
  dsNil))
  dsNil)
  (dsSeq (dsRet (dVar 1))
  dsNil))))
noncomputable def g_turned_inward : List V → St → Option (V × St) := dFun 3 4 s_turned_inward
theorem sf_turned_inward {prog : Program} {w : World} {p : Program} {loose : List Str} {mean : ExcName → Option Value} {mg mb : Str → Option Value} : SF (PG prog w p loose mean mg mb) 3 (.ref 126) g_turned_inward :=
  sf_def (P := PG prog w p loose mean mg mb) (dp := 2) (names := n_turned_inward) (ps := [(Str.ofString "tree"), (Str.ofString "node"), (Str.ofString "is_left")]) (d := s_turned_inward) (ho := rfl) (by kernel_rfl) (fun vals h => by
    obtain ⟨v0, v1, v2, rfl⟩ := len_3 h
    rfl) (hps_app (rest := [(Str.ofString "parent")]) rfl) (by decide +kernel) (loc_of (by kernel_rfl)) rfl
  (sxs_cons (sx_assign (sa_name 3 (by decide +kernel) (by kernel_rfl) (by kernel_rfl)) (se_attr pok rfl (se_var 1 (by kernel_rfl) (by kernel_rfl)) (fun _ => rfl)) (fun _ => rfl) (fun _ => rfl) (fun _ => rfl))
  (sxs_cons (sx_if (st_and (st_of_se (se_var 2 (by kernel_rfl) (by kernel_rfl)) (fun _ _ => rfl)) (st_cm cIs_ok rfl (se_attr pok rfl (se_var 3 (by kernel_rfl) (by kernel_rfl)) (fun _ => rfl)) (se_var 1 (by kernel_rfl) (by kernel_rfl)))) (sxs_cons (sx_expr (se_call no_turn_left kp_turn_left sf_turn_left (by decide) (by kernel_rfl) (by kernel_rfl) (sl_cons (se_var 0 (by kernel_rfl) (by kernel_rfl)) (sl_cons (se_var 3 (by kernel_rfl) (by kernel_rfl)) sl_nil (fun _ => rfl)) (fun _ => rfl)) (fun _ => rfl) (fun _ _ => rfl) (fun _ => rfl)) (fun _ => rfl))
  (sxs_cons (sx_ret (se_var 3 (by kernel_rfl) (by kernel_rfl)))
  sxs_nil)) sxs_nil)
  (sxs_cons (sx_if (st_and (st_not (st_of_se (se_var 2 (by kernel_rfl) (by kernel_rfl)) (fun _ _ => rfl))) (st_cm cIs_ok rfl (se_attr pok rfl (se_var 3 (by kernel_rfl) (by kernel_rfl)) (fun _ => rfl)) (se_var 1 (by kernel_rfl) (by kernel_rfl)))) (sxs_cons (sx_expr (se_call no_turn_right kp_turn_right sf_turn_right (by decide) (by kernel_rfl) (by kernel_rfl) (sl_cons (se_var 0 (by kernel_rfl) (by kernel_rfl)) (sl_cons (se_var 3 (by kernel_rfl) (by kernel_rfl)) sl_nil (fun _ => rfl)) (fun _ => rfl)) (fun _ => rfl) (fun _ _ => rfl) (fun _ => rfl)) (fun _ => rfl))
  (sxs_cons (sx_ret (se_var 3 (by kernel_rfl) (by kernel_rfl)))
  sxs_nil)) sxs_nil)
  (sxs_cons (sx_ret (se_var 1 (by kernel_rfl) (by kernel_rfl)))
  sxs_nil))))
  rfl rfl rfl (by decide)

noncomputable def n_colour_inserted : List Str := [(Str.ofString "tree"), (Str.ofString "node"), (Str.ofString "parent"), (Str.ofString "above"), (Str.ofString "is_left"), (Str.ofString "uncle")]
noncomputable def t_colour_inserted_1 : DE := (dCall g_is_red (dCons (dAttr .parent (dVar 1)) dNil))
noncomputable def b_colour_inserted_1 : DS :=
  (dsSeq (dsAssign (daName 2) (dAttr .parent (dVar 1)))
  (dsSeq (dsAssign (daName 3) (dAttr .parent (dVar 2)))
  (dsSeq (dsAssign (daName 4) (dCm cIs (dAttr .left (dVar 3)) (dVar 2)))
  (dsSeq (dsAssign (daName 5) (dIte (dVar 4) (dAttr .right (dVar 3)) (dAttr .left (dVar 3))))
  (dsSeq (dsIf (dCall g_is_red (dCons (dVar 5) dNil))
  (dsSeq (dsAssign (daAttr (dVar 2) .red) (dBool false))
  (dsSeq (dsAssign (daAttr (dVar 5) .red) (dBool false))
  (dsSeq (dsAssign (daAttr (dVar 3) .red) (dBool true))
  (dsSeq (dsAssign (daName 1) (dVar 3))
  dsNil))))
  (dsSeq (dsAssign (daName 1) (dCall g_turned_inward (dCons (dVar 0) (dCons (dVar 1) (dCons (dVar 4) dNil)))))
  (dsSeq (dsAssign (daAttr (dAttr .parent (dVar 1)) .red) (dBool false))
  (dsSeq (dsAssign (daAttr (dVar 3) .red) (dBool true))
  (dsSeq (dsIf (dVar 4)
  (dsSeq (dsExpr (dCall g_turn_right (dCons (dVar 0) (dCons (dVar 3) dNil))))
  dsNil)
  (dsSeq (dsExpr (dCall g_turn_left (dCons (dVar 0) (dCons (dVar 3) dNil))))
  dsNil))
  dsNil)))))
  dsNil)))))
noncomputable def s_colour_inserted : DS :=
  (dsSeq (dsWhile t_colour_inserted_1 b_colour_inserted_1)
  (dsSeq (dsAssign (daAttr (dAttr .root (dVar 0)) .red) (dBool false))
  dsNil))
noncomputable def g_colour_inserted : List V → St → Option (V × St) := dFun 2 6 s_colour_inserted
theorem sf_colour_inserted {prog : Program} {w : World} {p : Program} {loose : List Str} {mean : ExcName → Option Value} {mg mb : Str → Option Value} : SF (PG prog w p loose mean mg mb) 4 (.ref 119) g_colour_inserted :=
  sf_def (P := PG prog w p loose mean mg mb) (dp := 3) (names := n_colour_inserted) (ps := [(Str.ofString "tree"), (Str.ofString "node")]) (d := s_colour_inserted) (ho := rfl) (by kernel_rfl) (fun vals h => by
    obtain ⟨v0, v1, rfl⟩ := len_2 h
    rfl) (hps_app (rest := [(Str.ofString "parent"), (Str.ofString "above"), (Str.ofString "is_left"), (Str.ofString "uncle")]) rfl) (by decide +kernel) (loc_of (by kernel_rfl)) rfl
  (sxs_cons (sx_while (c := t_colour_inserted_1) (a := b_colour_inserted_1) (st_of_se (se_call no_is_red kp_is_red sf_is_red (by decide) (by kernel_rfl) (by kernel_rfl) (sl_cons (se_attr pok rfl (se_var 1 (by kernel_rfl) (by kernel_rfl)) (fun _ => rfl)) sl_nil (fun _ => rfl)) (fun _ => rfl) (fun _ _ => rfl) (fun _ => rfl)) (fun _ _ => rfl)) (sxs_cons (sx_assign (sa_name 2 (by decide +kernel) (by kernel_rfl) (by kernel_rfl)) (se_attr pok rfl (se_var 1 (by kernel_rfl) (by kernel_rfl)) (fun _ => rfl)) (fun _ => rfl) (fun _ => rfl) (fun _ => rfl))
  (sxs_cons (sx_assign (sa_name 3 (by decide +kernel) (by kernel_rfl) (by kernel_rfl)) (se_attr pok rfl (se_var 2 (by kernel_rfl) (by kernel_rfl)) (fun _ => rfl)) (fun _ => rfl) (fun _ => rfl) (fun _ => rfl))
  (sxs_cons (sx_assign (sa_name 4 (by decide +kernel) (by kernel_rfl) (by kernel_rfl)) (se_cm cIs_ok rfl (se_attr pok rfl (se_var 3 (by kernel_rfl) (by kernel_rfl)) (fun _ => rfl)) (se_var 2 (by kernel_rfl) (by kernel_rfl))) (fun _ => rfl) (fun _ => rfl) (fun _ => rfl))
  (sxs_cons (sx_assign (sa_name 5 (by decide +kernel) (by kernel_rfl) (by kernel_rfl)) (se_ite (st_of_se (se_var 4 (by kernel_rfl) (by kernel_rfl)) (fun _ _ => rfl)) (se_attr pok rfl (se_var 3 (by kernel_rfl) (by kernel_rfl)) (fun _ => rfl)) (se_attr pok rfl (se_var 3 (by kernel_rfl) (by kernel_rfl)) (fun _ => rfl))) (fun _ => rfl) (fun _ => rfl) (fun _ => rfl))
  (sxs_cons (sx_if (st_of_se (se_call no_is_red kp_is_red sf_is_red (by decide) (by kernel_rfl) (by kernel_rfl) (sl_cons (se_var 5 (by kernel_rfl) (by kernel_rfl)) sl_nil (fun _ => rfl)) (fun _ => rfl) (fun _ _ => rfl) (fun _ => rfl)) (fun _ _ => rfl)) (sxs_cons (sx_assign (sa_attr pok rfl (se_var 2 (by kernel_rfl) (by kernel_rfl))) se_bool (fun _ => rfl) (fun _ => rfl) (fun _ => rfl))
  (sxs_cons (sx_assign (sa_attr pok rfl (se_var 5 (by kernel_rfl) (by kernel_rfl))) se_bool (fun _ => rfl) (fun _ => rfl) (fun _ => rfl))
  (sxs_cons (sx_assign (sa_attr pok rfl (se_var 3 (by kernel_rfl) (by kernel_rfl))) se_bool (fun _ => rfl) (fun _ => rfl) (fun _ => rfl))
  (sxs_cons (sx_assign (sa_name 1 (by decide +kernel) (by kernel_rfl) (by kernel_rfl)) (se_var 3 (by kernel_rfl) (by kernel_rfl)) (fun _ => rfl) (fun _ => rfl) (fun _ => rfl))
  sxs_nil)))) (sxs_cons (sx_assign (sa_name 1 (by decide +kernel) (by kernel_rfl) (by kernel_rfl)) (se_call no_turned_inward kp_turned_inward sf_turned_inward (by decide) (by kernel_rfl) (by kernel_rfl) (sl_cons (se_var 0 (by kernel_rfl) (by kernel_rfl)) (sl_cons (se_var 1 (by kernel_rfl) (by kernel_rfl)) (sl_cons (se_var 4 (by kernel_rfl) (by kernel_rfl)) sl_nil (fun _ => rfl)) (fun _ => rfl)) (fun _ => rfl)) (fun _ => rfl) (fun _ _ => rfl) (fun _ => rfl)) (fun _ => rfl) (fun _ => rfl) (fun _ => rfl))
  (sxs_cons (sx_assign (sa_attr pok rfl (se_attr pok rfl (se_var 1 (by kernel_rfl) (by kernel_rfl)) (fun _ => rfl))) se_bool (fun _ => rfl) (fun _ => rfl) (fun _ => rfl))
  (sxs_cons (sx_assign (sa_attr pok rfl (se_var 3 (by kernel_rfl) (by kernel_rfl))) se_bool (fun _ => rfl) (fun _ => rfl) (fun _ => rfl))
  (sxs_cons (sx_if (st_of_se (se_var 4 (by kernel_rfl) (by kernel_rfl)) (fun _ _ => rfl)) (sxs_cons (sx_expr (se_call no_turn_right kp_turn_right sf_turn_right (by decide) (by kernel_rfl) (by kernel_rfl) (sl_cons (se_var 0 (by kernel_rfl) (by kernel_rfl)) (sl_cons (se_var 3 (by kernel_rfl) (by kernel_rfl)) sl_nil (fun _ => rfl)) (fun _ => rfl)) (fun _ => rfl) (fun _ _ => rfl) (fun _ => rfl)) (fun _ => rfl))
  sxs_nil) (sxs_cons (sx_expr (se_call no_turn_left kp_turn_left sf_turn_left (by decide) (by kernel_rfl) (by kernel_rfl) (sl_cons (se_var 0 (by kernel_rfl) (by kernel_rfl)) (sl_cons (se_var 3 (by kernel_rfl) (by kernel_rfl)) sl_nil (fun _ => rfl)) (fun _ => rfl)) (fun _ => rfl) (fun _ _ => rfl) (fun _ => rfl)) (fun _ => rfl))
  sxs_nil))
  sxs_nil)))))
  sxs_nil))))))
  (sxs_cons (sx_assign (sa_attr pok rfl (se_attr pok rfl (se_var 0 (by kernel_rfl) (by kernel_rfl)) (fun _ => rfl))) se_bool (fun _ => rfl) (fun _ => rfl) (fun _ => rfl))
  sxs_nil))
  rfl rfl rfl (by decide)
noncomputable def n_put_node : List Str := [(Str.ofString "tree"), (Str.ofString "node"), (Str.ofString "here"), (Str.ofString "parent"), (Str.ofString "is_left")]
noncomputable def t_put_node_1 : DE := (dCm cIsNot (dVar 2) dNone)
noncomputable def b_put_node_1 : DS :=
  (dsSeq (dsExpr (dCall g_hand_down (dCons (dVar 2) dNil)))
  (dsSeq (dsAssign (daAttr (dVar 2) .limit) (dCall gMax (dCons (dAttr .limit (dVar 2)) (dCons (dAttr .end_ (dVar 1)) dNil))))
  (dsSeq (dsAssign (daName 3) (dVar 2))
  (dsSeq (dsAssign (daName 4) (dCm (cInt .le) (dAttr .begin_ (dVar 1)) (dAttr .begin_ (dVar 2))))
  (dsSeq (dsAssign (daName 2) (dIte (dVar 4) (dAttr .left (dVar 2)) (dAttr .right (dVar 2))))
  dsNil)))))
noncomputable def s_put_node : DS :=
  (dsSeq (dsAssign (daAttr (dVar 0) .count) (dBin .add (dAttr .count (dVar 0)) (dInt 1)))
  (dsSeq (dsAssign (daAttr (dVar 1) .left) dNone)
  (dsSeq (dsAssign (daAttr (dVar 1) .right) dNone)
  (dsSeq (dsAssign (daAttr (dVar 1) .parent) dNone)
  (dsSeq (dsAssign (daAttr (dVar 1) .offset) (dInt 0))
  (dsSeq (dsAssign (daAttr (dVar 1) .limit) (dAttr .end_ (dVar 1)))
  (dsSeq (dsIf (dCm cIs (dAttr .root (dVar 0)) dNone)
  (dsSeq (dsAssign (daAttr (dVar 1) .red) (dBool false))
  (dsSeq (dsAssign (daAttr (dVar 0) .root) (dVar 1))
  (dsSeq dsRetN
  dsNil)))
  dsNil)
  (dsSeq (dsAssign (daName 2) (dAttr .root (dVar 0)))
  (dsSeq (dsAssign (daName 3) dNone)
  (dsSeq (dsAssign (daName 4) (dBool false))
  (dsSeq (dsWhile t_put_node_1 b_put_node_1)
  (dsSeq (dsAssign (daAttr (dVar 1) .parent) (dVar 3))
  (dsSeq (dsIf (dVar 4)
  (dsSeq (dsAssign (daAttr (dVar 3) .left) (dVar 1))
  dsNil)
  (dsSeq (dsAssign (daAttr (dVar 3) .right) (dVar 1))
  dsNil))
  (dsSeq (dsAssign (daAttr (dVar 1) .red) (dBool true))
  (dsSeq (dsExpr (dCall g_colour_inserted (dCons (dVar 0) (dCons (dVar 1) dNil))))
  dsNil)))))))))))))))
noncomputable def g_put_node : List V → St → Option (V × St) := dFun 2 5 s_put_node
theorem sf_put_node {prog : Program} {w : World} {p : Program} {loose : List Str} {mean : ExcName → Option Value} {mg mb : Str → Option Value} : SF (PG prog w p loose mean mg mb) 5 (.ref 133) g_put_node :=
  sf_def (P := PG prog w p loose mean mg mb) (dp := 4) (names := n_put_node) (ps := [(Str.ofString "tree"), (Str.ofString "node")]) (d := s_put_node) (ho := rfl) (by kernel_rfl) (fun vals h => by
    obtain ⟨v0, v1, rfl⟩ := len_2 h
    rfl) (hps_app (rest := [(Str.ofString "here"), (Str.ofString "parent"), (Str.ofString "is_left")]) rfl) (by decide +kernel) (loc_of (by kernel_rfl)) rfl
  (sxs_cons (sx_assign (sa_attr pok rfl (se_var 0 (by kernel_rfl) (by kernel_rfl))) (se_bin (o := .add) (se_attr pok rfl (se_var 0 (by kernel_rfl) (by kernel_rfl)) (fun _ => rfl)) se_int) (fun _ => rfl) (fun _ => rfl) (fun _ => rfl))
  (sxs_cons (sx_assign (sa_attr pok rfl (se_var 1 (by kernel_rfl) (by kernel_rfl))) se_none (fun _ => rfl) (fun _ => rfl) (fun _ => rfl))
  (sxs_cons (sx_assign (sa_attr pok rfl (se_var 1 (by kernel_rfl) (by kernel_rfl))) se_none (fun _ => rfl) (fun _ => rfl) (fun _ => rfl))
  (sxs_cons (sx_assign (sa_attr pok rfl (se_var 1 (by kernel_rfl) (by kernel_rfl))) se_none (fun _ => rfl) (fun _ => rfl) (fun _ => rfl))
  (sxs_cons (sx_assign (sa_attr pok rfl (se_var 1 (by kernel_rfl) (by kernel_rfl))) se_int (fun _ => rfl) (fun _ => rfl) (fun _ => rfl))
  (sxs_cons (sx_assign (sa_attr pok rfl (se_var 1 (by kernel_rfl) (by kernel_rfl))) (se_attr pok rfl (se_var 1 (by kernel_rfl) (by kernel_rfl)) (fun _ => rfl)) (fun _ => rfl) (fun _ => rfl) (fun _ => rfl))
  (sxs_cons (sx_if (st_cm cIs_ok rfl (se_attr pok rfl (se_var 0 (by kernel_rfl) (by kernel_rfl)) (fun _ => rfl)) se_none) (sxs_cons (sx_assign (sa_attr pok rfl (se_var 1 (by kernel_rfl) (by kernel_rfl))) se_bool (fun _ => rfl) (fun _ => rfl) (fun _ => rfl))
  (sxs_cons (sx_assign (sa_attr pok rfl (se_var 0 (by kernel_rfl) (by kernel_rfl))) (se_var 1 (by kernel_rfl) (by kernel_rfl)) (fun _ => rfl) (fun _ => rfl) (fun _ => rfl))
  (sxs_cons sx_retn
  sxs_nil))) sxs_nil)
  (sxs_cons (sx_assign (sa_name 2 (by decide +kernel) (by kernel_rfl) (by kernel_rfl)) (se_attr pok rfl (se_var 0 (by kernel_rfl) (by kernel_rfl)) (fun _ => rfl)) (fun _ => rfl) (fun _ => rfl) (fun _ => rfl))
  (sxs_cons (sx_assign (sa_name 3 (by decide +kernel) (by kernel_rfl) (by kernel_rfl)) se_none (fun _ => rfl) (fun _ => rfl) (fun _ => rfl))
  (sxs_cons (sx_assign (sa_name 4 (by decide +kernel) (by kernel_rfl) (by kernel_rfl)) se_bool (fun _ => rfl) (fun _ => rfl) (fun _ => rfl))
  (sxs_cons (sx_while (c := t_put_node_1) (a := b_put_node_1) (st_cm cIsNot_ok rfl (se_var 2 (by kernel_rfl) (by kernel_rfl)) se_none) (sxs_cons (sx_expr (se_call no_hand_down kp_hand_down sf_hand_down (by decide) (by kernel_rfl) (by kernel_rfl) (sl_cons (se_var 2 (by kernel_rfl) (by kernel_rfl)) sl_nil (fun _ => rfl)) (fun _ => rfl) (fun _ _ => rfl) (fun _ => rfl)) (fun _ => rfl))
  (sxs_cons (sx_assign (sa_attr pok rfl (se_var 2 (by kernel_rfl) (by kernel_rfl))) (se_call no_max kp_max (sf_max (dp := 0)) (by decide) (by kernel_rfl) (by kernel_rfl) (sl_cons (se_attr pok rfl (se_var 2 (by kernel_rfl) (by kernel_rfl)) (fun _ => rfl)) (sl_cons (se_attr pok rfl (se_var 1 (by kernel_rfl) (by kernel_rfl)) (fun _ => rfl)) sl_nil (fun _ => rfl)) (fun _ => rfl)) (fun _ => rfl) (fun _ _ => rfl) (fun _ => rfl)) (fun _ => rfl) (fun _ => rfl) (fun _ => rfl))
  (sxs_cons (sx_assign (sa_name 3 (by decide +kernel) (by kernel_rfl) (by kernel_rfl)) (se_var 2 (by kernel_rfl) (by kernel_rfl)) (fun _ => rfl) (fun _ => rfl) (fun _ => rfl))
  (sxs_cons (sx_assign (sa_name 4 (by decide +kernel) (by kernel_rfl) (by kernel_rfl)) (se_cm (cInt_ok .le) rfl (se_attr pok rfl (se_var 1 (by kernel_rfl) (by kernel_rfl)) (fun _ => rfl)) (se_attr pok rfl (se_var 2 (by kernel_rfl) (by kernel_rfl)) (fun _ => rfl))) (fun _ => rfl) (fun _ => rfl) (fun _ => rfl))
  (sxs_cons (sx_assign (sa_name 2 (by decide +kernel) (by kernel_rfl) (by kernel_rfl)) (se_ite (st_of_se (se_var 4 (by kernel_rfl) (by kernel_rfl)) (fun _ _ => rfl)) (se_attr pok rfl (se_var 2 (by kernel_rfl) (by kernel_rfl)) (fun _ => rfl)) (se_attr pok rfl (se_var 2 (by kernel_rfl) (by kernel_rfl)) (fun _ => rfl))) (fun _ => rfl) (fun _ => rfl) (fun _ => rfl))
  sxs_nil))))))
  (sxs_cons (sx_assign (sa_attr pok rfl (se_var 1 (by kernel_rfl) (by kernel_rfl))) (se_var 3 (by kernel_rfl) (by kernel_rfl)) (fun _ => rfl) (fun _ => rfl) (fun _ => rfl))
  (sxs_cons (sx_if (st_of_se (se_var 4 (by kernel_rfl) (by kernel_rfl)) (fun _ _ => rfl)) (sxs_cons (sx_assign (sa_attr pok rfl (se_var 3 (by kernel_rfl) (by kernel_rfl))) (se_var 1 (by kernel_rfl) (by kernel_rfl)) (fun _ => rfl) (fun _ => rfl) (fun _ => rfl))
  sxs_nil) (sxs_cons (sx_assign (sa_attr pok rfl (se_var 3 (by kernel_rfl) (by kernel_rfl))) (se_var 1 (by kernel_rfl) (by kernel_rfl)) (fun _ => rfl) (fun _ => rfl) (fun _ => rfl))
  sxs_nil))
  (sxs_cons (sx_assign (sa_attr pok rfl (se_var 1 (by kernel_rfl) (by kernel_rfl))) se_bool (fun _ => rfl) (fun _ => rfl) (fun _ => rfl))
  (sxs_cons (sx_expr (se_call no_colour_inserted kp_colour_inserted sf_colour_inserted (by decide) (by kernel_rfl) (by kernel_rfl) (sl_cons (se_var 0 (by kernel_rfl) (by kernel_rfl)) (sl_cons (se_var 1 (by kernel_rfl) (by kernel_rfl)) sl_nil (fun _ => rfl)) (fun _ => rfl)) (fun _ => rfl) (fun _ _ => rfl) (fun _ => rfl)) (fun _ => rfl))
  sxs_nil)))))))))))))))
  rfl rfl rfl (by decide)

noncomputable def n_first_below : List Str := [(Str.ofString "node")]
noncomputable def t_first_below_1 : DE := (dCm cIsNot (dAttr .left (dVar 0)) dNone)
noncomputable def b_first_below_1 : DS :=
  (dsSeq (dsAssign (daName 0) (dAttr .left (dVar 0)))
  (dsSeq (dsExpr (dCall g_hand_down (dCons (dVar 0) dNil)))
  dsNil))
noncomputable def s_first_below : DS :=
  (dsSeq (dsExpr (dCall g_hand_down (dCons (dVar 0) dNil)))
  (dsSeq (dsWhile t_first_below_1 b_first_below_1)
  (dsSeq (dsRet (dVar 0))
  dsNil)))
noncomputable def g_first_below : List V → St → Option (V × St) := dFun 1 1 s_first_below
theorem sf_first_below {prog : Program} {w : World} {p : Program} {loose : List Str} {mean : ExcName → Option Value} {mg mb : Str → Option Value} : SF (PG prog w p loose mean mg mb) 2 (.ref 140) g_first_below :=
  sf_def (P := PG prog w p loose mean mg mb) (dp := 1) (names := n_first_below) (ps := [(Str.ofString "node")]) (d := s_first_below) (ho := rfl) (by kernel_rfl) (fun vals h => by
    obtain ⟨v0, rfl⟩ := len_1 h
    rfl) (hps_app (rest := []) rfl) (by decide +kernel) (loc_of (by kernel_rfl)) rfl
  (sxs_cons (sx_expr (se_call no_hand_down kp_hand_down sf_hand_down (by decide) (by kernel_rfl) (by kernel_rfl) (sl_cons (se_var 0 (by kernel_rfl) (by kernel_rfl)) sl_nil (fun _ => rfl)) (fun _ => rfl) (fun _ _ => rfl) (fun _ => rfl)) (fun _ => rfl))
  (sxs_cons (sx_while (c := t_first_below_1) (a := b_first_below_1) (st_cm cIsNot_ok rfl (se_attr pok rfl (se_var 0 (by kernel_rfl) (by kernel_rfl)) (fun _ => rfl)) se_none) (sxs_cons (sx_assign (sa_name 0 (by decide +kernel) (by kernel_rfl) (by kernel_rfl)) (se_attr pok rfl (se_var 0 (by kernel_rfl) (by kernel_rfl)) (fun _ => rfl)) (fun _ => rfl) (fun _ => rfl) (fun _ => rfl))
  (sxs_cons (sx_expr (se_call no_hand_down kp_hand_down sf_hand_down (by decide) (by kernel_rfl) (by kernel_rfl) (sl_cons (se_var 0 (by kernel_rfl) (by kernel_rfl)) sl_nil (fun _ => rfl)) (fun _ => rfl) (fun _ _ => rfl) (fun _ => rfl)) (fun _ => rfl))
  sxs_nil)))
  (sxs_cons (sx_ret (se_var 0 (by kernel_rfl) (by kernel_rfl)))
  sxs_nil)))
  rfl rfl rfl (by decide)

noncomputable def n_take_place : List Str := [(Str.ofString "tree"), (Str.ofString "node"), (Str.ofString "other"), (Str.ofString "son")]
noncomputable def b_take_place_1 : DS :=
  (dsSeq (dsIf (dCm cIsNot (dVar 3) dNone)
  (dsSeq (dsAssign (daAttr (dVar 3) .parent) (dVar 2))
  dsNil)
  dsNil)
  dsNil)
noncomputable def s_take_place : DS :=
  (dsSeq (dsExpr (dCall g_hang (dCons (dVar 0) (dCons (dAttr .parent (dVar 1)) (dCons (dVar 1) (dCons (dVar 2) dNil))))))
  (dsSeq (dsAssign (daAttr (dVar 2) .left) (dAttr .left (dVar 1)))
  (dsSeq (dsAssign (daAttr (dVar 2) .right) (dAttr .right (dVar 1)))
  (dsSeq (dsAssign (daAttr (dVar 2) .red) (dAttr .red (dVar 1)))
  (dsSeq (dsFor (diTup (dTup (dCons (dAttr .left (dVar 2)) (dCons (dAttr .right (dVar 2)) dNil)))) (daName 3) b_take_place_1)
  (dsSeq (dsAssign (daAttr (dVar 2) .limit) (dCall g_greatest_end (dCons (dVar 2) dNil)))
  dsNil))))))
noncomputable def g_take_place : List V → St → Option (V × St) := dFun 3 4 s_take_place
theorem sf_take_place {prog : Program} {w : World} {p : Program} {loose : List Str} {mean : ExcName → Option Value} {mg mb : Str → Option Value} : SF (PG prog w p loose mean mg mb) 2 (.ref 147) g_take_place :=
  sf_def (P := PG prog w p loose mean mg mb) (dp := 1) (names := n_take_place) (ps := [(Str.ofString "tree"), (Str.ofString "node"), (Str.ofString "other")]) (d := s_take_place) (ho := rfl) (by kernel_rfl) (fun vals h => by
    obtain ⟨v0, v1, v2, rfl⟩ := len_3 h
    rfl) (hps_app (rest := [(Str.ofString "son")]) rfl) (by decide +kernel) (loc_of (by kernel_rfl)) rfl
  (sxs_cons (sx_expr (se_call no_hang kp_hang sf_hang (by decide) (by kernel_rfl) (by kernel_rfl) (sl_cons (se_var 0 (by kernel_rfl) (by kernel_rfl)) (sl_cons (se_attr pok rfl (se_var 1 (by kernel_rfl) (by kernel_rfl)) (fun _ => rfl)) (sl_cons (se_var 1 (by kernel_rfl) (by kernel_rfl)) (sl_cons (se_var 2 (by kernel_rfl) (by kernel_rfl)) sl_nil (fun _ => rfl)) (fun _ => rfl)) (fun _ => rfl)) (fun _ => rfl)) (fun _ => rfl) (fun _ _ => rfl) (fun _ => rfl)) (fun _ => rfl))
  (sxs_cons (sx_assign (sa_attr pok rfl (se_var 2 (by kernel_rfl) (by kernel_rfl))) (se_attr pok rfl (se_var 1 (by kernel_rfl) (by kernel_rfl)) (fun _ => rfl)) (fun _ => rfl) (fun _ => rfl) (fun _ => rfl))
  (sxs_cons (sx_assign (sa_attr pok rfl (se_var 2 (by kernel_rfl) (by kernel_rfl))) (se_attr pok rfl (se_var 1 (by kernel_rfl) (by kernel_rfl)) (fun _ => rfl)) (fun _ => rfl) (fun _ => rfl) (fun _ => rfl))
  (sxs_cons (sx_assign (sa_attr pok rfl (se_var 2 (by kernel_rfl) (by kernel_rfl))) (se_attr pok rfl (se_var 1 (by kernel_rfl) (by kernel_rfl)) (fun _ => rfl)) (fun _ => rfl) (fun _ => rfl) (fun _ => rfl))
  (sxs_cons (sx_for (b := b_take_place_1) (si_tup (fun _ _ => rfl) (se_tup (sl_cons (se_attr pok rfl (se_var 2 (by kernel_rfl) (by kernel_rfl)) (fun _ => rfl)) (sl_cons (se_attr pok rfl (se_var 2 (by kernel_rfl) (by kernel_rfl)) (fun _ => rfl)) sl_nil (fun _ => rfl)) (fun _ => rfl)))) (sa_name 3 (by decide +kernel) (by kernel_rfl) (by kernel_rfl)) (sxs_cons (sx_if (st_cm cIsNot_ok rfl (se_var 3 (by kernel_rfl) (by kernel_rfl)) se_none) (sxs_cons (sx_assign (sa_attr pok rfl (se_var 3 (by kernel_rfl) (by kernel_rfl))) (se_var 2 (by kernel_rfl) (by kernel_rfl)) (fun _ => rfl) (fun _ => rfl) (fun _ => rfl))
  sxs_nil) sxs_nil)
  sxs_nil) (fun _ _ => rfl))
  (sxs_cons (sx_assign (sa_attr pok rfl (se_var 2 (by kernel_rfl) (by kernel_rfl))) (se_call no_greatest_end kp_greatest_end sf_greatest_end (by decide) (by kernel_rfl) (by kernel_rfl) (sl_cons (se_var 2 (by kernel_rfl) (by kernel_rfl)) sl_nil (fun _ => rfl)) (fun _ => rfl) (fun _ _ => rfl) (fun _ => rfl)) (fun _ => rfl) (fun _ => rfl) (fun _ => rfl))
  sxs_nil))))))
  rfl rfl rfl (by decide)

noncomputable def n_sibling_of : List Str := [(Str.ofString "parent"), (Str.ofString "is_left")]
noncomputable def s_sibling_of : DS :=
  (dsSeq (dsRet (dIte (dVar 1) (dAttr .right (dVar 0)) (dAttr .left (dVar 0))))
  dsNil)
noncomputable def g_sibling_of : List V → St → Option (V × St) := dFun 2 2 s_sibling_of
theorem sf_sibling_of {prog : Program} {w : World} {p : Program} {loose : List Str} {mean : ExcName → Option Value} {mg mb : Str → Option Value} : SF (PG prog w p loose mean mg mb) 1 (.ref 168) g_sibling_of :=
  sf_def (P := PG prog w p loose mean mg mb) (dp := 0) (names := n_sibling_of) (ps := [(Str.ofString "parent"), (Str.ofString "is_left")]) (d := s_sibling_of) (ho := rfl) (by kernel_rfl) (fun vals h => by
    obtain ⟨v0, v1, rfl⟩ := len_2 h
    rfl) (hps_app (rest := []) rfl) (by decide +kernel) (loc_of (by kernel_rfl)) rfl
  (sxs_cons (sx_ret (se_ite (st_of_se (se_var 1 (by kernel_rfl) (by kernel_rfl)) (fun _ _ => rfl)) (se_attr pok rfl (se_var 0 (by kernel_rfl) (by kernel_rfl)) (fun _ => rfl)) (se_attr pok rfl (se_var 0 (by kernel_rfl) (by kernel_rfl)) (fun _ => rfl))))
  sxs_nil)
  rfl rfl rfl (by decide)

noncomputable def n_turn_towards : List Str := [(Str.ofString "tree"), (Str.ofString "node"), (Str.ofString "is_left")]
noncomputable def s_turn_towards : DS :=
  (dsSeq (dsIf (dVar 2)
  (dsSeq (dsExpr (dCall g_turn_left (dCons (dVar 0) (dCons (dVar 1) dNil))))
  dsNil)
  (dsSeq (dsExpr (dCall g_turn_right (dCons (dVar 0) (dCons (dVar 1) dNil))))
  dsNil))
  dsNil)
noncomputable def g_turn_towards : List V → St → Option (V × St) := dFun 3 3 s_turn_towards
theorem sf_turn_towards {prog : Program} {w : World} {p : Program} {loose : List Str} {mean : ExcName → Option Value} {mg mb : Str → Option Value} : SF (PG prog w p loose mean mg mb) 3 (.ref 175) g_turn_towards :=
  sf_def (P := PG prog w p loose mean mg mb) (dp := 2) (names := n_turn_towards) (ps := [(Str.ofString "tree"), (Str.ofString "node"), (Str.ofString "is_left")]) (d := s_turn_towards) (ho := rfl) (by kernel_rfl) (fun vals h => by
    obtain ⟨v0, v1, v2, rfl⟩ := len_3 h
    rfl) (hps_app (rest := []) rfl) (by decide +kernel) (loc_of (by kernel_rfl)) rfl
  (sxs_cons (sx_if (st_of_se (se_var 2 (by kernel_rfl) (by kernel_rfl)) (fun _ _ => rfl)) (sxs_cons (sx_expr (se_call no_turn_left kp_turn_left sf_turn_left (by decide) (by kernel_rfl) (by kernel_rfl) (sl_cons (se_var 0 (by kernel_rfl) (by kernel_rfl)) (sl_cons (se_var 1 (by kernel_rfl) (by kernel_rfl)) sl_nil (fun _ => rfl)) (fun _ => rfl)) (fun _ => rfl) (fun _ _ => rfl) (fun _ => rfl)) (fun _ => rfl))
  sxs_nil) (sxs_cons (sx_expr (se_call no_turn_right kp_turn_right sf_turn_right (by decide) (by kernel_rfl) (by kernel_rfl) (sl_cons (se_var 0 (by kernel_rfl) (by kernel_rfl)) (sl_cons (se_var 1 (by kernel_rfl) (by kernel_rfl)) sl_nil (fun _ => rfl)) (fun _ => rfl)) (fun _ => rfl) (fun _ _ => rfl) (fun _ => rfl)) (fun _ => rfl))
  sxs_nil))
  sxs_nil)
  rfl rfl rfl (by decide)

noncomputable def n_lightened : List Str := [(Str.ofString "tree"), (Str.ofString "node"), (Str.ofString "parent"), (Str.ofString "is_left"), (Str.ofString "other"), (Str.ofString "outer"), (Str.ofString "inner")]
noncomputable def r_lightened_2 : DS :=
  (dsSeq (dsAssign (daName 5) (dIte (dVar 3) (dAttr .right (dVar 4)) (dAttr .left (dVar 4))))
  (dsSeq (dsAssign (daName 6) (dIte (dVar 3) (dAttr .left (dVar 4)) (dAttr .right (dVar 4))))
  (dsSeq (dsIf (dAnd (dNot (dCall g_is_red (dCons (dVar 5) dNil))) (dNot (dCall g_is_red (dCons (dVar 6) dNil))))
  (dsSeq (dsAssign (daAttr (dVar 4) .red) (dBool true))
  (dsSeq (dsIf (dOr (dAttr .red (dVar 2)) (dCm cIs (dVar 2) (dAttr .root (dVar 0))))
  (dsSeq (dsAssign (daAttr (dVar 2) .red) (dBool false))
  (dsSeq (dsRet dNone)
  dsNil))
  dsNil)
  (dsSeq (dsRet (dVar 2))
  dsNil)))
  dsNil)
  (dsSeq (dsIf (dNot (dCall g_is_red (dCons (dVar 5) dNil)))
  (dsSeq (dsAssign (daAttr (dVar 6) .red) (dBool false))
  (dsSeq (dsAssign (daAttr (dVar 4) .red) (dBool true))
  (dsSeq (dsExpr (dCall g_turn_towards (dCons (dVar 0) (dCons (dVar 4) (dCons (dNot (dVar 3)) dNil)))))
  (dsSeq (dsAssign (daName 4) (dCall g_sibling_of (dCons (dVar 2) (dCons (dVar 3) dNil))))
  (dsSeq (dsAssign (daName 5) (dIte (dVar 3) (dAttr .right (dVar 4)) (dAttr .left (dVar 4))))
  dsNil)))))
  dsNil)
  (dsSeq (dsAssign (daAttr (dVar 4) .red) (dAttr .red (dVar 2)))
  (dsSeq (dsAssign (daAttr (dVar 2) .red) (dBool false))
  (dsSeq (dsAssign (daAttr (dVar 5) .red) (dBool false))
  (dsSeq (dsExpr (dCall g_turn_towards (dCons (dVar 0) (dCons (dVar 2) (dCons (dVar 3) dNil)))))
  (dsSeq (dsRet dNone)
  dsNil)))))))))
noncomputable def s_lightened : DS :=
  (dsSeq (dsAssign (daName 4) (dCall g_sibling_of (dCons (dVar 2) (dCons (dVar 3) dNil))))
  (dsSeq (dsIf (dCall g_is_red (dCons (dVar 4) dNil))
  (dsSeq (dsAssign (daAttr (dVar 4) .red) (dBool false))
  (dsSeq (dsAssign (daAttr (dVar 2) .red) (dBool true))
  (dsSeq (dsExpr (dCall g_turn_towards (dCons (dVar 0) (dCons (dVar 2) (dCons (dVar 3) dNil)))))
  (dsSeq (dsAssign (daName 4) (dCall g_sibling_of (dCons (dVar 2) (dCons (dVar 3) dNil))))
  dsNil))))
  dsNil)
  r_lightened_2))
noncomputable def g_lightened : List V → St → Option (V × St) := dFun 4 7 s_lightened
theorem sf_lightened {prog : Program} {w : World} {p : Program} {loose : List Str} {mean : ExcName → Option Value} {mg mb : Str → Option Value} : SF (PG prog w p loose mean mg mb) 4 (.ref 182) g_lightened :=
  sf_def (P := PG prog w p loose mean mg mb) (dp := 3) (names := n_lightened) (ps := [(Str.ofString "tree"), (Str.ofString "node"), (Str.ofString "parent"), (Str.ofString "is_left")]) (d := s_lightened) (ho := rfl) (by kernel_rfl) (fun vals h => by
    obtain ⟨v0, v1, v2, v3, rfl⟩ := len_4 h
    rfl) (hps_app (rest := [(Str.ofString "other"), (Str.ofString "outer"), (Str.ofString "inner")]) rfl) (by decide +kernel) (loc_of (by kernel_rfl)) rfl
  (sxs_cons (sx_assign (sa_name 4 (by decide +kernel) (by kernel_rfl) (by kernel_rfl)) (se_call no_sibling_of kp_sibling_of sf_sibling_of (by decide) (by kernel_rfl) (by kernel_rfl) (sl_cons (se_var 2 (by kernel_rfl) (by kernel_rfl)) (sl_cons (se_var 3 (by kernel_rfl) (by kernel_rfl)) sl_nil (fun _ => rfl)) (fun _ => rfl)) (fun _ => rfl) (fun _ _ => rfl) (fun _ => rfl)) (fun _ => rfl) (fun _ => rfl) (fun _ => rfl))
  (sxs_cons (sx_if (st_of_se (se_call no_is_red kp_is_red sf_is_red (by decide) (by kernel_rfl) (by kernel_rfl) (sl_cons (se_var 4 (by kernel_rfl) (by kernel_rfl)) sl_nil (fun _ => rfl)) (fun _ => rfl) (fun _ _ => rfl) (fun _ => rfl)) (fun _ _ => rfl)) (sxs_cons (sx_assign (sa_attr pok rfl (se_var 4 (by kernel_rfl) (by kernel_rfl))) se_bool (fun _ => rfl) (fun _ => rfl) (fun _ => rfl))
  (sxs_cons (sx_assign (sa_attr pok rfl (se_var 2 (by kernel_rfl) (by kernel_rfl))) se_bool (fun _ => rfl) (fun _ => rfl) (fun _ => rfl))
  (sxs_cons (sx_expr (se_call no_turn_towards kp_turn_towards sf_turn_towards (by decide) (by kernel_rfl) (by kernel_rfl) (sl_cons (se_var 0 (by kernel_rfl) (by kernel_rfl)) (sl_cons (se_var 2 (by kernel_rfl) (by kernel_rfl)) (sl_cons (se_var 3 (by kernel_rfl) (by kernel_rfl)) sl_nil (fun _ => rfl)) (fun _ => rfl)) (fun _ => rfl)) (fun _ => rfl) (fun _ _ => rfl) (fun _ => rfl)) (fun _ => rfl))
  (sxs_cons (sx_assign (sa_name 4 (by decide +kernel) (by kernel_rfl) (by kernel_rfl)) (se_call no_sibling_of kp_sibling_of sf_sibling_of (by decide) (by kernel_rfl) (by kernel_rfl) (sl_cons (se_var 2 (by kernel_rfl) (by kernel_rfl)) (sl_cons (se_var 3 (by kernel_rfl) (by kernel_rfl)) sl_nil (fun _ => rfl)) (fun _ => rfl)) (fun _ => rfl) (fun _ _ => rfl) (fun _ => rfl)) (fun _ => rfl) (fun _ => rfl) (fun _ => rfl))
  sxs_nil)))) sxs_nil)
  (sxs_cons (sx_assign (sa_name 5 (by decide +kernel) (by kernel_rfl) (by kernel_rfl)) (se_ite (st_of_se (se_var 3 (by kernel_rfl) (by kernel_rfl)) (fun _ _ => rfl)) (se_attr pok rfl (se_var 4 (by kernel_rfl) (by kernel_rfl)) (fun _ => rfl)) (se_attr pok rfl (se_var 4 (by kernel_rfl) (by kernel_rfl)) (fun _ => rfl))) (fun _ => rfl) (fun _ => rfl) (fun _ => rfl))
  (sxs_cons (sx_assign (sa_name 6 (by decide +kernel) (by kernel_rfl) (by kernel_rfl)) (se_ite (st_of_se (se_var 3 (by kernel_rfl) (by kernel_rfl)) (fun _ _ => rfl)) (se_attr pok rfl (se_var 4 (by kernel_rfl) (by kernel_rfl)) (fun _ => rfl)) (se_attr pok rfl (se_var 4 (by kernel_rfl) (by kernel_rfl)) (fun _ => rfl))) (fun _ => rfl) (fun _ => rfl) (fun _ => rfl))
  (sxs_cons (sx_if (st_and (st_not (st_of_se (se_call no_is_red kp_is_red sf_is_red (by decide) (by kernel_rfl) (by kernel_rfl) (sl_cons (se_var 5 (by kernel_rfl) (by kernel_rfl)) sl_nil (fun _ => rfl)) (fun _ => rfl) (fun _ _ => rfl) (fun _ => rfl)) (fun _ _ => rfl))) (st_not (st_of_se (se_call no_is_red kp_is_red sf_is_red (by decide) (by kernel_rfl) (by kernel_rfl) (sl_cons (se_var 6 (by kernel_rfl) (by kernel_rfl)) sl_nil (fun _ => rfl)) (fun _ => rfl) (fun _ _ => rfl) (fun _ => rfl)) (fun _ _ => rfl)))) (sxs_cons (sx_assign (sa_attr pok rfl (se_var 4 (by kernel_rfl) (by kernel_rfl))) se_bool (fun _ => rfl) (fun _ => rfl) (fun _ => rfl))
  (sxs_cons (sx_if (st_or (st_of_se (se_attr pok rfl (se_var 2 (by kernel_rfl) (by kernel_rfl)) (fun _ => rfl)) (fun _ _ => rfl)) (st_cm cIs_ok rfl (se_var 2 (by kernel_rfl) (by kernel_rfl)) (se_attr pok rfl (se_var 0 (by kernel_rfl) (by kernel_rfl)) (fun _ => rfl)))) (sxs_cons (sx_assign (sa_attr pok rfl (se_var 2 (by kernel_rfl) (by kernel_rfl))) se_bool (fun _ => rfl) (fun _ => rfl) (fun _ => rfl))
  (sxs_cons (sx_ret se_none)
  sxs_nil)) sxs_nil)
  (sxs_cons (sx_ret (se_var 2 (by kernel_rfl) (by kernel_rfl)))
  sxs_nil))) sxs_nil)
  (sxs_cons (sx_if (st_not (st_of_se (se_call no_is_red kp_is_red sf_is_red (by decide) (by kernel_rfl) (by kernel_rfl) (sl_cons (se_var 5 (by kernel_rfl) (by kernel_rfl)) sl_nil (fun _ => rfl)) (fun _ => rfl) (fun _ _ => rfl) (fun _ => rfl)) (fun _ _ => rfl))) (sxs_cons (sx_assign (sa_attr pok rfl (se_var 6 (by kernel_rfl) (by kernel_rfl))) se_bool (fun _ => rfl) (fun _ => rfl) (fun _ => rfl))
  (sxs_cons (sx_assign (sa_attr pok rfl (se_var 4 (by kernel_rfl) (by kernel_rfl))) se_bool (fun _ => rfl) (fun _ => rfl) (fun _ => rfl))
  (sxs_cons (sx_expr (se_call no_turn_towards kp_turn_towards sf_turn_towards (by decide) (by kernel_rfl) (by kernel_rfl) (sl_cons (se_var 0 (by kernel_rfl) (by kernel_rfl)) (sl_cons (se_var 4 (by kernel_rfl) (by kernel_rfl)) (sl_cons (se_not (se_var 3 (by kernel_rfl) (by kernel_rfl))) sl_nil (fun _ => rfl)) (fun _ => rfl)) (fun _ => rfl)) (fun _ => rfl) (fun _ _ => rfl) (fun _ => rfl)) (fun _ => rfl))
  (sxs_cons (sx_assign (sa_name 4 (by decide +kernel) (by kernel_rfl) (by kernel_rfl)) (se_call no_sibling_of kp_sibling_of sf_sibling_of (by decide) (by kernel_rfl) (by kernel_rfl) (sl_cons (se_var 2 (by kernel_rfl) (by kernel_rfl)) (sl_cons (se_var 3 (by kernel_rfl) (by kernel_rfl)) sl_nil (fun _ => rfl)) (fun _ => rfl)) (fun _ => rfl) (fun _ _ => rfl) (fun _ => rfl)) (fun _ => rfl) (fun _ => rfl) (fun _ => rfl))
  (sxs_cons (sx_assign (sa_name 5 (by decide +kernel) (by kernel_rfl) (by kernel_rfl)) (se_ite (st_of_se (se_var 3 (by kernel_rfl) (by kernel_rfl)) (fun _ _ => rfl)) (se_attr pok rfl (se_var 4 (by kernel_rfl) (by kernel_rfl)) (fun _ => rfl)) (se_attr pok rfl (se_var 4 (by kernel_rfl) (by kernel_rfl)) (fun _ => rfl))) (fun _ => rfl) (fun _ => rfl) (fun _ => rfl))
  sxs_nil))))) sxs_nil)
  (sxs_cons (sx_assign (sa_attr pok rfl (se_var 4 (by kernel_rfl) (by kernel_rfl))) (se_attr pok rfl (se_var 2 (by kernel_rfl) (by kernel_rfl)) (fun _ => rfl)) (fun _ => rfl) (fun _ => rfl) (fun _ => rfl))
  (sxs_cons (sx_assign (sa_attr pok rfl (se_var 2 (by kernel_rfl) (by kernel_rfl))) se_bool (fun _ => rfl) (fun _ => rfl) (fun _ => rfl))
  (sxs_cons (sx_assign (sa_attr pok rfl (se_var 5 (by kernel_rfl) (by kernel_rfl))) se_bool (fun _ => rfl) (fun _ => rfl) (fun _ => rfl))
  (sxs_cons (sx_expr (se_call no_turn_towards kp_turn_towards sf_turn_towards (by decide) (by kernel_rfl) (by kernel_rfl) (sl_cons (se_var 0 (by kernel_rfl) (by kernel_rfl)) (sl_cons (se_var 2 (by kernel_rfl) (by kernel_rfl)) (sl_cons (se_var 3 (by kernel_rfl) (by kernel_rfl)) sl_nil (fun _ => rfl)) (fun _ => rfl)) (fun _ => rfl)) (fun _ => rfl) (fun _ _ => rfl) (fun _ => rfl)) (fun _ => rfl))
  (sxs_cons (sx_ret se_none)
  sxs_nil)))))))))))
  rfl rfl rfl (by decide)
noncomputable def n_colour_dropped : List Str := [(Str.ofString "tree"), (Str.ofString "node"), (Str.ofString "parent"), (Str.ofString "is_left")]
noncomputable def t_colour_dropped_1 : DE := (dAnd (dCm cIsNot (dVar 1) (dAttr .root (dVar 0))) (dNot (dCall g_is_red (dCons (dVar 1) dNil))))
noncomputable def b_colour_dropped_1 : DS :=
  (dsSeq (dsAssign (daName 3) (dCm cIs (dAttr .left (dVar 2)) (dVar 1)))
  (dsSeq (dsAssign (daName 1) (dCall g_lightened (dCons (dVar 0) (dCons (dVar 1) (dCons (dVar 2) (dCons (dVar 3) dNil))))))
  (dsSeq (dsIf (dCm cIs (dVar 1) dNone)
  (dsSeq dsRetN
  dsNil)
  dsNil)
  (dsSeq (dsAssign (daName 2) (dAttr .parent (dVar 1)))
  dsNil))))
noncomputable def s_colour_dropped : DS :=
  (dsSeq (dsWhile t_colour_dropped_1 b_colour_dropped_1)
  (dsSeq (dsIf (dCm cIsNot (dVar 1) dNone)
  (dsSeq (dsAssign (daAttr (dVar 1) .red) (dBool false))
  dsNil)
  dsNil)
  dsNil))
noncomputable def g_colour_dropped : List V → St → Option (V × St) := dFun 3 4 s_colour_dropped
theorem sf_colour_dropped {prog : Program} {w : World} {p : Program} {loose : List Str} {mean : ExcName → Option Value} {mg mb : Str → Option Value} : SF (PG prog w p loose mean mg mb) 5 (.ref 161) g_colour_dropped :=
  sf_def (P := PG prog w p loose mean mg mb) (dp := 4) (names := n_colour_dropped) (ps := [(Str.ofString "tree"), (Str.ofString "node"), (Str.ofString "parent")]) (d := s_colour_dropped) (ho := rfl) (by kernel_rfl) (fun vals h => by
    obtain ⟨v0, v1, v2, rfl⟩ := len_3 h
    rfl) (hps_app (rest := [(Str.ofString "is_left")]) rfl) (by decide +kernel) (loc_of (by kernel_rfl)) rfl
  (sxs_cons (sx_while (c := t_colour_dropped_1) (a := b_colour_dropped_1) (st_and (st_cm cIsNot_ok rfl (se_var 1 (by kernel_rfl) (by kernel_rfl)) (se_attr pok rfl (se_var 0 (by kernel_rfl) (by kernel_rfl)) (fun _ => rfl))) (st_not (st_of_se (se_call no_is_red kp_is_red sf_is_red (by decide) (by kernel_rfl) (by kernel_rfl) (sl_cons (se_var 1 (by kernel_rfl) (by kernel_rfl)) sl_nil (fun _ => rfl)) (fun _ => rfl) (fun _ _ => rfl) (fun _ => rfl)) (fun _ _ => rfl)))) (sxs_cons (sx_assign (sa_name 3 (by decide +kernel) (by kernel_rfl) (by kernel_rfl)) (se_cm cIs_ok rfl (se_attr pok rfl (se_var 2 (by kernel_rfl) (by kernel_rfl)) (fun _ => rfl)) (se_var 1 (by kernel_rfl) (by kernel_rfl))) (fun _ => rfl) (fun _ => rfl) (fun _ => rfl))
  (sxs_cons (sx_assign (sa_name 1 (by decide +kernel) (by kernel_rfl) (by kernel_rfl)) (se_call no_lightened kp_lightened sf_lightened (by decide) (by kernel_rfl) (by kernel_rfl) (sl_cons (se_var 0 (by kernel_rfl) (by kernel_rfl)) (sl_cons (se_var 1 (by kernel_rfl) (by kernel_rfl)) (sl_cons (se_var 2 (by kernel_rfl) (by kernel_rfl)) (sl_cons (se_var 3 (by kernel_rfl) (by kernel_rfl)) sl_nil (fun _ => rfl)) (fun _ => rfl)) (fun _ => rfl)) (fun _ => rfl)) (fun _ => rfl) (fun _ _ => rfl) (fun _ => rfl)) (fun _ => rfl) (fun _ => rfl) (fun _ => rfl))
  (sxs_cons (sx_if (st_cm cIs_ok rfl (se_var 1 (by kernel_rfl) (by kernel_rfl)) se_none) (sxs_cons sx_retn
  sxs_nil) sxs_nil)
  (sxs_cons (sx_assign (sa_name 2 (by decide +kernel) (by kernel_rfl) (by kernel_rfl)) (se_attr pok rfl (se_var 1 (by kernel_rfl) (by kernel_rfl)) (fun _ => rfl)) (fun _ => rfl) (fun _ => rfl) (fun _ => rfl))
  sxs_nil)))))
  (sxs_cons (sx_if (st_cm cIsNot_ok rfl (se_var 1 (by kernel_rfl) (by kernel_rfl)) se_none) (sxs_cons (sx_assign (sa_attr pok rfl (se_var 1 (by kernel_rfl) (by kernel_rfl))) se_bool (fun _ => rfl) (fun _ => rfl) (fun _ => rfl))
  sxs_nil) sxs_nil)
  sxs_nil))
  rfl rfl rfl (by decide)

noncomputable def n_drop_node : List Str := [(Str.ofString "tree"), (Str.ofString "node"), (Str.ofString "gone"), (Str.ofString "son"), (Str.ofString "parent"), (Str.ofString "was_red"), (Str.ofString "here")]
noncomputable def t_drop_node_1 : DE := (dCm cIsNot (dVar 6) dNone)
noncomputable def b_drop_node_1 : DS :=
  (dsSeq (dsAssign (daAttr (dVar 6) .limit) (dCall g_greatest_end (dCons (dVar 6) dNil)))
  (dsSeq (dsAssign (daName 6) (dAttr .parent (dVar 6)))
  dsNil))
noncomputable def r_drop_node_9 : DS :=
  (dsSeq (dsAssign (daName 6) (dVar 4))
  (dsSeq (dsWhile t_drop_node_1 b_drop_node_1)
  (dsSeq (dsIf (dNot (dVar 5))
  (dsSeq (dsExpr (dCall g_colour_dropped (dCons (dVar 0) (dCons (dVar 3) (dCons (dVar 4) dNil)))))
  dsNil)
  dsNil)
  (dsSeq (dsAssign (daAttr (dVar 1) .left) dNone)
  (dsSeq (dsAssign (daAttr (dVar 1) .right) dNone)
  (dsSeq (dsAssign (daAttr (dVar 1) .parent) dNone)
  dsNil))))))
noncomputable def r_drop_node_8 : DS :=
  (dsSeq (dsIf (dCm cIsNot (dVar 2) (dVar 1))
  (dsSeq (dsExpr (dCall g_take_place (dCons (dVar 0) (dCons (dVar 1) (dCons (dVar 2) dNil)))))
  (dsSeq (dsAssign (daName 4) (dIte (dCm cIs (dVar 4) (dVar 1)) (dVar 2) (dVar 4)))
  dsNil))
  dsNil)
  r_drop_node_9)
noncomputable def r_drop_node_4 : DS :=
  (dsSeq (dsAssign (daName 3) (dIte (dCm cIsNot (dAttr .left (dVar 2)) dNone) (dAttr .left (dVar 2)) (dAttr .right (dVar 2))))
  (dsSeq (dsAssign (daName 4) (dAttr .parent (dVar 2)))
  (dsSeq (dsAssign (daName 5) (dAttr .red (dVar 2)))
  (dsSeq (dsExpr (dCall g_hang (dCons (dVar 0) (dCons (dVar 4) (dCons (dVar 2) (dCons (dVar 3) dNil))))))
  r_drop_node_8))))
noncomputable def s_drop_node : DS :=
  (dsSeq (dsAssign (daAttr (dVar 0) .count) (dBin .sub (dAttr .count (dVar 0)) (dInt 1)))
  (dsSeq (dsExpr (dCall g_hand_down_to (dCons (dVar 1) dNil)))
  (dsSeq (dsAssign (daName 2) (dVar 1))
  (dsSeq (dsIf (dAnd (dCm cIsNot (dAttr .left (dVar 1)) dNone) (dCm cIsNot (dAttr .right (dVar 1)) dNone))
  (dsSeq (dsAssign (daName 2) (dCall g_first_below (dCons (dAttr .right (dVar 1)) dNil)))
  dsNil)
  dsNil)
  r_drop_node_4))))
noncomputable def g_drop_node : List V → St → Option (V × St) := dFun 2 7 s_drop_node
theorem sf_drop_node {prog : Program} {w : World} {p : Program} {loose : List Str} {mean : ExcName → Option Value} {mg mb : Str → Option Value} : SF (PG prog w p loose mean mg mb) 6 (.ref 154) g_drop_node :=
  sf_def (P := PG prog w p loose mean mg mb) (dp := 5) (names := n_drop_node) (ps := [(Str.ofString "tree"), (Str.ofString "node")]) (d := s_drop_node) (ho := rfl) (by kernel_rfl) (fun vals h => by
    obtain ⟨v0, v1, rfl⟩ := len_2 h
    rfl) (hps_app (rest := [(Str.ofString "gone"), (Str.ofString "son"), (Str.ofString "parent"), (Str.ofString "was_red"), (Str.ofString "here")]) rfl) (by decide +kernel) (loc_of (by kernel_rfl)) rfl
  (sxs_cons (sx_assign (sa_attr pok rfl (se_var 0 (by kernel_rfl) (by kernel_rfl))) (se_bin (o := .sub) (se_attr pok rfl (se_var 0 (by kernel_rfl) (by kernel_rfl)) (fun _ => rfl)) se_int) (fun _ => rfl) (fun _ => rfl) (fun _ => rfl))
  (sxs_cons (sx_expr (se_call no_hand_down_to kp_hand_down_to sf_hand_down_to (by decide) (by kernel_rfl) (by kernel_rfl) (sl_cons (se_var 1 (by kernel_rfl) (by kernel_rfl)) sl_nil (fun _ => rfl)) (fun _ => rfl) (fun _ _ => rfl) (fun _ => rfl)) (fun _ => rfl))
  (sxs_cons (sx_assign (sa_name 2 (by decide +kernel) (by kernel_rfl) (by kernel_rfl)) (se_var 1 (by kernel_rfl) (by kernel_rfl)) (fun _ => rfl) (fun _ => rfl) (fun _ => rfl))
  (sxs_cons (sx_if (st_and (st_cm cIsNot_ok rfl (se_attr pok rfl (se_var 1 (by kernel_rfl) (by kernel_rfl)) (fun _ => rfl)) se_none) (st_cm cIsNot_ok rfl (se_attr pok rfl (se_var 1 (by kernel_rfl) (by kernel_rfl)) (fun _ => rfl)) se_none)) (sxs_cons (sx_assign (sa_name 2 (by decide +kernel) (by kernel_rfl) (by kernel_rfl)) (se_call no_first_below kp_first_below sf_first_below (by decide) (by kernel_rfl) (by kernel_rfl) (sl_cons (se_attr pok rfl (se_var 1 (by kernel_rfl) (by kernel_rfl)) (fun _ => rfl)) sl_nil (fun _ => rfl)) (fun _ => rfl) (fun _ _ => rfl) (fun _ => rfl)) (fun _ => rfl) (fun _ => rfl) (fun _ => rfl))
  sxs_nil) sxs_nil)
  (sxs_cons (sx_assign (sa_name 3 (by decide +kernel) (by kernel_rfl) (by kernel_rfl)) (se_ite (st_cm cIsNot_ok rfl (se_attr pok rfl (se_var 2 (by kernel_rfl) (by kernel_rfl)) (fun _ => rfl)) se_none) (se_attr pok rfl (se_var 2 (by kernel_rfl) (by kernel_rfl)) (fun _ => rfl)) (se_attr pok rfl (se_var 2 (by kernel_rfl) (by kernel_rfl)) (fun _ => rfl))) (fun _ => rfl) (fun _ => rfl) (fun _ => rfl))
  (sxs_cons (sx_assign (sa_name 4 (by decide +kernel) (by kernel_rfl) (by kernel_rfl)) (se_attr pok rfl (se_var 2 (by kernel_rfl) (by kernel_rfl)) (fun _ => rfl)) (fun _ => rfl) (fun _ => rfl) (fun _ => rfl))
  (sxs_cons (sx_assign (sa_name 5 (by decide +kernel) (by kernel_rfl) (by kernel_rfl)) (se_attr pok rfl (se_var 2 (by kernel_rfl) (by kernel_rfl)) (fun _ => rfl)) (fun _ => rfl) (fun _ => rfl) (fun _ => rfl))
  (sxs_cons (sx_expr (se_call no_hang kp_hang sf_hang (by decide) (by kernel_rfl) (by kernel_rfl) (sl_cons (se_var 0 (by kernel_rfl) (by kernel_rfl)) (sl_cons (se_var 4 (by kernel_rfl) (by kernel_rfl)) (sl_cons (se_var 2 (by kernel_rfl) (by kernel_rfl)) (sl_cons (se_var 3 (by kernel_rfl) (by kernel_rfl)) sl_nil (fun _ => rfl)) (fun _ => rfl)) (fun _ => rfl)) (fun _ => rfl)) (fun _ => rfl) (fun _ _ => rfl) (fun _ => rfl)) (fun _ => rfl))
  (sxs_cons (sx_if (st_cm cIsNot_ok rfl (se_var 2 (by kernel_rfl) (by kernel_rfl)) (se_var 1 (by kernel_rfl) (by kernel_rfl))) (sxs_cons (sx_expr (se_call no_take_place kp_take_place sf_take_place (by decide) (by kernel_rfl) (by kernel_rfl) (sl_cons (se_var 0 (by kernel_rfl) (by kernel_rfl)) (sl_cons (se_var 1 (by kernel_rfl) (by kernel_rfl)) (sl_cons (se_var 2 (by kernel_rfl) (by kernel_rfl)) sl_nil (fun _ => rfl)) (fun _ => rfl)) (fun _ => rfl)) (fun _ => rfl) (fun _ _ => rfl) (fun _ => rfl)) (fun _ => rfl))
  (sxs_cons (sx_assign (sa_name 4 (by decide +kernel) (by kernel_rfl) (by kernel_rfl)) (se_ite (st_cm cIs_ok rfl (se_var 4 (by kernel_rfl) (by kernel_rfl)) (se_var 1 (by kernel_rfl) (by kernel_rfl))) (se_var 2 (by kernel_rfl) (by kernel_rfl)) (se_var 4 (by kernel_rfl) (by kernel_rfl))) (fun _ => rfl) (fun _ => rfl) (fun _ => rfl))
  sxs_nil)) sxs_nil)
  (sxs_cons (sx_assign (sa_name 6 (by decide +kernel) (by kernel_rfl) (by kernel_rfl)) (se_var 4 (by kernel_rfl) (by kernel_rfl)) (fun _ => rfl) (fun _ => rfl) (fun _ => rfl))
  (sxs_cons (sx_while (c := t_drop_node_1) (a := b_drop_node_1) (st_cm cIsNot_ok rfl (se_var 6 (by kernel_rfl) (by kernel_rfl)) se_none) (sxs_cons (sx_assign (sa_attr pok rfl (se_var 6 (by kernel_rfl) (by kernel_rfl))) (se_call no_greatest_end kp_greatest_end sf_greatest_end (by decide) (by kernel_rfl) (by kernel_rfl) (sl_cons (se_var 6 (by kernel_rfl) (by kernel_rfl)) sl_nil (fun _ => rfl)) (fun _ => rfl) (fun _ _ => rfl) (fun _ => rfl)) (fun _ => rfl) (fun _ => rfl) (fun _ => rfl))
  (sxs_cons (sx_assign (sa_name 6 (by decide +kernel) (by kernel_rfl) (by kernel_rfl)) (se_attr pok rfl (se_var 6 (by kernel_rfl) (by kernel_rfl)) (fun _ => rfl)) (fun _ => rfl) (fun _ => rfl) (fun _ => rfl))
  sxs_nil)))
  (sxs_cons (sx_if (st_not (st_of_se (se_var 5 (by kernel_rfl) (by kernel_rfl)) (fun _ _ => rfl))) (sxs_cons (sx_expr (se_call no_colour_dropped kp_colour_dropped sf_colour_dropped (by decide) (by kernel_rfl) (by kernel_rfl) (sl_cons (se_var 0 (by kernel_rfl) (by kernel_rfl)) (sl_cons (se_var 3 (by kernel_rfl) (by kernel_rfl)) (sl_cons (se_var 4 (by kernel_rfl) (by kernel_rfl)) sl_nil (fun _ => rfl)) (fun _ => rfl)) (fun _ => rfl)) (fun _ => rfl) (fun _ _ => rfl) (fun _ => rfl)) (fun _ => rfl))
  sxs_nil) sxs_nil)
  (sxs_cons (sx_assign (sa_attr pok rfl (se_var 1 (by kernel_rfl) (by kernel_rfl))) se_none (fun _ => rfl) (fun _ => rfl) (fun _ => rfl))
  (sxs_cons (sx_assign (sa_attr pok rfl (se_var 1 (by kernel_rfl) (by kernel_rfl))) se_none (fun _ => rfl) (fun _ => rfl) (fun _ => rfl))
  (sxs_cons (sx_assign (sa_attr pok rfl (se_var 1 (by kernel_rfl) (by kernel_rfl))) se_none (fun _ => rfl) (fun _ => rfl) (fun _ => rfl))
  sxs_nil)))))))))))))))
  rfl rfl rfl (by decide)

noncomputable def n_all_nodes_in_order : List Str := [(Str.ofString "tree"), (Str.ofString "found"), (Str.ofString "waiting"), (Str.ofString "node")]
noncomputable def t_all_nodes_in_order_1 : DE := (dCm cIsNot (dVar 3) dNone)
noncomputable def b_all_nodes_in_order_1 : DS :=
  (dsSeq (dsExpr (dCall g_hand_down (dCons (dVar 3) dNil)))
  (dsSeq (dsExpr (dApp (dVar 2) (dVar 3)))
  (dsSeq (dsAssign (daName 3) (dAttr .left (dVar 3)))
  dsNil)))
noncomputable def t_all_nodes_in_order_2 : DE := (dOr (dCm cIsNot (dVar 3) dNone) (dCm (cInt .gt) (dCall gLen (dCons (dVar 2) dNil)) (dInt 0)))
noncomputable def b_all_nodes_in_order_2 : DS :=
  (dsSeq (dsWhile t_all_nodes_in_order_1 b_all_nodes_in_order_1)
  (dsSeq (dsAssign (daName 3) (dPop (dVar 2)))
  (dsSeq (dsExpr (dApp (dVar 1) (dVar 3)))
  (dsSeq (dsAssign (daName 3) (dAttr .right (dVar 3)))
  dsNil))))
noncomputable def s_all_nodes_in_order : DS :=
  (dsSeq (dsAssign (daName 1) (dList dNil))
  (dsSeq (dsAssign (daName 2) (dList dNil))
  (dsSeq (dsAssign (daName 3) (dAttr .root (dVar 0)))
  (dsSeq (dsWhile t_all_nodes_in_order_2 b_all_nodes_in_order_2)
  (dsSeq (dsRet (dVar 1))
  dsNil)))))
noncomputable def g_all_nodes_in_order : List V → St → Option (V × St) := dFun 1 4 s_all_nodes_in_order
theorem sf_all_nodes_in_order {prog : Program} {w : World} {p : Program} {loose : List Str} {mean : ExcName → Option Value} {mg mb : Str → Option Value} : SF (PG prog w p loose mean mg mb) 2 (.ref 189) g_all_nodes_in_order :=
  sf_def (P := PG prog w p loose mean mg mb) (dp := 1) (names := n_all_nodes_in_order) (ps := [(Str.ofString "tree")]) (d := s_all_nodes_in_order) (ho := rfl) (by kernel_rfl) (fun vals h => by
    obtain ⟨v0, rfl⟩ := len_1 h
    rfl) (hps_app (rest := [(Str.ofString "found"), (Str.ofString "waiting"), (Str.ofString "node")]) rfl) (by decide +kernel) (loc_of (by kernel_rfl)) rfl
  (sxs_cons (sx_assign (sa_name 1 (by decide +kernel) (by kernel_rfl) (by kernel_rfl)) (se_list sl_nil) (fun _ => rfl) (fun _ => rfl) (fun _ => rfl))
  (sxs_cons (sx_assign (sa_name 2 (by decide +kernel) (by kernel_rfl) (by kernel_rfl)) (se_list sl_nil) (fun _ => rfl) (fun _ => rfl) (fun _ => rfl))
  (sxs_cons (sx_assign (sa_name 3 (by decide +kernel) (by kernel_rfl) (by kernel_rfl)) (se_attr pok rfl (se_var 0 (by kernel_rfl) (by kernel_rfl)) (fun _ => rfl)) (fun _ => rfl) (fun _ => rfl) (fun _ => rfl))
  (sxs_cons (sx_while (c := t_all_nodes_in_order_2) (a := b_all_nodes_in_order_2) (st_or (st_cm cIsNot_ok rfl (se_var 3 (by kernel_rfl) (by kernel_rfl)) se_none) (st_cm (cInt_ok .gt) rfl (se_call no_len kp_len (sf_len (dp := 0)) (by decide) (by kernel_rfl) (by kernel_rfl) (sl_cons (se_var 2 (by kernel_rfl) (by kernel_rfl)) sl_nil (fun _ => rfl)) (fun _ => rfl) (fun _ _ => rfl) (fun _ => rfl)) se_int)) (sxs_cons (sx_while (c := t_all_nodes_in_order_1) (a := b_all_nodes_in_order_1) (st_cm cIsNot_ok rfl (se_var 3 (by kernel_rfl) (by kernel_rfl)) se_none) (sxs_cons (sx_expr (se_call no_hand_down kp_hand_down sf_hand_down (by decide) (by kernel_rfl) (by kernel_rfl) (sl_cons (se_var 3 (by kernel_rfl) (by kernel_rfl)) sl_nil (fun _ => rfl)) (fun _ => rfl) (fun _ _ => rfl) (fun _ => rfl)) (fun _ => rfl))
  (sxs_cons (sx_expr (se_app (se_var 2 (by kernel_rfl) (by kernel_rfl)) (se_var 3 (by kernel_rfl) (by kernel_rfl)) (fun _ => ⟨_, rfl⟩) (fun _ => rfl)) (fun _ => rfl))
  (sxs_cons (sx_assign (sa_name 3 (by decide +kernel) (by kernel_rfl) (by kernel_rfl)) (se_attr pok rfl (se_var 3 (by kernel_rfl) (by kernel_rfl)) (fun _ => rfl)) (fun _ => rfl) (fun _ => rfl) (fun _ => rfl))
  sxs_nil))))
  (sxs_cons (sx_assign (sa_name 3 (by decide +kernel) (by kernel_rfl) (by kernel_rfl)) (se_pop (se_var 2 (by kernel_rfl) (by kernel_rfl)) (fun _ => ⟨_, rfl⟩)) (fun _ => rfl) (fun _ => rfl) (fun _ => rfl))
  (sxs_cons (sx_expr (se_app (se_var 1 (by kernel_rfl) (by kernel_rfl)) (se_var 3 (by kernel_rfl) (by kernel_rfl)) (fun _ => ⟨_, rfl⟩) (fun _ => rfl)) (fun _ => rfl))
  (sxs_cons (sx_assign (sa_name 3 (by decide +kernel) (by kernel_rfl) (by kernel_rfl)) (se_attr pok rfl (se_var 3 (by kernel_rfl) (by kernel_rfl)) (fun _ => rfl)) (fun _ => rfl) (fun _ => rfl) (fun _ => rfl))
  sxs_nil)))))
  (sxs_cons (sx_ret (se_var 1 (by kernel_rfl) (by kernel_rfl)))
  sxs_nil)))))
  rfl rfl rfl (by decide)

noncomputable def n_nodes_between : List Str := [(Str.ofString "tree"), (Str.ofString "begin"), (Str.ofString "end"), (Str.ofString "found"), (Str.ofString "waiting"), (Str.ofString "node")]
noncomputable def t_nodes_between_1 : DE := (dCm cIsNot (dVar 5) dNone)
noncomputable def b_nodes_between_1 : DS :=
  (dsSeq (dsExpr (dCall g_hand_down (dCons (dVar 5) dNil)))
  (dsSeq (dsIf (dCm (cInt .lt) (dAttr .limit (dVar 5)) (dVar 1))
  (dsSeq (dsAssign (daName 5) dNone)
  dsNil)
  (dsSeq (dsExpr (dApp (dVar 4) (dVar 5)))
  (dsSeq (dsAssign (daName 5) (dAttr .left (dVar 5)))
  dsNil)))
  dsNil))
noncomputable def t_nodes_between_2 : DE := (dOr (dCm cIsNot (dVar 5) dNone) (dCm (cInt .gt) (dCall gLen (dCons (dVar 4) dNil)) (dInt 0)))
noncomputable def b_nodes_between_2 : DS :=
  (dsSeq (dsWhile t_nodes_between_1 b_nodes_between_1)
  (dsSeq (dsIf (dCm (cInt .gt) (dCall gLen (dCons (dVar 4) dNil)) (dInt 0))
  (dsSeq (dsAssign (daName 5) (dPop (dVar 4)))
  (dsSeq (dsIf (dAnd (dCm (cInt .le) (dAttr .begin_ (dVar 5)) (dVar 2)) (dCm (cInt .ge) (dAttr .end_ (dVar 5)) (dVar 1)))
  (dsSeq (dsExpr (dApp (dVar 3) (dVar 5)))
  dsNil)
  dsNil)
  (dsSeq (dsAssign (daName 5) (dIte (dCm (cInt .le) (dAttr .begin_ (dVar 5)) (dVar 2)) (dAttr .right (dVar 5)) dNone))
  dsNil)))
  dsNil)
  dsNil))
noncomputable def s_nodes_between : DS :=
  (dsSeq (dsAssign (daName 3) (dList dNil))
  (dsSeq (dsAssign (daName 4) (dList dNil))
  (dsSeq (dsAssign (daName 5) (dAttr .root (dVar 0)))
  (dsSeq (dsWhile t_nodes_between_2 b_nodes_between_2)
  (dsSeq (dsRet (dVar 3))
  dsNil)))))
noncomputable def g_nodes_between : List V → St → Option (V × St) := dFun 3 6 s_nodes_between
theorem sf_nodes_between {prog : Program} {w : World} {p : Program} {loose : List Str} {mean : ExcName → Option Value} {mg mb : Str → Option Value} : SF (PG prog w p loose mean mg mb) 2 (.ref 196) g_nodes_between :=
  sf_def (P := PG prog w p loose mean mg mb) (dp := 1) (names := n_nodes_between) (ps := [(Str.ofString "tree"), (Str.ofString "begin"), (Str.ofString "end")]) (d := s_nodes_between) (ho := rfl) (by kernel_rfl) (fun vals h => by
    obtain ⟨v0, v1, v2, rfl⟩ := len_3 h
    rfl) (hps_app (rest := [(Str.ofString "found"), (Str.ofString "waiting"), (Str.ofString "node")]) rfl) (by decide +kernel) (loc_of (by kernel_rfl)) rfl
  (sxs_cons (sx_assign (sa_name 3 (by decide +kernel) (by kernel_rfl) (by kernel_rfl)) (se_list sl_nil) (fun _ => rfl) (fun _ => rfl) (fun _ => rfl))
  (sxs_cons (sx_assign (sa_name 4 (by decide +kernel) (by kernel_rfl) (by kernel_rfl)) (se_list sl_nil) (fun _ => rfl) (fun _ => rfl) (fun _ => rfl))
  (sxs_cons (sx_assign (sa_name 5 (by decide +kernel) (by kernel_rfl) (by kernel_rfl)) (se_attr pok rfl (se_var 0 (by kernel_rfl) (by kernel_rfl)) (fun _ => rfl)) (fun _ => rfl) (fun _ => rfl) (fun _ => rfl))
  (sxs_cons (sx_while (c := t_nodes_between_2) (a := b_nodes_between_2) (st_or (st_cm cIsNot_ok rfl (se_var 5 (by kernel_rfl) (by kernel_rfl)) se_none) (st_cm (cInt_ok .gt) rfl (se_call no_len kp_len (sf_len (dp := 0)) (by decide) (by kernel_rfl) (by kernel_rfl) (sl_cons (se_var 4 (by kernel_rfl) (by kernel_rfl)) sl_nil (fun _ => rfl)) (fun _ => rfl) (fun _ _ => rfl) (fun _ => rfl)) se_int)) (sxs_cons (sx_while (c := t_nodes_between_1) (a := b_nodes_between_1) (st_cm cIsNot_ok rfl (se_var 5 (by kernel_rfl) (by kernel_rfl)) se_none) (sxs_cons (sx_expr (se_call no_hand_down kp_hand_down sf_hand_down (by decide) (by kernel_rfl) (by kernel_rfl) (sl_cons (se_var 5 (by kernel_rfl) (by kernel_rfl)) sl_nil (fun _ => rfl)) (fun _ => rfl) (fun _ _ => rfl) (fun _ => rfl)) (fun _ => rfl))
  (sxs_cons (sx_if (st_cm (cInt_ok .lt) rfl (se_attr pok rfl (se_var 5 (by kernel_rfl) (by kernel_rfl)) (fun _ => rfl)) (se_var 1 (by kernel_rfl) (by kernel_rfl))) (sxs_cons (sx_assign (sa_name 5 (by decide +kernel) (by kernel_rfl) (by kernel_rfl)) se_none (fun _ => rfl) (fun _ => rfl) (fun _ => rfl))
  sxs_nil) (sxs_cons (sx_expr (se_app (se_var 4 (by kernel_rfl) (by kernel_rfl)) (se_var 5 (by kernel_rfl) (by kernel_rfl)) (fun _ => ⟨_, rfl⟩) (fun _ => rfl)) (fun _ => rfl))
  (sxs_cons (sx_assign (sa_name 5 (by decide +kernel) (by kernel_rfl) (by kernel_rfl)) (se_attr pok rfl (se_var 5 (by kernel_rfl) (by kernel_rfl)) (fun _ => rfl)) (fun _ => rfl) (fun _ => rfl) (fun _ => rfl))
  sxs_nil)))
  sxs_nil)))
  (sxs_cons (sx_if (st_cm (cInt_ok .gt) rfl (se_call no_len kp_len (sf_len (dp := 0)) (by decide) (by kernel_rfl) (by kernel_rfl) (sl_cons (se_var 4 (by kernel_rfl) (by kernel_rfl)) sl_nil (fun _ => rfl)) (fun _ => rfl) (fun _ _ => rfl) (fun _ => rfl)) se_int) (sxs_cons (sx_assign (sa_name 5 (by decide +kernel) (by kernel_rfl) (by kernel_rfl)) (se_pop (se_var 4 (by kernel_rfl) (by kernel_rfl)) (fun _ => ⟨_, rfl⟩)) (fun _ => rfl) (fun _ => rfl) (fun _ => rfl))
  (sxs_cons (sx_if (st_and (st_cm (cInt_ok .le) rfl (se_attr pok rfl (se_var 5 (by kernel_rfl) (by kernel_rfl)) (fun _ => rfl)) (se_var 2 (by kernel_rfl) (by kernel_rfl))) (st_cm (cInt_ok .ge) rfl (se_attr pok rfl (se_var 5 (by kernel_rfl) (by kernel_rfl)) (fun _ => rfl)) (se_var 1 (by kernel_rfl) (by kernel_rfl)))) (sxs_cons (sx_expr (se_app (se_var 3 (by kernel_rfl) (by kernel_rfl)) (se_var 5 (by kernel_rfl) (by kernel_rfl)) (fun _ => ⟨_, rfl⟩) (fun _ => rfl)) (fun _ => rfl))
  sxs_nil) sxs_nil)
  (sxs_cons (sx_assign (sa_name 5 (by decide +kernel) (by kernel_rfl) (by kernel_rfl)) (se_ite (st_cm (cInt_ok .le) rfl (se_attr pok rfl (se_var 5 (by kernel_rfl) (by kernel_rfl)) (fun _ => rfl)) (se_var 2 (by kernel_rfl) (by kernel_rfl))) (se_attr pok rfl (se_var 5 (by kernel_rfl) (by kernel_rfl)) (fun _ => rfl)) se_none) (fun _ => rfl) (fun _ => rfl) (fun _ => rfl))
  sxs_nil))) sxs_nil)
  sxs_nil)))
  (sxs_cons (sx_ret (se_var 3 (by kernel_rfl) (by kernel_rfl)))
  sxs_nil)))))
  rfl rfl rfl (by decide)

noncomputable def n_begins_to_move : List Str := [(Str.ofString "node"), (Str.ofString "at"), (Str.ofString "before_markers")]
noncomputable def s_begins_to_move : DS :=
  (dsSeq (dsIf (dCm (cInt .ne) (dAttr .begin_ (dVar 0)) (dVar 1))
  (dsSeq (dsRet (dBool false))
  dsNil)
  dsNil)
  (dsSeq (dsIf (dVar 2)
  (dsSeq (dsRet (dBool true))
  dsNil)
  dsNil)
  (dsSeq (dsRet (dAnd (dAttr .front (dVar 0)) (dOr (dCm (cInt .ne) (dAttr .begin_ (dVar 0)) (dAttr .end_ (dVar 0))) (dAttr .rear (dVar 0)))))
  dsNil)))
noncomputable def g_begins_to_move : List V → St → Option (V × St) := dFun 3 3 s_begins_to_move
theorem sf_begins_to_move {prog : Program} {w : World} {p : Program} {loose : List Str} {mean : ExcName → Option Value} {mg mb : Str → Option Value} : SF (PG prog w p loose mean mg mb) 1 (.ref 203) g_begins_to_move :=
  sf_def (P := PG prog w p loose mean mg mb) (dp := 0) (names := n_begins_to_move) (ps := [(Str.ofString "node"), (Str.ofString "at"), (Str.ofString "before_markers")]) (d := s_begins_to_move) (ho := rfl) (by kernel_rfl) (fun vals h => by
    obtain ⟨v0, v1, v2, rfl⟩ := len_3 h
    rfl) (hps_app (rest := []) rfl) (by decide +kernel) (loc_of (by kernel_rfl)) rfl
  (sxs_cons (sx_if (st_cm (cInt_ok .ne) rfl (se_attr pok rfl (se_var 0 (by kernel_rfl) (by kernel_rfl)) (fun _ => rfl)) (se_var 1 (by kernel_rfl) (by kernel_rfl))) (sxs_cons (sx_ret se_bool)
  sxs_nil) sxs_nil)
  (sxs_cons (sx_if (st_of_se (se_var 2 (by kernel_rfl) (by kernel_rfl)) (fun _ _ => rfl)) (sxs_cons (sx_ret se_bool)
  sxs_nil) sxs_nil)
  (sxs_cons (sx_ret (se_and (se_attr pok rfl (se_var 0 (by kernel_rfl) (by kernel_rfl)) (fun _ => rfl)) (se_or (se_cm (cInt_ok .ne) rfl (se_attr pok rfl (se_var 0 (by kernel_rfl) (by kernel_rfl)) (fun _ => rfl)) (se_attr pok rfl (se_var 0 (by kernel_rfl) (by kernel_rfl)) (fun _ => rfl))) (se_attr pok rfl (se_var 0 (by kernel_rfl) (by kernel_rfl)) (fun _ => rfl)))))
  sxs_nil)))
  rfl rfl rfl (by decide)

noncomputable def n_grows : List Str := [(Str.ofString "node"), (Str.ofString "at"), (Str.ofString "before_markers")]
noncomputable def s_grows : DS :=
  (dsSeq (dsRet (dOr (dCm (cInt .gt) (dAttr .end_ (dVar 0)) (dVar 1)) (dAnd (dCm (cInt .eq) (dAttr .end_ (dVar 0)) (dVar 1)) (dOr (dVar 2) (dAttr .rear (dVar 0))))))
  dsNil)
noncomputable def g_grows : List V → St → Option (V × St) := dFun 3 3 s_grows
theorem sf_grows {prog : Program} {w : World} {p : Program} {loose : List Str} {mean : ExcName → Option Value} {mg mb : Str → Option Value} : SF (PG prog w p loose mean mg mb) 1 (.ref 210) g_grows :=
  sf_def (P := PG prog w p loose mean mg mb) (dp := 0) (names := n_grows) (ps := [(Str.ofString "node"), (Str.ofString "at"), (Str.ofString "before_markers")]) (d := s_grows) (ho := rfl) (by kernel_rfl) (fun vals h => by
    obtain ⟨v0, v1, v2, rfl⟩ := len_3 h
    rfl) (hps_app (rest := []) rfl) (by decide +kernel) (loc_of (by kernel_rfl)) rfl
  (sxs_cons (sx_ret (se_or (se_cm (cInt_ok .gt) rfl (se_attr pok rfl (se_var 0 (by kernel_rfl) (by kernel_rfl)) (fun _ => rfl)) (se_var 1 (by kernel_rfl) (by kernel_rfl))) (se_and (se_cm (cInt_ok .eq) rfl (se_attr pok rfl (se_var 0 (by kernel_rfl) (by kernel_rfl)) (fun _ => rfl)) (se_var 1 (by kernel_rfl) (by kernel_rfl))) (se_or (se_var 2 (by kernel_rfl) (by kernel_rfl)) (se_attr pok rfl (se_var 0 (by kernel_rfl) (by kernel_rfl)) (fun _ => rfl))))))
  sxs_nil)
  rfl rfl rfl (by decide)
noncomputable def n_shift_nodes : List Str := [(Str.ofString "tree"), (Str.ofString "at"), (Str.ofString "many"), (Str.ofString "before_markers"), (Str.ofString "waiting"), (Str.ofString "node")]
noncomputable def t_shift_nodes_1 : DE := (dCm (cInt .gt) (dCall gLen (dCons (dVar 4) dNil)) (dInt 0))
noncomputable def b_shift_nodes_1 : DS :=
  (dsSeq (dsAssign (daName 5) (dPop (dVar 4)))
  (dsSeq (dsIf (dCm cIsNot (dVar 5) dNone)
  (dsSeq (dsExpr (dCall g_hand_down (dCons (dVar 5) dNil)))
  (dsSeq (dsIf (dCm (cInt .ge) (dAttr .limit (dVar 5)) (dVar 1))
  (dsSeq (dsIf (dAnd (dCm cIsNot (dAttr .right (dVar 5)) dNone) (dCm (cInt .gt) (dAttr .begin_ (dVar 5)) (dVar 1)))
  (dsSeq (dsAssign (daAttr (dAttr .right (dVar 5)) .offset) (dBin .add (dAttr .offset (dAttr .right (dVar 5))) (dVar 2)))
  dsNil)
  (dsSeq (dsExpr (dApp (dVar 4) (dAttr .right (dVar 5))))
  dsNil))
  (dsSeq (dsExpr (dApp (dVar 4) (dAttr .left (dVar 5))))
  (dsSeq (dsIf (dCm (cInt .gt) (dAttr .begin_ (dVar 5)) (dVar 1))
  (dsSeq (dsAssign (daAttr (dVar 5) .begin_) (dBin .add (dAttr .begin_ (dVar 5)) (dVar 2)))
  dsNil)
  dsNil)
  (dsSeq (dsIf (dCall g_grows (dCons (dVar 5) (dCons (dVar 1) (dCons (dVar 3) dNil))))
  (dsSeq (dsAssign (daAttr (dVar 5) .end_) (dBin .add (dAttr .end_ (dVar 5)) (dVar 2)))
  dsNil)
  dsNil)
  (dsSeq (dsExpr (dCall g_renew_limits (dCons (dVar 5) dNil)))
  dsNil)))))
  dsNil)
  dsNil))
  dsNil)
  dsNil))
noncomputable def s_shift_nodes : DS :=
  (dsSeq (dsAssign (daName 4) (dList (dCons (dAttr .root (dVar 0)) dNil)))
  (dsSeq (dsWhile t_shift_nodes_1 b_shift_nodes_1)
  dsNil))
noncomputable def g_shift_nodes : List V → St → Option (V × St) := dFun 4 6 s_shift_nodes
theorem sf_shift_nodes {prog : Program} {w : World} {p : Program} {loose : List Str} {mean : ExcName → Option Value} {mg mb : Str → Option Value} : SF (PG prog w p loose mean mg mb) 3 (.ref 222) g_shift_nodes :=
  sf_def (P := PG prog w p loose mean mg mb) (dp := 2) (names := n_shift_nodes) (ps := [(Str.ofString "tree"), (Str.ofString "at"), (Str.ofString "many"), (Str.ofString "before_markers")]) (d := s_shift_nodes) (ho := rfl) (by kernel_rfl) (fun vals h => by
    obtain ⟨v0, v1, v2, v3, rfl⟩ := len_4 h
    rfl) (hps_app (rest := [(Str.ofString "waiting"), (Str.ofString "node")]) rfl) (by decide +kernel) (loc_of (by kernel_rfl)) rfl
  (sxs_cons (sx_assign (sa_name 4 (by decide +kernel) (by kernel_rfl) (by kernel_rfl)) (se_list (sl_cons (se_attr pok rfl (se_var 0 (by kernel_rfl) (by kernel_rfl)) (fun _ => rfl)) sl_nil (fun _ => rfl))) (fun _ => rfl) (fun _ => rfl) (fun _ => rfl))
  (sxs_cons (sx_while (c := t_shift_nodes_1) (a := b_shift_nodes_1) (st_cm (cInt_ok .gt) rfl (se_call no_len kp_len (sf_len (dp := 0)) (by decide) (by kernel_rfl) (by kernel_rfl) (sl_cons (se_var 4 (by kernel_rfl) (by kernel_rfl)) sl_nil (fun _ => rfl)) (fun _ => rfl) (fun _ _ => rfl) (fun _ => rfl)) se_int) (sxs_cons (sx_assign (sa_name 5 (by decide +kernel) (by kernel_rfl) (by kernel_rfl)) (se_pop (se_var 4 (by kernel_rfl) (by kernel_rfl)) (fun _ => ⟨_, rfl⟩)) (fun _ => rfl) (fun _ => rfl) (fun _ => rfl))
  (sxs_cons (sx_if (st_cm cIsNot_ok rfl (se_var 5 (by kernel_rfl) (by kernel_rfl)) se_none) (sxs_cons (sx_expr (se_call no_hand_down kp_hand_down sf_hand_down (by decide) (by kernel_rfl) (by kernel_rfl) (sl_cons (se_var 5 (by kernel_rfl) (by kernel_rfl)) sl_nil (fun _ => rfl)) (fun _ => rfl) (fun _ _ => rfl) (fun _ => rfl)) (fun _ => rfl))
  (sxs_cons (sx_if (st_cm (cInt_ok .ge) rfl (se_attr pok rfl (se_var 5 (by kernel_rfl) (by kernel_rfl)) (fun _ => rfl)) (se_var 1 (by kernel_rfl) (by kernel_rfl))) (sxs_cons (sx_if (st_and (st_cm cIsNot_ok rfl (se_attr pok rfl (se_var 5 (by kernel_rfl) (by kernel_rfl)) (fun _ => rfl)) se_none) (st_cm (cInt_ok .gt) rfl (se_attr pok rfl (se_var 5 (by kernel_rfl) (by kernel_rfl)) (fun _ => rfl)) (se_var 1 (by kernel_rfl) (by kernel_rfl)))) (sxs_cons (sx_assign (sa_attr pok rfl (se_attr pok rfl (se_var 5 (by kernel_rfl) (by kernel_rfl)) (fun _ => rfl))) (se_bin (o := .add) (se_attr pok rfl (se_attr pok rfl (se_var 5 (by kernel_rfl) (by kernel_rfl)) (fun _ => rfl)) (fun _ => rfl)) (se_var 2 (by kernel_rfl) (by kernel_rfl))) (fun _ => rfl) (fun _ => rfl) (fun _ => rfl))
  sxs_nil) (sxs_cons (sx_expr (se_app (se_var 4 (by kernel_rfl) (by kernel_rfl)) (se_attr pok rfl (se_var 5 (by kernel_rfl) (by kernel_rfl)) (fun _ => rfl)) (fun _ => ⟨_, rfl⟩) (fun _ => rfl)) (fun _ => rfl))
  sxs_nil))
  (sxs_cons (sx_expr (se_app (se_var 4 (by kernel_rfl) (by kernel_rfl)) (se_attr pok rfl (se_var 5 (by kernel_rfl) (by kernel_rfl)) (fun _ => rfl)) (fun _ => ⟨_, rfl⟩) (fun _ => rfl)) (fun _ => rfl))
  (sxs_cons (sx_if (st_cm (cInt_ok .gt) rfl (se_attr pok rfl (se_var 5 (by kernel_rfl) (by kernel_rfl)) (fun _ => rfl)) (se_var 1 (by kernel_rfl) (by kernel_rfl))) (sxs_cons (sx_assign (sa_attr pok rfl (se_var 5 (by kernel_rfl) (by kernel_rfl))) (se_bin (o := .add) (se_attr pok rfl (se_var 5 (by kernel_rfl) (by kernel_rfl)) (fun _ => rfl)) (se_var 2 (by kernel_rfl) (by kernel_rfl))) (fun _ => rfl) (fun _ => rfl) (fun _ => rfl))
  sxs_nil) sxs_nil)
  (sxs_cons (sx_if (st_of_se (se_call no_grows kp_grows sf_grows (by decide) (by kernel_rfl) (by kernel_rfl) (sl_cons (se_var 5 (by kernel_rfl) (by kernel_rfl)) (sl_cons (se_var 1 (by kernel_rfl) (by kernel_rfl)) (sl_cons (se_var 3 (by kernel_rfl) (by kernel_rfl)) sl_nil (fun _ => rfl)) (fun _ => rfl)) (fun _ => rfl)) (fun _ => rfl) (fun _ _ => rfl) (fun _ => rfl)) (fun _ _ => rfl)) (sxs_cons (sx_assign (sa_attr pok rfl (se_var 5 (by kernel_rfl) (by kernel_rfl))) (se_bin (o := .add) (se_attr pok rfl (se_var 5 (by kernel_rfl) (by kernel_rfl)) (fun _ => rfl)) (se_var 2 (by kernel_rfl) (by kernel_rfl))) (fun _ => rfl) (fun _ => rfl) (fun _ => rfl))
  sxs_nil) sxs_nil)
  (sxs_cons (sx_expr (se_call no_renew_limits kp_renew_limits sf_renew_limits (by decide) (by kernel_rfl) (by kernel_rfl) (sl_cons (se_var 5 (by kernel_rfl) (by kernel_rfl)) sl_nil (fun _ => rfl)) (fun _ => rfl) (fun _ _ => rfl) (fun _ => rfl)) (fun _ => rfl))
  sxs_nil))))) sxs_nil)
  sxs_nil)) sxs_nil)
  sxs_nil)))
  sxs_nil))
  rfl rfl rfl (by decide)

noncomputable def n_open_gap : List Str := [(Str.ofString "tree"), (Str.ofString "at"), (Str.ofString "many"), (Str.ofString "before_markers"), (Str.ofString "moving"), (Str.ofString "node")]
noncomputable def b_open_gap_1 : DS :=
  (dsSeq (dsIf (dOr (dCm (cInt .ne) (dAttr .end_ (dVar 5)) (dVar 1)) (dOr (dAttr .rear (dVar 5)) (dVar 3)))
  (dsSeq (dsAssign (daAttr (dVar 5) .end_) (dBin .add (dAttr .end_ (dVar 5)) (dVar 2)))
  dsNil)
  dsNil)
  (dsSeq (dsAssign (daAttr (dVar 5) .begin_) (dBin .add (dAttr .begin_ (dVar 5)) (dVar 2)))
  (dsSeq (dsExpr (dCall g_put_node (dCons (dVar 0) (dCons (dVar 5) dNil))))
  dsNil)))
noncomputable def b_open_gap_2 : DS :=
  (dsSeq (dsExpr (dCall g_drop_node (dCons (dVar 0) (dCons (dVar 5) dNil))))
  dsNil)
noncomputable def s_open_gap : DS :=
  (dsSeq (dsIf (dCm (cInt .le) (dVar 2) (dInt 0))
  (dsSeq dsRetN
  dsNil)
  dsNil)
  (dsSeq (dsAssign (daName 4) (dComp (diList (dCall g_nodes_between (dCons (dVar 0) (dCons (dVar 1) (dCons (dVar 1) dNil))))) [1, 3] (dCall g_begins_to_move (dCons (dVar 0) (dCons (dVar 1) (dCons (dVar 2) dNil)))) (dVar 0)))
  (dsSeq (dsFor (diList (dVar 4)) (daName 5) b_open_gap_2)
  (dsSeq (dsExpr (dCall g_shift_nodes (dCons (dVar 0) (dCons (dVar 1) (dCons (dVar 2) (dCons (dVar 3) dNil))))))
  (dsSeq (dsFor (diList (dVar 4)) (daName 5) b_open_gap_1)
  dsNil)))))
noncomputable def g_open_gap : List V → St → Option (V × St) := dFun 4 6 s_open_gap
theorem sf_open_gap {prog : Program} {w : World} {p : Program} {loose : List Str} {mean : ExcName → Option Value} {mg mb : Str → Option Value} : SF (PG prog w p loose mean mg mb) 7 (.ref 215) g_open_gap :=
  sf_defC (P := PG prog w p loose mean mg mb) (dp := 6) (names := n_open_gap) (ps := [(Str.ofString "tree"), (Str.ofString "at"), (Str.ofString "many"), (Str.ofString "before_markers")]) (d := s_open_gap) (ho := rfl) (by kernel_rfl) (fun vals h => by
    obtain ⟨v0, v1, v2, v3, rfl⟩ := len_4 h
    rfl) (hps_app (rest := [(Str.ofString "moving"), (Str.ofString "node")]) rfl) (by decide +kernel) (loc_cell (by kernel_rfl)) rfl (cells_nod _) (by decide +kernel)
  (sxs_cons (sx_if (st_cm (cInt_ok .le) rfl (se_var 2 (by kernel_rfl) (by kernel_rfl)) se_int) (sxs_cons sx_retn
  sxs_nil) sxs_nil)
  (sxs_cons (sx_comp (xs := [(Str.ofString "at"), (Str.ofString "before_markers")]) (caps := [1, 3]) ⟨by decide, rfl, (by kernel_rfl), by decide, clos_gen (by kernel_rfl)⟩ ⟨(by kernel_rfl), (by kernel_rfl), (by kernel_rfl), ⟨(by kernel_rfl), (by kernel_rfl), (by kernel_rfl), trivial⟩⟩ (si_list (fun _ _ => rfl) (se_call no_nodes_between kp_nodes_between sf_nodes_between (by decide) (by kernel_rfl) (by kernel_rfl) (sl_cons (se_var 0 (by kernel_rfl) (by kernel_rfl)) (sl_cons (se_var 1 (by kernel_rfl) (by kernel_rfl)) (sl_cons (se_var 1 (by kernel_rfl) (by kernel_rfl)) sl_nil (fun _ => rfl)) (fun _ => rfl)) (fun _ => rfl)) (fun _ => rfl) (fun _ _ => rfl) (fun _ => rfl))) (sts_one (st_of_se (se_call no_begins_to_move kp_begins_to_move sf_begins_to_move (by decide) (by kernel_rfl) (by kernel_rfl) (sl_cons (se_var 0 (by kernel_rfl) (by kernel_rfl)) (sl_cons (se_var 1 (by kernel_rfl) (by kernel_rfl)) (sl_cons (se_var 2 (by kernel_rfl) (by kernel_rfl)) sl_nil (fun _ => rfl)) (fun _ => rfl)) (fun _ => rfl)) (fun _ => rfl) (fun _ _ => rfl) (fun _ => rfl)) (fun _ _ => rfl))) (se_var 0 (by kernel_rfl) (by kernel_rfl)) (fun _ _ => rfl) (sa_name 4 (by decide +kernel) (by kernel_rfl) (by kernel_rfl)) (fun _ h1 h2 => env_gen h1 h2 rfl))
  (sxs_cons (sx_for (b := b_open_gap_2) (si_list (fun _ _ => rfl) (se_var 4 (by kernel_rfl) (by kernel_rfl))) (sa_name 5 (by decide +kernel) (by kernel_rfl) (by kernel_rfl)) (sxs_cons (sx_expr (se_call no_drop_node kp_drop_node sf_drop_node (by decide) (by kernel_rfl) (by kernel_rfl) (sl_cons (se_var 0 (by kernel_rfl) (by kernel_rfl)) (sl_cons (se_var 5 (by kernel_rfl) (by kernel_rfl)) sl_nil (fun _ => rfl)) (fun _ => rfl)) (fun _ => rfl) (fun _ _ => rfl) (fun _ => rfl)) (fun _ => rfl))
  sxs_nil) (fun _ _ => rfl))
  (sxs_cons (sx_expr (se_call no_shift_nodes kp_shift_nodes sf_shift_nodes (by decide) (by kernel_rfl) (by kernel_rfl) (sl_cons (se_var 0 (by kernel_rfl) (by kernel_rfl)) (sl_cons (se_var 1 (by kernel_rfl) (by kernel_rfl)) (sl_cons (se_var 2 (by kernel_rfl) (by kernel_rfl)) (sl_cons (se_var 3 (by kernel_rfl) (by kernel_rfl)) sl_nil (fun _ => rfl)) (fun _ => rfl)) (fun _ => rfl)) (fun _ => rfl)) (fun _ => rfl) (fun _ _ => rfl) (fun _ => rfl)) (fun _ => rfl))
  (sxs_cons (sx_for (b := b_open_gap_1) (si_list (fun _ _ => rfl) (se_var 4 (by kernel_rfl) (by kernel_rfl))) (sa_name 5 (by decide +kernel) (by kernel_rfl) (by kernel_rfl)) (sxs_cons (sx_if (st_or3 (st_cm (cInt_ok .ne) rfl (se_attr pok rfl (se_var 5 (by kernel_rfl) (by kernel_rfl)) (fun _ => rfl)) (se_var 1 (by kernel_rfl) (by kernel_rfl))) (st_of_se (se_attr pok rfl (se_var 5 (by kernel_rfl) (by kernel_rfl)) (fun _ => rfl)) (fun _ _ => rfl)) (st_of_se (se_var 3 (by kernel_rfl) (by kernel_rfl)) (fun _ _ => rfl))) (sxs_cons (sx_assign (sa_attr pok rfl (se_var 5 (by kernel_rfl) (by kernel_rfl))) (se_bin (o := .add) (se_attr pok rfl (se_var 5 (by kernel_rfl) (by kernel_rfl)) (fun _ => rfl)) (se_var 2 (by kernel_rfl) (by kernel_rfl))) (fun _ => rfl) (fun _ => rfl) (fun _ => rfl))
  sxs_nil) sxs_nil)
  (sxs_cons (sx_assign (sa_attr pok rfl (se_var 5 (by kernel_rfl) (by kernel_rfl))) (se_bin (o := .add) (se_attr pok rfl (se_var 5 (by kernel_rfl) (by kernel_rfl)) (fun _ => rfl)) (se_var 2 (by kernel_rfl) (by kernel_rfl))) (fun _ => rfl) (fun _ => rfl) (fun _ => rfl))
  (sxs_cons (sx_expr (se_call no_put_node kp_put_node sf_put_node (by decide) (by kernel_rfl) (by kernel_rfl) (sl_cons (se_var 0 (by kernel_rfl) (by kernel_rfl)) (sl_cons (se_var 5 (by kernel_rfl) (by kernel_rfl)) sl_nil (fun _ => rfl)) (fun _ => rfl)) (fun _ => rfl) (fun _ _ => rfl) (fun _ => rfl)) (fun _ => rfl))
  sxs_nil))) (fun _ _ => rfl))
  sxs_nil)))))
  rfl rfl rfl

noncomputable def n_close_gap : List Str := [(Str.ofString "tree"), (Str.ofString "at"), (Str.ofString "many"), (Str.ofString "waiting"), (Str.ofString "node")]
noncomputable def t_close_gap_1 : DE := (dCm (cInt .gt) (dCall gLen (dCons (dVar 3) dNil)) (dInt 0))
noncomputable def b_close_gap_1 : DS :=
  (dsSeq (dsAssign (daName 4) (dPop (dVar 3)))
  (dsSeq (dsIf (dCm cIsNot (dVar 4) dNone)
  (dsSeq (dsExpr (dCall g_hand_down (dCons (dVar 4) dNil)))
  (dsSeq (dsIf (dCm (cInt .gt) (dAttr .limit (dVar 4)) (dVar 1))
  (dsSeq (dsIf (dAnd (dCm cIsNot (dAttr .right (dVar 4)) dNone) (dCm (cInt .gt) (dAttr .begin_ (dVar 4)) (dBin .add (dVar 1) (dVar 2))))
  (dsSeq (dsAssign (daAttr (dAttr .right (dVar 4)) .offset) (dBin .sub (dAttr .offset (dAttr .right (dVar 4))) (dVar 2)))
  dsNil)
  (dsSeq (dsExpr (dApp (dVar 3) (dAttr .right (dVar 4))))
  dsNil))
  (dsSeq (dsExpr (dApp (dVar 3) (dAttr .left (dVar 4))))
  (dsSeq (dsIf (dCm (cInt .gt) (dAttr .begin_ (dVar 4)) (dVar 1))
  (dsSeq (dsAssign (daAttr (dVar 4) .begin_) (dCall gMax (dCons (dVar 1) (dCons (dBin .sub (dAttr .begin_ (dVar 4)) (dVar 2)) dNil))))
  dsNil)
  dsNil)
  (dsSeq (dsIf (dCm (cInt .gt) (dAttr .end_ (dVar 4)) (dVar 1))
  (dsSeq (dsAssign (daAttr (dVar 4) .end_) (dCall gMax (dCons (dVar 1) (dCons (dBin .sub (dAttr .end_ (dVar 4)) (dVar 2)) dNil))))
  dsNil)
  dsNil)
  (dsSeq (dsExpr (dCall g_renew_limits (dCons (dVar 4) dNil)))
  dsNil)))))
  dsNil)
  dsNil))
  dsNil)
  dsNil))
noncomputable def s_close_gap : DS :=
  (dsSeq (dsIf (dCm (cInt .le) (dVar 2) (dInt 0))
  (dsSeq dsRetN
  dsNil)
  dsNil)
  (dsSeq (dsAssign (daName 3) (dList (dCons (dAttr .root (dVar 0)) dNil)))
  (dsSeq (dsWhile t_close_gap_1 b_close_gap_1)
  dsNil)))
noncomputable def g_close_gap : List V → St → Option (V × St) := dFun 3 5 s_close_gap
theorem sf_close_gap {prog : Program} {w : World} {p : Program} {loose : List Str} {mean : ExcName → Option Value} {mg mb : Str → Option Value} : SF (PG prog w p loose mean mg mb) 3 (.ref 229) g_close_gap :=
  sf_def (P := PG prog w p loose mean mg mb) (dp := 2) (names := n_close_gap) (ps := [(Str.ofString "tree"), (Str.ofString "at"), (Str.ofString "many")]) (d := s_close_gap) (ho := rfl) (by kernel_rfl) (fun vals h => by
    obtain ⟨v0, v1, v2, rfl⟩ := len_3 h
    rfl) (hps_app (rest := [(Str.ofString "waiting"), (Str.ofString "node")]) rfl) (by decide +kernel) (loc_of (by kernel_rfl)) rfl
  (sxs_cons (sx_if (st_cm (cInt_ok .le) rfl (se_var 2 (by kernel_rfl) (by kernel_rfl)) se_int) (sxs_cons sx_retn
  sxs_nil) sxs_nil)
  (sxs_cons (sx_assign (sa_name 3 (by decide +kernel) (by kernel_rfl) (by kernel_rfl)) (se_list (sl_cons (se_attr pok rfl (se_var 0 (by kernel_rfl) (by kernel_rfl)) (fun _ => rfl)) sl_nil (fun _ => rfl))) (fun _ => rfl) (fun _ => rfl) (fun _ => rfl))
  (sxs_cons (sx_while (c := t_close_gap_1) (a := b_close_gap_1) (st_cm (cInt_ok .gt) rfl (se_call no_len kp_len (sf_len (dp := 0)) (by decide) (by kernel_rfl) (by kernel_rfl) (sl_cons (se_var 3 (by kernel_rfl) (by kernel_rfl)) sl_nil (fun _ => rfl)) (fun _ => rfl) (fun _ _ => rfl) (fun _ => rfl)) se_int) (sxs_cons (sx_assign (sa_name 4 (by decide +kernel) (by kernel_rfl) (by kernel_rfl)) (se_pop (se_var 3 (by kernel_rfl) (by kernel_rfl)) (fun _ => ⟨_, rfl⟩)) (fun _ => rfl) (fun _ => rfl) (fun _ => rfl))
  (sxs_cons (sx_if (st_cm cIsNot_ok rfl (se_var 4 (by kernel_rfl) (by kernel_rfl)) se_none) (sxs_cons (sx_expr (se_call no_hand_down kp_hand_down sf_hand_down (by decide) (by kernel_rfl) (by kernel_rfl) (sl_cons (se_var 4 (by kernel_rfl) (by kernel_rfl)) sl_nil (fun _ => rfl)) (fun _ => rfl) (fun _ _ => rfl) (fun _ => rfl)) (fun _ => rfl))
  (sxs_cons (sx_if (st_cm (cInt_ok .gt) rfl (se_attr pok rfl (se_var 4 (by kernel_rfl) (by kernel_rfl)) (fun _ => rfl)) (se_var 1 (by kernel_rfl) (by kernel_rfl))) (sxs_cons (sx_if (st_and (st_cm cIsNot_ok rfl (se_attr pok rfl (se_var 4 (by kernel_rfl) (by kernel_rfl)) (fun _ => rfl)) se_none) (st_cm (cInt_ok .gt) rfl (se_attr pok rfl (se_var 4 (by kernel_rfl) (by kernel_rfl)) (fun _ => rfl)) (se_bin (o := .add) (se_var 1 (by kernel_rfl) (by kernel_rfl)) (se_var 2 (by kernel_rfl) (by kernel_rfl))))) (sxs_cons (sx_assign (sa_attr pok rfl (se_attr pok rfl (se_var 4 (by kernel_rfl) (by kernel_rfl)) (fun _ => rfl))) (se_bin (o := .sub) (se_attr pok rfl (se_attr pok rfl (se_var 4 (by kernel_rfl) (by kernel_rfl)) (fun _ => rfl)) (fun _ => rfl)) (se_var 2 (by kernel_rfl) (by kernel_rfl))) (fun _ => rfl) (fun _ => rfl) (fun _ => rfl))
  sxs_nil) (sxs_cons (sx_expr (se_app (se_var 3 (by kernel_rfl) (by kernel_rfl)) (se_attr pok rfl (se_var 4 (by kernel_rfl) (by kernel_rfl)) (fun _ => rfl)) (fun _ => ⟨_, rfl⟩) (fun _ => rfl)) (fun _ => rfl))
  sxs_nil))
  (sxs_cons (sx_expr (se_app (se_var 3 (by kernel_rfl) (by kernel_rfl)) (se_attr pok rfl (se_var 4 (by kernel_rfl) (by kernel_rfl)) (fun _ => rfl)) (fun _ => ⟨_, rfl⟩) (fun _ => rfl)) (fun _ => rfl))
  (sxs_cons (sx_if (st_cm (cInt_ok .gt) rfl (se_attr pok rfl (se_var 4 (by kernel_rfl) (by kernel_rfl)) (fun _ => rfl)) (se_var 1 (by kernel_rfl) (by kernel_rfl))) (sxs_cons (sx_assign (sa_attr pok rfl (se_var 4 (by kernel_rfl) (by kernel_rfl))) (se_call no_max kp_max (sf_max (dp := 0)) (by decide) (by kernel_rfl) (by kernel_rfl) (sl_cons (se_var 1 (by kernel_rfl) (by kernel_rfl)) (sl_cons (se_bin (o := .sub) (se_attr pok rfl (se_var 4 (by kernel_rfl) (by kernel_rfl)) (fun _ => rfl)) (se_var 2 (by kernel_rfl) (by kernel_rfl))) sl_nil (fun _ => rfl)) (fun _ => rfl)) (fun _ => rfl) (fun _ _ => rfl) (fun _ => rfl)) (fun _ => rfl) (fun _ => rfl) (fun _ => rfl))
  sxs_nil) sxs_nil)
  (sxs_cons (sx_if (st_cm (cInt_ok .gt) rfl (se_attr pok rfl (se_var 4 (by kernel_rfl) (by kernel_rfl)) (fun _ => rfl)) (se_var 1 (by kernel_rfl) (by kernel_rfl))) (sxs_cons (sx_assign (sa_attr pok rfl (se_var 4 (by kernel_rfl) (by kernel_rfl))) (se_call no_max kp_max (sf_max (dp := 0)) (by decide) (by kernel_rfl) (by kernel_rfl) (sl_cons (se_var 1 (by kernel_rfl) (by kernel_rfl)) (sl_cons (se_bin (o := .sub) (se_attr pok rfl (se_var 4 (by kernel_rfl) (by kernel_rfl)) (fun _ => rfl)) (se_var 2 (by kernel_rfl) (by kernel_rfl))) sl_nil (fun _ => rfl)) (fun _ => rfl)) (fun _ => rfl) (fun _ _ => rfl) (fun _ => rfl)) (fun _ => rfl) (fun _ => rfl) (fun _ => rfl))
  sxs_nil) sxs_nil)
  (sxs_cons (sx_expr (se_call no_renew_limits kp_renew_limits sf_renew_limits (by decide) (by kernel_rfl) (by kernel_rfl) (sl_cons (se_var 4 (by kernel_rfl) (by kernel_rfl)) sl_nil (fun _ => rfl)) (fun _ => rfl) (fun _ _ => rfl) (fun _ => rfl)) (fun _ => rfl))
  sxs_nil))))) sxs_nil)
  sxs_nil)) sxs_nil)
  sxs_nil)))
  sxs_nil)))
  rfl rfl rfl (by decide)

noncomputable def n_black_height : List Str := [(Str.ofString "node"), (Str.ofString "heights"), (Str.ofString "left"), (Str.ofString "right")]
noncomputable def s_black_height : DS :=
  (dsSeq (dsAssign (daName 2) (dIte (dCm cIsNot (dAttr .left (dVar 0)) dNone) (dGetD (dVar 1) (dCons (dAttr .number (dAttr .left (dVar 0))) (dCons (dInt 0) dNil))) (dInt 0)))
  (dsSeq (dsAssign (daName 3) (dIte (dCm cIsNot (dAttr .right (dVar 0)) dNone) (dGetD (dVar 1) (dCons (dAttr .number (dAttr .right (dVar 0))) (dCons (dInt 0) dNil))) (dInt 0)))
  (dsSeq (dsIf (dOr (dCm (cInt .lt) (dVar 2) (dInt 0)) (dCm (cInt .ne) (dVar 2) (dVar 3)))
  (dsSeq (dsRet (dInt (-1)))
  dsNil)
  dsNil)
  (dsSeq (dsRet (dIte (dAttr .red (dVar 0)) (dVar 2) (dBin .add (dVar 2) (dInt 1))))
  dsNil))))
noncomputable def g_black_height : List V → St → Option (V × St) := dFun 2 4 s_black_height
theorem sf_black_height {prog : Program} {w : World} {p : Program} {loose : List Str} {mean : ExcName → Option Value} {mg mb : Str → Option Value} : SF (PG prog w p loose mean mg mb) 1 (.ref 236) g_black_height :=
  sf_def (P := PG prog w p loose mean mg mb) (dp := 0) (names := n_black_height) (ps := [(Str.ofString "node"), (Str.ofString "heights")]) (d := s_black_height) (ho := rfl) (by kernel_rfl) (fun vals h => by
    obtain ⟨v0, v1, rfl⟩ := len_2 h
    rfl) (hps_app (rest := [(Str.ofString "left"), (Str.ofString "right")]) rfl) (by decide +kernel) (loc_of (by kernel_rfl)) rfl
  (sxs_cons (sx_assign (sa_name 2 (by decide +kernel) (by kernel_rfl) (by kernel_rfl)) (se_ite (st_cm cIsNot_ok rfl (se_attr pok rfl (se_var 0 (by kernel_rfl) (by kernel_rfl)) (fun _ => rfl)) se_none) (se_getd (se_var 1 (by kernel_rfl) (by kernel_rfl)) (sl_cons (se_attr pok rfl (se_attr pok rfl (se_var 0 (by kernel_rfl) (by kernel_rfl)) (fun _ => rfl)) (fun _ => rfl)) (sl_cons se_int sl_nil (fun _ => rfl)) (fun _ => rfl)) (fun _ => ⟨_, rfl⟩) (fun _ => rfl)) se_int) (fun _ => rfl) (fun _ => rfl) (fun _ => rfl))
  (sxs_cons (sx_assign (sa_name 3 (by decide +kernel) (by kernel_rfl) (by kernel_rfl)) (se_ite (st_cm cIsNot_ok rfl (se_attr pok rfl (se_var 0 (by kernel_rfl) (by kernel_rfl)) (fun _ => rfl)) se_none) (se_getd (se_var 1 (by kernel_rfl) (by kernel_rfl)) (sl_cons (se_attr pok rfl (se_attr pok rfl (se_var 0 (by kernel_rfl) (by kernel_rfl)) (fun _ => rfl)) (fun _ => rfl)) (sl_cons se_int sl_nil (fun _ => rfl)) (fun _ => rfl)) (fun _ => ⟨_, rfl⟩) (fun _ => rfl)) se_int) (fun _ => rfl) (fun _ => rfl) (fun _ => rfl))
  (sxs_cons (sx_if (st_or (st_cm (cInt_ok .lt) rfl (se_var 2 (by kernel_rfl) (by kernel_rfl)) se_int) (st_cm (cInt_ok .ne) rfl (se_var 2 (by kernel_rfl) (by kernel_rfl)) (se_var 3 (by kernel_rfl) (by kernel_rfl)))) (sxs_cons (sx_ret se_neg)
  sxs_nil) sxs_nil)
  (sxs_cons (sx_ret (se_ite (st_of_se (se_attr pok rfl (se_var 0 (by kernel_rfl) (by kernel_rfl)) (fun _ => rfl)) (fun _ _ => rfl)) (se_var 2 (by kernel_rfl) (by kernel_rfl)) (se_bin (o := .add) (se_var 2 (by kernel_rfl) (by kernel_rfl)) se_int)))
  sxs_nil))))
  rfl rfl rfl (by decide)
noncomputable def n_nodes_from_below : List Str := [(Str.ofString "tree"), (Str.ofString "found"), (Str.ofString "waiting"), (Str.ofString "node")]
noncomputable def t_nodes_from_below_1 : DE := (dCm (cInt .gt) (dCall gLen (dCons (dVar 2) dNil)) (dInt 0))
noncomputable def b_nodes_from_below_1 : DS :=
  (dsSeq (dsAssign (daName 3) (dPop (dVar 2)))
  (dsSeq (dsIf (dCm cIsNot (dVar 3) dNone)
  (dsSeq (dsExpr (dCall g_hand_down (dCons (dVar 3) dNil)))
  (dsSeq (dsExpr (dApp (dVar 1) (dVar 3)))
  (dsSeq (dsExpr (dApp (dVar 2) (dAttr .left (dVar 3))))
  (dsSeq (dsExpr (dApp (dVar 2) (dAttr .right (dVar 3))))
  dsNil))))
  dsNil)
  dsNil))
noncomputable def s_nodes_from_below : DS :=
  (dsSeq (dsAssign (daName 1) (dList dNil))
  (dsSeq (dsAssign (daName 2) (dList (dCons (dAttr .root (dVar 0)) dNil)))
  (dsSeq (dsWhile t_nodes_from_below_1 b_nodes_from_below_1)
  (dsSeq (dsRet (dRev (dVar 1)))
  dsNil))))
noncomputable def g_nodes_from_below : List V → St → Option (V × St) := dFun 1 4 s_nodes_from_below
theorem sf_nodes_from_below {prog : Program} {w : World} {p : Program} {loose : List Str} {mean : ExcName → Option Value} {mg mb : Str → Option Value} : SF (PG prog w p loose mean mg mb) 2 (.ref 243) g_nodes_from_below :=
  sf_def (P := PG prog w p loose mean mg mb) (dp := 1) (names := n_nodes_from_below) (ps := [(Str.ofString "tree")]) (d := s_nodes_from_below) (ho := rfl) (by kernel_rfl) (fun vals h => by
    obtain ⟨v0, rfl⟩ := len_1 h
    rfl) (hps_app (rest := [(Str.ofString "found"), (Str.ofString "waiting"), (Str.ofString "node")]) rfl) (by decide +kernel) (loc_of (by kernel_rfl)) rfl
  (sxs_cons (sx_assign (sa_name 1 (by decide +kernel) (by kernel_rfl) (by kernel_rfl)) (se_list sl_nil) (fun _ => rfl) (fun _ => rfl) (fun _ => rfl))
  (sxs_cons (sx_assign (sa_name 2 (by decide +kernel) (by kernel_rfl) (by kernel_rfl)) (se_list (sl_cons (se_attr pok rfl (se_var 0 (by kernel_rfl) (by kernel_rfl)) (fun _ => rfl)) sl_nil (fun _ => rfl))) (fun _ => rfl) (fun _ => rfl) (fun _ => rfl))
  (sxs_cons (sx_while (c := t_nodes_from_below_1) (a := b_nodes_from_below_1) (st_cm (cInt_ok .gt) rfl (se_call no_len kp_len (sf_len (dp := 0)) (by decide) (by kernel_rfl) (by kernel_rfl) (sl_cons (se_var 2 (by kernel_rfl) (by kernel_rfl)) sl_nil (fun _ => rfl)) (fun _ => rfl) (fun _ _ => rfl) (fun _ => rfl)) se_int) (sxs_cons (sx_assign (sa_name 3 (by decide +kernel) (by kernel_rfl) (by kernel_rfl)) (se_pop (se_var 2 (by kernel_rfl) (by kernel_rfl)) (fun _ => ⟨_, rfl⟩)) (fun _ => rfl) (fun _ => rfl) (fun _ => rfl))
  (sxs_cons (sx_if (st_cm cIsNot_ok rfl (se_var 3 (by kernel_rfl) (by kernel_rfl)) se_none) (sxs_cons (sx_expr (se_call no_hand_down kp_hand_down sf_hand_down (by decide) (by kernel_rfl) (by kernel_rfl) (sl_cons (se_var 3 (by kernel_rfl) (by kernel_rfl)) sl_nil (fun _ => rfl)) (fun _ => rfl) (fun _ _ => rfl) (fun _ => rfl)) (fun _ => rfl))
  (sxs_cons (sx_expr (se_app (se_var 1 (by kernel_rfl) (by kernel_rfl)) (se_var 3 (by kernel_rfl) (by kernel_rfl)) (fun _ => ⟨_, rfl⟩) (fun _ => rfl)) (fun _ => rfl))
  (sxs_cons (sx_expr (se_app (se_var 2 (by kernel_rfl) (by kernel_rfl)) (se_attr pok rfl (se_var 3 (by kernel_rfl) (by kernel_rfl)) (fun _ => rfl)) (fun _ => ⟨_, rfl⟩) (fun _ => rfl)) (fun _ => rfl))
  (sxs_cons (sx_expr (se_app (se_var 2 (by kernel_rfl) (by kernel_rfl)) (se_attr pok rfl (se_var 3 (by kernel_rfl) (by kernel_rfl)) (fun _ => rfl)) (fun _ => ⟨_, rfl⟩) (fun _ => rfl)) (fun _ => rfl))
  sxs_nil)))) sxs_nil)
  sxs_nil)))
  (sxs_cons (sx_ret (se_rev (se_var 1 (by kernel_rfl) (by kernel_rfl)) (fun _ _ => rfl)))
  sxs_nil))))
  rfl rfl rfl (by decide)

noncomputable def n_shape_error : List Str := [(Str.ofString "node"), (Str.ofString "son")]
noncomputable def b_shape_error_1 : DS :=
  (dsSeq (dsIf (dCm cIsNot (dVar 1) dNone)
  (dsSeq (dsIf (dCm cIsNot (dAttr .parent (dVar 1)) (dVar 0))
  (dsSeq (dsRet (dStr (Str.ofString "parent")))
  dsNil)
  dsNil)
  (dsSeq (dsIf (dAnd (dAttr .red (dVar 0)) (dAttr .red (dVar 1)))
  (dsSeq (dsRet (dStr (Str.ofString "red")))
  dsNil)
  dsNil)
  dsNil))
  dsNil)
  dsNil)
noncomputable def s_shape_error : DS :=
  (dsSeq (dsFor (diTup (dTup (dCons (dAttr .left (dVar 0)) (dCons (dAttr .right (dVar 0)) dNil)))) (daName 1) b_shape_error_1)
  (dsSeq (dsIf (dAnd (dCm cIsNot (dAttr .left (dVar 0)) dNone) (dCm (cInt .gt) (dAttr .begin_ (dAttr .left (dVar 0))) (dAttr .begin_ (dVar 0))))
  (dsSeq (dsRet (dStr (Str.ofString "order")))
  dsNil)
  dsNil)
  (dsSeq (dsIf (dAnd (dCm cIsNot (dAttr .right (dVar 0)) dNone) (dCm (cInt .lt) (dAttr .begin_ (dAttr .right (dVar 0))) (dAttr .begin_ (dVar 0))))
  (dsSeq (dsRet (dStr (Str.ofString "order")))
  dsNil)
  dsNil)
  (dsSeq (dsRet (dIte (dCm (cInt .ne) (dAttr .limit (dVar 0)) (dCall g_greatest_end (dCons (dVar 0) dNil))) (dStr (Str.ofString "limit")) dNone))
  dsNil))))
noncomputable def g_shape_error : List V → St → Option (V × St) := dFun 1 2 s_shape_error
theorem sf_shape_error {prog : Program} {w : World} {p : Program} {loose : List Str} {mean : ExcName → Option Value} {mg mb : Str → Option Value} : SF (PG prog w p loose mean mg mb) 2 (.ref 250) g_shape_error :=
  sf_def (P := PG prog w p loose mean mg mb) (dp := 1) (names := n_shape_error) (ps := [(Str.ofString "node")]) (d := s_shape_error) (ho := rfl) (by kernel_rfl) (fun vals h => by
    obtain ⟨v0, rfl⟩ := len_1 h
    rfl) (hps_app (rest := [(Str.ofString "son")]) rfl) (by decide +kernel) (loc_of (by kernel_rfl)) rfl
  (sxs_cons (sx_for (b := b_shape_error_1) (si_tup (fun _ _ => rfl) (se_tup (sl_cons (se_attr pok rfl (se_var 0 (by kernel_rfl) (by kernel_rfl)) (fun _ => rfl)) (sl_cons (se_attr pok rfl (se_var 0 (by kernel_rfl) (by kernel_rfl)) (fun _ => rfl)) sl_nil (fun _ => rfl)) (fun _ => rfl)))) (sa_name 1 (by decide +kernel) (by kernel_rfl) (by kernel_rfl)) (sxs_cons (sx_if (st_cm cIsNot_ok rfl (se_var 1 (by kernel_rfl) (by kernel_rfl)) se_none) (sxs_cons (sx_if (st_cm cIsNot_ok rfl (se_attr pok rfl (se_var 1 (by kernel_rfl) (by kernel_rfl)) (fun _ => rfl)) (se_var 0 (by kernel_rfl) (by kernel_rfl))) (sxs_cons (sx_ret se_str)
  sxs_nil) sxs_nil)
  (sxs_cons (sx_if (st_and (st_of_se (se_attr pok rfl (se_var 0 (by kernel_rfl) (by kernel_rfl)) (fun _ => rfl)) (fun _ _ => rfl)) (st_of_se (se_attr pok rfl (se_var 1 (by kernel_rfl) (by kernel_rfl)) (fun _ => rfl)) (fun _ _ => rfl))) (sxs_cons (sx_ret se_str)
  sxs_nil) sxs_nil)
  sxs_nil)) sxs_nil)
  sxs_nil) (fun _ _ => rfl))
  (sxs_cons (sx_if (st_and (st_cm cIsNot_ok rfl (se_attr pok rfl (se_var 0 (by kernel_rfl) (by kernel_rfl)) (fun _ => rfl)) se_none) (st_cm (cInt_ok .gt) rfl (se_attr pok rfl (se_attr pok rfl (se_var 0 (by kernel_rfl) (by kernel_rfl)) (fun _ => rfl)) (fun _ => rfl)) (se_attr pok rfl (se_var 0 (by kernel_rfl) (by kernel_rfl)) (fun _ => rfl)))) (sxs_cons (sx_ret se_str)
  sxs_nil) sxs_nil)
  (sxs_cons (sx_if (st_and (st_cm cIsNot_ok rfl (se_attr pok rfl (se_var 0 (by kernel_rfl) (by kernel_rfl)) (fun _ => rfl)) se_none) (st_cm (cInt_ok .lt) rfl (se_attr pok rfl (se_attr pok rfl (se_var 0 (by kernel_rfl) (by kernel_rfl)) (fun _ => rfl)) (fun _ => rfl)) (se_attr pok rfl (se_var 0 (by kernel_rfl) (by kernel_rfl)) (fun _ => rfl)))) (sxs_cons (sx_ret se_str)
  sxs_nil) sxs_nil)
  (sxs_cons (sx_ret (se_ite (st_cm (cInt_ok .ne) rfl (se_attr pok rfl (se_var 0 (by kernel_rfl) (by kernel_rfl)) (fun _ => rfl)) (se_call no_greatest_end kp_greatest_end sf_greatest_end (by decide) (by kernel_rfl) (by kernel_rfl) (sl_cons (se_var 0 (by kernel_rfl) (by kernel_rfl)) sl_nil (fun _ => rfl)) (fun _ => rfl) (fun _ _ => rfl) (fun _ => rfl))) se_str se_none))
  sxs_nil))))
  rfl rfl rfl (by decide)

noncomputable def n_overlay_tree_error : List Str := [(Str.ofString "tree"), (Str.ofString "heights"), (Str.ofString "nodes"), (Str.ofString "node"), (Str.ofString "found")]
noncomputable def b_overlay_tree_error_1 : DS :=
  (dsSeq (dsAssign (daName 4) (dCall g_shape_error (dCons (dVar 3) dNil)))
  (dsSeq (dsIf (dCm cIsNot (dVar 4) dNone)
  (dsSeq (dsRet (dVar 4))
  dsNil)
  dsNil)
  (dsSeq (dsAssign (daSub (dVar 1) (dAttr .number (dVar 3))) (dCall g_black_height (dCons (dVar 3) (dCons (dVar 1) dNil))))
  (dsSeq (dsIf (dCm (cInt .lt) (dIdx (dVar 1) (dAttr .number (dVar 3))) (dInt 0))
  (dsSeq (dsRet (dStr (Str.ofString "height")))
  dsNil)
  dsNil)
  dsNil))))
noncomputable def s_overlay_tree_error : DS :=
  (dsSeq (dsAssign (daName 1) dDict)
  (dsSeq (dsAssign (daName 2) (dCall g_nodes_from_below (dCons (dVar 0) dNil)))
  (dsSeq (dsIf (dCm (cInt .ne) (dCall gLen (dCons (dVar 2) dNil)) (dAttr .count (dVar 0)))
  (dsSeq (dsRet (dStr (Str.ofString "count")))
  dsNil)
  dsNil)
  (dsSeq (dsFor (diList (dVar 2)) (daName 3) b_overlay_tree_error_1)
  (dsSeq (dsRet (dIte (dAnd (dCm cIsNot (dAttr .root (dVar 0)) dNone) (dOr (dAttr .red (dAttr .root (dVar 0))) (dCm cIsNot (dAttr .parent (dAttr .root (dVar 0))) dNone))) (dStr (Str.ofString "root")) dNone))
  dsNil)))))
noncomputable def g_overlay_tree_error : List V → St → Option (V × St) := dFun 1 5 s_overlay_tree_error
theorem sf_overlay_tree_error {prog : Program} {w : World} {p : Program} {loose : List Str} {mean : ExcName → Option Value} {mg mb : Str → Option Value} : SF (PG prog w p loose mean mg mb) 3 (.ref 257) g_overlay_tree_error :=
  sf_def (P := PG prog w p loose mean mg mb) (dp := 2) (names := n_overlay_tree_error) (ps := [(Str.ofString "tree")]) (d := s_overlay_tree_error) (ho := rfl) (by kernel_rfl) (fun vals h => by
    obtain ⟨v0, rfl⟩ := len_1 h
    rfl) (hps_app (rest := [(Str.ofString "heights"), (Str.ofString "nodes"), (Str.ofString "node"), (Str.ofString "found")]) rfl) (by decide +kernel) (loc_of (by kernel_rfl)) rfl
  (sxs_cons (sx_assign (sa_name 1 (by decide +kernel) (by kernel_rfl) (by kernel_rfl)) se_dict (fun _ => rfl) (fun _ => rfl) (fun _ => rfl))
  (sxs_cons (sx_assign (sa_name 2 (by decide +kernel) (by kernel_rfl) (by kernel_rfl)) (se_call no_nodes_from_below kp_nodes_from_below sf_nodes_from_below (by decide) (by kernel_rfl) (by kernel_rfl) (sl_cons (se_var 0 (by kernel_rfl) (by kernel_rfl)) sl_nil (fun _ => rfl)) (fun _ => rfl) (fun _ _ => rfl) (fun _ => rfl)) (fun _ => rfl) (fun _ => rfl) (fun _ => rfl))
  (sxs_cons (sx_if (st_cm (cInt_ok .ne) rfl (se_call no_len kp_len (sf_len (dp := 0)) (by decide) (by kernel_rfl) (by kernel_rfl) (sl_cons (se_var 2 (by kernel_rfl) (by kernel_rfl)) sl_nil (fun _ => rfl)) (fun _ => rfl) (fun _ _ => rfl) (fun _ => rfl)) (se_attr pok rfl (se_var 0 (by kernel_rfl) (by kernel_rfl)) (fun _ => rfl))) (sxs_cons (sx_ret se_str)
  sxs_nil) sxs_nil)
  (sxs_cons (sx_for (b := b_overlay_tree_error_1) (si_list (fun _ _ => rfl) (se_var 2 (by kernel_rfl) (by kernel_rfl))) (sa_name 3 (by decide +kernel) (by kernel_rfl) (by kernel_rfl)) (sxs_cons (sx_assign (sa_name 4 (by decide +kernel) (by kernel_rfl) (by kernel_rfl)) (se_call no_shape_error kp_shape_error sf_shape_error (by decide) (by kernel_rfl) (by kernel_rfl) (sl_cons (se_var 3 (by kernel_rfl) (by kernel_rfl)) sl_nil (fun _ => rfl)) (fun _ => rfl) (fun _ _ => rfl) (fun _ => rfl)) (fun _ => rfl) (fun _ => rfl) (fun _ => rfl))
  (sxs_cons (sx_if (st_cm cIsNot_ok rfl (se_var 4 (by kernel_rfl) (by kernel_rfl)) se_none) (sxs_cons (sx_ret (se_var 4 (by kernel_rfl) (by kernel_rfl)))
  sxs_nil) sxs_nil)
  (sxs_cons (sx_assign (sa_sub (se_var 1 (by kernel_rfl) (by kernel_rfl)) (se_attr pok rfl (se_var 3 (by kernel_rfl) (by kernel_rfl)) (fun _ => rfl)) (fun _ _ => rfl)) (se_call no_black_height kp_black_height sf_black_height (by decide) (by kernel_rfl) (by kernel_rfl) (sl_cons (se_var 3 (by kernel_rfl) (by kernel_rfl)) (sl_cons (se_var 1 (by kernel_rfl) (by kernel_rfl)) sl_nil (fun _ => rfl)) (fun _ => rfl)) (fun _ => rfl) (fun _ _ => rfl) (fun _ => rfl)) (fun _ => rfl) (fun _ => rfl) (fun _ => rfl))
  (sxs_cons (sx_if (st_cm (cInt_ok .lt) rfl (se_idx (se_var 1 (by kernel_rfl) (by kernel_rfl)) (se_attr pok rfl (se_var 3 (by kernel_rfl) (by kernel_rfl)) (fun _ => rfl)) (fun _ _ => rfl)) se_int) (sxs_cons (sx_ret se_str)
  sxs_nil) sxs_nil)
  sxs_nil)))) (fun _ _ => rfl))
  (sxs_cons (sx_ret (se_ite (st_and (st_cm cIsNot_ok rfl (se_attr pok rfl (se_var 0 (by kernel_rfl) (by kernel_rfl)) (fun _ => rfl)) se_none) (st_or (st_of_se (se_attr pok rfl (se_attr pok rfl (se_var 0 (by kernel_rfl) (by kernel_rfl)) (fun _ => rfl)) (fun _ => rfl)) (fun _ _ => rfl)) (st_cm cIsNot_ok rfl (se_attr pok rfl (se_attr pok rfl (se_var 0 (by kernel_rfl) (by kernel_rfl)) (fun _ => rfl)) (fun _ => rfl)) se_none))) se_str se_none))
  sxs_nil)))))
  rfl rfl rfl (by decide)
noncomputable def ds_Node : List (Str × DE) := [(Fld.number.name, dVar 0), (Fld.begin_.name, dVar 1), (Fld.end_.name, dVar 2), (Fld.front.name, dVar 3), (Fld.rear.name, dVar 4), (Fld.limit.name, dVar 2), (Fld.offset.name, dInt 0), (Fld.red.name, dBool false),
  (Fld.left.name, dNone), (Fld.right.name, dNone), (Fld.parent.name, dNone)]
noncomputable def ds_Tree : List (Str × DE) := [(Fld.root.name, dNone), (Fld.count.name, dInt 0)]
noncomputable def n_Node : List Str := [Str.ofString "number", Str.ofString "begin", Str.ofString "end", Str.ofString "front_advance", Str.ofString "rear_advance"]
theorem sf_Node {prog : Program} {w : World} {p : Program} {loose : List Str} {mean : ExcName → Option Value} {mg mb : Str → Option Value} : SF (PG prog w p loose mean mg mb) 2 (.ref 31) g_Node :=
  sf_cls (P := PG prog w p loose mean mg mb) (dp := 0) (fa := 28) (self := Str.ofString "self") (ps := n_Node) (fs := ds_Node) (mk := mkNode) (by kernel_rfl) (by kernel_rfl) (by kernel_rfl) (by kernel_rfl) (ho := rfl) (by kernel_rfl)
    (fun vals h => by
      obtain ⟨a, b, c, d, e, f, rfl⟩ := len_6 h
      rfl) (by decide +kernel) (loc_of (by kernel_rfl)) rfl (by decide)
    (IB.cons (se_var 0 (by kernel_rfl) (by kernel_rfl)) (by decide +kernel) (fun _ => rfl) (fun _ => rfl) (fun _ => rfl) (IB.cons (se_var 1 (by kernel_rfl) (by kernel_rfl)) (by decide +kernel) (fun _ => rfl) (fun _ => rfl) (fun _ => rfl) (IB.cons (se_var 2 (by kernel_rfl) (by kernel_rfl)) (by decide +kernel) (fun _ => rfl) (fun _ => rfl) (fun _ => rfl) (IB.cons (se_var 3 (by kernel_rfl) (by kernel_rfl)) (by decide +kernel) (fun _ => rfl) (fun _ => rfl) (fun _ => rfl) (IB.cons (se_var 4 (by kernel_rfl) (by kernel_rfl)) (by decide +kernel) (fun _ => rfl) (fun _ => rfl) (fun _ => rfl) (IB.cons (se_var 2 (by kernel_rfl) (by kernel_rfl)) (by decide +kernel) (fun _ => rfl) (fun _ => rfl) (fun _ => rfl) (IB.cons se_int (by decide +kernel) (fun _ => rfl) (fun _ => rfl) (fun _ => rfl) (IB.cons se_bool (by decide +kernel) (fun _ => rfl) (fun _ => rfl) (fun _ => rfl) (IB.cons se_none (by decide +kernel) (fun _ => rfl) (fun _ => rfl) (fun _ => rfl) (IB.cons se_none (by decide +kernel) (fun _ => rfl) (fun _ => rfl) (fun _ => rfl) (IB.cons se_none (by decide +kernel) (fun _ => rfl) (fun _ => rfl) (fun _ => rfl) IB.nil)))))))))))
    (by decide +kernel) (by decide) rfl rfl rfl (by decide) (fun vs mo h => by
      obtain ⟨n, b, e, f, r, rfl, rfl⟩ := mkNode_inv h
      exact ⟨rfl, [.int n, .int b, .int e, .bool f, .bool r, .int e, .int 0, .bool false, .none, .none, .none], ⟨fun _ => rfl, fun _ => rfl, fun _ => rfl, fun _ => rfl, fun _ => rfl, fun _ => rfl, fun _ => rfl, fun _ => rfl, fun _ => rfl, fun _ => rfl, fun _ => rfl, trivial⟩, rfl, rfl⟩)
theorem sf_Tree {prog : Program} {w : World} {p : Program} {loose : List Str} {mean : ExcName → Option Value} {mg mb : Str → Option Value} : SF (PG prog w p loose mean mg mb) 2 (.ref 52) g_Tree :=
  sf_cls (P := PG prog w p loose mean mg mb) (dp := 0) (fa := 49) (self := Str.ofString "self") (ps := []) (fs := ds_Tree) (mk := mkTree) (by kernel_rfl) (by kernel_rfl) (by kernel_rfl) (by kernel_rfl) (ho := rfl) (by kernel_rfl)
    (fun vals h => by
      obtain ⟨a, rfl⟩ := len_1 h
      rfl) (by decide +kernel) (loc_of (by kernel_rfl)) rfl (by decide)
    (IB.cons se_none (by decide +kernel) (fun _ => rfl) (fun _ => rfl) (fun _ => rfl) (IB.cons se_int (by decide +kernel) (fun _ => rfl) (fun _ => rfl) (fun _ => rfl) IB.nil))
    (by decide +kernel) (by decide) rfl rfl rfl (by decide) (fun vs mo h => by
      unfold mkTree at h
      split at h
      · cases h
        exact ⟨rfl, [.none, .int 0], ⟨fun _ => rfl, fun _ => rfl, trivial⟩, rfl, rfl⟩
      · cases h)
noncomputable def n_law_draw : List Str := [(Str.ofString "deck"), (Str.ofString "many")]
noncomputable def s_law_draw : DS :=
  (dsSeq (dsAssign (daSub (dVar 0) (dInt 1)) (dBin .add (dIdx (dVar 0) (dInt 1)) (dInt 1)))
  (dsSeq (dsIf (dCm (cInt .le) (dIdx (dVar 0) (dInt 1)) (dCall gLen (dCons (dIdx (dVar 0) (dInt 0)) dNil)))
  (dsSeq (dsRet (dBin .mod (dIdx (dIdx (dVar 0) (dInt 0)) (dBin .sub (dIdx (dVar 0) (dInt 1)) (dInt 1))) (dVar 1)))
  dsNil)
  dsNil)
  (dsSeq (dsRet (dBin .mod (dBin .fdiv (dBin .add (dBin .add (dBin .mul (dBin .mul (dIdx (dVar 0) (dInt 1)) (dIdx (dVar 0) (dInt 1))) (dInt 43)) (dBin .mul (dInt 17) (dIdx (dVar 0) (dInt 1)))) (dBin .mul (dInt 3) (dCall gLen (dCons (dIdx (dVar 0) (dInt 0)) dNil)))) (dInt 4)) (dVar 1)))
  dsNil)))
noncomputable def g_law_draw : List V → St → Option (V × St) := dFun 2 2 s_law_draw
theorem sf_law_draw {prog : Program} {w : World} {p : Program} {loose : List Str} {mean : ExcName → Option Value} {mg mb : Str → Option Value} : SF (PG prog w p loose mean mg mb) 1 (.ref 264) g_law_draw :=
  sf_def (P := PG prog w p loose mean mg mb) (dp := 0) (names := n_law_draw) (ps := [(Str.ofString "deck"), (Str.ofString "many")]) (d := s_law_draw) (ho := rfl) (by kernel_rfl) (fun vals h => by
    obtain ⟨v0, v1, rfl⟩ := len_2 h
    rfl) (hps_app (rest := []) rfl) (by decide +kernel) (loc_of (by kernel_rfl)) rfl
  (sxs_cons (sx_assign (sa_sub (se_var 0 (by kernel_rfl) (by kernel_rfl)) se_int (fun _ _ => rfl)) (se_bin (o := .add) (se_idx (se_var 0 (by kernel_rfl) (by kernel_rfl)) se_int (fun _ _ => rfl)) se_int) (fun _ => rfl) (fun _ => rfl) (fun _ => rfl))
  (sxs_cons (sx_if (st_cm (cInt_ok .le) rfl (se_idx (se_var 0 (by kernel_rfl) (by kernel_rfl)) se_int (fun _ _ => rfl)) (se_call no_len kp_len (sf_len (dp := 0)) (by decide) (by kernel_rfl) (by kernel_rfl) (sl_cons (se_idx (se_var 0 (by kernel_rfl) (by kernel_rfl)) se_int (fun _ _ => rfl)) sl_nil (fun _ => rfl)) (fun _ => rfl) (fun _ _ => rfl) (fun _ => rfl))) (sxs_cons (sx_ret (se_bin (o := .mod) (se_idx (se_idx (se_var 0 (by kernel_rfl) (by kernel_rfl)) se_int (fun _ _ => rfl)) (se_bin (o := .sub) (se_idx (se_var 0 (by kernel_rfl) (by kernel_rfl)) se_int (fun _ _ => rfl)) se_int) (fun _ _ => rfl)) (se_var 1 (by kernel_rfl) (by kernel_rfl))))
  sxs_nil) sxs_nil)
  (sxs_cons (sx_ret (se_bin (o := .mod) (se_bin (o := .fdiv) (se_bin (o := .add) (se_bin (o := .add) (se_bin (o := .mul) (se_bin (o := .mul) (se_idx (se_var 0 (by kernel_rfl) (by kernel_rfl)) se_int (fun _ _ => rfl)) (se_idx (se_var 0 (by kernel_rfl) (by kernel_rfl)) se_int (fun _ _ => rfl))) se_int) (se_bin (o := .mul) se_int (se_idx (se_var 0 (by kernel_rfl) (by kernel_rfl)) se_int (fun _ _ => rfl)))) (se_bin (o := .mul) se_int (se_call no_len kp_len (sf_len (dp := 0)) (by decide) (by kernel_rfl) (by kernel_rfl) (sl_cons (se_idx (se_var 0 (by kernel_rfl) (by kernel_rfl)) se_int (fun _ _ => rfl)) sl_nil (fun _ => rfl)) (fun _ => rfl) (fun _ _ => rfl) (fun _ => rfl)))) se_int) (se_var 1 (by kernel_rfl) (by kernel_rfl))))
  sxs_nil)))
  rfl rfl rfl (by decide)

noncomputable def n_law_tree : List Str := [(Str.ofString "lines"), (Str.ofString "tree"), (Str.ofString "number"), (Str.ofString "begin"), (Str.ofString "end"), (Str.ofString "front"), (Str.ofString "rear")]
noncomputable def b_law_tree_1 : DS :=
  (dsSeq (dsExpr (dCall g_put_node (dCons (dVar 1) (dCons (dCall g_Node (dCons (dVar 2) (dCons (dVar 3) (dCons (dVar 4) (dCons (dVar 5) (dCons (dVar 6) dNil)))))) dNil))))
  dsNil)
noncomputable def s_law_tree : DS :=
  (dsSeq (dsAssign (daName 1) (dCall g_Tree dNil))
  (dsSeq (dsFor (diEnum (dCons (dVar 0) dNil)) (daTup [(daName 2), (daTup [(daName 3), (daName 4), (daName 5), (daName 6)])]) b_law_tree_1)
  (dsSeq (dsRet (dVar 1))
  dsNil)))
noncomputable def g_law_tree : List V → St → Option (V × St) := dFun 1 7 s_law_tree
theorem sf_law_tree {prog : Program} {w : World} {p : Program} {loose : List Str} {mean : ExcName → Option Value} {mg mb : Str → Option Value} : SF (PG prog w p loose mean mg mb) 6 (.ref 271) g_law_tree :=
  sf_def (P := PG prog w p loose mean mg mb) (dp := 5) (names := n_law_tree) (ps := [(Str.ofString "lines")]) (d := s_law_tree) (ho := rfl) (by kernel_rfl) (fun vals h => by
    obtain ⟨v0, rfl⟩ := len_1 h
    rfl) (hps_app (rest := [(Str.ofString "tree"), (Str.ofString "number"), (Str.ofString "begin"), (Str.ofString "end"), (Str.ofString "front"), (Str.ofString "rear")]) rfl) (by decide +kernel) (loc_of (by kernel_rfl)) rfl
  (sxs_cons (sx_assign (sa_name 1 (by decide +kernel) (by kernel_rfl) (by kernel_rfl)) (se_call no_OverlayTree kp_OverlayTree sf_Tree (by decide) (by kernel_rfl) (by kernel_rfl) sl_nil (fun _ => rfl) (fun _ _ => rfl) (fun _ => trivial)) (fun _ => rfl) (fun _ => rfl) (fun _ => rfl))
  (sxs_cons (sx_for (b := b_law_tree_1) (si_enum no_enumerate (by kernel_rfl) (sl_cons (se_var 0 (by kernel_rfl) (by kernel_rfl)) sl_nil (fun _ => rfl)) (fun _ _ => rfl) (fun _ => rfl)) (sa_tup (.cons (sa_name 2 (by decide +kernel) (by kernel_rfl) (by kernel_rfl)) (fun _ => rfl) (.cons (sa_tup (.cons (sa_name 3 (by decide +kernel) (by kernel_rfl) (by kernel_rfl)) (fun _ => rfl) (.cons (sa_name 4 (by decide +kernel) (by kernel_rfl) (by kernel_rfl)) (fun _ => rfl) (.cons (sa_name 5 (by decide +kernel) (by kernel_rfl) (by kernel_rfl)) (fun _ => rfl) (.cons (sa_name 6 (by decide +kernel) (by kernel_rfl) (by kernel_rfl)) (fun _ => rfl) .nil))))) (fun _ => rfl) .nil))) (sxs_cons (sx_expr (se_call no_put_node kp_put_node sf_put_node (by decide) (by kernel_rfl) (by kernel_rfl) (sl_cons (se_var 1 (by kernel_rfl) (by kernel_rfl)) (sl_cons (se_call no_OverlayNode kp_OverlayNode sf_Node (by decide) (by kernel_rfl) (by kernel_rfl) (sl_cons (se_var 2 (by kernel_rfl) (by kernel_rfl)) (sl_cons (se_var 3 (by kernel_rfl) (by kernel_rfl)) (sl_cons (se_var 4 (by kernel_rfl) (by kernel_rfl)) (sl_cons (se_var 5 (by kernel_rfl) (by kernel_rfl)) (sl_cons (se_var 6 (by kernel_rfl) (by kernel_rfl)) sl_nil (fun _ => rfl)) (fun _ => rfl)) (fun _ => rfl)) (fun _ => rfl)) (fun _ => rfl)) (fun _ => rfl) (fun _ _ => rfl) (fun _ => rfl)) sl_nil (fun _ => rfl)) (fun _ => rfl)) (fun _ => rfl) (fun _ _ => rfl) (fun _ => rfl)) (fun _ => rfl))
  sxs_nil) (fun _ _ => rfl))
  (sxs_cons (sx_ret (se_var 1 (by kernel_rfl) (by kernel_rfl)))
  sxs_nil)))
  rfl rfl rfl (by decide)

noncomputable def n_law_edit : List Str := [(Str.ofString "deck"), (Str.ofString "low"), (Str.ofString "high"), (Str.ofString "at")]
noncomputable def s_law_edit : DS :=
  (dsSeq (dsAssign (daName 3) (dBin .add (dVar 1) (dCall g_law_draw (dCons (dVar 0) (dCons (dBin .add (dBin .sub (dVar 2) (dVar 1)) (dInt 1)) dNil)))))
  (dsSeq (dsIf (dCm (cInt .eq) (dCall g_law_draw (dCons (dVar 0) (dCons (dInt 2) dNil))) (dInt 0))
  (dsSeq (dsRet (dTup (dCons (dVar 3) (dCons (dBin .add (dInt 1) (dCall g_law_draw (dCons (dVar 0) (dCons (dInt 3) dNil)))) (dCons (dCm (cInt .eq) (dCall g_law_draw (dCons (dVar 0) (dCons (dInt 3) dNil))) (dInt 2)) dNil)))))
  dsNil)
  dsNil)
  (dsSeq (dsRet (dTup (dCons (dVar 3) (dCons (dBin .sub (dInt 0) (dCall g_law_draw (dCons (dVar 0) (dCons (dBin .add (dBin .sub (dVar 2) (dVar 3)) (dInt 1)) dNil)))) (dCons (dBool false) dNil)))))
  dsNil)))
noncomputable def g_law_edit : List V → St → Option (V × St) := dFun 3 4 s_law_edit
theorem sf_law_edit {prog : Program} {w : World} {p : Program} {loose : List Str} {mean : ExcName → Option Value} {mg mb : Str → Option Value} : SF (PG prog w p loose mean mg mb) 2 (.ref 278) g_law_edit :=
  sf_def (P := PG prog w p loose mean mg mb) (dp := 1) (names := n_law_edit) (ps := [(Str.ofString "deck"), (Str.ofString "low"), (Str.ofString "high")]) (d := s_law_edit) (ho := rfl) (by kernel_rfl) (fun vals h => by
    obtain ⟨v0, v1, v2, rfl⟩ := len_3 h
    rfl) (hps_app (rest := [(Str.ofString "at")]) rfl) (by decide +kernel) (loc_of (by kernel_rfl)) rfl
  (sxs_cons (sx_assign (sa_name 3 (by decide +kernel) (by kernel_rfl) (by kernel_rfl)) (se_bin (o := .add) (se_var 1 (by kernel_rfl) (by kernel_rfl)) (se_call no_law_draw kp_law_draw sf_law_draw (by decide) (by kernel_rfl) (by kernel_rfl) (sl_cons (se_var 0 (by kernel_rfl) (by kernel_rfl)) (sl_cons (se_bin (o := .add) (se_bin (o := .sub) (se_var 2 (by kernel_rfl) (by kernel_rfl)) (se_var 1 (by kernel_rfl) (by kernel_rfl))) se_int) sl_nil (fun _ => rfl)) (fun _ => rfl)) (fun _ => rfl) (fun _ _ => rfl) (fun _ => rfl))) (fun _ => rfl) (fun _ => rfl) (fun _ => rfl))
  (sxs_cons (sx_if (st_cm (cInt_ok .eq) rfl (se_call no_law_draw kp_law_draw sf_law_draw (by decide) (by kernel_rfl) (by kernel_rfl) (sl_cons (se_var 0 (by kernel_rfl) (by kernel_rfl)) (sl_cons se_int sl_nil (fun _ => rfl)) (fun _ => rfl)) (fun _ => rfl) (fun _ _ => rfl) (fun _ => rfl)) se_int) (sxs_cons (sx_ret (se_tup (sl_cons (se_var 3 (by kernel_rfl) (by kernel_rfl)) (sl_cons (se_bin (o := .add) se_int (se_call no_law_draw kp_law_draw sf_law_draw (by decide) (by kernel_rfl) (by kernel_rfl) (sl_cons (se_var 0 (by kernel_rfl) (by kernel_rfl)) (sl_cons se_int sl_nil (fun _ => rfl)) (fun _ => rfl)) (fun _ => rfl) (fun _ _ => rfl) (fun _ => rfl))) (sl_cons (se_cm (cInt_ok .eq) rfl (se_call no_law_draw kp_law_draw sf_law_draw (by decide) (by kernel_rfl) (by kernel_rfl) (sl_cons (se_var 0 (by kernel_rfl) (by kernel_rfl)) (sl_cons se_int sl_nil (fun _ => rfl)) (fun _ => rfl)) (fun _ => rfl) (fun _ _ => rfl) (fun _ => rfl)) se_int) sl_nil (fun _ => rfl)) (fun _ => rfl)) (fun _ => rfl))))
  sxs_nil) sxs_nil)
  (sxs_cons (sx_ret (se_tup (sl_cons (se_var 3 (by kernel_rfl) (by kernel_rfl)) (sl_cons (se_bin (o := .sub) se_int (se_call no_law_draw kp_law_draw sf_law_draw (by decide) (by kernel_rfl) (by kernel_rfl) (sl_cons (se_var 0 (by kernel_rfl) (by kernel_rfl)) (sl_cons (se_bin (o := .add) (se_bin (o := .sub) (se_var 2 (by kernel_rfl) (by kernel_rfl)) (se_var 3 (by kernel_rfl) (by kernel_rfl))) se_int) sl_nil (fun _ => rfl)) (fun _ => rfl)) (fun _ => rfl) (fun _ _ => rfl) (fun _ => rfl))) (sl_cons se_bool sl_nil (fun _ => rfl)) (fun _ => rfl)) (fun _ => rfl))))
  sxs_nil)))
  rfl rfl rfl (by decide)

noncomputable def n_law_done : List Str := [(Str.ofString "tree"), (Str.ofString "edit"), (Str.ofString "my_shift")]
noncomputable def s_law_done : DS :=
  (dsSeq (dsIf (dCm (cInt .gt) (dIdx (dVar 1) (dInt 1)) (dInt 0))
  (dsSeq (dsExpr (dCall g_open_gap (dCons (dVar 0) (dCons (dBin .add (dIdx (dVar 1) (dInt 0)) (dVar 2)) (dCons (dIdx (dVar 1) (dInt 1)) (dCons (dIdx (dVar 1) (dInt 2)) dNil))))))
  dsNil)
  (dsSeq (dsExpr (dCall g_close_gap (dCons (dVar 0) (dCons (dBin .add (dIdx (dVar 1) (dInt 0)) (dVar 2)) (dCons (dBin .sub (dInt 0) (dIdx (dVar 1) (dInt 1))) dNil)))))
  dsNil))
  dsNil)
noncomputable def g_law_done : List V → St → Option (V × St) := dFun 3 3 s_law_done
theorem sf_law_done {prog : Program} {w : World} {p : Program} {loose : List Str} {mean : ExcName → Option Value} {mg mb : Str → Option Value} : SF (PG prog w p loose mean mg mb) 8 (.ref 285) g_law_done :=
  sf_def (P := PG prog w p loose mean mg mb) (dp := 7) (names := n_law_done) (ps := [(Str.ofString "tree"), (Str.ofString "edit"), (Str.ofString "my_shift")]) (d := s_law_done) (ho := rfl) (by kernel_rfl) (fun vals h => by
    obtain ⟨v0, v1, v2, rfl⟩ := len_3 h
    rfl) (hps_app (rest := []) rfl) (by decide +kernel) (loc_of (by kernel_rfl)) rfl
  (sxs_cons (sx_if (st_cm (cInt_ok .gt) rfl (se_idx (se_var 1 (by kernel_rfl) (by kernel_rfl)) se_int (fun _ _ => rfl)) se_int) (sxs_cons (sx_expr (se_call no_open_gap kp_open_gap sf_open_gap (by decide) (by kernel_rfl) (by kernel_rfl) (sl_cons (se_var 0 (by kernel_rfl) (by kernel_rfl)) (sl_cons (se_bin (o := .add) (se_idx (se_var 1 (by kernel_rfl) (by kernel_rfl)) se_int (fun _ _ => rfl)) (se_var 2 (by kernel_rfl) (by kernel_rfl))) (sl_cons (se_idx (se_var 1 (by kernel_rfl) (by kernel_rfl)) se_int (fun _ _ => rfl)) (sl_cons (se_idx (se_var 1 (by kernel_rfl) (by kernel_rfl)) se_int (fun _ _ => rfl)) sl_nil (fun _ => rfl)) (fun _ => rfl)) (fun _ => rfl)) (fun _ => rfl)) (fun _ => rfl) (fun _ _ => rfl) (fun _ => rfl)) (fun _ => rfl))
  sxs_nil) (sxs_cons (sx_expr (se_call no_close_gap kp_close_gap sf_close_gap (by decide) (by kernel_rfl) (by kernel_rfl) (sl_cons (se_var 0 (by kernel_rfl) (by kernel_rfl)) (sl_cons (se_bin (o := .add) (se_idx (se_var 1 (by kernel_rfl) (by kernel_rfl)) se_int (fun _ _ => rfl)) (se_var 2 (by kernel_rfl) (by kernel_rfl))) (sl_cons (se_bin (o := .sub) se_int (se_idx (se_var 1 (by kernel_rfl) (by kernel_rfl)) se_int (fun _ _ => rfl))) sl_nil (fun _ => rfl)) (fun _ => rfl)) (fun _ => rfl)) (fun _ => rfl) (fun _ _ => rfl) (fun _ => rfl)) (fun _ => rfl))
  sxs_nil))
  sxs_nil)
  rfl rfl rfl (by decide)
noncomputable def n_law_led : List Str := [(Str.ofString "line"), (Str.ofString "edit"), (Str.ofString "places"), (Str.ofString "begin"), (Str.ofString "end"), (Str.ofString "front"), (Str.ofString "rear"), (Str.ofString "at"), (Str.ofString "many"), (Str.ofString "ahead"), (Str.ofString "goes"), (Str.ofString "follows")]
noncomputable def s_law_led : DS :=
  (dsSeq (dsAssign (daTup [(daName 3), (daName 4), (daName 5), (daName 6)]) (dVar 0))
  (dsSeq (dsAssign (daTup [(daName 7), (daName 8), (daName 9)]) (dVar 1))
  (dsSeq (dsIf (dCm (cInt .gt) (dVar 8) (dInt 0))
  (dsSeq (dsAssign (daName 10) (dOr (dCm (cInt .gt) (dVar 3) (dVar 7)) (dAnd (dCm (cInt .eq) (dVar 3) (dVar 7)) (dOr (dVar 9) (dAnd (dVar 5) (dOr (dCm (cInt .ne) (dVar 3) (dVar 4)) (dVar 6)))))))
  (dsSeq (dsAssign (daName 11) (dOr (dCm (cInt .gt) (dVar 4) (dVar 7)) (dAnd (dCm (cInt .eq) (dVar 4) (dVar 7)) (dOr (dVar 9) (dVar 6)))))
  (dsSeq (dsRet (dTup (dCons (dIte (dVar 10) (dBin .add (dVar 3) (dVar 8)) (dVar 3)) (dCons (dIte (dVar 11) (dBin .add (dVar 4) (dVar 8)) (dVar 4)) (dCons (dVar 5) (dCons (dVar 6) dNil))))))
  dsNil)))
  dsNil)
  (dsSeq (dsAssign (daName 2) (dComp (diTup (dTup (dCons (dVar 3) (dCons (dVar 4) dNil)))) [7, 8] (dBool true) (dIte (dCm (cInt .le) (dVar 0) (dVar 1)) (dVar 0) (dCall gMax (dCons (dVar 1) (dCons (dBin .add (dVar 0) (dVar 2)) dNil))))))
  (dsSeq (dsRet (dTup (dCons (dIdx (dVar 2) (dInt 0)) (dCons (dIdx (dVar 2) (dInt 1)) (dCons (dVar 5) (dCons (dVar 6) dNil))))))
  dsNil)))))
noncomputable def g_law_led : List V → St → Option (V × St) := dFun 2 12 s_law_led
theorem sf_law_led {prog : Program} {w : World} {p : Program} {loose : List Str} {mean : ExcName → Option Value} {mg mb : Str → Option Value} : SF (PG prog w p loose mean mg mb) 1 (.ref 290) g_law_led :=
  sf_defC (P := PG prog w p loose mean mg mb) (dp := 0) (names := n_law_led) (ps := [(Str.ofString "line"), (Str.ofString "edit")]) (d := s_law_led) (ho := rfl) (by kernel_rfl) (fun vals h => by
    obtain ⟨v0, v1, rfl⟩ := len_2 h
    rfl) (hps_app (rest := [(Str.ofString "places"), (Str.ofString "begin"), (Str.ofString "end"), (Str.ofString "front"), (Str.ofString "rear"), (Str.ofString "at"), (Str.ofString "many"), (Str.ofString "ahead"), (Str.ofString "goes"), (Str.ofString "follows")]) rfl) (by decide +kernel) (loc_cell (by kernel_rfl)) rfl (cells_nod _) (by decide +kernel)
  (sxs_cons (sx_assign (sa_tup (.cons (sa_name 3 (by decide +kernel) (by kernel_rfl) (by kernel_rfl)) (fun _ => rfl) (.cons (sa_name 4 (by decide +kernel) (by kernel_rfl) (by kernel_rfl)) (fun _ => rfl) (.cons (sa_name 5 (by decide +kernel) (by kernel_rfl) (by kernel_rfl)) (fun _ => rfl) (.cons (sa_name 6 (by decide +kernel) (by kernel_rfl) (by kernel_rfl)) (fun _ => rfl) .nil))))) (se_var 0 (by kernel_rfl) (by kernel_rfl)) (fun _ => rfl) (fun _ => rfl) (fun _ => rfl))
  (sxs_cons (sx_assign (sa_tup (.cons (sa_cell 7 (by decide +kernel) (by kernel_rfl) (by kernel_rfl)) (fun _ => rfl) (.cons (sa_cell 8 (by decide +kernel) (by kernel_rfl) (by kernel_rfl)) (fun _ => rfl) (.cons (sa_name 9 (by decide +kernel) (by kernel_rfl) (by kernel_rfl)) (fun _ => rfl) .nil)))) (se_var 1 (by kernel_rfl) (by kernel_rfl)) (fun _ => rfl) (fun _ => rfl) (fun _ => rfl))
  (sxs_cons (sx_if (st_cm (cInt_ok .gt) rfl (se_var 8 (by kernel_rfl) (by kernel_rfl)) se_int) (sxs_cons (sx_assign (sa_name 10 (by decide +kernel) (by kernel_rfl) (by kernel_rfl)) (se_or (se_cm (cInt_ok .gt) rfl (se_var 3 (by kernel_rfl) (by kernel_rfl)) (se_var 7 (by kernel_rfl) (by kernel_rfl))) (se_and (se_cm (cInt_ok .eq) rfl (se_var 3 (by kernel_rfl) (by kernel_rfl)) (se_var 7 (by kernel_rfl) (by kernel_rfl))) (se_or (se_var 9 (by kernel_rfl) (by kernel_rfl)) (se_and (se_var 5 (by kernel_rfl) (by kernel_rfl)) (se_or (se_cm (cInt_ok .ne) rfl (se_var 3 (by kernel_rfl) (by kernel_rfl)) (se_var 4 (by kernel_rfl) (by kernel_rfl))) (se_var 6 (by kernel_rfl) (by kernel_rfl))))))) (fun _ => rfl) (fun _ => rfl) (fun _ => rfl))
  (sxs_cons (sx_assign (sa_name 11 (by decide +kernel) (by kernel_rfl) (by kernel_rfl)) (se_or (se_cm (cInt_ok .gt) rfl (se_var 4 (by kernel_rfl) (by kernel_rfl)) (se_var 7 (by kernel_rfl) (by kernel_rfl))) (se_and (se_cm (cInt_ok .eq) rfl (se_var 4 (by kernel_rfl) (by kernel_rfl)) (se_var 7 (by kernel_rfl) (by kernel_rfl))) (se_or (se_var 9 (by kernel_rfl) (by kernel_rfl)) (se_var 6 (by kernel_rfl) (by kernel_rfl))))) (fun _ => rfl) (fun _ => rfl) (fun _ => rfl))
  (sxs_cons (sx_ret (se_tup (sl_cons (se_ite (st_of_se (se_var 10 (by kernel_rfl) (by kernel_rfl)) (fun _ _ => rfl)) (se_bin (o := .add) (se_var 3 (by kernel_rfl) (by kernel_rfl)) (se_var 8 (by kernel_rfl) (by kernel_rfl))) (se_var 3 (by kernel_rfl) (by kernel_rfl))) (sl_cons (se_ite (st_of_se (se_var 11 (by kernel_rfl) (by kernel_rfl)) (fun _ _ => rfl)) (se_bin (o := .add) (se_var 4 (by kernel_rfl) (by kernel_rfl)) (se_var 8 (by kernel_rfl) (by kernel_rfl))) (se_var 4 (by kernel_rfl) (by kernel_rfl))) (sl_cons (se_var 5 (by kernel_rfl) (by kernel_rfl)) (sl_cons (se_var 6 (by kernel_rfl) (by kernel_rfl)) sl_nil (fun _ => rfl)) (fun _ => rfl)) (fun _ => rfl)) (fun _ => rfl))))
  sxs_nil))) sxs_nil)
  (sxs_cons (sx_comp (xs := [(Str.ofString "at"), (Str.ofString "many")]) (caps := [7, 8]) ⟨by decide, rfl, (by kernel_rfl), by decide, clos_gen (by kernel_rfl)⟩ ⟨(by kernel_rfl), (by kernel_rfl), (by kernel_rfl), ⟨(by kernel_rfl), (by kernel_rfl), (by kernel_rfl), trivial⟩⟩ (si_tup (fun _ _ => rfl) (se_tup (sl_cons (se_var 3 (by kernel_rfl) (by kernel_rfl)) (sl_cons (se_var 4 (by kernel_rfl) (by kernel_rfl)) sl_nil (fun _ => rfl)) (fun _ => rfl)))) sts_nil (se_ite (st_cm (cInt_ok .le) rfl (se_var 0 (by kernel_rfl) (by kernel_rfl)) (se_var 1 (by kernel_rfl) (by kernel_rfl))) (se_var 0 (by kernel_rfl) (by kernel_rfl)) (se_call no_max kp_max (sf_max (dp := 0)) (by decide) (by kernel_rfl) (by kernel_rfl) (sl_cons (se_var 1 (by kernel_rfl) (by kernel_rfl)) (sl_cons (se_bin (o := .add) (se_var 0 (by kernel_rfl) (by kernel_rfl)) (se_var 2 (by kernel_rfl) (by kernel_rfl))) sl_nil (fun _ => rfl)) (fun _ => rfl)) (fun _ => rfl) (fun _ _ => rfl) (fun _ => rfl))) (fun _ _ => rfl) (sa_name 2 (by decide +kernel) (by kernel_rfl) (by kernel_rfl)) (fun _ h1 h2 => env_gen h1 h2 rfl))
  (sxs_cons (sx_ret (se_tup (sl_cons (se_idx (se_var 2 (by kernel_rfl) (by kernel_rfl)) se_int (fun _ _ => rfl)) (sl_cons (se_idx (se_var 2 (by kernel_rfl) (by kernel_rfl)) se_int (fun _ _ => rfl)) (sl_cons (se_var 5 (by kernel_rfl) (by kernel_rfl)) (sl_cons (se_var 6 (by kernel_rfl) (by kernel_rfl)) sl_nil (fun _ => rfl)) (fun _ => rfl)) (fun _ => rfl)) (fun _ => rfl))))
  sxs_nil)))))
  rfl rfl rfl

noncomputable def n_law_shown : List Str := [(Str.ofString "tree")]
noncomputable def s_law_shown : DS :=
  (dsSeq (dsRet (dCall gSorted (dCons (dComp (diList (dCall g_all_nodes_in_order (dCons (dVar 0) dNil))) [] (dBool true) (dTup (dCons (dAttr .number (dVar 0)) (dCons (dAttr .begin_ (dVar 0)) (dCons (dAttr .end_ (dVar 0)) dNil))))) dNil)))
  dsNil)
noncomputable def g_law_shown : List V → St → Option (V × St) := dFun 1 1 s_law_shown
theorem sf_law_shown {prog : Program} {w : World} {p : Program} {loose : List Str} {mean : ExcName → Option Value} {mg mb : Str → Option Value} : SF (PG prog w p loose mean mg mb) 3 (.ref 295) g_law_shown :=
  sf_def (P := PG prog w p loose mean mg mb) (dp := 2) (names := n_law_shown) (ps := [(Str.ofString "tree")]) (d := s_law_shown) (ho := rfl) (by kernel_rfl) (fun vals h => by
    obtain ⟨v0, rfl⟩ := len_1 h
    rfl) (hps_app (rest := []) rfl) (by decide +kernel) (loc_of (by kernel_rfl)) rfl
  (sxs_cons (sx_ret (se_call no_sorted kp_sorted (sf_sorted (dp := 0)) (by decide) (by kernel_rfl) (by kernel_rfl) (sl_cons (se_comp (xs := []) (caps := []) ⟨by decide, rfl, (by kernel_rfl), by decide, clos_gen (by kernel_rfl)⟩ trivial (si_list (fun _ _ => rfl) (se_call no_all_nodes_in_order kp_all_nodes_in_order sf_all_nodes_in_order (by decide) (by kernel_rfl) (by kernel_rfl) (sl_cons (se_var 0 (by kernel_rfl) (by kernel_rfl)) sl_nil (fun _ => rfl)) (fun _ => rfl) (fun _ _ => rfl) (fun _ => rfl))) sts_nil (se_tup (sl_cons (se_attr pok rfl (se_var 0 (by kernel_rfl) (by kernel_rfl)) (fun _ => rfl)) (sl_cons (se_attr pok rfl (se_var 0 (by kernel_rfl) (by kernel_rfl)) (fun _ => rfl)) (sl_cons (se_attr pok rfl (se_var 0 (by kernel_rfl) (by kernel_rfl)) (fun _ => rfl)) sl_nil (fun _ => rfl)) (fun _ => rfl)) (fun _ => rfl))) (fun _ _ => rfl)) sl_nil (fun _ => rfl)) (fun _ => rfl) (fun _ _ => rfl) (fun _ => rfl)))
  sxs_nil)
  rfl rfl rfl (by decide)
noncomputable def n_law : List Str := [(Str.ofString "beat"), (Str.ofString "border"), (Str.ofString "due"), (Str.ofString "deck"), (Str.ofString "lines"), (Str.ofString "first"), (Str.ofString "second"), (Str.ofString "one"), (Str.ofString "other"), (Str.ofString "number"), (Str.ofString "line"), (Str.ofString "begin"), (Str.ofString "many"), (Str.ofString "end"), (Str.ofString "front"), (Str.ofString "rear")]
noncomputable def b_law_1 : DS :=
  (dsSeq (dsAssign (daTup [(daName 11), (daName 13), (daName 14), (daName 15)]) (dCall g_law_led (dCons (dCall g_law_led (dCons (dVar 10) (dCons (dVar 6) dNil))) (dCons (dVar 5) dNil))))
  (dsSeq (dsExpr (dApp (dVar 2) (dTup (dCons (dVar 9) (dCons (dVar 11) (dCons (dVar 13) dNil))))))
  dsNil))
noncomputable def b_law_2 : DS :=
  (dsSeq (dsSwap [11, 12] (dCons (dCall g_law_draw (dCons (dVar 3) (dCons (dInt 16) dNil))) (dCons (dCall g_law_draw (dCons (dVar 3) (dCons (dInt 4) dNil))) dNil)))
  (dsSeq (dsExpr (dApp (dVar 4) (dTup (dCons (dVar 11) (dCons (dBin .add (dVar 11) (dVar 12)) (dCons (dCm (cInt .eq) (dCall g_law_draw (dCons (dVar 3) (dCons (dInt 2) dNil))) (dInt 1)) (dCons (dCm (cInt .eq) (dCall g_law_draw (dCons (dVar 3) (dCons (dInt 2) dNil))) (dInt 1)) dNil)))))))
  dsNil))
noncomputable def s_law : DS :=
  (dsSeq (dsFor (diRange (dCons (dBin .add (dInt 1) (dCall g_law_draw (dCons (dVar 3) (dCons (dInt 5) dNil)))) dNil)) (daName 0) b_law_2)
  (dsSeq (dsAssign (daName 1) (dBin .add (dInt 3) (dCall g_law_draw (dCons (dVar 3) (dCons (dInt 10) dNil)))))
  (dsSeq (dsSwap [5, 6] (dCons (dCall g_law_edit (dCons (dVar 3) (dCons (dInt 0) (dCons (dVar 1) dNil)))) (dCons (dCall g_law_edit (dCons (dVar 3) (dCons (dBin .add (dVar 1) (dInt 1)) (dCons (dInt 18) dNil)))) dNil)))
  (dsSeq (dsSwap [7, 8] (dCons (dCall g_law_tree (dCons (dVar 4) dNil)) (dCons (dCall g_law_tree (dCons (dVar 4) dNil)) dNil)))
  (dsSeq (dsExpr (dCall g_law_done (dCons (dVar 7) (dCons (dVar 5) (dCons (dInt 0) dNil)))))
  (dsSeq (dsExpr (dCall g_law_done (dCons (dVar 7) (dCons (dVar 6) (dCons (dIdx (dVar 5) (dInt 1)) dNil)))))
  (dsSeq (dsExpr (dCall g_law_done (dCons (dVar 8) (dCons (dVar 6) (dCons (dInt 0) dNil)))))
  (dsSeq (dsExpr (dCall g_law_done (dCons (dVar 8) (dCons (dVar 5) (dCons (dInt 0) dNil)))))
  (dsSeq (dsAssign (daName 2) (dList dNil))
  (dsSeq (dsFor (diEnum (dCons (dVar 4) dNil)) (daTup [(daName 9), (daName 10)]) b_law_1)
  (dsSeq (dsIf (dOr (dCm cIsNot (dCall g_overlay_tree_error (dCons (dVar 7) dNil)) dNone) (dCm cIsNot (dCall g_overlay_tree_error (dCons (dVar 8) dNil)) dNone))
  (dsSeq (dsRet (dBool false))
  dsNil)
  dsNil)
  (dsSeq (dsRet (dAnd (dEqL (dCall g_law_shown (dCons (dVar 7) dNil)) (dVar 2)) (dEqL (dCall g_law_shown (dCons (dVar 8) dNil)) (dVar 2))))
  dsNil))))))))))))
noncomputable def b_law (K : Frag) : List Stmt := bodyAt K 300
noncomputable def k_law (K : Frag) : Ks := namesAt K 300
theorem sx_law_tail {prog : Program} {w : World} {p : Program} {loose : List Str} {mean : ExcName → Option Value} {mg mb : Str → Option Value} : SXs (PG prog w p loose mean mg mb) 8 (k_law (KK w.params)) n_law (b_law (KK w.params)).tail s_law :=
  (sxs_cons (sx_for (b := b_law_2) (si_range (fun _ _ => rfl) no_range (by kernel_rfl) (sl_cons (se_bin (o := .add) se_int (se_call no_law_draw kp_law_draw sf_law_draw (by decide) (by kernel_rfl) (by kernel_rfl) (sl_cons (se_var 3 (by kernel_rfl) (by kernel_rfl)) (sl_cons se_int sl_nil (fun _ => rfl)) (fun _ => rfl)) (fun _ => rfl) (fun _ _ => rfl) (fun _ => rfl))) sl_nil (fun _ => rfl)) (fun _ _ => rfl) (fun _ => rfl)) (sa_name 0 (by decide +kernel) (by kernel_rfl) (by kernel_rfl)) (sxs_cons (sx_swap (xs := [(Str.ofString "begin"), (Str.ofString "many")]) (is := [11, 12]) (by decide +kernel) ⟨(by kernel_rfl), (by kernel_rfl), ⟨(by kernel_rfl), (by kernel_rfl), trivial⟩⟩ (sl_cons (se_call no_law_draw kp_law_draw sf_law_draw (by decide) (by kernel_rfl) (by kernel_rfl) (sl_cons (se_var 3 (by kernel_rfl) (by kernel_rfl)) (sl_cons se_int sl_nil (fun _ => rfl)) (fun _ => rfl)) (fun _ => rfl) (fun _ _ => rfl) (fun _ => rfl)) (sl_cons (se_call no_law_draw kp_law_draw sf_law_draw (by decide) (by kernel_rfl) (by kernel_rfl) (sl_cons (se_var 3 (by kernel_rfl) (by kernel_rfl)) (sl_cons se_int sl_nil (fun _ => rfl)) (fun _ => rfl)) (fun _ => rfl) (fun _ _ => rfl) (fun _ => rfl)) sl_nil (fun _ => rfl)) (fun _ => rfl)) (fun _ => rfl) (fun _ h1 h2 => env_gen h1 h2 rfl))
  (sxs_cons (sx_expr (se_app (se_var 4 (by kernel_rfl) (by kernel_rfl)) (se_tup (sl_cons (se_var 11 (by kernel_rfl) (by kernel_rfl)) (sl_cons (se_bin (o := .add) (se_var 11 (by kernel_rfl) (by kernel_rfl)) (se_var 12 (by kernel_rfl) (by kernel_rfl))) (sl_cons (se_cm (cInt_ok .eq) rfl (se_call no_law_draw kp_law_draw sf_law_draw (by decide) (by kernel_rfl) (by kernel_rfl) (sl_cons (se_var 3 (by kernel_rfl) (by kernel_rfl)) (sl_cons se_int sl_nil (fun _ => rfl)) (fun _ => rfl)) (fun _ => rfl) (fun _ _ => rfl) (fun _ => rfl)) se_int) (sl_cons (se_cm (cInt_ok .eq) rfl (se_call no_law_draw kp_law_draw sf_law_draw (by decide) (by kernel_rfl) (by kernel_rfl) (sl_cons (se_var 3 (by kernel_rfl) (by kernel_rfl)) (sl_cons se_int sl_nil (fun _ => rfl)) (fun _ => rfl)) (fun _ => rfl) (fun _ _ => rfl) (fun _ => rfl)) se_int) sl_nil (fun _ => rfl)) (fun _ => rfl)) (fun _ => rfl)) (fun _ => rfl))) (fun _ => ⟨_, rfl⟩) (fun _ => rfl)) (fun _ => rfl))
  sxs_nil)) (fun _ _ => rfl))
  (sxs_cons (sx_assign (sa_name 1 (by decide +kernel) (by kernel_rfl) (by kernel_rfl)) (se_bin (o := .add) se_int (se_call no_law_draw kp_law_draw sf_law_draw (by decide) (by kernel_rfl) (by kernel_rfl) (sl_cons (se_var 3 (by kernel_rfl) (by kernel_rfl)) (sl_cons se_int sl_nil (fun _ => rfl)) (fun _ => rfl)) (fun _ => rfl) (fun _ _ => rfl) (fun _ => rfl))) (fun _ => rfl) (fun _ => rfl) (fun _ => rfl))
  (sxs_cons (sx_swap (xs := [(Str.ofString "first"), (Str.ofString "second")]) (is := [5, 6]) (by decide +kernel) ⟨(by kernel_rfl), (by kernel_rfl), ⟨(by kernel_rfl), (by kernel_rfl), trivial⟩⟩ (sl_cons (se_call no_law_edit kp_law_edit sf_law_edit (by decide) (by kernel_rfl) (by kernel_rfl) (sl_cons (se_var 3 (by kernel_rfl) (by kernel_rfl)) (sl_cons se_int (sl_cons (se_var 1 (by kernel_rfl) (by kernel_rfl)) sl_nil (fun _ => rfl)) (fun _ => rfl)) (fun _ => rfl)) (fun _ => rfl) (fun _ _ => rfl) (fun _ => rfl)) (sl_cons (se_call no_law_edit kp_law_edit sf_law_edit (by decide) (by kernel_rfl) (by kernel_rfl) (sl_cons (se_var 3 (by kernel_rfl) (by kernel_rfl)) (sl_cons (se_bin (o := .add) (se_var 1 (by kernel_rfl) (by kernel_rfl)) se_int) (sl_cons se_int sl_nil (fun _ => rfl)) (fun _ => rfl)) (fun _ => rfl)) (fun _ => rfl) (fun _ _ => rfl) (fun _ => rfl)) sl_nil (fun _ => rfl)) (fun _ => rfl)) (fun _ => rfl) (fun _ h1 h2 => env_gen h1 h2 rfl))
  (sxs_cons (sx_swap (xs := [(Str.ofString "one"), (Str.ofString "other")]) (is := [7, 8]) (by decide +kernel) ⟨(by kernel_rfl), (by kernel_rfl), ⟨(by kernel_rfl), (by kernel_rfl), trivial⟩⟩ (sl_cons (se_call no_law_tree kp_law_tree sf_law_tree (by decide) (by kernel_rfl) (by kernel_rfl) (sl_cons (se_var 4 (by kernel_rfl) (by kernel_rfl)) sl_nil (fun _ => rfl)) (fun _ => rfl) (fun _ _ => rfl) (fun _ => rfl)) (sl_cons (se_call no_law_tree kp_law_tree sf_law_tree (by decide) (by kernel_rfl) (by kernel_rfl) (sl_cons (se_var 4 (by kernel_rfl) (by kernel_rfl)) sl_nil (fun _ => rfl)) (fun _ => rfl) (fun _ _ => rfl) (fun _ => rfl)) sl_nil (fun _ => rfl)) (fun _ => rfl)) (fun _ => rfl) (fun _ h1 h2 => env_gen h1 h2 rfl))
  (sxs_cons (sx_expr (se_call no_law_done kp_law_done sf_law_done (by decide) (by kernel_rfl) (by kernel_rfl) (sl_cons (se_var 7 (by kernel_rfl) (by kernel_rfl)) (sl_cons (se_var 5 (by kernel_rfl) (by kernel_rfl)) (sl_cons se_int sl_nil (fun _ => rfl)) (fun _ => rfl)) (fun _ => rfl)) (fun _ => rfl) (fun _ _ => rfl) (fun _ => rfl)) (fun _ => rfl))
  (sxs_cons (sx_expr (se_call no_law_done kp_law_done sf_law_done (by decide) (by kernel_rfl) (by kernel_rfl) (sl_cons (se_var 7 (by kernel_rfl) (by kernel_rfl)) (sl_cons (se_var 6 (by kernel_rfl) (by kernel_rfl)) (sl_cons (se_idx (se_var 5 (by kernel_rfl) (by kernel_rfl)) se_int (fun _ _ => rfl)) sl_nil (fun _ => rfl)) (fun _ => rfl)) (fun _ => rfl)) (fun _ => rfl) (fun _ _ => rfl) (fun _ => rfl)) (fun _ => rfl))
  (sxs_cons (sx_expr (se_call no_law_done kp_law_done sf_law_done (by decide) (by kernel_rfl) (by kernel_rfl) (sl_cons (se_var 8 (by kernel_rfl) (by kernel_rfl)) (sl_cons (se_var 6 (by kernel_rfl) (by kernel_rfl)) (sl_cons se_int sl_nil (fun _ => rfl)) (fun _ => rfl)) (fun _ => rfl)) (fun _ => rfl) (fun _ _ => rfl) (fun _ => rfl)) (fun _ => rfl))
  (sxs_cons (sx_expr (se_call no_law_done kp_law_done sf_law_done (by decide) (by kernel_rfl) (by kernel_rfl) (sl_cons (se_var 8 (by kernel_rfl) (by kernel_rfl)) (sl_cons (se_var 5 (by kernel_rfl) (by kernel_rfl)) (sl_cons se_int sl_nil (fun _ => rfl)) (fun _ => rfl)) (fun _ => rfl)) (fun _ => rfl) (fun _ _ => rfl) (fun _ => rfl)) (fun _ => rfl))
  (sxs_cons (sx_assign (sa_name 2 (by decide +kernel) (by kernel_rfl) (by kernel_rfl)) (se_list sl_nil) (fun _ => rfl) (fun _ => rfl) (fun _ => rfl))
  (sxs_cons (sx_for (b := b_law_1) (si_enum no_enumerate (by kernel_rfl) (sl_cons (se_var 4 (by kernel_rfl) (by kernel_rfl)) sl_nil (fun _ => rfl)) (fun _ _ => rfl) (fun _ => rfl)) (sa_tup (.cons (sa_name 9 (by decide +kernel) (by kernel_rfl) (by kernel_rfl)) (fun _ => rfl) (.cons (sa_name 10 (by decide +kernel) (by kernel_rfl) (by kernel_rfl)) (fun _ => rfl) .nil))) (sxs_cons (sx_assign (sa_tup (.cons (sa_name 11 (by decide +kernel) (by kernel_rfl) (by kernel_rfl)) (fun _ => rfl) (.cons (sa_name 13 (by decide +kernel) (by kernel_rfl) (by kernel_rfl)) (fun _ => rfl) (.cons (sa_name 14 (by decide +kernel) (by kernel_rfl) (by kernel_rfl)) (fun _ => rfl) (.cons (sa_name 15 (by decide +kernel) (by kernel_rfl) (by kernel_rfl)) (fun _ => rfl) .nil))))) (se_call no_law_led kp_law_led sf_law_led (by decide) (by kernel_rfl) (by kernel_rfl) (sl_cons (se_call no_law_led kp_law_led sf_law_led (by decide) (by kernel_rfl) (by kernel_rfl) (sl_cons (se_var 10 (by kernel_rfl) (by kernel_rfl)) (sl_cons (se_var 6 (by kernel_rfl) (by kernel_rfl)) sl_nil (fun _ => rfl)) (fun _ => rfl)) (fun _ => rfl) (fun _ _ => rfl) (fun _ => rfl)) (sl_cons (se_var 5 (by kernel_rfl) (by kernel_rfl)) sl_nil (fun _ => rfl)) (fun _ => rfl)) (fun _ => rfl) (fun _ _ => rfl) (fun _ => rfl)) (fun _ => rfl) (fun _ => rfl) (fun _ => rfl))
  (sxs_cons (sx_expr (se_app (se_var 2 (by kernel_rfl) (by kernel_rfl)) (se_tup (sl_cons (se_var 9 (by kernel_rfl) (by kernel_rfl)) (sl_cons (se_var 11 (by kernel_rfl) (by kernel_rfl)) (sl_cons (se_var 13 (by kernel_rfl) (by kernel_rfl)) sl_nil (fun _ => rfl)) (fun _ => rfl)) (fun _ => rfl))) (fun _ => ⟨_, rfl⟩) (fun _ => rfl)) (fun _ => rfl))
  sxs_nil)) (fun _ _ => rfl))
  (sxs_cons (sx_if (st_or (st_cm cIsNot_ok rfl (se_call no_overlay_tree_error kp_overlay_tree_error sf_overlay_tree_error (by decide) (by kernel_rfl) (by kernel_rfl) (sl_cons (se_var 7 (by kernel_rfl) (by kernel_rfl)) sl_nil (fun _ => rfl)) (fun _ => rfl) (fun _ _ => rfl) (fun _ => rfl)) se_none) (st_cm cIsNot_ok rfl (se_call no_overlay_tree_error kp_overlay_tree_error sf_overlay_tree_error (by decide) (by kernel_rfl) (by kernel_rfl) (sl_cons (se_var 8 (by kernel_rfl) (by kernel_rfl)) sl_nil (fun _ => rfl)) (fun _ => rfl) (fun _ _ => rfl) (fun _ => rfl)) se_none)) (sxs_cons (sx_ret se_bool)
  sxs_nil) sxs_nil)
  (sxs_cons (sx_ret (se_and (se_eql rfl (se_call no_law_shown kp_law_shown sf_law_shown (by decide) (by kernel_rfl) (by kernel_rfl) (sl_cons (se_var 7 (by kernel_rfl) (by kernel_rfl)) sl_nil (fun _ => rfl)) (fun _ => rfl) (fun _ _ => rfl) (fun _ => rfl)) (se_var 2 (by kernel_rfl) (by kernel_rfl)) (by decide)) (se_eql rfl (se_call no_law_shown kp_law_shown sf_law_shown (by decide) (by kernel_rfl) (by kernel_rfl) (sl_cons (se_var 8 (by kernel_rfl) (by kernel_rfl)) sl_nil (fun _ => rfl)) (fun _ => rfl) (fun _ _ => rfl) (fun _ => rfl)) (se_var 2 (by kernel_rfl) (by kernel_rfl)) (by decide))))
  sxs_nil))))))))))))
/-! # the plain law. First: what a reading brings about -/
noncomputable def wE (d : DE) (ρ : Rho) (σ : St) (Q : V → St → Prop) : Prop := ∃ v σ', d ρ σ = some (v, σ') ∧ Q v σ'
noncomputable def wL (d : DL) (ρ : Rho) (σ : St) (Q : List V → St → Prop) : Prop := ∃ v σ', d ρ σ = some (v, σ') ∧ Q v σ'
noncomputable def wS (d : DS) (ρ : Rho) (σ : St) (Q : Fl → Rho → St → Prop) : Prop := ∃ fl ρ' σ', d ρ σ = some (fl, ρ', σ') ∧ Q fl ρ' σ'
noncomputable def wA (d : DA) (ρ : Rho) (σ : St) (v : V) (Q : Rho → St → Prop) : Prop := ∃ ρ' σ', d ρ σ v = some (ρ', σ') ∧ Q ρ' σ'
noncomputable def wG (g : List V → St → Option (V × St)) (vs : List V) (σ : St) (Q : V → St → Prop) : Prop := ∃ v σ', g vs σ = some (v, σ') ∧ Q v σ'
noncomputable def wI (d : DI) (ρ : Rho) (σ : St) (Q : Src → Nat → St → Prop) : Prop := ∃ s n σ', d ρ σ = some (s, n, σ') ∧ Q s n σ'
noncomputable def wF (s : Src) (da : DA) (b : DS) (n i : Nat) (ρ : Rho) (σ : St) (Q : Fl → Rho → St → Prop) : Prop := ∃ fl ρ' σ', forG s da b n i ρ σ = some (fl, ρ', σ') ∧ Q fl ρ' σ'
noncomputable def wC (s : Src) (ws : Rho) (t e : DE) (k n i : Nat) (σ : St) (Q : St → Prop) : Prop := ∃ σ', compG s ws t e k n i σ = some σ' ∧ Q σ'

/-! what is left to do, folded: it keeps the proofs small -/
noncomputable def seqK (b : DS) (QS : Fl → Rho → St → Prop) : Fl → Rho → St → Prop := fun fl ρ σ => match fl with
  | .next => wS b ρ σ QS
  | .ret v => QS (.ret v) ρ σ
noncomputable def forK (s : Src) (d : DA) (b : DS) (n i : Nat) (QS : Fl → Rho → St → Prop) : Fl → Rho → St → Prop := fun fl ρ σ => match fl with
  | .next => wF s d b n i ρ σ QS
  | .ret v => QS (.ret v) ρ σ
noncomputable def funK (Q : V → St → Prop) : Fl → Rho → St → Prop := fun fl _ σ => Q (flVal fl) σ
noncomputable def asgK (d : DA) (ρ : Rho) (QS : Fl → Rho → St → Prop) : V → St → Prop := fun v σ => wA d ρ σ v (QS .next)
noncomputable def exprK (ρ : Rho) (QS : Fl → Rho → St → Prop) : V → St → Prop := fun v σ => v = .none ∧ QS .next ρ σ
noncomputable def retK (ρ : Rho) (QS : Fl → Rho → St → Prop) : V → St → Prop := fun v σ => QS (.ret v) ρ σ
noncomputable def ifK (a b : DS) (ρ : Rho) (QS : Fl → Rho → St → Prop) : V → St → Prop := fun v σ => ∃ x, v = .bool x ∧ (x = true → wS a ρ σ QS) ∧ (x = false → wS b ρ σ QS)
noncomputable def whK (t : DE) (a : DS) (ρ : Rho) (QS : Fl → Rho → St → Prop) : V → St → Prop := fun v σ => ∃ x, v = .bool x ∧ (x = true → wS a ρ σ (seqK (dsWhile t a) QS)) ∧ (x = false → QS .next ρ σ)
noncomputable def iteK (a b : DE) (ρ : Rho) (Q : V → St → Prop) : V → St → Prop := fun v σ => ∃ x, v = .bool x ∧ (x = true → wE a ρ σ Q) ∧ (x = false → wE b ρ σ Q)
noncomputable def andK (b : DE) (ρ : Rho) (Q : V → St → Prop) : V → St → Prop := fun v σ => ∃ x, v = .bool x ∧ (x = true → wE b ρ σ fun u σ2 => ∃ y, u = .bool y ∧ Q (.bool y) σ2) ∧ (x = false → Q (.bool false) σ)
noncomputable def callK (g : List V → St → Option (V × St)) (Q : V → St → Prop) : List V → St → Prop := fun vs σ => wG g vs σ Q
theorem seqK_n {b : DS} {QS : Fl → Rho → St → Prop} {ρ : Rho} {σ : St} (h : wS b ρ σ QS) : seqK b QS .next ρ σ := h
theorem seqK_r {b : DS} {QS : Fl → Rho → St → Prop} {ρ : Rho} {σ : St} {v : V} (h : QS (.ret v) ρ σ) : seqK b QS (.ret v) ρ σ := h
theorem forK_n {s : Src} {d : DA} {b : DS} {n i : Nat} {QS : Fl → Rho → St → Prop} {ρ : Rho} {σ : St} (h : wF s d b n i ρ σ QS) : forK s d b n i QS .next ρ σ := h
theorem forK_r {s : Src} {d : DA} {b : DS} {n i : Nat} {QS : Fl → Rho → St → Prop} {ρ : Rho} {σ : St} {v : V} (h : QS (.ret v) ρ σ) : forK s d b n i QS (.ret v) ρ σ := h
theorem funK_n {Q : V → St → Prop} {ρ : Rho} {σ : St} (h : Q .none σ) : funK Q .next ρ σ := h
theorem funK_r {Q : V → St → Prop} {ρ : Rho} {σ : St} {v : V} (h : Q v σ) : funK Q (.ret v) ρ σ := h
theorem asgK_i {d : DA} {ρ : Rho} {QS : Fl → Rho → St → Prop} {v : V} {σ : St} (h : wA d ρ σ v (QS .next)) : asgK d ρ QS v σ := h
theorem exprK_i {ρ : Rho} {QS : Fl → Rho → St → Prop} {σ : St} (h : QS .next ρ σ) : exprK ρ QS .none σ := ⟨rfl, h⟩
theorem retK_i {ρ : Rho} {QS : Fl → Rho → St → Prop} {v : V} {σ : St} (h : QS (.ret v) ρ σ) : retK ρ QS v σ := h
theorem ifK_i {a b : DS} {ρ : Rho} {QS : Fl → Rho → St → Prop} {x : Bool} {σ : St} (h : (x = true → wS a ρ σ QS) ∧ (x = false → wS b ρ σ QS)) : ifK a b ρ QS (.bool x) σ := ⟨x, rfl, h⟩
theorem whK_i {t : DE} {a : DS} {ρ : Rho} {QS : Fl → Rho → St → Prop} {x : Bool} {σ : St} (h : (x = true → wS a ρ σ (seqK (dsWhile t a) QS)) ∧ (x = false → QS .next ρ σ)) : whK t a ρ QS (.bool x) σ := ⟨x, rfl, h⟩
theorem iteK_i {a b : DE} {ρ : Rho} {Q : V → St → Prop} {x : Bool} {σ : St} (h : (x = true → wE a ρ σ Q) ∧ (x = false → wE b ρ σ Q)) : iteK a b ρ Q (.bool x) σ := ⟨x, rfl, h⟩
theorem andK_i {b : DE} {ρ : Rho} {Q : V → St → Prop} {x : Bool} {σ : St} (h : (x = true → wE b ρ σ fun u σ2 => ∃ y, u = .bool y ∧ Q (.bool y) σ2) ∧ (x = false → Q (.bool false) σ)) : andK b ρ Q (.bool x) σ := ⟨x, rfl, h⟩
theorem callK_i {g : List V → St → Option (V × St)} {Q : V → St → Prop} {vs : List V} {σ : St} (h : wG g vs σ Q) : callK g Q vs σ := h
theorem wG.mono {g : List V → St → Option (V × St)} {vs : List V} {σ : St} {Q Q' : V → St → Prop} (h : wG g vs σ Q) (q : ∀ v σ', Q v σ' → Q' v σ') : wG g vs σ Q' := let ⟨v, σ', e, x⟩ := h; ⟨v, σ', e, q _ _ x⟩
theorem wE.mono {d : DE} {ρ : Rho} {σ : St} {Q Q' : V → St → Prop} (h : wE d ρ σ Q) (q : ∀ v σ', Q v σ' → Q' v σ') : wE d ρ σ Q' := let ⟨v, σ', e, x⟩ := h; ⟨v, σ', e, q _ _ x⟩
theorem wS.mono {d : DS} {ρ : Rho} {σ : St} {Q Q' : Fl → Rho → St → Prop} (h : wS d ρ σ Q) (q : ∀ f ρ' σ', Q f ρ' σ' → Q' f ρ' σ') : wS d ρ σ Q' := let ⟨f, v, σ', e, x⟩ := h; ⟨f, v, σ', e, q _ _ _ x⟩

section
variable {ρ : Rho} {σ : St} {Q : V → St → Prop} {QL : List V → St → Prop} {QS : Fl → Rho → St → Prop} {QA : Rho → St → Prop} {QI : Src → Nat → St → Prop}
theorem wE_var {i : Nat} {v : V} (h : ρ[i]? = some (some v)) (q : Q v σ) : wE (dVar i) ρ σ Q := ⟨v, σ, by simp [dVar, h], q⟩
theorem wE_none (q : Q .none σ) : wE dNone ρ σ Q := ⟨_, _, rfl, q⟩
theorem wE_bool {b : Bool} (q : Q (.bool b) σ) : wE (dBool b) ρ σ Q := ⟨_, _, rfl, q⟩
theorem wE_int {i : Int} (q : Q (.int i) σ) : wE (dInt i) ρ σ Q := ⟨_, _, rfl, q⟩
theorem wE_str {x : Str} (q : Q (.str x) σ) : wE (dStr x) ρ σ Q := ⟨_, _, rfl, q⟩
theorem wE_bin {o : Bop} {a b : DE} (h : wE a ρ σ fun v σ1 => ∃ i, v = .int i ∧ wE b ρ σ1 fun u σ2 => ∃ j, u = .int j ∧ ∃ k, o.ev i j = some k ∧ Q (.int k) σ2) : wE (dBin o a b) ρ σ Q := by
  obtain ⟨v, σ1, e1, i, rfl, u, σ2, e2, j, rfl, k, e3, q⟩ := h
  exact ⟨_, _, by simp [dBin, e1, e2, e3, V.toInt], q⟩
theorem wE_cm {c : V → V → Option Bool} {a b : DE} (h : wE a ρ σ fun v σ1 => wE b ρ σ1 fun u σ2 => ∃ x, c v u = some x ∧ Q (.bool x) σ2) : wE (dCm c a b) ρ σ Q := by
  obtain ⟨v, σ1, e1, u, σ2, e2, x, e3, q⟩ := h
  exact ⟨_, _, by simp [dCm, e1, e2, e3], q⟩
theorem wE_attr {fl : Fld} {a : DE} (h : wE a ρ σ fun v σ1 => ∃ k, v = .ref k ∧ ∃ mo x, σ1[k]? = some mo ∧ getF mo fl = some x ∧ Q x σ1) : wE (dAttr fl a) ρ σ Q := by
  obtain ⟨v, σ1, e1, k, rfl, mo, x, e2, e3, q⟩ := h
  exact ⟨_, _, by simp [dAttr, e1, V.toRef, e2, e3], q⟩
theorem wE_not {a : DE} (h : wE a ρ σ fun v σ1 => ∃ b, v = .bool b ∧ Q (.bool (!b)) σ1) : wE (dNot a) ρ σ Q := by
  obtain ⟨v, σ1, e1, b, rfl, q⟩ := h
  exact ⟨_, _, by simp [dNot, e1, V.toBool], q⟩
theorem wE_and {a b : DE} (h : wE a ρ σ (andK b ρ Q)) : wE (dAnd a b) ρ σ Q := by
  obtain ⟨v, σ1, e1, x, rfl, h1, h2⟩ := h
  cases x with
  | true => obtain ⟨u, σ2, e2, y, rfl, q⟩ := h1 rfl; exact ⟨_, _, by simp [dAnd, e1, V.toBool, e2], q⟩
  | false => exact ⟨_, _, by simp [dAnd, e1, V.toBool], h2 rfl⟩
theorem wE_or {a b : DE} (h : wE a ρ σ fun v σ1 => ∃ x, v = .bool x ∧ (x = false → wE b ρ σ1 fun u σ2 => ∃ y, u = .bool y ∧ Q (.bool y) σ2) ∧ (x = true → Q (.bool true) σ1)) : wE (dOr a b) ρ σ Q := by
  obtain ⟨v, σ1, e1, x, rfl, h1, h2⟩ := h
  cases x with
  | false => obtain ⟨u, σ2, e2, y, rfl, q⟩ := h1 rfl; exact ⟨_, _, by simp [dOr, e1, V.toBool, e2], q⟩
  | true => exact ⟨_, _, by simp [dOr, e1, V.toBool], h2 rfl⟩
theorem wE_ite {t a b : DE} (h : wE t ρ σ (iteK a b ρ Q)) : wE (dIte t a b) ρ σ Q := by
  obtain ⟨v, σ1, e1, x, rfl, h1, h2⟩ := h
  cases x with
  | true => obtain ⟨u, σ2, e2, q⟩ := h1 rfl; exact ⟨_, _, by simp [dIte, e1, V.toBool, e2], q⟩
  | false => obtain ⟨u, σ2, e2, q⟩ := h2 rfl; exact ⟨_, _, by simp [dIte, e1, V.toBool, e2], q⟩
theorem wL_nil (q : QL [] σ) : wL dNil ρ σ QL := ⟨_, _, rfl, q⟩
theorem wL_cons {a : DE} {r : DL} (h : wE a ρ σ fun v σ1 => wL r ρ σ1 fun vs σ2 => QL (v :: vs) σ2) : wL (dCons a r) ρ σ QL := by
  obtain ⟨v, σ1, e1, vs, σ2, e2, q⟩ := h
  exact ⟨_, _, by simp [dCons, e1, e2], q⟩
theorem wE_call {g : List V → St → Option (V × St)} {r : DL} (h : wL r ρ σ (callK g Q)) : wE (dCall g r) ρ σ Q := by
  obtain ⟨vs, σ1, e1, v, σ2, e2, q⟩ := h
  exact ⟨_, _, by simp [dCall, e1, e2], q⟩
theorem wE_tup {r : DL} (h : wL r ρ σ fun vs σ1 => vs.length < 2 ^ 20 ∧ Q (.tup vs) σ1) : wE (dTup r) ρ σ Q := by
  obtain ⟨vs, σ1, e1, hl, q⟩ := h
  exact ⟨_, _, by simp only [dTup, e1, Option.bind_some]; rw [if_pos hl], q⟩
theorem wE_list {r : DL} (h : wL r ρ σ fun vs σ1 => vs.length < 2 ^ 20 ∧ Q (.ref σ1.length) (σ1 ++ [.list vs])) : wE (dList r) ρ σ Q := by
  obtain ⟨vs, σ1, e1, hl, q⟩ := h
  exact ⟨_, _, by simp only [dList, e1, Option.bind_some]; rw [if_pos hl], q⟩
theorem wE_dict (q : Q (.ref σ.length) (σ ++ [.dict []])) : wE dDict ρ σ Q := ⟨_, _, rfl, q⟩
theorem wE_idx {a b : DE} (h : wE a ρ σ fun v σ1 => wE b ρ σ1 fun u σ2 => ∃ x, itemAt σ2 v u = some x ∧ Q x σ2) : wE (dIdx a b) ρ σ Q := by
  obtain ⟨v, σ1, e1, u, σ2, e2, x, e3, q⟩ := h
  exact ⟨_, _, by simp [dIdx, e1, e2, e3], q⟩
theorem wE_rev {a : DE} (h : wE a ρ σ fun v σ1 => ∃ k vs, v = .ref k ∧ lstAt σ1 k = some vs ∧ Q (.ref σ1.length) (σ1 ++ [.list vs.reverse])) : wE (dRev a) ρ σ Q := by
  obtain ⟨v, σ1, e1, k, vs, rfl, e2, q⟩ := h
  exact ⟨_, _, by simp [dRev, e1, V.toRef, e2], q⟩
theorem wE_pop {a : DE} (h : wE a ρ σ fun v σ1 => ∃ k vs x, v = .ref k ∧ lstAt σ1 k = some (vs ++ [x]) ∧ Q x (σ1.set k (.list vs))) : wE (dPop a) ρ σ Q := by
  obtain ⟨v, σ1, e1, k, vs, x, rfl, e2, q⟩ := h
  exact ⟨_, _, by simp [dPop, e1, V.toRef, e2], q⟩
theorem wE_app {a b : DE} (h : wE a ρ σ fun v σ1 => ∃ k vs0, v = .ref k ∧ lstAt σ1 k = some vs0 ∧ wE b ρ σ1 fun u σ2 => ∃ vs, lstAt σ2 k = some vs ∧ vs.length + 1 < 2 ^ 20 ∧ Q .none (σ2.set k (.list (vs ++ [u])))) : wE (dApp a b) ρ σ Q := by
  obtain ⟨v, σ1, e1, k, vs0, rfl, e0, u, σ2, e2, vs, e3, hl, q⟩ := h
  exact ⟨_, _, by simp only [dApp, e1, Option.bind_some, V.toRef, e0, e2, e3]; rw [if_pos hl], q⟩
theorem wE_getd {a : DE} {r : DL} {i d : Int} (h : wE a ρ σ fun v σ1 => ∃ k kvs, v = .ref k ∧ σ1[k]? = some (.dict kvs) ∧ wL r ρ σ1 fun vs σ2 => vs = [.int i, .int d] ∧ σ2 = σ1 ∧ Q (.int ((lookKV kvs i).getD d)) σ1) : wE (dGetD a r) ρ σ Q := by
  obtain ⟨v, σ1, e1, k, kvs, rfl, e0, vs, σ2, e2, rfl, rfl, q⟩ := h
  refine ⟨_, _, ?_, q⟩
  simp only [dGetD, e1, Option.bind_some, V.toRef, dctAt_of e0, e2]
  rfl
theorem wG_fun {np nn : Nat} {body : DS} {vs : List V} (hl : vs.length = np) (h : wS body (rho0 nn vs) σ (funK Q)) : wG (dFun np nn body) vs σ Q := by
  obtain ⟨fl, ρ', σ', e, q⟩ := h
  exact ⟨_, _, by simp only [dFun]; rw [if_pos hl, e]; rfl, q⟩

theorem wA_name {i : Nat} {v : V} (q : QA (ρ.set i (some v)) σ) : wA (daName i) ρ σ v QA := ⟨_, _, rfl, q⟩
theorem wA_attr {a : DE} {fl : Fld} {v : V} (h : wE a ρ σ fun u σ1 => ∃ k, u = .ref k ∧ ∃ mo mo', σ1[k]? = some mo ∧ setF mo fl v = some mo' ∧ QA ρ (σ1.set k mo')) : wA (daAttr a fl) ρ σ v QA := by
  obtain ⟨u, σ1, e1, k, rfl, mo, mo', e2, e3, q⟩ := h
  exact ⟨_, _, by simp [daAttr, e1, V.toRef, e2, e3], q⟩
theorem wA_sub {a b : DE} {v : V} (h : wE a ρ σ fun u σ1 => ∃ k, u = .ref k ∧ wE b ρ σ1 fun i σ2 => ∃ σ', storeAt σ2 k i v = some σ' ∧ QA ρ σ') : wA (daSub a b) ρ σ v QA := by
  obtain ⟨u, σ1, e1, k, rfl, i, σ2, e2, σ', e3, q⟩ := h
  exact ⟨_, _, by simp [daSub, e1, V.toRef, e2, e3], q⟩
theorem wA_tup {ds : List DA} {vs : List V} {r : Rho × St} (e : daMany ds ρ σ vs = some r) (q : QA r.1 r.2) : wA (daTup ds) ρ σ (.tup vs) QA := ⟨r.1, r.2, e, q⟩

theorem wS_assign {d : DA} {a : DE} (h : wE a ρ σ (asgK d ρ QS)) : wS (dsAssign d a) ρ σ QS := by
  obtain ⟨v, σ1, e1, ρ2, σ2, e2, q⟩ := h
  exact ⟨_, _, _, by simp [dsAssign, e1, e2], q⟩
theorem wS_expr {a : DE} (h : wE a ρ σ (exprK ρ QS)) : wS (dsExpr a) ρ σ QS := by
  obtain ⟨v, σ1, e1, rfl, q⟩ := h
  exact ⟨_, _, _, by simp [dsExpr, e1], q⟩
theorem wS_ret {a : DE} (h : wE a ρ σ (retK ρ QS)) : wS (dsRet a) ρ σ QS := by
  obtain ⟨v, σ1, e1, q⟩ := h
  exact ⟨_, _, _, by simp [dsRet, e1], q⟩
theorem wS_retn (q : QS (.ret .none) ρ σ) : wS dsRetN ρ σ QS := ⟨_, _, _, rfl, q⟩
theorem wS_nil (q : QS .next ρ σ) : wS dsNil ρ σ QS := ⟨_, _, _, rfl, q⟩
theorem wS_seq {a b : DS} (h : wS a ρ σ (seqK b QS)) : wS (dsSeq a b) ρ σ QS := by
  obtain ⟨fl, ρ1, σ1, e1, h⟩ := h
  cases fl with
  | next =>
    obtain ⟨fl, ρ2, σ2, e2, q⟩ := h
    exact ⟨_, _, _, by simp only [dsSeq, e1, Option.bind_some]; exact e2, q⟩
  | ret v => exact ⟨_, _, _, by simp only [dsSeq, e1, Option.bind_some], h⟩
theorem wS_if {t : DE} {a b : DS} (h : wE t ρ σ (ifK a b ρ QS)) : wS (dsIf t a b) ρ σ QS := by
  obtain ⟨v, σ1, e1, x, rfl, h1, h2⟩ := h
  cases x with
  | true => obtain ⟨fl, ρ2, σ2, e2, q⟩ := h1 rfl; exact ⟨_, _, _, by simp only [dsIf, e1, Option.bind_some, V.toBool, if_true]; exact e2, q⟩
  | false => obtain ⟨fl, ρ2, σ2, e2, q⟩ := h2 rfl; exact ⟨_, _, _, by simp only [dsIf, e1, Option.bind_some, V.toBool, Bool.false_eq_true, if_false]; exact e2, q⟩
theorem wS_while {t : DE} {a : DS} (h : wE t ρ σ (whK t a ρ QS)) : wS (dsWhile t a) ρ σ QS := by
  obtain ⟨v, σ1, e1, x, rfl, h1, h2⟩ := h
  cases x with
  | true =>
    obtain ⟨fl, ρ2, σ2, e2, h⟩ := h1 rfl
    cases fl with
    | next =>
      obtain ⟨fl, ρ3, σ3, e3, q⟩ := h
      refine ⟨fl, ρ3, σ3, ?_, q⟩
      unfold dsWhile at e3 ⊢
      rw [loopM_eq]
      simp [whStep, e1, V.toBool, e2]
      exact e3
    | ret v =>
      refine ⟨.ret v, ρ2, σ2, ?_, h⟩
      unfold dsWhile
      rw [loopM_eq]
      simp [whStep, e1, V.toBool, e2]
  | false =>
    refine ⟨.next, ρ, σ1, ?_, h2 rfl⟩
    unfold dsWhile
    rw [loopM_eq]
    simp [whStep, e1, V.toBool]
theorem wS_for {i : DI} {d : DA} {b : DS} (h : wI i ρ σ fun s n σ1 => wF s d b n 0 ρ σ1 QS) : wS (dsFor i d b) ρ σ QS := by
  obtain ⟨s, n, σ1, e1, fl, ρ', σ', e2, q⟩ := h
  exact ⟨_, _, _, by simp only [dsFor, e1, Option.bind_some]; exact e2, q⟩
theorem wI_tup {a : DE} (h : wE a ρ σ fun v σ1 => ∃ vs, v = .tup vs ∧ QI (srcT vs) vs.length σ1) : wI (diTup a) ρ σ QI := by
  obtain ⟨v, σ1, e1, vs, rfl, q⟩ := h
  exact ⟨_, _, _, by simp [diTup, e1], q⟩
theorem wI_list {a : DE} (h : wE a ρ σ fun v σ1 => ∃ k vs, v = .ref k ∧ lstAt σ1 k = some vs ∧ QI (srcL k) vs.length σ1) : wI (diList a) ρ σ QI := by
  obtain ⟨v, σ1, e1, k, vs, rfl, e2, q⟩ := h
  exact ⟨_, _, _, by simp [diList, e1, V.toRef, e2], q⟩
theorem wI_range {r : DL} (h : wL r ρ σ fun vs σ1 => ∃ n, vs = [.int n] ∧ (n < 2 ^ 62 ∧ -(2 ^ 62) ≤ n) ∧ QI (srcR n) n.toNat σ1) : wI (diRange r) ρ σ QI := by
  obtain ⟨vs, σ1, e1, n, rfl, hn, q⟩ := h
  exact ⟨_, _, _, by simp only [diRange, e1, Option.bind_some]; rw [if_pos hn], q⟩
theorem wI_enum {r : DL} (h : wL r ρ σ fun vs σ1 => ∃ k ws, vs = [.ref k] ∧ lstAt σ1 k = some ws ∧ QI (srcE k) ws.length σ1) : wI (diEnum r) ρ σ QI := by
  obtain ⟨vs, σ1, e1, k, ws, rfl, e2, q⟩ := h
  exact ⟨_, _, _, by simp [diEnum, e1, e2], q⟩
theorem wF_stop {s : Src} {d : DA} {b : DS} {n i : Nat} (e : s i σ = some Option.none) (q : QS .next ρ σ) : wF s d b n i ρ σ QS := by
  refine ⟨.next, ρ, σ, ?_, q⟩
  cases n <;> simp [forG, e]
theorem wF_step {s : Src} {d : DA} {b : DS} {n i : Nat} {v : V} (e : s i σ = some (some v)) (h : wA d ρ σ v fun ρ1 σ1 => wS b ρ1 σ1 (forK s d b n (i + 1) QS)) : wF s d b (n + 1) i ρ σ QS := by
  obtain ⟨ρ1, σ1, e1, fl, ρ2, σ2, e2, h⟩ := h
  cases fl with
  | next =>
    obtain ⟨fl, ρ3, σ3, e3, q⟩ := h
    exact ⟨fl, ρ3, σ3, by simp [forG, e, e1, e2, e3], q⟩
  | ret v => exact ⟨.ret v, ρ2, σ2, by simp [forG, e, e1, e2], h⟩
theorem wE_comp {di : DI} {caps : List Nat} {t e : DE} (hc : (capsOf caps ρ).all (·.isSome) = true) (h : wI di ρ σ fun s n σ1 => wC s (capsOf caps ρ) t e σ1.length n 0 (σ1 ++ [.list []]) fun σ2 => Q (.ref σ1.length) σ2) : wE (dComp di caps t e) ρ σ Q := by
  obtain ⟨s, n, σ1, e1, σ2, e2, q⟩ := h
  exact ⟨_, _, by simp only [dComp]; rw [if_pos hc, e1]; simp only [Option.bind_some, e2, Option.map_some], q⟩
theorem wC_stop {s : Src} {ws : Rho} {t e : DE} {k n i : Nat} {Q : St → Prop} (h : s i σ = some Option.none) (q : Q σ) : wC s ws t e k n i σ Q := by
  refine ⟨σ, ?_, q⟩
  cases n <;> simp [compG, h]
theorem wC_step {s : Src} {ws : Rho} {t e : DE} {k n i : Nat} {v : V} {Q : St → Prop} (h : s i σ = some (some v)) (h2 : wE t (some v :: ws) σ fun u σ1 => ∃ x, u = .bool x ∧ (x = true → wE e (some v :: ws) σ1 fun y σ2 => ∃ σ3, appAt σ2 k y = some σ3 ∧ wC s ws t e k n (i + 1) σ3 Q) ∧ (x = false → wC s ws t e k n (i + 1) σ1 Q)) :
    wC s ws t e k (n + 1) i σ Q := by
  obtain ⟨u, σ1, e1, x, rfl, h3, h4⟩ := h2
  cases x with
  | true =>
    obtain ⟨y, σ2, e2, σ3, e3, σ4, e4, q⟩ := h3 rfl
    exact ⟨σ4, by simp [compG, h, e1, V.toBool, e2, e3, e4], q⟩
  | false =>
    obtain ⟨σ4, e4, q⟩ := h4 rfl
    exact ⟨σ4, by simp [compG, h, e1, V.toBool, e4], q⟩
theorem wS_swap {is : List Nat} {r : DL} (h : wL r ρ σ fun vs σ1 => (vs.length = is.length ∧ vs.length < 2 ^ 20) ∧ QS .next (setAll is.reverse ρ vs.reverse) σ1) : wS (dsSwap is r) ρ σ QS := by
  obtain ⟨vs, σ1, e1, hl, q⟩ := h
  exact ⟨_, _, _, by simp only [dsSwap, e1, Option.bind_some]; rw [if_pos hl], q⟩
theorem wE_eql {a b : DE} (h : wE a ρ σ fun v σ1 => wE b ρ σ1 fun u σ2 => ∃ x y, rowsAt σ2 v = some x ∧ rowsAt σ2 u = some y ∧ Q (.bool (decide (x = y))) σ2) : wE (dEqL a b) ρ σ Q := by
  obtain ⟨v, σ1, e1, u, σ2, e2, x, y, e3, e4, q⟩ := h
  exact ⟨_, _, by simp only [dEqL, e1, e2, Option.bind_some, e3, e4, Option.map_some], q⟩
end
/-! # what a state holds: atoms, apart from one another -/
noncomputable abbrev At := List (Nat × MO)
noncomputable def Ho (σ : St) (A : At) : Prop := (A.map (·.1)).Nodup ∧ ∀ p ∈ A, σ[p.1]? = some p.2
theorem Ho.get {σ : St} {A : At} (h : Ho σ A) {k : Nat} {mo : MO} (m : (k, mo) ∈ A) : σ[k]? = some mo := h.2 _ m
theorem Ho.perm {σ : St} {A B : At} (h : Ho σ A) (p : A.Perm B) : Ho σ B := ⟨(p.map _).nodup_iff.mp h.1, fun x hx => h.2 x (p.mem_iff.mpr hx)⟩
theorem Ho.left {σ : St} {A B : At} (h : Ho σ (A ++ B)) : Ho σ A := by
  obtain ⟨a, b⟩ := h
  rw [List.map_append, List.nodup_append] at a
  exact ⟨a.1, fun p hp => b p (List.mem_append_left _ hp)⟩
theorem Ho.right {σ : St} {A B : At} (h : Ho σ (A ++ B)) : Ho σ B := by
  obtain ⟨a, b⟩ := h
  rw [List.map_append, List.nodup_append] at a
  exact ⟨a.2.1, fun p hp => b p (List.mem_append_right _ hp)⟩
theorem Ho.tail {σ : St} {x : Nat × MO} {B : At} (h : Ho σ (x :: B)) : Ho σ B := Ho.right (A := [x]) h
inductive RepA (k : Nat) (mo mo' : MO) : At → At → Prop
  | head {r : At} : RepA k mo mo' ((k, mo) :: r) ((k, mo') :: r)
  | tail {p : Nat × MO} {r r' : At} : RepA k mo mo' r r' → RepA k mo mo' (p :: r) (p :: r')
  | left {a a' b : At} : RepA k mo mo' a a' → RepA k mo mo' (a ++ b) (a' ++ b)
  | right {a b b' : At} : RepA k mo mo' b b' → RepA k mo mo' (a ++ b) (a ++ b')
theorem RepA.split {k : Nat} {mo mo' : MO} {A A' : At} (h : RepA k mo mo' A A') : ∃ P R, A = P ++ (k, mo) :: R ∧ A' = P ++ (k, mo') :: R := by
  induction h with
  | head => exact ⟨[], _, rfl, rfl⟩
  | tail _ ih => obtain ⟨P, R, rfl, rfl⟩ := ih; exact ⟨_ :: P, R, rfl, rfl⟩
  | @left a a' b _ ih => obtain ⟨P, R, rfl, rfl⟩ := ih; exact ⟨P, R ++ b, by simp, by simp⟩
  | @right a b b' _ ih => obtain ⟨P, R, rfl, rfl⟩ := ih; exact ⟨a ++ P, R, by simp, by simp⟩
theorem Ho.rep {σ : St} {A A' : At} {k : Nat} {mo mo' : MO} (h : Ho σ A) (r : RepA k mo mo' A A') : Ho (σ.set k mo') A' := by
  obtain ⟨P, R, rfl, rfl⟩ := r.split
  have hp : ∀ mo, (P ++ (k, mo) :: R).Perm ((k, mo) :: (P ++ R)) := fun mo => List.perm_middle
  have h' := h.perm (hp mo)
  refine Ho.perm ?_ (hp mo').symm
  obtain ⟨nd, g⟩ := h'
  rw [List.map_cons, List.nodup_cons] at nd
  have lt : k < σ.length := (List.getElem?_eq_some_iff.mp (g _ (.head _))).1
  refine ⟨by rw [List.map_cons, List.nodup_cons]; exact nd, fun p hp => ?_⟩
  rcases List.mem_cons.mp hp with rfl | hp
  · simp [lt]
  · have hne : k ≠ p.1 := fun e => nd.1 (by dsimp only; rw [e]; exact List.mem_map_of_mem (f := (·.1)) hp)
    rw [List.getElem?_set_ne hne]
    exact g p (.tail _ hp)
theorem Ho.new {σ : St} {A : At} (h : Ho σ A) (mo : MO) : Ho (σ ++ [mo]) ((σ.length, mo) :: A) := by
  have lt : ∀ p ∈ A, p.1 < σ.length := fun p hp => (List.getElem?_eq_some_iff.mp (h.2 p hp)).1
  refine ⟨?_, fun p hp => ?_⟩
  · rw [List.map_cons, List.nodup_cons]
    refine ⟨fun hm => ?_, h.1⟩
    obtain ⟨p, hp, e⟩ := List.mem_map.mp hm
    have := lt p hp
    dsimp only at e
    lia
  · rcases List.mem_cons.mp hp with rfl | hp
    · simp
    · rw [List.getElem?_append_left (lt p hp)]
      exact h.2 p hp
theorem Ho.ne {σ : St} {x y : Nat} {a b : MO} {R : At} (h : Ho σ ((x, a) :: (y, b) :: R)) : x ≠ y := by
  have := h.1
  simp only [List.map_cons, List.nodup_cons, List.mem_cons, not_or] at this
  exact this.1.1
theorem RepA.mem {k : Nat} {mo mo' : MO} {A A' : At} (h : RepA k mo mo' A A') : (k, mo) ∈ A := by
  obtain ⟨P, R, rfl, rfl⟩ := h.split
  simp

/-! rearranging -/
theorem pk_here {α : Type} {b : α} {A : List α} : (b :: A).Perm (b :: A) := .refl _
theorem pk_cons {α : Type} {b c : α} {A A' : List α} (h : A.Perm (b :: A')) : (c :: A).Perm (b :: c :: A') := (h.cons c).trans (.swap b c A')
theorem pk_app {α : Type} {b : α} {C A A' : List α} (h : A.Perm (b :: A')) : (C ++ A).Perm (b :: (C ++ A')) := (h.append_left C).trans List.perm_middle
theorem pb_here {α : Type} {B A : List α} : (B ++ A).Perm (B ++ A) := .refl _
theorem pb_last {α : Type} {B : List α} : B.Perm (B ++ []) := by rw [List.append_nil]
theorem pb_cons {α : Type} {c : α} {B A A' : List α} (h : A.Perm (B ++ A')) : (c :: A).Perm (B ++ c :: A') := (h.cons c).trans List.perm_middle.symm
theorem pb_app {α : Type} {B C A A' : List α} (h : A.Perm (B ++ A')) : (C ++ A).Perm (B ++ (C ++ A')) := by
  refine (h.append_left C).trans ?_
  rw [← List.append_assoc, ← List.append_assoc]
  exact List.perm_append_comm.append_right A'
theorem pm_cons {α : Type} {b : α} {A A' B : List α} (h : A.Perm (b :: A')) (h' : A'.Perm B) : A.Perm (b :: B) := h.trans (h'.cons b)
theorem pm_app {α : Type} {C A A' B : List α} (h : A.Perm (C ++ A')) (h' : A'.Perm B) : A.Perm (C ++ B) := h.trans (h'.append_left C)
local macro_rules | `(tactic| wtm_at "pk") => `(tactic| first | exact pk_here | (show List.Perm (_ ++ _) _; exact pk_app (by wtm_at "pk")) | (show List.Perm (_ :: _) _; exact pk_cons (by wtm_at "pk")))
local macro_rules | `(tactic| wtm_at "pb") => `(tactic| first | exact pb_here | exact pb_last | (show List.Perm (_ ++ _) _; exact pb_app (by wtm_at "pb")) | (show List.Perm (_ :: _) _; exact pb_cons (by wtm_at "pb")))
local macro_rules | `(tactic| wtm_at "pm") => `(tactic| first | exact List.Perm.refl _ | (show List.Perm _ (_ ++ _); exact pm_app (by wtm_at "pb") (by wtm_at "pm")) | (show List.Perm _ (_ :: _); exact pm_cons (by wtm_at "pk") (by wtm_at "pm")))
local macro_rules | `(tactic| wtm_at "mem") => `(tactic| first | assumption | exact List.Mem.head _ | (refine List.mem_append_left _ ?_; wtm_at "mem") | (refine List.mem_append_right _ ?_; wtm_at "mem") | (refine List.Mem.tail _ ?_; wtm_at "mem"))
local macro_rules | `(tactic| wtm_at "repa") => `(tactic| first | assumption | (show RepA _ _ _ (_ ++ _) _; first | exact RepA.left (by wtm_at "repa") | exact RepA.right (by wtm_at "repa")) | exact RepA.head | (show RepA _ _ _ (_ :: _) _; exact RepA.tail (by wtm_at "repa")))

/-! # trees -/
structure Dat where
  number : Int
  begin_ : Int
  end_ : Int
  front : Bool
  rear : Bool
  limit : Int
  offset : Int
  red : Bool
noncomputable def Dat.setB (d : Dat) (i : Int) : Dat := { d with begin_ := i }
noncomputable def Dat.setE (d : Dat) (i : Int) : Dat := { d with end_ := i }
noncomputable def Dat.setL (d : Dat) (i : Int) : Dat := { d with limit := i }
noncomputable def Dat.setO (d : Dat) (i : Int) : Dat := { d with offset := i }
noncomputable def Dat.setR (d : Dat) (i : Bool) : Dat := { d with red := i }
inductive T where
  | nil
  | node (l : T) (k : Nat) (d : Dat) (r : T)
noncomputable def T.root : T → Option Nat
  | .nil => Option.none
  | .node _ k _ _ => some k
noncomputable abbrev rc (p l : Option Nat) (d : Dat) (r : Option Nat) : Nd := ⟨d.number, d.begin_, d.end_, d.front, d.rear, d.limit, d.offset, d.red, l, r, p⟩
section
variable {p l r : Option Nat} {d : Dat}
theorem get_number : getF (.node (rc p l d r)) .number = some (.int d.number) := rfl
theorem get_begin_ : getF (.node (rc p l d r)) .begin_ = some (.int d.begin_) := rfl
theorem get_end_ : getF (.node (rc p l d r)) .end_ = some (.int d.end_) := rfl
theorem get_front : getF (.node (rc p l d r)) .front = some (.bool d.front) := rfl
theorem get_rear : getF (.node (rc p l d r)) .rear = some (.bool d.rear) := rfl
theorem get_limit : getF (.node (rc p l d r)) .limit = some (.int d.limit) := rfl
theorem get_offset : getF (.node (rc p l d r)) .offset = some (.int d.offset) := rfl
theorem get_red : getF (.node (rc p l d r)) .red = some (.bool d.red) := rfl
theorem get_left : getF (.node (rc p l d r)) .left = some (V.opt l) := rfl
theorem get_right : getF (.node (rc p l d r)) .right = some (V.opt r) := rfl
theorem get_parent : getF (.node (rc p l d r)) .parent = some (V.opt p) := rfl
theorem got_red {n : Nd} : getF (.node n) .red = some (.bool n.red) := rfl
theorem got_limit {n : Nd} : getF (.node n) .limit = some (.int n.limit) := rfl
theorem got_offset {n : Nd} : getF (.node n) .offset = some (.int n.offset) := rfl
theorem get_root {o : Option Nat} {c : Int} : getF (.tree ⟨o, c⟩) .root = some (V.opt o) := rfl
theorem get_count {o : Option Nat} {c : Int} : getF (.tree ⟨o, c⟩) .count = some (.int c) := rfl
theorem set_begin_ {i : Int} : setF (.node (rc p l d r)) .begin_ (.int i) = some (.node (rc p l (d.setB i) r)) := rfl
theorem set_end_ {i : Int} : setF (.node (rc p l d r)) .end_ (.int i) = some (.node (rc p l (d.setE i) r)) := rfl
theorem set_limit {i : Int} : setF (.node (rc p l d r)) .limit (.int i) = some (.node (rc p l (d.setL i) r)) := rfl
theorem set_offset {i : Int} : setF (.node (rc p l d r)) .offset (.int i) = some (.node (rc p l (d.setO i) r)) := rfl
theorem set_red {i : Bool} : setF (.node (rc p l d r)) .red (.bool i) = some (.node (rc p l (d.setR i) r)) := rfl
theorem set_left0 : setF (.node (rc p l d r)) .left .none = some (.node (rc p Option.none d r)) := rfl
theorem set_left1 {k : Nat} : setF (.node (rc p l d r)) .left (.ref k) = some (.node (rc p (some k) d r)) := rfl
theorem set_left2 {o : Option Nat} : setF (.node (rc p l d r)) .left (V.opt o) = some (.node (rc p o d r)) := by cases o <;> rfl
theorem set_right0 : setF (.node (rc p l d r)) .right .none = some (.node (rc p l d Option.none)) := rfl
theorem set_right1 {k : Nat} : setF (.node (rc p l d r)) .right (.ref k) = some (.node (rc p l d (some k))) := rfl
theorem set_right2 {o : Option Nat} : setF (.node (rc p l d r)) .right (V.opt o) = some (.node (rc p l d o)) := by cases o <;> rfl
theorem set_parent0 : setF (.node (rc p l d r)) .parent .none = some (.node (rc Option.none l d r)) := rfl
theorem set_parent1 {k : Nat} : setF (.node (rc p l d r)) .parent (.ref k) = some (.node (rc (some k) l d r)) := rfl
theorem set_parent2 {o : Option Nat} : setF (.node (rc p l d r)) .parent (V.opt o) = some (.node (rc o l d r)) := by cases o <;> rfl
theorem set_root0 {o : Option Nat} {c : Int} : setF (.tree ⟨o, c⟩) .root .none = some (.tree ⟨Option.none, c⟩) := rfl
theorem set_root1 {o : Option Nat} {c : Int} {k : Nat} : setF (.tree ⟨o, c⟩) .root (.ref k) = some (.tree ⟨some k, c⟩) := rfl
theorem set_root2 {o u : Option Nat} {c : Int} : setF (.tree ⟨o, c⟩) .root (V.opt u) = some (.tree ⟨u, c⟩) := by cases u <;> rfl
theorem set_count {o : Option Nat} {c i : Int} : setF (.tree ⟨o, c⟩) .count (.int i) = some (.tree ⟨o, i⟩) := rfl
end
local macro_rules | `(tactic| wtm_at "getr") => `(tactic| first | exact get_begin_ | exact get_end_ | exact get_limit | exact get_offset | exact get_left | exact get_right | exact get_parent | exact get_red | exact get_number | exact get_front | exact get_rear | exact get_root | exact get_count | exact got_red | exact got_limit | exact got_offset)
local macro_rules | `(tactic| wtm_at "setr") => `(tactic| first | exact set_begin_ | exact set_end_ | exact set_limit | exact set_offset | exact set_red | exact set_left1 | exact set_left0 | exact set_left2 | exact set_right1 | exact set_right0 | exact set_right2 | exact set_parent1 | exact set_parent0 | exact set_parent2 | exact set_root1 | exact set_root0 | exact set_root2 | exact set_count)
structure Frm where
  left : Bool
  k : Nat
  d : Dat
  sib : T
noncomputable def top : List Frm → Option Nat
  | [] => Option.none
  | f :: _ => some f.k
noncomputable def at_ : Option Nat → T → At
  | _, .nil => []
  | p, .node l k d r => (k, .node (rc p l.root d r.root)) :: (at_ (some k) l ++ at_ (some k) r)
noncomputable def frc (p : Option Nat) (hole : Option Nat) (f : Frm) : Nd := if f.left then rc p hole f.d f.sib.root else rc p f.sib.root f.d hole
noncomputable def atP (tk : Nat) (c : Int) : Option Nat → List Frm → At
  | hole, [] => [(tk, .tree ⟨hole, c⟩)]
  | hole, f :: ps => (f.k, .node (frc (top ps) hole f)) :: (at_ (some f.k) f.sib ++ atP tk c (some f.k) ps)
noncomputable def push (o : Int) : T → T
  | .nil => .nil
  | .node l k d r => .node l k { d with offset := d.offset + o } r
noncomputable def hdn (d : Dat) : Dat := { d with begin_ := d.begin_ + d.offset, end_ := d.end_ + d.offset, limit := d.limit + d.offset, offset := 0 }
theorem push_root (o : Int) (t : T) : (push o t).root = t.root := by cases t <;> rfl
theorem push_zero (t : T) : push 0 t = t := by
  cases t with
  | nil => rfl
  | node l k d r => simp [push]
theorem push_push (a b : Int) (t : T) : push a (push b t) = push (b + a) t := by
  cases t with
  | nil => rfl
  | node l k d r => simp [push, Int.add_assoc]
theorem hdn_zero {d : Dat} (h : d.offset = 0) : hdn d = d := by
  cases d; simp [hdn] at *; simp [h]

/-! # rules with atoms -/
section
variable {ρ : Rho} {σ : St} {Q : V → St → Prop} {QL : List V → St → Prop} {QS : Fl → Rho → St → Prop} {QA : Rho → St → Prop} {QI : Src → Nat → St → Prop}
theorem sE_attr {fl : Fld} {a : DE} (h : wE a ρ σ fun v σ1 => ∃ k, v = .ref k ∧ ∃ A mo x, Ho σ1 A ∧ (k, mo) ∈ A ∧ getF mo fl = some x ∧ Q x σ1) : wE (dAttr fl a) ρ σ Q := by
  obtain ⟨v, σ1, e1, k, rfl, A, mo, x, hs, hm, e, q⟩ := h
  exact wE_attr ⟨_, _, e1, k, rfl, mo, x, hs.get hm, e, q⟩
theorem sA_attr {a : DE} {fl : Fld} {v : V} (h : wE a ρ σ fun u σ1 => ∃ k, u = .ref k ∧ ∃ A mo mo' A', Ho σ1 A ∧ RepA k mo mo' A A' ∧ setF mo fl v = some mo' ∧ ∀ σ2, Ho σ2 A' → QA ρ σ2) : wA (daAttr a fl) ρ σ v QA := by
  obtain ⟨u, σ1, e1, k, rfl, A, mo, mo', A', hs, hr, e, q⟩ := h
  exact wA_attr ⟨_, _, e1, k, rfl, mo, mo', hs.get hr.mem, e, q _ (hs.rep hr)⟩
theorem sE_list {r : DL} (h : wL r ρ σ fun vs σ1 => vs.length < 2 ^ 20 ∧ ∃ A, Ho σ1 A ∧ ∀ k σ2, Ho σ2 ((k, .list vs) :: A) → Q (.ref k) σ2) : wE (dList r) ρ σ Q := by
  obtain ⟨vs, σ1, e1, hl, A, hs, q⟩ := h
  exact wE_list ⟨_, _, e1, hl, q _ _ (hs.new _)⟩
theorem lstAt_of {k : Nat} {vs : List V} (h : σ[k]? = some (.list vs)) : lstAt σ k = some vs := by unfold lstAt; rw [h]
theorem sE_rev {a : DE} (h : wE a ρ σ fun v σ1 => ∃ k, v = .ref k ∧ ∃ A vs, Ho σ1 A ∧ (k, .list vs) ∈ A ∧ ∀ j σ2, Ho σ2 ((j, .list vs.reverse) :: A) → Q (.ref j) σ2) : wE (dRev a) ρ σ Q := by
  obtain ⟨v, σ1, e1, k, rfl, A, vs, hs, hm, q⟩ := h
  exact wE_rev ⟨_, _, e1, k, vs, rfl, lstAt_of (hs.get hm), q _ _ (hs.new _)⟩
theorem sE_pop {a : DE} (h : wE a ρ σ fun v σ1 => ∃ k, v = .ref k ∧ ∃ A vs x A', Ho σ1 A ∧ RepA k (.list (vs ++ [x])) (.list vs) A A' ∧ ∀ σ2, Ho σ2 A' → Q x σ2) : wE (dPop a) ρ σ Q := by
  obtain ⟨v, σ1, e1, k, rfl, A, vs, x, A', hs, hr, q⟩ := h
  exact wE_pop ⟨_, _, e1, k, vs, x, rfl, lstAt_of (hs.get hr.mem), q _ (hs.rep hr)⟩
theorem sE_app {a b : DE} (h : wE a ρ σ fun v σ1 => ∃ k, v = .ref k ∧ ∃ A vs0, Ho σ1 A ∧ (k, .list vs0) ∈ A ∧ wE b ρ σ1 fun u σ2 => ∃ A vs A', Ho σ2 A ∧ vs.length + 1 < 2 ^ 20 ∧ RepA k (.list vs) (.list (vs ++ [u])) A A' ∧ ∀ σ3, Ho σ3 A' → Q .none σ3) : wE (dApp a b) ρ σ Q := by
  obtain ⟨v, σ1, e1, k, rfl, A0, vs0, hs0, hm, u, σ2, e2, A, vs, A', hs, hl, hr, q⟩ := h
  exact wE_app ⟨_, _, e1, k, vs0, rfl, lstAt_of (hs0.get hm), u, σ2, e2, vs, lstAt_of (hs.get hr.mem), hl, q _ (hs.rep hr)⟩
end
theorem upd_rule {σ : St} {A A' : At} {k : Nat} {mo mo' : MO} {fl : Fld} {v : V} {P : St → Prop} (hs : Ho σ A) (hm : (k, mo) ∈ A) (e : setF mo fl v = some mo') (hr : RepA k mo mo' A A') (q : ∀ σ2, Ho σ2 A' → P σ2) :
    ∃ k', V.ref k = .ref k' ∧ ∃ A mo mo' A', Ho σ A ∧ RepA k' mo mo' A A' ∧ setF mo fl v = some mo' ∧ ∀ σ2, Ho σ2 A' → P σ2 := ⟨k, rfl, A, mo, mo', A', hs, hr, e, q⟩
theorem attr_rule {σ : St} {A : At} {k : Nat} {mo : MO} {fl : Fld} {x : V} {P : V → Prop} (hs : Ho σ A) (hm : (k, mo) ∈ A) (e : getF mo fl = some x) (q : P x) :
    ∃ k', V.ref k = .ref k' ∧ ∃ A mo x, Ho σ A ∧ (k', mo) ∈ A ∧ getF mo fl = some x ∧ P x := ⟨k, rfl, A, mo, x, hs, hm, e, q⟩
theorem br_t {x : Bool} {A B : Prop} (h : x = true) (a : A) : (x = true → A) ∧ (x = false → B) := ⟨fun _ => a, fun e => (by rw [h] at e; cases e)⟩
theorem br_f {x : Bool} {A B : Prop} (h : x = false) (a : B) : (x = true → A) ∧ (x = false → B) := ⟨fun e => (by rw [h] at e; cases e), fun _ => a⟩
theorem br_t' {x : Bool} {A B : Prop} (h : x = true) (a : A) : (x = false → B) ∧ (x = true → A) := ⟨fun e => (by rw [h] at e; cases e), fun _ => a⟩
theorem br_f' {x : Bool} {A B : Prop} (h : x = false) (a : B) : (x = false → B) ∧ (x = true → A) := ⟨fun _ => a, fun e => (by rw [h] at e; cases e)⟩
theorem cIs_rr (j k : Nat) : cIs (.ref j) (.ref k) = some (j == k) := rfl
theorem cm_is_yes {z : Nat} {P : Bool → Prop} (q : P true) : ∃ x, cIs (V.ref z) (.ref z) = some x ∧ P x := ⟨true, congrArg some (beq_self_eq_true z), q⟩
theorem cm_not_yes {z : Nat} {P : Bool → Prop} (q : P false) : ∃ x, cIsNot (V.ref z) (.ref z) = some x ∧ P x := ⟨false, congrArg (fun b => some (!b)) (beq_self_eq_true z), q⟩
theorem nb_self (z : Nat) : (!(z == z)) = false := by simp
theorem cm_int {o : Cop} {i j : Int} {P : Bool → Prop} (q : P (o.ev i j)) : ∃ x, cInt o (.int i) (.int j) = some x ∧ P x := ⟨_, rfl, q⟩
theorem bin_add {i j : Int} {P : Int → Prop} (q : P (i + j)) : ∃ k, Bop.add.ev i j = some k ∧ P k := ⟨_, rfl, q⟩
theorem bin_sub {i j : Int} {P : Int → Prop} (q : P (i - j)) : ∃ k, Bop.sub.ev i j = some k ∧ P k := ⟨_, rfl, q⟩
theorem ex_same {α : Type} {x : α} {P : α → Prop} (q : P x) : ∃ y, x = y ∧ P y := ⟨_, rfl, q⟩
theorem ex_int {x : Int} {P : Int → Prop} (q : P x) : ∃ y, V.int x = .int y ∧ P y := ⟨_, rfl, q⟩
theorem ex_bool {x : Bool} {P : Bool → Prop} (q : P x) : ∃ y, V.bool x = .bool y ∧ P y := ⟨_, rfl, q⟩
theorem ex_tup {x : List V} {P : List V → Prop} (q : P x) : ∃ y, V.tup x = .tup y ∧ P y := ⟨_, rfl, q⟩
/-! rules for whole phrases: they keep the proofs small -/
section
variable {ρ : Rho} {σ : St} {Q : V → St → Prop} {QL : List V → St → Prop} {QS : Fl → Rho → St → Prop} {i j k k2 : Nat} {fl f2 : Fld} {A A' : At} {mo mo' mo2 : MO} {v x x2 : V} {c : V → V → Option Bool} {s1 s2 : DS} {g : List V → St → Option (V × St)} {v1 v2 v3 v4 : V} {i1 i2 i3 i4 : Nat}
theorem pE_av (e : ρ[i]? = some (some (.ref k))) (hs : Ho σ A) (hm : (k, mo) ∈ A) (eg : getF mo fl = some x) (q : Q x σ) : wE (dAttr fl (dVar i)) ρ σ Q := sE_attr (wE_var e ⟨k, rfl, A, mo, x, hs, hm, eg, q⟩)
theorem pS_name {a : DE} (h : wE a ρ σ fun v σ1 => QS .next (ρ.set i (some v)) σ1) : wS (dsAssign (daName i) a) ρ σ QS := wS_assign (h.mono fun _ _ q => wA_name q)
theorem pS_nv (e : ρ[j]? = some (some v)) (q : QS .next (ρ.set i (some v)) σ) : wS (dsAssign (daName i) (dVar j)) ρ σ QS := pS_name (wE_var e q)
theorem pS_na (e : ρ[j]? = some (some (.ref k))) (hs : Ho σ A) (hm : (k, mo) ∈ A) (eg : getF mo fl = some x) (q : QS .next (ρ.set i (some x)) σ) : wS (dsAssign (daName i) (dAttr fl (dVar j))) ρ σ QS := pS_name (pE_av e hs hm eg q)
theorem pA_set (e : ρ[i]? = some (some (.ref k))) (hs : Ho σ A) (es : setF mo fl v = some mo') (hr : RepA k mo mo' A A') (q : ∀ σ2, Ho σ2 A' → QS .next ρ σ2) : asgK (daAttr (dVar i) fl) ρ QS v σ := asgK_i (sA_attr (wE_var e ⟨k, rfl, A, mo, mo', A', hs, hr, es, q⟩))
theorem pS_sv (e : ρ[i]? = some (some (.ref k))) (ej : ρ[j]? = some (some v)) (hs : Ho σ A) (hm : (k, mo) ∈ A) (es : setF mo fl v = some mo') (hr : RepA k mo mo' A A') (q : ∀ σ2, Ho σ2 A' → QS .next ρ σ2) : wS (dsAssign (daAttr (dVar i) fl) (dVar j)) ρ σ QS := wS_assign (wE_var ej (pA_set e hs es hr q))
theorem pS_sn (e : ρ[i]? = some (some (.ref k))) (hs : Ho σ A) (hm : (k, mo) ∈ A) (es : setF mo fl .none = some mo') (hr : RepA k mo mo' A A') (q : ∀ σ2, Ho σ2 A' → QS .next ρ σ2) : wS (dsAssign (daAttr (dVar i) fl) dNone) ρ σ QS := wS_assign (wE_none (pA_set e hs es hr q))
theorem pS_sb {b : Bool} (e : ρ[i]? = some (some (.ref k))) (hs : Ho σ A) (hm : (k, mo) ∈ A) (es : setF mo fl (.bool b) = some mo') (hr : RepA k mo mo' A A') (q : ∀ σ2, Ho σ2 A' → QS .next ρ σ2) : wS (dsAssign (daAttr (dVar i) fl) (dBool b)) ρ σ QS := wS_assign (wE_bool (pA_set e hs es hr q))
theorem pS_si {z : Int} (e : ρ[i]? = some (some (.ref k))) (hs : Ho σ A) (hm : (k, mo) ∈ A) (es : setF mo fl (.int z) = some mo') (hr : RepA k mo mo' A A') (q : ∀ σ2, Ho σ2 A' → QS .next ρ σ2) : wS (dsAssign (daAttr (dVar i) fl) (dInt z)) ρ σ QS := wS_assign (wE_int (pA_set e hs es hr q))
theorem pS_sa (e : ρ[i]? = some (some (.ref k))) (ej : ρ[j]? = some (some (.ref k2))) (hs : Ho σ A) (hm2 : (k2, mo2) ∈ A) (eg : getF mo2 f2 = some v) (hm : (k, mo) ∈ A) (es : setF mo fl v = some mo') (hr : RepA k mo mo' A A') (q : ∀ σ2, Ho σ2 A' → QS .next ρ σ2) : wS (dsAssign (daAttr (dVar i) fl) (dAttr f2 (dVar j))) ρ σ QS :=
  wS_assign (pE_av ej hs hm2 eg (pA_set e hs es hr q))
theorem pC_vn (e : ρ[i]? = some (some v)) (h : ∃ y, c v .none = some y ∧ Q (.bool y) σ) : wE (dCm c (dVar i) dNone) ρ σ Q := wE_cm (wE_var e (wE_none h))
theorem pC_vv (e : ρ[i]? = some (some v)) (e2 : ρ[j]? = some (some x)) (h : ∃ y, c v x = some y ∧ Q (.bool y) σ) : wE (dCm c (dVar i) (dVar j)) ρ σ Q := wE_cm (wE_var e (wE_var e2 h))
theorem pC_an (e : ρ[i]? = some (some (.ref k))) (hs : Ho σ A) (hm : (k, mo) ∈ A) (eg : getF mo fl = some x) (h : ∃ y, c x .none = some y ∧ Q (.bool y) σ) : wE (dCm c (dAttr fl (dVar i)) dNone) ρ σ Q := wE_cm (pE_av e hs hm eg (wE_none h))
theorem pC_av (e : ρ[i]? = some (some (.ref k))) (hs : Ho σ A) (hm : (k, mo) ∈ A) (eg : getF mo fl = some x) (e2 : ρ[j]? = some (some v)) (h : ∃ y, c x v = some y ∧ Q (.bool y) σ) : wE (dCm c (dAttr fl (dVar i)) (dVar j)) ρ σ Q := wE_cm (pE_av e hs hm eg (wE_var e2 h))
theorem pL_1 (e1 : ρ[i1]? = some (some v1)) (q : QL [v1] σ) : wL (dCons (dVar i1) dNil) ρ σ QL := wL_cons (wE_var e1 (wL_nil q))
theorem pL_2 (e1 : ρ[i1]? = some (some v1)) (e2 : ρ[i2]? = some (some v2)) (q : QL [v1, v2] σ) : wL (dCons (dVar i1) (dCons (dVar i2) dNil)) ρ σ QL := wL_cons (wE_var e1 (pL_1 e2 q))
theorem pL_3 (e1 : ρ[i1]? = some (some v1)) (e2 : ρ[i2]? = some (some v2)) (e3 : ρ[i3]? = some (some v3)) (q : QL [v1, v2, v3] σ) : wL (dCons (dVar i1) (dCons (dVar i2) (dCons (dVar i3) dNil))) ρ σ QL := wL_cons (wE_var e1 (pL_2 e2 e3 q))
theorem pL_4 (e1 : ρ[i1]? = some (some v1)) (e2 : ρ[i2]? = some (some v2)) (e3 : ρ[i3]? = some (some v3)) (e4 : ρ[i4]? = some (some v4)) (q : QL [v1, v2, v3, v4] σ) : wL (dCons (dVar i1) (dCons (dVar i2) (dCons (dVar i3) (dCons (dVar i4) dNil)))) ρ σ QL := wL_cons (wE_var e1 (pL_3 e2 e3 e4 q))
theorem pG_1 (e1 : ρ[i1]? = some (some v1)) (h : wG g [v1] σ Q) : wE (dCall g (dCons (dVar i1) dNil)) ρ σ Q := wE_call (pL_1 e1 h)
theorem pG_2 (e1 : ρ[i1]? = some (some v1)) (e2 : ρ[i2]? = some (some v2)) (h : wG g [v1, v2] σ Q) : wE (dCall g (dCons (dVar i1) (dCons (dVar i2) dNil))) ρ σ Q := wE_call (pL_2 e1 e2 h)
theorem pG_3 (e1 : ρ[i1]? = some (some v1)) (e2 : ρ[i2]? = some (some v2)) (e3 : ρ[i3]? = some (some v3)) (h : wG g [v1, v2, v3] σ Q) : wE (dCall g (dCons (dVar i1) (dCons (dVar i2) (dCons (dVar i3) dNil)))) ρ σ Q := wE_call (pL_3 e1 e2 e3 h)
theorem pG_4 (e1 : ρ[i1]? = some (some v1)) (e2 : ρ[i2]? = some (some v2)) (e3 : ρ[i3]? = some (some v3)) (e4 : ρ[i4]? = some (some v4)) (h : wG g [v1, v2, v3, v4] σ Q) : wE (dCall g (dCons (dVar i1) (dCons (dVar i2) (dCons (dVar i3) (dCons (dVar i4) dNil))))) ρ σ Q := wE_call (pL_4 e1 e2 e3 e4 h)
end
/-- one step of a reading -/
local macro_rules | `(tactic| wtm_at "w0") => `(tactic| first
  | (with_reducible show wE _ _ _ _); with_reducible (first
    | refine wE_var (by with_unfolding_all rfl) ?_ | refine pE_av (by with_unfolding_all rfl) (by with_unfolding_all assumption) (by with_unfolding_all wtm_at "mem") (by with_unfolding_all wtm_at "getr") ?_ | refine pC_vn (by with_unfolding_all rfl) ?_ | refine pC_vv (by with_unfolding_all rfl) (by with_unfolding_all rfl) ?_ | refine pC_an (by with_unfolding_all rfl) (by with_unfolding_all assumption) (by with_unfolding_all wtm_at "mem") (by with_unfolding_all wtm_at "getr") ?_ | refine pC_av (by with_unfolding_all rfl) (by with_unfolding_all assumption) (by with_unfolding_all wtm_at "mem") (by with_unfolding_all wtm_at "getr") (by with_unfolding_all rfl) ?_ | refine pG_1 (by with_unfolding_all rfl) ?_ | refine pG_2 (by with_unfolding_all rfl) (by with_unfolding_all rfl) ?_ | refine pG_3 (by with_unfolding_all rfl) (by with_unfolding_all rfl) (by with_unfolding_all rfl) ?_ | refine pG_4 (by with_unfolding_all rfl) (by with_unfolding_all rfl) (by with_unfolding_all rfl) (by with_unfolding_all rfl) ?_ | refine sE_attr ?_ | refine wE_int ?_ | refine wE_bin ?_ | refine wE_none ?_ | refine wE_cm ?_ | refine wE_call ?_ | refine wE_not ?_ | refine wE_and ?_ | refine wE_or ?_ | refine wE_ite ?_
    | refine wE_bool ?_ | refine wE_tup ?_ | refine sE_list ?_)
  | (with_reducible show wS _ _ _ _); with_reducible (first
    | refine pS_nv (by with_unfolding_all rfl) ?_ | refine pS_na (by with_unfolding_all rfl) (by with_unfolding_all assumption) (by with_unfolding_all wtm_at "mem") (by with_unfolding_all wtm_at "getr") ?_ | (refine pS_sv (by with_unfolding_all rfl) (by with_unfolding_all rfl) (by with_unfolding_all assumption) (by with_unfolding_all wtm_at "mem") (by with_unfolding_all wtm_at "setr") (by with_unfolding_all wtm_at "repa") ?_; intro _ _) | (refine pS_sn (by with_unfolding_all rfl) (by with_unfolding_all assumption) (by with_unfolding_all wtm_at "mem") (by with_unfolding_all wtm_at "setr") (by with_unfolding_all wtm_at "repa") ?_; intro _ _) | (refine pS_sb (by with_unfolding_all rfl) (by with_unfolding_all assumption) (by with_unfolding_all wtm_at "mem") (by with_unfolding_all wtm_at "setr") (by with_unfolding_all wtm_at "repa") ?_; intro _ _) | (refine pS_si (by with_unfolding_all rfl) (by with_unfolding_all assumption) (by with_unfolding_all wtm_at "mem") (by with_unfolding_all wtm_at "setr") (by with_unfolding_all wtm_at "repa") ?_; intro _ _) | (refine pS_sa (by with_unfolding_all rfl) (by with_unfolding_all rfl) (by with_unfolding_all assumption) (by with_unfolding_all wtm_at "mem") (by with_unfolding_all wtm_at "getr") (by with_unfolding_all wtm_at "mem") (by with_unfolding_all wtm_at "setr") (by with_unfolding_all wtm_at "repa") ?_; intro _ _)
    | refine wS_assign ?_ | refine wS_nil ?_ | refine wS_if ?_ | refine wS_expr ?_ | refine wS_ret ?_ | refine wS_retn ?_ | refine wS_for ?_)
  | (with_reducible first
    | refine seqK_n ?_ | refine asgK_i ?_ | refine exprK_i ?_ | refine ifK_i ?_ | refine callK_i ?_ | refine retK_i ?_ | refine funK_n ?_ | refine funK_r ?_ | refine seqK_r ?_ | refine whK_i ?_ | refine iteK_i ?_ | refine andK_i ?_ | refine forK_n ?_)
  | (with_reducible show wL _ _ _ _); with_reducible (first | refine pL_1 (by with_unfolding_all rfl) ?_ | refine pL_2 (by with_unfolding_all rfl) (by with_unfolding_all rfl) ?_ | refine pL_3 (by with_unfolding_all rfl) (by with_unfolding_all rfl) (by with_unfolding_all rfl) ?_ | refine pL_4 (by with_unfolding_all rfl) (by with_unfolding_all rfl) (by with_unfolding_all rfl) (by with_unfolding_all rfl) ?_ | refine wL_cons ?_ | refine wL_nil ?_)
  | (with_reducible show wA _ _ _ _ _); with_reducible (first | refine sA_attr ?_ | refine wA_name ?_)
  | (with_reducible show wI _ _ _ _); with_reducible (first | refine wI_tup ?_)
  | (with_reducible show Exists _); (first
     | with_reducible refine ex_int ?_ | with_reducible refine ex_bool ?_ | with_reducible refine bin_add ?_ | with_reducible refine cm_int ?_
     | refine attr_rule ‹Ho _ _› (by wtm_at "mem") (by wtm_at "getr") ?_
     | (refine upd_rule ‹Ho _ _› (by wtm_at "mem") (by wtm_at "setr") (by wtm_at "repa") ?_; intro _ _)
     | refine cm_is_yes ?_ | refine cm_not_yes ?_
     | (refine ⟨_, rfl, ?_⟩))
  | (with_reducible show wF _ _ _ _ _ _ _ _); (first | refine wF_step rfl ?_ | refine wF_stop rfl ?_)
  | (with_reducible show And _ _); (first | refine br_t rfl ?_ | refine br_f rfl ?_ | refine br_t' rfl ?_ | refine br_f' rfl ?_ | refine ⟨Nat.le_of_ble_eq_true rfl, ?_⟩ | with_reducible refine ⟨rfl, ?_⟩ | refine br_t (beq_self_eq_true _) ?_ | refine br_f (nb_self _) ?_))
local macro_rules | `(tactic| wtm_at "w1") => `(tactic| first | wtm_at "w0" | with_reducible refine wS_seq ?_)
local macro_rules | `(tactic| wtm_at "ws") => `(tactic| repeat wtm_at "w1")
/-- one statement: up to the next one, or up to a call -/
local macro_rules | `(tactic| wtm_at "wz") => `(tactic| repeat wtm_at "w0")
local macro_rules | `(tactic| wtm_at "sk") => `(tactic| try (with_reducible first | refine seqK_n ?_ | refine forK_n ?_ | refine exprK_i ?_ | refine seqK_r ?_))
local macro_rules | `(tactic| wtm_at "wst") => `(tactic| (wtm_at "sk"; (with_reducible refine wS_seq ?_); wtm_at "wz"))
theorem wS_cut {a b : DS} {ρ : Rho} {σ : St} {QS : Fl → Rho → St → Prop} (R : St → Prop) (h1 : wS a ρ σ (fun fl ρ1 σ1 => fl = .next ∧ ρ1 = ρ ∧ R σ1)) (h2 : ∀ σ1, R σ1 → wS b ρ σ1 QS) : wS (dsSeq a b) ρ σ QS := by
  refine wS_seq (h1.mono fun fl ρ1 σ1 h => ?_)
  obtain ⟨rfl, rfl, r⟩ := h
  exact h2 _ r
theorem hand_down_sp {σ : St} {p : Option Nat} {l r : T} {x : Nat} {d : Dat} {F : At} (hs : Ho σ (at_ p (.node l x d r) ++ F)) {Q : V → St → Prop}
    (q : ∀ σ', Ho σ' (at_ p (.node (push d.offset l) x (hdn d) (push d.offset r)) ++ F) → Q .none σ') : wG g_hand_down [.ref x] σ Q := by
  unfold g_hand_down s_hand_down b_hand_down_1
  refine wG_fun rfl ?_
  wtm_at "ws"
  refine ⟨fun h => ?_, fun h => ?_⟩
  · have h0 : d.offset = 0 := by simpa [Cop.ev] using h
    wtm_at "ws"
    refine q _ ?_
    rw [h0, push_zero, push_zero, hdn_zero h0]
    exact hs
  · cases l <;> cases r <;> wtm_at "ws"
    all_goals exact q _ ‹Ho _ _›
noncomputable def mx (a : Int) : Option Int → Int
  | Option.none => a
  | some b => if b > a then b else a
noncomputable def lv : T → Option Int
  | .nil => Option.none
  | .node _ _ d _ => some (d.limit + d.offset)
noncomputable def ge (d : Dat) (a b : Option Int) : Int := mx (mx d.end_ a) b
noncomputable def Son (A : At) (o : Option Nat) (v : Option Int) : Prop := (o = Option.none ∧ v = Option.none) ∨ ∃ k n, o = some k ∧ v = some (n.limit + n.offset) ∧ (k, MO.node n) ∈ A
theorem son_of {A : At} {p : Option Nat} {t : T} (h : ∀ x ∈ at_ p t, x ∈ A) : Son A t.root (lv t) := by
  cases t with
  | nil => exact .inl ⟨rfl, rfl⟩
  | node l k d r => exact .inr ⟨k, rc p l.root d r.root, rfl, rfl, h _ (.head _)⟩

theorem gmax_sp {a b : Int} {σ : St} {Q : V → St → Prop} (q : Q (.int (if b > a then b else a)) σ) : wG gMax [.int a, .int b] σ Q := ⟨_, _, rfl, q⟩

theorem greatest_end_sp {σ : St} {A : At} {p lo ro : Option Nat} {x : Nat} {d : Dat} {a b : Option Int} (hs : Ho σ A) (hx : (x, MO.node (rc p lo d ro)) ∈ A) (hl : Son A lo a) (hr : Son A ro b) {Q : V → St → Prop}
    (q : Q (.int (ge d a b)) σ) : wG g_greatest_end [.ref x] σ Q := by
  unfold g_greatest_end s_greatest_end b_greatest_end_1
  refine wG_fun rfl ?_
  unfold ge at q
  rcases hl with ⟨rfl, rfl⟩ | ⟨k1, ⟨_, _, _, _, _, _, _, _, _, _, _⟩, rfl, rfl, m1⟩ <;> rcases hr with ⟨rfl, rfl⟩ | ⟨k2, ⟨_, _, _, _, _, _, _, _, _, _, _⟩, rfl, rfl, m2⟩
  · wtm_at "ws"
    exact q
  · wtm_at "ws"
    refine gmax_sp ?_
    wtm_at "ws"
    exact q
  · wtm_at "ws"
    refine gmax_sp ?_
    wtm_at "ws"
    exact q
  · wtm_at "ws"
    refine gmax_sp ?_
    wtm_at "ws"
    refine gmax_sp ?_
    wtm_at "ws"
    exact q

noncomputable def RedIs (A : At) (o : Option Nat) (v : Bool) : Prop := (o = Option.none ∧ v = false) ∨ ∃ k n, o = some k ∧ v = n.red ∧ (k, MO.node n) ∈ A
noncomputable def isRed : T → Bool
  | .nil => false
  | .node _ _ d _ => d.red
theorem red_of {A : At} {p : Option Nat} {t : T} (h : ∀ x ∈ at_ p t, x ∈ A) : RedIs A t.root (isRed t) := by
  cases t with
  | nil => exact .inl ⟨rfl, rfl⟩
  | node l k d r => exact .inr ⟨k, rc p l.root d r.root, rfl, rfl, h _ (.head _)⟩
theorem red_eq {A : At} {p : Option Nat} {t : T} {b : Bool} (e : isRed t = b) (h : ∀ x ∈ at_ p t, x ∈ A) : RedIs A t.root b := by
  rw [← e]
  exact red_of h
theorem is_red_sp {σ : St} {A : At} {o : Option Nat} {v : Bool} (hs : Ho σ A) (hx : RedIs A o v) {Q : V → St → Prop} (q : Q (.bool v) σ) : wG g_is_red [V.opt o] σ Q := by
  unfold g_is_red s_is_red
  refine wG_fun rfl ?_
  rcases hx with ⟨rfl, rfl⟩ | ⟨k, ⟨_, _, _, _, _, _, _, _, _, _, _⟩, rfl, rfl, m⟩
  · wtm_at "ws"
    exact q
  · wtm_at "ws"
    exact q
theorem Ho.ne_mem {σ : St} {A B : At} (h : Ho σ (A ++ B)) {x y : Nat} {a b : MO} (hx : (x, a) ∈ A) (hy : (y, b) ∈ B) : x ≠ y := by
  have := h.1
  rw [List.map_append, List.nodup_append] at this
  exact this.2.2 x (List.mem_map_of_mem (f := (·.1)) hx) y (List.mem_map_of_mem (f := (·.1)) hy)
theorem root_mem {p : Option Nat} {t : T} {k : Nat} (h : t.root = some k) : ∃ mo, (k, mo) ∈ at_ p t := by
  cases t with
  | nil => cases h
  | node l j d r => cases h; exact ⟨_, .head _⟩

/-- parent.left/right (or the tree's root) is turned from x to what stands in o -/
theorem hang_sp {σ : St} {tk x y : Nat} {c : Int} {ps : List Frm} {F F' : At} {mx : MO} {p l r : Option Nat} {d : Dat} (hs : Ho σ (atP tk c (some x) ps ++ F)) (hx : (x, mx) ∈ F) (hy : (y, MO.node (rc p l d r)) ∈ F) (hr : RepA y (.node (rc p l d r)) (.node (rc (top ps) l d r)) F F') {Q : V → St → Prop}
    (q : ∀ σ', Ho σ' (atP tk c (some y) ps ++ F') → Q .none σ') : wG g_hang [.ref tk, V.opt (top ps), .ref x, .ref y] σ Q := by
  unfold g_hang s_hang
  refine wG_fun rfl ?_
  cases ps with
  | nil =>
    wtm_at "ws"
    exact q _ ‹Ho _ _›
  | cons f ps =>
    obtain ⟨fl, k, fd, sib⟩ := f
    cases fl with
    | true =>
      simp only [atP, frc, if_true] at hs
      wtm_at "ws"
      refine q _ ?_
      simp only [atP, frc, if_true]
      exact ‹Ho _ _›
    | false =>
      simp only [atP, frc, Bool.false_eq_true, if_false] at hs
      have hne : ∀ s, sib.root = some s → s ≠ x := fun s e => by
        obtain ⟨mo, hm⟩ := root_mem (p := some k) e
        exact hs.ne_mem (.tail _ (List.mem_append_left _ hm)) hx
      cases sib with
      | nil =>
        wtm_at "ws"
        refine q _ ?_
        simp only [atP, frc, Bool.false_eq_true, if_false]
        exact ‹Ho _ _›
      | node sl s sd sr =>
        wtm_at "ws"
        refine br_f (by simpa using hne s rfl) ?_
        wtm_at "ws"
        refine q _ ?_
        simp only [atP, frc, Bool.false_eq_true, if_false]
        exact ‹Ho _ _›
noncomputable def dn (d : Dat) (o : Int) : Dat := hdn { d with offset := d.offset + o }
noncomputable def rotL (a : T) (x : Nat) (dx : Dat) (b : T) (y : Nat) (dy : Dat) (c : T) : T :=
  let a' := push dx.offset a
  let b' := push (dy.offset + dx.offset) b
  let c' := push (dy.offset + dx.offset) c
  let dx1 := hdn dx
  let dy1 := dn dy dx.offset
  let dx2 := dx1.setL (ge dx1 (lv a') (lv b'))
  .node (.node a' x dx2 b') y (dy1.setL (ge dy1 (some (dx2.limit + dx2.offset)) (lv c'))) c'
noncomputable def rotR (a : T) (x : Nat) (dx : Dat) (b : T) (y : Nat) (dy : Dat) (c : T) : T :=
  let a' := push dx.offset a
  let b' := push (dy.offset + dx.offset) b
  let c' := push (dy.offset + dx.offset) c
  let dx1 := hdn dx
  let dy1 := dn dy dx.offset
  let dx2 := dx1.setL (ge dx1 (lv b') (lv a'))
  .node c' y (dy1.setL (ge dy1 (lv c') (some (dx2.limit + dx2.offset)))) (.node b' x dx2 a')

theorem turn_left_sp {σ : St} {tk x y : Nat} {c0 : Int} {ps : List Frm} {F : At} {a b c : T} {dx dy : Dat} (hs : Ho σ (at_ (top ps) (.node a x dx (.node b y dy c)) ++ (atP tk c0 (some x) ps ++ F))) {Q : V → St → Prop}
    (q : ∀ σ', Ho σ' (at_ (top ps) (rotL a x dx b y dy c) ++ (atP tk c0 (some y) ps ++ F)) → Q .none σ') : wG g_turn_left [.ref tk, .ref x] σ Q := by
  unfold g_turn_left s_turn_left
  refine wG_fun rfl ?_
  wtm_at "ws"
  refine hand_down_sp hs ?_
  intro σ1 h1
  have h2 : Ho σ1 (at_ (some x) (.node b y { dy with offset := dy.offset + dx.offset } c) ++ ((x, .node (rc (top ps) (push dx.offset a).root (hdn dx) (some y))) :: (at_ (some x) (push dx.offset a) ++ (atP tk c0 (some x) ps ++ F)))) := h1.perm (by
    simp only [at_, push, List.cons_append, List.append_assoc, T.root]
    wtm_at "pm")
  clear h1 hs
  wtm_at "ws"
  refine hand_down_sp h2 ?_
  intro σ3 h3
  clear h2
  simp only [] at h3
  unfold rotL dn at q
  simp only [] at q
  generalize push dx.offset a = a at h3 q
  generalize push (dy.offset + dx.offset) b = b at h3 q
  generalize push (dy.offset + dx.offset) c = c at h3 q
  generalize hdn dx = dx1 at h3 q
  generalize hdn { dy with offset := dy.offset + dx.offset } = dy1 at h3 q
  simp only [at_, List.cons_append, List.append_assoc] at h3
  wtm_at "wz"
  wtm_at "wst"
  refine wS_cut (fun σ' => Ho σ' (atP tk c0 (some x) ps ++ ((y, MO.node (rc (some x) b.root dy1 c.root)) :: (x, MO.node (rc (top ps) a.root dx1 b.root)) :: (at_ (some x) a ++ (at_ (some x) b ++ (at_ (some y) c ++ F)))))) ?_ ?_
  · cases b with
    | nil =>
      wtm_at "ws"
      exact ‹Ho _ _›.perm (by wtm_at "pm")
    | node bl bk bd br =>
      simp only [at_, List.cons_append, List.append_assoc] at *
      wtm_at "ws"
      exact ‹Ho _ _›.perm (by wtm_at "pm")
  intro σ4 h4
  wtm_at "ws"
  refine hang_sp h4 (by wtm_at "mem") (by wtm_at "mem") (by wtm_at "repa") ?_
  intro σ5 h5
  wtm_at "ws"
  refine greatest_end_sp ‹Ho _ _› (by wtm_at "mem") (son_of (p := some x) (t := a) fun z hz => by wtm_at "mem") (son_of (p := some x) (t := b) fun z hz => by wtm_at "mem") ?_
  wtm_at "ws"
  refine greatest_end_sp ‹Ho _ _› (by wtm_at "mem") (.inr ⟨x, _, rfl, rfl, by wtm_at "mem"⟩) (son_of (p := some y) (t := c) fun z hz => by wtm_at "mem") ?_
  wtm_at "ws"
  refine q _ (‹Ho _ _›.perm ?_)
  simp only [at_, List.cons_append, List.append_assoc]
  wtm_at "pm"
theorem turn_right_sp {σ : St} {tk x y : Nat} {c0 : Int} {ps : List Frm} {F : At} {a b c : T} {dx dy : Dat} (hs : Ho σ (at_ (top ps) (.node (.node c y dy b) x dx a) ++ (atP tk c0 (some x) ps ++ F))) {Q : V → St → Prop}
    (q : ∀ σ', Ho σ' (at_ (top ps) (rotR a x dx b y dy c) ++ (atP tk c0 (some y) ps ++ F)) → Q .none σ') : wG g_turn_right [.ref tk, .ref x] σ Q := by
  unfold g_turn_right s_turn_right
  refine wG_fun rfl ?_
  wtm_at "ws"
  refine hand_down_sp hs ?_
  intro σ1 h1
  have h2 : Ho σ1 (at_ (some x) (.node c y { dy with offset := dy.offset + dx.offset } b) ++ ((x, .node (rc (top ps) (some y) (hdn dx) (push dx.offset a).root)) :: (at_ (some x) (push dx.offset a) ++ (atP tk c0 (some x) ps ++ F)))) := h1.perm (by
    simp only [at_, push, List.cons_append, List.append_assoc, T.root]
    wtm_at "pm")
  clear h1 hs
  wtm_at "ws"
  refine hand_down_sp h2 ?_
  intro σ3 h3
  clear h2
  simp only [] at h3
  unfold rotR dn at q
  simp only [] at q
  generalize push dx.offset a = a at h3 q
  generalize push (dy.offset + dx.offset) b = b at h3 q
  generalize push (dy.offset + dx.offset) c = c at h3 q
  generalize hdn dx = dx1 at h3 q
  generalize hdn { dy with offset := dy.offset + dx.offset } = dy1 at h3 q
  simp only [at_, List.cons_append, List.append_assoc] at h3
  wtm_at "wz"
  wtm_at "wst"
  refine wS_cut (fun σ' => Ho σ' (atP tk c0 (some x) ps ++ ((y, MO.node (rc (some x) c.root dy1 b.root)) :: (x, MO.node (rc (top ps) b.root dx1 a.root)) :: (at_ (some x) a ++ (at_ (some x) b ++ (at_ (some y) c ++ F)))))) ?_ ?_
  · cases b with
    | nil =>
      wtm_at "ws"
      exact ‹Ho _ _›.perm (by wtm_at "pm")
    | node bl bk bd br =>
      simp only [at_, List.cons_append, List.append_assoc] at *
      wtm_at "ws"
      exact ‹Ho _ _›.perm (by wtm_at "pm")
  intro σ4 h4
  wtm_at "ws"
  refine hang_sp h4 (by wtm_at "mem") (by wtm_at "mem") (by wtm_at "repa") ?_
  intro σ5 h5
  wtm_at "ws"
  refine greatest_end_sp ‹Ho _ _› (by wtm_at "mem") (son_of (p := some x) (t := b) fun z hz => by wtm_at "mem") (son_of (p := some x) (t := a) fun z hz => by wtm_at "mem") ?_
  wtm_at "ws"
  refine greatest_end_sp ‹Ho _ _› (by wtm_at "mem") (son_of (p := some y) (t := c) fun z hz => by wtm_at "mem") (.inr ⟨x, _, rfl, rfl, by wtm_at "mem"⟩) ?_
  wtm_at "ws"
  refine q _ (‹Ho _ _›.perm ?_)
  simp only [at_, List.cons_append, List.append_assoc]
  wtm_at "pm"

/-! ## both ways at once -/
noncomputable def nd (left : Bool) (near : T) (k : Nat) (d : Dat) (far : T) : T := if left then .node near k d far else .node far k d near
noncomputable def rot (left : Bool) (a : T) (x : Nat) (dx : Dat) (b : T) (y : Nat) (dy : Dat) (c : T) : T :=
  let a' := push dx.offset a
  let b' := push (dy.offset + dx.offset) b
  let c' := push (dy.offset + dx.offset) c
  let dx2 := (hdn dx).setL (if left then ge (hdn dx) (lv a') (lv b') else ge (hdn dx) (lv b') (lv a'))
  nd left (nd left a' x dx2 b') y ((dn dy dx.offset).setL (if left then ge (dn dy dx.offset) (some (dx2.limit + dx2.offset)) (lv c') else ge (dn dy dx.offset) (lv c') (some (dx2.limit + dx2.offset)))) c'
theorem turn_sp (left : Bool) {σ : St} {tk x y : Nat} {c0 : Int} {ps : List Frm} {F : At} {a b c : T} {dx dy : Dat} (hs : Ho σ (at_ (top ps) (nd left a x dx (nd left b y dy c)) ++ (atP tk c0 (some x) ps ++ F))) {Q : V → St → Prop}
    (q : ∀ σ', Ho σ' (at_ (top ps) (rot left a x dx b y dy c) ++ (atP tk c0 (some y) ps ++ F)) → Q .none σ') : wG (if left then g_turn_left else g_turn_right) [.ref tk, .ref x] σ Q := by
  cases left with
  | true => exact turn_left_sp (c := c) hs q
  | false => exact turn_right_sp (c := c) hs q
theorem turn_towards_sp {left : Bool} {σ : St} {tk x y : Nat} {c0 : Int} {ps : List Frm} {F : At} {a b c : T} {dx dy : Dat} (hs : Ho σ (at_ (top ps) (nd left a x dx (nd left b y dy c)) ++ (atP tk c0 (some x) ps ++ F))) {Q : V → St → Prop}
    (q : ∀ σ', Ho σ' (at_ (top ps) (rot left a x dx b y dy c) ++ (atP tk c0 (some y) ps ++ F)) → Q .none σ') : wG g_turn_towards [.ref tk, .ref x, .bool left] σ Q := by
  unfold g_turn_towards s_turn_towards
  refine wG_fun rfl ?_
  cases left with
  | true =>
    wtm_at "ws"
    refine turn_left_sp (c := c) hs fun σ' h => ?_
    wtm_at "ws"
    exact q _ h
  | false =>
    wtm_at "ws"
    refine turn_right_sp (c := c) hs fun σ' h => ?_
    wtm_at "ws"
    exact q _ h
/-! # what a tree says -/
structure Item where
  k : Nat
  number : Int
  b : Int
  e : Int
  front : Bool
  rear : Bool
noncomputable def itm (k : Nat) (d : Dat) (o : Int) : Item := ⟨k, d.number, d.begin_ + o, d.end_ + o, d.front, d.rear⟩
noncomputable def eff : Int → T → List Item
  | _, .nil => []
  | o, .node l k d r => eff (o + d.offset) l ++ itm k d (o + d.offset) :: eff (o + d.offset) r
noncomputable def limOk : T → Prop
  | .nil => True
  | .node l _ d r => d.limit = ge d (lv l) (lv r) ∧ limOk l ∧ limOk r
theorem eff_push (a : Int) (t : T) : ∀ o, eff o (push a t) = eff (o + a) t := by
  intro o
  cases t with
  | nil => rfl
  | node l k d r =>
    simp only [push, eff]
    rw [show o + (d.offset + a) = o + a + d.offset by lia]
    rfl
theorem lv_push (a : Int) (t : T) : lv (push a t) = (lv t).map (· + a) := by
  cases t with
  | nil => rfl
  | node l k d r => simp [push, lv, Int.add_assoc]
theorem limOk_push {a : Int} {t : T} : limOk (push a t) ↔ limOk t := by
  cases t with
  | nil => exact Iff.rfl
  | node l k d r => exact Iff.rfl
theorem mx_add (a o : Int) (u : Option Int) : mx (a + o) (u.map (· + o)) = mx a u + o := by
  cases u with
  | none => rfl
  | some b =>
    simp only [mx, Option.map_some]
    split <;> split <;> lia
theorem ge_hdn {d : Dat} {u v : Option Int} (h : d.limit = ge d u v) : (hdn d).limit = ge (hdn d) (u.map (· + d.offset)) (v.map (· + d.offset)) := by
  unfold ge at *
  show d.limit + d.offset = mx (mx (d.end_ + d.offset) _) _
  rw [mx_add, mx_add, h]
/-- the limit that a node ought to bear, with its offset -/
theorem ge_val {d : Dat} {u v : Option Int} (z : Int) : z = ge d u v ↔ (d.end_ ≤ z ∧ (∀ x, u = some x → x ≤ z) ∧ (∀ x, v = some x → x ≤ z) ∧ (z = d.end_ ∨ u = some z ∨ v = some z)) := by
  unfold ge mx
  cases u with
  | none =>
    cases v with
    | none => simp; lia
    | some y => simp; split <;> lia
  | some x =>
    cases v with
    | none => simp; split <;> lia
    | some y =>
      simp
      by_cases h1 : d.end_ < x
      · rw [if_pos h1]; split <;> lia
      · rw [if_neg h1]; split <;> lia
theorem nd_eff (left : Bool) (a : T) (k : Nat) (d : Dat) (b : T) (o : Int) : eff o (nd left a k d b) = if left then eff (o + d.offset) a ++ itm k d (o + d.offset) :: eff (o + d.offset) b else eff (o + d.offset) b ++ itm k d (o + d.offset) :: eff (o + d.offset) a := by
  cases left <;> rfl
theorem itm_setL (k : Nat) (d : Dat) (z o : Int) : itm k (d.setL z) o = itm k d o := rfl
theorem itm_setR (k : Nat) (d : Dat) (z : Bool) (o : Int) : itm k (d.setR z) o = itm k d o := rfl
theorem itm_hdn (k : Nat) (d : Dat) (o : Int) : itm k (hdn d) o = itm k d (o + d.offset) := by
  simp [itm, hdn, Int.add_assoc, Int.add_comm d.offset o]
theorem rot_eff (left : Bool) (a : T) (x : Nat) (dx : Dat) (b : T) (y : Nat) (dy : Dat) (c : T) (o : Int) : eff o (rot left a x dx b y dy c) = eff o (nd left a x dx (nd left b y dy c)) := by
  have h1 : ∀ (z w : Int), ((hdn dx).setL z).offset = 0 ∧ ((dn dy dx.offset).setL w).offset = 0 := fun _ _ => ⟨rfl, rfl⟩
  cases left with
  | true =>
    simp only [rot, nd, if_true, eff, eff_push, itm_setL, dn, itm_hdn, (h1 _ _).1, (h1 _ _).2, Dat.setL, hdn, Int.add_zero, itm, List.append_assoc, List.cons_append]
    simp only [Int.add_assoc, Int.add_left_comm, Int.add_comm]
  | false =>
    simp only [rot, nd, Bool.false_eq_true, if_false, eff, eff_push, itm_setL, dn, itm_hdn, (h1 _ _).1, (h1 _ _).2, Dat.setL, hdn, Int.add_zero, itm, List.append_assoc, List.cons_append]
    simp only [Int.add_assoc, Int.add_left_comm, Int.add_comm]
theorem mx_some (a b : Int) : mx a (some b) = max a b := by
  show (if b > a then b else a) = max a b
  rw [Int.max_def]
  split <;> split <;> lia
theorem mx_none (a : Int) : mx a Option.none = a := rfl
theorem lv_node (l : T) (k : Nat) (d : Dat) (r : T) : lv (.node l k d r) = some (d.limit + d.offset) := rfl
theorem mx_swap (p : Int) (A B : Option Int) : mx (mx p A) B = mx (mx p B) A := by
  cases A with
  | none => rfl
  | some a =>
    cases B with
    | none => rfl
    | some b => rw [mx_some, mx_some, mx_some, mx_some, Int.max_assoc, Int.max_comm a b, ← Int.max_assoc]
theorem ge_comm (d : Dat) (A B : Option Int) : ge d A B = ge d B A := mx_swap d.end_ A B
theorem mx_max (p q : Int) (A : Option Int) : mx (max p q) A = max p (mx q A) := by
  cases A with
  | none => rfl
  | some a => rw [mx_some, mx_some, Int.max_assoc]
theorem mx_key (p q : Int) (B C : Option Int) : mx (mx q (some (mx p B))) C = mx p (some (mx (mx q B) C)) := by
  rw [mx_some, mx_some, Int.max_comm q, ← mx_max, ← mx_max]
  congr 1
  cases B with
  | none => rfl
  | some b => rw [mx_some, mx_some, Int.max_assoc, Int.max_comm b q, ← Int.max_assoc]
theorem rot_core {dx dy : Dat} {A B C : Option Int} (h1 : dx.limit = ge dx A (some (dy.limit + dy.offset))) (h3 : dy.limit = ge dy B C) :
    ge (dn dy dx.offset) (some (ge (hdn dx) (A.map (· + dx.offset)) (B.map (· + (dy.offset + dx.offset))))) (C.map (· + (dy.offset + dx.offset))) = dx.limit + dx.offset := by
  unfold ge at *
  show mx (mx (dy.end_ + (dy.offset + dx.offset)) (some (mx (mx (dx.end_ + dx.offset) _) _))) _ = _
  rw [mx_key, mx_add dy.end_ _ B, mx_add _ _ C, h1, h3, ← mx_add (mx dx.end_ A), mx_add dx.end_ _ A, Option.map_some, Int.add_assoc]
theorem rot_lim (left : Bool) (a : T) (x : Nat) (dx : Dat) (b : T) (y : Nat) (dy : Dat) (c : T) (h : limOk (nd left a x dx (nd left b y dy c))) : limOk (rot left a x dx b y dy c) ∧ lv (rot left a x dx b y dy c) = lv (nd left a x dx (nd left b y dy c)) := by
  cases left with
  | true =>
    simp only [nd, if_true, limOk, lv_node] at h
    obtain ⟨h1, h2, h3, h4, h5⟩ := h
    refine ⟨?_, ?_⟩
    · simp only [rot, nd, if_true, limOk, limOk_push]
      exact ⟨rfl, ⟨rfl, h2, h4⟩, h5⟩
    · have k := rot_core h1 h3
      simp only [rot, nd, if_true, lv_node, lv_push]
      show some (ge (dn dy dx.offset) (some (ge (hdn dx) _ _ + 0)) _ + 0) = _
      rw [Int.add_zero, Int.add_zero, k]
  | false =>
    simp only [nd, Bool.false_eq_true, if_false, limOk, lv_node] at h
    obtain ⟨h1, ⟨h3, h5, h4⟩, h2⟩ := h
    refine ⟨?_, ?_⟩
    · simp only [rot, nd, Bool.false_eq_true, if_false, limOk, limOk_push]
      exact ⟨rfl, h5, ⟨rfl, h4, h2⟩⟩
    · have k := rot_core (h1.trans (ge_comm _ _ _)) (h3.trans (ge_comm _ _ _))
      simp only [rot, nd, Bool.false_eq_true, if_false, lv_node, lv_push]
      show some (ge (dn dy dx.offset) _ (some (ge (hdn dx) _ _ + 0)) + 0) = _
      rw [Int.add_zero, Int.add_zero, ge_comm, ge_comm (hdn dx), k]
theorem mx_grow (p e : Int) (A B : Option Int) : mx (mx (mx p A) B) (some e) = mx (mx p (some (mx e A))) B := by
  rw [mx_swap (mx p A) B]
  congr 1
  cases A with
  | none => rfl
  | some a => rw [mx_some, mx_some, mx_some, mx_some, Int.max_assoc, Int.max_comm a e]
theorem ge_grow {d : Dat} {A B : Option Int} {e : Int} (h : d.limit = ge d A B) : mx (hdn d).limit (some e) = ge (hdn d) (some (mx e (A.map (· + d.offset)))) (B.map (· + d.offset)) := by
  unfold ge at *
  show mx (d.limit + d.offset) _ = mx (mx (d.end_ + d.offset) _) _
  rw [h, ← mx_grow, mx_add, mx_add]

/-! ## the whole of it, from a place in it -/
noncomputable def fill (f : Frm) (t : T) : T := nd f.left t f.k f.d f.sib
noncomputable def plug : T → List Frm → T
  | t, [] => t
  | t, f :: ps => plug (fill f t) ps
theorem fill_at (f : Frm) (t : T) (p : Option Nat) : (at_ p (fill f t)).Perm ((f.k, MO.node (frc p t.root f)) :: (at_ (some f.k) t ++ at_ (some f.k) f.sib)) := by
  obtain ⟨l, k, d, s⟩ := f
  cases l with
  | true => exact .refl _
  | false =>
    simp only [fill, nd, Bool.false_eq_true, if_false, at_, frc]
    exact (List.perm_append_comm).cons _
theorem fill_root (f : Frm) (t : T) : (fill f t).root = some f.k := by
  obtain ⟨l, k, d, s⟩ := f
  cases l <;> rfl
theorem plug_root : ∀ (ps : List Frm) (t : T), t.root = Option.none ∨ True → (plug t ps).root = (match ps.getLast? with | Option.none => t.root | some f => some f.k)
  | [], t, _ => rfl
  | [f], t, _ => fill_root f t
  | f :: g :: ps, t, _ => by
    rw [plug, plug_root (g :: ps) (fill f t) (.inr trivial)]
    rfl
/-- into the whole -/
theorem plug_perm (tk : Nat) (c : Int) : ∀ (ps : List Frm) (t : T), (at_ (top ps) t ++ atP tk c t.root ps).Perm (at_ Option.none (plug t ps) ++ [(tk, MO.tree ⟨(plug t ps).root, c⟩)])
  | [], t => .refl _
  | f :: ps, t => by
    rw [plug]
    refine List.Perm.trans ?_ (plug_perm tk c ps (fill f t))
    rw [fill_root]
    simp only [atP, top]
    refine List.Perm.trans ?_ ((fill_at f t (top ps)).symm.append_right _)
    simp only [List.cons_append, List.append_assoc]
    wtm_at "pm"
/-- one step down, one step up -/
theorem down_perm (tk : Nat) (c : Int) (f : Frm) (t : T) (ps : List Frm) : (at_ (top ps) (fill f t) ++ atP tk c (some f.k) ps).Perm (at_ (some f.k) t ++ atP tk c t.root (f :: ps)) := by
  refine ((fill_at f t (top ps)).append_right _).trans ?_
  simp only [atP, List.cons_append, List.append_assoc]
  wtm_at "pm"

theorem eff_fill (f : Frm) {t t' : T} (h : ∀ o, eff o t = eff o t') : ∀ o, eff o (fill f t) = eff o (fill f t') := fun o => by
  unfold fill
  rw [nd_eff, nd_eff, h]
theorem eff_plug : ∀ (ps : List Frm) {t t' : T}, (∀ o, eff o t = eff o t') → ∀ o, eff o (plug t ps) = eff o (plug t' ps)
  | [], _, _, h => h
  | f :: ps, _, _, h => eff_plug ps (eff_fill f h)
theorem lim_fill (f : Frm) {t t' : T} (h1 : limOk t') (h2 : lv t' = lv t) (h : limOk (fill f t)) : limOk (fill f t') ∧ lv (fill f t') = lv (fill f t) := by
  obtain ⟨l, k, d, s⟩ := f
  cases l with
  | true =>
    simp only [fill, nd, if_true, limOk, lv] at *
    rw [h2]
    exact ⟨⟨h.1, h1, h.2.2⟩, trivial⟩
  | false =>
    simp only [fill, nd, Bool.false_eq_true, if_false, limOk, lv] at *
    rw [h2]
    exact ⟨⟨h.1, h.2.1, h1⟩, trivial⟩
theorem lim_plug_sub : ∀ (ps : List Frm) {t : T}, limOk (plug t ps) → limOk t
  | [], _, h => h
  | f :: ps, t, h => by
    have := lim_plug_sub ps (t := fill f t) h
    obtain ⟨l, k, d, s⟩ := f
    cases l with
    | true => exact this.2.1
    | false => exact this.2.2
theorem lim_plug : ∀ (ps : List Frm) {t t' : T}, limOk t' → lv t' = lv t → limOk (plug t ps) → limOk (plug t' ps)
  | [], _, _, h1, _, _ => h1
  | f :: ps, t, t', h1, h2, h => by
    obtain ⟨a, b⟩ := lim_fill f h1 h2 (lim_plug_sub ps (t := fill f t) h)
    exact lim_plug ps a b h

/-! ## red and black -/
noncomputable def RB : T → Nat → Prop
  | .nil, n => n = 0
  | .node l _ d r, n => if d.red = true then isRed l = false ∧ isRed r = false ∧ RB l n ∧ RB r n else ∃ m, n = m + 1 ∧ RB l m ∧ RB r m
noncomputable def topRed : List Frm → Bool
  | [] => false
  | f :: _ => f.d.red
noncomputable def PB : List Frm → Nat → Prop
  | [], _ => True
  | f :: ps, n => RB f.sib n ∧ if f.d.red = true then isRed f.sib = false ∧ topRed ps = false ∧ ps ≠ [] ∧ PB ps n else PB ps (n + 1)
theorem RB_push {a : Int} {t : T} {n : Nat} : RB (push a t) n ↔ RB t n := by
  cases t <;> exact Iff.rfl
theorem isRed_push {a : Int} {t : T} : isRed (push a t) = isRed t := by cases t <;> rfl
theorem RB_nd (left : Bool) (a : T) (k : Nat) (d : Dat) (b : T) (n : Nat) : RB (nd left a k d b) n ↔ if d.red = true then isRed a = false ∧ isRed b = false ∧ RB a n ∧ RB b n else ∃ m, n = m + 1 ∧ RB a m ∧ RB b m := by
  cases left with
  | true => exact Iff.rfl
  | false =>
    simp only [nd, Bool.false_eq_true, if_false, RB]
    split
    · constructor
      · rintro ⟨a, b, c, d⟩; exact ⟨b, a, d, c⟩
      · rintro ⟨a, b, c, d⟩; exact ⟨b, a, d, c⟩
    · constructor
      · rintro ⟨m, a, b, c⟩; exact ⟨m, a, c, b⟩
      · rintro ⟨m, a, b, c⟩; exact ⟨m, a, c, b⟩
theorem isRed_nd (left : Bool) (a : T) (k : Nat) (d : Dat) (b : T) : isRed (nd left a k d b) = d.red := by cases left <;> rfl
theorem RB_plug : ∀ (ps : List Frm) {t : T} {n : Nat}, RB t n → PB ps n → (isRed t = true → topRed ps = false) → ∃ m, RB (plug t ps) m
  | [], _, n, h, _, _ => ⟨n, h⟩
  | f :: ps, t, n, h, hp, hr => by
    unfold PB at hp
    rw [plug]
    by_cases hf : f.d.red = true
    · rw [if_pos hf] at hp
      have ht : isRed t = false := by
        cases e : isRed t with
        | false => rfl
        | true => have := hr e; simp [topRed, hf] at this
      refine RB_plug ps (n := n) ?_ hp.2.2.2.2 fun _ => hp.2.2.1
      unfold fill
      rw [RB_nd, if_pos hf]
      exact ⟨ht, hp.2.1, h, hp.1⟩
    · rw [if_neg hf] at hp
      refine RB_plug ps (n := n + 1) ?_ hp.2 fun e => ?_
      · unfold fill
        rw [RB_nd, if_neg hf]
        exact ⟨n, rfl, h, hp.1⟩
      · unfold fill at e
        rw [isRed_nd] at e
        exact absurd e hf
/-- out of the whole -/
theorem RB_unplug : ∀ (ps : List Frm) {t : T} {m : Nat}, RB (plug t ps) m → (isRed (plug t ps) = false) → ∃ n, RB t n ∧ PB ps n ∧ (isRed t = true → topRed ps = false ∧ ps ≠ [])
  | [], t, m, h, hr => ⟨m, h, trivial, fun e => by rw [plug] at hr; rw [hr] at e; cases e⟩
  | f :: ps, t, m, h, hr => by
    obtain ⟨n, h1, h2, h3⟩ := RB_unplug ps (t := fill f t) h hr
    unfold fill at h1 h3
    rw [RB_nd] at h1
    rw [isRed_nd] at h3
    unfold PB
    by_cases hf : f.d.red = true
    · rw [if_pos hf] at h1
      obtain ⟨a1, a2, a3, a4⟩ := h1
      obtain ⟨b1, b2⟩ := h3 hf
      refine ⟨n, a3, ⟨a4, ?_⟩, fun e => by rw [a1] at e; cases e⟩
      rw [if_pos hf]
      exact ⟨a2, b1, b2, h2⟩
    · rw [if_neg hf] at h1
      obtain ⟨k, rfl, a3, a4⟩ := h1
      refine ⟨k, a3, ⟨a4, ?_⟩, fun e => ⟨by simpa [topRed] using hf, by simp⟩⟩
      rw [if_neg hf]
      exact h2
theorem kids_ne {σ : St} {p : Option Nat} {l r : T} {k : Nat} {d : Dat} {F : At} (hs : Ho σ (at_ p (.node l k d r) ++ F)) : (∀ s, l.root = some s → s ≠ k) ∧ (∀ s, r.root = some s → s ≠ k) ∧ ∀ s s', l.root = some s → r.root = some s' → s ≠ s' := by
  simp only [at_, List.cons_append, List.append_assoc] at hs
  refine ⟨fun s h => ?_, fun s h => ?_, fun s s' h h' => ?_⟩
  · obtain ⟨mo, hm⟩ := root_mem (p := some k) h
    exact (Ho.ne_mem (A := [_]) hs (.head _) (List.mem_append_left _ hm)).symm
  · obtain ⟨mo, hm⟩ := root_mem (p := some k) h
    exact (Ho.ne_mem (A := [_]) hs (.head _) (List.mem_append_right _ (List.mem_append_left _ hm))).symm
  · obtain ⟨mo, hm⟩ := root_mem (p := some k) h
    obtain ⟨mo', hm'⟩ := root_mem (p := some k) h'
    exact Ho.ne_mem hs.tail hm (List.mem_append_left _ hm')
theorem cm_is_no {o : Option Nat} {z : Nat} {P : Bool → Prop} (h : ∀ s, o = some s → s ≠ z) (q : P false) : ∃ x, cIs (V.opt o) (.ref z) = some x ∧ P x := by
  cases o with
  | none => exact ⟨_, rfl, q⟩
  | some s =>
    refine ⟨false, ?_, q⟩
    have := h s rfl
    simp [V.opt, cIs_rr, this]
theorem cm_not_no {o : Option Nat} {z : Nat} {P : Bool → Prop} (h : ∀ s, o = some s → s ≠ z) (q : P true) : ∃ x, cIsNot (V.opt o) (.ref z) = some x ∧ P x := by
  obtain ⟨x, e, r⟩ := cm_is_no (P := fun b => b = false) h rfl
  subst r
  exact ⟨true, by simp [cIsNot, e], q⟩

theorem turned_inward_sp {σ : St} {tk z : Nat} {c0 : Int} {f : Frm} {qs : List Frm} {F : At} {zl zr : T} {zd : Dat} {il : Bool} (hs : Ho σ (at_ (top qs) (fill f (.node zl z zd zr)) ++ (atP tk c0 (some f.k) qs ++ F))) {Q : V → St → Prop}
    (q1 : f.left = il → Q (.ref z) σ) (q2 : f.left = !il → ∀ σ', Ho σ' (at_ (top qs) (rot il f.sib f.k f.d (if il then zl else zr) z zd (if il then zr else zl)) ++ (atP tk c0 (some z) qs ++ F)) → Q (.ref f.k) σ') :
    wG g_turned_inward [.ref tk, .ref z, .bool il] σ Q := by
  obtain ⟨fl, fk, fd, sib⟩ := f
  unfold g_turned_inward s_turned_inward
  refine wG_fun rfl ?_
  cases fl with
  | true =>
    simp only [fill, nd, if_true] at hs
    have ne := kids_ne hs
    have hs' := hs
    simp only [at_, List.cons_append, List.append_assoc] at hs'
    cases il with
    | true =>
      wtm_at "ws"
      refine cm_is_no (fun s e => (ne.2.2 z s rfl e).symm) ?_
      wtm_at "ws"
      exact q1 rfl
    | false =>
      wtm_at "ws"
      refine turn_right_sp hs fun σ' h => ?_
      wtm_at "ws"
      exact q2 rfl _ h
  | false =>
    simp only [fill, nd, Bool.false_eq_true, if_false] at hs
    have ne := kids_ne hs
    have hs' := hs
    simp only [at_, List.cons_append, List.append_assoc] at hs'
    cases il with
    | true =>
      wtm_at "ws"
      refine turn_left_sp hs fun σ' h => ?_
      wtm_at "ws"
      exact q2 rfl _ h
    | false =>
      wtm_at "ws"
      refine cm_is_no (fun s e => ne.2.2 s z e rfl) ?_
      wtm_at "ws"
      exact q1 rfl
theorem redis_mem {A : At} {k : Nat} {n : Nd} (h : (k, MO.node n) ∈ A) : RedIs A (some k) n.red := .inr ⟨k, n, rfl, rfl, h⟩
theorem frc_red (p h : Option Nat) (f : Frm) : (frc p h f).red = f.d.red := by
  obtain ⟨fl, fk, fd, sib⟩ := f
  cases fl <;> rfl

theorem plug_permF (tk : Nat) (c : Int) (ps : List Frm) (t : T) (F : At) : (at_ (top ps) t ++ (atP tk c t.root ps ++ F)).Perm (at_ Option.none (plug t ps) ++ ((tk, MO.tree ⟨(plug t ps).root, c⟩) :: F)) := by
  have := (plug_perm tk c ps t).append_right F
  simpa only [List.append_assoc, List.cons_append, List.nil_append] using this
theorem down_permF (tk : Nat) (c : Int) (f : Frm) (t : T) (ps : List Frm) (F : At) : (at_ (top ps) (fill f t) ++ (atP tk c (some f.k) ps ++ F)).Perm (at_ (some f.k) t ++ (atP tk c t.root (f :: ps) ++ F)) := by
  have := (down_perm tk c f t ps).append_right F
  simpa only [List.append_assoc] using this

theorem ci_exit {A : At} {σ : St} {z y : Nat} {p2 l r l2 r2 : Option Nat} {d d2 : Dat} (hs : Ho σ A) (hz : (z, MO.node (rc (some y) l d r)) ∈ A) (hy : (y, MO.node (rc p2 l2 d2 r2)) ∈ A) (hd : d2.red = false) {v0 : Option V} {rest : Rho} {QS : Fl → Rho → St → Prop}
    (q : QS .next (v0 :: some (.ref z) :: rest) σ) : wS (dsWhile t_colour_inserted_1 b_colour_inserted_1) (v0 :: some (.ref z) :: rest) σ QS := by
  refine wS_while ?_
  refine wE_call ?_
  wtm_at "ws"
  refine is_red_sp (v := false) hs (.inr ⟨y, _, rfl, hd.symm, hy⟩) ?_
  wtm_at "ws"
  exact q

theorem fin1 (gl : Bool) {t sib gs : T} {fk gk : Nat} {fd gd : Dat} {n : Nat} {ps : List Frm} (h1 : RB t n) (h2 : RB sib n) (h3 : isRed sib = false) (h4 : RB gs n) (h5 : isRed gs = false) (h6 : PB ps (n + 1)) (lim : limOk (plug (nd gl (nd gl t fk fd sib) gk gd gs) ps)) :
    (∀ o, eff o (plug (rot (!gl) gs gk (gd.setR true) sib fk (fd.setR false) t) ps) = eff o (plug (nd gl (nd gl t fk fd sib) gk gd gs) ps)) ∧ limOk (plug (rot (!gl) gs gk (gd.setR true) sib fk (fd.setR false) t) ps) ∧ ∃ m, RB (plug (rot (!gl) gs gk (gd.setR true) sib fk (fd.setR false) t) ps) m := by
  have e1 : ∀ fd gd, nd gl (nd gl t fk fd sib) gk gd gs = nd (!gl) gs gk gd (nd (!gl) sib fk fd t) := fun _ _ => by cases gl <;> rfl
  have e2 : ∀ o, eff o (nd gl (nd gl t fk (fd.setR false) sib) gk (gd.setR true) gs) = eff o (nd gl (nd gl t fk fd sib) gk gd gs) := fun o => by cases gl <;> rfl
  have e3 : limOk (nd gl (nd gl t fk fd sib) gk gd gs) → limOk (nd gl (nd gl t fk (fd.setR false) sib) gk (gd.setR true) gs) := fun h => by cases gl <;> exact h
  have e4 : lv (nd gl (nd gl t fk (fd.setR false) sib) gk (gd.setR true) gs) = lv (nd gl (nd gl t fk fd sib) gk gd gs) := by cases gl <;> rfl
  obtain ⟨l1, l2⟩ := rot_lim (!gl) gs gk (gd.setR true) sib fk (fd.setR false) t (by rw [← e1]; exact e3 (lim_plug_sub ps lim))
  refine ⟨eff_plug ps fun o => ?_, lim_plug ps l1 ?_ lim, ?_⟩
  · rw [rot_eff, ← e1, e2]
  · rw [l2, ← e1, e4]
  · refine RB_plug ps (n := n + 1) ?_ h6 fun h => ?_
    · unfold rot
      simp only [RB_nd, RB_push, isRed_push, Dat.setR, Dat.setL, dn, hdn, isRed_nd, if_true, Bool.false_eq_true, if_false]
      exact ⟨n, rfl, ⟨h5, h3, h4, h2⟩, h1⟩
    · unfold rot at h
      rw [isRed_nd] at h
      cases h

theorem rot_shape (gl : Bool) (a : T) (x : Nat) (dx : Dat) (b : T) (y : Nat) (dy : Dat) (c : T) : ∃ a' dx' b' dy' c', rot gl a x dx b y dy c = nd gl (nd gl a' x dx' b') y dy' c' ∧ dx'.red = dx.red ∧ dy'.red = dy.red ∧
    (∀ n, RB a' n ↔ RB a n) ∧ isRed a' = isRed a ∧ (∀ n, RB b' n ↔ RB b n) ∧ isRed b' = isRed b ∧ (∀ n, RB c' n ↔ RB c n) ∧ isRed c' = isRed c :=
  ⟨_, _, _, _, _, rfl, rfl, rfl, fun _ => RB_push, isRed_push, fun _ => RB_push, isRed_push, fun _ => RB_push, isRed_push⟩
theorem fin2 (gl : Bool) {s nr fr gs O : T} {fk z gk : Nat} {fx zx gd : Dat} {n : Nat} {ps : List Frm} (hx : fx.red = true) (h1 : RB s n) (h1' : isRed s = false) (h2 : RB nr n) (h2' : isRed nr = false) (h3 : RB fr n) (h3' : isRed fr = false) (h4 : RB gs n) (h5 : isRed gs = false) (h6 : PB ps (n + 1))
    (he : ∀ o, eff o (nd gl (nd gl s fk fx nr) z zx fr) = eff o O) (hl : limOk (nd gl (nd gl s fk fx nr) z zx fr)) (hv : lv (nd gl (nd gl s fk fx nr) z zx fr) = lv O) (lim : limOk (plug (nd gl O gk gd gs) ps)) :
    (∀ o, eff o (plug (rot (!gl) gs gk (gd.setR true) fr z (zx.setR false) (nd gl s fk fx nr)) ps) = eff o (plug (nd gl O gk gd gs) ps)) ∧ limOk (plug (rot (!gl) gs gk (gd.setR true) fr z (zx.setR false) (nd gl s fk fx nr)) ps) ∧ ∃ m, RB (plug (rot (!gl) gs gk (gd.setR true) fr z (zx.setR false) (nd gl s fk fx nr)) ps) m := by
  obtain ⟨k1, k2⟩ := lim_fill ⟨gl, gk, gd, gs⟩ hl hv (lim_plug_sub ps (t := nd gl O gk gd gs) lim)
  have lim' : limOk (plug (nd gl (nd gl (nd gl s fk fx nr) z zx fr) gk gd gs) ps) := lim_plug ps k1 k2 lim
  obtain ⟨a1, a2, a3⟩ := fin1 gl (t := nd gl s fk fx nr) (sib := fr) (fk := z) (fd := zx) (gk := gk) (gd := gd) (gs := gs) (n := n) (by rw [RB_nd, if_pos hx]; exact ⟨h1', h2', h1, h2⟩) h3 h3' h4 h5 h6 lim'
  exact ⟨fun o => (a1 o).trans (eff_plug ps (fun o => eff_fill ⟨gl, gk, gd, gs⟩ he o) o), a2, a3⟩

theorem red_node {t : T} (h : isRed t = true) : ∃ l k d r, t = .node l k d r ∧ d.red = true := by
  cases t with
  | nil => cases h
  | node l k d r => exact ⟨l, k, d, r, rfl, h⟩
theorem ci_loop {tk : Nat} {c0 : Int} {F : At} : ∀ (ps : List Frm) (zl : T) (z : Nat) (zd : Dat) (zr : T) (n : Nat) (σ : St) (v2 v3 v4 v5 : Option V), Ho σ (at_ (top ps) (.node zl z zd zr) ++ (atP tk c0 (some z) ps ++ F)) → zd.red = true → RB (.node zl z zd zr) n → PB ps n → limOk (plug (.node zl z zd zr) ps) →
    ∀ QS : Fl → Rho → St → Prop, (∀ σ' t' w1 w2 w3 w4 w5, Ho σ' (at_ Option.none t' ++ ((tk, .tree ⟨t'.root, c0⟩) :: F)) → (∀ o, eff o t' = eff o (plug (.node zl z zd zr) ps)) → limOk t' → (∃ m, RB t' m) → QS .next [some (.ref tk), w1, w2, w3, w4, w5] σ') →
    wS (dsWhile t_colour_inserted_1 b_colour_inserted_1) [some (.ref tk), some (.ref z), v2, v3, v4, v5] σ QS
  | [], zl, z, zd, zr, n, σ, v2, v3, v4, v5, hs, hz, rb, pb, lim, QS, q => by
    refine wS_while ?_
    refine wE_call ?_
    have hs' := hs
    simp only [at_, List.cons_append, List.append_assoc] at hs'
    wtm_at "ws"
    refine is_red_sp (v := false) hs' (.inl ⟨rfl, rfl⟩) ?_
    wtm_at "ws"
    exact q _ _ _ _ _ _ _ (hs.perm (by simp only [atP]; wtm_at "pm")) (fun _ => rfl) lim ⟨n, rb⟩
  | f :: ps, zl, z, zd, zr, n, σ, v2, v3, v4, v5, hs, hz, rb, pb, lim, QS, q => by
    by_cases hf : f.d.red = true
    · unfold PB at pb
      rw [if_pos hf] at pb
      obtain ⟨rbs, sibb, tb, pne, pb'⟩ := pb
      cases ps with
      | nil => exact absurd rfl pne
      | cons g ps =>
      have hg : g.d.red = false := tb
      unfold PB at pb'
      rw [if_neg (by rw [hg]; simp)] at pb'
      obtain ⟨rbg, pb2⟩ := pb'
      refine wS_while ?_
      refine wE_call ?_
      have hs' := hs
      simp only [at_, atP, List.cons_append, List.append_assoc] at hs'
      wtm_at "ws"
      refine is_red_sp (v := true) hs' (.inr ⟨f.k, _, rfl, ?_, by wtm_at "mem"⟩) ?_
      · rw [frc_red, hf]
      obtain ⟨fl, fk, fd, sib⟩ := f
      obtain ⟨gl, gk, gd, gs⟩ := g
      have up : Ho σ (at_ (top ps) (fill ⟨gl, gk, gd, gs⟩ (fill ⟨fl, fk, fd, sib⟩ (.node zl z zd zr))) ++ (atP tk c0 (some gk) ps ++ F)) := by
        refine Ho.perm ?_ (down_permF tk c0 ⟨gl, gk, gd, gs⟩ _ ps F).symm
        rw [fill_root]
        exact hs.perm (down_permF tk c0 ⟨fl, fk, fd, sib⟩ (.node zl z zd zr) (⟨gl, gk, gd, gs⟩ :: ps) F).symm
      cases gl with
      | true =>
        have ne := kids_ne up
        cases fl with
        | true =>
          simp only [frc, if_true, Bool.false_eq_true, if_false] at hs'
          wtm_at "ws"
          refine wS_seq ?_
          wtm_at "ws"
          refine is_red_sp (v := isRed gs) hs' (red_of (p := some gk) fun x hx => by wtm_at "mem") ?_
          wtm_at "ws"
          refine ⟨fun hu => ?_, fun hu => ?_⟩
          · clear up ne hs
            obtain ⟨ul, u, ud, ur, rfl, hu'⟩ := red_node hu
            · 
              simp only [at_, List.cons_append, List.append_assoc] at hs'
              wtm_at "ws"
              simp only [RB] at rbg
              rw [if_pos hu'] at rbg
              have lim1 := lim_plug_sub ps (t := .node (.node (.node zl z zd zr) fk fd sib) gk gd (.node ul u ud ur)) lim
              have hh := ‹Ho _ _›
              refine ci_loop (tk := tk) (c0 := c0) (F := F) ps (.node (.node zl z zd zr) fk (fd.setR false) sib) gk (gd.setR true) (.node ul u (ud.setR false) ur) (n + 1) _ _ _ _ _ (hh.perm ?_) rfl ?_ pb2 (lim_plug ps (t := .node (.node (.node zl z zd zr) fk fd sib) gk gd (.node ul u ud ur)) lim1 rfl lim) QS ?_
              · simp only [at_, List.cons_append, List.append_assoc]
                wtm_at "pm"
              · simp only [RB, isRed, Dat.setR, if_true, Bool.false_eq_true, if_false]
                exact ⟨trivial, trivial, ⟨n, rfl, rb, rbs⟩, n, rfl, rbg.2.2.1, rbg.2.2.2⟩
              · intro σ' t' w1 w2 w3 w4 w5 h1 h2 h3 h4
                exact q σ' t' w1 w2 w3 w4 w5 h1 (fun o => (h2 o).trans (eff_plug ps (t := .node (.node (.node zl z zd zr) fk (fd.setR false) sib) gk (gd.setR true) (.node ul u (ud.setR false) ur)) (t' := .node (.node (.node zl z zd zr) fk fd sib) gk gd (.node ul u ud ur)) (fun _ => rfl) o)) h3 h4
          · refine wS_seq ?_
            wtm_at "ws"
            refine turned_inward_sp (f := ⟨true, fk, fd, sib⟩) (qs := ⟨true, gk, gd, gs⟩ :: ps) (il := true) (up.perm (down_permF tk c0 ⟨true, gk, gd, gs⟩ (fill ⟨true, fk, fd, sib⟩ (.node zl z zd zr)) ps F)) (fun _ => ?_) (fun h => by cases h)
            wtm_at "ws"
            have hh := ‹Ho _ _›
            refine turn_right_sp (ps := ps) (a := gs) (b := sib) (c := .node zl z zd zr) (hh.perm (by simp only [at_, List.cons_append, List.append_assoc]; wtm_at "pm")) ?_
            intro σ' h'
            wtm_at "ws"
            refine cps fun Xc kc => ?_
            obtain ⟨a1, a2, a3⟩ := fin1 true (fk := fk) (gk := gk) (fd := fd) (gd := gd) rb rbs sibb rbg hu pb2 lim
            refine kc ?_; clear kc Xc
            have h'' := h'
            simp only [rotR, push, at_, List.cons_append, List.append_assoc, T.root] at h''
            refine ci_exit h'' (by wtm_at "mem") (by wtm_at "mem") rfl ?_
            exact q σ' _ _ _ _ _ _ (h'.perm (plug_permF tk c0 ps _ F)) a1 a2 a3
        | false =>
          simp only [frc, if_true, Bool.false_eq_true, if_false] at hs'
          wtm_at "ws"
          refine wS_seq ?_
          wtm_at "ws"
          refine is_red_sp (v := isRed gs) hs' (red_of (p := some gk) fun x hx => by wtm_at "mem") ?_
          wtm_at "ws"
          refine ⟨fun hu => ?_, fun hu => ?_⟩
          · clear up ne hs
            obtain ⟨ul, u, ud, ur, rfl, hu'⟩ := red_node hu
            · 
              simp only [at_, List.cons_append, List.append_assoc] at hs'
              wtm_at "ws"
              simp only [RB] at rbg
              rw [if_pos hu'] at rbg
              have lim1 := lim_plug_sub ps (t := .node (.node sib fk fd (.node zl z zd zr)) gk gd (.node ul u ud ur)) lim
              have hh := ‹Ho _ _›
              refine ci_loop (tk := tk) (c0 := c0) (F := F) ps (.node sib fk (fd.setR false) (.node zl z zd zr)) gk (gd.setR true) (.node ul u (ud.setR false) ur) (n + 1) _ _ _ _ _ (hh.perm ?_) rfl ?_ pb2 (lim_plug ps (t := .node (.node sib fk fd (.node zl z zd zr)) gk gd (.node ul u ud ur)) lim1 rfl lim) QS ?_
              · simp only [at_, List.cons_append, List.append_assoc]
                wtm_at "pm"
              · simp only [RB, isRed, Dat.setR, if_true, Bool.false_eq_true, if_false]
                exact ⟨trivial, trivial, ⟨n, rfl, rbs, rb⟩, n, rfl, rbg.2.2.1, rbg.2.2.2⟩
              · intro σ' t' w1 w2 w3 w4 w5 h1 h2 h3 h4
                exact q σ' t' w1 w2 w3 w4 w5 h1 (fun o => (h2 o).trans (eff_plug ps (t := .node (.node sib fk (fd.setR false) (.node zl z zd zr)) gk (gd.setR true) (.node ul u (ud.setR false) ur)) (t' := .node (.node sib fk fd (.node zl z zd zr)) gk gd (.node ul u ud ur)) (fun _ => rfl) o)) h3 h4
          · refine wS_seq ?_
            wtm_at "ws"
            refine turned_inward_sp (f := ⟨false, fk, fd, sib⟩) (qs := ⟨true, gk, gd, gs⟩ :: ps) (il := true) (up.perm (down_permF tk c0 ⟨true, gk, gd, gs⟩ (fill ⟨false, fk, fd, sib⟩ (.node zl z zd zr)) ps F)) (fun h => by cases h) (fun _ => ?_)
            intro σ1 h1
            have rbz := rb
            simp only [RB] at rbz
            rw [if_pos hz] at rbz
            have lim1 := lim_plug_sub ps (t := .node (.node sib fk fd (.node zl z zd zr)) gk gd (gs)) lim
            have lim2 : limOk (nd true sib fk fd (nd true zl z zd zr)) := lim1.2.1
            have hl := rot_lim true sib fk fd zl z zd zr lim2
            have he := rot_eff true sib fk fd zl z zd zr
            refine cps fun Xc kc => ?_
            obtain ⟨s1, fx, nr, zx, fr, e, e1, e2, e3, e4, e5, e6, e7, e8⟩ := rot_shape true sib fk fd zl z zd zr
            refine kc ?_; clear kc Xc
            simp only [if_true, Bool.false_eq_true, if_false] at h1
            rw [e] at h1 hl he
            simp only [nd, if_true, Bool.false_eq_true, if_false, at_, List.cons_append, List.append_assoc, T.root, atP, frc] at h1
            wtm_at "ws"
            have hh := ‹Ho _ _›
            refine turn_right_sp (ps := ps) (a := gs) (b := fr) (c := .node s1 fk fx nr) (hh.perm (by simp only [at_, List.cons_append, List.append_assoc]; wtm_at "pm")) ?_
            intro σ' h'
            wtm_at "ws"
            refine cps fun Xc kc => ?_
            obtain ⟨a1, a2, a3⟩ := fin2 true (s := s1) (nr := nr) (fr := fr) (fk := fk) (z := z) (gk := gk) (fx := fx) (zx := zx) (gd := gd) (ps := ps) (e1.trans hf) ((e3 n).mpr rbs) (e4.trans sibb) ((e5 n).mpr rbz.2.2.1) (e6.trans rbz.1) ((e7 n).mpr rbz.2.2.2) (e8.trans rbz.2.1) rbg hu pb2 he hl.1 hl.2 lim
            refine kc ?_; clear kc Xc
            have h'' := h'
            simp only [rotR, push, at_, List.cons_append, List.append_assoc, T.root] at h''
            refine ci_exit h'' (by wtm_at "mem") (by wtm_at "mem") rfl ?_
            exact q σ' _ _ _ _ _ _ (h'.perm (plug_permF tk c0 ps _ F)) a1 a2 a3
      | false =>
        have ne := kids_ne up
        cases fl with
        | true =>
          simp only [frc, if_true, Bool.false_eq_true, if_false] at hs'
          wtm_at "ws"
          refine wS_seq ?_
          wtm_at "ws"
          refine cm_is_no (fun s e => ne.2.2 s fk e (fill_root _ _)) ?_
          wtm_at "ws"
          refine is_red_sp (v := isRed gs) hs' (red_of (p := some gk) fun x hx => by wtm_at "mem") ?_
          wtm_at "ws"
          refine ⟨fun hu => ?_, fun hu => ?_⟩
          · clear up ne hs
            obtain ⟨ul, u, ud, ur, rfl, hu'⟩ := red_node hu
            · 
              simp only [at_, List.cons_append, List.append_assoc] at hs'
              wtm_at "ws"
              simp only [RB] at rbg
              rw [if_pos hu'] at rbg
              have lim1 := lim_plug_sub ps (t := .node (.node ul u ud ur) gk gd (.node (.node zl z zd zr) fk fd sib)) lim
              have hh := ‹Ho _ _›
              refine ci_loop (tk := tk) (c0 := c0) (F := F) ps (.node ul u (ud.setR false) ur) gk (gd.setR true) (.node (.node zl z zd zr) fk (fd.setR false) sib) (n + 1) _ _ _ _ _ (hh.perm ?_) rfl ?_ pb2 (lim_plug ps (t := .node (.node ul u ud ur) gk gd (.node (.node zl z zd zr) fk fd sib)) lim1 rfl lim) QS ?_
              · simp only [at_, List.cons_append, List.append_assoc]
                wtm_at "pm"
              · simp only [RB, isRed, Dat.setR, if_true, Bool.false_eq_true, if_false]
                exact ⟨trivial, trivial, ⟨n, rfl, rbg.2.2.1, rbg.2.2.2⟩, n, rfl, rb, rbs⟩
              · intro σ' t' w1 w2 w3 w4 w5 h1 h2 h3 h4
                exact q σ' t' w1 w2 w3 w4 w5 h1 (fun o => (h2 o).trans (eff_plug ps (t := .node (.node ul u (ud.setR false) ur) gk (gd.setR true) (.node (.node zl z zd zr) fk (fd.setR false) sib)) (t' := .node (.node ul u ud ur) gk gd (.node (.node zl z zd zr) fk fd sib)) (fun _ => rfl) o)) h3 h4
          · refine wS_seq ?_
            wtm_at "ws"
            refine turned_inward_sp (f := ⟨true, fk, fd, sib⟩) (qs := ⟨false, gk, gd, gs⟩ :: ps) (il := false) (up.perm (down_permF tk c0 ⟨false, gk, gd, gs⟩ (fill ⟨true, fk, fd, sib⟩ (.node zl z zd zr)) ps F)) (fun h => by cases h) (fun _ => ?_)
            intro σ1 h1
            have rbz := rb
            simp only [RB] at rbz
            rw [if_pos hz] at rbz
            have lim1 := lim_plug_sub ps (t := .node (gs) gk gd (.node (.node zl z zd zr) fk fd sib)) lim
            have lim2 : limOk (nd false sib fk fd (nd false zr z zd zl)) := lim1.2.2
            have hl := rot_lim false sib fk fd zr z zd zl lim2
            have he := rot_eff false sib fk fd zr z zd zl
            refine cps fun Xc kc => ?_
            obtain ⟨s1, fx, nr, zx, fr, e, e1, e2, e3, e4, e5, e6, e7, e8⟩ := rot_shape false sib fk fd zr z zd zl
            refine kc ?_; clear kc Xc
            simp only [if_true, Bool.false_eq_true, if_false] at h1
            rw [e] at h1 hl he
            simp only [nd, if_true, Bool.false_eq_true, if_false, at_, List.cons_append, List.append_assoc, T.root, atP, frc] at h1
            wtm_at "ws"
            have hh := ‹Ho _ _›
            refine turn_left_sp (ps := ps) (a := gs) (b := fr) (c := .node nr fk fx s1) (hh.perm (by simp only [at_, List.cons_append, List.append_assoc]; wtm_at "pm")) ?_
            intro σ' h'
            wtm_at "ws"
            refine cps fun Xc kc => ?_
            obtain ⟨a1, a2, a3⟩ := fin2 false (s := s1) (nr := nr) (fr := fr) (fk := fk) (z := z) (gk := gk) (fx := fx) (zx := zx) (gd := gd) (ps := ps) (e1.trans hf) ((e3 n).mpr rbs) (e4.trans sibb) ((e5 n).mpr rbz.2.2.2) (e6.trans rbz.2.1) ((e7 n).mpr rbz.2.2.1) (e8.trans rbz.1) rbg hu pb2 he hl.1 hl.2 lim
            refine kc ?_; clear kc Xc
            have h'' := h'
            simp only [rotL, push, at_, List.cons_append, List.append_assoc, T.root] at h''
            refine ci_exit h'' (by wtm_at "mem") (by wtm_at "mem") rfl ?_
            exact q σ' _ _ _ _ _ _ (h'.perm (plug_permF tk c0 ps _ F)) a1 a2 a3
        | false =>
          simp only [frc, if_true, Bool.false_eq_true, if_false] at hs'
          wtm_at "ws"
          refine wS_seq ?_
          wtm_at "ws"
          refine cm_is_no (fun s e => ne.2.2 s fk e (fill_root _ _)) ?_
          wtm_at "ws"
          refine is_red_sp (v := isRed gs) hs' (red_of (p := some gk) fun x hx => by wtm_at "mem") ?_
          wtm_at "ws"
          refine ⟨fun hu => ?_, fun hu => ?_⟩
          · clear up ne hs
            obtain ⟨ul, u, ud, ur, rfl, hu'⟩ := red_node hu
            · 
              simp only [at_, List.cons_append, List.append_assoc] at hs'
              wtm_at "ws"
              simp only [RB] at rbg
              rw [if_pos hu'] at rbg
              have lim1 := lim_plug_sub ps (t := .node (.node ul u ud ur) gk gd (.node sib fk fd (.node zl z zd zr))) lim
              have hh := ‹Ho _ _›
              refine ci_loop (tk := tk) (c0 := c0) (F := F) ps (.node ul u (ud.setR false) ur) gk (gd.setR true) (.node sib fk (fd.setR false) (.node zl z zd zr)) (n + 1) _ _ _ _ _ (hh.perm ?_) rfl ?_ pb2 (lim_plug ps (t := .node (.node ul u ud ur) gk gd (.node sib fk fd (.node zl z zd zr))) lim1 rfl lim) QS ?_
              · simp only [at_, List.cons_append, List.append_assoc]
                wtm_at "pm"
              · simp only [RB, isRed, Dat.setR, if_true, Bool.false_eq_true, if_false]
                exact ⟨trivial, trivial, ⟨n, rfl, rbg.2.2.1, rbg.2.2.2⟩, n, rfl, rbs, rb⟩
              · intro σ' t' w1 w2 w3 w4 w5 h1 h2 h3 h4
                exact q σ' t' w1 w2 w3 w4 w5 h1 (fun o => (h2 o).trans (eff_plug ps (t := .node (.node ul u (ud.setR false) ur) gk (gd.setR true) (.node sib fk (fd.setR false) (.node zl z zd zr))) (t' := .node (.node ul u ud ur) gk gd (.node sib fk fd (.node zl z zd zr))) (fun _ => rfl) o)) h3 h4
          · refine wS_seq ?_
            wtm_at "ws"
            refine turned_inward_sp (f := ⟨false, fk, fd, sib⟩) (qs := ⟨false, gk, gd, gs⟩ :: ps) (il := false) (up.perm (down_permF tk c0 ⟨false, gk, gd, gs⟩ (fill ⟨false, fk, fd, sib⟩ (.node zl z zd zr)) ps F)) (fun _ => ?_) (fun h => by cases h)
            wtm_at "ws"
            have hh := ‹Ho _ _›
            refine turn_left_sp (ps := ps) (a := gs) (b := sib) (c := .node zl z zd zr) (hh.perm (by simp only [at_, List.cons_append, List.append_assoc]; wtm_at "pm")) ?_
            intro σ' h'
            wtm_at "ws"
            refine cps fun Xc kc => ?_
            obtain ⟨a1, a2, a3⟩ := fin1 false (fk := fk) (gk := gk) (fd := fd) (gd := gd) rb rbs sibb rbg hu pb2 lim
            refine kc ?_; clear kc Xc
            have h'' := h'
            simp only [rotL, push, at_, List.cons_append, List.append_assoc, T.root] at h''
            refine ci_exit h'' (by wtm_at "mem") (by wtm_at "mem") rfl ?_
            exact q σ' _ _ _ _ _ _ (h'.perm (plug_permF tk c0 ps _ F)) a1 a2 a3
    · have hf' : f.d.red = false := by simpa using hf
      refine wS_while ?_
      refine wE_call ?_
      have hs' := hs
      simp only [at_, atP, List.cons_append, List.append_assoc] at hs'
      wtm_at "ws"
      refine is_red_sp (v := false) hs' (.inr ⟨f.k, _, rfl, ?_, by wtm_at "mem"⟩) ?_
      · rw [frc_red, hf']
      wtm_at "ws"
      exact q _ _ _ _ _ _ _ (hs.perm (plug_permF tk c0 (f :: ps) (.node zl z zd zr) F)) (fun _ => rfl) lim (RB_plug _ rb pb fun _ => hf')
noncomputable def size : T → Nat
  | .nil => 0
  | .node l _ _ r => size l + 1 + size r
theorem eff_len (t : T) : ∀ o, (eff o t).length = size t := by
  induction t with
  | nil => intro o; rfl
  | node l k d r ihl ihr =>
    intro o
    simp only [eff, List.length_append, List.length_cons, ihl, ihr, size]
    lia
theorem size_plug : ∀ (ps : List Frm) (t : T), size t ≤ size (plug t ps)
  | [], t => Nat.le_refl _
  | f :: ps, t => by
    refine Nat.le_trans ?_ (size_plug ps (fill f t))
    obtain ⟨l, k, d, s⟩ := f
    cases l <;> simp [fill, nd, size] <;> lia
theorem not_nil {t : T} {ps : List Frm} {l r : T} {k : Nat} {d : Dat} (h : ∀ o, eff o t = eff o (plug (.node l k d r) ps)) : ∃ l' k' d' r', t = .node l' k' d' r' := by
  cases t with
  | node l' k' d' r' => exact ⟨l', k', d', r', rfl⟩
  | nil =>
    have := congrArg List.length (h 0)
    rw [eff_len, eff_len] at this
    have h2 := size_plug ps (.node l k d r)
    simp only [size] at this h2
    lia
theorem blacken {l r : T} {k : Nat} {d : Dat} (h : ∃ m, RB (.node l k d r) m) : ∃ m, RB (.node l k (d.setR false) r) m := by
  obtain ⟨m, h⟩ := h
  simp only [RB] at h
  by_cases hd : d.red = true
  · rw [if_pos hd] at h
    exact ⟨m + 1, by simp only [RB, Dat.setR, Bool.false_eq_true, if_false]; exact ⟨m, rfl, h.2.2.1, h.2.2.2⟩⟩
  · rw [if_neg hd] at h
    exact ⟨m, by simp only [RB, Dat.setR, Bool.false_eq_true, if_false]; exact h⟩

theorem colour_inserted_sp {tk : Nat} {c0 : Int} {F : At} {ps : List Frm} {zl : T} {z : Nat} {zd : Dat} {zr : T} {n : Nat} {σ : St} (hs : Ho σ (at_ (top ps) (.node zl z zd zr) ++ (atP tk c0 (some z) ps ++ F))) (hz : zd.red = true) (rb : RB (.node zl z zd zr) n) (pb : PB ps n) (lim : limOk (plug (.node zl z zd zr) ps)) {Q : V → St → Prop}
    (q : ∀ σ' t', Ho σ' (at_ Option.none t' ++ ((tk, .tree ⟨t'.root, c0⟩) :: F)) → (∀ o, eff o t' = eff o (plug (.node zl z zd zr) ps)) → limOk t' → (∃ m, RB t' m) → isRed t' = false → Q .none σ') : wG g_colour_inserted [.ref tk, .ref z] σ Q := by
  unfold g_colour_inserted s_colour_inserted
  refine wG_fun rfl ?_
  refine wS_seq ?_
  refine ci_loop (tk := tk) (c0 := c0) (F := F) ps zl z zd zr n σ _ _ _ _ hs hz rb pb lim _ ?_
  intro σ' t' w1 w2 w3 w4 w5 h1 h2 h3 h4
  obtain ⟨l, k, d, r, rfl⟩ := not_nil h2
  have h1' := h1
  simp only [at_, List.cons_append, List.append_assoc, T.root] at h1'
  wtm_at "ws"
  have hh := ‹Ho _ _›
  exact q _ (.node l k (d.setR false) r) (hh.perm (by simp only [at_, List.cons_append, List.append_assoc, T.root]; wtm_at "pm")) (fun o => (h2 o)) h3 (blacken h4) rfl
noncomputable def Srt (l : List Item) : Prop := l.Pairwise fun a b => a.b ≤ b.b
structure PInv (b e : Int) (L : List Item) (ps : List Frm) (cur : T) (A B : List Item) (n : Nat) : Prop where
  effs : ∀ x, eff 0 (plug x ps) = A ++ eff 0 x ++ B
  all : L = A ++ eff 0 cur ++ B
  lo : ∀ a ∈ A, a.b < b
  hi : ∀ a ∈ B, b ≤ a.b
  limP : ∀ x, limOk x → lv x = some (mx e (lv cur)) → limOk (plug x ps)
  lim : limOk cur
  rb : RB cur n
  pb : PB ps n
  top : isRed cur = true → topRed ps = false ∧ ps ≠ []

theorem PInv.colour {b e : Int} {L : List Item} {ps : List Frm} {l r : T} {h : Nat} {d : Dat} {A B : List Item} {n : Nat} (I : PInv b e L ps (.node l h d r) A B n) : ∃ m, RB l m ∧ RB r m ∧ (∀ (left : Bool) (d' : Dat) (o : Int), d'.red = d.red → PB (⟨left, h, d', push o (if left then r else l)⟩ :: ps) m) ∧ (isRed l = true → d.red = false) ∧ (isRed r = true → d.red = false) := by
  have rb := I.rb
  simp only [RB] at rb
  by_cases hd : d.red = true
  · rw [if_pos hd] at rb
    obtain ⟨a1, a2, a3, a4⟩ := rb
    obtain ⟨t1, t2⟩ := I.top hd
    refine ⟨n, a3, a4, fun left d' o hd' => ?_, fun h => by (rw [a1] at h; cases h), fun h => by (rw [a2] at h; cases h)⟩
    have h1 : d'.red = true := hd'.trans hd
    cases left with
    | true => simp only [PB, h1, if_true]; exact ⟨RB_push.mpr a4, isRed_push.trans a2, t1, t2, I.pb⟩
    | false => simp only [PB, h1, if_true, Bool.false_eq_true, if_false]; exact ⟨RB_push.mpr a3, isRed_push.trans a1, t1, t2, I.pb⟩
  · rw [if_neg hd] at rb
    obtain ⟨m, rfl, a3, a4⟩ := rb
    have hd2 : d.red = false := by simpa using hd
    refine ⟨m, a3, a4, fun left d' o hd' => ?_, fun _ => hd2, fun _ => hd2⟩
    have h1 : d'.red = false := hd'.trans hd2
    cases left with
    | true => simp only [PB, h1, if_true, Bool.false_eq_true, if_false]; exact ⟨RB_push.mpr a4, I.pb⟩
    | false => simp only [PB, h1, if_true, Bool.false_eq_true, if_false]; exact ⟨RB_push.mpr a3, I.pb⟩

theorem PInv.left {b e : Int} {L : List Item} {ps : List Frm} {l r : T} {h : Nat} {d : Dat} {A B : List Item} {n : Nat} (S : Srt L) (I : PInv b e L ps (.node l h d r) A B n) (hb : b ≤ (hdn d).begin_) :
    ∃ A' B' n', PInv b e L (⟨true, h, (hdn d).setL (mx (hdn d).limit (some e)), push d.offset r⟩ :: ps) (push d.offset l) A' B' n' := by
  obtain ⟨m, r1, r2, r3, r4, r5⟩ := I.colour
  have ie : eff 0 (.node l h d r) = eff 0 (push d.offset l) ++ itm h (hdn d) 0 :: eff 0 (push d.offset r) := by
    simp only [eff, eff_push, itm_hdn]
  refine ⟨A, itm h (hdn d) 0 :: (eff 0 (push d.offset r) ++ B), m, ⟨fun x => ?_, ?_, I.lo, ?_, fun x hx hv => ?_, limOk_push.mpr I.lim.2.1, RB_push.mpr r1, r3 true _ _ rfl, fun hr => ⟨r4 (isRed_push.symm.trans hr), by simp⟩⟩⟩
  · rw [plug, I.effs]
    simp only [fill, nd, if_true, eff, Dat.setL, hdn, Int.add_zero, itm, List.append_assoc, List.cons_append]
  · rw [I.all, ie]
    simp only [List.append_assoc, List.cons_append]
  · intro a ha
    rcases List.mem_cons.mp ha with rfl | ha
    · simpa [itm] using hb
    · have S' := S
      rw [I.all, ie] at S'
      unfold Srt at S'
      rw [show A ++ (eff 0 (push d.offset l) ++ itm h (hdn d) 0 :: eff 0 (push d.offset r)) ++ B = (A ++ eff 0 (push d.offset l)) ++ itm h (hdn d) 0 :: (eff 0 (push d.offset r) ++ B) by simp] at S'
      have := (List.pairwise_append.mp S').2.1
      have := (List.pairwise_cons.mp this).1 a ha
      have h0 : (itm h (hdn d) 0).b = (hdn d).begin_ := by simp [itm]
      lia
  · rw [plug]
    refine I.limP _ ?_ ?_
    · refine ⟨?_, hx, limOk_push.mpr I.lim.2.2⟩
      rw [hv, lv_push, lv_push]
      exact ge_grow I.lim.1
    · show some (_ + _) = _
      simp only [lv_node, mx_some, Dat.setL, hdn]
      congr 1
      lia
theorem PInv.right {b e : Int} {L : List Item} {ps : List Frm} {l r : T} {h : Nat} {d : Dat} {A B : List Item} {n : Nat} (S : Srt L) (I : PInv b e L ps (.node l h d r) A B n) (hb : (hdn d).begin_ < b) :
    ∃ A' B' n', PInv b e L (⟨false, h, (hdn d).setL (mx (hdn d).limit (some e)), push d.offset l⟩ :: ps) (push d.offset r) A' B' n' := by
  obtain ⟨m, r1, r2, r3, r4, r5⟩ := I.colour
  have ie : eff 0 (.node l h d r) = eff 0 (push d.offset l) ++ itm h (hdn d) 0 :: eff 0 (push d.offset r) := by
    simp only [eff, eff_push, itm_hdn]
  refine ⟨A ++ (eff 0 (push d.offset l) ++ [itm h (hdn d) 0]), B, m, ⟨fun x => ?_, ?_, ?_, I.hi, fun x hx hv => ?_, limOk_push.mpr I.lim.2.2, RB_push.mpr r2, r3 false _ _ rfl, fun hr => ⟨r5 (isRed_push.symm.trans hr), by simp⟩⟩⟩
  · rw [plug, I.effs]
    simp only [fill, nd, Bool.false_eq_true, if_false, eff, Dat.setL, hdn, Int.add_zero, itm, List.append_assoc, List.cons_append, List.nil_append]
  · rw [I.all, ie]
    simp only [List.append_assoc, List.cons_append, List.nil_append]
  · intro a ha
    rcases List.mem_append.mp ha with ha | ha
    · exact I.lo a ha
    · have S' := S
      rw [I.all, ie] at S'
      unfold Srt at S'
      have h0 : (itm h (hdn d) 0).b = (hdn d).begin_ := by simp [itm]
      rcases List.mem_append.mp ha with ha | ha
      · rw [show A ++ (eff 0 (push d.offset l) ++ itm h (hdn d) 0 :: eff 0 (push d.offset r)) ++ B = A ++ (eff 0 (push d.offset l) ++ (itm h (hdn d) 0 :: (eff 0 (push d.offset r) ++ B))) by simp] at S'
        have := (List.pairwise_append.mp S').2.1
        have := (List.pairwise_append.mp this).2.2 a ha (itm h (hdn d) 0) (.head _)
        lia
      · rw [List.mem_singleton.mp ha, h0]
        exact hb
  · rw [plug]
    refine I.limP _ ?_ ?_
    · refine ⟨?_, limOk_push.mpr I.lim.2.1, hx⟩
      rw [hv, lv_push, lv_push]
      show mx (hdn d).limit (some e) = ge (hdn d) _ _
      rw [ge_comm]
      exact ge_grow (I.lim.1.trans (ge_comm _ _ _))
    · show some (_ + _) = _
      simp only [lv_node, mx_some, Dat.setL, hdn]
      congr 1
      lia
noncomputable def hl : List Frm → Bool
  | [] => false
  | f :: _ => f.left
theorem put_loop {tk k : Nat} {c0 : Int} {F : At} {p0 l0 r0 : Option Nat} {d0 : Dat} {L : List Item} (S : Srt L) : ∀ (cur : T) (o : Int) (ps : List Frm) (A B : List Item) (n : Nat) (σ : St), Ho σ (at_ (top ps) (push o cur) ++ (atP tk c0 (push o cur).root ps ++ ((k, MO.node (rc p0 l0 d0 r0)) :: F))) → PInv d0.begin_ d0.end_ L ps (push o cur) A B n →
    ∀ QS : Fl → Rho → St → Prop, (∀ σ' ps' A' B' n', Ho σ' (atP tk c0 Option.none ps' ++ ((k, MO.node (rc p0 l0 d0 r0)) :: F)) → PInv d0.begin_ d0.end_ L ps' .nil A' B' n' → QS .next [some (.ref tk), some (.ref k), some .none, some (V.opt (top ps')), some (.bool (hl ps'))] σ') →
    wS (dsWhile t_put_node_1 b_put_node_1) [some (.ref tk), some (.ref k), some (V.opt (push o cur).root), some (V.opt (top ps)), some (.bool (hl ps))] σ QS := by
  intro cur
  induction cur with
  | nil =>
    intro o ps A B n σ hs I QS q
    refine wS_while ?_
    refine wE_cm ?_
    wtm_at "ws"
    exact q _ _ _ _ _ hs I
  | node l h d r ihl ihr =>
    intro o ps A B n σ hs I QS q
    refine wS_while ?_
    refine wE_cm ?_
    wtm_at "ws"
    refine wS_seq ?_
    wtm_at "ws"
    refine hand_down_sp hs ?_
    intro σ1 h1
    simp only [at_, List.cons_append, List.append_assoc] at h1
    wtm_at "ws"
    refine gmax_sp ?_
    wtm_at "ws"
    have h2 := ‹Ho _ _›
    by_cases hb : d0.begin_ ≤ (hdn { d with offset := d.offset + o }).begin_
    · obtain ⟨A', B', n', I'⟩ := PInv.left S I hb
      generalize hcc : Cop.le.ev d0.begin_ _ = cc
      obtain rfl : cc = true := hcc.symm.trans (decide_eq_true hb)
      clear hcc
      wtm_at "ws"
      refine ihl _ _ A' B' n' _ (h2.perm ?_) I' QS q
      simp only [atP, frc, if_true, List.cons_append, List.append_assoc, top]
      wtm_at "pm"
    · have hb' : (hdn { d with offset := d.offset + o }).begin_ < d0.begin_ := by omega
      obtain ⟨A', B', n', I'⟩ := PInv.right S I hb'
      generalize hcc : Cop.le.ev d0.begin_ _ = cc
      obtain rfl : cc = false := hcc.symm.trans (decide_eq_false hb)
      clear hcc
      wtm_at "ws"
      refine ihr _ _ A' B' n' _ (h2.perm ?_) I' QS q
      simp only [atP, frc, Bool.false_eq_true, if_false, List.cons_append, List.append_assoc, top]
      wtm_at "pm"
noncomputable def item (k : Nat) (d : Dat) : Item := ⟨k, d.number, d.begin_, d.end_, d.front, d.rear⟩
theorem itm_zero (k : Nat) (d : Dat) : itm k d 0 = item k d := by simp [itm, item]
theorem put_node_sp {σ : St} {tk k : Nat} {c0 : Int} {F : At} {t : T} {m : Nat} {p l r : Option Nat} {d : Dat} (hs : Ho σ (at_ Option.none t ++ ((tk, .tree ⟨t.root, c0⟩) :: (k, MO.node (rc p l d r)) :: F))) (rb : RB t m) (hr : isRed t = false) (lim : limOk t) (S : Srt (eff 0 t)) {Q : V → St → Prop}
    (q : ∀ σ' t' A B, Ho σ' (at_ Option.none t' ++ ((tk, .tree ⟨t'.root, c0 + 1⟩) :: F)) → eff 0 t = A ++ B → eff 0 t' = A ++ item k d :: B → (∀ a ∈ A, a.b < d.begin_) → (∀ a ∈ B, d.begin_ ≤ a.b) → limOk t' → (∃ m, RB t' m) → isRed t' = false → Q .none σ') : wG g_put_node [.ref tk, .ref k] σ Q := by
  unfold g_put_node s_put_node
  refine wG_fun rfl ?_
  wtm_at "wst"; wtm_at "wst"; wtm_at "wst"; wtm_at "wst"; wtm_at "wst"; wtm_at "wst"
  have h1 := ‹Ho _ _›
  generalize hd1 : (d.setO 0).setL (d.setO 0).end_ = d1 at h1
  have e1 : item k d1 = item k d ∧ d1.begin_ = d.begin_ ∧ d1.end_ = d.end_ ∧ d1.limit = d.end_ ∧ d1.offset = 0 := by subst hd1; exact ⟨rfl, rfl, rfl, rfl, rfl⟩
  clear hd1
  cases t with
  | nil =>
    wtm_at "ws"
    refine q _ (.node .nil k (d1.setR false) .nil) [] [] (‹Ho _ _›.perm ?_) rfl ?_ (fun a h => nomatch h) (fun a h => nomatch h) ?_ ⟨1, ?_⟩ rfl
    · simp only [at_, List.cons_append, List.append_assoc, List.nil_append, T.root]
      wtm_at "pm"
    · simp only [eff, List.nil_append]
      rw [show (0 : Int) + (d1.setR false).offset = 0 from by rw [show (d1.setR false).offset = d1.offset from rfl, e1.2.2.2.2]; rfl, itm_setR, itm_zero, e1.1]
    · refine ⟨?_, trivial, trivial⟩
      show d1.limit = d1.end_
      rw [e1.2.2.2.1, e1.2.2.1]
    · simp [RB, Dat.setR]
  | node tl tk' td tr =>
    wtm_at "wst"; wtm_at "wst"; wtm_at "wst"; wtm_at "wst"
    refine wS_seq ?_
    refine put_loop (tk := tk) (k := k) (c0 := c0 + 1) (F := F) (p0 := Option.none) (l0 := Option.none) (r0 := Option.none) (d0 := d1) (L := eff 0 (.node tl tk' td tr)) S (.node tl tk' td tr) 0 [] [] [] m _ (h1.perm ?_) ?_ _ ?_
    · rw [push_zero]
      simp only [at_, atP, List.cons_append, List.append_assoc, List.nil_append, T.root, top]
      wtm_at "pm"
    · rw [push_zero]
      exact ⟨fun x => by simp [plug], by simp, fun a h => (nomatch h), fun a h => (nomatch h), fun x hx _ => hx, lim, rb, trivial, fun e => by (rw [hr] at e; cases e)⟩
    intro σ2 ps A B n h2 I
    cases ps with
    | nil =>
      exfalso
      have a1 := I.effs .nil
      have a2 := I.all
      rw [← a1] at a2
      have := congrArg List.length a2
      rw [eff_len] at this
      simp [plug, eff, size] at this
    | cons f ps =>
    have rb0 : n = 0 := I.rb
    subst rb0
    have fin : ∀ σ3, Ho σ3 (at_ (top (f :: ps)) (.node .nil k (d1.setR true) .nil) ++ (atP tk (c0 + 1) (some k) (f :: ps) ++ F)) → wG g_colour_inserted [.ref tk, .ref k] σ3 (fun v σ' => v = .none ∧ Q .none σ') := by
      intro σ3 h3
      have lim' : limOk (.node .nil k (d1.setR true) .nil) := ⟨by show d1.limit = d1.end_; rw [e1.2.2.2.1, e1.2.2.1], trivial, trivial⟩
      refine colour_inserted_sp (n := 0) h3 rfl (by simp [RB, isRed, Dat.setR]) I.pb (I.limP _ lim' ?_) ?_
      · show some (d1.limit + d1.offset) = some d1.end_
        rw [e1.2.2.2.1, e1.2.2.2.2, e1.2.2.1]
        simp
      · intro σ' t' g1 g2 g3 g4 g5
        refine ⟨rfl, ?_⟩
        refine q σ' t' A B g1 (by rw [I.all]; simp [eff]) ?_ (fun a ha => by have := I.lo a ha; rw [e1.2.1] at this; exact this) (fun a ha => by have := I.hi a ha; rw [e1.2.1] at this; exact this) g3 g4 g5
        rw [g2, I.effs]
        simp only [eff, List.nil_append]
        rw [show (0 : Int) + (d1.setR true).offset = 0 from by rw [show (d1.setR true).offset = d1.offset from rfl, e1.2.2.2.2]; rfl, itm_setR, itm_zero, e1.1]
        simp
    clear I h1 hs rb lim S q
    obtain ⟨fl, fk, fd, sib⟩ := f
    cases fl with
    | true =>
      simp only [atP, frc, if_true, List.cons_append, List.append_assoc] at h2
      wtm_at "ws"
      refine (fin _ (‹Ho _ _›.perm ?_)).mono fun v σ' hq => ?_
      · simp only [at_, atP, frc, if_true, List.cons_append, List.append_assoc, List.nil_append, T.root, top]
        wtm_at "pm"
      · obtain ⟨rfl, hq⟩ := hq
        wtm_at "ws"
        exact hq
    | false =>
      simp only [atP, frc, Bool.false_eq_true, if_false, List.cons_append, List.append_assoc] at h2
      wtm_at "ws"
      refine (fin _ (‹Ho _ _›.perm ?_)).mono fun v σ' hq => ?_
      · simp only [at_, atP, frc, Bool.false_eq_true, if_false, List.cons_append, List.append_assoc, List.nil_append, T.root, top]
        wtm_at "pm"
      · obtain ⟨rfl, hq⟩ := hq
        wtm_at "ws"
        exact hq
/-- a place in a good tree, all of whose path is handed down -/
structure ZInv (L : List Item) (ps : List Frm) (cur : T) (A B : List Item) (n : Nat) : Prop where
  effs : ∀ x, eff 0 (plug x ps) = A ++ eff 0 x ++ B
  all : L = A ++ eff 0 cur ++ B
  lim : limOk (plug cur ps)
  rb : RB cur n
  pb : PB ps n
  top : isRed cur = true → topRed ps = false ∧ ps ≠ []
theorem ZInv.start {t : T} {m : Nat} (lim : limOk t) (rb : RB t m) (hr : isRed t = false) : ZInv (eff 0 t) [] t [] [] m :=
  ⟨fun x => by simp [plug], by simp, lim, rb, trivial, fun e => by rw [hr] at e; cases e⟩
/-- another tree in the same place -/
theorem ZInv.put {L : List Item} {ps : List Frm} {cur cur' : T} {A B : List Item} {n : Nat} (I : ZInv L ps cur A B n) (he : eff 0 cur' = eff 0 cur) (hl : limOk cur → limOk cur') (hv : lv cur' = lv cur) (hr : RB cur' n) (hd : isRed cur' = isRed cur) : ZInv L ps cur' A B n :=
  ⟨I.effs, by rw [he]; exact I.all, lim_plug ps (hl (lim_plug_sub ps I.lim)) hv I.lim, hr, I.pb, fun e => I.top (hd ▸ e)⟩
theorem hdn_eff (l r : T) (h : Nat) (d : Dat) (o : Int) : eff o (.node (push d.offset l) h (hdn d) (push d.offset r)) = eff o (.node l h d r) := by
  simp only [eff, eff_push, itm_hdn]
  simp [hdn]
theorem hdn_lim {l r : T} {h : Nat} {d : Dat} (hl : limOk (.node l h d r)) : limOk (.node (push d.offset l) h (hdn d) (push d.offset r)) :=
  ⟨by rw [lv_push, lv_push]; exact ge_hdn hl.1, limOk_push.mpr hl.2.1, limOk_push.mpr hl.2.2⟩
theorem hdn_lv (l r l' r' : T) (h : Nat) (d : Dat) : lv (.node l' h (hdn d) r') = lv (.node l h d r) := by
  simp [lv, hdn]
theorem hdn_RB {l r : T} {h : Nat} {d : Dat} {n : Nat} (hr : RB (.node l h d r) n) : RB (.node (push d.offset l) h (hdn d) (push d.offset r)) n := by
  simp only [RB, hdn, isRed_push, RB_push] at *
  exact hr
theorem ZInv.here {L : List Item} {ps : List Frm} {l r : T} {h : Nat} {d : Dat} {A B : List Item} {n : Nat} (I : ZInv L ps (.node l h d r) A B n) : ZInv L ps (.node (push d.offset l) h (hdn d) (push d.offset r)) A B n :=
  I.put (hdn_eff _ _ _ _ _) hdn_lim (hdn_lv _ _ _ _ _ _) (hdn_RB I.rb) rfl
theorem ZInv.colour {L : List Item} {ps : List Frm} {l r : T} {h : Nat} {d : Dat} {A B : List Item} {n : Nat} (I : ZInv L ps (.node l h d r) A B n) : ∃ m, RB l m ∧ RB r m ∧ (∀ (left : Bool), PB (⟨left, h, d, if left then r else l⟩ :: ps) m) ∧ (isRed l = true → d.red = false) ∧ (isRed r = true → d.red = false) := by
  have rb := I.rb
  simp only [RB] at rb
  by_cases hd : d.red = true
  · rw [if_pos hd] at rb
    obtain ⟨a1, a2, a3, a4⟩ := rb
    obtain ⟨t1, t2⟩ := I.top hd
    refine ⟨n, a3, a4, fun left => ?_, fun h => by (rw [a1] at h; cases h), fun h => by (rw [a2] at h; cases h)⟩
    cases left with
    | true => simp only [PB, hd, if_true]; exact ⟨a4, a2, t1, t2, I.pb⟩
    | false => simp only [PB, hd, if_true, Bool.false_eq_true, if_false]; exact ⟨a3, a1, t1, t2, I.pb⟩
  · rw [if_neg hd] at rb
    obtain ⟨m, rfl, a3, a4⟩ := rb
    have hd2 : d.red = false := by simpa using hd
    refine ⟨m, a3, a4, fun left => ?_, fun _ => hd2, fun _ => hd2⟩
    cases left with
    | true => simp only [PB, hd2, if_true, Bool.false_eq_true, if_false]; exact ⟨a4, I.pb⟩
    | false => simp only [PB, hd2, if_true, Bool.false_eq_true, if_false]; exact ⟨a3, I.pb⟩
/-- down to a son of a node that is handed down -/
theorem ZInv.left {L : List Item} {ps : List Frm} {l r : T} {h : Nat} {d : Dat} {A B : List Item} {n : Nat} (I : ZInv L ps (.node l h d r) A B n) (h0 : d.offset = 0) : ∃ n', ZInv L (⟨true, h, d, r⟩ :: ps) l A (item h d :: (eff 0 r ++ B)) n' := by
  obtain ⟨m, r1, r2, r3, r4, r5⟩ := I.colour
  have ie : ∀ x, eff 0 (.node x h d r) = eff 0 x ++ item h d :: eff 0 r := fun x => by simp only [eff, h0, Int.add_zero, itm_zero]
  refine ⟨m, ⟨fun x => ?_, ?_, I.lim, r1, r3 true, fun hr => ⟨r4 hr, by simp⟩⟩⟩
  · rw [plug, I.effs]
    simp only [fill, nd, if_true, ie, List.append_assoc, List.cons_append]
  · rw [I.all, ie]
    simp only [List.append_assoc, List.cons_append]
theorem ZInv.right {L : List Item} {ps : List Frm} {l r : T} {h : Nat} {d : Dat} {A B : List Item} {n : Nat} (I : ZInv L ps (.node l h d r) A B n) (h0 : d.offset = 0) : ∃ n', ZInv L (⟨false, h, d, l⟩ :: ps) r (A ++ (eff 0 l ++ [item h d])) B n' := by
  obtain ⟨m, r1, r2, r3, r4, r5⟩ := I.colour
  have ie : ∀ x, eff 0 (.node l h d x) = eff 0 l ++ item h d :: eff 0 x := fun x => by simp only [eff, h0, Int.add_zero, itm_zero]
  refine ⟨m, ⟨fun x => ?_, ?_, I.lim, r2, r3 false, fun hr => ⟨r5 hr, by simp⟩⟩⟩
  · rw [plug, I.effs]
    simp only [fill, nd, Bool.false_eq_true, if_false, ie, List.append_assoc, List.cons_append, List.nil_append]
  · rw [I.all, ie]
    simp only [List.append_assoc, List.cons_append, List.nil_append]
theorem app_rule {σ : St} {A A' : At} {k : Nat} {vs : List V} {u : V} {P : St → Prop} (hs : Ho σ A) (hm : (k, MO.list vs) ∈ A) (hl : vs.length + 1 < 2 ^ 20) (hr : RepA k (.list vs) (.list (vs ++ [u])) A A') (q : ∀ σ3, Ho σ3 A' → P σ3) :
    ∃ A vs A', Ho σ A ∧ vs.length + 1 < 2 ^ 20 ∧ RepA k (.list vs) (.list (vs ++ [u])) A A' ∧ ∀ σ3, Ho σ3 A' → P σ3 := ⟨A, vs, A', hs, hl, hr, q⟩
theorem lst_rule {σ : St} {A : At} {k : Nat} {vs : List V} {P : Prop} (hs : Ho σ A) (hm : (k, MO.list vs) ∈ A) (q : P) : ∃ A vs0, Ho σ A ∧ (k, MO.list vs0) ∈ A ∧ P := ⟨A, vs, hs, hm, q⟩
theorem rev_rule {σ : St} {A : At} {k : Nat} {vs : List V} {P : Nat → St → Prop} (hs : Ho σ A) (hm : (k, MO.list vs) ∈ A) (q : ∀ j σ2, Ho σ2 ((j, .list vs.reverse) :: A) → P j σ2) : ∃ A vs, Ho σ A ∧ (k, MO.list vs) ∈ A ∧ ∀ j σ2, Ho σ2 ((j, .list vs.reverse) :: A) → P j σ2 := ⟨A, vs, hs, hm, q⟩
theorem get_parent_frc (p h : Option Nat) (f : Frm) : getF (.node (frc p h f)) .parent = some (V.opt p) := by
  obtain ⟨fl, fk, fd, sib⟩ := f
  cases fl <;> rfl
local macro_rules | `(tactic| wtm_at "getr") => `(tactic| exact get_parent_frc _ _ _)
noncomputable def keys (ps : List Frm) : List V := ps.map fun f => V.ref f.k
theorem ht_up {tk : Nat} {c0 : Int} {pl : Nat} {v2 : Option V} : ∀ (ps : List Frm) (hole : Option Nat) (F : At) (vs : List V) (σ : St), Ho σ (atP tk c0 hole ps ++ ((pl, MO.list vs) :: F)) → vs.length + ps.length < 1000 →
    ∀ QS : Fl → Rho → St → Prop, (∀ σ', Ho σ' (atP tk c0 hole ps ++ ((pl, MO.list (vs ++ keys ps)) :: F)) → QS .next [some .none, some (.ref pl), v2] σ') →
    wS (dsWhile t_hand_down_to_2 b_hand_down_to_2) [some (V.opt (top ps)), some (.ref pl), v2] σ QS
  | [], hole, F, vs, σ, hs, hl, QS, q => by
    wtm_at "sk"
    refine wS_while ?_
    refine wE_cm ?_
    wtm_at "ws"
    exact q _ (by simpa [keys] using hs)
  | f :: ps, hole, F, vs, σ, hs, hl, QS, q => by
    wtm_at "sk"
    refine wS_while ?_
    refine wE_cm ?_
    wtm_at "ws"
    refine wS_seq ?_
    refine wS_expr ?_
    refine sE_app ?_
    wtm_at "ws"
    have h1 := hs
    simp only [atP, List.cons_append, List.append_assoc] at h1
    refine lst_rule h1 (by wtm_at "mem") ?_
    wtm_at "ws"
    refine app_rule h1 (by wtm_at "mem") (by simp at hl; lia) (by wtm_at "repa") ?_
    intro σ2 h2
    wtm_at "ws"
    refine ht_up ps (some f.k) ((f.k, MO.node (frc (top ps) hole f)) :: (at_ (some f.k) f.sib ++ F)) (vs ++ [V.ref f.k]) σ2 (h2.perm (by wtm_at "pm")) (by simp at hl ⊢; lia) QS fun σ' h3 => q σ' (h3.perm ?_)
    simp only [atP, keys, List.map_cons, List.append_assoc, List.cons_append, List.nil_append]
    wtm_at "pm"
noncomputable def plugO : T → List Frm → T
  | t, [] => t
  | t, f :: fs => fill f (plugO t fs)
theorem plugO_plug (t : T) : ∀ (fs : List Frm) , plugO t fs = plug t fs.reverse := by
  have app : ∀ (a b : List Frm) (t : T), plug t (a ++ b) = plug (plug t a) b := by
    intro a
    induction a with
    | nil => intro b t; rfl
    | cons f a ih => intro b t; exact ih b (fill f t)
  intro fs
  induction fs with
  | nil => rfl
  | cons f fs ih =>
    rw [List.reverse_cons, app]
    show fill f (plugO t fs) = fill f (plug t fs.reverse)
    rw [ih]
theorem srcL_at {σ : St} {A : At} {j : Nat} {vs : List V} (hs : Ho σ A) (hm : (j, MO.list vs) ∈ A) (i : Nat) : srcL j i σ = some vs[i]? := by
  unfold srcL
  rw [lstAt_of (hs.get hm)]
  rfl
theorem ht_down {tk : Nat} {c0 : Int} {F : At} {j x : Nat} {vs : List V} {L : List Item} {l r : T} {d : Dat} : ∀ (fs os : List Frm) (acc : Int) (A B : List Item) (n i : Nat) (ρ0 ρ1 v2 : Option V) (σ : St), Ho σ (at_ (top os) (push acc (plugO (.node l x d r) fs)) ++ (atP tk c0 (push acc (plugO (.node l x d r) fs)).root os ++ ((j, MO.list vs) :: F))) →
    ZInv L os (push acc (plugO (.node l x d r) fs)) A B n → vs.drop i = keys fs ++ [V.ref x] →
    ∀ QS : Fl → Rho → St → Prop, (∀ σ' ps' l' d' r' A' B' n' w, Ho σ' (at_ (top ps') (.node l' x d' r') ++ (atP tk c0 (some x) ps' ++ ((j, MO.list vs) :: F))) → ZInv L ps' (.node l' x d' r') A' B' n' → d'.offset = 0 → QS .next [ρ0, ρ1, w] σ') →
    wF (srcL j) (daName 2) b_hand_down_to_1 (fs.length + 1) i [ρ0, ρ1, v2] σ QS
  | [], os, acc, A, B, n, i, ρ0, ρ1, v2, σ, hs, I, hv, QS, q => by
    have hi : vs[i]? = some (V.ref x) := by
      have := congrArg (·[0]?) hv
      simpa [keys] using this
    have hi1 : vs[i + 1]? = Option.none := by
      have := congrArg (·[1]?) hv
      simpa [keys] using this
    wtm_at "sk"
    refine wF_step ((srcL_at hs (by wtm_at "mem") i).trans (congrArg some hi)) ?_
    wtm_at "ws"
    refine wS_seq ?_
    wtm_at "ws"
    refine hand_down_sp hs ?_
    intro σ1 h1
    wtm_at "ws"
    refine wF_stop ((srcL_at h1 (by wtm_at "mem") (i + 1)).trans (congrArg some hi1)) ?_
    exact q _ _ _ _ _ _ _ _ _ h1 I.here rfl
  | f :: fs, os, acc, A, B, n, i, ρ0, ρ1, v2, σ, hs, I, hv, QS, q => by
    have hi : vs[i]? = some (V.ref f.k) := by
      have := congrArg (·[0]?) hv
      simpa [keys] using this
    have hv' : vs.drop (i + 1) = keys fs ++ [V.ref x] := by
      have := congrArg (List.drop 1) hv
      rw [List.drop_drop] at this
      simpa [keys] using this
    wtm_at "sk"
    refine wF_step ((srcL_at hs (by wtm_at "mem") i).trans (congrArg some hi)) ?_
    wtm_at "ws"
    refine wS_seq ?_
    obtain ⟨fl, fk, fd, sib⟩ := f
    cases fl with
    | true =>
      simp only [plugO, fill, nd, if_true, push] at hs I
      wtm_at "ws"
      refine hand_down_sp hs ?_
      intro σ1 h1
      obtain ⟨n', I'⟩ := I.here.left rfl
      wtm_at "ws"
      refine ht_down fs _ _ _ _ _ (i + 1) ρ0 ρ1 _ σ1 (h1.perm ?_) I' hv' QS q
      simp only [at_, atP, frc, if_true, top, List.cons_append, List.append_assoc, T.root]
      wtm_at "pm"
    | false =>
      simp only [plugO, fill, nd, Bool.false_eq_true, if_false, push] at hs I
      wtm_at "ws"
      refine hand_down_sp hs ?_
      intro σ1 h1
      obtain ⟨n', I'⟩ := I.here.right rfl
      wtm_at "ws"
      refine ht_down fs _ _ _ _ _ (i + 1) ρ0 ρ1 _ σ1 (h1.perm ?_) I' hv' QS q
      simp only [at_, atP, frc, Bool.false_eq_true, if_false, top, List.cons_append, List.append_assoc, T.root]
      wtm_at "pm"
theorem hand_down_to_sp {σ : St} {tk x : Nat} {c0 : Int} {F : At} {ps : List Frm} {l r : T} {d : Dat} {m : Nat} (hs : Ho σ (at_ Option.none (plug (.node l x d r) ps) ++ ((tk, .tree ⟨(plug (.node l x d r) ps).root, c0⟩) :: F))) (lim : limOk (plug (.node l x d r) ps)) (rb : RB (plug (.node l x d r) ps) m) (hr : isRed (plug (.node l x d r) ps) = false) (hz : ps.length < 900) {Q : V → St → Prop}
    (q : ∀ σ' ps' l' d' r' A' B' n', Ho σ' (at_ (top ps') (.node l' x d' r') ++ (atP tk c0 (some x) ps' ++ F)) → ZInv (eff 0 (plug (.node l x d r) ps)) ps' (.node l' x d' r') A' B' n' → d'.offset = 0 → Q .none σ') : wG g_hand_down_to [.ref x] σ Q := by
  unfold g_hand_down_to s_hand_down_to
  refine wG_fun rfl ?_
  have h0 := hs.perm (plug_permF tk c0 ps (.node l x d r) F).symm
  wtm_at "wst"
  refine ⟨_, h0, fun pl σ1 h1 => ?_⟩
  wtm_at "ws"
  -- the first turn: x itself
  refine wS_while ?_
  refine wE_cm ?_
  wtm_at "ws"
  refine wS_seq ?_
  refine wS_expr ?_
  refine sE_app ?_
  wtm_at "ws"
  simp only [at_, List.cons_append, List.append_assoc] at h1
  refine lst_rule h1 (by wtm_at "mem") ?_
  wtm_at "ws"
  refine app_rule h1 (by wtm_at "mem") (by decide) (by wtm_at "repa") ?_
  intro σ2 h2
  wtm_at "ws"
  refine ht_up (tk := tk) (c0 := c0) ps (some x) ((x, MO.node (rc (top ps) l.root d r.root)) :: (at_ (some x) l ++ (at_ (some x) r ++ F))) [V.ref x] σ2 (h2.perm (by simp only [List.nil_append]; wtm_at "pm")) (by simp; lia) _ ?_
  intro σ3 h3
  wtm_at "wst"
  refine wI_list ?_
  refine sE_rev ?_
  wtm_at "ws"
  refine rev_rule h3 (by wtm_at "mem") ?_
  intro j σ4 h4
  refine ⟨j, _, rfl, lstAt_of (h4.get (by wtm_at "mem")), ?_⟩
  have e : ([V.ref x] ++ keys ps).reverse = keys ps.reverse ++ [V.ref x] := by simp [keys]
  rw [e] at h4 ⊢
  have hlen : (keys ps.reverse ++ [V.ref x]).length = ps.reverse.length + 1 := by simp [keys]
  rw [hlen]
  have hplug : plugO (.node l x d r) ps.reverse = plug (.node l x d r) ps := by rw [plugO_plug, List.reverse_reverse]
  refine ht_down (tk := tk) (c0 := c0) (F := F) (j := j) (x := x) (vs := keys ps.reverse ++ [V.ref x]) (L := eff 0 (plug (.node l x d r) ps)) (l := l) (r := r) (d := d) ps.reverse [] 0 [] [] m 0 _ _ _ σ4 ?_ ?_ rfl _ ?_
  · rw [push_zero, hplug]
    refine Ho.perm (B := (at_ Option.none (plug (.node l x d r) ps) ++ ((tk, .tree ⟨(plug (.node l x d r) ps).root, c0⟩) :: ((j, MO.list (keys ps.reverse ++ [V.ref x])) :: F)))) ?_ (by exact List.Perm.refl _)
    have h5 : Ho σ4 ((at_ (top ps) (.node l x d r) ++ (atP tk c0 (some x) ps ++ ((j, MO.list (keys ps.reverse ++ [V.ref x])) :: F)))) := by
      have := h4.perm (B := (pl, MO.list ([V.ref x] ++ keys ps)) :: (at_ (top ps) (.node l x d r) ++ (atP tk c0 (some x) ps ++ ((j, MO.list (keys ps.reverse ++ [V.ref x])) :: F)))) (by
        simp only [at_, List.cons_append, List.append_assoc]
        wtm_at "pm")
      exact this.tail
    exact h5.perm (plug_permF tk c0 ps (.node l x d r) _)
  · rw [push_zero, hplug]
    exact ZInv.start lim rb hr
  · intro σ' ps' l' d' r' A' B' n' w h5 I h6
    wtm_at "ws"
    refine q σ' ps' l' d' r' A' B' n' (Ho.tail (x := (j, MO.list (keys ps.reverse ++ [V.ref x]))) (h5.perm ?_)) I h6
    simp only [at_, List.cons_append, List.append_assoc]
    wtm_at "pm"
theorem fb_loop {tk : Nat} {c0 : Int} {F : At} {L A : List Item} : ∀ (l : T) (o : Int) (y : Nat) (d : Dat) (r : T) (ps : List Frm) (B : List Item) (n : Nat) (σ : St), Ho σ (at_ (top ps) (.node (push o l) y d r) ++ (atP tk c0 (some y) ps ++ F)) → ZInv L ps (.node (push o l) y d r) A B n → d.offset = 0 →
    ∀ QS : Fl → Rho → St → Prop, (∀ σ' qs k' d' r' B' n', Ho σ' (at_ (top (qs ++ ps)) (.node .nil k' d' r') ++ (atP tk c0 (some k') (qs ++ ps) ++ F)) → ZInv L (qs ++ ps) (.node .nil k' d' r') A B' n' → d'.offset = 0 → (∀ f ∈ qs, f.left = true) → QS .next [some (.ref k')] σ') →
    wS (dsWhile t_first_below_1 b_first_below_1) [some (.ref y)] σ QS := by
  intro l
  induction l with
  | nil =>
    intro o y d r ps B n σ hs I h0 QS q
    wtm_at "sk"
    refine wS_while ?_
    refine wE_cm ?_
    have h1 := hs
    simp only [at_, List.cons_append, List.append_assoc] at h1
    wtm_at "ws"
    exact q σ [] y d r B n hs I h0 (fun f h => nomatch h)
  | node ll k dd rr ihl _ =>
    intro o y d r ps B n σ hs I h0 QS q
    wtm_at "sk"
    refine wS_while ?_
    refine wE_cm ?_
    have h1 := hs
    simp only [at_, push, List.cons_append, List.append_assoc] at h1
    wtm_at "ws"
    refine wS_seq ?_
    wtm_at "ws"
    obtain ⟨n', I'⟩ := I.left h0
    have h2 : Ho σ (at_ (some y) (push o (.node ll k dd rr)) ++ (atP tk c0 (some k) (⟨true, y, d, r⟩ :: ps) ++ F)) := hs.perm (down_permF tk c0 ⟨true, y, d, r⟩ (push o (.node ll k dd rr)) ps F)
    refine hand_down_sp h2 ?_
    intro σ1 h3
    wtm_at "ws"
    refine ihl _ k _ _ (⟨true, y, d, r⟩ :: ps) _ n' σ1 h3 I'.here rfl QS ?_
    intro σ' qs k' d' r' B' n'' h4 I4 h5 h6
    have e : qs ++ ⟨true, y, d, r⟩ :: ps = (qs ++ [⟨true, y, d, r⟩]) ++ ps := by simp
    rw [e] at h4 I4
    refine q σ' _ k' d' r' B' n'' h4 I4 h5 fun f hf => ?_
    rcases List.mem_append.mp hf with hf | hf
    · exact h6 f hf
    · rw [List.mem_singleton.mp hf]
theorem first_below_sp {σ : St} {tk y : Nat} {c0 : Int} {F : At} {L A B : List Item} {l r : T} {d : Dat} {ps : List Frm} {n : Nat} (hs : Ho σ (at_ (top ps) (.node l y d r) ++ (atP tk c0 (some y) ps ++ F))) (I : ZInv L ps (.node l y d r) A B n) {Q : V → St → Prop}
    (q : ∀ σ' qs k' d' r' B' n', Ho σ' (at_ (top (qs ++ ps)) (.node .nil k' d' r') ++ (atP tk c0 (some k') (qs ++ ps) ++ F)) → ZInv L (qs ++ ps) (.node .nil k' d' r') A B' n' → d'.offset = 0 → (∀ f ∈ qs, f.left = true) → Q (.ref k') σ') : wG g_first_below [.ref y] σ Q := by
  unfold g_first_below s_first_below
  refine wG_fun rfl ?_
  wtm_at "ws"
  refine hand_down_sp hs ?_
  intro σ1 h1
  wtm_at "ws"
  refine fb_loop (tk := tk) (c0 := c0) (F := F) (L := L) (A := A) l _ y _ _ ps B n σ1 h1 I.here rfl _ ?_
  intro σ' qs k' d' r' B' n' h2 I2 h3 h4
  wtm_at "ws"
  exact q σ' qs k' d' r' B' n' h2 I2 h3 h4
theorem hang0_sp {σ : St} {tk x : Nat} {c : Int} {ps : List Frm} {F : At} {mx : MO} (hs : Ho σ (atP tk c (some x) ps ++ F)) (hx : (x, mx) ∈ F) {Q : V → St → Prop}
    (q : ∀ σ', Ho σ' (atP tk c Option.none ps ++ F) → Q .none σ') : wG g_hang [.ref tk, V.opt (top ps), .ref x, .none] σ Q := by
  unfold g_hang s_hang
  refine wG_fun rfl ?_
  cases ps with
  | nil =>
    wtm_at "ws"
    exact q _ ‹Ho _ _›
  | cons f ps =>
    obtain ⟨fl, k, fd, sib⟩ := f
    cases fl with
    | true =>
      simp only [atP, frc, if_true] at hs
      wtm_at "ws"
      refine q _ ?_
      simp only [atP, frc, if_true]
      exact ‹Ho _ _›
    | false =>
      simp only [atP, frc, Bool.false_eq_true, if_false] at hs
      have hne : ∀ s, sib.root = some s → s ≠ x := fun s e => by
        obtain ⟨mo, hm⟩ := root_mem (p := some k) e
        exact hs.ne_mem (.tail _ (List.mem_append_left _ hm)) hx
      cases sib with
      | nil =>
        wtm_at "ws"
        refine q _ ?_
        simp only [atP, frc, Bool.false_eq_true, if_false]
        exact ‹Ho _ _›
      | node sl s sd sr =>
        wtm_at "ws"
        refine br_f (by simpa using hne s rfl) ?_
        wtm_at "ws"
        refine q _ ?_
        simp only [atP, frc, Bool.false_eq_true, if_false]
        exact ‹Ho _ _›

/-- what hangs below, whatever it be -/
theorem hangT_sp {σ : St} {tk x : Nat} {c : Int} {ps : List Frm} {F : At} {mx : MO} {s : T} {p : Option Nat} (hs : Ho σ (at_ p s ++ (atP tk c (some x) ps ++ F))) (hx : (x, mx) ∈ F) {Q : V → St → Prop}
    (q : ∀ σ', Ho σ' (at_ (top ps) s ++ (atP tk c s.root ps ++ F)) → Q .none σ') : wG g_hang [.ref tk, V.opt (top ps), .ref x, V.opt s.root] σ Q := by
  cases s with
  | nil => exact hang0_sp hs hx q
  | node l k d r =>
    simp only [at_, List.cons_append, List.append_assoc] at hs
    refine hang_sp (x := x) (y := k) (F := (k, MO.node (rc p l.root d r.root)) :: (at_ (some k) l ++ (at_ (some k) r ++ F))) (hs.perm (by wtm_at "pm")) (by wtm_at "mem") (.head _) .head fun σ' h => q σ' (h.perm ?_)
    simp only [at_, List.cons_append, List.append_assoc, T.root]
    wtm_at "pm"

/-- the limits of a path, made anew from below -/
noncomputable def relim (a : Option Int) : List Frm → List Frm
  | [] => []
  | f :: ps =>
    let d := f.d.setL (if f.left then ge f.d a (lv f.sib) else ge f.d (lv f.sib) a)
    { f with d := d } :: relim (some (d.limit + d.offset)) ps
theorem relim_top (a : Option Int) (ps : List Frm) : top (relim a ps) = top ps := by cases ps <;> rfl
theorem relim_len (a : Option Int) : ∀ ps : List Frm, (relim a ps).length = ps.length := by
  intro ps
  induction ps generalizing a with
  | nil => rfl
  | cons f ps ih => simp [relim, ih]
theorem relim_red (a : Option Int) (ps : List Frm) : topRed (relim a ps) = topRed ps := by cases ps <;> rfl
theorem relim_PB : ∀ (ps : List Frm) (a : Option Int) (n : Nat), PB (relim a ps) n ↔ PB ps n
  | [], _, _ => Iff.rfl
  | f :: ps, a, n => by
    have h1 : (relim (some ((f.d.setL (if f.left then ge f.d a (lv f.sib) else ge f.d (lv f.sib) a)).limit + (f.d.setL (if f.left then ge f.d a (lv f.sib) else ge f.d (lv f.sib) a)).offset)) ps ≠ []) ↔ ps ≠ [] := by
      cases ps <;> simp [relim]
    simp only [relim, PB, Dat.setL, relim_PB ps, relim_red]
    simp only [Dat.setL] at h1
    rw [h1]
theorem relim_eff : ∀ (ps : List Frm) (a : Option Int) (t : T) (o : Int), eff o (plug t (relim a ps)) = eff o (plug t ps)
  | [], _, _, _ => rfl
  | f :: ps, a, t, o => by
    simp only [relim, plug]
    rw [relim_eff ps]
    refine eff_plug ps (fun o => ?_) o
    obtain ⟨fl, k, d, s⟩ := f
    cases fl <;> rfl
noncomputable def sibsOk : List Frm → Prop
  | [] => True
  | f :: ps => limOk f.sib ∧ sibsOk ps
theorem relim_lim : ∀ (ps : List Frm) (t : T), limOk t → sibsOk ps → limOk (plug t (relim (lv t) ps))
  | [], _, h, _ => h
  | f :: ps, t, h, hp => by
    simp only [relim, plug]
    obtain ⟨fl, k, d, s⟩ := f
    cases fl with
    | true => exact relim_lim ps (.node t k (d.setL (ge d (lv t) (lv s))) s) ⟨rfl, h, hp.1⟩ hp.2
    | false => exact relim_lim ps (.node s k (d.setL (ge d (lv s) (lv t))) t) ⟨rfl, hp.1, h⟩ hp.2
theorem sibs_of : ∀ (ps : List Frm) {t : T}, limOk (plug t ps) → sibsOk ps
  | [], _, _ => trivial
  | f :: ps, t, h => by
    have := lim_plug_sub ps (t := fill f t) h
    refine ⟨?_, sibs_of ps h⟩
    obtain ⟨fl, k, d, s⟩ := f
    cases fl with
    | true => exact this.2.2
    | false => exact this.2.1
theorem Son.mono {A A' : At} {o : Option Nat} {v : Option Int} (h : Son A o v) (m : ∀ x ∈ A, x ∈ A') : Son A' o v := by
  rcases h with h | ⟨k, n, a, b, c⟩
  · exact .inl h
  · exact .inr ⟨k, n, a, b, m _ c⟩
theorem dl_loop {tk : Nat} {c0 : Int} {v0 v1 v2 v3 v4 v5 : Option V} : ∀ (ps : List Frm) (hole : Option Nat) (a : Option Int) (F : At) (σ : St), Ho σ (atP tk c0 hole ps ++ F) → Son F hole a →
    ∀ QS : Fl → Rho → St → Prop, (∀ σ', Ho σ' (atP tk c0 hole (relim a ps) ++ F) → QS .next [v0, v1, v2, v3, v4, v5, some .none] σ') →
    wS (dsWhile t_drop_node_1 b_drop_node_1) [v0, v1, v2, v3, v4, v5, some (V.opt (top ps))] σ QS
  | [], hole, a, F, σ, hs, hS, QS, q => by
    wtm_at "sk"
    refine wS_while ?_
    refine wE_cm ?_
    wtm_at "ws"
    exact q _ hs
  | f :: ps, hole, a, F, σ, hs, hS, QS, q => by
    wtm_at "sk"
    refine wS_while ?_
    refine wE_cm ?_
    wtm_at "ws"
    refine wS_seq ?_
    refine wS_assign ?_
    refine wE_call ?_
    obtain ⟨fl, fk, fd, sib⟩ := f
    cases fl with
    | true =>
      have h1 := hs
      simp only [atP, frc, if_true, List.cons_append, List.append_assoc] at h1
      wtm_at "ws"
      refine greatest_end_sp h1 (by wtm_at "mem") (hS.mono fun z hz => by wtm_at "mem") (son_of (p := some fk) (t := sib) fun z hz => by wtm_at "mem") ?_
      wtm_at "ws"
      have h2 := ‹Ho _ _›
      refine dl_loop ps (some fk) _ ((fk, MO.node (rc (top ps) hole (fd.setL (ge fd a (lv sib))) sib.root)) :: (at_ (some fk) sib ++ F)) _ (h2.perm (by wtm_at "pm")) (.inr ⟨fk, _, rfl, rfl, .head _⟩) QS fun σ' h3 => q σ' (h3.perm ?_)
      simp only [relim, atP, frc, if_true, List.cons_append, List.append_assoc, relim_top]
      wtm_at "pm"
    | false =>
      have h1 := hs
      simp only [atP, frc, Bool.false_eq_true, if_false, List.cons_append, List.append_assoc] at h1
      wtm_at "ws"
      refine greatest_end_sp h1 (by wtm_at "mem") (son_of (p := some fk) (t := sib) fun z hz => by wtm_at "mem") (hS.mono fun z hz => by wtm_at "mem") ?_
      wtm_at "ws"
      have h2 := ‹Ho _ _›
      refine dl_loop ps (some fk) _ ((fk, MO.node (rc (top ps) sib.root (fd.setL (ge fd (lv sib) a)) hole)) :: (at_ (some fk) sib ++ F)) _ (h2.perm (by wtm_at "pm")) (.inr ⟨fk, _, rfl, rfl, .head _⟩) QS fun σ' h3 => q σ' (h3.perm ?_)
      simp only [relim, atP, frc, Bool.false_eq_true, if_false, List.cons_append, List.append_assoc, relim_top]
      wtm_at "pm"
theorem sibling_sp {σ : St} {A : At} {p h : Option Nat} {il : Bool} {k : Nat} {d : Dat} {sib : T} (hs : Ho σ A) (hm : (k, MO.node (frc p h ⟨il, k, d, sib⟩)) ∈ A) {Q : V → St → Prop} (q : Q (V.opt sib.root) σ) : wG g_sibling_of [.ref k, .bool il] σ Q := by
  unfold g_sibling_of s_sibling_of
  refine wG_fun rfl ?_
  cases il with
  | true =>
    simp only [frc, if_true] at hm
    wtm_at "ws"
    exact q
  | false =>
    simp only [frc, Bool.false_eq_true, if_false] at hm
    wtm_at "ws"
    exact q
/-- the top of a good path is black -/
theorem plug_black : ∀ (ps : List Frm) {t : T} {n : Nat}, PB ps n → (ps = [] → isRed t = false) → isRed (plug t ps) = false
  | [], t, n, _, h => h rfl
  | f :: ps, t, n, hp, _ => by
    unfold PB at hp
    rw [plug]
    by_cases hf : f.d.red = true
    · rw [if_pos hf] at hp
      exact plug_black ps hp.2.2.2.2 fun e => absurd e hp.2.2.2.1
    · rw [if_neg hf] at hp
      refine plug_black ps hp.2 fun _ => ?_
      unfold fill
      rw [isRed_nd]
      simpa using hf
/-- what a path demands of the subtree at its foot, when the frame is P's -/
noncomputable def PBd (d : Dat) (ps : List Frm) (n : Nat) : Prop := if d.red = true then topRed ps = false ∧ ps ≠ [] ∧ PB ps n else PB ps (n + 1)
/-- at the end: the far nephew is red -/
theorem lightB {il : Bool} {s c1 c2l c2r : T} {P w v : Nat} {dP dw dv : Dat} {ps : List Frm} {m : Nat} (h1 : RB s m) (h2 : RB c1 m) (h3 : RB (.node c2l v dv c2r) m) (hv : dv.red = true) (hp : PBd dP ps (m + 1)) (lim : limOk (plug (nd il s P dP (nd il c1 w dw (.node c2l v dv c2r))) ps)) :
    let t2 := rot il s P (dP.setR false) c1 w (dw.setR dP.red) (.node c2l v (dv.setR false) c2r)
    (∀ o, eff o (plug t2 ps) = eff o (plug (nd il s P dP (nd il c1 w dw (.node c2l v dv c2r))) ps)) ∧ limOk (plug t2 ps) ∧ (∃ m, RB (plug t2 ps) m) ∧ isRed (plug t2 ps) = false := by
  intro t2
  have e2 : ∀ o, eff o (nd il s P (dP.setR false) (nd il c1 w (dw.setR dP.red) (.node c2l v (dv.setR false) c2r))) = eff o (nd il s P dP (nd il c1 w dw (.node c2l v dv c2r))) := fun o => by cases il <;> rfl
  have e3 : limOk (nd il s P dP (nd il c1 w dw (.node c2l v dv c2r))) → limOk (nd il s P (dP.setR false) (nd il c1 w (dw.setR dP.red) (.node c2l v (dv.setR false) c2r))) := fun h => by cases il <;> exact h
  have e4 : lv (nd il s P (dP.setR false) (nd il c1 w (dw.setR dP.red) (.node c2l v (dv.setR false) c2r))) = lv (nd il s P dP (nd il c1 w dw (.node c2l v dv c2r))) := by cases il <;> rfl
  obtain ⟨l1, l2⟩ := rot_lim il s P (dP.setR false) c1 w (dw.setR dP.red) (.node c2l v (dv.setR false) c2r) (e3 (lim_plug_sub ps lim))
  simp only [RB] at h3
  rw [if_pos hv] at h3
  have key : isRed t2 = dP.red ∧ (if dP.red = true then RB t2 (m + 1) else RB t2 (m + 2)) := by
    refine ⟨by show isRed (rot _ _ _ _ _ _ _ _) = _; unfold rot; rw [isRed_nd]; rfl, ?_⟩
    have hc : RB (push (((dw.setR dP.red).offset) + (dP.setR false).offset) (.node c2l v (dv.setR false) c2r)) (m + 1) := by
      rw [RB_push]
      simp only [RB, Dat.setR, Bool.false_eq_true, if_false]
      exact ⟨m, rfl, h3.2.2.1, h3.2.2.2⟩
    show if dP.red = true then RB (rot _ _ _ _ _ _ _ _) _ else RB (rot _ _ _ _ _ _ _ _) _
    unfold rot
    by_cases hd : dP.red = true
    · rw [if_pos hd, RB_nd, if_pos (show ((dn (dw.setR dP.red) (dP.setR false).offset).setL _).red = true from hd)]
      refine ⟨by rw [isRed_nd]; rfl, by rw [isRed_push]; rfl, ?_, hc⟩
      rw [RB_nd, if_neg (by simp [Dat.setL, Dat.setR, hdn])]
      exact ⟨m, rfl, RB_push.mpr h1, RB_push.mpr h2⟩
    · rw [if_neg hd, RB_nd, if_neg (show ¬ ((dn (dw.setR dP.red) (dP.setR false).offset).setL _).red = true from hd)]
      refine ⟨m + 1, rfl, ?_, hc⟩
      rw [RB_nd, if_neg (by simp [Dat.setL, Dat.setR, hdn])]
      exact ⟨m, rfl, RB_push.mpr h1, RB_push.mpr h2⟩
  refine ⟨eff_plug ps fun o => ?_, lim_plug ps l1 (l2.trans e4) lim, ?_⟩
  · exact (rot_eff il s P (dP.setR false) c1 w (dw.setR dP.red) (.node c2l v (dv.setR false) c2r) o).trans (e2 o)
  · unfold PBd at hp
    obtain ⟨k1, k2⟩ := key
    by_cases hd : dP.red = true
    · rw [if_pos hd] at hp k2
      exact ⟨RB_plug ps k2 hp.2.2 fun _ => hp.1, plug_black ps hp.2.2 fun e => absurd e hp.2.1⟩
    · rw [if_neg hd] at hp k2
      exact ⟨RB_plug ps k2 hp fun e => by rw [k1] at e; exact absurd e hd, plug_black ps hp fun _ => by rw [k1]; simpa using hd⟩
noncomputable def Done (σ' : St) (tk : Nat) (c0 : Int) (F : At) (old : T) (t' : T) : Prop := Ho σ' (at_ Option.none t' ++ ((tk, .tree ⟨t'.root, c0⟩) :: F)) ∧ (∀ o, eff o t' = eff o old) ∧ limOk t' ∧ (∃ m, RB t' m) ∧ isRed t' = false
/-- lightened, from where the sibling is black, and the far nephew is red -/
theorem light_far {il : Bool} {tk P w v : Nat} {c0 : Int} {F : At} {s c1 c2l c2r : T} {dP dw dv : Dat} {ps : List Frm} {m : Nat} {σ : St} {vn v6 : Option V}
    (hs : Ho σ (at_ (top ps) (nd il s P dP (nd il c1 w dw (.node c2l v dv c2r))) ++ (atP tk c0 (some P) ps ++ F))) (h1 : RB s m) (h2 : RB c1 m) (h3 : RB (.node c2l v dv c2r) m) (hv : dv.red = true) (hp : PBd dP ps (m + 1)) (lim : limOk (plug (nd il s P dP (nd il c1 w dw (.node c2l v dv c2r))) ps))
    {QS : Fl → Rho → St → Prop} (q : ∀ σ' t' ρ', Done σ' tk c0 F (plug (nd il s P dP (nd il c1 w dw (.node c2l v dv c2r))) ps) t' → QS (.ret .none) ρ' σ') :
    wS (dsSeq (dsAssign (daAttr (dVar 4) .red) (dAttr .red (dVar 2))) (dsSeq (dsAssign (daAttr (dVar 2) .red) (dBool false)) (dsSeq (dsAssign (daAttr (dVar 5) .red) (dBool false)) (dsSeq (dsExpr (dCall g_turn_towards (dCons (dVar 0) (dCons (dVar 2) (dCons (dVar 3) dNil))))) (dsSeq (dsRet dNone) dsNil)))))
      [some (.ref tk), vn, some (.ref P), some (.bool il), some (.ref w), some (.ref v), v6] σ QS := by
  obtain ⟨a1, a2, a3, a4⟩ := lightB h1 h2 h3 hv hp lim
  cases il with
  | true =>
    have h4 := hs
    simp only [nd, if_true, at_, List.cons_append, List.append_assoc] at h4
    wtm_at "ws"
    have h5 := ‹Ho _ _›
    refine turn_towards_sp (left := true) (ps := ps) (a := s) (b := c1) (c := .node c2l v (dv.setR false) c2r) (hs := h5.perm (by simp only [nd, if_true, at_, List.cons_append, List.append_assoc]; wtm_at "pm")) ?_
    intro σ' h6
    wtm_at "ws"
    exact q σ' _ _ ⟨h6.perm (plug_permF tk c0 ps _ F), a1, a2, a3, a4⟩
  | false =>
    have h4 := hs
    simp only [nd, Bool.false_eq_true, if_false, at_, List.cons_append, List.append_assoc] at h4
    wtm_at "ws"
    have h5 := ‹Ho _ _›
    refine turn_towards_sp (left := false) (ps := ps) (a := s) (b := c1) (c := .node c2l v (dv.setR false) c2r) (hs := h5.perm (by simp only [nd, Bool.false_eq_true, if_false, at_, List.cons_append, List.append_assoc]; wtm_at "pm")) ?_
    intro σ' h6
    wtm_at "ws"
    exact q σ' _ _ ⟨h6.perm (plug_permF tk c0 ps _ F), a1, a2, a3, a4⟩
noncomputable def rootP : Option Nat → List Frm → Option Nat
  | h, [] => h
  | _, f :: ps => rootP (some f.k) ps
theorem rootP_mem (tk : Nat) (c : Int) : ∀ (ps : List Frm) (h : Option Nat), (tk, MO.tree ⟨rootP h ps, c⟩) ∈ atP tk c h ps
  | [], h => .head _
  | f :: ps, h => .tail _ (List.mem_append_right _ (rootP_mem tk c ps (some f.k)))
theorem rootP_in (tk : Nat) (c : Int) : ∀ (ps : List Frm) (h : Option Nat), ps ≠ [] → ∃ k mo, rootP h ps = some k ∧ (k, mo) ∈ atP tk c h ps
  | [], h, e => absurd rfl e
  | [f], h, _ => ⟨f.k, _, rfl, .head _⟩
  | f :: g :: ps, h, _ => by
    obtain ⟨k, mo, a, b⟩ := rootP_in tk c (g :: ps) (some f.k) (by simp)
    exact ⟨k, mo, a, .tail _ (List.mem_append_right _ b)⟩
theorem get_tree_root {o : Option Nat} {c : Int} : getF (.tree ⟨o, c⟩) .root = some (V.opt o) := rfl
/-- is the node at the top? -/
theorem root_is {σ : St} {tk P : Nat} {c0 : Int} {ps : List Frm} {F : At} {mo : MO} (hs : Ho σ (atP tk c0 (some P) ps ++ F)) (hP : (P, mo) ∈ F) : (ps = [] → rootP (some P) ps = some P) ∧ (ps ≠ [] → ∀ s, rootP (some P) ps = some s → s ≠ P) := by
  refine ⟨fun e => by subst e; rfl, fun e s hs' => ?_⟩
  obtain ⟨k, mo', a, b⟩ := rootP_in tk c0 ps (some P) e
  rw [a] at hs'
  cases hs'
  exact hs.ne_mem b hP
theorem cm_ref_no {o : Option Nat} {z : Nat} {P : Bool → Prop} (h : ∀ s, o = some s → s ≠ z) (q : P false) : ∃ x, cIs (.ref z) (V.opt o) = some x ∧ P x := by
  cases o with
  | none => exact ⟨_, rfl, q⟩
  | some s =>
    refine ⟨false, ?_, q⟩
    have := (h s rfl).symm
    simp [V.opt, cIs_rr, this]
theorem cm_ref_yes {o : Option Nat} {z : Nat} {P : Bool → Prop} (h : o = some z) (q : P true) : ∃ x, cIs (.ref z) (V.opt o) = some x ∧ P x := by
  subst h
  exact cm_is_yes q
/-- both nephews black: the sibling turns red -/
theorem lightA {il : Bool} {s c1 c2 : T} {P w : Nat} {dP dw : Dat} {ps : List Frm} {m : Nat} (h1 : RB s m) (h2 : RB c1 m) (h2' : isRed c1 = false) (h3 : RB c2 m) (h3' : isRed c2 = false) (lim : limOk (plug (nd il s P dP (nd il c1 w dw c2)) ps)) (b : Bool) :
    let t1 := nd il s P (dP.setR b) (nd il c1 w (dw.setR true) c2)
    (∀ o, eff o (plug t1 ps) = eff o (plug (nd il s P dP (nd il c1 w dw c2)) ps)) ∧ limOk (plug t1 ps) ∧ (b = false → RB t1 (m + 1)) := by
  intro t1
  refine ⟨eff_plug ps fun o => by cases il <;> rfl, lim_plug ps ?_ (by cases il <;> rfl) lim, fun hb => ?_⟩
  · have := lim_plug_sub ps lim
    cases il <;> exact this
  · subst hb
    show RB (nd _ _ _ _ _) _
    rw [RB_nd, if_neg (by simp [Dat.setR])]
    refine ⟨m, rfl, h1, ?_⟩
    rw [RB_nd, if_pos (show (dw.setR true).red = true from rfl)]
    exact ⟨h2', h3', h2, h3⟩
theorem setR_same {d : Dat} {b : Bool} (h : d.red = b) : d.setR b = d := by
  subst h
  rfl
theorem light_both {il : Bool} {tk P w : Nat} {c0 : Int} {F : At} {s c1 c2 : T} {dP dw : Dat} {ps : List Frm} {m : Nat} {σ : St} {vn v5 v6 : Option V}
    (hs : Ho σ (at_ (top ps) (nd il s P dP (nd il c1 w dw c2)) ++ (atP tk c0 (some P) ps ++ F))) (h1 : RB s m) (h2 : RB c1 m) (h2' : isRed c1 = false) (h3 : RB c2 m) (h3' : isRed c2 = false) (hp : PBd dP ps (m + 1)) (lim : limOk (plug (nd il s P dP (nd il c1 w dw c2)) ps))
    {QS : Fl → Rho → St → Prop} (q1 : ∀ σ' t' ρ', Done σ' tk c0 F (plug (nd il s P dP (nd il c1 w dw c2)) ps) t' → QS (.ret .none) ρ' σ')
    (q2 : dP.red = false → ∀ σ' ρ' t1, Ho σ' (at_ (top ps) t1 ++ (atP tk c0 (some P) ps ++ F)) → t1.root = some P → (∀ o, eff o (plug t1 ps) = eff o (plug (nd il s P dP (nd il c1 w dw c2)) ps)) → limOk (plug t1 ps) → RB t1 (m + 1) → isRed t1 = false → PB ps (m + 2) → ps ≠ [] → QS (.ret (.ref P)) ρ' σ') :
    wS r_lightened_2 [some (.ref tk), vn, some (.ref P), some (.bool il), some (.ref w), v5, v6] σ QS := by
  have fl : ∀ d', (frc (top ps) s.root ⟨il, P, d', nd il c1 w dw c2⟩) = (frc (top ps) s.root ⟨il, P, d', nd il c1 w dw c2⟩) := fun _ => rfl
  cases il with
  | true =>
    have h4 := hs
    simp only [nd, if_true, at_, List.cons_append, List.append_assoc] at h4
    have hroot : (tk, MO.tree ⟨rootP (some P) ps, c0⟩) ∈ atP tk c0 (some P) ps := rootP_mem tk c0 ps (some P)
    wtm_at "sk"
    refine wS_seq ?_
    wtm_at "ws"
    refine is_red_sp (v := false) h4 (red_eq h3' (p := some w) fun x hx => by wtm_at "mem") ?_
    wtm_at "ws"
    refine is_red_sp (v := false) h4 (red_eq h2' (p := some w) fun x hx => by wtm_at "mem") ?_
    wtm_at "ws"
    have h5 := ‹Ho _ _›
    obtain ⟨k1, k2⟩ := root_is (ps := ps) (hs := h5.perm (B := atP tk c0 (some P) ps ++ ((P, MO.node (rc (top ps) s.root dP (some w))) :: (at_ (some P) s ++ ((w, MO.node (rc (some P) c1.root (dw.setR true) c2.root)) :: (at_ (some w) c1 ++ (at_ (some w) c2 ++ F)))))) (by wtm_at "pm")) (.head _)
    have hroot : (tk, MO.tree ⟨rootP (some P) ps, c0⟩) ∈ atP tk c0 (some P) ps := rootP_mem tk c0 ps (some P)
    unfold PBd at hp
    by_cases hd : dP.red = true
    · rw [if_pos hd] at hp
      obtain ⟨a1, a2, a3⟩ := lightA h1 h2 h2' h3 h3' lim false
      refine br_t' hd ?_
      wtm_at "ws"
      have h6 := ‹Ho _ _›
      refine q1 _ _ _ ⟨(h6.perm ?_).perm (plug_permF tk c0 ps _ F), a1, a2, RB_plug ps (a3 rfl) hp.2.2 fun _ => hp.1, plug_black ps hp.2.2 fun e => absurd e hp.2.1⟩
      simp only [nd, if_true, at_, List.cons_append, List.append_assoc, T.root]
      wtm_at "pm"
    · rw [if_neg hd] at hp
      have hd' : dP.red = false := by simpa using hd
      refine br_f' hd' ?_
      wtm_at "ws"
      by_cases hps : ps = []
      · refine cm_ref_yes (k1 hps) ?_
        obtain ⟨a1, a2, a3⟩ := lightA h1 h2 h2' h3 h3' lim false
        wtm_at "ws"
        have h6 := ‹Ho _ _›
        refine q1 _ _ _ ⟨(h6.perm ?_).perm (plug_permF tk c0 ps _ F), a1, a2, RB_plug ps (a3 rfl) (hps ▸ trivial) fun _ => hps ▸ rfl, plug_black ps hp fun _ => by rw [isRed_nd]; rfl⟩
        simp only [nd, if_true, at_, List.cons_append, List.append_assoc, T.root]
        wtm_at "pm"
      · refine cm_ref_no (k2 hps) ?_
        obtain ⟨a1, a2, a3⟩ := lightA h1 h2 h2' h3 h3' lim false
        have e0 : dP.setR false = dP := setR_same hd'
        rw [e0] at a1 a2 a3
        wtm_at "ws"
        have h6 := ‹Ho _ _›
        refine q2 hd' _ _ _ (h6.perm ?_) (by simp only [nd, if_true]; rfl) a1 a2 (a3 rfl) (by rw [isRed_nd]; exact hd') hp hps
        simp only [nd, if_true, at_, List.cons_append, List.append_assoc, T.root]
        wtm_at "pm"
  | false =>
    have h4 := hs
    simp only [nd, Bool.false_eq_true, if_false, at_, List.cons_append, List.append_assoc] at h4
    have hroot : (tk, MO.tree ⟨rootP (some P) ps, c0⟩) ∈ atP tk c0 (some P) ps := rootP_mem tk c0 ps (some P)
    wtm_at "sk"
    refine wS_seq ?_
    wtm_at "ws"
    refine is_red_sp (v := false) h4 (red_eq h3' (p := some w) fun x hx => by wtm_at "mem") ?_
    wtm_at "ws"
    refine is_red_sp (v := false) h4 (red_eq h2' (p := some w) fun x hx => by wtm_at "mem") ?_
    wtm_at "ws"
    have h5 := ‹Ho _ _›
    obtain ⟨k1, k2⟩ := root_is (ps := ps) (hs := h5.perm (B := atP tk c0 (some P) ps ++ ((P, MO.node (rc (top ps) (some w) dP s.root)) :: (at_ (some P) s ++ ((w, MO.node (rc (some P) c2.root (dw.setR true) c1.root)) :: (at_ (some w) c1 ++ (at_ (some w) c2 ++ F)))))) (by wtm_at "pm")) (.head _)
    have hroot : (tk, MO.tree ⟨rootP (some P) ps, c0⟩) ∈ atP tk c0 (some P) ps := rootP_mem tk c0 ps (some P)
    unfold PBd at hp
    by_cases hd : dP.red = true
    · rw [if_pos hd] at hp
      obtain ⟨a1, a2, a3⟩ := lightA h1 h2 h2' h3 h3' lim false
      refine br_t' hd ?_
      wtm_at "ws"
      have h6 := ‹Ho _ _›
      refine q1 _ _ _ ⟨(h6.perm ?_).perm (plug_permF tk c0 ps _ F), a1, a2, RB_plug ps (a3 rfl) hp.2.2 fun _ => hp.1, plug_black ps hp.2.2 fun e => absurd e hp.2.1⟩
      simp only [nd, Bool.false_eq_true, if_false, at_, List.cons_append, List.append_assoc, T.root]
      wtm_at "pm"
    · rw [if_neg hd] at hp
      have hd' : dP.red = false := by simpa using hd
      refine br_f' hd' ?_
      wtm_at "ws"
      by_cases hps : ps = []
      · refine cm_ref_yes (k1 hps) ?_
        obtain ⟨a1, a2, a3⟩ := lightA h1 h2 h2' h3 h3' lim false
        wtm_at "ws"
        have h6 := ‹Ho _ _›
        refine q1 _ _ _ ⟨(h6.perm ?_).perm (plug_permF tk c0 ps _ F), a1, a2, RB_plug ps (a3 rfl) (hps ▸ trivial) fun _ => hps ▸ rfl, plug_black ps hp fun _ => by rw [isRed_nd]; rfl⟩
        simp only [nd, Bool.false_eq_true, if_false, at_, List.cons_append, List.append_assoc, T.root]
        wtm_at "pm"
      · refine cm_ref_no (k2 hps) ?_
        obtain ⟨a1, a2, a3⟩ := lightA h1 h2 h2' h3 h3' lim false
        have e0 : dP.setR false = dP := setR_same hd'
        rw [e0] at a1 a2 a3
        wtm_at "ws"
        have h6 := ‹Ho _ _›
        refine q2 hd' _ _ _ (h6.perm ?_) (by simp only [nd, Bool.false_eq_true, if_false]; rfl) a1 a2 (a3 rfl) (by rw [isRed_nd]; exact hd') hp hps
        simp only [nd, Bool.false_eq_true, if_false, at_, List.cons_append, List.append_assoc, T.root]
        wtm_at "pm"
theorem nd_not (il : Bool) (a : T) (k : Nat) (d : Dat) (b : T) : nd (!il) a k d b = nd il b k d a := by cases il <;> rfl
section
variable {il : Bool} {s b c c2 : T} {P w v : Nat} {dP dw dv : Dat}
theorem limC (h : limOk (nd il s P dP (nd il (nd (!il) b v dv c) w dw c2))) : limOk (nd (!il) c2 w (dw.setR true) (nd (!il) b v (dv.setR false) c)) := by
  cases il
  · exact h.2.1
  · exact h.2.2
theorem effC (o : Int) : eff o (nd (!il) c2 w (dw.setR true) (nd (!il) b v (dv.setR false) c)) = eff o (nd il (nd (!il) b v dv c) w dw c2) := by cases il <;> rfl
theorem lvC : lv (nd (!il) c2 w (dw.setR true) (nd (!il) b v (dv.setR false) c)) = lv (nd il (nd (!il) b v dv c) w dw c2) := by cases il <;> rfl
theorem fillC (t : T) : nd il s P dP t = fill ⟨!il, P, dP, s⟩ t := by cases il <;> rfl
end
/-- the near nephew red, the far one black: the sibling is turned outward -/
theorem lightC {il : Bool} {s b c c2 : T} {P w v : Nat} {dP dw dv : Dat} {ps : List Frm} {m : Nat} (h2 : RB (nd (!il) b v dv c) m) (hv : dv.red = true) (h3 : RB c2 m) (h3' : isRed c2 = false) (lim : limOk (plug (nd il s P dP (nd il (nd (!il) b v dv c) w dw c2)) ps)) :
    ∃ c' dv' b' dw' c2', rot (!il) c2 w (dw.setR true) b v (dv.setR false) c = nd il c' v dv' (nd il b' w dw' c2') ∧ dw'.red = true ∧ dv'.red = false ∧ RB c' m ∧ RB b' m ∧ isRed b' = false ∧ RB c2' m ∧ isRed c2' = false ∧
      (∀ o, eff o (plug (nd il s P dP (nd il c' v dv' (nd il b' w dw' c2'))) ps) = eff o (plug (nd il s P dP (nd il (nd (!il) b v dv c) w dw c2)) ps)) ∧ limOk (plug (nd il s P dP (nd il c' v dv' (nd il b' w dw' c2'))) ps) := by
  refine cps fun Xc kc => ?_
  obtain ⟨a', dx', b', dy', c', e, e1, e2, e3, e4, e5, e6, e7, e8⟩ := rot_shape (!il) c2 w (dw.setR true) b v (dv.setR false) c
  refine kc ?_; clear kc Xc
  rw [RB_nd, if_pos hv] at h2
  rw [nd_not, nd_not] at e
  have lim0 := lim_plug_sub ps lim
  have limw' := limC lim0
  obtain ⟨l1, l2⟩ := rot_lim (!il) c2 w (dw.setR true) b v (dv.setR false) c limw'
  have ee := rot_eff (!il) c2 w (dw.setR true) b v (dv.setR false) c
  rw [e] at l1 l2 ee
  have fl := fillC (il := il) (s := s) (P := P) (dP := dP)
  refine ⟨c', dy', b', dx', a', e, e1, e2, (e7 m).mpr h2.2.2.2, (e5 m).mpr h2.2.2.1, e6.trans h2.1, (e3 m).mpr h3, e4.trans h3', ?_, ?_⟩
  · intro o
    rw [fl, fl]
    exact eff_plug ps (eff_fill _ fun o => (ee o).trans (effC o)) o
  · rw [fl] at lim ⊢
    obtain ⟨k1, k2⟩ := lim_fill ⟨!il, P, dP, s⟩ l1 (l2.trans lvC) (lim_plug_sub ps lim)
    exact lim_plug ps k1 k2 lim
theorem light_farred {il : Bool} {tk P w : Nat} {c0 : Int} {F : At} {s c1 c2 : T} {dP dw : Dat} {ps : List Frm} {m : Nat} {σ : St} {vn v5 v6 : Option V}
    (hs : Ho σ (at_ (top ps) (nd il s P dP (nd il c1 w dw c2)) ++ (atP tk c0 (some P) ps ++ F))) (h1 : RB s m) (h2 : RB c1 m) (h3 : RB c2 m) (h3' : isRed c2 = true) (hp : PBd dP ps (m + 1)) (lim : limOk (plug (nd il s P dP (nd il c1 w dw c2)) ps))
    {QS : Fl → Rho → St → Prop} (q1 : ∀ σ' t' ρ', Done σ' tk c0 F (plug (nd il s P dP (nd il c1 w dw c2)) ps) t' → QS (.ret .none) ρ' σ') :
    wS r_lightened_2 [some (.ref tk), vn, some (.ref P), some (.bool il), some (.ref w), v5, v6] σ QS := by
  cases c2 with
  | nil => cases h3'
  | node c2l v dv c2r =>
  cases il with
  | true =>
    have h4 := hs
    simp only [nd, if_true, at_, List.cons_append, List.append_assoc] at h4
    wtm_at "sk"
    refine wS_seq ?_
    wtm_at "ws"
    refine is_red_sp (v := true) h4 (.inr ⟨v, _, rfl, h3'.symm, by wtm_at "mem"⟩) ?_
    wtm_at "ws"
    refine is_red_sp (v := true) h4 (.inr ⟨v, _, rfl, h3'.symm, by wtm_at "mem"⟩) ?_
    wtm_at "wz"
    exact light_far (il := true) hs h1 h2 h3 h3' hp lim q1
  | false =>
    have h4 := hs
    simp only [nd, Bool.false_eq_true, if_false, at_, List.cons_append, List.append_assoc] at h4
    wtm_at "sk"
    refine wS_seq ?_
    wtm_at "ws"
    refine is_red_sp (v := true) h4 (.inr ⟨v, _, rfl, h3'.symm, by wtm_at "mem"⟩) ?_
    wtm_at "ws"
    refine is_red_sp (v := true) h4 (.inr ⟨v, _, rfl, h3'.symm, by wtm_at "mem"⟩) ?_
    wtm_at "wz"
    exact light_far (il := false) hs h1 h2 h3 h3' hp lim q1
theorem light_nearred {il : Bool} {tk P w : Nat} {c0 : Int} {F : At} {s c1 c2 : T} {dP dw : Dat} {ps : List Frm} {m : Nat} {σ : St} {vn v5 v6 : Option V}
    (hs : Ho σ (at_ (top ps) (nd il s P dP (nd il c1 w dw c2)) ++ (atP tk c0 (some P) ps ++ F))) (h1 : RB s m) (h2 : RB c1 m) (h2' : isRed c1 = true) (h3 : RB c2 m) (h3' : isRed c2 = false) (hp : PBd dP ps (m + 1)) (lim : limOk (plug (nd il s P dP (nd il c1 w dw c2)) ps))
    {QS : Fl → Rho → St → Prop} (q1 : ∀ σ' t' ρ', Done σ' tk c0 F (plug (nd il s P dP (nd il c1 w dw c2)) ps) t' → QS (.ret .none) ρ' σ') :
    wS r_lightened_2 [some (.ref tk), vn, some (.ref P), some (.bool il), some (.ref w), v5, v6] σ QS := by
  cases c1 with
  | nil => cases h2'
  | node cl v dv cr =>
  cases il with
  | true =>
    have h4 := hs
    simp only [nd, if_true, at_, List.cons_append, List.append_assoc] at h4
    refine cps fun Xc kc => ?_
    obtain ⟨c', dv', b', dw', c2', e, g1, g2, g3, g4, g5, g6, g7, g8, g9⟩ := lightC (il := true) (s := s) (b := cr) (c := cl) (c2 := c2) (P := P) (w := w) (v := v) (dP := dP) (dw := dw) (dv := dv) (ps := ps) (m := m) h2 h2' h3 h3' lim
    refine kc ?_; clear kc Xc
    wtm_at "sk"
    refine wS_seq ?_
    wtm_at "ws"
    refine is_red_sp (v := false) h4 (red_eq h3' (p := some w) fun x hx => by wtm_at "mem") ?_
    wtm_at "ws"
    refine is_red_sp (v := true) h4 (.inr ⟨v, _, rfl, h2'.symm, by wtm_at "mem"⟩) ?_
    wtm_at "ws"
    refine is_red_sp (v := false) h4 (red_eq h3' (p := some w) fun x hx => by wtm_at "mem") ?_
    wtm_at "ws"
    have h5 := ‹Ho _ _›
    refine turn_towards_sp (left := false) (ps := ⟨false, P, dP, s⟩ :: ps) (a := c2) (b := cr) (c := cl) (dx := dw.setR true) (dy := dv.setR false) (hs := h5.perm (by simp only [nd, atP, frc, top, if_true, Bool.false_eq_true, if_false, at_, List.cons_append, List.append_assoc]; wtm_at "pm")) ?_
    intro σ1 h6
    have e' : rot false c2 w (dw.setR true) cr v (dv.setR false) cl = nd true c' v dv' (nd true b' w dw' c2') := e
    rw [e'] at h6
    clear e e'
    simp only [nd, atP, frc, if_true, Bool.false_eq_true, if_false, at_, List.cons_append, List.append_assoc] at h6
    wtm_at "ws"
    refine wG_fun rfl ?_
    unfold s_sibling_of
    wtm_at "wst"
    wtm_at "wst"
    wtm_at "wz"
    refine light_far (il := true) (s := s) (c1 := c') (c2l := b') (c2r := c2') (P := P) (w := v) (v := w) (dP := dP) (dw := dv') (dv := dw') (ps := ps) (m := m) (F := F) (h6.perm (by simp only [nd, if_true, Bool.false_eq_true, if_false, at_, List.cons_append, List.append_assoc]; wtm_at "pm")) h1 g3 ?_ g1 hp g9 ?_
    · simp only [RB]
      rw [if_pos g1]
      exact ⟨g5, g7, g4, g6⟩
    · intro σ' t' ρ' D
      exact q1 σ' t' ρ' ⟨D.1, fun o => (D.2.1 o).trans (g8 o), D.2.2⟩
  | false =>
    have h4 := hs
    simp only [nd, Bool.false_eq_true, if_false, at_, List.cons_append, List.append_assoc] at h4
    refine cps fun Xc kc => ?_
    obtain ⟨c', dv', b', dw', c2', e, g1, g2, g3, g4, g5, g6, g7, g8, g9⟩ := lightC (il := false) (s := s) (b := cl) (c := cr) (c2 := c2) (P := P) (w := w) (v := v) (dP := dP) (dw := dw) (dv := dv) (ps := ps) (m := m) h2 h2' h3 h3' lim
    refine kc ?_; clear kc Xc
    wtm_at "sk"
    refine wS_seq ?_
    wtm_at "ws"
    refine is_red_sp (v := false) h4 (red_eq h3' (p := some w) fun x hx => by wtm_at "mem") ?_
    wtm_at "ws"
    refine is_red_sp (v := true) h4 (.inr ⟨v, _, rfl, h2'.symm, by wtm_at "mem"⟩) ?_
    wtm_at "ws"
    refine is_red_sp (v := false) h4 (red_eq h3' (p := some w) fun x hx => by wtm_at "mem") ?_
    wtm_at "ws"
    have h5 := ‹Ho _ _›
    refine turn_towards_sp (left := true) (ps := ⟨true, P, dP, s⟩ :: ps) (a := c2) (b := cl) (c := cr) (dx := dw.setR true) (dy := dv.setR false) (hs := h5.perm (by simp only [nd, atP, frc, top, if_true, Bool.false_eq_true, if_false, at_, List.cons_append, List.append_assoc]; wtm_at "pm")) ?_
    intro σ1 h6
    have e' : rot true c2 w (dw.setR true) cl v (dv.setR false) cr = nd false c' v dv' (nd false b' w dw' c2') := e
    rw [e'] at h6
    clear e e'
    simp only [nd, atP, frc, if_true, Bool.false_eq_true, if_false, at_, List.cons_append, List.append_assoc] at h6
    wtm_at "ws"
    refine wG_fun rfl ?_
    unfold s_sibling_of
    wtm_at "wst"
    wtm_at "wst"
    wtm_at "wz"
    refine light_far (il := false) (s := s) (c1 := c') (c2l := c2') (c2r := b') (P := P) (w := v) (v := w) (dP := dP) (dw := dv') (dv := dw') (ps := ps) (m := m) (F := F) (h6.perm (by simp only [nd, if_true, Bool.false_eq_true, if_false, at_, List.cons_append, List.append_assoc]; wtm_at "pm")) h1 g3 ?_ g1 hp g9 ?_
    · simp only [RB]
      rw [if_pos g1]
      exact ⟨g7, g5, g6, g4⟩
    · intro σ' t' ρ' D
      exact q1 σ' t' ρ' ⟨D.1, fun o => (D.2.1 o).trans (g8 o), D.2.2⟩
/-- lightened, from where the sibling is black -/
theorem light_rest {il : Bool} {tk P w : Nat} {c0 : Int} {F : At} {s c1 c2 : T} {dP dw : Dat} {ps : List Frm} {m : Nat} {σ : St} {vn v5 v6 : Option V}
    (hs : Ho σ (at_ (top ps) (nd il s P dP (nd il c1 w dw c2)) ++ (atP tk c0 (some P) ps ++ F))) (h1 : RB s m) (h2 : RB c1 m) (h3 : RB c2 m) (hp : PBd dP ps (m + 1)) (lim : limOk (plug (nd il s P dP (nd il c1 w dw c2)) ps))
    {QS : Fl → Rho → St → Prop} (q1 : ∀ σ' t' ρ', Done σ' tk c0 F (plug (nd il s P dP (nd il c1 w dw c2)) ps) t' → QS (.ret .none) ρ' σ')
    (q2 : dP.red = false → ∀ σ' ρ' t1, Ho σ' (at_ (top ps) t1 ++ (atP tk c0 (some P) ps ++ F)) → t1.root = some P → (∀ o, eff o (plug t1 ps) = eff o (plug (nd il s P dP (nd il c1 w dw c2)) ps)) → limOk (plug t1 ps) → RB t1 (m + 1) → isRed t1 = false → PB ps (m + 2) → ps ≠ [] → QS (.ret (.ref P)) ρ' σ') :
    wS r_lightened_2 [some (.ref tk), vn, some (.ref P), some (.bool il), some (.ref w), v5, v6] σ QS := by
  cases e2 : isRed c2 with
  | true => exact light_farred hs h1 h2 h3 e2 hp lim q1
  | false =>
    cases e1 : isRed c1 with
    | true => exact light_nearred hs h1 h2 e1 h3 e2 hp lim q1
    | false => exact light_both hs h1 h2 e1 h3 e2 hp lim q1 q2
/-- a tree with a root, told from either side -/
theorem split_nd (il : Bool) {t : T} {n : Nat} (h : RB t (n + 1)) : ∃ c1 w dw c2, t = nd il c1 w dw c2 := by
  cases t with
  | nil => cases h
  | node l k d r =>
    cases il with
    | true => exact ⟨l, k, d, r, rfl⟩
    | false => exact ⟨r, k, d, l, rfl⟩
section
variable {il : Bool} {s c1 c2 : T} {P w : Nat} {dP dw : Dat}
theorem lim_nd2 (h : limOk (nd il s P dP (nd il c1 w dw c2))) : limOk (nd il s P (dP.setR true) (nd il c1 w (dw.setR false) c2)) := by cases il <;> exact h
theorem eff_nd2 (o : Int) : eff o (nd il s P (dP.setR true) (nd il c1 w (dw.setR false) c2)) = eff o (nd il s P dP (nd il c1 w dw c2)) := by cases il <;> rfl
theorem lv_nd2 : lv (nd il s P (dP.setR true) (nd il c1 w (dw.setR false) c2)) = lv (nd il s P dP (nd il c1 w dw c2)) := by cases il <;> rfl
end
theorem lightened_sp {il : Bool} {tk P : Nat} {c0 : Int} {F : At} {s sib : T} {dP : Dat} {ps : List Frm} {m : Nat} {σ : St} {vn : V}
    (hs : Ho σ (at_ (top ps) (nd il s P dP sib) ++ (atP tk c0 (some P) ps ++ F))) (h1 : RB s m) (h2 : RB sib (m + 1)) (h3 : dP.red = true → isRed sib = false) (hp : PBd dP ps (m + 1)) (lim : limOk (plug (nd il s P dP sib) ps))
    {Q : V → St → Prop} (q1 : ∀ σ' t', Done σ' tk c0 F (plug (nd il s P dP sib) ps) t' → Q .none σ')
    (q2 : ∀ σ' t1, Ho σ' (at_ (top ps) t1 ++ (atP tk c0 (some P) ps ++ F)) → t1.root = some P → (∀ o, eff o (plug t1 ps) = eff o (plug (nd il s P dP sib) ps)) → limOk (plug t1 ps) → RB t1 (m + 1) → isRed t1 = false → PB ps (m + 2) → ps ≠ [] → Q (.ref P) σ') :
    wG g_lightened [.ref tk, vn, .ref P, .bool il] σ Q := by
  obtain ⟨c1, w, dw, c2, rfl⟩ := split_nd il h2
  unfold g_lightened s_lightened
  refine wG_fun rfl ?_
  cases hw : dw.red with
  | false =>
    rw [RB_nd, if_neg (by rw [hw]; simp)] at h2
    obtain ⟨m', em, r1, r2⟩ := h2
    obtain rfl : m = m' := by lia
    have fin := light_rest (vn := some vn) (v5 := Option.none) (v6 := Option.none) (QS := fun fl _ σ' => Q (flVal fl) σ') hs h1 r1 r2 hp lim (fun σ' t' _ D => q1 σ' t' D) (fun _ σ' _ t1 a b c d e f g h => q2 σ' t1 a b c d e f g h)
    clear h1 r1 r2 hp lim q1 q2 h3
    cases il with
    | true =>
      have h4 := hs
      simp only [nd, if_true, at_, List.cons_append, List.append_assoc] at h4
      wtm_at "ws"
      refine wG_fun rfl ?_
      unfold s_sibling_of
      wtm_at "ws"
      refine is_red_sp (v := false) h4 (.inr ⟨w, _, rfl, hw.symm, by wtm_at "mem"⟩) ?_
      wtm_at "ws"
      exact fin
    | false =>
      have h4 := hs
      simp only [nd, Bool.false_eq_true, if_false, at_, List.cons_append, List.append_assoc] at h4
      wtm_at "ws"
      refine wG_fun rfl ?_
      unfold s_sibling_of
      wtm_at "ws"
      refine is_red_sp (v := false) h4 (.inr ⟨w, _, rfl, hw.symm, by wtm_at "mem"⟩) ?_
      wtm_at "ws"
      exact fin
  | true =>
    have hP : dP.red = false := by
      cases hd : dP.red with
      | false => rfl
      | true => have := h3 hd; rw [isRed_nd, hw] at this; cases this
    rw [RB_nd, if_pos hw] at h2
    obtain ⟨b1, b2, r1, r2⟩ := h2
    unfold PBd at hp
    rw [if_neg (by rw [hP]; simp)] at hp
    obtain ⟨a', dx', b', dy', c', e, e1, e2, e3, e4, e5, e6, e7, e8⟩ := rot_shape il s P (dP.setR true) c1 w (dw.setR false) c2
    obtain ⟨d1, w2, dw2, d2, rfl⟩ := split_nd il ((e5 (m + 1)).mpr r1)
    have lim0 := lim_plug_sub ps lim
    have lim1 : limOk (nd il s P (dP.setR true) (nd il c1 w (dw.setR false) c2)) := lim_nd2 lim0
    obtain ⟨l1, l2⟩ := rot_lim il s P (dP.setR true) c1 w (dw.setR false) c2 lim1
    have ee := rot_eff il s P (dP.setR true) c1 w (dw.setR false) c2
    rw [e] at l1 l2 ee
    have e9 : ∀ o, eff o (nd il s P (dP.setR true) (nd il c1 w (dw.setR false) c2)) = eff o (nd il s P dP (nd il c1 w dw c2)) := fun o => eff_nd2 o
    have e10 : lv (nd il s P (dP.setR true) (nd il c1 w (dw.setR false) c2)) = lv (nd il s P dP (nd il c1 w dw c2)) := lv_nd2
    have lim2 : limOk (plug (nd il a' P dx' (nd il d1 w2 dw2 d2)) (⟨il, w, dy', c'⟩ :: ps)) := lim_plug ps l1 (l2.trans e10) lim
    have eo : ∀ o, eff o (plug (nd il a' P dx' (nd il d1 w2 dw2 d2)) (⟨il, w, dy', c'⟩ :: ps)) = eff o (plug (nd il s P dP (nd il c1 w dw c2)) ps) := fun o => eff_plug ps (fun o => (ee o).trans (e9 o)) o
    have hw2 : dw2.red = false := by
      have := e6.trans b1
      rwa [isRed_nd] at this
    have hb := (e5 (m + 1)).mpr r1
    rw [RB_nd, if_neg (by rw [hw2]; simp)] at hb
    obtain ⟨m', em, r3, r4⟩ := hb
    obtain rfl : m = m' := by lia
    have hp2 : PBd dx' (⟨il, w, dy', c'⟩ :: ps) (m + 1) := by
      unfold PBd
      rw [if_pos (show dx'.red = true from e1)]
      refine ⟨e2, by simp, ?_⟩
      unfold PB
      refine ⟨(e7 _).mpr r2, ?_⟩
      rw [if_neg (show ¬ dy'.red = true by rw [e2]; simp [Dat.setR])]
      exact hp
    have fin := fun σ1 h8 => light_rest (tk := tk) (c0 := c0) (F := F) (σ := σ1) (vn := some vn) (v5 := Option.none) (v6 := Option.none) (QS := fun fl _ σ' => Q (flVal fl) σ') h8 ((e3 m).mpr h1) r3 r4 hp2 lim2 (fun σ' t' _ D => q1 σ' t' ⟨D.1, fun o => (D.2.1 o).trans (eo o), D.2.2⟩) (fun hh => by have := e1.symm.trans hh; cases this)
    clear hp2 eo lim2 l1 l2 ee lim1 lim0 lim e9 e10 e1 e2 e3 e4 e5 e6 e7 e8 r1 r2 r3 r4 b1 b2 hp h1 h3 q1 q2 hw2
    cases il with
    | true =>
      have h4 := hs
      simp only [nd, if_true, at_, List.cons_append, List.append_assoc] at h4
      wtm_at "ws"
      refine wG_fun rfl ?_
      unfold s_sibling_of
      wtm_at "ws"
      refine is_red_sp (v := true) h4 (.inr ⟨w, _, rfl, hw.symm, by wtm_at "mem"⟩) ?_
      wtm_at "ws"
      have h5 := ‹Ho _ _›
      refine turn_towards_sp (left := true) (ps := ps) (a := s) (b := c1) (c := c2) (dx := dP.setR true) (dy := dw.setR false) (hs := h5.perm (by simp only [nd, if_true, at_, List.cons_append, List.append_assoc]; wtm_at "pm")) ?_
      intro σ1 h6
      rw [e] at h6
      have h7 := h6.perm (down_permF tk c0 ⟨true, w, dy', c'⟩ (nd true a' P dx' (nd true d1 w2 dw2 d2)) ps F)
      have h8 : Ho σ1 (at_ (top (⟨true, w, dy', c'⟩ :: ps)) (nd true a' P dx' (nd true d1 w2 dw2 d2)) ++ (atP tk c0 (some P) (⟨true, w, dy', c'⟩ :: ps) ++ F)) := h7
      have h9 := h7
      simp only [nd, atP, frc, if_true, Bool.false_eq_true, if_false, at_, List.cons_append, List.append_assoc] at h9
      wtm_at "ws"
      refine wG_fun rfl ?_
      unfold s_sibling_of
      wtm_at "ws"
      exact fin σ1 h8
    | false =>
      have h4 := hs
      simp only [nd, Bool.false_eq_true, if_false, at_, List.cons_append, List.append_assoc] at h4
      wtm_at "ws"
      refine wG_fun rfl ?_
      unfold s_sibling_of
      wtm_at "ws"
      refine is_red_sp (v := true) h4 (.inr ⟨w, _, rfl, hw.symm, by wtm_at "mem"⟩) ?_
      wtm_at "ws"
      have h5 := ‹Ho _ _›
      refine turn_towards_sp (left := false) (ps := ps) (a := s) (b := c1) (c := c2) (dx := dP.setR true) (dy := dw.setR false) (hs := h5.perm (by simp only [nd, Bool.false_eq_true, if_false, at_, List.cons_append, List.append_assoc]; wtm_at "pm")) ?_
      intro σ1 h6
      rw [e] at h6
      have h7 := h6.perm (down_permF tk c0 ⟨false, w, dy', c'⟩ (nd false a' P dx' (nd false d1 w2 dw2 d2)) ps F)
      have h8 : Ho σ1 (at_ (top (⟨false, w, dy', c'⟩ :: ps)) (nd false a' P dx' (nd false d1 w2 dw2 d2)) ++ (atP tk c0 (some P) (⟨false, w, dy', c'⟩ :: ps) ++ F)) := h7
      have h9 := h7
      simp only [nd, atP, frc, if_true, Bool.false_eq_true, if_false, at_, List.cons_append, List.append_assoc] at h9
      wtm_at "ws"
      refine wG_fun rfl ?_
      unfold s_sibling_of
      wtm_at "ws"
      exact fin σ1 h8
theorem wS_seq_inv {a b : DS} {ρ : Rho} {σ : St} {QS : Fl → Rho → St → Prop} (h : wS (dsSeq a b) ρ σ QS) : wS a ρ σ (seqK b QS) := by
  obtain ⟨fl, ρ', σ', e, q⟩ := h
  unfold dsSeq at e
  cases ha : a ρ σ with
  | none => rw [ha] at e; cases e
  | some r =>
    obtain ⟨f1, ρ1, σ1⟩ := r
    rw [ha] at e
    cases f1 with
    | next => exact ⟨_, _, _, ha, _, _, _, e, q⟩
    | ret v => cases e; exact ⟨_, _, _, ha, q⟩
theorem cm_opt_not {a : Option Nat} {k : Nat} {P : Bool → Prop} (h : ∀ z, a = some z → z ≠ k) (q : P true) : ∃ x, cIsNot (V.opt a) (V.opt (some k)) = some x ∧ P x := cm_not_no h q
theorem cm_opt_self {a : Option Nat} {P : Bool → Prop} (q : P false) : ∃ x, cIsNot (V.opt a) (V.opt a) = some x ∧ P x := by
  cases a with
  | none => exact ⟨_, rfl, q⟩
  | some z => exact cm_not_yes q

theorem cm_is_self {a : Option Nat} {P : Bool → Prop} (q : P true) : ∃ x, cIs (V.opt a) (V.opt a) = some x ∧ P x := by
  cases a with
  | none => exact ⟨_, rfl, q⟩
  | some z => exact cm_is_yes q

theorem cd_fin {tk : Nat} {c0 : Int} {F : At} {ps : List Frm} {s : T} {m : Nat} {σ : St} {v3 : Option V} (hs : Ho σ (at_ (top ps) s ++ (atP tk c0 s.root ps ++ F))) (rb : RB s m) (hp : ps = [] ∨ (isRed s = true ∧ PB ps (m + 1))) (lim : limOk (plug s ps)) {QS : Fl → Rho → St → Prop}
    (q : ∀ σ' ρ' t', Done σ' tk c0 F (plug s ps) t' → QS .next ρ' σ') :
    wS (dsSeq (dsIf (dCm cIsNot (dVar 1) dNone) (dsSeq (dsAssign (daAttr (dVar 1) .red) (dBool false)) dsNil) dsNil) dsNil) [some (.ref tk), some (V.opt s.root), some (V.opt (top ps)), v3] σ QS := by
  cases s with
  | nil =>
    rcases hp with rfl | hp
    · wtm_at "ws"
      exact q _ _ .nil ⟨hs.perm (plug_permF tk c0 [] .nil F), fun _ => rfl, trivial, ⟨0, rfl⟩, rfl⟩
    · cases hp.1
  | node l k d r =>
    have h1 := hs
    simp only [at_, List.cons_append, List.append_assoc] at h1
    wtm_at "ws"
    have h2 := ‹Ho _ _›
    have l0 := lim_plug_sub ps lim
    have h3 := h2.perm (B := at_ (top ps) (.node l k (d.setR false) r) ++ (atP tk c0 (some k) ps ++ F)) (by simp only [at_, List.cons_append, List.append_assoc]; wtm_at "pm")
    refine q _ _ (plug (.node l k (d.setR false) r) ps) ⟨h3.perm (plug_permF tk c0 ps _ F), eff_plug ps fun _ => rfl, lim_plug ps (t := .node l k d r) l0 rfl lim, ?_⟩
    rcases hp with rfl | ⟨h4, h5⟩
    · exact ⟨blacken ⟨m, rb⟩, rfl⟩
    · have h6 : d.red = true := h4
      simp only [RB] at rb
      rw [if_pos h6] at rb
      have h7 : RB (.node l k (d.setR false) r) (m + 1) := by
        simp only [RB, Dat.setR, Bool.false_eq_true, if_false]
        exact ⟨m, rfl, rb.2.2.1, rb.2.2.2⟩
      exact ⟨RB_plug ps h7 h5 fun e => (by cases e), plug_black ps h5 fun _ => rfl⟩

theorem root_node {t : T} {k : Nat} (h : t.root = some k) : ∃ l d r, t = .node l k d r := by
  cases t with
  | nil => cases h
  | node l x d r =>
    cases h
    exact ⟨l, d, r, rfl⟩
theorem cd_loop {tk : Nat} {c0 : Int} {F : At} : ∀ (ps : List Frm) (s : T) (m : Nat) (σ : St) (v3 : Option V), Ho σ (at_ (top ps) s ++ (atP tk c0 s.root ps ++ F)) → RB s m → PB ps (m + 1) → limOk (plug s ps) → ∀ Q : V → St → Prop, (∀ σ' t', Done σ' tk c0 F (plug s ps) t' → Q .none σ') →
    wS s_colour_dropped [some (.ref tk), some (V.opt s.root), some (V.opt (top ps)), v3] σ (fun fl _ σ' => Q (flVal fl) σ') := by
  intro ps
  induction ps with
  | nil =>
    intro s m σ v3 hs rb pb lim Q q
    unfold s_colour_dropped
    wtm_at "sk"
    refine wS_seq ?_
    refine wS_while ?_
    unfold t_colour_dropped_1
    have h1 := hs
    simp only [atP, List.cons_append, List.append_assoc, List.nil_append] at h1
    wtm_at "wz"
    refine cm_opt_self ?_
    wtm_at "wz"
    exact cd_fin hs rb (.inl rfl) lim fun σ' ρ' t' D => q σ' t' D
  | cons f ps cd_loop =>
    intro s m σ v3 hs rb pb lim Q q
    unfold s_colour_dropped
    wtm_at "sk"
    refine wS_seq ?_
    refine wS_while ?_
    unfold t_colour_dropped_1
    obtain ⟨kk, mo, er, hr⟩ := rootP_in tk c0 (f :: ps) s.root (by simp)
    have hroot := rootP_mem tk c0 (f :: ps) s.root
    rw [er] at hroot
    wtm_at "wz"
    refine cm_opt_not (fun z e => ?_) ?_
    · obtain ⟨mo', hm⟩ := root_mem (p := top (f :: ps)) e
      exact hs.ne_mem hm (List.mem_append_left _ hr)
    wtm_at "wz"
    refine is_red_sp (v := isRed s) hs (red_of (p := top (f :: ps)) fun x hx => by wtm_at "mem") ?_
    wtm_at "wz"
    cases e : isRed s with
    | true =>
      wtm_at "wz"
      exact cd_fin hs rb (.inr ⟨e, pb⟩) lim fun σ' ρ' t' D => q σ' t' D
    | false =>
      wtm_at "wz"
      unfold b_colour_dropped_1
      obtain ⟨fl, fk, fd, sib⟩ := f
      have pb' := pb
      unfold PB at pb'
      have hp : PBd fd ps (m + 1) := by
        unfold PBd
        split
        · rename_i hd; have := pb'.2; rw [if_pos hd] at this; exact ⟨this.2.1, this.2.2.1, this.2.2.2⟩
        · rename_i hd; have := pb'.2; rw [if_neg hd] at this; exact this
      have hd : fd.red = true → isRed sib = false := fun hd => by have := pb'.2; rw [if_pos hd] at this; exact this.1
      have h2 : Ho σ (at_ (top ps) (nd fl s fk fd sib) ++ (atP tk c0 (some fk) ps ++ F)) := hs.perm (down_permF tk c0 ⟨fl, fk, fd, sib⟩ s ps F).symm
      have fin := fun (is : Bool) (ei : is = fl) (QS : V → St → Prop) (q1) (q2) => lightened_sp (il := is) (tk := tk) (vn := V.opt s.root) (F := F) (c0 := c0) (ps := ps) (P := fk) (s := s) (sib := sib) (dP := fd) (m := m) (σ := σ) (by rw [ei]; exact h2) rb pb'.1 hd hp (by rw [ei]; exact lim) (Q := QS) q1 q2
      have h1 := hs
      simp only [atP] at h1
      refine (?_ : wS _ [some (.ref tk), some (V.opt s.root), some (.ref fk), v3] σ _)
      have q1 : ∀ (σ' : St) (t' : T), Done σ' tk c0 F (plug s (⟨fl, fk, fd, sib⟩ :: ps)) t' → Q .none σ' := q
      have q2 : ∀ (σ' : St) (t1 : T) (v : Option V), Ho σ' (at_ (top ps) t1 ++ (atP tk c0 (some fk) ps ++ F)) → t1.root = some fk → (∀ o, eff o (plug t1 ps) = eff o (plug (nd fl s fk fd sib) ps)) → limOk (plug t1 ps) → RB t1 (m + 1) → PB ps (m + 2) → wS s_colour_dropped [some (.ref tk), some (.ref fk), some (V.opt (top ps)), v] σ' (fun fl _ σ' => Q (flVal fl) σ') := by
        intro σ' t1 v a1 a2 a3 a4 a5 a6
        have := cd_loop t1 (m + 1) σ' v (by rw [a2]; exact a1) a5 a6 a4 Q fun σ'' t' D => q σ'' t' ⟨D.1, fun o => (D.2.1 o).trans (a3 o), D.2.2⟩
        rw [a2] at this
        exact this
      cases fl with
      | true =>
        simp only [frc, if_true, List.cons_append, List.append_assoc] at h1
        wtm_at "wst"
        refine cm_is_self ?_
        wtm_at "wz"
        wtm_at "wst"
        refine fin true rfl _ (fun σ' t' D => ?_) (fun σ' t1 a1 a2 a3 a4 a5 a6 a7 a8 => ?_)
        · wtm_at "ws"
          exact q1 σ' t' D
        · clear fin q1 h1 h2 hs cd_loop lim pb pb' hp hd hroot hr er q
          obtain ⟨l, d, r, rfl⟩ := root_node a2
          · have b1 := a1
            simp only [at_, List.cons_append, List.append_assoc] at b1
            wtm_at "ws"
            exact wS_seq_inv (q2 σ' _ _ a1 rfl a3 a4 a5 a7)
      | false =>
        simp only [frc, Bool.false_eq_true, if_false, List.cons_append, List.append_assoc] at h1
        obtain ⟨c1, w, dw, c2, rfl⟩ := split_nd true pb'.1
        wtm_at "wst"
        refine cm_ref_no (fun z e => ?_) ?_
        · obtain ⟨mo', hm⟩ := root_mem (p := some fk) e
          exact hs.ne_mem hm (.tail _ (List.mem_append_left _ (.head _)))
        wtm_at "wz"
        wtm_at "wst"
        refine fin false rfl _ (fun σ' t' D => ?_) (fun σ' t1 a1 a2 a3 a4 a5 a6 a7 a8 => ?_)
        · wtm_at "ws"
          exact q1 σ' t' D
        · clear fin q1 h1 h2 hs cd_loop lim pb pb' hp hd hroot hr er q
          obtain ⟨l, d, r, rfl⟩ := root_node a2
          · have b1 := a1
            simp only [at_, List.cons_append, List.append_assoc] at b1
            wtm_at "ws"
            exact wS_seq_inv (q2 σ' _ _ a1 rfl a3 a4 a5 a7)

theorem colour_dropped_sp {tk : Nat} {c0 : Int} {F : At} {ps : List Frm} {s : T} {m : Nat} {σ : St} (hs : Ho σ (at_ (top ps) s ++ (atP tk c0 s.root ps ++ F))) (rb : RB s m) (pb : PB ps (m + 1)) (lim : limOk (plug s ps)) {Q : V → St → Prop} (q : ∀ σ' t', Done σ' tk c0 F (plug s ps) t' → Q .none σ') :
    wG g_colour_dropped [.ref tk, V.opt s.root, V.opt (top ps)] σ Q := by
  unfold g_colour_dropped
  refine wG_fun rfl ?_
  exact cd_loop ps s m σ _ hs rb pb lim Q q
theorem take_place_sp {σ : St} {tk x k' : Nat} {c0 : Int} {F : At} {ps : List Frm} {l R : T} {dx dk : Dat} {p1 l1 r1 : Option Nat} (hs : Ho σ (at_ (top ps) (.node l x dx R) ++ (atP tk c0 (some x) ps ++ ((k', MO.node (rc p1 l1 dk r1)) :: F)))) {Q : V → St → Prop}
    (q : ∀ σ', Ho σ' (at_ (top ps) (.node l k' ((dk.setR dx.red).setL (ge (dk.setR dx.red) (lv l) (lv R))) R) ++ (atP tk c0 (some k') ps ++ ((x, MO.node (rc (top ps) l.root dx R.root)) :: F))) → Q .none σ') : wG g_take_place [.ref tk, .ref x, .ref k'] σ Q := by
  unfold g_take_place s_take_place b_take_place_1
  refine wG_fun rfl ?_
  have h1 := hs
  simp only [at_, List.cons_append, List.append_assoc] at h1
  wtm_at "wst"
  refine hang_sp (F := (x, MO.node (rc (top ps) l.root dx R.root)) :: (k', MO.node (rc p1 l1 dk r1)) :: (at_ (some x) l ++ (at_ (some x) R ++ F))) (h1.perm (by wtm_at "pm")) (by wtm_at "mem") (by wtm_at "mem") (by wtm_at "repa") ?_
  intro σ1 h2
  clear h1 hs
  wtm_at "wz"
  wtm_at "wst"; wtm_at "wst"; wtm_at "wst"
  have h3 := ‹Ho _ _›
  clear h2
  wtm_at "sk"
  refine wS_seq ?_
  refine (?_ : wS _ _ _ (fun fl ρ σ' => ∃ v3, fl = .next ∧ ρ = [some (.ref tk), some (.ref x), some (.ref k'), v3] ∧ Ho σ' (atP tk c0 (some k') ps ++ ((x, MO.node (rc (top ps) l.root dx R.root)) :: (k', MO.node (rc (top ps) l.root (dk.setR dx.red) R.root)) :: (at_ (some k') l ++ (at_ (some k') R ++ F)))))).mono ?_
  · clear q
    cases l <;> cases R <;> simp only [at_, List.cons_append, List.append_assoc, List.nil_append] at h3 ⊢ <;> wtm_at "ws"
    all_goals exact ⟨_, rfl, rfl, ‹Ho _ _›.perm (by wtm_at "pm")⟩
  rintro fl ρ σ' ⟨v3, rfl, rfl, h4⟩
  wtm_at "ws"
  refine greatest_end_sp h4 (by wtm_at "mem") (son_of (p := some k') (t := l) fun z hz => by wtm_at "mem") (son_of (p := some k') (t := R) fun z hz => by wtm_at "mem") ?_
  wtm_at "ws"
  refine q _ (‹Ho _ _›.perm ?_)
  simp only [at_, List.cons_append, List.append_assoc]
  wtm_at "pm"

theorem seg_perm (tk : Nat) (c : Int) (ps : List Frm) (F : At) : ∀ (qs : List Frm) (t : T), (at_ (top (qs ++ ps)) t ++ (atP tk c t.root (qs ++ ps) ++ F)).Perm (at_ (top ps) (plug t qs) ++ (atP tk c (plug t qs).root ps ++ F))
  | [], t => .refl _
  | f :: qs, t => by
    refine (down_permF tk c f t (qs ++ ps) F).symm.trans ?_
    have := seg_perm tk c ps F qs (fill f t)
    rw [fill_root] at this
    exact this
theorem plug_app : ∀ (a b : List Frm) (t : T), plug t (a ++ b) = plug (plug t a) b
  | [], b, t => rfl
  | f :: a, b, t => plug_app a b (fill f t)
theorem sibs_app : ∀ (a b : List Frm), sibsOk (a ++ b) ↔ sibsOk a ∧ sibsOk b
  | [], b => by simp [sibsOk]
  | f :: a, b => by
    have := sibs_app a b
    simp only [List.cons_append, sibsOk, this, and_assoc]
theorem PB_swap {f f' : Frm} {ps : List Frm} (h1 : f'.sib = f.sib) (h2 : f'.d.red = f.d.red) : ∀ (qs : List Frm) (n : Nat), PB (qs ++ f :: ps) n → PB (qs ++ f' :: ps) n
  | [], n, h => by
    simp only [List.nil_append, PB] at h ⊢
    rw [h1, h2]
    exact h
  | g :: qs, n, h => by
    have ht : topRed (qs ++ f' :: ps) = topRed (qs ++ f :: ps) := by
      cases qs with
      | nil => exact h2
      | cons a b => rfl
    simp only [List.cons_append, PB] at h ⊢
    refine ⟨h.1, ?_⟩
    have h3 := h.2
    split at h3
    · rename_i e
      rw [if_pos e, ht]
      exact ⟨h3.1, h3.2.1, by simp, PB_swap h1 h2 qs n h3.2.2.2⟩
    · rename_i e
      rw [if_neg e]
      exact PB_swap h1 h2 qs (n + 1) h3
theorem atP_mem (tk : Nat) (c : Int) (ps : List Frm) (h : Option Nat) {f : Frm} (hf : f ∈ ps) : ∃ mo, (f.k, mo) ∈ atP tk c h ps := by
  induction ps generalizing h with
  | nil => cases hf
  | cons g ps ih =>
    rcases List.mem_cons.mp hf with e | e
    · rw [e]
      exact ⟨_, .head _⟩
    · obtain ⟨mo, m⟩ := ih (some g.k) e
      exact ⟨mo, .tail _ (List.mem_append_right _ m)⟩
theorem drop_end {tk x gone : Nat} {c0 : Int} {F : At} {ps : List Frm} {s : T} {m : Nat} {σ : St} {p l r : Option Nat} {d : Dat} {wr : Bool} {v6 : Option V} (hs : Ho σ (at_ (top ps) s ++ (atP tk c0 s.root ps ++ ((x, MO.node (rc p l d r)) :: F)))) (lim : limOk s) (sib : sibsOk ps) (rb : RB s m) (hc : if wr = true then isRed s = false ∧ PB ps m else PB ps (m + 1)) {QS : Fl → Rho → St → Prop}
    (q : ∀ σ' ρ' t', Done σ' tk c0 ((x, MO.node (rc Option.none Option.none d Option.none)) :: F) (plug s ps) t' → QS .next ρ' σ') :
    wS r_drop_node_9 [some (.ref tk), some (.ref x), some (.ref gone), some (V.opt s.root), some (V.opt (top ps)), some (.bool wr), v6] σ QS := by
  unfold r_drop_node_9
  wtm_at "wst"
  refine wS_seq ?_
  refine dl_loop ps s.root (lv s) (at_ (top ps) s ++ ((x, MO.node (rc p l d r)) :: F)) σ (hs.perm (by wtm_at "pm")) (son_of (p := top ps) fun z hz => by wtm_at "mem") _ ?_
  intro σ1 h1
  have h2 : Ho σ1 (at_ (top (relim (lv s) ps)) s ++ (atP tk c0 s.root (relim (lv s) ps) ++ ((x, MO.node (rc p l d r)) :: F))) := by
    rw [relim_top]
    exact h1.perm (by wtm_at "pm")
  have lim2 := relim_lim ps s lim sib
  have fin : ∀ σ2 t', Done σ2 tk c0 ((x, MO.node (rc p l d r)) :: F) (plug s (relim (lv s) ps)) t' → wS (dsSeq (dsAssign (daAttr (dVar 1) .left) dNone) (dsSeq (dsAssign (daAttr (dVar 1) .right) dNone) (dsSeq (dsAssign (daAttr (dVar 1) .parent) dNone) dsNil))) [some (.ref tk), some (.ref x), some (.ref gone), some (V.opt s.root), some (V.opt (top ps)), some (.bool wr), some .none] σ2 QS := by
    intro σ2 t' D
    have h3 := D.1
    wtm_at "ws"
    exact q _ _ t' ⟨‹Ho _ _›, fun o => (D.2.1 o).trans (relim_eff ps (lv s) s o), D.2.2⟩
  wtm_at "wst"
  cases wr with
  | true =>
    rw [if_pos rfl] at hc
    wtm_at "wz"
    exact fin _ _ ⟨h2.perm (plug_permF tk c0 _ s _), fun _ => rfl, lim2, RB_plug _ rb ((relim_PB ps _ _).mpr hc.2) (fun e => by rw [hc.1] at e; cases e), plug_black _ ((relim_PB ps _ _).mpr hc.2) fun _ => hc.1⟩
  | false =>
    rw [if_neg (by simp)] at hc
    wtm_at "wz"
    refine wS_seq ?_
    wtm_at "wz"
    have cd := fun Q q => colour_dropped_sp h2 rb ((relim_PB ps _ _).mpr hc) lim2 (Q := Q) q
    rw [relim_top] at cd
    refine cd _ fun σ2 t' D => ?_
    wtm_at "wz"
    exact fin _ _ D

theorem unhook {tk x g : Nat} {c0 : Int} {F : At} {zs : List Frm} {gl gr s : T} {dg : Dat} {σ : St} {v3 v4 v5 v6 : Option V} (hgs : (gl = .nil ∧ s = gr) ∨ (gl ≠ .nil ∧ gr = .nil ∧ s = gl)) (hs : Ho σ (at_ (top zs) (.node gl g dg gr) ++ (atP tk c0 (some g) zs ++ F))) {QS : Fl → Rho → St → Prop}
    (q : ∀ σ', Ho σ' (at_ (top zs) s ++ (atP tk c0 s.root zs ++ ((g, MO.node (rc (top zs) gl.root dg gr.root)) :: F))) → wS r_drop_node_8 [some (.ref tk), some (.ref x), some (.ref g), some (V.opt s.root), some (V.opt (top zs)), some (.bool dg.red), v6] σ' QS) :
    wS r_drop_node_4 [some (.ref tk), some (.ref x), some (.ref g), v3, v4, v5, v6] σ QS := by
  unfold r_drop_node_4
  have h1 := hs
  simp only [at_, List.cons_append, List.append_assoc] at h1
  rcases hgs with ⟨rfl, rfl⟩ | ⟨hn, rfl, rfl⟩
  · wtm_at "wst"
    wtm_at "wst"; wtm_at "wst"; wtm_at "wst"
    refine hangT_sp (p := some g) (h1.perm (B := at_ (some g) s ++ (atP tk c0 (some g) zs ++ ((g, MO.node (rc (top zs) T.nil.root dg s.root)) :: F))) (by simp only [at_, List.nil_append]; wtm_at "pm")) (by wtm_at "mem") ?_
    intro σ' h2
    wtm_at "wz"
    exact q _ h2
  · cases s with
    | nil => exact absurd rfl hn
    | node sl sk sd sr =>
      wtm_at "wst"
      wtm_at "wst"; wtm_at "wst"; wtm_at "wst"
      refine hangT_sp (s := .node sl sk sd sr) (p := some g) (h1.perm (B := at_ (some g) (.node sl sk sd sr) ++ (atP tk c0 (some g) zs ++ ((g, MO.node (rc (top zs) (T.node sl sk sd sr).root dg T.nil.root)) :: F))) (by simp only [at_, List.nil_append, List.cons_append, List.append_assoc]; wtm_at "pm")) (by wtm_at "mem") ?_
      intro σ' h2
      wtm_at "wz"
      exact q _ h2
/-- a node with one son at most leaves the tree: colours -/
theorem RB_gone {gl gr s : T} {g : Nat} {dg : Dat} {zs : List Frm} {n : Nat} (hgs : (gl = .nil ∧ s = gr) ∨ (gl ≠ .nil ∧ gr = .nil ∧ s = gl)) (rb : RB (.node gl g dg gr) n) (pb : PB zs n) : ∃ m, RB s m ∧ if dg.red = true then isRed s = false ∧ PB zs m else PB zs (m + 1) := by
  simp only [RB] at rb
  by_cases hd : dg.red = true
  · rw [if_pos hd] at rb
    refine ⟨n, ?_⟩
    rw [if_pos hd]
    rcases hgs with ⟨rfl, rfl⟩ | ⟨_, rfl, rfl⟩
    · exact ⟨rb.2.2.2, rb.2.1, pb⟩
    · exact ⟨rb.2.2.1, rb.1, pb⟩
  · rw [if_neg hd] at rb
    obtain ⟨m, rfl, r1, r2⟩ := rb
    refine ⟨m, ?_⟩
    rw [if_neg hd]
    rcases hgs with ⟨rfl, rfl⟩ | ⟨_, rfl, rfl⟩
    · exact ⟨r2, pb⟩
    · exact ⟨r1, pb⟩
theorem eff_node0 {l r : T} {k : Nat} {d : Dat} (h : d.offset = 0) : eff 0 (.node l k d r) = eff 0 l ++ item k d :: eff 0 r := by
  simp only [eff, h, Int.add_zero, itm_zero]

/-- the node itself goes -/
theorem drop_a {tk x : Nat} {c0 : Int} {F : At} {ps : List Frm} {L A B : List Item} {l r s : T} {d : Dat} {n : Nat} {σ : St} {v3 v4 v5 v6 : Option V} (hgs : (l = .nil ∧ s = r) ∨ (l ≠ .nil ∧ r = .nil ∧ s = l)) (hs : Ho σ (at_ (top ps) (.node l x d r) ++ (atP tk c0 (some x) ps ++ F))) (I : ZInv L ps (.node l x d r) A B n) (h0 : d.offset = 0) {QS : Fl → Rho → St → Prop}
    (q : ∀ σ' ρ' t' A B, Ho σ' (at_ Option.none t' ++ ((tk, .tree ⟨t'.root, c0⟩) :: (x, MO.node (rc Option.none Option.none d Option.none)) :: F)) → L = A ++ item x d :: B → eff 0 t' = A ++ B → limOk t' → (∃ m, RB t' m) → isRed t' = false → QS .next ρ' σ') :
    wS r_drop_node_4 [some (.ref tk), some (.ref x), some (.ref x), v3, v4, v5, v6] σ QS := by
  refine unhook (zs := ps) hgs hs ?_
  intro σ1 h1
  unfold r_drop_node_8
  wtm_at "wst"
  obtain ⟨m, rb, hc⟩ := RB_gone hgs I.rb I.pb
  have lim := lim_plug_sub ps I.lim
  refine drop_end h1 ?_ (sibs_of ps I.lim) rb hc ?_
  · rcases hgs with ⟨rfl, rfl⟩ | ⟨_, rfl, rfl⟩
    · exact lim.2.2
    · exact lim.2.1
  · intro σ' ρ' t' D
    have e := I.all
    rw [eff_node0 h0] at e
    have e2 := D.2.1 0
    rw [I.effs] at e2
    rcases hgs with ⟨rfl, rfl⟩ | ⟨_, rfl, rfl⟩
    · exact q σ' ρ' t' A (eff 0 s ++ B) D.1 (by rw [e]; simp [eff]) (by rw [e2]; simp) D.2.2.1 D.2.2.2.1 D.2.2.2.2
    · exact q σ' ρ' t' (A ++ eff 0 s) B D.1 (by rw [e]; simp [eff]) (by rw [e2]) D.2.2.1 D.2.2.2.1 D.2.2.2.2
theorem top_app_ne {qs ps : List Frm} (h : qs ≠ []) : top (qs ++ ps) = top qs := by
  cases qs with
  | nil => exact absurd rfl h
  | cons f qs => rfl
/-- the next one goes, and takes the node's place -/
theorem drop_b {tk x g : Nat} {c0 : Int} {F : At} {qs ps : List Frm} {L A B B' : List Item} {l r r2 : T} {d dg : Dat} {n n' : Nat} {σ : St} {v3 v4 v5 v6 : Option V} (hs : Ho σ (at_ (top (qs ++ ⟨false, x, d, l⟩ :: ps)) (.node .nil g dg r2) ++ (atP tk c0 (some g) (qs ++ ⟨false, x, d, l⟩ :: ps) ++ F))) (I : ZInv L ps (.node l x d r) A B n) (h0 : d.offset = 0)
    (I2 : ZInv L (qs ++ ⟨false, x, d, l⟩ :: ps) (.node .nil g dg r2) (A ++ (eff 0 l ++ [item x d])) B' n') (hg : dg.offset = 0) {QS : Fl → Rho → St → Prop}
    (q : ∀ σ' ρ' t' A B, Ho σ' (at_ Option.none t' ++ ((tk, .tree ⟨t'.root, c0⟩) :: (x, MO.node (rc Option.none Option.none d Option.none)) :: F)) → L = A ++ item x d :: B → eff 0 t' = A ++ B → limOk t' → (∃ m, RB t' m) → isRed t' = false → QS .next ρ' σ') :
    wS r_drop_node_4 [some (.ref tk), some (.ref x), some (.ref g), v3, v4, v5, v6] σ QS := by
  have hgs : ((T.nil = .nil ∧ r2 = r2) ∨ (T.nil ≠ .nil ∧ r2 = .nil ∧ r2 = T.nil)) := .inl ⟨rfl, rfl⟩
  obtain ⟨mx, hx⟩ := atP_mem tk c0 (qs ++ ⟨false, x, d, l⟩ :: ps) (some g) (f := ⟨false, x, d, l⟩) (by simp)
  have hne : g ≠ x := hs.ne_mem (.head _) (List.mem_append_left _ hx)
  have htop : qs ≠ [] → ∀ z, top (qs ++ ⟨false, x, d, l⟩ :: ps) = some z → z ≠ x := by
    intro hq z e
    cases qs with
    | nil => exact absurd rfl hq
    | cons f qs =>
      obtain rfl : f.k = z := by simpa [top] using e
      obtain ⟨mx2, hx2⟩ := atP_mem tk c0 (qs ++ ⟨false, x, d, l⟩ :: ps) (some f.k) (f := ⟨false, x, d, l⟩) (by simp)
      have h5 := hs.right
      simp only [List.cons_append, atP] at h5
      exact Ho.ne_mem (A := [_]) h5 (.head _) (List.mem_append_left _ (List.mem_append_right _ hx2))
  refine unhook (zs := qs ++ ⟨false, x, d, l⟩ :: ps) hgs hs ?_
  intro σ1 h1
  unfold r_drop_node_8
  have h2 := h1.perm (seg_perm tk c0 (⟨false, x, d, l⟩ :: ps) ((g, MO.node (rc (top (qs ++ ⟨false, x, d, l⟩ :: ps)) T.nil.root dg r2.root)) :: F) qs r2)
  have h3 : Ho σ1 (at_ (top ps) (.node l x d (plug r2 qs)) ++ (atP tk c0 (some x) ps ++ ((g, MO.node (rc (top (qs ++ ⟨false, x, d, l⟩ :: ps)) T.nil.root dg r2.root)) :: F))) := h2.perm (down_permF tk c0 ⟨false, x, d, l⟩ (plug r2 qs) ps _).symm
  wtm_at "sk"
  refine wS_seq ?_
  refine wS_if ?_
  refine wE_cm ?_
  wtm_at "wz"
  refine br_t (by simpa using hne) ?_
  wtm_at "wz"
  wtm_at "wst"
  refine take_place_sp h3 ?_
  intro σ2 h4
  generalize hdk : (dg.setR d.red).setL (ge (dg.setR d.red) (lv l) (lv (plug r2 qs))) = dk at h4
  have k1 : dk.offset = 0 ∧ dk.red = d.red ∧ item g dk = item g dg := by subst hdk; exact ⟨hg, rfl, rfl⟩
  clear hdk
  have h5 : Ho σ2 (at_ (some g) (plug r2 qs) ++ (atP tk c0 (plug r2 qs).root (⟨false, g, dk, l⟩ :: ps) ++ ((x, MO.node (rc (top ps) l.root d (plug r2 qs).root)) :: F))) := h4.perm (down_permF tk c0 ⟨false, g, dk, l⟩ (plug r2 qs) ps _)
  have h6 := h5.perm (seg_perm tk c0 (⟨false, g, dk, l⟩ :: ps) ((x, MO.node (rc (top ps) l.root d (plug r2 qs).root)) :: F) qs r2).symm
  obtain ⟨m, rb, hc⟩ := RB_gone hgs I2.rb I2.pb
  have lim := lim_plug_sub _ I2.lim
  have sib := sibs_of _ I2.lim
  have hc' : if dg.red = true then isRed r2 = false ∧ PB (qs ++ ⟨false, g, dk, l⟩ :: ps) m else PB (qs ++ ⟨false, g, dk, l⟩ :: ps) (m + 1) := by
    split
    · rename_i e; rw [if_pos e] at hc; exact ⟨hc.1, PB_swap (f := ⟨false, x, d, l⟩) (f' := ⟨false, g, dk, l⟩) rfl k1.2.1 qs m hc.2⟩
    · rename_i e; rw [if_neg e] at hc; exact PB_swap (f := ⟨false, x, d, l⟩) (f' := ⟨false, g, dk, l⟩) rfl k1.2.1 qs (m + 1) hc
  have sib' : sibsOk (qs ++ ⟨false, g, dk, l⟩ :: ps) := by
    rw [sibs_app] at sib ⊢
    exact sib
  -- what the tree says
  have e1 : ∀ (k : Nat) (dd : Dat), dd.offset = 0 → ∀ z, eff 0 (plug z (qs ++ ⟨false, k, dd, l⟩ :: ps)) = A ++ (eff 0 l ++ item k dd :: eff 0 (plug z qs)) ++ B := by
    intro k dd hdd z
    rw [plug_app]
    show eff 0 (plug (.node l k dd (plug z qs)) ps) = _
    rw [I.effs, eff_node0 hdd]
  have e2 : eff 0 (plug r2 qs) ++ B = eff 0 r2 ++ B' := by
    have a1 := e1 x d h0 r2
    rw [I2.effs] at a1
    simp only [List.append_assoc, List.cons_append, List.nil_append] at a1
    have a2 := List.append_cancel_left (List.append_cancel_left a1)
    simpa using a2.symm
  have e3 : eff 0 (plug r2 (qs ++ ⟨false, g, dk, l⟩ :: ps)) = (A ++ eff 0 l) ++ (item g dg :: (eff 0 r2 ++ B')) := by
    rw [e1 g dk k1.1, k1.2.2, ← e2]
    simp
  have e4 : L = (A ++ eff 0 l) ++ item x d :: (item g dg :: (eff 0 r2 ++ B')) := by
    rw [I2.all, eff_node0 hg]
    simp [eff]
  have fin : ∀ v6', wS r_drop_node_9 [some (.ref tk), some (.ref x), some (.ref g), some (V.opt r2.root), some (V.opt (top (qs ++ ⟨false, g, dk, l⟩ :: ps))), some (.bool dg.red), v6'] σ2 QS := by
    intro v6'
    refine drop_end h6 lim.2.2 sib' rb hc' ?_
    intro σ' ρ' t' D
    exact q σ' ρ' t' _ _ D.1 e4 ((D.2.1 0).trans e3) D.2.2.1 D.2.2.2.1 D.2.2.2.2
  wtm_at "wz"
  refine wS_seq ?_
  refine wS_assign ?_
  refine wE_ite ?_
  refine wE_cm ?_
  wtm_at "wz"
  by_cases hq : qs = []
  · subst hq
    refine cm_is_yes ?_
    wtm_at "wz"
    exact fin _
  · refine cm_is_no (htop hq) ?_
    wtm_at "wz"
    have := fin v6
    rw [top_app_ne hq] at this ⊢
    exact this

theorem nodes_ne_nil {l r : T} {k : Nat} {d : Dat} : T.node l k d r ≠ .nil := fun e => T.noConfusion e

theorem drop_node_sp {σ : St} {tk x : Nat} {c0 : Int} {F : At} {ps : List Frm} {l r : T} {d : Dat} {m : Nat} (hs : Ho σ (at_ Option.none (plug (.node l x d r) ps) ++ ((tk, .tree ⟨(plug (.node l x d r) ps).root, c0⟩) :: F))) (lim : limOk (plug (.node l x d r) ps)) (rb : RB (plug (.node l x d r) ps) m) (hr : isRed (plug (.node l x d r) ps) = false) (hz : ps.length < 900) {Q : V → St → Prop}
    (q : ∀ σ' t' d' A B, Ho σ' (at_ Option.none t' ++ ((tk, .tree ⟨t'.root, c0 - 1⟩) :: (x, MO.node (rc Option.none Option.none d' Option.none)) :: F)) → eff 0 (plug (.node l x d r) ps) = A ++ item x d' :: B → eff 0 t' = A ++ B → limOk t' → (∃ m, RB t' m) → isRed t' = false → Q .none σ') : wG g_drop_node [.ref tk, .ref x] σ Q := by
  unfold g_drop_node s_drop_node
  refine wG_fun rfl ?_
  wtm_at "wst"
  have h1 := ‹Ho _ (at_ Option.none (plug (.node l x d r) ps) ++ ((tk, .tree ⟨(plug (.node l x d r) ps).root, c0 - 1⟩) :: F))›
  wtm_at "wst"
  refine hand_down_to_sp h1 lim rb hr hz ?_
  intro σ1 ps1 l1 d1 r1 A B n h2 I h0
  wtm_at "wz"
  wtm_at "wst"
  refine wS_seq ?_
  refine wS_if ?_
  have h3 := h2
  simp only [at_, List.cons_append, List.append_assoc] at h3
  have q' : ∀ (σ' : St) (ρ' : Rho) (t' : T) (A B : List Item), Ho σ' (at_ Option.none t' ++ ((tk, .tree ⟨t'.root, c0 - 1⟩) :: (x, MO.node (rc Option.none Option.none d1 Option.none)) :: F)) → eff 0 (plug (.node l x d r) ps) = A ++ item x d1 :: B → eff 0 t' = A ++ B → limOk t' → (∃ m, RB t' m) → isRed t' = false → Q (flVal .next) σ' := fun σ' _ t' A B a b c d e f => q σ' t' d1 A B a b c d e f
  cases l1 with
  | nil =>
    wtm_at "wz"
    exact drop_a (.inl ⟨rfl, rfl⟩) h2 I h0 q'
  | node l2 k2 d2 r2 =>
    cases r1 with
    | nil =>
      wtm_at "wz"
      exact drop_a (.inr ⟨nodes_ne_nil, rfl, rfl⟩) h2 I h0 q'
    | node l3 k3 d3 r3 =>
      wtm_at "wz"
      obtain ⟨n', I'⟩ := I.right h0
      wtm_at "wst"
      refine first_below_sp (c0 := c0 - 1) (tk := tk) (F := F) (ps := ⟨false, x, d1, .node l2 k2 d2 r2⟩ :: ps1) (l := l3) (y := k3) (d := d3) (r := r3) (h2.perm (down_permF tk (c0 - 1) ⟨false, x, d1, .node l2 k2 d2 r2⟩ (.node l3 k3 d3 r3) ps1 F)) I' ?_
      intro σ2 qs g dg rg B2 n2 h4 I2 hg _
      wtm_at "wz"
      exact drop_b h4 I h0 I2 hg q'
theorem wS_while_inv {t : DE} {b : DS} {ρ : Rho} {σ : St} {QS : Fl → Rho → St → Prop} (h : wS (dsWhile t b) ρ σ QS) (e : t ρ σ = some (.bool true, σ)) : wS b ρ σ (seqK (dsWhile t b) QS) := by
  obtain ⟨fl, ρ', σ', e1, q⟩ := h
  unfold dsWhile at e1
  rw [loopM_eq] at e1
  cases hb : b ρ σ with
  | none => simp [whStep, e, V.toBool, hb] at e1
  | some r =>
    obtain ⟨f1, ρ1, σ1⟩ := r
    cases f1 with
    | next =>
      refine ⟨_, _, _, hb, fl, ρ', σ', ?_, q⟩
      simp [whStep, e, V.toBool, hb] at e1
      exact e1
    | ret v =>
      simp [whStep, e, V.toBool, hb] at e1
      obtain ⟨rfl, rfl, rfl⟩ := e1
      exact ⟨_, _, _, hb, q⟩
theorem len_sp {σ : St} {A : At} {k : Nat} {vs : List V} (hs : Ho σ A) (hm : (k, MO.list vs) ∈ A) {Q : V → St → Prop} (q : Q (.int vs.length) σ) : wG gLen [.ref k] σ Q := by
  refine ⟨.int vs.length, σ, ?_, q⟩
  simp [gLen, lstAt_of (hs.get hm)]
theorem test_true {i j wk : Nat} {ρ : Rho} {σ : St} {A : At} {W : List V} {o : Option Nat} (hj : ρ[j]? = some (some (V.opt o))) (hi : ρ[i]? = some (some (.ref wk))) (hs : Ho σ A) (hm : (wk, MO.list W) ∈ A) (h : o ≠ Option.none ∨ W ≠ []) :
    (dOr (dCm cIsNot (dVar j) dNone) (dCm (cInt .gt) (dCall gLen (dCons (dVar i) dNil)) (dInt 0))) ρ σ = some (.bool true, σ) := by
  cases o with
  | some k => simp [dOr, dCm, dVar, hj, V.opt, dNone, cIsNot, cIs, V.toBool]
  | none =>
    have hW : W ≠ [] := by simpa using h
    have : 0 < W.length := List.length_pos_iff.mpr hW
    simp [dOr, dCm, dVar, hj, hi, V.opt, dNone, dNil, dCons, dCall, dInt, gLen, lstAt_of (hs.get hm), cInt, V.toInt, cIsNot, cIs, V.toBool, Cop.ev]
    lia
theorem pop_rule {σ : St} {A A' : At} {k : Nat} {vs : List V} {x : V} {P : V → St → Prop} (hs : Ho σ A) (hm : (k, MO.list (vs ++ [x])) ∈ A) (hr : RepA k (.list (vs ++ [x])) (.list vs) A A') (q : ∀ σ2, Ho σ2 A' → P x σ2) :
    ∃ A vs x A', Ho σ A ∧ RepA k (.list (vs ++ [x])) (.list vs) A A' ∧ ∀ σ2, Ho σ2 A' → P x σ2 := ⟨A, vs, x, A', hs, hr, q⟩

/-! ## a tree with nothing left to hand down -/
noncomputable def settle : Int → T → T
  | _, .nil => .nil
  | o, .node l k d r => .node (settle (d.offset + o) l) k (hdn { d with offset := d.offset + o }) (settle (d.offset + o) r)
theorem settle_root (o : Int) (t : T) : (settle o t).root = t.root := by cases t <;> rfl
noncomputable def keysT : T → List V
  | .nil => []
  | .node l k _ r => keysT l ++ V.ref k :: keysT r
theorem keysT_len : ∀ t : T, (keysT t).length = size t
  | .nil => rfl
  | .node l k d r => by
    simp only [keysT, List.length_append, List.length_cons, keysT_len l, keysT_len r, size]
    lia
theorem ano_loop {fk wk : Nat} {v0 : Option V} : ∀ (cur : T) (o : Int) (p : Option Nat) (W Fd : List V) (F : At) (σ : St) (QS : Fl → Rho → St → Prop), Ho σ (at_ p (push o cur) ++ ((fk, MO.list Fd) :: (wk, MO.list W) :: F)) → W.length + size cur < 1000 → Fd.length + size cur < 1000 →
    (∀ σ', Ho σ' (at_ p (settle o cur) ++ ((fk, MO.list (Fd ++ keysT cur)) :: (wk, MO.list W) :: F)) → wS (dsWhile t_all_nodes_in_order_2 b_all_nodes_in_order_2) [v0, some (.ref fk), some (.ref wk), some .none] σ' QS) →
    wS (dsWhile t_all_nodes_in_order_2 b_all_nodes_in_order_2) [v0, some (.ref fk), some (.ref wk), some (V.opt cur.root)] σ QS := by
  intro cur
  induction cur with
  | nil =>
    intro o p W Fd F σ QS hs hW hF q
    exact q σ (by simpa [keysT, settle, push] using hs)
  | node l k d r ihl ihr =>
    intro o p W Fd F σ QS hs hW hF q
    simp only [size] at hW hF
    wtm_at "sk"
    refine wS_while ?_
    refine wE_or ?_
    wtm_at "wz"
    refine wS_seq ?_
    refine wS_while ?_
    refine wE_cm ?_
    wtm_at "wz"
    refine wS_seq ?_
    wtm_at "wz"
    refine hand_down_sp hs ?_
    intro σ1 h1
    simp only [at_, List.cons_append, List.append_assoc, push_root] at h1
    wtm_at "wz"
    refine wS_seq ?_
    refine wS_expr ?_
    refine sE_app ?_
    wtm_at "wz"
    refine lst_rule h1 (by wtm_at "mem") ?_
    wtm_at "wz"
    refine app_rule h1 (by wtm_at "mem") (by lia) (by wtm_at "repa") ?_
    intro σ2 h2
    wtm_at "wz"
    wtm_at "wst"
    have key := ihl (d.offset + o) (some k) (W ++ [V.ref k]) Fd ((k, MO.node (rc p l.root (hdn { d with offset := d.offset + o }) r.root)) :: (at_ (some k) (push (d.offset + o) r) ++ F)) σ2 QS (h2.perm (by wtm_at "pm")) (by simp; lia) (by lia) ?_
    · have h3 := wS_while_inv key (test_true (o := l.root) (wk := wk) rfl rfl h2 (by wtm_at "mem") (.inr (by simp)))
      exact wS_seq_inv h3
    intro σ3 h3
    wtm_at "sk"
    refine wS_while ?_
    refine wE_or ?_
    refine wE_cm ?_
    wtm_at "wz"
    refine len_sp h3 (by wtm_at "mem") ?_
    wtm_at "wz"
    refine br_t (by simp [Cop.ev]) ?_
    refine wS_seq ?_
    refine wS_while ?_
    refine wE_cm ?_
    wtm_at "wz"
    refine wS_seq ?_
    refine wS_assign ?_
    refine sE_pop ?_
    wtm_at "wz"
    refine pop_rule h3 (by wtm_at "mem") (by wtm_at "repa") ?_
    intro σ4 h4
    wtm_at "wz"
    refine wS_seq ?_
    refine wS_expr ?_
    refine sE_app ?_
    wtm_at "wz"
    refine lst_rule h4 (by wtm_at "mem") ?_
    wtm_at "wz"
    refine app_rule h4 (by wtm_at "mem") (by simp [keysT_len]; lia) (by wtm_at "repa") ?_
    intro σ5 h5
    wtm_at "wz"
    wtm_at "wst"
    refine ihr (d.offset + o) (some k) W ((Fd ++ keysT l) ++ [V.ref k]) ((k, MO.node (rc p l.root (hdn { d with offset := d.offset + o }) r.root)) :: (at_ (some k) (settle (d.offset + o) l) ++ F)) σ5 QS (h5.perm (by wtm_at "pm")) (by lia) (by simp [keysT_len]; lia) ?_
    intro σ6 h6
    refine q σ6 (h6.perm ?_)
    simp only [settle, at_, keysT, settle_root, List.append_assoc, List.cons_append, List.nil_append]
    wtm_at "pm"
theorem all_nodes_in_order_sp {σ : St} {tk : Nat} {c0 : Int} {t : T} {F : At} (hs : Ho σ (at_ Option.none t ++ ((tk, .tree ⟨t.root, c0⟩) :: F))) (hz : size t < 900) {Q : V → St → Prop}
    (q : ∀ σ' k, Ho σ' (at_ Option.none (settle 0 t) ++ ((k, MO.list (keysT t)) :: (tk, .tree ⟨t.root, c0⟩) :: F)) → Q (.ref k) σ') : wG g_all_nodes_in_order [.ref tk] σ Q := by
  unfold g_all_nodes_in_order s_all_nodes_in_order
  refine wG_fun rfl ?_
  wtm_at "wst"
  refine ⟨_, hs, fun fk σ1 h1 => ?_⟩
  wtm_at "wz"
  wtm_at "wst"
  refine ⟨_, h1, fun wk σ2 h2 => ?_⟩
  wtm_at "wz"
  wtm_at "wst"
  refine wS_seq ?_
  refine ano_loop t 0 Option.none [] [] ((tk, .tree ⟨t.root, c0⟩) :: F) σ2 _ (h2.perm (by rw [push_zero]; wtm_at "pm")) (by simp; lia) (by simp; lia) ?_
  intro σ3 h3
  simp only [List.nil_append] at h3
  wtm_at "sk"
  refine wS_while ?_
  refine wE_or ?_
  refine wE_cm ?_
  wtm_at "wz"
  refine len_sp h3 (by wtm_at "mem") ?_
  wtm_at "wz"
  wtm_at "ws"
  exact q _ _ (Ho.tail (x := (wk, MO.list [])) (h3.perm (by wtm_at "pm")))
noncomputable def preT : T → List V
  | .nil => []
  | .node l k _ r => V.ref k :: (preT r ++ preT l)
theorem preT_len : ∀ t : T, (preT t).length = size t
  | .nil => rfl
  | .node l k d r => by
    simp only [preT, List.length_append, List.length_cons, preT_len l, preT_len r, size]
    lia
theorem nfb_loop {fk wk : Nat} {v0 : Option V} : ∀ (cur : T) (o : Int) (p : Option Nat) (W Fd : List V) (F : At) (σ : St) (v3 : Option V) (QS : Fl → Rho → St → Prop), Ho σ (at_ p (push o cur) ++ ((fk, MO.list Fd) :: (wk, MO.list (W ++ [V.opt cur.root])) :: F)) → W.length + 2 * size cur < 1000 → Fd.length + size cur < 1000 →
    (∀ σ' v3, Ho σ' (at_ p (settle o cur) ++ ((fk, MO.list (Fd ++ preT cur)) :: (wk, MO.list W) :: F)) → wS (dsWhile t_nodes_from_below_1 b_nodes_from_below_1) [v0, some (.ref fk), some (.ref wk), v3] σ' QS) →
    wS (dsWhile t_nodes_from_below_1 b_nodes_from_below_1) [v0, some (.ref fk), some (.ref wk), v3] σ QS := by
  intro cur
  induction cur with
  | nil =>
    intro o p W Fd F σ v3 QS hs hW hF q
    simp only [push, at_, T.root, List.nil_append] at hs
    wtm_at "sk"
    refine wS_while ?_
    refine wE_cm ?_
    wtm_at "wz"
    refine len_sp hs (by wtm_at "mem") ?_
    wtm_at "wz"
    refine br_t (by simp [Cop.ev]) ?_
    refine wS_seq ?_
    refine wS_assign ?_
    refine sE_pop ?_
    wtm_at "wz"
    refine pop_rule hs (by wtm_at "mem") (by wtm_at "repa") ?_
    intro σ1 h1
    wtm_at "wz"
    refine wS_seq ?_
    refine wS_if ?_
    refine wE_cm ?_
    wtm_at "wz"
    exact q _ _ (by simpa [preT, settle, at_] using h1)
  | node l k d r ihl ihr =>
    intro o p W Fd F σ v3 QS hs hW hF q
    simp only [size] at hW hF
    simp only [T.root] at hs
    wtm_at "sk"
    refine wS_while ?_
    refine wE_cm ?_
    wtm_at "wz"
    refine len_sp hs (by wtm_at "mem") ?_
    wtm_at "wz"
    refine br_t (by simp [Cop.ev]) ?_
    refine wS_seq ?_
    refine wS_assign ?_
    refine sE_pop ?_
    wtm_at "wz"
    refine pop_rule hs (by wtm_at "mem") (by wtm_at "repa") ?_
    intro σ1 h1
    wtm_at "wz"
    refine wS_seq ?_
    refine wS_if ?_
    refine wE_cm ?_
    wtm_at "wz"
    refine wS_seq ?_
    wtm_at "wz"
    refine hand_down_sp h1 ?_
    intro σ2 h2
    simp only [at_, List.cons_append, List.append_assoc, push_root] at h2
    wtm_at "wz"
    refine wS_seq ?_
    refine wS_expr ?_
    refine sE_app ?_
    wtm_at "wz"
    refine lst_rule h2 (by wtm_at "mem") ?_
    wtm_at "wz"
    refine app_rule h2 (by wtm_at "mem") (by lia) (by wtm_at "repa") ?_
    intro σ3 h3
    wtm_at "wz"
    refine wS_seq ?_
    refine wS_expr ?_
    refine sE_app ?_
    wtm_at "wz"
    refine lst_rule h3 (by wtm_at "mem") ?_
    wtm_at "wz"
    refine app_rule h3 (by wtm_at "mem") (by lia) (by wtm_at "repa") ?_
    intro σ4 h4
    wtm_at "wz"
    refine wS_seq ?_
    refine wS_expr ?_
    refine sE_app ?_
    wtm_at "wz"
    refine lst_rule h4 (by wtm_at "mem") ?_
    wtm_at "wz"
    refine app_rule h4 (by wtm_at "mem") (by simp; lia) (by wtm_at "repa") ?_
    intro σ5 h5
    wtm_at "wz"
    refine ihr (d.offset + o) (some k) (W ++ [V.opt l.root]) (Fd ++ [V.ref k]) ((k, MO.node (rc p l.root (hdn { d with offset := d.offset + o }) r.root)) :: (at_ (some k) (push (d.offset + o) l) ++ F)) σ5 _ QS (h5.perm (by wtm_at "pm")) (by simp; lia) (by simp; lia) ?_
    intro σ6 v6 h6
    refine ihl (d.offset + o) (some k) W ((Fd ++ [V.ref k]) ++ preT r) ((k, MO.node (rc p l.root (hdn { d with offset := d.offset + o }) r.root)) :: (at_ (some k) (settle (d.offset + o) r) ++ F)) σ6 _ QS (h6.perm (by wtm_at "pm")) (by lia) (by simp [preT_len]; lia) ?_
    intro σ7 v7 h7
    refine q σ7 v7 (h7.perm ?_)
    simp only [settle, at_, preT, settle_root, List.append_assoc, List.cons_append, List.nil_append]
    wtm_at "pm"
theorem nodes_from_below_sp {σ : St} {tk : Nat} {c0 : Int} {t : T} {F : At} (hs : Ho σ (at_ Option.none t ++ ((tk, .tree ⟨t.root, c0⟩) :: F))) (hz : size t < 400) {Q : V → St → Prop}
    (q : ∀ σ' k, Ho σ' (at_ Option.none (settle 0 t) ++ ((k, MO.list (preT t).reverse) :: (tk, .tree ⟨t.root, c0⟩) :: F)) → Q (.ref k) σ') : wG g_nodes_from_below [.ref tk] σ Q := by
  unfold g_nodes_from_below s_nodes_from_below
  refine wG_fun rfl ?_
  wtm_at "wst"
  refine ⟨_, hs, fun fk σ1 h1 => ?_⟩
  wtm_at "wz"
  wtm_at "wst"
  refine ⟨_, h1, fun wk σ2 h2 => ?_⟩
  wtm_at "wz"
  refine wS_seq ?_
  refine nfb_loop t 0 Option.none [] [] ((tk, .tree ⟨t.root, c0⟩) :: F) σ2 _ _ (h2.perm (by rw [push_zero]; simp only [List.nil_append]; wtm_at "pm")) (by simp; lia) (by simp; lia) ?_
  intro σ3 v3 h3
  simp only [List.nil_append] at h3
  wtm_at "sk"
  refine wS_while ?_
  refine wE_cm ?_
  wtm_at "wz"
  refine len_sp h3 (by wtm_at "mem") ?_
  wtm_at "wz"
  refine wS_seq ?_
  refine wS_ret ?_
  refine sE_rev ?_
  wtm_at "wz"
  refine rev_rule h3 (by wtm_at "mem") ?_
  intro j σ4 h4
  refine q σ4 j (Ho.tail (x := (wk, MO.list [])) (Ho.tail (x := (fk, MO.list (preT t))) (h4.perm (by wtm_at "pm"))))
structure Eqv (t t' : T) : Prop where
  root : t'.root = t.root
  eff : ∀ o, eff o t' = eff o t
  lim : limOk t → limOk t'
  lv : lv t' = lv t
  rb : ∀ n, RB t n → RB t' n
  red : isRed t' = isRed t
theorem Eqv.refl (t : T) : Eqv t t := ⟨rfl, fun _ => rfl, id, rfl, fun _ => id, rfl⟩
theorem Eqv.trans {a b c : T} (h : Eqv a b) (g : Eqv b c) : Eqv a c := ⟨g.root.trans h.root, fun o => (g.eff o).trans (h.eff o), fun x => g.lim (h.lim x), g.lv.trans h.lv, fun n x => g.rb n (h.rb n x), g.red.trans h.red⟩
theorem Eqv.hd (l : T) (k : Nat) (d : Dat) (r : T) : Eqv (.node l k d r) (.node (push d.offset l) k (hdn d) (push d.offset r)) :=
  ⟨rfl, hdn_eff l r k d, hdn_lim, hdn_lv _ _ _ _ _ _, fun _ => hdn_RB, rfl⟩
theorem Eqv.kids {l r l' r' : T} (k : Nat) (d : Dat) (h : Eqv l l') (g : Eqv r r') : Eqv (.node l k d r) (.node l' k d r') := by
  refine ⟨rfl, fun o => ?_, fun x => ?_, rfl, fun n x => ?_, rfl⟩
  · simp only [Mine.eff, h.eff, g.eff]
  · exact ⟨by rw [h.lv, g.lv]; exact x.1, h.lim x.2.1, g.lim x.2.2⟩
  · simp only [RB] at x ⊢
    split
    · rename_i e
      rw [if_pos e] at x
      exact ⟨h.red.trans x.1, g.red.trans x.2.1, h.rb n x.2.2.1, g.rb n x.2.2.2⟩
    · rename_i e
      rw [if_neg e] at x
      obtain ⟨m, a, b, c⟩ := x
      exact ⟨m, a, h.rb m b, g.rb m c⟩
theorem lim_bound : ∀ (t : T) (o : Int), limOk t → ∀ i ∈ eff o t, ∃ x, lv t = some x ∧ i.e ≤ x + o
  | .nil, o, _, i, hi => nomatch hi
  | .node l k d r, o, h, i, hi => by
    obtain ⟨h1, h2, h3, _⟩ := (ge_val d.limit).mp h.1
    simp only [eff] at hi
    refine ⟨d.limit + d.offset, rfl, ?_⟩
    rcases List.mem_append.mp hi with hi | hi
    · obtain ⟨x, e, g⟩ := lim_bound l (o + d.offset) h.2.1 i hi
      have := h2 x e
      lia
    · rcases List.mem_cons.mp hi with rfl | hi
      · simp only [itm]
        lia
      · obtain ⟨x, e, g⟩ := lim_bound r (o + d.offset) h.2.2 i hi
        have := h3 x e
        lia
/-- what a node says once it is handed down -/
theorem eff_hd (o : Int) (l : T) (k : Nat) (d : Dat) (r : T) : eff o (.node l k d r) = eff (d.offset + o) l ++ item k (hdn { d with offset := d.offset + o }) :: eff (d.offset + o) r := by
  simp only [eff, Int.add_comm o, item, itm, hdn]
theorem Srt.hd {o : Int} {l r : T} {k : Nat} {d : Dat} (S : Srt (eff o (.node l k d r))) : Srt (eff (d.offset + o) l) ∧ Srt (eff (d.offset + o) r) ∧ (∀ i ∈ eff (d.offset + o) l, i.b ≤ (hdn { d with offset := d.offset + o }).begin_) ∧ (∀ i ∈ eff (d.offset + o) r, (hdn { d with offset := d.offset + o }).begin_ ≤ i.b) := by
  rw [eff_hd] at S
  obtain ⟨a, b, c⟩ := List.pairwise_append.mp S
  obtain ⟨b1, b2⟩ := List.pairwise_cons.mp b
  exact ⟨a, b2, fun i hi => c i hi _ (.head _), fun i hi => b1 i hi⟩

noncomputable def hit (a z : Int) (i : Item) : Bool := decide (i.b ≤ z) && decide (a ≤ i.e)
noncomputable def refs (L : List Item) : List V := L.map fun i => V.ref i.k
/-- the node's record bears what the tree says of it -/
noncomputable def Here (A : At) (i : Item) : Prop := ∃ p l r d, (i.k, MO.node (rc p l d r)) ∈ A ∧ item i.k d = i
theorem Here.mono {A A' : At} {i : Item} (h : Here A i) (m : ∀ x ∈ A, x ∈ A') : Here A' i := by
  obtain ⟨p, l, r, d, a, b⟩ := h
  exact ⟨p, l, r, d, m _ a, b⟩
theorem nb_loop {fk wk : Nat} {v0 : Option V} {a z : Int} : ∀ (cur : T) (o : Int) (p : Option Nat) (W Fd : List V) (F : At) (σ : St) (QS : Fl → Rho → St → Prop), Ho σ (at_ p (push o cur) ++ ((fk, MO.list Fd) :: (wk, MO.list W) :: F)) → W.length + size cur < 1000 → Fd.length + size cur < 1000 → limOk cur → Srt (eff o cur) →
    (∀ σ' t', Ho σ' (at_ p t' ++ ((fk, MO.list (Fd ++ refs ((eff o cur).filter (hit a z)))) :: (wk, MO.list W) :: F)) → Eqv (push o cur) t' → (∀ i ∈ (eff o cur).filter (hit a z), Here (at_ p t') i) → wS (dsWhile t_nodes_between_2 b_nodes_between_2) [v0, some (.int a), some (.int z), some (.ref fk), some (.ref wk), some .none] σ' QS) →
    wS (dsWhile t_nodes_between_2 b_nodes_between_2) [v0, some (.int a), some (.int z), some (.ref fk), some (.ref wk), some (V.opt cur.root)] σ QS := by
  intro cur
  induction cur with
  | nil =>
    intro o p W Fd F σ QS hs hW hF lim S q
    exact q σ .nil (by simpa [refs, eff, push] using hs) (Eqv.refl _) (fun i hi => nomatch hi)
  | node l k d r ihl ihr =>
    intro o p W Fd F σ QS hs hW hF lim S q
    simp only [size] at hW hF
    obtain ⟨S1, S2, S3, S4⟩ := S.hd
    have hlim : (hdn { d with offset := d.offset + o }).limit = d.limit + (d.offset + o) := rfl
    have bound := lim_bound (.node l k d r) o lim
    have E0 := Eqv.hd l k { d with offset := d.offset + o } r
    wtm_at "sk"
    refine wS_while ?_
    refine wE_or ?_
    wtm_at "wz"
    refine wS_seq ?_
    refine wS_while ?_
    refine wE_cm ?_
    wtm_at "wz"
    refine wS_seq ?_
    wtm_at "wz"
    refine hand_down_sp hs ?_
    intro σ1 h1
    have h1' := h1
    simp only [at_, List.cons_append, List.append_assoc, push_root] at h1
    rw [eff_hd] at q bound
    generalize hd' : hdn { d with offset := d.offset + o } = d' at *
    wtm_at "wz"
    refine wS_seq ?_
    refine wS_if ?_
    refine wE_cm ?_
    wtm_at "wz"
    by_cases hl : d'.limit < a
    · refine br_t (by simp [Cop.ev, hl]) ?_
      have hnil : (eff (d.offset + o) l ++ item k d' :: eff (d.offset + o) r).filter (hit a z) = [] := by
        rw [List.filter_eq_nil_iff]
        intro i hi
        obtain ⟨x, e1, e2⟩ := bound i hi
        obtain rfl : d.limit + d.offset = x := by simpa [lv] using e1
        simp only [hit, Bool.and_eq_true, decide_eq_true_eq]
        lia
      rw [hnil] at q
      have q1 := q σ1 _ (by simpa [refs] using h1') E0 (fun i hi => nomatch hi)
      wtm_at "wz"
      wtm_at "wst"
      by_cases hW0 : W = []
      · subst hW0
        wtm_at "sk"
        refine wS_while ?_
        refine wE_cm ?_
        wtm_at "wz"
        refine wS_seq ?_
        refine wS_if ?_
        refine wE_cm ?_
        wtm_at "wz"
        refine len_sp h1 (by wtm_at "mem") ?_
        wtm_at "wz"
        exact q1
      · exact wS_seq_inv (wS_while_inv q1 (test_true (o := Option.none) (wk := wk) rfl rfl h1 (by wtm_at "mem") (.inr hW0)))
    · refine br_f (by simp [Cop.ev]; lia) ?_
      wtm_at "sk"
      refine wS_seq ?_
      refine wS_expr ?_
      refine sE_app ?_
      wtm_at "wz"
      refine lst_rule h1 (by wtm_at "mem") ?_
      wtm_at "wz"
      refine app_rule h1 (by wtm_at "mem") (by lia) (by wtm_at "repa") ?_
      intro σ2 h2
      wtm_at "wz"
      wtm_at "wst"
      have key := ihl (d.offset + o) (some k) (W ++ [V.ref k]) Fd ((k, MO.node (rc p l.root d' r.root)) :: (at_ (some k) (push (d.offset + o) r) ++ F)) σ2 QS (h2.perm (by wtm_at "pm")) (by simp; lia) (by lia) lim.2.1 S1 ?_
      · exact wS_seq_inv (wS_while_inv key (test_true (o := l.root) (wk := wk) rfl rfl h2 (by wtm_at "mem") (.inr (by simp))))
      intro σ3 l' h3 E1 H1
      have hroot : l'.root = l.root := E1.root.trans (push_root _ _)
      wtm_at "sk"
      refine wS_while ?_
      refine wE_or ?_
      refine wE_cm ?_
      wtm_at "wz"
      refine len_sp h3 (by wtm_at "mem") ?_
      wtm_at "wz"
      refine br_t (by simp [Cop.ev]) ?_
      refine wS_seq ?_
      refine wS_while ?_
      refine wE_cm ?_
      wtm_at "wz"
      refine wS_seq ?_
      refine wS_if ?_
      refine wE_cm ?_
      wtm_at "wz"
      refine len_sp h3 (by wtm_at "mem") ?_
      wtm_at "wz"
      refine br_t (by simp [Cop.ev]) ?_
      refine wS_seq ?_
      refine wS_assign ?_
      refine sE_pop ?_
      wtm_at "wz"
      refine pop_rule h3 (by wtm_at "mem") (by wtm_at "repa") ?_
      intro σ4 h4
      wtm_at "wz"
      refine wS_seq ?_
      have hfl : ((eff (d.offset + o) l).filter (hit a z)).length ≤ size l := by
        have := List.length_filter_le (hit a z) (eff (d.offset + o) l)
        rwa [eff_len] at this
      -- to be found, or not
      refine (?_ : wS _ _ _ (fun fl ρ σ' => fl = .next ∧ ρ = [v0, some (.int a), some (.int z), some (.ref fk), some (.ref wk), some (.ref k)] ∧ Ho σ' (at_ (some k) l' ++ ((fk, MO.list (Fd ++ refs ((eff (d.offset + o) l ++ [item k d']).filter (hit a z)))) :: (wk, MO.list W) :: (k, MO.node (rc p l.root d' r.root)) :: (at_ (some k) (push (d.offset + o) r) ++ F))))).mono ?_
      · refine wS_if ?_
        refine wE_and ?_
        refine wE_cm ?_
        wtm_at "wz"
        rw [List.filter_append]
        by_cases hb : d'.begin_ ≤ z
        · refine ⟨fun _ => ?_, fun e => absurd hb (by simpa [Cop.ev] using e)⟩
          wtm_at "wz"
          by_cases he : a ≤ d'.end_
          · refine br_t (by simp [Cop.ev, he]) ?_
            wtm_at "sk"
            refine wS_seq ?_
            refine wS_expr ?_
            refine sE_app ?_
            wtm_at "wz"
            refine lst_rule h4 (by wtm_at "mem") ?_
            wtm_at "wz"
            refine app_rule h4 (by wtm_at "mem") (by simp [refs]; lia) (by wtm_at "repa") ?_
            intro σ5 h5
            wtm_at "wz"
            rw [show [item k d'].filter (hit a z) = [item k d'] by simp [hit, item, hb, he]]
            simpa [refs, item] using h5
          · refine br_f (by simp [Cop.ev]; lia) ?_
            wtm_at "wz"
            rw [show [item k d'].filter (hit a z) = [] by simp [hit, item, he]]
            simpa using h4
        · refine ⟨fun e => absurd (by simpa [Cop.ev] using e) hb, fun _ => ?_⟩
          wtm_at "wz"
          rw [show [item k d'].filter (hit a z) = [] by simp [hit, item, hb]]
          simpa using h4
      rintro fl ρ σ5 ⟨rfl, rfl, h5⟩
      wtm_at "wz"
      refine wS_seq ?_
      refine wS_assign ?_
      refine wE_ite ?_
      refine wE_cm ?_
      wtm_at "wz"
      by_cases hb : d'.begin_ ≤ z
      · refine br_t (by simp [Cop.ev, hb]) ?_
        wtm_at "wz"
        refine ihr (d.offset + o) (some k) W _ ((k, MO.node (rc p l.root d' r.root)) :: (at_ (some k) l' ++ F)) σ5 QS (h5.perm (by wtm_at "pm")) (by lia) ?_ lim.2.2 S2 ?_
        · have := List.length_filter_le (hit a z) (eff (d.offset + o) l ++ [item k d'])
          simp only [List.length_append, eff_len, List.length_singleton] at this
          simp only [List.length_append, refs, List.length_map]
          lia
        intro σ6 r' h6 E2 H2
        refine q σ6 (.node l' k d' r') (h6.perm ?_) (E0.trans (Eqv.kids k d' E1 E2)) ?_
        rotate_left
        · intro i hi
          rw [List.filter_append, List.filter_cons] at hi
          rcases List.mem_append.mp hi with hi | hi
          · exact (H1 i hi).mono fun x hx => .tail _ (List.mem_append_left _ hx)
          · split at hi
            · rcases List.mem_cons.mp hi with rfl | hi
              · exact ⟨p, l'.root, r'.root, d', .head _, rfl⟩
              · exact (H2 i hi).mono fun x hx => .tail _ (List.mem_append_right _ hx)
            · exact (H2 i hi).mono fun x hx => .tail _ (List.mem_append_right _ hx)
        have ef : Fd ++ refs ((eff (d.offset + o) l ++ item k d' :: eff (d.offset + o) r).filter (hit a z)) = (Fd ++ refs ((eff (d.offset + o) l ++ [item k d']).filter (hit a z))) ++ refs ((eff (d.offset + o) r).filter (hit a z)) := by
          rw [show eff (d.offset + o) l ++ item k d' :: eff (d.offset + o) r = (eff (d.offset + o) l ++ [item k d']) ++ eff (d.offset + o) r by simp, List.filter_append]
          simp [refs]
        rw [ef]
        simp only [at_, hroot, E2.root.trans (push_root _ _), List.append_assoc, List.cons_append, List.nil_append]
        wtm_at "pm"
      · refine br_f (by simp [Cop.ev]; lia) ?_
        wtm_at "wz"
        refine q σ5 (.node l' k d' (push (d.offset + o) r)) (h5.perm ?_) (E0.trans (Eqv.kids k d' E1 (Eqv.refl _))) ?_
        rotate_left
        · intro i hi
          rw [List.filter_append, List.filter_cons] at hi
          rcases List.mem_append.mp hi with hi | hi
          · exact (H1 i hi).mono fun x hx => .tail _ (List.mem_append_left _ hx)
          · rw [if_neg (by simp [hit, item, hb])] at hi
            obtain ⟨hi, h⟩ := List.mem_filter.mp hi
            have := S4 i hi
            simp only [hit, Bool.and_eq_true, decide_eq_true_eq] at h
            lia
        have en : (eff (d.offset + o) r).filter (hit a z) = [] := by
          rw [List.filter_eq_nil_iff]
          intro i hi
          have := S4 i hi
          simp only [hit, Bool.and_eq_true, decide_eq_true_eq]
          lia
        have ef : Fd ++ refs ((eff (d.offset + o) l ++ item k d' :: eff (d.offset + o) r).filter (hit a z)) = Fd ++ refs ((eff (d.offset + o) l ++ [item k d']).filter (hit a z)) := by
          rw [show eff (d.offset + o) l ++ item k d' :: eff (d.offset + o) r = (eff (d.offset + o) l ++ [item k d']) ++ eff (d.offset + o) r by simp, List.filter_append _ (eff (d.offset + o) r), en, List.append_nil]
        rw [ef, List.filter_append]
        simp only [at_, hroot, push_root, List.append_assoc, List.cons_append, List.nil_append]
        wtm_at "pm"
theorem nodes_between_sp {σ : St} {tk : Nat} {c0 : Int} {t : T} {F : At} {a z : Int} (hs : Ho σ (at_ Option.none t ++ ((tk, .tree ⟨t.root, c0⟩) :: F))) (hz : size t < 900) (lim : limOk t) (S : Srt (eff 0 t)) {Q : V → St → Prop}
    (q : ∀ σ' k t', Ho σ' (at_ Option.none t' ++ ((k, MO.list (refs ((eff 0 t).filter (hit a z)))) :: (tk, .tree ⟨t'.root, c0⟩) :: F)) → Eqv t t' → (∀ i ∈ (eff 0 t).filter (hit a z), Here (at_ Option.none t') i) → Q (.ref k) σ') : wG g_nodes_between [.ref tk, .int a, .int z] σ Q := by
  unfold g_nodes_between s_nodes_between
  refine wG_fun rfl ?_
  wtm_at "wst"
  refine ⟨_, hs, fun fk σ1 h1 => ?_⟩
  wtm_at "wz"
  wtm_at "wst"
  refine ⟨_, h1, fun wk σ2 h2 => ?_⟩
  wtm_at "wz"
  wtm_at "wst"
  refine wS_seq ?_
  refine nb_loop t 0 Option.none [] [] ((tk, .tree ⟨t.root, c0⟩) :: F) σ2 _ (h2.perm (by rw [push_zero]; wtm_at "pm")) (by simp; lia) (by simp; lia) lim S ?_
  intro σ3 t' h3 E H
  simp only [List.nil_append] at h3
  rw [push_zero] at E
  wtm_at "sk"
  refine wS_while ?_
  refine wE_or ?_
  refine wE_cm ?_
  wtm_at "wz"
  refine len_sp h3 (by wtm_at "mem") ?_
  wtm_at "wz"
  wtm_at "ws"
  exact q _ _ t' (Ho.tail (x := (wk, MO.list [])) (h3.perm (by rw [E.root]; wtm_at "pm"))) E H
/-- the limits of a path, given what stands at its foot -/
noncomputable def PLim : Option Int → List Frm → Prop
  | _, [] => True
  | a, f :: ps => f.d.limit = (if f.left = true then ge f.d a (lv f.sib) else ge f.d (lv f.sib) a) ∧ limOk f.sib ∧ PLim (some (f.d.limit + f.d.offset)) ps
theorem limOk_plug : ∀ (ps : List Frm) (t : T), limOk (plug t ps) ↔ limOk t ∧ PLim (lv t) ps
  | [], t => by simp [plug, PLim]
  | ⟨fl, k, d, s⟩ :: ps, t => by
    rw [plug, limOk_plug ps]
    cases fl with
    | true =>
      simp only [fill, nd, if_true, limOk, lv, PLim]
      constructor
      · rintro ⟨⟨a, b, c⟩, e⟩; exact ⟨b, a, c, e⟩
      · rintro ⟨b, a, c, e⟩; exact ⟨⟨a, b, c⟩, e⟩
    | false =>
      simp only [fill, nd, Bool.false_eq_true, if_false, limOk, lv, PLim]
      constructor
      · rintro ⟨⟨a, b, c⟩, e⟩; exact ⟨c, a, b, e⟩
      · rintro ⟨c, a, b, e⟩; exact ⟨⟨a, b, c⟩, e⟩
noncomputable def PSame : List Frm → List Frm → Prop
  | [], [] => True
  | f :: ps, g :: qs => (∃ z, g = { f with d := f.d.setL z }) ∧ PSame ps qs
  | [], _ :: _ => False
  | _ :: _, [] => False
theorem PSame.refl : ∀ ps : List Frm, PSame ps ps
  | [] => trivial
  | f :: ps => ⟨⟨f.d.limit, rfl⟩, PSame.refl ps⟩
theorem PSame.trans : ∀ {a b c : List Frm}, PSame a b → PSame b c → PSame a c
  | [], [], [], _, _ => trivial
  | f :: ps, g :: qs, h :: rs, ⟨⟨z, e⟩, s⟩, ⟨⟨w, e'⟩, s'⟩ => ⟨⟨w, by subst e; subst e'; rfl⟩, s.trans s'⟩
  | [], [], _ :: _, _, h => nomatch h
  | [], _ :: _, _, h, _ => nomatch h
  | _ :: _, [], _, h, _ => nomatch h
  | _ :: _, _ :: _, [], _, h => nomatch h
theorem PSame.top : ∀ {a b : List Frm}, PSame a b → Mine.top b = Mine.top a
  | [], [], _ => rfl
  | f :: ps, g :: qs, ⟨⟨z, e⟩, _⟩ => by subst e; rfl
  | [], _ :: _, h => nomatch h
  | _ :: _, [], h => nomatch h
noncomputable def PStale : List Frm → Prop
  | [] => True
  | f :: ps => limOk f.sib ∧ PLim (some (f.d.limit + f.d.offset)) ps
theorem PLim.stale : ∀ {ps : List Frm} {a : Option Int}, PLim a ps → PStale ps
  | [], _, _ => trivial
  | _ :: _, _, h => h.2
theorem rl_loop {tk : Nat} {c0 : Int} : ∀ (ps : List Frm) (hole : Option Nat) (a : Option Int) (F : At) (σ : St) (v1 : Option V), Ho σ (atP tk c0 hole ps ++ F) → Son F hole a → PStale ps →
    ∀ QS : Fl → Rho → St → Prop, (∀ σ' fl ρ' ps', (fl = .next ∨ fl = .ret .none) → Ho σ' (atP tk c0 hole ps' ++ F) → PSame ps ps' → PLim a ps' → QS fl ρ' σ') →
    wS (dsWhile t_renew_limits_1 b_renew_limits_1) [some (V.opt (top ps)), v1] σ QS
  | [], hole, a, F, σ, v1, hs, hS, st, QS, q => by
    wtm_at "sk"
    refine wS_while ?_
    refine wE_cm ?_
    wtm_at "ws"
    exact q _ _ _ [] (.inl rfl) hs trivial trivial
  | f :: ps, hole, a, F, σ, v1, hs, hS, st, QS, q => by
    wtm_at "sk"
    refine wS_while ?_
    refine wE_cm ?_
    wtm_at "wz"
    refine wS_seq ?_
    refine wS_assign ?_
    refine wE_call ?_
    obtain ⟨fl, fk, fd, sib⟩ := f
    -- the greatest end, and whether it is there already
    have fin : ∀ (z : Int), (fd.limit = z → PLim a (⟨fl, fk, fd, sib⟩ :: ps)) → (∀ ps', PLim (some ((fd.setL z).limit + (fd.setL z).offset)) ps' → PLim a (⟨fl, fk, fd.setL z, sib⟩ :: ps')) →
        (∃ mo, (fk, mo) ∈ atP tk c0 hole (⟨fl, fk, fd, sib⟩ :: ps) ∧ getF mo .limit = some (.int fd.limit)) →
        wS (dsSeq (dsIf (dCm (cInt .eq) (dVar 1) (dAttr .limit (dVar 0))) (dsSeq dsRetN dsNil) dsNil) (dsSeq (dsAssign (daAttr (dVar 0) .limit) (dVar 1)) (dsSeq (dsAssign (daName 0) (dAttr .parent (dVar 0))) dsNil))) [some (.ref fk), some (.int z)] σ
          (seqK (dsWhile t_renew_limits_1 b_renew_limits_1) QS) := by
      intro z h1 h2 h3
      wtm_at "sk"
      refine wS_seq ?_
      obtain ⟨mo, hm, hg⟩ := h3
      wtm_at "sk"
      refine wS_if ?_
      refine wE_cm ?_
      refine wE_var rfl ?_
      refine sE_attr ?_
      refine wE_var rfl ?_
      refine ⟨fk, rfl, _, mo, _, hs, List.mem_append_left _ hm, hg, ?_⟩
      refine cm_int ?_
      wtm_at "wz"
      by_cases hz : z = fd.limit
      · refine br_t (by simp [Cop.ev, hz]) ?_
        wtm_at "ws"
        exact q _ _ _ _ (.inr rfl) hs (PSame.refl _) (h1 hz.symm)
      · refine br_f (by simp [Cop.ev, hz]) ?_
        wtm_at "wz"
        cases fl with
        | true =>
          have h4 := hs
          simp only [atP, frc, if_true, List.cons_append, List.append_assoc] at h4
          wtm_at "wst"
          wtm_at "wst"
          have h5 := ‹Ho _ _›
          refine rl_loop ps (some fk) (some ((fd.setL z).limit + (fd.setL z).offset)) ((fk, MO.node (rc (top ps) hole (fd.setL z) sib.root)) :: (at_ (some fk) sib ++ F)) _ _ (h5.perm (by wtm_at "pm")) (.inr ⟨fk, _, rfl, rfl, .head _⟩) st.2.stale QS ?_
          intro σ' fl ρ' ps' e h6 sm pl
          refine q σ' fl ρ' (⟨true, fk, fd.setL z, sib⟩ :: ps') e (h6.perm ?_) ⟨⟨z, rfl⟩, sm⟩ (h2 ps' pl)
          simp only [atP, frc, if_true, List.cons_append, List.append_assoc, sm.top]
          wtm_at "pm"
        | false =>
          have h4 := hs
          simp only [atP, frc, Bool.false_eq_true, if_false, List.cons_append, List.append_assoc] at h4
          wtm_at "wst"
          wtm_at "wst"
          have h5 := ‹Ho _ _›
          refine rl_loop ps (some fk) (some ((fd.setL z).limit + (fd.setL z).offset)) ((fk, MO.node (rc (top ps) sib.root (fd.setL z) hole)) :: (at_ (some fk) sib ++ F)) _ _ (h5.perm (by wtm_at "pm")) (.inr ⟨fk, _, rfl, rfl, .head _⟩) st.2.stale QS ?_
          intro σ' fl ρ' ps' e h6 sm pl
          refine q σ' fl ρ' (⟨false, fk, fd.setL z, sib⟩ :: ps') e (h6.perm ?_) ⟨⟨z, rfl⟩, sm⟩ (h2 ps' pl)
          simp only [atP, frc, Bool.false_eq_true, if_false, List.cons_append, List.append_assoc, sm.top]
          wtm_at "pm"
    cases fl with
    | true =>
      have h1 := hs
      simp only [atP, frc, if_true, List.cons_append, List.append_assoc] at h1
      wtm_at "wz"
      refine greatest_end_sp h1 (by wtm_at "mem") (hS.mono fun z hz => by wtm_at "mem") (son_of (p := some fk) (t := sib) fun z hz => by wtm_at "mem") ?_
      wtm_at "wz"
      refine fin (ge fd a (lv sib)) (fun e => ⟨e, st.1, st.2⟩) (fun ps' h => ⟨rfl, st.1, h⟩) ⟨_, .head _, by simp only [frc, if_true]; rfl⟩
    | false =>
      have h1 := hs
      simp only [atP, frc, Bool.false_eq_true, if_false, List.cons_append, List.append_assoc] at h1
      wtm_at "wz"
      refine greatest_end_sp h1 (by wtm_at "mem") (son_of (p := some fk) (t := sib) fun z hz => by wtm_at "mem") (hS.mono fun z hz => by wtm_at "mem") ?_
      wtm_at "wz"
      refine fin (ge fd (lv sib) a) (fun e => ⟨e, st.1, st.2⟩) (fun ps' h => ⟨rfl, st.1, h⟩) ⟨_, .head _, by simp only [frc, Bool.false_eq_true, if_false]; rfl⟩
theorem renew_limits_sp {σ : St} {tk k : Nat} {c0 : Int} {F : At} {ps : List Frm} {l r : T} {d : Dat} (hs : Ho σ (at_ (top ps) (.node l k d r) ++ (atP tk c0 (some k) ps ++ F))) (ll : limOk l) (lr : limOk r) (pl : PLim (some (d.limit + d.offset)) ps) {Q : V → St → Prop}
    (q : ∀ σ' z ps', limOk (.node l k (d.setL z) r) → PSame ps ps' → PLim (some (z + d.offset)) ps' → Ho σ' (at_ (top ps') (.node l k (d.setL z) r) ++ (atP tk c0 (some k) ps' ++ F)) → Q .none σ') : wG g_renew_limits [.ref k] σ Q := by
  unfold g_renew_limits s_renew_limits
  refine wG_fun rfl ?_
  refine wS_seq ?_
  refine rl_loop (tk := tk) (c0 := c0) (⟨true, k, d, r⟩ :: ps) l.root (lv l) (at_ (some k) l ++ F) σ _ (hs.perm ?_) (son_of (p := some k) fun z hz => by wtm_at "mem") ⟨lr, pl⟩ _ ?_
  · simp only [at_, atP, frc, if_true, List.cons_append, List.append_assoc]
    wtm_at "pm"
  intro σ' fl ρ' ps' e h1 sm pl'
  cases ps' with
  | nil => cases sm
  | cons g ps' =>
    obtain ⟨⟨z, rfl⟩, sm⟩ := sm
    have h2 : Ho σ' (at_ (top ps') (.node l k (d.setL z) r) ++ (atP tk c0 (some k) ps' ++ F)) := h1.perm (by
      simp only [at_, atP, frc, if_true, List.cons_append, List.append_assoc]
      wtm_at "pm")
    have := q σ' z ps' ⟨pl'.1, ll, lr⟩ sm pl'.2.2 h2
    rcases e with rfl | rfl
    · wtm_at "ws"
      exact this
    · exact this
/-- a place, when a stretch is taken away -/
noncomputable def clo (a n x : Int) : Int := if x > a then (if x - n > a then x - n else a) else x
noncomputable def cgI (a n : Int) (i : Item) : Item := { i with b := clo a n i.b, e := clo a n i.e }
structure Col (t t' : T) : Prop where
  root : t'.root = t.root
  rb : ∀ n, RB t n → RB t' n
  red : isRed t' = isRed t
theorem Col.refl (t : T) : Col t t := ⟨rfl, fun _ => id, rfl⟩
theorem Col.trans {a b c : T} (h : Col a b) (g : Col b c) : Col a c := ⟨g.root.trans h.root, fun n x => g.rb n (h.rb n x), g.red.trans h.red⟩
theorem Col.push (o : Int) (t : T) : Col t (push o t) := ⟨push_root o t, fun _ h => RB_push.mpr h, isRed_push⟩
theorem Col.kids {l r l' r' : T} {k : Nat} {d d' : Dat} (h : Col l l') (g : Col r r') (e : d'.red = d.red) : Col (.node l k d r) (.node l' k d' r') := by
  refine ⟨rfl, fun n x => ?_, e⟩
  simp only [RB] at x ⊢
  rw [e]
  split
  · rename_i e
    rw [if_pos e] at x
    exact ⟨h.red.trans x.1, g.red.trans x.2.1, h.rb n x.2.2.1, g.rb n x.2.2.2⟩
  · rename_i e
    rw [if_neg e] at x
    obtain ⟨m, a, b, c⟩ := x
    exact ⟨m, a, h.rb m b, g.rb m c⟩
noncomputable def BE (L : List Item) : Prop := ∀ i ∈ L, i.b ≤ i.e
theorem upd_rule' {σ : St} {A A' : At} {k : Nat} {mo mo' : MO} {fl : Fld} {v : V} {P : St → Prop} (hs : Ho σ A) (hr : RepA k mo mo' A A') (e : setF mo fl v = some mo') (q : ∀ σ2, Ho σ2 A' → P σ2) :
    ∃ k', V.ref k = .ref k' ∧ ∃ A mo mo' A', Ho σ A ∧ RepA k' mo mo' A A' ∧ setF mo fl v = some mo' ∧ ∀ σ2, Ho σ2 A' → P σ2 := ⟨k, rfl, A, mo, mo', A', hs, hr, e, q⟩

noncomputable def cg_tail : DS :=
  (dsSeq (dsExpr (dApp (dVar 3) (dAttr .left (dVar 4))))
  (dsSeq (dsIf (dCm (cInt .gt) (dAttr .begin_ (dVar 4)) (dVar 1))
  (dsSeq (dsAssign (daAttr (dVar 4) .begin_) (dCall gMax (dCons (dVar 1) (dCons (dBin .sub (dAttr .begin_ (dVar 4)) (dVar 2)) dNil))))
  dsNil)
  dsNil)
  (dsSeq (dsIf (dCm (cInt .gt) (dAttr .end_ (dVar 4)) (dVar 1))
  (dsSeq (dsAssign (daAttr (dVar 4) .end_) (dCall gMax (dCons (dVar 1) (dCons (dBin .sub (dAttr .end_ (dVar 4)) (dVar 2)) dNil))))
  dsNil)
  dsNil)
  (dsSeq (dsExpr (dCall g_renew_limits (dCons (dVar 4) dNil)))
  dsNil))))
theorem cg_tail_sp {tk wk k : Nat} {c0 a n : Int} {ps : List Frm} {L R : T} {d : Dat} {W1 : List V} {F : At} {σ : St} {v0 : Option V} (hs : Ho σ (at_ (top ps) (.node L k d R) ++ (atP tk c0 (some k) ps ++ ((wk, MO.list W1) :: F)))) (hW : W1.length + 1 < 2 ^ 20) (ll : limOk L) (lr : limOk R) (pl : PLim (some (d.limit + d.offset)) ps) {QS : Fl → Rho → St → Prop}
    (q : ∀ σ' z ps', limOk (.node L k (((d.setB (clo a n d.begin_)).setE (clo a n d.end_)).setL z) R) → PSame ps ps' → PLim (some (z + d.offset)) ps' → Ho σ' (at_ (top ps') (.node L k (((d.setB (clo a n d.begin_)).setE (clo a n d.end_)).setL z) R) ++ (atP tk c0 (some k) ps' ++ ((wk, MO.list (W1 ++ [V.opt L.root])) :: F))) → QS .next [v0, some (.int a), some (.int n), some (.ref wk), some (.ref k)] σ') :
    wS cg_tail [v0, some (.int a), some (.int n), some (.ref wk), some (.ref k)] σ QS := by
  unfold cg_tail
  have h1 := hs
  simp only [at_, List.cons_append, List.append_assoc] at h1
  wtm_at "sk"
  refine wS_seq ?_
  refine wS_expr ?_
  refine sE_app ?_
  wtm_at "wz"
  refine lst_rule h1 (by wtm_at "mem") ?_
  wtm_at "wz"
  refine app_rule h1 (by wtm_at "mem") hW (by wtm_at "repa") ?_
  intro σ1 h2
  wtm_at "wz"
  clear h1 hs
  wtm_at "sk"
  refine wS_seq ?_
  refine (?_ : wS _ _ _ (fun fl ρ σ' => fl = .next ∧ ρ = [v0, some (.int a), some (.int n), some (.ref wk), some (.ref k)] ∧ Ho σ' ((k, MO.node (rc (top ps) L.root (d.setB (clo a n d.begin_)) R.root)) :: (at_ (some k) L ++ (at_ (some k) R ++ (atP tk c0 (some k) ps ++ ((wk, MO.list (W1 ++ [V.opt L.root])) :: F))))))).mono ?_
  · refine wS_if ?_
    refine wE_cm ?_
    wtm_at "wz"
    by_cases hb : d.begin_ > a
    · refine br_t (by simp [Cop.ev, hb]) ?_
      wtm_at "ws"
      refine gmax_sp ?_
      wtm_at "ws"
      have h3 := ‹Ho _ _›
      unfold clo
      rw [if_pos hb]
      exact h3
    · refine br_f (by simp [Cop.ev]; lia) ?_
      wtm_at "wz"
      unfold clo
      rw [if_neg hb]
      exact h2
  rintro fl ρ σ2 ⟨rfl, rfl, h3⟩
  wtm_at "wz"
  clear h2
  wtm_at "sk"
  refine wS_seq ?_
  refine (?_ : wS _ _ _ (fun fl ρ σ' => fl = .next ∧ ρ = [v0, some (.int a), some (.int n), some (.ref wk), some (.ref k)] ∧ Ho σ' ((k, MO.node (rc (top ps) L.root ((d.setB (clo a n d.begin_)).setE (clo a n d.end_)) R.root)) :: (at_ (some k) L ++ (at_ (some k) R ++ (atP tk c0 (some k) ps ++ ((wk, MO.list (W1 ++ [V.opt L.root])) :: F))))))).mono ?_
  · generalize hd1 : d.setB (clo a n d.begin_) = d1 at h3
    have he1 : d.end_ = d1.end_ := by subst hd1; rfl
    rw [he1]
    wtm_at "sk"
    refine wS_if ?_
    refine wE_cm ?_
    wtm_at "wz"
    by_cases hb : d1.end_ > a
    · refine br_t (by simp [Cop.ev, hb]) ?_
      wtm_at "ws"
      refine gmax_sp ?_
      wtm_at "ws"
      have h4 := ‹Ho _ _›
      unfold clo
      rw [if_pos hb]
      exact h4
    · refine br_f (by simp [Cop.ev]; lia) ?_
      wtm_at "wz"
      unfold clo
      rw [if_neg hb]
      exact h3
  rintro fl ρ σ3 ⟨rfl, rfl, h4⟩
  wtm_at "wz"
  clear h3
  wtm_at "sk"
  refine wS_seq ?_
  wtm_at "wz"
  refine renew_limits_sp (tk := tk) (c0 := c0) (d := (d.setB (clo a n d.begin_)).setE (clo a n d.end_)) (l := L) (r := R) (ps := ps) (F := (wk, MO.list (W1 ++ [V.opt L.root])) :: F) (h4.perm ?_) ll lr pl ?_
  · simp only [at_, List.cons_append, List.append_assoc]
    wtm_at "pm"
  intro σ4 z ps' l1 sm pl' h5
  wtm_at "wz"
  exact q σ4 z ps' l1 sm pl' h5
theorem clo_low {a n x : Int} (h : x ≤ a) : clo a n x = x := by unfold clo; rw [if_neg (by lia)]
theorem clo_high {a n x : Int} (hn : 0 < n) (h : a + n < x) : clo a n x = x - n := by unfold clo; rw [if_pos (by lia), if_pos (by lia)]
theorem map_id_of {f : Item → Item} : ∀ {L : List Item}, (∀ i ∈ L, f i = i) → L.map f = L
  | [], _ => rfl
  | i :: L, h => by rw [List.map_cons, h i (.head _), map_id_of fun j hj => h j (.tail _ hj)]
/-- all of a tree moved by its offset -/
noncomputable def mvI (n : Int) (i : Item) : Item := { i with b := i.b + n, e := i.e + n }
theorem eff_mv (n : Int) : ∀ (t : T) (o : Int), eff (o + n) t = (eff o t).map (mvI n)
  | .nil, o => rfl
  | .node l k d r, o => by
    simp only [eff, List.map_append, List.map_cons]
    rw [show o + n + d.offset = (o + d.offset) + n by lia, eff_mv n l, eff_mv n r]
    simp [itm, mvI, Int.add_assoc]
theorem BE.hd {o : Int} {l r : T} {k : Nat} {d : Dat} (h : BE (eff o (.node l k d r))) : BE (eff (d.offset + o) l) ∧ BE (eff (d.offset + o) r) ∧ (hdn { d with offset := d.offset + o }).begin_ ≤ (hdn { d with offset := d.offset + o }).end_ := by
  rw [eff_hd] at h
  exact ⟨fun i hi => h i (List.mem_append_left _ hi), fun i hi => h i (List.mem_append_right _ (.tail _ hi)), h (item k _) (List.mem_append_right _ (.head _))⟩
theorem lv_push_push (a b : Int) (t : T) : lv (push a (push b t)) = lv (push (b + a) t) := by rw [push_push]

theorem cg_loop {tk wk : Nat} {c0 a n : Int} {v0 : Option V} (hn : 0 < n) : ∀ (t : T) (o : Int) (ps : List Frm) (W : List V) (F : At) (σ : St) (v4 : Option V) (QS : Fl → Rho → St → Prop), Ho σ (at_ (top ps) (push o t) ++ (atP tk c0 t.root ps ++ ((wk, MO.list (W ++ [V.opt t.root])) :: F))) → W.length + 2 * size t < 1000 → limOk t → PLim (lv (push o t)) ps → Srt (eff o t) → BE (eff o t) →
    (∀ σ' t' ps' v4, Ho σ' (at_ (top ps') t' ++ (atP tk c0 t.root ps' ++ ((wk, MO.list W) :: F))) → Col t t' → limOk t' → PSame ps ps' → PLim (lv t') ps' → eff 0 t' = (eff o t).map (cgI a n) → wS (dsWhile t_close_gap_1 b_close_gap_1) [v0, some (.int a), some (.int n), some (.ref wk), v4] σ' QS) →
    wS (dsWhile t_close_gap_1 b_close_gap_1) [v0, some (.int a), some (.int n), some (.ref wk), v4] σ QS := by
  intro t
  induction t with
  | nil =>
    intro o ps W F σ v4 QS hs hW lim pl S be q
    have h0 : Ho σ (atP tk c0 Option.none ps ++ ((wk, MO.list (W ++ [V.none])) :: F)) := hs
    wtm_at "sk"
    refine wS_while ?_
    refine wE_cm ?_
    wtm_at "wz"
    refine len_sp h0 (by wtm_at "mem") ?_
    wtm_at "wz"
    refine br_t (by simp [Cop.ev]) ?_
    refine wS_seq ?_
    refine wS_assign ?_
    refine sE_pop ?_
    wtm_at "wz"
    refine pop_rule h0 (by wtm_at "mem") (by wtm_at "repa") ?_
    intro σ1 h1
    wtm_at "wz"
    refine wS_seq ?_
    refine wS_if ?_
    refine wE_cm ?_
    wtm_at "wz"
    exact q _ .nil ps _ h1 (Col.refl _) trivial (PSame.refl _) pl rfl
  | node l k d r ihl ihr =>
    intro o ps W F σ v4 QS hs hW lim pl S be q
    simp only [size] at hW
    obtain ⟨S1, S2, S3, S4⟩ := S.hd
    obtain ⟨be1, be2, be3⟩ := be.hd
    have h0 : Ho σ (at_ (top ps) (push o (.node l k d r)) ++ (atP tk c0 (some k) ps ++ ((wk, MO.list (W ++ [V.ref k])) :: F))) := hs
    wtm_at "sk"
    refine wS_while ?_
    refine wE_cm ?_
    wtm_at "wz"
    refine len_sp h0 (by wtm_at "mem") ?_
    wtm_at "wz"
    refine br_t (by simp [Cop.ev]) ?_
    refine wS_seq ?_
    refine wS_assign ?_
    refine sE_pop ?_
    wtm_at "wz"
    refine pop_rule h0 (by wtm_at "mem") (by wtm_at "repa") ?_
    intro σ1 h1
    wtm_at "wz"
    refine wS_seq ?_
    refine wS_if ?_
    refine wE_cm ?_
    wtm_at "wz"
    refine wS_seq ?_
    wtm_at "wz"
    refine hand_down_sp h1 ?_
    intro σ2 h2
    simp only [] at h2
    have hlim : (hdn { d with offset := d.offset + o }).limit = d.limit + (d.offset + o) := rfl
    have hoff : (hdn { d with offset := d.offset + o }).offset = 0 := rfl
    have hred : (hdn { d with offset := d.offset + o }).red = d.red := rfl
    have bound := lim_bound (.node l k d r) o lim
    have lim2 : limOk (.node (push (d.offset + o) l) k (hdn { d with offset := d.offset + o }) (push (d.offset + o) r)) := hdn_lim (d := { d with offset := d.offset + o }) lim
    have pl2 : PLim (some ((hdn { d with offset := d.offset + o }).limit + (hdn { d with offset := d.offset + o }).offset)) ps := by
      have e : (hdn { d with offset := d.offset + o }).limit + (hdn { d with offset := d.offset + o }).offset = d.limit + (d.offset + o) := by rw [hlim, hoff]; lia
      rw [e]
      exact pl
    rw [eff_hd] at q bound
    generalize hd' : hdn { d with offset := d.offset + o } = d' at *
    have h3 := h2
    simp only [at_, List.cons_append, List.append_assoc, push_root] at h3
    wtm_at "wz"
    refine wS_seq ?_
    refine wS_if ?_
    refine wE_cm ?_
    wtm_at "wz"
    by_cases hl : d'.limit > a
    · refine br_t (by simp [Cop.ev, hl]) ?_
      wtm_at "sk"
      refine wS_seq ?_
      have full : ∀ σ3, Ho σ3 (at_ (top ps) (.node (push (d.offset + o) l) k d' (push (d.offset + o) r)) ++ (atP tk c0 (some k) ps ++ ((wk, MO.list (W ++ [V.opt r.root])) :: F))) →
          wS cg_tail [v0, some (.int a), some (.int n), some (.ref wk), some (.ref k)] σ3 (fun fl ρ2 σ2 => fl = .next ∧ wS (dsWhile t_close_gap_1 b_close_gap_1) ρ2 σ2 QS) := by
        intro σ3 h3
        refine cg_tail_sp h3 (by simp; lia) (limOk_push.mpr lim.2.1) (limOk_push.mpr lim.2.2) pl2 ?_
        intro σ4 z ps4 l4 sm4 pl4 h4
        refine ⟨rfl, ?_⟩
        generalize hd3 : ((d'.setB (clo a n d'.begin_)).setE (clo a n d'.end_)).setL z = d3 at l4 h4
        have f3 : d3.limit = z ∧ d3.offset = 0 ∧ d3.red = d.red ∧ item k d3 = cgI a n (item k d') := by subst hd3; exact ⟨rfl, hoff, hred, rfl⟩
        clear hd3
        have h5 := h4.perm (down_permF tk c0 ⟨true, k, d3, push (d.offset + o) r⟩ (push (d.offset + o) l) ps4 _)
        simp only [push_root] at h5
        refine ihl (d.offset + o) (⟨true, k, d3, push (d.offset + o) r⟩ :: ps4) (W ++ [V.opt r.root]) F σ4 _ QS h5 (by simp; lia) lim.2.1 ⟨l4.1, l4.2.2, ?_⟩ S1 be1 ?_
        · rw [f3.1, f3.2.1, ← hoff]; exact pl4
        intro σ5 l' ps5 v5 h6 C1 lim5 sm5 pl5 e5
        cases ps5 with
        | nil => cases sm5
        | cons g ps5 =>
        obtain ⟨⟨z5, rfl⟩, sm5⟩ := sm5
        simp only [] at h6 pl5
        generalize hd4 : d3.setL z5 = d4 at h6 pl5
        have f4 : d4.offset = 0 ∧ d4.red = d.red ∧ item k d4 = cgI a n (item k d') := by subst hd4; exact ⟨f3.2.1, f3.2.2.1, f3.2.2.2⟩
        clear hd4
        rw [← C1.root] at h6
        have h7 := (h6.perm (down_permF tk c0 ⟨true, k, d4, push (d.offset + o) r⟩ l' ps5 _).symm).perm (down_permF tk c0 ⟨false, k, d4, l'⟩ (push (d.offset + o) r) ps5 _)
        simp only [push_root] at h7
        refine ihr (d.offset + o) (⟨false, k, d4, l'⟩ :: ps5) W F σ5 _ QS h7 (by lia) lim.2.2 ⟨pl5.1, lim5, pl5.2.2⟩ S2 be2 ?_
        intro σ6 r' ps6 v6 h8 C2 lim6 sm6 pl6 e6
        cases ps6 with
        | nil => cases sm6
        | cons g ps6 =>
        obtain ⟨⟨z6, rfl⟩, sm6⟩ := sm6
        simp only [] at h8 pl6
        generalize hd5 : d4.setL z6 = d5 at h8 pl6
        have f5 : d5.offset = 0 ∧ d5.red = d.red ∧ item k d5 = cgI a n (item k d') := by subst hd5; exact f4
        clear hd5
        rw [← C2.root] at h8
        refine q σ6 (.node l' k d5 r') ps6 _ (h8.perm (down_permF tk c0 ⟨false, k, d5, l'⟩ r' ps6 _).symm) (Col.kids C1 C2 f5.2.1) ⟨pl6.1, lim5, lim6⟩ (sm4.trans (sm5.trans sm6)) pl6.2.2 ?_
        rw [eff_node0 f5.1, e5, e6, f5.2.2]
        simp
      have part : d'.begin_ > a + n → ∀ σ3, Ho σ3 (at_ (top ps) (.node (push (d.offset + o) l) k d' (push (-n) (push (d.offset + o) r))) ++ (atP tk c0 (some k) ps ++ ((wk, MO.list W) :: F))) →
          wS cg_tail [v0, some (.int a), some (.int n), some (.ref wk), some (.ref k)] σ3 (fun fl ρ2 σ2 => fl = .next ∧ wS (dsWhile t_close_gap_1 b_close_gap_1) ρ2 σ2 QS) := by
        intro hb σ3 h3
        refine cg_tail_sp h3 (by lia) (limOk_push.mpr lim.2.1) (limOk_push.mpr (limOk_push.mpr lim.2.2)) pl2 ?_
        intro σ4 z ps4 l4 sm4 pl4 h4
        refine ⟨rfl, ?_⟩
        generalize hd3 : ((d'.setB (clo a n d'.begin_)).setE (clo a n d'.end_)).setL z = d3 at l4 h4
        have f3 : d3.limit = z ∧ d3.offset = 0 ∧ d3.red = d.red ∧ item k d3 = cgI a n (item k d') := by subst hd3; exact ⟨rfl, hoff, hred, rfl⟩
        clear hd3
        have h5 := h4.perm (down_permF tk c0 ⟨true, k, d3, push (-n) (push (d.offset + o) r)⟩ (push (d.offset + o) l) ps4 _)
        simp only [push_root] at h5
        refine ihl (d.offset + o) (⟨true, k, d3, push (-n) (push (d.offset + o) r)⟩ :: ps4) W F σ4 _ QS h5 (by lia) lim.2.1 ⟨l4.1, l4.2.2, ?_⟩ S1 be1 ?_
        · rw [f3.1, f3.2.1, ← hoff]; exact pl4
        intro σ5 l' ps5 v5 h6 C1 lim5 sm5 pl5 e5
        cases ps5 with
        | nil => cases sm5
        | cons g ps5 =>
        obtain ⟨⟨z5, rfl⟩, sm5⟩ := sm5
        simp only [] at h6 pl5
        generalize hd4 : d3.setL z5 = d4 at h6 pl5
        have f4 : d4.offset = 0 ∧ d4.red = d.red ∧ item k d4 = cgI a n (item k d') := by subst hd4; exact ⟨f3.2.1, f3.2.2.1, f3.2.2.2⟩
        clear hd4
        rw [← C1.root] at h6
        refine q σ5 (.node l' k d4 (push (-n) (push (d.offset + o) r))) ps5 _ (h6.perm (down_permF tk c0 ⟨true, k, d4, push (-n) (push (d.offset + o) r)⟩ l' ps5 _).symm) (Col.kids C1 ((Col.push _ _).trans (Col.push _ _)) f4.2.1) ⟨pl5.1, lim5, pl5.2.1⟩ (sm4.trans sm5) pl5.2.2 ?_
        rw [eff_node0 f4.1, e5, f4.2.2, eff_push, eff_push, show (0 : Int) + -n + (d.offset + o) = (d.offset + o) + -n by lia, eff_mv (-n) r (d.offset + o), List.map_append, List.map_cons]
        congr 2
        refine List.map_congr_left fun i hi => ?_
        have b1 := S4 i hi
        have b2 := be2 i hi
        unfold cgI mvI
        rw [clo_high hn (by lia), clo_high hn (by lia)]
        rfl
      have wrap : ∀ {QS' : Fl → Rho → St → Prop} {σ3 : St}, wS cg_tail [v0, some (.int a), some (.int n), some (.ref wk), some (.ref k)] σ3 (fun fl ρ2 σ2 => fl = .next ∧ wS (dsWhile t_close_gap_1 b_close_gap_1) ρ2 σ2 QS) → (∀ ρ σ, wS (dsWhile t_close_gap_1 b_close_gap_1) ρ σ QS → QS' .next ρ σ) → wS cg_tail [v0, some (.int a), some (.int n), some (.ref wk), some (.ref k)] σ3 QS' := by
        intro QS' σ3 h h'
        refine h.mono ?_
        rintro fl ρ σ ⟨rfl, h⟩
        exact h' ρ σ h
      -- the way past the right son
      have pushed : ∀ {QS' : Fl → Rho → St → Prop}, (∀ σ3, Ho σ3 (at_ (top ps) (.node (push (d.offset + o) l) k d' (push (d.offset + o) r)) ++ (atP tk c0 (some k) ps ++ ((wk, MO.list (W ++ [V.opt r.root])) :: F))) → QS' .next [v0, some (.int a), some (.int n), some (.ref wk), some (.ref k)] σ3) →
          wS (dsSeq (dsExpr (dApp (dVar 3) (dAttr .right (dVar 4)))) dsNil) [v0, some (.int a), some (.int n), some (.ref wk), some (.ref k)] σ2 QS' := by
        intro QS' h
        wtm_at "sk"
        refine wS_seq ?_
        refine wS_expr ?_
        refine sE_app ?_
        wtm_at "wz"
        refine lst_rule h3 (by wtm_at "mem") ?_
        wtm_at "wz"
        refine app_rule h3 (by wtm_at "mem") (by lia) (by wtm_at "repa") ?_
        intro σ3 h4
        wtm_at "wz"
        refine h σ3 (h4.perm ?_)
        simp only [at_, List.cons_append, List.append_assoc, push_root]
        wtm_at "pm"
      refine wS_if ?_
      refine wE_and ?_
      clear hs h0 h1 h3 lim2 bound S4 S3 S2 S1 S be1 be2 be3 be ihl ihr q pl2 pl lim
      cases r with
      | nil =>
        wtm_at "wz"
        refine pushed fun σ3 h4 => ?_
        exact wrap (full σ3 h4) fun ρ σ h => by wtm_at "ws"; exact h
      | node rl kk dr rr =>
        refine wE_cm ?_
        wtm_at "wz"
        by_cases hb : d'.begin_ > a + n
        · refine br_t (by simp [Cop.ev, hb]) ?_
          have h4 := h2
          simp only [at_, List.cons_append, List.append_assoc, push_root, push, T.root] at h4
          wtm_at "wst"
          refine wrap (part hb _ (‹Ho _ _›.perm ?_)) fun ρ σ h => by wtm_at "ws"; exact h
          simp only [at_, List.cons_append, List.append_assoc, push_root, push, T.root]
          wtm_at "pm"
        · refine br_f (by simp [Cop.ev]; lia) ?_
          refine pushed fun σ3 h4 => ?_
          exact wrap (full σ3 h4) fun ρ σ h => by wtm_at "ws"; exact h
    · refine br_f (by simp [Cop.ev]; lia) ?_
      wtm_at "wz"
      refine q _ (.node (push (d.offset + o) l) k d' (push (d.offset + o) r)) ps _ h2 (Col.kids (Col.push _ _) (Col.push _ _) hred) lim2 (PSame.refl _) pl2 ?_
      rw [eff_node0 hoff, eff_push, eff_push, Int.zero_add]
      refine (map_id_of fun i hi => ?_).symm
      obtain ⟨x, e1, e2⟩ := bound i hi
      obtain rfl : d.limit + d.offset = x := by simpa [lv] using e1
      have hbe : i.b ≤ i.e := be i (by rw [eff_hd, hd']; exact hi)
      unfold cgI
      rw [clo_low (by lia), clo_low (by lia)]
noncomputable def gro (a : Int) (bef : Bool) (e : Int) (rear : Bool) : Bool := decide (e > a) || (decide (e = a) && (bef || rear))
noncomputable def shB (a n x : Int) : Int := if x > a then x + n else x
noncomputable def shE (a n : Int) (bef : Bool) (x : Int) (rear : Bool) : Int := if gro a bef x rear = true then x + n else x
noncomputable def shI (a n : Int) (bef : Bool) (i : Item) : Item := { i with b := shB a n i.b, e := shE a n bef i.e i.rear }
theorem grows_sp {σ : St} {A : At} {k : Nat} {p l r : Option Nat} {d : Dat} {a : Int} {bef : Bool} (hs : Ho σ A) (hm : (k, MO.node (rc p l d r)) ∈ A) {Q : V → St → Prop} (q : Q (.bool (gro a bef d.end_ d.rear)) σ) : wG g_grows [.ref k, .int a, .bool bef] σ Q := by
  unfold g_grows s_grows
  refine wG_fun rfl ?_
  unfold gro at q
  wtm_at "sk"
  refine wS_seq ?_
  refine wS_ret ?_
  refine wE_or ?_
  refine wE_cm ?_
  wtm_at "wz"
  by_cases h1 : d.end_ > a
  · refine br_t' (by simp [Cop.ev, h1]) ?_
    rw [decide_eq_true h1, Bool.true_or] at q
    exact q
  · rw [decide_eq_false h1, Bool.false_or] at q
    refine br_f' (by simp [Cop.ev]; lia) ?_
    refine wE_and ?_
    refine wE_cm ?_
    wtm_at "wz"
    by_cases h2 : d.end_ = a
    · rw [decide_eq_true h2, Bool.true_and] at q
      refine br_t (by simp [Cop.ev, h2]) ?_
      cases bef with
      | true => wtm_at "wz"; exact q
      | false => wtm_at "wz"; exact q
    · rw [decide_eq_false h2, Bool.false_and] at q
      refine br_f (by simp [Cop.ev, h2]) ?_
      wtm_at "wz"
      exact q
noncomputable def sh_tail : DS :=
  (dsSeq (dsExpr (dApp (dVar 4) (dAttr .left (dVar 5))))
  (dsSeq (dsIf (dCm (cInt .gt) (dAttr .begin_ (dVar 5)) (dVar 1))
  (dsSeq (dsAssign (daAttr (dVar 5) .begin_) (dBin .add (dAttr .begin_ (dVar 5)) (dVar 2)))
  dsNil)
  dsNil)
  (dsSeq (dsIf (dCall g_grows (dCons (dVar 5) (dCons (dVar 1) (dCons (dVar 3) dNil))))
  (dsSeq (dsAssign (daAttr (dVar 5) .end_) (dBin .add (dAttr .end_ (dVar 5)) (dVar 2)))
  dsNil)
  dsNil)
  (dsSeq (dsExpr (dCall g_renew_limits (dCons (dVar 5) dNil)))
  dsNil))))
theorem sh_tail_sp {tk wk k : Nat} {c0 a n : Int} {bef : Bool} {ps : List Frm} {L R : T} {d : Dat} {W1 : List V} {F : At} {σ : St} {v0 : Option V} (hs : Ho σ (at_ (top ps) (.node L k d R) ++ (atP tk c0 (some k) ps ++ ((wk, MO.list W1) :: F)))) (hW : W1.length + 1 < 2 ^ 20) (ll : limOk L) (lr : limOk R) (pl : PLim (some (d.limit + d.offset)) ps) {QS : Fl → Rho → St → Prop}
    (q : ∀ σ' z ps', limOk (.node L k (((d.setB (shB a n d.begin_)).setE (shE a n bef d.end_ d.rear)).setL z) R) → PSame ps ps' → PLim (some (z + d.offset)) ps' → Ho σ' (at_ (top ps') (.node L k (((d.setB (shB a n d.begin_)).setE (shE a n bef d.end_ d.rear)).setL z) R) ++ (atP tk c0 (some k) ps' ++ ((wk, MO.list (W1 ++ [V.opt L.root])) :: F))) → QS .next [v0, some (.int a), some (.int n), some (.bool bef), some (.ref wk), some (.ref k)] σ') :
    wS sh_tail [v0, some (.int a), some (.int n), some (.bool bef), some (.ref wk), some (.ref k)] σ QS := by
  unfold sh_tail
  have h1 := hs
  simp only [at_, List.cons_append, List.append_assoc] at h1
  wtm_at "sk"
  refine wS_seq ?_
  refine wS_expr ?_
  refine sE_app ?_
  wtm_at "wz"
  refine lst_rule h1 (by wtm_at "mem") ?_
  wtm_at "wz"
  refine app_rule h1 (by wtm_at "mem") hW (by wtm_at "repa") ?_
  intro σ1 h2
  wtm_at "wz"
  clear h1 hs
  wtm_at "sk"
  refine wS_seq ?_
  refine (?_ : wS _ _ _ (fun fl ρ σ' => fl = .next ∧ ρ = [v0, some (.int a), some (.int n), some (.bool bef), some (.ref wk), some (.ref k)] ∧ Ho σ' ((k, MO.node (rc (top ps) L.root (d.setB (shB a n d.begin_)) R.root)) :: (at_ (some k) L ++ (at_ (some k) R ++ (atP tk c0 (some k) ps ++ ((wk, MO.list (W1 ++ [V.opt L.root])) :: F))))))).mono ?_
  · refine wS_if ?_
    refine wE_cm ?_
    wtm_at "wz"
    by_cases hb : d.begin_ > a
    · refine br_t (by simp [Cop.ev, hb]) ?_
      wtm_at "ws"
      have h3 := ‹Ho _ _›
      unfold shB
      rw [if_pos hb]
      exact h3
    · refine br_f (by simp [Cop.ev]; lia) ?_
      wtm_at "wz"
      unfold shB
      rw [if_neg hb]
      exact h2
  rintro fl ρ σ2 ⟨rfl, rfl, h3⟩
  wtm_at "wz"
  clear h2
  wtm_at "sk"
  refine wS_seq ?_
  refine (?_ : wS _ _ _ (fun fl ρ σ' => fl = .next ∧ ρ = [v0, some (.int a), some (.int n), some (.bool bef), some (.ref wk), some (.ref k)] ∧ Ho σ' ((k, MO.node (rc (top ps) L.root ((d.setB (shB a n d.begin_)).setE (shE a n bef d.end_ d.rear)) R.root)) :: (at_ (some k) L ++ (at_ (some k) R ++ (atP tk c0 (some k) ps ++ ((wk, MO.list (W1 ++ [V.opt L.root])) :: F))))))).mono ?_
  · generalize hd1 : d.setB (shB a n d.begin_) = d1 at h3
    have he1 : d.end_ = d1.end_ ∧ d.rear = d1.rear := by subst hd1; exact ⟨rfl, rfl⟩
    rw [he1.1, he1.2]
    wtm_at "sk"
    refine wS_if ?_
    wtm_at "wz"
    refine grows_sp h3 (by wtm_at "mem") ?_
    wtm_at "wz"
    unfold shE
    cases hg : gro a bef d1.end_ d1.rear with
    | true =>
      wtm_at "ws"
      have h4 := ‹Ho _ _›
      rw [if_pos rfl]
      exact h4
    | false =>
      wtm_at "wz"
      rw [if_neg (by simp)]
      exact h3
  rintro fl ρ σ3 ⟨rfl, rfl, h4⟩
  wtm_at "wz"
  clear h3
  wtm_at "sk"
  refine wS_seq ?_
  wtm_at "wz"
  refine renew_limits_sp (tk := tk) (c0 := c0) (d := (d.setB (shB a n d.begin_)).setE (shE a n bef d.end_ d.rear)) (l := L) (r := R) (ps := ps) (F := (wk, MO.list (W1 ++ [V.opt L.root])) :: F) (h4.perm ?_) ll lr pl ?_
  · simp only [at_, List.cons_append, List.append_assoc]
    wtm_at "pm"
  intro σ4 z ps' l1 sm pl' h5
  wtm_at "wz"
  exact q σ4 z ps' l1 sm pl' h5
theorem shI_low {a n : Int} {bef : Bool} {i : Item} (h : i.e < a) (h' : i.b ≤ i.e) : shI a n bef i = i := by
  unfold shI shB shE gro
  rw [if_neg (by lia), if_neg (by simp; lia)]
theorem shI_high {a n : Int} {bef : Bool} {i : Item} (h : a < i.b) (h' : i.b ≤ i.e) : shI a n bef i = mvI n i := by
  unfold shI shB shE gro mvI
  rw [if_pos (by lia), if_pos (by simp; lia)]
theorem sh_loop {tk wk : Nat} {c0 a n : Int} {bef : Bool} {v0 : Option V} : ∀ (t : T) (o : Int) (ps : List Frm) (W : List V) (F : At) (σ : St) (v4 : Option V) (QS : Fl → Rho → St → Prop), Ho σ (at_ (top ps) (push o t) ++ (atP tk c0 t.root ps ++ ((wk, MO.list (W ++ [V.opt t.root])) :: F))) → W.length + 2 * size t < 1000 → limOk t → PLim (lv (push o t)) ps → Srt (eff o t) → BE (eff o t) →
    (∀ σ' t' ps' v4, Ho σ' (at_ (top ps') t' ++ (atP tk c0 t.root ps' ++ ((wk, MO.list W) :: F))) → Col t t' → limOk t' → PSame ps ps' → PLim (lv t') ps' → eff 0 t' = (eff o t).map (shI a n bef) → wS (dsWhile t_shift_nodes_1 b_shift_nodes_1) [v0, some (.int a), some (.int n), some (.bool bef), some (.ref wk), v4] σ' QS) →
    wS (dsWhile t_shift_nodes_1 b_shift_nodes_1) [v0, some (.int a), some (.int n), some (.bool bef), some (.ref wk), v4] σ QS := by
  intro t
  induction t with
  | nil =>
    intro o ps W F σ v4 QS hs hW lim pl S be q
    have h0 : Ho σ (atP tk c0 Option.none ps ++ ((wk, MO.list (W ++ [V.none])) :: F)) := hs
    wtm_at "sk"
    refine wS_while ?_
    refine wE_cm ?_
    wtm_at "wz"
    refine len_sp h0 (by wtm_at "mem") ?_
    wtm_at "wz"
    refine br_t (by simp [Cop.ev]) ?_
    refine wS_seq ?_
    refine wS_assign ?_
    refine sE_pop ?_
    wtm_at "wz"
    refine pop_rule h0 (by wtm_at "mem") (by wtm_at "repa") ?_
    intro σ1 h1
    wtm_at "wz"
    refine wS_seq ?_
    refine wS_if ?_
    refine wE_cm ?_
    wtm_at "wz"
    exact q _ .nil ps _ h1 (Col.refl _) trivial (PSame.refl _) pl rfl
  | node l k d r ihl ihr =>
    intro o ps W F σ v4 QS hs hW lim pl S be q
    simp only [size] at hW
    obtain ⟨S1, S2, S3, S4⟩ := S.hd
    obtain ⟨be1, be2, be3⟩ := be.hd
    have h0 : Ho σ (at_ (top ps) (push o (.node l k d r)) ++ (atP tk c0 (some k) ps ++ ((wk, MO.list (W ++ [V.ref k])) :: F))) := hs
    wtm_at "sk"
    refine wS_while ?_
    refine wE_cm ?_
    wtm_at "wz"
    refine len_sp h0 (by wtm_at "mem") ?_
    wtm_at "wz"
    refine br_t (by simp [Cop.ev]) ?_
    refine wS_seq ?_
    refine wS_assign ?_
    refine sE_pop ?_
    wtm_at "wz"
    refine pop_rule h0 (by wtm_at "mem") (by wtm_at "repa") ?_
    intro σ1 h1
    wtm_at "wz"
    refine wS_seq ?_
    refine wS_if ?_
    refine wE_cm ?_
    wtm_at "wz"
    refine wS_seq ?_
    wtm_at "wz"
    refine hand_down_sp h1 ?_
    intro σ2 h2
    simp only [] at h2
    have hlim : (hdn { d with offset := d.offset + o }).limit = d.limit + (d.offset + o) := rfl
    have hoff : (hdn { d with offset := d.offset + o }).offset = 0 := rfl
    have hred : (hdn { d with offset := d.offset + o }).red = d.red := rfl
    have bound := lim_bound (.node l k d r) o lim
    have lim2 : limOk (.node (push (d.offset + o) l) k (hdn { d with offset := d.offset + o }) (push (d.offset + o) r)) := hdn_lim (d := { d with offset := d.offset + o }) lim
    have pl2 : PLim (some ((hdn { d with offset := d.offset + o }).limit + (hdn { d with offset := d.offset + o }).offset)) ps := by
      have e : (hdn { d with offset := d.offset + o }).limit + (hdn { d with offset := d.offset + o }).offset = d.limit + (d.offset + o) := by rw [hlim, hoff]; lia
      rw [e]
      exact pl
    rw [eff_hd] at q bound
    generalize hd' : hdn { d with offset := d.offset + o } = d' at *
    have h3 := h2
    simp only [at_, List.cons_append, List.append_assoc, push_root] at h3
    wtm_at "wz"
    refine wS_seq ?_
    refine wS_if ?_
    refine wE_cm ?_
    wtm_at "wz"
    by_cases hl : d'.limit ≥ a
    · refine br_t (by simp [Cop.ev, hl]) ?_
      wtm_at "sk"
      refine wS_seq ?_
      have full : ∀ σ3, Ho σ3 (at_ (top ps) (.node (push (d.offset + o) l) k d' (push (d.offset + o) r)) ++ (atP tk c0 (some k) ps ++ ((wk, MO.list (W ++ [V.opt r.root])) :: F))) →
          wS sh_tail [v0, some (.int a), some (.int n), some (.bool bef), some (.ref wk), some (.ref k)] σ3 (fun fl ρ2 σ2 => fl = .next ∧ wS (dsWhile t_shift_nodes_1 b_shift_nodes_1) ρ2 σ2 QS) := by
        intro σ3 h3
        refine sh_tail_sp h3 (by simp; lia) (limOk_push.mpr lim.2.1) (limOk_push.mpr lim.2.2) pl2 ?_
        intro σ4 z ps4 l4 sm4 pl4 h4
        refine ⟨rfl, ?_⟩
        generalize hd3 : ((d'.setB (shB a n d'.begin_)).setE (shE a n bef d'.end_ d'.rear)).setL z = d3 at l4 h4
        have f3 : d3.limit = z ∧ d3.offset = 0 ∧ d3.red = d.red ∧ item k d3 = shI a n bef (item k d') := by subst hd3; exact ⟨rfl, hoff, hred, rfl⟩
        clear hd3
        have h5 := h4.perm (down_permF tk c0 ⟨true, k, d3, push (d.offset + o) r⟩ (push (d.offset + o) l) ps4 _)
        simp only [push_root] at h5
        refine ihl (d.offset + o) (⟨true, k, d3, push (d.offset + o) r⟩ :: ps4) (W ++ [V.opt r.root]) F σ4 _ QS h5 (by simp; lia) lim.2.1 ⟨l4.1, l4.2.2, ?_⟩ S1 be1 ?_
        · rw [f3.1, f3.2.1, ← hoff]; exact pl4
        intro σ5 l' ps5 v5 h6 C1 lim5 sm5 pl5 e5
        cases ps5 with
        | nil => cases sm5
        | cons g ps5 =>
        obtain ⟨⟨z5, rfl⟩, sm5⟩ := sm5
        simp only [] at h6 pl5
        generalize hd4 : d3.setL z5 = d4 at h6 pl5
        have f4 : d4.offset = 0 ∧ d4.red = d.red ∧ item k d4 = shI a n bef (item k d') := by subst hd4; exact ⟨f3.2.1, f3.2.2.1, f3.2.2.2⟩
        clear hd4
        rw [← C1.root] at h6
        have h7 := (h6.perm (down_permF tk c0 ⟨true, k, d4, push (d.offset + o) r⟩ l' ps5 _).symm).perm (down_permF tk c0 ⟨false, k, d4, l'⟩ (push (d.offset + o) r) ps5 _)
        simp only [push_root] at h7
        refine ihr (d.offset + o) (⟨false, k, d4, l'⟩ :: ps5) W F σ5 _ QS h7 (by lia) lim.2.2 ⟨pl5.1, lim5, pl5.2.2⟩ S2 be2 ?_
        intro σ6 r' ps6 v6 h8 C2 lim6 sm6 pl6 e6
        cases ps6 with
        | nil => cases sm6
        | cons g ps6 =>
        obtain ⟨⟨z6, rfl⟩, sm6⟩ := sm6
        simp only [] at h8 pl6
        generalize hd5 : d4.setL z6 = d5 at h8 pl6
        have f5 : d5.offset = 0 ∧ d5.red = d.red ∧ item k d5 = shI a n bef (item k d') := by subst hd5; exact f4
        clear hd5
        rw [← C2.root] at h8
        refine q σ6 (.node l' k d5 r') ps6 _ (h8.perm (down_permF tk c0 ⟨false, k, d5, l'⟩ r' ps6 _).symm) (Col.kids C1 C2 f5.2.1) ⟨pl6.1, lim5, lim6⟩ (sm4.trans (sm5.trans sm6)) pl6.2.2 ?_
        rw [eff_node0 f5.1, e5, e6, f5.2.2]
        simp
      have part : d'.begin_ > a → ∀ σ3, Ho σ3 (at_ (top ps) (.node (push (d.offset + o) l) k d' (push n (push (d.offset + o) r))) ++ (atP tk c0 (some k) ps ++ ((wk, MO.list W) :: F))) →
          wS sh_tail [v0, some (.int a), some (.int n), some (.bool bef), some (.ref wk), some (.ref k)] σ3 (fun fl ρ2 σ2 => fl = .next ∧ wS (dsWhile t_shift_nodes_1 b_shift_nodes_1) ρ2 σ2 QS) := by
        intro hb σ3 h3
        refine sh_tail_sp h3 (by lia) (limOk_push.mpr lim.2.1) (limOk_push.mpr (limOk_push.mpr lim.2.2)) pl2 ?_
        intro σ4 z ps4 l4 sm4 pl4 h4
        refine ⟨rfl, ?_⟩
        generalize hd3 : ((d'.setB (shB a n d'.begin_)).setE (shE a n bef d'.end_ d'.rear)).setL z = d3 at l4 h4
        have f3 : d3.limit = z ∧ d3.offset = 0 ∧ d3.red = d.red ∧ item k d3 = shI a n bef (item k d') := by subst hd3; exact ⟨rfl, hoff, hred, rfl⟩
        clear hd3
        have h5 := h4.perm (down_permF tk c0 ⟨true, k, d3, push n (push (d.offset + o) r)⟩ (push (d.offset + o) l) ps4 _)
        simp only [push_root] at h5
        refine ihl (d.offset + o) (⟨true, k, d3, push n (push (d.offset + o) r)⟩ :: ps4) W F σ4 _ QS h5 (by lia) lim.2.1 ⟨l4.1, l4.2.2, ?_⟩ S1 be1 ?_
        · rw [f3.1, f3.2.1, ← hoff]; exact pl4
        intro σ5 l' ps5 v5 h6 C1 lim5 sm5 pl5 e5
        cases ps5 with
        | nil => cases sm5
        | cons g ps5 =>
        obtain ⟨⟨z5, rfl⟩, sm5⟩ := sm5
        simp only [] at h6 pl5
        generalize hd4 : d3.setL z5 = d4 at h6 pl5
        have f4 : d4.offset = 0 ∧ d4.red = d.red ∧ item k d4 = shI a n bef (item k d') := by subst hd4; exact ⟨f3.2.1, f3.2.2.1, f3.2.2.2⟩
        clear hd4
        rw [← C1.root] at h6
        refine q σ5 (.node l' k d4 (push n (push (d.offset + o) r))) ps5 _ (h6.perm (down_permF tk c0 ⟨true, k, d4, push n (push (d.offset + o) r)⟩ l' ps5 _).symm) (Col.kids C1 ((Col.push _ _).trans (Col.push _ _)) f4.2.1) ⟨pl5.1, lim5, pl5.2.1⟩ (sm4.trans sm5) pl5.2.2 ?_
        rw [eff_node0 f4.1, e5, f4.2.2, eff_push, eff_push, show (0 : Int) + n + (d.offset + o) = (d.offset + o) + n by lia, eff_mv n r (d.offset + o), List.map_append, List.map_cons]
        congr 2
        refine List.map_congr_left fun i hi => ?_
        have b1 := S4 i hi
        have b2 := be2 i hi
        exact (shI_high (by lia) b2).symm
      have wrap : ∀ {QS' : Fl → Rho → St → Prop} {σ3 : St}, wS sh_tail [v0, some (.int a), some (.int n), some (.bool bef), some (.ref wk), some (.ref k)] σ3 (fun fl ρ2 σ2 => fl = .next ∧ wS (dsWhile t_shift_nodes_1 b_shift_nodes_1) ρ2 σ2 QS) → (∀ ρ σ, wS (dsWhile t_shift_nodes_1 b_shift_nodes_1) ρ σ QS → QS' .next ρ σ) → wS sh_tail [v0, some (.int a), some (.int n), some (.bool bef), some (.ref wk), some (.ref k)] σ3 QS' := by
        intro QS' σ3 h h'
        refine h.mono ?_
        rintro fl ρ σ ⟨rfl, h⟩
        exact h' ρ σ h
      -- the way past the right son
      have pushed : ∀ {QS' : Fl → Rho → St → Prop}, (∀ σ3, Ho σ3 (at_ (top ps) (.node (push (d.offset + o) l) k d' (push (d.offset + o) r)) ++ (atP tk c0 (some k) ps ++ ((wk, MO.list (W ++ [V.opt r.root])) :: F))) → QS' .next [v0, some (.int a), some (.int n), some (.bool bef), some (.ref wk), some (.ref k)] σ3) →
          wS (dsSeq (dsExpr (dApp (dVar 4) (dAttr .right (dVar 5)))) dsNil) [v0, some (.int a), some (.int n), some (.bool bef), some (.ref wk), some (.ref k)] σ2 QS' := by
        intro QS' h
        wtm_at "sk"
        refine wS_seq ?_
        refine wS_expr ?_
        refine sE_app ?_
        wtm_at "wz"
        refine lst_rule h3 (by wtm_at "mem") ?_
        wtm_at "wz"
        refine app_rule h3 (by wtm_at "mem") (by lia) (by wtm_at "repa") ?_
        intro σ3 h4
        wtm_at "wz"
        refine h σ3 (h4.perm ?_)
        simp only [at_, List.cons_append, List.append_assoc, push_root]
        wtm_at "pm"
      refine wS_if ?_
      refine wE_and ?_
      clear hs h0 h1 h3 lim2 bound S4 S3 S2 S1 S be1 be2 be3 be ihl ihr q pl2 pl lim
      cases r with
      | nil =>
        wtm_at "wz"
        refine pushed fun σ3 h4 => ?_
        exact wrap (full σ3 h4) fun ρ σ h => by wtm_at "ws"; exact h
      | node rl kk dr rr =>
        refine wE_cm ?_
        wtm_at "wz"
        by_cases hb : d'.begin_ > a
        · refine br_t (by simp [Cop.ev, hb]) ?_
          have h4 := h2
          simp only [at_, List.cons_append, List.append_assoc, push_root, push, T.root] at h4
          wtm_at "wst"
          refine wrap (part hb _ (‹Ho _ _›.perm ?_)) fun ρ σ h => by wtm_at "ws"; exact h
          simp only [at_, List.cons_append, List.append_assoc, push_root, push, T.root]
          wtm_at "pm"
        · refine br_f (by simp [Cop.ev]; lia) ?_
          refine pushed fun σ3 h4 => ?_
          exact wrap (full σ3 h4) fun ρ σ h => by wtm_at "ws"; exact h
    · refine br_f (by simp [Cop.ev]; lia) ?_
      wtm_at "wz"
      refine q _ (.node (push (d.offset + o) l) k d' (push (d.offset + o) r)) ps _ h2 (Col.kids (Col.push _ _) (Col.push _ _) hred) lim2 (PSame.refl _) pl2 ?_
      rw [eff_node0 hoff, eff_push, eff_push, Int.zero_add]
      refine (map_id_of fun i hi => ?_).symm
      obtain ⟨x, e1, e2⟩ := bound i hi
      obtain rfl : d.limit + d.offset = x := by simpa [lv] using e1
      have hbe : i.b ≤ i.e := be i (by rw [eff_hd, hd']; exact hi)
      exact shI_low (by lia) hbe
structure GT (t : T) : Prop where
  lim : limOk t
  rb : ∃ m, RB t m
  black : isRed t = false
  srt : Srt (eff 0 t)
theorem Srt.map {f : Item → Item} (mono : ∀ i j : Item, i.b ≤ j.b → (f i).b ≤ (f j).b) {L : List Item} (h : Srt L) : Srt (L.map f) := by
  unfold Srt at h ⊢
  rw [List.pairwise_map]
  exact h.imp fun {a b} => mono a b
theorem clo_mono {a n x y : Int} (hn : 0 ≤ n) (h : x ≤ y) : clo a n x ≤ clo a n y := by
  unfold clo
  split <;> split <;> (try split) <;> (try split) <;> lia
theorem clo_zero (a x : Int) : clo a 0 x = x := by
  unfold clo
  split <;> (try split) <;> lia
theorem shB_mono {a n x y : Int} (hn : 0 ≤ n) (h : x ≤ y) : shB a n x ≤ shB a n y := by
  unfold shB
  split <;> split <;> lia
theorem close_gap_sp {σ : St} {tk : Nat} {c0 a n : Int} {t : T} {F : At} (hs : Ho σ (at_ Option.none t ++ ((tk, MO.tree ⟨t.root, c0⟩) :: F))) (g : GT t) (be : BE (eff 0 t)) (hz : size t < 400) (hn : 0 ≤ n) {Q : V → St → Prop}
    (q : ∀ σ' t', Ho σ' (at_ Option.none t' ++ ((tk, MO.tree ⟨t'.root, c0⟩) :: F)) → GT t' → eff 0 t' = (eff 0 t).map (cgI a n) → Q .none σ') : wG g_close_gap [.ref tk, .int a, .int n] σ Q := by
  unfold g_close_gap s_close_gap
  refine wG_fun rfl ?_
  refine wS_seq ?_
  refine wS_if ?_
  refine wE_cm ?_
  wtm_at "wz"
  by_cases h0 : n ≤ 0
  · obtain rfl : n = 0 := by lia
    refine br_t (by simp [Cop.ev]) ?_
    wtm_at "ws"
    exact q _ t hs g (map_id_of fun i _ => by unfold cgI; rw [clo_zero, clo_zero]).symm
  · refine br_f (by simp [Cop.ev]; lia) ?_
    wtm_at "wz"
    wtm_at "wst"
    refine ⟨_, hs, fun wk σ1 h1 => ?_⟩
    wtm_at "wz"
    refine wS_seq ?_
    obtain ⟨m, rb⟩ := g.rb
    refine cg_loop (tk := tk) (wk := wk) (c0 := c0) (a := a) (n := n) (by lia) t 0 [] [] F σ1 _ _ (h1.perm ?_) (by simp; lia) g.lim trivial g.srt be ?_
    · simp only [push_zero, top, atP, List.nil_append, List.cons_append]
      wtm_at "pm"
    intro σ2 t' ps' v4 h2 C lim' sm pl' e
    cases ps' with
    | cons _ _ => cases sm
    | nil =>
    simp only [top, atP, List.cons_append, List.nil_append] at h2
    rw [← C.root] at h2
    wtm_at "sk"
    refine wS_while ?_
    refine wE_cm ?_
    wtm_at "wz"
    refine len_sp h2 (by wtm_at "mem") ?_
    wtm_at "ws"
    refine q _ t' (Ho.tail (x := (wk, MO.list [])) (h2.perm (by wtm_at "pm"))) ⟨lim', ⟨m, C.rb m rb⟩, C.red.trans g.black, ?_⟩ e
    rw [e]
    exact g.srt.map fun i j h => clo_mono hn h
theorem shift_nodes_sp {σ : St} {tk : Nat} {c0 a n : Int} {bef : Bool} {t : T} {F : At} (hs : Ho σ (at_ Option.none t ++ ((tk, MO.tree ⟨t.root, c0⟩) :: F))) (g : GT t) (be : BE (eff 0 t)) (hz : size t < 400) (hn : 0 ≤ n) {Q : V → St → Prop}
    (q : ∀ σ' t', Ho σ' (at_ Option.none t' ++ ((tk, MO.tree ⟨t'.root, c0⟩) :: F)) → GT t' → eff 0 t' = (eff 0 t).map (shI a n bef) → Q .none σ') : wG g_shift_nodes [.ref tk, .int a, .int n, .bool bef] σ Q := by
  unfold g_shift_nodes s_shift_nodes
  refine wG_fun rfl ?_
  wtm_at "wst"
  refine ⟨_, hs, fun wk σ1 h1 => ?_⟩
  wtm_at "wz"
  refine wS_seq ?_
  obtain ⟨m, rb⟩ := g.rb
  refine sh_loop (tk := tk) (wk := wk) (c0 := c0) (a := a) (n := n) (bef := bef) t 0 [] [] F σ1 _ _ (h1.perm ?_) (by simp; lia) g.lim trivial g.srt be ?_
  · simp only [push_zero, top, atP, List.nil_append, List.cons_append]
    wtm_at "pm"
  intro σ2 t' ps' v4 h2 C lim' sm pl' e
  cases ps' with
  | cons _ _ => cases sm
  | nil =>
  simp only [top, atP, List.cons_append, List.nil_append] at h2
  rw [← C.root] at h2
  wtm_at "sk"
  refine wS_while ?_
  refine wE_cm ?_
  wtm_at "wz"
  refine len_sp h2 (by wtm_at "mem") ?_
  wtm_at "ws"
  refine q _ t' (Ho.tail (x := (wk, MO.list [])) (h2.perm (by wtm_at "pm"))) ⟨lim', ⟨m, C.rb m rb⟩, C.red.trans g.black, ?_⟩ e
  rw [e]
  exact g.srt.map fun i j h => shB_mono hn h
noncomputable def ogMoves (a : Int) (bef : Bool) (i : Item) : Bool := decide (i.b = a) && (bef || (i.front && (decide (i.b ≠ i.e) || i.rear)))
theorem begins_to_move_sp {σ : St} {A : At} {k : Nat} {p l r : Option Nat} {d : Dat} {a : Int} {bef : Bool} (hs : Ho σ A) (hm : (k, MO.node (rc p l d r)) ∈ A) {Q : V → St → Prop} (q : Q (.bool (ogMoves a bef (item k d))) σ) : wG g_begins_to_move [.ref k, .int a, .bool bef] σ Q := by
  unfold g_begins_to_move s_begins_to_move
  refine wG_fun rfl ?_
  unfold ogMoves item at q
  simp only [] at q
  wtm_at "sk"
  refine wS_seq ?_
  refine wS_if ?_
  refine wE_cm ?_
  wtm_at "wz"
  by_cases h1 : d.begin_ = a
  · rw [decide_eq_true h1, Bool.true_and] at q
    refine br_f (by simp [Cop.ev, h1]) ?_
    wtm_at "wz"
    cases bef with
    | true => wtm_at "ws"; exact q
    | false =>
      rw [Bool.false_or] at q
      wtm_at "wst"
      wtm_at "wst"
      cases hf : d.front with
      | false =>
        rw [hf] at q
        wtm_at "wz"
        exact q
      | true =>
        rw [hf, Bool.true_and] at q
        wtm_at "wz"
        by_cases h2 : d.begin_ = d.end_
        · rw [decide_eq_false (by simpa using h2), Bool.false_or] at q
          refine br_f' (by simp [Cop.ev, h2]) ?_
          wtm_at "wz"
          exact q
        · rw [decide_eq_true h2, Bool.true_or] at q
          refine br_t' (by simp [Cop.ev, h2]) ?_
          wtm_at "wz"
          exact q
  · rw [decide_eq_false h1, Bool.false_and] at q
    refine br_t (by simp [Cop.ev, h1]) ?_
    wtm_at "ws"
    exact q
theorem appAt_sp {σ : St} {A : At} {k : Nat} {vs : List V} {v : V} (hs : Ho σ ((k, MO.list vs) :: A)) (hl : vs.length + 1 < 2 ^ 20) : ∃ σ3, appAt σ k v = some σ3 ∧ Ho σ3 ((k, MO.list (vs ++ [v])) :: A) := by
  refine ⟨_, ?_, hs.rep RepA.head⟩
  unfold appAt
  rw [lstAt_of (hs.get (.head _)), Option.bind_some, if_pos hl]
theorem drop_head {vs : List V} {i : Nat} {v : V} {w : List V} (h : vs.drop i = v :: w) : vs[i]? = some v ∧ vs.drop (i + 1) = w := by
  constructor
  · have := congrArg (·[0]?) h
    simpa using this
  · have := congrArg (List.drop 1) h
    rw [List.drop_drop] at this
    simpa using this
theorem drop_nil {vs : List V} {i : Nat} (h : vs.drop i = []) : vs[i]? = Option.none := by
  have := congrArg (·[0]?) h
  simpa using this
theorem og_comp {sk ck : Nat} {a : Int} {bef : Bool} {A : At} {vs : List V} (hm : (sk, MO.list vs) ∈ A) : ∀ (M : List Item) (i : Nat) (acc : List V) (σ : St) (Q : St → Prop), Ho σ ((ck, MO.list acc) :: A) → vs.drop i = refs M → (∀ it ∈ M, Here A it) → acc.length + M.length < 1000 →
    (∀ σ', Ho σ' ((ck, MO.list (acc ++ refs (M.filter (ogMoves a bef)))) :: A) → Q σ') →
    wC (srcL sk) [some (.int a), some (.bool bef)] (dCall g_begins_to_move (dCons (dVar 0) (dCons (dVar 1) (dCons (dVar 2) dNil)))) (dVar 0) ck M.length i σ Q
  | [], i, acc, σ, Q, hs, hv, hh, hl, q => by
    refine wC_stop ((srcL_at hs (.tail _ hm) i).trans (congrArg some (drop_nil hv))) ?_
    exact q σ (by simpa [refs] using hs)
  | it :: M, i, acc, σ, Q, hs, hv, hh, hl, q => by
    obtain ⟨h1, h2⟩ := drop_head hv
    obtain ⟨p, l, r, d, m, e⟩ := hh it (.head _)
    simp only [List.length_cons] at hl
    refine wC_step ((srcL_at hs (.tail _ hm) i).trans (congrArg some h1)) ?_
    wtm_at "wz"
    refine begins_to_move_sp hs (.tail _ m) ?_
    refine ⟨_, rfl, ?_⟩
    rw [e]
    cases hmv : ogMoves a bef it with
    | true =>
      refine ⟨fun _ => ?_, fun e => (nomatch e)⟩
      wtm_at "wz"
      obtain ⟨σ3, e3, h3⟩ := appAt_sp (v := V.ref it.k) hs (by lia)
      refine ⟨σ3, e3, ?_⟩
      refine og_comp hm M (i + 1) _ σ3 Q h3 h2 (fun j hj => hh j (.tail _ hj)) (by simp; lia) fun σ' h4 => q σ' ?_
      simpa [hmv, refs] using h4
    | false =>
      refine ⟨fun e => (nomatch e), fun _ => ?_⟩
      refine og_comp hm M (i + 1) _ σ Q hs h2 (fun j hj => hh j (.tail _ hj)) (by lia) fun σ' h4 => q σ' ?_
      simpa [hmv, refs] using h4

/-! ## keys -/
theorem keys_perm : ∀ (t : T) (p : Option Nat) (o : Int), ((at_ p t).map (·.1)).Perm ((eff o t).map (·.k))
  | .nil, _, _ => .refl _
  | .node l k d r, p, o => by
    simp only [at_, eff, List.map_cons, List.map_append]
    refine List.Perm.trans ?_ List.perm_middle.symm
    exact ((keys_perm l (some k) _).append (keys_perm r (some k) _)).cons k
theorem keys_nodup {σ : St} {t : T} {p : Option Nat} {F : At} (hs : Ho σ (at_ p t ++ F)) (o : Int) : ((eff o t).map (·.k)).Nodup := (keys_perm t p o).nodup_iff.mp hs.left.1
theorem key_unique : ∀ {L : List Item}, (L.map (·.k)).Nodup → ∀ {a b : Item}, a ∈ L → b ∈ L → a.k = b.k → a = b
  | [], _, a, _, ha, _, _ => nomatch ha
  | x :: L, h, a, b, ha, hb, e => by
    rw [List.map_cons, List.nodup_cons] at h
    rcases List.mem_cons.mp ha with ha1 | ha1 <;> rcases List.mem_cons.mp hb with hb1 | hb1
    · rw [ha1, hb1]
    · have h2 := List.mem_map_of_mem (f := (·.k)) hb1
      rw [← e, ha1] at h2
      exact absurd h2 h.1
    · have h2 := List.mem_map_of_mem (f := (·.k)) ha1
      rw [e, hb1] at h2
      exact absurd h2 h.1
    · exact key_unique h.2 ha1 hb1 e
theorem locate : ∀ (t : T) (o : Int) (it : Item), it ∈ eff o t → ∃ ps l d r, t = plug (.node l it.k d r) ps ∧ ps.length ≤ size t
  | .nil, _, _, h => nomatch h
  | .node l k d r, o, it, h => by
    simp only [eff] at h
    rcases List.mem_append.mp h with h | h
    · obtain ⟨ps, l', d', r', e, hl⟩ := locate l _ it h
      refine ⟨ps ++ [⟨true, k, d, r⟩], l', d', r', ?_, by simp [size]; lia⟩
      rw [plug_app, ← e]
      rfl
    · rcases List.mem_cons.mp h with rfl | h
      · exact ⟨[], l, d, r, rfl, by simp⟩
      · obtain ⟨ps, l', d', r', e, hl⟩ := locate r _ it h
        refine ⟨ps ++ [⟨false, k, d, l⟩], l', d', r', ?_, by simp [size]; lia⟩
        rw [plug_app, ← e]
        rfl
noncomputable def dropAt (D : List (Nat × Dat)) : At := D.map fun x => (x.1, MO.node (rc Option.none Option.none x.2 Option.none))
noncomputable def items (D : List (Nat × Dat)) : List Item := D.map fun x => item x.1 x.2
theorem og_drop {tk mk' : Nat} {vs : List V} {L1 : List Item} {F : At} {v0 v1 v2 v3 v4 : Option V} (h0 : v0 = some (.ref tk)) : ∀ (M : List Item) (i : Nat) (t : T) (D : List (Nat × Dat)) (v5 : Option V) (σ : St) (QS : Fl → Rho → St → Prop), Ho σ (at_ Option.none t ++ ((tk, MO.tree ⟨t.root, (size t : Int)⟩) :: (mk', MO.list vs) :: (dropAt D ++ F))) → GT t → size t < 400 → (eff 0 t).Perm (M ++ L1) → vs.drop i = refs M →
    (∀ σ' t' D' v5, Ho σ' (at_ Option.none t' ++ ((tk, MO.tree ⟨t'.root, (size t' : Int)⟩) :: (mk', MO.list vs) :: (dropAt D' ++ F))) → GT t' → size t' ≤ size t → (eff 0 t').Perm L1 → items D' = items D ++ M → QS .next [v0, v1, v2, v3, v4, v5] σ') →
    wF (srcL mk') (daName 5) b_open_gap_2 M.length i [v0, v1, v2, v3, v4, v5] σ QS
  | [], i, t, D, v5, σ, QS, hs, g, hz, pe, hv, q => by
    wtm_at "sk"
    refine wF_stop ((srcL_at hs (by wtm_at "mem") i).trans (congrArg some (drop_nil hv))) ?_
    exact q σ t D v5 hs g (Nat.le_refl _) pe (by simp)
  | it :: M, i, t, D, v5, σ, QS, hs, g, hz, pe, hv, q => by
    obtain ⟨h1, h2⟩ := drop_head hv
    wtm_at "sk"
    refine wF_step ((srcL_at hs (by wtm_at "mem") i).trans (congrArg some h1)) ?_
    wtm_at "wz"
    unfold b_open_gap_2
    subst h0
    wtm_at "wst"
    have hit : it ∈ eff 0 t := pe.mem_iff.mpr (.head _)
    have hnd := keys_nodup hs 0
    obtain ⟨ps, l, d, r, e, hl⟩ := locate t 0 it hit
    obtain ⟨m, rb⟩ := g.rb
    have gl := g.lim
    have gb := g.black
    have gs := g.srt
    rw [e] at hs rb gl gb
    refine drop_node_sp hs gl rb gb (by lia) ?_
    intro σ1 t1 d1 A B k1 k2 k3 k4 k5 k6
    rw [← e] at k2
    have e1 : item it.k d1 = it := key_unique hnd (by rw [k2]; simp) hit rfl
    rw [e1] at k2
    have hsz : (size t : Int) - 1 = (size t1 : Int) := by
      have a1 := eff_len t 0
      have a2 := eff_len t1 0
      rw [k2] at a1
      rw [k3] at a2
      simp at a1 a2
      lia
    rw [← e, hsz] at k1
    have g1 : GT t1 := ⟨k4, k5, k6, by
      rw [k3]
      rw [k2] at gs
      exact gs.sublist (List.Sublist.append_left (List.sublist_cons_self _ _) _)⟩
    have p1 : (eff 0 t1).Perm (M ++ L1) := by
      rw [k3]
      have : (it :: (A ++ B)).Perm (it :: (M ++ L1)) := (List.perm_middle.symm.trans (k2 ▸ .refl _)).trans pe
      exact List.Perm.cons_inv this
    wtm_at "wz"
    refine og_drop (F := F) rfl M (i + 1) t1 (D ++ [(it.k, d1)]) _ σ1 QS (k1.perm ?_) g1 (by lia) p1 h2 ?_
    · simp only [dropAt, List.map_append, List.map_cons, List.map_nil, List.append_assoc, List.cons_append, List.nil_append]
      wtm_at "pm"
    intro σ2 t2 D2 v5' j1 j2 j3 j4 j5
    refine q σ2 t2 D2 v5' j1 j2 (by lia) j4 ?_
    rw [j5]
    simp [items, e1]

noncomputable def ogM (a n : Int) (bef : Bool) (i : Item) : Item := { i with b := i.b + n, e := if (decide (i.e ≠ a) || (i.rear || bef)) = true then i.e + n else i.e }
theorem og_put {tk mk' : Nat} {a n : Int} {bef : Bool} {vs : List V} {F : At} {v4 : Option V} : ∀ (D : List (Nat × Dat)) (i : Nat) (t : T) (v5 : Option V) (σ : St) (QS : Fl → Rho → St → Prop), Ho σ (at_ Option.none t ++ ((tk, MO.tree ⟨t.root, (size t : Int)⟩) :: (mk', MO.list vs) :: (dropAt D ++ F))) → GT t → vs.drop i = refs (items D) →
    (∀ σ' t' v5, Ho σ' (at_ Option.none t' ++ ((tk, MO.tree ⟨t'.root, (size t' : Int)⟩) :: (mk', MO.list vs) :: F)) → GT t' → (eff 0 t').Perm ((items D).map (ogM a n bef) ++ eff 0 t) → QS .next [some (.ref tk), some (.int a), some (.int n), some (.bool bef), v4, v5] σ') →
    wF (srcL mk') (daName 5) b_open_gap_1 D.length i [some (.ref tk), some (.int a), some (.int n), some (.bool bef), v4, v5] σ QS
  | [], i, t, v5, σ, QS, hs, g, hv, q => by
    wtm_at "sk"
    refine wF_stop ((srcL_at hs (by wtm_at "mem") i).trans (congrArg some (drop_nil hv))) ?_
    exact q σ t v5 hs g (by simp [items])
  | (k, d) :: D, i, t, v5, σ, QS, hs, g, hv, q => by
    obtain ⟨h1, h2⟩ := drop_head (v := V.ref k) (w := refs (items D)) hv
    wtm_at "sk"
    refine wF_step ((srcL_at hs (by wtm_at "mem") i).trans (congrArg some h1)) ?_
    wtm_at "wz"
    unfold b_open_gap_1
    simp only [dropAt, List.map_cons, List.cons_append] at hs
    wtm_at "sk"
    refine wS_seq ?_
    have key : ∀ σ1 e', e' = (if (decide (d.end_ ≠ a) || (d.rear || bef)) = true then d.end_ + n else d.end_) → Ho σ1 (at_ Option.none t ++ ((tk, MO.tree ⟨t.root, (size t : Int)⟩) :: (mk', MO.list vs) :: (k, MO.node (rc Option.none Option.none (d.setE e') Option.none)) :: (dropAt D ++ F))) →
        wS (dsSeq (dsAssign (daAttr (dVar 5) .begin_) (dBin .add (dAttr .begin_ (dVar 5)) (dVar 2))) (dsSeq (dsExpr (dCall g_put_node (dCons (dVar 0) (dCons (dVar 5) dNil)))) dsNil)) [some (.ref tk), some (.int a), some (.int n), some (.bool bef), v4, some (.ref k)] σ1
          (forK (srcL mk') (daName 5) b_open_gap_1 D.length (i + 1) QS) := by
      intro σ1 e' he hs1
      wtm_at "wst"
      have hs2 := ‹Ho _ _›
      wtm_at "wst"
      obtain ⟨m, rb⟩ := g.rb
      refine put_node_sp (F := (mk', MO.list vs) :: (dropAt D ++ F)) (hs2.perm (by wtm_at "pm")) rb g.black g.lim g.srt ?_
      intro σ2 t2 A B k1 k2 k3 k4 k5 k6 k7 k8
      have hsz : (size t : Int) + 1 = (size t2 : Int) := by
        have a1 := eff_len t 0
        have a2 := eff_len t2 0
        rw [k2] at a1
        rw [k3] at a2
        simp at a1 a2
        lia
      rw [hsz] at k1
      have gs := g.srt
      rw [k2] at gs
      have g2 : GT t2 := ⟨k6, k7, k8, by
        rw [k3]
        obtain ⟨s1, s2, s3⟩ := List.pairwise_append.mp gs
        refine List.pairwise_append.mpr ⟨s1, List.pairwise_cons.mpr ⟨fun x hx => k5 x hx, s2⟩, fun x hx y hy => ?_⟩
        rcases List.mem_cons.mp hy with rfl | hy
        · exact Int.le_of_lt (k4 x hx)
        · exact s3 x hx y hy⟩
      wtm_at "wz"
      refine og_put (F := F) D (i + 1) t2 _ σ2 QS k1 g2 h2 ?_
      intro σ3 t3 v5' j1 j2 j3
      refine q σ3 t3 v5' j1 j2 (j3.trans ?_)
      rw [k3, k2]
      have e1 : item k ((d.setE e').setB ((d.setE e').begin_ + n)) = ogM a n bef (item k d) := by subst he; rfl
      rw [e1]
      simp only [items, List.map_cons, List.cons_append]
      refine List.Perm.trans (List.Perm.append_left _ List.perm_middle) ?_
      exact List.perm_middle
    refine (?_ : wS _ _ _ (fun fl ρ σ' => fl = .next ∧ ρ = [some (.ref tk), some (.int a), some (.int n), some (.bool bef), v4, some (.ref k)] ∧ ∃ e', e' = (if (decide (d.end_ ≠ a) || (d.rear || bef)) = true then d.end_ + n else d.end_) ∧ Ho σ' (at_ Option.none t ++ ((tk, MO.tree ⟨t.root, (size t : Int)⟩) :: (mk', MO.list vs) :: (k, MO.node (rc Option.none Option.none (d.setE e') Option.none)) :: (dropAt D ++ F))))).mono ?_
    · refine wS_if ?_
      refine (?_ : wE _ _ _ (fun v σ1 => v = .bool (decide (d.end_ ≠ a) || (d.rear || bef)) ∧ σ1 = σ)).mono ?_
      · refine wE_or ?_
        refine wE_cm ?_
        wtm_at "wz"
        by_cases h3 : d.end_ = a
        · refine br_f' (by simp [Cop.ev, h3]) ?_
          rw [decide_eq_false (by simpa using h3), Bool.false_or]
          cases hr : d.rear with
          | true =>
            wtm_at "wz"
            refine br_t' hr ?_
            exact ⟨_, rfl, rfl, rfl⟩
          | false =>
            wtm_at "wz"
            refine br_f' hr ?_
            wtm_at "wz"
            rfl
        · refine br_t' (by simp [Cop.ev, h3]) ?_
          rw [decide_eq_true h3, Bool.true_or]
          exact ⟨rfl, rfl⟩
      rintro v σ1 ⟨rfl, rfl⟩
      refine ⟨_, rfl, ?_⟩
      cases hc : (decide (d.end_ ≠ a) || (d.rear || bef)) with
      | true =>
        wtm_at "ws"
        have h4 := ‹Ho _ _›
        rw [if_pos rfl]
        exact h4
      | false =>
        wtm_at "wz"
        rw [if_neg (by simp)]
        exact hs
    rintro fl ρ σ1 ⟨rfl, rfl, e', he, h4⟩
    exact key σ1 e' he h4
/-- an overlay, when characters come at a place -/
noncomputable def ogI (a n : Int) (bef : Bool) (i : Item) : Item := if ogMoves a bef i = true then ogM a n bef i else shI a n bef i
theorem filter_moves {a : Int} {bef : Bool} : ∀ {L : List Item}, BE L → (L.filter (hit a a)).filter (ogMoves a bef) = L.filter (ogMoves a bef) := by
  intro L be
  rw [List.filter_filter]
  refine List.filter_congr fun i hi => ?_
  have := be i hi
  unfold ogMoves hit
  by_cases h : i.b = a
  · rw [decide_eq_true (show i.b ≤ a by lia), decide_eq_true (show a ≤ i.e by lia)]; simp
  · rw [decide_eq_false h]; simp
theorem filter_split {p : Item → Bool} : ∀ L : List Item, L.Perm (L.filter p ++ L.filter (fun i => !p i))
  | [] => .refl _
  | i :: L => by
    have ih := filter_split (p := p) L
    cases h : p i with
    | true => simp only [List.filter_cons, h, if_true, Bool.not_true, Bool.false_eq_true, if_false]; exact ih.cons i
    | false => simp only [List.filter_cons, h, if_true, Bool.not_false, Bool.false_eq_true, if_false]; exact (ih.cons i).trans List.perm_middle.symm
theorem open_gap_sp {σ : St} {tk : Nat} {a n : Int} {bef : Bool} {t : T} {F : At} (hs : Ho σ (at_ Option.none t ++ ((tk, MO.tree ⟨t.root, (size t : Int)⟩) :: F))) (g : GT t) (be : BE (eff 0 t)) (hz : size t < 400) (hn : 0 < n) {Q : V → St → Prop}
    (q : ∀ σ' t', Ho σ' (at_ Option.none t' ++ ((tk, MO.tree ⟨t'.root, (size t' : Int)⟩) :: F)) → GT t' → (eff 0 t').Perm ((eff 0 t).map (ogI a n bef)) → Q .none σ') : wG g_open_gap [.ref tk, .int a, .int n, .bool bef] σ Q := by
  unfold g_open_gap s_open_gap
  refine wG_fun rfl ?_
  refine wS_seq ?_
  refine wS_if ?_
  refine wE_cm ?_
  wtm_at "wz"
  refine br_f (by simp [Cop.ev]; lia) ?_
  wtm_at "wz"
  refine wS_seq ?_
  refine wS_assign ?_
  refine wE_comp rfl ?_
  refine wI_list ?_
  wtm_at "wz"
  refine nodes_between_sp hs (by lia) g.lim g.srt ?_
  intro σ1 sk t1 h1 E H
  obtain ⟨m, rb⟩ := g.rb
  have e1 : eff 0 t1 = eff 0 t := E.eff 0
  have g1 : GT t1 := ⟨E.lim g.lim, ⟨m, E.rb m rb⟩, E.red.trans g.black, by rw [e1]; exact g.srt⟩
  have hz1 : size t1 = size t := by
    have a1 := eff_len t 0
    have a2 := eff_len t1 0
    rw [e1] at a2
    lia
  have hfl : ((eff 0 t).filter (hit a a)).length ≤ size t := by
    have := List.length_filter_le (hit a a) (eff 0 t)
    rwa [eff_len] at this
  refine ⟨sk, _, rfl, lstAt_of (h1.get (by wtm_at "mem")), ?_⟩
  rw [show (refs ((eff 0 t).filter (hit a a))).length = ((eff 0 t).filter (hit a a)).length by simp [refs]]
  have h2 := h1.new (MO.list [])
  refine og_comp (a := a) (bef := bef) (A := at_ Option.none t1 ++ ((sk, MO.list (refs ((eff 0 t).filter (hit a a)))) :: (tk, MO.tree ⟨t1.root, (size t : Int)⟩) :: F)) (vs := refs ((eff 0 t).filter (hit a a))) (by wtm_at "mem") ((eff 0 t).filter (hit a a)) 0 [] _ _ h2 rfl (fun i hi => (H i hi).mono fun x hx => List.mem_append_left _ hx) (by simp; lia) ?_
  intro σ2 h3
  rw [filter_moves be, List.nil_append] at h3
  generalize σ1.length = ck at h3 ⊢
  generalize hM : (eff 0 t).filter (ogMoves a bef) = M at h3
  generalize hL1 : (eff 0 t).filter (fun i => !ogMoves a bef i) = L1
  have split : (eff 0 t).Perm (M ++ L1) := by rw [← hM, ← hL1]; exact filter_split _
  wtm_at "wz"
  wtm_at "wst"
  refine wI_list ?_
  wtm_at "wz"
  refine ⟨ck, _, rfl, lstAt_of (h3.get (.head _)), ?_⟩
  rw [show (refs M).length = M.length by simp [refs]]
  rw [← hz1] at h3
  refine og_drop (tk := tk) (mk' := ck) (L1 := L1) (vs := refs M) (F := (sk, MO.list (refs ((eff 0 t).filter (hit a a)))) :: F) rfl M 0 t1 [] _ σ2 _ (h3.perm ?_) g1 (by lia) (by rw [e1]; exact split) rfl ?_
  · simp only [dropAt, List.map_nil, List.nil_append]
    wtm_at "pm"
  intro σ3 t2 D v5 h4 g2 hz2 p2 hD
  simp only [items, List.map_nil, List.nil_append] at hD
  have hD' : items D = M := hD
  wtm_at "wz"
  have be2 : BE (eff 0 t2) := fun i hi => be i (split.mem_iff.mpr (List.mem_append_right _ (p2.mem_iff.mp hi)))
  wtm_at "wst"
  refine shift_nodes_sp h4 g2 be2 (by lia) (by lia) ?_
  intro σ4 t3 h5 g3 e3
  have hz3 : size t3 = size t2 := by
    have a1 := eff_len t2 0
    have a2 := eff_len t3 0
    rw [e3, List.length_map] at a2
    lia
  rw [← hz3] at h5
  wtm_at "wz"
  wtm_at "wst"
  refine wI_list ?_
  wtm_at "wz"
  refine ⟨ck, _, rfl, lstAt_of (h5.get (by wtm_at "mem")), ?_⟩
  have hlen : (refs M).length = D.length := by rw [← hD']; simp [refs, items]
  rw [hlen]
  refine og_put (tk := tk) (mk' := ck) (vs := refs M) (F := (sk, MO.list (refs ((eff 0 t).filter (hit a a)))) :: F) D 0 t3 _ σ4 _ h5 g3 (by rw [hD']; rfl) ?_
  intro σ5 t4 v5' h6 g4 p4
  wtm_at "wz"
  refine q σ5 t4 (Ho.tail (x := (ck, MO.list (refs M))) (Ho.tail (x := (sk, MO.list (refs ((eff 0 t).filter (hit a a))))) (h6.perm (by wtm_at "pm")))) g4 (p4.trans ?_)
  rw [hD', e3]
  refine List.Perm.trans ?_ (split.map (ogI a n bef)).symm
  rw [List.map_append]
  refine List.Perm.append ?_ ((p2.map _).trans ?_)
  · rw [show M.map (ogM a n bef) = M.map (ogI a n bef) from List.map_congr_left fun i hi => by
      rw [← hM] at hi
      have := (List.mem_filter.mp hi).2
      unfold ogI
      rw [if_pos this]]
  · rw [show L1.map (shI a n bef) = L1.map (ogI a n bef) from List.map_congr_left fun i hi => by
      rw [← hL1] at hi
      have := (List.mem_filter.mp hi).2
      unfold ogI
      rw [if_neg (by simpa using this)]]
noncomputable def set0 : T → Prop
  | .nil => True
  | .node l _ d r => d.offset = 0 ∧ set0 l ∧ set0 r
theorem settle_set0 : ∀ (t : T) (o : Int), set0 (settle o t)
  | .nil, _ => trivial
  | .node l k d r, o => ⟨rfl, settle_set0 l _, settle_set0 r _⟩
theorem settle_eqv : ∀ (t : T) (o : Int), Eqv (push o t) (settle o t)
  | .nil, _ => Eqv.refl _
  | .node l k d r, o => by
    have E0 := Eqv.hd l k { d with offset := d.offset + o } r
    exact E0.trans (Eqv.kids k _ (settle_eqv l _) (settle_eqv r _))
noncomputable def postT : T → List V
  | .nil => []
  | .node l k _ r => postT l ++ (postT r ++ [V.ref k])
theorem preT_rev : ∀ t : T, (preT t).reverse = postT t
  | .nil => rfl
  | .node l k d r => by
    simp only [preT, postT, List.reverse_cons, List.reverse_append, preT_rev l, preT_rev r, List.append_assoc]
theorem postT_settle : ∀ (t : T) (o : Int), postT (settle o t) = postT t
  | .nil, _ => rfl
  | .node l k d r, o => by simp only [settle, postT, postT_settle l, postT_settle r]

/-- the begin of a son, if there is one -/
noncomputable def BegLe (t : T) (x : Int) : Prop := match t with | .nil => True | .node _ _ d _ => d.begin_ ≤ x
noncomputable def BegGe (t : T) (x : Int) : Prop := match t with | .nil => True | .node _ _ d _ => x ≤ d.begin_
theorem shape_error_sp {σ : St} {A : At} {p : Option Nat} {l r : T} {k : Nat} {d : Dat} (hs : Ho σ A) (hA : ∀ x ∈ at_ p (.node l k d r), x ∈ A) (c1 : d.red = true → isRed l = false ∧ isRed r = false) (o1 : BegLe l d.begin_) (o2 : BegGe r d.begin_) (lim : d.limit = ge d (lv l) (lv r)) {Q : V → St → Prop} (q : Q .none σ) :
    wG g_shape_error [.ref k] σ Q := by
  unfold g_shape_error s_shape_error b_shape_error_1
  refine wG_fun rfl ?_
  have mk1 : (k, MO.node (rc p l.root d r.root)) ∈ A := hA _ (.head _)
  have ml : ∀ x ∈ at_ (some k) l, x ∈ A := fun x hx => hA x (.tail _ (List.mem_append_left _ hx))
  have mr : ∀ x ∈ at_ (some k) r, x ∈ A := fun x hx => hA x (.tail _ (List.mem_append_right _ hx))
  have sl := son_of ml
  have sr := son_of mr
  have tail : ∀ ρ1, wS (dsSeq (dsIf (dAnd (dCm cIsNot (dAttr .left (dVar 0)) dNone) (dCm (cInt .gt) (dAttr .begin_ (dAttr .left (dVar 0))) (dAttr .begin_ (dVar 0)))) (dsSeq (dsRet (dStr (Str.ofString "order"))) dsNil) dsNil)
      (dsSeq (dsIf (dAnd (dCm cIsNot (dAttr .right (dVar 0)) dNone) (dCm (cInt .lt) (dAttr .begin_ (dAttr .right (dVar 0))) (dAttr .begin_ (dVar 0)))) (dsSeq (dsRet (dStr (Str.ofString "order"))) dsNil) dsNil)
      (dsSeq (dsRet (dIte (dCm (cInt .ne) (dAttr .limit (dVar 0)) (dCall g_greatest_end (dCons (dVar 0) dNil))) (dStr (Str.ofString "limit")) dNone)) dsNil))) [some (.ref k), ρ1] σ (fun fl _ σ' => Q (flVal fl) σ') := by
    intro ρ1
    wtm_at "sk"
    refine wS_seq ?_
    refine (?_ : wS _ _ _ (fun fl ρ σ' => fl = .next ∧ ρ = [some (.ref k), ρ1] ∧ σ' = σ)).mono ?_
    · refine wS_if ?_
      refine wE_and ?_
      cases l with
      | nil =>
        wtm_at "wz"
        rfl
      | node ll lk ld lr =>
        have m2 := ml _ (.head _)
        wtm_at "wz"
        refine br_f (by simp only [BegLe] at o1; simp [Cop.ev]; omega) ?_
        wtm_at "wz"
        rfl
    rintro fl ρ σ' ⟨rfl, rfl, rfl⟩
    wtm_at "wz"
    refine wS_seq ?_
    refine (?_ : wS _ _ _ (fun fl ρ σ'' => fl = .next ∧ ρ = [some (.ref k), ρ1] ∧ σ'' = σ')).mono ?_
    · refine wS_if ?_
      refine wE_and ?_
      cases r with
      | nil =>
        wtm_at "wz"
        rfl
      | node rl rk rd rr =>
        have m2 := mr _ (.head _)
        wtm_at "wz"
        refine br_f (by simp only [BegGe] at o2; simp [Cop.ev]; omega) ?_
        wtm_at "wz"
        rfl
    rintro fl ρ σ'' ⟨rfl, rfl, rfl⟩
    wtm_at "wz"
    refine wS_seq ?_
    refine wS_ret ?_
    refine wE_ite ?_
    refine wE_cm ?_
    wtm_at "wz"
    refine greatest_end_sp hs mk1 sl sr ?_
    wtm_at "wz"
    refine br_f (by simp [Cop.ev, lim]) ?_
    wtm_at "wz"
    exact q
  have son : ∀ (s : T) (ρ1 : Option V), (∀ x ∈ at_ (some k) s, x ∈ A) → (d.red = true → isRed s = false) → wS (dsSeq (dsIf (dCm cIsNot (dVar 1) dNone) (dsSeq (dsIf (dCm cIsNot (dAttr .parent (dVar 1)) (dVar 0)) (dsSeq (dsRet (dStr (Str.ofString "parent"))) dsNil) dsNil)
      (dsSeq (dsIf (dAnd (dAttr .red (dVar 0)) (dAttr .red (dVar 1))) (dsSeq (dsRet (dStr (Str.ofString "red"))) dsNil) dsNil) dsNil)) dsNil) dsNil) [some (.ref k), some (V.opt s.root)] σ (fun fl ρ σ' => fl = .next ∧ ρ = [some (.ref k), some (V.opt s.root)] ∧ σ' = σ) := by
    intro s ρ1 hm hc
    cases s with
    | nil =>
      wtm_at "ws"
      rfl
    | node sl sk sd sr =>
      have m2 := hm _ (.head _)
      wtm_at "sk"
      refine wS_seq ?_
      wtm_at "wz"
      wtm_at "wst"
      refine wS_seq ?_
      refine wS_if ?_
      refine wE_and ?_
      wtm_at "wz"
      cases hd : d.red with
      | false =>
        refine br_f rfl ?_
        wtm_at "ws"
        rfl
      | true =>
        refine br_t rfl ?_
        have : sd.red = false := hc hd
        wtm_at "wz"
        refine br_f this ?_
        wtm_at "ws"
        rfl
  wtm_at "wst"
  refine (son l Option.none ml (fun h => (c1 h).1)).mono ?_
  rintro fl ρ σ' ⟨rfl, rfl, rfl⟩
  wtm_at "wz"
  refine (son r Option.none mr (fun h => (c1 h).2)).mono ?_
  rintro fl ρ σ' ⟨rfl, rfl, rfl⟩
  wtm_at "wz"
  exact tail _
noncomputable def HtIs (kvs : List (Int × Int)) (t : T) (m : Nat) : Prop := match t with | .nil => m = 0 | .node _ _ d _ => lookKV kvs d.number = some (m : Int)
theorem black_height_sp {σ : St} {A : At} {p : Option Nat} {l r : T} {k hk m : Nat} {d : Dat} {kvs : List (Int × Int)} (hs : Ho σ A) (hA : ∀ x ∈ at_ p (.node l k d r), x ∈ A) (hd : (hk, MO.dict kvs) ∈ A) (h1 : HtIs kvs l m) (h2 : HtIs kvs r m) {Q : V → St → Prop} (q : Q (.int (if d.red = true then (m : Int) else (m : Int) + 1)) σ) :
    wG g_black_height [.ref k, .ref hk] σ Q := by
  unfold g_black_height s_black_height
  refine wG_fun rfl ?_
  have mk1 : (k, MO.node (rc p l.root d r.root)) ∈ A := hA _ (.head _)
  have ml : ∀ x ∈ at_ (some k) l, x ∈ A := fun x hx => hA x (.tail _ (List.mem_append_left _ hx))
  have mr : ∀ x ∈ at_ (some k) r, x ∈ A := fun x hx => hA x (.tail _ (List.mem_append_right _ hx))
  wtm_at "sk"
  refine wS_seq ?_
  refine wS_assign ?_
  refine (?_ : wE _ _ _ (fun v σ1 => v = .int m ∧ σ1 = σ)).mono ?_
  · refine wE_ite ?_
    refine wE_cm ?_
    cases l with
    | nil =>
      wtm_at "wz"
      exact ⟨by have : m = 0 := h1; subst this; rfl, rfl⟩
    | node ll lk ld lr =>
      have m2 := ml _ (.head _)
      wtm_at "wz"
      refine wE_getd (i := ld.number) (d := 0) ?_
      wtm_at "wz"
      refine ⟨hk, kvs, rfl, hs.get hd, ?_⟩
      wtm_at "wz"
      refine ⟨?_, rfl⟩
      rw [show lookKV kvs ld.number = some (m : Int) from h1]
      rfl
  rintro v σ1 ⟨rfl, rfl⟩
  wtm_at "wz"
  refine wS_seq ?_
  refine wS_assign ?_
  refine (?_ : wE _ _ _ (fun v σ2 => v = .int m ∧ σ2 = σ1)).mono ?_
  · refine wE_ite ?_
    refine wE_cm ?_
    cases r with
    | nil =>
      wtm_at "wz"
      exact ⟨by have : m = 0 := h2; subst this; rfl, rfl⟩
    | node rl rk rd rr =>
      have m2 := mr _ (.head _)
      wtm_at "wz"
      refine wE_getd (i := rd.number) (d := 0) ?_
      wtm_at "wz"
      refine ⟨hk, kvs, rfl, hs.get hd, ?_⟩
      wtm_at "wz"
      refine ⟨?_, rfl⟩
      rw [show lookKV kvs rd.number = some (m : Int) from h2]
      rfl
  rintro v σ2 ⟨rfl, rfl⟩
  wtm_at "wz"
  refine wS_seq ?_
  refine wS_if ?_
  refine wE_or ?_
  refine wE_cm ?_
  wtm_at "wz"
  refine br_f (by simp [Cop.ev]) ?_
  wtm_at "wz"
  refine wS_seq ?_
  refine wS_ret ?_
  refine wE_ite ?_
  wtm_at "wz"
  cases hr : d.red with
  | true =>
    rw [hr, if_pos rfl] at q
    wtm_at "wz"
    exact q
  | false =>
    rw [hr, if_neg (by simp)] at q
    wtm_at "wz"
    exact q
theorem lookKV_app {i j x : Int} : ∀ kvs : List (Int × Int), kvs.any (fun kv => decide (kv.1 = i)) = false → lookKV (kvs ++ [(i, j)]) x = if i = x then some j else lookKV kvs x
  | [], _ => by simp [lookKV]
  | p :: r, h => by
    rw [List.any_cons, Bool.or_eq_false_iff] at h
    have h1 : p.1 ≠ i := by simpa using h.1
    simp only [List.cons_append, lookKV, lookKV_app r h.2]
    by_cases e : p.1 = x
    · rw [if_pos e, if_pos e, if_neg (by lia)]
    · rw [if_neg e, if_neg e]
theorem lookKV_map {i j x : Int} : ∀ kvs : List (Int × Int), kvs.any (fun kv => decide (kv.1 = i)) = true → lookKV (kvs.map fun kv => if kv.1 = i then (kv.1, j) else kv) x = if i = x then some j else lookKV kvs x
  | [], h => by simp at h
  | p :: r, h => by
    simp only [List.map_cons, lookKV]
    by_cases e : p.1 = i
    · rw [if_pos e]
      by_cases ex : p.1 = x
      · rw [if_pos ex, if_pos (by lia)]
      · rw [if_neg ex, if_neg ex, if_neg (by lia)]
        cases h' : r.any (fun kv => decide (kv.1 = i)) with
        | true => rw [lookKV_map r h', if_neg (by lia)]
        | false =>
          congr 1
          rw [List.any_eq_false] at h'
          refine (List.map_congr_left fun kv hkv => ?_).trans (List.map_id r)
          have := h' kv hkv
          rw [if_neg (by simpa using this)]
          rfl
    · rw [if_neg e]
      have h1 : r.any (fun kv => decide (kv.1 = i)) = true := by
        rw [List.any_cons, Bool.or_eq_true] at h
        rcases h with h | h
        · exact absurd (by simpa using h) e
        · exact h
      by_cases ex : p.1 = x
      · rw [if_pos ex, if_pos ex, if_neg (by lia)]
      · rw [if_neg ex, if_neg ex, lookKV_map r h1]
theorem lookKV_put (kvs : List (Int × Int)) (i j x : Int) : lookKV (putKV kvs i j) x = if i = x then some j else lookKV kvs x := by
  unfold putKV
  cases h : kvs.any (fun kv => decide (kv.1 = i)) with
  | true => rw [if_pos rfl]; exact lookKV_map kvs h
  | false => rw [if_neg (by simp)]; exact lookKV_app kvs h
theorem putKV_le (kvs : List (Int × Int)) (i j : Int) : (putKV kvs i j).length ≤ kvs.length + 1 := by
  unfold putKV
  split <;> simp
theorem store_sp {σ : St} {A : At} {k : Nat} {kvs : List (Int × Int)} {i j : Int} (hs : Ho σ ((k, MO.dict kvs) :: A)) (hl : kvs.length + 1 < 2 ^ 20) : ∃ σ', storeAt σ k (.int i) (.int j) = some σ' ∧ Ho σ' ((k, MO.dict (putKV kvs i j)) :: A) := by
  refine ⟨_, ?_, hs.rep RepA.head⟩
  show (σ[k]?.bind _) = _
  rw [hs.get (.head _)]
  exact if_pos hl
theorem itemAt_dict {σ : St} {k : Nat} {kvs : List (Int × Int)} {i : Int} (h : σ[k]? = some (.dict kvs)) : itemAt σ (.ref k) (.int i) = (lookKV kvs i).map .int := by
  show (σ[k]?.bind _) = _
  rw [h]
  rfl
theorem itemAt_list {σ : St} {k : Nat} {vs : List V} {i : Int} (h : σ[k]? = some (.list vs)) (h0 : 0 ≤ i) (h1 : i < 2 ^ 20) : itemAt σ (.ref k) (.int i) = vs[i.toNat]? := by
  show (σ[k]?.bind _) = _
  rw [h]
  exact if_pos ⟨h0, h1⟩
theorem itemAt_tup {σ : St} {vs : List V} {i : Int} (h0 : 0 ≤ i) (h1 : i < 2 ^ 20) : itemAt σ (.tup vs) (.int i) = vs[i.toNat]? := if_pos ⟨h0, h1⟩
noncomputable def nums (t : T) : List Int := (eff 0 t).map (·.number)
theorem BegLe_of {l : T} {x : Int} (h0 : set0 l) (h : ∀ i ∈ eff 0 l, i.b ≤ x) : BegLe l x := by
  cases l with
  | nil => trivial
  | node ll k d lr =>
    have := h (item k d) (by rw [eff_node0 h0.1]; simp)
    exact this
theorem BegGe_of {l : T} {x : Int} (h0 : set0 l) (h : ∀ i ∈ eff 0 l, x ≤ i.b) : BegGe l x := by
  cases l with
  | nil => trivial
  | node ll k d lr =>
    have := h (item k d) (by rw [eff_node0 h0.1]; simp)
    exact this
theorem RB_kids {l r : T} {k : Nat} {d : Dat} {m : Nat} (h : RB (.node l k d r) m) : ∃ m', RB l m' ∧ RB r m' ∧ (d.red = true → isRed l = false ∧ isRed r = false) ∧ (if d.red = true then (m' : Int) else (m' : Int) + 1) = (m : Int) := by
  simp only [RB] at h
  by_cases hd : d.red = true
  · rw [if_pos hd] at h
    exact ⟨m, h.2.2.1, h.2.2.2, fun _ => ⟨h.1, h.2.1⟩, if_pos hd⟩
  · rw [if_neg hd] at h
    obtain ⟨m', rfl, a, b⟩ := h
    exact ⟨m', a, b, fun e => absurd e hd, by rw [if_neg hd]; lia⟩
theorem htis_keep {kvs1 kvs2 : List (Int × Int)} {l r : T} {m : Nat} (k2 : ∀ x, x ∉ nums r → lookKV kvs2 x = lookKV kvs1 x) (N : ∀ x ∈ nums l, x ∉ nums r) (h0 : set0 l) (t1 : HtIs kvs1 l m) : HtIs kvs2 l m := by
  cases l with
  | nil => exact t1
  | node ll lk ld lr =>
    show lookKV kvs2 ld.number = _
    have hmem : ld.number ∈ nums (.node ll lk ld lr) := by unfold nums; rw [eff_node0 h0.1]; simp [item]
    rw [k2 _ (N _ hmem)]
    exact t1
theorem ote_loop {hk nk : Nat} {vs : List V} {A : At} {v0 : Option V} (hnk : (nk, MO.list vs) ∈ A) : ∀ (s : T) (p : Option Nat) (m : Nat) (kvs : List (Int × Int)) (i cnt : Nat) (w : List V) (v3 v4 : Option V) (σ : St) (QS : Fl → Rho → St → Prop), Ho σ ((hk, MO.dict kvs) :: A) → (∀ x ∈ at_ p s, x ∈ A) → set0 s → limOk s → Srt (eff 0 s) → RB s m → (nums s).Nodup → kvs.length + size s < 1000 → vs.drop i = postT s ++ w →
    (∀ σ' kvs' v3 v4, Ho σ' ((hk, MO.dict kvs') :: A) → kvs'.length ≤ kvs.length + size s → (∀ x, x ∉ nums s → lookKV kvs' x = lookKV kvs x) → HtIs kvs' s m → vs.drop (i + size s) = w → wF (srcL nk) (daName 3) b_overlay_tree_error_1 cnt (i + size s) [v0, some (.ref hk), some (.ref nk), v3, v4] σ' QS) →
    wF (srcL nk) (daName 3) b_overlay_tree_error_1 (size s + cnt) i [v0, some (.ref hk), some (.ref nk), v3, v4] σ QS := by
  intro s
  induction s with
  | nil =>
    intro p m kvs i cnt w v3 v4 σ QS hs hA h0 lim S rb nn hl hv q
    have := q σ kvs v3 v4 hs (by lia) (fun _ _ => rfl) rb (by simpa [postT, size] using hv)
    simpa [size] using this
  | node l k d r ihl ihr =>
    intro p m kvs i cnt w v3 v4 σ QS hs hA h0 lim S rb nn hl hv q
    have mk1 : (k, MO.node (rc p l.root d r.root)) ∈ A := hA _ (.head _)
    have ml : ∀ x ∈ at_ (some k) l, x ∈ A := fun x hx => hA x (.tail _ (List.mem_append_left _ hx))
    have mr : ∀ x ∈ at_ (some k) r, x ∈ A := fun x hx => hA x (.tail _ (List.mem_append_right _ hx))
    have en : eff 0 (.node l k d r) = eff 0 l ++ item k d :: eff 0 r := eff_node0 h0.1
    have ns : nums (.node l k d r) = nums l ++ d.number :: nums r := by unfold nums; rw [en]; simp [item]
    rw [en] at S
    rw [ns] at nn q
    obtain ⟨S1, S2, S3⟩ := List.pairwise_append.mp S
    obtain ⟨S4, S5⟩ := List.pairwise_cons.mp S2
    obtain ⟨N1, N2, N3⟩ := List.nodup_append.mp nn
    obtain ⟨N4, N5⟩ := List.nodup_cons.mp N2
    obtain ⟨m', r1, r2, r3, r4⟩ := RB_kids rb
    simp only [size] at hl q ⊢
    rw [show size l + 1 + size r + cnt = size l + (size r + (cnt + 1)) by lia]
    simp only [postT, List.append_assoc] at hv
    refine ihl (some k) m' kvs i _ _ v3 v4 σ QS hs ml h0.2.1 lim.2.1 S1 r1 N1 (by lia) hv ?_
    intro σ1 kvs1 v3 v4 h1 l1 k1 t1 hv1
    refine ihr (some k) m' kvs1 _ _ _ v3 v4 σ1 QS h1 mr h0.2.2 lim.2.2 S5 r2 N5 (by lia) hv1 ?_
    intro σ2 kvs2 v3 v4 h2 l2 k2 t2 hv2
    have t1' : HtIs kvs2 l m' := htis_keep k2 (fun x hx hr => N3 _ hx _ (List.mem_cons_of_mem _ hr) rfl) h0.2.1 t1
    obtain ⟨g1, g2⟩ := drop_head (w := w) hv2
    wtm_at "sk"
    refine wF_step ((srcL_at h2 (.tail _ hnk) _).trans (congrArg some g1)) ?_
    wtm_at "wz"
    unfold b_overlay_tree_error_1
    wtm_at "wst"
    refine shape_error_sp h2 (fun x hx => .tail _ (hA x hx)) r3 (BegLe_of h0.2.1 fun i hi => S3 i hi _ (.head _)) (BegGe_of h0.2.2 fun i hi => S4 i hi) lim.1 ?_
    wtm_at "wz"
    wtm_at "wst"
    refine wS_seq ?_
    refine wS_assign ?_
    wtm_at "wz"
    refine black_height_sp h2 (fun x hx => .tail _ (hA x hx)) (.head _) t1' t2 ?_
    rw [r4]
    refine wA_sub ?_
    wtm_at "wz"
    obtain ⟨σ3, e3, h3⟩ := store_sp (i := d.number) (j := (m : Int)) h2 (by lia)
    refine ⟨σ3, e3, ?_⟩
    have hlk : lookKV (putKV kvs2 d.number m) d.number = some (m : Int) := by rw [lookKV_put, if_pos rfl]
    wtm_at "wz"
    refine wS_seq ?_
    refine wS_if ?_
    refine wE_cm ?_
    refine wE_idx ?_
    wtm_at "wz"
    refine ⟨.int m, ?_, ?_⟩
    · rw [itemAt_dict (h3.get (.head _)), hlk]
      rfl
    wtm_at "wz"
    have := q σ3 (putKV kvs2 d.number m) (some (.ref k)) (some .none) h3 (Nat.le_trans (putKV_le _ _ _) (by lia)) (fun x hx => ?_) hlk (by rw [← g2]; congr 1; lia)
    · rw [show i + (size l + 1 + size r) = i + size l + size r + 1 by lia] at this
      exact this
    · have n1 : x ∉ nums l := fun e => hx (List.mem_append_left _ e)
      have n2 : x ∉ nums r := fun e => hx (List.mem_append_right _ (.tail _ e))
      have n3 : d.number ≠ x := fun e => hx (List.mem_append_right _ (e ▸ .head _))
      rw [lookKV_put, if_neg n3, k2 x n2, k1 x n1]
theorem overlay_tree_error_sp {σ : St} {tk : Nat} {t : T} {F : At} (hs : Ho σ (at_ Option.none t ++ ((tk, MO.tree ⟨t.root, (size t : Int)⟩) :: F))) (g : GT t) (hz : size t < 400) (nn : (nums t).Nodup) {Q : V → St → Prop}
    (q : ∀ σ' t', Ho σ' (at_ Option.none t' ++ ((tk, MO.tree ⟨t'.root, (size t' : Int)⟩) :: F)) → GT t' → eff 0 t' = eff 0 t → Q .none σ') : wG g_overlay_tree_error [.ref tk] σ Q := by
  unfold g_overlay_tree_error s_overlay_tree_error
  refine wG_fun rfl ?_
  refine wS_seq ?_
  refine wS_assign ?_
  refine wE_dict ?_
  have h1 := hs.new (MO.dict [])
  generalize σ.length = hk at h1 ⊢
  wtm_at "wz"
  wtm_at "wst"
  refine nodes_from_below_sp (F := (hk, MO.dict []) :: F) (h1.perm (by wtm_at "pm")) hz ?_
  intro σ1 nk h2
  have E := settle_eqv t 0
  rw [push_zero] at E
  obtain ⟨m, rb⟩ := g.rb
  have e1 : eff 0 (settle 0 t) = eff 0 t := E.eff 0
  have gu : GT (settle 0 t) := ⟨E.lim g.lim, ⟨m, E.rb m rb⟩, E.red.trans g.black, by rw [e1]; exact g.srt⟩
  have su : size (settle 0 t) = size t := by
    have a1 := eff_len t 0
    have a2 := eff_len (settle 0 t) 0
    rw [e1] at a2
    lia
  have s0 := settle_set0 t 0
  rw [preT_rev, ← postT_settle t 0, ← settle_root 0 t, ← su] at h2
  have nu : (nums (settle 0 t)).Nodup := by unfold nums; rw [e1]; exact nn
  rw [← e1] at q
  have rbu := E.rb m rb
  generalize settle 0 t = u at *
  have plen : (postT u).length = size u := by rw [← preT_rev, List.length_reverse, preT_len]
  wtm_at "wz"
  refine wS_seq ?_
  refine wS_if ?_
  refine wE_cm ?_
  wtm_at "wz"
  refine len_sp h2 (by wtm_at "mem") ?_
  wtm_at "wz"
  refine br_f (by simp [Cop.ev, plen]) ?_
  wtm_at "wz"
  refine wS_seq ?_
  refine wS_for ?_
  refine wI_list ?_
  wtm_at "wz"
  refine ⟨nk, _, rfl, lstAt_of (h2.get (by wtm_at "mem")), ?_⟩
  rw [plen]
  refine ote_loop (hk := hk) (nk := nk) (vs := postT u) (A := at_ Option.none u ++ ((nk, MO.list (postT u)) :: (tk, MO.tree ⟨u.root, (size u : Int)⟩) :: F)) (by wtm_at "mem") u Option.none m [] 0 0 [] _ _ σ1 _ (h2.perm (by wtm_at "pm")) (fun x hx => List.mem_append_left _ hx) s0 gu.lim gu.srt rbu nu (by simp; lia) (by simp) ?_
  intro σ2 kvs' v3 v4 h3 _ _ _ hv
  wtm_at "sk"
  refine wF_stop ((srcL_at h3 (.tail _ (by wtm_at "mem")) _).trans (congrArg some (drop_nil hv))) ?_
  wtm_at "wz"
  have h4 := h3
  have fin : Q .none σ2 := q σ2 u (Ho.tail (x := (hk, MO.dict kvs')) (Ho.tail (x := (nk, MO.list (postT u))) (h3.perm (by wtm_at "pm")))) gu rfl
  wtm_at "sk"
  refine wS_seq ?_
  refine wS_ret ?_
  refine wE_ite ?_
  refine wE_and ?_
  refine wE_cm ?_
  cases u with
  | nil =>
    wtm_at "wz"
    exact fin
  | node l k d r =>
    simp only [at_, List.cons_append, List.append_assoc, T.root] at h4
    have hb : d.red = false := gu.black
    wtm_at "wz"
    refine br_f' hb ?_
    wtm_at "wz"
    exact fin
/-! # the law's own definitions -/
noncomputable def dkA (dk lk : Nat) (L : List Int) (c : Int) (F : At) : At := (dk, MO.list [.ref lk, .int c]) :: (lk, MO.list (L.map V.int)) :: F
theorem fmod_in {a b : Int} (h : 0 < b) : 0 ≤ a.fmod b ∧ a.fmod b < b := ⟨Int.fmod_nonneg_of_pos a h, Int.fmod_lt_of_pos a h⟩
local macro_rules | `(tactic| wtm_at "wq") => `(tactic| repeat (first | wtm_at "w0" | (with_reducible refine wE_idx ?_) | (with_reducible refine ⟨_, ‹itemAt _ _ _ = some _›, ?_⟩)))
theorem law_draw_sp {σ : St} {dk lk : Nat} {L : List Int} {c many : Int} {F : At} (hs : Ho σ (dkA dk lk L c F)) (h0 : 0 ≤ c) (h1 : c < 1000) (hL : L.length < 1000) (hm : 0 < many) {Q : V → St → Prop}
    (q : ∀ σ' r, 0 ≤ r → r < many → Ho σ' (dkA dk lk L (c + 1) F) → Q (.int r) σ') : wG g_law_draw [.ref dk, .int many] σ Q := by
  unfold g_law_draw s_law_draw
  refine wG_fun rfl ?_
  unfold dkA at hs
  wtm_at "sk"
  refine wS_seq ?_
  refine wS_assign ?_
  refine wE_bin ?_
  refine wE_idx ?_
  wtm_at "wz"
  refine ⟨.int c, by rw [itemAt_list (hs.get (.head _)) (by lia) (by lia)]; rfl, ?_⟩
  wtm_at "wz"
  refine wA_sub ?_
  wtm_at "wz"
  have h2 : Ho (σ.set dk (.list [.ref lk, .int (c + 1)])) ((dk, MO.list [.ref lk, .int (c + 1)]) :: (lk, MO.list (L.map V.int)) :: F) := hs.rep RepA.head
  refine ⟨σ.set dk (.list [.ref lk, .int (c + 1)]), ?_, ?_⟩
  · show (σ[dk]?.bind _) = _
    rw [hs.get (.head _)]
    rfl
  generalize σ.set dk (.list [.ref lk, .int (c + 1)]) = σ1 at h2
  clear hs
  have q1 := q σ1
  wtm_at "wz"
  have i0 : itemAt σ1 (.ref dk) (.int 0) = some (.ref lk) := by rw [itemAt_list (h2.get (.head _)) (by lia) (by lia)]; rfl
  have i1 : itemAt σ1 (.ref dk) (.int 1) = some (.int (c + 1)) := by rw [itemAt_list (h2.get (.head _)) (by lia) (by lia)]; rfl
  wtm_at "sk"
  refine wS_seq ?_
  refine wS_if ?_
  refine wE_cm ?_
  refine wE_idx ?_
  wtm_at "wz"
  refine ⟨_, i1, ?_⟩
  refine wE_call ?_
  refine wL_cons ?_
  refine wE_idx ?_
  wtm_at "wz"
  refine ⟨_, i0, ?_⟩
  wtm_at "wz"
  refine len_sp h2 (.tail _ (.head _)) ?_
  wtm_at "wz"
  rw [List.length_map]
  by_cases hc : c + 1 ≤ (L.length : Int)
  · refine br_t (by simp [Cop.ev, hc]) ?_
    have hlt : c.toNat < L.length := by lia
    wtm_at "wst"
    refine wE_idx ?_
    refine wE_idx ?_
    wtm_at "wz"
    refine ⟨_, i0, ?_⟩
    refine wE_bin ?_
    refine wE_idx ?_
    wtm_at "wz"
    refine ⟨_, i1, ?_⟩
    wtm_at "wz"
    refine ⟨.int L[c.toNat], ?_, ?_⟩
    · rw [show c + 1 - 1 = c by lia, itemAt_list (h2.get (.tail _ (.head _))) h0 (by lia)]
      simp [hlt]
    wtm_at "wz"
    refine ⟨(L[c.toNat]).fmod many, by simp only [Bop.ev]; rw [if_pos (by lia)], ?_⟩
    wtm_at "wz"
    exact q1 _ (fmod_in hm).1 (fmod_in hm).2 h2
  · refine br_f (by simp [Cop.ev]; lia) ?_
    have hcc : (c + 1) * (c + 1) < 1001 * 1001 := by
      have a1 : (c + 1) * (c + 1) ≤ 1000 * (c + 1) := Int.mul_le_mul_of_nonneg_right (by lia) (by lia)
      lia
    have hcp : 0 ≤ (c + 1) * (c + 1) := Int.mul_nonneg (by lia) (by lia)
    wtm_at "wz"
    wtm_at "wst"
    wtm_at "wq"
    refine ⟨(c + 1) * (c + 1), by simp only [Bop.ev]; rw [if_pos (by lia)], ?_⟩
    wtm_at "wq"
    refine ⟨(c + 1) * (c + 1) * 43, by simp only [Bop.ev]; rw [if_pos (by lia)], ?_⟩
    wtm_at "wq"
    refine len_sp h2 (.tail _ (.head _)) ?_
    wtm_at "wq"
    refine ⟨_, by simp only [Bop.ev]; rw [if_pos (by lia)], ?_⟩
    wtm_at "wq"
    exact q1 _ (fmod_in hm).1 (fmod_in hm).2 h2
theorem law_edit_sp {σ : St} {dk lk : Nat} {L : List Int} {c low high : Int} {F : At} (hs : Ho σ (dkA dk lk L c F)) (h0 : 0 ≤ c) (h1 : c + 10 < 1000) (hL : L.length < 1000) (hlh : low ≤ high) {Q : V → St → Prop}
    (q : ∀ σ' a n h c', low ≤ a → a ≤ high → (0 < n ∨ (n ≤ 0 ∧ -n ≤ high - a)) → c ≤ c' → c' ≤ c + 4 → Ho σ' (dkA dk lk L c' F) → Q (.tup [.int a, .int n, .bool h]) σ') : wG g_law_edit [.ref dk, .int low, .int high] σ Q := by
  unfold g_law_edit s_law_edit
  refine wG_fun rfl ?_
  wtm_at "wst"
  refine law_draw_sp hs h0 (by lia) hL (by lia) ?_
  intro σ1 r1 a1 a2 k1
  wtm_at "wz"
  refine wS_seq ?_
  refine wS_if ?_
  refine wE_cm ?_
  wtm_at "wz"
  refine law_draw_sp k1 (by lia) (by lia) hL (by lia) ?_
  intro σ2 r2 a3 a4 k2
  wtm_at "wz"
  by_cases hr : r2 = 0
  · refine br_t (by simp [Cop.ev, hr]) ?_
    wtm_at "wst"
    refine law_draw_sp k2 (by lia) (by lia) hL (by lia) ?_
    intro σ3 r3 a5 a6 k3
    wtm_at "wz"
    refine law_draw_sp k3 (by lia) (by lia) hL (by lia) ?_
    intro σ4 r4 a7 a8 k4
    wtm_at "wz"
    exact q σ4 _ _ _ _ (by lia) (by lia) (.inl (by lia)) (by lia) (by lia) k4
  · refine br_f (by simp [Cop.ev, hr]) ?_
    wtm_at "wz"
    wtm_at "wst"
    refine law_draw_sp k2 (by lia) (by lia) hL (by lia) ?_
    intro σ3 r3 a5 a6 k3
    wtm_at "wz"
    exact q σ3 _ _ _ _ (by lia) (by lia) (.inr ⟨by lia, by lia⟩) (by lia) (by lia) k3

structure Row where
  number : Int
  b : Int
  e : Int
  f : Bool
  r : Bool
noncomputable def strip (i : Item) : Row := ⟨i.number, i.b, i.e, i.front, i.rear⟩
noncomputable def goesB (a : Int) (h : Bool) (x : Row) : Bool := decide (x.b > a) || (decide (x.b = a) && (h || (x.f && (decide (x.b ≠ x.e) || x.r))))
noncomputable def ledR (a n : Int) (h : Bool) (x : Row) : Row :=
  if n > 0 then { x with b := if goesB a h x = true then x.b + n else x.b, e := shE a n h x.e x.r }
  else { x with b := clo a (0 - n) x.b, e := clo a (0 - n) x.e }
theorem wE_eq {d : DE} {ρ : Rho} {σ : St} {v : V} {Q : V → St → Prop} (e : d ρ σ = some (v, σ)) (q : Q v σ) : wE d ρ σ Q := ⟨v, σ, e, q⟩
theorem or_eq {a b : DE} {ρ : Rho} {σ : St} {x y : Bool} (ha : a ρ σ = some (.bool x, σ)) (hb : b ρ σ = some (.bool y, σ)) : dOr a b ρ σ = some (.bool (x || y), σ) := by
  simp only [dOr, ha, Option.bind_some, V.toBool, hb, Option.map_some]
  cases x <;> rfl
theorem and_eq {a b : DE} {ρ : Rho} {σ : St} {x y : Bool} (ha : a ρ σ = some (.bool x, σ)) (hb : b ρ σ = some (.bool y, σ)) : dAnd a b ρ σ = some (.bool (x && y), σ) := by
  simp only [dAnd, ha, Option.bind_some, V.toBool, hb, Option.map_some]
  cases x <;> rfl
theorem cmi_eq {a b : DE} {ρ : Rho} {σ : St} {o : Cop} {i j : Int} (ha : a ρ σ = some (.int i, σ)) (hb : b ρ σ = some (.int j, σ)) : dCm (cInt o) a b ρ σ = some (.bool (o.ev i j), σ) := by
  simp only [dCm, ha, Option.bind_some, hb]
  rfl
theorem beq_dec (i j : Int) : (i == j) = decide (i = j) := rfl
theorem bne_dec (i j : Int) : (i != j) = decide (i ≠ j) := by
  rw [decide_not]
  rfl
theorem clo_max {a n x : Int} (h : ¬ x ≤ a) : clo a (0 - n) x = if x + n > a then x + n else a := by
  unfold clo
  rw [if_pos (by lia)]
  split <;> split <;> lia
theorem law_led_sp {σ : St} {A : At} {num b e a n : Int} {f r h : Bool} (hs : Ho σ A) {Q : V → St → Prop} (q : ∀ σ', Ho σ' A → Q (.tup [.int (ledR a n h ⟨num, b, e, f, r⟩).b, .int (ledR a n h ⟨num, b, e, f, r⟩).e, .bool f, .bool r]) σ') :
    wG g_law_led [.tup [.int b, .int e, .bool f, .bool r], .tup [.int a, .int n, .bool h]] σ Q := by
  unfold g_law_led s_law_led
  refine wG_fun rfl ?_
  refine wS_seq ?_
  refine wS_assign ?_
  wtm_at "wz"
  refine wA_tup rfl ?_
  wtm_at "wz"
  refine wS_seq ?_
  refine wS_assign ?_
  wtm_at "wz"
  refine wA_tup rfl ?_
  refine (?_ : wS _ [some (.tup [.int b, .int e, .bool f, .bool r]), some (.tup [.int a, .int n, .bool h]), Option.none, some (.int b), some (.int e), some (.bool f), some (.bool r), some (.int a), some (.int n), some (.bool h), Option.none, Option.none] σ _)
  refine wS_seq ?_
  refine wS_if ?_
  refine wE_cm ?_
  wtm_at "wz"
  by_cases hn : n > 0
  · refine br_t (by simp [Cop.ev, hn]) ?_
    unfold ledR at q
    rw [if_pos hn] at q
    wtm_at "sk"
    refine wS_seq ?_
    refine wS_assign ?_
    refine wE_eq (v := .bool (goesB a h ⟨num, b, e, f, r⟩)) ?_ ?_
    · refine (or_eq (cmi_eq (o := .gt) (i := b) (j := a) rfl rfl) (and_eq (cmi_eq (o := .eq) (i := b) (j := a) rfl rfl) (or_eq (x := h) rfl (and_eq (x := f) rfl (or_eq (cmi_eq (o := .ne) (i := b) (j := e) rfl rfl) (y := r) rfl))))).trans ?_
      unfold goesB
      simp only [Cop.ev, bne_dec, beq_dec]
    wtm_at "wz"
    refine wS_seq ?_
    refine wS_assign ?_
    refine wE_eq (v := .bool (gro a h e r)) ?_ ?_
    · refine (or_eq (cmi_eq (o := .gt) (i := e) (j := a) rfl rfl) (and_eq (cmi_eq (o := .eq) (i := e) (j := a) rfl rfl) (or_eq (x := h) (y := r) rfl rfl))).trans ?_
      unfold gro
      simp only [Cop.ev, beq_dec]
    wtm_at "wz"
    refine wS_seq ?_
    refine wS_ret ?_
    refine wE_tup ?_
    refine wL_cons ?_
    refine wE_eq (v := .int (if goesB a h ⟨num, b, e, f, r⟩ = true then b + n else b)) ?_ ?_
    · cases goesB a h ⟨num, b, e, f, r⟩ <;> simp [dIte, dVar, dBin, V.toBool, V.toInt, Bop.ev, rho0]
    refine wL_cons ?_
    refine wE_eq (v := .int (shE a n h e r)) ?_ ?_
    · unfold shE
      cases gro a h e r <;> simp [dIte, dVar, dBin, V.toBool, V.toInt, Bop.ev, rho0]
    wtm_at "wz"
    exact q σ hs
  · refine br_f (by simp [Cop.ev]; lia) ?_
    unfold ledR at q
    rw [if_neg hn] at q
    wtm_at "wz"
    refine wS_seq ?_
    refine wS_assign ?_
    refine wE_comp rfl ?_
    refine wI_tup ?_
    wtm_at "wz"
    have h1 := hs.new (MO.list [])
    generalize σ.length = ck at h1 ⊢
    generalize σ ++ [MO.list []] = σ1 at h1
    have elt : ∀ (x : Int) (σ2 : St) (QQ : V → St → Prop), QQ (.int (clo a (0 - n) x)) σ2 → wE (dIte (dCm (cInt .le) (dVar 0) (dVar 1)) (dVar 0) (dCall gMax (dCons (dVar 1) (dCons (dBin .add (dVar 0) (dVar 2)) dNil)))) [some (.int x), some (.int a), some (.int n)] σ2 QQ := by
      intro x σ2 QQ qq
      refine wE_ite ?_
      refine wE_cm ?_
      wtm_at "wz"
      by_cases hx : x ≤ a
      · refine br_t (by simp [Cop.ev, hx]) ?_
        wtm_at "wz"
        rw [clo_low hx] at qq
        exact qq
      · refine br_f (by simp [Cop.ev]; lia) ?_
        wtm_at "wz"
        refine gmax_sp ?_
        rw [clo_max hx] at qq
        exact qq
    refine wC_step rfl ?_
    refine wE_bool ?_
    refine ⟨true, rfl, fun _ => ?_, fun e => (nomatch e)⟩
    refine elt b σ1 _ ?_
    obtain ⟨σ2, e2, h2⟩ := appAt_sp (v := V.int (clo a (0 - n) b)) h1 (by decide)
    refine ⟨σ2, e2, ?_⟩
    refine wC_step rfl ?_
    refine wE_bool ?_
    refine ⟨true, rfl, fun _ => ?_, fun e => (nomatch e)⟩
    refine elt e σ2 _ ?_
    obtain ⟨σ3, e3, h3⟩ := appAt_sp (v := V.int (clo a (0 - n) e)) h2 (by simp)
    refine ⟨σ3, e3, ?_⟩
    refine wC_stop rfl ?_
    wtm_at "wz"
    have i0 : itemAt σ3 (.ref ck) (.int 0) = some (.int (clo a (0 - n) b)) := by rw [itemAt_list (h3.get (.head _)) (by lia) (by lia)]; rfl
    have i1 : itemAt σ3 (.ref ck) (.int 1) = some (.int (clo a (0 - n) e)) := by rw [itemAt_list (h3.get (.head _)) (by lia) (by lia)]; rfl
    wtm_at "wst"
    wtm_at "wq"
    exact q σ3 h3.tail
theorem ledR_open {a n : Int} {h : Bool} {i : Item} (hn : n > 0) (be : i.b ≤ i.e) : strip (ogI a n h i) = ledR a n h (strip i) := by
  obtain ⟨k, num, b, e, f, r⟩ := i
  simp only [] at be
  unfold ledR
  rw [if_pos hn]
  unfold ogI ogMoves goesB shE gro strip
  simp only []
  by_cases hb : b = a
  · subst hb
    cases hc : (h || (f && (decide (b ≠ e) || r))) with
    | true =>
      rw [decide_eq_true rfl, Bool.true_and, if_pos rfl, Bool.or_true, if_pos rfl]
      unfold ogM
      simp only [Row.mk.injEq, true_and, and_true]
      by_cases he : e = b
      · subst he
        rw [decide_eq_false (by simp), decide_eq_false (by lia), decide_eq_true rfl, Bool.false_or, Bool.false_or, Bool.true_and, Bool.or_comm]
      · rw [decide_eq_true he, decide_eq_true (by lia), Bool.true_or, Bool.true_or]
    | false =>
      rw [decide_eq_true rfl, Bool.true_and, if_neg (by simp), decide_eq_false (by lia), Bool.or_false, if_neg (by simp)]
      unfold shI shB shE gro
      simp only [Row.mk.injEq, true_and, and_true]
      rw [if_neg (by lia)]
  · rw [decide_eq_false hb, Bool.false_and, if_neg (by simp), Bool.or_false]
    unfold shI shB shE gro
    simp only [Row.mk.injEq, true_and, and_true]
    by_cases h1 : b > a
    · rw [if_pos h1, decide_eq_true h1, if_pos rfl]
    · rw [if_neg h1, decide_eq_false h1, if_neg (by simp)]
theorem ledR_close {a n : Int} {h : Bool} {i : Item} (hn : ¬ n > 0) : strip (cgI a (0 - n) i) = ledR a n h (strip i) := by
  unfold ledR
  rw [if_neg hn]
  rfl
noncomputable def BER (R : List Row) : Prop := ∀ x ∈ R, x.b ≤ x.e
theorem ledR_BE {a n : Int} {h : Bool} {x : Row} (be : x.b ≤ x.e) : (ledR a n h x).b ≤ (ledR a n h x).e := by
  obtain ⟨num, b, e, f, r⟩ := x
  simp only [] at be
  unfold ledR
  split
  · rename_i hn
    unfold goesB shE gro
    simp only []
    by_cases h1 : b > a
    · rw [decide_eq_true h1, Bool.true_or, if_pos rfl, decide_eq_true (show e > a by lia), Bool.true_or, if_pos rfl]
      lia
    · rw [decide_eq_false h1, Bool.false_or]
      by_cases h2 : b = a
      · rw [decide_eq_true h2, Bool.true_and]
        by_cases h3 : e > a
        · rw [decide_eq_true h3, Bool.true_or, if_pos rfl]
          split <;> lia
        · rw [decide_eq_false h3, Bool.false_or, decide_eq_true (show e = a by lia), Bool.true_and, decide_eq_false (show ¬ b ≠ e by lia), Bool.false_or]
          cases h <;> cases f <;> cases r <;> simp <;> lia
      · rw [decide_eq_false h2, Bool.false_and, if_neg (by simp)]
        split <;> lia
  · unfold clo
    simp only []
    split <;> split <;> (try split) <;> (try split) <;> lia
theorem BE_of {t : T} {R : List Row} (p : ((eff 0 t).map strip).Perm R) (h : BER R) : BE (eff 0 t) := fun i hi => h (strip i) (p.mem_iff.mp (List.mem_map_of_mem hi))
theorem law_done_sp {σ : St} {tk : Nat} {t : T} {F : At} {a n s : Int} {h : Bool} {R : List Row} (hs : Ho σ (at_ Option.none t ++ ((tk, MO.tree ⟨t.root, (size t : Int)⟩) :: F))) (g : GT t) (p : ((eff 0 t).map strip).Perm R) (be : BER R) (hz : R.length < 400) {Q : V → St → Prop}
    (q : ∀ σ' t', Ho σ' (at_ Option.none t' ++ ((tk, MO.tree ⟨t'.root, (size t' : Int)⟩) :: F)) → GT t' → ((eff 0 t').map strip).Perm (R.map (ledR (a + s) n h)) → Q .none σ') : wG g_law_done [.ref tk, .tup [.int a, .int n, .bool h], .int s] σ Q := by
  unfold g_law_done s_law_done
  refine wG_fun rfl ?_
  have beT := BE_of p be
  have hsz : size t < 400 := by
    have a1 := p.length_eq
    rw [List.length_map, eff_len] at a1
    lia
  have i0 : itemAt σ (.tup [.int a, .int n, .bool h]) (.int 0) = some (.int a) := by rw [itemAt_tup (by lia) (by lia)]; rfl
  have i1 : itemAt σ (.tup [.int a, .int n, .bool h]) (.int 1) = some (.int n) := by rw [itemAt_tup (by lia) (by lia)]; rfl
  have i2 : itemAt σ (.tup [.int a, .int n, .bool h]) (.int 2) = some (.bool h) := by rw [itemAt_tup (by lia) (by lia)]; rfl
  wtm_at "sk"
  refine wS_seq ?_
  refine wS_if ?_
  refine wE_cm ?_
  wtm_at "wq"
  by_cases hn : n > 0
  · refine br_t (by simp [Cop.ev, hn]) ?_
    wtm_at "wst"
    wtm_at "wq"
    refine open_gap_sp hs g beT hsz hn ?_
    intro σ1 t1 h1 g1 p1
    wtm_at "wz"
    refine q σ1 t1 h1 g1 ?_
    refine (p1.map strip).trans ?_
    rw [List.map_map]
    refine List.Perm.trans ?_ (p.map (ledR (a + s) n h))
    rw [List.map_map]
    refine .of_eq (List.map_congr_left fun i hi => ?_)
    exact ledR_open hn (beT i hi)
  · refine br_f (by simp [Cop.ev]; lia) ?_
    wtm_at "wst"
    wtm_at "wq"
    refine close_gap_sp hs g beT hsz (by lia) ?_
    intro σ1 t1 h1 g1 e1
    have hs1 : size t1 = size t := by
      have a1 := eff_len t 0
      have a2 := eff_len t1 0
      rw [e1, List.length_map] at a2
      lia
    rw [← hs1] at h1
    wtm_at "wz"
    refine q σ1 t1 h1 g1 ?_
    rw [e1, List.map_map]
    refine List.Perm.trans ?_ (p.map (ledR (a + s) n h))
    rw [List.map_map]
    refine .of_eq (List.map_congr_left fun i hi => ?_)
    exact ledR_close hn
noncomputable def lnV (x : Row) : V := .tup [.int x.b, .int x.e, .bool x.f, .bool x.r]
noncomputable def NumFrom : Nat → List Row → Prop
  | _, [] => True
  | i, x :: R => x.number = (i : Int) ∧ NumFrom (i + 1) R
theorem drop_cons {α : Type} {vs : List α} {i : Nat} {v : α} {w : List α} (h : vs.drop i = v :: w) : vs[i]? = some v ∧ vs.drop (i + 1) = w := by
  constructor
  · have := congrArg (·[0]?) h
    simpa using this
  · have := congrArg (List.drop 1) h
    rw [List.drop_drop] at this
    simpa using this
theorem srcE_at {σ : St} {A : At} {j : Nat} {vs : List V} (hs : Ho σ A) (hm : (j, MO.list vs) ∈ A) (i : Nat) : srcE j i σ = some (vs[i]?.map fun v => V.tup [.int i, v]) := by
  unfold srcE
  rw [lstAt_of (hs.get hm)]
  rfl
theorem tree_loop {lk tk : Nat} {vs : List V} {A : At} (hm : (lk, MO.list vs) ∈ A) : ∀ (R : List Row) (i : Nat) (t : T) (v2 v3 v4 v5 v6 : Option V) (σ : St) (QS : Fl → Rho → St → Prop), Ho σ (at_ Option.none t ++ ((tk, MO.tree ⟨t.root, (size t : Int)⟩) :: A)) → GT t → vs.drop i = R.map lnV → NumFrom i R →
    (∀ σ' t' v2 v3 v4 v5 v6, Ho σ' (at_ Option.none t' ++ ((tk, MO.tree ⟨t'.root, (size t' : Int)⟩) :: A)) → GT t' → ((eff 0 t').map strip).Perm ((eff 0 t).map strip ++ R) → QS .next [some (.ref lk), some (.ref tk), v2, v3, v4, v5, v6] σ') →
    wF (srcE lk) (daTup [(daName 2), (daTup [(daName 3), (daName 4), (daName 5), (daName 6)])]) b_law_tree_1 R.length i [some (.ref lk), some (.ref tk), v2, v3, v4, v5, v6] σ QS
  | [], i, t, v2, v3, v4, v5, v6, σ, QS, hs, g, hv, nf, q => by
    wtm_at "sk"
    refine wF_stop ((srcE_at hs (by wtm_at "mem") i).trans ?_) ?_
    · rw [drop_nil hv]; rfl
    exact q σ t v2 v3 v4 v5 v6 hs g (by simp)
  | x :: R, i, t, v2, v3, v4, v5, v6, σ, QS, hs, g, hv, nf, q => by
    obtain ⟨h1, h2⟩ := drop_cons (v := lnV x) (w := R.map lnV) hv
    wtm_at "sk"
    refine wF_step (v := .tup [.int i, lnV x]) ((srcE_at hs (by wtm_at "mem") i).trans ?_) ?_
    · rw [h1]; rfl
    refine wA_tup (r := ([some (.ref lk), some (.ref tk), some (.int i), some (.int x.b), some (.int x.e), some (.bool x.f), some (.bool x.r)], σ)) rfl ?_
    simp only []
    unfold b_law_tree_1
    wtm_at "sk"
    refine wS_seq ?_
    refine wS_expr ?_
    refine wE_call ?_
    refine wL_cons ?_
    wtm_at "wz"
    refine ⟨_, _, rfl, ?_⟩
    have h3 := hs.new (MO.node (rc Option.none Option.none ⟨i, x.b, x.e, x.f, x.r, x.e, 0, false⟩ Option.none))
    generalize σ.length = nk at h3 ⊢
    obtain ⟨m, rb⟩ := g.rb
    wtm_at "wz"
    refine put_node_sp (tk := tk) (k := nk) (t := t) (F := A) (h3.perm (by wtm_at "pm")) rb g.black g.lim g.srt ?_
    intro σ2 t2 B1 B2 k1 k2 k3 k4 k5 k6 k7 k8
    have hsz : (size t : Int) + 1 = (size t2 : Int) := by
      have a1 := eff_len t 0
      have a2 := eff_len t2 0
      rw [k2] at a1
      rw [k3] at a2
      simp at a1 a2
      lia
    rw [hsz] at k1
    have gs := g.srt
    rw [k2] at gs
    have g2 : GT t2 := ⟨k6, k7, k8, by
      rw [k3]
      obtain ⟨s1, s2, s3⟩ := List.pairwise_append.mp gs
      refine List.pairwise_append.mpr ⟨s1, List.pairwise_cons.mpr ⟨fun x hx => k5 x hx, s2⟩, fun x hx y hy => ?_⟩
      rcases List.mem_cons.mp hy with rfl | hy
      · exact Int.le_of_lt (k4 x hx)
      · exact s3 x hx y hy⟩
    wtm_at "wz"
    refine tree_loop hm R (i + 1) t2 _ _ _ _ _ σ2 QS k1 g2 h2 nf.2 ?_
    intro σ3 t3 v2 v3 v4 v5 v6 j1 j2 j3
    refine q σ3 t3 v2 v3 v4 v5 v6 j1 j2 (j3.trans ?_)
    rw [k3, k2]
    have e1 : strip (item nk ⟨i, x.b, x.e, x.f, x.r, x.e, 0, false⟩) = x := by
      obtain ⟨num, b, e, f, r⟩ := x
      have : num = (i : Int) := nf.1
      subst this
      rfl
    simp only [List.map_append, List.map_cons, e1, List.append_assoc, List.cons_append]
    refine List.Perm.append_left _ ?_
    exact List.perm_middle.symm
theorem law_tree_sp {σ : St} {lk : Nat} {R : List Row} {A : At} (hs : Ho σ A) (hm : (lk, MO.list (R.map lnV)) ∈ A) (nf : NumFrom 0 R) {Q : V → St → Prop}
    (q : ∀ σ' tk t, Ho σ' (at_ Option.none t ++ ((tk, MO.tree ⟨t.root, (size t : Int)⟩) :: A)) → GT t → ((eff 0 t).map strip).Perm R → Q (.ref tk) σ') : wG g_law_tree [.ref lk] σ Q := by
  unfold g_law_tree s_law_tree
  refine wG_fun rfl ?_
  refine wS_seq ?_
  refine wS_assign ?_
  refine wE_call ?_
  refine wL_nil ?_
  refine ⟨_, _, rfl, ?_⟩
  have h3 := hs.new (MO.tree ⟨Option.none, 0⟩)
  generalize σ.length = tk at h3 ⊢
  wtm_at "wz"
  refine wS_seq ?_
  refine wS_for ?_
  refine wI_enum ?_
  wtm_at "wz"
  refine ⟨lk, _, rfl, lstAt_of (h3.get (.tail _ hm)), ?_⟩
  rw [List.length_map]
  refine tree_loop (tk := tk) hm R 0 .nil _ _ _ _ _ _ _ h3 ⟨trivial, ⟨0, rfl⟩, rfl, List.Pairwise.nil⟩ rfl nf ?_
  intro σ2 t v2 v3 v4 v5 v6 k1 k2 k3
  wtm_at "wz"
  wtm_at "ws"
  exact q σ2 tk t k1 k2 k3
/-! ## sorted -/
noncomputable def insAll (x : Int) : List Int → List (List Int)
  | [] => [[x]]
  | y :: l => (x :: y :: l) :: (insAll x l).map (y :: ·)
noncomputable def permsL : List Int → List (List Int)
  | [] => [[]]
  | x :: l => (permsL l).flatMap (insAll x)
theorem insAll_mem (x : Int) : ∀ A B : List Int, A ++ x :: B ∈ insAll x (A ++ B)
  | [], [] => .head _
  | [], _ :: _ => .head _
  | a :: A, B => by
    simp only [List.cons_append, insAll]
    exact .tail _ (List.mem_map_of_mem (insAll_mem x A B))
theorem permsL_mem : ∀ (l' l : List Int), l.Perm l' → l ∈ permsL l'
  | [], l, h => by rw [h.eq_nil]; exact .head _
  | x :: l', l, h => by
    have hx : x ∈ l := h.mem_iff.mpr (.head _)
    obtain ⟨A, B, rfl⟩ := List.append_of_mem hx
    have h2 : (A ++ B).Perm l' := (List.perm_middle.symm.trans h).cons_inv
    exact List.mem_flatMap.mpr ⟨A ++ B, permsL_mem l' (A ++ B) h2, insAll_mem x A B⟩
noncomputable def iotaZ (n : Nat) : List Int := (List.range n).map Int.ofNat
noncomputable def ltP (ns : List Int) (i j : Nat) : Option Bool := match ns[i]?, ns[j]? with
  | some a, some b => some (decide (a < b))
  | _, _ => Option.none
noncomputable def sortOK (ns : List Int) : Bool := match runO (ltP ns) (kas_sort ns.length) with
  | some arr => decide (arr.toList.map (fun i => ns.getD i (-1)) = iotaZ ns.length)
  | Option.none => false
theorem sort2 : ∀ ns ∈ permsL (iotaZ 2), sortOK ns = true := by decide +kernel
theorem sort3 : ∀ ns ∈ permsL (iotaZ 3), sortOK ns = true := by decide +kernel
theorem sort4 : ∀ ns ∈ permsL (iotaZ 4), sortOK ns = true := by decide +kernel
theorem sort5 : ∀ ns ∈ permsL (iotaZ 5), sortOK ns = true := by decide +kernel
noncomputable def rowI (x : Row) : List Int := [x.number, x.b, x.e]
noncomputable def rowR (x : Row) : V := .tup [.int x.number, .int x.b, .int x.e]
theorem intsOf_row (x : Row) : intsOf (rowR x) = some (rowI x) := rfl
theorem mapM_rows : ∀ P : List Row, (P.map rowR).mapM intsOf = some (P.map rowI)
  | [] => rfl
  | x :: P => by
    rw [List.map_cons, List.mapM_cons, mapM_rows P, intsOf_row]
    rfl
theorem numFrom_map : ∀ (D : List Row) (i : Nat), NumFrom i D → ∀ (j : Nat) (x : Row), D[j]? = some x → x.number = ((i + j : Nat) : Int)
  | [], _, _, j, x, h => by simp at h
  | y :: D, i, nf, 0, x, h => by
    simp at h
    subst h
    exact nf.1
  | y :: D, i, nf, j + 1, x, h => by
    have := numFrom_map D (i + 1) nf.2 j x (by simpa using h)
    rw [this]
    congr 1
    lia
theorem numFrom_iota {D : List Row} (nf : NumFrom 0 D) : D.map (·.number) = iotaZ D.length := by
  apply List.ext_getElem?
  intro j
  unfold iotaZ
  rw [List.getElem?_map, List.getElem?_map]
  by_cases hj : j < D.length
  · rw [List.getElem?_eq_getElem hj, List.getElem?_range hj]
    have := numFrom_map D 0 nf j D[j] (List.getElem?_eq_getElem hj)
    simp only [Option.map_some, this]
    simp
  · rw [List.getElem?_eq_none (by lia), List.getElem?_eq_none (by simp; lia)]
    rfl
theorem iota_nodup (n : Nat) : (iotaZ n).Nodup := by
  unfold iotaZ
  rw [List.nodup_iff_pairwise_ne, List.pairwise_map]
  exact List.nodup_range.imp fun h e => h (Int.ofNat.inj e)
theorem ltAt_ltP {P : List Row} (hn : (P.map (·.number)).Nodup) : ltAt (P.map rowI) = ltP (P.map (·.number)) := by
  funext i j
  unfold ltAt ltP
  rw [List.getElem?_map, List.getElem?_map, List.getElem?_map, List.getElem?_map]
  cases hi : P[i]? with
  | none => rfl
  | some x =>
    cases hj : P[j]? with
    | none => rfl
    | some y =>
      simp only [Option.map_some, rowI, List.zip_cons_cons, List.zip_nil_right, lexLt]
      by_cases e : x.number = y.number
      · have hij : i = j := by
          have h1 : (P.map (·.number))[i]? = some x.number := by rw [List.getElem?_map, hi]; rfl
          have h2 : (P.map (·.number))[j]? = some x.number := by rw [List.getElem?_map, hj, e]; rfl
          exact (List.getElem?_inj (List.getElem?_eq_some_iff.mp h1).1 hn).mp (h1.trans h2.symm)
        subst hij
        rw [hi] at hj
        cases hj
        simp
      · rw [if_neg (by simpa using e)]
theorem sort_all {n : Nat} (h2 : 2 ≤ n) (h5 : n ≤ 5) : ∀ ns ∈ permsL (iotaZ n), sortOK ns = true := by
  obtain rfl | rfl | rfl | rfl : n = 2 ∨ n = 3 ∨ n = 4 ∨ n = 5 := by lia
  · exact sort2
  · exact sort3
  · exact sort4
  · exact sort5
theorem iota_at {n i : Nat} (h : i < n) : (iotaZ n)[i]? = some (i : Int) := by
  unfold iotaZ
  rw [List.getElem?_map, List.getElem?_range h]
  rfl
theorem gSorted_sp {σ : St} {A : At} {k : Nat} {P D : List Row} (hs : Ho σ A) (hm : (k, MO.list (P.map rowR)) ∈ A) (pe : P.Perm D) (nf : NumFrom 0 D) (hl : D.length ≤ 5) {Q : V → St → Prop} (q : ∀ σ' j, Ho σ' ((j, MO.list (D.map rowR)) :: A) → Q (.ref j) σ') : wG gSorted [.ref k] σ Q := by
  have hlen := pe.length_eq
  have key : gSorted [.ref k] σ = some (.ref σ.length, σ ++ [.list (D.map rowR)]) := by
    unfold gSorted
    simp only []
    rw [lstAt_of (hs.get hm), Option.bind_some, mapM_rows, Option.bind_some]
    by_cases h2 : (P.map rowR).length < 2
    · rw [if_pos h2]
      rw [List.length_map] at h2
      have : P = D := by
        match P, D, pe, hlen with
        | [], [], _, _ => rfl
        | [x], [y], pe, _ => simpa using pe
        | _ :: _ :: _, _, _, _ => simp at h2; lia
        | [], _ :: _, _, h => simp at h
        | [_], [], _, h => simp at h
        | [_], _ :: _ :: _, _, h => simp at h
      rw [this]
    · rw [if_neg h2]
      rw [List.length_map] at h2
      have hall : (P.map rowI).all (fun a => !a.isEmpty) = true := by
        rw [List.all_eq_true]
        intro a ha
        obtain ⟨x, _, rfl⟩ := List.mem_map.mp ha
        rfl
      rw [if_pos ⟨by rw [List.length_map]; lia, hall⟩]
      have np : (P.map (·.number)).Perm (iotaZ D.length) := by
        rw [← numFrom_iota nf]
        exact pe.map _
      have hn : (P.map (·.number)).Nodup := np.nodup_iff.mpr (iota_nodup _)
      have ok := sort_all (by lia) hl _ (permsL_mem _ _ np)
      unfold sortOK at ok
      rw [ltAt_ltP hn, List.length_map]
      rw [List.length_map] at ok
      split at ok
      case h_2 => cases ok
      rename_i arr har
      rw [har, Option.bind_some]
      have harr := of_decide_eq_true ok
      have hal : arr.toList.length = P.length := by
        have := congrArg List.length harr
        simpa [iotaZ] using this
      rw [if_pos (by lia)]
      congr 2
      refine congrArg (fun z => σ ++ [MO.list z]) ?_
      apply List.ext_getElem?
      intro j
      rw [List.getElem?_map, List.getElem?_map]
      by_cases hj : j < P.length
      · have hj2 : j < arr.toList.length := by lia
        have hj3 : j < D.length := by lia
        rw [List.getElem?_eq_getElem hj2, List.getElem?_eq_getElem hj3]
        simp only [Option.map_some, Option.some.injEq]
        -- the number there
        have e1 := congrArg (fun z => z[j]?) harr
        simp only [List.getElem?_map, List.getElem?_eq_getElem hj2, Option.map_some, iota_at hj, Option.some.injEq] at e1
        generalize arr.toList[j] = i at e1
        have hi : i < P.length := by
          by_cases h : i < P.length
          · exact h
          · rw [List.getD_eq_getElem?_getD, List.getElem?_eq_none (by simp; lia)] at e1
            simp at e1
        rw [List.getD_eq_getElem?_getD, List.getElem?_map, List.getElem?_eq_getElem hi] at e1
        simp only [Option.map_some, Option.getD_some] at e1
        rw [List.getD_eq_getElem?_getD, List.getElem?_map, List.getElem?_eq_getElem hi]
        simp only [Option.map_some, Option.getD_some]
        have hmem : P[i] ∈ D := pe.mem_iff.mp (List.getElem_mem hi)
        obtain ⟨jj, hjj, e2⟩ := List.getElem_of_mem hmem
        have e3 := numFrom_map D 0 nf jj P[i] (by rw [List.getElem?_eq_getElem hjj, e2])
        have : jj = j := by lia
        subst this
        rw [e2]
      · rw [List.getElem?_eq_none (by lia), List.getElem?_eq_none (by lia)]
        rfl
  exact ⟨_, _, key, q _ _ (hs.new _)⟩
theorem keysT_refs : ∀ (t : T) (o : Int), keysT t = refs (eff o t)
  | .nil, _ => rfl
  | .node l k d r, o => by
    simp only [keysT, eff, refs, List.map_append, List.map_cons]
    rw [keysT_refs l (o + d.offset), keysT_refs r (o + d.offset)]
    rfl
theorem here_all : ∀ (t : T) (p : Option Nat), set0 t → ∀ i ∈ eff 0 t, Here (at_ p t) i
  | .nil, _, _, i, hi => nomatch hi
  | .node l k d r, p, h, i, hi => by
    rw [eff_node0 h.1] at hi
    rcases List.mem_append.mp hi with hi | hi
    · exact (here_all l (some k) h.2.1 i hi).mono fun x hx => .tail _ (List.mem_append_left _ hx)
    · rcases List.mem_cons.mp hi with rfl | hi
      · exact ⟨p, l.root, r.root, d, .head _, rfl⟩
      · exact (here_all r (some k) h.2.2 i hi).mono fun x hx => .tail _ (List.mem_append_right _ hx)
theorem shown_comp {sk ck : Nat} {A : At} {vs : List V} (hm : (sk, MO.list vs) ∈ A) : ∀ (M : List Item) (i : Nat) (acc : List V) (σ : St) (Q : St → Prop), Ho σ ((ck, MO.list acc) :: A) → vs.drop i = refs M → (∀ it ∈ M, Here A it) → acc.length + M.length < 1000 →
    (∀ σ', Ho σ' ((ck, MO.list (acc ++ (M.map strip).map rowR)) :: A) → Q σ') →
    wC (srcL sk) [] (dBool true) (dTup (dCons (dAttr .number (dVar 0)) (dCons (dAttr .begin_ (dVar 0)) (dCons (dAttr .end_ (dVar 0)) dNil)))) ck M.length i σ Q
  | [], i, acc, σ, Q, hs, hv, hh, hl, q => by
    refine wC_stop ((srcL_at hs (.tail _ hm) i).trans (congrArg some (drop_nil hv))) ?_
    exact q σ (by simpa using hs)
  | it :: M, i, acc, σ, Q, hs, hv, hh, hl, q => by
    obtain ⟨h1, h2⟩ := drop_head hv
    obtain ⟨p, l, r, d, m, e⟩ := hh it (.head _)
    have m' : (it.k, MO.node (rc p l d r)) ∈ ((ck, MO.list acc) :: A) := .tail _ m
    simp only [List.length_cons] at hl
    refine wC_step ((srcL_at hs (.tail _ hm) i).trans (congrArg some h1)) ?_
    refine wE_bool ?_
    refine ⟨true, rfl, fun _ => ?_, fun e => (nomatch e)⟩
    refine wE_tup ?_
    wtm_at "wz"
    obtain ⟨σ3, e3, h3⟩ := appAt_sp (v := rowR (strip it)) hs (by lia)
    refine ⟨σ3, ?_, ?_⟩
    · rw [← e3, ← e]
      rfl
    refine shown_comp hm M (i + 1) _ σ3 Q h3 h2 (fun j hj => hh j (.tail _ hj)) (by simp; lia) fun σ' h4 => q σ' ?_
    simpa using h4
theorem law_shown_sp {σ : St} {tk : Nat} {t : T} {F : At} {D : List Row} (hs : Ho σ (at_ Option.none t ++ ((tk, MO.tree ⟨t.root, (size t : Int)⟩) :: F))) (pe : ((eff 0 t).map strip).Perm D) (nf : NumFrom 0 D) (hl : D.length ≤ 5) {Q : V → St → Prop}
    (q : ∀ σ' j t', Ho σ' ((j, MO.list (D.map rowR)) :: (at_ Option.none t' ++ ((tk, MO.tree ⟨t'.root, (size t : Int)⟩) :: F))) → Q (.ref j) σ') : wG g_law_shown [.ref tk] σ Q := by
  unfold g_law_shown s_law_shown
  refine wG_fun rfl ?_
  have hz : size t ≤ 5 := by
    have a1 := pe.length_eq
    rw [List.length_map, eff_len] at a1
    lia
  refine wS_seq ?_
  refine wS_ret ?_
  refine wE_call ?_
  refine wL_cons ?_
  refine wE_comp rfl ?_
  refine wI_list ?_
  wtm_at "wz"
  refine all_nodes_in_order_sp hs (by lia) ?_
  intro σ1 nk h1
  have E := settle_eqv t 0
  rw [push_zero] at E
  have e1 : eff 0 (settle 0 t) = eff 0 t := E.eff 0
  have s0 := settle_set0 t 0
  rw [keysT_refs t 0, ← e1, ← settle_root 0 t] at h1
  rw [← e1] at pe
  generalize hu : settle 0 t = u at *
  refine ⟨nk, _, rfl, lstAt_of (h1.get (by wtm_at "mem")), ?_⟩
  rw [show (refs (eff 0 u)).length = (eff 0 u).length by simp [refs]]
  have h2 := h1.new (MO.list [])
  have hlen : (eff 0 u).length ≤ 5 := by
    have a1 := pe.length_eq
    rw [List.length_map] at a1
    lia
  refine shown_comp (A := at_ Option.none u ++ ((nk, MO.list (refs (eff 0 u))) :: (tk, MO.tree ⟨u.root, (size t : Int)⟩) :: F)) (vs := refs (eff 0 u)) (by wtm_at "mem") (eff 0 u) 0 [] _ _ h2 rfl (fun i hi => (here_all u Option.none s0 i hi).mono fun x hx => List.mem_append_left _ hx) (by simp; lia) ?_
  intro σ2 h3
  rw [List.nil_append] at h3
  generalize σ1.length = ck at h3 ⊢
  wtm_at "wz"
  refine gSorted_sp h3 (.head _) pe nf hl ?_
  intro σ3 j h4
  wtm_at "wz"
  refine q σ3 j u (Ho.tail (x := (ck, MO.list (((eff 0 u).map strip).map rowR))) (Ho.tail (x := (nk, MO.list (refs (eff 0 u)))) (h4.perm ?_)))
  wtm_at "pm"
/-- a place behind a threshold moves on -/
noncomputable def opn (t n y : Int) : Int := if t < y then y + n else y
noncomputable def thr (a : Int) (p : Bool) : Int := if p = true then a - 1 else a
/-- what an edit makes of a place, given the threshold at a tie -/
noncomputable def PM (t a n y : Int) : Int := if n > 0 then opn t n y else clo a (0 - n) y
noncomputable def tie (h : Bool) (x : Row) : Bool := h || (x.f && (decide (x.b ≠ x.e) || x.r))
theorem opn_thr {a n y : Int} {p : Bool} : (if (decide (y > a) || (decide (y = a) && p)) = true then y + n else y) = opn (thr a p) n y := by
  have e : ((decide (y > a) || (decide (y = a) && p)) = true) ↔ thr a p < y := by
    unfold thr
    cases p with
    | true => simp; lia
    | false => simp
  unfold opn
  by_cases h : thr a p < y
  · rw [if_pos h, if_pos (e.mpr h)]
  · rw [if_neg h, if_neg fun q => h (e.mp q)]
theorem ledR_b (a n : Int) (h : Bool) (x : Row) : (ledR a n h x).b = PM (thr a (tie h x)) a n x.b := by
  unfold ledR PM
  split
  · exact opn_thr
  · rfl
theorem ledR_e (a n : Int) (h : Bool) (x : Row) : (ledR a n h x).e = PM (thr a (h || x.r)) a n x.e := by
  unfold ledR PM
  split
  · exact opn_thr
  · rfl
theorem ledR_num (a n : Int) (h : Bool) (x : Row) : (ledR a n h x).number = x.number ∧ (ledR a n h x).f = x.f ∧ (ledR a n h x).r = x.r := by
  unfold ledR
  split <;> exact ⟨rfl, rfl, rfl⟩
theorem Row.ext' {x y : Row} (h1 : x.number = y.number) (h2 : x.b = y.b) (h3 : x.e = y.e) (h4 : x.f = y.f) (h5 : x.r = y.r) : x = y := by
  cases x; cases y; simp at *; exact ⟨h1, h2, h3, h4, h5⟩
theorem thr_le (a : Int) (p : Bool) : a - 1 ≤ thr a p ∧ thr a p ≤ a := by
  unfold thr
  cases p with
  | true => rw [if_pos rfl]; lia
  | false => rw [if_neg (by simp)]; lia
theorem opn_hi {t n y : Int} (h : t < y) : opn t n y = y + n := if_pos h
theorem opn_lo {t n y : Int} (h : y ≤ t) : opn t n y = y := if_neg (by lia)
theorem clo_mid {a k y : Int} (h : a < y) (h' : y - k ≤ a) : clo a k y = a := by unfold clo; rw [if_pos h, if_neg (by lia)]
theorem clo_hi {a k y : Int} (h : a < y) (h' : a < y - k) : clo a k y = y - k := by unfold clo; rw [if_pos h, if_pos h']
/-- a place before the stretch stays; one behind it moves by n -/
theorem PM_lo {t a n y : Int} (h : y ≤ t) (h' : y ≤ a) : PM t a n y = y := by
  unfold PM
  split
  · exact opn_lo h
  · exact clo_low h'
theorem PM_hi {t a n y : Int} (h : t < y) (h' : a < y) (hn : n > 0 ∨ a - n < y) : PM t a n y = y + n := by
  unfold PM
  split
  · exact opn_hi h
  · rw [clo_hi h' (by lia)]; lia
/-- what stands behind a place stays behind it -/
theorem PM_ge {t a n y c : Int} (h : c ≤ t) (h' : c ≤ a) (hy : c < y) : c < PM t a n y ∨ (PM t a n y = c ∧ c = a) := by
  unfold PM opn clo
  split
  · split <;> lia
  · split
    · split <;> lia
    · lia
theorem PM_comm {t1 a1 n1 t2 a2 n2 y : Int} (h1 : a1 - 1 ≤ t1 ∧ t1 ≤ a1) (h2 : a2 - 1 ≤ t2 ∧ t2 ≤ a2) (h12 : a1 < a2) (hn : n1 > 0 ∨ a1 - n1 < a2) : PM (t2 + n1) (a2 + n1) n2 (PM t1 a1 n1 y) = PM t1 a1 n1 (PM t2 a2 n2 y) := by
  by_cases hy : y ≤ t2 ∧ y ≤ a2
  · rw [PM_lo (t := t2) hy.1 hy.2]
    refine PM_lo ?_ ?_
    · by_cases h : t1 < y ∧ a1 < y ∧ (n1 > 0 ∨ a1 - n1 < y)
      · rw [PM_hi h.1 h.2.1 h.2.2]; lia
      · unfold PM opn clo; split <;> split <;> (try split) <;> lia
    · by_cases h : t1 < y ∧ a1 < y ∧ (n1 > 0 ∨ a1 - n1 < y)
      · rw [PM_hi h.1 h.2.1 h.2.2]; lia
      · unfold PM opn clo; split <;> split <;> (try split) <;> lia
  · have q : a2 ≤ y := by lia
    rw [PM_hi (t := t1) (by lia) (by lia) (by lia)]
    have z : PM (t2 + n1) (a2 + n1) n2 (y + n1) = PM t2 a2 n2 y + n1 := by
      unfold PM opn clo
      split
      · split <;> split <;> lia
      · split <;> split <;> (try split) <;> (try split) <;> lia
    have w : a2 ≤ PM t2 a2 n2 y := by
      unfold PM opn clo
      split
      · split <;> lia
      · split <;> (try split) <;> lia
    rw [z, PM_hi (t := t1) (by lia) (by lia) (by lia)]
theorem PM_at1 {t2 a2 n2 a1 y : Int} (h2 : a2 - 1 ≤ t2) (h12 : a1 < a2) : PM t2 a2 n2 y = a1 ↔ y = a1 := by
  constructor
  · intro h
    by_cases hy : y ≤ t2 ∧ y ≤ a2
    · rw [PM_lo hy.1 hy.2] at h; exact h
    · have w : a2 ≤ PM t2 a2 n2 y := by
        unfold PM opn clo
        split
        · split <;> lia
        · split <;> (try split) <;> lia
      lia
  · intro h
    rw [PM_lo (by lia) (by lia)]
    exact h
theorem PM_at2 {t1 a1 n1 a2 y : Int} (h1 : t1 ≤ a1) (h1' : a1 - 1 ≤ t1) (h12 : a1 < a2) (hn : n1 > 0 ∨ a1 - n1 < a2) : PM t1 a1 n1 y = a2 + n1 ↔ y = a2 := by
  constructor
  · intro h
    by_cases hy : t1 < y ∧ a1 < y ∧ (n1 > 0 ∨ a1 - n1 < y)
    · rw [PM_hi hy.1 hy.2.1 hy.2.2] at h; lia
    · exfalso
      unfold PM opn clo at h
      split at h <;> split at h <;> (try split at h) <;> lia
  · intro h
    rw [PM_hi (by lia) (by lia) (by lia), h]
theorem thr_same {t a n y : Int} {p p' : Bool} (h : y = a → p = p') : PM (thr a p) a n y = PM (thr a p') a n y := by
  by_cases e : y = a
  · rw [h e]
  · unfold PM
    split
    · by_cases q : y < a
      · rw [opn_lo (by have := thr_le a p; lia), opn_lo (by have := thr_le a p'; lia)]
      · rw [opn_hi (by have := thr_le a p; lia), opn_hi (by have := thr_le a p'; lia)]
    · rfl
theorem tie_same {h : Bool} {x y : Row} (e1 : x.f = y.f) (e2 : x.r = y.r) (e3 : x.b = x.e ↔ y.b = y.e) : tie h x = tie h y := by
  unfold tie
  rw [e1, e2, decide_eq_decide.mpr (not_congr e3)]
theorem thr_add (a n : Int) (p : Bool) : thr (a + n) p = thr a p + n := by
  unfold thr
  split <;> lia
theorem led_comm {a1 n1 a2 n2 : Int} {h1 h2 : Bool} {x : Row} (be : x.b ≤ x.e) (h12 : a1 < a2) (hn : n1 > 0 ∨ a1 - n1 < a2) : ledR (a2 + n1) n2 h2 (ledR a1 n1 h1 x) = ledR a1 n1 h1 (ledR a2 n2 h2 x) := by
  obtain ⟨z1, z2, z3⟩ := ledR_num a1 n1 h1 x
  obtain ⟨w1, w2, w3⟩ := ledR_num a2 n2 h2 x
  refine Row.ext' ?_ ?_ ?_ ?_ ?_
  · exact ((ledR_num _ _ _ _).1.trans z1).trans ((ledR_num _ _ _ _).1.trans w1).symm
  · rw [ledR_b, ledR_b a1 n1 h1 (ledR a2 n2 h2 x)]
    have t2 := thr_le a2 (tie h2 x)
    have t1 := thr_le a1 (tie h1 x)
    have u2 := thr_le a2 (h2 || x.r)
    have u1 := thr_le a1 (h1 || x.r)
    have k1 : (ledR a1 n1 h1 x).b = a2 + n1 → tie h2 (ledR a1 n1 h1 x) = tie h2 x := fun e => by
      refine tie_same z2 z3 ?_
      rw [e, ledR_e, eq_comm, PM_at2 u1.2 u1.1 h12 hn]
      rw [ledR_b, PM_at2 t1.2 t1.1 h12 hn] at e
      rw [e, eq_comm]
    have k2 : (ledR a2 n2 h2 x).b = a1 → tie h1 (ledR a2 n2 h2 x) = tie h1 x := fun e => by
      refine tie_same w2 w3 ?_
      rw [e, ledR_e, eq_comm, PM_at1 u2.1 h12]
      rw [ledR_b, PM_at1 t2.1 h12] at e
      rw [e, eq_comm]
    rw [thr_same (t := 0) k1, thr_same (t := 0) k2, ledR_b, ledR_b, thr_add]
    exact PM_comm t1 t2 h12 hn
  · rw [ledR_e, ledR_e a1 n1 h1 (ledR a2 n2 h2 x), ledR_e, ledR_e, z3, w3, thr_add]
    exact PM_comm (thr_le _ _) (thr_le _ _) h12 hn
  · exact ((ledR_num _ _ _ _).2.1.trans z2).trans ((ledR_num _ _ _ _).2.1.trans w2).symm
  · exact ((ledR_num _ _ _ _).2.2.trans z3).trans ((ledR_num _ _ _ _).2.2.trans w3).symm
theorem numFrom_snoc : ∀ (R : List Row) (i : Nat) (x : Row), NumFrom i R → x.number = ((i + R.length : Nat) : Int) → NumFrom i (R ++ [x])
  | [], i, x, _, h => ⟨by simpa using h, trivial⟩
  | y :: R, i, x, nf, h => ⟨nf.1, numFrom_snoc R (i + 1) x nf.2 (by rw [h]; congr 1; simp; lia)⟩
theorem build_loop {n : Int} {dk lk ln : Nat} {L : List Int} {F : At} (hL : L.length < 1000) (hn : n ≤ 5) : ∀ (cnt i : Nat) (R : List Row) (c : Int) (v0 v11 v12 : Option V) (σ : St) (QS : Fl → Rho → St → Prop), ((i + cnt : Nat) : Int) = n → R.length = i → NumFrom 0 R → BER R → 0 ≤ c → c ≤ 1 + 4 * i → Ho σ (dkA dk lk L c ((ln, MO.list (R.map lnV)) :: F)) →
    (∀ σ' R c v0 v11 v12, ((R.length : Nat) : Int) = n → NumFrom 0 R → BER R → 0 ≤ c → c ≤ 40 → Ho σ' (dkA dk lk L c ((ln, MO.list (R.map lnV)) :: F)) → QS .next [v0, Option.none, Option.none, some (.ref dk), some (.ref ln), Option.none, Option.none, Option.none, Option.none, Option.none, Option.none, v11, v12, Option.none, Option.none, Option.none] σ') →
    wF (srcR n) (daName 0) b_law_2 cnt i [v0, Option.none, Option.none, some (.ref dk), some (.ref ln), Option.none, Option.none, Option.none, Option.none, Option.none, Option.none, v11, v12, Option.none, Option.none, Option.none] σ QS
  | 0, i, R, c, v0, v11, v12, σ, QS, hi, hR, nf, be, c0, c1, hs, q => by
    wtm_at "sk"
    refine wF_stop ?_ ?_
    · unfold srcR
      rw [if_neg (by lia)]
    exact q σ R c v0 v11 v12 (by lia) nf be c0 (by lia) hs
  | cnt + 1, i, R, c, v0, v11, v12, σ, QS, hi, hR, nf, be, c0, c1, hs, q => by
    wtm_at "sk"
    refine wF_step (v := .int i) ?_ ?_
    · unfold srcR
      rw [if_pos (by lia)]
    wtm_at "wz"
    unfold b_law_2
    wtm_at "sk"
    refine wS_seq ?_
    refine wS_swap ?_
    wtm_at "wz"
    refine law_draw_sp hs c0 (by lia) hL (by lia) ?_
    intro σ1 r1 a1 a2 k1
    wtm_at "wz"
    refine law_draw_sp k1 (by lia) (by lia) hL (by lia) ?_
    intro σ2 r2 a3 a4 k2
    wtm_at "wz"
    refine ⟨⟨rfl, by simp⟩, ?_⟩
    simp only [List.reverse_cons, List.reverse_nil, List.nil_append, List.cons_append, setAll]
    have k2' := k2
    unfold dkA at k2'
    wtm_at "sk"
    refine wS_seq ?_
    refine wS_expr ?_
    refine sE_app ?_
    wtm_at "wz"
    refine lst_rule k2' (by wtm_at "mem") ?_
    refine wE_tup ?_
    wtm_at "wz"
    refine law_draw_sp k2 (by lia) (by lia) hL (by lia) ?_
    intro σ3 r3 a5 a6 k3
    wtm_at "wz"
    refine law_draw_sp k3 (by lia) (by lia) hL (by lia) ?_
    intro σ4 r4 a7 a8 k4
    wtm_at "wz"
    have k4' := k4
    unfold dkA at k4'
    refine app_rule k4' (by wtm_at "mem") (by simp; lia) (by wtm_at "repa") ?_
    intro σ5 k5
    wtm_at "wz"
    refine build_loop hL hn cnt (i + 1) (R ++ [⟨i, r1, r1 + r2, Cop.eq.ev r3 1, Cop.eq.ev r4 1⟩]) (c + 1 + 1 + 1 + 1) _ _ _ σ5 QS (by lia) (by simp [hR]) (numFrom_snoc R 0 _ nf (by rw [hR]; simp)) ?_ (by lia) (by lia) ?_ q
    · intro x hx
      rcases List.mem_append.mp hx with hx | hx
      · exact be x hx
      · rw [List.mem_singleton.mp hx]
        show r1 ≤ r1 + r2
        lia
    · rw [List.map_append]
      exact k5
theorem due_loop {ln du : Nat} {vs : List V} {A : At} {a1 n1 a2 n2 : Int} {h1 h2 : Bool} {v0 v1 v3 v4 v7 v8 v12 : Option V} (hm : (ln, MO.list vs) ∈ A) : ∀ (R : List Row) (i : Nat) (acc : List V) (v9 v10 v11 v13 v14 v15 : Option V) (σ : St) (QS : Fl → Rho → St → Prop), Ho σ ((du, MO.list acc) :: A) → vs.drop i = R.map lnV → NumFrom i R → acc.length + R.length < 1000 →
    (∀ σ' v9 v10 v11 v13 v14 v15, Ho σ' ((du, MO.list (acc ++ (R.map fun x => ledR a1 n1 h1 (ledR a2 n2 h2 x)).map rowR)) :: A) → QS .next [v0, v1, some (.ref du), v3, v4, some (.tup [.int a1, .int n1, .bool h1]), some (.tup [.int a2, .int n2, .bool h2]), v7, v8, v9, v10, v11, v12, v13, v14, v15] σ') →
    wF (srcE ln) (daTup [(daName 9), (daName 10)]) b_law_1 R.length i [v0, v1, some (.ref du), v3, v4, some (.tup [.int a1, .int n1, .bool h1]), some (.tup [.int a2, .int n2, .bool h2]), v7, v8, v9, v10, v11, v12, v13, v14, v15] σ QS
  | [], i, acc, v9, v10, v11, v13, v14, v15, σ, QS, hs, hv, nf, hl, q => by
    wtm_at "sk"
    refine wF_stop ((srcE_at hs (.tail _ hm) i).trans ?_) ?_
    · rw [drop_nil hv]; rfl
    exact q σ v9 v10 v11 v13 v14 v15 (by simpa using hs)
  | x :: R, i, acc, v9, v10, v11, v13, v14, v15, σ, QS, hs, hv, nf, hl, q => by
    obtain ⟨e1, e2⟩ := drop_cons (v := lnV x) (w := R.map lnV) hv
    simp only [List.length_cons] at hl
    wtm_at "sk"
    refine wF_step (v := .tup [.int i, lnV x]) ((srcE_at hs (.tail _ hm) i).trans ?_) ?_
    · rw [e1]; rfl
    refine wA_tup (r := ([v0, v1, some (.ref du), v3, v4, some (.tup [.int a1, .int n1, .bool h1]), some (.tup [.int a2, .int n2, .bool h2]), v7, v8, some (.int i), some (lnV x), v11, v12, v13, v14, v15], σ)) rfl ?_
    simp only []
    unfold b_law_1
    wtm_at "sk"
    refine wS_seq ?_
    refine wS_assign ?_
    wtm_at "wz"
    refine law_led_sp (num := x.number) hs ?_
    intro σ1 k1
    wtm_at "wz"
    refine law_led_sp (num := x.number) k1 ?_
    intro σ2 k2
    have ex : (⟨x.number, (ledR a2 n2 h2 ⟨x.number, x.b, x.e, x.f, x.r⟩).b, (ledR a2 n2 h2 ⟨x.number, x.b, x.e, x.f, x.r⟩).e, x.f, x.r⟩ : Row) = ledR a2 n2 h2 x := by
      obtain ⟨z1, z2, z3⟩ := ledR_num a2 n2 h2 x
      exact Row.ext' z1.symm rfl rfl z2.symm z3.symm
    rw [ex]
    refine wA_tup (r := ([v0, v1, some (.ref du), v3, v4, some (.tup [.int a1, .int n1, .bool h1]), some (.tup [.int a2, .int n2, .bool h2]), v7, v8, some (.int i), some (lnV x), some (.int (ledR a1 n1 h1 (ledR a2 n2 h2 x)).b), v12, some (.int (ledR a1 n1 h1 (ledR a2 n2 h2 x)).e), some (.bool x.f), some (.bool x.r)], σ2)) rfl ?_
    simp only []
    wtm_at "sk"
    refine wS_seq ?_
    refine wS_expr ?_
    refine sE_app ?_
    wtm_at "wz"
    refine lst_rule k2 (by wtm_at "mem") ?_
    wtm_at "wz"
    refine app_rule k2 (by wtm_at "mem") (by lia) (by wtm_at "repa") ?_
    intro σ3 k3
    wtm_at "wz"
    refine due_loop hm R (i + 1) _ _ _ _ _ _ _ σ3 QS k3 e2 nf.2 (by simp; lia) ?_
    intro σ' v9 v10 v11 v13 v14 v15 k4
    refine q σ' v9 v10 v11 v13 v14 v15 ?_
    have er : rowR (ledR a1 n1 h1 (ledR a2 n2 h2 x)) = .tup [.int i, .int (ledR a1 n1 h1 (ledR a2 n2 h2 x)).b, .int (ledR a1 n1 h1 (ledR a2 n2 h2 x)).e] := by
      unfold rowR
      rw [(ledR_num _ _ _ _).1, (ledR_num _ _ _ _).1, nf.1]
    rw [List.map_cons, List.map_cons, er]
    simpa using k4
theorem rowsAt_list {σ : St} {A : At} {k : Nat} {D : List Row} (hs : Ho σ A) (hm : (k, MO.list (D.map rowR)) ∈ A) : rowsAt σ (.ref k) = some (D.map rowI) := by
  unfold rowsAt
  simp only [V.toRef, Option.bind_some]
  rw [lstAt_of (hs.get hm), Option.bind_some, mapM_rows]
theorem BER_map {a n : Int} {h : Bool} {R : List Row} (be : BER R) : BER (R.map (ledR a n h)) := fun x hx => by
  obtain ⟨y, hy, rfl⟩ := List.mem_map.mp hx
  exact ledR_BE (be y hy)
theorem numFrom_led {a n : Int} {h : Bool} : ∀ (R : List Row) (i : Nat), NumFrom i R → NumFrom i (R.map (ledR a n h))
  | [], _, _ => trivial
  | x :: R, i, nf => ⟨(ledR_num a n h x).1.trans nf.1, numFrom_led R (i + 1) nf.2⟩
theorem nums_nodup {t : T} {D : List Row} (p : ((eff 0 t).map strip).Perm D) (nf : NumFrom 0 D) : (nums t).Nodup := by
  have e : nums t = ((eff 0 t).map strip).map (·.number) := by
    unfold nums
    rw [List.map_map]
    rfl
  rw [e]
  refine (p.map (·.number)).nodup_iff.mpr ?_
  rw [numFrom_iota nf]
  exact iota_nodup _
/-- the end of the law: both trees well made, both shown as due -/
theorem law_end {tk1 tk2 du : Nat} {t1 t2 : T} {D : List Row} {F : At} {v0 v1 v3 v4 v5 v6 v9 v10 v11 v12 v13 v14 v15 : Option V} {σ : St} (hs : Ho σ (at_ Option.none t1 ++ ((tk1, MO.tree ⟨t1.root, (size t1 : Int)⟩) :: (at_ Option.none t2 ++ ((tk2, MO.tree ⟨t2.root, (size t2 : Int)⟩) :: (du, MO.list (D.map rowR)) :: F))))) (g1 : GT t1) (g2 : GT t2) (p1 : ((eff 0 t1).map strip).Perm D) (p2 : ((eff 0 t2).map strip).Perm D) (nf : NumFrom 0 D) (hl : D.length ≤ 5) :
    wS (dsSeq (dsIf (dOr (dCm cIsNot (dCall g_overlay_tree_error (dCons (dVar 7) dNil)) dNone) (dCm cIsNot (dCall g_overlay_tree_error (dCons (dVar 8) dNil)) dNone)) (dsSeq (dsRet (dBool false)) dsNil) dsNil)
      (dsSeq (dsRet (dAnd (dEqL (dCall g_law_shown (dCons (dVar 7) dNil)) (dVar 2)) (dEqL (dCall g_law_shown (dCons (dVar 8) dNil)) (dVar 2)))) dsNil))
      [v0, v1, some (.ref du), v3, v4, v5, v6, some (.ref tk1), some (.ref tk2), v9, v10, v11, v12, v13, v14, v15] σ (fun fl _ _ => fl = .ret (.bool true)) := by
  have z1 : size t1 ≤ 5 := by
    have a1 := p1.length_eq
    rw [List.length_map, eff_len] at a1
    lia
  have z2 : size t2 ≤ 5 := by
    have a1 := p2.length_eq
    rw [List.length_map, eff_len] at a1
    lia
  refine wS_seq ?_
  refine wS_if ?_
  refine wE_or ?_
  refine wE_cm ?_
  wtm_at "wz"
  refine overlay_tree_error_sp hs g1 (by lia) (nums_nodup p1 nf) ?_
  intro σ1 t1' h1 g1' e1
  wtm_at "wz"
  refine overlay_tree_error_sp (tk := tk2) (t := t2) (F := at_ Option.none t1' ++ ((tk1, MO.tree ⟨t1'.root, (size t1' : Int)⟩) :: (du, MO.list (D.map rowR)) :: F)) (h1.perm (by wtm_at "pm")) g2 (by lia) (nums_nodup p2 nf) ?_
  intro σ2 t2' h2 g2' e2
  wtm_at "wz"
  rw [← e1] at p1
  rw [← e2] at p2
  wtm_at "sk"
  refine wS_seq ?_
  refine wS_ret ?_
  refine wE_and ?_
  refine wE_eql ?_
  wtm_at "wz"
  refine law_shown_sp (tk := tk1) (t := t1') (D := D) (F := at_ Option.none t2' ++ ((tk2, MO.tree ⟨t2'.root, (size t2' : Int)⟩) :: (du, MO.list (D.map rowR)) :: F)) (h2.perm (by wtm_at "pm")) p1 nf hl ?_
  intro σ3 j1 t3 h3
  wtm_at "wz"
  refine ⟨_, _, rowsAt_list h3 (.head _), rowsAt_list h3 (by wtm_at "mem"), ?_⟩
  refine ⟨_, rfl, fun _ => ?_, fun e => ?_⟩
  · refine wE_eql ?_
    wtm_at "wz"
    refine law_shown_sp (tk := tk2) (t := t2') (D := D) (F := (j1, MO.list (D.map rowR)) :: (at_ Option.none t3 ++ ((tk1, MO.tree ⟨t3.root, (size t1' : Int)⟩) :: (du, MO.list (D.map rowR)) :: F))) (h3.perm (by wtm_at "pm")) p2 nf hl ?_
    intro σ4 j2 t4 h4
    wtm_at "wz"
    refine ⟨_, _, rowsAt_list h4 (.head _), rowsAt_list h4 (by wtm_at "mem"), ?_⟩
    refine ⟨_, rfl, ?_⟩
    refine retK_i (seqK_r ?_)
    simp
  · simp at e
theorem s_law_sp {σ : St} {dk lk ln : Nat} {L : List Int} (hs : Ho σ (dkA dk lk L 0 [(ln, MO.list [])])) (hL : L.length < 1000) :
    wS s_law [Option.none, Option.none, Option.none, some (.ref dk), some (.ref ln), Option.none, Option.none, Option.none, Option.none, Option.none, Option.none, Option.none, Option.none, Option.none, Option.none, Option.none] σ (fun fl _ _ => fl = .ret (.bool true)) := by
  unfold s_law
  wtm_at "sk"
  refine wS_seq ?_
  refine wS_for ?_
  refine wI_range ?_
  wtm_at "wz"
  refine law_draw_sp hs (by lia) (by lia) hL (by lia) ?_
  intro σ1 r1 a1 a2 k1
  wtm_at "wz"
  refine ⟨⟨by lia, by lia⟩, ?_⟩
  refine build_loop (n := 1 + r1) hL (by lia) _ 0 [] (0 + 1) _ _ _ σ1 _ (by lia) rfl trivial (fun x hx => nomatch hx) (by lia) (by lia) k1 ?_
  intro σ2 R c v0 v11 v12 hR nf be c0 c1 k2
  wtm_at "wz"
  wtm_at "wst"
  refine law_draw_sp k2 c0 (by lia) hL (by lia) ?_
  intro σ3 r2 a3 a4 k3
  wtm_at "wz"
  refine wS_seq ?_
  refine wS_swap ?_
  wtm_at "wz"
  refine law_edit_sp k3 (by lia) (by lia) hL (by lia) ?_
  intro σ4 at1 n1 h1 c4 b1 b2 b3 b4 b5 k4
  wtm_at "wz"
  refine law_edit_sp k4 (by lia) (by lia) hL (by lia) ?_
  intro σ5 at2 n2 h2 c5 b6 b7 b8 b9 b10 k5
  wtm_at "wz"
  refine ⟨⟨rfl, by simp⟩, ?_⟩
  simp only [List.reverse_cons, List.reverse_nil, List.nil_append, List.cons_append, setAll]
  wtm_at "sk"
  refine wS_seq ?_
  refine wS_swap ?_
  wtm_at "wz"
  have hmem : ∀ c, (ln, MO.list (R.map lnV)) ∈ dkA dk lk L c [(ln, MO.list (R.map lnV))] := fun c => .tail _ (.tail _ (.head _))
  refine law_tree_sp k5 (hmem _) nf ?_
  intro σ6 tk1 t1 k6 g1 p1
  wtm_at "wz"
  refine law_tree_sp k6 (List.mem_append_right _ (.tail _ (hmem _))) nf ?_
  intro σ7 tk2 t2 k7 g2 p2
  wtm_at "wz"
  refine ⟨⟨rfl, by simp⟩, ?_⟩
  simp only [List.reverse_cons, List.reverse_nil, List.nil_append, List.cons_append, setAll]
  generalize hA : dkA dk lk L c5 [(ln, MO.list (R.map lnV))] = A at k7
  have hmA : (ln, MO.list (R.map lnV)) ∈ A := by rw [← hA]; exact hmem _
  clear hmem k1 k2 k3 k4 k5 k6
  have hR5 : R.length ≤ 5 := by lia
  wtm_at "wst"
  refine law_done_sp (tk := tk1) (t := t1) (F := at_ Option.none t2 ++ ((tk2, MO.tree ⟨t2.root, (size t2 : Int)⟩) :: A)) (s := 0) (k7.perm (by wtm_at "pm")) g1 p1 be (by lia) ?_
  intro σ8 t3 k8 g3 p3
  rw [Int.add_zero] at p3
  wtm_at "wz"
  have i1 : itemAt σ8 (.tup [.int at1, .int n1, .bool h1]) (.int 1) = some (.int n1) := by rw [itemAt_tup (by lia) (by lia)]; rfl
  wtm_at "wst"
  wtm_at "wq"
  refine law_done_sp (tk := tk1) (t := t3) (F := at_ Option.none t2 ++ ((tk2, MO.tree ⟨t2.root, (size t2 : Int)⟩) :: A)) (s := n1) k8 g3 p3 (BER_map be) (by simp; lia) ?_
  intro σ9 t4 k9 g4 p4
  wtm_at "wz"
  wtm_at "wst"
  refine law_done_sp (tk := tk2) (t := t2) (F := at_ Option.none t4 ++ ((tk1, MO.tree ⟨t4.root, (size t4 : Int)⟩) :: A)) (s := 0) (k9.perm (by wtm_at "pm")) g2 p2 be (by lia) ?_
  intro σ10 t5 k10 g5 p5
  rw [Int.add_zero] at p5
  wtm_at "wz"
  wtm_at "wst"
  refine law_done_sp (tk := tk2) (t := t5) (F := at_ Option.none t4 ++ ((tk1, MO.tree ⟨t4.root, (size t4 : Int)⟩) :: A)) (s := 0) k10 g5 p5 (BER_map be) (by simp; lia) ?_
  intro σ11 t6 k11 g6 p6
  rw [Int.add_zero] at p6
  wtm_at "wz"
  wtm_at "wst"
  refine ⟨_, k11, fun du σ12 k12 => ?_⟩
  wtm_at "wz"
  refine wS_seq ?_
  refine wS_for ?_
  refine wI_enum ?_
  wtm_at "wz"
  refine ⟨ln, _, rfl, lstAt_of (k12.get (.tail _ (List.mem_append_right _ (.tail _ (List.mem_append_right _ (.tail _ hmA)))))), ?_⟩
  rw [List.length_map]
  refine due_loop (du := du) (a1 := at1) (n1 := n1) (h1 := h1) (a2 := at2) (n2 := n2) (h2 := h2) (vs := R.map lnV) (A := at_ Option.none t6 ++ ((tk2, MO.tree ⟨t6.root, (size t6 : Int)⟩) :: (at_ Option.none t4 ++ ((tk1, MO.tree ⟨t4.root, (size t4 : Int)⟩) :: A)))) (List.mem_append_right _ (.tail _ (List.mem_append_right _ (.tail _ hmA)))) R 0 [] _ _ _ _ _ _ σ12 _ k12 rfl nf (by simp; lia) ?_
  intro σ13 v9 v10 v11 v13 v14 v15 k13
  rw [List.nil_append] at k13
  wtm_at "wz"
  have q6 : ((eff 0 t6).map strip).Perm (R.map fun x => ledR at1 n1 h1 (ledR at2 n2 h2 x)) := by
    rw [List.map_map] at p6
    exact p6
  have q4 : ((eff 0 t4).map strip).Perm (R.map fun x => ledR at1 n1 h1 (ledR at2 n2 h2 x)) := by
    rw [List.map_map] at p4
    refine p4.trans (.of_eq (List.map_congr_left fun x hx => ?_))
    exact led_comm (be x hx) (by lia) (by lia)
  have nD : NumFrom 0 (R.map fun x => ledR at1 n1 h1 (ledR at2 n2 h2 x)) := by
    have := numFrom_led (a := at1) (n := n1) (h := h1) _ 0 (numFrom_led (a := at2) (n := n2) (h := h2) R 0 nf)
    rw [List.map_map] at this
    exact this
  exact law_end (F := A) (k13.perm (by wtm_at "pm")) g4 g6 q4 q6 nD (by simp; lia)
/-! # the join: the law's first statement -/
theorem ints_rvs {α : Al} {Φ : Addr × Obj → Prop} {vals : List Value} {xs : List Int} (h : IntsAre vals xs) : RVs α Φ (xs.map V.int) vals := by
  induction h with
  | nil => exact .nil
  | cons _ _ _ ih => exact .cons (.int _ _) ih
section
variable {P : Pg} {dp : Nat} {ks : Ks} {names : List Str}
noncomputable def dSlice (a : Addr) (xs : List Int) (i n : Nat) : DE := fun ρ σ => (ρ[i]?.bind id).bind fun v => match v with
  | .base b => if b = a then some (.ref σ.length, σ ++ [.list ((xs.take n).map V.int)]) else Option.none
  | _ => Option.none
theorem se_slice {x : Str} {px pos p p'' : Pos} {c n : Nat} {a : Addr} {o : Obj} {vals : List Value} {xs : List Int} (i : Nat) (hx : names[i]? = some x) (hd : (x == ("__debug__" : Str)) = false) (hl : P.K.lookup a = some o) (hc : o.cls = .type "list") (ho : ∃ k, o.data = .seq (List.toArray vals) k) (hi : IntsAre vals xs) (hlt : xs.length < 2 ^ 20) :
    SE P dp ks names (.Subscript (.Name x px) (.Slice Option.none (some (.Constant (.int (n : Int)) c p)) Option.none p'') pos) (dSlice a xs i n) := by
  intro f env ok fit hks ρ σ v σ' hv m news α s Q pre post
  simp only [dSlice, Option.bind_eq_some_iff] at hv
  obtain ⟨v1, h1, hv⟩ := hv
  split at hv
  case h_2 => cases hv
  rename_i b
  split at hv
  case isFalse => cases hv
  rename_i hb
  subst hb
  cases hv
  have h2 : dVar i ρ σ = some (.base b, σ) := by
    obtain ⟨u, e1, e2⟩ := h1
    simp only [dVar, e1, Option.bind_some, e2, Option.map_some]
  refine Subscript_ (se_var (P := P) (dp := dp) (ks := ks) i hx hd f env ok fit hks ρ σ _ _ h2 m news α s _ pre ?_)
  intro h' tk news' α' val F' N' I' G' R'
  cases R'
  refine wpAny_Slice (wpAny_pure (show wpAny _ _ (eval (.Constant (.int (n : Int)) c p) env) _ _ _ from ?_))
  refine wpAny_Constant_int (wpAny_pure ?_)
  have hlist : h'.IsList b (List.toArray vals) := ⟨o, F'.keep _ _ (ok.kin _ _ hl), hc, ho⟩
  have hlen : vals.length = xs.length := hi.length
  refine slice_list3 (s := { s with heap := h', toks := tk + 1 }) (ops := [.ref h'.objs.size, .ref b]) F' N' hlist .none (.int (n : Int) _) .none (by decide) (fun h'' F'' N'' => ?_) rfl (fun _ => rfl) (by rw [List.size_toArray, sizeLine_eq]; lia)
  have rw1 : ∀ {α : Al} {Φ : Addr × Obj → Prop}, RVs α Φ ((xs.take n).map V.int) (vals.take n) := by
    intro α Φ
    rw [List.map_take]
    exact (ints_rvs hi).take n
  rw [pick_take] at N''
  obtain ⟨I'', G''⟩ := I'.new (x := h'.objs.size + 1) (d := h'.objs.size + 1) (o := listOf (List.toArray (vals.take n)) 0) (mo := .list ((xs.take n).map V.int)) (fun p hp e => absurd (Heap.lt_size (N' p hp).1) (by rw [e]; exact Nat.not_lt.mpr (Nat.le_succ _))) (.inl rfl)
    (fun fz => ⟨rfl, by rw [List.length_map, List.length_take]; lia, vals.take n, 0, rfl, rw1⟩)
  refine post _ _ _ _ _ F'' N'' I'' (G'.trans G'') (.ref _ _ (h'.objs.size + 1) ?_)
  rw [List.getElem?_append_right (by rw [I'.len]; exact Nat.le_refl _), I'.len]
  simp
end
theorem lookup_app {K X : Frag} {a : Addr} {o : Obj} (h : K.lookup a = some o) : (K ++ X).lookup a = some o := by
  rw [List.lookup_append, h]
  rfl
theorem nsIn_app {K X : Frag} {ns : Addr} {x : Str} {r : Option Value} (h : nsIn K ns x = some r) : nsIn (K ++ X) ns x = some r := by
  unfold nsIn at h ⊢
  cases hk : K.lookup ns with
  | none => rw [hk] at h; cases h
  | some o => rw [lookup_app hk]; rw [hk] at h; exact h
noncomputable def PX (prog : Program) (w : World) (p : Program) (loose : List Str) (mean : ExcName → Option Value) (mg mb : Str → Option Value) (a : Addr) (o : Obj) : Pg := ⟨prog, w, KK w.params ++ [(a, o)], p, loose, mean, mg, mb, 31, 52⟩
section
variable {prog : Program} {w : World} {p : Program} {loose : List Str} {mean : ExcName → Option Value} {mg mb : Str → Option Value} {a : Addr} {o : Obj}
theorem no_abs_x : NameOk (PX prog w p loose mean mg mb a o) (Str.ofString "abs") (.builtin "abs") := by
  rcases (no_abs : NameOk (PG prog w p loose mean mg mb) (Str.ofString "abs") (.builtin "abs")) with h | ⟨h1, h2, h3⟩
  · exact .inl (nsIn_app h)
  · exact .inr ⟨nsIn_app h1, h2, h3⟩
theorem kp_abs_x : KeepOk (PX prog w p loose mean mg mb a o) (.builtin "abs") := keep_builtin
noncomputable def n_law1 : List Str := n_law ++ [Str.ofString "script"]
noncomputable def s_first (a : Addr) (xs : List Int) : DS :=
  (dsSwap [3, 4] (dCons (dList (dCons (dComp (diList (dSlice a xs 16 63)) [] (dBool true) (dCall gAbs (dCons (dVar 0) dNil))) (dCons (dInt 0) dNil))) (dCons (dList dNil) dNil)))
theorem sx_law_head {vals : List Value} {xs : List Int} (hl : (PX prog w p loose mean mg mb a o).K.lookup a = some o) (hc : o.cls = .type "list") (ho : ∃ k, o.data = .seq (List.toArray vals) k) (hi : IntsAre vals xs) (hlt : xs.length < 2 ^ 20) :
    SX (PX prog w p loose mean mg mb a o) 8 (k_law (KK w.params)) n_law1 ((b_law (KK w.params)).headD default) (s_first a xs) :=
  (sx_swap (xs := [(Str.ofString "deck"), (Str.ofString "lines")]) (is := [3, 4]) (by decide +kernel) ⟨(by kernel_rfl), (by kernel_rfl), ⟨(by kernel_rfl), (by kernel_rfl), trivial⟩⟩
    (sl_cons (se_list (sl_cons (se_comp (xs := []) (caps := []) ⟨by decide, rfl, (by kernel_rfl), by decide, clos_gen (by kernel_rfl)⟩ trivial (si_list (fun _ _ => rfl) (se_slice (n := 63) 16 (by kernel_rfl) (by kernel_rfl) hl hc ho hi hlt)) sts_nil (se_call no_abs_x kp_abs_x (sf_abs (dp := 0)) (by decide) (by kernel_rfl) (by kernel_rfl) (sl_cons (se_var 0 (by kernel_rfl) (by kernel_rfl)) sl_nil (fun _ => rfl)) (fun _ => rfl) (fun _ _ => rfl) (fun _ => rfl)) (fun _ _ => rfl)) (sl_cons se_int sl_nil (fun _ => rfl)) (fun _ => rfl)))
      (sl_cons (se_list sl_nil) sl_nil (fun _ => rfl)) (fun _ => rfl)) (fun _ => rfl) (fun _ h1 h2 => env_gen h1 h2 rfl))
theorem b_law_cons : b_law (KK w.params) = (b_law (KK w.params)).headD default :: (b_law (KK w.params)).tail := by
  have h : (b_law (KK w.params)).length = 13 := by kernel_rfl
  cases hb : b_law (KK w.params) with
  | nil => rw [hb] at h; cases h
  | cons x r => rfl
theorem k_law_plain : ∀ x ∈ k_law (KK w.params), x.2 ≠ .cell := by
  have h : (k_law (KK w.params)).all (fun x => !(x.2 == .cell)) = true := by kernel_rfl
  intro x hx
  have := List.all_eq_true.mp h x hx
  simpa using this
theorem k_law_script : (k_law (KK w.params)).lookup (Str.ofString "script") = some .local := by kernel_rfl
end
noncomputable def rho17 (x3 x4 x16 : Option V) : Rho := [Option.none, Option.none, Option.none, x3, x4, Option.none, Option.none, Option.none, Option.none, Option.none, Option.none, Option.none, Option.none, Option.none, Option.none, Option.none, x16]
noncomputable def rho16 (x3 x4 : Option V) : Rho := [Option.none, Option.none, Option.none, x3, x4, Option.none, Option.none, Option.none, Option.none, Option.none, Option.none, Option.none, Option.none, Option.none, Option.none, Option.none]
theorem wE_eq' {d : DE} {ρ : Rho} {σ σ' : St} {v : V} {Q : V → St → Prop} (e : d ρ σ = some (v, σ')) (q : Q v σ') : wE d ρ σ Q := ⟨v, σ', e, q⟩
theorem abs_comp {sk ck : Nat} {A : At} {vs : List V} (hm : (sk, MO.list vs) ∈ A) : ∀ (M : List Int) (i : Nat) (acc : List Int) (σ : St) (Q : St → Prop), Ho σ ((ck, MO.list (acc.map V.int)) :: A) → vs.drop i = M.map V.int → acc.length + M.length < 1000 →
    (∀ (σ' : St) (L : List Int), L.length < 1000 → Ho σ' ((ck, MO.list (L.map V.int)) :: A) → Q σ') →
    wC (srcL sk) [] (dBool true) (dCall gAbs (dCons (dVar 0) dNil)) ck M.length i σ Q
  | [], i, acc, σ, Q, hs, hv, hl, q => by
    refine wC_stop ((srcL_at hs (.tail _ hm) i).trans (congrArg some (drop_nil hv))) ?_
    exact q σ acc (by lia) hs
  | x :: M, i, acc, σ, Q, hs, hv, hl, q => by
    obtain ⟨h1, h2⟩ := drop_head (v := V.int x) (w := M.map V.int) hv
    simp only [List.length_cons] at hl
    refine wC_step ((srcL_at hs (.tail _ hm) i).trans (congrArg some h1)) ?_
    refine wE_bool ?_
    refine ⟨true, rfl, fun _ => ?_, fun e => (nomatch e)⟩
    wtm_at "wz"
    refine ⟨_, _, rfl, ?_⟩
    obtain ⟨σ3, e3, h3⟩ := appAt_sp (v := V.int (if x < 0 then -x else x)) hs (by simp; lia)
    refine ⟨σ3, e3, ?_⟩
    refine abs_comp hm M (i + 1) (acc ++ [if x < 0 then -x else x]) σ3 Q (by simpa using h3) h2 (by simp; lia) q
theorem s_first_sp {a : Addr} {xs : List Int} : wS (s_first a xs) (rho17 Option.none Option.none (some (.base a))) [] (fun fl ρ σ => fl = .next ∧ ∃ dk lk ln L, ρ = rho17 (some (.ref dk)) (some (.ref ln)) (some (.base a)) ∧ L.length < 1000 ∧ Ho σ (dkA dk lk L 0 [(ln, MO.list [])])) := by
  unfold s_first
  refine wS_swap ?_
  refine wL_cons ?_
  refine sE_list ?_
  refine wL_cons ?_
  refine wE_comp rfl ?_
  refine wI_list ?_
  have e0 : dSlice a xs 16 63 (rho17 Option.none Option.none (some (.base a))) [] = some (.ref 0, [MO.list ((xs.take 63).map V.int)]) := by
    show (if a = a then _ else _) = _
    rw [if_pos rfl]
    rfl
  refine wE_eq' e0 ?_
  have h0 : Ho ([MO.list ((xs.take 63).map V.int)] : St) [(0, MO.list ((xs.take 63).map V.int))] := ⟨by simp, fun p hp => by rw [List.mem_singleton.mp hp]; rfl⟩
  have hlen : (xs.take 63).length ≤ 63 := by rw [List.length_take]; lia
  refine ⟨0, _, rfl, lstAt_of (h0.get (.head _)), ?_⟩
  rw [List.length_map]
  have h1 := h0.new (MO.list [])
  generalize ([MO.list ((xs.take 63).map V.int)] : St).length = ck at h1 ⊢
  refine abs_comp (.head _) (xs.take 63) 0 [] _ _ h1 rfl (by simp; lia) ?_
  intro σ2 L hL h2
  wtm_at "wz"
  refine ⟨_, h2, fun dk σ3 h3 => ?_⟩
  wtm_at "wz"
  refine ⟨_, h3, fun ln σ4 h4 => ?_⟩
  wtm_at "wz"
  refine ⟨⟨rfl, by simp⟩, ?_⟩
  refine ⟨rfl, dk, ck, ln, L, rfl, hL, ?_⟩
  unfold dkA
  refine Ho.tail (x := (0, MO.list ((xs.take 63).map V.int))) (h4.perm ?_)
  wtm_at "pm"
section
variable {prog : Program} {w : World} {p : Program} {loose : List Str} {mean : ExcName → Option Value} {mg mb : Str → Option Value} {a : Addr} {o : Obj}
theorem lookup_x {K : Frag} {h : Heap} (X : K.In h) (ho : h.get? a = some o) : (K ++ [(a, o)]).In h ∧ (K ++ [(a, o)]).lookup a = some o := by
  constructor
  · intro b ob hb
    rw [List.lookup_append] at hb
    cases hk : K.lookup b with
    | some o' => rw [hk] at hb; cases hb; exact X _ _ hk
    | none =>
      rw [hk] at hb
      simp only [Option.none_or, List.lookup] at hb
      split at hb
      · rename_i q
        cases hb
        rw [beq_iff_eq.mp q]
        exact ho
      · cases hb
  · rw [List.lookup_append]
    cases hk : K.lookup a with
    | some o' =>
      have := X _ _ hk
      rw [ho] at this
      cases this
      rfl
    | none => simp
theorem law_join {vals : List Value} {xs : List Int} {f : Fm} (ok : f.Ok (PG prog w p loose mean mg mb) 8) (hks : f.cs.names = k_law (KK w.params)) (hcl : f.cl = []) (ho : f.h₀.get? a = some o) (hc : o.cls = .type "list") (hdt : ∃ k, o.data = .seq (List.toArray vals) k) (hi : IntsAre vals xs) (hlt : xs.length < 2 ^ 20)
    {m : Str → Option Value} {s : Shared} {Q : Flow → Shared → Prop} (F : Fr f.h₀ f.L s.heap m) (N : News f.h₀ f.L s.heap []) (hm : m (Str.ofString "script") = some (.ref a))
    (post : ∀ h' tk m', Fr f.h₀ f.L h' m' → Q (.ret (.bool true)) { s with heap := h', toks := tk }) :
    wpAny (model prog w) f.A (execs (b_law (KK w.params)) f.env) Q (fun _ _ => False) s := by
  obtain ⟨kx, kl⟩ := lookup_x (a := a) (o := o) ok.kin ho
  have okX : f.Ok (PX prog w p loose mean mg mb a o) 8 := ⟨ok.below, ok.frames, kx, ok.top, ok.handled, ok.kind, ok.depth, ok.units⟩
  obtain ⟨fl, ρ1, σ1, e1, rfl, dk, lk, ln, L, rfl, hL, hs⟩ := s_first_sp (a := a) (xs := xs)
  obtain ⟨fl, ρ2, σ2, e2, rfl⟩ := s_law_sp hs hL
  rw [b_law_cons]
  refine wpAny_execs_cons (sx_law_head (prog := prog) (w := w) (p := p) (loose := loose) (mean := mean) (mg := mg) (mb := mb) (a := a) (o := o) kl hc hdt hi hlt f okX hks _ _ _ _ _ e1 m [] [] s _ ⟨⟨F, N, ⟨rfl, List.nodup_nil, List.nodup_nil, List.nodup_nil, fun k x d mo e => by simp at e⟩, ?_⟩, ⟨by rw [hcl]; exact List.nodup_nil, fun c hc => by (unfold Fm.own at hc; rw [hcl] at hc; cases hc), fun x hx => ?_⟩⟩ ?_)
  · intro i x v hx hv
    have hi16 : i = 16 ∧ v = .base a := by
      have hlt17 : i < 17 := (List.getElem?_eq_some_iff.mp hv).1
      unfold rho17 at hv
      rcases Nat.lt_or_ge i 16 with h | h
      · exfalso
        have : (List.replicate 16 (Option.none : Option V) ++ [some (.base a)])[i]? = some (some v) := hv
        rw [List.getElem?_append_left (by simpa using h), List.getElem?_replicate] at this
        split at this <;> cases this
      · obtain rfl : i = 16 := by lia
        refine ⟨rfl, ?_⟩
        have : some (some (V.base a)) = some (some v) := hv
        cases this
        rfl
    obtain ⟨rfl, rfl⟩ := hi16
    have hx' : some (Str.ofString "script") = some x := hx
    cases hx'
    exact ⟨.ref a, .base a, .inl ⟨by show f.cs.names.lookup _ = _; rw [hks]; exact k_law_script, rfl, hm⟩⟩
  · exfalso
    have hx' : (k_law (KK w.params)).lookup x = some .cell := by rw [← hks]; exact hx
    have hp := k_law_plain (w := w)
    generalize k_law (KK w.params) = l at hx' hp
    induction l with
    | nil => cases hx'
    | cons q r ih =>
      rw [List.lookup_cons] at hx'
      split at hx'
      · exact hp q (.head _) (Option.some.inj hx')
      · exact ih hx' fun y hy => hp y (.tail _ hy)
  · intro h' tk m' news' α' pre' G'
    have pre2 : PreS (PG prog w p loose mean mg mb) f n_law (rho16 (some (.ref dk)) (some (.ref ln))) σ1 m' news' α' h' := by
      refine ⟨⟨pre'.F, pre'.N, ⟨pre'.I.len, pre'.I.nv, pre'.I.nd, pre'.I.nn, pre'.I.obj⟩, ?_⟩, pre'.O⟩
      intro i x v hx hv
      refine pre'.E i x v ?_ ?_
      · unfold n_law1
        rw [List.getElem?_append_left (List.getElem?_eq_some_iff.mp hx).1]
        exact hx
      · show (rho16 (some (.ref dk)) (some (.ref ln)) ++ [some (.base a)])[i]? = _
        rw [List.getElem?_append_left (List.getElem?_eq_some_iff.mp hv).1]
        exact hv
    refine sx_law_tail (prog := prog) (w := w) (p := p) (loose := loose) (mean := mean) (mg := mg) (mb := mb) f ok hks _ _ _ _ _ e2 m' news' α' { s with heap := h', toks := tk } _ pre2 ?_
    intro h2 tk2 m2 news2 α2 pre3 G3
    intro val R
    cases R
    exact post h2 tk2 m2 pre3.F
end
theorem ok_frame {prog : Program} {w : World} {p : Program} {loose : List Str} {mean : ExcName → Option Value} {mg mb : Str → Option Value} {h : Heap} {cn : Str} {cs : Scope} {L a : Addr} {ccd : Value} (K0 : Below callerA h [] h) (KX : (KK w.params).In h) (T : Top p loose mean mg mb h) (hk : cs.kind = .function) :
    Fm.Ok (PG prog w p loose mean mg mb) ⟨callerA.deeper (envX cn cs L a ccd []), callerA, h, h, [], cn, cs, L, a, ccd, []⟩ 8 :=
  ⟨K0, rfl, KX, T, rfl, hk, Nat.le_of_ble_eq_true rfl, Nat.le_of_ble_eq_true rfl⟩
theorem fin_holds : PySem.Challenge.rw_pq0284_01.Holds := by
  w_on
  refine holds_law said fun said' => ?_
  refine holds_open (q := vw) (loose := []) (Xt := xtK) (XP := XL vw []) (Yf := hK.obs) (Ya := hK.val) (YP := hK.says) (N := 3340) left0 (Hook.of hK) (Hook.keeps hK) (fun s e => xl_of s (Bool.and_eq_true_iff.mp e).1) XL.keeps (by rfl) (by rfl) (by rfl) (fun s e => recFacts_of (Bool.and_eq_true_iff.mp e).2) (by rfl) said' (by decide +kernel) ⟨rfl, rfl, rfl, rfl, rfl, by decide +kernel⟩ ?hw ?hc
  case hw => w_witness2
  case hc =>
    intro w s₀ s₁ mg mb G Y fa o pm cd doc dV kV ho hd hcd hD hmg hg args vals as hpre hlay hrd hwl hlo
    have KX := kIn_of Y
    have X := (Ground.X G).1
    have V := (Ground.X G).2
    refine Ground.open G ?_
    intro T B D TE TW
    try (refine guard_noD D (by decide +kernel) ?_; clear D)
    obtain ⟨_, _, M⟩ := bmod_of_top T
    have TA := at_of_top T
    try (obtain ⟨_, _, he, B0⟩ := based_of_top T rfl hmg ho hd; have he' : cd = _ := he; subst he'; clear he)
    clear hmg
    wrow_args hpre hlay hrd hwl hlo
    refine enter_call ?_
    w_top on
    try refine codeAny_mono ?_ (fun _ _ g => GoodW.toG g)
    have K0 := below_caller (Top.heap T)
    w_call any ho hd hcd hD T F
    clear hd TA
    k_drop
    obtain ⟨ob, ho, hc, hdt⟩ := ‹Heap.IsList _ _ _›
    refine wpAny_mono (law_join (ok_frame ‹Below _ _ _ _› ‹Frag.In _ _› ‹Top _ _ _ _ _ _› rfl) rfl rfl ho hc hdt ‹IntsAre _ _› (by omega) ‹Fr _ _ _ _› ‹News _ _ _ _› rfl ?_) (fun _ _ x => x) (fun _ _ x => x.elim)
    intro h' tk m' F'
    refine goodW_bool F' (by assumption) (raisesW_false ?_) ?_
    · wrow_none_raised
    · wrow_post
end Mine
end

theorem PySem.Challenge.cw_pq0284_01_holds : PySem.Challenge.rw_pq0284_01.Holds :=
  Mine.fin_holds

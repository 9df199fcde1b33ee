import PyProof.Rows.All
import Wide.All
import OpenK.AllK
import Wide.FinOn
import Lean
import PySem.Challenge.RW_on0071_01
open PySem PySem.W PySem.Calls PyProof.Rows
set_option Elab.async false
set_option maxRecDepth 100000
set_option maxHeartbeats 40000000
set_option linter.all false
set_option compiler.extract_closed false
set_option genInjectivity false
set_option genSizeOfSpec false
set_option genSizeOf false
namespace Mine
local macro_rules | `(tactic| omega) => `(tactic| k_extra "om")
abbrev pw := PySem.Challenge.pw_on0071_01
structure Fn where
  name : Str
  ar : Arguments
  b : List Stmt
  sc : Scope
noncomputable def stAt (i : Nat) : Option Stmt := pw.main.body[i]?
noncomputable def parts : Stmt → PySem.Expr × List Stmt
  | .ClassDef _ _ _ b _ _ _ _ _ _ _ => (.Constant .none 0 default, b)
  | .For _ i b _ _ => (i, b)
  | .While t b _ _ => (t, b)
  | _ => (.Constant .none 0 default, [])
noncomputable def methAt (i j : Nat) : Option Stmt := (stAt i).bind fun s => (parts s).2[j]?
abbrev FnAt (x : Option Stmt) := { f : Fn // ∃ ds r tp ts bi p, x = some (.FunctionDef f.name f.ar f.b ds r tp f.sc ts bi p) }
abbrev en (P : Params) (n : String) (t : Tok) (v : Value) : DictEntry := ⟨PyData.keyHash P (Str.ofString n), .str (Str.ofString n) t, v⟩
noncomputable abbrev s48 : FnAt (stAt 4) := ⟨⟨_, _, _, _⟩, _, _, _, _, _, _, rfl⟩
noncomputable abbrev s55 : FnAt (stAt 5) := ⟨⟨_, _, _, _⟩, _, _, _, _, _, _, rfl⟩
noncomputable abbrev s62 : FnAt (stAt 6) := ⟨⟨_, _, _, _⟩, _, _, _, _, _, _, rfl⟩
noncomputable abbrev s69 : FnAt (stAt 7) := ⟨⟨_, _, _, _⟩, _, _, _, _, _, _, rfl⟩
noncomputable abbrev s76 : FnAt (stAt 8) := ⟨⟨_, _, _, _⟩, _, _, _, _, _, _, rfl⟩
noncomputable abbrev s83 : FnAt (stAt 9) := ⟨⟨_, _, _, _⟩, _, _, _, _, _, _, rfl⟩
noncomputable abbrev s90 : FnAt (stAt 10) := ⟨⟨_, _, _, _⟩, _, _, _, _, _, _, rfl⟩
noncomputable abbrev s97 : FnAt (stAt 11) := ⟨⟨_, _, _, _⟩, _, _, _, _, _, _, rfl⟩
noncomputable abbrev s104 : FnAt (stAt 12) := ⟨⟨_, _, _, _⟩, _, _, _, _, _, _, rfl⟩
noncomputable abbrev s112 : FnAt (stAt 13) := ⟨⟨_, _, _, _⟩, _, _, _, _, _, _, rfl⟩
noncomputable abbrev s119 : FnAt (stAt 14) := ⟨⟨_, _, _, _⟩, _, _, _, _, _, _, rfl⟩
noncomputable abbrev s162 : FnAt (stAt 23) := ⟨⟨_, _, _, _⟩, _, _, _, _, _, _, rfl⟩
noncomputable abbrev s271 : FnAt (stAt 29) := ⟨⟨_, _, _, _⟩, _, _, _, _, _, _, rfl⟩
noncomputable abbrev s278 : FnAt (stAt 31) := ⟨⟨_, _, _, _⟩, _, _, _, _, _, _, rfl⟩
noncomputable abbrev s285 : FnAt (stAt 32) := ⟨⟨_, _, _, _⟩, _, _, _, _, _, _, rfl⟩
noncomputable abbrev s292 : FnAt (stAt 33) := ⟨⟨_, _, _, _⟩, _, _, _, _, _, _, rfl⟩
noncomputable abbrev s299 : FnAt (stAt 34) := ⟨⟨_, _, _, _⟩, _, _, _, _, _, _, rfl⟩
noncomputable abbrev s306 : FnAt (stAt 35) := ⟨⟨_, _, _, _⟩, _, _, _, _, _, _, rfl⟩
noncomputable abbrev s313 : FnAt (stAt 36) := ⟨⟨_, _, _, _⟩, _, _, _, _, _, _, rfl⟩
noncomputable abbrev s660 : FnAt (stAt 47) := ⟨⟨_, _, _, _⟩, _, _, _, _, _, _, rfl⟩
noncomputable abbrev s726 : FnAt (stAt 53) := ⟨⟨_, _, _, _⟩, _, _, _, _, _, _, rfl⟩
noncomputable abbrev s733 : FnAt (stAt 54) := ⟨⟨_, _, _, _⟩, _, _, _, _, _, _, rfl⟩
noncomputable abbrev s740 : FnAt (stAt 55) := ⟨⟨_, _, _, _⟩, _, _, _, _, _, _, rfl⟩
noncomputable abbrev s747 : FnAt (stAt 56) := ⟨⟨_, _, _, _⟩, _, _, _, _, _, _, rfl⟩
noncomputable abbrev s754 : FnAt (stAt 57) := ⟨⟨_, _, _, _⟩, _, _, _, _, _, _, rfl⟩
noncomputable abbrev s189 : FnAt (methAt 28 0) := ⟨⟨_, _, _, _⟩, _, _, _, _, _, _, rfl⟩
noncomputable abbrev s203 : FnAt (methAt 28 2) := ⟨⟨_, _, _, _⟩, _, _, _, _, _, _, rfl⟩
noncomputable abbrev s210 : FnAt (methAt 28 3) := ⟨⟨_, _, _, _⟩, _, _, _, _, _, _, rfl⟩
noncomputable abbrev s224 : FnAt (methAt 28 5) := ⟨⟨_, _, _, _⟩, _, _, _, _, _, _, rfl⟩
noncomputable abbrev s231 : FnAt (methAt 28 6) := ⟨⟨_, _, _, _⟩, _, _, _, _, _, _, rfl⟩
noncomputable abbrev s238 : FnAt (methAt 28 7) := ⟨⟨_, _, _, _⟩, _, _, _, _, _, _, rfl⟩
noncomputable abbrev s250 : FnAt (methAt 28 9) := ⟨⟨_, _, _, _⟩, _, _, _, _, _, _, rfl⟩
noncomputable abbrev s327 : FnAt (methAt 38 0) := ⟨⟨_, _, _, _⟩, _, _, _, _, _, _, rfl⟩
noncomputable abbrev s334 : FnAt (methAt 38 1) := ⟨⟨_, _, _, _⟩, _, _, _, _, _, _, rfl⟩
noncomputable abbrev s348 : FnAt (methAt 38 3) := ⟨⟨_, _, _, _⟩, _, _, _, _, _, _, rfl⟩
noncomputable abbrev s355 : FnAt (methAt 38 4) := ⟨⟨_, _, _, _⟩, _, _, _, _, _, _, rfl⟩
noncomputable abbrev s362 : FnAt (methAt 38 5) := ⟨⟨_, _, _, _⟩, _, _, _, _, _, _, rfl⟩
noncomputable abbrev s369 : FnAt (methAt 38 6) := ⟨⟨_, _, _, _⟩, _, _, _, _, _, _, rfl⟩
noncomputable abbrev s376 : FnAt (methAt 38 7) := ⟨⟨_, _, _, _⟩, _, _, _, _, _, _, rfl⟩
noncomputable abbrev s453 : FnAt (methAt 42 0) := ⟨⟨_, _, _, _⟩, _, _, _, _, _, _, rfl⟩
noncomputable abbrev s493 : FnAt (methAt 43 0) := ⟨⟨_, _, _, _⟩, _, _, _, _, _, _, rfl⟩
noncomputable abbrev s500 : FnAt (methAt 43 1) := ⟨⟨_, _, _, _⟩, _, _, _, _, _, _, rfl⟩
noncomputable abbrev s507 : FnAt (methAt 43 2) := ⟨⟨_, _, _, _⟩, _, _, _, _, _, _, rfl⟩
noncomputable abbrev s514 : FnAt (methAt 43 3) := ⟨⟨_, _, _, _⟩, _, _, _, _, _, _, rfl⟩
noncomputable abbrev s521 : FnAt (methAt 43 4) := ⟨⟨_, _, _, _⟩, _, _, _, _, _, _, rfl⟩
noncomputable abbrev s528 : FnAt (methAt 43 5) := ⟨⟨_, _, _, _⟩, _, _, _, _, _, _, rfl⟩
noncomputable abbrev s535 : FnAt (methAt 43 6) := ⟨⟨_, _, _, _⟩, _, _, _, _, _, _, rfl⟩
noncomputable abbrev s564 : FnAt (methAt 45 0) := ⟨⟨_, _, _, _⟩, _, _, _, _, _, _, rfl⟩
noncomputable abbrev s599 : FnAt (methAt 45 5) := ⟨⟨_, _, _, _⟩, _, _, _, _, _, _, rfl⟩
noncomputable abbrev s613 : FnAt (methAt 45 7) := ⟨⟨_, _, _, _⟩, _, _, _, _, _, _, rfl⟩
noncomputable abbrev s620 : FnAt (methAt 45 8) := ⟨⟨_, _, _, _⟩, _, _, _, _, _, _, rfl⟩
noncomputable abbrev s634 : FnAt (methAt 45 10) := ⟨⟨_, _, _, _⟩, _, _, _, _, _, _, rfl⟩
noncomputable abbrev s641 : FnAt (methAt 45 11) := ⟨⟨_, _, _, _⟩, _, _, _, _, _, _, rfl⟩
noncomputable abbrev s648 : FnAt (methAt 45 12) := ⟨⟨_, _, _, _⟩, _, _, _, _, _, _, rfl⟩
noncomputable abbrev s674 : FnAt (methAt 49 0) := ⟨⟨_, _, _, _⟩, _, _, _, _, _, _, rfl⟩
noncomputable abbrev s695 : FnAt (methAt 51 0) := ⟨⟨_, _, _, _⟩, _, _, _, _, _, _, rfl⟩
noncomputable abbrev s702 : FnAt (methAt 51 1) := ⟨⟨_, _, _, _⟩, _, _, _, _, _, _, rfl⟩
noncomputable abbrev s707 : FnAt (methAt 51 2) := ⟨⟨_, _, _, _⟩, _, _, _, _, _, _, rfl⟩
noncomputable def fo (f : Fn) (n q m : String) (t : Tok) (d : Value) (c : Addr) : Obj := Obj.mk (Value.type "function") none (Data.func (FuncData.mk (Str.ofString n) (Str.ofString q) f.ar (.stmts f.b) f.sc 3 [] d (Value.none) (Value.none) (Value.str (Str.ofString m) t) none (Value.ref c) (Value.none) 0)) (List.toArray [])
noncomputable def co (n q : String) (a b c : Tok) (l k j : Int) (r s t u v : Addr) (x : Int) (d : Tok) : Obj := Obj.mk (Value.type "code") none (Data.fields (List.toArray [Value.str (Str.ofString n) a, Value.str (Str.ofString q) b, Value.str (Str.ofString "/claim/cut.py") c, Value.int l 0, Value.int k 0, Value.int (0) 0, Value.int (0) 0, Value.int j 0, Value.ref r, Value.bool true, Value.int (181) 0, Value.ref s, Value.none, Value.ref t, Value.ref u, Value.ref v, Value.int x 0, Value.int l 0, Value.str (Str.ofString "/claim/cut.py") d])) (List.toArray [])
noncomputable def o3 (P : Params) : Obj := Obj.mk (Value.type "dict") none (Data.dict (List.toArray [en P "__name__" 165 (Value.str (Str.ofString "law_on0071_01") 1165), en P "__doc__" 166 (Value.none), en P "__package__" 167 (Value.none), en P "__loader__" 168 (Value.builtin "__main__.__loader__#opaque"), en P "__spec__" 169 (Value.none), en P "__annotations__" 170 (Value.ref 6), en P "__builtins__" 171 (Value.ref 4), en P "__file__" 173 (Value.str (Str.ofString "/claim/cut.py") 172), en P "__cached__" 174 (Value.none), en P "_wall" 193 (Value.ref 21), en P "LispSignal" 226 (Value.ref 38), en P "need_writable" 235 (Value.ref 48), en P "reached" 246 (Value.ref 55), en P "tell_ahead" 256 (Value.ref 62), en P "tell_behind" 267 (Value.ref 69), en P "text_out" 277 (Value.ref 76), en P "text_in" 286 (Value.ref 83), en P "hung_out" 295 (Value.ref 90), en P "hung_in" 305 (Value.ref 97), en P "put_in" 316 (Value.ref 104), en P "insert" 325 (Value.ref 112), en P "delete" 337 (Value.ref 119), en P "eq" 347 (Value.ref 126), en P "plist_find" 356 (Value.ref 133), en P "plist_get" 365 (Value.ref 140), en P "plist_with" 375 (Value.ref 147), en P "plist_without" 381 (Value.ref 152), en P "plist_rows" 389 (Value.ref 157), en P "insert_piece" 395 (Value.ref 162), en P "is_value" 405 (Value.ref 169), en P "set_property" 411 (Value.ref 174), en P "BOUNDARY" 415 (Value.ref 175), en P "UndoList" 540 (Value.ref 260), en P "marker_distance" 550 (Value.ref 271), en P "need_visible" 561 (Value.ref 278), en P "markers_ahead" 570 (Value.ref 285), en P "undo_insert" 578 (Value.ref 292), en P "undo_delete" 591 (Value.ref 299), en P "undo_row" 602 (Value.ref 306), en P "above_boundaries" 610 (Value.ref 313), en P "GapText" 730 (Value.ref 400), en P "Opaque" 774 (Value.ref 435), en P "Marker" 827 (Value.ref 477), en P "Markers" 923 (Value.ref 545), en P "Buffer" 1062 (Value.ref 651), en P "set_marker" 1073 (Value.ref 660), en P "Piece" 1106 (Value.ref 677), en P "Recording" 1164 (Value.ref 717), en P "_law_deck" 1172 (Value.ref 726), en P "_law_draw" 1182 (Value.ref 733), en P "_law_command" 1195 (Value.ref 740), en P "_law_group" 1204 (Value.ref 747), en P "law" 1221 (Value.ref 754)]) 53) (List.toArray [])
noncomputable def o47 (P : Params) : Obj := co "need_writable" "need_writable" 229 230 231 11 1 3 42 43 44 45 46 233 234
noncomputable def o48 (P : Params) : Obj := fo s48.1 "need_writable" "need_writable" "emacs.editing" 227 (Value.none) 47
noncomputable def o54 (P : Params) : Obj := co "reached" "reached" 236 237 238 14 3 3 49 50 51 52 53 244 245
noncomputable def o55 (P : Params) : Obj := fo s55.1 "reached" "reached" "emacs.editing" 227 (Value.none) 54
noncomputable def o61 (P : Params) : Obj := co "tell_ahead" "tell_ahead" 247 248 249 19 3 3 56 57 58 59 60 254 255
noncomputable def o62 (P : Params) : Obj := fo s62.1 "tell_ahead" "tell_ahead" "emacs.editing" 227 (Value.none) 61
noncomputable def o68 (P : Params) : Obj := co "tell_behind" "tell_behind" 257 258 259 22 4 3 63 64 65 66 67 265 266
noncomputable def o69 (P : Params) : Obj := fo s69.1 "tell_behind" "tell_behind" "emacs.editing" 227 (Value.none) 68
noncomputable def o75 (P : Params) : Obj := co "text_out" "text_out" 268 269 270 26 3 3 70 71 72 73 74 275 276
noncomputable def o76 (P : Params) : Obj := fo s76.1 "text_out" "text_out" "emacs.editing" 227 (Value.none) 75
noncomputable def o82 (P : Params) : Obj := co "text_in" "text_in" 278 279 280 34 3 3 77 78 79 80 81 284 285
noncomputable def o83 (P : Params) : Obj := fo s83.1 "text_in" "text_in" "emacs.editing" 227 (Value.none) 82
noncomputable def o89 (P : Params) : Obj := co "hung_out" "hung_out" 287 288 289 41 3 3 84 85 86 87 88 293 294
noncomputable def o90 (P : Params) : Obj := fo s90.1 "hung_out" "hung_out" "emacs.editing" 227 (Value.none) 89
noncomputable def o96 (P : Params) : Obj := co "hung_in" "hung_in" 296 297 298 46 4 3 91 92 93 94 95 303 304
noncomputable def o97 (P : Params) : Obj := fo s97.1 "hung_in" "hung_in" "emacs.editing" 227 (Value.none) 96
noncomputable def o103 (P : Params) : Obj := co "put_in" "put_in" 306 307 308 51 5 3 98 99 100 101 102 314 315
noncomputable def o104 (P : Params) : Obj := fo s104.1 "put_in" "put_in" "emacs.editing" 227 (Value.none) 103
noncomputable def o105 (P : Params) : Obj := Obj.mk (Value.type "tuple") none (Data.seq (List.toArray [Value.bool false]) 0) (List.toArray [])
noncomputable def o111 (P : Params) : Obj := co "insert" "insert" 317 318 319 63 3 3 106 107 108 109 110 323 324
noncomputable def o112 (P : Params) : Obj := fo s112.1 "insert" "insert" "emacs.editing" 227 (Value.ref 105) 111
noncomputable def o118 (P : Params) : Obj := co "delete" "delete" 326 327 328 65 3 3 113 114 115 116 117 335 336
noncomputable def o119 (P : Params) : Obj := fo s119.1 "delete" "delete" "emacs.editing" 227 (Value.none) 118
noncomputable def o161 (P : Params) : Obj := Obj.mk (Value.type "code") none (Data.fields (List.toArray [Value.str (Str.ofString "insert_piece") 390, Value.str (Str.ofString "insert_piece") 391, Value.str (Str.ofString "/claim/cut.py") 392, Value.int (101) 0, Value.int (2) 0, Value.int (0) 0, Value.int (0) 0, Value.int (3) 0, Value.ref 158, Value.bool true, Value.int (181) 0, Value.ref 159, Value.none, Value.none, Value.none, Value.ref 160, Value.int (393) 0, Value.int (101) 0, Value.str (Str.ofString "/claim/cut.py") 394])) (List.toArray [])
noncomputable def o162 (P : Params) : Obj := fo s162.1 "insert_piece" "insert_piece" "emacs.piecing" 382 (Value.none) 161
noncomputable def o175 (P : Params) : Obj := Obj.mk (Value.type "tuple") none (Data.seq (List.toArray [Value.str (Str.ofString "boundary") 414]) 0) (List.toArray [])
noncomputable def o188 (P : Params) : Obj := co "__init__" "UndoList.__init__" 428 429 430 134 1 3 183 184 185 186 187 432 433
noncomputable def o189 (P : Params) : Obj := fo s189.1 "__init__" "UndoList.__init__" "emacs.undolist" 412 (Value.none) 188
noncomputable def o202 (P : Params) : Obj := co "is_at_boundary" "UndoList.is_at_boundary" 442 443 444 144 1 3 197 198 199 200 201 446 447
noncomputable def o203 (P : Params) : Obj := fo s203.1 "is_at_boundary" "UndoList.is_at_boundary" "emacs.undolist" 412 (Value.none) 202
noncomputable def o209 (P : Params) : Obj := co "boundary" "UndoList.boundary" 449 450 451 147 1 3 204 205 206 207 208 453 454
noncomputable def o210 (P : Params) : Obj := fo s210.1 "boundary" "UndoList.boundary" "emacs.undolist" 412 (Value.none) 209
noncomputable def o223 (P : Params) : Obj := co "note_state" "UndoList.note_state" 464 465 466 154 3 3 218 219 220 221 222 470 471
noncomputable def o224 (P : Params) : Obj := fo s224.1 "note_state" "UndoList.note_state" "emacs.undolist" 412 (Value.none) 223
noncomputable def o230 (P : Params) : Obj := co "note_insert" "UndoList.note_insert" 473 474 475 159 6 3 225 226 227 228 229 483 484
noncomputable def o231 (P : Params) : Obj := fo s231.1 "note_insert" "UndoList.note_insert" "emacs.undolist" 412 (Value.none) 230
noncomputable def o237 (P : Params) : Obj := co "note_delete" "UndoList.note_delete" 486 487 488 169 7 3 232 233 234 235 236 499 500
noncomputable def o238 (P : Params) : Obj := fo s238.1 "note_delete" "UndoList.note_delete" "emacs.undolist" 412 (Value.none) 237
noncomputable def o249 (P : Params) : Obj := Obj.mk (Value.type "code") none (Data.fields (List.toArray [Value.str (Str.ofString "renew_unmodified") 515, Value.str (Str.ofString "UndoList.renew_unmodified") 516, Value.str (Str.ofString "/claim/cut.py") 517, Value.int (186) 0, Value.int (3) 0, Value.int (0) 0, Value.int (0) 0, Value.int (3) 0, Value.ref 246, Value.bool true, Value.int (181) 0, Value.ref 247, Value.none, Value.none, Value.none, Value.ref 248, Value.int (518) 0, Value.int (186) 0, Value.str (Str.ofString "/claim/cut.py") 519])) (List.toArray [])
noncomputable def o250 (P : Params) : Obj := fo s250.1 "renew_unmodified" "UndoList.renew_unmodified" "emacs.undolist" 412 (Value.none) 249
noncomputable def o259 (P : Params) : Obj := Obj.mk (Value.type "dict") none (Data.dict (List.toArray [en P "__module__" 423 (Value.str (Str.ofString "emacs.undolist") 412), en P "__firstlineno__" 427 (Value.int (132) 426), en P "__init__" 434 (Value.ref 189), en P "count" 441 (Value.ref 196), en P "is_at_boundary" 448 (Value.ref 203), en P "boundary" 455 (Value.ref 210), en P "begin_command" 463 (Value.ref 217), en P "note_state" 472 (Value.ref 224), en P "note_insert" 485 (Value.ref 231), en P "note_delete" 501 (Value.ref 238), en P "note_property" 514 (Value.ref 245), en P "renew_unmodified" 520 (Value.ref 250), en P "clear" 527 (Value.ref 257), en P "__static_attributes__" 533 (Value.ref 258), en P "__dict__" 535 (Value.ref 261), en P "__weakref__" 537 (Value.ref 262), en P "__doc__" 538 (Value.none)]) 4) (List.toArray [])
noncomputable def o260 (P : Params) : Obj := Obj.mk (Value.type "type") none (Data.cls (ClassData.mk (Str.ofString "UndoList") [Value.type "object"] [Value.ref 260, Value.type "object"] 259 (Str.ofString "UndoList") true [] [] false none false)) (List.toArray [none, none, (some (Value.str (Str.ofString "UndoList") 416)), (some (Value.str (Str.ofString "UndoList") 424)), (some (Value.builtin "object.__new__")), (some (Value.bool true))])
noncomputable def o270 (P : Params) : Obj := co "marker_distance" "marker_distance" 541 542 543 192 4 3 265 266 267 268 269 548 549
noncomputable def o271 (P : Params) : Obj := fo s271.1 "marker_distance" "marker_distance" "emacs.undolist" 412 (Value.none) 270
noncomputable def o277 (P : Params) : Obj := co "need_visible" "need_visible" 553 554 555 197 3 3 272 273 274 275 276 559 560
noncomputable def o278 (P : Params) : Obj := fo s278.1 "need_visible" "need_visible" "emacs.primundo" 551 (Value.none) 277
noncomputable def o284 (P : Params) : Obj := co "markers_ahead" "markers_ahead" 562 563 564 200 2 3 279 280 281 282 283 568 569
noncomputable def o285 (P : Params) : Obj := fo s285.1 "markers_ahead" "markers_ahead" "emacs.primundo" 551 (Value.none) 284
noncomputable def o291 (P : Params) : Obj := co "undo_insert" "undo_insert" 571 572 573 206 2 3 286 287 288 289 290 576 577
noncomputable def o292 (P : Params) : Obj := fo s292.1 "undo_insert" "undo_insert" "emacs.primundo" 551 (Value.none) 291
noncomputable def o298 (P : Params) : Obj := co "undo_delete" "undo_delete" 579 580 581 210 3 3 293 294 295 296 297 589 590
noncomputable def o299 (P : Params) : Obj := fo s299.1 "undo_delete" "undo_delete" "emacs.primundo" 551 (Value.none) 298
noncomputable def o305 (P : Params) : Obj := co "undo_row" "undo_row" 592 593 594 222 3 3 300 301 302 303 304 600 601
noncomputable def o306 (P : Params) : Obj := fo s306.1 "undo_row" "undo_row" "emacs.primundo" 551 (Value.none) 305
noncomputable def o312 (P : Params) : Obj := co "above_boundaries" "above_boundaries" 603 604 605 241 2 3 307 308 309 310 311 608 609
noncomputable def o313 (P : Params) : Obj := fo s313.1 "above_boundaries" "above_boundaries" "emacs.primundo" 551 (Value.none) 312
noncomputable def o326 (P : Params) : Obj := co "__init__" "GapText.__init__" 625 626 627 248 3 3 321 322 323 324 325 631 632
noncomputable def o327 (P : Params) : Obj := fo s327.1 "__init__" "GapText.__init__" "emacs.gap" 611 (Value.none) 326
noncomputable def o333 (P : Params) : Obj := co "size" "GapText.size" 634 635 636 254 1 3 328 329 330 331 332 638 639
noncomputable def o334 (P : Params) : Obj := fo s334.1 "size" "GapText.size" "emacs.gap" 611 (Value.none) 333
noncomputable def o347 (P : Params) : Obj := co "codes" "GapText.codes" 649 650 651 262 3 3 342 343 344 345 346 656 657
noncomputable def o348 (P : Params) : Obj := fo s348.1 "codes" "GapText.codes" "emacs.gap" 611 (Value.none) 347
noncomputable def o354 (P : Params) : Obj := co "move_gap" "GapText.move_gap" 659 660 661 270 2 3 349 350 351 352 353 665 666
noncomputable def o355 (P : Params) : Obj := fo s355.1 "move_gap" "GapText.move_gap" "emacs.gap" 611 (Value.none) 354
noncomputable def o361 (P : Params) : Obj := co "widen_gap" "GapText.widen_gap" 668 669 670 281 2 3 356 357 358 359 360 674 675
noncomputable def o362 (P : Params) : Obj := fo s362.1 "widen_gap" "GapText.widen_gap" "emacs.gap" 611 (Value.none) 361
noncomputable def o368 (P : Params) : Obj := co "insert" "GapText.insert" 677 678 679 287 3 3 363 364 365 366 367 683 684
noncomputable def o369 (P : Params) : Obj := fo s369.1 "insert" "GapText.insert" "emacs.gap" 611 (Value.none) 368
noncomputable def o375 (P : Params) : Obj := co "delete" "GapText.delete" 686 687 688 293 3 3 370 371 372 373 374 693 694
noncomputable def o376 (P : Params) : Obj := fo s376.1 "delete" "GapText.delete" "emacs.gap" 611 (Value.none) 375
noncomputable def o399 (P : Params) : Obj := Obj.mk (Value.type "dict") none (Data.dict (List.toArray [en P "__module__" 620 (Value.str (Str.ofString "emacs.gap") 611), en P "__firstlineno__" 624 (Value.int (246) 623), en P "__init__" 633 (Value.ref 327), en P "size" 640 (Value.ref 334), en P "code" 648 (Value.ref 341), en P "codes" 658 (Value.ref 348), en P "move_gap" 667 (Value.ref 355), en P "widen_gap" 676 (Value.ref 362), en P "insert" 685 (Value.ref 369), en P "delete" 695 (Value.ref 376), en P "put" 704 (Value.ref 383), en P "narrow_gap" 711 (Value.ref 390), en P "is_whole" 718 (Value.ref 397), en P "__static_attributes__" 723 (Value.ref 398), en P "__dict__" 725 (Value.ref 401), en P "__weakref__" 727 (Value.ref 402), en P "__doc__" 728 (Value.none)]) 4) (List.toArray [])
noncomputable def o400 (P : Params) : Obj := Obj.mk (Value.type "type") none (Data.cls (ClassData.mk (Str.ofString "GapText") [Value.type "object"] [Value.ref 400, Value.type "object"] 399 (Str.ofString "GapText") true [] [] false none false)) (List.toArray [none, none, (some (Value.str (Str.ofString "GapText") 613)), (some (Value.str (Str.ofString "GapText") 621)), (some (Value.builtin "object.__new__")), (some (Value.bool true))])
noncomputable def o434 (P : Params) : Obj := Obj.mk (Value.type "dict") none (Data.dict (List.toArray [en P "__module__" 740 (Value.str (Str.ofString "emacs.objects") 731), en P "__firstlineno__" 744 (Value.int (312) 743), en P "shown" 751 (Value.ref 418), en P "kind" 758 (Value.ref 425), en P "same_as" 766 (Value.ref 432), en P "__static_attributes__" 767 (Value.ref 433), en P "__dict__" 769 (Value.ref 436), en P "__weakref__" 771 (Value.ref 437), en P "__doc__" 772 (Value.none)]) 4) (List.toArray [])
noncomputable def o435 (P : Params) : Obj := Obj.mk (Value.type "type") none (Data.cls (ClassData.mk (Str.ofString "Opaque") [Value.type "object"] [Value.ref 435, Value.type "object"] 434 (Str.ofString "Opaque") true [] [Value.ref 477, Value.ref 651] false none false)) (List.toArray [none, none, (some (Value.str (Str.ofString "Opaque") 733)), (some (Value.str (Str.ofString "Opaque") 741)), (some (Value.builtin "object.__new__")), (some (Value.bool true))])
noncomputable def o452 (P : Params) : Obj := co "__init__" "Marker.__init__" 789 790 791 325 3 3 447 448 449 450 451 795 796
noncomputable def o453 (P : Params) : Obj := fo s453.1 "__init__" "Marker.__init__" "emacs.markers" 775 (Value.none) 452
noncomputable def o476 (P : Params) : Obj := Obj.mk (Value.type "dict") none (Data.dict (List.toArray [en P "__module__" 784 (Value.str (Str.ofString "emacs.markers") 775), en P "__firstlineno__" 788 (Value.int (323) 787), en P "__init__" 797 (Value.ref 453), en P "shown" 804 (Value.ref 460), en P "kind" 811 (Value.ref 467), en P "same_as" 819 (Value.ref 474), en P "__static_attributes__" 824 (Value.ref 475), en P "__doc__" 825 (Value.none)]) 2) (List.toArray [])
noncomputable def o477 (P : Params) : Obj := Obj.mk (Value.type "type") none (Data.cls (ClassData.mk (Str.ofString "Marker") [Value.ref 435] [Value.ref 477, Value.ref 435, Value.type "object"] 476 (Str.ofString "Marker") true [] [] false none false)) (List.toArray [(some (Value.ref 440)), none, (some (Value.str (Str.ofString "Marker") 777)), (some (Value.str (Str.ofString "Marker") 785)), (some (Value.builtin "object.__new__")), (some (Value.bool true))])
noncomputable def o492 (P : Params) : Obj := co "__init__" "Markers.__init__" 840 841 842 341 1 3 487 488 489 490 491 844 845
noncomputable def o493 (P : Params) : Obj := fo s493.1 "__init__" "Markers.__init__" "emacs.markers" 775 (Value.none) 492
noncomputable def o499 (P : Params) : Obj := co "numbers" "Markers.numbers" 847 848 849 344 1 3 494 495 496 497 498 851 852
noncomputable def o500 (P : Params) : Obj := fo s500.1 "numbers" "Markers.numbers" "emacs.markers" 775 (Value.none) 499
noncomputable def o506 (P : Params) : Obj := co "put" "Markers.put" 854 855 856 347 3 3 501 502 503 504 505 860 861
noncomputable def o507 (P : Params) : Obj := fo s507.1 "put" "Markers.put" "emacs.markers" 775 (Value.none) 506
noncomputable def o513 (P : Params) : Obj := co "drop" "Markers.drop" 863 864 865 351 2 3 508 509 510 511 512 868 869
noncomputable def o514 (P : Params) : Obj := fo s514.1 "drop" "Markers.drop" "emacs.markers" 775 (Value.none) 513
noncomputable def o520 (P : Params) : Obj := co "within" "Markers.within" 871 872 873 355 3 3 515 516 517 518 519 879 880
noncomputable def o521 (P : Params) : Obj := fo s521.1 "within" "Markers.within" "emacs.markers" 775 (Value.none) 520
noncomputable def o527 (P : Params) : Obj := co "inserted" "Markers.inserted" 882 883 884 362 4 3 522 523 524 525 526 891 892
noncomputable def o528 (P : Params) : Obj := fo s528.1 "inserted" "Markers.inserted" "emacs.markers" 775 (Value.none) 527
noncomputable def o534 (P : Params) : Obj := co "deleted" "Markers.deleted" 894 895 896 368 3 3 529 530 531 532 533 902 903
noncomputable def o535 (P : Params) : Obj := fo s535.1 "deleted" "Markers.deleted" "emacs.markers" 775 (Value.none) 534
noncomputable def o544 (P : Params) : Obj := Obj.mk (Value.type "dict") none (Data.dict (List.toArray [en P "__module__" 835 (Value.str (Str.ofString "emacs.markers") 775), en P "__firstlineno__" 839 (Value.int (339) 838), en P "__init__" 846 (Value.ref 493), en P "numbers" 853 (Value.ref 500), en P "put" 862 (Value.ref 507), en P "drop" 870 (Value.ref 514), en P "within" 881 (Value.ref 521), en P "inserted" 893 (Value.ref 528), en P "deleted" 904 (Value.ref 535), en P "replaced" 914 (Value.ref 542), en P "__static_attributes__" 916 (Value.ref 543), en P "__dict__" 918 (Value.ref 546), en P "__weakref__" 920 (Value.ref 547), en P "__doc__" 921 (Value.none)]) 4) (List.toArray [])
noncomputable def o545 (P : Params) : Obj := Obj.mk (Value.type "type") none (Data.cls (ClassData.mk (Str.ofString "Markers") [Value.type "object"] [Value.ref 545, Value.type "object"] 544 (Str.ofString "Markers") true [] [] false none false)) (List.toArray [none, none, (some (Value.str (Str.ofString "Markers") 828)), (some (Value.str (Str.ofString "Markers") 836)), (some (Value.builtin "object.__new__")), (some (Value.bool true))])
noncomputable def o557 (P : Params) : Obj := Obj.mk (Value.type "tuple") none (Data.seq (List.toArray [Value.int (8) 938]) 0) (List.toArray [])
noncomputable def o563 (P : Params) : Obj := co "__init__" "Buffer.__init__" 939 940 941 381 4 3 558 559 560 561 562 946 947
noncomputable def o564 (P : Params) : Obj := fo s564.1 "__init__" "Buffer.__init__" "emacs.buffer" 924 (Value.ref 557) 563
noncomputable def o598 (P : Params) : Obj := co "size" "Buffer.size" 977 978 979 415 1 3 593 594 595 596 597 981 982
noncomputable def o599 (P : Params) : Obj := fo s599.1 "size" "Buffer.size" "emacs.buffer" 924 (Value.none) 598
noncomputable def o612 (P : Params) : Obj := co "codes" "Buffer.codes" 992 993 994 421 3 3 607 608 609 610 611 998 999
noncomputable def o613 (P : Params) : Obj := fo s613.1 "codes" "Buffer.codes" "emacs.buffer" 924 (Value.none) 612
noncomputable def o619 (P : Params) : Obj := co "goto" "Buffer.goto" 1001 1002 1003 424 2 3 614 615 616 617 618 1006 1007
noncomputable def o620 (P : Params) : Obj := fo s620.1 "goto" "Buffer.goto" "emacs.buffer" 924 (Value.none) 619
noncomputable def o633 (P : Params) : Obj := co "is_modified" "Buffer.is_modified" 1016 1017 1018 431 1 3 628 629 630 631 632 1020 1021
noncomputable def o634 (P : Params) : Obj := fo s634.1 "is_modified" "Buffer.is_modified" "emacs.buffer" 924 (Value.none) 633
noncomputable def o640 (P : Params) : Obj := co "set_modified" "Buffer.set_modified" 1023 1024 1025 434 2 3 635 636 637 638 639 1028 1029
noncomputable def o641 (P : Params) : Obj := fo s641.1 "set_modified" "Buffer.set_modified" "emacs.buffer" 924 (Value.none) 640
noncomputable def o647 (P : Params) : Obj := co "touch" "Buffer.touch" 1031 1032 1033 440 2 3 642 643 644 645 646 1036 1037
noncomputable def o648 (P : Params) : Obj := fo s648.1 "touch" "Buffer.touch" "emacs.buffer" 924 (Value.none) 647
noncomputable def o650 (P : Params) : Obj := Obj.mk (Value.type "dict") none (Data.dict (List.toArray [en P "__module__" 933 (Value.str (Str.ofString "emacs.buffer") 924), en P "__firstlineno__" 937 (Value.int (379) 936), en P "__init__" 948 (Value.ref 564), en P "shown" 955 (Value.ref 571), en P "kind" 962 (Value.ref 578), en P "begin" 969 (Value.ref 585), en P "end" 976 (Value.ref 592), en P "size" 983 (Value.ref 599), en P "code_at" 991 (Value.ref 606), en P "codes" 1000 (Value.ref 613), en P "goto" 1008 (Value.ref 620), en P "tick" 1015 (Value.ref 627), en P "is_modified" 1022 (Value.ref 634), en P "set_modified" 1030 (Value.ref 641), en P "touch" 1038 (Value.ref 648), en P "__static_attributes__" 1059 (Value.ref 649), en P "__doc__" 1060 (Value.none)]) 2) (List.toArray [])
noncomputable def o651 (P : Params) : Obj := Obj.mk (Value.type "type") none (Data.cls (ClassData.mk (Str.ofString "Buffer") [Value.ref 435] [Value.ref 651, Value.ref 435, Value.type "object"] 650 (Str.ofString "Buffer") true [] [] false none false)) (List.toArray [(some (Value.ref 550)), none, (some (Value.str (Str.ofString "Buffer") 926)), (some (Value.str (Str.ofString "Buffer") 934)), (some (Value.builtin "object.__new__")), (some (Value.bool true))])
noncomputable def o659 (P : Params) : Obj := co "set_marker" "set_marker" 1065 1066 1067 445 3 3 654 655 656 657 658 1071 1072
noncomputable def o660 (P : Params) : Obj := fo s660.1 "set_marker" "set_marker" "emacs.placing" 1063 (Value.none) 659
noncomputable def o673 (P : Params) : Obj := co "__init__" "Piece.__init__" 1088 1089 1090 456 3 3 668 669 670 671 672 1094 1095
noncomputable def o674 (P : Params) : Obj := fo s674.1 "__init__" "Piece.__init__" "emacs.pieces" 1074 (Value.none) 673
noncomputable def o676 (P : Params) : Obj := Obj.mk (Value.type "dict") none (Data.dict (List.toArray [en P "__module__" 1083 (Value.str (Str.ofString "emacs.pieces") 1074), en P "__firstlineno__" 1087 (Value.int (454) 1086), en P "__init__" 1096 (Value.ref 674), en P "__static_attributes__" 1099 (Value.ref 675), en P "__dict__" 1101 (Value.ref 678), en P "__weakref__" 1103 (Value.ref 679), en P "__doc__" 1104 (Value.none)]) 4) (List.toArray [])
noncomputable def o677 (P : Params) : Obj := Obj.mk (Value.type "type") none (Data.cls (ClassData.mk (Str.ofString "Piece") [Value.type "object"] [Value.ref 677, Value.type "object"] 676 (Str.ofString "Piece") true [] [] false none false)) (List.toArray [none, none, (some (Value.str (Str.ofString "Piece") 1076)), (some (Value.str (Str.ofString "Piece") 1084)), (some (Value.builtin "object.__new__")), (some (Value.bool true))])
noncomputable def o694 (P : Params) : Obj := co "__init__" "Recording.__init__" 1121 1122 1123 462 1 3 689 690 691 692 693 1125 1126
noncomputable def o695 (P : Params) : Obj := fo s695.1 "__init__" "Recording.__init__" "emacs.recording" 1107 (Value.none) 694
noncomputable def o701 (P : Params) : Obj := co "text_comes" "Recording.text_comes" 1128 1129 1130 465 4 3 696 697 698 699 700 1135 1136
noncomputable def o702 (P : Params) : Obj := fo s702.1 "text_comes" "Recording.text_comes" "emacs.recording" 1107 (Value.none) 701
noncomputable def o706 (P : Params) : Obj := Obj.mk (Value.type "code") none (Data.fields (List.toArray [Value.str (Str.ofString "text_goes") 1138, Value.str (Str.ofString "Recording.text_goes") 1139, Value.str (Str.ofString "/claim/cut.py") 1140, Value.int (468) 0, Value.int (4) 0, Value.int (0) 0, Value.int (0) 0, Value.int (3) 0, Value.ref 703, Value.bool true, Value.int (181) 0, Value.ref 704, Value.none, Value.none, Value.none, Value.ref 705, Value.int (1141) 0, Value.int (468) 0, Value.str (Str.ofString "/claim/cut.py") 1142])) (List.toArray [])
noncomputable def o707 (P : Params) : Obj := fo s707.1 "text_goes" "Recording.text_goes" "emacs.recording" 1107 (Value.none) 706
noncomputable def o716 (P : Params) : Obj := Obj.mk (Value.type "dict") none (Data.dict (List.toArray [en P "__module__" 1116 (Value.str (Str.ofString "emacs.recording") 1107), en P "__firstlineno__" 1120 (Value.int (460) 1119), en P "__init__" 1127 (Value.ref 695), en P "text_comes" 1137 (Value.ref 702), en P "text_goes" 1143 (Value.ref 707), en P "property_changes" 1155 (Value.ref 714), en P "__static_attributes__" 1157 (Value.ref 715), en P "__dict__" 1159 (Value.ref 718), en P "__weakref__" 1161 (Value.ref 719), en P "__doc__" 1162 (Value.none)]) 4) (List.toArray [])
noncomputable def o717 (P : Params) : Obj := Obj.mk (Value.type "type") none (Data.cls (ClassData.mk (Str.ofString "Recording") [Value.type "object"] [Value.ref 717, Value.type "object"] 716 (Str.ofString "Recording") true [] [] false none false)) (List.toArray [none, none, (some (Value.str (Str.ofString "Recording") 1109)), (some (Value.str (Str.ofString "Recording") 1117)), (some (Value.builtin "object.__new__")), (some (Value.bool true))])
noncomputable def o725 (P : Params) : Obj := Obj.mk (Value.type "code") none (Data.fields (List.toArray [Value.str (Str.ofString "_law_deck") 1167, Value.str (Str.ofString "_law_deck") 1168, Value.str (Str.ofString "/claim/cut.py") 1169, Value.int (482) 0, Value.int (1) 0, Value.int (0) 0, Value.int (0) 0, Value.int (3) 0, Value.ref 722, Value.bool true, Value.int (181) 0, Value.ref 723, Value.none, Value.none, Value.none, Value.ref 724, Value.int (1170) 0, Value.int (482) 0, Value.str (Str.ofString "/claim/cut.py") 1171])) (List.toArray [])
noncomputable def o726 (P : Params) : Obj := fo s726.1 "_law_deck" "_law_deck" "law_on0071_01" 1165 (Value.none) 725
noncomputable def o732 (P : Params) : Obj := co "_law_draw" "_law_draw" 1173 1174 1175 485 2 3 727 728 729 730 731 1180 1181
noncomputable def o733 (P : Params) : Obj := fo s733.1 "_law_draw" "_law_draw" "law_on0071_01" 1165 (Value.none) 732
noncomputable def o739 (P : Params) : Obj := co "_law_command" "_law_command" 1183 1184 1185 496 3 3 734 735 736 737 738 1193 1194
noncomputable def o740 (P : Params) : Obj := fo s740.1 "_law_command" "_law_command" "law_on0071_01" 1165 (Value.none) 739
noncomputable def o746 (P : Params) : Obj := co "_law_group" "_law_group" 1196 1197 1198 507 3 3 741 742 743 744 745 1202 1203
noncomputable def o747 (P : Params) : Obj := fo s747.1 "_law_group" "_law_group" "law_on0071_01" 1165 (Value.none) 746
noncomputable def o753 (P : Params) : Obj := co "law" "law" 1205 1206 1207 512 1 3 748 749 750 751 752 1219 1220
noncomputable def o754 (P : Params) : Obj := fo s754.1 "law" "law" "law_on0071_01" 1165 (Value.none) 753
noncomputable def KK : Params → Frag := fun P => (nat_lit 3, o3 P) :: (nat_lit 47, o47 P) :: (nat_lit 48, o48 P) :: (nat_lit 54, o54 P) :: (nat_lit 55, o55 P) :: (nat_lit 61, o61 P) :: (nat_lit 62, o62 P) :: (nat_lit 68, o68 P) :: (nat_lit 69, o69 P) :: (nat_lit 75, o75 P) :: (nat_lit 76, o76 P) :: (nat_lit 82, o82 P) :: (nat_lit 83, o83 P) :: (nat_lit 89, o89 P) :: (nat_lit 90, o90 P) :: (nat_lit 96, o96 P) :: (nat_lit 97, o97 P) :: (nat_lit 103, o103 P) :: (nat_lit 104, o104 P) :: (nat_lit 105, o105 P) :: (nat_lit 111, o111 P) :: (nat_lit 112, o112 P) :: (nat_lit 118, o118 P) :: (nat_lit 119, o119 P) :: (nat_lit 161, o161 P) :: (nat_lit 162, o162 P) :: (nat_lit 175, o175 P) :: (nat_lit 188, o188 P) :: (nat_lit 189, o189 P) :: (nat_lit 202, o202 P) :: (nat_lit 203, o203 P) :: (nat_lit 209, o209 P) :: (nat_lit 210, o210 P) :: (nat_lit 223, o223 P) :: (nat_lit 224, o224 P) :: (nat_lit 230, o230 P) :: (nat_lit 231, o231 P) :: (nat_lit 237, o237 P) :: (nat_lit 238, o238 P) :: (nat_lit 249, o249 P) :: (nat_lit 250, o250 P) :: (nat_lit 259, o259 P) :: (nat_lit 260, o260 P) :: (nat_lit 270, o270 P) :: (nat_lit 271, o271 P) :: (nat_lit 277, o277 P) :: (nat_lit 278, o278 P) :: (nat_lit 284, o284 P) :: (nat_lit 285, o285 P) :: (nat_lit 291, o291 P) :: (nat_lit 292, o292 P) :: (nat_lit 298, o298 P) :: (nat_lit 299, o299 P) :: (nat_lit 305, o305 P) :: (nat_lit 306, o306 P) :: (nat_lit 312, o312 P) :: (nat_lit 313, o313 P) :: (nat_lit 326, o326 P) :: (nat_lit 327, o327 P) :: (nat_lit 333, o333 P) :: (nat_lit 334, o334 P) :: (nat_lit 347, o347 P) :: (nat_lit 348, o348 P) :: (nat_lit 354, o354 P) :: (nat_lit 355, o355 P) :: (nat_lit 361, o361 P) :: (nat_lit 362, o362 P) :: (nat_lit 368, o368 P) :: (nat_lit 369, o369 P) :: (nat_lit 375, o375 P) :: (nat_lit 376, o376 P) :: (nat_lit 399, o399 P) :: (nat_lit 400, o400 P) :: (nat_lit 434, o434 P) :: (nat_lit 435, o435 P) :: (nat_lit 452, o452 P) :: (nat_lit 453, o453 P) :: (nat_lit 476, o476 P) :: (nat_lit 477, o477 P) :: (nat_lit 492, o492 P) :: (nat_lit 493, o493 P) :: (nat_lit 499, o499 P) :: (nat_lit 500, o500 P) :: (nat_lit 506, o506 P) :: (nat_lit 507, o507 P) :: (nat_lit 513, o513 P) :: (nat_lit 514, o514 P) :: (nat_lit 520, o520 P) :: (nat_lit 521, o521 P) :: (nat_lit 527, o527 P) :: (nat_lit 528, o528 P) :: (nat_lit 534, o534 P) :: (nat_lit 535, o535 P) :: (nat_lit 544, o544 P) :: (nat_lit 545, o545 P) :: (nat_lit 557, o557 P) :: (nat_lit 563, o563 P) :: (nat_lit 564, o564 P) :: (nat_lit 598, o598 P) :: (nat_lit 599, o599 P) :: (nat_lit 612, o612 P) :: (nat_lit 613, o613 P) :: (nat_lit 619, o619 P) :: (nat_lit 620, o620 P) :: (nat_lit 633, o633 P) :: (nat_lit 634, o634 P) :: (nat_lit 640, o640 P) :: (nat_lit 641, o641 P) :: (nat_lit 647, o647 P) :: (nat_lit 648, o648 P) :: (nat_lit 650, o650 P) :: (nat_lit 651, o651 P) :: (nat_lit 659, o659 P) :: (nat_lit 660, o660 P) :: (nat_lit 673, o673 P) :: (nat_lit 674, o674 P) :: (nat_lit 676, o676 P) :: (nat_lit 677, o677 P) :: (nat_lit 694, o694 P) :: (nat_lit 695, o695 P) :: (nat_lit 701, o701 P) :: (nat_lit 702, o702 P) :: (nat_lit 706, o706 P) :: (nat_lit 707, o707 P) :: (nat_lit 716, o716 P) :: (nat_lit 717, o717 P) :: (nat_lit 725, o725 P) :: (nat_lit 726, o726 P) :: (nat_lit 732, o732 P) :: (nat_lit 733, o733 P) :: (nat_lit 739, o739 P) :: (nat_lit 740, o740 P) :: (nat_lit 746, o746 P) :: (nat_lit 747, o747 P) :: (nat_lit 753, o753 P) :: (nat_lit 754, o754 P) :: []
noncomputable def asK : List Addr := [3, 47, 48, 54, 55, 61, 62, 68, 69, 75, 76, 82, 83, 89, 90, 96, 97, 103, 104, 105, 111, 112, 118, 119, 161, 162, 175, 188, 189, 202, 203, 209, 210, 223, 224, 230, 231, 237, 238, 249, 250, 259, 260, 270, 271, 277, 278, 284, 285, 291, 292, 298, 299, 305, 306, 312, 313, 326, 327, 333, 334, 347, 348, 354, 355, 361, 362, 368, 369, 375, 376, 399, 400, 434, 435, 452, 453, 476, 477, 492, 493, 499, 500, 506, 507, 513, 514, 520, 521, 527, 528, 534, 535, 544, 545, 557, 563, 564, 598, 599, 612, 613, 619, 620, 633, 634, 640, 641, 647, 648, 650, 651, 659, 660, 673, 674, 676, 677, 694, 695, 701, 702, 706, 707, 716, 717, 725, 726, 732, 733, 739, 740, 746, 747, 753, 754]
noncomputable def loose : List Str := [Str.ofString "_wall", Str.ofString "LispSignal", Str.ofString "need_writable", Str.ofString "reached", Str.ofString "tell_ahead", Str.ofString "tell_behind", Str.ofString "text_out", Str.ofString "text_in", Str.ofString "hung_out", Str.ofString "hung_in", Str.ofString "put_in", Str.ofString "insert", Str.ofString "delete", Str.ofString "eq", Str.ofString "plist_find", Str.ofString "plist_get", Str.ofString "plist_with", Str.ofString "plist_without", Str.ofString "plist_rows", Str.ofString "insert_piece", Str.ofString "is_value", Str.ofString "set_property", Str.ofString "BOUNDARY", Str.ofString "UndoList", Str.ofString "marker_distance", Str.ofString "need_visible", Str.ofString "markers_ahead", Str.ofString "undo_insert", Str.ofString "undo_delete", Str.ofString "undo_row", Str.ofString "above_boundaries", Str.ofString "GapText", Str.ofString "Opaque", Str.ofString "Marker", Str.ofString "Markers", Str.ofString "Buffer", Str.ofString "set_marker", Str.ofString "Piece", Str.ofString "Recording", Str.ofString "_law_deck", Str.ofString "_law_draw", Str.ofString "_law_command", Str.ofString "_law_group"]
-- law at 57; toks 1222 size 755
-- the top's run, in one piece, over a tree of objects
noncomputable abbrev lawS : { st : Stmt // stAt 57 = some st } := ⟨_, rfl⟩
noncomputable def qq : Program := { pw with main := { pw.main with body := [lawS.1] } }
noncomputable abbrev dL : { d : DefRec // defOf qq (Str.ofString "law") = some (d, []) } := ⟨_, rfl⟩
noncomputable def pickQ {σ τ : Type} (s : σ) (k : σ → τ → Option σ) (o : Option (σ × τ)) (c b : Bool) : Option σ := cond b (some s) (cond c (o.bind fun (a, d) => k a d) none)
theorem pickQ_of {σ τ : Type} {s : σ} {k : σ → τ → Option σ} {P : Option σ → Prop} {o : Option (σ × τ)} {c b : Bool} (z : P none) (x : b = true → P (some s)) (y : b = false → c = true → ∀ r, o = some r → P (k r.1 r.2)) : P (pickQ s k o c b) := by
  cases b
  · cases c
    · exact z
    · cases o
      · exact z
      · exact y rfl rfl _ rfl
  · exact x rfl
noncomputable def runQ (p : Program) (w : World) (n₀ : Nat) (ann : Option Value) (n : Nat) : SharedT → Thread → Option SharedT :=
  n.rec (fun _ _ => none) fun _ k s t => pickQ s k (PySem.W.Fast.tw10156331382660048174 (PySem.W.Fast.tw11892475500146522536 PySem.W.Fast.tw14364793385576792824) p w s t) (PySem.W.Fast.tw6613529449190102663 n₀ ann t) (through t)
theorem run_go {tb : String → Option Builtin} {p : Program} {w : World} {n₀ : Nat} {ann : Option Value} {n : Nat} {s s' r : Shared} {t t' : Thread} (e : through t = false) (e1 : stepOk n₀ ann t = true) (e2 : step (denote tb) p w s t = .go s' t') (h : topRun tb p w n₀ ann n s' t' = some r) : topRun tb p w n₀ ann (n + 1) s t = some r := by
  rw [topRun, e]; dsimp only; rw [e1]; dsimp only; rw [e2]; exact h
theorem run_end {tb : String → Option Builtin} {p : Program} {w : World} {n₀ : Nat} {ann : Option Value} {n : Nat} {s : Shared} {t : Thread} (e : through t = true) : topRun tb p w n₀ ann (n + 1) s t = some s := by
  rw [topRun, e]
theorem quick_step {p : Program} {w : World} {s s' : SharedT} {t t' : Thread} (h : PySem.W.Fast.tw10156331382660048174 (PySem.W.Fast.tw11892475500146522536 PySem.W.Fast.tw14364793385576792824) p w s t = some (s', t')) : step (denote treeTable) p w s.abs t = .go s'.abs t' :=
  stepT_spec (PySem.W.Fast.te14364793385576792824 ▸ PySem.W.Fast.te11892475500146522536 ▸ PySem.W.Fast.te10156331382660048174 ▸ h)
theorem runQ_of {p : Program} {w : World} {n₀ : Nat} {ann : Option Value} {n : Nat} : ∀ {s s' : SharedT} {t : Thread}, runQ p w n₀ ann n s t = some s' → topRun treeTable p w n₀ ann n s.abs t = some s'.abs := by
  induction n with
  | zero => exact fun h => nomatch h
  | succ n ih =>
    intro s s' t
    exact pickQ_of (P := fun o => o = some s' → topRun treeTable p w n₀ ann (n + 1) s.abs t = some s'.abs) (k := runQ p w n₀ ann n) (fun h => nomatch h) (fun e h => Option.some.inj h ▸ run_end e) fun e e1 _ e2 e3 => run_go e (PySem.W.Fast.te6613529449190102663 ▸ e1) (quick_step e2) (ih e3)
theorem left_of {p q : Program} {loose : List Str} {Xt : Shared → Bool} {α : Type} {Yf : Shared → α} {Ya : World → α} {N : Nat} {H₀ : Params → Heap} {T₀ : Params → BT} {n₀ : Nat} {lf : Life} {d₀ : Drawn} {k₀ : Nat} {m₀ : Nat} {ann : Option Value} {M : Nat}
    (open_ : ∀ w : World, (fencedOpening treeTable p w N).map (fun s => (s.heap, s.gens, s.drawn, s.toks)) = some (H₀ w.params, Array.mk [], d₀, k₀))
    (tree : ∀ w : World, H₀ w.params = absHeap (T₀ w.params) n₀ lf)
    (size : ∀ w : World, ((H₀ w.params).isNs mainGlobals && (Array.mk ([] : List GenState)).size == 0, (H₀ w.params).objs.size, (H₀ w.params).nsMap mainGlobals "__annotations__") = (true, m₀, ann))
    (le : Nat.ble M N = true)
    (run : ∀ w : World, (fun os => (runQ p w m₀ ann M ⟨T₀ w.params, n₀, lf, Array.mk [], d₀, k₀, os⟩ (topStub p)).map (fun s =>
        ((staticsOk (importedModules p.main.body) (H₀ w.params) s.abs.heap && namesBound p s.abs.heap && gensDone s.abs && laidKept (H₀ w.params) s.abs.heap),
          PySem.W.Fast.tw4187177175401517315 q loose (importedModules p.main.body) Xt true s.abs, Yf s.abs))) = fun _ => some (true, openGood q loose, Ya w)) : LeftO p q loose Xt Yf Ya N := fun w => by
  obtain ⟨⟨h, gs, d, k, os⟩, e, e'⟩ := Option.map_eq_some_iff.mp (open_ w)
  obtain ⟨rfl, rfl, rfl, rfl⟩ : h = H₀ w.params ∧ gs = Array.mk [] ∧ d = d₀ ∧ k = k₀ := by simpa using e'
  obtain ⟨z1, z2, z3⟩ : _ ∧ _ ∧ _ := by simpa only [Prod.mk.injEq] using size w
  obtain ⟨s, hs, hr⟩ := Option.map_eq_some_iff.mp (congrFun (run w) os)
  rw [← PySem.W.Fast.te4187177175401517315] at hr
  obtain ⟨l1, l2, l3⟩ : _ ∧ _ ∧ _ := by simpa only [Prod.mk.injEq] using hr
  have r := topRun_mono (N - M) _ _ _ _ (runQ_of hs)
  rw [show M + (N - M) = N by have := Nat.le_of_ble_eq_true le; omega] at r
  have hS : (SharedT.mk (T₀ w.params) n₀ lf (Array.mk []) d k os).abs = ⟨H₀ w.params, Array.mk [], d, k, os⟩ := by rw [tree w]; rfl
  rw [hS] at r
  have t : topFrom treeTable p w N ⟨H₀ w.params, Array.mk [], d, k, os⟩ = some s.abs := by
    unfold topFrom
    dsimp only
    rw [z1, z2, z3, r]
    show (match staticsOk (importedModules p.main.body) (H₀ w.params) s.abs.heap && namesBound p s.abs.heap && gensDone s.abs && laidKept (H₀ w.params) s.abs.heap with | true => _ | false => _) = _
    rw [l1]
  unfold openEnds
  rw [e]
  show (topFrom treeTable p w N _).map _ = _
  rw [t]
  exact congrArg some (Prod.ext l2 l3)
noncomputable def bootL (P : Params) : List Obj := [boot_o_0 P, boot_o_1 P, boot_o_2 P, boot_o_3 P, boot_o_4 P, boot_o_5 P, boot_o_6 P, boot_o_7 P, boot_o_8 P, boot_o_9 P, boot_o_10 P]
noncomputable def bootT (P : Params) : BT := (bootL P).zipIdx.foldl (fun t x => t.ins x.2 x.1) .nil
theorem open_ok : ∀ w : World, (fencedOpening treeTable pw w 10000).map (fun s => (s.heap, s.gens, s.drawn, s.toks)) = some (boot_heap w.params, Array.mk [], boot_drawn, boot_toks) :=
  boot_open (by kernel_rfl) (by kernel_rfl) (fun s => by kernel_rfl)
theorem tree_ok : ∀ w : World, boot_heap w.params = absHeap (bootT w.params) 11 {} := fun w => by kernel_rfl
theorem size_ok : ∀ w : World, ((boot_heap w.params).isNs mainGlobals && (Array.mk ([] : List GenState)).size == 0, (boot_heap w.params).objs.size, (boot_heap w.params).nsMap mainGlobals "__annotations__") = (true, 11, some (.ref 6)) := fun w => by kernel_rfl
noncomputable def ysK (s : Shared) : List (Option Obj) := asK.map s.heap.get?
noncomputable def yaK (w : World) : List (Option Obj) := (KK w.params).map fun p => some p.2
theorem run_ok : ∀ w : World, (fun os => (runQ pw w 11 (some (.ref 6)) 5000 ⟨bootT w.params, 11, {}, Array.mk [], boot_drawn, boot_toks, os⟩ (topStub pw)).map (fun s =>
        ((staticsOk (importedModules pw.main.body) (boot_heap w.params) s.abs.heap && namesBound pw s.abs.heap && gensDone s.abs && laidKept (boot_heap w.params) s.abs.heap),
          PySem.W.Fast.tw4187177175401517315 qq loose (importedModules pw.main.body) (fun s => xlAt qq [] s && recOk [] s) true s.abs, ysK s.abs))) = fun _ => some (true, openGood qq loose, yaK w) := fun w => by kernel_rfl
theorem left_ok : LeftO pw qq loose (fun s => xlAt qq [] s && recOk [] s) ysK yaK 10000 := left_of open_ok tree_ok size_ok (by kernel_rfl) run_ok
theorem keys_ok : ∀ P : Params, asK = (KK P).map (·.1) := fun P => by kernel_rfl
theorem said_ok : PySem.Challenge.rw_on0071_01.wellSaid = true := by decide +kernel
theorem holds_of_walk (walk : WalkO qq loose (XL qq []) (fun w h => InK KK w h) PySem.Challenge.rw_on0071_01.row.toRowW dL.1 [] (fun f vs => PySem.call f vs)) : PySem.Challenge.rw_on0071_01.Holds := by
  refine holds_law said_ok fun said => ?_
  refine holds_open (q := qq) (loose := loose) (Xt := fun s => xlAt qq [] s && recOk [] s) (XP := XL qq []) (Yf := ysK) (Ya := yaK) (YP := fun w h => InK KK w h) (N := 10000) left_ok (InK.of keys_ok) InK.keeps (fun s e => xl_of s (Bool.and_eq_true_iff.mp e).1) XL.keeps dL.2 (by rfl) (by rfl) (fun s e => recFacts_of (Bool.and_eq_true_iff.mp e).2) (by rfl) said (by decide +kernel) ⟨rfl, rfl, rfl, rfl, rfl, by decide +kernel⟩ ?hw walk
  exact ⟨[ofPy (PyData.list [])], by decide +kernel, by decide +kernel⟩
noncomputable section
theorem fill : PySem.Challenge.rw_on0071_01 = PySem.Challenge.rw_on0071_01 ∧ KK = KK := by
  k_fill
  exact ⟨rfl, rfl⟩
noncomputable def kindO (o : Obj) : Nat := match o.data with
  | .plain => 0
  | .seq _ _ => if o.cls == .type "tuple" then 5 else 1
  | .dict _ _ => 2
  | _ => 3
theorem notin_of {h₀ h : Heap} {L a : Addr} {o : Obj} {l : List (Addr × Obj)} (N : News h₀ L h l) (ha : h.get? a = some o) (hk : l.all (fun p => !Nat.beq (kindO p.2) (kindO o)) = true) : a ∉ l.map (·.1) := by
  intro hm
  obtain ⟨p, hp, rfl⟩ := List.mem_map.mp hm
  have e := (N p hp).1
  rw [ha] at e
  cases e
  have := List.all_eq_true.mp hk p hp
  simp at this
def LeaveC (g : Heap) (R : Result → Shared → Prop) (v : Value) (s' : Shared) : Prop := (∃ L' m', Fr g L' s'.heap m') ∧ R (.ok (.ret v)) s'
theorem enterC {prog : Program} {w : World} {A A₀ : Around} {s : Shared} {K : Frag} {L : Addr} {h₀ base : Heap} {m mg mb : Str → Option Value} {led : List (Addr × Obj)} {p : Program} {loose : List Str} {mean : ExcName → Option Value}
    {env : Env} {outer : List Env} {R : Result → Shared → Prop} {name qual : Str} {params : Arguments} {body : List Stmt} {scope : Scope} {dV kV doc pm cdv ct oc : Value} {an od : Option Addr} {osl : Array (Option Value)} {f : Addr} {args : Args} {binds : List (Str × Value)}
    (B : Below A₀ base outer h₀) (F : Fr h₀ L s.heap m) (X₀ : K.In h₀) (N : News h₀ L s.heap led) (T : Top p loose mean mg mb h₀) (hA : A.frames = some (env :: outer)) (hf : env.frame = some L) (hke : env.scope.kind = .function)
    (ho : K.lookup f = some ⟨oc, od, .func (fnOf name qual params body scope dV kV doc pm an cdv ct), osl⟩) (hcd : codeIn K cdv qual = true) (hroom : A.depth < recursionLimit)
    (hbind : BindsTo s (fnOf name qual params body scope dV kV doc pm an cdv ct) args binds) (hloc : ∀ y ∈ binds, scope.names.lookup y.1 = some .local)
    (h : ∀ g L' h₁ tk, (∀ b o, s.heap.get? b = some o → b ∉ led.map (·.1) → g.get? b = some o) → (∀ b o, g.get? b = some o → s.heap.get? b = some o ∧ b ∉ led.map (·.1)) → s.heap.objs.size ≤ L' →
      (∀ h' L'' m', Fr g L'' h' m' → Fr h₀ L h' m) →
      Fr g L' h₁ (fun y => binds.reverse.lookup y) → News g L' h₁ led → Below A base (env :: outer) g → K.In g → Top p loose mean mg mb g →
      wpAny (model prog w) (A.deeper (envOf qual scope L' f cdv)) (execs body (envOf qual scope L' f cdv))
        (fun fl s' => LeaveC g R (match fl with | .ret v => v | _ => .none) s')
        (fun e s' => wpAny (model prog w) (A.deeper (envOf qual scope L' f cdv)) (leaving (envOf qual scope L' f cdv) e) (fun _ s'' => R (.error e) s'') (fun e' s'' => R (.error e') s'') s')
        { s with heap := h₁, toks := tk })
    (hco : scope.isCoroutine = false) (hgen : scope.isGenerator = false) (hk : scope.kind = .function)
    (hcell : ∀ x ∈ scope.names, x.2 ≠ .cell) : codeAny (model prog w) A (.call (.ref f) args) R s := by
  obtain ⟨FG, BG, st, _⟩ := groundX (R := R) B F N hA hf hke
  have lv := (groundX (R := fun _ s' => Fr h₀ L s'.heap m) B F N hA hf hke).2.2.2
  refine codeAny_call_def (fd := fnOf name qual params body scope dV kV doc pm an cdv ct) (body := body) (binds := binds) hroom ((X₀.keeps F.keep) _ _ ho) rfl (T.nolimit.keeps F.keep) (codeRec_of (X₀.keeps F.keep) hcd) rfl hbind hcell hloc (fun h₁ hns hk₁ => ?_) hco hgen hk
  refine wpAny_mono (h (hideAll s.heap (led.map (·.1))) s.heap.objs.size h₁ (s.toks + binds.length) (fun b o e n => hideAll_get _ e n) (fun b o e => ⟨of_hideAll _ e, fun q => by rw [hideAll_none _ q] at e; cases e⟩) (Nat.le_refl _)
    (fun h' L'' m' F' => lv .none { s with heap := h' } ⟨L'', m', [], F', News.nil, fun a _ => a⟩)
    ⟨hns, fun b o e => hk₁ b o (of_hideAll _ e), Nat.le_of_eq (hideAll_size _ _)⟩
    (fun p hp => ⟨hk₁ _ _ (N p hp).1, Nat.ne_of_lt (Heap.lt_size (N p hp).1), hideAll_none _ (List.mem_map_of_mem hp)⟩) BG (X₀.keeps fun b o e => st b o e) (T.keeps fun b o e => st b o e)) (fun fl s' hl => hl.2) fun _ _ y => y
def Spec (w : World) (D U : Nat) (f : Addr) (args : List Value) (led : List (Addr × Obj)) (pre : Heap → Prop) (post : Heap → Value → Heap → Prop) : Prop :=
  ∀ (p : Program) (loose : List Str) (mean : ExcName → Option Value) (mg mb : Str → Option Value) (dp un : Nat) (gd : Option (List Code)) (cn : Str) (cs : Scope) (a : Addr) (ccd : Value) (cl : List (Str × Addr)) (outer : List Env) (A₀ : Around) (base h₀ : Heap) (L : Addr) (m : Str → Option Value) (s : Shared)
    (Q E : Value → Shared → Prop),
    Below A₀ base outer h₀ → Fr h₀ L s.heap m → (KK w.params).In h₀ → News h₀ L s.heap led → Top p loose mean mg mb h₀ → cs.kind = .function → dp + D < recursionLimit → un + U < cLine → pre s.heap →
    (∀ v h' tk', Fr h₀ L h' m → (∀ b o, s.heap.get? b = some o → b ∉ led.map (·.1) → h'.get? b = some o) → post s.heap v h' → Q v { s with heap := h', toks := tk' }) →
    wpAny (model pw w) (ktrTop dp un gd cn cs L a ccd cl outer) (call (.ref f) args) Q E s
theorem new_ne {h₀ h : Heap} {L a : Addr} {m : Str → Option Value} (F : Fr h₀ L h m) (ha : h.get? a = none) : a ≠ L ∧ h₀.get? a = none := by
  constructor
  · rintro rfl
    obtain ⟨o, _, _, ho, _⟩ := F.ns
    rw [ho] at ha; cases ha
  · cases q : h₀.get? a with
    | none => rfl
    | some o => rw [F.keep _ _ q] at ha; cases ha
theorem free_ne {h : Heap} {x a : Addr} {o : Obj} (hx : h.get? x = none) (ha : h.get? a = some o) : x ≠ a := by
  rintro rfl
  rw [ha] at hx; cases hx
theorem free_of {s g h' : Heap} {L' x : Addr} {o : Obj} {l : List (Addr × Obj)} {news : List (Addr × Obj)} (hin : ∀ b o, s.get? b = some o → b ∉ l.map (·.1) → g.get? b = some o) (N : News g L' h' news) (hm : (x, o) ∈ news) (hl : x ∉ l.map (·.1)) : s.get? x = none := by
  cases q : s.get? x with
  | none => rfl
  | some o' => have := (N _ hm).2.2; rw [hin _ _ q hl] at this; cases this
theorem leaveC_of {g s h₀ : Heap} {L L' : Addr} {m m' : Str → Option Value} {s' : Shared} {R : Result → Shared → Prop} {v : Value} {l : List (Addr × Obj)} (F' : Fr g L' s'.heap m') (hin : ∀ b o, s.get? b = some o → b ∉ l.map (·.1) → g.get? b = some o)
    (back : ∀ h' L'' m', Fr g L'' h' m' → Fr h₀ L h' m) (k : Fr h₀ L s'.heap m → (∀ b o, s.get? b = some o → b ∉ l.map (·.1) → s'.heap.get? b = some o) → R (.ok (.ret v)) s') : LeaveC g R v s' :=
  ⟨⟨_, _, F'⟩, k (back _ _ _ F') fun b o e n => F'.keep _ _ (hin b o e n)⟩
noncomputable def At (h : Heap) : List (Addr × Obj) → Prop
  | [] => True
  | p :: r => h.get? p.1 = some p.2 ∧ At h r
theorem At.nil {h : Heap} : At h [] := trivial
theorem At.of_news {h₀ h : Heap} {L : Addr} : ∀ {l : List (Addr × Obj)}, News h₀ L h l → At h l
  | [], _ => trivial
  | p :: r, N => ⟨(N p (.head _)).1, At.of_news fun q hq => N q (.tail _ hq)⟩
theorem At.get {h : Heap} : ∀ {l : List (Addr × Obj)}, At h l → ∀ {x : Addr} {o : Obj}, (x, o) ∈ l → h.get? x = some o
  | [], _, _, _, hm => nomatch hm
  | q :: r, H, _, _, hm => by
    rcases List.mem_cons.mp hm with rfl | hm
    · exact H.1
    · exact At.get H.2 hm
theorem At.keep {h h' : Heap} : ∀ {l : List (Addr × Obj)}, At h l → (∀ b o, h.get? b = some o → h'.get? b = some o) → At h' l
  | [], _, _ => trivial
  | p :: r, H, k => ⟨k _ _ H.1, At.keep H.2 k⟩
theorem At.mem {h : Heap} : ∀ {l : List (Addr × Obj)}, At h l → ∀ p ∈ l, h.get? p.1 = some p.2
  | [], _, _, hm => nomatch hm
  | q :: r, H, p, hm => by
    rcases List.mem_cons.mp hm with rfl | hm
    · exact H.1
    · exact At.mem H.2 p hm
theorem News.append' {h₀ h : Heap} {L : Addr} {a b : List (Addr × Obj)} (x : News h₀ L h a) (y : News h₀ L h b) : News h₀ L h (a ++ b) := fun p hp => (List.mem_append.mp hp).elim (x p) (y p)
theorem News.cons' {h₀ h : Heap} {L x : Addr} {o : Obj} {b : List (Addr × Obj)} (e : h.get? x = some o) (n : x ≠ L ∧ h₀.get? x = none) (y : News h₀ L h b) : News h₀ L h ((x, o) :: b) := fun p hp => by
  rcases List.mem_cons.mp hp with rfl | hp
  · exact ⟨e, n⟩
  · exact y p hp
noncomputable def Subl : List (Addr × Obj) → List (Addr × Obj) → Prop
  | [], _ => True
  | p :: r, n => p ∈ n ∧ Subl r n
theorem Subl.mem {n : List (Addr × Obj)} : ∀ {l : List (Addr × Obj)}, Subl l n → ∀ q ∈ l, q ∈ n
  | [], _, _, hm => nomatch hm
  | p :: r, H, q, hm => by
    rcases List.mem_cons.mp hm with rfl | hm
    · exact H.1
    · exact Subl.mem H.2 q hm
def NeAll (d : Addr) (l : List (Addr × Obj)) : Prop := ∀ p ∈ l, p.1 ≠ d
theorem neAll_of {d : Addr} {l : List (Addr × Obj)} (h : ∀ p ∈ l, p.1 < d) : NeAll d l := fun p hp => Nat.ne_of_lt (h p hp)
theorem NeAll.at {d : Addr} {l : List (Addr × Obj)} (h : NeAll d l) {x : Addr} {o : Obj} (hm : (x, o) ∈ l) : x ≠ d := h _ hm
theorem news_back {h₀ h h' : Heap} {L : Addr} {led led' news : List (Addr × Obj)} (N : News h₀ L h news) (S : Subl led news) (e : led'.map (·.1) = led.map (·.1)) (A : At h' led') : News h₀ L h' led' := fun p hp => by
  have : p.1 ∈ led.map (·.1) := e ▸ List.mem_map_of_mem hp
  obtain ⟨q, hq, e⟩ := List.mem_map.mp this
  have := (N q (S.mem q hq)).2
  rw [e] at this
  exact ⟨A.mem p hp, this⟩
theorem spec_use {w : World} {D U : Nat} {f : Addr} {args : List Value} {led news : List (Addr × Obj)} {pre : Heap → Prop} {post : Heap → Value → Heap → Prop}
    {p : Program} {loose : List Str} {mean : ExcName → Option Value} {mg mb : Str → Option Value} {dp un : Nat} {gd : Option (List Code)} {cn : Str} {cs : Scope} {a : Addr} {ccd : Value} {cl : List (Str × Addr)} {outer : List Env} {A₀ : Around} {base h₀ : Heap} {L : Addr} {m : Str → Option Value} {s : Shared}
    {Q E : Value → Shared → Prop} (S : Spec w D U f args led pre post)
    (B : Below A₀ base outer h₀) (F : Fr h₀ L s.heap m) (X : (KK w.params).In h₀) (N : News h₀ L s.heap news) (T : Top p loose mean mg mb h₀) (hk : cs.kind = .function) (hp : pre s.heap) (sub : Subl led news) (hd : dp + D < recursionLimit) (hu : un + U < cLine)
    (ret : ∀ v h' tk', Fr h₀ L h' m →
      (∀ led' rest, At h' led' → led'.map (·.1) = led.map (·.1) → (∀ q ∈ rest, q ∈ news ∧ q.1 ∉ led.map (·.1)) → News h₀ L h' (rest ++ led')) →
      (∀ x o, s.heap.get? x = none → h'.get? x = some o → h'.get? x = some o ∧ (x ≠ L ∧ h₀.get? x = none) ∧ NeAll x news) →
      post s.heap v h' → Q v { s with heap := h', toks := tk' }) :
    wpAny (model pw w) (ktrTop dp un gd cn cs L a ccd cl outer) (call (.ref f) args) Q E s := by
  unfold Spec at S
  refine S p loose mean mg mb dp un gd cn cs a ccd cl outer A₀ base h₀ L m s Q E B F X (fun q hq => N q (sub.mem q hq)) T hk hd hu hp ?_
  intro v h' tk' F' kept po
  refine ret v h' tk' F' (fun led' rest A e hr => News.append' (fun q hq => ?_) (news_back N sub e A)) (fun x o hx hx' => ⟨hx', new_ne F hx, fun q hq => (free_ne hx (N q hq).1).symm⟩) po
  exact ⟨kept _ _ (N q (hr q hq).1).1 (hr q hq).2, (N q (hr q hq).1).2⟩
theorem ne_of_kind {h : Heap} {a b : Addr} {o o' : Obj} (ha : h.get? a = some o) (hb : h.get? b = some o') (hk : (!Nat.beq (kindO o) (kindO o')) = true) : a ≠ b := by
  rintro rfl
  rw [ha] at hb; cases hb
  simp at hk
namespace N_Gc.Zq
end N_Gc.Zq
namespace N_Ge.Zq
end N_Ge.Zq
namespace N_Ga.Zq
end N_Ga.Zq
namespace N_Gg.Zq
end N_Gg.Zq
namespace N_Mk.Zq
end N_Mk.Zq
namespace N_Mw.Zq
end N_Mw.Zq
namespace N_Un.Zq
end N_Un.Zq
namespace N_Ui.Zq
end N_Ui.Zq
namespace N_Ub.Zq
end N_Ub.Zq
namespace N_Uc.Zq
end N_Uc.Zq
namespace N_Ud.Zq
end N_Ud.Zq
namespace N_Bq.Zq
end N_Bq.Zq
namespace N_Tc.Zq
end N_Tc.Zq
namespace N_In.Zq
end N_In.Zq
namespace N_Tg.Zq
end N_Tg.Zq
namespace N_Th.Zq
end N_Th.Zq
namespace N_To.Zq
end N_To.Zq
namespace N_De.Zq
end N_De.Zq
namespace N_Us.Zq
end N_Us.Zq
namespace N_Ma.Zq
end N_Ma.Zq
namespace N_Ip.Zq
end N_Ip.Zq
namespace N_Go.Zq
end N_Go.Zq
namespace N_Ur.Zq
end N_Ur.Zq
namespace N_Ux.Zq
end N_Ux.Zq
namespace N_Uz.Zq
end N_Uz.Zq
namespace N_Rn.Zq
end N_Rn.Zq
namespace N_Rx.Zq
end N_Rx.Zq
namespace N_Uu.Zq
end N_Uu.Zq
namespace N_Dr.Zq
end N_Dr.Zq
namespace N_Dk.Zq
end N_Dk.Zq
namespace N_Cm.Zq
end N_Cm.Zq
namespace N_Bi.Zq
end N_Bi.Zq
namespace N_Ri.Zq
end N_Ri.Zq
namespace N_I0.Zq
end N_I0.Zq
namespace N_I1.Zq
end N_I1.Zq
namespace N_Sn.Zq
end N_Sn.Zq
namespace N_Gr.Zq
end N_Gr.Zq
namespace N_L1.Zq
end N_L1.Zq
namespace N_L3.Zq
end N_L3.Zq
namespace N_L5.Zq
end N_L5.Zq
namespace N_L2.Zq
end N_L2.Zq
namespace N_L7.Zq
end N_L7.Zq
namespace N_L8.Zq
end N_L8.Zq
namespace N_L9.Zq
end N_L9.Zq
namespace N_L10.Zq
end N_L10.Zq
namespace N_L12.Zq
end N_L12.Zq
namespace N_L14.Zq
end N_L14.Zq
open Lean in
local macro_rules | `(tactic| open Zz in $t:tacticSeq) => do
  let m ← MonadQuotation.getContext
  let k ← getCurrMacroScope
  let u := t.raw.rewriteBottomUp fun s => match s with
    | .ident i r n p => if n.getRoot.toString.endsWith "ₓ" then .ident i r (Lean.addMacroScope m n k) p else s
    | s => s
  let u : TSyntax `Lean.Parser.Tactic.tacticSeq := ⟨u⟩
  `(tactic| ($u))
open Lean in
local macro_rules | `(tactic| k_extra $s) => do
  let v := s.getString
  if v.startsWith "#" then Macro.throwUnsupported
  let t := (← Macro.resolveNamespace `Zq).head?.elim "" fun n => n.getPrefix.getString!
  let a := Syntax.mkStrLit ("#" ++ t ++ " " ++ v)
  let b := Syntax.mkStrLit ("#* " ++ v)
  `(tactic| first | k_extra $a | k_extra $b)
local macro_rules | `(tactic| walk_at $s:str) => `(tactic| k_extra $s)
local macro_rules | `(tactic| k_ne) => `(tactic| k_extra "k_ne")
local macro_rules | `(tactic| k_mem) => `(tactic| k_extra "k_mem")
local macro_rules | `(tactic| k_all) => `(tactic| k_extra "k_all")
local macro_rules | `(tactic| k_enter) => `(tactic| k_extra "k_enter")
local macro_rules | `(tactic| k_inst) => `(tactic| k_extra "k_inst")
local macro_rules | `(tactic| k_room) => `(tactic| k_extra "k_room")
local macro_rules | `(tactic| kmk_list) => `(tactic| k_extra "kmk_list")
local macro_rules | `(tactic| ktr_room) => `(tactic| k_extra "ktr_room")
local macro_rules | `(tactic| ktr_units) => `(tactic| k_extra "ktr_units")
local macro_rules | `(tactic| k_lt $h:ident) => `(tactic| replace $h := neAll_of $h)
theorem reg0 : True := by
  k_with_none
  k_with "#om1" => open Zz in (first | (with_reducible first | assumption | exact Nat.le_of_ble_eq_true rfl | exact lt_room0 (by assumption) | (refine' lt_room ?aₓ ?bₓ; (case aₓ => assumption); (case bₓ => exact rfl)) | (refine' lt_room2 ?aₓ ?bₓ; (case aₓ => assumption); (case bₓ => exact rfl)) | (refine' le_num ?aₓ ?bₓ; (case aₓ => assumption); (case bₓ => exact rfl))) | lia)
  k_with "#* k_mem" => first | exact List.Mem.head _ | exact mem1 | exact mem2 | exact mem3 | (refine' mem4 ?_; k_extra "k_mem")
  k_with "#* zne" => (repeat' (first | exact ne_nat | exact ne_int | exact world_ne | exact ne_list | exact ne_val | exact ne_f2 | exact ne_f1 | exact ne_obj | exact ne_heap | exact ne_bool | exact ne_m | exact ne_fq | exact ne_ex | exact ne_arr | exact ne_prog | exact ne_dr | exact ne_os | exact st_ne | exact grp_ne | exact ⟨{}⟩ | exact ⟨Row.bd⟩ | exact ⟨default⟩ | exact ⟨fun _ => default⟩ | exact inferInstance | apply ne_prod))
  k_with "#* zR" => open Zz in (refine' Subtype.mk (BodyAt _ _ _ _ _ _ _ _ _ _ _ _) (body_at ?aₓ ?bₓ ?cₓ ?dₓ ?eₓ ?fₓ ?gₓ ?hₓ); (case aₓ => k_is); (case bₓ => k_is); (case cₓ => intro sₓ Xₓ; first | exact BindsTo.of_eq rfl | exact binds_K Xₓ rfl (by k_is) rfl rfl rfl); (case hₓ => decide); (case dₓ => exact locs rfl); (case eₓ => exact rfl); (case fₓ => exact rfl); (case gₓ => exact rfl))
  k_with "#* zRO" => (apply Subtype.mk; intro H; (first | (refine spec_at fun d => ?_; intro B F X N T hk hd hu hp ret; refine wpAny_call ?_) | (refine specC_at fun d => ?_; intro B F X N T hk hd hu hp ret)); k_extra "C.enter"; refine ed_intro fun e => ?_; (try dsimp only); revert B F X N T hk hd hu hp ret; exact H d e)
  k_with "#* zRC" => (apply Subtype.mk; intro H; refine spec_at fun d => ?_; intro B F X N T hk hd hu hp ret; refine wpAny_call ?_; k_extra "C.enterC"; refine ed_intro fun e => ?_; (try dsimp only); revert B F X N T hk hd hu hp ret; exact H d e)
  k_with "#* eval Name" => open Zz in (k_here; k_dflt (refine' nameL ?Fₓ ?cₓ ?vₓ ?_; (case cₓ => decide +kernel); (case Fₓ => k_asm); (case vₓ => rfl); k_whole))
  k_with "#* eval Attribute Name" => open Zz in (k_here; k_dflt (refine' attr_own ?Xₓ ?hhₓ ?Fₓ ?cₓ ?vₓ ?Iₓ ?gₓ ?haₓ ?hnₓ ?lₓ ?hₓ ?_; (case Fₓ => k_asm); (case Xₓ => k_asm); (case cₓ => decide +kernel); (case vₓ => rfl); (case Iₓ => k_inst); (case gₓ => k_is); (case hhₓ => k_is); (case haₓ => k_is); (case hnₓ => k_is); (case lₓ => k_get); (case hₓ => k_handed); k_whole))
  k_with "#* spliced" => k_dflt (first | refine args_cons ?_ | refine args_nil ⟨Fr.keep (by assumption) _ _ (by assumption), ?_⟩ | (refine args_nil ?_; try dsimp only [List.cons_append, List.nil_append]))
  k_with "#* exec Expr" => k_dflt (refine wpAny_Expr_any ?_)
  k_with "#* exec If" => refine wpAny_If ?_
  k_with "#* isTrue Compare" => refine wpAny_isTrue_Compare1 ?_
  k_with "#* eval Subscript" => refine Subscript_ ?_
  k_with "#* eval BinOp" => refine wpAny_BinOp ?_
  k_with "#* execs nil" => (k_here; (with_reducible refine wpAny_execs_nil ?_); (try dsimp only))
  k_with "#* dec" => first | (with_reducible assumption) | k_extra "om" | (simp only [beq_iff_eq, decide_eq_true_eq, decide_eq_false_iff_not, bne_iff_ne, ne_eq, Bool.not_eq_true', Bool.not_eq_true, Bool.and_eq_true]; k_extra "om")
  k_with "#* subscriptTail Name Constant ref int" => k_extra "subscriptTail"
  k_with "#* subscriptTail Name BinOp ref int" => k_extra "subscriptTail"
  k_with "#* subscriptTail Name Name ref int" => k_extra "subscriptTail"
  k_with "#* subscriptTail Attribute Name Name ref int" => k_extra "subscriptTail"
  k_with "#* subscriptTail Subscript Name BinOp Constant ref int" => k_extra "subscriptTail"
  k_with "#* subscriptTail Subscript Name Constant Constant ref int" => k_extra "subscriptTail"
  k_with "#* subscriptTail Subscript Name Constant BinOp ref int" => k_extra "subscriptTail"
  k_with "#* subscriptTail Attribute Name UnaryOp ref int" => k_extra "subscriptTail Name UnaryOp ref int"
  k_with "#* subscriptTail Attribute Name Slice ref ref" => k_extra "subscriptTail Name Slice ref ref"
  k_with "#* ite" => (k_closed; k_here; first | (with_reducible refine PyProof.Rows.ite_tt ?_) | (with_reducible refine PyProof.Rows.ite_ff ?_) | refine PySem.W.ite_pos (by with_reducible assumption) ?_ | refine PySem.W.ite_neg (by with_reducible assumption) ?_ | refine ite_isFalse (by with_reducible assumption) ?_ | (k_dflt (first | refine PySem.W.ite_pos (by decide) ?_ | refine PySem.W.ite_neg (by decide) ?_)) | refine PySem.W.ite_neg (by k_extra "dec") ?_ | refine PySem.W.ite_pos (by k_extra "dec") ?_)
  k_with "#* call ref" => (k_here; k_dflt (refine wpAny_call ?_; k_enter))
  k_with "#* k_inst" => k_extra "#130"
  k_with "#* kmk_list" => k_extra "#131"
  k_with "#* k_room" => k_extra "#132"
  k_with "#* C.find" => k_extra "#133"
  k_with "#* ktr_room" => k_extra "#134"
  k_with "#* ktr_units" => k_extra "#135"
  k_with "#* C.at" => k_extra "#136"
  k_with "#* C.enterC" => k_extra "#137"
  k_with "#* C.ats" => k_extra "#138"
  k_with "#* C.mems" => k_extra "#139"
  k_with "#* C.ar" => k_extra "#140"
  k_with "#* p" => k_extra "#141"
  k_with "#* ps" => k_extra "#142"
  k_with "#* post" => k_extra "#143"
  k_with "#* C.item" => k_extra "#144"
  k_with "#* C.alln" => k_extra "#145"
  k_with "#* C.pairs" => k_extra "#146"
  k_with "#* C.rep3" => k_extra "#147"
  k_with "#* C.memR" => k_extra "#148"
  k_with "#1" => open Zz in ((k_dflt (refine' enterC ?k1ₓ ?k2ₓ ?k3ₓ ?k4ₓ ?k5ₓ ?kAₓ ?kFₓ ?kKₓ ?k6ₓ ?k7ₓ ?k8ₓ ?k9ₓ ?kBₓ ?_ ?c2ₓ ?c3ₓ ?c4ₓ ?c5ₓ; (case kAₓ => exact rfl); (case kFₓ => exact rfl); (case kKₓ => assumption); (case k1ₓ => k_asm); (case k2ₓ => k_asm); (case k3ₓ => k_asm); (case k4ₓ => k_asm); (case k5ₓ => k_asm); (case k6ₓ => k_is); (case k7ₓ => k_is); (case k8ₓ => ktr_room); (case k9ₓ => first | exact BindsTo.of_eq rfl | exact binds_K (by k_in) rfl (by k_is) rfl rfl rfl); (case c5ₓ => decide); (case kBₓ => exact locs rfl); (case c2ₓ => exact rfl); (case c3ₓ => exact rfl); (case c4ₓ => exact rfl); k_whole)))
  k_with "#2" => open Zz in ((refine' code_def ?k1ₓ ?k2ₓ ?k3ₓ ?k4ₓ ?k5ₓ ?kAₓ ?kFₓ ?kKₓ ?k6ₓ ?k7ₓ ?k8ₓ ?k9ₓ ?kBₓ ?_ ?c2ₓ ?c3ₓ ?c4ₓ ?c5ₓ; (case kAₓ => exact rfl); (case kFₓ => exact rfl); (case kKₓ => exact rfl); (case k1ₓ => k_asm); (case k2ₓ => k_asm); (case k3ₓ => k_asm); (case k4ₓ => k_asm); (case k5ₓ => k_asm); (case k6ₓ => k_is); (case k7ₓ => k_is); (case k8ₓ => ktr_room); (case k9ₓ => first | exact BindsTo.of_eq rfl | exact binds_K (by k_in) rfl (by k_is) rfl rfl rfl); (case c5ₓ => decide); (case kBₓ => exact locs rfl); (case c2ₓ => exact rfl); (case c3ₓ => exact rfl); (case c4ₓ => exact rfl); k_whole; intro g'ₓ L'ₓ h'ₓ FG'ₓ F'ₓ N'ₓ B'ₓ X'ₓ T'ₓ; (have hA'ₓ := At.keep (by k_asm) (Fr.keep FG'ₓ)); (try dsimp only); (try k_fold)))
  k_with "#3" => ((try dsimp only); first | assumption | exact Ne.symm (by assumption) | exact NeAll.at (by assumption) (by k_mem) | exact (NeAll.at (by assumption) (by k_mem)).symm)
  k_with "#4" => first | assumption | omega
  k_with "#5" => open Zz in ((k_here; (with_reducible show wpAny _ _ (subscriptTail _ (PySem.Expr.Slice _ _ none _) (Value.ref _) (Value.ref _)) _ _ _); k_dflt (refine' slice_get ?Fₓ ?Nₓ ?lₓ ?pₓ ?qₓ ?aₓ ?bₓ ?cₓ ?zₓ ?_ ?sₓ ?tₓ; (case Fₓ => k_asm); (case Nₓ => k_asm); (case lₓ => kmk_list); (case pₓ => kmk_part); (case qₓ => kmk_part); (case aₓ => k_extra "C.room"); (case bₓ => k_extra "C.room"); (case cₓ => k_extra "C.room"); (case sₓ => with_unfolding_all rfl); (case tₓ => kmk_pure); (case zₓ => k_extra "C.room"); k_whole); intro D'ₓ zs'ₓ h'ₓ hz'ₓ hzl'ₓ F'ₓ N'ₓ l1ₓ; (try k_sweep)))
  k_with "#6" => open Zz in ((k_here; (with_reducible show wpAny _ _ (binaryOp _ (Value.ref _) (Value.ref _)) _ _ _); k_dflt (refine' add_vs ?Fₓ ?Nₓ ?aₓ ?bₓ ?zₓ ?_; (case Fₓ => k_asm); (case Nₓ => k_asm); (case aₓ => kmk_list); (case bₓ => kmk_list); (case zₓ => k_extra "C.room")); intro D'ₓ zs'ₓ h'ₓ hz'ₓ hzl'ₓ F'ₓ N'ₓ l1ₓ; (try k_sweep)))
  k_with "#7" => open Zz in ((k_here; (with_reducible show wpAny _ _ (call (Value.builtin "len") [Value.ref _]) _ _ _); k_dflt (refine' len_vs ?lₓ ?zₓ ?_; (case lₓ => kmk_list); (case zₓ => k_extra "C.room"); k_whole); intro t'ₓ; (try dsimp only)))
  k_with "#8" => open Zz in ((k_here; (with_reducible show wpAny _ _ (setItem (Value.ref _) (Value.ref _) (Value.ref _)) _ _ _); k_dflt (refine' slice_store ?Fₓ ?Nₓ ?mₓ ?vₓ ?pₓ ?qₓ ?aₓ ?bₓ ?cₓ ?zₓ ?Uₓ ?_; (case Fₓ => k_asm); (case Nₓ => k_asm); (case mₓ => k_mem); (case vₓ => kmk_list); (case pₓ => kmk_part); (case qₓ => kmk_part); (case aₓ => k_extra "C.room"); (case bₓ => k_extra "C.room"); (case cₓ => k_extra "C.room"); (case zₓ => k_extra "C.room"); (case Uₓ => (intro zs'ₓ n'ₓ; k_upd)); k_whole); intro zs'ₓ n'ₓ h'ₓ hz'ₓ hzl'ₓ F'ₓ N'ₓ; (try dsimp only at N'ₓ); (try k_sweep)))
  k_with "#9" => open Zz in ((k_here; (with_reducible show wpAny _ _ (binaryOp _ (Value.ref _) (Value.int _ _)) _ _ _); k_dflt (refine' mul_one ?Fₓ ?Nₓ ?aₓ ?bₓ ?zₓ ?_; (case Fₓ => k_asm); (case Nₓ => k_asm); (case aₓ => kmk_list); (case bₓ => k_extra "C.room"); (case zₓ => k_extra "C.room")); intro D'ₓ zs'ₓ h'ₓ hzl'ₓ F'ₓ N'ₓ l1ₓ; (try k_sweep)))
  k_with "#10" => (simp only [gapL, List.map_cons, List.map_nil, List.mem_cons, List.not_mem_nil, or_false, not_or]; (repeat' (first | refine ⟨?_, ?_⟩ | k_ne)))
  k_with "#11" => open Zz in ((k_here; (with_reducible show wpAny _ _ (call (Value.ref 355) _) _ _ _);  k_dflt (refine' spec_use (move_spec _ _ _ _ _ _ _ _ _ _ _ _ _ _ ?e1ₓ ?e2ₓ ?e3ₓ ?e4ₓ ?e5ₓ ?e6ₓ ?e7ₓ) ?Bₓ ?Fₓ ?Xₓ ?Nₓ ?Tₓ ?K ?Pₓ ?Sₓ ?Dₓ ?Uₓ ?_; (case Bₓ => k_asm); (case Fₓ => k_asm); (case Xₓ => k_asm); (case Nₓ => k_asm); (case Tₓ => k_asm); (case K => first | exact rfl | assumption); (case Pₓ => exact Fr.keep (by k_asm) _ _ (At.get (by k_asm) (by k_mem))); (case Sₓ => exact ⟨by k_mem, by k_mem, trivial⟩); (case Dₓ => ktr_room); (case Uₓ => ktr_units); (case e1ₓ => assumption); (case e2ₓ => k_extra "C.room"); (case e3ₓ => k_extra "C.room"); (case e4ₓ => k_extra "C.room"); (case e5ₓ => k_extra "C.room"); (case e6ₓ => k_extra "C.room"); (case e7ₓ => k_extra "C.room"); k_whole); intro v'ₓ h'ₓ tk'ₓ F'ₓ nb'ₓ fr'ₓ po'ₓ; obtain ⟨cells'ₓ, nc'ₓ, ge'ₓ, u'ₓ, v''ₓ, A'ₓ, he1'ₓ, he2'ₓ, he3'ₓ⟩ := po'ₓ; (have N'ₓ := nb'ₓ _ [] A'ₓ rfl (fun _ hqₓ => absurd hqₓ List.not_mem_nil)); clear nb'ₓ fr'ₓ A'ₓ; (try dsimp only [gapL, List.append_nil] at N'ₓ); (try k_sweep); (try dsimp only)))
  k_with "#12" => ((try dsimp only); first | assumption | exact Ne.symm (by assumption) | exact NeAll.at (by assumption) (by k_dflt k_mem) | exact (NeAll.at (by assumption) (by k_dflt k_mem)).symm)
  k_with "#13" => (simp only [gapL, List.map_cons, List.map_nil, List.mem_cons, List.not_mem_nil, or_false, not_or]; (repeat' (first | refine And.intro ?_ ?_ | k_ne)); done)
  k_with "#14" => open Zz in ((k_here; (with_reducible show wpAny _ _ (call (Value.ref 348) _) _ _ _); k_dflt (refine' spec_use (codes_spec _ _ _ _ _ _ _ _ _ _ _ _ _ _ _ _ ?e1ₓ ?e2ₓ ?e3ₓ ?e4ₓ ?e5ₓ ?e6ₓ ?e7ₓ) ?Bₓ ?Fₓ ?Xₓ ?Nₓ ?Tₓ ?K ?Pₓ ?Sₓ ?Dₓ ?Uₓ ?_; (case Bₓ => k_asm); (case Fₓ => k_asm); (case Xₓ => k_asm); (case Nₓ => k_asm); (case Tₓ => k_asm); (case K => first | exact rfl | assumption); (case Pₓ => exact ⟨Fr.keep (by k_asm) _ _ (At.get (by k_asm) (by k_mem)), News.get (by k_asm) (by k_mem), News.get (by k_asm) (by k_mem), trivial⟩); (case Sₓ => exact trivial); (case Dₓ => ktr_room); (case Uₓ => ktr_units); (case e1ₓ => k_extra "C.room"); (case e2ₓ => k_extra "C.room"); (case e3ₓ => k_extra "C.room"); (case e4ₓ => k_extra "C.room"); (case e5ₓ => k_extra "C.room"); (case e6ₓ => k_extra "C.room"); (case e7ₓ => k_extra "C.room"); k_whole); intro v'ₓ h'ₓ tk'ₓ F'ₓ nb'ₓ fr'ₓ po'ₓ; obtain ⟨x'ₓ, hv'ₓ, hx'ₓ, hx2'ₓ⟩ := po'ₓ; subst hv'ₓ; (have N'ₓ := nb'ₓ [] _ At.nil rfl (fun _ hqₓ => ⟨hqₓ, List.not_mem_nil⟩)); (simp only [List.append_nil] at N'ₓ); (have fx'ₓ := fr'ₓ _ _ hx'ₓ hx2'ₓ); (have N'ₓ := News.cons' fx'ₓ.1 fx'ₓ.2.1 N'ₓ); (have l1ₓ := fx'ₓ.2.2); clear nb'ₓ fr'ₓ fx'ₓ hx2'ₓ; (try dsimp only [gapL, List.append_nil, List.nil_append] at N'ₓ); (try k_sweep); (try dsimp only)))
  k_with "#15" => open Zz in ((k_here; (with_reducible show wpAny _ _ (call (Value.ref 355) _) _ _ _); k_dflt (refine' spec_use (move_spec _ _ _ _ _ _ _ _ _ _ _ _ _ _ ?e1ₓ ?e2ₓ ?e3ₓ ?e4ₓ ?e5ₓ ?e6ₓ ?e7ₓ) ?Bₓ ?Fₓ ?Xₓ ?Nₓ ?Tₓ ?K ?Pₓ ?Sₓ ?Dₓ ?Uₓ ?_; (case Bₓ => k_asm); (case Fₓ => k_asm); (case Xₓ => k_asm); (case Nₓ => k_asm); (case Tₓ => k_asm); (case K => first | exact rfl | assumption); (case Pₓ => exact Fr.keep (by k_asm) _ _ (At.get (by k_asm) (by k_mem))); (case Sₓ => exact ⟨by k_mem, by k_mem, trivial⟩); (case Dₓ => ktr_room); (case Uₓ => ktr_units); (case e1ₓ => assumption); (case e2ₓ => k_extra "C.room"); (case e3ₓ => k_extra "C.room"); (case e4ₓ => k_extra "C.room"); (case e5ₓ => k_extra "C.room"); (case e6ₓ => k_extra "C.room"); (case e7ₓ => k_extra "C.room"); k_whole); intro v'ₓ h'ₓ tk'ₓ F'ₓ nb'ₓ fr'ₓ po'ₓ; obtain ⟨cells'ₓ, nc'ₓ, ge'ₓ, u'ₓ, v''ₓ, A'ₓ, he1'ₓ, he2'ₓ, he3'ₓ⟩ := po'ₓ; k_dflt (first | (have N'ₓ := nb'ₓ _ [(_, _)] A'ₓ rfl (List.forall_mem_cons.mpr ⟨⟨List.Mem.head _, by k_extra "C.notin"⟩, List.forall_mem_nil _⟩)) | (have N'ₓ := nb'ₓ _ [] A'ₓ rfl (fun _ hqₓ => absurd hqₓ List.not_mem_nil))); clear nb'ₓ fr'ₓ A'ₓ; (try dsimp only [gapL, List.append_nil, List.cons_append, List.nil_append] at N'ₓ); (try k_sweep); (try dsimp only)))
  k_with "#16" => (simp only [List.map_cons, List.map_nil, List.mem_cons, List.not_mem_nil, or_false, not_or]; (repeat' (first | refine And.intro ?_ ?_ | k_ne)); done)
  k_with "#17" => open Zz in ((k_here; (with_reducible show wpAny _ _ (call (Value.builtin "sorted") [Value.ref _]) _ _ _); k_dflt (first | (refine' sorted1 ?hhₓ ?Fₓ ?Nₓ ?mₓ ?dₓ ?lₓ ?_; (case hhₓ => exact rfl); (case Fₓ => k_asm); (case Nₓ => k_asm); (case mₓ => k_mem); (case dₓ => assumption); (case lₓ => assumption); intro D'ₓ h'ₓ tk'ₓ t'ₓ n'ₓ F'ₓ N'ₓ l1ₓ; k_lt l1ₓ) | (refine' sorted0 ?hhₓ ?Fₓ ?Nₓ ?mₓ ?dₓ ?lₓ ?_; (case hhₓ => exact rfl); (case Fₓ => k_asm); (case Nₓ => k_asm); (case mₓ => k_mem); (case dₓ => assumption); (case lₓ => assumption); intro D'ₓ h'ₓ tk'ₓ n'ₓ F'ₓ N'ₓ l1ₓ; k_lt l1ₓ)); (try k_sweep)))
  k_with "#18" => open Zz in ((k_here; k_dflt (refine' kdt_getItem (knd := intKind _ _) (k := 1) (v := Value.ref _) ?Nₓ ?mₓ ?dₓ ?kₓ ?lₓ ?_; (case Nₓ => k_asm); (case mₓ => k_mem); (case dₓ => assumption); (case kₓ => exact rfl); (case lₓ => exact rfl); k_whole)))
  k_with "#19" => first | assumption | omega | (simp only [List.length_append, List.length_cons, List.length_nil, List.append_assoc, List.cons_append, List.nil_append] at *; omega)
  k_with "#20" => open Zz in ((k_here; (with_reducible show wpAny _ _ (getItem (Value.ref _) (Value.int (-1) _)) _ _ _); k_dflt (refine' item_last ?lₓ ?gₓ ?_; (case lₓ => kmk_list); (case gₓ => first | exact List.getLast?_concat .. | exact rfl); k_whole)))
  k_with "#21" => open Zz in ((k_here; (with_reducible show wpAny _ _ (subscriptTail _ _ (Value.ref _) (Value.int (-1) _)) _ _ _); k_dflt (refine' item_lastT ?lₓ ?gₓ ?_ ?sₓ; (case lₓ => kmk_list); (case gₓ => first | exact List.getLast?_concat .. | exact List.getLast?_singleton | exact rfl); (case sₓ => with_unfolding_all rfl); k_whole)))
  k_with "#22" => first | (k_dflt exact Repl.nil) | ((k_dflt apply Repl.swap); k_extra "C.find"; k_extra "C.repl") | ((k_dflt apply Repl.keep); (k_dflt k_extra "C.notin"); k_extra "C.repl")
  k_with "#23" => open Zz in ((k_here; (with_reducible show wpAny _ _ (call (Value.ref 224) _) _ _ _); k_dflt (refine' spec_use2 (note_state_spec _ _ _ _ _ _ _ _ _ _ _ _ ?e1ₓ ?e2ₓ ?e3ₓ) ?Bₓ ?Fₓ ?Xₓ ?Nₓ ?Tₓ ?K ?Pₓ ?Sₓ ?Dₓ ?Uₓ ?_; (case Bₓ => k_asm); (case Fₓ => k_asm); (case Xₓ => k_asm); (case Nₓ => k_asm); (case Tₓ => k_asm); (case K => first | exact rfl | assumption); (case Pₓ => exact Fr.keep (by k_asm) _ _ (At.get (by k_asm) (by k_mem))); (case Sₓ => exact ⟨by k_mem, by k_mem, trivial⟩); (case Dₓ => ktr_room); (case Uₓ => ktr_units); (case e1ₓ => assumption); (case e2ₓ => assumption); (case e3ₓ => assumption); k_whole); intro v'ₓ h'ₓ tk'ₓ F'ₓ nb'ₓ fr'ₓ kp'ₓ po'ₓ; obtain ⟨hv'ₓ, ext'ₓ, nv'ₓ, n'ₓ, A'ₓ, po'ₓ⟩ := po'ₓ; subst hv'ₓ; unfold Noted at po'ₓ; rcases po'ₓ with ⟨he'ₓ, hn'ₓ, hx'ₓ⟩ | ⟨hb'ₓ, hn'ₓ, ⟨c'ₓ, hc'ₓ⟩, x'ₓ, a'ₓ, b'ₓ, he'ₓ, hf'ₓ, hg'ₓ⟩ <;> first | (subst he'ₓ hn'ₓ; (rw [List.append_nil] at A'ₓ); (have N'ₓ := nb'ₓ _ _ A'ₓ (by k_extra "C.repl")); clear nb'ₓ fr'ₓ kp'ₓ A'ₓ; (try dsimp only [ulL, List.append_nil, List.cons_append, List.nil_append] at N'ₓ); (try k_sweep); (try dsimp only)) | (subst he'ₓ hc'ₓ; (have N'ₓ := nb'ₓ _ _ A'ₓ (by k_extra "C.repl")); (have fx'ₓ := fr'ₓ _ _ hf'ₓ hg'ₓ); (have N'ₓ := News.cons' fx'ₓ.1 fx'ₓ.2.1 N'ₓ); (have l1ₓ := fx'ₓ.2.2); clear nb'ₓ fr'ₓ kp'ₓ A'ₓ fx'ₓ hg'ₓ; (try dsimp only [ulL, List.append_nil, List.cons_append, List.nil_append] at N'ₓ); (try k_sweep); (try dsimp only))))
  k_with "#24" => (simp only [ulL, mkL, gapL, List.cons_append, List.nil_append, List.map_cons, List.map_nil, List.mem_cons, List.not_mem_nil, or_false, not_or]; (repeat' (first | refine And.intro ?_ ?_ | k_ne)); done)
  k_with "#25" => first | (k_dflt exact Repl.nil) | ((k_dflt apply Repl.swap); k_extra "C.find"; k_extra "C.repl") | ((k_dflt apply Repl.keep); (k_dflt (focus (k_extra "C.notin"))); k_extra "C.repl")
  k_with "#26" => open Zz in ((k_here; k_dflt (refine' eq_K_head ?Fₓ ?Xₓ ?lₓ ?xₓ ?nₓ ?uₓ ?_; (case Fₓ => k_asm); (case Xₓ => k_asm); (case lₓ => k_is); (case xₓ => exact Fr.keep (by k_asm) _ _ (by assumption)); (case nₓ => assumption); (case uₓ => ktr_units); k_whole)))
  k_with "#27" => open Zz in ((k_here; k_dflt (refine' eq_K_same ?Fₓ ?Xₓ ?lₓ ?uₓ ?_; (case Fₓ => k_asm); (case Xₓ => k_asm); (case lₓ => k_is); (case uₓ => ktr_units); k_whole)))
  k_with "#28" => open Zz in ((k_here; (with_reducible show wpAny _ _ (call (Value.ref 203) _) _ _ _); k_dflt (refine' spec_use2 (at_bd_spec _ _ _ _ _ _ _ _ _ _ ?e1ₓ) ?Bₓ ?Fₓ ?Xₓ ?Nₓ ?Tₓ ?K ?Pₓ ?Sₓ ?Dₓ ?Uₓ ?_; (case Bₓ => k_asm); (case Fₓ => k_asm); (case Xₓ => k_asm); (case Nₓ => k_asm); (case Tₓ => k_asm); (case K => first | exact rfl | assumption); (case Pₓ => exact ⟨⟨Fr.keep (by k_asm) _ _ (At.get (by k_asm) (by k_mem)), News.get (by k_asm) (by k_mem), News.get (by k_asm) (by k_mem), trivial⟩, LastQ.keep (by k_asm) (Fr.keep (by k_asm))⟩); (case Sₓ => exact trivial); (case Dₓ => ktr_room); (case Uₓ => ktr_units); (case e1ₓ => assumption); k_whole); intro v'ₓ h'ₓ tk'ₓ F'ₓ nb'ₓ fr'ₓ kp'ₓ po'ₓ; subst po'ₓ; (have N'ₓ := nb'ₓ [] _ At.nil Repl.all); clear nb'ₓ fr'ₓ kp'ₓ; (try k_sweep); (try dsimp only)))
  k_with "#29" => open Zz in ((k_dflt (refine' enterE ?k1ₓ ?k2ₓ ?k3ₓ ?k4ₓ ?k5ₓ ?kAₓ ?kFₓ ?kKₓ ?k6ₓ ?k7ₓ ?k8ₓ ?k9ₓ ?kBₓ ?_ ?c2ₓ ?c3ₓ ?c4ₓ ?c5ₓ; (case kAₓ => exact rfl); (case kFₓ => exact rfl); (case kKₓ => assumption); (case k1ₓ => k_asm); (case k2ₓ => k_asm); (case k3ₓ => k_asm); (case k4ₓ => k_asm); (case k5ₓ => k_asm); (case k6ₓ => k_is); (case k7ₓ => k_is); (case k8ₓ => ktr_room); (case k9ₓ => first | exact BindsTo.of_eq rfl | exact binds_K (by k_in) rfl (by k_is) rfl rfl rfl); (case c5ₓ => decide); (case kBₓ => exact locs rfl); (case c2ₓ => exact rfl); (case c3ₓ => exact rfl); (case c4ₓ => exact rfl); k_whole)))
  k_with "#30" => open Zz in ((refine' code_defE ?k1ₓ ?k2ₓ ?k3ₓ ?k4ₓ ?k5ₓ ?kAₓ ?kFₓ ?kKₓ ?k6ₓ ?k7ₓ ?k8ₓ ?k9ₓ ?kBₓ ?_ ?c2ₓ ?c3ₓ ?c4ₓ ?c5ₓ; (case kAₓ => exact rfl); (case kFₓ => exact rfl); (case kKₓ => exact rfl); (case k1ₓ => k_asm); (case k2ₓ => k_asm); (case k3ₓ => k_asm); (case k4ₓ => k_asm); (case k5ₓ => k_asm); (case k6ₓ => k_is); (case k7ₓ => k_is); (case k8ₓ => ktr_room); (case k9ₓ => first | exact BindsTo.of_eq rfl | exact binds_K (by k_in) rfl (by k_is) rfl rfl rfl); (case c5ₓ => decide); (case kBₓ => exact locs rfl); (case c2ₓ => exact rfl); (case c3ₓ => exact rfl); (case c4ₓ => exact rfl); k_whole; intro g'ₓ L'ₓ h'ₓ tk'ₓ AAₓ dAₓ uAₓ FG'ₓ F'ₓ N'ₓ B'ₓ X'ₓ T'ₓ; (have hA'ₓ := At.keep (by k_asm) (Fr.keep FG'ₓ)); (try dsimp only); (try k_fold)))
  k_with "#31" => open Zz in (((try dsimp only); first | assumption | exact Inj.ne (by assumption) (by decide) (by decide) | exact Inj.ne' (by assumption) (by decide) (by decide) | exact Ne.symm (by assumption) | exact NeAll.at (by assumption) (by k_dflt k_mem) | exact (NeAll.at (by assumption) (by k_dflt k_mem)).symm | (k_dflt (exact (by assumption : ∀ iₓ, iₓ < 16 → _ ≠ _) _ (by decide))) | (k_dflt (exact ((by assumption : ∀ iₓ, iₓ < 16 → _ ≠ _) _ (by decide)).symm))))
  k_with "#32" => first | (k_dflt exact List.not_mem_nil) | (k_dflt exact nm_cons (by k_ne) (by k_extra "C.notin"))
  k_with "#33" => (k_here; (with_reducible refine wpAny_execs_cons ?_); (try dsimp only); (first | (with_reducible show wpAny _ _ (exec (PySem.Stmt.For _ _ _ _ _) _) _ _ _) | k_fold))
  k_with "#34" => first | (k_dflt exact Repl.nil) | ((k_dflt apply Repl.swap); k_extra "C.find"; k_extra "C.repl") | ((k_dflt apply Repl.keep); (focus (k_extra "C.notin")); k_extra "C.repl")
  k_with "#35" => open Zz in ((k_here; (with_reducible show wpAny _ _ (call (Value.type "list") [Value.ref _]) _ _ _); k_dflt (refine' list_vs ?Fₓ ?Nₓ ?lₓ ?zₓ ?_; (case Fₓ => k_asm); (case Nₓ => k_asm); (case lₓ => kmk_list); (case zₓ => first | (simp; done) | k_extra "C.room")); intro D'ₓ c'ₓ h'ₓ F'ₓ N'ₓ l1ₓ; (try k_lt l1ₓ); (try k_sweep)))
  k_with "#36" => open Zz in ((k_here; (with_reducible show wpAny _ _ (setAttr _ (Str.ofString "point") _) _ _ _); k_dflt (refine' set_pt ?k1ₓ ?k2ₓ ?k3ₓ ?k4ₓ ?k5ₓ ?_; (case k1ₓ => k_asm); (case k2ₓ => k_asm); (case k3ₓ => k_asm); (case k4ₓ => k_inst); (case k5ₓ => (intro t'ₓ; k_upd)); k_whole); intro t'ₓ h'ₓ tk'ₓ F'ₓ N'ₓ; (try dsimp only at N'ₓ); (try k_sweep); (try dsimp only)))
  k_with "#37" => open Zz in ((k_here; (with_reducible show wpAny _ _ (setAttr _ (Str.ofString "zv") _) _ _ _); k_dflt (refine' set_zv ?k1ₓ ?k2ₓ ?k3ₓ ?k4ₓ ?k5ₓ ?_; (case k1ₓ => k_asm); (case k2ₓ => k_asm); (case k3ₓ => k_asm); (case k4ₓ => k_inst); (case k5ₓ => (intro t'ₓ; k_upd)); k_whole); intro t'ₓ h'ₓ tk'ₓ F'ₓ N'ₓ; (try dsimp only at N'ₓ); (try k_sweep); (try dsimp only)))
  k_with "#38" => open Zz in ((k_here; (with_reducible show wpAny _ _ (setAttr _ (Str.ofString "ticks") _) _ _ _); k_dflt (refine' set_ti ?k1ₓ ?k2ₓ ?k3ₓ ?k4ₓ ?k5ₓ ?_; (case k1ₓ => k_asm); (case k2ₓ => k_asm); (case k3ₓ => k_asm); (case k4ₓ => k_inst); (case k5ₓ => (intro t'ₓ; k_upd)); k_whole); intro t'ₓ h'ₓ tk'ₓ F'ₓ N'ₓ; (try dsimp only at N'ₓ); (try k_sweep); (try dsimp only)))
  k_with "#39" => open Zz in ((k_here; (with_reducible show wpAny _ _ (setAttr _ (Str.ofString "codes_ticks") _) _ _ _); k_dflt (refine' set_ct ?k1ₓ ?k2ₓ ?k3ₓ ?k4ₓ ?k5ₓ ?_; (case k1ₓ => k_asm); (case k2ₓ => k_asm); (case k3ₓ => k_asm); (case k4ₓ => k_inst); (case k5ₓ => (intro t'ₓ; k_upd)); k_whole); intro t'ₓ h'ₓ tk'ₓ F'ₓ N'ₓ; (try dsimp only at N'ₓ); (try k_sweep); (try dsimp only)))
  k_with "#40" => open Zz in ((k_here; (with_reducible show wpAny _ _ (setAttr _ (Str.ofString "saved_ticks") _) _ _ _); k_dflt (refine' set_sv ?k1ₓ ?k2ₓ ?k3ₓ ?k4ₓ ?k5ₓ ?_; (case k1ₓ => k_asm); (case k2ₓ => k_asm); (case k3ₓ => k_asm); (case k4ₓ => k_inst); (case k5ₓ => (intro t'ₓ; k_upd)); k_whole); intro t'ₓ h'ₓ tk'ₓ F'ₓ N'ₓ; (try dsimp only at N'ₓ); (try k_sweep); (try dsimp only)))
  k_with "#41" => open Zz in ((k_here; (with_reducible show wpAny _ _ (call (Value.ref 528) _) _ _ _); k_dflt (refine' inserted_use ?Bₓ ?Fₓ ?Xₓ ?Nₓ ?Tₓ ?K ?Pₓ ?P2ₓ ?P3ₓ ?Sₓ ?Dₓ ?Uₓ ?e1ₓ ?e2ₓ ?e3ₓ ?e4ₓ ?e5ₓ ?e6ₓ ?e7ₓ ?e8ₓ ?e9ₓ ?e10ₓ ?_; (case Bₓ => k_asm); (case Fₓ => k_asm); (case Xₓ => k_asm); (case Nₓ => k_asm); (case Tₓ => k_asm); (case K => first | exact rfl | assumption); (case Pₓ => exact Fr.keep (by k_asm) _ _ (At.get (by k_asm) (by k_mem))); (case P2ₓ => exact Fr.keep (by k_asm) _ _ (At.get (by k_asm) (by k_mem))); (case P3ₓ => exact Fr.keep (by k_asm) _ _ (At.get (by k_asm) (by k_mem))); (case Sₓ => exact ⟨by k_mem, by k_mem, trivial⟩); (case Dₓ => ktr_room); (case Uₓ => ktr_units); (case e1ₓ => assumption); (case e2ₓ => assumption); (case e3ₓ => assumption); (case e4ₓ => k_ne); (case e5ₓ => k_ne); (case e6ₓ => k_ne); (case e7ₓ => k_ne); (case e8ₓ => k_ne); (case e9ₓ => k_ne); (case e10ₓ => k_ne); k_whole); intro pos'ₓ v'ₓ h'ₓ tk'ₓ F'ₓ nb'ₓ po1'ₓ; (have N'ₓ := nb'ₓ _ (by k_extra "C.repl")); clear nb'ₓ; (try k_sweep); (try dsimp only)))
  k_with "#42" => open Zz in ((k_here; (with_reducible show wpAny _ _ (call (Value.ref 369) _) _ _ _); k_dflt (refine' gapins_use ?Bₓ ?Fₓ ?Xₓ ?Nₓ ?Tₓ ?K ?Pₓ ?P2ₓ ?Sₓ ?Dₓ ?Uₓ ?e1ₓ ?e2ₓ ?e3ₓ ?e4ₓ ?e5ₓ ?e6ₓ ?e7ₓ ?e8ₓ ?e9ₓ ?e10ₓ ?e11ₓ ?_; (case Bₓ => k_asm); (case Fₓ => k_asm); (case Xₓ => k_asm); (case Nₓ => k_asm); (case Tₓ => k_asm); (case K => first | exact rfl | assumption); (case Pₓ => exact Fr.keep (by k_asm) _ _ (At.get (by k_asm) (by k_mem))); (case P2ₓ => exact Fr.keep (by k_asm) _ _ (At.get (by k_asm) (by k_mem))); (case Sₓ => exact ⟨by k_mem, by k_mem, trivial⟩); (case Dₓ => ktr_room); (case Uₓ => ktr_units); (case e1ₓ => k_ne); (case e2ₓ => k_ne); (case e3ₓ => omega); (case e4ₓ => omega); (case e5ₓ => assumption); (case e6ₓ => assumption); (case e7ₓ => assumption); (case e8ₓ => assumption); (case e9ₓ => assumption); (case e10ₓ => decide); (case e11ₓ => decide); k_whole); intro cells'ₓ nc'ₓ gs'ₓ ge'ₓ u'ₓ v'ₓ h'ₓ tk'ₓ F'ₓ nb'ₓ po1'ₓ po2'ₓ po3'ₓ po4'ₓ po5'ₓ; (have N'ₓ := nb'ₓ _ (by k_extra "C.repl")); clear nb'ₓ; (try k_sweep); (try dsimp only)))
  k_with "#43" => open Zz in ((k_here; (with_reducible show wpAny _ _ (call (Value.ref 231) _) _ _ _); k_dflt (refine' note_insert_use ?Bₓ ?Fₓ ?Xₓ ?Nₓ ?Tₓ ?K ?Pₓ ?Sₓ ?Dₓ ?Uₓ ?e1ₓ ?e2ₓ ?e3ₓ ?e4ₓ ?e5ₓ ?_; (case Bₓ => k_asm); (case Fₓ => k_asm); (case Xₓ => k_asm); (case Nₓ => k_asm); (case Tₓ => k_asm); (case K => first | exact rfl | assumption); (case Pₓ => exact Fr.keep (by k_asm) _ _ (At.get (by k_asm) (by k_mem))); (case Sₓ => exact ⟨by k_mem, by k_mem, trivial⟩); (case Dₓ => ktr_room); (case Uₓ => ktr_units); (case e1ₓ => assumption); (case e2ₓ => k_ne); (case e3ₓ => assumption); (case e4ₓ => first | assumption | omega); (case e5ₓ => assumption); k_whole); intro ext'ₓ nv'ₓ n'ₓ y'ₓ a'ₓ c'ₓ d'ₓ x'ₓ o'ₓ h'ₓ tk'ₓ F'ₓ nb'ₓ po'ₓ l1ₓ l2ₓ; (have N'ₓ := nb'ₓ _ (by k_extra "C.repl")); clear nb'ₓ; (try k_sweep); (try dsimp only)))
  k_with "#44" => open Zz in ((k_here; (with_reducible show wpAny _ _ (call (Value.ref 702) _) _ _ _); k_dflt (refine' tc_use ?Bₓ ?Fₓ ?Xₓ ?Nₓ ?Tₓ ?K ?Pₓ ?Sₓ ?Dₓ ?Uₓ ?e0ₓ ?e1ₓ ?e3ₓ ?e4ₓ ?e5ₓ ?_; (case Bₓ => k_asm); (case Fₓ => k_asm); (case Xₓ => k_asm); (case Nₓ => k_asm); (case Tₓ => k_asm); (case K => first | exact rfl | assumption); (case Dₓ => ktr_room); (case Uₓ => ktr_units); (case Pₓ => exact ⟨by k_extra "C.at", by k_extra "C.at", by k_extra "C.at", by k_extra "C.at", by k_extra "C.at", trivial⟩); (case Sₓ => exact ⟨by k_mem, by k_mem, trivial⟩); (case e0ₓ => assumption); (case e1ₓ => assumption); (case e3ₓ => assumption); (case e4ₓ => first | assumption | omega); (case e5ₓ => assumption); k_whole); intro ext'ₓ nv'ₓ n'ₓ y'ₓ a'ₓ c'ₓ d'ₓ x'ₓ o'ₓ h'ₓ tk'ₓ F'ₓ nb'ₓ po'ₓ l1ₓ l2ₓ; (have N'ₓ := nb'ₓ _ (by k_extra "C.repl")); clear nb'ₓ; (try k_sweep); (try dsimp only)))
  k_with "#45" => open Zz in ((k_here; (with_reducible show wpAny _ _ (call (Value.ref 69) _) _ _ _); k_dflt (refine' tb_use ?Bₓ ?Fₓ ?Xₓ ?Nₓ ?Tₓ ?K ?Pₓ ?P2ₓ ?Sₓ ?Dₓ ?Uₓ ?e1ₓ ?e2ₓ ?_; (case Bₓ => k_asm); (case Fₓ => k_asm); (case Xₓ => k_asm); (case Nₓ => k_asm); (case Tₓ => k_asm); (case K => first | exact rfl | assumption); (case Dₓ => ktr_room); (case Uₓ => ktr_units); (case Pₓ => k_extra "C.at"); (case P2ₓ => k_extra "C.at"); (case Sₓ => k_mem); (case e1ₓ => k_ne); (case e2ₓ => k_ne); k_whole); intro ct'ₓ ut'ₓ uc'ₓ h'ₓ tk'ₓ F'ₓ nb'ₓ; (have N'ₓ := nb'ₓ _ (by k_extra "C.repl")); clear nb'ₓ; (try k_sweep); (try dsimp only)))
  k_with "#46" => open Zz in ((k_here; (with_reducible show wpAny _ _ (call (Value.ref 55) _) _ _ _); k_dflt (refine' re_use ?Bₓ ?Fₓ ?Xₓ ?Nₓ ?Tₓ ?K ?Pₓ ?P2ₓ ?Dₓ ?Uₓ ?e1ₓ ?e2ₓ ?e3ₓ ?_; (case Bₓ => k_asm); (case Fₓ => k_asm); (case Xₓ => k_asm); (case Nₓ => k_asm); (case Tₓ => k_asm); (case K => first | exact rfl | assumption); (case Dₓ => ktr_room); (case Uₓ => ktr_units); (case Pₓ => k_extra "C.at"); (case P2ₓ => k_extra "C.at"); (case e1ₓ => first | assumption | omega); (case e2ₓ => first | assumption | omega); (case e3ₓ => first | assumption | omega); k_whole); intro d'ₓ u'ₓ v'ₓ h'ₓ tk'ₓ F'ₓ N'ₓ l1ₓ; (try k_sweep); (try dsimp only)))
  k_with "#47" => open Zz in ((k_here; (with_reducible show wpAny _ _ (call (Value.ref 62) _) _ _ _); k_dflt (refine' use0 (ta_spec _ _ _ _ _ _ _ _ _ _ _ _ _ _ _ _ _ _ _ _ _ _ _) ?Bₓ ?Fₓ ?Xₓ ?Nₓ ?Tₓ ?K ?Pₓ ?Dₓ ?Uₓ ?_; (case Bₓ => k_asm); (case Fₓ => k_asm); (case Xₓ => k_asm); (case Nₓ => k_asm); (case Tₓ => k_asm); (case K => first | exact rfl | assumption); (case Dₓ => ktr_room); (case Uₓ => ktr_units); (case Pₓ => exact ⟨by k_extra "C.at", by k_extra "C.at", by k_extra "C.at", trivial⟩); k_whole); intro h'ₓ tk'ₓ F'ₓ N'ₓ; (try k_sweep); (try dsimp only)))
  k_with "#48" => open Zz in ((k_here; (with_reducible show wpAny _ _ (call (Value.ref 90) _) _ _ _); k_dflt (refine' use0 (ho_spec _ _ _ _ _ _ _ _ _ _ _ _ _ _ _ _ _ _ _ _ _ _ _) ?Bₓ ?Fₓ ?Xₓ ?Nₓ ?Tₓ ?K ?Pₓ ?Dₓ ?Uₓ ?_; (case Bₓ => k_asm); (case Fₓ => k_asm); (case Xₓ => k_asm); (case Nₓ => k_asm); (case Tₓ => k_asm); (case K => first | exact rfl | assumption); (case Dₓ => ktr_room); (case Uₓ => ktr_units); (case Pₓ => exact ⟨by k_extra "C.at", by k_extra "C.at", trivial⟩); k_whole); intro h'ₓ tk'ₓ F'ₓ N'ₓ; (try k_sweep); (try dsimp only)))
  k_with "#49" => open Zz in ((k_here; (with_reducible show wpAny _ _ (call (Value.ref 97) _) _ _ _); k_dflt (refine' use0 (hi_spec _ _ _ _ _ _ _ _ _ _ _ _ _ _ _ _ _ _ _ _ _ _ _ _) ?Bₓ ?Fₓ ?Xₓ ?Nₓ ?Tₓ ?K ?Pₓ ?Dₓ ?Uₓ ?_; (case Bₓ => k_asm); (case Fₓ => k_asm); (case Xₓ => k_asm); (case Nₓ => k_asm); (case Tₓ => k_asm); (case K => first | exact rfl | assumption); (case Dₓ => ktr_room); (case Uₓ => ktr_units); (case Pₓ => exact ⟨by k_extra "C.at", by k_extra "C.at", trivial⟩); k_whole); intro h'ₓ tk'ₓ F'ₓ N'ₓ; (try k_sweep); (try dsimp only)))
  k_with "#50" => open Zz in ((k_here; (with_reducible show wpAny _ _ (call (Value.ref 48) _) _ _ _); k_dflt (refine' use0 (nw_spec _ _ _ _ _ _ _ _ _ _ _ _ _ _ _ _ _ _ _) ?Bₓ ?Fₓ ?Xₓ ?Nₓ ?Tₓ ?K ?Pₓ ?Dₓ ?Uₓ ?_; (case Bₓ => k_asm); (case Fₓ => k_asm); (case Xₓ => k_asm); (case Nₓ => k_asm); (case Tₓ => k_asm); (case K => first | exact rfl | assumption); (case Dₓ => ktr_room); (case Uₓ => ktr_units); (case Pₓ => exact ⟨by k_extra "C.at", by k_extra "C.at", trivial⟩); k_whole); intro h'ₓ tk'ₓ F'ₓ N'ₓ; (try k_sweep); (try dsimp only)))
  k_with "#51" => ((try dsimp only); first | with_reducible assumption | with_reducible exact injA (by assumption) rfl | with_reducible exact injA' (by assumption) rfl | with_reducible exact offA (by assumption) rfl | with_reducible exact offA' (by assumption) rfl | with_reducible exact NeAll.at (by assumption) (by k_mem) | with_reducible exact (NeAll.at (by assumption) (by k_mem)).symm | with_reducible exact Ne.symm (by assumption))
  k_with "#52" => first | (with_reducible exact List.not_mem_nil) | (with_reducible exact nm_cons (by k_ne) (by k_extra "C.notin"))
  k_with "#53" => first | (with_reducible exact Repl.nil) | ((with_reducible apply Repl.sw0); k_extra "C.repl") | ((with_reducible apply Repl.sw1); k_extra "C.repl") | ((with_reducible apply Repl.sw2); k_extra "C.repl") | ((with_reducible apply Repl.sw3); k_extra "C.repl") | ((with_reducible apply Repl.kp); (focus (k_extra "C.notin")); k_extra "C.repl")
  k_with "#54" => ((try dsimp only); first | with_reducible assumption | with_reducible exact injA (by assumption) rfl | with_reducible exact injA' (by assumption) rfl | with_reducible exact offA (by assumption) rfl | with_reducible exact offA' (by assumption) rfl | (k_dflt exact NeAll.at (by with_reducible assumption) (by k_mem)) | (k_dflt exact (NeAll.at (by with_reducible assumption) (by k_mem)).symm) | with_reducible exact Ne.symm (by assumption))
  k_with "#55" => open Zz in ((k_here; k_dflt (refine' Assign_ListComp_Z ?Fₓ ?aₓ ?bₓ ?cₓ ?dₓ ?eₓ ?fₓ ?gₓ ?iₓ ?_ ?jₓ; (case Fₓ => k_asm); (case aₓ => exact rfl); (case bₓ => with_unfolding_all rfl); (case cₓ => with_unfolding_all rfl); (case dₓ => decide); (case eₓ => exact rfl); (case fₓ => decide); (case gₓ => exact rfl); (case iₓ => exact rfl); (case jₓ => (intro _; exact rfl)); k_whole)))
  k_with "#56" => open Zz in ((k_here; k_dflt (refine' SrcZ.intro ?aₓ ?Fₓ ?Nₓ ?lₓ ?_; (case aₓ => exact rfl); (case Fₓ => k_asm); (case Nₓ => k_asm); (case lₓ => kmk_list); k_whole); intro D'ₓ h'ₓ tk'ₓ F'ₓ N'ₓ l1ₓ; (try k_sweep); (try dsimp only)))
  k_with "#57" => (k_here; (with_reducible show wpAny _ _ (call (Value.ref 238) _) _ _ _); k_dflt (apply nd1_use; k_extra "ps"); k_extra "post")
  k_with "#58" => (k_here; (with_reducible show wpAny _ _ (call (Value.ref 238) _) _ _ _); k_dflt (apply nd0_use; k_extra "ps"); k_extra "post")
  k_with "#59" => open Zz in ((k_here; (with_reducible show wpAny _ _ (call (Value.ref 521) _) _ _ _); k_dflt (apply within_use; k_extra "ps"); intro d'ₓ n'ₓ found'ₓ h'ₓ tk'ₓ F'ₓ N'ₓ l1ₓ hfoundₓ; rcases hfoundₓ with hfoundₓ | hfoundₓ; all_goals (subst hfoundₓ; (try k_sweep); (try dsimp only))))
  k_with "#60" => (k_here; (with_reducible show wpAny _ _ (call (Value.ref 348) _) _ _ _); k_dflt (apply codes_use; k_extra "ps"); k_extra "post")
  k_with "#61" => (k_here; (with_reducible show wpAny _ _ (call (Value.ref 271) _) _ _ _); k_dflt (apply md_use; k_extra "ps"); k_extra "post")
  k_with "#62" => open Zz in ((k_here; k_dflt (refine' call_cls2 ?k1ₓ ?k2ₓ ?k3ₓ ?k4ₓ ?k5ₓ ?k6ₓ ?_; (case k1ₓ => k_asm); (case k2ₓ => k_asm); (case k3ₓ => k_asm); (case k4ₓ => k_is); (case k5ₓ => k_is); (case k6ₓ => k_is); k_whole; intro x'ₓ d'ₓ h'ₓ F'ₓ N'ₓ l1ₓ l2ₓ l3ₓ; (try k_sweep); k_enter)))
  k_with "#63" => first | (with_reducible exact Repl.nil) | (with_reducible exact Repl.off1 (by assumption) rfl) | (with_reducible exact Repl.off2 (by assumption) rfl) | ((with_reducible apply Repl.sw0); k_extra "C.repl") | ((with_reducible apply Repl.sw1); k_extra "C.repl") | ((with_reducible apply Repl.sw2); k_extra "C.repl") | ((with_reducible apply Repl.sw3); k_extra "C.repl") | ((with_reducible apply Repl.kp); (focus (k_extra "C.notin")); k_extra "C.repl") | fail "C.repl"
  k_with "#64" => open Zz in (first | exact List.forall_mem_nil _ | (with_reducible exact OffAll.ne (by assumption) rfl) | (refine' List.forall_mem_cons.mpr ⟨?aₓ, ?bₓ⟩; (case aₓ => k_ne); (case bₓ => k_all)))
  k_with "#65" => (k_here; (with_reducible show wpAny _ _ (call (Value.ref 707) _) _ _ _); k_dflt (apply tg_use; k_extra "ps"); k_extra "post")
  k_with "#66" => (k_here; (with_reducible show wpAny _ _ (call (Value.ref 376) _) _ _ _); k_dflt (apply gapdel_use; k_extra "ps"); k_extra "post")
  k_with "#67" => first | (with_reducible exact Repl.nil) | (with_reducible exact Repl.off1 (by assumption) rfl) | (with_reducible exact Repl.off2 (by assumption) rfl) | ((with_reducible apply Repl.sw0); k_extra "C.repl") | ((with_reducible apply Repl.sw1); k_extra "C.repl") | ((with_reducible apply Repl.sw2); k_extra "C.repl") | ((with_reducible apply Repl.sw3); k_extra "C.repl") | ((with_reducible apply Repl.sw4); k_extra "C.repl") | ((with_reducible apply Repl.sw5); k_extra "C.repl") | ((with_reducible apply Repl.sw6); k_extra "C.repl") | ((with_reducible apply Repl.kp); (focus (k_extra "C.notin")); k_extra "C.repl") | fail "C.repl"
  k_with "#68" => (k_here; (with_reducible show wpAny _ _ (call (Value.ref 76) _) _ _ _); k_dflt (apply to_use; k_extra "ps"); k_extra "post")
  k_with "#69" => (k_here; (with_reducible show wpAny _ _ (call (Value.ref 535) _) _ _ _); k_dflt (apply deleted_use; k_extra "ps"); k_extra "post")
  k_with "#70" => (k_here; (with_reducible show wpAny _ _ (call (Value.ref 702) _) _ _ _); k_dflt (apply tc_use; k_extra "ps"); k_extra "post")
  k_with "#71" => (k_here; (with_reducible show wpAny _ _ (call (Value.ref 69) _) _ _ _); k_dflt (apply tb_use; k_extra "ps"); k_extra "post")
  k_with "#72" => (k_here; (with_reducible show wpAny _ _ (call (Value.ref 55) _) _ _ _); k_dflt (apply re_use; k_extra "ps"); k_extra "post")
  k_with "#73" => (k_here; k_dflt (refine whl_start 9 ?_))
  k_with "#74" => open Zz in ((k_here; (with_reducible show wpAny _ _ (getItem (Value.ref _) (Value.int _ _)) _ _ _); k_dflt (first | (refine' item_at ?lₓ ?h0ₓ ?h1ₓ ?gₓ ?_; (case lₓ => exact isList_of (by k_extra "C.at")); (case h0ₓ => omega); (case h1ₓ => omega); (case gₓ => k_extra "C.item"); k_whole) | (refine' getItem_tuple ?tₓ ?aₓ ?bₓ ?cₓ ?dₓ ?_; (case tₓ => exact isTup_of (by k_extra "C.at")); (case aₓ => decide); (case bₓ => decide); (case cₓ => rfl); (case dₓ => rfl); k_whole))))
  k_with "#75" => open Zz in ((k_here; (with_reducible show wpAny _ _ (subscriptTail _ _ (Value.ref _) (Value.int _ _)) _ _ _); k_dflt (first | (refine' item_atT ?lₓ ?h0ₓ ?h1ₓ ?gₓ ?_ ?sₓ; (case lₓ => exact isList_of (by k_extra "C.at")); (case h0ₓ => omega); (case h1ₓ => omega); (case gₓ => k_extra "C.item"); (case sₓ => with_unfolding_all rfl); k_whole) | ((with_reducible show wpAny _ _ (subscriptTail _ _ (Value.ref _) (Value.int 0 _)) _ _ _); refine' item_hd ?xₓ ?_ ?sₓ; (case xₓ => k_extra "C.at"); (case sₓ => with_unfolding_all rfl); k_whole) | (refine' item_tupleT ?tₓ ?aₓ ?bₓ ?cₓ ?dₓ ?_ ?sₓ; (case tₓ => exact isTup_of (by k_extra "C.at")); (case aₓ => decide); (case bₓ => decide); (case cₓ => rfl); (case dₓ => rfl); (case sₓ => with_unfolding_all rfl); k_whole))))
  k_with "#76" => open Zz in ((k_here; k_dflt (first | (refine' eq_K_same ?Fₓ ?Xₓ ?lₓ ?uₓ ?_; (case Fₓ => k_asm); (case Xₓ => k_asm); (case lₓ => k_is); (case uₓ => ktr_units); k_whole) | (refine' eq_K_head ?Fₓ ?Xₓ ?lₓ ?xₓ ?nₓ ?uₓ ?_; (case Fₓ => k_asm); (case Xₓ => k_asm); (case lₓ => k_is); (case xₓ => k_extra "C.at"); (case nₓ => first | assumption | rfl | decide); (case uₓ => ktr_units); k_whole))))
  k_with "#77" => open Zz in ((k_here; k_dflt (first | (refine' ne_one ?xₓ ?yₓ ?uₓ ?_; (case xₓ => exact bd_at (by k_asm) (by k_asm)); (case yₓ => k_extra "C.at"); (case uₓ => ktr_units); k_whole) | (refine' ne_head ?xₓ ?yₓ ?nₓ ?uₓ ?_; (case xₓ => k_extra "C.at"); (case yₓ => k_extra "C.at"); (case nₓ => first | assumption | rfl | decide); (case uₓ => ktr_units); k_whole))))
  k_with "#78" => (k_here; (with_reducible show wpAny _ _ (call (Value.ref 112) _) _ _ _); k_dflt (apply insert_use; k_extra "ps"); k_extra "post")
  k_with "#79" => (k_here; (with_reducible show wpAny _ _ (call (Value.ref 162) _) _ _ _); k_dflt (apply ip_use; k_extra "ps"); k_extra "post")
  k_with "#80" => (k_here; (with_reducible show wpAny _ _ (call (Value.ref 119) _) _ _ _); k_dflt (apply delete_use; k_extra "ps"); k_extra "post")
  k_with "#81" => (k_here; (with_reducible show wpAny _ _ (call (Value.ref 620) _) _ _ _); k_dflt (apply goto_use; k_extra "ps"); k_extra "post")
  k_with "#82" => open Zz in ((k_here; (with_reducible show wpAny _ _ (call (Value.ref 278) _) _ _ _); k_dflt (refine' use0 (vis_spec _ _ _ _ _ _ _ _ _ _ _ _ _ _ _ _ _ _ _ _ _ _ _ ?e1ₓ ?e2ₓ) ?Bₓ ?Fₓ ?Xₓ ?Nₓ ?Tₓ ?K ?Pₓ ?Dₓ ?Uₓ ?_; (case Bₓ => k_asm); (case Fₓ => k_asm); (case Xₓ => k_asm); (case Nₓ => k_asm); (case Tₓ => k_asm); (case K => first | exact rfl | assumption); (case Dₓ => ktr_room); (case Uₓ => ktr_units); (case Pₓ => exact ⟨by k_extra "C.at", by k_extra "C.at", trivial⟩); (case e1ₓ => first | assumption | omega); (case e2ₓ => first | assumption | omega); k_whole); intro h'ₓ tk'ₓ F'ₓ N'ₓ; (try k_sweep); (try dsimp only)))
  k_with "#83" => (k_here; (with_reducible show wpAny _ _ (call (Value.ref 285) _) _ _ _); k_dflt (apply ma0_use; k_extra "ps"); k_extra "post")
  k_with "#84" => open Zz in ((k_here; (with_reducible show wpAny _ _ (pyIter (Value.ref _)) (fun itₓ s₂ₓ => TurnsAt _ _ _ _ _ _ _ _ _ itₓ s₂ₓ) _ _); k_dflt (refine' iter_Z ?hₓ ?Fₓ ?Nₓ ?mₓ ?_; (case hₓ => with_unfolding_all rfl); (case Fₓ => k_asm); (case Nₓ => k_asm); (case mₓ => k_mem); k_whole); intro h'ₓ tk'ₓ F'ₓ N'ₓ; (try k_sweep)))
  k_with "#85" => (k_here; (with_reducible show wpAny _ _ (call (Value.ref 285) _) _ _ _); k_dflt (apply ma1_use; k_extra "ps"); k_extra "post")
  k_with "#86" => open Zz in ((k_here; (with_reducible show wpAny _ _ (assign (Expr.Tuple _ _ _) _ (Value.ref _)) _ _ _); k_dflt (refine' unpackN_ ?Fₓ ?Nₓ ?Tₓ ?k1ₓ ?k2ₓ ?k3ₓ ?_; (case Fₓ => k_asm); (case Nₓ => k_asm); (case Tₓ => first | exact isTup_of (by k_extra "C.at") | (refine News.isTup (by k_asm) (by k_mem))); (case k1ₓ => exact rfl); (case k2ₓ => exact rfl); (case k3ₓ => exact rfl)); intro h'ₓ F'ₓ N'ₓ; (try k_sweep)))
  k_with "#87" => open Zz in (first | exact List.forall_mem_nil _ | (with_reducible exact Off2.fst (by assumption)) | (refine' List.forall_mem_cons.mpr ⟨?aₓ, ?bₓ⟩; (case aₓ => k_ne); (case bₓ => k_all)))
  k_with "#88" => (k_here; k_dflt (refine LCg.ListComp_U (F₀ := by k_asm) (by with_unfolding_all rfl) (by decide) (by rfl) (by decide) (by rfl) ?_))
  k_with "#89" => (fail "C.stop")
  k_with "#90" => open Zz in ((k_here; k_dflt (first | (refine' eq_un ?xₓ ?yₓ ?nₓ ?uₓ ?_; (case xₓ => k_extra "C.at"); (case yₓ => k_extra "C.at"); (case nₓ => assumption); (case uₓ => ktr_units); k_whole) | (refine' eq_hd ?xₓ ?yₓ ?nₓ ?uₓ ?_; (case xₓ => k_extra "C.at"); (case yₓ => k_extra "C.at"); (case nₓ => assumption); (case uₓ => ktr_units); k_whole))))
  k_with "#91" => (k_here; (with_reducible show wpAny _ _ (call (Value.ref 250) _) _ _ _); k_dflt (apply renew_use; k_extra "ps"); intro _; intros; (try dsimp only))
  k_with "#92" => open Zz in ((k_here; (with_reducible show wpAny _ _ (subscriptTail _ _ (Value.ref _) (Value.int (Int.fmod _ _) _)) _ _ _); k_dflt (refine' item_int ?lₓ ?vₓ ?h0ₓ ?h1ₓ ?h2ₓ ?_ ?sₓ; (case lₓ => exact isList_of (by k_extra "C.at")); (case vₓ => assumption); (case h0ₓ => exact Int.fmod_nonneg_of_pos _ (by omega)); (case h1ₓ => exact Int.fmod_lt_of_pos _ (by omega)); (case h2ₓ => omega); (case sₓ => with_unfolding_all rfl); k_whole); intro n'ₓ t'ₓ))
  k_with "#93" => open Zz in ((k_here; k_dflt (first | (refine' ne_nil ?xₓ ?yₓ ?uₓ ?_; (case xₓ => exact isList_of (by k_extra "C.at")); (case yₓ => exact isList_of (by k_extra "C.at")); (case uₓ => ktr_units); k_whole) | (refine' ne_cons ?xₓ ?yₓ ?uₓ ?_; (case xₓ => exact isList_of (by k_extra "C.at")); (case yₓ => exact isList_of (by k_extra "C.at")); (case uₓ => ktr_units); k_whole))))
  k_with "#94" => open Zz in ((k_here; (with_reducible show wpAny _ _ (call (Value.builtin _) [Value.ref _, Value.int _ _]) _ _ _); k_dflt (refine' pop_hd ?Fₓ ?Nₓ ?Uₓ ?zₓ ?_; (case Fₓ => k_asm); (case Nₓ => k_asm); (case Uₓ => k_upd); (case zₓ => omega); k_whole); intro h'ₓ F'ₓ N'ₓ; (try k_sweep)))
  k_with "#95" => (k_here; k_dflt (refine LCt.ListComp_T (F₀ := by k_asm) (by with_unfolding_all rfl) (by decide) (by rfl) (by decide) (by rfl) ?_))
  k_with "#96" => open Zz in ((k_here; (with_reducible show wpAny _ _ (subscriptTail _ (PySem.Expr.Slice none _ none _) (Value.ref _) (Value.ref _)) _ _ _); k_dflt (refine' slice_upto ?Fₓ ?Nₓ ?lₓ ?pₓ ?qₓ ?aₓ ?bₓ ?zₓ ?_ ?sₓ ?tₓ; (case Fₓ => k_asm); (case Nₓ => k_asm); (case lₓ => kmk_list); (case pₓ => kmk_part); (case qₓ => kmk_part); (case aₓ => omega); (case bₓ => (simp only [List.length_cons, List.length_nil]; omega)); (case sₓ => with_unfolding_all rfl); (case tₓ => kmk_pure); (case zₓ => (simp only [List.length_cons, List.length_nil]; omega)); k_whole); intro D'ₓ zs'ₓ h'ₓ hz'ₓ hzl'ₓ F'ₓ N'ₓ l1ₓ; (try k_sweep)))
  k_with "#97" => (k_here; (with_reducible show wpAny _ _ (call (Value.ref 119) _) _ _ _); k_dflt (apply delete_useQ; k_extra "ps"); k_extra "post")
  k_with "#98" => (k_here; (with_reducible show wpAny _ _ (call (Value.ref 112) _) _ _ _); k_dflt (apply insert_useQ; k_extra "ps"); k_extra "post")
  k_with "#99" => (k_here; (with_reducible show wpAny _ _ (call (Value.ref 210) _) _ _ _); k_dflt (apply boundary_use; k_extra "ps"); k_extra "post")
  k_with "#100" => (k_here; (with_reducible show wpAny _ _ (call (Value.ref 733) _) _ _ _); k_dflt (apply draw_use; k_extra "ps"); k_extra "post")
  k_with "#101" => first | assumption | omega | (simp only [List.length_nil, List.length_cons, Nat.zero_add]; omega)
  k_with "#102" => open Zz in ((k_here; (try dsimp only); k_dflt (refine' set_dictE ?k1ₓ ?k2ₓ ?k3ₓ ?k4ₓ ?k5ₓ ?k6ₓ ?k7ₓ ?k8ₓ ?k9ₓ ?k10ₓ ?k11ₓ ?k12ₓ ?k13ₓ ?_; (case k1ₓ => k_asm); (case k2ₓ => k_asm); (case k3ₓ => k_asm); (case k4ₓ => k_inst); (case k5ₓ => exact rfl); (case k6ₓ => k_is); (case k7ₓ => k_is); (case k8ₓ => k_is); (case k9ₓ => k_is); (case k10ₓ => k_get); (case k11ₓ => k_put); (case k12ₓ => k_upd); (case k13ₓ => exact Nat.le_of_ble_eq_true rfl); k_whole); intro h'ₓ F'ₓ N'ₓ; (try k_sweep)))
  k_with "#103" => (k_here; (with_reducible show wpAny _ _ (call (Value.ref 528) _) _ _ _); k_dflt (apply inserted0_use; k_extra "ps"); k_extra "post")
  k_with "#104" => (k_here; (with_reducible show wpAny _ _ (call (Value.ref 369) _) _ _ _); k_dflt (apply gapins_use; k_extra "ps"); k_extra "post")
  k_with "#105" => open Zz in ((k_here; (with_reducible show wpAny _ _ (call (Value.ref 306) _) _ _ _); k_dflt (refine' un_use ?Hₓ ?poₓ ?Bₓ ?Fₓ ?Xₓ ?Nₓ ?Tₓ ?K ?Iₓ ?Pₓ ?moₓ ?P2ₓ ?Sₓ ?mRₓ ?offₓ ?Dₓ ?Uₓ ?_; (case Hₓ => assumption); (case poₓ => assumption); (case Bₓ => k_asm); (case Fₓ => k_asm); (case Xₓ => k_asm); (case Nₓ => k_asm); (case Tₓ => k_asm); (case K => first | exact rfl | assumption); (case Iₓ => assumption); (case Pₓ => assumption); (case moₓ => assumption); (case P2ₓ => assumption); (case Sₓ => exact ⟨by k_mem, by k_mem, by k_mem, by k_mem, by k_mem, by k_mem, by k_mem, trivial⟩); (case mRₓ => (intro qₓ hqₓ; repeat (first | exact hqₓ | apply List.Mem.tail))); (case offₓ => assumption); (case Dₓ => ktr_room); (case Uₓ => ktr_units); k_whole); intro t'ₓ rl2'ₓ S'ₓ R'ₓ h'ₓ tk'ₓ F'ₓ N'ₓ off'ₓ ne'ₓ rl'ₓ po'ₓ; (try dsimp only [List.cons_append, List.nil_append] at N'ₓ); (try k_sweep); (try dsimp only)))
  k_with "#106" => (k_here; (with_reducible show wpAny _ _ (call (Value.ref 306) _) _ _ _); k_dflt (apply op_use; k_extra "ps"); k_extra "post")
  k_with "#107" => (k_here; (with_reducible show wpAny _ _ (call (Value.ref 313) _) _ _ _); k_dflt (apply above_use; k_extra "ps"); k_extra "post")
  k_with "#108" => (k_here; (with_reducible show wpAny _ _ (execs (Stmt.Expr (PySem.Expr.Call (PySem.Expr.Name (Str.ofString "set_marker") _) _ _ _) _ :: _) _) _ _ _); refine' Stop.out ?_)
  k_with "#109" => (k_here; (with_reducible show wpAny _ _ (call (Value.ref 112) _) _ _ _); k_dflt (apply insert0_use; k_extra "ps"; (case hne => k_extra "C.pairs"); k_extra "ps"; (case hc => exact rk_ne (by assumption) (by omega)); (case hc' => exact rk_le (by assumption) (by omega)); k_extra "ps"); k_extra "post")
  k_with "#110" => (k_here; (with_reducible show wpAny _ _ (call (Value.ref 477) _) _ _ _); k_dflt (apply mkmk_use; k_extra "ps"); k_extra "post")
  k_with "#111" => (k_here; (with_reducible show wpAny _ _ (call (Value.ref 717) _) _ _ _); k_dflt (apply mkrec_use; k_extra "ps"); k_extra "post")
  k_with "#112" => (k_here; (with_reducible show wpAny _ _ (call (Value.ref 651) _) _ _ _); k_dflt (apply mkbuf_use; k_extra "ps"); k_extra "post")
  k_with "#113" => (k_here; (with_reducible show wpAny _ _ (call (Value.ref 726) _) _ _ _); k_dflt (apply deck_use; k_extra "ps"); k_extra "post")
  k_with "#114" => open Zz in ((k_here; (with_reducible show wpAny _ _ (call (Value.builtin "len") [Value.ref _]) _ _ _); k_dflt (refine' len_push ?lₓ ?zₓ ?_; (case lₓ => exact News.isList (by k_asm) (by k_mem)); (case zₓ => omega); k_whole); intro t'ₓ; (try dsimp only)))
  k_with "#115" => first | (with_reducible exact Repl.nil) | (with_reducible exact Repl.off1 (by assumption) rfl) | (with_reducible exact Repl.off2 (by assumption) rfl) | (with_reducible exact Repl.far (by assumption)) | (with_reducible exact Repl.far9 (by assumption) (by assumption)) | ((with_reducible apply Repl.sw0); k_extra "C.repl") | ((with_reducible apply Repl.sw1); k_extra "C.repl") | ((with_reducible apply Repl.sw2); k_extra "C.repl") | ((with_reducible apply Repl.sw3); k_extra "C.repl") | ((with_reducible apply Repl.sw4); k_extra "C.repl") | ((with_reducible apply Repl.sw5); k_extra "C.repl") | ((with_reducible apply Repl.sw6); k_extra "C.repl") | ((with_reducible apply Repl.sw7); k_extra "C.repl") | ((with_reducible apply Repl.sw8); k_extra "C.repl") | ((with_reducible apply Repl.kp); (focus (k_extra "C.notin")); k_extra "C.repl") | fail "C.repl"
  k_with "#116" => open Zz in (first | exact List.forall_mem_nil _ | (with_reducible exact OffAll.ne (by assumption) rfl) | (with_reducible exact Far.k0 (by assumption)) | (with_reducible exact Far.k1 (by assumption)) | (with_reducible exact Far.k2 (by assumption)) | (refine' List.forall_mem_cons.mpr ⟨?aₓ, ?bₓ⟩; (case aₓ => k_ne); (case bₓ => k_all)))
  k_with "#117" => (k_here; (with_reducible show wpAny _ _ (call (Value.ref 740) _) _ _ _); k_dflt (apply command_use; k_extra "ps"); k_extra "post")
  k_with "#118" => (k_here; (first | (with_reducible show wpAny _ _ (call (Value.ref 740) _) _ _ _) | (with_reducible show wpAny _ _ (call (Value.ref 733) _) _ _ _) | (with_reducible show wpAny _ _ (call (Value.ref 348) _) _ _ _) | (with_reducible show wpAny _ _ (call (Value.ref 747) _) _ _ _) | (with_reducible show wpAny _ _ (call (Value.ref 210) _) _ _ _) | (with_reducible show wpAny _ _ (call (Value.ref 306) _) _ _ _) | (with_reducible show wpAny _ _ (call (Value.ref 660) _) _ _ _)); refine' Stop.out ?_)
  k_with "#119" => (k_here; refine' Stop.out ?_)
  k_with "#120" => open Zz in ((k_here; (with_reducible show wpAny _ _ (call (Value.ref 747) _) _ _ _); k_dflt (refine' grp_use (T := ?TTₓ) (S := ?SSₓ) ?Bₓ ?Fₓ ?Xₓ ?Nₓ ?Tₓ ?K ?Wₓ ?hbₓ ?oklₓ ?hiₓ ?klₓ ?mRₓ ?Pₓ ?Sₓ ?Dₓ ?Uₓ ?_ ?_; (case Bₓ => k_asm); (case Fₓ => k_asm); (case Xₓ => k_asm); (case Nₓ => k_asm); (case Tₓ => k_asm); (case K => first | exact rfl | assumption); (case Wₓ => assumption); (case hbₓ => assumption); (case oklₓ => assumption); (case hiₓ => first | assumption | rfl); (case klₓ => k_mem); (case mRₓ => (intro qₓ hqₓ; repeat (first | exact hqₓ | apply List.Mem.tail))); (case Pₓ => exact ⟨by k_extra "C.at", by k_extra "C.at", by k_extra "C.at", by k_extra "C.at", by k_extra "C.at", by k_extra "C.at", by k_extra "C.at", by k_extra "C.at", by k_extra "C.at", trivial⟩); (case Sₓ => exact ⟨by k_mem, by k_mem, by k_mem, by k_mem, by k_mem, by k_mem, by k_mem, trivial⟩); (case Dₓ => ktr_room); (case Uₓ => ktr_units)); (intro t'ₓ S'ₓ R'ₓ bs'ₓ ap'ₓ h'ₓ tk'ₓ F'ₓ nb'ₓ off'ₓ nr2'ₓ last'ₓ pw'ₓ tx'ₓ q1'ₓ q2'ₓ q3'ₓ q4'ₓ q5'ₓ; (have N'ₓ := nb'ₓ _ (by k_extra "C.repl")); clear nb'ₓ; (try dsimp only [List.cons_append, List.nil_append] at N'ₓ); (try k_sweep); (try dsimp only)); rotate_left; (intro t'ₓ S'ₓ R'ₓ bs'ₓ ap'ₓ rl'ₓ h'ₓ tk'ₓ F'ₓ nb'ₓ off'ₓ nr2'ₓ orl'ₓ nrl'ₓ nrn'ₓ last'ₓ pw'ₓ tx'ₓ q1'ₓ q2'ₓ q3'ₓ q4'ₓ q5'ₓ; (have N'ₓ := nb'ₓ _ (by k_extra "C.rep3")); clear nb'ₓ; (try dsimp only [List.cons_append, List.nil_append] at N'ₓ); (try k_sweep); (try dsimp only)); rotate_left))
  k_with "#121" => (k_here; (with_reducible show wpAny _ _ (call (Value.ref 210) _) _ _ _); k_dflt (apply boundary_useR; k_extra "ps"); k_extra "post")
  k_with "#122" => open Zz in (first | exact List.forall_mem_nil _ | (with_reducible exact OffAll.ne (by assumption) rfl) | (with_reducible assumption) | (refine' List.forall_mem_cons.mpr ⟨?aₓ, ?bₓ⟩; (case aₓ => k_ne); (case bₓ => k_all)))
  k_with "#123" => first | (with_reducible exact Repl.nil) | (with_reducible exact Repl.off1 (by assumption) rfl) | (with_reducible exact Repl.off2 (by assumption) rfl) | (with_reducible exact Repl.offr (by assumption) rfl (by assumption)) | (with_reducible exact Repl.same (off7all (by assumption))) | ((with_reducible apply Repl.sw0); k_extra "C.repl") | ((with_reducible apply Repl.sw1); k_extra "C.repl") | ((with_reducible apply Repl.sw2); k_extra "C.repl") | ((with_reducible apply Repl.sw3); k_extra "C.repl") | ((with_reducible apply Repl.sw4); k_extra "C.repl") | ((with_reducible apply Repl.sw5); k_extra "C.repl") | ((with_reducible apply Repl.sw6); k_extra "C.repl") | ((with_reducible apply Repl.kp); (focus (k_extra "C.notin")); k_extra "C.repl") | fail "C.repl"
  k_with "#124" => open Zz in ((k_here; k_dflt (refine' ne_same ?xₓ ?yₓ ?eₓ ?vₓ ?uₓ ?_; (case xₓ => exact News.isList (by k_asm) (by k_mem)); (case yₓ => exact News.isList (by k_asm) (by k_extra "C.memR")); (case eₓ => exact take_tx (by assumption) (by assumption) (by assumption) (by assumption)); (case vₓ => assumption); (case uₓ => ktr_units); k_whole)))
  k_with "#125" => open Zz in ((k_here; (with_reducible show wpAny _ _ (subscriptTail _ _ (Value.ref _) (Value.int _ _)) _ _ _); k_dflt (refine' item_atT ?lₓ ?h0ₓ ?h1ₓ ?gₓ ?_ ?sₓ; (case lₓ => exact News.isList (by k_asm) (by k_mem)); (case h0ₓ => omega); (case h1ₓ => omega); (case gₓ => k_extra "C.item"); (case sₓ => with_unfolding_all rfl); k_whole)))
  k_with "#126" => (k_here; (with_reducible show wpAny _ _ (execs (Stmt.While _ _ _ _ :: _) _) _ _ _); refine' Stop.out ?_)
  k_with "#127" => (k_here; (with_reducible show wpAny _ _ (call (Value.ref 210) _) _ _ _); k_dflt (apply boundary_useB; k_extra "ps"); k_extra "post")
  k_with "#128" => (k_here; (with_reducible show wpAny _ _ (execs (Stmt.For _ _ _ _ _ :: _) _) _ _ _); refine' Stop.out ?_)
  k_with "#129" => (k_here; (with_reducible show wpAny _ _ (call (Value.ref 660) _) _ _ _); k_dflt (apply setmk2_use; k_extra "ps"); k_extra "post")
  k_with "#130" => open Zz in (first | (refine' InstAt.of_mix ?Fₓ ?Nₓ ?h1ₓ ?h2ₓ; (case Fₓ => k_asm); (case Nₓ => k_asm); (case h1ₓ => exact At.get (by k_asm) (by k_mem)); (case h2ₓ => k_mem)) | (refine' InstAt.of_base ?Fₓ ?h1ₓ ?h2ₓ; (case Fₓ => k_asm); (case h1ₓ => exact At.get (by k_asm) (by k_mem)); (case h2ₓ => exact At.get (by k_asm) (by k_mem))))
  k_with "#131" => first | exact News.isList (by k_asm) (by k_mem) | exact isList_of (Fr.keep (by k_asm) _ _ (At.get (by k_asm) (by k_mem))) | exact Fr.lst (by k_asm) (by k_asm) | k_asm
  k_with "#132" => ktr_room
  k_with "#133" => first | (k_dflt exact List.Mem.head _) | ((k_dflt apply List.Mem.tail); k_extra "C.find")
  k_with "#134" => (k_dflt (first | exact rm1 (by assumption) (by assumption) (by decide) | exact rn1 (by assumption) (by assumption) (by decide) | exact rm2 (by assumption) (by assumption) (by assumption) (by decide) | exact rn2 (by assumption) (by assumption) (by assumption) (by decide) | exact rm3 (by assumption) (by assumption) (by assumption) (by assumption) (by decide) | exact rn3 (by assumption) (by assumption) (by assumption) (by assumption) (by decide) | omega | (simp only [depth_under_make, depth_under_kw, depth_in1]; omega)))
  k_with "#135" => (k_dflt (first | exact rm1 (by assumption) (by assumption) (by decide) | exact rn1 (by assumption) (by assumption) (by decide) | exact rm2 (by assumption) (by assumption) (by assumption) (by decide) | exact rn2 (by assumption) (by assumption) (by assumption) (by decide) | exact rm3 (by assumption) (by assumption) (by assumption) (by assumption) (by decide) | exact rn3 (by assumption) (by assumption) (by assumption) (by assumption) (by decide) | omega | (simp only [units_in1, Around.mark_units]; omega)))
  k_with "#136" => first | exact Fr.keep (by k_asm) _ _ (At.get (by k_asm) (by k_mem)) | exact News.get (by k_asm) (by k_mem)
  k_with "#137" => open Zz in ((k_dflt (refine' enterEC ?k1ₓ ?k2ₓ ?k3ₓ ?k4ₓ ?k5ₓ ?kAₓ ?kFₓ ?kKₓ ?k6ₓ ?k7ₓ ?k8ₓ ?k9ₓ ?kBₓ ?kDₓ ?_ ?c2ₓ ?c3ₓ ?c4ₓ; (case kAₓ => exact rfl); (case kFₓ => exact rfl); (case kKₓ => assumption); (case k1ₓ => k_asm); (case k2ₓ => k_asm); (case k3ₓ => k_asm); (case k4ₓ => k_asm); (case k5ₓ => k_asm); (case k6ₓ => k_is); (case k7ₓ => k_is); (case k8ₓ => ktr_room); (case k9ₓ => first | exact BindsTo.of_eq rfl | exact binds_K (by k_in) rfl (by k_is) rfl rfl rfl); (case kBₓ => exact rfl); (case kDₓ => decide +kernel); (case c2ₓ => exact rfl); (case c3ₓ => exact rfl); (case c4ₓ => exact rfl); k_whole)))
  k_with "#138" => open Zz in (first | exact trivial | (refine' And.intro ?aₓ ?bₓ; (case aₓ => first | k_extra "C.at" | exact At.get (by k_asm) (by k_mem)); (case bₓ => k_extra "C.ats")))
  k_with "#139" => open Zz in (first | exact trivial | (refine' And.intro ?aₓ ?bₓ; (case aₓ => k_mem); (case bₓ => k_extra "C.mems")))
  k_with "#140" => with_reducible first | show (_ : Int) ≤ _ | show (_ : Int) < _ | show (_ : Nat) ≤ _ | show (_ : Nat) < _ | show (_ : Int) = _ | show (_ : Int) ≠ _ | show (_ : Nat) = _
  k_with "#141" => open Zz in (first | (with_reducible assumption) | k_asm | ((with_reducible show At _ _); k_extra "C.ats") | ((with_reducible show Subl _ _); k_extra "C.mems") | ((with_reducible show Heap.get? _ _ = _); k_extra "C.at") | ((with_reducible show _ ∈ _); k_mem) | ((with_reducible show ∀ qₓ ∈ _, qₓ ∈ _); (intro qₓ hqₓ; repeat (first | exact hqₓ | apply List.Mem.tail))) | ((with_reducible show _ < recursionLimit); ktr_room) | ((with_reducible show _ < cLine); ktr_units) | ((with_reducible show (_ : Addr) ≠ _); k_ne) | ((with_reducible show _ ∉ _); k_extra "C.notin") | (k_extra "C.ar"; first | omega | k_extra "C.room") | exact rfl)
  k_with "#142" => first | ((focus (k_extra "p"; done)); k_extra "ps") | skip
  k_with "#143" => open Zz in ((intro _; intros; (try ((rename (∀ newₓ, Repl _ _ _ newₓ → _) => nb'ₓ); (have N'ₓ := nb'ₓ _ (by k_extra "C.repl")); clear nb'ₓ; (try dsimp only [List.cons_append, List.nil_append] at N'ₓ))); (try k_sweep); (try dsimp only)))
  k_with "#144" => assumption
  k_with "#145" => open Zz in (first | exact List.forall_mem_nil _ | (refine' List.forall_mem_cons.mpr ⟨?aₓ, ?bₓ⟩; (case aₓ => k_ne); (case bₓ => k_extra "C.alln")))
  k_with "#146" => open Zz in (first | exact trivial | (refine' And.intro ?aₓ ?bₓ; (case aₓ => k_extra "C.alln"); (case bₓ => k_extra "C.pairs")))
  k_with "#147" => first | (with_reducible exact Rep3.nil) | (with_reducible exact Rep3.off7 (by assumption)) | ((with_reducible apply Rep3.s0); k_extra "C.rep3") | ((with_reducible apply Rep3.s1); k_extra "C.rep3") | ((with_reducible apply Rep3.s2); k_extra "C.rep3") | ((with_reducible apply Rep3.s3); k_extra "C.rep3") | ((with_reducible apply Rep3.s4); k_extra "C.rep3") | ((with_reducible apply Rep3.s5); k_extra "C.rep3") | ((with_reducible apply Rep3.drop); k_extra "C.rep3") | ((with_reducible apply Rep3.kp); (focus (k_extra "C.notin")); k_extra "C.rep3") | fail "C.rep3"
  k_with "#148" => first | exact List.mem_append_left _ (by assumption) | (apply List.Mem.tail; k_extra "C.memR")
  k_with "#om2" => open Zz in (first | (with_reducible first | assumption | exact Nat.le_of_ble_eq_true rfl | exact lt_room0 (by assumption) | (refine' lt_room ?aₓ ?bₓ; (case aₓ => assumption); (case bₓ => exact rfl)) | (refine' lt_room2 ?aₓ ?bₓ; (case aₓ => assumption); (case bₓ => exact rfl)) | (refine' le_num ?aₓ ?bₓ; (case aₓ => assumption); (case bₓ => exact rfl))) | omega +splitDisjunctions)
  k_with "# om" => k_extra "#om1"
  k_with "#N_Gc om" => k_extra "#om1"
  k_with "#N_Ge om" => k_extra "#om1"
  k_with "#N_Ga om" => k_extra "#om1"
  k_with "#N_Gg om" => k_extra "#om1"
  k_with "#N_Mk om" => k_extra "#om2"
  k_with "#N_Mw om" => k_extra "#om2"
  k_with "#N_Un om" => k_extra "#om1"
  k_with "#N_Ui om" => k_extra "#om1"
  k_with "#N_Ub om" => k_extra "#om1"
  k_with "#N_Uc om" => k_extra "#om1"
  k_with "#N_Ud om" => k_extra "#om2"
  k_with "#N_Bq om" => k_extra "#om1"
  k_with "#N_Tc om" => k_extra "#om1"
  k_with "#N_In om" => k_extra "#om1"
  k_with "#N_Tg om" => k_extra "#om2"
  k_with "#N_Th om" => k_extra "#om1"
  k_with "#N_To om" => k_extra "#om1"
  k_with "#N_De om" => k_extra "#om1"
  k_with "#N_Us om" => k_extra "#om1"
  k_with "#N_Ma om" => k_extra "#om1"
  k_with "#N_Ip om" => k_extra "#om1"
  k_with "#N_Go om" => k_extra "#om1"
  k_with "#N_Ur om" => k_extra "#om1"
  k_with "#N_Ux om" => k_extra "#om1"
  k_with "#N_Uz om" => k_extra "#om1"
  k_with "#N_Rn om" => k_extra "#om1"
  k_with "#N_Rx om" => k_extra "#om1"
  k_with "#N_Uu om" => k_extra "#om1"
  k_with "#N_Dr om" => k_extra "#om2"
  k_with "#N_Dk om" => k_extra "#om1"
  k_with "#N_Cm om" => k_extra "#om1"
  k_with "#N_Bi om" => k_extra "#om1"
  k_with "#N_Ri om" => k_extra "#om1"
  k_with "#N_I0 om" => k_extra "#om1"
  k_with "#N_I1 om" => k_extra "#om2"
  k_with "#N_Sn om" => k_extra "#om1"
  k_with "#N_Gr om" => k_extra "#om2"
  k_with "#N_L1 om" => k_extra "#om1"
  k_with "#N_L3 om" => k_extra "#om1"
  k_with "#N_L5 om" => k_extra "#om1"
  k_with "#N_L2 om" => k_extra "#om1"
  k_with "#N_L7 om" => k_extra "#om2"
  k_with "#N_L8 om" => k_extra "#om1"
  k_with "#N_L9 om" => k_extra "#om2"
  k_with "#N_L10 om" => k_extra "#om1"
  k_with "#N_L12 om" => k_extra "#om1"
  k_with "#N_L14 om" => k_extra "#om1"
  k_with "#N_Gc C.enter" => k_extra "#1"
  k_with "#N_Gc k_enter" => k_extra "#2"
  k_with "#N_Gc k_ne" => k_extra "#3"
  k_with "#N_Gc C.room" => k_extra "#4"
  k_with "#N_Gc subscriptTail Name Slice ref ref" => k_extra "#5"
  k_with "#N_Gc binaryOp Add ref ref" => k_extra "#6"
  k_with "#N_Gc call builtin:len cons nil" => k_extra "#7"
  k_with "#N_Gc setItem ref ref ref" => k_extra "#8"
  k_with "#N_Gc binaryOp Mult ref int" => k_extra "#9"
  k_with "#N_Gc C.notin" => k_extra "#10"
  k_with "#N_Ge C.enter" => k_extra "#1"
  k_with "#N_Ge k_enter" => k_extra "#2"
  k_with "#N_Ge k_ne" => k_extra "#3"
  k_with "#N_Ge C.room" => k_extra "#4"
  k_with "#N_Ge subscriptTail Name Slice ref ref" => k_extra "#5"
  k_with "#N_Ge binaryOp Add ref ref" => k_extra "#6"
  k_with "#N_Ge call builtin:len cons nil" => k_extra "#7"
  k_with "#N_Ge setItem ref ref ref" => k_extra "#8"
  k_with "#N_Ge binaryOp Mult ref int" => k_extra "#9"
  k_with "#N_Ge C.notin" => k_extra "#10"
  k_with "#N_Ge call ref" => k_extra "#11"
  k_with "#N_Ga C.enter" => k_extra "#1"
  k_with "#N_Ga k_enter" => k_extra "#2"
  k_with "#N_Ga k_ne" => k_extra "#3"
  k_with "#N_Ga C.room" => k_extra "#4"
  k_with "#N_Ga subscriptTail Name Slice ref ref" => k_extra "#5"
  k_with "#N_Ga binaryOp Add ref ref" => k_extra "#6"
  k_with "#N_Ga call builtin:len cons nil" => k_extra "#7"
  k_with "#N_Ga setItem ref ref ref" => k_extra "#8"
  k_with "#N_Ga binaryOp Mult ref int" => k_extra "#9"
  k_with "#N_Ga C.notin" => k_extra "#10"
  k_with "#N_Gg C.enter" => k_extra "#1"
  k_with "#N_Gg k_enter" => k_extra "#2"
  k_with "#N_Gg k_ne" => k_extra "#12"
  k_with "#N_Gg C.room" => k_extra "#4"
  k_with "#N_Gg subscriptTail Name Slice ref ref" => k_extra "#5"
  k_with "#N_Gg binaryOp Add ref ref" => k_extra "#6"
  k_with "#N_Gg call builtin:len cons nil" => k_extra "#7"
  k_with "#N_Gg setItem ref ref ref" => k_extra "#8"
  k_with "#N_Gg binaryOp Mult ref int" => k_extra "#9"
  k_with "#N_Gg C.notin" => k_extra "#13"
  k_with "#N_Gg call ref" => first | k_extra "#14" | k_extra "#15"
  k_with "#N_Mk C.enter" => k_extra "#1"
  k_with "#N_Mk k_enter" => k_extra "#2"
  k_with "#N_Mk k_ne" => k_extra "#12"
  k_with "#N_Mk C.room" => k_extra "#4"
  k_with "#N_Mk subscriptTail Name Slice ref ref" => k_extra "#5"
  k_with "#N_Mk binaryOp Add ref ref" => k_extra "#6"
  k_with "#N_Mk call builtin:len cons nil" => k_extra "#7"
  k_with "#N_Mk setItem ref ref ref" => k_extra "#8"
  k_with "#N_Mk binaryOp Mult ref int" => k_extra "#9"
  k_with "#N_Mk C.notin" => k_extra "#16"
  k_with "#N_Mk call builtin:sorted" => k_extra "#17"
  k_with "#N_Mk getItem ref int" => k_extra "#18"
  k_with "#N_Mw C.enter" => k_extra "#1"
  k_with "#N_Mw k_enter" => k_extra "#2"
  k_with "#N_Mw k_ne" => k_extra "#12"
  k_with "#N_Mw C.room" => k_extra "#4"
  k_with "#N_Mw subscriptTail Name Slice ref ref" => k_extra "#5"
  k_with "#N_Mw binaryOp Add ref ref" => k_extra "#6"
  k_with "#N_Mw call builtin:len cons nil" => k_extra "#7"
  k_with "#N_Mw setItem ref ref ref" => k_extra "#8"
  k_with "#N_Mw binaryOp Mult ref int" => k_extra "#9"
  k_with "#N_Mw C.notin" => k_extra "#16"
  k_with "#N_Mw call builtin:sorted" => k_extra "#17"
  k_with "#N_Mw getItem ref int" => k_extra "#18"
  k_with "#N_Un C.enter" => k_extra "#1"
  k_with "#N_Un k_enter" => k_extra "#2"
  k_with "#N_Un k_ne" => k_extra "#12"
  k_with "#N_Un C.room" => k_extra "#4"
  k_with "#N_Un subscriptTail Name Slice ref ref" => k_extra "#5"
  k_with "#N_Un binaryOp Add ref ref" => k_extra "#6"
  k_with "#N_Un call builtin:len cons nil" => k_extra "#7"
  k_with "#N_Un setItem ref ref ref" => k_extra "#8"
  k_with "#N_Un binaryOp Mult ref int" => k_extra "#9"
  k_with "#N_Un C.notin" => k_extra "#16"
  k_with "#N_Ui C.enter" => k_extra "#1"
  k_with "#N_Ui k_enter" => k_extra "#2"
  k_with "#N_Ui k_ne" => k_extra "#12"
  k_with "#N_Ui C.room" => first | k_extra "#19" | k_extra "#4"
  k_with "#N_Ui subscriptTail Name Slice ref ref" => k_extra "#5"
  k_with "#N_Ui binaryOp Add ref ref" => k_extra "#6"
  k_with "#N_Ui call builtin:len cons nil" => k_extra "#7"
  k_with "#N_Ui setItem ref ref ref" => k_extra "#8"
  k_with "#N_Ui binaryOp Mult ref int" => k_extra "#9"
  k_with "#N_Ui C.notin" => k_extra "#16"
  k_with "#N_Ui getItem ref int" => k_extra "#20"
  k_with "#N_Ui subscriptTail Name UnaryOp ref int" => k_extra "#21"
  k_with "#N_Ui C.repl" => k_extra "#22"
  k_with "#N_Ui call ref" => k_extra "#23"
  k_with "#N_Ub C.enter" => k_extra "#1"
  k_with "#N_Ub k_enter" => k_extra "#2"
  k_with "#N_Ub k_ne" => k_extra "#12"
  k_with "#N_Ub C.room" => first | k_extra "#19" | k_extra "#4"
  k_with "#N_Ub subscriptTail Name Slice ref ref" => k_extra "#5"
  k_with "#N_Ub binaryOp Add ref ref" => k_extra "#6"
  k_with "#N_Ub call builtin:len cons nil" => k_extra "#7"
  k_with "#N_Ub setItem ref ref ref" => k_extra "#8"
  k_with "#N_Ub binaryOp Mult ref int" => k_extra "#9"
  k_with "#N_Ub C.notin" => first | k_extra "#24" | k_extra "#16"
  k_with "#N_Ub getItem ref int" => k_extra "#20"
  k_with "#N_Ub subscriptTail Name UnaryOp ref int" => k_extra "#21"
  k_with "#N_Ub C.repl" => k_extra "#25"
  k_with "#N_Ub call ref" => k_extra "#23"
  k_with "#N_Ub compareOp Eq ref ref" => first | k_extra "#26" | k_extra "#27"
  k_with "#N_Uc C.enter" => k_extra "#1"
  k_with "#N_Uc k_enter" => k_extra "#2"
  k_with "#N_Uc k_ne" => k_extra "#12"
  k_with "#N_Uc C.room" => first | k_extra "#19" | k_extra "#4"
  k_with "#N_Uc subscriptTail Name Slice ref ref" => k_extra "#5"
  k_with "#N_Uc binaryOp Add ref ref" => k_extra "#6"
  k_with "#N_Uc call builtin:len cons nil" => k_extra "#7"
  k_with "#N_Uc setItem ref ref ref" => k_extra "#8"
  k_with "#N_Uc binaryOp Mult ref int" => k_extra "#9"
  k_with "#N_Uc C.notin" => first | k_extra "#24" | k_extra "#16"
  k_with "#N_Uc getItem ref int" => k_extra "#20"
  k_with "#N_Uc subscriptTail Name UnaryOp ref int" => k_extra "#21"
  k_with "#N_Uc C.repl" => k_extra "#25"
  k_with "#N_Uc call ref" => first | k_extra "#28" | k_extra "#23"
  k_with "#N_Ud C.enter" => k_extra "#1"
  k_with "#N_Ud k_enter" => k_extra "#2"
  k_with "#N_Ud k_ne" => k_extra "#12"
  k_with "#N_Ud C.room" => first | k_extra "#19" | k_extra "#4"
  k_with "#N_Ud subscriptTail Name Slice ref ref" => k_extra "#5"
  k_with "#N_Ud binaryOp Add ref ref" => k_extra "#6"
  k_with "#N_Ud call builtin:len cons nil" => k_extra "#7"
  k_with "#N_Ud setItem ref ref ref" => k_extra "#8"
  k_with "#N_Ud binaryOp Mult ref int" => k_extra "#9"
  k_with "#N_Ud C.notin" => first | k_extra "#24" | k_extra "#16"
  k_with "#N_Ud getItem ref int" => k_extra "#20"
  k_with "#N_Ud subscriptTail Name UnaryOp ref int" => k_extra "#21"
  k_with "#N_Ud C.repl" => k_extra "#25"
  k_with "#N_Ud call ref" => first | k_extra "#28" | k_extra "#23"
  k_with "#N_Bq C.enter" => k_extra "#29"
  k_with "#N_Bq k_enter" => k_extra "#30"
  k_with "#N_Bq k_ne" => first | k_extra "#31" | k_extra "#12"
  k_with "#N_Bq C.room" => k_extra "#4"
  k_with "#N_Bq subscriptTail Name Slice ref ref" => k_extra "#5"
  k_with "#N_Bq binaryOp Add ref ref" => k_extra "#6"
  k_with "#N_Bq call builtin:len cons nil" => k_extra "#7"
  k_with "#N_Bq setItem ref ref ref" => k_extra "#8"
  k_with "#N_Bq binaryOp Mult ref int" => k_extra "#9"
  k_with "#N_Bq C.notin" => first | k_extra "#32" | k_extra "#16"
  k_with "#N_Bq execs cons" => k_extra "#33"
  k_with "#N_Bq C.repl" => k_extra "#34"
  k_with "#N_Bq call type:list" => k_extra "#35"
  k_with "#N_Bq setAttr ref" => first | k_extra "#36" | k_extra "#37" | k_extra "#38" | k_extra "#39" | k_extra "#40"
  k_with "#N_Tc C.enter" => k_extra "#29"
  k_with "#N_Tc k_enter" => k_extra "#30"
  k_with "#N_Tc k_ne" => first | k_extra "#31" | k_extra "#12"
  k_with "#N_Tc C.room" => k_extra "#4"
  k_with "#N_Tc subscriptTail Name Slice ref ref" => k_extra "#5"
  k_with "#N_Tc binaryOp Add ref ref" => k_extra "#6"
  k_with "#N_Tc call builtin:len cons nil" => k_extra "#7"
  k_with "#N_Tc setItem ref ref ref" => k_extra "#8"
  k_with "#N_Tc binaryOp Mult ref int" => k_extra "#9"
  k_with "#N_Tc C.notin" => first | k_extra "#32" | k_extra "#16"
  k_with "#N_Tc execs cons" => k_extra "#33"
  k_with "#N_Tc C.repl" => k_extra "#34"
  k_with "#N_Tc call type:list" => k_extra "#35"
  k_with "#N_Tc call ref" => first | k_extra "#41" | k_extra "#42" | k_extra "#43"
  k_with "#N_In C.enter" => k_extra "#29"
  k_with "#N_In k_enter" => k_extra "#30"
  k_with "#N_In k_ne" => first | k_extra "#31" | k_extra "#12"
  k_with "#N_In C.room" => k_extra "#4"
  k_with "#N_In subscriptTail Name Slice ref ref" => k_extra "#5"
  k_with "#N_In binaryOp Add ref ref" => k_extra "#6"
  k_with "#N_In call builtin:len cons nil" => k_extra "#7"
  k_with "#N_In setItem ref ref ref" => k_extra "#8"
  k_with "#N_In binaryOp Mult ref int" => k_extra "#9"
  k_with "#N_In C.notin" => first | k_extra "#32" | k_extra "#16"
  k_with "#N_In execs cons" => k_extra "#33"
  k_with "#N_In C.repl" => k_extra "#34"
  k_with "#N_In call type:list" => k_extra "#35"
  k_with "#N_In call ref" => first | k_extra "#44" | k_extra "#45" | k_extra "#46" | k_extra "#47" | k_extra "#48" | k_extra "#49" | k_extra "#50" | k_extra "#41" | k_extra "#42" | k_extra "#43"
  k_with "#N_In setAttr ref" => first | k_extra "#36" | k_extra "#37" | k_extra "#38" | k_extra "#39" | k_extra "#40"
  k_with "#N_Tg C.enter" => k_extra "#29"
  k_with "#N_Tg k_enter" => k_extra "#30"
  k_with "#N_Tg k_ne" => first | k_extra "#51" | k_extra "#31" | k_extra "#12"
  k_with "#N_Tg C.room" => k_extra "#4"
  k_with "#N_Tg subscriptTail Name Slice ref ref" => k_extra "#5"
  k_with "#N_Tg binaryOp Add ref ref" => k_extra "#6"
  k_with "#N_Tg call builtin:len cons nil" => k_extra "#7"
  k_with "#N_Tg setItem ref ref ref" => k_extra "#8"
  k_with "#N_Tg binaryOp Mult ref int" => k_extra "#9"
  k_with "#N_Tg C.notin" => first | k_extra "#52" | k_extra "#32" | k_extra "#16"
  k_with "#N_Tg execs cons" => k_extra "#33"
  k_with "#N_Tg C.repl" => first | k_extra "#53" | k_extra "#34"
  k_with "#N_Tg call type:list" => k_extra "#35"
  k_with "#N_Th C.enter" => k_extra "#29"
  k_with "#N_Th k_enter" => k_extra "#30"
  k_with "#N_Th k_ne" => first | k_extra "#54" | k_extra "#31" | k_extra "#12"
  k_with "#N_Th C.room" => k_extra "#4"
  k_with "#N_Th subscriptTail Name Slice ref ref" => k_extra "#5"
  k_with "#N_Th binaryOp Add ref ref" => k_extra "#6"
  k_with "#N_Th call builtin:len cons nil" => k_extra "#7"
  k_with "#N_Th setItem ref ref ref" => k_extra "#8"
  k_with "#N_Th binaryOp Mult ref int" => k_extra "#9"
  k_with "#N_Th C.notin" => first | k_extra "#52" | k_extra "#32" | k_extra "#16"
  k_with "#N_Th execs cons" => k_extra "#33"
  k_with "#N_Th C.repl" => first | k_extra "#53" | k_extra "#34"
  k_with "#N_Th call type:list" => k_extra "#35"
  k_with "#N_Th exec Assign cons ListComp" => k_extra "#55"
  k_with "#N_Th SrcZ" => k_extra "#56"
  k_with "#N_Th call ref" => first | k_extra "#57" | k_extra "#58" | k_extra "#59" | k_extra "#60" | k_extra "#61" | k_extra "#62"
  k_with "#N_To C.enter" => k_extra "#29"
  k_with "#N_To k_enter" => k_extra "#30"
  k_with "#N_To k_ne" => first | k_extra "#54" | k_extra "#31" | k_extra "#12"
  k_with "#N_To C.room" => k_extra "#4"
  k_with "#N_To subscriptTail Name Slice ref ref" => k_extra "#5"
  k_with "#N_To binaryOp Add ref ref" => k_extra "#6"
  k_with "#N_To call builtin:len cons nil" => k_extra "#7"
  k_with "#N_To setItem ref ref ref" => k_extra "#8"
  k_with "#N_To binaryOp Mult ref int" => k_extra "#9"
  k_with "#N_To C.notin" => first | k_extra "#52" | k_extra "#32" | k_extra "#16"
  k_with "#N_To execs cons" => k_extra "#33"
  k_with "#N_To C.repl" => first | k_extra "#63" | k_extra "#53" | k_extra "#34"
  k_with "#N_To call type:list" => k_extra "#35"
  k_with "#N_To setAttr ref" => first | k_extra "#36" | k_extra "#37" | k_extra "#38" | k_extra "#39" | k_extra "#40"
  k_with "#N_To k_all" => k_extra "#64"
  k_with "#N_To call ref" => first | k_extra "#65" | k_extra "#66"
  k_with "#N_De C.enter" => k_extra "#29"
  k_with "#N_De k_enter" => k_extra "#30"
  k_with "#N_De k_ne" => first | k_extra "#54" | k_extra "#31" | k_extra "#12"
  k_with "#N_De C.room" => k_extra "#4"
  k_with "#N_De subscriptTail Name Slice ref ref" => k_extra "#5"
  k_with "#N_De binaryOp Add ref ref" => k_extra "#6"
  k_with "#N_De call builtin:len cons nil" => k_extra "#7"
  k_with "#N_De setItem ref ref ref" => k_extra "#8"
  k_with "#N_De binaryOp Mult ref int" => k_extra "#9"
  k_with "#N_De C.notin" => first | k_extra "#52" | k_extra "#32" | k_extra "#16"
  k_with "#N_De execs cons" => k_extra "#33"
  k_with "#N_De C.repl" => first | k_extra "#67" | k_extra "#53" | k_extra "#34"
  k_with "#N_De call type:list" => k_extra "#35"
  k_with "#N_De call ref" => first | k_extra "#68" | k_extra "#69" | k_extra "#70" | k_extra "#71" | k_extra "#72" | k_extra "#47" | k_extra "#48" | k_extra "#49" | k_extra "#50"
  k_with "#N_De setAttr ref" => first | k_extra "#36" | k_extra "#37" | k_extra "#38" | k_extra "#39" | k_extra "#40"
  k_with "#N_De k_all" => k_extra "#64"
  k_with "#N_Us C.enter" => k_extra "#29"
  k_with "#N_Us k_enter" => k_extra "#30"
  k_with "#N_Us k_ne" => first | k_extra "#54" | k_extra "#31" | k_extra "#12"
  k_with "#N_Us C.room" => k_extra "#4"
  k_with "#N_Us subscriptTail Name Slice ref ref" => k_extra "#5"
  k_with "#N_Us binaryOp Add ref ref" => k_extra "#6"
  k_with "#N_Us call builtin:len cons nil" => k_extra "#7"
  k_with "#N_Us setItem ref ref ref" => k_extra "#8"
  k_with "#N_Us binaryOp Mult ref int" => k_extra "#9"
  k_with "#N_Us C.notin" => first | k_extra "#52" | k_extra "#32" | k_extra "#16"
  k_with "#N_Us execs cons" => k_extra "#33"
  k_with "#N_Us C.repl" => first | k_extra "#53" | k_extra "#34"
  k_with "#N_Us call type:list" => k_extra "#35"
  k_with "#N_Us exec While BoolOp" => k_extra "#73"
  k_with "#N_Us getItem ref int" => k_extra "#74"
  k_with "#N_Us subscriptTail" => k_extra "#75"
  k_with "#N_Us compareOp Eq ref ref" => k_extra "#76"
  k_with "#N_Us compareOp NotEq ref ref" => k_extra "#77"
  k_with "#N_Ma C.enter" => k_extra "#29"
  k_with "#N_Ma k_enter" => k_extra "#30"
  k_with "#N_Ma k_ne" => first | k_extra "#54" | k_extra "#31" | k_extra "#12"
  k_with "#N_Ma C.room" => k_extra "#4"
  k_with "#N_Ma subscriptTail Name Slice ref ref" => k_extra "#5"
  k_with "#N_Ma binaryOp Add ref ref" => k_extra "#6"
  k_with "#N_Ma call builtin:len cons nil" => k_extra "#7"
  k_with "#N_Ma setItem ref ref ref" => k_extra "#8"
  k_with "#N_Ma binaryOp Mult ref int" => k_extra "#9"
  k_with "#N_Ma C.notin" => first | k_extra "#52" | k_extra "#32" | k_extra "#16"
  k_with "#N_Ma execs cons" => k_extra "#33"
  k_with "#N_Ma C.repl" => first | k_extra "#53" | k_extra "#34"
  k_with "#N_Ma call type:list" => k_extra "#35"
  k_with "#N_Ma exec While BoolOp" => k_extra "#73"
  k_with "#N_Ma getItem ref int" => k_extra "#74"
  k_with "#N_Ma subscriptTail" => k_extra "#75"
  k_with "#N_Ma compareOp Eq ref ref" => k_extra "#76"
  k_with "#N_Ma compareOp NotEq ref ref" => k_extra "#77"
  k_with "#N_Ip C.enter" => k_extra "#29"
  k_with "#N_Ip k_enter" => k_extra "#30"
  k_with "#N_Ip k_ne" => first | k_extra "#54" | k_extra "#31" | k_extra "#12"
  k_with "#N_Ip C.room" => k_extra "#4"
  k_with "#N_Ip subscriptTail Name Slice ref ref" => k_extra "#5"
  k_with "#N_Ip binaryOp Add ref ref" => k_extra "#6"
  k_with "#N_Ip call builtin:len cons nil" => k_extra "#7"
  k_with "#N_Ip setItem ref ref ref" => k_extra "#8"
  k_with "#N_Ip binaryOp Mult ref int" => k_extra "#9"
  k_with "#N_Ip C.notin" => first | k_extra "#52" | k_extra "#32" | k_extra "#16"
  k_with "#N_Ip execs cons" => k_extra "#33"
  k_with "#N_Ip C.repl" => first | k_extra "#67" | k_extra "#53" | k_extra "#34"
  k_with "#N_Ip call type:list" => k_extra "#35"
  k_with "#N_Ip setAttr ref" => first | k_extra "#36" | k_extra "#37" | k_extra "#38" | k_extra "#39" | k_extra "#40"
  k_with "#N_Ip call ref" => first | k_extra "#78" | k_extra "#68" | k_extra "#69" | k_extra "#62"
  k_with "#N_Ip k_all" => k_extra "#64"
  k_with "#N_Go C.enter" => k_extra "#29"
  k_with "#N_Go k_enter" => k_extra "#30"
  k_with "#N_Go k_ne" => first | k_extra "#54" | k_extra "#31" | k_extra "#12"
  k_with "#N_Go C.room" => k_extra "#4"
  k_with "#N_Go subscriptTail Name Slice ref ref" => k_extra "#5"
  k_with "#N_Go binaryOp Add ref ref" => k_extra "#6"
  k_with "#N_Go call builtin:len cons nil" => k_extra "#7"
  k_with "#N_Go setItem ref ref ref" => k_extra "#8"
  k_with "#N_Go binaryOp Mult ref int" => k_extra "#9"
  k_with "#N_Go C.notin" => first | k_extra "#52" | k_extra "#32" | k_extra "#16"
  k_with "#N_Go execs cons" => k_extra "#33"
  k_with "#N_Go C.repl" => first | k_extra "#53" | k_extra "#34"
  k_with "#N_Go call type:list" => k_extra "#35"
  k_with "#N_Go setAttr ref" => first | k_extra "#36" | k_extra "#37" | k_extra "#38" | k_extra "#39" | k_extra "#40"
  k_with "#N_Ur C.enter" => k_extra "#29"
  k_with "#N_Ur k_enter" => k_extra "#30"
  k_with "#N_Ur k_ne" => first | k_extra "#54" | k_extra "#31" | k_extra "#12"
  k_with "#N_Ur C.room" => k_extra "#4"
  k_with "#N_Ur subscriptTail Name Slice ref ref" => k_extra "#5"
  k_with "#N_Ur binaryOp Add ref ref" => k_extra "#6"
  k_with "#N_Ur call builtin:len cons nil" => k_extra "#7"
  k_with "#N_Ur setItem ref ref ref" => k_extra "#8"
  k_with "#N_Ur binaryOp Mult ref int" => k_extra "#9"
  k_with "#N_Ur C.notin" => first | k_extra "#52" | k_extra "#32" | k_extra "#16"
  k_with "#N_Ur execs cons" => k_extra "#33"
  k_with "#N_Ur C.repl" => first | k_extra "#67" | k_extra "#53" | k_extra "#34"
  k_with "#N_Ur call type:list" => k_extra "#35"
  k_with "#N_Ur setAttr ref" => first | k_extra "#36" | k_extra "#37" | k_extra "#38" | k_extra "#39" | k_extra "#40"
  k_with "#N_Ur k_all" => k_extra "#64"
  k_with "#N_Ur call ref" => first | k_extra "#79" | k_extra "#80" | k_extra "#81" | k_extra "#82" | k_extra "#68" | k_extra "#69"
  k_with "#N_Ur exec While BoolOp" => k_extra "#73"
  k_with "#N_Ur getItem ref int" => k_extra "#74"
  k_with "#N_Ur subscriptTail" => k_extra "#75"
  k_with "#N_Ur compareOp Eq ref ref" => k_extra "#76"
  k_with "#N_Ur compareOp NotEq ref ref" => k_extra "#77"
  k_with "#N_Ux C.enter" => k_extra "#29"
  k_with "#N_Ux k_enter" => k_extra "#30"
  k_with "#N_Ux k_ne" => first | k_extra "#54" | k_extra "#31" | k_extra "#12"
  k_with "#N_Ux C.room" => k_extra "#4"
  k_with "#N_Ux subscriptTail Name Slice ref ref" => k_extra "#5"
  k_with "#N_Ux binaryOp Add ref ref" => k_extra "#6"
  k_with "#N_Ux call builtin:len cons nil" => k_extra "#7"
  k_with "#N_Ux setItem ref ref ref" => k_extra "#8"
  k_with "#N_Ux binaryOp Mult ref int" => k_extra "#9"
  k_with "#N_Ux C.notin" => first | k_extra "#52" | k_extra "#32" | k_extra "#16"
  k_with "#N_Ux execs cons" => k_extra "#33"
  k_with "#N_Ux C.repl" => first | k_extra "#67" | k_extra "#53" | k_extra "#34"
  k_with "#N_Ux call type:list" => k_extra "#35"
  k_with "#N_Ux setAttr ref" => first | k_extra "#36" | k_extra "#37" | k_extra "#38" | k_extra "#39" | k_extra "#40"
  k_with "#N_Ux k_all" => k_extra "#64"
  k_with "#N_Ux call ref" => first | k_extra "#83" | k_extra "#79" | k_extra "#80" | k_extra "#81" | k_extra "#82" | k_extra "#68" | k_extra "#69"
  k_with "#N_Ux exec While BoolOp" => k_extra "#73"
  k_with "#N_Ux getItem ref int" => k_extra "#74"
  k_with "#N_Ux subscriptTail" => k_extra "#75"
  k_with "#N_Ux compareOp Eq ref ref" => k_extra "#76"
  k_with "#N_Ux compareOp NotEq ref ref" => k_extra "#77"
  k_with "#N_Ux pyIter ref" => k_extra "#84"
  k_with "#N_Uz C.enter" => k_extra "#29"
  k_with "#N_Uz k_enter" => k_extra "#30"
  k_with "#N_Uz k_ne" => first | k_extra "#54" | k_extra "#31" | k_extra "#12"
  k_with "#N_Uz C.room" => k_extra "#4"
  k_with "#N_Uz subscriptTail Name Slice ref ref" => k_extra "#5"
  k_with "#N_Uz binaryOp Add ref ref" => k_extra "#6"
  k_with "#N_Uz call builtin:len cons nil" => k_extra "#7"
  k_with "#N_Uz setItem ref ref ref" => k_extra "#8"
  k_with "#N_Uz binaryOp Mult ref int" => k_extra "#9"
  k_with "#N_Uz C.notin" => first | k_extra "#52" | k_extra "#32" | k_extra "#16"
  k_with "#N_Uz execs cons" => k_extra "#33"
  k_with "#N_Uz C.repl" => first | k_extra "#67" | k_extra "#53" | k_extra "#34"
  k_with "#N_Uz call type:list" => k_extra "#35"
  k_with "#N_Uz setAttr ref" => first | k_extra "#36" | k_extra "#37" | k_extra "#38" | k_extra "#39" | k_extra "#40"
  k_with "#N_Uz k_all" => k_extra "#64"
  k_with "#N_Uz call ref" => first | k_extra "#85" | k_extra "#83" | k_extra "#79" | k_extra "#80" | k_extra "#81" | k_extra "#82" | k_extra "#68" | k_extra "#69"
  k_with "#N_Uz exec While BoolOp" => k_extra "#73"
  k_with "#N_Uz getItem ref int" => k_extra "#74"
  k_with "#N_Uz subscriptTail" => k_extra "#75"
  k_with "#N_Uz compareOp Eq ref ref" => k_extra "#76"
  k_with "#N_Uz compareOp NotEq ref ref" => k_extra "#77"
  k_with "#N_Uz pyIter ref" => k_extra "#84"
  k_with "#N_Uz assign Tuple" => k_extra "#86"
  k_with "#N_Rn C.enter" => k_extra "#29"
  k_with "#N_Rn k_enter" => k_extra "#30"
  k_with "#N_Rn k_ne" => first | k_extra "#54" | k_extra "#31" | k_extra "#12"
  k_with "#N_Rn C.room" => k_extra "#4"
  k_with "#N_Rn subscriptTail Name Slice ref ref" => k_extra "#5"
  k_with "#N_Rn binaryOp Add ref ref" => k_extra "#6"
  k_with "#N_Rn call builtin:len cons nil" => k_extra "#7"
  k_with "#N_Rn setItem ref ref ref" => k_extra "#8"
  k_with "#N_Rn binaryOp Mult ref int" => k_extra "#9"
  k_with "#N_Rn C.notin" => first | k_extra "#52" | k_extra "#32" | k_extra "#16"
  k_with "#N_Rn execs cons" => k_extra "#33"
  k_with "#N_Rn C.repl" => first | k_extra "#67" | k_extra "#53" | k_extra "#34"
  k_with "#N_Rn call type:list" => k_extra "#35"
  k_with "#N_Rn k_all" => k_extra "#64"
  k_with "#N_Rn call ref" => first | k_extra "#62" | k_extra "#68" | k_extra "#69"
  k_with "#N_Rn exec While BoolOp" => k_extra "#73"
  k_with "#N_Rn getItem ref int" => k_extra "#74"
  k_with "#N_Rn subscriptTail" => k_extra "#75"
  k_with "#N_Rn compareOp Eq ref ref" => k_extra "#76"
  k_with "#N_Rn compareOp NotEq ref ref" => k_extra "#77"
  k_with "#N_Rx C.enter" => k_extra "#29"
  k_with "#N_Rx k_enter" => k_extra "#30"
  k_with "#N_Rx k_ne" => first | k_extra "#54" | k_extra "#31" | k_extra "#12"
  k_with "#N_Rx C.room" => k_extra "#4"
  k_with "#N_Rx subscriptTail Name Slice ref ref" => k_extra "#5"
  k_with "#N_Rx binaryOp Add ref ref" => k_extra "#6"
  k_with "#N_Rx call builtin:len cons nil" => k_extra "#7"
  k_with "#N_Rx setItem ref ref ref" => k_extra "#8"
  k_with "#N_Rx binaryOp Mult ref int" => k_extra "#9"
  k_with "#N_Rx C.notin" => first | k_extra "#52" | k_extra "#32" | k_extra "#16"
  k_with "#N_Rx execs cons" => k_extra "#33"
  k_with "#N_Rx C.repl" => first | k_extra "#67" | k_extra "#53" | k_extra "#34"
  k_with "#N_Rx call type:list" => k_extra "#35"
  k_with "#N_Rx k_all" => first | k_extra "#87" | k_extra "#64"
  k_with "#N_Rx call ref" => first | k_extra "#62" | k_extra "#68" | k_extra "#69"
  k_with "#N_Rx eval ListComp" => k_extra "#88"
  k_with "#N_Rx CompSrc" => k_extra "#89"
  k_with "#N_Rx CompEnd" => k_extra "#89"
  k_with "#N_Rx compareOp Eq ref ref" => k_extra "#90"
  k_with "#N_Uu C.enter" => k_extra "#29"
  k_with "#N_Uu k_enter" => k_extra "#30"
  k_with "#N_Uu k_ne" => first | k_extra "#54" | k_extra "#31" | k_extra "#12"
  k_with "#N_Uu C.room" => k_extra "#4"
  k_with "#N_Uu subscriptTail Name Slice ref ref" => k_extra "#5"
  k_with "#N_Uu binaryOp Add ref ref" => k_extra "#6"
  k_with "#N_Uu call builtin:len cons nil" => k_extra "#7"
  k_with "#N_Uu setItem ref ref ref" => k_extra "#8"
  k_with "#N_Uu binaryOp Mult ref int" => k_extra "#9"
  k_with "#N_Uu C.notin" => first | k_extra "#52" | k_extra "#32" | k_extra "#16"
  k_with "#N_Uu execs cons" => k_extra "#33"
  k_with "#N_Uu C.repl" => first | k_extra "#67" | k_extra "#53" | k_extra "#34"
  k_with "#N_Uu call type:list" => k_extra "#35"
  k_with "#N_Uu setAttr ref" => first | k_extra "#36" | k_extra "#37" | k_extra "#38" | k_extra "#39" | k_extra "#40"
  k_with "#N_Uu k_all" => k_extra "#64"
  k_with "#N_Uu call ref" => first | k_extra "#91" | k_extra "#68" | k_extra "#69"
  k_with "#N_Uu exec While BoolOp" => k_extra "#73"
  k_with "#N_Uu getItem ref int" => k_extra "#74"
  k_with "#N_Uu subscriptTail" => k_extra "#75"
  k_with "#N_Uu compareOp Eq ref ref" => k_extra "#76"
  k_with "#N_Uu compareOp NotEq ref ref" => k_extra "#77"
  k_with "#N_Dr C.enter" => k_extra "#29"
  k_with "#N_Dr k_enter" => k_extra "#30"
  k_with "#N_Dr k_ne" => first | k_extra "#54" | k_extra "#31" | k_extra "#12"
  k_with "#N_Dr C.room" => k_extra "#4"
  k_with "#N_Dr subscriptTail Name Slice ref ref" => k_extra "#5"
  k_with "#N_Dr binaryOp Add ref ref" => k_extra "#6"
  k_with "#N_Dr call builtin:len cons nil" => k_extra "#7"
  k_with "#N_Dr setItem ref ref ref" => k_extra "#8"
  k_with "#N_Dr binaryOp Mult ref int" => k_extra "#9"
  k_with "#N_Dr C.notin" => first | k_extra "#52" | k_extra "#32" | k_extra "#16"
  k_with "#N_Dr execs cons" => k_extra "#33"
  k_with "#N_Dr C.repl" => first | k_extra "#67" | k_extra "#53" | k_extra "#34"
  k_with "#N_Dr call type:list" => k_extra "#35"
  k_with "#N_Dr k_all" => k_extra "#64"
  k_with "#N_Dr call ref" => first | k_extra "#68" | k_extra "#69"
  k_with "#N_Dr exec While BoolOp" => k_extra "#73"
  k_with "#N_Dr getItem ref int" => k_extra "#74"
  k_with "#N_Dr subscriptTail" => first | k_extra "#92" | k_extra "#75"
  k_with "#N_Dr compareOp Eq ref ref" => k_extra "#76"
  k_with "#N_Dr compareOp NotEq ref ref" => first | k_extra "#93" | k_extra "#77"
  k_with "#N_Dr call builtin:list.pop" => k_extra "#94"
  k_with "#N_Dk C.enter" => k_extra "#29"
  k_with "#N_Dk k_enter" => k_extra "#30"
  k_with "#N_Dk k_ne" => first | k_extra "#54" | k_extra "#31" | k_extra "#12"
  k_with "#N_Dk C.room" => k_extra "#4"
  k_with "#N_Dk setItem ref ref ref" => k_extra "#8"
  k_with "#N_Dk binaryOp Mult ref int" => k_extra "#9"
  k_with "#N_Dk C.notin" => first | k_extra "#52" | k_extra "#32" | k_extra "#16"
  k_with "#N_Dk execs cons" => k_extra "#33"
  k_with "#N_Dk C.repl" => first | k_extra "#53" | k_extra "#34"
  k_with "#N_Dk call type:list" => k_extra "#35"
  k_with "#N_Dk eval ListComp" => k_extra "#95"
  k_with "#N_Dk CompSrcT" => k_extra "#89"
  k_with "#N_Dk CompEnd" => k_extra "#89"
  k_with "#N_Cm C.enter" => k_extra "#29"
  k_with "#N_Cm k_enter" => k_extra "#30"
  k_with "#N_Cm k_ne" => first | k_extra "#54" | k_extra "#31" | k_extra "#12"
  k_with "#N_Cm C.room" => k_extra "#4"
  k_with "#N_Cm subscriptTail Name Slice ref ref" => first | k_extra "#96" | k_extra "#5"
  k_with "#N_Cm binaryOp Add ref ref" => k_extra "#6"
  k_with "#N_Cm call builtin:len cons nil" => k_extra "#7"
  k_with "#N_Cm setItem ref ref ref" => k_extra "#8"
  k_with "#N_Cm binaryOp Mult ref int" => k_extra "#9"
  k_with "#N_Cm C.notin" => first | k_extra "#52" | k_extra "#32" | k_extra "#16"
  k_with "#N_Cm execs cons" => k_extra "#33"
  k_with "#N_Cm C.repl" => first | k_extra "#67" | k_extra "#53" | k_extra "#34"
  k_with "#N_Cm call type:list" => k_extra "#35"
  k_with "#N_Cm setAttr ref" => first | k_extra "#36" | k_extra "#37" | k_extra "#38" | k_extra "#39" | k_extra "#40"
  k_with "#N_Cm k_all" => k_extra "#64"
  k_with "#N_Cm call ref" => first | k_extra "#97" | k_extra "#98" | k_extra "#99" | k_extra "#100" | k_extra "#79" | k_extra "#80" | k_extra "#81" | k_extra "#82" | k_extra "#68" | k_extra "#69"
  k_with "#N_Cm exec While BoolOp" => k_extra "#73"
  k_with "#N_Cm getItem ref int" => k_extra "#74"
  k_with "#N_Cm subscriptTail" => k_extra "#75"
  k_with "#N_Cm compareOp Eq ref ref" => k_extra "#76"
  k_with "#N_Cm compareOp NotEq ref ref" => k_extra "#77"
  k_with "#N_Bi C.enter" => k_extra "#29"
  k_with "#N_Bi k_enter" => k_extra "#30"
  k_with "#N_Bi k_ne" => first | k_extra "#54" | k_extra "#31" | k_extra "#12"
  k_with "#N_Bi C.room" => first | k_extra "#101" | k_extra "#4"
  k_with "#N_Bi subscriptTail Name Slice ref ref" => k_extra "#5"
  k_with "#N_Bi binaryOp Add ref ref" => k_extra "#6"
  k_with "#N_Bi call builtin:len cons nil" => k_extra "#7"
  k_with "#N_Bi setItem ref ref ref" => k_extra "#8"
  k_with "#N_Bi binaryOp Mult ref int" => k_extra "#9"
  k_with "#N_Bi C.notin" => first | k_extra "#52" | k_extra "#32" | k_extra "#16"
  k_with "#N_Bi execs cons" => k_extra "#33"
  k_with "#N_Bi C.repl" => first | k_extra "#53" | k_extra "#34"
  k_with "#N_Bi call type:list" => k_extra "#35"
  k_with "#N_Bi call ref" => k_extra "#62"
  k_with "#N_Bi setAttr ref" => k_extra "#102"
  k_with "#N_Ri C.enter" => k_extra "#29"
  k_with "#N_Ri k_enter" => k_extra "#30"
  k_with "#N_Ri k_ne" => first | k_extra "#54" | k_extra "#31" | k_extra "#12"
  k_with "#N_Ri C.room" => k_extra "#4"
  k_with "#N_Ri subscriptTail Name Slice ref ref" => k_extra "#5"
  k_with "#N_Ri binaryOp Add ref ref" => k_extra "#6"
  k_with "#N_Ri call builtin:len cons nil" => k_extra "#7"
  k_with "#N_Ri setItem ref ref ref" => k_extra "#8"
  k_with "#N_Ri binaryOp Mult ref int" => k_extra "#9"
  k_with "#N_Ri C.notin" => first | k_extra "#52" | k_extra "#32" | k_extra "#16"
  k_with "#N_Ri execs cons" => k_extra "#33"
  k_with "#N_Ri C.repl" => first | k_extra "#53" | k_extra "#34"
  k_with "#N_Ri call type:list" => k_extra "#35"
  k_with "#N_Ri call ref" => k_extra "#62"
  k_with "#N_I0 C.enter" => k_extra "#29"
  k_with "#N_I0 k_enter" => k_extra "#30"
  k_with "#N_I0 k_ne" => first | k_extra "#54" | k_extra "#31" | k_extra "#12"
  k_with "#N_I0 C.room" => k_extra "#4"
  k_with "#N_I0 subscriptTail Name Slice ref ref" => k_extra "#5"
  k_with "#N_I0 binaryOp Add ref ref" => k_extra "#6"
  k_with "#N_I0 call builtin:len cons nil" => k_extra "#7"
  k_with "#N_I0 setItem ref ref ref" => k_extra "#8"
  k_with "#N_I0 binaryOp Mult ref int" => k_extra "#9"
  k_with "#N_I0 C.notin" => first | k_extra "#52" | k_extra "#32" | k_extra "#16"
  k_with "#N_I0 execs cons" => k_extra "#33"
  k_with "#N_I0 C.repl" => first | k_extra "#53" | k_extra "#34"
  k_with "#N_I0 call type:list" => k_extra "#35"
  k_with "#N_I0 call builtin:sorted" => k_extra "#17"
  k_with "#N_I0 getItem ref int" => k_extra "#18"
  k_with "#N_I1 C.enter" => k_extra "#29"
  k_with "#N_I1 k_enter" => k_extra "#30"
  k_with "#N_I1 k_ne" => first | k_extra "#54" | k_extra "#31" | k_extra "#12"
  k_with "#N_I1 C.room" => k_extra "#4"
  k_with "#N_I1 subscriptTail Name Slice ref ref" => k_extra "#5"
  k_with "#N_I1 binaryOp Add ref ref" => k_extra "#6"
  k_with "#N_I1 call builtin:len cons nil" => k_extra "#7"
  k_with "#N_I1 setItem ref ref ref" => k_extra "#8"
  k_with "#N_I1 binaryOp Mult ref int" => k_extra "#9"
  k_with "#N_I1 C.notin" => first | k_extra "#52" | k_extra "#32" | k_extra "#16"
  k_with "#N_I1 execs cons" => k_extra "#33"
  k_with "#N_I1 C.repl" => first | k_extra "#53" | k_extra "#34"
  k_with "#N_I1 call type:list" => k_extra "#35"
  k_with "#N_I1 call ref" => first | k_extra "#103" | k_extra "#104" | k_extra "#70" | k_extra "#71" | k_extra "#72" | k_extra "#47" | k_extra "#48" | k_extra "#49" | k_extra "#50"
  k_with "#N_I1 setAttr ref" => first | k_extra "#36" | k_extra "#37" | k_extra "#38" | k_extra "#39" | k_extra "#40"
  k_with "#N_Sn C.enter" => k_extra "#29"
  k_with "#N_Sn k_enter" => k_extra "#30"
  k_with "#N_Sn k_ne" => first | k_extra "#54" | k_extra "#31" | k_extra "#12"
  k_with "#N_Sn C.room" => k_extra "#4"
  k_with "#N_Sn subscriptTail Name Slice ref ref" => k_extra "#5"
  k_with "#N_Sn binaryOp Add ref ref" => k_extra "#6"
  k_with "#N_Sn call builtin:len cons nil" => k_extra "#7"
  k_with "#N_Sn setItem ref ref ref" => k_extra "#8"
  k_with "#N_Sn binaryOp Mult ref int" => k_extra "#9"
  k_with "#N_Sn C.notin" => first | k_extra "#52" | k_extra "#32" | k_extra "#16"
  k_with "#N_Sn execs cons" => k_extra "#33"
  k_with "#N_Sn C.repl" => first | k_extra "#53" | k_extra "#34"
  k_with "#N_Sn call type:list" => k_extra "#35"
  k_with "#N_Gr C.enter" => k_extra "#29"
  k_with "#N_Gr k_enter" => k_extra "#30"
  k_with "#N_Gr k_ne" => first | k_extra "#54" | k_extra "#31" | k_extra "#12"
  k_with "#N_Gr C.room" => k_extra "#4"
  k_with "#N_Gr subscriptTail Name Slice ref ref" => k_extra "#5"
  k_with "#N_Gr binaryOp Add ref ref" => k_extra "#6"
  k_with "#N_Gr call builtin:len cons nil" => k_extra "#7"
  k_with "#N_Gr setItem ref ref ref" => k_extra "#8"
  k_with "#N_Gr binaryOp Mult ref int" => k_extra "#9"
  k_with "#N_Gr C.notin" => first | k_extra "#52" | k_extra "#32" | k_extra "#16"
  k_with "#N_Gr execs cons" => k_extra "#33"
  k_with "#N_Gr C.repl" => first | k_extra "#67" | k_extra "#53" | k_extra "#34"
  k_with "#N_Gr call type:list" => k_extra "#35"
  k_with "#N_Gr k_all" => k_extra "#64"
  k_with "#N_Gr call ref" => first | k_extra "#105" | k_extra "#106" | k_extra "#107" | k_extra "#68" | k_extra "#69"
  k_with "#N_Gr exec While BoolOp" => k_extra "#73"
  k_with "#N_Gr getItem ref int" => k_extra "#74"
  k_with "#N_Gr subscriptTail" => k_extra "#75"
  k_with "#N_Gr compareOp Eq ref ref" => k_extra "#76"
  k_with "#N_Gr compareOp NotEq ref ref" => k_extra "#77"
  k_with "#N_L1 C.enter" => k_extra "#29"
  k_with "#N_L1 k_enter" => k_extra "#30"
  k_with "#N_L1 k_ne" => first | k_extra "#54" | k_extra "#31" | k_extra "#12"
  k_with "#N_L1 C.room" => k_extra "#4"
  k_with "#N_L1 subscriptTail Name Slice ref ref" => first | k_extra "#96" | k_extra "#5"
  k_with "#N_L1 binaryOp Add ref ref" => k_extra "#6"
  k_with "#N_L1 call builtin:len cons nil" => k_extra "#7"
  k_with "#N_L1 setItem ref ref ref" => k_extra "#8"
  k_with "#N_L1 binaryOp Mult ref int" => k_extra "#9"
  k_with "#N_L1 C.notin" => first | k_extra "#52" | k_extra "#32" | k_extra "#16"
  k_with "#N_L1 execs cons" => first | k_extra "#108" | k_extra "#33"
  k_with "#N_L1 C.repl" => first | k_extra "#67" | k_extra "#53" | k_extra "#34"
  k_with "#N_L1 call type:list" => k_extra "#35"
  k_with "#N_L1 setAttr ref" => first | k_extra "#36" | k_extra "#37" | k_extra "#38" | k_extra "#39" | k_extra "#40"
  k_with "#N_L1 k_all" => k_extra "#64"
  k_with "#N_L1 call ref" => first | k_extra "#109" | k_extra "#110" | k_extra "#111" | k_extra "#112" | k_extra "#113" | k_extra "#97" | k_extra "#98" | k_extra "#99" | k_extra "#100" | k_extra "#62" | k_extra "#68" | k_extra "#69"
  k_with "#N_L3 C.enter" => k_extra "#29"
  k_with "#N_L3 k_enter" => k_extra "#30"
  k_with "#N_L3 k_ne" => first | k_extra "#54" | k_extra "#31" | k_extra "#12"
  k_with "#N_L3 C.room" => k_extra "#4"
  k_with "#N_L3 subscriptTail Name Slice ref ref" => first | k_extra "#96" | k_extra "#5"
  k_with "#N_L3 binaryOp Add ref ref" => k_extra "#6"
  k_with "#N_L3 call builtin:len cons nil" => first | k_extra "#114" | k_extra "#7"
  k_with "#N_L3 setItem ref ref ref" => k_extra "#8"
  k_with "#N_L3 binaryOp Mult ref int" => k_extra "#9"
  k_with "#N_L3 C.notin" => first | k_extra "#52" | k_extra "#32" | k_extra "#16"
  k_with "#N_L3 execs cons" => k_extra "#33"
  k_with "#N_L3 C.repl" => first | k_extra "#115" | k_extra "#67" | k_extra "#53" | k_extra "#34"
  k_with "#N_L3 call type:list" => k_extra "#35"
  k_with "#N_L3 setAttr ref" => first | k_extra "#36" | k_extra "#37" | k_extra "#38" | k_extra "#39" | k_extra "#40"
  k_with "#N_L3 k_all" => first | k_extra "#116" | k_extra "#64"
  k_with "#N_L3 call ref" => first | k_extra "#117" | k_extra "#97" | k_extra "#98" | k_extra "#99" | k_extra "#100" | k_extra "#60" | k_extra "#118" | k_extra "#68" | k_extra "#69"
  k_with "#N_L5 C.enter" => k_extra "#29"
  k_with "#N_L5 k_enter" => k_extra "#30"
  k_with "#N_L5 k_ne" => first | k_extra "#54" | k_extra "#31" | k_extra "#12"
  k_with "#N_L5 C.room" => k_extra "#4"
  k_with "#N_L5 subscriptTail Name Slice ref ref" => first | k_extra "#96" | k_extra "#5"
  k_with "#N_L5 binaryOp Add ref ref" => k_extra "#6"
  k_with "#N_L5 call builtin:len cons nil" => first | k_extra "#114" | k_extra "#7"
  k_with "#N_L5 setItem ref ref ref" => k_extra "#8"
  k_with "#N_L5 binaryOp Mult ref int" => k_extra "#9"
  k_with "#N_L5 execs cons" => k_extra "#33"
  k_with "#N_L5 call type:list" => k_extra "#35"
  k_with "#N_L5 setAttr ref" => first | k_extra "#36" | k_extra "#37" | k_extra "#38" | k_extra "#39" | k_extra "#40"
  k_with "#N_L5 C.notin" => k_extra "#52"
  k_with "#N_L5 k_all" => first | k_extra "#116" | k_extra "#64"
  k_with "#N_L5 call ref" => first | k_extra "#97" | k_extra "#98" | k_extra "#99" | k_extra "#100" | k_extra "#118" | k_extra "#68" | k_extra "#69"
  k_with "#N_L5 C.repl" => k_extra "#115"
  k_with "#N_L5 pyIter ref" => k_extra "#119"
  k_with "#N_L2 C.enter" => k_extra "#29"
  k_with "#N_L2 k_enter" => k_extra "#30"
  k_with "#N_L2 k_ne" => first | k_extra "#54" | k_extra "#31" | k_extra "#12"
  k_with "#N_L2 C.room" => k_extra "#4"
  k_with "#N_L2 subscriptTail Name Slice ref ref" => first | k_extra "#96" | k_extra "#5"
  k_with "#N_L2 binaryOp Add ref ref" => k_extra "#6"
  k_with "#N_L2 call builtin:len cons nil" => k_extra "#7"
  k_with "#N_L2 setItem ref ref ref" => k_extra "#8"
  k_with "#N_L2 binaryOp Mult ref int" => k_extra "#9"
  k_with "#N_L2 C.notin" => first | k_extra "#52" | k_extra "#32" | k_extra "#16"
  k_with "#N_L2 execs cons" => k_extra "#33"
  k_with "#N_L2 C.repl" => first | k_extra "#67" | k_extra "#53" | k_extra "#34"
  k_with "#N_L2 call type:list" => k_extra "#35"
  k_with "#N_L2 setAttr ref" => first | k_extra "#36" | k_extra "#37" | k_extra "#38" | k_extra "#39" | k_extra "#40"
  k_with "#N_L2 k_all" => k_extra "#64"
  k_with "#N_L2 call ref" => first | k_extra "#97" | k_extra "#98" | k_extra "#99" | k_extra "#100" | k_extra "#60" | k_extra "#68" | k_extra "#69"
  k_with "#N_L2 exec For Name Call cons nil" => k_extra "#119"
  k_with "#N_L7 C.enter" => k_extra "#29"
  k_with "#N_L7 k_enter" => k_extra "#30"
  k_with "#N_L7 k_ne" => first | k_extra "#54" | k_extra "#31" | k_extra "#12"
  k_with "#N_L7 C.room" => k_extra "#4"
  k_with "#N_L7 subscriptTail Name Slice ref ref" => k_extra "#5"
  k_with "#N_L7 binaryOp Add ref ref" => k_extra "#6"
  k_with "#N_L7 call builtin:len cons nil" => k_extra "#7"
  k_with "#N_L7 setItem ref ref ref" => k_extra "#8"
  k_with "#N_L7 binaryOp Mult ref int" => k_extra "#9"
  k_with "#N_L7 execs cons" => k_extra "#33"
  k_with "#N_L7 call type:list" => k_extra "#35"
  k_with "#N_L7 C.notin" => k_extra "#52"
  k_with "#N_L7 call ref" => first | k_extra "#120" | k_extra "#121" | k_extra "#60" | k_extra "#118"
  k_with "#N_L7 k_all" => k_extra "#122"
  k_with "#N_L7 C.repl" => k_extra "#123"
  k_with "#N_L7 compareOp NotEq ref ref" => k_extra "#124"
  k_with "#N_L7 subscriptTail" => k_extra "#125"
  k_with "#N_L8 C.enter" => k_extra "#29"
  k_with "#N_L8 k_enter" => k_extra "#30"
  k_with "#N_L8 k_ne" => first | k_extra "#54" | k_extra "#31" | k_extra "#12"
  k_with "#N_L8 C.room" => k_extra "#4"
  k_with "#N_L8 subscriptTail Name Slice ref ref" => k_extra "#5"
  k_with "#N_L8 binaryOp Add ref ref" => k_extra "#6"
  k_with "#N_L8 call builtin:len cons nil" => k_extra "#7"
  k_with "#N_L8 setItem ref ref ref" => k_extra "#8"
  k_with "#N_L8 binaryOp Mult ref int" => k_extra "#9"
  k_with "#N_L8 execs cons" => k_extra "#33"
  k_with "#N_L8 call type:list" => k_extra "#35"
  k_with "#N_L8 C.notin" => k_extra "#52"
  k_with "#N_L8 call ref" => first | k_extra "#120" | k_extra "#121" | k_extra "#118"
  k_with "#N_L8 k_all" => k_extra "#122"
  k_with "#N_L8 C.repl" => k_extra "#123"
  k_with "#N_L8 compareOp NotEq ref ref" => k_extra "#124"
  k_with "#N_L8 subscriptTail" => k_extra "#125"
  k_with "#N_L9 C.enter" => k_extra "#29"
  k_with "#N_L9 k_enter" => k_extra "#30"
  k_with "#N_L9 k_ne" => first | k_extra "#54" | k_extra "#31" | k_extra "#12"
  k_with "#N_L9 C.room" => k_extra "#4"
  k_with "#N_L9 subscriptTail Name Slice ref ref" => k_extra "#5"
  k_with "#N_L9 binaryOp Add ref ref" => k_extra "#6"
  k_with "#N_L9 call builtin:len cons nil" => k_extra "#7"
  k_with "#N_L9 setItem ref ref ref" => k_extra "#8"
  k_with "#N_L9 binaryOp Mult ref int" => k_extra "#9"
  k_with "#N_L9 execs cons" => first | k_extra "#126" | k_extra "#33"
  k_with "#N_L9 call type:list" => k_extra "#35"
  k_with "#N_L9 C.notin" => k_extra "#52"
  k_with "#N_L9 call ref" => first | k_extra "#127" | k_extra "#120" | k_extra "#121" | k_extra "#118"
  k_with "#N_L9 k_all" => k_extra "#122"
  k_with "#N_L9 C.repl" => k_extra "#123"
  k_with "#N_L9 compareOp NotEq ref ref" => k_extra "#124"
  k_with "#N_L9 subscriptTail" => k_extra "#125"
  k_with "#N_L10 C.enter" => k_extra "#29"
  k_with "#N_L10 k_enter" => k_extra "#30"
  k_with "#N_L10 k_ne" => first | k_extra "#54" | k_extra "#31" | k_extra "#12"
  k_with "#N_L10 C.room" => k_extra "#4"
  k_with "#N_L10 subscriptTail Name Slice ref ref" => k_extra "#5"
  k_with "#N_L10 binaryOp Add ref ref" => k_extra "#6"
  k_with "#N_L10 call builtin:len cons nil" => k_extra "#7"
  k_with "#N_L10 setItem ref ref ref" => k_extra "#8"
  k_with "#N_L10 binaryOp Mult ref int" => k_extra "#9"
  k_with "#N_L10 execs cons" => k_extra "#33"
  k_with "#N_L10 call type:list" => k_extra "#35"
  k_with "#N_L10 C.notin" => k_extra "#52"
  k_with "#N_L10 C.repl" => k_extra "#53"
  k_with "#N_L10 call ref" => k_extra "#118"
  k_with "#N_L12 C.enter" => k_extra "#29"
  k_with "#N_L12 k_enter" => k_extra "#30"
  k_with "#N_L12 k_ne" => first | k_extra "#54" | k_extra "#31" | k_extra "#12"
  k_with "#N_L12 C.room" => k_extra "#4"
  k_with "#N_L12 subscriptTail Name Slice ref ref" => k_extra "#5"
  k_with "#N_L12 binaryOp Add ref ref" => k_extra "#6"
  k_with "#N_L12 call builtin:len cons nil" => k_extra "#7"
  k_with "#N_L12 setItem ref ref ref" => k_extra "#8"
  k_with "#N_L12 binaryOp Mult ref int" => k_extra "#9"
  k_with "#N_L12 execs cons" => k_extra "#33"
  k_with "#N_L12 call type:list" => k_extra "#35"
  k_with "#N_L12 C.notin" => k_extra "#52"
  k_with "#N_L12 C.repl" => k_extra "#53"
  k_with "#N_L12 call ref" => k_extra "#118"
  k_with "#N_L12 pyIter ref" => k_extra "#119"
  k_with "#N_L14 C.enter" => k_extra "#29"
  k_with "#N_L14 k_enter" => k_extra "#30"
  k_with "#N_L14 k_ne" => first | k_extra "#54" | k_extra "#31" | k_extra "#12"
  k_with "#N_L14 C.room" => k_extra "#4"
  k_with "#N_L14 subscriptTail Name Slice ref ref" => k_extra "#5"
  k_with "#N_L14 binaryOp Add ref ref" => k_extra "#6"
  k_with "#N_L14 call builtin:len cons nil" => k_extra "#7"
  k_with "#N_L14 setItem ref ref ref" => k_extra "#8"
  k_with "#N_L14 binaryOp Mult ref int" => k_extra "#9"
  k_with "#N_L14 execs cons" => first | k_extra "#128" | k_extra "#33"
  k_with "#N_L14 call type:list" => k_extra "#35"
  k_with "#N_L14 C.notin" => k_extra "#52"
  k_with "#N_L14 k_all" => k_extra "#64"
  k_with "#N_L14 C.repl" => k_extra "#67"
  k_with "#N_L14 call ref" => first | k_extra "#129" | k_extra "#118" | k_extra "#68" | k_extra "#69"
  trivial
structure Hid (P : Prop) : Prop where
  h : P
abbrev RedF (S : Prop) (F : Type) (all : F → Prop) := {R : F // Hid (all R) → S}
theorem ne_nat : Nonempty Nat := ⟨0⟩
theorem ne_int : Nonempty Int := ⟨0⟩
theorem ne_val : Nonempty Value := ⟨.none⟩
theorem ne_list {α : Type} : Nonempty (List α) := ⟨[]⟩
theorem ne_arr {α : Type} : Nonempty (Array α) := ⟨#[]⟩
theorem ne_f1 : Nonempty (Nat → Nat) := ⟨fun _ => 0⟩
theorem ne_f2 : Nonempty (Nat → Nat → Nat) := ⟨fun _ _ => 0⟩
theorem ne_bool : Nonempty Bool := ⟨true⟩
theorem ne_obj : Nonempty Obj := by first | exact ⟨default⟩ | exact ⟨{}⟩ | exact inferInstance
theorem ne_heap : Nonempty Heap := ⟨{}⟩
theorem ne_m : Nonempty (Str → Option Value) := ⟨fun _ => none⟩
theorem ne_ex : Nonempty (ExcName → Option Value) := ⟨fun _ => none⟩
theorem ne_prog : Nonempty Program := inferInstance
theorem ne_dr : Nonempty Drawn := ⟨{}⟩
theorem ne_os : Nonempty OsState := ⟨{}⟩
theorem ne_fq : Nonempty (Flow → Shared → Prop) := ⟨fun _ _ => True⟩
theorem lt_room {a k m n : Nat} (h : a + k < m) (e : Nat.ble n k = true) : a + n < m := Nat.lt_of_le_of_lt (Nat.add_le_add_left (Nat.le_of_ble_eq_true e) a) h
theorem lt_room2 {a k m n q : Nat} (h : a + k < m) (e : Nat.ble (n + q) k = true) : a + n + q < m := Nat.add_assoc a n q ▸ lt_room h e
theorem lt_room0 {a k m : Nat} (h : a + k < m) : a < m := Nat.lt_of_le_of_lt (Nat.le_add_right a k) h
theorem le_num {n k j : Nat} (h : n ≤ k) (e : Nat.ble k j = true) : n ≤ j := Nat.le_trans h (Nat.le_of_ble_eq_true e)
theorem mem1 {α : Type} {a b : α} {l : List α} : a ∈ b :: a :: l := .tail _ (.head _)
theorem mem2 {α : Type} {a b c : α} {l : List α} : a ∈ b :: c :: a :: l := .tail _ mem1
theorem mem3 {α : Type} {a b c d : α} {l : List α} : a ∈ b :: c :: d :: a :: l := .tail _ mem2
theorem mem4 {α : Type} {b c d e : α} {l : List α} {a : α} (h : a ∈ l) : a ∈ b :: c :: d :: e :: l := .tail _ (.tail _ (.tail _ (.tail _ h)))
theorem pk_ne {α : Type} (n : Nonempty α) (P : α → Prop) : Nonempty {x : α // P x → ∀ y, P y} := by
  by_cases h : ∃ y, ¬ P y
  · obtain ⟨y, hy⟩ := h
    exact ⟨⟨y, fun k => absurd k hy⟩⟩
  · obtain ⟨x⟩ := n
    exact ⟨⟨x, fun _ y => Classical.byContradiction fun k => h ⟨y, k⟩⟩⟩
noncomputable def pk {α : Type} (n : Nonempty α) (P : α → Prop) : α := (Classical.choice (pk_ne n P)).val
theorem pk_all {α : Type} {n : Nonempty α} {P : α → Prop} (h : P (pk n P)) : ∀ y, P y := (Classical.choice (pk_ne n P)).property h
theorem ne_prod {α β : Type} (a : Nonempty α) (b : Nonempty β) : Nonempty (α × β) := a.elim fun x => b.elim fun y => ⟨(x, y)⟩
theorem world_ne : Nonempty World := ⟨⟨fun _ _ => 0, { strHash := fun _ => 0, shareClass := fun _ => 0, mergeTok := id, idOf := fun _ => 0, idOfShared := fun _ _ => 0, followText := fun _ => true, idOfImm := fun _ => 0 }⟩⟩
structure SD where
  (p : Program) (loose : List Str) (mean : ExcName → Option Value) (mg mb : Str → Option Value) (dp un : Nat) (gd : Option (List Code)) (cn : Str) (cs : Scope) (a : Addr) (ccd : Value) (cl : List (Str × Addr)) (outer : List Env) (A₀ : Around) (base h₀ : Heap) (L : Addr) (m : Str → Option Value)
  (sh : Heap) (gn : Array GenState) (dr : Drawn) (tk0 : Nat) (os : OsState) (Q E : Value → Shared → Prop) (R : Result → Shared → Prop)
theorem SD.ne : Nonempty SD := by
  have hp : Nonempty Program := inferInstance
  have hs : Nonempty Scope := inferInstance
  obtain ⟨p⟩ := hp
  obtain ⟨s⟩ := hs
  exact ⟨⟨p, [], fun _ => none, fun _ => none, fun _ => none, 0, 0, none, Str.empty, s, 0, .none, [], [], {}, {}, {}, 0, fun _ => none, {}, #[], {}, 0, {}, fun _ _ => True, fun _ _ => True, fun _ _ => True⟩⟩
def SpecAt (w : World) (D U : Nat) (f : Addr) (args : List Value) (led : List (Addr × Obj)) (pre : Heap → Prop) (post : Heap → Value → Heap → Prop) (d : SD) : Prop :=
    Below d.A₀ d.base d.outer d.h₀ → Fr d.h₀ d.L d.sh d.m → (KK w.params).In d.h₀ → News d.h₀ d.L d.sh led → Top d.p d.loose d.mean d.mg d.mb d.h₀ → d.cs.kind = .function → d.dp + D < recursionLimit → d.un + U < cLine → pre d.sh →
    (∀ v h' tk', Fr d.h₀ d.L h' d.m → (∀ b o, d.sh.get? b = some o → b ∉ led.map (·.1) → h'.get? b = some o) → post d.sh v h' → d.Q v ⟨h', d.gn, d.dr, tk', d.os⟩) →
    wpAny (model pw w) (ktrTop d.dp d.un d.gd d.cn d.cs d.L d.a d.ccd d.cl d.outer) (call (.ref f) args) d.Q d.E ⟨d.sh, d.gn, d.dr, d.tk0, d.os⟩
theorem spec_at {w : World} {D U : Nat} {f : Addr} {args : List Value} {led : List (Addr × Obj)} {pre : Heap → Prop} {post : Heap → Value → Heap → Prop} (h : ∀ d, SpecAt w D U f args led pre post d) : Spec w D U f args led pre post := by
  intro p loose mean mg mb dp un gd cn cs a ccd cl outer A₀ base h₀ L m s Q E
  rcases s with ⟨sh, gn, dr, tk0, os⟩
  exact h ⟨p, loose, mean, mg, mb, dp, un, gd, cn, cs, a, ccd, cl, outer, A₀, base, h₀, L, m, sh, gn, dr, tk0, os, Q, E, fun _ _ => True⟩
abbrev Red2 (S : Prop) (α β : Type) := {P : α → β → Prop // (∀ x y, P x y) → S}
structure ED where
  (g : Heap) (L : Addr) (h : Heap) (tk : Nat)
theorem ED.ne : Nonempty (SD × ED) := ne_prod SD.ne ⟨⟨{}, 0, {}, 0⟩⟩
theorem ed_intro {P : Heap → Addr → Heap → Nat → Prop} (h : ∀ e : ED, P e.g e.L e.h e.tk) : ∀ a b c d, P a b c d := fun a b c d => h ⟨a, b, c, d⟩
theorem enterE {prog : Program} {w : World} {A A₀ : Around} {s : Shared} {K : Frag} {L : Addr} {h₀ base : Heap} {m mg mb : Str → Option Value} {led : List (Addr × Obj)} {p : Program} {loose : List Str} {mean : ExcName → Option Value}
    {env : Env} {outer : List Env} {R : Result → Shared → Prop} {name qual : Str} {params : Arguments} {body : List Stmt} {scope : Scope} {dV kV doc pm cdv ct oc : Value} {an od : Option Addr} {osl : Array (Option Value)} {f : Addr} {args : Args} {binds : List (Str × Value)}
    (B : Below A₀ base outer h₀) (F : Fr h₀ L s.heap m) (X₀ : K.In h₀) (N : News h₀ L s.heap led) (T : Top p loose mean mg mb h₀) (hA : A.frames = some (env :: outer)) (hf : env.frame = some L) (hke : env.scope.kind = .function)
    (ho : K.lookup f = some ⟨oc, od, .func (fnOf name qual params body scope dV kV doc pm an cdv ct), osl⟩) (hcd : codeIn K cdv qual = true) (hroom : A.depth < recursionLimit)
    (hbind : BindsTo s (fnOf name qual params body scope dV kV doc pm an cdv ct) args binds) (hloc : ∀ y ∈ binds, scope.names.lookup y.1 = some .local)
    (h : ∀ g L' h₁ tk, let AA := A.deeper (envOf qual scope L' f cdv); AA.depth = A.depth + 1 → AA.units = A.units + 3 →
      (∀ b o, s.heap.get? b = some o → b ∉ led.map (·.1) → g.get? b = some o) →
      (∀ h' L'' m', Fr g L'' h' m' → Fr h₀ L h' m) →
      Fr g L' h₁ (fun y => binds.reverse.lookup y) → News g L' h₁ led → Below A base (env :: outer) g → K.In g → Top p loose mean mg mb g →
      wpAny (model prog w) AA (execs body (envOf qual scope L' f cdv))
        (fun fl s' => LeaveC g R (match fl with | .ret v => v | _ => .none) s')
        (fun _ _ => False)
        { s with heap := h₁, toks := tk })
    (hco : scope.isCoroutine = false) (hgen : scope.isGenerator = false) (hk : scope.kind = .function)
    (hcell : ∀ x ∈ scope.names, x.2 ≠ .cell) : codeAny (model prog w) A (.call (.ref f) args) R s :=
  enterC B F X₀ N T hA hf hke ho hcd hroom hbind hloc (fun g L' h₁ tk hin hout hsz back F' N' B' X' T' => wpAny_noRaise (h g L' h₁ tk rfl rfl hin back F' N' B' X' T')) hco hgen hk hcell
def BodyAt (w : World) (D U : Nat) (f : Addr) (led : List (Addr × Obj)) (pre : Heap → Prop) (post : Heap → Value → Heap → Prop) (qual : Str) (scope : Scope) (cdv : Value) (body : List Stmt) (binds : List (Str × Value)) (d : SD) (e : ED) : Prop :=
    Below d.A₀ d.base d.outer d.h₀ → Fr d.h₀ d.L d.sh d.m → (KK w.params).In d.h₀ → News d.h₀ d.L d.sh led → Top d.p d.loose d.mean d.mg d.mb d.h₀ → d.cs.kind = .function → d.dp + D < recursionLimit → d.un + U < cLine → pre d.sh →
    (∀ v h' tk', Fr d.h₀ d.L h' d.m → (∀ b o, d.sh.get? b = some o → b ∉ led.map (·.1) → h'.get? b = some o) → post d.sh v h' → d.Q v ⟨h', d.gn, d.dr, tk', d.os⟩) →
    ((ktrTop d.dp d.un d.gd d.cn d.cs d.L d.a d.ccd d.cl d.outer).deeper (envOf qual scope e.L f cdv)).depth = d.dp + 1 → ((ktrTop d.dp d.un d.gd d.cn d.cs d.L d.a d.ccd d.cl d.outer).deeper (envOf qual scope e.L f cdv)).units = d.un + 3 →
    (∀ b o, d.sh.get? b = some o → b ∉ led.map (·.1) → e.g.get? b = some o) → (∀ h' L'' m', Fr e.g L'' h' m' → Fr d.h₀ d.L h' d.m) →
    Fr e.g e.L e.h (fun y => binds.reverse.lookup y) → News e.g e.L e.h led → Below (ktrTop d.dp d.un d.gd d.cn d.cs d.L d.a d.ccd d.cl d.outer) d.base (envX d.cn d.cs d.L d.a d.ccd d.cl :: d.outer) e.g → (KK w.params).In e.g → Top d.p d.loose d.mean d.mg d.mb e.g →
    wpAny (model pw w) ((ktrTop d.dp d.un d.gd d.cn d.cs d.L d.a d.ccd d.cl d.outer).deeper (envOf qual scope e.L f cdv)) (execs body (envOf qual scope e.L f cdv))
      (fun fl s' => LeaveC e.g (fun r s' => match r with | .ok (.ret v) => d.Q v s' | .ok _ => False | .error x => d.E x s') (match fl with | .ret v => v | _ => .none) s') (fun _ _ => False) ⟨e.h, d.gn, d.dr, e.tk, d.os⟩
theorem body_at {w : World} {D U : Nat} {f : Addr} {args : List Value} {led : List (Addr × Obj)} {pre : Heap → Prop} {post : Heap → Value → Heap → Prop} {name qual : Str} {params : Arguments} {body : List Stmt} {scope : Scope} {dV kV doc pm cdv ct oc : Value} {an od : Option Addr} {osl : Array (Option Value)} {binds : List (Str × Value)}
    (ho : (KK w.params).lookup f = some ⟨oc, od, .func (fnOf name qual params body scope dV kV doc pm an cdv ct), osl⟩) (hcd : codeIn (KK w.params) cdv qual = true)
    (hbind : ∀ s : Shared, (KK w.params).In s.heap → BindsTo s (fnOf name qual params body scope dV kV doc pm an cdv ct) ⟨args, []⟩ binds) (hloc : ∀ y ∈ binds, scope.names.lookup y.1 = some .local)
    (hco : scope.isCoroutine = false) (hgen : scope.isGenerator = false) (hk : scope.kind = .function) (hcell : ∀ x ∈ scope.names, x.2 ≠ .cell)
    (h : ∀ d e, BodyAt w D U f led pre post qual scope cdv body binds d e) : Spec w D U f args led pre post := by
  refine spec_at fun d => ?_
  intro B F X N T hk' hd hu hp ret
  refine wpAny_call ?_
  exact enterE (s := ⟨d.sh, d.gn, d.dr, d.tk0, d.os⟩) (K := KK w.params) B F X N T rfl rfl hk' ho hcd (Nat.lt_of_le_of_lt (Nat.le_add_right _ _) hd) (hbind _ (X.keeps F.keep)) hloc
    (fun g L' h₁ tk dA uA hin back F' N' B' X' T' => h d ⟨g, L', h₁, tk⟩ B F X N T hk' hd hu hp ret dA uA hin back F' N' B' X' T') hco hgen hk hcell
noncomputable def nmOk (cs : Scope) (x : Str) : Bool := cs.kind == .function && cs.names.lookup x == some .local && !(x == Str.ofString "__debug__")
theorem nameL {M : Model} {A : Around} {h₀ : Heap} {L a : Addr} {cn : Str} {cs : Scope} {ccd : Value} {cl : List (Str × Addr)} {E : Value → Shared → Prop} {m : Str → Option Value} {s : Shared} (F : Fr h₀ L s.heap m) {x : Str} (c : nmOk cs x = true) {v : Value} (hv : m x = some v) {pos : Pos} {Q : Value → Shared → Prop} (h : Q v s) :
    wpAny M A (eval (.Name x pos) (envX cn cs L a ccd cl)) Q E s := by
  unfold nmOk at c
  simp only [Bool.and_eq_true, beq_iff_eq, Bool.not_eq_true'] at c
  exact nameX_L F hv h c.1.1 c.1.2 c.2
theorem attr_own {prog : Program} {w : World} {A : Around} {K : Frag} {h₀ : Heap} {L a : Addr} {cn : Str} {cs : Scope} {ccd : Value} {cl : List (Str × Addr)} (X₀ : K.In h₀) {C : Addr} (hh : hasDictIn K C = true) {E : Value → Shared → Prop}
    {m : Str → Option Value} {s : Shared} (F : Fr h₀ L s.heap m) {x : Str} (c : nmOk cs x = true) {b : Addr} (hv : m x = some (.ref b)) {ox : Obj} {es : List DictEntry} {n : Nat} (I : InstAt s.heap b ox C (some (dictOf es n))) {name : Str} {attr : Option Value} (hg : plainGet K C name = true) (ha : findIn K (.ref C) name = some attr) (hn : noGet K attr = true) {v : Value} (hl : getL name es = some (some v)) (hv' : handedIn v = true) {xp pos : Pos} {Q : Value → Shared → Prop} (h : Q v { s with toks := s.toks + 1 }) :
    wpAny (model prog w) A (eval (.Attribute (.Name x xp) name pos) (envX cn cs L a ccd cl)) Q E s :=
  Attribute_Name_ (nameL F c hv (get_own F X₀ I hg hh ha hn hl hv' h))
section
variable {prog : Program} {w : World} {A : Around} {E : Value → Shared → Prop} {s : Shared}
theorem sl_bounds {a b : Int} {n : Nat} (h0 : 0 ≤ a) (h1 : a ≤ b) (h2 : b ≤ n) : sliceBounds (some a) (some b) none n = (a, b, 1) := by
  simp only [sliceBounds, Option.getD_none, show (1 : Int) > 0 by decide, if_true, if_neg (show ¬ (a < 0) by omega), if_neg (show ¬ (b < 0) by omega)]
  congr 1
  · omega
  · congr 1; omega
namespace sl_setN
def zP (prog : Program) (w : World) (A : Around) (E : Value → Shared → Prop) (s : Shared) (l sl v : Addr) (items new : Array Value) (vl vu : Value) (a b : Int) (Q : Unit → Shared → Prop) : Prop := ∀ (hl : s.heap.IsList l items) (hv : s.heap.IsList v new) (hs : s.heap.IsSliceOf sl vl vu .none) (pl : IsPart vl (some a)) (pu : IsPart vu (some b)) (h0 : 0 ≤ a) (h1 : a ≤ b) (h2 : b ≤ items.size) (hz : items.size + new.size ≤ sizeLine) (hQ : Q () { s with heap := s.heap.update l (Obj.mapSeq fun xs => xs.extract 0 a.toNat ++ new ++ xs.extract b.toNat xs.size) }), wpAny (model prog w) A (setItem (.ref l) (.ref sl) (.ref v)) Q E s
abbrev zT := (Program × World × Around × (Value → Shared → Prop)) × (Shared × Addr × Addr × Addr) × ((Array Value) × (Array Value) × Value × Value) × (Int × Int × (Unit → Shared → Prop))
def zQ (x : zT) : Prop := zP x.1.1 x.1.2.1 x.1.2.2.1 x.1.2.2.2 x.2.1.1 x.2.1.2.1 x.2.1.2.2.1 x.2.1.2.2.2 x.2.2.1.1 x.2.2.1.2.1 x.2.2.1.2.2.1 x.2.2.1.2.2.2 x.2.2.2.1 x.2.2.2.2.1 x.2.2.2.2.2
theorem zne : Nonempty zT := by k_extra "zne"
def zX : zT := pk zne zQ
theorem body : zQ zX := by
  intro hl hv hs pl pu h0 h1 h2 hz hQ
  obtain ⟨o, ho, hc, ne, hd⟩ := id hl
  obtain ⟨ov, hov, hcv, nev, hdv⟩ := id hv
  obtain ⟨os, hos, hcs, hds⟩ := id hs
  have hTs : zX.2.1.1.TypeIs (.ref zX.2.1.2.2.1) "slice" := ⟨os, hos, hcs⟩
  unfold setItem
  try with_reducible refine wpAny_holding ?_
  first | refine wpAny_bind (wpAny_pure ?_) | skip
  refine wpAny_bind (wpAny_sequenceKey hl.typeIs (by decide) ?_)
  refine wpAny_bind (wpAny_callSpecial?_slot (name := Str.ofString "__setitem__") hl.typeIs slot_list_setitem
    (wpAny_call_entry slot_list_setitem hl.typeIs entry_list_setitem ?_ (args_list_setitem _ _ _)))
  show wpAny _ _ (Builtin.List.listSubscript? (.ref zX.2.1.2.2.1) >>= _) _ _ zX.2.1.1
  refine wpAny_bind ?_
  unfold Builtin.List.listSubscript?
  refine wpAny_bind (wpAny_specialOf hTs slice_no_index ?_)
  simp only [Option.isNone_none, if_true]
  refine wpAny_pure ?_
  show wpAny _ _ (typeOf (.ref zX.2.1.2.2.1) >>= _) _ _ zX.2.1.1
  refine wpAny_bind (wpAny_typeOf hTs ?_)
  rw [if_neg (by decide)]
  rw [listSliceParts_eq]
  refine wpAny_bind (wpAny_bind (wpAny_field hos hds (x := .none) rfl (wpAny_bind (wpAny_listPart IsPart.none ?_))))
  rw [if_neg (by exact Bool.false_ne_true)]
  refine wpAny_bind (wpAny_field hos hds (x := zX.2.2.1.2.2.1) rfl (wpAny_bind (wpAny_listPart pl ?_)))
  refine wpAny_bind (wpAny_field hos hds (x := zX.2.2.1.2.2.2) rfl (wpAny_bind (wpAny_listPart pu (wpAny_pure ?_))))
  have fit : Builtin.List.listTooLong (zX.2.2.1.1.size + zX.2.2.1.2.1.size) = false := by unfold Builtin.List.listTooLong; simp; omega
  have hm : max zX.2.2.2.1 zX.2.2.2.2.1 = zX.2.2.2.2.1 := by omega
  split
  · refine wpAny_bind ?_
    unfold Builtin.List.listItems
    refine wpAny_bind (wpAny_seqItems hov hdv (wpAny_pure ?_))
    refine wpAny_bind ?_
    refine wpAny_bind (wpAny_seqItems ho hd (wpAny_pure ?_))
    refine wpAny_bind (wpAny_of_eq (sliceIndices_raw (some zX.2.2.2.1) (some zX.2.2.2.2.1) none zX.2.2.1.1.size (by simp)) ?_)
    rw [sl_bounds h0 h1 h2]
    dsimp only
    rw [if_pos (by rfl)]
    refine wpAny_bind (wpAny_rule ?_)
    rw [fit]
    simp only [Bool.false_eq_true, if_false]
    rw [hm]
    refine wpAny_bind (wpAny_updateSeq ho hd ?_ (by omega) ?_)
    · refine wpAny_bind (wpAny_letGo ?_)
      exact wpAny_pure ⟨_, rfl, wpAny_pure hQ⟩
    · simp only [Array.size_append, Array.size_extract]; omega
  · refine wpAny_bind ?_
    unfold Builtin.List.listAllItems
    refine wpAny_bind (wpAny_typeOf (T := "list") ⟨ov, hov, hcv⟩ ?_)
    rw [if_pos (by decide)]
    unfold Builtin.List.listItems
    refine wpAny_bind (wpAny_seqItems hov hdv (wpAny_pure ?_))
    refine wpAny_bind ?_
    refine wpAny_bind (wpAny_seqItems ho hd (wpAny_pure ?_))
    refine wpAny_bind (wpAny_of_eq (sliceIndices_raw (some zX.2.2.2.1) (some zX.2.2.2.2.1) none zX.2.2.1.1.size (by simp)) ?_)
    rw [sl_bounds h0 h1 h2]
    dsimp only
    rw [if_pos (by rfl)]
    refine wpAny_bind (wpAny_rule ?_)
    rw [fit]
    simp only [Bool.false_eq_true, if_false]
    rw [hm]
    refine wpAny_bind (wpAny_updateSeq ho hd ?_ (by omega) ?_)
    · refine wpAny_bind (wpAny_letGo ?_)
      exact wpAny_pure ⟨_, rfl, wpAny_pure hQ⟩
    · simp only [Array.size_append, Array.size_extract]; omega
end sl_setN
theorem sl_set {prog w A E s l sl v items new vl vu a b Q} : sl_setN.zP prog w A E s l sl v items new vl vu a b Q := pk_all (n := sl_setN.zne) (P := sl_setN.zQ) sl_setN.body ((prog, w, A, E), (s, l, sl, v), (items, new, vl, vu), (a, b, Q))
end
noncomputable def txt {α : Type} (cells : List α) (gs ge : Int) : List α := cells.take gs.toNat ++ cells.drop ge.toNat
theorem min_sub (a n : Nat) : min a n + (n - a) = n := by omega
theorem min_sub_le {a b n : Nat} (h : a ≤ b) : min a n + (n - b) ≤ n := by omega
section
variable {α : Type} {cells : List α} {gs ge a b : Int}
theorem nat_of {x : Int} (h : 0 ≤ x) : ∃ n : Nat, x = n := ⟨x.toNat, (Int.toNat_of_nonneg h).symm⟩
theorem cut_len {n : Nat} {a b : Int} (h0 : 0 ≤ a) (h1 : a ≤ b) (h2 : b ≤ n) : ((min (b - a).toNat (n - a.toNat) : Nat) : Int) = b - a := by
  obtain ⟨p, rfl⟩ := nat_of h0; obtain ⟨q, rfl⟩ := nat_of (Int.le_trans h0 h1); rw [Int.toNat_natCast, Int.toNat_sub, Nat.min_eq_left (by omega)]; omega
theorem cat_len {n k : Nat} {a b : Int} (h0 : 0 ≤ a) (h1 : a ≤ b) (h2 : b ≤ n) : ((min a.toNat n + k + (n - b.toNat) : Nat) : Int) = n - (b - a) + k := by
  obtain ⟨p, rfl⟩ := nat_of h0; obtain ⟨q, rfl⟩ := nat_of (Int.le_trans h0 h1); rw [Int.toNat_natCast, Int.toNat_natCast, Nat.min_eq_left (by omega)]; omega
theorem cutN {l : List α} {n : Nat} (h : n ≤ l.length) : ∃ P Q : List α, l = P ++ Q ∧ P.length = n := ⟨l.take n, l.drop n, (List.take_append_drop n l).symm, List.length_take_of_le h⟩
theorem split3 (h3 : 0 ≤ gs) (h4 : gs ≤ ge) (h5 : ge ≤ cells.length) : ∃ P G Q : List α, cells = P ++ (G ++ Q) ∧ gs = (P.length : Int) ∧ ge = ((P.length + G.length : Nat) : Int) := by
  obtain ⟨p, rfl⟩ := nat_of h3
  obtain ⟨e, rfl⟩ := nat_of (Int.le_trans h3 h4)
  have h4' := Int.ofNat_le.mp h4
  have h5' := Int.ofNat_le.mp h5
  clear h3 h4 h5
  obtain ⟨P, R, rfl, rfl⟩ := cutN (Nat.le_trans h4' h5')
  obtain ⟨d, rfl⟩ := Nat.exists_eq_add_of_le h4'
  rw [List.length_append] at h5'
  obtain ⟨G, Q, rfl, rfl⟩ := cutN (Nat.le_of_add_le_add_left h5')
  exact ⟨P, G, Q, rfl, rfl, rfl⟩
theorem txt3 {P G Q : List α} : txt (P ++ (G ++ Q)) (P.length : Int) ((P.length + G.length : Nat) : Int) = P ++ Q := by
  rw [txt, Int.toNat_natCast, Int.toNat_natCast, List.take_left, List.drop_append, List.drop_eq_nil_of_le (Nat.le_add_right _ _), List.nil_append, Nat.add_sub_cancel_left, List.drop_left]
theorem txt_len (h3 : 0 ≤ gs) (h4 : gs ≤ ge) (h5 : ge ≤ cells.length) : ((txt cells gs ge).length : Int) = cells.length - ge + gs := by
  obtain ⟨P, G, Q, rfl, rfl, rfl⟩ := split3 h3 h4 h5
  rw [txt3]
  clear h3 h4 h5
  simp only [List.length_append]
  omega
theorem dropE {A B : List α} {n : Nat} (h : n = A.length) : (A ++ B).drop n = B := by subst h; exact List.drop_left
theorem takeE {A B : List α} {n : Nat} (h : n = A.length) : (A ++ B).take n = A := by subst h; exact List.take_left
theorem sub_nat {m n : Nat} : (((m + n : Nat) : Int) - (m : Int)).toNat = n := by omega
theorem seg_of {A B C : List α} : ((A ++ (B ++ C)).drop A.length).take B.length = B := by rw [List.drop_left, List.take_left]
theorem seg3 {l : List α} (h0 : 0 ≤ a) (h1 : a ≤ b) (h2 : b ≤ l.length) : ∃ A B C : List α, l = A ++ (B ++ C) ∧ a = (A.length : Int) ∧ b = ((A.length + B.length : Nat) : Int) := split3 h0 h1 h2
theorem seg_lo (h0 : 0 ≤ a) (h1 : a ≤ b) (h3 : 0 ≤ gs) (h4 : gs ≤ ge) (h5 : ge ≤ cells.length) (h : b ≤ gs) : (cells.drop a.toNat).take (b - a).toNat = ((txt cells gs ge).drop a.toNat).take (b - a).toNat := by
  obtain ⟨P, G, Q, rfl, rfl, rfl⟩ := split3 h3 h4 h5
  rw [txt3]
  obtain ⟨A, B, C, rfl, rfl, rfl⟩ := seg3 h0 h1 h
  clear h0 h1 h3 h4 h5 h
  rw [sub_nat, Int.toNat_natCast, List.append_assoc, List.append_assoc, List.append_assoc, List.append_assoc, seg_of, seg_of]
theorem seg_hi (h0 : 0 ≤ a) (h1 : a ≤ b) (h3 : 0 ≤ gs) (h4 : gs ≤ ge) (h5 : ge ≤ cells.length) (h : gs ≤ a) :
    (cells.drop (a + (ge - gs)).toNat).take (b + (ge - gs) - (a + (ge - gs))).toNat = ((txt cells gs ge).drop a.toNat).take (b - a).toNat := by
  obtain ⟨P, G, Q, rfl, rfl, rfl⟩ := split3 h3 h4 h5
  rw [txt3]
  obtain ⟨x, rfl⟩ := nat_of h0
  obtain ⟨d, rfl⟩ := Nat.exists_eq_add_of_le (Int.ofNat_le.mp h)
  have e1 : (((P.length + d : Nat) : Int) + (((P.length + G.length : Nat) : Int) - (P.length : Int))).toNat = P.length + (G.length + d) := by clear h0 h1 h3 h4 h5 h; omega
  have e2 : b + (((P.length + G.length : Nat) : Int) - (P.length : Int)) - (((P.length + d : Nat) : Int) + (((P.length + G.length : Nat) : Int) - (P.length : Int))) = b - ((P.length + d : Nat) : Int) := by clear h0 h1 h3 h4 h5 h e1; omega
  rw [e1, e2, Int.toNat_natCast]
  clear e1 e2 h0 h1 h3 h4 h5 h
  congr 1
  rw [← List.drop_drop, List.drop_left, ← List.drop_drop, List.drop_left, ← List.drop_drop, List.drop_left]
theorem seg_mid (h0 : 0 ≤ a) (h1 : a ≤ b) (h2 : b ≤ cells.length - ge + gs) (h3 : 0 ≤ gs) (h4 : gs ≤ ge) (h5 : ge ≤ cells.length) (ha : a ≤ gs) (hb : gs ≤ b) :
    (cells.drop a.toNat).take (gs - a).toNat ++ (cells.drop ge.toNat).take (b + (ge - gs) - ge).toNat = ((txt cells gs ge).drop a.toNat).take (b - a).toNat := by
  obtain ⟨P, G, Q, rfl, rfl, rfl⟩ := split3 h3 h4 h5
  rw [txt3]
  obtain ⟨x, rfl⟩ := nat_of h0
  obtain ⟨A, B, rfl, rfl⟩ := cutN (l := P) (Int.ofNat_le.mp ha)
  obtain ⟨y, rfl⟩ := nat_of (Int.le_trans h0 h1)
  obtain ⟨d, rfl⟩ := Nat.exists_eq_add_of_le (Int.ofNat_le.mp hb)
  clear h0 h1 h2 h3 h4 h5 ha hb
  have e1 : (((A ++ B).length : Nat) : Int) - (A.length : Int) = (B.length : Int) := by rw [List.length_append]; omega
  have e2 : ((((A ++ B).length + d : Nat) : Int) + ((((A ++ B).length + G.length : Nat) : Int) - (((A ++ B).length : Nat) : Int)) - (((A ++ B).length + G.length : Nat) : Int)).toNat = d := by omega
  have e3 : ((((A ++ B).length + d : Nat) : Int) - (A.length : Int)).toNat = B.length + d := by rw [List.length_append]; omega
  rw [e1, e2, e3, Int.toNat_natCast, Int.toNat_natCast, Int.toNat_natCast]
  have e4 : (A ++ B ++ (G ++ Q)).drop ((A ++ B).length + G.length) = Q := by rw [← List.drop_drop, List.drop_left, List.drop_left]
  rw [e4, List.append_assoc A B, seg_of, List.append_assoc, List.drop_left, List.take_append, List.take_of_length_le (Nat.le_add_right _ _), Nat.add_sub_cancel_left]
theorem move_lo {k k2 : Int} (hk : k = gs - a) (hk2 : k2 = gs - a) (h0 : 0 ≤ a) (h : a < gs) (h4 : gs ≤ ge) (h5 : ge ≤ cells.length) :
    txt (cells.take (ge - k).toNat ++ (cells.drop a.toNat).take (gs - a).toNat ++ cells.drop ge.toNat) a (ge - k2) = txt cells gs ge := by
  subst hk hk2
  obtain ⟨P, G, Q, rfl, rfl, rfl⟩ := split3 (Int.le_trans h0 (Int.le_of_lt h)) h4 h5
  rw [txt3]
  obtain ⟨x, rfl⟩ := nat_of h0
  obtain ⟨A, B, rfl, rfl⟩ := cutN (l := P) (Nat.le_of_lt (Int.ofNat_lt.mp h))
  clear h0 h h4 h5
  have e1 : (((A ++ B).length : Nat) : Int) - (A.length : Int) = (B.length : Int) := by rw [List.length_append]; omega
  have e2 : (((A ++ B).length + G.length : Nat) : Int) - (B.length : Int) = ((A.length + G.length : Nat) : Int) := by rw [List.length_append]; omega
  have e4 : (A ++ B ++ (G ++ Q)).drop ((A ++ B).length + G.length) = Q := by rw [← List.drop_drop, List.drop_left, List.drop_left]
  rw [e1, e2, Int.toNat_natCast, Int.toNat_natCast, Int.toNat_natCast, Int.toNat_natCast, e4]
  have e5 : (A ++ B ++ (G ++ Q)).take (A.length + G.length) = A ++ (B ++ (G ++ Q)).take G.length := by rw [List.append_assoc, List.take_append, List.take_of_length_le (Nat.le_add_right _ _), Nat.add_sub_cancel_left]
  have e6 : ((B ++ (G ++ Q)).take G.length).length = G.length := by
    rw [List.length_take, List.length_append, List.length_append]; omega
  rw [e5, List.append_assoc A B, seg_of, List.append_assoc A, List.append_assoc A]
  have := txt3 (P := A) (G := (B ++ (G ++ Q)).take G.length) (Q := B ++ Q)
  rw [e6] at this
  rw [List.append_assoc, this, List.append_assoc]
theorem move_hi {k k2 : Int} (hk : k = a - gs) (hk2 : k2 = a - gs) (h3 : 0 ≤ gs) (h : gs ≤ a) (h2 : a ≤ cells.length - ge + gs) (h4 : gs ≤ ge) (h5 : ge ≤ cells.length) :
    txt (cells.take gs.toNat ++ (cells.drop ge.toNat).take (ge + a - gs - ge).toNat ++ cells.drop (gs + k).toNat) a (ge + k2) = txt cells gs ge := by
  subst hk hk2
  obtain ⟨P, G, Q, rfl, rfl, rfl⟩ := split3 h3 h4 h5
  rw [txt3]
  obtain ⟨x, rfl⟩ := nat_of (Int.le_trans h3 h)
  obtain ⟨d, rfl⟩ := Nat.exists_eq_add_of_le (Int.ofNat_le.mp h)
  have hd : d ≤ Q.length := by
    clear h3 h h4 h5
    rw [List.length_append, List.length_append] at h2; omega
  clear h3 h h2 h4 h5
  obtain ⟨C, D, rfl, rfl⟩ := cutN hd
  clear hd
  have e1 : ((P.length + C.length : Nat) : Int) - (P.length : Int) = (C.length : Int) := by omega
  have e2 : (((P.length + G.length : Nat) : Int) + ((P.length + C.length : Nat) : Int) - (P.length : Int) - ((P.length + G.length : Nat) : Int)) = (C.length : Int) := by omega
  have e4 : (P ++ (G ++ (C ++ D))).drop (P.length + G.length) = C ++ D := by rw [← List.drop_drop, List.drop_left, List.drop_left]
  rw [e1, e2, Int.toNat_natCast, Int.toNat_natCast, Int.toNat_natCast, e4, List.take_left, ← Int.natCast_add, Int.toNat_natCast, List.take_left, ← List.drop_drop, List.drop_left]
  have e6 : ((G ++ (C ++ D)).drop C.length) = ((G ++ C).drop C.length) ++ D := by
    rw [← List.append_assoc, List.drop_append_of_le_length (by rw [List.length_append]; omega)]
  have e7 : ((G ++ C).drop C.length).length = G.length := by rw [List.length_drop, List.length_append]; omega
  have := txt3 (P := P ++ C) (G := (G ++ C).drop C.length) (Q := D)
  rw [e7, List.length_append] at this
  rw [e6, ← Int.natCast_add, show P.length + G.length + C.length = P.length + C.length + G.length by omega, this, List.append_assoc]
theorem move_lo' {z1 z2 : List α} (e1 : z1 = (cells.drop a.toNat).take (gs - a).toNat) (l1 : (z1.length : Int) = gs - a) (e2 : z2 = cells.take (ge - (z1.length : Int)).toNat ++ z1 ++ cells.drop ge.toNat) (h0 : 0 ≤ a) (h : a < gs) (h4 : gs ≤ ge) (h5 : ge ≤ cells.length) :
    txt z2 a (ge - (z1.length : Int)) = txt cells gs ge := by
  rw [l1] at e2 ⊢
  subst e1 e2
  exact move_lo rfl rfl h0 h h4 h5
theorem move_hi' {z1 z2 : List α} (e1 : z1 = (cells.drop ge.toNat).take (ge + a - gs - ge).toNat) (l1 : (z1.length : Int) = ge + a - gs - ge) (e2 : z2 = cells.take gs.toNat ++ z1 ++ cells.drop (gs + (z1.length : Int)).toNat) (h3 : 0 ≤ gs) (h : ¬ a < gs) (h2 : a ≤ cells.length - ge + gs) (h4 : gs ≤ ge) (h5 : ge ≤ cells.length) :
    txt z2 a (ge + (z1.length : Int)) = txt cells gs ge := by
  rw [l1] at e2 ⊢
  have e : ge + a - gs - ge = a - gs := by clear e1 e2 l1 h3 h h2 h4 h5; omega
  subst e1
  rw [e] at e2 ⊢
  subst e2
  have := move_hi (cells := cells) (gs := gs) (ge := ge) (a := a) rfl rfl h3 (Int.not_lt.mp h) h2 h4 h5
  rw [e] at this
  exact this
theorem widen_txt {z2 zs : List α} {k : Int} (e : zs = cells.take ge.toNat ++ z2 ++ cells.drop ge.toNat) (h3 : 0 ≤ gs) (h4 : gs ≤ ge) (h5 : ge ≤ cells.length) (hk : k = ge + z2.length) : txt zs gs k = txt cells gs ge := by
  subst e hk
  obtain ⟨P, G, Q, rfl, rfl, rfl⟩ := split3 h3 h4 h5
  rw [txt3]
  clear h3 h4 h5
  have e4 : (P ++ (G ++ Q)).drop (P.length + G.length) = Q := by rw [← List.drop_drop, List.drop_left, List.drop_left]
  have e5 : (P ++ (G ++ Q)).take (P.length + G.length) = P ++ G := by rw [← List.append_assoc, ← List.length_append, List.take_left]
  rw [Int.toNat_natCast, e4, e5, ← Int.natCast_add]
  have := txt3 (P := P) (G := G ++ z2) (Q := Q)
  rw [List.length_append, ← Nat.add_assoc] at this
  rw [List.append_assoc, List.append_assoc, ← List.append_assoc G, this]
theorem store_txt {c' zs codes T : List α} {k : Int} (e : zs = c'.take a.toNat ++ codes ++ c'.drop (a + (codes.length : Int)).toNat) (h0 : 0 ≤ a) (h : a + codes.length ≤ k) (hk : k ≤ c'.length) (hT : txt c' a k = T) :
    txt zs (a + (codes.length : Int)) k = T.take a.toNat ++ codes ++ T.drop a.toNat := by
  subst e hT
  obtain ⟨P, G, Q, rfl, rfl, rfl⟩ := split3 h0 (Int.le_trans (Int.le_add_of_nonneg_right (Int.natCast_nonneg _)) h) hk
  have h' : codes.length ≤ G.length := by
    clear h0 hk; omega
  rw [txt3]
  clear h0 h hk
  rw [← Int.natCast_add, Int.toNat_natCast, Int.toNat_natCast, List.take_left, List.take_left, List.drop_left, ← List.drop_drop, List.drop_left, List.drop_append_of_le_length h']
  have e7 : (G.drop codes.length).length = G.length - codes.length := List.length_drop
  have := txt3 (P := P ++ codes) (G := G.drop codes.length) (Q := Q)
  rw [e7, List.length_append, show P.length + codes.length + (G.length - codes.length) = P.length + G.length by clear this e7; omega] at this
  rw [this]
theorem del_txt {T : List α} {k : Int} (hT : txt cells gs ge = T) (h0 : 0 ≤ a) (h1 : a ≤ b) (ha : a ≤ gs) (hb : gs ≤ b) (h4 : gs ≤ ge) (h5 : ge ≤ cells.length) (h2 : b ≤ cells.length - ge + gs) (hk : k = ge + b - gs) : txt cells a k = T.take a.toNat ++ T.drop b.toNat := by
  subst hT hk
  obtain ⟨P, G, Q, rfl, rfl, rfl⟩ := split3 (Int.le_trans h0 ha) h4 h5
  rw [txt3]
  obtain ⟨x, rfl⟩ := nat_of h0
  obtain ⟨A, B, rfl, rfl⟩ := cutN (l := P) (Int.ofNat_le.mp ha)
  obtain ⟨y, rfl⟩ := nat_of (Int.le_trans h0 h1)
  obtain ⟨d, rfl⟩ := Nat.exists_eq_add_of_le (Int.ofNat_le.mp hb)
  have hd : d ≤ Q.length := by
    clear h0 h1 ha hb h4 h5
    rw [List.length_append (bs := G ++ Q), List.length_append (as := G)] at h2; omega
  clear h0 h1 h2 h4 h5 ha hb
  obtain ⟨C, D, rfl, rfl⟩ := cutN hd
  clear hd
  have e1 : (((A ++ B).length + G.length : Nat) : Int) + (((A ++ B).length + C.length : Nat) : Int) - (((A ++ B).length : Nat) : Int) = (((A ++ B).length + (G.length + C.length) : Nat) : Int) := by omega
  have e4 : (A ++ B ++ (G ++ (C ++ D))).drop ((A ++ B).length + (G.length + C.length)) = D := by rw [← List.drop_drop, List.drop_left, ← List.drop_drop, List.drop_left, List.drop_left]
  have e5 : (A ++ B ++ (C ++ D)).drop ((A ++ B).length + C.length) = D := by rw [← List.drop_drop, List.drop_left, List.drop_left]
  rw [e1, txt, Int.toNat_natCast, Int.toNat_natCast, Int.toNat_natCast, e4, e5, List.append_assoc, List.append_assoc, List.take_left, List.take_left]
end
theorem lt16 : ∀ i, i < 16 → i = 0 ∨ i = 1 ∨ i = 2 ∨ i = 3 ∨ i = 4 ∨ i = 5 ∨ i = 6 ∨ i = 7 ∨ i = 8 ∨ i = 9 ∨ i = 10 ∨ i = 11 ∨ i = 12 ∨ i = 13 ∨ i = 14 ∨ i = 15 := by decide
theorem InstAt.of_base {h₀ : Heap} {L : Addr} {m : Str → Option Value} {h : Heap} (F : Fr h₀ L h m) {x C dx : Addr} {sl : Array (Option Value)} {od : Obj} (h1 : h₀.get? x = some (⟨.ref C, some dx, .plain, sl⟩ : Obj)) (h2 : h₀.get? dx = some od) :
    InstAt h x ⟨.ref C, some dx, .plain, sl⟩ C (some od) := ⟨F.keep _ _ h1, rfl, rfl, F.keep _ _ h2⟩
theorem InstAt.of_mix {h₀ : Heap} {L : Addr} {m : Str → Option Value} {h : Heap} (F : Fr h₀ L h m) {news : List (Addr × Obj)} (N : News h₀ L h news) {x C dx : Addr} {sl : Array (Option Value)} {od : Obj} (h1 : h₀.get? x = some (⟨.ref C, some dx, .plain, sl⟩ : Obj)) (h2 : (dx, od) ∈ news) :
    InstAt h x ⟨.ref C, some dx, .plain, sl⟩ C (some od) := ⟨F.keep _ _ h1, rfl, rfl, (N _ h2).1⟩
theorem isList_of {h : Heap} {l : Addr} {vs : Array Value} {n : Nat} (e : h.get? l = some (listOf vs n)) : h.IsList l vs := ⟨_, e, rfl, n, rfl⟩
theorem pick_run {vs : List Value} {a b : Int} (h0 : 0 ≤ a) (h1 : a ≤ b) (h2 : b ≤ vs.length) : (slicePick vs.toArray (some a) (some b) none).toList = (vs.drop a.toNat).take (b - a).toNat := by
  have ex : a = (a.toNat : Int) := by omega
  have ey : b = (b.toNat : Int) := by omega
  have e : (b - a).toNat = b.toNat - a.toNat := by omega
  rw [ex, ey, slicePick_run vs.toArray a.toNat b.toNat (by simp; omega) (by omega)]
  simp [← ex, ← ey, e]
theorem room_vs {vs : List Value} (h : vs.length ≤ 1000000) : vs.toArray.size ≤ sizeLine := by rw [List.size_toArray, sizeLine_eq]; omega
theorem room_l {vs : List Value} (h : vs.length ≤ 1000000) : vs.length ≤ sizeLine := by rw [sizeLine_eq]; omega
theorem room_2 {a b : Nat} (h : a + b ≤ 1000000) : a + b ≤ sizeLine := by rw [sizeLine_eq]; omega
section
variable {prog : Program} {w : World} {A : Around} {E : Value → Shared → Prop} {s : Shared} {h₀ : Heap} {L l v : Addr} {m : Str → Option Value} {news : List (Addr × Obj)} {vs ws : List Value} {n : Nat} {va vb : Value} {a b : Int}
theorem slice_get {value slice : PySem.Expr} {Q : Value → Shared → Prop} (F : Fr h₀ L s.heap m) (N : News h₀ L s.heap news) (hl : s.heap.IsList l vs.toArray) (pl : IsPart va (some a)) (pu : IsPart vb (some b)) (h0 : 0 ≤ a) (h1 : a ≤ b) (h2 : b ≤ vs.length) (hz : vs.length ≤ 1000000)
    (h : ∀ D (zs : List Value) h', zs = (vs.drop a.toNat).take (b - a).toNat → (zs.length : Int) = b - a → Fr h₀ L h' m → News h₀ L h' ((D, listOf zs.toArray 0) :: news) → NeAll D news → Q (.ref D) { s with heap := h' })
    (hs : subscripted slice false (.ref l) (.ref s.heap.objs.size) = operate [.ref s.heap.objs.size, .ref l] (getItem (.ref l) (.ref s.heap.objs.size))) (ht : ∀ r, letTemporaryGo value (.ref l) r = pure ()) :
    wpAny (model prog w) A (subscriptTail value slice (.ref l) (.ref s.heap.objs.size)) Q E { s with heap := s.heap.push { cls := .type "slice", data := .fields #[va, vb, .none] } } :=
  kmk_slice_lit F N hl pl pu (pick_run h0 h1 h2) (fun D h' F' N' l1 => h D _ h' rfl (by rw [List.length_take, List.length_drop]; exact cut_len h0 h1 h2) F' N' (neAll_of l1)) hs ht (room_vs hz)
theorem slice_store {news' : List Value → Nat → List (Addr × Obj)} {Q : Unit → Shared → Prop}
    (F : Fr h₀ L s.heap m) (N : News h₀ L s.heap news) (hm : (l, listOf vs.toArray n) ∈ news) (hv : s.heap.IsList v ws.toArray) (pl : IsPart va (some a)) (pu : IsPart vb (some b)) (h0 : 0 ≤ a) (h1 : a ≤ b) (h2 : b ≤ vs.length) (hz : vs.length + ws.length ≤ 1000000)
    (U : ∀ zs n', Upd l (listOf vs.toArray n) (listOf (List.toArray zs) n') news (news' zs n'))
    (h : ∀ zs n' h', zs = vs.take a.toNat ++ ws ++ vs.drop b.toNat → (zs.length : Int) = vs.length - (b - a) + ws.length → Fr h₀ L h' m → News h₀ L h' (news' zs n') → Q () { s with heap := h' }) :
    wpAny (model prog w) A (setItem (.ref l) (.ref s.heap.objs.size) (.ref v)) Q E { s with heap := s.heap.push { cls := .type "slice", data := .fields #[va, vb, .none] } } := by
  have hl : s.heap.IsList l vs.toArray := isList_of (N _ hm).1
  refine sl_set (s := { s with heap := s.heap.push { cls := .type "slice", data := .fields #[va, vb, .none] } }) (hl.push _) (hv.push _) (Heap.IsSliceOf.new ..) pl pu h0 h1 (by simpa using h2) (by have := room_2 hz; simpa using this) ?_
  have N1 : News h₀ L (s.heap.push { cls := .type "slice", data := .fields #[va, vb, .none] }) news := fun p hp => ⟨Heap.get?_push_of_some _ (N p hp).1, (N p hp).2⟩
  have F1 := F.push { cls := .type "slice", data := .fields #[va, vb, .none] }
  obtain ⟨n', en'⟩ : ∃ n', Obj.mapSeq (fun xs => xs.extract 0 a.toNat ++ ws.toArray ++ xs.extract b.toNat xs.size) (listOf vs.toArray n) = listOf (vs.take a.toNat ++ ws ++ vs.drop b.toNat).toArray n' := by
    have q : vs.toArray.extract 0 a.toNat ++ ws.toArray ++ vs.toArray.extract b.toNat vs.toArray.size = (vs.take a.toNat ++ ws ++ vs.drop b.toNat).toArray := by
      apply Array.toList_inj.mp
      simp
      exact List.take_of_length_le (by rw [List.length_drop]; omega)
    have gen : ∀ (X Y : Array Value) (e : X = Y) (k : Nat), Obj.mk (Value.type "list") none (Data.seq X k) #[] = listOf Y k := by rintro _ _ rfl _; rfl
    exact ⟨_, gen _ _ q _⟩
  obtain ⟨pre, post, e1, e2, q1, q2⟩ := (U (vs.take a.toNat ++ ws ++ vs.drop b.toNat) n').split
  rw [e1] at N1
  obtain ⟨F2, N2⟩ := news_upd (o' := listOf (vs.take a.toNat ++ ws ++ vs.drop b.toNat).toArray n') F1 N1 q1 q2 en' rfl
  rw [← e2] at N2
  exact h _ n' _ rfl (by simp only [List.length_append, List.length_take, List.length_drop]; exact cat_len h0 h1 h2) F2 N2
theorem add_vs {Q : Value → Shared → Prop} {l2 : Addr} (F : Fr h₀ L s.heap m) (N : News h₀ L s.heap news) (ha : s.heap.IsList l vs.toArray) (hb : s.heap.IsList l2 ws.toArray) (hz : vs.length + ws.length ≤ 1000000)
    (h : ∀ D zs h', zs = vs ++ ws → (zs.length : Int) = vs.length + ws.length → Fr h₀ L h' m → News h₀ L h' ((D, listOf (List.toArray zs) 0) :: news) → NeAll D news → Q (.ref D) { s with heap := h' }) :
    wpAny (model prog w) A (binaryOp .Add (.ref l) (.ref l2)) Q E s :=
  kmk_add_lit F N ha hb rfl (fun D h' F' N' l1 => h D _ h' rfl (by simp) F' N' (neAll_of l1)) (room_2 hz)
theorem len_vs {Q : Value → Shared → Prop} (hl : s.heap.IsList l vs.toArray) (hz : vs.length ≤ 1000000)
    (h : ∀ t, Q (.int (vs.length : Int) t) { s with toks := s.toks + 1 + 1 }) : wpAny (model prog w) A (call (.builtin "len") [.ref l]) Q E s := by
  refine len_list hl (by rw [List.size_toArray]; omega) ?_
  exact h _
theorem mul_one {Q : Value → Shared → Prop} {i x : Int} {t u : Tok} (F : Fr h₀ L s.heap m) (N : News h₀ L s.heap news) (hl : s.heap.IsList l #[.int i t]) (h0 : 0 ≤ x) (h1 : x ≤ 1000000)
    (h : ∀ D zs h', (zs.length : Int) = x → Fr h₀ L h' m → News h₀ L h' ((D, listOf (List.toArray zs) 0) :: news) → NeAll D news → Q (.ref D) { s with heap := h' }) :
    wpAny (model prog w) A (binaryOp .Mult (.ref l) (.int x u)) Q E s := by
  refine KM.mul (vs := [.int i t]) (ns := [i]) F N hl (.cons i t .nil) (by omega) (by omega) (by simp; omega) ?_
  intro D h' F' N' l1 i1 n1 s1 e1 e2 e3
  refine h D _ h' ?_ F' N' (neAll_of l1)
  rw [i1.length, e1]
  have := e3 h0
  simpa using this
end
noncomputable def gapEs (P : Params) (t : Nat → Tok) (r c : Value) (gs ge : Int) (u v : Tok) : List DictEntry := [en P "room" (t 0) r, en P "cells" (t 1) c, en P "gap_start" (t 2) (.int gs u), en P "gap_end" (t 3) (.int ge v)]
noncomputable abbrev gapL (w : World) (gd c : Addr) (t : Nat → Tok) (r : Value) (cells : List Value) (nc : Nat) (gs ge : Int) (u v : Tok) : List (Addr × Obj) :=
  [(gd, dictOf (gapEs w.params t r (.ref c) gs ge u v) 4), (c, listOf cells.toArray nc)]
section
open N_Gc
namespace move_specN
abbrev zS (w : World) (g gd c : Addr) (t : Nat → Tok) (r : Value) (cells : List Value) (nc : Nat) (gs ge a : Int) (u v t1 : Tok) : Prop := Spec w 10 100 355 [.ref g, .int a t1] (gapL w gd c t r cells nc gs ge u v) (fun h => h.get? g = some (instObj 400 gd)) (fun h v h' => ∃ cells' nc' ge' u' v', At h' (gapL w gd c t r cells' nc' a ge' u' v') ∧ ge' = ge + a - gs ∧ cells'.length = cells.length ∧ txt cells' a ge' = txt cells gs ge)
def zP (w : World) (g gd c : Addr) (t : Nat → Tok) (r : Value) (cells : List Value) (nc : Nat) (gs ge a : Int) (u v t1 : Tok) : Prop := ∀ (c2 : gd ≠ c) (h0 : 0 ≤ a) (h2 : a ≤ cells.length - ge + gs) (h3 : 0 ≤ gs) (h4 : gs ≤ ge) (h5 : ge ≤ cells.length) (h6 : cells.length ≤ 400000), zS w g gd c t r cells nc gs ge a u v t1
abbrev zT := (World × Addr × Addr × Addr) × ((Nat → Tok) × Value × (List Value) × Nat) × (Int × Int × Int × Tok) × (Tok × Tok)
def zQ (x : zT) : Prop := zP x.1.1 x.1.2.1 x.1.2.2.1 x.1.2.2.2 x.2.1.1 x.2.1.2.1 x.2.1.2.2.1 x.2.1.2.2.2 x.2.2.1.1 x.2.2.1.2.1 x.2.2.1.2.2.1 x.2.2.1.2.2.2 x.2.2.2.1 x.2.2.2.2
theorem zne : Nonempty zT := by k_extra "zne"
def zX : zT := pk zne zQ
def zR : Red2 (zS zX.1.1 zX.1.2.1 zX.1.2.2.1 zX.1.2.2.2 zX.2.1.1 zX.2.1.2.1 zX.2.1.2.2.1 zX.2.1.2.2.2 zX.2.2.1.1 zX.2.2.1.2.1 zX.2.2.1.2.2.1 zX.2.2.1.2.2.2 zX.2.2.2.1 zX.2.2.2.2) SD ED := by k_extra "zR"
def zY : SD × ED := pk ED.ne fun x => zR.1 x.1 x.2
theorem body : zQ zX := by
  intro c2 h0 h2 h3 h4 h5 h6
  refine zR.2 fun zd ze => pk_all (n := ED.ne) (P := fun x => zR.1 x.1 x.2) ?_ (zd, ze)
  show zR.1 zY.1 zY.2
  delta zR; dsimp only
  delta BodyAt; dsimp only
  intro B F X N T hk hd hu hp ret dA uA hin back F' N' B' X' T'
  have hA : At zY.2.g [(zX.1.2.1, instObj 400 zX.1.2.2.1)] := ⟨hin _ _ hp (notin_of N hp rfl), trivial⟩
  replace F' : Fr zY.2.g zY.2.L zY.2.h (fun y => List.lookup y [(Str.ofString "at", Value.int zX.2.2.1.2.2.1 zX.2.2.2.2), (Str.ofString "self", Value.ref zX.1.2.1)]) := F'
  dsimp only [gapL] at N'
  (try dsimp only)
  (try k_fold)
  k_steps
  all_goals (refine leaveC_of (by assumption) hin back fun kF kept => ?_; try dsimp only; refine ret _ _ _ kF kept ⟨_, _, _, _, _, ⟨News.get (by assumption) (by k_mem), News.get (by assumption) (by k_mem), trivial⟩, ?_, ?_, ?_⟩)
  all_goals first | omega | exact move_lo' (by assumption) (by assumption) (by assumption) h0 (by assumption) h4 h5 | exact move_hi' (by assumption) (by assumption) (by assumption) h3 (by assumption) h2 h4 h5
end move_specN
theorem move_spec (w g gd c t r cells nc gs ge a u v t1) : move_specN.zP w g gd c t r cells nc gs ge a u v t1 := pk_all (n := move_specN.zne) (P := move_specN.zQ) move_specN.body ((w, g, gd, c), (t, r, cells, nc), (gs, ge, a, u), (v, t1))
end
section
open N_Ge
namespace gapins_specN
abbrev zS (w : World) (g gd c cl : Addr) (t : Nat → Tok) (r : Int) (rt : Tok) (cells codes : List Value) (nc nk : Nat) (gs ge a : Int) (u v t1 : Tok) : Prop := Spec w 20 200 369 [.ref g, .int a t1, .ref cl] (gapL w gd c t (.int r rt) cells nc gs ge u v) (fun h => h.get? g = some (instObj 400 gd) ∧ h.get? cl = some (listOf codes.toArray nk)) (fun h x h' => x = .none ∧ ∃ cells' nc' gs' ge' u' v', At h' (gapL w gd c t (.int r rt) cells' nc' gs' ge' u' v') ∧ 0 ≤ gs' ∧ gs' ≤ ge' ∧ ge' ≤ cells'.length ∧ cells'.length ≤ cells.length + codes.length + r ∧ txt cells' gs' ge' = (txt cells gs ge).take a.toNat ++ codes ++ (txt cells gs ge).drop a.toNat)
def zP (w : World) (g gd c cl : Addr) (t : Nat → Tok) (r : Int) (rt : Tok) (cells codes : List Value) (nc nk : Nat) (gs ge a : Int) (u v t1 : Tok) : Prop := ∀ (c2 : gd ≠ c) (c3 : cl ≠ c) (h0 : 0 ≤ a) (h2 : a ≤ cells.length - ge + gs) (h3 : 0 ≤ gs) (h4 : gs ≤ ge) (h5 : ge ≤ cells.length) (h6 : cells.length ≤ 200000) (h7 : codes.length ≤ 1000) (h8 : 0 ≤ r) (h9 : r ≤ 100), zS w g gd c cl t r rt cells codes nc nk gs ge a u v t1
abbrev zT := (World × Addr × Addr × Addr) × (Addr × (Nat → Tok) × Int × Tok) × ((List Value) × (List Value) × Nat × Nat) × (Int × Int × Int × Tok) × (Tok × Tok)
def zQ (x : zT) : Prop := zP x.1.1 x.1.2.1 x.1.2.2.1 x.1.2.2.2 x.2.1.1 x.2.1.2.1 x.2.1.2.2.1 x.2.1.2.2.2 x.2.2.1.1 x.2.2.1.2.1 x.2.2.1.2.2.1 x.2.2.1.2.2.2 x.2.2.2.1.1 x.2.2.2.1.2.1 x.2.2.2.1.2.2.1 x.2.2.2.1.2.2.2 x.2.2.2.2.1 x.2.2.2.2.2
theorem zne : Nonempty zT := by k_extra "zne"
def zX : zT := pk zne zQ
def zR : Red2 (zS zX.1.1 zX.1.2.1 zX.1.2.2.1 zX.1.2.2.2 zX.2.1.1 zX.2.1.2.1 zX.2.1.2.2.1 zX.2.1.2.2.2 zX.2.2.1.1 zX.2.2.1.2.1 zX.2.2.1.2.2.1 zX.2.2.1.2.2.2 zX.2.2.2.1.1 zX.2.2.2.1.2.1 zX.2.2.2.1.2.2.1 zX.2.2.2.1.2.2.2 zX.2.2.2.2.1 zX.2.2.2.2.2) SD ED := by k_extra "zR"
def zY : SD × ED := pk ED.ne fun x => zR.1 x.1 x.2
theorem body : zQ zX := by
  intro c2 c3 h0 h2 h3 h4 h5 h6 h7 h8 h9
  refine zR.2 fun zd ze => pk_all (n := ED.ne) (P := fun x => zR.1 x.1 x.2) ?_ (zd, ze)
  show zR.1 zY.1 zY.2
  delta zR; dsimp only
  delta BodyAt; dsimp only
  intro B F X N T hk hd hu hp ret dA uA hin back F' N' B' X' T'
  obtain ⟨p1, p2⟩ := hp
  have hA : At zY.2.g [(zX.1.2.1, instObj 400 zX.1.2.2.1), (zX.2.1.1, listOf zX.2.2.1.2.1.toArray zX.2.2.1.2.2.2)] := ⟨hin _ _ p1 (notin_of N p1 rfl), hin _ _ p2 (by simp only [gapL, List.map_cons, List.map_nil, List.mem_cons, List.not_mem_nil, or_false, not_or]; exact ⟨ne_of_kind p2 (N _ (.head _)).1 rfl, c3⟩), trivial⟩
  replace F' : Fr zY.2.g zY.2.L zY.2.h (fun y => List.lookup y [(Str.ofString "codes", Value.ref zX.2.1.1), (Str.ofString "at", Value.int zX.2.2.2.1.2.2.1 zX.2.2.2.2.2), (Str.ofString "self", Value.ref zX.1.2.1)]) := F'
  dsimp only [gapL] at N'
  (try dsimp only)
  (try k_fold)
  k_steps
  all_goals (refine leaveC_of (by assumption) hin back fun kF kept => ?_; try dsimp only; refine ret _ _ _ kF kept ⟨rfl, _, _, _, _, _, _, ⟨News.get (by assumption) (by k_mem), News.get (by assumption) (by k_mem), trivial⟩, ?_, ?_, ?_, ?_, ?_⟩)
  all_goals first | omega | exact store_txt (by assumption) h0 (by omega) (by omega) (by assumption) | exact store_txt (by assumption) h0 (by omega) (by omega) (Eq.trans (by assumption) (widen_txt (by assumption) h3 h4 h5 (by omega)))
end gapins_specN
theorem gapins_spec (w g gd c cl t r rt cells codes nc nk gs ge a u v t1) : gapins_specN.zP w g gd c cl t r rt cells codes nc nk gs ge a u v t1 := pk_all (n := gapins_specN.zne) (P := gapins_specN.zQ) gapins_specN.body ((w, g, gd, c), (cl, t, r, rt), (cells, codes, nc, nk), (gs, ge, a, u), (v, t1))
end
section
open N_Ga
theorem seg_lo' {α : Type} {cells zs : List α} {gs ge a b : Int} (e : zs = (cells.drop a.toNat).take (b - a).toNat) (h0 : 0 ≤ a) (h1 : a ≤ b) (h3 : 0 ≤ gs) (h4 : gs ≤ ge) (h5 : ge ≤ cells.length) (h : b ≤ gs) : zs = ((txt cells gs ge).drop a.toNat).take (b - a).toNat := e.trans (seg_lo h0 h1 h3 h4 h5 h)
theorem seg_hi' {α : Type} {cells zs : List α} {gs ge a b : Int} (e : zs = (cells.drop (a + (ge - gs)).toNat).take (b + (ge - gs) - (a + (ge - gs))).toNat) (h0 : 0 ≤ a) (h1 : a ≤ b) (h3 : 0 ≤ gs) (h4 : gs ≤ ge) (h5 : ge ≤ cells.length) (h : gs ≤ a) : zs = ((txt cells gs ge).drop a.toNat).take (b - a).toNat := e.trans (seg_hi h0 h1 h3 h4 h5 h)
theorem seg_mid' {α : Type} {cells zs z1 z2 : List α} {gs ge a b : Int} (e1 : z1 = (cells.drop a.toNat).take (gs - a).toNat) (e2 : z2 = (cells.drop ge.toNat).take (b + (ge - gs) - ge).toNat) (e : zs = z1 ++ z2) (h0 : 0 ≤ a) (h1 : a ≤ b) (h2 : b ≤ cells.length - ge + gs) (h3 : 0 ≤ gs) (h4 : gs ≤ ge) (h5 : ge ≤ cells.length) (ha : a ≤ gs) (hb : gs ≤ b) : zs = ((txt cells gs ge).drop a.toNat).take (b - a).toNat := by
  subst e e1 e2
  exact seg_mid h0 h1 h2 h3 h4 h5 ha hb
namespace codes_specN
abbrev zS (w : World) (g gd c : Addr) (t : Nat → Tok) (r : Value) (cells : List Value) (nc : Nat) (gs ge a b : Int) (u v t1 t2 : Tok) : Prop := Spec w 10 100 348 [.ref g, .int a t1, .int b t2] [] (fun h => At h ((g, instObj 400 gd) :: gapL w gd c t r cells nc gs ge u v)) (fun h v h' => ∃ x, v = .ref x ∧ h.get? x = none ∧ h'.get? x = some (listOf (((txt cells gs ge).drop a.toNat).take (b - a).toNat).toArray 0))
def zP (w : World) (g gd c : Addr) (t : Nat → Tok) (r : Value) (cells : List Value) (nc : Nat) (gs ge a b : Int) (u v t1 t2 : Tok) : Prop := ∀ (h0 : 0 ≤ a) (h1 : a ≤ b) (h2 : b ≤ cells.length - ge + gs) (h3 : 0 ≤ gs) (h4 : gs ≤ ge) (h5 : ge ≤ cells.length) (h6 : cells.length ≤ 400000), zS w g gd c t r cells nc gs ge a b u v t1 t2
abbrev zT := (World × Addr × Addr × Addr) × ((Nat → Tok) × Value × (List Value) × Nat) × (Int × Int × Int × Int) × (Tok × Tok × Tok × Tok)
def zQ (x : zT) : Prop := zP x.1.1 x.1.2.1 x.1.2.2.1 x.1.2.2.2 x.2.1.1 x.2.1.2.1 x.2.1.2.2.1 x.2.1.2.2.2 x.2.2.1.1 x.2.2.1.2.1 x.2.2.1.2.2.1 x.2.2.1.2.2.2 x.2.2.2.1 x.2.2.2.2.1 x.2.2.2.2.2.1 x.2.2.2.2.2.2
theorem zne : Nonempty zT := by k_extra "zne"
def zX : zT := pk zne zQ
def b := zX.2.2.1.2.2.2
def zR : Red2 (zS zX.1.1 zX.1.2.1 zX.1.2.2.1 zX.1.2.2.2 zX.2.1.1 zX.2.1.2.1 zX.2.1.2.2.1 zX.2.1.2.2.2 zX.2.2.1.1 zX.2.2.1.2.1 zX.2.2.1.2.2.1 b zX.2.2.2.1 zX.2.2.2.2.1 zX.2.2.2.2.2.1 zX.2.2.2.2.2.2) SD ED := by k_extra "zR"
def zY : SD × ED := pk ED.ne fun x => zR.1 x.1 x.2
theorem body : zP zX.1.1 zX.1.2.1 zX.1.2.2.1 zX.1.2.2.2 zX.2.1.1 zX.2.1.2.1 zX.2.1.2.2.1 zX.2.1.2.2.2 zX.2.2.1.1 zX.2.2.1.2.1 zX.2.2.1.2.2.1 b zX.2.2.2.1 zX.2.2.2.2.1 zX.2.2.2.2.2.1 zX.2.2.2.2.2.2 := by
  intro h0 h1 h2 h3 h4 h5 h6
  refine zR.2 fun zd ze => pk_all (n := ED.ne) (P := fun x => zR.1 x.1 x.2) ?_ (zd, ze)
  show zR.1 zY.1 zY.2
  delta zR; dsimp only
  delta BodyAt; dsimp only
  intro B F X N T hk hd hu hp ret dA uA hin back F' N' B' X' T'
  have hA : At zY.2.g [(zX.1.2.1, instObj 400 zX.1.2.2.1), (zX.1.2.2.1, dictOf (gapEs zX.1.1.params zX.2.1.1 zX.2.1.2.1 (.ref zX.1.2.2.2) zX.2.2.1.1 zX.2.2.1.2.1 zX.2.2.2.1 zX.2.2.2.2.1) 4), (zX.1.2.2.2, listOf zX.2.1.2.2.1.toArray zX.2.1.2.2.2)] := At.keep hp fun b o e => hin b o e (by simp)
  replace F' : Fr zY.2.g zY.2.L zY.2.h (fun y => List.lookup y [(Str.ofString "end", Value.int b zX.2.2.2.2.2.2), (Str.ofString "start", Value.int zX.2.2.1.2.2.1 zX.2.2.2.2.2.1), (Str.ofString "self", Value.ref zX.1.2.1)]) := F'
  (try dsimp only)
  (try k_fold)
  k_steps
  all_goals (refine leaveC_of (by assumption) hin back fun kF kept => ?_; try dsimp only; refine ret _ _ _ kF kept ⟨_, rfl, free_of hin (by assumption) (.head _) (by simp), ?_⟩; refine Eq.trans (News.get (by assumption) (.head _)) ?_; refine congrArg (fun z => some (listOf (List.toArray z) 0)) ?_)
  all_goals first | exact seg_lo' (by assumption) h0 h1 h3 h4 h5 (by omega) | exact seg_hi' (by assumption) h0 h1 h3 h4 h5 (by omega) | exact seg_mid' (by assumption) (by assumption) (by assumption) h0 h1 h2 h3 h4 h5 (by omega) (by omega)
end codes_specN
theorem codes_spec (w g gd c t r cells nc gs ge a b u v t1 t2) : codes_specN.zP w g gd c t r cells nc gs ge a b u v t1 t2 := pk_all (n := codes_specN.zne) (P := codes_specN.zQ) codes_specN.body ((w, g, gd, c), (t, r, cells, nc), (gs, ge, a, b), (u, v, t1, t2))
end
section
open N_Gg
namespace gapdel_specN
abbrev zS (w : World) (g gd c : Addr) (t : Nat → Tok) (r : Value) (cells : List Value) (nc : Nat) (gs ge a b : Int) (u v t1 t2 : Tok) : Prop := Spec w 20 200 376 [.ref g, .int a t1, .int b t2] (gapL w gd c t r cells nc gs ge u v) (fun h => h.get? g = some (instObj 400 gd)) (fun h x h' => ∃ d cells' nc' gs' ge' u' v', x = .ref d ∧ h.get? d = none ∧ h'.get? d = some (listOf (((txt cells gs ge).drop a.toNat).take (b - a).toNat).toArray 0) ∧ At h' (gapL w gd c t r cells' nc' gs' ge' u' v') ∧ 0 ≤ gs' ∧ gs' ≤ ge' ∧ ge' ≤ cells'.length ∧ cells'.length = cells.length ∧ txt cells' gs' ge' = (txt cells gs ge).take a.toNat ++ (txt cells gs ge).drop b.toNat)
def zP (w : World) (g gd c : Addr) (t : Nat → Tok) (r : Value) (cells : List Value) (nc : Nat) (gs ge a b : Int) (u v t1 t2 : Tok) : Prop := ∀ (c2 : gd ≠ c) (h0 : 0 ≤ a) (h1 : a ≤ b) (h2 : b ≤ cells.length - ge + gs) (h3 : 0 ≤ gs) (h4 : gs ≤ ge) (h5 : ge ≤ cells.length) (h6 : cells.length ≤ 400000), zS w g gd c t r cells nc gs ge a b u v t1 t2
abbrev zT := (World × Addr × Addr × Addr) × ((Nat → Tok) × Value × (List Value) × Nat) × (Int × Int × Int × Int) × (Tok × Tok × Tok × Tok)
def zQ (x : zT) : Prop := zP x.1.1 x.1.2.1 x.1.2.2.1 x.1.2.2.2 x.2.1.1 x.2.1.2.1 x.2.1.2.2.1 x.2.1.2.2.2 x.2.2.1.1 x.2.2.1.2.1 x.2.2.1.2.2.1 x.2.2.1.2.2.2 x.2.2.2.1 x.2.2.2.2.1 x.2.2.2.2.2.1 x.2.2.2.2.2.2
theorem zne : Nonempty zT := by k_extra "zne"
def zX : zT := pk zne zQ
def zR : Red2 (zS zX.1.1 zX.1.2.1 zX.1.2.2.1 zX.1.2.2.2 zX.2.1.1 zX.2.1.2.1 zX.2.1.2.2.1 zX.2.1.2.2.2 zX.2.2.1.1 zX.2.2.1.2.1 zX.2.2.1.2.2.1 zX.2.2.1.2.2.2 zX.2.2.2.1 zX.2.2.2.2.1 zX.2.2.2.2.2.1 zX.2.2.2.2.2.2) SD ED := by k_extra "zR"
def zY : SD × ED := pk ED.ne fun x => zR.1 x.1 x.2
theorem body : zQ zX := by
  intro c2 h0 h1 h2 h3 h4 h5 h6
  refine zR.2 fun zd ze => pk_all (n := ED.ne) (P := fun x => zR.1 x.1 x.2) ?_ (zd, ze)
  show zR.1 zY.1 zY.2
  delta zR; dsimp only
  delta BodyAt; dsimp only
  intro B F X N T hk hd hu hp ret dA uA hin back F' N' B' X' T'
  have hA : At zY.2.g [(zX.1.2.1, instObj 400 zX.1.2.2.1)] := ⟨hin _ _ hp (notin_of N hp rfl), trivial⟩
  replace F' : Fr zY.2.g zY.2.L zY.2.h (fun y => List.lookup y [(Str.ofString "end", Value.int zX.2.2.1.2.2.2 zX.2.2.2.2.2.2), (Str.ofString "start", Value.int zX.2.2.1.2.2.1 zX.2.2.2.2.2.1), (Str.ofString "self", Value.ref zX.1.2.1)]) := F'
  dsimp only [gapL] at N'
  (try dsimp only)
  (try k_fold)
  k_steps
  all_goals (refine leaveC_of (by assumption) hin back fun kF kept => ?_; try dsimp only; refine ret _ _ _ kF kept ⟨_, _, _, _, _, _, _, rfl, free_of hin (by assumption) (List.Mem.head _) (by k_extra "C.notin"), News.get (by assumption) (List.Mem.head _), ⟨News.get (by assumption) (by k_mem), News.get (by assumption) (by k_mem), trivial⟩, ?_, ?_, ?_, ?_, ?_⟩)
  all_goals first | assumption | omega | exact del_txt (by assumption) h0 h1 (by omega) (by omega) (by omega) (by omega) (by omega) (by omega) | exact del_txt rfl h0 h1 (by omega) (by omega) (by omega) (by omega) (by omega) (by omega)
end gapdel_specN
theorem gapdel_spec (w g gd c t r cells nc gs ge a b u v t1 t2) : gapdel_specN.zP w g gd c t r cells nc gs ge a b u v t1 t2 := pk_all (n := gapdel_specN.zne) (P := gapdel_specN.zQ) gapdel_specN.body ((w, g, gd, c), (t, r, cells, nc), (gs, ge, a, b), (u, v, t1, t2))
end
section
open N_Mk
section
variable {prog : Program} {w : World} {A : Around} {E : Value → Shared → Prop} {s : Shared} {d : Addr} {h₀ : Heap} {L : Addr} {m : Str → Option Value} {news : List (Addr × Obj)} {Q : Value → Shared → Prop} {k : Int} {x : Value} {o : Obj}
theorem sort0 {D : Addr} {n : Nat} {Q : Value → Shared → Prop} (F : Fr h₀ L s.heap m) (N : News h₀ L s.heap ((D, listOf #[] n) :: news)) (l1 : ∀ q ∈ news, q.1 < D)
    (h : ∀ h' n', Fr h₀ L h' m → News h₀ L h' ((D, listOf #[] n') :: news) → Q .none { s with heap := h' }) : wpAny (model prog w) A (call (.builtin "list.sort") [.ref D]) Q E s := by
  have z := N (D, listOf #[] n) (.head _)
  have ho : s.heap.get? D = some (seqObj "list" ([] : List Value).toArray n) := z.1
  refine wpAny_call_entry PyProof.Rows.slot_list_sort ⟨_, z.1, rfl⟩ PyProof.Rows.entry_list_sort (list_sort_tree (n := n) (vs := []) ho .nil (by decide) fun out ns' hI hp hP => ⟨.none, rfl, ?_⟩) (PyProof.Rows.args_list_sort _)
  have ens : ns' = [] := hp.eq_nil
  subst ens
  have eo : out = #[] := by
    cases out with
    | mk l => cases hI; rfl
  subst eo
  have b : ∀ p ∈ news, p.1 ≠ D := fun p hp => Nat.ne_of_lt (l1 p hp)
  have F1 : Fr h₀ L (s.heap.update D (Obj.mapSeq fun _ => (#[] : Array Value))) m := F.change (Heap.SameBut.update ..) z.2.1 z.2.2
  have N1 := ki_turn (pre := []) (fun _ => (#[] : Array Value)) (its' := #[]) (n' := n) N (by simp) b rfl rfl
  have N2 := News.grown N1 fun _ _ e => Heap.get?_push_of_some (seqObj "tuple" ([] : List Value).toArray 0) e
  have N3 := News.grown N2 fun _ _ e => Heap.get?_push_of_some (seqObj "list" #[] 0) e
  have N4 := ki_turn (pre := []) (fun _ => (#[] : Array Value)) (its' := #[]) (n' := n) N3 (by simp) b rfl rfl
  have F4 : Fr h₀ L ((((s.heap.update D (Obj.mapSeq fun _ => (#[] : Array Value))).push (seqObj "tuple" ([] : List Value).toArray 0)).push (seqObj "list" #[] 0)).update D (Obj.mapSeq fun _ => (#[] : Array Value))) m :=
    ((F1.push (seqObj "tuple" ([] : List Value).toArray 0)).push (seqObj "list" #[] 0)).change (Heap.SameBut.update ..) z.2.1 z.2.2
  exact h _ n F4 N4
theorem sorted1 (hh : A.handled = none) (F : Fr h₀ L s.heap m) (N : News h₀ L s.heap news) (hp : (d, o) ∈ news) (hd : o.IsDictOf (intKind prog w) [(1, x)]) (lo : (d == sysModules) = false)
    (h : ∀ (D : Addr) (h' : Heap) (tk : Nat) (t : Tok) (n : Nat), Fr h₀ L h' m → News h₀ L h' ((D, listOf #[Value.int 1 t] n) :: news) → (∀ q ∈ news, q.1 < D) → Q (.ref D) { s with heap := h', toks := tk }) :
    wpAny (model prog w) A (call (.builtin "sorted") [.ref d]) Q E s := by
  obtain ⟨ep, hat⟩ := (kda_dict N hp hd).dictAt
  refine kdu_sorted (kdl_dict (knd := intKind prog w) (kvs := [(1, x)]) (ep := ep) lo) hh F N hat (kdl_size (n := 1) (by decide)) fun B h' tk vs F' N' l1 hl hv => ?_
  obtain ⟨v, e0⟩ : ∃ v, vs = [v] := List.length_eq_one_iff.mp hl
  subst e0
  obtain ⟨k', x', e, hk⟩ := hv 0 v rfl
  cases e
  obtain ⟨t, rfl⟩ := Value.isInt_shape hk
  exact lks_sort (q := [1]) (n := 0) (news' := fun t => (B, listOf #[Value.int 1 (t 0)] 2) :: news) F' N' (fun t => .head fun p hp => Nat.ne_of_lt (l1 p hp)) rfl rfl rfl (show 1 < 64 by decide) fun t h' F' N' => h B h' tk (t 0) 2 F' N' l1
theorem sorted0 (hh : A.handled = none) (F : Fr h₀ L s.heap m) (N : News h₀ L s.heap news) (hp : (d, o) ∈ news) (hd : o.IsDictOf (intKind prog w) []) (lo : (d == sysModules) = false)
    (h : ∀ (D : Addr) (h' : Heap) (tk : Nat) (n : Nat), Fr h₀ L h' m → News h₀ L h' ((D, listOf #[] n) :: news) → (∀ q ∈ news, q.1 < D) → Q (.ref D) { s with heap := h', toks := tk }) :
    wpAny (model prog w) A (call (.builtin "sorted") [.ref d]) Q E s := by
  obtain ⟨ep, hat⟩ := (kda_dict N hp hd).dictAt
  refine kdu_sorted (kdl_dict (knd := intKind prog w) (kvs := []) (ep := ep) lo) hh F N hat (kdl_size (n := 0) (by decide)) fun B h' tk vs F' N' l1 hl hv => ?_
  have e0 : vs = [] := List.eq_nil_of_length_eq_zero hl
  subst e0
  exact sort0 F' N' l1 fun h' n' F' N' => h B h' tk n' F' N' l1
end
noncomputable def mkEs (P : Params) (t : Nat → Tok) (adv : Bool) (bv : Value) (pos : Int) (u v : Tok) : List DictEntry := [en P "number" (t 0) (.int 1 u), en P "advances" (t 1) (.bool adv), en P "buffer" (t 2) bv, en P "position" (t 3) (.int pos v)]
noncomputable abbrev mkL (w : World) (mkd kr : Addr) (t : Nat → Tok) (adv : Bool) (bv : Value) (pos : Int) (u v : Tok) (okr : Obj) : List (Addr × Obj) :=
  [(mkd, dictOf (mkEs w.params t adv bv pos u v) 4), (kr, okr)]
noncomputable def ksEs (P : Params) (t : Tok) (kr : Addr) : List DictEntry := [en P "rows" t (.ref kr)]
theorem mk_end {w : World} {h₀ h : Heap} {L mkd kr : Addr} {t : Nat → Tok} {adv : Bool} {bv : Value} {pos : Int} {u : Tok} {okr : Obj} {kvs : List (Int × Value)} {pos' : Int} {v' : Tok} {news : List (Addr × Obj)} {x : Value} (N : News h₀ L h news) (h1 : (mkd, dictOf (mkEs w.params t adv bv pos' u v') 4) ∈ news) (h2 : (kr, okr) ∈ news) (hx : x = .none) (hp : kvs = [] → pos' = pos) :
    x = .none ∧ ∃ pos' v', At h (mkL w mkd kr t adv bv pos' u v' okr) ∧ (kvs = [] → pos' = pos) := ⟨hx, pos', v', ⟨(N _ h1).1, (N _ h2).1, trivial⟩, hp⟩
namespace inserted_specN
def zP (w : World) (k kd kr mk mkd : Addr) (tk : Tok) (t : Nat → Tok) (adv : Bool) (bv : Value) (pos st e : Int) (u v t1 t2 : Tok) (bf : Bool) (okr : Obj) : Prop := ∀ (kvs : List (Int × Value)) (lo : (kr == sysModules) = false) (hkr : okr.IsDictOf (intKind pw w) kvs) (hkv : kvs = [] ∨ kvs = [(1, .ref mk)]) (c1 : mkd ≠ kr) (hm1 : mk ≠ mkd) (hm2 : mk ≠ kr) (hm3 : k ≠ kr) (hm4 : kd ≠ kr) (hm5 : kd ≠ mkd) (hm6 : k ≠ mkd), Spec w 20 200 528 [.ref k, .int st t1, .int e t2, .bool bf] (mkL w mkd kr t adv bv pos u v okr) (fun h => At h [(k, instObj 545 kd), (kd, dictOf (ksEs w.params tk kr) 1), (mk, instObj 477 mkd)]) (fun h x h' => x = .none ∧ ∃ pos' v', At h' (mkL w mkd kr t adv bv pos' u v' okr) ∧ (kvs = [] → pos' = pos))
abbrev zT := (World × Addr × Addr × Addr) × (Addr × Addr × Tok × (Nat → Tok)) × (Bool × Value × Int × Int) × (Int × Tok × Tok × Tok) × (Tok × Bool × Obj)
def zQ (x : zT) : Prop := zP x.1.1 x.1.2.1 x.1.2.2.1 x.1.2.2.2 x.2.1.1 x.2.1.2.1 x.2.1.2.2.1 x.2.1.2.2.2 x.2.2.1.1 x.2.2.1.2.1 x.2.2.1.2.2.1 x.2.2.1.2.2.2 x.2.2.2.1.1 x.2.2.2.1.2.1 x.2.2.2.1.2.2.1 x.2.2.2.1.2.2.2 x.2.2.2.2.1 x.2.2.2.2.2.1 x.2.2.2.2.2.2
theorem zne : Nonempty zT := by k_extra "zne"
def zX : zT := pk zne zQ
def zR : Red2 (zP zX.1.1 zX.1.2.1 zX.1.2.2.1 zX.1.2.2.2 zX.2.1.1 zX.2.1.2.1 zX.2.1.2.2.1 zX.2.1.2.2.2 zX.2.2.1.1 zX.2.2.1.2.1 zX.2.2.1.2.2.1 zX.2.2.1.2.2.2 zX.2.2.2.1.1 zX.2.2.2.1.2.1 zX.2.2.2.1.2.2.1 zX.2.2.2.1.2.2.2 zX.2.2.2.2.1 zX.2.2.2.2.2.1 zX.2.2.2.2.2.2) SD ED := by
  apply Subtype.mk; intro H kvs lo hkr hkv c1 hm1 hm2 hm3 hm4 hm5 hm6; refine spec_at fun d => ?_; intro B F X N T hk hd hu hp ret
  refine wpAny_call ?_; k_extra "C.enter"; refine ed_intro fun e => ?_; (try dsimp only)
  revert kvs lo hkr hkv c1 hm1 hm2 hm3 hm4 hm5 hm6 B F X N T hk hd hu hp ret; exact H d e
def zY : SD × ED := pk ED.ne fun x => zR.1 x.1 x.2
theorem body : zQ zX := by
  refine zR.2 fun zd ze => pk_all (n := ED.ne) (P := fun x => zR.1 x.1 x.2) ?_ (zd, ze)
  show zR.1 zY.1 zY.2
  delta zR; dsimp only
  intro kvs lo hkr hkv c1 hm1 hm2 hm3 hm4 hm5 hm6 B F X N T hk hd hu hp ret hin hout hsz back F' N' B' X' T'
  clear hout hsz
  have hA : At zY.2.g [(zX.1.2.1, instObj 545 zX.1.2.2.1), (zX.1.2.2.1, dictOf (ksEs zX.1.1.params zX.2.1.2.2.1 zX.1.2.2.2) 1), (zX.2.1.1, instObj 477 zX.2.1.2.1)] := ⟨hin _ _ hp.1 (by k_extra "C.notin"), hin _ _ hp.2.1 (by k_extra "C.notin"), hin _ _ hp.2.2.1 (by k_extra "C.notin"), trivial⟩
  replace F' : Fr zY.2.g zY.2.L zY.2.h (fun y => List.lookup y [(Str.ofString "is_before", Value.bool zX.2.2.2.2.2.1), (Str.ofString "end", Value.int zX.2.2.2.1.1 zX.2.2.2.2.1), (Str.ofString "start", Value.int zX.2.2.1.2.2.2 zX.2.2.2.1.2.2.2), (Str.ofString "self", Value.ref zX.1.2.1)]) := F'
  dsimp only [mkL] at N'
  (try dsimp only)
  (try k_fold)
  rcases hkv with hkv | hkv
  all_goals subst hkv
  all_goals k_steps
  all_goals (refine leaveC_of (by assumption) hin back fun kF kept => ?_; try dsimp only; refine ret _ _ _ kF kept (mk_end (by assumption) (by k_mem) (by k_mem) rfl ?_))
  all_goals first | exact fun _ => rfl | (intro hn; cases hn)
end inserted_specN
theorem inserted_spec (w k kd kr mk mkd tk t adv bv pos st e u v t1 t2 bf okr) : inserted_specN.zP w k kd kr mk mkd tk t adv bv pos st e u v t1 t2 bf okr := pk_all (n := inserted_specN.zne) (P := inserted_specN.zQ) inserted_specN.body ((w, k, kd, kr), (mk, mkd, tk, t), (adv, bv, pos, st), (e, u, v, t1), (t2, bf, okr))
namespace deleted_specN
def zP (w : World) (k kd kr mk mkd : Addr) (tk : Tok) (t : Nat → Tok) (adv : Bool) (bv : Value) (pos st e : Int) (u v t1 t2 : Tok) (okr : Obj) : Prop := ∀ (kvs : List (Int × Value)) (lo : (kr == sysModules) = false) (hkr : okr.IsDictOf (intKind pw w) kvs) (hkv : kvs = [] ∨ kvs = [(1, .ref mk)]) (c1 : mkd ≠ kr) (hm1 : mk ≠ mkd) (hm2 : mk ≠ kr) (hm3 : k ≠ kr) (hm4 : kd ≠ kr) (hm5 : kd ≠ mkd) (hm6 : k ≠ mkd), Spec w 20 200 535 [.ref k, .int st t1, .int e t2] (mkL w mkd kr t adv bv pos u v okr) (fun h => At h [(k, instObj 545 kd), (kd, dictOf (ksEs w.params tk kr) 1), (mk, instObj 477 mkd)]) (fun h x h' => x = .none ∧ ∃ pos' v', At h' (mkL w mkd kr t adv bv pos' u v' okr) ∧ (kvs = [] → pos' = pos))
abbrev zT := (World × Addr × Addr × Addr) × (Addr × Addr × Tok × (Nat → Tok)) × (Bool × Value × Int × Int) × (Int × Tok × Tok × Tok) × (Tok × Obj)
def zQ (x : zT) : Prop := zP x.1.1 x.1.2.1 x.1.2.2.1 x.1.2.2.2 x.2.1.1 x.2.1.2.1 x.2.1.2.2.1 x.2.1.2.2.2 x.2.2.1.1 x.2.2.1.2.1 x.2.2.1.2.2.1 x.2.2.1.2.2.2 x.2.2.2.1.1 x.2.2.2.1.2.1 x.2.2.2.1.2.2.1 x.2.2.2.1.2.2.2 x.2.2.2.2.1 x.2.2.2.2.2
theorem zne : Nonempty zT := by k_extra "zne"
def zX : zT := pk zne zQ
def zR : Red2 (zP zX.1.1 zX.1.2.1 zX.1.2.2.1 zX.1.2.2.2 zX.2.1.1 zX.2.1.2.1 zX.2.1.2.2.1 zX.2.1.2.2.2 zX.2.2.1.1 zX.2.2.1.2.1 zX.2.2.1.2.2.1 zX.2.2.1.2.2.2 zX.2.2.2.1.1 zX.2.2.2.1.2.1 zX.2.2.2.1.2.2.1 zX.2.2.2.1.2.2.2 zX.2.2.2.2.1 zX.2.2.2.2.2) SD ED := by
  apply Subtype.mk; intro H kvs lo hkr hkv c1 hm1 hm2 hm3 hm4 hm5 hm6; refine spec_at fun d => ?_; intro B F X N T hk hd hu hp ret
  refine wpAny_call ?_; k_extra "C.enter"; refine ed_intro fun e => ?_; (try dsimp only)
  revert kvs lo hkr hkv c1 hm1 hm2 hm3 hm4 hm5 hm6 B F X N T hk hd hu hp ret; exact H d e
def zY : SD × ED := pk ED.ne fun x => zR.1 x.1 x.2
theorem body : zQ zX := by
  refine zR.2 fun zd ze => pk_all (n := ED.ne) (P := fun x => zR.1 x.1 x.2) ?_ (zd, ze)
  show zR.1 zY.1 zY.2
  delta zR; dsimp only
  intro kvs lo hkr hkv c1 hm1 hm2 hm3 hm4 hm5 hm6 B F X N T hk hd hu hp ret hin hout hsz back F' N' B' X' T'
  clear hout hsz
  have hA : At zY.2.g [(zX.1.2.1, instObj 545 zX.1.2.2.1), (zX.1.2.2.1, dictOf (ksEs zX.1.1.params zX.2.1.2.2.1 zX.1.2.2.2) 1), (zX.2.1.1, instObj 477 zX.2.1.2.1)] := ⟨hin _ _ hp.1 (by k_extra "C.notin"), hin _ _ hp.2.1 (by k_extra "C.notin"), hin _ _ hp.2.2.1 (by k_extra "C.notin"), trivial⟩
  replace F' : Fr zY.2.g zY.2.L zY.2.h (fun y => List.lookup y [(Str.ofString "end", Value.int zX.2.2.2.1.1 zX.2.2.2.2.1), (Str.ofString "start", Value.int zX.2.2.1.2.2.2 zX.2.2.2.1.2.2.2), (Str.ofString "self", Value.ref zX.1.2.1)]) := F'
  dsimp only [mkL] at N'
  (try dsimp only)
  (try k_fold)
  rcases hkv with hkv | hkv
  all_goals subst hkv
  all_goals k_steps
  all_goals (refine leaveC_of (by assumption) hin back fun kF kept => ?_; try dsimp only; refine ret _ _ _ kF kept (mk_end (by assumption) (by k_mem) (by k_mem) rfl ?_))
  all_goals first | exact fun _ => rfl | (intro hn; cases hn)
end deleted_specN
theorem deleted_spec (w k kd kr mk mkd tk t adv bv pos st e u v t1 t2 okr) : deleted_specN.zP w k kd kr mk mkd tk t adv bv pos st e u v t1 t2 okr := pk_all (n := deleted_specN.zne) (P := deleted_specN.zQ) deleted_specN.body ((w, k, kd, kr), (mk, mkd, tk, t), (adv, bv, pos, st), (e, u, v, t1), (t2, okr))
end
section
open N_Mw
theorem wi_end {w : World} {h₀ h hs : Heap} {L mkd kr mk d : Addr} {t : Nat → Tok} {adv : Bool} {bv : Value} {pos : Int} {u v : Tok} {okr : Obj} {kvs : List (Int × Value)} {found : List Value} {n : Nat} {news : List (Addr × Obj)} (N : News h₀ L h news) (h0 : (d, listOf found.toArray n) ∈ news) (h1 : (mkd, dictOf (mkEs w.params t adv bv pos u v) 4) ∈ news) (h2 : (kr, okr) ∈ news) (hf : hs.get? d = none) (hx : found = [] ∨ (found = [.ref mk] ∧ kvs = [(1, .ref mk)])) :
    ∃ d' n found, Value.ref d = .ref d' ∧ hs.get? d' = none ∧ h.get? d' = some (listOf (found : List Value).toArray n) ∧ At h (mkL w mkd kr t adv bv pos u v okr) ∧ (found = [] ∨ (found = [.ref mk] ∧ kvs = [(1, .ref mk)])) := ⟨d, n, found, rfl, hf, (N _ h0).1, ⟨(N _ h1).1, (N _ h2).1, trivial⟩, hx⟩
namespace within_specN
def zP (w : World) (k kd kr mk mkd : Addr) (tk : Tok) (t : Nat → Tok) (adv : Bool) (bv : Value) (pos st e : Int) (u v t1 t2 : Tok) (okr : Obj) : Prop := ∀ (kvs : List (Int × Value)) (lo : (kr == sysModules) = false) (hkr : okr.IsDictOf (intKind pw w) kvs) (hkv : kvs = [] ∨ kvs = [(1, .ref mk)]) (c1 : mkd ≠ kr) (hm1 : mk ≠ mkd) (hm2 : mk ≠ kr) (hm3 : k ≠ kr) (hm4 : kd ≠ kr) (hm5 : kd ≠ mkd) (hm6 : k ≠ mkd), Spec w 20 200 521 [.ref k, .int st t1, .int e t2] (mkL w mkd kr t adv bv pos u v okr) (fun h => At h [(k, instObj 545 kd), (kd, dictOf (ksEs w.params tk kr) 1), (mk, instObj 477 mkd)]) (fun h x h' => ∃ d n found, x = .ref d ∧ h.get? d = none ∧ h'.get? d = some (listOf (found : List Value).toArray n) ∧ At h' (mkL w mkd kr t adv bv pos u v okr) ∧ (found = [] ∨ (found = [.ref mk] ∧ kvs = [(1, .ref mk)])))
abbrev zT := (World × Addr × Addr × Addr) × (Addr × Addr × Tok × (Nat → Tok)) × (Bool × Value × Int × Int) × (Int × Tok × Tok × Tok) × (Tok × Obj)
def zQ (x : zT) : Prop := zP x.1.1 x.1.2.1 x.1.2.2.1 x.1.2.2.2 x.2.1.1 x.2.1.2.1 x.2.1.2.2.1 x.2.1.2.2.2 x.2.2.1.1 x.2.2.1.2.1 x.2.2.1.2.2.1 x.2.2.1.2.2.2 x.2.2.2.1.1 x.2.2.2.1.2.1 x.2.2.2.1.2.2.1 x.2.2.2.1.2.2.2 x.2.2.2.2.1 x.2.2.2.2.2
theorem zne : Nonempty zT := by k_extra "zne"
def zX : zT := pk zne zQ
def zR : Red2 (zP zX.1.1 zX.1.2.1 zX.1.2.2.1 zX.1.2.2.2 zX.2.1.1 zX.2.1.2.1 zX.2.1.2.2.1 zX.2.1.2.2.2 zX.2.2.1.1 zX.2.2.1.2.1 zX.2.2.1.2.2.1 zX.2.2.1.2.2.2 zX.2.2.2.1.1 zX.2.2.2.1.2.1 zX.2.2.2.1.2.2.1 zX.2.2.2.1.2.2.2 zX.2.2.2.2.1 zX.2.2.2.2.2) SD ED := by
  apply Subtype.mk; intro H kvs lo hkr hkv c1 hm1 hm2 hm3 hm4 hm5 hm6; refine spec_at fun d => ?_; intro B F X N T hk hd hu hp ret
  refine wpAny_call ?_; k_extra "C.enter"; refine ed_intro fun e => ?_; (try dsimp only)
  revert kvs lo hkr hkv c1 hm1 hm2 hm3 hm4 hm5 hm6 B F X N T hk hd hu hp ret; exact H d e
def zY : SD × ED := pk ED.ne fun x => zR.1 x.1 x.2
theorem body : zQ zX := by
  refine zR.2 fun zd ze => pk_all (n := ED.ne) (P := fun x => zR.1 x.1 x.2) ?_ (zd, ze)
  show zR.1 zY.1 zY.2
  delta zR; dsimp only
  intro kvs lo hkr hkv c1 hm1 hm2 hm3 hm4 hm5 hm6 B F X N T hk hd hu hp ret hin hout hsz back F' N' B' X' T'
  clear hout hsz
  have hA : At zY.2.g [(zX.1.2.1, instObj 545 zX.1.2.2.1), (zX.1.2.2.1, dictOf (ksEs zX.1.1.params zX.2.1.2.2.1 zX.1.2.2.2) 1), (zX.2.1.1, instObj 477 zX.2.1.2.1)] := ⟨hin _ _ hp.1 (by k_extra "C.notin"), hin _ _ hp.2.1 (by k_extra "C.notin"), hin _ _ hp.2.2.1 (by k_extra "C.notin"), trivial⟩
  replace F' : Fr zY.2.g zY.2.L zY.2.h (fun y => List.lookup y [(Str.ofString "end", Value.int zX.2.2.2.1.1 zX.2.2.2.2.1), (Str.ofString "start", Value.int zX.2.2.1.2.2.2 zX.2.2.2.1.2.2.2), (Str.ofString "self", Value.ref zX.1.2.1)]) := F'
  dsimp only [mkL] at N'
  (try dsimp only)
  (try k_fold)
  rcases hkv with hkv | hkv
  all_goals subst hkv
  all_goals k_steps
  all_goals (try dsimp only)
  all_goals (refine leaveC_of (by assumption) hin back fun kF kept => ?_; try dsimp only)
  all_goals first
    | exact ret _ _ _ kF kept (wi_end (found := []) (by assumption) (by k_mem) (by k_mem) (by k_mem) (free_of hin (by assumption) (by k_mem) (by k_extra "C.notin")) (.inl rfl))
    | exact ret _ _ _ kF kept (wi_end (found := [.ref zX.2.1.1]) (by assumption) (by k_mem) (by k_mem) (by k_mem) (free_of hin (by assumption) (by k_mem) (by k_extra "C.notin")) (.inr ⟨rfl, rfl⟩))
end within_specN
theorem within_spec (w k kd kr mk mkd tk t adv bv pos st e u v t1 t2 okr) : within_specN.zP w k kd kr mk mkd tk t adv bv pos st e u v t1 t2 okr := pk_all (n := within_specN.zne) (P := within_specN.zQ) within_specN.body ((w, k, kd, kr), (mk, mkd, tk, t), (adv, bv, pos, st), (e, u, v, t1), (t2, okr))
end
structure Repl (as : List Addr) (led' l l' : List (Addr × Obj)) : Prop where
  out : ∀ {h₀ h h' : Heap} {L : Addr}, At h' led' → (∀ b o, h.get? b = some o → b ∉ as → h'.get? b = some o) → News h₀ L h l → News h₀ L h' l'
theorem Repl.nil {as : List Addr} {led' : List (Addr × Obj)} : Repl as led' [] [] := ⟨fun _ _ _ => News.nil⟩
theorem Repl.swap {as : List Addr} {led' : List (Addr × Obj)} {a : Addr} {o o' : Obj} {r r' : List (Addr × Obj)} (hm : (a, o') ∈ led') (k : Repl as led' r r') : Repl as led' ((a, o) :: r) ((a, o') :: r') :=
  ⟨fun A kept N => News.cons' (At.mem A _ hm) (N _ (.head _)).2 (k.out A kept fun q hq => N q (.tail _ hq))⟩
theorem Repl.keep {as : List Addr} {led' : List (Addr × Obj)} {p : Addr × Obj} {r r' : List (Addr × Obj)} (hp : p.1 ∉ as) (k : Repl as led' r r') : Repl as led' (p :: r) (p :: r') :=
  ⟨fun A kept N => News.cons' (kept _ _ (N _ (.head _)).1 hp) (N _ (.head _)).2 (k.out A kept fun q hq => N q (.tail _ hq))⟩
theorem Repl.news {h₀ h h' : Heap} {L : Addr} {as : List Addr} {led' : List (Addr × Obj)} (A : At h' led') (kept : ∀ b o, h.get? b = some o → b ∉ as → h'.get? b = some o) {l l' : List (Addr × Obj)} (R : Repl as led' l l') : News h₀ L h l → News h₀ L h' l' := R.out A kept
theorem spec_use2 {w : World} {D U : Nat} {f : Addr} {args : List Value} {led news : List (Addr × Obj)} {pre : Heap → Prop} {post : Heap → Value → Heap → Prop}
    {p : Program} {loose : List Str} {mean : ExcName → Option Value} {mg mb : Str → Option Value} {dp un : Nat} {gd : Option (List Code)} {cn : Str} {cs : Scope} {a : Addr} {ccd : Value} {cl : List (Str × Addr)} {outer : List Env} {A₀ : Around} {base h₀ : Heap} {L : Addr} {m : Str → Option Value} {s : Shared}
    {Q E : Value → Shared → Prop} (S : Spec w D U f args led pre post)
    (B : Below A₀ base outer h₀) (F : Fr h₀ L s.heap m) (X : (KK w.params).In h₀) (N : News h₀ L s.heap news) (T : Top p loose mean mg mb h₀) (hk : cs.kind = .function) (hp : pre s.heap) (sub : Subl led news) (hd : dp + D < recursionLimit) (hu : un + U < cLine)
    (ret : ∀ v h' tk', Fr h₀ L h' m → (∀ led' new, At h' led' → Repl (led.map (·.1)) led' news new → News h₀ L h' new) →
      (∀ x o, s.heap.get? x = none → h'.get? x = some o → h'.get? x = some o ∧ (x ≠ L ∧ h₀.get? x = none) ∧ NeAll x news) →
      (∀ b o, s.heap.get? b = some o → b ∉ led.map (·.1) → h'.get? b = some o) →
      post s.heap v h' → Q v { s with heap := h', toks := tk' }) :
    wpAny (model pw w) (ktrTop dp un gd cn cs L a ccd cl outer) (call (.ref f) args) Q E s := by
  unfold Spec at S
  refine S p loose mean mg mb dp un gd cn cs a ccd cl outer A₀ base h₀ L m s Q E B F X (fun q hq => N q (sub.mem q hq)) T hk hd hu hp ?_
  intro v h' tk' F' kept po
  exact ret v h' tk' F' (fun led' new A R => R.news A kept N) (fun x o hx hx' => ⟨hx', new_ne F hx, fun q hq => (free_ne hx (N q hq).1).symm⟩) kept po
section
open N_Un
theorem item_last {prog : Program} {w : World} {A : Around} {E : Value → Shared → Prop} {s : Shared} {l : Addr} {vs : List Value} {u : Tok} {v : Value} {Q : Value → Shared → Prop} (hl : s.heap.IsList l vs.toArray) (g : vs.getLast? = some v) (h : Q v s) :
    wpAny (model prog w) A (getItem (.ref l) (.int (-1) u)) Q E s := by
  obtain ⟨r, rfl⟩ := List.getLast?_eq_some_iff.mp g
  refine wpAny_getItem_list_neg hl (by decide) ?_ (by decide) ?_ h
  · simp only [List.size_toArray, List.length_append, List.length_singleton]; omega
  · have : (-1 + (((r ++ [v]).toArray.size : Nat) : Int)).toNat = r.length := by simp only [List.size_toArray, List.length_append, List.length_singleton]; omega
    rw [this, List.getElem?_toArray, List.getElem?_append_right (Nat.le_refl _), Nat.sub_self]; rfl
theorem item_lastT {prog : Program} {w : World} {A : Around} {E : Value → Shared → Prop} {s : Shared} {value slice : PySem.Expr} {l : Addr} {vs : List Value} {u : Tok} {v : Value} {Q : Value → Shared → Prop} (hl : s.heap.IsList l vs.toArray) (g : vs.getLast? = some v) (h : Q v s)
    (hs : subscripted slice false (.ref l) (.int (-1) u) = operate [.ref l, .int (-1) u] (getItem (.ref l) (.int (-1) u)) := by with_unfolding_all rfl) :
    wpAny (model prog w) A (subscriptTail value slice (.ref l) (.int (-1) u)) Q E s := tail_any hl.typeIs slot_list_getitem.lookup (item_last hl g h) hs
noncomputable def ulEs (P : Params) (t : Nat → Tok) (rl : Addr) (d : Int) (b : Tok) (nv : Value) : List DictEntry := [en P "rows" (t 0) (.ref rl), en P "dropped" (t 1) (.int d b), en P "is_on" (t 2) (.bool true), en P "point_before" (t 3) .none, en P "noted_tick" (t 4) nv]
noncomputable abbrev ulL (w : World) (uld rl : Addr) (t : Nat → Tok) (b : Tok) (nv : Value) (rs : List Value) (n : Nat) : List (Addr × Obj) :=
  [(uld, dictOf (ulEs w.params t rl 0 b nv) 5), (rl, listOf rs.toArray n)]
noncomputable abbrev tup (vs : Array Value) : Obj := { cls := .type "tuple", data := .seq vs }
noncomputable abbrev unO (tick : Int) (a b : Tok) : Obj := tup #[.str (Str.ofString "unmodified") a, .int tick b]
def Noted (hs h' : Heap) (bm : Bool) (tick : Int) (nv : Value) (ext : List Value) (nv' : Value) : Prop :=
  (ext = [] ∧ nv' = nv ∧ (bm = true ∨ ∃ c, nv = .int tick c)) ∨ (bm = false ∧ (¬ ∃ c, nv = .int tick c) ∧ (∃ c, nv' = .int tick c) ∧ ∃ x a b, ext = [.ref x] ∧ hs.get? x = none ∧ h'.get? x = some (unO tick a b))
theorem ns_end0 {w : World} {h₀ h hs : Heap} {L uld rl : Addr} {t : Nat → Tok} {b : Tok} {nv : Value} {rs : List Value} {n : Nat} {bm : Bool} {tick : Int} {news : List (Addr × Obj)} (N : News h₀ L h news) (h1 : (uld, dictOf (ulEs w.params t rl 0 b nv) 5) ∈ news) (h2 : (rl, listOf rs.toArray n) ∈ news) (hx : bm = true ∨ ∃ c, nv = .int tick c) :
    Value.none = .none ∧ ∃ ext nv' n', At h (ulL w uld rl t b nv' (rs ++ ext) n') ∧ Noted hs h bm tick nv ext nv' :=
  ⟨rfl, [], nv, n, ⟨(N _ h1).1, by rw [List.append_nil]; exact (N _ h2).1, trivial⟩, .inl ⟨rfl, rfl, hx⟩⟩
theorem ns_end1 {w : World} {h₀ h hs : Heap} {L uld rl D : Addr} {t : Nat → Tok} {b a c d : Tok} {nv : Value} {rs : List Value} {n : Nat} {bm : Bool} {tick : Int} {news : List (Addr × Obj)} (N : News h₀ L h news) (h1 : (uld, dictOf (ulEs w.params t rl 0 b (.int tick c)) 5) ∈ news) (h2 : (rl, listOf (rs.toArray.push (.ref D)) n) ∈ news) (h3 : (D, unO tick a d) ∈ news)
    (hf : hs.get? D = none) (hb : bm = false) (hn : ¬ ∃ c, nv = .int tick c) :
    Value.none = .none ∧ ∃ ext nv' n', At h (ulL w uld rl t b nv' (rs ++ ext) n') ∧ Noted hs h bm tick nv ext nv' :=
  ⟨rfl, [.ref D], _, n, ⟨(N _ h1).1, by have := (N _ h2).1; rwa [List.push_toArray] at this, trivial⟩, .inr ⟨hb, hn, ⟨_, rfl⟩, D, a, d, rfl, hf, (N _ h3).1⟩⟩
namespace note_state_specN
def zP (w : World) (ul uld rl : Addr) (t : Nat → Tok) (b t1 : Tok) (rs : List Value) (n : Nat) (tick : Int) : Prop := ∀ (nv : Value) (bm : Bool) (hnv : nv = .none ∨ ∃ i c, nv = .int i c) (c1 : uld ≠ rl) (h1 : rs.length ≤ 400000), Spec w 20 200 224 [.ref ul, .bool bm, .int tick t1] (ulL w uld rl t b nv rs n) (fun h => h.get? ul = some (instObj 260 uld)) (fun h x h' => x = .none ∧ ∃ ext nv' n', At h' (ulL w uld rl t b nv' (rs ++ ext) n') ∧ Noted h h' bm tick nv ext nv')
abbrev zT := (World × Addr × Addr) × (Addr × (Nat → Tok) × Tok) × (Tok × (List Value) × Nat) × Int
def zQ (x : zT) : Prop := zP x.1.1 x.1.2.1 x.1.2.2 x.2.1.1 x.2.1.2.1 x.2.1.2.2 x.2.2.1.1 x.2.2.1.2.1 x.2.2.1.2.2 x.2.2.2
theorem zne : Nonempty zT := by k_extra "zne"
def zX : zT := pk zne zQ
def zR : Red2 (zP zX.1.1 zX.1.2.1 zX.1.2.2 zX.2.1.1 zX.2.1.2.1 zX.2.1.2.2 zX.2.2.1.1 zX.2.2.1.2.1 zX.2.2.1.2.2 zX.2.2.2) SD ED := by
  apply Subtype.mk; intro H nv bm hnv c1 h1; refine spec_at fun d => ?_; intro B F X N T hk hd hu hp ret
  refine wpAny_call ?_; k_extra "C.enter"; refine ed_intro fun e => ?_; (try dsimp only)
  revert nv bm hnv c1 h1 B F X N T hk hd hu hp ret; exact H d e
def zY : SD × ED := pk ED.ne fun x => zR.1 x.1 x.2
theorem body : zQ zX := by
  refine zR.2 fun zd ze => pk_all (n := ED.ne) (P := fun x => zR.1 x.1 x.2) ?_ (zd, ze)
  show zR.1 zY.1 zY.2
  delta zR; dsimp only
  intro nv bm hnv c1 h1 B F X N T hk hd hu hp ret hin hout hsz back F' N' B' X' T'
  clear hout hsz
  have hA : At zY.2.g [(zX.1.2.1, instObj 260 zX.1.2.2)] := ⟨hin _ _ hp (notin_of N hp rfl), trivial⟩
  replace F' : Fr zY.2.g zY.2.L zY.2.h (fun y => List.lookup y [(Str.ofString "tick", Value.int zX.2.2.2 zX.2.2.1.1), (Str.ofString "is_modified", Value.bool bm), (Str.ofString "self", Value.ref zX.1.2.1)]) := F'
  dsimp only [ulL] at N'
  (try dsimp only)
  (try k_fold)
  rcases hnv with hnv | ⟨i, c, hnv⟩
  all_goals subst hnv
  all_goals cases bm
  all_goals k_steps
  all_goals (try dsimp only)
  all_goals (refine leaveC_of (by assumption) hin back fun kF kept => ?_; try dsimp only)
  all_goals first
    | exact ret _ _ _ kF kept (ns_end0 (by assumption) (by k_mem) (by k_mem) (by first | exact .inl rfl | exact .inr ⟨_, congrArg (Value.int · _) (Eq.symm (by assumption))⟩ | exact .inr ⟨_, congrArg (Value.int · _) (by assumption)⟩))
    | exact ret _ _ _ kF kept (ns_end1 (by assumption) (by k_mem) (by k_mem) (by k_mem) (free_of hin (by assumption) (by k_mem) (by k_extra "C.notin")) rfl (by rintro ⟨c', hc⟩; first | (cases hc; done) | (injection hc; omega)))
end note_state_specN
theorem note_state_spec (w : World) (ul uld rl : Addr) (t : Nat → Tok) (b t1 : Tok) (nv : Value) (rs : List Value) (n : Nat) (bm : Bool) (tick : Int) (hnv : nv = .none ∨ ∃ i c, nv = .int i c) (c1 : uld ≠ rl) (h1 : rs.length ≤ 400000) : Spec w 20 200 224 [.ref ul, .bool bm, .int tick t1] (ulL w uld rl t b nv rs n) (fun h => h.get? ul = some (instObj 260 uld)) (fun h x h' => x = .none ∧ ∃ ext nv' n', At h' (ulL w uld rl t b nv' (rs ++ ext) n') ∧ Noted h h' bm tick nv ext nv') := pk_all (n := note_state_specN.zne) (P := note_state_specN.zQ) note_state_specN.body ((w, ul, uld), (rl, t, b), (t1, rs, n), tick) nv bm hnv c1 h1
end
section
open N_Ui
noncomputable abbrev insO (st e : Int) (a b c : Tok) : Obj := tup #[.str (Str.ofString "insert") a, .int st b, .int e c]
theorem ni_end0 {w : World} {h₀ h hs : Heap} {L uld rl D : Addr} {t : Nat → Tok} {b a c d : Tok} {nv : Value} {rs : List Value} {n : Nat} {bm : Bool} {tick st e : Int} {news : List (Addr × Obj)} (N : News h₀ L h news) (h1 : (uld, dictOf (ulEs w.params t rl 0 b nv) 5) ∈ news) (h2 : (rl, listOf (rs.toArray.push (.ref D)) n) ∈ news) (h3 : (D, insO st e a c d) ∈ news)
    (hf : hs.get? D = none) (hx : bm = true ∨ ∃ c, nv = .int tick c) :
    Value.none = .none ∧ ∃ ext nv' n' y a c d, At h (ulL w uld rl t b nv' (rs ++ (ext ++ [.ref y])) n') ∧ Noted hs h bm tick nv ext nv' ∧ hs.get? y = none ∧ h.get? y = some (insO st e a c d) :=
  ⟨rfl, [], nv, n, D, a, c, d, ⟨(N _ h1).1, by have := (N _ h2).1; rwa [List.push_toArray] at this, trivial⟩, .inl ⟨rfl, rfl, hx⟩, hf, (N _ h3).1⟩
theorem ni_end1 {w : World} {h₀ h hs : Heap} {L uld rl D x : Addr} {t : Nat → Tok} {b a c d a' b' c' : Tok} {nv : Value} {rs : List Value} {n : Nat} {bm : Bool} {tick st e₁ : Int} {news : List (Addr × Obj)} {arr : Array Value} (N : News h₀ L h news) (h1 : (uld, dictOf (ulEs w.params t rl 0 b (.int tick c')) 5) ∈ news) (h2 : (rl, listOf (arr.push (.ref D)) n) ∈ news) (h3 : (D, insO st e₁ a c d) ∈ news)
    (hf : hs.get? D = none) (hb : bm = false) (hn : ¬ ∃ c, nv = .int tick c) (hx : hs.get? x = none) (h4 : (x, unO tick a' b') ∈ news) (e : arr = (rs ++ [Value.ref x]).toArray) :
    Value.none = .none ∧ ∃ ext nv' n' y a c d, At h (ulL w uld rl t b nv' (rs ++ (ext ++ [.ref y])) n') ∧ Noted hs h bm tick nv ext nv' ∧ hs.get? y = none ∧ h.get? y = some (insO st e₁ a c d) :=
  ⟨rfl, [.ref x], .int tick c', n, D, a, c, d, ⟨(N _ h1).1, by have := (N _ h2).1; rw [e, List.push_toArray, List.append_assoc] at this; exact this, trivial⟩, .inr ⟨hb, hn, ⟨_, rfl⟩, x, a', b', rfl, hx, (N _ h4).1⟩, hf, (N _ h3).1⟩
namespace note_insert_specN
def zP (w : World) (ul uld rl : Addr) (t : Nat → Tok) (b t1 t2 t3 t4 : Tok) (nv : Value) (n : Nat) (bm : Bool) (st many pt tick : Int) : Prop := ∀ (rs : List Value) (hnv : nv = .none ∨ ∃ i c, nv = .int i c) (c1 : uld ≠ rl) (h1 : rs.length ≤ 400000) (hm : many ≠ 0) (hl : rs = [] ∨ ∃ r0, rs = r0 ++ [.ref 175]), Spec w 40 400 231 [.ref ul, .int st t1, .int many t2, .int pt t3, .bool bm, .int tick t4] (ulL w uld rl t b nv rs n) (fun h => h.get? ul = some (instObj 260 uld)) (fun h x h' => x = .none ∧ ∃ ext nv' n' y a c d, At h' (ulL w uld rl t b nv' (rs ++ (ext ++ [.ref y])) n') ∧ Noted h h' bm tick nv ext nv' ∧ h.get? y = none ∧ h'.get? y = some (insO st (st + many) a c d))
abbrev zT := (World × Addr × Addr × Addr) × ((Nat → Tok) × Tok × Tok × Tok) × (Tok × Tok × Value × Nat) × (Bool × Int × Int × Int) × Int
def zQ (x : zT) : Prop := zP x.1.1 x.1.2.1 x.1.2.2.1 x.1.2.2.2 x.2.1.1 x.2.1.2.1 x.2.1.2.2.1 x.2.1.2.2.2 x.2.2.1.1 x.2.2.1.2.1 x.2.2.1.2.2.1 x.2.2.1.2.2.2 x.2.2.2.1.1 x.2.2.2.1.2.1 x.2.2.2.1.2.2.1 x.2.2.2.1.2.2.2 x.2.2.2.2
theorem zne : Nonempty zT := by k_extra "zne"
def zX : zT := pk zne zQ
def zR : Red2 (zP zX.1.1 zX.1.2.1 zX.1.2.2.1 zX.1.2.2.2 zX.2.1.1 zX.2.1.2.1 zX.2.1.2.2.1 zX.2.1.2.2.2 zX.2.2.1.1 zX.2.2.1.2.1 zX.2.2.1.2.2.1 zX.2.2.1.2.2.2 zX.2.2.2.1.1 zX.2.2.2.1.2.1 zX.2.2.2.1.2.2.1 zX.2.2.2.1.2.2.2 zX.2.2.2.2) SD ED := by
  apply Subtype.mk; intro H rs hnv c1 h1 hm hl; refine spec_at fun d => ?_; intro B F X N T hk hd hu hp ret
  refine wpAny_call ?_; k_extra "C.enter"; refine ed_intro fun e => ?_; (try dsimp only)
  revert rs hnv c1 h1 hm hl B F X N T hk hd hu hp ret; exact H d e
def zY : SD × ED := pk ED.ne fun x => zR.1 x.1 x.2
theorem body : zQ zX := by
  refine zR.2 fun zd ze => pk_all (n := ED.ne) (P := fun x => zR.1 x.1 x.2) ?_ (zd, ze)
  show zR.1 zY.1 zY.2
  delta zR; dsimp only
  intro rs hnv c1 h1 hm hl B F X N T hk hd hu hp ret hin hout hsz back F' N' B' X' T'
  clear hout hsz
  have hA : At zY.2.g [(zX.1.2.1, instObj 260 zX.1.2.2.1)] := ⟨hin _ _ hp (notin_of N hp rfl), trivial⟩
  replace F' : Fr zY.2.g zY.2.L zY.2.h (fun y => List.lookup y [(Str.ofString "tick", Value.int zX.2.2.2.2 zX.2.2.1.2.1), (Str.ofString "is_modified", Value.bool zX.2.2.2.1.1), (Str.ofString "point", Value.int zX.2.2.2.1.2.2.2 zX.2.2.1.1), (Str.ofString "many", Value.int zX.2.2.2.1.2.2.1 zX.2.1.2.2.2), (Str.ofString "start", Value.int zX.2.2.2.1.2.1 zX.2.1.2.2.1), (Str.ofString "self", Value.ref zX.1.2.1)]) := F'
  dsimp only [ulL] at N'
  (try dsimp only)
  (try k_fold)
  rcases hl with hl | ⟨r0, hl⟩
  all_goals subst hl
  all_goals k_steps
  all_goals (try dsimp only)
  all_goals (try contradiction)
  all_goals (refine leaveC_of (by assumption) hin back fun kF kept => ?_; try dsimp only)
  all_goals first
    | exact ret _ _ _ kF kept (ni_end0 (by assumption) (by k_mem) (by k_mem) (by k_mem) (free_of hin (by assumption) (by k_mem) (by k_extra "C.notin")) (by assumption))
    | exact ret _ _ _ kF kept (ni_end1 (by assumption) (by k_mem) (by k_mem) (by k_mem) (free_of hin (by assumption) (by k_mem) (by k_extra "C.notin")) (by assumption) (by assumption) (free_of hin (by assumption) (by k_mem) (by k_extra "C.notin")) (by k_mem) rfl)
end note_insert_specN
theorem note_insert_spec (w : World) (ul uld rl : Addr) (t : Nat → Tok) (b t1 t2 t3 t4 : Tok) (nv : Value) (rs : List Value) (n : Nat) (bm : Bool) (st many pt tick : Int) (hnv : nv = .none ∨ ∃ i c, nv = .int i c) (c1 : uld ≠ rl) (h1 : rs.length ≤ 400000) (hm : many ≠ 0) (hl : rs = [] ∨ ∃ r0, rs = r0 ++ [.ref 175]) : Spec w 40 400 231 [.ref ul, .int st t1, .int many t2, .int pt t3, .bool bm, .int tick t4] (ulL w uld rl t b nv rs n) (fun h => h.get? ul = some (instObj 260 uld)) (fun h x h' => x = .none ∧ ∃ ext nv' n' y a c d, At h' (ulL w uld rl t b nv' (rs ++ (ext ++ [.ref y])) n') ∧ Noted h h' bm tick nv ext nv' ∧ h.get? y = none ∧ h'.get? y = some (insO st (st + many) a c d)) := pk_all (n := note_insert_specN.zne) (P := note_insert_specN.zQ) note_insert_specN.body ((w, ul, uld, rl), (t, b, t1, t2), (t3, t4, nv, n), (bm, st, many, pt), tick) rs hnv c1 h1 hm hl
end
section
open N_Ub
theorem eq_K_same {prog : Program} {w : World} {A : Around} {E : Value → Shared → Prop} {s : Shared} {h₀ : Heap} {L a : Addr} {m : Str → Option Value} {K : Frag} {dd : Option Addr} {sl : Array (Option Value)} {l : Array Value} {n : Nat} {Q : Value → Shared → Prop} (F : Fr h₀ L s.heap m) (X₀ : K.In h₀) (hl : K.lookup a = some ⟨.type "tuple", dd, .seq l n, sl⟩) (hu : A.units < cLine) (h : Q (.bool true) s) :
    wpAny (model prog w) A (compareOp .Eq (.ref a) (.ref a)) Q E s := by
  have ht : s.heap.IsTuple a l := ⟨_, F.keep _ _ (X₀ _ _ hl), rfl, n, rfl⟩
  refine PySem.SeqAt.eq_tupleAt (e := fun _ => true) ht ht hu (fun j _ _ => PySem.SeqAt.EqAt.same _) ?_
  have e : ((List.range (min l.size l.size)).all (fun _ => true) && l.size == l.size) = true := by simp
  rw [e]; exact h
theorem eq_K_head {prog : Program} {w : World} {A : Around} {E : Value → Shared → Prop} {s : Shared} {h₀ : Heap} {L a x : Addr} {m : Str → Option Value} {K : Frag} {dd : Option Addr} {sl : Array (Option Value)} {n : Nat} {W V : Str} {c d : Tok} {its : List Value} {Q : Value → Shared → Prop} (F : Fr h₀ L s.heap m) (X₀ : K.In h₀) (hl : K.lookup a = some ⟨.type "tuple", dd, .seq #[.str V d] n, sl⟩) (hx : s.heap.get? x = some (tup (Value.str W c :: its).toArray)) (hne : (W == V) = false) (hu : A.units < cLine) (h : Q (.bool false) s) :
    wpAny (model prog w) A (compareOp .Eq (.ref x) (.ref a)) Q E s := by
  have ht : s.heap.IsTuple a #[.str V d] := ⟨_, F.keep _ _ (X₀ _ _ hl), rfl, n, rfl⟩
  have hx' : s.heap.IsTuple x (Value.str W c :: its).toArray := ⟨_, hx, rfl, _, rfl⟩
  refine PySem.SeqAt.eq_tupleAt (e := fun _ => false) hx' ht hu (fun j h1 h2 => ?_) ?_
  · have : j = 0 := by have : (#[Value.str V d] : Array Value).size = 1 := rfl; omega
    subst this
    have := PySem.SeqAt.EqAt.str_str (A := A.in1) (s := s) W c V d
    rw [hne] at this
    exact this
  · have e : ((List.range (min (Value.str W c :: its).toArray.size (#[Value.str V d] : Array Value).size)).all (fun _ => false) && (Value.str W c :: its).toArray.size == (#[Value.str V d] : Array Value).size) = false := by
      have : min (Value.str W c :: its).toArray.size (#[Value.str V d] : Array Value).size = 1 := by simp
      rw [this]; rfl
    rw [e]; exact h
def LastQ (h : Heap) (rs : List Value) (q : Bool) : Prop := (rs = [] ∧ q = true) ∨ (∃ r0, rs = r0 ++ [.ref 175] ∧ q = true) ∨ (∃ r0 x W c its, rs = r0 ++ [.ref x] ∧ h.get? x = some (tup (Value.str W c :: its).toArray) ∧ (W == Str.ofString "boundary") = false ∧ q = false)
namespace at_bd_specN
def zP (w : World) (ul uld rl : Addr) (t : Nat → Tok) (b : Tok) (nv : Value) (n : Nat) : Prop := ∀ (rs : List Value) (q : Bool) (h1 : rs.length ≤ 400000), Spec w 20 200 203 [.ref ul] [] (fun h => At h ((ul, instObj 260 uld) :: ulL w uld rl t b nv rs n) ∧ LastQ h rs q) (fun h x h' => x = .bool q)
abbrev zT := (World × Addr × Addr) × (Addr × (Nat → Tok) × Tok) × (Value × Nat)
def zQ (x : zT) : Prop := zP x.1.1 x.1.2.1 x.1.2.2 x.2.1.1 x.2.1.2.1 x.2.1.2.2 x.2.2.1 x.2.2.2
theorem zne : Nonempty zT := by k_extra "zne"
def zX : zT := pk zne zQ
def b := zX.2.1.2.2
def zR : Red2 (zP zX.1.1 zX.1.2.1 zX.1.2.2 zX.2.1.1 zX.2.1.2.1 b zX.2.2.1 zX.2.2.2) SD ED := by
  apply Subtype.mk; intro H rs q h1; refine spec_at fun d => ?_; intro B F X N T hk hd hu hp ret
  refine wpAny_call ?_; k_extra "C.enter"; refine ed_intro fun e => ?_; (try dsimp only)
  revert rs q h1 B F X N T hk hd hu hp ret; exact H d e
def zY : SD × ED := pk ED.ne fun x => zR.1 x.1 x.2
theorem body : zP zX.1.1 zX.1.2.1 zX.1.2.2 zX.2.1.1 zX.2.1.2.1 b zX.2.2.1 zX.2.2.2 := by
  refine zR.2 fun zd ze => pk_all (n := ED.ne) (P := fun x => zR.1 x.1 x.2) ?_ (zd, ze)
  show zR.1 zY.1 zY.2
  delta zR; dsimp only
  intro rs q h1 B F X N T hk hd hu hp ret hin hout hsz back F' N' B' X' T'
  clear hout hsz
  have hi : ∀ b o, zY.1.sh.get? b = some o → zY.2.g.get? b = some o := fun b o e => hin b o e List.not_mem_nil
  have hA : At zY.2.g [(zX.1.2.1, instObj 260 zX.1.2.2), (zX.1.2.2, dictOf (ulEs zX.1.1.params zX.2.1.2.1 zX.2.1.1 0 b zX.2.2.1) 5), (zX.2.1.1, listOf rs.toArray zX.2.2.2)] := At.keep hp.1 hi
  replace F' : Fr zY.2.g zY.2.L zY.2.h (fun y => List.lookup y [(Str.ofString "self", Value.ref zX.1.2.1)]) := F'
  (try dsimp only)
  (try k_fold)
  obtain ⟨-, hl⟩ := hp
  unfold LastQ at hl
  rcases hl with ⟨hl, hq⟩ | ⟨r0, hl, hq⟩ | ⟨r0, x, W, c, its, hl, hx, hW, hq⟩
  case' inr.inr => replace hx := hi _ _ hx
  all_goals subst hl hq
  all_goals k_steps
  all_goals (try dsimp only)
  all_goals (try contradiction)
  all_goals (refine leaveC_of (by assumption) hin back fun kF kept => ?_; try dsimp only)
  all_goals first
    | exact ret _ _ _ kF kept rfl
    | exact ret _ _ _ kF kept (by simp only [List.length_append, List.length_singleton] at *; first | (congr 1; simp; done) | (exfalso; omega))
end at_bd_specN
theorem at_bd_spec (w : World) (ul uld rl : Addr) (t : Nat → Tok) (b : Tok) (nv : Value) (rs : List Value) (n : Nat) (q : Bool) (h1 : rs.length ≤ 400000) : Spec w 20 200 203 [.ref ul] [] (fun h => At h ((ul, instObj 260 uld) :: ulL w uld rl t b nv rs n) ∧ LastQ h rs q) (fun h x h' => x = .bool q) := pk_all (n := at_bd_specN.zne) (P := at_bd_specN.zQ) at_bd_specN.body ((w, ul, uld), (rl, t, b), (nv, n)) rs q h1
end
theorem Repl.all : ∀ {l : List (Addr × Obj)}, Repl (([] : List (Addr × Obj)).map (fun x => x.1)) [] l l
  | [] => .nil
  | _ :: _ => .keep List.not_mem_nil Repl.all
theorem LastQ.keep {h h' : Heap} {rs : List Value} {q : Bool} (l : LastQ h rs q) (k : ∀ b o, h.get? b = some o → h'.get? b = some o) : LastQ h' rs q := by
  rcases l with l | l | ⟨r0, x, W, c, its, a, b, d⟩
  · exact .inl l
  · exact .inr (.inl l)
  · exact .inr (.inr ⟨r0, x, W, c, its, a, k _ _ b, d⟩)
theorem LastQ.into {h g h₀ : Heap} {L : Addr} {rs : List Value} {q : Bool} {l : List (Addr × Obj)} (H : LastQ h rs q) (hin : ∀ b o, h.get? b = some o → b ∉ l.map (·.1) → g.get? b = some o) (N : News h₀ L h l) (hk : l.all (fun p => !Nat.beq (kindO p.2) 5) = true) : LastQ g rs q := by
  rcases H with l | l | ⟨r0, x, W, c, its, a, b, d⟩
  · exact .inl l
  · exact .inr (.inl l)
  · exact .inr (.inr ⟨r0, x, W, c, its, a, hin _ _ b (notin_of N b hk), d⟩)
section
open N_Uc
theorem bd_end {w : World} {h₀ h : Heap} {L uld rl : Addr} {t : Nat → Tok} {b : Tok} {nv : Value} {rs : List Value} {n : Nat} {q : Bool} {news : List (Addr × Obj)} {arr : Array Value} (N : News h₀ L h news) (h1 : (uld, dictOf (ulEs w.params t rl 0 b nv) 5) ∈ news) (h2 : (rl, listOf arr n) ∈ news) (e : arr = (if q then rs else rs ++ [Value.ref 175]).toArray) :
    Value.none = .none ∧ ∃ n', At h (ulL w uld rl t b nv (if q then rs else rs ++ [Value.ref 175]) n') := ⟨rfl, n, (N _ h1).1, by rw [← e]; exact (N _ h2).1, trivial⟩
namespace boundary_specN
def zP (w : World) (ul uld rl : Addr) (t : Nat → Tok) (b : Tok) (nv : Value) (rs : List Value) (n : Nat) : Prop := ∀ (q : Bool) (h1 : rs.length ≤ 400000) (c1 : uld ≠ rl), Spec w 40 400 210 [.ref ul] (ulL w uld rl t b nv rs n) (fun h => h.get? ul = some (instObj 260 uld) ∧ LastQ h rs q) (fun h x h' => x = .none ∧ ∃ n', At h' (ulL w uld rl t b nv (if q then rs else rs ++ [Value.ref 175]) n'))
abbrev zT := (World × Addr × Addr) × (Addr × (Nat → Tok) × Tok) × (Value × (List Value) × Nat)
def zQ (x : zT) : Prop := zP x.1.1 x.1.2.1 x.1.2.2 x.2.1.1 x.2.1.2.1 x.2.1.2.2 x.2.2.1 x.2.2.2.1 x.2.2.2.2
theorem zne : Nonempty zT := by k_extra "zne"
def zX : zT := pk zne zQ
def zR : Red2 (zP zX.1.1 zX.1.2.1 zX.1.2.2 zX.2.1.1 zX.2.1.2.1 zX.2.1.2.2 zX.2.2.1 zX.2.2.2.1 zX.2.2.2.2) SD ED := by
  apply Subtype.mk; intro H q h1 c1; refine spec_at fun d => ?_; intro B F X N T hk hd hu hp ret
  refine wpAny_call ?_; k_extra "C.enter"; refine ed_intro fun e => ?_; (try dsimp only)
  revert q h1 c1 B F X N T hk hd hu hp ret; exact H d e
def zY : SD × ED := pk ED.ne fun x => zR.1 x.1 x.2
theorem body : zQ zX := by
  refine zR.2 fun zd ze => pk_all (n := ED.ne) (P := fun x => zR.1 x.1 x.2) ?_ (zd, ze)
  show zR.1 zY.1 zY.2
  delta zR; dsimp only
  intro q h1 c1 B F X N T hk hd hu hp ret hin hout hsz back F' N' B' X' T'
  clear hout hsz
  have hA : At zY.2.g [(zX.1.2.1, instObj 260 zX.1.2.2)] := ⟨hin _ _ hp.1 (notin_of N hp.1 rfl), trivial⟩
  have hQ : LastQ zY.2.g zX.2.2.2.1 q := hp.2.into hin N rfl
  replace F' : Fr zY.2.g zY.2.L zY.2.h (fun y => List.lookup y [(Str.ofString "self", Value.ref zX.1.2.1)]) := F'
  dsimp only [ulL] at N'
  (try dsimp only)
  (try k_fold)
  k_steps
  all_goals (try dsimp only)
  all_goals (try contradiction)
  all_goals (refine leaveC_of (by assumption) hin back fun kF kept => ?_; try dsimp only)
  all_goals subst_vars
  all_goals first
    | exact ret _ _ _ kF kept (bd_end (by assumption) (by k_mem) (by k_mem) rfl)
    | exact ret _ _ _ kF kept (bd_end (by assumption) (by k_mem) (by k_mem) (by simp))
end boundary_specN
theorem boundary_spec (w ul uld rl t b nv rs n) : boundary_specN.zP w ul uld rl t b nv rs n := pk_all (n := boundary_specN.zne) (P := boundary_specN.zQ) boundary_specN.body ((w, ul, uld), (rl, t, b), (nv, rs, n))
end
section
open N_Ud
noncomputable abbrev delO (st : Int) (pc : Addr) (f : Bool) (a b : Tok) : Obj := tup #[.str (Str.ofString "delete") a, .int st b, .ref pc, .bool f]
noncomputable abbrev mkO (mk : Addr) (d : Int) (a b : Tok) : Obj := tup #[.str (Str.ofString "marker") a, .ref mk, .int d b]
noncomputable def pcEs (P : Params) (t : Nat → Tok) (cl rn : Addr) : List DictEntry := [en P "codes" (t 0) (.ref cl), en P "runs" (t 1) (.ref rn)]
theorem At.append {h : Heap} : ∀ {a b : List (Addr × Obj)}, At h a → At h b → At h (a ++ b)
  | [], _, _, y => y
  | _ :: _, _, x, y => ⟨x.1, At.append x.2 y⟩
def Marked (hs h : Heap) (mk : Addr) (d : Int) (mext : List Value) : Prop := mext = [] ∨ ∃ z a c, mext = [.ref z] ∧ hs.get? z = none ∧ h.get? z = some (mkO mk d a c)
def Deleted (w : World) (hs h : Heap) (uld rl : Addr) (t : Nat → Tok) (b : Tok) (nv : Value) (rs : List Value) (bm : Bool) (st tick d : Int) (pc mk : Addr) (mL : List (Addr × Obj)) : Prop :=
  ∃ ext mext nv' n' y f a c, At h (ulL w uld rl t b nv' (rs ++ (ext ++ (mext ++ [.ref y]))) n' ++ mL) ∧ Noted hs h bm tick nv ext nv' ∧ Marked hs h mk d mext ∧ hs.get? y = none ∧ h.get? y = some (delO st pc f a c)
theorem nd_end {w : World} {h₀ h hs : Heap} {L uld rl D pc mk : Addr} {t : Nat → Tok} {b a c : Tok} {nv nv' : Value} {rs ext mext : List Value} {n : Nat} {bm f : Bool} {st tick d : Int} {arr : Array Value} {mL news : List (Addr × Obj)} (N : News h₀ L h news) (h1 : (uld, dictOf (ulEs w.params t rl 0 b nv') 5) ∈ news) (h2 : (rl, listOf (arr.push (.ref D)) n) ∈ news) (h3 : (D, delO st pc f a c) ∈ news)
    (hm : At h mL) (hf : hs.get? D = none) (hn : Noted hs h bm tick nv ext nv') (hx : Marked hs h mk d mext) (e : arr = (rs ++ (ext ++ mext)).toArray) : Value.none = .none ∧ Deleted w hs h uld rl t b nv rs bm st tick d pc mk mL :=
  ⟨rfl, ext, mext, nv', n, D, f, a, c, At.append ⟨(N _ h1).1, by have := (N _ h2).1; rw [e, List.push_toArray, List.append_assoc, List.append_assoc] at this; exact this, trivial⟩ hm, hn, hx, hf, (N _ h3).1⟩
theorem nd_end1 {w : World} {h₀ h hs : Heap} {L uld rl D pc mk x : Addr} {t : Nat → Tok} {b a c a' b' c' : Tok} {nv : Value} {rs mext : List Value} {n : Nat} {bm f : Bool} {st tick d : Int} {arr : Array Value} {mL news : List (Addr × Obj)} (N : News h₀ L h news) (h1 : (uld, dictOf (ulEs w.params t rl 0 b (.int tick c')) 5) ∈ news) (h2 : (rl, listOf (arr.push (.ref D)) n) ∈ news) (h3 : (D, delO st pc f a c) ∈ news) (h4 : (x, unO tick a' b') ∈ news)
    (hm : At h mL) (hf : hs.get? D = none) (hb : bm = false) (hn : ¬ ∃ c, nv = .int tick c) (hx0 : hs.get? x = none) (hx : Marked hs h mk d mext) (e : arr = (rs ++ ([Value.ref x] ++ mext)).toArray) : Value.none = .none ∧ Deleted w hs h uld rl t b nv rs bm st tick d pc mk mL :=
  nd_end N h1 h2 h3 hm hf (.inr ⟨hb, hn, ⟨_, rfl⟩, x, a', b', rfl, hx0, (N _ h4).1⟩) hx e
theorem nd_end2 {w : World} {h₀ h hs : Heap} {L uld rl D pc mk z : Addr} {t : Nat → Tok} {b a c a'' c'' : Tok} {nv : Value} {rs : List Value} {n : Nat} {bm f : Bool} {st tick d : Int} {arr : Array Value} {mL news : List (Addr × Obj)} (N : News h₀ L h news) (h1 : (uld, dictOf (ulEs w.params t rl 0 b nv) 5) ∈ news) (h2 : (rl, listOf (arr.push (.ref D)) n) ∈ news) (h3 : (D, delO st pc f a c) ∈ news) (h5 : (z, mkO mk d a'' c'') ∈ news)
    (hm : At h mL) (hf : hs.get? D = none) (hz : hs.get? z = none) (hn : bm = true ∨ ∃ c, nv = .int tick c) (e : arr = (rs ++ ([] ++ [Value.ref z])).toArray) : Value.none = .none ∧ Deleted w hs h uld rl t b nv rs bm st tick d pc mk mL :=
  nd_end (ext := []) N h1 h2 h3 hm hf (.inl ⟨rfl, rfl, hn⟩) (.inr ⟨z, a'', c'', rfl, hz, (N _ h5).1⟩) e
theorem nd_end3 {w : World} {h₀ h hs : Heap} {L uld rl D pc mk x z : Addr} {t : Nat → Tok} {b a c a' b' c' a'' c'' : Tok} {nv : Value} {rs : List Value} {n : Nat} {bm f : Bool} {st tick d : Int} {arr : Array Value} {mL news : List (Addr × Obj)} (N : News h₀ L h news) (h1 : (uld, dictOf (ulEs w.params t rl 0 b (.int tick c')) 5) ∈ news) (h2 : (rl, listOf (arr.push (.ref D)) n) ∈ news) (h3 : (D, delO st pc f a c) ∈ news) (h4 : (x, unO tick a' b') ∈ news) (h5 : (z, mkO mk d a'' c'') ∈ news)
    (hm : At h mL) (hf : hs.get? D = none) (hb : bm = false) (hn : ¬ ∃ c, nv = .int tick c) (hx0 : hs.get? x = none) (hz : hs.get? z = none) (e : arr = (rs ++ ([Value.ref x] ++ [Value.ref z])).toArray) : Value.none = .none ∧ Deleted w hs h uld rl t b nv rs bm st tick d pc mk mL :=
  nd_end1 (mext := [Value.ref z]) N h1 h2 h3 h4 hm hf hb hn hx0 (.inr ⟨z, a'', c'', rfl, hz, (N _ h5).1⟩) e
namespace note_delete0_specN
abbrev zS (w : World) (ul uld rl pc pd cl rn ml mk y : Addr) (t tp : Nat → Tok) (b t1 t3 t4 td : Tok) (nv : Value) (rs cs : List Value) (n nc nm : Nat) (bm : Bool) (st pt tick d : Int) : Prop := Spec w 40 400 238 [.ref ul, .int st t1, .ref pc, .int pt t3, .ref ml, .bool bm, .int tick t4] (ulL w uld rl t b nv rs n ++ [(ml, listOf #[] nm)]) (fun h => At h [(ul, instObj 260 uld), (pc, instObj 677 pd), (pd, dictOf (pcEs w.params tp cl rn) 2), (cl, listOf cs.toArray nc)]) (fun h x h' => x = .none ∧ Deleted w h h' uld rl t b nv rs bm st tick d pc mk [(ml, listOf #[] nm)])
def zP (w : World) (ul uld rl pc pd cl rn ml mk y : Addr) (t tp : Nat → Tok) (b t1 t3 t4 td : Tok) (nv : Value) (rs cs : List Value) (n nc nm : Nat) (bm : Bool) (st pt tick d : Int) : Prop := ∀ (hnv : nv = .none ∨ ∃ i c, nv = .int i c) (c1 : uld ≠ rl) (h1 : rs.length ≤ 400000) (h2 : cs.length ≤ 400000) (hm : (cs.length : Int) ≠ 0) (hl : rs = [] ∨ ∃ r0, rs = r0 ++ [.ref 175]) (e1 : pd ≠ uld) (e2 : pd ≠ rl) (e3 : cl ≠ uld) (e4 : cl ≠ rl) (e5 : ml ≠ uld) (e6 : ml ≠ rl) (e9 : pc ≠ uld) (e10 : pc ≠ rl) (e11 : ul ≠ uld) (e12 : ul ≠ rl) (e13 : pd ≠ ml) (e14 : cl ≠ ml) (e15 : pc ≠ ml) (e16 : ul ≠ ml), zS w ul uld rl pc pd cl rn ml mk y t tp b t1 t3 t4 td nv rs cs n nc nm bm st pt tick d
abbrev zT := (World × Addr × Addr × Addr × Addr) × (Addr × Addr × Addr × Addr × Addr) × (Addr × (Nat → Tok) × (Nat → Tok) × Tok × Tok) × (Tok × Tok × Tok × Value × (List Value)) × ((List Value) × Nat × Nat × Nat × Bool) × (Int × Int × Int × Int)
def zQ (x : zT) : Prop := zP x.1.1 x.1.2.1 x.1.2.2.1 x.1.2.2.2.1 x.1.2.2.2.2 x.2.1.1 x.2.1.2.1 x.2.1.2.2.1 x.2.1.2.2.2.1 x.2.1.2.2.2.2 x.2.2.1.1 x.2.2.1.2.1 x.2.2.1.2.2.1 x.2.2.1.2.2.2.1 x.2.2.1.2.2.2.2 x.2.2.2.1.1 x.2.2.2.1.2.1 x.2.2.2.1.2.2.1 x.2.2.2.1.2.2.2.1 x.2.2.2.1.2.2.2.2 x.2.2.2.2.1.1 x.2.2.2.2.1.2.1 x.2.2.2.2.1.2.2.1 x.2.2.2.2.1.2.2.2.1 x.2.2.2.2.1.2.2.2.2 x.2.2.2.2.2.1 x.2.2.2.2.2.2.1 x.2.2.2.2.2.2.2.1 x.2.2.2.2.2.2.2.2
theorem zne : Nonempty zT := by k_extra "zne"
def zX : zT := pk zne zQ
def y := zX.2.2.1.1
def zR : Red2 (zS zX.1.1 zX.1.2.1 zX.1.2.2.1 zX.1.2.2.2.1 zX.1.2.2.2.2 zX.2.1.1 zX.2.1.2.1 zX.2.1.2.2.1 zX.2.1.2.2.2.1 zX.2.1.2.2.2.2 y zX.2.2.1.2.1 zX.2.2.1.2.2.1 zX.2.2.1.2.2.2.1 zX.2.2.1.2.2.2.2 zX.2.2.2.1.1 zX.2.2.2.1.2.1 zX.2.2.2.1.2.2.1 zX.2.2.2.1.2.2.2.1 zX.2.2.2.1.2.2.2.2 zX.2.2.2.2.1.1 zX.2.2.2.2.1.2.1 zX.2.2.2.2.1.2.2.1 zX.2.2.2.2.1.2.2.2.1 zX.2.2.2.2.1.2.2.2.2 zX.2.2.2.2.2.1 zX.2.2.2.2.2.2.1 zX.2.2.2.2.2.2.2.1 zX.2.2.2.2.2.2.2.2) SD ED := by k_extra "zR"
def zY : SD × ED := pk ED.ne fun x => zR.1 x.1 x.2
theorem body : zP zX.1.1 zX.1.2.1 zX.1.2.2.1 zX.1.2.2.2.1 zX.1.2.2.2.2 zX.2.1.1 zX.2.1.2.1 zX.2.1.2.2.1 zX.2.1.2.2.2.1 zX.2.1.2.2.2.2 y zX.2.2.1.2.1 zX.2.2.1.2.2.1 zX.2.2.1.2.2.2.1 zX.2.2.1.2.2.2.2 zX.2.2.2.1.1 zX.2.2.2.1.2.1 zX.2.2.2.1.2.2.1 zX.2.2.2.1.2.2.2.1 zX.2.2.2.1.2.2.2.2 zX.2.2.2.2.1.1 zX.2.2.2.2.1.2.1 zX.2.2.2.2.1.2.2.1 zX.2.2.2.2.1.2.2.2.1 zX.2.2.2.2.1.2.2.2.2 zX.2.2.2.2.2.1 zX.2.2.2.2.2.2.1 zX.2.2.2.2.2.2.2.1 zX.2.2.2.2.2.2.2.2 := by
  intro hnv c1 h1 h2 hm hl e1 e2 e3 e4 e5 e6 e9 e10 e11 e12 e13 e14 e15 e16
  refine zR.2 fun zd ze => pk_all (n := ED.ne) (P := fun x => zR.1 x.1 x.2) ?_ (zd, ze)
  show zR.1 zY.1 zY.2
  delta zR; dsimp only
  delta BodyAt; dsimp only
  intro B F X N T hk hd hu hp ret dA uA hin back F' N' B' X' T'
  dsimp only [ulL, List.cons_append, List.nil_append] at hin N' N
  have hA : At zY.2.g [(zX.1.2.1, instObj 260 zX.1.2.2.1), (zX.1.2.2.2.2, instObj 677 zX.2.1.1), (zX.2.1.1, dictOf (pcEs zX.1.1.params zX.2.2.1.2.2.1 zX.2.1.2.1 zX.2.1.2.2.1) 2), (zX.2.1.2.1, listOf zX.2.2.2.2.1.1.toArray zX.2.2.2.2.1.2.2.1)] := ⟨hin _ _ hp.1 (by k_extra "C.notin"), hin _ _ hp.2.1 (by k_extra "C.notin"), hin _ _ hp.2.2.1 (by k_extra "C.notin"), hin _ _ hp.2.2.2.1 (by k_extra "C.notin"), trivial⟩
  have hQ : LastQ zY.2.g zX.2.2.2.1.2.2.2.2 true := hl.elim (fun e => .inl ⟨e, rfl⟩) (fun e => .inr (.inl (e.elim fun r0 e => ⟨r0, e, rfl⟩)))
  replace F' : Fr zY.2.g zY.2.L zY.2.h (fun y => List.lookup y [(Str.ofString "tick", Value.int zX.2.2.2.2.2.2.2.1 zX.2.2.2.1.2.1), (Str.ofString "is_modified", Value.bool zX.2.2.2.2.1.2.2.2.2), (Str.ofString "markers", Value.ref zX.2.1.2.2.2.1), (Str.ofString "point", Value.int zX.2.2.2.2.2.2.1 zX.2.2.2.1.1), (Str.ofString "piece", Value.ref zX.1.2.2.2.2), (Str.ofString "start", Value.int zX.2.2.2.2.2.1 zX.2.2.1.2.2.2.2), (Str.ofString "self", Value.ref zX.1.2.1)]) := F'
  (try dsimp only)
  (try k_fold)
  k_steps
  all_goals (try dsimp only)
  all_goals (try contradiction)
  all_goals (refine leaveC_of (by assumption) hin back fun kF kept => ?_; try dsimp only)
  all_goals first
    | exact ret _ _ _ kF kept (nd_end (ext := []) (mext := []) (by assumption) (by k_mem) (by k_mem) (by k_mem) ⟨News.get (by assumption) (by k_mem), trivial⟩ (free_of hin (by assumption) (by k_mem) (by k_extra "C.notin")) (.inl ⟨rfl, rfl, by assumption⟩) (.inl rfl) (by first | (simp; done) | fail))
    | exact ret _ _ _ kF kept (nd_end1 (mext := []) (by assumption) (by k_mem) (by k_mem) (by k_mem) (by k_mem) ⟨News.get (by assumption) (by k_mem), trivial⟩ (free_of hin (by assumption) (by k_mem) (by k_extra "C.notin")) (by assumption) (by assumption) (free_of hin (by assumption) (by k_mem) (by k_extra "C.notin")) (.inl rfl) (by first | (simp; done) | fail))
end note_delete0_specN
theorem note_delete0_spec (w ul uld rl pc pd cl rn ml mk y t tp b t1 t3 t4 td nv rs cs n nc nm bm st pt tick d) : note_delete0_specN.zP w ul uld rl pc pd cl rn ml mk y t tp b t1 t3 t4 td nv rs cs n nc nm bm st pt tick d := pk_all (n := note_delete0_specN.zne) (P := note_delete0_specN.zQ) note_delete0_specN.body ((w, ul, uld, rl, pc), (pd, cl, rn, ml, mk), (y, t, tp, b, t1), (t3, t4, td, nv, rs), (cs, n, nc, nm, bm), (st, pt, tick, d))
namespace note_delete1_specN
abbrev zS (w : World) (ul uld rl pc pd cl rn ml mk y : Addr) (t tp : Nat → Tok) (b t1 t3 t4 td : Tok) (nv : Value) (rs cs : List Value) (n nc nm : Nat) (bm : Bool) (st pt tick d : Int) : Prop := Spec w 40 400 238 [.ref ul, .int st t1, .ref pc, .int pt t3, .ref ml, .bool bm, .int tick t4] (ulL w uld rl t b nv rs n ++ [(ml, listOf #[Value.ref y] nm), (y, tup #[.ref mk, .int d td])]) (fun h => At h [(ul, instObj 260 uld), (pc, instObj 677 pd), (pd, dictOf (pcEs w.params tp cl rn) 2), (cl, listOf cs.toArray nc)]) (fun h x h' => x = .none ∧ Deleted w h h' uld rl t b nv rs bm st tick d pc mk [(ml, listOf #[Value.ref y] nm), (y, tup #[.ref mk, .int d td])])
def zP (w : World) (ul uld rl pc pd cl rn ml mk y : Addr) (t tp : Nat → Tok) (b t1 t3 t4 td : Tok) (nv : Value) (rs cs : List Value) (n nc nm : Nat) (bm : Bool) (st pt tick d : Int) : Prop := ∀ (hnv : nv = .none ∨ ∃ i c, nv = .int i c) (c1 : uld ≠ rl) (h1 : rs.length ≤ 400000) (h2 : cs.length ≤ 400000) (hm : (cs.length : Int) ≠ 0) (hl : rs = [] ∨ ∃ r0, rs = r0 ++ [.ref 175]) (e1 : pd ≠ uld) (e2 : pd ≠ rl) (e3 : cl ≠ uld) (e4 : cl ≠ rl) (e5 : ml ≠ uld) (e6 : ml ≠ rl) (e9 : pc ≠ uld) (e10 : pc ≠ rl) (e11 : ul ≠ uld) (e12 : ul ≠ rl) (e13 : pd ≠ ml) (e14 : cl ≠ ml) (e15 : pc ≠ ml) (e16 : ul ≠ ml) (e7 : y ≠ uld) (e8 : y ≠ rl) (e21 : ml ≠ y) (e17 : pd ≠ y) (e18 : cl ≠ y) (e19 : pc ≠ y) (e20 : ul ≠ y), zS w ul uld rl pc pd cl rn ml mk y t tp b t1 t3 t4 td nv rs cs n nc nm bm st pt tick d
abbrev zT := (World × Addr × Addr × Addr × Addr) × (Addr × Addr × Addr × Addr × Addr) × (Addr × (Nat → Tok) × (Nat → Tok) × Tok × Tok) × (Tok × Tok × Tok × Value × (List Value)) × ((List Value) × Nat × Nat × Nat × Bool) × (Int × Int × Int × Int)
def zQ (x : zT) : Prop := zP x.1.1 x.1.2.1 x.1.2.2.1 x.1.2.2.2.1 x.1.2.2.2.2 x.2.1.1 x.2.1.2.1 x.2.1.2.2.1 x.2.1.2.2.2.1 x.2.1.2.2.2.2 x.2.2.1.1 x.2.2.1.2.1 x.2.2.1.2.2.1 x.2.2.1.2.2.2.1 x.2.2.1.2.2.2.2 x.2.2.2.1.1 x.2.2.2.1.2.1 x.2.2.2.1.2.2.1 x.2.2.2.1.2.2.2.1 x.2.2.2.1.2.2.2.2 x.2.2.2.2.1.1 x.2.2.2.2.1.2.1 x.2.2.2.2.1.2.2.1 x.2.2.2.2.1.2.2.2.1 x.2.2.2.2.1.2.2.2.2 x.2.2.2.2.2.1 x.2.2.2.2.2.2.1 x.2.2.2.2.2.2.2.1 x.2.2.2.2.2.2.2.2
theorem zne : Nonempty zT := by k_extra "zne"
def zX : zT := pk zne zQ
def y := zX.2.2.1.1
def zR : Red2 (zS zX.1.1 zX.1.2.1 zX.1.2.2.1 zX.1.2.2.2.1 zX.1.2.2.2.2 zX.2.1.1 zX.2.1.2.1 zX.2.1.2.2.1 zX.2.1.2.2.2.1 zX.2.1.2.2.2.2 y zX.2.2.1.2.1 zX.2.2.1.2.2.1 zX.2.2.1.2.2.2.1 zX.2.2.1.2.2.2.2 zX.2.2.2.1.1 zX.2.2.2.1.2.1 zX.2.2.2.1.2.2.1 zX.2.2.2.1.2.2.2.1 zX.2.2.2.1.2.2.2.2 zX.2.2.2.2.1.1 zX.2.2.2.2.1.2.1 zX.2.2.2.2.1.2.2.1 zX.2.2.2.2.1.2.2.2.1 zX.2.2.2.2.1.2.2.2.2 zX.2.2.2.2.2.1 zX.2.2.2.2.2.2.1 zX.2.2.2.2.2.2.2.1 zX.2.2.2.2.2.2.2.2) SD ED := by k_extra "zR"
def zY : SD × ED := pk ED.ne fun x => zR.1 x.1 x.2
theorem body : zP zX.1.1 zX.1.2.1 zX.1.2.2.1 zX.1.2.2.2.1 zX.1.2.2.2.2 zX.2.1.1 zX.2.1.2.1 zX.2.1.2.2.1 zX.2.1.2.2.2.1 zX.2.1.2.2.2.2 y zX.2.2.1.2.1 zX.2.2.1.2.2.1 zX.2.2.1.2.2.2.1 zX.2.2.1.2.2.2.2 zX.2.2.2.1.1 zX.2.2.2.1.2.1 zX.2.2.2.1.2.2.1 zX.2.2.2.1.2.2.2.1 zX.2.2.2.1.2.2.2.2 zX.2.2.2.2.1.1 zX.2.2.2.2.1.2.1 zX.2.2.2.2.1.2.2.1 zX.2.2.2.2.1.2.2.2.1 zX.2.2.2.2.1.2.2.2.2 zX.2.2.2.2.2.1 zX.2.2.2.2.2.2.1 zX.2.2.2.2.2.2.2.1 zX.2.2.2.2.2.2.2.2 := by
  intro hnv c1 h1 h2 hm hl e1 e2 e3 e4 e5 e6 e9 e10 e11 e12 e13 e14 e15 e16 e7 e8 e21 e17 e18 e19 e20
  refine zR.2 fun zd ze => pk_all (n := ED.ne) (P := fun x => zR.1 x.1 x.2) ?_ (zd, ze)
  show zR.1 zY.1 zY.2
  delta zR; dsimp only
  delta BodyAt; dsimp only
  intro B F X N T hk hd hu hp ret dA uA hin back F' N' B' X' T'
  dsimp only [ulL, List.cons_append, List.nil_append] at hin N' N
  have hA : At zY.2.g [(zX.1.2.1, instObj 260 zX.1.2.2.1), (zX.1.2.2.2.2, instObj 677 zX.2.1.1), (zX.2.1.1, dictOf (pcEs zX.1.1.params zX.2.2.1.2.2.1 zX.2.1.2.1 zX.2.1.2.2.1) 2), (zX.2.1.2.1, listOf zX.2.2.2.2.1.1.toArray zX.2.2.2.2.1.2.2.1)] := ⟨hin _ _ hp.1 (by k_extra "C.notin"), hin _ _ hp.2.1 (by k_extra "C.notin"), hin _ _ hp.2.2.1 (by k_extra "C.notin"), hin _ _ hp.2.2.2.1 (by k_extra "C.notin"), trivial⟩
  have hQ : LastQ zY.2.g zX.2.2.2.1.2.2.2.2 true := hl.elim (fun e => .inl ⟨e, rfl⟩) (fun e => .inr (.inl (e.elim fun r0 e => ⟨r0, e, rfl⟩)))
  replace F' : Fr zY.2.g zY.2.L zY.2.h (fun y => List.lookup y [(Str.ofString "tick", Value.int zX.2.2.2.2.2.2.2.1 zX.2.2.2.1.2.1), (Str.ofString "is_modified", Value.bool zX.2.2.2.2.1.2.2.2.2), (Str.ofString "markers", Value.ref zX.2.1.2.2.2.1), (Str.ofString "point", Value.int zX.2.2.2.2.2.2.1 zX.2.2.2.1.1), (Str.ofString "piece", Value.ref zX.1.2.2.2.2), (Str.ofString "start", Value.int zX.2.2.2.2.2.1 zX.2.2.1.2.2.2.2), (Str.ofString "self", Value.ref zX.1.2.1)]) := F'
  (try dsimp only)
  (try k_fold)
  k_steps
  all_goals (try dsimp only)
  all_goals (try contradiction)
  all_goals (refine leaveC_of (by assumption) hin back fun kF kept => ?_; try dsimp only)
  all_goals first
    | exact ret _ _ _ kF kept (nd_end (ext := []) (mext := []) (by assumption) (by k_mem) (by k_mem) (by k_mem) ⟨News.get (by assumption) (by k_mem), News.get (by assumption) (by k_mem), trivial⟩ (free_of hin (by assumption) (by k_mem) (by k_extra "C.notin")) (.inl ⟨rfl, rfl, by assumption⟩) (.inl rfl) (by first | (simp; done) | fail))
    | exact ret _ _ _ kF kept (nd_end1 (mext := []) (by assumption) (by k_mem) (by k_mem) (by k_mem) (by k_mem) ⟨News.get (by assumption) (by k_mem), News.get (by assumption) (by k_mem), trivial⟩ (free_of hin (by assumption) (by k_mem) (by k_extra "C.notin")) (by assumption) (by assumption) (free_of hin (by assumption) (by k_mem) (by k_extra "C.notin")) (.inl rfl) (by first | (simp; done) | fail))
    | exact ret _ _ _ kF kept (nd_end2 (by assumption) (by k_mem) (by k_mem) (by k_mem) (by k_mem) ⟨News.get (by assumption) (by k_mem), News.get (by assumption) (by k_mem), trivial⟩ (free_of hin (by assumption) (by k_mem) (by k_extra "C.notin")) (free_of hin (by assumption) (by k_mem) (by k_extra "C.notin")) (by assumption) (by first | (simp; done) | fail))
    | exact ret _ _ _ kF kept (nd_end3 (by assumption) (by k_mem) (by k_mem) (by k_mem) (by k_mem) (by k_mem) ⟨News.get (by assumption) (by k_mem), News.get (by assumption) (by k_mem), trivial⟩ (free_of hin (by assumption) (by k_mem) (by k_extra "C.notin")) (by assumption) (by assumption) (free_of hin (by assumption) (by k_mem) (by k_extra "C.notin")) (free_of hin (by assumption) (by k_mem) (by k_extra "C.notin")) (by first | (simp; done) | fail))
end note_delete1_specN
theorem note_delete1_spec (w ul uld rl pc pd cl rn ml mk y t tp b t1 t3 t4 td nv rs cs n nc nm bm st pt tick d) : note_delete1_specN.zP w ul uld rl pc pd cl rn ml mk y t tp b t1 t3 t4 td nv rs cs n nc nm bm st pt tick d := pk_all (n := note_delete1_specN.zne) (P := note_delete1_specN.zQ) note_delete1_specN.body ((w, ul, uld, rl, pc), (pd, cl, rn, ml, mk), (y, t, tp, b, t1), (t3, t4, td, nv, rs), (cs, n, nc, nm, bm), (st, pt, tick, d))
end
noncomputable def bufEs (P : Params) (t u : Nat → Tok) (g k li : Addr) (undo : Value) (pt zv ti ct sv : Int) (up uz ut uc us : Tok) : List DictEntry :=
  [en P "number" (t 0) (.int 1 (u 0)), en P "name" (t 1) (.str (Str.ofString "a") (u 1)), en P "text" (t 2) (.ref g), en P "markers" (t 3) (.ref k), en P "point" (t 4) (.int pt up), en P "begv" (t 5) (.int 1 (u 2)), en P "zv" (t 6) (.int zv uz), en P "mark" (t 7) .none, en P "is_live" (t 8) (.bool true), en P "is_read_only" (t 9) (.bool false), en P "ticks" (t 10) (.int ti ut), en P "codes_ticks" (t 11) (.int ct uc), en P "saved_ticks" (t 12) (.int sv us), en P "listeners" (t 13) (.ref li), en P "undo" (t 14) undo, en P "props" (t 15) .none, en P "overlays" (t 16) .none, en P "locals" (t 17) .none, en P "syntax" (t 18) .none, en P "file" (t 19) .none]
noncomputable def rcEs (P : Params) (t : Tok) (ul : Addr) : List DictEntry := [en P "list" t (.ref ul)]
structure St where
  cells : List Value
  nc : Nat
  gs : Int
  ge : Int
  gu : Tok
  gv : Tok
  pt : Int
  zv : Int
  ti : Int
  ct : Int
  sv : Int
  up : Tok
  uz : Tok
  ut : Tok
  uc : Tok
  us : Tok
  rs : List Value
  n : Nat
  nv : Value
  pos : Int
  um : Tok
  vp : Tok
  adv : Bool
  bv : Value
  kvs : List (Int × Value)
  okr : Obj
theorem st_ne : Nonempty St := ⟨by constructor <;> exact default⟩
def Inj (A : Nat → Addr) : Prop := ∀ i j, i < j → j < 16 → A i ≠ A j
theorem Inj.ne {A : Nat → Addr} (H : Inj A) {i j : Nat} (h : i < j) (k : j < 16) : A i ≠ A j := H i j h k
theorem Inj.ne' {A : Nat → Addr} (H : Inj A) {i j : Nat} (h : j < i) (k : i < 16) : A i ≠ A j := (H j i h k).symm
noncomputable abbrev ledL (w : World) (A : Nat → Addr) (T : Nat → Nat → Tok) (S : St) : List (Addr × Obj) :=
  [(A 0, dictOf (bufEs w.params (T 0) (T 1) (A 8) (A 9) (A 15) (.ref (A 13)) S.pt S.zv S.ti S.ct S.sv S.up S.uz S.ut S.uc S.us) 20),
   (A 1, dictOf (gapEs w.params (T 2) (.int 8 (T 2 9)) (.ref (A 2)) S.gs S.ge S.gu S.gv) 4), (A 2, listOf S.cells.toArray S.nc),
   (A 3, dictOf (mkEs w.params (T 3) S.adv S.bv S.pos S.um S.vp) 4), (A 4, S.okr),
   (A 5, dictOf (ulEs w.params (T 4) (A 6) 0 (T 4 9) S.nv) 5), (A 6, listOf S.rs.toArray S.n)]
noncomputable abbrev cstL (w : World) (A : Nat → Addr) (T : Nat → Nat → Tok) : List (Addr × Obj) :=
  [(A 7, instObj 651 (A 0)), (A 8, instObj 400 (A 1)), (A 9, instObj 545 (A 10)), (A 10, dictOf (ksEs w.params (T 5 0) (A 4)) 1), (A 11, instObj 477 (A 3)), (A 12, instObj 260 (A 5)), (A 13, instObj 717 (A 14)), (A 14, dictOf (rcEs w.params (T 5 1) (A 12)) 1), (A 15, listOf #[] 0)]
theorem At.into {s g : Heap} {l r : List (Addr × Obj)} (hin : ∀ b o, s.get? b = some o → b ∉ l.map (·.1) → g.get? b = some o) (H : At s r) (k : ∀ p ∈ r, p.1 ∉ l.map (·.1)) : At g r := by
  induction r with
  | nil => trivial
  | cons p r ih => exact ⟨hin _ _ H.1 (k _ (.head _)), ih H.2 fun q hq => k q (.tail _ hq)⟩
theorem cst_off {A : Nat → Addr} (H : Inj A) {i : Nat} (h : 6 < i) (h' : i < 16) : A i ∉ [A 0, A 1, A 2, A 3, A 4, A 5, A 6] := by
  have e : ∀ j, j < 7 → A i ≠ A j := fun j hj => (H j i (by omega) h').symm
  simp only [List.mem_cons, List.not_mem_nil, or_false, not_or]
  exact ⟨e 0 (by decide), e 1 (by decide), e 2 (by decide), e 3 (by decide), e 4 (by decide), e 5 (by decide), e 6 (by decide)⟩
theorem cst_into {w : World} {A : Nat → Addr} {T : Nat → Nat → Tok} {S : St} {s g : Heap} (H : Inj A) (hin : ∀ b o, s.get? b = some o → b ∉ (ledL w A T S).map (·.1) → g.get? b = some o) (h : At s (cstL w A T)) : At g (cstL w A T) := by
  refine At.into hin h fun p hp => ?_
  simp only [cstL, List.mem_cons, List.not_mem_nil, or_false] at hp
  rcases hp with rfl | rfl | rfl | rfl | rfl | rfl | rfl | rfl | rfl <;> exact cst_off H (by decide) (by decide)
def NotedX (bm : Bool) (tick : Int) (nv : Value) (ext : List Value) (nv' : Value) (x : Addr) (o : Obj) : Prop :=
  (ext = [] ∧ nv' = nv ∧ (bm = true ∨ ∃ c, nv = .int tick c)) ∨ (bm = false ∧ (¬ ∃ c, nv = .int tick c) ∧ (∃ c, nv' = .int tick c) ∧ ext = [.ref x] ∧ ∃ a b, o = unO tick a b)
theorem Noted.wit {hs h' : Heap} {bm : Bool} {tick : Int} {nv : Value} {ext : List Value} {nv' : Value} (H : Noted hs h' bm tick nv ext nv') {y : Addr} {oy : Obj} (h1 : hs.get? y = none) (h2 : h'.get? y = some oy) : ∃ x o, hs.get? x = none ∧ h'.get? x = some o ∧ NotedX bm tick nv ext nv' x o := by
  rcases H with ⟨a, b, c⟩ | ⟨a, b, c, x, p, q, e, f, g⟩
  · exact ⟨y, oy, h1, h2, .inl ⟨a, b, c⟩⟩
  · exact ⟨x, _, f, g, .inr ⟨a, b, c, e, p, q, rfl⟩⟩
theorem NotedX.back {hs h' : Heap} {bm : Bool} {tick : Int} {nv : Value} {ext : List Value} {nv' : Value} {x : Addr} {o : Obj} (H : NotedX bm tick nv ext nv' x o) (h1 : hs.get? x = none) (h2 : h'.get? x = some o) : Noted hs h' bm tick nv ext nv' := by
  rcases H with ⟨a, b, c⟩ | ⟨a, b, c, e, p, q, rfl⟩
  · exact .inl ⟨a, b, c⟩
  · exact .inr ⟨a, b, c, x, p, q, e, h1, h2⟩
theorem list_vs {prog : Program} {w : World} {A : Around} {E : Value → Shared → Prop} {s : Shared} {h₀ : Heap} {L l : Addr} {m : Str → Option Value} {news : List (Addr × Obj)} {vs : List Value} {Q : Value → Shared → Prop} (F : Fr h₀ L s.heap m) (N : News h₀ L s.heap news) (hl : s.heap.IsList l vs.toArray) (hz : vs.length ≤ 1000000)
    (h : ∀ D c h', Fr h₀ L h' m → News h₀ L h' ((D, listOf vs.toArray c) :: news) → (∀ q ∈ news, q.1 < D) → Q (.ref D) { s with heap := h' }) : wpAny (model prog w) A (call (.type "list") [.ref l]) Q E s :=
  list_copyK F N hl h (by rw [List.size_toArray, sizeLine_eq]; omega)
theorem nm_cons {x : Addr} {r : List Addr} {a : Addr} (h : a ≠ x) (k : a ∉ r) : a ∉ x :: r := fun m => (List.mem_cons.mp m).elim h k
theorem rm1 {x1 dp a b c lim : Nat} (d1 : x1 = dp + c) (h : dp + a < lim) (q : Nat.ble (b + 1 * c) a = true) : x1 + b < lim := by have := Nat.le_of_ble_eq_true q; omega
theorem rn1 {x1 dp a c lim : Nat} (d1 : x1 = dp + c) (h : dp + a < lim) (q : Nat.ble (1 * c) a = true) : x1 < lim := by have := Nat.le_of_ble_eq_true q; omega
theorem rm2 {x1 x2 dp a b c lim : Nat} (d2 : x2 = x1 + c) (d1 : x1 = dp + c) (h : dp + a < lim) (q : Nat.ble (b + 2 * c) a = true) : x2 + b < lim := by have := Nat.le_of_ble_eq_true q; omega
theorem rn2 {x1 x2 dp a c lim : Nat} (d2 : x2 = x1 + c) (d1 : x1 = dp + c) (h : dp + a < lim) (q : Nat.ble (2 * c) a = true) : x2 < lim := by have := Nat.le_of_ble_eq_true q; omega
theorem rm3 {x1 x2 x3 dp a b c lim : Nat} (d3 : x3 = x2 + c) (d2 : x2 = x1 + c) (d1 : x1 = dp + c) (h : dp + a < lim) (q : Nat.ble (b + 3 * c) a = true) : x3 + b < lim := by have := Nat.le_of_ble_eq_true q; omega
theorem code_defE {prog : Program} {w : World} {A A₀ : Around} {s : Shared} {K : Frag} {L : Addr} {h₀ base : Heap} {m mg mb : Str → Option Value} {news : List (Addr × Obj)} {p : Program} {loose : List Str} {mean : ExcName → Option Value}
    {env : Env} {outer : List Env} {R : Result → Shared → Prop} {name qual : Str} {params : Arguments} {body : List Stmt} {scope : Scope} {dV kV doc pm cdv ct oc : Value} {an od : Option Addr} {osl : Array (Option Value)} {f : Addr} {args : Args} {binds : List (Str × Value)}
    (B : Below A₀ base outer h₀) (F : Fr h₀ L s.heap m) (X₀ : K.In h₀) (N : News h₀ L s.heap news) (T : Top p loose mean mg mb h₀) (hA : A.frames = some (env :: outer)) (hf : env.frame = some L) (hke : env.scope.kind = .function)
    (ho : K.lookup f = some ⟨oc, od, .func (fnOf name qual params body scope dV kV doc pm an cdv ct), osl⟩) (hcd : codeIn K cdv qual = true) (hroom : A.depth < recursionLimit)
    (hbind : BindsTo s (fnOf name qual params body scope dV kV doc pm an cdv ct) args binds) (hloc : ∀ y ∈ binds, scope.names.lookup y.1 = some .local)
    (h : ∀ g L' h₁ tk, let AA := A.deeper (envOf qual scope L' f cdv); AA.depth = A.depth + 1 → AA.units = A.units + 3 →
      Fr h₀ L g m → Fr g L' h₁ (fun y => binds.reverse.lookup y) → News g L' h₁ news → Below A base (env :: outer) g → K.In g → Top p loose mean mg mb g →
      wpAny (model prog w) AA (execs body (envOf qual scope L' f cdv))
        (fun fl s' => LeaveK h₀ L m g R (match fl with | .ret v => v | _ => .none) s')
        (fun _ _ => False)
        { s with heap := h₁, toks := tk })
    (hco : scope.isCoroutine = false) (hgen : scope.isGenerator = false) (hk : scope.kind = .function)
    (hcell : ∀ x ∈ scope.names, x.2 ≠ .cell) : codeAny (model prog w) A (.call (.ref f) args) R s :=
  code_def B F X₀ N T hA hf hke ho hcd hroom hbind hloc (fun g L' h₁ FG F' N' B' X' T' => wpAny_noRaise (h g L' h₁ _ rfl rfl FG F' N' B' X' T')) hco hgen hk hcell
theorem note_insert_use {w : World} {p : Program} {loose : List Str} {mean : ExcName → Option Value} {mg mb : Str → Option Value} {dp un : Nat} {gd : Option (List Code)} {cn : Str} {cs : Scope} {a₀ : Addr} {ccd : Value} {cl₀ : List (Str × Addr)} {outer : List Env} {A₀ : Around} {base h₀ : Heap} {L : Addr} {m : Str → Option Value} {s : Shared} {Q E : Value → Shared → Prop} {news : List (Addr × Obj)} {ul uld rl : Addr} {t : Nat → Tok} {b t1 t2 t3 t4 : Tok} {nv : Value} {rs : List Value} {n : Nat} {bm : Bool} {st many pt tick : Int} (B : Below A₀ base outer h₀) (F : Fr h₀ L s.heap m) (X : (KK w.params).In h₀) (N : News h₀ L s.heap news) (T : Top p loose mean mg mb h₀) (hk : cs.kind = .function)
    (hp : s.heap.get? ul = some (instObj 260 uld)) (sub : Subl (ulL w uld rl t b nv rs n) news) (hd : dp + 40 < recursionLimit) (hu : un + 400 < cLine) (hnv : nv = .none ∨ ∃ i c, nv = .int i c) (c1 : uld ≠ rl) (h1 : rs.length ≤ 400000) (hm : many ≠ 0) (hl : rs = [] ∨ ∃ r0, rs = r0 ++ [.ref 175])
    (ret : ∀ ext nv' n' y a c d x o h' tk', Fr h₀ L h' m → (∀ new, Repl [uld, rl] (ulL w uld rl t b nv' (rs ++ (ext ++ [Value.ref y])) n') news new → News h₀ L h' ((x, o) :: (y, insO st (st + many) a c d) :: new)) → NotedX bm tick nv ext nv' x o → NeAll y news → NeAll x news → Q .none { s with heap := h', toks := tk' }) :
    wpAny (model pw w) (ktrTop dp un gd cn cs L a₀ ccd cl₀ outer) (call (.ref 231) [.ref ul, .int st t1, .int many t2, .int pt t3, .bool bm, .int tick t4]) Q E s := by
  refine spec_use2 (note_insert_spec w ul uld rl t b t1 t2 t3 t4 nv rs n bm st many pt tick hnv c1 h1 hm hl) B F X N T hk hp sub hd hu ?_
  intro v h' tk' F' nb fr kp po
  obtain ⟨rfl, ext, nv', n', y, a, c, d, A', po, hy, hy2⟩ := po
  obtain ⟨x, o, hx, hx2, po⟩ := Noted.wit po hy hy2
  exact ret ext nv' n' y a c d x o h' tk' F' (fun new R => News.cons' (fr _ _ hx hx2).1 (fr _ _ hx hx2).2.1 (News.cons' (fr _ _ hy hy2).1 (fr _ _ hy hy2).2.1 (nb _ _ A' R))) po (fr _ _ hy hy2).2.2 (fr _ _ hx hx2).2.2
theorem gapins_use {w : World} {p : Program} {loose : List Str} {mean : ExcName → Option Value} {mg mb : Str → Option Value} {dp un : Nat} {gd : Option (List Code)} {cn : Str} {cs : Scope} {a₀ : Addr} {ccd : Value} {cl₀ : List (Str × Addr)} {outer : List Env} {A₀ : Around} {base h₀ : Heap} {L : Addr} {m : Str → Option Value} {s : Shared} {Q E : Value → Shared → Prop} {news : List (Addr × Obj)} {g gd' c cl : Addr} {t : Nat → Tok} {r : Int} {rt : Tok} {cells codes : List Value} {nc nk : Nat} {gs ge a : Int} {u v t1 : Tok} (B : Below A₀ base outer h₀) (F : Fr h₀ L s.heap m) (X : (KK w.params).In h₀) (N : News h₀ L s.heap news) (T : Top p loose mean mg mb h₀) (hk : cs.kind = .function)
    (hp : s.heap.get? g = some (instObj 400 gd')) (hp2 : s.heap.get? cl = some (listOf codes.toArray nk)) (sub : Subl (gapL w gd' c t (.int r rt) cells nc gs ge u v) news) (hd : dp + 20 < recursionLimit) (hu : un + 200 < cLine) (c2 : gd' ≠ c) (c3 : cl ≠ c) (h0 : 0 ≤ a) (h2 : a ≤ cells.length - ge + gs) (h3 : 0 ≤ gs) (h4 : gs ≤ ge) (h5 : ge ≤ cells.length) (h6 : cells.length ≤ 200000) (h7 : codes.length ≤ 1000) (h8 : 0 ≤ r) (h9 : r ≤ 100)
    (ret : ∀ cells' nc' gs' ge' u' v' h' tk', Fr h₀ L h' m → (∀ new, Repl [gd', c] (gapL w gd' c t (.int r rt) cells' nc' gs' ge' u' v') news new → News h₀ L h' new) → 0 ≤ gs' → gs' ≤ ge' → ge' ≤ cells'.length → cells'.length ≤ cells.length + codes.length + r → txt cells' gs' ge' = (txt cells gs ge).take a.toNat ++ codes ++ (txt cells gs ge).drop a.toNat → Q .none { s with heap := h', toks := tk' }) :
    wpAny (model pw w) (ktrTop dp un gd cn cs L a₀ ccd cl₀ outer) (call (.ref 369) [.ref g, .int a t1, .ref cl]) Q E s := by
  refine spec_use2 (gapins_spec w g gd' c cl t r rt cells codes nc nk gs ge a u v t1 c2 c3 h0 h2 h3 h4 h5 h6 h7 h8 h9) B F X N T hk ⟨hp, hp2⟩ sub hd hu ?_
  intro v h' tk' F' nb fr kp po
  obtain ⟨rfl, cells', nc', gs', ge', u', v', A', p1, p2, p3, p4, p5⟩ := po
  exact ret cells' nc' gs' ge' u' v' h' tk' F' (fun new R => nb _ _ A' R) p1 p2 p3 p4 p5
theorem inserted_use {w : World} {p : Program} {loose : List Str} {mean : ExcName → Option Value} {mg mb : Str → Option Value} {dp un : Nat} {gd : Option (List Code)} {cn : Str} {cs : Scope} {a₀ : Addr} {ccd : Value} {cl₀ : List (Str × Addr)} {outer : List Env} {A₀ : Around} {base h₀ : Heap} {L : Addr} {m : Str → Option Value} {s : Shared} {Q E : Value → Shared → Prop} {news : List (Addr × Obj)} {k kd kr mk mkd : Addr} {tk : Tok} {t : Nat → Tok} {adv : Bool} {bv : Value} {pos st e : Int} {u v t1 t2 : Tok} {bf : Bool} {okr : Obj} {kvs : List (Int × Value)} (B : Below A₀ base outer h₀) (F : Fr h₀ L s.heap m) (X : (KK w.params).In h₀) (N : News h₀ L s.heap news) (T : Top p loose mean mg mb h₀) (hk : cs.kind = .function)
    (hp : s.heap.get? k = some (instObj 545 kd)) (hp2 : s.heap.get? kd = some (dictOf (ksEs w.params tk kr) 1)) (hp3 : s.heap.get? mk = some (instObj 477 mkd)) (sub : Subl (mkL w mkd kr t adv bv pos u v okr) news) (hd : dp + 20 < recursionLimit) (hu : un + 200 < cLine)
    (lo : (kr == sysModules) = false) (hkr : okr.IsDictOf (intKind pw w) kvs) (hkv : kvs = [] ∨ kvs = [(1, .ref mk)]) (c1 : mkd ≠ kr) (hm1 : mk ≠ mkd) (hm2 : mk ≠ kr) (hm3 : k ≠ kr) (hm4 : kd ≠ kr) (hm5 : kd ≠ mkd) (hm6 : k ≠ mkd)
    (ret : ∀ pos' v' h' tk', Fr h₀ L h' m → (∀ new, Repl [mkd, kr] (mkL w mkd kr t adv bv pos' u v' okr) news new → News h₀ L h' new) → (kvs = [] → pos' = pos) → Q .none { s with heap := h', toks := tk' }) :
    wpAny (model pw w) (ktrTop dp un gd cn cs L a₀ ccd cl₀ outer) (call (.ref 528) [.ref k, .int st t1, .int e t2, .bool bf]) Q E s := by
  refine spec_use2 (inserted_spec w k kd kr mk mkd tk t adv bv pos st e u v t1 t2 bf okr kvs lo hkr hkv c1 hm1 hm2 hm3 hm4 hm5 hm6) B F X N T hk ⟨hp, hp2, hp3, trivial⟩ sub hd hu ?_
  intro v h' tk' F' nb fr kp po
  obtain ⟨rfl, pos', v', A', p1⟩ := po
  exact ret pos' v' h' tk' F' (fun new R => nb _ _ A' R) p1
theorem use0 {w : World} {D U : Nat} {f : Addr} {args : List Value} {news : List (Addr × Obj)} {pre : Heap → Prop} {v : Value}
    {p : Program} {loose : List Str} {mean : ExcName → Option Value} {mg mb : Str → Option Value} {dp un : Nat} {gd : Option (List Code)} {cn : Str} {cs : Scope} {a : Addr} {ccd : Value} {cl : List (Str × Addr)} {outer : List Env} {A₀ : Around} {base h₀ : Heap} {L : Addr} {m : Str → Option Value} {s : Shared}
    {Q E : Value → Shared → Prop} (S : Spec w D U f args [] pre (fun _ x _ => x = v))
    (B : Below A₀ base outer h₀) (F : Fr h₀ L s.heap m) (X : (KK w.params).In h₀) (N : News h₀ L s.heap news) (T : Top p loose mean mg mb h₀) (hk : cs.kind = .function) (hp : pre s.heap) (hd : dp + D < recursionLimit) (hu : un + U < cLine)
    (ret : ∀ h' tk', Fr h₀ L h' m → News h₀ L h' news → Q v { s with heap := h', toks := tk' }) :
    wpAny (model pw w) (ktrTop dp un gd cn cs L a ccd cl outer) (call (.ref f) args) Q E s := by
  refine spec_use2 S B F X N T hk hp trivial hd hu ?_
  intro x h' tk' F' nb fr kp po
  cases po
  exact ret h' tk' F' (nb [] _ At.nil (by
    clear nb fr kp ret N
    induction news with
    | nil => exact .nil
    | cons q r ih => exact .keep List.not_mem_nil ih))
section
variable {w : World} {A : Around} {E : Value → Shared → Prop} {s : Shared} {b bd L g k li : Addr} {h₀ : Heap} {m : Str → Option Value} {news : List (Addr × Obj)} {news' : Tok → List (Addr × Obj)} {Q : Unit → Shared → Prop}
  {tb ub : Nat → Tok} {uv : Value} {pt zv ti ct sv x : Int} {up uz ut uc us y : Tok}
theorem set_pt (F : Fr h₀ L s.heap m) (X₀ : (KK w.params).In h₀) (N : News h₀ L s.heap news) (I : PySem.W.InstAt s.heap b (instObj 651 bd) 651 (some (dictOf (bufEs w.params tb ub g k li uv pt zv ti ct sv up uz ut uc us) 20)))
    (U : ∀ t', Upd bd (dictOf (bufEs w.params tb ub g k li uv pt zv ti ct sv up uz ut uc us) 20) (dictOf (bufEs w.params tb ub g k li uv x zv ti ct sv t' uz ut uc us) 20) news (news' t'))
    (h : ∀ t' h' tk', Fr h₀ L h' m → News h₀ L h' (news' t') → Q () { s with heap := h', toks := tk' }) :
    wpAny (model pw w) A (setAttr (.ref b) (Str.ofString "point") (.int x y)) Q E s :=
  set_dict F X₀ N I rfl (by k_is) (by k_is) (by k_is) (by k_is) (by k_get) rfl (U y) (Nat.le_of_ble_eq_true rfl) fun h' F' N' => h y h' _ F' N'
theorem set_zv (F : Fr h₀ L s.heap m) (X₀ : (KK w.params).In h₀) (N : News h₀ L s.heap news) (I : PySem.W.InstAt s.heap b (instObj 651 bd) 651 (some (dictOf (bufEs w.params tb ub g k li uv pt zv ti ct sv up uz ut uc us) 20)))
    (U : ∀ t', Upd bd (dictOf (bufEs w.params tb ub g k li uv pt zv ti ct sv up uz ut uc us) 20) (dictOf (bufEs w.params tb ub g k li uv pt x ti ct sv up t' ut uc us) 20) news (news' t'))
    (h : ∀ t' h' tk', Fr h₀ L h' m → News h₀ L h' (news' t') → Q () { s with heap := h', toks := tk' }) :
    wpAny (model pw w) A (setAttr (.ref b) (Str.ofString "zv") (.int x y)) Q E s :=
  set_dict F X₀ N I rfl (by k_is) (by k_is) (by k_is) (by k_is) (by k_get) rfl (U y) (Nat.le_of_ble_eq_true rfl) fun h' F' N' => h y h' _ F' N'
theorem set_ti (F : Fr h₀ L s.heap m) (X₀ : (KK w.params).In h₀) (N : News h₀ L s.heap news) (I : PySem.W.InstAt s.heap b (instObj 651 bd) 651 (some (dictOf (bufEs w.params tb ub g k li uv pt zv ti ct sv up uz ut uc us) 20)))
    (U : ∀ t', Upd bd (dictOf (bufEs w.params tb ub g k li uv pt zv ti ct sv up uz ut uc us) 20) (dictOf (bufEs w.params tb ub g k li uv pt zv x ct sv up uz t' uc us) 20) news (news' t'))
    (h : ∀ t' h' tk', Fr h₀ L h' m → News h₀ L h' (news' t') → Q () { s with heap := h', toks := tk' }) :
    wpAny (model pw w) A (setAttr (.ref b) (Str.ofString "ticks") (.int x y)) Q E s :=
  set_dict F X₀ N I rfl (by k_is) (by k_is) (by k_is) (by k_is) (by k_get) rfl (U y) (Nat.le_of_ble_eq_true rfl) fun h' F' N' => h y h' _ F' N'
theorem set_ct (F : Fr h₀ L s.heap m) (X₀ : (KK w.params).In h₀) (N : News h₀ L s.heap news) (I : PySem.W.InstAt s.heap b (instObj 651 bd) 651 (some (dictOf (bufEs w.params tb ub g k li uv pt zv ti ct sv up uz ut uc us) 20)))
    (U : ∀ t', Upd bd (dictOf (bufEs w.params tb ub g k li uv pt zv ti ct sv up uz ut uc us) 20) (dictOf (bufEs w.params tb ub g k li uv pt zv ti x sv up uz ut t' us) 20) news (news' t'))
    (h : ∀ t' h' tk', Fr h₀ L h' m → News h₀ L h' (news' t') → Q () { s with heap := h', toks := tk' }) :
    wpAny (model pw w) A (setAttr (.ref b) (Str.ofString "codes_ticks") (.int x y)) Q E s :=
  set_dict F X₀ N I rfl (by k_is) (by k_is) (by k_is) (by k_is) (by k_get) rfl (U y) (Nat.le_of_ble_eq_true rfl) fun h' F' N' => h y h' _ F' N'
theorem set_sv (F : Fr h₀ L s.heap m) (X₀ : (KK w.params).In h₀) (N : News h₀ L s.heap news) (I : PySem.W.InstAt s.heap b (instObj 651 bd) 651 (some (dictOf (bufEs w.params tb ub g k li uv pt zv ti ct sv up uz ut uc us) 20)))
    (U : ∀ t', Upd bd (dictOf (bufEs w.params tb ub g k li uv pt zv ti ct sv up uz ut uc us) 20) (dictOf (bufEs w.params tb ub g k li uv pt zv ti ct x up uz ut uc t') 20) news (news' t'))
    (h : ∀ t' h' tk', Fr h₀ L h' m → News h₀ L h' (news' t') → Q () { s with heap := h', toks := tk' }) :
    wpAny (model pw w) A (setAttr (.ref b) (Str.ofString "saved_ticks") (.int x y)) Q E s :=
  set_dict F X₀ N I rfl (by k_is) (by k_is) (by k_is) (by k_is) (by k_get) rfl (U y) (Nat.le_of_ble_eq_true rfl) fun h' F' N' => h y h' _ F' N'
end
section
open N_Bq
theorem re_end {h₀ h hs : Heap} {L D : Addr} {news : List (Addr × Obj)} {a c : Int} {tx ty : Tok} (N : News h₀ L h news) (m : (D, tup #[.int (if c < a then c else a) tx, .int (if c > a then c else a) ty]) ∈ news) (f : hs.get? D = none) (h0 : 1 ≤ a) (h1 : a ≤ c) :
    ∃ d u v, Value.ref D = .ref d ∧ hs.get? d = none ∧ h.get? d = some (tup #[.int a u, .int c v]) := by
  refine ⟨D, tx, ty, rfl, f, ?_⟩
  rw [(N _ m).1, if_neg (by omega)]
  by_cases q : c > a
  · rw [if_pos q]
  · rw [if_neg q, show a = c by omega]
namespace nw_specN
abbrev zS (w : World) (b bd g k li : Addr) (tb ub : Nat → Tok) (uv : Value) (pt zv ti ct sv : Int) (up uz ut uc us : Tok) : Prop := Spec w 20 200 48 [.ref b] [] (fun h => At h [(b, instObj 651 bd), (bd, dictOf (bufEs w.params tb ub g k li uv pt zv ti ct sv up uz ut uc us) 20)]) (fun h x h' => x = .none)
def zP (w : World) (b bd g k li : Addr) (tb ub : Nat → Tok) (uv : Value) (pt zv ti ct sv : Int) (up uz ut uc us : Tok) : Prop := zS w b bd g k li tb ub uv pt zv ti ct sv up uz ut uc us
abbrev zT := (World × Addr × Addr × Addr) × (Addr × Addr × (Nat → Tok) × (Nat → Tok)) × (Value × Int × Int × Int) × (Int × Int × Tok × Tok) × (Tok × Tok × Tok)
def zQ (x : zT) : Prop := zP x.1.1 x.1.2.1 x.1.2.2.1 x.1.2.2.2 x.2.1.1 x.2.1.2.1 x.2.1.2.2.1 x.2.1.2.2.2 x.2.2.1.1 x.2.2.1.2.1 x.2.2.1.2.2.1 x.2.2.1.2.2.2 x.2.2.2.1.1 x.2.2.2.1.2.1 x.2.2.2.1.2.2.1 x.2.2.2.1.2.2.2 x.2.2.2.2.1 x.2.2.2.2.2.1 x.2.2.2.2.2.2
theorem zne : Nonempty zT := by k_extra "zne"
def zX : zT := pk zne zQ
def b := zX.1.2.1
def zR : Red2 (zS zX.1.1 b zX.1.2.2.1 zX.1.2.2.2 zX.2.1.1 zX.2.1.2.1 zX.2.1.2.2.1 zX.2.1.2.2.2 zX.2.2.1.1 zX.2.2.1.2.1 zX.2.2.1.2.2.1 zX.2.2.1.2.2.2 zX.2.2.2.1.1 zX.2.2.2.1.2.1 zX.2.2.2.1.2.2.1 zX.2.2.2.1.2.2.2 zX.2.2.2.2.1 zX.2.2.2.2.2.1 zX.2.2.2.2.2.2) SD ED := by k_extra "zR"
def zY : SD × ED := pk ED.ne fun x => zR.1 x.1 x.2
theorem body : zP zX.1.1 b zX.1.2.2.1 zX.1.2.2.2 zX.2.1.1 zX.2.1.2.1 zX.2.1.2.2.1 zX.2.1.2.2.2 zX.2.2.1.1 zX.2.2.1.2.1 zX.2.2.1.2.2.1 zX.2.2.1.2.2.2 zX.2.2.2.1.1 zX.2.2.2.1.2.1 zX.2.2.2.1.2.2.1 zX.2.2.2.1.2.2.2 zX.2.2.2.2.1 zX.2.2.2.2.2.1 zX.2.2.2.2.2.2 := by
  refine zR.2 fun zd ze => pk_all (n := ED.ne) (P := fun x => zR.1 x.1 x.2) ?_ (zd, ze)
  show zR.1 zY.1 zY.2
  delta zR; dsimp only
  delta BodyAt; dsimp only
  intro B F X N TT hk hd hu hp ret dA uA hin back F' N' B' X' T'
  (try dsimp only at hin)
  have hA := At.keep hp fun b o e => hin b o e List.not_mem_nil
  replace F' : Fr zY.2.g zY.2.L zY.2.h (fun y => List.lookup y [(Str.ofString "buffer", Value.ref b)]) := F'
  (try dsimp only)
  (try k_fold)
  k_steps
  all_goals (try dsimp only)
  all_goals (try contradiction)
  all_goals (refine leaveC_of (by assumption) hin back fun kF kept => ?_; try dsimp only)
  all_goals exact ret _ _ _ kF kept rfl
end nw_specN
theorem nw_spec (w b bd g k li tb ub uv pt zv ti ct sv up uz ut uc us) : nw_specN.zS w b bd g k li tb ub uv pt zv ti ct sv up uz ut uc us := pk_all (n := nw_specN.zne) (P := nw_specN.zQ) nw_specN.body ((w, b, bd, g), (k, li, tb, ub), (uv, pt, zv, ti), (ct, sv, up, uz), (ut, uc, us))
namespace hi_specN
abbrev zS (w : World) (b bd g k li : Addr) (tb ub : Nat → Tok) (uv : Value) (pt zv ti ct sv : Int) (up uz ut uc us : Tok) (a c : Int) (ta tc : Tok) (q : Bool) : Prop := Spec w 20 200 97 [.ref b, .int a ta, .int c tc, .bool q] [] (fun h => At h [(b, instObj 651 bd), (bd, dictOf (bufEs w.params tb ub g k li uv pt zv ti ct sv up uz ut uc us) 20)]) (fun h x h' => x = .none)
def zP (w : World) (b bd g k li : Addr) (tb ub : Nat → Tok) (uv : Value) (pt zv ti ct sv : Int) (up uz ut uc us : Tok) (a c : Int) (ta tc : Tok) (q : Bool) : Prop := zS w b bd g k li tb ub uv pt zv ti ct sv up uz ut uc us a c ta tc q
abbrev zT := (World × Addr × Addr × Addr × Addr) × (Addr × (Nat → Tok) × (Nat → Tok) × Value × Int) × (Int × Int × Int × Int × Tok) × (Tok × Tok × Tok × Tok × Int) × (Int × Tok × Tok × Bool)
def zQ (x : zT) : Prop := zP x.1.1 x.1.2.1 x.1.2.2.1 x.1.2.2.2.1 x.1.2.2.2.2 x.2.1.1 x.2.1.2.1 x.2.1.2.2.1 x.2.1.2.2.2.1 x.2.1.2.2.2.2 x.2.2.1.1 x.2.2.1.2.1 x.2.2.1.2.2.1 x.2.2.1.2.2.2.1 x.2.2.1.2.2.2.2 x.2.2.2.1.1 x.2.2.2.1.2.1 x.2.2.2.1.2.2.1 x.2.2.2.1.2.2.2.1 x.2.2.2.1.2.2.2.2 x.2.2.2.2.1 x.2.2.2.2.2.1 x.2.2.2.2.2.2.1 x.2.2.2.2.2.2.2
theorem zne : Nonempty zT := by k_extra "zne"
def zX : zT := pk zne zQ
def b := zX.1.2.1
def zR : Red2 (zS zX.1.1 b zX.1.2.2.1 zX.1.2.2.2.1 zX.1.2.2.2.2 zX.2.1.1 zX.2.1.2.1 zX.2.1.2.2.1 zX.2.1.2.2.2.1 zX.2.1.2.2.2.2 zX.2.2.1.1 zX.2.2.1.2.1 zX.2.2.1.2.2.1 zX.2.2.1.2.2.2.1 zX.2.2.1.2.2.2.2 zX.2.2.2.1.1 zX.2.2.2.1.2.1 zX.2.2.2.1.2.2.1 zX.2.2.2.1.2.2.2.1 zX.2.2.2.1.2.2.2.2 zX.2.2.2.2.1 zX.2.2.2.2.2.1 zX.2.2.2.2.2.2.1 zX.2.2.2.2.2.2.2) SD ED := by k_extra "zR"
def zY : SD × ED := pk ED.ne fun x => zR.1 x.1 x.2
theorem body : zP zX.1.1 b zX.1.2.2.1 zX.1.2.2.2.1 zX.1.2.2.2.2 zX.2.1.1 zX.2.1.2.1 zX.2.1.2.2.1 zX.2.1.2.2.2.1 zX.2.1.2.2.2.2 zX.2.2.1.1 zX.2.2.1.2.1 zX.2.2.1.2.2.1 zX.2.2.1.2.2.2.1 zX.2.2.1.2.2.2.2 zX.2.2.2.1.1 zX.2.2.2.1.2.1 zX.2.2.2.1.2.2.1 zX.2.2.2.1.2.2.2.1 zX.2.2.2.1.2.2.2.2 zX.2.2.2.2.1 zX.2.2.2.2.2.1 zX.2.2.2.2.2.2.1 zX.2.2.2.2.2.2.2 := by
  refine zR.2 fun zd ze => pk_all (n := ED.ne) (P := fun x => zR.1 x.1 x.2) ?_ (zd, ze)
  show zR.1 zY.1 zY.2
  delta zR; dsimp only
  delta BodyAt; dsimp only
  intro B F X N TT hk hd hu hp ret dA uA hin back F' N' B' X' T'
  (try dsimp only at hin)
  have hA := At.keep hp fun b o e => hin b o e List.not_mem_nil
  replace F' : Fr zY.2.g zY.2.L zY.2.h (fun y => List.lookup y [(Str.ofString "before_markers", Value.bool zX.2.2.2.2.2.2.2), (Str.ofString "many", Value.int zX.2.2.2.2.1 zX.2.2.2.2.2.2.1), (Str.ofString "place", Value.int zX.2.2.2.1.2.2.2.2 zX.2.2.2.2.2.1), (Str.ofString "buffer", Value.ref b)]) := F'
  (try dsimp only)
  (try k_fold)
  k_steps
  all_goals (try dsimp only)
  all_goals (try contradiction)
  all_goals (refine leaveC_of (by assumption) hin back fun kF kept => ?_; try dsimp only)
  all_goals exact ret _ _ _ kF kept rfl
end hi_specN
theorem hi_spec (w b bd g k li tb ub uv pt zv ti ct sv up uz ut uc us a c ta tc q) : hi_specN.zS w b bd g k li tb ub uv pt zv ti ct sv up uz ut uc us a c ta tc q := pk_all (n := hi_specN.zne) (P := hi_specN.zQ) hi_specN.body ((w, b, bd, g, k), (li, tb, ub, uv, pt), (zv, ti, ct, sv, up), (uz, ut, uc, us, a), (c, ta, tc, q))
namespace ho_specN
abbrev zS (w : World) (b bd g k li : Addr) (tb ub : Nat → Tok) (uv : Value) (pt zv ti ct sv : Int) (up uz ut uc us : Tok) (a c : Int) (ta tc : Tok) : Prop := Spec w 20 200 90 [.ref b, .int a ta, .int c tc] [] (fun h => At h [(b, instObj 651 bd), (bd, dictOf (bufEs w.params tb ub g k li uv pt zv ti ct sv up uz ut uc us) 20)]) (fun h x h' => x = .none)
def zP (w : World) (b bd g k li : Addr) (tb ub : Nat → Tok) (uv : Value) (pt zv ti ct sv : Int) (up uz ut uc us : Tok) (a c : Int) (ta tc : Tok) : Prop := zS w b bd g k li tb ub uv pt zv ti ct sv up uz ut uc us a c ta tc
abbrev zT := (World × Addr × Addr × Addr × Addr) × (Addr × (Nat → Tok) × (Nat → Tok) × Value × Int) × (Int × Int × Int × Int × Tok) × (Tok × Tok × Tok × Tok × Int) × (Int × Tok × Tok)
def zQ (x : zT) : Prop := zP x.1.1 x.1.2.1 x.1.2.2.1 x.1.2.2.2.1 x.1.2.2.2.2 x.2.1.1 x.2.1.2.1 x.2.1.2.2.1 x.2.1.2.2.2.1 x.2.1.2.2.2.2 x.2.2.1.1 x.2.2.1.2.1 x.2.2.1.2.2.1 x.2.2.1.2.2.2.1 x.2.2.1.2.2.2.2 x.2.2.2.1.1 x.2.2.2.1.2.1 x.2.2.2.1.2.2.1 x.2.2.2.1.2.2.2.1 x.2.2.2.1.2.2.2.2 x.2.2.2.2.1 x.2.2.2.2.2.1 x.2.2.2.2.2.2
theorem zne : Nonempty zT := by k_extra "zne"
def zX : zT := pk zne zQ
def b := zX.1.2.1
def zR : Red2 (zS zX.1.1 b zX.1.2.2.1 zX.1.2.2.2.1 zX.1.2.2.2.2 zX.2.1.1 zX.2.1.2.1 zX.2.1.2.2.1 zX.2.1.2.2.2.1 zX.2.1.2.2.2.2 zX.2.2.1.1 zX.2.2.1.2.1 zX.2.2.1.2.2.1 zX.2.2.1.2.2.2.1 zX.2.2.1.2.2.2.2 zX.2.2.2.1.1 zX.2.2.2.1.2.1 zX.2.2.2.1.2.2.1 zX.2.2.2.1.2.2.2.1 zX.2.2.2.1.2.2.2.2 zX.2.2.2.2.1 zX.2.2.2.2.2.1 zX.2.2.2.2.2.2) SD ED := by k_extra "zR"
def zY : SD × ED := pk ED.ne fun x => zR.1 x.1 x.2
theorem body : zP zX.1.1 b zX.1.2.2.1 zX.1.2.2.2.1 zX.1.2.2.2.2 zX.2.1.1 zX.2.1.2.1 zX.2.1.2.2.1 zX.2.1.2.2.2.1 zX.2.1.2.2.2.2 zX.2.2.1.1 zX.2.2.1.2.1 zX.2.2.1.2.2.1 zX.2.2.1.2.2.2.1 zX.2.2.1.2.2.2.2 zX.2.2.2.1.1 zX.2.2.2.1.2.1 zX.2.2.2.1.2.2.1 zX.2.2.2.1.2.2.2.1 zX.2.2.2.1.2.2.2.2 zX.2.2.2.2.1 zX.2.2.2.2.2.1 zX.2.2.2.2.2.2 := by
  refine zR.2 fun zd ze => pk_all (n := ED.ne) (P := fun x => zR.1 x.1 x.2) ?_ (zd, ze)
  show zR.1 zY.1 zY.2
  delta zR; dsimp only
  delta BodyAt; dsimp only
  intro B F X N TT hk hd hu hp ret dA uA hin back F' N' B' X' T'
  (try dsimp only at hin)
  have hA := At.keep hp fun b o e => hin b o e List.not_mem_nil
  replace F' : Fr zY.2.g zY.2.L zY.2.h (fun y => List.lookup y [(Str.ofString "end", Value.int zX.2.2.2.2.1 zX.2.2.2.2.2.2), (Str.ofString "start", Value.int zX.2.2.2.1.2.2.2.2 zX.2.2.2.2.2.1), (Str.ofString "buffer", Value.ref b)]) := F'
  (try dsimp only)
  (try k_fold)
  k_steps
  all_goals (try dsimp only)
  all_goals (try contradiction)
  all_goals (refine leaveC_of (by assumption) hin back fun kF kept => ?_; try dsimp only)
  all_goals exact ret _ _ _ kF kept rfl
end ho_specN
theorem ho_spec (w b bd g k li tb ub uv pt zv ti ct sv up uz ut uc us a c ta tc) : ho_specN.zS w b bd g k li tb ub uv pt zv ti ct sv up uz ut uc us a c ta tc := pk_all (n := ho_specN.zne) (P := ho_specN.zQ) ho_specN.body ((w, b, bd, g, k), (li, tb, ub, uv, pt), (zv, ti, ct, sv, up), (uz, ut, uc, us, a), (c, ta, tc))
namespace ta_specN
abbrev zS (w : World) (b bd g k li : Addr) (tb ub : Nat → Tok) (uv : Value) (pt zv ti ct sv : Int) (up uz ut uc us : Tok) (a c : Int) (ta tc : Tok) : Prop := Spec w 20 200 62 [.ref b, .int a ta, .int c tc] [] (fun h => At h [(b, instObj 651 bd), (bd, dictOf (bufEs w.params tb ub g k li uv pt zv ti ct sv up uz ut uc us) 20), (li, listOf #[] 0)]) (fun h x h' => x = .none)
def zP (w : World) (b bd g k li : Addr) (tb ub : Nat → Tok) (uv : Value) (pt zv ti ct sv : Int) (up uz ut uc us : Tok) (a c : Int) (ta tc : Tok) : Prop := zS w b bd g k li tb ub uv pt zv ti ct sv up uz ut uc us a c ta tc
abbrev zT := (World × Addr × Addr × Addr × Addr) × (Addr × (Nat → Tok) × (Nat → Tok) × Value × Int) × (Int × Int × Int × Int × Tok) × (Tok × Tok × Tok × Tok × Int) × (Int × Tok × Tok)
def zQ (x : zT) : Prop := zP x.1.1 x.1.2.1 x.1.2.2.1 x.1.2.2.2.1 x.1.2.2.2.2 x.2.1.1 x.2.1.2.1 x.2.1.2.2.1 x.2.1.2.2.2.1 x.2.1.2.2.2.2 x.2.2.1.1 x.2.2.1.2.1 x.2.2.1.2.2.1 x.2.2.1.2.2.2.1 x.2.2.1.2.2.2.2 x.2.2.2.1.1 x.2.2.2.1.2.1 x.2.2.2.1.2.2.1 x.2.2.2.1.2.2.2.1 x.2.2.2.1.2.2.2.2 x.2.2.2.2.1 x.2.2.2.2.2.1 x.2.2.2.2.2.2
theorem zne : Nonempty zT := by k_extra "zne"
def zX : zT := pk zne zQ
def b := zX.1.2.1
def zR : Red2 (zS zX.1.1 b zX.1.2.2.1 zX.1.2.2.2.1 zX.1.2.2.2.2 zX.2.1.1 zX.2.1.2.1 zX.2.1.2.2.1 zX.2.1.2.2.2.1 zX.2.1.2.2.2.2 zX.2.2.1.1 zX.2.2.1.2.1 zX.2.2.1.2.2.1 zX.2.2.1.2.2.2.1 zX.2.2.1.2.2.2.2 zX.2.2.2.1.1 zX.2.2.2.1.2.1 zX.2.2.2.1.2.2.1 zX.2.2.2.1.2.2.2.1 zX.2.2.2.1.2.2.2.2 zX.2.2.2.2.1 zX.2.2.2.2.2.1 zX.2.2.2.2.2.2) SD ED := by k_extra "zR"
def zY : SD × ED := pk ED.ne fun x => zR.1 x.1 x.2
theorem body : zP zX.1.1 b zX.1.2.2.1 zX.1.2.2.2.1 zX.1.2.2.2.2 zX.2.1.1 zX.2.1.2.1 zX.2.1.2.2.1 zX.2.1.2.2.2.1 zX.2.1.2.2.2.2 zX.2.2.1.1 zX.2.2.1.2.1 zX.2.2.1.2.2.1 zX.2.2.1.2.2.2.1 zX.2.2.1.2.2.2.2 zX.2.2.2.1.1 zX.2.2.2.1.2.1 zX.2.2.2.1.2.2.1 zX.2.2.2.1.2.2.2.1 zX.2.2.2.1.2.2.2.2 zX.2.2.2.2.1 zX.2.2.2.2.2.1 zX.2.2.2.2.2.2 := by
  refine zR.2 fun zd ze => pk_all (n := ED.ne) (P := fun x => zR.1 x.1 x.2) ?_ (zd, ze)
  show zR.1 zY.1 zY.2
  delta zR; dsimp only
  delta BodyAt; dsimp only
  intro B F X N TT hk hd hu hp ret dA uA hin back F' N' B' X' T'
  (try dsimp only at hin)
  have hA := At.keep hp fun b o e => hin b o e List.not_mem_nil
  replace F' : Fr zY.2.g zY.2.L zY.2.h (fun y => List.lookup y [(Str.ofString "end", Value.int zX.2.2.2.2.1 zX.2.2.2.2.2.2), (Str.ofString "start", Value.int zX.2.2.2.1.2.2.2.2 zX.2.2.2.2.2.1), (Str.ofString "buffer", Value.ref b)]) := F'
  (try dsimp only)
  (try k_fold)
  k_steps
  all_goals (try dsimp only)
  all_goals (try contradiction)
  all_goals (refine leaveC_of (by assumption) hin back fun kF kept => ?_; try dsimp only)
  all_goals exact ret _ _ _ kF kept rfl
end ta_specN
theorem ta_spec (w b bd g k li tb ub uv pt zv ti ct sv up uz ut uc us a c ta tc) : ta_specN.zS w b bd g k li tb ub uv pt zv ti ct sv up uz ut uc us a c ta tc := pk_all (n := ta_specN.zne) (P := ta_specN.zQ) ta_specN.body ((w, b, bd, g, k), (li, tb, ub, uv, pt), (zv, ti, ct, sv, up), (uz, ut, uc, us, a), (c, ta, tc))
namespace re_specN
abbrev zS (w : World) (b bd g k li : Addr) (tb ub : Nat → Tok) (uv : Value) (pt zv ti ct sv : Int) (up uz ut uc us : Tok) (a c : Int) (ta tc : Tok) : Prop := Spec w 20 200 55 [.ref b, .int a ta, .int c tc] [] (fun h => At h [(b, instObj 651 bd), (bd, dictOf (bufEs w.params tb ub g k li uv pt zv ti ct sv up uz ut uc us) 20)]) (fun h x h' => ∃ d u v, x = .ref d ∧ h.get? d = none ∧ h'.get? d = some (tup #[.int a u, .int c v]))
def zP (w : World) (b bd g k li : Addr) (tb ub : Nat → Tok) (uv : Value) (pt zv ti ct sv : Int) (up uz ut uc us : Tok) (a c : Int) (ta tc : Tok) : Prop := ∀ (h0 : 1 ≤ a) (h1 : a ≤ c) (h2 : c ≤ zv), zS w b bd g k li tb ub uv pt zv ti ct sv up uz ut uc us a c ta tc
abbrev zT := (World × Addr × Addr × Addr × Addr) × (Addr × (Nat → Tok) × (Nat → Tok) × Value × Int) × (Int × Int × Int × Int × Tok) × (Tok × Tok × Tok × Tok × Int) × (Int × Tok × Tok)
def zQ (x : zT) : Prop := zP x.1.1 x.1.2.1 x.1.2.2.1 x.1.2.2.2.1 x.1.2.2.2.2 x.2.1.1 x.2.1.2.1 x.2.1.2.2.1 x.2.1.2.2.2.1 x.2.1.2.2.2.2 x.2.2.1.1 x.2.2.1.2.1 x.2.2.1.2.2.1 x.2.2.1.2.2.2.1 x.2.2.1.2.2.2.2 x.2.2.2.1.1 x.2.2.2.1.2.1 x.2.2.2.1.2.2.1 x.2.2.2.1.2.2.2.1 x.2.2.2.1.2.2.2.2 x.2.2.2.2.1 x.2.2.2.2.2.1 x.2.2.2.2.2.2
theorem zne : Nonempty zT := by k_extra "zne"
def zX : zT := pk zne zQ
def b := zX.1.2.1
def zR : Red2 (zS zX.1.1 b zX.1.2.2.1 zX.1.2.2.2.1 zX.1.2.2.2.2 zX.2.1.1 zX.2.1.2.1 zX.2.1.2.2.1 zX.2.1.2.2.2.1 zX.2.1.2.2.2.2 zX.2.2.1.1 zX.2.2.1.2.1 zX.2.2.1.2.2.1 zX.2.2.1.2.2.2.1 zX.2.2.1.2.2.2.2 zX.2.2.2.1.1 zX.2.2.2.1.2.1 zX.2.2.2.1.2.2.1 zX.2.2.2.1.2.2.2.1 zX.2.2.2.1.2.2.2.2 zX.2.2.2.2.1 zX.2.2.2.2.2.1 zX.2.2.2.2.2.2) SD ED := by k_extra "zR"
def zY : SD × ED := pk ED.ne fun x => zR.1 x.1 x.2
theorem body : zP zX.1.1 b zX.1.2.2.1 zX.1.2.2.2.1 zX.1.2.2.2.2 zX.2.1.1 zX.2.1.2.1 zX.2.1.2.2.1 zX.2.1.2.2.2.1 zX.2.1.2.2.2.2 zX.2.2.1.1 zX.2.2.1.2.1 zX.2.2.1.2.2.1 zX.2.2.1.2.2.2.1 zX.2.2.1.2.2.2.2 zX.2.2.2.1.1 zX.2.2.2.1.2.1 zX.2.2.2.1.2.2.1 zX.2.2.2.1.2.2.2.1 zX.2.2.2.1.2.2.2.2 zX.2.2.2.2.1 zX.2.2.2.2.2.1 zX.2.2.2.2.2.2 := by
  intro h0 h1 h2
  refine zR.2 fun zd ze => pk_all (n := ED.ne) (P := fun x => zR.1 x.1 x.2) ?_ (zd, ze)
  show zR.1 zY.1 zY.2
  delta zR; dsimp only
  delta BodyAt; dsimp only
  intro B F X N TT hk hd hu hp ret dA uA hin back F' N' B' X' T'
  (try dsimp only at hin)
  have hA := At.keep hp fun b o e => hin b o e List.not_mem_nil
  replace F' : Fr zY.2.g zY.2.L zY.2.h (fun y => List.lookup y [(Str.ofString "end", Value.int zX.2.2.2.2.1 zX.2.2.2.2.2.2), (Str.ofString "start", Value.int zX.2.2.2.1.2.2.2.2 zX.2.2.2.2.2.1), (Str.ofString "buffer", Value.ref b)]) := F'
  (try dsimp only)
  (try k_fold)
  k_steps
  all_goals (try dsimp only)
  all_goals (try contradiction)
  all_goals (refine leaveC_of (by assumption) hin back fun kF kept => ?_; try dsimp only)
  all_goals exact ret _ _ _ kF kept (re_end (by assumption) (by k_mem) (free_of hin (by assumption) (by k_mem) List.not_mem_nil) (by assumption) (by assumption))
end re_specN
theorem re_spec (w b bd g k li tb ub uv pt zv ti ct sv up uz ut uc us a c ta tc) : re_specN.zP w b bd g k li tb ub uv pt zv ti ct sv up uz ut uc us a c ta tc := pk_all (n := re_specN.zne) (P := re_specN.zQ) re_specN.body ((w, b, bd, g, k), (li, tb, ub, uv, pt), (zv, ti, ct, sv, up), (uz, ut, uc, us, a), (c, ta, tc))
namespace tb_specN
abbrev zS (w : World) (b bd g k li : Addr) (tb ub : Nat → Tok) (uv : Value) (pt zv ti ct sv : Int) (up uz ut uc us : Tok) (a c e : Int) (ta tc te : Tok) : Prop := Spec w 40 400 69 [.ref b, .int a ta, .int c tc, .int e te] [(bd, dictOf (bufEs w.params tb ub g k li uv pt zv ti ct sv up uz ut uc us) 20)] (fun h => At h [(b, instObj 651 bd), (li, listOf #[] 0)]) (fun h x h' => x = .none ∧ ∃ ct' ut' uc', At h' [(bd, dictOf (bufEs w.params tb ub g k li uv pt zv (ti + 1) ct' sv up uz ut' uc' us) 20)])
def zP (w : World) (b bd g k li : Addr) (tb ub : Nat → Tok) (uv : Value) (pt zv ti ct sv : Int) (up uz ut uc us : Tok) (a c e : Int) (ta tc te : Tok) : Prop := ∀ (c1 : b ≠ bd) (c2 : li ≠ bd), zS w b bd g k li tb ub uv pt zv ti ct sv up uz ut uc us a c e ta tc te
abbrev zT := (World × Addr × Addr × Addr × Addr) × (Addr × (Nat → Tok) × (Nat → Tok) × Value × Int) × (Int × Int × Int × Int × Tok) × (Tok × Tok × Tok × Tok × Int) × (Int × Int × Tok × Tok × Tok)
def zQ (x : zT) : Prop := zP x.1.1 x.1.2.1 x.1.2.2.1 x.1.2.2.2.1 x.1.2.2.2.2 x.2.1.1 x.2.1.2.1 x.2.1.2.2.1 x.2.1.2.2.2.1 x.2.1.2.2.2.2 x.2.2.1.1 x.2.2.1.2.1 x.2.2.1.2.2.1 x.2.2.1.2.2.2.1 x.2.2.1.2.2.2.2 x.2.2.2.1.1 x.2.2.2.1.2.1 x.2.2.2.1.2.2.1 x.2.2.2.1.2.2.2.1 x.2.2.2.1.2.2.2.2 x.2.2.2.2.1 x.2.2.2.2.2.1 x.2.2.2.2.2.2.1 x.2.2.2.2.2.2.2.1 x.2.2.2.2.2.2.2.2
theorem zne : Nonempty zT := by k_extra "zne"
def zX : zT := pk zne zQ
def zR : Red2 (zS zX.1.1 zX.1.2.1 zX.1.2.2.1 zX.1.2.2.2.1 zX.1.2.2.2.2 zX.2.1.1 zX.2.1.2.1 zX.2.1.2.2.1 zX.2.1.2.2.2.1 zX.2.1.2.2.2.2 zX.2.2.1.1 zX.2.2.1.2.1 zX.2.2.1.2.2.1 zX.2.2.1.2.2.2.1 zX.2.2.1.2.2.2.2 zX.2.2.2.1.1 zX.2.2.2.1.2.1 zX.2.2.2.1.2.2.1 zX.2.2.2.1.2.2.2.1 zX.2.2.2.1.2.2.2.2 zX.2.2.2.2.1 zX.2.2.2.2.2.1 zX.2.2.2.2.2.2.1 zX.2.2.2.2.2.2.2.1 zX.2.2.2.2.2.2.2.2) SD ED := by k_extra "zR"
def zY : SD × ED := pk ED.ne fun x => zR.1 x.1 x.2
theorem body : zQ zX := by
  intro c1 c2
  refine zR.2 fun zd ze => pk_all (n := ED.ne) (P := fun x => zR.1 x.1 x.2) ?_ (zd, ze)
  show zR.1 zY.1 zY.2
  delta zR; dsimp only
  delta BodyAt; dsimp only
  intro B F X N TT hk hd hu hp ret dA uA hin back F' N' B' X' T'
  (try dsimp only at hin)
  have hA : At zY.2.g [(zX.1.2.1, instObj 651 zX.1.2.2.1), (zX.2.1.1, listOf #[] 0)] := ⟨hin _ _ hp.1 (by k_extra "C.notin"), hin _ _ hp.2.1 (by k_extra "C.notin"), trivial⟩
  replace F' : Fr zY.2.g zY.2.L zY.2.h (fun y => List.lookup y [(Str.ofString "old_length", Value.int zX.2.2.2.2.2.1 zX.2.2.2.2.2.2.2.2), (Str.ofString "end", Value.int zX.2.2.2.2.1 zX.2.2.2.2.2.2.2.1), (Str.ofString "start", Value.int zX.2.2.2.1.2.2.2.2 zX.2.2.2.2.2.2.1), (Str.ofString "buffer", Value.ref zX.1.2.1)]) := F'
  (try dsimp only)
  (try k_fold)
  k_steps
  all_goals (try dsimp only)
  all_goals (try contradiction)
  all_goals (refine leaveC_of (by assumption) hin back fun kF kept => ?_; try dsimp only)
  exact ret _ _ _ kF kept ⟨rfl, _, _, _, News.get (by assumption) (by k_mem), trivial⟩
end tb_specN
theorem tb_spec (w b bd g k li tb ub uv pt zv ti ct sv up uz ut uc us a c e ta tc te) : tb_specN.zP w b bd g k li tb ub uv pt zv ti ct sv up uz ut uc us a c e ta tc te := pk_all (n := tb_specN.zne) (P := tb_specN.zQ) tb_specN.body ((w, b, bd, g, k), (li, tb, ub, uv, pt), (zv, ti, ct, sv, up), (uz, ut, uc, us, a), (c, e, ta, tc, te))
end
section
open N_Tc
noncomputable abbrev bufO (w : World) (A : Nat → Addr) (T : Nat → Nat → Tok) (uv : Value) (S : St) : Obj := dictOf (bufEs w.params (T 0) (T 1) (A 8) (A 9) (A 15) uv S.pt S.zv S.ti S.ct S.sv S.up S.uz S.ut S.uc S.us) 20
noncomputable abbrev gapO (w : World) (A : Nat → Addr) (T : Nat → Nat → Tok) (S : St) : Obj := dictOf (gapEs w.params (T 2) (.int 8 (T 2 9)) (.ref (A 2)) S.gs S.ge S.gu S.gv) 4
noncomputable abbrev ulO (w : World) (A : Nat → Addr) (T : Nat → Nat → Tok) (nv : Value) : Obj := dictOf (ulEs w.params (T 4) (A 6) 0 (T 4 9) nv) 5
noncomputable abbrev cstTc (w : World) (A : Nat → Addr) (T : Nat → Nat → Tok) (S : St) : List (Addr × Obj) := [(A 13, instObj 717 (A 14)), (A 14, dictOf (rcEs w.params (T 5 1) (A 12)) 1), (A 12, instObj 260 (A 5)), (A 7, instObj 651 (A 0)), (A 0, bufO w A T (.ref (A 13)) S)]
theorem Repl.all0 : ∀ {l : List (Addr × Obj)}, Repl (([] : List (Addr × Obj)).map (fun x => x.1)) [] l l
  | [] => .nil
  | _ :: _ => .keep List.not_mem_nil Repl.all0
theorem tc_end {w : World} {A : Nat → Addr} {T : Nat → Nat → Tok} {nv nv' : Value} {rs ext : List Value} {bm : Bool} {tick st e : Int} {h₀ h hs : Heap} {L x y : Addr} {o : Obj} {a c d : Tok} {n : Nat} {news : List (Addr × Obj)} (N : News h₀ L h news) (nt : NotedX bm tick nv ext nv' x o)
    (m5 : (A 5, ulO w A T nv') ∈ news) (m6 : (A 6, listOf (rs ++ (ext ++ [Value.ref y])).toArray n) ∈ news) (mx : (x, o) ∈ news) (my : (y, insO st e a c d) ∈ news) (fx : hs.get? x = none) (fy : hs.get? y = none) :
    Value.none = .none ∧ ∃ ext nv' n' y a c d, At h (ulL w (A 5) (A 6) (T 4) (T 4 9) nv' (rs ++ (ext ++ [Value.ref y])) n') ∧ Noted hs h bm tick nv ext nv' ∧ hs.get? y = none ∧ h.get? y = some (insO st e a c d) :=
  ⟨rfl, ext, nv', n, y, a, c, d, ⟨(N _ m5).1, (N _ m6).1, trivial⟩, nt.back fx (N _ mx).1, fy, (N _ my).1⟩
namespace tc_specN
abbrev zS (w : World) (A : Nat → Addr) (T : Nat → Nat → Tok) (S : St) (t1 t2 : Tok) (nv : Value) (rs : List Value) (n : Nat) (st many : Int) : Prop := Spec w 60 600 702 [.ref (A 13), .ref (A 7), .int st t1, .int many t2] (ulL w (A 5) (A 6) (T 4) (T 4 9) nv rs n) (fun h => At h (cstTc w A T S)) (fun h x h' => x = .none ∧ ∃ ext nv' n' y a c d, At h' (ulL w (A 5) (A 6) (T 4) (T 4 9) nv' (rs ++ (ext ++ [.ref y])) n') ∧ Noted h h' (decide (S.sv < S.ti)) S.sv nv ext nv' ∧ h.get? y = none ∧ h'.get? y = some (insO st (st + many) a c d))
def zP (w : World) (A : Nat → Addr) (T : Nat → Nat → Tok) (S : St) (t1 t2 : Tok) (nv : Value) (rs : List Value) (n : Nat) (st many : Int) : Prop := ∀ (hI : Inj A) (hnv : nv = .none ∨ ∃ i c, nv = .int i c) (h1 : rs.length ≤ 400000) (hm : many ≠ 0) (hl : rs = [] ∨ ∃ r0, rs = r0 ++ [.ref 175]), zS w A T S t1 t2 nv rs n st many
abbrev zT := (World × (Nat → Addr) × (Nat → Nat → Tok)) × (St × Tok × Tok) × (Value × (List Value) × Nat) × (Int × Int)
def zQ (x : zT) : Prop := zP x.1.1 x.1.2.1 x.1.2.2 x.2.1.1 x.2.1.2.1 x.2.1.2.2 x.2.2.1.1 x.2.2.1.2.1 x.2.2.1.2.2 x.2.2.2.1 x.2.2.2.2
theorem zne : Nonempty zT := by k_extra "zne"
def zX : zT := pk zne zQ
def zR : Red2 (zS zX.1.1 zX.1.2.1 zX.1.2.2 zX.2.1.1 zX.2.1.2.1 zX.2.1.2.2 zX.2.2.1.1 zX.2.2.1.2.1 zX.2.2.1.2.2 zX.2.2.2.1 zX.2.2.2.2) SD ED := by k_extra "zR"
def zY : SD × ED := pk ED.ne fun x => zR.1 x.1 x.2
theorem body : zQ zX := by
  intro hI hnv h1 hm hl
  refine zR.2 fun zd ze => pk_all (n := ED.ne) (P := fun x => zR.1 x.1 x.2) ?_ (zd, ze)
  show zR.1 zY.1 zY.2
  delta zR; dsimp only
  delta BodyAt; dsimp only
  intro B F X N TT hk hd hu hp ret dA uA hin back F' N' B' X' T'
  (try dsimp only at hin)
  have hA : At zY.2.g [(zX.1.2.1 13, instObj 717 (zX.1.2.1 14)), (zX.1.2.1 14, dictOf (rcEs zX.1.1.params (zX.1.2.2 5 1) (zX.1.2.1 12)) 1), (zX.1.2.1 12, instObj 260 (zX.1.2.1 5)), (zX.1.2.1 7, instObj 651 (zX.1.2.1 0)), (zX.1.2.1 0, bufO zX.1.1 zX.1.2.1 zX.1.2.2 (.ref (zX.1.2.1 13)) zX.2.1.1)] := ⟨hin _ _ hp.1 (by k_extra "C.notin"), hin _ _ hp.2.1 (by k_extra "C.notin"), hin _ _ hp.2.2.1 (by k_extra "C.notin"), hin _ _ hp.2.2.2.1 (by k_extra "C.notin"), hin _ _ hp.2.2.2.2.1 (by k_extra "C.notin"), trivial⟩
  replace F' : Fr zY.2.g zY.2.L zY.2.h (fun y => List.lookup y [(Str.ofString "many", Value.int zX.2.2.2.2 zX.2.1.2.2), (Str.ofString "start", Value.int zX.2.2.2.1 zX.2.1.2.1), (Str.ofString "buffer", Value.ref (zX.1.2.1 7)), (Str.ofString "self", Value.ref (zX.1.2.1 13))]) := F'
  dsimp only [ulL] at N'
  (try dsimp only)
  (try k_fold)
  k_steps
  all_goals (try dsimp only)
  all_goals (try contradiction)
  all_goals (refine leaveC_of (by assumption) hin back fun kF kept => ?_; try dsimp only)
  exact ret _ _ _ kF kept (tc_end (by assumption) (by assumption) (by k_mem) (by k_mem) (by k_mem) (by k_mem) (free_of hin (by assumption) (by k_mem) (by k_extra "C.notin")) (free_of hin (by assumption) (by k_mem) (by k_extra "C.notin")))
end tc_specN
theorem tc_spec (w A T S t1 t2 nv rs n st many) : tc_specN.zP w A T S t1 t2 nv rs n st many := pk_all (n := tc_specN.zne) (P := tc_specN.zQ) tc_specN.body ((w, A, T), (S, t1, t2), (nv, rs, n), (st, many))
theorem tc_use {w : World} {p : Program} {loose : List Str} {mean : ExcName → Option Value} {mg mb : Str → Option Value} {dp un : Nat} {gd : Option (List Code)} {cn : Str} {cs : Scope} {a₀ : Addr} {ccd : Value} {cl₀ : List (Str × Addr)} {outer : List Env} {A₀ : Around} {base h₀ : Heap} {L : Addr} {m : Str → Option Value} {s : Shared} {Q E : Value → Shared → Prop} {news : List (Addr × Obj)} {A : Nat → Addr} {T : Nat → Nat → Tok} {S : St} {t1 t2 : Tok} {nv : Value} {rs : List Value} {n : Nat} {st many : Int}
    (B : Below A₀ base outer h₀) (F : Fr h₀ L s.heap m) (X : (KK w.params).In h₀) (N : News h₀ L s.heap news) (T' : Top p loose mean mg mb h₀) (hk : cs.kind = .function)
    (hp : At s.heap (cstTc w A T S)) (sub : Subl (ulL w (A 5) (A 6) (T 4) (T 4 9) nv rs n) news) (hd : dp + 60 < recursionLimit) (hu : un + 600 < cLine) (hI : Inj A) (hnv : nv = .none ∨ ∃ i c, nv = .int i c) (h1 : rs.length ≤ 400000) (hm : many ≠ 0) (hl : rs = [] ∨ ∃ r0, rs = r0 ++ [.ref 175])
    (ret : ∀ ext nv' n' y a c d x o h' tk', Fr h₀ L h' m → (∀ new, Repl [A 5, A 6] (ulL w (A 5) (A 6) (T 4) (T 4 9) nv' (rs ++ (ext ++ [Value.ref y])) n') news new → News h₀ L h' ((x, o) :: (y, insO st (st + many) a c d) :: new)) → NotedX (decide (S.sv < S.ti)) S.sv nv ext nv' x o → NeAll y news → NeAll x news → Q .none { s with heap := h', toks := tk' }) :
    wpAny (model pw w) (ktrTop dp un gd cn cs L a₀ ccd cl₀ outer) (call (.ref 702) [.ref (A 13), .ref (A 7), .int st t1, .int many t2]) Q E s := by
  refine spec_use2 (tc_spec w A T S t1 t2 nv rs n st many hI hnv h1 hm hl) B F X N T' hk hp sub hd hu ?_
  intro v h' tk' F' nb fr kp po
  obtain ⟨rfl, ext, nv', n', y, a, c, d, A', po, hy, hy2⟩ := po
  obtain ⟨x, o, hx, hx2, po⟩ := Noted.wit po hy hy2
  exact ret ext nv' n' y a c d x o h' tk' F' (fun new R => News.cons' (fr _ _ hx hx2).1 (fr _ _ hx hx2).2.1 (News.cons' (fr _ _ hy hy2).1 (fr _ _ hy hy2).2.1 (nb _ _ A' R))) po (fr _ _ hy hy2).2.2 (fr _ _ hx hx2).2.2
theorem re_use {w : World} {p : Program} {loose : List Str} {mean : ExcName → Option Value} {mg mb : Str → Option Value} {dp un : Nat} {gd : Option (List Code)} {cn : Str} {cs : Scope} {a₀ : Addr} {ccd : Value} {cl₀ : List (Str × Addr)} {outer : List Env} {A₀ : Around} {base h₀ : Heap} {L : Addr} {m : Str → Option Value} {s : Shared} {Q E : Value → Shared → Prop} {news : List (Addr × Obj)} {b bd g k li : Addr} {tb ub : Nat → Tok} {uv : Value} {pt zv ti ct sv : Int} {up uz ut uc us : Tok} {a c : Int} {ta tc : Tok} (B : Below A₀ base outer h₀) (F : Fr h₀ L s.heap m) (X : (KK w.params).In h₀) (N : News h₀ L s.heap news) (T' : Top p loose mean mg mb h₀) (hk : cs.kind = .function)
    (hp : s.heap.get? b = some (instObj 651 bd)) (hp2 : s.heap.get? bd = some (dictOf (bufEs w.params tb ub g k li uv pt zv ti ct sv up uz ut uc us) 20)) (hd : dp + 20 < recursionLimit) (hu : un + 200 < cLine) (h0 : 1 ≤ a) (h1 : a ≤ c) (h2 : c ≤ zv)
    (ret : ∀ d u v h' tk', Fr h₀ L h' m → News h₀ L h' ((d, tup #[.int a u, .int c v]) :: news) → NeAll d news → Q (.ref d) { s with heap := h', toks := tk' }) :
    wpAny (model pw w) (ktrTop dp un gd cn cs L a₀ ccd cl₀ outer) (call (.ref 55) [.ref b, .int a ta, .int c tc]) Q E s := by
  refine spec_use2 (re_spec w b bd g k li tb ub uv pt zv ti ct sv up uz ut uc us a c ta tc h0 h1 h2) B F X N T' hk ⟨hp, hp2, trivial⟩ trivial hd hu ?_
  intro x h' tk' F' nb fr kp po
  obtain ⟨d, u, v, rfl, hx, hx2⟩ := po
  exact ret d u v h' tk' F' (News.cons' (fr _ _ hx hx2).1 (fr _ _ hx hx2).2.1 (nb [] _ At.nil Repl.all0)) (fr _ _ hx hx2).2.2
theorem tb_use {w : World} {p : Program} {loose : List Str} {mean : ExcName → Option Value} {mg mb : Str → Option Value} {dp un : Nat} {gd : Option (List Code)} {cn : Str} {cs : Scope} {a₀ : Addr} {ccd : Value} {cl₀ : List (Str × Addr)} {outer : List Env} {A₀ : Around} {base h₀ : Heap} {L : Addr} {m : Str → Option Value} {s : Shared} {Q E : Value → Shared → Prop} {news : List (Addr × Obj)} {b bd g k li : Addr} {tb ub : Nat → Tok} {uv : Value} {pt zv ti ct sv : Int} {up uz ut uc us : Tok} {a c e : Int} {ta tc te : Tok} (B : Below A₀ base outer h₀) (F : Fr h₀ L s.heap m) (X : (KK w.params).In h₀) (N : News h₀ L s.heap news) (T' : Top p loose mean mg mb h₀) (hk : cs.kind = .function)
    (hp : s.heap.get? b = some (instObj 651 bd)) (hp2 : s.heap.get? li = some (listOf #[] 0)) (sub : (bd, dictOf (bufEs w.params tb ub g k li uv pt zv ti ct sv up uz ut uc us) 20) ∈ news) (hd : dp + 40 < recursionLimit) (hu : un + 400 < cLine) (c1 : b ≠ bd) (c2 : li ≠ bd)
    (ret : ∀ ct' ut' uc' h' tk', Fr h₀ L h' m → (∀ new, Repl [bd] [(bd, dictOf (bufEs w.params tb ub g k li uv pt zv (ti + 1) ct' sv up uz ut' uc' us) 20)] news new → News h₀ L h' new) → Q .none { s with heap := h', toks := tk' }) :
    wpAny (model pw w) (ktrTop dp un gd cn cs L a₀ ccd cl₀ outer) (call (.ref 69) [.ref b, .int a ta, .int c tc, .int e te]) Q E s := by
  refine spec_use2 (tb_spec w b bd g k li tb ub uv pt zv ti ct sv up uz ut uc us a c e ta tc te c1 c2) B F X N T' hk ⟨hp, hp2, trivial⟩ ⟨sub, trivial⟩ hd hu ?_
  intro x h' tk' F' nb fr kp po
  obtain ⟨rfl, ct', ut', uc', A'⟩ := po
  exact ret ct' ut' uc' h' tk' F' (fun new R => nb _ _ A' R)
end
section
open N_In
def Ins (w : World) (A : Nat → Addr) (T : Nat → Nat → Tok) (S : St) (codes : List Value) (hs h : Heap) : Prop :=
  ∃ S' ext y a c d, At h (ledL w A T S') ∧ S'.pt = S.pt + codes.length ∧ S'.zv = S.zv + codes.length ∧ S'.ti = S.ti + 1 ∧ S'.sv = S.sv ∧ S'.rs = S.rs ++ (ext ++ [Value.ref y]) ∧ Noted hs h (decide (S.sv < S.ti)) S.sv S.nv ext S'.nv ∧ hs.get? y = none ∧ h.get? y = some (insO S.pt (S.pt + codes.length) a c d)
    ∧ S'.okr = S.okr ∧ S'.kvs = S.kvs ∧ S'.bv = S.bv ∧ (S.kvs = [] → S'.pos = S.pos) ∧ 0 ≤ S'.gs ∧ S'.gs ≤ S'.ge ∧ S'.ge ≤ S'.cells.length ∧ (S'.cells.length : Int) ≤ S.cells.length + codes.length + 8
    ∧ txt S'.cells S'.gs S'.ge = (txt S.cells S.gs S.ge).take (S.pt - 1).toNat ++ codes ++ (txt S.cells S.gs S.ge).drop (S.pt - 1).toNat
theorem ins_end {w : World} {A : Nat → Addr} {T : Nat → Nat → Tok} {S : St} {codes : List Value} {h₀ h hs : Heap} {L y x : Addr} {o : Obj} {news : List (Addr × Obj)} {up uz ut uc us gu gv vp a c d : Tok} {ct gs ge pos : Int} {cells : List Value} {nc n : Nat} {nv : Value} {ext : List Value} (N : News h₀ L h news) (nt : NotedX (decide (S.sv < S.ti)) S.sv S.nv ext nv x o)
    (m0 : (A 0, dictOf (bufEs w.params (T 0) (T 1) (A 8) (A 9) (A 15) (.ref (A 13)) (S.pt + codes.length) (S.zv + codes.length) (S.ti + 1) ct S.sv up uz ut uc us) 20) ∈ news)
    (m1 : (A 1, dictOf (gapEs w.params (T 2) (.int 8 (T 2 9)) (.ref (A 2)) gs ge gu gv) 4) ∈ news) (m2 : (A 2, listOf cells.toArray nc) ∈ news) (m3 : (A 3, dictOf (mkEs w.params (T 3) S.adv S.bv pos S.um vp) 4) ∈ news) (m4 : (A 4, S.okr) ∈ news)
    (m5 : (A 5, dictOf (ulEs w.params (T 4) (A 6) 0 (T 4 9) nv) 5) ∈ news) (m6 : (A 6, listOf (S.rs ++ (ext ++ [Value.ref y])).toArray n) ∈ news) (mx : (x, o) ∈ news) (my : (y, insO S.pt (S.pt + codes.length) a c d) ∈ news) (fx : hs.get? x = none) (fy : hs.get? y = none)
    (p1 : 0 ≤ gs) (p2 : gs ≤ ge) (p3 : ge ≤ cells.length) (p4 : (cells.length : Int) ≤ S.cells.length + codes.length + 8) (p5 : txt cells gs ge = (txt S.cells S.gs S.ge).take (S.pt - 1).toNat ++ codes ++ (txt S.cells S.gs S.ge).drop (S.pt - 1).toNat) (p6 : S.kvs = [] → pos = S.pos) :
    Value.none = .none ∧ Ins w A T S codes hs h :=
  ⟨rfl, { S with cells := cells, nc := nc, gs := gs, ge := ge, gu := gu, gv := gv, pt := S.pt + codes.length, zv := S.zv + codes.length, ti := S.ti + 1, ct := ct, up := up, uz := uz, ut := ut, uc := uc, us := us, rs := S.rs ++ (ext ++ [Value.ref y]), n := n, nv := nv, pos := pos, vp := vp }, ext, y, a, c, d,
    ⟨(N _ m0).1, (N _ m1).1, (N _ m2).1, (N _ m3).1, (N _ m4).1, (N _ m5).1, (N _ m6).1, trivial⟩, rfl, rfl, rfl, rfl, rfl, nt.back fx (N _ mx).1, fy, (N _ my).1, rfl, rfl, rfl, p6, p1, p2, p3, p4, p5⟩
namespace insert_specN
abbrev zS (w : World) (A : Nat → Addr) (T : Nat → Nat → Tok) (S : St) (cl : Addr) (nk : Nat) (codes : List Value) : Prop := Spec w 120 1200 112 [.ref (A 7), .ref cl] (ledL w A T S) (fun h => At h (cstL w A T) ∧ h.get? cl = some (listOf codes.toArray nk)) (fun h x h' => x = .none ∧ Ins w A T S codes h h')
def zP (w : World) (A : Nat → Addr) (T : Nat → Nat → Tok) (S : St) (cl : Addr) (nk : Nat) (codes : List Value) : Prop := ∀ (hI : Inj A) (hcl : ∀ i, i < 16 → cl ≠ A i) (hc : (codes.length : Int) ≠ 0) (hc' : codes.length ≤ 1000) (lo : (A 4 == sysModules) = false) (hkr : S.okr.IsDictOf (intKind pw w) S.kvs) (hkv : S.kvs = [] ∨ S.kvs = [(1, .ref (A 11))]) (hnv : S.nv = .none ∨ ∃ i c, S.nv = .int i c) (h1 : S.rs.length ≤ 400000) (hl : S.rs = [] ∨ ∃ r0, S.rs = r0 ++ [.ref 175]) (h3 : 0 ≤ S.gs) (h4 : S.gs ≤ S.ge) (h5 : S.ge ≤ S.cells.length) (h6 : S.cells.length ≤ 200000) (hz : S.zv = S.cells.length - S.ge + S.gs + 1) (hp1 : 1 ≤ S.pt) (hp2 : S.pt ≤ S.zv), zS w A T S cl nk codes
abbrev zT := (World × (Nat → Addr) × (Nat → Nat → Tok)) × (St × Addr × Nat) × (List Value)
def zQ (x : zT) : Prop := zP x.1.1 x.1.2.1 x.1.2.2 x.2.1.1 x.2.1.2.1 x.2.1.2.2 x.2.2
theorem zne : Nonempty zT := by k_extra "zne"
def zX : zT := pk zne zQ
def zR : Red2 (zS zX.1.1 zX.1.2.1 zX.1.2.2 zX.2.1.1 zX.2.1.2.1 zX.2.1.2.2 zX.2.2) SD ED := by k_extra "zR"
def zY : SD × ED := pk ED.ne fun x => zR.1 x.1 x.2
theorem body : zQ zX := by
  intro hI hcl hc hc' lo hkr hkv hnv h1 hl h3 h4 h5 h6 hz hp1 hp2
  refine zR.2 fun zd ze => pk_all (n := ED.ne) (P := fun x => zR.1 x.1 x.2) ?_ (zd, ze)
  show zR.1 zY.1 zY.2
  delta zR; dsimp only
  delta BodyAt; dsimp only
  intro B F X N TT hk hd hu hp ret dA uA hin back F' N' B' X' T'
  (try dsimp only at hin)
  have hA0 := cst_into hI hin hp.1
  have hA : At zY.2.g [(zX.2.1.2.1, listOf zX.2.2.toArray zX.2.1.2.2), (zX.1.2.1 7, instObj 651 (zX.1.2.1 0)), (zX.1.2.1 8, instObj 400 (zX.1.2.1 1)), (zX.1.2.1 9, instObj 545 (zX.1.2.1 10)), (zX.1.2.1 10, dictOf (ksEs zX.1.1.params (zX.1.2.2 5 0) (zX.1.2.1 4)) 1), (zX.1.2.1 11, instObj 477 (zX.1.2.1 3)), (zX.1.2.1 12, instObj 260 (zX.1.2.1 5)), (zX.1.2.1 13, instObj 717 (zX.1.2.1 14)), (zX.1.2.1 14, dictOf (rcEs zX.1.1.params (zX.1.2.2 5 1) (zX.1.2.1 12)) 1), (zX.1.2.1 15, listOf #[] 0)] := ⟨hin _ _ hp.2 (by k_extra "C.notin"), hA0⟩
  clear hA0
  replace F' : Fr zY.2.g zY.2.L zY.2.h (fun y => List.lookup y [(Str.ofString "before_markers", Value.bool false), (Str.ofString "codes", Value.ref zX.2.1.2.1), (Str.ofString "buffer", Value.ref (zX.1.2.1 7))]) := F'
  dsimp only [ledL] at N'
  (try dsimp only)
  (try k_fold)
  k_steps
  all_goals (try dsimp only)
  all_goals (try contradiction)
  all_goals (refine leaveC_of (by assumption) hin back fun kF kept => ?_; try dsimp only)
  exact ret _ _ _ kF kept (ins_end (by assumption) (by assumption) (by k_dflt k_mem) (by k_dflt k_mem) (by k_dflt k_mem) (by k_dflt k_mem) (by k_dflt k_mem) (by k_dflt k_mem) (by k_dflt k_mem) (by k_dflt k_mem) (by k_dflt k_mem) (free_of hin (by assumption) (by k_dflt k_mem) (by k_extra "C.notin")) (free_of hin (by assumption) (by k_dflt k_mem) (by k_extra "C.notin")) (by assumption) (by assumption) (by assumption) (by assumption) (by assumption) (by assumption))
end insert_specN
theorem insert_spec (w A T S cl nk codes) : insert_specN.zP w A T S cl nk codes := pk_all (n := insert_specN.zne) (P := insert_specN.zQ) insert_specN.body ((w, A, T), (S, cl, nk), codes)
end
inductive Row where
  | bd
  | un (t : Int)
  | ins (s e : Int)
  | del (s : Int) (cs : List Value)
  | mk
noncomputable def RowAt (P : Params) (mk : Addr) (O : Addr → Prop) (h : Heap) (v : Value) : Row → Prop
  | .bd => v = .ref 175
  | .un t => ∃ x a b, v = .ref x ∧ O x ∧ h.get? x = some (unO t a b)
  | .ins s e => ∃ x a b c, v = .ref x ∧ O x ∧ h.get? x = some (insO s e a b c)
  | .del s cs => ∃ x pc pd cl rn f a c t n, v = .ref x ∧ O x ∧ O pc ∧ O pd ∧ O cl ∧ h.get? x = some (delO s pc f a c) ∧ h.get? pc = some (instObj 677 pd) ∧ h.get? pd = some (dictOf (pcEs P t cl rn) 2) ∧ h.get? cl = some (listOf cs.toArray n)
  | .mk => ∃ x d a b, v = .ref x ∧ O x ∧ h.get? x = some (mkO mk d a b)
noncomputable def RowsAt (P : Params) (mk : Addr) (O : Addr → Prop) (h : Heap) : List Value → List Row → Prop
  | [], [] => True
  | v :: vs, r :: rs => RowAt P mk O h v r ∧ RowsAt P mk O h vs rs
  | _, _ => False
theorem RowAt.keep {P : Params} {mk : Addr} {O O' : Addr → Prop} {h h' : Heap} (k : ∀ x o, O x → h.get? x = some o → h'.get? x = some o) (ho : ∀ x o, O x → h.get? x = some o → O' x) {v : Value} {r : Row} (H : RowAt P mk O h v r) : RowAt P mk O' h' v r := by
  cases r with
  | bd => exact H
  | un t => obtain ⟨x, a, b, e, o, g⟩ := H; exact ⟨x, a, b, e, ho _ _ o g, k _ _ o g⟩
  | ins s e => obtain ⟨x, a, b, c, e, o, g⟩ := H; exact ⟨x, a, b, c, e, ho _ _ o g, k _ _ o g⟩
  | del s cs => obtain ⟨x, pc, pd, cl, rn, f, a, c, t, n, e, o1, o2, o3, o4, g1, g2, g3, g4⟩ := H; exact ⟨x, pc, pd, cl, rn, f, a, c, t, n, e, ho _ _ o1 g1, ho _ _ o2 g2, ho _ _ o3 g3, ho _ _ o4 g4, k _ _ o1 g1, k _ _ o2 g2, k _ _ o3 g3, k _ _ o4 g4⟩
  | mk => obtain ⟨x, d, a, b, e, o, g⟩ := H; exact ⟨x, d, a, b, e, ho _ _ o g, k _ _ o g⟩
theorem RowsAt.keep {P : Params} {mk : Addr} {O O' : Addr → Prop} {h h' : Heap} (k : ∀ x o, O x → h.get? x = some o → h'.get? x = some o) (ho : ∀ x o, O x → h.get? x = some o → O' x) : ∀ {vs : List Value} {rs : List Row}, RowsAt P mk O h vs rs → RowsAt P mk O' h' vs rs
  | [], [], _ => trivial
  | _ :: _, _ :: _, H => ⟨H.1.keep k ho, RowsAt.keep k ho H.2⟩
  | [], _ :: _, H => H.elim
  | _ :: _, [], H => H.elim
theorem RowsAt.append {P : Params} {mk : Addr} {O : Addr → Prop} {h : Heap} : ∀ {vs ws : List Value} {rs qs : List Row}, RowsAt P mk O h vs rs → RowsAt P mk O h ws qs → RowsAt P mk O h (vs ++ ws) (rs ++ qs)
  | [], _, [], _, _, H => H
  | _ :: _, _, _ :: _, _, H, H' => ⟨H.1, RowsAt.append H.2 H'⟩
  | [], _, _ :: _, _, H, _ => H.elim
  | _ :: _, _, [], _, H, _ => H.elim
theorem RowsAt.length {P : Params} {mk : Addr} {O : Addr → Prop} {h : Heap} : ∀ {vs : List Value} {rs : List Row}, RowsAt P mk O h vs rs → vs.length = rs.length
  | [], [], _ => rfl
  | _ :: _, _ :: _, H => congrArg (· + 1) H.2.length
  | [], _ :: _, H => H.elim
  | _ :: _, [], H => H.elim
def RowsIn (P : Params) (mk : Addr) (R : List (Addr × Obj)) (vs : List Value) (rs : List Row) : Prop := ∀ h (O : Addr → Prop), At h R → (∀ p ∈ R, O p.1) → RowsAt P mk O h vs rs
def NotedA (bm : Bool) (tick : Int) (nv nv' : Value) (us : List Row) : Prop :=
  (us = [] ∧ nv' = nv ∧ (bm = true ∨ ∃ c, nv = .int tick c)) ∨ (bm = false ∧ (¬ ∃ c, nv = .int tick c) ∧ (∃ c, nv' = .int tick c) ∧ us = [.un tick])
theorem At.left {h : Heap} : ∀ {a b : List (Addr × Obj)}, At h (a ++ b) → At h a
  | [], _, _ => trivial
  | _ :: _, _, H => ⟨H.1, At.left H.2⟩
theorem At.right {h : Heap} : ∀ {a b : List (Addr × Obj)}, At h (a ++ b) → At h b
  | [], _, H => H
  | _ :: _, _, H => At.right (h := h) H.2
theorem RowsIn.un {P : Params} {mk x : Addr} {t : Int} {a b : Tok} : RowsIn P mk [(x, unO t a b)] [.ref x] [.un t] := by
  intro h O A o
  have e : O x := o (x, unO t a b) (List.Mem.head _)
  have g : h.get? x = some (unO t a b) := A.1
  exact ⟨⟨x, a, b, rfl, e, g⟩, trivial⟩
theorem RowsIn.mk1 {P : Params} {mk x : Addr} {d : Int} {a b : Tok} : RowsIn P mk [(x, mkO mk d a b)] [.ref x] [.mk] := by
  intro h O A o
  have e : O x := o (x, mkO mk d a b) (List.Mem.head _)
  have g : h.get? x = some (mkO mk d a b) := A.1
  exact ⟨⟨x, d, a, b, rfl, e, g⟩, trivial⟩
theorem RowsIn.nil {P : Params} {mk : Addr} : RowsIn P mk [] [] [] := fun _ _ _ _ => trivial
theorem free_one {hs : Heap} {x : Addr} {o : Obj} (f : hs.get? x = none) : ∀ p ∈ [(x, o)], hs.get? p.1 = none := by
  intro p hp
  have e := List.mem_singleton.mp hp
  rw [e]; exact f
theorem noted_rows {P : Params} {mk : Addr} {hs h' : Heap} {bm : Bool} {tick : Int} {nv nv' : Value} {ext : List Value} (H : Noted hs h' bm tick nv ext nv') :
    ∃ R us, At h' R ∧ (∀ p ∈ R, hs.get? p.1 = none) ∧ NotedA bm tick nv nv' us ∧ RowsIn P mk R ext us := by
  rcases H with ⟨rfl, b, c⟩ | ⟨a, b, c, x, p, q, rfl, f, g⟩
  · exact ⟨[], [], trivial, (fun p hp => absurd hp List.not_mem_nil), .inl ⟨rfl, b, c⟩, RowsIn.nil⟩
  · exact ⟨[(x, unO tick p q)], [.un tick], ⟨g, trivial⟩, free_one f, .inr ⟨a, b, c, rfl⟩, RowsIn.un⟩
theorem marked_rows {P : Params} {hs h' : Heap} {mk : Addr} {d : Int} {mext : List Value} (H : Marked hs h' mk d mext) :
    ∃ R us, At h' R ∧ (∀ p ∈ R, hs.get? p.1 = none) ∧ (us = [] ∨ us = [.mk]) ∧ RowsIn P mk R mext us := by
  rcases H with rfl | ⟨z, a, c, rfl, f, g⟩
  · exact ⟨[], [], trivial, (fun p hp => absurd hp List.not_mem_nil), .inl rfl, RowsIn.nil⟩
  · exact ⟨[(z, mkO mk d a c)], [.mk], ⟨g, trivial⟩, free_one f, .inr rfl, RowsIn.mk1⟩
theorem RowsIn.append {P : Params} {mk : Addr} {R R' : List (Addr × Obj)} {vs ws : List Value} {rs qs : List Row} (a : RowsIn P mk R vs rs) (b : RowsIn P mk R' ws qs) : RowsIn P mk (R ++ R') (vs ++ ws) (rs ++ qs) :=
  fun h O A o => (a h O A.left fun p hp => o p (List.mem_append_left _ hp)).append (b h O A.right fun p hp => o p (List.mem_append_right _ hp))
theorem At.both {h : Heap} {a b : List (Addr × Obj)} (x : At h a) (y : At h b) : At h (a ++ b) := At.append x y
theorem free_both {hs : Heap} {a b : List (Addr × Obj)} (x : ∀ p ∈ a, hs.get? p.1 = none) (y : ∀ p ∈ b, hs.get? p.1 = none) : ∀ p ∈ a ++ b, hs.get? p.1 = none := fun p hp => (List.mem_append.mp hp).elim (x p) (y p)
theorem news_same {h₀ h h' : Heap} {L : Addr} {led news : List (Addr × Obj)} (N : News h₀ L h news) (sub : Subl led news) (A : At h' led) (kept : ∀ b o, h.get? b = some o → b ∉ led.map (·.1) → h'.get? b = some o) : News h₀ L h' news := fun p hp => by
  refine ⟨?_, (N p hp).2⟩
  by_cases q : p.1 ∈ led.map (·.1)
  · obtain ⟨r, hr, e⟩ := List.mem_map.mp q
    have h1 := (N p hp).1
    have h2 := (N r (sub.mem r hr)).1
    rw [e, h1] at h2
    have h3 := At.mem A r hr
    rw [e] at h3
    rw [h3]; exact h2.symm
  · exact kept _ _ (N p hp).1 q
section
variable {w : World} {p : Program} {loose : List Str} {mean : ExcName → Option Value} {mg mb : Str → Option Value} {dp un : Nat} {gd : Option (List Code)} {cn : Str} {cs : Scope} {a₀ : Addr} {ccd : Value} {cl₀ : List (Str × Addr)} {outer : List Env} {A₀ : Around} {base h₀ : Heap} {L : Addr} {m : Str → Option Value} {s : Shared} {Q E : Value → Shared → Prop} {news : List (Addr × Obj)}
theorem within_use {k kd kr mk mkd : Addr} {tk : Tok} {t : Nat → Tok} {adv : Bool} {bv : Value} {pos st e : Int} {u v t1 t2 : Tok} {okr : Obj} {kvs : List (Int × Value)} (B : Below A₀ base outer h₀) (F : Fr h₀ L s.heap m) (X : (KK w.params).In h₀) (N : News h₀ L s.heap news) (T : Top p loose mean mg mb h₀) (hk : cs.kind = .function)
    (hp : s.heap.get? k = some (instObj 545 kd)) (hp2 : s.heap.get? kd = some (dictOf (ksEs w.params tk kr) 1)) (hp3 : s.heap.get? mk = some (instObj 477 mkd)) (sub : Subl (mkL w mkd kr t adv bv pos u v okr) news) (hd : dp + 20 < recursionLimit) (hu : un + 200 < cLine)
    (lo : (kr == sysModules) = false) (hkr : okr.IsDictOf (intKind pw w) kvs) (hkv : kvs = [] ∨ kvs = [(1, .ref mk)]) (c1 : mkd ≠ kr) (hm1 : mk ≠ mkd) (hm2 : mk ≠ kr) (hm3 : k ≠ kr) (hm4 : kd ≠ kr) (hm5 : kd ≠ mkd) (hm6 : k ≠ mkd)
    (ret : ∀ d n found h' tk', Fr h₀ L h' m → News h₀ L h' ((d, listOf (found : List Value).toArray n) :: news) → NeAll d news → (found = [] ∨ found = [.ref mk]) → Q (.ref d) { s with heap := h', toks := tk' }) :
    wpAny (model pw w) (ktrTop dp un gd cn cs L a₀ ccd cl₀ outer) (call (.ref 521) [.ref k, .int st t1, .int e t2]) Q E s := by
  refine spec_use2 (within_spec w k kd kr mk mkd tk t adv bv pos st e u v t1 t2 okr kvs lo hkr hkv c1 hm1 hm2 hm3 hm4 hm5 hm6) B F X N T hk ⟨hp, hp2, hp3, trivial⟩ sub hd hu ?_
  intro v h' tk' F' nb fr kp po
  obtain ⟨d, n, found, rfl, hd1, hd2, A', hf⟩ := po
  exact ret d n found h' tk' F' (News.cons' (fr _ _ hd1 hd2).1 (fr _ _ hd1 hd2).2.1 (news_same N sub A' kp)) (fr _ _ hd1 hd2).2.2 (hf.imp id fun x => x.1)
theorem codes_use {g gd' c : Addr} {t : Nat → Tok} {r : Value} {cells : List Value} {nc : Nat} {gs ge a b : Int} {u v t1 t2 : Tok} (B : Below A₀ base outer h₀) (F : Fr h₀ L s.heap m) (X : (KK w.params).In h₀) (N : News h₀ L s.heap news) (T : Top p loose mean mg mb h₀) (hk : cs.kind = .function)
    (hp : s.heap.get? g = some (instObj 400 gd')) (hp2 : s.heap.get? gd' = some (dictOf (gapEs w.params t r (.ref c) gs ge u v) 4)) (hp3 : s.heap.get? c = some (listOf cells.toArray nc)) (hd : dp + 10 < recursionLimit) (hu : un + 100 < cLine)
    (h0 : 0 ≤ a) (h1 : a ≤ b) (h2 : b ≤ cells.length - ge + gs) (h3 : 0 ≤ gs) (h4 : gs ≤ ge) (h5 : ge ≤ cells.length) (h6 : cells.length ≤ 400000)
    (ret : ∀ d h' tk', Fr h₀ L h' m → News h₀ L h' ((d, listOf (((txt cells gs ge).drop a.toNat).take (b - a).toNat).toArray 0) :: news) → NeAll d news → Q (.ref d) { s with heap := h', toks := tk' }) :
    wpAny (model pw w) (ktrTop dp un gd cn cs L a₀ ccd cl₀ outer) (call (.ref 348) [.ref g, .int a t1, .int b t2]) Q E s := by
  refine spec_use2 (codes_spec w g gd' c t r cells nc gs ge a b u v t1 t2 h0 h1 h2 h3 h4 h5 h6) B F X N T hk ⟨hp, hp2, hp3, trivial⟩ trivial hd hu ?_
  intro v h' tk' F' nb fr kp po
  obtain ⟨d, rfl, hd1, hd2⟩ := po
  exact ret d h' tk' F' (News.cons' (fr _ _ hd1 hd2).1 (fr _ _ hd1 hd2).2.1 (nb [] _ At.nil Repl.all0)) (fr _ _ hd1 hd2).2.2
theorem free_news {R : List (Addr × Obj)} {h' : Heap} (N : News h₀ L s.heap news) (F : Fr h₀ L s.heap m) (A : At h' R) (f : ∀ p ∈ R, s.heap.get? p.1 = none) : News h₀ L h' R ∧ ∀ p ∈ R, NeAll p.1 news :=
  ⟨fun p hp => ⟨At.mem A p hp, new_ne F (f p hp)⟩, fun p hp q hq => (free_ne (f p hp) (N q hq).1).symm⟩
end
section
open PyProof.Rows.LCg
section
variable {prog : Program} {w : World} {A : Around} {E : Value → Shared → Prop} {s : Shared} {h₀ : Heap} {L : Addr} {m : Str → Option Value} {env : Env}
theorem zblock {elt iter c target : PySem.Expr} {scope : Scope} {cl : List (Str × Addr)} {pos : Pos} {s₂ : Shared} {I ax : Addr} {news : List (Addr × Obj)} {RR : Value → Addr → Result → Shared → Prop}
    (hh : A.handled = none) (hne : ax ≠ I) (hst : s₂.heap.IsListIter I ax 0 ∧ s₂.heap.IsList ax #[])
    (hcell : ∀ y ∈ scope.names, y.2 ≠ .cell) (hkind : scope.kind = .function)
    (F : Fr h₀ L s₂.heap m) (N : News h₀ L s₂.heap news) (hIL : L ≠ I) (hI₀ : h₀.get? I = none) (off : ∀ p ∈ news, p.1 ≠ I)
    (hRR : ∀ D C h tk m', Fr h₀ L h m → News h₀ L h ((D, lst []) :: news) → NeAll D news → h.Ns C m' → h₀.get? C = none → C ≠ L → C ≠ D → (∀ p ∈ news, p.1 ≠ C) → RR (.ref D) C (.ok .next) { s₂ with heap := h, toks := tk }) :
    wpAny (model prog w) A (newList []) (fun acc s₃ => wpAny (model prog w) A (newFunctionEnv scope env.globals cl [] env.qual none .none (some env)) (fun cenv s₄ =>
      codeAny (model prog w) A (.compStart (.ListComp elt [⟨target, iter, [c], 0⟩] scope pos) 0 (.ref I) acc { cenv with scope := relabel scope env }) (RR acc cenv.locals) s₄) E s₃) E s₂ := by
  have W := Walks.list (prog := prog) (w := w) hh I ax hne #[]
  refine wpAny_newObj_type (wpAny_newFunctionEnv hcell (by intro y hy; simp at hy) (fun h₁ hns₁ hsb₁ => ?_) hkind)
  dsimp only at hns₁ hsb₁ ⊢
  generalize hH2 : s₂.heap.push { cls := .type "list", dict := none, data := .seq ([] : List Value).toArray } = H2 at hns₁ hsb₁ ⊢
  have hC : H2.objs.size = s₂.heap.objs.size + 1 := by rw [← hH2, Heap.size_push]
  have low : ∀ b o, s₂.heap.get? b = some o → b ≠ H2.objs.size ∧ b ≠ s₂.heap.objs.size := fun b o e => by
    have := Heap.lt_size e
    exact ⟨by rw [hC]; exact Nat.ne_of_lt (Nat.lt_succ_of_lt this), Nat.ne_of_lt this⟩
  have old : ∀ b o, s₂.heap.get? b = some o → h₁.get? b = some o := fun b o e => hsb₁.extBut b o (low b o e).1 (Heap.get?_push_of_some _ (hH2 ▸ Heap.get?_push_of_some _ e))
  have hDC : s₂.heap.objs.size ≠ H2.objs.size := by rw [hC]; exact Nat.ne_of_lt (Nat.lt_succ_self _)
  have hacc : h₁.get? s₂.heap.objs.size = some (lst []) := hsb₁.extBut _ _ hDC (Heap.get?_push_of_some _ (hH2 ▸ Heap.get?_push_size _ rfl))
  have fresh₀ : ∀ a, s₂.heap.objs.size ≤ a → h₀.get? a = none := fun a ha => by
    cases e : h₀.get? a with
    | none => rfl
    | some o' => exact absurd (Heap.lt_size (F.keep a o' e)) (Nat.not_lt.mpr ha)
  have hLlt : L < s₂.heap.objs.size := F.ns.lt
  have hCI : I ≠ H2.objs.size := by obtain ⟨o, e, _⟩ := hst.1; exact (low _ _ e).1
  have hDI : I ≠ s₂.heap.objs.size := by obtain ⟨o, e, _⟩ := hst.1; exact (low _ _ e).2
  have ps : ∀ p ∈ news, p.1 ≠ H2.objs.size ∧ p.1 ≠ s₂.heap.objs.size := fun p hp => low _ _ (N p hp).1
  have hst₁ : h₁.IsListIter I ax 0 ∧ h₁.IsList ax #[] := by
    obtain ⟨⟨o, e, r⟩, ⟨o', e', r'⟩⟩ := hst
    exact ⟨⟨o, old _ _ e, r⟩, ⟨o', old _ _ e', r'⟩⟩
  have hDL : s₂.heap.objs.size ≠ L := (Nat.ne_of_lt hLlt).symm
  have hCL : H2.objs.size ≠ L := by rw [hC]; exact (Nat.ne_of_lt (Nat.lt_succ_of_lt hLlt)).symm
  have loop : ∀ s₃ : Shared, s₃ = { s₂ with heap := h₁, toks := s₂.toks + ([] : List (Str × Value)).length } →
      codeAny (model prog w) A (.compLoop (.ListComp elt [⟨target, iter, [c], 0⟩] scope pos) 0 (.ref I) (.ref s₂.heap.objs.size) (compEnvC scope cl H2.objs.size env)) (RR (.ref s₂.heap.objs.size) H2.objs.size) s₃ := by
    rintro s₃ rfl
    refine PySem.W.kct_loop (fun k s' => s' = { s₂ with heap := h₁, toks := s₂.toks + ([] : List (Str × Value)).length }) ?_ 0 rfl
    rintro k s' rfl
    refine W.done _ _ _ hst₁ fun h₂ tk₂ hk₂ => ?_
    have k2 : ∀ b o, b ≠ I → h₁.get? b = some o → h₂.get? b = some o := fun b o n e => hk₂ b o (by simpa using n) e
    refine hRR _ _ h₂ tk₂ _ (fr_but (F.keeps old) hk₂ hIL hI₀) (fun p hp => ?_) (fun p hp => (ps p hp).2) (hns₁.at' fun o e => k2 _ o hCI.symm e) (fresh₀ _ (by rw [hC]; omega)) hCL hDC.symm (fun p hp => (ps p hp).1)
    rcases List.mem_cons.mp hp with rfl | hp
    · exact ⟨k2 _ _ hDI.symm hacc, hDL, fresh₀ _ (Nat.le_refl _)⟩
    · exact ⟨k2 _ _ (off p hp) (old _ _ (N p hp).1), (N p hp).2⟩
  exact codeAny_compStart_list (loop _ rfl) (W.self 0 _ _ _ hst₁ (loop _ rfl))
def SrcZ (A : Around) (h₀ : Heap) (L : Addr) (m : Str → Option Value) (y : Str) (Q : Flow → Shared → Prop) (xv : Value) (s₁ : Shared) : Prop :=
  ∃ ax news, xv = .ref ax ∧ A.handled = none ∧ Fr h₀ L s₁.heap m ∧ News h₀ L s₁.heap news ∧ s₁.heap.IsList ax #[] ∧
    ∀ D h tk, Fr h₀ L h (fun z => if z = y then some (.ref D) else m z) → News h₀ L h ((D, lst []) :: news) → NeAll D news → Q .next { s₁ with heap := h, toks := tk }
theorem Assign_ListComp_Z {elt iter c target : PySem.Expr} {y : Str} {py : Pos} {scope : Scope} {cl : List (Str × Addr)} {pos spos : Pos} {Q : Flow → Shared → Prop} (F₀ : Fr h₀ L s.heap m) (hLe : env.locals = L)
    (hsw : swapsWith (.ListComp elt [⟨target, iter, [c], 0⟩] scope pos) (some (.Name y py)) spos.line env = pure true)
    (hclos : closureFor scope env = pure cl) (hcell : ∀ z ∈ scope.names, z.2 ≠ .cell) (hkind : scope.kind = .function)
    (hnames : ∀ z ∈ scope.names, z.2 = .local → scope.names.lookup z.1 = some .local)
    (hy : env.kindOf y = some .local) (hp : (env.scope.kind == .class || (env.scope.kind == .module && env.locals != env.globals)) = false)
    (h : wpAny (model prog w) A (eval iter env) (SrcZ A h₀ L m y Q) E s)
    (hs : ∀ x, foldedSetIterable iter env x = pure x := by intro _; rfl) :
    wpAny (model prog w) A (exec (.Assign [.Name y py] (.ListComp elt [⟨target, iter, [c], 0⟩] scope pos) spos) env) Q E s := by
  subst hLe
  rw [exec_Assign_Name_used _ _ _ _ hsw]
  refine wpAny_bind (wpAny_standAt (wpAny_bind ?_))
  show wpAny _ A (do let _ ← comprehension (.ListComp elt [⟨target, iter, [c], 0⟩] scope pos) scope env _ (newList []) false (eval iter env) (some (assign (.Name y py) env))) _ _ s
  refine wpAny_bind (wpAny_mono (wpAny_comprehension_free (use := some (assign (.Name y py) env)) (Q := fun _ s' => Q .next s') rfl hs hclos hkind hnames
    (wpAny_mono h (fun xv s₁ h₁ => ?_) fun _ _ e => e)) (fun _ s' hq => wpAny_pure (wpAny_pure hq)) fun _ _ e => e)
  obtain ⟨ax, news, rfl, hh, F, N, hl, R⟩ := h₁
  have hlt : ax < s₁.heap.objs.size := by obtain ⟨_, e, _⟩ := hl; exact Heap.lt_size e
  refine wpAny_pyIter_list hl ?_
  have up : ∀ b o, s₁.heap.get? b = some o → (s₁.heap.push { cls := .type "list_iterator", data := .fields #[.ref ax, .int 0 0] }).get? b = some o := fun b o e => Heap.get?_push_of_some _ e
  refine zblock hh (Nat.ne_of_lt hlt) ⟨⟨_, Heap.get?_push_size _ rfl, rfl, rfl⟩, hl.push _⟩ hcell hkind (F.keeps up) (N.grown up) (Nat.ne_of_lt F.ns.lt) (next_is_new F) (fun p hp => Nat.ne_of_lt (Heap.lt_size (N p hp).1)) ?_
  intro D C h' tk m' F' N' o1 hn hC₀ hCL hCD offC
  show wpAny _ A (assign (.Name y py) env (.ref D)) _ _ _
  refine wpAny_assign_Name (wpAny_storeName_local hy F'.ns (fun h₂ hn₂ hs₂ => ?_) hp)
  have hL₀ : h₀.get? env.locals = none := Heap.get?_none_of_le F'.above
  have F₂ : Fr h₀ env.locals h₂ (fun z => if z = y then some (.ref D) else m z) := ⟨hn₂, fun b o e => hs₂.extBut b o (fun q => by rw [q, hL₀] at e; cases e) (F'.keep b o e), F'.above⟩
  refine ⟨m', hn.sameBut hs₂ hCL, fun h'' hs'' => R D h'' _ (F₂.change hs'' hCL hC₀) (fun p hp => ?_) o1⟩
  have z : h₂.get? p.1 = some p.2 := hs₂.extBut _ _ (N' p hp).2.1 (N' p hp).1
  refine ⟨hs''.extBut _ _ ?_ z, (N' p hp).2⟩
  rcases List.mem_cons.mp hp with rfl | hp
  · exact Ne.symm hCD
  · exact offC p hp
theorem SrcZ.intro {ax : Addr} {news : List (Addr × Obj)} {y : Str} {Q : Flow → Shared → Prop} {s₁ : Shared} (hh : A.handled = none) (F : Fr h₀ L s₁.heap m) (N : News h₀ L s₁.heap news) (hl : s₁.heap.IsList ax #[])
    (h : ∀ D h tk, Fr h₀ L h (fun z => if z = y then some (.ref D) else m z) → News h₀ L h ((D, listOf #[] 0) :: news) → NeAll D news → Q .next { s₁ with heap := h, toks := tk }) : SrcZ A h₀ L m y Q (.ref ax) s₁ :=
  ⟨ax, news, rfl, hh, F, N, hl, h⟩
end
end
theorem enterEC {prog : Program} {w : World} {A A₀ : Around} {s : Shared} {K : Frag} {L : Addr} {h₀ base : Heap} {m mg mb : Str → Option Value} {led : List (Addr × Obj)} {p : Program} {loose : List Str} {mean : ExcName → Option Value}
    {env : Env} {outer : List Env} {R : Result → Shared → Prop} {name qual : Str} {params : Arguments} {body : List Stmt} {scope : Scope} {dV kV doc pm cdv ct oc : Value} {an od : Option Addr} {osl : Array (Option Value)} {f : Addr} {args : Args} {binds : List (Str × Value)}
    (B : Below A₀ base outer h₀) (F : Fr h₀ L s.heap m) (X₀ : K.In h₀) (N : News h₀ L s.heap led) (T : Top p loose mean mg mb h₀) (hA : A.frames = some (env :: outer)) (hf : env.frame = some L) (hke : env.scope.kind = .function)
    (ho : K.lookup f = some ⟨oc, od, .func (fnOf name qual params body scope dV kV doc pm an cdv ct), osl⟩) (hcd : codeIn K cdv qual = true) (hroom : A.depth < recursionLimit)
    (hbind : BindsTo s (fnOf name qual params body scope dV kV doc pm an cdv ct) args binds)
    (hkind : (binds.all fun y => scope.names.lookup y.1 == some .local || scope.names.lookup y.1 == some .cell) = true)
    (hnd : ((cellsFrom 0 scope.names []).map (·.1)).Nodup)
    (h : ∀ g L' h₁ tk cells, let AA := A.deeper (envOfC qual scope L' f cdv); AA.depth = A.depth + 1 → AA.units = A.units + 3 →
      (∀ b o, s.heap.get? b = some o → b ∉ led.map (·.1) → g.get? b = some o) →
      (∀ h' L'' m', Fr g L'' h' m' → Fr h₀ L h' m) →
      Fr g L' h₁ (bindL (envOfC qual scope L' f cdv).kindOf binds fun _ => none) → News g L' h₁ (cells ++ led) →
      CellsAre (bindC (envOfC qual scope L' f cdv).kindOf binds fun _ => none) (cellsFrom (L' + 1) scope.names []) cells → (∀ p ∈ cells, s.heap.get? p.1 = none) → Below A base (env :: outer) g → K.In g → Top p loose mean mg mb g → (∀ p ∈ led, p.1 < L') →
      wpAny (model prog w) AA (execs body (envOfC qual scope L' f cdv))
        (fun fl s' => LeaveC g R (match fl with | .ret v => v | _ => .none) s')
        (fun _ _ => False)
        { s with heap := h₁, toks := tk })
    (hco : scope.isCoroutine = false) (hgen : scope.isGenerator = false) (hk : scope.kind = .function) : codeAny (model prog w) A (.call (.ref f) args) R s := by
  obtain ⟨FG, BG, st, _⟩ := groundX (R := R) B F N hA hf hke
  have lv := (groundX (R := fun _ s' => Fr h₀ L s'.heap m) B F N hA hf hke).2.2.2
  refine codeAny_call_function hroom ((X₀.keeps F.keep) _ _ ho) rfl hco hgen rfl (codeRec_of (X₀.keeps F.keep) hcd) (hbind _ _ _ _ ?_)
  refine wpAny_newFunctionEnv_cells hk (kindsX hkind _) fun env' he s' x => ?_
  subst he
  refine ⟨(T.nolimit.keeps F.keep).keeps x.toInCall.keep, codeAny_func ?_⟩
  obtain ⟨h₁, tk, rfl, _⟩ := x.done
  have hk₁ := x.toInCall.keep
  obtain ⟨cells, NC, Y⟩ := Cl.news (h₀ := s.heap) (Nat.le_refl _) fun n c hm => ⟨x.cell n c (lookup_of_mem_nodup (cellsFrom_names scope.names 0 (s.heap.objs.size + 1) [] [] rfl ▸ hnd) hm), x.above n c hm⟩
  refine wpAny_mono (wpAny_noRaise (h (hideAll s.heap (led.map (·.1))) s.heap.objs.size h₁ tk cells rfl rfl (fun b o e n => hideAll_get _ e n)
    (fun h' L'' m' F' => lv .none { s with heap := h' } ⟨L'', m', [], F', News.nil, fun a _ => a⟩)
    ⟨x.toInCall.ns, fun b o e => hk₁ b o (of_hideAll _ e), Nat.le_of_eq (hideAll_size _ _)⟩ (fun p hp => ?_) Y (fun p hp => (NC p hp).2.2) BG (X₀.keeps fun b o e => st b o e) (T.keeps fun b o e => st b o e) (fun p hp => Heap.lt_size (N p hp).1))) (fun fl s' hl => hl.2) fun _ _ y => y
  rcases List.mem_append.mp hp with hp | hp
  · refine ⟨(NC p hp).1, (NC p hp).2.1, ?_⟩
    cases q : (hideAll s.heap (led.map (·.1))).get? p.1 with
    | none => rfl
    | some o => have := of_hideAll _ q; rw [(NC p hp).2.2] at this; cases this
  · exact ⟨hk₁ _ _ (N p hp).1, Nat.ne_of_lt (Heap.lt_size (N p hp).1), hideAll_none _ (List.mem_map_of_mem hp)⟩
theorem offA {A : Nat → Addr} {x : Addr} {i : Nat} (h : ∀ i, i < 16 → x ≠ A i) (hi : Nat.blt i 16 = true) : x ≠ A i := h i (Nat.le_of_ble_eq_true hi)
theorem offA' {A : Nat → Addr} {x : Addr} {i : Nat} (h : ∀ i, i < 16 → x ≠ A i) (hi : Nat.blt i 16 = true) : A i ≠ x := (h i (Nat.le_of_ble_eq_true hi)).symm
theorem injA {A : Nat → Addr} {i j : Nat} (H : Inj A) (h : (Nat.blt i j && Nat.blt j 16) = true) : A i ≠ A j := by
  rw [Bool.and_eq_true] at h
  exact H i j (Nat.le_of_ble_eq_true h.1) (Nat.le_of_ble_eq_true h.2)
theorem injA' {A : Nat → Addr} (H : Inj A) {i j : Nat} (h : (Nat.blt j i && Nat.blt i 16) = true) : A i ≠ A j := (injA H h).symm
theorem Repl.sw0 {as : List Addr} {a : Addr} {o o' : Obj} {l r r' : List (Addr × Obj)} (h : Repl as ((a, o') :: l) r r') : Repl as ((a, o') :: l) ((a, o) :: r) ((a, o') :: r') := .swap (.head _) h
theorem Repl.sw1 {as : List Addr} {a : Addr} {o o' : Obj} {q1 : Addr × Obj} {l r r' : List (Addr × Obj)} (h : Repl as (q1 :: (a, o') :: l) r r') : Repl as (q1 :: (a, o') :: l) ((a, o) :: r) ((a, o') :: r') := .swap (.tail _ (.head _)) h
theorem Repl.sw2 {as : List Addr} {a : Addr} {o o' : Obj} {q1 q2 : Addr × Obj} {l r r' : List (Addr × Obj)} (h : Repl as (q1 :: q2 :: (a, o') :: l) r r') : Repl as (q1 :: q2 :: (a, o') :: l) ((a, o) :: r) ((a, o') :: r') := .swap (.tail _ (.tail _ (.head _))) h
theorem Repl.sw3 {as : List Addr} {a : Addr} {o o' : Obj} {q1 q2 q3 : Addr × Obj} {l r r' : List (Addr × Obj)} (h : Repl as (q1 :: q2 :: q3 :: (a, o') :: l) r r') : Repl as (q1 :: q2 :: q3 :: (a, o') :: l) ((a, o) :: r) ((a, o') :: r') := .swap (.tail _ (.tail _ (.tail _ (.head _)))) h
theorem Repl.kp {as : List Addr} {a : Addr} {o : Obj} {l r r' : List (Addr × Obj)} (n : a ∉ as) (h : Repl as l r r') : Repl as l ((a, o) :: r) ((a, o) :: r') := .keep n h
theorem Repl.same {as : List Addr} {l : List (Addr × Obj)} : ∀ {r : List (Addr × Obj)}, (∀ p ∈ r, p.1 ∉ as) → Repl as l r r
  | [], _ => .nil
  | p :: r, h => .keep (h _ (.head _)) (Repl.same fun q hq => h q (.tail _ hq))
section
variable {prog : Program} {w : World} {A : Around} {E : Value → Shared → Prop} {s : Shared} {K : Frag} {h₀ : Heap} {L C : Addr} {m : Str → Option Value} {news : List (Addr × Obj)} {Q : Value → Shared → Prop}
theorem call_cls2 {pos : List Value} {kw : List (Str × Value)} {fI : Addr} (F : Fr h₀ L s.heap m) (X₀ : K.In h₀) (N : News h₀ L s.heap news) (hm : makesIn K C = true) (hi : findIn K (.ref C) "__init__" = some (some (.ref fI))) (hf : isFn K (.ref fI) = true)
    (h : ∀ x dx h', Fr h₀ L h' m → News h₀ L h' ((x, instObj C dx) :: (dx, dictOf [] 0) :: news) → NeAll dx news → NeAll x news → dx ≠ x →
      codeAny (model prog w) (A.under (.builtin "type.__call__" ⟨.ref C :: pos, kw⟩)) (.call (.ref fI) ⟨.ref x :: pos, kw⟩) (InitBack x fun r s' => match r with | .ok (.ret v) => Q v s' | .ok _ => False | .error e => E e s') { s with heap := h' }) :
    wpAny (model prog w) A (call (.ref C) pos kw) Q E s :=
  call_cls F X₀ N hm hi hf fun x dx h' F' N' l1 l2 => h x dx h' F' N' (neAll_of l1) (neAll_of fun p hp => Nat.lt_trans (l1 p hp) l2) (Nat.ne_of_lt l2)
end
section
open N_Tg
section
variable {w : World} {p : Program} {loose : List Str} {mean : ExcName → Option Value} {mg mb : Str → Option Value} {dp un : Nat} {gd : Option (List Code)} {cn : Str} {cs : Scope} {a₀ : Addr} {ccd : Value} {cl₀ : List (Str × Addr)} {outer : List Env} {A₀ : Around} {base h₀ : Heap} {L : Addr} {m : Str → Option Value} {s : Shared} {Q E : Value → Shared → Prop} {news : List (Addr × Obj)}
theorem nd0_use {ul uld rl pc pd cl rn ml mk mkd : Addr} {t : Nat → Tok} {u0 u1 b t1 t3 t4 : Tok} {nv : Value} {rs xs : List Value} {n nc nm : Nat} {bm : Bool} {st pt tick : Int} (B : Below A₀ base outer h₀) (F : Fr h₀ L s.heap m) (X : (KK w.params).In h₀) (N : News h₀ L s.heap news) (T : Top p loose mean mg mb h₀) (hk : cs.kind = .function)
    (hp1 : s.heap.get? ul = some (instObj 260 uld)) (hp2 : s.heap.get? pc = some (instObj 677 pd)) (hp3 : s.heap.get? pd = some (dictOf [en w.params "codes" u0 (.ref cl), en w.params "runs" u1 (.ref rn)] 2)) (hp4 : s.heap.get? cl = some (listOf xs.toArray nc))
    (sub : Subl (ulL w uld rl t b nv rs n ++ [(ml, listOf #[] nm)]) news) (hd : dp + 40 < recursionLimit) (hu : un + 400 < cLine)
    (hnv : nv = .none ∨ ∃ i c, nv = .int i c) (c1 : uld ≠ rl) (h1 : rs.length ≤ 400000) (h2 : xs.length ≤ 400000) (hm : (xs.length : Int) ≠ 0) (hl : rs = [] ∨ ∃ r0, rs = r0 ++ [.ref 175])
    (e1 : pd ≠ uld) (e4 : cl ≠ rl) (e6 : ml ≠ rl) (e14 : cl ≠ ml) (hmk : s.heap.get? mk = some (instObj 477 mkd))
    (ret : ∀ R ext us ms nv' n' yy f a c h' tk', Fr h₀ L h' m → (∀ new, Repl [uld, rl, ml] [(uld, dictOf (ulEs w.params t rl 0 b nv') 5), (rl, listOf (rs ++ (ext ++ [Value.ref yy])).toArray n'), (ml, listOf #[] nm)] news new → News h₀ L h' new) → News h₀ L h' (R ++ [(yy, delO st pc f a c)]) → (∀ p ∈ R ++ [(yy, delO st pc f a c)], NeAll p.1 news) → NotedA bm tick nv nv' us → (ms = [] ∨ ms = [.mk]) → RowsIn w.params mk R ext (us ++ ms) → Q .none { s with heap := h', toks := tk' }) :
    wpAny (model pw w) (ktrTop dp un gd cn cs L a₀ ccd cl₀ outer) (call (.ref 238) [.ref ul, .int st t1, .ref pc, .int pt t3, .ref ml, .bool bm, .int tick t4]) Q E s := by
  have k1 : s.heap.get? uld = some (dictOf (ulEs w.params t rl 0 b nv) 5) := (N _ sub.1).1
  have k2 : s.heap.get? rl = some (listOf rs.toArray n) := (N _ sub.2.1).1
  have k3 : s.heap.get? ml = some _ := (N _ sub.2.2.1).1
  refine spec_use2 (note_delete0_spec w ul uld rl pc pd cl rn ml mk 0 t (fun i => if i = 0 then u0 else u1) b t1 t3 t4 0 nv rs xs n nc nm bm st pt tick 0 hnv c1 h1 h2 hm hl e1 (ne_of_kind hp3 k2 rfl) (ne_of_kind hp4 k1 rfl) e4 (ne_of_kind k3 k1 rfl) e6 (ne_of_kind hp2 k1 rfl) (ne_of_kind hp2 k2 rfl) (ne_of_kind hp1 k1 rfl) (ne_of_kind hp1 k2 rfl) (ne_of_kind hp3 k3 rfl) e14 (ne_of_kind hp2 k3 rfl) (ne_of_kind hp1 k3 rfl)) B F X N T hk ⟨hp1, hp2, hp3, hp4, trivial⟩ sub hd hu ?_
  intro v h' tk' F' nb fr kp po
  obtain ⟨rfl, ext, mext, nv', n', yy, f, a, c, A', no, ma, hy, hy2⟩ := po
  obtain ⟨R1, us, a1, f1, n1, r1⟩ := noted_rows (P := w.params) (mk := mk) no
  obtain ⟨R2, ms, a2, f2, n2, r2⟩ := marked_rows (P := w.params) ma
  have FN := free_news N F (At.both (At.both a1 a2) (show At h' [(yy, delO st pc f a c)] from ⟨hy2, trivial⟩)) (free_both (free_both f1 f2) (free_one hy))
  exact ret (R1 ++ R2) (ext ++ mext) us ms nv' n' yy f a c h' tk' F' (fun new R => nb _ _ (by rw [List.append_assoc]; exact A') R) FN.1 FN.2 n1 n2 (r1.append r2)
theorem nd1_use {ul uld rl pc pd cl rn ml mk y : Addr} {t : Nat → Tok} {u0 u1 b t1 t3 t4 td : Tok} {nv : Value} {rs xs : List Value} {n nc nm : Nat} {bm : Bool} {st pt tick d : Int} (B : Below A₀ base outer h₀) (F : Fr h₀ L s.heap m) (X : (KK w.params).In h₀) (N : News h₀ L s.heap news) (T : Top p loose mean mg mb h₀) (hk : cs.kind = .function)
    (hp1 : s.heap.get? ul = some (instObj 260 uld)) (hp2 : s.heap.get? pc = some (instObj 677 pd)) (hp3 : s.heap.get? pd = some (dictOf [en w.params "codes" u0 (.ref cl), en w.params "runs" u1 (.ref rn)] 2)) (hp4 : s.heap.get? cl = some (listOf xs.toArray nc))
    (sub : Subl (ulL w uld rl t b nv rs n ++ [(ml, listOf #[Value.ref y] nm), (y, tup #[.ref mk, .int d td])]) news) (hd : dp + 40 < recursionLimit) (hu : un + 400 < cLine)
    (hnv : nv = .none ∨ ∃ i c, nv = .int i c) (c1 : uld ≠ rl) (h1 : rs.length ≤ 400000) (h2 : xs.length ≤ 400000) (hm : (xs.length : Int) ≠ 0) (hl : rs = [] ∨ ∃ r0, rs = r0 ++ [.ref 175])
    (e1 : pd ≠ uld) (e4 : cl ≠ rl) (e6 : ml ≠ rl) (e14 : cl ≠ ml)
    (ret : ∀ R ext us ms nv' n' yy f a c h' tk', Fr h₀ L h' m → (∀ new, Repl [uld, rl, ml, y] [(uld, dictOf (ulEs w.params t rl 0 b nv') 5), (rl, listOf (rs ++ (ext ++ [Value.ref yy])).toArray n'), (ml, listOf #[Value.ref y] nm), (y, tup #[.ref mk, .int d td])] news new → News h₀ L h' new) → News h₀ L h' (R ++ [(yy, delO st pc f a c)]) → (∀ p ∈ R ++ [(yy, delO st pc f a c)], NeAll p.1 news) → NotedA bm tick nv nv' us → (ms = [] ∨ ms = [.mk]) → RowsIn w.params mk R ext (us ++ ms) → Q .none { s with heap := h', toks := tk' }) :
    wpAny (model pw w) (ktrTop dp un gd cn cs L a₀ ccd cl₀ outer) (call (.ref 238) [.ref ul, .int st t1, .ref pc, .int pt t3, .ref ml, .bool bm, .int tick t4]) Q E s := by
  have k1 : s.heap.get? uld = some (dictOf (ulEs w.params t rl 0 b nv) 5) := (N _ sub.1).1
  have k2 : s.heap.get? rl = some (listOf rs.toArray n) := (N _ sub.2.1).1
  have k3 : s.heap.get? ml = some _ := (N _ sub.2.2.1).1
  have k4 : s.heap.get? y = some (tup #[.ref mk, .int d td]) := (N _ sub.2.2.2.1).1
  refine spec_use2 (note_delete1_spec w ul uld rl pc pd cl rn ml mk y t (fun i => if i = 0 then u0 else u1) b t1 t3 t4 td nv rs xs n nc nm bm st pt tick d hnv c1 h1 h2 hm hl e1 (ne_of_kind hp3 k2 rfl) (ne_of_kind hp4 k1 rfl) e4 (ne_of_kind k3 k1 rfl) e6 (ne_of_kind hp2 k1 rfl) (ne_of_kind hp2 k2 rfl) (ne_of_kind hp1 k1 rfl) (ne_of_kind hp1 k2 rfl) (ne_of_kind hp3 k3 rfl) e14 (ne_of_kind hp2 k3 rfl) (ne_of_kind hp1 k3 rfl) (ne_of_kind k4 k1 rfl) (ne_of_kind k4 k2 rfl) (ne_of_kind k3 k4 rfl) (ne_of_kind hp3 k4 rfl) (ne_of_kind hp4 k4 rfl) (ne_of_kind hp2 k4 rfl) (ne_of_kind hp1 k4 rfl)) B F X N T hk ⟨hp1, hp2, hp3, hp4, trivial⟩ sub hd hu ?_
  intro v h' tk' F' nb fr kp po
  obtain ⟨rfl, ext, mext, nv', n', yy, f, a, c, A', no, ma, hy, hy2⟩ := po
  obtain ⟨R1, us, a1, f1, n1, r1⟩ := noted_rows (P := w.params) (mk := mk) no
  obtain ⟨R2, ms, a2, f2, n2, r2⟩ := marked_rows (P := w.params) ma
  have FN := free_news N F (At.both (At.both a1 a2) (show At h' [(yy, delO st pc f a c)] from ⟨hy2, trivial⟩)) (free_both (free_both f1 f2) (free_one hy))
  exact ret (R1 ++ R2) (ext ++ mext) us ms nv' n' yy f a c h' tk' F' (fun new R => nb _ _ (by rw [List.append_assoc]; exact A') R) FN.1 FN.2 n1 n2 (r1.append r2)
end
namespace md_specN
abbrev zS (w : World) (pl st e : Int) (t1 t2 t3 : Tok) (adv : Bool) : Prop := Spec w 20 200 271 [.int pl t1, .int st t2, .int e t3, .bool adv] [] (fun h => True) (fun h x h' => ∃ d t, x = .int d t)
def zP (w : World) (pl st e : Int) (t1 t2 t3 : Tok) (adv : Bool) : Prop := zS w pl st e t1 t2 t3 adv
abbrev zT := (World × Int × Int) × (Int × Tok × Tok) × (Tok × Bool)
def zQ (x : zT) : Prop := zP x.1.1 x.1.2.1 x.1.2.2 x.2.1.1 x.2.1.2.1 x.2.1.2.2 x.2.2.1 x.2.2.2
theorem zne : Nonempty zT := by k_extra "zne"
def zX : zT := pk zne zQ
def zR : Red2 (zS zX.1.1 zX.1.2.1 zX.1.2.2 zX.2.1.1 zX.2.1.2.1 zX.2.1.2.2 zX.2.2.1 zX.2.2.2) SD ED := by k_extra "zR"
def zY : SD × ED := pk ED.ne fun x => zR.1 x.1 x.2
theorem body : zP zX.1.1 zX.1.2.1 zX.1.2.2 zX.2.1.1 zX.2.1.2.1 zX.2.1.2.2 zX.2.2.1 zX.2.2.2 := by
  refine zR.2 fun zd ze => pk_all (n := ED.ne) (P := fun x => zR.1 x.1 x.2) ?_ (zd, ze)
  show zR.1 zY.1 zY.2
  delta zR; dsimp only
  delta BodyAt; dsimp only
  intro B F X N TT hk hd hu hp ret dA uA hin back F' N' B' X' T'
  (try dsimp only at hin)
  replace F' : Fr zY.2.g zY.2.L zY.2.h (fun y => List.lookup y [(Str.ofString "is_advancing", Value.bool zX.2.2.2), (Str.ofString "end", Value.int zX.2.1.1 zX.2.2.1), (Str.ofString "start", Value.int zX.1.2.2 zX.2.1.2.2), (Str.ofString "place", Value.int zX.1.2.1 zX.2.1.2.1)]) := F'
  (try dsimp only)
  (try k_fold)
  k_steps
  all_goals (try dsimp only)
  all_goals (try contradiction)
  all_goals (refine leaveC_of (by assumption) hin back fun kF kept => ?_; try dsimp only)
  all_goals exact ret _ _ _ kF kept ⟨_, _, rfl⟩
end md_specN
theorem md_spec (w pl st e t1 t2 t3 adv) : md_specN.zS w pl st e t1 t2 t3 adv := pk_all (n := md_specN.zne) (P := md_specN.zQ) md_specN.body ((w, pl, st), (e, t1, t2), (t3, adv))
theorem md_use {w : World} {p : Program} {loose : List Str} {mean : ExcName → Option Value} {mg mb : Str → Option Value} {dp un : Nat} {gd : Option (List Code)} {cn : Str} {cs : Scope} {a₀ : Addr} {ccd : Value} {cl₀ : List (Str × Addr)} {outer : List Env} {A₀ : Around} {base h₀ : Heap} {L : Addr} {m : Str → Option Value} {s : Shared} {Q E : Value → Shared → Prop} {news : List (Addr × Obj)} {pl st e : Int} {t1 t2 t3 : Tok} {adv : Bool} (B : Below A₀ base outer h₀) (F : Fr h₀ L s.heap m) (X : (KK w.params).In h₀) (N : News h₀ L s.heap news) (T : Top p loose mean mg mb h₀) (hk : cs.kind = .function) (hd : dp + 20 < recursionLimit) (hu : un + 200 < cLine)
    (ret : ∀ d t h' tk', Fr h₀ L h' m → News h₀ L h' news → Q (.int d t) { s with heap := h', toks := tk' }) :
    wpAny (model pw w) (ktrTop dp un gd cn cs L a₀ ccd cl₀ outer) (call (.ref 271) [.int pl t1, .int st t2, .int e t3, .bool adv]) Q E s := by
  refine spec_use2 (md_spec w pl st e t1 t2 t3 adv) B F X N T hk trivial trivial hd hu ?_
  intro v h' tk' F' nb fr kp po
  obtain ⟨d, t, rfl⟩ := po
  exact ret d t h' tk' F' (nb [] _ At.nil Repl.all0)
end
section
open N_Th
noncomputable abbrev cstTg (w : World) (A : Nat → Addr) (T : Nat → Nat → Tok) (S : St) : List (Addr × Obj) :=
  [(A 0, bufO w A T (.ref (A 13)) S), (A 1, gapO w A T S), (A 2, listOf S.cells.toArray S.nc), (A 7, instObj 651 (A 0)), (A 8, instObj 400 (A 1)), (A 9, instObj 545 (A 10)), (A 10, dictOf (ksEs w.params (T 5 0) (A 4)) 1), (A 11, instObj 477 (A 3)), (A 12, instObj 260 (A 5)), (A 13, instObj 717 (A 14)), (A 14, dictOf (rcEs w.params (T 5 1) (A 12)) 1), (A 15, listOf #[] 0)]
noncomputable abbrev ledTg (w : World) (A : Nat → Addr) (T : Nat → Nat → Tok) (S : St) : List (Addr × Obj) :=
  [(A 3, dictOf (mkEs w.params (T 3) S.adv S.bv S.pos S.um S.vp) 4), (A 4, S.okr), (A 5, dictOf (ulEs w.params (T 4) (A 6) 0 (T 4 9) S.nv) 5), (A 6, listOf S.rs.toArray S.n)]
noncomputable abbrev cut (S : St) (st e : Int) : List Value := List.take (e - 1 - (st - 1)).toNat (List.drop (st - 1).toNat (txt S.cells S.gs S.ge))
def TGoes (w : World) (A : Nat → Addr) (T : Nat → Nat → Tok) (S : St) (st e : Int) (hs h' : Heap) : Prop :=
  ∃ R vals us ms nv' n', At h' (ledTg w A T { S with nv := nv', rs := S.rs ++ vals, n := n' }) ∧ At h' R ∧ (∀ p ∈ R, hs.get? p.1 = none) ∧ RowsIn w.params (A 11) R vals (us ++ ms ++ [.del st (cut S st e)]) ∧ NotedA (decide (S.sv < S.ti)) S.sv S.nv nv' us ∧ (ms = [] ∨ ms = [.mk])
theorem cstTg_into {w : World} {A : Nat → Addr} {T : Nat → Nat → Tok} {S : St} {s g : Heap} (H : Inj A) (hin : ∀ b o, s.get? b = some o → b ∉ (ledTg w A T S).map (·.1) → g.get? b = some o) (h : At s (cstTg w A T S)) : At g (cstTg w A T S) := by
  refine At.into hin h fun p hp => ?_
  have off : ∀ i, i < 16 → (i < 3 ∨ 6 < i) → A i ∉ [A 3, A 4, A 5, A 6] := by
    intro i hi hc
    simp only [List.mem_cons, List.not_mem_nil, or_false, not_or]
    rcases hc with hc | hc
    · exact ⟨H _ _ (by omega) (by omega), H _ _ (by omega) (by omega), H _ _ (by omega) (by omega), H _ _ (by omega) (by omega)⟩
    · exact ⟨(H _ _ (by omega) hi).symm, (H _ _ (by omega) hi).symm, (H _ _ (by omega) hi).symm, (H _ _ (by omega) hi).symm⟩
  simp only [cstTg, List.mem_cons, List.not_mem_nil, or_false] at hp
  rcases hp with rfl | rfl | rfl | rfl | rfl | rfl | rfl | rfl | rfl | rfl | rfl | rfl <;> exact off _ (by decide) (by decide)
theorem tg_pres {w : World} {A : Nat → Addr} {T : Nat → Nat → Tok} {S : St} {h₀ s : Heap} {L x : Addr} (N : News h₀ L s (ledTg w A T S)) (h : At s (cstTg w A T S)) (hx : s.get? x = none) : ∀ i, i < 16 → x ≠ A i := by
  have ne : ∀ y o, s.get? y = some o → x ≠ y := fun y o e => free_ne hx e
  obtain ⟨a0, a1, a2, a7, a8, a9, a10, a11, a12, a13, a14, a15, _⟩ := h
  have A' := At.of_news N
  obtain ⟨a3, a4, a5, a6, _⟩ := A'
  intro i hi
  have : i = 0 ∨ i = 1 ∨ i = 2 ∨ i = 3 ∨ i = 4 ∨ i = 5 ∨ i = 6 ∨ i = 7 ∨ i = 8 ∨ i = 9 ∨ i = 10 ∨ i = 11 ∨ i = 12 ∨ i = 13 ∨ i = 14 ∨ i = 15 := lt16 i hi
  rcases this with rfl | rfl | rfl | rfl | rfl | rfl | rfl | rfl | rfl | rfl | rfl | rfl | rfl | rfl | rfl | rfl
  · exact ne _ _ a0
  · exact ne _ _ a1
  · exact ne _ _ a2
  · exact ne _ _ a3
  · exact ne _ _ a4
  · exact ne _ _ a5
  · exact ne _ _ a6
  · exact ne _ _ a7
  · exact ne _ _ a8
  · exact ne _ _ a9
  · exact ne _ _ a10
  · exact ne _ _ a11
  · exact ne _ _ a12
  · exact ne _ _ a13
  · exact ne _ _ a14
  · exact ne _ _ a15
theorem tg_end {w : World} {A : Nat → Addr} {T : Nat → Nat → Tok} {S : St} {st e : Int} {g s h' : Heap} {L' yy pc pd cl rn : Addr} {R news : List (Addr × Obj)} {ext : List Value} {us ms : List Row} {nv' : Value} {n' nc : Nat} {f : Bool} {a c : Tok} {u0 u1 : Tok} {news0 : List (Addr × Obj)} {x3 x4 x5 x6 : Obj}
    (hin : ∀ b o, s.get? b = some o → b ∉ (ledTg w A T S).map (·.1) → g.get? b = some o) (N : News g L' h' news) (NR : News g L' h' (R ++ [(yy, delO st pc f a c)])) (NE : ∀ p ∈ R ++ [(yy, delO st pc f a c)], NeAll p.1 news0) (n3 : (A 3, x3) ∈ news0) (n4 : (A 4, x4) ∈ news0) (n5 : (A 5, x5) ∈ news0) (n6 : (A 6, x6) ∈ news0) (no : NotedA (decide (S.sv < S.ti)) S.sv S.nv nv' us) (hms : ms = [] ∨ ms = [.mk]) (hr : RowsIn w.params (A 11) R ext (us ++ ms))
    (m3 : (A 3, dictOf (mkEs w.params (T 3) S.adv S.bv S.pos S.um S.vp) 4) ∈ news) (m4 : (A 4, S.okr) ∈ news) (m5 : (A 5, dictOf (ulEs w.params (T 4) (A 6) 0 (T 4 9) nv') 5) ∈ news) (m6 : (A 6, listOf (S.rs ++ (ext ++ [Value.ref yy])).toArray n') ∈ news)
    (p1 : (pc, instObj 677 pd) ∈ news) (p2 : (pd, dictOf [en w.params "codes" u0 (.ref cl), en w.params "runs" u1 (.ref rn)] 2) ∈ news) (p3 : (cl, listOf (cut S st e).toArray nc) ∈ news) (q1 : pc ∉ [A 3, A 4, A 5, A 6]) (q2 : pd ∉ [A 3, A 4, A 5, A 6]) (q3 : cl ∉ [A 3, A 4, A 5, A 6]) :
    Value.none = .none ∧ TGoes w A T S st e s h' := by
  have fr : ∀ x o, (x, o) ∈ news → x ∉ [A 3, A 4, A 5, A 6] → s.get? x = none := fun x o hm hl => free_of hin N hm hl
  have NE' : ∀ p ∈ R ++ [(yy, delO st pc f a c)], p.1 ∉ [A 3, A 4, A 5, A 6] := fun p hp => by
    have q := NE p hp
    exact nm_cons (q.at n3).symm (nm_cons (q.at n4).symm (nm_cons (q.at n5).symm (nm_cons (q.at n6).symm List.not_mem_nil)))
  refine ⟨rfl, R ++ [(yy, delO st pc f a c)] ++ [(pc, instObj 677 pd), (pd, dictOf [en w.params "codes" u0 (.ref cl), en w.params "runs" u1 (.ref rn)] 2), (cl, listOf (cut S st e).toArray nc)], ext ++ [.ref yy], us, ms, nv', n', ⟨(N _ m3).1, (N _ m4).1, (N _ m5).1, (N _ m6).1, trivial⟩, At.both (At.of_news NR) ⟨(N _ p1).1, (N _ p2).1, (N _ p3).1, trivial⟩, free_both (fun p hp => free_of hin NR hp (NE' p hp)) (free_both (free_one (fr _ _ p1 q1)) (free_both (free_one (fr _ _ p2 q2)) (free_one (fr _ _ p3 q3)))), ?_, no, hms⟩
  intro h O A' o
  have a1 := A'.left.left
  have a2 := A'.left.right
  have a3 := A'.right
  refine (hr h O a1 fun p hp => o p (List.mem_append_left _ (List.mem_append_left _ hp))).append ?_
  have o1 : O yy := o (yy, delO st pc f a c) (List.mem_append_left _ (List.mem_append_right _ (List.Mem.head _)))
  have o2 : O pc := o (pc, instObj 677 pd) (List.mem_append_right _ (List.Mem.head _))
  have o3 : O pd := o (pd, dictOf [en w.params "codes" u0 (.ref cl), en w.params "runs" u1 (.ref rn)] 2) (List.mem_append_right _ (List.Mem.tail _ (List.Mem.head _)))
  have o4 : O cl := o (cl, listOf (cut S st e).toArray nc) (List.mem_append_right _ (List.Mem.tail _ (List.Mem.tail _ (List.Mem.head _))))
  exact ⟨⟨yy, pc, pd, cl, rn, f, a, c, fun i => if i = 0 then u0 else u1, nc, rfl, o1, o2, o3, o4, a2.1, a3.1, a3.2.1, a3.2.2.1⟩, trivial⟩
namespace tg_specN
abbrev zS (w : World) (A : Nat → Addr) (T : Nat → Nat → Tok) (S : St) (t1 t2 : Tok) (st e : Int) : Prop := Spec w 80 800 707 [.ref (A 13), .ref (A 7), .int st t1, .int e t2] (ledTg w A T S) (fun h => At h (cstTg w A T S)) (fun h x h' => x = .none ∧ TGoes w A T S st e h h')
def zP (w : World) (A : Nat → Addr) (T : Nat → Nat → Tok) (S : St) (t1 t2 : Tok) (st e : Int) : Prop := ∀ (hI : Inj A) (lo : (A 4 == sysModules) = false) (hkr : S.okr.IsDictOf (intKind pw w) S.kvs) (hkv : S.kvs = [] ∨ S.kvs = [(1, .ref (A 11))]) (hnv : S.nv = .none ∨ ∃ i c, S.nv = .int i c) (h1 : S.rs.length ≤ 400000) (hl : S.rs = [] ∨ ∃ r0, S.rs = r0 ++ [.ref 175]) (h3 : 0 ≤ S.gs) (h4 : S.gs ≤ S.ge) (h5 : S.ge ≤ S.cells.length) (h6 : S.cells.length ≤ 200000) (h0 : 1 ≤ st) (hse : st ≤ e) (he : e ≤ S.cells.length - S.ge + S.gs + 1) (hc1 : (cut S st e).length ≤ 400000) (hc2 : ((cut S st e).length : Int) ≠ 0), zS w A T S t1 t2 st e
abbrev zT := (World × (Nat → Addr) × (Nat → Nat → Tok)) × (St × Tok × Tok) × (Int × Int)
def zQ (x : zT) : Prop := zP x.1.1 x.1.2.1 x.1.2.2 x.2.1.1 x.2.1.2.1 x.2.1.2.2 x.2.2.1 x.2.2.2
theorem zne : Nonempty zT := by k_extra "zne"
def zX : zT := pk zne zQ
def zR : Red2 (zS zX.1.1 zX.1.2.1 zX.1.2.2 zX.2.1.1 zX.2.1.2.1 zX.2.1.2.2 zX.2.2.1 zX.2.2.2) SD ED := by k_extra "zRC"
def zY : SD × ED := pk ED.ne fun x => zR.1 x.1 x.2
noncomputable def zK1 : RedF (zQ zX) (Obj → Addr → Addr → Nat → Addr → Heap → Prop) (fun R => ∀ a0 a1 a2 a3 a4 a5, R a0 a1 a2 a3 a4 a5) := by
  apply Subtype.mk; intro H
  intro hI lo hkr hkv hnv h1 hl h3 h4 h5 h6 h0 hse he hc1 hc2
  refine zR.2 fun zd ze => pk_all (n := ED.ne) (P := fun x => zR.1 x.1 x.2) ?_ (zd, ze)
  show zR.1 zY.1 zY.2
  delta zR; dsimp only
  intro B F X N TT hk hd hu hp ret cells' dA uA hin back F' N' Y' hcells B' X' T' l1
  (try dsimp only at hin)
  have hA : At zY.2.g [(zX.1.2.1 0, bufO zX.1.1 zX.1.2.1 zX.1.2.2 (.ref (zX.1.2.1 13)) zX.2.1.1), (zX.1.2.1 1, gapO zX.1.1 zX.1.2.1 zX.1.2.2 zX.2.1.1), (zX.1.2.1 2, listOf zX.2.1.1.cells.toArray zX.2.1.1.nc), (zX.1.2.1 7, instObj 651 (zX.1.2.1 0)), (zX.1.2.1 8, instObj 400 (zX.1.2.1 1)), (zX.1.2.1 9, instObj 545 (zX.1.2.1 10)), (zX.1.2.1 10, dictOf (ksEs zX.1.1.params (zX.1.2.2 5 0) (zX.1.2.1 4)) 1), (zX.1.2.1 11, instObj 477 (zX.1.2.1 3)), (zX.1.2.1 12, instObj 260 (zX.1.2.1 5)), (zX.1.2.1 13, instObj 717 (zX.1.2.1 14)), (zX.1.2.1 14, dictOf (rcEs zX.1.1.params (zX.1.2.2 5 1) (zX.1.2.1 12)) 1), (zX.1.2.1 15, listOf #[] 0)] := cstTg_into hI hin hp
  k_cells Y'
  have hcA : ∀ i, i < 16 → zY.2.L + 1 ≠ zX.1.2.1 i := tg_pres N hp (hcells _ (.head _))
  clear hcells l1
  dsimp only [ledTg, List.cons_append, List.nil_append] at N'
  (try dsimp only)
  (try k_fold)
  iterate 49 (focus (first | (k_unfold; (try dsimp only)) | (k_end; wrow_close) | walk1 | (dsimp only; walk1) | (leave1; (try dsimp only))))
  rename_i zy1_1 zy1_2 zy1_3 zy1_4 zy1_5 zy1_6 zy1_7 zy1_8 zy1_9 zy1_10 zy1_11 zy1_12 zy1_13 zy1_14 zy1_15 zy1_16 zy1_17 zy1_18 zy1_19 zy1_20 zy1_21 zy1_22
  revert hI lo hkr hkv hnv h1 hl h3 h4 h5 h6 h0 hse he hc1 hc2 B F X N TT hk hd hu hp ret dA uA hin back B' X' T' hA zy1_2 hcA zy1_9 zy1_16 zy1_19 zy1_21 zy1_22
  revert zy1_3 zy1_4 zy1_5 zy1_6 zy1_11 zy1_12 qk ek
  exact H.h zy1_1 zy1_7 zy1_13 zy1_15 zy1_17 zy1_20
theorem zN1 : Nonempty ((Obj × Addr) × (Addr × Nat) × (Addr × Heap)) := by k_extra "zne"
def zC1 : (Obj × Addr) × (Addr × Nat) × (Addr × Heap) := pk zN1 (fun x => zK1.1 x.1.1 x.1.2 x.2.1.1 x.2.1.2 x.2.2.1 x.2.2.2)
theorem body2 : zK1.1 zC1.1.1 zC1.1.2 zC1.2.1.1 zC1.2.1.2 zC1.2.2.1 zC1.2.2.2 := by
  delta zK1; dsimp only
  intro hI lo hkr hkv hnv h1 hl h3 h4 h5 h6 h0 hse he hc1 hc2 B F X N TT hk hd hu hp ret dA uA hin back B' X' T' hA zy1_2 hcA zy1_9 zy1_16 zy1_19 zy1_21 zy1_22
  k_steps
  all_goals (try dsimp only)
  all_goals (try contradiction)
  all_goals (refine leaveC_of (by assumption) hin back fun kF kept => ?_; try dsimp only)
  all_goals exact ret _ _ _ kF kept (tg_end hin (by assumption) (by assumption) (by assumption) (by k_dflt k_mem) (by k_dflt k_mem) (by k_dflt k_mem) (by k_dflt k_mem) (by assumption) (by assumption) (by assumption) (by k_dflt k_mem) (by k_dflt k_mem) (by k_dflt k_mem) (by k_dflt k_mem) (by k_dflt k_mem) (by k_dflt k_mem) (by k_dflt k_mem) (by k_extra "C.notin") (by k_extra "C.notin") (by k_extra "C.notin"))
theorem body : zQ zX := zK1.2 ⟨fun a0 a1 a2 a3 a4 a5 => pk_all (n := zN1) (P := fun x => zK1.1 x.1.1 x.1.2 x.2.1.1 x.2.1.2 x.2.2.1 x.2.2.2) body2 ((a0, a1), (a2, a3), (a4, a5))⟩
end tg_specN
theorem tg_spec (w A T S t1 t2 st e) : tg_specN.zP w A T S t1 t2 st e := pk_all (n := tg_specN.zne) (P := tg_specN.zQ) tg_specN.body ((w, A, T), (S, t1, t2), (st, e))
end
section
open N_To
def OffAll (A : Nat → Addr) (R : List (Addr × Obj)) : Prop := ∀ p ∈ R, ∀ i, i < 16 → p.1 ≠ A i
theorem OffAll.ne {A : Nat → Addr} {R : List (Addr × Obj)} {i : Nat} (h : OffAll A R) (hi : Nat.blt i 16 = true) : ∀ p ∈ R, p.1 ≠ A i := fun p hp => offA (h p hp) hi
theorem Repl.off1 {A : Nat → Addr} {R l : List (Addr × Obj)} {i : Nat} (h : OffAll A R) (hi : Nat.blt i 16 = true) : Repl [A i] l R R := Repl.same fun p hp => nm_cons (offA (h p hp) hi) List.not_mem_nil
theorem Repl.off2 {A : Nat → Addr} {R l : List (Addr × Obj)} {i j : Nat} (h : OffAll A R) (hi : (Nat.blt i 16 && Nat.blt j 16) = true) : Repl [A i, A j] l R R := by
  rw [Bool.and_eq_true] at hi
  exact Repl.same fun p hp => nm_cons (offA (h p hp) hi.1) (nm_cons (offA (h p hp) hi.2) List.not_mem_nil)
theorem News.tail {h₀ h : Heap} {L : Addr} {a b : List (Addr × Obj)} (N : News h₀ L h (a ++ b)) : News h₀ L h b := fun p hp => N p (List.mem_append_right _ hp)
section
variable {w : World} {p : Program} {loose : List Str} {mean : ExcName → Option Value} {mg mb : Str → Option Value} {dp un : Nat} {gd : Option (List Code)} {cn : Str} {cs : Scope} {a₀ : Addr} {ccd : Value} {cl₀ : List (Str × Addr)} {outer : List Env} {A₀ : Around} {base h₀ : Heap} {L : Addr} {m : Str → Option Value} {s : Shared} {Q E : Value → Shared → Prop} {news : List (Addr × Obj)}
theorem gapdel_use {g gd' c : Addr} {t : Nat → Tok} {r : Value} {cells : List Value} {nc : Nat} {gs ge a b : Int} {u v t1 t2 : Tok} (B : Below A₀ base outer h₀) (F : Fr h₀ L s.heap m) (X : (KK w.params).In h₀) (N : News h₀ L s.heap news) (T : Top p loose mean mg mb h₀) (hk : cs.kind = .function)
    (hp : s.heap.get? g = some (instObj 400 gd')) (sub : Subl (gapL w gd' c t r cells nc gs ge u v) news) (hd : dp + 20 < recursionLimit) (hu : un + 200 < cLine)
    (h0 : 0 ≤ a) (h1 : a ≤ b) (h2 : b ≤ cells.length - ge + gs) (h3 : 0 ≤ gs) (h4 : gs ≤ ge) (h5 : ge ≤ cells.length) (h6 : cells.length ≤ 400000)
    (ret : ∀ d cells' nc' gs' ge' u' v' h' tk', Fr h₀ L h' m → (∀ new, Repl [gd', c] [(gd', dictOf (gapEs w.params t r (.ref c) gs' ge' u' v') 4), (c, listOf cells'.toArray nc')] news new → News h₀ L h' ((d, listOf (((txt cells gs ge).drop a.toNat).take (b - a).toNat).toArray 0) :: new)) → NeAll d news → 0 ≤ gs' → gs' ≤ ge' → ge' ≤ cells'.length → cells'.length = cells.length → txt cells' gs' ge' = (txt cells gs ge).take a.toNat ++ (txt cells gs ge).drop b.toNat → Q (.ref d) { s with heap := h', toks := tk' }) :
    wpAny (model pw w) (ktrTop dp un gd cn cs L a₀ ccd cl₀ outer) (call (.ref 376) [.ref g, .int a t1, .int b t2]) Q E s := by
  have k1 : s.heap.get? gd' = some (dictOf (gapEs w.params t r (.ref c) gs ge u v) 4) := (N _ sub.1).1
  have k2 : s.heap.get? c = some (listOf cells.toArray nc) := (N _ sub.2.1).1
  refine spec_use2 (gapdel_spec w g gd' c t r cells nc gs ge a b u v t1 t2 (ne_of_kind k1 k2 rfl) h0 h1 h2 h3 h4 h5 h6) B F X N T hk hp sub hd hu ?_
  intro x h' tk' F' nb fr kp po
  obtain ⟨d, cells', nc', gs', ge', u', v', rfl, hd1, hd2, A', p1, p2, p3, p4, p5⟩ := po
  exact ret d cells' nc' gs' ge' u' v' h' tk' F' (fun new R => News.cons' (fr _ _ hd1 hd2).1 (fr _ _ hd1 hd2).2.1 (nb _ _ A' R)) (fr _ _ hd1 hd2).2.2 p1 p2 p3 p4 p5
theorem tg_use {A : Nat → Addr} {T : Nat → Nat → Tok} {S : St} {t1 t2 : Tok} {st e : Int} (B : Below A₀ base outer h₀) (F : Fr h₀ L s.heap m) (X : (KK w.params).In h₀) (N : News h₀ L s.heap news) (T' : Top p loose mean mg mb h₀) (hk : cs.kind = .function)
    (hp : At s.heap (cstTg w A T S)) (sub : Subl (ledTg w A T S) news) (hd : dp + 80 < recursionLimit) (hu : un + 800 < cLine)
    (hI : Inj A) (lo : (A 4 == sysModules) = false) (hkr : S.okr.IsDictOf (intKind pw w) S.kvs) (hkv : S.kvs = [] ∨ S.kvs = [(1, .ref (A 11))])
    (hnv : S.nv = .none ∨ ∃ i c, S.nv = .int i c) (h1 : S.rs.length ≤ 400000) (hl : S.rs = [] ∨ ∃ r0, S.rs = r0 ++ [.ref 175]) (h3 : 0 ≤ S.gs) (h4 : S.gs ≤ S.ge) (h5 : S.ge ≤ S.cells.length) (h6 : S.cells.length ≤ 200000) (h0 : 1 ≤ st) (hse : st ≤ e) (he : e ≤ S.cells.length - S.ge + S.gs + 1)
    (hc1 : (cut S st e).length ≤ 400000) (hc2 : ((cut S st e).length : Int) ≠ 0)
    (ret : ∀ R vals us ms nv' n' h' tk', Fr h₀ L h' m → (∀ new, Repl [A 3, A 4, A 5, A 6] [(A 3, dictOf (mkEs w.params (T 3) S.adv S.bv S.pos S.um S.vp) 4), (A 4, S.okr), (A 5, dictOf (ulEs w.params (T 4) (A 6) 0 (T 4 9) nv') 5), (A 6, listOf (S.rs ++ vals).toArray n')] news new → News h₀ L h' (new ++ R)) → OffAll A R → RowsIn w.params (A 11) R vals (us ++ ms ++ [.del st (cut S st e)]) → NotedA (decide (S.sv < S.ti)) S.sv S.nv nv' us → (ms = [] ∨ ms = [.mk]) → Q .none { s with heap := h', toks := tk' }) :
    wpAny (model pw w) (ktrTop dp un gd cn cs L a₀ ccd cl₀ outer) (call (.ref 707) [.ref (A 13), .ref (A 7), .int st t1, .int e t2]) Q E s := by
  refine spec_use2 (tg_spec w A T S t1 t2 st e hI lo hkr hkv hnv h1 hl h3 h4 h5 h6 h0 hse he hc1 hc2) B F X N T' hk hp sub hd hu ?_
  intro x h' tk' F' nb fr kp po
  obtain ⟨rfl, R, vals, us, ms, nv', n', A', AR, f, ri, no, hms⟩ := po
  exact ret R vals us ms nv' n' h' tk' F' (fun new hR => News.append' (nb _ _ A' hR) (free_news N F AR f).1) (fun p hp' => tg_pres (fun q hq => N q (sub.mem q hq)) hp (f p hp')) ri no hms
end
abbrev TOutF (w : World) (A : Nat → Addr) (S : St) (st e : Int) (S' : St) (R : List (Addr × Obj)) (vals : List Value) (us ms : List Row) : Prop :=
  RowsIn w.params (A 11) R vals (us ++ ms ++ [.del st (cut S st e)]) ∧ NotedA (decide (S.sv < S.ti)) S.sv S.nv S'.nv us ∧ (ms = [] ∨ ms = [.mk])
    ∧ S'.rs = S.rs ++ vals ∧ S'.zv = S.zv - (e - st) ∧ S'.ti = S.ti ∧ S'.sv = S.sv ∧ S'.adv = S.adv ∧ S'.bv = S.bv ∧ S'.pos = S.pos ∧ S'.um = S.um ∧ S'.kvs = S.kvs ∧ S'.okr = S.okr ∧ 0 ≤ S'.gs ∧ S'.gs ≤ S'.ge ∧ S'.ge ≤ S'.cells.length ∧ S'.cells.length = S.cells.length
    ∧ txt S'.cells S'.gs S'.ge = (txt S.cells S.gs S.ge).take (st - 1).toNat ++ (txt S.cells S.gs S.ge).drop (e - 1).toNat
def TOut (w : World) (A : Nat → Addr) (T : Nat → Nat → Tok) (S : St) (st e : Int) (hs h' : Heap) : Prop :=
  ∃ S' R vals us ms, At h' (ledL w A T S') ∧ At h' R ∧ (∀ p ∈ R, hs.get? p.1 = none) ∧ TOutF w A S st e S' R vals us ms
theorem to_end {w : World} {A : Nat → Addr} {T : Nat → Nat → Tok} {S : St} {st e : Int} {g s h' : Heap} {L' d : Addr} {o : Obj} {R : List (Addr × Obj)} {vals : List Value} {us ms : List Row} {nv' : Value} {n' nc : Nat} {cells : List Value} {gs ge pt : Int} {gu gv up uz ut uc ux : Tok}
    (hin : ∀ b o, s.get? b = some o → b ∉ (ledL w A T S).map (·.1) → g.get? b = some o) (N : News g L' h' ((d, o) :: (A 0, dictOf (bufEs w.params (T 0) (T 1) (A 8) (A 9) (A 15) (.ref (A 13)) pt (S.zv - (e - st)) S.ti S.ct S.sv up uz ut uc ux) 20) :: (A 1, dictOf (gapEs w.params (T 2) (.int 8 (T 2 9)) (.ref (A 2)) gs ge gu gv) 4) :: (A 2, listOf cells.toArray nc) ::
      (A 3, dictOf (mkEs w.params (T 3) S.adv S.bv S.pos S.um S.vp) 4) :: (A 4, S.okr) :: (A 5, dictOf (ulEs w.params (T 4) (A 6) 0 (T 4 9) nv') 5) :: (A 6, listOf (S.rs ++ vals).toArray n') :: R))
    (off : OffAll A R) (ri : RowsIn w.params (A 11) R vals (us ++ ms ++ [.del st (cut S st e)])) (no : NotedA (decide (S.sv < S.ti)) S.sv S.nv nv' us) (hms : ms = [] ∨ ms = [.mk])
    (p1 : 0 ≤ gs) (p2 : gs ≤ ge) (p3 : ge ≤ cells.length) (p4 : cells.length = S.cells.length) (p5 : txt cells gs ge = (txt S.cells S.gs S.ge).take (st - 1).toNat ++ (txt S.cells S.gs S.ge).drop (e - 1).toNat) :
    ∃ d', Value.ref d = .ref d' ∧ TOut w A T S st e s h' := by
  have AN := At.of_news N
  refine ⟨d, rfl, { S with cells := cells, nc := nc, gs := gs, ge := ge, gu := gu, gv := gv, pt := pt, zv := S.zv - (e - st), up := up, uz := uz, ut := ut, uc := uc, us := ux, nv := nv', rs := S.rs ++ vals, n := n' }, R, vals, us, ms,
    ⟨AN.2.1, AN.2.2.1, AN.2.2.2.1, AN.2.2.2.2.1, AN.2.2.2.2.2.1, AN.2.2.2.2.2.2.1, AN.2.2.2.2.2.2.2.1, trivial⟩, AN.2.2.2.2.2.2.2.2, fun p hp => ?_, ri, no, hms, rfl, rfl, rfl, rfl, rfl, rfl, rfl, rfl, rfl, rfl, p1, p2, p3, p4, p5⟩
  refine free_of hin N (List.Mem.tail _ (List.Mem.tail _ (List.Mem.tail _ (List.Mem.tail _ (List.Mem.tail _ (List.Mem.tail _ (List.Mem.tail _ (List.Mem.tail _ hp)))))))) ?_
  have q := off p hp
  exact nm_cons (q 0 (by decide)) (nm_cons (q 1 (by decide)) (nm_cons (q 2 (by decide)) (nm_cons (q 3 (by decide)) (nm_cons (q 4 (by decide)) (nm_cons (q 5 (by decide)) (nm_cons (q 6 (by decide)) List.not_mem_nil))))))
namespace to_specN
abbrev zS (w : World) (A : Nat → Addr) (T : Nat → Nat → Tok) (S : St) (t1 t2 : Tok) (st e : Int) : Prop := Spec w 120 1200 76 [.ref (A 7), .int st t1, .int e t2] (ledL w A T S) (fun h => At h (cstL w A T)) (fun h x h' => ∃ d, x = .ref d ∧ TOut w A T S st e h h')
def zP (w : World) (A : Nat → Addr) (T : Nat → Nat → Tok) (S : St) (t1 t2 : Tok) (st e : Int) : Prop := ∀ (hI : Inj A) (lo : (A 4 == sysModules) = false) (hkr : S.okr.IsDictOf (intKind pw w) S.kvs) (hkv : S.kvs = [] ∨ S.kvs = [(1, .ref (A 11))]) (hnv : S.nv = .none ∨ ∃ i c, S.nv = .int i c) (h1 : S.rs.length ≤ 400000) (hl : S.rs = [] ∨ ∃ r0, S.rs = r0 ++ [.ref 175]) (h3 : 0 ≤ S.gs) (h4 : S.gs ≤ S.ge) (h5 : S.ge ≤ S.cells.length) (h6 : S.cells.length ≤ 200000) (h0 : 1 ≤ st) (hse : st ≤ e) (he : e ≤ S.cells.length - S.ge + S.gs + 1) (hc1 : (cut S st e).length ≤ 400000) (hc2 : ((cut S st e).length : Int) ≠ 0), zS w A T S t1 t2 st e
abbrev zT := (World × (Nat → Addr) × (Nat → Nat → Tok)) × (St × Tok × Tok) × (Int × Int)
def zQ (x : zT) : Prop := zP x.1.1 x.1.2.1 x.1.2.2 x.2.1.1 x.2.1.2.1 x.2.1.2.2 x.2.2.1 x.2.2.2
theorem zne : Nonempty zT := by k_extra "zne"
def zX : zT := pk zne zQ
def zR : Red2 (zS zX.1.1 zX.1.2.1 zX.1.2.2 zX.2.1.1 zX.2.1.2.1 zX.2.1.2.2 zX.2.2.1 zX.2.2.2) SD ED := by k_extra "zR"
def zY : SD × ED := pk ED.ne fun x => zR.1 x.1 x.2
theorem body : zQ zX := by
  intro hI lo hkr hkv hnv h1 hl h3 h4 h5 h6 h0 hse he hc1 hc2
  refine zR.2 fun zd ze => pk_all (n := ED.ne) (P := fun x => zR.1 x.1 x.2) ?_ (zd, ze)
  show zR.1 zY.1 zY.2
  delta zR; dsimp only
  delta BodyAt; dsimp only
  intro B F X N TT hk hd hu hp ret dA uA hin back F' N' B' X' T'
  (try dsimp only at hin)
  have hA : At zY.2.g [(zX.1.2.1 7, instObj 651 (zX.1.2.1 0)), (zX.1.2.1 8, instObj 400 (zX.1.2.1 1)), (zX.1.2.1 9, instObj 545 (zX.1.2.1 10)), (zX.1.2.1 10, dictOf (ksEs zX.1.1.params (zX.1.2.2 5 0) (zX.1.2.1 4)) 1), (zX.1.2.1 11, instObj 477 (zX.1.2.1 3)), (zX.1.2.1 12, instObj 260 (zX.1.2.1 5)), (zX.1.2.1 13, instObj 717 (zX.1.2.1 14)), (zX.1.2.1 14, dictOf (rcEs zX.1.1.params (zX.1.2.2 5 1) (zX.1.2.1 12)) 1), (zX.1.2.1 15, listOf #[] 0)] := cst_into hI hin hp
  replace F' : Fr zY.2.g zY.2.L zY.2.h (fun y => List.lookup y [(Str.ofString "end", Value.int zX.2.2.2 zX.2.1.2.2), (Str.ofString "start", Value.int zX.2.2.1 zX.2.1.2.1), (Str.ofString "buffer", Value.ref (zX.1.2.1 7))]) := F'
  dsimp only [ledL] at N'
  (try dsimp only)
  (try k_fold)
  k_steps
  all_goals (try dsimp only)
  all_goals (try contradiction)
  all_goals (refine leaveC_of (by assumption) hin back fun kF kept => ?_; try dsimp only)
  all_goals exact ret _ _ _ kF kept (to_end hin (by assumption) (by assumption) (by assumption) (by assumption) (by assumption) (by assumption) (by assumption) (by assumption) (by assumption) (by assumption))
end to_specN
theorem to_spec (w A T S t1 t2 st e) : to_specN.zP w A T S t1 t2 st e := pk_all (n := to_specN.zne) (P := to_specN.zQ) to_specN.body ((w, A, T), (S, t1, t2), (st, e))
end
section
open N_De
theorem Repl.sw4 {as : List Addr} {a : Addr} {o o' : Obj} {q1 q2 q3 q4 : Addr × Obj} {l r r' : List (Addr × Obj)} (h : Repl as (q1 :: q2 :: q3 :: q4 :: (a, o') :: l) r r') : Repl as (q1 :: q2 :: q3 :: q4 :: (a, o') :: l) ((a, o) :: r) ((a, o') :: r') := .swap (.tail _ (.tail _ (.tail _ (.tail _ (.head _))))) h
theorem Repl.sw5 {as : List Addr} {a : Addr} {o o' : Obj} {q1 q2 q3 q4 q5 : Addr × Obj} {l r r' : List (Addr × Obj)} (h : Repl as (q1 :: q2 :: q3 :: q4 :: q5 :: (a, o') :: l) r r') : Repl as (q1 :: q2 :: q3 :: q4 :: q5 :: (a, o') :: l) ((a, o) :: r) ((a, o') :: r') := .swap (.tail _ (.tail _ (.tail _ (.tail _ (.tail _ (.head _)))))) h
theorem Repl.sw6 {as : List Addr} {a : Addr} {o o' : Obj} {q1 q2 q3 q4 q5 q6 : Addr × Obj} {l r r' : List (Addr × Obj)} (h : Repl as (q1 :: q2 :: q3 :: q4 :: q5 :: q6 :: (a, o') :: l) r r') : Repl as (q1 :: q2 :: q3 :: q4 :: q5 :: q6 :: (a, o') :: l) ((a, o) :: r) ((a, o') :: r') := .swap (.tail _ (.tail _ (.tail _ (.tail _ (.tail _ (.tail _ (.head _))))))) h
theorem led_pres {w : World} {A : Nat → Addr} {T : Nat → Nat → Tok} {S : St} {h₀ s : Heap} {L x : Addr} (N : News h₀ L s (ledL w A T S)) (h : At s (cstL w A T)) (hx : s.get? x = none) : ∀ i, i < 16 → x ≠ A i := by
  have ne : ∀ y o, s.get? y = some o → x ≠ y := fun y o e => free_ne hx e
  obtain ⟨a7, a8, a9, a10, a11, a12, a13, a14, a15, _⟩ := h
  obtain ⟨a0, a1, a2, a3, a4, a5, a6, _⟩ := At.of_news N
  intro i hi
  have : i = 0 ∨ i = 1 ∨ i = 2 ∨ i = 3 ∨ i = 4 ∨ i = 5 ∨ i = 6 ∨ i = 7 ∨ i = 8 ∨ i = 9 ∨ i = 10 ∨ i = 11 ∨ i = 12 ∨ i = 13 ∨ i = 14 ∨ i = 15 := lt16 i hi
  rcases this with rfl | rfl | rfl | rfl | rfl | rfl | rfl | rfl | rfl | rfl | rfl | rfl | rfl | rfl | rfl | rfl
  · exact ne _ _ a0
  · exact ne _ _ a1
  · exact ne _ _ a2
  · exact ne _ _ a3
  · exact ne _ _ a4
  · exact ne _ _ a5
  · exact ne _ _ a6
  · exact ne _ _ a7
  · exact ne _ _ a8
  · exact ne _ _ a9
  · exact ne _ _ a10
  · exact ne _ _ a11
  · exact ne _ _ a12
  · exact ne _ _ a13
  · exact ne _ _ a14
  · exact ne _ _ a15
section
variable {w : World} {p : Program} {loose : List Str} {mean : ExcName → Option Value} {mg mb : Str → Option Value} {dp un : Nat} {gd : Option (List Code)} {cn : Str} {cs : Scope} {a₀ : Addr} {ccd : Value} {cl₀ : List (Str × Addr)} {outer : List Env} {A₀ : Around} {base h₀ : Heap} {L : Addr} {m : Str → Option Value} {s : Shared} {Q E : Value → Shared → Prop} {news : List (Addr × Obj)}
theorem deleted_use {k kd kr mk mkd : Addr} {tk : Tok} {t : Nat → Tok} {adv : Bool} {bv : Value} {pos st e : Int} {u v t1 t2 : Tok} {okr : Obj} {kvs : List (Int × Value)} (B : Below A₀ base outer h₀) (F : Fr h₀ L s.heap m) (X : (KK w.params).In h₀) (N : News h₀ L s.heap news) (T : Top p loose mean mg mb h₀) (hk : cs.kind = .function)
    (hp : s.heap.get? k = some (instObj 545 kd)) (hp2 : s.heap.get? kd = some (dictOf (ksEs w.params tk kr) 1)) (hp3 : s.heap.get? mk = some (instObj 477 mkd)) (sub : Subl (mkL w mkd kr t adv bv pos u v okr) news) (hd : dp + 20 < recursionLimit) (hu : un + 200 < cLine)
    (lo : (kr == sysModules) = false) (hkr : okr.IsDictOf (intKind pw w) kvs) (hkv : kvs = [] ∨ kvs = [(1, .ref mk)]) (c1 : mkd ≠ kr) (hm1 : mk ≠ mkd) (hm2 : mk ≠ kr) (hm3 : k ≠ kr) (hm4 : kd ≠ kr) (hm5 : kd ≠ mkd) (hm6 : k ≠ mkd)
    (ret : ∀ pos' v' h' tk', Fr h₀ L h' m → (∀ new, Repl [mkd, kr] [(mkd, dictOf (mkEs w.params t adv bv pos' u v') 4), (kr, okr)] news new → News h₀ L h' new) → (kvs = [] → pos' = pos) → Q .none { s with heap := h', toks := tk' }) :
    wpAny (model pw w) (ktrTop dp un gd cn cs L a₀ ccd cl₀ outer) (call (.ref 535) [.ref k, .int st t1, .int e t2]) Q E s := by
  refine spec_use2 (deleted_spec w k kd kr mk mkd tk t adv bv pos st e u v t1 t2 okr kvs lo hkr hkv c1 hm1 hm2 hm3 hm4 hm5 hm6) B F X N T hk ⟨hp, hp2, hp3, trivial⟩ sub hd hu ?_
  intro x h' tk' F' nb fr kp po
  obtain ⟨rfl, pos', v', A', p1⟩ := po
  exact ret pos' v' h' tk' F' (fun new R => nb _ _ A' R) p1
theorem to_use {A : Nat → Addr} {T : Nat → Nat → Tok} {S : St} {t1 t2 : Tok} {st e : Int} (B : Below A₀ base outer h₀) (F : Fr h₀ L s.heap m) (X : (KK w.params).In h₀) (N : News h₀ L s.heap news) (T' : Top p loose mean mg mb h₀) (hk : cs.kind = .function)
    (hp : At s.heap (cstL w A T)) (sub : Subl (ledL w A T S) news) (hd : dp + 120 < recursionLimit) (hu : un + 1200 < cLine)
    (hI : Inj A) (lo : (A 4 == sysModules) = false) (hkr : S.okr.IsDictOf (intKind pw w) S.kvs) (hkv : S.kvs = [] ∨ S.kvs = [(1, .ref (A 11))])
    (hnv : S.nv = .none ∨ ∃ i c, S.nv = .int i c) (h1 : S.rs.length ≤ 400000) (hl : S.rs = [] ∨ ∃ r0, S.rs = r0 ++ [.ref 175]) (h3 : 0 ≤ S.gs) (h4 : S.gs ≤ S.ge) (h5 : S.ge ≤ S.cells.length) (h6 : S.cells.length ≤ 200000) (h0 : 1 ≤ st) (hse : st ≤ e) (he : e ≤ S.cells.length - S.ge + S.gs + 1)
    (hc1 : (cut S st e).length ≤ 400000) (hc2 : ((cut S st e).length : Int) ≠ 0)
    (ret : ∀ d S' R vals us ms h' tk', Fr h₀ L h' m → (∀ new, Repl [A 0, A 1, A 2, A 3, A 4, A 5, A 6] (ledL w A T S') news new → News h₀ L h' (new ++ R)) → OffAll A R → S'.okr.IsDictOf (intKind pw w) S'.kvs → (S'.kvs = [] ∨ S'.kvs = [(1, .ref (A 11))]) → TOutF w A S st e S' R vals us ms → Q (.ref d) { s with heap := h', toks := tk' }) :
    wpAny (model pw w) (ktrTop dp un gd cn cs L a₀ ccd cl₀ outer) (call (.ref 76) [.ref (A 7), .int st t1, .int e t2]) Q E s := by
  refine spec_use2 (to_spec w A T S t1 t2 st e hI lo hkr hkv hnv h1 hl h3 h4 h5 h6 h0 hse he hc1 hc2) B F X N T' hk hp sub hd hu ?_
  intro x h' tk' F' nb fr kp po
  obtain ⟨d, rfl, S', R, vals, us, ms, A', AR, f, po⟩ := po
  have e1 : S'.okr = S.okr := po.2.2.2.2.2.2.2.2.2.2.2.2.1
  have e2 : S'.kvs = S.kvs := po.2.2.2.2.2.2.2.2.2.2.2.1
  exact ret d S' R vals us ms h' tk' F' (fun new hR => News.append' (nb _ _ A' hR) (free_news N F AR f).1) (fun p hp' => led_pres (fun q hq => N q (sub.mem q hq)) hp (f p hp')) (e1 ▸ e2 ▸ hkr) (e2 ▸ hkv) po
end
abbrev DelF (w : World) (A : Nat → Addr) (S : St) (st e : Int) (S' : St) (R : List (Addr × Obj)) (vals : List Value) (us ms : List Row) : Prop :=
  RowsIn w.params (A 11) R vals (us ++ ms ++ [.del st (cut S st e)]) ∧ NotedA (decide (S.sv < S.ti)) S.sv S.nv S'.nv us ∧ (ms = [] ∨ ms = [.mk])
    ∧ S'.rs = S.rs ++ vals ∧ S'.zv = S.zv - (e - st) ∧ S'.ti = S.ti + 1 ∧ S'.sv = S.sv ∧ S'.bv = S.bv ∧ (S.kvs = [] → S'.pos = S.pos) ∧ S'.kvs = S.kvs ∧ S'.okr = S.okr ∧ 0 ≤ S'.gs ∧ S'.gs ≤ S'.ge ∧ S'.ge ≤ S'.cells.length ∧ S'.cells.length = S.cells.length
    ∧ txt S'.cells S'.gs S'.ge = (txt S.cells S.gs S.ge).take (st - 1).toNat ++ (txt S.cells S.gs S.ge).drop (e - 1).toNat
def Del (w : World) (A : Nat → Addr) (T : Nat → Nat → Tok) (S : St) (st e : Int) (hs h' : Heap) : Prop :=
  ∃ S' R vals us ms, At h' (ledL w A T S') ∧ At h' R ∧ (∀ p ∈ R, hs.get? p.1 = none) ∧ DelF w A S st e S' R vals us ms
namespace de_endN
def zP (w : World) (A : Nat → Addr) (T : Nat → Nat → Tok) (S S' : St) (st e : Int) (g s h' : Heap) (L' d x1 : Addr) (o1 : Obj) (R : List (Addr × Obj)) (vals : List Value) (us ms : List Row) (ct pos : Int) (ut uc vp : Tok) : Prop := ∀ (hin : ∀ b o, s.get? b = some o → b ∉ (ledL w A T S).map (·.1) → g.get? b = some o) (po : TOutF w A S st e S' R vals us ms) (off : OffAll A R) (hpos : S'.kvs = [] → pos = S'.pos) (N : News g L' h' ((x1, o1) :: (A 0, dictOf (bufEs w.params (T 0) (T 1) (A 8) (A 9) (A 15) (.ref (A 13)) S'.pt S'.zv (S'.ti + 1) ct S'.sv S'.up S'.uz ut uc S'.us) 20) :: (A 1, dictOf (gapEs w.params (T 2) (.int 8 (T 2 9)) (.ref (A 2)) S'.gs S'.ge S'.gu S'.gv) 4) :: (A 2, listOf S'.cells.toArray S'.nc) ::
      (A 3, dictOf (mkEs w.params (T 3) S'.adv S'.bv pos S'.um vp) 4) :: (A 4, S'.okr) :: (A 5, dictOf (ulEs w.params (T 4) (A 6) 0 (T 4 9) S'.nv) 5) :: (A 6, listOf S'.rs.toArray S'.n) :: R)), ∃ d', Value.ref d = .ref d' ∧ Del w A T S st e s h'
abbrev zT := (World × (Nat → Addr) × (Nat → Nat → Tok) × St × St) × (Int × Int × Heap × Heap × Heap) × (Addr × Addr × Addr × Obj × (List (Addr × Obj))) × ((List Value) × (List Row) × (List Row) × Int × Int) × (Tok × Tok × Tok)
def zQ (x : zT) : Prop := zP x.1.1 x.1.2.1 x.1.2.2.1 x.1.2.2.2.1 x.1.2.2.2.2 x.2.1.1 x.2.1.2.1 x.2.1.2.2.1 x.2.1.2.2.2.1 x.2.1.2.2.2.2 x.2.2.1.1 x.2.2.1.2.1 x.2.2.1.2.2.1 x.2.2.1.2.2.2.1 x.2.2.1.2.2.2.2 x.2.2.2.1.1 x.2.2.2.1.2.1 x.2.2.2.1.2.2.1 x.2.2.2.1.2.2.2.1 x.2.2.2.1.2.2.2.2 x.2.2.2.2.1 x.2.2.2.2.2.1 x.2.2.2.2.2.2
theorem zne : Nonempty zT := by k_extra "zne"
def zX : zT := pk zne zQ
def S' := zX.1.2.2.2.2
def R := zX.2.2.1.2.2.2.2
def vals := zX.2.2.2.1.1
def us := zX.2.2.2.1.2.1
def ms := zX.2.2.2.1.2.2.1
def ct := zX.2.2.2.1.2.2.2.1
def pos := zX.2.2.2.1.2.2.2.2
def ut := zX.2.2.2.2.1
def uc := zX.2.2.2.2.2.1
def vp := zX.2.2.2.2.2.2
theorem body : zP zX.1.1 zX.1.2.1 zX.1.2.2.1 zX.1.2.2.2.1 S' zX.2.1.1 zX.2.1.2.1 zX.2.1.2.2.1 zX.2.1.2.2.2.1 zX.2.1.2.2.2.2 zX.2.2.1.1 zX.2.2.1.2.1 zX.2.2.1.2.2.1 zX.2.2.1.2.2.2.1 R vals us ms ct pos ut uc vp := by
  intro hin po off hpos N
  have AN := At.of_news N
  obtain ⟨f1, f2, f3, f4, f5, f6, f7, f8, f9, f10, f11, f12, f13, f14, f15, f16, f17, f18⟩ := po
  refine ⟨zX.2.2.1.2.1, rfl, { S' with ti := S'.ti + 1, ct := ct, pos := pos, ut := ut, uc := uc, vp := vp }, R, vals, us, ms,
    ⟨AN.2.1, AN.2.2.1, AN.2.2.2.1, AN.2.2.2.2.1, AN.2.2.2.2.2.1, AN.2.2.2.2.2.2.1, AN.2.2.2.2.2.2.2.1, trivial⟩, AN.2.2.2.2.2.2.2.2, fun p hp => ?_, f1, f2, f3, f4, f5, by rw [f6], f7, f9, fun hk => (hpos (f12.trans hk)).trans f10, f12, f13, f14, f15, f16, f17, f18⟩
  refine free_of hin N (List.Mem.tail _ (List.Mem.tail _ (List.Mem.tail _ (List.Mem.tail _ (List.Mem.tail _ (List.Mem.tail _ (List.Mem.tail _ (List.Mem.tail _ hp)))))))) ?_
  have q := off p hp
  exact nm_cons (q 0 (by decide)) (nm_cons (q 1 (by decide)) (nm_cons (q 2 (by decide)) (nm_cons (q 3 (by decide)) (nm_cons (q 4 (by decide)) (nm_cons (q 5 (by decide)) (nm_cons (q 6 (by decide)) List.not_mem_nil))))))
end de_endN
theorem de_end {w A T S S' st e g s h' L' d x1 o1 R vals us ms ct pos ut uc vp} : de_endN.zP w A T S S' st e g s h' L' d x1 o1 R vals us ms ct pos ut uc vp := pk_all (n := de_endN.zne) (P := de_endN.zQ) de_endN.body ((w, A, T, S, S'), (st, e, g, s, h'), (L', d, x1, o1, R), (vals, us, ms, ct, pos), (ut, uc, vp))
namespace delete_specN
abbrev zS (w : World) (A : Nat → Addr) (T : Nat → Nat → Tok) (S : St) (t1 t2 : Tok) (st e : Int) : Prop := Spec w 200 2000 119 [.ref (A 7), .int st t1, .int e t2] (ledL w A T S) (fun h => At h (cstL w A T)) (fun h x h' => ∃ d, x = .ref d ∧ Del w A T S st e h h')
def zP (w : World) (A : Nat → Addr) (T : Nat → Nat → Tok) (S : St) (t1 t2 : Tok) (st e : Int) : Prop := ∀ (hI : Inj A) (lo : (A 4 == sysModules) = false) (hkr : S.okr.IsDictOf (intKind pw w) S.kvs) (hkv : S.kvs = [] ∨ S.kvs = [(1, .ref (A 11))]) (hnv : S.nv = .none ∨ ∃ i c, S.nv = .int i c) (h1 : S.rs.length ≤ 400000) (hl : S.rs = [] ∨ ∃ r0, S.rs = r0 ++ [.ref 175]) (h3 : 0 ≤ S.gs) (h4 : S.gs ≤ S.ge) (h5 : S.ge ≤ S.cells.length) (h6 : S.cells.length ≤ 200000) (hz : S.zv = S.cells.length - S.ge + S.gs + 1) (h0 : 1 ≤ st) (hse : st < e) (hse' : st ≤ e) (he : e ≤ S.zv) (he' : e ≤ S.cells.length - S.ge + S.gs + 1) (hc1 : (cut S st e).length ≤ 400000) (hc2 : ((cut S st e).length : Int) ≠ 0), zS w A T S t1 t2 st e
abbrev zT := (World × (Nat → Addr) × (Nat → Nat → Tok)) × (St × Tok × Tok) × (Int × Int)
def zQ (x : zT) : Prop := zP x.1.1 x.1.2.1 x.1.2.2 x.2.1.1 x.2.1.2.1 x.2.1.2.2 x.2.2.1 x.2.2.2
theorem zne : Nonempty zT := by k_extra "zne"
def zX : zT := pk zne zQ
def zR : Red2 (zS zX.1.1 zX.1.2.1 zX.1.2.2 zX.2.1.1 zX.2.1.2.1 zX.2.1.2.2 zX.2.2.1 zX.2.2.2) SD ED := by k_extra "zR"
def zY : SD × ED := pk ED.ne fun x => zR.1 x.1 x.2
theorem body : zQ zX := by
  intro hI lo hkr hkv hnv h1 hl h3 h4 h5 h6 hz h0 hse hse' he he' hc1 hc2
  refine zR.2 fun zd ze => pk_all (n := ED.ne) (P := fun x => zR.1 x.1 x.2) ?_ (zd, ze)
  show zR.1 zY.1 zY.2
  delta zR; dsimp only
  delta BodyAt; dsimp only
  intro B F X N TT hk hd hu hp ret dA uA hin back F' N' B' X' T'
  (try dsimp only at hin)
  have hA : At zY.2.g [(zX.1.2.1 7, instObj 651 (zX.1.2.1 0)), (zX.1.2.1 8, instObj 400 (zX.1.2.1 1)), (zX.1.2.1 9, instObj 545 (zX.1.2.1 10)), (zX.1.2.1 10, dictOf (ksEs zX.1.1.params (zX.1.2.2 5 0) (zX.1.2.1 4)) 1), (zX.1.2.1 11, instObj 477 (zX.1.2.1 3)), (zX.1.2.1 12, instObj 260 (zX.1.2.1 5)), (zX.1.2.1 13, instObj 717 (zX.1.2.1 14)), (zX.1.2.1 14, dictOf (rcEs zX.1.1.params (zX.1.2.2 5 1) (zX.1.2.1 12)) 1), (zX.1.2.1 15, listOf #[] 0)] := cst_into hI hin hp
  replace F' : Fr zY.2.g zY.2.L zY.2.h (fun y => List.lookup y [(Str.ofString "end", Value.int zX.2.2.2 zX.2.1.2.2), (Str.ofString "start", Value.int zX.2.2.1 zX.2.1.2.1), (Str.ofString "buffer", Value.ref (zX.1.2.1 7))]) := F'
  dsimp only [ledL] at N'
  (try dsimp only)
  (try k_fold)
  k_steps
  all_goals (try dsimp only)
  all_goals (try contradiction)
  all_goals (try (exfalso; omega))
  all_goals (refine leaveC_of (by assumption) hin back fun kF kept => ?_; try dsimp only)
  all_goals exact ret _ _ _ kF kept (de_end hin (by assumption) (by assumption) (by assumption) (by assumption))
end delete_specN
theorem delete_spec (w A T S t1 t2 st e) : delete_specN.zP w A T S t1 t2 st e := pk_all (n := delete_specN.zne) (P := delete_specN.zQ) delete_specN.body ((w, A, T), (S, t1, t2), (st, e))
end
section
open N_Us
theorem isTup_of {h : Heap} {x : Addr} {its : List Value} (e : h.get? x = some (tup its.toArray)) : IsTup h x its.toArray := ⟨_, e, rfl, _, rfl⟩
section
variable {prog : Program} {w : World} {A : Around} {E : Value → Shared → Prop} {s : Shared} {l x y a : Addr} {vs : List Value} {i : Int} {u : Tok} {v : Value} {Q : Value → Shared → Prop}
theorem item_at (hl : s.heap.IsList l vs.toArray) (h0 : 0 ≤ i) (h1 : i ≤ 1000000) (g : vs[i.toNat]? = some v) (h : Q v s) : wpAny (model prog w) A (getItem (.ref l) (.int i u)) Q E s :=
  wpAny_getItem_list hl h0 (by omega) (by rw [List.getElem?_toArray]; exact g) h
theorem item_atT {value slice : PySem.Expr} (hl : s.heap.IsList l vs.toArray) (h0 : 0 ≤ i) (h1 : i ≤ 1000000) (g : vs[i.toNat]? = some v) (h : Q v s)
    (hs : subscripted slice false (.ref l) (.int i u) = operate [.ref l, .int i u] (getItem (.ref l) (.int i u)) := by with_unfolding_all rfl) :
    wpAny (model prog w) A (subscriptTail value slice (.ref l) (.int i u)) Q E s := tail_any hl.typeIs slot_list_getitem.lookup (item_at hl h0 h1 g h) hs
theorem item_hd {value slice : PySem.Expr} {W : Str} {c : Tok} {its : List Value} (hx : s.heap.get? x = some (tup (Value.str W c :: its).toArray)) (h : Q (.str W c) s)
    (hs : subscripted slice false (.ref x) (.int 0 u) = operate [.ref x, .int 0 u] (getItem (.ref x) (.int 0 u)) := by with_unfolding_all rfl) :
    wpAny (model prog w) A (subscriptTail value slice (.ref x) (.int 0 u)) Q E s :=
  item_tupleT (isTup_of hx) (by decide) (by decide) (j := 0) (by unfold seqIndex?; simp) rfl h hs
theorem ne_head {W V : Str} {c d : Tok} {its : List Value} (hx : s.heap.get? x = some (tup (Value.str W c :: its).toArray)) (hy : s.heap.get? y = some (tup [Value.str V d].toArray)) (hne : (W == V) = false) (hu : A.units < cLine) (h : Q (.bool true) s) :
    wpAny (model prog w) A (compareOp .NotEq (.ref x) (.ref y)) Q E s := by
  have hy' : s.heap.IsTuple y [Value.str V d].toArray := ⟨_, hy, rfl, _, rfl⟩
  have hx' : s.heap.IsTuple x (Value.str W c :: its).toArray := ⟨_, hx, rfl, _, rfl⟩
  refine PySem.SeqAt.RcNeAt.tuples (e := fun _ => false) hx' hy' hu (fun j h1 h2 => ?_) prog w E Q ?_
  · have : j = 0 := by simp at h2; omega
    subst this
    have := PySem.SeqAt.EqAt.str_str (A := A.in1) (s := s) W c V d
    rw [hne] at this
    exact this
  · have : min (Value.str W c :: its).toArray.size [Value.str V d].toArray.size = 1 := by simp
    rw [this]; exact h
theorem ne_one {W : Str} {c d : Tok} (hx : s.heap.get? x = some (tup [Value.str W c].toArray)) (hy : s.heap.get? y = some (tup [Value.str W d].toArray)) (hu : A.units < cLine) (h : Q (.bool false) s) :
    wpAny (model prog w) A (compareOp .NotEq (.ref x) (.ref y)) Q E s := by
  have hy' : s.heap.IsTuple y [Value.str W d].toArray := ⟨_, hy, rfl, _, rfl⟩
  have hx' : s.heap.IsTuple x [Value.str W c].toArray := ⟨_, hx, rfl, _, rfl⟩
  refine PySem.SeqAt.RcNeAt.tuples (e := fun _ => true) hx' hy' hu (fun j h1 h2 => ?_) prog w E Q ?_
  · have : j = 0 := by simp at h2; omega
    subst this
    have := PySem.SeqAt.EqAt.str_str (A := A.in1) (s := s) W c W d
    rw [show (W == W) = true by simp] at this
    exact this
  · exact h
end
theorem bd_at {w : World} {h₀ h : Heap} {L : Addr} {m : Str → Option Value} (F : Fr h₀ L h m) (X : (KK w.params).In h₀) : h.get? 175 = some (tup [Value.str (Str.ofString "boundary") 414].toArray) :=
  F.keep _ _ (X 175 (o175 w.params) rfl)
noncomputable abbrev hdO (W : Str) (c : Tok) (its : List Value) : Obj := tup (Value.str W c :: its).toArray
namespace above_specN
abbrev zS (w : World) (kl x : Addr) (vs : List Value) (n : Nat) (i : Int) (ti : Tok) (W : Str) (c : Tok) (its : List Value) : Prop := Spec w 40 400 313 [.ref kl, .int i ti] [] (fun h => At h [(kl, listOf vs.toArray n), (x, hdO W c its)]) (fun h v h' => ∃ t, v = .int (i - 1) t)
def zP (w : World) (kl x : Addr) (vs : List Value) (n : Nat) (i : Int) (ti : Tok) (W : Str) (c : Tok) (its : List Value) : Prop := ∀ (hi : 2 ≤ i) (hi' : i ≤ 400000) (g1 : vs[(i - 1).toNat]? = some (.ref 175)) (g2 : vs[(i - 1 - 1).toNat]? = some (.ref x)) (hW : (W == Str.ofString "boundary") = false), zS w kl x vs n i ti W c its
abbrev zT := (World × Addr × Addr) × ((List Value) × Nat × Int) × (Tok × Str × Tok) × (List Value)
def zQ (x : zT) : Prop := zP x.1.1 x.1.2.1 x.1.2.2 x.2.1.1 x.2.1.2.1 x.2.1.2.2 x.2.2.1.1 x.2.2.1.2.1 x.2.2.1.2.2 x.2.2.2
theorem zne : Nonempty zT := by k_extra "zne"
def zX : zT := pk zne zQ
def zR : Red2 (zS zX.1.1 zX.1.2.1 zX.1.2.2 zX.2.1.1 zX.2.1.2.1 zX.2.1.2.2 zX.2.2.1.1 zX.2.2.1.2.1 zX.2.2.1.2.2 zX.2.2.2) SD ED := by k_extra "zR"
def zY : SD × ED := pk ED.ne fun x => zR.1 x.1 x.2
theorem body : zQ zX := by
  intro hi hi' g1 g2 hW
  refine zR.2 fun zd ze => pk_all (n := ED.ne) (P := fun x => zR.1 x.1 x.2) ?_ (zd, ze)
  show zR.1 zY.1 zY.2
  delta zR; dsimp only
  delta BodyAt; dsimp only
  intro B F X N TT hk hd hu hp ret dA uA hin back F' N' B' X' T'
  (try dsimp only at hin)
  have hA : At zY.2.g [(zX.1.2.1, listOf zX.2.1.1.toArray zX.2.1.2.1), (zX.1.2.2, hdO zX.2.2.1.2.1 zX.2.2.1.2.2 zX.2.2.2)] := At.keep hp fun b o e => hin b o e List.not_mem_nil
  replace F' : Fr zY.2.g zY.2.L zY.2.h (fun y => List.lookup y [(Str.ofString "at", Value.int zX.2.1.2.2 zX.2.2.1.1), (Str.ofString "rows", Value.ref zX.1.2.1)]) := F'
  (try dsimp only)
  (try k_fold)
  k_steps
  all_goals (try dsimp only)
  all_goals (try contradiction)
  all_goals (try (exfalso; omega))
  all_goals (refine leaveC_of (by assumption) hin back fun kF kept => ?_; try dsimp only)
  all_goals exact ret _ _ _ kF kept ⟨_, rfl⟩
end above_specN
theorem above_spec (w kl x vs n i ti W c its) : above_specN.zP w kl x vs n i ti W c its := pk_all (n := above_specN.zne) (P := above_specN.zQ) above_specN.body ((w, kl, x), (vs, n, i), (ti, W, c), its)
end
section
open N_Ma
def Stp (h : Heap) (vs : List Value) (V : Str) (i : Int) : Prop := i = 0 ∨ (1 ≤ i ∧ ∃ x W c its, vs[(i - 1).toNat]? = some (.ref x) ∧ h.get? x = some (hdO W c its) ∧ (W == V) = false)
theorem Stp.keep {h h' : Heap} {vs : List Value} {V : Str} {i : Int} (H : Stp h vs V i) (k : ∀ b o, h.get? b = some o → h'.get? b = some o) : Stp h' vs V i := by
  rcases H with H | ⟨a, x, W, c, its, g, e, n⟩
  · exact .inl H
  · exact .inr ⟨a, x, W, c, its, g, k _ _ e, n⟩
theorem ma_end {g s h' h₀ : Heap} {L' D : Addr} {k : Nat} {news : List (Addr × Obj)} {ext : List Value} (hin : ∀ b o, s.get? b = some o → b ∉ (([] : List (Addr × Obj)).map (·.1)) → g.get? b = some o) (N : News g L' h' news) (hm : (D, listOf ext.toArray k) ∈ news) :
    ∃ d k, Value.ref D = .ref d ∧ s.get? d = none ∧ h'.get? d = some (listOf ext.toArray k) := ⟨D, k, rfl, free_of hin N hm List.not_mem_nil, (N _ hm).1⟩
namespace ma0_specN
abbrev zS (w : World) (kl : Addr) (vs : List Value) (n : Nat) (i : Int) (ti : Tok) : Prop := Spec w 40 400 285 [.ref kl, .int i ti] [] (fun h => At h [(kl, listOf vs.toArray n)] ∧ Stp h vs (Str.ofString "marker") i) (fun h v h' => ∃ d k, v = .ref d ∧ h.get? d = none ∧ h'.get? d = some (listOf ([] : List Value).toArray k))
def zP (w : World) (kl : Addr) (vs : List Value) (n : Nat) (i : Int) (ti : Tok) : Prop := ∀ (hi : 0 ≤ i) (hi' : i ≤ 400000), zS w kl vs n i ti
abbrev zT := (World × Addr) × ((List Value) × Nat) × (Int × Tok)
def zQ (x : zT) : Prop := zP x.1.1 x.1.2 x.2.1.1 x.2.1.2 x.2.2.1 x.2.2.2
theorem zne : Nonempty zT := by k_extra "zne"
def zX : zT := pk zne zQ
def zR : Red2 (zS zX.1.1 zX.1.2 zX.2.1.1 zX.2.1.2 zX.2.2.1 zX.2.2.2) SD ED := by k_extra "zR"
def zY : SD × ED := pk ED.ne fun x => zR.1 x.1 x.2
theorem body : zQ zX := by
  intro hi hi'
  refine zR.2 fun zd ze => pk_all (n := ED.ne) (P := fun x => zR.1 x.1 x.2) ?_ (zd, ze)
  show zR.1 zY.1 zY.2
  delta zR; dsimp only
  delta BodyAt; dsimp only
  intro B F X N TT hk hd hu hp ret dA uA hin back F' N' B' X' T'
  (try dsimp only at hin)
  replace F' : Fr zY.2.g zY.2.L zY.2.h (fun y => List.lookup y [(Str.ofString "at", Value.int zX.2.2.1 zX.2.2.2), (Str.ofString "rows", Value.ref zX.1.2)]) := F'
  have hS := hp.2.keep fun b o e => hin b o e List.not_mem_nil
  unfold Stp at hS
  rcases hS with hS | ⟨h1, x, W, c, its, g, e, hW⟩
  · have hA : At zY.2.g [(zX.1.2, listOf zX.2.1.1.toArray zX.2.1.2)] := At.keep hp.1 fun b o e => hin b o e List.not_mem_nil
    (try dsimp only)
    (try k_fold)
    k_steps
    all_goals (try dsimp only)
    all_goals (try (exfalso; omega))
    all_goals (refine leaveC_of (by assumption) hin back fun kF kept => ?_; try dsimp only)
    all_goals exact ret _ _ _ kF kept (ma_end (h₀ := zY.2.g) hin (by assumption) (by k_dflt k_mem))
  · have hA : At zY.2.g [(zX.1.2, listOf zX.2.1.1.toArray zX.2.1.2), (x, hdO W c its)] := ⟨(At.keep hp.1 fun b o e => hin b o e List.not_mem_nil).1, e, trivial⟩
    clear e
    (try dsimp only)
    (try k_fold)
    k_steps
    all_goals (try dsimp only)
    all_goals (try (exfalso; omega))
    all_goals (refine leaveC_of (by assumption) hin back fun kF kept => ?_; try dsimp only)
    all_goals exact ret _ _ _ kF kept (ma_end (h₀ := zY.2.g) hin (by assumption) (by k_dflt k_mem))
end ma0_specN
theorem ma0_spec (w kl vs n i ti) : ma0_specN.zP w kl vs n i ti := pk_all (n := ma0_specN.zne) (P := ma0_specN.zQ) ma0_specN.body ((w, kl), (vs, n), (i, ti))
namespace ma1_specN
abbrev zS (w : World) (kl z mk : Addr) (d : Int) (a b : Tok) (vs : List Value) (n : Nat) (i : Int) (ti : Tok) : Prop := Spec w 40 400 285 [.ref kl, .int i ti] [] (fun h => At h [(kl, listOf vs.toArray n), (z, mkO mk d a b)] ∧ Stp h vs (Str.ofString "marker") (i - 1)) (fun h v h' => ∃ d k, v = .ref d ∧ h.get? d = none ∧ h'.get? d = some (listOf [Value.ref z].toArray k))
def zP (w : World) (kl z mk : Addr) (d : Int) (a b : Tok) (vs : List Value) (n : Nat) (i : Int) (ti : Tok) : Prop := ∀ (hi : 1 ≤ i) (hi' : i ≤ 400000) (g1 : vs[(i - 1).toNat]? = some (.ref z)), zS w kl z mk d a b vs n i ti
abbrev zT := (World × Addr × Addr) × (Addr × Int × Tok) × (Tok × (List Value) × Nat) × (Int × Tok)
def zQ (x : zT) : Prop := zP x.1.1 x.1.2.1 x.1.2.2 x.2.1.1 x.2.1.2.1 x.2.1.2.2 x.2.2.1.1 x.2.2.1.2.1 x.2.2.1.2.2 x.2.2.2.1 x.2.2.2.2
theorem zne : Nonempty zT := by k_extra "zne"
def zX : zT := pk zne zQ
def b := zX.2.2.1.1
def zR : Red2 (zS zX.1.1 zX.1.2.1 zX.1.2.2 zX.2.1.1 zX.2.1.2.1 zX.2.1.2.2 b zX.2.2.1.2.1 zX.2.2.1.2.2 zX.2.2.2.1 zX.2.2.2.2) SD ED := by k_extra "zR"
def zY : SD × ED := pk ED.ne fun x => zR.1 x.1 x.2
theorem body : zP zX.1.1 zX.1.2.1 zX.1.2.2 zX.2.1.1 zX.2.1.2.1 zX.2.1.2.2 b zX.2.2.1.2.1 zX.2.2.1.2.2 zX.2.2.2.1 zX.2.2.2.2 := by
  intro hi hi' g1
  refine zR.2 fun zd ze => pk_all (n := ED.ne) (P := fun x => zR.1 x.1 x.2) ?_ (zd, ze)
  show zR.1 zY.1 zY.2
  delta zR; dsimp only
  delta BodyAt; dsimp only
  intro B F X N TT hk hd hu hp ret dA uA hin back F' N' B' X' T'
  (try dsimp only at hin)
  replace F' : Fr zY.2.g zY.2.L zY.2.h (fun y => List.lookup y [(Str.ofString "at", Value.int zX.2.2.2.1 zX.2.2.2.2), (Str.ofString "rows", Value.ref zX.1.2.1)]) := F'
  have hS := hp.2.keep fun b o e => hin b o e List.not_mem_nil
  have hA0 := At.keep hp.1 fun b o e => hin b o e List.not_mem_nil
  unfold Stp at hS
  rcases hS with hS | ⟨h1, x, W, c, its, g, e, hW⟩
  · have hA : At zY.2.g [(zX.1.2.1, listOf zX.2.2.1.2.1.toArray zX.2.2.1.2.2), (zX.1.2.2, mkO zX.2.1.1 zX.2.1.2.1 zX.2.1.2.2 b)] := hA0
    clear hA0
    (try dsimp only)
    (try k_fold)
    k_steps
    all_goals (try dsimp only)
    all_goals (try (exfalso; omega))
    all_goals (refine leaveC_of (by assumption) hin back fun kF kept => ?_; try dsimp only)
    all_goals exact ret _ _ _ kF kept (ma_end (h₀ := zY.2.g) hin (by assumption) (by k_dflt k_mem))
  · have hA : At zY.2.g [(zX.1.2.1, listOf zX.2.2.1.2.1.toArray zX.2.2.1.2.2), (zX.1.2.2, mkO zX.2.1.1 zX.2.1.2.1 zX.2.1.2.2 b), (x, hdO W c its)] := ⟨hA0.1, hA0.2.1, e, trivial⟩
    clear e hA0
    (try dsimp only)
    (try k_fold)
    k_steps
    all_goals (try dsimp only)
    all_goals (try (exfalso; omega))
    all_goals (refine leaveC_of (by assumption) hin back fun kF kept => ?_; try dsimp only)
    all_goals exact ret _ _ _ kF kept (ma_end (h₀ := zY.2.g) hin (by assumption) (by k_dflt k_mem))
end ma1_specN
theorem ma1_spec (w kl z mk d a b vs n i ti) : ma1_specN.zP w kl z mk d a b vs n i ti := pk_all (n := ma1_specN.zne) (P := ma1_specN.zQ) ma1_specN.body ((w, kl, z), (mk, d, a), (b, vs, n), (i, ti))
end
section
open N_Ip
abbrev InsF (w : World) (A : Nat → Addr) (S : St) (codes : List Value) (S' : St) (R : List (Addr × Obj)) (vals : List Value) (us : List Row) : Prop :=
  RowsIn w.params (A 11) R vals (us ++ [.ins S.pt (S.pt + codes.length)]) ∧ NotedA (decide (S.sv < S.ti)) S.sv S.nv S'.nv us
    ∧ S'.rs = S.rs ++ vals ∧ S'.zv = S.zv + codes.length ∧ S'.ti = S.ti + 1 ∧ S'.sv = S.sv ∧ S'.bv = S.bv ∧ (S.kvs = [] → S'.pos = S.pos) ∧ S'.kvs = S.kvs ∧ S'.okr = S.okr ∧ 0 ≤ S'.gs ∧ S'.gs ≤ S'.ge ∧ S'.ge ≤ S'.cells.length ∧ (S'.cells.length : Int) ≤ S.cells.length + codes.length + 8
    ∧ txt S'.cells S'.gs S'.ge = (txt S.cells S.gs S.ge).take (S.pt - 1).toNat ++ codes ++ (txt S.cells S.gs S.ge).drop (S.pt - 1).toNat
def Ins2 (w : World) (A : Nat → Addr) (T : Nat → Nat → Tok) (S : St) (codes : List Value) (hs h' : Heap) : Prop :=
  ∃ S' R vals us, At h' (ledL w A T S') ∧ At h' R ∧ (∀ p ∈ R, hs.get? p.1 = none) ∧ InsF w A S codes S' R vals us
theorem RowsIn.ins1 {P : Params} {mk x : Addr} {s e : Int} {a b c : Tok} : RowsIn P mk [(x, insO s e a b c)] [.ref x] [.ins s e] := by
  intro h O A o
  have e' : O x := o (x, insO s e a b c) (List.Mem.head _)
  have g : h.get? x = some (insO s e a b c) := A.1
  exact ⟨⟨x, a, b, c, rfl, e', g⟩, trivial⟩
theorem ins_form {w : World} {A : Nat → Addr} {T : Nat → Nat → Tok} {S : St} {codes : List Value} {hs h : Heap} (H : Ins w A T S codes hs h) : Ins2 w A T S codes hs h := by
  obtain ⟨S', ext, y, a, c, d, A1, p1, p2, p3, p4, p5, no, hy, hy2, q1, q2, q3, q4, r1, r2, r3, r4, r5⟩ := H
  obtain ⟨R1, us, a1, f1, n1, ri⟩ := noted_rows (P := w.params) (mk := A 11) no
  have hb : At h [(y, insO S.pt (S.pt + codes.length) a c d)] := ⟨hy2, trivial⟩
  exact ⟨S', R1 ++ [(y, insO S.pt (S.pt + codes.length) a c d)], ext ++ [.ref y], us, A1, At.both a1 hb, free_both f1 (free_one hy), ri.append RowsIn.ins1, n1, p5, p2, p3, p4, q3, q4, q2, q1, r1, r2, r3, r4, r5⟩
section
variable {w : World} {p : Program} {loose : List Str} {mean : ExcName → Option Value} {mg mb : Str → Option Value} {dp un : Nat} {gd : Option (List Code)} {cn : Str} {cs : Scope} {a₀ : Addr} {ccd : Value} {cl₀ : List (Str × Addr)} {outer : List Env} {A₀ : Around} {base h₀ : Heap} {L : Addr} {m : Str → Option Value} {s : Shared} {Q E : Value → Shared → Prop} {news : List (Addr × Obj)}
theorem insert_use {A : Nat → Addr} {T : Nat → Nat → Tok} {S : St} {cl : Addr} {nk : Nat} {codes : List Value} (B : Below A₀ base outer h₀) (F : Fr h₀ L s.heap m) (X : (KK w.params).In h₀) (N : News h₀ L s.heap news) (T' : Top p loose mean mg mb h₀) (hk : cs.kind = .function)
    (hp : At s.heap (cstL w A T)) (hc0 : s.heap.get? cl = some (listOf codes.toArray nk)) (sub : Subl (ledL w A T S) news) (hd : dp + 120 < recursionLimit) (hu : un + 1200 < cLine)
    (hI : Inj A) (hcl : ∀ i, i < 16 → cl ≠ A i) (hc : (codes.length : Int) ≠ 0) (hc' : codes.length ≤ 1000) (lo : (A 4 == sysModules) = false) (hkr : S.okr.IsDictOf (intKind pw w) S.kvs) (hkv : S.kvs = [] ∨ S.kvs = [(1, .ref (A 11))])
    (hnv : S.nv = .none ∨ ∃ i c, S.nv = .int i c) (h1 : S.rs.length ≤ 400000) (hl : S.rs = [] ∨ ∃ r0, S.rs = r0 ++ [.ref 175]) (h3 : 0 ≤ S.gs) (h4 : S.gs ≤ S.ge) (h5 : S.ge ≤ S.cells.length) (h6 : S.cells.length ≤ 200000) (hz : S.zv = S.cells.length - S.ge + S.gs + 1) (hp1 : 1 ≤ S.pt) (hp2 : S.pt ≤ S.zv)
    (ret : ∀ S' R vals us h' tk', Fr h₀ L h' m → (∀ new, Repl [A 0, A 1, A 2, A 3, A 4, A 5, A 6] (ledL w A T S') news new → News h₀ L h' (new ++ R)) → OffAll A R → InsF w A S codes S' R vals us → Q .none { s with heap := h', toks := tk' }) :
    wpAny (model pw w) (ktrTop dp un gd cn cs L a₀ ccd cl₀ outer) (call (.ref 112) [.ref (A 7), .ref cl]) Q E s := by
  refine spec_use2 (insert_spec w A T S cl nk codes hI hcl hc hc' lo hkr hkv hnv h1 hl h3 h4 h5 h6 hz hp1 hp2) B F X N T' hk ⟨hp, hc0⟩ sub hd hu ?_
  intro x h' tk' F' nb fr kp po
  obtain ⟨rfl, po⟩ := po
  obtain ⟨S', R, vals, us, A', AR, f, po⟩ := ins_form po
  exact ret S' R vals us h' tk' F' (fun new hR => News.append' (nb _ _ A' hR) (free_news N F AR f).1) (fun p hp' => led_pres (fun q hq => N q (sub.mem q hq)) hp (f p hp')) po
end
theorem ip_end {w : World} {A : Nat → Addr} {T : Nat → Nat → Tok} {S S' : St} {codes : List Value} {g s h' : Heap} {L' cx : Addr} {co : Obj} {R : List (Addr × Obj)} {vals : List Value} {us : List Row}
    (hin : ∀ b o, s.get? b = some o → b ∉ (ledL w A T S).map (·.1) → g.get? b = some o) (po : InsF w A S codes S' R vals us) (off : OffAll A R)
    (N : News g L' h' ((cx, co) :: (A 0, dictOf (bufEs w.params (T 0) (T 1) (A 8) (A 9) (A 15) (.ref (A 13)) S'.pt S'.zv S'.ti S'.ct S'.sv S'.up S'.uz S'.ut S'.uc S'.us) 20) :: (A 1, dictOf (gapEs w.params (T 2) (.int 8 (T 2 9)) (.ref (A 2)) S'.gs S'.ge S'.gu S'.gv) 4) :: (A 2, listOf S'.cells.toArray S'.nc) ::
      (A 3, dictOf (mkEs w.params (T 3) S'.adv S'.bv S'.pos S'.um S'.vp) 4) :: (A 4, S'.okr) :: (A 5, dictOf (ulEs w.params (T 4) (A 6) 0 (T 4 9) S'.nv) 5) :: (A 6, listOf S'.rs.toArray S'.n) :: R)) :
    Value.none = .none ∧ Ins2 w A T S codes s h' := by
  have AN := At.of_news N
  refine ⟨rfl, S', R, vals, us, ⟨AN.2.1, AN.2.2.1, AN.2.2.2.1, AN.2.2.2.2.1, AN.2.2.2.2.2.1, AN.2.2.2.2.2.2.1, AN.2.2.2.2.2.2.2.1, trivial⟩, AN.2.2.2.2.2.2.2.2, fun p hp => ?_, po⟩
  refine free_of hin N (List.Mem.tail _ (List.Mem.tail _ (List.Mem.tail _ (List.Mem.tail _ (List.Mem.tail _ (List.Mem.tail _ (List.Mem.tail _ (List.Mem.tail _ hp)))))))) ?_
  have q := off p hp
  exact nm_cons (q 0 (by decide)) (nm_cons (q 1 (by decide)) (nm_cons (q 2 (by decide)) (nm_cons (q 3 (by decide)) (nm_cons (q 4 (by decide)) (nm_cons (q 5 (by decide)) (nm_cons (q 6 (by decide)) List.not_mem_nil))))))
noncomputable abbrev pcL (P : Params) (pc pd cl rn : Addr) (t : Nat → Tok) (codes : List Value) (n : Nat) : List (Addr × Obj) := [(pc, instObj 677 pd), (pd, dictOf (pcEs P t cl rn) 2), (cl, listOf codes.toArray n)]
theorem off7 {A : Nat → Addr} {x : Addr} (h : ∀ i, i < 16 → x ≠ A i) : x ∉ [A 0, A 1, A 2, A 3, A 4, A 5, A 6] :=
  nm_cons (h 0 (by decide)) (nm_cons (h 1 (by decide)) (nm_cons (h 2 (by decide)) (nm_cons (h 3 (by decide)) (nm_cons (h 4 (by decide)) (nm_cons (h 5 (by decide)) (nm_cons (h 6 (by decide)) List.not_mem_nil))))))
namespace ip_specN
abbrev zS (w : World) (A : Nat → Addr) (T : Nat → Nat → Tok) (S : St) (pc pd cl rn : Addr) (t : Nat → Tok) (nk : Nat) (codes : List Value) : Prop := Spec w 160 1600 162 [.ref (A 7), .ref pc] (ledL w A T S) (fun h => At h (cstL w A T) ∧ At h (pcL w.params pc pd cl rn t codes nk)) (fun h x h' => x = .none ∧ Ins2 w A T S codes h h')
def zP (w : World) (A : Nat → Addr) (T : Nat → Nat → Tok) (S : St) (pc pd cl rn : Addr) (t : Nat → Tok) (nk : Nat) (codes : List Value) : Prop := ∀ (hI : Inj A) (hpc : ∀ i, i < 16 → pc ≠ A i) (hpd : ∀ i, i < 16 → pd ≠ A i) (hcl : ∀ i, i < 16 → cl ≠ A i) (hc : (codes.length : Int) ≠ 0) (hc' : codes.length ≤ 1000) (lo : (A 4 == sysModules) = false) (hkr : S.okr.IsDictOf (intKind pw w) S.kvs) (hkv : S.kvs = [] ∨ S.kvs = [(1, .ref (A 11))]) (hnv : S.nv = .none ∨ ∃ i c, S.nv = .int i c) (h1 : S.rs.length ≤ 400000) (hl : S.rs = [] ∨ ∃ r0, S.rs = r0 ++ [.ref 175]) (h3 : 0 ≤ S.gs) (h4 : S.gs ≤ S.ge) (h5 : S.ge ≤ S.cells.length) (h6 : S.cells.length ≤ 200000) (hz : S.zv = S.cells.length - S.ge + S.gs + 1) (hp1 : 1 ≤ S.pt) (hp2 : S.pt ≤ S.zv), zS w A T S pc pd cl rn t nk codes
abbrev zT := (World × (Nat → Addr) × (Nat → Nat → Tok)) × (St × Addr × Addr) × (Addr × Addr × (Nat → Tok)) × (Nat × (List Value))
def zQ (x : zT) : Prop := zP x.1.1 x.1.2.1 x.1.2.2 x.2.1.1 x.2.1.2.1 x.2.1.2.2 x.2.2.1.1 x.2.2.1.2.1 x.2.2.1.2.2 x.2.2.2.1 x.2.2.2.2
theorem zne : Nonempty zT := by k_extra "zne"
def zX : zT := pk zne zQ
def zR : Red2 (zS zX.1.1 zX.1.2.1 zX.1.2.2 zX.2.1.1 zX.2.1.2.1 zX.2.1.2.2 zX.2.2.1.1 zX.2.2.1.2.1 zX.2.2.1.2.2 zX.2.2.2.1 zX.2.2.2.2) SD ED := by k_extra "zRC"
def zY : SD × ED := pk ED.ne fun x => zR.1 x.1 x.2
theorem body : zQ zX := by
  intro hI hpc hpd hcl hc hc' lo hkr hkv hnv h1 hl h3 h4 h5 h6 hz hp1 hp2
  refine zR.2 fun zd ze => pk_all (n := ED.ne) (P := fun x => zR.1 x.1 x.2) ?_ (zd, ze)
  show zR.1 zY.1 zY.2
  delta zR; dsimp only
  intro B F X N TT hk hd hu hp ret cells' dA uA hin back F' N' Y' hcells B' X' T' l1
  (try dsimp only at hin)
  have hA : At zY.2.g [(zX.1.2.1 7, instObj 651 (zX.1.2.1 0)), (zX.1.2.1 8, instObj 400 (zX.1.2.1 1)), (zX.1.2.1 9, instObj 545 (zX.1.2.1 10)), (zX.1.2.1 10, dictOf (ksEs zX.1.1.params (zX.1.2.2 5 0) (zX.1.2.1 4)) 1), (zX.1.2.1 11, instObj 477 (zX.1.2.1 3)), (zX.1.2.1 12, instObj 260 (zX.1.2.1 5)), (zX.1.2.1 13, instObj 717 (zX.1.2.1 14)), (zX.1.2.1 14, dictOf (rcEs zX.1.1.params (zX.1.2.2 5 1) (zX.1.2.1 12)) 1), (zX.1.2.1 15, listOf #[] 0), (zX.2.1.2.1, instObj 677 zX.2.1.2.2), (zX.2.1.2.2, dictOf (pcEs zX.1.1.params zX.2.2.1.2.2 zX.2.2.1.1 zX.2.2.1.2.1) 2), (zX.2.2.1.1, listOf zX.2.2.2.2.toArray zX.2.2.2.1)] :=
    At.append (cst_into hI hin hp.1) ⟨hin _ _ hp.2.1 (off7 hpc), hin _ _ hp.2.2.1 (off7 hpd), hin _ _ hp.2.2.2.1 (off7 hcl), trivial⟩
  k_cells Y'
  have hcA : ∀ i, i < 16 → zY.2.L + 1 ≠ zX.1.2.1 i := led_pres N hp.1 (hcells _ (.head _))
  clear hcells l1
  dsimp only [ledL, List.cons_append, List.nil_append] at N'
  (try dsimp only)
  (try k_fold)
  k_steps
  all_goals (try dsimp only)
  all_goals (try contradiction)
  all_goals (try (exfalso; omega))
  all_goals (refine leaveC_of (by assumption) hin back fun kF kept => ?_; try dsimp only)
  all_goals exact ret _ _ _ kF kept (ip_end hin (by assumption) (by assumption) (by assumption))
end ip_specN
theorem ip_spec (w A T S pc pd cl rn t nk codes) : ip_specN.zP w A T S pc pd cl rn t nk codes := pk_all (n := ip_specN.zne) (P := ip_specN.zQ) ip_specN.body ((w, A, T), (S, pc, pd), (cl, rn, t), (nk, codes))
end
section
open N_Go
namespace vis_specN
abbrev zS (w : World) (b bd g k li : Addr) (tb ub : Nat → Tok) (uv : Value) (pt zv ti ct sv : Int) (up uz ut uc us : Tok) (a c : Int) (ta tc : Tok) : Prop := Spec w 20 200 278 [.ref b, .int a ta, .int c tc] [] (fun h => At h [(b, instObj 651 bd), (bd, dictOf (bufEs w.params tb ub g k li uv pt zv ti ct sv up uz ut uc us) 20)]) (fun h x h' => x = .none)
def zP (w : World) (b bd g k li : Addr) (tb ub : Nat → Tok) (uv : Value) (pt zv ti ct sv : Int) (up uz ut uc us : Tok) (a c : Int) (ta tc : Tok) : Prop := ∀ (h0 : 1 ≤ a) (h2 : c ≤ zv), zS w b bd g k li tb ub uv pt zv ti ct sv up uz ut uc us a c ta tc
abbrev zT := (World × Addr × Addr × Addr × Addr) × (Addr × (Nat → Tok) × (Nat → Tok) × Value × Int) × (Int × Int × Int × Int × Tok) × (Tok × Tok × Tok × Tok × Int) × (Int × Tok × Tok)
def zQ (x : zT) : Prop := zP x.1.1 x.1.2.1 x.1.2.2.1 x.1.2.2.2.1 x.1.2.2.2.2 x.2.1.1 x.2.1.2.1 x.2.1.2.2.1 x.2.1.2.2.2.1 x.2.1.2.2.2.2 x.2.2.1.1 x.2.2.1.2.1 x.2.2.1.2.2.1 x.2.2.1.2.2.2.1 x.2.2.1.2.2.2.2 x.2.2.2.1.1 x.2.2.2.1.2.1 x.2.2.2.1.2.2.1 x.2.2.2.1.2.2.2.1 x.2.2.2.1.2.2.2.2 x.2.2.2.2.1 x.2.2.2.2.2.1 x.2.2.2.2.2.2
theorem zne : Nonempty zT := by k_extra "zne"
def zX : zT := pk zne zQ
def b := zX.1.2.1
def zR : Red2 (zS zX.1.1 b zX.1.2.2.1 zX.1.2.2.2.1 zX.1.2.2.2.2 zX.2.1.1 zX.2.1.2.1 zX.2.1.2.2.1 zX.2.1.2.2.2.1 zX.2.1.2.2.2.2 zX.2.2.1.1 zX.2.2.1.2.1 zX.2.2.1.2.2.1 zX.2.2.1.2.2.2.1 zX.2.2.1.2.2.2.2 zX.2.2.2.1.1 zX.2.2.2.1.2.1 zX.2.2.2.1.2.2.1 zX.2.2.2.1.2.2.2.1 zX.2.2.2.1.2.2.2.2 zX.2.2.2.2.1 zX.2.2.2.2.2.1 zX.2.2.2.2.2.2) SD ED := by k_extra "zR"
def zY : SD × ED := pk ED.ne fun x => zR.1 x.1 x.2
theorem body : zP zX.1.1 b zX.1.2.2.1 zX.1.2.2.2.1 zX.1.2.2.2.2 zX.2.1.1 zX.2.1.2.1 zX.2.1.2.2.1 zX.2.1.2.2.2.1 zX.2.1.2.2.2.2 zX.2.2.1.1 zX.2.2.1.2.1 zX.2.2.1.2.2.1 zX.2.2.1.2.2.2.1 zX.2.2.1.2.2.2.2 zX.2.2.2.1.1 zX.2.2.2.1.2.1 zX.2.2.2.1.2.2.1 zX.2.2.2.1.2.2.2.1 zX.2.2.2.1.2.2.2.2 zX.2.2.2.2.1 zX.2.2.2.2.2.1 zX.2.2.2.2.2.2 := by
  intro h0 h2
  refine zR.2 fun zd ze => pk_all (n := ED.ne) (P := fun x => zR.1 x.1 x.2) ?_ (zd, ze)
  show zR.1 zY.1 zY.2
  delta zR; dsimp only
  delta BodyAt; dsimp only
  intro B F X N TT hk hd hu hp ret dA uA hin back F' N' B' X' T'
  (try dsimp only at hin)
  have hA := At.keep hp fun b o e => hin b o e List.not_mem_nil
  replace F' : Fr zY.2.g zY.2.L zY.2.h (fun y => List.lookup y [(Str.ofString "end", Value.int zX.2.2.2.2.1 zX.2.2.2.2.2.2), (Str.ofString "start", Value.int zX.2.2.2.1.2.2.2.2 zX.2.2.2.2.2.1), (Str.ofString "buffer", Value.ref b)]) := F'
  (try dsimp only)
  (try k_fold)
  k_steps
  all_goals (try dsimp only)
  all_goals (try contradiction)
  all_goals (try (exfalso; omega))
  all_goals (refine leaveC_of (by assumption) hin back fun kF kept => ?_; try dsimp only)
  all_goals exact ret _ _ _ kF kept rfl
end vis_specN
theorem vis_spec (w b bd g k li tb ub uv pt zv ti ct sv up uz ut uc us a c ta tc) : vis_specN.zP w b bd g k li tb ub uv pt zv ti ct sv up uz ut uc us a c ta tc := pk_all (n := vis_specN.zne) (P := vis_specN.zQ) vis_specN.body ((w, b, bd, g, k), (li, tb, ub, uv, pt), (zv, ti, ct, sv, up), (uz, ut, uc, us, a), (c, ta, tc))
theorem go_end {w : World} {h₀ h : Heap} {L b bd g k li : Addr} {tb ub : Nat → Tok} {uv : Value} {pt zv ti ct sv a x y : Int} {up uz ut uc us v : Tok} {news : List (Addr × Obj)} (N : News h₀ L h news) (hm : (bd, dictOf (bufEs w.params tb ub g k li uv x zv ti ct sv up uz ut uc us) 20) ∈ news) (e : x = a) (e' : y = a) :
    ∃ t up', Value.int y v = .int a t ∧ At h [(bd, dictOf (bufEs w.params tb ub g k li uv a zv ti ct sv up' uz ut uc us) 20)] := by
  subst e e'
  exact ⟨v, up, rfl, (N _ hm).1, trivial⟩
namespace goto_specN
abbrev zS (w : World) (b bd g k li : Addr) (tb ub : Nat → Tok) (uv : Value) (pt zv ti ct sv : Int) (up uz ut uc us : Tok) (a : Int) (ta : Tok) : Prop := Spec w 20 200 620 [.ref b, .int a ta] [(bd, dictOf (bufEs w.params tb ub g k li uv pt zv ti ct sv up uz ut uc us) 20)] (fun h => At h [(b, instObj 651 bd)]) (fun h x h' => ∃ t up', x = .int a t ∧ At h' [(bd, dictOf (bufEs w.params tb ub g k li uv a zv ti ct sv up' uz ut uc us) 20)])
def zP (w : World) (b bd g k li : Addr) (tb ub : Nat → Tok) (uv : Value) (pt zv ti ct sv : Int) (up uz ut uc us : Tok) (a : Int) (ta : Tok) : Prop := ∀ (h0 : 1 ≤ a) (h2 : a ≤ zv), zS w b bd g k li tb ub uv pt zv ti ct sv up uz ut uc us a ta
abbrev zT := (World × Addr × Addr × Addr × Addr) × (Addr × (Nat → Tok) × (Nat → Tok) × Value × Int) × (Int × Int × Int × Int × Tok) × (Tok × Tok × Tok × Tok × Int) × Tok
def zQ (x : zT) : Prop := zP x.1.1 x.1.2.1 x.1.2.2.1 x.1.2.2.2.1 x.1.2.2.2.2 x.2.1.1 x.2.1.2.1 x.2.1.2.2.1 x.2.1.2.2.2.1 x.2.1.2.2.2.2 x.2.2.1.1 x.2.2.1.2.1 x.2.2.1.2.2.1 x.2.2.1.2.2.2.1 x.2.2.1.2.2.2.2 x.2.2.2.1.1 x.2.2.2.1.2.1 x.2.2.2.1.2.2.1 x.2.2.2.1.2.2.2.1 x.2.2.2.1.2.2.2.2 x.2.2.2.2
theorem zne : Nonempty zT := by k_extra "zne"
def zX : zT := pk zne zQ
def zR : Red2 (zS zX.1.1 zX.1.2.1 zX.1.2.2.1 zX.1.2.2.2.1 zX.1.2.2.2.2 zX.2.1.1 zX.2.1.2.1 zX.2.1.2.2.1 zX.2.1.2.2.2.1 zX.2.1.2.2.2.2 zX.2.2.1.1 zX.2.2.1.2.1 zX.2.2.1.2.2.1 zX.2.2.1.2.2.2.1 zX.2.2.1.2.2.2.2 zX.2.2.2.1.1 zX.2.2.2.1.2.1 zX.2.2.2.1.2.2.1 zX.2.2.2.1.2.2.2.1 zX.2.2.2.1.2.2.2.2 zX.2.2.2.2) SD ED := by k_extra "zR"
def zY : SD × ED := pk ED.ne fun x => zR.1 x.1 x.2
theorem body : zQ zX := by
  intro h0 h2
  refine zR.2 fun zd ze => pk_all (n := ED.ne) (P := fun x => zR.1 x.1 x.2) ?_ (zd, ze)
  show zR.1 zY.1 zY.2
  delta zR; dsimp only
  delta BodyAt; dsimp only
  intro B F X N TT hk hd hu hp ret dA uA hin back F' N' B' X' T'
  (try dsimp only at hin)
  have c1 : zX.1.2.1 ≠ zX.1.2.2.1 := ne_of_kind hp.1 (N _ (.head _)).1 rfl
  have hA : At zY.2.g [(zX.1.2.1, instObj 651 zX.1.2.2.1)] := ⟨hin _ _ hp.1 (nm_cons c1 List.not_mem_nil), trivial⟩
  replace F' : Fr zY.2.g zY.2.L zY.2.h (fun y => List.lookup y [(Str.ofString "place", Value.int zX.2.2.2.1.2.2.2.2 zX.2.2.2.2), (Str.ofString "self", Value.ref zX.1.2.1)]) := F'
  (try dsimp only)
  (try k_fold)
  k_steps
  all_goals (try dsimp only)
  all_goals (try contradiction)
  all_goals (try (exfalso; omega))
  all_goals (refine leaveC_of (by assumption) hin back fun kF kept => ?_; try dsimp only)
  all_goals exact ret _ _ _ kF kept (go_end (pt := zX.2.1.2.2.2.2) (k := zX.1.2.2.2.2) (b := zX.1.2.1) (by assumption) (by k_dflt k_mem) (by (repeat' split) <;> omega) (by (repeat' split) <;> omega))
end goto_specN
theorem goto_spec (w b bd g k li tb ub uv pt zv ti ct sv up uz ut uc us a ta) : goto_specN.zP w b bd g k li tb ub uv pt zv ti ct sv up uz ut uc us a ta := pk_all (n := goto_specN.zne) (P := goto_specN.zQ) goto_specN.body ((w, b, bd, g, k), (li, tb, ub, uv, pt), (zv, ti, ct, sv, up), (uz, ut, uc, us, a), ta)
noncomputable abbrev ledP (w : World) (A : Nat → Addr) (T : Nat → Nat → Tok) (S : St) (pt : Int) (up : Tok) : List (Addr × Obj) :=
  [(A 0, dictOf (bufEs w.params (T 0) (T 1) (A 8) (A 9) (A 15) (.ref (A 13)) pt S.zv S.ti S.ct S.sv up S.uz S.ut S.uc S.us) 20),
   (A 1, dictOf (gapEs w.params (T 2) (.int 8 (T 2 9)) (.ref (A 2)) S.gs S.ge S.gu S.gv) 4), (A 2, listOf S.cells.toArray S.nc),
   (A 3, dictOf (mkEs w.params (T 3) S.adv S.bv S.pos S.um S.vp) 4), (A 4, S.okr),
   (A 5, dictOf (ulEs w.params (T 4) (A 6) 0 (T 4 9) S.nv) 5), (A 6, listOf S.rs.toArray S.n)]
section
variable {w : World} {p : Program} {loose : List Str} {mean : ExcName → Option Value} {mg mb : Str → Option Value} {dp un : Nat} {gd : Option (List Code)} {cn : Str} {cs : Scope} {a₀ : Addr} {ccd : Value} {cl₀ : List (Str × Addr)} {outer : List Env} {A₀ : Around} {base h₀ : Heap} {L : Addr} {m : Str → Option Value} {s : Shared} {Q E : Value → Shared → Prop} {news : List (Addr × Obj)}
theorem goto_use {b bd g k li : Addr} {tb ub : Nat → Tok} {uv : Value} {pt zv ti ct sv : Int} {up uz ut uc us : Tok} {a : Int} {ta : Tok} (B : Below A₀ base outer h₀) (F : Fr h₀ L s.heap m) (X : (KK w.params).In h₀) (N : News h₀ L s.heap news) (T' : Top p loose mean mg mb h₀) (hk : cs.kind = .function)
    (hp : s.heap.get? b = some (instObj 651 bd)) (sub : (bd, dictOf (bufEs w.params tb ub g k li uv pt zv ti ct sv up uz ut uc us) 20) ∈ news) (hd : dp + 20 < recursionLimit) (hu : un + 200 < cLine) (h0 : 1 ≤ a) (h2 : a ≤ zv)
    (ret : ∀ t up' h' tk', Fr h₀ L h' m → (∀ new, Repl [bd] [(bd, dictOf (bufEs w.params tb ub g k li uv a zv ti ct sv up' uz ut uc us) 20)] news new → News h₀ L h' new) → Q (.int a t) { s with heap := h', toks := tk' }) :
    wpAny (model pw w) (ktrTop dp un gd cn cs L a₀ ccd cl₀ outer) (call (.ref 620) [.ref b, .int a ta]) Q E s := by
  refine spec_use2 (goto_spec w b bd g k li tb ub uv pt zv ti ct sv up uz ut uc us a ta h0 h2) B F X N T' hk ⟨hp, trivial⟩ ⟨sub, trivial⟩ hd hu ?_
  intro x h' tk' F' nb fr kp po
  obtain ⟨t, up', rfl, A'⟩ := po
  exact ret t up' h' tk' F' (fun new R => nb _ _ A' R)
theorem delete_use {A : Nat → Addr} {T : Nat → Nat → Tok} {S : St} {t1 t2 up : Tok} {st e pt : Int} (B : Below A₀ base outer h₀) (F : Fr h₀ L s.heap m) (X : (KK w.params).In h₀) (N : News h₀ L s.heap news) (T' : Top p loose mean mg mb h₀) (hk : cs.kind = .function)
    (hp : At s.heap (cstL w A T)) (sub : Subl (ledP w A T S pt up) news) (hd : dp + 200 < recursionLimit) (hu : un + 2000 < cLine)
    (hI : Inj A) (lo : (A 4 == sysModules) = false) (hkr : S.okr.IsDictOf (intKind pw w) S.kvs) (hkv : S.kvs = [] ∨ S.kvs = [(1, .ref (A 11))])
    (hnv : S.nv = .none ∨ ∃ i c, S.nv = .int i c) (h1 : S.rs.length ≤ 400000) (hl : S.rs = [] ∨ ∃ r0, S.rs = r0 ++ [.ref 175]) (h3 : 0 ≤ S.gs) (h4 : S.gs ≤ S.ge) (h5 : S.ge ≤ S.cells.length) (h6 : S.cells.length ≤ 200000) (hz : S.zv = S.cells.length - S.ge + S.gs + 1) (h0 : 1 ≤ st) (hse : st < e) (he : e ≤ S.zv)
    (ret : ∀ d S' R vals us ms h' tk', Fr h₀ L h' m → (∀ new, Repl [A 0, A 1, A 2, A 3, A 4, A 5, A 6] (ledL w A T S') news new → News h₀ L h' (new ++ R)) → OffAll A R → DelF w A S st e S' R vals us ms → Q (.ref d) { s with heap := h', toks := tk' }) :
    wpAny (model pw w) (ktrTop dp un gd cn cs L a₀ ccd cl₀ outer) (call (.ref 119) [.ref (A 7), .int st t1, .int e t2]) Q E s := by
  have hlen : ((cut S st e).length : Int) = e - st := by
    have := txt_len h3 h4 h5
    rw [cut, List.length_take, List.length_drop]; exact (cut_len (by omega) (by omega) (by omega)).trans (by omega)
  have q1 : (cut S st e).length ≤ 400000 := by omega
  have q2 : ((cut S st e).length : Int) ≠ 0 := by omega
  have q0 : st ≤ e := by omega
  have q3 : e ≤ S.cells.length - S.ge + S.gs + 1 := by omega
  refine spec_use2 (delete_spec w A T { S with pt := pt, up := up } t1 t2 st e hI lo hkr hkv hnv h1 hl h3 h4 h5 h6 hz h0 hse q0 he q3 q1 q2) B F X N T' hk hp sub hd hu ?_
  intro x h' tk' F' nb fr kp po
  obtain ⟨d, rfl, S', R, vals, us, ms, A', AR, f, po⟩ := po
  exact ret d S' R vals us ms h' tk' F' (fun new hR => News.append' (nb _ _ A' hR) (free_news N F AR f).1) (fun p hp' => led_pres (S := { S with pt := pt, up := up }) (fun q hq => N q (sub.mem q hq)) hp (f p hp')) po
theorem ip_use {A : Nat → Addr} {T : Nat → Nat → Tok} {S : St} {pc pd cl rn : Addr} {t : Nat → Tok} {nk : Nat} {codes : List Value} {pt : Int} {up : Tok} (B : Below A₀ base outer h₀) (F : Fr h₀ L s.heap m) (X : (KK w.params).In h₀) (N : News h₀ L s.heap news) (T' : Top p loose mean mg mb h₀) (hk : cs.kind = .function)
    (hp : At s.heap (cstL w A T)) (hpp : At s.heap (pcL w.params pc pd cl rn t codes nk)) (sub : Subl (ledP w A T S pt up) news) (hd : dp + 160 < recursionLimit) (hu : un + 1600 < cLine)
    (hI : Inj A) (hpc : ∀ i, i < 16 → pc ≠ A i) (hpd : ∀ i, i < 16 → pd ≠ A i) (hcl : ∀ i, i < 16 → cl ≠ A i) (hc : (codes.length : Int) ≠ 0) (hc' : codes.length ≤ 1000) (lo : (A 4 == sysModules) = false) (hkr : S.okr.IsDictOf (intKind pw w) S.kvs) (hkv : S.kvs = [] ∨ S.kvs = [(1, .ref (A 11))])
    (hnv : S.nv = .none ∨ ∃ i c, S.nv = .int i c) (h1 : S.rs.length ≤ 400000) (hl : S.rs = [] ∨ ∃ r0, S.rs = r0 ++ [.ref 175]) (h3 : 0 ≤ S.gs) (h4 : S.gs ≤ S.ge) (h5 : S.ge ≤ S.cells.length) (h6 : S.cells.length ≤ 200000) (hz : S.zv = S.cells.length - S.ge + S.gs + 1) (hp1 : 1 ≤ pt) (hp2 : pt ≤ S.zv)
    (ret : ∀ S' R vals us h' tk', Fr h₀ L h' m → (∀ new, Repl [A 0, A 1, A 2, A 3, A 4, A 5, A 6] (ledL w A T S') news new → News h₀ L h' (new ++ R)) → OffAll A R → InsF w A { S with pt := pt, up := up } codes S' R vals us → Q .none { s with heap := h', toks := tk' }) :
    wpAny (model pw w) (ktrTop dp un gd cn cs L a₀ ccd cl₀ outer) (call (.ref 162) [.ref (A 7), .ref pc]) Q E s := by
  refine spec_use2 (ip_spec w A T { S with pt := pt, up := up } pc pd cl rn t nk codes hI hpc hpd hcl hc hc' lo hkr hkv hnv h1 hl h3 h4 h5 h6 hz hp1 hp2) B F X N T' hk ⟨hp, hpp⟩ sub hd hu ?_
  intro x h' tk' F' nb fr kp po
  obtain ⟨rfl, S', R, vals, us, A', AR, f, po⟩ := po
  exact ret S' R vals us h' tk' F' (fun new hR => News.append' (nb _ _ A' hR) (free_news N F AR f).1) (fun p hp' => led_pres (S := { S with pt := pt, up := up }) (fun q hq => N q (sub.mem q hq)) hp (f p hp')) po
end
end
section
open N_Ur
theorem uri_end {w : World} {A : Nat → Addr} {T : Nat → Nat → Tok} {S S' : St} {st e j : Int} {tj : Tok} {g s h' : Heap} {L' : Addr} {R : List (Addr × Obj)} {vals : List Value} {us ms : List Row}
    (hin : ∀ b o, s.get? b = some o → b ∉ (ledL w A T S).map (·.1) → g.get? b = some o) (po : DelF w A S st e S' R vals us ms) (off : OffAll A R)
    (N : News g L' h' ((A 0, dictOf (bufEs w.params (T 0) (T 1) (A 8) (A 9) (A 15) (.ref (A 13)) S'.pt S'.zv S'.ti S'.ct S'.sv S'.up S'.uz S'.ut S'.uc S'.us) 20) :: (A 1, dictOf (gapEs w.params (T 2) (.int 8 (T 2 9)) (.ref (A 2)) S'.gs S'.ge S'.gu S'.gv) 4) :: (A 2, listOf S'.cells.toArray S'.nc) ::
      (A 3, dictOf (mkEs w.params (T 3) S'.adv S'.bv S'.pos S'.um S'.vp) 4) :: (A 4, S'.okr) :: (A 5, dictOf (ulEs w.params (T 4) (A 6) 0 (T 4 9) S'.nv) 5) :: (A 6, listOf S'.rs.toArray S'.n) :: R)) :
    ∃ t, Value.int j tj = .int j t ∧ Del w A T S st e s h' := by
  have AN := At.of_news N
  refine ⟨tj, rfl, S', R, vals, us, ms, ⟨AN.1, AN.2.1, AN.2.2.1, AN.2.2.2.1, AN.2.2.2.2.1, AN.2.2.2.2.2.1, AN.2.2.2.2.2.2.1, trivial⟩, AN.2.2.2.2.2.2.2, fun p hp => ?_, po⟩
  exact free_of hin N (List.Mem.tail _ (List.Mem.tail _ (List.Mem.tail _ (List.Mem.tail _ (List.Mem.tail _ (List.Mem.tail _ (List.Mem.tail _ hp))))))) (off7 (off p hp))
namespace uri_specN
abbrev zS (w : World) (A : Nat → Addr) (T : Nat → Nat → Tok) (S : St) (kl x : Addr) (vs : List Value) (n : Nat) (i st e : Int) (ti a b c : Tok) : Prop := Spec w 300 3000 306 [.ref (A 7), .ref kl, .int i ti] (ledL w A T S) (fun h => At h (cstL w A T) ∧ At h [(kl, listOf vs.toArray n), (x, insO st e a b c)]) (fun h v h' => ∃ t, v = .int (i - 1) t ∧ Del w A T S st e h h')
def zP (w : World) (A : Nat → Addr) (T : Nat → Nat → Tok) (S : St) (kl x : Addr) (vs : List Value) (n : Nat) (i st e : Int) (ti a b c : Tok) : Prop := ∀ (hI : Inj A) (hkl : ∀ i, i < 16 → kl ≠ A i) (hx : ∀ i, i < 16 → x ≠ A i) (hi : 1 ≤ i) (hi' : i ≤ 400000) (g1 : vs[(i - 1).toNat]? = some (.ref x)) (lo : (A 4 == sysModules) = false) (hkr : S.okr.IsDictOf (intKind pw w) S.kvs) (hkv : S.kvs = [] ∨ S.kvs = [(1, .ref (A 11))]) (hnv : S.nv = .none ∨ ∃ i c, S.nv = .int i c) (h1 : S.rs.length ≤ 400000) (hl : S.rs = [] ∨ ∃ r0, S.rs = r0 ++ [.ref 175]) (h3 : 0 ≤ S.gs) (h4 : S.gs ≤ S.ge) (h5 : S.ge ≤ S.cells.length) (h6 : S.cells.length ≤ 200000) (hz : S.zv = S.cells.length - S.ge + S.gs + 1) (h0 : 1 ≤ st) (hse : st < e) (he : e ≤ S.zv), zS w A T S kl x vs n i st e ti a b c
abbrev zT := (World × (Nat → Addr) × (Nat → Nat → Tok) × St) × (Addr × Addr × (List Value) × Nat) × (Int × Int × Int × Tok) × (Tok × Tok × Tok)
def zQ (x : zT) : Prop := zP x.1.1 x.1.2.1 x.1.2.2.1 x.1.2.2.2 x.2.1.1 x.2.1.2.1 x.2.1.2.2.1 x.2.1.2.2.2 x.2.2.1.1 x.2.2.1.2.1 x.2.2.1.2.2.1 x.2.2.1.2.2.2 x.2.2.2.1 x.2.2.2.2.1 x.2.2.2.2.2
theorem zne : Nonempty zT := by k_extra "zne"
def zX : zT := pk zne zQ
def zR : Red2 (zS zX.1.1 zX.1.2.1 zX.1.2.2.1 zX.1.2.2.2 zX.2.1.1 zX.2.1.2.1 zX.2.1.2.2.1 zX.2.1.2.2.2 zX.2.2.1.1 zX.2.2.1.2.1 zX.2.2.1.2.2.1 zX.2.2.1.2.2.2 zX.2.2.2.1 zX.2.2.2.2.1 zX.2.2.2.2.2) SD ED := by k_extra "zR"
def zY : SD × ED := pk ED.ne fun x => zR.1 x.1 x.2
theorem body : zQ zX := by
  intro hI hkl hx hi hi' g1 lo hkr hkv hnv h1 hl h3 h4 h5 h6 hz h0 hse he
  refine zR.2 fun zd ze => pk_all (n := ED.ne) (P := fun x => zR.1 x.1 x.2) ?_ (zd, ze)
  show zR.1 zY.1 zY.2
  delta zR; dsimp only
  delta BodyAt; dsimp only
  intro B F X N TT hk hd hu hp ret dA uA hin back F' N' B' X' T'
  (try dsimp only at hin)
  have hA : At zY.2.g [(zX.1.2.1 7, instObj 651 (zX.1.2.1 0)), (zX.1.2.1 8, instObj 400 (zX.1.2.1 1)), (zX.1.2.1 9, instObj 545 (zX.1.2.1 10)), (zX.1.2.1 10, dictOf (ksEs zX.1.1.params (zX.1.2.2.1 5 0) (zX.1.2.1 4)) 1), (zX.1.2.1 11, instObj 477 (zX.1.2.1 3)), (zX.1.2.1 12, instObj 260 (zX.1.2.1 5)), (zX.1.2.1 13, instObj 717 (zX.1.2.1 14)), (zX.1.2.1 14, dictOf (rcEs zX.1.1.params (zX.1.2.2.1 5 1) (zX.1.2.1 12)) 1), (zX.1.2.1 15, listOf #[] 0), (zX.2.1.1, listOf zX.2.1.2.2.1.toArray zX.2.1.2.2.2), (zX.2.1.2.1, insO zX.2.2.1.2.1 zX.2.2.1.2.2.1 zX.2.2.2.1 zX.2.2.2.2.1 zX.2.2.2.2.2)] :=
    At.append (cst_into hI hin hp.1) ⟨hin _ _ hp.2.1 (off7 hkl), hin _ _ hp.2.2.1 (off7 hx), trivial⟩
  replace F' : Fr zY.2.g zY.2.L zY.2.h (fun y => List.lookup y [(Str.ofString "at", Value.int zX.2.2.1.1 zX.2.2.1.2.2.2), (Str.ofString "rows", Value.ref zX.2.1.1), (Str.ofString "buffer", Value.ref (zX.1.2.1 7))]) := F'
  dsimp only [ledL] at N'
  (try dsimp only)
  (try k_fold)
  k_steps
  all_goals (try dsimp only)
  all_goals (try contradiction)
  all_goals (try (exfalso; omega))
  all_goals (refine leaveC_of (by assumption) hin back fun kF kept => ?_; try dsimp only)
  all_goals exact ret _ _ _ kF kept (uri_end hin (by assumption) (by assumption) (by assumption))
end uri_specN
theorem uri_spec (w A T S kl x vs n i st e ti a b c) : uri_specN.zP w A T S kl x vs n i st e ti a b c := pk_all (n := uri_specN.zne) (P := uri_specN.zQ) uri_specN.body ((w, A, T, S), (kl, x, vs, n), (i, st, e, ti), (a, b, c))
end
section
open N_Ux
section
variable {w : World} {p : Program} {loose : List Str} {mean : ExcName → Option Value} {mg mb : Str → Option Value} {dp un : Nat} {gd : Option (List Code)} {cn : Str} {cs : Scope} {a₀ : Addr} {ccd : Value} {cl₀ : List (Str × Addr)} {outer : List Env} {A₀ : Around} {base h₀ : Heap} {L : Addr} {m : Str → Option Value} {s : Shared} {Q E : Value → Shared → Prop} {news : List (Addr × Obj)}
theorem ma0_use {kl : Addr} {vs : List Value} {n : Nat} {i : Int} {ti : Tok} (B : Below A₀ base outer h₀) (F : Fr h₀ L s.heap m) (X : (KK w.params).In h₀) (N : News h₀ L s.heap news) (T' : Top p loose mean mg mb h₀) (hk : cs.kind = .function)
    (hs : Stp h₀ vs (Str.ofString "marker") i) (hp : s.heap.get? kl = some (listOf vs.toArray n)) (hd : dp + 40 < recursionLimit) (hu : un + 400 < cLine) (hi : 0 ≤ i) (hi' : i ≤ 400000)
    (ret : ∀ d k h' tk', Fr h₀ L h' m → News h₀ L h' ((d, listOf ([] : List Value).toArray k) :: news) → NeAll d news → Q (.ref d) { s with heap := h', toks := tk' }) :
    wpAny (model pw w) (ktrTop dp un gd cn cs L a₀ ccd cl₀ outer) (call (.ref 285) [.ref kl, .int i ti]) Q E s := by
  refine spec_use2 (ma0_spec w kl vs n i ti hi hi') B F X N T' hk ⟨⟨hp, trivial⟩, hs.keep F.keep⟩ trivial hd hu ?_
  intro x h' tk' F' nb fr kp po
  obtain ⟨d, k, rfl, hx, hx2⟩ := po
  exact ret d k h' tk' F' (News.cons' (fr _ _ hx hx2).1 (fr _ _ hx hx2).2.1 (nb [] _ At.nil Repl.all0)) (fr _ _ hx hx2).2.2
theorem ma1_use {kl z mk : Addr} {d : Int} {a b : Tok} {vs : List Value} {n : Nat} {i : Int} {ti : Tok} (B : Below A₀ base outer h₀) (F : Fr h₀ L s.heap m) (X : (KK w.params).In h₀) (N : News h₀ L s.heap news) (T' : Top p loose mean mg mb h₀) (hk : cs.kind = .function)
    (hs : Stp h₀ vs (Str.ofString "marker") (i - 1)) (hp : s.heap.get? kl = some (listOf vs.toArray n)) (hp2 : s.heap.get? z = some (mkO mk d a b)) (g1 : vs[(i - 1).toNat]? = some (.ref z)) (hd : dp + 40 < recursionLimit) (hu : un + 400 < cLine) (hi : 1 ≤ i) (hi' : i ≤ 400000)
    (ret : ∀ d k h' tk', Fr h₀ L h' m → News h₀ L h' ((d, listOf [Value.ref z].toArray k) :: news) → NeAll d news → Q (.ref d) { s with heap := h', toks := tk' }) :
    wpAny (model pw w) (ktrTop dp un gd cn cs L a₀ ccd cl₀ outer) (call (.ref 285) [.ref kl, .int i ti]) Q E s := by
  refine spec_use2 (ma1_spec w kl z mk d a b vs n i ti hi hi' g1) B F X N T' hk ⟨⟨hp, hp2, trivial⟩, hs.keep F.keep⟩ trivial hd hu ?_
  intro x h' tk' F' nb fr kp po
  obtain ⟨d, k, rfl, hx, hx2⟩ := po
  exact ret d k h' tk' F' (News.cons' (fr _ _ hx hx2).1 (fr _ _ hx hx2).2.1 (nb [] _ At.nil Repl.all0)) (fr _ _ hx hx2).2.2
end
theorem iter_Z {prog : Program} {w : World} {A : Around} {E : Value → Shared → Prop} {s : Shared} {env : Env} {target : PySem.Expr} {body : List Stmt} {Q : Flow → Shared → Prop} {h₀ : Heap} {ax : Addr} {k : Nat} {m₀ : Str → Option Value} {news : List (Addr × Obj)}
    (hh : A.handled = none) (F : Fr h₀ env.locals s.heap m₀) (N : News h₀ env.locals s.heap news) (hm : (ax, listOf #[] k) ∈ news) (h : ∀ h tk, Fr h₀ env.locals h m₀ → News h₀ env.locals h news → Q .next { s with heap := h, toks := tk }) :
    wpAny (model prog w) A (pyIter (.ref ax)) (fun it s₂ => TurnsAt prog w A h₀ env target body Q E it s₂) E s :=
  iter_listTurns (vs := []) hh F N hm rfl rfl fun I _ => ItemsRest.zero h
theorem urd_end {w : World} {A : Nat → Addr} {T : Nat → Nat → Tok} {S S' : St} {st pt j j' : Int} {up up' tj : Tok} {codes : List Value} {g s h' : Heap} {L' : Addr} {R news : List (Addr × Obj)} {vals : List Value} {us : List Row}
    (hin : ∀ b o, s.get? b = some o → b ∉ (ledL w A T S).map (·.1) → g.get? b = some o) (po : InsF w A { S with pt := st, up := up } codes S' R vals us) (off : OffAll A R) (ej : j = j') (N : News g L' h' news)
    (m0 : (A 0, dictOf (bufEs w.params (T 0) (T 1) (A 8) (A 9) (A 15) (.ref (A 13)) pt S'.zv S'.ti S'.ct S'.sv up' S'.uz S'.ut S'.uc S'.us) 20) ∈ news) (m1 : (A 1, dictOf (gapEs w.params (T 2) (.int 8 (T 2 9)) (.ref (A 2)) S'.gs S'.ge S'.gu S'.gv) 4) ∈ news) (m2 : (A 2, listOf S'.cells.toArray S'.nc) ∈ news)
    (m3 : (A 3, dictOf (mkEs w.params (T 3) S'.adv S'.bv S'.pos S'.um S'.vp) 4) ∈ news) (m4 : (A 4, S'.okr) ∈ news) (m5 : (A 5, dictOf (ulEs w.params (T 4) (A 6) 0 (T 4 9) S'.nv) 5) ∈ news) (m6 : (A 6, listOf S'.rs.toArray S'.n) ∈ news) (mR : ∀ p ∈ R, p ∈ news) :
    ∃ k t, Value.int j tj = .int k t ∧ k = j' ∧ ∃ up, Ins2 w A T { S with pt := st, up := up } codes s h' := by
  refine ⟨j, tj, rfl, ej, up, { S' with pt := pt, up := up' }, R, vals, us, ⟨(N _ m0).1, (N _ m1).1, (N _ m2).1, (N _ m3).1, (N _ m4).1, (N _ m5).1, (N _ m6).1, trivial⟩, At.of_news (h₀ := g) (L := L') (fun p hp => N p (mR p hp)), fun p hp => ?_, po⟩
  exact free_of hin N (mR p hp) (off7 (off p hp))
namespace urd0_specN
abbrev zS (w : World) (A : Nat → Addr) (T : Nat → Nat → Tok) (S : St) (kl x pc pd cl rn : Addr) (vs codes : List Value) (n nk : Nat) (i st : Int) (f : Bool) (ti a c : Tok) (t : Nat → Tok) : Prop := Spec w 300 3000 306 [.ref (A 7), .ref kl, .int i ti] (ledL w A T S) (fun h => At h (cstL w A T) ∧ At h [(kl, listOf vs.toArray n), (x, delO st pc f a c)] ∧ At h (pcL w.params pc pd cl rn t codes nk) ∧ (∃ g, Stp g vs (Str.ofString "marker") (i - 1) ∧ ∀ b o, g.get? b = some o → h.get? b = some o ∧ ∀ i, i < 16 → b ≠ A i)) (fun h v h' => ∃ k t, v = .int k t ∧ k = i - 1 ∧ ∃ up, Ins2 w A T { S with pt := st, up := up } codes h h')
def zP (w : World) (A : Nat → Addr) (T : Nat → Nat → Tok) (S : St) (kl x pc pd cl rn : Addr) (vs codes : List Value) (n nk : Nat) (i st : Int) (f : Bool) (ti a c : Tok) (t : Nat → Tok) : Prop := ∀ (hI : Inj A) (hkl : ∀ i, i < 16 → kl ≠ A i) (hx : ∀ i, i < 16 → x ≠ A i) (hpc : ∀ i, i < 16 → pc ≠ A i) (hpd : ∀ i, i < 16 → pd ≠ A i) (hcl : ∀ i, i < 16 → cl ≠ A i) (hi : 1 ≤ i) (hi' : i ≤ 400000) (g1 : vs[(i - 1).toNat]? = some (.ref x)) (hc : (codes.length : Int) ≠ 0) (hc' : codes.length ≤ 1000) (lo : (A 4 == sysModules) = false) (hkr : S.okr.IsDictOf (intKind pw w) S.kvs) (hkv0 : S.kvs = []) (hnv : S.nv = .none ∨ ∃ i c, S.nv = .int i c) (h1 : S.rs.length ≤ 400000) (hl : S.rs = [] ∨ ∃ r0, S.rs = r0 ++ [.ref 175]) (h3 : 0 ≤ S.gs) (h4 : S.gs ≤ S.ge) (h5 : S.ge ≤ S.cells.length) (h6 : S.cells.length ≤ 200000) (hz : S.zv = S.cells.length - S.ge + S.gs + 1) (h0 : 1 ≤ st) (he : st ≤ S.zv), zS w A T S kl x pc pd cl rn vs codes n nk i st f ti a c t
abbrev zT := (World × (Nat → Addr) × (Nat → Nat → Tok) × St × Addr) × (Addr × Addr × Addr × Addr × Addr) × ((List Value) × (List Value) × Nat × Nat × Int) × (Int × Bool × Tok × Tok × Tok) × (Nat → Tok)
def zQ (x : zT) : Prop := zP x.1.1 x.1.2.1 x.1.2.2.1 x.1.2.2.2.1 x.1.2.2.2.2 x.2.1.1 x.2.1.2.1 x.2.1.2.2.1 x.2.1.2.2.2.1 x.2.1.2.2.2.2 x.2.2.1.1 x.2.2.1.2.1 x.2.2.1.2.2.1 x.2.2.1.2.2.2.1 x.2.2.1.2.2.2.2 x.2.2.2.1.1 x.2.2.2.1.2.1 x.2.2.2.1.2.2.1 x.2.2.2.1.2.2.2.1 x.2.2.2.1.2.2.2.2 x.2.2.2.2
theorem zne : Nonempty zT := by k_extra "zne"
def zX : zT := pk zne zQ
def zR : Red2 (zS zX.1.1 zX.1.2.1 zX.1.2.2.1 zX.1.2.2.2.1 zX.1.2.2.2.2 zX.2.1.1 zX.2.1.2.1 zX.2.1.2.2.1 zX.2.1.2.2.2.1 zX.2.1.2.2.2.2 zX.2.2.1.1 zX.2.2.1.2.1 zX.2.2.1.2.2.1 zX.2.2.1.2.2.2.1 zX.2.2.1.2.2.2.2 zX.2.2.2.1.1 zX.2.2.2.1.2.1 zX.2.2.2.1.2.2.1 zX.2.2.2.1.2.2.2.1 zX.2.2.2.1.2.2.2.2 zX.2.2.2.2) SD ED := by k_extra "zR"
def zY : SD × ED := pk ED.ne fun x => zR.1 x.1 x.2
theorem body : zQ zX := by
  intro hI hkl hx hpc hpd hcl hi hi' g1 hc hc' lo hkr hkv0 hnv h1 hl h3 h4 h5 h6 hz h0 he
  refine zR.2 fun zd ze => pk_all (n := ED.ne) (P := fun x => zR.1 x.1 x.2) ?_ (zd, ze)
  show zR.1 zY.1 zY.2
  delta zR; dsimp only
  delta BodyAt; dsimp only
  intro B F X N TT hk hd hu hp ret dA uA hin back F' N' B' X' T'
  (try dsimp only at hin)
  have hkv : zX.1.2.2.2.1.kvs = [] ∨ zX.1.2.2.2.1.kvs = [(1, .ref (zX.1.2.1 11))] := .inl hkv0
  obtain ⟨hp0, hp1, hp2, gg, hs, hgg⟩ := hp
  have hstp : Stp zY.2.g zX.2.2.1.1 (Str.ofString "marker") (zX.2.2.1.2.2.2.2 - 1) := hs.keep fun b o e => hin b o (hgg b o e).1 (off7 (hgg b o e).2)
  clear hs hgg
  have hA : At zY.2.g [(zX.1.2.1 7, instObj 651 (zX.1.2.1 0)), (zX.1.2.1 8, instObj 400 (zX.1.2.1 1)), (zX.1.2.1 9, instObj 545 (zX.1.2.1 10)), (zX.1.2.1 10, dictOf (ksEs zX.1.1.params (zX.1.2.2.1 5 0) (zX.1.2.1 4)) 1), (zX.1.2.1 11, instObj 477 (zX.1.2.1 3)), (zX.1.2.1 12, instObj 260 (zX.1.2.1 5)), (zX.1.2.1 13, instObj 717 (zX.1.2.1 14)), (zX.1.2.1 14, dictOf (rcEs zX.1.1.params (zX.1.2.2.1 5 1) (zX.1.2.1 12)) 1), (zX.1.2.1 15, listOf #[] 0), (zX.1.2.2.2.2, listOf zX.2.2.1.1.toArray zX.2.2.1.2.2.1), (zX.2.1.1, delO zX.2.2.2.1.1 zX.2.1.2.1 zX.2.2.2.1.2.1 zX.2.2.2.1.2.2.2.1 zX.2.2.2.1.2.2.2.2), (zX.2.1.2.1, instObj 677 zX.2.1.2.2.1), (zX.2.1.2.2.1, dictOf (pcEs zX.1.1.params zX.2.2.2.2 zX.2.1.2.2.2.1 zX.2.1.2.2.2.2) 2), (zX.2.1.2.2.2.1, listOf zX.2.2.1.2.1.toArray zX.2.2.1.2.2.2.1)] :=
    At.append (cst_into hI hin hp0) ⟨hin _ _ hp1.1 (off7 hkl), hin _ _ hp1.2.1 (off7 hx), hin _ _ hp2.1 (off7 hpc), hin _ _ hp2.2.1 (off7 hpd), hin _ _ hp2.2.2.1 (off7 hcl), trivial⟩
  replace F' : Fr zY.2.g zY.2.L zY.2.h (fun y => List.lookup y [(Str.ofString "at", Value.int zX.2.2.1.2.2.2.2 zX.2.2.2.1.2.2.1), (Str.ofString "rows", Value.ref zX.1.2.2.2.2), (Str.ofString "buffer", Value.ref (zX.1.2.1 7))]) := F'
  dsimp only [ledL] at N'
  (try dsimp only)
  (try k_fold)
  k_steps
  all_goals (try dsimp only)
  all_goals (try contradiction)
  all_goals (try (exfalso; omega))
  all_goals (refine leaveC_of (by assumption) hin back fun kF kept => ?_; try dsimp only)
  all_goals exact ret _ _ _ kF kept (urd_end hin (by assumption) (by assumption) (by first | rfl | (simp; done)) (by assumption) (by k_dflt k_mem) (by k_dflt k_mem) (by k_dflt k_mem) (by k_dflt k_mem) (by k_dflt k_mem) (by k_dflt k_mem) (by k_dflt k_mem) (by intro q hq; repeat (first | exact hq | apply List.Mem.tail)))
end urd0_specN
theorem urd0_spec (w A T S kl x pc pd cl rn vs codes n nk i st f ti a c t) : urd0_specN.zP w A T S kl x pc pd cl rn vs codes n nk i st f ti a c t := pk_all (n := urd0_specN.zne) (P := urd0_specN.zQ) urd0_specN.body ((w, A, T, S, kl), (x, pc, pd, cl, rn), (vs, codes, n, nk, i), (st, f, ti, a, c), t)
end
section
open N_Uz
namespace urd1_specN
abbrev zS (w : World) (A : Nat → Addr) (T : Nat → Nat → Tok) (S : St) (kl x z pc pd cl rn : Addr) (vs codes : List Value) (n nk : Nat) (i st d : Int) (f : Bool) (ti a c b1 c1 : Tok) (t : Nat → Tok) : Prop := Spec w 300 3000 306 [.ref (A 7), .ref kl, .int i ti] (ledL w A T S) (fun h => At h (cstL w A T) ∧ At h [(kl, listOf vs.toArray n), (x, delO st pc f a c), (z, mkO (A 11) d b1 c1)] ∧ At h (pcL w.params pc pd cl rn t codes nk) ∧ (∃ g, Stp g vs (Str.ofString "marker") (i - 1 - 1) ∧ ∀ b o, g.get? b = some o → h.get? b = some o ∧ ∀ i, i < 16 → b ≠ A i)) (fun h v h' => ∃ k t, v = .int k t ∧ k = i - 1 - 1 ∧ ∃ up, Ins2 w A T { S with pt := st, up := up } codes h h')
def zP (w : World) (A : Nat → Addr) (T : Nat → Nat → Tok) (S : St) (kl x z pc pd cl rn : Addr) (vs codes : List Value) (n nk : Nat) (i st d : Int) (f : Bool) (ti a c b1 c1 : Tok) (t : Nat → Tok) : Prop := ∀ (hI : Inj A) (hkl : ∀ i, i < 16 → kl ≠ A i) (hx : ∀ i, i < 16 → x ≠ A i) (hzz : ∀ i, i < 16 → z ≠ A i) (hpc : ∀ i, i < 16 → pc ≠ A i) (hpd : ∀ i, i < 16 → pd ≠ A i) (hcl : ∀ i, i < 16 → cl ≠ A i) (hi : 2 ≤ i) (hi' : i ≤ 400000) (g1 : vs[(i - 1).toNat]? = some (.ref x)) (g2 : vs[(i - 1 - 1).toNat]? = some (.ref z)) (hc : (codes.length : Int) ≠ 0) (hc' : codes.length ≤ 1000) (lo : (A 4 == sysModules) = false) (hkr : S.okr.IsDictOf (intKind pw w) S.kvs) (hkv0 : S.kvs = []) (hnv : S.nv = .none ∨ ∃ i c, S.nv = .int i c) (h1 : S.rs.length ≤ 400000) (hl : S.rs = [] ∨ ∃ r0, S.rs = r0 ++ [.ref 175]) (h3 : 0 ≤ S.gs) (h4 : S.gs ≤ S.ge) (h5 : S.ge ≤ S.cells.length) (h6 : S.cells.length ≤ 200000) (hz : S.zv = S.cells.length - S.ge + S.gs + 1) (h0 : 1 ≤ st) (he : st ≤ S.zv), zS w A T S kl x z pc pd cl rn vs codes n nk i st d f ti a c b1 c1 t
abbrev zT := (World × (Nat → Addr) × (Nat → Nat → Tok) × St × Addr) × (Addr × Addr × Addr × Addr × Addr) × (Addr × (List Value) × (List Value) × Nat × Nat) × (Int × Int × Int × Bool × Tok) × (Tok × Tok × Tok × Tok × (Nat → Tok))
def zQ (x : zT) : Prop := zP x.1.1 x.1.2.1 x.1.2.2.1 x.1.2.2.2.1 x.1.2.2.2.2 x.2.1.1 x.2.1.2.1 x.2.1.2.2.1 x.2.1.2.2.2.1 x.2.1.2.2.2.2 x.2.2.1.1 x.2.2.1.2.1 x.2.2.1.2.2.1 x.2.2.1.2.2.2.1 x.2.2.1.2.2.2.2 x.2.2.2.1.1 x.2.2.2.1.2.1 x.2.2.2.1.2.2.1 x.2.2.2.1.2.2.2.1 x.2.2.2.1.2.2.2.2 x.2.2.2.2.1 x.2.2.2.2.2.1 x.2.2.2.2.2.2.1 x.2.2.2.2.2.2.2.1 x.2.2.2.2.2.2.2.2
theorem zne : Nonempty zT := by k_extra "zne"
def zX : zT := pk zne zQ
def zR : Red2 (zS zX.1.1 zX.1.2.1 zX.1.2.2.1 zX.1.2.2.2.1 zX.1.2.2.2.2 zX.2.1.1 zX.2.1.2.1 zX.2.1.2.2.1 zX.2.1.2.2.2.1 zX.2.1.2.2.2.2 zX.2.2.1.1 zX.2.2.1.2.1 zX.2.2.1.2.2.1 zX.2.2.1.2.2.2.1 zX.2.2.1.2.2.2.2 zX.2.2.2.1.1 zX.2.2.2.1.2.1 zX.2.2.2.1.2.2.1 zX.2.2.2.1.2.2.2.1 zX.2.2.2.1.2.2.2.2 zX.2.2.2.2.1 zX.2.2.2.2.2.1 zX.2.2.2.2.2.2.1 zX.2.2.2.2.2.2.2.1 zX.2.2.2.2.2.2.2.2) SD ED := by k_extra "zR"
def zY : SD × ED := pk ED.ne fun x => zR.1 x.1 x.2
theorem body : zQ zX := by
  intro hI hkl hx hzz hpc hpd hcl hi hi' g1 g2 hc hc' lo hkr hkv0 hnv h1 hl h3 h4 h5 h6 hz h0 he
  refine zR.2 fun zd ze => pk_all (n := ED.ne) (P := fun x => zR.1 x.1 x.2) ?_ (zd, ze)
  show zR.1 zY.1 zY.2
  delta zR; dsimp only
  delta BodyAt; dsimp only
  intro B F X N TT hk hd hu hp ret dA uA hin back F' N' B' X' T'
  (try dsimp only at hin)
  have hkv : zX.1.2.2.2.1.kvs = [] ∨ zX.1.2.2.2.1.kvs = [(1, .ref (zX.1.2.1 11))] := .inl hkv0
  obtain ⟨hp0, hp1, hp2, gg, hs, hgg⟩ := hp
  have hstp : Stp zY.2.g zX.2.2.1.2.1 (Str.ofString "marker") (zX.2.2.2.1.1 - 1 - 1) := hs.keep fun b o e => hin b o (hgg b o e).1 (off7 (hgg b o e).2)
  clear hs hgg
  have hA : At zY.2.g [(zX.1.2.1 7, instObj 651 (zX.1.2.1 0)), (zX.1.2.1 8, instObj 400 (zX.1.2.1 1)), (zX.1.2.1 9, instObj 545 (zX.1.2.1 10)), (zX.1.2.1 10, dictOf (ksEs zX.1.1.params (zX.1.2.2.1 5 0) (zX.1.2.1 4)) 1), (zX.1.2.1 11, instObj 477 (zX.1.2.1 3)), (zX.1.2.1 12, instObj 260 (zX.1.2.1 5)), (zX.1.2.1 13, instObj 717 (zX.1.2.1 14)), (zX.1.2.1 14, dictOf (rcEs zX.1.1.params (zX.1.2.2.1 5 1) (zX.1.2.1 12)) 1), (zX.1.2.1 15, listOf #[] 0), (zX.1.2.2.2.2, listOf zX.2.2.1.2.1.toArray zX.2.2.1.2.2.2.1), (zX.2.1.1, delO zX.2.2.2.1.2.1 zX.2.1.2.2.1 zX.2.2.2.1.2.2.2.1 zX.2.2.2.2.1 zX.2.2.2.2.2.1), (zX.2.1.2.1, mkO (zX.1.2.1 11) zX.2.2.2.1.2.2.1 zX.2.2.2.2.2.2.1 zX.2.2.2.2.2.2.2.1), (zX.2.1.2.2.1, instObj 677 zX.2.1.2.2.2.1), (zX.2.1.2.2.2.1, dictOf (pcEs zX.1.1.params zX.2.2.2.2.2.2.2.2 zX.2.1.2.2.2.2 zX.2.2.1.1) 2), (zX.2.1.2.2.2.2, listOf zX.2.2.1.2.2.1.toArray zX.2.2.1.2.2.2.2)] :=
    At.append (cst_into hI hin hp0) ⟨hin _ _ hp1.1 (off7 hkl), hin _ _ hp1.2.1 (off7 hx), hin _ _ hp1.2.2.1 (off7 hzz), hin _ _ hp2.1 (off7 hpc), hin _ _ hp2.2.1 (off7 hpd), hin _ _ hp2.2.2.1 (off7 hcl), trivial⟩
  replace F' : Fr zY.2.g zY.2.L zY.2.h (fun y => List.lookup y [(Str.ofString "at", Value.int zX.2.2.2.1.1 zX.2.2.2.1.2.2.2.2), (Str.ofString "rows", Value.ref zX.1.2.2.2.2), (Str.ofString "buffer", Value.ref (zX.1.2.1 7))]) := F'
  have hkr0 : zX.1.2.2.2.1.okr.IsDictOf (intKind pw zX.1.1) [] := hkv0 ▸ hkr
  have hf0 : PyProof.V.FlatPairs PyData.int ([] : List (Int × Value)) [] := .nil
  dsimp only [ledL] at N'
  (try dsimp only)
  (try k_fold)
  k_steps
  all_goals (try dsimp only)
  all_goals (try contradiction)
  all_goals (try (exfalso; omega))
  all_goals (refine leaveC_of (by assumption) hin back fun kF kept => ?_; try dsimp only)
  all_goals exact ret _ _ _ kF kept (urd_end hin (by assumption) (by assumption) (by first | rfl | (simp; done)) (by assumption) (by k_dflt k_mem) (by k_dflt k_mem) (by k_dflt k_mem) (by k_dflt k_mem) (by k_dflt k_mem) (by k_dflt k_mem) (by k_dflt k_mem) (by intro q hq; repeat (first | exact hq | apply List.Mem.tail)))
end urd1_specN
theorem urd1_spec (w A T S kl x z pc pd cl rn vs codes n nk i st d f ti a c b1 c1 t) : urd1_specN.zP w A T S kl x z pc pd cl rn vs codes n nk i st d f ti a c b1 c1 t := pk_all (n := urd1_specN.zne) (P := urd1_specN.zQ) urd1_specN.body ((w, A, T, S, kl), (x, z, pc, pd, cl), (rn, vs, codes, n, nk), (i, st, d, f, ti), (a, c, b1, c1, t))
end
section
open PySem.SeqAt PySem.MeetsSeq PySem.MeetsSeq2 PySem.MeetsSeq3 PySem.SeqRoads2
theorem tuple_eq_hd (l b : Addr) (W V : Str) (c d : Tok) (its it2 : List Value) (n n2 : Nat) (dd dd2 : Option Addr) (sl sl2 : Array (Option Value)) (hne : (W == V) = false) :
    Meets (Builtin.«tuple.__eq__» ⟨[.ref l, .ref b], []⟩)
      (fun A R s => s.heap.get? l = some { cls := .type "tuple", dict := dd, data := .seq (Value.str W c :: its).toArray n, slots := sl } ∧ s.heap.get? b = some { cls := .type "tuple", dict := dd2, data := .seq (Value.str V d :: it2).toArray n2, slots := sl2 } ∧ R (.ok (.ret (.bool false))) s) :=
  .of_wp fun prog w A R s h => by
    obtain ⟨hp, g, d', tk, os⟩ := s; obtain ⟨hl, hb, h⟩ := h
    have f2 := PySem.AutoSeq1.sub_tuple_tuple
    wp_walk using PySem.AutoSeq1.wpAny_loadPart' hl, PySem.AutoSeq1.wpAny_loadPart' hb, wpAny_forIn_list _ (fun rest b s' => b.1 = none ∧ s' = ⟨hp, g, d', tk, os⟩ ∧ rest = (Value.str W c :: its).toArray.toList.zip (Value.str V d :: it2).toArray.toList) _
    case turn =>
      rintro ⟨y, x⟩ rest b s' ⟨hb', rfl, hz⟩
      simp only [List.zip_cons_cons] at hz
      injection hz with hyx hrest
      injection hyx with hy hx
      subst hy hx
      refine wpAny_bind (EqAt.str_str W c V d prog w _ _ ?_)
      rw [hne]
      wp_walk
      exact ⟨_, rfl, h⟩
    case fin =>
      rintro ⟨b1, b2⟩ s' ⟨hb', rfl, hz⟩
      cases hz
    case h => exact ⟨rfl, rfl, rfl⟩
theorem eq_hd {prog : Program} {w : World} {A : Around} {E : Value → Shared → Prop} {s : Shared} {x y : Addr} {W V : Str} {c d : Tok} {its it2 : List Value} {Q : Value → Shared → Prop} (hx : s.heap.get? x = some { cls := .type "tuple", data := .seq (Value.str W c :: its).toArray }) (hy : s.heap.get? y = some { cls := .type "tuple", data := .seq (Value.str V d :: it2).toArray }) (hne : (W == V) = false) (hu : A.units < cLine) (h : Q (.bool false) s) :
    wpAny (model prog w) A (compareOp .Eq (.ref x) (.ref y)) Q E s :=
  richCompare_meets_room (op := .Eq) ⟨_, hx, rfl⟩ ⟨_, hy, rfl⟩ F.slot_tuple_eq F.entry_tuple_eq (F.args_tuple_eq_2 _ _) (tuple_eq_hd x y W V c d its it2 _ _ _ _ _ _ hne)
    ⟨hx, hy, show Value.bool false ≠ Value.notImplemented ∧ Q (.bool false) s from ⟨(fun x => nomatch x), h⟩⟩ hu
end
section
open N_Rn
section
open PyProof.Rows.LCg
variable {prog : Program} {w : World} {A : Around} {h₀ : Heap} {L : Addr} {m : Str → Option Value} {env : Env} {elt : PySem.Expr} {x : Str} {scope : Scope} {cl : List (Str × Addr)} {s : Shared} {S : List (Addr × Obj) → Prop} {P : Nat → Value → Prop} {Fin : List Value → List (Addr × Obj) → Prop}
theorem compEnd_mono {s₁ s₂ : Shared} {I C D : Addr} {oI oC oD : Obj} {r r' : Value → List (Addr × Obj) → Prop} {y : Value} (H : CompEnd h₀ L m s₁ I oI C oC D oD S r y s₂) (k : ∀ n, r y n → r' y n) : CompEnd h₀ L m s₁ I oI C oC D oD S r' y s₂ := by
  obtain ⟨h', tk, news', a, b, c, d, e, f⟩ := H
  exact ⟨h', tk, news', a, b, c, d, e, k _ f⟩
theorem comp_ind (Inv : Nat → List Value → List (Addr × Obj) → Prop) (n : Nat)
    (fin : ∀ ys news, Inv n ys news → Fin ys news)
    (step : ∀ i ys news, i < n → Inv i ys news → ∀ v I oI C oC D m₂ h tk (E' : Value → Shared → Prop), P i v → NsObj oC m₂ → m₂ x = some v → Fr h₀ L h m → News h₀ L h ((I, oI) :: (C, oC) :: (D, lst ys) :: news) → Off3 I C D news → ((@Ne Nat I C) ∧ (@Ne Nat I D) ∧ (@Ne Nat C D)) →
      wpAny (model prog w) A (eval elt (compEnvC scope cl C env)) (CompEnd h₀ L m { s with heap := h, toks := tk } I oI C oC D (lst ys) S (fun y news' => Inv (i + 1) (ys ++ [y]) news')) E' { s with heap := h, toks := tk }) :
    ∀ k i ys news, k + i = n → Inv i ys news → CompRest prog w A h₀ L m env elt x scope cl s S P Fin k i ys news := by
  intro k
  induction k with
  | zero => intro i ys news e H; exact CompRest.zero (fin _ _ (by rw [← e, Nat.zero_add]; exact H))
  | succ k ih =>
    intro i ys news e H
    refine CompRest.succ fun v I oI C oC D m₂ h tk E' h1 h2 h3 F N off ne => ?_
    refine wpAny_mono (step i ys news (by omega) H v I oI C oC D m₂ h tk E' h1 h2 h3 F N off ne) (fun y s' hy => ?_) fun _ _ z => z
    exact compEnd_mono hy fun n' hn => ih (i + 1) _ _ (by omega) hn
end
section
open PyProof.Rows.LCg
theorem neAll_off1 {D : Addr} : ∀ {l : List (Addr × Obj)}, Off1 D l → NeAll D l
  | [], _ => fun _ h => absurd h List.not_mem_nil
  | p :: r, x => fun q hq => by
    rcases List.mem_cons.mp hq with rfl | hq
    · exact x.1
    · exact neAll_off1 x.2 q hq
theorem ren_new {h₀ h' : Heap} {L I C D : Addr} {m : Str → Option Value} {s₁ : Shared} {oI oC oD : Obj} {S : List (Addr × Obj) → Prop} {rest : Value → List (Addr × Obj) → Prop} {y : Value} {tk : Nat} {x : Addr × Obj} {base R : List (Addr × Obj)}
    (F : Fr h₀ L h' m) (N : News h₀ L h' (x :: (I, oI) :: (C, oC) :: (D, oD) :: (base ++ R))) (off : Off3 I C D (base ++ R)) (l1 : NeAll x.1 ((I, oI) :: (C, oC) :: (D, oD) :: (base ++ R))) (hS : S (base ++ (x :: R))) (r : rest y (base ++ (x :: R))) :
    CompEnd h₀ L m s₁ I oI C oC D oD S rest y { s₁ with heap := h', toks := tk } := by
  refine CompEnd.intro F N (base ++ (x :: R)) (fun p hp => ?_) (Off3.of fun p hp => ?_) hS r
  · simp only [List.mem_cons, List.mem_append] at hp ⊢
    rcases hp with h | h | h | h | h | h <;> simp [h]
  · rcases List.mem_append.mp hp with h | h
    · exact off.mem p (List.mem_append_left _ h)
    · rcases List.mem_cons.mp h with h | h
      · subst h
        exact ⟨(l1.at (.head _)).symm, (l1.at (.tail _ (.head _))).symm, (l1.at (.tail _ (.tail _ (.head _)))).symm⟩
      · exact off.mem p (List.mem_append_right _ h)
end
noncomputable def ren (el fr : Int) : Row → Row
  | .un t => if t = el then .un fr else .un t
  | r => r
def RenF (P : Params) (mk : Addr) (g : Heap) (O : Addr → Prop) (rows : List Row) (el fr : Int) (i : Nat) (ys : List Value) (R : List (Addr × Obj)) : Prop :=
  ∀ h (O' : Addr → Prop), (∀ x o, O x → g.get? x = some o → h.get? x = some o ∧ O' x) → At h R → (∀ p ∈ R, O' p.1) → RowsAt P mk O' h ys ((rows.take i).map (ren el fr))
theorem RenF.start {P : Params} {mk : Addr} {g : Heap} {O : Addr → Prop} {rows : List Row} {el fr : Int} : RenF P mk g O rows el fr 0 [] [] := fun _ _ _ _ _ => trivial
theorem RenF.keep {P : Params} {mk : Addr} {g : Heap} {O : Addr → Prop} {rows : List Row} {el fr : Int} {i : Nat} {ys : List Value} {R : List (Addr × Obj)} {r : Row} {v : Value} (H : RenF P mk g O rows el fr i ys R) (hr : rows[i]? = some r) (ha : RowAt P mk O g v r) (e : ren el fr r = r) : RenF P mk g O rows el fr (i + 1) (ys ++ [v]) R := by
  intro h O' k A' o
  rw [List.take_succ, hr, List.map_append]
  refine (H h O' k A' o).append ⟨?_, trivial⟩
  show RowAt P mk O' h v (ren el fr r)
  rw [e]
  exact ha.keep (fun x o' hx hg => (k x o' hx hg).1) (fun x o' hx hg => (k x o' hx hg).2)
theorem RenF.new {P : Params} {mk : Addr} {g : Heap} {O : Addr → Prop} {rows : List Row} {el fr : Int} {i : Nat} {ys : List Value} {R : List (Addr × Obj)} {D : Addr} {a b : Tok} (H : RenF P mk g O rows el fr i ys R) (hr : rows[i]? = some (.un el)) : RenF P mk g O rows el fr (i + 1) (ys ++ [.ref D]) ((D, unO fr a b) :: R) := by
  intro h O' k A' o
  rw [List.take_succ, hr, List.map_append]
  refine (H h O' k A'.2 fun p hp => o p (.tail _ hp)).append ⟨?_, trivial⟩
  show RowAt P mk O' h (.ref D) (ren el fr (.un el))
  have e : ren el fr (.un el) = .un fr := if_pos rfl
  rw [e]
  have o1 : O' D := o (D, unO fr a b) (List.Mem.head _)
  exact ⟨D, a, b, rfl, o1, A'.1⟩
theorem RowsAt.get {P : Params} {mk : Addr} {O : Addr → Prop} {h : Heap} : ∀ {vs : List Value} {rs : List Row} {i : Nat} {v : Value}, RowsAt P mk O h vs rs → vs[i]? = some v → ∃ r, rs[i]? = some r ∧ RowAt P mk O h v r
  | _ :: _, r :: _, 0, v, H, e => ⟨r, rfl, by cases e; exact H.1⟩
  | _ :: _, _ :: _, i + 1, v, H, e => RowsAt.get (i := i) H.2 e
  | [], [], _, _, _, e => by cases e
  | [], _ :: _, _, _, H, _ => H.elim
  | _ :: _, [], _, _, H, _ => H.elim
def Off2 (a b : Addr) (R : List (Addr × Obj)) : Prop := ∀ p ∈ R, p.1 ≠ a ∧ p.1 ≠ b
theorem Off2.fst {a b : Addr} {R : List (Addr × Obj)} (h : Off2 a b R) : ∀ p ∈ R, p.1 ≠ a := fun p hp => (h p hp).1
theorem Off2.snd {a b : Addr} {R : List (Addr × Obj)} (h : Off2 a b R) : ∀ p ∈ R, p.1 ≠ b := fun p hp => (h p hp).2
theorem Off2.cons {a b D : Addr} {o : Obj} {R : List (Addr × Obj)} (h : Off2 a b R) (h1 : D ≠ a) (h2 : D ≠ b) : Off2 a b ((D, o) :: R) := fun p hp => by
  rcases List.mem_cons.mp hp with rfl | hp
  · exact ⟨h1, h2⟩
  · exact h p hp
theorem eq_un {prog : Program} {w : World} {A : Around} {E : Value → Shared → Prop} {s : Shared} {x y : Addr} {t el : Int} {a b c d : Tok} {q : Bool} {Q : Value → Shared → Prop} (hx : s.heap.get? x = some (unO t a b)) (hy : s.heap.get? y = some (unO el c d)) (e : (t == el) = q) (hu : A.units < cLine) (h : Q (.bool q) s) :
    wpAny (model prog w) A (compareOp .Eq (.ref x) (.ref y)) Q E s := by
  have hx' : s.heap.IsTuple x #[.str (Str.ofString "unmodified") a, .int t b] := ⟨_, hx, rfl, _, rfl⟩
  have hy' : s.heap.IsTuple y #[.str (Str.ofString "unmodified") c, .int el d] := ⟨_, hy, rfl, _, rfl⟩
  refine PySem.SeqAt.eq_tupleAt (e := fun j => if j = 0 then true else q) hx' hy' hu (fun j h1 h2 => ?_) ?_
  · have : j = 0 ∨ j = 1 := by simp at h1; omega
    rcases this with rfl | rfl
    · have := PySem.SeqAt.EqAt.str_str (A := A.in1) (s := s) (Str.ofString "unmodified") a (Str.ofString "unmodified") c
      rw [show (Str.ofString "unmodified" == Str.ofString "unmodified") = true by simp] at this
      exact this
    · have := PySem.SeqAt.EqAt.int_int (A := A.in1) (s := s) t b el d
      rw [e] at this
      exact this
  · have e2 : ((List.range (min (#[Value.str (Str.ofString "unmodified") a, .int t b] : Array Value).size (#[Value.str (Str.ofString "unmodified") c, .int el d] : Array Value).size)).all (fun j => if j = 0 then true else q) && (#[Value.str (Str.ofString "unmodified") a, .int t b] : Array Value).size == (#[Value.str (Str.ofString "unmodified") c, .int el d] : Array Value).size) = q := by
      cases q <;> rfl
    rw [e2]; exact h
theorem RowAt.ways {P : Params} {mk : Addr} {O : Addr → Prop} {g : Heap} {v : Value} {r : Row} (H : RowAt P mk O g v r) (hb : g.get? 175 = some (tup [Value.str (Str.ofString "boundary") 414].toArray)) (el fr : Int) :
    ∃ x, v = .ref x ∧ ((∃ W c its, g.get? x = some (hdO W c its) ∧ (W == Str.ofString "unmodified") = false ∧ ren el fr r = r) ∨ (∃ t a b, g.get? x = some (unO t a b) ∧ r = .un t)) := by
  cases r with
  | bd => exact ⟨175, H, .inl ⟨_, _, _, hb, by decide, rfl⟩⟩
  | un t => obtain ⟨x, a, b, e, o, g1⟩ := H; exact ⟨x, e, .inr ⟨t, a, b, g1, rfl⟩⟩
  | ins s e => obtain ⟨x, a, b, c, e, o, g1⟩ := H; exact ⟨x, e, .inl ⟨_, _, _, g1, by decide, rfl⟩⟩
  | del s cs => obtain ⟨x, pc, pd, cl, rn, f, a, c, t, n, e, o1, o2, o3, o4, g1, g2⟩ := H; exact ⟨x, e, .inl ⟨_, _, _, g1, by decide, rfl⟩⟩
  | mk => obtain ⟨x, d, a, b, e, o, g1⟩ := H; exact ⟨x, e, .inl ⟨_, _, _, g1, by decide, rfl⟩⟩
end
section
open N_Rx
def Renew (w : World) (P : Params) (mk uld : Addr) (t : Nat → Tok) (b : Tok) (nv : Value) (rows : List Row) (el fr : Int) (O : Addr → Prop) (hs h' : Heap) : Prop :=
  ∃ rl' ys R k, At h' [(uld, dictOf (ulEs w.params t rl' 0 b nv) 5), (rl', listOf (ys : List Value).toArray k)] ∧ hs.get? rl' = none ∧ At h' R ∧ (∀ p ∈ R, hs.get? p.1 = none) ∧ (∀ p ∈ R, p.1 ≠ rl') ∧ (∀ (h2 : Heap) (O' : Addr → Prop), (∀ x o, O x → hs.get? x = some o → h2.get? x = some o ∧ O' x) → At h2 R → (∀ p ∈ R, O' p.1) → RowsAt P mk O' h2 ys (rows.map (ren el fr)))
theorem rn_end {w : World} {uld rl mk : Addr} {t : Nat → Tok} {b : Tok} {nv : Value} {rs : List Value} {rows : List Row} {n : Nat} {el fr : Int} {O : Addr → Prop} {g s h' : Heap} {L' D : Addr} {ys : List Value} {x1 x2 x3 : Addr × Obj} {q5 : Obj} {R : List (Addr × Obj)} {k : Nat}
    (hin : ∀ b' o, s.get? b' = some o → b' ∉ (ulL w uld rl t b nv rs n).map (·.1) → g.get? b' = some o) (N : News g L' h' ((D, listOf ys.toArray k) :: x1 :: x2 :: x3 :: (uld, dictOf (ulEs w.params t D 0 b nv) 5) :: (rl, listOf rs.toArray n) :: R)) (n1 : D ≠ uld) (n2 : D ≠ rl) (n3 : NeAll D (x1 :: x2 :: x3 :: (uld, q5) :: (rl, listOf rs.toArray n) :: R))
    (hO : ∀ x, O x → x ≠ uld ∧ x ≠ rl) (hF : RenF w.params mk g (fun x => O x ∧ ∃ o, s.get? x = some o) rows el fr rs.toArray.size ys R) (hO2 : Off2 uld rl R) (hl : rs.length = rows.length) : Value.none = .none ∧ Renew w w.params mk uld t b nv rows el fr O s h' := by
  have AN := At.of_news N
  refine ⟨rfl, D, ys, R, k, ⟨AN.2.2.2.2.1, AN.1, trivial⟩, free_of hin N (.head _) (nm_cons n1 (nm_cons n2 List.not_mem_nil)), AN.2.2.2.2.2.2, fun p hp => ?_, fun p hp => n3 p (.tail _ (.tail _ (.tail _ (.tail _ (.tail _ hp))))), fun h2 O' ho hA2 hp => ?_⟩
  · exact free_of hin N (.tail _ (.tail _ (.tail _ (.tail _ (.tail _ (.tail _ hp)))))) (nm_cons (hO2 p hp).1 (nm_cons (hO2 p hp).2 List.not_mem_nil))
  · have := hF h2 O' (fun x o hx hg => by
      obtain ⟨hx, o', e⟩ := hx
      have e2 := hin x o' e (nm_cons (hO x hx).1 (nm_cons (hO x hx).2 List.not_mem_nil))
      rw [hg] at e2
      rw [← e2] at e
      exact ho x o hx e) hA2 hp
    rwa [List.size_toArray, hl, List.take_length] at this
namespace renew_specN
def zP (w : World) (ul uld rl mk : Addr) (t : Nat → Tok) (b t1 t2 : Tok) (nv : Value) (rs : List Value) (rows : List Row) (n : Nat) (fr : Int) (O : Addr → Prop) : Prop := ∀ (el : Int) (hO : ∀ x, O x → x ≠ uld ∧ x ≠ rl) (h1 : rs.length ≤ 400000) (c1 : uld ≠ rl), Spec w 20 200 250 [.ref ul, .int el t1, .int fr t2] (ulL w uld rl t b nv rs n) (fun h => h.get? ul = some (instObj 260 uld) ∧ RowsAt w.params mk O h rs rows) (fun h x h' => x = .none ∧ Renew w w.params mk uld t b nv rows el fr O h h')
abbrev zT := (World × Addr × Addr × Addr) × (Addr × (Nat → Tok) × Tok × Tok) × (Tok × Value × (List Value) × (List Row)) × (Nat × Int × (Addr → Prop))
def zQ (x : zT) : Prop := zP x.1.1 x.1.2.1 x.1.2.2.1 x.1.2.2.2 x.2.1.1 x.2.1.2.1 x.2.1.2.2.1 x.2.1.2.2.2 x.2.2.1.1 x.2.2.1.2.1 x.2.2.1.2.2.1 x.2.2.1.2.2.2 x.2.2.2.1 x.2.2.2.2.1 x.2.2.2.2.2
theorem zne : Nonempty zT := by k_extra "zne"
def zX : zT := pk zne zQ
def zR : Red2 (zP zX.1.1 zX.1.2.1 zX.1.2.2.1 zX.1.2.2.2 zX.2.1.1 zX.2.1.2.1 zX.2.1.2.2.1 zX.2.1.2.2.2 zX.2.2.1.1 zX.2.2.1.2.1 zX.2.2.1.2.2.1 zX.2.2.1.2.2.2 zX.2.2.2.1 zX.2.2.2.2.1 zX.2.2.2.2.2) SD ED := by
  apply Subtype.mk; intro H el hO h1 c1; refine spec_at fun d => ?_; intro B F X N TT hk hd hu hp ret
  refine wpAny_call ?_; k_extra "C.enterC"; refine ed_intro fun e => ?_; (try dsimp only)
  revert el hO h1 c1 B F X N TT hk hd hu hp ret; exact H d e
def zY : SD × ED := pk ED.ne fun x => zR.1 x.1 x.2
theorem body : zQ zX := by
  refine zR.2 fun zd ze => pk_all (n := ED.ne) (P := fun x => zR.1 x.1 x.2) ?_ (zd, ze)
  show zR.1 zY.1 zY.2
  delta zR; dsimp only
  intro el hO h1 c1 B F X N TT hk hd hu hp ret cells' dA uA hin back F' N' Y' hcells B' X' T' l1
  have cul : zX.1.2.1 ≠ zX.1.2.2.1 := ne_of_kind hp.1 (N _ (.head _)).1 rfl
  have cul2 : zX.1.2.1 ≠ zX.1.2.2.2 := ne_of_kind hp.1 (N _ (.tail _ (.head _))).1 rfl
  (try dsimp only at hin)
  have hA : At zY.2.g [(zX.1.2.1, instObj 260 zX.1.2.2.1)] := ⟨hin _ _ hp.1 (nm_cons cul (nm_cons cul2 List.not_mem_nil)), trivial⟩
  have hR : RowsAt zX.1.1.params zX.2.1.1 (fun x => zX.2.2.2.2.2 x ∧ ∃ o, zY.1.sh.get? x = some o) zY.2.g zX.2.2.1.2.2.1 zX.2.2.1.2.2.2 := hp.2.keep (fun x o hx hg => hin x o hg (nm_cons (hO x hx).1 (nm_cons (hO x hx).2 List.not_mem_nil))) (fun x o hx hg => ⟨hx, o, hg⟩)
  have hb := bd_at F' X'
  k_cells Y'
  have z1 : zY.2.L + 1 + 1 ≠ zX.1.2.2.1 := by intro e; have := hcells _ (.head _); (try dsimp only at this); rw [e, (N _ (.head _)).1] at this; cases this
  have z2 : zY.2.L + 1 + 1 ≠ zX.1.2.2.2 := by intro e; have := hcells _ (.head _); (try dsimp only at this); rw [e, (N _ (.tail _ (.head _))).1] at this; cases this
  have z3 : zY.2.L + 1  ≠ zX.1.2.2.1 := by intro e; have := hcells _ (.tail _ (.head _)); (try dsimp only at this); rw [e, (N _ (.head _)).1] at this; cases this
  have z4 : zY.2.L + 1  ≠ zX.1.2.2.2 := by intro e; have := hcells _ (.tail _ (.head _)); (try dsimp only at this); rw [e, (N _ (.tail _ (.head _))).1] at this; cases this
  have z5 : zY.2.L + 1 + 1 ≠ zY.2.L + 1 := Nat.succ_ne_self _
  clear hcells l1
  dsimp only [ulL, List.cons_append, List.nil_append] at N'
  (try dsimp only)
  (try k_fold)
  k_steps
  all_goals (try dsimp only)
  (rename News _ _ _ _ => kN)
  refine LCg.CompSrc.ledger rfl (by k_asm) kN (by k_dflt k_mem) (room_vs (by omega)) ?_
  intro gg
  have hb' := X' 175 (o175 zX.1.1.params) rfl
  refine comp_ind (fun i ys news => ∃ R, news = _ ++ R ∧ RenF zX.1.1.params zX.2.1.1 zY.2.g (fun x => zX.2.2.2.2.2 x ∧ ∃ o, zY.1.sh.get? x = some o) zX.2.2.1.2.2.2 el zX.2.2.2.2.1 i ys R ∧ Off2 zX.1.2.2.1 zX.1.2.2.2 R) zX.2.2.1.2.2.1.toArray.size ?fin ?step _ 0 [] _ (Nat.add_zero _) ⟨[], (List.append_nil _).symm, RenF.start, fun p hp => absurd hp List.not_mem_nil⟩
  case step =>
    rintro i ys news hi ⟨R, rfl, hF, hO2⟩ v I oI C oC D m₂ h tk E' hv hC hx F' N' off ne
    clear kN
    have hv' : zX.2.2.1.2.2.1[i]? = some v := by rw [← List.getElem?_toArray]; exact hv
    obtain ⟨r, hr, hra⟩ := hR.get hv'
    obtain ⟨x, rfl, ⟨W, c, its, hg, hW, hren⟩ | ⟨t', a, b', hg, rfl⟩⟩ := hra.ways hb' el zX.2.2.2.2.1
    · have hA2 : At zY.2.g [(x, hdO W c its)] := ⟨hg, trivial⟩
      dsimp only [List.cons_append, List.nil_append] at N'
      k_steps
      exact LCg.CompEnd.intro (by assumption) N' _ (fun p hp => hp) off (.inr ⟨_, by k_dflt k_mem, rfl, _, rfl⟩) ⟨R, rfl, hF.keep hr hra hren, hO2⟩
    · have hA2 : At zY.2.g [(x, unO t' a b')] := ⟨hg, trivial⟩
      by_cases hte : t' = el
      · subst hte
        have hq : (t' == t') = true := by simp
        dsimp only [List.cons_append, List.nil_append] at N'
        k_steps
        exact ren_new (by assumption) (by assumption) off (by assumption) (.inr ⟨_, by k_dflt k_mem, rfl, _, rfl⟩) ⟨_, rfl, hF.new hr, hO2.cons (by k_ne) (by k_ne)⟩
      · have hq : (t' == el) = false := by simpa using hte
        dsimp only [List.cons_append, List.nil_append] at N'
        k_steps
        exact LCg.CompEnd.intro (by assumption) N' _ (fun p hp => hp) off (.inr ⟨_, by k_dflt k_mem, rfl, _, rfl⟩) ⟨R, rfl, hF.keep hr hra (if_neg hte), hO2⟩
  case fin =>
    rintro ys news ⟨R, rfl, hF, hO2⟩
    clear kN
    unfold LCg.FinE
    intro D' h' tk' F' N' o1'
    replace o1' := neAll_off1 o1'
    dsimp only [List.cons_append, List.nil_append] at N' o1'
    k_steps
    all_goals (refine leaveC_of (by assumption) hin back fun kF kept => ?_; try dsimp only)
    all_goals exact ret _ _ _ kF kept (rn_end hin (by assumption) (by k_ne) (by k_ne) o1' hO hF hO2 (hR.length))
end renew_specN
theorem renew_spec (w : World) (ul uld rl mk : Addr) (t : Nat → Tok) (b t1 t2 : Tok) (nv : Value) (rs : List Value) (rows : List Row) (n : Nat) (el fr : Int) (O : Addr → Prop) (hO : ∀ x, O x → x ≠ uld ∧ x ≠ rl) (h1 : rs.length ≤ 400000) (c1 : uld ≠ rl) : Spec w 20 200 250 [.ref ul, .int el t1, .int fr t2] (ulL w uld rl t b nv rs n) (fun h => h.get? ul = some (instObj 260 uld) ∧ RowsAt w.params mk O h rs rows) (fun h x h' => x = .none ∧ Renew w w.params mk uld t b nv rows el fr O h h') := pk_all (n := renew_specN.zne) (P := renew_specN.zQ) renew_specN.body ((w, ul, uld, rl), (mk, t, b, t1), (t2, nv, rs, rows), (n, fr, O)) el hO h1 c1
end
section
open N_Uu
section
variable {w : World} {p : Program} {loose : List Str} {mean : ExcName → Option Value} {mg mb : Str → Option Value} {dp un : Nat} {gd : Option (List Code)} {cn : Str} {cs : Scope} {a₀ : Addr} {ccd : Value} {cl₀ : List (Str × Addr)} {outer : List Env} {A₀ : Around} {base h₀ : Heap} {L : Addr} {m : Str → Option Value} {s : Shared} {Q E : Value → Shared → Prop} {news : List (Addr × Obj)}
theorem renew_use {ul uld rl mk : Addr} {t : Nat → Tok} {b t1 t2 : Tok} {nv : Value} {rs : List Value} {rows : List Row} {n : Nat} {el fr : Int} {O : Addr → Prop} (B : Below A₀ base outer h₀) (F : Fr h₀ L s.heap m) (X : (KK w.params).In h₀) (N : News h₀ L s.heap news) (T' : Top p loose mean mg mb h₀) (hk : cs.kind = .function)
    (hr : RowsAt w.params mk O h₀ rs rows) (hO : ∀ x, O x → x ≠ uld ∧ x ≠ rl) (hp : s.heap.get? ul = some (instObj 260 uld)) (sub : Subl (ulL w uld rl t b nv rs n) news) (hd : dp + 20 < recursionLimit) (hu : un + 200 < cLine) (h1 : rs.length ≤ 400000)
    (ret : ∀ h' tk', Fr h₀ L h' m → News h₀ L h' [] → (∀ keep, (∀ p ∈ keep, p ∈ news) → (∀ p ∈ keep, p.1 ∉ [uld, rl]) → At h' keep) → Renew w w.params mk uld t b nv rows el fr O s.heap h' → (∀ x, s.heap.get? x = none → h₀.get? x = none ∧ NeAll x news) → (∀ x o, h₀.get? x = some o → s.heap.get? x = some o) → Q .none { s with heap := h', toks := tk' }) :
    wpAny (model pw w) (ktrTop dp un gd cn cs L a₀ ccd cl₀ outer) (call (.ref 250) [.ref ul, .int el t1, .int fr t2]) Q E s := by
  have k1 : s.heap.get? uld = some (dictOf (ulEs w.params t rl 0 b nv) 5) := (N _ sub.1).1
  have k2 : s.heap.get? rl = some (listOf rs.toArray n) := (N _ sub.2.1).1
  refine spec_use2 (renew_spec w ul uld rl mk t b t1 t2 nv rs rows n el fr O hO h1 (ne_of_kind k1 k2 rfl)) B F X N T' hk ⟨hp, hr.keep (fun x o _ e => F.keep x o e) (fun x o h _ => h)⟩ sub hd hu ?_
  intro x h' tk' F' nb fr' kp po
  obtain ⟨rfl, po⟩ := po
  refine ret h' tk' F' News.nil (fun keep hk1 hk2 => ?_) po (fun x hx => ⟨(new_ne F hx).2, fun q hq => (free_ne hx (N q hq).1).symm⟩) F.keep
  clear po ret
  induction keep with
  | nil => trivial
  | cons q r ih => exact ⟨kp _ _ (N q (hk1 q (.head _))).1 (hk2 q (.head _)), ih (fun p hp => hk1 p (.tail _ hp)) fun p hp => hk2 p (.tail _ hp)⟩
end
noncomputable abbrev ledR (w : World) (A : Nat → Addr) (T : Nat → Nat → Tok) (rl : Addr) (S : St) : List (Addr × Obj) :=
  [(A 0, dictOf (bufEs w.params (T 0) (T 1) (A 8) (A 9) (A 15) (.ref (A 13)) S.pt S.zv S.ti S.ct S.sv S.up S.uz S.ut S.uc S.us) 20),
   (A 1, dictOf (gapEs w.params (T 2) (.int 8 (T 2 9)) (.ref (A 2)) S.gs S.ge S.gu S.gv) 4), (A 2, listOf S.cells.toArray S.nc),
   (A 3, dictOf (mkEs w.params (T 3) S.adv S.bv S.pos S.um S.vp) 4), (A 4, S.okr),
   (A 5, dictOf (ulEs w.params (T 4) rl 0 (T 4 9) S.nv) 5), (rl, listOf S.rs.toArray S.n)]
def UnDone (w : World) (A : Nat → Addr) (T : Nat → Nat → Tok) (S : St) (rows : List Row) (O : Addr → Prop) (hs h' : Heap) : Prop :=
  ∃ rl' ys R k us', At h' (ledR w A T rl' { S with sv := S.ti, us := us', rs := ys, n := k }) ∧ hs.get? rl' = none ∧ At h' R ∧ (∀ p ∈ R, hs.get? p.1 = none) ∧ (∀ p ∈ R, p.1 ≠ rl') ∧ (∀ (h2 : Heap) (O' : Addr → Prop), (∀ x o, O x → hs.get? x = some o → h2.get? x = some o ∧ O' x) → At h2 R → (∀ p ∈ R, O' p.1) → RowsAt w.params (A 11) O' h2 ys (rows.map (ren S.sv S.ti)))
theorem led_addr {w : World} {A : Nat → Addr} {T : Nat → Nat → Tok} {S : St} {x : Addr} (h : ∀ i, i < 7 → x ≠ A i) : x ∉ (ledL w A T S).map (·.1) :=
  nm_cons (h 0 (by decide)) (nm_cons (h 1 (by decide)) (nm_cons (h 2 (by decide)) (nm_cons (h 3 (by decide)) (nm_cons (h 4 (by decide)) (nm_cons (h 5 (by decide)) (nm_cons (h 6 (by decide)) List.not_mem_nil))))))
namespace un_endN
def zP (w : World) (A : Nat → Addr) (T : Nat → Nat → Tok) (S : St) (rows : List Row) (O : Addr → Prop) (g s h h' : Heap) (us' : Tok) (j : Int) (tj : Tok) (news : List (Addr × Obj)) : Prop := ∀ (hI : Inj A) (hin : ∀ b o, s.get? b = some o → b ∉ (ledL w A T S).map (·.1) → g.get? b = some o) (hO : ∀ x, O x → ∀ i, i < 7 → x ≠ A i) (hkeep : ∀ keep, (∀ p ∈ keep, p ∈ news) → (∀ p ∈ keep, p.1 ∉ [A 5, A 6]) → At h' keep) (hr : Renew w w.params (A 11) (A 5) (T 4) (T 4 9) S.nv rows S.sv S.ti (fun x => O x ∧ ∃ o, s.get? x = some o) h h') (hf : ∀ x, h.get? x = none → g.get? x = none ∧ NeAll x news) (hgh : ∀ x o, g.get? x = some o → h.get? x = some o) (m0 : (A 0, dictOf (bufEs w.params (T 0) (T 1) (A 8) (A 9) (A 15) (.ref (A 13)) S.pt S.zv S.ti S.ct S.ti S.up S.uz S.ut S.uc us') 20) ∈ news) (m1 : (A 1, dictOf (gapEs w.params (T 2) (.int 8 (T 2 9)) (.ref (A 2)) S.gs S.ge S.gu S.gv) 4) ∈ news) (m2 : (A 2, listOf S.cells.toArray S.nc) ∈ news) (m3 : (A 3, dictOf (mkEs w.params (T 3) S.adv S.bv S.pos S.um S.vp) 4) ∈ news) (m4 : (A 4, S.okr) ∈ news) (m5 : (A 5, dictOf (ulEs w.params (T 4) (A 6) 0 (T 4 9) S.nv) 5) ∈ news) (m6 : (A 6, listOf S.rs.toArray S.n) ∈ news), ∃ t, Value.int j tj = .int j t ∧ UnDone w A T S rows O s h'
abbrev zT := (World × (Nat → Addr) × (Nat → Nat → Tok) × St) × ((List Row) × (Addr → Prop) × Heap × Heap) × (Heap × Heap × Tok × Int) × (Tok × (List (Addr × Obj)))
def zQ (x : zT) : Prop := zP x.1.1 x.1.2.1 x.1.2.2.1 x.1.2.2.2 x.2.1.1 x.2.1.2.1 x.2.1.2.2.1 x.2.1.2.2.2 x.2.2.1.1 x.2.2.1.2.1 x.2.2.1.2.2.1 x.2.2.1.2.2.2 x.2.2.2.1 x.2.2.2.2
theorem zne : Nonempty zT := by k_extra "zne"
def zX : zT := pk zne zQ
theorem body : zQ zX := by
  intro hI hin hO hkeep hr hf hgh m0 m1 m2 m3 m4 m5 m6
  obtain ⟨rl', ys, R, k, a1, f1, a2, f2, f3, rr⟩ := hr
  have off : ∀ i, i < 5 → zX.1.2.1 i ∉ [zX.1.2.1 5, zX.1.2.1 6] := fun i hi => nm_cons (hI i 5 hi (by decide)) (nm_cons (hI i 6 (by omega) (by decide)) List.not_mem_nil)
  have get : ∀ i o, i < 5 → (zX.1.2.1 i, o) ∈ zX.2.2.2.2 → zX.2.2.1.2.1.get? (zX.1.2.1 i) = some o := fun i o hi hm =>
    (hkeep [(zX.1.2.1 i, o)] (fun p hp => by rw [List.mem_singleton.mp hp]; exact hm) (fun p hp => by rw [List.mem_singleton.mp hp]; exact off i hi)).1
  have fs : ∀ x, zX.2.2.1.1.get? x = none → zX.2.1.2.2.2.get? x = none := fun x hx => by
    obtain ⟨q1, q2⟩ := hf x hx
    cases q : zX.2.1.2.2.2.get? x with
    | none => rfl
    | some o =>
      have := hin x o q (nm_cons (q2.at m0).symm (nm_cons (q2.at m1).symm (nm_cons (q2.at m2).symm (nm_cons (q2.at m3).symm (nm_cons (q2.at m4).symm (nm_cons (q2.at m5).symm (nm_cons (q2.at m6).symm List.not_mem_nil)))))))
      rw [q1] at this; cases this
  refine ⟨zX.2.2.2.1, rfl, rl', ys, R, k, zX.2.2.1.2.2.1, ⟨get 0 _ (by decide) m0, get 1 _ (by decide) m1, get 2 _ (by decide) m2, get 3 _ (by decide) m3, get 4 _ (by decide) m4, a1.1, a1.2.1, trivial⟩, fs _ f1, a2, fun p hp => fs _ (f2 p hp), f3, fun h2 O' ho hA2 hp => rr h2 O' (fun x o hx hg => ?_) hA2 hp⟩
  obtain ⟨hx, o', e⟩ := hx
  have e2 := hgh _ _ (hin x o' e (led_addr (hO x hx)))
  rw [hg] at e2
  rw [← e2] at e
  exact ho x o hx e
end un_endN
theorem un_end {w A T S rows O g s h h' us' j tj news} : un_endN.zP w A T S rows O g s h h' us' j tj news := pk_all (n := un_endN.zne) (P := un_endN.zQ) un_endN.body ((w, A, T, S), (rows, O, g, s), (h, h', us', j), (tj, news))
namespace uru0_specN
abbrev zS (w : World) (A : Nat → Addr) (T : Nat → Nat → Tok) (S : St) (kl x : Addr) (vs : List Value) (n : Nat) (i tk : Int) (ti a b : Tok) : Prop := Spec w 300 3000 306 [.ref (A 7), .ref kl, .int i ti] [] (fun h => At h [(A 7, instObj 651 (A 0)), (A 0, bufO w A T (.ref (A 13)) S), (kl, listOf vs.toArray n), (x, unO tk a b)]) (fun h v h' => ∃ t, v = .int (i - 1) t)
def zP (w : World) (A : Nat → Addr) (T : Nat → Nat → Tok) (S : St) (kl x : Addr) (vs : List Value) (n : Nat) (i tk : Int) (ti a b : Tok) : Prop := ∀ (hi : 1 ≤ i) (hi' : i ≤ 400000) (g1 : vs[(i - 1).toNat]? = some (.ref x)) (hne : tk ≠ S.sv), zS w A T S kl x vs n i tk ti a b
abbrev zT := (World × (Nat → Addr) × (Nat → Nat → Tok) × St) × (Addr × Addr × (List Value) × Nat) × (Int × Int × Tok × Tok) × Tok
def zQ (x : zT) : Prop := zP x.1.1 x.1.2.1 x.1.2.2.1 x.1.2.2.2 x.2.1.1 x.2.1.2.1 x.2.1.2.2.1 x.2.1.2.2.2 x.2.2.1.1 x.2.2.1.2.1 x.2.2.1.2.2.1 x.2.2.1.2.2.2 x.2.2.2
theorem zne : Nonempty zT := by k_extra "zne"
def zX : zT := pk zne zQ
def b := zX.2.2.2
def zR : Red2 (zS zX.1.1 zX.1.2.1 zX.1.2.2.1 zX.1.2.2.2 zX.2.1.1 zX.2.1.2.1 zX.2.1.2.2.1 zX.2.1.2.2.2 zX.2.2.1.1 zX.2.2.1.2.1 zX.2.2.1.2.2.1 zX.2.2.1.2.2.2 b) SD ED := by k_extra "zR"
def zY : SD × ED := pk ED.ne fun x => zR.1 x.1 x.2
theorem body : zP zX.1.1 zX.1.2.1 zX.1.2.2.1 zX.1.2.2.2 zX.2.1.1 zX.2.1.2.1 zX.2.1.2.2.1 zX.2.1.2.2.2 zX.2.2.1.1 zX.2.2.1.2.1 zX.2.2.1.2.2.1 zX.2.2.1.2.2.2 b := by
  intro hi hi' g1 hne
  refine zR.2 fun zd ze => pk_all (n := ED.ne) (P := fun x => zR.1 x.1 x.2) ?_ (zd, ze)
  show zR.1 zY.1 zY.2
  delta zR; dsimp only
  delta BodyAt; dsimp only
  intro B F X N TT hk hd hu hp ret dA uA hin back F' N' B' X' T'
  (try dsimp only at hin)
  have hA : At zY.2.g [(zX.1.2.1 7, instObj 651 (zX.1.2.1 0)), (zX.1.2.1 0, bufO zX.1.1 zX.1.2.1 zX.1.2.2.1 (.ref (zX.1.2.1 13)) zX.1.2.2.2), (zX.2.1.1, listOf zX.2.1.2.2.1.toArray zX.2.1.2.2.2), (zX.2.1.2.1, unO zX.2.2.1.2.1 zX.2.2.1.2.2.2 b)] := At.keep hp fun b o e => hin b o e List.not_mem_nil
  replace F' : Fr zY.2.g zY.2.L zY.2.h (fun y => List.lookup y [(Str.ofString "at", Value.int zX.2.2.1.1 zX.2.2.1.2.2.1), (Str.ofString "rows", Value.ref zX.2.1.1), (Str.ofString "buffer", Value.ref (zX.1.2.1 7))]) := F'
  (try dsimp only)
  (try k_fold)
  k_steps
  all_goals (try dsimp only)
  all_goals (try contradiction)
  all_goals (try (exfalso; omega))
  all_goals (refine leaveC_of (by assumption) hin back fun kF kept => ?_; try dsimp only)
  all_goals exact ret _ _ _ kF kept ⟨_, rfl⟩
end uru0_specN
theorem uru0_spec (w A T S kl x vs n i tk ti a b) : uru0_specN.zP w A T S kl x vs n i tk ti a b := pk_all (n := uru0_specN.zne) (P := uru0_specN.zQ) uru0_specN.body ((w, A, T, S), (kl, x, vs, n), (i, tk, ti, a), b)
namespace uru1_specN
abbrev zS (w : World) (A : Nat → Addr) (T : Nat → Nat → Tok) (S : St) (kl x : Addr) (vs : List Value) (rows : List Row) (n : Nat) (i : Int) (ti a b : Tok) (O : Addr → Prop) : Prop := Spec w 300 3000 306 [.ref (A 7), .ref kl, .int i ti] (ledL w A T S) (fun h => At h (cstL w A T) ∧ At h [(kl, listOf vs.toArray n), (x, unO S.sv a b)] ∧ RowsAt w.params (A 11) O h S.rs rows) (fun h v h' => ∃ t, v = .int (i - 1) t ∧ UnDone w A T S rows O h h')
def zP (w : World) (A : Nat → Addr) (T : Nat → Nat → Tok) (S : St) (kl x : Addr) (vs : List Value) (rows : List Row) (n : Nat) (i : Int) (ti a b : Tok) (O : Addr → Prop) : Prop := ∀ (hI : Inj A) (hO : ∀ x, O x → ∀ i, i < 7 → x ≠ A i) (hkl : ∀ i, i < 16 → kl ≠ A i) (hx : ∀ i, i < 16 → x ≠ A i) (hi : 1 ≤ i) (hi' : i ≤ 400000) (g1 : vs[(i - 1).toNat]? = some (.ref x)) (h1 : S.rs.length ≤ 400000), zS w A T S kl x vs rows n i ti a b O
abbrev zT := (World × (Nat → Addr) × (Nat → Nat → Tok) × St) × (Addr × Addr × (List Value) × (List Row)) × (Nat × Int × Tok × Tok) × (Tok × (Addr → Prop))
def zQ (x : zT) : Prop := zP x.1.1 x.1.2.1 x.1.2.2.1 x.1.2.2.2 x.2.1.1 x.2.1.2.1 x.2.1.2.2.1 x.2.1.2.2.2 x.2.2.1.1 x.2.2.1.2.1 x.2.2.1.2.2.1 x.2.2.1.2.2.2 x.2.2.2.1 x.2.2.2.2
theorem zne : Nonempty zT := by k_extra "zne"
def zX : zT := pk zne zQ
def x := zX.2.1.2.1
def zR : Red2 (zS zX.1.1 zX.1.2.1 zX.1.2.2.1 zX.1.2.2.2 zX.2.1.1 x zX.2.1.2.2.1 zX.2.1.2.2.2 zX.2.2.1.1 zX.2.2.1.2.1 zX.2.2.1.2.2.1 zX.2.2.1.2.2.2 zX.2.2.2.1 zX.2.2.2.2) SD ED := by k_extra "zR"
def zY : SD × ED := pk ED.ne fun x => zR.1 x.1 x.2
theorem body : zP zX.1.1 zX.1.2.1 zX.1.2.2.1 zX.1.2.2.2 zX.2.1.1 x zX.2.1.2.2.1 zX.2.1.2.2.2 zX.2.2.1.1 zX.2.2.1.2.1 zX.2.2.1.2.2.1 zX.2.2.1.2.2.2 zX.2.2.2.1 zX.2.2.2.2 := by
  intro hI hO hkl hx hi hi' g1 h1
  refine zR.2 fun zd ze => pk_all (n := ED.ne) (P := fun x => zR.1 x.1 x.2) ?_ (zd, ze)
  show zR.1 zY.1 zY.2
  delta zR; dsimp only
  delta BodyAt; dsimp only
  intro B F X N TT hk hd hu hp ret dA uA hin back F' N' B' X' T'
  (try dsimp only at hin)
  have hA : At zY.2.g [(zX.1.2.1 7, instObj 651 (zX.1.2.1 0)), (zX.1.2.1 8, instObj 400 (zX.1.2.1 1)), (zX.1.2.1 9, instObj 545 (zX.1.2.1 10)), (zX.1.2.1 10, dictOf (ksEs zX.1.1.params (zX.1.2.2.1 5 0) (zX.1.2.1 4)) 1), (zX.1.2.1 11, instObj 477 (zX.1.2.1 3)), (zX.1.2.1 12, instObj 260 (zX.1.2.1 5)), (zX.1.2.1 13, instObj 717 (zX.1.2.1 14)), (zX.1.2.1 14, dictOf (rcEs zX.1.1.params (zX.1.2.2.1 5 1) (zX.1.2.1 12)) 1), (zX.1.2.1 15, listOf #[] 0), (zX.2.1.1, listOf zX.2.1.2.2.1.toArray zX.2.2.1.1), (x, unO zX.1.2.2.2.sv zX.2.2.1.2.2.2 zX.2.2.2.1)] :=
    At.append (cst_into hI hin hp.1) ⟨hin _ _ hp.2.1.1 (off7 hkl), hin _ _ hp.2.1.2.1 (off7 hx), trivial⟩
  have hR : RowsAt zX.1.1.params (zX.1.2.1 11) (fun x => zX.2.2.2.2 x ∧ ∃ o, zY.1.sh.get? x = some o) zY.2.g zX.1.2.2.2.rs zX.2.1.2.2.2 := hp.2.2.keep (fun x o hx hg => hin x o hg (led_addr (hO x hx))) (fun x o hx hg => ⟨hx, o, hg⟩)
  have hO2 : ∀ x, (zX.2.2.2.2 x ∧ ∃ o, zY.1.sh.get? x = some o) → x ≠ zX.1.2.1 5 ∧ x ≠ zX.1.2.1 6 := fun x hx => ⟨hO x hx.1 5 (by decide), hO x hx.1 6 (by decide)⟩
  replace F' : Fr zY.2.g zY.2.L zY.2.h (fun y => List.lookup y [(Str.ofString "at", Value.int zX.2.2.1.2.1 zX.2.2.1.2.2.1), (Str.ofString "rows", Value.ref zX.2.1.1), (Str.ofString "buffer", Value.ref (zX.1.2.1 7))]) := F'
  dsimp only [ledL] at N'
  (try dsimp only)
  (try k_fold)
  k_steps
  all_goals (try dsimp only)
  all_goals (try contradiction)
  all_goals (try (exfalso; omega))
  all_goals (refine leaveC_of (by assumption) hin back fun kF kept => ?_; try dsimp only)
  all_goals exact ret _ _ _ kF kept (un_end hI hin hO (by assumption) (by assumption) (by assumption) (by assumption) (by k_dflt k_mem) (by k_dflt k_mem) (by k_dflt k_mem) (by k_dflt k_mem) (by k_dflt k_mem) (by k_dflt k_mem) (by k_dflt k_mem))
end uru1_specN
theorem uru1_spec (w A T S kl x vs rows n i ti a b O) : uru1_specN.zP w A T S kl x vs rows n i ti a b O := pk_all (n := uru1_specN.zne) (P := uru1_specN.zQ) uru1_specN.body ((w, A, T, S), (kl, x, vs, rows), (n, i, ti, a), (b, O))
end
section
open N_Dr
def AllInts (vs : List Value) : Prop := ∀ v ∈ vs, ∃ n t, v = .int n t
def AllNN (vs : List Value) : Prop := ∀ v ∈ vs, ∃ n t, v = .int n t ∧ 0 ≤ n
section
variable {prog : Program} {w : World} {A : Around} {E : Value → Shared → Prop} {s : Shared} {l l2 D : Addr} {vs ws : List Value} {i : Int} {u : Tok} {v : Value} {h₀ : Heap} {L : Addr} {m : Str → Option Value} {news news' : List (Addr × Obj)} {n : Nat}
theorem item_int {value slice : PySem.Expr} {Q : Value → Shared → Prop} (hl : s.heap.IsList l vs.toArray) (hv : AllInts vs) (h0 : 0 ≤ i) (h1 : i < vs.length) (h2 : vs.length ≤ 1000000) (h : ∀ n t, Q (.int n t) s)
    (hs : subscripted slice false (.ref l) (.int i u) = operate [.ref l, .int i u] (getItem (.ref l) (.int i u)) := by with_unfolding_all rfl) :
    wpAny (model prog w) A (subscriptTail value slice (.ref l) (.int i u)) Q E s := by
  have hi : i.toNat < vs.length := by omega
  obtain ⟨n, t, e⟩ := hv _ (List.getElem_mem hi)
  refine item_atT hl h0 (by omega) (v := .int n t) ?_ (h n t) hs
  rw [List.getElem?_eq_getElem hi, e]
theorem pop_hd {Q : Value → Shared → Prop} (F : Fr h₀ L s.heap m) (N : News h₀ L s.heap news) (U : Upd D (listOf (v :: vs).toArray n) (listOf vs.toArray (n + 1)) news news') (hz : vs.length ≤ 1000) (h : ∀ h', Fr h₀ L h' m → News h₀ L h' news' → Q v { s with heap := h' }) :
    wpAny (model prog w) A (call (.builtin "list.pop") [.ref D, .int 0 u]) Q E s :=
  kl_popAt (its := (v :: vs).toArray) (p := []) (q := vs) (k := 0) F N rfl (by unfold seqIndex?; simp) rfl U (by rw [sizeLine_eq]; simp; omega) h
theorem ne_nil {Q : Value → Shared → Prop} (hl : s.heap.IsList l ([] : List Value).toArray) (hb : s.heap.IsList l2 ([] : List Value).toArray) (hu : A.units < cLine) (h : Q (.bool false) s) : wpAny (model prog w) A (compareOp .NotEq (.ref l) (.ref l2)) Q E s :=
  PySem.SeqAt.RcNeAt.lists (e := fun _ => true) hl hb rfl hu (fun j h1 _ => absurd h1 (Nat.not_lt_zero _)) prog w E Q h
theorem ne_cons {Q : Value → Shared → Prop} (hl : s.heap.IsList l (v :: vs).toArray) (hb : s.heap.IsList l2 ([] : List Value).toArray) (hu : A.units < cLine) (h : Q (.bool true) s) : wpAny (model prog w) A (compareOp .NotEq (.ref l) (.ref l2)) Q E s :=
  PySem.SeqAt.RcNeAt.lists_lengths hl hb (by simp) hu prog w E Q h
end
noncomputable abbrev dkL (dk d0 d1 : Addr) (xs : List Value) (c : Int) (tc : Tok) (n0 n1 : Nat) : List (Addr × Obj) := [(dk, listOf [Value.ref d0, .ref d1, .int c tc].toArray n0), (d0, listOf xs.toArray n1)]
theorem dr_end {g h' : Heap} {L' dk d0 d1 : Addr} {c r many : Int} {tc t : Tok} {n0 n1 : Nat} {news : List (Addr × Obj)} (N : News g L' h' news) (m0 : (dk, listOf [Value.ref d0, .ref d1, .int c tc].toArray n0) ∈ news) (m1 : (d0, listOf ([] : List Value).toArray n1) ∈ news) (h0 : 0 ≤ r) (h1 : r < many) :
    ∃ r' t' tc' n0', Value.int r t = .int r' t' ∧ 0 ≤ r' ∧ r' < many ∧ At h' (dkL dk d0 d1 [] c tc' n0' n1) := ⟨r, t, tc, n0, rfl, h0, h1, ⟨(N _ m0).1, (N _ m1).1, trivial⟩⟩
namespace draw0_specN
abbrev zS (w : World) (dk d0 d1 : Addr) (ys : List Value) (c many : Int) (tc tm : Tok) (n0 n1 n2 : Nat) : Prop := Spec w 20 200 733 [.ref dk, .int many tm] (dkL dk d0 d1 [] c tc n0 n1) (fun h => h.get? d1 = some (listOf ys.toArray n2)) (fun h v h' => ∃ r t tc' n0', v = .int r t ∧ 0 ≤ r ∧ r < many ∧ At h' (dkL dk d0 d1 [] (c + 1) tc' n0' n1))
def zP (w : World) (dk d0 d1 : Addr) (ys : List Value) (c many : Int) (tc tm : Tok) (n0 n1 n2 : Nat) : Prop := ∀ (hy : AllInts ys) (hy1 : 1 ≤ ys.length) (hy2 : ys.length ≤ 1000) (hc : 0 ≤ c) (hc' : c ≤ 1000) (hm : 1 ≤ many) (hm' : many ≤ 1000) (c1 : dk ≠ d0) (c2 : d1 ≠ dk) (c3 : d1 ≠ d0), zS w dk d0 d1 ys c many tc tm n0 n1 n2
abbrev zT := (World × Addr × Addr) × (Addr × (List Value) × Int) × (Int × Tok × Tok) × (Nat × Nat × Nat)
def zQ (x : zT) : Prop := zP x.1.1 x.1.2.1 x.1.2.2 x.2.1.1 x.2.1.2.1 x.2.1.2.2 x.2.2.1.1 x.2.2.1.2.1 x.2.2.1.2.2 x.2.2.2.1 x.2.2.2.2.1 x.2.2.2.2.2
theorem zne : Nonempty zT := by k_extra "zne"
def zX : zT := pk zne zQ
def zR : Red2 (zS zX.1.1 zX.1.2.1 zX.1.2.2 zX.2.1.1 zX.2.1.2.1 zX.2.1.2.2 zX.2.2.1.1 zX.2.2.1.2.1 zX.2.2.1.2.2 zX.2.2.2.1 zX.2.2.2.2.1 zX.2.2.2.2.2) SD ED := by k_extra "zR"
def zY : SD × ED := pk ED.ne fun x => zR.1 x.1 x.2
theorem body : zQ zX := by
  intro hy hy1 hy2 hc hc' hm hm' c1 c2 c3
  refine zR.2 fun zd ze => pk_all (n := ED.ne) (P := fun x => zR.1 x.1 x.2) ?_ (zd, ze)
  show zR.1 zY.1 zY.2
  delta zR; dsimp only
  delta BodyAt; dsimp only
  intro B F X N TT hk hd hu hp ret dA uA hin back F' N' B' X' T'
  (try dsimp only at hin)
  have hA : At zY.2.g [(zX.2.1.1, listOf zX.2.1.2.1.toArray zX.2.2.2.2.2)] := ⟨hin _ _ hp (nm_cons c2 (nm_cons c3 List.not_mem_nil)), trivial⟩
  replace F' : Fr zY.2.g zY.2.L zY.2.h (fun y => List.lookup y [(Str.ofString "many", Value.int zX.2.2.1.1 zX.2.2.1.2.2), (Str.ofString "deck", Value.ref zX.1.2.1)]) := F'
  dsimp only [dkL] at N'
  (try dsimp only)
  (try k_fold)
  k_steps
  all_goals (try dsimp only)
  all_goals (refine leaveC_of (by assumption) hin back fun kF kept => ?_; try dsimp only)
  all_goals exact ret _ _ _ kF kept (dr_end (by assumption) (by k_dflt k_mem) (by k_dflt k_mem) (Int.fmod_nonneg_of_pos _ (by omega)) (Int.fmod_lt_of_pos _ (by omega)))
end draw0_specN
theorem draw0_spec (w dk d0 d1 ys c many tc tm n0 n1 n2) : draw0_specN.zP w dk d0 d1 ys c many tc tm n0 n1 n2 := pk_all (n := draw0_specN.zne) (P := draw0_specN.zQ) draw0_specN.body ((w, dk, d0), (d1, ys, c), (many, tc, tm), (n0, n1, n2))
theorem dr_end1 {g h' : Heap} {L' dk d0 d1 : Addr} {xs ws : List Value} {c r many : Int} {tc t : Tok} {n0 n1 : Nat} {news : List (Addr × Obj)} (N : News g L' h' news) (m0 : (dk, listOf [Value.ref d0, .ref d1, .int c tc].toArray n0) ∈ news) (m1 : (d0, listOf ws.toArray n1) ∈ news) (h0 : 0 ≤ r) (h1 : r < many) (hw : AllNN ws) (hl : ws.length ≤ xs.length + 1) :
    ∃ r' t' xs' n0' n1', Value.int r t = .int r' t' ∧ 0 ≤ r' ∧ r' < many ∧ At h' (dkL dk d0 d1 xs' c tc n0' n1') ∧ AllNN xs' ∧ xs'.length ≤ xs.length + 1 := ⟨r, t, ws, n0, n1, rfl, h0, h1, ⟨(N _ m0).1, (N _ m1).1, trivial⟩, hw, hl⟩
theorem AllNN.cons {x : Int} {t : Tok} {xs : List Value} (h : AllNN xs) (h0 : 0 ≤ x) : AllNN (.int x t :: xs) := fun v hv => by
  rcases List.mem_cons.mp hv with rfl | hv
  · exact ⟨x, t, rfl, h0⟩
  · exact h v hv
namespace draw1_specN
abbrev zS (w : World) (dk d0 d1 : Addr) (xs : List Value) (x c many : Int) (tx tc tm : Tok) (n0 n1 : Nat) : Prop := Spec w 20 200 733 [.ref dk, .int many tm] (dkL dk d0 d1 (.int x tx :: xs) c tc n0 n1) (fun h => True) (fun h v h' => ∃ r t xs' n0' n1', v = .int r t ∧ 0 ≤ r ∧ r < many ∧ At h' (dkL dk d0 d1 xs' c tc n0' n1') ∧ AllNN xs' ∧ xs'.length ≤ xs.length + 1)
def zP (w : World) (dk d0 d1 : Addr) (xs : List Value) (x c many : Int) (tx tc tm : Tok) (n0 n1 : Nat) : Prop := ∀ (hx : 0 ≤ x) (hxs : AllNN xs) (hxl : xs.length ≤ 1000) (hm : 1 ≤ many) (hm' : many ≤ 1000) (c1 : dk ≠ d0), zS w dk d0 d1 xs x c many tx tc tm n0 n1
abbrev zT := (World × Addr × Addr × Addr) × ((List Value) × Int × Int × Int) × (Tok × Tok × Tok × Nat) × Nat
def zQ (x : zT) : Prop := zP x.1.1 x.1.2.1 x.1.2.2.1 x.1.2.2.2 x.2.1.1 x.2.1.2.1 x.2.1.2.2.1 x.2.1.2.2.2 x.2.2.1.1 x.2.2.1.2.1 x.2.2.1.2.2.1 x.2.2.1.2.2.2 x.2.2.2
theorem zne : Nonempty zT := by k_extra "zne"
def zX : zT := pk zne zQ
def zR : Red2 (zS zX.1.1 zX.1.2.1 zX.1.2.2.1 zX.1.2.2.2 zX.2.1.1 zX.2.1.2.1 zX.2.1.2.2.1 zX.2.1.2.2.2 zX.2.2.1.1 zX.2.2.1.2.1 zX.2.2.1.2.2.1 zX.2.2.1.2.2.2 zX.2.2.2) SD ED := by k_extra "zR"
def zY : SD × ED := pk ED.ne fun x => zR.1 x.1 x.2
theorem body : zQ zX := by
  intro hx hxs hxl hm hm' c1
  refine zR.2 fun zd ze => pk_all (n := ED.ne) (P := fun x => zR.1 x.1 x.2) ?_ (zd, ze)
  show zR.1 zY.1 zY.2
  delta zR; dsimp only
  delta BodyAt; dsimp only
  intro B F X N TT hk hd hu hp ret dA uA hin back F' N' B' X' T'
  (try dsimp only at hin)
  replace F' : Fr zY.2.g zY.2.L zY.2.h (fun y => List.lookup y [(Str.ofString "many", Value.int zX.2.1.2.2.2 zX.2.2.1.2.2.1), (Str.ofString "deck", Value.ref zX.1.2.1)]) := F'
  dsimp only [dkL] at N'
  have hA : At zY.2.g [] := trivial
  (try dsimp only)
  (try k_fold)
  k_steps
  all_goals (try dsimp only)
  all_goals (try contradiction)
  all_goals (refine leaveC_of (by assumption) hin back fun kF kept => ?_; try dsimp only)
  all_goals first
    | exact ret _ _ _ kF kept (dr_end1 (ws := zX.2.1.1) (by assumption) (by k_dflt k_mem) (by k_dflt k_mem) (Int.fmod_nonneg_of_pos _ (by omega)) (Int.fmod_lt_of_pos _ (by omega)) hxs (Nat.le_succ _))
    | exact ret _ _ _ kF kept (dr_end1 (ws := .int _ _ :: zX.2.1.1) (by assumption) (by k_dflt k_mem) (by k_dflt k_mem) (Int.fmod_nonneg_of_pos _ (by omega)) (Int.fmod_lt_of_pos _ (by omega)) (hxs.cons (Int.fdiv_nonneg hx (by omega))) (Nat.le_refl _))
end draw1_specN
theorem draw1_spec (w dk d0 d1 xs x c many tx tc tm n0 n1) : draw1_specN.zP w dk d0 d1 xs x c many tx tc tm n0 n1 := pk_all (n := draw1_specN.zne) (P := draw1_specN.zQ) draw1_specN.body ((w, dk, d0, d1), (xs, x, c, many), (tx, tc, tm, n0), n1)
end
section
open N_Dk
section
open PyProof.Rows.LCg PyProof.Rows.LCt
variable {prog : Program} {w : World} {A : Around} {h₀ : Heap} {L : Addr} {m : Str → Option Value} {env : Env} {ct elt : PySem.Expr} {x : Str} {scope : Scope} {cl : List (Str × Addr)} {s : Shared} {S : List (Addr × Obj) → Prop} {P : Nat → Value → Prop} {Fin : List Value → List (Addr × Obj) → Prop}
theorem comp_indT (Inv : Nat → List Value → List (Addr × Obj) → Prop) (n : Nat)
    (fin : ∀ ys news, Inv n ys news → Fin ys news)
    (step : ∀ i ys news, i < n → Inv i ys news → ∀ v I oI C oC D m₂ h tk (E' : Value → Shared → Prop), P i v → NsObj oC m₂ → m₂ x = some v → Fr h₀ L h m → News h₀ L h ((I, oI) :: (C, oC) :: (D, lst ys) :: news) → Off3 I C D news → ((@Ne Nat I C) ∧ (@Ne Nat I D) ∧ (@Ne Nat C D)) →
      wpAny (model prog w) A (isTrue ct (compEnvC scope cl C env) (eval ct (compEnvC scope cl C env))) (fun ok s' => if ok = true then
        wpAny (model prog w) A (eval elt (compEnvC scope cl C env)) (CompEnd h₀ L m { s with heap := h, toks := tk } I oI C oC D (lst ys) S (fun y news' => Inv (i + 1) (ys ++ [y]) news')) E' s'
        else CompEnd h₀ L m { s with heap := h, toks := tk } I oI C oC D (lst ys) S (fun _ news' => Inv (i + 1) ys news') Value.none s') E' { s with heap := h, toks := tk }) :
    ∀ k i ys news, k + i = n → Inv i ys news → CompRestT prog w A h₀ L m env ct elt x scope cl s S P Fin k i ys news := by
  intro k
  induction k with
  | zero => intro i ys news e H; exact CompRestT.zero (fin _ _ (by rw [← e, Nat.zero_add]; exact H))
  | succ k ih =>
    intro i ys news e H
    refine CompRestT.succ fun v I oI C oC D m₂ h tk E' h1 h2 h3 F N off ne => ?_
    refine wpAny_mono (step i ys news (by omega) H v I oI C oC D m₂ h tk E' h1 h2 h3 F N off ne) (fun ok s' hy => ?_) fun _ _ z => z
    cases ok with
    | true => exact wpAny_mono hy (fun y s' hy => compEnd_mono hy fun n' hn => ih (i + 1) _ _ (by omega) hn) fun _ _ z => z
    | false =>
      simp only [Bool.false_eq_true, if_false] at hy
      exact compEnd_mono (r' := fun _ news' => CompRestT prog w A h₀ L m env ct elt x scope cl s S P Fin k (i + 1) ys news') hy fun n' hn => ih (i + 1) _ _ (by omega) hn
end
theorem AllInts.of {vs : List Value} {ns : List Int} (h : IntsAre vs ns) : AllInts vs := by
  induction h with
  | nil => exact fun v hv => absurd hv List.not_mem_nil
  | cons n t _ ih =>
    intro v hv
    rcases List.mem_cons.mp hv with rfl | hv
    · exact ⟨n, t, rfl⟩
    · exact ih v hv
theorem AllNN.snoc {x : Int} {t : Tok} {xs : List Value} (h : AllNN xs) (h0 : 0 ≤ x) : AllNN (xs ++ [.int x t]) := fun v hv => by
  rcases List.mem_append.mp hv with hv | hv
  · exact h v hv
  · rw [List.mem_singleton.mp hv]; exact ⟨x, t, rfl, h0⟩
theorem dk_end {g s h' : Heap} {L' dk d0 d1 : Addr} {xs ys : List Value} {tc : Tok} {n0 n1 n2 : Nat} {news : List (Addr × Obj)} (hin : ∀ b o, s.get? b = some o → b ∉ (([] : List (Addr × Obj)).map (·.1)) → g.get? b = some o) (N : News g L' h' news)
    (m0 : (dk, listOf [Value.ref d0, .ref d1, .int 0 tc].toArray n0) ∈ news) (m1 : (d0, listOf xs.toArray n1) ∈ news) (m2 : (d1, listOf ys.toArray n2) ∈ news) (e1 : dk ≠ d0) (e2 : d1 ≠ dk) (e3 : d1 ≠ d0) (h1 : AllNN xs) (h2 : xs.length ≤ 63) (h3 : AllInts ys) (h4 : 1 ≤ ys.length) (h5 : ys.length ≤ 64) :
    ∃ dk' d0 d1 xs ys tc n0 n1 n2, Value.ref dk = .ref dk' ∧ At h' (dkL dk' d0 d1 xs 0 tc n0 n1) ∧ h'.get? d1 = some (listOf (ys : List Value).toArray n2) ∧ s.get? dk' = none ∧ s.get? d0 = none ∧ s.get? d1 = none ∧ dk' ≠ d0 ∧ d1 ≠ dk' ∧ d1 ≠ d0 ∧ AllNN xs ∧ xs.length ≤ 63 ∧ AllInts ys ∧ 1 ≤ ys.length ∧ ys.length ≤ 64 :=
  ⟨dk, d0, d1, xs, ys, tc, n0, n1, n2, rfl, ⟨(N _ m0).1, (N _ m1).1, trivial⟩, (N _ m2).1, free_of hin N m0 List.not_mem_nil, free_of hin N m1 List.not_mem_nil, free_of hin N m2 List.not_mem_nil, e1, e2, e3, h1, h2, h3, h4, h5⟩
namespace deck_specN
abbrev zS (w : World) (sa : Addr) (vs : List Value) (ns : List Int) : Prop := Spec w 40 400 726 [.ref sa] [] (fun h => h.IsList sa vs.toArray) (fun h v h' => ∃ dk d0 d1 xs ys tc n0 n1 n2, v = .ref dk ∧ At h' (dkL dk d0 d1 xs 0 tc n0 n1) ∧ h'.get? d1 = some (listOf (ys : List Value).toArray n2) ∧ h.get? dk = none ∧ h.get? d0 = none ∧ h.get? d1 = none ∧ dk ≠ d0 ∧ d1 ≠ dk ∧ d1 ≠ d0 ∧ AllNN xs ∧ xs.length ≤ 63 ∧ AllInts ys ∧ 1 ≤ ys.length ∧ ys.length ≤ 64)
def zP (w : World) (sa : Addr) (vs : List Value) (ns : List Int) : Prop := ∀ (hi : IntsAre vs ns) (hl : vs.length ≤ 63), zS w sa vs ns
abbrev zT := World × Addr × (List Value) × (List Int)
def zQ (x : zT) : Prop := zP x.1 x.2.1 x.2.2.1 x.2.2.2
theorem zne : Nonempty zT := by k_extra "zne"
def zX : zT := pk zne zQ
def zR : Red2 (zS zX.1 zX.2.1 zX.2.2.1 zX.2.2.2) SD ED := by k_extra "zR"
def zY : SD × ED := pk ED.ne fun x => zR.1 x.1 x.2
theorem body : zQ zX := by
  intro hi hl
  refine zR.2 fun zd ze => pk_all (n := ED.ne) (P := fun x => zR.1 x.1 x.2) ?_ (zd, ze)
  show zR.1 zY.1 zY.2
  delta zR; dsimp only
  delta BodyAt; dsimp only
  intro B F X N TT hk hd hu hp ret dA uA hin back F' N' B' X' T'
  (try dsimp only at hin)
  have hS : zY.2.g.IsList zX.2.1 zX.2.2.1.toArray := hp.at fun o e => hin _ o e List.not_mem_nil
  replace F' : Fr zY.2.g zY.2.L zY.2.h (fun y => List.lookup y [(Str.ofString "script", Value.ref zX.2.1)]) := F'
  have hA : At zY.2.g [] := trivial
  (try dsimp only)
  (try k_fold)
  k_steps
  all_goals (try dsimp only)
  (rename News _ _ _ _ => kN)
  have hY := (by assumption : IntsAre _ (List.map (fun k' => if k' < 0 then -k' else k') (List.take 20 zX.2.2.2)))
  have hYl := hY.length
  rw [List.length_map, List.length_take] at hYl
  refine LCt.CompSrcT.ledger rfl (by k_asm) kN (by k_dflt k_mem) (room_vs (by omega)) ?_
  intro gg
  refine comp_indT (fun i ys' news => news = _ ∧ AllNN ys' ∧ ys'.length ≤ i) _ ?fin ?step _ 0 [] _ (Nat.add_zero _) ⟨rfl, (fun v hv => absurd hv List.not_mem_nil), Nat.le_refl _⟩
  case step =>
    rintro i ys' news hi ⟨rfl, h1, h2⟩ v I oI C oC D m₂ h tk E' hv hC hx F' N' off ne
    clear kN
    obtain ⟨n, t, rfl⟩ := AllInts.of hY v (by rw [List.getElem?_toArray] at hv; exact List.mem_of_getElem? hv)
    k_steps
    · exact LCg.CompEnd.intro (by assumption) N' _ (fun p hp => hp) off (.inr ⟨_, by k_dflt k_mem, rfl, _, rfl⟩) ⟨rfl, h1.snoc (Int.le_trans (by decide) (by assumption : (10 : Int) ^ Int.toNat 18 ≤ n)), by rw [List.length_append, List.length_singleton]; omega⟩
    · exact LCg.CompEnd.intro (by assumption) N' _ (fun p hp => hp) off (.inr ⟨_, by k_dflt k_mem, rfl, _, rfl⟩) ⟨rfl, h1, by omega⟩
  case fin =>
    rintro ys' news ⟨rfl, h1, h2⟩
    clear kN
    unfold LCg.FinE
    intro D' h' tk' F' N' o1'
    replace o1' := neAll_off1 o1'
    k_steps
    all_goals (try dsimp only)
    all_goals (refine leaveC_of (by assumption) hin back fun kF kept => ?_; try dsimp only)
    have hW := (by assumption : IntsAre _ (List.map (fun k' => if k' < 0 then -k' else k') (List.take 20 zX.2.2.2) ++ [_]))
    have hWl := hW.length
    rw [List.length_append, List.length_map, List.length_take, List.length_singleton] at hWl
    exact ret _ _ _ kF kept (dk_end hin (by assumption) (by k_dflt k_mem) (by k_dflt k_mem) (by k_dflt k_mem) (by k_ne) (by k_ne) (by k_ne) h1 (Nat.le_trans h2 (by rw [List.size_toArray]; omega)) (AllInts.of hW) (by omega) (by omega))
end deck_specN
theorem deck_spec (w sa vs ns) : deck_specN.zP w sa vs ns := pk_all (n := deck_specN.zne) (P := deck_specN.zQ) deck_specN.body (w, sa, vs, ns)
end
section
open N_Cm
section
variable {w : World} {p : Program} {loose : List Str} {mean : ExcName → Option Value} {mg mb : Str → Option Value} {dp un : Nat} {gd : Option (List Code)} {cn : Str} {cs : Scope} {a₀ : Addr} {ccd : Value} {cl₀ : List (Str × Addr)} {outer : List Env} {A₀ : Around} {base h₀ : Heap} {L : Addr} {m : Str → Option Value} {s : Shared} {Q E : Value → Shared → Prop} {news : List (Addr × Obj)}
theorem draw_use {dk d0 d1 : Addr} {xs ys : List Value} {c many : Int} {tc tm : Tok} {n0 n1 n2 : Nat} (B : Below A₀ base outer h₀) (F : Fr h₀ L s.heap m) (X : (KK w.params).In h₀) (N : News h₀ L s.heap news) (T' : Top p loose mean mg mb h₀) (hk : cs.kind = .function)
    (sub : Subl (dkL dk d0 d1 xs c tc n0 n1) news) (hp : s.heap.get? d1 = some (listOf ys.toArray n2)) (hxs : AllNN xs) (hxl : xs.length ≤ 63) (hy : AllInts ys) (hy1 : 1 ≤ ys.length) (hy2 : ys.length ≤ 64) (hc : 0 ≤ c) (hc' : c ≤ 900) (hm : 1 ≤ many) (hm' : many ≤ 1000) (c1 : dk ≠ d0) (c2 : d1 ≠ dk) (c3 : d1 ≠ d0) (hd : dp + 20 < recursionLimit) (hu : un + 200 < cLine)
    (ret : ∀ r t xs' c' tc' n0' n1' h' tk', Fr h₀ L h' m → (∀ new, Repl [dk, d0] [(dk, listOf [Value.ref d0, .ref d1, .int c' tc'].toArray n0'), (d0, listOf (xs' : List Value).toArray n1')] news new → News h₀ L h' new) → 0 ≤ r → r < many → AllNN xs' → xs'.length ≤ 63 → 0 ≤ c' → c' ≤ c + 1 → Q (.int r t) { s with heap := h', toks := tk' }) :
    wpAny (model pw w) (ktrTop dp un gd cn cs L a₀ ccd cl₀ outer) (call (.ref 733) [.ref dk, .int many tm]) Q E s := by
  cases xs with
  | nil =>
    refine spec_use2 (draw0_spec w dk d0 d1 ys c many tc tm n0 n1 n2 hy hy1 (by omega) hc (by omega) hm hm' c1 c2 c3) B F X N T' hk hp sub hd hu ?_
    intro x h' tk' F' nb fr kp po
    obtain ⟨r, t, tc', n0', rfl, h0, h1, A'⟩ := po
    exact ret r t [] (c + 1) tc' n0' n1 h' tk' F' (fun new R => nb _ _ A' R) h0 h1 hxs hxl (by omega) (Int.le_refl _)
  | cons v xs =>
    obtain ⟨x, tx, rfl, hx⟩ := hxs v (.head _)
    have hl : xs.length + 1 ≤ 63 := hxl
    refine spec_use2 (draw1_spec w dk d0 d1 xs x c many tx tc tm n0 n1 hx (fun v hv => hxs v (.tail _ hv)) (by omega) hm hm' c1) B F X N T' hk trivial sub hd hu ?_
    intro x h' tk' F' nb fr kp po
    obtain ⟨r, t, xs', n0', n1', rfl, h0, h1, A', h2, h3⟩ := po
    exact ret r t xs' c tc n0' n1' h' tk' F' (fun new R => nb _ _ A' R) h0 h1 h2 (by omega) hc (by omega)
theorem cst_ne {A : Nat → Addr} {T : Nat → Nat → Tok} {x : Addr} (hx : h₀.get? x = none) (h : At h₀ (cstL w A T)) (h7 : x ∉ [A 0, A 1, A 2, A 3, A 4, A 5, A 6]) : ∀ i, i < 16 → x ≠ A i := by
  have ne : ∀ y o, h₀.get? y = some o → x ≠ y := fun y o e => free_ne hx e
  obtain ⟨a7, a8, a9, a10, a11, a12, a13, a14, a15, _⟩ := h
  simp only [List.mem_cons, List.not_mem_nil, or_false, not_or] at h7
  obtain ⟨b0, b1, b2, b3, b4, b5, b6⟩ := h7
  intro i hi
  have : i = 0 ∨ i = 1 ∨ i = 2 ∨ i = 3 ∨ i = 4 ∨ i = 5 ∨ i = 6 ∨ i = 7 ∨ i = 8 ∨ i = 9 ∨ i = 10 ∨ i = 11 ∨ i = 12 ∨ i = 13 ∨ i = 14 ∨ i = 15 := lt16 i hi
  rcases this with rfl | rfl | rfl | rfl | rfl | rfl | rfl | rfl | rfl | rfl | rfl | rfl | rfl | rfl | rfl | rfl
  · exact b0
  · exact b1
  · exact b2
  · exact b3
  · exact b4
  · exact b5
  · exact b6
  · exact ne _ _ a7
  · exact ne _ _ a8
  · exact ne _ _ a9
  · exact ne _ _ a10
  · exact ne _ _ a11
  · exact ne _ _ a12
  · exact ne _ _ a13
  · exact ne _ _ a14
  · exact ne _ _ a15
noncomputable abbrev ledQ (w : World) (A : Nat → Addr) (T : Nat → Nat → Tok) (S : St) (pt : Int) (up : Tok) (rs : List Value) (n : Nat) : List (Addr × Obj) :=
  [(A 0, dictOf (bufEs w.params (T 0) (T 1) (A 8) (A 9) (A 15) (.ref (A 13)) pt S.zv S.ti S.ct S.sv up S.uz S.ut S.uc S.us) 20),
   (A 1, dictOf (gapEs w.params (T 2) (.int 8 (T 2 9)) (.ref (A 2)) S.gs S.ge S.gu S.gv) 4), (A 2, listOf S.cells.toArray S.nc),
   (A 3, dictOf (mkEs w.params (T 3) S.adv S.bv S.pos S.um S.vp) 4), (A 4, S.okr),
   (A 5, dictOf (ulEs w.params (T 4) (A 6) 0 (T 4 9) S.nv) 5), (A 6, listOf rs.toArray n)]
noncomputable abbrev setQ (S : St) (pt : Int) (up : Tok) (rs : List Value) (n : Nat) : St := { S with pt := pt, up := up, rs := rs, n := n }
theorem insert_useQ {A : Nat → Addr} {T : Nat → Nat → Tok} {S : St} {cl : Addr} {nk : Nat} {codes : List Value} {pt : Int} {up : Tok} {rs : List Value} {n : Nat} (B : Below A₀ base outer h₀) (F : Fr h₀ L s.heap m) (X : (KK w.params).In h₀) (N : News h₀ L s.heap news) (T' : Top p loose mean mg mb h₀) (hk : cs.kind = .function)
    (hp : At h₀ (cstL w A T)) (hc0 : (cl, listOf codes.toArray nk) ∈ news) (hcl : cl ∉ [A 0, A 1, A 2, A 3, A 4, A 5, A 6]) (sub : Subl (ledQ w A T S pt up rs n) news) (hd : dp + 120 < recursionLimit) (hu : un + 1200 < cLine)
    (hI : Inj A) (hc : (codes.length : Int) ≠ 0) (hc' : codes.length ≤ 1000) (lo : (A 4 == sysModules) = false) (hkr : S.okr.IsDictOf (intKind pw w) S.kvs) (hkv : S.kvs = [] ∨ S.kvs = [(1, .ref (A 11))])
    (hnv : S.nv = .none ∨ ∃ i c, S.nv = .int i c) (h1 : rs.length ≤ 400000) (hl : rs = [] ∨ ∃ r0, rs = r0 ++ [.ref 175]) (h3 : 0 ≤ S.gs) (h4 : S.gs ≤ S.ge) (h5 : S.ge ≤ S.cells.length) (h6 : S.cells.length ≤ 200000) (hz : S.zv = S.cells.length - S.ge + S.gs + 1) (hp1 : 1 ≤ pt) (hp2 : pt ≤ S.zv)
    (ret : ∀ S' R vals us h' tk', Fr h₀ L h' m → (∀ new, Repl [A 0, A 1, A 2, A 3, A 4, A 5, A 6] (ledL w A T S') news new → News h₀ L h' (new ++ R)) → OffAll A R → (∀ p ∈ R, NeAll p.1 news) → InsF w A (setQ S pt up rs n) codes S' R vals us → Q .none { s with heap := h', toks := tk' }) :
    wpAny (model pw w) (ktrTop dp un gd cn cs L a₀ ccd cl₀ outer) (call (.ref 112) [.ref (A 7), .ref cl]) Q E s := by
  have hp' := At.keep hp F.keep
  refine spec_use2 (insert_spec w A T (setQ S pt up rs n) cl nk codes hI (cst_ne (N _ hc0).2.2 hp hcl) hc hc' lo hkr hkv hnv h1 hl h3 h4 h5 h6 hz hp1 hp2) B F X N T' hk ⟨hp', (N _ hc0).1⟩ sub hd hu ?_
  intro x h' tk' F' nb fr kp po
  obtain ⟨rfl, po⟩ := po
  obtain ⟨S', R, vals, us, A', AR, f, po⟩ := ins_form po
  exact ret S' R vals us h' tk' F' (fun new hR => News.append' (nb _ _ A' hR) (free_news N F AR f).1) (fun p hq => led_pres (S := setQ S pt up rs n) (fun q hq => N q (sub.mem q hq)) hp' (f p hq)) (free_news N F AR f).2 po
theorem delete_useQ {A : Nat → Addr} {T : Nat → Nat → Tok} {S : St} {t1 t2 up : Tok} {st e pt : Int} {rs : List Value} {n : Nat} (B : Below A₀ base outer h₀) (F : Fr h₀ L s.heap m) (X : (KK w.params).In h₀) (N : News h₀ L s.heap news) (T' : Top p loose mean mg mb h₀) (hk : cs.kind = .function)
    (hp : At h₀ (cstL w A T)) (sub : Subl (ledQ w A T S pt up rs n) news) (hd : dp + 200 < recursionLimit) (hu : un + 2000 < cLine)
    (hI : Inj A) (lo : (A 4 == sysModules) = false) (hkr : S.okr.IsDictOf (intKind pw w) S.kvs) (hkv : S.kvs = [] ∨ S.kvs = [(1, .ref (A 11))])
    (hnv : S.nv = .none ∨ ∃ i c, S.nv = .int i c) (h1 : rs.length ≤ 400000) (hl : rs = [] ∨ ∃ r0, rs = r0 ++ [.ref 175]) (h3 : 0 ≤ S.gs) (h4 : S.gs ≤ S.ge) (h5 : S.ge ≤ S.cells.length) (h6 : S.cells.length ≤ 200000) (hz : S.zv = S.cells.length - S.ge + S.gs + 1) (h0 : 1 ≤ st) (hse : st < e) (he : e ≤ S.zv)
    (ret : ∀ d S' R vals us ms h' tk', Fr h₀ L h' m → (∀ new, Repl [A 0, A 1, A 2, A 3, A 4, A 5, A 6] (ledL w A T S') news new → News h₀ L h' (new ++ R)) → OffAll A R → (∀ p ∈ R, NeAll p.1 news) → DelF w A (setQ S pt up rs n) st e S' R vals us ms → Q (.ref d) { s with heap := h', toks := tk' }) :
    wpAny (model pw w) (ktrTop dp un gd cn cs L a₀ ccd cl₀ outer) (call (.ref 119) [.ref (A 7), .int st t1, .int e t2]) Q E s := by
  have hlen : ((cut S st e).length : Int) = e - st := by
    have := txt_len h3 h4 h5
    rw [cut, List.length_take, List.length_drop]; exact (cut_len (by omega) (by omega) (by omega)).trans (by omega)
  have q1 : (cut S st e).length ≤ 400000 := by omega
  have q2 : ((cut S st e).length : Int) ≠ 0 := by omega
  have q0 : st ≤ e := by omega
  have q3 : e ≤ S.cells.length - S.ge + S.gs + 1 := by omega
  have hp' := At.keep hp F.keep
  refine spec_use2 (delete_spec w A T (setQ S pt up rs n) t1 t2 st e hI lo hkr hkv hnv h1 hl h3 h4 h5 h6 hz h0 hse q0 he q3 q1 q2) B F X N T' hk hp' sub hd hu ?_
  intro x h' tk' F' nb fr kp po
  obtain ⟨d, rfl, S', R, vals, us, ms, A', AR, f, po⟩ := po
  exact ret d S' R vals us ms h' tk' F' (fun new hR => News.append' (nb _ _ A' hR) (free_news N F AR f).1) (fun p hp'' => led_pres (S := setQ S pt up rs n) (fun q hq => N q (sub.mem q hq)) hp' (f p hp'')) (free_news N F AR f).2 po
theorem boundary_use {ul uld rl : Addr} {t : Nat → Tok} {b : Tok} {nv : Value} {rs : List Value} {n : Nat} {q : Bool} (B : Below A₀ base outer h₀) (F : Fr h₀ L s.heap m) (X : (KK w.params).In h₀) (N : News h₀ L s.heap news) (T' : Top p loose mean mg mb h₀) (hk : cs.kind = .function)
    (hq : LastQ h₀ rs q) (hp : s.heap.get? ul = some (instObj 260 uld)) (sub : Subl (ulL w uld rl t b nv rs n) news) (hd : dp + 40 < recursionLimit) (hu : un + 400 < cLine) (h1 : rs.length ≤ 300000)
    (ret : ∀ rs2 n' h' tk', Fr h₀ L h' m → (∀ new, Repl [uld, rl] [(uld, dictOf (ulEs w.params t rl 0 b nv) 5), (rl, listOf (rs2 : List Value).toArray n')] news new → News h₀ L h' new) → rs2 = (if q then rs else rs ++ [Value.ref 175]) → (rs2 = [] ∨ ∃ r0, rs2 = r0 ++ [.ref 175]) → rs2.length ≤ 400000 → Q .none { s with heap := h', toks := tk' }) :
    wpAny (model pw w) (ktrTop dp un gd cn cs L a₀ ccd cl₀ outer) (call (.ref 210) [.ref ul]) Q E s := by
  have k1 : s.heap.get? uld = some (dictOf (ulEs w.params t rl 0 b nv) 5) := (N _ sub.1).1
  have k2 : s.heap.get? rl = some (listOf rs.toArray n) := (N _ sub.2.1).1
  refine spec_use2 (boundary_spec w ul uld rl t b nv rs n q (by omega) (ne_of_kind k1 k2 rfl)) B F X N T' hk ⟨hp, hq.keep F.keep⟩ sub hd hu ?_
  intro x h' tk' F' nb fr kp po
  obtain ⟨rfl, n', A'⟩ := po
  refine ret _ n' h' tk' F' (fun new R => nb _ _ A' R) rfl ?_ ?_
  · rcases hq with ⟨rfl, rfl⟩ | ⟨r0, rfl, rfl⟩ | ⟨r0, x, W, c, its, rfl, _, _, rfl⟩
    · exact .inl rfl
    · exact .inr ⟨r0, rfl⟩
    · exact .inr ⟨_, rfl⟩
  · split
    · omega
    · rw [List.length_append, List.length_singleton]; omega
end
theorem slice_upto {prog : Program} {w : World} {A : Around} {E : Value → Shared → Prop} {s : Shared} {h₀ : Heap} {L l : Addr} {m : Str → Option Value} {news : List (Addr × Obj)} {vs : List Value} {va vb : Value} {b : Int} {value slice : PySem.Expr} {Q : Value → Shared → Prop} (F : Fr h₀ L s.heap m) (N : News h₀ L s.heap news) (hl : s.heap.IsList l vs.toArray) (pl : IsPart va none) (pu : IsPart vb (some b)) (h0 : 0 ≤ b) (h1 : b ≤ vs.length) (hz : vs.length ≤ 1000000)
    (h : ∀ D (zs : List Value) h', zs = vs.take b.toNat → (zs.length : Int) = b → Fr h₀ L h' m → News h₀ L h' ((D, listOf zs.toArray 0) :: news) → NeAll D news → Q (.ref D) { s with heap := h' })
    (hs : subscripted slice false (.ref l) (.ref s.heap.objs.size) = operate [.ref s.heap.objs.size, .ref l] (getItem (.ref l) (.ref s.heap.objs.size))) (ht : ∀ r, letTemporaryGo value (.ref l) r = pure ()) :
    wpAny (model prog w) A (subscriptTail value slice (.ref l) (.ref s.heap.objs.size)) Q E { s with heap := s.heap.push { cls := .type "slice", data := .fields #[va, vb, .none] } } := by
  have e : (slicePick vs.toArray none (some b) none).toList = vs.take b.toNat := by
    have ey : b = (b.toNat : Int) := by omega
    rw [ey, slicePick_upto vs.toArray b.toNat (by simp; omega)]
    simp [← ey]
  exact kmk_slice_lit F N hl pl pu e (fun D h' F' N' l1 => h D _ h' rfl (by rw [List.length_take]; omega) F' N' (neAll_of l1)) hs ht (room_vs hz)
theorem okr_kind {K : Type} [DecidableEq K] {prog : Program} {w : World} {knd : KeyKind prog w K} {o : Obj} {kvs : List (K × Value)} (h : o.IsDictOf knd kvs) : (!Nat.beq (kindO o) 5) = true := by
  obtain ⟨cls, d, data, sl⟩ := o
  unfold Obj.IsDictOf at h
  obtain ⟨h1, es, ep, h2, h3⟩ := h
  simp only at h2
  subst h2
  rfl
theorem AllInts.take3 {a b c : Int} {t1 t2 t3 : Tok} {k : Nat} {zs : List Value} (e : zs = List.take k [Value.int a t1, .int b t2, .int c t3]) : AllInts zs := fun v hv => by
  rw [e] at hv
  have hv := List.mem_of_mem_take hv
  simp only [List.mem_cons, List.not_mem_nil, or_false] at hv
  rcases hv with rfl | rfl | rfl <;> exact ⟨_, _, rfl⟩
def Cmd (w : World) (A : Nat → Addr) (T : Nat → Nat → Tok) (S : St) (dk d0 d1 : Addr) (c : Int) (q : Bool) (hs h' : Heap) : Prop :=
  ∃ rs2 n2 S' R vals us xs' c' tc' n0' n1', At h' (dkL dk d0 d1 xs' c' tc' n0' n1') ∧ At h' (ledL w A T S') ∧ At h' R ∧ (∀ p ∈ R, hs.get? p.1 = none) ∧ AllNN xs' ∧ xs'.length ≤ 63 ∧ 0 ≤ c' ∧ c' ≤ c + 3 ∧ rs2 = (if q then S.rs else S.rs ++ [Value.ref 175])
    ∧ ((∃ st up codes, InsF w A (setQ S st up rs2 n2) codes S' R vals us ∧ 1 ≤ st ∧ st ≤ S.zv ∧ 1 ≤ codes.length ∧ codes.length ≤ 3 ∧ AllInts codes) ∨ (∃ st e ms, DelF w A (setQ S S.pt S.up rs2 n2) st e S' R vals us ms ∧ 1 ≤ st ∧ st < e ∧ e ≤ S.zv ∧ e ≤ st + 3))
theorem cm_end {w : World} {A : Nat → Addr} {T : Nat → Nat → Tok} {S S' : St} {dk d0 d1 : Addr} {c c' : Int} {q : Bool} {g s h' : Heap} {L' : Addr} {xs xs' rs2 : List Value} {tc tc' : Tok} {n0 n1 n0' n1' n2 : Nat} {R news news1 : List (Addr × Obj)} {vals : List Value} {us : List Row} {x0 x1 : Obj}
    (hin : ∀ b o, s.get? b = some o → b ∉ (dkL dk d0 d1 xs c tc n0 n1 ++ ledL w A T S).map (·.1) → g.get? b = some o) (N : News g L' h' news) (mk0 : (dk, listOf [Value.ref d0, .ref d1, .int c' tc'].toArray n0') ∈ news) (mk1 : (d0, listOf xs'.toArray n1') ∈ news)
    (m0 : (A 0, dictOf (bufEs w.params (T 0) (T 1) (A 8) (A 9) (A 15) (.ref (A 13)) S'.pt S'.zv S'.ti S'.ct S'.sv S'.up S'.uz S'.ut S'.uc S'.us) 20) ∈ news) (m1 : (A 1, dictOf (gapEs w.params (T 2) (.int 8 (T 2 9)) (.ref (A 2)) S'.gs S'.ge S'.gu S'.gv) 4) ∈ news) (m2 : (A 2, listOf S'.cells.toArray S'.nc) ∈ news)
    (m3 : (A 3, dictOf (mkEs w.params (T 3) S'.adv S'.bv S'.pos S'.um S'.vp) 4) ∈ news) (m4 : (A 4, S'.okr) ∈ news) (m5 : (A 5, dictOf (ulEs w.params (T 4) (A 6) 0 (T 4 9) S'.nv) 5) ∈ news) (m6 : (A 6, listOf S'.rs.toArray S'.n) ∈ news) (off : OffAll A R) (mR : ∀ p ∈ R, p ∈ news) (ne : ∀ p ∈ R, NeAll p.1 news1) (q0 : (dk, x0) ∈ news1) (q1 : (d0, x1) ∈ news1)
    (hx : AllNN xs') (hxl : xs'.length ≤ 63) (h0 : 0 ≤ c') (h1 : c' ≤ c + 3) (hrs : rs2 = (if q then S.rs else S.rs ++ [Value.ref 175]))
    (alt : (∃ st up codes, InsF w A (setQ S st up rs2 n2) codes S' R vals us ∧ 1 ≤ st ∧ st ≤ S.zv ∧ 1 ≤ codes.length ∧ codes.length ≤ 3 ∧ AllInts codes) ∨ (∃ st e ms, DelF w A (setQ S S.pt S.up rs2 n2) st e S' R vals us ms ∧ 1 ≤ st ∧ st < e ∧ e ≤ S.zv ∧ e ≤ st + 3)) : Cmd w A T S dk d0 d1 c q s h' := by
  refine ⟨rs2, n2, S', R, vals, us, xs', c', tc', n0', n1', ⟨(N _ mk0).1, (N _ mk1).1, trivial⟩, ⟨(N _ m0).1, (N _ m1).1, (N _ m2).1, (N _ m3).1, (N _ m4).1, (N _ m5).1, (N _ m6).1, trivial⟩, At.of_news (h₀ := g) (L := L') (fun p hp => N p (mR p hp)), fun p hp => ?_, hx, hxl, h0, h1, hrs, alt⟩
  exact free_of hin N (mR p hp) (nm_cons ((ne p hp).at q0).symm (nm_cons ((ne p hp).at q1).symm (off7 (off p hp))))
namespace command_specN
abbrev zS (w : World) (A : Nat → Addr) (T : Nat → Nat → Tok) (S : St) (dk d0 d1 : Addr) (xs ys : List Value) (c fresh : Int) (tc tf : Tok) (n0 n1 n2 : Nat) (q : Bool) : Prop := Spec w 400 4000 740 [.ref dk, .ref (A 7), .int fresh tf] (dkL dk d0 d1 xs c tc n0 n1 ++ ledL w A T S) (fun h => At h (cstL w A T) ∧ h.get? d1 = some (listOf ys.toArray n2) ∧ LastQ h S.rs q) (fun h v h' => Cmd w A T S dk d0 d1 c q h h')
def zP (w : World) (A : Nat → Addr) (T : Nat → Nat → Tok) (S : St) (dk d0 d1 : Addr) (xs ys : List Value) (c fresh : Int) (tc tf : Tok) (n0 n1 n2 : Nat) (q : Bool) : Prop := ∀ (hI : Inj A) (hdk : ∀ i, i < 16 → dk ≠ A i) (hd0 : ∀ i, i < 16 → d0 ≠ A i) (hd1 : ∀ i, i < 16 → d1 ≠ A i) (c1 : dk ≠ d0) (c2 : d1 ≠ dk) (c3 : d1 ≠ d0) (hxs : AllNN xs) (hxl : xs.length ≤ 63) (hy : AllInts ys) (hy1 : 1 ≤ ys.length) (hy2 : ys.length ≤ 64) (hc : 0 ≤ c) (hc' : c ≤ 800) (lo : (A 4 == sysModules) = false) (hkr : S.okr.IsDictOf (intKind pw w) S.kvs) (hkv : S.kvs = [] ∨ S.kvs = [(1, .ref (A 11))]) (hnv : S.nv = .none ∨ ∃ i c, S.nv = .int i c) (h1 : S.rs.length ≤ 300000) (h3 : 0 ≤ S.gs) (h4 : S.gs ≤ S.ge) (h5 : S.ge ≤ S.cells.length) (h6 : S.cells.length ≤ 200000) (hz : S.zv = S.cells.length - S.ge + S.gs + 1) (hz' : S.zv ≤ 900), zS w A T S dk d0 d1 xs ys c fresh tc tf n0 n1 n2 q
abbrev zT := (World × (Nat → Addr) × (Nat → Nat → Tok) × St) × (Addr × Addr × Addr × (List Value)) × ((List Value) × Int × Int × Tok) × (Tok × Nat × Nat × Nat) × Bool
def zQ (x : zT) : Prop := zP x.1.1 x.1.2.1 x.1.2.2.1 x.1.2.2.2 x.2.1.1 x.2.1.2.1 x.2.1.2.2.1 x.2.1.2.2.2 x.2.2.1.1 x.2.2.1.2.1 x.2.2.1.2.2.1 x.2.2.1.2.2.2 x.2.2.2.1.1 x.2.2.2.1.2.1 x.2.2.2.1.2.2.1 x.2.2.2.1.2.2.2 x.2.2.2.2
theorem zne : Nonempty zT := by k_extra "zne"
def zX : zT := pk zne zQ
def q := zX.2.2.2.2
def zR : Red2 (zS zX.1.1 zX.1.2.1 zX.1.2.2.1 zX.1.2.2.2 zX.2.1.1 zX.2.1.2.1 zX.2.1.2.2.1 zX.2.1.2.2.2 zX.2.2.1.1 zX.2.2.1.2.1 zX.2.2.1.2.2.1 zX.2.2.1.2.2.2 zX.2.2.2.1.1 zX.2.2.2.1.2.1 zX.2.2.2.1.2.2.1 zX.2.2.2.1.2.2.2 q) SD ED := by k_extra "zR"
def zY : SD × ED := pk ED.ne fun x => zR.1 x.1 x.2
noncomputable def zK1 : RedF (zP zX.1.1 zX.1.2.1 zX.1.2.2.1 zX.1.2.2.2 zX.2.1.1 zX.2.1.2.1 zX.2.1.2.2.1 zX.2.1.2.2.2 zX.2.2.1.1 zX.2.2.1.2.1 zX.2.2.1.2.2.1 zX.2.2.1.2.2.2 zX.2.2.2.1.1 zX.2.2.2.1.2.1 zX.2.2.2.1.2.2.1 zX.2.2.2.1.2.2.2 q) (Heap → Addr → Heap → Heap → Addr → Heap → Nat → Int → List Value → Int → Heap → Nat → Int → List Value → Int → Tok → Nat → Nat → Heap → Nat → List Value → Nat → Heap → Nat → Prop) (fun R => ∀ a0 a1 a2 a3 a4 a5 a6 a7 a8 a9 a10 a11 a12 a13 a14 a15 a16 a17 a18 a19 a20 a21 a22 a23, R a0 a1 a2 a3 a4 a5 a6 a7 a8 a9 a10 a11 a12 a13 a14 a15 a16 a17 a18 a19 a20 a21 a22 a23) := by
  apply Subtype.mk; intro H
  intro hI hdk hd0 hd1 c1 c2 c3 hxs hxl hy hy1 hy2 hc hc' lo hkr hkv hnv h1 h3 h4 h5 h6 hz hz'
  refine zR.2 fun zd ze => pk_all (n := ED.ne) (P := fun x => zR.1 x.1 x.2) ?_ (zd, ze)
  show zR.1 zY.1 zY.2
  delta zR; dsimp only
  delta BodyAt; dsimp only
  intro B F X N TT hk hd hu hp ret dA uA hin back F' N' B' X' T'
  (try dsimp only at hin)
  have hin2 : ∀ i, 6 < i → i < 16 → ∀ o, zY.1.sh.get? (zX.1.2.1 i) = some o → zY.2.g.get? (zX.1.2.1 i) = some o := fun i h hj o e => hin _ _ e (nm_cons (hdk i hj).symm (nm_cons (hd0 i hj).symm (cst_off hI h hj)))
  have hA : At zY.2.g [(zX.1.2.1 7, instObj 651 (zX.1.2.1 0)), (zX.1.2.1 8, instObj 400 (zX.1.2.1 1)), (zX.1.2.1 9, instObj 545 (zX.1.2.1 10)), (zX.1.2.1 10, dictOf (ksEs zX.1.1.params (zX.1.2.2.1 5 0) (zX.1.2.1 4)) 1), (zX.1.2.1 11, instObj 477 (zX.1.2.1 3)), (zX.1.2.1 12, instObj 260 (zX.1.2.1 5)), (zX.1.2.1 13, instObj 717 (zX.1.2.1 14)), (zX.1.2.1 14, dictOf (rcEs zX.1.1.params (zX.1.2.2.1 5 1) (zX.1.2.1 12)) 1), (zX.1.2.1 15, listOf #[] 0), (zX.2.1.2.2.1, listOf zX.2.2.1.1.toArray zX.2.2.2.1.2.2.2)] := by
    obtain ⟨a7, a8, a9, a10, a11, a12, a13, a14, a15, _⟩ := hp.1
    exact ⟨hin2 7 (by decide) (by decide) _ a7, hin2 8 (by decide) (by decide) _ a8, hin2 9 (by decide) (by decide) _ a9, hin2 10 (by decide) (by decide) _ a10, hin2 11 (by decide) (by decide) _ a11, hin2 12 (by decide) (by decide) _ a12, hin2 13 (by decide) (by decide) _ a13, hin2 14 (by decide) (by decide) _ a14, hin2 15 (by decide) (by decide) _ a15, hin _ _ hp.2.1 (nm_cons c2 (nm_cons c3 (off7 hd1))), trivial⟩
  have hq : LastQ zY.2.g zX.1.2.2.2.rs q := hp.2.2.into hin N (by have := okr_kind hkr; simp only [dkL, ledL, List.cons_append, List.nil_append, List.all_cons, List.all_nil, this, Bool.and_true, Bool.true_and]; rfl)
  clear hin2
  replace F' : Fr zY.2.g zY.2.L zY.2.h (fun y => List.lookup y [(Str.ofString "fresh", Value.int zX.2.2.1.2.2.1 zX.2.2.2.1.1), (Str.ofString "buffer", Value.ref (zX.1.2.1 7)), (Str.ofString "deck", Value.ref zX.2.1.1)]) := F'
  dsimp only [ledL, dkL, List.cons_append, List.nil_append] at N'
  (try dsimp only)
  (try k_fold)
  iterate 98 (focus (first | (k_unfold; (try dsimp only)) | (k_end; wrow_close) | walk1 | (dsimp only; walk1) | (leave1; (try dsimp only))))
  rename_i zy1_1 zy1_2 zy1_3 zy1_4 zy1_5 zy1_6 zy1_7 zy1_8 zy1_9 zy1_10 zy1_11 zy1_12 zy1_13 zy1_14 zy1_15 zy1_16 zy1_17 zy1_18 zy1_19 zy1_20 zy1_21 zy1_22 zy1_23 zy1_24 zy1_25 zy1_26 zy1_27 zy1_28 zy1_29 zy1_30 zy1_31 zy1_32 zy1_33 zy1_34 zy1_35 zy1_36 zy1_37 zy1_38 zy1_39 zy1_40 zy1_41 zy1_42 zy1_43 zy1_44 zy1_45 zy1_46 zy1_47 zy1_48 zy1_49 zy1_50 zy1_51 zy1_52 zy1_53 zy1_54 zy1_55 zy1_56 zy1_57 zy1_58 zy1_59 zy1_60 zy1_61 zy1_62 zy1_63 zy1_64 zy1_65 zy1_66 zy1_67 zy1_68 zy1_69 zy1_70 zy1_71 zy1_72 zy1_73 zy1_74 zy1_75 zy1_76 zy1_77 zy1_78 zy1_79 zy1_80 zy1_81 zy1_82 zy1_83 zy1_84 zy1_85 zy1_86 zy1_87 zy1_88 zy1_89 zy1_90
  revert hI hdk hd0 hd1 c1 c2 c3 hxs hxl hy hy1 hy2 hc hc' lo hkr hkv hnv h1 h3 h4 h5 h6 hz hz' B F X N TT hk hd hu hp ret dA uA hin back B' X' T' hA hq zy1_8 zy1_9 zy1_10 zy1_11 zy1_12 zy1_13 zy1_14 zy1_15 zy1_23 zy1_24 zy1_25 zy1_26 zy1_27 zy1_28 zy1_29 zy1_30 zy1_31 zy1_35 zy1_36 zy1_37 zy1_38 zy1_39 zy1_40 zy1_53 zy1_54 zy1_55 zy1_56 zy1_57 zy1_58 zy1_73 zy1_74 zy1_75 zy1_76 zy1_77 zy1_78 zy1_86 zy1_87 zy1_88 zy1_89 zy1_90
  revert zy1_1 zy1_2 zy1_7 zy1_16 zy1_17 zy1_22 zy1_32 zy1_33 zy1_42 zy1_43 zy1_60 zy1_61 zy1_80 zy1_81 qk ek
  exact H.h zy1_3 zy1_4 zy1_5 zy1_18 zy1_19 zy1_20 zy1_21 zy1_44 zy1_46 zy1_47 zy1_51 zy1_52 zy1_64 zy1_66 zy1_67 zy1_68 zy1_69 zy1_70 zy1_71 zy1_72 zy1_82 zy1_83 zy1_84 zy1_85
theorem zN1 : Nonempty ((Heap × Addr × Heap × Heap × Addr) × (Heap × Nat × Int × (List Value) × Int) × (Heap × Nat × Int × (List Value) × Int) × (Tok × Nat × Nat × Heap × Nat) × ((List Value) × Nat × Heap × Nat)) := by k_extra "zne"
def zC1 : (Heap × Addr × Heap × Heap × Addr) × (Heap × Nat × Int × (List Value) × Int) × (Heap × Nat × Int × (List Value) × Int) × (Tok × Nat × Nat × Heap × Nat) × ((List Value) × Nat × Heap × Nat) := pk zN1 (fun x => zK1.1 x.1.1 x.1.2.1 x.1.2.2.1 x.1.2.2.2.1 x.1.2.2.2.2 x.2.1.1 x.2.1.2.1 x.2.1.2.2.1 x.2.1.2.2.2.1 x.2.1.2.2.2.2 x.2.2.1.1 x.2.2.1.2.1 x.2.2.1.2.2.1 x.2.2.1.2.2.2.1 x.2.2.1.2.2.2.2 x.2.2.2.1.1 x.2.2.2.1.2.1 x.2.2.2.1.2.2.1 x.2.2.2.1.2.2.2.1 x.2.2.2.1.2.2.2.2 x.2.2.2.2.1 x.2.2.2.2.2.1 x.2.2.2.2.2.2.1 x.2.2.2.2.2.2.2)
theorem body2 : zK1.1 zC1.1.1 zC1.1.2.1 zC1.1.2.2.1 zC1.1.2.2.2.1 zC1.1.2.2.2.2 zC1.2.1.1 zC1.2.1.2.1 zC1.2.1.2.2.1 zC1.2.1.2.2.2.1 zC1.2.1.2.2.2.2 zC1.2.2.1.1 zC1.2.2.1.2.1 zC1.2.2.1.2.2.1 zC1.2.2.1.2.2.2.1 zC1.2.2.1.2.2.2.2 zC1.2.2.2.1.1 zC1.2.2.2.1.2.1 zC1.2.2.2.1.2.2.1 zC1.2.2.2.1.2.2.2.1 zC1.2.2.2.1.2.2.2.2 zC1.2.2.2.2.1 zC1.2.2.2.2.2.1 zC1.2.2.2.2.2.2.1 zC1.2.2.2.2.2.2.2 := by
  delta zK1; dsimp only
  intro hI hdk hd0 hd1 c1 c2 c3 hxs hxl hy hy1 hy2 hc hc' lo hkr hkv hnv h1 h3 h4 h5 h6 hz hz' B F X N TT hk hd hu hp ret dA uA hin back B' X' T' hA hq zy1_8 zy1_9 zy1_10 zy1_11 zy1_12 zy1_13 zy1_14 zy1_15 zy1_23 zy1_24 zy1_25 zy1_26 zy1_27 zy1_28 zy1_29 zy1_30 zy1_31 zy1_35 zy1_36 zy1_37 zy1_38 zy1_39 zy1_40 zy1_53 zy1_54 zy1_55 zy1_56 zy1_57 zy1_58 zy1_73 zy1_74 zy1_75 zy1_76 zy1_77 zy1_78 zy1_86 zy1_87 zy1_88 zy1_89 zy1_90
  k_steps
  all_goals (try dsimp only)
  all_goals (refine leaveC_of (by assumption) hin back fun kF kept => ?_; try dsimp only)
  · exact ret _ _ _ kF kept (cm_end hin (by assumption) (by k_dflt k_mem) (by k_dflt k_mem) (by k_dflt k_mem) (by k_dflt k_mem) (by k_dflt k_mem) (by k_dflt k_mem) (by k_dflt k_mem) (by k_dflt k_mem) (by k_dflt k_mem) (by assumption) (by intro q hq; repeat (first | exact hq | apply List.Mem.tail)) (by assumption) (by k_dflt k_mem) (by k_dflt k_mem) (by assumption) (by assumption) (by omega) (by omega) (by assumption) (.inl ⟨_, _, _, by assumption, by omega, by omega, by omega, by omega, AllInts.take3 (by assumption)⟩))
  · exact ret _ _ _ kF kept (cm_end hin (by assumption) (by k_dflt k_mem) (by k_dflt k_mem) (by k_dflt k_mem) (by k_dflt k_mem) (by k_dflt k_mem) (by k_dflt k_mem) (by k_dflt k_mem) (by k_dflt k_mem) (by k_dflt k_mem) (by assumption) (by intro q hq; repeat (first | exact hq | apply List.Mem.tail)) (by assumption) (by k_dflt k_mem) (by k_dflt k_mem) (by assumption) (by assumption) (by omega) (by omega) (by assumption) (.inr ⟨_, _, _, by assumption, by omega, by omega, by omega, by omega⟩))
theorem body : zP zX.1.1 zX.1.2.1 zX.1.2.2.1 zX.1.2.2.2 zX.2.1.1 zX.2.1.2.1 zX.2.1.2.2.1 zX.2.1.2.2.2 zX.2.2.1.1 zX.2.2.1.2.1 zX.2.2.1.2.2.1 zX.2.2.1.2.2.2 zX.2.2.2.1.1 zX.2.2.2.1.2.1 zX.2.2.2.1.2.2.1 zX.2.2.2.1.2.2.2 q := zK1.2 ⟨fun a0 a1 a2 a3 a4 a5 a6 a7 a8 a9 a10 a11 a12 a13 a14 a15 a16 a17 a18 a19 a20 a21 a22 a23 => pk_all (n := zN1) (P := fun x => zK1.1 x.1.1 x.1.2.1 x.1.2.2.1 x.1.2.2.2.1 x.1.2.2.2.2 x.2.1.1 x.2.1.2.1 x.2.1.2.2.1 x.2.1.2.2.2.1 x.2.1.2.2.2.2 x.2.2.1.1 x.2.2.1.2.1 x.2.2.1.2.2.1 x.2.2.1.2.2.2.1 x.2.2.1.2.2.2.2 x.2.2.2.1.1 x.2.2.2.1.2.1 x.2.2.2.1.2.2.1 x.2.2.2.1.2.2.2.1 x.2.2.2.1.2.2.2.2 x.2.2.2.2.1 x.2.2.2.2.2.1 x.2.2.2.2.2.2.1 x.2.2.2.2.2.2.2) body2 ((a0, a1, a2, a3, a4), (a5, a6, a7, a8, a9), (a10, a11, a12, a13, a14), (a15, a16, a17, a18, a19), (a20, a21, a22, a23))⟩
end command_specN
theorem command_spec (w A T S dk d0 d1 xs ys c fresh tc tf n0 n1 n2 q) : command_specN.zP w A T S dk d0 d1 xs ys c fresh tc tf n0 n1 n2 q := pk_all (n := command_specN.zne) (P := command_specN.zQ) command_specN.body ((w, A, T, S), (dk, d0, d1, xs), (ys, c, fresh, tc), (tf, n0, n1, n2), q)
end
section
open N_Bi
def SpecC (w : World) (D U : Nat) (f : Addr) (args : List Value) (led : List (Addr × Obj)) (pre : Heap → Prop) (post : Heap → Value → Heap → Prop) : Prop :=
  ∀ (p : Program) (loose : List Str) (mean : ExcName → Option Value) (mg mb : Str → Option Value) (dp un : Nat) (gd : Option (List Code)) (cn : Str) (cs : Scope) (a : Addr) (ccd : Value) (cl : List (Str × Addr)) (outer : List Env) (A₀ : Around) (base h₀ : Heap) (L : Addr) (m : Str → Option Value) (s : Shared)
    (R : Result → Shared → Prop),
    Below A₀ base outer h₀ → Fr h₀ L s.heap m → (KK w.params).In h₀ → News h₀ L s.heap led → Top p loose mean mg mb h₀ → cs.kind = .function → dp + D < recursionLimit → un + U < cLine → pre s.heap →
    (∀ v h' tk', Fr h₀ L h' m → (∀ b o, s.heap.get? b = some o → b ∉ led.map (·.1) → h'.get? b = some o) → post s.heap v h' → R (.ok (.ret v)) { s with heap := h', toks := tk' }) →
    codeAny (model pw w) (ktrTop dp un gd cn cs L a ccd cl outer) (.call (.ref f) ⟨args, []⟩) R s
def SpecCAt (w : World) (D U : Nat) (f : Addr) (args : List Value) (led : List (Addr × Obj)) (pre : Heap → Prop) (post : Heap → Value → Heap → Prop) (d : SD) : Prop :=
    Below d.A₀ d.base d.outer d.h₀ → Fr d.h₀ d.L d.sh d.m → (KK w.params).In d.h₀ → News d.h₀ d.L d.sh led → Top d.p d.loose d.mean d.mg d.mb d.h₀ → d.cs.kind = .function → d.dp + D < recursionLimit → d.un + U < cLine → pre d.sh →
    (∀ v h' tk', Fr d.h₀ d.L h' d.m → (∀ b o, d.sh.get? b = some o → b ∉ led.map (·.1) → h'.get? b = some o) → post d.sh v h' → d.R (.ok (.ret v)) ⟨h', d.gn, d.dr, tk', d.os⟩) →
    codeAny (model pw w) (ktrTop d.dp d.un d.gd d.cn d.cs d.L d.a d.ccd d.cl d.outer) (.call (.ref f) ⟨args, []⟩) d.R ⟨d.sh, d.gn, d.dr, d.tk0, d.os⟩
theorem specC_at {w : World} {D U : Nat} {f : Addr} {args : List Value} {led : List (Addr × Obj)} {pre : Heap → Prop} {post : Heap → Value → Heap → Prop} (h : ∀ d, SpecCAt w D U f args led pre post d) : SpecC w D U f args led pre post := by
  intro p loose mean mg mb dp un gd cn cs a ccd cl outer A₀ base h₀ L m s R
  rcases s with ⟨sh, gn, dr, tk0, os⟩
  exact h ⟨p, loose, mean, mg, mb, dp, un, gd, cn, cs, a, ccd, cl, outer, A₀, base, h₀, L, m, sh, gn, dr, tk0, os, fun _ _ => True, fun _ _ => True, R⟩
theorem make_use {w : World} {D U : Nat} {f C : Addr} {args : List Value} {news : List (Addr × Obj)} {pre : Addr → Addr → Heap → Prop} {post : Addr → Addr → Heap → Value → Heap → Prop}
    {p : Program} {loose : List Str} {mean : ExcName → Option Value} {mg mb : Str → Option Value} {dp un : Nat} {gd : Option (List Code)} {cn : Str} {cs : Scope} {a : Addr} {ccd : Value} {cl : List (Str × Addr)} {outer : List Env} {A₀ : Around} {base h₀ : Heap} {L : Addr} {m : Str → Option Value} {s : Shared}
    {Q E : Value → Shared → Prop} (S : ∀ x dx, SpecC w D U f (.ref x :: args) [(dx, dictOf [] 0)] (fun h => At h [(x, instObj C dx)]) (fun h v h' => v = .none ∧ post x dx h v h'))
    (B : Below A₀ base outer h₀) (F : Fr h₀ L s.heap m) (X : (KK w.params).In h₀) (N : News h₀ L s.heap news) (T : Top p loose mean mg mb h₀) (hk : cs.kind = .function) (hm : makesIn (KK w.params) C = true) (hi : findIn (KK w.params) (.ref C) "__init__" = some (some (.ref f))) (hf : isFn (KK w.params) (.ref f) = true) (hd : dp + (D + 1) < recursionLimit) (hu : un + (U + 1) < cLine)
    (ret : ∀ x dx h1 h' tk', Fr h₀ L h' m → News h₀ L h' ((x, instObj C dx) :: news) → NeAll dx news → NeAll x news → dx ≠ x → (∀ y o, h'.get? y = some o → h1.get? y = none → y ≠ x ∧ y ≠ dx ∧ y ≠ L ∧ h₀.get? y = none ∧ NeAll y news) → (dx ≠ L ∧ h₀.get? dx = none) → (x ≠ L ∧ h₀.get? x = none) → post x dx h1 .none h' → Q (.ref x) { s with heap := h', toks := tk' }) :
    wpAny (model pw w) (ktrTop dp un gd cn cs L a ccd cl outer) (call (.ref C) args) Q E s := by
  refine call_cls F X N hm hi hf fun x dx h1 F1 N1 l1 l2 => ?_
  have n1 : NeAll dx news := neAll_of l1
  have n2 : NeAll x news := neAll_of fun p hp => Nat.lt_trans (l1 p hp) l2
  have n3 : dx ≠ x := Nat.ne_of_lt l2
  have S' := S x dx
  unfold SpecC at S'
  refine S' p loose mean mg mb (dp + 1) (un + 1) _ cn cs a ccd cl outer A₀ base h₀ L m { s with heap := h1 } _ B F1 X (fun q hq => N1 q (by rw [List.mem_singleton.mp hq]; exact .tail _ (.head _))) T hk (by omega) (by omega) ⟨(N1 _ (.head _)).1, trivial⟩ ?_
  intro v h' tk' F' kept po
  obtain ⟨rfl, po⟩ := po
  refine ⟨rfl, ret x dx h1 h' tk' F' (fun q hq => ?_) n1 n2 n3 (fun y o hy hf => ?_) (N1 _ (.tail _ (.head _))).2 (N1 _ (.head _)).2 po⟩
  · rcases List.mem_cons.mp hq with rfl | hq
    · exact ⟨kept _ _ (N1 _ (.head _)).1 (nm_cons n3.symm List.not_mem_nil), (N1 _ (.head _)).2⟩
    · exact ⟨kept _ _ (N1 q (.tail _ (.tail _ hq))).1 (nm_cons (n1 q hq) List.not_mem_nil), (N1 q (.tail _ (.tail _ hq))).2⟩
  · exact ⟨free_ne hf (N1 _ (.head _)).1, free_ne hf (N1 _ (.tail _ (.head _))).1, (new_ne F1 hf).1, (new_ne F1 hf).2, fun q hq => (free_ne hf (N1 q (.tail _ (.tail _ hq))).1).symm⟩
theorem set_dictE {prog : Program} {w : World} {A : Around} {E : Value → Shared → Prop} {K : Frag} {h₀ h : Heap} {L x C dx : Addr} {m : Str → Option Value} {news news' : List (Addr × Obj)} {ox : Obj} {es es' : List DictEntry} {n n' tk : Nat} {name : Str} {v : Value} {gn : Array GenState} {dr : Drawn} {os : OsState} {Q : Unit → Shared → Prop} (F : Fr h₀ L h m) (X₀ : K.In h₀) (N : News h₀ L h news) (I : InstAt h x ox C (some (dictOf es n))) (hd : ox.dict = some dx)
    (hs : findIn K (.ref C) "__setattr__" = some (some (.builtin "object.__setattr__"))) (hp : plainOver K C = true) (ht : takerIn K C name = some none) (hh : hasDictIn K C = true) (hl : (getL name es).isSome = true)
    (e : (putL name (PyData.keyHash w.params name) (.str name (tk + 1)) v es, putN name es n) = (es', n')) (U : Upd dx (dictOf es n) (dictOf es' n') news news') (hz : es'.length ≤ 1000)
    (k : ∀ h', Fr h₀ L h' m → News h₀ L h' news' → Q () ⟨h', gn, dr, tk + 2, os⟩) :
    wpAny (model prog w) A (setAttr (.ref x) name v) Q E ⟨h, gn, dr, tk, os⟩ := set_dict (s := ⟨h, gn, dr, tk, os⟩) F X₀ N I hd hs hp ht hh hl e U hz k
def BufNew (w : World) (dx : Addr) (hs h' : Heap) : Prop :=
  ∃ (tb ub tg : Nat → Tok) (g gd c k kd kr li : Addr) (tk u8 gu gv up uz ut uc us : Tok) (cells : List Value) (nc : Nat) (okr : Obj), At h' [(dx, dictOf (bufEs w.params tb ub g k li .none 1 1 1 1 1 up uz ut uc us) 20), (g, instObj 400 gd), (gd, dictOf (gapEs w.params tg (.int 8 u8) (.ref c) 0 8 gu gv) 4), (c, listOf cells.toArray nc), (k, instObj 545 kd), (kd, dictOf (ksEs w.params tk kr) 1), (kr, okr), (li, listOf #[] 0)]
    ∧ cells.length = 8 ∧ okr.IsDictOf (intKind pw w) [] ∧ (kr == sysModules) = false ∧ (∀ x ∈ [g, gd, c, k, kd, kr, li], hs.get? x = none) ∧ gd ≠ kd ∧ gd ≠ kr ∧ kd ≠ kr ∧ c ≠ li ∧ g ≠ k
namespace bi_endN
def zP (w : World) (G s h' : Heap) (L' dx g gd c k kd kr li : Addr) (news : List (Addr × Obj)) (led : Obj) (a0 a1 a2 a3 a4 a5 a6 a7 a8 a9 a10 a11 a12 a13 a14 a15 a16 a17 a18 a19 t1 t2 u4 u5 u6 u10 u11 u12 b0 b1 b2 b3 v0 w2 w3 tk : Tok) (cells : List Value) (nc : Nat) (okr : Obj) : Prop := ∀ {gs : Int} {ge : Int} (hin : ∀ b o, s.get? b = some o → b ∉ ([(dx, led)].map (·.1)) → G.get? b = some o) (N : News G L' h' news) (mb : (dx, dictOf [en w.params "number" a0 (.int 1 t1), en w.params "name" a1 (.str (Str.ofString "a") t2), en w.params "text" a2 (.ref g), en w.params "markers" a3 (.ref k), en w.params "point" a4 (.int 1 u4), en w.params "begv" a5 (.int 1 u5), en w.params "zv" a6 (.int 1 u6), en w.params "mark" a7 (.none), en w.params "is_live" a8 (.bool true), en w.params "is_read_only" a9 (.bool false), en w.params "ticks" a10 (.int 1 u10), en w.params "codes_ticks" a11 (.int 1 u11), en w.params "saved_ticks" a12 (.int 1 u12), en w.params "listeners" a13 (.ref li), en w.params "undo" a14 (.none), en w.params "props" a15 (.none), en w.params "overlays" a16 (.none), en w.params "locals" a17 (.none), en w.params "syntax" a18 (.none), en w.params "file" a19 (.none)] 20) ∈ news) (mg : (g, instObj 400 gd) ∈ news) (mgd : (gd, dictOf [en w.params "room" b0 (.int 8 v0), en w.params "cells" b1 (.ref c), en w.params "gap_start" b2 (.int gs w2), en w.params "gap_end" b3 (.int ge w3)] 4) ∈ news) (mc : (c, listOf cells.toArray nc) ∈ news) (mk : (k, instObj 545 kd) ∈ news) (mkd : (kd, dictOf [en w.params "rows" tk (.ref kr)] 1) ∈ news) (mkr : (kr, okr) ∈ news) (ml : (li, listOf #[] 0) ∈ news) (e1 : gs = 0) (e2 : ge = 8) (hl : cells.length = 8) (hd : okr.IsDictOf (intKind pw w) []) (lo : (kr == sysModules) = false) (n1 : gd ≠ dx) (n2 : kd ≠ dx) (n3 : kr ≠ dx) (n4 : gd ≠ kd) (n5 : gd ≠ kr) (n6 : kd ≠ kr) (n7 : c ≠ li) (n8 : g ≠ k), Value.none = .none ∧ BufNew w dx s h'
abbrev zT := (World × Heap × Heap × Heap × Addr × Addr × Addr) × (Addr × Addr × Addr × Addr × Addr × Addr × (List (Addr × Obj))) × (Obj × Tok × Tok × Tok × Tok × Tok × Tok) × (Tok × Tok × Tok × Tok × Tok × Tok × Tok) × (Tok × Tok × Tok × Tok × Tok × Tok × Tok) × (Tok × Tok × Tok × Tok × Tok × Tok × Tok) × (Tok × Tok × Tok × Tok × Tok × Tok × Tok) × (Tok × Tok × (List Value) × Nat × Obj)
def zQ (x : zT) : Prop := zP x.1.1 x.1.2.1 x.1.2.2.1 x.1.2.2.2.1 x.1.2.2.2.2.1 x.1.2.2.2.2.2.1 x.1.2.2.2.2.2.2 x.2.1.1 x.2.1.2.1 x.2.1.2.2.1 x.2.1.2.2.2.1 x.2.1.2.2.2.2.1 x.2.1.2.2.2.2.2.1 x.2.1.2.2.2.2.2.2 x.2.2.1.1 x.2.2.1.2.1 x.2.2.1.2.2.1 x.2.2.1.2.2.2.1 x.2.2.1.2.2.2.2.1 x.2.2.1.2.2.2.2.2.1 x.2.2.1.2.2.2.2.2.2 x.2.2.2.1.1 x.2.2.2.1.2.1 x.2.2.2.1.2.2.1 x.2.2.2.1.2.2.2.1 x.2.2.2.1.2.2.2.2.1 x.2.2.2.1.2.2.2.2.2.1 x.2.2.2.1.2.2.2.2.2.2 x.2.2.2.2.1.1 x.2.2.2.2.1.2.1 x.2.2.2.2.1.2.2.1 x.2.2.2.2.1.2.2.2.1 x.2.2.2.2.1.2.2.2.2.1 x.2.2.2.2.1.2.2.2.2.2.1 x.2.2.2.2.1.2.2.2.2.2.2 x.2.2.2.2.2.1.1 x.2.2.2.2.2.1.2.1 x.2.2.2.2.2.1.2.2.1 x.2.2.2.2.2.1.2.2.2.1 x.2.2.2.2.2.1.2.2.2.2.1 x.2.2.2.2.2.1.2.2.2.2.2.1 x.2.2.2.2.2.1.2.2.2.2.2.2 x.2.2.2.2.2.2.1.1 x.2.2.2.2.2.2.1.2.1 x.2.2.2.2.2.2.1.2.2.1 x.2.2.2.2.2.2.1.2.2.2.1 x.2.2.2.2.2.2.1.2.2.2.2.1 x.2.2.2.2.2.2.1.2.2.2.2.2.1 x.2.2.2.2.2.2.1.2.2.2.2.2.2 x.2.2.2.2.2.2.2.1 x.2.2.2.2.2.2.2.2.1 x.2.2.2.2.2.2.2.2.2.1 x.2.2.2.2.2.2.2.2.2.2.1 x.2.2.2.2.2.2.2.2.2.2.2
theorem zne : Nonempty zT := by k_extra "zne"
def zX : zT := pk zne zQ
theorem body : zQ zX := by
  intro gs ge hin N mb mg mgd mc mk mkd mkr ml e1 e2 hl hd lo n1 n2 n3 n4 n5 n6 n7 n8
  subst e1 e2
  have kb := (N _ mb).1
  have fr : ∀ x o, (x, o) ∈ zX.2.1.2.2.2.2.2.2 → x ≠ zX.1.2.2.2.2.2.1 → zX.1.2.2.1.get? x = none := fun x o hm hn => free_of hin N hm (nm_cons hn List.not_mem_nil)
  refine ⟨rfl, fun i => [zX.2.2.1.2.1, zX.2.2.1.2.2.1, zX.2.2.1.2.2.2.1, zX.2.2.1.2.2.2.2.1, zX.2.2.1.2.2.2.2.2.1, zX.2.2.1.2.2.2.2.2.2, zX.2.2.2.1.1, zX.2.2.2.1.2.1, zX.2.2.2.1.2.2.1, zX.2.2.2.1.2.2.2.1, zX.2.2.2.1.2.2.2.2.1, zX.2.2.2.1.2.2.2.2.2.1, zX.2.2.2.1.2.2.2.2.2.2, zX.2.2.2.2.1.1, zX.2.2.2.2.1.2.1, zX.2.2.2.2.1.2.2.1, zX.2.2.2.2.1.2.2.2.1, zX.2.2.2.2.1.2.2.2.2.1, zX.2.2.2.2.1.2.2.2.2.2.1, zX.2.2.2.2.1.2.2.2.2.2.2].getD i 0, fun i => [zX.2.2.2.2.2.1.1, zX.2.2.2.2.2.1.2.1, zX.2.2.2.2.2.1.2.2.2.1].getD i 0, fun i => [zX.2.2.2.2.2.2.1.2.1, zX.2.2.2.2.2.2.1.2.2.1, zX.2.2.2.2.2.2.1.2.2.2.1, zX.2.2.2.2.2.2.1.2.2.2.2.1].getD i 0, zX.1.2.2.2.2.2.2, zX.2.1.1, zX.2.1.2.1, zX.2.1.2.2.1, zX.2.1.2.2.2.1, zX.2.1.2.2.2.2.1, zX.2.1.2.2.2.2.2.1, zX.2.2.2.2.2.2.2.2.1, zX.2.2.2.2.2.2.1.2.2.2.2.2.1, zX.2.2.2.2.2.2.1.2.2.2.2.2.2, zX.2.2.2.2.2.2.2.1, zX.2.2.2.2.2.1.2.2.1, zX.2.2.2.2.2.1.2.2.2.2.1, zX.2.2.2.2.2.1.2.2.2.2.2.1, zX.2.2.2.2.2.1.2.2.2.2.2.2, zX.2.2.2.2.2.2.1.1, zX.2.2.2.2.2.2.2.2.2.1, zX.2.2.2.2.2.2.2.2.2.2.1, zX.2.2.2.2.2.2.2.2.2.2.2, ⟨kb, (N _ mg).1, (N _ mgd).1, (N _ mc).1, (N _ mk).1, (N _ mkd).1, (N _ mkr).1, (N _ ml).1, trivial⟩, hl, hd, lo, fun x hx => ?_, n4, n5, n6, n7, n8⟩
  simp only [List.mem_cons, List.not_mem_nil, or_false] at hx
  rcases hx with rfl | rfl | rfl | rfl | rfl | rfl | rfl
  · exact fr _ _ mg (ne_of_kind (N _ mg).1 kb rfl)
  · exact fr _ _ mgd n1
  · exact fr _ _ mc (ne_of_kind (N _ mc).1 kb rfl)
  · exact fr _ _ mk (ne_of_kind (N _ mk).1 kb rfl)
  · exact fr _ _ mkd n2
  · exact fr _ _ mkr n3
  · exact fr _ _ ml (ne_of_kind (N _ ml).1 kb rfl)
end bi_endN
theorem bi_end {w G s h' L' dx g gd c k kd kr li news led a0 a1 a2 a3 a4 a5 a6 a7 a8 a9 a10 a11 a12 a13 a14 a15 a16 a17 a18 a19 t1 t2 u4 u5 u6 u10 u11 u12 b0 b1 b2 b3 v0 w2 w3 tk cells nc okr} : bi_endN.zP w G s h' L' dx g gd c k kd kr li news led a0 a1 a2 a3 a4 a5 a6 a7 a8 a9 a10 a11 a12 a13 a14 a15 a16 a17 a18 a19 t1 t2 u4 u5 u6 u10 u11 u12 b0 b1 b2 b3 v0 w2 w3 tk cells nc okr := pk_all (n := bi_endN.zne) (P := bi_endN.zQ) bi_endN.body ((w, G, s, h', L', dx, g), (gd, c, k, kd, kr, li, news), (led, a0, a1, a2, a3, a4, a5), (a6, a7, a8, a9, a10, a11, a12), (a13, a14, a15, a16, a17, a18, a19), (t1, t2, u4, u5, u6, u10, u11), (u12, b0, b1, b2, b3, v0, w2), (w3, tk, cells, nc, okr))
namespace bufinit_specN
abbrev zS (w : World) (x dx : Addr) (t1 t2 : Tok) : Prop := SpecC w 60 600 564 [.ref x, .int 1 t1, .str (Str.ofString "a") t2] [(dx, dictOf [] 0)] (fun h => At h [(x, instObj 651 dx)]) (fun h v h' => v = .none ∧ BufNew w dx h h')
def zP (w : World) (x dx : Addr) (t1 t2 : Tok) : Prop := zS w x dx t1 t2
abbrev zT := World × Addr × Addr × Tok × Tok
def zQ (x : zT) : Prop := zP x.1 x.2.1 x.2.2.1 x.2.2.2.1 x.2.2.2.2
theorem zne : Nonempty zT := by k_extra "zne"
def zX : zT := pk zne zQ
def zR : Red2 (zS zX.1 zX.2.1 zX.2.2.1 zX.2.2.2.1 zX.2.2.2.2) SD ED := by k_extra "zRO"
def zY : SD × ED := pk ED.ne fun x => zR.1 x.1 x.2
noncomputable def zK1 : RedF (zP zX.1 zX.2.1 zX.2.2.1 zX.2.2.2.1 zX.2.2.2.2) (Addr → Addr → Addr → Heap → Addr → Nat → Addr → Nat → Addr → Addr → List Value → Addr → List Value → Tok → Heap → Addr → Addr → Heap → Addr → Nat → Addr → Obj → Heap → Heap → Prop) (fun R => ∀ a0 a1 a2 a3 a4 a5 a6 a7 a8 a9 a10 a11 a12 a13 a14 a15 a16 a17 a18 a19 a20 a21 a22 a23, R a0 a1 a2 a3 a4 a5 a6 a7 a8 a9 a10 a11 a12 a13 a14 a15 a16 a17 a18 a19 a20 a21 a22 a23) := by
  apply Subtype.mk; intro H
  refine zR.2 fun zd ze => pk_all (n := ED.ne) (P := fun x => zR.1 x.1 x.2) ?_ (zd, ze)
  show zR.1 zY.1 zY.2
  delta zR; dsimp only
  intro B F X N TT hk hd hu hp ret dA uA hin back F' N' B' X' T'
  have c1 : zX.2.1 ≠ zX.2.2.1 := ne_of_kind hp.1 (N _ (.head _)).1 rfl
  (try dsimp only at hin)
  have hA : At zY.2.g [(zX.2.1, instObj 651 zX.2.2.1)] := ⟨hin _ _ hp.1 (nm_cons c1 List.not_mem_nil), trivial⟩
  (try dsimp only)
  (try k_fold)
  iterate 103 (focus (first | (k_unfold; (try dsimp only)) | (k_end; wrow_close) | walk1 | (dsimp only; walk1) | (leave1; (try dsimp only))))
  rename_i zy1_1 zy1_2 zy1_3 zy1_4 zy1_5 zy1_6 zy1_7 zy1_8 zy1_9 zy1_10 zy1_11 zy1_12 zy1_13 zy1_14 zy1_15 zy1_16 zy1_17 zy1_18 zy1_19 zy1_20 zy1_21 zy1_22 zy1_23 zy1_24 zy1_25 zy1_26 zy1_27 zy1_28 zy1_29 zy1_30 zy1_31 zy1_32 zy1_33 zy1_34 zy1_35 zy1_36 zy1_37 zy1_38 zy1_39 zy1_40 zy1_41 zy1_42 zy1_43 zy1_44 zy1_45 zy1_46 zy1_47 zy1_48 zy1_49 zy1_50 zy1_51 zy1_52 zy1_53 zy1_54 zy1_55 zy1_56 zy1_57 zy1_58 zy1_59 zy1_60 zy1_61 zy1_62 zy1_63 zy1_64 zy1_65 zy1_66 zy1_67 zy1_68 zy1_69 zy1_70 zy1_71 zy1_72 zy1_73 zy1_74 zy1_75 zy1_76 zy1_77 zy1_78 zy1_79 zy1_80 zy1_81 zy1_82 zy1_83 zy1_84 zy1_85 zy1_86 zy1_87 zy1_88 zy1_89 zy1_90 zy1_91 zy1_92 zy1_93 zy1_94 zy1_95 zy1_96 zy1_97 zy1_98 zy1_99 zy1_100 zy1_101
  revert B F X N TT hk hd hu hp ret dA uA hin back B' X' T' c1 hA zy1_11 zy1_15 zy1_16 zy1_17 zy1_23 zy1_24 zy1_25 zy1_26 zy1_27 zy1_28 zy1_37 zy1_40 zy1_44 zy1_45 zy1_49 zy1_50 zy1_51 zy1_61 zy1_62 zy1_63 zy1_64 zy1_71 zy1_72 zy1_73 zy1_79 zy1_80 zy1_81 zy1_82 zy1_83 zy1_84 zy1_88 zy1_89 zy1_90 zy1_91 zy1_92 zy1_93 zy1_95 zy1_96 zy1_97 zy1_98 zy1_100 zy1_101
  revert zy1_1 zy1_2 zy1_4 zy1_5 zy1_7 zy1_8 zy1_22 zy1_29 zy1_30 zy1_32 zy1_33 zy1_53 zy1_54 zy1_57 zy1_58 zy1_66 zy1_67 zy1_78 qk ek
  exact H.h zy1_9 zy1_12 zy1_13 zy1_18 zy1_19 zy1_21 zy1_34 zy1_35 zy1_38 zy1_41 zy1_42 zy1_46 zy1_47 zy1_55 zy1_60 zy1_68 zy1_69 zy1_74 zy1_75 zy1_77 zy1_85 zy1_87 zy1_94 zy1_99
theorem zN1 : Nonempty ((Addr × Addr × Addr × Heap × Addr) × (Nat × Addr × Nat × Addr × Addr) × ((List Value) × Addr × (List Value) × Tok × Heap) × (Addr × Addr × Heap × Addr × Nat) × (Addr × Obj × Heap × Heap)) := by k_extra "zne"
def zC1 : (Addr × Addr × Addr × Heap × Addr) × (Nat × Addr × Nat × Addr × Addr) × ((List Value) × Addr × (List Value) × Tok × Heap) × (Addr × Addr × Heap × Addr × Nat) × (Addr × Obj × Heap × Heap) := pk zN1 (fun x => zK1.1 x.1.1 x.1.2.1 x.1.2.2.1 x.1.2.2.2.1 x.1.2.2.2.2 x.2.1.1 x.2.1.2.1 x.2.1.2.2.1 x.2.1.2.2.2.1 x.2.1.2.2.2.2 x.2.2.1.1 x.2.2.1.2.1 x.2.2.1.2.2.1 x.2.2.1.2.2.2.1 x.2.2.1.2.2.2.2 x.2.2.2.1.1 x.2.2.2.1.2.1 x.2.2.2.1.2.2.1 x.2.2.2.1.2.2.2.1 x.2.2.2.1.2.2.2.2 x.2.2.2.2.1 x.2.2.2.2.2.1 x.2.2.2.2.2.2.1 x.2.2.2.2.2.2.2)
theorem body2 : zK1.1 zC1.1.1 zC1.1.2.1 zC1.1.2.2.1 zC1.1.2.2.2.1 zC1.1.2.2.2.2 zC1.2.1.1 zC1.2.1.2.1 zC1.2.1.2.2.1 zC1.2.1.2.2.2.1 zC1.2.1.2.2.2.2 zC1.2.2.1.1 zC1.2.2.1.2.1 zC1.2.2.1.2.2.1 zC1.2.2.1.2.2.2.1 zC1.2.2.1.2.2.2.2 zC1.2.2.2.1.1 zC1.2.2.2.1.2.1 zC1.2.2.2.1.2.2.1 zC1.2.2.2.1.2.2.2.1 zC1.2.2.2.1.2.2.2.2 zC1.2.2.2.2.1 zC1.2.2.2.2.2.1 zC1.2.2.2.2.2.2.1 zC1.2.2.2.2.2.2.2 := by
  delta zK1; dsimp only
  intro B F X N TT hk hd hu hp ret dA uA hin back B' X' T' c1 hA zy1_11 zy1_15 zy1_16 zy1_17 zy1_23 zy1_24 zy1_25 zy1_26 zy1_27 zy1_28 zy1_37 zy1_40 zy1_44 zy1_45 zy1_49 zy1_50 zy1_51 zy1_61 zy1_62 zy1_63 zy1_64 zy1_71 zy1_72 zy1_73 zy1_79 zy1_80 zy1_81 zy1_82 zy1_83 zy1_84 zy1_88 zy1_89 zy1_90 zy1_91 zy1_92 zy1_93 zy1_95 zy1_96 zy1_97 zy1_98 zy1_100 zy1_101
  k_steps
  all_goals (try dsimp only)
  all_goals (refine leaveC_of (by assumption) hin back fun kF kept => ?_; try dsimp only)
  exact ret _ _ _ kF kept (bi_end hin (by assumption) (by k_dflt k_mem) (by k_dflt k_mem) (by k_dflt k_mem) (by k_dflt k_mem) (by k_dflt k_mem) (by k_dflt k_mem) (by k_dflt k_mem) (by k_dflt k_mem) (by first | rfl | (simp; done)) (by first | rfl | (simp; done)) (by simp only [List.length_nil] at *; omega) (by assumption) (by assumption) (by k_ne) (by k_ne) (by k_ne) (by k_ne) (by k_ne) (by k_ne) (by k_ne) (by k_ne))
theorem body : zP zX.1 zX.2.1 zX.2.2.1 zX.2.2.2.1 zX.2.2.2.2 := zK1.2 ⟨fun a0 a1 a2 a3 a4 a5 a6 a7 a8 a9 a10 a11 a12 a13 a14 a15 a16 a17 a18 a19 a20 a21 a22 a23 => pk_all (n := zN1) (P := fun x => zK1.1 x.1.1 x.1.2.1 x.1.2.2.1 x.1.2.2.2.1 x.1.2.2.2.2 x.2.1.1 x.2.1.2.1 x.2.1.2.2.1 x.2.1.2.2.2.1 x.2.1.2.2.2.2 x.2.2.1.1 x.2.2.1.2.1 x.2.2.1.2.2.1 x.2.2.1.2.2.2.1 x.2.2.1.2.2.2.2 x.2.2.2.1.1 x.2.2.2.1.2.1 x.2.2.2.1.2.2.1 x.2.2.2.1.2.2.2.1 x.2.2.2.1.2.2.2.2 x.2.2.2.2.1 x.2.2.2.2.2.1 x.2.2.2.2.2.2.1 x.2.2.2.2.2.2.2) body2 ((a0, a1, a2, a3, a4), (a5, a6, a7, a8, a9), (a10, a11, a12, a13, a14), (a15, a16, a17, a18, a19), (a20, a21, a22, a23))⟩
end bufinit_specN
theorem bufinit_spec (w x dx t1 t2) : bufinit_specN.zS w x dx t1 t2 := pk_all (n := bufinit_specN.zne) (P := bufinit_specN.zQ) bufinit_specN.body (w, x, dx, t1, t2)
end
section
open N_Ri
def RecNew (w : World) (dx : Addr) (hs h' : Heap) : Prop :=
  ∃ (t : Tok) (tu : Nat → Tok) (b : Tok) (ul uld rl : Addr), At h' [(dx, dictOf (rcEs w.params t ul) 1), (ul, instObj 260 uld), (uld, dictOf (ulEs w.params tu rl 0 b .none) 5), (rl, listOf #[] 0)] ∧ (∀ x ∈ [ul, uld, rl], hs.get? x = none)
theorem ri_end {w : World} {G s h' : Heap} {L' dx ul uld rl : Addr} {news : List (Addr × Obj)} {led : Obj} {t a0 a1 a2 a3 a4 b : Tok}
    (hin : ∀ b o, s.get? b = some o → b ∉ ([(dx, led)].map (·.1)) → G.get? b = some o) (N : News G L' h' news) (mb : (dx, dictOf [en w.params "list" t (.ref ul)] 1) ∈ news) (mu : (ul, instObj 260 uld) ∈ news)
    (mud : (uld, dictOf [en w.params "rows" a0 (.ref rl), en w.params "dropped" a1 (.int 0 b), en w.params "is_on" a2 (.bool true), en w.params "point_before" a3 .none, en w.params "noted_tick" a4 .none] 5) ∈ news) (mr : (rl, listOf #[] 0) ∈ news) (n1 : uld ≠ dx) : Value.none = .none ∧ RecNew w dx s h' := by
  have kb := (N _ mb).1
  have fr : ∀ x o, (x, o) ∈ news → x ≠ dx → s.get? x = none := fun x o hm hn => free_of hin N hm (nm_cons hn List.not_mem_nil)
  refine ⟨rfl, t, fun i => [a0, a1, a2, a3, a4].getD i 0, b, ul, uld, rl, ⟨kb, (N _ mu).1, (N _ mud).1, (N _ mr).1, trivial⟩, fun x hx => ?_⟩
  simp only [List.mem_cons, List.not_mem_nil, or_false] at hx
  rcases hx with rfl | rfl | rfl
  · exact fr _ _ mu (ne_of_kind (N _ mu).1 kb rfl)
  · exact fr _ _ mud n1
  · exact fr _ _ mr (ne_of_kind (N _ mr).1 kb rfl)
namespace recinit_specN
abbrev zS (w : World) (x dx : Addr) : Prop := SpecC w 60 600 695 [.ref x] [(dx, dictOf [] 0)] (fun h => At h [(x, instObj 717 dx)]) (fun h v h' => v = .none ∧ RecNew w dx h h')
def zP (w : World) (x dx : Addr) : Prop := zS w x dx
abbrev zT := World × Addr × Addr
def zQ (x : zT) : Prop := zP x.1 x.2.1 x.2.2
theorem zne : Nonempty zT := by k_extra "zne"
def zX : zT := pk zne zQ
def zR : Red2 (zS zX.1 zX.2.1 zX.2.2) SD ED := by k_extra "zRO"
def zY : SD × ED := pk ED.ne fun x => zR.1 x.1 x.2
theorem body : zP zX.1 zX.2.1 zX.2.2 := by
  refine zR.2 fun zd ze => pk_all (n := ED.ne) (P := fun x => zR.1 x.1 x.2) ?_ (zd, ze)
  show zR.1 zY.1 zY.2
  delta zR; dsimp only
  intro B F X N TT hk hd hu hp ret dA uA hin back F' N' B' X' T'
  have c1 : zX.2.1 ≠ zX.2.2 := ne_of_kind hp.1 (N _ (.head _)).1 rfl
  (try dsimp only at hin)
  have hA : At zY.2.g [(zX.2.1, instObj 717 zX.2.2)] := ⟨hin _ _ hp.1 (nm_cons c1 List.not_mem_nil), trivial⟩
  (try dsimp only)
  (try k_fold)
  k_steps
  all_goals (try dsimp only)
  all_goals (refine leaveC_of (by assumption) hin back fun kF kept => ?_; try dsimp only)
  exact ret _ _ _ kF kept (ri_end hin (by assumption) (by k_dflt k_mem) (by k_dflt k_mem) (by k_dflt k_mem) (by k_dflt k_mem) (by k_ne))
end recinit_specN
theorem recinit_spec (w x dx) : recinit_specN.zS w x dx := pk_all (n := recinit_specN.zne) (P := recinit_specN.zQ) recinit_specN.body (w, x, dx)
theorem mi_end {w : World} {G h' : Heap} {L' dx : Addr} {news : List (Addr × Obj)} {adv : Bool} {a0 a1 a2 a3 u v : Tok} (N : News G L' h' news) (mb : (dx, dictOf [en w.params "number" a0 (.int 1 u), en w.params "advances" a1 (.bool adv), en w.params "buffer" a2 .none, en w.params "position" a3 (.int 0 v)] 4) ∈ news) :
    Value.none = .none ∧ ∃ t u v, At h' [(dx, dictOf (mkEs w.params t adv .none 0 u v) 4)] := ⟨rfl, fun i => [a0, a1, a2, a3].getD i 0, u, v, (N _ mb).1, trivial⟩
namespace mkinit_specN
abbrev zS (w : World) (x dx : Addr) (t1 : Tok) (adv : Bool) : Prop := SpecC w 60 600 453 [.ref x, .int 1 t1, .bool adv] [(dx, dictOf [] 0)] (fun h => At h [(x, instObj 477 dx)]) (fun h v h' => v = .none ∧ ∃ t u v, At h' [(dx, dictOf (mkEs w.params t adv .none 0 u v) 4)])
def zP (w : World) (x dx : Addr) (t1 : Tok) (adv : Bool) : Prop := zS w x dx t1 adv
abbrev zT := World × Addr × Addr × Tok × Bool
def zQ (x : zT) : Prop := zP x.1 x.2.1 x.2.2.1 x.2.2.2.1 x.2.2.2.2
theorem zne : Nonempty zT := by k_extra "zne"
def zX : zT := pk zne zQ
def zR : Red2 (zS zX.1 zX.2.1 zX.2.2.1 zX.2.2.2.1 zX.2.2.2.2) SD ED := by k_extra "zRO"
def zY : SD × ED := pk ED.ne fun x => zR.1 x.1 x.2
theorem body : zP zX.1 zX.2.1 zX.2.2.1 zX.2.2.2.1 zX.2.2.2.2 := by
  refine zR.2 fun zd ze => pk_all (n := ED.ne) (P := fun x => zR.1 x.1 x.2) ?_ (zd, ze)
  show zR.1 zY.1 zY.2
  delta zR; dsimp only
  intro B F X N TT hk hd hu hp ret dA uA hin back F' N' B' X' T'
  have c1 : zX.2.1 ≠ zX.2.2.1 := ne_of_kind hp.1 (N _ (.head _)).1 rfl
  (try dsimp only at hin)
  have hA : At zY.2.g [(zX.2.1, instObj 477 zX.2.2.1)] := ⟨hin _ _ hp.1 (nm_cons c1 List.not_mem_nil), trivial⟩
  (try dsimp only)
  (try k_fold)
  k_steps
  all_goals (try dsimp only)
  all_goals (refine leaveC_of (by assumption) hin back fun kF kept => ?_; try dsimp only)
  exact ret _ _ _ kF kept (mi_end (by assumption) (by k_dflt k_mem))
end mkinit_specN
theorem mkinit_spec (w x dx t1 adv) : mkinit_specN.zS w x dx t1 adv := pk_all (n := mkinit_specN.zne) (P := mkinit_specN.zQ) mkinit_specN.body (w, x, dx, t1, adv)
end
section
open N_I0
namespace inserted0_specN
abbrev zS (w : World) (k kd kr : Addr) (tk : Tok) (st e : Int) (t1 t2 : Tok) (bf : Bool) (okr : Obj) : Prop := Spec w 20 200 528 [.ref k, .int st t1, .int e t2, .bool bf] [(kr, okr)] (fun h => At h [(k, instObj 545 kd), (kd, dictOf (ksEs w.params tk kr) 1)]) (fun h x h' => x = .none ∧ At h' [(kr, okr)])
def zP (w : World) (k kd kr : Addr) (tk : Tok) (st e : Int) (t1 t2 : Tok) (bf : Bool) (okr : Obj) : Prop := ∀ (lo : (kr == sysModules) = false) (hkr : okr.IsDictOf (intKind pw w) []) (hm3 : k ≠ kr) (hm4 : kd ≠ kr), zS w k kd kr tk st e t1 t2 bf okr
abbrev zT := (World × Addr × Addr) × (Addr × Tok × Int) × (Int × Tok × Tok) × (Bool × Obj)
def zQ (x : zT) : Prop := zP x.1.1 x.1.2.1 x.1.2.2 x.2.1.1 x.2.1.2.1 x.2.1.2.2 x.2.2.1.1 x.2.2.1.2.1 x.2.2.1.2.2 x.2.2.2.1 x.2.2.2.2
theorem zne : Nonempty zT := by k_extra "zne"
def zX : zT := pk zne zQ
def zR : Red2 (zS zX.1.1 zX.1.2.1 zX.1.2.2 zX.2.1.1 zX.2.1.2.1 zX.2.1.2.2 zX.2.2.1.1 zX.2.2.1.2.1 zX.2.2.1.2.2 zX.2.2.2.1 zX.2.2.2.2) SD ED := by k_extra "zR"
def zY : SD × ED := pk ED.ne fun x => zR.1 x.1 x.2
theorem body : zQ zX := by
  intro lo hkr hm3 hm4
  refine zR.2 fun zd ze => pk_all (n := ED.ne) (P := fun x => zR.1 x.1 x.2) ?_ (zd, ze)
  show zR.1 zY.1 zY.2
  delta zR; dsimp only
  delta BodyAt; dsimp only
  intro B F X N TT hk hd hu hp ret dA uA hin back F' N' B' X' T'
  (try dsimp only at hin)
  have hA : At zY.2.g [(zX.1.2.1, instObj 545 zX.1.2.2), (zX.1.2.2, dictOf (ksEs zX.1.1.params zX.2.1.2.1 zX.2.1.1) 1)] := ⟨hin _ _ hp.1 (nm_cons hm3 List.not_mem_nil), hin _ _ hp.2.1 (nm_cons hm4 List.not_mem_nil), trivial⟩
  replace F' : Fr zY.2.g zY.2.L zY.2.h (fun y => List.lookup y [(Str.ofString "is_before", Value.bool zX.2.2.2.1), (Str.ofString "end", Value.int zX.2.2.1.1 zX.2.2.1.2.2), (Str.ofString "start", Value.int zX.2.1.2.2 zX.2.2.1.2.1), (Str.ofString "self", Value.ref zX.1.2.1)]) := F'
  (try dsimp only)
  (try k_fold)
  k_steps
  all_goals (try dsimp only)
  all_goals (refine leaveC_of (by assumption) hin back fun kF kept => ?_; try dsimp only)
  all_goals exact ret _ _ _ kF kept ⟨rfl, News.get (by assumption) (by k_dflt k_mem), trivial⟩
end inserted0_specN
theorem inserted0_spec (w k kd kr tk st e t1 t2 bf okr) : inserted0_specN.zP w k kd kr tk st e t1 t2 bf okr := pk_all (n := inserted0_specN.zne) (P := inserted0_specN.zQ) inserted0_specN.body ((w, k, kd), (kr, tk, st), (e, t1, t2), (bf, okr))
theorem inserted0_use {w : World} {p : Program} {loose : List Str} {mean : ExcName → Option Value} {mg mb : Str → Option Value} {dp un : Nat} {gd : Option (List Code)} {cn : Str} {cs : Scope} {a₀ : Addr} {ccd : Value} {cl₀ : List (Str × Addr)} {outer : List Env} {A₀ : Around} {base h₀ : Heap} {L : Addr} {m : Str → Option Value} {s : Shared} {Q E : Value → Shared → Prop} {news : List (Addr × Obj)} {k kd kr : Addr} {tk : Tok} {st e : Int} {t1 t2 : Tok} {bf : Bool} {okr : Obj} (B : Below A₀ base outer h₀) (F : Fr h₀ L s.heap m) (X : (KK w.params).In h₀) (N : News h₀ L s.heap news) (T : Top p loose mean mg mb h₀) (hk : cs.kind = .function)
    (hp : s.heap.get? k = some (instObj 545 kd)) (hp2 : s.heap.get? kd = some (dictOf (ksEs w.params tk kr) 1)) (sub : (kr, okr) ∈ news) (hd : dp + 20 < recursionLimit) (hu : un + 200 < cLine) (lo : (kr == sysModules) = false) (hkr : okr.IsDictOf (intKind pw w) []) (hm3 : k ≠ kr) (hm4 : kd ≠ kr)
    (ret : ∀ h' tk', Fr h₀ L h' m → News h₀ L h' news → Q .none { s with heap := h', toks := tk' }) :
    wpAny (model pw w) (ktrTop dp un gd cn cs L a₀ ccd cl₀ outer) (call (.ref 528) [.ref k, .int st t1, .int e t2, .bool bf]) Q E s := by
  refine spec_use2 (inserted0_spec w k kd kr tk st e t1 t2 bf okr lo hkr hm3 hm4) B F X N T hk ⟨hp, hp2, trivial⟩ ⟨sub, trivial⟩ hd hu ?_
  intro v h' tk' F' nb fr kp po
  obtain ⟨rfl, A'⟩ := po
  exact ret h' tk' F' (news_same (led := [(kr, okr)]) N ⟨sub, trivial⟩ A' kp)
end
section
open N_I1
theorem i1_end {w : World} {h₀ h : Heap} {L bd gd c kr g k li : Addr} {tb ub tg : Nat → Tok} {u8 up uz ut uc us gu gv : Tok} {pt zv ti ct sv gs ge : Int} {cells : List Value} {nc : Nat} {okr : Obj} {news : List (Addr × Obj)} (N : News h₀ L h news)
    (m0 : (bd, dictOf (bufEs w.params tb ub g k li .none pt zv ti ct sv up uz ut uc us) 20) ∈ news) (m1 : (gd, dictOf (gapEs w.params tg (.int 8 u8) (.ref c) gs ge gu gv) 4) ∈ news) (m2 : (c, listOf cells.toArray nc) ∈ news) (m3 : (kr, okr) ∈ news) :
    At h [(bd, dictOf (bufEs w.params tb ub g k li .none pt zv ti ct sv up uz ut uc us) 20), (gd, dictOf (gapEs w.params tg (.int 8 u8) (.ref c) gs ge gu gv) 4), (c, listOf cells.toArray nc), (kr, okr)] := ⟨(N _ m0).1, (N _ m1).1, (N _ m2).1, (N _ m3).1, trivial⟩
namespace insert0_specN
abbrev zS (w : World) (b bd g gd c k kd kr li cl : Addr) (tb ub tg : Nat → Tok) (tk u8 up uz ut uc us gu gv : Tok) (pt zv ti ct sv gs ge : Int) (cells codes : List Value) (nc nk : Nat) (okr : Obj) : Prop := Spec w 120 1200 112 [.ref b, .ref cl] [(bd, dictOf (bufEs w.params tb ub g k li .none pt zv ti ct sv up uz ut uc us) 20), (gd, dictOf (gapEs w.params tg (.int 8 u8) (.ref c) gs ge gu gv) 4), (c, listOf cells.toArray nc), (kr, okr)] (fun h => At h [(b, instObj 651 bd), (g, instObj 400 gd), (k, instObj 545 kd), (kd, dictOf (ksEs w.params tk kr) 1), (li, listOf #[] 0), (cl, listOf codes.toArray nk)]) (fun h x h' => x = .none ∧ ∃ ct' up uz ut uc us gu gv gs' ge' cells' nc', At h' [(bd, dictOf (bufEs w.params tb ub g k li .none (pt + codes.length) (zv + codes.length) (ti + 1) ct' sv up uz ut uc us) 20), (gd, dictOf (gapEs w.params tg (.int 8 u8) (.ref c) gs' ge' gu gv) 4), (c, listOf cells'.toArray nc'), (kr, okr)] ∧ 0 ≤ gs' ∧ gs' ≤ ge' ∧ ge' ≤ cells'.length ∧ (cells'.length : Int) ≤ cells.length + codes.length + 8 ∧ txt cells' gs' ge' = (txt cells gs ge).take (pt - 1).toNat ++ codes ++ (txt cells gs ge).drop (pt - 1).toNat)
def zP (w : World) (b bd g gd c k kd kr li cl : Addr) (tb ub tg : Nat → Tok) (tk u8 up uz ut uc us gu gv : Tok) (pt zv ti ct sv gs ge : Int) (cells codes : List Value) (nc nk : Nat) (okr : Obj) : Prop := ∀ (d1 : gd ≠ bd) (d2 : kr ≠ bd) (d3 : kr ≠ gd) (d4 : kd ≠ bd) (d5 : kd ≠ gd) (d6 : kd ≠ kr) (d7 : li ≠ c) (d8 : cl ≠ c) (d9 : b ≠ bd) (d10 : li ≠ bd) (d11 : k ≠ kr) (d12 : b ≠ gd) (d13 : b ≠ c) (d14 : b ≠ kr) (d15 : g ≠ bd) (d16 : g ≠ gd) (d17 : g ≠ c) (d18 : g ≠ kr) (d19 : k ≠ bd) (d20 : k ≠ gd) (d21 : k ≠ c) (d22 : kd ≠ c) (d23 : li ≠ gd) (d24 : li ≠ kr) (d25 : cl ≠ bd) (d26 : cl ≠ gd) (d27 : cl ≠ kr) (d28 : gd ≠ c) (d29 : bd ≠ c) (d30 : kr ≠ c) (lo : (kr == sysModules) = false) (hkr : okr.IsDictOf (intKind pw w) []) (hc : (codes.length : Int) ≠ 0) (hc' : codes.length ≤ 1000) (h3 : 0 ≤ gs) (h4 : gs ≤ ge) (h5 : ge ≤ cells.length) (h6 : cells.length ≤ 200000) (hz : zv = cells.length - ge + gs + 1) (hp1 : 1 ≤ pt) (hp2 : pt ≤ zv), zS w b bd g gd c k kd kr li cl tb ub tg tk u8 up uz ut uc us gu gv pt zv ti ct sv gs ge cells codes nc nk okr
abbrev zT := (World × Addr × Addr × Addr × Addr × Addr) × (Addr × Addr × Addr × Addr × Addr × (Nat → Tok)) × ((Nat → Tok) × (Nat → Tok) × Tok × Tok × Tok × Tok) × (Tok × Tok × Tok × Tok × Tok × Int) × (Int × Int × Int × Int × Int × Int) × ((List Value) × (List Value) × Nat × Nat × Obj)
def zQ (x : zT) : Prop := zP x.1.1 x.1.2.1 x.1.2.2.1 x.1.2.2.2.1 x.1.2.2.2.2.1 x.1.2.2.2.2.2 x.2.1.1 x.2.1.2.1 x.2.1.2.2.1 x.2.1.2.2.2.1 x.2.1.2.2.2.2.1 x.2.1.2.2.2.2.2 x.2.2.1.1 x.2.2.1.2.1 x.2.2.1.2.2.1 x.2.2.1.2.2.2.1 x.2.2.1.2.2.2.2.1 x.2.2.1.2.2.2.2.2 x.2.2.2.1.1 x.2.2.2.1.2.1 x.2.2.2.1.2.2.1 x.2.2.2.1.2.2.2.1 x.2.2.2.1.2.2.2.2.1 x.2.2.2.1.2.2.2.2.2 x.2.2.2.2.1.1 x.2.2.2.2.1.2.1 x.2.2.2.2.1.2.2.1 x.2.2.2.2.1.2.2.2.1 x.2.2.2.2.1.2.2.2.2.1 x.2.2.2.2.1.2.2.2.2.2 x.2.2.2.2.2.1 x.2.2.2.2.2.2.1 x.2.2.2.2.2.2.2.1 x.2.2.2.2.2.2.2.2.1 x.2.2.2.2.2.2.2.2.2
theorem zne : Nonempty zT := by k_extra "zne"
def zX : zT := pk zne zQ
def zR : Red2 (zS zX.1.1 zX.1.2.1 zX.1.2.2.1 zX.1.2.2.2.1 zX.1.2.2.2.2.1 zX.1.2.2.2.2.2 zX.2.1.1 zX.2.1.2.1 zX.2.1.2.2.1 zX.2.1.2.2.2.1 zX.2.1.2.2.2.2.1 zX.2.1.2.2.2.2.2 zX.2.2.1.1 zX.2.2.1.2.1 zX.2.2.1.2.2.1 zX.2.2.1.2.2.2.1 zX.2.2.1.2.2.2.2.1 zX.2.2.1.2.2.2.2.2 zX.2.2.2.1.1 zX.2.2.2.1.2.1 zX.2.2.2.1.2.2.1 zX.2.2.2.1.2.2.2.1 zX.2.2.2.1.2.2.2.2.1 zX.2.2.2.1.2.2.2.2.2 zX.2.2.2.2.1.1 zX.2.2.2.2.1.2.1 zX.2.2.2.2.1.2.2.1 zX.2.2.2.2.1.2.2.2.1 zX.2.2.2.2.1.2.2.2.2.1 zX.2.2.2.2.1.2.2.2.2.2 zX.2.2.2.2.2.1 zX.2.2.2.2.2.2.1 zX.2.2.2.2.2.2.2.1 zX.2.2.2.2.2.2.2.2.1 zX.2.2.2.2.2.2.2.2.2) SD ED := by k_extra "zR"
def zY : SD × ED := pk ED.ne fun x => zR.1 x.1 x.2
theorem body : zQ zX := by
  intro d1 d2 d3 d4 d5 d6 d7 d8 d9 d10 d11 d12 d13 d14 d15 d16 d17 d18 d19 d20 d21 d22 d23 d24 d25 d26 d27 d28 d29 d30 lo hkr hc hc' h3 h4 h5 h6 hz hp1 hp2
  refine zR.2 fun zd ze => pk_all (n := ED.ne) (P := fun x => zR.1 x.1 x.2) ?_ (zd, ze)
  show zR.1 zY.1 zY.2
  delta zR; dsimp only
  delta BodyAt; dsimp only
  intro B F X N TT hk hd hu hp ret dA uA hin back F' N' B' X' T'
  (try dsimp only at hin)
  have hA : At zY.2.g [(zX.1.2.1, instObj 651 zX.1.2.2.1), (zX.1.2.2.2.1, instObj 400 zX.1.2.2.2.2.1), (zX.2.1.1, instObj 545 zX.2.1.2.1), (zX.2.1.2.1, dictOf (ksEs zX.1.1.params zX.2.2.1.2.2.1 zX.2.1.2.2.1) 1), (zX.2.1.2.2.2.1, listOf #[] 0), (zX.2.1.2.2.2.2.1, listOf zX.2.2.2.2.2.2.1.toArray zX.2.2.2.2.2.2.2.2.1)] :=
    ⟨hin _ _ hp.1 (by k_extra "C.notin"), hin _ _ hp.2.1 (by k_extra "C.notin"), hin _ _ hp.2.2.1 (by k_extra "C.notin"), hin _ _ hp.2.2.2.1 (by k_extra "C.notin"), hin _ _ hp.2.2.2.2.1 (by k_extra "C.notin"), hin _ _ hp.2.2.2.2.2.1 (by k_extra "C.notin"), trivial⟩
  replace F' : Fr zY.2.g zY.2.L zY.2.h (fun y => List.lookup y [(Str.ofString "before_markers", Value.bool false), (Str.ofString "codes", Value.ref zX.2.1.2.2.2.2.1), (Str.ofString "buffer", Value.ref zX.1.2.1)]) := F'
  (try dsimp only)
  (try k_fold)
  k_steps
  all_goals (try dsimp only)
  all_goals (try contradiction)
  all_goals (try (exfalso; omega))
  all_goals (refine leaveC_of (by assumption) hin back fun kF kept => ?_; try dsimp only)
  all_goals exact ret _ _ _ kF kept ⟨rfl, _, _, _, _, _, _, _, _, _, _, _, _, i1_end (by assumption) (by k_dflt k_mem) (by k_dflt k_mem) (by k_dflt k_mem) (by k_dflt k_mem), by assumption, by assumption, by assumption, by assumption, by assumption⟩
end insert0_specN
theorem insert0_spec (w b bd g gd c k kd kr li cl tb ub tg tk u8 up uz ut uc us gu gv pt zv ti ct sv gs ge cells codes nc nk okr) : insert0_specN.zP w b bd g gd c k kd kr li cl tb ub tg tk u8 up uz ut uc us gu gv pt zv ti ct sv gs ge cells codes nc nk okr := pk_all (n := insert0_specN.zne) (P := insert0_specN.zQ) insert0_specN.body ((w, b, bd, g, gd, c), (k, kd, kr, li, cl, tb), (ub, tg, tk, u8, up, uz), (ut, uc, us, gu, gv, pt), (zv, ti, ct, sv, gs, ge), (cells, codes, nc, nk, okr))
end
section
open N_Sn
theorem sm_end2 {w : World} {A : Nat → Addr} {G h' : Heap} {L' : Addr} {news : List (Addr × Obj)} {tm : Nat → Tok} {adv : Bool} {um vp : Tok} {okr : Obj} (N : News G L' h' news) (m0 : (A 3, dictOf (mkEs w.params tm adv .none 0 um vp) 4) ∈ news) (m1 : (A 4, okr) ∈ news) (hd : okr.IsDictOf (intKind pw w) []) :
    Value.none = .none ∧ ∃ vp okr', At h' [(A 3, dictOf (mkEs w.params tm adv .none 0 um vp) 4), (A 4, okr')] ∧ okr'.IsDictOf (intKind pw w) [] := ⟨rfl, vp, okr, ⟨(N _ m0).1, (N _ m1).1, trivial⟩, hd⟩
namespace setmk2_specN
abbrev zS (w : World) (A : Nat → Addr) (T : Nat → Nat → Tok) (S : St) (uv : Value) (tp : Tok) (tm : Nat → Tok) (adv : Bool) (p0 : Int) (um vp : Tok) (okr : Obj) : Prop := Spec w 60 600 660 [.ref (A 11), .none, .int 0 tp] [(A 3, dictOf (mkEs w.params tm adv (.ref (A 7)) p0 um vp) 4), (A 4, okr)] (fun h => At h [(A 11, instObj 477 (A 3)), (A 7, instObj 651 (A 0)), (A 0, bufO w A T uv S), (A 1, gapO w A T S), (A 2, listOf S.cells.toArray S.nc), (A 8, instObj 400 (A 1)), (A 9, instObj 545 (A 10)), (A 10, dictOf (ksEs w.params (T 5 0) (A 4)) 1)]) (fun h x h' => x = .none ∧ ∃ vp okr', At h' [(A 3, dictOf (mkEs w.params tm adv .none 0 um vp) 4), (A 4, okr')] ∧ okr'.IsDictOf (intKind pw w) [])
def zP (w : World) (A : Nat → Addr) (T : Nat → Nat → Tok) (S : St) (uv : Value) (tp : Tok) (tm : Nat → Tok) (adv : Bool) (p0 : Int) (um vp : Tok) (okr : Obj) : Prop := ∀ (hI : Inj A) (lo : (A 4 == sysModules) = false) (hkr : okr.IsDictOf (intKind pw w) [(1, .ref (A 11))]) (h3 : 0 ≤ S.gs) (h4 : S.gs ≤ S.ge) (h5 : S.ge ≤ S.cells.length) (h6 : S.cells.length ≤ 200000), zS w A T S uv tp tm adv p0 um vp okr
abbrev zT := (World × (Nat → Addr) × (Nat → Nat → Tok)) × (St × Value × Tok) × ((Nat → Tok) × Bool × Int) × (Tok × Tok × Obj)
def zQ (x : zT) : Prop := zP x.1.1 x.1.2.1 x.1.2.2 x.2.1.1 x.2.1.2.1 x.2.1.2.2 x.2.2.1.1 x.2.2.1.2.1 x.2.2.1.2.2 x.2.2.2.1 x.2.2.2.2.1 x.2.2.2.2.2
theorem zne : Nonempty zT := by k_extra "zne"
def zX : zT := pk zne zQ
def zR : Red2 (zS zX.1.1 zX.1.2.1 zX.1.2.2 zX.2.1.1 zX.2.1.2.1 zX.2.1.2.2 zX.2.2.1.1 zX.2.2.1.2.1 zX.2.2.1.2.2 zX.2.2.2.1 zX.2.2.2.2.1 zX.2.2.2.2.2) SD ED := by k_extra "zR"
def zY : SD × ED := pk ED.ne fun x => zR.1 x.1 x.2
theorem body : zQ zX := by
  intro hI lo hkr h3 h4 h5 h6
  refine zR.2 fun zd ze => pk_all (n := ED.ne) (P := fun x => zR.1 x.1 x.2) ?_ (zd, ze)
  show zR.1 zY.1 zY.2
  delta zR; dsimp only
  delta BodyAt; dsimp only
  intro B F X N TT hk hd hu hp ret dA uA hin back F' N' B' X' T'
  (try dsimp only at hin)
  have hA : At zY.2.g [(zX.1.2.1 11, instObj 477 (zX.1.2.1 3)), (zX.1.2.1 7, instObj 651 (zX.1.2.1 0)), (zX.1.2.1 0, bufO zX.1.1 zX.1.2.1 zX.1.2.2 zX.2.1.2.1 zX.2.1.1), (zX.1.2.1 1, gapO zX.1.1 zX.1.2.1 zX.1.2.2 zX.2.1.1), (zX.1.2.1 2, listOf zX.2.1.1.cells.toArray zX.2.1.1.nc), (zX.1.2.1 8, instObj 400 (zX.1.2.1 1)), (zX.1.2.1 9, instObj 545 (zX.1.2.1 10)), (zX.1.2.1 10, dictOf (ksEs zX.1.1.params (zX.1.2.2 5 0) (zX.1.2.1 4)) 1)] :=
    ⟨hin _ _ hp.1 (nm_cons (injA' hI rfl) (nm_cons (injA' hI rfl) List.not_mem_nil)), hin _ _ hp.2.1 (nm_cons (injA' hI rfl) (nm_cons (injA' hI rfl) List.not_mem_nil)), hin _ _ hp.2.2.1 (nm_cons (injA hI rfl) (nm_cons (injA hI rfl) List.not_mem_nil)), hin _ _ hp.2.2.2.1 (nm_cons (injA hI rfl) (nm_cons (injA hI rfl) List.not_mem_nil)), hin _ _ hp.2.2.2.2.1 (nm_cons (injA hI rfl) (nm_cons (injA hI rfl) List.not_mem_nil)), hin _ _ hp.2.2.2.2.2.1 (nm_cons (injA' hI rfl) (nm_cons (injA' hI rfl) List.not_mem_nil)), hin _ _ hp.2.2.2.2.2.2.1 (nm_cons (injA' hI rfl) (nm_cons (injA' hI rfl) List.not_mem_nil)), hin _ _ hp.2.2.2.2.2.2.2.1 (nm_cons (injA' hI rfl) (nm_cons (injA' hI rfl) List.not_mem_nil)), trivial⟩
  replace F' : Fr zY.2.g zY.2.L zY.2.h (fun y => List.lookup y [(Str.ofString "place", Value.int 0 zX.2.1.2.2), (Str.ofString "buffer", Value.none), (Str.ofString "marker", Value.ref (zX.1.2.1 11))]) := F'
  (try dsimp only)
  (try k_fold)
  k_steps
  all_goals (try dsimp only)
  all_goals (refine leaveC_of (by assumption) hin back fun kF kept => ?_; try dsimp only)
  all_goals exact ret _ _ _ kF kept (sm_end2 (by assumption) (by k_dflt k_mem) (by k_dflt k_mem) (by assumption))
end setmk2_specN
theorem setmk2_spec (w A T S uv tp tm adv p0 um vp okr) : setmk2_specN.zP w A T S uv tp tm adv p0 um vp okr := pk_all (n := setmk2_specN.zne) (P := setmk2_specN.zQ) setmk2_specN.body ((w, A, T), (S, uv, tp), (tm, adv, p0), (um, vp, okr))
end
section
open N_Gr
def Mono (A : Nat → Addr) (Kp : Heap → Prop) : Prop := ∀ g h, (∀ b o, g.get? b = some o → (∀ i, i < 16 → b ≠ A i) → h.get? b = some o) → Kp g → Kp h
def OpSpec (w : World) (A : Nat → Addr) (T : Nat → Nat → Tok) (S : St) (Kp : Heap → Prop) (kl : Addr) (i k : Int) (P1 : St → List (Addr × Obj) → Prop) : Prop :=
  ∀ t, Spec w 300 3000 306 [.ref (A 7), .ref kl, .int i t] (ledL w A T S) (fun h => At h (cstL w A T) ∧ Kp h) (fun h v h' => ∃ t', v = .int k t' ∧ ∃ S1 R1, At h' (ledL w A T S1) ∧ At h' R1 ∧ (∀ p ∈ R1, h.get? p.1 = none) ∧ P1 S1 R1)
section
variable {w : World} {p : Program} {loose : List Str} {mean : ExcName → Option Value} {mg mb : Str → Option Value} {dp un : Nat} {gd : Option (List Code)} {cn : Str} {cs : Scope} {a₀ : Addr} {ccd : Value} {cl₀ : List (Str × Addr)} {outer : List Env} {A₀ : Around} {base h₀ : Heap} {L : Addr} {m : Str → Option Value} {s : Shared} {Q E : Value → Shared → Prop} {news : List (Addr × Obj)}
theorem op_use {A : Nat → Addr} {T : Nat → Nat → Tok} {S : St} {Kp : Heap → Prop} {kl : Addr} {i k : Int} {t : Tok} {P1 : St → List (Addr × Obj) → Prop} (H : OpSpec w A T S Kp kl i k P1) (B : Below A₀ base outer h₀) (F : Fr h₀ L s.heap m) (X : (KK w.params).In h₀) (N : News h₀ L s.heap news) (T' : Top p loose mean mg mb h₀) (hk : cs.kind = .function)
    (hp : At h₀ (cstL w A T)) (hmo : Mono A Kp) (hK : Kp h₀) (sub : Subl (ledL w A T S) news) (hd : dp + 300 < recursionLimit) (hu : un + 3000 < cLine)
    (ret : ∀ t' S1 R1 h' tk', Fr h₀ L h' m → (∀ new, Repl [A 0, A 1, A 2, A 3, A 4, A 5, A 6] (ledL w A T S1) news new → News h₀ L h' (new ++ R1)) → OffAll A R1 → P1 S1 R1 → Q (.int k t') { s with heap := h', toks := tk' }) :
    wpAny (model pw w) (ktrTop dp un gd cn cs L a₀ ccd cl₀ outer) (call (.ref 306) [.ref (A 7), .ref kl, .int i t]) Q E s := by
  have hp' := At.keep hp F.keep
  refine spec_use2 (H t) B F X N T' hk ⟨hp', hmo _ _ (fun b o e _ => F.keep b o e) hK⟩ sub hd hu ?_
  intro x h' tk' F' nb fr kp po
  obtain ⟨t', rfl, S1, R1, A', AR, f, po⟩ := po
  exact ret t' S1 R1 h' tk' F' (fun new hR => News.append' (nb _ _ A' hR) (free_news N F AR f).1) (fun p hq => led_pres (fun q hq => N q (sub.mem q hq)) hp' (f p hq)) po
theorem above_use {kl x : Addr} {vs : List Value} {n : Nat} {i : Int} {ti : Tok} {W : Str} {c : Tok} {its : List Value} (B : Below A₀ base outer h₀) (F : Fr h₀ L s.heap m) (X : (KK w.params).In h₀) (N : News h₀ L s.heap news) (T' : Top p loose mean mg mb h₀) (hk : cs.kind = .function)
    (g1 : vs[(i - 1).toNat]? = some (.ref 175)) (g2 : vs[(i - 1 - 1).toNat]? = some (.ref x)) (hp : s.heap.get? kl = some (listOf vs.toArray n)) (hx : s.heap.get? x = some (hdO W c its)) (hW : (W == Str.ofString "boundary") = false) (hi : 2 ≤ i) (hi' : i ≤ 400000) (hd : dp + 40 < recursionLimit) (hu : un + 400 < cLine)
    (ret : ∀ t h' tk', Fr h₀ L h' m → News h₀ L h' news → Q (.int (i - 1) t) { s with heap := h', toks := tk' }) :
    wpAny (model pw w) (ktrTop dp un gd cn cs L a₀ ccd cl₀ outer) (call (.ref 313) [.ref kl, .int i ti]) Q E s := by
  refine spec_use2 (above_spec w kl x vs n i ti W c its hi hi' g1 g2 hW) B F X N T' hk ⟨hp, hx, trivial⟩ trivial hd hu ?_
  intro v h' tk' F' nb fr kp po
  obtain ⟨t, rfl⟩ := po
  exact ret t h' tk' F' (nb [] _ At.nil Repl.all0)
end
theorem gr_end {w : World} {A : Nat → Addr} {T : Nat → Nat → Tok} {S S1 : St} {k : Int} {t : Tok} {g s h' : Heap} {L' : Addr} {R news : List (Addr × Obj)} {P1 : St → List (Addr × Obj) → Prop}
    (hin : ∀ b o, s.get? b = some o → b ∉ (ledL w A T S).map (·.1) → g.get? b = some o) (po : P1 S1 R) (off : OffAll A R) (N : News g L' h' news)
    (m0 : (A 0, dictOf (bufEs w.params (T 0) (T 1) (A 8) (A 9) (A 15) (.ref (A 13)) S1.pt S1.zv S1.ti S1.ct S1.sv S1.up S1.uz S1.ut S1.uc S1.us) 20) ∈ news) (m1 : (A 1, dictOf (gapEs w.params (T 2) (.int 8 (T 2 9)) (.ref (A 2)) S1.gs S1.ge S1.gu S1.gv) 4) ∈ news) (m2 : (A 2, listOf S1.cells.toArray S1.nc) ∈ news)
    (m3 : (A 3, dictOf (mkEs w.params (T 3) S1.adv S1.bv S1.pos S1.um S1.vp) 4) ∈ news) (m4 : (A 4, S1.okr) ∈ news) (m5 : (A 5, dictOf (ulEs w.params (T 4) (A 6) 0 (T 4 9) S1.nv) 5) ∈ news) (m6 : (A 6, listOf S1.rs.toArray S1.n) ∈ news) (mR : ∀ p ∈ R, p ∈ news) :
    ∃ t', Value.int k t = .int k t' ∧ ∃ S1 R1, At h' (ledL w A T S1) ∧ At h' R1 ∧ (∀ p ∈ R1, s.get? p.1 = none) ∧ P1 S1 R1 :=
  ⟨t, rfl, S1, R, ⟨(N _ m0).1, (N _ m1).1, (N _ m2).1, (N _ m3).1, (N _ m4).1, (N _ m5).1, (N _ m6).1, trivial⟩, At.of_news (h₀ := g) (L := L') (fun p hp => N p (mR p hp)), fun p hp => free_of hin N (mR p hp) (off7 (off p hp)), po⟩
namespace group0_specN
abbrev zS (w : World) (A : Nat → Addr) (T : Nat → Nat → Tok) (S : St) (Kp : Heap → Prop) (kl x : Addr) (vs : List Value) (n : Nat) (i k : Int) (ti : Tok) (W : Str) (c : Tok) (its : List Value) (P1 : St → List (Addr × Obj) → Prop) : Prop := Spec w 400 4000 747 [.ref (A 7), .ref kl, .int i ti] (ledL w A T S) (fun h => At h (cstL w A T) ∧ Kp h ∧ At h [(kl, listOf vs.toArray n), (x, hdO W c its)]) (fun h v h' => ∃ t', v = .int k t' ∧ ∃ S1 R1, At h' (ledL w A T S1) ∧ At h' R1 ∧ (∀ p ∈ R1, h.get? p.1 = none) ∧ P1 S1 R1)
def zP (w : World) (A : Nat → Addr) (T : Nat → Nat → Tok) (S : St) (Kp : Heap → Prop) (kl x : Addr) (vs : List Value) (n : Nat) (i k : Int) (ti : Tok) (W : Str) (c : Tok) (its : List Value) (P1 : St → List (Addr × Obj) → Prop) : Prop := ∀ (H : OpSpec w A T S Kp kl (i - 1) k P1) (hI : Inj A) (hkl : ∀ i, i < 16 → kl ≠ A i) (hx : ∀ i, i < 16 → x ≠ A i) (hmo : Mono A Kp) (g1 : vs[(i - 1).toNat]? = some (.ref 175)) (g2 : vs[(i - 1 - 1).toNat]? = some (.ref x)) (hW : (W == Str.ofString "boundary") = false) (hi : 2 ≤ i) (hi' : i ≤ 400000) (hk0 : 0 ≤ k) (hk1 : k ≤ 400000) (hst : k = 0 ∨ (1 ≤ k ∧ vs[(k - 1).toNat]? = some (.ref 175))), zS w A T S Kp kl x vs n i k ti W c its P1
abbrev zT := (World × (Nat → Addr) × (Nat → Nat → Tok) × St) × ((Heap → Prop) × Addr × Addr × (List Value)) × (Nat × Int × Int × Tok) × (Str × Tok × (List Value) × (St → List (Addr × Obj) → Prop))
def zQ (x : zT) : Prop := zP x.1.1 x.1.2.1 x.1.2.2.1 x.1.2.2.2 x.2.1.1 x.2.1.2.1 x.2.1.2.2.1 x.2.1.2.2.2 x.2.2.1.1 x.2.2.1.2.1 x.2.2.1.2.2.1 x.2.2.1.2.2.2 x.2.2.2.1 x.2.2.2.2.1 x.2.2.2.2.2.1 x.2.2.2.2.2.2
theorem zne : Nonempty zT := by k_extra "zne"
def zX : zT := pk zne zQ
def zR : Red2 (zS zX.1.1 zX.1.2.1 zX.1.2.2.1 zX.1.2.2.2 zX.2.1.1 zX.2.1.2.1 zX.2.1.2.2.1 zX.2.1.2.2.2 zX.2.2.1.1 zX.2.2.1.2.1 zX.2.2.1.2.2.1 zX.2.2.1.2.2.2 zX.2.2.2.1 zX.2.2.2.2.1 zX.2.2.2.2.2.1 zX.2.2.2.2.2.2) SD ED := by k_extra "zR"
def zY : SD × ED := pk ED.ne fun x => zR.1 x.1 x.2
theorem body : zQ zX := by
  intro H hI hkl hx hmo g1 g2 hW hi hi' hk0 hk1 hst
  refine zR.2 fun zd ze => pk_all (n := ED.ne) (P := fun x => zR.1 x.1 x.2) ?_ (zd, ze)
  show zR.1 zY.1 zY.2
  delta zR; dsimp only
  delta BodyAt; dsimp only
  intro B F X N TT hk hd hu hp ret dA uA hin back F' N' B' X' T'
  (try dsimp only at hin)
  have hC := cst_into hI hin hp.1
  have hKK : zX.2.1.1 zY.2.g := hmo _ _ (fun b o e ne => hin b o e (off7 ne)) hp.2.1
  have hA : At zY.2.g [(zX.2.1.2.1, listOf zX.2.1.2.2.2.toArray zX.2.2.1.1), (zX.2.1.2.2.1, hdO zX.2.2.2.1 zX.2.2.2.2.1 zX.2.2.2.2.2.1)] := ⟨hin _ _ hp.2.2.1 (off7 hkl), hin _ _ hp.2.2.2.1 (off7 hx), trivial⟩
  replace F' : Fr zY.2.g zY.2.L zY.2.h (fun y => List.lookup y [(Str.ofString "at", Value.int zX.2.2.1.2.1 zX.2.2.1.2.2.2), (Str.ofString "kept", Value.ref zX.2.1.2.1), (Str.ofString "buffer", Value.ref (zX.1.2.1 7))]) := F'
  dsimp only [ledL] at N'
  (try dsimp only)
  (try k_fold)
  rcases hst with hst | ⟨hst, g3⟩
  all_goals k_steps
  all_goals (try dsimp only)
  all_goals (try contradiction)
  all_goals (try (exfalso; omega))
  all_goals (refine leaveC_of (by assumption) hin back fun kF kept => ?_; try dsimp only)
  all_goals exact ret _ _ _ kF kept (gr_end hin (by assumption) (by assumption) (by assumption) (by k_dflt k_mem) (by k_dflt k_mem) (by k_dflt k_mem) (by k_dflt k_mem) (by k_dflt k_mem) (by k_dflt k_mem) (by k_dflt k_mem) (by intro q hq; repeat (first | exact hq | apply List.Mem.tail)))
end group0_specN
theorem group0_spec (w A T S Kp kl x vs n i k ti W c its P1) : group0_specN.zP w A T S Kp kl x vs n i k ti W c its P1 := pk_all (n := group0_specN.zne) (P := group0_specN.zQ) group0_specN.body ((w, A, T, S), (Kp, kl, x, vs), (n, i, k, ti), (W, c, its, P1))
def UnSpec (w : World) (A : Nat → Addr) (T : Nat → Nat → Tok) (Kp : Heap → Prop) (kl : Addr) (k : Int) (P1 : St → List (Addr × Obj) → Prop) (P2 : St → List (Addr × Obj) → Addr → St → List (Addr × Obj) → Prop) : Prop :=
  ∀ t S1 R1, P1 S1 R1 → OffAll A R1 → Spec w 300 3000 306 [.ref (A 7), .ref kl, .int k t] (ledL w A T S1) (fun h => At h (cstL w A T) ∧ Kp h ∧ At h R1) (fun h v h' => ∃ t', v = .int (k - 1) t' ∧ ∃ rl2 S2 R2, At h' (ledR w A T rl2 S2) ∧ At h' R2 ∧ (rl2 = A 6 ∨ h.get? rl2 = none) ∧ (∀ p ∈ R2, h.get? p.1 = none ∧ p.1 ≠ rl2) ∧ P2 S1 R1 rl2 S2 R2)
theorem un_use {w : World} {p : Program} {loose : List Str} {mean : ExcName → Option Value} {mg mb : Str → Option Value} {dp un : Nat} {gd : Option (List Code)} {cn : Str} {cs : Scope} {a₀ : Addr} {ccd : Value} {cl₀ : List (Str × Addr)} {outer : List Env} {A₀ : Around} {base h₀ : Heap} {L : Addr} {m : Str → Option Value} {s : Shared} {Q E : Value → Shared → Prop} {news : List (Addr × Obj)}
    {A : Nat → Addr} {T : Nat → Nat → Tok} {S1 : St} {R1 : List (Addr × Obj)} {Kp : Heap → Prop} {kl : Addr} {k : Int} {t : Tok} {P1 : St → List (Addr × Obj) → Prop} {P2 : St → List (Addr × Obj) → Addr → St → List (Addr × Obj) → Prop} (H : UnSpec w A T Kp kl k P1 P2) (po : P1 S1 R1) (B : Below A₀ base outer h₀) (F : Fr h₀ L s.heap m) (X : (KK w.params).In h₀) (N : News h₀ L s.heap news) (T' : Top p loose mean mg mb h₀) (hk : cs.kind = .function)
    (hI : Inj A) (hp : At h₀ (cstL w A T)) (hmo : Mono A Kp) (hK : Kp h₀) (sub : Subl (ledL w A T S1) news) (mR : ∀ p ∈ R1, p ∈ news) (off : OffAll A R1) (hd : dp + 300 < recursionLimit) (hu : un + 3000 < cLine)
    (ret : ∀ t' rl2 S2 R2 h' tk', Fr h₀ L h' m → News h₀ L h' (ledR w A T rl2 S2 ++ (R2 ++ R1)) → OffAll A (R2 ++ R1) → (∀ p ∈ R2 ++ R1, p.1 ≠ rl2) → (rl2 = A 6 ∨ ∀ i, i < 16 → rl2 ≠ A i) → P2 S1 R1 rl2 S2 R2 → Q (.int (k - 1) t') { s with heap := h', toks := tk' }) :
    wpAny (model pw w) (ktrTop dp un gd cn cs L a₀ ccd cl₀ outer) (call (.ref 306) [.ref (A 7), .ref kl, .int k t]) Q E s := by
  have hp' := At.keep hp F.keep
  have hR1 : At s.heap R1 := At.of_news (h₀ := h₀) (L := L) fun p hp => N p (mR p hp)
  refine spec_use2 (H t S1 R1 po off) B F X N T' hk ⟨hp', hmo _ _ (fun b o e _ => F.keep b o e) hK, hR1⟩ sub hd hu ?_
  intro x h' tk' F' nb fr kp po2
  obtain ⟨t', rfl, rl2, S2, R2, A', AR, h6, f, po2⟩ := po2
  have N7 : News h₀ L s.heap (ledL w A T S1) := fun q hq => N q (sub.mem q hq)
  have pres : ∀ x, s.heap.get? x = none → ∀ i, i < 16 → x ≠ A i := fun x hx => led_pres N7 hp' hx
  have offR : OffAll A (R2 ++ R1) := fun p hp => (List.mem_append.mp hp).elim (fun h => pres _ (f p h).1) (off p)
  have hrl : rl2 = A 6 ∨ ∀ i, i < 16 → rl2 ≠ A i := h6.imp id (pres rl2)
  have hne : ∀ p ∈ R2 ++ R1, p.1 ≠ rl2 := fun p hp => by
    rcases List.mem_append.mp hp with h | h
    · exact (f p h).2
    · rcases h6 with rfl | h6
      · exact off p h 6 (by decide)
      · exact (free_ne h6 (hR1.mem p h)).symm
  have NR2 := (free_news N F AR fun p hp => (f p hp).1).1
  have NR1 : News h₀ L h' R1 := fun p hp => ⟨kp _ _ (N p (mR p hp)).1 (off7 (off p hp)), (N p (mR p hp)).2⟩
  have sep : rl2 ≠ L ∧ h₀.get? rl2 = none := by
    rcases h6 with rfl | h6
    · exact (N7 (A 6, _) (.tail _ (.tail _ (.tail _ (.tail _ (.tail _ (.tail _ (.head _)))))))).2
    · exact new_ne F h6
  have NL : News h₀ L h' (ledR w A T rl2 S2) := by
    refine News.cons' A'.1 (N7 _ (.head _)).2 (News.cons' A'.2.1 (N7 _ (.tail _ (.head _))).2 (News.cons' A'.2.2.1 (N7 _ (.tail _ (.tail _ (.head _)))).2 (News.cons' A'.2.2.2.1 (N7 _ (.tail _ (.tail _ (.tail _ (.head _))))).2 (News.cons' A'.2.2.2.2.1 (N7 _ (.tail _ (.tail _ (.tail _ (.tail _ (.head _)))))).2 (News.cons' A'.2.2.2.2.2.1 (N7 _ (.tail _ (.tail _ (.tail _ (.tail _ (.tail _ (.head _))))))).2 (News.cons' A'.2.2.2.2.2.2.1 sep News.nil))))))
  exact ret t' rl2 S2 R2 h' tk' F' (News.append' NL (News.append' NR2 NR1)) offR hne hrl po2
theorem gu_end {w : World} {A : Nat → Addr} {T : Nat → Nat → Tok} {S S1 S2 : St} {k : Int} {t : Tok} {g s h' : Heap} {L' rl2 : Addr} {R1 R2 R : List (Addr × Obj)} {P1 : St → List (Addr × Obj) → Prop} {P2 : St → List (Addr × Obj) → Addr → St → List (Addr × Obj) → Prop}
    (hin : ∀ b o, s.get? b = some o → b ∉ (ledL w A T S).map (·.1) → g.get? b = some o) (po : P1 S1 R1) (po2 : P2 S1 R1 rl2 S2 R2) (eR : R = R2 ++ R1) (off : OffAll A R) (hne : ∀ p ∈ R, p.1 ≠ rl2) (hrl : rl2 = A 6 ∨ ∀ i, i < 16 → rl2 ≠ A i) {news : List (Addr × Obj)} (N' : News g L' h' news) (sub : ∀ p ∈ ledR w A T rl2 S2 ++ R, p ∈ news) :
    ∃ t', Value.int k t = .int k t' ∧ ∃ rl2 S2 R, At h' (ledR w A T rl2 S2) ∧ At h' R ∧ (rl2 = A 6 ∨ s.get? rl2 = none) ∧ (∀ p ∈ R, s.get? p.1 = none ∧ p.1 ≠ rl2) ∧ ∃ S1 R1 R2, R = R2 ++ R1 ∧ P1 S1 R1 ∧ P2 S1 R1 rl2 S2 R2 := by
  have N : News g L' h' (ledR w A T rl2 S2 ++ R) := fun p hp => N' p (sub p hp)
  refine ⟨t, rfl, rl2, S2, R, At.of_news (fun p hp => N p (List.mem_append_left _ hp)), At.of_news (fun p hp => N p (List.mem_append_right _ hp)), ?_, fun p hp => ⟨free_of hin N (List.mem_append_right _ hp) (off7 (off p hp)), hne p hp⟩, S1, R1, R2, eR, po, po2⟩
  exact hrl.imp id fun h => free_of hin N (List.mem_append_left _ (.tail _ (.tail _ (.tail _ (.tail _ (.tail _ (.tail _ (.head _)))))))) (off7 h)
namespace group1_specN
abbrev zS (w : World) (A : Nat → Addr) (T : Nat → Nat → Tok) (S : St) (Kp : Heap → Prop) (kl x z : Addr) (vs : List Value) (n : Nat) (i k : Int) (ti : Tok) (W W2 : Str) (c c2 : Tok) (its its2 : List Value) (P1 : St → List (Addr × Obj) → Prop) (P2 : St → List (Addr × Obj) → Addr → St → List (Addr × Obj) → Prop) : Prop := Spec w 400 4000 747 [.ref (A 7), .ref kl, .int i ti] (ledL w A T S) (fun h => At h (cstL w A T) ∧ Kp h ∧ At h [(kl, listOf vs.toArray n), (x, hdO W c its), (z, hdO W2 c2 its2)]) (fun h v h' => ∃ t', v = .int (k - 1) t' ∧ ∃ rl2 S2 R, At h' (ledR w A T rl2 S2) ∧ At h' R ∧ (rl2 = A 6 ∨ h.get? rl2 = none) ∧ (∀ p ∈ R, h.get? p.1 = none ∧ p.1 ≠ rl2) ∧ ∃ S1 R1 R2, R = R2 ++ R1 ∧ P1 S1 R1 ∧ P2 S1 R1 rl2 S2 R2)
def zP (w : World) (A : Nat → Addr) (T : Nat → Nat → Tok) (S : St) (Kp : Heap → Prop) (kl x z : Addr) (vs : List Value) (n : Nat) (i k : Int) (ti : Tok) (W W2 : Str) (c c2 : Tok) (its its2 : List Value) (P1 : St → List (Addr × Obj) → Prop) (P2 : St → List (Addr × Obj) → Addr → St → List (Addr × Obj) → Prop) : Prop := ∀ (H : OpSpec w A T S Kp kl (i - 1) k P1) (H2 : UnSpec w A T Kp kl k P1 P2) (hI : Inj A) (hkl : ∀ i, i < 16 → kl ≠ A i) (hx : ∀ i, i < 16 → x ≠ A i) (hz : ∀ i, i < 16 → z ≠ A i) (hmo : Mono A Kp) (g1 : vs[(i - 1).toNat]? = some (.ref 175)) (g2 : vs[(i - 1 - 1).toNat]? = some (.ref x)) (g4 : vs[(k - 1).toNat]? = some (.ref z)) (hW : (W == Str.ofString "boundary") = false) (hW2 : (W2 == Str.ofString "boundary") = false) (hi : 2 ≤ i) (hi' : i ≤ 400000) (hk0 : 1 ≤ k) (hk1 : k ≤ 400000) (hst : k = 1 ∨ (2 ≤ k ∧ vs[(k - 1 - 1).toNat]? = some (.ref 175))), zS w A T S Kp kl x z vs n i k ti W W2 c c2 its its2 P1 P2
abbrev zT := (World × (Nat → Addr) × (Nat → Nat → Tok) × St × (Heap → Prop)) × (Addr × Addr × Addr × (List Value) × Nat) × (Int × Int × Tok × Str × Str) × (Tok × Tok × (List Value) × (List Value) × (St → List (Addr × Obj) → Prop)) × (St → List (Addr × Obj) → Addr → St → List (Addr × Obj) → Prop)
def zQ (x : zT) : Prop := zP x.1.1 x.1.2.1 x.1.2.2.1 x.1.2.2.2.1 x.1.2.2.2.2 x.2.1.1 x.2.1.2.1 x.2.1.2.2.1 x.2.1.2.2.2.1 x.2.1.2.2.2.2 x.2.2.1.1 x.2.2.1.2.1 x.2.2.1.2.2.1 x.2.2.1.2.2.2.1 x.2.2.1.2.2.2.2 x.2.2.2.1.1 x.2.2.2.1.2.1 x.2.2.2.1.2.2.1 x.2.2.2.1.2.2.2.1 x.2.2.2.1.2.2.2.2 x.2.2.2.2
theorem zne : Nonempty zT := by k_extra "zne"
def zX : zT := pk zne zQ
def zR : Red2 (zS zX.1.1 zX.1.2.1 zX.1.2.2.1 zX.1.2.2.2.1 zX.1.2.2.2.2 zX.2.1.1 zX.2.1.2.1 zX.2.1.2.2.1 zX.2.1.2.2.2.1 zX.2.1.2.2.2.2 zX.2.2.1.1 zX.2.2.1.2.1 zX.2.2.1.2.2.1 zX.2.2.1.2.2.2.1 zX.2.2.1.2.2.2.2 zX.2.2.2.1.1 zX.2.2.2.1.2.1 zX.2.2.2.1.2.2.1 zX.2.2.2.1.2.2.2.1 zX.2.2.2.1.2.2.2.2 zX.2.2.2.2) SD ED := by k_extra "zR"
def zY : SD × ED := pk ED.ne fun x => zR.1 x.1 x.2
theorem body : zQ zX := by
  intro H H2 hI hkl hx hz hmo g1 g2 g4 hW hW2 hi hi' hk0 hk1 hst
  refine zR.2 fun zd ze => pk_all (n := ED.ne) (P := fun x => zR.1 x.1 x.2) ?_ (zd, ze)
  show zR.1 zY.1 zY.2
  delta zR; dsimp only
  delta BodyAt; dsimp only
  intro B F X N TT hk hd hu hp ret dA uA hin back F' N' B' X' T'
  (try dsimp only at hin)
  have hC := cst_into hI hin hp.1
  have hKK : zX.1.2.2.2.2 zY.2.g := hmo _ _ (fun b o e ne => hin b o e (off7 ne)) hp.2.1
  have hA : At zY.2.g [(zX.2.1.1, listOf zX.2.1.2.2.2.1.toArray zX.2.1.2.2.2.2), (zX.2.1.2.1, hdO zX.2.2.1.2.2.2.1 zX.2.2.2.1.1 zX.2.2.2.1.2.2.1), (zX.2.1.2.2.1, hdO zX.2.2.1.2.2.2.2 zX.2.2.2.1.2.1 zX.2.2.2.1.2.2.2.1)] := ⟨hin _ _ hp.2.2.1 (off7 hkl), hin _ _ hp.2.2.2.1 (off7 hx), hin _ _ hp.2.2.2.2.1 (off7 hz), trivial⟩
  replace F' : Fr zY.2.g zY.2.L zY.2.h (fun y => List.lookup y [(Str.ofString "at", Value.int zX.2.2.1.1 zX.2.2.1.2.2.1), (Str.ofString "kept", Value.ref zX.2.1.1), (Str.ofString "buffer", Value.ref (zX.1.2.1 7))]) := F'
  dsimp only [ledL] at N'
  (try dsimp only)
  (try k_fold)
  rcases hst with hst | ⟨hst, g3⟩
  all_goals k_steps
  all_goals (try dsimp only)
  all_goals (try contradiction)
  all_goals (try (exfalso; omega))
  all_goals (refine leaveC_of (by assumption) hin back fun kF kept => ?_; try dsimp only)
  all_goals exact ret _ _ _ kF kept (gu_end hin (by assumption) (by assumption) rfl (by assumption) (by assumption) (by assumption) (by assumption) (by intro q hq; repeat (first | exact hq | apply List.Mem.tail)))
end group1_specN
theorem group1_spec (w A T S Kp kl x z vs n i k ti W W2 c c2 its its2 P1 P2) : group1_specN.zP w A T S Kp kl x z vs n i k ti W W2 c c2 its its2 P1 P2 := pk_all (n := group1_specN.zne) (P := group1_specN.zQ) group1_specN.body ((w, A, T, S, Kp), (kl, x, z, vs, n), (i, k, ti, W, W2), (c, c2, its, its2, P1), P2)
end
/-! the plain law: texts -/
theorem undo_ins {α : Type} {T c : List α} {a : Nat} (h : a ≤ T.length) : (T.take a ++ c ++ T.drop a).take a ++ (T.take a ++ c ++ T.drop a).drop (a + c.length) = T := by
  have l1 : (T.take a).length = a := List.length_take_of_le h
  have e1 : (T.take a ++ c ++ T.drop a).take a = T.take a := by
    rw [List.append_assoc, List.take_append_of_le_length (by omega), List.take_of_length_le (by omega)]
  have e2 : (T.take a ++ c ++ T.drop a).drop (a + c.length) = T.drop a := by
    rw [List.drop_append_of_le_length (by rw [List.length_append]; omega), List.drop_of_length_le (by rw [List.length_append]; omega), List.nil_append]
  rw [e1, e2, List.take_append_drop]
theorem undo_del {α : Type} {T : List α} {a b : Nat} (h : a ≤ b) (hb : b ≤ T.length) : (T.take a ++ T.drop b).take a ++ (T.drop a).take (b - a) ++ (T.take a ++ T.drop b).drop a = T := by
  have l1 : (T.take a).length = a := List.length_take_of_le (by omega)
  have e1 : (T.take a ++ T.drop b).take a = T.take a := by
    rw [List.take_append_of_le_length (by omega), List.take_of_length_le (by omega)]
  have e2 : (T.take a ++ T.drop b).drop a = T.drop b := by
    rw [List.drop_append_of_le_length (by omega), List.drop_of_length_le (by omega), List.nil_append]
  have e3 : T.drop b = (T.drop a).drop (b - a) := by rw [List.drop_drop]; congr 1; omega
  rw [e1, e2, e3, List.append_assoc, List.take_append_drop, List.take_append_drop]
/-! the plain law: which state is the saved one -/
noncomputable abbrev Gp := Option Int × Int
noncomputable def noteU (ti sv : Int) (nv : Option Int) : Option Int × Option Int := if sv < ti then (none, nv) else if nv = some sv then (none, nv) else (some sv, some sv)
structure InvU (here star ti sv : Int) (nv : Option Int) (rem app : List Gp) : Prop where
  le : sv ≤ ti
  mod : sv < ti ↔ here ≠ star
  hrem : ∀ g ∈ rem, (g.1 = some sv ↔ g.2 = star)
  happ : ∀ g ∈ app, (g.1 = some sv ↔ g.2 = star)
  note : here = star → nv ≠ some sv
  old : ∀ g ∈ rem ++ app, ∀ t, g.1 = some t → t ≤ sv
  oldn : ∀ t, nv = some t → t ≤ sv
noncomputable def renU (el fr : Int) (g : Gp) : Gp := (if g.1 = some el then some fr else g.1, g.2)
theorem noteU_le {ti sv : Int} {nv : Option Int} (h : sv ≤ ti) : ∀ t, (noteU ti sv nv).1 = some t → t ≤ sv := by
  intro t ht
  unfold noteU at ht
  split at ht
  · cases ht
  · split at ht
    · cases ht
    · cases ht; exact Int.le_refl _
theorem noteU_nv {ti sv : Int} {nv : Option Int} (h : sv ≤ ti) (ho : ∀ t, nv = some t → t ≤ sv) : ∀ t, (noteU ti sv nv).2 = some t → t ≤ sv := by
  intro t ht
  unfold noteU at ht
  split at ht
  · exact ho t ht
  · split at ht
    · exact ho t ht
    · cases ht; exact Int.le_refl _
theorem noteU_iff {here star ti sv : Int} {nv : Option Int} {rem app : List Gp} (I : InvU here star ti sv nv rem app) : (noteU ti sv nv).1 = some sv ↔ here = star := by
  unfold noteU
  by_cases h : here = star
  · have hm : ¬ sv < ti := fun q => (I.mod.mp q) h
    rw [if_neg hm, if_neg (I.note h)]
    exact ⟨fun _ => h, fun _ => rfl⟩
  · rw [if_pos (I.mod.mpr h)]
    exact ⟨fun q => (by cases q), fun q => absurd q h⟩
theorem InvU.miss {here star ti sv j : Int} {nv u : Option Int} {rem app : List Gp} (I : InvU here star ti sv nv ((u, j) :: rem) app) (hu : u ≠ some sv) :
    InvU j star (ti + 1) sv (noteU ti sv nv).2 rem (app ++ [((noteU ti sv nv).1, here)]) where
  le := by have := I.le; have := I.le; omega
  mod := ⟨fun _ e => hu ((I.hrem (u, j) (.head _)).mpr e), fun _ => by have := I.le; have := I.le; omega⟩
  hrem := fun g hg => I.hrem g (.tail _ hg)
  happ := fun g hg => by
    rcases List.mem_append.mp hg with hg | hg
    · exact I.happ g hg
    · rw [List.mem_singleton.mp hg]; exact noteU_iff I
  note := fun e => absurd ((I.hrem (u, j) (.head _)).mpr e) hu
  old := fun g hg t ht => by
    rcases List.mem_append.mp hg with hg | hg
    · have := I.old g (List.mem_append_left _ (.tail _ hg)) t ht; have := I.le; omega
    · rcases List.mem_append.mp hg with hg | hg
      · have := I.old g (List.mem_append_right _ hg) t ht; have := I.le; omega
      · rw [List.mem_singleton.mp hg] at ht
        have := noteU_le I.le t ht; have := I.le; omega
  oldn := fun t ht => by have := noteU_nv I.le I.oldn t ht; have := I.le; omega
theorem InvU.hit {here star ti sv j : Int} {nv u : Option Int} {rem app : List Gp} (I : InvU here star ti sv nv ((u, j) :: rem) app) (hu : u = some sv) (hj : ∀ g ∈ rem, g.2 ≠ j) (hne : here ≠ j) :
    InvU j star (ti + 1) (ti + 1) (noteU ti sv nv).2 rem ((app ++ [((noteU ti sv nv).1, here)]).map (renU sv (ti + 1))) := by
  have hjs : j = star := (I.hrem (u, j) (.head _)).mp hu
  have hhere : here ≠ star := hjs ▸ hne
  have hu1 : (noteU ti sv nv).1 = none := by unfold noteU; rw [if_pos (I.mod.mpr hhere)]
  have hnv : (noteU ti sv nv).2 = nv := by unfold noteU; rw [if_pos (I.mod.mpr hhere)]
  refine ⟨Int.le_refl _, ⟨fun h => absurd h (Int.lt_irrefl _), fun h => absurd hjs h⟩, fun g hg => ⟨fun e => ?_, fun e => absurd (e.trans hjs.symm) (hj g hg)⟩, fun g hg => ?_, fun _ e => ?_, fun g hg t ht => ?_, fun t ht => ?_⟩
  · have := I.old g (List.mem_append_left _ (.tail _ hg)) _ e; have := I.le; omega
  · obtain ⟨g0, hg0, rfl⟩ := List.mem_map.mp hg
    have key : g0.1 = some sv ↔ g0.2 = star := by
      rcases List.mem_append.mp hg0 with h | h
      · exact I.happ g0 h
      · rw [List.mem_singleton.mp h, hu1]; exact ⟨fun q => (by cases q), fun q => absurd q hhere⟩
    have lt : ∀ t, g0.1 = some t → t ≤ sv := by
      intro t ht
      rcases List.mem_append.mp hg0 with h | h
      · exact I.old g0 (List.mem_append_right _ h) t ht
      · rw [List.mem_singleton.mp h, hu1] at ht; cases ht
    unfold renU
    by_cases q : g0.1 = some sv
    · rw [if_pos q]; exact ⟨fun _ => key.mp q, fun _ => rfl⟩
    · rw [if_neg q]; exact ⟨fun e => by have := lt _ e; have := I.le; omega, fun e => absurd (key.mpr e) q⟩
  · rw [hnv] at e; have := I.oldn _ e; have := I.le; omega
  · rcases List.mem_append.mp hg with h | h
    · have := I.old g (List.mem_append_left _ (.tail _ h)) t ht; have := I.le; omega
    · obtain ⟨g0, hg0, rfl⟩ := List.mem_map.mp h
      unfold renU at ht
      by_cases q : g0.1 = some sv
      · rw [if_pos q] at ht; cases ht; exact Int.le_refl _
      · rw [if_neg q] at ht
        rcases List.mem_append.mp hg0 with h | h
        · have := I.old g0 (List.mem_append_right _ h) t ht; have := I.le; omega
        · rw [List.mem_singleton.mp h, hu1] at ht; cases ht
  · rw [hnv] at ht; have := I.oldn t ht; have := I.le; omega
theorem InvU.command {here star ti sv : Int} {nv : Option Int} {app : List Gp} (I : InvU here star ti sv nv [] app) (hs : star ≤ here) :
    InvU (here + 1) star (ti + 1) sv (noteU ti sv nv).2 [] (app ++ [((noteU ti sv nv).1, here)]) where
  le := by have := I.le; omega
  mod := ⟨fun _ e => by omega, fun _ => by have := I.le; omega⟩
  hrem := fun g hg => absurd hg List.not_mem_nil
  happ := fun g hg => by
    rcases List.mem_append.mp hg with hg | hg
    · exact I.happ g hg
    · rw [List.mem_singleton.mp hg]; exact noteU_iff I
  note := fun e => by omega
  old := fun g hg t ht => by
    rw [List.nil_append] at hg
    rcases List.mem_append.mp hg with hg | hg
    · exact I.old g hg t ht
    · rw [List.mem_singleton.mp hg] at ht
      exact noteU_le I.le t ht
  oldn := fun t ht => noteU_nv I.le I.oldn t ht
theorem InvU.save {here star ti sv : Int} {nv : Option Int} {app : List Gp} (I : InvU here star ti sv nv [] app) (hm : sv < ti) (hj : ∀ g ∈ app, g.2 ≠ here) : InvU here here ti ti nv [] app where
  le := Int.le_refl _
  mod := ⟨fun h => absurd h (Int.lt_irrefl _), fun h => absurd rfl h⟩
  hrem := fun g hg => absurd hg List.not_mem_nil
  happ := fun g hg => ⟨fun e => by have := I.old g hg _ e; omega, fun e => absurd e (hj g hg)⟩
  note := fun _ e => by have := I.oldn _ e; omega
  old := fun g hg t ht => by have := I.old g hg t ht; omega
  oldn := fun t ht => by have := I.oldn t ht; omega
theorem InvU.turn {here star ti sv : Int} {nv : Option Int} {app : List Gp} (I : InvU here star ti sv nv [] app) : InvU here star ti sv nv app.reverse [] :=
  ⟨I.le, I.mod, fun g hg => I.happ g (List.mem_reverse.mp hg), fun g hg => absurd hg List.not_mem_nil, I.note, fun g hg t ht => by
    rw [List.append_nil] at hg
    exact I.old g (List.mem_append_right _ (List.mem_reverse.mp hg)) t ht, I.oldn⟩
/-! the plain law: groups and rows -/
structure Grp where
  u : Option Int
  mf : Bool
  op : Row
  j : Int
theorem grp_ne : Nonempty Grp := ⟨⟨none, false, .mk, 0⟩⟩
noncomputable def urow : Option Int → List Row
  | some t => [.un t]
  | none => []
noncomputable def mrow (m : Bool) : List Row := if m then [.mk] else []
noncomputable def Grp.rows (g : Grp) : List Row := urow g.u ++ (mrow g.mf ++ [g.op])
noncomputable def flat : List Grp → List Row
  | [] => []
  | g :: r => g.rows ++ .bd :: flat r
theorem flat_append : ∀ {a b : List Grp}, flat (a ++ b) = flat a ++ flat b
  | [], _ => rfl
  | g :: r, b => by
    rw [List.cons_append, flat, flat, flat_append]; simp
theorem flat_snoc {a : List Grp} {g : Grp} : flat (a ++ [g]) = (flat a ++ g.rows) ++ [.bd] := by
  rw [flat_append, flat, flat]; simp
noncomputable def gp (g : Grp) : Gp := (g.u, g.j)
noncomputable def renG (el fr : Int) (g : Grp) : Grp := { g with u := if g.u = some el then some fr else g.u }
theorem gp_renG {el fr : Int} {g : Grp} : gp (renG el fr g) = renU el fr (gp g) := rfl
def OpOk (m : Bool) (op : Row) (a b : List Value) : Prop :=
  match op with
  | .ins s e => m = false ∧ 1 ≤ s ∧ s < e ∧ e ≤ a.length + 1 ∧ e - s ≤ 1000 ∧ a.take (s - 1).toNat ++ a.drop (e - 1).toNat = b
  | .del s cs => 1 ≤ s ∧ s ≤ a.length + 1 ∧ 1 ≤ cs.length ∧ cs.length ≤ 1000 ∧ a.take (s - 1).toNat ++ cs ++ a.drop (s - 1).toNat = b
  | _ => False
theorem OpOk.noun {m : Bool} {op : Row} {a b : List Value} (h : OpOk m op a b) (el fr : Int) : ren el fr op = op := by
  cases op <;> first | rfl | exact h.elim
theorem ren_rows {g : Grp} {a b : List Value} (h : OpOk g.mf g.op a b) (el fr : Int) : g.rows.map (ren el fr) = (renG el fr g).rows := by
  obtain ⟨u, mk, op, j⟩ := g
  have e := h.noun el fr
  simp only [Grp.rows, renG, List.map_append, List.map_cons, List.map_nil, e]
  congr 1
  · cases u with
    | none => simp [urow]
    | some t =>
      by_cases q : t = el
      · simp [urow, ren, q]
      · simp [urow, ren, q]
  · cases mk <;> simp [mrow, ren]
def OpsOk (gs : List Grp) : Prop := ∀ g ∈ gs, ∃ a b, OpOk g.mf g.op a b
theorem ren_flat {el fr : Int} : ∀ {gs : List Grp}, OpsOk gs → (flat gs).map (ren el fr) = flat (gs.map (renG el fr))
  | [], _ => rfl
  | g :: r, h => by
    obtain ⟨a, b, hg⟩ := h g (.head _)
    rw [flat, List.map_append, List.map_cons, List.map_cons, flat, ren_rows hg, ren_flat fun g hg => h g (.tail _ hg)]
    rfl
theorem flat_end : ∀ {gs : List Grp}, flat gs = [] ∨ ∃ r0, flat gs = r0 ++ [.bd]
  | [] => .inl rfl
  | g :: r => by
    rcases flat_end (gs := r) with h | ⟨r0, h⟩
    · exact .inr ⟨g.rows, by rw [flat, h]⟩
    · exact .inr ⟨g.rows ++ .bd :: r0, by rw [flat, h]; simp⟩
theorem Grp.len {g : Grp} : 1 ≤ g.rows.length ∧ g.rows.length ≤ 3 := by
  obtain ⟨u, mk, op, j⟩ := g
  cases u <;> cases mk <;> simp [Grp.rows, urow, mrow]
theorem flat_len : ∀ {gs : List Grp}, (flat gs).length ≤ 4 * gs.length
  | [] => Nat.le_refl _
  | g :: r => by
    have := flat_len (gs := r)
    have := g.len
    rw [flat, List.length_append, List.length_cons, List.length_cons]; omega
/-! rows borne by the heap -/
theorem RowsAt.split {P : Params} {mk : Addr} {O : Addr → Prop} {h : Heap} : ∀ {rs qs : List Row} {vs : List Value}, RowsAt P mk O h vs (rs ++ qs) → ∃ a b, vs = a ++ b ∧ RowsAt P mk O h a rs ∧ RowsAt P mk O h b qs
  | [], _, vs, H => ⟨[], vs, rfl, trivial, H⟩
  | _ :: _, _, [], H => H.elim
  | r :: rs, qs, v :: vs, H => by
    obtain ⟨a, b, rfl, h1, h2⟩ := RowsAt.split (rs := rs) H.2
    exact ⟨v :: a, b, rfl, ⟨H.1, h1⟩, h2⟩
theorem RowsAt.one {P : Params} {mk : Addr} {O : Addr → Prop} {h : Heap} {vs : List Value} {r : Row} (H : RowsAt P mk O h vs [r]) : ∃ v, vs = [v] ∧ RowAt P mk O h v r := by
  match vs, H with
  | [v], H => exact ⟨v, rfl, H.1⟩
  | [], H => exact H.elim
  | _ :: _ :: _, H => exact H.2.elim
theorem RowsAt.ended {P : Params} {mk : Addr} {O : Addr → Prop} {h : Heap} {vs : List Value} {gs : List Grp} (H : RowsAt P mk O h vs (flat gs)) : vs = [] ∨ ∃ r0, vs = r0 ++ [.ref 175] := by
  rcases flat_end (gs := gs) with e | ⟨r0, e⟩
  · rw [e] at H
    cases vs with
    | nil => exact .inl rfl
    | cons v vs => exact H.elim
  · rw [e] at H
    obtain ⟨a, b, rfl, h1, h2⟩ := H.split
    obtain ⟨v, rfl, h3⟩ := h2.one
    exact .inr ⟨a, by rw [show v = .ref 175 from h3]⟩
theorem OpOk.hd {P : Params} {mk : Addr} {O : Addr → Prop} {h : Heap} {m : Bool} {op : Row} {a b : List Value} {v : Value} (H : RowAt P mk O h v op) (ok : OpOk m op a b) : ∃ x W c its, v = .ref x ∧ O x ∧ h.get? x = some (tup (Value.str W c :: its).toArray) ∧ (W == Str.ofString "boundary") = false ∧ (W == Str.ofString "marker") = false := by
  cases op with
  | ins s e =>
    obtain ⟨x, p, q, r, rfl, o, g⟩ := H
    exact ⟨x, _, _, _, rfl, o, g, by decide +kernel, by decide +kernel⟩
  | del s cs =>
    obtain ⟨x, pc, pd, cl, rn, f, p, q, t, n, rfl, o, _, _, _, g, _⟩ := H
    exact ⟨x, _, _, _, rfl, o, g, by decide +kernel, by decide +kernel⟩
  | bd => exact ok.elim
  | un t => exact ok.elim
  | mk => exact ok.elim
theorem LastQ.of_op {P : Params} {mk : Addr} {O : Addr → Prop} {h : Heap} {g : Grp} {rows : List Row} {vs : List Value} {a b : List Value} (H : RowsAt P mk O h vs (rows ++ g.rows)) (ok : OpOk g.mf g.op a b) : LastQ h vs false := by
  rw [Grp.rows, ← List.append_assoc, ← List.append_assoc] at H
  obtain ⟨p, q, rfl, _, h2⟩ := H.split
  obtain ⟨v, rfl, h3⟩ := h2.one
  obtain ⟨x, W, c, its, rfl, _, hg, hW, _⟩ := OpOk.hd h3 ok
  exact .inr (.inr ⟨p, x, W, c, its, rfl, hg, hW, rfl⟩)
/-! what turns, told plainly -/
noncomputable abbrev tx (S : St) : List Value := txt S.cells S.gs S.ge
structure VS (w : World) (S : St) (kvs : List (Int × Value)) : Prop where
  hnv : S.nv = .none ∨ ∃ i c, S.nv = .int i c
  h3 : 0 ≤ S.gs
  h4 : S.gs ≤ S.ge
  h5 : S.ge ≤ S.cells.length
  hz : S.zv = S.cells.length - S.ge + S.gs + 1
  hkr : S.okr.IsDictOf (intKind pw w) kvs
  kv : S.kvs = kvs
theorem VS.len {w : World} {S : St} {kvs : List (Int × Value)} (V : VS w S kvs) : ((tx S).length : Int) = S.zv - 1 := by
  rw [txt_len V.h3 V.h4 V.h5, V.hz]; omega
noncomputable def nvO : Value → Option Int
  | .int i _ => some i
  | _ => none
theorem noted_u {ti sv : Int} {nv nv' : Value} {us : List Row} (hv : nv = .none ∨ ∃ i c, nv = .int i c) (H : NotedA (decide (sv < ti)) sv nv nv' us) :
    us = urow (noteU ti sv (nvO nv)).1 ∧ nvO nv' = (noteU ti sv (nvO nv)).2 ∧ (nv' = .none ∨ ∃ i c, nv' = .int i c) := by
  have e : (∃ c, nv = .int sv c) ↔ nvO nv = some sv := by
    rcases hv with rfl | ⟨i, c, rfl⟩
    · exact ⟨(fun h => by obtain ⟨c, h⟩ := h; cases h), (fun h => by cases h)⟩
    · exact ⟨(fun h => by obtain ⟨c, h⟩ := h; cases h; rfl), (fun h => by cases h; exact ⟨_, rfl⟩)⟩
  rcases H with ⟨rfl, rfl, h⟩ | ⟨h1, h2, ⟨c, rfl⟩, rfl⟩
  · unfold noteU
    by_cases q : sv < ti
    · rw [if_pos q]; exact ⟨rfl, rfl, hv⟩
    · rw [if_neg q]
      rcases h with h | h
      · exact absurd (of_decide_eq_true h) q
      · rw [if_pos (e.mp h)]; exact ⟨rfl, rfl, hv⟩
  · unfold noteU
    rw [if_neg (of_decide_eq_false h1), if_neg fun q => h2 (e.mpr q)]
    exact ⟨rfl, rfl, .inr ⟨_, _, rfl⟩⟩
structure NewF (w : World) (A : Nat → Addr) (S S' : St) (R : List (Addr × Obj)) (a b : List Value) (m : Bool) (op : Row) : Prop where
  rows : ∃ vals, RowsIn w.params (A 11) R vals (urow (noteU S.ti S.sv (nvO S.nv)).1 ++ (mrow m ++ [op])) ∧ S'.rs = S.rs ++ vals
  nv : nvO S'.nv = (noteU S.ti S.sv (nvO S.nv)).2
  ok : OpOk m op b a
  tx : tx S' = b
  V : VS w S' S.kvs
  ti : S'.ti = S.ti + 1
  sv : S'.sv = S.sv
  bv : S'.bv = S.bv
  pos : S.kvs = [] → S'.pos = S.pos
  len : S'.cells.length ≤ S.cells.length + 1008
  rl : S'.rs.length ≤ S.rs.length + 3
theorem rows3 {w : World} {A : Nat → Addr} {h : Heap} {R : List (Addr × Obj)} {vals rs rs' : List Value} {u : Option Int} {m : Bool} {op : Row} (r : RowsIn w.params (A 11) R vals (urow u ++ (mrow m ++ [op]))) (e : rs' = rs ++ vals) (AR : At h R) : rs'.length ≤ rs.length + 3 := by
  have l := (r h (fun _ => True) AR fun _ _ => trivial).length
  have g := (Grp.mk u m op 0).len
  rw [show (Grp.mk u m op 0).rows = urow u ++ (mrow m ++ [op]) from rfl] at g
  rw [e, List.length_append]; omega
namespace newF_delN
def zP (w : World) (A : Nat → Addr) (S S' : St) (st e : Int) (R : List (Addr × Obj)) (vals : List Value) (us : List Row) (h : Heap) : Prop := ∀ {ms : List Row} (H : DelF w A S st e S' R vals us ms) (V : VS w S S.kvs) (h0 : 1 ≤ st) (h1 : st < e) (h2 : e ≤ S.zv) (h3 : e - st ≤ 1000) (AR : At h R), ∃ m op, NewF w A S S' R (tx S) ((tx S).take (st - 1).toNat ++ (tx S).drop (e - 1).toNat) m op
abbrev zT := (World × (Nat → Addr) × St) × (St × Int × Int) × ((List (Addr × Obj)) × (List Value) × (List Row)) × Heap
def zQ (x : zT) : Prop := zP x.1.1 x.1.2.1 x.1.2.2 x.2.1.1 x.2.1.2.1 x.2.1.2.2 x.2.2.1.1 x.2.2.1.2.1 x.2.2.1.2.2 x.2.2.2
theorem zne : Nonempty zT := by k_extra "zne"
def zX : zT := pk zne zQ
def st := zX.2.1.2.1
def e := zX.2.1.2.2
theorem body : zP zX.1.1 zX.1.2.1 zX.1.2.2 zX.2.1.1 st e zX.2.2.1.1 zX.2.2.1.2.1 zX.2.2.1.2.2 zX.2.2.2 := by
  intro ms H V h0 h1 h2 h3 AR
  obtain ⟨r, n, m, e1, e2, e3, e4, e5, e6, e7, e8, q1, q2, q3, q4, q5⟩ := H
  obtain ⟨n1, n2, n3⟩ := noted_u V.hnv n
  have L := V.len
  have hz := V.hz
  have hkr := V.hkr
  obtain ⟨a, ea⟩ : ∃ a : Nat, st = a + 1 := ⟨(st - 1).toNat, by omega⟩
  obtain ⟨b, eb⟩ : ∃ b : Nat, e = b + 1 := ⟨(e - 1).toNat, by omega⟩
  have ta : (st - 1).toNat = a := by omega
  have tb : (e - 1).toNat = b := by omega
  have hab : a < b := by omega
  have hbn : b ≤ (tx zX.1.2.2).length := by omega
  have hb3 : b ≤ a + 1000 := by omega
  have tc : (e - 1 - (st - 1)).toNat = b - a := by omega
  have hla : ((tx zX.1.2.2).take a).length = a := List.length_take_of_le (Nat.le_trans (Nat.le_of_lt hab) hbn)
  have lc : (cut zX.1.2.2 st e).length = b - a := by
    rw [cut, tc]
    refine List.length_take_of_le ?_
    show b - a ≤ ((tx zX.1.2.2).drop (st - 1).toNat).length
    rw [ta, List.length_drop]
    exact Nat.sub_le_sub_right hbn a
  have rr : ∃ m, RowsIn zX.1.1.params (zX.1.2.1 11) zX.2.2.1.1 zX.2.2.1.2.1 (urow (noteU zX.1.2.2.ti zX.1.2.2.sv (nvO zX.1.2.2.nv)).1 ++ (mrow m ++ [.del st (cut zX.1.2.2 st e)])) := by
    rw [← n1]
    rcases m with rfl | rfl
    · exact ⟨false, by rw [← List.append_assoc]; exact r⟩
    · exact ⟨true, by rw [← List.append_assoc]; exact r⟩
  obtain ⟨m', rr⟩ := rr
  have l2 : (((tx zX.1.2.2).take a ++ (tx zX.1.2.2).drop b).length : Int) = (tx zX.1.2.2).length - (b - a) := by
    rw [List.length_append, hla, List.length_drop]; omega
  rw [ta, tb] at q5 ⊢
  refine ⟨m', .del st (cut zX.1.2.2 st e), ⟨⟨zX.2.2.1.2.1, rr, e1⟩, n2, ?_, q5, ⟨n3, q1, q2, q3, ?_, ?_, e7⟩, e3, e4, e5, e6, ?_, rows3 rr e1 AR⟩⟩
  · refine ⟨h0, ?_, ?_, ?_, ?_⟩
    · rw [l2]; omega
    · rw [lc]; omega
    · rw [lc]; omega
    · have := undo_del (T := tx zX.1.2.2) (a := a) (b := b) (Nat.le_of_lt hab) hbn
      rw [cut, tc, ta]
      exact this
  · have t1 := txt_len q1 q2 q3
    rw [q5, l2, L] at t1
    rw [e2]; omega
  · rw [e8]; exact hkr
  · rw [q4]; omega
end newF_delN
theorem newF_del {w A S S' st e R vals us h} : newF_delN.zP w A S S' st e R vals us h := pk_all (n := newF_delN.zne) (P := newF_delN.zQ) newF_delN.body ((w, A, S), (S', st, e), (R, vals, us), h)
namespace newF_insN
def zP (w : World) (A : Nat → Addr) (S S' : St) (R : List (Addr × Obj)) (codes vals : List Value) (us : List Row) (h : Heap) : Prop := ∀ (H : InsF w A S codes S' R vals us) (V : VS w S S.kvs) (h0 : 1 ≤ S.pt) (h1 : S.pt ≤ S.zv) (h2 : 1 ≤ codes.length) (h3 : codes.length ≤ 1000) (AR : At h R), NewF w A S S' R (tx S) ((tx S).take (S.pt - 1).toNat ++ codes ++ (tx S).drop (S.pt - 1).toNat) false (.ins S.pt (S.pt + codes.length))
abbrev zT := (World × (Nat → Addr) × St) × (St × (List (Addr × Obj)) × (List Value)) × ((List Value) × (List Row) × Heap)
def zQ (x : zT) : Prop := zP x.1.1 x.1.2.1 x.1.2.2 x.2.1.1 x.2.1.2.1 x.2.1.2.2 x.2.2.1 x.2.2.2.1 x.2.2.2.2
theorem zne : Nonempty zT := by k_extra "zne"
def zX : zT := pk zne zQ
def S := zX.1.2.2
theorem body : zP zX.1.1 zX.1.2.1 S zX.2.1.1 zX.2.1.2.1 zX.2.1.2.2 zX.2.2.1 zX.2.2.2.1 zX.2.2.2.2 := by
  intro H V h0 h1 h2 h3 AR
  obtain ⟨r, n, e1, e2, e3, e4, e5, e6, e7, e8, q1, q2, q3, q4, q5⟩ := H
  obtain ⟨n1, n2, n3⟩ := noted_u V.hnv n
  have L := V.len
  have hkr := V.hkr
  obtain ⟨a, ea⟩ : ∃ a : Nat, S.pt = a + 1 := ⟨(S.pt - 1).toNat, by omega⟩
  have ta : (S.pt - 1).toNat = a := by omega
  have han : a ≤ (tx S).length := by omega
  have hla : ((tx S).take a).length = a := List.length_take_of_le han
  have tc : (S.pt + (zX.2.1.2.2.length : Int) - 1).toNat = a + zX.2.1.2.2.length := by omega
  have l2 : (((tx S).take a ++ zX.2.1.2.2 ++ (tx S).drop a).length : Int) = (tx S).length + zX.2.1.2.2.length := by
    rw [List.length_append, List.length_append, hla, List.length_drop]; omega
  have rr : RowsIn zX.1.1.params (zX.1.2.1 11) zX.2.1.2.1 zX.2.2.1 (urow (noteU S.ti S.sv (nvO S.nv)).1 ++ (mrow false ++ [.ins S.pt (S.pt + zX.2.1.2.2.length)])) := by rw [← n1]; exact r
  rw [ta] at q5 ⊢
  refine ⟨⟨zX.2.2.1, rr, e1⟩, n2, ?_, q5, ⟨n3, q1, q2, q3, ?_, ?_, e7⟩, e3, e4, e5, e6, ?_, rows3 rr e1 AR⟩
  · refine ⟨rfl, h0, by omega, ?_, by omega, ?_⟩
    · rw [l2]; omega
    · have := undo_ins (T := tx S) (c := zX.2.1.2.2) (a := a) han
      rw [ta, tc]
      exact this
  · have t1 := txt_len q1 q2 q3
    rw [q5, l2] at t1
    rw [e2]
    omega
  · rw [e8]; exact hkr
  · omega
end newF_insN
theorem newF_ins {w A S S' R codes vals us h} : newF_insN.zP w A S S' R codes vals us h := pk_all (n := newF_insN.zne) (P := newF_insN.zQ) newF_insN.body ((w, A, S), (S', R, codes), (vals, us, h))
theorem Spec.conv {w : World} {D U D' U' : Nat} {f : Addr} {args : List Value} {led led' : List (Addr × Obj)} {pre pre' : Heap → Prop} {post post' : Heap → Value → Heap → Prop} (H : Spec w D U f args led pre post) (hD : D ≤ D') (hU : U ≤ U') (sub : ∀ p ∈ led, p ∈ led') (h1 : ∀ h, pre' h → At h led' → pre h)
    (h2 : ∀ h v h', pre' h → At h led' → (∀ b o, h.get? b = some o → b ∉ led.map (·.1) → h'.get? b = some o) → post h v h' → post' h v h') : Spec w D' U' f args led' pre' post' := by
  unfold Spec at H ⊢
  intro p loose mean mg mb dp un gd cn cs a ccd cl outer A₀ base h₀ L m s Q E B F X N TT hk hd hu hp ret
  refine H p loose mean mg mb dp un gd cn cs a ccd cl outer A₀ base h₀ L m s Q E B F X (fun q hq => N q (sub q hq)) TT hk (by omega) (by omega) (h1 _ hp (At.of_news N)) ?_
  intro v h' tk' F' kept po
  refine ret v h' tk' F' (fun b o e n => kept b o e fun hm => n ?_) (h2 _ _ _ hp (At.of_news N) kept po)
  obtain ⟨q, hq, e'⟩ := List.mem_map.mp hm
  exact List.mem_map.mpr ⟨q, sub q hq, e'⟩
def Off (A : Nat → Addr) (x : Addr) : Prop := ∀ i, i < 16 → x ≠ A i
def Kh (A : Nat → Addr) (hb h : Heap) : Prop := ∀ x o, Off A x → hb.get? x = some o → h.get? x = some o
theorem Kh.mono {A : Nat → Addr} {hb : Heap} : Mono A (Kh A hb) := fun g h k K x o hx e => k x o (K x o hx e) hx
theorem mid_get {α : Type} {P Q : List α} {v : α} {n : Nat} (e : n = P.length) : (P ++ v :: Q)[n]? = some v := by
  subst e; simp
theorem group_get {P : Params} {mk : Addr} {O : Addr → Prop} {h : Heap} {vs : List Value} {pre post us ms : List Row} {op : Row} (H : RowsAt P mk O h vs (pre ++ ((us ++ (ms ++ [op])) ++ .bd :: post))) :
    ∃ ps uv mv v qs, vs = ps ++ (uv ++ (mv ++ (v :: .ref 175 :: qs))) ∧ RowsAt P mk O h ps pre ∧ RowsAt P mk O h uv us ∧ RowsAt P mk O h mv ms ∧ RowAt P mk O h v op := by
  obtain ⟨ps, q, rfl, h1, h2⟩ := H.split
  obtain ⟨gv, q, rfl, h2, h3⟩ := h2.split
  obtain ⟨uv, q', rfl, h4, h5⟩ := h2.split
  obtain ⟨mv, q'', rfl, h6, h7⟩ := h5.split
  obtain ⟨v, rfl, h8⟩ := h7.one
  cases q with
  | nil => exact h3.elim
  | cons y q =>
    have : y = .ref 175 := h3.1
    subst this
    exact ⟨ps, uv, mv, v, q, by simp, h1, h4, h6, h8⟩
noncomputable def bdO : Obj := tup [Value.str (Str.ofString "boundary") 414].toArray
theorem stp_of {P : Params} {A : Nat → Addr} {mk : Addr} {hb : Heap} {ps uv rest : List Value} {pre : List Row} {u : Option Int} {i : Int} (hps : RowsAt P mk (Off A) hb ps pre) (huv : RowsAt P mk (Off A) hb uv (urow u)) (hpre : pre = [] ∨ ∃ p0, pre = p0 ++ [.bd]) (b1 : hb.get? 175 = some bdO) (b2 : Off A 175) (hi : i = (ps.length + uv.length : Nat)) :
    Stp (hideAll hb ((List.range 16).map A)) (ps ++ (uv ++ rest)) (Str.ofString "marker") i := by
  have keep : ∀ x o, Off A x → hb.get? x = some o → (hideAll hb ((List.range 16).map A)).get? x = some o := fun x o hx e => hideAll_get _ e fun hm => by
    obtain ⟨j, hj, e⟩ := List.mem_map.mp hm
    exact hx j (List.mem_range.mp hj) e.symm
  cases u with
  | some t =>
    obtain ⟨v, rfl, x, a, b, rfl, ho, hg⟩ := huv.one
    refine .inr ⟨by simp at hi; omega, x, Str.ofString "unmodified", a, [.int t b], ?_, keep _ _ ho hg, by decide +kernel⟩
    rw [List.singleton_append]; exact mid_get (by simp at hi; omega)
  | none =>
    cases uv with
    | cons _ _ => exact huv.elim
    | nil =>
      rcases hpre with rfl | ⟨p0, rfl⟩
      · cases ps with
        | nil => exact .inl (by simpa using hi)
        | cons _ _ => exact hps.elim
      · obtain ⟨a, b, rfl, h1, h2⟩ := hps.split
        obtain ⟨v, rfl, h3⟩ := h2.one
        have : v = .ref 175 := h3
        subst this
        refine .inr ⟨by simp at hi; omega, 175, Str.ofString "boundary", 414, [], ?_, keep _ _ b2 b1, by decide +kernel⟩
        rw [List.append_assoc, List.singleton_append]; exact mid_get (by simp at hi; omega)
theorem hide_back {A : Nat → Addr} {hb h : Heap} (K : Kh A hb h) : ∀ b o, (hideAll hb ((List.range 16).map A)).get? b = some o → h.get? b = some o ∧ ∀ i, i < 16 → b ≠ A i := by
  intro b o e
  have off : Off A b := fun i hi q => by
    rw [hideAll_none _ (List.mem_map.mpr ⟨i, List.mem_range.mpr hi, q.symm⟩)] at e; cases e
  exact ⟨K _ _ off (of_hideAll _ e), off⟩
namespace op_specN
def zP (w : World) (A : Nat → Addr) (T : Nat → Nat → Tok) (S : St) (hb : Heap) (kl : Addr) (n : Nat) (pre post : List Row) (u : Option Int) (b : List Value) (i kk : Int) : Prop := ∀ {vs : List Value} {m : Bool} {op : Row} (hI : Inj A) (lo : (A 4 == sysModules) = false) (V : VS w S []) (h6 : S.cells.length ≤ 200000) (h1 : S.rs.length ≤ 400000) (hl : S.rs = [] ∨ ∃ r0, S.rs = r0 ++ [.ref 175]) (hkl : Off A kl) (hkv : hb.get? kl = some (listOf vs.toArray n)) (hvl : vs.length ≤ 400000) (H : RowsAt w.params (A 11) (Off A) hb vs (pre ++ ((urow u ++ (mrow m ++ [op])) ++ .bd :: post))) (hpre : pre = [] ∨ ∃ p0, pre = p0 ++ [.bd]) (b1 : hb.get? 175 = some bdO) (b2 : Off A 175) (ok : OpOk m op (tx S) b) (hi : i = (pre.length + (urow u).length + (mrow m).length + 1 : Nat)) (hkk : kk = (pre.length + (urow u).length : Nat)), OpSpec w A T S (Kh A hb) kl i kk (fun S1 R1 => ∃ m op, NewF w A S S1 R1 (tx S) b m op)
abbrev zT := (World × (Nat → Addr) × (Nat → Nat → Tok) × St) × (Heap × Addr × Nat × (List Row)) × ((List Row) × (Option Int) × (List Value) × Int) × Int
def zQ (x : zT) : Prop := zP x.1.1 x.1.2.1 x.1.2.2.1 x.1.2.2.2 x.2.1.1 x.2.1.2.1 x.2.1.2.2.1 x.2.1.2.2.2 x.2.2.1.1 x.2.2.1.2.1 x.2.2.1.2.2.1 x.2.2.1.2.2.2 x.2.2.2
theorem zne : Nonempty zT := by k_extra "zne"
def zX : zT := pk zne zQ
def w := zX.1.1
def A := zX.1.2.1
def T := zX.1.2.2.1
def S := zX.1.2.2.2
def b := zX.2.2.1.2.2.1
theorem body : zP w A T S zX.2.1.1 zX.2.1.2.1 zX.2.1.2.2.1 zX.2.1.2.2.2 zX.2.2.1.1 zX.2.2.1.2.1 b zX.2.2.1.2.2.2 zX.2.2.2 := by
  intro vs m op hI lo V h6 h1 hl hkl hkv hvl H hpre b1 b2 ok hi hkk
  obtain ⟨ps, uv, mv, v, qs, rfl, hps, huv, hmv, hv⟩ := group_get H
  have l1 := hps.length
  have l2 := huv.length
  have l3 := hmv.length
  have L := V.len
  have hkv0 : S.kvs = [] := V.kv
  have hkr : S.okr.IsDictOf (intKind pw w) S.kvs := hkv0 ▸ V.hkr
  have hkv' : S.kvs = [] ∨ S.kvs = [(1, .ref (A 11))] := .inl hkv0
  simp only [List.length_append, List.length_cons] at hvl
  intro t
  cases op with
  | bd => exact ok.elim
  | un _ => exact ok.elim
  | mk => exact ok.elim
  | ins s e =>
    obtain ⟨rfl, o1, o2, o3, o4, o5⟩ := ok
    have : mv = [] := by cases mv with
      | nil => rfl
      | cons _ _ => exact hmv.elim
    subst this
    obtain ⟨x, a, bb, c, rfl, ho, hg⟩ := hv
    have g1 : (ps ++ (uv ++ ([] ++ (Value.ref x :: .ref 175 :: qs))))[(zX.2.2.1.2.2.2 - 1).toNat]? = some (.ref x) := by
      rw [List.nil_append, ← List.append_assoc]
      exact mid_get (by rw [List.length_append]; simp [mrow] at hi; omega)
    refine (uri_spec w A T S zX.2.1.2.1 x _ zX.2.1.2.2.1 zX.2.2.1.2.2.2 s e t a bb c hI hkl ho (by omega) (by omega) g1 lo hkr hkv' V.hnv h1 hl V.h3 V.h4 V.h5 h6 V.hz o1 o2 (by omega)).conv (Nat.le_refl _) (Nat.le_refl _) (fun _ h => h) ?_ ?_
    · rintro h ⟨hc, K⟩ _
      exact ⟨hc, K _ _ hkl hkv, K _ _ ho hg, trivial⟩
    · rintro h v h' ⟨hc, K⟩ _ _ ⟨t', rfl, S', R, vals, us, ms, A', AR, f, D⟩
      obtain ⟨m', op', nf⟩ := newF_del D (hkv0 ▸ V) o1 o2 (by omega) o4 AR
      refine ⟨t', by congr 1; simp [mrow] at hi; omega, S', R, A', AR, f, m', op', ?_⟩
      rw [← o5]; exact nf
  | del s cs =>
    obtain ⟨o1, o2, o3, o4, o5⟩ := ok
    obtain ⟨x, pc, pd, cl, rn, f, a, c, t', nk, rfl, ho, ho1, ho2, ho3, hg, hg1, hg2, hg3⟩ := hv
    have key : ∀ up h h', Ins2 w A T { S with pt := s, up := up } cs h h' → ∃ S1 R1, At h' (ledL w A T S1) ∧ At h' R1 ∧ (∀ p ∈ R1, h.get? p.1 = none) ∧ ∃ m op, NewF w A S S1 R1 (tx S) b m op := by
      rintro up h h' ⟨S', R, vals, us, A', AR, f, D⟩
      have nf := newF_ins (w := w) (A := A) (S := { S with pt := s, up := up }) D ⟨V.hnv, V.h3, V.h4, V.h5, V.hz, hkr, rfl⟩ o1 (by show s ≤ S.zv; omega) o3 o4 AR
      refine ⟨S', R, A', AR, f, false, .ins s (s + cs.length), ?_⟩
      rw [← o5]
      exact ⟨nf.rows, nf.nv, nf.ok, nf.tx, nf.V, nf.ti, nf.sv, nf.bv, nf.pos, nf.len, nf.rl⟩
    cases m with
    | false =>
      have : mv = [] := by cases mv with
        | nil => rfl
        | cons _ _ => exact hmv.elim
      subst this
      have g1 : (ps ++ (uv ++ ([] ++ (Value.ref x :: .ref 175 :: qs))))[(zX.2.2.1.2.2.2 - 1).toNat]? = some (.ref x) := by
        rw [List.nil_append, ← List.append_assoc]
        exact mid_get (by rw [List.length_append]; simp [mrow] at hi; omega)
      refine (urd0_spec w A T S zX.2.1.2.1 x pc pd cl rn _ cs zX.2.1.2.2.1 nk zX.2.2.1.2.2.2 s f t a c t' hI hkl ho ho1 ho2 ho3 (by omega) (by omega) g1 (by omega) o4 lo hkr hkv0 V.hnv h1 hl V.h3 V.h4 V.h5 h6 V.hz o1 (by omega)).conv (Nat.le_refl _) (Nat.le_refl _) (fun _ h => h) ?_ ?_
      · rintro h ⟨hc, K⟩ _
        exact ⟨hc, ⟨K _ _ hkl hkv, K _ _ ho hg, trivial⟩, ⟨K _ _ ho1 hg1, K _ _ ho2 hg2, K _ _ ho3 hg3, trivial⟩, _, stp_of hps huv hpre b1 b2 (by simp [mrow] at hi; omega), hide_back K⟩
      · rintro h v h' ⟨hc, K⟩ _ _ ⟨k', t'', rfl, rfl, up, D⟩
        exact ⟨t'', by congr 1; simp [mrow] at hi; omega, key up h h' D⟩
    | true =>
      obtain ⟨z, rfl, hz⟩ := hmv.one
      obtain ⟨z, d, bb, cc, rfl, hz1, hz2⟩ := hz
      have g1 : (ps ++ (uv ++ ([Value.ref z] ++ (Value.ref x :: .ref 175 :: qs))))[(zX.2.2.1.2.2.2 - 1).toNat]? = some (.ref x) := by
        rw [← List.append_assoc, ← List.append_assoc]
        exact mid_get (by rw [List.length_append, List.length_append]; simp [mrow] at hi ⊢; omega)
      have g2 : (ps ++ (uv ++ ([Value.ref z] ++ (Value.ref x :: .ref 175 :: qs))))[(zX.2.2.1.2.2.2 - 1 - 1).toNat]? = some (.ref z) := by
        rw [← List.append_assoc, List.singleton_append]
        exact mid_get (by rw [List.length_append]; simp [mrow] at hi ⊢; omega)
      refine (urd1_spec w A T S zX.2.1.2.1 x z pc pd cl rn _ cs zX.2.1.2.2.1 nk zX.2.2.1.2.2.2 s d f t a c bb cc t' hI hkl ho hz1 ho1 ho2 ho3 (by simp [mrow] at hi; omega) (by omega) g1 g2 (by omega) o4 lo hkr hkv0 V.hnv h1 hl V.h3 V.h4 V.h5 h6 V.hz o1 (by omega)).conv (Nat.le_refl _) (Nat.le_refl _) (fun _ h => h) ?_ ?_
      · rintro h ⟨hc, K⟩ _
        exact ⟨hc, ⟨K _ _ hkl hkv, K _ _ ho hg, K _ _ hz1 hz2, trivial⟩, ⟨K _ _ ho1 hg1, K _ _ ho2 hg2, K _ _ ho3 hg3, trivial⟩, _, stp_of hps huv hpre b1 b2 (by simp [mrow] at hi; omega), hide_back K⟩
      · rintro h v h' ⟨hc, K⟩ _ _ ⟨k', t'', rfl, rfl, up, D⟩
        exact ⟨t'', by congr 1; simp [mrow] at hi; omega, key up h h' D⟩
end op_specN
theorem op_spec {w A T S hb kl n pre post u b i kk} : op_specN.zP w A T S hb kl n pre post u b i kk := pk_all (n := op_specN.zne) (P := op_specN.zQ) op_specN.body ((w, A, T, S), (hb, kl, n, pre), (post, u, b, i), kk)
namespace off_ofN
def zP (w : World) (A : Nat → Addr) (T : Nat → Nat → Tok) (S : St) (h : Heap) (x : Addr) : Prop := ∀ (h1 : At h (ledL w A T S)) (h2 : At h (cstL w A T)) (hx : h.get? x = none), Off A x
abbrev zT := (World × (Nat → Addr)) × ((Nat → Nat → Tok) × St) × (Heap × Addr)
def zQ (x : zT) : Prop := zP x.1.1 x.1.2 x.2.1.1 x.2.1.2 x.2.2.1 x.2.2.2
theorem zne : Nonempty zT := by k_extra "zne"
def zX : zT := pk zne zQ
theorem body : zQ zX := by
  intro h1 h2 hx
  have ne : ∀ y o, zX.2.2.1.get? y = some o → zX.2.2.2 ≠ y := fun y o e => free_ne hx e
  obtain ⟨a0, a1, a2, a3, a4, a5, a6, _⟩ := h1
  obtain ⟨a7, a8, a9, a10, a11, a12, a13, a14, a15, _⟩ := h2
  intro i hi
  have : i = 0 ∨ i = 1 ∨ i = 2 ∨ i = 3 ∨ i = 4 ∨ i = 5 ∨ i = 6 ∨ i = 7 ∨ i = 8 ∨ i = 9 ∨ i = 10 ∨ i = 11 ∨ i = 12 ∨ i = 13 ∨ i = 14 ∨ i = 15 := lt16 i hi
  rcases this with rfl | rfl | rfl | rfl | rfl | rfl | rfl | rfl | rfl | rfl | rfl | rfl | rfl | rfl | rfl | rfl
  · exact ne _ _ a0
  · exact ne _ _ a1
  · exact ne _ _ a2
  · exact ne _ _ a3
  · exact ne _ _ a4
  · exact ne _ _ a5
  · exact ne _ _ a6
  · exact ne _ _ a7
  · exact ne _ _ a8
  · exact ne _ _ a9
  · exact ne _ _ a10
  · exact ne _ _ a11
  · exact ne _ _ a12
  · exact ne _ _ a13
  · exact ne _ _ a14
  · exact ne _ _ a15
end off_ofN
theorem off_of {w A T S h x} : off_ofN.zP w A T S h x := pk_all (n := off_ofN.zne) (P := off_ofN.zQ) off_ofN.body ((w, A), (T, S), (h, x))
def Told (w : World) (A : Nat → Addr) (Or : Addr → Prop) (hb : Heap) (R : List (Addr × Obj)) (vs : List Value) (rows : List Row) : Prop := ∀ (h2 : Heap) (O' : Addr → Prop), (∀ x o, Or x → hb.get? x = some o → h2.get? x = some o ∧ O' x) → At h2 R → (∀ p ∈ R, O' p.1) → RowsAt w.params (A 11) O' h2 vs rows
noncomputable def newRows (S : St) (m : Bool) (op : Row) : List Row := urow (noteU S.ti S.sv (nvO S.nv)).1 ++ (mrow m ++ [op])
theorem NewF.told {w : World} {A : Nat → Addr} {S S' : St} {R : List (Addr × Obj)} {a b : List Value} {m : Bool} {op : Row} {hb : Heap} {Or : Addr → Prop} {rows : List Row} (F : NewF w A S S' R a b m op) (H : RowsAt w.params (A 11) Or hb S.rs rows) : Told w A Or hb R S'.rs (rows ++ newRows S m op) := by
  obtain ⟨vals, r, e⟩ := F.rows
  intro h2 O' k AR ho
  rw [e]
  exact (H.keep (fun x o hx hg => (k x o hx hg).1) (fun x o hx hg => (k x o hx hg).2)).append (r h2 O' AR ho)
def P2h (w : World) (A : Nat → Addr) (S : St) (Or : Addr → Prop) (hb : Heap) (tk : Int) (a b : List Value) (rows : List Row) (S1 : St) (R1 : List (Addr × Obj)) (rl2 : Addr) (S2 : St) (R2 : List (Addr × Obj)) : Prop :=
  (tk ≠ S.sv ∧ rl2 = A 6 ∧ S2 = S1 ∧ R2 = []) ∨ (tk = S.sv ∧ Off A rl2 ∧ ∃ m op us k ys, NewF w A S S1 R1 a b m op ∧ S2 = { S1 with sv := S1.ti, us := us, rs := ys, n := k } ∧ Told w A Or hb (R2 ++ R1) ys ((rows ++ newRows S m op).map (ren S.sv S1.ti)))
theorem un_spec {Or : Addr → Prop} {w : World} {A : Nat → Addr} {T : Nat → Nat → Tok} {S : St} {hb : Heap} {kl z : Addr} {vs : List Value} {n : Nat} {k tk : Int} {p q : Tok} {a b : List Value} {rows : List Row} (hI : Inj A) (h1 : S.rs.length ≤ 300000) (hkl : Off A kl) (hkv : hb.get? kl = some (listOf vs.toArray n)) (hz : Off A z) (hzv : hb.get? z = some (unO tk p q)) (g1 : vs[(k - 1).toNat]? = some (.ref z)) (hk : 1 ≤ k) (hk' : k ≤ 400000)
    (hOr : ∀ x, Or x → Off A x) (hcur : RowsAt w.params (A 11) Or hb S.rs rows) : UnSpec w A T (Kh A hb) kl k (fun S1 R1 => ∃ m op, NewF w A S S1 R1 a b m op) (P2h w A S Or hb tk a b rows) := by
  rintro t S1 R1 ⟨m, op, nf⟩ offR
  by_cases hit : tk = S.sv
  · have e1 : tk = S1.sv := hit.trans nf.sv.symm
    have hr1 := nf.rl
    let O : Addr → Prop := fun x => (Or x ∧ ∃ o, hb.get? x = some o) ∨ ∃ p ∈ R1, p.1 = x
    have hO : ∀ x, O x → ∀ i, i < 7 → x ≠ A i := by
      rintro x (⟨hx, _⟩ | ⟨p, hp, rfl⟩) i hi
      · exact hOr x hx i (by omega)
      · exact offR p hp i (by omega)
    refine (uru1_spec w A T S1 kl z vs (rows ++ newRows S m op) n k t p q O hI hO hkl hz hk hk' g1 (by omega)).conv (Nat.le_refl _) (Nat.le_refl _) (fun _ h => h) ?_ ?_
    · rintro h ⟨hc, K, AR⟩ _
      refine ⟨hc, ⟨K _ _ hkl hkv, by rw [← e1]; exact K _ _ hz hzv, trivial⟩, ?_⟩
      exact nf.told hcur h O (fun x o hx e => ⟨K x o (hOr x hx) e, .inl ⟨hx, o, e⟩⟩) AR fun p hp => .inr ⟨p, hp, rfl⟩
    · rintro h v h' ⟨hc, K, AR⟩ hl _ ⟨t', rfl, rl', ys, R, kk, us', A', f, AR', f', ne, told⟩
      refine ⟨t', rfl, rl', _, R, A', AR', .inr f, fun p hp => ⟨f' p hp, ne p hp⟩, .inr ⟨hit, off_of hl hc f, m, op, us', kk, ys, nf, rfl, ?_⟩⟩
      intro h2 O' k2 A2 ho
      rw [← nf.sv]
      refine told h2 O' ?_ A2.left fun p hp => ho p (List.mem_append_left _ hp)
      rintro x o (⟨hx, o', e⟩ | ⟨p, hp, rfl⟩) hg
      · have := K x o' (hOr x hx) e
        rw [hg] at this; cases this
        exact k2 x o hx e
      · have := AR.mem p hp
        rw [hg] at this; cases this
        exact ⟨A2.right.mem p hp, ho p (List.mem_append_right _ hp)⟩
  · refine (uru0_spec w A T S1 kl z vs n k tk t p q hk hk' g1 (by rw [nf.sv]; exact hit)).conv (Nat.le_refl _) (Nat.le_refl _) (fun _ h => absurd h List.not_mem_nil) ?_ ?_
    · rintro h ⟨hc, K, AR⟩ hl
      exact ⟨hc.1, hl.1, K _ _ hkl hkv, K _ _ hz hzv, trivial⟩
    · rintro h v h' ⟨hc, K, AR⟩ hl kept ⟨t', rfl⟩
      exact ⟨t', rfl, A 6, S1, [], hl.keep fun b o e => kept b o e List.not_mem_nil, trivial, .inl rfl, fun p hp => absurd hp List.not_mem_nil, .inl ⟨hit, rfl, rfl, rfl⟩⟩
def GrpF (w : World) (A : Nat → Addr) (S : St) (Or : Addr → Prop) (hb : Heap) (u : Option Int) (a b : List Value) (rows : List Row) (rl2 : Addr) (S2 : St) (R : List (Addr × Obj)) : Prop :=
  ∃ S1 m op R1, NewF w A S S1 R1 a b m op ∧ ((u ≠ some S.sv ∧ S2 = S1 ∧ R = R1 ∧ rl2 = A 6) ∨ (u = some S.sv ∧ Off A rl2 ∧ ∃ us k ys, S2 = { S1 with sv := S1.ti, us := us, rs := ys, n := k } ∧ Told w A Or hb R ys ((rows ++ newRows S m op).map (ren S.sv S1.ti))))
namespace grp_specN
def zP (Or : Addr → Prop) (w : World) (A : Nat → Addr) (T : Nat → Nat → Tok) (S : St) (hb : Heap) (kl : Addr) (n : Nat) (post : List Row) (b : List Value) (i : Int) (ti : Tok) (rows : List Row) : Prop := ∀ {vs : List Value} {pre : List Row} {g : Grp} (hI : Inj A) (lo : (A 4 == sysModules) = false) (V : VS w S []) (h6 : S.cells.length ≤ 200000) (h1 : S.rs.length ≤ 300000) (hl : S.rs = [] ∨ ∃ r0, S.rs = r0 ++ [.ref 175]) (hkl : Off A kl) (hkv : hb.get? kl = some (listOf vs.toArray n)) (hvl : vs.length ≤ 400000) (H : RowsAt w.params (A 11) (Off A) hb vs (pre ++ (g.rows ++ .bd :: post))) (hpre : pre = [] ∨ ∃ p0, pre = p0 ++ [.bd]) (b1 : hb.get? 175 = some bdO) (b2 : Off A 175) (ok : OpOk g.mf g.op (tx S) b) (hi : i = (pre.length + g.rows.length + 1 : Nat)) (hOr : ∀ x, Or x → Off A x) (hcur : RowsAt w.params (A 11) Or hb S.rs rows), Spec w 400 4000 747 [.ref (A 7), .ref kl, .int i ti] (ledL w A T S) (fun h => At h (cstL w A T) ∧ Kh A hb h) (fun h v h' => ∃ t', v = .int pre.length t' ∧ ∃ rl2 S2 R, At h' (ledR w A T rl2 S2) ∧ At h' R ∧ (rl2 = A 6 ∨ h.get? rl2 = none) ∧ (∀ p ∈ R, h.get? p.1 = none ∧ p.1 ≠ rl2) ∧ GrpF w A S Or hb g.u (tx S) b rows rl2 S2 R)
abbrev zT := ((Addr → Prop) × World × (Nat → Addr) × (Nat → Nat → Tok)) × (St × Heap × Addr × Nat) × ((List Row) × (List Value) × Int × Tok) × (List Row)
def zQ (x : zT) : Prop := zP x.1.1 x.1.2.1 x.1.2.2.1 x.1.2.2.2 x.2.1.1 x.2.1.2.1 x.2.1.2.2.1 x.2.1.2.2.2 x.2.2.1.1 x.2.2.1.2.1 x.2.2.1.2.2.1 x.2.2.1.2.2.2 x.2.2.2
theorem zne : Nonempty zT := by k_extra "zne"
def zX : zT := pk zne zQ
theorem body : zQ zX := by
  intro vs pre g hI lo V h6 h1 hl hkl hkv hvl H hpre b1 b2 ok hi hOr hcur
  obtain ⟨u, mk, op, j⟩ := g
  have H' : RowsAt zX.1.2.1.params (zX.1.2.2.1 11) (Off zX.1.2.2.1) zX.2.1.2.1 vs (pre ++ ((urow u ++ (mrow mk ++ [op])) ++ .bd :: zX.2.2.1.1)) := H
  have hop := fun kk (hkk : kk = ((pre.length + (urow u).length : Nat) : Int)) => op_spec (T := zX.1.2.2.2) (kk := kk) (i := zX.2.2.1.2.2.1 - 1) hI lo V h6 (by omega) hl hkl hkv hvl H' hpre b1 b2 ok (by simp [Grp.rows] at hi; omega) hkk
  obtain ⟨ps, uv, mv, v, qs, rfl, hps, huv, hmv, hv⟩ := group_get H'
  have l1 := hps.length
  have l2 := huv.length
  have l3 := hmv.length
  have hgl : (Grp.mk u mk op j).rows.length = (urow u).length + (mrow mk).length + 1 := by simp [Grp.rows]; omega
  rw [hgl] at hi
  obtain ⟨x, W, c, its, rfl, hxo, hxg, hW, _⟩ := OpOk.hd hv ok
  simp only [List.length_append, List.length_cons] at hvl
  have g1 : (ps ++ (uv ++ (mv ++ (Value.ref x :: .ref 175 :: qs))))[(zX.2.2.1.2.2.1 - 1).toNat]? = some (.ref 175) := by
    rw [← List.append_assoc, ← List.append_assoc, ← List.singleton_append (l := .ref 175 :: qs), ← List.append_assoc]
    exact mid_get (by simp only [List.length_append, List.length_singleton]; omega)
  have g2 : (ps ++ (uv ++ (mv ++ (Value.ref x :: .ref 175 :: qs))))[(zX.2.2.1.2.2.1 - 1 - 1).toNat]? = some (.ref x) := by
    rw [← List.append_assoc, ← List.append_assoc]
    exact mid_get (by simp only [List.length_append]; omega)
  have hend : ∀ rest, (pre.length : Int) = 0 ∨ (1 ≤ (pre.length : Int) ∧ (ps ++ rest)[((pre.length : Int) - 1).toNat]? = some (Value.ref 175)) := by
    intro rest
    rcases hpre with rfl | ⟨p0, rfl⟩
    · exact .inl rfl
    · obtain ⟨a, bb, rfl, q1, q2⟩ := hps.split
      obtain ⟨v, rfl, q3⟩ := q2.one
      have : v = .ref 175 := q3
      subst this
      have := q1.length
      refine .inr ⟨by simp; omega, ?_⟩
      rw [List.append_assoc, List.singleton_append]
      exact mid_get (by simp; omega)
  cases u with
  | none =>
    refine (group0_spec zX.1.2.1 zX.1.2.2.1 zX.1.2.2.2 zX.2.1.1 (Kh zX.1.2.2.1 zX.2.1.2.1) zX.2.1.2.2.1 x _ zX.2.1.2.2.2 zX.2.2.1.2.2.1 pre.length zX.2.2.1.2.2.2 W c its _ (hop _ (by simp [urow])) hI hkl hxo Kh.mono g1 g2 hW (by omega) (by omega) (by omega) (by omega) (hend _)).conv (Nat.le_refl _) (Nat.le_refl _) (fun _ h => h) ?_ ?_
    · rintro h ⟨hc, K⟩ _
      exact ⟨hc, K, K _ _ hkl hkv, K _ _ hxo hxg, trivial⟩
    · rintro h v h' ⟨hc, K⟩ hld _ ⟨t', rfl, S1, R1, A', AR, f, m, op', nf⟩
      exact ⟨t', rfl, zX.1.2.2.1 6, S1, R1, A', AR, .inl rfl, fun p hp => ⟨f p hp, off_of hld hc (f p hp) 6 (by decide)⟩, S1, m, op', R1, nf, .inl ⟨(by intro q; cases q), rfl, rfl, rfl⟩⟩
  | some tk =>
    obtain ⟨zv, rfl, z, p, q, rfl, hzo, hzg⟩ := huv.one
    have lu : (urow (some tk)).length = 1 := rfl
    rw [lu] at hi
    have g4 : (ps ++ ([Value.ref z] ++ (mv ++ (Value.ref x :: .ref 175 :: qs))))[((pre.length : Int) + 1 - 1).toNat]? = some (.ref z) := mid_get (by omega)
    have hst : (pre.length : Int) + 1 = 1 ∨ (2 ≤ (pre.length : Int) + 1 ∧ (ps ++ ([Value.ref z] ++ (mv ++ (Value.ref x :: .ref 175 :: qs))))[((pre.length : Int) + 1 - 1 - 1).toNat]? = some (.ref 175)) := by
      rcases hend ([Value.ref z] ++ (mv ++ (Value.ref x :: .ref 175 :: qs))) with h | ⟨h, h'⟩
      · exact .inl (by omega)
      · exact .inr ⟨by omega, by rw [show (pre.length : Int) + 1 - 1 - 1 = pre.length - 1 by omega]; exact h'⟩
    simp only [List.length_singleton] at hvl
    refine (group1_spec zX.1.2.1 zX.1.2.2.1 zX.1.2.2.2 zX.2.1.1 (Kh zX.1.2.2.1 zX.2.1.2.1) zX.2.1.2.2.1 x z _ zX.2.1.2.2.2 zX.2.2.1.2.2.1 (pre.length + 1) zX.2.2.1.2.2.2 W (Str.ofString "unmodified") c p its [.int tk q] _ _ (hop _ (by rw [lu]; omega)) (un_spec hI h1 hkl hkv hzo hzg g4 (by omega) (by omega) hOr hcur) hI hkl hxo hzo Kh.mono g1 g2 g4 hW (by decide +kernel) (by omega) (by omega) (by omega) (by omega) hst).conv (Nat.le_refl _) (Nat.le_refl _) (fun _ h => h) ?_ ?_
    · rintro h ⟨hc, K⟩ _
      exact ⟨hc, K, K _ _ hkl hkv, K _ _ hxo hxg, K _ _ hzo hzg, trivial⟩
    · rintro h v h' ⟨hc, K⟩ hld _ ⟨t', rfl, rl2, S2, R, A', AR, h6', f, S1, R1, R2, rfl, ⟨m, op', nf⟩, po2⟩
      refine ⟨t', by congr 1; omega, rl2, S2, R2 ++ R1, A', AR, h6', f, ?_⟩
      rcases po2 with ⟨hne, rfl, rfl, rfl⟩ | ⟨he, ho, m2, op2, us, kk, ys, nf2, rfl, told⟩
      · exact ⟨S2, m, op', R1, nf, .inl ⟨(by intro q; cases q; exact hne rfl), rfl, rfl, rfl⟩⟩
      · exact ⟨S1, m2, op2, R1, nf2, .inr ⟨by rw [he], ho, us, kk, ys, rfl, told⟩⟩
end grp_specN
theorem grp_spec {Or w A T S hb kl n post b i ti rows} : grp_specN.zP Or w A T S hb kl n post b i ti rows := pk_all (n := grp_specN.zne) (P := grp_specN.zQ) grp_specN.body ((Or, w, A, T), (S, hb, kl, n), (post, b, i, ti), rows)
theorem At.sub {h : Heap} {R' : List (Addr × Obj)} (H : At h R') : ∀ {R : List (Addr × Obj)}, (∀ p ∈ R, p ∈ R') → At h R
  | [], _ => trivial
  | p :: r, s => ⟨H.mem p (s p (.head _)), At.sub H fun q hq => s q (.tail _ hq)⟩
theorem RowsIn.sub {P : Params} {mk : Addr} {R R' : List (Addr × Obj)} {vs : List Value} {rs : List Row} (H : RowsIn P mk R vs rs) (s : ∀ p ∈ R, p ∈ R') : RowsIn P mk R' vs rs := fun h O A o => H h O (A.sub s) fun p hp => o p (s p hp)
theorem RowsIn.join {P : Params} {mk : Addr} {R : List (Addr × Obj)} {vs ws : List Value} {rs qs : List Row} (a : RowsIn P mk R vs rs) (b : RowsIn P mk R ws qs) : RowsIn P mk R (vs ++ ws) (rs ++ qs) := fun h O A o => (a h O A o).append (b h O A o)
theorem RowsIn.bd1 {P : Params} {mk : Addr} {R : List (Addr × Obj)} : RowsIn P mk R [.ref 175] [.bd] := fun _ _ _ _ => ⟨rfl, trivial⟩
def LastIn (R : List (Addr × Obj)) (rs : List Value) (q : Bool) : Prop := ∀ h, At h R → LastQ h rs q
def TxIn (R : List (Addr × Obj)) (tvs : List Value) (txs : List (List Value)) : Prop := ∀ (k : Nat) (t : List Value), txs[k]? = some t → ∃ d n, tvs[k]? = some (.ref d) ∧ (d, listOf t.toArray n) ∈ R
theorem TxIn.sub {R R' : List (Addr × Obj)} {tvs : List Value} {txs : List (List Value)} (H : TxIn R tvs txs) (s : ∀ p ∈ R, p ∈ R') : TxIn R' tvs txs := fun k t e => by
  obtain ⟨d, n, h1, h2⟩ := H k t e
  exact ⟨d, n, h1, s _ h2⟩
theorem TxIn.snoc {R : List (Addr × Obj)} {tvs : List Value} {txs : List (List Value)} {d : Addr} {n : Nat} {t : List Value} (H : TxIn R tvs txs) (hl : tvs.length = txs.length) (hm : (d, listOf t.toArray n) ∈ R) : TxIn R (tvs ++ [.ref d]) (txs ++ [t]) := fun k u e => by
  by_cases q : k < txs.length
  · rw [List.getElem?_append_left q] at e
    obtain ⟨d', n', h1, h2⟩ := H k u e
    exact ⟨d', n', by rw [List.getElem?_append_left (by omega)]; exact h1, h2⟩
  · rw [List.getElem?_append_right (by omega)] at e
    have hk : k - txs.length = 0 := by
      have := (List.getElem?_eq_some_iff.mp e).1
      simp at this; omega
    rw [hk] at e
    have : t = u := by simpa using e
    subst this
    exact ⟨d, n, by rw [List.getElem?_append_right (by omega), hl, hk]; rfl, hm⟩
noncomputable def Path (txs : List (List Value)) (step : Int) : Int → List Grp → Prop
  | _, [] => True
  | here, g :: r => g.j = here + step ∧ 0 ≤ g.j ∧ (∃ a b, txs[here.toNat]? = some a ∧ txs[g.j.toNat]? = some b ∧ OpOk g.mf g.op a b) ∧ Path txs step g.j r
theorem at_more {txs : List (List Value)} (t : List Value) {k : Nat} {x : List Value} (e : txs[k]? = some x) : (txs ++ [t])[k]? = some x := by
  rw [List.getElem?_append_left (List.getElem?_eq_some_iff.mp e).1]; exact e
theorem Path.more {txs : List (List Value)} {step : Int} (t : List Value) {gs : List Grp} : ∀ {here : Int}, Path txs step here gs → Path (txs ++ [t]) step here gs := by
  induction gs with
  | nil => exact fun _ => trivial
  | cons g r ih => exact fun h => ⟨h.1, h.2.1, h.2.2.1.imp fun a => Exists.imp fun b k => ⟨at_more t k.1, at_more t k.2.1, k.2.2⟩, ih h.2.2.2⟩
theorem Path.far {txs : List (List Value)} {step : Int} (hs : step = 1 ∨ step = -1) {gs : List Grp} : ∀ {here : Int}, Path txs step here gs → ∀ g ∈ gs, g.j ≠ here ∧ (step = 1 → here < g.j) ∧ (step = -1 → g.j < here) := by
  induction gs with
  | nil => exact fun _ _ hg => absurd hg List.not_mem_nil
  | cons g r ih =>
    intro here h g' hg
    have e := h.1
    rcases List.mem_cons.mp hg with rfl | hg
    · exact ⟨by omega, by omega, by omega⟩
    · have := ih h.2.2.2 g' hg
      rcases hs with rfl | rfl
      · exact ⟨by omega, fun _ => by omega, by omega⟩
      · exact ⟨by omega, by omega, fun _ => by omega⟩
theorem Path.ren {txs : List (List Value)} {step el fr : Int} {gs : List Grp} : ∀ {here : Int}, Path txs step here gs → Path txs step here (gs.map (renG el fr)) := by
  induction gs with
  | nil => exact fun _ => trivial
  | cons g r ih => exact fun h => ⟨h.1, h.2.1, h.2.2.1, ih h.2.2.2⟩
noncomputable def clo (gs : List Grp) (rs : List Value) : List Value := if gs.isEmpty then rs else rs ++ [.ref 175]
structure Fwd (w : World) (A : Nat → Addr) (S : St) (R : List (Addr × Obj)) (gs : List Grp) (txs : List (List Value)) (tvs : List Value) (saved : Int) (i : Nat) : Prop where
  V : VS w S S.kvs
  kv : S.kvs = [(1, .ref (A 11))]
  bv : S.bv = .ref (A 7)
  off : OffAll A R
  rows : RowsIn w.params (A 11) R (clo gs S.rs) (flat gs)
  last : LastIn R S.rs gs.isEmpty
  ops : OpsOk gs
  inv : InvU i saved S.ti S.sv (nvO S.nv) [] (gs.map gp)
  gl : gs.length = i
  js : ∀ g ∈ gs, 0 ≤ g.j ∧ g.j < i
  tl : txs.length = i + 1
  vl : tvs.length = txs.length
  txt : txs[i]? = some (tx S)
  path : Path txs (-1) i gs.reverse
  tin : TxIn R tvs txs
  aint : ∀ t ∈ txs, AllInts t
  cb : S.cells.length ≤ 100 + 1008 * i
  tb : (tx S).length ≤ 8 + 3 * i
  s0 : 0 ≤ saved
  s1 : saved ≤ i
  rl : S.rs.length ≤ 4 * i
theorem newF_last {w : World} {A : Nat → Addr} {R : List (Addr × Obj)} {vs : List Value} {rows : List Row} {g : Grp} {a b : List Value} (H : RowsIn w.params (A 11) R vs (rows ++ g.rows)) (ok : OpOk g.mf g.op a b) : LastIn R vs false := fun h AR => LastQ.of_op (H h (fun _ => True) AR fun _ _ => trivial) ok
namespace Fwd.cmdN
def zP (w : World) (A : Nat → Addr) (S S' : St) (R R' : List (Addr × Obj)) (gs : List Grp) (txs : List (List Value)) (tvs : List Value) (saved : Int) (i : Nat) (pt : Int) (up : Tok) (n2 : Nat) (b : List Value) (m : Bool) (op : Row) (d : Addr) (k : Nat) : Prop := ∀ (W : Fwd w A S R gs txs tvs saved i) (F : NewF w A (setQ S pt up (clo gs S.rs) n2) S' R' (tx S) b m op) (off' : OffAll A R') (offd : Off A d) (aint : AllInts b) (bl : b.length ≤ (tx S).length + 3), Fwd w A S' ((d, listOf b.toArray k) :: (R' ++ R)) (gs ++ [⟨(noteU S.ti S.sv (nvO S.nv)).1, m, op, i⟩]) (txs ++ [b]) (tvs ++ [.ref d]) saved (i + 1)
abbrev zT := (World × (Nat → Addr) × St × St) × ((List (Addr × Obj)) × (List (Addr × Obj)) × (List Grp) × (List (List Value))) × ((List Value) × Int × Nat × Int) × (Tok × Nat × (List Value) × Bool) × (Row × Addr × Nat)
def zQ (x : zT) : Prop := zP x.1.1 x.1.2.1 x.1.2.2.1 x.1.2.2.2 x.2.1.1 x.2.1.2.1 x.2.1.2.2.1 x.2.1.2.2.2 x.2.2.1.1 x.2.2.1.2.1 x.2.2.1.2.2.1 x.2.2.1.2.2.2 x.2.2.2.1.1 x.2.2.2.1.2.1 x.2.2.2.1.2.2.1 x.2.2.2.1.2.2.2 x.2.2.2.2.1 x.2.2.2.2.2.1 x.2.2.2.2.2.2
theorem zne : Nonempty zT := by k_extra "zne"
def zX : zT := pk zne zQ
def R := zX.2.1.1
def R' := zX.2.1.2.1
def k := zX.2.2.2.2.2.2
theorem body : zP zX.1.1 zX.1.2.1 zX.1.2.2.1 zX.1.2.2.2 R R' zX.2.1.2.2.1 zX.2.1.2.2.2 zX.2.2.1.1 zX.2.2.1.2.1 zX.2.2.1.2.2.1 zX.2.2.1.2.2.2 zX.2.2.2.1.1 zX.2.2.2.1.2.1 zX.2.2.2.1.2.2.1 zX.2.2.2.1.2.2.2 zX.2.2.2.2.1 zX.2.2.2.2.2.1 k := by
  intro W F off' offd aint bl
  have hkv : zX.1.2.2.2.kvs = zX.1.2.2.1.kvs := F.V.kv
  obtain ⟨vals, r, e⟩ := F.rows
  have e' : zX.1.2.2.2.rs = clo zX.2.1.2.2.1 zX.1.2.2.1.rs ++ vals := e
  have r' : RowsIn zX.1.1.params (zX.1.2.1 11) R' vals (Grp.mk (noteU zX.1.2.2.1.ti zX.1.2.2.1.sv (nvO zX.1.2.2.1.nv)).1 zX.2.2.2.1.2.2.2 zX.2.2.2.2.1 zX.2.2.1.2.2.1).rows := r
  have ee : (zX.2.1.2.2.1 ++ [Grp.mk (noteU zX.1.2.2.1.ti zX.1.2.2.1.sv (nvO zX.1.2.2.1.nv)).1 zX.2.2.2.1.2.2.2 zX.2.2.2.2.1 zX.2.2.1.2.2.1]).isEmpty = false := by cases zX.2.1.2.2.1 <;> rfl
  have s1 : ∀ p ∈ R, p ∈ (zX.2.2.2.2.2.1, listOf zX.2.2.2.1.2.2.1.toArray k) :: (R' ++ R) := fun p hp => .tail _ (List.mem_append_right _ hp)
  have s2 : ∀ p ∈ R', p ∈ (zX.2.2.2.2.2.1, listOf zX.2.2.2.1.2.2.1.toArray k) :: (R' ++ R) := fun p hp => .tail _ (List.mem_append_left _ hp)
  have op1 : RowsIn zX.1.1.params (zX.1.2.1 11) ((zX.2.2.2.2.2.1, listOf zX.2.2.2.1.2.2.1.toArray k) :: (R' ++ R)) zX.1.2.2.2.rs (flat zX.2.1.2.2.1 ++ (Grp.mk (noteU zX.1.2.2.1.ti zX.1.2.2.1.sv (nvO zX.1.2.2.1.nv)).1 zX.2.2.2.1.2.2.2 zX.2.2.2.2.1 zX.2.2.1.2.2.1).rows) := by
    rw [e']; exact (W.rows.sub s1).join (r'.sub s2)
  have lift : ∀ {k : Nat} {x : List Value}, zX.2.1.2.2.2[k]? = some x → (zX.2.1.2.2.2 ++ [zX.2.2.2.1.2.2.1])[k]? = some x := fun {k x} e => by
    rw [List.getElem?_append_left (List.getElem?_eq_some_iff.mp e).1]; exact e
  have lastt : (zX.2.1.2.2.2 ++ [zX.2.2.2.1.2.2.1])[zX.2.2.1.2.2.1 + 1]? = some zX.2.2.2.1.2.2.1 := by rw [← W.tl]; simp
  have rl := F.rl
  have rl' : (clo zX.2.1.2.2.1 zX.1.2.2.1.rs).length ≤ 4 * zX.2.2.1.2.2.1 + 1 := by
    have := W.rl
    unfold clo
    split
    · omega
    · rw [List.length_append, List.length_singleton]; omega
  have rl2 : zX.1.2.2.2.rs.length ≤ (clo zX.2.1.2.2.1 zX.1.2.2.1.rs).length + 3 := rl
  have cb : zX.1.2.2.2.cells.length ≤ zX.1.2.2.1.cells.length + 1008 := F.len
  have I := W.inv.command W.s1
  refine ⟨hkv ▸ F.V, hkv.trans W.kv, F.bv.trans W.bv, ?_, ?_, ?_, ?_, ?_, ?_, ?_, ?_, ?_, ?_, ?_, ?_, ?_, ?_, ?_, W.s0, ?_, ?_⟩
  · intro p hp
    rcases List.mem_cons.mp hp with rfl | hp
    · exact offd
    · exact (List.mem_append.mp hp).elim (off' p) (W.off p)
  · rw [clo, if_neg (by rw [ee]; exact Bool.false_ne_true), flat_snoc]
    exact op1.join RowsIn.bd1
  · rw [ee]; exact newF_last op1 F.ok
  · intro g hg
    rcases List.mem_append.mp hg with hg | hg
    · exact W.ops g hg
    · rw [List.mem_singleton.mp hg]; exact ⟨_, _, F.ok⟩
  · rw [List.map_append, F.ti, F.sv, F.nv]
    exact I
  · rw [List.length_append, W.gl]; rfl
  · intro g hg
    rcases List.mem_append.mp hg with hg | hg
    · have := W.js g hg; omega
    · rw [List.mem_singleton.mp hg]; show 0 ≤ (zX.2.2.1.2.2.1 : Int) ∧ (zX.2.2.1.2.2.1 : Int) < (zX.2.2.1.2.2.1 + 1 : Nat); omega
  · rw [List.length_append, W.tl]; rfl
  · rw [List.length_append, List.length_append, W.vl]; rfl
  · rw [lastt, F.tx]
  · rw [List.reverse_append]
    refine ⟨by show (zX.2.2.1.2.2.1 : Int) = ((zX.2.2.1.2.2.1 + 1 : Nat) : Int) + -1; omega, by show 0 ≤ (zX.2.2.1.2.2.1 : Int); omega, ⟨zX.2.2.2.1.2.2.1, tx zX.1.2.2.1, ?_, ?_, F.ok⟩, W.path.more zX.2.2.2.1.2.2.1⟩
    · rw [show ((zX.2.2.1.2.2.1 + 1 : Nat) : Int).toNat = zX.2.2.1.2.2.1 + 1 by omega]; exact lastt
    · show (zX.2.1.2.2.2 ++ [zX.2.2.2.1.2.2.1])[(zX.2.2.1.2.2.1 : Int).toNat]? = _
      rw [show (zX.2.2.1.2.2.1 : Int).toNat = zX.2.2.1.2.2.1 by omega]; exact lift W.txt
  · exact (W.tin.sub s1).snoc W.vl (.head _)
  · intro t ht
    rcases List.mem_append.mp ht with ht | ht
    · exact W.aint t ht
    · rw [List.mem_singleton.mp ht]; exact aint
  · exact Nat.le_trans cb (Nat.le_trans (Nat.add_le_add_right W.cb 1008) (Nat.le_of_eq (by rw [Nat.mul_add, Nat.mul_one, Nat.add_assoc])))
  · have := W.tb; rw [F.tx]; omega
  · have := W.s1; omega
  · omega
end Fwd.cmdN
theorem Fwd.cmd {w A S S' R R' gs txs tvs saved i pt up n2 b m op d k} : Fwd.cmdN.zP w A S S' R R' gs txs tvs saved i pt up n2 b m op d k := pk_all (n := Fwd.cmdN.zne) (P := Fwd.cmdN.zQ) Fwd.cmdN.body ((w, A, S, S'), (R, R', gs, txs), (tvs, saved, i, pt), (up, n2, b, m), (op, d, k))
theorem Fwd.save {w : World} {A : Nat → Addr} {S : St} {R : List (Addr × Obj)} {gs : List Grp} {txs : List (List Value)} {tvs : List Value} {saved : Int} {i : Nat} {us : Tok} (W : Fwd w A S R gs txs tvs saved i) (hm : S.sv < S.ti) : Fwd w A { S with sv := S.ti, us := us } R gs txs tvs i i :=
  ⟨⟨W.V.hnv, W.V.h3, W.V.h4, W.V.h5, W.V.hz, W.V.hkr, rfl⟩, W.kv, W.bv, W.off, W.rows, W.last, W.ops, W.inv.save hm (fun g hg => by
    obtain ⟨g0, hg0, rfl⟩ := List.mem_map.mp hg
    have := W.js g0 hg0
    show g0.j ≠ i
    omega), W.gl, W.js, W.tl, W.vl, W.txt, W.path, W.tin, W.aint, W.cb, W.tb, by omega, Int.le_refl _, W.rl⟩
noncomputable def set6 (A : Nat → Addr) (r : Addr) : Nat → Addr := fun i => if i = 6 then r else A i
theorem set6_ne {A : Nat → Addr} {r : Addr} {i : Nat} (h : i ≠ 6) : set6 A r i = A i := if_neg h
theorem set6_off {A : Nat → Addr} {r x : Addr} (h : Off A x) (hr : x ≠ r) : Off (set6 A r) x := fun i hi => by
  unfold set6
  split
  · exact hr
  · exact h i hi
theorem set6_inj {A : Nat → Addr} {r : Addr} (h : Inj A) (hr : Off A r) : Inj (set6 A r) := by
  intro i j hij hj
  unfold set6
  by_cases hi6 : i = 6
  · by_cases hj6 : j = 6
    · omega
    · rw [if_pos hi6, if_neg hj6]; exact hr j hj
  · by_cases hj6 : j = 6
    · rw [if_neg hi6, if_pos hj6]; exact (hr i (by omega)).symm
    · rw [if_neg hi6, if_neg hj6]; exact h i j hij hj
structure PW (w : World) (A : Nat → Addr) (S : St) (R : List (Addr × Obj)) (ks : List Value) (base app rem kpre junk : List Grp) (txs : List (List Value)) (tvs : List Value) (step here star : Int) : Prop where
  hI : Inj A
  lo : (A 4 == sysModules) = false
  V : VS w S []
  bv : S.bv = .none
  pos : S.pos = 0
  off : OffAll A R
  o175 : Off A 175
  rows : RowsIn w.params (A 11) R S.rs (flat (base ++ app))
  krows : RowsIn w.params (A 11) R ks (flat ((kpre ++ rem.reverse) ++ junk))
  ops : OpsOk (base ++ app)
  inv : InvU here star S.ti S.sv (nvO S.nv) (rem.map gp) (app.map gp)
  text : txs[here.toNat]? = some (tx S)
  p1 : Path txs step here rem
  p2 : Path txs (-step) here app.reverse
  hs : step = 1 ∨ step = -1
  cnt : (step = -1 → here = rem.length) ∧ (step = 1 → here + rem.length + 1 = txs.length)
  h0 : 0 ≤ here
  h1 : here < txs.length
  tot : app.length + rem.length + 1 = txs.length
  tl : txs.length ≤ 7
  vl : tvs.length = txs.length
  tin : TxIn R tvs txs
  aint : ∀ t ∈ txs, AllInts t
  cb : S.cells.length ≤ 100 + 1008 * (base.length + app.length)
  bl : 2 * base.length ≤ ks.length
  kb : ks.length ≤ 168
  kc : ((kpre ++ rem.reverse) ++ junk).length ≤ 100
  rl : S.rs.length ≤ 4 * (base.length + app.length)
  zb : S.zv ≤ 200000
theorem told_in {w : World} {A : Nat → Addr} {hb : Heap} {R R2 : List (Addr × Obj)} {vs : List Value} {rows : List Row} (AR : At hb R) (T : Told w A (fun x => ∃ p ∈ R, p.1 = x) hb R2 vs rows) : RowsIn w.params (A 11) (R ++ R2) vs rows := by
  intro h O' A2 ho
  refine T h O' ?_ A2.right fun p hp => ho p (List.mem_append_right _ hp)
  rintro x o ⟨p, hp, rfl⟩ hg
  have := AR.mem p hp
  rw [hg] at this; cases this
  exact ⟨A2.left.mem p hp, ho p (List.mem_append_left _ hp)⟩
theorem gp_map_ren {el fr : Int} {gs : List Grp} : (gs.map (renG el fr)).map gp = (gs.map gp).map (renU el fr) := by
  rw [List.map_map, List.map_map]; rfl
theorem flat_cut {kpre r junk : List Grp} {g : Grp} : flat ((kpre ++ (g :: r).reverse) ++ junk) = flat (kpre ++ r.reverse) ++ (g.rows ++ .bd :: flat junk) := by
  rw [List.reverse_cons, flat_append, ← List.append_assoc, flat_append, flat, flat]; simp
noncomputable abbrev S3 (S : St) (n : Nat) : St := { S with rs := S.rs ++ [.ref 175], n := n }
theorem PW.tlen {w : World} {A : Nat → Addr} {S : St} {R : List (Addr × Obj)} {ks : List Value} {base app rem kpre junk : List Grp} {txs : List (List Value)} {tvs : List Value} {step here star : Int} (W : PW w A S R ks base app rem kpre junk txs tvs step here star) : S.cells.length ≤ 200000 := by
  have h1 := W.cb
  have h2 := W.bl
  have h3 := W.tot
  have h4 := W.tl
  have h5 := W.kb
  omega
theorem cells_step {c1 c0 k n : Nat} (h1 : c1 ≤ c0 + k) (h2 : c0 ≤ 100 + k * n) : c1 ≤ 100 + k * (n + 1) := by
  rw [Nat.mul_succ]; omega
namespace PW.groupN
def zP (w : World) (A : Nat → Addr) (S S1 : St) (R R2 : List (Addr × Obj)) (ks : List Value) (base app r kpre junk : List Grp) (g : Grp) (txs : List (List Value)) (tvs : List Value) (step here star : Int) (b : List Value) (m : Bool) (op : Row) (n3 : Nat) : Prop := ∀ (W : PW w A S R ks base app (g :: r) kpre junk txs tvs step here star) (hb : txs[g.j.toNat]? = some b) (nf : NewF w A S S1 R2 (tx S) b m op) (off2 : OffAll A R2) (hu : g.u ≠ some S.sv), LastIn (R ++ R2) S1.rs false ∧ PW w A (S3 S1 n3) (R ++ R2) ks base (app ++ [⟨(noteU S.ti S.sv (nvO S.nv)).1, m, op, here⟩]) r kpre (g :: junk) txs tvs step (here + step) star
abbrev zT := (World × (Nat → Addr) × St × St × (List (Addr × Obj))) × ((List (Addr × Obj)) × (List Value) × (List Grp) × (List Grp) × (List Grp)) × ((List Grp) × (List Grp) × Grp × (List (List Value)) × (List Value)) × (Int × Int × Int × (List Value) × Bool) × (Row × Nat)
def zQ (x : zT) : Prop := zP x.1.1 x.1.2.1 x.1.2.2.1 x.1.2.2.2.1 x.1.2.2.2.2 x.2.1.1 x.2.1.2.1 x.2.1.2.2.1 x.2.1.2.2.2.1 x.2.1.2.2.2.2 x.2.2.1.1 x.2.2.1.2.1 x.2.2.1.2.2.1 x.2.2.1.2.2.2.1 x.2.2.1.2.2.2.2 x.2.2.2.1.1 x.2.2.2.1.2.1 x.2.2.2.1.2.2.1 x.2.2.2.1.2.2.2.1 x.2.2.2.1.2.2.2.2 x.2.2.2.2.1 x.2.2.2.2.2
theorem zne : Nonempty zT := by k_extra "zne"
def zX : zT := pk zne zQ
def R := zX.1.2.2.2.2
theorem body : zP zX.1.1 zX.1.2.1 zX.1.2.2.1 zX.1.2.2.2.1 R zX.2.1.1 zX.2.1.2.1 zX.2.1.2.2.1 zX.2.1.2.2.2.1 zX.2.1.2.2.2.2 zX.2.2.1.1 zX.2.2.1.2.1 zX.2.2.1.2.2.1 zX.2.2.1.2.2.2.1 zX.2.2.1.2.2.2.2 zX.2.2.2.1.1 zX.2.2.2.1.2.1 zX.2.2.2.1.2.2.1 zX.2.2.2.1.2.2.2.1 zX.2.2.2.1.2.2.2.2 zX.2.2.2.2.1 zX.2.2.2.2.2 := by
  intro W hb nf off2 hu
  obtain ⟨vals, rr, e⟩ := nf.rows
  obtain ⟨hj, hj0, ⟨a', b', ha', hb', ok'⟩, p1⟩ := W.p1
  rw [hb] at hb'; cases hb'
  have sL : ∀ p ∈ R, p ∈ R ++ zX.2.1.1 := fun p hp => List.mem_append_left _ hp
  have open1 : RowsIn zX.1.1.params (zX.1.2.1 11) (R ++ zX.2.1.1) zX.1.2.2.2.1.rs (flat (zX.2.1.2.2.1 ++ zX.2.1.2.2.2.1) ++ (Grp.mk (noteU zX.1.2.2.1.ti zX.1.2.2.1.sv (nvO zX.1.2.2.1.nv)).1 zX.2.2.2.1.2.2.2.2 zX.2.2.2.2.1 zX.2.2.2.1.2.1).rows) := by
    rw [e]; exact (W.rows.sub sL).join (RowsIn.sub (R := zX.2.1.1) rr fun p hp => List.mem_append_right _ hp)
  have hjl : zX.2.2.1.2.2.1.j.toNat < zX.2.2.1.2.2.2.1.length := (List.getElem?_eq_some_iff.mp hb).1
  have I := W.inv.miss (u := zX.2.2.1.2.2.1.u) (j := zX.2.2.1.2.2.1.j) hu
  have V1 : VS zX.1.1 zX.1.2.2.2.1 [] := by have := nf.V; rw [W.V.kv] at this; exact this
  have cnt := W.cnt
  have tot := W.tot
  simp only [List.length_cons] at cnt tot
  have hjn : zX.2.2.2.1.2.1 + zX.2.2.2.1.1 = zX.2.2.1.2.2.1.j := hj.symm
  have e1 : (zX.2.2.1.1 ++ zX.2.1.2.2.2.2.reverse) ++ zX.2.2.1.2.2.1 :: zX.2.2.1.2.1 = (zX.2.2.1.1 ++ (zX.2.2.1.2.2.1 :: zX.2.1.2.2.2.2).reverse) ++ zX.2.2.1.2.1 := by simp
  have rl := nf.rl
  have cb := nf.len
  refine ⟨newF_last open1 nf.ok, ⟨W.hI, W.lo, ⟨V1.hnv, V1.h3, V1.h4, V1.h5, V1.hz, V1.hkr, V1.kv⟩, nf.bv.trans W.bv, (nf.pos W.V.kv).trans W.pos, fun p hp => (List.mem_append.mp hp).elim (W.off p) (off2 p), W.o175, ?_, ?_, ?_, ?_, ?_, ?_, ?_, W.hs, ?_, ?_, ?_, ?_, W.tl, W.vl, W.tin.sub sL, W.aint, ?_, W.bl, ?_, ?_, ?_, ?_⟩⟩
  · rw [← List.append_assoc, flat_snoc]
    exact open1.join RowsIn.bd1
  · rw [e1]; exact W.krows.sub sL
  · intro g' hg
    rw [← List.append_assoc] at hg
    rcases List.mem_append.mp hg with hg | hg
    · exact W.ops g' hg
    · rw [List.mem_singleton.mp hg]; exact ⟨_, _, nf.ok⟩
  · show InvU (zX.2.2.2.1.2.1 + zX.2.2.2.1.1) zX.2.2.2.1.2.2.1 zX.1.2.2.2.1.ti zX.1.2.2.2.1.sv (nvO zX.1.2.2.2.1.nv) (zX.2.1.2.2.2.2.map gp) ((zX.2.1.2.2.2.1 ++ [_]).map gp)
    rw [List.map_append, nf.ti, nf.sv, nf.nv, hjn]
    exact I
  · show zX.2.2.1.2.2.2.1[(zX.2.2.2.1.2.1 + zX.2.2.2.1.1).toNat]? = some (tx zX.1.2.2.2.1)
    rw [hjn, hb, nf.tx]
  · rw [hjn]; exact p1
  · rw [List.reverse_append]
    refine ⟨by show zX.2.2.2.1.2.1 = zX.2.2.2.1.2.1 + zX.2.2.2.1.1 + -zX.2.2.2.1.1; omega, W.h0, ⟨zX.2.2.2.1.2.2.2.1, tx zX.1.2.2.1, by rw [hjn]; exact hb, W.text, nf.ok⟩, ?_⟩
    exact W.p2
  · exact ⟨fun q => by have := cnt.1 q; omega, fun q => by have := cnt.2 q; omega⟩
  · omega
  · omega
  · rw [List.length_append, List.length_singleton]; omega
  · have h2 := W.cb
    show zX.1.2.2.2.1.cells.length ≤ 100 + 1008 * (zX.2.1.2.2.1.length + (zX.2.1.2.2.2.1 ++ [_]).length)
    rw [List.length_append, List.length_singleton]
    exact cells_step cb h2
  · exact W.kb
  · rw [e1]; exact W.kc
  · have h2 := W.rl
    show (zX.1.2.2.2.1.rs ++ [_]).length ≤ _
    rw [List.length_append, List.length_append, List.length_singleton, List.length_singleton]
    omega
  · show zX.1.2.2.2.1.zv ≤ 200000
    have h2 := W.cb
    have h3 := W.bl
    have h4 := W.tl
    have h5 := V1.hz
    have h6 := V1.h4
    have h7 := W.kb
    omega
end PW.groupN
theorem PW.group {w A S S1 R R2 ks base app r kpre junk g txs tvs step here star b m op n3} : PW.groupN.zP w A S S1 R R2 ks base app r kpre junk g txs tvs step here star b m op n3 := pk_all (n := PW.groupN.zne) (P := PW.groupN.zQ) PW.groupN.body ((w, A, S, S1, R), (R2, ks, base, app, r), (kpre, junk, g, txs, tvs), (step, here, star, b, m), (op, n3))
theorem Path.end_far {txs : List (List Value)} {step : Int} {g : Grp} {r : List Grp} (hs : step = 1 ∨ step = -1) (p : Path txs step g.j r) : ∀ g' ∈ r.map gp, g'.2 ≠ g.j := by
  intro g' hg
  obtain ⟨g0, hg0, rfl⟩ := List.mem_map.mp hg
  exact (Path.far hs p g0 hg0).1
theorem PW.hit {w : World} {A : Nat → Addr} {S S1 : St} {R R2 : List (Addr × Obj)} {ks ys : List Value} {base app r kpre junk : List Grp} {g : Grp} {txs : List (List Value)} {tvs : List Value} {step here star : Int} {b : List Value} {m : Bool} {op : Row} {n3 k : Nat} {us : Tok} {rl2 : Addr} {R1 : List (Addr × Obj)} {hb : Heap}
    (W : PW w A S R ks base app (g :: r) kpre junk txs tvs step here star) (hbt : txs[g.j.toNat]? = some b) (nf : NewF w A S S1 R1 (tx S) b m op) (off2 : OffAll A R2) (hu : g.u = some S.sv) (hr : Off A rl2) (hr2 : ∀ p ∈ R ++ R2, p.1 ≠ rl2) (h175 : (175 : Addr) ≠ rl2) (AR : At hb R) (told : Told w A (fun x => ∃ p ∈ R, p.1 = x) hb R2 ys ((flat (base ++ app) ++ newRows S m op).map (ren S.sv S1.ti))) (hyl : ys.length ≤ S.rs.length + 3) :
    LastIn (R ++ R2) ys false ∧ PW w (set6 A rl2) (S3 { S1 with sv := S1.ti, us := us, rs := ys, n := k } n3) (R ++ R2) ks (base.map (renG S.sv S1.ti)) ((app ++ [Grp.mk (noteU S.ti S.sv (nvO S.nv)).1 m op here]).map (renG S.sv S1.ti)) r kpre (g :: junk) txs tvs step (here + step) star := by
  obtain ⟨hj, hj0, ⟨a', b', ha', hb', ok'⟩, p1⟩ := W.p1
  rw [hbt] at hb'; cases hb'
  have sL : ∀ p ∈ R, p ∈ R ++ R2 := fun p hp => List.mem_append_left _ hp
  have er : (flat (base ++ app) ++ newRows S m op).map (ren S.sv S1.ti) = flat ((base ++ app).map (renG S.sv S1.ti)) ++ (renG S.sv S1.ti (Grp.mk (noteU S.ti S.sv (nvO S.nv)).1 m op here)).rows := by
    rw [List.map_append, ren_flat W.ops]
    congr 1
    exact ren_rows (g := ⟨(noteU S.ti S.sv (nvO S.nv)).1, m, op, here⟩) nf.ok _ _
  have open1 := told_in AR told
  rw [er] at open1
  have hjl : g.j.toNat < txs.length := (List.getElem?_eq_some_iff.mp hbt).1
  have hne : here ≠ g.j := by rcases W.hs with q | q <;> omega
  have I := W.inv.hit (u := g.u) (j := g.j) hu (Path.end_far W.hs p1) hne
  have V1 : VS w S1 [] := by have := nf.V; rw [W.V.kv] at this; exact this
  have cnt := W.cnt
  have tot := W.tot
  simp only [List.length_cons] at cnt tot
  have hjn : here + step = g.j := hj.symm
  have e1 : (kpre ++ r.reverse) ++ g :: junk = (kpre ++ (g :: r).reverse) ++ junk := by simp
  have cb := nf.len
  have ea : ∀ {gs : List Grp}, (gs.map (renG S.sv S1.ti)).length = gs.length := List.length_map _
  refine ⟨newF_last (g := renG S.sv S1.ti ⟨(noteU S.ti S.sv (nvO S.nv)).1, m, op, here⟩) open1 nf.ok, ⟨set6_inj W.hI hr, W.lo, ⟨V1.hnv, V1.h3, V1.h4, V1.h5, V1.hz, V1.hkr, V1.kv⟩, nf.bv.trans W.bv, (nf.pos W.V.kv).trans W.pos, fun p hp => set6_off (fun i hi => (List.mem_append.mp hp).elim (fun h => W.off p h i hi) (fun h => off2 p h i hi)) (hr2 p hp), set6_off W.o175 h175, ?_, ?_, ?_, ?_, ?_, ?_, ?_, W.hs, ?_, ?_, ?_, ?_, W.tl, W.vl, W.tin.sub sL, W.aint, ?_, ?_, ?_, ?_, ?_, ?_⟩⟩
  · show RowsIn w.params (A 11) (R ++ R2) (ys ++ [.ref 175]) _
    rw [← List.map_append, ← List.append_assoc, List.map_append, List.map_singleton, flat_snoc]
    exact open1.join RowsIn.bd1
  · rw [e1]; exact W.krows.sub sL
  · intro g' hg
    rw [← List.map_append] at hg
    obtain ⟨g0, hg0, rfl⟩ := List.mem_map.mp hg
    rw [← List.append_assoc] at hg0
    rcases List.mem_append.mp hg0 with hg0 | hg0
    · exact W.ops g0 hg0
    · rw [List.mem_singleton.mp hg0]; exact ⟨_, _, nf.ok⟩
  · show InvU (here + step) star S1.ti S1.ti (nvO S1.nv) (r.map gp) (((app ++ [_]).map (renG S.sv S1.ti)).map gp)
    rw [gp_map_ren, List.map_append, nf.ti, nf.nv, hjn]
    exact I
  · show txs[(here + step).toNat]? = some (tx S1)
    rw [hjn, hbt, nf.tx]
  · rw [hjn]; exact p1
  · rw [← List.map_reverse]
    refine Path.ren ?_
    rw [List.reverse_append]
    refine ⟨by show here = here + step + -step; omega, W.h0, ⟨b, tx S, by rw [hjn]; exact hbt, W.text, nf.ok⟩, ?_⟩
    exact W.p2
  · exact ⟨fun q => by have := cnt.1 q; omega, fun q => by have := cnt.2 q; omega⟩
  · omega
  · omega
  · rw [ea, List.length_append, List.length_singleton]; omega
  · have h2 := W.cb
    show S1.cells.length ≤ 100 + 1008 * ((base.map _).length + ((app ++ [_]).map _).length)
    rw [ea, ea, List.length_append, List.length_singleton]
    exact cells_step cb h2
  · rw [ea]; exact W.bl
  · exact W.kb
  · rw [e1]; exact W.kc
  · have h2 := W.rl
    show (ys ++ [_]).length ≤ _
    rw [ea, ea, List.length_append, List.length_append, List.length_singleton, List.length_singleton]
    omega
  · show S1.zv ≤ 200000
    have h2 := W.cb
    have h3 := W.bl
    have h4 := W.tl
    have h5 := V1.hz
    have h6 := V1.h4
    have h7 := W.kb
    omega
theorem flat_len2 : ∀ {gs : List Grp}, 2 * gs.length ≤ (flat gs).length
  | [] => Nat.le_refl _
  | g :: r => by
    have := flat_len2 (gs := r)
    have := g.len
    rw [flat, List.length_append, List.length_cons, List.length_cons]; omega
noncomputable def clb (q : Bool) (rs : List Value) : List Value := if q then rs else rs ++ [.ref 175]
structure Bt (w : World) (A : Nat → Addr) (S : St) (R : List (Addr × Obj)) (q : Bool) (bs app : List Grp) (txs : List (List Value)) (tvs : List Value) (step here star : Int) (B : Nat) : Prop where
  hI : Inj A
  lo : (A 4 == sysModules) = false
  V : VS w S []
  bv : S.bv = .none
  pos : S.pos = 0
  off : OffAll A R
  o175 : Off A 175
  rows : RowsIn w.params (A 11) R (clb q S.rs) (flat (bs ++ app))
  last : LastIn R S.rs q
  ops : OpsOk (bs ++ app)
  inv : InvU here star S.ti S.sv (nvO S.nv) [] (app.map gp)
  text : txs[here.toNat]? = some (tx S)
  p : Path txs step here app.reverse
  hs : step = 1 ∨ step = -1
  cnt : (step = -1 → here = app.length) ∧ (step = 1 → here + app.length + 1 = txs.length)
  h0 : 0 ≤ here
  h1 : here < txs.length
  tot : app.length + 1 = txs.length
  tl : txs.length ≤ 7
  vl : tvs.length = txs.length
  tin : TxIn R tvs txs
  aint : ∀ t ∈ txs, AllInts t
  cb : S.cells.length ≤ 100 + 1008 * (bs.length + app.length)
  bl : bs.length + app.length ≤ B
  rl : S.rs.length ≤ 4 * (bs.length + app.length)
theorem Bt.start {w : World} {A : Nat → Addr} {S : St} {R : List (Addr × Obj)} {q : Bool} {bs app : List Grp} {txs : List (List Value)} {tvs : List Value} {step here star : Int} {B n : Nat} {h : Heap} (W : Bt w A S R q bs app txs tvs step here star B) (hB : B ≤ 42) (AR : At h R) :
    PW w A { S with rs := clb q S.rs, n := n } R (clb q S.rs) (bs ++ app) [] app.reverse bs [] txs tvs step here star ∧ (clb q S.rs).length ≤ 4 * B := by
  have e0 : (bs ++ app.reverse.reverse) ++ [] = bs ++ app := by rw [List.reverse_reverse, List.append_nil]
  have e1 : (bs ++ app) ++ ([] : List Grp) = bs ++ app := List.append_nil _
  have hl := (W.rows h (fun _ => True) AR fun _ _ => trivial).length
  have f1 := flat_len (gs := bs ++ app)
  have f2 := flat_len2 (gs := bs ++ app)
  have bl := W.bl
  rw [List.length_append] at f1 f2
  have zb : S.zv ≤ 200000 := by
    have h2 := W.cb
    have h5 := W.V.hz
    have h6 := W.V.h4
    omega
  refine ⟨⟨W.hI, W.lo, ⟨W.V.hnv, W.V.h3, W.V.h4, W.V.h5, W.V.hz, W.V.hkr, W.V.kv⟩, W.bv, W.pos, W.off, W.o175, by rw [e1]; exact W.rows, by rw [e0]; exact W.rows, by rw [e1]; exact W.ops, ?_, W.text, W.p, trivial, W.hs, ?_, W.h0, W.h1, ?_, W.tl, W.vl, W.tin, W.aint, ?_, ?_, ?_, ?_, ?_, zb⟩, ?_⟩
  · rw [List.map_reverse]; exact W.inv.turn
  · rw [List.length_reverse]; exact W.cnt
  · rw [List.length_reverse]; have := W.tot; simp; omega
  · rw [List.length_append]; exact W.cb
  · rw [List.length_append]; omega
  · show (clb q S.rs).length ≤ 168
    omega
  · rw [e0, List.length_append]; omega
  · show (clb q S.rs).length ≤ 4 * ((bs ++ app).length + 0)
    rw [List.length_append]; omega
  · omega
theorem PW.finish {w : World} {A : Nat → Addr} {S : St} {R : List (Addr × Obj)} {ks : List Value} {base app kpre junk : List Grp} {txs : List (List Value)} {tvs : List Value} {step here star : Int} {B : Nat} {h : Heap} (W : PW w A S R ks base app [] kpre junk txs tvs step here star) (hk : ks.length ≤ 4 * B) (AR : At h R) : Bt w A S R true base app txs tvs (-step) here star (2 * B + 6) := by
  have cnt := W.cnt
  have tot := W.tot
  simp only [List.length_nil] at cnt tot
  have bl := W.bl
  have tl := W.tl
  have hl : LastIn R S.rs true := fun h AR => by
    rcases RowsAt.ended (W.rows h (fun _ => True) AR fun _ _ => trivial) with e | ⟨r0, e⟩
    · exact .inl ⟨e, rfl⟩
    · exact .inr (.inl ⟨r0, e, rfl⟩)
  refine ⟨W.hI, W.lo, W.V, W.bv, W.pos, W.off, W.o175, W.rows, hl, W.ops, W.inv, W.text, W.p2, ?_, ?_, W.h0, W.h1, by omega, W.tl, W.vl, W.tin, W.aint, W.cb, by omega, W.rl⟩
  · rcases W.hs with rfl | rfl
    · exact .inr rfl
    · exact .inl rfl
  · exact ⟨fun q => by have := cnt.2 (by omega); omega, fun q => by have := cnt.1 (by omega); omega⟩
theorem Fwd.finish {w : World} {A : Nat → Addr} {S S' : St} {R : List (Addr × Obj)} {gs : List Grp} {txs : List (List Value)} {tvs : List Value} {saved : Int} {n : Nat} (W : Fwd w A S R gs txs tvs saved n) (hI : Inj A) (lo : (A 4 == sysModules) = false) (o175 : Off A 175) (hn : 2 ≤ n) (hn6 : n ≤ 6)
    (V' : VS w S' []) (e1 : tx S' = tx S) (e2 : S'.ti = S.ti) (e3 : S'.sv = S.sv) (e4 : S'.nv = S.nv) (e5 : S'.rs = S.rs) (e6 : S'.cells = S.cells) (hbv : S'.bv = .none) (hpos : S'.pos = 0) : Bt w A S' R false [] gs txs tvs (-1) n saved 6 := by
  have gl := W.gl
  have tl := W.tl
  have ne : gs.isEmpty = false := by
    cases gs with
    | nil => simp at gl; omega
    | cons _ _ => rfl
  have hc : clb false S'.rs = clo gs S.rs := by rw [clb, clo, ne, e5]
  refine ⟨hI, lo, V', hbv, hpos, W.off, o175, by rw [hc]; exact W.rows, by rw [e5]; have := W.last; rw [ne] at this; exact this, W.ops, by rw [e2, e3, e4]; exact W.inv, ?_, W.path, .inr rfl, ?_, by omega, by omega, by omega, by omega, W.vl, W.tin, W.aint, ?_, ?_, ?_⟩
  · rw [e1, show (n : Int).toNat = n by omega]; exact W.txt
  · exact ⟨fun _ => by omega, fun q => by omega⟩
  · rw [e6]; have := W.cb; simp; omega
  · simp; omega
  · rw [e5]; have := W.rl; simp; omega
def Stop (P : Prop) : Prop := P
theorem Stop.out {P : Prop} (h : Stop P) : P := h
noncomputable def Pairs : List Addr → Prop
  | [] => True
  | a :: r => (∀ b ∈ r, a ≠ b) ∧ Pairs r
theorem Pairs.get {l : List Addr} : ∀ {i j : Nat} {x y : Addr}, Pairs l → l[i]? = some x → l[j]? = some y → i < j → x ≠ y := by
  induction l with
  | nil => exact fun _ h => nomatch h
  | cons a r ih =>
    intro i j x y H h1 h2 h
    cases j with
    | zero => exact absurd h (Nat.not_lt_zero _)
    | succ j =>
      cases i with
      | zero => exact Option.some.inj h1 ▸ H.1 y (List.mem_of_getElem? h2)
      | succ i => exact ih H.2 h1 h2 (Nat.lt_of_succ_lt_succ h)
theorem NeAll.cons {d x : Addr} {o : Obj} {l : List (Addr × Obj)} (h : x ≠ d) (k : NeAll d l) : NeAll d ((x, o) :: l) := fun p hp => by
  rcases List.mem_cons.mp hp with rfl | hp
  · exact h
  · exact k p hp
theorem kind_dict {K : Type} [DecidableEq K] {prog : Program} {w : World} {knd : KeyKind prog w K} {o : Obj} {kvs : List (K × Value)} (h : o.IsDictOf knd kvs) : kindO o = 2 := by
  obtain ⟨cls, d, data, sl⟩ := o
  unfold Obj.IsDictOf at h
  obtain ⟨h1, es, ep, h2, h3⟩ := h
  simp only at h2
  subst h2
  rfl
section
variable {w : World} {p : Program} {loose : List Str} {mean : ExcName → Option Value} {mg mb : Str → Option Value} {dp un : Nat} {gd' : Option (List Code)} {cn : Str} {cs : Scope} {a₀ : Addr} {ccd : Value} {cl₀ : List (Str × Addr)} {outer : List Env} {A₀ : Around} {base h₀ : Heap} {L : Addr} {m : Str → Option Value} {s : Shared} {Q E : Value → Shared → Prop} {news : List (Addr × Obj)}
theorem deck_use {sa : Addr} {vs : List Value} {ns : List Int} (B : Below A₀ base outer h₀) (F : Fr h₀ L s.heap m) (X : (KK w.params).In h₀) (N : News h₀ L s.heap news) (T' : Top p loose mean mg mb h₀) (hk : cs.kind = .function)
    (hi : IntsAre vs ns) (hl : vs.length ≤ 63) (hS : h₀.IsList sa vs.toArray) (hd : dp + 40 < recursionLimit) (hu : un + 400 < cLine)
    (ret : ∀ dk d0 d1 xs ys tc n0 n1 n2 h' tk', Fr h₀ L h' m → News h₀ L h' ((dk, listOf [Value.ref d0, .ref d1, .int 0 tc].toArray n0) :: (d0, listOf (xs : List Value).toArray n1) :: (d1, listOf (ys : List Value).toArray n2) :: news) → NeAll dk ((d0, listOf (xs : List Value).toArray n1) :: (d1, listOf (ys : List Value).toArray n2) :: news) → NeAll d0 ((d1, listOf (ys : List Value).toArray n2) :: news) → NeAll d1 news → dk ≠ d0 → d1 ≠ dk → d1 ≠ d0 → AllNN xs → xs.length ≤ 63 → AllInts ys → 1 ≤ ys.length → ys.length ≤ 64 → Q (.ref dk) { s with heap := h', toks := tk' }) :
    wpAny (model pw w) (ktrTop dp un gd' cn cs L a₀ ccd cl₀ outer) (call (.ref 726) [.ref sa]) Q E s := by
  refine spec_use2 (deck_spec w sa vs ns hi hl) B F X N T' hk (hS.at fun o e => F.keep _ o e) trivial hd hu ?_
  intro v h' tk' F' nb fr kp po
  obtain ⟨dk, d0, d1, xs, ys, tc, n0, n1, n2, rfl, A', e1, f1, f2, f3, c1, c2, c3, x1, x2, x3, x4, x5⟩ := po
  have N' := nb [] _ At.nil Repl.all0
  exact ret dk d0 d1 xs ys tc n0 n1 n2 h' tk' F' (News.cons' A'.1 (fr _ _ f1 A'.1).2.1 (News.cons' A'.2.1 (fr _ _ f2 A'.2.1).2.1 (News.cons' e1 (fr _ _ f3 e1).2.1 N'))) (NeAll.cons c1.symm (NeAll.cons c2 (fr _ _ f1 A'.1).2.2)) (NeAll.cons c3 (fr _ _ f2 A'.2.1).2.2) (fr _ _ f3 e1).2.2 c1 c2 c3 x1 x2 x3 x4 x5
theorem mkbuf_use {t1 t2 : Tok} (B : Below A₀ base outer h₀) (F : Fr h₀ L s.heap m) (X : (KK w.params).In h₀) (N : News h₀ L s.heap news) (T' : Top p loose mean mg mb h₀) (hk : cs.kind = .function)
    (hm : makesIn (KK w.params) 651 = true) (hi : findIn (KK w.params) (.ref 651) "__init__" = some (some (.ref 564))) (hf : isFn (KK w.params) (.ref 564) = true) (hd : dp + 61 < recursionLimit) (hu : un + 601 < cLine)
    (ret : ∀ x dx g gd c k kd kr li tb ub tg tk u8 gu gv up uz ut uc us cells nc okr h' tk', Fr h₀ L h' m →
      News h₀ L h' ((x, instObj 651 dx) :: (dx, dictOf (bufEs w.params tb ub g k li .none 1 1 1 1 1 up uz ut uc us) 20) :: (g, instObj 400 gd) :: (gd, dictOf (gapEs w.params tg (.int 8 u8) (.ref c) 0 8 gu gv) 4) :: (c, listOf (cells : List Value).toArray nc) :: (k, instObj 545 kd) :: (kd, dictOf (ksEs w.params tk kr) 1) :: (kr, okr) :: (li, listOf #[] 0) :: news) →
      NeAll x ((dx, dictOf (bufEs w.params tb ub g k li .none 1 1 1 1 1 up uz ut uc us) 20) :: (g, instObj 400 gd) :: (gd, dictOf (gapEs w.params tg (.int 8 u8) (.ref c) 0 8 gu gv) 4) :: (c, listOf (cells : List Value).toArray nc) :: (k, instObj 545 kd) :: (kd, dictOf (ksEs w.params tk kr) 1) :: (kr, okr) :: (li, listOf #[] 0) :: news) →
      NeAll dx ((g, instObj 400 gd) :: (gd, dictOf (gapEs w.params tg (.int 8 u8) (.ref c) 0 8 gu gv) 4) :: (c, listOf (cells : List Value).toArray nc) :: (k, instObj 545 kd) :: (kd, dictOf (ksEs w.params tk kr) 1) :: (kr, okr) :: (li, listOf #[] 0) :: news) →
      NeAll g ((gd, dictOf (gapEs w.params tg (.int 8 u8) (.ref c) 0 8 gu gv) 4) :: (c, listOf (cells : List Value).toArray nc) :: (k, instObj 545 kd) :: (kd, dictOf (ksEs w.params tk kr) 1) :: (kr, okr) :: (li, listOf #[] 0) :: news) →
      NeAll gd ((c, listOf (cells : List Value).toArray nc) :: (k, instObj 545 kd) :: (kd, dictOf (ksEs w.params tk kr) 1) :: (kr, okr) :: (li, listOf #[] 0) :: news) →
      NeAll c ((k, instObj 545 kd) :: (kd, dictOf (ksEs w.params tk kr) 1) :: (kr, okr) :: (li, listOf #[] 0) :: news) →
      NeAll k ((kd, dictOf (ksEs w.params tk kr) 1) :: (kr, okr) :: (li, listOf #[] 0) :: news) → NeAll kd ((kr, okr) :: (li, listOf #[] 0) :: news) → NeAll kr ((li, listOf #[] 0) :: news) → NeAll li news →
      cells.length = 8 → okr.IsDictOf (intKind pw w) [] → (kr == sysModules) = false → Q (.ref x) { s with heap := h', toks := tk' }) :
    wpAny (model pw w) (ktrTop dp un gd' cn cs L a₀ ccd cl₀ outer) (call (.ref 651) [.int 1 t1, .str (Str.ofString "a") t2]) Q E s := by
  refine make_use (pre := fun _ _ _ => True) (post := fun x dx h v h' => BufNew w dx h h') (fun x dx => bufinit_spec w x dx t1 t2) B F X N T' hk hm hi hf hd hu ?_
  intro x dx h1 h' tk' F' N' n1 n2 n3 fr sd sx po
  obtain ⟨tb, ub, tg, g, gd, c, k, kd, kr, li, tk, u8, gu, gv, up, uz, ut, uc, us, cells, nc, okr, A', e1, e2, e3, f, q1, q2, q3, q4, q5⟩ := po
  obtain ⟨a0, a1, a2, a3, a4, a5, a6, a7, _⟩ := A'
  have fg := fr g _ a1 (f g (.head _))
  have fgd := fr gd _ a2 (f gd (.tail _ (.head _)))
  have fc := fr c _ a3 (f c (.tail _ (.tail _ (.head _))))
  have fk := fr k _ a4 (f k (.tail _ (.tail _ (.tail _ (.head _)))))
  have fkd := fr kd _ a5 (f kd (.tail _ (.tail _ (.tail _ (.tail _ (.head _))))))
  have fkr := fr kr _ a6 (f kr (.tail _ (.tail _ (.tail _ (.tail _ (.tail _ (.head _)))))))
  have fli := fr li _ a7 (f li (.tail _ (.tail _ (.tail _ (.tail _ (.tail _ (.tail _ (.head _))))))))
  have hx := (N' _ (.head _)).1
  have ko := kind_dict e2
  refine ret x dx g gd c k kd kr li tb ub tg tk u8 gu gv up uz ut uc us cells nc okr h' tk' F' ?_ ?_ ?_ ?_ ?_ ?_ ?_ ?_ ?_ ?_ e1 e2 e3
  · exact News.cons' hx sx (News.cons' a0 sd (News.cons' a1 ⟨fg.2.2.1, fg.2.2.2.1⟩ (News.cons' a2 ⟨fgd.2.2.1, fgd.2.2.2.1⟩ (News.cons' a3 ⟨fc.2.2.1, fc.2.2.2.1⟩ (News.cons' a4 ⟨fk.2.2.1, fk.2.2.2.1⟩ (News.cons' a5 ⟨fkd.2.2.1, fkd.2.2.2.1⟩ (News.cons' a6 ⟨fkr.2.2.1, fkr.2.2.2.1⟩ (News.cons' a7 ⟨fli.2.2.1, fli.2.2.2.1⟩ fun q hq => N' q (.tail _ hq)))))))))
  · exact NeAll.cons n3 (NeAll.cons fg.1 (NeAll.cons fgd.1 (NeAll.cons fc.1 (NeAll.cons fk.1 (NeAll.cons fkd.1 (NeAll.cons fkr.1 (NeAll.cons fli.1 n2)))))))
  · exact NeAll.cons fg.2.1 (NeAll.cons fgd.2.1 (NeAll.cons fc.2.1 (NeAll.cons fk.2.1 (NeAll.cons fkd.2.1 (NeAll.cons fkr.2.1 (NeAll.cons fli.2.1 n1))))))
  · exact NeAll.cons (ne_of_kind a2 a1 rfl) (NeAll.cons (ne_of_kind a3 a1 rfl) (NeAll.cons q5.symm (NeAll.cons (ne_of_kind a5 a1 rfl) (NeAll.cons (ne_of_kind a6 a1 (by rw [ko]; rfl)) (NeAll.cons (ne_of_kind a7 a1 rfl) fg.2.2.2.2)))))
  · exact NeAll.cons (ne_of_kind a3 a2 rfl) (NeAll.cons (ne_of_kind a4 a2 rfl) (NeAll.cons q1.symm (NeAll.cons q2.symm (NeAll.cons (ne_of_kind a7 a2 rfl) fgd.2.2.2.2))))
  · exact NeAll.cons (ne_of_kind a4 a3 rfl) (NeAll.cons (ne_of_kind a5 a3 rfl) (NeAll.cons (ne_of_kind a6 a3 (by rw [ko]; rfl)) (NeAll.cons q4.symm fc.2.2.2.2)))
  · exact NeAll.cons (ne_of_kind a5 a4 rfl) (NeAll.cons (ne_of_kind a6 a4 (by rw [ko]; rfl)) (NeAll.cons (ne_of_kind a7 a4 rfl) fk.2.2.2.2))
  · exact NeAll.cons q3.symm (NeAll.cons (ne_of_kind a7 a5 rfl) fkd.2.2.2.2)
  · exact NeAll.cons (ne_of_kind a7 a6 (by rw [ko]; rfl)) fkr.2.2.2.2
  · exact fli.2.2.2.2
theorem mkrec_use (B : Below A₀ base outer h₀) (F : Fr h₀ L s.heap m) (X : (KK w.params).In h₀) (N : News h₀ L s.heap news) (T' : Top p loose mean mg mb h₀) (hk : cs.kind = .function)
    (hm : makesIn (KK w.params) 717 = true) (hi : findIn (KK w.params) (.ref 717) "__init__" = some (some (.ref 695))) (hf : isFn (KK w.params) (.ref 695) = true) (hd : dp + 61 < recursionLimit) (hu : un + 601 < cLine)
    (ret : ∀ x dx ul uld rl t tu b h' tk', Fr h₀ L h' m →
      News h₀ L h' ((x, instObj 717 dx) :: (dx, dictOf (rcEs w.params t ul) 1) :: (ul, instObj 260 uld) :: (uld, dictOf (ulEs w.params tu rl 0 b .none) 5) :: (rl, listOf #[] 0) :: news) →
      NeAll x ((dx, dictOf (rcEs w.params t ul) 1) :: (ul, instObj 260 uld) :: (uld, dictOf (ulEs w.params tu rl 0 b .none) 5) :: (rl, listOf #[] 0) :: news) → NeAll dx ((ul, instObj 260 uld) :: (uld, dictOf (ulEs w.params tu rl 0 b .none) 5) :: (rl, listOf #[] 0) :: news) →
      NeAll ul ((uld, dictOf (ulEs w.params tu rl 0 b .none) 5) :: (rl, listOf #[] 0) :: news) → NeAll uld ((rl, listOf #[] 0) :: news) → NeAll rl news → Q (.ref x) { s with heap := h', toks := tk' }) :
    wpAny (model pw w) (ktrTop dp un gd' cn cs L a₀ ccd cl₀ outer) (call (.ref 717) []) Q E s := by
  refine make_use (pre := fun _ _ _ => True) (args := []) (post := fun x dx h v h' => RecNew w dx h h') (fun x dx => recinit_spec w x dx) B F X N T' hk hm hi hf hd hu ?_
  intro x dx h1 h' tk' F' N' n1 n2 n3 fr sd sx po
  obtain ⟨t, tu, b, ul, uld, rl, ⟨a0, a1, a2, a3, _⟩, f⟩ := po
  have f1 := fr ul _ a1 (f ul (.head _))
  have f2 := fr uld _ a2 (f uld (.tail _ (.head _)))
  have f3 := fr rl _ a3 (f rl (.tail _ (.tail _ (.head _))))
  have hx := (N' _ (.head _)).1
  refine ret x dx ul uld rl t tu b h' tk' F' ?_ ?_ ?_ ?_ ?_ ?_
  · exact News.cons' hx sx (News.cons' a0 sd (News.cons' a1 ⟨f1.2.2.1, f1.2.2.2.1⟩ (News.cons' a2 ⟨f2.2.2.1, f2.2.2.2.1⟩ (News.cons' a3 ⟨f3.2.2.1, f3.2.2.2.1⟩ fun q hq => N' q (.tail _ hq)))))
  · exact NeAll.cons n3 (NeAll.cons f1.1 (NeAll.cons f2.1 (NeAll.cons f3.1 n2)))
  · exact NeAll.cons f1.2.1 (NeAll.cons f2.2.1 (NeAll.cons f3.2.1 n1))
  · exact NeAll.cons (ne_of_kind a2 a1 rfl) (NeAll.cons (ne_of_kind a3 a1 rfl) f1.2.2.2.2)
  · exact NeAll.cons (ne_of_kind a3 a2 rfl) f2.2.2.2.2
  · exact f3.2.2.2.2
theorem mkmk_use {t1 : Tok} {adv : Bool} (B : Below A₀ base outer h₀) (F : Fr h₀ L s.heap m) (X : (KK w.params).In h₀) (N : News h₀ L s.heap news) (T' : Top p loose mean mg mb h₀) (hk : cs.kind = .function)
    (hm : makesIn (KK w.params) 477 = true) (hi : findIn (KK w.params) (.ref 477) "__init__" = some (some (.ref 453))) (hf : isFn (KK w.params) (.ref 453) = true) (hd : dp + 61 < recursionLimit) (hu : un + 601 < cLine)
    (ret : ∀ x dx t u v h' tk', Fr h₀ L h' m → News h₀ L h' ((x, instObj 477 dx) :: (dx, dictOf (mkEs w.params t adv .none 0 u v) 4) :: news) →
      NeAll x ((dx, dictOf (mkEs w.params t adv .none 0 u v) 4) :: news) → NeAll dx news → Q (.ref x) { s with heap := h', toks := tk' }) :
    wpAny (model pw w) (ktrTop dp un gd' cn cs L a₀ ccd cl₀ outer) (call (.ref 477) [.int 1 t1, .bool adv]) Q E s := by
  refine make_use (pre := fun _ _ _ => True) (post := fun x dx h v h' => ∃ t u v, At h' [(dx, dictOf (mkEs w.params t adv .none 0 u v) 4)]) (fun x dx => mkinit_spec w x dx t1 adv) B F X N T' hk hm hi hf hd hu ?_
  intro x dx h1 h' tk' F' N' n1 n2 n3 fr sd sx po
  obtain ⟨t, u, v, a0, _⟩ := po
  exact ret x dx t u v h' tk' F' (News.cons' (N' _ (.head _)).1 sx (News.cons' a0 sd fun q hq => N' q (.tail _ hq))) (NeAll.cons n3 n2) n1
theorem insert0_use {b bd g gd c k kd kr li cl : Addr} {tb ub tg : Nat → Tok} {tk u8 up uz ut uc us gu gv : Tok} {pt zv ti ct sv gs ge : Int} {cells codes : List Value} {nc nk : Nat} {okr : Obj} (B : Below A₀ base outer h₀) (F : Fr h₀ L s.heap m) (X : (KK w.params).In h₀) (N : News h₀ L s.heap news) (T' : Top p loose mean mg mb h₀) (hk : cs.kind = .function)
    (hp : At s.heap [(b, instObj 651 bd), (g, instObj 400 gd), (k, instObj 545 kd), (kd, dictOf (ksEs w.params tk kr) 1), (li, listOf #[] 0), (cl, listOf codes.toArray nk)]) (sub : Subl [(bd, dictOf (bufEs w.params tb ub g k li .none pt zv ti ct sv up uz ut uc us) 20), (gd, dictOf (gapEs w.params tg (.int 8 u8) (.ref c) gs ge gu gv) 4), (c, listOf cells.toArray nc), (kr, okr)] news) (hd : dp + 120 < recursionLimit) (hu : un + 1200 < cLine)
    (hne : Pairs [b, bd, g, gd, c, k, kd, kr, li, cl]) (lo : (kr == sysModules) = false) (hkr : okr.IsDictOf (intKind pw w) []) (hc : (codes.length : Int) ≠ 0) (hc' : codes.length ≤ 1000) (h3 : 0 ≤ gs) (h4 : gs ≤ ge) (h5 : ge ≤ cells.length) (h6 : cells.length ≤ 200000) (hz : zv = cells.length - ge + gs + 1) (hp1 : 1 ≤ pt) (hp2 : pt ≤ zv)
    (ret : ∀ ct' up uz ut uc us gu gv gs' ge' cells' nc' h' tk', Fr h₀ L h' m → (∀ new, Repl [bd, gd, c, kr] [(bd, dictOf (bufEs w.params tb ub g k li .none (pt + codes.length) (zv + codes.length) (ti + 1) ct' sv up uz ut uc us) 20), (gd, dictOf (gapEs w.params tg (.int 8 u8) (.ref c) gs' ge' gu gv) 4), (c, listOf (cells' : List Value).toArray nc'), (kr, okr)] news new → News h₀ L h' new) →
      0 ≤ gs' → gs' ≤ ge' → ge' ≤ cells'.length → (cells'.length : Int) ≤ cells.length + codes.length + 8 → txt cells' gs' ge' = (txt cells gs ge).take (pt - 1).toNat ++ codes ++ (txt cells gs ge).drop (pt - 1).toNat → Q .none { s with heap := h', toks := tk' }) :
    wpAny (model pw w) (ktrTop dp un gd' cn cs L a₀ ccd cl₀ outer) (call (.ref 112) [.ref b, .ref cl]) Q E s := by
  have pr : ∀ i j (x y : Addr), [b, bd, g, gd, c, k, kd, kr, li, cl][i]? = some x → [b, bd, g, gd, c, k, kd, kr, li, cl][j]? = some y → i < j → x ≠ y := fun i j x y h1 h2 h => hne.get h1 h2 h
  have ne : ∀ i j (x y : Addr), [b, bd, g, gd, c, k, kd, kr, li, cl][i]? = some x → [b, bd, g, gd, c, k, kd, kr, li, cl][j]? = some y → Nat.beq i j = false → x ≠ y := fun i j x y h1 h2 h => by
    rcases Nat.lt_or_gt_of_ne (Nat.ne_of_beq_eq_false h) with h | h
    · exact pr i j x y h1 h2 h
    · exact (pr j i y x h2 h1 h).symm
  refine spec_use2 (insert0_spec w b bd g gd c k kd kr li cl tb ub tg tk u8 up uz ut uc us gu gv pt zv ti ct sv gs ge cells codes nc nk okr (ne 3 1 _ _ rfl rfl rfl) (ne 7 1 _ _ rfl rfl rfl) (ne 7 3 _ _ rfl rfl rfl) (ne 6 1 _ _ rfl rfl rfl) (ne 6 3 _ _ rfl rfl rfl) (ne 6 7 _ _ rfl rfl rfl) (ne 8 4 _ _ rfl rfl rfl) (ne 9 4 _ _ rfl rfl rfl) (ne 0 1 _ _ rfl rfl rfl) (ne 8 1 _ _ rfl rfl rfl) (ne 5 7 _ _ rfl rfl rfl) (ne 0 3 _ _ rfl rfl rfl) (ne 0 4 _ _ rfl rfl rfl) (ne 0 7 _ _ rfl rfl rfl) (ne 2 1 _ _ rfl rfl rfl) (ne 2 3 _ _ rfl rfl rfl) (ne 2 4 _ _ rfl rfl rfl) (ne 2 7 _ _ rfl rfl rfl) (ne 5 1 _ _ rfl rfl rfl) (ne 5 3 _ _ rfl rfl rfl) (ne 5 4 _ _ rfl rfl rfl) (ne 6 4 _ _ rfl rfl rfl) (ne 8 3 _ _ rfl rfl rfl) (ne 8 7 _ _ rfl rfl rfl) (ne 9 1 _ _ rfl rfl rfl) (ne 9 3 _ _ rfl rfl rfl) (ne 9 7 _ _ rfl rfl rfl) (ne 3 4 _ _ rfl rfl rfl) (ne 1 4 _ _ rfl rfl rfl) (ne 7 4 _ _ rfl rfl rfl)
    lo hkr hc hc' h3 h4 h5 h6 hz hp1 hp2) B F X N T' hk hp sub hd hu ?_
  intro v h' tk' F' nb fr kp po
  obtain ⟨rfl, ct', up, uz, ut, uc, us, gu, gv, gs', ge', cells', nc', A', q1, q2, q3, q4, q5⟩ := po
  exact ret ct' up uz ut uc us gu gv gs' ge' cells' nc' h' tk' F' (fun new R => nb _ _ A' R) q1 q2 q3 q4 q5
end
section
open N_L1
theorem rk_ne {vs : List Value} {a : Int} {n : Nat} (h : IntsAre vs (rangeKs a n)) (hn : n ≠ 0) : (vs.length : Int) ≠ 0 := by
  have e := h.length
  rw [rangeKs, List.length_map, List.length_range] at e; omega
theorem rk_le {vs : List Value} {a : Int} {n : Nat} (h : IntsAre vs (rangeKs a n)) (hn : n ≤ 1000) : vs.length ≤ 1000 := by
  have e := h.length
  rw [rangeKs, List.length_map, List.length_range] at e; omega
theorem inj_of {l : List Addr} (hl : l.length = 16) (H : Pairs l) : Inj (fun i => l.getD i 0) := by
  intro i j hij hj
  have g : ∀ k, k < 16 → l[k]? = some (l.getD k 0) := fun k hk => by
    rw [List.getD_eq_getElem?_getD, List.getElem?_eq_getElem (by omega)]; rfl
  exact H.get (g i (by omega)) (g j hj) hij
theorem off_of_pairs {l r : List Addr} {x : Addr} (hl : l.length = 16) (H : ∀ b ∈ l ++ r, x ≠ b) : Off (fun i => l.getD i 0) x := by
  intro i hi
  refine H _ (List.mem_append_left _ ?_)
  show l.getD i 0 ∈ l
  rw [List.getD_eq_getElem?_getD, List.getElem?_eq_getElem (by omega)]
  exact List.getElem_mem _
structure Laid (w : World) (A : Nat → Addr) (S : St) (dk d0 d1 : Addr) (xs ys : List Value) (c : Int) : Prop where
  hI : Inj A
  lo : (A 4 == sysModules) = false
  V : VS w S S.kvs
  h6 : S.cells.length ≤ 100
  x1 : dk ≠ d0
  x2 : d1 ≠ dk
  x3 : d1 ≠ d0
  o1 : Off A dk
  o2 : Off A d0
  o3 : Off A d1
  y1 : AllNN xs
  y2 : xs.length ≤ 63
  y3 : AllInts ys
  y4 : 1 ≤ ys.length
  y5 : ys.length ≤ 64
  c0 : 0 ≤ c
  t1 : (tx S).length ≤ 8
  t2 : 2 ≤ (tx S).length
  t3 : AllInts (tx S)
def LawCont (w : World) (g' : Heap) (L' sa : Addr) (k : Nat) (AA : Around) (env : Env) (gn : Array GenState) (dr : Drawn) (os : OsState) (Q : Flow → Shared → Prop) (E : Value → Shared → Prop) : Prop :=
  ∀ (A : Nat → Addr) (T : Nat → Nat → Tok) (S : St) (dk d0 d1 : Addr) (xs ys : List Value) (c : Int) (tc : Tok) (n0 n1 n2 : Nat) (h : Heap) (tk : Nat),
    Laid w A S dk d0 d1 xs ys c → c ≤ 2 → S.kvs = [] → S.nv = .none → S.bv = .none → S.pos = 0 → S.rs = [] → S.ti = S.sv →
    Fr g' L' h (fun y => if y = Str.ofString "marker" then some (.ref (A 11)) else if y = Str.ofString "deck" then some (.ref dk) else if y = Str.ofString "buffer" then some (.ref (A 7)) else List.lookup y [(Str.ofString "script", Value.ref sa)]) → News g' L' h ((dk, listOf [Value.ref d0, .ref d1, .int c tc].toArray n0) :: (d0, listOf xs.toArray n1) :: (d1, listOf ys.toArray n2) :: (ledL w A T S ++ cstL w A T)) →
    wpAny (model pw w) AA (execs (dL.1.body.drop k) env) Q E ⟨h, gn, dr, tk, os⟩
theorem law_sw {w : World} {g' h : Heap} {L' sa : Addr} {AA : Around} {env : Env} {gn : Array GenState} {dr : Drawn} {os : OsState} {Q : Flow → Shared → Prop} {E : Value → Shared → Prop} {tk : Nat}
    {dk d0 d1 mk mkd rc rcd ul uld rl b bd g gd c k kd kr li D1 D2 D3 : Addr} {o1 o2 o3 : Obj} {xs ys cells1 cells vs : List Value} {cc r zv pt ct gs ge : Int} {tc u8 gu gv up uz ut uc us bt tm trc um vp : Tok} {n0 n1 n2 nc : Nat} {tb ub tg tmk tu : Nat → Tok} {adv : Bool} {okr : Obj}
    (cont : LawCont w g' L' sa 4 AA env gn dr os Q E) (F : Fr g' L' h (fun y => if y = Str.ofString "marker" then some (.ref mk) else if y = Str.ofString "deck" then some (.ref dk) else if y = Str.ofString "buffer" then some (.ref b) else List.lookup y [(Str.ofString "script", Value.ref sa)]))
    (N : News g' L' h [(D1, o1), (mk, instObj 477 mkd), (mkd, dictOf (mkEs w.params tmk adv .none 0 um vp) 4), (rc, instObj 717 rcd), (rcd, dictOf (rcEs w.params trc ul) 1), (ul, instObj 260 uld), (uld, dictOf (ulEs w.params tu rl 0 bt .none) 5), (rl, listOf #[] 0), (D2, o2), (D3, o3), (b, instObj 651 bd), (bd, dictOf (bufEs w.params tb ub g k li (.ref rc) pt zv (1 + 1) ct (1 + 1) up uz ut uc us) 20), (g, instObj 400 gd), (gd, dictOf (gapEs w.params tg (.int 8 u8) (.ref c) gs ge gu gv) 4), (c, listOf cells.toArray nc), (k, instObj 545 kd), (kd, dictOf (ksEs w.params tm kr) 1), (kr, okr), (li, listOf #[] 0), (dk, listOf [Value.ref d0, .ref d1, .int cc tc].toArray n0), (d0, listOf xs.toArray n1), (d1, listOf ys.toArray n2)])
    (hP : Pairs [bd, gd, c, mkd, kr, uld, rl, b, g, k, kd, mk, ul, rc, rcd, li]) (hdk : ∀ x ∈ [bd, gd, c, mkd, kr, uld, rl, b, g, k, kd, mk, ul, rc, rcd, li], dk ≠ x) (hd0 : ∀ x ∈ [bd, gd, c, mkd, kr, uld, rl, b, g, k, kd, mk, ul, rc, rcd, li], d0 ≠ x) (hd1 : ∀ x ∈ [bd, gd, c, mkd, kr, uld, rl, b, g, k, kd, mk, ul, rc, rcd, li], d1 ≠ x)
    (lo : (kr == sysModules) = false) (hkr : okr.IsDictOf (intKind pw w) []) (q1 : 0 ≤ gs) (q2 : gs ≤ ge) (q3 : ge ≤ cells.length) (q4 : (cells.length : Int) ≤ cells1.length + vs.length + 8) (q5 : txt cells gs ge = List.take (1 - 1 : Int).toNat (txt cells1 0 8) ++ vs ++ List.drop (1 - 1 : Int).toNat (txt cells1 0 8)) (hcl : cells1.length = 8) (hv : IntsAre vs (rangeKs 0 (2 + r - 0).toNat)) (hr0 : 0 ≤ r) (hr1 : r < 5)
    (x1 : dk ≠ d0) (x2 : d1 ≠ dk) (x3 : d1 ≠ d0) (y1 : AllNN xs) (y2 : xs.length ≤ 63) (y3 : AllInts ys) (y4 : 1 ≤ ys.length) (y5 : ys.length ≤ 64) (c0 : 0 ≤ cc) (c1 : cc ≤ 2) (hz : zv = 1 + vs.length) :
    wpAny (model pw w) AA (execs (dL.1.body.drop 4) env) Q E ⟨h, gn, dr, tk, os⟩ := by
  have hvl : vs.length = (2 + r).toNat := by
    have e := hv.length
    rw [rangeKs, List.length_map, List.length_range] at e; rw [e]; congr 1; omega
  have e1 : txt cells1 0 8 = [] := by
    rw [txt, show (0 : Int).toNat = 0 from rfl, show (8 : Int).toNat = 8 from rfl, List.take_zero, List.nil_append, List.drop_eq_nil_iff]; omega
  have e2 : txt cells gs ge = vs := by rw [q5, e1]; simp
  let S : St := { cells := cells, nc := nc, gs := gs, ge := ge, gu := gu, gv := gv, pt := pt, zv := zv, ti := 1 + 1, ct := ct, sv := 1 + 1, up := up, uz := uz, ut := ut, uc := uc, us := us, rs := [], n := 0, nv := .none, pos := 0, um := um, vp := vp, adv := adv, bv := .none, kvs := [], okr := okr }
  have et : tx S = vs := e2
  have hl : ((txt cells gs ge).length : Int) = _ := txt_len q1 q2 q3
  rw [e2] at hl
  have e : ∀ {x o}, (x, o) ∈ _ → _ := fun {x o} hm => N (x, o) hm
  refine cont (fun i => [bd, gd, c, mkd, kr, uld, rl, b, g, k, kd, mk, ul, rc, rcd, li].getD i 0) (fun j i => match j with | 0 => tb i | 1 => ub i | 2 => if i = 9 then u8 else tg i | 3 => tmk i | 4 => if i = 9 then bt else tu i | _ => if i = 0 then tm else trc) S dk d0 d1 xs ys cc tc n0 n1 n2 h tk
    ⟨inj_of rfl hP, lo, ⟨.inl rfl, q1, q2, q3, ?_, hkr, rfl⟩, ?_, x1, x2, x3, off_of_pairs (r := []) rfl (by rw [List.append_nil]; exact hdk), off_of_pairs (r := []) rfl (by rw [List.append_nil]; exact hd0), off_of_pairs (r := []) rfl (by rw [List.append_nil]; exact hd1), y1, y2, y3, y4, y5, c0, ?_, ?_, ?_⟩ c1 rfl rfl rfl rfl rfl rfl F ?_
  · show zv = (cells.length : Int) - ge + gs + 1
    omega
  · show cells.length ≤ 100
    omega
  · rw [et]; omega
  · rw [et]; omega
  · rw [et]; exact AllInts.of hv
  · have m : ∀ p ∈ [(dk, listOf [Value.ref d0, .ref d1, .int cc tc].toArray n0), (d0, listOf xs.toArray n1), (d1, listOf ys.toArray n2)], News g' L' h [p] := fun p hp q hq => by
      rw [List.mem_singleton.mp hq]
      exact N p (by
        simp only [List.mem_cons, List.not_mem_nil, or_false] at hp ⊢
        rcases hp with rfl | rfl | rfl <;> simp)
    refine News.cons' (m _ (.head _) _ (.head _)).1 (m _ (.head _) _ (.head _)).2 (News.cons' (m _ (.tail _ (.head _)) _ (.head _)).1 (m _ (.tail _ (.head _)) _ (.head _)).2 (News.cons' (m _ (.tail _ (.tail _ (.head _))) _ (.head _)).1 (m _ (.tail _ (.tail _ (.head _))) _ (.head _)).2 (News.append' ?_ ?_)))
    · exact News.cons' (e (.tail _ (.tail _ (.tail _ (.tail _ (.tail _ (.tail _ (.tail _ (.tail _ (.tail _ (.tail _ (.tail _ (.head _))))))))))))).1 (e (.tail _ (.tail _ (.tail _ (.tail _ (.tail _ (.tail _ (.tail _ (.tail _ (.tail _ (.tail _ (.tail _ (.head _))))))))))))).2 (News.cons' (e (.tail _ (.tail _ (.tail _ (.tail _ (.tail _ (.tail _ (.tail _ (.tail _ (.tail _ (.tail _ (.tail _ (.tail _ (.tail _ (.head _))))))))))))))).1 (e (.tail _ (.tail _ (.tail _ (.tail _ (.tail _ (.tail _ (.tail _ (.tail _ (.tail _ (.tail _ (.tail _ (.tail _ (.tail _ (.head _))))))))))))))).2 (News.cons' (e (.tail _ (.tail _ (.tail _ (.tail _ (.tail _ (.tail _ (.tail _ (.tail _ (.tail _ (.tail _ (.tail _ (.tail _ (.tail _ (.tail _ (.head _)))))))))))))))).1 (e (.tail _ (.tail _ (.tail _ (.tail _ (.tail _ (.tail _ (.tail _ (.tail _ (.tail _ (.tail _ (.tail _ (.tail _ (.tail _ (.tail _ (.head _)))))))))))))))).2 (News.cons' (e (.tail _ (.tail _ (.head _)))).1 (e (.tail _ (.tail _ (.head _)))).2 (News.cons' (e (.tail _ (.tail _ (.tail _ (.tail _ (.tail _ (.tail _ (.tail _ (.tail _ (.tail _ (.tail _ (.tail _ (.tail _ (.tail _ (.tail _ (.tail _ (.tail _ (.tail _ (.head _))))))))))))))))))).1 (e (.tail _ (.tail _ (.tail _ (.tail _ (.tail _ (.tail _ (.tail _ (.tail _ (.tail _ (.tail _ (.tail _ (.tail _ (.tail _ (.tail _ (.tail _ (.tail _ (.tail _ (.head _))))))))))))))))))).2 (News.cons' (e (.tail _ (.tail _ (.tail _ (.tail _ (.tail _ (.tail _ (.head _)))))))).1 (e (.tail _ (.tail _ (.tail _ (.tail _ (.tail _ (.tail _ (.head _)))))))).2 (News.cons' (e (.tail _ (.tail _ (.tail _ (.tail _ (.tail _ (.tail _ (.tail _ (.head _))))))))).1 (e (.tail _ (.tail _ (.tail _ (.tail _ (.tail _ (.tail _ (.tail _ (.head _))))))))).2 News.nil))))))
    · exact News.cons' (e (.tail _ (.tail _ (.tail _ (.tail _ (.tail _ (.tail _ (.tail _ (.tail _ (.tail _ (.tail _ (.head _)))))))))))).1 (e (.tail _ (.tail _ (.tail _ (.tail _ (.tail _ (.tail _ (.tail _ (.tail _ (.tail _ (.tail _ (.head _)))))))))))).2 (News.cons' (e (.tail _ (.tail _ (.tail _ (.tail _ (.tail _ (.tail _ (.tail _ (.tail _ (.tail _ (.tail _ (.tail _ (.tail _ (.head _)))))))))))))).1 (e (.tail _ (.tail _ (.tail _ (.tail _ (.tail _ (.tail _ (.tail _ (.tail _ (.tail _ (.tail _ (.tail _ (.tail _ (.head _)))))))))))))).2 (News.cons' (e (.tail _ (.tail _ (.tail _ (.tail _ (.tail _ (.tail _ (.tail _ (.tail _ (.tail _ (.tail _ (.tail _ (.tail _ (.tail _ (.tail _ (.tail _ (.head _))))))))))))))))).1 (e (.tail _ (.tail _ (.tail _ (.tail _ (.tail _ (.tail _ (.tail _ (.tail _ (.tail _ (.tail _ (.tail _ (.tail _ (.tail _ (.tail _ (.tail _ (.head _))))))))))))))))).2 (News.cons' (e (.tail _ (.tail _ (.tail _ (.tail _ (.tail _ (.tail _ (.tail _ (.tail _ (.tail _ (.tail _ (.tail _ (.tail _ (.tail _ (.tail _ (.tail _ (.tail _ (.head _)))))))))))))))))).1 (e (.tail _ (.tail _ (.tail _ (.tail _ (.tail _ (.tail _ (.tail _ (.tail _ (.tail _ (.tail _ (.tail _ (.tail _ (.tail _ (.tail _ (.tail _ (.tail _ (.head _)))))))))))))))))).2 (News.cons' (e (.tail _ (.head _))).1 (e (.tail _ (.head _))).2 (News.cons' (e (.tail _ (.tail _ (.tail _ (.tail _ (.tail _ (.head _))))))).1 (e (.tail _ (.tail _ (.tail _ (.tail _ (.tail _ (.head _))))))).2 (News.cons' (e (.tail _ (.tail _ (.tail _ (.head _))))).1 (e (.tail _ (.tail _ (.tail _ (.head _))))).2 (News.cons' (e (.tail _ (.tail _ (.tail _ (.tail _ (.head _)))))).1 (e (.tail _ (.tail _ (.tail _ (.tail _ (.head _)))))).2 (News.cons' (e (.tail _ (.tail _ (.tail _ (.tail _ (.tail _ (.tail _ (.tail _ (.tail _ (.tail _ (.tail _ (.tail _ (.tail _ (.tail _ (.tail _ (.tail _ (.tail _ (.tail _ (.tail _ (.head _)))))))))))))))))))).1 (e (.tail _ (.tail _ (.tail _ (.tail _ (.tail _ (.tail _ (.tail _ (.tail _ (.tail _ (.tail _ (.tail _ (.tail _ (.tail _ (.tail _ (.tail _ (.tail _ (.tail _ (.tail _ (.head _)))))))))))))))))))).2 News.nil))))))))
namespace law_p1N
abbrev zS (w : World) (p : Program) (loose : List Str) (mean : ExcName → Option Value) (mg mb : Str → Option Value) (base g' h' : Heap) (L' fa sa : Addr) (cdv : Value) (vs : List Value) (ns : List Int) (gn : Array GenState) (dr : Drawn) (tk' : Nat) (os : OsState) (Q : Flow → Shared → Prop) (E : Value → Shared → Prop) : Prop := let AA := callerA.deeper (envOf dL.1.name dL.1.scope L' fa cdv); AA.depth = callerA.depth + 1 → AA.units = callerA.units + 3 → LawCont w g' L' sa 4 AA (envOf dL.1.name dL.1.scope L' fa cdv) gn dr os Q E → wpAny (model pw w) AA (execs dL.1.body (envOf dL.1.name dL.1.scope L' fa cdv)) Q E ⟨h', gn, dr, tk', os⟩
def zP (w : World) (p : Program) (loose : List Str) (mean : ExcName → Option Value) (mg mb : Str → Option Value) (base g' h' : Heap) (L' fa sa : Addr) (cdv : Value) (vs : List Value) (ns : List Int) (gn : Array GenState) (dr : Drawn) (tk' : Nat) (os : OsState) (Q : Flow → Shared → Prop) (E : Value → Shared → Prop) : Prop := ∀ (F' : Fr g' L' h' (fun y => List.lookup y [(Str.ofString "script", Value.ref sa)])) (N' : News g' L' h' []) (B' : Below callerA base [] g') (X' : (KK w.params).In g') (T' : Top p loose mean mg mb g') (hS : g'.IsList sa vs.toArray) (hi : IntsAre vs ns) (hl : vs.length ≤ 63) (hA : At g' []) (hd : callerA.depth + 600 < recursionLimit) (hu : callerA.units + 9000 < cLine), zS w p loose mean mg mb base g' h' L' fa sa cdv vs ns gn dr tk' os Q E
abbrev zT := (World × Program × (List Str) × (ExcName → Option Value) × (Str → Option Value)) × ((Str → Option Value) × Heap × Heap × Heap × Addr) × (Addr × Addr × Value × (List Value) × (List Int)) × ((Array GenState) × Drawn × Nat × OsState × (Flow → Shared → Prop)) × (Value → Shared → Prop)
def zQ (x : zT) : Prop := zP x.1.1 x.1.2.1 x.1.2.2.1 x.1.2.2.2.1 x.1.2.2.2.2 x.2.1.1 x.2.1.2.1 x.2.1.2.2.1 x.2.1.2.2.2.1 x.2.1.2.2.2.2 x.2.2.1.1 x.2.2.1.2.1 x.2.2.1.2.2.1 x.2.2.1.2.2.2.1 x.2.2.1.2.2.2.2 x.2.2.2.1.1 x.2.2.2.1.2.1 x.2.2.2.1.2.2.1 x.2.2.2.1.2.2.2.1 x.2.2.2.1.2.2.2.2 x.2.2.2.2
theorem zne : Nonempty zT := by k_extra "zne"
def zX : zT := pk zne zQ
noncomputable abbrev AA : Around := callerA.deeper (envOf dL.1.name dL.1.scope zX.2.1.2.2.2.2 zX.2.2.1.1 zX.2.2.1.2.2.1)
noncomputable def zK1 : RedF (zQ zX) (Addr → Addr → Addr → List Value → List Value → Tok → Nat → Nat → Nat → Addr → Addr → Addr → Addr → Addr → Addr → Addr → Addr → Addr → (Nat → Tok) → (Nat → Tok) → (Nat → Tok) → Tok → Tok → Tok → Tok → Tok → Tok → Tok → Tok → Tok → List Value → Nat → Obj → Nat → Addr → Heap → Prop) (fun R => ∀ a0 a1 a2 a3 a4 a5 a6 a7 a8 a9 a10 a11 a12 a13 a14 a15 a16 a17 a18 a19 a20 a21 a22 a23 a24 a25 a26 a27 a28 a29 a30 a31 a32 a33 a34 a35, R a0 a1 a2 a3 a4 a5 a6 a7 a8 a9 a10 a11 a12 a13 a14 a15 a16 a17 a18 a19 a20 a21 a22 a23 a24 a25 a26 a27 a28 a29 a30 a31 a32 a33 a34 a35) := by
  apply Subtype.mk; intro H
  intro F' N' B' X' T' hS hi hl hA hd hu
  delta zS
  intro AA0; have eAA : AA0 = AA := rfl; clear_value AA0; subst eAA
  intro dA uA cont
  (try dsimp only)
  (try k_fold)
  iterate 35 (focus (first | (k_unfold; (try dsimp only)) | (k_end; wrow_close) | walk1 | (dsimp only; walk1) | (leave1; (try dsimp only))))
  rename_i zy1_1 zy1_2 zy1_3 zy1_4 zy1_5 zy1_6 zy1_7 zy1_8 zy1_9 zy1_10 zy1_11 zy1_12 zy1_13 zy1_14 zy1_15 zy1_16 zy1_17 zy1_18 zy1_19 zy1_20 zy1_21 zy1_22 zy1_23 zy1_24 zy1_25 zy1_26 zy1_27 zy1_28 zy1_29 zy1_30 zy1_31 zy1_32 zy1_33 zy1_34 zy1_35 zy1_36 zy1_37 zy1_38 zy1_39 zy1_40 zy1_41 zy1_42 zy1_43 zy1_44 zy1_45 zy1_46 zy1_47 zy1_48 zy1_49 zy1_50 zy1_51 zy1_52 zy1_53 zy1_54 zy1_55 zy1_56 zy1_57 zy1_58 zy1_59 zy1_60 zy1_61 zy1_62 zy1_63 zy1_64 zy1_65 zy1_66 zy1_67 zy1_68 zy1_69 zy1_70 zy1_71 zy1_72
  revert B' X' T' hS hi hl hA hd hu dA uA cont zy1_16 zy1_17 zy1_18 zy1_19 zy1_20 zy1_21 zy1_22 zy1_23 zy1_24 zy1_25 zy1_26 zy1_53 zy1_54 zy1_55 zy1_56 zy1_57 zy1_58 zy1_59 zy1_60 zy1_61 zy1_62 zy1_63 zy1_64 zy1_67 zy1_71 zy1_72
  revert zy1_1 zy1_2 zy1_3 zy1_4 qk ek
  exact H.h zy1_5 zy1_6 zy1_7 zy1_8 zy1_9 zy1_10 zy1_11 zy1_12 zy1_13 zy1_27 zy1_28 zy1_29 zy1_30 zy1_31 zy1_32 zy1_33 zy1_34 zy1_35 zy1_36 zy1_37 zy1_38 zy1_39 zy1_40 zy1_41 zy1_42 zy1_43 zy1_44 zy1_45 zy1_46 zy1_47 zy1_48 zy1_49 zy1_50 zy1_52 zy1_65 zy1_70
theorem zN1 : Nonempty ((Addr × Addr × Addr × (List Value) × (List Value) × Tok) × (Nat × Nat × Nat × Addr × Addr × Addr) × (Addr × Addr × Addr × Addr × Addr × Addr) × ((Nat → Tok) × (Nat → Tok) × (Nat → Tok) × Tok × Tok × Tok) × (Tok × Tok × Tok × Tok × Tok × Tok) × ((List Value) × Nat × Obj × Nat × Addr × Heap)) := by k_extra "zne"
def zC1 : (Addr × Addr × Addr × (List Value) × (List Value) × Tok) × (Nat × Nat × Nat × Addr × Addr × Addr) × (Addr × Addr × Addr × Addr × Addr × Addr) × ((Nat → Tok) × (Nat → Tok) × (Nat → Tok) × Tok × Tok × Tok) × (Tok × Tok × Tok × Tok × Tok × Tok) × ((List Value) × Nat × Obj × Nat × Addr × Heap) := pk zN1 (fun x => zK1.1 x.1.1 x.1.2.1 x.1.2.2.1 x.1.2.2.2.1 x.1.2.2.2.2.1 x.1.2.2.2.2.2 x.2.1.1 x.2.1.2.1 x.2.1.2.2.1 x.2.1.2.2.2.1 x.2.1.2.2.2.2.1 x.2.1.2.2.2.2.2 x.2.2.1.1 x.2.2.1.2.1 x.2.2.1.2.2.1 x.2.2.1.2.2.2.1 x.2.2.1.2.2.2.2.1 x.2.2.1.2.2.2.2.2 x.2.2.2.1.1 x.2.2.2.1.2.1 x.2.2.2.1.2.2.1 x.2.2.2.1.2.2.2.1 x.2.2.2.1.2.2.2.2.1 x.2.2.2.1.2.2.2.2.2 x.2.2.2.2.1.1 x.2.2.2.2.1.2.1 x.2.2.2.2.1.2.2.1 x.2.2.2.2.1.2.2.2.1 x.2.2.2.2.1.2.2.2.2.1 x.2.2.2.2.1.2.2.2.2.2 x.2.2.2.2.2.1 x.2.2.2.2.2.2.1 x.2.2.2.2.2.2.2.1 x.2.2.2.2.2.2.2.2.1 x.2.2.2.2.2.2.2.2.2.1 x.2.2.2.2.2.2.2.2.2.2)
theorem body2 : zK1.1 zC1.1.1 zC1.1.2.1 zC1.1.2.2.1 zC1.1.2.2.2.1 zC1.1.2.2.2.2.1 zC1.1.2.2.2.2.2 zC1.2.1.1 zC1.2.1.2.1 zC1.2.1.2.2.1 zC1.2.1.2.2.2.1 zC1.2.1.2.2.2.2.1 zC1.2.1.2.2.2.2.2 zC1.2.2.1.1 zC1.2.2.1.2.1 zC1.2.2.1.2.2.1 zC1.2.2.1.2.2.2.1 zC1.2.2.1.2.2.2.2.1 zC1.2.2.1.2.2.2.2.2 zC1.2.2.2.1.1 zC1.2.2.2.1.2.1 zC1.2.2.2.1.2.2.1 zC1.2.2.2.1.2.2.2.1 zC1.2.2.2.1.2.2.2.2.1 zC1.2.2.2.1.2.2.2.2.2 zC1.2.2.2.2.1.1 zC1.2.2.2.2.1.2.1 zC1.2.2.2.2.1.2.2.1 zC1.2.2.2.2.1.2.2.2.1 zC1.2.2.2.2.1.2.2.2.2.1 zC1.2.2.2.2.1.2.2.2.2.2 zC1.2.2.2.2.2.1 zC1.2.2.2.2.2.2.1 zC1.2.2.2.2.2.2.2.1 zC1.2.2.2.2.2.2.2.2.1 zC1.2.2.2.2.2.2.2.2.2.1 zC1.2.2.2.2.2.2.2.2.2.2 := by
  delta zK1; dsimp only
  intro B' X' T' hS hi hl hA hd hu dA uA cont zy1_16 zy1_17 zy1_18 zy1_19 zy1_20 zy1_21 zy1_22 zy1_23 zy1_24 zy1_25 zy1_26 zy1_53 zy1_54 zy1_55 zy1_56 zy1_57 zy1_58 zy1_59 zy1_60 zy1_61 zy1_62 zy1_63 zy1_64 zy1_67 zy1_71 zy1_72
  k_steps
  all_goals (try dsimp only)
  unfold Stop
  refine law_sw cont (by assumption) (by assumption) (by k_extra "C.pairs") (by k_extra "C.alln") (by k_extra "C.alln") (by k_extra "C.alln") (by assumption) (by assumption) (by assumption) (by assumption) (by assumption) (by assumption) (by assumption) (by assumption) (by assumption) (by assumption) (by assumption) (by assumption) (by assumption) (by assumption) (by assumption) (by assumption) (by assumption) (by assumption) (by assumption) (by assumption) (by omega) (by omega)
theorem body : zQ zX := zK1.2 ⟨fun a0 a1 a2 a3 a4 a5 a6 a7 a8 a9 a10 a11 a12 a13 a14 a15 a16 a17 a18 a19 a20 a21 a22 a23 a24 a25 a26 a27 a28 a29 a30 a31 a32 a33 a34 a35 => pk_all (n := zN1) (P := fun x => zK1.1 x.1.1 x.1.2.1 x.1.2.2.1 x.1.2.2.2.1 x.1.2.2.2.2.1 x.1.2.2.2.2.2 x.2.1.1 x.2.1.2.1 x.2.1.2.2.1 x.2.1.2.2.2.1 x.2.1.2.2.2.2.1 x.2.1.2.2.2.2.2 x.2.2.1.1 x.2.2.1.2.1 x.2.2.1.2.2.1 x.2.2.1.2.2.2.1 x.2.2.1.2.2.2.2.1 x.2.2.1.2.2.2.2.2 x.2.2.2.1.1 x.2.2.2.1.2.1 x.2.2.2.1.2.2.1 x.2.2.2.1.2.2.2.1 x.2.2.2.1.2.2.2.2.1 x.2.2.2.1.2.2.2.2.2 x.2.2.2.2.1.1 x.2.2.2.2.1.2.1 x.2.2.2.2.1.2.2.1 x.2.2.2.2.1.2.2.2.1 x.2.2.2.2.1.2.2.2.2.1 x.2.2.2.2.1.2.2.2.2.2 x.2.2.2.2.2.1 x.2.2.2.2.2.2.1 x.2.2.2.2.2.2.2.1 x.2.2.2.2.2.2.2.2.1 x.2.2.2.2.2.2.2.2.2.1 x.2.2.2.2.2.2.2.2.2.2) body2 ((a0, a1, a2, a3, a4, a5), (a6, a7, a8, a9, a10, a11), (a12, a13, a14, a15, a16, a17), (a18, a19, a20, a21, a22, a23), (a24, a25, a26, a27, a28, a29), (a30, a31, a32, a33, a34, a35))⟩
end law_p1N
theorem law_p1 (w p loose mean mg mb base g' h' L' fa sa cdv vs ns gn dr tk' os Q E) : law_p1N.zP w p loose mean mg mb base g' h' L' fa sa cdv vs ns gn dr tk' os Q E := pk_all (n := law_p1N.zne) (P := law_p1N.zQ) law_p1N.body ((w, p, loose, mean, mg), (mb, base, g', h', L'), (fa, sa, cdv, vs, ns), (gn, dr, tk', os, Q), E)
end
def Far (dk d0 tl : Addr) (R : List (Addr × Obj)) : Prop := ∀ p ∈ R, p.1 ≠ dk ∧ p.1 ≠ d0 ∧ p.1 ≠ tl
theorem Far.k0 {dk d0 tl : Addr} {R : List (Addr × Obj)} (h : Far dk d0 tl R) : ∀ p ∈ R, p.1 ≠ dk := fun p hp => (h p hp).1
theorem Far.k1 {dk d0 tl : Addr} {R : List (Addr × Obj)} (h : Far dk d0 tl R) : ∀ p ∈ R, p.1 ≠ d0 := fun p hp => (h p hp).2.1
theorem Far.k2 {dk d0 tl : Addr} {R : List (Addr × Obj)} (h : Far dk d0 tl R) : ∀ p ∈ R, p.1 ≠ tl := fun p hp => (h p hp).2.2
theorem Repl.far {dk d0 tl : Addr} {R l : List (Addr × Obj)} (h : Far dk d0 tl R) : Repl [dk, d0] l R R := Repl.same fun p hp => nm_cons (h p hp).1 (nm_cons (h p hp).2.1 List.not_mem_nil)
theorem Repl.far9 {A : Nat → Addr} {dk d0 tl : Addr} {R l : List (Addr × Obj)} (ho : OffAll A R) (h : Far dk d0 tl R) : Repl [dk, d0, A 0, A 1, A 2, A 3, A 4, A 5, A 6] l R R := Repl.same fun p hp => nm_cons (h p hp).1 (nm_cons (h p hp).2.1 (off7 (ho p hp)))
theorem Repl.sw7 {as : List Addr} {a : Addr} {o o' : Obj} {q1 q2 q3 q4 q5 q6 q7 : Addr × Obj} {l r r' : List (Addr × Obj)} (h : Repl as (q1 :: q2 :: q3 :: q4 :: q5 :: q6 :: q7 :: (a, o') :: l) r r') : Repl as (q1 :: q2 :: q3 :: q4 :: q5 :: q6 :: q7 :: (a, o') :: l) ((a, o) :: r) ((a, o') :: r') := .swap (.tail _ (.tail _ (.tail _ (.tail _ (.tail _ (.tail _ (.tail _ (.head _)))))))) h
theorem Repl.sw8 {as : List Addr} {a : Addr} {o o' : Obj} {q1 q2 q3 q4 q5 q6 q7 q8 : Addr × Obj} {l r r' : List (Addr × Obj)} (h : Repl as (q1 :: q2 :: q3 :: q4 :: q5 :: q6 :: q7 :: q8 :: (a, o') :: l) r r') : Repl as (q1 :: q2 :: q3 :: q4 :: q5 :: q6 :: q7 :: q8 :: (a, o') :: l) ((a, o) :: r) ((a, o') :: r') := .swap (.tail _ (.tail _ (.tail _ (.tail _ (.tail _ (.tail _ (.tail _ (.tail _ (.head _))))))))) h
structure Deck (A : Nat → Addr) (dk d0 d1 : Addr) (xs ys : List Value) (c : Int) : Prop where
  hI : Inj A
  lo : (A 4 == sysModules) = false
  x1 : dk ≠ d0
  x2 : d1 ≠ dk
  x3 : d1 ≠ d0
  o1 : Off A dk
  o2 : Off A d0
  o3 : Off A d1
  y1 : AllNN xs
  y2 : xs.length ≤ 63
  y3 : AllInts ys
  y4 : 1 ≤ ys.length
  y5 : ys.length ≤ 64
  c0 : 0 ≤ c
theorem AllInts.take {vs : List Value} (h : AllInts vs) (n : Nat) : AllInts (vs.take n) := fun v hv => h v (List.mem_of_mem_take hv)
theorem AllInts.drop {vs : List Value} (h : AllInts vs) (n : Nat) : AllInts (vs.drop n) := fun v hv => h v (List.mem_of_mem_drop hv)
theorem AllInts.app {vs ws : List Value} (h : AllInts vs) (k : AllInts ws) : AllInts (vs ++ ws) := fun v hv => (List.mem_append.mp hv).elim (h v) (k v)
theorem len_push {prog : Program} {w : World} {A : Around} {E : Value → Shared → Prop} {s : Shared} {l : Addr} {vs : List Value} {v : Value} {Q : Value → Shared → Prop} (hl : s.heap.IsList l (vs.toArray.push v)) (hz : vs.length ≤ 100000)
    (h : ∀ t, Q (.int ((vs.length : Int) + 1) t) { s with toks := s.toks + 1 + 1 }) : wpAny (model prog w) A (call (.builtin "len") [.ref l]) Q E s := by
  have hl' : s.heap.IsList l (vs ++ [v]).toArray := by rw [← List.push_toArray]; exact hl
  refine len_vs hl' (by rw [List.length_append, List.length_singleton]; omega) fun t => ?_
  have := h t
  rw [List.length_append, List.length_singleton]
  exact this
def FJ (w : World) (sa : Addr) (A : Nat → Addr) (T : Nat → Nat → Tok) (dk d0 d1 tl : Addr) (ys : List Value) (n2 : Nat) (i : Nat) (m : Str → Option Value) (news : List (Addr × Obj)) : Prop :=
  ∃ S R gs txs tvs saved xs c tc ts n0 n1 nt, ∃ u : Str → Option Value, Fwd w A S R gs txs tvs saved i ∧ Deck A dk d0 d1 xs ys c ∧ c ≤ 5 + 4 * (i : Int) ∧ Far dk d0 tl R ∧ m = (fun y => if y = Str.ofString "turn" then u y else if y = Str.ofString "texts" then some (.ref tl) else if y = Str.ofString "the_saved" then some (.int saved ts) else if y = Str.ofString "marker" then some (.ref (A 11)) else if y = Str.ofString "deck" then some (.ref dk) else if y = Str.ofString "buffer" then some (.ref (A 7)) else List.lookup y [(Str.ofString "script", Value.ref sa)])
    ∧ news = (dk, listOf [Value.ref d0, .ref d1, .int c tc].toArray n0) :: (d0, listOf xs.toArray n1) :: (d1, listOf ys.toArray n2) :: (tl, listOf tvs.toArray nt) :: (ledL w A T S ++ (cstL w A T ++ R))
theorem frame2 {u : Str → Option Value} {vt : Value} {tl dk sa : Addr} {saved saved2 : Int} {ts t2 : Tok} {A : Nat → Addr} : (fun y => if y = Str.ofString "the_saved" then some (.int saved2 t2) else if y = Str.ofString "turn" then some vt else if y = Str.ofString "turn" then u y else if y = Str.ofString "texts" then some (.ref tl) else if y = Str.ofString "the_saved" then some (.int saved ts) else if y = Str.ofString "marker" then some (.ref (A 11)) else if y = Str.ofString "deck" then some (.ref dk) else if y = Str.ofString "buffer" then some (.ref (A 7)) else List.lookup y [(Str.ofString "script", Value.ref sa)]) = fun y => if y = Str.ofString "turn" then some vt else if y = Str.ofString "texts" then some (.ref tl) else if y = Str.ofString "the_saved" then some (.int saved2 t2) else if y = Str.ofString "marker" then some (.ref (A 11)) else if y = Str.ofString "deck" then some (.ref dk) else if y = Str.ofString "buffer" then some (.ref (A 7)) else List.lookup y [(Str.ofString "script", Value.ref sa)] := by
  funext y
  by_cases h1 : y = Str.ofString "the_saved"
  · subst h1; rfl
  · by_cases h2 : y = Str.ofString "turn"
    · subst h2; rfl
    · simp only [if_neg h1, if_neg h2]
theorem frame1 {u : Str → Option Value} {vt : Value} {tl dk sa : Addr} {saved : Int} {ts : Tok} {A : Nat → Addr} : (fun y => if y = Str.ofString "turn" then some vt else if y = Str.ofString "turn" then u y else if y = Str.ofString "texts" then some (.ref tl) else if y = Str.ofString "the_saved" then some (.int saved ts) else if y = Str.ofString "marker" then some (.ref (A 11)) else if y = Str.ofString "deck" then some (.ref dk) else if y = Str.ofString "buffer" then some (.ref (A 7)) else List.lookup y [(Str.ofString "script", Value.ref sa)]) = fun y => if y = Str.ofString "turn" then some vt else if y = Str.ofString "texts" then some (.ref tl) else if y = Str.ofString "the_saved" then some (.int saved ts) else if y = Str.ofString "marker" then some (.ref (A 11)) else if y = Str.ofString "deck" then some (.ref dk) else if y = Str.ofString "buffer" then some (.ref (A 7)) else List.lookup y [(Str.ofString "script", Value.ref sa)] := by
  funext y
  by_cases h2 : y = Str.ofString "turn"
  · simp only [if_pos h2]
  · simp only [if_neg h2]
def TurnFin (w : World) (g' : Heap) (L' sa : Addr) (A : Nat → Addr) (T : Nat → Nat → Tok) (dk d0 d1 tl I : Addr) (it : Obj) (ys : List Value) (n2 : Nat) (i : Nat) (gn : Array GenState) (dr : Drawn) (os : OsState) (Q : Flow → Shared → Prop) : Prop :=
  ∀ m' news' all h tk, Fr g' L' h m' → News g' L' h all → (∀ p ∈ (I, it) :: news', p ∈ all) → (∀ p ∈ news', p.1 ≠ I) → FJ w sa A T dk d0 d1 tl ys n2 (i + 1) m' news' → Q .next ⟨h, gn, dr, tk, os⟩
theorem take_tx {S : St} {b : List Value} (h3 : 0 ≤ S.gs) (h4 : S.gs ≤ S.ge) (h5 : S.ge ≤ S.cells.length) (e : tx S = b) : List.take (S.cells.length - S.ge + S.gs + 1 - 1 - (1 - 1) : Int).toNat (List.drop (1 - 1 : Int).toNat (txt S.cells S.gs S.ge)) = b := by
  have l := txt_len h3 h4 h5
  rw [show (1 - 1 : Int).toNat = 0 from rfl, List.drop_zero, List.take_of_length_le (by omega)]
  exact e
namespace turn_endN
def zP (w : World) (g' h : Heap) (L' sa : Addr) (A : Nat → Addr) (T : Nat → Nat → Tok) (S2 : St) (dk d0 d1 tl I d : Addr) (it : Obj) (xs ys tvs : List Value) (n0 n1 n2 nt i tk : Nat) (gn : Array GenState) (dr : Drawn) (os : OsState) (Q : Flow → Shared → Prop) (R R' : List (Addr × Obj)) (gs2 : List Grp) (txs2 : List (List Value)) (saved2 c : Int) (tc ts : Tok) (u : Str → Option Value) (X : List (Addr × Obj)) (oa ob oc od : Obj) : Prop := ∀ {b : List Value} {zs : List Value} {m : Str → Option Value} (fin : TurnFin w g' L' sa A T dk d0 d1 tl I it ys n2 i gn dr os Q) (W2 : Fwd w A S2 ((d, listOf b.toArray 0) :: (R' ++ R)) gs2 txs2 (tvs ++ [.ref d]) saved2 (i + 1)) (D : Deck A dk d0 d1 xs ys c) (hc : c ≤ 5 + 4 * ((i + 1 : Nat) : Int)) (far : Far dk d0 tl (R ++ R')) (offI : OffAll A [(I, it)]) (iR : ∀ p ∈ R ++ R', p.1 ≠ I) (nd : NeAll d ((I, it) :: (dk, oa) :: (d0, ob) :: (d1, oc) :: (tl, od) :: X)) (i1 : I ≠ dk) (i2 : I ≠ d0) (i3 : I ≠ d1) (i4 : I ≠ tl) (ez : zs = b) (em : m = fun y => if y = Str.ofString "turn" then u y else if y = Str.ofString "texts" then some (.ref tl) else if y = Str.ofString "the_saved" then some (.int saved2 ts) else if y = Str.ofString "marker" then some (.ref (A 11)) else if y = Str.ofString "deck" then some (.ref dk) else if y = Str.ofString "buffer" then some (.ref (A 7)) else List.lookup y [(Str.ofString "script", Value.ref sa)]) (F : Fr g' L' h m) (N : News g' L' h ((d, listOf zs.toArray 0) :: (I, it) :: (dk, listOf [Value.ref d0, .ref d1, .int c tc].toArray n0) :: (d0, listOf xs.toArray n1) :: (d1, listOf ys.toArray n2) :: (tl, listOf (tvs.toArray.push (.ref d)) nt) :: (ledL w A T S2 ++ (cstL w A T ++ (R ++ R'))))), Q .next ⟨h, gn, dr, tk, os⟩
abbrev zT := (World × Heap × Heap × Addr × Addr × (Nat → Addr)) × ((Nat → Nat → Tok) × St × Addr × Addr × Addr × Addr) × (Addr × Addr × Obj × (List Value) × (List Value) × (List Value)) × (Nat × Nat × Nat × Nat × Nat × Nat) × ((Array GenState) × Drawn × OsState × (Flow → Shared → Prop) × (List (Addr × Obj)) × (List (Addr × Obj))) × ((List Grp) × (List (List Value)) × Int × Int × Tok × Tok) × ((Str → Option Value) × (List (Addr × Obj)) × Obj × Obj × Obj × Obj)
def zQ (x : zT) : Prop := zP x.1.1 x.1.2.1 x.1.2.2.1 x.1.2.2.2.1 x.1.2.2.2.2.1 x.1.2.2.2.2.2 x.2.1.1 x.2.1.2.1 x.2.1.2.2.1 x.2.1.2.2.2.1 x.2.1.2.2.2.2.1 x.2.1.2.2.2.2.2 x.2.2.1.1 x.2.2.1.2.1 x.2.2.1.2.2.1 x.2.2.1.2.2.2.1 x.2.2.1.2.2.2.2.1 x.2.2.1.2.2.2.2.2 x.2.2.2.1.1 x.2.2.2.1.2.1 x.2.2.2.1.2.2.1 x.2.2.2.1.2.2.2.1 x.2.2.2.1.2.2.2.2.1 x.2.2.2.1.2.2.2.2.2 x.2.2.2.2.1.1 x.2.2.2.2.1.2.1 x.2.2.2.2.1.2.2.1 x.2.2.2.2.1.2.2.2.1 x.2.2.2.2.1.2.2.2.2.1 x.2.2.2.2.1.2.2.2.2.2 x.2.2.2.2.2.1.1 x.2.2.2.2.2.1.2.1 x.2.2.2.2.2.1.2.2.1 x.2.2.2.2.2.1.2.2.2.1 x.2.2.2.2.2.1.2.2.2.2.1 x.2.2.2.2.2.1.2.2.2.2.2 x.2.2.2.2.2.2.1 x.2.2.2.2.2.2.2.1 x.2.2.2.2.2.2.2.2.1 x.2.2.2.2.2.2.2.2.2.1 x.2.2.2.2.2.2.2.2.2.2.1 x.2.2.2.2.2.2.2.2.2.2.2
theorem zne : Nonempty zT := by k_extra "zne"
def zX : zT := pk zne zQ
def h := zX.1.2.2.1
theorem body : zP zX.1.1 zX.1.2.1 h zX.1.2.2.2.1 zX.1.2.2.2.2.1 zX.1.2.2.2.2.2 zX.2.1.1 zX.2.1.2.1 zX.2.1.2.2.1 zX.2.1.2.2.2.1 zX.2.1.2.2.2.2.1 zX.2.1.2.2.2.2.2 zX.2.2.1.1 zX.2.2.1.2.1 zX.2.2.1.2.2.1 zX.2.2.1.2.2.2.1 zX.2.2.1.2.2.2.2.1 zX.2.2.1.2.2.2.2.2 zX.2.2.2.1.1 zX.2.2.2.1.2.1 zX.2.2.2.1.2.2.1 zX.2.2.2.1.2.2.2.1 zX.2.2.2.1.2.2.2.2.1 zX.2.2.2.1.2.2.2.2.2 zX.2.2.2.2.1.1 zX.2.2.2.2.1.2.1 zX.2.2.2.2.1.2.2.1 zX.2.2.2.2.1.2.2.2.1 zX.2.2.2.2.1.2.2.2.2.1 zX.2.2.2.2.1.2.2.2.2.2 zX.2.2.2.2.2.1.1 zX.2.2.2.2.2.1.2.1 zX.2.2.2.2.2.1.2.2.1 zX.2.2.2.2.2.1.2.2.2.1 zX.2.2.2.2.2.1.2.2.2.2.1 zX.2.2.2.2.2.1.2.2.2.2.2 zX.2.2.2.2.2.2.1 zX.2.2.2.2.2.2.2.1 zX.2.2.2.2.2.2.2.2.1 zX.2.2.2.2.2.2.2.2.2.1 zX.2.2.2.2.2.2.2.2.2.2.1 zX.2.2.2.2.2.2.2.2.2.2.2 := by
  intro b zs m fin W2 D hc far offI iR nd i1 i2 i3 i4 ez em F N
  subst ez em
  rw [List.push_toArray] at N
  have dI := nd.at (.head _)
  refine fin _ ((zX.2.1.2.2.1, listOf [Value.ref zX.2.1.2.2.2.1, .ref zX.2.1.2.2.2.2.1, .int zX.2.2.2.2.2.1.2.2.2.1 zX.2.2.2.2.2.1.2.2.2.2.1].toArray zX.2.2.2.1.1) :: (zX.2.1.2.2.2.1, listOf zX.2.2.1.2.2.2.1.toArray zX.2.2.2.1.2.1) :: (zX.2.1.2.2.2.2.1, listOf zX.2.2.1.2.2.2.2.1.toArray zX.2.2.2.1.2.2.1) :: (zX.2.1.2.2.2.2.2, listOf (zX.2.2.1.2.2.2.2.2 ++ [Value.ref zX.2.2.1.2.1]).toArray zX.2.2.2.1.2.2.2.1) :: (ledL zX.1.1 zX.1.2.2.2.2.2 zX.2.1.1 zX.2.1.2.1 ++ (cstL zX.1.1 zX.1.2.2.2.2.2 zX.2.1.1 ++ ((zX.2.2.1.2.1, listOf zs.toArray 0) :: (zX.2.2.2.2.1.2.2.2.2.2 ++ zX.2.2.2.2.1.2.2.2.2.1))))) _ h zX.2.2.2.1.2.2.2.2.2 F N ?_ ?_ ⟨zX.2.1.2.1, _, zX.2.2.2.2.2.1.1, zX.2.2.2.2.2.1.2.1, _, zX.2.2.2.2.2.1.2.2.1, zX.2.2.1.2.2.2.1, zX.2.2.2.2.2.1.2.2.2.1, zX.2.2.2.2.2.1.2.2.2.2.1, zX.2.2.2.2.2.1.2.2.2.2.2, zX.2.2.2.1.1, zX.2.2.2.1.2.1, zX.2.2.2.1.2.2.2.1, zX.2.2.2.2.2.2.1, W2, D, hc, ?_, rfl, rfl⟩
  · intro p hp
    simp only [List.mem_cons, List.mem_append] at hp ⊢
    rcases hp with h | h | h | h | h | h | h | h | h | h
    · exact .inr (.inl h)
    · exact .inr (.inr (.inl h))
    · exact .inr (.inr (.inr (.inl h)))
    · exact .inr (.inr (.inr (.inr (.inl h))))
    · exact .inr (.inr (.inr (.inr (.inr (.inl h)))))
    · exact .inr (.inr (.inr (.inr (.inr (.inr (.inl h))))))
    · exact .inr (.inr (.inr (.inr (.inr (.inr (.inr (.inl h)))))))
    · exact .inl h
    · exact .inr (.inr (.inr (.inr (.inr (.inr (.inr (.inr (.inr h))))))))
    · exact .inr (.inr (.inr (.inr (.inr (.inr (.inr (.inr (.inl h))))))))
  · intro p hp
    simp only [List.mem_cons, List.mem_append, List.not_mem_nil, or_false, cstL, ledL] at hp
    have oI : ∀ j, j < 16 → zX.1.2.2.2.2.2 j ≠ zX.2.2.1.1 := fun j hj => (offI (zX.2.2.1.1, zX.2.2.1.2.2.1) (.head _) j hj).symm
    rcases hp with rfl | rfl | rfl | rfl | hp | hp | rfl | hp | hp
    · exact i1.symm
    · exact i2.symm
    · exact i3.symm
    · exact i4.symm
    · rcases hp with rfl | rfl | rfl | rfl | rfl | rfl | rfl
      · exact oI 0 (by decide)
      · exact oI 1 (by decide)
      · exact oI 2 (by decide)
      · exact oI 3 (by decide)
      · exact oI 4 (by decide)
      · exact oI 5 (by decide)
      · exact oI 6 (by decide)
    · rcases hp with rfl | rfl | rfl | rfl | rfl | rfl | rfl | rfl | rfl
      · exact oI 7 (by decide)
      · exact oI 8 (by decide)
      · exact oI 9 (by decide)
      · exact oI 10 (by decide)
      · exact oI 11 (by decide)
      · exact oI 12 (by decide)
      · exact oI 13 (by decide)
      · exact oI 14 (by decide)
      · exact oI 15 (by decide)
    · exact dI.symm
    · exact iR p (List.mem_append_right _ hp)
    · exact iR p (List.mem_append_left _ hp)
  · intro p hp
    rcases List.mem_cons.mp hp with rfl | hp
    · exact ⟨(nd.at (.tail _ (.head _))).symm, (nd.at (.tail _ (.tail _ (.head _)))).symm, (nd.at (.tail _ (.tail _ (.tail _ (.tail _ (.head _)))))).symm⟩
    · exact far p ((List.mem_append.mp hp).elim (List.mem_append_right _) (List.mem_append_left _))
end turn_endN
theorem turn_end {w g' h L' sa A T S2 dk d0 d1 tl I d it xs ys tvs n0 n1 n2 nt i tk gn dr os Q R R' gs2 txs2 saved2 c tc ts u X oa ob oc od} : turn_endN.zP w g' h L' sa A T S2 dk d0 d1 tl I d it xs ys tvs n0 n1 n2 nt i tk gn dr os Q R R' gs2 txs2 saved2 c tc ts u X oa ob oc od := pk_all (n := turn_endN.zne) (P := turn_endN.zQ) turn_endN.body ((w, g', h, L', sa, A), (T, S2, dk, d0, d1, tl), (I, d, it, xs, ys, tvs), (n0, n1, n2, nt, i, tk), (gn, dr, os, Q, R, R'), (gs2, txs2, saved2, c, tc, ts), (u, X, oa, ob, oc, od))
theorem nd_off {w : World} {A : Nat → Addr} {T : Nat → Nat → Tok} {S : St} {d : Addr} {q1 q2 q3 q4 q5 : Addr × Obj} {RR : List (Addr × Obj)} (h : NeAll d (q1 :: q2 :: q3 :: q4 :: q5 :: (ledL w A T S ++ (cstL w A T ++ RR)))) : Off A d := by
  have k1 : ∀ p ∈ ledL w A T S, p.1 ≠ d := fun p hp => h p (.tail _ (.tail _ (.tail _ (.tail _ (.tail _ (List.mem_append_left _ hp))))))
  have k2 : ∀ p ∈ cstL w A T, p.1 ≠ d := fun p hp => h p (.tail _ (.tail _ (.tail _ (.tail _ (.tail _ (List.mem_append_right _ (List.mem_append_left _ hp)))))))
  have k : ∀ p ∈ ledL w A T S ++ cstL w A T, p.1 ≠ d := fun p hp => (List.mem_append.mp hp).elim (k1 p) (k2 p)
  have e : (ledL w A T S ++ cstL w A T).map (·.1) = (List.range 16).map A := rfl
  intro i hi q
  have : A i ∈ (ledL w A T S ++ cstL w A T).map (·.1) := by rw [e]; exact List.mem_map.mpr ⟨i, List.mem_range.mpr hi, rfl⟩
  obtain ⟨p, hp, e2⟩ := List.mem_map.mp this
  exact k p hp (e2.trans q.symm)
section
open N_L3
section
variable {w : World} {p : Program} {loose : List Str} {mean : ExcName → Option Value} {mg mb : Str → Option Value} {dp un : Nat} {gd' : Option (List Code)} {cn : Str} {cs : Scope} {a₀ : Addr} {ccd : Value} {cl₀ : List (Str × Addr)} {outer : List Env} {A₀ : Around} {base h₀ : Heap} {L : Addr} {m : Str → Option Value} {s : Shared} {Q E : Value → Shared → Prop} {news : List (Addr × Obj)}
theorem command_use {A : Nat → Addr} {T : Nat → Nat → Tok} {S : St} {dk d0 d1 tl : Addr} {ot : Obj} {xs ys : List Value} {c fresh : Int} {tc tf : Tok} {n0 n1 n2 : Nat} {R : List (Addr × Obj)} {gs : List Grp} {txs : List (List Value)} {tvs : List Value} {saved : Int} {i : Nat} {I : Addr} {it : Obj} (B : Below A₀ base outer h₀) (F : Fr h₀ L s.heap m) (X : (KK w.params).In h₀) (N : News h₀ L s.heap news) (T' : Top p loose mean mg mb h₀) (hk : cs.kind = .function)
    (W : Fwd w A S R gs txs tvs saved i) (D : Deck A dk d0 d1 xs ys c) (hc : c ≤ 700) (hi : i ≤ 6) (far : Far dk d0 tl R) (hp : At s.heap (cstL w A T)) (hd1 : s.heap.get? d1 = some (listOf ys.toArray n2)) (mR : ∀ p ∈ R, p ∈ news) (htl : (tl, ot) ∈ news) (hIt : (I, it) ∈ news) (iR : ∀ p ∈ R, p.1 ≠ I) (sub : Subl (dkL dk d0 d1 xs c tc n0 n1 ++ ledL w A T S) news) (hd : dp + 400 < recursionLimit) (hu : un + 4000 < cLine)
    (ret : ∀ v xs' c' tc' n0' n1' S' R' pt up n2' b m' op h' tk', Fr h₀ L h' m → (∀ new, Repl [dk, d0, A 0, A 1, A 2, A 3, A 4, A 5, A 6] ((dk, listOf [Value.ref d0, .ref d1, .int c' tc'].toArray n0') :: (d0, listOf xs'.toArray n1') :: ledL w A T S') news new → News h₀ L h' (new ++ R')) → OffAll A R' → OffAll A (R ++ R') → Far dk d0 tl (R ++ R') → (∀ p ∈ R ++ R', p.1 ≠ I) → AllNN xs' → xs'.length ≤ 63 → 0 ≤ c' → c' ≤ c + 3 → NewF w A (setQ S pt up (clo gs S.rs) n2') S' R' (tx S) b m' op → AllInts b → b.length ≤ (tx S).length + 3 → 0 ≤ S'.gs → S'.gs ≤ S'.ge → S'.ge ≤ S'.cells.length → S'.cells.length ≤ 200000 → Q v { s with heap := h', toks := tk' }) :
    wpAny (model pw w) (ktrTop dp un gd' cn cs L a₀ ccd cl₀ outer) (call (.ref 740) [.ref dk, .ref (A 7), .int fresh tf]) Q E s := by
  have hAR : At s.heap R := At.of_news fun p hp => N p (mR p hp)
  have L' := W.V.len
  have tb := W.tb
  have cb : S.cells.length ≤ 200000 := by have := W.cb; omega
  have hin := W.aint _ (List.mem_of_getElem? W.txt)
  refine spec_use2 (command_spec w A T S dk d0 d1 xs ys c fresh tc tf n0 n1 n2 gs.isEmpty D.hI D.o1 D.o2 D.o3 D.x1 D.x2 D.x3 D.y1 D.y2 D.y3 D.y4 D.y5 D.c0 (by omega) D.lo W.V.hkr (.inr W.kv) W.V.hnv (by have := W.rl; omega) W.V.h3 W.V.h4 W.V.h5 cb W.V.hz (by omega)) B F X N T' hk ⟨hp, hd1, W.last _ hAR⟩ sub hd hu ?_
  intro v h' tk' F' nb fr kp po
  obtain ⟨rs2, n2', S', R', vals, us, xs', c', tc', n0', n1', A1, A2, AR, f, y1', y2', c0', c1', rfl, alt⟩ := po
  have offR : OffAll A R' := fun p hp => off_of (w := w) (T := T) (S := S) (At.of_news fun q hq => N q (sub.mem q (List.mem_append_right _ hq))) ‹_› (f p hp)
  have nR : ∀ p ∈ R', NeAll p.1 news := (free_news N F AR f).2
  have hdk := sub.1
  have hd0 := sub.2.1
  have farR : Far dk d0 tl R' := fun p hp => ⟨((nR p hp).at hdk).symm, ((nR p hp).at hd0).symm, ((nR p hp).at htl).symm⟩
  have key : ∃ pt up b m op, NewF w A (setQ S pt up (clo gs S.rs) n2') S' R' (tx S) b m op ∧ AllInts b ∧ b.length ≤ (tx S).length + 3 := by
    rcases alt with ⟨st, up, codes, I, i1, i2, i3, i4, i5⟩ | ⟨st, e, ms, Dl, i1, i2, i3, i4⟩
    · have nf := newF_ins (w := w) (A := A) (S := setQ S st up (clo gs S.rs) n2') I ⟨W.V.hnv, W.V.h3, W.V.h4, W.V.h5, W.V.hz, W.V.hkr, rfl⟩ i1 i2 i3 (by omega) AR
      refine ⟨st, up, _, _, _, nf, ((hin.take _).app i5).app (hin.drop _), ?_⟩
      simp only [List.length_append, List.length_take, List.length_drop]
      show min _ (tx S).length + codes.length + ((tx S).length - _) ≤ _
      rw [Nat.add_right_comm, min_sub]
      exact Nat.add_le_add_left (by omega) _
    · obtain ⟨m', op, nf⟩ := newF_del (w := w) (A := A) (S := setQ S S.pt S.up (clo gs S.rs) n2') Dl ⟨W.V.hnv, W.V.h3, W.V.h4, W.V.h5, W.V.hz, W.V.hkr, rfl⟩ i1 i2 i3 (by omega) AR
      refine ⟨S.pt, S.up, _, m', op, nf, (hin.take _).app (hin.drop _), ?_⟩
      simp only [List.length_append, List.length_take, List.length_drop]
      show min _ (tx S).length + ((tx S).length - _) ≤ _
      exact Nat.le_trans (min_sub_le (Int.toNat_le_toNat (by omega))) (Nat.le_add_right _ _)
  obtain ⟨pt, up, b, m', op, nf, k1, k2⟩ := key
  refine ret v xs' c' tc' n0' n1' S' R' pt up n2' b m' op h' tk' F' (fun new hR => News.append' (nb _ _ (At.append A1 A2) hR) (free_news N F AR f).1) offR (fun p hp => (List.mem_append.mp hp).elim (W.off p) (offR p)) (fun p hp => (List.mem_append.mp hp).elim (far p) (farR p)) (fun p hp => (List.mem_append.mp hp).elim (iR p) fun h => ((nR p h).at hIt).symm) y1' y2' c0' c1' nf k1 k2 nf.V.h3 nf.V.h4 nf.V.h5 (by have h1 : S'.cells.length ≤ S.cells.length + 1008 := nf.len; have h2 := W.cb; omega)
end
theorem newF_lt {w : World} {A : Nat → Addr} {S S' : St} {R R' : List (Addr × Obj)} {gs : List Grp} {txs : List (List Value)} {tvs : List Value} {saved : Int} {i : Nat} {pt : Int} {up : Tok} {rs : List Value} {n2 : Nat} {a b : List Value} {m : Bool} {op : Row} (W : Fwd w A S R gs txs tvs saved i) (F : NewF w A (setQ S pt up rs n2) S' R' a b m op) : S'.sv < S'.ti := by
  have h1 : S'.ti = S.ti + 1 := F.ti
  have h2 : S'.sv = S.sv := F.sv
  have := W.inv.le
  omega
noncomputable def stmtBody : List Stmt → List Stmt
  | s :: _ => (parts s).2
  | [] => []
namespace law_turnN
abbrev zS (w : World) (p : Program) (loose : List Str) (mean : ExcName → Option Value) (mg mb : Str → Option Value) (base g' h' : Heap) (L' fa sa : Addr) (cdv : Value) (gn : Array GenState) (dr : Drawn) (tk' : Nat) (os : OsState) (Q : Flow → Shared → Prop) (E : Value → Shared → Prop) (A : Nat → Addr) (T : Nat → Nat → Tok) (S : St) (R : List (Addr × Obj)) (gs : List Grp) (txs : List (List Value)) (tvs : List Value) (saved : Int) (i : Nat) (dk d0 d1 tl I : Addr) (it : Obj) (xs ys : List Value) (c : Int) (tc ts ti : Tok) (n0 n1 n2 nt : Nat) (u : Str → Option Value) : Prop := let AA := callerA.deeper (envOf dL.1.name dL.1.scope L' fa cdv); AA.depth = callerA.depth + 1 → AA.units = callerA.units + 3 → Fr g' L' h' (fun y => if y = Str.ofString "turn" then some (.int (0 + (i : Int)) ti) else if y = Str.ofString "turn" then u y else if y = Str.ofString "texts" then some (.ref tl) else if y = Str.ofString "the_saved" then some (.int saved ts) else if y = Str.ofString "marker" then some (.ref (A 11)) else if y = Str.ofString "deck" then some (.ref dk) else if y = Str.ofString "buffer" then some (.ref (A 7)) else List.lookup y [(Str.ofString "script", Value.ref sa)]) → News g' L' h' ((I, it) :: (dk, listOf [Value.ref d0, .ref d1, .int c tc].toArray n0) :: (d0, listOf xs.toArray n1) :: (d1, listOf ys.toArray n2) :: (tl, listOf tvs.toArray nt) :: (ledL w A T S ++ (cstL w A T ++ R))) → wpAny (model pw w) AA (execs (stmtBody (dL.1.body.drop 6)) (envOf dL.1.name dL.1.scope L' fa cdv)) Q E ⟨h', gn, dr, tk', os⟩
def zP (w : World) (p : Program) (loose : List Str) (mean : ExcName → Option Value) (mg mb : Str → Option Value) (base g' h' : Heap) (L' fa sa : Addr) (cdv : Value) (gn : Array GenState) (dr : Drawn) (tk' : Nat) (os : OsState) (Q : Flow → Shared → Prop) (E : Value → Shared → Prop) (A : Nat → Addr) (T : Nat → Nat → Tok) (S : St) (R : List (Addr × Obj)) (gs : List Grp) (txs : List (List Value)) (tvs : List Value) (saved : Int) (i : Nat) (dk d0 d1 tl I : Addr) (it : Obj) (xs ys : List Value) (c : Int) (tc ts ti : Tok) (n0 n1 n2 nt : Nat) (u : Str → Option Value) : Prop := ∀ (B' : Below callerA base [] g') (X' : (KK w.params).In g') (T' : Top p loose mean mg mb g') (hA : At g' []) (hd : callerA.depth + 600 < recursionLimit) (hu : callerA.units + 9000 < cLine) (W : Fwd w A S R gs txs tvs saved i) (D : Deck A dk d0 d1 xs ys c) (hc : c ≤ 5 + 4 * (i : Int)) (hi : i ≤ 6) (far : Far dk d0 tl R) (iR : ∀ p ∈ R, p.1 ≠ I) (oI : ∀ i, i < 16 → I ≠ A i) (ot : ∀ i, i < 16 → tl ≠ A i) (i1 : I ≠ dk) (i2 : I ≠ d0) (i3 : I ≠ d1) (i4 : I ≠ tl) (t1 : tl ≠ dk) (t2 : tl ≠ d0) (t3 : tl ≠ d1) (fin : TurnFin w g' L' sa A T dk d0 d1 tl I it ys n2 i gn dr os Q), zS w p loose mean mg mb base g' h' L' fa sa cdv gn dr tk' os Q E A T S R gs txs tvs saved i dk d0 d1 tl I it xs ys c tc ts ti n0 n1 n2 nt u
abbrev zT := (World × Program × (List Str) × (ExcName → Option Value) × (Str → Option Value) × (Str → Option Value) × Heap) × (Heap × Heap × Addr × Addr × Addr × Value × (Array GenState)) × (Drawn × Nat × OsState × (Flow → Shared → Prop) × (Value → Shared → Prop) × (Nat → Addr) × (Nat → Nat → Tok)) × (St × (List (Addr × Obj)) × (List Grp) × (List (List Value)) × (List Value) × Int × Nat) × (Addr × Addr × Addr × Addr × Addr × Obj × (List Value)) × ((List Value) × Int × Tok × Tok × Tok × Nat × Nat) × (Nat × Nat × (Str → Option Value))
def zQ (x : zT) : Prop := zP x.1.1 x.1.2.1 x.1.2.2.1 x.1.2.2.2.1 x.1.2.2.2.2.1 x.1.2.2.2.2.2.1 x.1.2.2.2.2.2.2 x.2.1.1 x.2.1.2.1 x.2.1.2.2.1 x.2.1.2.2.2.1 x.2.1.2.2.2.2.1 x.2.1.2.2.2.2.2.1 x.2.1.2.2.2.2.2.2 x.2.2.1.1 x.2.2.1.2.1 x.2.2.1.2.2.1 x.2.2.1.2.2.2.1 x.2.2.1.2.2.2.2.1 x.2.2.1.2.2.2.2.2.1 x.2.2.1.2.2.2.2.2.2 x.2.2.2.1.1 x.2.2.2.1.2.1 x.2.2.2.1.2.2.1 x.2.2.2.1.2.2.2.1 x.2.2.2.1.2.2.2.2.1 x.2.2.2.1.2.2.2.2.2.1 x.2.2.2.1.2.2.2.2.2.2 x.2.2.2.2.1.1 x.2.2.2.2.1.2.1 x.2.2.2.2.1.2.2.1 x.2.2.2.2.1.2.2.2.1 x.2.2.2.2.1.2.2.2.2.1 x.2.2.2.2.1.2.2.2.2.2.1 x.2.2.2.2.1.2.2.2.2.2.2 x.2.2.2.2.2.1.1 x.2.2.2.2.2.1.2.1 x.2.2.2.2.2.1.2.2.1 x.2.2.2.2.2.1.2.2.2.1 x.2.2.2.2.2.1.2.2.2.2.1 x.2.2.2.2.2.1.2.2.2.2.2.1 x.2.2.2.2.2.1.2.2.2.2.2.2 x.2.2.2.2.2.2.1 x.2.2.2.2.2.2.2.1 x.2.2.2.2.2.2.2.2
theorem zne : Nonempty zT := by k_extra "zne"
def zX : zT := pk zne zQ
def p := zX.1.2.1
def i := zX.2.2.2.1.2.2.2.2.2.2
def ti := zX.2.2.2.2.2.1.2.2.2.2.1
noncomputable abbrev AA : Around := callerA.deeper (envOf dL.1.name dL.1.scope zX.2.1.2.2.1 zX.2.1.2.2.2.1 zX.2.1.2.2.2.2.2.1)
noncomputable def zK1 : RedF (zP zX.1.1 p zX.1.2.2.1 zX.1.2.2.2.1 zX.1.2.2.2.2.1 zX.1.2.2.2.2.2.1 zX.1.2.2.2.2.2.2 zX.2.1.1 zX.2.1.2.1 zX.2.1.2.2.1 zX.2.1.2.2.2.1 zX.2.1.2.2.2.2.1 zX.2.1.2.2.2.2.2.1 zX.2.1.2.2.2.2.2.2 zX.2.2.1.1 zX.2.2.1.2.1 zX.2.2.1.2.2.1 zX.2.2.1.2.2.2.1 zX.2.2.1.2.2.2.2.1 zX.2.2.1.2.2.2.2.2.1 zX.2.2.1.2.2.2.2.2.2 zX.2.2.2.1.1 zX.2.2.2.1.2.1 zX.2.2.2.1.2.2.1 zX.2.2.2.1.2.2.2.1 zX.2.2.2.1.2.2.2.2.1 zX.2.2.2.1.2.2.2.2.2.1 i zX.2.2.2.2.1.1 zX.2.2.2.2.1.2.1 zX.2.2.2.2.1.2.2.1 zX.2.2.2.2.1.2.2.2.1 zX.2.2.2.2.1.2.2.2.2.1 zX.2.2.2.2.1.2.2.2.2.2.1 zX.2.2.2.2.1.2.2.2.2.2.2 zX.2.2.2.2.2.1.1 zX.2.2.2.2.2.1.2.1 zX.2.2.2.2.2.1.2.2.1 zX.2.2.2.2.2.1.2.2.2.1 ti zX.2.2.2.2.2.1.2.2.2.2.2.1 zX.2.2.2.2.2.1.2.2.2.2.2.2 zX.2.2.2.2.2.2.1 zX.2.2.2.2.2.2.2.1 zX.2.2.2.2.2.2.2.2) (List Value → Int → Tok → Nat → Nat → St → List (Addr × Obj) → Int → Tok → Nat → List Value → Bool → Row → Heap → Nat → Prop) (fun R => ∀ a0 a1 a2 a3 a4 a5 a6 a7 a8 a9 a10 a11 a12 a13 a14, R a0 a1 a2 a3 a4 a5 a6 a7 a8 a9 a10 a11 a12 a13 a14) := by
  apply Subtype.mk; intro H
  intro B' X' T' hA hd hu W D hc hi far iR oI ot i1 i2 i3 i4 t1 t2 t3 fin
  delta zS
  intro AA0; have eAA : AA0 = AA := rfl; clear_value AA0; subst eAA
  intro dA uA F' N'
  have off := W.off
  have htv : zX.2.2.2.1.2.2.2.2.1.length = i + 1 := W.vl.trans W.tl
  have offI : OffAll zX.2.2.1.2.2.2.2.2.1 [(zX.2.2.2.2.1.2.2.2.2.1, zX.2.2.2.2.1.2.2.2.2.2.1)] := fun p hp => by rw [List.mem_singleton.mp hp]; exact oI
  have hI := D.hI
  have lo := D.lo
  have y3 := D.y3
  have y4 := D.y4
  have y5 := D.y5
  have x1 := D.x1
  have x2 := D.x2
  have x3 := D.x3
  have o1 : ∀ i, i < 16 → zX.2.2.2.2.1.1 ≠ zX.2.2.1.2.2.2.2.2.1 i := D.o1
  have o2 : ∀ i, i < 16 → zX.2.2.2.2.1.2.1 ≠ zX.2.2.1.2.2.2.2.2.1 i := D.o2
  have o3 : ∀ i, i < 16 → zX.2.2.2.2.1.2.2.1 ≠ zX.2.2.1.2.2.2.2.2.1 i := D.o3
  dsimp only [ledL, cstL, List.cons_append, List.nil_append] at N'
  show wpAny (model pw zX.1.1) AA (execs (stmtBody (List.drop 6 _)) _) zX.2.2.1.2.2.2.1 zX.2.2.1.2.2.2.2.1 _
  (try dsimp only [List.drop, stmtBody, parts])
  (try k_fold)
  iterate 21 (focus (first | (k_unfold; (try dsimp only)) | (k_end; wrow_close) | walk1 | (dsimp only; walk1) | (leave1; (try dsimp only))))
  rename_i zy1_1 zy1_2 zy1_3 zy1_4 zy1_5 zy1_6 zy1_7 zy1_8 zy1_9 zy1_10 zy1_11 zy1_12 zy1_13 zy1_14 zy1_15 zy1_16 zy1_17 zy1_18 zy1_19 zy1_20 zy1_21 zy1_22 zy1_23 zy1_24 zy1_25 zy1_26 zy1_27 zy1_28 zy1_29 zy1_30 zy1_31 zy1_32 zy1_33 zy1_34 zy1_35 zy1_36 zy1_37
  revert B' X' T' hA hd hu W D hc hi far iR oI ot i1 i2 i3 i4 t1 t2 t3 fin dA uA off htv offI hI lo y3 y4 y5 x1 x2 x3 o1 o2 o3 zy1_21 zy1_22 zy1_23 zy1_24 zy1_25 zy1_26 zy1_27 zy1_28 zy1_29 zy1_30 zy1_31 zy1_32 zy1_33 zy1_34 zy1_35 zy1_36 zy1_37
  revert zy1_1 zy1_2 zy1_3 zy1_4 qk ek
  exact H.h zy1_6 zy1_7 zy1_8 zy1_9 zy1_10 zy1_11 zy1_12 zy1_13 zy1_14 zy1_15 zy1_16 zy1_17 zy1_18 zy1_19 zy1_20
theorem zN1 : Nonempty (((List Value) × Int × Tok × Nat) × (Nat × St × (List (Addr × Obj)) × Int) × (Tok × Nat × (List Value) × Bool) × (Row × Heap × Nat)) := by k_extra "zne"
def zC1 : ((List Value) × Int × Tok × Nat) × (Nat × St × (List (Addr × Obj)) × Int) × (Tok × Nat × (List Value) × Bool) × (Row × Heap × Nat) := pk zN1 (fun x => zK1.1 x.1.1 x.1.2.1 x.1.2.2.1 x.1.2.2.2 x.2.1.1 x.2.1.2.1 x.2.1.2.2.1 x.2.1.2.2.2 x.2.2.1.1 x.2.2.1.2.1 x.2.2.1.2.2.1 x.2.2.1.2.2.2 x.2.2.2.1 x.2.2.2.2.1 x.2.2.2.2.2)
theorem body2 : zK1.1 zC1.1.1 zC1.1.2.1 zC1.1.2.2.1 zC1.1.2.2.2 zC1.2.1.1 zC1.2.1.2.1 zC1.2.1.2.2.1 zC1.2.1.2.2.2 zC1.2.2.1.1 zC1.2.2.1.2.1 zC1.2.2.1.2.2.1 zC1.2.2.1.2.2.2 zC1.2.2.2.1 zC1.2.2.2.2.1 zC1.2.2.2.2.2 := by
  delta zK1; dsimp only
  intro B' X' T' hA hd hu W D hc hi far iR oI ot i1 i2 i3 i4 t1 t2 t3 fin dA uA off htv offI hI lo y3 y4 y5 x1 x2 x3 o1 o2 o3 zy1_21 zy1_22 zy1_23 zy1_24 zy1_25 zy1_26 zy1_27 zy1_28 zy1_29 zy1_30 zy1_31 zy1_32 zy1_33 zy1_34 zy1_35 zy1_36 zy1_37
  k_steps
  all_goals (try dsimp only)
  · refine' turn_end (S2 := { (?Sx : St) with sv := (?Sx : St).ti, us := ?ux }) fin (Fwd.save (Fwd.cmd W ?nf ?o1 ?o2 ?o3 ?o4) ?hm) ⟨D.hI, D.lo, D.x1, D.x2, D.x3, D.o1, D.o2, D.o3, ?y1, ?y2, D.y3, D.y4, D.y5, ?y6⟩ ?hc ?far offI ?iR ?nd i1 i2 i3 i4 ?ez ?em ?F ?N
    case N => assumption
    case F => assumption
    case nf => assumption
    case o1 => assumption
    case nd => assumption
    case o2 => exact nd_off (by assumption)
    case o3 => assumption
    case o4 => assumption
    case hm => exact newF_lt W (by assumption)
    case y1 => assumption
    case y2 => assumption
    case y6 => assumption
    case hc => omega
    case far => assumption
    case iR => assumption
    case ez => exact take_tx (by assumption) (by assumption) (by assumption) (NewF.tx (by assumption))
    case em => rw [show ((i + 1 : Nat) : Int) = (zX.2.2.2.1.2.2.2.2.1.length : Int) + 1 - 1 by omega]; exact frame2
  · refine' turn_end fin (Fwd.cmd W ?nf ?o1 ?o2 ?o3 ?o4) ⟨D.hI, D.lo, D.x1, D.x2, D.x3, D.o1, D.o2, D.o3, ?y1, ?y2, D.y3, D.y4, D.y5, ?y6⟩ ?hc ?far offI ?iR ?nd i1 i2 i3 i4 ?ez ?em ?F ?N
    case N => assumption
    case F => assumption
    case nf => assumption
    case o1 => assumption
    case nd => assumption
    case o2 => exact nd_off (by assumption)
    case o3 => assumption
    case o4 => assumption
    case y1 => assumption
    case y2 => assumption
    case y6 => assumption
    case hc => omega
    case far => assumption
    case iR => assumption
    case ez => exact take_tx (by assumption) (by assumption) (by assumption) (NewF.tx (by assumption))
    case em => exact frame1
theorem body : zP zX.1.1 p zX.1.2.2.1 zX.1.2.2.2.1 zX.1.2.2.2.2.1 zX.1.2.2.2.2.2.1 zX.1.2.2.2.2.2.2 zX.2.1.1 zX.2.1.2.1 zX.2.1.2.2.1 zX.2.1.2.2.2.1 zX.2.1.2.2.2.2.1 zX.2.1.2.2.2.2.2.1 zX.2.1.2.2.2.2.2.2 zX.2.2.1.1 zX.2.2.1.2.1 zX.2.2.1.2.2.1 zX.2.2.1.2.2.2.1 zX.2.2.1.2.2.2.2.1 zX.2.2.1.2.2.2.2.2.1 zX.2.2.1.2.2.2.2.2.2 zX.2.2.2.1.1 zX.2.2.2.1.2.1 zX.2.2.2.1.2.2.1 zX.2.2.2.1.2.2.2.1 zX.2.2.2.1.2.2.2.2.1 zX.2.2.2.1.2.2.2.2.2.1 i zX.2.2.2.2.1.1 zX.2.2.2.2.1.2.1 zX.2.2.2.2.1.2.2.1 zX.2.2.2.2.1.2.2.2.1 zX.2.2.2.2.1.2.2.2.2.1 zX.2.2.2.2.1.2.2.2.2.2.1 zX.2.2.2.2.1.2.2.2.2.2.2 zX.2.2.2.2.2.1.1 zX.2.2.2.2.2.1.2.1 zX.2.2.2.2.2.1.2.2.1 zX.2.2.2.2.2.1.2.2.2.1 ti zX.2.2.2.2.2.1.2.2.2.2.2.1 zX.2.2.2.2.2.1.2.2.2.2.2.2 zX.2.2.2.2.2.2.1 zX.2.2.2.2.2.2.2.1 zX.2.2.2.2.2.2.2.2 := zK1.2 ⟨fun a0 a1 a2 a3 a4 a5 a6 a7 a8 a9 a10 a11 a12 a13 a14 => pk_all (n := zN1) (P := fun x => zK1.1 x.1.1 x.1.2.1 x.1.2.2.1 x.1.2.2.2 x.2.1.1 x.2.1.2.1 x.2.1.2.2.1 x.2.1.2.2.2 x.2.2.1.1 x.2.2.1.2.1 x.2.2.1.2.2.1 x.2.2.1.2.2.2 x.2.2.2.1 x.2.2.2.2.1 x.2.2.2.2.2) body2 ((a0, a1, a2, a3), (a4, a5, a6, a7), (a8, a9, a10, a11), (a12, a13, a14))⟩
end law_turnN
theorem law_turn (w : World) (p : Program) (loose : List Str) (mean : ExcName → Option Value) (mg mb : Str → Option Value) (base g' h' : Heap) (L' fa sa : Addr) (cdv : Value) (gn : Array GenState) (dr : Drawn) (tk' : Nat) (os : OsState) (Q : Flow → Shared → Prop) (E : Value → Shared → Prop) (B' : Below callerA base [] g') (X' : (KK w.params).In g') (T' : Top p loose mean mg mb g') (hA : At g' []) (hd : callerA.depth + 600 < recursionLimit) (hu : callerA.units + 9000 < cLine) (A : Nat → Addr) (T : Nat → Nat → Tok) (S : St) (R : List (Addr × Obj)) (gs : List Grp) (txs : List (List Value)) (tvs : List Value) (saved : Int) (i : Nat) (dk d0 d1 tl I : Addr) (it : Obj) (xs ys : List Value) (c : Int) (tc ts ti : Tok) (n0 n1 n2 nt : Nat) (u : Str → Option Value) (W : Fwd w A S R gs txs tvs saved i) (D : Deck A dk d0 d1 xs ys c) (hc : c ≤ 5 + 4 * (i : Int)) (hi : i ≤ 6) (far : Far dk d0 tl R) (iR : ∀ p ∈ R, p.1 ≠ I) (oI : ∀ i, i < 16 → I ≠ A i) (ot : ∀ i, i < 16 → tl ≠ A i) (i1 : I ≠ dk) (i2 : I ≠ d0) (i3 : I ≠ d1) (i4 : I ≠ tl) (t1 : tl ≠ dk) (t2 : tl ≠ d0) (t3 : tl ≠ d1) (fin : TurnFin w g' L' sa A T dk d0 d1 tl I it ys n2 i gn dr os Q) : law_turnN.zS w p loose mean mg mb base g' h' L' fa sa cdv gn dr tk' os Q E A T S R gs txs tvs saved i dk d0 d1 tl I it xs ys c tc ts ti n0 n1 n2 nt u := pk_all (n := law_turnN.zne) (P := law_turnN.zQ) law_turnN.body ((w, p, loose, mean, mg, mb, base), (g', h', L', fa, sa, cdv, gn), (dr, tk', os, Q, E, A, T), (S, R, gs, txs, tvs, saved, i), (dk, d0, d1, tl, I, it, xs), (ys, c, tc, ts, ti, n0, n1), (n2, nt, u)) B' X' T' hA hd hu W D hc hi far iR oI ot i1 i2 i3 i4 t1 t2 t3 fin
end
theorem unrPost_mono {h₀ : Heap} {L I : Addr} {it : Obj} {s₁ s₂ : Shared} {rest rest' : (Str → Option Value) → List (Addr × Obj) → Prop} {Q : Flow → Shared → Prop} {f : Flow} (k : ∀ m news, rest m news → rest' m news) (H : UnrPost h₀ L s₁ I it rest Q f s₂) : UnrPost h₀ L s₁ I it rest' Q f s₂ := by
  have e : UnrEnd h₀ L s₁ I it rest s₂ → UnrEnd h₀ L s₁ I it rest' s₂ := by
    rintro ⟨h', tk, m', news', a, b, c, d, r⟩
    exact ⟨h', tk, m', news', a, b, c, d, k _ _ r⟩
  cases f with
  | ret v => exact H
  | brk => exact H
  | next => exact e H
  | cont => exact e H
theorem range_ind {prog : Program} {w : World} {A : Around} {E : Value → Shared → Prop} {h₀ : Heap} {env : Env} {x : Str} {body : List Stmt} {Q : Flow → Shared → Prop} {s : Shared} {I : Addr} {a : Int} {n : Nat} (Inv : Nat → (Str → Option Value) → List (Addr × Obj) → Prop)
    (fin : ∀ m news, Inv n m news → ∀ h tk, Fr h₀ env.locals h m → News h₀ env.locals h news → Q .next { s with heap := h, toks := tk })
    (step : ∀ i m news, i < n → Inv i m news → ∀ t h tk, Fr h₀ env.locals h (fun y => if y = x then some (.int (a + (i : Int)) t) else m y) → News h₀ env.locals h ((I, itR (a + ((i + 1 : Nat) : Int)) ((n : Int) - ((i + 1 : Nat) : Int))) :: news) →
      wpAny (model prog w) A (execs body env) (UnrPost h₀ env.locals { s with heap := h, toks := tk } I (itR (a + ((i + 1 : Nat) : Int)) ((n : Int) - ((i + 1 : Nat) : Int))) (Inv (i + 1)) Q) E { s with heap := h, toks := tk }) :
    ∀ k i m news, k + i = n → Inv i m news → RangeRest prog w A E h₀ env x body Q s I a n k i m news := by
  intro k
  induction k with
  | zero => intro i m news e H; exact RangeRest.zero (fin _ _ (by rw [← e, Nat.zero_add]; exact H))
  | succ k ih =>
    intro i m news e H
    refine RangeRest.succ fun t h tk F N => ?_
    exact wpAny_mono (step i m news (by omega) H t h tk F N) (fun f s₂ p => unrPost_mono (fun m' news' r => ih (i + 1) m' news' (by omega) r) p) fun _ _ z => z
namespace law_loopN
def zP (w : World) (p : Program) (loose : List Str) (mean : ExcName → Option Value) (mg mb : Str → Option Value) (base g' h' : Heap) (L' fa sa : Addr) (cdv : Value) (gn : Array GenState) (dr : Drawn) (tk' : Nat) (os : OsState) (Q : Flow → Shared → Prop) (E : Value → Shared → Prop) (A : Nat → Addr) (T : Nat → Nat → Tok) (dk d0 d1 tl : Addr) (ys : List Value) (n2 : Nat) (r : Addr) (b₀ : Int) (t₀ u₀ v₀ : Tok) (m : Str → Option Value) (news : List (Addr × Obj)) : Prop := ∀ (B' : Below callerA base [] g') (X' : (KK w.params).In g') (T' : Top p loose mean mg mb g') (hA : At g' []) (hd : callerA.depth + 600 < recursionLimit) (hu : callerA.units + 9000 < cLine) (oA : ∀ i, i < 16 → tl ≠ A i) (t1 : tl ≠ dk) (t2 : tl ≠ d0) (t3 : tl ≠ d1), let AA := callerA.deeper (envOf dL.1.name dL.1.scope L' fa cdv); AA.depth = callerA.depth + 1 → AA.units = callerA.units + 3 → IsRange h' r 0 b₀ 1 t₀ u₀ v₀ → 0 ≤ b₀ → b₀ ≤ 6 → FJ w sa A T dk d0 d1 tl ys n2 0 m news → Fr g' L' h' m → News g' L' h' news → (∀ m news h tk, FJ w sa A T dk d0 d1 tl ys n2 b₀.toNat m news → Fr g' L' h m → News g' L' h news → Q .next ⟨h, gn, dr, tk, os⟩) → wpAny (model pw w) AA (pyIter (.ref r)) (fun it s₂ => LoopAtV pw w AA g' (envOf dL.1.name dL.1.scope L' fa cdv) (Str.ofString "turn") (stmtBody (dL.1.body.drop 6)) Q E it s₂) E ⟨h', gn, dr, tk', os⟩
abbrev zT := (World × Program × (List Str) × (ExcName → Option Value) × (Str → Option Value) × (Str → Option Value)) × (Heap × Heap × Heap × Addr × Addr × Addr) × (Value × (Array GenState) × Drawn × Nat × OsState × (Flow → Shared → Prop)) × ((Value → Shared → Prop) × (Nat → Addr) × (Nat → Nat → Tok) × Addr × Addr × Addr) × (Addr × (List Value) × Nat × Addr × Int × Tok) × (Tok × Tok × (Str → Option Value) × (List (Addr × Obj)))
def zQ (x : zT) : Prop := zP x.1.1 x.1.2.1 x.1.2.2.1 x.1.2.2.2.1 x.1.2.2.2.2.1 x.1.2.2.2.2.2 x.2.1.1 x.2.1.2.1 x.2.1.2.2.1 x.2.1.2.2.2.1 x.2.1.2.2.2.2.1 x.2.1.2.2.2.2.2 x.2.2.1.1 x.2.2.1.2.1 x.2.2.1.2.2.1 x.2.2.1.2.2.2.1 x.2.2.1.2.2.2.2.1 x.2.2.1.2.2.2.2.2 x.2.2.2.1.1 x.2.2.2.1.2.1 x.2.2.2.1.2.2.1 x.2.2.2.1.2.2.2.1 x.2.2.2.1.2.2.2.2.1 x.2.2.2.1.2.2.2.2.2 x.2.2.2.2.1.1 x.2.2.2.2.1.2.1 x.2.2.2.2.1.2.2.1 x.2.2.2.2.1.2.2.2.1 x.2.2.2.2.1.2.2.2.2.1 x.2.2.2.2.1.2.2.2.2.2 x.2.2.2.2.2.1 x.2.2.2.2.2.2.1 x.2.2.2.2.2.2.2.1 x.2.2.2.2.2.2.2.2
theorem zne : Nonempty zT := by k_extra "zne"
def zX : zT := pk zne zQ
def p := zX.1.2.1
def m := zX.2.2.2.2.2.2.2.1
def news := zX.2.2.2.2.2.2.2.2
theorem body : zP zX.1.1 p zX.1.2.2.1 zX.1.2.2.2.1 zX.1.2.2.2.2.1 zX.1.2.2.2.2.2 zX.2.1.1 zX.2.1.2.1 zX.2.1.2.2.1 zX.2.1.2.2.2.1 zX.2.1.2.2.2.2.1 zX.2.1.2.2.2.2.2 zX.2.2.1.1 zX.2.2.1.2.1 zX.2.2.1.2.2.1 zX.2.2.1.2.2.2.1 zX.2.2.1.2.2.2.2.1 zX.2.2.1.2.2.2.2.2 zX.2.2.2.1.1 zX.2.2.2.1.2.1 zX.2.2.2.1.2.2.1 zX.2.2.2.1.2.2.2.1 zX.2.2.2.1.2.2.2.2.1 zX.2.2.2.1.2.2.2.2.2 zX.2.2.2.2.1.1 zX.2.2.2.2.1.2.1 zX.2.2.2.2.1.2.2.1 zX.2.2.2.2.1.2.2.2.1 zX.2.2.2.2.1.2.2.2.2.1 zX.2.2.2.2.1.2.2.2.2.2 zX.2.2.2.2.2.1 zX.2.2.2.2.2.2.1 m news := by
  intro B' X' T' hA hd hu oA t1 t2 t3
  intro AA dA uA hr hb0 hb6 J0 F N done
  have hsm : Builtin.Range.small 0 zX.2.2.2.2.1.2.2.2.2.1 1 = true := small_one (by decide) (by decide) (Int.le_trans (by decide) hb0) (Int.lt_of_le_of_lt hb6 (by decide))
  refine iter_rangeUnr (env := envOf dL.1.name dL.1.scope zX.2.1.2.2.2.1 zX.2.1.2.2.2.2.1 zX.2.2.1.1) (n := zX.2.2.2.2.1.2.2.2.2.1.toNat) (by rfl) hr hsm (by rw [rangeSize_nat]; congr 1; omega) F N fun I hI => ?_
  refine range_ind (fun i m news => FJ zX.1.1 zX.2.1.2.2.2.2.2 zX.2.2.2.1.2.1 zX.2.2.2.1.2.2.1 zX.2.2.2.1.2.2.2.1 zX.2.2.2.1.2.2.2.2.1 zX.2.2.2.1.2.2.2.2.2 zX.2.2.2.2.1.1 zX.2.2.2.2.1.2.1 zX.2.2.2.2.1.2.2.1 i m news ∧ ∀ p ∈ news, p.1 ≠ I) (fun m news J h tk F N => done m news h tk J.1 F N) ?_ _ 0 m news (Nat.add_zero _) ⟨J0, fun p hp => Nat.ne_of_lt (hI p hp)⟩
  rintro i m news hi ⟨⟨S, R, gs, txs, tvs, saved, xs, c, tc, ts, n0, n1, nt, u, W, D, hc, far, rfl, rfl⟩, off⟩ t h tk F N
  have oI : ∀ j, j < 16 → I ≠ zX.2.2.2.1.2.1 j := fun j hj q => by
    have e : (ledL zX.1.1 zX.2.2.2.1.2.1 zX.2.2.2.1.2.2.1 S ++ cstL zX.1.1 zX.2.2.2.1.2.1 zX.2.2.2.1.2.2.1).map (·.1) = (List.range 16).map zX.2.2.2.1.2.1 := rfl
    have : zX.2.2.2.1.2.1 j ∈ (ledL zX.1.1 zX.2.2.2.1.2.1 zX.2.2.2.1.2.2.1 S ++ cstL zX.1.1 zX.2.2.2.1.2.1 zX.2.2.2.1.2.2.1).map (·.1) := by rw [e]; exact List.mem_map.mpr ⟨j, List.mem_range.mpr hj, rfl⟩
    obtain ⟨p, hp, e2⟩ := List.mem_map.mp this
    refine off p ?_ (e2.trans q.symm)
    refine .tail _ (.tail _ (.tail _ (.tail _ ?_)))
    rcases List.mem_append.mp hp with hp | hp
    · exact List.mem_append_left _ hp
    · exact List.mem_append_right _ (List.mem_append_left _ hp)
  refine law_turn zX.1.1 p zX.1.2.2.1 zX.1.2.2.2.1 zX.1.2.2.2.2.1 zX.1.2.2.2.2.2 zX.2.1.1 zX.2.1.2.1 h zX.2.1.2.2.2.1 zX.2.1.2.2.2.2.1 zX.2.1.2.2.2.2.2 zX.2.2.1.1 zX.2.2.1.2.1 zX.2.2.1.2.2.1 tk zX.2.2.1.2.2.2.2.1 _ zX.2.2.2.1.1 B' X' T' hA hd hu zX.2.2.2.1.2.1 zX.2.2.2.1.2.2.1 S R gs txs tvs saved i zX.2.2.2.1.2.2.2.1 zX.2.2.2.1.2.2.2.2.1 zX.2.2.2.1.2.2.2.2.2 zX.2.2.2.2.1.1 I _ xs zX.2.2.2.2.1.2.1 c tc ts t n0 n1 zX.2.2.2.2.1.2.2.1 nt u W D hc (by omega) far (fun p hp => off p (.tail _ (.tail _ (.tail _ (.tail _ (List.mem_append_right _ (List.mem_append_right _ hp))))))) oI oA (off _ (.head _)).symm (off _ (.tail _ (.head _))).symm (off _ (.tail _ (.tail _ (.head _)))).symm (off _ (.tail _ (.tail _ (.tail _ (.head _))))).symm t1 t2 t3 ?_ dA uA F N
  intro m' news' all h2 tk2 F2 N2 sub off2 J2
  exact ⟨h2, tk2, m', news', rfl, F2, fun p hp => N2 p (sub p hp), off2, J2, off2⟩
end law_loopN
theorem law_loop (w : World) (p : Program) (loose : List Str) (mean : ExcName → Option Value) (mg mb : Str → Option Value) (base g' h' : Heap) (L' fa sa : Addr) (cdv : Value) (gn : Array GenState) (dr : Drawn) (tk' : Nat) (os : OsState) (Q : Flow → Shared → Prop) (E : Value → Shared → Prop)
    (B' : Below callerA base [] g') (X' : (KK w.params).In g') (T' : Top p loose mean mg mb g') (hA : At g' []) (hd : callerA.depth + 600 < recursionLimit) (hu : callerA.units + 9000 < cLine)
    (A : Nat → Addr) (T : Nat → Nat → Tok) (dk d0 d1 tl : Addr) (ys : List Value) (n2 : Nat) (oA : ∀ i, i < 16 → tl ≠ A i) (t1 : tl ≠ dk) (t2 : tl ≠ d0) (t3 : tl ≠ d1) {r : Addr} {b₀ : Int} {t₀ u₀ v₀ : Tok} {m : Str → Option Value} {news : List (Addr × Obj)} : let AA := callerA.deeper (envOf dL.1.name dL.1.scope L' fa cdv); AA.depth = callerA.depth + 1 → AA.units = callerA.units + 3 → IsRange h' r 0 b₀ 1 t₀ u₀ v₀ → 0 ≤ b₀ → b₀ ≤ 6 → FJ w sa A T dk d0 d1 tl ys n2 0 m news → Fr g' L' h' m → News g' L' h' news → (∀ m news h tk, FJ w sa A T dk d0 d1 tl ys n2 b₀.toNat m news → Fr g' L' h m → News g' L' h news → Q .next ⟨h, gn, dr, tk, os⟩) → wpAny (model pw w) AA (pyIter (.ref r)) (fun it s₂ => LoopAtV pw w AA g' (envOf dL.1.name dL.1.scope L' fa cdv) (Str.ofString "turn") (stmtBody (dL.1.body.drop 6)) Q E it s₂) E ⟨h', gn, dr, tk', os⟩ := pk_all (n := law_loopN.zne) (P := law_loopN.zQ) law_loopN.body ((w, p, loose, mean, mg, mb), (base, g', h', L', fa, sa), (cdv, gn, dr, tk', os, Q), (E, A, T, dk, d0, d1), (tl, ys, n2, r, b₀, t₀), (u₀, v₀, m, news)) B' X' T' hA hd hu oA t1 t2 t3
section
open N_L5
noncomputable def forIter : List Stmt → PySem.Expr
  | s :: _ => (parts s).1
  | [] => .Constant .none 0 default
theorem frame0 {tl dk sa : Addr} {saved : Int} {ts : Tok} {A : Nat → Addr} : (fun y => if y = Str.ofString "texts" then some (.ref tl) else if y = Str.ofString "the_saved" then some (.int saved ts) else if y = Str.ofString "marker" then some (.ref (A 11)) else if y = Str.ofString "deck" then some (.ref dk) else if y = Str.ofString "buffer" then some (.ref (A 7)) else List.lookup y [(Str.ofString "script", Value.ref sa)]) = fun y => if y = Str.ofString "turn" then (Option.none : Option Value) else if y = Str.ofString "texts" then some (.ref tl) else if y = Str.ofString "the_saved" then some (.int saved ts) else if y = Str.ofString "marker" then some (.ref (A 11)) else if y = Str.ofString "deck" then some (.ref dk) else if y = Str.ofString "buffer" then some (.ref (A 7)) else List.lookup y [(Str.ofString "script", Value.ref sa)] := by
  funext y
  by_cases h2 : y = Str.ofString "turn"
  · subst h2; rfl
  · simp only [if_neg h2]
namespace law_forN
abbrev zS (w : World) (p : Program) (loose : List Str) (mean : ExcName → Option Value) (mg mb : Str → Option Value) (base g' h' : Heap) (L' fa sa : Addr) (cdv : Value) (gn : Array GenState) (dr : Drawn) (tk' : Nat) (os : OsState) (Q : Flow → Shared → Prop) (E : Value → Shared → Prop) (A : Nat → Addr) (T : Nat → Nat → Tok) (S : St) (R : List (Addr × Obj)) (gs : List Grp) (txs : List (List Value)) (tvs : List Value) (saved : Int) (dk d0 d1 tl : Addr) (xs ys : List Value) (c : Int) (tc ts : Tok) (n0 n1 n2 nt : Nat) : Prop := let AA := callerA.deeper (envOf dL.1.name dL.1.scope L' fa cdv); AA.depth = callerA.depth + 1 → AA.units = callerA.units + 3 → Fr g' L' h' (fun y => if y = Str.ofString "texts" then some (.ref tl) else if y = Str.ofString "the_saved" then some (.int saved ts) else if y = Str.ofString "marker" then some (.ref (A 11)) else if y = Str.ofString "deck" then some (.ref dk) else if y = Str.ofString "buffer" then some (.ref (A 7)) else List.lookup y [(Str.ofString "script", Value.ref sa)]) → News g' L' h' ((dk, listOf [Value.ref d0, .ref d1, .int c tc].toArray n0) :: (d0, listOf xs.toArray n1) :: (d1, listOf ys.toArray n2) :: (tl, listOf tvs.toArray nt) :: (ledL w A T S ++ (cstL w A T ++ R))) → (∀ n m news h tk, 2 ≤ n → n ≤ 6 → FJ w sa A T dk d0 d1 tl ys n2 n m news → Fr g' L' h m → News g' L' h news → Q .next ⟨h, gn, dr, tk, os⟩) → wpAny (model pw w) AA (eval (forIter (dL.1.body.drop 6)) (envOf dL.1.name dL.1.scope L' fa cdv)) (fun xv s₁ => wpAny (model pw w) AA (pyIter xv) (fun it s₂ => LoopAtV pw w AA g' (envOf dL.1.name dL.1.scope L' fa cdv) (Str.ofString "turn") (stmtBody (dL.1.body.drop 6)) Q E it s₂) E s₁) E ⟨h', gn, dr, tk', os⟩
def zP (w : World) (p : Program) (loose : List Str) (mean : ExcName → Option Value) (mg mb : Str → Option Value) (base g' h' : Heap) (L' fa sa : Addr) (cdv : Value) (gn : Array GenState) (dr : Drawn) (tk' : Nat) (os : OsState) (Q : Flow → Shared → Prop) (E : Value → Shared → Prop) (A : Nat → Addr) (T : Nat → Nat → Tok) (S : St) (R : List (Addr × Obj)) (gs : List Grp) (txs : List (List Value)) (tvs : List Value) (saved : Int) (dk d0 d1 tl : Addr) (xs ys : List Value) (c : Int) (tc ts : Tok) (n0 n1 n2 nt : Nat) : Prop := ∀ (B' : Below callerA base [] g') (X' : (KK w.params).In g') (T' : Top p loose mean mg mb g') (hA : At g' []) (hd : callerA.depth + 600 < recursionLimit) (hu : callerA.units + 9000 < cLine) (W : Fwd w A S R gs txs tvs saved 0) (D : Deck A dk d0 d1 xs ys c) (hc : c ≤ 4) (far : Far dk d0 tl R) (ot : ∀ i, i < 16 → tl ≠ A i) (t1 : tl ≠ dk) (t2 : tl ≠ d0) (t3 : tl ≠ d1), zS w p loose mean mg mb base g' h' L' fa sa cdv gn dr tk' os Q E A T S R gs txs tvs saved dk d0 d1 tl xs ys c tc ts n0 n1 n2 nt
abbrev zT := (World × Program × (List Str) × (ExcName → Option Value) × (Str → Option Value) × (Str → Option Value)) × (Heap × Heap × Heap × Addr × Addr × Addr) × (Value × (Array GenState) × Drawn × Nat × OsState × (Flow → Shared → Prop)) × ((Value → Shared → Prop) × (Nat → Addr) × (Nat → Nat → Tok) × St × (List (Addr × Obj)) × (List Grp)) × ((List (List Value)) × (List Value) × Int × Addr × Addr × Addr) × (Addr × (List Value) × (List Value) × Int × Tok × Tok) × (Nat × Nat × Nat × Nat)
def zQ (x : zT) : Prop := zP x.1.1 x.1.2.1 x.1.2.2.1 x.1.2.2.2.1 x.1.2.2.2.2.1 x.1.2.2.2.2.2 x.2.1.1 x.2.1.2.1 x.2.1.2.2.1 x.2.1.2.2.2.1 x.2.1.2.2.2.2.1 x.2.1.2.2.2.2.2 x.2.2.1.1 x.2.2.1.2.1 x.2.2.1.2.2.1 x.2.2.1.2.2.2.1 x.2.2.1.2.2.2.2.1 x.2.2.1.2.2.2.2.2 x.2.2.2.1.1 x.2.2.2.1.2.1 x.2.2.2.1.2.2.1 x.2.2.2.1.2.2.2.1 x.2.2.2.1.2.2.2.2.1 x.2.2.2.1.2.2.2.2.2 x.2.2.2.2.1.1 x.2.2.2.2.1.2.1 x.2.2.2.2.1.2.2.1 x.2.2.2.2.1.2.2.2.1 x.2.2.2.2.1.2.2.2.2.1 x.2.2.2.2.1.2.2.2.2.2 x.2.2.2.2.2.1.1 x.2.2.2.2.2.1.2.1 x.2.2.2.2.2.1.2.2.1 x.2.2.2.2.2.1.2.2.2.1 x.2.2.2.2.2.1.2.2.2.2.1 x.2.2.2.2.2.1.2.2.2.2.2 x.2.2.2.2.2.2.1 x.2.2.2.2.2.2.2.1 x.2.2.2.2.2.2.2.2.1 x.2.2.2.2.2.2.2.2.2
theorem zne : Nonempty zT := by k_extra "zne"
def zX : zT := pk zne zQ
noncomputable abbrev AA : Around := callerA.deeper (envOf dL.1.name dL.1.scope zX.2.1.2.2.2.1 zX.2.1.2.2.2.2.1 zX.2.2.1.1)
theorem body : zQ zX := by
  intro B' X' T' hA hd hu W D hc far ot t1 t2 t3
  delta zS
  intro AA0; have eAA : AA0 = AA := rfl; clear_value AA0; subst eAA
  intro dA uA F' N' done
  have off := W.off
  have hI := D.hI
  have lo := D.lo
  have y1 := D.y1
  have y2 := D.y2
  have y3 := D.y3
  have y4 := D.y4
  have y5 := D.y5
  have y6 := D.c0
  have x1 := D.x1
  have x2 := D.x2
  have x3 := D.x3
  have o1 : ∀ i, i < 16 → zX.2.2.2.2.1.2.2.2.1 ≠ zX.2.2.2.1.2.1 i := D.o1
  have o2 : ∀ i, i < 16 → zX.2.2.2.2.1.2.2.2.2.1 ≠ zX.2.2.2.1.2.1 i := D.o2
  have o3 : ∀ i, i < 16 → zX.2.2.2.2.1.2.2.2.2.2 ≠ zX.2.2.2.1.2.1 i := D.o3
  dsimp only [ledL, cstL, List.cons_append, List.nil_append] at N'
  show wpAny (model pw zX.1.1) AA (eval (forIter (List.drop 6 _)) _) _ zX.2.2.2.1.1 _
  generalize hB : stmtBody (dL.1.body.drop 6) = bB
  (try dsimp only [List.drop, forIter, parts])
  (try k_fold)
  k_steps
  all_goals (try dsimp only)
  unfold Stop
  subst hB
  refine' law_loop zX.1.1 zX.1.2.1 zX.1.2.2.1 zX.1.2.2.2.1 zX.1.2.2.2.2.1 zX.1.2.2.2.2.2 zX.2.1.1 zX.2.1.2.1 _ zX.2.1.2.2.2.1 zX.2.1.2.2.2.2.1 zX.2.1.2.2.2.2.2 zX.2.2.1.1 zX.2.2.1.2.1 zX.2.2.1.2.2.1 _ zX.2.2.1.2.2.2.2.1 zX.2.2.1.2.2.2.2.2 zX.2.2.2.1.1 B' X' T' hA hd hu zX.2.2.2.1.2.1 zX.2.2.2.1.2.2.1 zX.2.2.2.2.1.2.2.2.1 zX.2.2.2.2.1.2.2.2.2.1 zX.2.2.2.2.1.2.2.2.2.2 zX.2.2.2.2.2.1.1 zX.2.2.2.2.2.1.2.2.1 zX.2.2.2.2.2.2.2.2.1 ot t1 t2 t3 dA uA ?hr ?b0 ?b1 ⟨zX.2.2.2.1.2.2.2.1, zX.2.2.2.1.2.2.2.2.1, zX.2.2.2.1.2.2.2.2.2, zX.2.2.2.2.1.1, zX.2.2.2.2.1.2.1, zX.2.2.2.2.1.2.2.1, _, _, _, zX.2.2.2.2.2.1.2.2.2.2.2, _, _, zX.2.2.2.2.2.2.2.2.2, fun _ => none, W, ⟨D.hI, D.lo, D.x1, D.x2, D.x3, D.o1, D.o2, D.o3, ?y1, ?y2, D.y3, D.y4, D.y5, ?y6⟩, ?hc, far, frame0, ?rl⟩ ?F ?N ?dn
  case hr => assumption
  case F => assumption
  case N => assumption
  case rl => rfl
  case y1 => assumption
  case y2 => assumption
  case y6 => assumption
  case hc => show (_ : Int) ≤ 5 + 4 * ((0 : Nat) : Int); omega
  case b0 => omega
  case b1 => omega
  case dn => exact fun m news h tk J F N => done _ m news h tk (by omega) (by omega) J F N
end law_forN
theorem law_for (w : World) (p : Program) (loose : List Str) (mean : ExcName → Option Value) (mg mb : Str → Option Value) (base g' h' : Heap) (L' fa sa : Addr) (cdv : Value) (gn : Array GenState) (dr : Drawn) (tk' : Nat) (os : OsState) (Q : Flow → Shared → Prop) (E : Value → Shared → Prop) (B' : Below callerA base [] g') (X' : (KK w.params).In g') (T' : Top p loose mean mg mb g') (hA : At g' []) (hd : callerA.depth + 600 < recursionLimit) (hu : callerA.units + 9000 < cLine) (A : Nat → Addr) (T : Nat → Nat → Tok) (S : St) (R : List (Addr × Obj)) (gs : List Grp) (txs : List (List Value)) (tvs : List Value) (saved : Int) (dk d0 d1 tl : Addr) (xs ys : List Value) (c : Int) (tc ts : Tok) (n0 n1 n2 nt : Nat) (W : Fwd w A S R gs txs tvs saved 0) (D : Deck A dk d0 d1 xs ys c) (hc : c ≤ 4) (far : Far dk d0 tl R) (ot : ∀ i, i < 16 → tl ≠ A i) (t1 : tl ≠ dk) (t2 : tl ≠ d0) (t3 : tl ≠ d1) : law_forN.zS w p loose mean mg mb base g' h' L' fa sa cdv gn dr tk' os Q E A T S R gs txs tvs saved dk d0 d1 tl xs ys c tc ts n0 n1 n2 nt := pk_all (n := law_forN.zne) (P := law_forN.zQ) law_forN.body ((w, p, loose, mean, mg, mb), (base, g', h', L', fa, sa), (cdv, gn, dr, tk', os, Q), (E, A, T, S, R, gs), (txs, tvs, saved, dk, d0, d1), (tl, xs, ys, c, tc, ts), (n0, n1, n2, nt)) B' X' T' hA hd hu W D hc far ot t1 t2 t3
end
noncomputable abbrev S0 (cells : List Value) (nc : Nat) (gs ge : Int) (gu gv : Tok) (pt zv ti ct : Int) (up uz ut uc us : Tok) (n : Nat) (pos : Int) (um vp : Tok) (adv : Bool) (b kk : Addr) (okr : Obj) : St :=
  { cells := cells, nc := nc, gs := gs, ge := ge, gu := gu, gv := gv, pt := pt, zv := zv, ti := ti, ct := ct, sv := ti, up := up, uz := uz, ut := ut, uc := uc, us := us, rs := [], n := n, nv := .none, pos := pos, um := um, vp := vp, adv := adv, bv := .ref b, kvs := [(1, .ref kk)], okr := okr }
namespace p2_packN
def zP (w : World) (g' : Heap) (L' : Addr) (A : Nat → Addr) (T : Nat → Nat → Tok) (cells xs ys : List Value) (nc : Nat) (gs ge : Int) (gu gv : Tok) (pt ti ct : Int) (up uz ut uc us : Tok) (n : Nat) (pos : Int) (um vp : Tok) (adv : Bool) (okr o1 oa ob oc oe : Obj) (D1 tl d dk d0 d1 : Addr) (k0 k1 n0 n1 n2 : Nat) (c : Int) (tc : Tok) (X Y : List (Addr × Obj)) : Prop := ∀ {h : Heap} {zs : List Value} {zv : Int} (N : News g' L' h ((D1, o1) :: (tl, listOf [Value.ref d].toArray k0) :: (d, listOf zs.toArray k1) :: (dk, listOf [Value.ref d0, .ref d1, .int c tc].toArray n0) :: (d0, listOf xs.toArray n1) :: (d1, listOf ys.toArray n2) :: (A 0, dictOf (bufEs w.params (T 0) (T 1) (A 8) (A 9) (A 15) (.ref (A 13)) pt zv ti ct ti up uz ut uc us) 20) :: (A 1, dictOf (gapEs w.params (T 2) (.int 8 (T 2 9)) (.ref (A 2)) gs ge gu gv) 4) :: (A 2, listOf cells.toArray nc) :: (A 3, dictOf (mkEs w.params (T 3) adv (.ref (A 7)) pos um vp) 4) :: (A 4, okr) :: (A 5, dictOf (ulEs w.params (T 4) (A 6) 0 (T 4 9) .none) 5) :: (A 6, listOf ([] : List Value).toArray n) :: cstL w A T)) (nd : NeAll d ((dk, oa) :: (d0, ob) :: (d1, oc) :: X)) (nt : NeAll tl ((d, oe) :: (dk, oa) :: (d0, ob) :: (d1, oc) :: Y)) (hX : X.map (·.1) = (List.range 16).map A) (hY : Y.map (·.1) = (List.range 16).map A) (h3 : 0 ≤ gs) (h4 : gs ≤ ge) (h5 : ge ≤ cells.length) (h6 : cells.length ≤ 100) (hz : zv = cells.length - ge + gs + 1) (hkr : okr.IsDictOf (intKind pw w) [(1, .ref (A 11))]) (ez : zs = txt cells gs ge) (t1 : (txt cells gs ge).length ≤ 8) (t3 : AllInts (txt cells gs ge)), Fwd w A (S0 cells nc gs ge gu gv pt zv ti ct up uz ut uc us n pos um vp adv (A 7) (A 11) okr) [(d, listOf zs.toArray k1)] [] [zs] [.ref d] 0 0 ∧ Far dk d0 tl [(d, listOf zs.toArray k1)] ∧ (∀ i, i < 16 → tl ≠ A i) ∧ tl ≠ dk ∧ tl ≠ d0 ∧ tl ≠ d1 ∧ News g' L' h ((dk, listOf [Value.ref d0, .ref d1, .int c tc].toArray n0) :: (d0, listOf xs.toArray n1) :: (d1, listOf ys.toArray n2) :: (tl, listOf [Value.ref d].toArray k0) :: (ledL w A T (S0 cells nc gs ge gu gv pt zv ti ct up uz ut uc us n pos um vp adv (A 7) (A 11) okr) ++ (cstL w A T ++ [(d, listOf zs.toArray k1)])))
abbrev zT := (World × Heap × Addr × (Nat → Addr) × (Nat → Nat → Tok) × (List Value) × (List Value)) × ((List Value) × Nat × Int × Int × Tok × Tok × Int) × (Int × Int × Tok × Tok × Tok × Tok × Tok) × (Nat × Int × Tok × Tok × Bool × Obj × Obj) × (Obj × Obj × Obj × Obj × Addr × Addr × Addr) × (Addr × Addr × Addr × Nat × Nat × Nat × Nat) × (Nat × Int × Tok × (List (Addr × Obj)) × (List (Addr × Obj)))
def zQ (x : zT) : Prop := zP x.1.1 x.1.2.1 x.1.2.2.1 x.1.2.2.2.1 x.1.2.2.2.2.1 x.1.2.2.2.2.2.1 x.1.2.2.2.2.2.2 x.2.1.1 x.2.1.2.1 x.2.1.2.2.1 x.2.1.2.2.2.1 x.2.1.2.2.2.2.1 x.2.1.2.2.2.2.2.1 x.2.1.2.2.2.2.2.2 x.2.2.1.1 x.2.2.1.2.1 x.2.2.1.2.2.1 x.2.2.1.2.2.2.1 x.2.2.1.2.2.2.2.1 x.2.2.1.2.2.2.2.2.1 x.2.2.1.2.2.2.2.2.2 x.2.2.2.1.1 x.2.2.2.1.2.1 x.2.2.2.1.2.2.1 x.2.2.2.1.2.2.2.1 x.2.2.2.1.2.2.2.2.1 x.2.2.2.1.2.2.2.2.2.1 x.2.2.2.1.2.2.2.2.2.2 x.2.2.2.2.1.1 x.2.2.2.2.1.2.1 x.2.2.2.2.1.2.2.1 x.2.2.2.2.1.2.2.2.1 x.2.2.2.2.1.2.2.2.2.1 x.2.2.2.2.1.2.2.2.2.2.1 x.2.2.2.2.1.2.2.2.2.2.2 x.2.2.2.2.2.1.1 x.2.2.2.2.2.1.2.1 x.2.2.2.2.2.1.2.2.1 x.2.2.2.2.2.1.2.2.2.1 x.2.2.2.2.2.1.2.2.2.2.1 x.2.2.2.2.2.1.2.2.2.2.2.1 x.2.2.2.2.2.1.2.2.2.2.2.2 x.2.2.2.2.2.2.1 x.2.2.2.2.2.2.2.1 x.2.2.2.2.2.2.2.2.1 x.2.2.2.2.2.2.2.2.2.1 x.2.2.2.2.2.2.2.2.2.2
theorem zne : Nonempty zT := by k_extra "zne"
def zX : zT := pk zne zQ
theorem body : zQ zX := by
  intro h zs zv N nd nt hX hY h3 h4 h5 h6 hz hkr ez t1 t3
  have offX : ∀ {x : Addr} {Z : List (Addr × Obj)} {q : List (Addr × Obj)}, NeAll x (q ++ Z) → Z.map (·.1) = (List.range 16).map zX.1.2.2.2.1 → Off zX.1.2.2.2.1 x := by
    intro x Z q hn hZ i hi e
    have : zX.1.2.2.2.1 i ∈ Z.map (·.1) := by rw [hZ]; exact List.mem_map.mpr ⟨i, List.mem_range.mpr hi, rfl⟩
    obtain ⟨p, hp, e2⟩ := List.mem_map.mp this
    exact hn p (List.mem_append_right _ hp) (e2.trans e.symm)
  have od : Off zX.1.2.2.2.1 zX.2.2.2.2.1.2.2.2.2.2.2 := offX (q := [(zX.2.2.2.2.2.1.1, zX.2.2.2.2.1.1), (zX.2.2.2.2.2.1.2.1, zX.2.2.2.2.1.2.1), (zX.2.2.2.2.2.1.2.2.1, zX.2.2.2.2.1.2.2.1)]) nd hX
  have ot : Off zX.1.2.2.2.1 zX.2.2.2.2.1.2.2.2.2.2.1 := offX (q := [(zX.2.2.2.2.1.2.2.2.2.2.2, zX.2.2.2.2.1.2.2.2.1), (zX.2.2.2.2.2.1.1, zX.2.2.2.2.1.1), (zX.2.2.2.2.2.1.2.1, zX.2.2.2.2.1.2.1), (zX.2.2.2.2.2.1.2.2.1, zX.2.2.2.2.1.2.2.1)]) nt hY
  have q1 := nd.at (x := zX.2.2.2.2.2.1.1) (.head _)
  have q2 := nd.at (x := zX.2.2.2.2.2.1.2.1) (.tail _ (.head _))
  have q4 := nt.at (x := zX.2.2.2.2.1.2.2.2.2.2.2) (.head _)
  have q5 := nt.at (x := zX.2.2.2.2.2.1.1) (.tail _ (.head _))
  have q6 := nt.at (x := zX.2.2.2.2.2.1.2.1) (.tail _ (.tail _ (.head _)))
  have q7 := nt.at (x := zX.2.2.2.2.2.1.2.2.1) (.tail _ (.tail _ (.tail _ (.head _))))
  subst ez
  refine ⟨⟨⟨.inl rfl, h3, h4, h5, hz, hkr, rfl⟩, rfl, rfl, ?_, ?_, ?_, ?_, ?_, rfl, ?_, rfl, rfl, rfl, trivial, ?_, ?_, ?_, ?_, Int.le_refl _, Int.le_refl _, Nat.le_refl _⟩, ?_, ot, q5.symm, q6.symm, q7.symm, ?_⟩
  · intro p hp
    rw [List.mem_singleton.mp hp]; exact od
  · exact fun _ _ _ _ => trivial
  · exact fun _ _ => .inl ⟨rfl, rfl⟩
  · exact fun g hg => absurd hg List.not_mem_nil
  · exact ⟨Int.le_refl _, ⟨fun q => absurd q (Int.lt_irrefl _), fun q => absurd rfl q⟩, fun g hg => absurd hg List.not_mem_nil, fun g hg => absurd hg List.not_mem_nil, (fun _ q => by cases q), fun g hg => absurd hg List.not_mem_nil, (fun t q => by cases q)⟩
  · exact fun g hg => absurd hg List.not_mem_nil
  · intro k t e
    cases k with
    | zero => exact ⟨zX.2.2.2.2.1.2.2.2.2.2.2, zX.2.2.2.2.2.1.2.2.2.2.1, rfl, by
        have : txt zX.1.2.2.2.2.2.1 zX.2.1.2.2.1 zX.2.1.2.2.2.1 = t := by simpa using e
        rw [← this]; exact .head _⟩
    | succ k => simp at e
  · intro t ht
    rw [List.mem_singleton.mp ht]; exact t3
  · show zX.1.2.2.2.2.2.1.length ≤ 100 + 1008 * 0
    omega
  · show (txt zX.1.2.2.2.2.2.1 zX.2.1.2.2.1 zX.2.1.2.2.2.1).length ≤ 8 + 3 * 0
    omega
  · intro p hp
    rw [List.mem_singleton.mp hp]
    exact ⟨q1.symm, q2.symm, q4⟩
  · intro p hp
    simp only [List.mem_cons, List.mem_append, List.not_mem_nil, or_false, ledL, cstL, S0] at hp
    refine N p ?_
    simp only [List.mem_cons, List.not_mem_nil, or_false, cstL]
    rcases hp with h | h | h | h | h | h | h
    · exact .inr (.inr (.inr (.inl h)))
    · exact .inr (.inr (.inr (.inr (.inl h))))
    · exact .inr (.inr (.inr (.inr (.inr (.inl h)))))
    · exact .inr (.inl h)
    · refine .inr (.inr (.inr (.inr (.inr (.inr ?_)))))
      rcases h with h | h | h | h | h | h | h
      · exact .inl h
      · exact .inr (.inl h)
      · exact .inr (.inr (.inl h))
      · exact .inr (.inr (.inr (.inl h)))
      · exact .inr (.inr (.inr (.inr (.inl h))))
      · exact .inr (.inr (.inr (.inr (.inr (.inl h)))))
      · exact .inr (.inr (.inr (.inr (.inr (.inr (.inl h))))))
    · exact .inr (.inr (.inr (.inr (.inr (.inr (.inr (.inr (.inr (.inr (.inr (.inr (.inr h))))))))))))
    · exact .inr (.inr (.inl h))
end p2_packN
theorem p2_pack {w g' L' A T cells xs ys nc gs ge gu gv pt ti ct up uz ut uc us n pos um vp adv okr o1 oa ob oc oe D1 tl d dk d0 d1 k0 k1 n0 n1 n2 c tc X Y} : p2_packN.zP w g' L' A T cells xs ys nc gs ge gu gv pt ti ct up uz ut uc us n pos um vp adv okr o1 oa ob oc oe D1 tl d dk d0 d1 k0 k1 n0 n1 n2 c tc X Y := pk_all (n := p2_packN.zne) (P := p2_packN.zQ) p2_packN.body ((w, g', L', A, T, cells, xs), (ys, nc, gs, ge, gu, gv, pt), (ti, ct, up, uz, ut, uc, us), (n, pos, um, vp, adv, okr, o1), (oa, ob, oc, oe, D1, tl, d), (dk, d0, d1, k0, k1, n0, n1), (n2, c, tc, X, Y))
def LawCont2 (w : World) (g' : Heap) (L' sa : Addr) (AA : Around) (env : Env) (gn : Array GenState) (dr : Drawn) (os : OsState) (Q : Flow → Shared → Prop) (E : Value → Shared → Prop) : Prop :=
  ∀ (A : Nat → Addr) (T : Nat → Nat → Tok) (dk d0 d1 tl : Addr) (ys : List Value) (n2 n : Nat) (m : Str → Option Value) (news : List (Addr × Obj)) (h : Heap) (tk : Nat), 2 ≤ n → n ≤ 6 → FJ w sa A T dk d0 d1 tl ys n2 n m news → (∀ i, i < 16 → tl ≠ A i) → tl ≠ dk → tl ≠ d0 → tl ≠ d1 →
    Fr g' L' h m → News g' L' h news → wpAny (model pw w) AA (execs (dL.1.body.drop 7) env) Q E ⟨h, gn, dr, tk, os⟩
section
open N_L2
namespace law_p2N
abbrev zS (w : World) (p : Program) (loose : List Str) (mean : ExcName → Option Value) (mg mb : Str → Option Value) (base g' : Heap) (L' fa sa : Addr) (cdv : Value) (gn : Array GenState) (dr : Drawn) (os : OsState) (Q : Flow → Shared → Prop) : Prop := let AA := callerA.deeper (envOf dL.1.name dL.1.scope L' fa cdv); AA.depth = callerA.depth + 1 → AA.units = callerA.units + 3 → LawCont2 w g' L' sa AA (envOf dL.1.name dL.1.scope L' fa cdv) gn dr os Q (fun _ _ => False) → LawCont w g' L' sa 4 AA (envOf dL.1.name dL.1.scope L' fa cdv) gn dr os Q (fun _ _ => False)
def zP (w : World) (p : Program) (loose : List Str) (mean : ExcName → Option Value) (mg mb : Str → Option Value) (base g' : Heap) (L' fa sa : Addr) (cdv : Value) (gn : Array GenState) (dr : Drawn) (os : OsState) (Q : Flow → Shared → Prop) : Prop := ∀ (B' : Below callerA base [] g') (X' : (KK w.params).In g') (T' : Top p loose mean mg mb g') (hA : At g' []) (hd : callerA.depth + 600 < recursionLimit) (hu : callerA.units + 9000 < cLine), zS w p loose mean mg mb base g' L' fa sa cdv gn dr os Q
abbrev zT := (World × Program × (List Str) × (ExcName → Option Value)) × ((Str → Option Value) × (Str → Option Value) × Heap × Heap) × (Addr × Addr × Addr × Value) × ((Array GenState) × Drawn × OsState × (Flow → Shared → Prop))
def zQ (x : zT) : Prop := zP x.1.1 x.1.2.1 x.1.2.2.1 x.1.2.2.2 x.2.1.1 x.2.1.2.1 x.2.1.2.2.1 x.2.1.2.2.2 x.2.2.1.1 x.2.2.1.2.1 x.2.2.1.2.2.1 x.2.2.1.2.2.2 x.2.2.2.1 x.2.2.2.2.1 x.2.2.2.2.2.1 x.2.2.2.2.2.2
theorem zne : Nonempty zT := by k_extra "zne"
def zX : zT := pk zne zQ
noncomputable abbrev AA : Around := callerA.deeper (envOf dL.1.name dL.1.scope zX.2.2.1.1 zX.2.2.1.2.1 zX.2.2.1.2.2.2)
noncomputable def zK1 : RedF (zP zX.1.1 zX.1.2.1 zX.1.2.2.1 zX.1.2.2.2 zX.2.1.1 zX.2.1.2.1 zX.2.1.2.2.1 zX.2.1.2.2.2 zX.2.2.1.1 zX.2.2.1.2.1 zX.2.2.1.2.2.1 zX.2.2.1.2.2.2 zX.2.2.2.1 zX.2.2.2.2.1 zX.2.2.2.2.2.1 zX.2.2.2.2.2.2) ((Nat → Addr) → (Nat → Nat → Tok) → Addr → Addr → Addr → List Value → List Value → Int → Tok → Nat → Nat → Nat → Heap → Nat → List Value → Nat → Int → Int → Tok → Tok → Int → Int → Int → Int → Tok → Tok → Tok → Tok → Tok → Nat → Tok → Tok → Bool → Obj → Prop) (fun R => ∀ a0 a1 a2 a3 a4 a5 a6 a7 a8 a9 a10 a11 a12 a13 a14 a15 a16 a17 a18 a19 a20 a21 a22 a23 a24 a25 a26 a27 a28 a29 a30 a31 a32 a33, R a0 a1 a2 a3 a4 a5 a6 a7 a8 a9 a10 a11 a12 a13 a14 a15 a16 a17 a18 a19 a20 a21 a22 a23 a24 a25 a26 a27 a28 a29 a30 a31 a32 a33) := by
  apply Subtype.mk; intro H
  intro B' X' T' hA hd hu
  delta zS
  intro AA0; have eAA : AA0 = AA := rfl; clear_value AA0; subst eAA
  intro dA uA cont2 A T S dk d0 d1 xs ys c tc n0 n1 n2 h' tk' W hc hkv hnv hbv hpos hrs hts F' N'
  obtain ⟨cells, nc, gs, ge, gu, gv, pt, zv, ti, ct, sv, up, uz, ut, uc, us, rs, n, nv, pos, um, vp, adv, bv, kvs, okr⟩ := S
  obtain ⟨hI, lo, ⟨_, h3, h4, h5, hz, hkr, _⟩, h6, x1, x2, x3, o1, o2, o3, y1, y2, y3, y4, y5, c0, t1, t2, t3⟩ := W
  dsimp only at *
  subst hkv hnv hbv hpos hrs hts
  have hT := txt_len h3 h4 h5
  dsimp only [ledL, cstL, List.cons_append, List.nil_append] at N'
  show wpAny (model pw zX.1.1) AA (execs (List.drop 4 _) _) zX.2.2.2.2.2.2 (fun _ _ => False) _
  (try dsimp only [List.drop])
  (try k_fold)
  rename_i zy1_1 zy1_2
  revert B' X' T' hA hd hu dA uA cont2 hc F' hI lo h6 x1 x2 x3 o1 o2 o3 y1 y2 y3 y4 y5 c0 h3 h4 h5 hz hkr zy1_1 zy1_2 N' t1 t2 t3 hT
  revert qk ek
  exact H.h A T dk d0 d1 xs ys c tc n0 n1 n2 h' tk' cells nc gs ge gu gv pt zv ti ct up uz ut uc us n um vp adv okr
theorem zN1 : Nonempty (((Nat → Addr) × (Nat → Nat → Tok) × Addr × Addr × Addr × (List Value)) × ((List Value) × Int × Tok × Nat × Nat × Nat) × (Heap × Nat × (List Value) × Nat × Int × Int) × (Tok × Tok × Int × Int × Int × Int) × (Tok × Tok × Tok × Tok × Tok × Nat) × (Tok × Tok × Bool × Obj)) := by k_extra "zne"
def zC1 : ((Nat → Addr) × (Nat → Nat → Tok) × Addr × Addr × Addr × (List Value)) × ((List Value) × Int × Tok × Nat × Nat × Nat) × (Heap × Nat × (List Value) × Nat × Int × Int) × (Tok × Tok × Int × Int × Int × Int) × (Tok × Tok × Tok × Tok × Tok × Nat) × (Tok × Tok × Bool × Obj) := pk zN1 (fun x => zK1.1 x.1.1 x.1.2.1 x.1.2.2.1 x.1.2.2.2.1 x.1.2.2.2.2.1 x.1.2.2.2.2.2 x.2.1.1 x.2.1.2.1 x.2.1.2.2.1 x.2.1.2.2.2.1 x.2.1.2.2.2.2.1 x.2.1.2.2.2.2.2 x.2.2.1.1 x.2.2.1.2.1 x.2.2.1.2.2.1 x.2.2.1.2.2.2.1 x.2.2.1.2.2.2.2.1 x.2.2.1.2.2.2.2.2 x.2.2.2.1.1 x.2.2.2.1.2.1 x.2.2.2.1.2.2.1 x.2.2.2.1.2.2.2.1 x.2.2.2.1.2.2.2.2.1 x.2.2.2.1.2.2.2.2.2 x.2.2.2.2.1.1 x.2.2.2.2.1.2.1 x.2.2.2.2.1.2.2.1 x.2.2.2.2.1.2.2.2.1 x.2.2.2.2.1.2.2.2.2.1 x.2.2.2.2.1.2.2.2.2.2 x.2.2.2.2.2.1 x.2.2.2.2.2.2.1 x.2.2.2.2.2.2.2.1 x.2.2.2.2.2.2.2.2)
theorem body2 : zK1.1 zC1.1.1 zC1.1.2.1 zC1.1.2.2.1 zC1.1.2.2.2.1 zC1.1.2.2.2.2.1 zC1.1.2.2.2.2.2 zC1.2.1.1 zC1.2.1.2.1 zC1.2.1.2.2.1 zC1.2.1.2.2.2.1 zC1.2.1.2.2.2.2.1 zC1.2.1.2.2.2.2.2 zC1.2.2.1.1 zC1.2.2.1.2.1 zC1.2.2.1.2.2.1 zC1.2.2.1.2.2.2.1 zC1.2.2.1.2.2.2.2.1 zC1.2.2.1.2.2.2.2.2 zC1.2.2.2.1.1 zC1.2.2.2.1.2.1 zC1.2.2.2.1.2.2.1 zC1.2.2.2.1.2.2.2.1 zC1.2.2.2.1.2.2.2.2.1 zC1.2.2.2.1.2.2.2.2.2 zC1.2.2.2.2.1.1 zC1.2.2.2.2.1.2.1 zC1.2.2.2.2.1.2.2.1 zC1.2.2.2.2.1.2.2.2.1 zC1.2.2.2.2.1.2.2.2.2.1 zC1.2.2.2.2.1.2.2.2.2.2 zC1.2.2.2.2.2.1 zC1.2.2.2.2.2.2.1 zC1.2.2.2.2.2.2.2.1 zC1.2.2.2.2.2.2.2.2 := by
  delta zK1; dsimp only
  intro B' X' T' hA hd hu dA uA cont2 hc F' hI lo h6 x1 x2 x3 o1 o2 o3 y1 y2 y3 y4 y5 c0 h3 h4 h5 hz hkr zy1_1 zy1_2 N' t1 t2 t3 hT
  k_steps
  all_goals (try dsimp only)
  unfold Stop
  have P := p2_pack (w := zX.1.1) (T := zC1.1.2.1) (by assumption) (by assumption) (by assumption) rfl rfl h3 h4 h5 h6 hz (by assumption) (take_tx (S := S0 zC1.2.2.1.2.2.1 zC1.2.2.1.2.2.2.1 zC1.2.2.1.2.2.2.2.1 zC1.2.2.1.2.2.2.2.2 zC1.2.2.2.1.1 zC1.2.2.2.1.2.1 zC1.2.2.2.1.2.2.1 zC1.2.2.2.1.2.2.2.1 zC1.2.2.2.1.2.2.2.2.1 zC1.2.2.2.1.2.2.2.2.2 zC1.2.2.2.2.1.1 zC1.2.2.2.2.1.2.1 zC1.2.2.2.2.1.2.2.1 zC1.2.2.2.2.1.2.2.2.1 zC1.2.2.2.2.1.2.2.2.2.1 zC1.2.2.2.2.1.2.2.2.2.2 0 zC1.2.2.2.2.2.1 zC1.2.2.2.2.2.2.1 zC1.2.2.2.2.2.2.2.1 (zC1.1.1 7) (zC1.1.1 11) zC1.2.2.2.2.2.2.2.2) h3 h4 h5 rfl) t1 t3
  obtain ⟨W, far, ot, e1, e2, e3, N2⟩ := P
  refine For_invV zX.2.1.2.2.2 (by rfl) (by rfl) ?_
  refine law_for zX.1.1 zX.1.2.1 zX.1.2.2.1 zX.1.2.2.2 zX.2.1.1 zX.2.1.2.1 zX.2.1.2.2.1 zX.2.1.2.2.2 _ zX.2.2.1.1 zX.2.2.1.2.1 zX.2.2.1.2.2.1 zX.2.2.1.2.2.2 zX.2.2.2.1 zX.2.2.2.2.1 _ zX.2.2.2.2.2.1 _ (fun _ _ => False) B' X' T' hA hd hu zC1.1.1 zC1.1.2.1 _ _ _ _ _ _ zC1.1.2.2.1 zC1.1.2.2.2.1 zC1.1.2.2.2.2.1 _ _ zC1.2.1.1 _ _ _ _ _ zC1.2.1.2.2.2.2.2 _ W ⟨hI, lo, x1, x2, x3, o1, o2, o3, (by assumption), (by assumption), y3, y4, y5, (by assumption)⟩ (by omega) far ot e1 e2 e3 dA uA (by assumption) N2 ?_
  intro n9 m9 news h9 tk9 hn1 hn2 J F N
  exact cont2 zC1.1.1 zC1.1.2.1 zC1.1.2.2.1 zC1.1.2.2.2.1 zC1.1.2.2.2.2.1 _ zC1.2.1.1 zC1.2.1.2.2.2.2.2 n9 m9 news h9 tk9 hn1 hn2 J ot e1 e2 e3 F N
theorem body : zP zX.1.1 zX.1.2.1 zX.1.2.2.1 zX.1.2.2.2 zX.2.1.1 zX.2.1.2.1 zX.2.1.2.2.1 zX.2.1.2.2.2 zX.2.2.1.1 zX.2.2.1.2.1 zX.2.2.1.2.2.1 zX.2.2.1.2.2.2 zX.2.2.2.1 zX.2.2.2.2.1 zX.2.2.2.2.2.1 zX.2.2.2.2.2.2 := zK1.2 ⟨fun a0 a1 a2 a3 a4 a5 a6 a7 a8 a9 a10 a11 a12 a13 a14 a15 a16 a17 a18 a19 a20 a21 a22 a23 a24 a25 a26 a27 a28 a29 a30 a31 a32 a33 => pk_all (n := zN1) (P := fun x => zK1.1 x.1.1 x.1.2.1 x.1.2.2.1 x.1.2.2.2.1 x.1.2.2.2.2.1 x.1.2.2.2.2.2 x.2.1.1 x.2.1.2.1 x.2.1.2.2.1 x.2.1.2.2.2.1 x.2.1.2.2.2.2.1 x.2.1.2.2.2.2.2 x.2.2.1.1 x.2.2.1.2.1 x.2.2.1.2.2.1 x.2.2.1.2.2.2.1 x.2.2.1.2.2.2.2.1 x.2.2.1.2.2.2.2.2 x.2.2.2.1.1 x.2.2.2.1.2.1 x.2.2.2.1.2.2.1 x.2.2.2.1.2.2.2.1 x.2.2.2.1.2.2.2.2.1 x.2.2.2.1.2.2.2.2.2 x.2.2.2.2.1.1 x.2.2.2.2.1.2.1 x.2.2.2.2.1.2.2.1 x.2.2.2.2.1.2.2.2.1 x.2.2.2.2.1.2.2.2.2.1 x.2.2.2.2.1.2.2.2.2.2 x.2.2.2.2.2.1 x.2.2.2.2.2.2.1 x.2.2.2.2.2.2.2.1 x.2.2.2.2.2.2.2.2) body2 ((a0, a1, a2, a3, a4, a5), (a6, a7, a8, a9, a10, a11), (a12, a13, a14, a15, a16, a17), (a18, a19, a20, a21, a22, a23), (a24, a25, a26, a27, a28, a29), (a30, a31, a32, a33))⟩
end law_p2N
theorem law_p2 (w p loose mean mg mb base g' L' fa sa cdv gn dr os Q) : law_p2N.zP w p loose mean mg mb base g' L' fa sa cdv gn dr os Q := pk_all (n := law_p2N.zne) (P := law_p2N.zQ) law_p2N.body ((w, p, loose, mean), (mg, mb, base, g'), (L', fa, sa, cdv), (gn, dr, os, Q))
end
structure Rep3 (as : List Addr) (a6 : Addr) (led' l l' : List (Addr × Obj)) : Prop where
  out : ∀ {h₀ h h' : Heap} {L : Addr}, At h' led' → (∀ b o, h.get? b = some o → b ∉ as → h'.get? b = some o) → News h₀ L h l → News h₀ L h' l'
theorem Rep3.nil {as : List Addr} {a6 : Addr} {led' : List (Addr × Obj)} : Rep3 as a6 led' [] [] := ⟨fun _ _ _ => News.nil⟩
theorem Rep3.swap {as : List Addr} {a6 : Addr} {led' : List (Addr × Obj)} {a : Addr} {o o' : Obj} {r r' : List (Addr × Obj)} (hm : (a, o') ∈ led') (k : Rep3 as a6 led' r r') : Rep3 as a6 led' ((a, o) :: r) ((a, o') :: r') :=
  ⟨fun A kept N => News.cons' (At.mem A _ hm) (N _ (.head _)).2 (k.out A kept fun q hq => N q (.tail _ hq))⟩
theorem Rep3.keep {as : List Addr} {a6 : Addr} {led' : List (Addr × Obj)} {p : Addr × Obj} {r r' : List (Addr × Obj)} (hp : p.1 ∉ as) (k : Rep3 as a6 led' r r') : Rep3 as a6 led' (p :: r) (p :: r') :=
  ⟨fun A kept N => News.cons' (kept _ _ (N _ (.head _)).1 hp) (N _ (.head _)).2 (k.out A kept fun q hq => N q (.tail _ hq))⟩
theorem Rep3.drop {as : List Addr} {a6 : Addr} {led' : List (Addr × Obj)} {o : Obj} {r r' : List (Addr × Obj)} (k : Rep3 as a6 led' r r') : Rep3 as a6 led' ((a6, o) :: r) r' :=
  ⟨fun A kept N => k.out A kept fun q hq => N q (.tail _ hq)⟩
theorem Rep3.news {h₀ h h' : Heap} {L a6 : Addr} {as : List Addr} {led' : List (Addr × Obj)} (A : At h' led') (kept : ∀ b o, h.get? b = some o → b ∉ as → h'.get? b = some o) {l l' : List (Addr × Obj)} (R : Rep3 as a6 led' l l') : News h₀ L h l → News h₀ L h' l' := R.out A kept
theorem Rep3.same {as : List Addr} {a6 : Addr} {l : List (Addr × Obj)} : ∀ {R : List (Addr × Obj)}, (∀ p ∈ R, p.1 ∉ as) → Rep3 as a6 l R R
  | [], _ => .nil
  | p :: r, h => .keep (h p (.head _)) (Rep3.same fun q hq => h q (.tail _ hq))
theorem Rep3.off7 {A : Nat → Addr} {a6 : Addr} {R l : List (Addr × Obj)} (h : OffAll A R) : Rep3 [A 0, A 1, A 2, A 3, A 4, A 5, A 6] a6 l R R := Rep3.same fun p hp => Mine.off7 (h p hp)
theorem Rep3.kp {as : List Addr} {a6 a : Addr} {o : Obj} {l r r' : List (Addr × Obj)} (h : a ∉ as) (k : Rep3 as a6 l r r') : Rep3 as a6 l ((a, o) :: r) ((a, o) :: r') := .keep h k
theorem Rep3.s0 {as : List Addr} {a6 a : Addr} {o o' : Obj} {l r r' : List (Addr × Obj)} (k : Rep3 as a6 ((a, o') :: l) r r') : Rep3 as a6 ((a, o') :: l) ((a, o) :: r) ((a, o') :: r') := .swap (.head _) k
theorem Rep3.s1 {as : List Addr} {a6 a : Addr} {o o' : Obj} {q1 : Addr × Obj} {l r r' : List (Addr × Obj)} (k : Rep3 as a6 (q1 :: (a, o') :: l) r r') : Rep3 as a6 (q1 :: (a, o') :: l) ((a, o) :: r) ((a, o') :: r') := .swap (.tail _ (.head _)) k
theorem Rep3.s2 {as : List Addr} {a6 a : Addr} {o o' : Obj} {q1 q2 : Addr × Obj} {l r r' : List (Addr × Obj)} (k : Rep3 as a6 (q1 :: q2 :: (a, o') :: l) r r') : Rep3 as a6 (q1 :: q2 :: (a, o') :: l) ((a, o) :: r) ((a, o') :: r') := .swap (.tail _ (.tail _ (.head _))) k
theorem Rep3.s3 {as : List Addr} {a6 a : Addr} {o o' : Obj} {q1 q2 q3 : Addr × Obj} {l r r' : List (Addr × Obj)} (k : Rep3 as a6 (q1 :: q2 :: q3 :: (a, o') :: l) r r') : Rep3 as a6 (q1 :: q2 :: q3 :: (a, o') :: l) ((a, o) :: r) ((a, o') :: r') := .swap (.tail _ (.tail _ (.tail _ (.head _)))) k
theorem Rep3.s4 {as : List Addr} {a6 a : Addr} {o o' : Obj} {q1 q2 q3 q4 : Addr × Obj} {l r r' : List (Addr × Obj)} (k : Rep3 as a6 (q1 :: q2 :: q3 :: q4 :: (a, o') :: l) r r') : Rep3 as a6 (q1 :: q2 :: q3 :: q4 :: (a, o') :: l) ((a, o) :: r) ((a, o') :: r') := .swap (.tail _ (.tail _ (.tail _ (.tail _ (.head _))))) k
theorem Rep3.s5 {as : List Addr} {a6 a : Addr} {o o' : Obj} {q1 q2 q3 q4 q5 : Addr × Obj} {l r r' : List (Addr × Obj)} (k : Rep3 as a6 (q1 :: q2 :: q3 :: q4 :: q5 :: (a, o') :: l) r r') : Rep3 as a6 (q1 :: q2 :: q3 :: q4 :: q5 :: (a, o') :: l) ((a, o) :: r) ((a, o') :: r') := .swap (.tail _ (.tail _ (.tail _ (.tail _ (.tail _ (.head _)))))) k
theorem Repl.offr {A : Nat → Addr} {rl : Addr} {R l : List (Addr × Obj)} {i : Nat} (h : OffAll A R) (hi : Nat.blt i 16 = true) (hr : ∀ p ∈ R, p.1 ≠ rl) : Repl [A i, rl] l R R := Repl.same fun p hp => nm_cons (offA (h p hp) hi) (nm_cons (hr p hp) List.not_mem_nil)
theorem At.keep' {h h' : Heap} : ∀ {l : List (Addr × Obj)}, At h l → (∀ p ∈ l, h.get? p.1 = some p.2 → h'.get? p.1 = some p.2) → At h' l
  | [], _, _ => trivial
  | p :: r, H, k => ⟨k p (.head _) H.1, At.keep' H.2 fun q hq => k q (.tail _ hq)⟩
theorem ne_same {prog : Program} {w : World} {A : Around} {E : Value → Shared → Prop} {s : Shared} {l l2 : Addr} {vs zs : List Value} {Q : Value → Shared → Prop} (hl : s.heap.IsList l zs.toArray) (hb : s.heap.IsList l2 vs.toArray) (e : zs = vs) (hv : AllInts vs) (hu : A.units < cLine) (h : Q (.bool false) s) : wpAny (model prog w) A (compareOp .NotEq (.ref l) (.ref l2)) Q E s := by
  subst e
  refine PySem.SeqAt.RcNeAt.lists (e := fun _ => true) hl hb rfl hu (fun j h1 h2 => PySem.SeqAt.EqAt.same _) prog w E Q ?_
  have e2 : ((List.range zs.toArray.size).all fun _ => true) = true := List.all_eq_true.mpr fun _ _ => rfl
  rw [e2]; exact h
section
variable {w : World} {p : Program} {loose : List Str} {mean : ExcName → Option Value} {mg mb : Str → Option Value} {dp un : Nat} {gd' : Option (List Code)} {cn : Str} {cs : Scope} {a₀ : Addr} {ccd : Value} {cl₀ : List (Str × Addr)} {outer : List Env} {A₀ : Around} {base h₀ : Heap} {L : Addr} {m : Str → Option Value} {s : Shared} {Q E : Value → Shared → Prop} {news : List (Addr × Obj)}
theorem boundary_useR {ul uld rl : Addr} {t : Nat → Tok} {b : Tok} {nv : Value} {rs : List Value} {n : Nat} {RR : List (Addr × Obj)} (B : Below A₀ base outer h₀) (F : Fr h₀ L s.heap m) (X : (KK w.params).In h₀) (N : News h₀ L s.heap news) (T' : Top p loose mean mg mb h₀) (hk : cs.kind = .function)
    (hq : LastIn RR rs false) (mR : ∀ p ∈ RR, p ∈ news) (hp : s.heap.get? ul = some (instObj 260 uld)) (sub : Subl (ulL w uld rl t b nv rs n) news) (hd : dp + 40 < recursionLimit) (hu : un + 400 < cLine) (h1 : rs.length ≤ 300000)
    (ret : ∀ n' h' tk', Fr h₀ L h' m → (∀ new, Repl [uld, rl] [(uld, dictOf (ulEs w.params t rl 0 b nv) 5), (rl, listOf (rs ++ [Value.ref 175]).toArray n')] news new → News h₀ L h' new) → Q .none { s with heap := h', toks := tk' }) :
    wpAny (model pw w) (ktrTop dp un gd' cn cs L a₀ ccd cl₀ outer) (call (.ref 210) [.ref ul]) Q E s := by
  have k1 : s.heap.get? uld = some (dictOf (ulEs w.params t rl 0 b nv) 5) := (N _ sub.1).1
  have k2 : s.heap.get? rl = some (listOf rs.toArray n) := (N _ sub.2.1).1
  have hAR : At s.heap RR := At.of_news fun p hp => N p (mR p hp)
  refine spec_use2 (boundary_spec w ul uld rl t b nv rs n false (by omega) (ne_of_kind k1 k2 rfl)) B F X N T' hk ⟨hp, hq _ hAR⟩ sub hd hu ?_
  intro x h' tk' F' nb fr kp po
  obtain ⟨rfl, n', A'⟩ := po
  exact ret n' h' tk' F' (fun new R => nb _ _ A' R)
theorem grp_use {A : Nat → Addr} {T : Nat → Nat → Tok} {S : St} {R : List (Addr × Obj)} {ks : List Value} {bse app r kpre junk : List Grp} {g : Grp} {txs : List (List Value)} {tvs : List Value} {step here star i : Int} {ti : Tok} {kl : Addr} {nk : Nat} {b : List Value} (B : Below A₀ base outer h₀) (F : Fr h₀ L s.heap m) (X : (KK w.params).In h₀) (N : News h₀ L s.heap news) (T' : Top p loose mean mg mb h₀) (hk : cs.kind = .function)
    (W : PW w A S R ks bse app (g :: r) kpre junk txs tvs step here star) (hbt : txs[g.j.toNat]? = some b) (okl : ∀ i, i < 16 → kl ≠ A i) (hi : i = (flat (kpre ++ (g :: r).reverse)).length) (hkl : (kl, listOf ks.toArray nk) ∈ news) (mR : ∀ p ∈ R, p ∈ news) (hp : At s.heap (cstL w A T)) (sub : Subl (ledL w A T S) news) (hd : dp + 400 < recursionLimit) (hu : un + 4000 < cLine)
    (ret0 : ∀ t' S1 R2 bse' app' h' tk', Fr h₀ L h' m → (∀ new, Repl [A 0, A 1, A 2, A 3, A 4, A 5, A 6] (ledL w A T S1) news new → News h₀ L h' (new ++ R2)) → OffAll A (R ++ R2) → (∀ p ∈ R2, NeAll p.1 news) → LastIn (R ++ R2) S1.rs false → (∀ n3, PW w A (S3 S1 n3) (R ++ R2) ks bse' app' r kpre (g :: junk) txs tvs step (here + step) star) → tx S1 = b → 0 ≤ S1.gs → S1.gs ≤ S1.ge → S1.ge ≤ S1.cells.length → S1.cells.length ≤ 200000 → S1.rs.length ≤ 300000 → Q (.int (flat (kpre ++ r.reverse)).length t') { s with heap := h', toks := tk' })
    (ret1 : ∀ t' S1 R2 bse' app' rl2 h' tk', Fr h₀ L h' m → (∀ new, Rep3 [A 0, A 1, A 2, A 3, A 4, A 5, A 6] (A 6) [(A 0, dictOf (bufEs w.params (T 0) (T 1) (A 8) (A 9) (A 15) (.ref (A 13)) S1.pt S1.zv S1.ti S1.ct S1.sv S1.up S1.uz S1.ut S1.uc S1.us) 20), (A 1, dictOf (gapEs w.params (T 2) (.int 8 (T 2 9)) (.ref (A 2)) S1.gs S1.ge S1.gu S1.gv) 4), (A 2, listOf S1.cells.toArray S1.nc), (A 3, dictOf (mkEs w.params (T 3) S1.adv S1.bv S1.pos S1.um S1.vp) 4), (A 4, S1.okr), (A 5, dictOf (ulEs w.params (T 4) rl2 0 (T 4 9) S1.nv) 5)] news new → News h₀ L h' ((rl2, listOf S1.rs.toArray S1.n) :: (new ++ R2))) → OffAll A (R ++ R2) → (∀ p ∈ R2, NeAll p.1 news) → (∀ i, i < 16 → rl2 ≠ A i) → (∀ p ∈ R ++ R2, p.1 ≠ rl2) → NeAll rl2 news → LastIn (R ++ R2) S1.rs false → (∀ n3, PW w (set6 A rl2) (S3 S1 n3) (R ++ R2) ks bse' app' r kpre (g :: junk) txs tvs step (here + step) star) → tx S1 = b → 0 ≤ S1.gs → S1.gs ≤ S1.ge → S1.ge ≤ S1.cells.length → S1.cells.length ≤ 200000 → S1.rs.length ≤ 300000 → Q (.int (flat (kpre ++ r.reverse)).length t') { s with heap := h', toks := tk' }) :
    wpAny (model pw w) (ktrTop dp un gd' cn cs L a₀ ccd cl₀ outer) (call (.ref 747) [.ref (A 7), .ref kl, .int i ti]) Q E s := by
  have hAR : At s.heap R := At.of_news fun p hp => N p (mR p hp)
  have offR : ∀ p ∈ R, Off A p.1 := W.off
  have hkr := W.krows s.heap (Off A) hAR offR
  have hl := hkr.length
  have h175 := bd_at F X
  obtain ⟨hj, hj0, ⟨a', b', ha', hb', ok'⟩, p1⟩ := W.p1
  rw [hbt] at hb'; cases hb'
  rw [W.text] at ha'; cases ha'
  rw [flat_cut] at hkr
  have hrows := W.rows s.heap (fun x => ∃ p ∈ R, p.1 = x) hAR fun p hp => ⟨p, hp, rfl⟩
  have rl := W.rl
  have bl := W.bl
  have tot := W.tot
  have tl := W.tl
  have kb := W.kb
  have kc := W.kc
  have hei : (flat (kpre ++ (g :: r).reverse)).length = (flat (kpre ++ r.reverse)).length + g.rows.length + 1 := by
    have e := flat_cut (kpre := kpre) (r := r) (junk := []) (g := g)
    rw [List.append_nil] at e
    rw [e, List.length_append, List.length_append, List.length_cons]
    simp [flat]; omega
  have hSr : S.rs = [] ∨ ∃ r0, S.rs = r0 ++ [.ref 175] := RowsAt.ended hrows
  refine spec_use2 (grp_spec (Or := fun x => ∃ p ∈ R, p.1 = x) (T := T) (hb := s.heap) (kl := kl) (vs := ks) (n := nk) (pre := flat (kpre ++ r.reverse)) (post := flat junk) (g := g) (b := b) (i := i) (ti := ti) W.hI W.lo W.V W.tlen (by omega) hSr okl (N _ hkl).1 (by omega) hkr flat_end h175 W.o175 ok' (by rw [hi, hei]) (by rintro x ⟨p, hp, rfl⟩; exact offR p hp) hrows) B F X N T' hk ⟨hp, fun _ _ _ e => e⟩ sub hd hu ?_
  intro v h' tk' F' nb fr kp po
  obtain ⟨t', rfl, rl2, S2, R2, A', AR, h6, f, S1, m', op, R1, nf, alt⟩ := po
  have AL : At s.heap (ledL w A T S) := At.of_news fun q hq => N q (sub.mem q hq)
  have off2 : OffAll A R2 := fun p hp' => off_of AL hp (f p hp').1
  have NR := (free_news N F AR fun p hp => (f p hp).1)
  have offall : OffAll A (R ++ R2) := fun p hp => (List.mem_append.mp hp).elim (offR p) (off2 p)
  have lR : (flat (bse ++ app) ++ newRows S m' op).length ≤ S.rs.length + 3 := by
    have e := hrows.length
    have g3 := (Grp.mk (noteU S.ti S.sv (nvO S.nv)).1 m' op 0).len
    rw [show (Grp.mk (noteU S.ti S.sv (nvO S.nv)).1 m' op 0).rows = newRows S m' op from rfl] at g3
    rw [List.length_append]; omega
  have q := nf.V
  have cb : S1.cells.length ≤ S.cells.length + 1008 := nf.len
  have W6 := W.cb
  rcases alt with ⟨hu', rfl, rfl, rfl⟩ | ⟨hu', ho, us, k, ys, rfl, told⟩
  · have G := fun n3 => W.group (n3 := n3) hbt nf off2 hu'
    have r3 := nf.rl
    exact ret0 t' S2 R2 _ _ h' tk' F' (fun new hR => News.append' (nb _ _ A' hR) NR.1) offall NR.2 (G 0).1 (fun n3 => (G n3).2) nf.tx q.h3 q.h4 q.h5 (by omega) (by omega)
  · have hf : s.heap.get? rl2 = none := h6.resolve_left (ho 6 (by decide))
    have hne : ∀ p ∈ R ++ R2, p.1 ≠ rl2 := fun p hp => (List.mem_append.mp hp).elim (fun h => (free_ne hf (hAR.mem p h)).symm) (fun h => (f p h).2)
    have hRh' : At h' R := hAR.keep' fun p hp e => kp _ _ e (Mine.off7 (offR p hp))
    have hyl : ys.length ≤ S.rs.length + 3 := by
      have e := ((told_in hAR told) h' (fun _ => True) (At.append hRh' AR) fun _ _ => trivial).length
      rw [List.length_map] at e; omega
    have G := fun n3 => W.hit (n3 := n3) (k := k) (us := us) hbt nf off2 hu' ho hne (free_ne hf h175).symm hAR told hyl
    refine ret1 t' _ R2 _ _ rl2 h' tk' F' (fun new hR => News.cons' A'.2.2.2.2.2.2.1 (new_ne F hf) (News.append' (Rep3.news (by exact ⟨A'.1, A'.2.1, A'.2.2.1, A'.2.2.2.1, A'.2.2.2.2.1, A'.2.2.2.2.2.1, trivial⟩) kp hR N) NR.1)) offall NR.2 ho hne (fun q hq => (free_ne hf (N q hq).1).symm) (G 0).1 (fun n3 => (G n3).2) nf.tx q.h3 q.h4 q.h5 (by show S1.cells.length ≤ 200000; omega) (by show ys.length ≤ 300000; omega)
end
def PJ (w : World) (sa : Addr) (T : Nat → Nat → Tok) (txs : List (List Value)) (tvs ks : List Value) (dk tl kl : Addr) (step star : Int) (tst ts : Tok) (nt nk : Nat) (I ax : Addr) (it lo : Obj) (u : Str → Option Value) (n : Nat) (m : Str → Option Value) (news : List (Addr × Obj)) : Prop :=
  ∃ A S R bse app rem kpre junk here ta th, PW w A S R ks bse app rem kpre junk txs tvs step here star ∧ rem.length = n ∧ (∀ i, i < 16 → tl ≠ A i) ∧ (∀ i, i < 16 → kl ≠ A i) ∧ (∀ i, i < 16 → I ≠ A i) ∧ (∀ i, i < 16 → ax ≠ A i) ∧ (∀ p ∈ R, p.1 ≠ I) ∧ m = (fun y => if y = Str.ofString "step" then some (.int step tst) else if y = Str.ofString "at" then some (.int (((flat (kpre ++ rem.reverse)).length : Nat) : Int) ta) else if y = Str.ofString "kept" then some (.ref kl) else if y = Str.ofString "here" then some (.int here th) else if y = Str.ofString "turn" then u y else if y = Str.ofString "texts" then some (.ref tl) else if y = Str.ofString "the_saved" then some (.int star ts) else if y = Str.ofString "marker" then some (.ref (A 11)) else if y = Str.ofString "deck" then some (.ref dk) else if y = Str.ofString "buffer" then some (.ref (A 7)) else List.lookup y [(Str.ofString "script", Value.ref sa)]) ∧ news = (I, it) :: (ax, lo) :: (tl, listOf tvs.toArray nt) :: (kl, listOf ks.toArray nk) :: (ledL w A T S ++ (cstL w A T ++ R))
theorem frameW {X : Str → Option Value} {v1 v2 v3 v4 vs vk : Value} : (fun y => if y = Str.ofString "at" then some v1 else if y = Str.ofString "here" then some v2 else if y = Str.ofString "step" then some vs else if y = Str.ofString "at" then some v3 else if y = Str.ofString "kept" then some vk else if y = Str.ofString "here" then some v4 else X y) = (fun y => if y = Str.ofString "step" then some vs else if y = Str.ofString "at" then some v1 else if y = Str.ofString "kept" then some vk else if y = Str.ofString "here" then some v2 else X y) := by
  funext y
  by_cases h1 : y = Str.ofString "at"
  · subst h1; rfl
  · by_cases h2 : y = Str.ofString "here"
    · subst h2; rfl
    · simp only [if_neg h1, if_neg h2]
def WFin (w : World) (g' : Heap) (L' sa : Addr) (T : Nat → Nat → Tok) (txs : List (List Value)) (tvs ks : List Value) (dk tl kl : Addr) (step star : Int) (tst ts : Tok) (nt nk : Nat) (I ax : Addr) (it lo : Obj) (u : Str → Option Value) (n : Nat) (gn : Array GenState) (dr : Drawn) (os : OsState) (Q : Flow → Shared → Prop) : Prop :=
  ∀ m' news' h tk, Fr g' L' h m' → News g' L' h news' → PJ w sa T txs tvs ks dk tl kl step star tst ts nt nk I ax it lo u n m' news' → Q .next ⟨h, gn, dr, tk, os⟩
theorem mod_false {a b c d : Int} (h : a < b ↔ c ≠ d) (k : (decide (a < b) != (c != d)) = true) : False := by
  by_cases q : a < b
  · have e := h.mp q
    simp [q, e] at k
  · have e : c = d := Decidable.byContradiction fun e => q (h.mpr e)
    simp [q, e] at k
theorem w1_end0 {w : World} {g' h : Heap} {L' sa : Addr} {A : Nat → Addr} {T : Nat → Nat → Tok} {S1 : St} {R R2 : List (Addr × Obj)} {I ax : Addr} {it lo oc : Obj} {Y : List (Addr × Obj)} {txs : List (List Value)} {tvs ks : List Value} {dk tl kl D1 D2 : Addr} {o1 o2 : Obj} {step star here : Int} {tst ts ta th : Tok} {nt nk n3 tk : Nat} {v3 v4 : Value} {u : Str → Option Value} {bse app r kpre junk : List Grp} {gn : Array GenState} {dr : Drawn} {os : OsState} {Q : Flow → Shared → Prop}
    (fin : WFin w g' L' sa T txs tvs ks dk tl kl step star tst ts nt nk I ax it lo u r.length gn dr os Q) (W : ∀ n3, PW w A (S3 S1 n3) (R ++ R2) ks bse app r kpre junk txs tvs step (here + step) star) (ot : ∀ i, i < 16 → tl ≠ A i) (okl : ∀ i, i < 16 → kl ≠ A i) (oI : ∀ i, i < 16 → I ≠ A i) (oax : ∀ i, i < 16 → ax ≠ A i) (iR : ∀ p ∈ R, p.1 ≠ I) (iR2 : ∀ p ∈ R2, NeAll p.1 ((I, oc) :: Y))
    (F : Fr g' L' h (fun y => if y = Str.ofString "at" then some (.int (((flat (kpre ++ r.reverse)).length : Nat) : Int) ta) else if y = Str.ofString "here" then some (.int (here + step) th) else if y = Str.ofString "step" then some (.int step tst) else if y = Str.ofString "at" then some v3 else if y = Str.ofString "kept" then some (.ref kl) else if y = Str.ofString "here" then some v4 else if y = Str.ofString "turn" then u y else if y = Str.ofString "texts" then some (.ref tl) else if y = Str.ofString "the_saved" then some (.int star ts) else if y = Str.ofString "marker" then some (.ref (A 11)) else if y = Str.ofString "deck" then some (.ref dk) else if y = Str.ofString "buffer" then some (.ref (A 7)) else List.lookup y [(Str.ofString "script", Value.ref sa)])) (N : News g' L' h ((D1, o1) :: (D2, o2) :: (I, it) :: (ax, lo) :: (tl, listOf tvs.toArray nt) :: (kl, listOf ks.toArray nk) :: (ledL w A T (S3 S1 n3) ++ (cstL w A T ++ (R ++ R2))))) : Q .next ⟨h, gn, dr, tk, os⟩ :=
  fin _ _ h tk F (fun p hp => N p (.tail _ (.tail _ hp))) ⟨A, S3 S1 n3, R ++ R2, bse, app, r, kpre, junk, here + step, ta, th, W n3, rfl, ot, okl, oI, oax, fun p hp => (List.mem_append.mp hp).elim (iR p) (fun h => ((iR2 p h).at (.head _)).symm), frameW, rfl⟩
namespace w1_end1N
def zP (w : World) (g' h : Heap) (L' sa : Addr) (A : Nat → Addr) (T : Nat → Nat → Tok) (S1 : St) (R R2 : List (Addr × Obj)) (I ax : Addr) (it lo oc od : Obj) (Y : List (Addr × Obj)) (txs : List (List Value)) (tvs ks : List Value) (dk tl kl D1 D2 rl2 : Addr) (o1 o2 : Obj) (step star here : Int) (tst ts ta th : Tok) (nt nk n3 tk : Nat) (v3 v4 : Value) (u : Str → Option Value) (bse app r kpre junk : List Grp) (gn : Array GenState) (dr : Drawn) (os : OsState) (Q : Flow → Shared → Prop) (X : List (Addr × Obj)) (oa ob : Obj) : Prop := ∀ (fin : WFin w g' L' sa T txs tvs ks dk tl kl step star tst ts nt nk I ax it lo u r.length gn dr os Q) (W : ∀ n3, PW w (set6 A rl2) (S3 S1 n3) (R ++ R2) ks bse app r kpre junk txs tvs step (here + step) star) (ot : ∀ i, i < 16 → tl ≠ A i) (okl : ∀ i, i < 16 → kl ≠ A i) (oI : ∀ i, i < 16 → I ≠ A i) (oax : ∀ i, i < 16 → ax ≠ A i) (iR : ∀ p ∈ R, p.1 ≠ I) (iR2 : ∀ p ∈ R2, NeAll p.1 ((I, oc) :: Y)) (nr : NeAll rl2 ((I, oc) :: (ax, od) :: (tl, oa) :: (kl, ob) :: X)) (F : Fr g' L' h (fun y => if y = Str.ofString "at" then some (.int (((flat (kpre ++ r.reverse)).length : Nat) : Int) ta) else if y = Str.ofString "here" then some (.int (here + step) th) else if y = Str.ofString "step" then some (.int step tst) else if y = Str.ofString "at" then some v3 else if y = Str.ofString "kept" then some (.ref kl) else if y = Str.ofString "here" then some v4 else if y = Str.ofString "turn" then u y else if y = Str.ofString "texts" then some (.ref tl) else if y = Str.ofString "the_saved" then some (.int star ts) else if y = Str.ofString "marker" then some (.ref (A 11)) else if y = Str.ofString "deck" then some (.ref dk) else if y = Str.ofString "buffer" then some (.ref (A 7)) else List.lookup y [(Str.ofString "script", Value.ref sa)])) (N : News g' L' h ((D1, o1) :: (D2, o2) :: (rl2, listOf (S1.rs ++ [Value.ref 175]).toArray n3) :: (I, it) :: (ax, lo) :: (tl, listOf tvs.toArray nt) :: (kl, listOf ks.toArray nk) :: (A 0, dictOf (bufEs w.params (T 0) (T 1) (A 8) (A 9) (A 15) (.ref (A 13)) S1.pt S1.zv S1.ti S1.ct S1.sv S1.up S1.uz S1.ut S1.uc S1.us) 20) :: (A 1, dictOf (gapEs w.params (T 2) (.int 8 (T 2 9)) (.ref (A 2)) S1.gs S1.ge S1.gu S1.gv) 4) :: (A 2, listOf S1.cells.toArray S1.nc) :: (A 3, dictOf (mkEs w.params (T 3) S1.adv S1.bv S1.pos S1.um S1.vp) 4) :: (A 4, S1.okr) :: (A 5, dictOf (ulEs w.params (T 4) rl2 0 (T 4 9) S1.nv) 5) :: (cstL w A T ++ (R ++ R2)))), Q .next ⟨h, gn, dr, tk, os⟩
abbrev zT := (World × Heap × Heap × Addr × Addr × (Nat → Addr) × (Nat → Nat → Tok)) × (St × (List (Addr × Obj)) × (List (Addr × Obj)) × Addr × Addr × Obj × Obj) × (Obj × Obj × (List (Addr × Obj)) × (List (List Value)) × (List Value) × (List Value) × Addr) × (Addr × Addr × Addr × Addr × Addr × Obj × Obj) × (Int × Int × Int × Tok × Tok × Tok × Tok) × (Nat × Nat × Nat × Nat × Value × Value × (Str → Option Value)) × ((List Grp) × (List Grp) × (List Grp) × (List Grp) × (List Grp) × (Array GenState) × Drawn) × (OsState × (Flow → Shared → Prop) × (List (Addr × Obj)) × Obj × Obj)
def zQ (x : zT) : Prop := zP x.1.1 x.1.2.1 x.1.2.2.1 x.1.2.2.2.1 x.1.2.2.2.2.1 x.1.2.2.2.2.2.1 x.1.2.2.2.2.2.2 x.2.1.1 x.2.1.2.1 x.2.1.2.2.1 x.2.1.2.2.2.1 x.2.1.2.2.2.2.1 x.2.1.2.2.2.2.2.1 x.2.1.2.2.2.2.2.2 x.2.2.1.1 x.2.2.1.2.1 x.2.2.1.2.2.1 x.2.2.1.2.2.2.1 x.2.2.1.2.2.2.2.1 x.2.2.1.2.2.2.2.2.1 x.2.2.1.2.2.2.2.2.2 x.2.2.2.1.1 x.2.2.2.1.2.1 x.2.2.2.1.2.2.1 x.2.2.2.1.2.2.2.1 x.2.2.2.1.2.2.2.2.1 x.2.2.2.1.2.2.2.2.2.1 x.2.2.2.1.2.2.2.2.2.2 x.2.2.2.2.1.1 x.2.2.2.2.1.2.1 x.2.2.2.2.1.2.2.1 x.2.2.2.2.1.2.2.2.1 x.2.2.2.2.1.2.2.2.2.1 x.2.2.2.2.1.2.2.2.2.2.1 x.2.2.2.2.1.2.2.2.2.2.2 x.2.2.2.2.2.1.1 x.2.2.2.2.2.1.2.1 x.2.2.2.2.2.1.2.2.1 x.2.2.2.2.2.1.2.2.2.1 x.2.2.2.2.2.1.2.2.2.2.1 x.2.2.2.2.2.1.2.2.2.2.2.1 x.2.2.2.2.2.1.2.2.2.2.2.2 x.2.2.2.2.2.2.1.1 x.2.2.2.2.2.2.1.2.1 x.2.2.2.2.2.2.1.2.2.1 x.2.2.2.2.2.2.1.2.2.2.1 x.2.2.2.2.2.2.1.2.2.2.2.1 x.2.2.2.2.2.2.1.2.2.2.2.2.1 x.2.2.2.2.2.2.1.2.2.2.2.2.2 x.2.2.2.2.2.2.2.1 x.2.2.2.2.2.2.2.2.1 x.2.2.2.2.2.2.2.2.2.1 x.2.2.2.2.2.2.2.2.2.2.1 x.2.2.2.2.2.2.2.2.2.2.2
theorem zne : Nonempty zT := by k_extra "zne"
def zX : zT := pk zne zQ
def h := zX.1.2.2.1
theorem body : zP zX.1.1 zX.1.2.1 h zX.1.2.2.2.1 zX.1.2.2.2.2.1 zX.1.2.2.2.2.2.1 zX.1.2.2.2.2.2.2 zX.2.1.1 zX.2.1.2.1 zX.2.1.2.2.1 zX.2.1.2.2.2.1 zX.2.1.2.2.2.2.1 zX.2.1.2.2.2.2.2.1 zX.2.1.2.2.2.2.2.2 zX.2.2.1.1 zX.2.2.1.2.1 zX.2.2.1.2.2.1 zX.2.2.1.2.2.2.1 zX.2.2.1.2.2.2.2.1 zX.2.2.1.2.2.2.2.2.1 zX.2.2.1.2.2.2.2.2.2 zX.2.2.2.1.1 zX.2.2.2.1.2.1 zX.2.2.2.1.2.2.1 zX.2.2.2.1.2.2.2.1 zX.2.2.2.1.2.2.2.2.1 zX.2.2.2.1.2.2.2.2.2.1 zX.2.2.2.1.2.2.2.2.2.2 zX.2.2.2.2.1.1 zX.2.2.2.2.1.2.1 zX.2.2.2.2.1.2.2.1 zX.2.2.2.2.1.2.2.2.1 zX.2.2.2.2.1.2.2.2.2.1 zX.2.2.2.2.1.2.2.2.2.2.1 zX.2.2.2.2.1.2.2.2.2.2.2 zX.2.2.2.2.2.1.1 zX.2.2.2.2.2.1.2.1 zX.2.2.2.2.2.1.2.2.1 zX.2.2.2.2.2.1.2.2.2.1 zX.2.2.2.2.2.1.2.2.2.2.1 zX.2.2.2.2.2.1.2.2.2.2.2.1 zX.2.2.2.2.2.1.2.2.2.2.2.2 zX.2.2.2.2.2.2.1.1 zX.2.2.2.2.2.2.1.2.1 zX.2.2.2.2.2.2.1.2.2.1 zX.2.2.2.2.2.2.1.2.2.2.1 zX.2.2.2.2.2.2.1.2.2.2.2.1 zX.2.2.2.2.2.2.1.2.2.2.2.2.1 zX.2.2.2.2.2.2.1.2.2.2.2.2.2 zX.2.2.2.2.2.2.2.1 zX.2.2.2.2.2.2.2.2.1 zX.2.2.2.2.2.2.2.2.2.1 zX.2.2.2.2.2.2.2.2.2.2.1 zX.2.2.2.2.2.2.2.2.2.2.2 := by
  intro fin W ot okl oI oax iR iR2 nr F N
  have h1 : zX.2.2.2.1.1 ≠ zX.2.2.2.1.2.2.2.2.1 := nr.at (.tail _ (.tail _ (.head _)))
  have h2 : zX.2.2.2.1.2.1 ≠ zX.2.2.2.1.2.2.2.2.1 := nr.at (.tail _ (.tail _ (.tail _ (.head _))))
  have h3 : zX.2.1.2.2.2.1 ≠ zX.2.2.2.1.2.2.2.2.1 := nr.at (.head _)
  have h4 : zX.2.1.2.2.2.2.1 ≠ zX.2.2.2.1.2.2.2.2.1 := nr.at (.tail _ (.head _))
  refine fin _ ((zX.2.1.2.2.2.1, zX.2.1.2.2.2.2.2.1) :: (zX.2.1.2.2.2.2.1, zX.2.1.2.2.2.2.2.2) :: (zX.2.2.2.1.1, listOf zX.2.2.1.2.2.2.2.1.toArray zX.2.2.2.2.2.1.1) :: (zX.2.2.2.1.2.1, listOf zX.2.2.1.2.2.2.2.2.1.toArray zX.2.2.2.2.2.1.2.1) :: (ledL zX.1.1 (set6 zX.1.2.2.2.2.2.1 zX.2.2.2.1.2.2.2.2.1) zX.1.2.2.2.2.2.2 (S3 zX.2.1.1 zX.2.2.2.2.2.1.2.2.1) ++ (cstL zX.1.1 (set6 zX.1.2.2.2.2.2.1 zX.2.2.2.1.2.2.2.2.1) zX.1.2.2.2.2.2.2 ++ (zX.2.1.2.1 ++ zX.2.1.2.2.1)))) h zX.2.2.2.2.2.1.2.2.2.1 F (fun p hp => ?_) ⟨set6 zX.1.2.2.2.2.2.1 zX.2.2.2.1.2.2.2.2.1, S3 zX.2.1.1 zX.2.2.2.2.2.1.2.2.1, zX.2.1.2.1 ++ zX.2.1.2.2.1, zX.2.2.2.2.2.2.1.1, zX.2.2.2.2.2.2.1.2.1, zX.2.2.2.2.2.2.1.2.2.1, zX.2.2.2.2.2.2.1.2.2.2.1, zX.2.2.2.2.2.2.1.2.2.2.2.1, zX.2.2.2.2.1.2.2.1 + zX.2.2.2.2.1.1, zX.2.2.2.2.1.2.2.2.2.2.1, zX.2.2.2.2.1.2.2.2.2.2.2, W zX.2.2.2.2.2.1.2.2.1, rfl, set6_off ot h1, set6_off okl h2, set6_off oI h3, set6_off oax h4, fun p hp => (List.mem_append.mp hp).elim (iR p) (fun h => ((iR2 p h).at (.head _)).symm), frameW, rfl⟩
  have hp' : p ∈ (zX.2.1.2.2.2.1, zX.2.1.2.2.2.2.2.1) :: (zX.2.1.2.2.2.2.1, zX.2.1.2.2.2.2.2.2) :: (zX.2.2.2.1.1, listOf zX.2.2.1.2.2.2.2.1.toArray zX.2.2.2.2.2.1.1) :: (zX.2.2.2.1.2.1, listOf zX.2.2.1.2.2.2.2.2.1.toArray zX.2.2.2.2.2.1.2.1) :: (zX.1.2.2.2.2.2.1 0, dictOf (bufEs zX.1.1.params (zX.1.2.2.2.2.2.2 0) (zX.1.2.2.2.2.2.2 1) (zX.1.2.2.2.2.2.1 8) (zX.1.2.2.2.2.2.1 9) (zX.1.2.2.2.2.2.1 15) (.ref (zX.1.2.2.2.2.2.1 13)) zX.2.1.1.pt zX.2.1.1.zv zX.2.1.1.ti zX.2.1.1.ct zX.2.1.1.sv zX.2.1.1.up zX.2.1.1.uz zX.2.1.1.ut zX.2.1.1.uc zX.2.1.1.us) 20) :: (zX.1.2.2.2.2.2.1 1, dictOf (gapEs zX.1.1.params (zX.1.2.2.2.2.2.2 2) (.int 8 (zX.1.2.2.2.2.2.2 2 9)) (.ref (zX.1.2.2.2.2.2.1 2)) zX.2.1.1.gs zX.2.1.1.ge zX.2.1.1.gu zX.2.1.1.gv) 4) :: (zX.1.2.2.2.2.2.1 2, listOf zX.2.1.1.cells.toArray zX.2.1.1.nc) :: (zX.1.2.2.2.2.2.1 3, dictOf (mkEs zX.1.1.params (zX.1.2.2.2.2.2.2 3) zX.2.1.1.adv zX.2.1.1.bv zX.2.1.1.pos zX.2.1.1.um zX.2.1.1.vp) 4) :: (zX.1.2.2.2.2.2.1 4, zX.2.1.1.okr) :: (zX.1.2.2.2.2.2.1 5, dictOf (ulEs zX.1.1.params (zX.1.2.2.2.2.2.2 4) zX.2.2.2.1.2.2.2.2.1 0 (zX.1.2.2.2.2.2.2 4 9) zX.2.1.1.nv) 5) :: (zX.2.2.2.1.2.2.2.2.1, listOf (zX.2.1.1.rs ++ [Value.ref 175]).toArray zX.2.2.2.2.2.1.2.2.1) :: (cstL zX.1.1 zX.1.2.2.2.2.2.1 zX.1.2.2.2.2.2.2 ++ (zX.2.1.2.1 ++ zX.2.1.2.2.1)) := hp
  refine N p (List.mem_cons_of_mem _ (List.mem_cons_of_mem _ ?_))
  simp only [List.mem_cons] at hp' ⊢
  rcases hp' with q | q | q | q | q | q | q | q | q | q | q | q
  · exact .inr (.inl q)
  · exact .inr (.inr (.inl q))
  · exact .inr (.inr (.inr (.inl q)))
  · exact .inr (.inr (.inr (.inr (.inl q))))
  · exact .inr (.inr (.inr (.inr (.inr (.inl q)))))
  · exact .inr (.inr (.inr (.inr (.inr (.inr (.inl q))))))
  · exact .inr (.inr (.inr (.inr (.inr (.inr (.inr (.inl q)))))))
  · exact .inr (.inr (.inr (.inr (.inr (.inr (.inr (.inr (.inl q))))))))
  · exact .inr (.inr (.inr (.inr (.inr (.inr (.inr (.inr (.inr (.inl q)))))))))
  · exact .inr (.inr (.inr (.inr (.inr (.inr (.inr (.inr (.inr (.inr (.inl q))))))))))
  · exact .inl q
  · exact .inr (.inr (.inr (.inr (.inr (.inr (.inr (.inr (.inr (.inr (.inr (q)))))))))))
end w1_end1N
theorem w1_end1 {w g' h L' sa A T S1 R R2 I ax it lo oc od Y txs tvs ks dk tl kl D1 D2 rl2 o1 o2 step star here tst ts ta th nt nk n3 tk v3 v4 u bse app r kpre junk gn dr os Q X oa ob} : w1_end1N.zP w g' h L' sa A T S1 R R2 I ax it lo oc od Y txs tvs ks dk tl kl D1 D2 rl2 o1 o2 step star here tst ts ta th nt nk n3 tk v3 v4 u bse app r kpre junk gn dr os Q X oa ob := pk_all (n := w1_end1N.zne) (P := w1_end1N.zQ) w1_end1N.body ((w, g', h, L', sa, A, T), (S1, R, R2, I, ax, it, lo), (oc, od, Y, txs, tvs, ks, dk), (tl, kl, D1, D2, rl2, o1, o2), (step, star, here, tst, ts, ta, th), (nt, nk, n3, tk, v3, v4, u), (bse, app, r, kpre, junk, gn, dr), (os, Q, X, oa, ob))
theorem off7all {A : Nat → Addr} {R : List (Addr × Obj)} (h : OffAll A R) : ∀ p ∈ R, p.1 ∉ [A 0, A 1, A 2, A 3, A 4, A 5, A 6] := fun p hp => off7 (h p hp)
section
open N_L7
noncomputable def whileBody (l : List Stmt) : List Stmt := stmtBody ((stmtBody l).drop 3)
namespace law_w1N
abbrev zS (w : World) (p : Program) (loose : List Str) (mean : ExcName → Option Value) (mg mb : Str → Option Value) (base g' h' : Heap) (L' fa sa : Addr) (cdv : Value) (gn : Array GenState) (dr : Drawn) (tk' : Nat) (os : OsState) (Q : Flow → Shared → Prop) (A : Nat → Addr) (T : Nat → Nat → Tok) (S : St) (R : List (Addr × Obj)) (ks : List Value) (bse app r kpre junk : List Grp) (g : Grp) (txs : List (List Value)) (tvs : List Value) (step here star : Int) (dk tl kl td I ax : Addr) (it lo' : Obj) (tst ta th ts : Tok) (nt nk ntd : Nat) (u : Str → Option Value) (b : List Value) : Prop := let AA := callerA.deeper (envOf dL.1.name dL.1.scope L' fa cdv); AA.depth = callerA.depth + 1 → AA.units = callerA.units + 3 → Fr g' L' h' (fun y => if y = Str.ofString "step" then some (.int step tst) else if y = Str.ofString "at" then some (.int (((flat (kpre ++ (g :: r).reverse)).length : Nat) : Int) ta) else if y = Str.ofString "kept" then some (.ref kl) else if y = Str.ofString "here" then some (.int here th) else if y = Str.ofString "turn" then u y else if y = Str.ofString "texts" then some (.ref tl) else if y = Str.ofString "the_saved" then some (.int star ts) else if y = Str.ofString "marker" then some (.ref (A 11)) else if y = Str.ofString "deck" then some (.ref dk) else if y = Str.ofString "buffer" then some (.ref (A 7)) else List.lookup y [(Str.ofString "script", Value.ref sa)]) → News g' L' h' ((I, it) :: (ax, lo') :: (tl, listOf tvs.toArray nt) :: (kl, listOf ks.toArray nk) :: (ledL w A T S ++ (cstL w A T ++ R))) → wpAny (model pw w) AA (execs (whileBody (dL.1.body.drop 9)) (envOf dL.1.name dL.1.scope L' fa cdv)) Q (fun _ _ => False) ⟨h', gn, dr, tk', os⟩
def zP (w : World) (p : Program) (loose : List Str) (mean : ExcName → Option Value) (mg mb : Str → Option Value) (base g' h' : Heap) (L' fa sa : Addr) (cdv : Value) (gn : Array GenState) (dr : Drawn) (tk' : Nat) (os : OsState) (Q : Flow → Shared → Prop) (A : Nat → Addr) (T : Nat → Nat → Tok) (S : St) (R : List (Addr × Obj)) (ks : List Value) (bse app r kpre junk : List Grp) (g : Grp) (txs : List (List Value)) (tvs : List Value) (step here star : Int) (dk tl kl td I ax : Addr) (it lo' : Obj) (tst ta th ts : Tok) (nt nk ntd : Nat) (u : Str → Option Value) (b : List Value) : Prop := ∀ (B' : Below callerA base [] g') (X' : (KK w.params).In g') (T' : Top p loose mean mg mb g') (hA : At g' []) (hd : callerA.depth + 600 < recursionLimit) (hu : callerA.units + 9000 < cLine) (W : PW w A S R ks bse app (g :: r) kpre junk txs tvs step here star) (hbt : txs[g.j.toNat]? = some b) (hx : tvs[(here + step).toNat]? = some (.ref td)) (hm : (td, listOf b.toArray ntd) ∈ R) (ot : ∀ i, i < 16 → tl ≠ A i) (okl : ∀ i, i < 16 → kl ≠ A i) (oI : ∀ i, i < 16 → I ≠ A i) (oax : ∀ i, i < 16 → ax ≠ A i) (iR : ∀ p ∈ R, p.1 ≠ I) (hs : 0 ≤ here + step) (hs2 : here + step < tvs.length) (htv : tvs.length ≤ 7) (hb : AllInts b) (hmod : S.sv < S.ti ↔ here ≠ star) (fin : WFin w g' L' sa T txs tvs ks dk tl kl step star tst ts nt nk I ax it lo' u r.length gn dr os Q), zS w p loose mean mg mb base g' h' L' fa sa cdv gn dr tk' os Q A T S R ks bse app r kpre junk g txs tvs step here star dk tl kl td I ax it lo' tst ta th ts nt nk ntd u b
abbrev zT := (World × Program × (List Str) × (ExcName → Option Value) × (Str → Option Value) × (Str → Option Value) × Heap) × (Heap × Heap × Addr × Addr × Addr × Value × (Array GenState)) × (Drawn × Nat × OsState × (Flow → Shared → Prop) × (Nat → Addr) × (Nat → Nat → Tok) × St) × ((List (Addr × Obj)) × (List Value) × (List Grp) × (List Grp) × (List Grp) × (List Grp) × (List Grp)) × (Grp × (List (List Value)) × (List Value) × Int × Int × Int × Addr) × (Addr × Addr × Addr × Addr × Addr × Obj × Obj) × (Tok × Tok × Tok × Tok × Nat × Nat × Nat) × ((Str → Option Value) × (List Value))
def zQ (x : zT) : Prop := zP x.1.1 x.1.2.1 x.1.2.2.1 x.1.2.2.2.1 x.1.2.2.2.2.1 x.1.2.2.2.2.2.1 x.1.2.2.2.2.2.2 x.2.1.1 x.2.1.2.1 x.2.1.2.2.1 x.2.1.2.2.2.1 x.2.1.2.2.2.2.1 x.2.1.2.2.2.2.2.1 x.2.1.2.2.2.2.2.2 x.2.2.1.1 x.2.2.1.2.1 x.2.2.1.2.2.1 x.2.2.1.2.2.2.1 x.2.2.1.2.2.2.2.1 x.2.2.1.2.2.2.2.2.1 x.2.2.1.2.2.2.2.2.2 x.2.2.2.1.1 x.2.2.2.1.2.1 x.2.2.2.1.2.2.1 x.2.2.2.1.2.2.2.1 x.2.2.2.1.2.2.2.2.1 x.2.2.2.1.2.2.2.2.2.1 x.2.2.2.1.2.2.2.2.2.2 x.2.2.2.2.1.1 x.2.2.2.2.1.2.1 x.2.2.2.2.1.2.2.1 x.2.2.2.2.1.2.2.2.1 x.2.2.2.2.1.2.2.2.2.1 x.2.2.2.2.1.2.2.2.2.2.1 x.2.2.2.2.1.2.2.2.2.2.2 x.2.2.2.2.2.1.1 x.2.2.2.2.2.1.2.1 x.2.2.2.2.2.1.2.2.1 x.2.2.2.2.2.1.2.2.2.1 x.2.2.2.2.2.1.2.2.2.2.1 x.2.2.2.2.2.1.2.2.2.2.2.1 x.2.2.2.2.2.1.2.2.2.2.2.2 x.2.2.2.2.2.2.1.1 x.2.2.2.2.2.2.1.2.1 x.2.2.2.2.2.2.1.2.2.1 x.2.2.2.2.2.2.1.2.2.2.1 x.2.2.2.2.2.2.1.2.2.2.2.1 x.2.2.2.2.2.2.1.2.2.2.2.2.1 x.2.2.2.2.2.2.1.2.2.2.2.2.2 x.2.2.2.2.2.2.2.1 x.2.2.2.2.2.2.2.2
theorem zne : Nonempty zT := by k_extra "zne"
def zX : zT := pk zne zQ
noncomputable abbrev AA : Around := callerA.deeper (envOf dL.1.name dL.1.scope zX.2.1.2.2.1 zX.2.1.2.2.2.1 zX.2.1.2.2.2.2.2.1)
theorem body : zQ zX := by
  intro B' X' T' hA hd hu W hbt hx hm ot okl oI oax iR hs hs2 htv hb hmod fin
  delta zS
  intro AA0; have eAA : AA0 = AA := rfl; clear_value AA0; subst eAA
  intro dA uA F' N'
  have off := W.off
  have hI := W.hI
  have lo := W.lo
  dsimp only [ledL, cstL, List.cons_append, List.nil_append] at N'
  show wpAny (model pw zX.1.1) AA (execs (whileBody (List.drop 9 _)) _) zX.2.2.1.2.2.2.1 (fun _ _ => False) _
  (try dsimp only [List.drop, whileBody, stmtBody, parts])
  (try k_fold)
  k_steps
  all_goals (try dsimp only)
  all_goals (try exact absurd (by assumption) (mod_false hmod))
  · refine' w1_end0 fin ?W ot okl oI oax iR ?i2 ?F ?N
    case W => assumption
    case i2 => assumption
    case F => assumption
    case N => assumption
  · refine' w1_end1 fin ?W ot okl oI oax iR ?i2 ?nr ?F ?N
    case W => assumption
    case i2 => assumption
    case nr => assumption
    case F => assumption
    case N => assumption
end law_w1N
theorem law_w1 (w : World) (p : Program) (loose : List Str) (mean : ExcName → Option Value) (mg mb : Str → Option Value) (base g' h' : Heap) (L' fa sa : Addr) (cdv : Value) (gn : Array GenState) (dr : Drawn) (tk' : Nat) (os : OsState) (Q : Flow → Shared → Prop) (B' : Below callerA base [] g') (X' : (KK w.params).In g') (T' : Top p loose mean mg mb g') (hA : At g' []) (hd : callerA.depth + 600 < recursionLimit) (hu : callerA.units + 9000 < cLine) (A : Nat → Addr) (T : Nat → Nat → Tok) (S : St) (R : List (Addr × Obj)) (ks : List Value) (bse app r kpre junk : List Grp) (g : Grp) (txs : List (List Value)) (tvs : List Value) (step here star : Int) (dk tl kl td I ax : Addr) (it lo' : Obj) (tst ta th ts : Tok) (nt nk ntd : Nat) (u : Str → Option Value) (b : List Value) (W : PW w A S R ks bse app (g :: r) kpre junk txs tvs step here star) (hbt : txs[g.j.toNat]? = some b) (hx : tvs[(here + step).toNat]? = some (.ref td)) (hm : (td, listOf b.toArray ntd) ∈ R) (ot : ∀ i, i < 16 → tl ≠ A i) (okl : ∀ i, i < 16 → kl ≠ A i) (oI : ∀ i, i < 16 → I ≠ A i) (oax : ∀ i, i < 16 → ax ≠ A i) (iR : ∀ p ∈ R, p.1 ≠ I) (hs : 0 ≤ here + step) (hs2 : here + step < tvs.length) (htv : tvs.length ≤ 7) (hb : AllInts b) (hmod : S.sv < S.ti ↔ here ≠ star) (fin : WFin w g' L' sa T txs tvs ks dk tl kl step star tst ts nt nk I ax it lo' u r.length gn dr os Q) : law_w1N.zS w p loose mean mg mb base g' h' L' fa sa cdv gn dr tk' os Q A T S R ks bse app r kpre junk g txs tvs step here star dk tl kl td I ax it lo' tst ta th ts nt nk ntd u b := pk_all (n := law_w1N.zne) (P := law_w1N.zQ) law_w1N.body ((w, p, loose, mean, mg, mb, base), (g', h', L', fa, sa, cdv, gn), (dr, tk', os, Q, A, T, S), (R, ks, bse, app, r, kpre, junk), (g, txs, tvs, step, here, star, dk), (tl, kl, td, I, ax, it, lo'), (tst, ta, th, ts, nt, nk, ntd), (u, b)) B' X' T' hA hd hu W hbt hx hm ot okl oI oax iR hs hs2 htv hb hmod fin
end
section
open N_L8
noncomputable def whileTest (l : List Stmt) : PySem.Expr := forIter ((stmtBody l).drop 3)
namespace law_testN
def zP (w : World) (p : Program) (loose : List Str) (mean : ExcName → Option Value) (mg mb : Str → Option Value) (base g' h' : Heap) (L' fa sa : Addr) (cdv : Value) (gn : Array GenState) (dr : Drawn) (tk' : Nat) (os : OsState) (K : Bool → Shared → Prop) (tvs : List Value) (step here : Int) (tl : Addr) (tst th : Tok) (nt : Nat) (m₀ : Str → Option Value) (v1 v2 : Value) (news : List (Addr × Obj)) (u : Str → Option Value) (star : Int) (ts : Tok) (dk kl : Addr) (A : Nat → Addr) (at' : Int) (ta : Tok) : Prop := ∀ (B' : Below callerA base [] g') (X' : (KK w.params).In g') (T' : Top p loose mean mg mb g') (hA : At g' []) (hd : callerA.depth + 600 < recursionLimit) (hu : callerA.units + 9000 < cLine) (htv : tvs.length ≤ 7) (h0 : 0 ≤ here) (h1 : here ≤ 7) (hs : step = 1 ∨ step = -1) (tb : Bool) (ht : (tb = true ∧ 0 ≤ here + step ∧ here + step < tvs.length) ∨ (tb = false ∧ ¬ (0 ≤ here + step ∧ here + step < tvs.length))), let AA := callerA.deeper (envOf dL.1.name dL.1.scope L' fa cdv); AA.depth = callerA.depth + 1 → AA.units = callerA.units + 3 → Fr g' L' h' (fun y => if y = Str.ofString "step" then some (.int step tst) else if y = Str.ofString "at" then some (.int at' ta) else if y = Str.ofString "kept" then some (.ref kl) else if y = Str.ofString "here" then some (.int here th) else if y = Str.ofString "turn" then u y else if y = Str.ofString "texts" then some (.ref tl) else if y = Str.ofString "the_saved" then some (.int star ts) else if y = Str.ofString "marker" then some (.ref (A 11)) else if y = Str.ofString "deck" then some (.ref dk) else if y = Str.ofString "buffer" then some (.ref (A 7)) else List.lookup y [(Str.ofString "script", Value.ref sa)]) → News g' L' h' ((tl, listOf tvs.toArray nt) :: news) → (∀ h tk, Fr g' L' h (fun y => if y = Str.ofString "step" then some (.int step tst) else if y = Str.ofString "at" then some (.int at' ta) else if y = Str.ofString "kept" then some (.ref kl) else if y = Str.ofString "here" then some (.int here th) else if y = Str.ofString "turn" then u y else if y = Str.ofString "texts" then some (.ref tl) else if y = Str.ofString "the_saved" then some (.int star ts) else if y = Str.ofString "marker" then some (.ref (A 11)) else if y = Str.ofString "deck" then some (.ref dk) else if y = Str.ofString "buffer" then some (.ref (A 7)) else List.lookup y [(Str.ofString "script", Value.ref sa)]) → News g' L' h ((tl, listOf tvs.toArray nt) :: news) → (∀ b o, h'.get? b = some o → h.get? b = some o) → K tb ⟨h, gn, dr, tk, os⟩) → wpAny (model pw w) AA (isTrue (whileTest (dL.1.body.drop 9)) (envOf dL.1.name dL.1.scope L' fa cdv) (eval (whileTest (dL.1.body.drop 9)) (envOf dL.1.name dL.1.scope L' fa cdv))) K (fun _ _ => False) ⟨h', gn, dr, tk', os⟩
abbrev zT := (World × Program × (List Str) × (ExcName → Option Value) × (Str → Option Value) × (Str → Option Value)) × (Heap × Heap × Heap × Addr × Addr × Addr) × (Value × (Array GenState) × Drawn × Nat × OsState × (Bool → Shared → Prop)) × ((List Value) × Int × Int × Addr × Tok × Tok) × (Nat × (Str → Option Value) × Value × Value × (List (Addr × Obj)) × (Str → Option Value)) × (Int × Tok × Addr × Addr × (Nat → Addr) × Int) × Tok
def zQ (x : zT) : Prop := zP x.1.1 x.1.2.1 x.1.2.2.1 x.1.2.2.2.1 x.1.2.2.2.2.1 x.1.2.2.2.2.2 x.2.1.1 x.2.1.2.1 x.2.1.2.2.1 x.2.1.2.2.2.1 x.2.1.2.2.2.2.1 x.2.1.2.2.2.2.2 x.2.2.1.1 x.2.2.1.2.1 x.2.2.1.2.2.1 x.2.2.1.2.2.2.1 x.2.2.1.2.2.2.2.1 x.2.2.1.2.2.2.2.2 x.2.2.2.1.1 x.2.2.2.1.2.1 x.2.2.2.1.2.2.1 x.2.2.2.1.2.2.2.1 x.2.2.2.1.2.2.2.2.1 x.2.2.2.1.2.2.2.2.2 x.2.2.2.2.1.1 x.2.2.2.2.1.2.1 x.2.2.2.2.1.2.2.1 x.2.2.2.2.1.2.2.2.1 x.2.2.2.2.1.2.2.2.2.1 x.2.2.2.2.1.2.2.2.2.2 x.2.2.2.2.2.1.1 x.2.2.2.2.2.1.2.1 x.2.2.2.2.2.1.2.2.1 x.2.2.2.2.2.1.2.2.2.1 x.2.2.2.2.2.1.2.2.2.2.1 x.2.2.2.2.2.1.2.2.2.2.2 x.2.2.2.2.2.2
theorem zne : Nonempty zT := by k_extra "zne"
def zX : zT := pk zne zQ
noncomputable abbrev AA : Around := callerA.deeper (envOf dL.1.name dL.1.scope zX.2.1.2.2.2.1 zX.2.1.2.2.2.2.1 zX.2.2.1.1)
theorem body : zQ zX := by
  intro B' X' T' hA hd hu htv h0 h1 hs tb ht
  intro AA0; have eAA : AA0 = AA := rfl; clear_value AA0; subst eAA
  intro dA uA F' N' fin
  show wpAny (model pw zX.1.1) AA (isTrue (whileTest (List.drop 9 _)) _ (eval (whileTest (List.drop 9 _)) _)) zX.2.2.1.2.2.2.2.2 (fun _ _ => False) _
  (try dsimp only [List.drop, whileTest, forIter, stmtBody, parts])
  (try k_fold)
  rcases ht with ⟨rfl, hs1, hs2⟩ | ⟨rfl, hn⟩
  all_goals k_steps
  all_goals (try dsimp only)
  all_goals (try (exfalso; omega))
  · rw [decide_eq_true (show zX.2.2.2.1.2.2.1 + zX.2.2.2.1.2.1 < (zX.2.2.2.1.1.length : Int) from hs2)]
    exact fin _ _ F' N' fun _ _ e => e
  · rw [decide_eq_false (by omega)]
    exact fin _ _ F' N' fun _ _ e => e
  · exact fin _ _ F' N' fun _ _ e => e
end law_testN
theorem law_test (w : World) (p : Program) (loose : List Str) (mean : ExcName → Option Value) (mg mb : Str → Option Value) (base g' h' : Heap) (L' fa sa : Addr) (cdv : Value) (gn : Array GenState) (dr : Drawn) (tk' : Nat) (os : OsState) (K : Bool → Shared → Prop) (B' : Below callerA base [] g') (X' : (KK w.params).In g') (T' : Top p loose mean mg mb g') (hA : At g' []) (hd : callerA.depth + 600 < recursionLimit) (hu : callerA.units + 9000 < cLine) (tvs : List Value) (step here : Int) (tl : Addr) (tst th : Tok) (nt : Nat) (m₀ : Str → Option Value) (v1 v2 : Value) (news : List (Addr × Obj)) (htv : tvs.length ≤ 7) (h0 : 0 ≤ here) (h1 : here ≤ 7) (hs : step = 1 ∨ step = -1) (tb : Bool) (ht : (tb = true ∧ 0 ≤ here + step ∧ here + step < tvs.length) ∨ (tb = false ∧ ¬ (0 ≤ here + step ∧ here + step < tvs.length))) (u : Str → Option Value) (star : Int) (ts : Tok) (dk kl : Addr) (A : Nat → Addr) (at' : Int) (ta : Tok) : let AA := callerA.deeper (envOf dL.1.name dL.1.scope L' fa cdv); AA.depth = callerA.depth + 1 → AA.units = callerA.units + 3 → Fr g' L' h' (fun y => if y = Str.ofString "step" then some (.int step tst) else if y = Str.ofString "at" then some (.int at' ta) else if y = Str.ofString "kept" then some (.ref kl) else if y = Str.ofString "here" then some (.int here th) else if y = Str.ofString "turn" then u y else if y = Str.ofString "texts" then some (.ref tl) else if y = Str.ofString "the_saved" then some (.int star ts) else if y = Str.ofString "marker" then some (.ref (A 11)) else if y = Str.ofString "deck" then some (.ref dk) else if y = Str.ofString "buffer" then some (.ref (A 7)) else List.lookup y [(Str.ofString "script", Value.ref sa)]) → News g' L' h' ((tl, listOf tvs.toArray nt) :: news) → (∀ h tk, Fr g' L' h (fun y => if y = Str.ofString "step" then some (.int step tst) else if y = Str.ofString "at" then some (.int at' ta) else if y = Str.ofString "kept" then some (.ref kl) else if y = Str.ofString "here" then some (.int here th) else if y = Str.ofString "turn" then u y else if y = Str.ofString "texts" then some (.ref tl) else if y = Str.ofString "the_saved" then some (.int star ts) else if y = Str.ofString "marker" then some (.ref (A 11)) else if y = Str.ofString "deck" then some (.ref dk) else if y = Str.ofString "buffer" then some (.ref (A 7)) else List.lookup y [(Str.ofString "script", Value.ref sa)]) → News g' L' h ((tl, listOf tvs.toArray nt) :: news) → (∀ b o, h'.get? b = some o → h.get? b = some o) → K tb ⟨h, gn, dr, tk, os⟩) → wpAny (model pw w) AA (isTrue (whileTest (dL.1.body.drop 9)) (envOf dL.1.name dL.1.scope L' fa cdv) (eval (whileTest (dL.1.body.drop 9)) (envOf dL.1.name dL.1.scope L' fa cdv))) K (fun _ _ => False) ⟨h', gn, dr, tk', os⟩ := pk_all (n := law_testN.zne) (P := law_testN.zQ) law_testN.body ((w, p, loose, mean, mg, mb), (base, g', h', L', fa, sa), (cdv, gn, dr, tk', os, K), (tvs, step, here, tl, tst, th), (nt, m₀, v1, v2, news, u), (star, ts, dk, kl, A, at'), ta) B' X' T' hA hd hu htv h0 h1 hs tb ht
noncomputable def whileStmt (l : List Stmt) : Stmt := ((stmtBody l).drop 3).headD (.Pass default)
theorem while_eq {w : World} {AA : Around} {env : Env} {Q : Flow → Shared → Prop} {s : Shared} (h : ∀ pos, wpAny (model pw w) AA (exec (.While (whileTest (dL.1.body.drop 9)) (whileBody (dL.1.body.drop 9)) [] pos) env) Q (fun _ _ => False) s) : wpAny (model pw w) AA (exec (whileStmt (dL.1.body.drop 9)) env) Q (fun _ _ => False) s := h _
namespace law_whileN
def zP (w : World) (p : Program) (loose : List Str) (mean : ExcName → Option Value) (mg mb : Str → Option Value) (base g' h' : Heap) (L' fa sa : Addr) (cdv : Value) (gn : Array GenState) (dr : Drawn) (tk' : Nat) (os : OsState) (Q : Flow → Shared → Prop) (T : Nat → Nat → Tok) (txs : List (List Value)) (tvs ks : List Value) (dk tl kl I ax : Addr) (it lo' : Obj) (step star : Int) (tst ts : Tok) (nt nk n : Nat) (u m : Str → Option Value) (news : List (Addr × Obj)) : Prop := ∀ (B' : Below callerA base [] g') (X' : (KK w.params).In g') (T' : Top p loose mean mg mb g') (hA : At g' []) (hd : callerA.depth + 600 < recursionLimit) (hu : callerA.units + 9000 < cLine), let AA := callerA.deeper (envOf dL.1.name dL.1.scope L' fa cdv); AA.depth = callerA.depth + 1 → AA.units = callerA.units + 3 → PJ w sa T txs tvs ks dk tl kl step star tst ts nt nk I ax it lo' u n m news → Fr g' L' h' m → News g' L' h' news → (∀ m news h tk, PJ w sa T txs tvs ks dk tl kl step star tst ts nt nk I ax it lo' u 0 m news → Fr g' L' h m → News g' L' h news → Q .next ⟨h, gn, dr, tk, os⟩) → wpAny (model pw w) AA (exec (whileStmt (dL.1.body.drop 9)) (envOf dL.1.name dL.1.scope L' fa cdv)) Q (fun _ _ => False) ⟨h', gn, dr, tk', os⟩
abbrev zT := (World × Program × (List Str) × (ExcName → Option Value) × (Str → Option Value) × (Str → Option Value)) × (Heap × Heap × Heap × Addr × Addr × Addr) × (Value × (Array GenState) × Drawn × Nat × OsState × (Flow → Shared → Prop)) × ((Nat → Nat → Tok) × (List (List Value)) × (List Value) × (List Value) × Addr × Addr) × (Addr × Addr × Addr × Obj × Obj × Int) × (Int × Tok × Tok × Nat × Nat × Nat) × ((Str → Option Value) × (Str → Option Value) × (List (Addr × Obj)))
def zQ (x : zT) : Prop := zP x.1.1 x.1.2.1 x.1.2.2.1 x.1.2.2.2.1 x.1.2.2.2.2.1 x.1.2.2.2.2.2 x.2.1.1 x.2.1.2.1 x.2.1.2.2.1 x.2.1.2.2.2.1 x.2.1.2.2.2.2.1 x.2.1.2.2.2.2.2 x.2.2.1.1 x.2.2.1.2.1 x.2.2.1.2.2.1 x.2.2.1.2.2.2.1 x.2.2.1.2.2.2.2.1 x.2.2.1.2.2.2.2.2 x.2.2.2.1.1 x.2.2.2.1.2.1 x.2.2.2.1.2.2.1 x.2.2.2.1.2.2.2.1 x.2.2.2.1.2.2.2.2.1 x.2.2.2.1.2.2.2.2.2 x.2.2.2.2.1.1 x.2.2.2.2.1.2.1 x.2.2.2.2.1.2.2.1 x.2.2.2.2.1.2.2.2.1 x.2.2.2.2.1.2.2.2.2.1 x.2.2.2.2.1.2.2.2.2.2 x.2.2.2.2.2.1.1 x.2.2.2.2.2.1.2.1 x.2.2.2.2.2.1.2.2.1 x.2.2.2.2.2.1.2.2.2.1 x.2.2.2.2.2.1.2.2.2.2.1 x.2.2.2.2.2.1.2.2.2.2.2 x.2.2.2.2.2.2.1 x.2.2.2.2.2.2.2.1 x.2.2.2.2.2.2.2.2
theorem zne : Nonempty zT := by k_extra "zne"
def zX : zT := pk zne zQ
def n := zX.2.2.2.2.2.1.2.2.2.2.2
def m := zX.2.2.2.2.2.2.2.1
def news := zX.2.2.2.2.2.2.2.2
theorem body : zP zX.1.1 zX.1.2.1 zX.1.2.2.1 zX.1.2.2.2.1 zX.1.2.2.2.2.1 zX.1.2.2.2.2.2 zX.2.1.1 zX.2.1.2.1 zX.2.1.2.2.1 zX.2.1.2.2.2.1 zX.2.1.2.2.2.2.1 zX.2.1.2.2.2.2.2 zX.2.2.1.1 zX.2.2.1.2.1 zX.2.2.1.2.2.1 zX.2.2.1.2.2.2.1 zX.2.2.1.2.2.2.2.1 zX.2.2.1.2.2.2.2.2 zX.2.2.2.1.1 zX.2.2.2.1.2.1 zX.2.2.2.1.2.2.1 zX.2.2.2.1.2.2.2.1 zX.2.2.2.1.2.2.2.2.1 zX.2.2.2.1.2.2.2.2.2 zX.2.2.2.2.1.1 zX.2.2.2.2.1.2.1 zX.2.2.2.2.1.2.2.1 zX.2.2.2.2.1.2.2.2.1 zX.2.2.2.2.1.2.2.2.2.1 zX.2.2.2.2.1.2.2.2.2.2 zX.2.2.2.2.2.1.1 zX.2.2.2.2.2.1.2.1 zX.2.2.2.2.2.1.2.2.1 zX.2.2.2.2.2.1.2.2.2.1 zX.2.2.2.2.2.1.2.2.2.2.1 n zX.2.2.2.2.2.2.1 m news := by
  intro B' X' T' hA hd hu
  intro AA dA uA J F N done
  refine while_eq fun pos => ?_
  refine While_inv2 (s := ⟨zX.2.1.2.2.1, zX.2.2.1.2.1, zX.2.2.1.2.2.1, zX.2.2.1.2.2.2.1, zX.2.2.1.2.2.2.2.1⟩) (h₀ := zX.2.1.2.1) (L := zX.2.1.2.2.2.1) (fun n m news => PJ zX.1.1 zX.2.1.2.2.2.2.2 zX.2.2.2.1.1 zX.2.2.2.1.2.1 zX.2.2.2.1.2.2.1 zX.2.2.2.1.2.2.2.1 zX.2.2.2.1.2.2.2.2.1 zX.2.2.2.1.2.2.2.2.2 zX.2.2.2.2.1.1 zX.2.2.2.2.1.2.2.2.2.2 zX.2.2.2.2.2.1.1 zX.2.2.2.2.2.1.2.1 zX.2.2.2.2.2.1.2.2.1 zX.2.2.2.2.2.1.2.2.2.1 zX.2.2.2.2.2.1.2.2.2.2.1 zX.2.2.2.2.1.2.1 zX.2.2.2.2.1.2.2.1 zX.2.2.2.2.1.2.2.2.1 zX.2.2.2.2.1.2.2.2.2.1 zX.2.2.2.2.2.2.1 n m news) (n₀ := n) F N J ?_
  rintro n m news h tk F N ⟨A, S, R, bse, app, rem, kpre, junk, here, ta, th, W, rfl, ot, okl, oI, oax, iR, rfl, rfl⟩
  have hvl := W.vl
  have htl := W.tl
  have h0 := W.h0
  have h1 := W.h1
  have cnt := W.cnt
  cases rem with
  | nil =>
    refine law_test zX.1.1 zX.1.2.1 zX.1.2.2.1 zX.1.2.2.2.1 zX.1.2.2.2.2.1 zX.1.2.2.2.2.2 zX.2.1.1 zX.2.1.2.1 h zX.2.1.2.2.2.1 zX.2.1.2.2.2.2.1 zX.2.1.2.2.2.2.2 zX.2.2.1.1 zX.2.2.1.2.1 zX.2.2.1.2.2.1 tk zX.2.2.1.2.2.2.2.1 _ B' X' T' hA hd hu zX.2.2.2.1.2.2.1 zX.2.2.2.2.1.2.2.2.2.2 here zX.2.2.2.1.2.2.2.2.2 zX.2.2.2.2.2.1.2.1 th zX.2.2.2.2.2.1.2.2.2.1 (fun _ => none) .none .none ((zX.2.2.2.2.1.2.1, zX.2.2.2.2.1.2.2.2.1) :: (zX.2.2.2.2.1.2.2.1, zX.2.2.2.2.1.2.2.2.2.1) :: (zX.2.2.2.2.1.1, listOf zX.2.2.2.1.2.2.2.1.toArray zX.2.2.2.2.2.1.2.2.2.2.1) :: (ledL zX.1.1 A zX.2.2.2.1.1 S ++ (cstL zX.1.1 A zX.2.2.2.1.1 ++ R))) (by omega) h0 (by omega) W.hs false (.inr ⟨rfl, ?_⟩) zX.2.2.2.2.2.2.1 zX.2.2.2.2.2.1.1 zX.2.2.2.2.2.1.2.2.1 zX.2.2.2.1.2.2.2.2.1 zX.2.2.2.2.1.1 A _ ta dA uA F (fun q hq => N q ?_) ?_
    · simp only [List.length_nil] at cnt
      rcases W.hs with q | q
      · have := cnt.2 q; omega
      · have := cnt.1 q; omega
    · simp only [List.mem_cons] at hq ⊢
      rcases hq with q | q | q | q | q
      · exact .inr (.inr (.inl q))
      · exact .inl q
      · exact .inr (.inl q)
      · exact .inr (.inr (.inr (.inl q)))
      · exact .inr (.inr (.inr (.inr q)))
    · intro h2 tk2 F2 N2 kp
      rw [if_neg Bool.false_ne_true]
      exact done _ _ h2 tk2 ⟨A, S, R, bse, app, [], kpre, junk, here, ta, th, W, rfl, ot, okl, oI, oax, iR, rfl, rfl⟩ F2 fun q hq => ⟨kp _ _ (N q hq).1, (N q hq).2⟩
  | cons g r =>
    obtain ⟨hj, hj0, ⟨a', b, ha', hb, ok'⟩, p1⟩ := W.p1
    have hjl : g.j.toNat < zX.2.2.2.1.2.1.length := (List.getElem?_eq_some_iff.mp hb).1
    obtain ⟨td, ntd, hx, hm⟩ := W.tin _ _ hb
    refine law_test zX.1.1 zX.1.2.1 zX.1.2.2.1 zX.1.2.2.2.1 zX.1.2.2.2.2.1 zX.1.2.2.2.2.2 zX.2.1.1 zX.2.1.2.1 h zX.2.1.2.2.2.1 zX.2.1.2.2.2.2.1 zX.2.1.2.2.2.2.2 zX.2.2.1.1 zX.2.2.1.2.1 zX.2.2.1.2.2.1 tk zX.2.2.1.2.2.2.2.1 _ B' X' T' hA hd hu zX.2.2.2.1.2.2.1 zX.2.2.2.2.1.2.2.2.2.2 here zX.2.2.2.1.2.2.2.2.2 zX.2.2.2.2.2.1.2.1 th zX.2.2.2.2.2.1.2.2.2.1 (fun _ => none) .none .none ((zX.2.2.2.2.1.2.1, zX.2.2.2.2.1.2.2.2.1) :: (zX.2.2.2.2.1.2.2.1, zX.2.2.2.2.1.2.2.2.2.1) :: (zX.2.2.2.2.1.1, listOf zX.2.2.2.1.2.2.2.1.toArray zX.2.2.2.2.2.1.2.2.2.2.1) :: (ledL zX.1.1 A zX.2.2.2.1.1 S ++ (cstL zX.1.1 A zX.2.2.2.1.1 ++ R))) (by omega) h0 (by omega) W.hs true (.inl ⟨rfl, by omega, by omega⟩) zX.2.2.2.2.2.2.1 zX.2.2.2.2.2.1.1 zX.2.2.2.2.2.1.2.2.1 zX.2.2.2.1.2.2.2.2.1 zX.2.2.2.2.1.1 A _ ta dA uA F (fun q hq => N q ?_) ?_
    · simp only [List.mem_cons] at hq ⊢
      rcases hq with q | q | q | q | q
      · exact .inr (.inr (.inl q))
      · exact .inl q
      · exact .inr (.inl q)
      · exact .inr (.inr (.inr (.inl q)))
      · exact .inr (.inr (.inr (.inr q)))
    · intro h2 tk2 F2 N2 kp
      rw [if_pos rfl]
      refine law_w1 zX.1.1 zX.1.2.1 zX.1.2.2.1 zX.1.2.2.2.1 zX.1.2.2.2.2.1 zX.1.2.2.2.2.2 zX.2.1.1 zX.2.1.2.1 h2 zX.2.1.2.2.2.1 zX.2.1.2.2.2.2.1 zX.2.1.2.2.2.2.2 zX.2.2.1.1 zX.2.2.1.2.1 zX.2.2.1.2.2.1 tk2 zX.2.2.1.2.2.2.2.1 _ B' X' T' hA hd hu A zX.2.2.2.1.1 S R zX.2.2.2.1.2.2.2.1 bse app r kpre junk g zX.2.2.2.1.2.1 zX.2.2.2.1.2.2.1 zX.2.2.2.2.1.2.2.2.2.2 here zX.2.2.2.2.2.1.1 zX.2.2.2.1.2.2.2.2.1 zX.2.2.2.1.2.2.2.2.2 zX.2.2.2.2.1.1 td zX.2.2.2.2.1.2.1 zX.2.2.2.2.1.2.2.1 zX.2.2.2.2.1.2.2.2.1 zX.2.2.2.2.1.2.2.2.2.1 zX.2.2.2.2.2.1.2.1 ta th zX.2.2.2.2.2.1.2.2.1 zX.2.2.2.2.2.1.2.2.2.1 zX.2.2.2.2.2.1.2.2.2.2.1 ntd zX.2.2.2.2.2.2.1 b W hb (by rw [← hj]; exact hx) hm ot okl oI oax iR (by omega) (by omega) (by omega) (W.aint _ (List.mem_of_getElem? hb)) W.inv.mod ?_ dA uA F2 (fun q hq => ⟨kp _ _ (N q hq).1, (N q hq).2⟩)
      intro m' news' h3 tk3 F3 N3 J3
      exact ⟨h3, tk3, m', news', r.length, rfl, F3, N3, Nat.lt_succ_self _, J3⟩
end law_whileN
theorem law_while (w : World) (p : Program) (loose : List Str) (mean : ExcName → Option Value) (mg mb : Str → Option Value) (base g' h' : Heap) (L' fa sa : Addr) (cdv : Value) (gn : Array GenState) (dr : Drawn) (tk' : Nat) (os : OsState) (Q : Flow → Shared → Prop)
    (B' : Below callerA base [] g') (X' : (KK w.params).In g') (T' : Top p loose mean mg mb g') (hA : At g' []) (hd : callerA.depth + 600 < recursionLimit) (hu : callerA.units + 9000 < cLine)
    (T : Nat → Nat → Tok) (txs : List (List Value)) (tvs ks : List Value) (dk tl kl I ax : Addr) (it lo' : Obj) (step star : Int) (tst ts : Tok) (nt nk n : Nat) (u : Str → Option Value) (m : Str → Option Value) (news : List (Addr × Obj)) : let AA := callerA.deeper (envOf dL.1.name dL.1.scope L' fa cdv); AA.depth = callerA.depth + 1 → AA.units = callerA.units + 3 → PJ w sa T txs tvs ks dk tl kl step star tst ts nt nk I ax it lo' u n m news → Fr g' L' h' m → News g' L' h' news → (∀ m news h tk, PJ w sa T txs tvs ks dk tl kl step star tst ts nt nk I ax it lo' u 0 m news → Fr g' L' h m → News g' L' h news → Q .next ⟨h, gn, dr, tk, os⟩) → wpAny (model pw w) AA (exec (whileStmt (dL.1.body.drop 9)) (envOf dL.1.name dL.1.scope L' fa cdv)) Q (fun _ _ => False) ⟨h', gn, dr, tk', os⟩ := pk_all (n := law_whileN.zne) (P := law_whileN.zQ) law_whileN.body ((w, p, loose, mean, mg, mb), (base, g', h', L', fa, sa), (cdv, gn, dr, tk', os, Q), (T, txs, tvs, ks, dk, tl), (kl, I, ax, it, lo', step), (star, tst, ts, nt, nk, n), (u, m, news)) B' X' T' hA hd hu
end
theorem boundary_useB {w : World} {p : Program} {loose : List Str} {mean : ExcName → Option Value} {mg mb : Str → Option Value} {dp un : Nat} {gd' : Option (List Code)} {cn : Str} {cs : Scope} {a₀ : Addr} {ccd : Value} {cl₀ : List (Str × Addr)} {outer : List Env} {A₀ : Around} {base h₀ : Heap} {L : Addr} {m : Str → Option Value} {s : Shared} {Q E : Value → Shared → Prop} {news : List (Addr × Obj)}
    {ul uld rl : Addr} {t : Nat → Tok} {b : Tok} {nv : Value} {rs : List Value} {n : Nat} {RR : List (Addr × Obj)} {q : Bool} (B : Below A₀ base outer h₀) (F : Fr h₀ L s.heap m) (X : (KK w.params).In h₀) (N : News h₀ L s.heap news) (T' : Top p loose mean mg mb h₀) (hk : cs.kind = .function)
    (hq : LastIn RR rs q) (mR : ∀ p ∈ RR, p ∈ news) (hp : s.heap.get? ul = some (instObj 260 uld)) (sub : Subl (ulL w uld rl t b nv rs n) news) (hd : dp + 40 < recursionLimit) (hu : un + 400 < cLine) (h1 : rs.length ≤ 300000)
    (ret : ∀ n' h' tk', Fr h₀ L h' m → (∀ new, Repl [uld, rl] [(uld, dictOf (ulEs w.params t rl 0 b nv) 5), (rl, listOf (clb q rs).toArray n')] news new → News h₀ L h' new) → Q .none { s with heap := h', toks := tk' }) :
    wpAny (model pw w) (ktrTop dp un gd' cn cs L a₀ ccd cl₀ outer) (call (.ref 210) [.ref ul]) Q E s := by
  have k1 : s.heap.get? uld = some (dictOf (ulEs w.params t rl 0 b nv) 5) := (N _ sub.1).1
  have k2 : s.heap.get? rl = some (listOf rs.toArray n) := (N _ sub.2.1).1
  have hAR : At s.heap RR := At.of_news fun p hp => N p (mR p hp)
  refine spec_use2 (boundary_spec w ul uld rl t b nv rs n q (by omega) (ne_of_kind k1 k2 rfl)) B F X N T' hk ⟨hp, hq _ hAR⟩ sub hd hu ?_
  intro x h' tk' F' nb fr kp po
  obtain ⟨rfl, n', A'⟩ := po
  exact ret n' h' tk' F' (fun new R => nb _ _ A' R)
theorem frameP {X u2 : Str → Option Value} {v1 v2 v3 : Value} : (fun y => if y = Str.ofString "at" then some v1 else if y = Str.ofString "kept" then some v2 else if y = Str.ofString "step" then some v3 else if y = Str.ofString "step" then u2 y else if y = Str.ofString "at" then u2 y else if y = Str.ofString "kept" then u2 y else X y) = (fun y => if y = Str.ofString "step" then some v3 else if y = Str.ofString "at" then some v1 else if y = Str.ofString "kept" then some v2 else X y) := by
  funext y
  by_cases h1 : y = Str.ofString "at"
  · subst h1; rfl
  · by_cases h2 : y = Str.ofString "kept"
    · subst h2; rfl
    · simp only [if_neg h1, if_neg h2]
      by_cases h3 : y = Str.ofString "step"
      · simp only [if_pos h3]
      · simp only [if_neg h3]
theorem frP {g h : Heap} {L : Addr} {X u2 : Str → Option Value} {v1 v2 v3 : Value} (F : Fr g L h (fun y => if y = Str.ofString "at" then some v1 else if y = Str.ofString "kept" then some v2 else if y = Str.ofString "step" then some v3 else if y = Str.ofString "step" then u2 y else if y = Str.ofString "at" then u2 y else if y = Str.ofString "kept" then u2 y else X y)) : Fr g L h (fun y => if y = Str.ofString "step" then some v3 else if y = Str.ofString "at" then some v1 else if y = Str.ofString "kept" then some v2 else X y) := by
  rw [← frameP (u2 := u2)]; exact F
theorem frameQ {X : Str → Option Value} {v1 v2 v3 : Option Value} : (fun y => if y = Str.ofString "step" then v3 else if y = Str.ofString "at" then v1 else if y = Str.ofString "kept" then v2 else X y) = (fun y => if y = Str.ofString "step" then (fun y => if y = Str.ofString "step" then v3 else if y = Str.ofString "at" then v1 else v2) y else if y = Str.ofString "at" then (fun y => if y = Str.ofString "step" then v3 else if y = Str.ofString "at" then v1 else v2) y else if y = Str.ofString "kept" then (fun y => if y = Str.ofString "step" then v3 else if y = Str.ofString "at" then v1 else v2) y else X y) := by
  funext y
  by_cases h1 : y = Str.ofString "step"
  · simp only [if_pos h1]
  · by_cases h2 : y = Str.ofString "at"
    · simp only [if_neg h1, if_pos h2]
    · by_cases h3 : y = Str.ofString "kept"
      · simp only [if_neg h1, if_neg h2, if_pos h3]
      · simp only [if_neg h1, if_neg h2, if_neg h3]
theorem news_kl {g h : Heap} {L : Addr} {p1 p2 p3 p4 : Addr × Obj} {Z : List (Addr × Obj)} (N : News g L h (p4 :: p1 :: p2 :: p3 :: Z)) : News g L h (p1 :: p2 :: p3 :: p4 :: Z) := fun p hp => N p (by
  simp only [List.mem_cons] at hp ⊢
  rcases hp with q | q | q | q | q
  · exact .inr (.inl q)
  · exact .inr (.inr (.inl q))
  · exact .inr (.inr (.inr (.inl q)))
  · exact .inl q
  · exact .inr (.inr (.inr (.inr q))))
def BJ (w : World) (sa : Addr) (T : Nat → Nat → Tok) (txs : List (List Value)) (tvs : List Value) (dk tl ax : Addr) (lo : Obj) (step star : Int) (ts : Tok) (nt : Nat) (u : Str → Option Value) (B : Nat) (m : Str → Option Value) (news : List (Addr × Obj)) : Prop :=
  ∃ A S R q bs app here th, ∃ u2 : Str → Option Value, Bt w A S R q bs app txs tvs step here star B ∧ (∀ i, i < 16 → tl ≠ A i) ∧ (∀ i, i < 16 → ax ≠ A i) ∧ m = (fun y => if y = Str.ofString "step" then u2 y else if y = Str.ofString "at" then u2 y else if y = Str.ofString "kept" then u2 y else if y = Str.ofString "here" then some (.int here th) else if y = Str.ofString "turn" then u y else if y = Str.ofString "texts" then some (.ref tl) else if y = Str.ofString "the_saved" then some (.int star ts) else if y = Str.ofString "marker" then some (.ref (A 11)) else if y = Str.ofString "deck" then some (.ref dk) else if y = Str.ofString "buffer" then some (.ref (A 7)) else List.lookup y [(Str.ofString "script", Value.ref sa)]) ∧ news = (ax, lo) :: (tl, listOf tvs.toArray nt) :: (ledL w A T S ++ (cstL w A T ++ R))
section
open N_L9
namespace law_paN
abbrev zS (w : World) (p : Program) (loose : List Str) (mean : ExcName → Option Value) (mg mb : Str → Option Value) (base g' h' : Heap) (L' fa sa : Addr) (cdv : Value) (gn : Array GenState) (dr : Drawn) (tk' : Nat) (os : OsState) (Q : Flow → Shared → Prop) (A : Nat → Addr) (T : Nat → Nat → Tok) (S : St) (R : List (Addr × Obj)) (q : Bool) (dk tl I ax : Addr) (it lo' : Obj) (tvs : List Value) (here star step : Int) (th ts tst : Tok) (nt : Nat) (u u2 : Str → Option Value) : Prop := let AA := callerA.deeper (envOf dL.1.name dL.1.scope L' fa cdv); AA.depth = callerA.depth + 1 → AA.units = callerA.units + 3 → Fr g' L' h' (fun y => if y = Str.ofString "step" then some (.int step tst) else if y = Str.ofString "step" then u2 y else if y = Str.ofString "at" then u2 y else if y = Str.ofString "kept" then u2 y else if y = Str.ofString "here" then some (.int here th) else if y = Str.ofString "turn" then u y else if y = Str.ofString "texts" then some (.ref tl) else if y = Str.ofString "the_saved" then some (.int star ts) else if y = Str.ofString "marker" then some (.ref (A 11)) else if y = Str.ofString "deck" then some (.ref dk) else if y = Str.ofString "buffer" then some (.ref (A 7)) else List.lookup y [(Str.ofString "script", Value.ref sa)]) → News g' L' h' ((I, it) :: (ax, lo') :: (tl, listOf tvs.toArray nt) :: (ledL w A T S ++ (cstL w A T ++ R))) → (∀ (kl : Addr) (nk n' : Nat) (ta : Tok) (h : Heap) (tk : Nat), NeAll kl ((I, it) :: (ax, lo') :: (tl, listOf tvs.toArray nt) :: (ledL w A T { S with rs := clb q S.rs, n := n' } ++ (cstL w A T ++ R))) → Fr g' L' h (fun y => if y = Str.ofString "step" then some (.int step tst) else if y = Str.ofString "at" then some (.int (clb q S.rs).length ta) else if y = Str.ofString "kept" then some (.ref kl) else if y = Str.ofString "here" then some (.int here th) else if y = Str.ofString "turn" then u y else if y = Str.ofString "texts" then some (.ref tl) else if y = Str.ofString "the_saved" then some (.int star ts) else if y = Str.ofString "marker" then some (.ref (A 11)) else if y = Str.ofString "deck" then some (.ref dk) else if y = Str.ofString "buffer" then some (.ref (A 7)) else List.lookup y [(Str.ofString "script", Value.ref sa)]) → News g' L' h ((I, it) :: (ax, lo') :: (tl, listOf tvs.toArray nt) :: (kl, listOf (clb q S.rs).toArray nk) :: (ledL w A T { S with rs := clb q S.rs, n := n' } ++ (cstL w A T ++ R))) → wpAny (model pw w) AA (execs ((stmtBody (dL.1.body.drop 9)).drop 3) (envOf dL.1.name dL.1.scope L' fa cdv)) Q (fun _ _ => False) ⟨h, gn, dr, tk, os⟩) → wpAny (model pw w) AA (execs (stmtBody (dL.1.body.drop 9)) (envOf dL.1.name dL.1.scope L' fa cdv)) Q (fun _ _ => False) ⟨h', gn, dr, tk', os⟩
def zP (w : World) (p : Program) (loose : List Str) (mean : ExcName → Option Value) (mg mb : Str → Option Value) (base g' h' : Heap) (L' fa sa : Addr) (cdv : Value) (gn : Array GenState) (dr : Drawn) (tk' : Nat) (os : OsState) (Q : Flow → Shared → Prop) (A : Nat → Addr) (T : Nat → Nat → Tok) (S : St) (R : List (Addr × Obj)) (q : Bool) (dk tl I ax : Addr) (it lo' : Obj) (tvs : List Value) (here star step : Int) (th ts tst : Tok) (nt : Nat) (u u2 : Str → Option Value) : Prop := ∀ (B' : Below callerA base [] g') (X' : (KK w.params).In g') (T' : Top p loose mean mg mb g') (hA : At g' []) (hd : callerA.depth + 600 < recursionLimit) (hu : callerA.units + 9000 < cLine) (hI : Inj A) (off : OffAll A R) (last : LastIn R S.rs q) (hrl : S.rs.length ≤ 300000) (hcl : (clb q S.rs).length ≤ 400000) (ot : ∀ i, i < 16 → tl ≠ A i) (oI : ∀ i, i < 16 → I ≠ A i) (oax : ∀ i, i < 16 → ax ≠ A i), zS w p loose mean mg mb base g' h' L' fa sa cdv gn dr tk' os Q A T S R q dk tl I ax it lo' tvs here star step th ts tst nt u u2
abbrev zT := (World × Program × (List Str) × (ExcName → Option Value) × (Str → Option Value) × (Str → Option Value)) × (Heap × Heap × Heap × Addr × Addr × Addr) × (Value × (Array GenState) × Drawn × Nat × OsState × (Flow → Shared → Prop)) × ((Nat → Addr) × (Nat → Nat → Tok) × St × (List (Addr × Obj)) × Bool × Addr) × (Addr × Addr × Addr × Obj × Obj × (List Value)) × (Int × Int × Int × Tok × Tok × Tok) × (Nat × (Str → Option Value) × (Str → Option Value))
def zQ (x : zT) : Prop := zP x.1.1 x.1.2.1 x.1.2.2.1 x.1.2.2.2.1 x.1.2.2.2.2.1 x.1.2.2.2.2.2 x.2.1.1 x.2.1.2.1 x.2.1.2.2.1 x.2.1.2.2.2.1 x.2.1.2.2.2.2.1 x.2.1.2.2.2.2.2 x.2.2.1.1 x.2.2.1.2.1 x.2.2.1.2.2.1 x.2.2.1.2.2.2.1 x.2.2.1.2.2.2.2.1 x.2.2.1.2.2.2.2.2 x.2.2.2.1.1 x.2.2.2.1.2.1 x.2.2.2.1.2.2.1 x.2.2.2.1.2.2.2.1 x.2.2.2.1.2.2.2.2.1 x.2.2.2.1.2.2.2.2.2 x.2.2.2.2.1.1 x.2.2.2.2.1.2.1 x.2.2.2.2.1.2.2.1 x.2.2.2.2.1.2.2.2.1 x.2.2.2.2.1.2.2.2.2.1 x.2.2.2.2.1.2.2.2.2.2 x.2.2.2.2.2.1.1 x.2.2.2.2.2.1.2.1 x.2.2.2.2.2.1.2.2.1 x.2.2.2.2.2.1.2.2.2.1 x.2.2.2.2.2.1.2.2.2.2.1 x.2.2.2.2.2.1.2.2.2.2.2 x.2.2.2.2.2.2.1 x.2.2.2.2.2.2.2.1 x.2.2.2.2.2.2.2.2
theorem zne : Nonempty zT := by k_extra "zne"
def zX : zT := pk zne zQ
noncomputable abbrev AA : Around := callerA.deeper (envOf dL.1.name dL.1.scope zX.2.1.2.2.2.1 zX.2.1.2.2.2.2.1 zX.2.2.1.1)
theorem body : zQ zX := by
  intro B' X' T' hA hd hu hI off last hrl hcl ot oI oax
  delta zS
  intro AA0; have eAA : AA0 = AA := rfl; clear_value AA0; subst eAA
  intro dA uA F' N' cont
  dsimp only [ledL, cstL, List.cons_append, List.nil_append] at N'
  show wpAny (model pw zX.1.1) AA (execs (stmtBody (List.drop 9 _)) _) zX.2.2.1.2.2.2.2.2 (fun _ _ => False) _
  (try dsimp only [List.drop, stmtBody, parts])
  (try k_fold)
  k_steps
  all_goals (try dsimp only)
  unfold Stop
  refine' cont _ _ _ _ _ _ ?nk ?F ?N
  case N => exact news_kl (by assumption)
  case nk => assumption
  case F => exact frP (u2 := zX.2.2.2.2.2.2.2.2) (by assumption)
  all_goals trace_state
end law_paN
theorem law_pa (w : World) (p : Program) (loose : List Str) (mean : ExcName → Option Value) (mg mb : Str → Option Value) (base g' h' : Heap) (L' fa sa : Addr) (cdv : Value) (gn : Array GenState) (dr : Drawn) (tk' : Nat) (os : OsState) (Q : Flow → Shared → Prop) (B' : Below callerA base [] g') (X' : (KK w.params).In g') (T' : Top p loose mean mg mb g') (hA : At g' []) (hd : callerA.depth + 600 < recursionLimit) (hu : callerA.units + 9000 < cLine) (A : Nat → Addr) (T : Nat → Nat → Tok) (S : St) (R : List (Addr × Obj)) (q : Bool) (dk tl I ax : Addr) (it lo' : Obj) (tvs : List Value) (here star step : Int) (th ts tst : Tok) (nt : Nat) (u u2 : Str → Option Value) (hI : Inj A) (off : OffAll A R) (last : LastIn R S.rs q) (hrl : S.rs.length ≤ 300000) (hcl : (clb q S.rs).length ≤ 400000) (ot : ∀ i, i < 16 → tl ≠ A i) (oI : ∀ i, i < 16 → I ≠ A i) (oax : ∀ i, i < 16 → ax ≠ A i) : law_paN.zS w p loose mean mg mb base g' h' L' fa sa cdv gn dr tk' os Q A T S R q dk tl I ax it lo' tvs here star step th ts tst nt u u2 := pk_all (n := law_paN.zne) (P := law_paN.zQ) law_paN.body ((w, p, loose, mean, mg, mb), (base, g', h', L', fa, sa), (cdv, gn, dr, tk', os, Q), (A, T, S, R, q, dk), (tl, I, ax, it, lo', tvs), (here, star, step, th, ts, tst), (nt, u, u2)) B' X' T' hA hd hu hI off last hrl hcl ot oI oax
end
section
open N_L10
namespace law_pifN
def zP (w : World) (p : Program) (loose : List Str) (mean : ExcName → Option Value) (mg mb : Str → Option Value) (base g' h' : Heap) (L' fa sa : Addr) (cdv : Value) (gn : Array GenState) (dr : Drawn) (tk' : Nat) (os : OsState) (Q : Flow → Shared → Prop) (A : Nat → Addr) (T : Nat → Nat → Tok) (dk tl kl : Addr) (here star step at' : Int) (th ts tst ta : Tok) (u : Str → Option Value) (news : List (Addr × Obj)) : Prop := ∀ (B' : Below callerA base [] g') (X' : (KK w.params).In g') (T' : Top p loose mean mg mb g') (hA : At g' []) (hd : callerA.depth + 600 < recursionLimit) (hu : callerA.units + 9000 < cLine) (S : St) (hbv : S.bv = .none) (hpos : S.pos = 0) (hmod : S.sv < S.ti ↔ here ≠ star), let AA := callerA.deeper (envOf dL.1.name dL.1.scope L' fa cdv); AA.depth = callerA.depth + 1 → AA.units = callerA.units + 3 → Fr g' L' h' (fun y => if y = Str.ofString "step" then some (.int step tst) else if y = Str.ofString "at" then some (.int at' ta) else if y = Str.ofString "kept" then some (.ref kl) else if y = Str.ofString "here" then some (.int here th) else if y = Str.ofString "turn" then u y else if y = Str.ofString "texts" then some (.ref tl) else if y = Str.ofString "the_saved" then some (.int star ts) else if y = Str.ofString "marker" then some (.ref (A 11)) else if y = Str.ofString "deck" then some (.ref dk) else if y = Str.ofString "buffer" then some (.ref (A 7)) else List.lookup y [(Str.ofString "script", Value.ref sa)]) → News g' L' h' (ledL w A T S ++ (cstL w A T ++ news)) → (∀ (h : Heap) (tk : Nat), Fr g' L' h (fun y => if y = Str.ofString "step" then some (.int step tst) else if y = Str.ofString "at" then some (.int at' ta) else if y = Str.ofString "kept" then some (.ref kl) else if y = Str.ofString "here" then some (.int here th) else if y = Str.ofString "turn" then u y else if y = Str.ofString "texts" then some (.ref tl) else if y = Str.ofString "the_saved" then some (.int star ts) else if y = Str.ofString "marker" then some (.ref (A 11)) else if y = Str.ofString "deck" then some (.ref dk) else if y = Str.ofString "buffer" then some (.ref (A 7)) else List.lookup y [(Str.ofString "script", Value.ref sa)]) → News g' L' h (ledL w A T S ++ (cstL w A T ++ news)) → Q .next ⟨h, gn, dr, tk, os⟩) → wpAny (model pw w) AA (execs ((stmtBody (dL.1.body.drop 9)).drop 4) (envOf dL.1.name dL.1.scope L' fa cdv)) Q (fun _ _ => False) ⟨h', gn, dr, tk', os⟩
abbrev zT := (World × Program × (List Str) × (ExcName → Option Value) × (Str → Option Value) × (Str → Option Value)) × (Heap × Heap × Heap × Addr × Addr × Addr) × (Value × (Array GenState) × Drawn × Nat × OsState × (Flow → Shared → Prop)) × ((Nat → Addr) × (Nat → Nat → Tok) × Addr × Addr × Addr × Int) × (Int × Int × Int × Tok × Tok × Tok) × (Tok × (Str → Option Value) × (List (Addr × Obj)))
def zQ (x : zT) : Prop := zP x.1.1 x.1.2.1 x.1.2.2.1 x.1.2.2.2.1 x.1.2.2.2.2.1 x.1.2.2.2.2.2 x.2.1.1 x.2.1.2.1 x.2.1.2.2.1 x.2.1.2.2.2.1 x.2.1.2.2.2.2.1 x.2.1.2.2.2.2.2 x.2.2.1.1 x.2.2.1.2.1 x.2.2.1.2.2.1 x.2.2.1.2.2.2.1 x.2.2.1.2.2.2.2.1 x.2.2.1.2.2.2.2.2 x.2.2.2.1.1 x.2.2.2.1.2.1 x.2.2.2.1.2.2.1 x.2.2.2.1.2.2.2.1 x.2.2.2.1.2.2.2.2.1 x.2.2.2.1.2.2.2.2.2 x.2.2.2.2.1.1 x.2.2.2.2.1.2.1 x.2.2.2.2.1.2.2.1 x.2.2.2.2.1.2.2.2.1 x.2.2.2.2.1.2.2.2.2.1 x.2.2.2.2.1.2.2.2.2.2 x.2.2.2.2.2.1 x.2.2.2.2.2.2.1 x.2.2.2.2.2.2.2
theorem zne : Nonempty zT := by k_extra "zne"
def zX : zT := pk zne zQ
noncomputable abbrev AA : Around := callerA.deeper (envOf dL.1.name dL.1.scope zX.2.1.2.2.2.1 zX.2.1.2.2.2.2.1 zX.2.2.1.1)
theorem body : zQ zX := by
  intro B' X' T' hA hd hu S hbv hpos hmod
  intro AA0; have eAA : AA0 = AA := rfl; clear_value AA0; subst eAA
  intro dA uA F' N' cont
  obtain ⟨cells, nc, gs, ge, gu, gv, pt, zv, ti, ct, sv, up, uz, ut, uc, us, rs, n, nv, pos, um, vp, adv, bv, kvs, okr⟩ := S
  dsimp only at hbv hpos hmod
  subst hbv hpos
  dsimp only [ledL, cstL, List.cons_append, List.nil_append] at N'
  show wpAny (model pw zX.1.1) AA (execs (List.drop 4 (stmtBody (List.drop 9 _))) _) zX.2.2.1.2.2.2.2.2 (fun _ _ => False) _
  (try dsimp only [List.drop, stmtBody, parts])
  (try k_fold)
  k_steps
  all_goals (try dsimp only)
  all_goals (try exact absurd (by assumption) (mod_false hmod))
  · exact cont _ _ (by assumption) (by assumption)
end law_pifN
theorem law_pif (w : World) (p : Program) (loose : List Str) (mean : ExcName → Option Value) (mg mb : Str → Option Value) (base g' h' : Heap) (L' fa sa : Addr) (cdv : Value) (gn : Array GenState) (dr : Drawn) (tk' : Nat) (os : OsState) (Q : Flow → Shared → Prop) (B' : Below callerA base [] g') (X' : (KK w.params).In g') (T' : Top p loose mean mg mb g') (hA : At g' []) (hd : callerA.depth + 600 < recursionLimit) (hu : callerA.units + 9000 < cLine) (A : Nat → Addr) (T : Nat → Nat → Tok) (S : St) (hbv : S.bv = .none) (hpos : S.pos = 0) (dk tl kl : Addr) (here star step at' : Int) (th ts tst ta : Tok) (u : Str → Option Value) (news : List (Addr × Obj)) (hmod : S.sv < S.ti ↔ here ≠ star) : let AA := callerA.deeper (envOf dL.1.name dL.1.scope L' fa cdv); AA.depth = callerA.depth + 1 → AA.units = callerA.units + 3 → Fr g' L' h' (fun y => if y = Str.ofString "step" then some (.int step tst) else if y = Str.ofString "at" then some (.int at' ta) else if y = Str.ofString "kept" then some (.ref kl) else if y = Str.ofString "here" then some (.int here th) else if y = Str.ofString "turn" then u y else if y = Str.ofString "texts" then some (.ref tl) else if y = Str.ofString "the_saved" then some (.int star ts) else if y = Str.ofString "marker" then some (.ref (A 11)) else if y = Str.ofString "deck" then some (.ref dk) else if y = Str.ofString "buffer" then some (.ref (A 7)) else List.lookup y [(Str.ofString "script", Value.ref sa)]) → News g' L' h' (ledL w A T S ++ (cstL w A T ++ news)) → (∀ (h : Heap) (tk : Nat), Fr g' L' h (fun y => if y = Str.ofString "step" then some (.int step tst) else if y = Str.ofString "at" then some (.int at' ta) else if y = Str.ofString "kept" then some (.ref kl) else if y = Str.ofString "here" then some (.int here th) else if y = Str.ofString "turn" then u y else if y = Str.ofString "texts" then some (.ref tl) else if y = Str.ofString "the_saved" then some (.int star ts) else if y = Str.ofString "marker" then some (.ref (A 11)) else if y = Str.ofString "deck" then some (.ref dk) else if y = Str.ofString "buffer" then some (.ref (A 7)) else List.lookup y [(Str.ofString "script", Value.ref sa)]) → News g' L' h (ledL w A T S ++ (cstL w A T ++ news)) → Q .next ⟨h, gn, dr, tk, os⟩) → wpAny (model pw w) AA (execs ((stmtBody (dL.1.body.drop 9)).drop 4) (envOf dL.1.name dL.1.scope L' fa cdv)) Q (fun _ _ => False) ⟨h', gn, dr, tk', os⟩ := pk_all (n := law_pifN.zne) (P := law_pifN.zQ) law_pifN.body ((w, p, loose, mean, mg, mb), (base, g', h', L', fa, sa), (cdv, gn, dr, tk', os, Q), (A, T, dk, tl, kl, here), (star, step, at', th, ts, tst), (ta, u, news)) B' X' T' hA hd hu S hbv hpos hmod
end
theorem pass_mem {p a b c d : Addr × Obj} {X Y Z : List (Addr × Obj)} (hp : p ∈ X ++ (Y ++ (Z ++ [a, b, c, d]))) : p ∈ a :: b :: c :: d :: (X ++ (Y ++ Z)) := by
  simp only [List.mem_cons, List.mem_append, List.not_mem_nil, or_false] at hp ⊢
  rcases hp with h | h | h | h | h | h | h
  · exact .inr (.inr (.inr (.inr (.inl h))))
  · exact .inr (.inr (.inr (.inr (.inr (.inl h)))))
  · exact .inr (.inr (.inr (.inr (.inr (.inr h)))))
  · exact .inl h
  · exact .inr (.inl h)
  · exact .inr (.inr (.inl h))
  · exact .inr (.inr (.inr (.inl h)))
theorem pass_mem2 {p a b c d : Addr × Obj} {X Y Z : List (Addr × Obj)} (hp : p ∈ a :: b :: c :: (X ++ (Y ++ Z))) : p ∈ X ++ (Y ++ (Z ++ [a, b, c, d])) := by
  simp only [List.mem_cons, List.mem_append, List.not_mem_nil, or_false] at hp ⊢
  rcases hp with h | h | h | h | h | h
  · exact .inr (.inr (.inr (.inl h)))
  · exact .inr (.inr (.inr (.inr (.inl h))))
  · exact .inr (.inr (.inr (.inr (.inr (.inl h)))))
  · exact .inl h
  · exact .inr (.inl h)
  · exact .inr (.inr (.inl h))
theorem nd_off3 {w : World} {A : Nat → Addr} {T : Nat → Nat → Tok} {S : St} {d : Addr} {q1 q2 q3 : Addr × Obj} {RR : List (Addr × Obj)} (h : NeAll d (q1 :: q2 :: q3 :: (ledL w A T S ++ (cstL w A T ++ RR)))) : Off A d := by
  have k1 : ∀ p ∈ ledL w A T S, p.1 ≠ d := fun p hp => h p (.tail _ (.tail _ (.tail _ (List.mem_append_left _ hp))))
  have k2 : ∀ p ∈ cstL w A T, p.1 ≠ d := fun p hp => h p (.tail _ (.tail _ (.tail _ (List.mem_append_right _ (List.mem_append_left _ hp)))))
  have k : ∀ p ∈ ledL w A T S ++ cstL w A T, p.1 ≠ d := fun p hp => (List.mem_append.mp hp).elim (k1 p) (k2 p)
  have e : (ledL w A T S ++ cstL w A T).map (·.1) = (List.range 16).map A := rfl
  intro i hi q
  have : A i ∈ (ledL w A T S ++ cstL w A T).map (·.1) := by rw [e]; exact List.mem_map.mpr ⟨i, List.mem_range.mpr hi, rfl⟩
  obtain ⟨p, hp, e2⟩ := List.mem_map.mp this
  exact k p hp (e2.trans q.symm)
namespace law_passN
def zP (w : World) (p : Program) (loose : List Str) (mean : ExcName → Option Value) (mg mb : Str → Option Value) (base g' h' : Heap) (L' fa sa : Addr) (cdv : Value) (gn : Array GenState) (dr : Drawn) (tk' : Nat) (os : OsState) (Q : Flow → Shared → Prop) (T : Nat → Nat → Tok) (txs : List (List Value)) (tvs : List Value) (dk tl I ax : Addr) (it lo' : Obj) (step star : Int) (tst ts : Tok) (nt B : Nat) (u : Str → Option Value) : Prop := ∀ (B' : Below callerA base [] g') (X' : (KK w.params).In g') (T' : Top p loose mean mg mb g') (hA : At g' []) (hd : callerA.depth + 600 < recursionLimit) (hu : callerA.units + 9000 < cLine) (m : Str → Option Value) (news : List (Addr × Obj)) (hB : B ≤ 42), let AA := callerA.deeper (envOf dL.1.name dL.1.scope L' fa cdv); AA.depth = callerA.depth + 1 → AA.units = callerA.units + 3 → BJ w sa T txs tvs dk tl ax lo' step star ts nt u B m news → (∀ p ∈ news, p.1 ≠ I) → Fr g' L' h' (fun y => if y = Str.ofString "step" then some (.int step tst) else m y) → News g' L' h' ((I, it) :: news) → (∀ m' news' h tk, BJ w sa T txs tvs dk tl ax lo' (-step) star ts nt u (2 * B + 6) m' news' → Fr g' L' h m' → News g' L' h ((I, it) :: news') → (∀ p ∈ news', p.1 ≠ I) → Q .next ⟨h, gn, dr, tk, os⟩) → wpAny (model pw w) AA (execs (stmtBody (dL.1.body.drop 9)) (envOf dL.1.name dL.1.scope L' fa cdv)) Q (fun _ _ => False) ⟨h', gn, dr, tk', os⟩
abbrev zT := (World × Program × (List Str) × (ExcName → Option Value) × (Str → Option Value) × (Str → Option Value)) × (Heap × Heap × Heap × Addr × Addr × Addr) × (Value × (Array GenState) × Drawn × Nat × OsState × (Flow → Shared → Prop)) × ((Nat → Nat → Tok) × (List (List Value)) × (List Value) × Addr × Addr × Addr) × (Addr × Obj × Obj × Int × Int × Tok) × (Tok × Nat × Nat × (Str → Option Value))
def zQ (x : zT) : Prop := zP x.1.1 x.1.2.1 x.1.2.2.1 x.1.2.2.2.1 x.1.2.2.2.2.1 x.1.2.2.2.2.2 x.2.1.1 x.2.1.2.1 x.2.1.2.2.1 x.2.1.2.2.2.1 x.2.1.2.2.2.2.1 x.2.1.2.2.2.2.2 x.2.2.1.1 x.2.2.1.2.1 x.2.2.1.2.2.1 x.2.2.1.2.2.2.1 x.2.2.1.2.2.2.2.1 x.2.2.1.2.2.2.2.2 x.2.2.2.1.1 x.2.2.2.1.2.1 x.2.2.2.1.2.2.1 x.2.2.2.1.2.2.2.1 x.2.2.2.1.2.2.2.2.1 x.2.2.2.1.2.2.2.2.2 x.2.2.2.2.1.1 x.2.2.2.2.1.2.1 x.2.2.2.2.1.2.2.1 x.2.2.2.2.1.2.2.2.1 x.2.2.2.2.1.2.2.2.2.1 x.2.2.2.2.1.2.2.2.2.2 x.2.2.2.2.2.1 x.2.2.2.2.2.2.1 x.2.2.2.2.2.2.2.1 x.2.2.2.2.2.2.2.2
theorem zne : Nonempty zT := by k_extra "zne"
def zX : zT := pk zne zQ
def w := zX.1.1
def p := zX.1.2.1
def T := zX.2.2.2.1.1
theorem body : zP w p zX.1.2.2.1 zX.1.2.2.2.1 zX.1.2.2.2.2.1 zX.1.2.2.2.2.2 zX.2.1.1 zX.2.1.2.1 zX.2.1.2.2.1 zX.2.1.2.2.2.1 zX.2.1.2.2.2.2.1 zX.2.1.2.2.2.2.2 zX.2.2.1.1 zX.2.2.1.2.1 zX.2.2.1.2.2.1 zX.2.2.1.2.2.2.1 zX.2.2.1.2.2.2.2.1 zX.2.2.1.2.2.2.2.2 T zX.2.2.2.1.2.1 zX.2.2.2.1.2.2.1 zX.2.2.2.1.2.2.2.1 zX.2.2.2.1.2.2.2.2.1 zX.2.2.2.1.2.2.2.2.2 zX.2.2.2.2.1.1 zX.2.2.2.2.1.2.1 zX.2.2.2.2.1.2.2.1 zX.2.2.2.2.1.2.2.2.1 zX.2.2.2.2.1.2.2.2.2.1 zX.2.2.2.2.1.2.2.2.2.2 zX.2.2.2.2.2.1 zX.2.2.2.2.2.2.1 zX.2.2.2.2.2.2.2.1 zX.2.2.2.2.2.2.2.2 := by
  intro B' X' T' hA hd hu m news hB
  intro AA dA uA J off F N fin
  obtain ⟨A, S, R, q, bs, app, here, th, u2, W, ot, oax, rfl, rfl⟩ := J
  have offA : ∀ p ∈ ledL w A T S ++ (cstL w A T ++ R), p.1 ≠ zX.2.2.2.1.2.2.2.2.2 := fun p hp => off p (.tail _ (.tail _ hp))
  have oI : ∀ i, i < 16 → zX.2.2.2.1.2.2.2.2.2 ≠ A i := by
    intro i hi e
    have e2 : (ledL w A T S ++ cstL w A T).map (·.1) = (List.range 16).map A := rfl
    have : A i ∈ (ledL w A T S ++ cstL w A T).map (·.1) := by rw [e2]; exact List.mem_map.mpr ⟨i, List.mem_range.mpr hi, rfl⟩
    obtain ⟨p, hp, e3⟩ := List.mem_map.mp this
    refine offA p ?_ (e3.trans e.symm)
    rcases List.mem_append.mp hp with h | h
    · exact List.mem_append_left _ h
    · exact List.mem_append_right _ (List.mem_append_left _ h)
  have iax : zX.2.2.2.2.1.1 ≠ zX.2.2.2.1.2.2.2.2.2 := off _ (.head _)
  have itl : zX.2.2.2.1.2.2.2.2.1 ≠ zX.2.2.2.1.2.2.2.2.2 := off _ (.tail _ (.head _))
  have iR : ∀ p ∈ R, p.1 ≠ zX.2.2.2.1.2.2.2.2.2 := fun p hp => offA p (List.mem_append_right _ (List.mem_append_right _ hp))
  have AR : At zX.2.1.2.2.1 R := At.of_news fun p hp => N p (.tail _ (.tail _ (.tail _ (List.mem_append_right _ (List.mem_append_right _ hp)))))
  have P := fun n => Bt.start (n := n) W hB AR
  have hcl := (P 0).2
  have rl := W.rl
  have bl := W.bl
  have elen : (clb q S.rs).length = (flat (bs ++ app.reverse.reverse)).length := by
    rw [List.reverse_reverse]
    exact (W.rows zX.2.1.2.2.1 (fun _ => True) AR fun _ _ => trivial).length
  refine law_pa w p zX.1.2.2.1 zX.1.2.2.2.1 zX.1.2.2.2.2.1 zX.1.2.2.2.2.2 zX.2.1.1 zX.2.1.2.1 zX.2.1.2.2.1 zX.2.1.2.2.2.1 zX.2.1.2.2.2.2.1 zX.2.1.2.2.2.2.2 zX.2.2.1.1 zX.2.2.1.2.1 zX.2.2.1.2.2.1 zX.2.2.1.2.2.2.1 zX.2.2.1.2.2.2.2.1 zX.2.2.1.2.2.2.2.2 B' X' T' hA hd hu A T S R q zX.2.2.2.1.2.2.2.1 zX.2.2.2.1.2.2.2.2.1 zX.2.2.2.1.2.2.2.2.2 zX.2.2.2.2.1.1 zX.2.2.2.2.1.2.1 zX.2.2.2.2.1.2.2.1 zX.2.2.2.1.2.2.1 here zX.2.2.2.2.1.2.2.2.2.1 zX.2.2.2.2.1.2.2.2.1 th zX.2.2.2.2.2.1 zX.2.2.2.2.1.2.2.2.2.2 zX.2.2.2.2.2.2.1 zX.2.2.2.2.2.2.2.2 u2 W.hI W.off W.last (by omega) (by omega) ot oI oax dA uA F N ?_
  intro kl nk n' ta h tk nkl F N
  have okl : Off A kl := nd_off3 (S := { S with rs := clb q S.rs, n := n' }) nkl
  rw [elen] at F
  show wpAny (model pw w) AA (execs (whileStmt (dL.1.body.drop 9) :: (stmtBody (dL.1.body.drop 9)).drop 4) _) zX.2.2.1.2.2.2.2.2 (fun _ _ => False) _
  refine wpAny_execs_cons ?_
  refine law_while w p zX.1.2.2.1 zX.1.2.2.2.1 zX.1.2.2.2.2.1 zX.1.2.2.2.2.2 zX.2.1.1 zX.2.1.2.1 h zX.2.1.2.2.2.1 zX.2.1.2.2.2.2.1 zX.2.1.2.2.2.2.2 zX.2.2.1.1 zX.2.2.1.2.1 zX.2.2.1.2.2.1 tk zX.2.2.1.2.2.2.2.1 _ B' X' T' hA hd hu T zX.2.2.2.1.2.1 zX.2.2.2.1.2.2.1 (clb q S.rs) zX.2.2.2.1.2.2.2.1 zX.2.2.2.1.2.2.2.2.1 kl zX.2.2.2.1.2.2.2.2.2 zX.2.2.2.2.1.1 zX.2.2.2.2.1.2.1 zX.2.2.2.2.1.2.2.1 zX.2.2.2.2.1.2.2.2.1 zX.2.2.2.2.1.2.2.2.2.1 zX.2.2.2.2.1.2.2.2.2.2 zX.2.2.2.2.2.1 zX.2.2.2.2.2.2.1 nk _ zX.2.2.2.2.2.2.2.2 _ _ dA uA ⟨A, { S with rs := clb q S.rs, n := n' }, R, bs ++ app, [], app.reverse, bs, [], here, ta, th, (P n').1, rfl, ot, okl, oI, oax, iR, rfl, rfl⟩ F N ?_
  rintro m2 news2 h2 tk2 ⟨A2, S2, R2, bse2, app2, rem2, kpre2, junk2, here2, ta2, th2, W2, hrem, ot2, okl2, oI2, oax2, iR2, rfl, rfl⟩ F2 N2
  obtain rfl : rem2 = [] := List.length_eq_zero_iff.mp hrem
  have AR2 : At h2 R2 := At.of_news fun p hp => N2 p (.tail _ (.tail _ (.tail _ (.tail _ (List.mem_append_right _ (List.mem_append_right _ hp))))))
  show wpAny (model pw w) AA (execs ((stmtBody (dL.1.body.drop 9)).drop 4) _) zX.2.2.1.2.2.2.2.2 (fun _ _ => False) _
  refine law_pif w p zX.1.2.2.1 zX.1.2.2.2.1 zX.1.2.2.2.2.1 zX.1.2.2.2.2.2 zX.2.1.1 zX.2.1.2.1 h2 zX.2.1.2.2.2.1 zX.2.1.2.2.2.2.1 zX.2.1.2.2.2.2.2 zX.2.2.1.1 zX.2.2.1.2.1 zX.2.2.1.2.2.1 tk2 zX.2.2.1.2.2.2.2.1 zX.2.2.1.2.2.2.2.2 B' X' T' hA hd hu A2 T S2 W2.bv W2.pos zX.2.2.2.1.2.2.2.1 zX.2.2.2.1.2.2.2.2.1 kl here2 zX.2.2.2.2.1.2.2.2.2.1 zX.2.2.2.2.1.2.2.2.1 _ th2 zX.2.2.2.2.2.1 zX.2.2.2.2.1.2.2.2.2.2 ta2 zX.2.2.2.2.2.2.2.2 (R2 ++ [(zX.2.2.2.1.2.2.2.2.2, zX.2.2.2.2.1.2.1), (zX.2.2.2.2.1.1, zX.2.2.2.2.1.2.2.1), (zX.2.2.2.1.2.2.2.2.1, listOf zX.2.2.2.1.2.2.1.toArray zX.2.2.2.2.2.2.1), (kl, listOf (clb q S.rs).toArray nk)]) W2.inv.mod dA uA F2 (fun p hp => N2 p (pass_mem hp)) ?_
  intro h3 tk3 F3 N3
  refine fin _ ((zX.2.2.2.2.1.1, zX.2.2.2.2.1.2.2.1) :: (zX.2.2.2.1.2.2.2.2.1, listOf zX.2.2.2.1.2.2.1.toArray zX.2.2.2.2.2.2.1) :: (ledL w A2 T S2 ++ (cstL w A2 T ++ R2))) h3 tk3 ⟨A2, S2, R2, true, bse2, app2, here2, th2, _, W2.finish hcl AR2, ot2, oax2, frameQ, rfl⟩ F3 (fun p hp => N3 p (pass_mem2 hp)) ?_
  intro p hp
  rcases List.mem_cons.mp hp with rfl | hp
  · exact iax
  rcases List.mem_cons.mp hp with rfl | hp
  · exact itl
  rw [← List.append_assoc] at hp
  rcases List.mem_append.mp hp with hp | hp
  · intro e
    have e2 : (ledL w A2 T S2 ++ cstL w A2 T).map (·.1) = (List.range 16).map A2 := rfl
    have : p.1 ∈ (ledL w A2 T S2 ++ cstL w A2 T).map (·.1) := List.mem_map_of_mem hp
    rw [e2] at this
    obtain ⟨i, hi, e3⟩ := List.mem_map.mp this
    exact oI2 i (List.mem_range.mp hi) (e.symm.trans e3.symm)
  · exact iR2 p hp
end law_passN
theorem law_pass (w : World) (p : Program) (loose : List Str) (mean : ExcName → Option Value) (mg mb : Str → Option Value) (base g' h' : Heap) (L' fa sa : Addr) (cdv : Value) (gn : Array GenState) (dr : Drawn) (tk' : Nat) (os : OsState) (Q : Flow → Shared → Prop)
    (B' : Below callerA base [] g') (X' : (KK w.params).In g') (T' : Top p loose mean mg mb g') (hA : At g' []) (hd : callerA.depth + 600 < recursionLimit) (hu : callerA.units + 9000 < cLine)
    (T : Nat → Nat → Tok) (txs : List (List Value)) (tvs : List Value) (dk tl I ax : Addr) (it lo' : Obj) (step star : Int) (tst ts : Tok) (nt B : Nat) (u : Str → Option Value) (m : Str → Option Value) (news : List (Addr × Obj)) (hB : B ≤ 42) : let AA := callerA.deeper (envOf dL.1.name dL.1.scope L' fa cdv); AA.depth = callerA.depth + 1 → AA.units = callerA.units + 3 → BJ w sa T txs tvs dk tl ax lo' step star ts nt u B m news → (∀ p ∈ news, p.1 ≠ I) → Fr g' L' h' (fun y => if y = Str.ofString "step" then some (.int step tst) else m y) → News g' L' h' ((I, it) :: news) → (∀ m' news' h tk, BJ w sa T txs tvs dk tl ax lo' (-step) star ts nt u (2 * B + 6) m' news' → Fr g' L' h m' → News g' L' h ((I, it) :: news') → (∀ p ∈ news', p.1 ≠ I) → Q .next ⟨h, gn, dr, tk, os⟩) → wpAny (model pw w) AA (execs (stmtBody (dL.1.body.drop 9)) (envOf dL.1.name dL.1.scope L' fa cdv)) Q (fun _ _ => False) ⟨h', gn, dr, tk', os⟩ := pk_all (n := law_passN.zne) (P := law_passN.zQ) law_passN.body ((w, p, loose, mean, mg, mb), (base, g', h', L', fa, sa), (cdv, gn, dr, tk', os, Q), (T, txs, tvs, dk, tl, I), (ax, it, lo', step, star, tst), (ts, nt, B, u)) B' X' T' hA hd hu m news hB
section
open N_L12
theorem law_eval (w : World) (p : Program) (loose : List Str) (mean : ExcName → Option Value) (mg mb : Str → Option Value) (base g' h' : Heap) (L' fa sa : Addr) (cdv : Value) (gn : Array GenState) (dr : Drawn) (tk' : Nat) (os : OsState) (K : Value → Shared → Prop)
    (B' : Below callerA base [] g') (X' : (KK w.params).In g') (T' : Top p loose mean mg mb g') (hA : At g' []) (hd : callerA.depth + 600 < recursionLimit) (hu : callerA.units + 9000 < cLine)
    (m : Str → Option Value) (news : List (Addr × Obj)) :
    let AA := callerA.deeper (envOf dL.1.name dL.1.scope L' fa cdv); AA.depth = callerA.depth + 1 → AA.units = callerA.units + 3 →
    Fr g' L' h' m → News g' L' h' news →
    (∀ (ax : Addr) (t1 t2 t3 : Tok) (k : Nat) (h : Heap) (tk : Nat), NeAll ax news → Fr g' L' h m → News g' L' h ((ax, listOf #[.int (-1) t1, .int 1 t2, .int (-1) t3] k) :: news) → K (.ref ax) ⟨h, gn, dr, tk, os⟩) →
    wpAny (model pw w) AA (eval (forIter (dL.1.body.drop 9)) (envOf dL.1.name dL.1.scope L' fa cdv)) K (fun _ _ => False) ⟨h', gn, dr, tk', os⟩ := by
  intro AA dA uA F' N' cont
  show wpAny (model pw w) AA (eval (forIter (List.drop 9 _)) _) _ (fun _ _ => False) _
  (try dsimp only [List.drop, forIter, parts])
  (try k_fold)
  k_steps
  all_goals (try dsimp only)
  exact cont _ _ _ _ _ _ _ (by assumption) (by assumption) (by assumption)
theorem law_ret (w : World) (p : Program) (loose : List Str) (mean : ExcName → Option Value) (mg mb : Str → Option Value) (base g' h' : Heap) (L' fa sa : Addr) (cdv : Value) (gn : Array GenState) (dr : Drawn) (tk' : Nat) (os : OsState) (Q : Flow → Shared → Prop)
    (B' : Below callerA base [] g') (X' : (KK w.params).In g') (T' : Top p loose mean mg mb g') (hA : At g' []) (hd : callerA.depth + 600 < recursionLimit) (hu : callerA.units + 9000 < cLine)
    (m : Str → Option Value) (news : List (Addr × Obj)) :
    let AA := callerA.deeper (envOf dL.1.name dL.1.scope L' fa cdv); AA.depth = callerA.depth + 1 → AA.units = callerA.units + 3 →
    Fr g' L' h' m → News g' L' h' news →
    (∀ (h : Heap) (tk : Nat), Fr g' L' h m → Q (.ret (.bool true)) ⟨h, gn, dr, tk, os⟩) →
    wpAny (model pw w) AA (execs (dL.1.body.drop 10) (envOf dL.1.name dL.1.scope L' fa cdv)) Q (fun _ _ => False) ⟨h', gn, dr, tk', os⟩ := by
  intro AA dA uA F' N' cont
  show wpAny (model pw w) AA (execs (List.drop 10 _) _) Q (fun _ _ => False) _
  (try dsimp only [List.drop])
  (try k_fold)
  k_steps
  all_goals (try dsimp only)
  exact cont _ _ F'
end
theorem frameX {X : Str → Option Value} : X = (fun y => if y = Str.ofString "step" then X y else if y = Str.ofString "at" then X y else if y = Str.ofString "kept" then X y else X y) := by
  funext y
  simp only [ite_self]
theorem law_passes (w : World) (p : Program) (loose : List Str) (mean : ExcName → Option Value) (mg mb : Str → Option Value) (base g' h' : Heap) (L' fa sa : Addr) (cdv : Value) (gn : Array GenState) (dr : Drawn) (tk' : Nat) (os : OsState) (Q : Flow → Shared → Prop)
    (B' : Below callerA base [] g') (X' : (KK w.params).In g') (T' : Top p loose mean mg mb g') (hA : At g' []) (hd : callerA.depth + 600 < recursionLimit) (hu : callerA.units + 9000 < cLine)
    (A : Nat → Addr) (T : Nat → Nat → Tok) (S : St) (R : List (Addr × Obj)) (bs app : List Grp) (txs : List (List Value)) (tvs : List Value) (dk tl : Addr) (here star : Int) (th ts : Tok) (nt : Nat) (u : Str → Option Value)
    (W : Bt w A S R false bs app txs tvs (-1) here star 6) (ot : ∀ i, i < 16 → tl ≠ A i) :
    let AA := callerA.deeper (envOf dL.1.name dL.1.scope L' fa cdv); AA.depth = callerA.depth + 1 → AA.units = callerA.units + 3 →
    Fr g' L' h' (fun y => if y = Str.ofString "here" then some (.int here th) else if y = Str.ofString "turn" then u y else if y = Str.ofString "texts" then some (.ref tl) else if y = Str.ofString "the_saved" then some (.int star ts) else if y = Str.ofString "marker" then some (.ref (A 11)) else if y = Str.ofString "deck" then some (.ref dk) else if y = Str.ofString "buffer" then some (.ref (A 7)) else List.lookup y [(Str.ofString "script", Value.ref sa)]) → News g' L' h' ((tl, listOf tvs.toArray nt) :: (ledL w A T S ++ (cstL w A T ++ R))) →
    (∀ (m : Str → Option Value) (h : Heap) (tk : Nat), Fr g' L' h m → Q (.ret (.bool true)) ⟨h, gn, dr, tk, os⟩) →
    wpAny (model pw w) AA (execs (dL.1.body.drop 9) (envOf dL.1.name dL.1.scope L' fa cdv)) Q (fun _ _ => False) ⟨h', gn, dr, tk', os⟩ := by
  intro AA dA uA F N fin
  show wpAny (model pw w) AA (execs (.For (.Name (Str.ofString "step") _) (forIter (dL.1.body.drop 9)) (stmtBody (dL.1.body.drop 9)) [] _ :: dL.1.body.drop 10) _) Q (fun _ _ => False) _
  refine wpAny_execs_cons ?_
  refine For_invV g' (by rfl) (by rfl) ?_
  refine law_eval w p loose mean mg mb base g' h' L' fa sa cdv gn dr tk' os _ B' X' T' hA hd hu _ _ dA uA F N ?_
  intro ax t1 t2 t3 k h tk nax F N
  have oax : Off A ax := by
    refine nd_off3 (q1 := (tl, listOf tvs.toArray nt)) (q2 := (tl, listOf tvs.toArray nt)) (q3 := (tl, listOf tvs.toArray nt)) (S := S) (T := T) (w := w) (RR := R) fun q hq => nax q ?_
    rcases List.mem_cons.mp hq with rfl | hq
    · exact .head _
    rcases List.mem_cons.mp hq with rfl | hq
    · exact .head _
    exact hq
  refine iter_listUnr (env := envOf dL.1.name dL.1.scope L' fa cdv) (vs := [.int (-1) t1, .int 1 t2, .int (-1) t3]) (by rfl) F N (.head _) rfl rfl fun I hI => ?_
  have J0 : BJ w sa T txs tvs dk tl ax (listOf #[.int (-1) t1, .int 1 t2, .int (-1) t3] k) (-1) star ts nt u 6 _ _ := ⟨A, S, R, false, bs, app, here, th, _, W, ot, oax, frameX, rfl⟩
  have mem : ∀ {step B m' news'}, BJ w sa T txs tvs dk tl ax (listOf #[.int (-1) t1, .int 1 t2, .int (-1) t3] k) step star ts nt u B m' news' → (ax, listOf #[.int (-1) t1, .int 1 t2, .int (-1) t3] k) ∈ news' := by
    rintro step B m' news' ⟨A, S, R, q, bs, app, here, th, u2, W, _, _, rfl, rfl⟩
    exact .head _
  refine ListRest.succ fun it h2 tk2 _ F2 N2 => ?_
  refine law_pass w p loose mean mg mb base g' h2 L' fa sa cdv gn dr tk2 os _ B' X' T' hA hd hu T txs tvs dk tl I ax it _ (-1) star t1 ts nt 6 u _ _ (by decide) dA uA J0 (fun p hp => Nat.ne_of_lt (hI p hp)) F2 N2 ?_
  intro m3 news3 h3 tk3 J3 F3 N3 off3
  refine ⟨h3, tk3, m3, news3, rfl, F3, N3, off3, mem J3, ?_⟩
  refine ListRest.succ fun it4 h4 tk4 _ F4 N4 => ?_
  refine law_pass w p loose mean mg mb base g' h4 L' fa sa cdv gn dr tk4 os _ B' X' T' hA hd hu T txs tvs dk tl I ax it4 _ 1 star t2 ts nt 18 u _ _ (by decide) dA uA J3 off3 F4 N4 ?_
  intro m5 news5 h5 tk5 J5 F5 N5 off5
  refine ⟨h5, tk5, m5, news5, rfl, F5, N5, off5, mem J5, ?_⟩
  refine ListRest.succ fun it6 h6 tk6 _ F6 N6 => ?_
  refine law_pass w p loose mean mg mb base g' h6 L' fa sa cdv gn dr tk6 os _ B' X' T' hA hd hu T txs tvs dk tl I ax it6 _ (-1) star t3 ts nt 42 u _ _ (by decide) dA uA J5 off5 F6 N6 ?_
  intro m7 news7 h7 tk7 J7 F7 N7 off7'
  refine ⟨h7, tk7, m7, news7, rfl, F7, N7, off7', mem J7, ?_⟩
  refine ListRest.zero fun h8 tk8 F8 N8 => ?_
  exact law_ret w p loose mean mg mb base g' h8 L' fa sa cdv gn dr tk8 os Q B' X' T' hA hd hu _ _ dA uA F8 N8 (fun h tk F => fin _ h tk F)
theorem setmk2_use {w : World} {p : Program} {loose : List Str} {mean : ExcName → Option Value} {mg mb : Str → Option Value} {dp un : Nat} {gd' : Option (List Code)} {cn : Str} {cs : Scope} {a₀ : Addr} {ccd : Value} {cl₀ : List (Str × Addr)} {outer : List Env} {A₀ : Around} {base h₀ : Heap} {L : Addr} {m : Str → Option Value} {s : Shared} {Q E : Value → Shared → Prop} {news : List (Addr × Obj)}
    {A : Nat → Addr} {T : Nat → Nat → Tok} {S : St} {uv : Value} {tp : Tok} {tm : Nat → Tok} {adv : Bool} {p0 : Int} {um vp : Tok} {okr : Obj} (B : Below A₀ base outer h₀) (F : Fr h₀ L s.heap m) (X : (KK w.params).In h₀) (N : News h₀ L s.heap news) (T' : Top p loose mean mg mb h₀) (hk : cs.kind = .function)
    (hp : At s.heap [(A 11, instObj 477 (A 3)), (A 7, instObj 651 (A 0)), (A 0, bufO w A T uv S), (A 1, gapO w A T S), (A 2, listOf S.cells.toArray S.nc), (A 8, instObj 400 (A 1)), (A 9, instObj 545 (A 10)), (A 10, dictOf (ksEs w.params (T 5 0) (A 4)) 1)]) (sub : Subl [(A 3, dictOf (mkEs w.params tm adv (.ref (A 7)) p0 um vp) 4), (A 4, okr)] news) (hd : dp + 60 < recursionLimit) (hu : un + 600 < cLine)
    (hI : Inj A) (lo : (A 4 == sysModules) = false) (hkr : okr.IsDictOf (intKind pw w) [(1, .ref (A 11))]) (h3 : 0 ≤ S.gs) (h4 : S.gs ≤ S.ge) (h5 : S.ge ≤ S.cells.length) (h6 : S.cells.length ≤ 200000)
    (ret : ∀ vp okr' h' tk', Fr h₀ L h' m → (∀ new, Repl [A 3, A 4] [(A 3, dictOf (mkEs w.params tm adv .none 0 um vp) 4), (A 4, okr')] news new → News h₀ L h' new) → okr'.IsDictOf (intKind pw w) [] → Q .none { s with heap := h', toks := tk' }) :
    wpAny (model pw w) (ktrTop dp un gd' cn cs L a₀ ccd cl₀ outer) (call (.ref 660) [.ref (A 11), .none, .int 0 tp]) Q E s := by
  refine spec_use2 (setmk2_spec w A T S uv tp tm adv p0 um vp okr hI lo hkr h3 h4 h5 h6) B F X N T' hk hp sub hd hu ?_
  intro v h' tk' F' nb fr kp po
  obtain ⟨rfl, vp', okr', A', hk'⟩ := po
  exact ret vp' okr' h' tk' F' (fun new R => nb _ _ A' R) hk'
section
open N_L14
namespace law_p3N
abbrev zS (w : World) (p : Program) (loose : List Str) (mean : ExcName → Option Value) (mg mb : Str → Option Value) (base g' : Heap) (L' fa sa : Addr) (cdv : Value) (gn : Array GenState) (dr : Drawn) (os : OsState) (Q : Flow → Shared → Prop) : Prop := let AA := callerA.deeper (envOf dL.1.name dL.1.scope L' fa cdv); AA.depth = callerA.depth + 1 → AA.units = callerA.units + 3 → (∀ (m : Str → Option Value) (h : Heap) (tk : Nat), Fr g' L' h m → Q (.ret (.bool true)) ⟨h, gn, dr, tk, os⟩) → LawCont2 w g' L' sa AA (envOf dL.1.name dL.1.scope L' fa cdv) gn dr os Q (fun _ _ => False)
def zP (w : World) (p : Program) (loose : List Str) (mean : ExcName → Option Value) (mg mb : Str → Option Value) (base g' : Heap) (L' fa sa : Addr) (cdv : Value) (gn : Array GenState) (dr : Drawn) (os : OsState) (Q : Flow → Shared → Prop) : Prop := ∀ (B' : Below callerA base [] g') (X' : (KK w.params).In g') (T' : Top p loose mean mg mb g') (hA : At g' []) (hd : callerA.depth + 600 < recursionLimit) (hu : callerA.units + 9000 < cLine), zS w p loose mean mg mb base g' L' fa sa cdv gn dr os Q
abbrev zT := (World × Program × (List Str) × (ExcName → Option Value)) × ((Str → Option Value) × (Str → Option Value) × Heap × Heap) × (Addr × Addr × Addr × Value) × ((Array GenState) × Drawn × OsState × (Flow → Shared → Prop))
def zQ (x : zT) : Prop := zP x.1.1 x.1.2.1 x.1.2.2.1 x.1.2.2.2 x.2.1.1 x.2.1.2.1 x.2.1.2.2.1 x.2.1.2.2.2 x.2.2.1.1 x.2.2.1.2.1 x.2.2.1.2.2.1 x.2.2.1.2.2.2 x.2.2.2.1 x.2.2.2.2.1 x.2.2.2.2.2.1 x.2.2.2.2.2.2
theorem zne : Nonempty zT := by k_extra "zne"
def zX : zT := pk zne zQ
def p := zX.1.2.1
noncomputable abbrev AA : Around := callerA.deeper (envOf dL.1.name dL.1.scope zX.2.2.1.1 zX.2.2.1.2.1 zX.2.2.1.2.2.2)
theorem body : zP zX.1.1 p zX.1.2.2.1 zX.1.2.2.2 zX.2.1.1 zX.2.1.2.1 zX.2.1.2.2.1 zX.2.1.2.2.2 zX.2.2.1.1 zX.2.2.1.2.1 zX.2.2.1.2.2.1 zX.2.2.1.2.2.2 zX.2.2.2.1 zX.2.2.2.2.1 zX.2.2.2.2.2.1 zX.2.2.2.2.2.2 := by
  intro B' X' T' hA hd hu
  delta zS
  intro AA0; have eAA : AA0 = AA := rfl; clear_value AA0; subst eAA
  intro dA uA fin A T dk d0 d1 tl ys n2 n m news h' tk' hn1 hn2 J ot t1 t2 t3 F' N'
  obtain ⟨S, R, gs, txs, tvs, saved, xs, c, tc, ts, n0, n1, nt, u, W, D, hc, far, rfl, rfl⟩ := J
  have off := W.off
  have hI := D.hI
  have lo := D.lo
  have h3 := W.V.h3
  have h4 := W.V.h4
  have h5 := W.V.h5
  have h6 : S.cells.length ≤ 200000 := by have := W.cb; omega
  have hkr : S.okr.IsDictOf (intKind pw zX.1.1) [(1, .ref (A 11))] := by have := W.V.hkr; rw [W.kv] at this; exact this
  have htv : tvs.length = n + 1 := W.vl.trans W.tl
  have o175 : Off A 175 := by
    have N7 : News zX.2.1.2.2.2 zX.2.2.1.1 h' (ledL zX.1.1 A T S ++ cstL zX.1.1 A T) := fun p hp => N' p (.tail _ (.tail _ (.tail _ (.tail _ (by
      rcases List.mem_append.mp hp with h | h
      · exact List.mem_append_left _ h
      · exact List.mem_append_right _ (List.mem_append_left _ h))))))
    intro i hi e
    have e2 : (ledL zX.1.1 A T S ++ cstL zX.1.1 A T).map (·.1) = (List.range 16).map A := rfl
    have : A i ∈ (ledL zX.1.1 A T S ++ cstL zX.1.1 A T).map (·.1) := by rw [e2]; exact List.mem_map.mpr ⟨i, List.mem_range.mpr hi, rfl⟩
    obtain ⟨p, hp, e3⟩ := List.mem_map.mp this
    have := (N7 p hp).2.2
    rw [e3, ← e, X' 175 (o175 zX.1.1.params) rfl] at this
    cases this
  have N2 : News zX.2.1.2.2.2 zX.2.2.1.1 h' ((tl, listOf tvs.toArray nt) :: (ledL zX.1.1 A T S ++ (cstL zX.1.1 A T ++ R))) := fun p hp => N' p (.tail _ (.tail _ (.tail _ hp)))
  clear N'
  have N' := N2
  clear N2
  dsimp only [ledL, cstL, List.cons_append, List.nil_append] at N'
  rw [W.bv] at N'
  show wpAny (model pw zX.1.1) AA (execs (List.drop 7 _) _) zX.2.2.2.2.2.2 (fun _ _ => False) _
  (try dsimp only [List.drop])
  (try k_fold)
  k_steps
  all_goals (try dsimp only)
  unfold Stop
  refine' law_passes zX.1.1 p zX.1.2.2.1 zX.1.2.2.2 zX.2.1.1 zX.2.1.2.1 zX.2.1.2.2.1 zX.2.1.2.2.2 _ zX.2.2.1.1 zX.2.2.1.2.1 zX.2.2.1.2.2.1 zX.2.2.1.2.2.2 zX.2.2.2.1 zX.2.2.2.2.1 _ zX.2.2.2.2.2.1 zX.2.2.2.2.2.2 B' X' T' hA hd hu A T { S with bv := .none, pos := 0, vp := ?vp, kvs := [], okr := ?okr } R [] gs txs tvs dk tl _ saved _ ts nt u ?W ot dA uA ?F ?N fin
  case N => assumption
  case F => assumption
  case W =>
    rw [show (tvs.length : Int) - 1 = (n : Int) by omega]
    exact W.finish hI lo o175 hn1 hn2 ⟨W.V.hnv, h3, h4, h5, W.V.hz, by assumption, rfl⟩ rfl rfl rfl rfl rfl rfl rfl rfl
end law_p3N
theorem law_p3 (w p loose mean mg mb base g' L' fa sa cdv gn dr os Q) : law_p3N.zP w p loose mean mg mb base g' L' fa sa cdv gn dr os Q := pk_all (n := law_p3N.zne) (P := law_p3N.zQ) law_p3N.body ((w, p, loose, mean), (mg, mb, base, g'), (L', fa, sa, cdv), (gn, dr, os, Q))
end
theorem law_all (w : World) (p : Program) (loose : List Str) (mean : ExcName → Option Value) (mg mb : Str → Option Value) (base g' h' : Heap) (L' fa sa : Addr) (cdv : Value) (vs : List Value) (ns : List Int) (gn : Array GenState) (dr : Drawn) (tk' : Nat) (os : OsState) (Q : Flow → Shared → Prop) (E : Value → Shared → Prop)
    (F' : Fr g' L' h' (fun y => List.lookup y [(Str.ofString "script", Value.ref sa)])) (N' : News g' L' h' []) (B' : Below callerA base [] g') (X' : (KK w.params).In g') (T' : Top p loose mean mg mb g') (hS : g'.IsList sa vs.toArray) (hi : IntsAre vs ns) (hl : vs.length ≤ 63)
    (fin : ∀ (m : Str → Option Value) (h : Heap) (tk : Nat), Fr g' L' h m → Q (.ret (.bool true)) ⟨h, gn, dr, tk, os⟩) :
    wpAny (model pw w) (callerA.deeper (envOf dL.1.name dL.1.scope L' fa cdv)) (execs dL.1.body (envOf dL.1.name dL.1.scope L' fa cdv)) Q E ⟨h', gn, dr, tk', os⟩ := by
  have hd : callerA.depth + 600 < recursionLimit := by decide
  have hu : callerA.units + 9000 < cLine := by decide
  refine wpAny_noRaise ?_
  refine law_p1 w p loose mean mg mb base g' h' L' fa sa cdv vs ns gn dr tk' os Q (fun _ _ => False) F' N' B' X' T' hS hi hl trivial hd hu rfl rfl ?_
  refine law_p2 w p loose mean mg mb base g' L' fa sa cdv gn dr os Q B' X' T' trivial hd hu rfl rfl ?_
  exact law_p3 w p loose mean mg mb base g' L' fa sa cdv gn dr os Q B' X' T' trivial hd hu rfl rfl fin
end
end Mine
local macro_rules | `(tactic| k_qdec) => `(tactic| decide +kernel)
theorem PySem.Challenge.cw_on0071_01_holds : PySem.Challenge.rw_on0071_01.Holds := by
  refine Mine.holds_of_walk ?_
  k_fill
  intro w s₀ s₁ mg mb G Y fa o pm cd doc dV kV ho hd hcd hD hmg hg args vals as hpre hlay hrd hwl hlo
  have KX : (Mine.KK w.params).In s₁.heap := Y
  k_behind G ho hd hcd hD hmg hpre hlay hrd hwl hlo cd
  all_goals (try k_fold)
  have hv := (by assumption : IntsAre _ _).length
  refine Mine.law_all w _ _ _ mg mb _ _ _ _ fa _ _ _ _ _ _ _ _ _ _ (by assumption) (by assumption) (by assumption) KX (by assumption) (by assumption) (by assumption) (by omega) ?_
  intro m h tk F
  wrow_close
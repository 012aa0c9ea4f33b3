import PyProof.Rows.All
import Wide.All
import OpenK.AllK
import Wide.FinOn
import Open.Pieces
import KE.KPar
import PyProof.NeData
import PyProof.P3Eq
import Lean
import PySem.Challenge.RW_pq0293_01
set_option Elab.async false
set_option linter.all false
set_option maxRecDepth 100000
set_option maxHeartbeats 4000000
set_option genSizeOf false
set_option genInjectivity false
namespace Nw
open PySem PySem.W PyProof.Rows PySem.Calls
open PySem PySem.W PyProof.Rows
noncomputable abbrev pw : Program := PySem.Challenge.pw_pq0293_01
noncomputable def sAt (i : Nat) : Stmt := (pw.main.body[i]?).getD (.Pass default)
noncomputable def mAt (i j : Nat) : Stmt := match sAt i with
  | .ClassDef _ _ _ b _ _ _ _ _ _ _ => (b[j]?).getD (.Pass default)
  | _ => .Pass default
noncomputable def fArgs : Stmt → Arguments
  | .FunctionDef _ a _ _ _ _ _ _ _ _ => a
  | _ => { posonlyargs := [], args := [], vararg := none, kwonlyargs := [], kw_defaults := [], kwarg := none, defaults := [] }
noncomputable def fBody : Stmt → List Stmt
  | .FunctionDef _ _ b _ _ _ _ _ _ _ => b
  | _ => []
noncomputable def fScope : Stmt → Scope
  | .FunctionDef _ _ _ _ _ _ s _ _ _ => s
  | _ => default
noncomputable def dE (P : Params) (x : Str) (t : Nat) (v : Value) : DictEntry := ⟨PyData.keyHash P x, .str x t, v⟩
noncomputable def coR (a : Addr) (n q : Str) (c1 c2 c3 : Nat) (l k : Int) (r1 r2 r3 r4 r5 : Addr) (x : Int) (c4 : Nat) : Addr × Obj :=
  (a, ⟨.type "code", none, .fields #[.str n c1, .str q c2, .str "/claim/cut.py" c3, .int l 0, .int k 0, .int 0 0, .int 0 0, .int 3 0, .ref r1, .bool true, .int 181 0, .ref r2, .none, .ref r3, .ref r4, .ref r5, .int x 0, .int l 0, .str "/claim/cut.py" c4], #[]⟩)
noncomputable def fnV (n q : Str) (s : Stmt) (d m : Value) (c : Addr) := fnOf n q (fArgs s) (fBody s) (fScope s) d .none .none m none (.ref c) .none
noncomputable def fnR (a : Addr) (f : FuncData) : Addr × Obj := (a, ⟨.type "function", none, .func f, #[]⟩)
noncomputable def qv : Program := view pw [79]
noncomputable def looseN : List Str := (["_wall", "LispSignal", "narrow", "widen", "is_narrowed", "GapText", "Opaque", "Marker", "Markers", "Buffer", "LONGEST", "need_writable", "need_room", "reached", "tell_ahead", "tell_behind", "text_out", "text_in", "hung_out", "hung_in", "put_in", "insert_at", "insert", "delete", "rows_moved", "replace", "change_sign", "subst_codes", "transpose_regions", "eq", "plist_find", "holds_pair", "same_plist", "Piece", "tidy_runs", "moved_runs", "piece_joined", "piece_without", "KillRing", "kill_new", "kill_append", "current_kill", "set_marker", "OWN_NUMBER", "MarkRing", "set_mark", "has_mark", "mark_place", "ring_marker", "push_mark", "plist_rows", "piece_of", "insert_piece", "save_kill", "copy_region", "kill_region", "swap_point_and_mark", "yank", "_law_deck", "_law_draw", "_law_drawn", "_law_done", "_law_state", "_law_begun"] : List String).map Str.ofString
set_option maxRecDepth 100000 in
noncomputable def KK (P : Params) : Frag := [
  (1, ⟨.type "dict", none, .dict #[dE P "builtins" 162 (.ref 4), dE P "__main__" 163 (.ref 5)] 2, #[]⟩),
  (2, ⟨.none, none, .dict #[dE P "type.__subclasses__.Exception.0" 223 (.int 38 0), dE P "type.__subclasses__.Exception.n" 224 (.int 1 0)] 2, #[]⟩),
  (3, ⟨.type "dict", none, .dict #[dE P "__name__" 165 (.str "law_pq0293_01" 1234), dE P "__doc__" 166 (.none), dE P "__package__" 167 (.none), dE P "__loader__" 168 (.builtin "__main__.__loader__#opaque"), dE P "__spec__" 169 (.none), dE P "__annotations__" 170 (.ref 6), dE P "__builtins__" 171 (.ref 4), dE P "__file__" 173 (.str "/claim/cut.py" 172), dE P "__cached__" 174 (.none), dE P "_wall" 193 (.ref 21), dE P "LispSignal" 226 (.ref 38), dE P "narrow" 239 (.ref 48), dE P "widen" 246 (.ref 55), dE P "is_narrowed" 253 (.ref 62), dE P "GapText" 373 (.ref 149), dE P "Opaque" 417 (.ref 184), dE P "Marker" 470 (.ref 226), dE P "Markers" 568 (.ref 294), dE P "Buffer" 707 (.ref 400), dE P "LONGEST" 713 (.int 4194304 712), dE P "need_writable" 720 (.ref 409), dE P "need_room" 728 (.ref 416), dE P "reached" 739 (.ref 423), dE P "tell_ahead" 749 (.ref 430), dE P "tell_behind" 760 (.ref 437), dE P "text_out" 770 (.ref 444), dE P "text_in" 779 (.ref 451), dE P "hung_out" 788 (.ref 458), dE P "hung_in" 798 (.ref 465), dE P "put_in" 809 (.ref 472), dE P "insert_at" 819 (.ref 480), dE P "insert" 828 (.ref 488), dE P "delete" 840 (.ref 495), dE P "rows_moved" 846 (.ref 500), dE P "replace" 861 (.ref 508), dE P "change_sign" 870 (.ref 515), dE P "subst_codes" 885 (.ref 522), dE P "transpose_regions" 900 (.ref 529), dE P "eq" 910 (.ref 536), dE P "plist_find" 919 (.ref 543), dE P "holds_pair" 929 (.ref 550), dE P "same_plist" 939 (.ref 557), dE P "Piece" 972 (.ref 574), dE P "tidy_runs" 984 (.ref 585), dE P "moved_runs" 990 (.ref 590), dE P "piece_joined" 998 (.ref 597), dE P "piece_without" 1004 (.ref 602), dE P "KillRing" 1037 (.ref 619), dE P "kill_new" 1046 (.ref 630), dE P "kill_append" 1056 (.ref 637), dE P "current_kill" 1066 (.ref 644), dE P "set_marker" 1077 (.ref 651), dE P "OWN_NUMBER" 1081 (.int 0 1080), dE P "MarkRing" 1112 (.ref 668), dE P "set_mark" 1120 (.ref 679), dE P "has_mark" 1127 (.ref 686), dE P "mark_place" 1134 (.ref 693), dE P "ring_marker" 1144 (.ref 700), dE P "push_mark" 1154 (.ref 707), dE P "plist_rows" 1162 (.ref 712), dE P "piece_of" 1168 (.ref 717), dE P "insert_piece" 1174 (.ref 722), dE P "save_kill" 1186 (.ref 729), dE P "copy_region" 1199 (.ref 736), dE P "kill_region" 1212 (.ref 743), dE P "swap_point_and_mark" 1220 (.ref 750), dE P "yank" 1233 (.ref 757), dE P "_law_deck" 1241 (.ref 762), dE P "_law_draw" 1251 (.ref 769), dE P "_law_drawn" 1257 (.ref 774), dE P "_law_done" 1263 (.ref 779), dE P "_law_state" 1269 (.ref 784), dE P "_law_begun" 1282 (.ref 791), dE P "law" 1288 (.ref 796)] 74, #[]⟩),
  coR 20 "_wall" "_wall" 187 188 189 1 1 15 16 17 18 19 191 192,
  fnR 21 (fnV "_wall" "_wall" (sAt 0) (.none) (.str "__main__" 164) 20),
  coR 34 "__init__" "LispSignal.__init__" 208 209 210 7 3 29 30 31 32 33 214 215,
  fnR 35 (fnV "__init__" "LispSignal.__init__" (mAt 2 0) (.none) (.str "emacs.errors" 194) 34),
  (37, ⟨.type "dict", none, .dict #[dE P "__module__" 203 (.str "emacs.errors" 194), dE P "__firstlineno__" 207 (.int 5 206), dE P "__init__" 216 (.ref 35), dE P "__static_attributes__" 219 (.ref 36), dE P "__weakref__" 221 (.ref 39), dE P "__doc__" 222 (.none)] 3, #[]⟩),
  (38, ⟨.type "type", none, .cls { name := "LispSignal", bases := [.type "Exception"], mro := [.ref 38, .type "Exception", .type "BaseException", .type "object"], ns := 37, qualname := "LispSignal", hasDict := true, slotNames := [], subclasses := [], abstract := false, collection := none, hasDel := false }, #[some (.ref 22), none, some (.str "LispSignal" 196), some (.str "LispSignal" 204), some (.builtin "Exception.__new__"), some (.bool true)]⟩),
  coR 47 "narrow" "narrow" 229 230 231 11 3 42 43 44 45 46 237 238,
  fnR 48 (fnV "narrow" "narrow" (sAt 4) (.none) (.str "emacs.narrowing" 227) 47),
  coR 54 "widen" "widen" 240 241 242 17 1 49 50 51 52 53 244 245,
  fnR 55 (fnV "widen" "widen" (sAt 5) (.none) (.str "emacs.narrowing" 227) 54),
  coR 61 "is_narrowed" "is_narrowed" 247 248 249 19 1 56 57 58 59 60 251 252,
  fnR 62 (fnV "is_narrowed" "is_narrowed" (sAt 6) (.none) (.str "emacs.narrowing" 227) 61),
  coR 75 "__init__" "GapText.__init__" 268 269 270 24 3 70 71 72 73 74 274 275,
  fnR 76 (fnV "__init__" "GapText.__init__" (mAt 8 0) (.none) (.str "emacs.gap" 254) 75),
  coR 82 "size" "GapText.size" 277 278 279 30 1 77 78 79 80 81 281 282,
  fnR 83 (fnV "size" "GapText.size" (mAt 8 1) (.none) (.str "emacs.gap" 254) 82),
  coR 89 "code" "GapText.code" 284 285 286 33 2 84 85 86 87 88 289 290,
  fnR 90 (fnV "code" "GapText.code" (mAt 8 2) (.none) (.str "emacs.gap" 254) 89),
  coR 96 "codes" "GapText.codes" 292 293 294 38 3 91 92 93 94 95 299 300,
  fnR 97 (fnV "codes" "GapText.codes" (mAt 8 3) (.none) (.str "emacs.gap" 254) 96),
  coR 103 "move_gap" "GapText.move_gap" 302 303 304 46 2 98 99 100 101 102 308 309,
  fnR 104 (fnV "move_gap" "GapText.move_gap" (mAt 8 4) (.none) (.str "emacs.gap" 254) 103),
  coR 110 "widen_gap" "GapText.widen_gap" 311 312 313 57 2 105 106 107 108 109 317 318,
  fnR 111 (fnV "widen_gap" "GapText.widen_gap" (mAt 8 5) (.none) (.str "emacs.gap" 254) 110),
  coR 117 "insert" "GapText.insert" 320 321 322 63 3 112 113 114 115 116 326 327,
  fnR 118 (fnV "insert" "GapText.insert" (mAt 8 6) (.none) (.str "emacs.gap" 254) 117),
  coR 124 "delete" "GapText.delete" 329 330 331 69 3 119 120 121 122 123 336 337,
  fnR 125 (fnV "delete" "GapText.delete" (mAt 8 7) (.none) (.str "emacs.gap" 254) 124),
  coR 131 "put" "GapText.put" 339 340 341 79 3 126 127 128 129 130 345 346,
  fnR 132 (fnV "put" "GapText.put" (mAt 8 8) (.none) (.str "emacs.gap" 254) 131),
  (148, ⟨.type "dict", none, .dict #[dE P "__module__" 263 (.str "emacs.gap" 254), dE P "__firstlineno__" 267 (.int 22 266), dE P "__init__" 276 (.ref 76), dE P "size" 283 (.ref 83), dE P "code" 291 (.ref 90), dE P "codes" 301 (.ref 97), dE P "move_gap" 310 (.ref 104), dE P "widen_gap" 319 (.ref 111), dE P "insert" 328 (.ref 118), dE P "delete" 338 (.ref 125), dE P "put" 347 (.ref 132), dE P "narrow_gap" 354 (.ref 139), dE P "is_whole" 361 (.ref 146), dE P "__static_attributes__" 366 (.ref 147), dE P "__dict__" 368 (.ref 150), dE P "__weakref__" 370 (.ref 151), dE P "__doc__" 371 (.none)] 4, #[]⟩),
  (149, ⟨.type "type", none, .cls { name := "GapText", bases := [.type "object"], mro := [.ref 149, .type "object"], ns := 148, qualname := "GapText", hasDict := true, slotNames := [], subclasses := [], abstract := false, collection := none, hasDel := false }, #[none, none, some (.str "GapText" 256), some (.str "GapText" 264), some (.builtin "object.__new__"), some (.bool true)]⟩),
  (183, ⟨.type "dict", none, .dict #[dE P "__module__" 383 (.str "emacs.objects" 374), dE P "__firstlineno__" 387 (.int 88 386), dE P "shown" 394 (.ref 167), dE P "kind" 401 (.ref 174), dE P "same_as" 409 (.ref 181), dE P "__static_attributes__" 410 (.ref 182), dE P "__dict__" 412 (.ref 185), dE P "__weakref__" 414 (.ref 186), dE P "__doc__" 415 (.none)] 4, #[]⟩),
  (184, ⟨.type "type", none, .cls { name := "Opaque", bases := [.type "object"], mro := [.ref 184, .type "object"], ns := 183, qualname := "Opaque", hasDict := true, slotNames := [], subclasses := [.ref 226, .ref 400], abstract := false, collection := none, hasDel := false }, #[none, none, some (.str "Opaque" 376), some (.str "Opaque" 384), some (.builtin "object.__new__"), some (.bool true)]⟩),
  coR 201 "__init__" "Marker.__init__" 432 433 434 101 3 196 197 198 199 200 438 439,
  fnR 202 (fnV "__init__" "Marker.__init__" (mAt 12 0) (.none) (.str "emacs.markers" 418) 201),
  (225, ⟨.type "dict", none, .dict #[dE P "__module__" 427 (.str "emacs.markers" 418), dE P "__firstlineno__" 431 (.int 99 430), dE P "__init__" 440 (.ref 202), dE P "shown" 447 (.ref 209), dE P "kind" 454 (.ref 216), dE P "same_as" 462 (.ref 223), dE P "__static_attributes__" 467 (.ref 224), dE P "__doc__" 468 (.none)] 2, #[]⟩),
  (226, ⟨.type "type", none, .cls { name := "Marker", bases := [.ref 184], mro := [.ref 226, .ref 184, .type "object"], ns := 225, qualname := "Marker", hasDict := true, slotNames := [], subclasses := [], abstract := false, collection := none, hasDel := false }, #[some (.ref 189), none, some (.str "Marker" 420), some (.str "Marker" 428), some (.builtin "object.__new__"), some (.bool true)]⟩),
  coR 241 "__init__" "Markers.__init__" 483 484 485 117 1 236 237 238 239 240 487 488,
  fnR 242 (fnV "__init__" "Markers.__init__" (mAt 13 0) (.none) (.str "emacs.markers" 418) 241),
  coR 248 "numbers" "Markers.numbers" 490 491 492 120 1 243 244 245 246 247 494 495,
  fnR 249 (fnV "numbers" "Markers.numbers" (mAt 13 1) (.none) (.str "emacs.markers" 418) 248),
  coR 255 "put" "Markers.put" 497 498 499 123 3 250 251 252 253 254 503 504,
  fnR 256 (fnV "put" "Markers.put" (mAt 13 2) (.none) (.str "emacs.markers" 418) 255),
  coR 262 "drop" "Markers.drop" 506 507 508 127 2 257 258 259 260 261 511 512,
  fnR 263 (fnV "drop" "Markers.drop" (mAt 13 3) (.none) (.str "emacs.markers" 418) 262),
  coR 269 "within" "Markers.within" 514 515 516 131 3 264 265 266 267 268 522 523,
  fnR 270 (fnV "within" "Markers.within" (mAt 13 4) (.none) (.str "emacs.markers" 418) 269),
  coR 276 "inserted" "Markers.inserted" 525 526 527 138 4 271 272 273 274 275 534 535,
  fnR 277 (fnV "inserted" "Markers.inserted" (mAt 13 5) (.none) (.str "emacs.markers" 418) 276),
  coR 283 "deleted" "Markers.deleted" 537 538 539 144 3 278 279 280 281 282 545 546,
  fnR 284 (fnV "deleted" "Markers.deleted" (mAt 13 6) (.none) (.str "emacs.markers" 418) 283),
  coR 290 "replaced" "Markers.replaced" 548 549 550 152 4 285 286 287 288 289 557 558,
  fnR 291 (fnV "replaced" "Markers.replaced" (mAt 13 7) (.none) (.str "emacs.markers" 418) 290),
  (293, ⟨.type "dict", none, .dict #[dE P "__module__" 478 (.str "emacs.markers" 418), dE P "__firstlineno__" 482 (.int 115 481), dE P "__init__" 489 (.ref 242), dE P "numbers" 496 (.ref 249), dE P "put" 505 (.ref 256), dE P "drop" 513 (.ref 263), dE P "within" 524 (.ref 270), dE P "inserted" 536 (.ref 277), dE P "deleted" 547 (.ref 284), dE P "replaced" 559 (.ref 291), dE P "__static_attributes__" 561 (.ref 292), dE P "__dict__" 563 (.ref 295), dE P "__weakref__" 565 (.ref 296), dE P "__doc__" 566 (.none)] 4, #[]⟩),
  (294, ⟨.type "type", none, .cls { name := "Markers", bases := [.type "object"], mro := [.ref 294, .type "object"], ns := 293, qualname := "Markers", hasDict := true, slotNames := [], subclasses := [], abstract := false, collection := none, hasDel := false }, #[none, none, some (.str "Markers" 471), some (.str "Markers" 479), some (.builtin "object.__new__"), some (.bool true)]⟩),
  (306, ⟨.type "tuple", none, .seq #[.int 8 583] 0, #[]⟩),
  coR 312 "__init__" "Buffer.__init__" 584 585 586 162 4 307 308 309 310 311 591 592,
  fnR 313 (fnV "__init__" "Buffer.__init__" (mAt 15 0) (.ref 306) (.str "emacs.buffer" 569) 312),
  coR 333 "begin" "Buffer.begin" 608 609 610 190 1 328 329 330 331 332 612 613,
  fnR 334 (fnV "begin" "Buffer.begin" (mAt 15 3) (.none) (.str "emacs.buffer" 569) 333),
  coR 340 "end" "Buffer.end" 615 616 617 193 1 335 336 337 338 339 619 620,
  fnR 341 (fnV "end" "Buffer.end" (mAt 15 4) (.none) (.str "emacs.buffer" 569) 340),
  coR 347 "size" "Buffer.size" 622 623 624 196 1 342 343 344 345 346 626 627,
  fnR 348 (fnV "size" "Buffer.size" (mAt 15 5) (.none) (.str "emacs.buffer" 569) 347),
  coR 354 "code_at" "Buffer.code_at" 629 630 631 199 2 349 350 351 352 353 634 635,
  fnR 355 (fnV "code_at" "Buffer.code_at" (mAt 15 6) (.none) (.str "emacs.buffer" 569) 354),
  coR 361 "codes" "Buffer.codes" 637 638 639 204 3 356 357 358 359 360 643 644,
  fnR 362 (fnV "codes" "Buffer.codes" (mAt 15 7) (.none) (.str "emacs.buffer" 569) 361),
  coR 368 "goto" "Buffer.goto" 646 647 648 207 2 363 364 365 366 367 651 652,
  fnR 369 (fnV "goto" "Buffer.goto" (mAt 15 8) (.none) (.str "emacs.buffer" 569) 368),
  coR 396 "touch" "Buffer.touch" 676 677 678 220 2 391 392 393 394 395 681 682,
  fnR 397 (fnV "touch" "Buffer.touch" (mAt 15 12) (.none) (.str "emacs.buffer" 569) 396),
  (399, ⟨.type "dict", none, .dict #[dE P "__module__" 578 (.str "emacs.buffer" 569), dE P "__firstlineno__" 582 (.int 160 581), dE P "__init__" 593 (.ref 313), dE P "shown" 600 (.ref 320), dE P "kind" 607 (.ref 327), dE P "begin" 614 (.ref 334), dE P "end" 621 (.ref 341), dE P "size" 628 (.ref 348), dE P "code_at" 636 (.ref 355), dE P "codes" 645 (.ref 362), dE P "goto" 653 (.ref 369), dE P "tick" 660 (.ref 376), dE P "is_modified" 667 (.ref 383), dE P "set_modified" 675 (.ref 390), dE P "touch" 683 (.ref 397), dE P "__static_attributes__" 704 (.ref 398), dE P "__doc__" 705 (.none)] 2, #[]⟩),
  (400, ⟨.type "type", none, .cls { name := "Buffer", bases := [.ref 184], mro := [.ref 400, .ref 184, .type "object"], ns := 399, qualname := "Buffer", hasDict := true, slotNames := [], subclasses := [], abstract := false, collection := none, hasDel := false }, #[some (.ref 299), none, some (.str "Buffer" 571), some (.str "Buffer" 579), some (.builtin "object.__new__"), some (.bool true)]⟩),
  coR 408 "need_writable" "need_writable" 714 715 716 226 1 403 404 405 406 407 718 719,
  fnR 409 (fnV "need_writable" "need_writable" (sAt 18) (.none) (.str "emacs.editing" 708) 408),
  coR 415 "need_room" "need_room" 721 722 723 229 2 410 411 412 413 414 726 727,
  fnR 416 (fnV "need_room" "need_room" (sAt 19) (.none) (.str "emacs.editing" 708) 415),
  coR 422 "reached" "reached" 729 730 731 232 3 417 418 419 420 421 737 738,
  fnR 423 (fnV "reached" "reached" (sAt 20) (.none) (.str "emacs.editing" 708) 422),
  coR 429 "tell_ahead" "tell_ahead" 740 741 742 237 3 424 425 426 427 428 747 748,
  fnR 430 (fnV "tell_ahead" "tell_ahead" (sAt 21) (.none) (.str "emacs.editing" 708) 429),
  coR 436 "tell_behind" "tell_behind" 750 751 752 240 4 431 432 433 434 435 758 759,
  fnR 437 (fnV "tell_behind" "tell_behind" (sAt 22) (.none) (.str "emacs.editing" 708) 436),
  coR 443 "text_out" "text_out" 761 762 763 244 3 438 439 440 441 442 768 769,
  fnR 444 (fnV "text_out" "text_out" (sAt 23) (.none) (.str "emacs.editing" 708) 443),
  coR 450 "text_in" "text_in" 771 772 773 252 3 445 446 447 448 449 777 778,
  fnR 451 (fnV "text_in" "text_in" (sAt 24) (.none) (.str "emacs.editing" 708) 450),
  coR 457 "hung_out" "hung_out" 780 781 782 259 3 452 453 454 455 456 786 787,
  fnR 458 (fnV "hung_out" "hung_out" (sAt 25) (.none) (.str "emacs.editing" 708) 457),
  coR 464 "hung_in" "hung_in" 789 790 791 264 4 459 460 461 462 463 796 797,
  fnR 465 (fnV "hung_in" "hung_in" (sAt 26) (.none) (.str "emacs.editing" 708) 464),
  coR 471 "put_in" "put_in" 799 800 801 269 5 466 467 468 469 470 807 808,
  fnR 472 (fnV "put_in" "put_in" (sAt 27) (.none) (.str "emacs.editing" 708) 471),
  (473, ⟨.type "tuple", none, .seq #[.bool false] 0, #[]⟩),
  coR 479 "insert_at" "insert_at" 810 811 812 282 4 474 475 476 477 478 817 818,
  fnR 480 (fnV "insert_at" "insert_at" (sAt 28) (.ref 473) (.str "emacs.editing" 708) 479),
  (481, ⟨.type "tuple", none, .seq #[.bool false] 0, #[]⟩),
  coR 487 "insert" "insert" 820 821 822 284 3 482 483 484 485 486 826 827,
  fnR 488 (fnV "insert" "insert" (sAt 29) (.ref 481) (.str "emacs.editing" 708) 487),
  coR 494 "delete" "delete" 829 830 831 286 3 489 490 491 492 493 838 839,
  fnR 495 (fnV "delete" "delete" (sAt 30) (.none) (.str "emacs.editing" 708) 494),
  (499, ⟨.type "code", none, .fields #[.str "rows_moved" 841, .str "rows_moved" 842, .str "/claim/cut.py" 843, .int 297 0, .int 4 0, .int 0 0, .int 0 0, .int 3 0, .ref 496, .bool true, .int 181 0, .ref 497, .none, .none, .none, .ref 498, .int 844 0, .int 297 0, .str "/claim/cut.py" 845], #[]⟩),
  fnR 500 (fnV "rows_moved" "rows_moved" (sAt 31) (.none) (.str "emacs.editing" 708) 499),
  (501, ⟨.type "tuple", none, .seq #[.none] 0, #[]⟩),
  coR 507 "replace" "replace" 847 848 849 302 5 502 503 504 505 506 859 860,
  fnR 508 (fnV "replace" "replace" (sAt 32) (.ref 501) (.str "emacs.editing" 708) 507),
  coR 514 "change_sign" "change_sign" 862 863 864 324 3 509 510 511 512 513 868 869,
  fnR 515 (fnV "change_sign" "change_sign" (sAt 33) (.none) (.str "emacs.editing" 708) 514),
  coR 521 "subst_codes" "subst_codes" 871 872 873 333 5 516 517 518 519 520 883 884,
  fnR 522 (fnV "subst_codes" "subst_codes" (sAt 34) (.none) (.str "emacs.editing" 708) 521),
  coR 528 "transpose_regions" "transpose_regions" 886 887 888 341 3 523 524 525 526 527 898 899,
  fnR 529 (fnV "transpose_regions" "transpose_regions" (sAt 35) (.none) (.str "emacs.editing" 708) 528),
  coR 535 "eq" "eq" 903 904 905 358 2 530 531 532 533 534 908 909,
  fnR 536 (fnV "eq" "eq" (sAt 37) (.none) (.str "emacs.plists" 901) 535),
  coR 542 "plist_find" "plist_find" 911 912 913 362 2 537 538 539 540 541 917 918,
  fnR 543 (fnV "plist_find" "plist_find" (sAt 38) (.none) (.str "emacs.plists" 901) 542),
  coR 549 "holds_pair" "holds_pair" 920 921 922 367 3 544 545 546 547 548 927 928,
  fnR 550 (fnV "holds_pair" "holds_pair" (sAt 39) (.none) (.str "emacs.plists" 901) 549),
  coR 556 "same_plist" "same_plist" 930 931 932 370 2 551 552 553 554 555 937 938,
  fnR 557 (fnV "same_plist" "same_plist" (sAt 40) (.none) (.str "emacs.plists" 901) 556),
  coR 570 "__init__" "Piece.__init__" 954 955 956 380 3 565 566 567 568 569 960 961,
  fnR 571 (fnV "__init__" "Piece.__init__" (mAt 42 0) (.none) (.str "emacs.pieces" 940) 570),
  (573, ⟨.type "dict", none, .dict #[dE P "__module__" 949 (.str "emacs.pieces" 940), dE P "__firstlineno__" 953 (.int 378 952), dE P "__init__" 962 (.ref 571), dE P "__static_attributes__" 965 (.ref 572), dE P "__dict__" 967 (.ref 575), dE P "__weakref__" 969 (.ref 576), dE P "__doc__" 970 (.none)] 4, #[]⟩),
  (574, ⟨.type "type", none, .cls { name := "Piece", bases := [.type "object"], mro := [.ref 574, .type "object"], ns := 573, qualname := "Piece", hasDict := true, slotNames := [], subclasses := [], abstract := false, collection := none, hasDel := false }, #[none, none, some (.str "Piece" 942), some (.str "Piece" 950), some (.builtin "object.__new__"), some (.bool true)]⟩),
  coR 584 "tidy_runs" "tidy_runs" 973 974 975 383 1 579 580 581 582 583 982 983,
  fnR 585 (fnV "tidy_runs" "tidy_runs" (sAt 43) (.none) (.str "emacs.pieces" 940) 584),
  (589, ⟨.type "code", none, .fields #[.str "moved_runs" 985, .str "moved_runs" 986, .str "/claim/cut.py" 987, .int 393 0, .int 2 0, .int 0 0, .int 0 0, .int 3 0, .ref 586, .bool true, .int 181 0, .ref 587, .none, .none, .none, .ref 588, .int 988 0, .int 393 0, .str "/claim/cut.py" 989], #[]⟩),
  fnR 590 (fnV "moved_runs" "moved_runs" (sAt 44) (.none) (.str "emacs.pieces" 940) 589),
  coR 596 "piece_joined" "piece_joined" 991 992 993 395 2 591 592 593 594 595 996 997,
  fnR 597 (fnV "piece_joined" "piece_joined" (sAt 45) (.none) (.str "emacs.pieces" 940) 596),
  (601, ⟨.type "code", none, .fields #[.str "piece_without" 999, .str "piece_without" 1000, .str "/claim/cut.py" 1001, .int 397 0, .int 2 0, .int 0 0, .int 0 0, .int 3 0, .ref 598, .bool true, .int 181 0, .ref 599, .none, .none, .none, .ref 600, .int 1002 0, .int 397 0, .str "/claim/cut.py" 1003], #[]⟩),
  fnR 602 (fnV "piece_without" "piece_without" (sAt 46) (.none) (.str "emacs.pieces" 940) 601),
  coR 615 "__init__" "KillRing.__init__" 1019 1020 1021 405 2 610 611 612 613 614 1024 1025,
  fnR 616 (fnV "__init__" "KillRing.__init__" (mAt 48 0) (.none) (.str "emacs.killring" 1005) 615),
  (618, ⟨.type "dict", none, .dict #[dE P "__module__" 1014 (.str "emacs.killring" 1005), dE P "__firstlineno__" 1018 (.int 403 1017), dE P "__init__" 1026 (.ref 616), dE P "__static_attributes__" 1030 (.ref 617), dE P "__dict__" 1032 (.ref 620), dE P "__weakref__" 1034 (.ref 621), dE P "__doc__" 1035 (.none)] 4, #[]⟩),
  (619, ⟨.type "type", none, .cls { name := "KillRing", bases := [.type "object"], mro := [.ref 619, .type "object"], ns := 618, qualname := "KillRing", hasDict := true, slotNames := [], subclasses := [], abstract := false, collection := none, hasDel := false }, #[none, none, some (.str "KillRing" 1007), some (.str "KillRing" 1015), some (.builtin "object.__new__"), some (.bool true)]⟩),
  coR 629 "kill_new" "kill_new" 1038 1039 1040 409 3 624 625 626 627 628 1044 1045,
  fnR 630 (fnV "kill_new" "kill_new" (sAt 49) (.none) (.str "emacs.killring" 1005) 629),
  coR 636 "kill_append" "kill_append" 1047 1048 1049 415 3 631 632 633 634 635 1054 1055,
  fnR 637 (fnV "kill_append" "kill_append" (sAt 50) (.none) (.str "emacs.killring" 1005) 636),
  coR 643 "current_kill" "current_kill" 1057 1058 1059 421 3 638 639 640 641 642 1064 1065,
  fnR 644 (fnV "current_kill" "current_kill" (sAt 51) (.none) (.str "emacs.killring" 1005) 643),
  coR 650 "set_marker" "set_marker" 1069 1070 1071 429 3 645 646 647 648 649 1075 1076,
  fnR 651 (fnV "set_marker" "set_marker" (sAt 53) (.none) (.str "emacs.placing" 1067) 650),
  coR 664 "__init__" "MarkRing.__init__" 1094 1095 1096 441 2 659 660 661 662 663 1099 1100,
  fnR 665 (fnV "__init__" "MarkRing.__init__" (mAt 56 0) (.none) (.str "emacs.marks" 1078) 664),
  (667, ⟨.type "dict", none, .dict #[dE P "__module__" 1089 (.str "emacs.marks" 1078), dE P "__firstlineno__" 1093 (.int 439 1092), dE P "__init__" 1101 (.ref 665), dE P "__static_attributes__" 1105 (.ref 666), dE P "__dict__" 1107 (.ref 669), dE P "__weakref__" 1109 (.ref 670), dE P "__doc__" 1110 (.none)] 4, #[]⟩),
  (668, ⟨.type "type", none, .cls { name := "MarkRing", bases := [.type "object"], mro := [.ref 668, .type "object"], ns := 667, qualname := "MarkRing", hasDict := true, slotNames := [], subclasses := [], abstract := false, collection := none, hasDel := false }, #[none, none, some (.str "MarkRing" 1082), some (.str "MarkRing" 1090), some (.builtin "object.__new__"), some (.bool true)]⟩),
  coR 678 "set_mark" "set_mark" 1113 1114 1115 445 2 673 674 675 676 677 1118 1119,
  fnR 679 (fnV "set_mark" "set_mark" (sAt 57) (.none) (.str "emacs.marks" 1078) 678),
  coR 685 "has_mark" "has_mark" 1121 1122 1123 449 1 680 681 682 683 684 1125 1126,
  fnR 686 (fnV "has_mark" "has_mark" (sAt 58) (.none) (.str "emacs.marks" 1078) 685),
  coR 692 "mark_place" "mark_place" 1128 1129 1130 451 1 687 688 689 690 691 1132 1133,
  fnR 693 (fnV "mark_place" "mark_place" (sAt 59) (.none) (.str "emacs.marks" 1078) 692),
  coR 699 "ring_marker" "ring_marker" 1135 1136 1137 455 3 694 695 696 697 698 1142 1143,
  fnR 700 (fnV "ring_marker" "ring_marker" (sAt 60) (.none) (.str "emacs.marks" 1078) 699),
  coR 706 "push_mark" "push_mark" 1145 1146 1147 460 3 701 702 703 704 705 1152 1153,
  fnR 707 (fnV "push_mark" "push_mark" (sAt 61) (.none) (.str "emacs.marks" 1078) 706),
  (711, ⟨.type "code", none, .fields #[.str "plist_rows" 1157, .str "plist_rows" 1158, .str "/claim/cut.py" 1159, .int 468 0, .int 3 0, .int 0 0, .int 0 0, .int 3 0, .ref 708, .bool true, .int 181 0, .ref 709, .none, .none, .none, .ref 710, .int 1160 0, .int 468 0, .str "/claim/cut.py" 1161], #[]⟩),
  fnR 712 (fnV "plist_rows" "plist_rows" (sAt 63) (.none) (.str "emacs.piecing" 1155) 711),
  (716, ⟨.type "code", none, .fields #[.str "piece_of" 1163, .str "piece_of" 1164, .str "/claim/cut.py" 1165, .int 472 0, .int 3 0, .int 0 0, .int 0 0, .int 3 0, .ref 713, .bool true, .int 181 0, .ref 714, .none, .none, .none, .ref 715, .int 1166 0, .int 472 0, .str "/claim/cut.py" 1167], #[]⟩),
  fnR 717 (fnV "piece_of" "piece_of" (sAt 64) (.none) (.str "emacs.piecing" 1155) 716),
  (721, ⟨.type "code", none, .fields #[.str "insert_piece" 1169, .str "insert_piece" 1170, .str "/claim/cut.py" 1171, .int 475 0, .int 2 0, .int 0 0, .int 0 0, .int 3 0, .ref 718, .bool true, .int 181 0, .ref 719, .none, .none, .none, .ref 720, .int 1172 0, .int 475 0, .str "/claim/cut.py" 1173], #[]⟩),
  fnR 722 (fnV "insert_piece" "insert_piece" (sAt 65) (.none) (.str "emacs.piecing" 1155) 721),
  coR 728 "save_kill" "save_kill" 1177 1178 1179 483 4 723 724 725 726 727 1184 1185,
  fnR 729 (fnV "save_kill" "save_kill" (sAt 67) (.none) (.str "emacs.yanking" 1175) 728),
  coR 735 "copy_region" "copy_region" 1187 1188 1189 488 5 730 731 732 733 734 1197 1198,
  fnR 736 (fnV "copy_region" "copy_region" (sAt 68) (.none) (.str "emacs.yanking" 1175) 735),
  coR 742 "kill_region" "kill_region" 1200 1201 1202 491 5 737 738 739 740 741 1210 1211,
  fnR 743 (fnV "kill_region" "kill_region" (sAt 69) (.none) (.str "emacs.yanking" 1175) 742),
  coR 749 "swap_point_and_mark" "swap_point_and_mark" 1213 1214 1215 497 1 744 745 746 747 748 1218 1219,
  fnR 750 (fnV "swap_point_and_mark" "swap_point_and_mark" (sAt 70) (.none) (.str "emacs.yanking" 1175) 749),
  coR 756 "yank" "yank" 1221 1222 1223 501 6 751 752 753 754 755 1231 1232,
  fnR 757 (fnV "yank" "yank" (sAt 71) (.none) (.str "emacs.yanking" 1175) 756),
  (761, ⟨.type "code", none, .fields #[.str "_law_deck" 1236, .str "_law_deck" 1237, .str "/claim/cut.py" 1238, .int 509 0, .int 1 0, .int 0 0, .int 0 0, .int 3 0, .ref 758, .bool true, .int 181 0, .ref 759, .none, .none, .none, .ref 760, .int 1239 0, .int 509 0, .str "/claim/cut.py" 1240], #[]⟩),
  fnR 762 (fnV "_law_deck" "_law_deck" (sAt 73) (.none) (.str "law_pq0293_01" 1234) 761),
  coR 768 "_law_draw" "_law_draw" 1242 1243 1244 512 2 763 764 765 766 767 1249 1250,
  fnR 769 (fnV "_law_draw" "_law_draw" (sAt 74) (.none) (.str "law_pq0293_01" 1234) 768),
  (773, ⟨.type "code", none, .fields #[.str "_law_drawn" 1252, .str "_law_drawn" 1253, .str "/claim/cut.py" 1254, .int 523 0, .int 3 0, .int 0 0, .int 0 0, .int 3 0, .ref 770, .bool true, .int 181 0, .ref 771, .none, .none, .none, .ref 772, .int 1255 0, .int 523 0, .str "/claim/cut.py" 1256], #[]⟩),
  fnR 774 (fnV "_law_drawn" "_law_drawn" (sAt 75) (.none) (.str "law_pq0293_01" 1234) 773),
  (778, ⟨.type "code", none, .fields #[.str "_law_done" 1258, .str "_law_done" 1259, .str "/claim/cut.py" 1260, .int 526 0, .int 5 0, .int 0 0, .int 0 0, .int 3 0, .ref 775, .bool true, .int 181 0, .ref 776, .none, .none, .none, .ref 777, .int 1261 0, .int 526 0, .str "/claim/cut.py" 1262], #[]⟩),
  fnR 779 (fnV "_law_done" "_law_done" (sAt 76) (.none) (.str "law_pq0293_01" 1234) 778),
  (783, ⟨.type "code", none, .fields #[.str "_law_state" 1264, .str "_law_state" 1265, .str "/claim/cut.py" 1266, .int 552 0, .int 4 0, .int 0 0, .int 0 0, .int 3 0, .ref 780, .bool true, .int 181 0, .ref 781, .none, .none, .none, .ref 782, .int 1267 0, .int 552 0, .str "/claim/cut.py" 1268], #[]⟩),
  fnR 784 (fnV "_law_state" "_law_state" (sAt 77) (.none) (.str "law_pq0293_01" 1234) 783),
  coR 790 "_law_begun" "_law_begun" 1270 1271 1272 556 3 785 786 787 788 789 1280 1281,
  fnR 791 (fnV "_law_begun" "_law_begun" (sAt 78) (.none) (.str "law_pq0293_01" 1234) 790),
  (795, ⟨.type "code", none, .fields #[.str "law" 1283, .str "law" 1284, .str "/claim/cut.py" 1285, .int 563 0, .int 1 0, .int 0 0, .int 0 0, .int 3 0, .ref 792, .bool true, .int 181 0, .ref 793, .none, .none, .none, .ref 794, .int 1286 0, .int 563 0, .str "/claim/cut.py" 1287], #[]⟩),
  fnR 796 (fnV "law" "law" (sAt 79) (.none) (.str "law_pq0293_01" 1234) 795)]
open PySem PySem.W PyProof.Rows
noncomputable abbrev bodyE : List Stmt := behindTheImports pw
noncomputable def envE : Env := { scope := pw.main.scope, locals := mainNs, globals := mainNs, cells := [], code := .ref 13, frame := some 14 }
noncomputable abbrev cE : Code := .body bodyE envE
noncomputable abbrev p0 : Pos := ⟨0, 0, 0, 0⟩
noncomputable abbrev BB : List Frame := [topFrame p0]
noncomputable def btGo : Nat → List Obj → BT → BT
  | _, [], t => t
  | i, o :: r, t => btGo (i + 1) r (t.ins i o)
noncomputable def o11 : Obj := ⟨.type "tuple", none, .seq #[] 0, #[]⟩
noncomputable def o12 : Obj := ⟨.none, none, .fields #[], #[]⟩
noncomputable def o13 : Obj := ⟨.type "code", none, .fields #[.str "<module>" 182, .str "<module>" 183, .str "/claim/cut.py" 184, .int 1 0, .int 0 0, .int 0 0, .int 0 0, .int 0 0, .ref 11, .bool false, .int 181 0, .ref 12, .none, .none, .none, .none, .int 185 0, .int 1 0, .str "/claim/cut.py" 186], #[]⟩
noncomputable def o14 : Obj := ⟨.type "frame", none, .plain, #[some (.ref 13), some (.ref 3), some (.ref 3), none, some (.str "__main__" 164), none, some (.ref 0)]⟩
noncomputable def t15 (P : Params) : BT := btGo 0 [boot_o_0 P, boot_o_1 P, boot_o_2 P, boot_o_3 P, boot_o_4 P, boot_o_5 P, boot_o_6 P, boot_o_7 P, boot_o_8 P, boot_o_9 P, boot_o_10 P, o11, o12, o13, o14] .nil
noncomputable def S1 (w : World) (os : OsState) : SharedT := ⟨t15 w.params, 15, {}, #[], boot_drawn, 187, os⟩
noncomputable def S0 (w : World) (os : OsState) : Shared := ⟨boot_heap w.params, #[], boot_drawn, boot_toks, os⟩
theorem pre (w : World) (os : OsState) : topGo treeTable pw w 11 (some (.ref 6)) 12 (S0 w os) (topStub pw) = some ((S1 w os).abs, ⟨denote treeTable cE, cE, p0, BB⟩) := by kernel_rfl
theorem block (w : World) (os : OsState) : segRunT treeTable pw w 11 (some (.ref 6)) 1 1 (S1 w os) (blockOf bodyE envE cE p0 BB) = some (.next, S1 w os, cE, p0) := by kernel_rfl
open PySem PySem.W PyProof.Rows
noncomputable def addrs : List Addr := [1, 2, 3, 20, 21, 34, 35, 37, 38, 47, 48, 54, 55, 61, 62, 75, 76, 82, 83, 89, 90, 96, 97, 103, 104, 110, 111, 117, 118, 124, 125, 131, 132, 148, 149, 183, 184, 201, 202, 225, 226, 241, 242, 248, 249, 255, 256, 262, 263, 269, 270, 276, 277, 283, 284, 290, 291, 293, 294, 306, 312, 313, 333, 334, 340, 341, 347, 348, 354, 355, 361, 362, 368, 369, 396, 397, 399, 400, 408, 409, 415, 416, 422, 423, 429, 430, 436, 437, 443, 444, 450, 451, 457, 458, 464, 465, 471, 472, 473, 479, 480, 481, 487, 488, 494, 495, 499, 500, 501, 507, 508, 514, 515, 521, 522, 528, 529, 535, 536, 542, 543, 549, 550, 556, 557, 570, 571, 573, 574, 584, 585, 589, 590, 596, 597, 601, 602, 615, 616, 618, 619, 629, 630, 636, 637, 643, 644, 650, 651, 664, 665, 667, 668, 678, 679, 685, 686, 692, 693, 699, 700, 706, 707, 711, 712, 716, 717, 721, 722, 728, 729, 735, 736, 742, 743, 749, 750, 756, 757, 761, 762, 768, 769, 773, 774, 778, 779, 783, 784, 790, 791, 795, 796]
noncomputable def Xt (s : Shared) : Bool := recOk (RowW.records (OpenRow.toRowW PySem.Challenge.rw_pq0293_01.row)) s
noncomputable def obK (s : SharedT) (a : Addr) : Option Obj := if a < s.n then alive ((s.tree.get a).getD default) else none
noncomputable def looks (w : World) (s : Shared) := (staticsOk (importedModules pw.main.body) (boot_heap w.params) s.heap && namesBound pw s.heap && gensDone s && laidKept (boot_heap w.params) s.heap, openSeen qv looseN (importedModules pw.main.body) Xt true s)
noncomputable def obsT (w : World) (r : Flow × SharedT × Code × Pos) := (r.1, r.2.2.1, r.2.2.2, addrs.map (obK r.2.1), looks w r.2.1.abs)
noncomputable def thE : Thread := piecesOf bodyE envE cE p0 BB
theorem run (w : World) (os : OsState) : ∃ p', (segRunT treeTable pw w 11 (some (.ref 6)) 1 6000 (S1 w os) thE).map (obsT w) = some (.next, cE, p', (KK w.params).map (fun p => some p.2), true, openGood qv looseN) := by
  refine ⟨⟨563, 0, 595, 90⟩, ?_⟩
  rw [PySem.W.Fast.te10110043849684766642, PySem.W.Fast.te14364793385576792824]
  kernel_rfl
noncomputable abbrev RW : OpenLaw := PySem.Challenge.rw_pq0293_01
theorem obK_get (s : SharedT) (a : Addr) : s.abs.heap.get? a = obK s a := by
  show (absHeap s.tree s.n s.life).get? a = _
  unfold Heap.get? obK
  rw [absHeap_at]
  by_cases h : a < s.n
  · rw [if_pos h, if_pos h]
    generalize (s.tree.get a).getD default = o
    obtain ⟨c, d, dt, sl⟩ := o
    cases dt <;> rfl
  · rw [if_neg h, if_neg h]
theorem opened (w : World) : ∀ N, Nat.ble 600 N = true → (fencedOpening treeTable pw w N).map (fun s => (s.heap, s.gens, s.drawn, s.toks)) = some (boot_heap w.params, Array.mk [], boot_drawn, boot_toks) :=
  fun N hN => boot_open (p := pw) (by kernel_rfl) hN (fun s => by kernel_rfl) w
theorem sized (w : World) : ((boot_heap w.params).isNs mainGlobals && (#[] : Array GenState).size == 0, (boot_heap w.params).objs.size, (boot_heap w.params).nsMap mainGlobals "__annotations__") = (true, 11, some (.ref 6)) := by kernel_rfl
noncomputable def Yf (s : Shared) : List (Option Obj) := addrs.map s.heap.get?
noncomputable def Ya (w : World) : List (Option Obj) := (KK w.params).map fun p => some p.2
theorem topGoes (w : World) (os : OsState) : ∃ s₁ : Shared, topRun treeTable pw w 11 (some (.ref 6)) (12 + (1 + (6000 + 3))) (S0 w os) (topStub pw) = some s₁ ∧ looks w s₁ = (true, openGood qv looseN) ∧ Yf s₁ = Ya w := by
  obtain ⟨p', e⟩ := run w os
  obtain ⟨⟨f, sT, c, p⟩, h1, h2⟩ := Option.map_eq_some_iff.mp e
  unfold obsT at h2
  simp only [Prod.mk.injEq] at h2
  obtain ⟨hf, hc, hp, hK, hl⟩ := h2
  subst hf hc
  refine ⟨sT.abs, go_top (pre w os) ?_, hl, ?_⟩
  · refine piece_block (segRun_of (block w os)) ?_
    have k : topRun treeTable pw w 11 (some (.ref 6)) 3 sT.abs (restOf [] envE cE p [topFrame p0]) = some sT.abs := by
      generalize sT.abs = z
      rfl
    have := piece_app (rest := []) (segRun_of h1) k
    rw [List.append_nil] at this
    exact this
  · unfold Yf Ya
    rw [← hK]
    exact List.map_congr_left fun a _ => obK_get sT a
theorem left_of {p q : Program} {loose : List Str} {Xt : Shared → Bool} {α : Type} {Yf : Shared → α} {Ya : World → α} {N : Nat} {g0 : Bool} {H₀ : Params → Heap} {gs₀ : Array GenState} {d₀ : Drawn} {k₀ m₀ : Nat} {ann : Option Value} {M : Nat}
    (ho : ∀ w : World, (fencedOpening treeTable p w N).map (fun s => (s.heap, s.gens, s.drawn, s.toks)) = some (H₀ w.params, gs₀, d₀, k₀))
    (hz : ∀ w : World, ((H₀ w.params).isNs mainGlobals && gs₀.size == 0, (H₀ w.params).objs.size, (H₀ w.params).nsMap mainGlobals "__annotations__") = (true, m₀, ann)) (le : Nat.ble M N = true)
    (hr : ∀ (w : World) (os : OsState), ∃ s₁, topRun treeTable p w m₀ ann M ⟨H₀ w.params, gs₀, d₀, k₀, os⟩ (topStub p) = some s₁ ∧
      ((staticsOk (importedModules p.main.body) (H₀ w.params) s₁.heap && namesBound p s₁.heap && gensDone s₁ && laidKept (H₀ w.params) s₁.heap, openSeen q loose (importedModules p.main.body) Xt g0 s₁) = (true, openGood q loose)) ∧ Yf s₁ = Ya w) :
    LeftO p q loose Xt Yf Ya N g0 := fun w => by
  obtain ⟨⟨h, gs, d, k, os⟩, e, e'⟩ := Option.map_eq_some_iff.mp (ho w)
  simp only [Prod.mk.injEq] at e'
  obtain ⟨rfl, rfl, rfl, rfl⟩ := e'
  have z := hz w
  simp only [Prod.mk.injEq] at z
  obtain ⟨z1, z2, z3⟩ := z
  obtain ⟨s₁, a, b, c⟩ := hr w os
  simp only [Prod.mk.injEq] at b
  have a' := topRun_mono (N - M) _ _ _ _ a
  rw [show M + (N - M) = N by have := Nat.le_of_ble_eq_true le; omega] at a'
  have t : topFrom treeTable p w N ⟨H₀ w.params, gs, d, k, os⟩ = some s₁ := by
    unfold topFrom
    simp only [z1, z2, z3, a', Option.bind_some, b.1]
  unfold openEnds
  simp only [e, Option.bind_some, t, Option.map_some, b.2, c]
theorem left : LeftO pw qv looseN Xt Yf Ya 7000 true :=
  left_of (fun w => opened w 7000 (by decide)) sized (by decide : Nat.ble (12 + (1 + (6000 + 3))) 7000 = true) fun w os => topGoes w os
theorem noRoad_app (lk : Look) (a b : List Stmt) : noRoadLSs lk (a ++ b) = (noRoadLSs lk a && noRoadLSs lk b) := by
  induction a with
  | nil => rfl
  | cons s r ih => show (noRoadLS lk s && noRoadLSs lk (r ++ b)) = ((noRoadLS lk s && noRoadLSs lk r) && noRoadLSs lk b); rw [ih, Bool.and_assoc]
theorem noRoad_cut {lk : Look} {l : List Stmt} (k : Nat) (h1 : noRoadLSs lk (l.take k) = true) (h2 : noRoadLSs lk (l.drop k) = true) : noRoadLSs lk l = true := by
  rw [← List.take_append_drop k l, noRoad_app, h1, h2]; rfl
theorem ws_s : (!(importedModules pw.main.body).all cThrough.contains) = false := by kernel_rfl
theorem ws_v : readsOut pw pw.main.body "vars" = false := by kernel_rfl
theorem ws_d : readsOut pw pw.main.body "dir" = false := by kernel_rfl
theorem ws_l : readsOut pw pw.main.body "locals" = false := by kernel_rfl
theorem ws_b : (["vars", "dir", "locals"] : List Str).filter (readsOut pw pw.main.body) = [] := by
  rw [List.filter_cons, ws_v, List.filter_cons, ws_d, List.filter_cons, ws_l]; rfl
theorem ws_r1 : noRoadLSs { strict := false, foot := none, bare := [] } (pw.main.body.take 24) = true := by kernel_rfl
theorem ws_r2 : noRoadLSs { strict := false, foot := none, bare := [] } ((pw.main.body.drop 24).take 30) = true := by kernel_rfl
theorem ws_r3 : noRoadLSs { strict := false, foot := none, bare := [] } ((pw.main.body.drop 24).drop 30) = true := by kernel_rfl
theorem ws_r : noRoadLSs { strict := !(importedModules pw.main.body).all cThrough.contains, foot := none, bare := (["vars", "dir", "locals"] : List Str).filter (readsOut pw pw.main.body) } pw.main.body = true := by
  rw [ws_s, ws_b]; exact noRoad_cut 24 ws_r1 (noRoad_cut 30 ws_r2 ws_r3)
theorem ws_a2 : ((moduleNames pw.main.body).isEmpty || lookedIntoSs (moduleNames pw.main.body) pw.main.body) = true := by kernel_rfl
theorem ws_a3 : namesResolve pw = true := by kernel_rfl
theorem ws_a4 : pw.boundNames.all (fun n => !worldNames.contains n) = true := by kernel_rfl
theorem ws_a6 : (namesMeet pw pw.main.body fun _ n => attrL n) = true := by kernel_rfl
theorem ws_look : looksOpen pw = true := by unfold looksOpen; exact look_both (look_both (look_both (look_both (look_both (by kernel_rfl) ws_a2) ws_a3) ws_a4) ws_r) ws_a6
theorem ws_b2 : noClassBlock RW.prog RW.footing = true := by kernel_rfl
theorem ws_b3 : noRoadLSs { strict := true, foot := some RW.bound', writes := RW.writes, may := RW.may } RW.footing = true := by kernel_rfl
theorem ws_b4 : defStands RW.about RW.above = true := by kernel_rfl
theorem ws_b5 : RW.namesIt = true := by kernel_rfl
theorem ws_b6 : RW.bound'.all (fun n => !builtinNamed n || RW.about == [n] || !RW.reads n) = true := by kernel_rfl
theorem ws_b7 : (RW.prog.main.body.flatMap importedNames).all (fun n => !RW.reads n || (drawsOf n RW.prog.main.body).all fun mn => mn.2 != ("attrgetter" : Str) && mn.2 != ("methodcaller" : Str)) = true := by kernel_rfl
theorem ws_b8 : namesMeet RW.prog RW.footing (fun sc n => (!(["type", "isinstance", "issubclass", "getattr", "hasattr"] : List Str).contains n || sc.names.lookup n == some .globalImplicit) &&
    (RW.may != some n || sc.kind == .module || sc.names.lookup n == some .globalImplicit)) = true := by kernel_rfl
theorem ws_b10 : namesMeet RW.prog RW.above (fun _ n => !RW.own.contains n) = true := by kernel_rfl
theorem ws_b11 : (namesMeet RW.prog RW.footing fun sc n => sc.kind == .module || sc.names.lookup n != some .globalExplicit) = true := by kernel_rfl
theorem ws_part : RW.row.partSaid = true := by unfold OpenRow.partSaid; exact look_both (look_both (look_both (look_both (look_both (look_both (look_both (look_both (look_both (look_both (look_both (look_both (look_both ws_look (by kernel_rfl)) (by kernel_rfl)) (by kernel_rfl)) (by kernel_rfl)) (by kernel_rfl)) (by kernel_rfl)) (by kernel_rfl)) (by kernel_rfl)) (by kernel_rfl)) (by kernel_rfl)) (by kernel_rfl)) (by kernel_rfl)) (by kernel_rfl)
theorem ws_row : RW.row.wellSaid = true := by unfold OpenRow.wellSaid; exact look_both (look_both ws_part (by kernel_rfl)) (by kernel_rfl)
theorem ws : RW.wellSaid = true := by
  unfold OpenLaw.wellSaid
  exact look_both (look_both (look_both (look_both (look_both (look_both (look_both (look_both (look_both (look_both (look_both (look_both (look_both (look_both (look_both (look_both (look_both (look_both ws_row (by kernel_rfl)) (by kernel_rfl)) ws_b2) (by kernel_rfl)) (by kernel_rfl)) ws_b3) ws_b4) ws_b5) (by kernel_rfl)) ws_b6) (by kernel_rfl)) ws_b7) ws_b8) (by kernel_rfl)) (by kernel_rfl)) (by kernel_rfl)) ws_b10) ws_b11
noncomputable def dLaw : DefRec := match sAt 79 with
  | .FunctionDef n a b _ _ _ s _ _ p => ⟨n, a, b, s, p⟩
  | _ => ⟨"", fArgs (sAt 79), [], default, default⟩
theorem KeepsK (w : World) (h h' : Heap) (y : (KK w.params).In h) (k : ∀ b o, h.get? b = some o → h'.get? b = some o) : (KK w.params).In h' := fun a o e => k _ _ (y a o e)
theorem addrs_eq (P : Params) : addrs = (KK P).map (·.1) := by kernel_rfl
theorem wit : (OpenRow.toRowW RW.row).promised := by
  refine ⟨[.list [.int 3]], by decide +kernel, by decide +kernel⟩
noncomputable def Start (w : World) (s : Shared) : Prop := s.gens = #[] ∧ (KK w.params).In s.heap ∧ ∃ mean mg mb, Top qv (looseW qv looseN) mean mg mb s.heap
theorem head (H : ∀ (w : World) (s : Shared) (l : Addr) (vs : List Value) (ns : List Int), Start w s → s.heap.IsList l vs.toArray → IntsAre vs ns → ns.length ≤ 63 →
    wpAny (model pw w) callerA (call (.ref 796) [.ref l]) (fun v s' => v = .bool true ∧ (∀ b o, s.heap.get? b = some o → s'.heap.get? b = some o) ∧ s'.os = s.os ∧ s'.gens = #[]) (fun _ _ => False) s) :
    RW.Holds := by
  refine holds_law ws fun said => holds_open (q := qv) (loose := looseN) (Xt := Xt) (XP := fun _ _ => True) (Yf := Yf) (Ya := Ya) (YP := fun w h => (KK w.params).In h) (d := dLaw) (kwd := []) (N := 7000)
    left (fun w s e => InK.of (addrs_eq) w s e) KeepsK (fun _ _ => trivial) (fun _ _ _ h _ => h) (by kernel_rfl) (by kernel_rfl) (by kernel_rfl) (fun s e => recFacts_of e) (by rfl) said (by decide +kernel) ⟨rfl, rfl, rfl, rfl, rfl, by decide +kernel⟩ wit ?_
  intro w s₀ s₁ mg mb G Y a o pm cd doc dV kV ho hd hcd hD hmg hg args vals as hpre hlay hrd hwl hlo
  have T := G.T
  have ha : a = 796 := by
    have e := mg_of Y T.g (n := "law") (v := .ref 796) (by kernel_rfl)
    have hmg' : mg "law" = some (.ref a) := hmg
    rw [e] at hmg'
    cases hmg'; rfl
  subst ha
  wrow_args hpre hlay hrd hwl hlo
  rename_i ns _ _ _ _ _ _ _ l vs _ hL _ _ _ hI _ hc _
  refine wpAny_mono (H w s₁ l vs ns ⟨hg, Y, _, _, _, T⟩ hL hI (by omega)) (fun v s' hv => GoodW.toG ?_) fun _ _ f => f.elim
  obtain ⟨rfl, hk, ho', hg'⟩ := hv
  exact ⟨.inl ⟨_, .bool true, [], rfl, fun _ => rfl, .bool true, by kernel_rfl, fun _ => ⟨.nil, fun _ h => nomatch h⟩⟩, hk, ho', hg'⟩
theorem el0_2 {A0 A1 A2 : Prop} {G : Prop} (h : A0 ∧ A1 ∧ A2) (k : A0 → A1 → A2 → G) : G := h.elim fun h0 h => h.elim fun h1 h => k h0 h1 h
theorem el0_3 {A0 A1 A2 A3 : Prop} {G : Prop} (h : A0 ∧ A1 ∧ A2 ∧ A3) (k : A0 → A1 → A2 → A3 → G) : G := h.elim fun h0 h => h.elim fun h1 h => h.elim fun h2 h => k h0 h1 h2 h
theorem el1_1 {α0 : Type} {A0 A1 : α0 → Prop} {G : Prop} (h : ∃ x0, A0 x0 ∧ A1 x0) (k : ∀ x0, A0 x0 → A1 x0 → G) : G := h.elim fun x0 h => h.elim fun h0 h => k x0 h0 h
theorem el1_2 {α0 : Type} {A0 A1 A2 : α0 → Prop} {G : Prop} (h : ∃ x0, A0 x0 ∧ A1 x0 ∧ A2 x0) (k : ∀ x0, A0 x0 → A1 x0 → A2 x0 → G) : G := h.elim fun x0 h => h.elim fun h0 h => h.elim fun h1 h => k x0 h0 h1 h
theorem el1_3 {α0 : Type} {A0 A1 A2 A3 : α0 → Prop} {G : Prop} (h : ∃ x0, A0 x0 ∧ A1 x0 ∧ A2 x0 ∧ A3 x0) (k : ∀ x0, A0 x0 → A1 x0 → A2 x0 → A3 x0 → G) : G := h.elim fun x0 h => h.elim fun h0 h => h.elim fun h1 h => h.elim fun h2 h => k x0 h0 h1 h2 h
theorem el1_4 {α0 : Type} {A0 A1 A2 A3 A4 : α0 → Prop} {G : Prop} (h : ∃ x0, A0 x0 ∧ A1 x0 ∧ A2 x0 ∧ A3 x0 ∧ A4 x0) (k : ∀ x0, A0 x0 → A1 x0 → A2 x0 → A3 x0 → A4 x0 → G) : G := h.elim fun x0 h => h.elim fun h0 h => h.elim fun h1 h => h.elim fun h2 h => h.elim fun h3 h => k x0 h0 h1 h2 h3 h
theorem el1_5 {α0 : Type} {A0 A1 A2 A3 A4 A5 : α0 → Prop} {G : Prop} (h : ∃ x0, A0 x0 ∧ A1 x0 ∧ A2 x0 ∧ A3 x0 ∧ A4 x0 ∧ A5 x0) (k : ∀ x0, A0 x0 → A1 x0 → A2 x0 → A3 x0 → A4 x0 → A5 x0 → G) : G := h.elim fun x0 h => h.elim fun h0 h => h.elim fun h1 h => h.elim fun h2 h => h.elim fun h3 h => h.elim fun h4 h => k x0 h0 h1 h2 h3 h4 h
theorem el1_6 {α0 : Type} {A0 A1 A2 A3 A4 A5 A6 : α0 → Prop} {G : Prop} (h : ∃ x0, A0 x0 ∧ A1 x0 ∧ A2 x0 ∧ A3 x0 ∧ A4 x0 ∧ A5 x0 ∧ A6 x0) (k : ∀ x0, A0 x0 → A1 x0 → A2 x0 → A3 x0 → A4 x0 → A5 x0 → A6 x0 → G) : G := h.elim fun x0 h => h.elim fun h0 h => h.elim fun h1 h => h.elim fun h2 h => h.elim fun h3 h => h.elim fun h4 h => h.elim fun h5 h => k x0 h0 h1 h2 h3 h4 h5 h
theorem el1_7 {α0 : Type} {A0 A1 A2 A3 A4 A5 A6 A7 : α0 → Prop} {G : Prop} (h : ∃ x0, A0 x0 ∧ A1 x0 ∧ A2 x0 ∧ A3 x0 ∧ A4 x0 ∧ A5 x0 ∧ A6 x0 ∧ A7 x0) (k : ∀ x0, A0 x0 → A1 x0 → A2 x0 → A3 x0 → A4 x0 → A5 x0 → A6 x0 → A7 x0 → G) : G := h.elim fun x0 h => h.elim fun h0 h => h.elim fun h1 h => h.elim fun h2 h => h.elim fun h3 h => h.elim fun h4 h => h.elim fun h5 h => h.elim fun h6 h => k x0 h0 h1 h2 h3 h4 h5 h6 h
theorem el2_0 {α0 α1 : Type} {A0 : α0 → α1 → Prop} {G : Prop} (h : ∃ x0 x1, A0 x0 x1) (k : ∀ x0 x1, A0 x0 x1 → G) : G := h.elim fun x0 h => h.elim fun x1 h => k x0 x1 h
theorem el2_1 {α0 α1 : Type} {A0 A1 : α0 → α1 → Prop} {G : Prop} (h : ∃ x0 x1, A0 x0 x1 ∧ A1 x0 x1) (k : ∀ x0 x1, A0 x0 x1 → A1 x0 x1 → G) : G := h.elim fun x0 h => h.elim fun x1 h => h.elim fun h0 h => k x0 x1 h0 h
theorem el2_2 {α0 α1 : Type} {A0 A1 A2 : α0 → α1 → Prop} {G : Prop} (h : ∃ x0 x1, A0 x0 x1 ∧ A1 x0 x1 ∧ A2 x0 x1) (k : ∀ x0 x1, A0 x0 x1 → A1 x0 x1 → A2 x0 x1 → G) : G := h.elim fun x0 h => h.elim fun x1 h => h.elim fun h0 h => h.elim fun h1 h => k x0 x1 h0 h1 h
theorem el2_3 {α0 α1 : Type} {A0 A1 A2 A3 : α0 → α1 → Prop} {G : Prop} (h : ∃ x0 x1, A0 x0 x1 ∧ A1 x0 x1 ∧ A2 x0 x1 ∧ A3 x0 x1) (k : ∀ x0 x1, A0 x0 x1 → A1 x0 x1 → A2 x0 x1 → A3 x0 x1 → G) : G := h.elim fun x0 h => h.elim fun x1 h => h.elim fun h0 h => h.elim fun h1 h => h.elim fun h2 h => k x0 x1 h0 h1 h2 h
theorem el2_4 {α0 α1 : Type} {A0 A1 A2 A3 A4 : α0 → α1 → Prop} {G : Prop} (h : ∃ x0 x1, A0 x0 x1 ∧ A1 x0 x1 ∧ A2 x0 x1 ∧ A3 x0 x1 ∧ A4 x0 x1) (k : ∀ x0 x1, A0 x0 x1 → A1 x0 x1 → A2 x0 x1 → A3 x0 x1 → A4 x0 x1 → G) : G := h.elim fun x0 h => h.elim fun x1 h => h.elim fun h0 h => h.elim fun h1 h => h.elim fun h2 h => h.elim fun h3 h => k x0 x1 h0 h1 h2 h3 h
theorem el2_5 {α0 α1 : Type} {A0 A1 A2 A3 A4 A5 : α0 → α1 → Prop} {G : Prop} (h : ∃ x0 x1, A0 x0 x1 ∧ A1 x0 x1 ∧ A2 x0 x1 ∧ A3 x0 x1 ∧ A4 x0 x1 ∧ A5 x0 x1) (k : ∀ x0 x1, A0 x0 x1 → A1 x0 x1 → A2 x0 x1 → A3 x0 x1 → A4 x0 x1 → A5 x0 x1 → G) : G := h.elim fun x0 h => h.elim fun x1 h => h.elim fun h0 h => h.elim fun h1 h => h.elim fun h2 h => h.elim fun h3 h => h.elim fun h4 h => k x0 x1 h0 h1 h2 h3 h4 h
theorem el2_7 {α0 α1 : Type} {A0 A1 A2 A3 A4 A5 A6 A7 : α0 → α1 → Prop} {G : Prop} (h : ∃ x0 x1, A0 x0 x1 ∧ A1 x0 x1 ∧ A2 x0 x1 ∧ A3 x0 x1 ∧ A4 x0 x1 ∧ A5 x0 x1 ∧ A6 x0 x1 ∧ A7 x0 x1) (k : ∀ x0 x1, A0 x0 x1 → A1 x0 x1 → A2 x0 x1 → A3 x0 x1 → A4 x0 x1 → A5 x0 x1 → A6 x0 x1 → A7 x0 x1 → G) : G := h.elim fun x0 h => h.elim fun x1 h => h.elim fun h0 h => h.elim fun h1 h => h.elim fun h2 h => h.elim fun h3 h => h.elim fun h4 h => h.elim fun h5 h => h.elim fun h6 h => k x0 x1 h0 h1 h2 h3 h4 h5 h6 h
theorem el3_0 {α0 α1 α2 : Type} {A0 : α0 → α1 → α2 → Prop} {G : Prop} (h : ∃ x0 x1 x2, A0 x0 x1 x2) (k : ∀ x0 x1 x2, A0 x0 x1 x2 → G) : G := h.elim fun x0 h => h.elim fun x1 h => h.elim fun x2 h => k x0 x1 x2 h
theorem el3_1 {α0 α1 α2 : Type} {A0 A1 : α0 → α1 → α2 → Prop} {G : Prop} (h : ∃ x0 x1 x2, A0 x0 x1 x2 ∧ A1 x0 x1 x2) (k : ∀ x0 x1 x2, A0 x0 x1 x2 → A1 x0 x1 x2 → G) : G := h.elim fun x0 h => h.elim fun x1 h => h.elim fun x2 h => h.elim fun h0 h => k x0 x1 x2 h0 h
theorem el3_2 {α0 α1 α2 : Type} {A0 A1 A2 : α0 → α1 → α2 → Prop} {G : Prop} (h : ∃ x0 x1 x2, A0 x0 x1 x2 ∧ A1 x0 x1 x2 ∧ A2 x0 x1 x2) (k : ∀ x0 x1 x2, A0 x0 x1 x2 → A1 x0 x1 x2 → A2 x0 x1 x2 → G) : G := h.elim fun x0 h => h.elim fun x1 h => h.elim fun x2 h => h.elim fun h0 h => h.elim fun h1 h => k x0 x1 x2 h0 h1 h
theorem el3_3 {α0 α1 α2 : Type} {A0 A1 A2 A3 : α0 → α1 → α2 → Prop} {G : Prop} (h : ∃ x0 x1 x2, A0 x0 x1 x2 ∧ A1 x0 x1 x2 ∧ A2 x0 x1 x2 ∧ A3 x0 x1 x2) (k : ∀ x0 x1 x2, A0 x0 x1 x2 → A1 x0 x1 x2 → A2 x0 x1 x2 → A3 x0 x1 x2 → G) : G := h.elim fun x0 h => h.elim fun x1 h => h.elim fun x2 h => h.elim fun h0 h => h.elim fun h1 h => h.elim fun h2 h => k x0 x1 x2 h0 h1 h2 h
theorem el3_4 {α0 α1 α2 : Type} {A0 A1 A2 A3 A4 : α0 → α1 → α2 → Prop} {G : Prop} (h : ∃ x0 x1 x2, A0 x0 x1 x2 ∧ A1 x0 x1 x2 ∧ A2 x0 x1 x2 ∧ A3 x0 x1 x2 ∧ A4 x0 x1 x2) (k : ∀ x0 x1 x2, A0 x0 x1 x2 → A1 x0 x1 x2 → A2 x0 x1 x2 → A3 x0 x1 x2 → A4 x0 x1 x2 → G) : G := h.elim fun x0 h => h.elim fun x1 h => h.elim fun x2 h => h.elim fun h0 h => h.elim fun h1 h => h.elim fun h2 h => h.elim fun h3 h => k x0 x1 x2 h0 h1 h2 h3 h
theorem el3_6 {α0 α1 α2 : Type} {A0 A1 A2 A3 A4 A5 A6 : α0 → α1 → α2 → Prop} {G : Prop} (h : ∃ x0 x1 x2, A0 x0 x1 x2 ∧ A1 x0 x1 x2 ∧ A2 x0 x1 x2 ∧ A3 x0 x1 x2 ∧ A4 x0 x1 x2 ∧ A5 x0 x1 x2 ∧ A6 x0 x1 x2) (k : ∀ x0 x1 x2, A0 x0 x1 x2 → A1 x0 x1 x2 → A2 x0 x1 x2 → A3 x0 x1 x2 → A4 x0 x1 x2 → A5 x0 x1 x2 → A6 x0 x1 x2 → G) : G := h.elim fun x0 h => h.elim fun x1 h => h.elim fun x2 h => h.elim fun h0 h => h.elim fun h1 h => h.elim fun h2 h => h.elim fun h3 h => h.elim fun h4 h => h.elim fun h5 h => k x0 x1 x2 h0 h1 h2 h3 h4 h5 h
theorem el4_1 {α0 α1 α2 α3 : Type} {A0 A1 : α0 → α1 → α2 → α3 → Prop} {G : Prop} (h : ∃ x0 x1 x2 x3, A0 x0 x1 x2 x3 ∧ A1 x0 x1 x2 x3) (k : ∀ x0 x1 x2 x3, A0 x0 x1 x2 x3 → A1 x0 x1 x2 x3 → G) : G := h.elim fun x0 h => h.elim fun x1 h => h.elim fun x2 h => h.elim fun x3 h => h.elim fun h0 h => k x0 x1 x2 x3 h0 h
theorem el4_2 {α0 α1 α2 α3 : Type} {A0 A1 A2 : α0 → α1 → α2 → α3 → Prop} {G : Prop} (h : ∃ x0 x1 x2 x3, A0 x0 x1 x2 x3 ∧ A1 x0 x1 x2 x3 ∧ A2 x0 x1 x2 x3) (k : ∀ x0 x1 x2 x3, A0 x0 x1 x2 x3 → A1 x0 x1 x2 x3 → A2 x0 x1 x2 x3 → G) : G := h.elim fun x0 h => h.elim fun x1 h => h.elim fun x2 h => h.elim fun x3 h => h.elim fun h0 h => h.elim fun h1 h => k x0 x1 x2 x3 h0 h1 h
theorem el4_5 {α0 α1 α2 α3 : Type} {A0 A1 A2 A3 A4 A5 : α0 → α1 → α2 → α3 → Prop} {G : Prop} (h : ∃ x0 x1 x2 x3, A0 x0 x1 x2 x3 ∧ A1 x0 x1 x2 x3 ∧ A2 x0 x1 x2 x3 ∧ A3 x0 x1 x2 x3 ∧ A4 x0 x1 x2 x3 ∧ A5 x0 x1 x2 x3) (k : ∀ x0 x1 x2 x3, A0 x0 x1 x2 x3 → A1 x0 x1 x2 x3 → A2 x0 x1 x2 x3 → A3 x0 x1 x2 x3 → A4 x0 x1 x2 x3 → A5 x0 x1 x2 x3 → G) : G := h.elim fun x0 h => h.elim fun x1 h => h.elim fun x2 h => h.elim fun x3 h => h.elim fun h0 h => h.elim fun h1 h => h.elim fun h2 h => h.elim fun h3 h => h.elim fun h4 h => k x0 x1 x2 x3 h0 h1 h2 h3 h4 h
theorem el4_6 {α0 α1 α2 α3 : Type} {A0 A1 A2 A3 A4 A5 A6 : α0 → α1 → α2 → α3 → Prop} {G : Prop} (h : ∃ x0 x1 x2 x3, A0 x0 x1 x2 x3 ∧ A1 x0 x1 x2 x3 ∧ A2 x0 x1 x2 x3 ∧ A3 x0 x1 x2 x3 ∧ A4 x0 x1 x2 x3 ∧ A5 x0 x1 x2 x3 ∧ A6 x0 x1 x2 x3) (k : ∀ x0 x1 x2 x3, A0 x0 x1 x2 x3 → A1 x0 x1 x2 x3 → A2 x0 x1 x2 x3 → A3 x0 x1 x2 x3 → A4 x0 x1 x2 x3 → A5 x0 x1 x2 x3 → A6 x0 x1 x2 x3 → G) : G := h.elim fun x0 h => h.elim fun x1 h => h.elim fun x2 h => h.elim fun x3 h => h.elim fun h0 h => h.elim fun h1 h => h.elim fun h2 h => h.elim fun h3 h => h.elim fun h4 h => h.elim fun h5 h => k x0 x1 x2 x3 h0 h1 h2 h3 h4 h5 h
theorem el4_8 {α0 α1 α2 α3 : Type} {A0 A1 A2 A3 A4 A5 A6 A7 A8 : α0 → α1 → α2 → α3 → Prop} {G : Prop} (h : ∃ x0 x1 x2 x3, A0 x0 x1 x2 x3 ∧ A1 x0 x1 x2 x3 ∧ A2 x0 x1 x2 x3 ∧ A3 x0 x1 x2 x3 ∧ A4 x0 x1 x2 x3 ∧ A5 x0 x1 x2 x3 ∧ A6 x0 x1 x2 x3 ∧ A7 x0 x1 x2 x3 ∧ A8 x0 x1 x2 x3) (k : ∀ x0 x1 x2 x3, A0 x0 x1 x2 x3 → A1 x0 x1 x2 x3 → A2 x0 x1 x2 x3 → A3 x0 x1 x2 x3 → A4 x0 x1 x2 x3 → A5 x0 x1 x2 x3 → A6 x0 x1 x2 x3 → A7 x0 x1 x2 x3 → A8 x0 x1 x2 x3 → G) : G := h.elim fun x0 h => h.elim fun x1 h => h.elim fun x2 h => h.elim fun x3 h => h.elim fun h0 h => h.elim fun h1 h => h.elim fun h2 h => h.elim fun h3 h => h.elim fun h4 h => h.elim fun h5 h => h.elim fun h6 h => h.elim fun h7 h => k x0 x1 x2 x3 h0 h1 h2 h3 h4 h5 h6 h7 h
theorem el4_9 {α0 α1 α2 α3 : Type} {A0 A1 A2 A3 A4 A5 A6 A7 A8 A9 : α0 → α1 → α2 → α3 → Prop} {G : Prop} (h : ∃ x0 x1 x2 x3, A0 x0 x1 x2 x3 ∧ A1 x0 x1 x2 x3 ∧ A2 x0 x1 x2 x3 ∧ A3 x0 x1 x2 x3 ∧ A4 x0 x1 x2 x3 ∧ A5 x0 x1 x2 x3 ∧ A6 x0 x1 x2 x3 ∧ A7 x0 x1 x2 x3 ∧ A8 x0 x1 x2 x3 ∧ A9 x0 x1 x2 x3) (k : ∀ x0 x1 x2 x3, A0 x0 x1 x2 x3 → A1 x0 x1 x2 x3 → A2 x0 x1 x2 x3 → A3 x0 x1 x2 x3 → A4 x0 x1 x2 x3 → A5 x0 x1 x2 x3 → A6 x0 x1 x2 x3 → A7 x0 x1 x2 x3 → A8 x0 x1 x2 x3 → A9 x0 x1 x2 x3 → G) : G := h.elim fun x0 h => h.elim fun x1 h => h.elim fun x2 h => h.elim fun x3 h => h.elim fun h0 h => h.elim fun h1 h => h.elim fun h2 h => h.elim fun h3 h => h.elim fun h4 h => h.elim fun h5 h => h.elim fun h6 h => h.elim fun h7 h => h.elim fun h8 h => k x0 x1 x2 x3 h0 h1 h2 h3 h4 h5 h6 h7 h8 h
theorem el5_1 {α0 α1 α2 α3 α4 : Type} {A0 A1 : α0 → α1 → α2 → α3 → α4 → Prop} {G : Prop} (h : ∃ x0 x1 x2 x3 x4, A0 x0 x1 x2 x3 x4 ∧ A1 x0 x1 x2 x3 x4) (k : ∀ x0 x1 x2 x3 x4, A0 x0 x1 x2 x3 x4 → A1 x0 x1 x2 x3 x4 → G) : G := h.elim fun x0 h => h.elim fun x1 h => h.elim fun x2 h => h.elim fun x3 h => h.elim fun x4 h => h.elim fun h0 h => k x0 x1 x2 x3 x4 h0 h
theorem el5_7 {α0 α1 α2 α3 α4 : Type} {A0 A1 A2 A3 A4 A5 A6 A7 : α0 → α1 → α2 → α3 → α4 → Prop} {G : Prop} (h : ∃ x0 x1 x2 x3 x4, A0 x0 x1 x2 x3 x4 ∧ A1 x0 x1 x2 x3 x4 ∧ A2 x0 x1 x2 x3 x4 ∧ A3 x0 x1 x2 x3 x4 ∧ A4 x0 x1 x2 x3 x4 ∧ A5 x0 x1 x2 x3 x4 ∧ A6 x0 x1 x2 x3 x4 ∧ A7 x0 x1 x2 x3 x4) (k : ∀ x0 x1 x2 x3 x4, A0 x0 x1 x2 x3 x4 → A1 x0 x1 x2 x3 x4 → A2 x0 x1 x2 x3 x4 → A3 x0 x1 x2 x3 x4 → A4 x0 x1 x2 x3 x4 → A5 x0 x1 x2 x3 x4 → A6 x0 x1 x2 x3 x4 → A7 x0 x1 x2 x3 x4 → G) : G := h.elim fun x0 h => h.elim fun x1 h => h.elim fun x2 h => h.elim fun x3 h => h.elim fun x4 h => h.elim fun h0 h => h.elim fun h1 h => h.elim fun h2 h => h.elim fun h3 h => h.elim fun h4 h => h.elim fun h5 h => h.elim fun h6 h => k x0 x1 x2 x3 x4 h0 h1 h2 h3 h4 h5 h6 h
theorem el5_9 {α0 α1 α2 α3 α4 : Type} {A0 A1 A2 A3 A4 A5 A6 A7 A8 A9 : α0 → α1 → α2 → α3 → α4 → Prop} {G : Prop} (h : ∃ x0 x1 x2 x3 x4, A0 x0 x1 x2 x3 x4 ∧ A1 x0 x1 x2 x3 x4 ∧ A2 x0 x1 x2 x3 x4 ∧ A3 x0 x1 x2 x3 x4 ∧ A4 x0 x1 x2 x3 x4 ∧ A5 x0 x1 x2 x3 x4 ∧ A6 x0 x1 x2 x3 x4 ∧ A7 x0 x1 x2 x3 x4 ∧ A8 x0 x1 x2 x3 x4 ∧ A9 x0 x1 x2 x3 x4) (k : ∀ x0 x1 x2 x3 x4, A0 x0 x1 x2 x3 x4 → A1 x0 x1 x2 x3 x4 → A2 x0 x1 x2 x3 x4 → A3 x0 x1 x2 x3 x4 → A4 x0 x1 x2 x3 x4 → A5 x0 x1 x2 x3 x4 → A6 x0 x1 x2 x3 x4 → A7 x0 x1 x2 x3 x4 → A8 x0 x1 x2 x3 x4 → A9 x0 x1 x2 x3 x4 → G) : G := h.elim fun x0 h => h.elim fun x1 h => h.elim fun x2 h => h.elim fun x3 h => h.elim fun x4 h => h.elim fun h0 h => h.elim fun h1 h => h.elim fun h2 h => h.elim fun h3 h => h.elim fun h4 h => h.elim fun h5 h => h.elim fun h6 h => h.elim fun h7 h => h.elim fun h8 h => k x0 x1 x2 x3 x4 h0 h1 h2 h3 h4 h5 h6 h7 h8 h
theorem el6_0 {α0 α1 α2 α3 α4 α5 : Type} {A0 : α0 → α1 → α2 → α3 → α4 → α5 → Prop} {G : Prop} (h : ∃ x0 x1 x2 x3 x4 x5, A0 x0 x1 x2 x3 x4 x5) (k : ∀ x0 x1 x2 x3 x4 x5, A0 x0 x1 x2 x3 x4 x5 → G) : G := h.elim fun x0 h => h.elim fun x1 h => h.elim fun x2 h => h.elim fun x3 h => h.elim fun x4 h => h.elim fun x5 h => k x0 x1 x2 x3 x4 x5 h
theorem el6_1 {α0 α1 α2 α3 α4 α5 : Type} {A0 A1 : α0 → α1 → α2 → α3 → α4 → α5 → Prop} {G : Prop} (h : ∃ x0 x1 x2 x3 x4 x5, A0 x0 x1 x2 x3 x4 x5 ∧ A1 x0 x1 x2 x3 x4 x5) (k : ∀ x0 x1 x2 x3 x4 x5, A0 x0 x1 x2 x3 x4 x5 → A1 x0 x1 x2 x3 x4 x5 → G) : G := h.elim fun x0 h => h.elim fun x1 h => h.elim fun x2 h => h.elim fun x3 h => h.elim fun x4 h => h.elim fun x5 h => h.elim fun h0 h => k x0 x1 x2 x3 x4 x5 h0 h
theorem el6_5 {α0 α1 α2 α3 α4 α5 : Type} {A0 A1 A2 A3 A4 A5 : α0 → α1 → α2 → α3 → α4 → α5 → Prop} {G : Prop} (h : ∃ x0 x1 x2 x3 x4 x5, A0 x0 x1 x2 x3 x4 x5 ∧ A1 x0 x1 x2 x3 x4 x5 ∧ A2 x0 x1 x2 x3 x4 x5 ∧ A3 x0 x1 x2 x3 x4 x5 ∧ A4 x0 x1 x2 x3 x4 x5 ∧ A5 x0 x1 x2 x3 x4 x5) (k : ∀ x0 x1 x2 x3 x4 x5, A0 x0 x1 x2 x3 x4 x5 → A1 x0 x1 x2 x3 x4 x5 → A2 x0 x1 x2 x3 x4 x5 → A3 x0 x1 x2 x3 x4 x5 → A4 x0 x1 x2 x3 x4 x5 → A5 x0 x1 x2 x3 x4 x5 → G) : G := h.elim fun x0 h => h.elim fun x1 h => h.elim fun x2 h => h.elim fun x3 h => h.elim fun x4 h => h.elim fun x5 h => h.elim fun h0 h => h.elim fun h1 h => h.elim fun h2 h => h.elim fun h3 h => h.elim fun h4 h => k x0 x1 x2 x3 x4 x5 h0 h1 h2 h3 h4 h
theorem el6_7 {α0 α1 α2 α3 α4 α5 : Type} {A0 A1 A2 A3 A4 A5 A6 A7 : α0 → α1 → α2 → α3 → α4 → α5 → Prop} {G : Prop} (h : ∃ x0 x1 x2 x3 x4 x5, A0 x0 x1 x2 x3 x4 x5 ∧ A1 x0 x1 x2 x3 x4 x5 ∧ A2 x0 x1 x2 x3 x4 x5 ∧ A3 x0 x1 x2 x3 x4 x5 ∧ A4 x0 x1 x2 x3 x4 x5 ∧ A5 x0 x1 x2 x3 x4 x5 ∧ A6 x0 x1 x2 x3 x4 x5 ∧ A7 x0 x1 x2 x3 x4 x5) (k : ∀ x0 x1 x2 x3 x4 x5, A0 x0 x1 x2 x3 x4 x5 → A1 x0 x1 x2 x3 x4 x5 → A2 x0 x1 x2 x3 x4 x5 → A3 x0 x1 x2 x3 x4 x5 → A4 x0 x1 x2 x3 x4 x5 → A5 x0 x1 x2 x3 x4 x5 → A6 x0 x1 x2 x3 x4 x5 → A7 x0 x1 x2 x3 x4 x5 → G) : G := h.elim fun x0 h => h.elim fun x1 h => h.elim fun x2 h => h.elim fun x3 h => h.elim fun x4 h => h.elim fun x5 h => h.elim fun h0 h => h.elim fun h1 h => h.elim fun h2 h => h.elim fun h3 h => h.elim fun h4 h => h.elim fun h5 h => h.elim fun h6 h => k x0 x1 x2 x3 x4 x5 h0 h1 h2 h3 h4 h5 h6 h
theorem el8_9 {α0 α1 α2 α3 α4 α5 α6 α7 : Type} {A0 A1 A2 A3 A4 A5 A6 A7 A8 A9 : α0 → α1 → α2 → α3 → α4 → α5 → α6 → α7 → Prop} {G : Prop} (h : ∃ x0 x1 x2 x3 x4 x5 x6 x7, A0 x0 x1 x2 x3 x4 x5 x6 x7 ∧ A1 x0 x1 x2 x3 x4 x5 x6 x7 ∧ A2 x0 x1 x2 x3 x4 x5 x6 x7 ∧ A3 x0 x1 x2 x3 x4 x5 x6 x7 ∧ A4 x0 x1 x2 x3 x4 x5 x6 x7 ∧ A5 x0 x1 x2 x3 x4 x5 x6 x7 ∧ A6 x0 x1 x2 x3 x4 x5 x6 x7 ∧ A7 x0 x1 x2 x3 x4 x5 x6 x7 ∧ A8 x0 x1 x2 x3 x4 x5 x6 x7 ∧ A9 x0 x1 x2 x3 x4 x5 x6 x7) (k : ∀ x0 x1 x2 x3 x4 x5 x6 x7, A0 x0 x1 x2 x3 x4 x5 x6 x7 → A1 x0 x1 x2 x3 x4 x5 x6 x7 → A2 x0 x1 x2 x3 x4 x5 x6 x7 → A3 x0 x1 x2 x3 x4 x5 x6 x7 → A4 x0 x1 x2 x3 x4 x5 x6 x7 → A5 x0 x1 x2 x3 x4 x5 x6 x7 → A6 x0 x1 x2 x3 x4 x5 x6 x7 → A7 x0 x1 x2 x3 x4 x5 x6 x7 → A8 x0 x1 x2 x3 x4 x5 x6 x7 → A9 x0 x1 x2 x3 x4 x5 x6 x7 → G) : G := h.elim fun x0 h => h.elim fun x1 h => h.elim fun x2 h => h.elim fun x3 h => h.elim fun x4 h => h.elim fun x5 h => h.elim fun x6 h => h.elim fun x7 h => h.elim fun h0 h => h.elim fun h1 h => h.elim fun h2 h => h.elim fun h3 h => h.elim fun h4 h => h.elim fun h5 h => h.elim fun h6 h => h.elim fun h7 h => h.elim fun h8 h => k x0 x1 x2 x3 x4 x5 x6 x7 h0 h1 h2 h3 h4 h5 h6 h7 h8 h
theorem el12_8 {α0 α1 α2 α3 α4 α5 α6 α7 α8 α9 α10 α11 : Type} {A0 A1 A2 A3 A4 A5 A6 A7 A8 : α0 → α1 → α2 → α3 → α4 → α5 → α6 → α7 → α8 → α9 → α10 → α11 → Prop} {G : Prop} (h : ∃ x0 x1 x2 x3 x4 x5 x6 x7 x8 x9 x10 x11, A0 x0 x1 x2 x3 x4 x5 x6 x7 x8 x9 x10 x11 ∧ A1 x0 x1 x2 x3 x4 x5 x6 x7 x8 x9 x10 x11 ∧ A2 x0 x1 x2 x3 x4 x5 x6 x7 x8 x9 x10 x11 ∧ A3 x0 x1 x2 x3 x4 x5 x6 x7 x8 x9 x10 x11 ∧ A4 x0 x1 x2 x3 x4 x5 x6 x7 x8 x9 x10 x11 ∧ A5 x0 x1 x2 x3 x4 x5 x6 x7 x8 x9 x10 x11 ∧ A6 x0 x1 x2 x3 x4 x5 x6 x7 x8 x9 x10 x11 ∧ A7 x0 x1 x2 x3 x4 x5 x6 x7 x8 x9 x10 x11 ∧ A8 x0 x1 x2 x3 x4 x5 x6 x7 x8 x9 x10 x11) (k : ∀ x0 x1 x2 x3 x4 x5 x6 x7 x8 x9 x10 x11, A0 x0 x1 x2 x3 x4 x5 x6 x7 x8 x9 x10 x11 → A1 x0 x1 x2 x3 x4 x5 x6 x7 x8 x9 x10 x11 → A2 x0 x1 x2 x3 x4 x5 x6 x7 x8 x9 x10 x11 → A3 x0 x1 x2 x3 x4 x5 x6 x7 x8 x9 x10 x11 → A4 x0 x1 x2 x3 x4 x5 x6 x7 x8 x9 x10 x11 → A5 x0 x1 x2 x3 x4 x5 x6 x7 x8 x9 x10 x11 → A6 x0 x1 x2 x3 x4 x5 x6 x7 x8 x9 x10 x11 → A7 x0 x1 x2 x3 x4 x5 x6 x7 x8 x9 x10 x11 → A8 x0 x1 x2 x3 x4 x5 x6 x7 x8 x9 x10 x11 → G) : G := h.elim fun x0 h => h.elim fun x1 h => h.elim fun x2 h => h.elim fun x3 h => h.elim fun x4 h => h.elim fun x5 h => h.elim fun x6 h => h.elim fun x7 h => h.elim fun x8 h => h.elim fun x9 h => h.elim fun x10 h => h.elim fun x11 h => h.elim fun h0 h => h.elim fun h1 h => h.elim fun h2 h => h.elim fun h3 h => h.elim fun h4 h => h.elim fun h5 h => h.elim fun h6 h => h.elim fun h7 h => k x0 x1 x2 x3 x4 x5 x6 x7 x8 x9 x10 x11 h0 h1 h2 h3 h4 h5 h6 h7 h
theorem ss_len {a b n k z : Nat} (h : a ≤ b) (hz : n + k ≤ z) : min a n - 0 + k + (min n n - b) ≤ z := by
  rw [Nat.min_self, Nat.sub_zero, Nat.add_right_comm]
  refine Nat.le_trans (Nat.add_le_add_right ?_ k) hz
  rcases Nat.le_total a n with c | c
  · rw [Nat.min_eq_left c]; exact Nat.le_trans (Nat.add_le_add_left (Nat.sub_le_sub_left h n) a) (Nat.le_of_eq (Nat.add_sub_of_le c))
  · rw [Nat.min_eq_right c, Nat.sub_eq_zero_of_le (Nat.le_trans c h)]; exact Nat.le_refl _
theorem max_sh (x a h : Int) : max (x + h) (a + h) = max x a + h := by
  rcases Int.le_total x a with c | c
  · rw [Int.max_eq_right c, Int.max_eq_right (Int.add_le_add_right c h)]
  · rw [Int.max_eq_left c, Int.max_eq_left (Int.add_le_add_right c h)]
theorem min_sh (x a h : Int) : min (x + h) (a + h) = min x a + h := by
  rcases Int.le_total x a with c | c
  · rw [Int.min_eq_left c, Int.min_eq_left (Int.add_le_add_right c h)]
  · rw [Int.min_eq_right c, Int.min_eq_right (Int.add_le_add_right c h)]
theorem cl_sh (x a b h : Int) : min (max (x + h) (a + h)) (b + h) = min (max x a) b + h := by rw [max_sh, min_sh]
theorem min_max (x y : Int) : min x y ≤ max x y := Int.le_trans (Int.min_le_left x y) (Int.le_max_left x y)
theorem xs1 (a b : Int) : b - 1 - (a - 1) = b - a := Int.add_sub_add_right b (-1) a
theorem xs2 (s n : Int) : s + n - 1 = s - 1 + n := Int.add_right_comm s n (-1)
theorem xs3 (a b c : Int) : a - 1 + (b - (c - 1)) = b - (c - a) := by omega
theorem tnI {a : Int} (h : 1 ≤ a) : ((a - 1).toNat : Int) = a - 1 := Int.toNat_of_nonneg (Int.sub_nonneg_of_le h)
theorem tnM {a b : Int} (h : a ≤ b) : (a - 1).toNat ≤ (b - 1).toNat := Int.toNat_le_toNat (Int.sub_le_sub_right h 1)
theorem tnZ {a : Int} {n : Nat} (h : a ≤ (n : Int) + 1) : (a - 1).toNat ≤ n := Int.toNat_le.mpr (Int.sub_right_le_of_le_add h)
theorem tn_sh {s : Int} {n : Nat} (h : 1 ≤ s) : (s + n - 1).toNat = n + (s - 1).toNat := by
  rw [xs2, Int.toNat_add_nat (Int.sub_nonneg_of_le h), Nat.add_comm]
theorem td_len {xs : List Int} {s u : Int} (h1 : 1 ≤ s) (h2 : s ≤ u) (h3 : u ≤ xs.length + 1) : ((xs.take (s - 1).toNat ++ xs.drop (u - 1).toNat).length : Int) = xs.length - (u - s) := by
  rw [List.length_append, List.length_take_of_le (tnZ (Int.le_trans h2 h3)), List.length_drop, Int.natCast_add, Int.ofNat_sub (tnZ h3), tnI h1, tnI (Int.le_trans h1 h2)]
  exact xs3 _ _ _
theorem tc_len {xs cs : List Int} {k : Nat} : (xs.take k ++ cs ++ xs.drop k).length = xs.length + cs.length := by
  rw [List.length_append, List.length_append, Nat.add_right_comm, ← List.length_append, List.take_append_drop]
theorem td_le {xs : List Int} {k m : Nat} (h : k ≤ m) : (xs.take k ++ xs.drop m).length ≤ xs.length := by
  rw [List.length_append, List.length_drop]
  refine Nat.le_trans (Nat.add_le_add_left (Nat.sub_le_sub_left h _) _) ?_
  rw [← List.length_drop, ← List.length_append, List.take_append_drop]; exact Nat.le_refl _
theorem ite_sh {s x a b a' b' h : Int} (ea : a' = a + h) (eb : b' = b + h) : (if s + h < x + h then a' else b') = (if s < x then a else b) + h := by
  by_cases c : s < x
  · rw [if_pos c, if_pos (Int.add_lt_add_right c h), ea]
  · rw [if_neg c, if_neg (mt Int.lt_of_add_lt_add_right c), eb]
theorem ite_sh' {s x a b a' b' h : Int} (ea : a' = a + h) (eb : b' = b + h) : (if s + h ≤ x + h then a' else b') = (if s ≤ x then a else b) + h := by
  by_cases c : s ≤ x
  · rw [if_pos c, if_pos (Int.add_le_add_right c h), ea]
  · rw [if_neg c, if_neg (mt Int.le_of_add_le_add_right c), eb]
theorem ite_ge {P : Prop} [Decidable P] {a b c : Int} (h1 : P → c ≤ a) (h2 : ¬ P → c ≤ b) : c ≤ if P then a else b := by
  by_cases q : P
  · rw [if_pos q]; exact h1 q
  · rw [if_neg q]; exact h2 q
theorem ite_le {P : Prop} [Decidable P] {a b c : Int} (h1 : P → a ≤ c) (h2 : ¬ P → b ≤ c) : (if P then a else b) ≤ c := by
  by_cases q : P
  · rw [if_pos q]; exact h1 q
  · rw [if_neg q]; exact h2 q
theorem xs4 {a n k : Int} (h : a ≤ n + 1) : a + k ≤ n + k + 1 := Int.add_right_comm n 1 k ▸ Int.add_le_add_right h k
theorem xs5 {a n : Int} {k : Nat} (h : a ≤ n + 1) : a ≤ n + k + 1 := Int.le_trans (Int.le_add_of_nonneg_right (Int.natCast_nonneg k)) (xs4 h)
theorem xs6 (x h d : Int) : x + h - d = x - d + h := Int.add_right_comm x h (-d)
theorem xs7 {s u n : Int} (h : u ≤ n + 1) : s ≤ n - (u - s) + 1 := by lia
theorem xs8 (n h k : Int) : n + 1 + h + k = n + k + 1 + h := by rw [Int.add_right_comm (n + 1), Int.add_right_comm n]
theorem ge_add {a : Int} {k : Nat} (h : 1 ≤ a) : 1 ≤ a + k := Int.le_trans h (Int.le_add_of_nonneg_right (Int.natCast_nonneg k))
theorem add_inj_r {a b h : Int} : a + h = b + h ↔ a = b := Int.add_left_inj h
theorem tnK {s u : Int} {n : Nat} (h1 : 1 ≤ s) (h2 : s ≤ u) (h3 : u ≤ n + 1) : (s - 1).toNat + (u - s).toNat ≤ n := by
  refine Int.ofNat_le.mp ?_
  rw [Int.natCast_add, tnI h1, Int.toNat_of_nonneg (Int.sub_nonneg_of_le h2)]; lia
theorem dt_len {α : Type} {xs : List α} {i k : Nat} (h : i + k ≤ xs.length) : ((xs.drop i).take k).length = k := List.length_take_of_le (by rw [List.length_drop]; exact Nat.le_sub_of_add_le' h)
theorem nn1 {i j gs ge : Nat} (h : i ≤ gs) (h1 : gs ≤ ge) : j + (ge - gs) - ge = j - i - (gs - i) := by
  refine Exists.elim (Nat.exists_eq_add_of_le h1) fun d z91 => ?_; rcases z91 with rfl
  rw [Nat.add_sub_cancel_left, Nat.add_sub_add_right, Nat.sub_sub, Nat.add_sub_cancel' h]
theorem nn2 {i gs ge : Nat} (h : gs ≤ i) (h1 : gs ≤ ge) : ge + (i - gs) = i + (ge - gs) := by rw [← Nat.add_sub_assoc h, Nat.add_comm, Nat.add_sub_assoc h1]
theorem le_w {a b n m : Nat} (h : a + b ≤ n) (hm : n ≤ m) : a ≤ m := Nat.le_trans (Nat.le_of_add_right_le h) hm
theorem le_w' {a b n m : Nat} (h : b + a ≤ n) (hm : n ≤ m) : a ≤ m := Nat.le_trans (Nat.le_of_add_left_le h) hm
theorem le_w2 {a b d n m : Nat} (h : a + b + d ≤ n) (hm : n ≤ m) : a ≤ m := le_w (Nat.le_of_add_right_le h) hm
theorem le_w3 {a b d n m : Nat} (h : b + a + d ≤ n) (hm : n ≤ m) : a ≤ m := le_w' (Nat.le_of_add_right_le h) hm
theorem le_w4 {a b d k n m : Nat} (h : a + b + d + k ≤ n) (hm : n ≤ m) : a ≤ m := le_w2 (Nat.le_of_add_right_le h) hm
noncomputable def er : Value → Value
  | .int i _ => .int i 0
  | .str x _ => .str x 0
  | .float b _ => .float b 0
  | .bytes b _ => .bytes b 0
  | v => v
theorem er_int {v : Value} {i : Int} {k : Tok} (h : er v = .int i k) : ∃ t, v = .int i t := by
  cases v <;> simp [er] at h; rcases h.1 with rfl; rcases h.2 with rfl; try clear h; exact ⟨_, rfl⟩
theorem er_str {v : Value} {x : Str} {k : Tok} (h : er v = .str x k) : ∃ t, v = .str x t := by
  cases v <;> simp [er] at h; rcases h.1 with rfl; rcases h.2 with rfl; try clear h; exact ⟨_, rfl⟩
theorem er_ref {v : Value} {a : Addr} (h : er v = .ref a) : v = .ref a := by cases v <;> simp [er] at h; rw [h]
theorem er_bool {v : Value} {b : Bool} (h : er v = .bool b) : v = .bool b := by cases v <;> simp [er] at h; rw [h]
theorem er_none {v : Value} (h : er v = .none) : v = .none := by cases v <;> simp [er] at h; rfl
theorem er_builtin {v : Value} {x : String} (h : er v = .builtin x) : v = .builtin x := by cases v <;> simp [er] at h; rw [h]
theorem er_type {v : Value} {x : String} (h : er v = .type x) : v = .type x := by cases v <;> simp [er] at h; rw [h]
noncomputable def okV : Value → Bool
  | .none | .bool _ | .int .. | .str .. | .ref _ => true
  | _ => false
theorem okV_er (v : Value) : okV (er v) = okV v := by cases v <;> rfl
theorem okV_handed {v : Value} (h : okV v = true) : handedIn v = true := by cases v <;> first | rfl | (simp [okV] at h; done)
structure Cls where
  addr : Addr
  lay : List Str
  meths : List (Str × Addr)
inductive AO where
  | inst (C : Cls) (vs : List Value)
  | list (xs : List Value)
  | tup (xs : List Value)
  | dct (es : List (Int × Value))
  | raw (o : Obj)
noncomputable abbrev AH := Addr → Option AO
noncomputable def upd (H : AH) (a : Addr) (o : AO) : AH := fun b => if b = a then some o else H b
theorem upd_same (H : AH) (a : Addr) (o : AO) : upd H a o a = some o := if_pos rfl
theorem upd_ne {H : AH} {a b : Addr} {o : AO} (h : b ≠ a) : upd H a o b = H b := if_neg h
noncomputable abbrev lsO (vs : List Value) (n : Nat) : Obj := { cls := .type "list", data := .seq vs.toArray n }
noncomputable abbrev tpO (vs : List Value) (n : Nat) : Obj := { cls := .type "tuple", data := .seq vs.toArray n }
inductive Ents (P : Params) : List Str → List DictEntry → List Value → Prop
  | nil {ks : List Str} : Ents P ks [] []
  | cons {k : Str} {ks : List Str} {es : List DictEntry} {vs : List Value} {v : Value} {t : Tok} : okV v = true → Ents P ks es vs → Ents P (k :: ks) (⟨PyData.keyHash P k, .str k t, v⟩ :: es) (er v :: vs)
noncomputable abbrev Led := List (Addr × Obj)
noncomputable def erI (kvs : List (Int × Value)) : List (Int × Value) := kvs.map fun p => (p.1, er p.2)
noncomputable def RepO (w : World) (news : Led) (d a : Addr) : AO → Prop
  | .inst C vs => (a, instObj C.addr d) ∈ news ∧ ∃ es n, (d, dictOf es n) ∈ news ∧ Ents w.params C.lay es vs
  | .list xs => ∃ vs n, (a, lsO vs n) ∈ news ∧ vs.map er = xs
  | .tup xs => ∃ vs n, (a, tpO vs n) ∈ news ∧ vs.map er = xs
  | .dct es => ∃ o kvs, (a, o) ∈ news ∧ o.IsDictOf (intKind pw w) kvs ∧ erI kvs = es
  | .raw o => (a, o) ∈ news
structure Abs (w : World) (news : Led) (δ : Addr → Addr) (H : AH) : Prop where
  rep : ∀ a o, H a = some o → RepO w news (δ a) a o
  sep : ∀ a C vs, H a = some (.inst C vs) → H (δ a) = none
  inj : ∀ a b C D vs ws, H a = some (.inst C vs) → H b = some (.inst D ws) → δ a = δ b → a = b
theorem RepO.mem {w : World} {news : Led} {d a : Addr} : ∀ {o : AO}, RepO w news d a o → ∃ ob, (a, ob) ∈ news
  | .inst _ _, h => ⟨_, h.1⟩
  | .list _, ⟨_, _, h, _⟩ => ⟨_, h⟩
  | .tup _, ⟨_, _, h, _⟩ => ⟨_, h⟩
  | .dct _, ⟨_, _, h, _⟩ => ⟨_, h⟩
  | .raw _, h => ⟨_, h⟩
theorem RepO.to {w : World} {news news' : Led} {d a : Addr} : ∀ {o : AO}, RepO w news d a o → (∀ ob, (a, ob) ∈ news → (a, ob) ∈ news') → ((∃ C vs, o = .inst C vs) → ∀ ob, (d, ob) ∈ news → (d, ob) ∈ news') → RepO w news' d a o
  | .inst C vs, ⟨h1, es, n, h2, e⟩, k, k2 => ⟨k _ h1, es, n, k2 ⟨C, vs, rfl⟩ _ h2, e⟩
  | .list _, ⟨vs, n, h, e⟩, k, _ => ⟨vs, n, k _ h, e⟩
  | .tup _, ⟨vs, n, h, e⟩, k, _ => ⟨vs, n, k _ h, e⟩
  | .dct _, ⟨o, kvs, h, e⟩, k, _ => ⟨o, kvs, k _ h, e⟩
  | .raw _, h, k, _ => k _ h
theorem RepO.grow {w : World} {news news' : Led} {d a : Addr} {o : AO} (h : RepO w news d a o) (k : ∀ p ∈ news, p ∈ news') : RepO w news' d a o := h.to (fun _ m => k _ m) fun _ _ m => k _ m
noncomputable abbrev ads (news : Led) : List Addr := news.map (·.1)
noncomputable def setL (news : Led) (d : Addr) (o : Obj) : Led := news.map fun p => if p.1 = d then (d, o) else p
theorem setL_ads (news : Led) (d : Addr) (o : Obj) : ads (setL news d o) = ads news := by
  unfold ads setL
  rw [List.map_map]
  refine List.map_congr_left fun p _ => ?_
  show (if p.1 = d then (d, o) else p).1 = p.1
  split
  · rename_i h; exact h.symm
  · rfl
theorem setL_ne {news : Led} {d b : Addr} {o ob : Obj} (h : (b, ob) ∈ news) (n : b ≠ d) : (b, ob) ∈ setL news d o :=
  List.mem_map.mpr ⟨(b, ob), h, if_neg n⟩
theorem setL_at {news : Led} {d : Addr} {o ob : Obj} (h : (d, ob) ∈ news) : (d, o) ∈ setL news d o := List.mem_map.mpr ⟨(d, ob), h, if_pos rfl⟩
theorem mem_setL {news : Led} {d : Addr} {o : Obj} {p : Addr × Obj} (h : p ∈ setL news d o) : p = (d, o) ∨ (p ∈ news ∧ p.1 ≠ d) := by
  refine el1_1 (List.mem_map.mp h) fun q hq e => ?_
  split at e
  · exact .inl e.symm
  · rename_i n; subst e; exact .inr ⟨hq, n⟩
theorem news_setL {h₀ h h' : Heap} {L d : Addr} {news : Led} {o ob : Obj} (N : News h₀ L h news) (hd : (d, ob) ∈ news) (hs : Heap.SameBut d h h') (ho : h'.get? d = some o) : News h₀ L h' (setL news d o) := by
  intro p hp
  rcases mem_setL hp with rfl | ⟨hp, n⟩
  · exact ⟨ho, (N _ hd).2⟩
  · exact ⟨(hs.2 p.1 n).trans (N p hp).1, (N p hp).2⟩
theorem led_one {news : Led} (nd : (ads news).Nodup) {a : Addr} {o o' : Obj} (h : (a, o) ∈ news) (h' : (a, o') ∈ news) : o = o' := by
  induction news with
  | nil => cases h
  | cons p r ih =>
    have nd' := List.nodup_cons.mp (show (p.1 :: ads r).Nodup from nd)
    rcases List.mem_cons.mp h with e | h
    · rcases List.mem_cons.mp h' with e' | h'
      · rw [← e] at e'; exact (Prod.mk.inj e').2.symm
      · exact absurd (List.mem_map.mpr ⟨_, h', rfl⟩) (by rw [show a = p.1 by rw [← e]]; exact nd'.1)
    · rcases List.mem_cons.mp h' with e' | h'
      · exact absurd (List.mem_map.mpr ⟨_, h, rfl⟩) (by rw [show a = p.1 by rw [← e']]; exact nd'.1)
      · exact ih nd'.2 h h'
theorem Abs.turn {w : World} {news : Led} {δ : Addr → Addr} {H : AH} {a : Addr} {o o' : AO} {ob : Obj} (A : Abs w news δ H) (h : H a = some o) (n' : ∀ C vs, o' ≠ .inst C vs)
    (r : RepO w (setL news a ob) (δ a) a o') : Abs w (setL news a ob) δ (upd H a o') := by
  have off : ∀ b C vs, H b = some (.inst C vs) → δ b ≠ a := fun b C vs hb e => by have := A.sep b C vs hb; rw [e, h] at this; cases this
  refine ⟨fun b x hb => ?_, fun b C vs hb => ?_, fun b c C D vs ws hb hc e => ?_⟩
  · by_cases q : b = a
    · subst q; rw [upd_same] at hb; cases hb; exact r
    · rw [upd_ne q] at hb
      exact (A.rep b x hb).to (fun _ m => setL_ne m q) fun ⟨C, vs, e⟩ _ m => setL_ne m (off b C vs (e ▸ hb))
  · by_cases q : b = a
    · subst q; rw [upd_same] at hb; cases hb; exact absurd rfl (n' C vs)
    · rw [upd_ne q] at hb
      rw [upd_ne (off b C vs hb)]; exact A.sep b C vs hb
  · by_cases q : b = a
    · subst q; rw [upd_same] at hb; cases hb; exact absurd rfl (n' C vs)
    · by_cases q' : c = a
      · subst q'; rw [upd_same] at hc; cases hc; exact absurd rfl (n' D ws)
      · rw [upd_ne q] at hb; rw [upd_ne q'] at hc; exact A.inj b c C D vs ws hb hc e
theorem Abs.field {w : World} {news : Led} {δ : Addr → Addr} {H : AH} {a : Addr} {C : Cls} {vs vs' : List Value} {es' : List DictEntry} {n' : Nat} (A : Abs w news δ H) (h : H a = some (.inst C vs))
    (e : Ents w.params C.lay es' vs') : Abs w (setL news (δ a) (dictOf es' n')) δ (upd H a (.inst C vs')) := by
  have zq := A.rep a _ h; have h1 := zq.1; refine el2_1 zq.2 fun es n h2 _ => ?_
  have ha : a ≠ δ a := fun q => by have := A.sep a C vs h; rw [← q, h] at this; cases this
  refine ⟨fun b x hb => ?_, fun b D ws hb => ?_, fun b c D D' ws ws' hb hc e => ?_⟩
  · by_cases q : b = a
    · subst q; rw [upd_same] at hb; cases hb
      exact ⟨setL_ne h1 ha, es', n', setL_at h2, e⟩
    · rw [upd_ne q] at hb
      refine (A.rep b x hb).to (fun _ m => setL_ne m fun z => ?_) fun ⟨D, ws, e⟩ _ m => setL_ne m fun z => q (A.inj b a D C ws vs (e ▸ hb) h z)
      have := A.sep a C vs h; rw [← z, hb] at this; cases this
  · by_cases q : b = a
    · subst q; rw [upd_ne (Ne.symm ha)]; exact A.sep b C vs h
    · rw [upd_ne q] at hb
      rw [upd_ne]
      · exact A.sep b D ws hb
      · intro z; have := A.sep b D ws hb; rw [z, h] at this; cases this
  · by_cases q : b = a
    · subst q
      by_cases q' : c = b
      · exact q'.symm
      · rw [upd_ne q'] at hc; exact A.inj b c C D' vs ws' h hc e
    · rw [upd_ne q] at hb
      by_cases q' : c = a
      · subst q'; exact A.inj b c D C ws vs hb h e
      · rw [upd_ne q'] at hc; exact A.inj b c D D' ws ws' hb hc e
theorem Abs.fresh {w : World} {news : Led} {δ : Addr → Addr} {H : AH} {a : Addr} {o' : AO} {ob : Obj} (A : Abs w news δ H) (hf : a ∉ ads news) (n' : ∀ C vs, o' ≠ .inst C vs)
    (r : RepO w ((a, ob) :: news) (δ a) a o') : H a = none ∧ Abs w ((a, ob) :: news) δ (upd H a o') := by
  have hn : H a = none := by
    cases q : H a with
    | none => rfl
    | some o => refine Exists.elim ((A.rep a o q).mem) fun x hx => ?_; exact absurd (List.mem_map.mpr ⟨_, hx, rfl⟩) hf
  have off : ∀ b C vs, H b = some (.inst C vs) → δ b ≠ a := fun b C vs hb e => by
    have zq := A.rep b _ hb; have _ := zq.1; refine el2_1 zq.2 fun es n h2 _ => ?_
    exact hf (e ▸ List.mem_map.mpr ⟨_, h2, rfl⟩)
  have ne : ∀ b x, H b = some x → b ≠ a := fun b x hb e => by rw [e, hn] at hb; cases hb
  refine ⟨hn, fun b x hb => ?_, fun b C vs hb => ?_, fun b c C D vs ws hb hc e => ?_⟩
  · by_cases q : b = a
    · subst q; rw [upd_same] at hb; cases hb; exact r
    · rw [upd_ne q] at hb; exact (A.rep b x hb).grow fun _ m => List.mem_cons_of_mem _ m
  · by_cases q : b = a
    · subst q; rw [upd_same] at hb; cases hb; exact absurd rfl (n' C vs)
    · rw [upd_ne q] at hb
      rw [upd_ne (off b C vs hb)]; exact A.sep b C vs hb
  · by_cases q : b = a
    · subst q; rw [upd_same] at hb; cases hb; exact absurd rfl (n' C vs)
    · by_cases q' : c = a
      · subst q'; rw [upd_same] at hc; cases hc; exact absurd rfl (n' D ws)
      · rw [upd_ne q] at hb; rw [upd_ne q'] at hc; exact A.inj b c C D vs ws hb hc e
theorem Abs.made {w : World} {news : Led} {δ : Addr → Addr} {H : AH} {x d : Addr} {C : Cls} (A : Abs w news δ H) (hx : x ∉ ads news) (hd : d ∉ ads news) (hxd : d ≠ x) :
    H x = none ∧ Abs w ((x, instObj C.addr d) :: (d, dictOf [] 0) :: news) (fun b => if b = x then d else δ b) (upd H x (.inst C [])) := by
  have nn : ∀ a, a ∉ ads news → H a = none := fun a hf => by
    cases q : H a with
    | none => rfl
    | some o => refine Exists.elim ((A.rep a o q).mem) fun x hx => ?_; exact absurd (List.mem_map.mpr ⟨_, hx, rfl⟩) hf
  have offs : ∀ b C vs, H b = some (.inst C vs) → δ b ∈ ads news := fun b C vs hb => by
    have zq := A.rep b _ hb; have _ := zq.1; refine el2_1 zq.2 fun es n h2 _ => ?_
    exact List.mem_map.mpr ⟨_, h2, rfl⟩
  refine ⟨nn x hx, fun b o hb => ?_, fun b D vs hb => ?_, fun b c D D' vs ws hb hc e => ?_⟩
  · by_cases q : b = x
    · subst q; rw [upd_same] at hb; cases hb
      rw [if_pos rfl]
      exact ⟨List.mem_cons_self, [], 0, List.mem_cons_of_mem _ List.mem_cons_self, .nil⟩
    · rw [upd_ne q] at hb; rw [if_neg q]; exact (A.rep b o hb).grow fun _ m => List.mem_cons_of_mem _ (List.mem_cons_of_mem _ m)
  · by_cases q : b = x
    · subst q; rw [if_pos rfl, upd_ne hxd]; exact nn d hd
    · rw [upd_ne q] at hb
      have z : δ b ≠ x := fun z => hx (by rw [← z]; exact offs b D vs hb)
      rw [if_neg q, upd_ne z]; exact A.sep b D vs hb
  · by_cases q : b = x
    · subst q
      by_cases q' : c = b
      · exact q'.symm
      · rw [upd_ne q'] at hc; rw [if_pos rfl, if_neg q'] at e; exact absurd (e ▸ offs c D' ws hc) hd
    · rw [upd_ne q] at hb
      by_cases q' : c = x
      · subst q'; rw [if_pos rfl, if_neg q] at e; exact absurd (e ▸ offs b D vs hb) hd
      · rw [upd_ne q'] at hc; rw [if_neg q, if_neg q'] at e; exact A.inj b c D D' vs ws hb hc e
noncomputable def Sub (H' H : AH) : Prop := ∀ a o, H' a = some o → H a = some o
theorem Abs.less {w : World} {news : Led} {δ : Addr → Addr} {H H' : AH} (A : Abs w news δ H) (k : Sub H' H) : Abs w news δ H' := by
  refine ⟨fun a o h => A.rep a o (k a o h), fun a C vs h => ?_, fun a b C D vs ws h h' e => A.inj a b C D vs ws (k _ _ h) (k _ _ h') e⟩
  have := A.sep a C vs (k _ _ h)
  cases q : H' (δ a) with
  | none => rfl
  | some o => rw [k _ _ q] at this; cases this
noncomputable abbrev Mem := List (Option Value)
structure Cx where
  w : World
  A : Around
  env : Env
  sh : Shared
  h₀ : Heap
  L : Addr
  base : Heap
  frs : List Env
  vars : List Str
  loc : Mem → Heap → List Addr → Prop
  X : Str → Prop
  HX : AH
noncomputable def Cx.at (c : Cx) (h : Heap) (k : Nat) : Shared := { c.sh with heap := h, toks := k }
noncomputable def BaseOK (w : World) (h : Heap) : Prop := (KK w.params).In h ∧ ∃ mean mg mb, Top qv (looseW qv looseN) mean mg mb h
theorem BaseOK.keeps {w : World} {h h' : Heap} (b : BaseOK w h) (k : h.StaysIn h') : BaseOK w h' := let ⟨x, a, g, d, t⟩ := b; ⟨x.keeps k, a, g, d, t.keeps k⟩
noncomputable def Cx.fads (c : Cx) : List Addr := c.frs.filterMap (·.frame)
noncomputable def Kept (F N : List Addr) (h h' : Heap) : Prop := (∀ b o, h.get? b = some o → b ∉ N → b ∉ F → h'.get? b = some o) ∧ ∀ b ∈ F, ∀ m, h.Ns b m → h'.Ns b m
structure Cx.Ok (c : Cx) (n : Nat) : Prop where
  ground : BaseOK c.w c.h₀
  room : c.A.depth + 4 * n + 8 < recursionLimit
  units : c.A.units + 20 * n + 60 < cLine
  hand : c.A.handled = none
  frames : c.A.frames = some c.frs
  stays : c.base.StaysIn c.h₀
  fr : ∀ M h N, c.loc M h N → ∃ m, Fr c.h₀ c.L h m
  keep : ∀ M h h' N N', c.loc M h N → Kept c.fads N h h' → (∀ a ∈ N', a ∈ N ∨ h.get? a = none) → c.loc M h' N'
  ff : ∀ M h N, c.loc M h N → ∀ env ∈ c.frs, env.scope.kind ≠ .module ∧ ∃ a, env.frame = some a ∧ c.base.get? a = none ∧ c.h₀.get? a = none ∧ a ∉ N ∧ ∃ m, h.Ns a m
  name : ∀ (i : Nat) (x : Str) (v : Value) (M : Mem) (h : Heap) (N : List Addr), c.vars[i]? = some x → M[i]? = some (some v) → c.loc M h N → ∀ A k pos (Q : Value → Shared → Prop) (E : Value → Shared → Prop), (∀ v', er v' = v → Q v' (c.at h k)) → wpAny (model pw c.w) A (eval (.Name x pos) c.env) Q E (c.at h k)
  own : c.L ∈ c.fads
  kind : c.env.scope.kind = .function
  globals : c.env.globals = mainGlobals
  blt : c.env.builtins = builtinsNs
theorem Cx.Ok.less {c : Cx} {n m : Nat} (h : c.Ok n) (l : m ≤ n) : c.Ok m :=
  ⟨h.ground, by have := h.room; lia, by have := h.units; lia, h.hand, h.frames, h.stays, h.fr, h.keep, h.ff, h.name, h.own, h.kind, h.globals, h.blt⟩
noncomputable def St (c : Cx) (M : Mem) (H : AH) (h : Heap) : Prop := ∃ news δ, News c.h₀ c.L h news ∧ (ads news).Nodup ∧ Abs c.w news δ H ∧ c.loc M h (ads news)
theorem St.less {c : Cx} {M : Mem} {H H' : AH} {h : Heap} (s : St c M H h) (k : Sub H' H) : St c M H' h := let ⟨n, d, a, b, e, l⟩ := s; ⟨n, d, a, b, e.less k, l⟩
noncomputable def OffH (H : AH) (δ : Addr → Addr) (b : Addr) : Prop := H b = none ∧ ∀ a C vs, H a = some (.inst C vs) → δ a ≠ b
noncomputable def TrOk (H : AH) (δ : Addr → Addr) (news : Led) (e : Addr) (vs : Array Value) : Prop :=
  vs[1]? = some .none ∨ ∃ T oT ts, vs[1]? = some (.ref T) ∧ T ≠ e ∧ (T, oT) ∈ news ∧ OffH H δ T ∧ oT.data = .fields ts ∧ ts[3]? = some .none
noncomputable def FlyAt (H : AH) (δ : Addr → Addr) (news : Led) (sym : Str) (e : Addr) : Prop :=
  ∃ oe vs dx od t, (e, oe) ∈ news ∧ OffH H δ e ∧ oe.cls = .ref 38 ∧ oe.dict = some dx ∧ oe.data = .fields vs ∧ (dx, od) ∈ news ∧ (OffH H δ dx ∧ ∃ es ep, od.data = .dict es ep) ∧ lookIn "symbol" od = some (some (.str sym t)) ∧ TrOk H δ news e vs
noncomputable def Fly (c : Cx) (M : Mem) (H : AH) (sym : Str) (e : Addr) (h : Heap) : Prop :=
  ∃ news δ, News c.h₀ c.L h news ∧ (ads news).Nodup ∧ Abs c.w news δ H ∧ c.loc M h (ads news) ∧ FlyAt H δ news sym e
theorem OffH.less {H H' : AH} {δ : Addr → Addr} {b : Addr} (o : OffH H δ b) (k : Sub H' H) : OffH H' δ b := by
  refine ⟨?_, fun a C vs h => o.2 a C vs (k _ _ h)⟩
  cases q : H' b with
  | none => rfl
  | some x => have := k _ _ q; rw [o.1] at this; cases this
theorem Fly.less {c : Cx} {M : Mem} {H H' : AH} {sym : Str} {e : Addr} {h : Heap} (f : Fly c M H sym e h) (k : Sub H' H) : Fly c M H' sym e h := by
  refine el2_4 f fun news δ a b d l z96 => ?_; rcases z96 with ⟨oe, vs, dx, od, t, e1, e2, e3, e4, e5, e6, e6', e7, e8⟩
  refine ⟨news, δ, a, b, d.less k, l, oe, vs, dx, od, t, e1, e2.less k, e3, e4, e5, e6, ⟨e6'.1.less k, e6'.2⟩, e7, e8.imp id ?_⟩
  rintro ⟨T, oT, ts, f1, f2, f3, f4, f5⟩
  exact ⟨T, oT, ts, f1, f2, f3, f4.less k, f5⟩
noncomputable def W (c : Cx) (M : Mem) (H : AH) {α : Type} (t : Sem α) (P : α → Mem → AH → Prop) : Prop :=
  ∀ h k, St c M H h → ∀ (Q : α → Shared → Prop) (E : Value → Shared → Prop),
    (∀ a h' k' M' H', P a M' H' → St c M' H' h' → Q a (c.at h' k')) → (∀ e sym M' h' k', c.X sym → Fly c M' c.HX sym e h' → E (.ref e) (c.at h' k')) → wpAny (model pw c.w) c.A t Q E (c.at h k)
section
variable {c : Cx} {M : Mem} {H : AH} {α β : Type}
theorem W.pure {a : α} {P : α → Mem → AH → Prop} (h : P a M H) : W c M H (Pure.pure a : Sem α) P := fun _ _ s _ _ q _ => wpAny_pure (q _ _ _ _ _ h s)
theorem W.bind {t : Sem α} {f : α → Sem β} {P : β → Mem → AH → Prop} (h : W c M H t fun a M' H' => W c M' H' (f a) P) : W c M H (t >>= f) P :=
  fun hp k s Q E q e => wpAny_bind (h hp k s _ _ (fun _ _ _ _ _ w s' => w _ _ s' _ _ q e) e)
theorem W.mono {t : Sem α} {P P' : α → Mem → AH → Prop} (h : W c M H t P) (k : ∀ a M' H', P a M' H' → P' a M' H') : W c M H t P' :=
  fun hp k' s Q E q e => h hp k' s Q E (fun a h' k'' M' H' p s' => q _ _ _ _ _ (k _ _ _ p) s') e
theorem W.less {t : Sem α} {H' : AH} {P : α → Mem → AH → Prop} (h : W c M H' t P) (k : Sub H' H) : W c M H t P := fun hp k' s => h hp k' (s.less k)
end
noncomputable def Pe (c : Cx) (M : Mem) (H : AH) (e : Expr) (v : Value) : Prop :=
  ∀ h k, St c M H h → ∀ (Q : Value → Shared → Prop) (E : Value → Shared → Prop), (∀ v' h' k', er v' = v → St c M H h' → Q v' (c.at h' k')) → wpAny (model pw c.w) c.A (eval e c.env) Q E (c.at h k)
noncomputable def Ev (c : Cx) (M : Mem) (H : AH) (e : Expr) (P : Value → AH → Prop) : Prop := W c M H (eval e c.env) fun v M' H' => M' = M ∧ P (er v) H'
noncomputable def Pb (c : Cx) (M : Mem) (H : AH) (e : Expr) (b : Bool) : Prop :=
  ∀ h k, St c M H h → ∀ (Q : Bool → Shared → Prop) (E : Value → Shared → Prop), (∀ h' k', St c M H h' → Q b (c.at h' k')) → wpAny (model pw c.w) c.A (isTrue e c.env (eval e c.env)) Q E (c.at h k)
inductive Fl where
  | next | brk | cont
  | ret (v : Value)
noncomputable def erF : Flow → Fl
  | .next => .next
  | .brk => .brk
  | .cont => .cont
  | .ret v => .ret (er v)
noncomputable def Ex (c : Cx) (M : Mem) (H : AH) (ss : List Stmt) (P : Fl → Mem → AH → Prop) : Prop := W c M H (execs ss c.env) fun f M' H' => P (erF f) M' H'
noncomputable def Ex1 (c : Cx) (M : Mem) (H : AH) (st : Stmt) (P : Fl → Mem → AH → Prop) : Prop := W c M H (exec st c.env) fun f M' H' => P (erF f) M' H'
section
variable {c : Cx} {M : Mem} {H : AH} {n : Nat}
theorem Pe.ev {e : Expr} {v : Value} {P : Value → AH → Prop} (h : Pe c M H e v) (p : P v H) : Ev c M H e P :=
  fun hp k s Q E q _ => h hp k s Q E fun v' h' k' z s' => q _ _ _ _ _ ⟨rfl, by rw [z]; exact p⟩ s'
theorem Ev.mono {e : Expr} {P P' : Value → AH → Prop} (h : Ev c M H e P) (k : ∀ v H', P v H' → P' v H') : Ev c M H e P' := W.mono h fun _ _ _ p => ⟨p.1, k _ _ p.2⟩
theorem Pe.int {i : Int} {q pos} : Pe c M H (.Constant (.int i) q pos) (.int i 0) := fun _ _ s _ _ q => wpAny_Constant_int (q _ _ _ rfl s)
theorem Pe.bool {b : Bool} {q pos} : Pe c M H (.Constant (.bool b) q pos) (.bool b) := fun _ _ s _ _ q => Constant_bool (q _ _ _ rfl s)
theorem Pe.none {q pos} : Pe c M H (.Constant .none q pos) .none := fun _ _ s _ _ q => Constant_none (q _ _ _ rfl s)
theorem Pe.name (ok : c.Ok n) (i : Nat) {x : Str} {v : Value} {pos} (hx : c.vars[i]? = some x) (hv : M[i]? = some (some v)) : Pe c M H (.Name x pos) v :=
  fun _ _ s _ _ q => let ⟨_, _, _, _, _, l⟩ := id s; ok.name i x v M _ _ hx hv l _ _ _ _ _ fun v' z => q _ _ _ z s
theorem Pe.binop {l r : Expr} {op : Operator} {pos} {a b v : Value} (hl : Pe c M H l a) (hr : Pe c M H r b)
    (ho : ∀ a' b' (s : Shared) (Q : Value → Shared → Prop) E, er a' = a → er b' = b → (∀ v' k', er v' = v → Q v' { s with toks := k' }) → wpAny (model pw c.w) c.A (binaryOp op a' b') Q E s) : Pe c M H (.BinOp l op r pos) v :=
  fun hp k s Q E q => wpAny_BinOp (hl hp k s _ _ fun a' h' k' za s' => hr h' k' s' _ _ fun b' h'' k'' zb s'' => ho a' b' _ _ _ za zb fun v' k3 zv => q _ _ _ zv s'')
theorem op_add {c : Cx} {a b : Int} : ∀ a' b' (s : Shared) (Q : Value → Shared → Prop) E, er a' = .int a 0 → er b' = .int b 0 → (∀ v' k', er v' = .int (a + b) 0 → Q v' { s with toks := k' }) → wpAny (model pw c.w) c.A (binaryOp .Add a' b') Q E s :=
  fun a' b' s Q E za zb q => by refine Exists.elim (er_int za) fun t z91 => ?_; rcases z91 with rfl; refine Exists.elim (er_int zb) fun u z91 => ?_; rcases z91 with rfl; exact add_int (q _ _ rfl)
theorem op_sub {c : Cx} {a b : Int} : ∀ a' b' (s : Shared) (Q : Value → Shared → Prop) E, er a' = .int a 0 → er b' = .int b 0 → (∀ v' k', er v' = .int (a - b) 0 → Q v' { s with toks := k' }) → wpAny (model pw c.w) c.A (binaryOp .Sub a' b') Q E s :=
  fun a' b' s Q E za zb q => by refine Exists.elim (er_int za) fun t z91 => ?_; rcases z91 with rfl; refine Exists.elim (er_int zb) fun u z91 => ?_; rcases z91 with rfl; exact sub_int (q _ _ rfl)
theorem Pe.add {l r : Expr} {pos} {a b : Int} (hl : Pe c M H l (.int a 0)) (hr : Pe c M H r (.int b 0)) : Pe c M H (.BinOp l .Add r pos) (.int (a + b) 0) := Pe.binop hl hr op_add
theorem Pe.sub {l r : Expr} {pos} {a b : Int} (hl : Pe c M H l (.int a 0)) (hr : Pe c M H r (.int b 0)) : Pe c M H (.BinOp l .Sub r pos) (.int (a - b) 0) := Pe.binop hl hr op_sub
end
structure Fn where
  addr : Addr
  fd : FuncData
  body : List Stmt
  ps : List Str
  ls : List Str
noncomputable abbrev Fn.vars (F : Fn) : List Str := F.ps ++ F.ls
noncomputable abbrev Fn.sc (F : Fn) : Scope := F.fd.scope
noncomputable def okVar (sc : Scope) (x : Str) : Bool := (sc.names.lookup x == some .local || sc.names.lookup x == some .cell) && !(x == ("__debug__" : Str))
structure FnOk (F : Fn) : Prop where
  look : ∀ P, ∃ oc od osl, (KK P).lookup F.addr = some ⟨oc, od, .func F.fd, osl⟩
  code : ∀ P, codeIn (KK P) F.fd.code F.fd.qualname = true
  body : F.fd.body = .stmts F.body
  kinds : F.vars.all (okVar F.sc) = true
  nodup : F.vars.Nodup
  co : F.sc.isCoroutine = false
  gen : F.sc.isGenerator = false
  kind : F.sc.kind = .function
  ndc : ((cellsFrom 0 F.sc.names []).map (·.1)).Nodup
  glob : F.fd.globals = mainGlobals
  blt : F.fd.builtins = builtinsNs
  clo : F.fd.closure = []
noncomputable def Fn.envAt (F : Fn) (L : Addr) : Env :=
  { scope := F.sc, locals := L, globals := F.fd.globals, cells := cellsFrom (L + 1) F.sc.names [], qual := F.fd.qualname ++ ".<locals>.", func := some F.addr, code := F.fd.code, frame := some L, builtins := F.fd.builtins }
theorem bindL_eq (k : Str → Option NameKind) : ∀ (bs : List (Str × Value)) (m : Str → Option Value) (x : Str), bindL k bs m x = if k x = some .local then (bs.reverse.lookup x).or (m x) else m x
  | [], m, x => by simp [bindL]
  | (n, v) :: r, m, x => by
    rw [bindL, bindL_eq k r, List.reverse_cons, List.lookup_append]
    by_cases hx : k x = some .local
    · rw [if_pos hx, if_pos hx, Option.or_assoc]
      congr 1
      by_cases hn : k n = some .local
      · rw [if_pos hn]
        by_cases e : x = n
        · subst e; simp
        · have e' : (x == n) = false := beq_eq_false_iff_ne.mpr e
          simp [List.lookup_cons, e', e]
      · rw [if_neg hn]
        have e' : (x == n) = false := beq_eq_false_iff_ne.mpr fun e => hn (by rw [← e]; exact hx)
        simp [List.lookup_cons, e']
    · rw [if_neg hx, if_neg hx]
      by_cases hn : k n = some .local
      · rw [if_pos hn, if_neg fun e => hx (by rw [e]; exact hn)]
      · rw [if_neg hn]
theorem bindC_eq (k : Str → Option NameKind) : ∀ (bs : List (Str × Value)) (m : Str → Option Value) (x : Str), bindC k bs m x = if k x = some .local then m x else (bs.reverse.lookup x).or (m x)
  | [], m, x => by simp [bindC]
  | (n, v) :: r, m, x => by
    rw [bindC, bindC_eq k r, List.reverse_cons, List.lookup_append]
    by_cases hx : k x = some .local
    · rw [if_pos hx, if_pos hx]
      by_cases hn : k n = some .local
      · rw [if_pos hn]
      · rw [if_neg hn, if_neg fun e => hn (by rw [← e]; exact hx)]
    · rw [if_neg hx, if_neg hx, Option.or_assoc]
      congr 1
      by_cases hn : k n = some .local
      · rw [if_pos hn]
        have e' : (x == n) = false := beq_eq_false_iff_ne.mpr fun e => hx (by rw [e]; exact hn)
        simp [List.lookup_cons, e']
      · rw [if_neg hn]
        by_cases e : x = n
        · subst e; simp
        · have e' : (x == n) = false := beq_eq_false_iff_ne.mpr e
          simp [List.lookup_cons, e', e]
noncomputable def memOf (vars : List Str) (bs : List (Str × Value)) : Mem := vars.map fun x => (bs.reverse.lookup x).map er
theorem lookup_zip_none {x : Str} : ∀ (ps : List Str) (vs : List Value), x ∉ ps → (ps.zip vs).reverse.lookup x = none := fun ps vs h => by
  refine List.lookup_eq_none_iff.mpr fun p hp => ?_
  have := (List.of_mem_zip (List.mem_reverse.mp hp)).1
  simp
  exact fun e => h (e ▸ this)
theorem memOf_zip (ps ls : List Str) : ∀ (vs : List Value), ps.length = vs.length → (ps ++ ls).Nodup → memOf (ps ++ ls) (ps.zip vs) = vs.map (fun v => some (er v)) ++ ls.map fun _ => none := by
  induction ps with
  | nil =>
    intro vs hl _
    cases vs with
    | nil => simp [memOf]
    | cons _ _ => cases hl
  | cons p ps ih =>
    intro vs hl nd
    cases vs with
    | nil => cases hl
    | cons v vs =>
      have nd' := List.nodup_cons.mp (show (p :: (ps ++ ls)).Nodup from nd)
      have ih := ih vs (Nat.succ.inj hl) nd'.2
      have hp : p ∉ ps := fun h => nd'.1 (List.mem_append_left _ h)
      unfold memOf at ih ⊢
      simp only [List.cons_append, List.map_cons, List.zip_cons_cons, List.reverse_cons, List.lookup_append]
      congr 1
      · rw [lookup_zip_none _ _ hp]; simp
      · rw [← ih]
        refine List.map_congr_left fun x hx => ?_
        have : (x == p) = false := beq_eq_false_iff_ne.mpr fun e => nd'.1 (e ▸ hx)
        simp [List.lookup_cons, this]
noncomputable def Fn.val (F : Fn) (m cm : Str → Option Value) (x : Str) : Option Value := if F.sc.names.lookup x = some .local then m x else cm x
noncomputable def locF (F : Fn) (L : Addr) (g he : Heap) (outer : List Addr) : Mem → Heap → List Addr → Prop := fun M h N =>
  ∃ m cm, Fr g L h m ∧ (L ∉ N ∧ ∀ a ∈ N, g.get? a = none) ∧ (∀ x ca, (cellsFrom (L + 1) F.sc.names []).lookup x = some ca → h.IsCell ca (cm x) ∧ g.get? ca = none ∧ L < ca ∧ ca ∉ N) ∧
    (∀ a ∈ outer, a < L ∧ g.get? a = none ∧ a ∉ N ∧ ∀ m', he.Ns a m' → h.Ns a m') ∧ M = F.vars.map fun x => (F.val m cm x).map er
noncomputable def Cx.callee (c : Cx) (F : Fn) (L : Addr) (g he : Heap) (X : Str → Prop) (HX : AH) : Cx :=
  { w := c.w, A := c.A.deeper (F.envAt L), env := F.envAt L, sh := c.sh, h₀ := g, L := L, base := c.base, frs := F.envAt L :: c.frs, vars := F.vars, loc := locF F L g he c.fads, X := X, HX := HX }
theorem callee_fads (c : Cx) (F : Fn) (L : Addr) (g he : Heap) (X : Str → Prop) (HX : AH) : (c.callee F L g he X HX).fads = L :: c.fads := rfl
theorem callee_okG {c : Cx} {n : Nat} (room : c.A.depth + 4 * (n + 1) + 8 < recursionLimit) (units : c.A.units + 20 * (n + 1) + 60 < cLine) (hand : c.A.handled = none) (frames : c.A.frames = some c.frs) {F : Fn} (FO : FnOk F) {he g : Heap} (fff : ∀ env ∈ c.frs, env.scope.kind ≠ .module ∧ ∃ a, env.frame = some a ∧ c.base.get? a = none ∧ ∃ m, he.Ns a m) {L : Addr} {X : Str → Prop} {HX : AH} (hg : BaseOK c.w g) (hs : c.base.StaysIn g) (hL : g.objs.size ≤ L) :
    (c.callee F L g he X HX).Ok n where
  ground := hg
  room := by show c.A.depth + 1 + 4 * n + 8 < _; lia
  units := by show c.A.units + 3 + 20 * n + 60 < _; lia
  hand := hand
  frames := by show c.A.frames.map _ = _; rw [frames]; rfl
  stays := hs
  fr := fun M h N ⟨m, cm, F', _⟩ => ⟨m, F'⟩
  keep := fun M h h' N N' q0 kk hN => by
    refine el2_4 q0 fun m cm F' hLgN hc ho hM => ?_
    have hLN := hLgN.1
    have hgN := hLgN.2
    have k1 := kk.1
    have k2 := kk.2
    rw [callee_fads] at k1 k2
    have gL : g.get? L = none := Heap.get?_none_of_le hL
    have inH : ∀ a, g.get? a = none → (∃ o, h.get? a = some o) → a ∉ N → a ∉ N' := fun a ha ⟨o, ho⟩ hn h' => (hN a h').elim hn fun z => by rw [z] at ho; cases ho
    refine ⟨m, cm, ⟨k2 L List.mem_cons_self _ F'.ns, fun b o e => ?_, F'.above⟩, ⟨?_, fun a ha => ?_⟩, fun x ca e => ?_, fun a ha => ?_, hM⟩
    · refine k1 b o (F'.keep b o e) (fun q => by rw [hgN b q] at e; cases e) fun q => ?_
      rcases List.mem_cons.mp q with rfl | q
      · rw [gL] at e; cases e
      · rw [(ho b q).2.1] at e; cases e
    · refine el3_1 F'.ns fun o _ _ e _ => ?_
      exact inH L gL ⟨o, e⟩ hLN
    · rcases hN a ha with q | q
      · exact hgN a q
      · cases z : g.get? a with
        | none => rfl
        | some o => rw [F'.keep a o z] at q; cases q
    · refine el0_3 (hc x ca e) fun z90 c2 c3 c4 => ?_; rcases z90 with ⟨o, e1, e2⟩
      refine ⟨⟨o, k1 ca o e1 c4 fun q => ?_, e2⟩, c2, c3, inH ca c2 ⟨o, e1⟩ c4⟩
      rcases List.mem_cons.mp q with rfl | q
      · exact Nat.lt_irrefl _ c3
      · exact absurd (Nat.lt_trans c3 (ho ca q).1) (Nat.lt_irrefl _)
    · refine el0_3 (ho a ha) fun o1 o2 o3 o4 => ?_
      refine ⟨o1, o2, ?_, fun m' e => k2 a (List.mem_cons_of_mem _ ha) m' (o4 m' e)⟩
      refine el1_1 (List.mem_filterMap.mp ha) fun env henv hfr => ?_
      have zq := fff env henv; have _ := zq.1; refine el1_2 zq.2 fun a' e1 _ zq => ?_; refine Exists.elim zq fun m' e2 => ?_
      rw [hfr] at e1; cases e1
      refine el3_1 (o4 m' e2) fun o _ _ e _ => ?_
      exact inH a o2 ⟨o, e⟩ o3
  ff := fun M h N ⟨m, cm, F', ⟨hLN, hgN⟩, hc, ho, hM⟩ env henv => by
    rcases List.mem_cons.mp henv with rfl | henv
    · refine ⟨by show F.sc.kind ≠ _; rw [FO.kind]; decide, L, rfl, ?_, Heap.get?_none_of_le hL, hLN, m, F'.ns⟩
      cases q : c.base.get? L with
      | none => exact q
      | some o => have := hs _ _ q; rw [Heap.get?_none_of_le hL] at this; cases this
    · have zq := fff env henv; have e0 := zq.1; refine el1_2 zq.2 fun a e1 e2 zq => ?_; refine Exists.elim zq fun m' e3 => ?_
      have ha : a ∈ c.fads := List.mem_filterMap.mpr ⟨env, henv, e1⟩
      exact ⟨e0, a, e1, e2, (ho a ha).2.1, (ho a ha).2.2.1, m', (ho a ha).2.2.2 m' e3⟩
  name := fun i x v M h N hx hv ⟨m, cm, F', _, hc, _, hM⟩ A k pos Q E q => by
    have hx : F.vars[i]? = some x := hx
    have hv' : M[i]? = some ((F.val m cm x).map er) := by rw [hM, List.getElem?_map, hx]; rfl
    rw [hv] at hv'
    refine el1_1 (Option.map_eq_some_iff.mp (Option.some.inj hv').symm) fun v' hv1 hv2 => ?_
    have hk := List.all_eq_true.mp FO.kinds x (List.mem_of_getElem? hx)
    unfold okVar at hk
    simp only [Bool.and_eq_true, Bool.or_eq_true, beq_iff_eq, Bool.not_eq_true'] at hk
    unfold Fn.val at hv1
    by_cases hl : F.sc.names.lookup x = some .local
    · rw [if_pos hl] at hv1
      exact wpAny_Name (wpAny_loadName_local FO.kind hl F'.ns hv1 (q v' hv2)) hk.2
    · rw [if_neg hl] at hv1
      have hcell := hk.1.resolve_left hl
      refine Exists.elim (Option.isSome_iff_exists.mp (cellsFrom_some (x := x) F.sc.names (L + 1) [] (.inl hcell))) fun ca hca => ?_
      have := (hc x ca hca).1
      rw [hv1] at this
      exact wpAny_Name (wpAny_loadName_cell FO.kind hcell hca this (q v' hv2)) hk.2
  own := by rw [callee_fads]; exact List.mem_cons_self
  kind := FO.kind
  globals := FO.glob
  blt := FO.blt
theorem callee_ok {c : Cx} {n : Nat} (ok : c.Ok (n + 1)) {F : Fn} (FO : FnOk F) {M : Mem} {he g : Heap} {N : List Addr} (l : c.loc M he N) {L : Addr} {X : Str → Prop} {HX : AH} (hg : BaseOK c.w g) (hs : c.base.StaysIn g) (hL : g.objs.size ≤ L) :
    (c.callee F L g he X HX).Ok n :=
  callee_okG ok.room ok.units ok.hand ok.frames FO (fun env henv => by
    have zq := ok.ff _ _ _ l env henv; have e0 := zq.1; refine el1_4 zq.2 fun a e1 e2 _ _ zq => ?_; refine Exists.elim zq fun m' e3 => ?_
    exact ⟨e0, a, e1, e2, m', e3⟩) hg hs hL
noncomputable def FnSpec (f : Addr) (n : Nat) (args : List Value) (H : AH) (R : Value → AH → Prop) (X : Str → Prop) : Prop :=
  ∀ (c : Cx), c.Ok n → ∀ M h k, St c M H h → ∀ vs, vs.map er = args → ∀ (Q : Result → Shared → Prop), (∀ v h' k' H', R (er v) H' → St c M H' h' → Q (.ok (.ret v)) (c.at h' k')) →
    (∀ e sym h' k', X sym → Fly c M H sym e h' → Q (.error (.ref e)) (c.at h' k')) → codeAny (model pw c.w) c.A (.call (.ref f) ⟨vs, []⟩) Q (c.at h k)
noncomputable def Fl.val : Fl → Value
  | .ret v => v
  | _ => .none
theorem enter {c : Cx} {n : Nat} (ok : c.Ok (n + 1)) {F : Fn} (FO : FnOk F) {M : Mem} {H : AH} {h : Heap} {k : Nat} (s : St c M H h) {vs ds : List Value} {X : Str → Prop} {HX : AH} {R : Result → Shared → Prop}
    (hb : ∀ s : Shared, (KK c.w.params).In s.heap → BindsTo s F.fd ⟨vs, []⟩ (F.ps.zip (vs ++ ds))) (hl : F.ps.length = (vs ++ ds).length)
    (body : ∀ L g he, (c.callee F L g he X HX).Ok n → ∀ h₁ k₁, St (c.callee F L g he X HX) ((vs ++ ds).map (fun v => some (er v)) ++ F.ls.map fun _ => none) H h₁ → (∀ M' h' news', News g L h' news' → (c.callee F L g he X HX).loc M' h' (ads news') → News c.h₀ c.L h' news' ∧ c.loc M h' (ads news')) →
      wpAny (model pw c.w) (c.A.deeper (F.envAt L)) (execs F.body (F.envAt L)) (fun fl s' => R (.ok (.ret (match fl with | .ret v => v | _ => .none))) s')
        (fun e s' => wpAny (model pw c.w) (c.A.deeper (F.envAt L)) (leaving (F.envAt L) e) (fun _ s'' => R (.error e) s'') (fun e' s'' => R (.error e') s'') s') (c.at h₁ k₁)) :
    codeAny (model pw c.w) c.A (.call (.ref F.addr) ⟨vs, []⟩) R (c.at h k) := by
  refine el2_3 (id s) fun news δ N nd A l => ?_
  refine Exists.elim (ok.fr _ _ _ l) fun m Fr0 => ?_
  have G := ok.ground
  have Gh : BaseOK c.w h := G.keeps Fr0.keep
  have K := Gh.1; refine el3_0 Gh.2 fun mean mg mb T => ?_; try clear Gh
  refine el3_0 (FO.look c.w.params) fun oc od osl lk => ?_
  have hkd : ∀ y ∈ F.ps.zip (vs ++ ds), F.sc.names.lookup y.1 = some .local ∨ F.sc.names.lookup y.1 = some .cell := fun y hy => by
    have := List.all_eq_true.mp FO.kinds y.1 (List.mem_append_left _ (List.of_mem_zip hy).1)
    unfold okVar at this
    simp only [Bool.and_eq_true, Bool.or_eq_true, beq_iff_eq] at this
    exact this.1
  refine codeAny_call_function (s := c.at h k) (by have := ok.room; lia) (K _ _ lk) rfl FO.co FO.gen FO.body (codeRec_of (h := h) K (FO.code _)) (hb _ K _ _ _ _ ?_)
  rw [FO.clo]
  refine wpAny_newFunctionEnv_cells FO.kind (fun y hy => (hkd y hy).imp id fun e => ⟨e, cellsFrom_some _ _ _ (.inl e)⟩) fun env' hE s' x => ?_
  have hE' : env' = F.envAt h.objs.size := hE
  subst hE'
  refine ⟨T.nolimit.keeps x.toInCall.keep, codeAny_func ?_⟩
  refine el2_1 x.done fun h₁ k₁ z92 _ => ?_; rcases z92 with rfl
  have hk₁ : ∀ b o, h.get? b = some o → h₁.get? b = some o := x.toInCall.keep
  have stg : ∀ b o, (hideAll h (ads news ++ c.fads)).get? b = some o → h.get? b = some o := fun b o e => of_hideAll _ e
  have fads : ∀ a ∈ c.fads, c.base.get? a = none ∧ c.h₀.get? a = none ∧ a ∉ ads news ∧ ∃ m, h.Ns a m := fun a ha => by
    refine el1_1 (List.mem_filterMap.mp ha) fun env henv hfr => ?_
    have zq := ok.ff _ _ _ l env henv; have _ := zq.1; refine el1_4 zq.2 fun a' e1 e2 e3 e4 e5 => ?_
    rw [hfr] at e1; cases e1; exact ⟨e2, e3, e4, e5⟩
  have nin : ∀ a, a ∈ ads news → c.h₀.get? a = none ∧ ∃ o, h.get? a = some o := fun a ha => by
    refine el1_1 (List.mem_map.mp ha) fun p hp z92 => ?_; rcases z92 with rfl
    exact ⟨(N p hp).2.2, _, (N p hp).1⟩
  have off : ∀ b o, c.h₀.get? b = some o → b ∉ ads news ++ c.fads := fun b o e q => by
    rcases List.mem_append.mp q with q | q
    · rw [(nin b q).1] at e; cases e
    · rw [(fads b q).2.1] at e; cases e
  have h0g : c.h₀.StaysIn (hideAll h (ads news ++ c.fads)) := fun b o e => hideAll_get _ (Fr0.keep b o e) (off b o e)
  have gz : (hideAll h (ads news ++ c.fads)).objs.size = h.objs.size := hideAll_size _ _
  have gnew : ∀ a, h.objs.size ≤ a → (hideAll h (ads news ++ c.fads)).get? a = none := fun a ha => Heap.get?_none_of_le (by rw [gz]; exact ha)
  have lt : ∀ a o, h.get? a = some o → a < h.objs.size := fun a o e => Heap.lt_size e
  have hns : h₁.Ns h.objs.size (bindL (F.envAt h.objs.size).kindOf (F.ps.zip (vs ++ ds)) fun _ => none) := x.toInCall.ns
  refine body h.objs.size (hideAll h (ads news ++ c.fads)) h (callee_ok ok FO l (G.keeps h0g) (fun b o e => h0g b o (ok.stays b o e)) (Nat.le_of_eq gz)) h₁ k₁ ?_ fun M' h' news' N' l' => ?_
  · refine ⟨news, δ, fun p hp => ⟨hk₁ _ _ (N p hp).1, Nat.ne_of_lt (lt _ _ (N p hp).1), hideAll_none _ (List.mem_append_left _ (List.mem_map_of_mem hp))⟩, nd, A,
      _, bindC (F.envAt h.objs.size).kindOf (F.ps.zip (vs ++ ds)) (fun _ => none), ⟨hns, fun b o e => hk₁ b o (stg b o e), Nat.le_of_eq gz⟩, ⟨fun q => ?_, fun a ha => hideAll_none _ (List.mem_append_left _ ha)⟩, fun y ca e => ?_, fun a ha => ?_, ?_⟩
    · have zq := nin _ q; have _ := zq.1; refine Exists.elim zq.2 fun o e => ?_; exact absurd (lt _ _ e) (Nat.lt_irrefl _)
    · have hc := x.cell y ca e
      have ha := x.above y ca (by
        have : (y, ca) ∈ cellsFrom (h.objs.size + 1) F.sc.names [] := by
          refine el2_0 (List.lookup_eq_some_iff.mp e) fun p1 p2 q => ?_
          rw [q.1]; simp
        exact this)
      refine ⟨hc, gnew ca (Nat.le_of_lt ha), ha, fun q => ?_⟩
      have zq := nin _ q; have _ := zq.1; refine Exists.elim zq.2 fun o e' => ?_
      exact absurd (lt _ _ e') (Nat.not_lt.mpr (Nat.le_of_lt ha))
    · refine el0_3 (fads a ha) fun _ _ e3 z93 => ?_; rcases z93 with ⟨m', e4⟩
      refine ⟨?_, hideAll_none _ (List.mem_append_right _ ha), e3, fun m'' e => ?_⟩
      · refine el3_1 e4 fun o _ _ e _ => ?_; exact lt _ _ e
      · refine el3_1 e fun o es ep e r => ?_; exact ⟨o, es, ep, hk₁ _ _ e, r⟩
    · rw [← memOf_zip F.ps F.ls (vs ++ ds) hl FO.nodup]
      refine List.map_congr_left fun y hy => congrArg (Option.map er) ?_
      unfold Fn.val
      rw [bindL_eq, bindC_eq]
      have hko : (F.envAt h.objs.size).kindOf y = F.sc.names.lookup y := rfl
      rw [hko]
      by_cases q : F.sc.names.lookup y = some .local
      · rw [if_pos q, if_pos q]; simp
      · rw [if_neg q, if_neg q]; simp
  · refine el2_4 l' fun m' cm' F' z93 _ ho _ => ?_; rcases z93 with ⟨_, hgN⟩
    have back : ∀ a ∈ ads news', a ∈ ads news ∨ h.get? a = none := fun a ha => by
      have ga := hgN a ha
      by_cases q : a ∈ ads news
      · exact .inl q
      · right
        cases z : h.get? a with
        | none => rfl
        | some o =>
          by_cases q' : a ∈ c.fads
          · exact absurd ha (ho a q').2.2.1
          · rw [hideAll_get _ z (fun r => (List.mem_append.mp r).elim q q')] at ga; cases ga
    refine ⟨fun p hp => ?_, ok.keep _ _ _ _ _ l ⟨fun b o e n1 n2 => F'.keep b o (hideAll_get _ e fun r => (List.mem_append.mp r).elim n1 n2), fun b hb m e => (ho b hb).2.2.2 m e⟩ back⟩
    have z := N' p hp
    refine ⟨z.1, fun q => ?_, ?_⟩
    · -- the caller's own locals are no part of the ledger
      rcases back p.1 (List.mem_map_of_mem hp) with r | r
      · refine el1_1 (List.mem_map.mp r) fun p' hp' e => ?_
        exact (N p' hp').2.1 (e.trans q)
      · refine el3_1 Fr0.ns fun o _ _ e _ => ?_
        rw [q, e] at r; cases r
    · cases w : c.h₀.get? p.1 with
      | none => rfl
      | some o => have := z.2.2; have w' := h0g _ _ w; exact absurd (this.symm.trans w') (by simp)
theorem set_map_nodup {F : Fn} (nd : F.vars.Nodup) {i : Nat} {x : Str} (hx : F.vars[i]? = some x) (f g : Str → Option Value) (v : Option Value) (h1 : g x = v) (h2 : ∀ y ∈ F.vars, y ≠ x → g y = f y) : (F.vars.map f).set i v = F.vars.map g := by
  apply List.ext_getElem?
  intro j
  rw [List.getElem?_set, List.getElem?_map, List.getElem?_map]
  by_cases e : i = j
  · subst e
    rw [if_pos rfl, List.length_map, if_pos (by obtain ⟨h, _⟩ := List.getElem?_eq_some_iff.mp hx; exact h), hx]
    simp [h1]
  · rw [if_neg e]
    cases q : F.vars[j]? with
    | none => rfl
    | some y =>
      have hy : y ≠ x := fun z => by
        subst z
        obtain ⟨hi, e1⟩ := List.getElem?_eq_some_iff.mp hx
        obtain ⟨hj, e2⟩ := List.getElem?_eq_some_iff.mp q
        exact e ((List.getElem_inj nd).mp (e1.trans e2.symm))
      simp [h2 y (List.mem_of_getElem? q) hy]
theorem cellsFrom_nd : ∀ (names : List (Str × NameKind)) (n : Nat) (acc : List (Str × Addr)), (∀ p ∈ acc, p.2 < n) → (acc.map (·.2)).Nodup → ((cellsFrom n names acc).map (·.2)).Nodup
  | [], _, _, _, h => h
  | (x, k) :: r, n, acc, h1, h2 => by
    unfold cellsFrom
    split
    · refine cellsFrom_nd r (n + 1) _ (fun p hp => ?_) (List.nodup_cons.mpr ⟨fun q => ?_, h2⟩)
      · rcases List.mem_cons.mp hp with rfl | hp
        · exact Nat.lt_succ_self _
        · exact Nat.lt_succ_of_lt (h1 p hp)
      · refine el1_1 (List.mem_map.mp q) fun p hp e => ?_
        exact absurd (h1 p hp) (by rw [e]; exact Nat.lt_irrefl _)
    · exact cellsFrom_nd r n acc h1 h2
theorem mem_of_lookup {l : List (Str × Addr)} {x : Str} {a : Addr} (h : l.lookup x = some a) : (x, a) ∈ l := by
  refine el2_0 (List.lookup_eq_some_iff.mp h) fun p1 p2 q => ?_
  rw [q.1]; simp
theorem pair_inj : ∀ {l : List (Str × Addr)} {x y : Str} {a : Addr}, (l.map (·.2)).Nodup → (x, a) ∈ l → (y, a) ∈ l → x = y
  | p :: l, x, y, a, nd, hx, hy => by
    have nd' := List.nodup_cons.mp (show (p.2 :: l.map (·.2)).Nodup from nd)
    rcases List.mem_cons.mp hx with e | hx
    · rcases List.mem_cons.mp hy with e' | hy
      · rw [← e] at e'; exact (Prod.mk.inj e').1.symm
      · exact absurd (List.mem_map.mpr ⟨_, hy, rfl⟩) (by rw [show a = p.2 by rw [← e]]; exact nd'.1)
    · rcases List.mem_cons.mp hy with e' | hy
      · exact absurd (List.mem_map.mpr ⟨_, hx, rfl⟩) (by rw [show a = p.2 by rw [← e']]; exact nd'.1)
      · exact pair_inj nd'.2 hx hy
structure InFn (c : Cx) (F : Fn) : Prop where
  ok : FnOk F
  env : c.env = F.envAt c.L
  vars : c.vars = F.vars
  loc : ∃ g he outer, c.h₀ = g ∧ c.loc = locF F c.L g he outer
  frs : ∃ outer, c.frs = c.env :: outer
  sub : ∃ g he outer, c.h₀ = g ∧ c.loc = locF F c.L g he outer ∧ ∀ a ∈ outer, a ∈ c.fads
noncomputable def ownAt (c : Cx) (F : Fn) (b : Addr) : Prop := b = c.L ∨ ∃ x, (cellsFrom (c.L + 1) F.sc.names []).lookup x = some b
theorem InFn.storeS {c : Cx} {F : Fn} (I : InFn c F) {i : Nat} {x : Str} {v : Value} {M : Mem} {h : Heap} {k : Nat} {news : Led} {Q : Unit → Shared → Prop} {E : Value → Shared → Prop} (hx : F.vars[i]? = some x) (N : News c.h₀ c.L h news) (l : c.loc M h (ads news))
    (q : ∀ h' k' b, Heap.SameBut b h h' → ownAt c F b → News c.h₀ c.L h' news → c.loc (M.set i (some (er v))) h' (ads news) → Q () (c.at h' k')) : wpAny (model pw c.w) c.A (storeName c.env x v) Q E (c.at h k) := by
  refine el3_1 I.loc fun g he outer hg hl => ?_
  have FO := I.ok
  rw [hl] at l
  refine el2_4 l fun m cm F' z93 hc ho hM => ?_; rcases z93 with ⟨l1, l2⟩
  have hk := List.all_eq_true.mp FO.kinds x (List.mem_of_getElem? hx)
  unfold okVar at hk
  simp only [Bool.and_eq_true, Bool.or_eq_true, beq_iff_eq, Bool.not_eq_true'] at hk
  rw [I.env]
  by_cases hloc : F.sc.names.lookup x = some .local
  · refine wpAny_storeName_local (env := F.envAt c.L) (s := c.at h k) hloc F'.ns (fun h' hn hs => q h' _ _ hs (.inl rfl) (N.set hs) ?_) (by show (F.sc.kind == .class || (F.sc.kind == .module && _)) = false; rw [FO.kind]; rfl)
    rw [hl]
    refine ⟨_, cm, F'.set hn hs, ⟨l1, l2⟩, fun y ca e => ?_, fun a ha => ?_, ?_⟩
    · refine el0_3 (hc y ca e) fun z90 c2 c3 c4 => ?_; rcases z90 with ⟨o, e1, e2⟩
      exact ⟨⟨o, (hs.2 ca (Ne.symm (Nat.ne_of_lt c3))).trans e1, e2⟩, c2, c3, c4⟩
    · refine el0_3 (ho a ha) fun o1 o2 o3 o4 => ?_
      exact ⟨o1, o2, o3, fun m' e => (o4 m' e).sameBut hs (Nat.ne_of_lt o1)⟩
    · rw [hM]
      refine set_map_nodup FO.nodup hx _ _ _ ?_ fun y _ hy => ?_
      · unfold Fn.val; rw [if_pos hloc]; simp
      · unfold Fn.val; simp only [if_neg hy]
  · have hcell := hk.1.resolve_left hloc
    refine Exists.elim (Option.isSome_iff_exists.mp (cellsFrom_some (x := x) F.sc.names (c.L + 1) [] (.inl hcell))) fun ca hca => ?_
    refine el0_3 (hc x ca hca) fun c1 c2 c3 c4 => ?_
    refine wpAny_storeName_cell (env := F.envAt c.L) (s := c.at h k) FO.kind hcell hca c1 fun h' hv hs => q h' _ _ hs (.inr ⟨x, hca⟩) (fun p hp => ⟨(hs.2 p.1 fun z => c4 (z ▸ List.mem_map_of_mem hp)).trans (N p hp).1, (N p hp).2⟩) ?_
    rw [hl]
    refine ⟨m, fun y => if y = x then some v else cm y, ⟨F'.ns.sameBut hs (Nat.ne_of_lt c3), fun b o e => (hs.2 b fun z => by rw [z, c2] at e; cases e).trans (F'.keep b o e), F'.above⟩, ⟨l1, l2⟩, fun y ca' e => ?_, fun a ha => ?_, ?_⟩
    · refine el0_3 (hc y ca' e) fun z90 d2 d3 d4 => ?_; rcases z90 with ⟨o, e1, e2⟩
      by_cases hy : y = x
      · subst hy; rw [hca] at e; cases e
        exact ⟨by simpa using hv, d2, d3, d4⟩
      · have hne : ca' ≠ ca := fun z => by
          subst z
          have n1 := List.lookup_eq_some_iff.mp e
          have nn : ((cellsFrom (c.L + 1) F.sc.names []).map (·.2)).Nodup := cellsFrom_nd _ _ _ (fun _ h => nomatch h) .nil
          exact hy (pair_inj nn (mem_of_lookup e) (mem_of_lookup hca))
        exact ⟨⟨o, (hs.2 ca' hne).trans e1, by simpa [hy] using e2⟩, d2, d3, d4⟩
    · refine el0_3 (ho a ha) fun o1 o2 o3 o4 => ?_
      exact ⟨o1, o2, o3, fun m' e => (o4 m' e).sameBut hs (Nat.ne_of_lt (Nat.lt_trans o1 c3))⟩
    · rw [hM]
      refine set_map_nodup FO.nodup hx _ _ _ ?_ fun y _ hy => ?_
      · unfold Fn.val; rw [if_neg hloc]; simp
      · unfold Fn.val; simp only [if_neg hy]
theorem InFn.store {c : Cx} {F : Fn} (I : InFn c F) {i : Nat} {x : Str} {v : Value} {M : Mem} {H : AH} {h : Heap} {k : Nat} {Q : Unit → Shared → Prop} {E : Value → Shared → Prop} (hx : F.vars[i]? = some x) (s : St c M H h)
    (q : ∀ h' k', St c (M.set i (some (er v))) H h' → Q () (c.at h' k')) : wpAny (model pw c.w) c.A (storeName c.env x v) Q E (c.at h k) :=
  let ⟨news, δ, N, nd, A, l⟩ := s; I.storeS hx N l fun h' k' _ _ _ N' l' => q h' k' ⟨news, δ, N', nd, A, l'⟩
theorem InFn.unbind {c : Cx} {F : Fn} (I : InFn c F) {i : Nat} {x : Str} {v : Value} {M : Mem} {H : AH} {h : Heap} {k : Nat} {A : Around} {Q : Unit → Shared → Prop} {E : Value → Shared → Prop} (hx : F.vars[i]? = some x) (hloc : F.sc.names.lookup x = some .local) (hM : M[i]? = some (some v)) (s : St c M H h)
    (q : ∀ h' k' u, St c (M.set i u) H h' → Q () (c.at h' k')) : wpAny (model pw c.w) A (unbindName c.env x) Q E (c.at h k) := by
  refine el2_3 s fun news δ N nd A' l => ?_
  refine el3_1 I.loc fun g he outer hg hl => ?_
  have FO := I.ok
  rw [hl] at l
  refine el2_4 l fun m cm F' z93 hc ho hMe => ?_; rcases z93 with ⟨l1, l2⟩
  have hv' : M[i]? = some ((F.val m cm x).map er) := by rw [hMe, List.getElem?_map, hx]; rfl
  rw [hM] at hv'
  refine el1_1 (Option.map_eq_some_iff.mp (Option.some.inj hv').symm) fun v' hv1 hv2 => ?_
  unfold Fn.val at hv1
  rw [if_pos hloc] at hv1
  rw [I.env]
  refine wpAny_unbindName_local (env := F.envAt c.L) (s := c.at h k) hloc F'.ns hv1 (by show (F.sc.kind == .class || (F.sc.kind == .module && _)) = false; rw [FO.kind]; rfl) fun h' u hn hs => q h' _ (u.map er) ⟨news, δ, N.set hs, nd, A', ?_⟩
  rw [hl]
  refine ⟨_, cm, F'.set hn hs, ⟨l1, l2⟩, fun y ca e => ?_, fun a ha => ?_, ?_⟩
  · refine el0_3 (hc y ca e) fun z90 c2 c3 c4 => ?_; rcases z90 with ⟨o, e1, e2⟩
    exact ⟨⟨o, (hs.2 ca (Ne.symm (Nat.ne_of_lt c3))).trans e1, e2⟩, c2, c3, c4⟩
  · refine el0_3 (ho a ha) fun o1 o2 o3 o4 => ?_
    exact ⟨o1, o2, o3, fun m' e => (o4 m' e).sameBut hs (Nat.ne_of_lt o1)⟩
  · rw [hMe]
    refine set_map_nodup FO.nodup hx _ _ _ ?_ fun y _ hy => ?_
    · unfold Fn.val; rw [if_pos hloc]; simp
    · unfold Fn.val; simp only [if_neg hy]
theorem dict_mapFields (o : Obj) (f) : (o.mapFields f).dict = o.dict := by obtain ⟨a, b, d, e⟩ := o; cases d <;> rfl
theorem get_upd_of {h : Heap} {a b : Addr} {o : Obj} (f : Obj → Obj) (e : h.get? b = some o) (n : b ≠ a) : (h.update a f).get? b = some o := (Heap.get?_update_other h f (Ne.symm n)).trans e
theorem Ns_of_get' {h h' : Heap} {a : Addr} {m : Str → Option Value} (x : h.Ns a m) (e : h'.get? a = h.get? a) : h'.Ns a m := let ⟨o, es, ep, a, r⟩ := x; ⟨o, es, ep, e.trans a, r⟩
noncomputable def Gone (fr : List Addr) (e : Addr) (oe : Obj) (T₀ : Option Addr) (h h' : Heap) : Prop :=
  (∃ oe' vs' T oT ts, h'.get? e = some oe' ∧ oe'.cls = oe.cls ∧ oe'.dict = oe.dict ∧ oe'.data = .fields vs' ∧ vs'[1]? = some (.ref T) ∧ T ≠ e ∧ h'.get? T = some oT ∧ oT.data = .fields ts ∧ ts[3]? = some .none ∧ h.get? T = none) ∧
  (∀ b o, h.get? b = some o → b ≠ e → some b ≠ T₀ → b ∉ fr → h'.get? b = some o) ∧ (∀ b ∈ fr, ∀ m, h.Ns b m → h'.Ns b m) ∧ ∀ T oT, some T = T₀ → h.get? T = some oT → ∃ oT', h'.get? T = some oT'
theorem funFrames_of {base h : Heap} : ∀ {l : List Env}, (∀ env ∈ l, env.scope.kind ≠ .module ∧ ∃ a, env.frame = some a ∧ base.get? a = none ∧ ∃ m, h.Ns a m) → h.FunFrames base l
  | [], _ => trivial
  | env :: r, H => by
    have zq := H env List.mem_cons_self; have k := zq.1; refine el1_2 zq.2 fun a e1 e2 zq => ?_; refine Exists.elim zq fun m e3 => ?_
    exact Heap.FunFrames.cons k e1 e3 e2 (funFrames_of fun x hx => H x (List.mem_cons_of_mem _ hx))
section
variable {M : Model} {A : Around} {E : Value → Shared → Prop} {s : Shared}
theorem new_entry {env : Env} {outer : List Env} {L e : Addr} {oe : Obj} {vs : Array Value} {head : Value} {hadNext : Bool} {Q : Unit → Shared → Prop}
    (hfr : A.frames = some (env :: outer)) (hl : ∀ x ∈ env :: outer, x.scope.kind ≠ .module ∧ ∃ a, x.frame = some a ∧ ∃ m, s.heap.Ns a m) (hf : env.frame = some L)
    (he : s.heap.get? e = some oe) (hd : oe.data = .fields vs) (hsz : 1 < vs.size)
    (h : ∀ h', Gone ((env :: outer).filterMap (·.frame)) e oe none s.heap h' → Q () { s with heap := h' }) :
    wpAny M A (do let a ← frameOf env; let pl ← entryPlaceOf L hadNext; let b ← EntryCells.newEntry head a .none (rawInt L) .none pl; setField (.ref e) 1 b) (fun _ s' => wpAny M A (setFlight (.ref e) none) Q E s') E s := by
  have hFF : s.heap.FunFrames (default : Heap) (env :: outer) := funFrames_of fun x hx => let ⟨a, b, c, d⟩ := hl x hx; ⟨a, b, c, Heap.get?_none_of_le (Nat.zero_le _), d⟩
  have hene : e ∉ (env :: outer).filterMap (·.frame) := fun hm => by
    have zq := hFF.mem hm; have _ := zq.1; refine el1_1 zq.2 fun o ho hnf => ?_
    rw [he] at ho; injection ho with ho; subst ho; exact hnf vs hd
  refine wpAny_bind (wpAny_frameOf_fun hfr hFF hf fun h₁ hs₁ => ?_)
  refine wpAny_bind (wpAny_entryPlaceOf fun pl hpl => ?_)
  unfold EntryCells.newEntry newFields
  refine wpAny_bind (wpAny_newObj_type ?_ (hpl.sizeOk5 _ _ _ _ _))
  have he₁ : h₁.get? e = some oe := (hs₁.2.1 e hene).trans he
  generalize hR : ({ cls := .type "traceback", dict := none, data := .fields ([head, .ref L, .none, rawInt L, .none] ++ (if pl.isEmpty then List.replicate 6 Value.none else pl)).toArray } : Obj) = R
  have he₂ := Heap.get?_push_of_some (h := h₁) R he₁
  refine wpAny_setField he₂ hd hsz ?_
  have hTe : h₁.objs.size ≠ e := Nat.ne_of_gt (Heap.lt_size he₁)
  have hd₃ := Obj.data_mapFields hd (·.setIfInBounds 1 (Value.ref h₁.objs.size))
  have he₃ := Heap.get?_update_self (Obj.mapFields (·.setIfInBounds 1 (Value.ref h₁.objs.size))) he₂ (Obj.isFreed_of_fields hd₃)
  have hRf : R.isFreed = false := by subst hR; rfl
  have hT₃ := (Heap.get?_update_other (h₁.push R) (Obj.mapFields (·.setIfInBounds 1 (Value.ref h₁.objs.size))) (Ne.symm hTe)).trans (Heap.get?_push_size h₁ hRf)
  have hRd : R.data = .fields ([head, .ref L, .none, rawInt L, .none] ++ (if pl.isEmpty then List.replicate 6 Value.none else pl)).toArray := by subst hR; rfl
  unfold setFlight
  refine wpAny_bind (wpAny_field he₃ hd₃ (x := .ref h₁.objs.size) (by simp [hsz]) ?_)
  rw [if_pos (show (Value.ref h₁.objs.size != Value.none) = true from by simp)]
  refine wpAny_setField hT₃ hRd (by simp only [List.size_toArray, List.length_append, List.length_cons, List.length_nil] <;> lia) (h _ ?_)
  have keep : ∀ b o, b ≠ e → h₁.get? b = some o → (((h₁.push R).update e (Obj.mapFields (·.setIfInBounds 1 (Value.ref h₁.objs.size)))).update h₁.objs.size
        (Obj.mapFields (·.setIfInBounds 3 ((none : Option Addr).elim Value.none fun f => rawInt f)))).get? b = some o := fun b o hbe hb => by
    have hbT : b ≠ h₁.objs.size := Nat.ne_of_lt (Heap.lt_size hb)
    exact get_upd_of _ (get_upd_of _ (Heap.get?_push_of_some _ hb) hbe) hbT
  have hdT := Obj.data_mapFields hRd (·.setIfInBounds 3 ((none : Option Addr).elim Value.none fun f => rawInt f))
  refine ⟨⟨_, _, h₁.objs.size, _, _, get_upd_of _ he₃ (Ne.symm hTe), Obj.cls_mapFields _ _, dict_mapFields _ _, hd₃, by simp [hsz], hTe, Heap.get?_update_self _ hT₃ (Obj.isFreed_of_fields hdT), hdT, ?_, ?_⟩, ?_, ?_, ?_⟩
  · rcases hpl with rfl | ⟨_, _, _, _, _, _, _, rfl⟩ <;> simp
  · cases q : s.heap.get? h₁.objs.size with
    | none => rfl
    | some o => have := Heap.lt_size q; rw [hs₁.1] at this; exact absurd this (Nat.lt_irrefl _)
  · intro b o hb hbe _ hbf
    exact keep b o hbe ((hs₁.2.1 b hbf).trans hb)
  · intro b hb m hm
    refine el3_2 hm fun o es ep e1 e2 r => ?_
    refine Exists.elim (hs₁.2.2 b o e1) fun sl hs => ?_
    exact ⟨_, es, ep, keep b _ (fun q => hene (q ▸ hb)) hs, e2, r⟩
  · intro T oT q; cases q
theorem leave_any {env : Env} {outer : List Env} {L e : Addr} {oe : Obj} {vs : Array Value} {T₀ : Option Addr} {Q : Unit → Shared → Prop}
    (hfr : A.frames = some (env :: outer)) (hl : ∀ x ∈ env :: outer, x.scope.kind ≠ .module ∧ ∃ a, x.frame = some a ∧ ∃ m, s.heap.Ns a m) (hf : env.frame = some L)
    (he : s.heap.get? e = some oe) (hd : oe.data = .fields vs)
    (ht : (vs[1]? = some .none ∧ T₀ = none) ∨ ∃ T oT ts, vs[1]? = some (.ref T) ∧ T₀ = some T ∧ T ≠ e ∧ s.heap.get? T = some oT ∧ oT.data = .fields ts ∧ ts[3]? = some .none)
    (h : ∀ h', Gone ((env :: outer).filterMap (·.frame)) e oe T₀ s.heap h' → Q () { s with heap := h' }) : wpAny M A (noteFrame (.ref e) env) (fun _ s' => wpAny M A (setFlight (.ref e) none) Q E s') E s := by
  unfold noteFrame
  simp only [hf]
  rcases ht with ⟨h1, rfl⟩ | ⟨T, oT, ts, h1, rfl, hTe, hT, hdT, h3⟩
  · refine wpAny_bind (wpAny_field he hd h1 ?_)
    rw [if_neg (by decide)]
    exact new_entry hfr hl hf he hd (Array.getElem?_eq_some_iff.mp h1).1 h
  · refine wpAny_bind (wpAny_field he hd h1 ?_)
    rw [if_pos (show (Value.ref T != Value.none) = true from by simp)]
    refine wpAny_bind (wpAny_field hT hdT h3 ?_)
    rw [if_neg (show ¬ ((Value.none == rawInt L) = true) from by simp [rawInt])]
    refine wpAny_bind (wpAny_setField hT hdT (Array.getElem?_eq_some_iff.mp h3).1 ?_)
    have other : ∀ b, b ≠ T → (s.heap.update T (Obj.mapFields (·.setIfInBounds 3 Value.none))).get? b = s.heap.get? b := fun b hb => Heap.get?_update_other _ _ (Ne.symm hb)
    have hTf := Heap.get?_update_self (Obj.mapFields (·.setIfInBounds 3 Value.none)) hT (Obj.isFreed_of_fields (Obj.data_mapFields hdT _))
    have nsT : ∀ b m, s.heap.Ns b m → b ≠ T := fun b m ⟨o, _, _, e1, e2, _⟩ q => by subst q; rw [hT] at e1; cases e1; rw [hdT] at e2; cases e2
    refine new_entry hfr (fun x hx => ?_) hf ((other e (Ne.symm hTe)).trans he) hd (Array.getElem?_eq_some_iff.mp h1).1 fun h' ⟨g1, g2, g3, _⟩ => h h' ⟨?_, ?_, ?_, ?_⟩
    · have zq := hl x hx; have a := zq.1; refine el1_1 zq.2 fun b c zq => ?_; refine Exists.elim zq fun m d => ?_
      exact ⟨a, b, c, m, Ns_of_get' d (other b (nsT b m d))⟩
    · refine el5_9 g1 fun oe' vs' T' oT' ts' a1 a2 a3 a4 a5 a6 a7 a8 a9 a10 => ?_
      refine ⟨oe', vs', T', oT', ts', a1, a2, a3, a4, a5, a6, a7, a8, a9, ?_⟩
      by_cases q : T' = T
      · subst q; rw [hTf] at a10; cases a10
      · rw [← other T' q]; exact a10
    · intro b o hb hbe hbT hbf
      exact g2 b o ((other b fun q => hbT (q ▸ rfl)).trans hb) hbe (by simp) hbf
    · intro b hb m hm
      exact g3 b hb m (Ns_of_get' hm (other b (nsT b m hm)))
    · intro T' oT'' q hq
      cases q
      refine ⟨_, g2 _ _ hTf hTe (by simp) fun hm => ?_⟩
      refine el1_1 (List.mem_filterMap.mp hm) fun x hx hxf => ?_
      have zq := hl x hx; have _ := zq.1; refine el1_1 zq.2 fun b c zq => ?_; refine Exists.elim zq fun m d => ?_
      rw [hxf] at c; cases c
      exact nsT _ m d rfl
end
theorem Abs.touch {w : World} {news : Led} {δ : Addr → Addr} {H : AH} {b : Addr} {ob : Obj} (A : Abs w news δ H) (o : OffH H δ b) : Abs w (setL news b ob) δ H :=
  ⟨fun a x h => (A.rep a x h).to (fun _ m => setL_ne m fun q => by rw [q, o.1] at h; cases h) fun ⟨C, vs, e⟩ _ m => setL_ne m (o.2 a C vs (e ▸ h)), A.sep, A.inj⟩
theorem Abs.more {w : World} {news : Led} {δ : Addr → Addr} {H : AH} {p : Addr × Obj} (A : Abs w news δ H) : Abs w (p :: news) δ H :=
  ⟨fun a x h => (A.rep a x h).grow fun _ m => List.mem_cons_of_mem _ m, A.sep, A.inj⟩
theorem Abs.off {w : World} {news : Led} {δ : Addr → Addr} {H : AH} {b : Addr} (A : Abs w news δ H) (hb : b ∉ ads news) : OffH H δ b := by
  refine ⟨?_, fun a C vs h q => ?_⟩
  · cases q : H b with
    | none => rfl
    | some o => refine Exists.elim ((A.rep b o q).mem) fun x hx => ?_; exact absurd (List.mem_map_of_mem hx) hb
  · have zq := A.rep a _ h; have _ := zq.1; refine el2_1 zq.2 fun es n h2 _ => ?_
    exact hb (q ▸ List.mem_map_of_mem h2)
theorem fads_off {c : Cx} {n : Nat} (ok : c.Ok n) {M : Mem} {h : Heap} {N : List Addr} (l : c.loc M h N) {b : Addr} (hb : b ∈ c.fads) : b ∉ N ∧ ∃ m, h.Ns b m := by
  refine el1_1 (List.mem_filterMap.mp hb) fun env henv hfr => ?_
  have zq := ok.ff _ _ _ l env henv; have _ := zq.1; refine el1_4 zq.2 fun a' e1 _ _ e2 e3 => ?_
  rw [hfr] at e1; cases e1; exact ⟨e2, e3⟩
theorem ads_set (news : Led) (d : Addr) (o : Obj) : ads (setL news d o) = ads news := setL_ads news d o
theorem note_fly {c : Cx} {n : Nat} (ok : c.Ok n) {outer : List Env} (hfs : c.frs = c.env :: outer) (hf : c.env.frame = some c.L) {M : Mem} {H : AH} {sym : Str} {e : Addr} {h : Heap} {k : Nat} (f : Fly c M H sym e h)
    {Q : Unit → Shared → Prop} {E : Value → Shared → Prop} (q : ∀ h', Fly c M H sym e h' → Q () (c.at h' k)) : wpAny (model pw c.w) c.A (noteFrame (.ref e) c.env) (fun _ s' => wpAny (model pw c.w) c.A (setFlight (.ref e) none) Q E s') E (c.at h k) := by
  refine el2_4 f fun news δ N nd A l z96 => ?_; rcases z96 with ⟨oe, vs, dx, od, t, e1, e2, e3, e4, e5, e6, ⟨e6o, es, ep, e6d⟩, e7, e8⟩
  have fo := fun b => fads_off ok l (b := b)
  have hfr : c.A.frames = some (c.env :: outer) := by rw [ok.frames, hfs]
  have hl : ∀ x ∈ c.env :: outer, x.scope.kind ≠ .module ∧ ∃ a, x.frame = some a ∧ ∃ m, h.Ns a m := fun x hx => by
    have zq := ok.ff _ _ _ l x (by rw [hfs]; exact hx); have a := zq.1; refine el1_4 zq.2 fun b c' _ _ _ d => ?_
    exact ⟨a, b, c', d⟩
  have hfd : (c.env :: outer).filterMap (·.frame) = c.fads := by unfold Cx.fads; rw [hfs]
  have ne_of : ∀ {a b : Addr} {x y : Obj}, (a, x) ∈ news → (b, y) ∈ news → x ≠ y → a ≠ b := fun m1 m2 n' z => by subst z; exact n' (led_one nd m1 m2)
  have dxe : dx ≠ e := ne_of e6 e1 fun z => by rw [← z, e6d] at e5; cases e5
  have key : ∀ (T₀ : Option Addr), (∀ T, some T = T₀ → T ≠ e ∧ T ≠ dx ∧ T ∈ ads news ∧ OffH H δ T) → ∀ h', Gone c.fads e oe T₀ h h' → Fly c M H sym e h' := by
    intro T₀ hT h' gone
    refine el5_9 gone.1 fun oe' vs' T' oT' ts' a1 a2 a3 a4 a5 a6 a7 a8 a9 a10 => ?_
    refine el0_2 gone.2 fun g2 g3 g4 => ?_
    have T'new : T' ∉ ads news := fun hm => by
      refine el1_1 (List.mem_map.mp hm) fun p hp z92 => ?_; rcases z92 with rfl
      have := (N p hp).1; rw [a10] at this; cases this
    have offT' := A.off T'new
    have base : ∀ news2, ads news2 = ads news → Abs c.w news2 δ H → (∀ p ∈ news2, h'.get? p.1 = some p.2) → (e, oe') ∈ news2 → (dx, od) ∈ news2 → Fly c M H sym e h' := fun news2 en A2 N2 m1 m2 => by
      refine ⟨(T', oT') :: news2, δ, fun p hp => ?_, List.nodup_cons.mpr ⟨by show T' ∉ ads news2; rw [en]; exact T'new, by show (ads news2).Nodup; rw [en]; exact nd⟩, A2.more, ?_, oe', vs', dx, od, t, List.mem_cons_of_mem _ m1, e2, a2.trans e3, a3.trans e4, a4, List.mem_cons_of_mem _ m2, ⟨e6o, es, ep, e6d⟩, e7, .inr ⟨T', oT', ts', a5, a6, List.mem_cons_self, offT', a8, a9⟩⟩
      · rcases List.mem_cons.mp hp with rfl | hp
        · refine ⟨a7, fun z => ?_, ?_⟩
          · have zq := fo c.L ok.own; have _ := zq.1; refine el4_1 zq.2 fun m o _ _ x _ => ?_
            have z : T' = c.L := z
            rw [← z, a10] at x; cases x
          · refine Exists.elim (ok.fr _ _ _ l) fun m F => ?_
            cases q : c.h₀.get? T' with
            | none => rfl
            | some o => have := F.keep _ _ q; rw [a10] at this; cases this
        · refine ⟨N2 p hp, ?_⟩
          have : p.1 ∈ ads news := by rw [← en]; exact List.mem_map_of_mem hp
          refine el1_1 (List.mem_map.mp this) fun p' hp' e' => ?_
          have := (N p' hp').2
          rw [e'] at this; exact this
      · refine ok.keep _ _ _ _ _ l ⟨fun b o hb h1 h2 => g2 b o hb (fun z => h1 (z ▸ List.mem_map_of_mem e1)) (fun z => h1 (hT b z).2.2.1) h2, g3⟩ fun a ha => ?_
        rcases List.mem_cons.mp (show a ∈ T' :: ads news2 from ha) with rfl | ha
        · exact .inr a10
        · rw [en] at ha; exact .inl ha
    have N1 : ∀ p ∈ setL news e oe', (∀ T, some T = T₀ → p.1 ≠ T) → h'.get? p.1 = some p.2 := fun p hp hn => by
      rcases mem_setL hp with rfl | ⟨hp, hne⟩
      · exact a1
      · exact g2 _ _ (N p hp).1 hne (fun z => hn _ z rfl) fun hm => (fo _ hm).1 (List.mem_map_of_mem hp)
    cases T₀ with
    | none => exact base (setL news e oe') (setL_ads _ _ _) (A.touch e2) (fun p hp => N1 p hp fun T z => by cases z) (setL_at e1) (setL_ne e6 dxe)
    | some T =>
      refine el0_3 (hT T rfl) fun t1 t2 t3 t4 => ?_
      refine el1_1 (List.mem_map.mp t3) fun p hp z92 => ?_; rcases z92 with rfl
      refine Exists.elim (g4 p.1 p.2 rfl (N p hp).1) fun oT'' hT'' => ?_
      refine base (setL (setL news e oe') p.1 oT'') (by rw [setL_ads, setL_ads]) ((A.touch e2).touch t4) (fun p' hp' => ?_) (setL_ne (setL_at e1) (Ne.symm t1)) (setL_ne (setL_ne e6 dxe) (Ne.symm t2))
      rcases mem_setL hp' with rfl | ⟨hp', hne⟩
      · exact hT''
      · exact N1 p' hp' fun T z => by cases z; exact hne
  rcases e8 with h1 | ⟨T, oT, ts, f1, f2, f3, f4, f5, f6⟩
  · exact leave_any (T₀ := none) hfr hl hf (N _ e1).1 e5 (.inl ⟨h1, rfl⟩) fun h' g => q h' (key none (fun T z => by cases z) h' (hfd ▸ g))
  · exact leave_any (T₀ := some T) hfr hl hf (N _ e1).1 e5 (.inr ⟨T, oT, ts, f1, rfl, f2, (N _ f3).1, f5, f6⟩) fun h' g => q h' (key (some T) (fun T' z => by
      cases z
      exact ⟨f2, Ne.symm (ne_of e6 f3 fun z => by rw [← z, e6d] at f5; cases f5), List.mem_map_of_mem f3, f4⟩) h' (hfd ▸ g))
theorem leave_fly {c : Cx} {n : Nat} (ok : c.Ok n) {outer : List Env} (hfs : c.frs = c.env :: outer) (hf : c.env.frame = some c.L) {M : Mem} {H : AH} {sym : Str} {e : Addr} {h : Heap} {k : Nat} (f : Fly c M H sym e h)
    {Q : Unit → Shared → Prop} {E : Value → Shared → Prop} (q : ∀ h', Fly c M H sym e h' → Q () (c.at h' k)) : wpAny (model pw c.w) c.A (leaving c.env (.ref e)) Q E (c.at h k) := wpAny_bind (note_fly ok hfs hf f q)
noncomputable def FnBind (F : Fn) (m : Nat) (ds : List Value) : Prop := F.ps.length = m + ds.length ∧ ∀ (w : World) (s : Shared) (vs : List Value), vs.length = m → (KK w.params).In s.heap → BindsTo s F.fd ⟨vs, []⟩ (F.ps.zip (vs ++ ds))
theorem FnSpec.introX {F : Fn} (FO : FnOk F) {n m : Nat} {ds args : List Value} {H : AH} {R : Value → AH → Prop} {X : Str → Prop} (hb : FnBind F m ds) (hm : args.length = m)
    (body : ∀ c, c.Ok n → InFn c F → c.X = X → c.HX = H → Ex c (args.map some ++ ds.map (fun v => some (er v)) ++ F.ls.map fun _ => none) H F.body fun fl _ H' => R fl.val H') : FnSpec F.addr (n + 1) args H R X := by
  intro c ok M h k s vs hv Q q qe
  subst hv
  rw [List.length_map] at hm
  refine enter (X := X) (HX := H) ok FO s (hb.2 c.w · vs hm) (by rw [List.length_append, hm]; exact hb.1) fun L g he ok' h₁ k₁ s₁ back => ?_
  have e : (List.map some (List.map er vs) ++ List.map (fun v => some (er v)) ds ++ List.map (fun _ => none) F.ls : Mem) = ((vs ++ ds).map fun v => some (er v)) ++ F.ls.map fun _ => none := by
    rw [List.map_append, List.map_map]; rfl
  have b := body (c.callee F L g he X H) ok' ⟨FO, rfl, rfl, ⟨g, he, c.fads, rfl, rfl⟩, ⟨c.frs, rfl⟩, ⟨g, he, c.fads, rfl, rfl, fun a ha => by rw [callee_fads]; exact List.mem_cons_of_mem _ ha⟩⟩ rfl rfl
  rw [e] at b
  refine b h₁ k₁ s₁ _ _ (fun fl h' k' M' H' r s' => ?_) fun e sym M' h' k' hx f => leave_fly ok' (outer := c.frs) rfl rfl f fun h'' f' => ?_
  · have r' : R (erF fl).val H' := r
    refine el2_3 s' fun news' δ' N' nd' A' l' => ?_
    have zq := back _ _ _ N' l'; have b1 := zq.1; have b2 := zq.2
    cases fl <;> exact q _ _ _ _ r' ⟨news', δ', b1, nd', A', b2⟩
  · refine el2_4 f' fun news' δ' N' nd' A' l' r => ?_
    have zq := back _ _ _ N' l'; have b1 := zq.1; have b2 := zq.2
    exact qe e sym _ _ hx ⟨news', δ', b1, nd', A', b2, r⟩
noncomputable abbrev NoX : Str → Prop := fun _ => False
theorem FnSpec.intro {F : Fn} (FO : FnOk F) {n m : Nat} {ds args : List Value} {H : AH} {R : Value → AH → Prop} (hb : FnBind F m ds) (hm : args.length = m)
    (body : ∀ c, c.Ok n → InFn c F → Ex c (args.map some ++ ds.map (fun v => some (er v)) ++ F.ls.map fun _ => none) H F.body fun fl _ H' => R fl.val H') : FnSpec F.addr (n + 1) args H R NoX :=
  FnSpec.introX FO hb hm fun c ok I _ _ => body c ok I
noncomputable def Cx.withA (c : Cx) (A : Around) : Cx := { c with A := A }
theorem withA_ok {c : Cx} {n m : Nat} (ok : c.Ok n) {A : Around} (r : A.depth + 4 * m + 8 < recursionLimit) (u : A.units + 20 * m + 60 < cLine) (hh : A.handled = none) (hf : A.frames = c.A.frames) : (c.withA A).Ok m :=
  ⟨ok.ground, r, u, hh, hf.trans ok.frames, ok.stays, ok.fr, ok.keep, ok.ff, ok.name, ok.own, ok.kind, ok.globals, ok.blt⟩
section
variable {c : Cx} {M : Mem} {H : AH} {n : Nat} {rest : List Stmt} {P : Fl → Mem → AH → Prop} {F : Fn}
theorem Ex.nil (h : P .next M H) : Ex c M H [] P := fun _ _ s _ _ q _ => wpAny_execs_nil (q .next _ _ _ _ h s)
theorem Ex.cons {st : Stmt} (h : Ex1 c M H st fun fl M' H' => match fl with | .next => Ex c M' H' rest P | f => P f M' H') : Ex c M H (st :: rest) P :=
  fun hp k s Q E q e => wpAny_execs_cons (h hp k s _ _ (fun f h' k' M' H' p s' => by
    cases f with
    | next => exact p h' k' s' Q E q e
    | brk => exact q _ _ _ _ _ p s'
    | cont => exact q _ _ _ _ _ p s'
    | ret v => exact q _ _ _ _ _ p s') e)
theorem Ex.less {H' : AH} (h : Ex c M H' rest P) (k : Sub H' H) : Ex c M H rest P := W.less h k
theorem Ex.mono {P' : Fl → Mem → AH → Prop} (h : Ex c M H rest P) (k : ∀ f M' H', P f M' H' → P' f M' H') : Ex c M H rest P' := W.mono h fun _ _ _ => k _ _ _
theorem Ex.let {x : Str} {e : Expr} {q pos : Pos} (I : InFn c F) (i : Nat) (hx : F.vars[i]? = some x) (h : Ev c M H e fun v H' => Ex c (M.set i (some v)) H' rest P)
    (hs : swapsWith e (some (.Name x q)) pos.line c.env = pure false := by rfl) : Ex c M H (.Assign [.Name x q] e pos :: rest) P :=
  Ex.cons fun hp k s Q E q' e' => wpAny_Assign_Name (h hp k s _ _ (fun v h' k' M' H' p s' => by
    have zq := p; rcases zq.1 with rfl; have p := zq.2
    exact I.store hx s' fun h'' k'' s'' => q' .next _ _ _ _ p s'') e') hs
theorem Ex.ret {e : Expr} {pos : Pos} (h : Ev c M H e fun v H' => P (.ret v) M H') : Ex c M H (.Return (some e) pos :: rest) P :=
  Ex.cons fun hp k s Q E q' e' => wpAny_Return_some (h hp k s _ _ (fun v h' k' M' H' p s' => by have zq := p; rcases zq.1 with rfl; have p := zq.2; exact q' (.ret v) _ _ _ _ p s') e')
theorem Ex.retN {pos : Pos} (h : P (.ret .none) M H) : Ex c M H (.Return none pos :: rest) P :=
  Ex.cons fun hp k s Q E q' e' => wpAny_Return_none (q' (.ret .none) _ _ _ _ h s)
theorem Ex.expr {e : Expr} {pos : Pos} (h : Ev c M H e fun _ H' => Ex c M H' rest P) (hs : swapsWith e none pos.line c.env = pure false := by rfl) (hi : interactive c.env = false := by rfl) : Ex c M H (.Expr e pos :: rest) P :=
  Ex.cons fun hp k s Q E q' e' => wpAny_Expr_any (h hp k s _ _ (fun v h' k' M' H' p s' => by have zq := p; rcases zq.1 with rfl; have p := zq.2; exact q' .next _ _ _ _ p s') e') hi hs
theorem Ex.ite {t : Expr} {b1 b2 : List Stmt} {pos : Pos} {b : Bool} (ht : Pb c M H t b) (h1 : b = true → Ex c M H b1 fun fl M' H' => match fl with | .next => Ex c M' H' rest P | f => P f M' H')
    (h2 : b = false → Ex c M H b2 fun fl M' H' => match fl with | .next => Ex c M' H' rest P | f => P f M' H') : Ex c M H (.If t b1 b2 pos :: rest) P :=
  Ex.cons fun hp k s Q E q' e' => wpAny_If (ht hp k s _ _ fun h' k' s' => by
    cases b with
    | true => exact h1 rfl h' k' s' Q E (fun f h'' k'' M' H' p s'' => q' f _ _ _ _ (by cases f <;> exact p) s'') e'
    | false => exact h2 rfl h' k' s' Q E (fun f h'' k'' M' H' p s'' => q' f _ _ _ _ (by cases f <;> exact p) s'') e')
theorem Ex.pass {pos : Pos} (h : Ex c M H rest P) : Ex c M H (.Pass pos :: rest) P :=
  Ex.cons fun hp k s Q E q' e' => wpAny_Pass (q' .next _ _ _ _ h s)
end
noncomputable def Gl (x : Str) (v : Value) : Prop := ∀ P, nsIn (KK P) mainGlobals x = some (some v)
noncomputable def GlB (x : Str) (v : Value) : Prop := (∀ P, nsIn (KK P) mainGlobals x = some none) ∧ bootBuiltins x = some v ∧ x ≠ "__name__"
noncomputable def kindIs (env : Env) (x : Str) (k : NameKind) : Prop := env.kindOf x = some k
theorem Ns_of_get {h h' : Heap} {a : Addr} {m : Str → Option Value} (x : h.Ns a m) (e : ∀ o, h.get? a = some o → h'.get? a = some o) : h'.Ns a m := let ⟨o, es, ep, a, r⟩ := x; ⟨o, es, ep, e o a, r⟩
section
variable {c : Cx} {M : Mem} {H : AH} {n : Nat}
theorem Cx.Ok.at (ok : c.Ok n) {M : Mem} {H : AH} {h : Heap} (s : St c M H h) : ∃ m, Fr c.h₀ c.L h m := let ⟨_, _, _, _, _, l⟩ := s; ok.fr _ _ _ l
theorem Cx.Ok.K (ok : c.Ok n) {M : Mem} {H : AH} {h : Heap} (s : St c M H h) : (KK c.w.params).In h := let ⟨_, F⟩ := ok.at s; ok.ground.1.keeps F.keep
theorem Pe.glob (ok : c.Ok n) {x : Str} {v : Value} {pos} (g : Gl x v) (hx : kindIs c.env x .globalImplicit) (hd : (x == ("__debug__" : Str)) = false) : Pe c M H (.Name x pos) (er v) :=
  fun h k s Q E q => by
    refine Exists.elim (ok.at s) fun m F => ?_
    have K := ok.ground.1; refine el3_0 ok.ground.2 fun mean mg mb T => ?_
    exact nameG_K (s := c.at h k) F K (topRead_of T) (g _) (q _ _ _ rfl s) ok.globals ok.kind hx hd
theorem Pe.blt (ok : c.Ok n) {x : Str} {v : Value} {pos} (g : GlB x v) (hx : kindIs c.env x .globalImplicit) (hd : (x == ("__debug__" : Str)) = false) : Pe c M H (.Name x pos) (er v) :=
  fun h k s Q E q => by
    refine Exists.elim (ok.at s) fun m F => ?_
    have K := ok.ground.1; refine el3_0 ok.ground.2 fun mean mg mb T => ?_
    refine Name_function_global (s := c.at h k) ok.kind hx (loadGlobal_builtin (env := c.env) (v := v) (by rw [ok.globals]; exact T.g.keeps F.keep) (mg_none_of K T.g (g.1 _)) (by rw [ok.blt]; exact T.b.keeps F.keep) ((T.builtins x g.2.2).trans g.2.1) (q _ _ _ rfl s)) hd
noncomputable def CallJ (c : Cx) (M : Mem) (H : AH) (f : Value) (vs : List Value) (P : Value → AH → Prop) : Prop := ∀ vs', vs'.map er = vs → W c M H (call f vs') fun v M' H' => M' = M ∧ P (er v) H'
theorem CallJ.fnX (ok : c.Ok n) {f : Addr} {vs : List Value} {R P : Value → AH → Prop} {X : Str → Prop} (h : FnSpec f n vs H R X) (k : ∀ v H', R v H' → P v H') (kx : ∀ sym, X sym → c.X sym) (ks : Sub c.HX H) : CallJ c M H (.ref f) vs P :=
  fun vs' hv hp kk s Q E q e => wpAny_call (h c ok M hp kk s vs' hv _ (fun v h' k' H' r s' => q _ _ _ _ _ ⟨rfl, k _ _ r⟩ s') fun a sym h' k' x f => e a sym M h' k' (kx sym x) (f.less ks))
theorem CallJ.fn (ok : c.Ok n) {f : Addr} {vs : List Value} {R P : Value → AH → Prop} (h : FnSpec f n vs H R NoX) (k : ∀ v H', R v H' → P v H') : CallJ c M H (.ref f) vs P :=
  fun vs' hv hp kk s Q E q e => wpAny_call (h c ok M hp kk s vs' hv _ (fun v h' k' H' r s' => q _ _ _ _ _ ⟨rfl, k _ _ r⟩ s') fun a sym h' k' x f => x.elim)
theorem CallJ.mono {f : Value} {vs : List Value} {P P' : Value → AH → Prop} (h : CallJ c M H f vs P) (k : ∀ v H', P v H' → P' v H') : CallJ c M H f vs P' := fun vs' e => W.mono (h vs' e) fun _ _ _ p => ⟨p.1, k _ _ p.2⟩
noncomputable def noStar (args : List Expr) : Bool := args.all fun e => !isStarred e
noncomputable def Args (c : Cx) (M : Mem) : AH → List Expr → (List Value → AH → Prop) → Prop
  | H, [], P => P [] H
  | H, e :: es, P => Ev c M H e fun v H1 => Args c M H1 es fun vs H2 => P (v :: vs) H2
theorem starEach_noStar (env : Env) : ∀ {args : List Expr}, noStar args = true → starEach args env = args.map fun e => (false, eval e env)
  | [], _ => rfl
  | e :: es, h => by
    have h' := Bool.and_eq_true_iff.mp (show (!isStarred e && noStar es) = true from h)
    rw [List.map_cons, ← starEach_noStar env h'.2]
    cases e <;> first | rfl | (simp [isStarred] at h')
theorem backTo_noStar (pos : Pos) (env : Env) {args : List Expr} (h : noStar args = true) : backTo pos (starEach args env) = args.map fun e => (false, eval e env) := by
  rw [starEach_noStar env h]
  unfold backTo
  rw [List.map_map]
  rfl
theorem Args.spliced {args : List Expr} {P : List Value → AH → Prop} (h : Args c M H args P) : W c M H (spliced (args.map fun e => (false, eval e c.env))) fun vs M' H' => M' = M ∧ P (vs.map er) H' := by
  induction args generalizing H P with
  | nil => exact fun hp k s Q E q e => spliced_nil (q _ _ _ _ _ ⟨rfl, h⟩ s)
  | cons e es ih =>
    intro hp k s Q E q e'
    refine spliced_cons (h hp k s _ _ (fun v h' k' M' H' p s' => ?_) e')
    have zq := p; rcases zq.1 with rfl; have p := zq.2
    refine ih p h' k' s' _ _ (fun vs h'' k'' M'' H'' p' s'' => ?_) e'
    have zq := p'; rcases zq.1 with rfl; have p' := zq.2
    exact q _ _ _ _ _ ⟨rfl, p'⟩ s''
theorem Args.one {e : Expr} {v : Value} {es : List Expr} {P : List Value → AH → Prop} (h : Pe c M H e v) (h' : Args c M H es fun vs H' => P (v :: vs) H') : Args c M H (e :: es) P := h.ev h'
noncomputable def CW (f : Value) : Prop := ∀ (w : World) (A : Around) (E : Value → Shared → Prop) (s : Shared) (pos : Pos) (first : List Value) (args : List (Bool × Sem Value)) (Q : Value → Shared → Prop), args.any (·.1) = false →
  wpAny (model pw w) A (evalArgs f true args []) (fun a s₁ => (KK w.params).In s₁.heap ∧ wpAny (model pw w) A (call f (first ++ a.pos) a.kw) Q E s₁) E s → wpAny (model pw w) A (callWith pos f first args []) Q E s
theorem CW.ref {f : Value} (hk : ∀ P, keepIn (KK P) f = true) : CW f := fun w A E s pos first args Q hp h => callWith_of (P := (KK w.params).In) (by rw [hp]; rfl) (keeps_K (hk _)) h
theorem CW.blt (x : String) : CW (.builtin x) := fun w A E s pos first args Q hp h => callWith_builtin hp (wpAny_mono h (fun _ _ z => z.2) fun _ _ z => z)
theorem CW.typ (x : String) : CW (.type x) := fun w A E s pos first args Q hp h => PyProof.Rows.callWith_type hp (wpAny_mono h (fun _ _ z => z.2) fun _ _ z => z)
theorem callWith_W (ok : c.Ok n) {f : Value} {first : List Value} {args : List Expr} {pos : Pos} {P : Value → AH → Prop} (hk : CW f) (hn : noStar args = true)
    (h : Args c M H args fun vs H1 => CallJ c M H1 f (first.map er ++ vs) P) : W c M H (callWith pos f first (backTo pos (starEach args c.env)) []) fun v M' H' => M' = M ∧ P (er v) H' := by
  intro hp k s Q E q e
  rw [backTo_noStar pos c.env hn]
  refine hk _ _ _ _ _ _ _ _ (by rw [List.any_map]; simp) ?_
  have fin : wpAny (model pw c.w) c.A (spliced (args.map fun e => (false, eval e c.env))) (fun vs s₁ => (KK c.w.params).In s₁.heap ∧ wpAny (model pw c.w) c.A (call f (first ++ vs)) Q E s₁) E (c.at hp k) :=
    h.spliced hp k s _ _ (fun vs h' k' M' H' p s' => by
      have zq := p; rcases zq.1 with rfl; have p := zq.2
      exact ⟨ok.K s', p _ (by rw [List.map_append]) h' k' s' Q E q e⟩) e
  cases args with
  | nil =>
    have h0 : CallJ c M H f (first.map er ++ []) P := h
    exact evalArgs_nil3 ⟨ok.K s, by rw [List.append_nil] at h0 ⊢; exact h0 first rfl hp k s Q E q e⟩
  | cons a as => exact evalArgs_plain fin
noncomputable def Solid (f : Value) : Prop := ∀ v, er v = f → v = f
theorem Solid.ref (a : Addr) : Solid (.ref a) := fun _ h => er_ref h
theorem Solid.blt (x : String) : Solid (.builtin x) := fun _ h => er_builtin h
theorem Solid.typ (x : String) : Solid (.type x) := fun _ h => er_type h
theorem Ev.call (ok : c.Ok n) {f : Value} {x : Str} {p pos : Pos} {args : List Expr} {P : Value → AH → Prop} (hf : Pe c M H (.Name x p) f) (hs : Solid f) (hk : CW f) (hn : noStar args = true)
    (h : Args c M H args fun vs H1 => CallJ c M H1 f vs P) : Ev c M H (.Call (.Name x p) args [] pos) P := fun hp k s Q E q e => by
  rw [arm_eval_Call_Name']
  refine wpAny_bind (hf hp k s _ _ fun v' h' k' z s' => ?_)
  rw [hs _ z]
  exact callWith_W ok (first := []) hk hn h h' k' s' Q E q e
structure MkOk (C : Cls) (f : Addr) : Prop where
  chk : ∀ P, (makesIn (KK P) C.addr && findIn (KK P) (.ref C.addr) "__init__" == some (some (.ref f)) && typeIn (KK P) (.ref f) == some (.type "function") && keepIn (KK P) (.ref C.addr)) = true
theorem MkOk.cw {C : Cls} {f : Addr} (MO : MkOk C f) : CW (.ref C.addr) := CW.ref fun P => by have := MO.chk P; simp only [Bool.and_eq_true] at this; exact this.2
theorem CallJ.make (ok : c.Ok (n + 1)) {C : Cls} {f : Addr} {vs : List Value} {P : Value → AH → Prop} (MO : MkOk C f)
    (h : ∀ x, H x = none → FnSpec f n (.ref x :: vs) (upd H x (.inst C [])) (fun v H' => v = .none ∧ P (.ref x) H') NoX) : CallJ c M H (.ref C.addr) vs P := by
  intro vs' hv hp k s Q E q e
  refine el2_3 (id s) fun news δ N nd A l => ?_
  refine Exists.elim (ok.fr _ _ _ l) fun m F => ?_
  have ck := MO.chk c.w.params
  simp only [Bool.and_eq_true, beq_iff_eq] at ck
  rcases ck.1 with ⟨⟨c1, c2⟩, c3⟩; have _ := ck.2; try clear ck
  have K := ok.K s
  refine wpAny_call (make_core (h := hp) (makes_of K c1) (looks_findIn K c2) (fun self => bind_fn K self c3) (.inl rfl) ?_)
  have N' := (N.push F emptyDict).push (F.push _) (instObj C.addr hp.objs.size)
  rw [Heap.size_push] at N'
  have lt : ∀ a ∈ ads news, a < hp.objs.size := fun a ha => by refine el1_1 (List.mem_map.mp ha) fun p hp' z92 => ?_; rcases z92 with rfl; exact Heap.lt_size (N p hp').1
  have n1 : hp.objs.size + 1 ∉ ads news := fun z => absurd (lt _ z) (Nat.not_lt.mpr (Nat.le_succ _))
  have n2 : hp.objs.size ∉ ads news := fun z => absurd (lt _ z) (Nat.lt_irrefl _)
  have zq := A.made (C := C) n1 n2 (Nat.ne_of_lt (Nat.lt_succ_self _)); have hn := zq.1; have A' := zq.2
  have ok' : (c.withA (c.A.under (.builtin "type.__call__" ⟨.ref C.addr :: vs', []⟩))).Ok n := withA_ok ok (by have := ok.room; show c.A.depth + 1 + 4 * n + 8 < _; lia) (by have := ok.units; show c.A.units + 1 + 20 * n + 60 < _; lia) ok.hand rfl
  have s' : St c M (upd H (hp.objs.size + 1) (.inst C [])) ((hp.push emptyDict).push (instObj C.addr hp.objs.size)) := by
    refine ⟨_, _, N', List.nodup_cons.mpr ⟨fun z => ?_, List.nodup_cons.mpr ⟨n2, nd⟩⟩, A', ok.keep _ _ _ _ _ l ⟨fun b o e _ _ => Heap.get?_push_of_some _ (Heap.get?_push_of_some _ e), fun b _ m' e => Ns_of_get e fun o e => Heap.get?_push_of_some _ (Heap.get?_push_of_some _ e)⟩ fun a ha => ?_⟩
    · rcases List.mem_cons.mp z with z | z
      · exact absurd z (Nat.ne_of_gt (Nat.lt_succ_self _))
      · exact n1 z
    · rcases List.mem_cons.mp ha with rfl | ha
      · exact .inr (Heap.get?_none_of_le (Nat.le_succ _))
      · rcases List.mem_cons.mp ha with rfl | ha
        · exact .inr (Heap.get?_none_of_le (Nat.le_refl _))
        · exact .inl ha
  exact h _ hn _ ok' M _ k s' (.ref (hp.objs.size + 1) :: vs') (by rw [List.map_cons, hv]; rfl) _ (fun v h' k' H' p s'' => ⟨er_none p.1, q _ _ _ _ _ ⟨rfl, p.2⟩ s''⟩) fun _ _ _ _ x => x.elim
end
noncomputable def fldOk (K : Frag) (C : Addr) (x : Str) : Bool := findIn K (.ref C) x == some none && takerIn K C x == some none
noncomputable def mthOk (K : Frag) (C : Addr) (p : Str × Addr) : Bool := findIn K (.ref C) p.1 == some (some (.ref p.2)) && isFn K (.ref p.2) && keepIn K (.ref p.2)
noncomputable def clsCheck (K : Frag) (C : Cls) : Bool :=
  plainGet K C.addr "" && hasDictIn K C.addr && (findIn K (.ref C.addr) "__setattr__" == some (some (.builtin "object.__setattr__"))) && plainOver K C.addr &&
  C.lay.all (fldOk K C.addr) && C.meths.all (mthOk K C.addr)
structure ClsOk (C : Cls) : Prop where
  chk : ∀ P, clsCheck (KK P) C = true
  nd : C.lay.Nodup
  dis : ∀ p ∈ C.meths, p.1 ∉ C.lay
structure ClsFacts (K : Frag) (C : Cls) : Prop where
  get : ∀ x, plainGet K C.addr x = true
  dict : hasDictIn K C.addr = true
  sa : findIn K (.ref C.addr) "__setattr__" = some (some (.builtin "object.__setattr__"))
  po : plainOver K C.addr = true
  fld : ∀ x ∈ C.lay, findIn K (.ref C.addr) x = some none ∧ takerIn K C.addr x = some none
  mth : ∀ p ∈ C.meths, findIn K (.ref C.addr) p.1 = some (some (.ref p.2)) ∧ isFn K (.ref p.2) = true ∧ keepIn K (.ref p.2) = true
theorem ClsOk.facts {C : Cls} (h : ClsOk C) (P : Params) : ClsFacts (KK P) C := by
  have := h.chk P
  unfold clsCheck at this
  simp only [Bool.and_eq_true, List.all_eq_true, beq_iff_eq] at this
  rcases this.1 with ⟨⟨⟨⟨a, b⟩, c⟩, d⟩, e⟩; have f := this.2; try clear this
  refine ⟨fun _ => a, b, c, d, fun x hx => ?_, fun p hp => ?_⟩
  · have := e x hx; unfold fldOk at this; simpa using this
  · have := f p hp; unfold mthOk at this; simp only [Bool.and_eq_true, beq_iff_eq] at this; exact ⟨this.1.1, this.1.2, this.2⟩
theorem isStr_str (k x : Str) (t : Tok) : Value.isStr (.str k t) x = (k == x) := rfl
theorem Ents.get {P : Params} {ks : List Str} {es : List DictEntry} {vs : List Value} (E : Ents P ks es vs) : ks.Nodup → ∀ (i : Nat) (x : Str) (v : Value), ks[i]? = some x → vs[i]? = some v → ∃ v', getL x es = some (some v') ∧ er v' = v ∧ okV v' = true := by
  induction E with
  | nil => intro _ i x v _ h; simp at h
  | @cons k ks es vs u t ou r ih =>
    intro nd i x v hx hv
    have nd' := List.nodup_cons.mp nd
    cases i with
    | zero =>
      simp at hx hv; subst hx; subst hv
      exact ⟨u, by unfold getL; rw [List.find?_cons]; simp [isStr_str], rfl, ou⟩
    | succ i =>
      simp at hx hv
      refine el1_2 (ih nd'.2 i x v hx hv) fun v' g a b => ?_
      refine ⟨v', ?_, a, b⟩
      have ne : (k == x) = false := beq_eq_false_iff_ne.mpr fun e => nd'.1 (by rw [e]; exact List.mem_of_getElem? hx)
      unfold getL at g ⊢
      rw [List.find?_cons]
      simp only [isStr_str, ne]
      rw [List.any_cons]
      simpa [DictEntry.refKey] using g
theorem Ents.off {P : Params} {ks : List Str} {es : List DictEntry} {vs : List Value} (E : Ents P ks es vs) : ∀ x, (∀ k ∈ ks.take vs.length, k ≠ x) → getL x es = some none := by
  induction E with
  | nil => exact fun _ _ => rfl
  | @cons k ks es vs u t ou r ih =>
    intro x h
    have ne : (k == x) = false := beq_eq_false_iff_ne.mpr (h k (by simp))
    have g := ih x fun k' hk' => h k' (by simp; exact .inr hk')
    unfold getL at g ⊢
    rw [List.find?_cons]
    simp only [isStr_str, ne]
    rw [List.any_cons]
    simpa [DictEntry.refKey] using g
theorem Ents.len {P : Params} {ks : List Str} {es : List DictEntry} {vs : List Value} (E : Ents P ks es vs) : es.length = vs.length := by
  induction E with
  | nil => rfl
  | cons _ _ ih => exact congrArg (· + 1) ih
noncomputable def others (h₀ h : Heap) (L d : Addr) : Led := (List.range h.objs.size).filterMap fun a => if a = d ∨ a = L ∨ (h₀.get? a).isSome = true then none else (h.get? a).map fun o => (a, o)
theorem mem_others {h₀ h : Heap} {L d : Addr} {p : Addr × Obj} (hp : p ∈ others h₀ h L d) : p.1 ≠ d ∧ p.1 ≠ L ∧ h₀.get? p.1 = none ∧ h.get? p.1 = some p.2 := by
  refine el1_1 (List.mem_filterMap.mp hp) fun a _ e => ?_
  split at e
  · cases e
  · rename_i n
    refine el1_1 (Option.map_eq_some_iff.mp e) fun o ho z92 => ?_; rcases z92 with rfl
    simp only [not_or, Option.not_isSome, Option.isNone_iff_eq_none, Bool.not_eq_true, Option.isSome_eq_false_iff] at n
    exact ⟨n.1, n.2.1, n.2.2, ho⟩
theorem others_mem {h₀ h : Heap} {L d b : Addr} {o : Obj} (e : h.get? b = some o) (h1 : b ≠ d) (h2 : b ≠ L) (h3 : h₀.get? b = none) : (b, o) ∈ others h₀ h L d := by
  refine List.mem_filterMap.mpr ⟨b, List.mem_range.mpr (Heap.lt_size e), ?_⟩
  rw [if_neg (by rw [h3]; simp [h1, h2]), e]; rfl
theorem others_news (h₀ h : Heap) (L d : Addr) : News h₀ L h (others h₀ h L d) := fun p hp => let ⟨_, a, b, c⟩ := mem_others hp; ⟨c, a, b⟩
theorem Ns_one {h : Heap} {a : Addr} {m m' : Str → Option Value} (x : h.Ns a m) (y : h.Ns a m') : m = m' := by
  refine el3_3 x fun o es ep e1 e2 _ e3 => ?_
  refine el3_3 y fun o' es' ep' f1 f2 _ f3 => ?_
  rw [e1] at f1; cases f1
  rw [e2] at f2; cases f2
  funext z; rw [← e3, ← f3]
theorem kept_of {h₀ h h' : Heap} {L d : Addr} {m : Str → Option Value} {F N : List Addr} (x : Fr h₀ L h m) (y : Fr h₀ L h' m) (o : ∀ p ∈ others h₀ h L d, h'.get? p.1 = some p.2) (hd : d ∈ N) (hL : L ∈ F) (dis : ∀ b ∈ F, b ∉ N) : Kept F N h h' := by
  have key : ∀ b ob, h.get? b = some ob → b ≠ d → b ≠ L → h'.get? b = some ob := fun b ob e h1 h2 => by
    cases z : h₀.get? b with
    | none => exact o (b, ob) (others_mem e h1 h2 z)
    | some o' =>
      have := x.keep b o' z
      rw [e] at this; cases this
      exact y.keep b ob z
  refine ⟨fun b ob e h1 h2 => key b ob e (fun q => h1 (q ▸ hd)) fun q => h2 (q ▸ hL), fun b hb m' e => ?_⟩
  by_cases q : b = L
  · subst q; rw [Ns_one e x.ns]; exact y.ns
  · exact Ns_of_get e fun ob e' => key b ob e' (fun z => dis b hb (z ▸ hd)) q
theorem St.turned {c : Cx} {n : Nat} (ok : c.Ok n) {M : Mem} {H' : AH} {h h' : Heap} {news : Led} {δ : Addr → Addr} {d : Addr} {od od' : Obj} {m : Str → Option Value}
    (N : News c.h₀ c.L h news) (nd : (ads news).Nodup) (l : c.loc M h (ads news)) (x : Fr c.h₀ c.L h m) (y : Fr c.h₀ c.L h' m) (o : News c.h₀ c.L h' ((d, od') :: others c.h₀ h c.L d)) (hd : (d, od) ∈ news)
    (A' : Abs c.w (setL news d od') δ H') : St c M H' h' := by
  have hd' : d ∈ ads news := List.mem_map_of_mem hd
  refine ⟨setL news d od', δ, fun p hp => ?_, by rw [setL_ads]; exact nd, A', ?_⟩
  · rcases mem_setL hp with rfl | ⟨hp, n1⟩
    · exact o _ List.mem_cons_self
    · exact ⟨(o _ (List.mem_cons_of_mem _ (others_mem (N p hp).1 n1 (N p hp).2.1 (N p hp).2.2))).1, (N p hp).2⟩
  · rw [setL_ads]
    refine ok.keep _ _ _ _ _ l (kept_of x y (fun p hp => (o p (List.mem_cons_of_mem _ hp)).1) hd' ok.own fun b hb => ?_) fun a ha => .inl ha
    refine el1_1 (List.mem_filterMap.mp hb) fun env henv hfr => ?_
    have zq := ok.ff _ _ _ l env henv; have _ := zq.1; refine el1_4 zq.2 fun a' e1 _ _ e2 _ => ?_
    rw [hfr] at e1; cases e1; exact e2
noncomputable def putV (vs : List Value) (i : Nat) (v : Value) : List Value := vs.take i ++ v :: vs.drop (i + 1)
theorem Ents.put {P : Params} {x : Str} {v : Value} {t : Tok} (ov : okV v = true) {ks : List Str} {es : List DictEntry} {vs : List Value} (E : Ents P ks es vs) : ks.Nodup → ∀ i, ks[i]? = some x → i ≤ vs.length → Ents P ks (putL x (PyData.keyHash P x) (.str x t) v es) (putV vs i (er v)) := by
  induction E with
  | @nil ks =>
    intro _ i hx hi
    obtain rfl : i = 0 := Nat.le_zero.mp hi
    cases ks with
    | nil => cases hx
    | cons k ks => simp at hx; subst hx; exact .cons ov .nil
  | @cons k ks es vs u t' ou r ih =>
    intro nd i hx hi
    have nd' := List.nodup_cons.mp nd
    cases i with
    | zero =>
      simp at hx; subst hx
      unfold putL
      rw [if_pos (by simp [isStr_str])]
      exact .cons ov r
    | succ i =>
      simp at hx
      have ne : (k == x) = false := beq_eq_false_iff_ne.mpr fun e => nd'.1 (by rw [e]; exact List.mem_of_getElem? hx)
      unfold putL
      rw [if_neg (by simp only [isStr_str, ne]; decide)]
      exact .cons ou (ih nd'.2 i hx (Nat.le_of_succ_le_succ hi))
theorem Ents.cap {P : Params} {ks : List Str} {es : List DictEntry} {vs : List Value} (E : Ents P ks es vs) : es.length ≤ ks.length := by
  induction E with
  | nil => exact Nat.zero_le _
  | cons _ _ ih => exact Nat.succ_le_succ ih
section
variable {c : Cx} {M : Mem} {H : AH} {n : Nat} {C : Cls} {a : Addr} {vs : List Value} {x : Str} {v : Value}
theorem okV_of {v v' : Value} (z : er v' = v) (h : okV v = true) : okV v' = true := by rw [← okV_er, z]; exact h
theorem setAttr_W (ok : c.Ok n) (CO : ClsOk C) (few : C.lay.length ≤ 900) (i : Nat) (hx : C.lay[i]? = some x) (hH : H a = some (.inst C vs)) (hi : i ≤ vs.length) (hv : okV v = true) {h : Heap} {k : Nat} (s : St c M H h)
    {Q : Unit → Shared → Prop} {E : Value → Shared → Prop} (q : ∀ h' k', St c M (upd H a (.inst C (putV vs i (er v)))) h' → Q () (c.at h' k')) : wpAny (model pw c.w) c.A (setAttr (.ref a) x v) Q E (c.at h k) := by
  refine el2_3 s fun news δ N nd A l => ?_
  refine Exists.elim (ok.fr _ _ _ l) fun m F => ?_
  have CF := CO.facts c.w.params
  have zq := A.rep a _ hH; have h1 := zq.1; refine el2_1 zq.2 fun es n' h2 en => ?_
  have I : InstAt h a (instObj C.addr (δ a)) C.addr (some (dictOf es n')) := InstAt.of_news N h1 h2
  have xm : x ∈ C.lay := List.mem_of_getElem? hx
  have hl : (getL x es).isSome = true := by
    by_cases hlt : i < vs.length
    · refine el1_1 (en.get CO.nd i x _ hx (List.getElem?_eq_getElem hlt)) fun v' g _ => ?_
      rw [g]; rfl
    · rw [en.off x fun k' hk' => ?_]; rfl
      rintro rfl
      refine Exists.elim (List.getElem?_of_mem hk') fun j hj => ?_
      obtain ⟨hjl, hje⟩ := List.getElem?_eq_some_iff.mp hj
      rw [List.length_take] at hjl
      rw [List.getElem_take] at hje
      obtain ⟨hil, hie⟩ := List.getElem?_eq_some_iff.mp hx
      have := (List.getElem_inj CO.nd).mp (hje.trans hie.symm)
      lia
  have en' := en.put (x := x) (t := k + 1) hv CO.nd i hx hi
  refine set_dict (s := c.at h k) (news := (δ a, dictOf es n') :: others c.h₀ h c.L (δ a)) F ok.ground.1 (fun p hp => ?_) I rfl CF.sa CF.po (CF.fld x xm).2 CF.dict hl rfl (.head fun p hp => (mem_others hp).1) (Nat.le_trans en'.cap (Nat.le_trans few (by decide))) fun h' F' N' => ?_
  · rcases List.mem_cons.mp hp with rfl | hp
    · exact N _ h2
    · exact others_news _ _ _ _ p hp
  · exact q h' _ (St.turned ok N nd l F F' N' h2 (A.field hH en'))
theorem getAttr_W (ok : c.Ok n) (CO : ClsOk C) (i : Nat) (hx : C.lay[i]? = some x) (hH : H a = some (.inst C vs)) (hi : vs[i]? = some v) {h : Heap} {k : Nat} (s : St c M H h) {expr : Bool}
    {Q : Value → Shared → Prop} {E : Value → Shared → Prop} (q : ∀ v' k', er v' = v → Q v' (c.at h k')) : wpAny (model pw c.w) c.A (getAttr (.ref a) x expr) Q E (c.at h k) := by
  refine el2_3 s fun news δ N nd A l => ?_
  refine Exists.elim (ok.fr _ _ _ l) fun m F => ?_
  have CF := CO.facts c.w.params
  have zq := A.rep a _ hH; have h1 := zq.1; refine el2_1 zq.2 fun es n' h2 en => ?_
  have I : InstAt h a (instObj C.addr (δ a)) C.addr (some (dictOf es n')) := InstAt.of_news N h1 h2
  refine el1_2 (en.get CO.nd i x _ hx hi) fun v' g z o => ?_
  exact get_own (s := c.at h k) F ok.ground.1 I (CF.get x) CF.dict (CF.fld x (List.mem_of_getElem? hx)).1 rfl g (okV_handed o) (q v' _ z)
theorem getMethod_W (ok : c.Ok n) (CO : ClsOk C) {f : Addr} (hm : (x, f) ∈ C.meths) (hH : H a = some (.inst C vs)) {h : Heap} {k : Nat} (s : St c M H h) {pl : Sem Bool}
    {Q : Value × List Value → Shared → Prop} {E : Value → Shared → Prop} (q : Q (.ref f, [.ref a]) (c.at h k)) : wpAny (model pw c.w) c.A (getMethod (.ref a) x pl) Q E (c.at h k) := by
  refine el2_3 s fun news δ N nd A l => ?_
  refine Exists.elim (ok.fr _ _ _ l) fun m F => ?_
  have CF := CO.facts c.w.params
  have zq := A.rep a _ hH; have h1 := zq.1; refine el2_1 zq.2 fun es n' h2 en => ?_
  have I : InstAt h a (instObj C.addr (δ a)) C.addr (some (dictOf es n')) := InstAt.of_news N h1 h2
  have g := en.off x fun k' hk' e => CO.dis _ hm (by rw [← e]; exact List.mem_of_mem_take hk')
  exact method_inst (s := c.at h k) F ok.ground.1 I (CF.get x) (CF.mth _ hm).1 (CF.mth _ hm).2.1 g q
noncomputable def noCall : Expr → Bool
  | .Call .. => false
  | _ => true
theorem base_eq {o : Expr} {x : Str} {env : Env} (h : noCall o = true) : attributeBase o x env (eval o env) = eval o env := by cases o <;> first | rfl | cases h
theorem Pe.attr (ok : c.Ok n) (CO : ClsOk C) (i : Nat) {o : Expr} {pos} (ho : Pe c M H o (.ref a)) (hH : H a = some (.inst C vs)) (hx : C.lay[i]? = some x) (hi : vs[i]? = some v) (hb : noCall o = true) : Pe c M H (.Attribute o x pos) v :=
  fun h k s Q E q => by
    rw [arm_eval_Attribute, base_eq hb]
    refine wpAny_bind (ho h k s _ _ fun v' h' k' z s' => wpAny_bind (wpAny_standAt (wpAny_bind (wpAny_holding ?_))))
    rw [er_ref z]
    exact getAttr_W ok CO i hx hH hi s' fun v' k' z' => wpAny_bind (wpAny_letTemporaryGo (wpAny_pure (q _ _ _ z' s')))
theorem Ev.attr (ok : c.Ok n) {o : Expr} {pos} {P : Value → AH → Prop} (i : Nat) (hb : noCall o = true) (ho : Ev c M H o fun r H' => ∃ a C vs v, r = .ref a ∧ ClsOk C ∧ H' a = some (.inst C vs) ∧ C.lay[i]? = some x ∧ vs[i]? = some v ∧ P v H') : Ev c M H (.Attribute o x pos) P :=
  fun h k s Q E q e => by
    rw [arm_eval_Attribute, base_eq hb]
    refine wpAny_bind (ho h k s _ _ (fun v' h' k' M' H' p s' => wpAny_bind (wpAny_standAt (wpAny_bind (wpAny_holding ?_)))) e)
    have zq := p; rcases zq.1 with rfl; refine el4_5 zq.2 fun a C vs v hr CO hH hx hi p => ?_
    rw [er_ref hr]
    exact getAttr_W ok CO i hx hH hi s' fun v' k' z' => wpAny_bind (wpAny_letTemporaryGo (wpAny_pure (q _ _ _ _ _ ⟨rfl, by rw [z']; exact p⟩ s')))
theorem Ex.setA (ok : c.Ok n) {rest : List Stmt} {P : Fl → Mem → AH → Prop} {o e : Expr} {pos q : Pos} (CO : ClsOk C) (few : C.lay.length ≤ 900) (i : Nat) (hx : C.lay[i]? = some x)
    (h : Ev c M H e fun v H' => okV v = true ∧ Pe c M H' o (.ref a) ∧ ∃ vs, H' a = some (.inst C vs) ∧ i ≤ vs.length ∧ Ex c M (upd H' a (.inst C (putV vs i v))) rest P)
    (hs : swapsWith e (some (.Attribute o x q)) pos.line c.env = pure false := by rfl) : Ex c M H (.Assign [.Attribute o x q] e pos :: rest) P :=
  Ex.cons fun hp k s Q E q' e' => by
    refine plainObj_wpAny_Assign_Attribute (h hp k s _ _ (fun v h' k' M' H' p s' => ?_) e') hs
    refine el0_3 p fun z90 hv ho z93 => ?_; rcases z90 with rfl; rcases z93 with ⟨vs, hH, hi, p⟩
    rw [okV_er] at hv
    refine ho h' k' s' _ _ fun r h2 k2 z s2 => ?_
    rw [er_ref z]
    exact setAttr_W ok CO few i hx hH hi hv s2 fun h3 k3 s3 => q' .next _ _ _ _ p s3
theorem Ev.meth (ok : c.Ok n) {o : Expr} {args : List Expr} {apos pos : Pos} {P : Value → AH → Prop} {f : Addr} (ho : Pe c M H o (.ref a)) (CO : ClsOk C) (hH : H a = some (.inst C vs)) (hm : (x, f) ∈ C.meths) (hb : noCall o = true) (hn : noStar args = true)
    (hl : (apos.endLine == pos.line) = true) (hfew : args.length < 29) (h : Args c M H args fun vs H1 => CallJ c M H1 (.ref f) (.ref a :: vs) P) : Ev c M H (.Call (.Attribute o x apos) args [] pos) P :=
  fun hp k s Q E q e => by
    rw [arm_eval_Call, base_eq hb]
    refine wpAny_bind (ho hp k s _ _ fun v' h' k' z s' => wpAny_bind (wpAny_standAt ?_))
    rw [er_ref z]
    have hpos : ∀ fw, methodCallPos fw o c.env apos pos = pure pos := fun fw => by unfold methodCallPos; simp [hl]
    have hform : methodCallForm (args.length + ([] : List Keyword).length) (backTo pos (starEach args c.env)) (backToKw pos (keywordEach [] c.env)) = true := by
      rw [backTo_noStar pos c.env hn]
      unfold methodCallForm
      simp [backToKw, keywordEach]
      solve_by_elim (maxDepth := 7) [Int.le_of_lt, Int.le_trans, Int.lt_of_lt_of_le, Int.lt_of_le_of_lt, Int.not_lt.mp, Int.not_le.mp]
    unfold methodCall
    rw [hform]
    refine wpAny_bind (wpAny_holding (getMethod_W ok CO hm hH s' ?_))
    exact wpAny_bind (wpAny_of_eq (hpos _) (callWith_W ok (CW.ref fun P => ((CO.facts P).mth _ hm).2.2) hn h h' k' s' Q E q e))
end
noncomputable def Grown (h h' : Heap) : Prop := ∀ b o, h.get? b = some o → h'.get? b = some o
section
variable {c : Cx} {M : Mem} {H : AH} {n : Nat}
theorem St.grown (ok : c.Ok n) {h h' : Heap} (s : St c M H h) (g : Grown h h') : St c M H h' := by
  refine el2_3 s fun news δ N nd A l => ?_
  exact ⟨news, δ, N.grown g, nd, A, ok.keep _ _ _ _ _ l ⟨fun b o e _ _ => g b o e, fun b _ m e => Ns_of_get e (g b)⟩ fun a ha => .inl ha⟩
theorem St.isList {h : Heap} (s : St c M H h) {a : Addr} {xs : List Value} (hH : H a = some (.list xs)) : ∃ vs : List Value, h.IsList a vs.toArray ∧ vs.map er = xs := by
  refine el2_3 s fun news δ N nd A l => ?_
  refine el2_1 (A.rep a _ hH) fun vs n h1 e => ?_
  exact ⟨vs, ⟨_, (N _ h1).1, rfl, n, rfl⟩, e⟩
theorem St.isTup {h : Heap} (s : St c M H h) {a : Addr} {xs : List Value} (hH : H a = some (.tup xs)) : ∃ vs : List Value, IsTup h a vs.toArray ∧ vs.map er = xs := by
  refine el2_3 s fun news δ N nd A l => ?_
  refine el2_1 (A.rep a _ hH) fun vs n h1 e => ?_
  exact ⟨vs, ⟨_, (N _ h1).1, rfl, n, rfl⟩, e⟩
noncomputable def CallP (c : Cx) (M : Mem) (H : AH) (f : Value) (vs : List Value) (v : Value) : Prop :=
  ∀ vs', vs'.map er = vs → ∀ h k, St c M H h → ∀ (Q : Value → Shared → Prop) (E : Value → Shared → Prop), (∀ v' h' k', er v' = v → St c M H h' → Q v' (c.at h' k')) → wpAny (model pw c.w) c.A (call f vs') Q E (c.at h k)
theorem CallP.j {f : Value} {vs : List Value} {v : Value} {P : Value → AH → Prop} (h : CallP c M H f vs v) (p : P v H) : CallJ c M H f vs P := fun vs' hv hp k s Q E q _ => h vs' hv hp k s Q E fun v' h' k' z s' => q _ _ _ _ _ ⟨rfl, by rw [z]; exact p⟩ s'
theorem CallP.fn (ok : c.Ok n) {f : Addr} {vs : List Value} {v : Value} (h : FnSpec f n vs H (fun x H' => x = v ∧ Sub H H') NoX) : CallP c M H (.ref f) vs v :=
  fun vs' hv hp kk s Q E q => wpAny_call (h c ok M hp kk s vs' hv _ (fun v' h' k' H' r s' => q _ _ _ r.1 (s'.less r.2)) fun a sym h' k' x f => x.elim)
theorem one_of {vs' : List Value} {a : Value} (h : vs'.map er = [a]) : ∃ a', vs' = [a'] ∧ er a' = a := by
  cases vs' with
  | nil => cases h
  | cons x r => cases r with
    | nil => exact ⟨x, rfl, by simpa using h⟩
    | cons _ _ => simp at h
theorem two_of {vs' : List Value} {a b : Value} (h : vs'.map er = [a, b]) : ∃ a' b', vs' = [a', b'] ∧ er a' = a ∧ er b' = b := by
  cases vs' with
  | nil => cases h
  | cons x r =>
    refine el1_1 (one_of (show r.map er = [b] by simp at h ⊢; exact h.2)) fun b' z91 e => ?_; rcases z91 with rfl
    exact ⟨x, b', rfl, by simp at h; exact h.1, e⟩
theorem CallP.len {a : Addr} {xs : List Value} (hH : H a = some (.list xs)) (hb : xs.length < 2 ^ 62) : CallP c M H (.builtin "len") [.ref a] (.int xs.length 0) := fun vs' hv h k s Q E q => by
  refine el1_1 (one_of hv) fun a' z91 e => ?_; rcases z91 with rfl
  refine el1_1 (s.isList hH) fun vs hl e' => ?_
  rw [er_ref e]
  have hz : vs.length = xs.length := by rw [← e', List.length_map]
  refine len_list (s := c.at h k) hl (by rw [List.size_toArray, hz]; lia) (q _ h (k + 1 + 1) ?_ s)
  show Value.int (vs.toArray.size : Nat) 0 = _
  rw [List.size_toArray, hz]
theorem CallP.max2 (ok : c.Ok n) {a b : Int} : CallP c M H (.builtin "max") [.int a 0, .int b 0] (.int (max a b) 0) := fun vs' hv h k s Q E q => by
  refine el2_2 (two_of hv) fun a' b' z92 e e' => ?_; rcases z92 with rfl
  refine Exists.elim (er_int e) fun t z91 => ?_; rcases z91 with rfl
  refine Exists.elim (er_int e') fun u z91 => ?_; rcases z91 with rfl
  refine max_two_ints (s := c.at h k) ok.hand fun h' tk hk => ?_
  have s' := s.grown ok hk
  by_cases d : b > a
  · simp only [if_pos d]; exact q _ h' tk (by show Value.int b 0 = _; rw [Int.max_eq_right (Int.le_of_lt d)]) s'
  · simp only [if_neg d]; exact q _ h' tk (by show Value.int a 0 = _; rw [Int.max_eq_left (Int.not_lt.mp d)]) s'
theorem CallP.min2 (ok : c.Ok n) {a b : Int} : CallP c M H (.builtin "min") [.int a 0, .int b 0] (.int (min a b) 0) := fun vs' hv h k s Q E q => by
  refine el2_2 (two_of hv) fun a' b' z92 e e' => ?_; rcases z92 with rfl
  refine Exists.elim (er_int e) fun t z91 => ?_; rcases z91 with rfl
  refine Exists.elim (er_int e') fun u z91 => ?_; rcases z91 with rfl
  refine min_two_ints (s := c.at h k) ok.hand fun h' tk hk => ?_
  have s' := s.grown ok hk
  by_cases d : b < a
  · simp only [if_pos d]; exact q _ h' tk (by show Value.int b 0 = _; rw [Int.min_eq_right (Int.le_of_lt d)]) s'
  · simp only [if_neg d]; exact q _ h' tk (by show Value.int a 0 = _; rw [Int.min_eq_left (Int.not_lt.mp d)]) s'
theorem CallP.abs {a : Int} : CallP c M H (.builtin "abs") [.int a 0] (.int a.natAbs 0) := fun vs' hv h k s Q E q => by
  refine el1_1 (one_of hv) fun a' z91 e => ?_; rcases z91 with rfl
  refine Exists.elim (er_int e) fun t z91 => ?_; rcases z91 with rfl
  refine call_abs_int (s := c.at h k) fun u tk => q _ h tk ?_ s
  show Value.int _ 0 = _
  congr 1; split <;> lia
inductive Pes (c : Cx) (M : Mem) (H : AH) : List Expr → List Value → Prop
  | nil : Pes c M H [] []
  | cons {e es v vs} : Pe c M H e v → Pes c M H es vs → Pes c M H (e :: es) (v :: vs)
theorem Pes.args {es : List Expr} {vs : List Value} {P : List Value → AH → Prop} (h : Pes c M H es vs) (p : P vs H) : Args c M H es P := by
  induction h generalizing P with
  | nil => exact p
  | cons a _ ih => exact a.ev (ih p)
theorem Ev.pe {e : Expr} {v : Value} (h : ∀ X HX, Ev { c with X := X, HX := HX } M H e fun x H' => x = v ∧ Sub H H') : Pe c M H e v := fun hp k s Q E q =>
  h (fun _ => False) (fun _ => none) hp k s Q E (fun v' h' k' M' H' p s' => by
    refine el0_2 p fun z90 z sb => ?_; rcases z90 with rfl
    exact q v' h' k' z (St.less s' sb)) fun _ _ _ _ _ x => x.elim
theorem Cx.Ok.setX (ok : c.Ok n) (X : Str → Prop) (HX : AH) : ({ c with X := X, HX := HX } : Cx).Ok n :=
  ⟨ok.ground, ok.room, ok.units, ok.hand, ok.frames, ok.stays, ok.fr, ok.keep, ok.ff, ok.name, ok.own, ok.kind, ok.globals, ok.blt⟩
theorem Pe.call (ok : c.Ok n) {f v : Value} {x : Str} {p pos : Pos} {args : List Expr} {vs : List Value} (hf : Pe c M H (.Name x p) f) (hs : Solid f) (hk : CW f) (hn : noStar args = true)
    (ha : Pes c M H args vs) (h : CallP c M H f vs v) : Pe c M H (.Call (.Name x p) args [] pos) v :=
  Ev.pe fun X HX => Ev.call (ok.setX X HX) (c := { c with X := X, HX := HX }) hf hs hk hn (by
    have ha' : Pes { c with X := X, HX := HX } M H args vs := by
      clear h hn
      induction ha with
      | nil => exact .nil
      | cons a _ ih => exact .cons a ih
    exact ha'.args (CallP.j (c := { c with X := X, HX := HX }) h ⟨rfl, fun _ _ h => h⟩))
theorem Pe.meth (ok : c.Ok n) {C : Cls} {a f : Addr} {us : List Value} {o : Expr} {x : Str} {v : Value} {apos pos : Pos} {args : List Expr} {vs : List Value} (ho : Pe c M H o (.ref a)) (CO : ClsOk C) (hH : H a = some (.inst C us)) (hm : (x, f) ∈ C.meths) (hb : noCall o = true)
    (hn : noStar args = true) (hl : (apos.endLine == pos.line) = true) (hfew : args.length < 29) (ha : Pes c M H args vs) (h : CallP c M H (.ref f) (.ref a :: vs) v) : Pe c M H (.Call (.Attribute o x apos) args [] pos) v :=
  Ev.pe fun X HX => Ev.meth (ok.setX X HX) (c := { c with X := X, HX := HX }) ho CO hH hm hb hn hl hfew (by
    have ha' : Pes { c with X := X, HX := HX } M H args vs := by
      clear h hn hfew
      induction ha with
      | nil => exact .nil
      | cons a _ ih => exact .cons a ih
    exact ha'.args (CallP.j (c := { c with X := X, HX := HX }) h ⟨rfl, fun _ _ h => h⟩))
noncomputable def Op (c : Cx) (op : Operator) (a b v : Value) : Prop := ∀ a' b' (s : Shared) (Q : Value → Shared → Prop) E, er a' = a → er b' = b → (∀ v' k', er v' = v → Q v' { s with toks := k' }) → wpAny (model pw c.w) c.A (binaryOp op a' b') Q E s
theorem Op.add {a b : Int} : Op c .Add (.int a 0) (.int b 0) (.int (a + b) 0) := op_add
theorem Op.sub {a b : Int} : Op c .Sub (.int a 0) (.int b 0) (.int (a - b) 0) := op_sub
theorem Op.mul {a b : Int} (hm : IntMulOk a b) : Op c .Mult (.int a 0) (.int b 0) (.int (a * b) 0) := fun a' b' s Q E za zb q => by
  refine Exists.elim (er_int za) fun t z91 => ?_; rcases z91 with rfl; refine Exists.elim (er_int zb) fun u z91 => ?_; rcases z91 with rfl; exact mul_int (q _ _ rfl) hm
theorem Op.mod {a b : Int} (hb : b ≠ 0) : Op c .Mod (.int a 0) (.int b 0) (.int (a.fmod b) 0) := fun a' b' s Q E za zb q => by
  refine Exists.elim (er_int za) fun t z91 => ?_; rcases z91 with rfl; refine Exists.elim (er_int zb) fun u z91 => ?_; rcases z91 with rfl; exact mod_int hb (q _ _ rfl)
theorem Op.fdiv {a b : Int} (hb : b ≠ 0) (hq : Builtin.divisionGoesByPylong a b = false) : Op c .FloorDiv (.int a 0) (.int b 0) (.int (a.fdiv b) 0) := fun a' b' s Q E za zb q => by
  refine Exists.elim (er_int za) fun t z91 => ?_; rcases z91 with rfl; refine Exists.elim (er_int zb) fun u z91 => ?_; rcases z91 with rfl; exact floordiv_int hb (q _ _ rfl) (.inl hq)
theorem Pe.op {l r : Expr} {o : Operator} {pos} {a b v : Value} (hl : Pe c M H l a) (hr : Pe c M H r b) (ho : Op c o a b v) : Pe c M H (.BinOp l o r pos) v := Pe.binop hl hr ho
theorem Pe.neg {e : Expr} {pos} {a : Int} (h : Pe c M H e (.int a 0)) : Pe c M H (.UnaryOp .USub e pos) (.int (-a) 0) := fun hp k s Q E q => by
  rw [arm_eval_UnaryOp]
  refine wpAny_bind (h hp k s _ _ fun v' h' k' z s' => wpAny_bind (wpAny_standAt (wpAny_holding ?_)))
  refine Exists.elim (er_int z) fun t z91 => ?_; rcases z91 with rfl
  exact PyProof.Rows.neg_int (q _ _ _ rfl s')
theorem Ev.op {l r : Expr} {o : Operator} {pos} {P : Value → AH → Prop} (h : Ev c M H l fun a H1 => Ev c M H1 r fun b H2 => ∃ v, Op c o a b v ∧ P v H2) : Ev c M H (.BinOp l o r pos) P :=
  fun hp k s Q E q e => wpAny_BinOp (h hp k s _ _ (fun a' h' k' M' H' p s' => by
    have zq := p; rcases zq.1 with rfl; have p := zq.2
    exact p h' k' s' _ _ (fun b' h2 k2 M2 H2 p2 s2 => by
      have zq := p2; rcases zq.1 with rfl; refine el1_1 zq.2 fun v ho p2 => ?_
      exact ho a' b' _ _ _ rfl rfl fun v' k3 z => q _ _ _ _ _ ⟨rfl, by rw [z]; exact p2⟩ s2) e) e)
noncomputable def Cmp (c : Cx) (M : Mem) (H : AH) (op : CmpOp) (a b : Value) (r : Bool) : Prop := ∀ a' b' h k, St c M H h → ∀ (Q : Value → Shared → Prop) E, er a' = a → er b' = b → (∀ h' k', St c M H h' → Q (.bool r) (c.at h' k')) → wpAny (model pw c.w) c.A (compareOp op a' b') Q E (c.at h k)
noncomputable def iCmp (op : CmpOp) (a b : Int) : Bool := match op with
  | .Lt => decide (a < b)
  | .Gt => decide (b < a)
  | .LtE => decide (a ≤ b)
  | .GtE => decide (b ≤ a)
  | .Eq => a == b
  | .NotEq => a != b
  | _ => false
noncomputable def isInt (op : CmpOp) : Bool := match op with
  | .Lt | .Gt | .LtE | .GtE | .Eq | .NotEq => true
  | _ => false
theorem Cmp.int {op : CmpOp} {a b : Int} (ho : isInt op = true := by rfl) : Cmp c M H op (.int a 0) (.int b 0) (iCmp op a b) := fun a' b' h k s Q E za zb q => by
  refine Exists.elim (er_int za) fun t z91 => ?_; rcases z91 with rfl; refine Exists.elim (er_int zb) fun u z91 => ?_; rcases z91 with rfl
  match op, ho, q with
  | .Lt, _, q => exact PyProof.Rows.lt_int (s := c.at h k) (q h k s)
  | .Gt, _, q => exact PyProof.Rows.gt_int (s := c.at h k) (q h k s)
  | .LtE, _, q => exact PyProof.Rows.le_int (s := c.at h k) (q h k s)
  | .GtE, _, q => exact PyProof.Rows.ge_int (s := c.at h k) (q h k s)
  | .Eq, _, q => exact PyProof.Rows.eq_int (s := c.at h k) (q h k s)
  | .NotEq, _, q => exact PyProof.Rows.ne_int (s := c.at h k) (q h k s)
theorem Cmp.isNone {a : Value} (ha : okV a = true) : Cmp c M H .Is a .none (a == .none) := fun a' b' h k s Q E za zb q => by
  have hb := er_none zb; subst hb
  subst za
  rw [okV_er] at ha
  have e : (er a' == Value.none) = (a' == Value.none) := by cases a' <;> first | rfl | (cases ha; done)
  rw [e] at q
  exact wpAny_is_plain (by cases a' <;> first | rfl | (cases ha; done)) (q h k s)
theorem Cmp.notNone {a : Value} (ha : okV a = true) : Cmp c M H .IsNot a .none (!(a == .none)) := fun a' b' h k s Q E za zb q => by
  have hb := er_none zb; subst hb
  subst za
  rw [okV_er] at ha
  have e : (er a' == Value.none) = (a' == Value.none) := by cases a' <;> first | rfl | (cases ha; done)
  rw [e] at q
  exact wpAny_isNot_plain (by cases a' <;> first | rfl | (cases ha; done)) (q h k s)
theorem Cmp.refSelf {a : Addr} : Cmp c M H .IsNot (.ref a) (.ref a) false := fun a' b' h k s Q E za zb q => by
  have hb := er_ref zb; subst hb
  have ha := er_ref za; subst ha
  exact wpAny_isNot_ref_self (s := c.at h k) (q h k s)
end
section
variable {prog : Program} {w : World} {A : Around} {E : Value → Shared → Prop} {s : Shared}
theorem setSlice_raw {l sl b : Addr} {items new : Array Value} {vl vu : Value} {lo hi : Option Int} {Q : Unit → Shared → Prop} (hl : s.heap.IsList l items) (hb : s.heap.IsList b new) (hlb : l ≠ b)
    (hs : s.heap.IsSliceOf sl vl vu .none) (pl : IsPart vl lo) (pu : IsPart vu hi) (hz : items.size + new.size ≤ sizeLine)
    (h : ∀ f : Array Value → Array Value, f items = items.extract 0 (sliceBounds lo hi none items.size).1.toNat ++ new ++ items.extract (max (sliceBounds lo hi none items.size).1 (sliceBounds lo hi none items.size).2.1).toNat items.size → Q () { s with heap := s.heap.update l (Obj.mapSeq f) }) :
    wpAny (model prog w) A (setItem (.ref l) (.ref sl) (.ref b)) Q E s := by
  refine el1_2 (id hl) fun o ho hc zq => ?_; refine Exists.elim zq fun ne hd => ?_
  refine el1_2 (id hb) fun ob hob hcb zq => ?_; refine Exists.elim zq fun nb hdb => ?_
  refine el1_2 (id hs) fun os hos hcs hds => ?_
  have hTs : s.TypeIs (.ref sl) "slice" := ⟨os, hos, hcs⟩
  unfold setItem
  try with_reducible refine wpAny_holding ?_
  first | refine wpAny_bind (wpAny_pure ?_) | skip
  refine wpAny_bind (wpAny_sequenceKey hl.typeIs (by decide) ?_)
  refine wpAny_bind (wpAny_callSpecial?_slot (name := Str.ofString "__setitem__") hl.typeIs slot_list_setitem
    (wpAny_call_entry slot_list_setitem hl.typeIs entry_list_setitem ?_ (args_list_setitem _ _ _)))
  show wpAny _ _ (Builtin.List.listSubscript? (.ref sl) >>= _) _ _ s
  refine wpAny_bind ?_
  unfold Builtin.List.listSubscript?
  refine wpAny_bind (wpAny_specialOf hTs slice_no_index ?_)
  simp only [Option.isNone_none, if_true]
  refine wpAny_pure ?_
  show wpAny _ _ (typeOf (.ref sl) >>= _) _ _ s
  refine wpAny_bind (wpAny_typeOf hTs ?_)
  rw [if_neg (by decide)]
  rw [listSliceParts_eq]
  refine wpAny_bind (wpAny_bind (wpAny_field hos hds (x := .none) rfl (wpAny_bind (wpAny_listPart .none ?_))))
  rw [if_neg (by decide)]
  refine wpAny_bind (wpAny_field hos hds (x := vl) rfl (wpAny_bind (wpAny_listPart pl ?_)))
  refine wpAny_bind (wpAny_field hos hds (x := vu) rfl (wpAny_bind (wpAny_listPart pu (wpAny_pure ?_))))
  have same : Builtin.List.listSameRef (.ref l) (.ref b) = false := by
    unfold Builtin.List.listSameRef; simp [hlb]
  rw [same]
  simp only [Bool.false_eq_true, if_false]
  refine wpAny_bind ?_
  unfold Builtin.List.listAllItems
  refine wpAny_bind (wpAny_typeOf hb.typeIs ?_)
  simp only [beq_self_eq_true, Bool.true_or, if_true]
  refine listItems_at hob hdb ?_
  refine wpAny_bind (m := Builtin.List.listItems (.ref l)) (listItems_at ho hd ?_)
  refine wpAny_bind (wpAny_of_eq (sliceIndices_raw lo hi none items.size (by simp)) ?_)
  have e3 : (sliceBounds lo hi none items.size).2.2 = 1 := rfl
  rw [e3]
  simp only [beq_self_eq_true, if_true]
  have long : Builtin.List.listTooLong (items.size + new.size) = false := by unfold Builtin.List.listTooLong; simp; omega
  rw [long]
  simp only [Bool.false_eq_true, if_false]
  refine wpAny_bind (wpAny_rule ?_)
  refine wpAny_bind (listUpdate_at ho hd ?_ (by exact le_w (by assumption) (by decide)) ?_)
  · exact wpAny_bind (wpAny_letGo (wpAny_pure ⟨.none, rfl, wpAny_pure (h _ rfl)⟩))
  · have hlen : (sliceBounds lo hi none items.size).1.toNat ≤ (max (sliceBounds lo hi none items.size).1 (sliceBounds lo hi none items.size).2.1).toNat := Int.toNat_le_toNat (Int.le_max_left _ _)
    simp only [Array.size_append, Array.size_extract]
    exact ss_len hlen (Nat.le_succ_of_le hz)
theorem setItem_raw {l : Addr} {items : Array Value} {n : Nat} {k : Int} {t : Tok} {v : Value} {Q : Unit → Shared → Prop} (hl : IsL s.heap l items n)
    (h0 : 0 ≤ k) (hfit : k < 2 ^ 63) (hn : k < items.size) (hQ : ∀ f : Array Value → Array Value, f items = items.setIfInBounds k.toNat v → Q () { s with heap := s.heap.update l (Obj.mapSeq f) }) :
    wpAny (model prog w) A (setItem (.ref l) (.int k t) v) Q E s := by
  have hl' := hl.isList
  unfold setItem
  try with_reducible refine wpAny_holding ?_
  first | refine wpAny_bind (wpAny_pure ?_) | skip
  refine wpAny_bind (wpAny_sequenceKey hl'.typeIs (by decide) ?_)
  refine wpAny_bind (wpAny_callSpecial?_slot (name := Str.ofString "__setitem__") hl'.typeIs slot_list_setitem
    (wpAny_call_entry slot_list_setitem hl'.typeIs entry_list_setitem ?_ (args_list_setitem _ _ _)))
  show wpAny _ _ (Builtin.List.listSubscript? (.int k t) >>= _) _ _ s
  refine wpAny_bind (wpAny_listSubscript_int (fitsIndex_of h0 hfit) ?_)
  clear hfit
  refine Exists.elim (Int.eq_ofNat_of_zero_le h0) fun j z91 => ?_; rcases z91 with rfl
  have hj : j < items.size := by exact Int.ofNat_lt.mp (by assumption)
  have hx' : items[j]? = some items[j] := Array.getElem?_eq_getElem hj
  show wpAny _ _ ((seqItemAt l j >>= fun r => pure (r.map (j, ·))) >>= _) _ _ s
  refine wpAny_bind (wpAny_bind (wpAny_seqItemAt hl rfl (wpAny_pure ?_)))
  rw [hx']
  show wpAny _ _ (setSeqItemAt l j v >>= _) _ _ s
  refine wpAny_bind (wpAny_setSeqItemAt hl rfl ?_)
  first
    | exact wpAny_pure ⟨.none, rfl, wpAny_pure (hQ _ rfl)⟩
    | exact wpAny_bind (wpAny_pure ⟨.none, rfl, wpAny_pure (hQ _ rfl)⟩)
    | exact wpAny_bind (wpAny_pure (wpAny_pure ⟨.none, rfl, wpAny_pure (hQ _ rfl)⟩))
end
section
variable {c : Cx} {M : Mem} {H : AH} {n : Nat}
theorem Pb.cmp {l r : Expr} {op : CmpOp} {pos} {a b : Value} {x : Bool} (hl : Pe c M H l a) (hr : Pe c M H r b) (ho : Cmp c M H op a b x) (hm : behindInMarks op r = false := by with_unfolding_all rfl) : Pb c M H (.Compare l [op] [r] pos) x :=
  fun hp k s Q E q => wpAny_isTrue_Compare1 (hl hp k s _ _ fun a' h1 k1 z1 s1 => hr h1 k1 s1 _ _ fun b' h2 k2 z2 s2 => ho a' b' h2 k2 s2 _ _ z1 z2 fun h3 k3 s3 => wpAny_truthy_bool (q h3 k3 s3)) hm
theorem Pe.cmp {l r : Expr} {op : CmpOp} {pos} {a b : Value} {x : Bool} (hl : Pe c M H l a) (hr : Pe c M H r b) (ho : Cmp c M H op a b x) (hm : behindInMarks op r = false := by with_unfolding_all rfl) : Pe c M H (.Compare l [op] [r] pos) (.bool x) :=
  fun hp k s Q E q => wpAny_Compare1 (hl hp k s _ _ fun a' h1 k1 z1 s1 => hr h1 k1 s1 _ _ fun b' h2 k2 z2 s2 => ho a' b' h2 k2 s2 _ _ z1 z2 fun h3 k3 s3 => q _ h3 k3 rfl s3) hm
theorem Pb.not {e : Expr} {pos} {b : Bool} (h : Pb c M H e b) : Pb c M H (.UnaryOp .Not e pos) (!b) := fun hp k s Q E q => isTrue_not (h hp k s _ _ fun h' k' s' => q h' k' s')
theorem Pb.and {x y : Expr} {pos} {b1 b2 : Bool} (h1 : Pb c M H x b1) (h2 : b1 = true → Pb c M H y b2) : Pb c M H (.BoolOp .And [x, y] pos) (b1 && b2) := fun hp k s Q E q =>
  isTrue_and (h1 hp k s _ _ fun h' k' s' => by
    cases b1 with
    | false => exact q h' k' s'
    | true => exact isTrue_and (h2 rfl h' k' s' _ _ fun h3 k2 s2 => by
        cases b2 with
        | false => exact q h3 k2 s2
        | true => exact isTrue_and_nil (q h3 k2 s2)))
theorem Pb.or {x y : Expr} {pos} {b1 b2 : Bool} (h1 : Pb c M H x b1) (h2 : b1 = false → Pb c M H y b2) : Pb c M H (.BoolOp .Or [x, y] pos) (b1 || b2) := fun hp k s Q E q =>
  isTrue_or (h1 hp k s _ _ fun h' k' s' => by
    cases b1 with
    | true => exact q h' k' s'
    | false => exact isTrue_or (h2 rfl h' k' s' _ _ fun h3 k2 s2 => by
        cases b2 with
        | true => exact q h3 k2 s2
        | false => exact isTrue_or_nil (q h3 k2 s2)))
noncomputable def plainT : Expr → Bool
  | .Name .. | .Attribute .. | .Call .. | .Constant .. => true
  | _ => false
theorem plainT_eq {e : Expr} {env : Env} {whole : Sem Value} (h : plainT e = true) : isTrue e env whole = (do let v ← whole; standAt e.pos; holding [v] (truthy v)) := by cases e <;> first | (cases h; done) | rfl
theorem Pb.val {e : Expr} {b : Bool} (he : Pe c M H e (.bool b)) (hp : plainT e = true := by rfl) : Pb c M H e b := fun h k s Q E q => isTrue_plain (he h k s _ _ fun v' h' k' z s' => by rw [er_bool z]; exact wpAny_truthy_bool (q h' k' s')) (plainT_eq hp)
theorem Pe.orB {x y : Expr} {pos} {b1 b2 : Bool} (h1 : Pe c M H x (.bool b1)) (h2 : b1 = false → Pe c M H y (.bool b2)) : Pe c M H (.BoolOp .Or [x, y] pos) (.bool (b1 || b2)) := fun hp k s Q E q =>
  BoolOp_or (h1 hp k s _ _ fun v h' k' z s' => by
    rw [er_bool z]
    refine wpAny_truthy_bool ?_
    cases b1 with
    | true => exact q _ h' k' rfl s'
    | false => exact BoolOp_one (h2 rfl h' k' s' _ _ fun v2 h3 k2 z2 s2 => q _ h3 k2 (by rw [z2]; simp) s2))
theorem Pe.andB {x y : Expr} {pos} {b1 b2 : Bool} (h1 : Pe c M H x (.bool b1)) (h2 : b1 = true → Pe c M H y (.bool b2)) : Pe c M H (.BoolOp .And [x, y] pos) (.bool (b1 && b2)) := fun hp k s Q E q =>
  BoolOp_and (h1 hp k s _ _ fun v h' k' z s' => by
    rw [er_bool z]
    refine wpAny_truthy_bool ?_
    cases b1 with
    | false => exact q _ h' k' rfl s'
    | true => exact BoolOp_one (h2 rfl h' k' s' _ _ fun v2 h3 k2 z2 s2 => q _ h3 k2 (by rw [z2]; simp) s2))
theorem Pe.ite {t x y : Expr} {pos} {b : Bool} {v : Value} (ht : Pb c M H t b) (h1 : b = true → Pe c M H x v) (h2 : b = false → Pe c M H y v) : Pe c M H (.IfExp t x y pos) v := fun hp k s Q E q =>
  IfExp_ (ht hp k s _ _ fun h' k' s' => by
    cases b with
    | true => exact h1 rfl h' k' s' Q E q
    | false => exact h2 rfl h' k' s' Q E q)
theorem Ev.ite {t x y : Expr} {pos} {b : Bool} {P : Value → AH → Prop} (ht : Pb c M H t b) (h1 : b = true → Ev c M H x P) (h2 : b = false → Ev c M H y P) : Ev c M H (.IfExp t x y pos) P := fun hp k s Q E q e =>
  IfExp_ (ht hp k s _ _ fun h' k' s' => by
    cases b with
    | true => exact h1 rfl h' k' s' Q E q e
    | false => exact h2 rfl h' k' s' Q E q e)
noncomputable def Tv (c : Cx) (M : Mem) (H : AH) (e : Expr) (P : Bool → AH → Prop) : Prop := W c M H (isTrue e c.env (eval e c.env)) fun b M' H' => M' = M ∧ P b H'
theorem Tv.pb {e : Expr} {b : Bool} {P : Bool → AH → Prop} (h : Pb c M H e b) (p : P b H) : Tv c M H e P := fun hp k s Q E q _ => h hp k s Q E fun h' k' s' => q _ _ _ _ _ ⟨rfl, p⟩ s'
theorem Tv.cmp {l r : Expr} {op : CmpOp} {pos} {P : Bool → AH → Prop} (h : Ev c M H l fun a H1 => Ev c M H1 r fun b H2 => ∃ x, Cmp c M H2 op a b x ∧ P x H2) (hm : behindInMarks op r = false := by with_unfolding_all rfl) : Tv c M H (.Compare l [op] [r] pos) P :=
  fun hp k s Q E q e => wpAny_isTrue_Compare1 (h hp k s _ _ (fun a' h1 k1 M1 H1 p1 s1 => by
    have zq := p1; rcases zq.1 with rfl; have p1 := zq.2
    exact p1 h1 k1 s1 _ _ (fun b' h2 k2 M2 H2 p2 s2 => by
      rcases p2.1 with rfl; refine el1_1 p2.2 fun x ho p => ?_; try clear p2
      exact ho a' b' h2 k2 s2 _ _ rfl rfl fun h3 k3 s3 => wpAny_truthy_bool (q _ _ _ _ _ ⟨rfl, p⟩ s3)) e) e) hm
theorem Tv.not {x : Expr} {pos} {P : Bool → AH → Prop} (h : Tv c M H x fun b H' => P (!b) H') : Tv c M H (.UnaryOp .Not x pos) P := fun hp k s Q E q e =>
  isTrue_not (h hp k s _ _ (fun b h' k' M' H' p s' => by have zq := p; rcases zq.1 with rfl; have p := zq.2; exact q _ _ _ _ _ ⟨rfl, p⟩ s') e)
theorem Tv.or {x y : Expr} {pos} {P : Bool → AH → Prop} (h : Tv c M H x fun b H' => if b then P true H' else Tv c M H' y P) : Tv c M H (.BoolOp .Or [x, y] pos) P := fun hp k s Q E q e =>
  isTrue_or (h hp k s _ _ (fun b h' k' M' H' p s' => by
    have zq := p; rcases zq.1 with rfl; have p := zq.2
    cases b with
    | true => exact q _ _ _ _ _ ⟨rfl, p⟩ s'
    | false => exact isTrue_or (p h' k' s' _ _ (fun b h2 k2 M2 H2 p2 s2 => by
        have zq := p2; rcases zq.1 with rfl; have p2 := zq.2
        cases b with
        | true => exact q _ _ _ _ _ ⟨rfl, p2⟩ s2
        | false => exact isTrue_or_nil (q _ _ _ _ _ ⟨rfl, p2⟩ s2)) e)) e)
theorem Tv.and {x y : Expr} {pos} {P : Bool → AH → Prop} (h : Tv c M H x fun b H' => if b then Tv c M H' y P else P false H') : Tv c M H (.BoolOp .And [x, y] pos) P := fun hp k s Q E q e =>
  isTrue_and (h hp k s _ _ (fun b h' k' M' H' p s' => by
    have zq := p; rcases zq.1 with rfl; have p := zq.2
    cases b with
    | false => exact q _ _ _ _ _ ⟨rfl, p⟩ s'
    | true => exact isTrue_and (p h' k' s' _ _ (fun b h2 k2 M2 H2 p2 s2 => by
        have zq := p2; rcases zq.1 with rfl; have p2 := zq.2
        cases b with
        | false => exact q _ _ _ _ _ ⟨rfl, p2⟩ s2
        | true => exact isTrue_and_nil (q _ _ _ _ _ ⟨rfl, p2⟩ s2)) e)) e)
theorem Ev.iteT {t x y : Expr} {pos} {P : Value → AH → Prop} (ht : Tv c M H t fun b H' => if b then Ev c M H' x P else Ev c M H' y P) : Ev c M H (.IfExp t x y pos) P := fun hp k s Q E q e =>
  IfExp_ (ht hp k s _ _ (fun b h' k' M' H' p s' => by
    have zq := p; rcases zq.1 with rfl; have p := zq.2
    cases b with
    | true => exact p h' k' s' Q E q e
    | false => exact p h' k' s' Q E q e) e)
theorem Ex.iteT {rest : List Stmt} {P : Fl → Mem → AH → Prop} {t : Expr} {b1 b2 : List Stmt} {pos : Pos}
    (ht : Tv c M H t fun b H' => Ex c M H' (if b then b1 else b2) fun fl M' H' => match fl with | .next => Ex c M' H' rest P | f => P f M' H') : Ex c M H (.If t b1 b2 pos :: rest) P :=
  Ex.cons fun hp k s Q E q' e' => wpAny_If (ht hp k s _ _ (fun b h' k' M' H' p s' => by
    have zq := p; rcases zq.1 with rfl; have p := zq.2
    cases b with
    | true => exact p h' k' s' Q E (fun f h'' k'' M' H' p s'' => q' f _ _ _ _ (by cases f <;> exact p) s'') e'
    | false => exact p h' k' s' Q E (fun f h'' k'' M' H' p s'' => q' f _ _ _ _ (by cases f <;> exact p) s'') e') e')
theorem St.alloc (ok : c.Ok n) {h : Heap} (s : St c M H h) {o : AO} {ob : Obj} (n' : ∀ C vs, o ≠ .inst C vs) (hf : ob.isFreed = false) (r : ∀ news d, (h.objs.size, ob) ∈ news → RepO c.w news d h.objs.size o) :
    H h.objs.size = none ∧ St c M (upd H h.objs.size o) (h.push ob) := by
  refine el2_3 s fun news δ N nd A l => ?_
  refine Exists.elim (ok.fr _ _ _ l) fun m F => ?_
  have nn : h.objs.size ∉ ads news := fun z => by refine el1_1 (List.mem_map.mp z) fun p hp' e => ?_; exact absurd (Heap.lt_size (N p hp').1) (by rw [e]; exact Nat.lt_irrefl _)
  have zq := A.fresh (ob := ob) nn n' (r _ _ List.mem_cons_self); have hn := zq.1; have A' := zq.2
  refine ⟨hn, (h.objs.size, ob) :: news, δ, ?_, List.nodup_cons.mpr ⟨nn, nd⟩, A', ok.keep _ _ _ _ _ l ⟨fun b o e _ _ => Heap.get?_push_of_some _ e, fun b _ m' e => Ns_of_get e fun o e => Heap.get?_push_of_some _ e⟩ fun a ha => ?_⟩
  · intro p hp
    rcases List.mem_cons.mp hp with rfl | hp
    · refine ⟨Heap.get?_push_size h hf, fun z => ?_, ?_⟩
      · refine el3_1 F.ns fun o _ _ x _ => ?_
        have z : h.objs.size = c.L := z
        exact absurd (Heap.lt_size x) (by rw [z]; exact Nat.lt_irrefl _)
      · cases q : c.h₀.get? h.objs.size with
        | none => rfl
        | some o => exact absurd (Heap.lt_size (F.keep _ _ q)) (Nat.lt_irrefl _)
    · exact ⟨Heap.get?_push_of_some _ (N p hp).1, (N p hp).2⟩
  · rcases List.mem_cons.mp ha with rfl | ha
    · exact .inr (Heap.get?_none_of_le (Nat.le_refl _))
    · exact .inl ha
theorem St.allocL (ok : c.Ok n) {h : Heap} (s : St c M H h) (vs : List Value) : H h.objs.size = none ∧ St c M (upd H h.objs.size (.list (vs.map er))) (h.push (lsO vs 0)) :=
  s.alloc ok (fun _ _ z => by cases z) rfl fun news d m => ⟨vs, 0, m, rfl⟩
theorem St.allocT (ok : c.Ok n) {h : Heap} (s : St c M H h) (vs : List Value) : H h.objs.size = none ∧ St c M (upd H h.objs.size (.tup (vs.map er))) (h.push (tpO vs 0)) :=
  s.alloc ok (fun _ _ z => by cases z) rfl fun news d m => ⟨vs, 0, m, rfl⟩
theorem Sub.upd_new {a : Addr} {o : AO} (h : H a = none) : Sub H (upd H a o) := fun b x e => by rw [upd_ne fun z => by rw [z, h] at e; cases e]; exact e
theorem Ev.list (ok : c.Ok n) {es : List Expr} {pos : Pos} {P : Value → AH → Prop} (hn : noStar es = true) (h : Args c M H es fun vs H1 => vs.length ≤ sizeLine ∧ ∀ a, H1 a = none → P (.ref a) (upd H1 a (.list vs))) : Ev c M H (.List es pos) P := fun hp k s Q E q e => by
  rw [arm_eval_List, backTo_noStar pos c.env hn]
  refine wpAny_bind (wpAny_standAt (wpAny_bind (h.spliced hp k s _ _ (fun vs h' k' M' H' p s' => ?_) e)))
  obtain ⟨rfl, hz, p⟩ := p
  rw [List.length_map] at hz
  obtain ⟨hn', s2⟩ := s'.allocL ok vs
  exact wpAny_newList (q _ _ _ _ _ ⟨rfl, p _ hn'⟩ s2) hz
theorem Ev.tup (ok : c.Ok n) {es : List Expr} {x} {pos : Pos} {P : Value → AH → Prop} (hn : noStar es = true) (h : Args c M H es fun vs H1 => vs.length ≤ sizeLine ∧ ∀ a, H1 a = none → P (.ref a) (upd H1 a (.tup vs))) : Ev c M H (.Tuple es x pos) P := fun hp k s Q E q e => by
  rw [arm_eval_Tuple, backTo_noStar pos c.env hn]
  refine wpAny_bind (wpAny_standAt (wpAny_bind (h.spliced hp k s _ _ (fun vs h' k' M' H' p s' => ?_) e)))
  obtain ⟨rfl, hz, p⟩ := p
  rw [List.length_map] at hz
  obtain ⟨hn', s2⟩ := s'.allocT ok vs
  exact wpAny_newTuple (q _ _ _ _ _ ⟨rfl, p _ hn'⟩ s2) hz
end
section
variable {c : Cx} {M : Mem} {H : AH} {n : Nat}
noncomputable def OpJ (c : Cx) (M : Mem) (H : AH) (op : Operator) (a b : Value) (P : Value → AH → Prop) : Prop := ∀ a' b', er a' = a → er b' = b → W c M H (binaryOp op a' b') fun v M' H' => M' = M ∧ P (er v) H'
theorem Ev.opJ {l r : Expr} {o : Operator} {pos} {P : Value → AH → Prop} (h : Ev c M H l fun a H1 => Ev c M H1 r fun b H2 => OpJ c M H2 o a b P) : Ev c M H (.BinOp l o r pos) P :=
  fun hp k s Q E q e => wpAny_BinOp (h hp k s _ _ (fun a' h' k' M' H' p s' => by
    have zq := p; rcases zq.1 with rfl; have p := zq.2
    exact p h' k' s' _ _ (fun b' h2 k2 M2 H2 p2 s2 => by
      have zq := p2; rcases zq.1 with rfl; have p2 := zq.2
      exact p2 a' b' rfl rfl h2 k2 s2 Q E q e) e) e)
theorem St.isL {h : Heap} (s : St c M H h) {a : Addr} {xs : List Value} (hH : H a = some (.list xs)) : ∃ vs n, IsL h a (List.toArray vs) n ∧ vs.map er = xs := by
  refine el2_3 s fun news δ N nd A l => ?_
  refine el2_1 (A.rep a _ hH) fun vs n h1 e => ?_
  exact ⟨vs, n, (N _ h1).1, e⟩
theorem St.mapSeq (ok : c.Ok n) {h : Heap} (s : St c M H h) {a : Addr} {xs : List Value} (hH : H a = some (.list xs)) : ∃ vs n, IsL h a (List.toArray vs) n ∧ vs.map er = xs ∧
    ∀ f vs', f (List.toArray vs) = List.toArray vs' → St c M (upd H a (.list (vs'.map er))) (h.update a (Obj.mapSeq f)) := by
  refine el2_3 s fun news δ N nd A l => ?_
  refine el2_1 (A.rep a _ hH) fun vs n h1 e => ?_
  refine ⟨vs, n, (N _ h1).1, e, fun f vs' hf => ?_⟩
  have u := PySem.IsL.update (N _ h1).1 f
  rw [hf] at u
  refine ⟨_, δ, news_setL N h1 (Heap.SameBut.update ..) u, by rw [setL_ads]; exact nd, A.turn hH (fun _ _ z => by cases z) ⟨vs', _, setL_at h1, rfl⟩, ?_⟩
  rw [setL_ads]
  have sb := Heap.SameBut.update h a (Obj.mapSeq f)
  have ha : a ∈ ads news := List.mem_map_of_mem h1
  refine ok.keep _ _ _ _ _ l ⟨fun b o e n1 _ => (sb.2 b fun z => n1 (z ▸ ha)).trans e, fun b hb m e => Ns_of_get e fun o e => (sb.2 b fun z => (fads_off ok l hb).1 (z ▸ ha)).trans e⟩ fun a ha => .inl ha
theorem OpJ.cat (ok : c.Ok n) {a b : Addr} {xs ys : List Value} {P : Value → AH → Prop} (ha : H a = some (.list xs)) (hb : H b = some (.list ys)) (hz : xs.length + ys.length ≤ sizeLine) (p : ∀ d, H d = none → P (.ref d) (upd H d (.list (xs ++ ys)))) : OpJ c M H .Add (.ref a) (.ref b) P :=
  fun a' b' za zb hp k s Q E q e => by
    rw [er_ref za, er_ref zb]
    refine el2_1 (s.isL ha) fun vs n1 i1 e1 => ?_
    refine el2_1 (s.isL hb) fun ws n2 i2 e2 => ?_
    have zq := s.allocL ok (vs ++ ws); have hn := zq.1; have s2 := zq.2
    refine PySem.P.add_list (s := c.at hp k) i1 i2 ?_ (by rw [← e1, ← e2, List.length_map, List.length_map] at hz; simpa using hz)
    rw [List.append_toArray]
    refine q _ _ _ _ _ ⟨rfl, p _ hn⟩ ?_
    rw [← e1, ← e2, ← List.map_append]
    exact s2
theorem OpJ.rep (ok : c.Ok n) {a : Addr} {k : Int} {xs : List Value} {P : Value → AH → Prop} (ha : H a = some (.list xs)) (h0 : 0 ≤ k) (h1 : k < 2 ^ 63) (hz : xs.length * k.toNat ≤ 2 ^ 24) (p : ∀ d, H d = none → P (.ref d) (upd H d (.list (List.replicate k.toNat xs).flatten))) : OpJ c M H .Mult (.ref a) (.int k 0) P :=
  fun a' b' za zb hp kk s Q E q e => by
    rw [er_ref za]
    refine Exists.elim (er_int zb) fun t z91 => ?_; rcases z91 with rfl
    refine el2_1 (s.isL ha) fun vs n1 i1 e1 => ?_
    have zq := s.allocL ok (List.replicate k.toNat vs).flatten; have hn := zq.1; have s2 := zq.2
    refine wpAny_binaryOp_repeat_ref (s := c.at hp kk) (T := "list") (U := "int") (by decide) ⟨_, i1, rfl⟩ (fun s' => typeIs_int s' k t) noFill_list_mul F.fills_int_mul F.slot_int_rmul repeat_list F.slot_int_index.lookup
      (call_meets F.slot_int_rmul (typeIs_int _ k t) F.entry_int_rmul (F.args_int_rmul_2 _ _) (int___rmul___int_list k t a _ n1)
        ⟨i1, rfl, ⟨_, i1, rfl⟩, call_meets F.slot_list_mul ⟨_, i1, rfl⟩ F.entry_list_mul (F.args_list_mul_2 _ _)
          (AutoListH.list___mul___list_int_3 a _ n1 k t (by simp [Builtin.List.listFitsIndex]; lia) ?_ ?_) ⟨i1, ?_⟩⟩)
    · rw [← e1, List.length_map] at hz
      rw [List.size_toArray]; lia
    · rw [← e1, List.length_map] at hz
      simp [Builtin.List.listTooLong, sizeLine]; omega
    · rw [listMul_foldl_if]
      refine q _ _ _ _ _ ⟨rfl, p _ hn⟩ ?_
      rw [← e1]
      have : (List.replicate k.toNat (vs.map er)).flatten = ((List.replicate k.toNat vs).flatten).map er := by rw [List.map_flatten, List.map_replicate]
      rw [this]
      exact s2
theorem sub_tail {value slice : Expr} {o i : Value} {T id : String} {A : Around} {w : World} {s : Shared} {Q : Value → Shared → Prop} {E : Value → Shared → Prop} (hT : s.TypeIs o T)
    (hl : typeLookup (.type T) "__getitem__" = pure (some (.builtin id))) (h : wpAny (model pw w) A (getItem o i) Q E s)
    (hs : subscripted slice false o i = operate [o, i] (getItem o i)) : wpAny (model pw w) A (subscriptTail value slice o i) Q E s := by
  unfold subscriptTail
  refine wpAny_bind ?_
  rw [getitemInPython_of_ne hT.not_modules]
  refine wpAny_bind (wpAny_specialOf hT hl ?_)
  have fin : wpAny (model pw w) A (subscripted slice false o i) (fun r s₃ => wpAny (model pw w) A (letTemporaryGo value o r >>= fun _ => pure r) Q E s₃) E s := by
    rw [hs]
    exact wpAny_operating (wpAny_mono h (fun r s₃ h₃ => wpAny_bind (wpAny_letTemporaryGo (wpAny_pure h₃))) fun _ _ x => x)
  first
    | exact wpAny_pure (wpAny_bind fin)
    | exact wpAny_bind (wpAny_pure (wpAny_bind fin))
    | exact wpAny_bind fin
noncomputable def noSlice : Expr → Bool
  | .Slice .. => false
  | _ => true
theorem noSlice_eq {e : Expr} {o i : Value} (h : noSlice e = true) : subscripted e false o i = operate [o, i] (getItem o i) := by cases e <;> first | (cases h; done) | rfl
theorem Pe.item {o i : Expr} {pos : Pos} {a : Addr} {k : Int} {xs : List Value} {v : Value} (ho : Pe c M H o (.ref a)) (hi : Pe c M H i (.int k 0)) (ha : H a = some (.list xs)) (h0 : 0 ≤ k) (h1 : k < 2 ^ 63) (hv : xs[k.toNat]? = some v) (hs : noSlice i = true := by rfl) : Pe c M H (.Subscript o i pos) v :=
  fun hp kk s Q E q => Subscript_ (ho hp kk s _ _ fun o' h' k' z s' => hi h' k' s' _ _ fun i' h2 k2 z2 s2 => by
    rw [er_ref z]
    refine Exists.elim (er_int z2) fun t z91 => ?_; rcases z91 with rfl
    refine el1_1 (s2.isList ha) fun vs hl e => ?_
    rw [← e, List.getElem?_map] at hv
    refine el1_1 (Option.map_eq_some_iff.mp hv) fun v' hv' ev => ?_
    exact sub_tail (s := c.at h2 k2) hl.typeIs PySem.list_getitem_lookup (wpAny_getItem_list hl h0 h1 (by simpa using hv') (q v' h2 k2 ev s2)) (noSlice_eq hs))
theorem Pe.itemT {o i : Expr} {pos : Pos} {a : Addr} {k : Int} {xs : List Value} {v : Value} (ho : Pe c M H o (.ref a)) (hi : Pe c M H i (.int k 0)) (ha : H a = some (.tup xs)) (h0 : 0 ≤ k) (h1 : k < 2 ^ 63) (hv : xs[k.toNat]? = some v) (hs : noSlice i = true := by rfl) : Pe c M H (.Subscript o i pos) v :=
  fun hp kk s Q E q => Subscript_ (ho hp kk s _ _ fun o' h' k' z s' => hi h' k' s' _ _ fun i' h2 k2 z2 s2 => by
    rw [er_ref z]
    refine Exists.elim (er_int z2) fun t z91 => ?_; rcases z91 with rfl
    refine el1_1 (s2.isTup ha) fun vs hl e => ?_
    rw [← e, List.getElem?_map] at hv
    refine el1_1 (Option.map_eq_some_iff.mp hv) fun v' hv' ev => ?_
    have hlt : k.toNat < vs.length := by obtain ⟨h, _⟩ := List.getElem?_eq_some_iff.mp hv'; exact h
    refine sub_tail (s := c.at h2 k2) hl.typeIs slot_tuple_getitem.lookup (getItem_tuple hl (j := k.toNat) (by lia) h1 ?_ (by simpa using hv') (q v' h2 k2 ev s2)) (noSlice_eq hs)
    unfold seqIndex?
    rw [List.size_toArray]
    simp
    lia)
noncomputable def PeO (c : Cx) (M : Mem) (H : AH) (e : Option Expr) (k : Option Int) : Prop := match e, k with
  | none, none => True
  | some e, some i => Pe c M H e (.int i 0)
  | _, _ => False
theorem PeO.part {e : Option Expr} {k : Option Int} (p : PeO c M H e k) {h : Heap} {kk : Nat} (s : St c M H h) {Q : Value → Shared → Prop} {E : Value → Shared → Prop} (q : ∀ v h' k', IsPart v k → St c M H h' → Q v (c.at h' k')) :
    wpAny (model pw c.w) c.A (evalPart e c.env) Q E (c.at h kk) := by
  match e, k, p with
  | none, none, _ => exact evalPart_none_step (q _ _ _ .none s)
  | some e, some i, p => exact evalPart_some_step (p h kk s _ _ fun v h' k' z s' => by refine Exists.elim (er_int z) fun t z91 => ?_; rcases z91 with rfl; exact q _ _ _ (.int i t) s')
theorem kms_map (vs : List Value) (lo hi : Option Int) : (kms_pick vs lo hi).map er = kms_pick (vs.map er) lo hi := by unfold kms_pick; rw [List.map_take, List.map_drop, List.length_map]
theorem sub_tailS {value : Expr} {lo hi : Option Expr} {p : Pos} {o i : Value} {T id : String} {A : Around} {w : World} {s : Shared} {Q : Value → Shared → Prop} {E : Value → Shared → Prop} (hT : s.TypeIs o T)
    (hl : typeLookup (.type T) "__getitem__" = pure (some (.builtin id))) (h : wpAny (model pw w) A (getItem o i) Q E s) : wpAny (model pw w) A (subscriptTail value (.Slice lo hi none p) o i) Q E s := by
  unfold subscriptTail
  refine wpAny_bind ?_
  rw [getitemInPython_of_ne hT.not_modules]
  refine wpAny_bind (wpAny_specialOf hT hl ?_)
  have fin : wpAny (model pw w) A (subscripted (.Slice lo hi none p) false o i) (fun r s₃ => wpAny (model pw w) A (letTemporaryGo value o r >>= fun _ => pure r) Q E s₃) E s := by
    show wpAny _ _ (operate [i, o] (getItem o i)) _ _ _
    exact wpAny_operating (wpAny_mono h (fun r s₃ h₃ => wpAny_bind (wpAny_letTemporaryGo (wpAny_pure h₃))) fun _ _ x => x)
  first
    | exact wpAny_pure (wpAny_bind fin)
    | exact wpAny_bind (wpAny_pure (wpAny_bind fin))
    | exact wpAny_bind fin
theorem Ev.slice (ok : c.Ok n) {o : Expr} {lo hi : Option Expr} {p pos : Pos} {a : Addr} {xs : List Value} {l u : Option Int} {P : Value → AH → Prop} (ho : Pe c M H o (.ref a)) (ha : H a = some (.list xs)) (hl : PeO c M H lo l) (hu : PeO c M H hi u) (hz : xs.length ≤ sizeLine)
    (q : ∀ d, H d = none → P (.ref d) (upd H d (.list (kms_pick xs l u)))) : Ev c M H (.Subscript o (.Slice lo hi none p) pos) P :=
  fun hp kk s Q E qq e => Subscript_ (ho hp kk s _ _ fun o' h' k' z s' => wpAny_Slice (hl.part s' fun vl h2 k2 pl s2 => hu.part s2 fun vu h3 k3 pu s3 => evalPart_none_step (by
    refine el1_1 (s3.isList ha) fun vs il ev => ?_
    rw [er_ref z]
    have s4 := s3.grown ok (h' := h3.push { cls := .type "slice", data := .fields #[vl, vu, .none] }) fun b o e => Heap.get?_push_of_some _ e
    have zq := s4.allocL ok (kms_pick vs l u); have hn := zq.1; have s5 := zq.2
    have il' : (h3.push { cls := .type "slice", data := .fields #[vl, vu, .none] }).IsList a vs.toArray := il.push _
    refine sub_tailS (s := c.at (h3.push { cls := .type "slice", data := .fields #[vl, vu, .none] }) k3) il'.typeIs PySem.list_getitem_lookup (wpAny_getItem_list_slice (s := c.at (h3.push { cls := .type "slice", data := .fields #[vl, vu, .none] }) k3) il' (Heap.IsSliceOf.new ..) pl pu .none (by simp) ?_ (by rw [List.size_toArray]; rw [← ev, List.length_map] at hz; exact hz))
    rw [kms_pick_eq]
    refine qq _ _ _ _ _ ⟨rfl, q _ hn⟩ ?_
    rw [kms_map, ev] at s5
    exact s5)))
end
section
variable {c : Cx} {M : Mem} {H : AH} {n : Nat}
theorem kept_all {h₀ h h' : Heap} {L : Addr} {m : Str → Option Value} {F N : List Addr} (x : Fr h₀ L h m) (y : Fr h₀ L h' m) (o : ∀ p ∈ others h₀ h L L, h'.get? p.1 = some p.2) (hL : L ∈ F) : Kept F N h h' ∧ ∀ b o, h.get? b = some o → b ≠ L → h'.get? b = some o := by
  have key : ∀ b ob, h.get? b = some ob → b ≠ L → h'.get? b = some ob := fun b ob e h2 => by
    cases z : h₀.get? b with
    | none => exact o (b, ob) (others_mem e h2 h2 z)
    | some o' =>
      have := x.keep b o' z
      rw [e] at this; cases this
      exact y.keep b ob z
  refine ⟨⟨fun b ob e h1 h2 => key b ob e fun q => h2 (q ▸ hL), fun b hb m' e => ?_⟩, key⟩
  by_cases q : b = L
  · subst q; rw [Ns_one e x.ns]; exact y.ns
  · exact Ns_of_get e fun ob e' => key b ob e' q
theorem St.libNew (ok : c.Ok n) {h h' : Heap} (s : St c M H h) {m : Str → Option Value} {D : Addr} {ob : Obj} {o : AO} (x : Fr c.h₀ c.L h m) (y : Fr c.h₀ c.L h' m) (N' : News c.h₀ c.L h' ((D, ob) :: others c.h₀ h c.L c.L)) (lt : ∀ p ∈ others c.h₀ h c.L c.L, p.1 < D)
    (n' : ∀ C vs, o ≠ .inst C vs) (r : ∀ news d, (D, ob) ∈ news → RepO c.w news d D o) : H D = none ∧ St c M (upd H D o) h' := by
  refine el2_3 s fun news δ N nd A l => ?_
  have zq := kept_all (N := ads news) x y (fun p hp => (N' p (List.mem_cons_of_mem _ hp)).1) ok.own; have k1 := zq.1; have k2 := zq.2
  have inO : ∀ p ∈ news, (p.1, p.2) ∈ others c.h₀ h c.L c.L := fun p hp => others_mem (N p hp).1 (N p hp).2.1 (N p hp).2.1 (N p hp).2.2
  have nn : D ∉ ads news := fun z => by refine el1_1 (List.mem_map.mp z) fun p hp e => ?_; exact absurd (lt _ (inO p hp)) (by rw [e]; exact Nat.lt_irrefl _)
  have zq := A.fresh (ob := ob) nn n' (r _ _ List.mem_cons_self); have hn := zq.1; have A' := zq.2
  refine ⟨hn, (D, ob) :: news, δ, fun p hp => ?_, List.nodup_cons.mpr ⟨nn, nd⟩, A', ok.keep _ _ _ _ _ l k1 fun a ha => ?_⟩
  · rcases List.mem_cons.mp hp with rfl | hp
    · exact N' _ List.mem_cons_self
    · exact ⟨k2 _ _ (N p hp).1 (N p hp).2.1, (N p hp).2⟩
  · rcases List.mem_cons.mp ha with rfl | ha
    · right
      cases q : h.get? a with
      | none => rfl
      | some ob' =>
        have na := N' _ (List.mem_cons_self (a := (a, ob)))
        exact absurd (lt _ (others_mem q na.2.1 na.2.1 na.2.2)) (Nat.lt_irrefl _)
    · exact .inl ha
theorem CallJ.listOf (ok : c.Ok n) {a : Addr} {xs : List Value} {P : Value → AH → Prop} (ha : H a = some (.list xs)) (hz : xs.length ≤ sizeLine) (p : ∀ d, H d = none → P (.ref d) (upd H d (.list xs))) : CallJ c M H (.type "list") [.ref a] P :=
  fun vs' hv hp k s Q E q e => by
    refine el1_1 (one_of hv) fun a' z91 z => ?_; rcases z91 with rfl
    rw [er_ref z]
    refine el1_1 (s.isList ha) fun vs hl ev => ?_
    refine Exists.elim (ok.at s) fun m F => ?_
    refine list_copyK (s := c.at hp k) F (others_news c.h₀ hp c.L c.L) hl (fun D cc h' F' N' lt => ?_) (by rw [List.size_toArray]; rw [← ev, List.length_map] at hz; exact hz)
    have zq := s.libNew ok (o := .list (vs.map er)) F F' N' lt (fun _ _ z => by cases z) fun news d m => ⟨vs, cc, m, rfl⟩; have hn := zq.1; have s' := zq.2
    rw [ev] at s'
    exact q _ _ _ _ _ ⟨rfl, p _ hn⟩ s'
theorem setBounds (n : Nat) (lo hi : Option Int) : (sliceBounds lo hi none n).1 = (kms_lo lo n : Int) ∧ (sliceBounds lo hi none n).2.1 = (kms_hi hi n : Int) := by
  rw [kms_bounds]; exact ⟨rfl, rfl⟩
noncomputable def spliced' (xs : List Value) (lo hi : Option Int) (ys : List Value) : List Value := xs.take (kms_lo lo xs.length) ++ ys ++ xs.drop (max (kms_lo lo xs.length) (kms_hi hi xs.length))
theorem kms_le (lo : Option Int) (n : Nat) : kms_lo lo n ≤ n ∧ kms_hi lo n ≤ n := by
  constructor
  · unfold kms_lo; split
    · exact Nat.zero_le _
    · split
      · exact Nat.sub_le _ _
      · exact Nat.min_le_right _ _
  · unfold kms_hi; split
    · exact Nat.le_refl _
    · split
      · exact Nat.sub_le _ _
      · exact Nat.min_le_right _ _
theorem cut_eq (vs ws : List Value) (a b : Nat) (ha : a ≤ vs.length) (hb : b ≤ vs.length) : (vs.toArray.extract 0 a ++ ws.toArray ++ vs.toArray.extract b vs.toArray.size) = (vs.take a ++ ws ++ vs.drop b).toArray := by
  apply Array.toList_inj.mp
  simp
  exact List.take_of_length_le (by simp)
theorem Ex.setSl (ok : c.Ok n) {rest : List Stmt} {P : Fl → Mem → AH → Prop} {o e : Expr} {lo hi : Option Expr} {p pos q : Pos} {l u : Option Int}
    (h : Ev c M H e fun v H' => ∃ a b xs ys, v = .ref b ∧ Pe c M H' o (.ref a) ∧ PeO c M H' lo l ∧ PeO c M H' hi u ∧ a ≠ b ∧ H' a = some (.list xs) ∧ H' b = some (.list ys) ∧ xs.length + ys.length ≤ sizeLine ∧ Ex c M (upd H' a (.list (spliced' xs l u ys))) rest P)
    (hs : swapsWith e (some (.Subscript o (.Slice lo hi none p) q)) pos.line c.env = pure false := by rfl) : Ex c M H (.Assign [.Subscript o (.Slice lo hi none p) q] e pos :: rest) P :=
  Ex.cons fun hp k s Q E q' e' => by
    refine wpAny_Assign_Subscript (h hp k s _ _ (fun v h' k' M' H' p s' => ?_) e') hs
    have zq := p; rcases zq.1 with rfl; refine el4_8 zq.2 fun a b xs ys hv ho hl hu hab ha hb hz p => ?_
    rw [er_ref hv]
    refine ho h' k' s' _ _ fun o' h2 k2 z s2 => ?_
    rw [er_ref z]
    refine wpAny_Slice (hl.part s2 fun vl h3 k3 pl s3 => hu.part s3 fun vu h4 k4 pu s4 => evalPart_none_step ?_)
    have s5 := s4.grown ok (h' := h4.push { cls := .type "slice", data := .fields #[vl, vu, .none] }) fun b o e => Heap.get?_push_of_some _ e
    refine el2_2 (s5.mapSeq ok ha) fun vs nn il ev tr => ?_
    refine el2_1 (s5.isL hb) fun ws n2 ib ew => ?_
    refine setSlice_raw (s := c.at (h4.push { cls := .type "slice", data := .fields #[vl, vu, .none] }) k4) il.isList ib.isList hab (Heap.IsSliceOf.new ..) pl pu ?_ fun f hf => ?_
    · rw [List.size_toArray, List.size_toArray]; rw [← ev, ← ew, List.length_map, List.length_map] at hz; exact hz
    · have kl := kms_le l vs.length
      have ku := kms_le u vs.length
      have zq := setBounds vs.length l u; have b1 := zq.1; have b2 := zq.2
      rw [List.size_toArray, b1, b2] at hf
      have mx : (max (kms_lo l vs.length : Int) (kms_hi u vs.length : Int)).toNat = max (kms_lo l vs.length) (kms_hi u vs.length) := by omega
      rw [mx, Int.toNat_natCast] at hf
      have hf' : f vs.toArray = (vs.take (kms_lo l vs.length) ++ ws ++ vs.drop (max (kms_lo l vs.length) (kms_hi u vs.length))).toArray := hf.trans (by
        have := cut_eq vs ws (kms_lo l vs.length) (max (kms_lo l vs.length) (kms_hi u vs.length)) kl.1 (Nat.max_le.mpr ⟨kl.1, ku.2⟩)
        rw [List.size_toArray] at this
        exact this)
      refine q' .next _ _ _ _ p ?_
      have s6 := tr f _ hf'
      have e6 : (vs.take (kms_lo l vs.length) ++ ws ++ vs.drop (max (kms_lo l vs.length) (kms_hi u vs.length))).map er = spliced' xs l u ys := by
        unfold spliced'
        rw [List.map_append, List.map_append, List.map_take, List.map_drop, ev, ew, ← ev, List.length_map]
      rw [e6] at s6
      exact s6
theorem Ex.setI (ok : c.Ok n) {rest : List Stmt} {P : Fl → Mem → AH → Prop} {o i e : Expr} {pos q : Pos}
    (h : Ev c M H e fun v H' => ∃ a k xs, Pe c M H' o (.ref a) ∧ Pe c M H' i (.int k 0) ∧ 0 ≤ k ∧ k < 2 ^ 63 ∧ H' a = some (.list xs) ∧ k < xs.length ∧ Ex c M (upd H' a (.list (xs.set k.toNat v))) rest P)
    (hs : swapsWith e (some (.Subscript o i q)) pos.line c.env = pure false := by rfl) : Ex c M H (.Assign [.Subscript o i q] e pos :: rest) P :=
  Ex.cons fun hp kk s Q E q' e' => by
    refine wpAny_Assign_Subscript (h hp kk s _ _ (fun v h' k' M' H' p s' => ?_) e') hs
    have zq := p; rcases zq.1 with rfl; refine el3_6 zq.2 fun a k xs ho hi h0 h1 ha hk p => ?_
    refine ho h' k' s' _ _ fun o' h2 k2 z s2 => ?_
    rw [er_ref z]
    refine hi h2 k2 s2 _ _ fun i' h3 k3 z3 s3 => ?_
    refine Exists.elim (er_int z3) fun t z91 => ?_; rcases z91 with rfl
    refine el2_2 (s3.mapSeq ok ha) fun vs nn il ev tr => ?_
    have hsz : k < vs.toArray.size := by rw [List.size_toArray]; rw [← ev, List.length_map] at hk; exact hk
    refine setItem_raw (s := c.at h3 k3) il h0 h1 hsz fun f hf => q' .next _ _ _ _ p ?_
    have s4 := tr f (vs.set k.toNat v) (by rw [hf]; simp)
    rw [List.map_set, ev] at s4
    exact s4
theorem valueAt_er {kvs : List (Int × Value)} {k : Int} {v : Value} (h : PySem.valueAt (erI kvs) k = some v) : ∃ v', PySem.valueAt kvs k = some v' ∧ er v' = v := by
  unfold PySem.valueAt erI at *
  rw [List.find?_map] at h
  refine el1_1 (Option.map_eq_some_iff.mp h) fun p hp e => ?_
  refine el1_1 (Option.map_eq_some_iff.mp hp) fun r hr e2 => ?_
  refine ⟨r.2, ?_, by rw [← e, ← e2]⟩
  have : (List.find? (fun kv => decide (kv.1 = k)) kvs) = some r := hr
  rw [this]; rfl
theorem valueAt_er' {kvs : List (Int × Value)} {k : Int} : (PySem.valueAt (erI kvs) k).isSome = (PySem.valueAt kvs k).isSome := by
  unfold PySem.valueAt erI
  rw [List.find?_map]
  simp only [Option.isSome_map]
  rfl
theorem stored_er (kvs : List (Int × Value)) (k : Int) (v : Value) : erI (PySem.stored kvs k v) = PySem.stored (erI kvs) k (er v) := by
  unfold PySem.stored erI
  rw [List.any_map]
  have : ((fun kv : Int × Value => decide (kv.1 = k)) ∘ fun p : Int × Value => (p.1, er p.2)) = fun kv => decide (kv.1 = k) := rfl
  rw [this]
  split
  · rw [List.map_map, List.map_map]
    refine List.map_congr_left fun p _ => ?_
    simp only [Function.comp]
    split <;> rfl
  · rw [List.map_append]; rfl
theorem without_er (kvs : List (Int × Value)) (k : Int) : erI (PySem.without kvs k) = PySem.without (erI kvs) k := by
  unfold PySem.without erI
  rw [List.filter_map]; rfl
theorem St.isDict {h : Heap} (s : St c M H h) {a : Addr} {es : List (Int × Value)} (hH : H a = some (.dct es)) : ∃ o kvs, News c.h₀ c.L h [(a, o)] ∧ o.IsDictOf (intKind pw c.w) kvs ∧ erI kvs = es := by
  refine el2_3 s fun news δ N nd A l => ?_
  refine el2_2 (A.rep a _ hH) fun o kvs h1 hd e => ?_
  exact ⟨o, kvs, fun p hp => by rw [List.mem_singleton.mp hp]; exact N _ h1, hd, e⟩
theorem isInt_er {v : Value} {i : Int} (h : er v = .int i 0) : (intKind pw c.w).is i v = true := by
  refine Exists.elim (er_int h) fun t z91 => ?_; rcases z91 with rfl
  show Value.isInt i (.int i t) = true
  simp [Value.isInt]
theorem Pe.itemD {o i : Expr} {pos : Pos} {a : Addr} {k : Int} {es : List (Int × Value)} {v : Value} (ho : Pe c M H o (.ref a)) (hi : Pe c M H i (.int k 0)) (ha : H a = some (.dct es)) (hv : PySem.valueAt es k = some v) (hs : noSlice i = true := by rfl) : Pe c M H (.Subscript o i pos) v :=
  fun hp kk s Q E q => Subscript_ (ho hp kk s _ _ fun o' h' k' z s' => hi h' k' s' _ _ fun i' h2 k2 z2 s2 => by
    rw [er_ref z]
    refine el2_2 (s2.isDict ha) fun ob kvs N hd e => ?_
    rw [← e] at hv
    refine el1_1 (valueAt_er hv) fun v' hv' ev => ?_
    have hD := kda_dict (s := c.at h2 k2) N List.mem_cons_self hd
    exact sub_tail (s := c.at h2 k2) hD.typeIs slot_dict_getitem.lookup (wpAny_getItem_of (isInt_er z2) hD.mapOf hv' (q v' h2 _ ev s2)) (noSlice_eq hs))
theorem Cmp.inD {a : Addr} {k : Int} {es : List (Int × Value)} (ha : H a = some (.dct es)) (hm : a ≠ 1) : Cmp c M H .In (.int k 0) (.ref a) (PySem.valueAt es k).isSome := fun a' b' h kk s Q E za zb q => by
  rw [er_ref zb]
  refine el2_2 (s.isDict ha) fun ob kvs N hd e => ?_
  rw [← e, valueAt_er'] at q
  exact kda_in (s := c.at h kk) N List.mem_cons_self hd (by simpa [sysModules] using hm) (isInt_er za) _ rfl (q h _ s)
theorem Ex.setD (ok : c.Ok n) {rest : List Stmt} {P : Fl → Mem → AH → Prop} {o i e : Expr} {pos q : Pos}
    (h : Ev c M H e fun v H' => ∃ a k es, Pe c M H' o (.ref a) ∧ Pe c M H' i (.int k 0) ∧ H' a = some (.dct es) ∧ es.length ≤ sizeLine ∧ Ex c M (upd H' a (.dct (PySem.stored es k v))) rest P)
    (hs : swapsWith e (some (.Subscript o i q)) pos.line c.env = pure false := by rfl) : Ex c M H (.Assign [.Subscript o i q] e pos :: rest) P :=
  Ex.cons fun hp kk s Q E q' e' => by
    refine wpAny_Assign_Subscript (h hp kk s _ _ (fun v h' k' M' H' p s' => ?_) e') hs
    have zq := p; rcases zq.1 with rfl; refine el3_4 zq.2 fun a k es ho hi ha hz p => ?_
    refine ho h' k' s' _ _ fun o' h2 k2 z s2 => ?_
    rw [er_ref z]
    refine hi h2 k2 s2 _ _ fun i' h3 k3 z3 s3 => ?_
    refine el2_3 s3 fun news δ N nd A l => ?_
    refine Exists.elim (ok.fr _ _ _ l) fun m F => ?_
    refine el2_2 (A.rep a _ ha) fun ob kvs h1 hd ee => ?_
    refine kda_set (s := c.at h3 k3) (news := (a, ob) :: others c.h₀ h3 c.L a) F (fun p hp => ?_) (.head fun p hp => (mem_others hp).1) hd (isInt_er z3) (by rw [← ee] at hz; unfold erI at hz; rw [List.length_map] at hz; exact hz) fun h4 o' F' N' hd' => q' .next _ _ _ _ p ?_
    · rcases List.mem_cons.mp hp with rfl | hp
      · exact N _ h1
      · exact others_news _ _ _ _ p hp
    · exact St.turned ok N nd l F F' N' h1 (A.turn ha (fun _ _ z => by cases z) ⟨o', _, setL_at h1, hd', by rw [stored_er, ee]⟩)
theorem Ev.dict (ok : c.Ok n) {pos : Pos} {P : Value → AH → Prop} (p : ∀ d, H d = none → P (.ref d) (upd H d (.dct []))) : Ev c M H (.Dict [] [] pos) P := fun hp k s Q E q e => by
  have zq := s.alloc ok (o := .dct []) (ob := { cls := .type "dict", data := .dict #[] }) (fun _ _ z => by cases z) rfl fun news d m => ⟨_, [], m, ⟨#[], 0, ⟨rfl, rfl, rfl⟩, rfl, (by intro p hp; simp at hp), .nil, .nil⟩, rfl⟩; have hn := zq.1; have s' := zq.2
  exact wpAny_Dict_empty (q _ _ _ _ _ ⟨rfl, p _ hn⟩ s')
end
section
variable {c : Cx} {M : Mem} {H : AH} {n : Nat}
theorem three_of {vs' : List Value} {a b d : Value} (h : vs'.map er = [a, b, d]) : ∃ a' b' d', vs' = [a', b', d'] ∧ er a' = a ∧ er b' = b ∧ er d' = d := by
  cases vs' with
  | nil => cases h
  | cons x r =>
    refine el2_2 (two_of (show r.map er = [b, d] by simp at h ⊢; exact h.2)) fun b' d' z92 e e' => ?_; rcases z92 with rfl
    exact ⟨x, b', d', rfl, by simp at h; exact h.1, e, e'⟩
theorem methB (ok : c.Ok n) {o : Expr} {x : Str} {args : List Expr} {apos pos : Pos} {P : Value → AH → Prop} {id : String} {a : Addr} (ho : Pe c M H o (.ref a))
    (hg : ∀ h k, St c M H h → ∀ (pl : Sem Bool) (Q : Value × List Value → Shared → Prop) (E : Value → Shared → Prop), Q (.builtin id, [.ref a]) (c.at h k) → wpAny (model pw c.w) c.A (getMethod (.ref a) x pl) Q E (c.at h k))
    (hb : noCall o = true) (hn : noStar args = true) (hl : (apos.endLine == pos.line) = true) (hfew : args.length < 29) (h : Args c M H args fun vs H1 => CallJ c M H1 (.builtin id) (.ref a :: vs) P) : Ev c M H (.Call (.Attribute o x apos) args [] pos) P :=
  fun hp k s Q E q e => by
    rw [arm_eval_Call, base_eq hb]
    refine wpAny_bind (ho hp k s _ _ fun v' h' k' z s' => wpAny_bind (wpAny_standAt ?_))
    rw [er_ref z]
    have hpos : ∀ fw, methodCallPos fw o c.env apos pos = pure pos := fun fw => by unfold methodCallPos; simp [hl]
    have hform : methodCallForm (args.length + ([] : List Keyword).length) (backTo pos (starEach args c.env)) (backToKw pos (keywordEach [] c.env)) = true := by
      rw [backTo_noStar pos c.env hn]
      unfold methodCallForm
      simp [backToKw, keywordEach]
      solve_by_elim (maxDepth := 7) [Int.le_of_lt, Int.le_trans, Int.lt_of_lt_of_le, Int.lt_of_le_of_lt, Int.not_lt.mp, Int.not_le.mp]
    unfold methodCall
    rw [hform]
    refine wpAny_bind (wpAny_holding (hg h' k' s' _ _ _ ?_))
    exact wpAny_bind (wpAny_of_eq (hpos _) (callWith_W ok (CW.blt id) hn h h' k' s' Q E q e))
theorem Ev.methL (ok : c.Ok n) {o : Expr} {x : Str} {args : List Expr} {apos pos : Pos} {P : Value → AH → Prop} {id : String} {a : Addr} {xs : List Value} (slot : Slot "list" x id) (hty : typeOf (.builtin id) = pure (.type "method_descriptor"))
    (ho : Pe c M H o (.ref a)) (ha : H a = some (.list xs)) (hb : noCall o = true) (hn : noStar args = true) (hl : (apos.endLine == pos.line) = true) (hfew : args.length < 29) (h : Args c M H args fun vs H1 => CallJ c M H1 (.builtin id) (.ref a :: vs) P) : Ev c M H (.Call (.Attribute o x apos) args [] pos) P :=
  methB ok ho (fun hp k s pl Q E q => by
    refine el2_1 (s.isL ha) fun vs nn il _ => ?_
    exact getMethod_builtin (s := c.at hp k) ⟨_, il, rfl⟩ PySem.F.plainAttrs_list slot hty (fun a e => by cases e; exact ⟨_, il, rfl⟩) q) hb hn hl hfew h
theorem Ev.methD (ok : c.Ok n) {o : Expr} {x : Str} {args : List Expr} {apos pos : Pos} {P : Value → AH → Prop} {id : String} {a : Addr} {es : List (Int × Value)} (slot : Slot "dict" x id) (hty : typeOf (.builtin id) = pure (.type "method_descriptor"))
    (ho : Pe c M H o (.ref a)) (ha : H a = some (.dct es)) (hb : noCall o = true) (hn : noStar args = true) (hl : (apos.endLine == pos.line) = true) (hfew : args.length < 29) (h : Args c M H args fun vs H1 => CallJ c M H1 (.builtin id) (.ref a :: vs) P) : Ev c M H (.Call (.Attribute o x apos) args [] pos) P :=
  methB ok ho (fun hp k s pl Q E q => by
    refine el2_2 (s.isDict ha) fun ob kvs N hd _ => ?_
    refine el2_1 hd fun es' ep ex _ => ?_
    have z := (N _ List.mem_cons_self).1
    exact getMethod_builtin (s := c.at hp k) ⟨_, z, ex.1⟩ PySem.F.plainAttrs_dict slot hty (fun a e => by cases e; exact ⟨_, z, ex.2.1⟩) q) hb hn hl hfew h
theorem CallJ.insert0 (ok : c.Ok n) {a : Addr} {xs : List Value} {v : Value} {P : Value → AH → Prop} (ha : H a = some (.list xs)) (hz : xs.length ≤ sizeLine) (p : P .none (upd H a (.list (v :: xs)))) : CallJ c M H (.builtin "list.insert") [.ref a, .int 0 0, v] P :=
  fun vs' hv hp k s Q E q e => by
    refine el3_3 (three_of hv) fun a' b' d' z93 z1 z2 z3 => ?_; rcases z93 with rfl
    rw [er_ref z1]
    refine Exists.elim (er_int z2) fun u z91 => ?_; rcases z91 with rfl
    refine el2_2 (s.mapSeq ok ha) fun vs nn il ev tr => ?_
    refine call_meets (s := c.at hp k) PySem.F.slot_list_insert ⟨_, il, rfl⟩ PySem.F.entry_list_insert (PySem.F.args_list_insert_3 _ _ _) (PySem.AutoSeq1.list_insert_list_int_val_1 a _ nn 0 u d' (by decide +kernel) (by rw [List.size_toArray]; rw [← ev, List.length_map] at hz; exact hz)) ⟨il, ?_⟩
    refine q _ _ _ _ _ ⟨rfl, p⟩ ?_
    have tr' : ∀ f : Array Value → Array Value, f vs.toArray = (d' :: vs).toArray → St c M (upd H a (.list (v :: xs))) (hp.update a (Obj.mapSeq f)) := fun f hf => by
      have s2 := tr f _ hf
      rw [List.map_cons, ev, z3] at s2
      exact s2
    refine tr' _ ?_
    apply Array.toList_inj.mp
    simp
theorem CallJ.pop0 (ok : c.Ok n) {a : Addr} {xs : List Value} {v : Value} {P : Value → AH → Prop} (ha : H a = some (.list (v :: xs))) (hz : xs.length + 1 ≤ sizeLine) (p : P v (upd H a (.list xs))) : CallJ c M H (.builtin "list.pop") [.ref a, .int 0 0] P :=
  fun vs' hv hp k s Q E q e => by
    refine el2_2 (two_of hv) fun a' b' z92 z1 z2 => ?_; rcases z92 with rfl
    rw [er_ref z1]
    refine Exists.elim (er_int z2) fun u z91 => ?_; rcases z91 with rfl
    refine el2_2 (s.mapSeq ok ha) fun vs nn il ev tr => ?_
    cases vs with
    | nil => cases ev
    | cons y r =>
      rw [List.map_cons] at ev
      have zq := List.cons.inj ev; have e1 := zq.1; have e2 := zq.2
      refine call_meets (s := c.at hp k) PySem.F.slot_list_pop ⟨_, il, rfl⟩ PySem.F.entry_list_pop (PySem.F.args_list_pop_2 _ _) (PySem.MeetsSeq.list_pop_at a _ nn 0 u 0 y (by decide +kernel) (by unfold seqIndex?; simp) (by simp) (by rw [List.size_toArray]; rw [← e2, List.length_map] at hz; exact hz)) ⟨il, ?_⟩
      refine q _ _ _ _ _ ⟨rfl, by rw [e1]; exact p⟩ ?_
      have tr' : ∀ f : Array Value → Array Value, f (y :: r).toArray = r.toArray → St c M (upd H a (.list xs)) (hp.update a (Obj.mapSeq f)) := fun f hf => by
        have s2 := tr f _ hf
        rw [e2] at s2
        exact s2
      refine tr' _ ?_
      exact kl_erase [] r y
theorem CallJ.popD (ok : c.Ok n) {a : Addr} {es : List (Int × Value)} {k : Int} {v : Value} {P : Value → AH → Prop} (ha : H a = some (.dct es)) (hv : PySem.valueAt es k = some v) (hz : es.length ≤ sizeLine) (p : P v (upd H a (.dct (PySem.without es k)))) : CallJ c M H (.builtin "dict.pop") [.ref a, .int k 0] P :=
  fun vs' hvs hp kk s Q E q e => by
    refine el2_2 (two_of hvs) fun a' b' z92 z1 z2 => ?_; rcases z92 with rfl
    rw [er_ref z1]
    refine Exists.elim (er_int z2) fun u z91 => ?_; rcases z91 with rfl
    refine el2_3 s fun news δ N nd A l => ?_
    refine Exists.elim (ok.fr _ _ _ l) fun m F => ?_
    refine el2_2 (A.rep a _ ha) fun ob kvs h1 hd ee => ?_
    rw [← ee] at hv
    refine el1_1 (valueAt_er hv) fun v' hv' ev => ?_
    refine kob_pop (s := c.at hp kk) (news := (a, ob) :: others c.h₀ hp c.L a) F (fun p hp => ?_) (.head fun p hp => (mem_others hp).1) hd (isInt_er z2) (.inl rfl) rfl (PySem.F.args_dict_pop_2 _ _) hv' (by rw [← ee] at hz; unfold erI at hz; rw [List.length_map] at hz; exact hz) fun h4 o' F' N' hd' => q _ _ _ _ _ ⟨rfl, by rw [ev]; exact p⟩ ?_
    · rcases List.mem_cons.mp hp with rfl | hp
      · exact N _ h1
      · exact others_news _ _ _ _ p hp
    · exact St.turned ok N nd l F F' N' h1 (A.turn ha (fun _ _ z => by cases z) ⟨o', _, setL_at h1, hd', by rw [without_er, ee]⟩)
noncomputable def intV (ks : List Int) : List Value := ks.map fun i => .int i 0
theorem intsAre_er : ∀ {vs : List Value} {ns : List Int}, IntsAre vs ns → vs.map er = intV ns
  | _, _, .nil => rfl
  | _, _, .cons _ _ h => by rw [List.map_cons, intsAre_er h]; rfl
theorem CallJ.sortedD (ok : c.Ok n) {a : Addr} {es : List (Int × Value)} {P : Value → AH → Prop} (ha : H a = some (.dct es)) (hm : a ≠ 1) (hz : es.length < 64)
    (p : ∀ d ks, H d = none → ks.Perm (es.map (·.1)) → P (.ref d) (upd H d (.list (intV ks)))) : CallJ c M H (.builtin "sorted") [.ref a] P :=
  fun vs' hvs hp kk s Q E q e => by
    refine el1_1 (one_of hvs) fun a' z91 z1 => ?_; rcases z91 with rfl
    rw [er_ref z1]
    refine el2_2 (s.isDict ha) fun ob kvs N hd ee => ?_
    refine Exists.elim (ok.at s) fun m F => ?_
    have hD : hp.DictOf (intKind pw c.w) a kvs := Heap.dictOf_iff.mpr ⟨ob, (N _ List.mem_cons_self).1, hd⟩
    refine Exists.elim hD.dictAt fun ep hat => ?_
    have hk : kvs.length < 64 := by rw [← ee] at hz; unfold erI at hz; rw [List.length_map] at hz; exact hz
    refine kdu_sorted (s := c.at hp kk) (kdl_dict (knd := intKind pw c.w) (kvs := kvs) (ep := ep) (by simpa [sysModules] using hm)) ok.hand F (others_news c.h₀ hp c.L c.L) hat (by unfold sizeLine; lia) fun D h' tk vs F' N' lt hl hv => ?_
    have hi : ∀ (l : List (Int × Value)) (us : List Value), us.length = l.length → (∀ (j : Nat) (v : Value), us[j]? = some v → ∃ k x, l[j]? = some (k, x) ∧ (intKind pw c.w).is k v = true) → IntsAre us (l.map (·.1)) := by
      intro l
      induction l with
      | nil => intro us h1 _; cases us with
        | nil => exact .nil
        | cons _ _ => cases h1
      | cons x r ih =>
        intro us h1 h2
        cases us with
        | nil => cases h1
        | cons u us =>
          refine el2_1 (h2 0 u rfl) fun k y g1 g2 => ?_
          have g1' : x = (k, y) := by simpa using g1
          refine Exists.elim (Value.isInt_shape g2) fun t z91 => ?_; rcases z91 with rfl
          rw [g1', List.map_cons]
          exact .cons _ _ (ih us (by simpa using h1) fun j v e => by
            have := h2 (j + 1) v (by simpa using e)
            simpa using this)
    have hI := hi kvs vs hl hv
    refine ksk_lsort (s := { c.at hp kk with heap := h', toks := tk }) (its := vs.toArray) (n := 0) (news := (D, lsO vs 0) :: others c.h₀ hp c.L c.L) (news' := fun o => (D, o) :: others c.h₀ hp c.L c.L) F' N' (fun o => .head fun p hp' => Nat.ne_of_lt (lt p hp')) rfl hI (by rw [List.length_map]; exact hk) fun vs2 ns2 cc h2 F2 N2 hI2 _ hperm _ _ => ?_
    have zq := s.libNew ok (o := .list (vs2.map er)) F F2 N2 lt (fun _ _ z => by cases z) fun news d m => ⟨vs2, cc, m, rfl⟩; have hn := zq.1; have s2 := zq.2
    rw [intsAre_er hI2] at s2
    refine q _ _ _ _ _ ⟨rfl, p D ns2 hn ?_⟩ s2
    rw [← ee]
    unfold erI
    rw [List.map_map]
    exact hperm
end
noncomputable def Fwd (H2 H H3 H' : AH) : Prop := Sub H3 H' ∧ ∀ a o, H2 a = none → H a = some o → H3 a = none ∧ H' a = some o
theorem Fwd.refl {H2 H : AH} (s : Sub H2 H) : Fwd H2 H H2 H := ⟨s, fun a o h h' => ⟨h, h'⟩⟩
theorem Fwd.trans {H2 H H3 H' H4 H'' : AH} (x : Fwd H2 H H3 H') (y : Fwd H3 H' H4 H'') : Fwd H2 H H4 H'' := ⟨y.1, fun a o h h' => let ⟨a1, a2⟩ := x.2 a o h h'; y.2 a o a1 a2⟩
theorem Fwd.set {H2 H H3 H' : AH} {m : Addr} {x y : AO} (f : Fwd H2 H H3 H') (hm : H3 m = some x) : Fwd H2 H (upd H3 m y) (upd H' m y) := by
  refine ⟨fun a o h => ?_, fun a o h h' => ?_⟩
  · by_cases q : a = m
    · subst q; rw [upd_same] at h ⊢; exact h
    · rw [upd_ne q] at h ⊢; exact f.1 a o h
  · have zq := f.2 a o h h'; have a1 := zq.1; have a2 := zq.2
    have q : a ≠ m := fun q => by rw [q, hm] at a1; cases a1
    rw [upd_ne q, upd_ne q]; exact ⟨a1, a2⟩
theorem Fwd.new {H2 H H3 H' : AH} {m : Addr} {y : AO} (f : Fwd H2 H H3 H') (hm : H' m = none) : Fwd H2 H (upd H3 m y) (upd H' m y) := by
  refine ⟨fun a o h => ?_, fun a o h h' => ?_⟩
  · by_cases q : a = m
    · subst q; rw [upd_same] at h ⊢; exact h
    · rw [upd_ne q] at h ⊢; exact f.1 a o h
  · have zq := f.2 a o h h'; have a1 := zq.1; have a2 := zq.2
    have q : a ≠ m := fun q => by rw [q, hm] at a2; cases a2
    rw [upd_ne q, upd_ne q]; exact ⟨a1, a2⟩
theorem Fwd.less {H2 H H3 H' H4 : AH} (f : Fwd H2 H H3 H') (s : Sub H4 H3) : Fwd H2 H H4 H' := ⟨fun a o h => f.1 a o (s a o h), fun a o h h' => by
  have zq := f.2 a o h h'; have a1 := zq.1; have a2 := zq.2
  refine ⟨?_, a2⟩
  cases q : H4 a with
  | none => rfl
  | some x => have := s a x q; rw [a1] at this; cases this⟩
theorem Fwd.more {H2 H H3 H' H'' : AH} (f : Fwd H2 H H3 H') (s : Sub H' H'') : Fwd H2 H H3 H'' := ⟨fun a o h => s a o (f.1 a o h), fun a o h h' => let ⟨a1, a2⟩ := f.2 a o h h'; ⟨a1, s a o a2⟩⟩
noncomputable def minus (H : AH) (I : Addr) : AH := fun a => if a = I then none else H a
section
variable {c : Cx} {M : Mem} {H : AH} {n : Nat}
theorem St.raw {h : Heap} (s : St c M H h) {a : Addr} {o : Obj} (hH : H a = some (.raw o)) : h.get? a = some o := by
  refine el2_3 s fun news δ N nd A l => ?_
  exact (N _ (A.rep a _ hH)).1
theorem St.rawTurn (ok : c.Ok n) {h h' : Heap} (s : St c M H h) {a : Addr} {o o' : Obj} (hH : H a = some (.raw o)) (hs : ∀ b ob, b ≠ a → h.get? b = some ob → h'.get? b = some ob) (h1 : h'.get? a = some o') : St c M (upd H a (.raw o')) h' := by
  refine el2_3 s fun news δ N nd A l => ?_
  have h2 : (a, o) ∈ news := A.rep a _ hH
  have ha : a ∈ ads news := List.mem_map_of_mem h2
  refine ⟨setL news a o', δ, fun p hp => ?_, by rw [setL_ads]; exact nd, A.turn hH (fun _ _ z => by cases z) (setL_at h2), ?_⟩
  · rcases mem_setL hp with rfl | ⟨hp, n1⟩
    · exact ⟨h1, (N _ h2).2⟩
    · exact ⟨hs _ _ n1 (N p hp).1, (N p hp).2⟩
  · rw [setL_ads]
    exact ok.keep _ _ _ _ _ l ⟨fun b o e n1 _ => hs b o (fun z => n1 (z ▸ ha)) e, fun b hb m e => Ns_of_get e fun o e => hs b o (fun z => (fads_off ok l hb).1 (z ▸ ha)) e⟩ fun a ha => .inl ha
theorem St.rawGo (ok : c.Ok n) {h h' : Heap} (s : St c M H h) {a : Addr} {o : Obj} (hH : H a = some (.raw o)) (hs : ∀ b ob, b ≠ a → h.get? b = some ob → h'.get? b = some ob) : St c M (minus H a) h' := by
  refine el2_3 s fun news δ N nd A l => ?_
  have h2 : (a, o) ∈ news := A.rep a _ hH
  have ha : a ∈ ads news := List.mem_map_of_mem h2
  have ma : ∀ b x, minus H a b = some x → b ≠ a ∧ H b = some x := fun b x e => by
    unfold minus at e
    split at e
    · cases e
    · rename_i q; exact ⟨q, e⟩
  have A' : Abs c.w news δ (minus H a) := A.less fun b x e => (ma b x e).2
  refine ⟨news.filter fun p => p.1 ≠ a, δ, fun p hp => ?_, ?_, ⟨fun b x e => ?_, A'.sep, A'.inj⟩, ?_⟩
  · have zq := List.mem_filter.mp hp; have hp := zq.1; have n1 := zq.2
    exact ⟨hs _ _ (by simpa using n1) (N p hp).1, (N p hp).2⟩
  · exact List.Nodup.sublist (List.Sublist.map _ List.filter_sublist) nd
  · have zq := ma b x e; have q := zq.1; have e' := zq.2
    refine (A.rep b x e').to (fun ob m => List.mem_filter.mpr ⟨m, by simpa using q⟩) fun ⟨C, vs, z⟩ ob m => List.mem_filter.mpr ⟨m, ?_⟩
    subst z
    simp only [decide_eq_true_eq, ne_eq]
    intro z
    have := A.sep b C vs e'
    rw [z, hH] at this; cases this
  · refine ok.keep _ _ _ _ _ l ⟨fun b o e n1 _ => hs b o (fun z => n1 (z ▸ ha)) e, fun b hb m e => Ns_of_get e fun o e => hs b o (fun z => (fads_off ok l hb).1 (z ▸ ha)) e⟩ fun b hb => ?_
    refine el1_1 (List.mem_map.mp hb) fun p hp z92 => ?_; rcases z92 with rfl
    exact .inl (List.mem_map_of_mem (List.mem_filter.mp hp).1)
theorem forWalk (ok : c.Ok n) (noX : ∀ sym, ¬ c.X sym) {target : Expr} {body : List Stmt} {I : Addr} {fp : List Addr} {len : Nat} {PW : Nat → Value → Prop} {StW : Nat → Heap → Prop} (WK : Walks pw c.w c.A I fp [I] len PW StW)
    (hgo : ∀ i (s' : Shared) v (Q' : Unit → Shared → Prop) (E : Value → Shared → Prop), StW i s'.heap → Q' () s' → wpAny (model pw c.w) c.A (letOwnedTupleGo target (.ref I) v) Q' E s') (hI : ∀ i h, StW i h → ∃ o, h.get? I = some o)
    {H20 H0 : AH} (hfp : ∀ b ∈ fp, b ≠ I → H20 b = none ∧ ∃ o, H0 b = some (.raw o)) (hI0 : H0 I = none) {Inv : Nat → Mem → AH → Prop} {Pr : Value → Mem → AH → Prop} {Pn : Mem → AH → Prop}
    (step : ∀ i M' H3 H' v, i < len → PW i v → Inv i M' H3 → Sub H3 H' → W c M' H' (assign target c.env v) fun _ M2 H2 => Ex c M2 H2 body fun fl M4 H4 => match fl with
      | .next | .cont => ∃ H5, Inv (i + 1) M4 H5 ∧ Fwd H3 H' H5 H4
      | .ret v => Pr v M4 H4
      | .brk => False)
    (exit : ∀ M' H3 H', Inv len M' H3 → Fwd H20 H0 H3 H' → Pn M' H') {h : Heap} {k : Nat} {oI : Obj} (s : St c M (upd H0 I (.raw oI)) h) (hst : StW 0 h) (h0 : Inv 0 M H20) (hs0 : Sub H20 H0) {R : Result → Shared → Prop}
    (rn : ∀ M' H' h' k', Pn M' H' → St c M' H' h' → R (.ok .next) (c.at h' k')) (rr : ∀ v M' H' h' k', Pr (er v) M' H' → St c M' H' h' → R (.ok (.ret v)) (c.at h' k')) :
    codeAny (model pw c.w) c.A (.forLoop target (.ref I) body [] c.env) R (c.at h k) := by
  refine codeAny_forLoop_any (fun kk s' => ∃ i M' H3 H' h' k' o, s' = c.at h' k' ∧ St c M' (upd H' I (.raw o)) h' ∧ StW i h' ∧ Inv i M' H3 ∧ Fwd H20 H0 H3 H' ∧ H' I = none ∧ i ≤ len ∧ kk = len + 1 - i) ?_ (len + 1)
    ⟨0, M, H20, H0, h, k, oI, rfl, s, hst, h0, Fwd.refl hs0, hI0, Nat.zero_le _, rfl⟩
  rintro kk s' ⟨i, M', H3, H', h', k', o, rfl, s, hst, hJ, hF, hI', hi, rfl⟩
  have off : ∀ h₁ : Heap, (∀ b ob, b ∉ [I] → h'.get? b = some ob → h₁.get? b = some ob) → ∀ b ob, b ≠ I → h'.get? b = some ob → h₁.get? b = some ob := fun h₁ q b ob n1 => q b ob (by simpa using n1)
  by_cases hlt : i < len
  · refine WK.item i (c.at h' k') _ _ hlt hst fun v h₁ tk₁ hP hst₁ hk₁ => ?_
    refine Exists.elim (hI _ _ hst₁) fun o1 ho1 => ?_
    have s1 := s.rawTurn ok (upd_same _ _ _) (off h₁ hk₁) ho1
    have s1' : St c M' (upd H' I (.raw o1)) h₁ := s1.less fun a x e => by
      by_cases q : a = I
      · subst q; rw [upd_same] at e ⊢; exact e
      · rw [upd_ne q] at e ⊢; rw [upd_ne q]; exact e
    have hsub : Sub H3 (upd H' I (.raw o1)) := fun a x e => by
      have := hF.1 a x e
      rw [upd_ne fun q => by rw [q, hI'] at this; cases this]; exact this
    refine hgo (i + 1) (c.at h₁ tk₁) v _ _ hst₁ ?_
    refine step i M' H3 _ v hlt hP hJ hsub h₁ tk₁ s1' _ _ (fun _ h2 k2 M2 H2 p2 s2 => ?_) fun _ sym _ _ _ x => (noX _ x).elim
    refine p2 h2 k2 s2 _ _ (fun f h4 k4 M4 H4 p4 s4 => ?_) fun _ sym _ _ _ x => (noX _ x).elim
    have go : ∀ H5, Inv (i + 1) M4 H5 → Fwd H3 (upd H' I (.raw o1)) H5 H4 → ∃ m, m < len + 1 - i ∧ ∃ i M' H3 H' h' k' o, c.at h4 k4 = c.at h' k' ∧ St c M' (upd H' I (.raw o)) h' ∧ StW i h' ∧ Inv i M' H3 ∧ Fwd H20 H0 H3 H' ∧ H' I = none ∧ i ≤ len ∧ m = len + 1 - i := fun H5 hJ5 hF5 => by
      have hI3 : H3 I = none := by
        cases q : H3 I with
        | none => rfl
        | some x => have := hF.1 I x q; rw [hI'] at this; cases this
      have zq := hF5.2 I (.raw o1) hI3 (upd_same _ _ _); have i5 := zq.1; have i4 := zq.2
      have sx : St c M4 (upd (minus H4 I) I (.raw o1)) h4 := s4.less fun a x e => by
        by_cases q : a = I
        · subst q; rw [upd_same] at e; rw [i4]; exact e
        · rw [upd_ne q] at e; unfold minus at e; rw [if_neg q] at e; exact e
      refine ⟨len + 1 - (i + 1), by lia, i + 1, M4, H5, minus H4 I, h4, k4, o1, rfl, sx, ?_, hJ5, ⟨fun a x e => ?_, fun a x e e' => ?_⟩, if_pos rfl, hlt, rfl⟩
      · refine WK.frame _ _ _ hst₁ fun b hb ob e => ?_
        by_cases q : b = I
        · subst q
          rw [ho1] at e; cases e
          exact s4.raw i4
        · have zq := hfp b hb q; have n1 := zq.1; refine Exists.elim zq.2 fun oo n2 => ?_
          have zq := hF.2 b _ n1 n2; have n3 := zq.1; have n4 := zq.2
          have n5 : (upd H' I (.raw o1)) b = some (.raw oo) := by rw [upd_ne q]; exact n4
          have zq := hF5.2 b _ n3 n5; have _ := zq.1; have n6 := zq.2
          have g1 := s1'.raw n5
          rw [e] at g1; cases g1
          exact s4.raw n6
      · unfold minus; rw [if_neg fun q => by rw [q, i5] at e; cases e]; exact hF5.1 a x e
      · have zq := hF.2 a x e e'; have m1 := zq.1; have m2 := zq.2
        have q : a ≠ I := fun q => by rw [q, hI'] at m2; cases m2
        have := hF5.2 a x m1 (by rw [upd_ne q]; exact m2)
        refine ⟨this.1, ?_⟩
        unfold minus; rw [if_neg q]; exact this.2
    cases f with
    | next => refine el1_1 p4 fun H5 a b => ?_; exact go H5 a b
    | cont => refine el1_1 p4 fun H5 a b => ?_; exact go H5 a b
    | brk => exact p4.elim
    | ret v => exact rr v _ _ _ _ p4 s4
  · have hin : i = len := by lia
    subst hin
    refine WK.done (c.at h' k') _ _ hst fun h₁ tk₁ hk₁ => wpAny_execs_nil ?_
    have s1 := s.rawGo ok (upd_same _ _ _) (off h₁ hk₁)
    refine rn M' H' h₁ tk₁ (exit M' H3 H' hJ hF) (s1.less fun a x e => ?_)
    have q : a ≠ I := fun q => by rw [q, hI'] at e; cases e
    unfold minus; rw [if_neg q, upd_ne q]; exact e
end
section
variable {c : Cx} {M : Mem} {H : AH} {n : Nat} {F : Fn} {rest : List Stmt} {P : Fl → Mem → AH → Prop}
noncomputable def Asg (c : Cx) (M : Mem) (H : AH) (t : Expr) (v : Value) (P : Mem → AH → Prop) : Prop := ∀ v', er v' = v → W c M H (assign t c.env v') fun _ M' H' => P M' H'
noncomputable def Asgs (c : Cx) : Mem → AH → List Expr → List Value → (Mem → AH → Prop) → Prop
  | M, H, t :: ts, v :: vs, P => Asg c M H t v fun M' H' => Asgs c M' H' ts vs P
  | M, H, [], [], P => P M H
  | _, _, _, _, _ => False
theorem Asg.name (I : InFn c F) (i : Nat) {x : Str} {v : Value} {pos : Pos} {P : Mem → AH → Prop} (hx : F.vars[i]? = some x) (p : P (M.set i (some v)) H) : Asg c M H (.Name x pos) v P :=
  fun v' z hp k s Q E q _ => wpAny_assign_Name (I.store hx s fun h' k' s' => q () _ _ _ _ p (z ▸ s'))
theorem Asg.attr (ok : c.Ok n) {C : Cls} (CO : ClsOk C) (few : C.lay.length ≤ 900) (i : Nat) {o : Expr} {x : Str} {v : Value} {a : Addr} {vs : List Value} {pos : Pos} {P : Mem → AH → Prop} (ho : Pe c M H o (.ref a)) (hx : C.lay[i]? = some x) (hH : H a = some (.inst C vs)) (hi : i ≤ vs.length) (hv : okV v = true)
    (p : P M (upd H a (.inst C (putV vs i v)))) : Asg c M H (.Attribute o x pos) v P := fun v' z hp k s Q E q _ => by
  rw [arm_assign_Attribute]
  refine wpAny_bind (wpAny_holding (ho hp k s _ _ fun r h2 k2 z2 s2 => wpAny_bind (wpAny_standAt (wpAny_bind (wpAny_holding ?_)))))
  rw [er_ref z2]
  exact setAttr_W ok CO few i hx hH hi (okV_of z hv) s2 fun h3 k3 s3 => wpAny_release (q () _ _ _ _ p (z ▸ s3))
noncomputable def noStarT (ts : List Expr) : Bool := ts.all fun e => !isStarred e
theorem assignEach_plain (env : Env) : ∀ {ts : List Expr}, noStarT ts = true → assignEach ts env = ts.map fun t => (false, assign t env)
  | [], _ => rfl
  | e :: es, h => by
    have h' := Bool.and_eq_true_iff.mp (show (!isStarred e && noStarT es) = true from h)
    rw [List.map_cons, ← assignEach_plain env h'.2]
    cases e <;> first | rfl | (simp [isStarred] at h')
theorem Asgs.run {ts : List Expr} {vs : List Value} {P : Mem → AH → Prop} (h : Asgs c M H ts vs P) : ∀ vs', vs'.map er = vs → W c M H (assignInOrder (ts.map fun t => assign t c.env) vs') fun _ M' H' => P M' H' := by
  induction ts generalizing M H vs with
  | nil =>
    intro vs' hv hp k s Q E q e
    cases vs with
    | nil =>
      cases vs' with
      | nil => exact wpAny_pure (q () _ _ _ _ h s)
      | cons _ _ => cases hv
    | cons _ _ => exact h.elim
  | cons t ts ih =>
    intro vs' hv hp k s Q E q e
    cases vs' with
    | nil => subst hv; exact h.elim
    | cons v' vs' =>
      subst hv
      have h : Asg c M H t (er v') fun M' H' => Asgs c M' H' ts (vs'.map er) P := h
      rw [List.map_cons]
      show wpAny _ _ (do holding vs' (assign t c.env v'); assignInOrder (ts.map fun t => assign t c.env) vs') Q E _
      exact wpAny_bind (wpAny_holding (h v' rfl hp k s _ _ (fun _ h' k' M' H' p s' => ih p vs' rfl h' k' s' Q E q e) e))
theorem Asg.tup (ok : c.Ok n) {ts : List Expr} {k pos} {t : Addr} {vs : List Value} {P : Mem → AH → Prop} (ht : H t = some (.tup vs)) (hn : noStarT ts = true) (hlen : ts.length = vs.length) (h : Asgs c M H ts vs P) : Asg c M H (.Tuple ts k pos) (.ref t) P :=
  fun v' z hp kk s Q E q e => by
    rw [er_ref z]
    refine el1_1 (s.isTup ht) fun ws it ew => ?_
    have ea := assignEach_plain c.env hn
    refine assign_Tuple_tuple (s := c.at hp kk) ok.hand it (by rw [ea, List.length_map, List.size_toArray, hlen, ← ew, List.length_map]) (by rw [ea, List.findIdx?_map]; simp) fun h' hx => ?_
    have g : Grown hp h' := fun b o e => hx b o (Nat.ne_of_lt (Heap.lt_size e)) e
    have s' := s.grown ok g
    rw [ea, List.map_map]
    exact h.run ws ew h' kk s' Q E (fun _ h2 k2 M2 H2 p s2 => q () _ _ _ _ p s2) e
theorem Ex.unpack (ok : c.Ok n) {ts : List Expr} {k : Nat} {tp pos : Pos} {e : Expr} (h : Ev c M H e fun v H' => Asg c M H' (.Tuple ts k tp) v fun M' H' => Ex c M' H' rest P)
    (hs : swapsWithSole [.Tuple ts k tp] e pos.line c.env = pure false := by rfl) (hw : swappedStores [.Tuple ts k tp] e c.env = pure none := by rfl) : Ex c M H (.Assign [.Tuple ts k tp] e pos :: rest) P :=
  Ex.cons fun hp kk s Q E q e' => wpAny_Assign_stores (h hp kk s _ _ (fun v h' k' M' H' p s' => by
    have zq := p; rcases zq.1 with rfl; have p := zq.2
    exact p v rfl h' k' s' _ _ (fun _ h2 k2 M2 H2 p2 s2 => q .next _ _ _ _ p2 s2) e') e') hs hw
theorem Fwd.from {H2 H H3 H' K : AH} (s : Sub K H) (f : Fwd H2 H H3 H') : Fwd H2 K H3 H' := ⟨f.1, fun a o h h' => f.2 a o h (s a o h')⟩
theorem goName {x : Str} {pos : Pos} {I : Addr} {v : Value} {A : Around} {w : World} {s : Shared} {Q : Unit → Shared → Prop} {E : Value → Shared → Prop} (q : Q () s) : wpAny (model pw w) A (letOwnedTupleGo (.Name x pos) (.ref I) v) Q E s := wpAny_pure q
noncomputable def BodyPost (Inv : Nat → Mem → AH → Prop) (Pr : Value → Mem → AH → Prop) (i : Nat) (H3 H' : AH) : Fl → Mem → AH → Prop := fun fl M4 H4 => match fl with
  | .next | .cont => ∃ H5, Inv (i + 1) M4 H5 ∧ Fwd H3 H' H5 H4
  | .ret v => Pr v M4 H4
  | .brk => False
end
section
variable {c : Cx} {M : Mem} {H : AH} {n : Nat} {F : Fn} {rest : List Stmt} {P : Fl → Mem → AH → Prop}
noncomputable def rgO (a b : Int) (t u w : Tok) : Obj := { cls := .type "range", data := .fields #[.int a t, .int b u, .int 1 w] }
theorem CallJ.range2 (ok : c.Ok n) {a b : Int} {P : Value → AH → Prop} (p : ∀ r t u w, H r = none → P (.ref r) (upd H r (.raw (rgO a b t u w)))) : CallJ c M H (.type "range") [.int a 0, .int b 0] P := fun vs' hv h k s Q E q e => by
  refine el2_2 (two_of hv) fun a' b' z92 e1 e2 => ?_; rcases z92 with rfl
  refine Exists.elim (er_int e1) fun t z91 => ?_; rcases z91 with rfl
  refine Exists.elim (er_int e2) fun u z91 => ?_; rcases z91 with rfl
  have zq := s.alloc ok (o := .raw (rgO a b t u k)) (ob := rgO a b t u k) (fun _ _ z => by cases z) rfl fun news d m => m; have hn := zq.1; have s' := zq.2
  exact call_range_2 (s := c.at h k) (q _ _ _ _ _ ⟨rfl, p _ _ _ _ hn⟩ s')
theorem CallJ.range1 (ok : c.Ok n) {b : Int} {P : Value → AH → Prop} (p : ∀ r t u w, H r = none → P (.ref r) (upd H r (.raw (rgO 0 b t u w)))) : CallJ c M H (.type "range") [.int b 0] P := fun vs' hv h k s Q E q e => by
  refine el1_1 (one_of hv) fun b' z91 e2 => ?_; rcases z91 with rfl
  refine Exists.elim (er_int e2) fun u z91 => ?_; rcases z91 with rfl
  have zq := s.alloc ok (o := .raw (rgO 0 b k u (k + 1))) (ob := rgO 0 b k u (k + 1)) (fun _ _ z => by cases z) rfl fun news d m => m; have hn := zq.1; have s' := zq.2
  exact call_range_1 (s := c.at h k) (q _ _ _ _ _ ⟨rfl, p _ _ _ _ hn⟩ s')
theorem Ex.forR (ok : c.Ok n) (I : InFn c F) (noX : ∀ sym, ¬ c.X sym) {x : Str} {xp pos : Pos} {iter : Expr} {body : List Stmt} (j : Nat) (hx : F.vars[j]? = some x)
    (h : Ev c M H iter fun v H1 => ∃ r a b t u w H20, ∃ Inv : Nat → Mem → AH → Prop, v = .ref r ∧ H1 r = some (.raw (rgO a b t u w)) ∧ -(2 ^ 62) ≤ a ∧ a < 2 ^ 62 ∧ -(2 ^ 62) ≤ b ∧ b < 2 ^ 62 ∧ Sub H20 H1 ∧ Inv 0 M H20 ∧
      (∀ (i : Nat) M' H3 H', i < (b - a).toNat → Inv i M' H3 → Sub H3 H' → Ex c (M'.set j (some (.int (a + i) 0))) H' body (BodyPost Inv (fun v => P (.ret v)) i H3 H')) ∧
      (∀ M' H3 H', Inv (b - a).toNat M' H3 → Fwd H20 H1 H3 H' → Ex c M' H' rest P))
    (hs : ∀ x, foldedSetIterable iter c.env x = pure x := by intro _; rfl) : Ex c M H (.For (.Name x xp) iter body [] pos :: rest) P :=
  Ex.cons fun hp kk s Q E q e' => by
    refine wpAny_For (h hp kk s _ _ (fun v h1 k1 M1 H1 p s1 => ?_) e') hs
    rcases p.1 with rfl; refine el8_9 p.2 fun r a b t u w H20 Inv hv hr a1 a2 b1 b2 hsub h0 step exit => ?_; try clear p
    rw [er_ref hv]
    have g1 : IsRange h1 r a b 1 t u w := s1.raw hr
    refine wpAny_pyIter_range (s := c.at h1 k1) g1 (small_one a1 a2 b1 b2) ?_
    have zq := s1.alloc ok (o := .raw { cls := .type "range_iterator", data := .fields #[rawInt a, rawInt (Builtin.Range.rangeSize a b 1), rawInt 1] }) (ob := { cls := .type "range_iterator", data := .fields #[rawInt a, rawInt (Builtin.Range.rangeSize a b 1), rawInt 1] }) (fun _ _ z => by cases z) rfl fun news d m => m; have hIn := zq.1; have s3 := zq.2
    refine forWalk (h := h1.push { cls := .type "range_iterator", data := .fields #[rawInt a, rawInt (Builtin.Range.rangeSize a b 1), rawInt 1] }) ok noX (Walks.range ok.hand h1.objs.size a 1 (b - a).toNat) (fun _ _ _ _ _ _ q => goName q) (fun i h z => ⟨_, z⟩) (H20 := H20) (H0 := H1) (Inv := Inv) (Pr := fun v => P (.ret v)) (Pn := fun M' H' => Ex c M' H' rest P) (fun b hb hbI => ?_) hIn (fun i M' H3 H' v hi hP hJ hS => ?_) (fun M' H3 H' hJ hF => exit M' H3 H' hJ hF) s3 ?_ h0 hsub (fun M' H' h' k' p s' => q .next _ _ _ _ p s') fun v M' H' h' k' p s' => q (.ret v) _ _ _ _ p s'
    · simp at hb; exact absurd hb hbI
    · refine Exists.elim hP fun tt z91 => ?_; rcases z91 with rfl; try clear hP
      have := step i M' H3 H' hi hJ hS
      intro hp' k' s' Q' E' q' _
      refine wpAny_assign_Name (I.store hx s' fun h'' k'' s'' => q' () _ _ _ _ (this.mono fun fl M4 H4 p => ?_) (by
        have z : er (Value.int (a + (i : Int) * 1) tt) = .int (a + i) 0 := by show Value.int _ 0 = _; rw [Int.mul_one]
        rw [z] at s''; exact s''))
      cases fl <;> exact p
    · show IsRangeIter _ _ _ _ _
      have e1 : a + ((0 : Nat) : Int) * 1 = a := by simp
      have e2 : ((b - a).toNat : Int) - ((0 : Nat) : Int) = Builtin.Range.rangeSize a b 1 := by rw [rangeSize_one]; split <;> lia
      rw [e1, e2]
      exact Heap.get?_push_size _ rfl
end
theorem FnOk.of {F : Fn} (look : ∀ P, (KK P).lookup F.addr = some ⟨.type "function", none, .func F.fd, #[]⟩) (code : ∀ P, codeIn (KK P) F.fd.code F.fd.qualname = true) (body : F.fd.body = .stmts F.body)
    (h : (F.vars.all (okVar F.sc) && decide F.vars.Nodup && !F.sc.isCoroutine && !F.sc.isGenerator && decide (((cellsFrom 0 F.sc.names []).map (·.1)).Nodup)) = true) (kind : F.sc.kind = .function) (glob : F.fd.globals = mainGlobals) (blt : F.fd.builtins = builtinsNs) (clo : F.fd.closure = []) : FnOk F := by
  simp only [Bool.and_eq_true, decide_eq_true_eq, Bool.not_eq_true'] at h
  exact ⟨fun P => ⟨_, _, _, look P⟩, code, body, h.1.1.1.1, h.1.1.1.2, h.1.1.2, h.1.2, kind, h.2, glob, blt, clo⟩
theorem len0 {P : List Value → Prop} (vs : List Value) (hl : vs.length = 0) (h : P []) : P vs := List.eq_nil_of_length_eq_zero hl ▸ h
theorem lenS {P : List Value → Prop} {k : Nat} (vs : List Value) (hl : vs.length = k + 1) (h : ∀ a r, r.length = k → P (a :: r)) : P vs := by
  cases vs with
  | nil => cases hl
  | cons a r => exact h a r (Nat.succ.inj hl)
theorem len1 {P : List Value → Prop} (vs : List Value) (hl : vs.length = 1) (h : ∀ a0, P [a0]) : P vs := lenS vs hl fun a r hr => len0 (P := fun r => P (a :: r)) r hr (h a)
theorem len2 {P : List Value → Prop} (vs : List Value) (hl : vs.length = 2) (h : ∀ a0 a1, P [a0, a1]) : P vs := lenS vs hl fun a r hr => len1 (P := fun r => P (a :: r)) r hr (h a)
theorem len3 {P : List Value → Prop} (vs : List Value) (hl : vs.length = 3) (h : ∀ a0 a1 a2, P [a0, a1, a2]) : P vs := lenS vs hl fun a r hr => len2 (P := fun r => P (a :: r)) r hr (h a)
theorem len4 {P : List Value → Prop} (vs : List Value) (hl : vs.length = 4) (h : ∀ a0 a1 a2 a3, P [a0, a1, a2, a3]) : P vs := lenS vs hl fun a r hr => len3 (P := fun r => P (a :: r)) r hr (h a)
theorem len5 {P : List Value → Prop} (vs : List Value) (hl : vs.length = 5) (h : ∀ a0 a1 a2 a3 a4, P [a0, a1, a2, a3, a4]) : P vs := lenS vs hl fun a r hr => len4 (P := fun r => P (a :: r)) r hr (h a)
theorem len6 {P : List Value → Prop} (vs : List Value) (hl : vs.length = 6) (h : ∀ a0 a1 a2 a3 a4 a5, P [a0, a1, a2, a3, a4, a5]) : P vs := lenS vs hl fun a r hr => len5 (P := fun r => P (a :: r)) r hr (h a)
theorem bnd1 {F : Fn} {ds : List Value} (hp : F.ps.length = 1 + ds.length) (h : ∀ (w : World) (s : Shared) a0, (KK w.params).In s.heap → BindsTo s F.fd ⟨[a0], []⟩ (F.ps.zip ([a0] ++ ds))) : FnBind F 1 ds := ⟨hp, fun w s vs hl K => len1 (P := fun vs => BindsTo s F.fd ⟨vs, []⟩ (F.ps.zip (vs ++ ds))) vs hl fun a0 => h w s a0 K⟩
theorem bnd2 {F : Fn} {ds : List Value} (hp : F.ps.length = 2 + ds.length) (h : ∀ (w : World) (s : Shared) a0 a1, (KK w.params).In s.heap → BindsTo s F.fd ⟨[a0, a1], []⟩ (F.ps.zip ([a0, a1] ++ ds))) : FnBind F 2 ds := ⟨hp, fun w s vs hl K => len2 (P := fun vs => BindsTo s F.fd ⟨vs, []⟩ (F.ps.zip (vs ++ ds))) vs hl fun a0 a1 => h w s a0 a1 K⟩
theorem bnd3 {F : Fn} {ds : List Value} (hp : F.ps.length = 3 + ds.length) (h : ∀ (w : World) (s : Shared) a0 a1 a2, (KK w.params).In s.heap → BindsTo s F.fd ⟨[a0, a1, a2], []⟩ (F.ps.zip ([a0, a1, a2] ++ ds))) : FnBind F 3 ds := ⟨hp, fun w s vs hl K => len3 (P := fun vs => BindsTo s F.fd ⟨vs, []⟩ (F.ps.zip (vs ++ ds))) vs hl fun a0 a1 a2 => h w s a0 a1 a2 K⟩
theorem bnd4 {F : Fn} {ds : List Value} (hp : F.ps.length = 4 + ds.length) (h : ∀ (w : World) (s : Shared) a0 a1 a2 a3, (KK w.params).In s.heap → BindsTo s F.fd ⟨[a0, a1, a2, a3], []⟩ (F.ps.zip ([a0, a1, a2, a3] ++ ds))) : FnBind F 4 ds := ⟨hp, fun w s vs hl K => len4 (P := fun vs => BindsTo s F.fd ⟨vs, []⟩ (F.ps.zip (vs ++ ds))) vs hl fun a0 a1 a2 a3 => h w s a0 a1 a2 a3 K⟩
theorem bnd5 {F : Fn} {ds : List Value} (hp : F.ps.length = 5 + ds.length) (h : ∀ (w : World) (s : Shared) a0 a1 a2 a3 a4, (KK w.params).In s.heap → BindsTo s F.fd ⟨[a0, a1, a2, a3, a4], []⟩ (F.ps.zip ([a0, a1, a2, a3, a4] ++ ds))) : FnBind F 5 ds := ⟨hp, fun w s vs hl K => len5 (P := fun vs => BindsTo s F.fd ⟨vs, []⟩ (F.ps.zip (vs ++ ds))) vs hl fun a0 a1 a2 a3 a4 => h w s a0 a1 a2 a3 a4 K⟩
theorem bnd6 {F : Fn} {ds : List Value} (hp : F.ps.length = 6 + ds.length) (h : ∀ (w : World) (s : Shared) a0 a1 a2 a3 a4 a5, (KK w.params).In s.heap → BindsTo s F.fd ⟨[a0, a1, a2, a3, a4, a5], []⟩ (F.ps.zip ([a0, a1, a2, a3, a4, a5] ++ ds))) : FnBind F 6 ds := ⟨hp, fun w s vs hl K => len6 (P := fun vs => BindsTo s F.fd ⟨vs, []⟩ (F.ps.zip (vs ++ ds))) vs hl fun a0 a1 a2 a3 a4 a5 => h w s a0 a1 a2 a3 a4 a5 K⟩
noncomputable def F35 : Fn := { addr := 35, fd := fnV "__init__" "LispSignal.__init__" (mAt 2 0) (.none) (.str "emacs.errors" 194) 34, body := fBody (mAt 2 0), ps := ["self", "symbol", "data"], ls := [] }
theorem F35_ok : FnOk F35 := FnOk.of (fun P => by kernel_rfl) (fun P => by kernel_rfl) rfl (by kernel_rfl) rfl rfl rfl rfl
theorem F35_b3 : FnBind F35 3 [] := bnd3 rfl fun w s a0 a1 a2 K => kp_binds K fun S => by kernel_rfl
noncomputable def F48 : Fn := { addr := 48, fd := fnV "narrow" "narrow" (sAt 4) (.none) (.str "emacs.narrowing" 227) 47, body := fBody (sAt 4), ps := ["buffer", "start", "end"], ls := ["low", "high"] }
theorem F48_ok : FnOk F48 := FnOk.of (fun P => by kernel_rfl) (fun P => by kernel_rfl) rfl (by kernel_rfl) rfl rfl rfl rfl
theorem F48_b3 : FnBind F48 3 [] := bnd3 rfl fun w s a0 a1 a2 K => kp_binds K fun S => by kernel_rfl
noncomputable def F55 : Fn := { addr := 55, fd := fnV "widen" "widen" (sAt 5) (.none) (.str "emacs.narrowing" 227) 54, body := fBody (sAt 5), ps := ["buffer"], ls := [] }
theorem F55_ok : FnOk F55 := FnOk.of (fun P => by kernel_rfl) (fun P => by kernel_rfl) rfl (by kernel_rfl) rfl rfl rfl rfl
theorem F55_b1 : FnBind F55 1 [] := bnd1 rfl fun w s a0 K => kp_binds K fun S => by kernel_rfl
noncomputable def F62 : Fn := { addr := 62, fd := fnV "is_narrowed" "is_narrowed" (sAt 6) (.none) (.str "emacs.narrowing" 227) 61, body := fBody (sAt 6), ps := ["buffer"], ls := [] }
theorem F62_ok : FnOk F62 := FnOk.of (fun P => by kernel_rfl) (fun P => by kernel_rfl) rfl (by kernel_rfl) rfl rfl rfl rfl
theorem F62_b1 : FnBind F62 1 [] := bnd1 rfl fun w s a0 K => kp_binds K fun S => by kernel_rfl
noncomputable def F76 : Fn := { addr := 76, fd := fnV "__init__" "GapText.__init__" (mAt 8 0) (.none) (.str "emacs.gap" 254) 75, body := fBody (mAt 8 0), ps := ["self", "codes", "room"], ls := [] }
theorem F76_ok : FnOk F76 := FnOk.of (fun P => by kernel_rfl) (fun P => by kernel_rfl) rfl (by kernel_rfl) rfl rfl rfl rfl
theorem F76_b3 : FnBind F76 3 [] := bnd3 rfl fun w s a0 a1 a2 K => kp_binds K fun S => by kernel_rfl
noncomputable def F83 : Fn := { addr := 83, fd := fnV "size" "GapText.size" (mAt 8 1) (.none) (.str "emacs.gap" 254) 82, body := fBody (mAt 8 1), ps := ["self"], ls := [] }
theorem F83_ok : FnOk F83 := FnOk.of (fun P => by kernel_rfl) (fun P => by kernel_rfl) rfl (by kernel_rfl) rfl rfl rfl rfl
theorem F83_b1 : FnBind F83 1 [] := bnd1 rfl fun w s a0 K => kp_binds K fun S => by kernel_rfl
noncomputable def F90 : Fn := { addr := 90, fd := fnV "code" "GapText.code" (mAt 8 2) (.none) (.str "emacs.gap" 254) 89, body := fBody (mAt 8 2), ps := ["self", "at"], ls := [] }
theorem F90_ok : FnOk F90 := FnOk.of (fun P => by kernel_rfl) (fun P => by kernel_rfl) rfl (by kernel_rfl) rfl rfl rfl rfl
theorem F90_b2 : FnBind F90 2 [] := bnd2 rfl fun w s a0 a1 K => kp_binds K fun S => by kernel_rfl
noncomputable def F97 : Fn := { addr := 97, fd := fnV "codes" "GapText.codes" (mAt 8 3) (.none) (.str "emacs.gap" 254) 96, body := fBody (mAt 8 3), ps := ["self", "start", "end"], ls := ["shift"] }
theorem F97_ok : FnOk F97 := FnOk.of (fun P => by kernel_rfl) (fun P => by kernel_rfl) rfl (by kernel_rfl) rfl rfl rfl rfl
theorem F97_b3 : FnBind F97 3 [] := bnd3 rfl fun w s a0 a1 a2 K => kp_binds K fun S => by kernel_rfl
noncomputable def F104 : Fn := { addr := 104, fd := fnV "move_gap" "GapText.move_gap" (mAt 8 4) (.none) (.str "emacs.gap" 254) 103, body := fBody (mAt 8 4), ps := ["self", "at"], ls := ["moved"] }
theorem F104_ok : FnOk F104 := FnOk.of (fun P => by kernel_rfl) (fun P => by kernel_rfl) rfl (by kernel_rfl) rfl rfl rfl rfl
theorem F104_b2 : FnBind F104 2 [] := bnd2 rfl fun w s a0 a1 K => kp_binds K fun S => by kernel_rfl
noncomputable def F111 : Fn := { addr := 111, fd := fnV "widen_gap" "GapText.widen_gap" (mAt 8 5) (.none) (.str "emacs.gap" 254) 110, body := fBody (mAt 8 5), ps := ["self", "wanted"], ls := ["lack"] }
theorem F111_ok : FnOk F111 := FnOk.of (fun P => by kernel_rfl) (fun P => by kernel_rfl) rfl (by kernel_rfl) rfl rfl rfl rfl
theorem F111_b2 : FnBind F111 2 [] := bnd2 rfl fun w s a0 a1 K => kp_binds K fun S => by kernel_rfl
noncomputable def F118 : Fn := { addr := 118, fd := fnV "insert" "GapText.insert" (mAt 8 6) (.none) (.str "emacs.gap" 254) 117, body := fBody (mAt 8 6), ps := ["self", "at", "codes"], ls := [] }
theorem F118_ok : FnOk F118 := FnOk.of (fun P => by kernel_rfl) (fun P => by kernel_rfl) rfl (by kernel_rfl) rfl rfl rfl rfl
theorem F118_b3 : FnBind F118 3 [] := bnd3 rfl fun w s a0 a1 a2 K => kp_binds K fun S => by kernel_rfl
noncomputable def F125 : Fn := { addr := 125, fd := fnV "delete" "GapText.delete" (mAt 8 7) (.none) (.str "emacs.gap" 254) 124, body := fBody (mAt 8 7), ps := ["self", "start", "end"], ls := ["gone"] }
theorem F125_ok : FnOk F125 := FnOk.of (fun P => by kernel_rfl) (fun P => by kernel_rfl) rfl (by kernel_rfl) rfl rfl rfl rfl
theorem F125_b3 : FnBind F125 3 [] := bnd3 rfl fun w s a0 a1 a2 K => kp_binds K fun S => by kernel_rfl
noncomputable def F132 : Fn := { addr := 132, fd := fnV "put" "GapText.put" (mAt 8 8) (.none) (.str "emacs.gap" 254) 131, body := fBody (mAt 8 8), ps := ["self", "at", "code"], ls := [] }
theorem F132_ok : FnOk F132 := FnOk.of (fun P => by kernel_rfl) (fun P => by kernel_rfl) rfl (by kernel_rfl) rfl rfl rfl rfl
theorem F132_b3 : FnBind F132 3 [] := bnd3 rfl fun w s a0 a1 a2 K => kp_binds K fun S => by kernel_rfl
noncomputable def F202 : Fn := { addr := 202, fd := fnV "__init__" "Marker.__init__" (mAt 12 0) (.none) (.str "emacs.markers" 418) 201, body := fBody (mAt 12 0), ps := ["self", "number", "advances"], ls := [] }
theorem F202_ok : FnOk F202 := FnOk.of (fun P => by kernel_rfl) (fun P => by kernel_rfl) rfl (by kernel_rfl) rfl rfl rfl rfl
theorem F202_b3 : FnBind F202 3 [] := bnd3 rfl fun w s a0 a1 a2 K => kp_binds K fun S => by kernel_rfl
noncomputable def F242 : Fn := { addr := 242, fd := fnV "__init__" "Markers.__init__" (mAt 13 0) (.none) (.str "emacs.markers" 418) 241, body := fBody (mAt 13 0), ps := ["self"], ls := [] }
theorem F242_ok : FnOk F242 := FnOk.of (fun P => by kernel_rfl) (fun P => by kernel_rfl) rfl (by kernel_rfl) rfl rfl rfl rfl
theorem F242_b1 : FnBind F242 1 [] := bnd1 rfl fun w s a0 K => kp_binds K fun S => by kernel_rfl
noncomputable def F249 : Fn := { addr := 249, fd := fnV "numbers" "Markers.numbers" (mAt 13 1) (.none) (.str "emacs.markers" 418) 248, body := fBody (mAt 13 1), ps := ["self"], ls := [] }
theorem F249_ok : FnOk F249 := FnOk.of (fun P => by kernel_rfl) (fun P => by kernel_rfl) rfl (by kernel_rfl) rfl rfl rfl rfl
theorem F249_b1 : FnBind F249 1 [] := bnd1 rfl fun w s a0 K => kp_binds K fun S => by kernel_rfl
noncomputable def F256 : Fn := { addr := 256, fd := fnV "put" "Markers.put" (mAt 13 2) (.none) (.str "emacs.markers" 418) 255, body := fBody (mAt 13 2), ps := ["self", "marker", "position"], ls := [] }
theorem F256_ok : FnOk F256 := FnOk.of (fun P => by kernel_rfl) (fun P => by kernel_rfl) rfl (by kernel_rfl) rfl rfl rfl rfl
theorem F256_b3 : FnBind F256 3 [] := bnd3 rfl fun w s a0 a1 a2 K => kp_binds K fun S => by kernel_rfl
noncomputable def F263 : Fn := { addr := 263, fd := fnV "drop" "Markers.drop" (mAt 13 3) (.none) (.str "emacs.markers" 418) 262, body := fBody (mAt 13 3), ps := ["self", "marker"], ls := [] }
theorem F263_ok : FnOk F263 := FnOk.of (fun P => by kernel_rfl) (fun P => by kernel_rfl) rfl (by kernel_rfl) rfl rfl rfl rfl
theorem F263_b2 : FnBind F263 2 [] := bnd2 rfl fun w s a0 a1 K => kp_binds K fun S => by kernel_rfl
noncomputable def F277 : Fn := { addr := 277, fd := fnV "inserted" "Markers.inserted" (mAt 13 5) (.none) (.str "emacs.markers" 418) 276, body := fBody (mAt 13 5), ps := ["self", "start", "end", "is_before"], ls := ["number", "marker"] }
theorem F277_ok : FnOk F277 := FnOk.of (fun P => by kernel_rfl) (fun P => by kernel_rfl) rfl (by kernel_rfl) rfl rfl rfl rfl
theorem F277_b4 : FnBind F277 4 [] := bnd4 rfl fun w s a0 a1 a2 a3 K => kp_binds K fun S => by kernel_rfl
noncomputable def F284 : Fn := { addr := 284, fd := fnV "deleted" "Markers.deleted" (mAt 13 6) (.none) (.str "emacs.markers" 418) 283, body := fBody (mAt 13 6), ps := ["self", "start", "end"], ls := ["number", "marker"] }
theorem F284_ok : FnOk F284 := FnOk.of (fun P => by kernel_rfl) (fun P => by kernel_rfl) rfl (by kernel_rfl) rfl rfl rfl rfl
theorem F284_b3 : FnBind F284 3 [] := bnd3 rfl fun w s a0 a1 a2 K => kp_binds K fun S => by kernel_rfl
noncomputable def F291 : Fn := { addr := 291, fd := fnV "replaced" "Markers.replaced" (mAt 13 7) (.none) (.str "emacs.markers" 418) 290, body := fBody (mAt 13 7), ps := ["self", "start", "end", "many"], ls := ["number", "marker"] }
theorem F291_ok : FnOk F291 := FnOk.of (fun P => by kernel_rfl) (fun P => by kernel_rfl) rfl (by kernel_rfl) rfl rfl rfl rfl
theorem F291_b4 : FnBind F291 4 [] := bnd4 rfl fun w s a0 a1 a2 a3 K => kp_binds K fun S => by kernel_rfl
noncomputable def F313 : Fn := { addr := 313, fd := fnV "__init__" "Buffer.__init__" (mAt 15 0) (.ref 306) (.str "emacs.buffer" 569) 312, body := fBody (mAt 15 0), ps := ["self", "number", "name", "room"], ls := [] }
theorem F313_ok : FnOk F313 := FnOk.of (fun P => by kernel_rfl) (fun P => by kernel_rfl) rfl (by kernel_rfl) rfl rfl rfl rfl
theorem F313_b4 : FnBind F313 4 [] := bnd4 rfl fun w s a0 a1 a2 a3 K => kp_binds K fun S => by kernel_rfl
theorem F313_b3 : FnBind F313 3 [.int 8 583] := bnd3 rfl fun w s a0 a1 a2 K => kp_binds K fun S => by kernel_rfl
noncomputable def F334 : Fn := { addr := 334, fd := fnV "begin" "Buffer.begin" (mAt 15 3) (.none) (.str "emacs.buffer" 569) 333, body := fBody (mAt 15 3), ps := ["self"], ls := [] }
theorem F334_ok : FnOk F334 := FnOk.of (fun P => by kernel_rfl) (fun P => by kernel_rfl) rfl (by kernel_rfl) rfl rfl rfl rfl
theorem F334_b1 : FnBind F334 1 [] := bnd1 rfl fun w s a0 K => kp_binds K fun S => by kernel_rfl
noncomputable def F341 : Fn := { addr := 341, fd := fnV "end" "Buffer.end" (mAt 15 4) (.none) (.str "emacs.buffer" 569) 340, body := fBody (mAt 15 4), ps := ["self"], ls := [] }
theorem F341_ok : FnOk F341 := FnOk.of (fun P => by kernel_rfl) (fun P => by kernel_rfl) rfl (by kernel_rfl) rfl rfl rfl rfl
theorem F341_b1 : FnBind F341 1 [] := bnd1 rfl fun w s a0 K => kp_binds K fun S => by kernel_rfl
noncomputable def F348 : Fn := { addr := 348, fd := fnV "size" "Buffer.size" (mAt 15 5) (.none) (.str "emacs.buffer" 569) 347, body := fBody (mAt 15 5), ps := ["self"], ls := [] }
theorem F348_ok : FnOk F348 := FnOk.of (fun P => by kernel_rfl) (fun P => by kernel_rfl) rfl (by kernel_rfl) rfl rfl rfl rfl
theorem F348_b1 : FnBind F348 1 [] := bnd1 rfl fun w s a0 K => kp_binds K fun S => by kernel_rfl
noncomputable def F355 : Fn := { addr := 355, fd := fnV "code_at" "Buffer.code_at" (mAt 15 6) (.none) (.str "emacs.buffer" 569) 354, body := fBody (mAt 15 6), ps := ["self", "place"], ls := [] }
theorem F355_ok : FnOk F355 := FnOk.of (fun P => by kernel_rfl) (fun P => by kernel_rfl) rfl (by kernel_rfl) rfl rfl rfl rfl
theorem F355_b2 : FnBind F355 2 [] := bnd2 rfl fun w s a0 a1 K => kp_binds K fun S => by kernel_rfl
noncomputable def F362 : Fn := { addr := 362, fd := fnV "codes" "Buffer.codes" (mAt 15 7) (.none) (.str "emacs.buffer" 569) 361, body := fBody (mAt 15 7), ps := ["self", "start", "end"], ls := [] }
theorem F362_ok : FnOk F362 := FnOk.of (fun P => by kernel_rfl) (fun P => by kernel_rfl) rfl (by kernel_rfl) rfl rfl rfl rfl
theorem F362_b3 : FnBind F362 3 [] := bnd3 rfl fun w s a0 a1 a2 K => kp_binds K fun S => by kernel_rfl
noncomputable def F369 : Fn := { addr := 369, fd := fnV "goto" "Buffer.goto" (mAt 15 8) (.none) (.str "emacs.buffer" 569) 368, body := fBody (mAt 15 8), ps := ["self", "place"], ls := [] }
theorem F369_ok : FnOk F369 := FnOk.of (fun P => by kernel_rfl) (fun P => by kernel_rfl) rfl (by kernel_rfl) rfl rfl rfl rfl
theorem F369_b2 : FnBind F369 2 [] := bnd2 rfl fun w s a0 a1 K => kp_binds K fun S => by kernel_rfl
noncomputable def F397 : Fn := { addr := 397, fd := fnV "touch" "Buffer.touch" (mAt 15 12) (.none) (.str "emacs.buffer" 569) 396, body := fBody (mAt 15 12), ps := ["self", "are_codes"], ls := [] }
theorem F397_ok : FnOk F397 := FnOk.of (fun P => by kernel_rfl) (fun P => by kernel_rfl) rfl (by kernel_rfl) rfl rfl rfl rfl
theorem F397_b2 : FnBind F397 2 [] := bnd2 rfl fun w s a0 a1 K => kp_binds K fun S => by kernel_rfl
noncomputable def F409 : Fn := { addr := 409, fd := fnV "need_writable" "need_writable" (sAt 18) (.none) (.str "emacs.editing" 708) 408, body := fBody (sAt 18), ps := ["buffer"], ls := [] }
theorem F409_ok : FnOk F409 := FnOk.of (fun P => by kernel_rfl) (fun P => by kernel_rfl) rfl (by kernel_rfl) rfl rfl rfl rfl
theorem F409_b1 : FnBind F409 1 [] := bnd1 rfl fun w s a0 K => kp_binds K fun S => by kernel_rfl
noncomputable def F416 : Fn := { addr := 416, fd := fnV "need_room" "need_room" (sAt 19) (.none) (.str "emacs.editing" 708) 415, body := fBody (sAt 19), ps := ["buffer", "growth"], ls := [] }
theorem F416_ok : FnOk F416 := FnOk.of (fun P => by kernel_rfl) (fun P => by kernel_rfl) rfl (by kernel_rfl) rfl rfl rfl rfl
theorem F416_b2 : FnBind F416 2 [] := bnd2 rfl fun w s a0 a1 K => kp_binds K fun S => by kernel_rfl
noncomputable def F423 : Fn := { addr := 423, fd := fnV "reached" "reached" (sAt 20) (.none) (.str "emacs.editing" 708) 422, body := fBody (sAt 20), ps := ["buffer", "start", "end"], ls := ["low", "high"] }
theorem F423_ok : FnOk F423 := FnOk.of (fun P => by kernel_rfl) (fun P => by kernel_rfl) rfl (by kernel_rfl) rfl rfl rfl rfl
theorem F423_b3 : FnBind F423 3 [] := bnd3 rfl fun w s a0 a1 a2 K => kp_binds K fun S => by kernel_rfl
noncomputable def F430 : Fn := { addr := 430, fd := fnV "tell_ahead" "tell_ahead" (sAt 21) (.none) (.str "emacs.editing" 708) 429, body := fBody (sAt 21), ps := ["buffer", "start", "end"], ls := ["listener"] }
theorem F430_ok : FnOk F430 := FnOk.of (fun P => by kernel_rfl) (fun P => by kernel_rfl) rfl (by kernel_rfl) rfl rfl rfl rfl
theorem F430_b3 : FnBind F430 3 [] := bnd3 rfl fun w s a0 a1 a2 K => kp_binds K fun S => by kernel_rfl
noncomputable def F437 : Fn := { addr := 437, fd := fnV "tell_behind" "tell_behind" (sAt 22) (.none) (.str "emacs.editing" 708) 436, body := fBody (sAt 22), ps := ["buffer", "start", "end", "old_length"], ls := ["listener"] }
theorem F437_ok : FnOk F437 := FnOk.of (fun P => by kernel_rfl) (fun P => by kernel_rfl) rfl (by kernel_rfl) rfl rfl rfl rfl
theorem F437_b4 : FnBind F437 4 [] := bnd4 rfl fun w s a0 a1 a2 a3 K => kp_binds K fun S => by kernel_rfl
noncomputable def F444 : Fn := { addr := 444, fd := fnV "text_out" "text_out" (sAt 23) (.none) (.str "emacs.editing" 708) 443, body := fBody (sAt 23), ps := ["buffer", "start", "end"], ls := ["gone"] }
theorem F444_ok : FnOk F444 := FnOk.of (fun P => by kernel_rfl) (fun P => by kernel_rfl) rfl (by kernel_rfl) rfl rfl rfl rfl
theorem F444_b3 : FnBind F444 3 [] := bnd3 rfl fun w s a0 a1 a2 K => kp_binds K fun S => by kernel_rfl
noncomputable def F451 : Fn := { addr := 451, fd := fnV "text_in" "text_in" (sAt 24) (.none) (.str "emacs.editing" 708) 450, body := fBody (sAt 24), ps := ["buffer", "place", "codes"], ls := [] }
theorem F451_ok : FnOk F451 := FnOk.of (fun P => by kernel_rfl) (fun P => by kernel_rfl) rfl (by kernel_rfl) rfl rfl rfl rfl
theorem F451_b3 : FnBind F451 3 [] := bnd3 rfl fun w s a0 a1 a2 K => kp_binds K fun S => by kernel_rfl
noncomputable def F458 : Fn := { addr := 458, fd := fnV "hung_out" "hung_out" (sAt 25) (.none) (.str "emacs.editing" 708) 457, body := fBody (sAt 25), ps := ["buffer", "start", "end"], ls := [] }
theorem F458_ok : FnOk F458 := FnOk.of (fun P => by kernel_rfl) (fun P => by kernel_rfl) rfl (by kernel_rfl) rfl rfl rfl rfl
theorem F458_b3 : FnBind F458 3 [] := bnd3 rfl fun w s a0 a1 a2 K => kp_binds K fun S => by kernel_rfl
noncomputable def F465 : Fn := { addr := 465, fd := fnV "hung_in" "hung_in" (sAt 26) (.none) (.str "emacs.editing" 708) 464, body := fBody (sAt 26), ps := ["buffer", "place", "many", "before_markers"], ls := [] }
theorem F465_ok : FnOk F465 := FnOk.of (fun P => by kernel_rfl) (fun P => by kernel_rfl) rfl (by kernel_rfl) rfl rfl rfl rfl
theorem F465_b4 : FnBind F465 4 [] := bnd4 rfl fun w s a0 a1 a2 a3 K => kp_binds K fun S => by kernel_rfl
noncomputable def F472 : Fn := { addr := 472, fd := fnV "put_in" "put_in" (sAt 27) (.none) (.str "emacs.editing" 708) 471, body := fBody (sAt 27), ps := ["buffer", "place", "codes", "before_markers", "is_point_behind"], ls := [] }
theorem F472_ok : FnOk F472 := FnOk.of (fun P => by kernel_rfl) (fun P => by kernel_rfl) rfl (by kernel_rfl) rfl rfl rfl rfl
theorem F472_b5 : FnBind F472 5 [] := bnd5 rfl fun w s a0 a1 a2 a3 a4 K => kp_binds K fun S => by kernel_rfl
noncomputable def F480 : Fn := { addr := 480, fd := fnV "insert_at" "insert_at" (sAt 28) (.ref 473) (.str "emacs.editing" 708) 479, body := fBody (sAt 28), ps := ["buffer", "place", "codes", "before_markers"], ls := [] }
theorem F480_ok : FnOk F480 := FnOk.of (fun P => by kernel_rfl) (fun P => by kernel_rfl) rfl (by kernel_rfl) rfl rfl rfl rfl
theorem F480_b4 : FnBind F480 4 [] := bnd4 rfl fun w s a0 a1 a2 a3 K => kp_binds K fun S => by kernel_rfl
theorem F480_b3 : FnBind F480 3 [.bool false] := bnd3 rfl fun w s a0 a1 a2 K => kp_binds K fun S => by kernel_rfl
noncomputable def F488 : Fn := { addr := 488, fd := fnV "insert" "insert" (sAt 29) (.ref 481) (.str "emacs.editing" 708) 487, body := fBody (sAt 29), ps := ["buffer", "codes", "before_markers"], ls := [] }
theorem F488_ok : FnOk F488 := FnOk.of (fun P => by kernel_rfl) (fun P => by kernel_rfl) rfl (by kernel_rfl) rfl rfl rfl rfl
theorem F488_b3 : FnBind F488 3 [] := bnd3 rfl fun w s a0 a1 a2 K => kp_binds K fun S => by kernel_rfl
theorem F488_b2 : FnBind F488 2 [.bool false] := bnd2 rfl fun w s a0 a1 K => kp_binds K fun S => by kernel_rfl
noncomputable def F495 : Fn := { addr := 495, fd := fnV "delete" "delete" (sAt 30) (.none) (.str "emacs.editing" 708) 494, body := fBody (sAt 30), ps := ["buffer", "start", "end"], ls := ["low", "high", "gone"] }
theorem F495_ok : FnOk F495 := FnOk.of (fun P => by kernel_rfl) (fun P => by kernel_rfl) rfl (by kernel_rfl) rfl rfl rfl rfl
theorem F495_b3 : FnBind F495 3 [] := bnd3 rfl fun w s a0 a1 a2 K => kp_binds K fun S => by kernel_rfl
noncomputable def F508 : Fn := { addr := 508, fd := fnV "replace" "replace" (sAt 32) (.ref 501) (.str "emacs.editing" 708) 507, body := fBody (sAt 32), ps := ["buffer", "start", "end", "codes", "rows"], ls := ["low", "high", "point", "gone"] }
theorem F508_ok : FnOk F508 := FnOk.of (fun P => by kernel_rfl) (fun P => by kernel_rfl) rfl (by kernel_rfl) rfl rfl rfl rfl
theorem F508_b5 : FnBind F508 5 [] := bnd5 rfl fun w s a0 a1 a2 a3 a4 K => kp_binds K fun S => by kernel_rfl
theorem F508_b4 : FnBind F508 4 [.none] := bnd4 rfl fun w s a0 a1 a2 a3 K => kp_binds K fun S => by kernel_rfl
noncomputable def F515 : Fn := { addr := 515, fd := fnV "change_sign" "change_sign" (sAt 33) (.none) (.str "emacs.editing" 708) 514, body := fBody (sAt 33), ps := ["buffer", "place", "code"], ls := [] }
theorem F515_ok : FnOk F515 := FnOk.of (fun P => by kernel_rfl) (fun P => by kernel_rfl) rfl (by kernel_rfl) rfl rfl rfl rfl
theorem F515_b3 : FnBind F515 3 [] := bnd3 rfl fun w s a0 a1 a2 K => kp_binds K fun S => by kernel_rfl
noncomputable def F522 : Fn := { addr := 522, fd := fnV "subst_codes" "subst_codes" (sAt 34) (.none) (.str "emacs.editing" 708) 521, body := fBody (sAt 34), ps := ["buffer", "start", "end", "one", "other"], ls := ["low", "high", "many", "place"] }
theorem F522_ok : FnOk F522 := FnOk.of (fun P => by kernel_rfl) (fun P => by kernel_rfl) rfl (by kernel_rfl) rfl rfl rfl rfl
theorem F522_b5 : FnBind F522 5 [] := bnd5 rfl fun w s a0 a1 a2 a3 a4 K => kp_binds K fun S => by kernel_rfl
noncomputable def F529 : Fn := { addr := 529, fd := fnV "transpose_regions" "transpose_regions" (sAt 35) (.none) (.str "emacs.editing" 708) 528, body := fBody (sAt 35), ps := ["buffer", "first", "second"], ls := ["one", "other", "head", "middle", "tail", "rows"] }
theorem F529_ok : FnOk F529 := FnOk.of (fun P => by kernel_rfl) (fun P => by kernel_rfl) rfl (by kernel_rfl) rfl rfl rfl rfl
theorem F529_b3 : FnBind F529 3 [] := bnd3 rfl fun w s a0 a1 a2 K => kp_binds K fun S => by kernel_rfl
noncomputable def F571 : Fn := { addr := 571, fd := fnV "__init__" "Piece.__init__" (mAt 42 0) (.none) (.str "emacs.pieces" 940) 570, body := fBody (mAt 42 0), ps := ["self", "codes", "runs"], ls := [] }
theorem F571_ok : FnOk F571 := FnOk.of (fun P => by kernel_rfl) (fun P => by kernel_rfl) rfl (by kernel_rfl) rfl rfl rfl rfl
theorem F571_b3 : FnBind F571 3 [] := bnd3 rfl fun w s a0 a1 a2 K => kp_binds K fun S => by kernel_rfl
noncomputable def F585 : Fn := { addr := 585, fd := fnV "tidy_runs" "tidy_runs" (sAt 43) (.none) (.str "emacs.pieces" 940) 584, body := fBody (sAt 43), ps := ["runs"], ls := ["found", "start", "end", "plist", "last"] }
theorem F585_ok : FnOk F585 := FnOk.of (fun P => by kernel_rfl) (fun P => by kernel_rfl) rfl (by kernel_rfl) rfl rfl rfl rfl
theorem F585_b1 : FnBind F585 1 [] := bnd1 rfl fun w s a0 K => kp_binds K fun S => by kernel_rfl
noncomputable def F590 : Fn := { addr := 590, fd := fnV "moved_runs" "moved_runs" (sAt 44) (.none) (.str "emacs.pieces" 940) 589, body := fBody (sAt 44), ps := ["runs", "by"], ls := [] }
theorem F590_ok : FnOk F590 := FnOk.of (fun P => by kernel_rfl) (fun P => by kernel_rfl) rfl (by kernel_rfl) rfl rfl rfl rfl
theorem F590_b2 : FnBind F590 2 [] := bnd2 rfl fun w s a0 a1 K => kp_binds K fun S => by kernel_rfl
noncomputable def F597 : Fn := { addr := 597, fd := fnV "piece_joined" "piece_joined" (sAt 45) (.none) (.str "emacs.pieces" 940) 596, body := fBody (sAt 45), ps := ["one", "other"], ls := [] }
theorem F597_ok : FnOk F597 := FnOk.of (fun P => by kernel_rfl) (fun P => by kernel_rfl) rfl (by kernel_rfl) rfl rfl rfl rfl
theorem F597_b2 : FnBind F597 2 [] := bnd2 rfl fun w s a0 a1 K => kp_binds K fun S => by kernel_rfl
noncomputable def F602 : Fn := { addr := 602, fd := fnV "piece_without" "piece_without" (sAt 46) (.none) (.str "emacs.pieces" 940) 601, body := fBody (sAt 46), ps := ["piece", "numbers"], ls := ["runs", "start", "end", "plist"] }
theorem F602_ok : FnOk F602 := FnOk.of (fun P => by kernel_rfl) (fun P => by kernel_rfl) rfl (by kernel_rfl) rfl rfl rfl rfl
theorem F602_b2 : FnBind F602 2 [] := bnd2 rfl fun w s a0 a1 K => kp_binds K fun S => by kernel_rfl
noncomputable def F616 : Fn := { addr := 616, fd := fnV "__init__" "KillRing.__init__" (mAt 48 0) (.none) (.str "emacs.killring" 1005) 615, body := fBody (mAt 48 0), ps := ["self", "most"], ls := [] }
theorem F616_ok : FnOk F616 := FnOk.of (fun P => by kernel_rfl) (fun P => by kernel_rfl) rfl (by kernel_rfl) rfl rfl rfl rfl
theorem F616_b2 : FnBind F616 2 [] := bnd2 rfl fun w s a0 a1 K => kp_binds K fun S => by kernel_rfl
noncomputable def F630 : Fn := { addr := 630, fd := fnV "kill_new" "kill_new" (sAt 49) (.none) (.str "emacs.killring" 1005) 629, body := fBody (sAt 49), ps := ["ring", "piece", "is_replacing"], ls := [] }
theorem F630_ok : FnOk F630 := FnOk.of (fun P => by kernel_rfl) (fun P => by kernel_rfl) rfl (by kernel_rfl) rfl rfl rfl rfl
theorem F630_b3 : FnBind F630 3 [] := bnd3 rfl fun w s a0 a1 a2 K => kp_binds K fun S => by kernel_rfl
noncomputable def F637 : Fn := { addr := 637, fd := fnV "kill_append" "kill_append" (sAt 50) (.none) (.str "emacs.killring" 1005) 636, body := fBody (sAt 50), ps := ["ring", "piece", "is_ahead"], ls := ["newest"] }
theorem F637_ok : FnOk F637 := FnOk.of (fun P => by kernel_rfl) (fun P => by kernel_rfl) rfl (by kernel_rfl) rfl rfl rfl rfl
theorem F637_b3 : FnBind F637 3 [] := bnd3 rfl fun w s a0 a1 a2 K => kp_binds K fun S => by kernel_rfl
noncomputable def F644 : Fn := { addr := 644, fd := fnV "current_kill" "current_kill" (sAt 51) (.none) (.str "emacs.killring" 1005) 643, body := fBody (sAt 51), ps := ["ring", "by", "keeps_pointer"], ls := ["place"] }
theorem F644_ok : FnOk F644 := FnOk.of (fun P => by kernel_rfl) (fun P => by kernel_rfl) rfl (by kernel_rfl) rfl rfl rfl rfl
theorem F644_b3 : FnBind F644 3 [] := bnd3 rfl fun w s a0 a1 a2 K => kp_binds K fun S => by kernel_rfl
noncomputable def F651 : Fn := { addr := 651, fd := fnV "set_marker" "set_marker" (sAt 53) (.none) (.str "emacs.placing" 1067) 650, body := fBody (sAt 53), ps := ["marker", "buffer", "place"], ls := [] }
theorem F651_ok : FnOk F651 := FnOk.of (fun P => by kernel_rfl) (fun P => by kernel_rfl) rfl (by kernel_rfl) rfl rfl rfl rfl
theorem F651_b3 : FnBind F651 3 [] := bnd3 rfl fun w s a0 a1 a2 K => kp_binds K fun S => by kernel_rfl
noncomputable def F665 : Fn := { addr := 665, fd := fnV "__init__" "MarkRing.__init__" (mAt 56 0) (.none) (.str "emacs.marks" 1078) 664, body := fBody (mAt 56 0), ps := ["self", "most"], ls := [] }
theorem F665_ok : FnOk F665 := FnOk.of (fun P => by kernel_rfl) (fun P => by kernel_rfl) rfl (by kernel_rfl) rfl rfl rfl rfl
theorem F665_b2 : FnBind F665 2 [] := bnd2 rfl fun w s a0 a1 K => kp_binds K fun S => by kernel_rfl
noncomputable def F679 : Fn := { addr := 679, fd := fnV "set_mark" "set_mark" (sAt 57) (.none) (.str "emacs.marks" 1078) 678, body := fBody (sAt 57), ps := ["buffer", "place"], ls := [] }
theorem F679_ok : FnOk F679 := FnOk.of (fun P => by kernel_rfl) (fun P => by kernel_rfl) rfl (by kernel_rfl) rfl rfl rfl rfl
theorem F679_b2 : FnBind F679 2 [] := bnd2 rfl fun w s a0 a1 K => kp_binds K fun S => by kernel_rfl
noncomputable def F686 : Fn := { addr := 686, fd := fnV "has_mark" "has_mark" (sAt 58) (.none) (.str "emacs.marks" 1078) 685, body := fBody (sAt 58), ps := ["buffer"], ls := [] }
theorem F686_ok : FnOk F686 := FnOk.of (fun P => by kernel_rfl) (fun P => by kernel_rfl) rfl (by kernel_rfl) rfl rfl rfl rfl
theorem F686_b1 : FnBind F686 1 [] := bnd1 rfl fun w s a0 K => kp_binds K fun S => by kernel_rfl
noncomputable def F693 : Fn := { addr := 693, fd := fnV "mark_place" "mark_place" (sAt 59) (.none) (.str "emacs.marks" 1078) 692, body := fBody (sAt 59), ps := ["buffer"], ls := [] }
theorem F693_ok : FnOk F693 := FnOk.of (fun P => by kernel_rfl) (fun P => by kernel_rfl) rfl (by kernel_rfl) rfl rfl rfl rfl
theorem F693_b1 : FnBind F693 1 [] := bnd1 rfl fun w s a0 K => kp_binds K fun S => by kernel_rfl
noncomputable def F700 : Fn := { addr := 700, fd := fnV "ring_marker" "ring_marker" (sAt 60) (.none) (.str "emacs.marks" 1078) 699, body := fBody (sAt 60), ps := ["ring", "buffer", "place"], ls := ["marker"] }
theorem F700_ok : FnOk F700 := FnOk.of (fun P => by kernel_rfl) (fun P => by kernel_rfl) rfl (by kernel_rfl) rfl rfl rfl rfl
theorem F700_b3 : FnBind F700 3 [] := bnd3 rfl fun w s a0 a1 a2 K => kp_binds K fun S => by kernel_rfl
noncomputable def F707 : Fn := { addr := 707, fd := fnV "push_mark" "push_mark" (sAt 61) (.none) (.str "emacs.marks" 1078) 706, body := fBody (sAt 61), ps := ["ring", "buffer", "place"], ls := ["marker"] }
theorem F707_ok : FnOk F707 := FnOk.of (fun P => by kernel_rfl) (fun P => by kernel_rfl) rfl (by kernel_rfl) rfl rfl rfl rfl
theorem F707_b3 : FnBind F707 3 [] := bnd3 rfl fun w s a0 a1 a2 K => kp_binds K fun S => by kernel_rfl
noncomputable def F712 : Fn := { addr := 712, fd := fnV "plist_rows" "plist_rows" (sAt 63) (.none) (.str "emacs.piecing" 1155) 711, body := fBody (sAt 63), ps := ["buffer", "start", "end"], ls := [] }
theorem F712_ok : FnOk F712 := FnOk.of (fun P => by kernel_rfl) (fun P => by kernel_rfl) rfl (by kernel_rfl) rfl rfl rfl rfl
theorem F712_b3 : FnBind F712 3 [] := bnd3 rfl fun w s a0 a1 a2 K => kp_binds K fun S => by kernel_rfl
noncomputable def F717 : Fn := { addr := 717, fd := fnV "piece_of" "piece_of" (sAt 64) (.none) (.str "emacs.piecing" 1155) 716, body := fBody (sAt 64), ps := ["buffer", "start", "end"], ls := ["runs"] }
theorem F717_ok : FnOk F717 := FnOk.of (fun P => by kernel_rfl) (fun P => by kernel_rfl) rfl (by kernel_rfl) rfl rfl rfl rfl
theorem F717_b3 : FnBind F717 3 [] := bnd3 rfl fun w s a0 a1 a2 K => kp_binds K fun S => by kernel_rfl
noncomputable def F722 : Fn := { addr := 722, fd := fnV "insert_piece" "insert_piece" (sAt 65) (.none) (.str "emacs.piecing" 1155) 721, body := fBody (sAt 65), ps := ["buffer", "piece"], ls := ["start", "rows"] }
theorem F722_ok : FnOk F722 := FnOk.of (fun P => by kernel_rfl) (fun P => by kernel_rfl) rfl (by kernel_rfl) rfl rfl rfl rfl
theorem F722_b2 : FnBind F722 2 [] := bnd2 rfl fun w s a0 a1 K => kp_binds K fun S => by kernel_rfl
noncomputable def F729 : Fn := { addr := 729, fd := fnV "save_kill" "save_kill" (sAt 67) (.none) (.str "emacs.yanking" 1175) 728, body := fBody (sAt 67), ps := ["ring", "piece", "goes_on", "is_ahead"], ls := [] }
theorem F729_ok : FnOk F729 := FnOk.of (fun P => by kernel_rfl) (fun P => by kernel_rfl) rfl (by kernel_rfl) rfl rfl rfl rfl
theorem F729_b4 : FnBind F729 4 [] := bnd4 rfl fun w s a0 a1 a2 a3 K => kp_binds K fun S => by kernel_rfl
noncomputable def F736 : Fn := { addr := 736, fd := fnV "copy_region" "copy_region" (sAt 68) (.none) (.str "emacs.yanking" 1175) 735, body := fBody (sAt 68), ps := ["buffer", "ring", "start", "end", "goes_on"], ls := ["low", "high"] }
theorem F736_ok : FnOk F736 := FnOk.of (fun P => by kernel_rfl) (fun P => by kernel_rfl) rfl (by kernel_rfl) rfl rfl rfl rfl
theorem F736_b5 : FnBind F736 5 [] := bnd5 rfl fun w s a0 a1 a2 a3 a4 K => kp_binds K fun S => by kernel_rfl
noncomputable def F743 : Fn := { addr := 743, fd := fnV "kill_region" "kill_region" (sAt 69) (.none) (.str "emacs.yanking" 1175) 742, body := fBody (sAt 69), ps := ["buffer", "ring", "start", "end", "goes_on"], ls := ["low", "high"] }
theorem F743_ok : FnOk F743 := FnOk.of (fun P => by kernel_rfl) (fun P => by kernel_rfl) rfl (by kernel_rfl) rfl rfl rfl rfl
theorem F743_b5 : FnBind F743 5 [] := bnd5 rfl fun w s a0 a1 a2 a3 a4 K => kp_binds K fun S => by kernel_rfl
noncomputable def F750 : Fn := { addr := 750, fd := fnV "swap_point_and_mark" "swap_point_and_mark" (sAt 70) (.none) (.str "emacs.yanking" 1175) 749, body := fBody (sAt 70), ps := ["buffer"], ls := ["place"] }
theorem F750_ok : FnOk F750 := FnOk.of (fun P => by kernel_rfl) (fun P => by kernel_rfl) rfl (by kernel_rfl) rfl rfl rfl rfl
theorem F750_b1 : FnBind F750 1 [] := bnd1 rfl fun w s a0 K => kp_binds K fun S => by kernel_rfl
noncomputable def F757 : Fn := { addr := 757, fd := fnV "yank" "yank" (sAt 71) (.none) (.str "emacs.yanking" 1175) 756, body := fBody (sAt 71), ps := ["buffer", "ring", "marks", "count", "is_swapped", "excluded"], ls := ["piece"] }
theorem F757_ok : FnOk F757 := FnOk.of (fun P => by kernel_rfl) (fun P => by kernel_rfl) rfl (by kernel_rfl) rfl rfl rfl rfl
theorem F757_b6 : FnBind F757 6 [] := bnd6 rfl fun w s a0 a1 a2 a3 a4 a5 K => kp_binds K fun S => by kernel_rfl
noncomputable def F762 : Fn := { addr := 762, fd := fnV "_law_deck" "_law_deck" (sAt 73) (.none) (.str "law_pq0293_01" 1234) 761, body := fBody (sAt 73), ps := ["script"], ls := ["cells"] }
theorem F762_ok : FnOk F762 := FnOk.of (fun P => by kernel_rfl) (fun P => by kernel_rfl) rfl (by kernel_rfl) rfl rfl rfl rfl
theorem F762_b1 : FnBind F762 1 [] := bnd1 rfl fun w s a0 K => kp_binds K fun S => by kernel_rfl
noncomputable def F769 : Fn := { addr := 769, fd := fnV "_law_draw" "_law_draw" (sAt 74) (.none) (.str "law_pq0293_01" 1234) 768, body := fBody (sAt 74), ps := ["deck", "many"], ls := ["rest", "mixed"] }
theorem F769_ok : FnOk F769 := FnOk.of (fun P => by kernel_rfl) (fun P => by kernel_rfl) rfl (by kernel_rfl) rfl rfl rfl rfl
theorem F769_b2 : FnBind F769 2 [] := bnd2 rfl fun w s a0 a1 K => kp_binds K fun S => by kernel_rfl
noncomputable def F774 : Fn := { addr := 774, fd := fnV "_law_drawn" "_law_drawn" (sAt 75) (.none) (.str "law_pq0293_01" 1234) 773, body := fBody (sAt 75), ps := ["deck", "size", "fresh"], ls := ["places"] }
theorem F774_ok : FnOk F774 := FnOk.of (fun P => by kernel_rfl) (fun P => by kernel_rfl) rfl (by kernel_rfl) rfl rfl rfl rfl
theorem F774_b3 : FnBind F774 3 [] := bnd3 rfl fun w s a0 a1 a2 K => kp_binds K fun S => by kernel_rfl
noncomputable def F779 : Fn := { addr := 779, fd := fnV "_law_done" "_law_done" (sAt 76) (.none) (.str "law_pq0293_01" 1234) 778, body := fBody (sAt 76), ps := ["buffer", "ring", "marks", "command", "by"], ls := ["way", "places", "codes", "is_so", "one", "other", "third", "last", "error"] }
theorem F779_ok : FnOk F779 := FnOk.of (fun P => by kernel_rfl) (fun P => by kernel_rfl) rfl (by kernel_rfl) rfl rfl rfl rfl
theorem F779_b5 : FnBind F779 5 [] := bnd5 rfl fun w s a0 a1 a2 a3 a4 K => kp_binds K fun S => by kernel_rfl
noncomputable def F784 : Fn := { addr := 784, fd := fnV "_law_state" "_law_state" (sAt 77) (.none) (.str "law_pq0293_01" 1234) 783, body := fBody (sAt 77), ps := ["buffer", "ring", "markers", "by"], ls := ["place", "reach"] }
theorem F784_ok : FnOk F784 := FnOk.of (fun P => by kernel_rfl) (fun P => by kernel_rfl) rfl (by kernel_rfl) rfl rfl rfl rfl
theorem F784_b4 : FnBind F784 4 [] := bnd4 rfl fun w s a0 a1 a2 a3 K => kp_binds K fun S => by kernel_rfl
noncomputable def F791 : Fn := { addr := 791, fd := fnV "_law_begun" "_law_begun" (sAt 78) (.none) (.str "law_pq0293_01" 1234) 790, body := fBody (sAt 78), ps := ["codes", "first", "behind"], ls := ["buffer", "markers", "marker", "place"] }
theorem F791_ok : FnOk F791 := FnOk.of (fun P => by kernel_rfl) (fun P => by kernel_rfl) rfl (by kernel_rfl) rfl rfl rfl rfl
theorem F791_b3 : FnBind F791 3 [] := bnd3 rfl fun w s a0 a1 a2 K => kp_binds K fun S => by kernel_rfl
noncomputable def F796 : Fn := { addr := 796, fd := fnV "law" "law" (sAt 79) (.none) (.str "law_pq0293_01" 1234) 795, body := fBody (sAt 79), ps := ["script"], ls := ["deck", "head", "tail", "inner", "by", "spots", "small", "marks_small", "ring", "rows", "large", "marks_large", "large_ring", "large_rows", "far", "spaces", "turn", "command", "the_told", "reach"] }
theorem F796_ok : FnOk F796 := FnOk.of (fun P => by kernel_rfl) (fun P => by kernel_rfl) rfl (by kernel_rfl) rfl rfl rfl rfl
theorem F796_b1 : FnBind F796 1 [] := bnd1 rfl fun w s a0 K => kp_binds K fun S => by kernel_rfl
noncomputable def cGap : Cls := { addr := 149, lay := ["room", "cells", "gap_start", "gap_end"], meths := [("size", 83), ("code", 90), ("codes", 97), ("move_gap", 104), ("widen_gap", 111), ("insert", 118), ("delete", 125), ("put", 132)] }
theorem cGap_ok : ClsOk cGap := ⟨fun P => by kernel_rfl, by decide +kernel, by decide +kernel⟩
theorem cGap_mk : MkOk cGap 76 := ⟨fun P => by kernel_rfl⟩
noncomputable def cMark : Cls := { addr := 226, lay := ["number", "advances", "buffer", "position"], meths := [] }
theorem cMark_ok : ClsOk cMark := ⟨fun P => by kernel_rfl, by decide +kernel, by decide +kernel⟩
theorem cMark_mk : MkOk cMark 202 := ⟨fun P => by kernel_rfl⟩
noncomputable def cMarks : Cls := { addr := 294, lay := ["rows"], meths := [("numbers", 249), ("put", 256), ("drop", 263), ("inserted", 277), ("deleted", 284), ("replaced", 291)] }
theorem cMarks_ok : ClsOk cMarks := ⟨fun P => by kernel_rfl, by decide +kernel, by decide +kernel⟩
theorem cMarks_mk : MkOk cMarks 242 := ⟨fun P => by kernel_rfl⟩
noncomputable def cBuf : Cls := { addr := 400, lay := ["number", "name", "text", "markers", "point", "begv", "zv", "mark", "is_live", "is_read_only", "ticks", "codes_ticks", "saved_ticks", "listeners", "undo", "props", "overlays", "locals", "syntax", "file"], meths := [("begin", 334), ("end", 341), ("size", 348), ("code_at", 355), ("codes", 362), ("goto", 369), ("touch", 397)] }
theorem cBuf_ok : ClsOk cBuf := ⟨fun P => by kernel_rfl, by decide +kernel, by decide +kernel⟩
theorem cBuf_mk : MkOk cBuf 313 := ⟨fun P => by kernel_rfl⟩
noncomputable def cPiece : Cls := { addr := 574, lay := ["codes", "runs"], meths := [] }
theorem cPiece_ok : ClsOk cPiece := ⟨fun P => by kernel_rfl, by decide +kernel, by decide +kernel⟩
theorem cPiece_mk : MkOk cPiece 571 := ⟨fun P => by kernel_rfl⟩
noncomputable def cKill : Cls := { addr := 619, lay := ["most", "pieces", "pointer"], meths := [] }
theorem cKill_ok : ClsOk cKill := ⟨fun P => by kernel_rfl, by decide +kernel, by decide +kernel⟩
theorem cKill_mk : MkOk cKill 616 := ⟨fun P => by kernel_rfl⟩
noncomputable def cRing : Cls := { addr := 668, lay := ["most", "markers", "last"], meths := [] }
theorem cRing_ok : ClsOk cRing := ⟨fun P => by kernel_rfl, by decide +kernel, by decide +kernel⟩
theorem cRing_mk : MkOk cRing 665 := ⟨fun P => by kernel_rfl⟩
open PySem PySem.W PyProof.Rows PySem.Calls Builtin Builtin.ObjectAttr
noncomputable def excO (t : Addr) (dd : Option Addr) : Obj := { cls := .ref 38, dict := dd, data := .fields #[.ref t, .none, .none, .none, .bool false, .none] }
noncomputable abbrev excBm : List Value := [.type "Exception", .type "BaseException", .type "object"]
noncomputable abbrev excC (dd : Option Addr) (k0 k1 k2 k3 k5 : Option Value) : Obj := excClassObj "LispSignal" "LispSignal" 38 37 [.type "Exception"] excBm true [] [] false none dd k0 k1 k2 k3 k5 "Exception.__new__"
structure ExcFacts (K : Frag) : Prop where
  sa : findIn K (.ref 38) "__setattr__" = some (some (.builtin "object.__setattr__"))
  dict : hasDictIn K 38 = true
  n1 : findIn K (.ref 38) "symbol" = some none
  n2 : findIn K (.ref 38) "data" = some none
  ini : findIn K (.ref 38) "__init__" = some (some (.ref 35))
  fn : typeIn K (.ref 35) = some (.type "function")
  cl : specialIn K (.ref 38) "__call__" = some (some (.builtin "type.__call__"))
  ty : instIn K (.ref 38) (.type "type") = some true
  obj : ∃ dd k0 k1 k2 k3 k5, K.lookup 38 = some (excC dd k0 k1 k2 k3 k5)
  kp : keepIn K (.ref 38) = true
  ga : findIn K (.ref 38) "__getattribute__" = some (some (.builtin "BaseException.__getattribute__"))
  gn : findIn K (.ref 38) "__getattr__" = some none
theorem excFacts (P : Params) : ExcFacts (KK P) := ⟨by kernel_rfl, by kernel_rfl, by kernel_rfl, by kernel_rfl, by kernel_rfl, by kernel_rfl, by kernel_rfl, by kernel_rfl, ⟨none, _, _, _, _, _, rfl⟩, by kernel_rfl, by kernel_rfl, by kernel_rfl⟩
noncomputable abbrev tpO' (vs : List Value) : Obj := { cls := .type "tuple", data := .seq vs.toArray }
section
variable {prog : Program} {w : World} {A : Around} {h : Heap} {g : Array GenState} {d : Drawn} {t : Nat} {os : OsState} {K : Frag} {R : Result → Shared → Prop}
theorem make_exc {rest : List Value} (X : K.In h) (EF : ExcFacts K) (hrest : rest.length ≤ sizeLine)
    (hq : codeAny (model prog w) (A.under (.builtin "type.__call__" ⟨.ref 38 :: rest, []⟩)) (.call (.ref 35) ⟨.ref (h.objs.size + 1) :: rest, []⟩) (InitBack (h.objs.size + 1) R) ⟨(h.push (tpO' rest)).push (excO h.objs.size none), g, d, t, os⟩) :
    codeAny (model prog w) A (.call (.ref 38) ⟨rest, []⟩) R ⟨h, g, d, t, os⟩ := by
  obtain ⟨dd, k0, k1, k2, k3, k5, lk⟩ := EF.obj
  have hC := X _ _ lk
  have F := PySem.F.excBase_Exception
  have T : OwnTail h excBm excBm := .base
  have hBn : excBm.contains (.type "Exception") = true := by decide +kernel
  refine codeAny_of_tree ?_
  show wpAny _ _ (callAny (.ref 38) _) _ _ _
  refine nd_load hC ?_
  show wpAny _ _ (callAny.viaDunder (.ref 38) _) _ _ _
  unfold callAny.viaDunder
  refine wpAny_bind ((looks_specialIn X EF.cl).at ?_)
  dsimp only
  rw [tc_bind]
  refine wpAny_bind (wpAny_pure (wpAny_bind (wpAny_pure ?_)))
  refine wpAny_pure (a := Fin.again (.call (.builtin "type.__call__") ⟨.ref 38 :: rest, []⟩)) (And.intro rfl ?_)
  refine codeAny_call_builtin_at (Code.quiet_builtin _ (by decide +kernel)) entry_typeCall (check_slot tc_kind tc_split (looks_instIn X EF.ty) (tc_args _ _ _) ?_)
  unfold Builtin.«type.__call__»
  repeat (first | with_reducible refine wpAny_loadPart_at hC ?_ | with_reducible refine wpAny_madeBy_exc hC ?_ | wp_step)
  refine codeAny_call_builtin_code (Code.quiet_builtin _ F.quiet) (wpAny_check_new_subU F hBn T hC ?_)
  refine codeAny_exc_new_subU F hBn F T hC ?_ hrest
  show wpAny _ _ _ _ _ _
  have k : ∀ b o, h.get? b = some o → ((h.push (tpO' rest)).push (excO h.objs.size none)).get? b = some o := fun b o e => Heap.get?_push_of_some _ (Heap.get?_push_of_some _ e)
  have X' : K.In ((h.push (tpO' rest)).push (excO h.objs.size none)) := fun b o e => k b o (X b o e)
  have hx : ((h.push (tpO' rest)).push (excO h.objs.size none)).get? (h.objs.size + 1) = some (excO h.objs.size none) := by heap_get
  have t1 : Looks (model prog w) ((h.push (tpO' rest)).push (excO h.objs.size none)) (typeOf (.ref (h.objs.size + 1))) (.ref 38) := (Looks.ld hx).andThen .now
  have i1 := looks_findIn (M := model prog w) X' EF.ini
  have b1 := bind_fn (M := model prog w) X' (.ref (h.objs.size + 1)) EF.fn
  have hC1 := k _ _ hC
  have hcC : (Value.ref 38 :: excBm).contains (.ref 38) = true := by decide +kernel
  unfold isInstance
  refine wpAny_bind (wpAny_bind (t1.here (wpAny_isSubtype_exc hC1 ?_)))
  rw [hcC]
  simp only [Bool.not_true, Bool.false_eq_true, if_false]
  have I : PySem.W.InstAt ((h.push (tpO' rest)).push (excO h.objs.size none)) (h.objs.size + 1) (excO h.objs.size none) 38 none := ⟨hx, rfl, rfl, trivial⟩
  refine wpAny_bind (wpAny_holding (special_fn (s := ⟨(h.push (tpO' rest)).push (excO h.objs.size none), g, d, t, os⟩) X' I EF.ini EF.fn (wpAny_call (codeAny_mono hq fun r s' z => ?_))))
  rcases r with e | (v | _ | _ | _) <;> first | exact z | exact z.elim | skip
  obtain ⟨rfl, z⟩ := z
  exact wpAny_pure z
end
section
variable {prog : Program} {w : World} {A : Around} {E : Value → Shared → Prop} {s : Shared} {K : Frag} {name : Str} {tk : Tok} {v : Value}
theorem looks_mro_exc {M : Model} {h : Heap} (X : K.In h) (EF : ExcFacts K) : Looks M h (mroOf (.ref 38)) (.ref 38 :: excBm) := by
  obtain ⟨dd, k0, k1, k2, k3, k5, lk⟩ := EF.obj
  exact (looks_clsIn X (by unfold clsIn; rw [lk])).andThen .now
theorem osa_exc {R : Result → Shared → Prop} {e T : Addr} {dd : Option Addr} (X : K.In s.heap) (EF : ExcFacts K) (he : s.heap.get? e = some (excO T dd)) (ha : findIn K (.ref 38) name = some none)
    (h : wpAny (model prog w) A.in1 (storeInOwnDict (.ref e) (.ref 38) (.str name tk) name v false)
      (fun fin s' => match fin with | .done f => R (.ok f) s' | .again c' => c'.quiet = true ∧ codeAny (model prog w) A c' R s') (fun e s' => R (.error e) s') s) :
    codeAny (model prog w) A (.call (.builtin "object.__setattr__") ⟨[.ref e, .str name tk, v], []⟩) R s := by
  have SF := PySem.F.store_Exception
  have sub : Looks (model prog w) s.heap (isInstance (.ref e) (.type "object")) true := ((Looks.ld he).andThen .now).andThen (looks_mroIn X (by
    obtain ⟨d0, k0, k1, k2, k3, k5, lk⟩ := EF.obj
    unfold mroIn clsIn; rw [lk]; rfl))
  have ty : Looks (model prog w) s.heap (typeOf (.ref e)) (.ref 38) := (Looks.ld he).andThen .now
  refine codeAny_call_builtin SF.slot.plain SF.entry (@check_slot (model prog w) _ _ s "object.__setattr__" "object" "__setattr__" (.ref e) [.str name tk, v] [] _ SF.kind SF.split sub (SF.args (.ref e) (.str name tk) v) ?_)
  rw [osa_eq, refuse_eq]
  refine wpAny_bind (wpAny_bind (ty.here (wpAny_bind ((looks_mro_exc X EF).here ?_))))
  rw [refuseLoop_ref, SF.passes]
  exact wpAny_pure (wpAny_bind (ty.here (wpAny_bind ((looks_findIn X ha).here (wpAny_bind (wpAny_pure h))))))
noncomputable def NsO (od : Obj) (m : Str → Option Value) : Prop := ∃ es ep, od.data = .dict es ep ∧ StrKeys es ∧ UniqKeys es ∧ ∀ y, nsFind es y = m y
theorem exc_store1 {e T : Addr} {Q : Unit → Shared → Prop} (X : K.In s.heap) (EF : ExcFacts K) (he : s.heap.get? e = some (excO T none)) (ha : findIn K (.ref 38) name = some none)
    (h : ∀ h' k', (∀ b o, b ≠ e → s.heap.get? b = some o → h'.get? b = some o) → h'.get? e = some (excO T (some s.heap.objs.size)) → (∃ od, h'.get? s.heap.objs.size = some od ∧ NsO od fun y => if y = name then some v else none) → Q () { s with heap := h', toks := k' }) :
    wpAny (model prog w) A (setAttr (.ref e) name v) Q E s := by
  have I : PySem.W.InstAt s.heap e (excO T none) 38 none := ⟨he, rfl, rfl, trivial⟩
  obtain ⟨d0, k0, k1, k2, k3, k5, lk⟩ := EF.obj
  have hC := X _ _ lk
  refine set_plain X I EF.sa (osa_exc (s := { s with toks := s.toks + 1 }) X EF he ha ?_)
  obtain ⟨hh, g, d, t, os⟩ := s
  dsimp only at *
  refine wpAny_bind (wpAny_pure (wpAny_bind (wpAny_bind (wpAny_loadPart he (wpAny_bind (wpAny_bind (wpAny_load hC ?_)))))))
  refine wpAny_pure ?_
  show wpAny _ _ (alloc { cls := Value.type "dict", data := Data.dict #[] } >>= fun d => update e (fun o => { cls := o.cls, dict := some d, data := o.data, slots := o.slots }) >>= fun _ => dictMade (.ref 38) e d) _ _ _
  have hx1 : (hh.push { cls := .type "dict", data := .dict #[] }).get? e = some (excO T none) := Heap.get?_push_of_some _ he
  have hxs : e ≠ hh.objs.size := Nat.ne_of_lt (Heap.lt_size he)
  refine wpAny_bind (wpAny_alloc' (wpAny_bind (wpAny_update' hx1 ?_)))
  refine wpAny_pure ?_
  have hgd : ((hh.push { cls := .type "dict", data := .dict #[] }).update e fun o => { cls := o.cls, dict := some hh.objs.size, data := o.data, slots := o.slots }).get? hh.objs.size
      = some { cls := .type "dict", data := .dict #[] } := (Heap.get?_update_ne _ _ _ _ hxs.symm).trans (Heap.get?_push_at rfl rfl)
  have hnd : ((hh.push { cls := .type "dict", data := .dict #[] }).update e fun o => { cls := o.cls, dict := some hh.objs.size, data := o.data, slots := o.slots }).Ns hh.objs.size (fun _ => none) :=
    ⟨_, #[], _, hgd, rfl, fun e he => absurd he (by simp), fun _ => rfl⟩
  show wpAny _ _ (storeInDict hh.objs.size (.str name t) name v) _ _ _
  unfold storeInDict newKeyGuard
  refine wpAny_bind (wpAny_pure (wpAny_bind (wpAny_nsSet1 (Heap.Ns1.of_empty hnd) fun h' hn' hs => ?_)))
  obtain ⟨oD, esD, epD, hoD, hdD, hcD⟩ := hn'.count (Within.cons name v Within.nil)
  refine wpAny_bind (wpAny_lookBehind hoD (by rw [hdD]; exact pastItsLine_dict (Nat.le_trans hcD (by rw [List.length_cons, List.length_nil, sizeLine_eq]; omega))) ?_)
  refine wpAny_pure (h h' _ (fun b o hbe hb => (hs.2 b (Nat.ne_of_lt (Heap.lt_size hb))).trans ((Heap.get?_update_ne _ _ _ _ hbe).trans (Heap.get?_push_of_some _ hb))) ((hs.2 e hxs).trans (Heap.get?_update_self _ hx1 rfl)) ?_)
  obtain ⟨o', es, ep, e1, e2, e3, eu, e4⟩ := hn'
  exact ⟨o', e1, es, ep, e2, e3, eu, fun y => by rw [e4 y]⟩
theorem exc_store2 {e T dx : Addr} {od : Obj} {mA : Str → Option Value} {Q : Unit → Shared → Prop} {ns : List Str} (X : K.In s.heap) (EF : ExcFacts K) (he : s.heap.get? e = some (excO T (some dx))) (hd : s.heap.get? dx = some od) (hne : dx ≠ e) (hns : NsO od mA) (hw : Within mA ns) (hsz : ns.length ≤ 100) (ha : findIn K (.ref 38) name = some none)
    (h : ∀ h' k', (∀ b o, b ≠ dx → s.heap.get? b = some o → h'.get? b = some o) → (∃ od', h'.get? dx = some od' ∧ NsO od' fun y => if y = name then some v else mA y) → Q () { s with heap := h', toks := k' }) :
    wpAny (model prog w) A (setAttr (.ref e) name v) Q E s := by
  have I : PySem.W.InstAt s.heap e (excO T (some dx)) 38 (some od) := ⟨he, rfl, rfl, hd⟩
  obtain ⟨d0, k0, k1, k2, k3, k5, lk⟩ := EF.obj
  have hC := X _ _ lk
  refine set_plain X I EF.sa (osa_exc (s := { s with toks := s.toks + 1 }) X EF he ha ?_)
  obtain ⟨hh, g, d, t, os⟩ := s
  dsimp only at *
  refine wpAny_bind (wpAny_pure (wpAny_bind (wpAny_bind (wpAny_loadPart he (wpAny_bind (wpAny_bind (wpAny_load hC ?_)))))))
  refine wpAny_pure ?_
  refine wpAny_pure (a := some dx) ?_
  have hnd : hh.Ns1 dx mA := let ⟨es, ep, a, b, c, d⟩ := hns; ⟨od, es, ep, hd, a, b, c, d⟩
  show wpAny _ _ (storeInDict dx (.str name t) name v) _ _ _
  unfold storeInDict newKeyGuard
  refine wpAny_bind (wpAny_pure (wpAny_bind (wpAny_nsSet1 hnd fun h' hn' hs => ?_)))
  obtain ⟨oD, esD, epD, hoD, hdD, hcD⟩ := hn'.count (Within.cons name v hw)
  refine wpAny_bind (wpAny_lookBehind hoD (by rw [hdD]; exact pastItsLine_dict (Nat.le_trans hcD (by rw [List.length_cons, sizeLine_eq]; omega))) ?_)
  refine wpAny_pure (h h' _ (fun b o hbe hb => (hs.2 b hbe).trans hb) ?_)
  obtain ⟨o', es, ep, e1, e2, e3, eu, e4⟩ := hn'
  exact ⟨o', e1, es, ep, e2, e3, eu, fun y => by rw [e4 y]⟩
theorem raise_exc {env : Env} {x : Sem Value} {Q : Flow → Shared → Prop} (hh : A.handled = none) (EF : ExcFacts K)
    (h : wpAny (model prog w) A x (fun v s₁ => ∃ e T d, v = .ref e ∧ K.In s₁.heap ∧ s₁.heap.get? e = some (excO T (some d)) ∧ E (.ref e) s₁) E s) : wpAny (model prog w) A (raiseStmt env (some x) none) Q E s := by
  obtain ⟨d0, k0, k1, k2, k3, k5, lk⟩ := EF.obj
  have hcB : (Value.ref 38 :: excBm).contains (.type "BaseException") = true := by decide +kernel
  unfold raiseStmt
  refine wpAny_bind (wpAny_mono h (fun v s₁ h₁ => ?_) fun _ _ x => x)
  obtain ⟨e, T, dx, rfl, X, he, hE⟩ := h₁
  have hC := X _ _ lk
  obtain ⟨hp, g, d, tk, os⟩ := s₁
  unfold excO at he
  repeat (first | with_reducible refine wpAny_loadPart_at he ?_ | with_reducible refine wpAny_loadPart_at hC ?_ | (with_reducible refine wpAny_isSubtype_exc hC ?_; rw [hcB]) | wp_step)
  exact wpAny_raiseNew_none hh hE
end
section
variable {c : Cx} {M : Mem} {H : AH} {n : Nat} {F : Fn} {rest : List Stmt} {P : Fl → Mem → AH → Prop}
theorem St.rawTurn2 (ok : c.Ok n) {h h' : Heap} (s : St c M H h) {a : Addr} {o o' od : Obj} (hH : H a = some (.raw o)) (hs : ∀ b ob, b ≠ a → h.get? b = some ob → h'.get? b = some ob) (h1 : h'.get? a = some o') (h2 : h'.get? h.objs.size = some od) :
    H h.objs.size = none ∧ h.objs.size ≠ a ∧ St c M (upd (upd H a (.raw o')) h.objs.size (.raw od)) h' := by
  refine el2_3 s fun news δ N nd A l => ?_
  refine Exists.elim (ok.fr _ _ _ l) fun m Fr0 => ?_
  have h0 : (a, o) ∈ news := A.rep a _ hH
  have ha : a ∈ ads news := List.mem_map_of_mem h0
  have nn : h.objs.size ∉ ads news := fun z => by refine el1_1 (List.mem_map.mp z) fun p hp' e => ?_; exact absurd (Heap.lt_size (N p hp').1) (by rw [e]; exact Nat.lt_irrefl _)
  have A1 : Abs c.w (setL news a o') δ (upd H a (.raw o')) := A.turn hH (fun _ _ z => by cases z) (setL_at h0)
  have zq := A1.fresh (a := h.objs.size) (o' := .raw od) (ob := od) (by rw [setL_ads]; exact nn) (fun _ _ z => by cases z) List.mem_cons_self; have hn := zq.1; have A2 := zq.2
  have ne : h.objs.size ≠ a := fun z => nn (z ▸ ha)
  rw [upd_ne ne] at hn
  refine ⟨hn, ne, (h.objs.size, od) :: setL news a o', δ, fun p hp => ?_, List.nodup_cons.mpr ⟨by show h.objs.size ∉ ads (setL news a o'); rw [setL_ads]; exact nn, by show (ads (setL news a o')).Nodup; rw [setL_ads]; exact nd⟩, A2, ?_⟩
  · rcases List.mem_cons.mp hp with rfl | hp
    · refine ⟨h2, fun z => ?_, ?_⟩
      · refine el3_1 Fr0.ns fun o _ _ x _ => ?_
        have z : h.objs.size = c.L := z
        exact absurd (Heap.lt_size x) (by rw [z]; exact Nat.lt_irrefl _)
      · cases q : c.h₀.get? h.objs.size with
        | none => rfl
        | some o => exact absurd (Heap.lt_size (Fr0.keep _ _ q)) (Nat.lt_irrefl _)
    · rcases mem_setL hp with rfl | ⟨hp, n1⟩
      · exact ⟨h1, (N _ h0).2⟩
      · exact ⟨hs _ _ n1 (N p hp).1, (N p hp).2⟩
  · refine ok.keep _ _ _ _ _ l ⟨fun b o e n1 _ => hs b o (fun z => n1 (z ▸ ha)) e, fun b hb m e => Ns_of_get e fun o e => hs b o (fun z => (fads_off ok l hb).1 (z ▸ ha)) e⟩ fun b hb => ?_
    rcases List.mem_cons.mp (show b ∈ h.objs.size :: ads (setL news a o') from hb) with rfl | hb
    · exact .inr (Heap.get?_none_of_le (Nat.le_refl _))
    · rw [setL_ads] at hb; exact .inl hb
theorem Ex.setE1 (ok : c.Ok n) {o e : Expr} {x : Str} {pos q : Pos} {a T : Addr} {v : Value} (hx : ∀ P, findIn (KK P) (.ref 38) x = some none) (he : Pe c M H e v) (ho : Pe c M H o (.ref a)) (hH : H a = some (.raw (excO T none)))
    (h : ∀ d od v', H d = none → d ≠ a → er v' = v → NsO od (fun y => if y = x then some v' else none) → Ex c M (upd (upd H a (.raw (excO T (some d)))) d (.raw od)) rest P)
    (hs : swapsWith e (some (.Attribute o x q)) pos.line c.env = pure false := by rfl) : Ex c M H (.Assign [.Attribute o x q] e pos :: rest) P :=
  Ex.cons fun hp k s Q E q' e' => plainObj_wpAny_Assign_Attribute (he hp k s _ _ fun v' h1 k1 z1 s1 => ho h1 k1 s1 _ _ fun o' h2 k2 z2 s2 => by
    rw [er_ref z2]
    refine exc_store1 (s := c.at h2 k2) (ok.K s2) (excFacts _) (s2.raw hH) (hx _) fun h3 k3 kp g1 g2 => ?_
    refine el1_1 g2 fun od g2 hns => ?_
    refine el0_2 (s2.rawTurn2 ok hH kp g1 g2) fun hn ne s3 => ?_
    exact q' .next _ _ _ _ (h _ od v' hn ne z1 hns) s3) hs
theorem Ex.setE2 (ok : c.Ok n) {o e : Expr} {x : Str} {pos q : Pos} {a T d : Addr} {od : Obj} {v : Value} {mA : Str → Option Value} {ns : List Str} (hx : ∀ P, findIn (KK P) (.ref 38) x = some none) (he : Pe c M H e v) (ho : Pe c M H o (.ref a)) (hH : H a = some (.raw (excO T (some d)))) (hd : H d = some (.raw od)) (hne : d ≠ a) (hns : NsO od mA) (hw : Within mA ns) (hz : ns.length ≤ 100)
    (h : ∀ od' v', er v' = v → NsO od' (fun y => if y = x then some v' else mA y) → Ex c M (upd H d (.raw od')) rest P)
    (hs : swapsWith e (some (.Attribute o x q)) pos.line c.env = pure false := by rfl) : Ex c M H (.Assign [.Attribute o x q] e pos :: rest) P :=
  Ex.cons fun hp k s Q E q' e' => plainObj_wpAny_Assign_Attribute (he hp k s _ _ fun v' h1 k1 z1 s1 => ho h1 k1 s1 _ _ fun o' h2 k2 z2 s2 => by
    rw [er_ref z2]
    refine exc_store2 (s := c.at h2 k2) (ok.K s2) (excFacts _) (s2.raw hH) (s2.raw hd) hne hns hw hz (hx _) fun h3 k3 kp g2 => ?_
    refine el1_1 g2 fun od' g2 hns' => ?_
    exact q' .next _ _ _ _ (h od' v' z1 hns') (s2.rawTurn ok hd kp g2)) hs
theorem excInit (n : Nat) {a T : Addr} {u v : Value} {H : AH} (hH : H a = some (.raw (excO T none))) :
    FnSpec 35 (n + 1) [.ref a, u, v] H (fun r H' => r = .none ∧ ∃ d od u', H d = none ∧ d ≠ a ∧ er u' = u ∧ (∃ m, NsO od m ∧ m "symbol" = some u') ∧ Sub (upd (upd H a (.raw (excO T (some d)))) d (.raw od)) H') NoX := by
  refine FnSpec.intro (F := F35) F35_ok F35_b3 rfl fun c ok I => ?_
  have nm : ∀ (i : Nat) {M : Mem} {H : AH} {x : Str} {v : Value} {pos}, F35.vars[i]? = some x → M[i]? = some (some v) → Pe c M H (.Name x pos) v := fun i M H x v pos hx hv => Pe.name ok i (by rw [I.vars]; exact hx) hv
  refine Ex.setE1 ok (fun P => (excFacts P).n1) (nm 1 rfl rfl) (nm 0 rfl rfl) hH fun d od u' hd hne hu hns => ?_
  refine Ex.setE2 ok (d := d) (od := od) (ns := ["symbol"]) (fun P => (excFacts P).n2) (nm 2 rfl rfl) (nm 0 rfl rfl) (by rw [upd_ne hne.symm, upd_same]) (upd_same _ _ _) hne hns ?_ (by decide) fun od' v' hv hns' => Ex.nil ⟨rfl, d, od', u', hd, hne, hu, ⟨_, hns', ?_⟩, ?_⟩
  · exact Within.cons _ _ Within.nil
  · simp
    intro z
    exact absurd z (by decide +kernel)
  · intro b x e
    by_cases q : b = d
    · subst q; rw [upd_same] at e ⊢; exact e
    · rw [upd_ne q] at e ⊢; rw [upd_ne q]; exact e
end
theorem lookIn_ns {od : Obj} {m : Str → Option Value} {x : Str} {v : Value} (h : NsO od m) (e : m x = some v) : lookIn x od = some (some v) := by
  refine el2_3 h fun es ep hd _ _ hf => ?_
  have := hf x
  rw [e] at this
  unfold nsFind findBy at this
  unfold lookIn
  rw [hd]
  dsimp only
  refine el1_1 (Option.map_eq_some_iff.mp this) fun en h1 h2 => ?_
  rw [Array.find?_toList, h1]
  simp [h2]
section
variable {c : Cx} {M : Mem} {H : AH} {n : Nat} {F : Fn} {rest : List Stmt} {P : Fl → Mem → AH → Prop}
noncomputable def MadeE (H : AH) (sym : Str) (r : Value) (H' : AH) : Prop := ∃ e T d od u' m, r = .ref e ∧ H e = none ∧ H d = none ∧ d ≠ e ∧ er u' = .str sym 0 ∧ NsO od m ∧ m "symbol" = some u' ∧ Sub (upd (upd H e (.raw (excO T (some d)))) d (.raw od)) H'
theorem CallJ.makeE (ok : c.Ok (n + 2)) {sym : Str} {v : Value} {P : Value → AH → Prop} (p : ∀ r H', MadeE H sym r H' → P r H') : CallJ c M H (.ref 38) [.str sym 0, v] P := by
  intro vs' hv hp k s Q E q e
  have K := ok.K s
  have hlen : vs'.length = 2 := by have := congrArg List.length hv; simpa using this
  refine wpAny_call (make_exc (h := hp) K (excFacts _) (by rw [hlen]; decide) ?_)
  have s1 := s.grown ok (h' := hp.push (tpO' vs')) fun b o e => Heap.get?_push_of_some _ e
  have zq := s1.alloc ok (o := .raw (excO hp.objs.size none)) (ob := excO hp.objs.size none) (fun _ _ z => by cases z) rfl fun news d m => m; have hn := zq.1; have s2 := zq.2
  rw [Heap.size_push] at hn s2
  have ok' : (c.withA (c.A.under (.builtin "type.__call__" ⟨.ref 38 :: vs', []⟩))).Ok (n + 1) := withA_ok ok (by have := ok.room; show c.A.depth + 1 + 4 * (n + 1) + 8 < _; lia) (by have := ok.units; show c.A.units + 1 + 20 * (n + 1) + 60 < _; lia) ok.hand rfl
  refine excInit n (upd_same _ _ _) _ ok' M _ k s2 (.ref (hp.objs.size + 1) :: vs') (by rw [List.map_cons, hv]; rfl) _ (fun r h' k' H' z s3 => ?_) fun _ _ _ _ x => x.elim
  have hr := z.1; refine el3_4 z.2 fun d od u' hd hne hu z97 hs => ?_; rcases z97 with ⟨m, hm, hms⟩; try clear z
  rw [upd_ne hne] at hd
  refine ⟨er_none hr, q _ _ _ _ _ ⟨rfl, p _ _ ⟨hp.objs.size + 1, hp.objs.size, d, od, u', m, rfl, hn, hd, hne, hu, hm, hms, fun b x e => hs b x ?_⟩⟩ s3⟩
  by_cases q : b = d
  · subst q; rw [upd_same] at e ⊢; exact e
  · rw [upd_ne q] at e ⊢
    by_cases q' : b = hp.objs.size + 1
    · subst q'; rw [upd_same] at e ⊢; exact e
    · rw [upd_ne q'] at e ⊢; rw [upd_ne q']; exact e
theorem MadeE.fly {sym : Str} {e : Addr} {H' : AH} {h : Heap} (md : MadeE H sym (.ref e) H') (s : St c M H' h) : Fly c M H sym e h ∧ ∃ T d, h.get? e = some (excO T (some d)) := by
  refine el6_7 md fun e' T d od u' m hr he hd hne hu hm hms hs => ?_
  cases hr
  refine el2_3 s fun news δ N nd A l => ?_
  have h1 : H' e = some (.raw (excO T (some d))) := hs e _ (by rw [upd_ne hne.symm, upd_same])
  have h2 : H' d = some (.raw od) := hs d _ (upd_same _ _ _)
  have hsub : Sub H H' := fun b x z => hs b x (by
    have n1 : b ≠ d := fun q => by subst q; rw [hd] at z; cases z
    have n2 : b ≠ e := fun q => by subst q; rw [he] at z; cases z
    rw [upd_ne n1, upd_ne n2]; exact z)
  refine Exists.elim (er_str hu) fun t z91 => ?_; rcases z91 with rfl
  refine el2_1 (id hm) fun es ep hdd _ => ?_
  have m1 : (e, excO T (some d)) ∈ news := A.rep e _ h1
  refine ⟨⟨news, δ, N, nd, A.less hsub, l, _, _, d, od, t, m1, ⟨he, fun a C vs z q => ?_⟩, rfl, rfl, rfl, A.rep d _ h2, ⟨⟨hd, fun a C vs z q => by have := A.sep a C vs (hsub _ _ z); rw [q, h2] at this; cases this⟩, es, ep, hdd⟩, lookIn_ns hm hms, .inl rfl⟩, T, d, (N _ m1).1⟩
  have := A.sep a C vs (hsub _ _ z)
  rw [q, h1] at this; cases this
theorem Args.mono {es : List Expr} {P P' : List Value → AH → Prop} (k : ∀ vs H', P vs H' → P' vs H') : ∀ {H : AH}, Args c M H es P → Args c M H es P' := by
  induction es generalizing P P' with
  | nil => exact fun h => k _ _ h
  | cons e es ih => exact fun h => Ev.mono h fun v H' z => ih (fun vs H2 => k _ _) z
theorem Ex.raise (ok : c.Ok (n + 2)) {x : Str} {p cpos pos : Pos} {args : List Expr} (hf : Pe c M H (.Name x p) (.ref 38)) (hn : noStar args = true)
    (h : Args c M H args fun vs H1 => ∃ sym v, vs = [.str sym 0, v] ∧ c.X sym ∧ Sub c.HX H1) : Ex c M H (.Raise (some (.Call (.Name x p) args [] cpos)) none pos :: rest) P :=
  Ex.cons fun hp k s Q E q e' => by
    rw [arm_exec_Raise]
    refine wpAny_bind (wpAny_standAt ?_)
    refine raise_exc (A := c.A) ok.hand (excFacts c.w.params) ?_
    have ev : Ev c M H (.Call (.Name x p) args [] cpos) fun r H' => ∃ sym H1, MadeE H1 sym r H' ∧ c.X sym ∧ Sub c.HX H1 := Ev.call ok hf (Solid.ref 38) (CW.ref fun P => (excFacts P).kp) hn (by
      refine Args.mono ?_ h
      rintro vs H1 ⟨sym, v, rfl, hx, hs⟩
      exact CallJ.makeE (n := n) ok fun r H' m => ⟨sym, H1, m, hx, hs⟩)
    refine wpAny_bind (ev hp k s _ _ (fun v h' k' M' H' p s' => ?_) fun e sym M' h' k' hx f => ?_)
    · rcases p.1 with rfl; refine el2_2 p.2 fun sym H1 md hx hs => ?_; try clear p
      refine el6_1 (id md) fun e T d od u' m hr z => ?_
      have hv := er_ref hr
      subst hv
      have zq := MadeE.fly (c := c) (M := M') (h := h') md s'; have f := zq.1; refine el2_0 zq.2 fun T' d' g => ?_
      exact wpAny_bind (wpAny_standAt (wpAny_pure ⟨e, T', d', rfl, ok.K s', g, e' e sym M' h' k' hx (f.less hs)⟩))
    · exact e' e sym M' h' k' hx f
end
open PySem PySem.W PyProof.Rows PySem.Calls Builtin Builtin.ObjectAttr
section
variable {prog : Program} {w : World} {A : Around} {E : Value → Shared → Prop} {s : Shared} {K : Frag} {name : Str} {tk : Tok} {v : Value}
theorem exc_get {e dx : Addr} {oe od : Obj} {vs : Array Value} {expr : Bool} {Q : Value → Shared → Prop} (X : K.In s.heap) (EF : ExcFacts K) (he : s.heap.get? e = some oe) (hc : oe.cls = .ref 38) (hdx : oe.dict = some dx) (hdt : oe.data = .fields vs) (hd : s.heap.get? dx = some od)
    (ha : findIn K (.ref 38) name = some none) (hl : lookIn name od = some (some v)) (hv : handedIn v = true) (h : ∀ k', Q v { s with toks := k' }) :
    wpAny (model prog w) A (getAttr (.ref e) name expr) Q E s := by
  obtain ⟨oc, odi, oda, osl⟩ := oe
  dsimp only at hc hdx hdt
  subst hc hdx hdt
  obtain ⟨d0, k0, k1, k2, k3, k5, lk⟩ := EF.obj
  have hC := X _ _ lk
  have L0 : Looks (model prog w) s.heap (typeOf (.ref e)) (.ref 38) := (Looks.ld he).andThen .now
  have L1 := looks_findIn (M := model prog w) X EF.ga
  have L2 := looks_findIn (M := model prog w) X EF.gn
  have L3 := looks_findIn (M := model prog w) X ha
  have f3 := PySem.F.attrBase_Exception.ga.bind (.ref e)
  have hx0 : (expr && onTheHeap (Value.builtin "BaseException.__getattribute__")) = false := by cases expr <;> rfl
  have hx2 : (Value.builtin "BaseException.__getattribute__" == Value.builtin "object.__getattribute__") = false := by decide +kernel
  have hx1 : (onTheHeap (Value.ref 38) && Value.builtin "BaseException.__getattribute__" == Value.builtin "object.__getattribute__") = false := by rw [hx2]; rfl
  obtain ⟨hh, g, d, t, os⟩ := s
  unfold getAttr
  refine wpAny_bind (wpAny_mkText (wpAny_holding ?_))
  refine wpAny_bind (L0.at (wpAny_bind (L1.at ?_)))
  dsimp only
  rw [hx1]
  simp only [Bool.false_eq_true, if_false]
  unfold getAttrByItsOwn
  repeat (any_goals (first | assumption | with_reducible refine wpAny_loadPart_at he ?_ | with_reducible refine L2.at ?_ | with_reducible refine L0.at ?_ | wp_step))
  have hk : builtinKind "BaseException.__getattribute__" = some .slot := by decide +kernel
  have hsplit : splitId "BaseException.__getattribute__" = some ("BaseException", "__getattribute__") := by decide +kernel
  have sub : Looks (model prog w) hh (isInstance (.ref e) (.type "BaseException")) true := L0.andThen (looks_mroIn X (by unfold mroIn clsIn; rw [lk]; rfl))
  refine codeAny_call_builtin PySem.F.attrBase_Exception.ga.plain PySem.F.entry_bexc_ga (@check_slot (model prog w) _ _ _ "BaseException.__getattribute__" "BaseException" "__getattribute__" (.ref e) [.str name t] [] _ hk hsplit sub (PySem.F.args_bexc_ga (.ref e) (.str name t)) ?_)
  repeat (any_goals (first | assumption | with_reducible refine wpAny_loadPart_at he ?_ | with_reducible refine wpAny_loadPart_at hC ?_ | with_reducible refine L3.at ?_ | with_reducible refine L0.at ?_ | wp_step))
  unfold lookIn at hl
  split at hl
  · rename_i es ep hdd
    rw [hdd]
    dsimp only
    split at hl
    · rename_i en hen
      have e1 : (nsNameIn name.cps.size name.cps.toList es.toList false).1 = some en := by rw [nsNameIn_fst, ← Array.find?_toList]; exact hen
      have e2 : en.val = v := by simpa using hl
      generalize nsNameIn name.cps.size name.cps.toList es.toList false = r at e1 ⊢
      obtain ⟨r1, r2⟩ := r
      dsimp only at e1
      subst e1
      dsimp only
      rw [e2]
      repeat (any_goals (first | assumption | wp_step))
      show wpAny _ _ (handedOut v) _ _ _
      exact handed_on hv (h _)
    · split at hl <;> cases hl
  · cases hl
end
theorem InFn.withA {c : Cx} {F : Fn} (I : InFn c F) (A : Around) : InFn (c.withA A) F := ⟨I.ok, I.env, I.vars, I.loc, I.frs, I.sub⟩
section
variable {c : Cx} {M : Mem} {H : AH} {n : Nat} {F : Fn} {rest : List Stmt} {P : Fl → Mem → AH → Prop}
theorem fly_flight (ok : c.Ok n) {sym : Str} {e : Addr} {h : Heap} {k : Nat} {A : Around} (f : Fly c M H sym e h) {Q : Unit → Shared → Prop} {E : Value → Shared → Prop} (q : ∀ h', Fly c M H sym e h' → Q () (c.at h' k)) :
    wpAny (model pw c.w) A (setFlight (.ref e) none) Q E (c.at h k) := by
  refine el2_4 (id f) fun news δ N nd Ab l z96 => ?_; rcases z96 with ⟨oe, vs, dx, od, t, e1, e2, e3, e4, e5, e6, ⟨e6o, es, ep, e6d⟩, e7, e8⟩
  rcases e8 with h1 | ⟨T, oT, ts, f1, f2, f3, f4, f5, f6⟩
  · unfold setFlight
    refine wpAny_bind (wpAny_field (s := c.at h k) (N _ e1).1 e5 h1 ?_)
    rw [if_neg (by decide)]
    exact wpAny_pure (q h f)
  · refine wpAny_setFlight_none (s := c.at h k) (N _ e1).1 e5 f1 (N _ f3).1 f5 (Array.getElem?_eq_some_iff.mp f6).1 (q _ ?_)
    have hf' := Obj.data_mapFields f5 (·.setIfInBounds 3 Value.none)
    have hT := Heap.get?_update_self (Obj.mapFields (·.setIfInBounds 3 Value.none)) (N _ f3).1 (Obj.isFreed_of_fields hf')
    have sb := Heap.SameBut.update h T (Obj.mapFields (·.setIfInBounds 3 Value.none))
    have hTa : T ∈ ads news := List.mem_map_of_mem f3
    have dxT : dx ≠ T := fun z => by
      subst z
      have := led_one nd e6 f3
      rw [← this, e6d] at f5; cases f5
    refine ⟨setL news T _, δ, news_setL N f3 sb hT, by rw [setL_ads]; exact nd, Ab.touch f4, ?_, oe, vs, dx, od, t, setL_ne e1 (Ne.symm f2), e2, e3, e4, e5, setL_ne e6 dxT, ⟨e6o, es, ep, e6d⟩, e7, .inr ⟨T, _, _, f1, f2, setL_at f3, f4, hf', by simp [(Array.getElem?_eq_some_iff.mp f6).1]⟩⟩
    rw [setL_ads]
    exact ok.keep _ _ _ _ _ l ⟨fun b o e n1 _ => (sb.2 b fun z => n1 (z ▸ hTa)).trans e, fun b hb m e => Ns_of_get e fun o e => (sb.2 b fun z => (fads_off ok l hb).1 (z ▸ hTa)).trans e⟩ fun a ha => .inl ha
theorem Fly.raws {sym : Str} {e : Addr} {h : Heap} (f : Fly c M H sym e h) : ∃ oe dx od vs t, oe.cls = .ref 38 ∧ oe.dict = some dx ∧ oe.data = .fields vs ∧ lookIn "symbol" od = some (some (.str sym t)) ∧ dx ≠ e ∧ H e = none ∧ H dx = none ∧ St c M (upd (upd H e (.raw oe)) dx (.raw od)) h := by
  refine el2_4 f fun news δ N nd Ab l z96 => ?_; rcases z96 with ⟨oe, vs, dx, od, t, e1, e2, e3, e4, e5, e6, ⟨e6o, es, ep, e6d⟩, e7, e8⟩
  have ne : dx ≠ e := fun z => by
    subst z
    have := led_one nd e6 e1
    rw [← this, e6d] at e5; cases e5
  have add : ∀ (H : AH) (b : Addr) (ob : Obj), Abs c.w news δ H → OffH H δ b → (b, ob) ∈ news → Abs c.w news δ (upd H b (.raw ob)) := fun H b ob A o m => by
    refine ⟨fun a x ha => ?_, fun a C vs ha => ?_, fun a d C D vs ws ha hd => ?_⟩
    · by_cases q : a = b
      · subst q; rw [upd_same] at ha; cases ha; exact m
      · rw [upd_ne q] at ha; exact A.rep a x ha
    · by_cases q : a = b
      · subst q; rw [upd_same] at ha; cases ha
      · rw [upd_ne q] at ha
        rw [upd_ne (o.2 a C vs ha)]; exact A.sep a C vs ha
    · by_cases q : a = b
      · subst q; rw [upd_same] at ha; cases ha
      · by_cases q' : d = b
        · subst q'; rw [upd_same] at hd; cases hd
        · rw [upd_ne q] at ha; rw [upd_ne q'] at hd; exact A.inj a d C D vs ws ha hd
  refine ⟨oe, dx, od, vs, t, e3, e4, e5, e7, ne, e2.1, e6o.1, news, δ, N, nd, add _ dx od (add H e oe Ab e2 e1) ⟨by rw [upd_ne ne]; exact e6o.1, fun a C vs ha => ?_⟩ e6, l⟩
  by_cases q : a = e
  · subst q; rw [upd_same] at ha; cases ha
  · rw [upd_ne q] at ha; exact e6o.2 a C vs ha
theorem Ex.try (ok : c.Ok n) (I : InFn c F) {X' : Str → Prop} {cn x : Str} {body : List Stmt} {p1 p2 p3 p4 p5 pos : Pos} (i : Nat) (hx : F.vars[i]? = some x) (hloc : F.sc.names.lookup x = some .local)
    (g : Gl cn (.ref 38)) (hk : kindIs c.env cn .globalImplicit) (hd : (cn == ("__debug__" : Str)) = false)
    (hb : Ex { c with X := X', HX := H } M H body fun fl M' H' => match fl with | .next => Ex c M' H' rest P | f => P f M' H')
    (he : ∀ sym M', X' sym → P (.ret (.str sym 0)) M' H) :
    Ex c M H (.Try body [.ExceptHandler (some (.Name cn p1)) (some x) [.Return (some (.Attribute (.Name x p2) "symbol" p3)) p4] p5] [] [] pos :: rest) P :=
  Ex.cons fun hp k s Q E q e' => by
    have hlenM : ∀ M' h N, c.loc M' h N → i < M'.length := fun M' h N l => by
      refine el3_1 I.loc fun g he outer _ hl => ?_
      rw [hl] at l
      refine el2_4 l fun m cm _ _ _ _ ee => ?_
      rw [ee, List.length_map]
      exact (List.getElem?_eq_some_iff.mp hx).1
    refine wpAny_Try_except (hb hp k s _ _ (fun f h' k' M' H' p s' => ?_) fun e sym M' h' k' hX f => ?_)
    · cases f with
      | next => exact wpAny_execs_nil (q .next _ _ _ _ p s')
      | brk => exact q .brk _ _ _ _ p s'
      | cont => exact q .cont _ _ _ _ p s'
      | ret v => exact q (.ret v) _ _ _ _ p s'
    · refine Exists.elim I.frs fun outer hfs => ?_
      have f : Fly c M' H sym e h' := f
      refine note_fly ok hfs (by rw [I.env]; rfl) f fun h2 f2 => ?_
      refine wpAny_handleBy_cons (codeAny_handlers_test ?_) (by intro q; cases q)
      refine el2_4 (id f2) fun news δ N nd Ab l _ => ?_
      refine Exists.elim (ok.fr _ _ _ l) fun m F' => ?_
      have K := ok.ground.1; refine el3_0 ok.ground.2 fun mean mg mb T => ?_
      refine nameG_K (s := c.at h2 k') F' K (topRead_of T) (g _) ?_ ok.globals ok.kind hk hd
      have X : (KK c.w.params).In h2 := K.keeps F'.keep
      refine el6_0 ((excFacts c.w.params).obj) fun d0 k0 k1 k2 k3 k5 lk => ?_
      refine el5_7 f2.raws fun oe dx od vs t a1 a2 a3 a4 a5 a6 a7 s3 => ?_
      have ge := s3.raw (show upd (upd H e (.raw oe)) dx (.raw od) e = some (.raw oe) by rw [upd_ne a5.symm, upd_same])
      refine wpAny_excMatches_sub_self (X _ _ lk) ge a1 (by decide +kernel) (codeAny_handlers_suite_as ?_)
      refine fly_flight ok f2 fun h3 f3 => ?_
      refine el5_7 f3.raws fun oe dx od vs t a1 a2 a3 a4 a5 a6 a7 s3 => ?_
      refine (I.withA (c.A.mark (some (.ref e)))).store (c := c.withA (c.A.mark (some (.ref e)))) hx s3 fun h4 k4 s4 => ?_
      have s4 : St c (M'.set i (some (.ref e))) (upd (upd H e (.raw oe)) dx (.raw od)) h4 := s4
      have hset : (M'.set i (some (.ref e)))[i]? = some (some (.ref e)) := by
        refine el2_4 f3 fun _ _ _ _ _ l3 _ => ?_
        rw [List.getElem?_set]; simp [hlenM _ _ _ l3]
      refine wpAny_execs_cons (wpAny_Return_some ?_)
      rw [arm_eval_Attribute, base_eq (by rfl)]
      refine el2_3 (id s4) fun _ _ _ _ _ l4 => ?_
      refine wpAny_bind (ok.name i x (.ref e) _ _ _ (by rw [I.vars]; exact hx) hset l4 _ _ _ _ _ fun v' z => wpAny_bind (wpAny_standAt (wpAny_bind (wpAny_holding ?_))))
      rw [er_ref z]
      have g1 := s4.raw (show upd (upd H e (.raw oe)) dx (.raw od) e = some (.raw oe) by rw [upd_ne a5.symm, upd_same])
      have g2 := s4.raw (show upd (upd H e (.raw oe)) dx (.raw od) dx = some (.raw od) from upd_same _ _ _)
      refine exc_get (s := c.at h4 k4) (ok.K s4) (excFacts c.w.params) g1 a1 a2 a3 g2 (excFacts c.w.params).n1 a4 rfl fun k5 => ?_
      refine wpAny_bind (wpAny_letTemporaryGo (wpAny_pure ?_))
      refine wpAny_bind (wpAny_bindName (I.store hx s4 fun h6 k6 s6 => ?_))
      unfold unbindBehindTheSuite
      refine wpAny_onRaise (I.unbind (v := .none) hx hloc (by rw [List.getElem?_set]; simp; refine el2_4 f3 fun _ _ _ _ _ l3 _ => ?_; exact ⟨hlenM _ _ _ l3, rfl⟩) s6 fun h7 k7 u s7 => ?_)
      refine q (.ret (.str sym t)) _ _ _ _ (he sym _ hX) (s7.less fun b y zz => ?_)
      have n1 : b ≠ dx := fun w => by subst w; rw [a7] at zz; cases zz
      have n2 : b ≠ e := fun w => by subst w; rw [a6] at zz; cases zz
      rw [upd_ne n1, upd_ne n2]; exact zz
end
section
variable {prog : Program} {w : World} {A : Around} {E : Value → Shared → Prop} {s : Shared}
theorem draw_list {it t : Addr} {items : Array Value} (hne : t ≠ it) : ∀ (n i : Nat) (s : Shared) (Q : List Value → Shared → Prop), s.heap.IsListIter it t i → s.heap.IsList t items → i + n ≤ items.size →
    (∀ h', h'.IsListIter it t (i + n) → Heap.SameBut it s.heap h' → Q ((items.toList.drop i).take n) { s with heap := h' }) → wpAny (model prog w) A (draw (.ref it) n) Q E s
  | 0, i, s, Q, hit, _, _, hQ => by
    show wpAny _ _ (pure []) Q E s
    exact wpAny_pure (by simpa using hQ s.heap hit (Heap.SameBut.refl ..))
  | n + 1, i, s, Q, hit, ht, hle, hQ => by
    have hlt : i < items.size := by omega
    show wpAny _ _ (pyNext (.ref it) >>= _) Q E s
    refine wpAny_bind (wpAny_pyNext_list_item hit ht (x := items[i]) (by simp [hlt]) fun h₁ hit₁ hs₁ => ?_)
    refine wpAny_bind (wpAny_holding (draw_list hne n (i + 1) _ _ hit₁ (ht.extBut hs₁.extBut hne) (by omega) fun h₂ hit₂ hs₂ => wpAny_pure ?_))
    have hd : items.toList.drop i = items[i] :: items.toList.drop (i + 1) := by simp [List.drop_eq_getElem_cons, hlt]
    have := hQ h₂ (by rw [show i + (n + 1) = i + 1 + n by omega]; exact hit₂) (hs₁.trans hs₂)
    rw [hd, List.take_succ_cons] at this
    exact this
theorem unpackItems_list {t : Addr} {items : Array Value} {Q : List Value → Shared → Prop} (hh : A.handled = none) (ht : s.heap.IsList t items)
    (hQ : ∀ h', Heap.ExtBut s.heap.objs.size s.heap h' → Q items.toList { s with heap := h' }) : wpAny (model prog w) A (unpackItems (.ref t) items.size none) Q E s := by
  have hlt : t ≠ s.heap.objs.size := by obtain ⟨o, ho, _⟩ := ht; exact Nat.ne_of_lt (Heap.lt_size ho)
  unfold unpackItems
  refine wpAny_bind ?_
  unfold notIterableAtAll
  refine wpAny_bind (wpAny_specialOf ht.typeIs slot_list_iter.lookup ?_)
  refine wpAny_pure ?_
  simp only [Bool.false_eq_true, if_false]
  refine wpAny_bind (wpAny_holding (wpAny_pyIter_list ht ?_))
  have ht' : (s.heap.push { cls := .type "list_iterator", data := .fields #[.ref t, .int 0 0] }).IsList t items := ht.push _
  refine wpAny_bind (wpAny_holding (draw_list hlt items.size 0 _ _ ⟨_, Heap.get?_push_size _ rfl, rfl, rfl⟩ ht' (by omega) fun h₁ hit₁ hs₁ => ?_))
  have hall : List.take items.size (List.drop 0 items.toList) = items.toList := by
    rw [List.drop_zero]; exact List.take_of_length_le (by simp)
  rw [hall]
  simp only [Array.length_toList, Nat.lt_irrefl, if_false]
  rw [Nat.zero_add] at hit₁
  refine wpAny_bind (wpAny_holding (wpAny_pyNext_list_end hh hit₁ (ht'.extBut hs₁.extBut hlt) (by simp) fun h₂ he => ?_))
  simp only [Option.isSome_none, Bool.false_eq_true, if_false]
  exact wpAny_pure (hQ h₂ fun b o n1 e => he b o n1 (hs₁.extBut b o n1 (Heap.get?_push_of_some _ e)))
theorem unpack_list {t : Addr} {items : Array Value} {targets : List (Bool × (Value → Sem Unit))} {Q : Unit → Shared → Prop} (hh : A.handled = none) (ht : s.heap.IsList t items)
    (hn : targets.length = items.size) (hstar : targets.findIdx? (·.1) = none)
    (h : ∀ h', Heap.ExtBut s.heap.objs.size s.heap h' → wpAny (model prog w) A (assignInOrder (targets.map (·.2)) items.toList) Q E { s with heap := h' }) :
    wpAny (model prog w) A (unpack (.ref t) targets) Q E s := by
  unfold unpack
  rw [hn, hstar]
  exact wpAny_bind (wpAny_holding (unpackItems_list hh ht h))
end
section
variable {c : Cx} {M : Mem} {H : AH} {n : Nat} {F : Fn} {rest : List Stmt} {P : Fl → Mem → AH → Prop}
theorem Pe.str {x : Str} {q pos} : Pe c M H (.Constant (.str x) q pos) (.str x 0) := fun _ _ s _ _ q => wpAny_Constant_str (q _ _ _ rfl s)
theorem Asg.lst (ok : c.Ok n) {ts : List Expr} {k pos} {t : Addr} {vs : List Value} {P : Mem → AH → Prop} (ht : H t = some (.list vs)) (hn : noStarT ts = true) (hlen : ts.length = vs.length) (h : Asgs c M H ts vs P) : Asg c M H (.Tuple ts k pos) (.ref t) P :=
  fun v' z hp kk s Q E q e => by
    rw [er_ref z]
    refine el1_1 (s.isList ht) fun ws it ew => ?_
    have ea := assignEach_plain c.env hn
    rw [arm_assign_Tuple]
    refine wpAny_bind (wpAny_standAt (unpack_list (s := c.at hp kk) ok.hand it (by rw [ea, List.length_map, List.size_toArray, hlen, ← ew, List.length_map]) (by rw [ea, List.findIdx?_map]; simp) fun h' hx => ?_))
    have g : Grown hp h' := fun b o e => hx b o (Nat.ne_of_lt (Heap.lt_size e)) e
    rw [ea, List.map_map]
    exact h.run ws ew h' kk (s.grown ok g) Q E (fun _ h2 k2 M2 H2 p s2 => q () _ _ _ _ p s2) e
theorem Ex.unpackS2 (ok : c.Ok n) (I : InFn c F) {ts : List Expr} {k : Nat} {tp pos : Pos} {e : Expr} {x y : Str} (i j : Nat) (hx : F.vars[i]? = some x) (hy : F.vars[j]? = some y)
    (h : Ev c M H e fun v H' => ∃ t a b, v = .ref t ∧ H' t = some (.tup [a, b]) ∧ Ex c ((M.set j (some b)).set i (some a)) H' rest P)
    (hw : swappedStores [.Tuple ts k tp] e c.env = pure (some [x, y])) (hs : swapsWithSole [.Tuple ts k tp] e pos.line c.env = pure false := by rfl) : Ex c M H (.Assign [.Tuple ts k tp] e pos :: rest) P :=
  Ex.cons fun hp kk s Q E q e' => by
    rw [exec_Assign_arm]
    refine wpAny_bind (wpAny_standAt ?_)
    rw [hs]
    refine wpAny_bind (wpAny_pure ?_)
    rw [if_neg (by decide)]
    refine wpAny_bind (h hp kk s _ _ (fun v h1 k1 M1 H1 p s1 => ?_) e')
    have zq := p; rcases zq.1 with rfl; refine el3_2 zq.2 fun t a b hv ht p => ?_
    rw [er_ref hv, hw]
    refine wpAny_bind (wpAny_pure ?_)
    refine el1_1 (s1.isTup ht) fun ws it ew => ?_
    refine el2_2 (two_of ew) fun a' b' z92 ea eb => ?_; rcases z92 with rfl
    have tail : ∀ h2 k2, St c M1 H1 h2 → wpAny (model pw c.w) c.A (assignInOrder [bindName c.env y, bindName c.env x] [b', a']) (fun _ s' => Q .next s') E (c.at h2 k2) := fun h2 k2 s2 => by
      unfold assignInOrder
      refine wpAny_bind (wpAny_holding (wpAny_bindName (I.store hy s2 fun h3 k3 s3 => ?_)))
      unfold assignInOrder
      refine wpAny_bind (wpAny_holding (wpAny_bindName (I.store hx s3 fun h4 k4 s4 => ?_)))
      unfold assignInOrder
      rw [ea, eb] at s4
      exact wpAny_pure (q .next _ _ _ _ p s4)
    unfold assignStores
    have un : wpAny (model pw c.w) c.A (unpackItems (.ref t) 2 none) (fun its s' => wpAny (model pw c.w) c.A (assignInOrder [bindName c.env y, bindName c.env x] its.reverse) (fun _ s' => Q .next s') E s') E (c.at h1 k1) :=
      unpackItems_tuple (s := c.at h1 k1) (items := #[a', b']) ok.hand it fun h2 hx2 => tail h2 k1 (s1.grown ok fun b o e => hx2 b o (Nat.ne_of_lt (Heap.lt_size e)) e)
    refine wpAny_bind (wpAny_rule (wpAny_bind (wpAny_mono un (fun its s' z => wpAny_bind (wpAny_mono z (fun _ _ z => wpAny_pure z) fun _ _ z => z)) fun _ _ z => z)))
theorem Cmp.strEq {a b : Str} : Cmp c M H .Eq (.str a 0) (.str b 0) (a == b) := fun a' b' h k s Q E za zb q => by
  refine Exists.elim (er_str za) fun t z91 => ?_; rcases z91 with rfl; refine Exists.elim (er_str zb) fun u z91 => ?_; rcases z91 with rfl; exact eq_str (q h k s)
theorem Cmp.strNe {a b : Str} : Cmp c M H .NotEq (.str a 0) (.str b 0) (a != b) := fun a' b' h k s Q E za zb q => by
  refine Exists.elim (er_str za) fun t z91 => ?_; rcases z91 with rfl; refine Exists.elim (er_str zb) fun u z91 => ?_; rcases z91 with rfl; exact ne_str (q h k s)
end
theorem InFn.kind {c : Cx} {F : Fn} (I : InFn c F) {x : Str} {k : NameKind} (h : F.sc.names.lookup x = some k) : kindIs c.env x k := by rw [I.env]; exact h
theorem gl_narrow : Gl "narrow" (.ref 48) := fun P => by kernel_rfl
theorem gl_widen : Gl "widen" (.ref 55) := fun P => by kernel_rfl
theorem gl_is_narrowed : Gl "is_narrowed" (.ref 62) := fun P => by kernel_rfl
theorem gl_need_writable : Gl "need_writable" (.ref 409) := fun P => by kernel_rfl
theorem gl_need_room : Gl "need_room" (.ref 416) := fun P => by kernel_rfl
theorem gl_reached : Gl "reached" (.ref 423) := fun P => by kernel_rfl
theorem gl_tell_ahead : Gl "tell_ahead" (.ref 430) := fun P => by kernel_rfl
theorem gl_tell_behind : Gl "tell_behind" (.ref 437) := fun P => by kernel_rfl
theorem gl_text_out : Gl "text_out" (.ref 444) := fun P => by kernel_rfl
theorem gl_text_in : Gl "text_in" (.ref 451) := fun P => by kernel_rfl
theorem gl_hung_out : Gl "hung_out" (.ref 458) := fun P => by kernel_rfl
theorem gl_hung_in : Gl "hung_in" (.ref 465) := fun P => by kernel_rfl
theorem gl_put_in : Gl "put_in" (.ref 472) := fun P => by kernel_rfl
theorem gl_insert_at : Gl "insert_at" (.ref 480) := fun P => by kernel_rfl
theorem gl_insert : Gl "insert" (.ref 488) := fun P => by kernel_rfl
theorem gl_delete : Gl "delete" (.ref 495) := fun P => by kernel_rfl
theorem gl_replace : Gl "replace" (.ref 508) := fun P => by kernel_rfl
theorem gl_change_sign : Gl "change_sign" (.ref 515) := fun P => by kernel_rfl
theorem gl_subst_codes : Gl "subst_codes" (.ref 522) := fun P => by kernel_rfl
theorem gl_transpose_regions : Gl "transpose_regions" (.ref 529) := fun P => by kernel_rfl
theorem gl_tidy_runs : Gl "tidy_runs" (.ref 585) := fun P => by kernel_rfl
theorem gl_moved_runs : Gl "moved_runs" (.ref 590) := fun P => by kernel_rfl
theorem gl_piece_joined : Gl "piece_joined" (.ref 597) := fun P => by kernel_rfl
theorem gl_piece_without : Gl "piece_without" (.ref 602) := fun P => by kernel_rfl
theorem gl_kill_new : Gl "kill_new" (.ref 630) := fun P => by kernel_rfl
theorem gl_kill_append : Gl "kill_append" (.ref 637) := fun P => by kernel_rfl
theorem gl_current_kill : Gl "current_kill" (.ref 644) := fun P => by kernel_rfl
theorem gl_set_marker : Gl "set_marker" (.ref 651) := fun P => by kernel_rfl
theorem gl_set_mark : Gl "set_mark" (.ref 679) := fun P => by kernel_rfl
theorem gl_has_mark : Gl "has_mark" (.ref 686) := fun P => by kernel_rfl
theorem gl_mark_place : Gl "mark_place" (.ref 693) := fun P => by kernel_rfl
theorem gl_ring_marker : Gl "ring_marker" (.ref 700) := fun P => by kernel_rfl
theorem gl_push_mark : Gl "push_mark" (.ref 707) := fun P => by kernel_rfl
theorem gl_plist_rows : Gl "plist_rows" (.ref 712) := fun P => by kernel_rfl
theorem gl_piece_of : Gl "piece_of" (.ref 717) := fun P => by kernel_rfl
theorem gl_insert_piece : Gl "insert_piece" (.ref 722) := fun P => by kernel_rfl
theorem gl_save_kill : Gl "save_kill" (.ref 729) := fun P => by kernel_rfl
theorem gl_copy_region : Gl "copy_region" (.ref 736) := fun P => by kernel_rfl
theorem gl_kill_region : Gl "kill_region" (.ref 743) := fun P => by kernel_rfl
theorem gl_swap_point_and_mark : Gl "swap_point_and_mark" (.ref 750) := fun P => by kernel_rfl
theorem gl_yank : Gl "yank" (.ref 757) := fun P => by kernel_rfl
theorem gl_law_deck : Gl "_law_deck" (.ref 762) := fun P => by kernel_rfl
theorem gl_law_draw : Gl "_law_draw" (.ref 769) := fun P => by kernel_rfl
theorem gl_law_drawn : Gl "_law_drawn" (.ref 774) := fun P => by kernel_rfl
theorem gl_law_done : Gl "_law_done" (.ref 779) := fun P => by kernel_rfl
theorem gl_law_state : Gl "_law_state" (.ref 784) := fun P => by kernel_rfl
theorem gl_law_begun : Gl "_law_begun" (.ref 791) := fun P => by kernel_rfl
theorem gl_LispSignal : Gl "LispSignal" (.ref 38) := fun P => by kernel_rfl
theorem gl_GapText : Gl "GapText" (.ref 149) := fun P => by kernel_rfl
theorem gl_Marker : Gl "Marker" (.ref 226) := fun P => by kernel_rfl
theorem gl_Markers : Gl "Markers" (.ref 294) := fun P => by kernel_rfl
theorem gl_Buffer : Gl "Buffer" (.ref 400) := fun P => by kernel_rfl
theorem gl_Piece : Gl "Piece" (.ref 574) := fun P => by kernel_rfl
theorem gl_KillRing : Gl "KillRing" (.ref 619) := fun P => by kernel_rfl
theorem gl_MarkRing : Gl "MarkRing" (.ref 668) := fun P => by kernel_rfl
theorem gb_len : GlB "len" (.builtin "len") := ⟨fun P => by kernel_rfl, by kernel_rfl, by decide +kernel⟩
theorem gb_min : GlB "min" (.builtin "min") := ⟨fun P => by kernel_rfl, by kernel_rfl, by decide +kernel⟩
theorem gb_max : GlB "max" (.builtin "max") := ⟨fun P => by kernel_rfl, by kernel_rfl, by decide +kernel⟩
theorem gb_abs : GlB "abs" (.builtin "abs") := ⟨fun P => by kernel_rfl, by kernel_rfl, by decide +kernel⟩
theorem gb_sorted : GlB "sorted" (.builtin "sorted") := ⟨fun P => by kernel_rfl, by kernel_rfl, by decide +kernel⟩
theorem gb_list : GlB "list" (.type "list") := ⟨fun P => by kernel_rfl, by kernel_rfl, by decide +kernel⟩
theorem gb_range : GlB "range" (.type "range") := ⟨fun P => by kernel_rfl, by kernel_rfl, by decide +kernel⟩
theorem gb_zip : GlB "zip" (.type "zip") := ⟨fun P => by kernel_rfl, by kernel_rfl, by decide +kernel⟩
section
variable {c : Cx} {M : Mem} {H : AH} {n : Nat} {F : Fn} {rest : List Stmt} {P : Fl → Mem → AH → Prop}
theorem Pe.loc (ok : c.Ok n) (I : InFn c F) (i : Nat) {x : Str} {v : Value} {pos} (hx : F.vars[i]? = some x) (hv : M[i]? = some (some v)) : Pe c M H (.Name x pos) v := Pe.name ok i (by rw [I.vars]; exact hx) hv
noncomputable abbrev Vars (c : Cx) (F : Fn) : Prop := ∀ (k : Nat) {M : Mem} {H : AH} {x : Str} {v : Value} {pos : Pos}, F.vars[k]? = some x → M[k]? = some (some v) → Pe c M H (.Name x pos) v
theorem Pe.vars (ok : c.Ok n) (I : InFn c F) : Vars c F := fun k _ _ _ _ _ => Pe.loc ok I k
theorem Pe.gl (ok : c.Ok n) (I : InFn c F) {x : Str} {v : Value} {pos} (g : Gl x v) (hk : F.sc.names.lookup x = some .globalImplicit) (hd : (x == ("__debug__" : Str)) = false) : Pe c M H (.Name x pos) (er v) := Pe.glob ok g (I.kind hk) hd
theorem Pe.gb (ok : c.Ok n) (I : InFn c F) {x : Str} {v : Value} {pos} (g : GlB x v) (hk : F.sc.names.lookup x = some .globalImplicit) (hd : (x == ("__debug__" : Str)) = false) : Pe c M H (.Name x pos) (er v) := Pe.blt ok g (I.kind hk) hd
theorem St.listTurn (ok : c.Ok n) {h h' : Heap} (s : St c M H h) {a : Addr} {xs : List Value} {vs' : List Value} {m : Nat} (hH : H a = some (.list xs)) (hs : Heap.SameBut a h h') (h1 : h'.get? a = some (lsO vs' m)) : St c M (upd H a (.list (vs'.map er))) h' := by
  refine el2_3 s fun news δ N nd A l => ?_
  refine el2_1 (A.rep a _ hH) fun vs n h0 e => ?_
  refine ⟨_, δ, news_setL N h0 hs h1, by rw [setL_ads]; exact nd, A.turn hH (fun _ _ z => by cases z) ⟨vs', m, setL_at h0, rfl⟩, ?_⟩
  rw [setL_ads]
  have ha : a ∈ ads news := List.mem_map_of_mem h0
  exact ok.keep _ _ _ _ _ l ⟨fun b o e n1 _ => (hs.2 b fun z => n1 (z ▸ ha)).trans e, fun b hb m e => Ns_of_get e fun o e => (hs.2 b fun z => (fads_off ok l hb).1 (z ▸ ha)).trans e⟩ fun a ha => .inl ha
end
structure CompOk (F : Fn) (sc : Scope) (ns : List Str) (caps : List (Str × Nat)) : Prop where
  ncell : ∀ y ∈ sc.names, y.2 ≠ .cell
  kind : sc.kind = .function
  locs : ∀ y ∈ sc.names, y.2 = .local → sc.names.lookup y.1 = some .local
  mine : ∀ x ∈ ns, sc.names.lookup x = some .local ∧ (x == ("__debug__" : Str)) = false
  nd : ns.Nodup
  caps : ∀ p ∈ caps, F.vars[p.2]? = some p.1 ∧ F.sc.names.lookup p.1 = some .cell ∧ sc.names.lookup p.1 = some .free ∧ (p.1 == ("__debug__" : Str)) = false
  free : ∀ y ∈ sc.names, y.2 = .free → F.sc.names.lookup y.1 = some .cell
noncomputable def capGo (cells : List (Str × Addr)) : List (Str × NameKind) → List (Str × Addr) → List (Str × Addr)
  | [], acc => acc
  | (n, k) :: r, acc => capGo cells r (if k == .free then (n, (cells.lookup n).getD 0) :: acc else acc)
noncomputable def capCl (F : Fn) (L : Addr) (sc : Scope) : List (Str × Addr) := capGo (cellsFrom (L + 1) F.sc.names []) sc.names []
theorem closure_eq {F : Fn} {L : Addr} {sc : Scope} (h : ∀ y ∈ sc.names, y.2 = .free → F.sc.names.lookup y.1 = some .cell) : closureFor sc (F.envAt L) = pure (capCl F L sc) := by
  unfold closureFor capCl
  have key : ∀ (l : List (Str × NameKind)) (acc : List (Str × Addr)), (∀ y ∈ l, y.2 = .free → F.sc.names.lookup y.1 = some .cell) →
      (forIn l acc fun (x : Str × NameKind) r => if (x.2 == NameKind.free) = true then do let a ← cellOf (F.envAt L) x.1; pure (ForInStep.yield ((x.1, a) :: r)) else pure (ForInStep.yield r) : Sem (List (Str × Addr))) = pure (capGo (cellsFrom (L + 1) F.sc.names []) l acc) := by
    intro l
    induction l with
    | nil => intro acc _; rfl
    | cons y r ih =>
      intro acc hh
      rw [List.forIn_cons]
      obtain ⟨n, k⟩ := y
      by_cases hk : (k == NameKind.free) = true
      · have hc := hh (n, k) List.mem_cons_self (by simpa using hk)
        refine Exists.elim (Option.isSome_iff_exists.mp (cellsFrom_some (x := n) F.sc.names (L + 1) [] (.inl hc))) fun ca hca => ?_
        have e : cellOf (F.envAt L) n = pure ca := by
          unfold cellOf
          have : (F.envAt L).cells.lookup n = some ca := hca
          rw [this]
        simp only [hk, if_true, e, pure_bind]
        rw [ih _ fun y hy => hh y (List.mem_cons_of_mem _ hy)]
        simp only [capGo, hk, if_true, hca, Option.getD_some]
      · simp only [hk, Bool.false_eq_true, if_false, pure_bind]
        rw [ih _ fun y hy => hh y (List.mem_cons_of_mem _ hy)]
        simp only [capGo, hk, Bool.false_eq_true, if_false]
  exact (bind_pure _).trans (key sc.names [] h)
theorem capGo_look {cells : List (Str × Addr)} {x : Str} : ∀ (l : List (Str × NameKind)) (acc : List (Str × Addr)), ((x, NameKind.free) ∈ l ∨ acc.lookup x = some ((cells.lookup x).getD 0)) → (capGo cells l acc).lookup x = some ((cells.lookup x).getD 0)
  | [], acc, h => h.elim (fun z => nomatch z) id
  | (n, k) :: r, acc, h => by
    unfold capGo
    refine capGo_look r _ ?_
    rcases h with h | h
    · rcases List.mem_cons.mp h with e | h
      · cases e; right; rw [if_pos (by rfl)]; simp [List.lookup_cons]
      · exact .inl h
    · right
      split
      · rw [List.lookup_cons]
        cases q : x == n with
        | true => have : x = n := by simpa using q
                  subst this; rfl
        | false => exact h
      · exact h
theorem mem_of_look : ∀ {l : List (Str × NameKind)} {x : Str} {k : NameKind}, l.lookup x = some k → (x, k) ∈ l
  | [], _, _, h => by simp at h
  | (n, k') :: r, x, k, h => by
    rw [List.lookup_cons] at h
    cases q : x == n with
    | true => rw [q] at h; have : x = n := by simpa using q
              cases h; subst this; exact List.mem_cons_self
    | false => rw [q] at h; exact List.mem_cons_of_mem _ (mem_of_look h)
noncomputable def Cx.comp (c : Cx) (F : Fn) (M : Mem) (C : Addr) (sc : Scope) (ns : List Str) (caps : List (Str × Nat)) : Cx :=
  { c with env := compEnvC sc (capCl F c.L sc) C c.env, vars := ns ++ caps.map (·.1), loc := fun M' h N => c.loc M h N ∧ (C ∉ N ∧ c.h₀.get? C = none ∧ C ∉ c.fads ∧ ¬ ownAt c F C) ∧ ∃ m₂, h.Ns C m₂ ∧ M' = ns.map (fun x => (m₂ x).map er) ++ caps.map fun p => (M[p.2]?).join }
theorem lookup_relabel_free {env : Env} (hf : env.scope.kind = .function) : ∀ {names : List (Str × NameKind)} {x : Str}, names.lookup x = some .free → env.kindOf x = some .cell →
    (names.map fun (n, k) => if (k == NameKind.free && env.scope.kind == .function && env.kindOf n == some .cell) then (n, NameKind.cell) else (n, k)).lookup x = some .cell
  | [], _, h, _ => by simp at h
  | (n, k) :: r, x, h, hk => by
    have ih := @lookup_relabel_free env hf r x
    show List.lookup x ((if (k == NameKind.free && env.scope.kind == .function && env.kindOf n == some .cell) = true then (n, NameKind.cell) else (n, k)) :: _) = _
    cases hx : x == n with
    | true =>
      have e : x = n := by simpa using hx
      subst e
      simp only [List.lookup_cons, hx] at h
      cases h
      rw [if_pos (by rw [hf, hk]; rfl)]
      simp [List.lookup_cons]
    | false =>
      simp only [List.lookup_cons, hx] at h
      by_cases hc : (k == NameKind.free && env.scope.kind == .function && env.kindOf n == some .cell) = true
      · rw [if_pos hc]; simp only [List.lookup_cons, hx]; exact ih h hk
      · rw [if_neg hc]; simp only [List.lookup_cons, hx]; exact ih h hk
theorem comp_ok {c : Cx} {n : Nat} (ok : c.Ok n) {F : Fn} (I : InFn c F) {M : Mem} {C : Addr} {sc : Scope} {ns : List Str} {caps : List (Str × Nat)} (co : CompOk F sc ns caps) : (c.comp F M C sc ns caps).Ok n where
  ground := ok.ground
  room := ok.room
  units := ok.units
  hand := ok.hand
  frames := ok.frames
  stays := ok.stays
  fr := fun M' h N ⟨l, _⟩ => ok.fr _ _ _ l
  keep := fun M' h h' N N' ⟨l, ⟨c1, c2, c3, c4⟩, m₂, hn, e⟩ k hN => by
    refine el3_1 (id hn) fun o es ep ho r => ?_
    refine ⟨ok.keep _ _ _ _ _ l k hN, ⟨fun q => ?_, c2, c3, c4⟩, m₂, Ns_of_get hn fun o e => k.1 _ _ e c1 c3, e⟩
    rcases hN C q with z | z
    · exact c1 z
    · rw [ho] at z; cases z
  ff := fun M' h N ⟨l, _⟩ => ok.ff _ _ _ l
  name := fun i x v M' h N hx hv ⟨l, _, m₂, hn, e⟩ A k pos Q E q => by
    have hx : (ns ++ caps.map (·.1))[i]? = some x := hx
    subst e
    have hkf : (compEnvC sc (capCl F c.L sc) C c.env).scope.kind = .function := co.kind
    by_cases hi : i < ns.length
    · rw [List.getElem?_append_left hi] at hx
      rw [List.getElem?_append_left (by rw [List.length_map]; exact hi), List.getElem?_map, hx] at hv
      refine el1_1 (Option.map_eq_some_iff.mp (Option.some.inj hv)) fun v' hv1 hv2 => ?_
      have zq := co.mine x (List.mem_of_getElem? hx); have m1 := zq.1; have m2 := zq.2
      exact wpAny_Name (wpAny_loadName_local hkf (lookup_relabel_local m1) hn hv1 (q v' hv2)) m2
    · have hi := Nat.not_lt.mp hi
      rw [List.getElem?_append_right hi, List.getElem?_map] at hx
      rw [List.getElem?_append_right (by rw [List.length_map]; exact hi), List.length_map, List.getElem?_map] at hv
      refine el1_1 (Option.map_eq_some_iff.mp hx) fun p hp z92 => ?_; rcases z92 with rfl
      rw [hp] at hv
      refine el0_3 (co.caps p (List.mem_of_getElem? hp)) fun p1 p2 p3 p4 => ?_
      have hv : (M[p.2]?).join = some v := Option.some.inj hv
      refine el3_1 I.loc fun g he outer hg hl => ?_
      rw [hl] at l
      refine el2_4 l fun m cm F' _ hc _ hM => ?_
      rw [hM, List.getElem?_map, p1] at hv
      refine el1_1 (Option.map_eq_some_iff.mp (show (F.val m cm p.1).map er = some v from hv)) fun v' hv1 hv2 => ?_
      unfold Fn.val at hv1
      rw [if_neg (by rw [p2]; simp)] at hv1
      refine Exists.elim (Option.isSome_iff_exists.mp (cellsFrom_some (x := p.1) F.sc.names (c.L + 1) [] (.inl p2))) fun ca hca => ?_
      have hcell := (hc p.1 ca hca).1
      rw [hv1] at hcell
      have hlk : (capCl F c.L sc).lookup p.1 = some ca := by
        have := capGo_look (cells := cellsFrom (c.L + 1) F.sc.names []) (x := p.1) sc.names [] (.inl (mem_of_look p3))
        rw [hca] at this
        exact this
      exact wpAny_Name (wpAny_loadName_cell hkf (lookup_relabel_free (env := c.env) (by rw [I.env]; exact I.ok.kind) p3 (by rw [I.env]; exact p2)) hlk hcell (q v' hv2)) p4
  own := ok.own
  kind := co.kind
  globals := ok.globals
  blt := ok.blt
theorem InFn.but {c : Cx} {F : Fn} (I : InFn c F) {M : Mem} {h h' : Heap} {N : List Addr} {C : Addr} (l : c.loc M h N) (hs : Heap.SameBut C h h') (c2 : c.h₀.get? C = none) (c3 : C ∉ c.fads) (c4 : ¬ ownAt c F C) : c.loc M h' N := by
  refine el3_2 I.sub fun g he outer hg hl hso => ?_
  rw [hl] at l ⊢
  refine el2_4 l fun m cm F' l1 hc hou hM => ?_
  refine ⟨m, cm, ⟨Ns_of_get F'.ns fun o e => (hs.2 _ fun z => c4 (.inl z.symm)).trans e, fun b o e => (hs.2 b fun z => by rw [z, ← hg, c2] at e; cases e).trans (F'.keep b o e), F'.above⟩, l1, fun x ca e => ?_, fun a ha => ?_, hM⟩
  · have zq := hc x ca e; rcases zq.1 with ⟨o, e1, e2⟩; have d := zq.2
    exact ⟨⟨o, (hs.2 ca fun z => c4 (.inr ⟨x, z ▸ e⟩)).trans e1, e2⟩, d⟩
  · refine el0_3 (hou a ha) fun o1 o2 o3 o4 => ?_
    exact ⟨o1, o2, o3, fun m' e => Ns_of_get (o4 m' e) fun o e => (hs.2 a fun z => c3 (z ▸ hso a ha)).trans e⟩
noncomputable def capV (M : Mem) (caps : List (Str × Nat)) : Mem := caps.map fun p => (M[p.2]?).join
noncomputable def TestsB (c : Cx) (M : Mem) (H : AH) : List Expr → Bool → Prop
  | [], b => b = true
  | [t], b => Pb c M H t b
  | _, _ => False
section
variable {c : Cx} {M : Mem} {H : AH} {n : Nat} {F : Fn}
theorem tests_run {ifs : List Expr} {b : Bool} (t : TestsB c M H ifs b) {h : Heap} {k : Nat} (s : St c M H h) {Q : Bool → Shared → Prop} {E : Value → Shared → Prop} (q : ∀ h' k', St c M H h' → Q b (c.at h' k')) :
    wpAny (model pw c.w) c.A (forIn ifs true fun e r => if r = true then do let ok ← isTrue e c.env (eval e c.env); pure (ForInStep.yield ok) else pure (ForInStep.yield r)) Q E (c.at h k) := by
  match ifs, t with
  | [], t => exact wpAny_tests_nil (by have : b = true := t; subst this; exact q h k s)
  | [e], t => exact wpAny_tests_one ((show Pb c M H e b from t) h k s _ _ q)
theorem goList {tgt : Expr} {It l : Addr} {i : Nat} {v : Value} {w : World} {A : Around} {s : Shared} {Q : Unit → Shared → Prop} {E : Value → Shared → Prop} (hi : s.heap.IsListIter It l i) (q : Q () s) : wpAny (model pw w) A (letOwnedTupleGo tgt (.ref It) v) Q E s := by
  refine el1_2 hi fun o ho hc hd => ?_
  have key : ∀ a : Addr, wpAny (model pw w) A (do
      let o ← load It
      match o.cls, o.data with
      | .type n, .fields vs =>
        if ["enumerate", "zip", "dict_itemiterator", "dict_reverseitemiterator", "odict_iterator", "itertools.zip_longest", "itertools.pairwise"].contains n && vs[0]? == some (rawInt a) then
          rule "for.unpacks-the-owned-tuple"
          updateField It 0 .none
      | _, _ => pure ()) Q E s := fun a => by
    refine wpAny_bind (wpAny_load ho ?_)
    rw [hc, hd]
    dsimp only
    rw [if_neg (by rw [show (["enumerate", "zip", "dict_itemiterator", "dict_reverseitemiterator", "odict_iterator", "itertools.zip_longest", "itertools.pairwise"].contains "list_iterator") = false from by decide, Bool.false_and]; decide)]
    exact wpAny_pure q
  cases tgt <;> first | exact wpAny_pure q | (cases v <;> first | exact wpAny_pure q | exact key _)
theorem compTests {elt target iter : Expr} {ifs : List Expr} {scope : Scope} {pos : Pos} {it acc : Value} {env : Env} {w : World} {A : Around} {R : Result → Shared → Prop} {s : Shared} (J : Nat → Shared → Prop)
    (turn : ∀ n s, J n s → wpAny (model pw w) A (pyNext it) (fun r s₁ => match r with
      | none => R (.ok .next) s₁
      | some v => wpAny (model pw w) A (letOwnedTupleGo target it v) (fun _ s₁ => wpAny (model pw w) A (assign target env v) (fun _ s₂ =>
          wpAny (model pw w) A (forIn ifs true fun c r => if r = true then do let ok ← isTrue c env (eval c env); pure (ForInStep.yield ok) else pure (ForInStep.yield r)) (fun ok s₃ =>
            if ok = true then wpAny (model pw w) A (eval elt env) (fun x s₄ =>
              wpAny (model pw w) A (call (.builtin "list.append") [acc, x]) (fun _ s₅ => ∃ m, m < n ∧ J m s₅) (notedBy (model pw w) A env fun e s' => R (.error e) s') s₄) (notedBy (model pw w) A env fun e s' => R (.error e) s') s₃
            else ∃ m, m < n ∧ J m s₃) (notedBy (model pw w) A env fun e s' => R (.error e) s') s₂) (notedBy (model pw w) A env fun e s' => R (.error e) s') s₁) (notedBy (model pw w) A env fun e s' => R (.error e) s') s₁) (notedBy (model pw w) A env fun e s' => R (.error e) s') s)
    (n : Nat) (h : J n s) : codeAny (model pw w) A (.compLoop (.ListComp elt [⟨target, iter, ifs, 0⟩] scope pos) 0 it acc env) R s := by
  refine codeAny_loop rfl J (fun n s hI => ?_) n h
  show wpAny _ A ((compTurn (.ListComp elt [⟨target, iter, ifs, 0⟩] scope pos) 0 it acc env).onRaise (fun x => do noteFrame x env; theTreesLotGoes x)) _ _ s
  refine wpAny_noted ?_
  rw [compTurn_list]
  refine wpAny_bind (wpAny_standAt (wpAny_bind (wpAny_mono (turn n s hI) (fun r s₁ h₁ => ?_) fun _ _ h' => h')))
  cases r with
  | none => exact wpAny_pure h₁
  | some v =>
    refine wpAny_bind (wpAny_mono h₁ (fun _ s₁ h₁ => ?_) fun _ _ h' => h')
    refine wpAny_bind (wpAny_mono h₁ (fun _ s₂ h₂ => wpAny_bind (wpAny_mono h₂ (fun ok s₃ h₃ => ?_) fun _ _ h' => h')) fun _ _ h' => h')
    cases ok with
    | false => exact wpAny_pure ⟨rfl, h₃⟩
    | true => exact wpAny_bind (wpAny_bind (wpAny_mono h₃ (fun x s₄ h₄ => wpAny_bind (wpAny_mono h₄ (fun _ s₅ h₅ => wpAny_pure (wpAny_pure ⟨rfl, h₅⟩)) fun _ _ h' => h')) fun _ _ h' => h'))
noncomputable def CompStep (c' : Cx) (M' : Mem) (H' : AH) (tgt elt : Expr) (ifs : List Expr) (v : Value) (Inv : AH → List Value → Prop) (H3 : AH) (ys : List Value) : Prop :=
  Asg c' M' H' tgt v fun M2 H2 => ∃ b, TestsB c' M2 H2 ifs b ∧ (b = true → Ev c' M2 H2 elt fun y H4 => ∃ H5, Inv H5 (ys ++ [y]) ∧ Fwd H3 H' H5 H4) ∧ (b = false → ∃ H5, Inv H5 ys ∧ Fwd H3 H' H5 H2)
theorem compLoop (ok : c.Ok n) (I : InFn c F) (noX : ∀ sym, ¬ c.X sym) {sc : Scope} {ns : List Str} {caps : List (Str × Nat)} (co : CompOk F sc ns caps) {tgt elt iter : Expr} {ifs : List Expr} {pos : Pos} {It C D : Addr} {fp : List Addr} {len : Nat} {PW : Nat → Value → Prop} {StW : Nat → Heap → Prop} (WK : Walks pw c.w c.A It fp [It] len PW StW)
    (hgo : ∀ i (s' : Shared) v (Q' : Unit → Shared → Prop) (E : Value → Shared → Prop), StW i s'.heap → Q' () s' → wpAny (model pw c.w) c.A (letOwnedTupleGo tgt (.ref It) v) Q' E s') (hIo : ∀ i h, StW i h → ∃ o, h.get? It = some o) {H20 H0 : AH} (hfp : ∀ b ∈ fp, b ≠ It → H20 b = none ∧ ∃ o, H0 b = some (.raw o)) (hI0 : H0 It = none) (hlen : len ≤ sizeLine) {Inv : Nat → AH → List Value → Prop}
    (step : ∀ i us H3 H' ys v, i < len → PW i v → Inv i H3 ys → Sub H3 H' → us.length = ns.length → CompStep (c.comp F M C sc ns caps) (us ++ capV M caps) H' tgt elt ifs (er v) (Inv (i + 1)) H3 ys)
    {h : Heap} {k : Nat} {oI : Obj} {M0 : Mem} (s : St (c.comp F M C sc ns caps) M0 (upd (upd H0 D (.list [])) It (.raw oI)) h) (hst : StW 0 h) (hD : H0 D = none) (hDI : D ≠ It) (h0 : Inv 0 H20 []) (hs0 : Sub H20 H0) {R : Result → Shared → Prop}
    (rn : ∀ M' H3 H' ys h' k', Inv len H3 ys → Fwd H20 H0 H3 H' → H' D = none → St (c.comp F M C sc ns caps) M' (upd H' D (.list ys)) h' → R (.ok .next) (c.at h' k')) :
    codeAny (model pw c.w) c.A (.compLoop (.ListComp elt [⟨tgt, iter, ifs, 0⟩] sc pos) 0 (.ref It) (.ref D) (c.comp F M C sc ns caps).env) R (c.at h k) := by
  have okc : (c.comp F M C sc ns caps).Ok n := comp_ok ok I co
  refine compTests (fun kk s' => ∃ i M' H3 H' ys h' k' o, s' = c.at h' k' ∧ St (c.comp F M C sc ns caps) M' (upd (upd H' D (.list ys)) It (.raw o)) h' ∧ StW i h' ∧ Inv i H3 ys ∧ Fwd H20 H0 H3 H' ∧ H' It = none ∧ H' D = none ∧ ys.length ≤ i ∧ i ≤ len ∧ kk = len + 1 - i) ?_ (len + 1)
    ⟨0, M0, H20, H0, [], h, k, oI, rfl, s, hst, h0, Fwd.refl hs0, hI0, hD, Nat.zero_le _, Nat.zero_le _, rfl⟩
  rintro kk s' ⟨i, M', H3, H', ys, h', k', o, rfl, s, hst, hJ, hF, hI', hD', hy, hi, rfl⟩
  have off : ∀ h₁ : Heap, (∀ b ob, b ∉ [It] → h'.get? b = some ob → h₁.get? b = some ob) → ∀ b ob, b ≠ It → h'.get? b = some ob → h₁.get? b = some ob := fun h₁ q b ob n1 => q b ob (by simpa using n1)
  by_cases hlt : i < len
  · refine WK.item i (c.at h' k') _ _ hlt hst fun v h₁ tk₁ hP hst₁ hk₁ => ?_
    refine Exists.elim (hIo _ _ hst₁) fun o1 ho1 => ?_
    have s1 := s.rawTurn okc (upd_same _ _ _) (off h₁ hk₁) ho1
    have s1' : St (c.comp F M C sc ns caps) M' (upd (upd H' D (.list ys)) It (.raw o1)) h₁ := s1.less fun a x e => by
      by_cases q : a = It
      · subst q; rw [upd_same] at e ⊢; exact e
      · rw [upd_ne q] at e ⊢; rw [upd_ne q]; exact e
    have hsub : Sub H3 (upd (upd H' D (.list ys)) It (.raw o1)) := fun a x e => by
      have := hF.1 a x e
      have q1 : a ≠ It := fun q => by rw [q, hI'] at this; cases this
      have q2 : a ≠ D := fun q => by rw [q, hD'] at this; cases this
      rw [upd_ne q1, upd_ne q2]; exact this
    have hI3 : H3 It = none := by
      cases q : H3 It with
      | none => rfl
      | some x => have := hF.1 It x q; rw [hI'] at this; cases this
    have hD3 : H3 D = none := by
      cases q : H3 D with
      | none => rfl
      | some x => have := hF.1 D x q; rw [hD'] at this; cases this
    have go : ∀ M4 H4 H5 Hf ys' h4 k4, Inv (i + 1) H5 ys' → Fwd H3 (upd (upd H' D (.list ys)) It (.raw o1)) H5 H4 → ys'.length ≤ i + 1 → Hf D = some (.list ys') → (∀ a, a ≠ D → Hf a = H4 a) → St (c.comp F M C sc ns caps) M4 Hf h4 →
        ∃ m, m < len + 1 - i ∧ ∃ i M' H3 H' ys h' k' o, c.at h4 k4 = c.at h' k' ∧ St (c.comp F M C sc ns caps) M' (upd (upd H' D (.list ys)) It (.raw o)) h' ∧ StW i h' ∧ Inv i H3 ys ∧ Fwd H20 H0 H3 H' ∧ H' It = none ∧ H' D = none ∧ ys.length ≤ i ∧ i ≤ len ∧ m = len + 1 - i := fun M4 H4 H5 Hf ys' h4 k4 hJ5 hF5 hy' hfD hfo s4 => by
      have zq := hF5.2 It (.raw o1) hI3 (upd_same _ _ _); have i5 := zq.1; have i4 := zq.2
      have zq := hF5.2 D (.list ys) hD3 (by rw [upd_ne hDI, upd_same]); have d5 := zq.1; have d4 := zq.2
      have fI : Hf It = some (.raw o1) := by rw [hfo It (Ne.symm hDI)]; exact i4
      have mm : ∀ a, a ≠ It → a ≠ D → minus (minus H4 It) D a = H4 a := fun a q1 q2 => by unfold minus; rw [if_neg q2, if_neg q1]
      refine ⟨len + 1 - (i + 1), by lia, i + 1, M4, H5, minus (minus H4 It) D, ys', h4, k4, o1, rfl, s4.less fun a x e => ?_, ?_, hJ5, ⟨fun a x e => ?_, fun a x e e' => ?_⟩, ?_, if_pos rfl, hy', hlt, rfl⟩
      · by_cases q : a = It
        · subst q; rw [upd_same] at e; rw [fI]; exact e
        · rw [upd_ne q] at e
          by_cases q' : a = D
          · subst q'; rw [upd_same] at e; rw [hfD]; exact e
          · rw [upd_ne q', mm a q q'] at e; rw [hfo a q']; exact e
      · refine WK.frame _ _ _ hst₁ fun b hb ob e => ?_
        by_cases q : b = It
        · subst q
          rw [ho1] at e; cases e
          exact s4.raw fI
        · have zq := hfp b hb q; have n1 := zq.1; refine Exists.elim zq.2 fun oo n2 => ?_
          have zq := hF.2 b _ n1 n2; have n3 := zq.1; have n4 := zq.2
          have qD : b ≠ D := fun z => by rw [z, hD'] at n4; cases n4
          have n5 : (upd (upd H' D (.list ys)) It (.raw o1)) b = some (.raw oo) := by rw [upd_ne q, upd_ne qD]; exact n4
          have zq := hF5.2 b _ n3 n5; have _ := zq.1; have n6 := zq.2
          have g1 := s1'.raw n5
          rw [e] at g1; cases g1
          exact s4.raw (by rw [hfo b qD]; exact n6)
      · rw [mm a (fun q => by rw [q, i5] at e; cases e) (fun q => by rw [q, d5] at e; cases e)]; exact hF5.1 a x e
      · have zq := hF.2 a x e e'; have m1 := zq.1; have m2 := zq.2
        have q : a ≠ It := fun q => by rw [q, hI'] at m2; cases m2
        have q' : a ≠ D := fun q => by rw [q, hD'] at m2; cases m2
        have := hF5.2 a x m1 (by rw [upd_ne q, upd_ne q']; exact m2)
        exact ⟨this.1, by rw [mm a q q']; exact this.2⟩
      · unfold minus; rw [if_neg (Ne.symm hDI), if_pos rfl]
    obtain ⟨us, hus, rfl⟩ : ∃ us : Mem, us.length = ns.length ∧ M' = us ++ capV M caps := by
      refine el2_5 (id s) fun _ _ _ _ _ _ _ z97 => ?_; rcases z97 with ⟨m₂, _, e⟩
      exact ⟨ns.map fun x => (m₂ x).map er, List.length_map _, e⟩
    refine hgo (i + 1) (c.at h₁ tk₁) v _ _ hst₁ ?_
    refine step i us H3 _ ys v hlt hP hJ hsub hus v rfl h₁ tk₁ s1' _ _ (fun _ h2 k2 M2 H2 p2 s2 => ?_) fun _ sym _ _ _ x => (noX _ x).elim
    refine el1_2 p2 fun b tb pt pf => ?_
    refine tests_run tb s2 fun h3 k3 s3 => ?_
    cases b with
    | false =>
      refine el1_1 (pf rfl) fun H5 hJ5 hF5 => ?_
      have zq := hF5.2 D (.list ys) hD3 (by rw [upd_ne hDI, upd_same]); have d5 := zq.1; have d4 := zq.2
      exact go M2 H2 H5 H2 ys h3 k3 hJ5 hF5 (by solve_by_elim (maxDepth := 7) [Int.le_of_lt, Int.le_trans, Int.lt_of_lt_of_le, Int.lt_of_le_of_lt, Int.not_lt.mp, Int.not_le.mp]) d4 (fun _ _ => rfl) s3
    | true =>
      rw [if_pos rfl]
      refine pt rfl h3 k3 s3 _ _ (fun y h4 k4 M4 H4 p4 s4 => ?_) fun _ sym _ _ _ x => (noX _ x).elim
      rcases p4.1 with rfl; refine el1_1 p4.2 fun H5 hJ5 hF5 => ?_; try clear p4
      have zq := hF5.2 D (.list ys) hD3 (by rw [upd_ne hDI, upd_same]); have d5 := zq.1; have d4 := zq.2
      refine el2_1 (s4.isL d4) fun vs nn hg hev => ?_
      have hvl : vs.length = ys.length := by rw [← hev, List.length_map]
      refine append_at (s := c.at h4 k4) hg (fun h5 hs5 hD5 => ?_) (by rw [List.size_toArray, hvl]; solve_by_elim (maxDepth := 7) [Nat.le_trans, Nat.le_add_right, Nat.le_add_left, Nat.sub_le, Nat.le_of_lt, Nat.add_le_add_right, Nat.add_le_add_left])
      have s5 := s4.listTurn (vs' := vs ++ [y]) (m := nn + 1) okc d4 hs5 (by rw [hD5, List.push_toArray])
      rw [List.map_append, hev] at s5
      exact go M4 H4 H5 _ (ys ++ [er y]) h5 k4 hJ5 hF5 (by rw [List.length_append, List.length_singleton]; lia) (upd_same _ _ _) (fun a q => upd_ne q) s5
  · have hin : i = len := by lia
    subst hin
    refine WK.done (c.at h' k') _ _ hst fun h₁ tk₁ hk₁ => ?_
    have s1 := s.rawGo okc (upd_same _ _ _) (off h₁ hk₁)
    refine rn M' H3 H' ys h₁ tk₁ hJ hF hD' (s1.less fun a x e => ?_)
    have q : a ≠ It := fun q => by rw [q, upd_ne (Ne.symm hDI), hI'] at e; cases e
    unfold minus; rw [if_neg q, upd_ne q]; exact e
end
section
variable {c : Cx} {M : Mem} {H : AH} {n : Nat} {F : Fn}
theorem St.freeze' {h : Heap} (s : St c M H h) {a : Addr} {xs : List Value} (ha : H a = some (.list xs)) : ∃ vs nn, h.get? a = some (lsO vs nn) ∧ vs.map er = xs ∧ St c M (upd H a (.raw (lsO vs nn))) h := by
  refine el2_3 s fun news δ N nd A l => ?_
  refine el2_1 (A.rep a _ ha) fun vs nn h1 e => ?_
  refine ⟨vs, nn, (N _ h1).1, e, news, δ, N, nd, ?_, l⟩
  refine ⟨fun b x hb => ?_, fun b C vs hb => ?_, fun b d C D vs ws hb hd => ?_⟩
  · by_cases q : b = a
    · subst q; rw [upd_same] at hb; cases hb; exact h1
    · rw [upd_ne q] at hb; exact A.rep b x hb
  · by_cases q : b = a
    · subst q; rw [upd_same] at hb; cases hb
    · rw [upd_ne q] at hb
      have := A.sep b C vs hb
      rw [upd_ne]
      · exact this
      · intro z; rw [z, ha] at this; cases this
  · by_cases q : b = a
    · subst q; rw [upd_same] at hb; cases hb
    · by_cases q' : d = a
      · subst q'; rw [upd_same] at hd; cases hd
      · rw [upd_ne q] at hb; rw [upd_ne q'] at hd; exact A.inj b d C D vs ws hb hd
theorem St.thaw {h : Heap} (s : St c M H h) {a : Addr} {vs : List Value} {nn : Nat} (ha : H a = some (.raw (lsO vs nn))) : St c M (upd H a (.list (vs.map er))) h := by
  refine el2_3 s fun news δ N nd A l => ?_
  have h1 : (a, lsO vs nn) ∈ news := A.rep a _ ha
  refine ⟨news, δ, N, nd, ?_, l⟩
  refine ⟨fun b x hb => ?_, fun b C vs hb => ?_, fun b d C D vs ws hb hd => ?_⟩
  · by_cases q : b = a
    · subst q; rw [upd_same] at hb; cases hb; exact ⟨vs, nn, h1, rfl⟩
    · rw [upd_ne q] at hb; exact A.rep b x hb
  · by_cases q : b = a
    · subst q; rw [upd_same] at hb; cases hb
    · rw [upd_ne q] at hb
      have := A.sep b C vs hb
      rw [upd_ne]
      · exact this
      · intro z; rw [z, ha] at this; cases this
  · by_cases q : b = a
    · subst q; rw [upd_same] at hb; cases hb
    · by_cases q' : d = a
      · subst q'; rw [upd_same] at hd; cases hd
      · rw [upd_ne q] at hb; rw [upd_ne q'] at hd; exact A.inj b d C D vs ws hb hd
theorem Fwd.thaw {H20 H1 H3 H' : AH} {l : Addr} {xs : List Value} {o : AO} (hl : H1 l = some (.list xs)) (hn : H20 l = none) (f : Fwd H20 (upd H1 l o) H3 H') : Fwd H20 H1 H3 (upd H' l (.list xs)) ∧ H' l = some o := by
  have zq := f.2 l o hn (upd_same _ _ _); have l1 := zq.1; have l2 := zq.2
  refine ⟨⟨fun a x e => ?_, fun a x e e' => ?_⟩, l2⟩
  · rw [upd_ne fun q => by rw [q, l1] at e; cases e]; exact f.1 a x e
  · by_cases q : a = l
    · subst q; rw [hl] at e'; cases e'; exact ⟨l1, upd_same _ _ _⟩
    · rw [upd_ne q]; exact f.2 a x e (by rw [upd_ne q]; exact e')
theorem compTail (ok : c.Ok n) (I : InFn c F) (noX : ∀ sym, ¬ c.X sym) {sc : Scope} {ns : List Str} {caps : List (Str × Nat)} (co : CompOk F sc ns caps) {tgt elt iter : Expr} {ifs : List Expr} {pos : Pos} {It : Addr} {fp : List Addr} {len : Nat} {PW : Nat → Value → Prop} {StW : Nat → Heap → Prop} (WK : Walks pw c.w c.A It fp [It] len PW StW)
    (hgo : ∀ i (s' : Shared) v (Q' : Unit → Shared → Prop) (E : Value → Shared → Prop), StW i s'.heap → Q' () s' → wpAny (model pw c.w) c.A (letOwnedTupleGo tgt (.ref It) v) Q' E s') (hIo : ∀ i h, StW i h → ∃ o, h.get? It = some o) {H20 H0 : AH} (hfp : ∀ b ∈ fp, b ≠ It → H20 b = none ∧ ∃ o, H0 b = some (.raw o)) (hI0 : H0 It = none) (hlen : len ≤ sizeLine) {Inv : Nat → AH → List Value → Prop}
    (step : ∀ C i us H3 H' ys v, i < len → PW i v → Inv i H3 ys → Sub H3 H' → us.length = ns.length → CompStep (c.comp F M C sc ns caps) (us ++ capV M caps) H' tgt elt ifs (er v) (Inv (i + 1)) H3 ys)
    {h : Heap} {k : Nat} {oI : Obj} (s : St c M (upd H0 It (.raw oI)) h) (hst : StW 0 h) (h0 : Inv 0 H20 []) (hs0 : Sub H20 H0) {P : Value → AH → Prop}
    (exit : ∀ C M' H3 H' ys D h', Inv len H3 ys → Fwd H20 H0 H3 H' → H' D = none → St (c.comp F M C sc ns caps) M' (upd H' D (.list ys)) h' → ∃ H'', P (.ref D) H'' ∧ St (c.comp F M C sc ns caps) M' H'' h')
    {use : Option (Value → Sem Unit)} {Q : Value → Shared → Prop} {E : Value → Shared → Prop}
    (fin : ∀ C M' H' d h' k', P (.ref d) H' → St (c.comp F M C sc ns caps) M' H' h' → compPost (model pw c.w) c.A E use Q (.ref d) C (.ok .next) (c.at h' k')) :
    wpAny (model pw c.w) c.A (newList []) (fun acc s₃ => wpAny (model pw c.w) c.A (newFunctionEnv sc c.env.globals (capCl F c.L sc) [] c.env.qual none .none (some c.env)) (fun cenv s₄ =>
      codeAny (model pw c.w) c.A (.compStart (.ListComp elt [⟨tgt, iter, ifs, 0⟩] sc pos) 0 (.ref It) acc { cenv with scope := relabel sc c.env }) (compPost (model pw c.w) c.A E use Q acc cenv.locals) s₄) E s₃) E (c.at h k) := by
  have zq := s.allocL ok []; have hD := zq.1; have sD := zq.2
  have hDI : h.objs.size ≠ It := fun q => by rw [q, upd_same] at hD; cases hD
  rw [upd_ne hDI] at hD
  refine wpAny_newList ?_ (by decide)
  refine wpAny_newFunctionEnv co.ncell (by intro y hy; simp at hy) (fun h₁ hns hsb => ?_) co.kind
  dsimp only at hns hsb ⊢
  have up : Grown (h.push (lsO [] 0)) h₁ := fun b o e => hsb.extBut b o (Nat.ne_of_lt (Heap.lt_size e)) (Heap.get?_push_of_some _ e)
  have s1 := sD.grown ok up
  have hst₁ : StW 0 h₁ := WK.frame _ _ _ hst fun b _ o e => up b o (Heap.get?_push_of_some _ e)
  have s2 : St (c.comp F M (h.push (lsO [] 0)).objs.size sc ns caps) (ns.map (fun x => ((fun x => ([] : List (Str × Value)).reverse.lookup x) x).map er) ++ capV M caps) (upd (upd H0 h.objs.size (.list [])) It (.raw oI)) h₁ := by
    refine el2_3 sD fun news δ N nd A l => ?_
    refine el2_3 s1 fun news' δ' N' nd' A' l' => ?_
    refine Exists.elim (ok.fr _ _ _ l) fun m Fr0 => ?_
    have nn : (h.push (lsO [] 0)).get? (h.push (lsO [] 0)).objs.size = none := Heap.get?_none_of_le (Nat.le_refl _)
    refine ⟨news, δ, N.grown up, nd, A.less fun a x e => ?_, ok.keep _ _ _ _ _ l ⟨fun b o e _ _ => up b o e, fun b _ m e => Ns_of_get e (up b)⟩ fun a ha => .inl ha, ⟨fun q => ?_, ?_, fun q => ?_, fun q => ?_⟩, _, hns, rfl⟩
    · by_cases q : a = It
      · subst q; rw [upd_same] at e; rw [upd_ne (Ne.symm hDI), upd_same]; exact e
      · rw [upd_ne q] at e
        by_cases q' : a = h.objs.size
        · subst q'; rw [upd_same] at e ⊢; exact e
        · rw [upd_ne q'] at e; rw [upd_ne q', upd_ne q]; exact e
    · refine el1_1 (List.mem_map.mp q) fun p hp e => ?_
      have := (N p hp).1
      rw [e, nn] at this; cases this
    · cases q : c.h₀.get? (h.push (lsO [] 0)).objs.size with
      | none => rfl
      | some o => have := Fr0.keep _ _ q; rw [nn] at this; cases this
    · have zq := fads_off ok l q; have _ := zq.1; refine el4_1 zq.2 fun m' o _ _ e _ => ?_
      rw [nn] at e; cases e
    · refine el3_1 I.loc fun g he outer hg hl => ?_
      rw [hl] at l
      refine el2_3 l fun m cm F' _ hc _ => ?_
      rcases q with q | ⟨x, q⟩
      · refine el3_1 F'.ns fun o _ _ e _ => ?_
        rw [← q, nn] at e; cases e
      · have zq := hc x _ q; rcases zq.1 with ⟨o, e, _⟩; have _ := zq.2
        rw [nn] at e; cases e
  have loop : codeAny (model pw c.w) c.A (.compLoop (.ListComp elt [⟨tgt, iter, ifs, 0⟩] sc pos) 0 (.ref It) (.ref h.objs.size) (c.comp F M (h.push (lsO [] 0)).objs.size sc ns caps).env) (compPost (model pw c.w) c.A E use Q (.ref h.objs.size) (h.push (lsO [] 0)).objs.size) (c.at h₁ (k + 0)) :=
    compLoop (h := h₁) (k := k + 0) ok I noX co WK hgo hIo hfp hI0 hlen (step _) s2 hst₁ hD hDI h0 hs0 fun M' H3 H' ys h' k' hJ hF hD' s' => by
      refine el1_1 (exit _ _ _ _ _ _ _ hJ hF hD' s') fun H'' p s'' => ?_
      exact fin _ _ _ _ _ _ p s''
  exact codeAny_compStart_list loop (WK.self 0 _ _ _ hst₁ loop)
noncomputable def CSrc (c : Cx) (M : Mem) (F : Fn) (sc : Scope) (ns : List Str) (caps : List (Str × Nat)) (tgt elt : Expr) (ifs : List Expr) (v : Value) (H1 : AH) (P : Value → AH → Prop) : Prop :=
  (∃ l xs H20, ∃ Inv : Nat → AH → List Value → Prop, v = .ref l ∧ H1 l = some (.list xs) ∧ H20 l = none ∧ Sub H20 H1 ∧ xs.length ≤ sizeLine ∧ Inv 0 H20 [] ∧
    (∀ C i us H3 H' ys v, xs[i]? = some v → Inv i H3 ys → Sub H3 H' → us.length = ns.length → CompStep (c.comp F M C sc ns caps) (us ++ capV M caps) H' tgt elt ifs v (Inv (i + 1)) H3 ys) ∧
    ∀ H3 H' ys d, Inv xs.length H3 ys → Fwd H20 H1 H3 H' → H' d = none → P (.ref d) (upd H' d (.list ys))) ∨
  (∃ r a b t u w H20, ∃ Inv : Nat → AH → List Value → Prop, (∃ x p, tgt = .Name x p) ∧ v = .ref r ∧ H1 r = some (.raw (rgO a b t u w)) ∧ -(2 ^ 62) ≤ a ∧ a < 2 ^ 62 ∧ -(2 ^ 62) ≤ b ∧ b < 2 ^ 62 ∧ (b - a).toNat ≤ sizeLine ∧ Sub H20 H1 ∧ Inv 0 H20 [] ∧
    (∀ C (i : Nat) us H3 H' ys, i < (b - a).toNat → Inv i H3 ys → Sub H3 H' → us.length = ns.length → CompStep (c.comp F M C sc ns caps) (us ++ capV M caps) H' tgt elt ifs (.int (a + i) 0) (Inv (i + 1)) H3 ys) ∧
    ∀ H3 H' ys d, Inv (b - a).toNat H3 ys → Fwd H20 H1 H3 H' → H' d = none → P (.ref d) (upd H' d (.list ys)))
theorem compRun (ok : c.Ok n) (I : InFn c F) (noX : ∀ sym, ¬ c.X sym) {sc : Scope} {ns : List Str} {caps : List (Str × Nat)} (co : CompOk F sc ns caps) {tgt elt iter : Expr} {ifs : List Expr} {pos spos : Pos} {P : Value → AH → Prop}
    (hs : ∀ x, foldedSetIterable iter c.env x = pure x) (hi : Ev c M H iter fun v H1 => CSrc c M F sc ns caps tgt elt ifs v H1 P) {h : Heap} {k : Nat} (s : St c M H h)
    {use : Option (Value → Sem Unit)} {Q : Value → Shared → Prop} {E : Value → Shared → Prop}
    (fin : ∀ C M' H' d h' k', P (.ref d) H' → St (c.comp F M C sc ns caps) M' H' h' → compPost (model pw c.w) c.A E use Q (.ref d) C (.ok .next) (c.at h' k')) :
    wpAny (model pw c.w) c.A (comprehension (.ListComp elt [⟨tgt, iter, ifs, 0⟩] sc pos) sc c.env spos (newList []) false (eval iter c.env) use) Q E (c.at h k) := by
  refine wpAny_comprehension_free rfl hs (by rw [I.env]; exact closure_eq co.free) co.kind co.locs (hi h k s _ _ (fun v h1 k1 M1 H1 p s1 => ?_) fun _ sym _ _ _ x => (noX _ x).elim)
  have zq := p; rcases zq.1 with rfl; have p := zq.2
  rcases p with ⟨l, xs, H20, Inv, hv, hl, hn, hsub, hz, h0, step, exit⟩ | ⟨r, a, b, t, u, w, H20, Inv, ⟨tx, tp, htgt⟩, hv, hr, a1, a2, b1, b2, hz, hsub, h0, step, exit⟩
  · rw [er_ref hv]
    refine el2_2 (s1.freeze' hl) fun vs nn g1 ev s2 => ?_
    have il : h1.IsList l vs.toArray := ⟨_, g1, rfl, nn, rfl⟩
    refine wpAny_pyIter_list (s := c.at h1 k1) il ?_
    have zq := s2.alloc ok (o := .raw { cls := .type "list_iterator", data := .fields #[.ref l, .int 0 0] }) (ob := { cls := .type "list_iterator", data := .fields #[.ref l, .int 0 0] }) (fun _ _ z => by cases z) rfl fun news d m => m; have hIn := zq.1; have s3 := zq.2
    have hlI : l ≠ h1.objs.size := Nat.ne_of_lt (Heap.lt_size g1)
    have hvl : vs.length = xs.length := by rw [← ev, List.length_map]
    refine compTail (h := h1.push { cls := .type "list_iterator", data := .fields #[.ref l, .int 0 0] }) ok I noX co (Walks.list ok.hand h1.objs.size l hlI vs.toArray) (fun i s' v Q' E' st q => goList st.1 q) (fun i h z => let ⟨o, a, _⟩ := z.1; ⟨o, a⟩) (H20 := H20) (H0 := upd H1 l (.raw (lsO vs nn))) (Inv := Inv) (fun b hb hbI => ?_) hIn (by rw [List.size_toArray, hvl]; exact hz) (fun C i us H3 H' ys v hi hP hJ hS hu => ?_) s3 ?_ h0 (fun a o e => by rw [upd_ne fun z => by rw [z, hn] at e; cases e]; exact hsub a o e) (P := P) (fun C M' H3 H' ys D h' hJ hF hD s' => ?_) fin
    · simp at hb
      rcases hb with rfl | rfl
      · exact absurd rfl hbI
      · exact ⟨hn, _, upd_same _ _ _⟩
    · refine step C i us H3 H' ys (er v) ?_ hJ hS hu
      rw [← ev, List.getElem?_map]; rw [List.getElem?_toArray] at hP; rw [hP]; rfl
    · exact ⟨⟨_, Heap.get?_push_size _ rfl, rfl, rfl⟩, ⟨_, Heap.get?_push_of_some _ g1, rfl, nn, rfl⟩⟩
    · rw [List.size_toArray, hvl] at hJ
      have zq := Fwd.thaw hl hn hF; have hF' := zq.1; have hl' := zq.2
      have hlD : l ≠ D := fun q => by rw [q, hD] at hl'; cases hl'
      refine ⟨_, exit H3 _ ys D hJ hF' (by rw [upd_ne (Ne.symm hlD)]; exact hD), ?_⟩
      have := s'.thaw (a := l) (vs := vs) (nn := nn) (by rw [upd_ne hlD]; exact hl')
      rw [ev] at this
      refine this.less fun a x e => ?_
      by_cases q : a = l
      · subst q; rw [upd_ne hlD, upd_same] at e; rw [upd_same]; exact e
      · by_cases q' : a = D
        · subst q'; rw [upd_same] at e; rw [upd_ne q, upd_same]; exact e
        · rw [upd_ne q', upd_ne q] at e; rw [upd_ne q, upd_ne q']; exact e
  · rw [er_ref hv]
    subst htgt
    have g1 : IsRange h1 r a b 1 t u w := s1.raw hr
    refine wpAny_pyIter_range (s := c.at h1 k1) g1 (small_one a1 a2 b1 b2) ?_
    have zq := s1.alloc ok (o := .raw { cls := .type "range_iterator", data := .fields #[rawInt a, rawInt (Builtin.Range.rangeSize a b 1), rawInt 1] }) (ob := { cls := .type "range_iterator", data := .fields #[rawInt a, rawInt (Builtin.Range.rangeSize a b 1), rawInt 1] }) (fun _ _ z => by cases z) rfl fun news d m => m; have hIn := zq.1; have s3 := zq.2
    refine compTail (h := h1.push { cls := .type "range_iterator", data := .fields #[rawInt a, rawInt (Builtin.Range.rangeSize a b 1), rawInt 1] }) ok I noX co (Walks.range ok.hand h1.objs.size a 1 (b - a).toNat) (fun _ _ _ _ _ _ q => goName q) (fun i h z => ⟨_, z⟩) (H20 := H20) (H0 := H1) (Inv := Inv) (fun b hb hbI => ?_) hIn hz (fun C i us H3 H' ys v hi hP hJ hS hu => ?_) s3 ?_ h0 hsub (P := P) (fun C M' H3 H' ys D h' hJ hF hD s' => ⟨_, exit H3 H' ys D hJ hF hD, s'⟩) fin
    · simp at hb; exact absurd hb hbI
    · refine Exists.elim hP fun tt z91 => ?_; rcases z91 with rfl; try clear hP
      have z : er (Value.int (a + (i : Int) * 1) tt) = .int (a + i) 0 := by show Value.int _ 0 = _; rw [Int.mul_one]
      rw [z]
      exact step C i us H3 H' ys hi hJ hS hu
    · show IsRangeIter _ _ _ _ _
      have e1 : a + ((0 : Nat) : Int) * 1 = a := by simp
      have e2 : ((b - a).toNat : Int) - ((0 : Nat) : Int) = Builtin.Range.rangeSize a b 1 := by rw [rangeSize_one]; split <;> lia
      rw [e1, e2]
      exact Heap.get?_push_size _ rfl
theorem Ev.comp (ok : c.Ok n) (I : InFn c F) (noX : ∀ sym, ¬ c.X sym) {sc : Scope} {ns : List Str} {caps : List (Str × Nat)} (co : CompOk F sc ns caps) {tgt elt iter : Expr} {ifs : List Expr} {pos : Pos} {P : Value → AH → Prop}
    (hi : CompOk F sc ns caps → Ev c M H iter fun v H1 => CSrc c M F sc ns caps tgt elt ifs v H1 P) (hs : ∀ x, foldedSetIterable iter c.env x = pure x := by intro _; rfl) : Ev c M H (.ListComp elt [⟨tgt, iter, ifs, 0⟩] sc pos) P := fun hp k s Q E q e => by
  rw [eval_ListComp]
  refine compRun ok I noX co hs (hi co) s (use := none) fun C M' H' d h' k' p s' => ?_
  refine el2_5 s' fun news δ N nd A l z96 z97 => ?_; rcases z96 with ⟨c1, c2, c3, c4⟩; rcases z97 with ⟨m₂, hn, e⟩
  refine ⟨m₂, hn, fun h'' hs'' => q _ _ _ _ _ ⟨rfl, p⟩ ⟨news, δ, fun p hp => ⟨hs''.extBut _ _ (fun z => c1 (z ▸ List.mem_map_of_mem hp)) (N p hp).1, (N p hp).2⟩, nd, A, I.but l hs'' c2 c3 c4⟩⟩
theorem Ex.letComp (ok : c.Ok n) (I : InFn c F) (noX : ∀ sym, ¬ c.X sym) {rest : List Stmt} {R : Fl → Mem → AH → Prop} {sc : Scope} {ns : List Str} {caps : List (Str × Nat)} (co : CompOk F sc ns caps) {tgt elt iter : Expr} {ifs : List Expr} {pos py spos : Pos} {y : Str} (j : Nat) (hy : F.vars[j]? = some y)
    (hsw : swapsWith (.ListComp elt [⟨tgt, iter, ifs, 0⟩] sc pos) (some (.Name y py)) spos.line c.env = pure true)
    (hi : CompOk F sc ns caps → Ev c M H iter fun v H1 => CSrc c M F sc ns caps tgt elt ifs v H1 fun v H2 => Ex c (M.set j (some v)) H2 rest R) (hs : ∀ x, foldedSetIterable iter c.env x = pure x := by intro _; rfl) :
    Ex c M H (.Assign [.Name y py] (.ListComp elt [⟨tgt, iter, ifs, 0⟩] sc pos) spos :: rest) R :=
  Ex.cons fun hp k s Q E q e => by
    rw [exec_Assign_Name_used _ _ _ _ hsw]
    refine wpAny_bind (wpAny_standAt (wpAny_bind ?_))
    show wpAny _ c.A (do let _ ← comprehension (.ListComp elt [⟨tgt, iter, ifs, 0⟩] sc pos) sc c.env _ (newList []) false (eval iter c.env) (some (assign (.Name y py) c.env))) _ _ _
    refine wpAny_bind (wpAny_mono (compRun ok I noX co hs (hi co) s (use := some (assign (.Name y py) c.env)) (Q := fun _ s' => Q .next s') fun C M' H' d h' k' p s' => ?_) (fun _ s' hq => wpAny_pure (wpAny_pure hq)) fun _ _ e => e)
    refine el2_5 s' fun news δ N nd A l z96 z97 => ?_; rcases z96 with ⟨c1, c2, c3, c4⟩; rcases z97 with ⟨m₂, hn, e⟩
    show wpAny _ c.A (assign (.Name y py) c.env (.ref d)) _ _ _
    refine wpAny_assign_Name (I.storeS hy N l fun h2 k2 b hsb hb N2 l2 => ?_)
    have hCb : C ≠ b := fun z => c4 (z ▸ hb)
    exact ⟨m₂, Ns_of_get hn fun o e => (hsb.2 C hCb).trans e, fun h3 hs3 => q .next _ _ _ _ p ⟨news, δ, fun p hp => ⟨hs3.extBut _ _ (fun z => c1 (z ▸ List.mem_map_of_mem hp)) (N2 p hp).1, (N2 p hp).2⟩, nd, A, I.but l2 hs3 c2 c3 c4⟩⟩
end
theorem set_map_nd {l : List Str} (nd : l.Nodup) {i : Nat} {x : Str} (hx : l[i]? = some x) (f g : Str → Option Value) (v : Option Value) (h1 : g x = v) (h2 : ∀ y ∈ l, y ≠ x → g y = f y) : (l.map f).set i v = l.map g := by
  apply List.ext_getElem?
  intro j
  rw [List.getElem?_set, List.getElem?_map, List.getElem?_map]
  by_cases e : i = j
  · subst e
    rw [if_pos rfl, List.length_map, if_pos (by obtain ⟨h, _⟩ := List.getElem?_eq_some_iff.mp hx; exact h), hx]
    simp [h1]
  · rw [if_neg e]
    cases q : l[j]? with
    | none => rfl
    | some y =>
      have hy : y ≠ x := fun z => by
        subst z
        obtain ⟨hi, e1⟩ := List.getElem?_eq_some_iff.mp hx
        obtain ⟨hj, e2⟩ := List.getElem?_eq_some_iff.mp q
        exact e ((List.getElem_inj nd).mp (e1.trans e2.symm))
      simp [h2 y (List.mem_of_getElem? q) hy]
section
variable {c : Cx} {M : Mem} {H : AH} {n : Nat} {F : Fn}
theorem Asg.cname (I : InFn c F) {sc : Scope} {ns : List Str} {caps : List (Str × Nat)} (co : CompOk F sc ns caps) {C : Addr} {M' : Mem} {x : Str} {v : Value} {pos : Pos} {P : Mem → AH → Prop} (i : Nat) (hx : ns[i]? = some x) (p : P (M'.set i (some v)) H) : Asg (c.comp F M C sc ns caps) M' H (.Name x pos) v P := fun v' z hp k s Q E q _ => by
  refine el2_5 s fun news δ N nd A l z96 z97 => ?_; rcases z96 with ⟨c1, c2, c3, c4⟩; rcases z97 with ⟨m₂, hn, rfl⟩
  have m1 := (co.mine x (List.mem_of_getElem? hx)).1
  refine wpAny_assign_Name (wpAny_storeName_local (s := c.at hp k) (env := compEnvC sc (capCl F c.L sc) C c.env) (lookup_relabel_local m1) hn (fun h' hn' hs => q () _ _ _ _ p ⟨news, δ, fun p hp => ⟨hs.extBut _ _ (fun z => c1 ((show p.1 = C from z) ▸ List.mem_map_of_mem hp)) (N p hp).1, (N p hp).2⟩, nd, A, I.but l hs c2 c3 c4, ⟨c1, c2, c3, c4⟩, _, hn', ?_⟩) (by show (sc.kind == .class || (sc.kind == .module && _)) = false; rw [co.kind]; rfl))
  obtain ⟨hi, _⟩ := List.getElem?_eq_some_iff.mp hx
  rw [List.set_append_left _ _ (by rw [List.length_map]; exact hi)]
  congr 1
  refine set_map_nd co.nd hx _ _ _ ?_ fun y _ hy => ?_
  · simp [z]
  · simp [hy]
theorem CompStep.name (I : InFn c F) {sc : Scope} {x : Str} {caps : List (Str × Nat)} (co : CompOk F sc [x] caps) {C : Addr} {us : Mem} {px : Pos} {elt : Expr} {ifs : List Expr} {v : Value} {H' H3 : AH} {ys : List Value} {Inv : AH → List Value → Prop} (hu : us.length = [x].length)
    (h : ∃ b, TestsB (c.comp F M C sc [x] caps) (some v :: capV M caps) H' ifs b ∧ (b = true → Ev (c.comp F M C sc [x] caps) (some v :: capV M caps) H' elt fun y H4 => ∃ H5, Inv H5 (ys ++ [y]) ∧ Fwd H3 H' H5 H4) ∧ (b = false → ∃ H5, Inv H5 ys ∧ Fwd H3 H' H5 H')) :
    CompStep (c.comp F M C sc [x] caps) (us ++ capV M caps) H' (.Name x px) elt ifs v Inv H3 ys := by
  refine Exists.elim (List.length_eq_one_iff.mp hu) fun u z91 => ?_; rcases z91 with rfl
  exact Asg.cname I co 0 rfl h
variable {rest : List Stmt} {P : Fl → Mem → AH → Prop}
theorem W.thaw {α : Type} {t : Sem α} {P : α → Mem → AH → Prop} {a : Addr} {vs : List Value} {nn : Nat} (ha : H a = some (.raw (lsO vs nn))) (h : W c M (upd H a (.list (vs.map er))) t P) : W c M H t P := fun hp k s => h hp k (s.thaw ha)
theorem Ex.forL (ok : c.Ok n) (noX : ∀ sym, ¬ c.X sym) {tgt : Expr} {pos : Pos} {iter : Expr} {body : List Stmt}
    (h : Ev c M H iter fun v H1 => ∃ l xs H20, ∃ Inv : Nat → Mem → AH → Prop, v = .ref l ∧ H1 l = some (.list xs) ∧ H20 l = none ∧ Sub H20 H1 ∧ Inv 0 M H20 ∧
      (∀ i M' H3 H' v, xs[i]? = some v → Inv i M' H3 → Sub H3 H' → Asg c M' H' tgt v fun M2 H2 => Ex c M2 H2 body (BodyPost Inv (fun v => P (.ret v)) i H3 H')) ∧
      (∀ M' H3 H', Inv xs.length M' H3 → Fwd H20 H1 H3 H' → Ex c M' H' rest P))
    (hs : ∀ x, foldedSetIterable iter c.env x = pure x := by intro _; rfl) : Ex c M H (.For tgt iter body [] pos :: rest) P :=
  Ex.cons fun hp kk s Q E q e' => by
    refine wpAny_For (h hp kk s _ _ (fun v h1 k1 M1 H1 p s1 => ?_) e') hs
    rcases p.1 with rfl; refine el4_6 p.2 fun l xs H20 Inv hv hl hn hsub h0 step exit => ?_; try clear p
    rw [er_ref hv]
    refine el2_2 (s1.freeze' hl) fun vs nn g1 ev s2 => ?_
    have il : h1.IsList l vs.toArray := ⟨_, g1, rfl, nn, rfl⟩
    refine wpAny_pyIter_list (s := c.at h1 k1) il ?_
    have zq := s2.alloc ok (o := .raw { cls := .type "list_iterator", data := .fields #[.ref l, .int 0 0] }) (ob := { cls := .type "list_iterator", data := .fields #[.ref l, .int 0 0] }) (fun _ _ z => by cases z) rfl fun news d m => m; have hIn := zq.1; have s3 := zq.2
    have hlI : l ≠ h1.objs.size := Nat.ne_of_lt (Heap.lt_size g1)
    have mns : Sub H20 (upd H1 l (.raw (lsO vs nn))) := fun a o e => by rw [upd_ne fun z => by rw [z, hn] at e; cases e]; exact hsub a o e
    refine forWalk (h := h1.push { cls := .type "list_iterator", data := .fields #[.ref l, .int 0 0] }) ok noX (Walks.list ok.hand h1.objs.size l hlI vs.toArray) (fun i s' v Q' E' st q => goList st.1 q) (fun i h z => let ⟨o, a, _⟩ := z.1; ⟨o, a⟩) (H20 := H20) (H0 := upd H1 l (.raw (lsO vs nn))) (Inv := Inv) (Pr := fun v => P (.ret v)) (Pn := fun M' H' => Ex c M' H' rest P) (fun b hb hbI => ?_) hIn (fun i M' H3 H' v hi hP hJ hS => ?_) (fun M' H3 H' hJ hF => ?_) s3 ?_ h0 mns (fun M' H' h' k' p s' => q .next _ _ _ _ p s') fun v M' H' h' k' p s' => q (.ret v) _ _ _ _ p s'
    · simp at hb
      rcases hb with rfl | rfl
      · exact absurd rfl hbI
      · exact ⟨hn, _, upd_same _ _ _⟩
    · have := step i M' H3 H' (er v) (by rw [← ev, List.getElem?_map]; rw [List.getElem?_toArray] at hP; rw [hP]; rfl) hJ hS v rfl
      exact this.mono fun _ M2 H2 p => p.mono fun fl M4 H4 p => by cases fl <;> exact p
    · have zq := Fwd.thaw hl hn hF; have hF' := zq.1; have hl' := zq.2
      have := exit M' H3 _ (by rw [← ev, List.length_map]; rw [List.size_toArray] at hJ; exact hJ) hF'
      rw [← ev] at this
      exact W.thaw hl' this
    · exact ⟨⟨_, Heap.get?_push_size _ rfl, rfl, rfl⟩, ⟨_, Heap.get?_push_of_some _ g1, rfl, nn, rfl⟩⟩
end
mutual
inductive Rd (H : AH) : Value → PyData → Prop
  | none : Rd H .none .none
  | bool (b) : Rd H (.bool b) (.bool b)
  | int (i) : Rd H (.int i 0) (.int i)
  | str (x) : Rd H (.str x 0) (.str x)
  | list {a xs ds} : H a = some (.list xs) → RdAll H xs ds → Rd H (.ref a) (.list ds)
inductive RdAll (H : AH) : List Value → List PyData → Prop
  | nil : RdAll H [] []
  | cons {v vs d ds} : Rd H v d → RdAll H vs ds → RdAll H (v :: vs) (d :: ds)
end
section
variable {c : Cx} {M : Mem} {H : AH} {n : Nat}
theorem Rd.reads {h : Heap} (s : St c M H h) {v : Value} {d : PyData} (r : Rd H v d) : ∀ v', er v' = v → ∃ as, Reads h v' d as := by
  refine Rd.rec (motive_1 := fun v d _ => ∀ v', er v' = v → ∃ as, Reads h v' d as) (motive_2 := fun vs ds _ => ∀ vs', vs'.map er = vs → ∃ as, ReadsAll h vs' ds as) ?_ ?_ ?_ ?_ ?_ ?_ ?_ r
  · intro v' e; rw [er_none e]; exact ⟨_, .none⟩
  · intro b v' e; rw [er_bool e]; exact ⟨_, .bool b⟩
  · intro i v' e; refine Exists.elim (er_int e) fun t z91 => ?_; rcases z91 with rfl; exact ⟨_, .int i t⟩
  · intro x v' e; refine Exists.elim (er_str e) fun t z91 => ?_; rcases z91 with rfl; exact ⟨_, .str x t⟩
  · intro a xs ds hl _ ih v' e
    rw [er_ref e]
    refine el2_1 (s.isL hl) fun vs nn hg ev => ?_
    refine Exists.elim (ih vs ev) fun as q => ?_
    exact ⟨_, reads_list_at hg rfl rfl q⟩
  · intro vs' e
    cases vs' with
    | nil => exact ⟨_, .nil⟩
    | cons _ _ => cases e
  · intro v vs d ds _ _ i1 i2 vs' e
    cases vs' with
    | nil => cases e
    | cons x xs =>
      rw [List.map_cons] at e
      have zq := List.cons.inj e; have e1 := zq.1; have e2 := zq.2
      refine Exists.elim (i1 x e1) fun as p => ?_
      refine Exists.elim (i2 xs e2) fun bs q => ?_
      exact ⟨_, .cons p q⟩
noncomputable def layOk (d : PyData) : Prop := d.canLay0 = true ∧ d.depth ≤ 40
theorem Cmp.eqD (ok : c.Ok n) {a b : Value} {da db : PyData} (ra : Rd H a da) (rb : Rd H b db) (la : layOk da) (lb : layOk db) : Cmp c M H .Eq a b (PyData.eqv da db) := fun a' b' h k s Q E za zb q => by
  refine Exists.elim (ra.reads s a' za) fun as r1 => ?_
  refine Exists.elim (rb.reads s b' zb) fun bs r2 => ?_
  have hu := ok.units
  exact SeqAt.rcAt_reads (s := c.at h k) r1 r2 la.1 lb.1 (by have := la.2; lia) pw c.w E Q (q h k s)
theorem Cmp.neD (ok : c.Ok n) {a b : Value} {da db : PyData} (ra : Rd H a da) (rb : Rd H b db) (la : layOk da) (lb : layOk db) : Cmp c M H .NotEq a b (!PyData.eqv da db) := fun a' b' h k s Q E za zb q => by
  refine Exists.elim (ra.reads s a' za) fun as r1 => ?_
  refine Exists.elim (rb.reads s b' zb) fun bs r2 => ?_
  have hu := ok.units
  exact SeqAt.rcNeAt_reads (s := c.at h k) r1 r2 la.1 lb.1 (by have := la.2; lia) pw c.w E Q (q h k s)
end
noncomputable abbrev dInts (xs : List Int) : PyData := .list (xs.map .int)
theorem rdAll_ints {H : AH} : ∀ (xs : List Int), RdAll H (intV xs) (xs.map .int)
  | [] => .nil
  | x :: r => .cons (.int x) (rdAll_ints r)
theorem Rd.ints {H : AH} {a : Addr} {xs : List Int} (h : H a = some (.list (intV xs))) : Rd H (.ref a) (dInts xs) := .list h (rdAll_ints xs)
theorem lay_intsAll : ∀ xs : List Int, PyData.canLayAll0 (xs.map .int) = true ∧ PyData.depthAll (xs.map .int) ≤ 1
  | [] => by simp [PyData.canLayAll0, PyData.depthAll]
  | x :: r => by
    have zq := lay_intsAll r; have a := zq.1; have b := zq.2
    simp only [List.map_cons, PyData.canLayAll0, PyData.depthAll, PyData.canLay0, PyData.depth, a, Bool.and_self, true_and]
    assumption
theorem lay_ints (xs : List Int) : layOk (dInts xs) := by
  have zq := lay_intsAll xs; have a := zq.1; have b := zq.2
  refine ⟨by simp only [dInts, PyData.canLay0]; exact a, ?_⟩
  simp only [dInts, PyData.depth]; exact Nat.lt_of_le_of_lt (by assumption) (by decide)
theorem eqv_intsAll : ∀ xs ys : List Int, PyData.eqvAll (xs.map .int) (ys.map .int) = (xs == ys)
  | [], [] => rfl
  | [], _ :: _ => rfl
  | _ :: _, [] => rfl
  | x :: xs, y :: ys => by
    simp only [List.map_cons, PyData.eqvAll, PyData.eqv, eqv_intsAll xs ys]
    rfl
theorem eqv_ints (xs ys : List Int) : PyData.eqv (dInts xs) (dInts ys) = (xs == ys) := by
  simp only [dInts, PyData.eqv]; exact eqv_intsAll xs ys
noncomputable abbrev HL := List (Addr × AO)
noncomputable abbrev ks (l : HL) : List Addr := l.map (·.1)
noncomputable def Has (H : AH) (l : HL) : Prop := ∀ p ∈ l, H p.1 = some p.2
noncomputable def Tr (l : HL) (H : AH) (l' : HL) (H' : AH) : Prop := Has H' l' ∧ ∀ a o, a ∉ ks l → H a = some o → H' a = some o ∧ a ∉ ks l'
theorem Has.nil {H : AH} : Has H [] := fun _ h => nomatch h
theorem Has.cons {H : AH} {a : Addr} {o : AO} {l : HL} (h : H a = some o) (r : Has H l) : Has H ((a, o) :: l) := fun p hp => by
  rcases List.mem_cons.mp hp with rfl | hp
  · exact h
  · exact r p hp
theorem Has.head {H : AH} {a : Addr} {o : AO} {l : HL} (h : Has H ((a, o) :: l)) : H a = some o := h _ List.mem_cons_self
theorem Has.tail {H : AH} {p : Addr × AO} {l : HL} (h : Has H (p :: l)) : Has H l := fun q hq => h q (List.mem_cons_of_mem _ hq)
theorem Has.sub {H H' : AH} {l : HL} (h : Has H l) (s : Sub H H') : Has H' l := fun p hp => s _ _ (h p hp)
theorem Has.of {H : AH} {l l' : HL} (h : Has H l) (s : ∀ p ∈ l', p ∈ l) : Has H l' := fun p hp => h p (s p hp)
theorem Has.app {H : AH} {l l' : HL} (h : Has H l) (h' : Has H l') : Has H (l ++ l') := fun p hp => (List.mem_append.mp hp).elim (h p) (h' p)
theorem Has.key {H : AH} {l : HL} (h : Has H l) {a : Addr} (m : a ∈ ks l) : ∃ o, H a = some o := by
  refine el1_1 (List.mem_map.mp m) fun p hp z92 => ?_; rcases z92 with rfl; exact ⟨_, h p hp⟩
theorem Tr.refl {l : HL} {H : AH} (h : Has H l) : Tr l H l H := ⟨h, fun _ _ n e => ⟨e, n⟩⟩
theorem Tr.trans {l l1 l2 : HL} {H H1 H2 : AH} (x : Tr l H l1 H1) (y : Tr l1 H1 l2 H2) : Tr l H l2 H2 := ⟨y.1, fun a o n e => let ⟨e1, n1⟩ := x.2 a o n e; y.2 a o n1 e1⟩
theorem Tr.more {l l' : HL} {H H' H'' : AH} (x : Tr l H l' H') (s : Sub H' H'') : Tr l H l' H'' := ⟨x.1.sub s, fun a o n e => let ⟨e1, n1⟩ := x.2 a o n e; ⟨s _ _ e1, n1⟩⟩
theorem Tr.less {l l' l'' : HL} {H H' : AH} (x : Tr l H l' H') (s : ∀ p ∈ l'', p ∈ l') : Tr l H l'' H' := ⟨x.1.of s, fun a o n e => let ⟨e1, n1⟩ := x.2 a o n e; ⟨e1, fun q => n1 (by
  refine el1_1 (List.mem_map.mp q) fun p hp z92 => ?_; rcases z92 with rfl; exact List.mem_map_of_mem (s p hp))⟩⟩
theorem Tr.own {l l' l₂ : HL} {H H' : AH} (x : Tr l H l' H') (s : ∀ a, a ∈ ks l → a ∈ ks l₂) : Tr l₂ H l' H' := ⟨x.1, fun a o n e => x.2 a o (fun q => n (s a q)) e⟩
theorem Tr.from {l l' : HL} {K H H' : AH} (x : Tr l H l' H') (s : Sub K H) : Tr l K l' H' := ⟨x.1, fun a o n e => x.2 a o n (s a o e)⟩
theorem Tr.keep {l l' : HL} {H H' : AH} (x : Tr l H l' H') {r : HL} (h : Has H r) (d : ∀ a ∈ ks r, a ∉ ks l) : Has H' r ∧ ∀ a ∈ ks r, a ∉ ks l' := by
  refine ⟨fun p hp => (x.2 p.1 p.2 (d _ (List.mem_map_of_mem hp)) (h p hp)).1, fun a ha => ?_⟩
  refine el1_1 (List.mem_map.mp ha) fun p hp z92 => ?_; rcases z92 with rfl
  exact (x.2 p.1 p.2 (d _ ha) (h p hp)).2
theorem Tr.frame {l l' r : HL} {H H' : AH} (x : Tr l H l' H') (h : Has H r) (d : ∀ a ∈ ks r, a ∉ ks l) : Tr (l ++ r) H (l' ++ r) H' := by
  have zq := x.keep h d; have h1 := zq.1; have h2 := zq.2
  refine ⟨x.1.app h1, fun a o n e => ?_⟩
  have n' : a ∉ ks l ∧ a ∉ ks r := by simpa [ks] using n
  have zq := x.2 a o n'.1 e; have e1 := zq.1; have n1 := zq.2
  exact ⟨e1, by
    intro q
    rw [show ks (l' ++ r) = ks l' ++ ks r from List.map_append] at q
    exact (List.mem_append.mp q).elim n1 n'.2⟩
theorem Tr.turn {l l' : HL} {H H' : AH} (x : Tr l H l' H') {a : Addr} {o o' : AO} {r : HL} (hl : l' = (a, o) :: r) (nd : a ∉ ks r) : Tr l H ((a, o') :: r) (upd H' a o') := by
  subst hl
  refine ⟨fun p hp => ?_, fun b y n e => ?_⟩
  · rcases List.mem_cons.mp hp with rfl | hp
    · exact upd_same _ _ _
    · have q : p.1 ≠ a := fun q => nd (q ▸ List.mem_map_of_mem hp)
      rw [upd_ne q]; exact x.1 p (List.mem_cons_of_mem _ hp)
  · have zq := x.2 b y n e; have e1 := zq.1; have n1 := zq.2
    have n2 : b ∉ a :: ks r := n1
    have n3 : b ∉ ks ((a, o') :: r) := n2
    have q : b ≠ a := fun q => n2 (q ▸ List.mem_cons_self)
    exact ⟨by rw [upd_ne q]; exact e1, n3⟩
theorem Tr.new {l l' : HL} {H H' : AH} (x : Tr l H l' H') {a : Addr} {o : AO} (hn : H' a = none) : Tr l H ((a, o) :: l') (upd H' a o) := by
  refine ⟨fun p hp => ?_, fun b y n e => ?_⟩
  · rcases List.mem_cons.mp hp with rfl | hp
    · exact upd_same _ _ _
    · have := x.1 p hp
      have q : p.1 ≠ a := fun q => by rw [q, hn] at this; cases this
      rw [upd_ne q]; exact this
  · have zq := x.2 b y n e; have e1 := zq.1; have n1 := zq.2
    have nb : b ≠ a := fun q => by rw [q, hn] at e1; cases e1
    refine ⟨by rw [upd_ne nb]; exact e1, fun q => ?_⟩
    rcases List.mem_cons.mp q with q | q
    · exact nb q
    · exact n1 q
theorem Tr.perm {l l' m : HL} {H H' : AH} (x : Tr l H l' H') (p : l'.Perm m) : Tr l H m H' := x.less fun q hq => p.mem_iff.mpr hq
theorem Tr.permL {l l' m : HL} {H H' : AH} (x : Tr l H l' H') (p : l.Perm m) : Tr m H l' H' := x.own fun a ha => (p.map (·.1)).mem_iff.mp ha
noncomputable def ofL : HL → AH
  | [] => fun _ => none
  | (a, o) :: l => upd (ofL l) a o
theorem ofL_none {a : Addr} : ∀ {l : HL}, ofL l a = none ↔ a ∉ ks l
  | [] => by simp [ofL]
  | (b, o) :: l => by
    have ih := @ofL_none a l
    unfold ofL upd
    by_cases q : a = b
    · simp [q]
    · rw [if_neg q, ih]; simp [q]
theorem ofL_mem {l : HL} (nd : (ks l).Nodup) {p : Addr × AO} (h : p ∈ l) : ofL l p.1 = some p.2 := by
  induction l with
  | nil => cases h
  | cons q r ih =>
    obtain ⟨b, o⟩ := q
    have nd' := List.nodup_cons.mp (show (b :: ks r).Nodup from nd)
    unfold ofL
    rcases List.mem_cons.mp h with rfl | h
    · exact upd_same _ _ _
    · have q : p.1 ≠ b := fun q => nd'.1 (q ▸ List.mem_map_of_mem h)
      rw [upd_ne q]; exact ih nd'.2 h
theorem ofL_some {l : HL} {a : Addr} {o : AO} (h : ofL l a = some o) : (a, o) ∈ l := by
  induction l with
  | nil => cases h
  | cons q r ih =>
    obtain ⟨b, x⟩ := q
    unfold ofL upd at h
    split at h
    · rename_i e; cases h; subst e; exact List.mem_cons_self
    · exact List.mem_cons_of_mem _ (ih h)
theorem Has.ofL {H : AH} {l : HL} (h : Has H l) : Sub (ofL l) H := fun a o e => h _ (ofL_some e)
theorem Tr.ofFwd {l l' : HL} {H H' : AH} (nd' : (ks l').Nodup) (f : Fwd (Nw.ofL l) H (Nw.ofL l') H') : Tr l H l' H' :=
  ⟨fun p hp => f.1 _ _ (ofL_mem nd' hp), fun a o n e => let ⟨a1, a2⟩ := f.2 a o (ofL_none.mpr n) e; ⟨a2, ofL_none.mp a1⟩⟩
theorem Tr.toFwd {l l' : HL} {H H' : AH} (x : Tr l H l' H') : Fwd (Nw.ofL l) H (Nw.ofL l') H' :=
  ⟨fun a o e => x.1 _ (ofL_some e), fun a o n e => let ⟨a1, a2⟩ := x.2 a o (ofL_none.mp n) e; ⟨ofL_none.mpr a2, a1⟩⟩
theorem ofL_sub {l : HL} {H : AH} (s : Sub (ofL l) H) (nd : (ks l).Nodup) : Has H l := fun p hp => s _ _ (ofL_mem nd hp)
section
variable {c : Cx} {M : Mem} {H : AH} {n : Nat}
theorem St.ne1 (ok : c.Ok n) {h : Heap} (s : St c M H h) {a : Addr} {o : AO} (ha : H a = some o) : a ≠ 1 := fun q => by
  refine el2_3 s fun news δ N nd A l => ?_
  refine Exists.elim ((A.rep a o ha).mem) fun ob hm => ?_
  have := (N _ hm).2.2
  have K := ok.ground.1; have _ := ok.ground.2
  have lk : ∃ o, (KK c.w.params).lookup 1 = some o := ⟨_, rfl⟩
  refine Exists.elim lk fun o1 lk => ?_
  have g := K _ _ lk
  rw [q] at this
  rw [this] at g; cases g
theorem CallJ.ne1 (ok : c.Ok n) {f : Value} {vs : List Value} {P : Value → AH → Prop} {a : Addr} {o : AO} (ha : H a = some o) (h : a ≠ 1 → CallJ c M H f vs P) : CallJ c M H f vs P := fun vs' e hp k s => h (s.ne1 ok ha) vs' e hp k s
theorem Cmp.ne1 (ok : c.Ok n) {op : CmpOp} {x y : Value} {r : Bool} {a : Addr} {o : AO} (ha : H a = some o) (h : a ≠ 1 → Cmp c M H op x y r) : Cmp c M H op x y r := fun a' b' hp k s => h (s.ne1 ok ha) a' b' hp k s
theorem Ex.moved {rest : List Stmt} {P : Fl → Mem → AH → Prop} {H' : AH} (h : Ex c M H' rest P) (k : Sub H' H) : Ex c M H rest P := W.less h k
end
section
variable {α : Type}
theorem gp_left {xs : List α} {at' gs ge : Nat} (h1 : at' ≤ gs) (h2 : gs ≤ ge) (h3 : ge ≤ xs.length) :
    (xs.take (ge - (gs - at')) ++ (xs.drop at').take (gs - at') ++ xs.drop ge).length = xs.length ∧
    (xs.take (ge - (gs - at')) ++ (xs.drop at').take (gs - at') ++ xs.drop ge).take at' ++ (xs.take (ge - (gs - at')) ++ (xs.drop at').take (gs - at') ++ xs.drop ge).drop (ge - (gs - at')) = xs.take gs ++ xs.drop ge := by
  have l1 : (xs.take (ge - (gs - at'))).length = ge - (gs - at') := List.length_take_of_le (Nat.le_trans (Nat.sub_le _ _) h3)
  have l2 : ((xs.drop at').take (gs - at')).length = gs - at' := dt_len (by rw [Nat.add_sub_cancel' h1]; exact Nat.le_trans h2 h3)
  have l3 : at' ≤ ge - (gs - at') := Nat.le_sub_of_add_le (by rw [Nat.add_sub_cancel' h1]; exact h2)
  refine ⟨by rw [List.length_append, List.length_append, l1, l2, List.length_drop, Nat.sub_add_cancel (Nat.le_trans (Nat.sub_le _ _) h2), Nat.add_sub_cancel' h3], ?_⟩
  rw [List.append_assoc, List.take_append_of_le_length (by rw [l1]; exact l3), List.take_take, Nat.min_eq_left l3, List.drop_left' l1, ← List.append_assoc]
  congr 1
  have := List.take_append_drop at' (xs.take gs)
  rw [List.take_take, Nat.min_eq_left h1, List.drop_take] at this
  exact this
theorem gp_right {xs : List α} {k gs ge : Nat} (h2 : gs ≤ ge) (h3 : ge + k ≤ xs.length) :
    (xs.take gs ++ (xs.drop ge).take k ++ xs.drop (gs + k)).length = xs.length ∧
    (xs.take gs ++ (xs.drop ge).take k ++ xs.drop (gs + k)).take (gs + k) ++ (xs.take gs ++ (xs.drop ge).take k ++ xs.drop (gs + k)).drop (ge + k) = xs.take gs ++ xs.drop ge := by
  have l1 : (xs.take gs).length = gs := List.length_take_of_le (Nat.le_trans h2 (Nat.le_trans (Nat.le_add_right _ _) h3))
  have l2 : ((xs.drop ge).take k).length = k := dt_len h3
  have l3 : (xs.take gs ++ (xs.drop ge).take k).length = gs + k := by rw [List.length_append, l1, l2]
  have l4 : gs + k + (ge - gs) = ge + k := by rw [Nat.add_right_comm, Nat.add_sub_cancel' h2]
  refine ⟨by rw [List.length_append, l3, List.length_drop, Nat.add_sub_cancel' (Nat.le_trans (Nat.add_le_add_right h2 k) h3)], ?_⟩
  rw [List.take_left' l3, ← l4, ← List.drop_drop, List.drop_left' l3, List.drop_drop, List.append_assoc]
  congr 1
  have := List.take_append_drop k (xs.drop ge)
  rw [List.drop_drop] at this
  rw [l4]; exact this
theorem gp_len {xs : List α} {gs ge : Nat} (h1 : gs ≤ ge) (h2 : ge ≤ xs.length) : (xs.take gs ++ xs.drop ge).length = xs.length - ge + gs := by
  rw [List.length_append, List.length_take_of_le (Nat.le_trans h1 h2), List.length_drop, Nat.add_comm]
theorem gp_wide {xs zs : List α} {gs ge : Nat} (h1 : gs ≤ ge) (h2 : ge ≤ xs.length) : (xs.take ge ++ zs ++ xs.drop ge).length = xs.length + zs.length ∧
    (xs.take ge ++ zs ++ xs.drop ge).take gs ++ (xs.take ge ++ zs ++ xs.drop ge).drop (ge + zs.length) = xs.take gs ++ xs.drop ge := by
  have l1 : (xs.take ge).length = ge := List.length_take_of_le h2
  have l3 : (xs.take ge ++ zs).length = ge + zs.length := by rw [List.length_append, l1]
  refine ⟨by rw [List.length_append, l3, List.length_drop, Nat.add_right_comm, Nat.add_sub_cancel' h2], ?_⟩
  rw [List.drop_left' l3, List.append_assoc, List.take_append_of_le_length (by rw [l1]; exact h1), List.take_take, Nat.min_eq_left h1]
theorem gp_ins {xs ys : List α} {gs ge : Nat} (h1 : gs + ys.length ≤ ge) (h2 : ge ≤ xs.length) : (xs.take gs ++ ys ++ xs.drop (gs + ys.length)).length = xs.length ∧
    (xs.take gs ++ ys ++ xs.drop (gs + ys.length)).take (gs + ys.length) ++ (xs.take gs ++ ys ++ xs.drop (gs + ys.length)).drop ge = (xs.take gs ++ xs.drop ge).take gs ++ ys ++ (xs.take gs ++ xs.drop ge).drop gs := by
  have l1 : (xs.take gs).length = gs := List.length_take_of_le (Nat.le_trans (Nat.le_trans (Nat.le_add_right _ _) h1) h2)
  have l3 : (xs.take gs ++ ys).length = gs + ys.length := by rw [List.length_append, l1]
  refine ⟨by rw [List.length_append, l3, List.length_drop, Nat.add_sub_cancel' (Nat.le_trans h1 h2)], ?_⟩
  rw [List.take_left' l3, List.take_left' l1, List.drop_left' l1]
  congr 1
  have e : ge = (gs + ys.length) + (ge - (gs + ys.length)) := (Nat.add_sub_cancel' h1).symm
  rw [e, ← List.drop_drop, List.drop_left' l3, List.drop_drop]
theorem gp_del {xs : List α} {gs ge s e : Nat} (h1 : gs ≤ ge) (h2 : ge ≤ xs.length) (h3 : s ≤ gs) (h4 : gs ≤ e) (h5 : e ≤ xs.length - ge + gs) :
    xs.take s ++ xs.drop (ge + (e - gs)) = (xs.take gs ++ xs.drop ge).take s ++ (xs.take gs ++ xs.drop ge).drop e := by
  have l1 : (xs.take gs).length = gs := List.length_take_of_le (Nat.le_trans h1 h2)
  rw [List.take_append_of_le_length (by rw [l1]; exact h3), List.take_take, Nat.min_eq_left h3, List.drop_append, List.drop_eq_nil_of_le (by rw [l1]; exact h4 : (xs.take gs).length ≤ e), l1, List.drop_drop]
  rfl
theorem gp_pickL {xs : List α} {gs ge i j : Nat} (hij : i ≤ j) (h : j ≤ gs) (h2 : ge ≤ xs.length) (h1 : gs ≤ ge) : ((xs.take gs ++ xs.drop ge).drop i).take (j - i) = (xs.drop i).take (j - i) := by
  have l1 : (xs.take gs).length = gs := List.length_take_of_le (Nat.le_trans h1 h2)
  rw [List.drop_append_of_le_length (by rw [l1]; exact Nat.le_trans hij h), List.take_append_of_le_length (by rw [List.length_drop, l1]; exact Nat.sub_le_sub_right h _), List.drop_take, List.take_take, Nat.min_eq_left (Nat.sub_le_sub_right h _)]
theorem gp_pickR {xs : List α} {gs ge i j : Nat} (h : gs ≤ i) (h2 : ge ≤ xs.length) (h1 : gs ≤ ge) : ((xs.take gs ++ xs.drop ge).drop i).take (j - i) = (xs.drop (i + (ge - gs))).take (j + (ge - gs) - (i + (ge - gs))) := by
  have l1 : (xs.take gs).length = gs := List.length_take_of_le (Nat.le_trans h1 h2)
  rw [List.drop_append, List.drop_eq_nil_of_le (by rw [l1]; exact h), l1, List.nil_append, List.drop_drop, nn2 h h1, Nat.add_sub_add_right]
theorem gp_pickM {xs : List α} {gs ge i j : Nat} (h : i ≤ gs) (h' : gs ≤ j) (h2 : ge ≤ xs.length) (h1 : gs ≤ ge) : ((xs.take gs ++ xs.drop ge).drop i).take (j - i) = (xs.drop i).take (gs - i) ++ (xs.drop ge).take (j + (ge - gs) - ge) := by
  have l1 : (xs.take gs).length = gs := List.length_take_of_le (Nat.le_trans h1 h2)
  rw [List.drop_append_of_le_length (by rw [l1]; exact h), List.take_append, List.length_drop, l1, List.drop_take, List.take_take, Nat.min_eq_right (Nat.sub_le_sub_right h' _), nn1 h h1]
theorem gp_put {xs : List α} {gs ge i : Nat} {v : α} (h1 : gs ≤ ge) (h2 : ge ≤ xs.length) : (xs.take gs ++ xs.drop ge).set i v = if i < gs then (xs.set i v).take gs ++ (xs.set i v).drop ge else (xs.set (i - gs + ge) v).take gs ++ (xs.set (i - gs + ge) v).drop ge := by
  have l1 : (xs.take gs).length = gs := List.length_take_of_le (Nat.le_trans h1 h2)
  by_cases h : i < gs
  · rw [if_pos h, List.set_append_left _ _ (by rw [l1]; exact h), ← List.take_set, List.drop_set_of_lt (Nat.lt_of_lt_of_le h h1)]
  · rw [if_neg h, List.set_append_right _ _ (by rw [l1]; exact Nat.not_lt.mp h), l1, List.take_set, List.set_eq_of_length_le (by rw [l1]; exact Nat.le_trans h1 (Nat.le_add_left _ _) : (xs.take gs).length ≤ i - gs + ge), List.drop_set, if_neg (Nat.not_lt.mpr (Nat.le_add_left _ _)), Nat.add_sub_cancel]
end
theorem upd_upd (H : AH) (a : Addr) (x y : AO) : upd (upd H a x) a y = upd H a y := by
  funext b
  unfold upd
  by_cases q : b = a
  · rw [if_pos q, if_pos q]
  · rw [if_neg q, if_neg q, if_neg q]
theorem Sub.rfl' {H : AH} : Sub H H := fun _ _ h => h
theorem Sub.trans' {H H1 H2 : AH} (x : Sub H H1) (y : Sub H1 H2) : Sub H H2 := fun a o h => y _ _ (x a o h)
theorem Sub.updM {H H' : AH} (s : Sub H H') (a : Addr) (o : AO) : Sub (Nw.upd H a o) (Nw.upd H' a o) := fun b x e => by
  by_cases q : b = a
  · subst q; rw [upd_same] at e ⊢; exact e
  · rw [upd_ne q] at e ⊢; exact s b x e
structure GFn (x : Str) (f : Addr) : Prop where
  g : Gl x (.ref f)
  kp : ∀ P, keepIn (KK P) (.ref f) = true
  nd : (x == ("__debug__" : Str)) = false
theorem gf_narrow : GFn "narrow" 48 := ⟨gl_narrow, fun P => by kernel_rfl, by decide +kernel⟩
theorem gf_widen : GFn "widen" 55 := ⟨gl_widen, fun P => by kernel_rfl, by decide +kernel⟩
theorem gf_is_narrowed : GFn "is_narrowed" 62 := ⟨gl_is_narrowed, fun P => by kernel_rfl, by decide +kernel⟩
theorem gf_need_writable : GFn "need_writable" 409 := ⟨gl_need_writable, fun P => by kernel_rfl, by decide +kernel⟩
theorem gf_need_room : GFn "need_room" 416 := ⟨gl_need_room, fun P => by kernel_rfl, by decide +kernel⟩
theorem gf_reached : GFn "reached" 423 := ⟨gl_reached, fun P => by kernel_rfl, by decide +kernel⟩
theorem gf_tell_ahead : GFn "tell_ahead" 430 := ⟨gl_tell_ahead, fun P => by kernel_rfl, by decide +kernel⟩
theorem gf_tell_behind : GFn "tell_behind" 437 := ⟨gl_tell_behind, fun P => by kernel_rfl, by decide +kernel⟩
theorem gf_text_out : GFn "text_out" 444 := ⟨gl_text_out, fun P => by kernel_rfl, by decide +kernel⟩
theorem gf_text_in : GFn "text_in" 451 := ⟨gl_text_in, fun P => by kernel_rfl, by decide +kernel⟩
theorem gf_hung_out : GFn "hung_out" 458 := ⟨gl_hung_out, fun P => by kernel_rfl, by decide +kernel⟩
theorem gf_hung_in : GFn "hung_in" 465 := ⟨gl_hung_in, fun P => by kernel_rfl, by decide +kernel⟩
theorem gf_put_in : GFn "put_in" 472 := ⟨gl_put_in, fun P => by kernel_rfl, by decide +kernel⟩
theorem gf_insert_at : GFn "insert_at" 480 := ⟨gl_insert_at, fun P => by kernel_rfl, by decide +kernel⟩
theorem gf_insert : GFn "insert" 488 := ⟨gl_insert, fun P => by kernel_rfl, by decide +kernel⟩
theorem gf_delete : GFn "delete" 495 := ⟨gl_delete, fun P => by kernel_rfl, by decide +kernel⟩
theorem gf_replace : GFn "replace" 508 := ⟨gl_replace, fun P => by kernel_rfl, by decide +kernel⟩
theorem gf_change_sign : GFn "change_sign" 515 := ⟨gl_change_sign, fun P => by kernel_rfl, by decide +kernel⟩
theorem gf_subst_codes : GFn "subst_codes" 522 := ⟨gl_subst_codes, fun P => by kernel_rfl, by decide +kernel⟩
theorem gf_transpose_regions : GFn "transpose_regions" 529 := ⟨gl_transpose_regions, fun P => by kernel_rfl, by decide +kernel⟩
theorem gf_tidy_runs : GFn "tidy_runs" 585 := ⟨gl_tidy_runs, fun P => by kernel_rfl, by decide +kernel⟩
theorem gf_moved_runs : GFn "moved_runs" 590 := ⟨gl_moved_runs, fun P => by kernel_rfl, by decide +kernel⟩
theorem gf_piece_joined : GFn "piece_joined" 597 := ⟨gl_piece_joined, fun P => by kernel_rfl, by decide +kernel⟩
theorem gf_piece_without : GFn "piece_without" 602 := ⟨gl_piece_without, fun P => by kernel_rfl, by decide +kernel⟩
theorem gf_kill_new : GFn "kill_new" 630 := ⟨gl_kill_new, fun P => by kernel_rfl, by decide +kernel⟩
theorem gf_kill_append : GFn "kill_append" 637 := ⟨gl_kill_append, fun P => by kernel_rfl, by decide +kernel⟩
theorem gf_current_kill : GFn "current_kill" 644 := ⟨gl_current_kill, fun P => by kernel_rfl, by decide +kernel⟩
theorem gf_set_marker : GFn "set_marker" 651 := ⟨gl_set_marker, fun P => by kernel_rfl, by decide +kernel⟩
theorem gf_set_mark : GFn "set_mark" 679 := ⟨gl_set_mark, fun P => by kernel_rfl, by decide +kernel⟩
theorem gf_has_mark : GFn "has_mark" 686 := ⟨gl_has_mark, fun P => by kernel_rfl, by decide +kernel⟩
theorem gf_mark_place : GFn "mark_place" 693 := ⟨gl_mark_place, fun P => by kernel_rfl, by decide +kernel⟩
theorem gf_ring_marker : GFn "ring_marker" 700 := ⟨gl_ring_marker, fun P => by kernel_rfl, by decide +kernel⟩
theorem gf_push_mark : GFn "push_mark" 707 := ⟨gl_push_mark, fun P => by kernel_rfl, by decide +kernel⟩
theorem gf_plist_rows : GFn "plist_rows" 712 := ⟨gl_plist_rows, fun P => by kernel_rfl, by decide +kernel⟩
theorem gf_piece_of : GFn "piece_of" 717 := ⟨gl_piece_of, fun P => by kernel_rfl, by decide +kernel⟩
theorem gf_insert_piece : GFn "insert_piece" 722 := ⟨gl_insert_piece, fun P => by kernel_rfl, by decide +kernel⟩
theorem gf_save_kill : GFn "save_kill" 729 := ⟨gl_save_kill, fun P => by kernel_rfl, by decide +kernel⟩
theorem gf_copy_region : GFn "copy_region" 736 := ⟨gl_copy_region, fun P => by kernel_rfl, by decide +kernel⟩
theorem gf_kill_region : GFn "kill_region" 743 := ⟨gl_kill_region, fun P => by kernel_rfl, by decide +kernel⟩
theorem gf_swap_point_and_mark : GFn "swap_point_and_mark" 750 := ⟨gl_swap_point_and_mark, fun P => by kernel_rfl, by decide +kernel⟩
theorem gf_yank : GFn "yank" 757 := ⟨gl_yank, fun P => by kernel_rfl, by decide +kernel⟩
theorem gf_law_deck : GFn "_law_deck" 762 := ⟨gl_law_deck, fun P => by kernel_rfl, by decide +kernel⟩
theorem gf_law_draw : GFn "_law_draw" 769 := ⟨gl_law_draw, fun P => by kernel_rfl, by decide +kernel⟩
theorem gf_law_drawn : GFn "_law_drawn" 774 := ⟨gl_law_drawn, fun P => by kernel_rfl, by decide +kernel⟩
theorem gf_law_done : GFn "_law_done" 779 := ⟨gl_law_done, fun P => by kernel_rfl, by decide +kernel⟩
theorem gf_law_state : GFn "_law_state" 784 := ⟨gl_law_state, fun P => by kernel_rfl, by decide +kernel⟩
theorem gf_law_begun : GFn "_law_begun" 791 := ⟨gl_law_begun, fun P => by kernel_rfl, by decide +kernel⟩
theorem gf_LispSignal : GFn "LispSignal" 38 := ⟨gl_LispSignal, fun P => by kernel_rfl, by decide +kernel⟩
theorem gf_GapText : GFn "GapText" 149 := ⟨gl_GapText, fun P => by kernel_rfl, by decide +kernel⟩
theorem gf_Marker : GFn "Marker" 226 := ⟨gl_Marker, fun P => by kernel_rfl, by decide +kernel⟩
theorem gf_Markers : GFn "Markers" 294 := ⟨gl_Markers, fun P => by kernel_rfl, by decide +kernel⟩
theorem gf_Buffer : GFn "Buffer" 400 := ⟨gl_Buffer, fun P => by kernel_rfl, by decide +kernel⟩
theorem gf_Piece : GFn "Piece" 574 := ⟨gl_Piece, fun P => by kernel_rfl, by decide +kernel⟩
theorem gf_KillRing : GFn "KillRing" 619 := ⟨gl_KillRing, fun P => by kernel_rfl, by decide +kernel⟩
theorem gf_MarkRing : GFn "MarkRing" 668 := ⟨gl_MarkRing, fun P => by kernel_rfl, by decide +kernel⟩
section
variable {c : Cx} {M : Mem} {H : AH} {n : Nat} {F : Fn} {rest : List Stmt} {P : Fl → Mem → AH → Prop} {f : Addr} {vs : List Value} {args : List Expr} {R : Value → AH → Prop} {X : Str → Prop}
theorem Ev.mC (ok : c.Ok n) {o : Expr} {x : Str} {apos pos : Pos} {C : Cls} {a : Addr} {us : List Value} {Q : Value → AH → Prop} (ho : Pe c M H o (.ref a)) (CO : ClsOk C) (hH : H a = some (.inst C us)) (k : Nat) (hm : C.meths[k]? = some (x, f)) (ha : Pes c M H args vs)
    (sp : FnSpec f n (.ref a :: vs) H R NoX) (h : ∀ v H', R v H' → Q v H') (hb : noCall o = true := by rfl) (hn : noStar args = true := by rfl) (hl : (apos.endLine == pos.line) = true := by rfl) (hw : Nat.ble (args.length + 1) 29 = true := by rfl) : Ev c M H (.Call (.Attribute o x apos) args [] pos) Q :=
  Ev.meth ok ho CO hH (List.mem_of_getElem? hm) hb hn hl (Nat.le_of_ble_eq_true hw) (ha.args (CallJ.fn ok sp h))
theorem Ev.fC (ok : c.Ok n) (I : InFn c F) {x : Str} {p pos : Pos} {Q : Value → AH → Prop} (G : GFn x f) (hk : F.sc.names.lookup x = some .globalImplicit) (ha : Pes c M H args vs)
    (sp : FnSpec f n vs H R NoX) (h : ∀ v H', R v H' → Q v H') (hn : noStar args = true := by rfl) : Ev c M H (.Call (.Name x p) args [] pos) Q :=
  Ev.call ok (Pe.gl ok I G.g hk G.nd) (Solid.ref _) (CW.ref G.kp) hn (ha.args (CallJ.fn ok sp h))
theorem Ev.fX (ok : c.Ok n) (I : InFn c F) {x : Str} {p pos : Pos} {Q : Value → AH → Prop} (G : GFn x f) (hk : F.sc.names.lookup x = some .globalImplicit) (ha : Pes c M H args vs)
    (sp : FnSpec f n vs H R X) (kx : ∀ sym, X sym → c.X sym) (hs : Sub c.HX H) (h : ∀ v H', R v H' → Q v H') (hn : noStar args = true := by rfl) : Ev c M H (.Call (.Name x p) args [] pos) Q :=
  Ev.call ok (Pe.gl ok I G.g hk G.nd) (Solid.ref _) (CW.ref G.kp) hn (ha.args (CallJ.fnX ok sp h kx hs))
theorem Ex.do (I : InFn c F) {e : Expr} {pos : Pos} (h : Ev c M H e fun _ H' => Ex c M H' rest P) (hs : swapsWith e none pos.line c.env = pure false := by rfl) : Ex c M H (.Expr e pos :: rest) P :=
  Ex.expr h hs (by rw [I.env]; unfold interactive Fn.envAt; rw [I.ok.kind]; rfl)
theorem Ex.iteJ {t : Expr} {b1 b2 : List Stmt} {pos : Pos} {b : Bool} (J : AH → Prop) (ht : Pb c M H t b) (h1 : b = true → Ex c M H b1 fun fl M' H' => fl = .next ∧ M' = M ∧ J H') (h2 : b = false → Ex c M H b2 fun fl M' H' => fl = .next ∧ M' = M ∧ J H')
    (k : ∀ H', J H' → Ex c M H' rest P) : Ex c M H (.If t b1 b2 pos :: rest) P :=
  Ex.ite ht (fun hb => (h1 hb).mono fun fl M' H' p => by refine el0_2 p fun z90 z91 j => ?_; rcases z90 with rfl; rcases z91 with rfl; exact k _ j) fun hb => (h2 hb).mono fun fl M' H' p => by refine el0_2 p fun z90 z91 j => ?_; rcases z90 with rfl; rcases z91 with rfl; exact k _ j
end
structure GD where
  r : Int
  gs : Nat
  ge : Nat
  xs : List Int
noncomputable def GD.txt (G : GD) : List Int := G.xs.take G.gs ++ G.xs.drop G.ge
structure GD.ok (G : GD) : Prop where
  le1 : G.gs ≤ G.ge
  le2 : G.ge ≤ G.xs.length
  cap : G.xs.length ≤ 2 ^ 20
  r0 : 0 ≤ G.r
  r1 : G.r ≤ 16
noncomputable abbrev gapO (cl : Addr) (G : GD) : AO := .inst cGap [.int G.r 0, .ref cl, .int G.gs 0, .int G.ge 0]
noncomputable def GapAt (H : AH) (t cl : Addr) (G : GD) : Prop := H t = some (gapO cl G) ∧ H cl = some (.list (intV G.xs))
noncomputable def setG (H : AH) (t cl : Addr) (G : GD) : AH := upd (upd H cl (.list (intV G.xs))) t (gapO cl G)
theorem GD.ok.len {G : GD} (o : G.ok) : G.txt.length = G.xs.length - G.ge + G.gs := gp_len o.le1 o.le2
theorem GapAt.ne {H : AH} {t cl : Addr} {G : GD} (g : GapAt H t cl G) : cl ≠ t := fun q => by have := g.2; rw [q, g.1] at this; cases this
theorem ne_of {H : AH} {a b : Addr} {x y : AO} (ha : H a = some x) (hb : H b = some y) (h : x ≠ y) : a ≠ b := fun q => by subst q; rw [ha] at hb; cases hb; exact h rfl
theorem ne_new {H : AH} {a b : Addr} {x : AO} (ha : H a = some x) (hb : H b = none) : a ≠ b := fun q => by subst q; rw [ha] at hb; cases hb
theorem GapAt.sub {H H' : AH} {t cl : Addr} {G : GD} (g : GapAt H t cl G) (s : Sub H H') : GapAt H' t cl G := ⟨s _ _ g.1, s _ _ g.2⟩
theorem GapAt.set {H : AH} {t cl : Addr} {G : GD} (h : cl ≠ t) : GapAt (setG H t cl G) t cl G := ⟨upd_same _ _ _, by unfold setG; rw [upd_ne h, upd_same]⟩
theorem setG_set {H : AH} {t cl : Addr} {G G' : GD} : Sub (setG H t cl G') (setG (setG H t cl G) t cl G') := fun a o e => by
  unfold setG upd at *
  by_cases q : a = t
  · simpa [q] using e
  · by_cases q' : a = cl
    · simpa [q, q'] using e
    · simpa [q, q'] using e
theorem setG_mono {H H' : AH} {t cl : Addr} {G : GD} (s : Sub H H') : Sub (setG H t cl G) (setG H' t cl G) := fun a o e => by
  unfold setG upd at *
  by_cases q : a = t
  · simpa [q] using e
  · by_cases q' : a = cl
    · simpa [q, q'] using e
    · rw [if_neg q, if_neg q'] at e ⊢; exact s a o e
theorem setG_refl {H : AH} {t cl : Addr} {G : GD} (g : GapAt H t cl G) : Sub (setG H t cl G) H := fun a o e => by
  unfold setG upd at e
  split at e
  · rename_i q; subst q; cases e; exact g.1
  · split at e
    · rename_i q; subst q; cases e; exact g.2
    · exact e
theorem intV_len (xs : List Int) : (intV xs).length = xs.length := List.length_map _
theorem intV_app (xs ys : List Int) : intV (xs ++ ys) = intV xs ++ intV ys := List.map_append
theorem intV_get {xs : List Int} {i : Nat} {v : Int} (h : xs[i]? = some v) : (intV xs)[i]? = some (.int v 0) := by unfold intV; rw [List.getElem?_map, h]; rfl
theorem pick_int {xs : List Int} {l u : Int} {i j : Nat} (hl : l = i) (hu : u = j) (hij : i ≤ j) (hj : j ≤ xs.length) : kms_pick (intV xs) (some l) (some u) = intV ((xs.drop i).take (j - i)) := by
  subst hl hu
  have e1 : kms_lo (some (i : Int)) (intV xs).length = i := by
    rw [intV_len]
    show (if (i : Int) < 0 then xs.length - (-(i : Int)).toNat else min (i : Int).toNat xs.length) = i
    rw [if_neg (by simp), Int.toNat_natCast]; lia
  have e2 : kms_hi (some (j : Int)) (intV xs).length = j := by
    rw [intV_len]
    show (if (j : Int) < 0 then xs.length - (-(j : Int)).toNat else min (j : Int).toNat xs.length) = j
    rw [if_neg (by lia), Int.toNat_natCast]; lia
  unfold kms_pick
  rw [e1, e2]
  unfold intV
  rw [List.map_take, List.map_drop]
theorem spliced_int {xs ys : List Int} {l u : Int} {i j : Nat} (hl : l = i) (hu : u = j) (hij : i ≤ j) (hj : j ≤ xs.length) : spliced' (intV xs) (some l) (some u) (intV ys) = intV (xs.take i ++ ys ++ xs.drop j) := by
  subst hl hu
  have e1 : kms_lo (some (i : Int)) (intV xs).length = i := by
    rw [intV_len]
    show (if (i : Int) < 0 then xs.length - (-(i : Int)).toNat else min (i : Int).toNat xs.length) = i
    rw [if_neg (by lia), Int.toNat_natCast]; lia
  have e2 : kms_hi (some (j : Int)) (intV xs).length = j := by
    rw [intV_len]
    show (if (j : Int) < 0 then xs.length - (-(j : Int)).toNat else min (j : Int).toNat xs.length) = j
    rw [if_neg (by lia), Int.toNat_natCast]; lia
  unfold spliced'
  rw [e1, e2, Nat.max_eq_right hij]
  unfold intV
  rw [List.map_append, List.map_append, List.map_take, List.map_drop]
section
variable {c : Cx} {M : Mem} {H : AH} {n : Nat}
theorem Ev.sliceI (ok : c.Ok n) {o lo hi : Expr} {p pos : Pos} {a : Addr} {xs : List Int} {l u : Int} (i j : Nat) {P : Value → AH → Prop} (ho : Pe c M H o (.ref a)) (ha : H a = some (.list (intV xs))) (hl : Pe c M H lo (.int l 0)) (hu : Pe c M H hi (.int u 0)) (el : l = i) (eu : u = j) (hij : i ≤ j) (hj : j ≤ xs.length) (hz : xs.length ≤ 2 ^ 20)
    (q : ∀ d, H d = none → P (.ref d) (upd H d (.list (intV ((xs.drop i).take (j - i)))))) : Ev c M H (.Subscript o (.Slice (some lo) (some hi) none p) pos) P :=
  Ev.slice ok (l := some l) (u := some u) ho ha hl hu (by rw [intV_len]; unfold sizeLine; exact Nat.le_trans (by assumption) (by decide)) fun d hd => by rw [pick_int el eu hij hj]; exact q d hd
theorem Ex.setSlI (ok : c.Ok n) {rest : List Stmt} {P : Fl → Mem → AH → Prop} {o e lo hi : Expr} {p pos q : Pos} {l u : Int} (i j : Nat) (el : l = i) (eu : u = j) (hij : i ≤ j)
    (h : Ev c M H e fun v H' => ∃ a b xs ys, v = .ref b ∧ Pe c M H' o (.ref a) ∧ Pe c M H' lo (.int l 0) ∧ Pe c M H' hi (.int u 0) ∧ j ≤ xs.length ∧ xs.length + ys.length ≤ 2 ^ 22 ∧ a ≠ b ∧ H' a = some (.list (intV xs)) ∧ H' b = some (.list (intV ys)) ∧ Ex c M (upd H' a (.list (intV (xs.take i ++ ys ++ xs.drop j)))) rest P)
    (hs : swapsWith e (some (.Subscript o (.Slice (some lo) (some hi) none p) q)) pos.line c.env = pure false := by rfl) : Ex c M H (.Assign [.Subscript o (.Slice (some lo) (some hi) none p) q] e pos :: rest) P :=
  Ex.setSl ok (l := some l) (u := some u) (W.mono h fun v M' H' q => el4_9 q.2 fun a b xs ys hv ho hl hu hj hz hab ha hb p => ⟨q.1, a, b, intV xs, intV ys, hv, ho, hl, hu, hab, ha, hb, by rw [intV_len, intV_len]; unfold sizeLine; exact Nat.le_trans (by assumption) (by decide), by rw [spliced_int el eu hij hj]; exact p⟩) hs
theorem CallP.lenI {a : Addr} {xs : List Int} (hH : H a = some (.list (intV xs))) (hb : xs.length ≤ 2 ^ 22) : CallP c M H (.builtin "len") [.ref a] (.int xs.length 0) := by
  have := CallP.len (c := c) (M := M) hH (by rw [intV_len]; exact Nat.lt_of_le_of_lt (by assumption) (by decide))
  rw [intV_len] at this; exact this
theorem len_dt {α : Type} (xs : List α) (i k : Nat) : ((xs.drop i).take k).length ≤ xs.length := Nat.le_trans (List.length_take_le' _ _) (by rw [List.length_drop]; exact Nat.sub_le _ _)
theorem OpJ.catI (ok : c.Ok n) {a b : Addr} {xs ys : List Int} {P : Value → AH → Prop} (ha : H a = some (.list (intV xs))) (hb : H b = some (.list (intV ys))) (hx : xs.length ≤ 2 ^ 22) (hy : ys.length ≤ 2 ^ 22) (p : ∀ d, H d = none → P (.ref d) (upd H d (.list (intV (xs ++ ys))))) : OpJ c M H .Add (.ref a) (.ref b) P :=
  OpJ.cat ok ha hb (by rw [intV_len, intV_len]; unfold sizeLine; lia) fun d hd => by rw [← intV_app]; exact p d hd
theorem Pe.len (ok : c.Ok n) {F : Fn} (I : InFn c F) {e : Expr} {p pos : Pos} {a : Addr} {xs : List Int} (he : Pe c M H e (.ref a)) (hH : H a = some (.list (intV xs))) (hb : xs.length ≤ 2 ^ 22) (hn : noStar [e] = true) (hk : F.sc.names.lookup ("len" : Str) = some .globalImplicit) : Pe c M H (.Call (.Name "len" p) [e] [] pos) (.int xs.length 0) :=
  Pe.call ok (Pe.gb ok I gb_len hk (by decide +kernel)) (Solid.blt _) (CW.blt _) hn (.cons he .nil) (CallP.lenI hH hb)
end
theorem gap_size (n : Nat) {H : AH} {t cl : Addr} {G : GD} (o : G.ok) (g : GapAt H t cl G) : FnSpec 83 (n + 1) [.ref t] H (fun v H' => v = .int G.txt.length 0 ∧ Sub H H') NoX := by
  refine FnSpec.intro (F := F83) F83_ok F83_b1 rfl fun c ok I => ?_
  have se : ∀ {pos}, Pe c [some (.ref t)] H (.Name "self" pos) (.ref t) := Pe.loc ok I 0 rfl rfl
  refine Ex.ret (Pe.ev (v := .int G.txt.length 0) ?_ ⟨rfl, fun _ _ h => h⟩)
  have e : (G.txt.length : Int) = (G.xs.length : Int) - G.ge + G.gs := by rw [o.len, Int.natCast_add, Int.ofNat_sub o.le2]
  rw [e]
  exact Pe.add (Pe.sub (Pe.len ok I (Pe.attr ok cGap_ok 1 se g.1 rfl rfl rfl) g.2 (Nat.le_trans o.cap (by decide)) rfl (by kernel_rfl)) (Pe.attr ok cGap_ok 3 se g.1 rfl rfl rfl)) (Pe.attr ok cGap_ok 2 se g.1 rfl rfl rfl)
theorem gap_code (n : Nat) {H : AH} {t cl : Addr} {G : GD} {i : Nat} {v : Int} (o : G.ok) (g : GapAt H t cl G) (hv : G.txt[i]? = some v) : FnSpec 90 (n + 1) [.ref t, .int i 0] H (fun r H' => r = .int v 0 ∧ Sub H H') NoX := by
  have a1 := o.le1
  have a2 := o.le2
  have a3 := o.cap
  have hi : i < G.xs.length - G.ge + G.gs := o.len ▸ (List.getElem?_eq_some_iff.mp hv).1
  have l1 : (G.xs.take G.gs).length = G.gs := List.length_take_of_le (Nat.le_trans a1 a2)
  refine FnSpec.intro (F := F90) F90_ok F90_b2 rfl fun c ok I => ?_
  have se : ∀ {pos}, Pe c [some (.ref t), some (.int i 0)] H (.Name "self" pos) (.ref t) := Pe.loc ok I 0 rfl rfl
  have at' : ∀ {pos}, Pe c [some (.ref t), some (.int i 0)] H (.Name "at" pos) (.int i 0) := Pe.loc ok I 1 rfl rfl
  unfold GD.txt at hv
  refine Ex.ite (Pb.cmp at' (Pe.attr ok cGap_ok 2 se g.1 rfl rfl rfl) (Cmp.int (op := .Lt) rfl)) (fun hb => ?_) fun hb => Ex.nil ?_
  · have hb : i < G.gs := by simpa [iCmp] using hb
    rw [List.getElem?_append_left (by rw [l1]; exact hb), List.getElem?_take_of_lt hb] at hv
    exact Ex.ret (Pe.ev (Pe.item (k := i) (Pe.attr ok cGap_ok 1 se g.1 rfl rfl rfl) at' g.2 (by exact Int.natCast_nonneg _) (by lia) (intV_get hv)) ⟨rfl, fun _ _ h => h⟩)
  · have hb : G.gs ≤ i := by simpa [iCmp] using hb
    rw [List.getElem?_append_right (by rw [l1]; exact hb), l1, List.getElem?_drop] at hv
    have e : ((i : Int) - G.gs + G.ge).toNat = G.ge + (i - G.gs) := by lia
    exact Ex.ret (Pe.ev (Pe.item (k := i - G.gs + G.ge) (Pe.attr ok cGap_ok 1 se g.1 rfl rfl rfl) (Pe.add (Pe.sub at' (Pe.attr ok cGap_ok 2 se g.1 rfl rfl rfl)) (Pe.attr ok cGap_ok 3 se g.1 rfl rfl rfl)) g.2 (by lia) (by lia) (e ▸ intV_get hv)) ⟨rfl, fun _ _ h => h⟩)
noncomputable def NewI (H : AH) (xs : List Int) (r : Value) (H' : AH) : Prop := ∃ d, r = .ref d ∧ H d = none ∧ Sub (upd H d (.list (intV xs))) H'
theorem gap_codes (n : Nat) {H : AH} {t cl : Addr} {G : GD} {i j : Nat} (o : G.ok) (g : GapAt H t cl G) (hij : i ≤ j) (hj : j ≤ G.txt.length) :
    FnSpec 97 (n + 1) [.ref t, .int i 0, .int j 0] H (NewI H ((G.txt.drop i).take (j - i))) NoX := by
  have a1 := o.le1
  have a2 := o.le2
  have a3 := o.cap
  rw [o.len] at hj
  refine FnSpec.intro (F := F97) F97_ok F97_b3 rfl fun c ok I => ?_
  have v := Pe.vars ok I
  unfold GD.txt
  have q3 : ((G.ge : Int) - G.gs) = ((G.ge - G.gs : Nat) : Int) := (Int.ofNat_sub a1).symm
  refine Ex.let I 3 rfl (Pe.ev (Pe.sub (Pe.attr ok cGap_ok 3 (v 0 rfl rfl) g.1 rfl rfl rfl) (Pe.attr ok cGap_ok 2 (v 0 rfl rfl) g.1 rfl rfl rfl)) ?_)
  rw [q3]
  refine Ex.ite (Pb.cmp (v 2 rfl rfl) (Pe.attr ok cGap_ok 2 (v 0 rfl rfl) g.1 rfl rfl rfl) (Cmp.int (op := .LtE) rfl)) (fun hb => ?_) fun hb => Ex.nil ?_
  · have hb : j ≤ G.gs := by simpa [iCmp] using hb
    rw [gp_pickL hij hb a2 a1]
    exact Ex.ret (Ev.sliceI ok i j (Pe.attr ok cGap_ok 1 (v 0 rfl rfl) g.1 rfl rfl rfl) g.2 (v 1 rfl rfl) (v 2 rfl rfl) rfl rfl hij (Nat.le_trans hb (Nat.le_trans a1 a2)) a3 fun d hd => ⟨d, rfl, hd, fun _ _ h => h⟩)
  · have hb : G.gs < j := by simpa [iCmp] using hb
    refine Ex.ite (Pb.cmp (v 1 rfl rfl) (Pe.attr ok cGap_ok 2 (v 0 rfl rfl) g.1 rfl rfl rfl) (Cmp.int (op := .GtE) rfl)) (fun hc => ?_) fun hc => Ex.nil ?_
    · have hc : G.gs ≤ i := by simpa [iCmp] using hc
      rw [gp_pickR hc a2 a1]
      exact Ex.ret (Ev.sliceI ok (i + (G.ge - G.gs)) (j + (G.ge - G.gs)) (Pe.attr ok cGap_ok 1 (v 0 rfl rfl) g.1 rfl rfl rfl) g.2 (Pe.add (v 1 rfl rfl) (v 3 rfl rfl)) (Pe.add (v 2 rfl rfl) (v 3 rfl rfl)) rfl rfl (by lia) (by lia) a3 fun d hd => ⟨d, rfl, hd, fun _ _ h => h⟩)
    · have hc : i < G.gs := by simpa [iCmp] using hc
      rw [gp_pickM (Nat.le_of_lt hc) (Nat.le_of_lt hb) a2 a1]
      refine Ex.ret (Ev.opJ (Ev.sliceI ok i G.gs (Pe.attr ok cGap_ok 1 (v 0 rfl rfl) g.1 rfl rfl rfl) g.2 (v 1 rfl rfl) (Pe.attr ok cGap_ok 2 (v 0 rfl rfl) g.1 rfl rfl rfl) rfl rfl (Nat.le_of_lt hc) (Nat.le_trans a1 a2) a3 fun d hd => ?_))
      have g' := g.sub (Sub.upd_new (o := .list (intV ((G.xs.drop i).take (G.gs - i)))) hd)
      refine Ev.sliceI ok G.ge (j + (G.ge - G.gs)) (Pe.attr ok cGap_ok 1 (v 0 rfl rfl) g'.1 rfl rfl rfl) g'.2 (Pe.attr ok cGap_ok 3 (v 0 rfl rfl) g'.1 rfl rfl rfl) (Pe.add (v 2 rfl rfl) (v 3 rfl rfl)) rfl rfl (by lia) (by lia) a3 fun d2 hd2 => ?_
      have hne : d ≠ d2 := ne_new (upd_same _ _ _) hd2
      have a4 := Nat.le_trans a3 (by decide : 2 ^ 20 ≤ 2 ^ 22)
      refine OpJ.catI ok (a := d) (b := d2) (by rw [upd_ne hne, upd_same]) (upd_same _ _ _) (Nat.le_trans (len_dt _ _ _) a4) (Nat.le_trans (len_dt _ _ _) a4) fun d3 hd3 => ⟨d3, rfl, ?_, ?_⟩
      · cases q : H d3 with
        | none => rfl
        | some o => rw [Sub.upd_new hd2 _ _ (Sub.upd_new hd _ _ q)] at hd3; cases hd3
      · intro b x z
        by_cases q : b = d3
        · subst q; rw [upd_same] at z ⊢; exact z
        · rw [upd_ne q] at z ⊢
          exact Sub.upd_new hd2 _ _ (Sub.upd_new hd _ _ z)
theorem setG_via {H : AH} {t cl d : Addr} {x y : AO} {G : GD} (hd : H d = none) : Sub (setG H t cl G) (upd (upd (upd (upd H d x) cl (.list (intV G.xs))) t y) t (gapO cl G)) := fun a o e => by
  unfold setG at e
  by_cases q : a = t
  · subst q; rw [upd_same] at e ⊢; exact e
  · rw [upd_ne q] at e ⊢
    rw [upd_ne q]
    by_cases q' : a = cl
    · subst q'; rw [upd_same] at e ⊢; exact e
    · rw [upd_ne q'] at e ⊢
      exact Sub.upd_new hd _ _ e
theorem gap_move (n : Nat) {H : AH} {t cl : Addr} {G : GD} {i : Nat} (o : G.ok) (g : GapAt H t cl G) (hi : i ≤ G.txt.length) :
    FnSpec 104 (n + 1) [.ref t, .int i 0] H (fun r H' => r = .none ∧ ∃ G' : GD, G'.ok ∧ G'.r = G.r ∧ G'.gs = i ∧ G'.xs.length = G.xs.length ∧ G'.txt = G.txt ∧ Sub (setG H t cl G') H') NoX := by
  have a1 := o.le1
  have a2 := o.le2
  have a3 := o.cap
  rw [o.len] at hi
  refine FnSpec.intro (F := F104) F104_ok F104_b2 rfl fun c ok I => ?_
  have v := Pe.vars ok I
  have gne := g.ne
  have a4 := Nat.le_trans a3 (by decide : 2 ^ 20 ≤ 2 ^ 22)
  refine Ex.ite (Pb.cmp (v 1 rfl rfl) (Pe.attr ok cGap_ok 2 (v 0 rfl rfl) g.1 rfl rfl rfl) (Cmp.int (op := .Lt) rfl)) (fun hb => ?_) fun hb => ?_
  · have hb : i < G.gs := by simpa [iCmp] using hb
    have zq := gp_left (xs := G.xs) (Nat.le_of_lt hb) a1 a2; have p1 := zq.1; have p2 := zq.2
    have hy : ((G.xs.drop i).take (G.gs - i)).length = G.gs - i := dt_len (by rw [Nat.add_sub_cancel' (Nat.le_of_lt hb)]; exact Nat.le_trans a1 a2)
    refine Ex.let I 2 rfl (Ev.sliceI ok i G.gs (Pe.attr ok cGap_ok 1 (v 0 rfl rfl) g.1 rfl rfl rfl) g.2 (v 1 rfl rfl) (Pe.attr ok cGap_ok 2 (v 0 rfl rfl) g.1 rfl rfl rfl) rfl rfl (Nat.le_of_lt hb) (Nat.le_trans a1 a2) a3 fun d hd => ?_)
    generalize (G.xs.drop i).take (G.gs - i) = ys at *
    have g1 := g.sub (Sub.upd_new (o := .list (intV ys)) hd)
    have ln : ∀ {M : Mem} {H : AH} {e p pos}, Pe c M H e (.ref d) → H d = some (.list (intV ys)) → noStar [e] = true → Pe c M H (.Call (.Name "len" p) [e] [] pos) (.int ys.length 0) := fun h1 h2 h3 => Pe.len ok I h1 h2 (by lia) h3 (by kernel_rfl)
    have el : (G.ge : Int) - ys.length = ((G.ge - (G.gs - i) : Nat) : Int) := by rw [hy, Int.ofNat_sub (Nat.le_trans (Nat.sub_le _ _) a1)]
    refine Ex.setSlI ok (G.ge - (G.gs - i)) G.ge el rfl (Nat.sub_le _ _) (Pe.ev (v 2 rfl rfl) ⟨cl, d, G.xs, ys, rfl, Pe.attr ok cGap_ok 1 (v 0 rfl rfl) g1.1 rfl rfl rfl, Pe.sub (Pe.attr ok cGap_ok 3 (v 0 rfl rfl) g1.1 rfl rfl rfl) (ln (v 2 rfl rfl) (upd_same _ _ _) rfl), Pe.attr ok cGap_ok 3 (v 0 rfl rfl) g1.1 rfl rfl rfl, a2, by lia, ne_new g.2 hd, g1.2, upd_same _ _ _, ?_⟩)
    have dcl := ne_new g.2 hd
    generalize hz : G.xs.take (G.ge - (G.gs - i)) ++ ys ++ G.xs.drop G.ge = zs at *
    refine Ex.setA ok cGap_ok (by decide) 3 rfl (Pe.ev (Pe.sub (Pe.attr ok cGap_ok 3 (v 0 rfl rfl) (by rw [upd_ne gne.symm]; exact g1.1) rfl rfl rfl) (ln (v 2 rfl rfl) (by rw [upd_ne dcl.symm, upd_same]) rfl)) ⟨rfl, v 0 rfl rfl, _, by rw [upd_ne gne.symm]; exact g1.1, Nat.le_of_ble_eq_true rfl, Ex.nil ?_⟩)
    rw [el]
    refine Ex.setA ok cGap_ok (by decide) 2 rfl (Pe.ev (v 1 rfl rfl) ⟨rfl, v 0 rfl rfl, _, upd_same _ _ _, Nat.le_of_ble_eq_true rfl, Ex.nil ⟨rfl, ⟨G.r, i, G.ge - (G.gs - i), zs⟩, ⟨by show i ≤ G.ge - (G.gs - i); lia, by rw [show (GD.mk G.r i (G.ge - (G.gs - i)) zs).xs.length = G.xs.length from p1]; show G.ge - (G.gs - i) ≤ _; exact Nat.le_trans (Nat.sub_le _ _) a2, by rw [show (GD.mk G.r i (G.ge - (G.gs - i)) zs).xs.length = G.xs.length from p1]; exact a3, o.r0, o.r1⟩, rfl, rfl, p1, p2, setG_via (G := ⟨G.r, i, G.ge - (G.gs - i), zs⟩) hd⟩⟩)
  · have hb : G.gs ≤ i := by simpa [iCmp] using hb
    refine Exists.elim (Nat.exists_eq_add_of_le hb) fun k z91 => ?_; rcases z91 with rfl
    have hk : G.ge + k ≤ G.xs.length := by lia
    have zq := gp_right (xs := G.xs) (k := k) a1 hk; have p1 := zq.1; have p2 := zq.2
    have hy : ((G.xs.drop G.ge).take k).length = k := dt_len hk
    have e1 : (G.ge : Int) + ((G.gs + k : Nat) : Int) - G.gs = ((G.ge + k : Nat) : Int) := by lia
    refine Ex.let I 2 rfl (Ev.sliceI ok G.ge (G.ge + k) (Pe.attr ok cGap_ok 1 (v 0 rfl rfl) g.1 rfl rfl rfl) g.2 (Pe.attr ok cGap_ok 3 (v 0 rfl rfl) g.1 rfl rfl rfl) (Pe.sub (Pe.add (Pe.attr ok cGap_ok 3 (v 0 rfl rfl) g.1 rfl rfl rfl) (v 1 rfl rfl)) (Pe.attr ok cGap_ok 2 (v 0 rfl rfl) g.1 rfl rfl rfl)) rfl e1 (Nat.le_add_right _ _) hk a3 fun d hd => ?_)
    rw [Nat.add_sub_cancel_left]
    generalize (G.xs.drop G.ge).take k = ys at *
    have g1 := g.sub (Sub.upd_new (o := .list (intV ys)) hd)
    have ln : ∀ {M : Mem} {H : AH} {e p pos}, Pe c M H e (.ref d) → H d = some (.list (intV ys)) → noStar [e] = true → Pe c M H (.Call (.Name "len" p) [e] [] pos) (.int ys.length 0) := fun h1 h2 h3 => Pe.len ok I h1 h2 (by lia) h3 (by kernel_rfl)
    refine Ex.setSlI ok G.gs (G.gs + k) rfl (by rw [hy]; rfl) (Nat.le_add_right _ _) (Pe.ev (v 2 rfl rfl) ⟨cl, d, G.xs, ys, rfl, Pe.attr ok cGap_ok 1 (v 0 rfl rfl) g1.1 rfl rfl rfl, Pe.attr ok cGap_ok 2 (v 0 rfl rfl) g1.1 rfl rfl rfl, Pe.add (Pe.attr ok cGap_ok 2 (v 0 rfl rfl) g1.1 rfl rfl rfl) (ln (v 2 rfl rfl) (upd_same _ _ _) rfl), by lia, by lia, ne_new g.2 hd, g1.2, upd_same _ _ _, ?_⟩)
    have dcl := ne_new g.2 hd
    generalize hz : G.xs.take G.gs ++ ys ++ G.xs.drop (G.gs + k) = zs at *
    refine Ex.setA ok cGap_ok (by decide) 3 rfl (Pe.ev (Pe.add (Pe.attr ok cGap_ok 3 (v 0 rfl rfl) (by rw [upd_ne gne.symm]; exact g1.1) rfl rfl rfl) (ln (v 2 rfl rfl) (by rw [upd_ne dcl.symm, upd_same]) rfl)) ⟨rfl, v 0 rfl rfl, _, by rw [upd_ne gne.symm]; exact g1.1, Nat.le_of_ble_eq_true rfl, Ex.nil ?_⟩)
    rw [hy, show (G.ge : Int) + (k : Int) = ((G.ge + k : Nat) : Int) from rfl]
    refine Ex.setA ok cGap_ok (by decide) 2 rfl (Pe.ev (v 1 rfl rfl) ⟨rfl, v 0 rfl rfl, _, upd_same _ _ _, Nat.le_of_ble_eq_true rfl, Ex.nil ⟨rfl, ⟨G.r, G.gs + k, G.ge + k, zs⟩, ⟨Nat.add_le_add_right a1 k, by rw [show (GD.mk G.r (G.gs + k) (G.ge + k) zs).xs.length = G.xs.length from p1]; exact hk, by rw [show (GD.mk G.r (G.gs + k) (G.ge + k) zs).xs.length = G.xs.length from p1]; exact a3, o.r0, o.r1⟩, rfl, rfl, p1, p2, setG_via (G := ⟨G.r, G.gs + k, G.ge + k, zs⟩) hd⟩⟩)
theorem rep_ints (k : Nat) : (List.replicate k [Value.int 0 0]).flatten = intV (List.replicate k 0) := by
  induction k with
  | zero => rfl
  | succ k ih => rw [List.replicate_succ, List.flatten_cons, ih, List.replicate_succ]; rfl
theorem gap_widen (n : Nat) {H : AH} {t cl : Addr} {G : GD} {w : Nat} (o : G.ok) (g : GapAt H t cl G) (hw : G.txt.length + w + 16 ≤ 2 ^ 20) :
    FnSpec 111 (n + 1) [.ref t, .int w 0] H (fun r H' => r = .none ∧ ∃ G' : GD, G'.ok ∧ G'.r = G.r ∧ G'.gs = G.gs ∧ G'.gs + w ≤ G'.ge ∧ G'.txt = G.txt ∧ Sub (setG H t cl G') H') NoX := by
  have a1 := o.le1
  have a2 := o.le2
  have a3 := o.r0
  have a4 := o.r1
  rw [o.len] at hw
  refine FnSpec.intro (F := F111) F111_ok F111_b2 rfl fun c ok I => ?_
  have v := Pe.vars ok I
  have gne := g.ne
  refine Ex.let I 2 rfl (Pe.ev (Pe.sub (v 1 rfl rfl) (Pe.sub (Pe.attr ok cGap_ok 3 (v 0 rfl rfl) g.1 rfl rfl rfl) (Pe.attr ok cGap_ok 2 (v 0 rfl rfl) g.1 rfl rfl rfl))) ?_)
  refine Ex.ite (Pb.cmp (v 2 rfl rfl) Pe.int (Cmp.int (op := .Gt) rfl)) (fun hb => ?_) fun hb => Ex.nil (Ex.nil ?_)
  · have hb : (0 : Int) < (w : Int) - ((G.ge : Int) - G.gs) := by simpa [iCmp] using hb
    obtain ⟨z, hz⟩ : ∃ z : Nat, (w : Int) - ((G.ge : Int) - G.gs) + G.r = z := ⟨((w : Int) - ((G.ge : Int) - G.gs) + G.r).toNat, by lia⟩
    refine Ex.setSlI ok G.ge G.ge rfl rfl (Nat.le_refl _) (Ev.opJ (Ev.list ok rfl (Args.one Pe.int ⟨by decide, fun d hd => ?_⟩)))
    have g1 := g.sub (Sub.upd_new (o := .list [.int 0 0]) hd)
    refine (Pe.add (v 2 rfl rfl) (Pe.attr ok cGap_ok 0 (v 0 rfl rfl) g1.1 rfl rfl rfl)).ev ?_
    rw [hz]
    refine OpJ.rep ok (upd_same _ _ _) (by exact Int.natCast_nonneg _) (by lia) (by rw [Int.toNat_natCast]; show 1 * z ≤ 2 ^ 24; lia) fun d2 hd2 => ?_
    rw [Int.toNat_natCast, rep_ints]
    have g2 := g1.sub (Sub.upd_new (o := .list (intV (List.replicate z 0))) hd2)
    have hl : (List.replicate z (0 : Int)).length = z := List.length_replicate
    have zq := gp_wide (zs := List.replicate z (0 : Int)) a1 a2; have p1 := zq.1; have p2 := zq.2
    rw [hl] at p1 p2
    refine ⟨cl, d2, G.xs, List.replicate z 0, rfl, Pe.attr ok cGap_ok 1 (v 0 rfl rfl) g2.1 rfl rfl rfl, Pe.attr ok cGap_ok 3 (v 0 rfl rfl) g2.1 rfl rfl rfl, Pe.attr ok cGap_ok 3 (v 0 rfl rfl) g2.1 rfl rfl rfl, a2, by rw [hl]; lia, ne_new g1.2 hd2, g2.2, upd_same _ _ _, ?_⟩
    generalize hy : G.xs.take G.ge ++ List.replicate z 0 ++ G.xs.drop G.ge = ys at *
    have ht : (upd (upd (upd H d (.list [.int 0 0])) d2 (.list (intV (List.replicate z 0)))) cl (.list (intV ys))) t = some (gapO cl G) := by rw [upd_ne gne.symm]; exact g2.1
    refine Ex.setA ok cGap_ok (by decide) 3 rfl (Pe.ev (Pe.add (Pe.add (Pe.attr ok cGap_ok 3 (v 0 rfl rfl) ht rfl rfl rfl) (v 2 rfl rfl)) (Pe.attr ok cGap_ok 0 (v 0 rfl rfl) ht rfl rfl rfl)) ⟨rfl, v 0 rfl rfl, _, ht, Nat.le_of_ble_eq_true rfl, Ex.nil (Ex.nil ⟨rfl, ⟨G.r, G.gs, G.ge + z, ys⟩, ⟨by show G.gs ≤ G.ge + z; lia, by show G.ge + z ≤ ys.length; lia, by show ys.length ≤ _; lia, a3, a4⟩, rfl, rfl, by show G.gs + w ≤ G.ge + z; lia, p2, ?_⟩)⟩)
    rw [show (G.ge : Int) + ((w : Int) - ((G.ge : Int) - G.gs)) + G.r = ((G.ge + z : Nat) : Int) by lia]
    exact setG_mono (G := ⟨G.r, G.gs, G.ge + z, ys⟩) (Sub.trans' (Sub.upd_new hd) (Sub.upd_new hd2))
  · have hb : ¬ (0 : Int) < (w : Int) - ((G.ge : Int) - G.gs) := by simpa [iCmp] using hb
    exact ⟨rfl, G, o, rfl, rfl, by lia, rfl, setG_refl g⟩
theorem gap_insert (n : Nat) {H : AH} {t cl d : Addr} {G : GD} {i : Nat} {cs : List Int} (o : G.ok) (g : GapAt H t cl G) (hi : i ≤ G.txt.length) (hw : G.txt.length + cs.length + 16 ≤ 2 ^ 20) (hd : H d = some (.list (intV cs))) (hne : d ≠ cl) :
    FnSpec 118 (n + 2) [.ref t, .int i 0, .ref d] H (fun r H' => r = .none ∧ ∃ G' : GD, G'.ok ∧ G'.r = G.r ∧ G'.txt = G.txt.take i ++ cs ++ G.txt.drop i ∧ Sub (setG H t cl G') H') NoX := by
  refine FnSpec.intro (F := F118) F118_ok F118_b3 rfl fun c ok I => ?_
  have v := Pe.vars ok I
  have gne := g.ne
  have hdt := ne_of hd g.1 (by intro h; cases h)
  have hz : cs.length ≤ 2 ^ 22 := by exact le_w3 (by assumption) (by decide)
  have ln : ∀ {M : Mem} {H : AH} {e p pos}, Pe c M H e (.ref d) → H d = some (.list (intV cs)) → noStar [e] = true → Pe c M H (.Call (.Name "len" p) [e] [] pos) (.int cs.length 0) := fun h1 h2 h3 => Pe.len ok I h1 h2 hz h3 (by kernel_rfl)
  have kd : ∀ {H : AH} {G : GD}, H d = some (.list (intV cs)) → setG H t cl G d = some (.list (intV cs)) := fun h => by unfold setG; rw [upd_ne hdt, upd_ne hne]; exact h
  refine Ex.do I (Ev.mC ok (v 0 rfl rfl) cGap_ok g.1 4 rfl (.cons (ln (v 2 rfl rfl) hd rfl) .nil) (gap_widen n o g hw) fun _ H1 r => ?_)
  have _ := r.1; refine el1_5 r.2 fun G1 o1 r1 s1 w1 t1 u1 => ?_; try clear r
  have g1 := (GapAt.set (H := H) (G := G1) gne).sub u1
  have d1 := u1 _ _ (kd (G := G1) hd)
  rw [← t1] at hi
  refine Ex.do I (Ev.mC ok (v 0 rfl rfl) cGap_ok g1.1 3 rfl (.cons (v 1 rfl rfl) .nil) (gap_move n o1 g1 hi) fun _ H2 r => ?_)
  have _ := r.1; refine el1_5 r.2 fun G2 o2 r2 s2 l2 t2 u2 => ?_; try clear r
  have g2 := (GapAt.set (H := H1) (G := G2) gne).sub u2
  have d2 := u2 _ _ (kd (G := G2) d1)
  have lt : G2.xs.length - G2.ge + G2.gs = G1.xs.length - G1.ge + G1.gs := by rw [← o2.len, ← o1.len, t2]
  have b1 := o1.le1
  have b2 := o1.le2
  have c1 := o2.le1
  have c2 := o2.le2
  have hge : i + cs.length ≤ G2.ge := by lia
  have zq := gp_ins (xs := G2.xs) (ys := cs) (gs := i) hge c2; have p1 := zq.1; have p2 := zq.2
  have e1 : G2.txt = G2.xs.take i ++ G2.xs.drop G2.ge := by unfold GD.txt; rw [s2]
  rw [← e1, t2, t1] at p2
  have c3 := o2.cap
  refine Ex.setSlI ok (u := (i : Int) + cs.length) i (i + cs.length) rfl rfl (Nat.le_add_right _ _) (Pe.ev (v 2 rfl rfl) ⟨cl, d, G2.xs, cs, rfl, Pe.attr ok cGap_ok 1 (v 0 rfl rfl) g2.1 rfl rfl rfl, v 1 rfl rfl, Pe.add (v 1 rfl rfl) (ln (v 2 rfl rfl) d2 rfl), Nat.le_trans hge c2, by lia, hne.symm, g2.2, d2, ?_⟩)
  generalize G2.xs.take i ++ cs ++ G2.xs.drop (i + cs.length) = ys at *
  have ht : (upd H2 cl (.list (intV ys))) t = some (gapO cl G2) := by rw [upd_ne gne.symm]; exact g2.1
  refine Ex.setA ok cGap_ok (by decide) 2 rfl (Pe.ev (Pe.add (v 1 rfl rfl) (ln (v 2 rfl rfl) (by rw [upd_ne hne]; exact d2) rfl)) ⟨rfl, v 0 rfl rfl, _, ht, Nat.le_of_ble_eq_true rfl, Ex.nil ⟨rfl, ⟨G2.r, i + cs.length, G2.ge, ys⟩, ⟨hge, by rw [show (GD.mk G2.r (i + cs.length) G2.ge ys).xs.length = _ from p1]; exact c2, by rw [show (GD.mk G2.r (i + cs.length) G2.ge ys).xs.length = _ from p1]; exact c3, o2.r0, o2.r1⟩, r2.trans r1, p2, ?_⟩⟩)
  exact Sub.trans' (setG_set (G := G2)) (Sub.trans' (setG_mono (Sub.trans' (setG_set (G := G1)) (setG_mono u1))) (setG_mono (G := ⟨G2.r, i + cs.length, G2.ge, ys⟩) u2))
theorem setG_upd {H H1 : AH} {t cl : Addr} {G G' : GD} (u : Sub (setG H t cl G) H1) : Sub (setG H t cl G') (setG H1 t cl G') := Sub.trans' (setG_set (G := G)) (setG_mono u)
theorem gap_delete (n : Nat) {H : AH} {t cl : Addr} {G : GD} {i j : Nat} (o : G.ok) (g : GapAt H t cl G) (hij : i ≤ j) (hj : j ≤ G.txt.length) :
    FnSpec 125 (n + 2) [.ref t, .int i 0, .int j 0] H (fun r H' => ∃ d, ∃ G' : GD, r = .ref d ∧ H d = none ∧ G'.ok ∧ G'.r = G.r ∧ G'.txt = G.txt.take i ++ G.txt.drop j ∧ Sub (setG (upd H d (.list (intV ((G.txt.drop i).take (j - i))))) t cl G') H') NoX := by
  refine FnSpec.intro (F := F125) F125_ok F125_b3 rfl fun c ok I => ?_
  have v := Pe.vars ok I
  have gne := g.ne
  refine Ex.let I 3 rfl (Ev.mC ok (v 0 rfl rfl) cGap_ok g.1 2 rfl (.cons (v 1 rfl rfl) (.cons (v 2 rfl rfl) .nil)) (gap_codes n o g hij hj) fun r H0 h0 => ?_)
  refine el1_2 h0 fun d z91 hd u0 => ?_; rcases z91 with rfl
  generalize hX : upd H d (.list (intV ((G.txt.drop i).take (j - i)))) = X at *
  have gX : GapAt X t cl G := hX ▸ g.sub (Sub.upd_new hd)
  have g0 := gX.sub u0
  refine Ex.iteJ (fun H' => ∃ G1 : GD, G1.ok ∧ G1.r = G.r ∧ G1.gs ≤ j ∧ G1.txt = G.txt ∧ Sub (setG X t cl G1) H') (Pb.cmp (v 2 rfl rfl) (Pe.attr ok cGap_ok 2 (v 0 rfl rfl) g0.1 rfl rfl rfl) (Cmp.int (op := .Lt) rfl)) (fun hb => ?_) (fun hb => ?_) fun H' h => ?_
  · refine Ex.do I (Ev.mC ok (v 0 rfl rfl) cGap_ok g0.1 3 rfl (.cons (v 2 rfl rfl) .nil) (gap_move n o g0 hj) fun _ H1 r => Ex.nil ?_)
    have _ := r.1; refine el1_5 r.2 fun G1 o1 r1 s1 l1 t1 u1 => ?_; try clear r
    exact ⟨rfl, rfl, G1, o1, r1, Nat.le_of_eq s1, t1, Sub.trans' (setG_mono u0) u1⟩
  · have hb : ¬ (j : Int) < G.gs := by simpa [iCmp] using hb
    exact Ex.nil ⟨rfl, rfl, G, o, rfl, by lia, rfl, Sub.trans' (setG_mono u0) (setG_refl g0)⟩
  · refine el1_4 h fun G1 o1 r1 s1 t1 u1 => ?_
    have g1 := (GapAt.set (H := X) (G := G1) gne).sub u1
    refine Ex.iteJ (fun H' => ∃ G2 : GD, G2.ok ∧ G2.r = G.r ∧ i ≤ G2.gs ∧ G2.gs ≤ j ∧ G2.txt = G.txt ∧ Sub (setG X t cl G2) H') (Pb.cmp (v 1 rfl rfl) (Pe.attr ok cGap_ok 2 (v 0 rfl rfl) g1.1 rfl rfl rfl) (Cmp.int (op := .Gt) rfl)) (fun hb => ?_) (fun hb => ?_) fun H' h => ?_
    · refine Ex.do I (Ev.mC ok (v 0 rfl rfl) cGap_ok g1.1 3 rfl (.cons (v 1 rfl rfl) .nil) (gap_move n o1 g1 (t1.symm ▸ Nat.le_trans hij hj)) fun _ H2 r => Ex.nil ?_)
      have _ := r.1; refine el1_5 r.2 fun G2 o2 r2 s2 l2 t2 u2 => ?_; try clear r
      exact ⟨rfl, rfl, G2, o2, r2.trans r1, Nat.le_of_eq s2.symm, s2 ▸ hij, t2.trans t1, Sub.trans' (setG_upd u1) u2⟩
    · have hb : ¬ (G1.gs : Int) < i := by simpa [iCmp] using hb
      exact Ex.nil ⟨rfl, rfl, G1, o1, r1, by lia, s1, t1, u1⟩
    · refine el1_5 h fun G2 o2 r2 s2 s2' t2 u2 => ?_
      have g2 := (GapAt.set (H := X) (G := G2) gne).sub u2
      have c1 := o2.le1
      have c2 := o2.le2
      rw [← t2, o2.len] at hj
      have p2 := gp_del c1 c2 s2 s2' hj
      refine Ex.setA ok cGap_ok (by decide) 3 rfl (Pe.ev (Pe.sub (Pe.add (Pe.attr ok cGap_ok 3 (v 0 rfl rfl) g2.1 rfl rfl rfl) (v 2 rfl rfl)) (Pe.attr ok cGap_ok 2 (v 0 rfl rfl) g2.1 rfl rfl rfl)) ⟨rfl, v 0 rfl rfl, _, g2.1, Nat.le_of_ble_eq_true rfl, ?_⟩)
      rw [show (G2.ge : Int) + j - G2.gs = ((G2.ge + (j - G2.gs) : Nat) : Int) by rw [Int.natCast_add, Int.ofNat_sub s2', Int.add_sub_assoc]]
      refine Ex.setA ok cGap_ok (by decide) 2 rfl (Pe.ev (v 1 rfl rfl) ⟨rfl, v 0 rfl rfl, _, upd_same _ _ _, Nat.le_of_ble_eq_true rfl, ?_⟩)
      refine Ex.ret (Pe.ev (v 3 rfl rfl) ⟨d, ⟨G2.r, i, G2.ge + (j - G2.gs), G2.xs⟩, rfl, hd, ⟨Nat.le_trans s2 (Nat.le_trans c1 (Nat.le_add_right _ _)), by show G2.ge + _ ≤ G2.xs.length; omega, o2.cap, o2.r0, o2.r1⟩, r2, p2.trans (by rw [show G2.xs.take G2.gs ++ G2.xs.drop G2.ge = G2.txt from rfl, t2]), ?_⟩)
      rw [upd_upd]
      intro a x e
      have e' := setG_upd u2 _ _ (hX ▸ e)
      unfold setG at e'
      by_cases q : a = t
      · subst q; rw [upd_same] at e' ⊢; exact e'
      · rw [upd_ne q] at e' ⊢
        by_cases q' : a = cl
        · subst q'; rw [upd_same] at e'; rw [g2.2]; exact e'
        · rw [upd_ne q'] at e'; exact e'
theorem gap_put (n : Nat) {H : AH} {t cl : Addr} {G : GD} {i : Nat} {w : Int} (o : G.ok) (g : GapAt H t cl G) (hi : i < G.txt.length) :
    FnSpec 132 (n + 1) [.ref t, .int i 0, .int w 0] H (fun r H' => r = .none ∧ ∃ G' : GD, G'.ok ∧ G'.r = G.r ∧ G'.txt = G.txt.set i w ∧ Sub (setG H t cl G') H') NoX := by
  have a1 := o.le1
  have a2 := o.le2
  have a3 := o.cap
  rw [o.len] at hi
  refine FnSpec.intro (F := F132) F132_ok F132_b3 rfl fun c ok I => ?_
  have v := Pe.vars ok I
  have pp := gp_put (v := w) (i := i) a1 a2
  obtain ⟨k, hk, hkl, ht⟩ : ∃ k : Nat, (k : Int) = (if i < G.gs then (i : Int) else (i : Int) - G.gs + G.ge) ∧ k < G.xs.length ∧ G.txt.set i w = (G.xs.set k w).take G.gs ++ (G.xs.set k w).drop G.ge := by
    by_cases h : i < G.gs
    · rw [if_pos h] at pp; exact ⟨i, by rw [if_pos h], by lia, pp⟩
    · rw [if_neg h] at pp; exact ⟨i - G.gs + G.ge, by rw [if_neg h]; omega, by omega, pp⟩
  refine Ex.setI ok (Pe.ev (v 2 rfl rfl) ⟨cl, k, intV G.xs, Pe.attr ok cGap_ok 1 (v 0 rfl rfl) g.1 rfl rfl rfl, ?_, by lia, by lia, g.2, by rw [intV_len]; exact Int.ofNat_lt.mpr (by assumption), Ex.nil ⟨rfl, ⟨G.r, G.gs, G.ge, G.xs.set k w⟩, ⟨a1, by rw [show (GD.mk G.r G.gs G.ge (G.xs.set k w)).xs.length = G.xs.length from List.length_set]; exact a2, by rw [show (GD.mk G.r G.gs G.ge (G.xs.set k w)).xs.length = G.xs.length from List.length_set]; exact a3, o.r0, o.r1⟩, rfl, ht.symm, ?_⟩⟩)
  · rw [hk]
    refine Pe.ite (Pb.cmp (v 1 rfl rfl) (Pe.attr ok cGap_ok 2 (v 0 rfl rfl) g.1 rfl rfl rfl) (Cmp.int (op := .Lt) rfl)) (fun hb => ?_) fun hb => ?_
    · have hb : i < G.gs := by simpa [iCmp] using hb
      rw [if_pos hb]; exact v 1 rfl rfl
    · have hb : ¬ i < G.gs := by simpa [iCmp] using hb
      rw [if_neg hb]; exact Pe.add (Pe.sub (v 1 rfl rfl) (Pe.attr ok cGap_ok 2 (v 0 rfl rfl) g.1 rfl rfl rfl)) (Pe.attr ok cGap_ok 3 (v 0 rfl rfl) g.1 rfl rfl rfl)
  · rw [Int.toNat_natCast, show (intV G.xs).set k (.int w 0) = intV (G.xs.set k w) by unfold intV; rw [List.map_set]]
    intro a x e
    unfold setG at e
    by_cases q : a = t
    · subst q; rw [upd_same] at e; rw [upd_ne g.ne.symm, g.1]; exact e
    · rw [upd_ne q] at e; exact e
structure MK where
  num : Int
  a : Addr
  adv : Bool
  pos : Int
noncomputable abbrev mkO (b : Addr) (m : MK) : AO := .inst cMark [.int m.num 0, .bool m.adv, .ref b, .int m.pos 0]
noncomputable abbrev rowsE (l : List MK) : List (Int × Value) := l.map fun m => (m.num, .ref m.a)
noncomputable abbrev nums (l : List MK) : List Int := l.map (·.num)
noncomputable def ments (b ms rw : Addr) (l : List MK) : HL := (ms, .inst cMarks [.ref rw]) :: (rw, .dct (rowsE l)) :: l.map fun m => (m.a, mkO b m)
noncomputable def mv (f : MK → Int) (m : MK) : MK := { m with pos := f m }
theorem ments_keys (b ms rw : Addr) (l : List MK) : ks (ments b ms rw l) = ms :: rw :: l.map (·.a) := by
  unfold ments ks; rw [List.map_cons, List.map_cons, List.map_map]; rfl
theorem ments_ms {H : AH} {b ms rw : Addr} {l : List MK} (h : Has H (ments b ms rw l)) : H ms = some (.inst cMarks [.ref rw]) := h.head
theorem ments_rw {H : AH} {b ms rw : Addr} {l : List MK} (h : Has H (ments b ms rw l)) : H rw = some (.dct (rowsE l)) := h.tail.head
theorem ments_mk {H : AH} {b ms rw : Addr} {l : List MK} (h : Has H (ments b ms rw l)) {m : MK} (hm : m ∈ l) : H m.a = some (mkO b m) := h.tail.tail _ (List.mem_map.mpr ⟨m, hm, rfl⟩)
theorem valueAt_rows {l : List MK} (nd : (nums l).Nodup) {m : MK} (hm : m ∈ l) : PySem.valueAt (rowsE l) m.num = some (.ref m.a) := by
  unfold PySem.valueAt rowsE
  induction l with
  | nil => cases hm
  | cons x r ih =>
    have nd' := List.nodup_cons.mp (show (x.num :: nums r).Nodup from nd)
    rw [List.map_cons, List.find?_cons]
    rcases List.mem_cons.mp hm with rfl | hm
    · simp
    · have ne : ¬ x.num = m.num := fun q => nd'.1 (q ▸ List.mem_map_of_mem hm)
      simp only [ne, decide_false]
      exact ih nd'.2 hm
section
variable {c : Cx} {M : Mem} {H : AH} {n : Nat} {F : Fn} {rest : List Stmt} {P : Fl → Mem → AH → Prop}
noncomputable def upto (f : MK → Int) (S : List Int) (l : List MK) : List MK := l.map fun m => if m.num ∈ S then mv f m else m
theorem upto_num (f : MK → Int) (S : List Int) (l : List MK) : rowsE (upto f S l) = rowsE l := by
  unfold rowsE upto; rw [List.map_map]; refine List.map_congr_left fun m _ => ?_
  show ((if m.num ∈ S then mv f m else m).num, Value.ref (if m.num ∈ S then mv f m else m).a) = _
  split <;> rfl
theorem upto_keys (f : MK → Int) (S : List Int) (l : List MK) (b ms rw : Addr) : ks (ments b ms rw (upto f S l)) = ks (ments b ms rw l) := by
  rw [ments_keys, ments_keys]; unfold upto; rw [List.map_map]; congr 2; refine List.map_congr_left fun m _ => ?_
  show (if m.num ∈ S then mv f m else m).a = _
  split <;> rfl
theorem Ex.marks (ok : c.Ok n) (I : InFn c F) (noX : ∀ sym, ¬ c.X sym) {x : Str} {xp pos : Pos} {iter : Expr} {body : List Stmt} {A : Mem} {u0 w0 : Option Value} {b ms rw : Addr} {l : List MK} (hM : M = A ++ [u0, w0]) (hx : F.vars[A.length]? = some x) (hH : Has H (ments b ms rw l)) (nd : (ks (ments b ms rw l)).Nodup) (nn : (nums l).Nodup) (f : MK → Int)
    (hiter : Ev c M H iter fun v H1 => ∃ d ks, v = .ref d ∧ H d = none ∧ ks.Perm (nums l) ∧ Sub (upd H d (.list (intV ks))) H1)
    (hbody : ∀ w H' l' m, m ∈ l → m ∈ l' → nums l' = nums l → rowsE l' = rowsE l → Has H' (ments b ms rw l') → Ex c (A ++ [some (.int m.num 0), w]) H' body fun fl M4 H4 => fl = .next ∧ (∃ u w, M4 = A ++ [u, w]) ∧ Sub (upd H' m.a (mkO b (mv f m))) H4)
    (k : ∀ u w H', Tr (ments b ms rw l) H (ments b ms rw (l.map (mv f))) H' → Ex c (A ++ [u, w]) H' rest P) (hs : ∀ x, foldedSetIterable iter c.env x = pure x := by intro _; rfl) :
    Ex c M H (.For (.Name x xp) iter body [] pos :: rest) P := by
  refine Ex.forL ok noX (W.mono hiter fun v M1 H1 h => ⟨h.1, ?_⟩) hs
  have _ := h.1; refine el2_3 h.2 fun d ks' rfl' hd hp hsub => ?_; try clear h
  have hH1 : Has H1 (ments b ms rw l) := (hH.sub (Sub.upd_new hd)).sub hsub
  have ndk : ks'.Nodup := hp.nodup_iff.mpr nn
  refine ⟨d, intV ks', ofL (ments b ms rw l), fun i M' H3 => ∃ u w, M' = A ++ [u, w] ∧ H3 = ofL (ments b ms rw (upto f (ks'.take i) l)), rfl', hsub _ _ (upd_same _ _ _), ?_, hH1.ofL, ⟨u0, w0, hM, ?_⟩, ?_, ?_⟩
  · exact ofL_none.mpr fun q => by refine Exists.elim (hH.key q) fun o ho => ?_; rw [hd] at ho; cases ho
  · congr 2
    rw [List.take_zero]; unfold upto; simp
  · rintro i M' H3 H' v hv ⟨u, w, rfl, rfl⟩ hS
    unfold intV at hv
    rw [List.getElem?_map] at hv
    refine el1_1 (Option.map_eq_some_iff.mp hv) fun num hn z92 => ?_; rcases z92 with rfl
    have hmem : num ∈ nums l := hp.mem_iff.mp (List.mem_of_getElem? hn)
    refine el1_1 (List.mem_map.mp hmem) fun m hm z92 => ?_; rcases z92 with rfl
    have hil := (List.getElem?_eq_some_iff.mp hn).1
    have hnot : m.num ∉ ks'.take i := fun q => by
      refine Exists.elim (List.getElem?_of_mem q) fun j hj => ?_
      obtain ⟨hjl, hje⟩ := List.getElem?_eq_some_iff.mp hj
      rw [List.length_take] at hjl
      rw [List.getElem_take] at hje
      have := (List.getElem_inj ndk).mp (hje.trans (List.getElem?_eq_some_iff.mp hn).2.symm)
      lia
    have hm' : m ∈ upto f (ks'.take i) l := List.mem_map.mpr ⟨m, hm, if_neg hnot⟩
    have ndu : (ks (ments b ms rw (upto f (ks'.take i) l))).Nodup := by rw [upto_keys]; exact nd
    have hHu : Has H' (ments b ms rw (upto f (ks'.take i) l)) := ofL_sub hS ndu
    refine Asg.name I A.length hx ?_
    have e : (A ++ [u, w]).set A.length (some (.int m.num 0)) = A ++ [some (.int m.num 0), w] := by
      rw [List.set_append_right _ _ (Nat.le_refl _), Nat.sub_self]; rfl
    rw [e]
    refine (hbody w H' _ m hm hm' (by unfold upto nums; rw [List.map_map]; refine List.map_congr_left fun m _ => ?_; show (if m.num ∈ _ then mv f m else m).num = _; split <;> rfl) (upto_num _ _ _) hHu).mono fun fl M4 H4 p => ?_
    refine el0_2 p fun z90 z91 hs4 => ?_; rcases z90 with rfl; rcases z91 with ⟨u', w', rfl⟩
    refine ⟨ofL (ments b ms rw (upto f (ks'.take (i + 1)) l)), ⟨u', w', rfl, rfl⟩, Tr.toFwd ⟨fun p hp => hs4 _ _ ?_, fun a o n e => ?_⟩⟩
    · have tk : ∀ z, z ∈ ks'.take (i + 1) ↔ z ∈ ks'.take i ∨ z = m.num := fun z => by
        rw [List.take_add_one, hn]; simp
      have am : ∀ a ∈ [ms, rw], a ≠ m.a := fun a ha q => by
        rw [ments_keys] at nd
        have n1 := List.nodup_cons.mp nd
        have n2 := List.nodup_cons.mp n1.2
        simp only [List.mem_cons, List.not_mem_nil, or_false] at ha
        rcases ha with rfl | rfl
        · exact n1.1 (List.mem_cons_of_mem _ (q ▸ List.mem_map_of_mem hm))
        · exact n2.1 (q ▸ List.mem_map_of_mem hm)
      unfold ments at hp
      rcases List.mem_cons.mp hp with rfl | hp
      · rw [upd_ne (am _ (by simp))]; exact ments_ms hHu
      rcases List.mem_cons.mp hp with rfl | hp
      · rw [upd_ne (am _ (by simp))]
        show H' rw = _
        rw [ments_rw hHu, upto_num, upto_num]
      · refine el1_1 (List.mem_map.mp hp) fun m2 hm2 z92 => ?_; rcases z92 with rfl
        refine el1_1 (List.mem_map.mp hm2) fun m1 hm1 z92 => ?_; rcases z92 with rfl
        by_cases q : m1.num = m.num
        · have e1 : m1 = m := by
            refine Exists.elim (List.getElem?_of_mem hm1) fun i1 g1 => ?_
            refine Exists.elim (List.getElem?_of_mem hm) fun i2 g2 => ?_
            obtain ⟨l1, e1⟩ := List.getElem?_eq_some_iff.mp g1
            obtain ⟨l2, e2⟩ := List.getElem?_eq_some_iff.mp g2
            have : (nums l)[i1]'(by unfold nums; rw [List.length_map]; exact l1) = (nums l)[i2]'(by unfold nums; rw [List.length_map]; exact l2) := by unfold nums; rw [List.getElem_map, List.getElem_map, e1, e2, q]
            have := (List.getElem_inj nn).mp this
            subst this; rw [← e1, ← e2]
          subst e1
          rw [if_pos ((tk _).mpr (.inr rfl))]
          exact upd_same _ _ _
        · have ne : m1.a ≠ m.a := fun z => by
            have h1 := ments_mk hH hm1
            have h2 := ments_mk hH hm
            rw [z, h2] at h1
            injection h1 with h1; injection h1 with _ h1; injection h1 with h1; injection h1 with h1
            exact q h1.symm
          by_cases q' : m1.num ∈ ks'.take i
          · rw [if_pos ((tk _).mpr (.inl q'))]
            show upd H' m.a _ m1.a = _
            rw [upd_ne ne]
            exact ments_mk hHu (m := mv f m1) (List.mem_map.mpr ⟨m1, hm1, if_pos q'⟩)
          · rw [if_neg fun z => ((tk _).mp z).elim q' q]
            show upd H' m.a _ m1.a = _
            rw [upd_ne ne]
            exact ments_mk hHu (List.mem_map.mpr ⟨m1, hm1, if_neg q'⟩)
    · rw [upto_keys] at n ⊢
      refine ⟨hs4 _ _ ?_, n⟩
      rw [upd_ne fun q => n (by rw [q, ments_keys]; exact List.mem_cons_of_mem _ (List.mem_cons_of_mem _ (List.mem_map_of_mem hm)))]; exact e
  · rintro M' H3 H' ⟨u, w, rfl, rfl⟩ hF
    refine k u w H' ?_
    have e : upto f (ks'.take (intV ks').length) l = l.map (mv f) := by
      rw [intV_len, List.take_length]
      refine List.map_congr_left fun m hm => if_pos (hp.mem_iff.mpr (List.mem_map_of_mem hm))
    rw [e] at hF
    have ndf : (ks (ments b ms rw (l.map (mv f)))).Nodup := by rw [← e, upto_keys]; exact nd
    exact (Tr.ofFwd ndf hF).from (Sub.trans' (Sub.upd_new hd) hsub)
end
theorem sub_have {H : AH} {a : Addr} {o : AO} (h : H a = some o) : Sub (upd H a o) H := fun b x e => by
  by_cases q : b = a
  · subst q; rw [upd_same] at e; rw [h]; exact e
  · rw [upd_ne q] at e; exact e
noncomputable def fIns (s e : Int) (bf : Bool) (m : MK) : Int := if (iCmp .Gt m.pos s || (iCmp .Eq m.pos s && (bf || m.adv))) = true then m.pos + e - s else m.pos
noncomputable def fDel (s e : Int) (m : MK) : Int := if iCmp .Gt m.pos e = true then m.pos - (e - s) else if iCmp .Gt m.pos s = true then s else m.pos
noncomputable def fRep (s e k : Int) (m : MK) : Int := if iCmp .GtE m.pos e = true then m.pos + k - (e - s) else if iCmp .Gt m.pos s = true then s else m.pos
theorem mark_init (n : Nat) {H : AH} {x : Addr} {num : Int} {adv : Bool} (hx : H x = some (.inst cMark [])) :
    FnSpec 202 (n + 1) [.ref x, .int num 0, .bool adv] H (fun r H' => r = .none ∧ Sub (upd H x (.inst cMark [.int num 0, .bool adv, .none, .int 0 0])) H') NoX := by
  refine FnSpec.intro (F := F202) F202_ok F202_b3 rfl fun c ok I => ?_
  have v := Pe.vars ok I
  refine Ex.setA ok cMark_ok (by decide) 0 rfl (Pe.ev (v 1 rfl rfl) ⟨rfl, v 0 rfl rfl, _, hx, Nat.le_of_ble_eq_true rfl, ?_⟩)
  refine Ex.setA ok cMark_ok (by decide) 1 rfl (Pe.ev (v 2 rfl rfl) ⟨rfl, v 0 rfl rfl, _, upd_same _ _ _, Nat.le_of_ble_eq_true rfl, ?_⟩)
  refine Ex.setA ok cMark_ok (by decide) 2 rfl (Pe.ev Pe.none ⟨rfl, v 0 rfl rfl, _, upd_same _ _ _, Nat.le_of_ble_eq_true rfl, ?_⟩)
  refine Ex.setA ok cMark_ok (by decide) 3 rfl (Pe.ev Pe.int ⟨rfl, v 0 rfl rfl, _, upd_same _ _ _, Nat.le_of_ble_eq_true rfl, Ex.nil ⟨rfl, ?_⟩⟩)
  rw [upd_upd, upd_upd, upd_upd]
  exact Sub.rfl'
theorem marks_init (n : Nat) {H : AH} {x : Addr} (hx : H x = some (.inst cMarks [])) :
    FnSpec 242 (n + 1) [.ref x] H (fun r H' => r = .none ∧ ∃ d, H d = none ∧ Sub (upd (upd H d (.dct [])) x (.inst cMarks [.ref d])) H') NoX := by
  refine FnSpec.intro (F := F242) F242_ok F242_b1 rfl fun c ok I => ?_
  have v := Pe.vars ok I
  exact Ex.setA ok cMarks_ok (by decide) 0 rfl (Ev.dict ok fun d hd => ⟨rfl, v 0 rfl rfl, _, Sub.upd_new hd _ _ hx, Nat.le_of_ble_eq_true rfl, Ex.nil ⟨rfl, d, hd, Sub.rfl'⟩⟩)
theorem marks_numbers (n : Nat) {H : AH} {ms rw : Addr} {es : List (Int × Value)} (h1 : H ms = some (.inst cMarks [.ref rw])) (h2 : H rw = some (.dct es)) (hz : es.length < 64) :
    FnSpec 249 (n + 1) [.ref ms] H (fun r H' => ∃ d ks, r = .ref d ∧ H d = none ∧ ks.Perm (es.map (·.1)) ∧ Sub (upd H d (.list (intV ks))) H') NoX := by
  refine FnSpec.intro (F := F249) F249_ok F249_b1 rfl fun c ok I => ?_
  have v := Pe.vars ok I
  refine Ex.ret (Ev.call ok (Pe.gb ok I gb_sorted (by kernel_rfl) (by decide +kernel)) (Solid.blt _) (CW.blt _) rfl (Pes.args (.cons (Pe.attr ok cMarks_ok 0 (v 0 rfl rfl) h1 rfl rfl rfl) .nil) ?_))
  exact CallJ.ne1 ok h2 fun hm => CallJ.sortedD ok h2 hm hz fun d ks hd hp => ⟨d, ks, rfl, hd, hp, Sub.rfl'⟩
theorem marks_put (n : Nat) {H : AH} {ms rw a : Addr} {es : List (Int × Value)} {num p0 pos : Int} {adv : Bool} {bv : Value} (h1 : H ms = some (.inst cMarks [.ref rw])) (h2 : H rw = some (.dct es)) (hz : es.length ≤ 64) (h3 : H a = some (.inst cMark [.int num 0, .bool adv, bv, .int p0 0])) :
    FnSpec 256 (n + 1) [.ref ms, .ref a, .int pos 0] H (fun r H' => r = .none ∧ Sub (upd (upd H rw (.dct (PySem.stored es num (.ref a)))) a (.inst cMark [.int num 0, .bool adv, bv, .int pos 0])) H') NoX := by
  refine FnSpec.intro (F := F256) F256_ok F256_b3 rfl fun c ok I => ?_
  have v := Pe.vars ok I
  have ne := ne_of h3 h2 (by intro h; cases h)
  refine Ex.setD ok (Pe.ev (v 1 rfl rfl) ⟨rw, num, es, Pe.attr ok cMarks_ok 0 (v 0 rfl rfl) h1 rfl rfl rfl, Pe.attr ok cMark_ok 0 (v 1 rfl rfl) h3 rfl rfl rfl, h2, Nat.le_trans hz (by decide), ?_⟩)
  exact Ex.setA ok cMark_ok (by decide) 3 rfl (Pe.ev (v 2 rfl rfl) ⟨rfl, v 1 rfl rfl, _, by rw [upd_ne ne]; exact h3, Nat.le_of_ble_eq_true rfl, Ex.nil ⟨rfl, Sub.rfl'⟩⟩)
theorem without_absent : ∀ {es : List (Int × Value)} {k : Int}, (PySem.valueAt es k).isSome = false → PySem.without es k = es := fun {es k} h => by
  unfold PySem.without PySem.valueAt at *
  rw [List.filter_eq_self]
  intro p hp
  simp only [Option.isSome_map, Option.isSome_eq_false_iff, Option.isNone_iff_eq_none, List.find?_eq_none] at h
  simpa using h p hp
theorem marks_drop (n : Nat) {H : AH} {ms rw a : Addr} {es : List (Int × Value)} {num : Int} {us : List Value} (h1 : H ms = some (.inst cMarks [.ref rw])) (h2 : H rw = some (.dct es)) (hz : es.length ≤ 64) (h3 : H a = some (.inst cMark (.int num 0 :: us))) :
    FnSpec 263 (n + 1) [.ref ms, .ref a] H (fun r H' => r = .none ∧ Sub (upd H rw (.dct (PySem.without es num))) H') NoX := by
  refine FnSpec.intro (F := F263) F263_ok F263_b2 rfl fun c ok I => ?_
  have v := Pe.vars ok I
  refine Ex.ite (Pb.cmp (Pe.attr ok cMark_ok 0 (v 1 rfl rfl) h3 rfl rfl rfl) (Pe.attr ok cMarks_ok 0 (v 0 rfl rfl) h1 rfl rfl rfl) (Cmp.ne1 ok h2 fun hm => Cmp.inD h2 hm)) (fun hb => ?_) fun hb => Ex.nil (Ex.nil ⟨rfl, ?_⟩)
  · refine Exists.elim (Option.isSome_iff_exists.mp hb) fun w hw => ?_
    exact Ex.do I (Ev.methD ok PySem.F.slot_dict_pop (by rfl) (Pe.attr ok cMarks_ok 0 (v 0 rfl rfl) h1 rfl rfl rfl) h2 rfl rfl rfl (by decide) (Pes.args (.cons (Pe.attr ok cMark_ok 0 (v 1 rfl rfl) h3 rfl rfl rfl) .nil) (CallJ.popD ok h2 hw (Nat.le_trans hz (by decide)) (Ex.nil (Ex.nil ⟨rfl, Sub.rfl'⟩)))))
  · rw [without_absent hb]; exact sub_have h2
section
variable {c : Cx} {M : Mem} {H : AH} {n : Nat} {F : Fn}
theorem numbers_ev (ok : c.Ok (n + 1)) {b ms rw : Addr} {l : List MK} (hH : Has H (ments b ms rw l)) (hz : l.length < 64) {o : Expr} {apos pos : Pos} (ho : Pe c M H o (.ref ms)) (hb : noCall o = true := by rfl) (hl : (apos.endLine == pos.line) = true := by rfl) :
    Ev c M H (.Call (.Attribute o "numbers" apos) [] [] pos) fun v H1 => ∃ d ks, v = .ref d ∧ H d = none ∧ ks.Perm (nums l) ∧ Sub (upd H d (.list (intV ks))) H1 :=
  Ev.mC ok ho cMarks_ok (ments_ms hH) 0 rfl .nil (marks_numbers n (ments_ms hH) (ments_rw hH) (by unfold rowsE; rw [List.length_map]; exact hz)) (fun v H' ⟨d, ks, a, b, p, e⟩ => ⟨d, ks, a, b, by unfold rowsE at p; rw [List.map_map] at p; exact p, e⟩) hb rfl hl rfl
end
theorem marks_inserted (n : Nat) {H : AH} {b ms rw : Addr} {l : List MK} {s e : Int} {bf : Bool} (hH : Has H (ments b ms rw l)) (nd : (ks (ments b ms rw l)).Nodup) (nn : (nums l).Nodup) (hz : l.length < 64) :
    FnSpec 277 (n + 2) [.ref ms, .int s 0, .int e 0, .bool bf] H (fun r H' => r = .none ∧ Tr (ments b ms rw l) H (ments b ms rw (l.map (mv (fIns s e bf)))) H') NoX := by
  refine FnSpec.introX (F := F277) F277_ok F277_b4 rfl fun c ok I hX _ => ?_
  have v := Pe.vars ok I
  refine Ex.marks ok I (fun sym => by rw [hX]; exact id) (A := [some (.ref ms), some (.int s 0), some (.int e 0), some (.bool bf)]) rfl rfl hH nd nn (fIns s e bf) (numbers_ev ok hH hz (v 0 rfl rfl)) (fun w H' l' m hm hm' hnum hrow hH' => ?_) fun u w H' T => Ex.nil ⟨rfl, T⟩
  refine Ex.let I 5 rfl (Pe.ev (Pe.itemD (v := .ref m.a) (Pe.attr ok cMarks_ok 0 (v 0 rfl rfl) (ments_ms hH') rfl rfl rfl) (v 4 rfl rfl) (ments_rw hH') (by rw [hrow]; exact valueAt_rows nn hm)) ?_)
  have hmk := ments_mk hH' hm'
  refine Ex.ite (Pb.or (Pb.cmp (Pe.attr ok cMark_ok 3 (v 5 rfl rfl) hmk rfl rfl rfl) (v 1 rfl rfl) (Cmp.int (op := .Gt) rfl)) fun _ => Pb.and (Pb.cmp (Pe.attr ok cMark_ok 3 (v 5 rfl rfl) hmk rfl rfl rfl) (v 1 rfl rfl) (Cmp.int (op := .Eq) rfl)) fun _ => Pb.or (Pb.val (v 3 rfl rfl)) fun _ => Pb.val (Pe.attr ok cMark_ok 1 (v 5 rfl rfl) hmk rfl rfl rfl)) (fun hb => ?_) fun hb => Ex.nil (Ex.nil ⟨rfl, ⟨_, _, rfl⟩, ?_⟩)
  · refine Ex.setA ok cMark_ok (by decide) 3 rfl (Pe.ev (Pe.sub (Pe.add (Pe.attr ok cMark_ok 3 (v 5 rfl rfl) hmk rfl rfl rfl) (v 2 rfl rfl)) (v 1 rfl rfl)) ⟨rfl, v 5 rfl rfl, _, hmk, Nat.le_of_ble_eq_true rfl, Ex.nil (Ex.nil ⟨rfl, ⟨_, _, rfl⟩, ?_⟩)⟩)
    rw [show mv (fIns s e bf) m = { m with pos := m.pos + e - s } by unfold mv fIns; rw [if_pos hb]]
    exact Sub.rfl'
  · rw [show mv (fIns s e bf) m = m by unfold mv fIns; rw [if_neg (by rw [hb]; decide)]]
    exact sub_have hmk
theorem marks_deleted (n : Nat) {H : AH} {b ms rw : Addr} {l : List MK} {s e : Int} (hH : Has H (ments b ms rw l)) (nd : (ks (ments b ms rw l)).Nodup) (nn : (nums l).Nodup) (hz : l.length < 64) :
    FnSpec 284 (n + 2) [.ref ms, .int s 0, .int e 0] H (fun r H' => r = .none ∧ Tr (ments b ms rw l) H (ments b ms rw (l.map (mv (fDel s e)))) H') NoX := by
  refine FnSpec.introX (F := F284) F284_ok F284_b3 rfl fun c ok I hX _ => ?_
  have v := Pe.vars ok I
  refine Ex.marks ok I (fun sym => by rw [hX]; exact id) (A := [some (.ref ms), some (.int s 0), some (.int e 0)]) rfl rfl hH nd nn (fDel s e) (numbers_ev ok hH hz (v 0 rfl rfl)) (fun w H' l' m hm hm' hnum hrow hH' => ?_) fun u w H' T => Ex.nil ⟨rfl, T⟩
  refine Ex.let I 4 rfl (Pe.ev (Pe.itemD (v := .ref m.a) (Pe.attr ok cMarks_ok 0 (v 0 rfl rfl) (ments_ms hH') rfl rfl rfl) (v 3 rfl rfl) (ments_rw hH') (by rw [hrow]; exact valueAt_rows nn hm)) ?_)
  have hmk := ments_mk hH' hm'
  refine Ex.ite (Pb.cmp (Pe.attr ok cMark_ok 3 (v 4 rfl rfl) hmk rfl rfl rfl) (v 2 rfl rfl) (Cmp.int (op := .Gt) rfl)) (fun hb => ?_) fun hb => ?_
  · refine Ex.setA ok cMark_ok (by decide) 3 rfl (Pe.ev (Pe.sub (Pe.attr ok cMark_ok 3 (v 4 rfl rfl) hmk rfl rfl rfl) (Pe.sub (v 2 rfl rfl) (v 1 rfl rfl))) ⟨rfl, v 4 rfl rfl, _, hmk, Nat.le_of_ble_eq_true rfl, Ex.nil (Ex.nil ⟨rfl, ⟨_, _, rfl⟩, ?_⟩)⟩)
    rw [show mv (fDel s e) m = { m with pos := m.pos - (e - s) } by unfold mv fDel; rw [if_pos hb]]
    exact Sub.rfl'
  · refine Ex.ite (Pb.cmp (Pe.attr ok cMark_ok 3 (v 4 rfl rfl) hmk rfl rfl rfl) (v 1 rfl rfl) (Cmp.int (op := .Gt) rfl)) (fun hc => ?_) fun hc => Ex.nil (Ex.nil (Ex.nil ⟨rfl, ⟨_, _, rfl⟩, ?_⟩))
    · refine Ex.setA ok cMark_ok (by decide) 3 rfl (Pe.ev (v 1 rfl rfl) ⟨rfl, v 4 rfl rfl, _, hmk, Nat.le_of_ble_eq_true rfl, Ex.nil (Ex.nil (Ex.nil ⟨rfl, ⟨_, _, rfl⟩, ?_⟩))⟩)
      rw [show mv (fDel s e) m = { m with pos := s } by unfold mv fDel; rw [if_neg (by rw [hb]; decide), if_pos hc]]
      exact Sub.rfl'
    · rw [show mv (fDel s e) m = m by unfold mv fDel; rw [if_neg (by rw [hb]; decide), if_neg (by rw [hc]; decide)]]
      exact sub_have hmk
theorem marks_replaced (n : Nat) {H : AH} {b ms rw : Addr} {l : List MK} {s e k : Int} (hH : Has H (ments b ms rw l)) (nd : (ks (ments b ms rw l)).Nodup) (nn : (nums l).Nodup) (hz : l.length < 64) :
    FnSpec 291 (n + 2) [.ref ms, .int s 0, .int e 0, .int k 0] H (fun r H' => r = .none ∧ Tr (ments b ms rw l) H (ments b ms rw (l.map (mv (fRep s e k)))) H') NoX := by
  refine FnSpec.introX (F := F291) F291_ok F291_b4 rfl fun c ok I hX _ => ?_
  have v := Pe.vars ok I
  refine Ex.marks ok I (fun sym => by rw [hX]; exact id) (A := [some (.ref ms), some (.int s 0), some (.int e 0), some (.int k 0)]) rfl rfl hH nd nn (fRep s e k) (numbers_ev ok hH hz (v 0 rfl rfl)) (fun w H' l' m hm hm' hnum hrow hH' => ?_) fun u w H' T => Ex.nil ⟨rfl, T⟩
  refine Ex.let I 5 rfl (Pe.ev (Pe.itemD (v := .ref m.a) (Pe.attr ok cMarks_ok 0 (v 0 rfl rfl) (ments_ms hH') rfl rfl rfl) (v 4 rfl rfl) (ments_rw hH') (by rw [hrow]; exact valueAt_rows nn hm)) ?_)
  have hmk := ments_mk hH' hm'
  refine Ex.ite (Pb.cmp (Pe.attr ok cMark_ok 3 (v 5 rfl rfl) hmk rfl rfl rfl) (v 2 rfl rfl) (Cmp.int (op := .GtE) rfl)) (fun hb => ?_) fun hb => ?_
  · refine Ex.setA ok cMark_ok (by decide) 3 rfl (Pe.ev (Pe.sub (Pe.add (Pe.attr ok cMark_ok 3 (v 5 rfl rfl) hmk rfl rfl rfl) (v 3 rfl rfl)) (Pe.sub (v 2 rfl rfl) (v 1 rfl rfl))) ⟨rfl, v 5 rfl rfl, _, hmk, Nat.le_of_ble_eq_true rfl, Ex.nil (Ex.nil ⟨rfl, ⟨_, _, rfl⟩, ?_⟩)⟩)
    rw [show mv (fRep s e k) m = { m with pos := m.pos + k - (e - s) } by unfold mv fRep; rw [if_pos hb]]
    exact Sub.rfl'
  · refine Ex.ite (Pb.cmp (Pe.attr ok cMark_ok 3 (v 5 rfl rfl) hmk rfl rfl rfl) (v 1 rfl rfl) (Cmp.int (op := .Gt) rfl)) (fun hc => ?_) fun hc => Ex.nil (Ex.nil (Ex.nil ⟨rfl, ⟨_, _, rfl⟩, ?_⟩))
    · refine Ex.setA ok cMark_ok (by decide) 3 rfl (Pe.ev (v 1 rfl rfl) ⟨rfl, v 5 rfl rfl, _, hmk, Nat.le_of_ble_eq_true rfl, Ex.nil (Ex.nil (Ex.nil ⟨rfl, ⟨_, _, rfl⟩, ?_⟩))⟩)
      rw [show mv (fRep s e k) m = { m with pos := s } by unfold mv fRep; rw [if_neg (by rw [hb]; decide), if_pos hc]]
      exact Sub.rfl'
    · rw [show mv (fRep s e k) m = m by unfold mv fRep; rw [if_neg (by rw [hb]; decide), if_neg (by rw [hc]; decide)]]
      exact sub_have hmk
structure BD where
  t : Addr
  cl : Addr
  ls : Addr
  ms : Addr
  rw : Addr
  num : Int
  nm : Str
  g : GD
  pt : Int
  begv : Int
  zv : Int
  mark : Option Addr
  tk : Int
  ck : Int
  mks : List MK
noncomputable def refO : Option Addr → Value
  | none => .none
  | some a => .ref a
noncomputable abbrev bufO (B : BD) : AO := .inst cBuf [.int B.num 0, .str B.nm 0, .ref B.t, .ref B.ms, .int B.pt 0, .int B.begv 0, .int B.zv 0, refO B.mark, .bool true, .bool false, .int B.tk 0, .int B.ck 0, .int 1 0, .ref B.ls, .none, .none, .none, .none, .none, .none]
noncomputable def ents (b : Addr) (B : BD) : HL := (b, bufO B) :: (B.t, gapO B.cl B.g) :: (B.cl, .list (intV B.g.xs)) :: (B.ls, .list []) :: ments b B.ms B.rw B.mks
structure PB where
  txt : List Int
  pt : Int
  begv : Int
  zv : Int
  obs : Nat → Option (Bool × Int)
noncomputable def obsOf (l : List MK) (k : Nat) : Option (Bool × Int) := (l.find? fun m => decide (m.num = (k : Int))).map fun m => (m.adv, m.pos)
noncomputable def BD.p (B : BD) : PB := ⟨B.g.txt, B.pt, B.begv, B.zv, obsOf B.mks⟩
structure BD.ok (B : BD) (b : Addr) : Prop where
  nd : (ks (ents b B)).Nodup
  nn : (nums B.mks).Nodup
  few : B.mks.length < 40
  g : B.g.ok
  mark : B.mark = (B.mks.find? fun m => decide (m.num = 0)).map (·.a)
noncomputable def BD.ids (B : BD) : List (Int × Addr × Bool) := B.mks.map fun m => (m.num, m.a, m.adv)
structure Step (b : Addr) (H : AH) (B : BD) (H' : AH) (B' : BD) : Prop where
  ok : B'.ok b
  tr : Tr (ents b B) H (ents b B') H'
  ids : B'.ids = B.ids
theorem Step.has {b : Addr} {H H' : AH} {B B' : BD} (s : Step b H B H' B') : Has H' (ents b B') := s.tr.1
theorem Step.trans {b : Addr} {H H1 H2 : AH} {B B1 B2 : BD} (x : Step b H B H1 B1) (y : Step b H1 B1 H2 B2) : Step b H B H2 B2 := ⟨y.ok, x.tr.trans y.tr, y.ids.trans x.ids⟩
theorem Step.refl {b : Addr} {H : AH} {B : BD} (h : Has H (ents b B)) (o : B.ok b) : Step b H B H B := ⟨o, Tr.refl h, rfl⟩
theorem Step.more {b : Addr} {H H' H'' : AH} {B B' : BD} (x : Step b H B H' B') (s : Sub H' H'') : Step b H B H'' B' := ⟨x.ok, x.tr.more s, x.ids⟩
theorem Step.from {b : Addr} {K H H' : AH} {B B' : BD} (x : Step b H B H' B') (s : Sub K H) : Step b K B H' B' := ⟨x.ok, x.tr.from s, x.ids⟩
theorem Step.keep {b : Addr} {H H' : AH} {B B' : BD} (x : Step b H B H' B') {a : Addr} {o : AO} (h : H a = some o) (n : a ∉ ks (ents b B)) : H' a = some o ∧ a ∉ ks (ents b B') := x.tr.2 a o n h
section
variable {b : Addr} {H : AH} {B : BD}
theorem eb (h : Has H (ents b B)) : H b = some (bufO B) := h.head
theorem eg (h : Has H (ents b B)) : GapAt H B.t B.cl B.g := ⟨h.tail.head, h.tail.tail.head⟩
theorem el (h : Has H (ents b B)) : H B.ls = some (.list []) := h.tail.tail.tail.head
theorem em (h : Has H (ents b B)) : Has H (ments b B.ms B.rw B.mks) := h.tail.tail.tail.tail
theorem ents_keys : ks (ents b B) = b :: B.t :: B.cl :: B.ls :: B.ms :: B.rw :: B.mks.map (·.a) := by
  unfold ents
  show b :: B.t :: B.cl :: B.ls :: ks (ments b B.ms B.rw B.mks) = _
  rw [ments_keys]
theorem BD.ok.ndm (o : B.ok b) : (ks (ments b B.ms B.rw B.mks)).Nodup := by
  have := o.nd
  rw [ents_keys] at this
  rw [ments_keys]
  exact (List.nodup_cons.mp (List.nodup_cons.mp (List.nodup_cons.mp (List.nodup_cons.mp this).2).2).2).2
theorem Step.buf (h : Has H (ents b B)) (o : B.ok b) (pt begv zv tk ck : Int) : Step b H B (upd H b (bufO { B with pt := pt, begv := begv, zv := zv, tk := tk, ck := ck })) { B with pt := pt, begv := begv, zv := zv, tk := tk, ck := ck } :=
  ⟨⟨o.nd, o.nn, o.few, o.g, o.mark⟩, (Tr.refl h).turn rfl (List.nodup_cons.mp o.nd).1, rfl⟩
theorem Step.gap (h : Has H (ents b B)) (o : B.ok b) {G : GD} (og : G.ok) {H' : AH} (s : Sub (setG H B.t B.cl G) H') : Step b H B H' { B with g := G } := by
  have nd := o.nd
  rw [ents_keys] at nd
  have n1 := List.nodup_cons.mp nd
  have n2 := List.nodup_cons.mp n1.2
  have n3 := List.nodup_cons.mp n2.2
  refine ⟨⟨o.nd, o.nn, o.few, og, o.mark⟩, Tr.more ?_ s, rfl⟩
  have ne1 : b ≠ B.t := fun q => n1.1 (q ▸ List.mem_cons_self)
  have ne2 : b ≠ B.cl := fun q => n1.1 (q ▸ List.mem_cons_of_mem _ List.mem_cons_self)
  have ne3 : B.cl ≠ B.t := fun q => n2.1 (q ▸ List.mem_cons_self)
  refine ⟨Has.cons ?_ (Has.cons (upd_same _ _ _) (Has.cons ?_ fun p hp => ?_)), fun a x n e => ⟨?_, n⟩⟩
  · unfold setG; rw [upd_ne ne1, upd_ne ne2]; exact h.head
  · unfold setG; rw [upd_ne ne3, upd_same]
  · have hk : p.1 ∈ ks ((B.ls, AO.list []) :: ments b B.ms B.rw B.mks) := List.mem_map_of_mem hp
    have hk' : p.1 ∈ B.ls :: B.ms :: B.rw :: B.mks.map (·.a) := by rw [← ments_keys b]; exact hk
    have q1 : p.1 ≠ B.t := fun q => n2.1 (q ▸ List.mem_cons_of_mem _ hk')
    have q2 : p.1 ≠ B.cl := fun q => n3.1 (q ▸ hk')
    unfold setG; rw [upd_ne q1, upd_ne q2]; exact h.tail.tail.tail p hp
  · have n' : a ∉ b :: B.t :: B.cl :: B.ls :: B.ms :: B.rw :: B.mks.map (·.a) := by rw [← ents_keys]; exact n
    have q1 : a ≠ B.t := fun q => n' (by rw [q]; exact List.mem_cons_of_mem _ List.mem_cons_self)
    have q2 : a ≠ B.cl := fun q => n' (by rw [q]; exact List.mem_cons_of_mem _ (List.mem_cons_of_mem _ List.mem_cons_self))
    unfold setG; rw [upd_ne q1, upd_ne q2]; exact e
theorem find_mv (f : MK → Int) (k : Int) : ∀ l : List MK, (l.map (mv f)).find? (fun m => decide (m.num = k)) = (l.find? fun m => decide (m.num = k)).map (mv f) := fun l => by
  rw [List.find?_map]; rfl
theorem Step.mks (h : Has H (ents b B)) (o : B.ok b) {f : MK → Int} {H' : AH} (s : Tr (ments b B.ms B.rw B.mks) H (ments b B.ms B.rw (B.mks.map (mv f))) H') : Step b H B H' { B with mks := B.mks.map (mv f) } := by
  have hk : (B.mks.map (mv f)).map (·.a) = B.mks.map (·.a) := by rw [List.map_map]; rfl
  have hk2 : ks (ents b { B with mks := B.mks.map (mv f) }) = ks (ents b B) := by
    rw [ents_keys, ents_keys]
    show b :: B.t :: B.cl :: B.ls :: B.ms :: B.rw :: (B.mks.map (mv f)).map (·.a) = _
    rw [hk]
  refine ⟨⟨by rw [hk2]; exact o.nd, ?_, ?_, o.g, ?_⟩, ?_, ?_⟩
  · show ((B.mks.map (mv f)).map (·.num)).Nodup
    rw [List.map_map]; exact o.nn
  · show (B.mks.map (mv f)).length < 40
    rw [List.length_map]; exact o.few
  · show B.mark = ((B.mks.map (mv f)).find? _).map (·.a)
    rw [find_mv, Option.map_map]; exact o.mark
  · have nd := o.nd
    rw [ents_keys] at nd
    have f1 : Has H [(b, bufO B), (B.t, gapO B.cl B.g), (B.cl, .list (intV B.g.xs)), (B.ls, .list [])] := h.of fun p hp => by
      unfold ents
      simp only [List.mem_cons, List.not_mem_nil, or_false] at hp ⊢
      rcases hp with h | h | h | h <;> simp [h]
    have t := s.frame f1 fun a ha q => by
      rw [ments_keys] at q
      exact (List.nodup_append.mp (show ([b, B.t, B.cl, B.ls] ++ (B.ms :: B.rw :: B.mks.map (·.a))).Nodup from nd)).2.2 a ha a q rfl
    exact (t.perm List.perm_append_comm).permL List.perm_append_comm
  · show (B.mks.map (mv f)).map (fun m => (m.num, m.a, m.adv)) = _
    rw [List.map_map]; rfl
end
noncomputable abbrev bufL (B : BD) : List Value := [.int B.num 0, .str B.nm 0, .ref B.t, .ref B.ms, .int B.pt 0, .int B.begv 0, .int B.zv 0, refO B.mark, .bool true, .bool false, .int B.tk 0, .int B.ck 0, .int 1 0, .ref B.ls, .none, .none, .none, .none, .none, .none]
section
variable {c : Cx} {M : Mem} {H : AH} {n : Nat} {F : Fn} {rest : List Stmt} {P : Fl → Mem → AH → Prop} {b : Addr} {B : BD}
theorem Pe.ba (ok : c.Ok n) (k : Nat) {o : Expr} {x : Str} {v : Value} {pos} (h : Has H (ents b B)) (ho : Pe c M H o (.ref b)) (hx : cBuf.lay[k]? = some x) (hi : (bufL B)[k]? = some v) (hb : noCall o = true := by rfl) : Pe c M H (.Attribute o x pos) v := Pe.attr ok cBuf_ok k ho (eb h) hx hi hb
theorem Ex.setB (ok : c.Ok n) (k : Nat) (B' : BD) {o e : Expr} {x : Str} {v : Value} {pos q : Pos} (h : Has H (ents b B)) (okB : B.ok b) (hx : cBuf.lay[k]? = some x) (he : Pe c M H e v) (ho : Pe c M H o (.ref b)) (hv : okV v = true) (hB : bufL B' = putV (bufL B) k v) (hs : B' = { B with pt := B'.pt, begv := B'.begv, zv := B'.zv, tk := B'.tk, ck := B'.ck })
    (hk : Nat.ble k 20 = true) (cont : ∀ H', Step b H B H' B' → Ex c M H' rest P) (hsw : swapsWith e (some (.Attribute o x q)) pos.line c.env = pure false := by rfl) : Ex c M H (.Assign [.Attribute o x q] e pos :: rest) P := by
  refine Ex.setA ok cBuf_ok (by decide) k hx (Pe.ev he ⟨hv, ho, _, eb h, Nat.le_of_ble_eq_true hk, ?_⟩) hsw
  refine cont _ ?_
  have s := Step.buf h okB B'.pt B'.begv B'.zv B'.tk B'.ck
  rw [← hs] at s
  have e : bufO B' = .inst cBuf (putV (bufL B) k v) := congrArg (AO.inst cBuf) hB
  rw [e] at s
  exact s
theorem Ex.forNil (ok : c.Ok n) (noX : ∀ sym, ¬ c.X sym) {tgt : Expr} {pos : Pos} {iter : Expr} {body : List Stmt} (h : Ev c M H iter fun v H1 => ∃ l, v = .ref l ∧ H1 l = some (.list []) ∧ ∀ H', Sub H1 H' → Ex c M H' rest P) (hs : ∀ x, foldedSetIterable iter c.env x = pure x := by intro _; rfl) : Ex c M H (.For tgt iter body [] pos :: rest) P :=
  Ex.forL ok noX (W.mono h fun v M1 H1 ⟨hm, l, hv, hl, k⟩ => ⟨hm, l, [], fun _ => none, fun _ M' H3 => M' = M ∧ H3 = fun _ => none, hv, hl, rfl, (fun _ _ e => nomatch e), ⟨rfl, rfl⟩, (fun i _ _ _ v e => by simp at e), by
    rintro M' H3 H' ⟨rfl, rfl⟩ hF
    exact k H' fun a o e => (hF.2 a o rfl e).2⟩) hs
theorem Ev.listC (ok : c.Ok n) (I : InFn c F) {e : Expr} {p pos : Pos} {a : Addr} {xs : List Value} {Q : Value → AH → Prop} (hk : F.sc.names.lookup ("list" : Str) = some .globalImplicit) (he : Pe c M H e (.ref a)) (ha : H a = some (.list xs)) (hz : xs.length ≤ sizeLine) (q : ∀ d, H d = none → Q (.ref d) (upd H d (.list xs))) (hn : noStar [e] = true := by rfl) : Ev c M H (.Call (.Name "list" p) [e] [] pos) Q :=
  Ev.call ok (Pe.gb ok I gb_list hk (by decide +kernel)) (Solid.typ _) (CW.typ _) hn (Pes.args (.cons he .nil) (CallJ.listOf ok ha hz q))
theorem Pe.min (ok : c.Ok n) (I : InFn c F) {e1 e2 : Expr} {p pos : Pos} {x y : Int} (hk : F.sc.names.lookup ("min" : Str) = some .globalImplicit) (h1 : Pe c M H e1 (.int x 0)) (h2 : Pe c M H e2 (.int y 0)) (hn : noStar [e1, e2] = true := by rfl) : Pe c M H (.Call (.Name "min" p) [e1, e2] [] pos) (.int (min x y) 0) :=
  Pe.call ok (Pe.gb ok I gb_min hk (by decide +kernel)) (Solid.blt _) (CW.blt _) hn (.cons h1 (.cons h2 .nil)) (CallP.min2 ok)
theorem Pe.max (ok : c.Ok n) (I : InFn c F) {e1 e2 : Expr} {p pos : Pos} {x y : Int} (hk : F.sc.names.lookup ("max" : Str) = some .globalImplicit) (h1 : Pe c M H e1 (.int x 0)) (h2 : Pe c M H e2 (.int y 0)) (hn : noStar [e1, e2] = true := by rfl) : Pe c M H (.Call (.Name "max" p) [e1, e2] [] pos) (.int (max x y) 0) :=
  Pe.call ok (Pe.gb ok I gb_max hk (by decide +kernel)) (Solid.blt _) (CW.blt _) hn (.cons h1 (.cons h2 .nil)) (CallP.max2 ok)
end
section
variable {H : AH} {b : Addr} {B : BD}
theorem buf_begin (n : Nat) (h : Has H (ents b B)) : FnSpec 334 (n + 1) [.ref b] H (fun v H' => v = .int B.begv 0 ∧ Sub H H') NoX := by
  refine FnSpec.intro (F := F334) F334_ok F334_b1 rfl fun c ok I => ?_
  exact Ex.ret (Pe.ev (Pe.ba ok 5 h (Pe.loc ok I 0 rfl rfl) rfl rfl) ⟨rfl, Sub.rfl'⟩)
theorem buf_end (n : Nat) (h : Has H (ents b B)) : FnSpec 341 (n + 1) [.ref b] H (fun v H' => v = .int B.zv 0 ∧ Sub H H') NoX := by
  refine FnSpec.intro (F := F341) F341_ok F341_b1 rfl fun c ok I => ?_
  exact Ex.ret (Pe.ev (Pe.ba ok 6 h (Pe.loc ok I 0 rfl rfl) rfl rfl) ⟨rfl, Sub.rfl'⟩)
theorem buf_size (n : Nat) (h : Has H (ents b B)) (o : B.ok b) : FnSpec 348 (n + 2) [.ref b] H (fun v H' => v = .int B.p.txt.length 0 ∧ Sub H H') NoX := by
  refine FnSpec.intro (F := F348) F348_ok F348_b1 rfl fun c ok I => ?_
  exact Ex.ret (Pe.ev (Pe.meth ok (Pe.ba ok 2 h (Pe.loc ok I 0 rfl rfl) rfl rfl) cGap_ok (eg h).1 (List.mem_of_getElem? (i := 0) rfl) rfl rfl rfl (by decide) .nil (CallP.fn ok (gap_size n o.g (eg h)))) ⟨rfl, Sub.rfl'⟩)
theorem buf_code_at (n : Nat) (h : Has H (ents b B)) (o : B.ok b) {i : Nat} {w : Int} (h1 : B.begv ≤ (i : Int) + 1) (h2 : (i : Int) + 1 < B.zv) (hw : B.g.txt[i]? = some w) : FnSpec 355 (n + 2) [.ref b, .int ((i : Int) + 1) 0] H (fun v H' => v = .int w 0 ∧ Sub H H') NoX := by
  refine FnSpec.intro (F := F355) F355_ok F355_b2 rfl fun c ok I => ?_
  have v := Pe.vars ok I
  refine Ex.ite (Pb.or (Pb.cmp (v 1 rfl rfl) (Pe.ba ok 5 h (v 0 rfl rfl) rfl rfl) (Cmp.int (op := .Lt) rfl)) fun _ => Pb.cmp (v 1 rfl rfl) (Pe.ba ok 6 h (v 0 rfl rfl) rfl rfl) (Cmp.int (op := .GtE) rfl)) (fun hb => ?_) fun _ => Ex.nil ?_
  · simp only [iCmp, Bool.or_eq_true, decide_eq_true_eq] at hb; lia
  · exact Ex.ret (Pe.ev (Pe.meth ok (Pe.ba ok 2 h (v 0 rfl rfl) rfl rfl) cGap_ok (eg h).1 (List.mem_of_getElem? (i := 1) rfl) rfl rfl rfl (by decide) (.cons (Pe.sub (v 1 rfl rfl) Pe.int) .nil) (by rw [Int.add_sub_cancel]; exact CallP.fn ok (gap_code n o.g (eg h) hw))) ⟨rfl, Sub.rfl'⟩)
theorem buf_codes (n : Nat) (h : Has H (ents b B)) (o : B.ok b) {i j : Nat} {s e : Int} (hs : s - 1 = i) (he : e - 1 = j) (hij : i ≤ j) (hj : j ≤ B.g.txt.length) : FnSpec 362 (n + 2) [.ref b, .int s 0, .int e 0] H (NewI H ((B.g.txt.drop i).take (j - i))) NoX := by
  refine FnSpec.intro (F := F362) F362_ok F362_b3 rfl fun c ok I => ?_
  have v := Pe.vars ok I
  exact Ex.ret (Ev.mC ok (Pe.ba ok 2 h (v 0 rfl rfl) rfl rfl) cGap_ok (eg h).1 2 rfl (.cons (hs ▸ Pe.sub (v 1 rfl rfl) Pe.int) (.cons (he ▸ Pe.sub (v 2 rfl rfl) Pe.int) .nil)) (gap_codes n o.g (eg h) hij hj) fun _ _ r => r)
theorem buf_goto (n : Nat) (h : Has H (ents b B)) (o : B.ok b) {q : Int} : FnSpec 369 (n + 1) [.ref b, .int q 0] H (fun v H' => ∃ B', Step b H B H' B' ∧ B'.p = { B.p with pt := min (max q B.begv) B.zv }) NoX := by
  refine FnSpec.intro (F := F369) F369_ok F369_b2 rfl fun c ok I => ?_
  have v := Pe.vars ok I
  refine Ex.setB ok 4 { B with pt := min (max q B.begv) B.zv } h o rfl (Pe.min ok I (by kernel_rfl) (Pe.max ok I (by kernel_rfl) (v 1 rfl rfl) (Pe.ba ok 5 h (v 0 rfl rfl) rfl rfl)) (Pe.ba ok 6 h (v 0 rfl rfl) rfl rfl)) (v 0 rfl rfl) rfl rfl rfl rfl fun H1 s1 => ?_
  exact Ex.ret (Pe.ev (Pe.ba ok 4 s1.has (v 0 rfl rfl) rfl rfl) ⟨_, s1, rfl⟩)
theorem buf_touch (n : Nat) (h : Has H (ents b B)) (o : B.ok b) : FnSpec 397 (n + 1) [.ref b, .bool true] H (fun v H' => ∃ B', Step b H B H' B' ∧ B'.p = B.p) NoX := by
  refine FnSpec.intro (F := F397) F397_ok F397_b2 rfl fun c ok I => ?_
  have v := Pe.vars ok I
  refine Ex.setB ok 10 { B with tk := B.tk + 1 } h o rfl (Pe.add (Pe.ba ok 10 h (v 0 rfl rfl) rfl rfl) Pe.int) (v 0 rfl rfl) rfl rfl rfl rfl fun H1 s1 => ?_
  refine Ex.ite (Pb.val (v 1 rfl rfl)) (fun _ => ?_) fun hb => by cases hb
  exact Ex.setB ok 11 { B with tk := B.tk + 1, ck := B.tk + 1 } s1.has s1.ok rfl (Pe.ba ok 10 s1.has (v 0 rfl rfl) rfl rfl) (v 0 rfl rfl) rfl rfl rfl rfl fun H2 s2 => Ex.nil (Ex.nil ⟨_, s1.trans s2, rfl⟩)
theorem need_writable (n : Nat) (h : Has H (ents b B)) : FnSpec 409 (n + 1) [.ref b] H (fun v H' => v = .none ∧ Sub H H') NoX := by
  refine FnSpec.intro (F := F409) F409_ok F409_b1 rfl fun c ok I => ?_
  exact Ex.ite (Pb.val (Pe.ba ok 9 h (Pe.loc ok I 0 rfl rfl) rfl rfl)) (fun hb => by cases hb) fun _ => Ex.nil (Ex.nil ⟨rfl, Sub.rfl'⟩)
theorem gl_LONGEST : Gl "LONGEST" (.int 4194304 712) := fun P => by kernel_rfl
theorem need_room (n : Nat) (h : Has H (ents b B)) (o : B.ok b) {k : Int} (hk : B.p.txt.length + k ≤ 4194304) : FnSpec 416 (n + 3) [.ref b, .int k 0] H (fun v H' => v = .none ∧ Sub H H') NoX := by
  refine FnSpec.intro (F := F416) F416_ok F416_b2 rfl fun c ok I => ?_
  have v := Pe.vars ok I
  refine Ex.ite (Pb.cmp (Pe.add (Pe.meth ok (v 0 rfl rfl) cBuf_ok (eb h) (List.mem_of_getElem? (i := 2) rfl) rfl rfl rfl (by decide) .nil (CallP.fn ok (buf_size n h o))) (v 1 rfl rfl)) (Pe.gl ok I gl_LONGEST (by kernel_rfl) (by decide +kernel)) (Cmp.int (op := .Gt) rfl)) (fun hb => ?_) fun _ => Ex.nil (Ex.nil ⟨rfl, Sub.rfl'⟩)
  simp only [iCmp, decide_eq_true_eq] at hb; lia
end
section
variable {c : Cx} {M : Mem} {H : AH} {n : Nat} {F : Fn} {rest : List Stmt} {P : Fl → Mem → AH → Prop}
theorem Pe.fC (ok : c.Ok n) (I : InFn c F) {f : Addr} {x : Str} {p pos : Pos} {args : List Expr} {vs : List Value} {v : Value} (G : GFn x f) (hk : F.sc.names.lookup x = some .globalImplicit) (ha : Pes c M H args vs) (sp : FnSpec f n vs H (fun x H' => x = v ∧ Sub H H') NoX) (hn : noStar args = true := by rfl) : Pe c M H (.Call (.Name x p) args [] pos) v :=
  Pe.call ok (Pe.gl ok I G.g hk G.nd) (Solid.ref _) (CW.ref G.kp) hn ha (CallP.fn ok sp)
theorem FnSpec.sub {f : Addr} {vs : List Value} {R R' : Value → AH → Prop} {X : Str → Prop} (h : FnSpec f n vs H R X) (k : ∀ v H', R v H' → R' v H') : FnSpec f n vs H R' X := fun c ok M hp kk s vs' hv Q q e => h c ok M hp kk s vs' hv Q (fun v h' k' H' r s' => q v h' k' H' (k _ _ r) s') e
end
theorem notNone_none : (!(Value.none == Value.none)) = false := by rfl
noncomputable def mvO (f : MK → Int) (o : Nat → Option (Bool × Int)) : Nat → Option (Bool × Int) := fun k => (o k).map fun p => (p.1, f ⟨0, 0, p.1, p.2⟩)
theorem obs_mv {f : MK → Int} (hf : ∀ m, f m = f ⟨0, 0, m.adv, m.pos⟩) (l : List MK) : obsOf (l.map (mv f)) = mvO f (obsOf l) := by
  funext k
  unfold obsOf mvO
  rw [find_mv, Option.map_map, Option.map_map]
  refine congrFun (congrArg Option.map (funext fun m => ?_)) _
  show ((mv f m).adv, (mv f m).pos) = (m.adv, f ⟨0, 0, m.adv, m.pos⟩)
  rw [← hf]; rfl
noncomputable def outP (p : PB) (s e : Int) : PB := { p with txt := p.txt.take (s - 1).toNat ++ p.txt.drop (e - 1).toNat, zv := p.zv - (e - s), pt := if s < p.pt then max s (p.pt - (e - s)) else p.pt }
noncomputable def inP (p : PB) (q : Int) (cs : List Int) : PB := { p with txt := p.txt.take (q - 1).toNat ++ cs ++ p.txt.drop (q - 1).toNat, zv := p.zv + cs.length, pt := if q < p.pt then p.pt + cs.length else p.pt }
noncomputable def putP (p : PB) (q : Int) (cs : List Int) (bf pb : Bool) : PB := if cs = [] then p else { inP p q cs with pt := if pb then q + cs.length else (inP p q cs).pt, obs := mvO (fIns q (q + cs.length) bf) p.obs }
noncomputable def delP (p : PB) (lo hi : Int) : PB := if lo = hi then p else { outP p lo hi with obs := mvO (fDel lo hi) p.obs }
noncomputable def repP (p : PB) (lo hi : Int) (cs : List Int) : PB := if lo = hi then putP p lo cs false false else if cs = [] then delP p lo hi else
  { inP (outP p lo hi) lo cs with pt := if hi ≤ p.pt then p.pt + cs.length - (hi - lo) else (inP (outP p lo hi) lo cs).pt, obs := mvO (fRep lo hi cs.length) p.obs }
structure PB.wf (p : PB) : Prop where
  b1 : 1 ≤ p.begv
  bp : p.begv ≤ p.pt
  pz : p.pt ≤ p.zv
  zt : p.zv ≤ p.txt.length + 1
noncomputable abbrev aoor : Str := "args-out-of-range"
noncomputable abbrev Xr (p : PB) (s e : Int) : Str → Prop := fun sym => sym = aoor ∧ ¬ (p.begv ≤ min s e ∧ max s e ≤ p.zv)
section
variable {H : AH} {b : Addr} {B : BD}
theorem reached (n : Nat) (h : Has H (ents b B)) {s e : Int} : FnSpec 423 (n + 3) [.ref b, .int s 0, .int e 0] H (fun v H' => (B.begv ≤ min s e ∧ max s e ≤ B.zv) ∧ ∃ d, v = .ref d ∧ H d = none ∧ Sub (upd H d (.tup [.int (min s e) 0, .int (max s e) 0])) H') (Xr B.p s e) := by
  refine FnSpec.introX (F := F423) F423_ok F423_b3 rfl fun c ok I hX hHX => ?_
  have v := Pe.vars ok I
  refine Ex.unpackS2 ok I 3 4 rfl rfl (Ev.tup ok rfl (Args.one (Pe.min ok I (by kernel_rfl) (v 1 rfl rfl) (v 2 rfl rfl)) (Args.one (Pe.max ok I (by kernel_rfl) (v 1 rfl rfl) (v 2 rfl rfl)) ⟨Nat.le_of_ble_eq_true rfl, fun d hd => ⟨d, _, _, rfl, upd_same _ _ _, ?_⟩⟩))) (by rw [I.env]; rfl)
  refine Ex.moved ?_ (Sub.upd_new hd)
  refine Ex.ite (Pb.or (Pb.cmp (v 3 rfl rfl) (Pe.ba ok 5 h (v 0 rfl rfl) rfl rfl) (Cmp.int (op := .Lt) rfl)) fun _ => Pb.cmp (v 4 rfl rfl) (Pe.ba ok 6 h (v 0 rfl rfl) rfl rfl) (Cmp.int (op := .Gt) rfl)) (fun hb => ?_) fun hb => Ex.nil ?_
  · simp only [iCmp, Bool.or_eq_true, decide_eq_true_eq] at hb
    refine Ex.raise ok (Pe.gl ok I gl_LispSignal (by kernel_rfl) (by decide +kernel)) rfl (Args.one Pe.str (Ev.list ok rfl (Args.one (v 1 rfl rfl) (Args.one (v 2 rfl rfl) ⟨Nat.le_of_ble_eq_true rfl, fun d hd => ⟨_, _, rfl, ?_, ?_⟩⟩))))
    · rw [hX]; exact ⟨rfl, fun z => hb.elim (Int.not_lt.mpr z.1) (Int.not_lt.mpr z.2)⟩
    · rw [hHX]; exact Sub.upd_new hd
  · simp only [iCmp, Bool.or_eq_false_iff, decide_eq_false_iff_not] at hb
    exact Ex.ret (Ev.tup ok rfl (Args.one (v 3 rfl rfl) (Args.one (v 4 rfl rfl) ⟨Nat.le_of_ble_eq_true rfl, fun d hd => ⟨⟨Int.not_lt.mp hb.1, Int.not_lt.mp hb.2⟩, d, rfl, hd, Sub.rfl'⟩⟩)))
theorem tell_ahead (n : Nat) (h : Has H (ents b B)) {s e : Int} : FnSpec 430 (n + 1) [.ref b, .int s 0, .int e 0] H (fun v H' => v = .none ∧ Sub H H') NoX := by
  refine FnSpec.introX (F := F430) F430_ok F430_b3 rfl fun c ok I hX hHX => ?_
  have v := Pe.vars ok I
  exact Ex.forNil ok (fun sym => by rw [hX]; exact id) (Ev.listC ok I (by kernel_rfl) (Pe.ba ok 13 h (v 0 rfl rfl) rfl rfl) (el h) (by decide) fun d hd => ⟨d, rfl, upd_same _ _ _, fun H' s => Ex.nil ⟨rfl, Sub.trans' (Sub.upd_new hd) s⟩⟩)
theorem tell_behind (n : Nat) (h : Has H (ents b B)) (o : B.ok b) {s e k : Int} : FnSpec 437 (n + 2) [.ref b, .int s 0, .int e 0, .int k 0] H (fun v H' => ∃ B', Step b H B H' B' ∧ B'.p = B.p) NoX := by
  refine FnSpec.introX (F := F437) F437_ok F437_b4 rfl fun c ok I hX hHX => ?_
  have v := Pe.vars ok I
  refine Ex.do I (Ev.mC ok (v 0 rfl rfl) cBuf_ok (eb h) 6 rfl (.cons Pe.bool .nil) (buf_touch n h o) fun _ H1 r => ?_)
  refine el1_1 r fun B1 s1 e1 => ?_
  exact Ex.forNil ok (fun sym => by rw [hX]; exact id) (Ev.listC ok I (by kernel_rfl) (Pe.ba ok 13 s1.has (v 0 rfl rfl) rfl rfl) (el s1.has) (by decide) fun d hd => ⟨d, rfl, upd_same _ _ _, fun H' s => Ex.nil ⟨B1, s1.more (Sub.trans' (Sub.upd_new hd) s), e1⟩⟩)
theorem text_out (n : Nat) (h : Has H (ents b B)) (o : B.ok b) {s e : Int} (h1 : 1 ≤ s) (h2 : s ≤ e) (h3 : e ≤ B.p.txt.length + 1) : FnSpec 444 (n + 3) [.ref b, .int s 0, .int e 0] H (fun v H' => ∃ B', Step b H B H' B' ∧ B'.p = outP B.p s e) NoX := by
  obtain ⟨i, hi⟩ : ∃ i : Nat, s - 1 = i := ⟨_, (tnI h1).symm⟩
  obtain ⟨j, hj⟩ : ∃ j : Nat, e - 1 = j := ⟨(e - 1).toNat, by lia⟩
  have h3' : j ≤ B.g.txt.length := by have : (B.p.txt.length : Int) = B.g.txt.length := rfl; lia
  refine FnSpec.intro (F := F444) F444_ok F444_b3 rfl fun c ok I => ?_
  have v := Pe.vars ok I
  refine Ex.ite (Pb.cmp (Pe.ba ok 14 h (v 0 rfl rfl) rfl rfl) Pe.none (Cmp.notNone rfl)) (fun hb => by rw [notNone_none] at hb; cases hb) fun _ => Ex.nil ?_
  refine Ex.let I 3 rfl (Ev.mC ok (Pe.ba ok 2 h (v 0 rfl rfl) rfl rfl) cGap_ok (eg h).1 6 rfl (.cons (hi ▸ Pe.sub (v 1 rfl rfl) Pe.int) (.cons (hj ▸ Pe.sub (v 2 rfl rfl) Pe.int) .nil)) (gap_delete n o.g (eg h) (by lia) h3') fun r H1 r1 => ?_)
  refine el2_5 r1 fun d G z92 hd og rg tg u => ?_; rcases z92 with rfl
  have s1 := (Step.gap (h.sub (Sub.upd_new hd)) o og u).from (Sub.upd_new hd)
  have tx : G.txt = B.g.txt.take (s - 1).toNat ++ B.g.txt.drop (e - 1).toNat := by rw [tg, hi, hj]; rfl
  generalize hB1 : ({ B with g := G } : BD) = B1 at *
  have z1 : B1.zv = B.zv := by rw [← hB1]
  have p1 : B1.pt = B.pt := by rw [← hB1]
  refine Ex.setB ok 6 { B1 with zv := B1.zv - (e - s) } s1.has s1.ok rfl (Pe.sub (Pe.ba ok 6 s1.has (v 0 rfl rfl) rfl rfl) (Pe.sub (v 2 rfl rfl) (v 1 rfl rfl))) (v 0 rfl rfl) rfl rfl rfl rfl fun H2 s2 => ?_
  have s12 := s1.trans s2
  refine Ex.ite (Pb.cmp (Pe.ba ok 4 s12.has (v 0 rfl rfl) rfl rfl) (v 1 rfl rfl) (Cmp.int (op := .Gt) rfl)) (fun hb => ?_) fun hb => Ex.nil ?_
  · refine Ex.setB ok 4 { B1 with zv := B1.zv - (e - s), pt := max s (B1.pt - (e - s)) } s12.has s12.ok rfl (Pe.max ok I (by kernel_rfl) (v 1 rfl rfl) (Pe.sub (Pe.ba ok 4 s12.has (v 0 rfl rfl) rfl rfl) (Pe.sub (v 2 rfl rfl) (v 1 rfl rfl)))) (v 0 rfl rfl) rfl rfl rfl rfl fun H3 s3 => Ex.nil (Ex.ret (Pe.ev (v 3 rfl rfl) ⟨_, s12.trans s3, ?_⟩))
    simp only [iCmp, decide_eq_true_eq] at hb
    unfold outP BD.p
    rw [← hB1] at hb ⊢
    simp only [if_pos hb, tx]
  · refine Ex.ret (Pe.ev (v 3 rfl rfl) ⟨_, s12, ?_⟩)
    simp only [iCmp, decide_eq_false_iff_not] at hb
    unfold outP BD.p
    rw [← hB1] at hb ⊢
    simp only [if_neg hb, tx]
theorem text_in (n : Nat) (h : Has H (ents b B)) (o : B.ok b) {q : Int} {d : Addr} {cs : List Int} (h1 : 1 ≤ q) (h2 : q ≤ B.p.txt.length + 1) (hz : B.p.txt.length + cs.length + 16 ≤ 2 ^ 20) (hd : H d = some (.list (intV cs))) (hn : d ∉ ks (ents b B)) :
    FnSpec 451 (n + 3) [.ref b, .int q 0, .ref d] H (fun v H' => v = .none ∧ ∃ B', Step b H B H' B' ∧ B'.p = inP B.p q cs) NoX := by
  obtain ⟨i, hi⟩ : ∃ i : Nat, q - 1 = i := ⟨_, (tnI h1).symm⟩
  have h2' : i ≤ B.g.txt.length := by have : (B.p.txt.length : Int) = B.g.txt.length := rfl; lia
  have dcl : d ≠ B.cl := fun z => hn (by rw [z, ents_keys]; exact List.mem_cons_of_mem _ (List.mem_cons_of_mem _ List.mem_cons_self))
  refine FnSpec.intro (F := F451) F451_ok F451_b3 rfl fun c ok I => ?_
  have v := Pe.vars ok I
  refine Ex.ite (Pb.cmp (Pe.ba ok 14 h (v 0 rfl rfl) rfl rfl) Pe.none (Cmp.notNone rfl)) (fun hb => by rw [notNone_none] at hb; cases hb) fun _ => Ex.nil ?_
  refine Ex.do I (Ev.mC ok (Pe.ba ok 2 h (v 0 rfl rfl) rfl rfl) cGap_ok (eg h).1 5 rfl (.cons (hi ▸ Pe.sub (v 1 rfl rfl) Pe.int) (.cons (v 2 rfl rfl) .nil)) (gap_insert n o.g (eg h) h2' hz hd dcl) fun r H1 r1 => ?_)
  have _ := r1.1; refine el1_3 r1.2 fun G og rg tg u => ?_; try clear r1
  have s1 := Step.gap h o og u
  have tx : G.txt = B.g.txt.take (q - 1).toNat ++ cs ++ B.g.txt.drop (q - 1).toNat := by rw [tg, hi]; rfl
  generalize hB1 : ({ B with g := G } : BD) = B1 at *
  have hl : cs.length ≤ 2 ^ 22 := by exact le_w3 (by assumption) (by decide)
  have k1 := s1.keep hd hn
  refine Ex.setB ok 6 { B1 with zv := B1.zv + cs.length } s1.has s1.ok rfl (Pe.add (Pe.ba ok 6 s1.has (v 0 rfl rfl) rfl rfl) (Pe.len ok I (v 2 rfl rfl) k1.1 hl rfl (by kernel_rfl))) (v 0 rfl rfl) rfl rfl rfl rfl fun H2 s2 => ?_
  have s12 := s1.trans s2
  have k2 := s2.keep k1.1 k1.2
  refine Ex.ite (Pb.cmp (Pe.ba ok 4 s12.has (v 0 rfl rfl) rfl rfl) (v 1 rfl rfl) (Cmp.int (op := .Gt) rfl)) (fun hb => ?_) fun hb => Ex.nil (Ex.nil ⟨rfl, _, s12, ?_⟩)
  · refine Ex.setB ok 4 { B1 with zv := B1.zv + cs.length, pt := B1.pt + cs.length } s12.has s12.ok rfl (Pe.add (Pe.ba ok 4 s12.has (v 0 rfl rfl) rfl rfl) (Pe.len ok I (v 2 rfl rfl) k2.1 hl rfl (by kernel_rfl))) (v 0 rfl rfl) rfl rfl rfl rfl fun H3 s3 => Ex.nil (Ex.nil ⟨rfl, _, s12.trans s3, ?_⟩)
    simp only [iCmp, decide_eq_true_eq] at hb
    unfold inP BD.p
    rw [← hB1] at hb ⊢
    simp only [if_pos hb, tx]
  · simp only [iCmp, decide_eq_false_iff_not] at hb
    unfold inP BD.p
    rw [← hB1] at hb ⊢
    simp only [if_neg hb, tx]
theorem hung_out (n : Nat) (h : Has H (ents b B)) {s e : Int} : FnSpec 458 (n + 1) [.ref b, .int s 0, .int e 0] H (fun v H' => v = .none ∧ Sub H H') NoX := by
  refine FnSpec.intro (F := F458) F458_ok F458_b3 rfl fun c ok I => ?_
  have v := Pe.vars ok I
  refine Ex.ite (Pb.cmp (Pe.ba ok 15 h (v 0 rfl rfl) rfl rfl) Pe.none (Cmp.notNone rfl)) (fun hb => by rw [notNone_none] at hb; cases hb) fun _ => Ex.nil ?_
  exact Ex.ite (Pb.cmp (Pe.ba ok 16 h (v 0 rfl rfl) rfl rfl) Pe.none (Cmp.notNone rfl)) (fun hb => by rw [notNone_none] at hb; cases hb) fun _ => Ex.nil (Ex.nil ⟨rfl, Sub.rfl'⟩)
theorem hung_in (n : Nat) (h : Has H (ents b B)) {s e : Int} {bf : Bool} : FnSpec 465 (n + 1) [.ref b, .int s 0, .int e 0, .bool bf] H (fun v H' => v = .none ∧ Sub H H') NoX := by
  refine FnSpec.intro (F := F465) F465_ok F465_b4 rfl fun c ok I => ?_
  have v := Pe.vars ok I
  refine Ex.ite (Pb.cmp (Pe.ba ok 15 h (v 0 rfl rfl) rfl rfl) Pe.none (Cmp.notNone rfl)) (fun hb => by rw [notNone_none] at hb; cases hb) fun _ => Ex.nil ?_
  exact Ex.ite (Pb.cmp (Pe.ba ok 16 h (v 0 rfl rfl) rfl rfl) Pe.none (Cmp.notNone rfl)) (fun hb => by rw [notNone_none] at hb; cases hb) fun _ => Ex.nil (Ex.nil ⟨rfl, Sub.rfl'⟩)
end
theorem fIns_pure (s e : Int) (bf : Bool) (m : MK) : fIns s e bf m = fIns s e bf ⟨0, 0, m.adv, m.pos⟩ := rfl
theorem fDel_pure (s e : Int) (m : MK) : fDel s e m = fDel s e ⟨0, 0, m.adv, m.pos⟩ := rfl
theorem fRep_pure (s e k : Int) (m : MK) : fRep s e k m = fRep s e k ⟨0, 0, m.adv, m.pos⟩ := rfl
section
variable {H : AH} {b : Addr} {B : BD}
theorem Step.obs {H' : AH} {f : MK → Int} (hf : ∀ m, f m = f ⟨0, 0, m.adv, m.pos⟩) (h : Has H (ents b B)) (o : B.ok b) (s : Tr (ments b B.ms B.rw B.mks) H (ments b B.ms B.rw (B.mks.map (mv f))) H') : ∃ B', Step b H B H' B' ∧ B'.p = { B.p with obs := mvO f B.p.obs } :=
  ⟨_, Step.mks h o s, by unfold BD.p; rw [← obs_mv hf]⟩
theorem ent_len (B : BD) : (B.p.txt.length : Int) = B.g.txt.length := rfl
theorem put_in (n : Nat) (h : Has H (ents b B)) (o : B.ok b) {q : Int} {d : Addr} {cs : List Int} {bf pb : Bool} (w : B.p.wf) (hz : B.p.txt.length + cs.length + 16 ≤ 2 ^ 20) (hd : H d = some (.list (intV cs))) (hn : d ∉ ks (ents b B)) :
    FnSpec 472 (n + 5) [.ref b, .int q 0, .ref d, .bool bf, .bool pb] H (fun v H' => v = .none ∧ (B.begv ≤ q ∧ q ≤ B.zv) ∧ ∃ B', Step b H B H' B' ∧ B'.p = putP B.p q cs bf pb) (Xr B.p q q) := by
  refine FnSpec.introX (F := F472) F472_ok F472_b5 rfl fun c ok I hX hHX => ?_
  have v := Pe.vars ok I
  have hl : cs.length ≤ 2 ^ 22 := by exact le_w3 (by assumption) (by decide)
  have ln : ∀ {M : Mem} {H : AH} {e p pos}, Pe c M H e (.ref d) → H d = some (.list (intV cs)) → noStar [e] = true → Pe c M H (.Call (.Name "len" p) [e] [] pos) (.int cs.length 0) := fun h1 h2 h3 => Pe.len ok I h1 h2 hl h3 (by kernel_rfl)
  refine Ex.do I (Pe.ev (Pe.fC ok I gf_need_writable (by kernel_rfl) (.cons (v 0 rfl rfl) .nil) (need_writable (n + 3) h)) ?_)
  refine Ex.do I (Ev.fX ok I gf_reached (by kernel_rfl) (.cons (v 0 rfl rfl) (.cons (v 1 rfl rfl) (.cons (v 1 rfl rfl) .nil))) (reached (n + 1) h) (fun sym x => by rw [hX]; exact x) (by rw [hHX]; exact Sub.rfl') fun _ H1 r => ?_)
  rcases r.1 with ⟨r1, r2⟩; refine el1_2 r.2 fun d1 _ hd1 u => ?_; try clear r
  rw [Int.min_self] at r1
  rw [Int.max_self] at r2
  refine Ex.moved ?_ (Sub.trans' (Sub.upd_new hd1) u)
  refine Ex.ite (Pb.cmp (ln (v 2 rfl rfl) hd rfl) Pe.int (Cmp.int (op := .Eq) rfl)) (fun hb => ?_) fun hb => Ex.nil ?_
  · have e : cs = [] := by simpa [iCmp] using hb
    exact Ex.retN ⟨rfl, ⟨r1, r2⟩, B, Step.refl h o, by unfold putP; rw [if_pos e]⟩
  have e : cs ≠ [] := by simpa [iCmp] using hb
  refine Ex.do I (Pe.ev (Pe.fC ok I gf_need_room (by kernel_rfl) (.cons (v 0 rfl rfl) (.cons (ln (v 2 rfl rfl) hd rfl) .nil)) (need_room (n + 1) h o (by lia))) ?_)
  refine Ex.do I (Pe.ev (Pe.fC ok I gf_tell_ahead (by kernel_rfl) (.cons (v 0 rfl rfl) (.cons (v 1 rfl rfl) (.cons (v 1 rfl rfl) .nil))) (tell_ahead (n + 3) h)) ?_)
  have b1 := w.b1
  have zt := w.zt
  have e1 : B.p.begv = B.begv := rfl
  have e2 : B.p.zv = B.zv := rfl
  refine Ex.do I (Ev.fC ok I gf_text_in (by kernel_rfl) (.cons (v 0 rfl rfl) (.cons (v 1 rfl rfl) (.cons (v 2 rfl rfl) .nil))) (text_in (n + 1) h o (by solve_by_elim (maxDepth := 7) [Int.le_trans, Int.natCast_nonneg, Int.ofNat_le.mpr, Int.ofNat_lt.mpr, Nat.le_of_lt, Int.le_of_lt]) (by solve_by_elim (maxDepth := 7) [Int.le_trans, Int.natCast_nonneg, Int.ofNat_le.mpr, Int.ofNat_lt.mpr, Nat.le_of_lt, Int.le_of_lt]) hz hd hn) fun _ H1 r => ?_)
  have _ := r.1; refine el1_1 r.2 fun B1 s1 p1 => ?_; try clear r
  have k1 := s1.keep hd hn
  refine Ex.iteJ (fun H2 => ∃ B2, Step b H B H2 B2 ∧ B2.p = { inP B.p q cs with pt := if pb then q + cs.length else (inP B.p q cs).pt }) (Pb.val (v 4 rfl rfl)) (fun hb => ?_) (fun hb => Ex.nil ⟨rfl, rfl, B1, s1, ?_⟩) fun H2 r => ?_
  · refine Ex.setB ok 4 { B1 with pt := q + cs.length } s1.has s1.ok rfl (Pe.add (v 1 rfl rfl) (ln (v 2 rfl rfl) k1.1 rfl)) (v 0 rfl rfl) rfl rfl rfl rfl fun H2 s2 => Ex.nil ⟨rfl, rfl, _, s1.trans s2, ?_⟩
    rw [if_pos hb, ← p1]; rfl
  · rw [hb, p1]; rfl
  refine el1_1 r fun B2 s2 p2 => ?_
  have k2 := s2.keep hd hn
  refine Ex.do I (Ev.mC ok (Pe.ba ok 3 s2.has (v 0 rfl rfl) rfl rfl) cMarks_ok (ments_ms (em s2.has)) 3 rfl (.cons (v 1 rfl rfl) (.cons (Pe.add (v 1 rfl rfl) (ln (v 2 rfl rfl) k2.1 rfl)) (.cons (v 3 rfl rfl) .nil))) (marks_inserted (n + 2) (em s2.has) s2.ok.ndm s2.ok.nn (Nat.lt_trans s2.ok.few (by decide))) fun _ H3 r => ?_)
  refine el1_1 (Step.obs (fIns_pure _ _ _) s2.has s2.ok r.2) fun B3 s3 p3 => ?_
  have s3 := s2.trans s3
  have k3 := s3.keep hd hn
  refine Ex.do I (Pe.ev (Pe.fC ok I gf_hung_in (by kernel_rfl) (.cons (v 0 rfl rfl) (.cons (v 1 rfl rfl) (.cons (ln (v 2 rfl rfl) k3.1 rfl) (.cons (v 3 rfl rfl) .nil)))) (hung_in (n + 3) s3.has)) ?_)
  refine Ex.do I (Ev.fC ok I gf_tell_behind (by kernel_rfl) (.cons (v 0 rfl rfl) (.cons (v 1 rfl rfl) (.cons (Pe.add (v 1 rfl rfl) (ln (v 2 rfl rfl) k3.1 rfl)) (.cons Pe.int .nil)))) (tell_behind (n + 2) s3.has s3.ok) fun _ H4 r => ?_)
  refine el1_1 r fun B4 s4 p4 => ?_
  refine Ex.nil ⟨rfl, ⟨r1, r2⟩, B4, s3.trans s4, ?_⟩
  rw [p4, p3, p2]
  unfold putP
  rw [if_neg e]
  rfl
theorem insert_at (n : Nat) (h : Has H (ents b B)) (o : B.ok b) {q : Int} {d : Addr} {cs : List Int} (w : B.p.wf) (hz : B.p.txt.length + cs.length + 16 ≤ 2 ^ 20) (hd : H d = some (.list (intV cs))) (hn : d ∉ ks (ents b B)) :
    FnSpec 480 (n + 6) [.ref b, .int q 0, .ref d] H (fun v H' => v = .none ∧ (B.begv ≤ q ∧ q ≤ B.zv) ∧ ∃ B', Step b H B H' B' ∧ B'.p = putP B.p q cs false false) (Xr B.p q q) := by
  refine FnSpec.introX (F := F480) F480_ok F480_b3 rfl fun c ok I hX hHX => ?_
  have v := Pe.vars ok I
  exact Ex.do I (Ev.fX ok I gf_put_in (by kernel_rfl) (.cons (v 0 rfl rfl) (.cons (v 1 rfl rfl) (.cons (v 2 rfl rfl) (.cons (v 3 rfl rfl) (.cons Pe.bool .nil))))) (put_in n h o w hz hd hn) (fun sym x => by rw [hX]; exact x) (by rw [hHX]; exact Sub.rfl') fun _ H1 r => Ex.nil ⟨rfl, r.2⟩)
theorem insert (n : Nat) (h : Has H (ents b B)) (o : B.ok b) {d : Addr} {cs : List Int} (w : B.p.wf) (hz : B.p.txt.length + cs.length + 16 ≤ 2 ^ 20) (hd : H d = some (.list (intV cs))) (hn : d ∉ ks (ents b B)) :
    FnSpec 488 (n + 6) [.ref b, .ref d] H (fun v H' => v = .none ∧ ∃ B', Step b H B H' B' ∧ B'.p = putP B.p B.p.pt cs false true) NoX := by
  refine FnSpec.introX (F := F488) F488_ok F488_b2 rfl fun c ok I hX hHX => ?_
  have v := Pe.vars ok I
  exact Ex.do I (Ev.fX ok I gf_put_in (by kernel_rfl) (.cons (v 0 rfl rfl) (.cons (Pe.ba ok 4 h (v 0 rfl rfl) rfl rfl) (.cons (v 1 rfl rfl) (.cons (v 2 rfl rfl) (.cons Pe.bool .nil))))) (put_in n h o (q := B.pt) w hz hd hn) (fun sym x => (x.2 (by rw [Int.min_self, Int.max_self]; exact ⟨w.bp, w.pz⟩)).elim) (by rw [hHX]; exact Sub.rfl') fun _ H1 r => Ex.nil ⟨rfl, r.2.2⟩)
end
theorem outP_len {p : PB} {s e : Int} (h1 : 1 ≤ s) (h2 : s ≤ e) (h3 : e ≤ p.txt.length + 1) : ((outP p s e).txt.length : Int) = p.txt.length - (e - s) := by
  exact td_len h1 h2 h3
section
variable {c : Cx} {M : Mem} {H : AH} {n : Nat} {F : Fn} {rest : List Stmt} {P : Fl → Mem → AH → Prop}
theorem Pe.pred {e : Expr} {pos p : Pos} {kd} {i j : Int} (he : Pe c M H e (.int i 0)) (hj : i - 1 = j) : Pe c M H (.BinOp e .Sub (.Constant (.int 1) kd p) pos) (.int j 0) := hj ▸ Pe.sub he Pe.int
theorem Ex.unpack2 (ok : c.Ok n) (I : InFn c F) {x y : Str} {p1 p2 tp pos : Pos} {k : Nat} {e : Expr} (i j : Nat) (hx : F.vars[i]? = some x) (hy : F.vars[j]? = some y) (h : Ev c M H e fun v H' => ∃ t a b, v = .ref t ∧ H' t = some (.tup [a, b]) ∧ Ex c ((M.set i (some a)).set j (some b)) H' rest P)
    (hs : swapsWithSole [.Tuple [.Name x p1, .Name y p2] k tp] e pos.line c.env = pure false := by rfl) (hw : swappedStores [.Tuple [.Name x p1, .Name y p2] k tp] e c.env = pure none := by rfl) : Ex c M H (.Assign [.Tuple [.Name x p1, .Name y p2] k tp] e pos :: rest) P :=
  Ex.unpack ok (Ev.mono h fun v H' ⟨t, a, b, hv, ht, q⟩ => by
    subst hv
    exact Asg.tup ok ht rfl rfl (Asg.name I i hx (Asg.name I j hy q))) hs hw
theorem Ex.iteM {t : Expr} {b1 b2 : List Stmt} {pos : Pos} {b : Bool} (J : Mem → AH → Prop) (ht : Pb c M H t b) (h1 : b = true → Ex c M H b1 fun fl M' H' => fl = .next ∧ J M' H') (h2 : b = false → Ex c M H b2 fun fl M' H' => fl = .next ∧ J M' H')
    (k : ∀ M' H', J M' H' → Ex c M' H' rest P) : Ex c M H (.If t b1 b2 pos :: rest) P :=
  Ex.ite ht (fun hb => (h1 hb).mono fun fl M' H' p => by rcases p.1 with rfl; have j := p.2; try clear p; exact k _ _ j) fun hb => (h2 hb).mono fun fl M' H' p => by rcases p.1 with rfl; have j := p.2; try clear p; exact k _ _ j
end
section
variable {H : AH} {b : Addr} {B : BD}
theorem delete (n : Nat) (h : Has H (ents b B)) (o : B.ok b) {s e : Int} (w : B.p.wf) :
    FnSpec 495 (n + 4) [.ref b, .int s 0, .int e 0] H (fun v H' => (B.begv ≤ min s e ∧ max s e ≤ B.zv) ∧ ∃ B', Step b H B H' B' ∧ B'.p = delP B.p (min s e) (max s e)) (Xr B.p s e) := by
  refine FnSpec.introX (F := F495) F495_ok F495_b3 rfl fun c ok I hX hHX => ?_
  have v := Pe.vars ok I
  refine Ex.do I (Pe.ev (Pe.fC ok I gf_need_writable (by kernel_rfl) (.cons (v 0 rfl rfl) .nil) (need_writable (n + 2) h)) ?_)
  refine Ex.unpack2 ok I 3 4 rfl rfl (Ev.fX ok I gf_reached (by kernel_rfl) (.cons (v 0 rfl rfl) (.cons (v 1 rfl rfl) (.cons (v 2 rfl rfl) .nil))) (reached n h) (fun sym x => by rw [hX]; exact x) (by rw [hHX]; exact Sub.rfl') fun _ H1 r => ?_)
  rcases r.1 with ⟨r1, r2⟩; refine el1_2 r.2 fun d1 z92 hd1 u => ?_; rcases z92 with rfl; try clear r
  refine ⟨d1, _, _, rfl, u _ _ (upd_same _ _ _), ?_⟩
  refine Ex.moved ?_ (Sub.trans' (Sub.upd_new hd1) u)
  have mm : min s e ≤ max s e := by lia
  generalize min s e = lo at *
  generalize max s e = hi at *
  refine Ex.ite (Pb.cmp (v 3 rfl rfl) (v 4 rfl rfl) (Cmp.int (op := .Eq) rfl)) (fun hb => ?_) fun hb => Ex.nil ?_
  · have e : lo = hi := by simpa [iCmp] using hb
    exact Ex.ret (Ev.list ok rfl ⟨Nat.le_of_ble_eq_true rfl, fun d hd => ⟨⟨r1, r2⟩, B, (Step.refl h o).more (Sub.upd_new hd), by unfold delP; rw [if_pos e]⟩⟩)
  have e : lo ≠ hi := by simpa [iCmp] using hb
  have b1 := w.b1
  have zt := w.zt
  have e1 : B.p.begv = B.begv := rfl
  have e2 : B.p.zv = B.zv := rfl
  refine Ex.do I (Pe.ev (Pe.fC ok I gf_tell_ahead (by kernel_rfl) (.cons (v 0 rfl rfl) (.cons (v 3 rfl rfl) (.cons (v 4 rfl rfl) .nil))) (tell_ahead (n + 2) h)) ?_)
  refine Ex.let I 5 rfl (Ev.fC ok I gf_text_out (by kernel_rfl) (.cons (v 0 rfl rfl) (.cons (v 3 rfl rfl) (.cons (v 4 rfl rfl) .nil))) (text_out n h o (by solve_by_elim (maxDepth := 7) [Int.le_trans, Int.natCast_nonneg, Int.ofNat_le.mpr, Int.ofNat_lt.mpr, Nat.le_of_lt, Int.le_of_lt]) mm (by solve_by_elim (maxDepth := 7) [Int.le_trans, Int.natCast_nonneg, Int.ofNat_le.mpr, Int.ofNat_lt.mpr, Nat.le_of_lt, Int.le_of_lt])) fun g H1 r => ?_)
  refine el1_1 r fun B1 s1 p1 => ?_
  refine Ex.do I (Ev.mC ok (Pe.ba ok 3 s1.has (v 0 rfl rfl) rfl rfl) cMarks_ok (ments_ms (em s1.has)) 4 rfl (.cons (v 3 rfl rfl) (.cons (v 4 rfl rfl) .nil)) (marks_deleted (n + 1) (em s1.has) s1.ok.ndm s1.ok.nn (Nat.lt_trans s1.ok.few (by decide))) fun _ H3 r => ?_)
  refine el1_1 (Step.obs (fDel_pure _ _) s1.has s1.ok r.2) fun B3 s3 p3 => ?_
  have s3 := s1.trans s3
  refine Ex.do I (Pe.ev (Pe.fC ok I gf_hung_out (by kernel_rfl) (.cons (v 0 rfl rfl) (.cons (v 3 rfl rfl) (.cons (v 4 rfl rfl) .nil))) (hung_out (n + 2) s3.has)) ?_)
  refine Ex.do I (Ev.fC ok I gf_tell_behind (by kernel_rfl) (.cons (v 0 rfl rfl) (.cons (v 3 rfl rfl) (.cons (v 3 rfl rfl) (.cons (Pe.sub (v 4 rfl rfl) (v 3 rfl rfl)) .nil)))) (tell_behind (n + 1) s3.has s3.ok) fun _ H4 r => ?_)
  refine el1_1 r fun B4 s4 p4 => ?_
  refine Ex.ret (Pe.ev (v 5 rfl rfl) ⟨⟨r1, r2⟩, B4, s3.trans s4, ?_⟩)
  rw [p4, p3, p1]
  unfold delP
  rw [if_neg e]
  rfl
theorem replace (n : Nat) (h : Has H (ents b B)) (o : B.ok b) {s e : Int} {d : Addr} {cs : List Int} (w : B.p.wf) (hz : B.p.txt.length + cs.length + 16 ≤ 2 ^ 20) (hd : H d = some (.list (intV cs))) (hn : d ∉ ks (ents b B)) :
    FnSpec 508 (n + 7) [.ref b, .int s 0, .int e 0, .ref d] H (fun v H' => (B.begv ≤ min s e ∧ max s e ≤ B.zv) ∧ ∃ B', Step b H B H' B' ∧ B'.p = repP B.p (min s e) (max s e) cs) (Xr B.p s e) := by
  refine FnSpec.introX (F := F508) F508_ok F508_b4 rfl fun c ok I hX hHX => ?_
  have v := Pe.vars ok I
  have hl : cs.length ≤ 2 ^ 22 := by exact le_w3 (by assumption) (by decide)
  have ln : ∀ {M : Mem} {H : AH} {e p pos}, Pe c M H e (.ref d) → H d = some (.list (intV cs)) → noStar [e] = true → Pe c M H (.Call (.Name "len" p) [e] [] pos) (.int cs.length 0) := fun h1 h2 h3 => Pe.len ok I h1 h2 hl h3 (by kernel_rfl)
  refine Ex.do I (Pe.ev (Pe.fC ok I gf_need_writable (by kernel_rfl) (.cons (v 0 rfl rfl) .nil) (need_writable (n + 5) h)) ?_)
  refine Ex.unpack2 ok I 5 6 rfl rfl (Ev.fX ok I gf_reached (by kernel_rfl) (.cons (v 0 rfl rfl) (.cons (v 1 rfl rfl) (.cons (v 2 rfl rfl) .nil))) (reached (n + 3) h) (fun sym x => by rw [hX]; exact x) (by rw [hHX]; exact Sub.rfl') fun _ H1 r => ?_)
  rcases r.1 with ⟨r1, r2⟩; refine el1_2 r.2 fun d1 z92 hd1 u => ?_; rcases z92 with rfl; try clear r
  refine ⟨d1, _, _, rfl, u _ _ (upd_same _ _ _), ?_⟩
  refine Ex.moved ?_ (Sub.trans' (Sub.upd_new hd1) u)
  have mm : min s e ≤ max s e := by lia
  generalize min s e = lo at *
  generalize max s e = hi at *
  have inr : ∀ x : Int, B.begv ≤ x → x ≤ B.zv → ∀ sym, Xr B.p x x sym → c.X sym := fun x h1 h2 sym z => (z.2 (by rw [Int.min_self, Int.max_self]; exact ⟨h1, h2⟩)).elim
  refine Ex.ite (Pb.cmp (v 5 rfl rfl) (v 6 rfl rfl) (Cmp.int (op := .Eq) rfl)) (fun hb => ?_) fun hb => Ex.nil ?_
  · have e : lo = hi := by simpa [iCmp] using hb
    refine Ex.do I (Ev.fX ok I gf_insert_at (by kernel_rfl) (.cons (v 0 rfl rfl) (.cons (v 5 rfl rfl) (.cons (v 3 rfl rfl) .nil))) (insert_at n h o w hz hd hn) (inr lo r1 (e ▸ r2)) (by rw [hHX]; exact Sub.rfl') fun _ H1 r => ?_)
    refine el0_2 r fun _ _ z92 => ?_; rcases z92 with ⟨B1, s1, p1⟩
    exact Ex.ret (Ev.list ok rfl ⟨Nat.le_of_ble_eq_true rfl, fun d hd => ⟨⟨r1, r2⟩, B1, s1.more (Sub.upd_new hd), by unfold repP; rw [if_pos e]; exact p1⟩⟩)
  have e : lo ≠ hi := by simpa [iCmp] using hb
  refine Ex.ite (Pb.cmp (ln (v 3 rfl rfl) hd rfl) Pe.int (Cmp.int (op := .Eq) rfl)) (fun hb => ?_) fun hb => Ex.nil ?_
  · have e' : cs = [] := by simpa [iCmp] using hb
    refine Ex.ret (Ev.fX ok I gf_delete (by kernel_rfl) (.cons (v 0 rfl rfl) (.cons (v 5 rfl rfl) (.cons (v 6 rfl rfl) .nil))) (delete (n + 2) h o w) (fun sym x => (x.2 (by rw [Int.min_eq_left mm, Int.max_eq_right mm]; exact ⟨r1, r2⟩)).elim) (by rw [hHX]; exact Sub.rfl') fun _ H1 r => ?_)
    have _ := r.1; refine el1_1 r.2 fun B1 s1 p1 => ?_; try clear r
    rw [Int.min_eq_left mm, Int.max_eq_right mm] at p1
    exact ⟨⟨r1, r2⟩, B1, s1, by unfold repP; rw [if_neg e, if_pos e']; exact p1⟩
  have e' : cs ≠ [] := by simpa [iCmp] using hb
  have b1 := w.b1
  have zt := w.zt
  have e1 : B.p.begv = B.begv := rfl
  have e2 : B.p.zv = B.zv := rfl
  refine Ex.do I (Pe.ev (Pe.fC ok I gf_need_room (by kernel_rfl) (.cons (v 0 rfl rfl) (.cons (Pe.sub (ln (v 3 rfl rfl) hd rfl) (Pe.sub (v 6 rfl rfl) (v 5 rfl rfl))) .nil)) (need_room (n + 3) h o (by lia))) ?_)
  refine Ex.let I 7 rfl (Pe.ev (Pe.ba ok 4 h (v 0 rfl rfl) rfl rfl) ?_)
  refine Ex.do I (Pe.ev (Pe.fC ok I gf_tell_ahead (by kernel_rfl) (.cons (v 0 rfl rfl) (.cons (v 5 rfl rfl) (.cons (v 6 rfl rfl) .nil))) (tell_ahead (n + 5) h)) ?_)
  refine Ex.let I 8 rfl (Ev.fC ok I gf_text_out (by kernel_rfl) (.cons (v 0 rfl rfl) (.cons (v 5 rfl rfl) (.cons (v 6 rfl rfl) .nil))) (text_out (n + 3) h o (by lia) mm (by lia)) fun g H1 r => ?_)
  refine el1_1 r fun B1 s1 p1 => ?_
  have k1 := s1.keep hd hn
  have l1 : (B1.p.txt.length : Int) = B.p.txt.length - (hi - lo) := by rw [p1]; exact outP_len (by lia) mm (by lia)
  refine Ex.do I (Ev.fC ok I gf_text_in (by kernel_rfl) (.cons (v 0 rfl rfl) (.cons (v 5 rfl rfl) (.cons (v 3 rfl rfl) .nil))) (text_in (n + 3) s1.has s1.ok (by lia) (by lia) (by lia) k1.1 k1.2) fun _ H2 r => ?_)
  have _ := r.1; refine el1_1 r.2 fun B2 s2 p2 => ?_; try clear r
  rw [p1] at p2
  have s2 := s1.trans s2
  have k2 := s2.keep hd hn
  refine Ex.iteJ (fun H3 => ∃ B3, Step b H B H3 B3 ∧ B3.p = { inP (outP B.p lo hi) lo cs with pt := if hi ≤ B.p.pt then B.p.pt + cs.length - (hi - lo) else (inP (outP B.p lo hi) lo cs).pt }) (Pb.cmp (v 7 rfl rfl) (v 6 rfl rfl) (Cmp.int (op := .GtE) rfl)) (fun hb => ?_) (fun hb => Ex.nil ⟨rfl, rfl, B2, s2, ?_⟩) fun H3 r => ?_
  · have hb : hi ≤ B.p.pt := of_decide_eq_true hb
    refine Ex.setB ok 4 { B2 with pt := B.pt + cs.length - (hi - lo) } s2.has s2.ok rfl (Pe.sub (Pe.add (v 7 rfl rfl) (ln (v 3 rfl rfl) k2.1 rfl)) (Pe.sub (v 6 rfl rfl) (v 5 rfl rfl))) (v 0 rfl rfl) rfl rfl rfl rfl fun H3 s3 => Ex.nil ⟨rfl, rfl, _, s2.trans s3, ?_⟩
    rw [if_pos hb, ← p2]; rfl
  · have hb : ¬ hi ≤ B.p.pt := of_decide_eq_false hb
    rw [if_neg hb, p2]
  refine el1_1 r fun B3 s3 p3 => ?_
  have k3 := s3.keep hd hn
  refine Ex.do I (Ev.mC ok (Pe.ba ok 3 s3.has (v 0 rfl rfl) rfl rfl) cMarks_ok (ments_ms (em s3.has)) 5 rfl (.cons (v 5 rfl rfl) (.cons (v 6 rfl rfl) (.cons (ln (v 3 rfl rfl) k3.1 rfl) .nil))) (marks_replaced (n + 4) (em s3.has) s3.ok.ndm s3.ok.nn (Nat.lt_trans s3.ok.few (by decide))) fun _ H4 r => ?_)
  refine el1_1 (Step.obs (fRep_pure _ _ _) s3.has s3.ok r.2) fun B4 s4 p4 => ?_
  have s4 := s3.trans s4
  have k4 := s4.keep hd hn
  refine Ex.do I (Pe.ev (Pe.fC ok I gf_hung_in (by kernel_rfl) (.cons (v 0 rfl rfl) (.cons (v 6 rfl rfl) (.cons (ln (v 3 rfl rfl) k4.1 rfl) (.cons Pe.bool .nil)))) (hung_in (n + 5) s4.has)) ?_)
  refine Ex.do I (Pe.ev (Pe.fC ok I gf_hung_out (by kernel_rfl) (.cons (v 0 rfl rfl) (.cons (v 5 rfl rfl) (.cons (v 6 rfl rfl) .nil))) (hung_out (n + 5) s4.has)) ?_)
  refine Ex.ite (Pb.cmp (v 4 rfl rfl) Pe.none (Cmp.notNone rfl)) (fun hb => by have := notNone_none.symm.trans hb; cases this) fun _ => Ex.nil ?_
  refine Ex.do I (Ev.fC ok I gf_tell_behind (by kernel_rfl) (.cons (v 0 rfl rfl) (.cons (v 5 rfl rfl) (.cons (Pe.add (v 5 rfl rfl) (ln (v 3 rfl rfl) k4.1 rfl)) (.cons (Pe.sub (v 6 rfl rfl) (v 5 rfl rfl)) .nil)))) (tell_behind (n + 4) s4.has s4.ok) fun _ H5 r => ?_)
  refine el1_1 r fun B5 s5 p5 => ?_
  refine Ex.ret (Pe.ev (v 8 rfl rfl) ⟨⟨r1, r2⟩, B5, s4.trans s5, ?_⟩)
  rw [p5, p4, p3]
  unfold repP
  rw [if_neg e, if_neg e']
  rfl
theorem change_sign (n : Nat) (h : Has H (ents b B)) (o : B.ok b) {i : Nat} {k : Int} (h1 : B.begv ≤ (i : Int) + 1) (h2 : (i : Int) + 1 + 1 ≤ B.zv) (hi : i < B.g.txt.length) :
    FnSpec 515 (n + 4) [.ref b, .int ((i : Int) + 1) 0, .int k 0] H (fun v H' => v = .none ∧ ∃ B', Step b H B H' B' ∧ B'.p = { B.p with txt := B.p.txt.set i k }) NoX := by
  refine FnSpec.introX (F := F515) F515_ok F515_b3 rfl fun c ok I hX hHX => ?_
  have v := Pe.vars ok I
  refine Ex.do I (Pe.ev (Pe.fC ok I gf_need_writable (by kernel_rfl) (.cons (v 0 rfl rfl) .nil) (need_writable (n + 2) h)) ?_)
  refine Ex.do I (Ev.fX ok I gf_reached (by kernel_rfl) (.cons (v 0 rfl rfl) (.cons (v 1 rfl rfl) (.cons (Pe.add (v 1 rfl rfl) Pe.int) .nil))) (reached n h) (fun sym x => (x.2 ⟨by show B.begv ≤ _; lia, by show _ ≤ B.zv; lia⟩).elim) (by rw [hHX]; exact Sub.rfl') fun _ H1 r => ?_)
  have _ := r.1; refine el1_2 r.2 fun d1 _ hd1 u => ?_; try clear r
  refine Ex.moved ?_ (Sub.trans' (Sub.upd_new hd1) u)
  refine Ex.do I (Pe.ev (Pe.fC ok I gf_tell_ahead (by kernel_rfl) (.cons (v 0 rfl rfl) (.cons (v 1 rfl rfl) (.cons (Pe.add (v 1 rfl rfl) Pe.int) .nil))) (tell_ahead (n + 2) h)) ?_)
  refine Ex.ite (Pb.cmp (Pe.ba ok 14 h (v 0 rfl rfl) rfl rfl) Pe.none (Cmp.notNone rfl)) (fun hb => by rw [notNone_none] at hb; cases hb) fun _ => Ex.nil ?_
  refine Ex.do I (Ev.mC ok (Pe.ba ok 2 h (v 0 rfl rfl) rfl rfl) cGap_ok (eg h).1 7 rfl (.cons (Pe.pred (v 1 rfl rfl) (Int.add_sub_cancel (i : Int) 1)) (.cons (v 2 rfl rfl) .nil)) (gap_put (n + 2) o.g (eg h) hi) fun r H1 r1 => ?_)
  have _ := r1.1; refine el1_3 r1.2 fun G og rg tg u => ?_; try clear r1
  have s1 := Step.gap h o og u
  refine Ex.do I (Ev.fC ok I gf_tell_behind (by kernel_rfl) (.cons (v 0 rfl rfl) (.cons (v 1 rfl rfl) (.cons (Pe.add (v 1 rfl rfl) Pe.int) (.cons Pe.int .nil)))) (tell_behind (n + 1) s1.has s1.ok) fun _ H2 r => ?_)
  refine el1_1 r fun B2 s2 p2 => ?_
  refine Ex.nil ⟨rfl, B2, s1.trans s2, ?_⟩
  rw [p2]
  show (⟨G.txt, _, _, _, _⟩ : PB) = _
  rw [tg]; rfl
end
noncomputable def subN (one other : Int) : Nat → Nat → List Int → List Int
  | 0, _, xs => xs
  | k + 1, s, xs => if (subN one other k s xs)[s + k]? = some one ∧ one ≠ other then (subN one other k s xs).set (s + k) other else subN one other k s xs
theorem subN_len (one other : Int) : ∀ (k s : Nat) (xs : List Int), (subN one other k s xs).length = xs.length
  | 0, _, _ => rfl
  | k + 1, s, xs => by
    unfold subN
    split
    · rw [List.length_set]; exact subN_len one other k s xs
    · exact subN_len one other k s xs
noncomputable def subP (p : PB) (lo hi one other : Int) : PB := { p with txt := subN one other (hi - lo).toNat (lo - 1).toNat p.txt }
theorem subst_codes (n : Nat) {H : AH} {b : Addr} {B : BD} (h : Has H (ents b B)) (o : B.ok b) {s e one other : Int} (w : B.p.wf) :
    FnSpec 522 (n + 5) [.ref b, .int s 0, .int e 0, .int one 0, .int other 0] H (fun v H' => (B.begv ≤ min s e ∧ max s e ≤ B.zv) ∧ ∃ B', Step b H B H' B' ∧ B'.p = subP B.p (min s e) (max s e) one other) (Xr B.p s e) := by
  refine FnSpec.introX (F := F522) F522_ok F522_b5 rfl fun c ok I hX hHX => ?_
  have v := Pe.vars ok I
  refine Ex.unpack2 ok I 5 6 rfl rfl (Ev.fX ok I gf_reached (by kernel_rfl) (.cons (v 0 rfl rfl) (.cons (v 1 rfl rfl) (.cons (v 2 rfl rfl) .nil))) (reached (n + 1) h) (fun sym x => by rw [hX]; exact x) (by rw [hHX]; exact Sub.rfl') fun _ H1 r => ?_)
  have r0 := r.1; refine el1_2 r.2 fun d1 z92 hd1 u => ?_; rcases z92 with rfl; try clear r
  refine ⟨d1, _, _, rfl, u _ _ (upd_same _ _ _), ?_⟩
  refine Ex.moved ?_ (Sub.trans' (Sub.upd_new hd1) u)
  have noX : ∀ sym, ¬ c.X sym := fun sym x => by rw [hX] at x; exact x.2 r0
  have r1 := r0.1; have r2 := r0.2; try clear r0
  have mm := min_max s e
  have b1 := w.b1
  have zt := w.zt
  have e1 : B.p.begv = B.begv := rfl
  have e2 : B.p.zv = B.zv := rfl
  have cap := o.g.cap
  have gl := o.g.len
  have g1 := o.g.le1
  have g2 := o.g.le2
  have e3 : B.p.txt.length = B.g.txt.length := rfl
  generalize min s e = lo at *
  generalize max s e = hi at *
  obtain ⟨l0, hl0⟩ : ∃ l0 : Nat, lo = (l0 : Int) + 1 := ⟨(lo - 1).toNat, by rw [tnI (Int.le_trans b1 r1)]; exact (Int.sub_add_cancel lo 1).symm⟩
  have el0 : (lo - 1).toNat = l0 := by rw [hl0, Int.add_sub_cancel]; rfl
  refine Ex.let I 7 rfl (Pe.ev Pe.int ?_)
  refine Ex.forR ok I noX 8 rfl (Ev.call ok (Pe.gb ok I gb_range (by kernel_rfl) (by decide +kernel)) (Solid.typ _) (CW.typ _) rfl (Pes.args (.cons (v 5 rfl rfl) (.cons (v 6 rfl rfl) .nil)) (CallJ.range2 ok fun r t u w hr => ⟨r, lo, hi, t, u, w, ofL (ents b B), fun i M' H3 => ∃ m pl Bi, M' = [some (.ref b), some (.int s 0), some (.int e 0), some (.int one 0), some (.int other 0), some (.int lo 0), some (.int hi 0), some (.int m 0), pl] ∧ H3 = ofL (ents b Bi) ∧ Bi.ok b ∧ Bi.ids = B.ids ∧ Bi.p = { B.p with txt := subN one other i l0 B.p.txt }, rfl, upd_same _ _ _, by lia, by lia, by lia, by lia, ?_, ⟨0, none, B, rfl, rfl, o, rfl, rfl⟩, ?_, ?_⟩)))
  · exact Sub.trans' h.ofL (Sub.upd_new hr)
  · rintro i M' H3 H' hi' ⟨m, pl, Bi, rfl, rfl, oi, idi, pi⟩ hS
    have hBi : Has H' (ents b Bi) := ofL_sub hS oi.nd
    have ep : lo + (i : Int) = ((l0 + i : Nat) : Int) + 1 := by rw [hl0, Int.natCast_add, Int.add_right_comm]
    rw [ep]
    have ebv : Bi.begv = B.begv := congrArg PB.begv pi
    have ezv : Bi.zv = B.zv := congrArg PB.zv pi
    have etx : Bi.g.txt = subN one other i l0 B.p.txt := congrArg PB.txt pi
    have elen : Bi.g.txt.length = B.p.txt.length := by rw [etx, subN_len]
    have hlt : l0 + i < Bi.g.txt.length := by lia
    have hget : Bi.g.txt[l0 + i]? = some (Bi.g.txt[l0 + i]) := List.getElem?_eq_getElem hlt
    generalize Bi.g.txt[l0 + i] = wv at hget
    refine Ex.ite (Pb.and (Pb.cmp (Pe.meth ok (v 0 rfl rfl) cBuf_ok (eb hBi) (List.mem_of_getElem? (i := 3) rfl) rfl rfl rfl (by decide) (.cons (v 8 rfl rfl) .nil) (CallP.fn ok (buf_code_at (n + 2) hBi oi (by lia) (by lia) hget))) (v 3 rfl rfl) (Cmp.int (op := .Eq) rfl)) fun _ => Pb.cmp (v 3 rfl rfl) (v 4 rfl rfl) (Cmp.int (op := .NotEq) rfl)) (fun hb => ?_) fun hb => Ex.nil (Ex.nil ?_)
    · simp only [iCmp, Bool.and_eq_true, beq_iff_eq, bne_iff_ne] at hb
      refine Ex.do I (Ev.fC ok I gf_change_sign (by kernel_rfl) (.cons (v 0 rfl rfl) (.cons (v 8 rfl rfl) (.cons (v 4 rfl rfl) .nil))) (change_sign n hBi oi (by lia) (by lia) hlt) fun _ H4 r => ?_)
      have _ := r.1; refine el1_1 r.2 fun B4 s4 p4 => ?_; try clear r
      refine Ex.let I 7 rfl (Pe.ev (Pe.add (v 7 rfl rfl) Pe.int) (Ex.nil (Ex.nil ⟨ofL (ents b B4), ⟨m + 1, some (.int (((l0 + i : Nat) : Int) + 1) 0), B4, rfl, rfl, s4.ok, s4.ids.trans idi, ?_⟩, s4.tr.toFwd⟩)))
      rw [p4, pi]
      have : subN one other (i + 1) l0 B.p.txt = (subN one other i l0 B.p.txt).set (l0 + i) other := by
        show (if _ then _ else _) = _
        rw [if_pos ⟨by rw [← etx, hget, hb.1], hb.2⟩]
      rw [this]
    · refine ⟨ofL (ents b Bi), ⟨m, _, Bi, rfl, rfl, oi, idi, ?_⟩, Fwd.refl hS⟩
      rw [pi]
      have : subN one other (i + 1) l0 B.p.txt = subN one other i l0 B.p.txt := by
        show (if _ then _ else _) = _
        rw [if_neg]
        rintro ⟨a1, a2⟩
        rw [← etx, hget] at a1
        cases a1
        simp [iCmp, a2] at hb
      rw [this]
  · rintro M' H3 H' ⟨m, pl, Bi, rfl, rfl, oi, idi, pi⟩ hF
    refine Ex.ret (Pe.ev (v 7 rfl rfl) ⟨⟨r1, r2⟩, Bi, ⟨oi, (Tr.ofFwd oi.nd hF).from (Sub.upd_new hr), idi⟩, ?_⟩)
    rw [pi]; unfold subP; rw [el0]
section
variable {c : Cx} {M : Mem} {H : AH} {n : Nat}
theorem Args.nil' {P : List Value → AH → Prop} (h : P [] H) : Args c M H [] P := h
theorem Ev.cat3 (ok : c.Ok n) {e1 e2 e3 : Expr} {p1 p2 : Pos} {d1 d2 d3 : Addr} {xs ys zs : List Int} {Q : Value → AH → Prop} (h1 : ∀ H, Pe c M H e1 (.ref d1)) (h2 : ∀ H, Pe c M H e2 (.ref d2)) (h3 : ∀ H, Pe c M H e3 (.ref d3))
    (l1 : H d1 = some (.list (intV xs))) (l2 : H d2 = some (.list (intV ys))) (l3 : H d3 = some (.list (intV zs))) (z1 : xs.length ≤ 2 ^ 20) (z2 : ys.length ≤ 2 ^ 20) (z3 : zs.length ≤ 2 ^ 20)
    (q : ∀ d H', Sub H H' → H d = none → H' d = some (.list (intV (xs ++ ys ++ zs))) → Q (.ref d) H') : Ev c M H (.BinOp (.BinOp e1 .Add e2 p1) .Add e3 p2) Q := by
  refine Ev.opJ (Ev.opJ ((h1 H).ev ((h2 H).ev (OpJ.catI ok l1 l2 (by exact Nat.le_trans (by assumption) (by decide)) (by lia) fun d hd => ?_))))
  refine (h3 _).ev (OpJ.catI ok (upd_same _ _ _) (Sub.upd_new hd _ _ l3) (by rw [List.length_append]; lia) (by lia) fun d' hd' => ?_)
  refine q d' _ (Sub.trans' (Sub.upd_new hd) (Sub.upd_new hd')) ?_ (upd_same _ _ _)
  cases z : H d' with
  | none => rfl
  | some o => rw [Sub.upd_new hd _ _ z] at hd'; cases hd'
end
noncomputable def sl (txt : List Int) (a b : Int) : List Int := (txt.drop (a - 1).toNat).take ((b - 1).toNat - (a - 1).toNat)
theorem sl_len {txt : List Int} {a b : Int} (h1 : 1 ≤ a) (h2 : a ≤ b) (h3 : b ≤ txt.length + 1) : ((sl txt a b).length : Int) = b - a := by
  unfold sl
  rw [List.length_take_of_le (by rw [List.length_drop]; exact Nat.sub_le_sub_right (tnZ h3) _), Int.ofNat_sub (tnM h2), tnI h1, tnI (Int.le_trans h1 h2), xs1]
theorem sl_le {txt : List Int} {a b : Int} : (sl txt a b).length ≤ txt.length :=
  Nat.le_trans (List.length_take_le' _ _) (by rw [List.length_drop]; exact Nat.sub_le _ _)
noncomputable def trQ (p : PB) (a b c d : Int) : PB := if sl p.txt a b ++ sl p.txt b c ++ sl p.txt c d = sl p.txt c d ++ sl p.txt b c ++ sl p.txt a b then p else repP p a d (sl p.txt c d ++ sl p.txt b c ++ sl p.txt a b)
noncomputable def trOrd (s1 e1 s2 e2 : Int) : Int × Int × Int × Int := if min s2 e2 < min s1 e1 then (min s2 e2, max s2 e2, min s1 e1, max s1 e1) else (min s1 e1, max s1 e1, min s2 e2, max s2 e2)
noncomputable abbrev inR (p : PB) (s e : Int) : Prop := p.begv ≤ min s e ∧ max s e ≤ p.zv
noncomputable abbrev errS : Str := "error"
noncomputable abbrev Xt4 (p : PB) (s1 e1 s2 e2 : Int) : Str → Prop := fun sym => (sym = aoor ∧ ¬ (inR p s1 e1 ∧ inR p s2 e2)) ∨ (sym = errS ∧ inR p s1 e1 ∧ inR p s2 e2 ∧ (trOrd s1 e1 s2 e2).2.2.1 < (trOrd s1 e1 s2 e2).2.1)
theorem transpose_regions (n : Nat) {H : AH} {b f1 f2 : Addr} {B : BD} (h : Has H (ents b B)) (o : B.ok b) {s1 e1 s2 e2 : Int} (w : B.p.wf) (hz : B.p.txt.length + B.p.txt.length + 16 ≤ 2 ^ 20) (h1 : H f1 = some (.tup [.int s1 0, .int e1 0])) (h2 : H f2 = some (.tup [.int s2 0, .int e2 0])) :
    FnSpec 529 (n + 8) [.ref b, .ref f1, .ref f2] H (fun v H' => (inR B.p s1 e1 ∧ inR B.p s2 e2 ∧ ¬ (trOrd s1 e1 s2 e2).2.2.1 < (trOrd s1 e1 s2 e2).2.1) ∧ ∃ B', Step b H B H' B' ∧ B'.p = trQ B.p (trOrd s1 e1 s2 e2).1 (trOrd s1 e1 s2 e2).2.1 (trOrd s1 e1 s2 e2).2.2.1 (trOrd s1 e1 s2 e2).2.2.2) (Xt4 B.p s1 e1 s2 e2) := by
  refine FnSpec.introX (F := F529) F529_ok F529_b3 rfl fun c ok I hX hHX => ?_
  have v := Pe.vars ok I
  have i0 : ∀ {M : Mem} {H : AH} {e : Expr} {a : Addr} {x y : Int} {k} {p pos : Pos}, Pe c M H e (.ref a) → H a = some (.tup [.int x 0, .int y 0]) → Pe c M H (.Subscript e (.Constant (.int 0) k p) pos) (.int x 0) := fun he ha => Pe.itemT he Pe.int ha (by decide) (by decide) rfl
  have i1 : ∀ {M : Mem} {H : AH} {e : Expr} {a : Addr} {x y : Int} {k} {p pos : Pos}, Pe c M H e (.ref a) → H a = some (.tup [.int x 0, .int y 0]) → Pe c M H (.Subscript e (.Constant (.int 1) k p) pos) (.int y 0) := fun he ha => Pe.itemT he Pe.int ha (by decide) (by decide) rfl
  refine Ex.unpackS2 ok I 3 4 rfl rfl (Ev.tup ok rfl (Ev.fX ok I gf_reached (by kernel_rfl) (.cons (v 0 rfl rfl) (.cons (i0 (v 1 rfl rfl) h1) (.cons (i1 (v 1 rfl rfl) h1) .nil))) (reached (n + 4) h) (fun sym x => by rw [hX]; exact .inl ⟨x.1, fun z => x.2 z.1⟩) (by rw [hHX]; exact Sub.rfl') fun _ H1 r => ?_)) (by rw [I.env]; rfl)
  have r1 := r.1; refine el1_2 r.2 fun d1 z92 hd1 u1 => ?_; rcases z92 with rfl; try clear r
  have S1 := Sub.trans' (Sub.upd_new hd1) u1
  refine Ev.fX ok I gf_reached (by kernel_rfl) (.cons (v 0 rfl rfl) (.cons (i0 (v 2 rfl rfl) (S1 _ _ h2)) (.cons (i1 (v 2 rfl rfl) (S1 _ _ h2)) .nil))) (reached (n + 4) (h.sub S1)) (fun sym x => by rw [hX]; exact .inl ⟨x.1, fun z => x.2 z.2⟩) (by rw [hHX]; exact S1) fun _ H2 r => ?_
  have r2 := r.1; refine el1_2 r.2 fun d2 z92 hd2 u2 => ?_; rcases z92 with rfl; try clear r
  have S2 := Sub.trans' (Sub.upd_new hd2) u2
  refine ⟨Nat.le_of_ble_eq_true rfl, fun d hd => ⟨d, _, _, rfl, upd_same _ _ _, ?_⟩⟩
  have g1 : (upd H2 d (.tup [.ref d1, .ref d2])) d1 = _ := Sub.upd_new hd _ _ (S2 _ _ (u1 _ _ (upd_same _ _ _)))
  have g2 : (upd H2 d (.tup [.ref d1, .ref d2])) d2 = _ := Sub.upd_new hd _ _ (u2 _ _ (upd_same _ _ _))
  have S3 : Sub H (upd H2 d (.tup [.ref d1, .ref d2])) := Sub.trans' S1 (Sub.trans' S2 (Sub.upd_new hd))
  have r1 : inR B.p s1 e1 := r1
  have r2 : inR B.p s2 e2 := r2
  refine Ex.iteM (fun M' H' => ∃ da db, M' = [some (.ref b), some (.ref f1), some (.ref f2), some (.ref da), some (.ref db), none, none, none, none] ∧ H' da = some (.tup [.int (trOrd s1 e1 s2 e2).1 0, .int (trOrd s1 e1 s2 e2).2.1 0]) ∧ H' db = some (.tup [.int (trOrd s1 e1 s2 e2).2.2.1 0, .int (trOrd s1 e1 s2 e2).2.2.2 0]) ∧ Sub H H')
    (Pb.cmp (i0 (v 3 rfl rfl) g1) (i0 (v 4 rfl rfl) g2) (Cmp.int (op := .Gt) rfl)) (fun hb => ?_) (fun hb => Ex.nil ⟨rfl, d1, d2, rfl, ?_⟩) fun M' H' r => ?_
  · have hb := of_decide_eq_true hb
    refine Ex.unpackS2 ok I 3 4 rfl rfl (Ev.tup ok rfl (Args.one (v 4 rfl rfl) (Args.one (v 3 rfl rfl) ⟨Nat.le_of_ble_eq_true rfl, fun d' hd' => ⟨d', _, _, rfl, upd_same _ _ _, Ex.nil ⟨rfl, d2, d1, rfl, ?_⟩⟩⟩))) (by rw [I.env]; rfl)
    unfold trOrd
    rw [if_pos hb]
    exact ⟨Sub.upd_new hd' _ _ g2, Sub.upd_new hd' _ _ g1, Sub.trans' S3 (Sub.upd_new hd')⟩
  · have hb := of_decide_eq_false hb
    unfold trOrd
    rw [if_neg hb]
    exact ⟨g1, g2, S3⟩
  refine el2_3 r fun da db z92 ga gb S4 => ?_; rcases z92 with rfl
  have facts : B.p.begv ≤ (trOrd s1 e1 s2 e2).1 ∧ (trOrd s1 e1 s2 e2).1 ≤ (trOrd s1 e1 s2 e2).2.1 ∧ (trOrd s1 e1 s2 e2).2.2.1 ≤ (trOrd s1 e1 s2 e2).2.2.2 ∧ (trOrd s1 e1 s2 e2).2.2.2 ≤ B.p.zv := by
    unfold trOrd
    split
    · exact ⟨r2.1, min_max _ _, min_max _ _, r1.2⟩
    · exact ⟨r1.1, min_max _ _, min_max _ _, r2.2⟩
  have hX' : ∀ sym, sym = errS → (trOrd s1 e1 s2 e2).2.2.1 < (trOrd s1 e1 s2 e2).2.1 → c.X sym := fun sym hs z => by rw [hX]; exact .inr ⟨hs, r1, r2, z⟩
  generalize hq : (trOrd s1 e1 s2 e2) = q at *
  obtain ⟨x1, x2, x3, x4⟩ := q
  dsimp only at *
  refine el0_3 facts fun fa fb fc fd => ?_
  have h4 := h.sub S4
  refine Ex.ite (Pb.cmp (i1 (v 3 rfl rfl) ga) (i0 (v 4 rfl rfl) gb) (Cmp.int (op := .Gt) rfl)) (fun hb => ?_) fun hb => Ex.nil ?_
  · exact Ex.raise ok (Pe.gl ok I gl_LispSignal (by kernel_rfl) (by decide +kernel)) rfl (Args.one Pe.str (Ev.list ok rfl (Args.one Pe.str ⟨Nat.le_of_ble_eq_true rfl, fun d hd => ⟨_, _, rfl, hX' _ rfl (of_decide_eq_true hb), by rw [hHX]; exact Sub.trans' S4 (Sub.upd_new hd)⟩⟩)))
  have hb := of_decide_eq_false hb
  have g1 := Int.le_trans w.b1 fa
  have g2 := Int.le_trans g1 fb
  have fm := Int.not_lt.mp hb
  have g3 := Int.le_trans g2 fm
  have k4 := Int.le_trans fd w.zt
  have k3 := Int.le_trans fc k4
  have k2 := Int.le_trans fm k3
  have f14 := Int.le_trans fb (Int.le_trans fm fc)
  refine Ex.unpackS2 ok I 5 6 rfl rfl (Ev.tup ok rfl (Ev.mC ok (v 0 rfl rfl) cBuf_ok (eb h4) 4 rfl (.cons (i0 (v 3 rfl rfl) ga) (.cons (i1 (v 3 rfl rfl) ga) .nil)) (buf_codes (n + 5) h4 o (tnI g1).symm (tnI g2).symm (tnM fb) (tnZ k2)) fun _ H5 r => ?_)) (by rw [I.env]; rfl)
  refine el1_2 r fun t1 z91 ht1 ut1 => ?_; rcases z91 with rfl
  have S5 := Sub.trans' (Sub.upd_new ht1) ut1
  refine Ev.mC ok (v 0 rfl rfl) cBuf_ok (eb (h4.sub S5)) 4 rfl (.cons (i1 (v 3 rfl rfl) (S5 _ _ ga)) (.cons (i0 (v 4 rfl rfl) (S5 _ _ gb)) .nil)) (buf_codes (n + 5) (h4.sub S5) o (tnI g2).symm (tnI g3).symm (tnM fm) (tnZ k3)) fun _ H6 r => ?_
  refine el1_2 r fun t2 z91 ht2 ut2 => ?_; rcases z91 with rfl
  have S6 := Sub.trans' (Sub.upd_new ht2) ut2
  refine ⟨Nat.le_of_ble_eq_true rfl, fun d' hd' => ⟨d', _, _, rfl, upd_same _ _ _, ?_⟩⟩
  have S7 := Sub.upd_new (o := .tup [.ref t1, .ref t2]) hd'
  have S47 := Sub.trans' S5 (Sub.trans' S6 S7)
  refine Ex.let I 7 rfl (Ev.mC ok (v 0 rfl rfl) cBuf_ok (eb (h4.sub S47)) 4 rfl (.cons (i0 (v 4 rfl rfl) (S47 _ _ gb)) (.cons (i1 (v 4 rfl rfl) (S47 _ _ gb)) .nil)) (buf_codes (n + 5) (h4.sub S47) o (tnI g3).symm (tnI (Int.le_trans g3 fc)).symm (tnM fc) (tnZ k4)) fun _ H8 r => ?_)
  refine el1_2 r fun t3 z91 ht3 ut3 => ?_; rcases z91 with rfl
  have S8 := Sub.trans' (Sub.upd_new ht3) ut3
  have l1 : H8 t1 = some (.list (intV (sl B.p.txt x1 x2))) := S8 _ _ (S7 _ _ (S6 _ _ (ut1 _ _ (upd_same _ _ _))))
  have l2 : H8 t2 = some (.list (intV (sl B.p.txt x2 x3))) := S8 _ _ (S7 _ _ (ut2 _ _ (upd_same _ _ _)))
  have l3 : H8 t3 = some (.list (intV (sl B.p.txt x3 x4))) := ut3 _ _ (upd_same _ _ _)
  have S48 := Sub.trans' S47 S8
  have SH := Sub.trans' S4 S48
  have h8 := h.sub SH
  have n1 := sl_len (txt := B.p.txt) g1 fb k2
  have n2 := sl_len (txt := B.p.txt) g2 fm k3
  have n3 := sl_len (txt := B.p.txt) g3 fc k4
  have l20 := Nat.le_of_add_right_le (Nat.le_of_add_right_le hz)
  have z1 := Nat.le_trans (sl_le (txt := B.p.txt) (a := x1) (b := x2)) l20
  have z2 := Nat.le_trans (sl_le (txt := B.p.txt) (a := x2) (b := x3)) l20
  have z3 := Nat.le_trans (sl_le (txt := B.p.txt) (a := x3) (b := x4)) l20
  refine Ex.ite (b := true) (Pb.cmp (Pe.ba ok 15 h8 (v 0 rfl rfl) rfl rfl) Pe.none (Cmp.isNone rfl)) (fun _ => ?_) fun hb => by cases hb
  refine Ex.iteT (Tv.cmp (Ev.cat3 ok (fun H => v 5 rfl rfl) (fun H => v 6 rfl rfl) (fun H => v 7 rfl rfl) l1 l2 l3 z1 z2 z3 fun da' Ha Sa hda ga' => ?_))
  refine Ev.cat3 ok (fun H => v 7 rfl rfl) (fun H => v 6 rfl rfl) (fun H => v 5 rfl rfl) (Sa _ _ l3) (Sa _ _ l2) (Sa _ _ l1) z3 z2 z1 fun db' Hb Sb hdb gb' => ?_
  refine ⟨_, Cmp.neD ok (Rd.ints (Sb _ _ ga')) (Rd.ints gb') (lay_ints _) (lay_ints _), ?_⟩
  refine Ex.moved ?_ (Sub.trans' Sa Sb)
  rw [eqv_ints]
  by_cases he : sl B.p.txt x1 x2 ++ sl B.p.txt x2 x3 ++ sl B.p.txt x3 x4 = sl B.p.txt x3 x4 ++ sl B.p.txt x2 x3 ++ sl B.p.txt x1 x2
  · rw [show (!(sl B.p.txt x1 x2 ++ sl B.p.txt x2 x3 ++ sl B.p.txt x3 x4 == sl B.p.txt x3 x4 ++ sl B.p.txt x2 x3 ++ sl B.p.txt x1 x2)) = false by simp [he]]
    refine Ex.nil (Ex.retN ⟨⟨r1, r2, hb⟩, B, ((Step.refl h8 o).from SH), ?_⟩)
    unfold trQ; rw [if_pos he]
  · rw [show (!(sl B.p.txt x1 x2 ++ sl B.p.txt x2 x3 ++ sl B.p.txt x3 x4 == sl B.p.txt x3 x4 ++ sl B.p.txt x2 x3 ++ sl B.p.txt x1 x2)) = true by simpa using he]
    refine Ex.do I (Ev.call ok (f := .ref 508) (Pe.gl ok I gf_replace.g (by kernel_rfl) gf_replace.nd) (Solid.ref _) (CW.ref gf_replace.kp) rfl (Args.one (v 0 rfl rfl) (Args.one (i0 (v 3 rfl rfl) (S48 _ _ ga)) (Args.one (i1 (v 4 rfl rfl) (S48 _ _ gb)) (Ev.cat3 ok (fun H => v 7 rfl rfl) (fun H => v 6 rfl rfl) (fun H => v 5 rfl rfl) l3 l2 l1 z3 z2 z1 fun dc Hc Sc hdc gc => ?_)))))
    have mi : min x1 x4 = x1 := Int.min_eq_left f14
    have ma : max x1 x4 = x4 := Int.max_eq_right f14
    refine Args.nil' ?_
    refine CallJ.fnX ok (replace n (h8.sub Sc) o w (by rw [List.length_append, List.length_append]; lia) gc (fun q => by refine Exists.elim (h8.key q) fun o' ho => ?_; rw [hdc] at ho; cases ho)) (fun v' H9 r => ?_) (fun sym x => (x.2 (by rw [mi, ma]; exact ⟨fa, fd⟩)).elim) (by rw [hHX]; exact Sub.trans' SH Sc)
    have _ := r.1; refine el1_1 r.2 fun B9 s9 p9 => ?_; try clear r
    rw [mi, ma] at p9
    refine Ex.nil (Ex.retN ⟨⟨r1, r2, hb⟩, B9, s9.from (Sub.trans' SH Sc), ?_⟩)
    rw [p9]; unfold trQ; rw [if_neg he]
structure PC where
  a : Addr
  ca : Addr
  ra : Addr
  cs : List Int
noncomputable def pcL (p : PC) : HL := [(p.a, .inst cPiece [.ref p.ca, .ref p.ra]), (p.ca, .list (intV p.cs)), (p.ra, .list [])]
theorem pc1 {H : AH} {p : PC} (h : Has H (pcL p)) : H p.a = some (.inst cPiece [.ref p.ca, .ref p.ra]) := h.head
theorem pc2 {H : AH} {p : PC} (h : Has H (pcL p)) : H p.ca = some (.list (intV p.cs)) := h.tail.head
theorem pc3 {H : AH} {p : PC} (h : Has H (pcL p)) : H p.ra = some (.list []) := h.tail.tail.head
noncomputable abbrev New (H : AH) (l : HL) (H' : AH) : Prop := Tr [] H l H'
theorem Tr.sub {l' : HL} {H H' : AH} (x : New H l' H') : Sub H H' := fun a o e => (x.2 a o (by simp) e).1
theorem Tr.fresh {l' : HL} {H H' : AH} (x : New H l' H') {a : Addr} (ha : a ∈ ks l') : H a = none := by
  cases q : H a with
  | none => rfl
  | some o => exact absurd ha (x.2 a o (by simp) q).2
theorem New.of {H H' : AH} (s : Sub H H') : New H [] H' := ⟨Has.nil, fun a o _ e => ⟨s a o e, by simp⟩⟩
theorem New.add {l : HL} {H H' H'' : AH} {d : Addr} {o : AO} (x : New H l H') (hd : H' d = none) (s : Sub (upd H' d o) H'') : New H ((d, o) :: l) H'' := (Tr.new x hd).more s
theorem New.then {l l' : HL} {H H' H'' : AH} (x : New H l H') (y : New H' l' H'') : New H (l ++ l') H'' := by
  refine ⟨(x.1.sub y.sub).app y.1, fun a o n e => ⟨y.sub _ _ (x.sub _ _ e), fun q => ?_⟩⟩
  rw [show ks (l ++ l') = ks l ++ ks l' from List.map_append] at q
  rcases List.mem_append.mp q with q | q
  · rw [x.fresh q] at e; cases e
  · have := y.fresh q; rw [x.sub _ _ e] at this; cases this
theorem New.less {l l' : HL} {H H' : AH} (x : New H l H') (s : ∀ p ∈ l', p ∈ l) : New H l' H' := Tr.less x s
theorem New.moreS {l : HL} {H H' H'' : AH} (x : New H l H') (s : Sub H' H'') : New H l H'' := Tr.more x s
theorem New.fromS {l : HL} {K H H' : AH} (x : New H l H') (s : Sub K H) : New K l H' := Tr.from x s
theorem Tr.thenNew {l l' m : HL} {H H' H'' : AH} (x : Tr l H l' H') (y : New H' m H'') : Tr l H (l' ++ m) H'' := by
  refine ⟨(x.1.sub y.sub).app y.1, fun a o n e => ?_⟩
  have zq := x.2 a o n e; have e1 := zq.1; have n1 := zq.2
  refine ⟨y.sub _ _ e1, fun q => ?_⟩
  rw [show ks (l' ++ m) = ks l' ++ ks m from List.map_append] at q
  rcases List.mem_append.mp q with q | q
  · exact n1 q
  · have := y.fresh q; rw [e1] at this; cases this
noncomputable def Run (H : AH) (y : Value) : Prop := ∃ ta s e pl, y = .ref ta ∧ H ta = some (.tup [.int s 0, .int e 0, .ref pl]) ∧ H pl = some (.list [])
theorem Run.sub {H H' : AH} {y : Value} (r : Run H y) (s : Sub H H') : Run H' y := let ⟨ta, a, e, pl, h1, h2, h3⟩ := r; ⟨ta, a, e, pl, h1, s _ _ h2, s _ _ h3⟩
theorem minus_sub (H : AH) (a : Addr) : Sub (minus H a) H := fun b o e => by
  unfold minus at e
  split at e
  · cases e
  · exact e
theorem minus_self (H : AH) (a : Addr) : minus H a a = none := by unfold minus; rw [if_pos rfl]
theorem Run.minus {H : AH} {y : Value} {l : Addr} {xs : List Value} (r : Run H y) (hl : H l = some (.list xs)) (hx : xs ≠ []) : Run (minus H l) y := by
  refine el4_2 r fun ta a e pl h1 h2 h3 => ?_
  have q1 : ta ≠ l := ne_of h2 hl (by intro h; cases h)
  have q2 : pl ≠ l := ne_of h3 hl (by intro h; cases h; exact hx rfl)
  exact ⟨ta, a, e, pl, h1, by unfold Nw.minus; rw [if_neg q1]; exact h2, by unfold Nw.minus; rw [if_neg q2]; exact h3⟩
theorem Fwd.back {H H3 H' : AH} {l : Addr} {xs : List Value} (s : Sub (minus H l) H3) (hl : H l = some (.list xs)) (f : Fwd (minus H l) H H3 H') : Sub H H' := fun a o e => by
  by_cases q : a = l
  · subst q; exact (f.2 a o (minus_self _ _) e).2
  · exact f.1 a o (s a o (by unfold minus; rw [if_neg q]; exact e))
theorem piece_init (n : Nat) {H : AH} {x u v : Addr} (hx : H x = some (.inst cPiece [])) : FnSpec 571 (n + 1) [.ref x, .ref u, .ref v] H (fun r H' => r = .none ∧ Sub (upd H x (.inst cPiece [.ref u, .ref v])) H') NoX := by
  refine FnSpec.intro (F := F571) F571_ok F571_b3 rfl fun c ok I => ?_
  have v := Pe.vars ok I
  refine Ex.setA ok cPiece_ok (by decide) 0 rfl (Pe.ev (v 1 rfl rfl) ⟨rfl, v 0 rfl rfl, _, hx, Nat.le_of_ble_eq_true rfl, ?_⟩)
  refine Ex.setA ok cPiece_ok (by decide) 1 rfl (Pe.ev (v 2 rfl rfl) ⟨rfl, v 0 rfl rfl, _, upd_same _ _ _, Nat.le_of_ble_eq_true rfl, Ex.nil ⟨rfl, ?_⟩⟩)
  rw [upd_upd]; exact Sub.rfl'
theorem tidy_runs (n : Nat) {H : AH} {r : Addr} {ts : List Value} (hr : H r = some (.list ts)) (ht : ∀ t ∈ ts, Run H t) : FnSpec 585 (n + 1) [.ref r] H (fun v H' => ∃ d, v = .ref d ∧ New H [(d, .list [])] H') NoX := by
  refine FnSpec.introX (F := F585) F585_ok F585_b1 rfl fun c ok I hX hHX => ?_
  have v := Pe.vars ok I
  refine Ex.let I 1 rfl (Ev.list ok rfl ⟨Nat.le_of_ble_eq_true rfl, fun d hd => ?_⟩)
  have S := Sub.upd_new (o := .list []) hd
  have nw : New H [(d, .list [])] (upd H d (.list [])) := (New.of Sub.rfl').add hd Sub.rfl'
  have hr' := S _ _ hr
  refine Ex.forL ok (fun sym => by rw [hX]; exact id) (Pe.ev (v 0 rfl rfl) ⟨r, ts, minus (upd H d (.list [])) r, fun i M' H3 => (∃ x y z, M' = [some (.ref r), some (.ref d), x, y, z, none]) ∧ H3 = minus (upd H d (.list [])) r, rfl, hr', minus_self _ _, minus_sub _ _, ⟨⟨_, _, _, rfl⟩, rfl⟩, ?_, ?_⟩)
  · rintro i M' H3 H' y hy ⟨⟨x1, x2, x3, rfl⟩, rfl⟩ hS
    have hy' := List.mem_of_getElem? hy
    refine el4_2 ((((ht y hy').sub S).minus hr' (fun q => by rw [q] at hy'; cases hy')).sub hS) fun ta s e pl z94 g1 g2 => ?_; rcases z94 with rfl
    refine Asg.tup ok g1 rfl rfl (Asg.name I 2 rfl (Asg.name I 3 rfl (Asg.name I 4 rfl ?_)))
    refine Ex.ite (Pb.and (Pb.cmp (v 2 rfl rfl) (v 3 rfl rfl) (Cmp.int (op := .Lt) rfl)) fun _ => Pb.cmp (Pe.len ok I (xs := []) (v 4 rfl rfl) g2 (by decide) rfl (by kernel_rfl)) Pe.int (Cmp.int (op := .Gt) rfl)) (fun hb => ?_) fun hb => Ex.nil (Ex.nil ?_)
    · simp [iCmp] at hb
    · exact ⟨_, ⟨⟨_, _, _, rfl⟩, rfl⟩, Fwd.refl hS⟩
  · rintro M' H3 H' ⟨⟨x1, x2, x3, rfl⟩, rfl⟩ hF
    exact Ex.ret (Pe.ev (v 1 rfl rfl) ⟨d, rfl, nw.moreS (Fwd.back Sub.rfl' hr' hF)⟩)
theorem moved_runs (n : Nat) {H : AH} {r : Addr} {k : Int} (hr : H r = some (.list [])) : FnSpec 590 (n + 1) [.ref r, .int k 0] H (fun v H' => ∃ d, v = .ref d ∧ New H [(d, .list [])] H') NoX := by
  refine FnSpec.introX (F := F590) F590_ok F590_b2 rfl fun c ok I hX hHX => ?_
  have v := Pe.vars ok I
  refine Ex.ret (Ev.comp ok I (fun sym => by rw [hX]; exact id) (ns := []) (caps := []) ?_ fun _ => (Pe.ev (v 0 rfl rfl) (.inl ⟨r, [], minus H r, fun _ H3 ys => ys = [] ∧ H3 = minus H r, rfl, hr, minus_self _ _, minus_sub _ _, by decide, ⟨rfl, rfl⟩, fun _ _ _ _ _ _ _ e => by simp at e, ?_⟩)))
  · exact ⟨by decide +kernel, by rfl, by decide +kernel, (fun _ h => nomatch h), List.nodup_nil, (fun _ h => nomatch h), by decide +kernel⟩
  · rintro H3 H' ys d ⟨rfl, rfl⟩ hF hd
    exact ⟨d, rfl, (New.of (Fwd.back Sub.rfl' hr hF)).add hd Sub.rfl'⟩
theorem lookup_relabel_other {env : Env} : ∀ {names : List (Str × NameKind)} {x : Str} {k : NameKind}, k ≠ .free → names.lookup x = some k →
    (names.map fun (n, k) => if (k == NameKind.free && env.scope.kind == .function && env.kindOf n == some .cell) then (n, NameKind.cell) else (n, k)).lookup x = some k
  | [], _, _, _, h => by simp at h
  | (n, k') :: r, x, k, hk, h => by
    have ih := @lookup_relabel_other env r x k hk
    show List.lookup x ((if (k' == NameKind.free && env.scope.kind == .function && env.kindOf n == some .cell) = true then (n, NameKind.cell) else (n, k')) :: _) = _
    cases hx : x == n with
    | true =>
      simp only [List.lookup_cons, hx] at h
      cases h
      rw [if_neg (by cases k' <;> first | exact absurd rfl hk | simp)]
      simp [List.lookup_cons, hx]
    | false =>
      simp only [List.lookup_cons, hx] at h
      by_cases hc : (k' == NameKind.free && env.scope.kind == .function && env.kindOf n == some .cell) = true
      · rw [if_pos hc]; simp only [List.lookup_cons, hx]; exact ih h
      · rw [if_neg hc]; simp only [List.lookup_cons, hx]; exact ih h
theorem comp_kind {c : Cx} {F : Fn} {M : Mem} {C : Addr} {sc : Scope} {ns : List Str} {caps : List (Str × Nat)} {x : Str} {k : NameKind} (h : sc.names.lookup x = some k) (hk : k ≠ .free := by decide) : kindIs (c.comp F M C sc ns caps).env x k := lookup_relabel_other hk h
section
variable {c : Cx} {M : Mem} {H : AH} {n : Nat} {F : Fn}
theorem Ev.listK (ok : c.Ok n) {e : Expr} {p pos : Pos} {a : Addr} {xs : List Value} {Q : Value → AH → Prop} (hk : kindIs c.env "list" .globalImplicit) (he : Pe c M H e (.ref a)) (ha : H a = some (.list xs)) (hz : xs.length ≤ sizeLine) (q : ∀ d, H d = none → Q (.ref d) (upd H d (.list xs))) (hn : noStar [e] = true := by rfl) : Ev c M H (.Call (.Name "list" p) [e] [] pos) Q :=
  Ev.call ok (Pe.blt ok gb_list hk (by decide +kernel)) (Solid.typ _) (CW.typ _) hn (Pes.args (.cons he .nil) (CallJ.listOf ok ha hz q))
theorem Ev.piece (ok : c.Ok (n + 2)) (I : InFn c F) {e1 e2 : Expr} {p pos : Pos} {Q : Value → AH → Prop} (hk : F.sc.names.lookup ("Piece" : Str) = some .globalImplicit)
    (h : Ev c M H e1 fun v1 H1 => Ev c M H1 e2 fun v2 H2 => ∃ u v, v1 = .ref u ∧ v2 = .ref v ∧ ∀ x H', H2 x = none → Sub (upd H2 x (.inst cPiece [.ref u, .ref v])) H' → Q (.ref x) H') (hn : noStar [e1, e2] = true := by rfl) : Ev c M H (.Call (.Name "Piece" p) [e1, e2] [] pos) Q := by
  refine Ev.call ok (f := .ref cPiece.addr) (Pe.gl ok I gl_Piece hk (by decide +kernel)) (Solid.ref _) cPiece_mk.cw hn ?_
  refine Ev.mono h fun v1 H1 h1 => Ev.mono h1 fun v2 H2 ⟨u, v, e1, e2, q⟩ => Args.nil' ?_
  subst e1 e2
  exact CallJ.make ok cPiece_mk fun x hx => FnSpec.sub (piece_init n (upd_same _ _ _)) fun _ H' r => ⟨r.1, q x H' hx (by rw [upd_upd] at r; exact r.2)⟩
end
theorem pc_nd {x u v : Addr} {cs : List Int} (h1 : x ≠ u) (h2 : x ≠ v) (h3 : u ≠ v) : (ks (pcL ⟨x, u, v, cs⟩)).Nodup := by
  show [x, u, v].Nodup
  simp [h1, h2, h3]
theorem piece_joined (n : Nat) {H : AH} {p1 p2 : PC} (h1 : Has H (pcL p1)) (h2 : Has H (pcL p2)) (z1 : p1.cs.length ≤ 2 ^ 20) (z2 : p2.cs.length ≤ 2 ^ 20) :
    FnSpec 597 (n + 3) [.ref p1.a, .ref p2.a] H (fun v H' => ∃ p : PC, v = .ref p.a ∧ p.cs = p1.cs ++ p2.cs ∧ (ks (pcL p)).Nodup ∧ New H (pcL p) H') NoX := by
  refine FnSpec.introX (F := F597) F597_ok F597_b2 rfl fun c ok I hX hHX => ?_
  have v := Pe.vars ok I
  refine Ex.ret (Ev.piece ok I (by kernel_rfl) (Ev.opJ ((Pe.attr ok cPiece_ok 0 (v 0 rfl rfl) (pc1 h1) rfl rfl rfl).ev ((Pe.attr ok cPiece_ok 0 (v 1 rfl rfl) (pc1 h2) rfl rfl rfl).ev (OpJ.catI ok (pc2 h1) (pc2 h2) (by exact Nat.le_trans (by assumption) (by decide)) (by lia) fun d1 hd1 => ?_)))))
  have S1 := Sub.upd_new (o := .list (intV (p1.cs ++ p2.cs))) hd1
  have N1 : New H [(d1, .list (intV (p1.cs ++ p2.cs)))] (upd H d1 (.list (intV (p1.cs ++ p2.cs)))) := (New.of Sub.rfl').add hd1 Sub.rfl'
  have g1 := h1.sub S1
  have g2 := h2.sub S1
  refine Ev.call ok (f := .ref 585) (Pe.gl ok I gf_tidy_runs.g (by kernel_rfl) gf_tidy_runs.nd) (Solid.ref _) (CW.ref gf_tidy_runs.kp) rfl (Ev.opJ ((Pe.attr ok cPiece_ok 1 (v 0 rfl rfl) (pc1 g1) rfl rfl rfl).ev (Ev.fC ok I gf_moved_runs (by kernel_rfl) (.cons (Pe.attr ok cPiece_ok 1 (v 1 rfl rfl) (pc1 g2) rfl rfl rfl) (.cons (Pe.len ok I (Pe.attr ok cPiece_ok 0 (v 0 rfl rfl) (pc1 g1) rfl rfl rfl) (pc2 g1) (by lia) rfl (by kernel_rfl)) .nil)) (moved_runs (n + 1) (pc3 g2)) fun _ H2 r => ?_)))
  refine el1_1 r fun d2 z91 N2 => ?_; rcases z91 with rfl
  refine OpJ.cat ok (xs := []) (ys := []) (N2.sub _ _ (pc3 g1)) N2.1.head (by decide) fun d3 hd3 => Args.nil' ?_
  refine CallJ.fn ok (tidy_runs (n + 1) (ts := []) (upd_same _ _ _) (fun _ h => nomatch h)) fun _ H4 r => ?_
  refine el1_1 r fun d4 z91 N4 => ?_; rcases z91 with rfl
  refine ⟨d1, d4, rfl, rfl, fun x H5 hx S5 => ⟨⟨x, d1, d4, p1.cs ++ p2.cs⟩, rfl, rfl, ?_, ?_⟩⟩
  · have f1 : upd H2 d3 (.list ([] ++ [])) d1 = some (.list (intV (p1.cs ++ p2.cs))) := Sub.upd_new hd3 _ _ (N2.sub _ _ (upd_same _ _ _))
    exact pc_nd (ne_new (N4.sub _ _ f1) hx).symm (ne_new N4.1.head hx).symm (ne_new f1 (N4.fresh (by simp [ks])))
  exact ((((N1.then N2).add hd3 Sub.rfl').then N4).add hx S5).less fun q hq => by
    simp only [pcL, List.mem_cons, List.not_mem_nil, or_false, List.cons_append, List.nil_append, List.mem_append] at hq ⊢
    rcases hq with h | h | h <;> simp [h]
theorem piece_without (n : Nat) {H : AH} {p1 : PC} {u : Value} (h1 : Has H (pcL p1)) (z1 : p1.cs.length ≤ 2 ^ 20) :
    FnSpec 602 (n + 3) [.ref p1.a, u] H (fun v H' => ∃ p : PC, v = .ref p.a ∧ p.cs = p1.cs ∧ (ks (pcL p)).Nodup ∧ New H (pcL p) H') NoX := by
  refine FnSpec.introX (F := F602) F602_ok F602_b2 rfl fun c ok I hX hHX => ?_
  have v := Pe.vars ok I
  refine Ex.let I 2 rfl (Ev.list ok rfl ⟨Nat.le_of_ble_eq_true rfl, fun d hd => ?_⟩)
  have N0 : New H [(d, .list [])] (upd H d (.list [])) := (New.of Sub.rfl').add hd Sub.rfl'
  have g0 := h1.sub N0.sub
  refine Ex.forNil ok (fun sym => by rw [hX]; exact id) (Pe.ev (Pe.attr ok cPiece_ok 1 (v 0 rfl rfl) (pc1 g0) rfl rfl rfl) ⟨p1.ra, rfl, pc3 g0, fun H1 s1 => ?_⟩)
  have g1 := g0.sub s1
  have N1 := N0.moreS s1
  refine Ex.ret (Ev.piece ok I (by kernel_rfl) (Ev.listC ok I (by kernel_rfl) (Pe.attr ok cPiece_ok 0 (v 0 rfl rfl) (pc1 g1) rfl rfl rfl) (pc2 g1) (by rw [intV_len]; exact Nat.le_trans z1 (by decide)) fun d1 hd1 => ?_))
  have N2 := N1.add (o := .list (intV p1.cs)) hd1 Sub.rfl'
  refine Ev.fC ok I gf_tidy_runs (by kernel_rfl) (.cons (v 2 rfl rfl) .nil) (tidy_runs (n + 1) (r := d) (ts := []) (N2.1 (d, .list []) (by simp)) (fun _ h => nomatch h)) fun _ H4 r => ?_
  refine el1_1 r fun d4 z91 N4 => ?_; rcases z91 with rfl
  refine ⟨d1, d4, rfl, rfl, fun x H5 hx S5 => ⟨⟨x, d1, d4, p1.cs⟩, rfl, rfl, ?_, ?_⟩⟩
  · exact pc_nd (ne_new (N4.sub _ _ (upd_same _ _ _)) hx).symm (ne_new N4.1.head hx).symm (ne_new (upd_same _ _ _) (N4.fresh (by simp [ks])))
  exact ((N2.then N4).add hx S5).less fun q hq => by
    simp only [pcL, List.mem_cons, List.not_mem_nil, or_false, List.cons_append, List.nil_append, List.mem_append] at hq ⊢
    rcases hq with h | h | h <;> simp [h]
theorem plist_rows (n : Nat) {H : AH} {b : Addr} {B : BD} (h : Has H (ents b B)) {s e : Int} : FnSpec 712 (n + 1) [.ref b, .int s 0, .int e 0] H (fun v H' => ∃ d ts, v = .ref d ∧ H' d = some (.list ts) ∧ ts.length ≤ 1 ∧ (∀ t ∈ ts, Run H' t) ∧ Sub H H') NoX := by
  refine FnSpec.introX (F := F712) F712_ok F712_b3 rfl fun c ok I hX hHX => ?_
  have v := Pe.vars ok I
  refine Ex.ite (b := true) (Pb.cmp (Pe.ba ok 15 h (v 0 rfl rfl) rfl rfl) Pe.none (Cmp.isNone rfl)) (fun _ => ?_) fun hb => by cases hb
  refine Ex.ret (Ev.ite (Pb.cmp (v 1 rfl rfl) (v 2 rfl rfl) (Cmp.int (op := .Lt) rfl)) (fun _ => ?_) fun _ => ?_)
  · refine Ev.list ok rfl (Ev.tup ok rfl (Args.one (v 1 rfl rfl) (Args.one (v 2 rfl rfl) (Ev.list ok rfl ⟨Nat.le_of_ble_eq_true rfl, fun pl hp => Args.nil' ⟨Nat.le_of_ble_eq_true rfl, fun ta ht => Args.nil' ⟨Nat.le_of_ble_eq_true rfl, fun d hd => ⟨d, [.ref ta], rfl, upd_same _ _ _, Nat.le_refl _, fun t hm => ?_, ?_⟩⟩⟩⟩))))
    · rw [List.mem_singleton.mp hm]
      exact ⟨ta, s, e, pl, rfl, Sub.upd_new hd _ _ (upd_same _ _ _), Sub.upd_new hd _ _ (Sub.upd_new ht _ _ (upd_same _ _ _))⟩
    · exact Sub.trans' (Sub.upd_new hp) (Sub.trans' (Sub.upd_new ht) (Sub.upd_new hd))
  · exact Ev.list ok rfl ⟨Nat.le_of_ble_eq_true rfl, fun d hd => ⟨d, [], rfl, upd_same _ _ _, by decide, fun _ h => (nomatch h), Sub.upd_new hd⟩⟩
theorem len1L {α : Type} {n : Nat} {l : List α} (h : l.length = n + 1) : ∃ a t, l = a :: t ∧ t.length = n := by
  cases l with
  | nil => cases h
  | cons a t => exact ⟨a, t, rfl, Nat.succ.inj h⟩
theorem len3L {α : Type} {l : List α} (h : l.length = 3) : ∃ a b c, l = [a, b, c] := by
  refine el2_1 (len1L h) fun a t e1 h1 => ?_
  refine el2_1 (len1L h1) fun b u e2 h2 => ?_
  refine Exists.elim (List.length_eq_one_iff.mp h2) fun c e3 => ?_
  exact ⟨a, b, c, by rw [e1, e2, e3]⟩
theorem piece_of (n : Nat) {H : AH} {b : Addr} {B : BD} (h : Has H (ents b B)) (o : B.ok b) {s e : Int} (h1 : 1 ≤ s) (h2 : s ≤ e) (h3 : e ≤ B.p.txt.length + 1) :
    FnSpec 717 (n + 3) [.ref b, .int s 0, .int e 0] H (fun v H' => ∃ p : PC, v = .ref p.a ∧ p.cs = sl B.p.txt s e ∧ (ks (pcL p)).Nodup ∧ New H (pcL p) H') NoX := by
  refine FnSpec.introX (F := F717) F717_ok F717_b3 rfl fun c ok I hX hHX => ?_
  have v := Pe.vars ok I
  have noX : ∀ sym, ¬ c.X sym := fun sym => by rw [hX]; exact id
  refine Ex.letComp ok I noX (ns := ["low", "high", "plist"]) (caps := [("start", 1)]) ?co 3 rfl (by rw [I.env]; rfl) fun co => (Ev.fC ok I gf_plist_rows (by kernel_rfl) (.cons (v 0 rfl rfl) (.cons (v 1 rfl rfl) (.cons (v 2 rfl rfl) .nil))) (plist_rows (n + 1) h) fun _ H1 r => ?_)
  case co => exact ⟨by decide +kernel, by rfl, by decide +kernel, by decide +kernel, by decide +kernel, by decide +kernel, by decide +kernel⟩
  refine el2_4 r fun l ts z92 hl hlen hruns S1 => ?_; rcases z92 with rfl
  refine .inl ⟨l, ts, minus H1 l, fun _ H3 ys => Sub (minus H1 l) H3 ∧ ∀ y ∈ ys, Run H3 y, rfl, hl, minus_self _ _, minus_sub _ _, Nat.le_trans hlen (by decide), ⟨Sub.rfl', fun _ h => (nomatch h)⟩, ?_, ?_⟩
  · rintro C i us H3 H' ys y hy ⟨i1, i2⟩ hS hu
    have hm := List.mem_of_getElem? hy
    refine el4_2 ((((hruns y hm).minus hl (fun q => by rw [q] at hm; cases hm)).sub i1).sub hS) fun ta x1 x2 pl z94 g1 g2 => ?_; rcases z94 with rfl
    have okc := comp_ok (M := [some (.ref b), some (.int s 0), some (.int e 0), none]) (C := C) ok I co
    refine el3_0 (len3L hu) fun u1 u2 u3 z93 => ?_; rcases z93 with rfl
    · skip
      refine Asg.tup okc g1 rfl rfl (Asg.cname I co 0 rfl (Asg.cname I co 1 rfl (Asg.cname I co 2 rfl ⟨true, rfl, fun _ => ?_, fun hb => by cases hb⟩)))
      refine Ev.tup okc rfl (Args.one (Pe.sub (Pe.name okc 0 rfl rfl) (Pe.name okc 3 rfl rfl)) (Args.one (Pe.sub (Pe.name okc 1 rfl rfl) (Pe.name okc 3 rfl rfl)) (Ev.listK okc (comp_kind (by kernel_rfl)) (Pe.name okc 2 rfl rfl) g2 (by decide) fun d hd => Args.nil' ⟨Nat.le_of_ble_eq_true rfl, fun t ht => ?_⟩)))
      have f1 := (Fwd.refl hS).new (y := .list []) hd
      have f2 := f1.new (y := .tup [.int (x1 - s) 0, .int (x2 - s) 0, .ref d]) ht
      have n1 : H3 d = none := by
        cases q : H3 d with
        | none => rfl
        | some o => rw [hS _ _ q] at hd; cases hd
      have n2 : upd H3 d (.list []) t = none := by
        cases q : upd H3 d (.list []) t with
        | none => rfl
        | some o => rw [f1.1 _ _ q] at ht; cases ht
      refine ⟨_, ⟨Sub.trans' i1 (Sub.trans' (Sub.upd_new n1) (Sub.upd_new n2)), fun y hy => ?_⟩, f2⟩
      rcases List.mem_append.mp hy with hy | hy
      · exact (i2 y hy).sub (Sub.trans' (Sub.upd_new n1) (Sub.upd_new n2))
      · rw [List.mem_singleton.mp hy]
        exact ⟨t, _, _, d, rfl, upd_same _ _ _, Sub.upd_new n2 _ _ (upd_same _ _ _)⟩
  · rintro H3 H' ys d ⟨i1, i2⟩ hF hd
    have S2 := Fwd.back i1 hl hF
    have S3 := Sub.upd_new (o := .list ys) hd
    have SS := Sub.trans' S1 (Sub.trans' S2 S3)
    have hh := h.sub SS
    refine Ex.ret (Ev.piece ok I (by kernel_rfl) (Ev.mC ok (v 0 rfl rfl) cBuf_ok (eb hh) 4 rfl (.cons (v 1 rfl rfl) (.cons (v 2 rfl rfl) .nil)) (buf_codes n hh o (tnI h1).symm (tnI (Int.le_trans h1 h2)).symm (tnM h2) (tnZ h3)) fun _ H4 r => ?_))
    refine el1_2 r fun d1 z91 hd1 S4 => ?_; rcases z91 with rfl
    have N1 : New H [(d1, .list (intV (sl B.p.txt s e)))] H4 := (New.of SS).add hd1 S4
    refine Ev.fC ok I gf_tidy_runs (by kernel_rfl) (.cons (v 3 rfl rfl) .nil) (tidy_runs (n + 1) (r := d) (ts := ys) (S4 _ _ (Sub.upd_new hd1 _ _ (upd_same _ _ _))) fun y hy => (i2 y hy).sub (Sub.trans' hF.1 (Sub.trans' S3 (Sub.trans' (Sub.upd_new hd1) S4)))) fun _ H5 r => ?_
    refine el1_1 r fun d2 z91 N2 => ?_; rcases z91 with rfl
    refine ⟨d1, d2, rfl, rfl, fun x H6 hx S6 => ⟨⟨x, d1, d2, sl B.p.txt s e⟩, rfl, rfl, ?_, ?_⟩⟩
    · have f1 := S4 _ _ (upd_same _ _ _)
      exact pc_nd (ne_new (N2.sub _ _ f1) hx).symm (ne_new N2.1.head hx).symm (ne_new f1 (N2.fresh (by simp [ks])))
    exact ((N1.then N2).add hx S6).less fun q hq => by
      simp only [pcL, List.mem_cons, List.not_mem_nil, or_false, List.cons_append, List.nil_append, List.mem_append] at hq ⊢
      rcases hq with h | h | h <;> simp [h]
section
variable {c : Cx} {M : Mem} {H : AH} {n : Nat}
theorem Ev.sliceE (ok : c.Ok n) {o : Expr} {lo hi : Option Expr} {p pos : Pos} {l u : Option Int} {P : Value → AH → Prop} (ho : Ev c M H o fun v H1 => ∃ a xs, v = .ref a ∧ H1 a = some (.list xs) ∧ PeO c M H1 lo l ∧ PeO c M H1 hi u ∧ xs.length ≤ sizeLine ∧ ∀ d, H1 d = none → P (.ref d) (upd H1 d (.list (kms_pick xs l u)))) : Ev c M H (.Subscript o (.Slice lo hi none p) pos) P :=
  fun hp kk s Q E qq e => Subscript_ (ho hp kk s _ _ (fun o' h' k' M' H' q s' => by
    have zq := q; rcases zq.1 with rfl; refine el2_5 zq.2 fun a xs z ha hl hu hz q => ?_
    refine wpAny_Slice (hl.part s' fun vl h2 k2 pl s2 => hu.part s2 fun vu h3 k3 pu s3 => evalPart_none_step ?_)
    refine el1_1 (s3.isList ha) fun vs il ev => ?_
    rw [er_ref z]
    have s4 := s3.grown ok (h' := h3.push { cls := .type "slice", data := .fields #[vl, vu, .none] }) fun b o e => Heap.get?_push_of_some _ e
    have zq := s4.allocL ok (kms_pick vs l u); have hn := zq.1; have s5 := zq.2
    have il' : (h3.push { cls := .type "slice", data := .fields #[vl, vu, .none] }).IsList a vs.toArray := il.push _
    refine sub_tailS (s := c.at (h3.push { cls := .type "slice", data := .fields #[vl, vu, .none] }) k3) il'.typeIs PySem.list_getitem_lookup (wpAny_getItem_list_slice (s := c.at (h3.push { cls := .type "slice", data := .fields #[vl, vu, .none] }) k3) il' (Heap.IsSliceOf.new ..) pl pu .none (by simp) ?_ (by rw [List.size_toArray]; rw [← ev, List.length_map] at hz; exact hz))
    rw [kms_pick_eq]
    refine qq _ _ _ _ _ ⟨rfl, q _ hn⟩ ?_
    rw [kms_map, ev] at s5
    exact s5) e)
end
theorem pick_top {xs : List Value} {k : Nat} : kms_pick xs none (some (k : Int)) = xs.take k := by
  have e1 : kms_lo none xs.length = 0 := rfl
  have e2 : kms_hi (some (k : Int)) xs.length = min k xs.length := by
    show (if (k : Int) < 0 then xs.length - (-(k : Int)).toNat else min (k : Int).toNat xs.length) = _
    rw [if_neg (by simp), Int.toNat_natCast]
  unfold kms_pick
  rw [e1, e2, Nat.sub_zero, List.drop_zero, Nat.min_def]
  split
  · rfl
  · rename_i h; rw [List.take_length, List.take_of_length_le (by lia)]
theorem pick_rest {xs : List Value} {k : Nat} : kms_pick xs (some (k : Int)) none = xs.drop k := by
  have e1 : kms_hi none xs.length = xs.length := rfl
  have e2 : kms_lo (some (k : Int)) xs.length = min k xs.length := by
    show (if (k : Int) < 0 then xs.length - (-(k : Int)).toNat else min (k : Int).toNat xs.length) = _
    rw [if_neg (by lia), Int.toNat_natCast]
  unfold kms_pick
  rw [e1, e2, List.take_of_length_le (by rw [List.length_drop]; exact Nat.le_refl _), Nat.min_def]
  split
  · rfl
  · rename_i h; rw [List.drop_length, List.drop_eq_nil_of_le (by lia)]
theorem sub_have' {H : AH} {a : Addr} {o : AO} (h : H a = some o) : Sub H (upd H a o) := fun b x e => by
  by_cases q : b = a
  · subst q; rw [upd_same]; rw [h] at e; exact e
  · rw [upd_ne q]; exact e
structure KD where
  r : Addr
  pl : Addr
  pcs : List PC
noncomputable abbrev killO (K : KD) : AO := .inst cKill [.int 3 0, .ref K.pl, .int 0 0]
noncomputable abbrev refs (l : List PC) : List Value := l.map fun p => .ref p.a
noncomputable def kents (K : KD) : HL := (K.r, killO K) :: (K.pl, .list (refs K.pcs)) :: K.pcs.flatMap pcL
structure KD.ok (K : KD) : Prop where
  nd : (ks (kents K)).Nodup
  few : K.pcs.length ≤ 3
noncomputable def KD.p (K : KD) : List (List Int) := K.pcs.map (·.cs)
theorem k1 {H : AH} {K : KD} (h : Has H (kents K)) : H K.r = some (killO K) := h.head
theorem k2 {H : AH} {K : KD} (h : Has H (kents K)) : H K.pl = some (.list (refs K.pcs)) := h.tail.head
theorem kp {H : AH} {K : KD} (h : Has H (kents K)) {p : PC} (hp : p ∈ K.pcs) : Has H (pcL p) := fun q hq => h.tail.tail q (List.mem_flatMap.mpr ⟨p, hp, hq⟩)
noncomputable def newP (cs : List Int) (pcs : List (List Int)) (rep : Bool) : List (List Int) := if (rep && decide (pcs ≠ [])) = true then cs :: pcs.tail else (cs :: pcs).take 3
theorem kill_init (n : Nat) {H : AH} {x : Addr} (hx : H x = some (.inst cKill [])) : FnSpec 616 (n + 1) [.ref x, .int 3 0] H (fun r H' => r = .none ∧ ∃ d, H d = none ∧ Sub (upd (upd H d (.list [])) x (killO ⟨x, d, []⟩)) H') NoX := by
  refine FnSpec.intro (F := F616) F616_ok F616_b2 rfl fun c ok I => ?_
  have v := Pe.vars ok I
  refine Ex.setA ok cKill_ok (by decide) 0 rfl (Pe.ev (v 1 rfl rfl) ⟨rfl, v 0 rfl rfl, _, hx, Nat.le_of_ble_eq_true rfl, ?_⟩)
  refine Ex.setA ok cKill_ok (by decide) 1 rfl (Ev.list ok rfl ⟨Nat.le_of_ble_eq_true rfl, fun d hd => ⟨rfl, v 0 rfl rfl, _, Sub.upd_new hd _ _ (upd_same _ _ _), Nat.le_of_ble_eq_true rfl, ?_⟩⟩)
  refine Ex.setA ok cKill_ok (by decide) 2 rfl (Pe.ev Pe.int ⟨rfl, v 0 rfl rfl, _, upd_same _ _ _, Nat.le_of_ble_eq_true rfl, Ex.nil ⟨rfl, d, ?_, ?_⟩⟩)
  · have := ne_new (upd_same _ _ _) hd
    rw [upd_ne this.symm] at hd; exact hd
  · have q : x ≠ d := ne_new (upd_same _ _ _) hd
    rw [upd_upd]
    intro a y e
    by_cases z : a = x
    · subst z; rw [upd_same] at e ⊢; exact e
    · rw [upd_ne z] at e ⊢
      by_cases z' : a = d
      · subst z'; rw [upd_same] at e ⊢; exact e
      · rw [upd_ne z'] at e ⊢; rw [upd_ne z]; exact e
theorem kill_new (n : Nat) {H : AH} {K : KD} {p : PC} {rep : Bool} (h : Has H (kents K)) (hp : Has H (pcL p)) (o : K.ok) (nd : (ks (kents K ++ pcL p)).Nodup) :
    FnSpec 630 (n + 1) [.ref K.r, .ref p.a, .bool rep] H (fun r H' => r = .none ∧ ∃ K' : KD, K'.ok ∧ K'.p = newP p.cs K.p rep ∧ K'.r = K.r ∧ Tr (kents K ++ pcL p) H (kents K') H') NoX := by
  refine FnSpec.introX (F := F630) F630_ok F630_b3 rfl fun c ok I hX hHX => ?_
  have v := Pe.vars ok I
  have few := o.few
  have hrl : (refs K.pcs).length = K.pcs.length := List.length_map _
  have ln : ∀ {pos p1 p2 p3}, Pe c [some (.ref K.r), some (.ref p.a), some (.bool rep)] H (.Call (.Name "len" p1) [.Attribute (.Name "ring" p2) "pieces" p3] [] pos) (.int K.pcs.length 0) := by
    intro pos p1 p2 p3
    have := CallP.len (c := c) (M := [some (.ref K.r), some (.ref p.a), some (.bool rep)]) (k2 h) (by rw [hrl]; exact Nat.lt_of_le_of_lt (by assumption) (by decide))
    rw [hrl] at this
    exact Pe.call ok (Pe.gb ok I gb_len (by kernel_rfl) (by decide +kernel)) (Solid.blt _) (CW.blt _) rfl (.cons (Pe.attr ok cKill_ok 1 (v 0 rfl rfl) (k1 h) rfl rfl rfl) .nil) this
  have T0 := Tr.refl (h.app hp)
  have ndk : (ks (kents K ++ pcL p)) = K.r :: K.pl :: (ks (K.pcs.flatMap pcL) ++ ks (pcL p)) := by
    unfold kents ks; rw [List.map_append]; rfl
  rw [ndk] at nd
  have n1 := List.nodup_cons.mp nd
  have n2 := List.nodup_cons.mp n1.2
  have kp1 : K.p = K.pcs.map (·.cs) := rfl
  refine Ex.ite (Pb.and (Pb.val (v 2 rfl rfl)) fun _ => Pb.cmp ln Pe.int (Cmp.int (op := .Gt) rfl)) (fun hb => ?_) fun hb => ?_
  · simp only [iCmp, Bool.and_eq_true, decide_eq_true_eq] at hb
    obtain ⟨q, tl, hq⟩ : ∃ q tl, K.pcs = q :: tl := by
      cases hh : K.pcs with
      | nil => rw [hh] at hb; exact absurd hb.2 (by decide)
      | cons q tl => exact ⟨q, tl, rfl⟩
    refine Ex.setI ok (Pe.ev (v 1 rfl rfl) ⟨K.pl, 0, refs K.pcs, Pe.attr ok cKill_ok 1 (v 0 rfl rfl) (k1 h) rfl rfl rfl, Pe.int, by decide, by decide, k2 h, by rw [hrl]; exact hb.2, Ex.nil ?_⟩)
    have pe : (kents K ++ pcL p).Perm ((K.pl, .list (refs K.pcs)) :: (K.r, killO K) :: (K.pcs.flatMap pcL ++ pcL p)) := List.Perm.swap ..
    have T1 := (T0.perm pe).turn (o' := .list ((refs K.pcs).set (0 : Int).toNat (.ref p.a))) rfl (by
      show K.pl ∉ K.r :: ks (K.pcs.flatMap pcL ++ pcL p)
      rw [show ks (K.pcs.flatMap pcL ++ pcL p) = ks (K.pcs.flatMap pcL) ++ ks (pcL p) from List.map_append]
      intro z
      rcases List.mem_cons.mp z with z | z
      · exact n1.1 (z ▸ List.mem_cons_self)
      · exact n2.1 z)
    have g1 := T1.1.tail.head
    refine Ex.setA ok cKill_ok (by decide) 2 rfl (Pe.ev Pe.int ⟨rfl, v 0 rfl rfl, _, g1, Nat.le_of_ble_eq_true rfl, Ex.nil ⟨rfl, ⟨K.r, K.pl, p :: tl⟩, ⟨?_, ?_⟩, ?_, rfl, ?_⟩⟩)
    · show (K.r :: K.pl :: ks ((p :: tl).flatMap pcL)).Nodup
      refine List.nodup_cons.mpr ⟨fun z => n1.1 ?_, List.nodup_cons.mpr ⟨fun z => n2.1 ?_, ?_⟩⟩
      · rcases List.mem_cons.mp z with z | z
        · rw [z]; exact List.mem_cons_self
        · refine List.mem_cons_of_mem _ ?_
          rw [hq]
          rw [List.flatMap_cons, show ks (pcL p ++ tl.flatMap pcL) = ks (pcL p) ++ ks (tl.flatMap pcL) from List.map_append] at z
          rw [List.flatMap_cons, show ks (pcL q ++ tl.flatMap pcL) = ks (pcL q) ++ ks (tl.flatMap pcL) from List.map_append]
          simp only [List.mem_append] at z ⊢
          exact z.elim .inr fun z => .inl (.inr z)
      · rw [hq]
        rw [List.flatMap_cons, show ks (pcL p ++ tl.flatMap pcL) = ks (pcL p) ++ ks (tl.flatMap pcL) from List.map_append] at z
        rw [List.flatMap_cons, show ks (pcL q ++ tl.flatMap pcL) = ks (pcL q) ++ ks (tl.flatMap pcL) from List.map_append]
        simp only [List.mem_append] at z ⊢
        exact z.elim .inr fun z => .inl (.inr z)
      · have n3 := n2.2
        rw [hq, List.flatMap_cons, show ks (pcL q ++ tl.flatMap pcL) = ks (pcL q) ++ ks (tl.flatMap pcL) from List.map_append, List.append_assoc] at n3
        have n4 := (List.nodup_append.mp n3).2.1
        rw [List.flatMap_cons, show ks (pcL p ++ tl.flatMap pcL) = ks (pcL p) ++ ks (tl.flatMap pcL) from List.map_append]
        exact (List.perm_append_comm.nodup_iff).mp n4
    · show (p :: tl).length ≤ 3
      rw [hq] at few; exact few
    · show p.cs :: tl.map (·.cs) = _
      unfold newP
      rw [kp1, hq, hb.1]
      rfl
    · refine (T1.less fun z hz => ?_).more (sub_have' g1)
      rw [hq]
      unfold kents at hz
      simp only [List.mem_cons, List.flatMap_cons, List.mem_append] at hz ⊢
      rcases hz with z | z | z | z
      · exact .inr (.inl z)
      · exact .inl z
      · exact .inr (.inr (.inr z))
      · exact .inr (.inr (.inl (.inr z)))
  · refine Ex.setA ok (a := K.r) cKill_ok (by decide) 1 rfl (Ev.sliceE ok (l := none) (u := some 3) (Ev.opJ (Ev.list ok rfl (Args.one (v 1 rfl rfl) ⟨Nat.le_of_ble_eq_true rfl, fun d1 hd1 => ?_⟩))))
    have S1 := Sub.upd_new (o := .list [.ref p.a]) hd1
    refine (Pe.attr ok cKill_ok 1 (v 0 rfl rfl) (S1 _ _ (k1 h)) rfl rfl rfl).ev (OpJ.cat ok (upd_same _ _ _) (S1 _ _ (k2 h)) (by rw [hrl]; show 1 + _ ≤ _; unfold sizeLine; lia) fun d2 hd2 => ?_)
    have S2 := Sub.upd_new (o := .list ([Value.ref p.a] ++ refs K.pcs)) hd2
    have S12 := Sub.trans' S1 S2
    refine ⟨d2, _, rfl, upd_same _ _ _, trivial, Pe.attr ok cKill_ok 0 (v 0 rfl rfl) (S12 _ _ (k1 h)) rfl rfl rfl, by rw [List.length_append, hrl]; show 1 + _ ≤ _; unfold sizeLine; lia, fun d3 hd3 => ?_⟩
    rw [show (some (3 : Int)) = some ((3 : Nat) : Int) from rfl, pick_top]
    have T1 : Tr (kents K ++ pcL p) H ((d3, .list (([Value.ref p.a] ++ refs K.pcs).take 3)) :: (kents K ++ pcL p)) _ := (T0.more S12).new (o := .list (([Value.ref p.a] ++ refs K.pcs).take 3)) hd3
    have hd3n : d3 ∉ ks (kents K ++ pcL p) := fun z => by
      refine Exists.elim ((h.app hp).key z) fun o' ho => ?_
      rw [S12 _ _ ho] at hd3; cases hd3
    rw [ndk] at hd3n
    have g3 := T1.1.tail.head
    refine ⟨rfl, v 0 rfl rfl, _, g3, Nat.le_of_ble_eq_true rfl, ?_⟩
    refine Ex.nil (Ex.setA ok cKill_ok (by decide) 2 rfl (Pe.ev Pe.int ⟨rfl, v 0 rfl rfl, _, upd_same _ _ _, Nat.le_of_ble_eq_true rfl, ?_⟩))
    have pe : ((d3, AO.list (([Value.ref p.a] ++ refs K.pcs).take 3)) :: (kents K ++ pcL p)).Perm ((K.r, killO K) :: (d3, .list (([Value.ref p.a] ++ refs K.pcs).take 3)) :: ((K.pl, .list (refs K.pcs)) :: (K.pcs.flatMap pcL ++ pcL p))) := List.Perm.swap ..
    have T2 := (T1.perm pe).turn (o' := killO ⟨K.r, d3, []⟩) rfl (by
      show K.r ∉ d3 :: K.pl :: ks (K.pcs.flatMap pcL ++ pcL p)
      rw [show ks (K.pcs.flatMap pcL ++ pcL p) = ks (K.pcs.flatMap pcL) ++ ks (pcL p) from List.map_append]
      intro z
      rcases List.mem_cons.mp z with z | z
      · exact hd3n (z ▸ List.mem_cons_self)
      · exact n1.1 z)
    refine Ex.nil ⟨rfl, ⟨K.r, d3, (p :: K.pcs).take 3⟩, ⟨?_, by rw [List.length_take]; lia⟩, ?_, rfl, ?_⟩
    · show (K.r :: d3 :: ks (((p :: K.pcs).take 3).flatMap pcL)).Nodup
      have sub : ∀ z, z ∈ ks (((p :: K.pcs).take 3).flatMap pcL) → z ∈ ks (K.pcs.flatMap pcL) ++ ks (pcL p) := fun z hz => by
        refine el1_1 (List.mem_map.mp hz) fun e he z92 => ?_; rcases z92 with rfl
        refine el1_1 (List.mem_flatMap.mp he) fun x hx he2 => ?_
        rcases List.mem_cons.mp (List.mem_of_mem_take hx) with rfl | hx
        · exact List.mem_append_right _ (List.mem_map_of_mem he2)
        · exact List.mem_append_left _ (List.mem_map_of_mem (List.mem_flatMap.mpr ⟨x, hx, he2⟩))
      refine List.nodup_cons.mpr ⟨fun z => ?_, List.nodup_cons.mpr ⟨fun z => hd3n (List.mem_cons_of_mem _ (List.mem_cons_of_mem _ (sub _ z))), ?_⟩⟩
      · rcases List.mem_cons.mp z with z | z
        · exact hd3n (z ▸ List.mem_cons_self)
        · exact n1.1 (List.mem_cons_of_mem _ (sub _ z))
      · have n4 : (ks ((p :: K.pcs).flatMap pcL)).Nodup := by
          rw [List.flatMap_cons, show ks (pcL p ++ K.pcs.flatMap pcL) = ks (pcL p) ++ ks (K.pcs.flatMap pcL) from List.map_append]
          exact (List.perm_append_comm.nodup_iff).mp n2.2
        refine n4.sublist (List.Sublist.map _ ?_)
        have : ((p :: K.pcs).take 3).flatMap pcL ++ ((p :: K.pcs).drop 3).flatMap pcL = (p :: K.pcs).flatMap pcL := by rw [← List.flatMap_append, List.take_append_drop]
        rw [← this]
        exact List.sublist_append_left _ _
    · show ((p :: K.pcs).take 3).map (·.cs) = _
      unfold newP
      rw [if_neg, List.map_take]
      · rfl
      · rw [kp1]
        intro z
        simp only [Bool.and_eq_true, decide_eq_true_eq] at z
        rw [z.1] at hb
        have : K.pcs ≠ [] := fun q => z.2 (by rw [q]; rfl)
        have : 0 < K.pcs.length := List.length_pos_iff.mpr this
        have hb := of_decide_eq_false (show decide ((0 : Int) < (K.pcs.length : Int)) = false from hb)
        lia
    · refine Tr.more ?_ (by rw [upd_upd]; exact Sub.rfl')
      refine T2.less fun z hz => ?_
      unfold kents at hz
      rcases List.mem_cons.mp hz with z | hz
      · rw [z]; exact List.mem_cons_self
      rcases List.mem_cons.mp hz with z | hz
      · rw [z]; refine List.mem_cons_of_mem _ ?_
        rw [show (refs ((p :: K.pcs).take 3)) = ([Value.ref p.a] ++ refs K.pcs).take 3 by unfold refs; rw [List.map_take]; rfl]
        exact List.mem_cons_self
      · refine el1_1 (List.mem_flatMap.mp hz) fun x hx he => ?_
        refine List.mem_cons_of_mem _ (List.mem_cons_of_mem _ (List.mem_cons_of_mem _ ?_))
        rcases List.mem_cons.mp (List.mem_of_mem_take hx) with rfl | hx
        · exact List.mem_append_right _ he
        · exact List.mem_append_left _ (List.mem_flatMap.mpr ⟨x, hx, he⟩)
theorem ks_app (l m : HL) : ks (l ++ m) = ks l ++ ks m := List.map_append
theorem New.nd {H H' : AH} {l m : HL} (h : Has H l) (nl : (ks l).Nodup) (x : New H m H') (nm : (ks m).Nodup) : (ks (l ++ m)).Nodup := by
  rw [ks_app]
  refine List.nodup_append.mpr ⟨nl, nm, fun a ha b hb q => ?_⟩
  subst q
  refine Exists.elim (h.key ha) fun o ho => ?_
  rw [x.fresh hb] at ho; cases ho
noncomputable def appP (cs : List Int) (pcs : List (List Int)) (ahead : Bool) : List (List Int) := match pcs with
  | [] => [cs]
  | h :: t => (if ahead then cs ++ h else h ++ cs) :: t
noncomputable def saveP (cs : List Int) (pcs : List (List Int)) (go ahead : Bool) : List (List Int) := if go then appP cs pcs ahead else (cs :: pcs).take 3
section
variable {c : Cx} {M : Mem} {H : AH} {n : Nat} {F : Fn} {K : KD}
theorem refs_len (l : List PC) : (refs l).length = l.length := List.length_map _
theorem Pe.lenP (ok : c.Ok n) (I : InFn c F) {e : Expr} {p p2 pos : Pos} (h : Has H (kents K)) (o : K.ok) (he : Pe c M H e (.ref K.r)) (hb : noCall e = true) (hk : F.sc.names.lookup ("len" : Str) = some .globalImplicit) : Pe c M H (.Call (.Name "len" p) [.Attribute e "pieces" p2] [] pos) (.int K.pcs.length 0) := by
  have := CallP.len (c := c) (M := M) (k2 h) (by rw [refs_len]; have := o.few; exact Nat.lt_of_le_of_lt (by assumption) (by decide))
  rw [refs_len] at this
  exact Pe.call ok (Pe.gb ok I gb_len hk (by decide +kernel)) (Solid.blt _) (CW.blt _) rfl (.cons (Pe.attr ok cKill_ok 1 he (k1 h) rfl rfl hb) .nil) this
end
theorem kill_append (n : Nat) {H : AH} {K : KD} {p : PC} {ahead : Bool} (h : Has H (kents K)) (hp : Has H (pcL p)) (o : K.ok) (nd : (ks (kents K ++ pcL p)).Nodup) (zp : p.cs.length ≤ 2 ^ 20) (zk : ∀ q ∈ K.pcs, q.cs.length ≤ 2 ^ 20) :
    FnSpec 637 (n + 4) [.ref K.r, .ref p.a, .bool ahead] H (fun r H' => r = .none ∧ ∃ K' : KD, K'.ok ∧ K'.p = appP p.cs K.p ahead ∧ K'.r = K.r ∧ Tr (kents K ++ pcL p) H (kents K') H') NoX := by
  refine FnSpec.introX (F := F637) F637_ok F637_b3 rfl fun c ok I hX hHX => ?_
  have v := Pe.vars ok I
  have kp1 : K.p = K.pcs.map (·.cs) := rfl
  refine Ex.ite (Pb.cmp (Pe.lenP ok I h o (v 0 rfl rfl) rfl (by kernel_rfl)) Pe.int (Cmp.int (op := .Eq) rfl)) (fun hb => ?_) fun hb => Ex.nil ?_
  · have e : K.pcs = [] := by simpa [iCmp] using hb
    refine Ex.do I (Ev.fC ok I gf_kill_new (by kernel_rfl) (.cons (v 0 rfl rfl) (.cons (v 1 rfl rfl) (.cons Pe.bool .nil))) (kill_new (n + 2) h hp o nd) fun _ H1 r => ?_)
    have _ := r.1; refine el1_3 r.2 fun K' o' p' r' t' => ?_; try clear r
    refine Ex.retN ⟨rfl, K', o', ?_, r', t'⟩
    rw [p', kp1, e]; rfl
  · obtain ⟨q, tl, hq⟩ : ∃ q tl, K.pcs = q :: tl := by
      cases hh : K.pcs with
      | nil => rw [hh] at hb; cases hb
      | cons q tl => exact ⟨q, tl, rfl⟩
    have hqm : q ∈ K.pcs := by rw [hq]; exact List.mem_cons_self
    have hqH := kp h hqm
    refine Ex.let I 3 rfl (Pe.ev (Pe.item (v := .ref q.a) (Pe.attr ok cKill_ok 1 (v 0 rfl rfl) (k1 h) rfl rfl rfl) Pe.int (k2 h) (by decide) (by decide) (by rw [hq]; rfl)) ?_)
    have fin : ∀ H2 (p' : PC), (ks (pcL p')).Nodup → New H (pcL p') H2 → p'.cs = (if ahead then p.cs ++ q.cs else q.cs ++ p.cs) → FnSpec 630 (n + 3) [.ref K.r, .ref p'.a, .bool true] H2 (fun r H' => r = .none ∧ ∃ K' : KD, K'.ok ∧ K'.p = appP p.cs K.p ahead ∧ K'.r = K.r ∧ Tr (kents K ++ pcL p) H (kents K') H') NoX := fun H2 p' nd' N e => by
      refine FnSpec.sub (kill_new (n + 2) (h.sub N.sub) N.1 o (New.nd h o.nd N nd')) fun r H' ⟨a1, K', o', pp, r', t'⟩ => ⟨a1, K', o', ?_, r', ?_⟩
      · rw [pp, kp1, hq, e]; rfl
      · exact ((Tr.thenNew (Tr.refl h) N).trans t').own fun a ha => by rw [ks_app]; exact List.mem_append_left _ ha
    refine Ex.do I (Ev.call ok (f := .ref 630) (Pe.gl ok I gf_kill_new.g (by kernel_rfl) gf_kill_new.nd) (Solid.ref _) (CW.ref gf_kill_new.kp) rfl (Args.one (v 0 rfl rfl) (Ev.ite (Pb.val (v 2 rfl rfl)) (fun hb => ?_) fun hb => ?_)))
    · refine Ev.fC ok I gf_piece_joined (by kernel_rfl) (.cons (v 1 rfl rfl) (.cons (v 3 rfl rfl) .nil)) (piece_joined n hp hqH zp (zk q hqm)) fun _ H2 r => Args.one Pe.bool (Args.nil' ?_)
      refine el1_3 r fun p' z91 e nd' N => ?_; rcases z91 with rfl
      exact CallJ.fn ok (fin H2 p' nd' N (by rw [e, hb]; rfl)) fun _ _ r => Ex.nil ⟨rfl, r.2⟩
    · refine Ev.fC ok I gf_piece_joined (by kernel_rfl) (.cons (v 3 rfl rfl) (.cons (v 1 rfl rfl) .nil)) (piece_joined n hqH hp (zk q hqm) zp) fun _ H2 r => Args.one Pe.bool (Args.nil' ?_)
      refine el1_3 r fun p' z91 e nd' N => ?_; rcases z91 with rfl
      exact CallJ.fn ok (fin H2 p' nd' N (by rw [e, hb]; rfl)) fun _ _ r => Ex.nil ⟨rfl, r.2⟩
theorem current_kill (n : Nat) {H : AH} {K : KD} (h : Has H (kents K)) (o : K.ok) : FnSpec 644 (n + 3) [.ref K.r, .int 0 0, .bool false] H (fun r H' => ∃ p tl, K.pcs = p :: tl ∧ r = .ref p.a ∧ Sub H H') (fun sym => sym = errS ∧ K.pcs = []) := by
  refine FnSpec.introX (F := F644) F644_ok F644_b3 rfl fun c ok I hX hHX => ?_
  have v := Pe.vars ok I
  have few := o.few
  refine Ex.ite (Pb.cmp (Pe.lenP ok I h o (v 0 rfl rfl) rfl (by kernel_rfl)) Pe.int (Cmp.int (op := .Eq) rfl)) (fun hb => ?_) fun hb => Ex.nil ?_
  · have e : K.pcs = [] := by simpa [iCmp] using hb
    exact Ex.raise ok (Pe.gl ok I gl_LispSignal (by kernel_rfl) (by decide +kernel)) rfl (Args.one Pe.str (Ev.list ok rfl (Args.one Pe.str ⟨Nat.le_of_ble_eq_true rfl, fun d hd => ⟨_, _, rfl, by rw [hX]; exact ⟨rfl, e⟩, by rw [hHX]; exact Sub.upd_new hd⟩⟩)))
  · obtain ⟨q, tl, hq⟩ : ∃ q tl, K.pcs = q :: tl := by
      cases hh : K.pcs with
      | nil => rw [hh] at hb; cases hb
      | cons q tl => exact ⟨q, tl, rfl⟩
    have hne : (K.pcs.length : Int) ≠ 0 := by rw [hq]; simp; lia
    have md : (0 + 0 : Int).fmod (K.pcs.length : Int) = 0 := by rw [Int.add_zero]; exact Int.zero_fmod _
    refine Ex.let I 3 rfl (Pe.ev (Pe.op (Pe.add (Pe.attr ok cKill_ok 2 (v 0 rfl rfl) (k1 h) rfl rfl rfl) (v 1 rfl rfl)) (Pe.lenP ok I h o (v 0 rfl rfl) rfl (by kernel_rfl)) (Op.mod hne)) ?_)
    rw [md]
    refine Ex.ite (Pb.not (Pb.val (v 2 rfl rfl))) (fun _ => ?_) fun hb => by cases hb
    refine Ex.setA ok cKill_ok (by decide) 2 rfl (Pe.ev (v 3 rfl rfl) ⟨rfl, v 0 rfl rfl, _, k1 h, Nat.le_of_ble_eq_true rfl, Ex.nil ?_⟩)
    have S := sub_have' (k1 h)
    exact Ex.ret (Pe.ev (Pe.item (v := .ref q.a) (Pe.attr ok cKill_ok 1 (v 0 rfl rfl) (S _ _ (k1 h)) rfl rfl rfl) (v 3 rfl rfl) (S _ _ (k2 h)) (by decide) (by decide) (by rw [hq]; rfl)) ⟨q, tl, hq, rfl, S⟩)
theorem save_kill (n : Nat) {H : AH} {K : KD} {p : PC} {go ahead : Bool} (h : Has H (kents K)) (hp : Has H (pcL p)) (o : K.ok) (nd : (ks (kents K ++ pcL p)).Nodup) (zp : p.cs.length ≤ 2 ^ 20) (zk : ∀ q ∈ K.pcs, q.cs.length ≤ 2 ^ 20) :
    FnSpec 729 (n + 5) [.ref K.r, .ref p.a, .bool go, .bool ahead] H (fun r H' => r = .none ∧ ∃ K' : KD, K'.ok ∧ K'.p = saveP p.cs K.p go ahead ∧ K'.r = K.r ∧ Tr (kents K ++ pcL p) H (kents K') H') NoX := by
  refine FnSpec.introX (F := F729) F729_ok F729_b4 rfl fun c ok I hX hHX => ?_
  have v := Pe.vars ok I
  refine Ex.ite (Pb.val (v 2 rfl rfl)) (fun hb => ?_) fun hb => ?_
  · exact Ex.do I (Ev.fC ok I gf_kill_append (by kernel_rfl) (.cons (v 0 rfl rfl) (.cons (v 1 rfl rfl) (.cons (v 3 rfl rfl) .nil))) (kill_append n h hp o nd zp zk) fun _ H1 ⟨_, K', o', p', r', t'⟩ => Ex.nil (Ex.nil ⟨rfl, K', o', by rw [p', hb]; rfl, r', t'⟩))
  · exact Ex.do I (Ev.fC ok I gf_kill_new (by kernel_rfl) (.cons (v 0 rfl rfl) (.cons (v 1 rfl rfl) (.cons Pe.bool .nil))) (kill_new (n + 3) h hp o nd) fun _ H1 ⟨_, K', o', p', r', t'⟩ => Ex.nil (Ex.nil ⟨rfl, K', o', by rw [p', hb]; rfl, r', t'⟩))
theorem copy_region (n : Nat) {H : AH} {b : Addr} {B : BD} {K : KD} {s e : Int} {go : Bool} (h : Has H (ents b B)) (o : B.ok b) (hK : Has H (kents K)) (oK : K.ok) (w : B.p.wf) (zp : B.p.txt.length ≤ 2 ^ 20) (zk : ∀ q ∈ K.pcs, q.cs.length ≤ 2 ^ 20) :
    FnSpec 736 (n + 6) [.ref b, .ref K.r, .int s 0, .int e 0, .bool go] H (fun r H' => r = .none ∧ inR B.p s e ∧ ∃ K' : KD, K'.ok ∧ K'.p = saveP (sl B.p.txt (min s e) (max s e)) K.p go (decide (e < s)) ∧ K'.r = K.r ∧ Tr (kents K) H (kents K') H') (Xr B.p s e) := by
  refine FnSpec.introX (F := F736) F736_ok F736_b5 rfl fun c ok I hX hHX => ?_
  have v := Pe.vars ok I
  refine Ex.unpack2 ok I 5 6 rfl rfl (Ev.fX ok I gf_reached (by kernel_rfl) (.cons (v 0 rfl rfl) (.cons (v 2 rfl rfl) (.cons (v 3 rfl rfl) .nil))) (reached (n + 2) h) (fun sym x => by rw [hX]; exact x) (by rw [hHX]; exact Sub.rfl') fun _ H1 r => ?_)
  have r0 := r.1; refine el1_2 r.2 fun d1 z92 hd1 u => ?_; rcases z92 with rfl; try clear r
  refine ⟨d1, _, _, rfl, u _ _ (upd_same _ _ _), ?_⟩
  refine Ex.moved ?_ (Sub.trans' (Sub.upd_new hd1) u)
  have r0 : inR B.p s e := r0
  have b1 := w.b1
  have zt := w.zt
  have mm : min s e ≤ max s e := by lia
  unfold inR at *
  refine Ex.do I (Ev.call ok (f := .ref 729) (Pe.gl ok I gf_save_kill.g (by kernel_rfl) gf_save_kill.nd) (Solid.ref _) (CW.ref gf_save_kill.kp) rfl (Args.one (v 1 rfl rfl) (Ev.fC ok I gf_piece_of (by kernel_rfl) (.cons (v 0 rfl rfl) (.cons (v 5 rfl rfl) (.cons (v 6 rfl rfl) .nil))) (piece_of (n + 2) h o (by lia) mm (by lia)) fun _ H2 r => ?_)))
  refine el1_3 r fun p z91 ep nd N => ?_; rcases z91 with rfl
  refine Args.one (v 4 rfl rfl) (Args.one (Pe.cmp (v 3 rfl rfl) (v 2 rfl rfl) (Cmp.int (op := .Lt) rfl)) (Args.nil' ?_))
  refine CallJ.fn ok (save_kill n (hK.sub N.sub) N.1 oK (New.nd hK oK.nd N nd) (by rw [ep]; exact Nat.le_trans (len_dt _ _ _) zp) zk) fun _ H3 ⟨_, K', o', p', r', t'⟩ => Ex.nil ⟨rfl, r0, K', o', ?_, r', (Tr.thenNew (Tr.refl hK) N).trans t'⟩
  rw [p', ep]; rfl
theorem FnSpec.calm {f : Addr} {n : Nat} {vs : List Value} {H : AH} {R : Value → AH → Prop} {X : Str → Prop} (h : FnSpec f n vs H R X) (k : ∀ sym, ¬ X sym) : FnSpec f n vs H R NoX := fun c ok M hp kk s vs' hv Q q e => h c ok M hp kk s vs' hv Q q fun e' sym h' k' x => (k sym x).elim
theorem Tr.seq {l l' m m' : HL} {H H1 H2 : AH} (T1 : Tr l H l' H1) (hm : Has H m) (d : ∀ a ∈ ks m, a ∉ ks l) (T2 : Tr m H1 m' H2) : Tr (m ++ l) H (m' ++ l') H2 := by
  have zq := T1.keep hm d; have h1 := zq.1; have d1 := zq.2
  have A := (T1.frame hm d)
  have B := T2.frame T1.1 fun a ha q => d1 a q ha
  exact ((A.permL List.perm_append_comm).perm List.perm_append_comm).trans B
theorem kill_region (n : Nat) {H : AH} {b : Addr} {B : BD} {K : KD} {s e : Int} {go : Bool} (h : Has H (ents b B)) (o : B.ok b) (hK : Has H (kents K)) (oK : K.ok) (dis : ∀ a ∈ ks (ents b B), a ∉ ks (kents K)) (w : B.p.wf) (zp : B.p.txt.length ≤ 2 ^ 20) (zk : ∀ q ∈ K.pcs, q.cs.length ≤ 2 ^ 20) :
    FnSpec 743 (n + 6) [.ref b, .ref K.r, .int s 0, .int e 0, .bool go] H (fun r H' => r = .none ∧ inR B.p s e ∧ ∃ (K' : KD) (B' : BD), K'.ok ∧ K'.p = (if (decide (min s e < max s e) || go) = true then saveP (sl B.p.txt (min s e) (max s e)) K.p go (decide (e < s)) else K.p) ∧ K'.r = K.r ∧ B'.ok b ∧ B'.ids = B.ids ∧ B'.p = delP B.p (min s e) (max s e) ∧ Tr (ents b B ++ kents K) H (ents b B' ++ kents K') H' ∧ ∀ a ∈ ks (kents K'), a ∉ ks (ents b B')) (Xr B.p s e) := by
  refine FnSpec.introX (F := F743) F743_ok F743_b5 rfl fun c ok I hX hHX => ?_
  have v := Pe.vars ok I
  refine Ex.unpack2 ok I 5 6 rfl rfl (Ev.fX ok I gf_reached (by kernel_rfl) (.cons (v 0 rfl rfl) (.cons (v 2 rfl rfl) (.cons (v 3 rfl rfl) .nil))) (reached (n + 2) h) (fun sym x => by rw [hX]; exact x) (by rw [hHX]; exact Sub.rfl') fun _ H1 r => ?_)
  have r0 := r.1; refine el1_2 r.2 fun d1 z92 hd1 u => ?_; rcases z92 with rfl; try clear r
  refine ⟨d1, _, _, rfl, u _ _ (upd_same _ _ _), ?_⟩
  refine Ex.moved ?_ (Sub.trans' (Sub.upd_new hd1) u)
  have r0 : inR B.p s e := r0
  have b1 := w.b1
  have zt := w.zt
  have mm : min s e ≤ max s e := by lia
  have r1 := r0
  unfold inR at r1
  refine Ex.iteJ (fun H2 => ∃ K' : KD, K'.ok ∧ K'.p = (if (decide (min s e < max s e) || go) = true then saveP (sl B.p.txt (min s e) (max s e)) K.p go (decide (e < s)) else K.p) ∧ K'.r = K.r ∧ Tr (kents K) H (kents K') H2) (Pb.or (Pb.cmp (v 5 rfl rfl) (v 6 rfl rfl) (Cmp.int (op := .Lt) rfl)) fun _ => Pb.val (v 4 rfl rfl)) (fun hb => ?_) (fun hb => Ex.nil ⟨rfl, rfl, K, oK, by rw [if_neg (by rw [show (decide (min s e < max s e) || go) = false from hb]; decide)], rfl, Tr.refl hK⟩) fun H2 r => ?_
  · refine Ex.do I (Ev.call ok (f := .ref 729) (Pe.gl ok I gf_save_kill.g (by kernel_rfl) gf_save_kill.nd) (Solid.ref _) (CW.ref gf_save_kill.kp) rfl (Args.one (v 1 rfl rfl) (Ev.fC ok I gf_piece_of (by kernel_rfl) (.cons (v 0 rfl rfl) (.cons (v 5 rfl rfl) (.cons (v 6 rfl rfl) .nil))) (piece_of (n + 2) h o (by lia) mm (by lia)) fun _ H2 r => ?_)))
    refine el1_3 r fun p z91 ep nd N => ?_; rcases z91 with rfl
    refine Args.one (v 4 rfl rfl) (Args.one (Pe.cmp (v 3 rfl rfl) (v 2 rfl rfl) (Cmp.int (op := .Lt) rfl)) (Args.nil' ?_))
    refine CallJ.fn ok (save_kill n (hK.sub N.sub) N.1 oK (New.nd hK oK.nd N nd) (by rw [ep]; exact Nat.le_trans (len_dt _ _ _) zp) zk) fun _ H3 ⟨_, K', o', p', r', t'⟩ => Ex.nil ⟨rfl, rfl, K', o', ?_, r', (Tr.thenNew (Tr.refl hK) N).trans t'⟩
    rw [p', ep, if_pos (show (decide (min s e < max s e) || go) = true from hb)]; rfl
  refine el1_3 r fun K' oK' pK' rK' T1 => ?_
  have zq := T1.keep h dis; have h2 := zq.1; have dis2 := zq.2
  refine Ex.do I (Pe.ev (Pe.fC ok I gf_need_writable (by kernel_rfl) (.cons (v 0 rfl rfl) .nil) (need_writable (n + 4) h2)) ?_)
  refine Ex.do I (Ev.fC ok I gf_delete (by kernel_rfl) (.cons (v 0 rfl rfl) (.cons (v 5 rfl rfl) (.cons (v 6 rfl rfl) .nil))) ((delete (n + 1) h2 o w).calm fun sym x => x.2 (by rw [Int.min_eq_left mm, Int.max_eq_right mm]; exact r0)) fun _ H3 r => ?_)
  have _ := r.1; refine el1_1 r.2 fun B' s' p' => ?_; try clear r
  rw [Int.min_eq_left mm, Int.max_eq_right mm] at p'
  exact Ex.nil ⟨rfl, r0, K', B', oK', pK', rK', s'.ok, s'.ids, p', T1.seq h dis s'.tr, (s'.tr.keep T1.1 fun a ha q => dis2 a q ha).2⟩
theorem stored_new {es : List (Int × Value)} {k : Int} {v : Value} (h : ∀ p ∈ es, p.1 ≠ k) : PySem.stored es k v = es ++ [(k, v)] := by
  unfold PySem.stored
  rw [if_neg]
  intro z
  refine el1_1 (List.any_eq_true.mp z) fun p hp e => ?_
  exact h p hp (by simpa using e)
theorem stored_same {es : List (Int × Value)} {k : Int} {v : Value} (hm : (k, v) ∈ es) (h : ∀ p ∈ es, p.1 = k → p.2 = v) : PySem.stored es k v = es := by
  unfold PySem.stored
  rw [if_pos (List.any_eq_true.mpr ⟨_, hm, by simp⟩)]
  conv => rhs; rw [← List.map_id es]
  refine List.map_congr_left fun p hp => ?_
  split
  · rename_i e
    show (p.1, v) = p
    rw [← h p hp e]
  · rfl
theorem num_inj {l : List MK} (nn : (nums l).Nodup) {x y : MK} (hx : x ∈ l) (hy : y ∈ l) (e : x.num = y.num) : x = y := by
  induction l with
  | nil => cases hx
  | cons z r ih =>
    have nd := List.nodup_cons.mp (show (z.num :: nums r).Nodup from nn)
    rcases List.mem_cons.mp hx with h1 | h1
    · rcases List.mem_cons.mp hy with h2 | h2
      · rw [h1, h2]
      · exact absurd (List.mem_map_of_mem h2 : y.num ∈ nums r) (by rw [← e, h1]; exact nd.1)
    · rcases List.mem_cons.mp hy with h2 | h2
      · exact absurd (List.mem_map_of_mem h1 : x.num ∈ nums r) (by rw [e, h2]; exact nd.1)
      · exact ih nd.2 h1 h2
noncomputable def fSet (k q : Int) (m : MK) : Int := if m.num = k then q else m.pos
theorem mv_off {k q : Int} {m : MK} (h : m.num ≠ k) : mv (fSet k q) m = m := by unfold mv fSet; rw [if_neg h]
theorem ments_set {H H' : AH} {b ms rw : Addr} {l : List MK} {m : MK} {q : Int} (h : Has H (ments b ms rw l)) (nd : (ks (ments b ms rw l)).Nodup) (nn : (nums l).Nodup) (hm : m ∈ l) (s : Sub (upd H m.a (mkO b { m with pos := q })) H') : Tr (ments b ms rw l) H (ments b ms rw (l.map (mv (fSet m.num q)))) H' := by
  have hk : (l.map (mv (fSet m.num q))).map (·.a) = l.map (·.a) := by rw [List.map_map]; rfl
  have hkk : ks (ments b ms rw (l.map (mv (fSet m.num q)))) = ks (ments b ms rw l) := by rw [ments_keys, ments_keys, hk]
  have nd' := nd
  rw [ments_keys] at nd'
  have n1 := List.nodup_cons.mp nd'
  have n2 := List.nodup_cons.mp n1.2
  have g : ∀ x o, x ≠ m.a → H x = some o → H' x = some o := fun x o ne e => s _ _ (by rw [upd_ne ne]; exact e)
  refine ⟨Has.cons (g _ _ (fun z => n1.1 (z ▸ List.mem_cons_of_mem _ (List.mem_map_of_mem hm))) (ments_ms h)) (Has.cons (g _ _ (fun z => n2.1 (z ▸ List.mem_map_of_mem hm)) ?_) fun p hp => ?_), fun a o n e => ⟨g a o (fun z => n (by rw [z, ments_keys]; exact List.mem_cons_of_mem _ (List.mem_cons_of_mem _ (List.mem_map_of_mem hm)))) e, by rw [hkk]; exact n⟩⟩
  · have : rowsE (l.map (mv (fSet m.num q))) = rowsE l := by unfold rowsE; rw [List.map_map]; rfl
    rw [this]; exact ments_rw h
  · refine el1_1 (List.mem_map.mp hp) fun y hy z92 => ?_; rcases z92 with rfl
    refine el1_1 (List.mem_map.mp hy) fun x hx z92 => ?_; rcases z92 with rfl
    by_cases e : x.num = m.num
    · have := num_inj nn hx hm e
      subst this
      refine s _ _ ?_
      show upd H x.a _ x.a = _
      rw [upd_same]
      unfold mv fSet
      rw [if_pos rfl]
    · rw [mv_off e]
      refine g _ _ (fun z => ?_) (ments_mk h hx)
      have z : x.a = m.a := z
      have h1 := ments_mk h hx
      have h2 := ments_mk h hm
      rw [z, h2] at h1
      injection h1 with h1; injection h1 with _ h1; injection h1 with h1; injection h1 with h1
      exact e h1.symm
theorem obs_add {l : List MK} {m : MK} (h : m.num ∉ nums l) (k : Nat) : obsOf (l ++ [m]) k = if m.num = (k : Int) then some (m.adv, m.pos) else obsOf l k := by
  unfold obsOf
  rw [List.find?_append]
  by_cases e : m.num = (k : Int)
  · rw [if_pos e]
    have : l.find? (fun m => decide (m.num = (k : Int))) = none := by
      rw [List.find?_eq_none]
      intro x hx z
      have z : x.num = (k : Int) := by simpa using z
      exact h (by rw [e, ← z]; exact List.mem_map_of_mem hx)
    rw [this]
    simp [e]
  · rw [if_neg e]
    have : [m].find? (fun m => decide (m.num = (k : Int))) = none := by simp [e]
    rw [this, Option.or_none]
theorem obs_set {l : List MK} {j q : Int} (k : Nat) : obsOf (l.map (mv (fSet j q))) k = if j = (k : Int) then (obsOf l k).map (fun p => (p.1, q)) else obsOf l k := by
  unfold obsOf
  rw [find_mv, Option.map_map]
  cases hf : l.find? (fun m => decide (m.num = (k : Int))) with
  | none => split <;> rfl
  | some x =>
    have hx : x.num = (k : Int) := by simpa using List.find?_some hf
    split
    · rename_i e
      show some (x.adv, fSet j q x) = some (x.adv, q)
      unfold fSet; rw [if_pos (by rw [hx, e])]
    · rename_i e
      show some (x.adv, fSet j q x) = some (x.adv, x.pos)
      unfold fSet; rw [if_neg (by rw [hx]; exact Ne.symm e)]
theorem obs_drop {l : List MK} {j : Int} (hj : j < 0) : obsOf (l.filter fun m => decide (m.num ≠ j)) = obsOf l := by
  funext k
  unfold obsOf
  rw [List.find?_filter]
  congr 2
  funext m
  by_cases e : m.num = (k : Int)
  · have : m.num ≠ j := by lia
    simp [this]
  · simp [e]
noncomputable def clampP (txt : List Int) (q : Int) : Int := min (max q 1) (txt.length + 1)
theorem clampP_id {txt : List Int} {q : Int} (h1 : 1 ≤ q) (h2 : q ≤ txt.length + 1) : clampP txt q = q := by
  unfold clampP; rw [Int.max_eq_left h1, Int.min_eq_left h2]
section
variable {H : AH} {b : Addr} {B : BD}
theorem buf_size0 (n : Nat) (h : Has H (ents b B)) (og : B.g.ok) : FnSpec 348 (n + 2) [.ref b] H (fun v H' => v = .int B.g.txt.length 0 ∧ Sub H H') NoX := by
  refine FnSpec.intro (F := F348) F348_ok F348_b1 rfl fun c ok I => ?_
  exact Ex.ret (Pe.ev (Pe.meth ok (Pe.ba ok 2 h (Pe.loc ok I 0 rfl rfl) rfl rfl) cGap_ok (eg h).1 (List.mem_of_getElem? (i := 0) rfl) rfl rfl rfl (by decide) .nil (CallP.fn ok (gap_size n og (eg h)))) ⟨rfl, Sub.rfl'⟩)
theorem set_new (n : Nat) {a : Addr} {num p0 q : Int} {adv : Bool} (h : Has H (ents b B)) (og : B.g.ok) (nd : (ks (ents b B)).Nodup) (hz : B.mks.length ≤ 60) (hnum : num ∉ nums B.mks) (ha : H a = some (.inst cMark [.int num 0, .bool adv, .none, .int p0 0])) (hn : a ∉ ks (ents b B)) :
    FnSpec 651 (n + 3) [.ref a, .ref b, .int q 0] H (fun r H' => r = .none ∧ Tr ((a, .inst cMark [.int num 0, .bool adv, .none, .int p0 0]) :: ents b B) H (ents b { B with mks := B.mks ++ [⟨num, a, adv, clampP B.g.txt q⟩] }) H') NoX := by
  refine FnSpec.introX (F := F651) F651_ok F651_b3 rfl fun c ok I hX hHX => ?_
  have v := Pe.vars ok I
  refine Ex.ite (Pb.and (Pb.cmp (Pe.attr ok cMark_ok 2 (v 0 rfl rfl) ha rfl rfl rfl) Pe.none (Cmp.notNone rfl)) (b2 := false) fun hb => by have := notNone_none.symm.trans hb; cases this) (fun hb => by rw [Bool.and_false] at hb; cases hb) fun _ => Ex.nil ?_
  refine Ex.setA ok cMark_ok (by decide) 2 rfl (Pe.ev (v 1 rfl rfl) ⟨rfl, v 0 rfl rfl, _, ha, Nat.le_of_ble_eq_true rfl, ?_⟩)
  have e0 : putV [Value.int num 0, .bool adv, .none, .int p0 0] 2 (.ref b) = [.int num 0, .bool adv, .ref b, .int p0 0] := rfl
  rw [e0]
  have h1 : Has (upd H a (.inst cMark [.int num 0, .bool adv, .ref b, .int p0 0])) (ents b B) := fun p hp => by
    have q : p.1 ≠ a := fun q => hn (q ▸ List.mem_map_of_mem hp)
    rw [upd_ne q]; exact h p hp
  refine Ex.ite (Pb.cmp (v 1 rfl rfl) Pe.none (Cmp.isNone rfl)) (fun hb => by cases hb) fun _ => ?_
  refine Ex.do I (Ev.mC ok (Pe.ba ok 3 h1 (v 1 rfl rfl) rfl rfl) cMarks_ok (ments_ms (em h1)) 1 rfl (.cons (v 0 rfl rfl) (.cons (Pe.min ok I (by kernel_rfl) (Pe.max ok I (by kernel_rfl) (v 2 rfl rfl) Pe.int) (Pe.add (Pe.meth ok (v 1 rfl rfl) cBuf_ok (eb h1) (List.mem_of_getElem? (i := 2) rfl) rfl rfl rfl (by decide) .nil (CallP.fn ok (buf_size0 n h1 og))) Pe.int)) .nil)) (marks_put (n + 1) (ments_ms (em h1)) (ments_rw (em h1)) (by unfold rowsE; rw [List.length_map]; exact Nat.le_trans hz (by decide)) (upd_same _ _ _)) fun _ H2 r => Ex.nil (Ex.nil ⟨rfl, ?_⟩))
  have _ := r.1; have s := r.2; try clear r
  have e1 : PySem.stored (rowsE B.mks) num (.ref a) = rowsE (B.mks ++ [⟨num, a, adv, clampP B.g.txt q⟩]) := by
    rw [stored_new fun p hp => ?_]
    · unfold rowsE; rw [List.map_append]; rfl
    · refine el1_1 (List.mem_map.mp hp) fun x hx z92 => ?_; rcases z92 with rfl
      exact fun z => hnum (z ▸ List.mem_map_of_mem hx)
  rw [e1] at s
  rw [ents_keys] at nd hn
  have m1 : B.rw ∈ b :: B.t :: B.cl :: B.ls :: B.ms :: B.rw :: B.mks.map (·.a) := by simp
  have arw : B.rw ≠ a := fun z => hn (z ▸ m1)
  have g : ∀ x o, x ≠ a → x ≠ B.rw → H x = some o → H2 x = some o := fun x o n1 n2 e => s _ _ (by rw [upd_ne n1, upd_ne n2, upd_ne n1]; exact e)
  have off : ∀ x, x ∈ b :: B.t :: B.cl :: B.ls :: B.ms :: B.rw :: B.mks.map (·.a) → x ≠ a := fun x hx z => hn (z ▸ hx)
  have rwo : ∀ x ∈ [b, B.t, B.cl, B.ls, B.ms], x ≠ B.rw := fun x hx z => by
    have := List.nodup_append.mp (show ([b, B.t, B.cl, B.ls, B.ms] ++ (B.rw :: B.mks.map (·.a))).Nodup from nd)
    exact this.2.2 x hx _ List.mem_cons_self z
  have rwm : ∀ x ∈ B.mks.map (·.a), x ≠ B.rw := fun x hx z => by
    have := List.nodup_append.mp (show ([b, B.t, B.cl, B.ls, B.ms] ++ (B.rw :: B.mks.map (·.a))).Nodup from nd)
    exact (List.nodup_cons.mp this.2.1).1 (z ▸ hx)
  have gb := g _ _ (off b (by simp)) (rwo b (by simp)) (eb h)
  have gt := g _ _ (off B.t (by simp)) (rwo B.t (by simp)) (eg h).1
  have gc := g _ _ (off B.cl (by simp)) (rwo B.cl (by simp)) (eg h).2
  have gl := g _ _ (off B.ls (by simp)) (rwo B.ls (by simp)) (el h)
  have gm := g _ _ (off B.ms (by simp)) (rwo B.ms (by simp)) (ments_ms (em h))
  refine ⟨Has.cons gb (Has.cons gt (Has.cons gc (Has.cons gl (Has.cons gm (Has.cons (s _ _ (by rw [upd_ne arw, upd_same])) fun p hp => ?_))))), fun x o n e => ⟨g x o (fun z => n (by rw [z]; exact List.mem_cons_self)) (fun z => n ?_) e, fun z => n ?_⟩⟩
  · refine el1_1 (List.mem_map.mp hp) fun y hy z92 => ?_; rcases z92 with rfl
    rcases List.mem_append.mp hy with hy | hy
    · have hm : y.a ∈ B.mks.map (·.a) := List.mem_map_of_mem hy
      exact g _ _ (off _ (by simp only [List.mem_cons]; exact .inr (.inr (.inr (.inr (.inr (.inr hm)))))) ) (rwm _ hm) (ments_mk (em h) hy)
    · rw [List.mem_singleton.mp hy]
      exact s _ _ (upd_same _ _ _)
  · refine List.mem_cons_of_mem _ ?_
    rw [z]
    show B.rw ∈ ks (ents b B)
    rw [ents_keys]; exact m1
  · rw [ents_keys] at z
    show x ∈ a :: ks (ents b B)
    rw [ents_keys]
    simp only [List.map_append, List.map_cons, List.map_nil, List.mem_cons, List.mem_append, List.not_mem_nil, or_false] at z ⊢
    rcases z with z | z | z | z | z | z | z | z <;> simp [z]
theorem set_again (n : Nat) {m : MK} {q : Int} (h : Has H (ents b B)) (o : B.ok b) (hm : m ∈ B.mks) :
    FnSpec 651 (n + 3) [.ref m.a, .ref b, .int q 0] H (fun r H' => r = .none ∧ Step b H B H' { B with mks := B.mks.map (mv (fSet m.num (clampP B.g.txt q))) }) NoX := by
  refine FnSpec.introX (F := F651) F651_ok F651_b3 rfl fun c ok I hX hHX => ?_
  have v := Pe.vars ok I
  have hmk := ments_mk (em h) hm
  refine Ex.ite (Pb.and (Pb.cmp (Pe.attr ok cMark_ok 2 (v 0 rfl rfl) hmk rfl rfl rfl) Pe.none (Cmp.notNone rfl)) fun _ => Pb.cmp (Pe.attr ok cMark_ok 2 (v 0 rfl rfl) hmk rfl rfl rfl) (v 1 rfl rfl) Cmp.refSelf) (fun hb => by rw [Bool.and_false] at hb; cases hb) fun _ => Ex.nil ?_
  refine Ex.setA ok cMark_ok (by decide) 2 rfl (Pe.ev (v 1 rfl rfl) ⟨rfl, v 0 rfl rfl, _, hmk, Nat.le_of_ble_eq_true rfl, ?_⟩)
  refine Ex.moved (H' := H) ?_ (sub_have' hmk)
  refine Ex.ite (Pb.cmp (v 1 rfl rfl) Pe.none (Cmp.isNone rfl)) (fun hb => by cases hb) fun _ => ?_
  refine Ex.do I (Ev.mC ok (Pe.ba ok 3 h (v 1 rfl rfl) rfl rfl) cMarks_ok (ments_ms (em h)) 1 rfl (.cons (v 0 rfl rfl) (.cons (Pe.min ok I (by kernel_rfl) (Pe.max ok I (by kernel_rfl) (v 2 rfl rfl) Pe.int) (Pe.add (Pe.meth ok (v 1 rfl rfl) cBuf_ok (eb h) (List.mem_of_getElem? (i := 2) rfl) rfl rfl rfl (by decide) .nil (CallP.fn ok (buf_size0 n h o.g))) Pe.int)) .nil)) (marks_put (n + 1) (ments_ms (em h)) (ments_rw (em h)) (by unfold rowsE; rw [List.length_map]; exact Nat.le_of_lt (Nat.lt_trans o.few (by decide))) hmk) fun _ H2 r => Ex.nil (Ex.nil ⟨rfl, ?_⟩))
  have _ := r.1; have s := r.2; try clear r
  rw [stored_same (List.mem_map.mpr ⟨m, hm, rfl⟩) fun p hp e => by
    refine el1_1 (List.mem_map.mp hp) fun x hx z92 => ?_; rcases z92 with rfl
    rw [num_inj o.nn hx hm e]] at s
  refine Step.mks h o (ments_set (em h) o.ndm o.nn hm (Sub.trans' (Sub.updM (Sub.trans' (sub_have' (ments_rw (em h))) Sub.rfl') _ _) s))
end
theorem without_rows (l : List MK) (k : Int) : PySem.without (rowsE l) k = rowsE (l.filter fun m => decide (m.num ≠ k)) := by
  unfold PySem.without rowsE; rw [List.filter_map]; rfl
theorem refO_bne {a : Addr} : (!(Value.ref a == Value.none)) = true := by rfl
noncomputable def dropB (B : BD) (k : Int) : BD := { B with mks := B.mks.filter fun m => decide (m.num ≠ k) }
section
variable {H : AH} {b : Addr} {B : BD}
theorem keys_nd (o : B.ok b) : (b :: B.t :: B.cl :: B.ls :: B.ms :: B.rw :: B.mks.map (·.a)).Nodup := by rw [← ents_keys]; exact o.nd
theorem dropB_ok (o : B.ok b) {k : Int} (hk : k ≠ 0) : (dropB B k).ok b := by
  refine ⟨?_, ?_, ?_, o.g, ?_⟩
  · rw [ents_keys]
    refine (keys_nd o).sublist ?_
    exact ((((((List.filter_sublist.map _).cons_cons _).cons_cons _).cons_cons _).cons_cons _).cons_cons _).cons_cons _
  · exact o.nn.sublist (List.filter_sublist.map _)
  · exact Nat.lt_of_le_of_lt (List.length_filter_le _ _) o.few
  · show B.mark = ((B.mks.filter _).find? _).map (·.a)
    rw [List.find?_filter, o.mark]
    congr 2
    funext m
    by_cases e : m.num = 0
    · have : m.num ≠ k := by rw [e]; exact Ne.symm hk
      simp [this]
    · simp [e]
theorem set_drop (n : Nat) {m : MK} (h : Has H (ents b B)) (o : B.ok b) (hm : m ∈ B.mks) :
    FnSpec 651 (n + 3) [.ref m.a, .none, .int 0 0] H (fun r H' => r = .none ∧ Tr (ents b B) H (ents b (dropB B m.num)) H') NoX := by
  refine FnSpec.introX (F := F651) F651_ok F651_b3 rfl fun c ok I hX hHX => ?_
  have v := Pe.vars ok I
  have hmk := ments_mk (em h) hm
  have nd := keys_nd o
  have n6 := List.nodup_append.mp (show ([b, B.t, B.cl, B.ls, B.ms] ++ (B.rw :: B.mks.map (·.a))).Nodup from nd)
  have n7 := List.nodup_cons.mp n6.2.1
  have hma : m.a ∈ B.mks.map (·.a) := List.mem_map_of_mem hm
  have arw : m.a ≠ B.rw := fun z => n7.1 (z ▸ hma)
  refine Ex.ite (Pb.and (Pb.cmp (Pe.attr ok cMark_ok 2 (v 0 rfl rfl) hmk rfl rfl rfl) Pe.none (Cmp.notNone rfl)) fun _ => Pb.cmp (Pe.attr ok cMark_ok 2 (v 0 rfl rfl) hmk rfl rfl rfl) (v 1 rfl rfl) (Cmp.notNone rfl)) (fun _ => ?_) fun hb => by cases hb
  refine Ex.do I (Ev.mC ok (Pe.ba ok 3 h (Pe.attr ok cMark_ok 2 (v 0 rfl rfl) hmk rfl rfl rfl) rfl rfl) cMarks_ok (ments_ms (em h)) 2 rfl (.cons (v 0 rfl rfl) .nil) (marks_drop (n + 1) (ments_ms (em h)) (ments_rw (em h)) (by unfold rowsE; rw [List.length_map]; exact Nat.le_of_lt (Nat.lt_trans o.few (by decide))) hmk) fun _ H2 r => Ex.nil ?_)
  have _ := r.1; have s := r.2; try clear r
  rw [without_rows] at s
  have hmk2 := s _ _ (show upd H B.rw _ m.a = _ by rw [upd_ne arw]; exact hmk)
  refine Ex.setA ok cMark_ok (by decide) 2 rfl (Pe.ev (v 1 rfl rfl) ⟨rfl, v 0 rfl rfl, _, hmk2, Nat.le_of_ble_eq_true rfl, ?_⟩)
  refine Ex.ite (b := true) (Pb.cmp (v 1 rfl rfl) Pe.none (Cmp.isNone rfl)) (fun _ => ?_) fun hb => by cases hb
  refine Ex.setA ok cMark_ok (by decide) 3 rfl (Pe.ev Pe.int ⟨rfl, v 0 rfl rfl, _, upd_same _ _ _, Nat.le_of_ble_eq_true rfl, Ex.nil (Ex.nil ⟨rfl, ?_⟩)⟩)
  rw [upd_upd]
  have g : ∀ x o, x ≠ B.rw → x ≠ m.a → H x = some o → upd H2 m.a (.inst cMark (putV (putV [.int m.num 0, .bool m.adv, .ref b, .int m.pos 0] 2 .none) 3 (.int 0 0))) x = some o := fun x o n1 n2 e => by rw [upd_ne n2]; exact s _ _ (by rw [upd_ne n1]; exact e)
  have rwo : ∀ x ∈ [b, B.t, B.cl, B.ls, B.ms], x ≠ B.rw := fun x hx z => n6.2.2 x hx _ List.mem_cons_self z
  have mo : ∀ x ∈ [b, B.t, B.cl, B.ls, B.ms], x ≠ m.a := fun x hx z => n6.2.2 x hx _ (List.mem_cons_of_mem _ hma) z
  have gb := g b _ (rwo b (by simp)) (mo b (by simp)) (eb h)
  have gt := g B.t _ (rwo B.t (by simp)) (mo B.t (by simp)) (eg h).1
  have gc := g B.cl _ (rwo B.cl (by simp)) (mo B.cl (by simp)) (eg h).2
  have gl := g B.ls _ (rwo B.ls (by simp)) (mo B.ls (by simp)) (el h)
  have gm := g B.ms _ (rwo B.ms (by simp)) (mo B.ms (by simp)) (ments_ms (em h))
  refine ⟨Has.cons gb (Has.cons gt (Has.cons gc (Has.cons gl (Has.cons gm (Has.cons ?_ fun p hp => ?_))))), fun x o n e => ⟨g x o (fun z => n ?_) (fun z => n ?_) e, fun z => n ?_⟩⟩
  · show upd H2 m.a _ B.rw = _
    rw [upd_ne arw.symm]; exact s _ _ (upd_same _ _ _)
  · refine el1_1 (List.mem_map.mp hp) fun y hy z92 => ?_; rcases z92 with rfl
    have zq := List.mem_filter.mp hy; have hy1 := zq.1; have hy2 := zq.2
    have hya : y.a ∈ B.mks.map (·.a) := List.mem_map_of_mem hy1
    refine g _ _ (fun z => n7.1 (z ▸ hya)) (fun z => ?_) (ments_mk (em h) hy1)
    have z : y.a = m.a := z
    have h1 := ments_mk (em h) hy1
    rw [z, hmk] at h1
    injection h1 with h1; injection h1 with _ h1; injection h1 with h1; injection h1 with h1
    exact (of_decide_eq_true hy2) h1.symm
  · rw [ents_keys, z]; simp
  · rw [ents_keys, z]
    simp only [List.mem_cons]
    exact .inr (.inr (.inr (.inr (.inr (.inr hma)))))
  · rw [ents_keys] at z ⊢
    simp only [List.mem_cons] at z ⊢
    rcases z with z | z | z | z | z | z | z
    · simp [z]
    · exact .inr (.inl z)
    · exact .inr (.inr (.inl z))
    · exact .inr (.inr (.inr (.inl z)))
    · exact .inr (.inr (.inr (.inr (.inl z))))
    · exact .inr (.inr (.inr (.inr (.inr (.inl z)))))
    · refine el1_1 (List.mem_map.mp z) fun y hy z92 => ?_; rcases z92 with rfl
      exact .inr (.inr (.inr (.inr (.inr (.inr (List.mem_map_of_mem (List.mem_filter.mp hy).1))))))
theorem mark_get (o : B.ok b) {a : Addr} (hm : B.mark = some a) : ∃ m ∈ B.mks, m.a = a ∧ m.num = 0 ∧ B.p.obs 0 = some (m.adv, m.pos) := by
  have := o.mark
  rw [hm] at this
  refine el1_1 (Option.map_eq_some_iff.mp this.symm) fun m h1 h2 => ?_
  refine ⟨m, List.mem_of_find?_eq_some h1, h2, by simpa using List.find?_some h1, ?_⟩
  show (B.mks.find? fun m => decide (m.num = ((0 : Nat) : Int))).map _ = _
  rw [show ((0 : Nat) : Int) = 0 from rfl, h1]; rfl
theorem mark_none (o : B.ok b) (hm : B.mark = none) : B.p.obs 0 = none ∧ (0 : Int) ∉ nums B.mks := by
  have := o.mark
  rw [hm] at this
  have h1 := Option.map_eq_none_iff.mp this.symm
  refine ⟨?_, fun z => ?_⟩
  · show (B.mks.find? fun m => decide (m.num = ((0 : Nat) : Int))).map _ = _
    rw [show ((0 : Nat) : Int) = 0 from rfl, h1]; rfl
  · refine el1_1 (List.mem_map.mp z) fun m hm e => ?_
    have := List.find?_eq_none.mp h1 m hm
    simp [e] at this
theorem has_mark (n : Nat) (h : Has H (ents b B)) (o : B.ok b) : FnSpec 686 (n + 1) [.ref b] H (fun v H' => v = .bool (B.p.obs 0).isSome ∧ Sub H H') NoX := by
  refine FnSpec.intro (F := F686) F686_ok F686_b1 rfl fun c ok I => ?_
  have v := Pe.vars ok I
  cases hm : B.mark with
  | none =>
    have e : bufL B = bufL B := rfl
    have h7 : ∀ {M p q}, M[0]? = some (some (.ref b)) → Pe c M H (.Attribute (.Name "buffer" p) "mark" q) .none := fun m0 => Pe.ba ok 7 h (v 0 rfl m0) rfl (by show some (refO B.mark) = _; rw [hm]; rfl)
    rw [(mark_none o hm).1]
    exact Ex.ret (Pe.ev (Pe.andB (Pe.cmp (h7 rfl) Pe.none (Cmp.notNone rfl)) (b2 := false) fun hb => by have := notNone_none.symm.trans hb; cases this) ⟨rfl, Sub.rfl'⟩)
  | some a =>
    refine el1_3 (mark_get o hm) fun m hmm z92 h0 ho => ?_; rcases z92 with rfl
    have h7 : ∀ {M p q}, M[0]? = some (some (.ref b)) → Pe c M H (.Attribute (.Name "buffer" p) "mark" q) (.ref m.a) := fun m0 => Pe.ba ok 7 h (v 0 rfl m0) rfl (by show some (refO B.mark) = _; rw [hm]; rfl)
    rw [ho]
    exact Ex.ret (Pe.ev (Pe.andB (Pe.cmp (h7 rfl) Pe.none (Cmp.notNone rfl)) fun _ => Pe.cmp (Pe.attr ok cMark_ok 2 (h7 rfl) (ments_mk (em h) hmm) rfl rfl rfl) Pe.none (Cmp.notNone rfl)) ⟨rfl, Sub.rfl'⟩)
theorem mark_place (n : Nat) (h : Has H (ents b B)) (o : B.ok b) {adv : Bool} {x : Int} (hx : B.p.obs 0 = some (adv, x)) : FnSpec 693 (n + 2) [.ref b] H (fun v H' => v = .int x 0 ∧ Sub H H') NoX := by
  refine FnSpec.intro (F := F693) F693_ok F693_b1 rfl fun c ok I => ?_
  have v := Pe.vars ok I
  have hm1 := has_mark n h o
  rw [hx] at hm1
  refine Ex.ite (Pb.not (Pb.val (Pe.fC ok I gf_has_mark (by kernel_rfl) (.cons (v 0 rfl rfl) .nil) hm1))) (fun hb => by cases hb) fun _ => Ex.nil ?_
  cases hm : B.mark with
  | none => rw [(mark_none o hm).1] at hx; cases hx
  | some a =>
    refine el1_3 (mark_get o hm) fun m hmm z92 h0 ho => ?_; rcases z92 with rfl
    have h7 : ∀ {M p q}, M[0]? = some (some (.ref b)) → Pe c M H (.Attribute (.Name "buffer" p) "mark" q) (.ref m.a) := fun m0 => Pe.ba ok 7 h (v 0 rfl m0) rfl (by show some (refO B.mark) = _; rw [hm]; rfl)
    rw [hx] at ho
    cases ho
    exact Ex.ret (Pe.ev (Pe.attr ok cMark_ok 3 (h7 rfl) (ments_mk (em h) hmm) rfl rfl rfl) ⟨rfl, Sub.rfl'⟩)
end
structure RD where
  m : Addr
  ml : Addr
  last : Int
  mas : List Addr
noncomputable abbrev ringO (R : RD) : AO := .inst cRing [.int 2 0, .ref R.ml, .int R.last 0]
noncomputable def rents (R : RD) : HL := [(R.m, ringO R), (R.ml, .list (R.mas.map .ref))]
theorem r1 {H : AH} {R : RD} (h : Has H (rents R)) : H R.m = some (ringO R) := h.head
theorem r2 {H : AH} {R : RD} (h : Has H (rents R)) : H R.ml = some (.list (R.mas.map .ref)) := h.tail.head
structure RI (B : BD) (R : RD) : Prop where
  few : R.mas.length ≤ 2
  mas : ∀ a ∈ R.mas, ∃ m ∈ B.mks, m.a = a ∧ m.num < 0
  low : ∀ m ∈ B.mks, R.last ≤ m.num
  neg : R.last ≤ 0
  nd : R.mas.Nodup
noncomputable def markP (p : PB) (q : Int) : PB := { p with obs := fun k => if k = 0 then some (((p.obs 0).map (·.1)).getD false, clampP p.txt q) else p.obs k }
noncomputable def Named (B B' : BD) : Prop := ∀ x : Int × Addr × Bool, 1 ≤ x.1 → (x ∈ B'.ids ↔ x ∈ B.ids)
theorem Named.rfl' {B : BD} : Named B B := fun _ _ => Iff.rfl
theorem Named.trans' {B B1 B2 : BD} (x : Named B B1) (y : Named B1 B2) : Named B B2 := fun z hz => (y z hz).trans (x z hz)
theorem Named.ids {B B' : BD} (h : B'.ids = B.ids) : Named B B' := fun _ _ => by rw [h]
theorem gl_OWN : Gl "OWN_NUMBER" (.int 0 1080) := fun P => by kernel_rfl
section
variable {c : Cx} {M : Mem} {H : AH} {n : Nat} {F : Fn} {rest : List Stmt} {P : Fl → Mem → AH → Prop}
theorem Ev.marker (ok : c.Ok (n + 2)) (I : InFn c F) {e1 e2 : Expr} {num : Int} {adv : Bool} {p pos : Pos} {Q : Value → AH → Prop} (hk : F.sc.names.lookup ("Marker" : Str) = some .globalImplicit) (h1 : Pe c M H e1 (.int num 0)) (h2 : Pe c M H e2 (.bool adv))
    (q : ∀ x H', H x = none → Sub (upd H x (.inst cMark [.int num 0, .bool adv, .none, .int 0 0])) H' → Q (.ref x) H') (hn : noStar [e1, e2] = true := by rfl) : Ev c M H (.Call (.Name "Marker" p) [e1, e2] [] pos) Q :=
  Ev.call ok (f := .ref cMark.addr) (Pe.gl ok I gl_Marker hk (by decide +kernel)) (Solid.ref _) cMark_mk.cw hn (Args.one h1 (Args.one h2 (Args.nil' (CallJ.make ok cMark_mk fun x hx => FnSpec.sub (mark_init n (upd_same _ _ _)) fun _ H' r => ⟨r.1, q x H' hx (by rw [upd_upd] at r; exact r.2)⟩))))
theorem Ex.forOpt (ok : c.Ok n) (noX : ∀ sym, ¬ c.X sym) {tgt : Expr} {pos : Pos} {iter : Expr} {body : List Stmt} {l : HL} {ws : List Value} {J : Mem → HL → Prop} (hz : ws.length ≤ 1) (hl : Has H l) (nd : (ks l).Nodup) (h : Ev c M H iter fun v H1 => ∃ d, v = .ref d ∧ H d = none ∧ H1 = upd H d (.list ws))
    (h0 : ws = [] → J M l) (body' : ∀ w, ws = [w] → ∀ H', Has H' l → Asg c M H' tgt w fun M2 H2 => Ex c M2 H2 body fun fl M4 H4 => fl = .next ∧ ∃ l', (ks l').Nodup ∧ J M4 l' ∧ Tr l H' l' H4)
    (k : ∀ M' l' H', J M' l' → Tr l H l' H' → Ex c M' H' rest P) (hs : ∀ x, foldedSetIterable iter c.env x = pure x := by intro _; rfl) : Ex c M H (.For tgt iter body [] pos :: rest) P := by
  refine Ex.forL ok noX (W.mono h fun v M1 H1 h1 => ⟨h1.1, ?_⟩) hs
  have _ := h1.1; refine el1_2 h1.2 fun d hv hd z94 => ?_; rcases z94 with rfl; try clear h1
  refine ⟨d, ws, ofL l, fun i M' H3 => (i = 0 ∧ M' = M ∧ H3 = ofL l) ∨ (i = 1 ∧ ∃ l', (ks l').Nodup ∧ J M' l' ∧ H3 = ofL l'), hv, upd_same _ _ _, ?_, (hl.sub (Sub.upd_new hd)).ofL, .inl ⟨rfl, rfl, rfl⟩, ?_, ?_⟩
  · exact ofL_none.mpr fun q => by refine Exists.elim (hl.key q) fun o ho => ?_; rw [hd] at ho; cases ho
  · rintro i M' H3 H' v hv hi hS
    obtain ⟨hlt, hve⟩ := List.getElem?_eq_some_iff.mp hv
    have i0 : i = 0 := by lia
    subst i0
    have hw : ws = [v] := by
      refine Exists.elim (List.length_eq_one_iff.mp (show ws.length = 1 by lia)) fun x hx => ?_
      rw [hx] at hv ⊢
      have : x = v := by simpa using hv
      rw [this]
    rcases hi with ⟨_, rfl, rfl⟩ | ⟨z, _⟩
    · exact fun v' hv' => W.mono (body' v hw H' (ofL_sub hS nd) v' hv') fun _ M2 H2 p => Ex.mono p fun fl M4 H4 q => by
        rcases q.1 with rfl; refine el1_2 q.2 fun l' nd' j T => ?_; try clear q
        exact ⟨ofL l', .inr ⟨rfl, l', nd', j, rfl⟩, T.toFwd⟩
    · cases z
  · rintro M' H3 H' hi hF
    rcases hi with ⟨z, rfl, rfl⟩ | ⟨_, l', nd', j, rfl⟩
    · exact k _ l H' (h0 (List.length_eq_zero_iff.mp z)) ((Tr.ofFwd nd hF).from (Sub.upd_new hd))
    · exact k M' l' H' j ((Tr.ofFwd nd' hF).from (Sub.upd_new hd))
end
theorem addM_ok {b : Addr} {B : BD} (o : B.ok b) {m : MK} {mk : Option Addr} (ha : m.a ∉ ks (ents b B)) (hn : m.num ∉ nums B.mks) (few : B.mks.length < 39) (hm : mk = ((B.mks ++ [m]).find? fun m => decide (m.num = 0)).map (·.a)) : ({ B with mark := mk, mks := B.mks ++ [m] } : BD).ok b := by
  rw [ents_keys] at ha
  refine ⟨?_, ?_, ?_, o.g, hm⟩
  · rw [ents_keys]
    show (b :: B.t :: B.cl :: B.ls :: B.ms :: B.rw :: (B.mks ++ [m]).map (·.a)).Nodup
    rw [List.map_append]
    show ((b :: B.t :: B.cl :: B.ls :: B.ms :: B.rw :: B.mks.map (·.a)) ++ [m.a]).Nodup
    exact List.nodup_append.mpr ⟨keys_nd o, by simp, fun x hx y hy q => ha (by rw [← List.mem_singleton.mp hy, ← q]; exact hx)⟩
  · show ((B.mks ++ [m]).map (·.num)).Nodup
    rw [List.map_append]
    exact List.nodup_append.mpr ⟨o.nn, by simp, fun x hx y hy q => hn (by have : y = m.num := List.mem_singleton.mp hy; rw [← this, ← q]; exact hx)⟩
  · show (B.mks ++ [m]).length < 40
    rw [List.length_append]; show B.mks.length + 1 < 40; exact Nat.lt_of_le_of_lt (by assumption) (by decide)
theorem not_key {H : AH} {l : HL} {a : Addr} (h : Has H l) (ha : H a = none) : a ∉ ks l := fun q => by refine Exists.elim (h.key q) fun o ho => ?_; rw [ha] at ho; cases ho
theorem set_mark (n : Nat) {H : AH} {b : Addr} {B : BD} {q : Int} (h : Has H (ents b B)) (o : B.ok b) (few : B.mks.length < 39) : FnSpec 679 (n + 4) [.ref b, .int q 0] H (fun r H' => r = .none ∧ ∃ B', B'.ok b ∧ Tr (ents b B) H (ents b B') H' ∧ B'.p = markP B.p q ∧ Named B B' ∧ (∀ m ∈ B.mks, m.num < 0 → m ∈ B'.mks) ∧ (∀ m ∈ B'.mks, m.num < 0 → m ∈ B.mks) ∧ B'.mks.length ≤ B.mks.length + 1) NoX := by
  refine FnSpec.introX (F := F679) F679_ok F679_b2 rfl fun c ok I hX hHX => ?_
  have v := Pe.vars ok I
  cases hm : B.mark with
  | none =>
    have zq := mark_none o hm; have ob := zq.1; have hn0 := zq.2
    have h7 : ∀ {M p q}, M[0]? = some (some (.ref b)) → Pe c M H (.Attribute (.Name "buffer" p) "mark" q) .none := fun m0 => Pe.ba ok 7 h (v 0 rfl m0) rfl (by show some (refO B.mark) = _; rw [hm]; rfl)
    refine Ex.ite (b := true) (Pb.cmp (h7 rfl) Pe.none (Cmp.isNone rfl)) (fun _ => ?_) fun hb => by cases hb
    refine Ex.setA ok (a := b) cBuf_ok (by decide) 7 rfl (Ev.marker ok I (by kernel_rfl) (Pe.gl ok I gl_OWN (by kernel_rfl) (by decide +kernel)) Pe.bool fun a H1 ha s1 => ?_)
    have T1 : Tr (ents b B) H ((a, .inst cMark [.int 0 0, .bool false, .none, .int 0 0]) :: ents b B) H1 := ((Tr.refl h).new ha).more s1
    have hak := not_key h ha
    have hb1 := T1.1.tail.head
    refine ⟨rfl, v 0 rfl rfl, _, hb1, Nat.le_of_ble_eq_true rfl, Ex.nil ?_⟩
    have T2 : Tr (ents b B) H ((b, bufO { B with mark := some a }) :: (a, .inst cMark [.int 0 0, .bool false, .none, .int 0 0]) :: (ents b B).tail) (upd H1 b (bufO { B with mark := some a })) := (T1.perm (List.Perm.swap (b, bufO B) _ _)).turn rfl (by
      show b ∉ a :: ks (ents b B).tail
      intro z
      rcases List.mem_cons.mp z with z | z
      · exact hak (z ▸ List.mem_cons_self)
      · exact (List.nodup_cons.mp o.nd).1 z)
    have T3 := T2.perm (List.Perm.swap (a, AO.inst cMark [.int 0 0, .bool false, .none, .int 0 0]) _ _)
    have e2 : upd H1 b (bufO { B with mark := some a }) = upd H1 b (.inst cBuf (putV (bufL B) 7 (.ref a))) := rfl
    rw [e2] at T3
    have hB1 : Has (upd H1 b (.inst cBuf (putV (bufL B) 7 (.ref a)))) (ents b { B with mark := some a }) := T3.1.tail
    refine Ex.do I (Ev.fC ok I gf_set_marker (by kernel_rfl) (.cons (Pe.ba ok 7 hB1 (v 0 rfl rfl) rfl rfl) (.cons (v 0 rfl rfl) (.cons (v 1 rfl rfl) .nil))) (set_new n (num := 0) (adv := false) hB1 o.g o.nd (by show B.mks.length ≤ 60; lia) hn0 T3.1.head hak) fun _ H4 r => Ex.nil ⟨rfl, _, addM_ok o hak hn0 few ?_, T3.trans r.2, ?_, ?_, ?_, ?_, ?_⟩)
    · rw [List.find?_append]
      have : B.mks.find? (fun m => decide (m.num = 0)) = none := by
        rw [List.find?_eq_none]; intro x hx z
        exact hn0 (List.mem_map.mpr ⟨x, hx, by simpa using z⟩)
      rw [this]; rfl
    · show (⟨_, _, _, _, _⟩ : PB) = _
      unfold markP
      congr 1
      funext k
      rw [obs_add hn0, ob]
      by_cases e : k = 0
      · subst e; exact (if_pos rfl).trans rfl
      · rw [if_neg e, if_neg (by show ¬ (0 : Int) = (k : Int); lia)]; rfl
    · intro x hx
      show x ∈ (B.mks ++ [_]).map _ ↔ _
      rw [List.map_append, List.mem_append]
      refine ⟨fun z => z.elim id fun z => ?_, .inl⟩
      rw [List.mem_singleton.mp z] at hx
      exact absurd (show (1 : Int) ≤ 0 from hx) (by decide)
    · exact fun m hm _ => List.mem_append_left _ hm
    · intro m hm hneg
      rcases List.mem_append.mp hm with hm | hm
      · exact hm
      · rw [List.mem_singleton.mp hm] at hneg; exact absurd (show (0 : Int) < 0 from hneg) (by decide)
    · show (B.mks ++ [_]).length ≤ _
      rw [List.length_append]; exact Nat.le_refl _
  | some a =>
    refine el1_3 (mark_get o hm) fun m hmm z92 h0 ho => ?_; rcases z92 with rfl
    have h7 : ∀ {M p q}, M[0]? = some (some (.ref b)) → Pe c M H (.Attribute (.Name "buffer" p) "mark" q) (.ref m.a) := fun m0 => Pe.ba ok 7 h (v 0 rfl m0) rfl (by show some (refO B.mark) = _; rw [hm]; rfl)
    refine Ex.ite (Pb.cmp (h7 rfl) Pe.none (Cmp.isNone rfl)) (fun hb => by cases hb) fun _ => Ex.nil ?_
    refine Ex.do I (Ev.fC ok I gf_set_marker (by kernel_rfl) (.cons (h7 rfl) (.cons (v 0 rfl rfl) (.cons (v 1 rfl rfl) .nil))) (set_again n h o hmm) fun _ H4 r => Ex.nil ⟨rfl, _, r.2.ok, r.2.tr, ?_, Named.ids r.2.ids, ?_, ?_, ?_⟩)
    · show (⟨_, _, _, _, _⟩ : PB) = _
      unfold markP
      congr 1
      funext k
      rw [obs_set, h0]
      by_cases e : k = 0
      · subst e
        refine (if_pos rfl).trans ?_
        show (B.p.obs 0).map _ = _
        rw [ho]; rfl
      · rw [if_neg e, if_neg (by show ¬ (0 : Int) = (k : Int); lia)]; rfl
    · intro x hx hneg
      exact List.mem_map.mpr ⟨x, hx, mv_off (by rw [h0]; lia)⟩
    · intro y hy hneg
      refine el1_1 (List.mem_map.mp hy) fun x hx z92 => ?_; rcases z92 with rfl
      rw [mv_off (by rw [h0]; have : x.num < 0 := hneg; lia)]; exact hx
    · show (B.mks.map _).length ≤ _
      rw [List.length_map]; lia
theorem ring_init (n : Nat) {H : AH} {x : Addr} (hx : H x = some (.inst cRing [])) : FnSpec 665 (n + 1) [.ref x, .int 2 0] H (fun r H' => r = .none ∧ ∃ d, H d = none ∧ Sub (upd (upd H d (.list [])) x (ringO ⟨x, d, 0, []⟩)) H') NoX := by
  refine FnSpec.intro (F := F665) F665_ok F665_b2 rfl fun c ok I => ?_
  have v := Pe.vars ok I
  refine Ex.setA ok cRing_ok (by decide) 0 rfl (Pe.ev (v 1 rfl rfl) ⟨rfl, v 0 rfl rfl, _, hx, Nat.le_of_ble_eq_true rfl, ?_⟩)
  refine Ex.setA ok cRing_ok (by decide) 1 rfl (Ev.list ok rfl ⟨Nat.le_of_ble_eq_true rfl, fun d hd => ⟨rfl, v 0 rfl rfl, _, Sub.upd_new hd _ _ (upd_same _ _ _), Nat.le_of_ble_eq_true rfl, ?_⟩⟩)
  refine Ex.setA ok cRing_ok (by decide) 2 rfl (Pe.ev Pe.int ⟨rfl, v 0 rfl rfl, _, upd_same _ _ _, Nat.le_of_ble_eq_true rfl, Ex.nil ⟨rfl, d, ?_, ?_⟩⟩)
  · have := ne_new (upd_same _ _ _) hd
    rw [upd_ne this.symm] at hd; exact hd
  · have q : x ≠ d := ne_new (upd_same _ _ _) hd
    rw [upd_upd]
    intro a y e
    by_cases z : a = x
    · subst z; rw [upd_same] at e ⊢; exact e
    · rw [upd_ne z] at e ⊢
      by_cases z' : a = d
      · subst z'; rw [upd_same] at e ⊢; exact e
      · rw [upd_ne z'] at e ⊢; rw [upd_ne z]; exact e
section
variable {H : AH} {b : Addr} {B : BD} {R : RD}
theorem rents_keys (R : RD) : ks (rents R) = [R.m, R.ml] := rfl
theorem rents_ne (h : Has H (rents R)) : R.m ≠ R.ml := ne_of (r1 h) (r2 h) (by intro h; cases h)
theorem ring_marker (n : Nat) {q : Int} (h : Has H (ents b B)) (o : B.ok b) (hR : Has H (rents R)) (dis : ∀ a ∈ ks (rents R), a ∉ ks (ents b B)) (few : B.mks.length < 39) (low : ∀ m ∈ B.mks, R.last ≤ m.num) (neg : R.last ≤ 0) :
    FnSpec 700 (n + 4) [.ref R.m, .ref b, .int q 0] H (fun v H' => ∃ a, v = .ref a ∧ H a = none ∧ ({ B with mks := B.mks ++ [⟨R.last - 1, a, false, clampP B.g.txt q⟩] } : BD).ok b ∧
      Tr (ents b B ++ rents R) H (ents b { B with mks := B.mks ++ [⟨R.last - 1, a, false, clampP B.g.txt q⟩] } ++ rents { R with last := R.last - 1 }) H') NoX := by
  refine FnSpec.introX (F := F700) F700_ok F700_b3 rfl fun c ok I hX hHX => ?_
  have v := Pe.vars ok I
  refine Ex.setA ok cRing_ok (by decide) 2 rfl (Pe.ev (Pe.sub (Pe.attr ok cRing_ok 2 (v 0 rfl rfl) (r1 hR) rfl rfl rfl) Pe.int) ⟨rfl, v 0 rfl rfl, _, r1 hR, Nat.le_of_ble_eq_true rfl, ?_⟩)
  have T1 : Tr (rents R) H (rents { R with last := R.last - 1 }) (upd H R.m (ringO { R with last := R.last - 1 })) := (Tr.refl hR).turn rfl (by simpa [ks] using rents_ne hR)
  refine Ex.let I 3 rfl (Ev.marker ok I (by kernel_rfl) (Pe.attr ok cRing_ok 2 (v 0 rfl rfl) (upd_same _ _ _) rfl rfl rfl) Pe.bool fun a H2 ha s2 => ?_)
  have T2 : Tr (rents R) H ((a, .inst cMark [.int (R.last - 1) 0, .bool false, .none, .int 0 0]) :: rents { R with last := R.last - 1 }) H2 := (T1.new ha).more s2
  have ha0 : H a = none := by
    cases q : H a with
    | none => rfl
    | some x =>
      by_cases z : a = R.m
      · subst z; rw [upd_same] at ha; cases ha
      · have ha' : upd H R.m (ringO { R with last := R.last - 1 }) a = none := ha
        rw [upd_ne z, q] at ha'; cases ha'
  have zq := T2.keep h fun x hx z => dis x z hx; have h2 := zq.1; have d2 := zq.2
  have hak := not_key h ha0
  have hnum : R.last - 1 ∉ nums B.mks := fun z => by
    refine el1_1 (List.mem_map.mp z) fun m hm e => ?_
    have := low m hm; lia
  refine Ex.do I (Ev.fC ok I gf_set_marker (by kernel_rfl) (.cons (v 3 rfl rfl) (.cons (v 1 rfl rfl) (.cons (v 2 rfl rfl) .nil))) (set_new n (q := q) h2 o.g o.nd (by lia) hnum T2.1.head hak) fun _ H3 r => ?_)
  refine Ex.ret (Pe.ev (v 3 rfl rfl) ⟨a, rfl, ha0, addM_ok o hak hnum few ?_, ?_⟩)
  · rw [o.mark, List.find?_append]
    have : [(⟨R.last - 1, a, false, clampP B.g.txt q⟩ : MK)].find? (fun m => decide (m.num = 0)) = none := by
      have : R.last - 1 ≠ 0 := by lia
      simp [this]
    rw [this, Option.or_none]
  · have A := T2.frame h fun x hx z => dis x z hx
    have C := r.2.frame (r := rents { R with last := R.last - 1 }) T2.1.tail fun x hx z => by
      have hx' : x ∈ ks (rents R) := hx
      rcases List.mem_cons.mp z with z | z
      · refine Exists.elim (hR.key hx') fun o' ho => ?_
        rw [z, ha0] at ho; cases ho
      · exact dis x hx' z
    exact ((A.permL List.perm_append_comm).perm (by
      refine List.Perm.cons _ ?_
      exact List.perm_append_comm)).trans C
theorem Tr.turnAt {l l1 l2 : HL} {H H' : AH} {a : Addr} {o o' : AO} (x : Tr l H (l1 ++ (a, o) :: l2) H') (n1 : a ∉ ks l1) (n2 : a ∉ ks l2) : Tr l H (l1 ++ (a, o') :: l2) (upd H' a o') :=
  ((x.perm List.perm_middle).turn rfl (by rw [ks_app]; exact fun z => (List.mem_append.mp z).elim n1 n2)).perm List.perm_middle.symm
theorem push_mark (n : Nat) {q : Int} (h : Has H (ents b B)) (o : B.ok b) (hR : Has H (rents R)) (dis : ∀ a ∈ ks (rents R), a ∉ ks (ents b B)) (few : B.mks.length < 38) (ri : RI B R) :
    FnSpec 707 (n + 6) [.ref R.m, .ref b, .int q 0] H (fun v H' => v = .none ∧ ∃ (B' : BD) (R' : RD), B'.ok b ∧ RI B' R' ∧ R'.m = R.m ∧ Tr (ents b B ++ rents R) H (ents b B' ++ rents R') H' ∧ B'.p = markP B.p q ∧ Named B B' ∧ B'.mks.length ≤ B.mks.length + 2 ∧ ∀ a ∈ ks (rents R'), a ∉ ks (ents b B')) NoX := by
  refine FnSpec.introX (F := F707) F707_ok F707_b3 rfl fun c ok I hX hHX => ?_
  have v := Pe.vars ok I
  have fin : ∀ {M : Mem} {H2 : AH} {B2 : BD} {R2 : RD} {p1 p2 p3 p4 p5 : Pos}, M[1]? = some (some (.ref b)) → M[2]? = some (some (.int q 0)) → B2.ok b → RI B2 R2 → R2.m = R.m → Tr (ents b B ++ rents R) H (ents b B2 ++ rents R2) H2 → (∀ a ∈ ks (rents R2), a ∉ ks (ents b B2)) → B2.p = B.p → Named B B2 → B2.mks.length ≤ B.mks.length + 1 →
      Ex c M H2 [.Expr (.Call (.Name "set_mark" p1) [.Name "buffer" p2, .Name "place" p3] [] p4) p5] fun fl _ H' => fl.val = .none ∧ ∃ (B' : BD) (R' : RD), B'.ok b ∧ RI B' R' ∧ R'.m = R.m ∧ Tr (ents b B ++ rents R) H (ents b B' ++ rents R') H' ∧ B'.p = markP B.p q ∧ Named B B' ∧ B'.mks.length ≤ B.mks.length + 2 ∧ ∀ a ∈ ks (rents R'), a ∉ ks (ents b B') := by
    intro M H2 B2 R2 p1 p2 p3 p4 p5 m1 m2 o2 ri2 rm T2 dis2 ep nm len
    have h2 : Has H2 (ents b B2) := T2.1.of fun p hp => List.mem_append_left _ hp
    have hr2 : Has H2 (rents R2) := T2.1.of fun p hp => List.mem_append_right _ hp
    refine Ex.do I (Ev.fC ok I gf_set_mark (by kernel_rfl) (.cons (v 1 rfl m1) (.cons (v 2 rfl m2) .nil)) (set_mark (n + 1) h2 o2 (by lia)) fun _ H3 r => Ex.nil ⟨rfl, ?_⟩)
    have _ := r.1; refine el1_6 r.2 fun B3 o3 T3 p3 n3 k1 k2 l3 => ?_; try clear r
    refine ⟨B3, R2, o3, ⟨ri2.few, fun a ha => ?_, fun m hm => ?_, ri2.neg, ri2.nd⟩, rm, T2.trans (T3.frame hr2 dis2), by rw [p3, ep], nm.trans' n3, by lia, (T3.keep hr2 dis2).2⟩
    · refine el1_2 (ri2.mas a ha) fun m hm e1 e2 => ?_
      exact ⟨m, k1 m hm e2, e1, e2⟩
    · by_cases e : m.num < 0
      · exact ri2.low m (k2 m hm e)
      · have := ri2.neg; lia
  have hm1 := has_mark (n + 4) h o
  cases hm : B.mark with
  | none =>
    rw [(mark_none o hm).1] at hm1
    refine Ex.ite (Pb.val (Pe.fC ok I gf_has_mark (by kernel_rfl) (.cons (v 1 rfl rfl) .nil) hm1)) (fun hb => by cases hb) fun _ => Ex.nil ?_
    exact fin rfl rfl o ri rfl (Tr.refl (h.app hR)) dis rfl Named.rfl' (by lia)
  | some ma =>
    refine el1_3 (mark_get o hm) fun mk hmm z92 h0 ho => ?_; rcases z92 with rfl
    rw [ho] at hm1
    have h7 : ∀ {M p q}, M[1]? = some (some (.ref b)) → Pe c M H (.Attribute (.Name "buffer" p) "mark" q) (.ref mk.a) := fun m0 => Pe.ba ok 7 h (v 1 rfl m0) rfl (by show some (refO B.mark) = _; rw [hm]; rfl)
    refine Ex.ite (Pb.val (Pe.fC ok I gf_has_mark (by kernel_rfl) (.cons (v 1 rfl rfl) .nil) hm1)) (fun _ => ?_) fun hb => by cases hb
    refine Ex.do I (Ev.methL ok PySem.F.slot_list_insert (by rfl) (Pe.attr ok cRing_ok 1 (v 0 rfl rfl) (r1 hR) rfl rfl rfl) (r2 hR) rfl rfl rfl (by decide) (Args.one Pe.int (Ev.fC ok I gf_ring_marker (by kernel_rfl) (.cons (v 0 rfl rfl) (.cons (v 1 rfl rfl) (.cons (Pe.attr ok cMark_ok 3 (h7 rfl) (ments_mk (em h) hmm) rfl rfl rfl) .nil))) (ring_marker (n + 1) h o hR dis (by solve_by_elim (maxDepth := 7) [Int.le_of_lt, Int.le_trans, Int.lt_of_lt_of_le, Int.lt_of_le_of_lt, Int.not_lt.mp, Int.not_le.mp]) ri.low ri.neg) fun _ H1 r => Args.nil' ?_)))
    refine el1_3 r fun a z91 ha o1 T1 => ?_; rcases z91 with rfl
    have hr1 : Has H1 (rents { R with last := R.last - 1 }) := T1.1.of fun p hp => List.mem_append_right _ hp
    have fewm := ri.few
    generalize hB1 : ({ B with mks := B.mks ++ [⟨R.last - 1, a, false, clampP B.g.txt mk.pos⟩] } : BD) = B1 at *
    have kB1 : ∀ x, x ∈ ks (ents b B1) ↔ x ∈ ks (ents b B) ∨ x = a := fun x => by
      rw [← hB1, ents_keys, ents_keys]
      simp only [List.map_append, List.map_cons, List.map_nil, List.mem_cons, List.mem_append, List.not_mem_nil, or_false]
      constructor
      · rintro (h | h | h | h | h | h | h | h) <;> simp [h]
      · rintro ((h | h | h | h | h | h | h) | h) <;> simp [h]
    have dis1 : ∀ x ∈ ks (rents R), x ∉ ks (ents b B1) := fun x hx z => ((kB1 x).mp z).elim (dis x hx) fun e => by
      refine Exists.elim (hR.key hx) fun o' ho' => ?_
      rw [e, ha] at ho'; cases ho'
    have g2 : H1 R.ml = some (.list (R.mas.map .ref)) := hr1.tail.head
    refine CallJ.insert0 ok g2 (by rw [List.length_map]; unfold sizeLine; exact Nat.le_trans (by assumption) (by decide)) ?_
    have T1' : Tr (ents b B ++ rents R) H ((ents b B1 ++ [(R.m, ringO { R with last := R.last - 1 })]) ++ (R.ml, .list (R.mas.map .ref)) :: []) H1 := T1.perm (by rw [List.append_assoc]; exact List.Perm.refl _)
    have T2 : Tr (ents b B ++ rents R) H (ents b B1 ++ rents { R with last := R.last - 1, mas := a :: R.mas }) (upd H1 R.ml (.list (.ref a :: R.mas.map .ref))) := (T1'.turnAt (o' := .list (.ref a :: R.mas.map .ref)) (by
      rw [ks_app]
      intro z
      rcases List.mem_append.mp z with z | z
      · exact dis1 _ (by rw [rents_keys]; simp) z
      · exact rents_ne hR (List.mem_singleton.mp z).symm) (by simp)).perm (by rw [List.append_assoc]; exact List.Perm.refl _)
    generalize upd H1 R.ml (.list (.ref a :: R.mas.map .ref)) = H2 at T2
    have h2 : Has H2 (ents b B1) := T2.1.of fun p hp => List.mem_append_left _ hp
    have hr2 : Has H2 (rents { R with last := R.last - 1, mas := a :: R.mas }) := T2.1.of fun p hp => List.mem_append_right _ hp
    have q1 : H2 R.m = some (ringO { R with last := R.last - 1, mas := a :: R.mas }) := hr2.head
    have q2 : H2 R.ml = some (.list ((a :: R.mas).map .ref)) := hr2.tail.head
    have nd2 : (ks (ents b B1 ++ rents { R with last := R.last - 1, mas := a :: R.mas })).Nodup := by
      rw [ks_app]
      refine List.nodup_append.mpr ⟨o1.nd, ?_, fun x hx y hy e => dis1 y hy (e ▸ hx)⟩
      show [R.m, R.ml].Nodup
      simp [rents_ne hR]
    have anew : a ∉ R.mas := fun z => by
      refine el1_2 (ri.mas a z) fun m hm e _ => ?_
      have := ments_mk (em h) hm
      rw [e, ha] at this; cases this
    have mas1 : ∀ x ∈ a :: R.mas, ∃ m ∈ B1.mks, m.a = x ∧ m.num < 0 := fun x hx => by
      rw [← hB1]
      rcases List.mem_cons.mp hx with rfl | hx
      · exact ⟨_, List.mem_append_right _ List.mem_cons_self, rfl, by show R.last - 1 < 0; have := ri.neg; lia⟩
      · refine el1_1 (ri.mas x hx) fun m hm e => ?_
        exact ⟨m, List.mem_append_left _ hm, e⟩
    have low1 : ∀ m ∈ B1.mks, R.last - 1 ≤ m.num := fun m hm => by
      rw [← hB1] at hm
      rcases List.mem_append.mp hm with hm | hm
      · have := ri.low m hm; lia
      · rw [List.mem_singleton.mp hm]; exact Int.le_refl _
    have hnum : R.last - 1 ∉ nums B.mks := fun z => by
      refine el1_1 (List.mem_map.mp z) fun m hm e => ?_
      have := ri.low m hm; lia
    have p1 : B1.p = B.p := by
      rw [← hB1]
      show (⟨_, _, _, _, _⟩ : PB) = ⟨_, _, _, _, _⟩
      congr 1
      funext k
      rw [obs_add hnum, if_neg (by show ¬ R.last - 1 = (k : Int); have := ri.neg; lia)]
    have nm1 : Named B B1 := fun x hx => by
      rw [← hB1]
      show x ∈ (B.mks ++ [_]).map _ ↔ _
      rw [List.map_append, List.mem_append]
      refine ⟨fun z => z.elim id fun z => ?_, .inl⟩
      rw [List.mem_singleton.mp z] at hx
      exact absurd (show (1 : Int) ≤ R.last - 1 from hx) (by have := ri.neg; lia)
    have len1 : B1.mks.length ≤ B.mks.length + 1 := by
      rw [← hB1]; show (B.mks ++ [_]).length ≤ _; rw [List.length_append]; exact Nat.le_refl _
    have nd1 : (a :: R.mas).Nodup := List.nodup_cons.mpr ⟨anew, ri.nd⟩
    have hwz : (((a :: R.mas).map Value.ref).drop 2).length ≤ 1 := by rw [List.length_drop, List.length_map]; show R.mas.length + 1 - 2 ≤ 1; omega
    refine Ex.forOpt ok (fun sym => by rw [hX]; exact id) (J := fun M' l' => (∃ u, M' = [some (.ref R.m), some (.ref b), some (.int q 0), u]) ∧ ∃ B2 : BD, l' = ents b B2 ++ rents { R with last := R.last - 1, mas := a :: R.mas } ∧ B2.ok b ∧ B2.p = B.p ∧ Named B B2 ∧ (∀ x ∈ (a :: R.mas).take 2, ∃ m ∈ B2.mks, m.a = x ∧ m.num < 0) ∧ (∀ m ∈ B2.mks, R.last - 1 ≤ m.num) ∧ B2.mks.length ≤ B.mks.length + 1 ∧ ∀ x ∈ ks (rents R), x ∉ ks (ents b B2)) hwz (h2.app hr2) nd2
      (Ev.slice ok (l := some 2) (u := none) (Pe.attr ok cRing_ok 1 (v 0 rfl rfl) q1 rfl rfl rfl) q2 (Pe.attr ok cRing_ok 0 (v 0 rfl rfl) q1 rfl rfl rfl) trivial (by rw [List.length_map]; show R.mas.length + 1 ≤ _; unfold sizeLine; exact Nat.lt_of_le_of_lt (by assumption) (by decide)) fun d hd => ⟨d, rfl, hd, by rw [show (some (2 : Int)) = some ((2 : Nat) : Int) from rfl, pick_rest]⟩)
      (fun _ => ⟨⟨_, rfl⟩, B1, rfl, o1, p1, nm1, fun x hx => mas1 x (List.mem_of_mem_take hx), low1, len1, dis1⟩) (fun w hw H3 h3 => Asg.name I 3 rfl ?_) fun M' l' H3 j T3 => ?_
    · have hwm : w ∈ (a :: R.mas).map Value.ref := List.mem_of_mem_drop (hw ▸ List.mem_cons_self)
      refine el1_1 (List.mem_map.mp hwm) fun y hy z92 => ?_; rcases z92 with rfl
      refine el1_2 (mas1 y hy) fun my hmy z92 hneg => ?_; rcases z92 with rfl
      have g3 : Has H3 (ents b B1) := h3.of fun p hp => List.mem_append_left _ hp
      have gr3 : Has H3 (rents { R with last := R.last - 1, mas := a :: R.mas }) := h3.of fun p hp => List.mem_append_right _ hp
      refine Ex.do I (Ev.fC ok I gf_set_marker (by kernel_rfl) (.cons (v 3 rfl rfl) (.cons Pe.none (.cons Pe.int .nil))) (set_drop (n + 2) g3 o1 hmy) fun _ H4 r => Ex.nil ⟨rfl, ents b (dropB B1 my.num) ++ rents { R with last := R.last - 1, mas := a :: R.mas }, ?_, ⟨⟨_, rfl⟩, dropB B1 my.num, rfl, dropB_ok o1 (by lia), ?_, ?_, ?_, ?_, ?_, ?_⟩, r.2.frame gr3 dis1⟩)
      · have sub : ∀ x, x ∈ ks (ents b (dropB B1 my.num)) → x ∈ ks (ents b B1) := fun x hx => by
          rw [ents_keys] at hx ⊢
          simp only [List.mem_cons] at hx ⊢
          rcases hx with z | z | z | z | z | z | z
          · exact .inl z
          · exact .inr (.inl z)
          · exact .inr (.inr (.inl z))
          · exact .inr (.inr (.inr (.inl z)))
          · exact .inr (.inr (.inr (.inr (.inl z))))
          · exact .inr (.inr (.inr (.inr (.inr (.inl z)))))
          · refine el1_1 (List.mem_map.mp z) fun y hy z92 => ?_; rcases z92 with rfl
            exact .inr (.inr (.inr (.inr (.inr (.inr (List.mem_map_of_mem (List.mem_filter.mp hy).1))))))
        rw [ks_app]
        refine List.nodup_append.mpr ⟨(dropB_ok o1 (by lia)).nd, ?_, fun x hx y hy e => dis1 y hy (e ▸ sub x hx)⟩
        show [R.m, R.ml].Nodup
        simp [rents_ne hR]
      · rw [← p1]
        show (⟨_, _, _, _, _⟩ : PB) = ⟨_, _, _, _, _⟩
        congr 1
        exact obs_drop hneg
      · refine nm1.trans' fun x hx => ?_
        show x ∈ (B1.mks.filter _).map _ ↔ x ∈ B1.mks.map _
        refine ⟨fun z => ?_, fun z => ?_⟩
        · refine el1_1 (List.mem_map.mp z) fun y hy e => ?_
          exact List.mem_map.mpr ⟨y, (List.mem_filter.mp hy).1, e⟩
        · refine el1_1 (List.mem_map.mp z) fun y hy z92 => ?_; rcases z92 with rfl
          have : (1 : Int) ≤ y.num := hx
          exact List.mem_map.mpr ⟨y, List.mem_filter.mpr ⟨hy, decide_eq_true (by lia)⟩, rfl⟩
      · intro x hx
        refine el1_2 (mas1 x (List.mem_of_mem_take hx)) fun m hm e1 e2 => ?_
        refine ⟨m, List.mem_filter.mpr ⟨hm, decide_eq_true fun z => ?_⟩, e1, e2⟩
        have e3 : m = my := num_inj o1.nn hm hmy z
        have d1 : my.a ∈ (a :: R.mas).drop 2 := by
          rw [← List.map_drop] at hw
          have : Value.ref my.a ∈ ((a :: R.mas).drop 2).map Value.ref := by rw [hw]; exact List.mem_cons_self
          refine el1_1 (List.mem_map.mp this) fun y hy e => ?_
          cases e; exact hy
        have hx2 : my.a ∈ (a :: R.mas).take 2 := by rw [← e3, e1]; exact hx
        have nd3 := nd1
        rw [← List.take_append_drop 2 (a :: R.mas)] at nd3
        exact (List.nodup_append.mp nd3).2.2 _ hx2 _ d1 rfl
      · exact fun m hm => low1 m (List.mem_filter.mp hm).1
      · exact Nat.le_trans (List.length_filter_le _ _) len1
      · intro x hx z
        refine dis1 x hx ?_
        rw [ents_keys] at z ⊢
        simp only [List.mem_cons] at z ⊢
        rcases z with z | z | z | z | z | z | z
        · exact .inl z
        · exact .inr (.inl z)
        · exact .inr (.inr (.inl z))
        · exact .inr (.inr (.inr (.inl z)))
        · exact .inr (.inr (.inr (.inr (.inl z))))
        · exact .inr (.inr (.inr (.inr (.inr (.inl z)))))
        · refine el1_1 (List.mem_map.mp z) fun y hy z92 => ?_; rcases z92 with rfl
          exact .inr (.inr (.inr (.inr (.inr (.inr (List.mem_map_of_mem (List.mem_filter.mp hy).1))))))
    · rcases j.1 with ⟨u, rfl⟩; refine el1_7 j.2 fun B2 z92 o2 p2 nm2 mas2 low2 len2 dis2 => ?_; rcases z92 with rfl; try clear j
      have T4 := T2.trans T3
      have hr4 : Has H3 (rents { R with last := R.last - 1, mas := a :: R.mas }) := T4.1.of fun p hp => List.mem_append_right _ hp
      have q3 : H3 R.m = some (ringO { R with last := R.last - 1, mas := a :: R.mas }) := hr4.head
      have q4 : H3 R.ml = some (.list ((a :: R.mas).map .ref)) := hr4.tail.head
      refine Ex.setA ok (a := R.m) cRing_ok (by decide) 1 rfl (Ev.slice ok (l := none) (u := some 2) (Pe.attr ok cRing_ok 1 (v 0 rfl rfl) q3 rfl rfl rfl) q4 trivial (Pe.attr ok cRing_ok 0 (v 0 rfl rfl) q3 rfl rfl rfl) (by rw [List.length_map]; show R.mas.length + 1 ≤ _; unfold sizeLine; lia) fun d hd => ?_)
      rw [show (some (2 : Int)) = some ((2 : Nat) : Int) from rfl, pick_top, ← List.map_take]
      have T5 := T4.new (o := .list (((a :: R.mas).take 2).map .ref)) hd
      have g5 : upd H3 d (.list (((a :: R.mas).take 2).map .ref)) R.m = some (ringO { R with last := R.last - 1, mas := a :: R.mas }) := Sub.upd_new hd _ _ q3
      refine ⟨rfl, v 0 rfl rfl, _, g5, Nat.le_of_ble_eq_true rfl, Ex.nil ?_⟩
      have T5' : Tr (ents b B ++ rents R) H (((d, .list (((a :: R.mas).take 2).map .ref)) :: ents b B2) ++ (R.m, ringO { R with last := R.last - 1, mas := a :: R.mas }) :: [(R.ml, .list ((a :: R.mas).map .ref))]) _ := T5
      have dm : R.m ≠ d := ne_new q3 hd
      have T6 := T5'.turnAt (o' := ringO { R with ml := d, last := R.last - 1, mas := (a :: R.mas).take 2 }) (by
        intro z
        rcases List.mem_cons.mp z with z | z
        · exact dm z
        · exact dis2 _ (by rw [rents_keys]; simp) z) (by
        intro z
        exact rents_ne hR (List.mem_singleton.mp z))
      have hdk : d ∉ ks (ents b B2) := not_key (T4.1.of fun p hp => List.mem_append_left _ hp) hd
      refine fin (B2 := B2) (R2 := { R with ml := d, last := R.last - 1, mas := (a :: R.mas).take 2 }) rfl rfl o2 ⟨by show ((a :: R.mas).take 2).length ≤ 2; rw [List.length_take]; omega, mas2, low2, by show R.last - 1 ≤ 0; have := ri.neg; lia, nd1.sublist (List.take_sublist 2 (a :: R.mas))⟩ rfl (T6.less fun p hp => ?_) (fun x hx z => ?_) p2 nm2 len2
      · rcases List.mem_append.mp hp with hp | hp
        · exact List.mem_append_left _ (List.mem_cons_of_mem _ hp)
        · rcases List.mem_cons.mp hp with hp | hp
          · rw [hp]; exact List.mem_append_right _ List.mem_cons_self
          · rw [List.mem_singleton.mp hp]; exact List.mem_append_left _ List.mem_cons_self
      · rcases List.mem_cons.mp hx with hx | hx
        · exact dis2 x (by rw [hx, rents_keys]; simp) z
        · rw [List.mem_singleton.mp hx] at z; exact hdk z
end
theorem RI.ids {B B' : BD} {R : RD} (ri : RI B R) (h : B'.ids = B.ids) : RI B' R := by
  refine ⟨ri.few, fun a ha => ?_, fun m hm => ?_, ri.neg, ri.nd⟩
  · refine el1_2 (ri.mas a ha) fun m hm e1 e2 => ?_
    have : (m.num, m.a, m.adv) ∈ B'.ids := by rw [h]; exact List.mem_map.mpr ⟨m, hm, rfl⟩
    refine el1_1 (List.mem_map.mp this) fun m' hm' e => ?_
    injection e with f1 f2; injection f2 with f2 f3
    exact ⟨m', hm', f2.trans e1, by rw [f1]; exact e2⟩
  · have : (m.num, m.a, m.adv) ∈ B.ids := by rw [← h]; exact List.mem_map.mpr ⟨m, hm, rfl⟩
    refine el1_1 (List.mem_map.mp this) fun m' hm' e => ?_
    injection e with f1 f2
    have := ri.low m' hm'
    have f1 : m'.num = m.num := f1
    lia
theorem RI.mark {B B' : BD} {R : RD} (ri : RI B R) (k1 : ∀ m ∈ B.mks, m.num < 0 → m ∈ B'.mks) (k2 : ∀ m ∈ B'.mks, m.num < 0 → m ∈ B.mks) : RI B' R := by
  refine ⟨ri.few, fun a ha => ?_, fun m hm => ?_, ri.neg, ri.nd⟩
  · refine el1_2 (ri.mas a ha) fun m hm e1 e2 => ?_
    exact ⟨m, k1 m hm e2, e1, e2⟩
  · by_cases e : m.num < 0
    · exact ri.low m (k2 m hm e)
    · have := ri.neg; lia
noncomputable def swapP (p : PB) : PB := match p.obs 0 with
  | some x => { markP p p.pt with pt := min (max x.2 p.begv) p.zv }
  | none => p
noncomputable def yankP (p : PB) (cs : List Int) (sw : Bool) : PB := if sw then swapP (putP (markP p p.pt) p.pt cs false true) else putP (markP p p.pt) p.pt cs false true
section
variable {H : AH} {b : Addr} {B : BD} {R : RD}
theorem insert_piece (n : Nat) {p : PC} (h : Has H (ents b B)) (o : B.ok b) (hp : Has H (pcL p)) (w : B.p.wf) (hz : B.p.txt.length + p.cs.length + 16 ≤ 2 ^ 20) (hn : p.ca ∉ ks (ents b B)) :
    FnSpec 722 (n + 7) [.ref b, .ref p.a] H (fun v H' => v = .none ∧ ∃ B', Step b H B H' B' ∧ B'.p = putP B.p B.p.pt p.cs false true) NoX := by
  refine FnSpec.introX (F := F722) F722_ok F722_b2 rfl fun c ok I hX hHX => ?_
  have v := Pe.vars ok I
  refine Ex.let I 2 rfl (Pe.ev (Pe.ba ok 4 h (v 0 rfl rfl) rfl rfl) ?_)
  refine Ex.do I (Ev.fC ok I gf_insert (by kernel_rfl) (.cons (v 0 rfl rfl) (.cons (Pe.attr ok cPiece_ok 0 (v 1 rfl rfl) (pc1 hp) rfl rfl rfl) .nil)) (insert n h o w hz (pc2 hp) hn) fun _ H1 r => ?_)
  have _ := r.1; refine el1_1 r.2 fun B1 s1 p1 => ?_; try clear r
  refine Ex.ite (Pb.and (Pb.cmp (Pe.ba ok 15 s1.has (v 0 rfl rfl) rfl rfl) Pe.none (Cmp.notNone rfl)) (b2 := false) fun hb => by have := notNone_none.symm.trans hb; cases this) (fun hb => by rw [Bool.and_false] at hb; cases hb) fun _ => Ex.nil (Ex.nil ⟨rfl, B1, s1, p1⟩)
theorem swap_point_and_mark (n : Nat) (h : Has H (ents b B)) (o : B.ok b) (few : B.mks.length < 39) {x : Bool × Int} (hx : B.p.obs 0 = some x) (ri : RI B R) :
    FnSpec 750 (n + 5) [.ref b] H (fun v H' => v = .none ∧ ∃ B', B'.ok b ∧ RI B' R ∧ Tr (ents b B) H (ents b B') H' ∧ B'.p = swapP B.p ∧ Named B B' ∧ B'.mks.length ≤ B.mks.length + 1) NoX := by
  refine FnSpec.introX (F := F750) F750_ok F750_b1 rfl fun c ok I hX hHX => ?_
  have v := Pe.vars ok I
  refine Ex.let I 1 rfl (Pe.ev (Pe.fC ok I gf_mark_place (by kernel_rfl) (.cons (v 0 rfl rfl) .nil) (mark_place (n + 2) h o (adv := x.1) (x := x.2) hx)) ?_)
  refine Ex.do I (Ev.fC ok I gf_set_mark (by kernel_rfl) (.cons (v 0 rfl rfl) (.cons (Pe.ba ok 4 h (v 0 rfl rfl) rfl rfl) .nil)) (set_mark n h o few) fun _ H1 r => ?_)
  have _ := r.1; refine el1_6 r.2 fun B1 o1 T1 p1 nm1 k1 k2 l1 => ?_; try clear r
  refine Ex.do I (Ev.mC ok (v 0 rfl rfl) cBuf_ok (eb T1.1) 5 rfl (.cons (v 1 rfl rfl) .nil) (buf_goto (n + 3) T1.1 o1) fun _ H2 r => Ex.nil ⟨rfl, ?_⟩)
  refine el1_1 r fun B2 s2 p2 => ?_
  refine ⟨B2, s2.ok, (ri.mark k1 k2).ids s2.ids, T1.trans s2.tr, ?_, nm1.trans' (Named.ids s2.ids), ?_⟩
  · have e1 : B1.begv = B.p.begv := congrArg PB.begv p1
    have e2 : B1.zv = B.p.zv := congrArg PB.zv p1
    rw [p2, p1, e1, e2]
    unfold swapP
    rw [hx]
    rfl
  · have : B2.mks.length = B1.mks.length := by have := congrArg List.length s2.ids; unfold BD.ids at this; rwa [List.length_map, List.length_map] at this
    lia
theorem ids_len {B B' : BD} (h : B'.ids = B.ids) : B'.mks.length = B.mks.length := by have := congrArg List.length h; unfold BD.ids at this; rwa [List.length_map, List.length_map] at this
theorem yank (n : Nat) {K : KD} {u : Value} {sw : Bool} (h : Has H (ents b B)) (o : B.ok b) (hK : Has H (kents K)) (oK : K.ok) (hR : Has H (rents R)) (disR : ∀ a ∈ ks (rents R), a ∉ ks (ents b B)) (disK : ∀ a ∈ ks (kents K), a ∉ ks (ents b B ++ rents R)) (few : B.mks.length < 36) (ri : RI B R) (w : B.p.wf) (zk : ∀ q ∈ K.pcs, B.p.txt.length + q.cs.length + 16 ≤ 2 ^ 20) :
    FnSpec 757 (n + 8) [.ref b, .ref K.r, .ref R.m, .int 1 0, .bool sw, u] H (fun v H' => v = .none ∧ ∃ (B' : BD) (R' : RD) (cs : List Int) (tl : List (List Int)), K.p = cs :: tl ∧ B'.ok b ∧ RI B' R' ∧ R'.m = R.m ∧ Tr (ents b B ++ rents R) H (ents b B' ++ rents R') H' ∧ B'.p = yankP B.p cs sw ∧ Named B B' ∧ B'.mks.length ≤ B.mks.length + 3 ∧ ∀ a ∈ ks (rents R'), a ∉ ks (ents b B')) (fun sym => sym = errS ∧ K.pcs = []) := by
  refine FnSpec.introX (F := F757) F757_ok F757_b6 rfl fun c ok I hX hHX => ?_
  have v := Pe.vars ok I
  refine Ex.do I (Pe.ev (Pe.fC ok I gf_need_writable (by kernel_rfl) (.cons (v 0 rfl rfl) .nil) (need_writable (n + 6) h)) ?_)
  refine Ex.let I 6 rfl (Ev.fX ok I gf_current_kill (by kernel_rfl) (.cons (v 1 rfl rfl) (.cons (Pe.sub (v 3 rfl rfl) Pe.int) (.cons Pe.bool .nil))) (current_kill (n + 4) hK oK) (fun sym x => by rw [hX]; exact x) (by rw [hHX]; exact Sub.rfl') fun _ H1 r => ?_)
  refine el2_2 r fun p tl hpc z93 S1 => ?_; rcases z93 with rfl
  refine Ex.moved ?_ S1
  have hpm : p ∈ K.pcs := by rw [hpc]; exact List.mem_cons_self
  have hz := zk p hpm
  refine Ex.do I (Ev.fC ok I gf_push_mark (by kernel_rfl) (.cons (v 2 rfl rfl) (.cons (v 0 rfl rfl) (.cons (Pe.ba ok 4 h (v 0 rfl rfl) rfl rfl) .nil))) (push_mark (n + 1) h o hR disR (by solve_by_elim (maxDepth := 7) [Int.le_of_lt, Int.le_trans, Int.lt_of_lt_of_le, Int.lt_of_le_of_lt, Int.not_lt.mp, Int.not_le.mp]) ri) fun _ H2 r => ?_)
  have _ := r.1; refine el2_7 r.2 fun B2 R2 o2 ri2 rm2 T2 p2 nm2 l2 disR2 => ?_; try clear r
  have h2 : Has H2 (ents b B2) := T2.1.of fun p hp => List.mem_append_left _ hp
  have hR2 : Has H2 (rents R2) := T2.1.of fun p hp => List.mem_append_right _ hp
  have zq := T2.keep hK disK; have hK2 := zq.1; have disK2 := zq.2
  have hp2 := kp hK2 hpm
  refine Ex.do I (Ev.call ok (f := .ref 722) (Pe.gl ok I gf_insert_piece.g (by kernel_rfl) gf_insert_piece.nd) (Solid.ref _) (CW.ref gf_insert_piece.kp) rfl (Args.one (v 0 rfl rfl) (Ev.fC ok I gf_piece_without (by kernel_rfl) (.cons (v 6 rfl rfl) (.cons (v 5 rfl rfl) .nil)) (piece_without (n + 4) hp2 (by exact le_w3 (by assumption) (by decide))) fun _ H3 r => Args.nil' ?_)))
  refine el1_3 r fun p' z91 ecs ndp N3 => ?_; rcases z91 with rfl
  have e1 : B2.p.txt = B.p.txt := by rw [p2]; rfl
  have wf2 : B2.p.wf := by rw [p2]; exact ⟨w.b1, w.bp, w.pz, w.zt⟩
  have h3 := h2.sub N3.sub
  have hn3 : p'.ca ∉ ks (ents b B2) := fun z => by
    refine Exists.elim (h2.key z) fun o' ho => ?_
    rw [N3.fresh (by simp [pcL, ks])] at ho; cases ho
  refine CallJ.fn ok (insert_piece n h3 o2 N3.1 wf2 (by rw [e1, ecs]; exact hz) hn3) fun _ H4 r => ?_
  have _ := r.1; refine el1_1 r.2 fun B4 s4 p4 => ?_; try clear r
  have s4 := s4.from N3.sub
  have T4 := T2.trans (s4.tr.frame hR2 disR2)
  have ri4 := ri2.ids s4.ids
  rw [p2, ecs] at p4
  have p4 : B4.p = putP (markP B.p B.p.pt) B.p.pt p.cs false true := p4
  have l4 := ids_len s4.ids
  have ek : K.p = p.cs :: tl.map (·.cs) := by unfold KD.p; rw [hpc]; rfl
  refine Ex.ite (Pb.val (v 4 rfl rfl)) (fun hb => ?_) fun hb => Ex.nil (Ex.nil ⟨rfl, B4, R2, p.cs, tl.map (·.cs), ek, s4.ok, ri4, rm2, T4, ?_, nm2.trans' (Named.ids s4.ids), by lia, (s4.tr.keep hR2 disR2).2⟩)
  · have hR4 : Has H4 (rents R2) := T4.1.of fun p hp => List.mem_append_right _ hp
    have ob : ∃ x, B4.p.obs 0 = some x := by
      rw [p4]
      unfold putP
      split
      · exact ⟨_, rfl⟩
      · exact ⟨_, rfl⟩
    refine Exists.elim ob fun x hx => ?_; try clear ob
    have zq := s4.tr.keep hR2 disR2; have _ := zq.1; have disR4 := zq.2
    refine Ex.do I (Ev.fC ok I gf_swap_point_and_mark (by kernel_rfl) (.cons (v 0 rfl rfl) .nil) (swap_point_and_mark (n + 2) s4.has s4.ok (by lia) hx ri4) fun _ H5 r => ?_)
    have _ := r.1; refine el1_5 r.2 fun B5 o5 ri5 T5 p5 nm5 l5 => ?_; try clear r
    refine Ex.nil (Ex.nil ⟨rfl, B5, R2, p.cs, tl.map (·.cs), ek, o5, ri5, rm2, T4.trans (T5.frame hR4 disR4), ?_, (nm2.trans' (Named.ids s4.ids)).trans' nm5, by lia, (T5.keep hR4 disR4).2⟩)
    rw [p5, p4]; unfold yankP; rw [if_pos hb]
  · rw [p4]; unfold yankP; rw [if_neg (by rw [hb]; decide)]
end
section
variable {c : Cx} {M : Mem} {H : AH} {n : Nat} {F : Fn} {rest : List Stmt} {P : Fl → Mem → AH → Prop}
theorem Ex.init (ok : c.Ok n) {C : Cls} {K : AH} {a : Addr} {vs : List Value} {o e : Expr} {x : Str} {pos q : Pos} (CO : ClsOk C) (few : C.lay.length ≤ 900) (i : Nat) (hx : C.lay[i]? = some x)
    (h : Ev c M H e fun v H1 => ∃ l', okV v = true ∧ Pe c M H1 o (.ref a) ∧ New K ((a, .inst C vs) :: l') H1 ∧ a ∉ ks l' ∧ vs.length = i ∧ ∀ H2, New K ((a, .inst C (vs ++ [v])) :: l') H2 → Ex c M H2 rest P)
    (hs : swapsWith e (some (.Attribute o x q)) pos.line c.env = pure false := by rfl) : Ex c M H (.Assign [.Attribute o x q] e pos :: rest) P :=
  Ex.setA ok CO few i hx (W.mono h fun v M1 H1 h1 => ⟨h1.1, by
    have _ := h1.1; refine el1_5 h1.2 fun l' hv ho T nl hl k => ?_; try clear h1
    subst hl
    refine ⟨hv, ho, vs, T.1.head, Nat.le_refl _, k _ ?_⟩
    have e1 : putV vs vs.length (er v) = vs ++ [er v] := by unfold putV; rw [List.take_length, List.drop_eq_nil_of_le (Nat.le_succ _)]
    rw [e1]
    exact T.turn rfl nl⟩) hs
theorem OpJ.repI (ok : c.Ok n) {a : Addr} {k : Nat} {P : Value → AH → Prop} (ha : H a = some (.list [.int 0 0])) (hz : k ≤ 2 ^ 20) (p : ∀ d, H d = none → P (.ref d) (upd H d (.list (intV (List.replicate k 0))))) : OpJ c M H .Mult (.ref a) (.int k 0) P :=
  OpJ.rep ok ha (by exact Int.natCast_nonneg _) (by lia) (by rw [Int.toNat_natCast]; show 1 * k ≤ _; lia) fun d hd => by rw [Int.toNat_natCast, rep_ints]; exact p d hd
end
theorem New.one {H : AH} {x : Addr} {o : AO} (hx : H x = none) : New H [(x, o)] (upd H x o) := (New.of Sub.rfl').add hx Sub.rfl'
theorem gap_init (n : Nat) {H : AH} {x d : Addr} (hx : H x = none) (hd : H d = some (.list [])) :
    FnSpec 76 (n + 1) [.ref x, .ref d, .int 8 0] (upd H x (.inst cGap [])) (fun r H' => r = .none ∧ ∃ cl, cl ≠ x ∧ New H [(x, gapO cl ⟨8, 0, 8, List.replicate 8 0⟩), (cl, .list (intV (List.replicate 8 0)))] H') NoX := by
  refine FnSpec.intro (F := F76) F76_ok F76_b3 rfl fun c ok I => ?_
  have v := Pe.vars ok I
  have ln : ∀ {M : Mem} {H : AH} {e p pos}, Pe c M H e (.ref d) → H d = some (.list []) → noStar [e] = true → Pe c M H (.Call (.Name "len" p) [e] [] pos) (.int 0 0) := fun h1 h2 h3 => Pe.len ok I (xs := []) h1 h2 (by decide) h3 (by kernel_rfl)
  refine Ex.init ok cGap_ok (by decide) 0 rfl (Pe.ev (v 2 rfl rfl) ⟨[], rfl, v 0 rfl rfl, New.one hx, by simp, rfl, fun H1 T1 => ?_⟩)
  refine Ex.init ok (K := H) (a := x) (vs := [.int 8 0]) cGap_ok (by decide) 1 rfl (Ev.opJ (Ev.listC ok I (by kernel_rfl) (v 1 rfl rfl) (T1.sub _ _ hd) (by decide) fun d1 h1 => Ev.opJ (Ev.list ok rfl (Args.one Pe.int ⟨by decide, fun d2 h2 => ?_⟩))))
  have S1 := Sub.upd_new (o := .list []) h1
  have S2 := Sub.upd_new (o := .list [.int 0 0]) h2
  refine (v 2 rfl rfl).ev (OpJ.repI (k := 8) ok (upd_same _ _ _) (by decide) fun d3 h3 => ?_)
  have S3 := Sub.upd_new (o := .list (intV (List.replicate 8 0))) h3
  have S123 := Sub.trans' S1 (Sub.trans' S2 S3)
  refine OpJ.cat ok (xs := []) (S3 _ _ (S2 _ _ (upd_same _ _ _))) (upd_same _ _ _) (by decide) fun cl h4 => ?_
  have T2 := (T1.moreS S123).add h4 Sub.rfl' (o := .list ([] ++ intV (List.replicate 8 0)))
  have ne : x ≠ cl := ne_new (S123 _ _ T1.1.head) h4
  refine ⟨[(cl, .list (intV (List.replicate 8 0)))], rfl, v 0 rfl rfl, T2.less fun p hp => by simp at hp ⊢; rcases hp with h | h <;> simp [h], by simpa [ks] using ne, rfl, fun H2 T3 => ?_⟩
  have hd2 := T3.sub _ _ hd
  refine Ex.init ok cGap_ok (by decide) 2 rfl (Pe.ev (ln (v 1 rfl rfl) hd2 rfl) ⟨_, rfl, v 0 rfl rfl, T3, by simpa [ks] using ne, rfl, fun H3 T4 => ?_⟩)
  refine Ex.init ok cGap_ok (by decide) 3 rfl (Pe.ev (Pe.add (ln (v 1 rfl rfl) (T4.sub _ _ hd) rfl) (v 2 rfl rfl)) ⟨_, rfl, v 0 rfl rfl, T4, by simpa [ks] using ne, rfl, fun H4 T5 => Ex.nil ⟨rfl, cl, ne.symm, T5⟩⟩)
section
variable {c : Cx} {M : Mem} {H : AH} {n : Nat} {F : Fn}
theorem Ev.gapNew (ok : c.Ok (n + 2)) (I : InFn c F) {e1 e2 : Expr} {p pos : Pos} {Q : Value → AH → Prop} (hk : F.sc.names.lookup ("GapText" : Str) = some .globalImplicit) (h1 : Ev c M H e1 fun v H1 => ∃ d, v = .ref d ∧ H1 d = some (.list []) ∧ Pe c M H1 e2 (.int 8 0) ∧ ∀ x cl H', cl ≠ x → New H1 [(x, gapO cl ⟨8, 0, 8, List.replicate 8 0⟩), (cl, .list (intV (List.replicate 8 0)))] H' → Q (.ref x) H')
    (hn : noStar [e1, e2] = true := by rfl) : Ev c M H (.Call (.Name "GapText" p) [e1, e2] [] pos) Q :=
  Ev.call ok (f := .ref cGap.addr) (Pe.gl ok I gl_GapText hk (by decide +kernel)) (Solid.ref _) cGap_mk.cw hn (Ev.mono h1 fun v H1 ⟨d, e, hd, h2, q⟩ => by
    subst e
    exact Args.one h2 (Args.nil' (CallJ.make ok cGap_mk fun x hx => FnSpec.sub (gap_init n hx hd) fun _ H' ⟨r, cl, ne, T⟩ => ⟨r, q x cl H' ne T⟩)))
theorem Ev.marksNew (ok : c.Ok (n + 2)) (I : InFn c F) {p pos : Pos} {Q : Value → AH → Prop} (hk : F.sc.names.lookup ("Markers" : Str) = some .globalImplicit) (q : ∀ x d H', d ≠ x → New H [(x, .inst cMarks [.ref d]), (d, .dct [])] H' → Q (.ref x) H') : Ev c M H (.Call (.Name "Markers" p) [] [] pos) Q :=
  Ev.call ok (f := .ref cMarks.addr) (Pe.gl ok I gl_Markers hk (by decide +kernel)) (Solid.ref _) cMarks_mk.cw rfl (Args.nil' (CallJ.make ok cMarks_mk fun x hx => FnSpec.sub (marks_init n (upd_same _ _ _)) fun _ H' ⟨r, d, hd, s⟩ => ⟨r, q x d H' (ne_new (upd_same _ _ _) hd).symm (by
    have T0 : New H [(x, .inst cMarks [])] (upd H x (.inst cMarks [])) := New.one hx
    have ne : x ≠ d := ne_new (upd_same _ _ _) hd
    have T1 := (T0.add hd Sub.rfl' (o := .dct [])).less (l' := (x, .inst cMarks []) :: [(d, .dct [])]) fun p hp => by simp at hp ⊢; rcases hp with h | h <;> simp [h]
    exact (T1.turn rfl (by simpa [ks] using ne)).more s)⟩))
end
theorem gd0_ok : GD.ok ⟨8, 0, 8, List.replicate 8 0⟩ := ⟨by decide, by decide, by decide, by decide, by decide⟩
noncomputable def emptyP : PB := ⟨[], 1, 1, 1, fun _ => none⟩
theorem buf_init (n : Nat) {H : AH} {x : Addr} {num : Int} {nm : Str} (hx : H x = none) :
    FnSpec 313 (n + 3) [.ref x, .int num 0, .str nm 0] (upd H x (.inst cBuf [])) (fun r H' => r = .none ∧ ∃ B : BD, New H (ents x B) H' ∧ B.ok x ∧ B.p = emptyP ∧ B.ids = []) NoX := by
  refine FnSpec.intro (F := F313) F313_ok F313_b3 rfl fun c ok I => ?_
  have v := Pe.vars ok I
  refine Ex.init ok cBuf_ok (by decide) 0 rfl (Pe.ev (v 1 rfl rfl) ⟨[], rfl, v 0 rfl rfl, New.one hx, by simp, rfl, fun H1 T1 => ?_⟩)
  refine Ex.init ok cBuf_ok (by decide) 1 rfl (Pe.ev (v 2 rfl rfl) ⟨[], rfl, v 0 rfl rfl, T1, by simp, rfl, fun H2 T2 => ?_⟩)
  refine Ex.init ok (K := H) (a := x) (vs := [.int num 0, .str nm 0]) cBuf_ok (by decide) 2 rfl (Ev.gapNew ok I (by kernel_rfl) (Ev.list ok rfl ⟨by decide, fun d hd => ⟨d, rfl, upd_same _ _ _, v 3 rfl rfl, fun t cl H3 ne N3 => ?_⟩⟩))
  have N3 := N3.fromS (Sub.upd_new hd)
  have nd2 : (ks [(x, AO.inst cBuf [.int num 0, .str nm 0])]).Nodup := by simp [ks]
  have nd3 := New.nd T2.1 nd2 N3 (by simp [ks, ne.symm])
  have T3 := T2.then N3
  refine ⟨_, rfl, v 0 rfl rfl, T3, (List.nodup_cons.mp nd3).1, rfl, fun H4 T4 => ?_⟩
  refine Ex.init ok (K := H) (a := x) (vs := [.int num 0, .str nm 0, .ref t]) cBuf_ok (by decide) 3 rfl (Ev.marksNew ok I (by kernel_rfl) fun ms rw H5 ne5 N5 => ?_)
  have nd5 := New.nd T4.1 nd3 N5 (by simp [ks, ne5.symm])
  have T5 := T4.then N5
  have nx := (List.nodup_cons.mp nd5).1
  refine ⟨_, rfl, v 0 rfl rfl, T5, nx, rfl, fun H6 T6 => ?_⟩
  refine Ex.init ok cBuf_ok (by decide) 4 rfl (Pe.ev Pe.int ⟨_, rfl, v 0 rfl rfl, T6, nx, rfl, fun _ T14 => ?_⟩)
  refine Ex.init ok cBuf_ok (by decide) 5 rfl (Pe.ev Pe.int ⟨_, rfl, v 0 rfl rfl, T14, nx, rfl, fun _ T15 => ?_⟩)
  refine Ex.init ok cBuf_ok (by decide) 6 rfl (Pe.ev Pe.int ⟨_, rfl, v 0 rfl rfl, T15, nx, rfl, fun _ T16 => ?_⟩)
  refine Ex.init ok cBuf_ok (by decide) 7 rfl (Pe.ev Pe.none ⟨_, rfl, v 0 rfl rfl, T16, nx, rfl, fun _ T17 => ?_⟩)
  refine Ex.init ok cBuf_ok (by decide) 8 rfl (Pe.ev Pe.bool ⟨_, rfl, v 0 rfl rfl, T17, nx, rfl, fun _ T18 => ?_⟩)
  refine Ex.init ok cBuf_ok (by decide) 9 rfl (Pe.ev Pe.bool ⟨_, rfl, v 0 rfl rfl, T18, nx, rfl, fun _ T19 => ?_⟩)
  refine Ex.init ok cBuf_ok (by decide) 10 rfl (Pe.ev Pe.int ⟨_, rfl, v 0 rfl rfl, T19, nx, rfl, fun _ T20 => ?_⟩)
  refine Ex.init ok cBuf_ok (by decide) 11 rfl (Pe.ev Pe.int ⟨_, rfl, v 0 rfl rfl, T20, nx, rfl, fun _ T21 => ?_⟩)
  refine Ex.init ok cBuf_ok (by decide) 12 rfl (Pe.ev Pe.int ⟨_, rfl, v 0 rfl rfl, T21, nx, rfl, fun _ T22 => ?_⟩)
  refine Ex.init ok (K := H) (a := x) (vs := [.int num 0, .str nm 0, .ref t, .ref ms, .int 1 0, .int 1 0, .int 1 0, .none, .bool true, .bool false, .int 1 0, .int 1 0, .int 1 0]) cBuf_ok (by decide) 13 rfl (Ev.list ok rfl ⟨by decide, fun ls hls => ?_⟩)
  have N7 := New.one (o := .list []) hls
  have nd7 := New.nd T22.1 nd5 N7 (by simp [ks])
  have T7 := T22.then N7
  have nx := (List.nodup_cons.mp nd7).1
  refine ⟨_, rfl, v 0 rfl rfl, T7, nx, rfl, fun _ T30 => ?_⟩
  refine Ex.init ok cBuf_ok (by decide) 14 rfl (Pe.ev Pe.none ⟨_, rfl, v 0 rfl rfl, T30, nx, rfl, fun _ T34 => ?_⟩)
  refine Ex.init ok cBuf_ok (by decide) 15 rfl (Pe.ev Pe.none ⟨_, rfl, v 0 rfl rfl, T34, nx, rfl, fun _ T35 => ?_⟩)
  refine Ex.init ok cBuf_ok (by decide) 16 rfl (Pe.ev Pe.none ⟨_, rfl, v 0 rfl rfl, T35, nx, rfl, fun _ T36 => ?_⟩)
  refine Ex.init ok cBuf_ok (by decide) 17 rfl (Pe.ev Pe.none ⟨_, rfl, v 0 rfl rfl, T36, nx, rfl, fun _ T37 => ?_⟩)
  refine Ex.init ok cBuf_ok (by decide) 18 rfl (Pe.ev Pe.none ⟨_, rfl, v 0 rfl rfl, T37, nx, rfl, fun _ T38 => ?_⟩)
  refine Ex.init ok cBuf_ok (by decide) 19 rfl (Pe.ev Pe.none ⟨_, rfl, v 0 rfl rfl, T38, nx, rfl, fun _ T39 => ?_⟩)
  refine Ex.nil ⟨rfl, ⟨t, cl, ls, ms, rw, num, nm, ⟨8, 0, 8, List.replicate 8 0⟩, 1, 1, 1, none, 1, 1, []⟩, T39.perm (.cons _ (.cons _ (.cons _ ((List.Perm.cons _ (List.Perm.swap _ _ _)).trans (List.Perm.swap _ _ _))))), ⟨?_, .nil, Nat.succ_pos 39, gd0_ok, rfl⟩, rfl, rfl⟩
  · rw [ents_keys]
    have e : (ks ((((x, AO.inst cBuf ([.int num 0, .str nm 0, .ref t, .ref ms, .int 1 0, .int 1 0, .int 1 0, .none, .bool true, .bool false, .int 1 0, .int 1 0, .int 1 0])) :: ([] ++ [(t, gapO cl ⟨8, 0, 8, List.replicate 8 0⟩), (cl, .list (intV (List.replicate 8 0)))] ++ [(ms, .inst cMarks [.ref rw]), (rw, .dct [])])) ++ [(ls, .list [])]))).Nodup := nd7
    have e : [x, t, cl, ms, rw, ls].Nodup := e
    have p : [x, t, cl, ms, rw, ls].Perm [x, t, cl, ls, ms, rw] := by
      refine List.Perm.cons _ (List.Perm.cons _ (List.Perm.cons _ ?_))
      exact (List.Perm.cons _ (List.Perm.swap _ _ _)).trans (List.Perm.swap _ _ _)
    exact p.nodup_iff.mp e
theorem Asgs.nil' {c : Cx} {M : Mem} {H : AH} {P : Mem → AH → Prop} (h : P M H) : Asgs c M H [] [] P := h
section
variable {H : AH} {b : Addr} {B : BD}
noncomputable def narP (p : PB) (lo hi : Int) : PB := { p with begv := lo, zv := hi, pt := min (max p.pt lo) hi }
theorem narrow (n : Nat) {s e : Int} (h : Has H (ents b B)) (o : B.ok b) (h1 : 1 ≤ min s e) (h2 : max s e ≤ B.p.txt.length + 1) : FnSpec 48 (n + 3) [.ref b, .int s 0, .int e 0] H (fun v H' => v = .none ∧ ∃ B', Step b H B H' B' ∧ B'.p = narP B.p (min s e) (max s e)) NoX := by
  refine FnSpec.introX (F := F48) F48_ok F48_b3 rfl fun c ok I hX hHX => ?_
  have v := Pe.vars ok I
  refine Ex.unpackS2 ok I 3 4 rfl rfl (Ev.tup ok rfl (Args.one (Pe.min ok I (by kernel_rfl) (v 1 rfl rfl) (v 2 rfl rfl)) (Args.one (Pe.max ok I (by kernel_rfl) (v 1 rfl rfl) (v 2 rfl rfl)) ⟨Nat.le_of_ble_eq_true rfl, fun d hd => ⟨d, _, _, rfl, upd_same _ _ _, ?_⟩⟩))) (by rw [I.env]; rfl)
  refine Ex.moved ?_ (Sub.upd_new hd)
  generalize min s e = lo at *
  generalize max s e = hi at *
  refine Ex.ite (Pb.or (Pb.cmp (v 3 rfl rfl) Pe.int (Cmp.int (op := .Lt) rfl)) fun _ => Pb.cmp (v 4 rfl rfl) (Pe.add (Pe.meth ok (v 0 rfl rfl) cBuf_ok (eb h) (List.mem_of_getElem? (i := 2) rfl) rfl rfl rfl (by decide) .nil (CallP.fn ok (buf_size n h o))) Pe.int) (Cmp.int (op := .Gt) rfl)) (fun hb => ?_) fun hb => Ex.nil ?_
  · simp only [iCmp, Bool.or_eq_true, decide_eq_true_eq] at hb; lia
  refine Ex.unpack ok (Ev.tup ok rfl (Args.one (v 3 rfl rfl) (Args.one (v 4 rfl rfl) ⟨Nat.le_of_ble_eq_true rfl, fun d hd => ?_⟩))) (by rfl) (by rw [I.env]; rfl)
  have hd1 := Sub.upd_new (o := .tup [.int lo 0, .int hi 0]) hd
  have s1 := Step.buf (h.sub hd1) o B.pt lo B.zv B.tk B.ck
  have s2 := Step.buf s1.has s1.ok B.pt lo hi B.tk B.ck
  refine Asg.tup ok (upd_same _ _ _) rfl rfl (Asg.attr ok cBuf_ok (by decide) 5 (v 0 rfl rfl) rfl (eb (h.sub hd1)) (Nat.le_of_ble_eq_true rfl) rfl (Asg.attr ok cBuf_ok (by decide) 6 (v 0 rfl rfl) rfl (eb s1.has) (Nat.le_of_ble_eq_true rfl) rfl ?_))
  have s3 := (s1.trans s2).from hd1
  refine Asgs.nil' ?_
  refine Ex.moved (H' := upd (upd (upd H d (.tup [.int lo 0, .int hi 0])) b (bufO { B with begv := lo })) b (bufO { B with begv := lo, zv := hi })) ?_ Sub.rfl'
  refine Ex.do I (Ev.mC ok (v 0 rfl rfl) cBuf_ok (eb s3.has) 5 rfl (.cons (Pe.ba ok 4 s3.has (v 0 rfl rfl) rfl rfl) .nil) (buf_goto (n + 1) s3.has s3.ok) fun _ H4 r => Ex.nil ⟨rfl, ?_⟩)
  refine el1_1 r fun B4 s4 p4 => ?_
  exact ⟨B4, s3.trans s4, p4⟩
theorem widen (n : Nat) (h : Has H (ents b B)) (o : B.ok b) : FnSpec 55 (n + 3) [.ref b] H (fun v H' => v = .none ∧ ∃ B', Step b H B H' B' ∧ B'.p = { B.p with begv := 1, zv := B.p.txt.length + 1 }) NoX := by
  refine FnSpec.introX (F := F55) F55_ok F55_b1 rfl fun c ok I hX hHX => ?_
  have v := Pe.vars ok I
  refine Ex.unpack ok (Ev.tup ok rfl (Args.one Pe.int (Args.one (Pe.add (Pe.meth ok (v 0 rfl rfl) cBuf_ok (eb h) (List.mem_of_getElem? (i := 2) rfl) rfl rfl rfl (by decide) .nil (CallP.fn ok (buf_size n h o))) Pe.int) ⟨Nat.le_of_ble_eq_true rfl, fun d hd => ?_⟩))) (by rfl) (by rw [I.env]; rfl)
  have hd1 := Sub.upd_new (o := .tup [.int 1 0, .int (B.p.txt.length + 1) 0]) hd
  have s1 := Step.buf (h.sub hd1) o B.pt 1 B.zv B.tk B.ck
  have s2 := Step.buf s1.has s1.ok B.pt 1 (B.p.txt.length + 1) B.tk B.ck
  refine Asg.tup ok (upd_same _ _ _) rfl rfl (Asg.attr ok cBuf_ok (by decide) 5 (v 0 rfl rfl) rfl (eb (h.sub hd1)) (Nat.le_of_ble_eq_true rfl) rfl (Asg.attr ok cBuf_ok (by decide) 6 (v 0 rfl rfl) rfl (eb s1.has) (Nat.le_of_ble_eq_true rfl) rfl ?_))
  refine Asgs.nil' (Ex.nil ⟨rfl, _, (s1.trans s2).from hd1, rfl⟩)
theorem is_narrowed (n : Nat) (h : Has H (ents b B)) (o : B.ok b) : FnSpec 62 (n + 3) [.ref b] H (fun v H' => v = .bool (B.begv != 1 || B.zv != (B.p.txt.length : Int) + 1) ∧ Sub H H') NoX := by
  refine FnSpec.introX (F := F62) F62_ok F62_b1 rfl fun c ok I hX hHX => ?_
  have v := Pe.vars ok I
  exact Ex.ret (Pe.ev (Pe.orB (Pe.cmp (Pe.ba ok 5 h (v 0 rfl rfl) rfl rfl) Pe.int (Cmp.int (op := .NotEq) rfl)) fun _ => Pe.cmp (Pe.ba ok 6 h (v 0 rfl rfl) rfl rfl) (Pe.add (Pe.meth ok (v 0 rfl rfl) cBuf_ok (eb h) (List.mem_of_getElem? (i := 2) rfl) rfl rfl rfl (by decide) .nil (CallP.fn ok (buf_size n h o))) Pe.int) (Cmp.int (op := .NotEq) rfl)) ⟨rfl, Sub.rfl'⟩)
end
section
variable {c : Cx} {M : Mem} {H : AH} {n : Nat} {F : Fn} {P : Value → AH → Prop}
theorem Ev.compV (ok : c.Ok n) (I : InFn c F) (noX : ∀ sym, ¬ c.X sym) {sc : Scope} {x : Str} {caps : List (Str × Nat)} (co : CompOk F sc [x] caps) {elt iter : Expr} {px pos : Pos} {l : Addr} {xs : List Value} (f : Value → Value) (hi : Pe c M H iter (.ref l)) (hl : H l = some (.list xs)) (hz : xs.length ≤ sizeLine)
    (helt : ∀ C H' v, (c.comp F M C sc [x] caps).Ok n → v ∈ xs → Sub (minus H l) H' → Pe (c.comp F M C sc [x] caps) (some v :: capV M caps) H' elt (f v)) (q : ∀ d H', Sub H H' → H' d = none → P (.ref d) (upd H' d (.list (xs.map f))))
    (hs : ∀ x, foldedSetIterable iter c.env x = pure x := by intro _; rfl) : Ev c M H (.ListComp elt [⟨.Name x px, iter, [], 0⟩] sc pos) P := by
  refine Ev.comp ok I noX co (fun co => hi.ev (.inl ⟨l, xs, minus H l, fun i H3 ys => H3 = minus H l ∧ ys = (xs.take i).map f, rfl, hl, minus_self _ _, minus_sub _ _, hz, ⟨rfl, rfl⟩, ?_, ?_⟩)) hs
  · rintro C i us H3 H' ys v hv ⟨rfl, rfl⟩ hS hu
    refine CompStep.name I co hu ⟨true, rfl, fun _ => (helt C H' v (comp_ok ok I co) (List.mem_of_getElem? hv) hS).ev ⟨minus H l, ⟨rfl, ?_⟩, Fwd.refl hS⟩, fun hb => by cases hb⟩
    rw [List.take_add_one, hv, List.map_append]; rfl
  · rintro H3 H' ys d ⟨rfl, rfl⟩ hF hd
    rw [List.take_length]
    exact q d H' (Fwd.back Sub.rfl' hl hF) hd
end
structure WD where
  b : Addr
  B : BD
  K : KD
  R : RD
noncomputable def went (w : WD) : HL := ents w.b w.B ++ (kents w.K ++ rents w.R)
structure WD.ok (w : WD) : Prop where
  nd : (ks (went w)).Nodup
  oB : w.B.ok w.b
  oK : w.K.ok
  ri : RI w.B w.R
structure PW where
  b : PB
  k : List (List Int)
noncomputable def WD.p (w : WD) : PW := ⟨w.B.p, w.K.p⟩
structure WStep (H : AH) (w : WD) (H' : AH) (w' : WD) : Prop where
  ok : w'.ok
  tr : Tr (went w) H (went w') H'
  eb : w'.b = w.b
  ek : w'.K.r = w.K.r
  er : w'.R.m = w.R.m
  nm : Named w.B w'.B
  len : w'.B.mks.length ≤ w.B.mks.length + 3
theorem Tr.nd {l l' r : HL} {H H' : AH} (x : Tr l H l' H') (h : Has H r) (d : ∀ a ∈ ks r, a ∉ ks l) (nr : (ks r).Nodup) (nl : (ks l').Nodup) : (ks (l' ++ r)).Nodup := by
  rw [ks_app]
  exact List.nodup_append.mpr ⟨nl, nr, fun a ha b hb q => (x.keep h d).2 b hb (q ▸ ha)⟩
section
variable {H H' : AH} {w : WD}
theorem WD.ok.hB (h : Has H (went w)) : Has H (ents w.b w.B) := h.of fun p hp => List.mem_append_left _ hp
theorem WD.ok.hK (h : Has H (went w)) : Has H (kents w.K) := h.of fun p hp => List.mem_append_right _ (List.mem_append_left _ hp)
theorem WD.ok.hR (h : Has H (went w)) : Has H (rents w.R) := h.of fun p hp => List.mem_append_right _ (List.mem_append_right _ hp)
theorem WD.ok.ndB (o : w.ok) : (∀ a ∈ ks (kents w.K ++ rents w.R), a ∉ ks (ents w.b w.B)) ∧ (ks (kents w.K ++ rents w.R)).Nodup := by
  have := o.nd
  unfold went at this
  rw [ks_app] at this
  have n := List.nodup_append.mp this
  exact ⟨fun a ha q => n.2.2 a q a ha rfl, n.2.1⟩
theorem WD.ok.ndK (o : w.ok) : (∀ a ∈ ks (rents w.R), a ∉ ks (kents w.K)) ∧ (ks (rents w.R)).Nodup ∧ (ks (kents w.K)).Nodup := by
  have := o.ndB.2
  rw [ks_app] at this
  have n := List.nodup_append.mp this
  exact ⟨fun a ha q => n.2.2 a q a ha rfl, n.2.1, n.1⟩
theorem app_off {l m : HL} {a : Addr} (h1 : a ∉ ks l) (h2 : a ∉ ks m) : a ∉ ks (l ++ m) := by rw [ks_app]; exact fun z => (List.mem_append.mp z).elim h1 h2
theorem app_in {l m : HL} {a : Addr} (h : a ∈ ks l ∨ a ∈ ks m) : a ∈ ks (l ++ m) := by rw [ks_app]; exact List.mem_append.mpr h
theorem WStep.refl (h : Has H (went w)) (o : w.ok) : WStep H w H w := ⟨o, Tr.refl h, rfl, rfl, rfl, Named.rfl', Nat.le_add_right _ _⟩
theorem WStep.onB (h : Has H (went w)) (o : w.ok) {B' : BD} (oB : B'.ok w.b) (ri : RI B' w.R) (nm : Named w.B B') (len : B'.mks.length ≤ w.B.mks.length + 3) (T : Tr (ents w.b w.B) H (ents w.b B') H') : WStep H w H' { w with B := B' } := by
  have hr : Has H (kents w.K ++ rents w.R) := h.of fun p hp => List.mem_append_right _ hp
  exact ⟨⟨T.nd hr o.ndB.1 o.ndB.2 oB.nd, oB, o.oK, ri⟩, T.frame hr o.ndB.1, rfl, rfl, rfl, nm, len⟩
theorem WStep.onK (h : Has H (went w)) (o : w.ok) {K' : KD} (oK : K'.ok) (er : K'.r = w.K.r) (T : Tr (kents w.K) H (kents K') H') : WStep H w H' { w with K := K' } := by
  have hr : Has H (ents w.b w.B ++ rents w.R) := (WD.ok.hB h).app (WD.ok.hR h)
  have d : ∀ a ∈ ks (ents w.b w.B ++ rents w.R), a ∉ ks (kents w.K) := fun a ha q => by
    rw [ks_app] at ha
    rcases List.mem_append.mp ha with ha | ha
    · exact o.ndB.1 a (app_in (.inl q)) ha
    · exact o.ndK.1 a ha q
  have nr : (ks (ents w.b w.B ++ rents w.R)).Nodup := by
    rw [ks_app]
    exact List.nodup_append.mpr ⟨o.oB.nd, o.ndK.2.1, fun a ha b hb q => o.ndB.1 b (app_in (.inr hb)) (q ▸ ha)⟩
  have pm : ∀ K : KD, (kents K ++ (ents w.b w.B ++ rents w.R)).Perm (ents w.b w.B ++ (kents K ++ rents w.R)) := fun K => by
    rw [← List.append_assoc, ← List.append_assoc]
    exact List.perm_append_comm.append_right _
  have nd := T.nd hr d nr oK.nd
  exact ⟨⟨((pm K').map (·.1)).nodup_iff.mp nd, o.oB, oK, o.ri⟩, ((T.frame hr d).perm (pm K')).permL (pm w.K), rfl, er, rfl, Named.rfl', Nat.le_add_right _ _⟩
theorem WStep.onBK (h : Has H (went w)) (o : w.ok) {B' : BD} {K' : KD} (oB : B'.ok w.b) (oK : K'.ok) (er : K'.r = w.K.r) (ids : B'.ids = w.B.ids) (dis : ∀ a ∈ ks (kents K'), a ∉ ks (ents w.b B')) (T : Tr (ents w.b w.B ++ kents w.K) H (ents w.b B' ++ kents K') H') : WStep H w H' { w with B := B', K := K' } := by
  have hr := WD.ok.hR h
  have d : ∀ a ∈ ks (rents w.R), a ∉ ks (ents w.b w.B ++ kents w.K) := fun a ha => app_off (o.ndB.1 a (app_in (.inr ha))) (o.ndK.1 a ha)
  have nl : (ks (ents w.b B' ++ kents K')).Nodup := by
    rw [ks_app]
    exact List.nodup_append.mpr ⟨oB.nd, oK.nd, fun a ha b hb q => dis b hb (q ▸ ha)⟩
  have nd := T.nd hr d o.ndK.2.1 nl
  have T' := T.frame hr d
  rw [List.append_assoc] at nd T'
  rw [List.append_assoc] at T'
  exact ⟨⟨nd, oB, oK, o.ri.ids ids⟩, T', rfl, er, rfl, Named.ids ids, by show B'.mks.length ≤ _; rw [ids_len ids]; exact Nat.le_add_right _ _⟩
theorem WStep.onBR (h : Has H (went w)) (o : w.ok) {B' : BD} {R' : RD} (oB : B'.ok w.b) (ri : RI B' R') (er : R'.m = w.R.m) (nm : Named w.B B') (len : B'.mks.length ≤ w.B.mks.length + 3) (nr : R'.m ≠ R'.ml) (dis : ∀ a ∈ ks (rents R'), a ∉ ks (ents w.b B')) (T : Tr (ents w.b w.B ++ rents w.R) H (ents w.b B' ++ rents R') H') : WStep H w H' { w with B := B', R := R' } := by
  have hr := WD.ok.hK h
  have d : ∀ a ∈ ks (kents w.K), a ∉ ks (ents w.b w.B ++ rents w.R) := fun a ha => app_off (o.ndB.1 a (app_in (.inl ha))) fun q => o.ndK.1 a q ha
  have nl : (ks (ents w.b B' ++ rents R')).Nodup := by
    rw [ks_app]
    exact List.nodup_append.mpr ⟨oB.nd, by show [R'.m, R'.ml].Nodup; simp [nr], fun a ha b hb q => dis b hb (q ▸ ha)⟩
  have pm : ∀ (B : BD) (R : RD), ((ents w.b B ++ rents R) ++ kents w.K).Perm (ents w.b B ++ (kents w.K ++ rents R)) := fun B R => by
    rw [List.append_assoc]
    exact List.Perm.append_left _ List.perm_append_comm
  have nd := T.nd hr d o.ndK.2.2 nl
  exact ⟨⟨((pm B' R').map (·.1)).nodup_iff.mp nd, oB, o.oK, ri⟩, ((T.frame hr d).perm (pm B' R')).permL (pm w.B w.R), rfl, rfl, er, nm, len⟩
end
noncomputable def gotoP (p : PB) (q : Int) : PB := { p with pt := min (max q p.begv) p.zv }
noncomputable def cmdP (w : PW) (way x1 x2 x3 x4 : Int) (cs : List Int) (so : Bool) : Option Str × PW :=
  if way = 0 then (if inR w.b x1 x1 then (none, { w with b := putP w.b x1 cs false false }) else (some aoor, w))
  else if way = 1 then (if inR w.b x1 x2 then (none, { w with b := delP w.b (min x1 x2) (max x1 x2) }) else (some aoor, w))
  else if way = 2 then (if inR w.b x1 x2 then (none, { w with b := repP w.b (min x1 x2) (max x1 x2) cs }) else (some aoor, w))
  else if way = 3 then (if inR w.b x1 x2 then (none, { w with b := subP w.b (min x1 x2) (max x1 x2) (cs.headD 0) 9 }) else (some aoor, w))
  else if way = 4 then (if inR w.b x1 x2 ∧ inR w.b x3 x4 then (if (trOrd x1 x2 x3 x4).2.2.1 < (trOrd x1 x2 x3 x4).2.1 then (some errS, w) else (none, { w with b := trQ w.b (trOrd x1 x2 x3 x4).1 (trOrd x1 x2 x3 x4).2.1 (trOrd x1 x2 x3 x4).2.2.1 (trOrd x1 x2 x3 x4).2.2.2 })) else (some aoor, w))
  else if way = 5 then (if inR w.b x1 x2 then (none, ⟨delP w.b (min x1 x2) (max x1 x2), if (decide (min x1 x2 < max x1 x2) || so) = true then saveP (sl w.b.txt (min x1 x2) (max x1 x2)) w.k so (decide (x2 < x1)) else w.k⟩) else (some aoor, w))
  else if way = 6 then (if inR w.b x1 x2 then (none, { w with k := saveP (sl w.b.txt (min x1 x2) (max x1 x2)) w.k so (decide (x2 < x1)) }) else (some aoor, w))
  else if way = 7 then (match w.k with | [] => (some errS, w) | c :: _ => (none, { w with b := yankP w.b c so }))
  else (none, { w with b := putP (gotoP w.b x1) (gotoP w.b x1).pt cs.tail false true })
section
variable {w : PW} {x1 x2 x3 x4 : Int} {cs : List Int} {so : Bool}
theorem cmd0 (h : inR w.b x1 x1) : cmdP w 0 x1 x2 x3 x4 cs so = (none, { w with b := putP w.b x1 cs false false }) := (show cmdP w 0 x1 x2 x3 x4 cs so = if inR w.b x1 x1 then _ else _ from rfl).trans (if_pos h)
theorem cmd0' (h : ¬ inR w.b x1 x1) : cmdP w 0 x1 x2 x3 x4 cs so = (some aoor, w) := (show cmdP w 0 x1 x2 x3 x4 cs so = if inR w.b x1 x1 then _ else _ from rfl).trans (if_neg h)
theorem cmd1 (h : inR w.b x1 x2) : cmdP w 1 x1 x2 x3 x4 cs so = (none, { w with b := delP w.b (min x1 x2) (max x1 x2) }) := (show cmdP w 1 x1 x2 x3 x4 cs so = if inR w.b x1 x2 then _ else _ from rfl).trans (if_pos h)
theorem cmd1' (h : ¬ inR w.b x1 x2) : cmdP w 1 x1 x2 x3 x4 cs so = (some aoor, w) := (show cmdP w 1 x1 x2 x3 x4 cs so = if inR w.b x1 x2 then _ else _ from rfl).trans (if_neg h)
theorem cmd2 (h : inR w.b x1 x2) : cmdP w 2 x1 x2 x3 x4 cs so = (none, { w with b := repP w.b (min x1 x2) (max x1 x2) cs }) := (show cmdP w 2 x1 x2 x3 x4 cs so = if inR w.b x1 x2 then _ else _ from rfl).trans (if_pos h)
theorem cmd2' (h : ¬ inR w.b x1 x2) : cmdP w 2 x1 x2 x3 x4 cs so = (some aoor, w) := (show cmdP w 2 x1 x2 x3 x4 cs so = if inR w.b x1 x2 then _ else _ from rfl).trans (if_neg h)
theorem cmd3 (h : inR w.b x1 x2) : cmdP w 3 x1 x2 x3 x4 cs so = (none, { w with b := subP w.b (min x1 x2) (max x1 x2) (cs.headD 0) 9 }) := (show cmdP w 3 x1 x2 x3 x4 cs so = if inR w.b x1 x2 then _ else _ from rfl).trans (if_pos h)
theorem cmd3' (h : ¬ inR w.b x1 x2) : cmdP w 3 x1 x2 x3 x4 cs so = (some aoor, w) := (show cmdP w 3 x1 x2 x3 x4 cs so = if inR w.b x1 x2 then _ else _ from rfl).trans (if_neg h)
theorem cmd4 (h : inR w.b x1 x2 ∧ inR w.b x3 x4) (h' : ¬ (trOrd x1 x2 x3 x4).2.2.1 < (trOrd x1 x2 x3 x4).2.1) : cmdP w 4 x1 x2 x3 x4 cs so = (none, { w with b := trQ w.b (trOrd x1 x2 x3 x4).1 (trOrd x1 x2 x3 x4).2.1 (trOrd x1 x2 x3 x4).2.2.1 (trOrd x1 x2 x3 x4).2.2.2 }) := (show cmdP w 4 x1 x2 x3 x4 cs so = if inR w.b x1 x2 ∧ inR w.b x3 x4 then _ else _ from rfl).trans ((if_pos h).trans (if_neg h'))
theorem cmd4e (h : inR w.b x1 x2 ∧ inR w.b x3 x4) (h' : (trOrd x1 x2 x3 x4).2.2.1 < (trOrd x1 x2 x3 x4).2.1) : cmdP w 4 x1 x2 x3 x4 cs so = (some errS, w) := (show cmdP w 4 x1 x2 x3 x4 cs so = if inR w.b x1 x2 ∧ inR w.b x3 x4 then _ else _ from rfl).trans ((if_pos h).trans (if_pos h'))
theorem cmd4' (h : ¬ (inR w.b x1 x2 ∧ inR w.b x3 x4)) : cmdP w 4 x1 x2 x3 x4 cs so = (some aoor, w) := (show cmdP w 4 x1 x2 x3 x4 cs so = if inR w.b x1 x2 ∧ inR w.b x3 x4 then _ else _ from rfl).trans (if_neg h)
theorem cmd5 (h : inR w.b x1 x2) : cmdP w 5 x1 x2 x3 x4 cs so = (none, ⟨delP w.b (min x1 x2) (max x1 x2), if (decide (min x1 x2 < max x1 x2) || so) = true then saveP (sl w.b.txt (min x1 x2) (max x1 x2)) w.k so (decide (x2 < x1)) else w.k⟩) := (show cmdP w 5 x1 x2 x3 x4 cs so = if inR w.b x1 x2 then _ else _ from rfl).trans (if_pos h)
theorem cmd5' (h : ¬ inR w.b x1 x2) : cmdP w 5 x1 x2 x3 x4 cs so = (some aoor, w) := (show cmdP w 5 x1 x2 x3 x4 cs so = if inR w.b x1 x2 then _ else _ from rfl).trans (if_neg h)
theorem cmd6 (h : inR w.b x1 x2) : cmdP w 6 x1 x2 x3 x4 cs so = (none, { w with k := saveP (sl w.b.txt (min x1 x2) (max x1 x2)) w.k so (decide (x2 < x1)) }) := (show cmdP w 6 x1 x2 x3 x4 cs so = if inR w.b x1 x2 then _ else _ from rfl).trans (if_pos h)
theorem cmd6' (h : ¬ inR w.b x1 x2) : cmdP w 6 x1 x2 x3 x4 cs so = (some aoor, w) := (show cmdP w 6 x1 x2 x3 x4 cs so = if inR w.b x1 x2 then _ else _ from rfl).trans (if_neg h)
theorem cmd7 : cmdP w 7 x1 x2 x3 x4 cs so = match w.k with | [] => (some errS, w) | c :: _ => (none, { w with b := yankP w.b c so }) := rfl
theorem cmd7b {c : List Int} {t : List (List Int)} (h : w.k = c :: t) : cmdP w 7 x1 x2 x3 x4 cs so = (none, { w with b := yankP w.b c so }) := by
  obtain ⟨b, k⟩ := w
  have h : k = c :: t := h
  subst h; rfl
theorem cmd7e (h : w.k = []) : cmdP w 7 x1 x2 x3 x4 cs so = (some errS, w) := by
  obtain ⟨b, k⟩ := w
  have h : k = [] := h
  subst h; rfl
theorem cmd8 {way : Int} (h0 : way ≠ 0) (h1 : way ≠ 1) (h2 : way ≠ 2) (h3 : way ≠ 3) (h4 : way ≠ 4) (h5 : way ≠ 5) (h6 : way ≠ 6) (h7 : way ≠ 7) : cmdP w way x1 x2 x3 x4 cs so = (none, { w with b := putP (gotoP w.b x1) (gotoP w.b x1).pt cs.tail false true }) := by
  unfold cmdP
  rw [if_neg h0, if_neg h1, if_neg h2, if_neg h3, if_neg h4, if_neg h5, if_neg h6, if_neg h7]
end
structure Fit (w : PW) : Prop where
  wf : w.b.wf
  z2 : w.b.txt.length + w.b.txt.length + 20 ≤ 2 ^ 20
  zk : ∀ q ∈ w.k, w.b.txt.length + q.length + 20 ≤ 2 ^ 20
noncomputable def symV : Option Str → Value
  | none => .none
  | some s => .str s 0
theorem WStep.from {K H H' : AH} {w w' : WD} (x : WStep H w H' w') (s : Sub K H) : WStep K w H' w' := ⟨x.ok, x.tr.from s, x.eb, x.ek, x.er, x.nm, x.len⟩
section
variable {c : Cx} {M : Mem} {H : AH} {n : Nat}
theorem Ex.atM {M' : Mem} {ss : List Stmt} {P : Fl → Mem → AH → Prop} (e : M = M') (h : Ex c M' H ss P) : Ex c M H ss P := e ▸ h
theorem Ex.iteL {t : Expr} {b1 b2 : List Stmt} {pos : Pos} {b : Bool} {J : AH → Prop} (ht : Pb c M H t b) (h1 : b = true → Ex c M H b1 fun fl M' H' => fl = .next ∧ M' = M ∧ J H') (h2 : b = false → Ex c M H b2 fun fl M' H' => fl = .next ∧ M' = M ∧ J H') :
    Ex c M H [.If t b1 b2 pos] fun fl M' H' => fl = .next ∧ M' = M ∧ J H' :=
  Ex.iteJ J ht h1 h2 fun _ j => Ex.nil ⟨rfl, rfl, j⟩
end
theorem way_eq {way k : Int} (hb : iCmp .Eq way k = true) : way = k := by simpa [iCmp] using hb
theorem way_ne {way k : Int} (hb : iCmp .Eq way k = false) : way ≠ k := by simpa [iCmp] using hb
theorem law_done (n : Nat) {H : AH} {w : WD} {cmd pl cd : Addr} {way p1 p2 p3 p4 by' c0 : Int} {ct : List Int} {so : Bool} (h : Has H (went w)) (o : w.ok) (ft : Fit w.p) (few : w.B.mks.length < 36)
    (hc : H cmd = some (.tup [.int way 0, .ref pl, .ref cd, .bool so])) (hpl : H pl = some (.list (intV [p1, p2, p3, p4]))) (hcd : H cd = some (.list (intV (c0 :: ct)))) (hct : ct.length ≤ 2) (hn : cd ∉ ks (went w)) :
    FnSpec 779 (n + 9) [.ref w.b, .ref w.K.r, .ref w.R.m, .ref cmd, .int by' 0] H (fun v H' => v = symV (cmdP w.p way (p1 + by') (p2 + by') (p3 + by') (p4 + by') (c0 :: ct) so).1 ∧ ∃ w', WStep H w H' w' ∧ w'.p = (cmdP w.p way (p1 + by') (p2 + by') (p3 + by') (p4 + by') (c0 :: ct) so).2) NoX := by
  refine FnSpec.introX (F := F779) F779_ok F779_b5 rfl fun c ok I hX hHX => ?_
  have v := Pe.vars ok I
  have noX : ∀ sym, ¬ c.X sym := fun sym => by rw [hX]; exact id
  refine Ex.unpack ok (Pe.ev (v 3 rfl rfl) (Asg.tup ok hc rfl rfl (Asg.name I 5 rfl (Asg.name I 6 rfl (Asg.name I 7 rfl (Asg.name I 8 rfl (Asgs.nil' ?_))))))) (by rfl) (by rw [I.env]; rfl)
  refine Ex.unpack ok (Ev.compV ok I noX (x := "place") (caps := [("by", 4)]) ⟨by decide +kernel, by rfl, by decide +kernel, by decide +kernel, by decide +kernel, by decide +kernel, by decide +kernel⟩ (fun v => match v with | .int i _ => .int (i + by') 0 | v => v) (v 6 rfl rfl) hpl (Nat.le_of_ble_eq_true rfl) (fun C H' u okc hu _ => ?_) fun d H1 S1 hd => ?_) (by rfl) (by rw [I.env]; rfl)
  · refine el1_1 (List.mem_map.mp hu) fun i _ z92 => ?_; rcases z92 with rfl
    exact Pe.add (Pe.name okc 0 rfl rfl) (Pe.name okc 1 rfl rfl)
  have S2 := Sub.trans' S1 (Sub.upd_new (o := .list ((intV [p1, p2, p3, p4]).map fun v => match v with | .int i _ => .int (i + by') 0 | v => v)) hd)
  refine Asg.lst ok (upd_same _ _ _) rfl rfl (Asg.name I 9 rfl (Asg.name I 10 rfl (Asg.name I 11 rfl (Asg.name I 12 rfl (Asgs.nil' ?_)))))
  refine Ex.atM (M' := [some (.ref w.b), some (.ref w.K.r), some (.ref w.R.m), some (.ref cmd), some (.int by' 0), some (.int way 0), some (.ref pl), some (.ref cd), some (.bool so), some (.int (p1 + by') 0), some (.int (p2 + by') 0), some (.int (p3 + by') 0), some (.int (p4 + by') 0), none]) rfl ?_
  generalize hx1 : p1 + by' = x1 at *
  generalize hx2 : p2 + by' = x2 at *
  generalize hx3 : p3 + by' = x3 at *
  generalize hx4 : p4 + by' = x4 at *
  have h2 := h.sub S2
  have hcd2 := S2 _ _ hcd
  generalize upd H1 d (.list ((intV [p1, p2, p3, p4]).map fun v => match v with | .int i _ => .int (i + by') 0 | v => v)) = H2 at *
  have hB := WD.ok.hB h2
  have hK := WD.ok.hK h2
  have hR := WD.ok.hR h2
  have wf := ft.wf
  have z2 := ft.z2
  have zk := ft.zk
  have ep : w.p.b = w.B.p := rfl
  have ek : w.p.k = w.K.p := rfl
  rw [ep] at wf z2 zk
  have zkp : ∀ q ∈ w.K.pcs, w.B.p.txt.length + q.cs.length + 20 ≤ 2 ^ 20 := fun q hq => zk q.cs (List.mem_map_of_mem hq)
  have hnB : cd ∉ ks (ents w.b w.B) := fun z => hn (app_in (.inl z))
  have zc : w.B.p.txt.length + (c0 :: ct).length + 16 ≤ 2 ^ 20 := by rw [List.length_cons]; lia
  generalize hcm : cmdP w.p way x1 x2 x3 x4 (c0 :: ct) so = cm at *
  have I2 : InFn { c with X := fun sym => cm = (some sym, w.p), HX := H2 } F779 := ⟨I.ok, I.env, I.vars, I.loc, I.frs, I.sub⟩
  have ok2 := ok.setX (fun sym => cm = (some sym, w.p)) H2
  have v2 := Pe.vars ok2 I2
  refine Ex.try ok I (X' := fun sym => cm = (some sym, w.p)) 13 rfl (by kernel_rfl) gl_LispSignal (I.kind (by kernel_rfl)) (by decide +kernel) (Ex.mono (P := fun fl M' H' => fl = .next ∧ M' = [some (.ref w.b), some (.ref w.K.r), some (.ref w.R.m), some (.ref cmd), some (.int by' 0), some (.int way 0), some (.ref pl), some (.ref cd), some (.bool so), some (.int x1 0), some (.int x2 0), some (.int x3 0), some (.int x4 0), none] ∧ ∃ w', WStep H2 w H' w' ∧ cm = (none, w'.p)) ?_ fun fl M' H' q => ?_) fun sym M' hs => ?_
  rotate_left
  · refine el0_2 q fun z90 z91 z92 => ?_; rcases z90 with rfl; rcases z91 with rfl; rcases z92 with ⟨w', s', e⟩
    rw [e]
    exact Ex.ret (Pe.ev Pe.none ⟨rfl, w', s'.from S2, rfl⟩)
  · rw [hs]
    exact ⟨rfl, w, (WStep.refl h2 o).from S2, rfl⟩
  have iw : ∀ {B' : BD} {H3 : AH}, Step w.b H2 w.B H3 B' → WStep H2 w H3 { w with B := B' } := fun s => WStep.onB h2 o s.ok (o.ri.ids s.ids) (Named.ids s.ids) (by rw [ids_len s.ids]; exact Nat.le_add_right _ _) s.tr
  have zk20 : ∀ q ∈ w.K.pcs, q.cs.length ≤ 2 ^ 20 := fun q hq => by have := zkp q hq; exact le_w3 (by assumption) (by decide)
  refine Ex.iteL (Pb.cmp (v2 5 rfl rfl) Pe.int (Cmp.int (op := .Eq) rfl)) (fun hb => ?_) fun hb0 => ?_
  · have hw := way_eq hb
    subst hw
    refine Ex.do I2 (Ev.fX ok2 I2 gf_insert_at (by kernel_rfl) (.cons (v2 0 rfl rfl) (.cons (v2 9 rfl rfl) (.cons (v2 7 rfl rfl) .nil))) (insert_at (n + 2) hB o.oB wf zc hcd2 hnB) (fun sym x => by rw [x.1]; exact hcm.symm.trans (cmd0' x.2)) Sub.rfl' fun _ H3 r => Ex.nil ⟨rfl, rfl, ?_⟩)
    refine el0_2 r fun _ r0 z92 => ?_; rcases z92 with ⟨B', s, e⟩
    refine ⟨_, iw s, hcm.symm.trans ((cmd0 (show inR w.p.b x1 x1 from ⟨by rw [Int.min_self]; exact r0.1, by rw [Int.max_self]; exact r0.2⟩)).trans ?_)⟩
    show _ = (none, (⟨B'.p, w.K.p⟩ : PW)); rw [e]; rfl
  have w0 := way_ne hb0
  refine Ex.iteL (Pb.cmp (v2 5 rfl rfl) Pe.int (Cmp.int (op := .Eq) rfl)) (fun hb => ?_) fun hb1 => ?_
  · have hw := way_eq hb
    subst hw
    refine Ex.do I2 (Ev.fX ok2 I2 gf_delete (by kernel_rfl) (.cons (v2 0 rfl rfl) (.cons (v2 9 rfl rfl) (.cons (v2 10 rfl rfl) .nil))) (delete (n + 4) hB o.oB wf) (fun sym x => by rw [x.1]; exact hcm.symm.trans (cmd1' x.2)) Sub.rfl' fun _ H3 r => Ex.nil ⟨rfl, rfl, ?_⟩)
    have r0 := r.1; refine el1_1 r.2 fun B' s e => ?_; try clear r
    refine ⟨_, iw s, hcm.symm.trans ((cmd1 r0).trans ?_)⟩
    show _ = (none, (⟨B'.p, w.K.p⟩ : PW)); rw [e]; rfl
  have w1 := way_ne hb1
  refine Ex.iteL (Pb.cmp (v2 5 rfl rfl) Pe.int (Cmp.int (op := .Eq) rfl)) (fun hb => ?_) fun hb2 => ?_
  · have hw := way_eq hb
    subst hw
    refine Ex.do I2 (Ev.fX ok2 I2 gf_replace (by kernel_rfl) (.cons (v2 0 rfl rfl) (.cons (v2 9 rfl rfl) (.cons (v2 10 rfl rfl) (.cons (v2 7 rfl rfl) .nil)))) (replace (n + 1) hB o.oB wf zc hcd2 hnB) (fun sym x => by rw [x.1]; exact hcm.symm.trans (cmd2' x.2)) Sub.rfl' fun _ H3 r => Ex.nil ⟨rfl, rfl, ?_⟩)
    have r0 := r.1; refine el1_1 r.2 fun B' s e => ?_; try clear r
    refine ⟨_, iw s, hcm.symm.trans ((cmd2 r0).trans ?_)⟩
    show _ = (none, (⟨B'.p, w.K.p⟩ : PW)); rw [e]; rfl
  have w2 := way_ne hb2
  refine Ex.iteL (Pb.cmp (v2 5 rfl rfl) Pe.int (Cmp.int (op := .Eq) rfl)) (fun hb => ?_) fun hb3 => ?_
  · have hw := way_eq hb
    subst hw
    refine Ex.do I2 (Ev.fX ok2 I2 gf_subst_codes (by kernel_rfl) (.cons (v2 0 rfl rfl) (.cons (v2 9 rfl rfl) (.cons (v2 10 rfl rfl) (.cons (Pe.item (v2 7 rfl rfl) Pe.int hcd2 (by decide) (by decide) rfl) (.cons Pe.int .nil))))) (subst_codes (n + 3) (one := c0) hB o.oB wf) (fun sym x => by rw [x.1]; exact hcm.symm.trans (cmd3' x.2)) Sub.rfl' fun _ H3 r => Ex.nil ⟨rfl, rfl, ?_⟩)
    have r0 := r.1; refine el1_1 r.2 fun B' s e => ?_; try clear r
    refine ⟨_, iw s, hcm.symm.trans ((cmd3 r0).trans ?_)⟩
    show _ = (none, (⟨B'.p, w.K.p⟩ : PW)); rw [e]; rfl
  have w3 := way_ne hb3
  refine Ex.iteL (Pb.cmp (v2 5 rfl rfl) Pe.int (Cmp.int (op := .Eq) rfl)) (fun hb => ?_) fun hb4 => ?_
  · have hw := way_eq hb
    subst hw
    refine Ex.do I2 (Ev.call ok2 (f := .ref 529) (Pe.gl ok2 I2 gf_transpose_regions.g (by kernel_rfl) gf_transpose_regions.nd) (Solid.ref _) (CW.ref gf_transpose_regions.kp) rfl (Args.one (v2 0 rfl rfl) (Ev.tup ok2 rfl (Args.one (v2 9 rfl rfl) (Args.one (v2 10 rfl rfl) (Args.nil' ⟨Nat.le_of_ble_eq_true rfl, fun f1 hf1 => Ev.tup ok2 rfl (Args.one (v2 11 rfl rfl) (Args.one (v2 12 rfl rfl) (Args.nil' ⟨Nat.le_of_ble_eq_true rfl, fun f2 hf2 => Args.nil' ?_⟩)))⟩))))))
    have S3 := Sub.upd_new (o := .tup [.int x1 0, .int x2 0]) hf1
    have S4 := Sub.upd_new (o := .tup [.int x3 0, .int x4 0]) hf2
    have S34 := Sub.trans' S3 S4
    refine CallJ.fnX ok2 (transpose_regions n (hB.sub S34) o.oB (s1 := x1) (e1 := x2) (s2 := x3) (e2 := x4) wf (by solve_by_elim (maxDepth := 7) [Nat.le_of_lt, Nat.le_trans, Nat.lt_of_lt_of_le, Nat.lt_of_le_of_lt, Nat.not_lt.mp, Nat.not_le.mp]) (S4 _ _ (upd_same _ _ _)) (upd_same _ _ _)) (fun _ H3 r => Ex.nil ⟨rfl, rfl, ?_⟩) (fun sym x => ?_) S34
    · rcases r.1 with ⟨r1, r2, r3⟩; refine el1_1 r.2 fun B' s e => ?_; try clear r
      refine ⟨_, iw (s.from S34), hcm.symm.trans ((cmd4 ⟨r1, r2⟩ r3).trans ?_)⟩
      show _ = (none, (⟨B'.p, w.K.p⟩ : PW)); rw [e]; rfl
    · rcases x with x | x
      · rw [x.1]; exact hcm.symm.trans (cmd4' x.2)
      · rw [x.1]; exact hcm.symm.trans (cmd4e ⟨x.2.1, x.2.2.1⟩ x.2.2.2)
  have w4 := way_ne hb4
  refine Ex.iteL (Pb.cmp (v2 5 rfl rfl) Pe.int (Cmp.int (op := .Eq) rfl)) (fun hb => ?_) fun hb5 => ?_
  · have hw := way_eq hb
    subst hw
    refine Ex.do I2 (Ev.fX ok2 I2 gf_kill_region (by kernel_rfl) (.cons (v2 0 rfl rfl) (.cons (v2 1 rfl rfl) (.cons (v2 9 rfl rfl) (.cons (v2 10 rfl rfl) (.cons (v2 8 rfl rfl) .nil))))) (kill_region (n + 2) hB o.oB hK o.oK (fun a ha q => o.ndB.1 a (app_in (.inl q)) ha) wf (by exact le_w3 (by assumption) (by decide)) zk20) (fun sym x => by rw [x.1]; exact hcm.symm.trans (cmd5' x.2)) Sub.rfl' fun _ H3 r => Ex.nil ⟨rfl, rfl, ?_⟩)
    refine el0_2 r fun _ r0 z92 => ?_; rcases z92 with ⟨K', B', oK', pK', rK', oB', ids, pB', T, dis⟩
    refine ⟨_, WStep.onBK h2 o oB' oK' rK' ids dis T, hcm.symm.trans ((cmd5 r0).trans ?_)⟩
    show _ = (none, (⟨B'.p, K'.p⟩ : PW)); rw [pB', pK']; rfl
  have w5 := way_ne hb5
  refine Ex.iteL (Pb.cmp (v2 5 rfl rfl) Pe.int (Cmp.int (op := .Eq) rfl)) (fun hb => ?_) fun hb6 => ?_
  · have hw := way_eq hb
    subst hw
    refine Ex.do I2 (Ev.fX ok2 I2 gf_copy_region (by kernel_rfl) (.cons (v2 0 rfl rfl) (.cons (v2 1 rfl rfl) (.cons (v2 9 rfl rfl) (.cons (v2 10 rfl rfl) (.cons (v2 8 rfl rfl) .nil))))) (copy_region (n + 2) hB o.oB hK o.oK wf (by lia) zk20) (fun sym x => by rw [x.1]; exact hcm.symm.trans (cmd6' x.2)) Sub.rfl' fun _ H3 r => Ex.nil ⟨rfl, rfl, ?_⟩)
    refine el0_2 r fun _ r0 z92 => ?_; rcases z92 with ⟨K', oK', pK', rK', T⟩
    refine ⟨_, WStep.onK h2 o oK' rK' T, hcm.symm.trans ((cmd6 r0).trans ?_)⟩
    show _ = (none, (⟨w.B.p, K'.p⟩ : PW)); rw [pK']; rfl
  have w6 := way_ne hb6
  refine Ex.iteL (Pb.cmp (v2 5 rfl rfl) Pe.int (Cmp.int (op := .Eq) rfl)) (fun hb => ?_) fun hb7 => ?_
  · have hw := way_eq hb
    subst hw
    refine Ex.do I2 (Ev.call ok2 (f := .ref 757) (Pe.gl ok2 I2 gf_yank.g (by kernel_rfl) gf_yank.nd) (Solid.ref _) (CW.ref gf_yank.kp) rfl (Args.one (v2 0 rfl rfl) (Args.one (v2 1 rfl rfl) (Args.one (v2 2 rfl rfl) (Args.one Pe.int (Args.one (v2 8 rfl rfl) (Ev.list ok2 rfl ⟨Nat.le_of_ble_eq_true rfl, fun d hd => Args.nil' ?_⟩)))))))
    have S3 := Sub.upd_new (o := .list []) hd
    refine CallJ.fnX ok2 (yank n (hB.sub S3) o.oB (hK.sub S3) o.oK (hR.sub S3) (fun a ha => o.ndB.1 a (app_in (.inr ha))) (fun a ha => app_off (o.ndB.1 a (app_in (.inl ha))) fun q => o.ndK.1 a q ha) few o.ri wf (fun q hq => by have := zkp q hq; solve_by_elim (maxDepth := 7) [Nat.le_of_lt, Nat.le_trans, Nat.lt_of_lt_of_le, Nat.lt_of_le_of_lt, Nat.not_lt.mp, Nat.not_le.mp])) (fun _ H3 r => Ex.nil ⟨rfl, rfl, ?_⟩) (fun sym x => ?_) S3
    · have _ := r.1; refine el4_8 r.2 fun B' R' cs' tl ek' oB' ri' rm' T pB' nm' len' dis' => ?_; try clear r
      refine ⟨_, (WStep.onBR (h2.sub S3) o oB' ri' rm' nm' len' (rents_ne (T.1.of fun p hp => List.mem_append_right _ hp)) dis' T).from S3, hcm.symm.trans ((cmd7b ek').trans ?_)⟩
      show _ = (none, (⟨B'.p, w.K.p⟩ : PW)); rw [pB']; rfl
    · rw [x.1]
      exact hcm.symm.trans (cmd7e (show w.K.p = [] by unfold KD.p; rw [x.2]; rfl))
  have w7 := way_ne hb7
  refine Ex.do I2 (Ev.mC ok2 (v2 0 rfl rfl) cBuf_ok (eb hB) 5 rfl (.cons (v2 9 rfl rfl) .nil) (buf_goto (n + 7) hB o.oB) fun _ H3 r => ?_)
  refine el1_1 r fun B3 s3 p3 => ?_
  have p3 : B3.p = gotoP w.B.p x1 := p3
  have kcd := s3.keep hcd2 hnB
  refine Ex.do I2 (Ev.call ok2 (f := .ref 488) (Pe.gl ok2 I2 gf_insert.g (by kernel_rfl) gf_insert.nd) (Solid.ref _) (CW.ref gf_insert.kp) rfl (Args.one (v2 0 rfl rfl) (Ev.slice ok2 (l := some 1) (u := none) (v2 7 rfl rfl) kcd.1 Pe.int trivial (by rw [intV_len, List.length_cons]; unfold sizeLine; exact Nat.lt_of_le_of_lt (by assumption) (by decide)) fun d hd => Args.nil' ?_)))
  rw [show (some (1 : Int)) = some ((1 : Nat) : Int) from rfl, pick_rest, show (intV (c0 :: ct)).drop 1 = intV ct from rfl]
  have S3 := Sub.upd_new (o := .list (intV ct)) hd
  have wf3 : B3.p.wf := by
    rw [p3]
    have := wf.bp; have := wf.pz
    exact ⟨wf.b1, by show w.B.p.begv ≤ min (max x1 w.B.p.begv) w.B.p.zv; lia, by show min (max x1 w.B.p.begv) w.B.p.zv ≤ w.B.p.zv; lia, wf.zt⟩
  have e3 : B3.p.txt = w.B.p.txt := by rw [p3]; rfl
  refine CallJ.fn ok2 (insert (n + 2) (s3.has.sub S3) s3.ok wf3 (by rw [e3]; rw [List.length_cons] at zc; exact Nat.le_of_lt (by assumption)) (upd_same _ _ _) (not_key s3.has hd)) fun _ H4 r => Ex.nil ⟨rfl, rfl, ?_⟩
  · have _ := r.1; refine el1_1 r.2 fun B4 s4 p4 => ?_; try clear r
    have s5 := s3.trans (s4.from S3)
    refine ⟨_, iw s5, hcm.symm.trans ((cmd8 w0 w1 w2 w3 w4 w5 w6 w7).trans ?_)⟩
    show _ = (none, (⟨B4.p, w.K.p⟩ : PW)); rw [p4, p3]; rfl
structure DD where
  d : Addr
  q : Addr
  cl : Addr
  qs : List Int
  cells : List Int
  cnt : Int
noncomputable def dents (D : DD) : HL := [(D.d, .list [.ref D.q, .ref D.cl, .int D.cnt 0]), (D.q, .list (intV D.qs)), (D.cl, .list (intV D.cells))]
structure DD.ok (D : DD) : Prop where
  nd : [D.d, D.q, D.cl].Nodup
  ne : D.cells ≠ []
  few : D.cells.length ≤ 30
  qz : D.qs.length ≤ 30
theorem fmod_pos {a m : Int} (h : 0 < m) : 0 ≤ a.fmod m ∧ a.fmod m < m := ⟨Int.fmod_nonneg_of_pos a h, Int.fmod_lt_of_pos a h⟩
noncomputable def Drawn (H : AH) (D : DD) (many : Int) (v : Value) (H' : AH) : Prop := ∃ (r : Int) (D' : DD), v = .int r 0 ∧ 0 ≤ r ∧ r < many ∧ D'.ok ∧ D'.d = D.d ∧ ks (dents D') = ks (dents D) ∧ Tr (dents D) H (dents D') H'
theorem law_draw (n : Nat) {H : AH} {D : DD} {many : Int} (h : Has H (dents D)) (o : D.ok) (h1 : 1 ≤ many) (h2 : many < 1073741824) : FnSpec 769 (n + 1) [.ref D.d, .int many 0] H (Drawn H D many) NoX := by
  refine FnSpec.introX (F := F769) F769_ok F769_b2 rfl fun c ok I hX hHX => ?_
  have v := Pe.vars ok I
  have g1 := h.head
  have g2 := h.tail.head
  have g3 := h.tail.tail.head
  have nd := o.nd
  simp only [List.nodup_cons, List.mem_cons, List.not_mem_nil, or_false, not_or, not_false_eq_true, true_and, List.nodup_nil, and_true] at nd
  rcases nd.1 with ⟨ndq, ndc⟩; have nqc := nd.2; try clear nd
  have qz := o.qz
  have few := o.few
  have e0 : ∀ {M : Mem} {H : AH} {p q pos k}, M[0]? = some (some (.ref D.d)) → H D.d = some (.list [.ref D.q, .ref D.cl, .int D.cnt 0]) → Pe c M H (.Subscript (.Name "deck" p) (.Constant (.int 0) k q) pos) (.ref D.q) := fun m g => Pe.item (v 0 rfl m) Pe.int g (by decide) (by decide) rfl
  refine Ex.iteT (Tv.cmp ((e0 rfl g1).ev (Ev.list ok rfl ⟨Nat.le_of_ble_eq_true rfl, fun e he => ⟨_, Cmp.neD ok (Rd.ints (Sub.upd_new he _ _ g2)) (Rd.ints (xs := []) (upd_same _ _ _)) (lay_ints _) (lay_ints _), ?_⟩⟩)))
  refine Ex.moved ?_ (Sub.upd_new he)
  rw [eqv_ints]
  cases hq : D.qs with
  | cons z r =>
    rw [show (!(z :: r == ([] : List Int))) = true from rfl]
    rw [hq] at g2 qz
    have T0 : Tr (dents D) H ([(D.d, .list [.ref D.q, .ref D.cl, .int D.cnt 0])] ++ (D.q, .list (intV (z :: r))) :: [(D.cl, .list (intV D.cells))]) H := (Tr.refl h).less fun p hp => by unfold dents; rw [hq]; exact hp
    have e00 : ∀ {M : Mem} {H : AH} {z' : Int} {r' : List Int} {p q q2 pos pos2 k k2}, M[0]? = some (some (.ref D.d)) → H D.d = some (.list [.ref D.q, .ref D.cl, .int D.cnt 0]) → H D.q = some (.list (intV (z' :: r'))) → Pe c M H (.Subscript (.Subscript (.Name "deck" p) (.Constant (.int 0) k q) pos) (.Constant (.int 0) k2 q2) pos2) (.int z' 0) := fun m g gq => Pe.item (e0 m g) Pe.int gq (by decide) (by decide) rfl
    refine Ex.let I 2 rfl (Pe.ev (e00 rfl g1 g2) ?_)
    have m0 : many ≠ 0 := by lia
    refine Ex.setI ok (Pe.ev (Pe.op (v 2 rfl rfl) (v 1 rfl rfl) (Op.fdiv m0 (PyProof.noPylong_small (by omega)))) ⟨D.q, 0, intV (z :: r), e0 rfl g1, Pe.int, by decide, by decide, g2, by rw [intV_len]; simp, ?_⟩)
    have T1 := T0.turnAt (o' := .list (intV (z.fdiv many :: r))) (by simp [ks, Ne.symm ndq]) (by simp [ks, nqc])
    rw [show (intV (z :: r)).set (0 : Int).toNat (.int (z.fdiv many) 0) = intV (z.fdiv many :: r) from rfl]
    have f1 := T1.1.head
    have f2 : (upd H D.q (.list (intV (z.fdiv many :: r)))) D.q = _ := upd_same _ _ _
    have fin : ∀ {M : Mem} {H' : AH} {rs : List Int} {p q r2 s : Pos} {P : Fl → Mem → AH → Prop}, (∀ u, Drawn H D many u H' → P (.ret u) M H') → M[2]? = some (some (.int z 0)) → M[1]? = some (some (.int many 0)) → rs.length ≤ 30 → Tr (dents D) H ([(D.d, .list [.ref D.q, .ref D.cl, .int D.cnt 0])] ++ (D.q, .list (intV rs)) :: [(D.cl, .list (intV D.cells))]) H' → Ex c M H' [.Return (some (.BinOp (.Name "rest" p) .Mod (.Name "many" q) r2)) s] P := by
      intro M H' rs p q r2 s P hP m2 m1 hz T
      exact Ex.ret (Pe.ev (Pe.op (v 2 rfl m2) (v 1 rfl m1) (Op.mod m0)) (hP _ ⟨z.fmod many, { D with qs := rs }, rfl, (fmod_pos (by assumption)).1, (fmod_pos (by lia)).2, ⟨o.nd, o.ne, o.few, hz⟩, rfl, rfl, T⟩))
    refine Ex.ite (Pb.cmp (e00 rfl f1 f2) Pe.int (Cmp.int (op := .Eq) rfl)) (fun hb => ?_) fun hb => Ex.nil ?_
    · refine Ex.do I (Ev.methL ok PySem.F.slot_list_pop (by rfl) (e0 rfl f1) f2 rfl rfl rfl (by decide) (Args.one Pe.int (Args.nil' (CallJ.pop0 ok (v := .int (z.fdiv many) 0) (xs := intV r) f2 (by rw [intV_len]; rw [List.length_cons] at qz; unfold sizeLine; exact Nat.lt_of_lt_of_le (by assumption) (by decide)) (Ex.nil ?_)))))
      refine fin (rs := r) (fun _ d => d) ?_ ?_ (by rw [List.length_cons] at qz; exact Nat.le_of_lt (by assumption)) (T1.turnAt (by simp [ks, Ne.symm ndq]) (by simp [ks, nqc]))
      · rfl
      · rfl
    · refine fin (rs := z.fdiv many :: r) (fun _ d => d) ?_ ?_ qz T1
      · rfl
      · rfl
  | nil =>
    rw [show (!(([] : List Int) == ([] : List Int))) = false from rfl]
    refine Ex.nil ?_
    refine Ex.setI ok (Pe.ev (Pe.add (Pe.item (v := .int D.cnt 0) (v 0 rfl rfl) Pe.int g1 (by decide) (by decide) rfl) Pe.int) ⟨D.d, 2, _, v 0 rfl rfl, Pe.int, by decide, by decide, g1, by simp, ?_⟩)
    have T1 : Tr (dents D) H (dents { D with cnt := D.cnt + 1 }) (upd H D.d (.list [.ref D.q, .ref D.cl, .int (D.cnt + 1) 0])) := (Tr.refl h).turn rfl (by simp [ks, ndq, ndc])
    rw [show ([Value.ref D.q, .ref D.cl, .int D.cnt 0].set (2 : Int).toNat (.int (D.cnt + 1) 0)) = [.ref D.q, .ref D.cl, .int (D.cnt + 1) 0] from rfl]
    have f1 := T1.1.head
    have f3 : (upd H D.d (.list [.ref D.q, .ref D.cl, .int (D.cnt + 1) 0])) D.cl = some (.list (intV D.cells)) := T1.1.tail.tail.head
    generalize D.cnt + 1 = k at *
    have hl : 0 < D.cells.length := List.length_pos_iff.mpr o.ne
    have hlen : (D.cells.length : Int) ≠ 0 := by lia
    have zq := fmod_pos (a := k) (m := (D.cells.length : Int)) (by exact Int.ofNat_lt.mpr (by assumption)); have i1 := zq.1; have i2 := zq.2
    obtain ⟨x, hx⟩ : ∃ x, D.cells[(k.fmod D.cells.length).toNat]? = some x := ⟨_, List.getElem?_eq_getElem (by omega)⟩
    have e1 : ∀ {M : Mem} {p q pos kk}, M[0]? = some (some (.ref D.d)) → Pe c M _ (.Subscript (.Name "deck" p) (.Constant (.int 1) kk q) pos) (.ref D.cl) := fun m => Pe.item (v 0 rfl m) Pe.int f1 (by decide) (by decide) rfl
    have e2 : ∀ {M : Mem} {p q pos kk}, M[0]? = some (some (.ref D.d)) → Pe c M _ (.Subscript (.Name "deck" p) (.Constant (.int 2) kk q) pos) (.int k 0) := fun m => Pe.item (v 0 rfl m) Pe.int f1 (by decide) (by decide) rfl
    have c1 : IntMulOk 1640531527 k := IntMulOk.of_left (by decide +kernel)
    have c2 : IntMulOk 122949823 k := IntMulOk.of_left (by decide +kernel)
    refine Ex.let I 3 rfl (Pe.ev (Pe.op (Pe.add (Pe.item (e1 rfl) (Pe.op (e2 rfl) (Pe.len ok I (e1 rfl) f3 (by exact Nat.le_trans (by assumption) (by decide)) rfl (by kernel_rfl)) (Op.mod hlen)) f3 i1 (by omega) (intV_get hx)) (Pe.op Pe.int (e2 rfl) (Op.mul c1))) Pe.int (Op.mod (by decide))) ?_)
    have zq := fmod_pos (a := x + 1640531527 * k) (m := 4294966297) (by decide); have b1 := zq.1; have b2 := zq.2
    generalize (x + 1640531527 * k).fmod 4294966297 = m1 at *
    have c3 : IntMulOk m1 m1 := IntMulOk.of_left (intBits_le_64 (by lia) (by lia))
    refine Ex.let I 3 rfl (Pe.ev (Pe.op (Pe.add (Pe.op (v 3 rfl rfl) (v 3 rfl rfl) (Op.mul c3)) (Pe.op Pe.int (e2 rfl) (Op.mul c2))) Pe.int (Op.mod (by decide))) ?_)
    have zq := fmod_pos (a := m1 * m1 + 122949823 * k) (m := 4294966237) (by decide); have b3 := zq.1; have b4 := zq.2
    generalize (m1 * m1 + 122949823 * k).fmod 4294966237 = m2 at *
    have c4 : IntMulOk m2 m2 := IntMulOk.of_left (intBits_le_64 (by lia) (by lia))
    refine Ex.ret (Pe.ev (Pe.op (Pe.op (Pe.op (Pe.op (v 3 rfl rfl) (v 3 rfl rfl) (Op.mul c4)) Pe.int (Op.mod (by decide))) Pe.int (Op.fdiv (by decide) (PyProof.noPylong_small (by decide)))) (v 1 rfl rfl) (Op.mod (by lia))) ⟨_, { D with cnt := k }, rfl, (fmod_pos (by assumption)).1, (fmod_pos (by lia)).2, ⟨o.nd, o.ne, o.few, o.qz⟩, rfl, rfl, T1⟩)
section
variable {c : Cx} {M : Mem} {H : AH} {n : Nat} {P : Value → AH → Prop}
theorem Ev.sliceU (ok : c.Ok n) {o hi : Expr} {p pos : Pos} (ho : Ev c M H o fun v H1 => Ev c M H1 hi fun u H2 => ∃ a xs i, v = .ref a ∧ u = .int i 0 ∧ H2 a = some (.list xs) ∧ xs.length ≤ sizeLine ∧ ∀ d, H2 d = none → P (.ref d) (upd H2 d (.list (kms_pick xs none (some i))))) : Ev c M H (.Subscript o (.Slice none (some hi) none p) pos) P :=
  fun hp kk s Q E qq e => Subscript_ (ho hp kk s _ _ (fun o' h' k' M' H' q s' => by
    have zq := q; rcases zq.1 with rfl; have q := zq.2
    refine wpAny_Slice (evalPart_none_step (evalPart_some_step (q h' k' s' _ _ (fun u h3 k3 M3 H3 q3 s3 => evalPart_none_step ?_) e)))
    rcases q3.1 with rfl; refine el3_4 q3.2 fun a xs i z zu ha hz q => ?_; try clear q3
    refine Exists.elim (er_int zu) fun t z91 => ?_; rcases z91 with rfl
    refine el1_1 (s3.isList ha) fun vs il ev => ?_
    rw [er_ref z]
    have s4 := s3.grown ok (h' := h3.push { cls := .type "slice", data := .fields #[.none, .int i t, .none] }) fun b o e => Heap.get?_push_of_some _ e
    have zq := s4.allocL ok (kms_pick vs none (some i)); have hn := zq.1; have s5 := zq.2
    have il' : (h3.push { cls := .type "slice", data := .fields #[.none, .int i t, .none] }).IsList a vs.toArray := il.push _
    refine sub_tailS (s := c.at (h3.push { cls := .type "slice", data := .fields #[.none, .int i t, .none] }) k3) il'.typeIs PySem.list_getitem_lookup (wpAny_getItem_list_slice (s := c.at (h3.push { cls := .type "slice", data := .fields #[.none, .int i t, .none] }) k3) il' (Heap.IsSliceOf.new ..) .none (.int i t) .none (by simp) ?_ (by rw [List.size_toArray]; rw [← ev, List.length_map] at hz; exact hz))
    rw [kms_pick_eq]
    refine qq _ _ _ _ _ ⟨rfl, q _ hn⟩ ?_
    rw [kms_map, ev] at s5
    exact s5) e)
theorem Ev.sliceB (ok : c.Ok n) {o hi : Expr} {p pos : Pos} {l : Addr} {vs : List Value} {i : Int} (hb : c.base.IsList l vs.toArray) (ho : Pe c M H o (.ref l)) (hu : Pe c M H hi (.int i 0)) (hz : vs.length ≤ sizeLine) (q : ∀ d, H d = none → P (.ref d) (upd H d (.list (kms_pick (vs.map er) none (some i))))) : Ev c M H (.Subscript o (.Slice none (some hi) none p) pos) P :=
  fun hp kk s Q E qq e => Subscript_ (ho hp kk s _ _ fun o' h' k' z s' => by
    refine wpAny_Slice (evalPart_none_step (evalPart_some_step (hu h' k' s' _ _ fun u h3 k3 zu s3 => evalPart_none_step ?_)))
    refine Exists.elim (er_int zu) fun t z91 => ?_; rcases z91 with rfl
    refine Exists.elim (ok.at s3) fun m F => ?_
    have il : h3.IsList l vs.toArray := by
      refine el1_1 hb fun o e1 r => ?_
      exact ⟨o, F.keep _ _ (ok.stays _ _ e1), r⟩
    rw [er_ref z]
    have s4 := s3.grown ok (h' := h3.push { cls := .type "slice", data := .fields #[.none, .int i t, .none] }) fun b o e => Heap.get?_push_of_some _ e
    have zq := s4.allocL ok (kms_pick vs none (some i)); have hn := zq.1; have s5 := zq.2
    have il' : (h3.push { cls := .type "slice", data := .fields #[.none, .int i t, .none] }).IsList l vs.toArray := il.push _
    refine sub_tailS (s := c.at (h3.push { cls := .type "slice", data := .fields #[.none, .int i t, .none] }) k3) il'.typeIs PySem.list_getitem_lookup (wpAny_getItem_list_slice (s := c.at (h3.push { cls := .type "slice", data := .fields #[.none, .int i t, .none] }) k3) il' (Heap.IsSliceOf.new ..) .none (.int i t) .none (by simp) ?_ (by rw [List.size_toArray]; exact hz))
    rw [kms_pick_eq]
    refine qq _ _ _ _ _ ⟨rfl, q _ hn⟩ ?_
    rw [kms_map] at s5
    exact s5)
theorem Ev.cmpE {l r : Expr} {op : CmpOp} {pos} (h : Ev c M H l fun a H1 => Ev c M H1 r fun b H2 => ∃ x, Cmp c M H2 op a b x ∧ P (.bool x) H2) (hm : behindInMarks op r = false := by with_unfolding_all rfl) : Ev c M H (.Compare l [op] [r] pos) P :=
  fun hp k s Q E q e => wpAny_Compare1 (h hp k s _ _ (fun a' h1 k1 M1 H1 p1 s1 => by
    have zq := p1; rcases zq.1 with rfl; have p1 := zq.2
    exact p1 h1 k1 s1 _ _ (fun b' h2 k2 M2 H2 p2 s2 => by
      rcases p2.1 with rfl; refine el1_1 p2.2 fun x ho p => ?_; try clear p2
      exact ho a' b' h2 k2 s2 _ _ rfl rfl fun h3 k3 s3 => q _ _ _ _ _ ⟨rfl, p⟩ s3) e) e) hm
theorem Ev.draw (ok : c.Ok (n + 1)) {e1 e2 : Expr} {p pos : Pos} {D : DD} {d : Addr} {many : Int} (hk : kindIs c.env "_law_draw" .globalImplicit) (h : Has H (dents D)) (o : D.ok) (hd : D.d = d) (he1 : Pe c M H e1 (.ref d)) (he2 : Pe c M H e2 (.int many 0)) (h1 : 1 ≤ many) (h2 : many < 1073741824)
    (q : ∀ (r : Int) (D' : DD) (H' : AH), 0 ≤ r → r < many → D'.ok → D'.d = d → ks (dents D') = ks (dents D) → Tr (dents D) H (dents D') H' → P (.int r 0) H') (hn : noStar [e1, e2] = true := by rfl) : Ev c M H (.Call (.Name "_law_draw" p) [e1, e2] [] pos) P :=
  Ev.call ok (f := .ref 769) (Pe.glob ok gf_law_draw.g hk gf_law_draw.nd) (Solid.ref _) (CW.ref gf_law_draw.kp) hn (Args.one he1 (Args.one he2 (Args.nil' (hd ▸ CallJ.fn ok (law_draw n h o h1 h2) fun v H' ⟨r, D', e, r1, r2, o', d', kk, T⟩ => by rw [e]; exact q r D' H' r1 r2 o' (d'.trans hd) kk T))))
end
structure CmdAt (H : AH) (cmd pl cd : Addr) (way p1 p2 p3 p4 c0 : Int) (ct : List Int) (so : Bool) : Prop where
  tup : H cmd = some (.tup [.int way 0, .ref pl, .ref cd, .bool so])
  pl : H pl = some (.list (intV [p1, p2, p3, p4]))
  cd : H cd = some (.list (intV (c0 :: ct)))
  few : ct.length ≤ 2
theorem Tr.sub1 {l l' : HL} {H H' : AH} (x : Tr l H l' H') {a : Addr} {o : AO} (h : H a = some o) (n : a ∉ ks l) : H' a = some o := (x.2 a o n h).1
theorem law_drawn (n : Nat) {H : AH} {D : DD} {size fresh : Int} (h : Has H (dents D)) (o : D.ok) (h1 : 0 ≤ size) (h2 : size < 2 ^ 20) : FnSpec 774 (n + 2) [.ref D.d, .int size 0, .int fresh 0] H (fun v H' => ∃ (cmd pl cd : Addr) (way p1 p2 p3 p4 c0 : Int) (ct : List Int) (so : Bool) (D' : DD), v = .ref cmd ∧ CmdAt H' cmd pl cd way p1 p2 p3 p4 c0 ct so ∧ D'.ok ∧ D'.d = D.d ∧ ks (dents D') = ks (dents D) ∧ Tr (dents D) H (dents D') H' ∧ H cd = none ∧ H pl = none ∧ H cmd = none) NoX := by
  refine FnSpec.introX (F := F774) F774_ok F774_b3 rfl fun c ok I hX hHX => ?_
  have v := Pe.vars ok I
  have noX : ∀ sym, ¬ c.X sym := fun sym => by rw [hX]; exact id
  refine Ex.letComp ok I noX (ns := ["at"]) (caps := [("deck", 0), ("size", 1)]) ⟨by decide +kernel, by rfl, by decide +kernel, by decide +kernel, by decide +kernel, by decide +kernel, by decide +kernel⟩ 3 rfl (by rw [I.env]; rfl) fun co => (Ev.call ok (Pe.gb ok I gb_range (by kernel_rfl) (by decide +kernel)) (Solid.typ _) (CW.typ _) rfl (Args.one Pe.int (Args.nil' (CallJ.range1 ok fun r t u w hr => ?_))))
  refine .inr ⟨r, 0, 4, t, u, w, ofL (dents D), fun i H3 ys => ∃ (Di : DD) (ps : List Int), Di.ok ∧ Di.d = D.d ∧ ks (dents Di) = ks (dents D) ∧ H3 = ofL (dents Di) ∧ ys = intV ps ∧ ps.length = i, ⟨_, _, rfl⟩, rfl, upd_same _ _ _, by decide, by decide, by decide, by decide, by decide, (h.sub (Sub.upd_new hr)).ofL, ⟨D, [], o, rfl, rfl, rfl, rfl, rfl⟩, ?_, ?_⟩
  · rintro C i us H3 H' ys hi ⟨Di, ps, oi, di, ki, rfl, rfl, rfl⟩ hS hu
    have okc := comp_ok (M := [some (.ref D.d), some (.int size 0), some (.int fresh 0), none]) (C := C) ok I co
    have hD : Has H' (dents Di) := ofL_sub hS oi.nd
    refine CompStep.name I co hu ⟨true, rfl, fun _ => ?_, fun hb => by cases hb⟩
    have fin : ∀ {H2 H4 : AH} {D2 D4 : DD} {x : Int}, Tr (dents Di) H' (dents D2) H2 → Tr (dents D2) H2 (dents D4) H4 → D4.ok → D4.d = D.d → ks (dents D4) = ks (dents D) → ∃ H5, (∃ (Dj : DD) (qs : List Int), Dj.ok ∧ Dj.d = D.d ∧ ks (dents Dj) = ks (dents D) ∧ H5 = ofL (dents Dj) ∧ intV ps ++ [.int x 0] = intV qs ∧ qs.length = ps.length + 1) ∧ Fwd (ofL (dents Di)) H' H5 H4 := fun T2 T4 o4 d4 k4 =>
      ⟨_, ⟨_, ps ++ [_], o4, d4, k4, rfl, (intV_app ps [_]).symm, by rw [List.length_append]; rfl⟩, (T2.trans T4).toFwd⟩
    refine Ev.iteT (Tv.cmp (Ev.draw okc (comp_kind (by kernel_rfl)) hD oi di (Pe.name okc 1 rfl rfl) Pe.int (by decide) (by decide) fun r2 D2 H2 _ _ o2 d2 k2 T2 => Pe.int.ev ⟨_, Cmp.int (op := .Eq) rfl, ?_⟩))
    split
    · refine Ev.draw okc (comp_kind (by kernel_rfl)) T2.1 o2 d2 (Pe.name okc 1 rfl rfl) (Pe.add (Pe.name okc 2 rfl rfl) Pe.int) (by lia) (by lia) fun r4 D4 H4 _ _ o4 d4 k4 T4 => fin T2 T4 o4 d4 (k4.trans (k2.trans ki))
    · refine Ev.op (Pe.int.ev (Ev.draw okc (comp_kind (by kernel_rfl)) T2.1 o2 d2 (Pe.name okc 1 rfl rfl) (Pe.add (Pe.name okc 2 rfl rfl) Pe.int) (by lia) (by lia) fun r4 D4 H4 _ _ o4 d4 k4 T4 => ⟨_, Op.add, fin T2 T4 o4 d4 (k4.trans (k2.trans ki))⟩))
  · rintro H3 H' ys pl ⟨Di, ps, oi, di, ki, rfl, rfl, hps⟩ hF hpl
    have T1 : Tr (dents D) H (dents Di) H' := (Tr.ofFwd (show (ks (dents Di)).Nodup from oi.nd) hF).from (Sub.upd_new hr)
    have S1 := Sub.upd_new (o := .list (intV ps)) hpl
    obtain ⟨p1, p2, p3, p4, rfl⟩ : ∃ p1 p2 p3 p4, ps = [p1, p2, p3, p4] := by
      match ps, hps with
      | [a, b, c, d], _ => exact ⟨a, b, c, d, rfl⟩
    have kn : ∀ {K : AH} {l : HL} {a : Addr}, Has K l → K a = none → a ∉ ks l := not_key
    refine Ex.ret (Ev.tup ok rfl (Ev.draw ok (I.kind (by kernel_rfl)) (T1.1.sub S1) oi di (v 0 rfl rfl) Pe.int (by decide) (by decide) fun way D2 H2 _ _ o2 d2 k2 T2 => Args.one (v 3 rfl rfl) ?_))
    have nl : pl ∉ ks (dents Di) := kn T1.1 hpl
    have g1 : H2 pl = some (.list (intV [p1, p2, p3, p4])) := T2.sub1 (upd_same _ _ _) nl
    refine Ev.sliceU ok (Ev.list ok rfl (Args.one (Pe.op (v 2 rfl rfl) Pe.int (Op.mod (by decide))) (Args.one (v 2 rfl rfl) (Args.one (Pe.add (v 2 rfl rfl) Pe.int) ⟨Nat.le_of_ble_eq_true rfl, fun e he => ?_⟩))))
    have S2 := Sub.upd_new (o := .list [.int (fresh.fmod 4) 0, .int fresh 0, .int (fresh + 1) 0]) he
    refine Ev.op (Pe.int.ev (Ev.draw ok (I.kind (by kernel_rfl)) (T2.1.sub S2) o2 d2 (v 0 rfl rfl) Pe.int (by decide) (by decide) fun r4 D4 H4 r4a r4b o4 d4 k4 T4 => ⟨_, Op.add, ?_⟩))
    have g2 := T4.sub1 (upd_same H2 e (.list [.int (fresh.fmod 4) 0, .int fresh 0, .int (fresh + 1) 0])) (kn T2.1 he)
    have g3 : H4 pl = some (.list (intV [p1, p2, p3, p4])) := T4.sub1 (S2 _ _ g1) (by rw [k2]; exact nl)
    refine ⟨e, _, _, rfl, rfl, g2, Nat.le_of_ble_eq_true rfl, fun cd hcd => ?_⟩
    obtain ⟨m, hm, hm3⟩ : ∃ m : Nat, 1 + r4 = ((m + 1 : Nat) : Int) ∧ m ≤ 2 := ⟨r4.toNat, by lia, by lia⟩
    have S3 := Sub.upd_new (o := .list (kms_pick [.int (fresh.fmod 4) 0, .int fresh 0, .int (fresh + 1) 0] none (some (1 + r4)))) hcd
    refine Ev.cmpE (Ev.draw ok (I.kind (by kernel_rfl)) (T4.1.sub S3) o4 d4 (v 0 rfl rfl) Pe.int (by decide) (by decide) fun r6 D6 H6 _ _ o6 d6 k6 T6 => Pe.int.ev ⟨_, Cmp.int (op := .Eq) rfl, Args.nil' ⟨Nat.le_of_ble_eq_true rfl, fun cmd hcmd => ?_⟩⟩)
    have kk := k6.trans (k4.trans (k2.trans ki))
    have ncd : cd ∉ ks (dents D4) := kn T4.1 hcd
    have g4 := T6.sub1 (upd_same H4 cd _) ncd
    have g5 : H6 pl = some (.list (intV [p1, p2, p3, p4])) := T6.sub1 (S3 _ _ g3) (by rw [k4, k2]; exact nl)
    have S4 := Sub.upd_new (o := .tup [.int way 0, .ref pl, .ref cd, .bool (iCmp .Eq r6 0)]) hcmd
    rw [hm, pick_top] at g4
    refine ⟨cmd, pl, cd, way, p1, p2, p3, p4, fresh.fmod 4, [fresh, fresh + 1].take m, iCmp .Eq r6 0, D6, rfl, ⟨upd_same _ _ _, S4 _ _ g5, ?_, by rw [List.length_take]; lia⟩, o6, d6, kk, ?_, ?_, ?_, ?_⟩
    · refine S4 _ _ (g4.trans ?_)
      congr 2
      show _ = intV ((fresh.fmod 4) :: List.take m [fresh, fresh + 1])
      unfold intV
      rw [List.map_cons, List.map_take]; rfl
    · have T01 := T1.more S1
      have := ((((T01.trans T2).more S2).trans T4).more S3).trans T6
      exact this.more S4
    · cases q : H cd with
      | none => rfl
      | some x =>
        have n0 : cd ∉ ks (dents D) := by rw [← ki, ← k2, ← k4]; exact ncd
        have := ((((T1.more S1).trans T2).more S2).trans T4).sub1 q n0
        rw [this] at hcd; cases hcd
    · cases q : H pl with
      | none => rfl
      | some x =>
        have := T1.sub1 q (by rw [← ki]; exact nl)
        rw [this] at hpl; cases hpl
    · cases q : H cmd with
      | none => rfl
      | some x =>
        have := (((((T1.more S1).trans T2).more S2).trans T4).more S3).trans T6 |>.sub1 q (by rw [← kk]; exact kn T6.1 hcmd)
        rw [this] at hcmd; cases hcmd
theorem Rd.sub {H H' : AH} (s : Sub H H') {v : Value} {d : PyData} (r : Rd H v d) : Rd H' v d :=
  Rd.rec (motive_1 := fun v d _ => Rd H' v d) (motive_2 := fun vs ds _ => RdAll H' vs ds) .none .bool .int .str (fun h _ ih => .list (s _ _ h) ih) .nil (fun _ _ i1 i2 => .cons i1 i2) r
theorem RdAll.sub {H H' : AH} (s : Sub H H') {vs : List Value} {ds : List PyData} (r : RdAll H vs ds) : RdAll H' vs ds :=
  RdAll.rec (motive_1 := fun v d _ => Rd H' v d) (motive_2 := fun vs ds _ => RdAll H' vs ds) .none .bool .int .str (fun h _ ih => .list (s _ _ h) ih) .nil (fun _ _ i1 i2 => .cons i1 i2) r
noncomputable def placeD (o : Option (Bool × Int)) (by' : Int) : PyData := match o with
  | some x => .int (x.2 - by')
  | none => .none
noncomputable def stD (w : PW) (m1 m2 by' : Int) : List PyData :=
  [dInts (sl w.b.txt w.b.begv w.b.zv), .int (w.b.pt - by'), .int (w.b.begv - by'), .int (w.b.zv - by'), placeD (w.b.obs 0) by', dInts [m1 - by', m2 - by'], .list (w.k.map dInts)]
theorem obs_of_mem {B : BD} {b : Addr} (o : B.ok b) {m : MK} (hm : m ∈ B.mks) {k : Nat} (hk : m.num = (k : Int)) : B.p.obs k = some (m.adv, m.pos) := by
  show (B.mks.find? fun m => decide (m.num = (k : Int))).map _ = _
  cases hf : B.mks.find? (fun m => decide (m.num = (k : Int))) with
  | none =>
    have := List.find?_eq_none.mp hf m hm
    simp [hk] at this
  | some x =>
    have h1 : x.num = (k : Int) := by simpa using List.find?_some hf
    have := num_inj o.nn (List.mem_of_find?_eq_some hf) hm (h1.trans hk.symm)
    rw [this]; rfl
noncomputable def fld (H : AH) (k : Nat) : Value → Value
  | .ref a => match H a with
    | some (.inst _ xs) => xs.getD k .none
    | _ => .none
  | _ => .none
noncomputable def less (by' : Int) : Value → Value
  | .int x _ => .int (x - by') 0
  | v => v
theorem fld_of {H : AH} {a : Addr} {C : Cls} {xs : List Value} {k : Nat} {v : Value} (h : H a = some (.inst C xs)) (hk : xs[k]? = some v) : fld H k (.ref a) = v := by
  show (match H a with | some (.inst _ xs) => xs.getD k .none | _ => .none) = v
  rw [h]
  show xs.getD k .none = v
  rw [List.getD_eq_getElem?_getD, hk]; rfl
theorem minus_of {H H' : AH} {l a : Addr} {o : AO} (s : Sub (minus H l) H') (n : a ≠ l) (h : H a = some o) : H' a = some o := s _ _ (by show (if a = l then none else H a) = _; rw [if_neg n]; exact h)
theorem inst_ne {H : AH} {a l : Addr} {C : Cls} {us xs : List Value} (h : H a = some (.inst C us)) (h' : H l = some (.list xs)) : a ≠ l := fun q => by subst q; rw [h] at h'; cases h'
noncomputable def placeV (o : Option (Bool × Int)) (by' : Int) : Value := match o with
  | some x => .int (x.2 - by') 0
  | none => .none
theorem placeV_rd {H : AH} {o : Option (Bool × Int)} {by' : Int} : Rd H (placeV o by') (placeD o by') := by
  cases o with
  | none => exact .none
  | some x => exact .int _
theorem rd_pcs {H : AH} {by' : Int} : ∀ {l : List PC}, (∀ p ∈ l, Has H (pcL p)) → RdAll H (l.map fun p => .ref p.ca) ((l.map (·.cs)).map dInts)
  | [], _ => .nil
  | p :: r, h => .cons (Rd.ints (pc2 (h p List.mem_cons_self))) (rd_pcs (by' := by') fun q hq => h q (List.mem_cons_of_mem _ hq))
theorem law_state (n : Nat) {H : AH} {w : WD} {ml : Addr} {m1 m2 : MK} {by' : Int} (h : Has H (went w)) (o : w.ok) (wf : w.B.p.wf) (hz : w.B.p.txt.length ≤ 2 ^ 20) (hml : H ml = some (.list [.ref m1.a, .ref m2.a])) (h1 : m1 ∈ w.B.mks) (h2 : m2 ∈ w.B.mks) :
    FnSpec 784 (n + 4) [.ref w.b, .ref w.K.r, .ref ml, .int by' 0] H (fun v H' => Sub H H' ∧ ∃ d vs, v = .ref d ∧ H' d = some (.list vs) ∧ RdAll H' vs (stD w.p m1.pos m2.pos by')) NoX := by
  refine FnSpec.introX (F := F784) F784_ok F784_b4 rfl fun c ok I hX hHX => ?_
  have v := Pe.vars ok I
  have noX : ∀ sym, ¬ c.X sym := fun sym => by rw [hX]; exact id
  have hB := WD.ok.hB h
  have hK := WD.ok.hK h
  have few := o.oK.few
  have w1 := wf.b1
  have w2 := wf.bp
  have w3 := wf.pz
  have w4 := wf.zt
  refine Ex.let I 4 rfl (Pe.ev (v := placeV (w.B.p.obs 0) by') (Pe.ite (Pb.val (Pe.fC ok I gf_has_mark (by kernel_rfl) (.cons (v 0 rfl rfl) .nil) (has_mark (n + 2) hB o.oB))) (fun hb => ?_) fun hb => ?_) ?_)
  · refine Exists.elim (Option.isSome_iff_exists.mp hb) fun z90 ho => ?_; rcases z90 with ⟨adv, x⟩
    rw [ho]
    exact Pe.sub (Pe.fC ok I gf_mark_place (by kernel_rfl) (.cons (v 0 rfl rfl) .nil) (mark_place (n + 1) hB o.oB ho)) (v 3 rfl rfl)
  · rw [Option.isSome_eq_false_iff.mp hb |> Option.isNone_iff_eq_none.mp]
    exact Pe.none
  have ab : ∀ {H' : AH}, Sub H H' → ∀ (k : Nat) {M : Mem} {x : Str} {u : Value} {p q : Pos}, M[0]? = some (some (.ref w.b)) → cBuf.lay[k]? = some x → (bufL w.B)[k]? = some u → Pe c M H' (.Attribute (.Name "buffer" p) x q) u := fun s k _ _ _ _ _ m0 hx hi => Pe.ba ok k (hB.sub s) (v 0 rfl m0) hx hi
  refine Ex.let I 5 rfl (Ev.list ok rfl (Ev.mC ok (v 0 rfl rfl) cBuf_ok (eb hB) 4 rfl (.cons (ab Sub.rfl' 5 rfl rfl rfl) (.cons (ab Sub.rfl' 6 rfl rfl rfl) .nil)) (buf_codes (n + 1) hB o.oB (s := w.B.p.begv) (e := w.B.p.zv) (tnI w1).symm (tnI (Int.le_trans w1 (Int.le_trans w2 w3))).symm (tnM (Int.le_trans w2 w3)) (tnZ w4)) fun r H2 hr => ?_))
  refine el1_2 hr fun d2 z91 hd2 S2 => ?_; rcases z91 with rfl
  have g2 := S2 _ _ (upd_same _ _ _)
  have S2 : Sub H H2 := Sub.trans' (Sub.upd_new hd2) S2
  refine Args.one (Pe.sub (ab S2 4 rfl rfl rfl) (v 3 rfl rfl)) (Args.one (Pe.sub (ab S2 5 rfl rfl rfl) (v 3 rfl rfl)) (Args.one (Pe.sub (ab S2 6 rfl rfl rfl) (v 3 rfl rfl)) (Args.one (v 4 rfl rfl) ⟨Nat.le_of_ble_eq_true rfl, fun d3 hd3 => ?_⟩)))
  have S3 := Sub.upd_new (o := .list [.ref d2, .int (w.B.pt - by') 0, .int (w.B.begv - by') 0, .int (w.B.zv - by') 0, placeV (w.B.p.obs 0) by']) hd3
  have g3 := upd_same H2 d3 (.list [.ref d2, .int (w.B.pt - by') 0, .int (w.B.begv - by') 0, .int (w.B.zv - by') 0, placeV (w.B.p.obs 0) by'])
  have S23 := Sub.trans' S2 S3
  have hmk : ∀ {m : MK}, m ∈ w.B.mks → H m.a = some (mkO w.b m) := fun hm => ments_mk (em hB) hm
  have hms : ∀ {H' : AH} {x : Value}, Sub H H' → x ∈ [Value.ref m1.a, Value.ref m2.a] → ∃ m, m ∈ w.B.mks ∧ x = .ref m.a := fun _ hx => by
    rcases List.mem_cons.mp hx with rfl | hx
    · exact ⟨m1, h1, rfl⟩
    · rcases List.mem_cons.mp hx with rfl | hx
      · exact ⟨m2, h2, rfl⟩
      · cases hx
  refine Ex.ret (Ev.opJ (Pe.ev (v 5 rfl rfl) (Ev.list ok rfl (Ev.compV ok I noX (x := "marker") (caps := [("by", 3)]) ⟨by decide +kernel, by rfl, by decide +kernel, by decide +kernel, by decide +kernel, by decide +kernel, by decide +kernel⟩ (fun x => less by' (fld H 3 x)) (v 2 rfl rfl) (S23 _ _ hml) (Nat.le_of_ble_eq_true rfl) (fun C H' x okc hx hS => ?_) fun d4 H4 S4 hd4 => ?_))))
  · refine el1_1 (hms S23 hx) fun m hm z92 => ?_; rcases z92 with rfl
    rw [fld_of (hmk hm) (v := .int m.pos 0) rfl]
    exact Pe.sub (Pe.attr okc cMark_ok 3 (Pe.name okc 0 rfl rfl) (minus_of hS (inst_ne (hmk hm) hml) (S23 _ _ (hmk hm))) rfl rfl rfl) (Pe.name okc 1 rfl rfl)
  have e4 : [Value.ref m1.a, Value.ref m2.a].map (fun x => less by' (fld H 3 x)) = intV [m1.pos - by', m2.pos - by'] := by
    show [less by' (fld H 3 (.ref m1.a)), less by' (fld H 3 (.ref m2.a))] = _
    rw [fld_of (hmk h1) (v := .int m1.pos 0) rfl, fld_of (hmk h2) (v := .int m2.pos 0) rfl]; rfl
  rw [e4]
  have g4 := upd_same H4 d4 (.list (intV [m1.pos - by', m2.pos - by']))
  have S5 := Sub.upd_new (o := .list (intV [m1.pos - by', m2.pos - by'])) hd4
  have S35 := Sub.trans' S4 S5
  have S25 := Sub.trans' S23 S35
  refine Ev.compV ok I noX (x := "piece") (caps := []) ⟨by decide +kernel, by rfl, by decide +kernel, by decide +kernel, by decide +kernel, by decide +kernel, by decide +kernel⟩ (fun x => fld H 0 x) (Pe.attr ok cKill_ok 1 (v 1 rfl rfl) (S25 _ _ (k1 hK)) rfl rfl rfl) (S25 _ _ (k2 hK)) (by rw [List.length_map]; exact Nat.le_trans few (Nat.le_of_ble_eq_true rfl)) (fun C H' x okc hx hS => ?_) fun d6 H6 S6 hd6 => ?_
  · refine el1_1 (List.mem_map.mp hx) fun p hp z92 => ?_; rcases z92 with rfl
    rw [fld_of (pc1 (kp hK hp)) (v := .ref p.ca) rfl]
    exact Pe.attr okc cPiece_ok 0 (Pe.name okc 0 rfl rfl) (minus_of hS (inst_ne (pc1 (kp hK hp)) (k2 hK)) (S25 _ _ (pc1 (kp hK hp)))) rfl rfl rfl
  have e6 : (refs w.K.pcs).map (fun x => fld H 0 x) = w.K.pcs.map fun p => .ref p.ca := by
    rw [List.map_map]
    exact List.map_congr_left fun p hp => fld_of (pc1 (kp hK hp)) rfl
  rw [e6]
  have g6 := upd_same H6 d6 (.list (w.K.pcs.map fun p => .ref p.ca))
  have S7 := Sub.upd_new (o := .list (w.K.pcs.map fun p => .ref p.ca)) hd6
  have S37 := Sub.trans' (Sub.trans' S35 S6) S7
  refine ⟨Nat.le_of_ble_eq_true rfl, fun d8 hd8 => ?_⟩
  have S8 := Sub.upd_new (o := .list [.ref d4, .ref d6]) hd8
  refine OpJ.cat ok (S8 _ _ (S37 _ _ g3)) (upd_same _ _ _) (Nat.le_of_ble_eq_true rfl) fun d9 hd9 => ?_
  have S9 := Sub.upd_new (o := .list ([.ref d2, .int (w.B.pt - by') 0, .int (w.B.begv - by') 0, .int (w.B.zv - by') 0, placeV (w.B.p.obs 0) by'] ++ [.ref d4, .ref d6])) hd9
  have SA := Sub.trans' (Sub.trans' S37 S8) S9
  have ST := Sub.trans' S23 SA
  refine ⟨ST, d9, _, rfl, upd_same _ _ _, ?_⟩
  refine .cons (Rd.ints ((Sub.trans' S3 SA) _ _ g2)) (.cons (.int _) (.cons (.int _) (.cons (.int _) (.cons placeV_rd (.cons (Rd.ints ((Sub.trans' (Sub.trans' S6 S7) (Sub.trans' S8 S9)) _ _ g4)) (.cons (.list ((Sub.trans' S8 S9) _ _ g6) ?_) .nil))))))
  exact rd_pcs (by' := by') fun p hp => (kp hK hp).sub ST
noncomputable def LiO (o : Obj) (l : Addr) (i : Nat) : Prop := o.cls = .type "list_iterator" ∧ o.data = .fields #[.ref l, .int i 0]
noncomputable abbrev zipO (f0 : Value) (TI TO : Addr) : Obj := { cls := .type "zip", dict := none, data := .fields #[f0, .bool false, .bool false, .ref TI, .ref TO], slots := #[] }
noncomputable abbrev pairO (a b : Value) : Obj := { cls := .type "tuple", data := .seq #[a, b] }
structure ZA where
  z : Addr
  TI : Addr
  TO : Addr
  i1 : Addr
  i2 : Addr
  l1 : Addr
  l2 : Addr
structure ZpAt (H : AH) (Z : ZA) (k : Nat) (xs ys : List Value) : Prop where
  ap : ZipApart Z.z Z.TI Z.TO Z.i1 Z.i2 Z.l1 Z.l2
  hz : H Z.z = some (.raw (zipO .none Z.TI Z.TO))
  hTI : H Z.TI = some (.raw (pairO (.ref Z.i1) (.ref Z.i2)))
  hTO : ∃ a b, H Z.TO = some (.raw (pairO a b))
  h1 : ∃ o, H Z.i1 = some (.raw o) ∧ LiO o Z.l1 k
  h2 : ∃ o, H Z.i2 = some (.raw o) ∧ LiO o Z.l2 k
  hl1 : H Z.l1 = some (.list xs)
  hl2 : H Z.l2 = some (.list ys)
section
variable {c : Cx} {M : Mem} {H : AH} {n : Nat} {F : Fn} {rest : List Stmt} {P : Fl → Mem → AH → Prop}
theorem St.rawSet (ok : c.Ok n) : ∀ (l : List (Addr × Obj)) {H : AH} {h h' : Heap}, St c M H h → (∀ p ∈ l, (∃ o, H p.1 = some (.raw o)) ∧ h'.get? p.1 = some p.2) → (∀ b ob, b ∉ l.map (·.1) → h.get? b = some ob → h'.get? b = some ob) → St c M (l.foldl (fun H p => upd H p.1 (.raw p.2)) H) h'
  | [], _, _, _, s, _, hs => s.grown ok fun b o e => hs b o (by simp) e
  | p :: l, H, h, h', s, hl, hs => by
    have zq := hl p List.mem_cons_self; rcases zq.1 with ⟨o, ho⟩; have g := zq.2
    have fr := (Heap.get?_some_iff.mp g).2
    have u1 : (h.update p.1 fun _ => p.2).get? p.1 = some p.2 := Heap.get?_update_self _ (s.raw ho) fr
    refine St.rawSet ok l (s.rawTurn ok ho (fun b ob ne e => (Heap.SameBut.update h p.1 _).extBut b ob ne e) u1) (fun q hq => ⟨?_, (hl q (List.mem_cons_of_mem _ hq)).2⟩) fun b ob nb e => ?_
    · by_cases z : q.1 = p.1
      · exact ⟨p.2, by show upd _ _ _ _ = _; rw [z, upd_same]⟩
      · show ∃ o, upd _ _ _ _ = _
        rw [upd_ne z]; exact (hl q (List.mem_cons_of_mem _ hq)).1
    · by_cases z : b = p.1
      · subst z; rw [u1] at e; cases e; exact g
      · refine hs b ob (fun q => ?_) (((Heap.SameBut.update h p.1 _).2 b z).symm.trans e)
        rcases List.mem_cons.mp q with q | q
        · exact z q
        · exact nb q
theorem push_cases {h : Heap} {o ob : Obj} {b : Addr} (e : (h.push o).get? b = some ob) : (b = h.objs.size ∧ ob = o) ∨ h.get? b = some ob := by
  have zq := Heap.get?_some_iff.mp e; have e1 := zq.1; have e2 := zq.2
  have : (h.push o).objs = h.objs.push o := by cases h; rfl
  rw [this, Array.getElem?_push] at e1
  split at e1
  · rename_i q; exact .inl ⟨q, by cases e1; rfl⟩
  · exact .inr (Heap.get?_some_iff.mpr ⟨e1, e2⟩)
theorem St.allocR (ok : c.Ok n) {h : Heap} (s : St c M H h) {ob : Obj} (hf : ob.isFreed = false) : H h.objs.size = none ∧ St c M (upd H h.objs.size (.raw ob)) (h.push ob) :=
  s.alloc ok (fun _ _ z => by cases z) hf fun news d m => m
theorem CallJ.zip (ok : c.Ok n) {l1 l2 : Addr} {xs ys : List Value} {P : Value → AH → Prop} (h1 : H l1 = some (.list xs)) (h2 : H l2 = some (.list ys))
    (p : ∀ (Z : ZA) H', Z.l1 = l1 → Z.l2 = l2 → ZpAt H' Z 0 xs ys → Sub H H' → (∀ a ∈ [Z.z, Z.TI, Z.TO, Z.i1, Z.i2], H a = none) → P (.ref Z.z) H') : CallJ c M H (.type "zip") [.ref l1, .ref l2] P := fun vs' hv h k s Q E q e => by
  refine el2_2 (two_of hv) fun a' b' z92 e1 e2 => ?_; rcases z92 with rfl
  rw [er_ref e1, er_ref e2]
  refine el1_1 (s.isList h1) fun vs1 il1 ev1 => ?_
  refine el1_1 (s.isList h2) fun vs2 il2 ev2 => ?_
  have lt1 : l1 < h.objs.size := by refine el1_1 il1 fun _ g _ => ?_; exact Heap.lt_size g
  have lt2 : l2 < h.objs.size := by refine el1_1 il2 fun _ g _ => ?_; exact Heap.lt_size g
  have ap := zipApart_new lt1 lt2
  refine call_zip_2 (s := c.at h k) il1 il2 fun h' hz hTI hTO hi1 hi2 hsz hk => ?_
  have hz : IsZip h' (h.objs.size + 4) (h.objs.size + 2) (h.objs.size + 3) .none := hz
  have hTI : IsPair h' (h.objs.size + 2) (.ref h.objs.size) (.ref (h.objs.size + 1)) := hTI
  have hTO : IsPair h' (h.objs.size + 3) .none .none := hTO
  have hk : ∀ b o, h.get? b = some o → h'.get? b = some o := hk
  obtain ⟨o1, g1, c1, d1⟩ : h'.IsListIter h.objs.size l1 0 := hi1
  obtain ⟨o2, g2, c2, d2⟩ : h'.IsListIter (h.objs.size + 1) l2 0 := hi2
  have fr : ∀ {a o}, h'.get? a = some o → o.isFreed = false := fun g => (Heap.get?_some_iff.mp g).2
  have zq := s.allocR ok (fr g1); have n1 := zq.1; have s1 := zq.2
  have zq := s1.allocR ok (fr g2); have n2 := zq.1; have s2 := zq.2
  have zq := s2.allocR ok (fr hTI); have n3 := zq.1; have s3 := zq.2
  have zq := s3.allocR ok (fr hTO); have n4 := zq.1; have s4 := zq.2
  have zq := s4.allocR ok (fr hz); have n5 := zq.1; have s5 := zq.2
  have z1 : (h.push o1).objs.size = h.objs.size + 1 := Heap.size_push ..
  have z2 : ((h.push o1).push o2).objs.size = h.objs.size + 2 := by rw [Heap.size_push, z1]
  have z3 : (((h.push o1).push o2).push (pairO (.ref h.objs.size) (.ref (h.objs.size + 1)))).objs.size = h.objs.size + 3 := by rw [Heap.size_push, z2]
  have z4 : ((((h.push o1).push o2).push (pairO (.ref h.objs.size) (.ref (h.objs.size + 1)))).push (pairO .none .none)).objs.size = h.objs.size + 4 := by rw [Heap.size_push, z3]
  have s6 := s5.grown ok (h' := h') fun b o e => by
    rcases push_cases e with ⟨rfl, rfl⟩ | e
    · rw [z4]; exact hz
    rcases push_cases e with ⟨rfl, rfl⟩ | e
    · rw [z3]; exact hTO
    rcases push_cases e with ⟨rfl, rfl⟩ | e
    · rw [z2]; exact hTI
    rcases push_cases e with ⟨rfl, rfl⟩ | e
    · rw [z1]; exact g2
    rcases push_cases e with ⟨rfl, rfl⟩ | e
    · exact g1
    exact hk b o e
  simp only [z1, z2, z3, z4] at s6 n2 n3 n4 n5
  have e0 : (c.at h k).heap.objs.size = h.objs.size := rfl
  rw [e0]
  clear e0
  generalize hS : h.objs.size = S at *
  clear s5 s4 s3 s2 s1 z1 z2 z3 z4
  have S1 := Sub.upd_new (o := .raw o1) n1
  have S2 := Sub.trans' S1 (Sub.upd_new (o := .raw o2) n2)
  have S3 := Sub.trans' S2 (Sub.upd_new (o := .raw (pairO (.ref S) (.ref (S + 1)))) n3)
  have S4 := Sub.trans' S3 (Sub.upd_new (o := .raw (pairO .none .none)) n4)
  have S5 := Sub.trans' S4 (Sub.upd_new (o := .raw (zipO .none (S + 2) (S + 3))) n5)
  have bk : ∀ {K K' : AH} {a : Addr}, Sub K K' → K' a = none → K a = none := fun {K K' a} s e => by
    cases q : K a with
    | none => rfl
    | some x => rw [s _ _ q] at e; cases e
  have ne : ∀ {i j : Nat}, i ≠ j → S + i ≠ S + j := fun h q => h (Nat.add_left_cancel q)
  have ne0 : ∀ {i : Nat}, i ≠ 0 → S ≠ S + i := fun {i} h q => h (by lia)
  have s6 : St c M (upd (upd (upd (upd (upd H S (.raw o1)) (S + 1) (.raw o2)) (S + 2) (.raw (pairO (.ref S) (.ref (S + 1))))) (S + 3) (.raw (pairO .none .none))) (S + 4) (.raw (zipO .none (S + 2) (S + 3)))) h' := s6
  refine q _ _ _ _ _ ⟨rfl, p ⟨S + 4, S + 2, S + 3, S, S + 1, l1, l2⟩ _ rfl rfl ⟨ap, upd_same _ _ _, ?_, ⟨.none, .none, ?_⟩, ⟨o1, ?_, c1, d1⟩, ⟨o2, ?_, c2, d2⟩, S5 _ _ h1, S5 _ _ h2⟩ S5 ?_⟩ s6
  · show upd _ _ _ (S + 2) = _
    rw [upd_ne (ne (by decide)), upd_ne (ne (by decide)), upd_same]
  · show upd _ _ _ (S + 3) = _
    rw [upd_ne (ne (by decide)), upd_same]
  · show upd _ _ _ S = _
    rw [upd_ne (ne0 (by decide)), upd_ne (ne0 (by decide)), upd_ne (ne0 (by decide)), upd_ne (ne0 (by decide)), upd_same]
  · show upd _ _ _ (S + 1) = _
    rw [upd_ne (ne (by decide)), upd_ne (ne (by decide)), upd_ne (ne (by decide)), upd_same]
  · intro a ha
    simp only [List.mem_cons, List.not_mem_nil, or_false] at ha
    rcases ha with rfl | rfl | rfl | rfl | rfl
    · exact bk S4 n5
    · exact bk S2 n3
    · exact bk S3 n4
    · exact n1
    · exact bk S1 n2
noncomputable def ZTurn (c : Cx) (M : Mem) (H : AH) (Z : ZA) (k : Nat) (xs ys : List Value) (t : Expr) (body : List Stmt) (x y : Value) (Q : Mem → AH → Prop) : Prop :=
  ∀ H' T, H T = none → ZpAt H' Z (k + 1) xs ys → (∀ a, a ∉ [Z.TO, Z.i1, Z.i2] → a ≠ T → H' a = H a) → H' T = some (.tup [x, y]) → Asg c M H' t (.ref T) fun M2 H2 => Ex c M2 H2 body fun fl M4 H4 => fl = .next ∧ ZpAt H4 Z (k + 1) xs ys ∧ Q M4 H4
noncomputable def minusL (H : AH) (l : List Addr) : AH := fun a => if a ∈ l then none else H a
theorem St.rawsGo (ok : c.Ok n) {l : List Addr} {h h' : Heap} (s : St c M H h) (hH : ∀ a ∈ l, ∃ o, H a = some (.raw o)) (hs : ∀ b ob, b ∉ l → h.get? b = some ob → h'.get? b = some ob) : St c M (minusL H l) h' := by
  refine el2_3 s fun news δ N nd A lo => ?_
  have h2 : ∀ a ∈ l, a ∈ ads news := fun a ha => by
    refine Exists.elim (hH a ha) fun o e => ?_
    exact List.mem_map_of_mem (A.rep a _ e)
  have ma : ∀ b x, minusL H l b = some x → b ∉ l ∧ H b = some x := fun b x e => by
    unfold minusL at e
    split at e
    · cases e
    · rename_i q; exact ⟨q, e⟩
  have A' : Abs c.w news δ (minusL H l) := A.less fun b x e => (ma b x e).2
  refine ⟨news.filter fun p => decide (p.1 ∉ l), δ, fun p hp => ?_, ?_, ⟨fun b x e => ?_, A'.sep, A'.inj⟩, ?_⟩
  · have zq := List.mem_filter.mp hp; have hp := zq.1; have n1 := zq.2
    exact ⟨hs _ _ (of_decide_eq_true n1) (N p hp).1, (N p hp).2⟩
  · exact List.Nodup.sublist (List.Sublist.map _ List.filter_sublist) nd
  · have zq := ma b x e; have q := zq.1; have e' := zq.2
    refine (A.rep b x e').to (fun ob m => List.mem_filter.mpr ⟨m, decide_eq_true q⟩) fun ⟨C, vs, z⟩ ob m => List.mem_filter.mpr ⟨m, decide_eq_true fun z' => ?_⟩
    subst z
    refine Exists.elim (hH _ z') fun o e1 => ?_
    have := A.sep b C vs e'
    rw [e1] at this; cases this
  · refine ok.keep _ _ _ _ _ lo ⟨fun b o e n1 _ => hs b o (fun z => n1 (h2 b z)) e, fun b hb m e => Ns_of_get e fun o e => hs b o (fun z => (fads_off ok lo hb).1 (h2 b z)) e⟩ fun b hb => ?_
    refine el1_1 (List.mem_map.mp hb) fun p hp z92 => ?_; rcases z92 with rfl
    exact .inl (List.mem_map_of_mem (List.mem_filter.mp hp).1)
noncomputable def ZG (K0 K1 K2 : Mem → AH → Prop) : Nat → Mem → AH → Prop
  | 0 => K0
  | 1 => K1
  | _ => K2
theorem Ex.forZip2 (ok : c.Ok n) (noX : ∀ sym, ¬ c.X sym) {elts : List Expr} {kk : Nat} {tp pos : Pos} {iter : Expr} {body : List Stmt} {x1 x2 y1 y2 : Value}
    (h : Ev c M H iter fun v H1 => ∃ Z, v = .ref Z.z ∧ ZpAt H1 Z 0 [x1, x2] [y1, y2] ∧ ∃ K1 K2 : Mem → AH → Prop,
      ZTurn c M H1 Z 0 [x1, x2] [y1, y2] (.Tuple elts kk tp) body x1 y1 K1 ∧
      (∀ M4 H4, K1 M4 H4 → ZpAt H4 Z 1 [x1, x2] [y1, y2] → ZTurn c M4 H4 Z 1 [x1, x2] [y1, y2] (.Tuple elts kk tp) body x2 y2 K2) ∧
      ∀ M4 H4, K2 M4 H4 → ZpAt H4 Z 2 [x1, x2] [y1, y2] → Ex c M4 (minusL H4 [Z.z, Z.TO, Z.i1, Z.i2]) rest P)
    (hs : ∀ x, foldedSetIterable iter c.env x = pure x := by intro _; rfl) : Ex c M H (.For (.Tuple elts kk tp) iter body [] pos :: rest) P :=
  Ex.cons fun hp kk0 s Q E q e' => by
    refine wpAny_For (h hp kk0 s _ _ (fun v h1 k1 M1 H1 p s1 => ?_) e') hs
    rcases p.1 with rfl; refine el1_2 p.2 fun Z hv za zq => ?_; refine el2_2 zq fun K1 K2 t1 t2 fin => ?_; try clear p
    rw [er_ref hv]
    have gz : IsZip (c.at h1 k1).heap Z.z Z.TI Z.TO .none := s1.raw za.hz
    refine wpAny_pyIter_zip gz ?_
    refine codeAny_forLoop_any (fun m s' => ∃ i M' H' h' k', s' = c.at h' k' ∧ St c M' H' h' ∧ ZpAt H' Z i [x1, x2] [y1, y2] ∧ i ≤ 2 ∧ m = 3 - i ∧ ZG (fun M' H' => M' = M1 ∧ H' = H1) K1 K2 i M' H') ?_ 3 ⟨0, M1, H1, h1, k1, rfl, s1, za, Nat.zero_le _, rfl, rfl, rfl⟩
    rintro m s' ⟨i, M', H', h', k', rfl, s, zi, hi, rfl, sg⟩
    have gz : IsZip (c.at h' k').heap Z.z Z.TI Z.TO .none := s.raw zi.hz
    have gTI : IsPair (c.at h' k').heap Z.TI (.ref Z.i1) (.ref Z.i2) := s.raw zi.hTI
    refine el2_0 zi.hTO fun ta tb hTO => ?_
    have gTO : IsPair (c.at h' k').heap Z.TO ta tb := s.raw hTO
    refine el1_1 zi.h1 fun o1 ho1 l1 => ?_
    refine el1_1 zi.h2 fun o2 ho2 l2 => ?_
    have g1 : (c.at h' k').heap.IsListIter Z.i1 Z.l1 i := ⟨o1, s.raw ho1, l1⟩
    have g2 : (c.at h' k').heap.IsListIter Z.i2 Z.l2 i := ⟨o2, s.raw ho2, l2⟩
    refine el1_1 (s.isList zi.hl1) fun vs1 il1 ev1 => ?_
    refine el1_1 (s.isList zi.hl2) fun vs2 il2 ev2 => ?_
    have len1 : vs1.length = 2 := by have := congrArg List.length ev1; rwa [List.length_map] at this
    have len2 : vs2.length = 2 := by have := congrArg List.length ev2; rwa [List.length_map] at this
    by_cases hlt : i < 2
    · obtain ⟨x, y, K, ex, ey, zt, nx⟩ : ∃ x y K, [x1, x2][i]? = some x ∧ [y1, y2][i]? = some y ∧ ZTurn c M' H' Z i [x1, x2] [y1, y2] (.Tuple elts kk tp) body x y K ∧ ∀ M4 H4, K M4 H4 → ZG (fun M' H' => M' = M1 ∧ H' = H1) K1 K2 (i + 1) M4 H4 := by
        rcases (show i = 0 ∨ i = 1 by lia) with rfl | rfl
        · obtain ⟨e1, e2⟩ : M' = M1 ∧ H' = H1 := sg
          rw [e1, e2]; exact ⟨x1, y1, K1, rfl, rfl, t1, fun _ _ q => q⟩
        · exact ⟨x2, y2, K2, rfl, rfl, t2 _ _ sg zi, fun _ _ q => q⟩
      obtain ⟨u, hu, eu⟩ : ∃ u, vs1[i]? = some u ∧ er u = x := by
        rw [← ev1, List.getElem?_map] at ex
        cases q : vs1[i]? with
        | none => rw [q] at ex; cases ex
        | some u => rw [q] at ex; exact ⟨u, rfl, by simpa using ex⟩
      obtain ⟨w, hw, ew⟩ : ∃ u, vs2[i]? = some u ∧ er u = y := by
        rw [← ev2, List.getElem?_map] at ey
        cases q : vs2[i]? with
        | none => rw [q] at ey; cases ey
        | some u => rw [q] at ey; exact ⟨u, rfl, by simpa using ey⟩
      refine wpAny_pyNext_zip_item zi.ap gz gTI gTO g1 g2 il1 il2 (x := u) (y := w) (by simpa using hu) (by simpa using hw) fun h2 a1 a2 a3 a4 a5 a6 hk => ?_
      have a6 : h2.objs.size = h'.objs.size + 1 := a6
      have a5 : IsPair h2 h'.objs.size u w := a5
      have a1 : IsZip h2 Z.z Z.TI Z.TO (rawInt h'.objs.size) := a1
      have hk : ∀ b o, b ≠ Z.z → b ≠ Z.TO → b ≠ Z.i1 → b ≠ Z.i2 → h'.get? b = some o → h2.get? b = some o := hk
      refine wpAny_letOwnedTupleGo_zip (s := c.at h2 k') a1 fun h3 hz3 hs3 => ?_
      have hs3 : Heap.SameBut Z.z h2 h3 := hs3
      have lt : ∀ {a o}, h'.get? a = some o → h'.objs.size ≠ a := fun e => Nat.ne_of_gt (Heap.lt_size e)
      have nT : h'.objs.size ≠ Z.z := lt gz
      have zq := s.allocT ok [u, w]; have hn := zq.1; have sT := zq.2
      have D := zi.ap
      have p1 : h3.get? Z.TO = _ := hs3.extBut _ _ D.TOz a2
      refine el1_1 a3 fun q1 b1 c1 => ?_
      refine el1_1 a4 fun q2 b2 c2 => ?_
      have p2 := hs3.extBut _ _ D.i1z b1
      have p3 := hs3.extBut _ _ D.i2z b2
      have p4 := hs3.extBut _ _ nT a5
      have raws : ∀ {a o}, H' a = some (.raw o) → upd H' h'.objs.size (.tup ([u, w].map er)) a = some (.raw o) := fun e => Sub.upd_new hn _ _ e
      have sN := sT.rawSet ok [(Z.z, zipO .none Z.TI Z.TO), (Z.TO, pairO u w), (Z.i1, q1), (Z.i2, q2)] (h' := h3) (fun p hp => by
        simp only [List.mem_cons, List.not_mem_nil, or_false] at hp
        rcases hp with rfl | rfl | rfl | rfl
        · exact ⟨⟨_, raws zi.hz⟩, hz3⟩
        · exact ⟨⟨_, raws hTO⟩, p1⟩
        · exact ⟨⟨_, raws ho1⟩, p2⟩
        · exact ⟨⟨_, raws ho2⟩, p3⟩) fun b ob nb e => by
          simp only [List.map_cons, List.map_nil, List.mem_cons, List.not_mem_nil, or_false, not_or] at nb
          refine hs3.extBut _ _ nb.1 ?_
          rcases push_cases e with ⟨rfl, rfl⟩ | e
          · exact a5
          · exact hk b ob nb.1 nb.2.1 nb.2.2.1 nb.2.2.2 e
      have sN : St c M' (upd (upd (upd (upd (upd H' h'.objs.size (.tup [x, y])) Z.z (.raw (zipO .none Z.TI Z.TO))) Z.TO (.raw (pairO u w))) Z.i1 (.raw q1)) Z.i2 (.raw q2)) h3 := by rw [← eu, ← ew]; exact sN
      have gh : ∀ {a o}, H' a = some (.raw o) → a ≠ h'.objs.size := fun e q => by rw [q, hn] at e; cases e
      have off : ∀ a, a ∉ [Z.TO, Z.i1, Z.i2] → a ≠ h'.objs.size → upd (upd (upd (upd (upd H' h'.objs.size (.tup [x, y])) Z.z (.raw (zipO .none Z.TI Z.TO))) Z.TO (.raw (pairO u w))) Z.i1 (.raw q1)) Z.i2 (.raw q2) a = H' a := fun a na nt => by
        simp only [List.mem_cons, List.not_mem_nil, or_false, not_or] at na
        rw [upd_ne na.2.2, upd_ne na.2.1, upd_ne na.1]
        by_cases q : a = Z.z
        · rw [q, upd_same, zi.hz]
        · rw [upd_ne q, upd_ne nt]
      have no3 : ∀ {a : Addr}, a ≠ Z.TO → a ≠ Z.i1 → a ≠ Z.i2 → a ∉ [Z.TO, Z.i1, Z.i2] := fun h1 h2 h3 => by
        simp only [List.mem_cons, List.not_mem_nil, or_false, not_or]; exact ⟨h1, h2, h3⟩
      have lst : ∀ {a xs}, H' a = some (.list xs) → a ≠ h'.objs.size := fun e q => by rw [q, hn] at e; cases e
      have zN : ZpAt (upd (upd (upd (upd (upd H' h'.objs.size (.tup [x, y])) Z.z (.raw (zipO .none Z.TI Z.TO))) Z.TO (.raw (pairO u w))) Z.i1 (.raw q1)) Z.i2 (.raw q2)) Z (i + 1) [x1, x2] [y1, y2] :=
        ⟨D, (off _ (no3 D.TOz.symm D.i1z.symm D.i2z.symm) (gh zi.hz)).trans zi.hz, (off _ (no3 D.TITO D.TIi1 D.TIi2) (gh zi.hTI)).trans zi.hTI, ⟨u, w, by rw [upd_ne D.TOi2, upd_ne D.TOi1, upd_same]⟩, ⟨q1, by rw [upd_ne D.i12, upd_same], c1⟩, ⟨q2, upd_same _ _ _, c2⟩, (off _ (no3 D.l1TO D.l1i1 D.l1i2) (lst zi.hl1)).trans zi.hl1, (off _ (no3 D.l2TO D.l2i1 D.l2i2) (lst zi.hl2)).trans zi.hl2⟩
      have tt := zt _ h'.objs.size hn zN off (by rw [upd_ne (gh ho2).symm, upd_ne (gh ho1).symm, upd_ne (gh hTO).symm, upd_ne (gh zi.hz).symm, upd_same])
      refine tt _ rfl h3 k' sN _ _ (fun _ h4 k4 M4 H4 p4 s4 => ?_) fun _ sym _ _ _ x => (noX _ x).elim
      refine p4 h4 k4 s4 _ _ (fun f h5 k5 M5 H5 p5 s5 => ?_) fun _ sym _ _ _ x => (noX _ x).elim
      refine el0_2 p5 fun ef z5 kx => ?_
      cases f with
      | next => exact ⟨_, by lia, i + 1, M5, H5, h5, k5, rfl, s5, z5, by assumption, rfl, nx _ _ kx⟩
      | cont => cases ef
      | brk => cases ef
      | ret v => cases ef
    · have e2 : i = 2 := by lia
      subst e2
      refine wpAny_pyNext_zip_end ok.hand zi.ap gz gTI gTO g1 g2 il1 il2 (.inl (by simp [len1])) fun h2 hk => wpAny_execs_nil ?_
      have hk : ∀ b o, b ≠ Z.z → b ≠ Z.TO → b ≠ Z.i1 → b ≠ Z.i2 → h'.get? b = some o → h2.get? b = some o := hk
      refine q .next _ _ _ _ (fin M' H' sg zi) (s.rawsGo ok (l := [Z.z, Z.TO, Z.i1, Z.i2]) (fun a ha => ?_) fun b ob nb e => ?_)
      · simp only [List.mem_cons, List.not_mem_nil, or_false] at ha
        rcases ha with rfl | rfl | rfl | rfl
        · exact ⟨_, zi.hz⟩
        · exact ⟨_, hTO⟩
        · exact ⟨_, ho1⟩
        · exact ⟨_, ho2⟩
      · simp only [List.mem_cons, List.not_mem_nil, or_false, not_or] at nb
        exact hk b ob nb.1 nb.2.1 nb.2.2.1 nb.2.2.2 e
end
noncomputable def ZOff (Z : ZA) (l : HL) : Prop := ∀ a ∈ [Z.z, Z.TI, Z.TO, Z.i1, Z.i2, Z.l1, Z.l2], a ∉ ks l
theorem ZpAt.tr {H H' : AH} {Z : ZA} {k : Nat} {xs ys : List Value} {l l' : HL} (zp : ZpAt H Z k xs ys) (T : Tr l H l' H') (off : ZOff Z l) : ZpAt H' Z k xs ys ∧ ZOff Z l' := by
  have t : ∀ {a o}, a ∈ [Z.z, Z.TI, Z.TO, Z.i1, Z.i2, Z.l1, Z.l2] → H a = some o → H' a = some o ∧ a ∉ ks l' := fun m e => T.2 _ _ (off _ m) e
  refine el2_0 zp.hTO fun x y hTO => ?_
  refine el1_1 zp.h1 fun o1 h1 q1 => ?_
  refine el1_1 zp.h2 fun o2 h2 q2 => ?_
  have tz := t (by simp) zp.hz
  have tI := t (by simp) zp.hTI
  have tO := t (by simp) hTO
  have t1 := t (by simp) h1
  have t2 := t (by simp) h2
  have t3 := t (by simp) zp.hl1
  have t4 := t (by simp) zp.hl2
  refine ⟨⟨zp.ap, tz.1, tI.1, ⟨x, y, tO.1⟩, ⟨o1, t1.1, q1⟩, ⟨o2, t2.1, q2⟩, t3.1, t4.1⟩, fun a ha => ?_⟩
  simp only [List.mem_cons, List.not_mem_nil, or_false] at ha
  rcases ha with rfl | rfl | rfl | rfl | rfl | rfl | rfl
  · exact tz.2
  · exact tI.2
  · exact tO.2
  · exact t1.2
  · exact t2.2
  · exact t3.2
  · exact t4.2
theorem zt_new {H H7 H' : AH} {Z : ZA} {l : HL} {T : Addr} (N : New H l H7) (hn : ∀ a ∈ [Z.z, Z.TI, Z.TO, Z.i1, Z.i2], H a = none) (off : ZOff Z l) (nT : H7 T = none) (e : ∀ a, a ∉ [Z.TO, Z.i1, Z.i2] → a ≠ T → H' a = H7 a) : New H l H' := by
  have no : ∀ {a : Addr} {L : List Addr}, a ∉ [Z.z, Z.TI, Z.TO, Z.i1, Z.i2] → a ∉ [Z.TO, Z.i1, Z.i2] := fun h q => h (by simp at q ⊢; rcases q with q | q | q <;> simp [q])
  refine ⟨fun p hp => (e p.1 (fun q => ?_) fun q => ?_).trans (N.1 p hp), fun a o _ h => ⟨(e a (fun q => ?_) fun q => ?_).trans (N.2 a o (by simp) h).1, (N.2 a o (by simp) h).2⟩⟩
  · exact off p.1 (by simp at q ⊢; rcases q with q | q | q <;> simp [q]) (List.mem_map_of_mem hp)
  · have := N.1 p hp; rw [q, nT] at this; cases this
  · have := hn a (by simp at q ⊢; rcases q with q | q | q <;> simp [q]); rw [h] at this; cases this
  · have := (N.2 a o (by simp) h).1; rw [q, nT] at this; cases this
theorem zm_new {H H7 : AH} {Z : ZA} {l : HL} (N : New H l H7) (hn : ∀ a ∈ [Z.z, Z.TI, Z.TO, Z.i1, Z.i2], H a = none) (off : ZOff Z l) : New H l (minusL H7 [Z.z, Z.TO, Z.i1, Z.i2]) := by
  refine ⟨fun p hp => ?_, fun a o _ h => ⟨?_, (N.2 a o (by simp) h).2⟩⟩
  · show (if p.1 ∈ _ then none else H7 p.1) = _
    rw [if_neg fun q => off p.1 (by simp at q ⊢; rcases q with q | q | q | q <;> simp [q]) (List.mem_map_of_mem hp)]
    exact N.1 p hp
  · show (if a ∈ _ then none else H7 a) = _
    rw [if_neg fun q => by have := hn a (by simp at q ⊢; rcases q with q | q | q | q <;> simp [q]); rw [h] at this; cases this]
    exact (N.2 a o (by simp) h).1
section
variable {c : Cx} {M : Mem} {H : AH} {n : Nat} {F : Fn}
theorem Ev.killNew (ok : c.Ok (n + 2)) (I : InFn c F) {p q pos : Pos} {kd} {Q : Value → AH → Prop} (hk : F.sc.names.lookup ("KillRing" : Str) = some .globalImplicit) (h : ∀ x d H', New H (kents ⟨x, d, []⟩) H' → (⟨x, d, []⟩ : KD).ok → Q (.ref x) H') : Ev c M H (.Call (.Name "KillRing" p) [.Constant (.int 3) kd q] [] pos) Q :=
  Ev.call ok (f := .ref cKill.addr) (Pe.gl ok I gl_KillRing hk (by decide +kernel)) (Solid.ref _) cKill_mk.cw rfl (Args.one Pe.int (Args.nil' (CallJ.make ok cKill_mk fun x hx => FnSpec.sub (kill_init n (upd_same _ _ _)) fun _ H' ⟨r, d, hd, s⟩ => ⟨r, by
    have ne : x ≠ d := ne_new (upd_same _ _ _) hd
    have T0 : New H [(x, .inst cKill [])] (upd H x (.inst cKill [])) := New.one hx
    have T1 := (T0.add hd Sub.rfl' (o := .list [])).less (l' := (x, .inst cKill []) :: [(d, .list [])]) fun p hp => by simp at hp ⊢; rcases hp with h | h <;> simp [h]
    exact h x d H' ((T1.turn rfl (by simpa [ks] using ne)).more s) ⟨by show [x, d].Nodup; simpa using ne, Nat.zero_le _⟩⟩)))
theorem Ev.ringNew (ok : c.Ok (n + 2)) (I : InFn c F) {p q pos : Pos} {kd} {Q : Value → AH → Prop} (hk : F.sc.names.lookup ("MarkRing" : Str) = some .globalImplicit) (h : ∀ x d H', New H (rents ⟨x, d, 0, []⟩) H' → x ≠ d → Q (.ref x) H') : Ev c M H (.Call (.Name "MarkRing" p) [.Constant (.int 2) kd q] [] pos) Q :=
  Ev.call ok (f := .ref cRing.addr) (Pe.gl ok I gl_MarkRing hk (by decide +kernel)) (Solid.ref _) cRing_mk.cw rfl (Args.one Pe.int (Args.nil' (CallJ.make ok cRing_mk fun x hx => FnSpec.sub (ring_init n (upd_same _ _ _)) fun _ H' ⟨r, d, hd, s⟩ => ⟨r, by
    have ne : x ≠ d := ne_new (upd_same _ _ _) hd
    have T0 : New H [(x, .inst cRing [])] (upd H x (.inst cRing [])) := New.one hx
    have T1 := (T0.add hd Sub.rfl' (o := .list [])).less (l' := (x, .inst cRing []) :: [(d, .list [])]) fun p hp => by simp at hp ⊢; rcases hp with h | h <;> simp [h]
    exact h x d H' ((T1.turn rfl (by simpa [ks] using ne)).more s) ne⟩)))
theorem Ev.bufNew (ok : c.Ok (n + 4)) (I : InFn c F) {p q1 q2 pos : Pos} {k1 k2} {Q : Value → AH → Prop} (hk : F.sc.names.lookup ("Buffer" : Str) = some .globalImplicit) (h : ∀ x B H', New H (ents x B) H' → B.ok x → B.p = emptyP → B.ids = [] → Q (.ref x) H') : Ev c M H (.Call (.Name "Buffer" p) [.Constant (.int 1) k1 q1, .Constant (.str "a") k2 q2] [] pos) Q :=
  Ev.call ok (f := .ref cBuf.addr) (Pe.gl ok I gl_Buffer hk (by decide +kernel)) (Solid.ref _) cBuf_mk.cw rfl (Args.one Pe.int (Args.one Pe.str (Args.nil' (CallJ.make ok cBuf_mk fun x hx => FnSpec.sub (buf_init n hx) fun _ H' ⟨r, B, N, o, e1, e2⟩ => ⟨r, h x B H' N o e1 e2⟩))))
end
structure Begun (H : AH) (cs : List Int) (f g : Int) (t ml : Addr) (w : WD) (a1 a2 : Addr) (H' : AH) : Prop where
  tup : H' t = some (.tup [.ref w.b, .ref ml, .ref w.K.r, .ref w.R.m])
  mls : H' ml = some (.list [.ref a1, .ref a2])
  ok : w.ok
  new : New H (went w) H'
  off : ml ∉ ks (went w)
  hml : H ml = none
  txt : w.B.p.txt = cs
  pt : w.B.pt = cs.length + 1
  begv : w.B.begv = 1
  zv : w.B.zv = cs.length + 1
  mks : w.B.mks = [⟨1, a1, false, clampP cs f⟩, ⟨2, a2, true, clampP cs g⟩]
  pcs : w.K.pcs = []
noncomputable def begM (cd : Addr) (f g : Int) (x ml : Addr) (p q : Option Value) : Mem := [some (.ref cd), some (.int f 0), some (.int g 0), some (.ref x), some (.ref ml), p, q]
theorem law_begun (n : Nat) {H : AH} {cd : Addr} {cs : List Int} {f g : Int} (hcd : H cd = some (.list (intV cs))) (hz : cs.length ≤ 1000) :
    FnSpec 791 (n + 7) [.ref cd, .int f 0, .int g 0] H (fun v H' => ∃ t ml w a1 a2, v = .ref t ∧ Begun H cs f g t ml w a1 a2 H') NoX := by
  refine FnSpec.introX (F := F791) F791_ok F791_b3 rfl fun c ok I hX hHX => ?_
  have v := Pe.vars ok I
  have noX : ∀ sym, ¬ c.X sym := fun sym => by rw [hX]; exact id
  refine Ex.let I 3 rfl (Ev.bufNew (n := n + 2) ok I (by kernel_rfl) fun x B H1 N1 o1 e1 e2 => ?_)
  have nk1 : cd ∉ ks (ents x B) := fun q => by have := Tr.fresh N1 q; rw [hcd] at this; cases this
  refine Ex.do I (Ev.fC ok I gf_insert (by kernel_rfl) (.cons (v 3 rfl rfl) (.cons (v 0 rfl rfl) .nil)) (insert n N1.1 o1 (by rw [e1]; exact ⟨by decide, by decide, by decide, by decide⟩) (by rw [e1]; show 0 + _ + 16 ≤ _; lia) (Tr.sub N1 _ _ hcd) nk1) fun _ H2 r => ?_)
  refine el1_1 r.2 fun B2 st ep => ?_; try clear r
  have N2 : New H (ents x B2) H2 := Tr.trans N1 st.tr
  have o2 := st.ok
  have m2 : B2.mks = [] := by
    have := st.ids.trans e2
    exact List.map_eq_nil_iff.mp this
  have p2 : B2.p.txt = cs ∧ B2.p.pt = cs.length + 1 ∧ B2.p.begv = 1 ∧ B2.p.zv = cs.length + 1 := by
    rw [ep, e1]
    by_cases q : cs = []
    · subst q; exact ⟨rfl, rfl, rfl, rfl⟩
    · show (putP emptyP 1 cs false true).txt = _ ∧ (putP emptyP 1 cs false true).pt = _ ∧ (putP emptyP 1 cs false true).begv = _ ∧ (putP emptyP 1 cs false true).zv = _
      rw [show putP emptyP 1 cs false true = { inP emptyP 1 cs with pt := 1 + cs.length, obs := mvO (fIns 1 (1 + cs.length) false) emptyP.obs } from if_neg q]
      refine ⟨by simp [inP, emptyP], Int.add_comm _ _, rfl, ?_⟩
      show 1 + (cs.length : Int) = _; exact Int.add_comm _ _
  refine el0_3 p2 fun pt pp pb pz => ?_
  clear ep st e1 e2
  refine Ex.let I 4 rfl (Ev.list ok rfl (Ev.marker (n := n + 4) ok I (by kernel_rfl) Pe.int Pe.bool fun a1 H3 h1 S3 => Ev.marker (n := n + 4) ok I (by kernel_rfl) Pe.int Pe.bool fun a2 H4 h2 S4 => ⟨Nat.le_of_ble_eq_true rfl, fun ml hml => ?_⟩))
  have N4 := (N2.add h1 S3).add h2 S4
  have nd4 : (ks ((a2, AO.inst cMark [.int 2 0, .bool true, .none, .int 0 0]) :: (a1, AO.inst cMark [.int 1 0, .bool false, .none, .int 0 0]) :: ents x B2)).Nodup := by
    refine List.nodup_cons.mpr ⟨?_, List.nodup_cons.mpr ⟨not_key N2.1 h1, o2.nd⟩⟩
    exact not_key (N2.add h1 S3).1 h2
  have hmlH : H ml = none := by
    cases q : H ml with
    | none => rfl
    | some o => rw [Tr.sub N4 _ _ q] at hml; cases hml
  have offm := not_key N4.1 hml
  have N5 := N4.moreS (Sub.upd_new hml (o := .list [.ref a1, .ref a2]))
  refine Ex.forZip2 (x1 := .ref a1) (x2 := .ref a2) (y1 := .int f 0) (y2 := .int g 0) ok noX (Ev.call ok (Pe.gb ok I gb_zip (by kernel_rfl) (by decide +kernel)) (Solid.typ _) (CW.typ _) rfl (Args.one (v 4 rfl rfl) (Ev.list ok rfl (Args.one (v 1 rfl rfl) (Args.one (v 2 rfl rfl) ⟨Nat.le_of_ble_eq_true rfl, fun l2 hl2 => Args.nil' (CallJ.zip ok (Sub.upd_new hl2 _ _ (upd_same _ _ _)) (upd_same _ _ _) fun Z H7 zl1 zl2 z0 S7 nz => ?_)⟩)))))
  have p4 : ((a2, AO.inst cMark [.int 2 0, .bool true, .none, .int 0 0]) :: (a1, AO.inst cMark [.int 1 0, .bool false, .none, .int 0 0]) :: ents x B2).Perm (((a1, AO.inst cMark [.int 1 0, .bool false, .none, .int 0 0]) :: ents x B2) ++ [(a2, AO.inst cMark [.int 2 0, .bool true, .none, .int 0 0])]) := List.perm_append_comm (l₁ := [(a2, AO.inst cMark [.int 2 0, .bool true, .none, .int 0 0])])
  have N7 : New H (((a1, AO.inst cMark [.int 1 0, .bool false, .none, .int 0 0]) :: ents x B2) ++ [(a2, AO.inst cMark [.int 2 0, .bool true, .none, .int 0 0])]) H7 := Tr.perm ((N5.moreS (Sub.upd_new hl2)).moreS S7) p4
  have nd7 := (p4.map (·.1)).nodup_iff.mp nd4
  have bk : ∀ {K K' : AH} {a : Addr}, Sub K K' → K' a = none → K a = none := fun {K K' a} s e => by
    cases q : K a with
    | none => rfl
    | some x => rw [s _ _ q] at e; cases e
  have nH : ∀ a ∈ [Z.z, Z.TI, Z.TO, Z.i1, Z.i2], H a = none := fun a ha => bk (Sub.trans' (Tr.sub N5) (Sub.upd_new hl2)) (nz a ha)
  have off7 : ZOff Z (((a1, AO.inst cMark [.int 1 0, .bool false, .none, .int 0 0]) :: ents x B2) ++ [(a2, AO.inst cMark [.int 2 0, .bool true, .none, .int 0 0])]) := fun a ha q => by
    have q : a ∈ ks ((a2, AO.inst cMark [.int 2 0, .bool true, .none, .int 0 0]) :: (a1, AO.inst cMark [.int 1 0, .bool false, .none, .int 0 0]) :: ents x B2) := (p4.map (·.1)).mem_iff.mpr q
    by_cases h5 : a ∈ [Z.z, Z.TI, Z.TO, Z.i1, Z.i2]
    · exact not_key (N5.1.sub (Sub.upd_new hl2)) (nz a h5) q
    · simp only [List.mem_cons, List.not_mem_nil, or_false, not_or] at ha h5
      rcases ha with e | e | e | e | e | e | e
      · exact h5.1 e
      · exact h5.2.1 e
      · exact h5.2.2.1 e
      · exact h5.2.2.2.1 e
      · exact h5.2.2.2.2 e
      · rw [e, zl1] at q; exact offm q
      · rw [e, zl2] at q; exact not_key N5.1 hl2 q
  have oB : ∀ {l r : HL}, (ks (l ++ r)).Nodup → ∀ a ∈ ks r, a ∉ ks l := fun h a ha hl => by
    rw [ks_app] at h
    exact (List.nodup_append.mp h).2.2 a hl a ha rfl
  refine ⟨Z, rfl, z0, fun M4 H4 => (∃ p q, M4 = begM cd f g x ml p q) ∧ ∃ B3 : BD, B3 = { B2 with mks := B2.mks ++ [⟨1, a1, false, clampP B2.g.txt f⟩] } ∧ New H (ents x B3 ++ [(a2, AO.inst cMark [.int 2 0, .bool true, .none, .int 0 0])]) H4 ∧ ZOff Z (ents x B3 ++ [(a2, AO.inst cMark [.int 2 0, .bool true, .none, .int 0 0])]) ∧ B3.ok x ∧ a2 ∉ ks (ents x B3),
    fun M4 H4 => (∃ p q, M4 = begM cd f g x ml p q) ∧ ∃ B4 : BD, B4 = { B2 with mks := [⟨1, a1, false, clampP B2.g.txt f⟩, ⟨2, a2, true, clampP B2.g.txt g⟩] } ∧ New H (ents x B4) H4 ∧ ZOff Z (ents x B4) ∧ B4.ok x, ?_, ?_, ?_⟩
  · intro H' T nT zp eq hT
    refine Asg.tup ok hT rfl rfl (Asg.name I 5 rfl (Asg.name I 6 rfl (Asgs.nil' ?_)))
    have N' := zt_new N7 nH off7 nT eq
    have hA := N'.1.of (l' := (a1, AO.inst cMark [.int 1 0, .bool false, .none, .int 0 0]) :: ents x B2) fun p hp => List.mem_append_left _ hp
    have na1 : a1 ∉ ks (ents x B2) := (List.nodup_cons.mp (List.nodup_cons.mp nd4).2).1
    refine Ex.do I (Ev.fC ok I gf_set_marker (by kernel_rfl) (.cons (v 5 rfl rfl) (.cons (v 3 rfl rfl) (.cons (v 6 rfl rfl) .nil))) (set_new (n + 3) hA.tail o2.g o2.nd (by rw [m2]; decide) (by rw [m2]; simp) hA.head na1) fun _ H8 r => ?_)
    have T8 := r.2; try clear r
    have o3 : ({ B2 with mks := B2.mks ++ [⟨1, a1, false, clampP B2.g.txt f⟩] } : BD).ok x := addM_ok o2 na1 (by rw [m2]; simp) (by rw [m2]; decide) (by rw [o2.mark, m2]; rfl)
    have TF := T8.frame (r := [(a2, AO.inst cMark [.int 2 0, .bool true, .none, .int 0 0])]) (N'.1.of fun p hp => List.mem_append_right _ hp) (oB nd7)
    have zq := zp.tr TF off7; have z8 := zq.1; have off8 := zq.2
    refine Ex.nil ⟨rfl, z8, ⟨_, _, rfl⟩, _, rfl, Tr.trans N' TF, off8, o3, ?_⟩
    exact (T8.keep (r := [(a2, AO.inst cMark [.int 2 0, .bool true, .none, .int 0 0])]) (N'.1.of fun p hp => List.mem_append_right _ hp) (oB nd7)).2 _ (by simp [ks])
  · rintro M4 H9 ⟨⟨p, q, rfl⟩, B3, hB3, N9, off9, o3, na2⟩ z9
    intro H' T nT zp eq hT
    refine Asg.tup ok hT rfl rfl (Asg.name I 5 rfl (Asg.name I 6 rfl (Asgs.nil' ?_)))
    have N' := zt_new N9 nH off9 nT eq
    have m3 : B3.mks = [⟨1, a1, false, clampP B2.g.txt f⟩] := by rw [hB3]; show B2.mks ++ _ = _; rw [m2]; rfl
    have pm : (ents x B3 ++ [(a2, AO.inst cMark [.int 2 0, .bool true, .none, .int 0 0])]).Perm ((a2, AO.inst cMark [.int 2 0, .bool true, .none, .int 0 0]) :: ents x B3) := List.perm_append_comm
    have N' : New H ((a2, AO.inst cMark [.int 2 0, .bool true, .none, .int 0 0]) :: ents x B3) H' := Tr.perm N' pm
    have off' : ZOff Z ((a2, AO.inst cMark [.int 2 0, .bool true, .none, .int 0 0]) :: ents x B3) := fun a ha q => off9 a ha ((pm.map (·.1)).mem_iff.mpr q)
    refine Ex.do I (Ev.fC ok I gf_set_marker (by kernel_rfl) (.cons (v 5 rfl rfl) (.cons (v 3 rfl rfl) (.cons (v 6 rfl rfl) .nil))) (set_new (n + 3) N'.1.tail o3.g o3.nd (by rw [m3]; exact Nat.le_of_ble_eq_true rfl) (by rw [m3]; simp) N'.1.head na2) fun _ H8 r => ?_)
    have T8 := r.2; try clear r
    have o4 : ({ B3 with mks := B3.mks ++ [⟨2, a2, true, clampP B3.g.txt g⟩] } : BD).ok x := addM_ok o3 na2 (by rw [m3]; simp) (by rw [m3]; exact Nat.le_of_ble_eq_true rfl) (by rw [o3.mark, m3]; rfl)
    have zq := zp.tr T8 off'; have z8 := zq.1; have off8 := zq.2
    refine Ex.nil ⟨rfl, z8, ⟨_, _, rfl⟩, _, ?_, Tr.trans N' T8, off8, o4⟩
    rw [hB3]; show ({ B2 with mks := (B2.mks ++ _) ++ _ } : BD) = _; rw [m2]; rfl
  · rintro M4 H9 ⟨⟨p, q, rfl⟩, B4, hB4, N9, off9, o4⟩ z9
    have NA := zm_new N9 nH off9
    have hmlA : minusL H9 [Z.z, Z.TO, Z.i1, Z.i2] ml = some (.list [.ref a1, .ref a2]) := by
      show (if ml ∈ _ then none else H9 ml) = _
      rw [if_neg fun q => ?_, ← zl1]
      · exact z9.hl1
      · have : upd H4 ml (AO.list [.ref a1, .ref a2]) ml = none := bk (Sub.upd_new hl2) (nz ml (by simp at q ⊢; rcases q with q | q | q | q <;> simp [q]))
        rw [upd_same] at this; cases this
    refine Ex.ret (Ev.tup ok rfl (Args.one (v 3 rfl rfl) (Args.one (v 4 rfl rfl) (Ev.killNew (n := n + 4) ok I (by kernel_rfl) fun kr kl HB NB okB => Ev.ringNew (n := n + 4) ok I (by kernel_rfl) fun rm rl HC NC neC => ⟨Nat.le_of_ble_eq_true rfl, fun t ht => ?_⟩))))
    have nmB : ml ∉ ks (kents ⟨kr, kl, []⟩) := fun q => by have := Tr.fresh NB q; rw [hmlA] at this; cases this
    have nmC : ml ∉ ks (rents ⟨rm, rl, 0, []⟩) := fun q => by have := Tr.fresh NC q; rw [Tr.sub NB _ _ hmlA] at this; cases this
    have NBC := New.then NB NC
    have ST := Sub.upd_new (o := .tup [.ref x, .ref ml, .ref kr, .ref rm]) ht
    have NT := (New.then NA NBC).moreS ST
    have oml : ml ∉ ks (ents x B4) := off9 ml (by simp [zl1])  |> fun h => h
    have ndr : (ks (rents ⟨rm, rl, 0, []⟩)).Nodup := by show [rm, rl].Nodup; simpa using neC
    have nd := New.nd NA.1 o4.nd NBC (New.nd NB.1 okB.nd NC ndr)
    have eg4 : B4.g = B2.g := by rw [hB4]
    refine ⟨t, ml, ⟨x, B4, ⟨kr, kl, []⟩, ⟨rm, rl, 0, []⟩⟩, a1, a2, rfl, upd_same _ _ _, ?_, ⟨nd, o4, okB, ⟨Nat.zero_le _, fun a ha => absurd ha List.not_mem_nil, fun m hm => ?_, Int.le_refl _, .nil⟩⟩, NT, ?_, hmlH, ?_, ?_, ?_, ?_, ?_, rfl⟩
    · exact ST _ _ (Tr.sub NC _ _ (Tr.sub NB _ _ hmlA))
    · rw [hB4] at hm
      simp only [List.mem_cons, List.not_mem_nil, or_false] at hm
      rcases hm with rfl | rfl
      · show (0 : Int) ≤ 1; decide
      · show (0 : Int) ≤ 2; decide
    · exact app_off oml (app_off nmB nmC)
    · show B4.g.txt = _; rw [eg4]; exact pt
    · rw [hB4]; exact pp
    · rw [hB4]; exact pb
    · rw [hB4]; exact pz
    · rw [hB4]; show [_, _] = _; rw [show B2.g.txt = cs from pt]
section
variable {c : Cx} {M : Mem} {H : AH} {n : Nat}
theorem CallJ.enterB (ok : c.Ok (n + 1)) {F : Fn} (FO : FnOk F) {m : Nat} {ds args : List Value} {P : Value → AH → Prop} (hb : FnBind F m ds) (hm : args.length = m)
    (body : ∀ c' : Cx, c'.Ok n → InFn c' F → c'.base = c.base → (∀ sym, ¬ c'.X sym) → Ex c' (args.map some ++ ds.map (fun v => some (er v)) ++ F.ls.map fun _ => none) H F.body fun fl _ H' => P fl.val H') : CallJ c M H (.ref F.addr) args P := by
  intro vs hv h k s Q E q qe
  subst hv
  rw [List.length_map] at hm
  refine wpAny_call ?_
  refine enter (X := fun _ => False) (HX := H) ok FO s (hb.2 c.w · vs hm) (by rw [List.length_append, hm]; exact hb.1) fun L g he ok' h₁ k₁ s₁ back => ?_
  have e : (List.map some (List.map er vs) ++ List.map (fun v => some (er v)) ds ++ List.map (fun _ => none) F.ls : Mem) = ((vs ++ ds).map fun v => some (er v)) ++ F.ls.map fun _ => none := by
    rw [List.map_append, List.map_map]; rfl
  have b := body (c.callee F L g he (fun _ => False) H) ok' ⟨FO, rfl, rfl, ⟨g, he, c.fads, rfl, rfl⟩, ⟨c.frs, rfl⟩, ⟨g, he, c.fads, rfl, rfl, fun a ha => by rw [callee_fads]; exact List.mem_cons_of_mem _ ha⟩⟩ rfl fun _ => id
  rw [e] at b
  refine b h₁ k₁ s₁ _ _ (fun fl h' k' M' H' r s' => ?_) fun e sym M' h' k' hx f => hx.elim
  have r' : P (erF fl).val H' := r
  refine el2_3 s' fun news' δ' N' nd' A' l' => ?_
  have zq := back _ _ _ N' l'; have b1 := zq.1; have b2 := zq.2
  cases fl <;> exact q _ _ _ _ _ ⟨rfl, r'⟩ ⟨news', δ', b1, nd', A', b2⟩
theorem Op.pow {a b : Int} (h0 : 0 ≤ b) (h1 : b ≤ 1000000) (ha : a.natAbs < 2 ^ 64) : Op c .Pow (.int a 0) (.int b 0) (.int (a ^ b.toNat) 0) := fun a' b' s Q E za zb q => by
  refine Exists.elim (er_int za) fun t z91 => ?_; rcases z91 with rfl; refine Exists.elim (er_int zb) fun u z91 => ?_; rcases z91 with rfl; exact pow_int_small h0 h1 ha (q _ _ rfl)
end
noncomputable def absV : Value → Value
  | .int x _ => .int x.natAbs 0
  | v => v
theorem absV_ints (xs : List Int) : (intV xs).map absV = intV (xs.map fun x => (x.natAbs : Int)) := by
  unfold intV; rw [List.map_map, List.map_map]; rfl
theorem law_deck {c : Cx} {M : Mem} {H : AH} {n : Nat} (ok : c.Ok (n + 1)) {l : Addr} {vs : List Value} {ns : List Int} (hl : c.base.IsList l vs.toArray) (hi : vs.map er = intV ns) (hz : ns.length ≤ 63) {P : Value → AH → Prop}
    (q : ∀ (D : DD) H', D.ok → New H (dents D) H' → P (.ref D.d) H') : CallJ c M H (.ref 762) [.ref l] P := by
  refine CallJ.enterB (F := F762) ok F762_ok F762_b1 rfl fun c ok I hB noX => ?_
  have v := Pe.vars ok I
  have lv : vs.length = ns.length := by have := congrArg List.length hi; simpa [intV] using this
  rw [← hB] at hl
  refine Ex.letComp ok I noX (ns := ["cell"]) (caps := []) ⟨by decide +kernel, by rfl, by decide +kernel, by decide +kernel, by decide +kernel, by decide +kernel, by decide +kernel⟩ 1 rfl (by rw [I.env]; rfl) fun co => Ev.sliceB ok hl (v 0 rfl rfl) Pe.int (by rw [lv]; exact Nat.le_trans hz (Nat.le_of_ble_eq_true rfl)) fun d1 hd1 => ?_
  have e1 : kms_pick (vs.map er) none (some 20) = intV (ns.take 20) := by
    rw [hi]; refine (pick_top (k := 20)).trans ?_; unfold intV; rw [List.map_take]
  rw [e1]
  have ln : (intV (ns.take 20)).length ≤ 20 := by unfold intV; rw [List.length_map, List.length_take]; exact Nat.min_le_left _ _
  clear e1
  generalize ns.take 20 = ts at *
  refine .inl ⟨d1, intV ts, H, fun i H3 ys => H3 = H ∧ ys = ((intV ts).take i).map absV, rfl, upd_same _ _ _, hd1, Sub.upd_new hd1, Nat.le_trans ln (Nat.le_of_ble_eq_true rfl), ⟨rfl, rfl⟩, ?_, ?_⟩
  · rintro C i us H3 H' ys w hw ⟨eH, rfl⟩ hS hu
    subst eH
    have okc := comp_ok (M := [some (.ref l), none]) (C := C) ok I co
    obtain ⟨x, hx, rfl⟩ : ∃ x, x ∈ ts ∧ w = .int x 0 := by
      refine el1_1 (List.mem_map.mp (List.mem_of_getElem? hw)) fun x hx e => ?_; exact ⟨x, hx, e.symm⟩
    refine CompStep.name I co hu ⟨true, rfl, fun _ => (Pe.call okc (Pe.blt okc gb_abs (comp_kind (by kernel_rfl)) (by decide +kernel)) (Solid.blt _) (CW.blt _) rfl (.cons (Pe.name okc 0 rfl rfl) .nil) CallP.abs).ev ⟨_, ⟨rfl, ?_⟩, Fwd.refl hS⟩, fun hb => by cases hb⟩
    rw [List.take_add_one, hw, List.map_append]; rfl
  · rintro H3 H' ys d2 ⟨eH, rfl⟩ hF hd2
    rw [eH] at hF
    rw [List.take_length, absV_ints]
    have lts : ts.length ≤ 20 := by unfold intV at ln; rwa [List.length_map] at ln
    generalize hcs : ts.map (fun x => (x.natAbs : Int)) = cs
    have lcs : cs.length ≤ 20 := by rw [← hcs, List.length_map]; exact lts
    have N1 : New H [(d2, .list (intV cs))] (upd H' d2 (.list (intV cs))) := (New.of hF.1).add hd2 Sub.rfl'
    have S1 : Sub H (upd H' d2 (.list (intV cs))) := Tr.sub N1
    refine Ex.ret (Ev.list ok rfl (Ev.comp ok I noX (ns := ["cell"]) (caps := []) ⟨by decide +kernel, by rfl, by decide +kernel, by decide +kernel, by decide +kernel, by decide +kernel, by decide +kernel⟩ fun co2 => (v 1 rfl rfl).ev (.inl ⟨d2, intV cs, minus (upd H' d2 (.list (intV cs))) d2, fun i H3 ys => H3 = minus (upd H' d2 (.list (intV cs))) d2 ∧ ∃ zs : List Int, ys = intV zs ∧ zs.length ≤ i, rfl, upd_same _ _ _, minus_self _ _, minus_sub _ _, by unfold intV; rw [List.length_map]; exact Nat.le_trans lcs (Nat.le_of_ble_eq_true rfl), ⟨rfl, [], rfl, Nat.le_refl _⟩, ?_, ?_⟩)))
    · rintro C i us H3 H4 ys w hw ⟨rfl, zs, rfl, hzs⟩ hS hu
      have okc := comp_ok (M := [some (.ref l), some (.ref d2)]) (C := C) ok I co2
      obtain ⟨x, hx, rfl⟩ : ∃ x, x ∈ cs ∧ w = .int x 0 := by
        refine el1_1 (List.mem_map.mp (List.mem_of_getElem? hw)) fun x hx e => ?_; exact ⟨x, hx, e.symm⟩
      refine CompStep.name I co2 hu ⟨iCmp .GtE x (10 ^ 18), ?_, fun _ => (Pe.name okc 0 rfl rfl).ev ⟨_, ⟨rfl, zs ++ [x], (intV_app zs [x]).symm, by rw [List.length_append]; exact Nat.succ_le_succ hzs⟩, Fwd.refl hS⟩, fun hb => ⟨_, ⟨rfl, zs, rfl, Nat.le_succ_of_le hzs⟩, Fwd.refl hS⟩⟩
      show Pb _ _ _ _ _
      exact Pb.cmp (Pe.name okc 0 rfl rfl) (Pe.op Pe.int Pe.int (Op.pow (by decide) (by decide) (by decide))) (Cmp.int (op := .GtE) rfl)
    · rintro H3 H4 ys d3 ⟨rfl, zs, rfl, hzs⟩ hF2 hd3
      have lzs : zs.length ≤ 20 := by unfold intV at hzs; rw [List.length_map] at hzs; solve_by_elim (maxDepth := 7) [Nat.le_trans, Nat.le_add_right, Nat.le_add_left, Nat.sub_le, Nat.le_of_lt, Nat.add_le_add_right, Nat.add_le_add_left]
      have S2 : Sub (upd H' d2 (.list (intV cs))) H4 := Fwd.back Sub.rfl' (upd_same _ _ _) hF2
      have N2 := (N1.moreS S2).add hd3 Sub.rfl' (o := .list (intV zs))
      have g2 : upd H4 d3 (.list (intV zs)) d2 = some (.list (intV cs)) := N2.1.tail.head
      refine Ev.opJ ((v 1 rfl rfl).ev (Ev.list ok rfl (Args.one (Pe.add Pe.int (Pe.len ok I (v 1 rfl rfl) g2 (Nat.le_trans lcs (Nat.le_of_ble_eq_true rfl)) rfl (by kernel_rfl))) ⟨Nat.le_of_ble_eq_true rfl, fun d4 hd4 => ?_⟩)))
      have S4 := Sub.upd_new (o := .list [.int (417 + cs.length) 0]) hd4
      refine OpJ.catI ok (ys := [417 + (cs.length : Int)]) (S4 _ _ g2) (upd_same _ _ _) (Nat.le_trans lcs (Nat.le_of_ble_eq_true rfl)) (Nat.le_of_ble_eq_true rfl) fun d5 hd5 => Args.one Pe.int ⟨Nat.le_of_ble_eq_true rfl, fun d6 hd6 => ?_⟩
      have N5 := (N2.moreS S4).add hd5 Sub.rfl' (o := .list (intV (cs ++ [417 + (cs.length : Int)])))
      have N6 := N5.add hd6 Sub.rfl' (o := .list [.ref d3, .ref d5, .int 0 0])
      refine q ⟨d6, d3, d5, zs, cs ++ [417 + (cs.length : Int)], 0⟩ _ ⟨?_, ?_, ?_, ?_⟩ (N6.less fun p hp => ?_)
      · have n1 : d6 ≠ d3 := (ne_new N5.1.tail.head hd6).symm
        have n2 : d6 ≠ d5 := (ne_new N5.1.head hd6).symm
        have n3 : d3 ≠ d5 := ne_new (S4 _ _ N2.1.head) hd5
        simp [n1, n2, n3]
      · simp
      · show (cs ++ [_]).length ≤ 30; rw [List.length_append]; show cs.length + 1 ≤ 30; exact Nat.lt_of_le_of_lt (by assumption) (by decide)
      · show zs.length ≤ 30; exact Nat.le_trans (by assumption) (by decide)
      · unfold dents at hp
        simp only [List.mem_cons, List.not_mem_nil, or_false] at hp ⊢
        rcases hp with h | h | h <;> simp [h]
structure RelB (hd tl : List Int) (f3 f4 : Option (Bool × Int)) (p q : PB) : Prop where
  txt : q.txt = hd ++ p.txt ++ tl
  pt : q.pt = p.pt + hd.length
  b1 : p.begv = 1
  z1 : p.zv = p.txt.length + 1
  bq : q.begv = hd.length + 1
  zq : q.zv = p.txt.length + 1 + hd.length
  p1 : 1 ≤ p.pt
  p2 : p.pt ≤ p.txt.length + 1
  obs : ∀ k, k < 3 → q.obs k = (p.obs k).map fun x => (x.1, x.2 + (hd.length : Int))
  o3 : q.obs 3 = f3
  o4 : q.obs 4 = f4.map fun x => (x.1, (hd.length + p.txt.length + tl.length : Int) - x.2)
structure Far (hd tl : List Int) (f3 f4 : Option (Bool × Int)) : Prop where
  l3 : ∀ x, f3 = some x → x.2 ≤ hd.length
  l4 : ∀ x, f4 = some x → x.2 + 1 < tl.length
structure Shf (h z z' t : Int) (f g : MK → Int) : Prop where
  s : ∀ a x, g ⟨0, 0, a, x + h⟩ = f ⟨0, 0, a, x⟩ + h
  lo : ∀ a x, x ≤ h → g ⟨0, 0, a, x⟩ = x
  hi : ∀ a x, x + 1 < t → g ⟨0, 0, a, h + z + t - x⟩ = h + z' + t - x
theorem fIns_eq (s e : Int) (bf : Bool) (m : MK) : fIns s e bf m = if m.pos > s ∨ (m.pos = s ∧ (bf || m.adv) = true) then m.pos + e - s else m.pos := by
  simp [fIns, iCmp]
theorem fDel_eq (s e : Int) (m : MK) : fDel s e m = if m.pos > e then m.pos - (e - s) else if m.pos > s then s else m.pos := by
  simp [fDel, iCmp]
theorem fRep_eq (s e k : Int) (m : MK) : fRep s e k m = if m.pos ≥ e then m.pos + k - (e - s) else if m.pos > s then s else m.pos := by
  simp [fRep, iCmp]
theorem Shf.ins {h z t s e : Int} {bf : Bool} (h1 : 1 ≤ s) (h2 : s ≤ z + 1) : Shf h z (z + (e - s)) t (fIns s e bf) (fIns (s + h) (e + h) bf) where
  s := fun a x => by
    rw [fIns_eq, fIns_eq]
    cases bf || a <;> simp <;> split <;> (try split) <;> lia
  lo := fun a x hx => by rw [fIns_eq]; rw [if_neg (by simp; lia)]
  hi := fun a x hx => by rw [fIns_eq]; rw [if_pos (by simp; lia)]; simp; lia
theorem Shf.del {h z t s e : Int} (h1 : 1 ≤ s) (h3 : s ≤ e) (h2 : e ≤ z + 1) : Shf h z (z - (e - s)) t (fDel s e) (fDel (s + h) (e + h)) where
  s := fun a x => by
    rw [fDel_eq, fDel_eq]
    simp only []
    split <;> split <;> (try split) <;> (try split) <;> lia
  lo := fun a x hx => by rw [fDel_eq]; rw [if_neg (by simp; lia), if_neg (by simp; lia)]
  hi := fun a x hx => by rw [fDel_eq]; rw [if_pos (by simp; lia)]; simp; lia
theorem Shf.rep {h z t s e k : Int} (h1 : 1 ≤ s) (h3 : s ≤ e) (h2 : e ≤ z + 1) : Shf h z (z - (e - s) + k) t (fRep s e k) (fRep (s + h) (e + h) k) where
  s := fun a x => by
    rw [fRep_eq, fRep_eq]
    simp only []
    split <;> split <;> (try split) <;> (try split) <;> lia
  lo := fun a x hx => by rw [fRep_eq]; rw [if_neg (by simp; lia), if_neg (by simp; lia)]
  hi := fun a x hx => by rw [fRep_eq]; rw [if_pos (by simp; lia)]; simp; lia
section
variable {hd tl : List Int} {f3 f4 : Option (Bool × Int)} {p q : PB}
theorem RelB.obs' (r : RelB hd tl f3 f4 p q) (F : Far hd tl f3 f4) {f g : MK → Int} {z' : Int} (sh : Shf hd.length p.txt.length z' tl.length f g) :
    (∀ k, k < 3 → mvO g q.obs k = (mvO f p.obs k).map fun x => (x.1, x.2 + (hd.length : Int))) ∧ mvO g q.obs 3 = f3 ∧ mvO g q.obs 4 = f4.map fun x => (x.1, (hd.length + z' + tl.length : Int) - x.2) := by
  refine ⟨fun k hk => ?_, ?_, ?_⟩
  · unfold mvO
    rw [r.obs k hk]
    cases p.obs k with
    | none => rfl
    | some x => show some (x.1, g ⟨0, 0, x.1, x.2 + hd.length⟩) = some (x.1, f ⟨0, 0, x.1, x.2⟩ + hd.length); rw [sh.s]
  · unfold mvO
    rw [r.o3]
    cases e : f3 with
    | none => rfl
    | some x => show some (x.1, g ⟨0, 0, x.1, x.2⟩) = some x; rw [sh.lo _ _ (F.l3 x e)]
  · unfold mvO
    rw [r.o4]
    cases e : f4 with
    | none => rfl
    | some x => show some (x.1, g ⟨0, 0, x.1, _⟩) = some (x.1, _); rw [sh.hi _ _ (F.l4 x e)]
variable {S Q : List Int}
theorem tx_take (e : Q = hd ++ S ++ tl) {s : Int} (h1 : 1 ≤ s) (h2 : s ≤ S.length + 1) : Q.take (s + hd.length - 1).toNat = hd ++ S.take (s - 1).toNat := by
  rw [tn_sh h1, e, List.append_assoc, List.take_length_add_append, List.take_append_of_le_length (tnZ h2)]
theorem tx_drop (e : Q = hd ++ S ++ tl) {s : Int} (h1 : 1 ≤ s) (h2 : s ≤ S.length + 1) : Q.drop (s + hd.length - 1).toNat = S.drop (s - 1).toNat ++ tl := by
  rw [tn_sh h1, e, List.append_assoc, ← List.drop_drop, List.drop_left, List.drop_append_of_le_length (tnZ h2)]
theorem out_txt (e : q.txt = hd ++ p.txt ++ tl) {s u : Int} (h1 : 1 ≤ s) (h2 : s ≤ u) (h3 : u ≤ p.txt.length + 1) : (outP q (s + hd.length) (u + hd.length)).txt = hd ++ (outP p s u).txt ++ tl := by
  show q.txt.take _ ++ q.txt.drop _ = hd ++ (_ ++ _) ++ tl
  rw [tx_take e h1 (Int.le_trans h2 h3), tx_drop e (Int.le_trans h1 h2) h3]
  simp only [List.append_assoc]
theorem in_txt (e : q.txt = hd ++ p.txt ++ tl) {s : Int} {cs : List Int} (h1 : 1 ≤ s) (h3 : s ≤ p.txt.length + 1) : (inP q (s + hd.length) cs).txt = hd ++ (inP p s cs).txt ++ tl := by
  show q.txt.take _ ++ cs ++ q.txt.drop _ = hd ++ (_ ++ cs ++ _) ++ tl
  rw [tx_take e h1 h3, tx_drop e h1 h3]
  simp only [List.append_assoc]
theorem in_len {s : Int} {cs : List Int} : ((inP p s cs).txt.length : Int) = p.txt.length + cs.length := by
  show ((p.txt.take _ ++ cs ++ p.txt.drop _).length : Int) = _
  rw [tc_len]; rfl
theorem in_pt {s h : Int} {cs : List Int} (e : q.pt = p.pt + h) : (inP q (s + h) cs).pt = (inP p s cs).pt + h := by
  show (if s + h < q.pt then q.pt + cs.length else q.pt) = (if s < p.pt then p.pt + cs.length else p.pt) + h
  rw [e]; exact ite_sh (Int.add_right_comm _ _ _) rfl
theorem in_p1 {s : Int} {cs : List Int} (h : 1 ≤ p.pt) : 1 ≤ (inP p s cs).pt := ite_ge (fun _ => ge_add h) fun _ => h
theorem in_p2 {s : Int} {cs : List Int} (h : p.pt ≤ p.txt.length + 1) : (inP p s cs).pt ≤ (inP p s cs).txt.length + 1 := by
  rw [in_len]; exact ite_le (fun _ => xs4 h) fun _ => xs5 h
theorem out_pt {s u h : Int} (e : q.pt = p.pt + h) : (outP q (s + h) (u + h)).pt = (outP p s u).pt + h := by
  show (if s + h < q.pt then max (s + h) (q.pt - (u + h - (s + h))) else q.pt) = (if s < p.pt then max s (p.pt - (u - s)) else p.pt) + h
  rw [e, Int.add_sub_add_right, xs6, max_sh]; exact ite_sh rfl rfl
theorem out_p1 {s u : Int} (h1 : 1 ≤ s) (h : 1 ≤ p.pt) : 1 ≤ (outP p s u).pt := ite_ge (fun _ => Int.le_trans h1 (Int.le_max_left _ _)) fun _ => h
theorem out_p2 {s u : Int} (h1 : 1 ≤ s) (h2 : s ≤ u) (h3 : u ≤ p.txt.length + 1) (h : p.pt ≤ p.txt.length + 1) : (outP p s u).pt ≤ (outP p s u).txt.length + 1 := by
  rw [outP_len h1 h2 h3]; exact ite_le (fun _ => Int.max_le.mpr ⟨xs7 h3, xs6 _ 1 _ ▸ Int.sub_le_sub_right h _⟩) fun c => Int.le_trans (Int.not_lt.mp c) (xs7 h3)
theorem RelB.put (r : RelB hd tl f3 f4 p q) (F : Far hd tl f3 f4) {s : Int} {cs : List Int} {bf pb : Bool} (h1 : 1 ≤ s) (h2 : s ≤ p.txt.length + 1) : RelB hd tl f3 f4 (putP p s cs bf pb) (putP q (s + hd.length) cs bf pb) := by
  unfold putP
  split
  · exact r
  · have sh := r.obs' F (Shf.ins (h := hd.length) (z := p.txt.length) (t := tl.length) (e := s + cs.length) (bf := bf) h1 h2)
    rw [Int.add_right_comm s] at sh
    refine ⟨in_txt r.txt h1 h2, ?_, r.b1, ?_, r.bq, ?_, ?_, ?_, sh.1, sh.2.1, ?_⟩
    · cases pb
      · exact in_pt r.pt
      · exact Int.add_right_comm _ _ _
    · show p.zv + cs.length = _; rw [in_len, r.z1, Int.add_right_comm]
    · show q.zv + cs.length = _; rw [in_len, r.zq, xs8]
    · cases pb
      · exact in_p1 r.p1
      · exact ge_add h1
    · cases pb
      · exact in_p2 r.p2
      · show s + cs.length ≤ ((inP p s cs).txt.length : Int) + 1
        rw [in_len]; exact xs4 h2
    · refine sh.2.2.trans (congrArg (Option.map · f4) (funext fun x => ?_))
      show (x.1, _) = (x.1, (hd.length + ((inP p s cs).txt.length : Int) + tl.length - x.2))
      rw [in_len, Int.add_comm s, Int.add_sub_cancel]
theorem RelB.del (r : RelB hd tl f3 f4 p q) (F : Far hd tl f3 f4) {s u : Int} (h1 : 1 ≤ s) (h2 : s ≤ u) (h3 : u ≤ p.txt.length + 1) : RelB hd tl f3 f4 (delP p s u) (delP q (s + hd.length) (u + hd.length)) := by
  unfold delP
  by_cases q1 : s = u
  · rw [if_pos q1, if_pos (add_inj_r.mpr q1)]; exact r
  · rw [if_neg q1, if_neg (mt add_inj_r.mp q1)]
    have sh := r.obs' F (Shf.del (h := hd.length) (z := p.txt.length) (t := tl.length) h1 h2 h3)
    have ln := outP_len (p := p) h1 h2 h3
    refine ⟨out_txt r.txt h1 h2 h3, out_pt r.pt, r.b1, ?_, r.bq, ?_, out_p1 h1 r.p1, out_p2 h1 h2 h3 r.p2, sh.1, sh.2.1, ?_⟩
    · show p.zv - (u - s) = _; rw [ln, r.z1, xs6]
    · show q.zv - (u + hd.length - (s + hd.length)) = _; rw [ln, r.zq, Int.add_sub_add_right, xs6 _ (hd.length : Int), xs6 _ 1]
    · refine sh.2.2.trans (congrArg (Option.map · f4) (funext fun x => ?_))
      show (x.1, _) = (x.1, (hd.length + ((outP p s u).txt.length : Int) + tl.length - x.2))
      rw [ln]
theorem RelB.rep (r : RelB hd tl f3 f4 p q) (F : Far hd tl f3 f4) {s u : Int} {cs : List Int} (h1 : 1 ≤ s) (h2 : s ≤ u) (h3 : u ≤ p.txt.length + 1) : RelB hd tl f3 f4 (repP p s u cs) (repP q (s + hd.length) (u + hd.length) cs) := by
  by_cases q1 : s = u
  · rw [show repP p s u cs = putP p s cs false false from if_pos q1, show repP q (s + hd.length) (u + hd.length) cs = putP q (s + hd.length) cs false false from if_pos (add_inj_r.mpr q1)]; exact r.put F h1 (Int.le_trans h2 h3)
  · have q2 : ¬ s + (hd.length : Int) = u + hd.length := mt add_inj_r.mp q1
    by_cases q3 : cs = []
    · rw [show repP p s u cs = delP p s u from (if_neg q1).trans (if_pos q3), show repP q (s + hd.length) (u + hd.length) cs = delP q (s + hd.length) (u + hd.length) from (if_neg q2).trans (if_pos q3)]; exact r.del F h1 h2 h3
    · rw [show repP p s u cs = { inP (outP p s u) s cs with pt := if u ≤ p.pt then p.pt + cs.length - (u - s) else (inP (outP p s u) s cs).pt, obs := mvO (fRep s u cs.length) p.obs } from (if_neg q1).trans (if_neg q3),
        show repP q (s + hd.length) (u + hd.length) cs = { inP (outP q (s + hd.length) (u + hd.length)) (s + hd.length) cs with pt := if u + hd.length ≤ q.pt then q.pt + cs.length - (u + hd.length - (s + hd.length)) else (inP (outP q (s + hd.length) (u + hd.length)) (s + hd.length) cs).pt, obs := mvO (fRep (s + hd.length) (u + hd.length) cs.length) q.obs } from (if_neg q2).trans (if_neg q3)]
      have sh := r.obs' F (Shf.rep (h := hd.length) (z := p.txt.length) (t := tl.length) (k := cs.length) h1 h2 h3)
      have lo := outP_len (p := p) h1 h2 h3
      have ln : ((inP (outP p s u) s cs).txt.length : Int) = p.txt.length - (u - s) + cs.length := by rw [in_len, lo]
      have sl : s ≤ ((outP p s u).txt.length : Int) + 1 := by rw [lo]; exact xs7 h3
      refine ⟨in_txt (out_txt r.txt h1 h2 h3) h1 sl, ?_, r.b1, ?_, r.bq, ?_, ?_, ?_, sh.1, sh.2.1, ?_⟩
      · show (if u + hd.length ≤ q.pt then q.pt + cs.length - (u + hd.length - (s + hd.length)) else (inP (outP q (s + hd.length) (u + hd.length)) (s + hd.length) cs).pt) = (if u ≤ p.pt then p.pt + cs.length - (u - s) else (inP (outP p s u) s cs).pt) + _
        rw [in_pt (out_pt r.pt), r.pt]
        exact ite_sh' (by rw [Int.add_sub_add_right, Int.add_right_comm, xs6]) rfl
      · show p.zv - (u - s) + cs.length = _; rw [ln, r.z1, xs6, Int.add_right_comm]
      · show q.zv - (u + hd.length - (s + hd.length)) + cs.length = _; rw [ln, r.zq, Int.add_sub_add_right, xs6 _ (hd.length : Int), xs6 _ 1, xs8]
      · exact ite_ge (fun c => by show 1 ≤ p.pt + cs.length - (u - s); lia) fun _ => in_p1 (out_p1 h1 r.p1)
      · refine ite_le (fun c => ?_) fun _ => in_p2 (out_p2 h1 h2 h3 r.p2)
        show p.pt + cs.length - (u - s) ≤ ((inP (outP p s u) s cs).txt.length : Int) + 1
        rw [ln, xs6]; exact xs4 (xs6 _ 1 _ ▸ Int.sub_le_sub_right r.p2 _)
      · refine sh.2.2.trans (congrArg (Option.map · f4) (funext fun x => ?_))
        show (x.1, _) = (x.1, (hd.length + ((inP (outP p s u) s cs).txt.length : Int) + tl.length - x.2))
        rw [ln]
theorem RelB.bs (r : RelB hd tl f3 f4 p q) : q.begv = p.begv + hd.length := by rw [r.bq, r.b1, Int.add_comm]
theorem RelB.zs (r : RelB hd tl f3 f4 p q) : q.zv = p.zv + hd.length := by rw [r.zq, r.z1]
theorem RelB.cl (r : RelB hd tl f3 f4 p q) {x : Int} : min (max (x + (hd.length : Int)) q.begv) q.zv = min (max x p.begv) p.zv + hd.length := by rw [r.bs, r.zs, cl_sh]
theorem RelB.cl1 (r : RelB hd tl f3 f4 p q) {x : Int} : 1 ≤ min (max x p.begv) p.zv := Int.le_min.mpr ⟨Int.le_trans (Int.le_of_eq r.b1.symm) (Int.le_max_right _ _), by rw [r.z1]; exact Int.le_add_of_nonneg_left (Int.natCast_nonneg _)⟩
theorem RelB.cl2 (r : RelB hd tl f3 f4 p q) {x : Int} : min (max x p.begv) p.zv ≤ p.txt.length + 1 := r.z1 ▸ Int.min_le_right _ _
end
section
variable {hd tl S Q : List Int} {f3 f4 : Option (Bool × Int)} {p q : PB}
theorem subN_shift (a b : Int) : ∀ (k i : Nat) (S : List Int), i + k ≤ S.length → subN a b k (hd.length + i) (hd ++ S ++ tl) = hd ++ subN a b k i S ++ tl
  | 0, _, _, _ => rfl
  | k + 1, i, S, h => by
    have ih := subN_shift a b k i S (by exact Nat.le_of_lt (by assumption))
    have ln := subN_len a b k i S
    show (if (subN a b k (hd.length + i) (hd ++ S ++ tl))[hd.length + i + k]? = some a ∧ a ≠ b then (subN a b k (hd.length + i) (hd ++ S ++ tl)).set (hd.length + i + k) b else subN a b k (hd.length + i) (hd ++ S ++ tl)) = hd ++ (if (subN a b k i S)[i + k]? = some a ∧ a ≠ b then (subN a b k i S).set (i + k) b else subN a b k i S) ++ tl
    rw [ih]
    have e1 : hd.length + i + k = hd.length + (i + k) := by exact Nat.add_assoc _ _ _
    have g : (hd ++ subN a b k i S ++ tl)[hd.length + i + k]? = (subN a b k i S)[i + k]? := by
      rw [e1, List.append_assoc, List.getElem?_append_right (by exact Nat.le_add_right _ _), Nat.add_sub_cancel_left, List.getElem?_append_left (by lia)]
    rw [g]
    split
    · rw [e1, List.append_assoc, List.set_append_right _ _ (by lia), Nat.add_sub_cancel_left, List.set_append_left _ _ (by lia), List.append_assoc]
    · rfl
theorem RelB.sub (r : RelB hd tl f3 f4 p q) {s u a b : Int} (h1 : 1 ≤ s) (h2 : s ≤ u) (h3 : u ≤ p.txt.length + 1) : RelB hd tl f3 f4 (subP p s u a b) (subP q (s + hd.length) (u + hd.length) a b) := by
  have ln : (subP p s u a b).txt.length = p.txt.length := subN_len _ _ _ _ _
  refine ⟨?_, r.pt, r.b1, by rw [ln]; exact r.z1, r.bq, by rw [ln]; exact r.zq, r.p1, by rw [ln]; exact r.p2, r.obs, r.o3, by rw [ln]; exact r.o4⟩
  show subN a b _ _ q.txt = hd ++ subN a b _ _ p.txt ++ tl
  rw [Int.add_sub_add_right, tn_sh h1, r.txt, subN_shift _ _ _ _ _ (tnK h1 h2 h3)]
theorem sl_shift (e : Q = hd ++ S ++ tl) {a b : Int} (h1 : 1 ≤ a) (h2 : a ≤ b) (h3 : b ≤ S.length + 1) : sl Q (a + hd.length) (b + hd.length) = sl S a b := by
  unfold sl
  rw [tx_drop e h1 (Int.le_trans h2 h3), tn_sh h1, tn_sh (Int.le_trans h1 h2), Nat.add_sub_add_left, List.take_append_of_le_length (by rw [List.length_drop]; exact Nat.sub_le_sub_right (tnZ h3) _)]
theorem RelB.tr (r : RelB hd tl f3 f4 p q) (F : Far hd tl f3 f4) {a b c d : Int} (h1 : 1 ≤ a) (h2 : a ≤ b) (h3 : b ≤ c) (h4 : c ≤ d) (h5 : d ≤ p.txt.length + 1) : RelB hd tl f3 f4 (trQ p a b c d) (trQ q (a + hd.length) (b + hd.length) (c + hd.length) (d + hd.length)) := by
  unfold trQ
  rw [sl_shift r.txt h1 h2 (Int.le_trans h3 (Int.le_trans h4 h5)), sl_shift r.txt (Int.le_trans h1 h2) h3 (Int.le_trans h4 h5), sl_shift r.txt (Int.le_trans h1 (Int.le_trans h2 h3)) h4 h5]
  split
  · exact r
  · exact r.rep F h1 (Int.le_trans h2 (Int.le_trans h3 h4)) h5
theorem trOrd_shift (s1 e1 s2 e2 h : Int) : trOrd (s1 + h) (e1 + h) (s2 + h) (e2 + h) = ((trOrd s1 e1 s2 e2).1 + h, (trOrd s1 e1 s2 e2).2.1 + h, (trOrd s1 e1 s2 e2).2.2.1 + h, (trOrd s1 e1 s2 e2).2.2.2 + h) := by
  unfold trOrd
  rw [min_sh, min_sh, max_sh, max_sh]
  by_cases c : min s2 e2 < min s1 e1
  · rw [if_pos c, if_pos (Int.add_lt_add_right c h)]
  · rw [if_neg c, if_neg (mt Int.lt_of_add_lt_add_right c)]
theorem RelB.goto (r : RelB hd tl f3 f4 p q) {x : Int} : RelB hd tl f3 f4 (gotoP p x) (gotoP q (x + hd.length)) :=
  ⟨r.txt, r.cl, r.b1, r.z1, r.bq, r.zq, r.cl1, r.cl2, r.obs, r.o3, r.o4⟩
theorem RelB.mark (r : RelB hd tl f3 f4 p q) : RelB hd tl f3 f4 (markP p p.pt) (markP q q.pt) := by
  refine ⟨r.txt, r.pt, r.b1, r.z1, r.bq, r.zq, r.p1, r.p2, fun k hk => ?_, r.o3, r.o4⟩
  show (if k = 0 then some (((q.obs 0).map (·.1)).getD false, clampP q.txt q.pt) else q.obs k) = (if k = 0 then some (((p.obs 0).map (·.1)).getD false, clampP p.txt p.pt) else p.obs k).map _
  by_cases e : k = 0
  · rw [if_pos e, if_pos e, r.obs 0 (by decide), Option.map_map]
    show some (_, _) = some (_, _)
    have r1 := r.p1
    have r2 := r.p2
    rw [clampP_id (txt := q.txt) (by rw [r.pt]; lia) (by rw [r.txt, List.length_append, List.length_append, r.pt]; lia), clampP_id r.p1 r.p2, r.pt]; rfl
  · rw [if_neg e, if_neg e, r.obs k hk]
theorem RelB.swap (r : RelB hd tl f3 f4 p q) : RelB hd tl f3 f4 (swapP p) (swapP q) := by
  have m := r.mark
  have o := r.obs 0 (by decide)
  unfold swapP
  rw [o]
  cases p.obs 0 with
  | none => exact r
  | some x => exact ⟨m.txt, r.cl, m.b1, m.z1, m.bq, m.zq, r.cl1, r.cl2, m.obs, m.o3, m.o4⟩
theorem RelB.yank (r : RelB hd tl f3 f4 p q) (F : Far hd tl f3 f4) {cs : List Int} {sw : Bool} : RelB hd tl f3 f4 (yankP p cs sw) (yankP q cs sw) := by
  have m : RelB hd tl f3 f4 (putP (markP p p.pt) p.pt cs false true) (putP (markP q q.pt) q.pt cs false true) := by
    have := r.mark.put F (s := p.pt) (cs := cs) (bf := false) (pb := true) r.p1 r.p2
    rwa [← r.pt] at this
  unfold yankP
  cases sw
  · exact m
  · exact m.swap
end
structure RelW (hd tl : List Int) (f3 f4 : Option (Bool × Int)) (w W : PW) : Prop where
  b : RelB hd tl f3 f4 w.b W.b
  k : W.k = w.k
theorem RelB.inR {hd tl : List Int} {f3 f4 : Option (Bool × Int)} {p q : PB} (r : RelB hd tl f3 f4 p q) {x y : Int} : Nw.inR q (x + hd.length) (y + hd.length) ↔ Nw.inR p x y := by
  show q.begv ≤ _ ∧ _ ≤ q.zv ↔ p.begv ≤ _ ∧ _ ≤ p.zv
  rw [min_sh, max_sh, r.bs, r.zs]; exact and_congr (Int.add_le_add_iff_right _) (Int.add_le_add_iff_right _)
theorem trOrd_in {p : PB} {a b c d : Int} (h1 : inR p a b) (h2 : inR p c d) (h3 : ¬ (trOrd a b c d).2.2.1 < (trOrd a b c d).2.1) : p.begv ≤ (trOrd a b c d).1 ∧ (trOrd a b c d).1 ≤ (trOrd a b c d).2.1 ∧ (trOrd a b c d).2.1 ≤ (trOrd a b c d).2.2.1 ∧ (trOrd a b c d).2.2.1 ≤ (trOrd a b c d).2.2.2 ∧ (trOrd a b c d).2.2.2 ≤ p.zv := by
  unfold trOrd at h3 ⊢
  split at h3 <;> rename_i q
  · rw [if_pos q]; exact ⟨h2.1, min_max _ _, Int.not_lt.mp h3, min_max _ _, h1.2⟩
  · rw [if_neg q]; exact ⟨h1.1, min_max _ _, Int.not_lt.mp h3, min_max _ _, h2.2⟩
theorem cmd_rel {hd tl : List Int} {f3 f4 : Option (Bool × Int)} {w W : PW} (r : RelW hd tl f3 f4 w W) (F : Far hd tl f3 f4) {way x1 x2 x3 x4 : Int} {cs : List Int} {so : Bool} :
    (cmdP W way (x1 + hd.length) (x2 + hd.length) (x3 + hd.length) (x4 + hd.length) cs so).1 = (cmdP w way x1 x2 x3 x4 cs so).1 ∧ RelW hd tl f3 f4 (cmdP w way x1 x2 x3 x4 cs so).2 (cmdP W way (x1 + hd.length) (x2 + hd.length) (x3 + hd.length) (x4 + hd.length) cs so).2 := by
  have rb := r.b
  have b1 := rb.b1
  have z1 := rb.z1
  have m12 : min (x1 + (hd.length : Int)) (x2 + hd.length) = min x1 x2 + hd.length := min_sh _ _ _
  have M12 : max (x1 + (hd.length : Int)) (x2 + hd.length) = max x1 x2 + hd.length := max_sh _ _ _
  have lim : ∀ {x y : Int}, inR w.b x y → 1 ≤ min x y ∧ min x y ≤ max x y ∧ max x y ≤ w.b.txt.length + 1 := fun {x y} h => ⟨b1 ▸ h.1, min_max _ _, z1 ▸ h.2⟩
  by_cases e0 : way = 0
  · subst e0
    by_cases h : inR w.b x1 x1
    · rw [cmd0 h, cmd0 (rb.inR.mpr h)]
      have := lim h
      exact ⟨rfl, rb.put F (Int.le_trans this.1 (Int.min_le_left _ _)) (Int.le_trans (Int.le_max_left _ _) this.2.2), r.k⟩
    · rw [cmd0' h, cmd0' (mt rb.inR.mp h)]; exact ⟨rfl, r⟩
  by_cases e1 : way = 1
  · subst e1
    by_cases h : inR w.b x1 x2
    · rw [cmd1 h, cmd1 (rb.inR.mpr h), m12, M12]
      have := lim h
      exact ⟨rfl, rb.del F this.1 this.2.1 this.2.2, r.k⟩
    · rw [cmd1' h, cmd1' (mt rb.inR.mp h)]; exact ⟨rfl, r⟩
  by_cases e2 : way = 2
  · subst e2
    by_cases h : inR w.b x1 x2
    · rw [cmd2 h, cmd2 (rb.inR.mpr h), m12, M12]
      have := lim h
      exact ⟨rfl, rb.rep F this.1 this.2.1 this.2.2, r.k⟩
    · rw [cmd2' h, cmd2' (mt rb.inR.mp h)]; exact ⟨rfl, r⟩
  by_cases e3 : way = 3
  · subst e3
    by_cases h : inR w.b x1 x2
    · rw [cmd3 h, cmd3 (rb.inR.mpr h), m12, M12]
      have := lim h
      exact ⟨rfl, rb.sub this.1 this.2.1 this.2.2, r.k⟩
    · rw [cmd3' h, cmd3' (mt rb.inR.mp h)]; exact ⟨rfl, r⟩
  by_cases e4 : way = 4
  · subst e4
    by_cases h : inR w.b x1 x2 ∧ inR w.b x3 x4
    · have h' : inR W.b (x1 + hd.length) (x2 + hd.length) ∧ inR W.b (x3 + hd.length) (x4 + hd.length) := ⟨rb.inR.mpr h.1, rb.inR.mpr h.2⟩
      by_cases g : (trOrd x1 x2 x3 x4).2.2.1 < (trOrd x1 x2 x3 x4).2.1
      · rw [cmd4e h g, cmd4e h' (by rw [trOrd_shift]; exact Int.add_lt_add_right g _)]; exact ⟨rfl, r⟩
      · rw [cmd4 h g, cmd4 h' (by rw [trOrd_shift]; exact mt Int.lt_of_add_lt_add_right g), trOrd_shift]
        have := trOrd_in h.1 h.2 g
        exact ⟨rfl, rb.tr F (b1 ▸ this.1) this.2.1 this.2.2.1 this.2.2.2.1 (z1 ▸ this.2.2.2.2), r.k⟩
    · rw [cmd4' h, cmd4' (fun z => h ⟨rb.inR.mp z.1, rb.inR.mp z.2⟩)]; exact ⟨rfl, r⟩
  by_cases e5 : way = 5
  · subst e5
    by_cases h : inR w.b x1 x2
    · rw [cmd5 h, cmd5 (rb.inR.mpr h), m12, M12]
      have l := lim h
      refine ⟨rfl, rb.del F l.1 l.2.1 l.2.2, ?_⟩
      show (if (decide (min x1 x2 + (hd.length : Int) < max x1 x2 + hd.length) || so) = true then _ else W.k) = _
      rw [sl_shift rb.txt l.1 l.2.1 l.2.2, r.k, decide_eq_decide.mpr (show min x1 x2 + (hd.length : Int) < max x1 x2 + hd.length ↔ min x1 x2 < max x1 x2 from Int.add_lt_add_iff_right _), decide_eq_decide.mpr (show x2 + (hd.length : Int) < x1 + hd.length ↔ x2 < x1 from Int.add_lt_add_iff_right _)]
    · rw [cmd5' h, cmd5' (mt rb.inR.mp h)]; exact ⟨rfl, r⟩
  by_cases e6 : way = 6
  · subst e6
    by_cases h : inR w.b x1 x2
    · rw [cmd6 h, cmd6 (rb.inR.mpr h), m12, M12]
      have l := lim h
      refine ⟨rfl, rb, ?_⟩
      show saveP _ W.k _ _ = _
      rw [sl_shift rb.txt l.1 l.2.1 l.2.2, r.k, decide_eq_decide.mpr (show x2 + (hd.length : Int) < x1 + hd.length ↔ x2 < x1 from Int.add_lt_add_iff_right _)]
    · rw [cmd6' h, cmd6' (mt rb.inR.mp h)]; exact ⟨rfl, r⟩
  by_cases e7 : way = 7
  · subst e7
    cases hk : w.k with
    | nil => rw [cmd7e hk, cmd7e (r.k.trans hk)]; exact ⟨rfl, r⟩
    | cons c t => rw [cmd7b hk, cmd7b (r.k.trans hk)]; exact ⟨rfl, rb.yank F, r.k⟩
  · rw [cmd8 e0 e1 e2 e3 e4 e5 e6 e7, cmd8 e0 e1 e2 e3 e4 e5 e6 e7]
    have g := rb.goto (x := x1)
    have := g.put F (s := (gotoP w.b x1).pt) (cs := cs.tail) (bf := false) (pb := true) g.p1 g.p2
    rw [← g.pt] at this
    exact ⟨rfl, this, r.k⟩
theorem part_tr {A l l' B : HL} {H H' : AH} (h : Has H (A ++ (l ++ B))) (nd : (ks (A ++ (l ++ B))).Nodup) (nl : (ks l').Nodup) (T : Tr l H l' H') :
    Tr (A ++ (l ++ B)) H (A ++ (l' ++ B)) H' ∧ (ks (A ++ (l' ++ B))).Nodup := by
  have pm : ∀ m : HL, (m ++ (A ++ B)).Perm (A ++ (m ++ B)) := fun m => by
    rw [← List.append_assoc, ← List.append_assoc]
    exact List.perm_append_comm.append_right _
  have hr : Has H (A ++ B) := h.of fun p hp => (List.mem_append.mp hp).elim (fun q => List.mem_append_left _ q) fun q => List.mem_append_right _ (List.mem_append_right _ q)
  have nd' := ((pm l).map (·.1)).nodup_iff.mpr nd
  have nd2 : (ks l ++ ks (A ++ B)).Nodup := by rw [← ks_app]; exact nd'
  have n := List.nodup_append.mp nd2
  have d : ∀ a ∈ ks (A ++ B), a ∉ ks l := fun a ha q => n.2.2 a q a ha rfl
  refine ⟨((T.frame hr d).perm (pm l')).permL (pm l), ((pm l').map (·.1)).nodup_iff.mp (T.nd hr d n.2.1 nl)⟩
noncomputable def AL (D : DD) (w W : WD) (fx : HL) : HL := dents D ++ (went w ++ (went W ++ fx))
structure LS (l0 : HL) (K : AH) (fx : HL) (D : DD) (w W : WD) (H : AH) : Prop where
  tr : Tr l0 K (AL D w W fx) H
  nd : (ks (AL D w W fx)).Nodup
section
variable {l0 fx : HL} {K H H' : AH} {D D' : DD} {w w' W W' : WD}
theorem LS.more (x : LS l0 K fx D w W H) (s : Sub H H') : LS l0 K fx D w W H' := ⟨x.tr.more s, x.nd⟩
theorem DD.ok.nd' {D : DD} (o : D.ok) : (ks (dents D)).Nodup := o.nd
theorem LS.draw (x : LS l0 K fx D w W H) (o : D'.ok) (T : Tr (dents D) H (dents D') H') : LS l0 K fx D' w W H' := by
  have := part_tr (A := []) x.tr.1 x.nd o.nd' T
  exact ⟨x.tr.trans this.1, this.2⟩
theorem LS.small (x : LS l0 K fx D w W H) (T : WStep H w H' w') : LS l0 K fx D w' W H' := by
  have := part_tr (A := dents D) x.tr.1 x.nd T.ok.nd T.tr
  exact ⟨x.tr.trans this.1, this.2⟩
theorem LS.large (x : LS l0 K fx D w W H) (T : WStep H W H' W') : LS l0 K fx D w W' H' := by
  have e : ∀ X : WD, AL D w X fx = (dents D ++ went w) ++ (went X ++ fx) := fun X => by unfold AL; rw [List.append_assoc]
  have h := x.tr.1
  have nd := x.nd
  rw [e] at h nd
  have := part_tr h nd T.ok.nd T.tr
  rw [← e, ← e] at this
  exact ⟨x.tr.trans this.1, this.2⟩
theorem LS.hD (x : LS l0 K fx D w W H) : Has H (dents D) := x.tr.1.of fun p hp => List.mem_append_left _ hp
theorem LS.hw (x : LS l0 K fx D w W H) : Has H (went w) := x.tr.1.of fun p hp => List.mem_append_right _ (List.mem_append_left _ hp)
theorem LS.hW (x : LS l0 K fx D w W H) : Has H (went W) := x.tr.1.of fun p hp => List.mem_append_right _ (List.mem_append_right _ (List.mem_append_left _ hp))
theorem LS.hf (x : LS l0 K fx D w W H) : Has H fx := x.tr.1.of fun p hp => List.mem_append_right _ (List.mem_append_right _ (List.mem_append_right _ hp))
theorem LS.keep (x : LS l0 K fx D w W H) {a : Addr} {o : AO} (h : K a = some o) (n : a ∉ ks l0) : H a = some o ∧ a ∉ ks (went w) ∧ a ∉ ks (went W) := by
  have zq := x.tr.2 a o n h; have e := zq.1; have m := zq.2
  refine ⟨e, fun q => m ?_, fun q => m ?_⟩
  · unfold AL; rw [ks_app, ks_app]; exact List.mem_append_right _ (List.mem_append_left _ q)
  · unfold AL; rw [ks_app, ks_app, ks_app]; exact List.mem_append_right _ (List.mem_append_right _ (List.mem_append_left _ q))
end
structure Lim (w : PW) (m : Nat) : Prop where
  t : w.b.txt.length + 3 ≤ m
  k : ∀ q ∈ w.k, q.length + 3 ≤ m
theorem in_le {p : PB} {s : Int} {cs : List Int} : (inP p s cs).txt.length ≤ p.txt.length + cs.length := by
  show (p.txt.take _ ++ cs ++ p.txt.drop _).length ≤ _
  rw [tc_len]; exact Nat.le_refl _
theorem put_le {p : PB} {s : Int} {cs : List Int} {bf pb : Bool} : (putP p s cs bf pb).txt.length ≤ p.txt.length + cs.length := by
  unfold putP
  split
  · exact Nat.le_add_right _ _
  · exact in_le
theorem del_le {p : PB} {s u : Int} (h : s ≤ u) : (delP p s u).txt.length ≤ p.txt.length := by
  unfold delP
  split
  · exact Nat.le_refl _
  · exact td_le (tnM h)
theorem rep_le {p : PB} {s u : Int} {cs : List Int} (h1 : 1 ≤ s) (h : s ≤ u) (h3 : u ≤ p.txt.length + 1) : ((repP p s u cs).txt.length : Int) ≤ p.txt.length - (u - s) + cs.length := by
  by_cases q1 : s = u
  · rw [show repP p s u cs = putP p s cs false false from if_pos q1]
    have := put_le (p := p) (s := s) (cs := cs) (bf := false) (pb := false)
    lia
  · by_cases q3 : cs = []
    · rw [show repP p s u cs = delP p s u from (if_neg q1).trans (if_pos q3), show delP p s u = { outP p s u with obs := mvO (fDel s u) p.obs } from if_neg q1]
      have := outP_len (p := p) h1 h h3
      show ((outP p s u).txt.length : Int) ≤ _
      lia
    · rw [show repP p s u cs = { inP (outP p s u) s cs with pt := if u ≤ p.pt then p.pt + cs.length - (u - s) else (inP (outP p s u) s cs).pt, obs := mvO (fRep s u cs.length) p.obs } from (if_neg q1).trans (if_neg q3)]
      have l1 := outP_len (p := p) h1 h h3
      have l2 := in_len (p := outP p s u) (s := s) (cs := cs)
      show ((inP (outP p s u) s cs).txt.length : Int) ≤ _
      lia
theorem save_lim {cs : List Int} {k : List (List Int)} {go ah : Bool} {t m : Nat} (h : cs.length ≤ t) (hk : ∀ q ∈ k, q.length + 3 ≤ m) (ht : t + 3 ≤ m) : ∀ q ∈ saveP cs k go ah, q.length + 3 ≤ 2 * m := by
  intro q hq
  unfold saveP at hq
  split at hq
  · cases k with
    | nil =>
      have hq : q ∈ [cs] := hq
      rw [List.mem_singleton.mp hq]; lia
    | cons x r =>
      have hx := hk x List.mem_cons_self
      have hq : q ∈ (if ah then cs ++ x else x ++ cs) :: r := hq
      rcases List.mem_cons.mp hq with rfl | hq
      · split <;> rw [List.length_append] <;> lia
      · have := hk q (List.mem_cons_of_mem _ hq); lia
  · rcases List.mem_cons.mp (List.mem_of_mem_take hq) with rfl | hq
    · lia
    · have := hk q hq; lia
theorem swap_txt {p : PB} : (swapP p).txt = p.txt := by
  unfold swapP; cases p.obs 0 <;> rfl
theorem cmd_lim {w : PW} {m : Nat} (l : Lim w m) (wb : 1 ≤ w.b.begv) (wz : w.b.zv ≤ w.b.txt.length + 1) {way x1 x2 x3 x4 : Int} {cs : List Int} {so : Bool} (hc : cs.length ≤ 3) : Lim (cmdP w way x1 x2 x3 x4 cs so).2 (2 * m) := by
  have lt := l.t
  have k2 : ∀ q ∈ w.k, q.length + 3 ≤ 2 * m := fun q hq => by have := l.k q hq; lia
  have same : Lim w (2 * m) := ⟨by lia, k2⟩
  have sv : ∀ {go ah a b}, ∀ q ∈ saveP (sl w.b.txt a b) w.k go ah, q.length + 3 ≤ 2 * m := save_lim sl_le l.k lt
  by_cases e0 : way = 0
  · subst e0
    by_cases h : inR w.b x1 x1
    · rw [cmd0 h]
      exact ⟨Nat.le_trans (Nat.add_le_add_right put_le 3) (by lia), k2⟩
    · rw [cmd0' h]; exact same
  by_cases e1 : way = 1
  · subst e1
    by_cases h : inR w.b x1 x2
    · rw [cmd1 h]
      exact ⟨Nat.le_trans (Nat.add_le_add_right (del_le (min_max _ _)) 3) (by lia), k2⟩
    · rw [cmd1' h]; exact same
  by_cases e2 : way = 2
  · subst e2
    by_cases h : inR w.b x1 x2
    · rw [cmd2 h]
      have := rep_le (p := w.b) (cs := cs) (s := min x1 x2) (u := max x1 x2) (Int.le_trans wb h.1) (min_max _ _) (Int.le_trans h.2 wz)
      refine ⟨?_, k2⟩
      show (repP w.b (min x1 x2) (max x1 x2) cs).txt.length + 3 ≤ _
      lia
    · rw [cmd2' h]; exact same
  by_cases e3 : way = 3
  · subst e3
    by_cases h : inR w.b x1 x2
    · rw [cmd3 h]
      refine ⟨?_, k2⟩
      show (subN _ _ _ _ w.b.txt).length + 3 ≤ _
      rw [subN_len]; lia
    · rw [cmd3' h]; exact same
  by_cases e4 : way = 4
  · subst e4
    by_cases h : inR w.b x1 x2 ∧ inR w.b x3 x4
    · by_cases g : (trOrd x1 x2 x3 x4).2.2.1 < (trOrd x1 x2 x3 x4).2.1
      · rw [cmd4e h g]; exact same
      · rw [cmd4 h g]
        have t := trOrd_in h.1 h.2 g
        generalize (trOrd x1 x2 x3 x4).1 = a at *
        generalize (trOrd x1 x2 x3 x4).2.1 = b at *
        generalize (trOrd x1 x2 x3 x4).2.2.1 = c at *
        generalize (trOrd x1 x2 x3 x4).2.2.2 = d at *
        refine ⟨?_, k2⟩
        show (trQ w.b a b c d).txt.length + 3 ≤ _
        unfold trQ
        split
        · lia
        · have := rep_le (p := w.b) (cs := sl w.b.txt c d ++ sl w.b.txt b c ++ sl w.b.txt a b) (s := a) (u := d) (Int.le_trans wb t.1) (Int.le_trans t.2.1 (Int.le_trans t.2.2.1 t.2.2.2.1)) (Int.le_trans t.2.2.2.2 wz)
          have k4 := Int.le_trans t.2.2.2.2 wz
          have k3 := Int.le_trans t.2.2.2.1 k4
          have g1 := Int.le_trans wb t.1
          have g2 := Int.le_trans g1 t.2.1
          have e1 := sl_len (txt := w.b.txt) g1 t.2.1 (Int.le_trans t.2.2.1 k3)
          have e2 := sl_len (txt := w.b.txt) g2 t.2.2.1 k3
          have e3 := sl_len (txt := w.b.txt) (Int.le_trans g2 t.2.2.1) t.2.2.2.1 k4
          rw [List.length_append, List.length_append] at this
          lia
    · rw [cmd4' h]; exact same
  by_cases e5 : way = 5
  · subst e5
    by_cases h : inR w.b x1 x2
    · rw [cmd5 h]
      refine ⟨Nat.le_trans (Nat.add_le_add_right (del_le (min_max _ _)) 3) (by lia), ?_⟩
      by_cases g : (decide (min x1 x2 < max x1 x2) || so) = true
      · rw [if_pos g]; exact sv
      · rw [if_neg g]; exact k2
    · rw [cmd5' h]; exact same
  by_cases e6 : way = 6
  · subst e6
    by_cases h : inR w.b x1 x2
    · rw [cmd6 h]; exact ⟨by show w.b.txt.length + 3 ≤ _; lia, sv⟩
    · rw [cmd6' h]; exact same
  by_cases e7 : way = 7
  · subst e7
    cases hk : w.k with
    | nil => rw [cmd7e hk]; exact same
    | cons c t =>
      rw [cmd7b hk]
      have hc := l.k c (by rw [hk]; exact List.mem_cons_self)
      refine ⟨?_, k2⟩
      show (yankP w.b c so).txt.length + 3 ≤ _
      have := put_le (p := markP w.b w.b.pt) (s := w.b.pt) (cs := c) (bf := false) (pb := true)
      have e : (markP w.b w.b.pt).txt.length = w.b.txt.length := rfl
      unfold yankP
      split
      · rw [swap_txt]; lia
      · lia
  · rw [cmd8 e0 e1 e2 e3 e4 e5 e6 e7]
    refine ⟨Nat.le_trans (Nat.add_le_add_right put_le 3) ?_, k2⟩
    show w.b.txt.length + cs.tail.length + 3 ≤ _
    rw [List.length_tail]; lia
structure LC where
  s : Addr
  d : Addr
  b : Addr
  k : Addr
  r : Addr
  ml : Addr
  a1 : Addr
  a2 : Addr
  B : Addr
  K : Addr
  R : Addr
  ML : Addr
  A1 : Addr
  A2 : Addr
  hl : Addr
  tl : Addr
  il : Addr
  sp : Addr
  fl : Addr
  f0 : Addr
  f1 : Addr
  sc : Addr
  hd : List Int
  ts : List Int
  c0 : Int
  c1 : Int
  f3 : Option (Bool × Int)
  f4 : Option (Bool × Int)
noncomputable def fixL (C : LC) : HL := [(C.ml, .list [.ref C.a1, .ref C.a2]), (C.ML, .list [.ref C.A1, .ref C.A2]), (C.hl, .list (intV C.hd)), (C.tl, .list (intV C.ts)), (C.fl, .list [.ref C.f0, .ref C.f1]), (C.sc, .list [.int C.c0 0, .int C.c1 0])]
noncomputable def lawM (C : LC) (p q r t : Option Value) : Mem := [some (.ref C.s), some (.ref C.d), some (.ref C.hl), some (.ref C.tl), some (.ref C.il), some (.int C.hd.length 0), some (.ref C.sp), some (.ref C.b), some (.ref C.ml), some (.ref C.k), some (.ref C.r), some (.ref C.B), some (.ref C.ML), some (.ref C.K), some (.ref C.R), some (.ref C.fl), some (.ref C.sc), p, q, r, t]
structure CF (C : LC) : Prop where
  far : Far C.hd C.ts C.f3 C.f4
  lh : C.hd.length ≤ 3
  lt : C.ts.length ≤ 3
  h3 : C.hd ≠ [] → C.f3 = some (true, C.c0)
  h4 : C.ts ≠ [] → C.f4 = some (false, C.c1)
structure LJ (C : LC) (i : Nat) (D : DD) (w W : WD) : Prop where
  nd : (ks (AL D w W (fixL C))).Nodup
  dok : D.ok
  dd : D.d = C.d
  wok : w.ok
  Wok : W.ok
  eb : w.b = C.b
  ek : w.K.r = C.k
  er : w.R.m = C.r
  EB : W.b = C.B
  EK : W.K.r = C.K
  ER : W.R.m = C.R
  n1 : (1, C.a1, false) ∈ w.B.ids
  n2 : (2, C.a2, true) ∈ w.B.ids
  N1 : (1, C.A1, false) ∈ W.B.ids
  N2 : (2, C.A2, true) ∈ W.B.ids
  N3 : C.hd ≠ [] → (3, C.f0, true) ∈ W.B.ids
  N4 : C.ts ≠ [] → (4, C.f1, false) ∈ W.B.ids
  rel : RelW C.hd C.ts C.f3 C.f4 w.p W.p
  lim : Lim w.p (16 * 2 ^ i)
  lw : w.B.mks.length ≤ 2 + 3 * i
  lW : W.B.mks.length ≤ 4 + 3 * i
theorem id_mk {B : BD} {k : Nat} {a : Addr} {v : Bool} {b : Addr} (o : B.ok b) (h : ((k : Int), a, v) ∈ B.ids) : ∃ m, m ∈ B.mks ∧ m.a = a ∧ B.p.obs k = some (v, m.pos) := by
  refine el1_1 (List.mem_map.mp h) fun m hm e => ?_
  have zq := Prod.mk.inj e; have e1 := zq.1; have e2 := zq.2
  have zq := Prod.mk.inj e2; have e3 := zq.1; have e4 := zq.2
  exact ⟨m, hm, e3, e4 ▸ obs_of_mem o hm e1⟩
theorem RelB.wf1 {hd tl : List Int} {f3 f4 : Option (Bool × Int)} {p q : PB} (r : RelB hd tl f3 f4 p q) : p.wf := by
  have a := r.b1
  have b := r.z1
  have c := r.p1
  have d := r.p2
  exact ⟨by lia, by lia, by lia, by lia⟩
theorem RelB.len {hd tl : List Int} {f3 f4 : Option (Bool × Int)} {p q : PB} (r : RelB hd tl f3 f4 p q) : q.txt.length = hd.length + p.txt.length + tl.length := by
  rw [r.txt, List.length_append, List.length_append]
theorem RelB.wf2 {hd tl : List Int} {f3 f4 : Option (Bool × Int)} {p q : PB} (r : RelB hd tl f3 f4 p q) : q.wf := by
  have a := r.bq
  have b := r.zq
  have c := r.p1
  have d := r.p2
  have e := r.pt
  have f := r.len
  exact ⟨by lia, by lia, by lia, by lia⟩
theorem fit1 {C : LC} (cf : CF C) {i : Nat} (hi : i ≤ 8) {w W : PW} (r : RelW C.hd C.ts C.f3 C.f4 w W) (l : Lim w (16 * 2 ^ i)) : Fit w ∧ Fit W := by
  have p : (2 : Nat) ^ i ≤ 2 ^ 8 := Nat.pow_le_pow_right (by decide) hi
  have t := l.t
  have z := r.b.len
  have a := cf.lh
  have b := cf.lt
  refine ⟨⟨r.b.wf1, by lia, fun q hq => ?_⟩, ⟨r.b.wf2, by lia, fun q hq => ?_⟩⟩
  · have := l.k q hq; lia
  · rw [r.k] at hq
    have := l.k q hq; lia
theorem cmd_sym {w : PW} {way x1 x2 x3 x4 : Int} {cs : List Int} {so : Bool} {s : Str} (h : (cmdP w way x1 x2 x3 x4 cs so).1 = some s) : PyData.strOk s = true := by
  have e : (cmdP w way x1 x2 x3 x4 cs so).1 = none ∨ (cmdP w way x1 x2 x3 x4 cs so).1 = some aoor ∨ (cmdP w way x1 x2 x3 x4 cs so).1 = some errS := by
    unfold cmdP
    repeat' split
    all_goals first | exact .inl rfl | exact .inr (.inl rfl) | exact .inr (.inr rfl)
  rcases e with e | e | e <;> rw [h] at e <;> cases e <;> decide +kernel
noncomputable def symD : Option Str → PyData
  | none => .none
  | some s => .str s
theorem symV_rd {H : AH} {o : Option Str} : Rd H (symV o) (symD o) := by
  cases o with
  | none => exact .none
  | some s => exact .str s
theorem sym_lay {o : Option Str} (h : ∀ s, o = some s → PyData.strOk s = true) : layOk (symD o) := by
  cases o with
  | none => exact ⟨rfl, by decide⟩
  | some s => exact ⟨by show PyData.canLay0 (.str s) = true; rw [PyData.canLay0]; exact h s rfl, by simp [symD, PyData.depth]⟩
theorem lay_all : ∀ {l : List PyData}, (∀ d ∈ l, layOk d) → PyData.canLayAll0 l = true ∧ PyData.depthAll l ≤ 40
  | [], _ => ⟨rfl, by simp [PyData.depthAll]⟩
  | x :: r, h => by
    have zq := lay_all fun d hd => h d (List.mem_cons_of_mem _ hd); have a := zq.1; have b := zq.2
    have zq := h x List.mem_cons_self; have p := zq.1; have q := zq.2
    refine ⟨by rw [PyData.canLayAll0, p, a]; rfl, ?_⟩
    rw [PyData.depthAll]; lia
noncomputable def lay3 (d : PyData) : Prop := d.canLay0 = true ∧ d.depth ≤ 3
theorem lay3_all : ∀ {l : List PyData} {m : Nat}, (∀ d ∈ l, d.canLay0 = true ∧ d.depth ≤ m) → PyData.canLayAll0 l = true ∧ PyData.depthAll l ≤ m
  | [], _, _ => ⟨rfl, by simp [PyData.depthAll]⟩
  | x :: r, m, h => by
    have zq := lay3_all fun d hd => h d (List.mem_cons_of_mem _ hd); have a := zq.1; have b := zq.2
    have zq := h x List.mem_cons_self; have p := zq.1; have q := zq.2
    refine ⟨by rw [PyData.canLayAll0, p, a]; rfl, ?_⟩
    rw [PyData.depthAll]; lia
theorem lay_list {l : List PyData} {m : Nat} (h : ∀ d ∈ l, d.canLay0 = true ∧ d.depth ≤ m) : (PyData.list l).canLay0 = true ∧ (PyData.list l).depth ≤ m + 1 := by
  have zq := lay3_all h; have a := zq.1; have b := zq.2
  refine ⟨by rw [PyData.canLay0]; exact a, ?_⟩
  rw [PyData.depth]; lia
theorem lay_ints2 (xs : List Int) : (dInts xs).canLay0 = true ∧ (dInts xs).depth ≤ 2 := by
  refine lay_list (m := 1) fun d hd => ?_
  refine el1_1 (List.mem_map.mp hd) fun i z91 z92 => ?_; rcases z91 with -; rcases z92 with rfl
  exact ⟨rfl, by simp [PyData.depth]⟩
theorem st_lay (w : PW) (m1 m2 by' : Int) : layOk (.list (stD w m1 m2 by')) := by
  have := lay_list (m := 3) (l := stD w m1 m2 by') fun d hd => ?_
  · exact ⟨this.1, Nat.le_trans this.2 (by decide)⟩
  · unfold stD at hd
    simp only [List.mem_cons, List.not_mem_nil, or_false] at hd
    have i3 : ∀ x, (PyData.int x).canLay0 = true ∧ (PyData.int x).depth ≤ 3 := fun x => ⟨rfl, by simp [PyData.depth]⟩
    have l3 : ∀ xs, (dInts xs).canLay0 = true ∧ (dInts xs).depth ≤ 3 := fun xs => ⟨(lay_ints2 xs).1, Nat.le_succ_of_le (lay_ints2 xs).2⟩
    rcases hd with rfl | rfl | rfl | rfl | rfl | rfl | rfl
    · exact l3 _
    · exact i3 _
    · exact i3 _
    · exact i3 _
    · cases w.b.obs 0 with
      | none => exact ⟨rfl, by simp [placeD, PyData.depth]⟩
      | some x => exact i3 _
    · exact l3 _
    · refine lay_list (m := 2) fun d hd => ?_
      refine el1_1 (List.mem_map.mp hd) fun q z91 z92 => ?_; rcases z91 with -; rcases z92 with rfl
      exact lay_ints2 q
theorem st_eq {hd tl : List Int} {f3 f4 : Option (Bool × Int)} {w W : PW} (r : RelW hd tl f3 f4 w W) {m1 m2 M1 M2 : Int} (e1 : M1 = m1 + hd.length) (e2 : M2 = m2 + hd.length) : stD W M1 M2 hd.length = stD w m1 m2 0 := by
  have b := r.b
  have q1 := b.bq
  have q2 := b.zq
  have q3 := b.b1
  have q4 := b.z1
  have q5 := b.pt
  have s1 : sl W.b.txt W.b.begv W.b.zv = sl w.b.txt w.b.begv w.b.zv := by
    have z1 : W.b.begv = w.b.begv + hd.length := by lia
    have z2 : W.b.zv = w.b.zv + hd.length := by lia
    rw [z1, z2]
    exact sl_shift b.txt (by lia) (by lia) (by lia)
  have s2 : placeD (W.b.obs 0) hd.length = placeD (w.b.obs 0) 0 := by
    rw [b.obs 0 (by decide)]
    cases w.b.obs 0 with
    | none => rfl
    | some x => show PyData.int _ = PyData.int _; congr 1; show x.2 + (hd.length : Int) - hd.length = x.2 - 0; simp
  unfold stD
  rw [s1, s2, r.k, show W.b.pt - (hd.length : Int) = w.b.pt - 0 by lia, show W.b.begv - (hd.length : Int) = w.b.begv - 0 by lia, show W.b.zv - (hd.length : Int) = w.b.zv - 0 by lia, show M1 - (hd.length : Int) = m1 - 0 by lia, show M2 - (hd.length : Int) = m2 - 0 by lia]
section
variable {c : Cx} {M : Mem} {H : AH} {n : Nat} {F : Fn}
theorem Tv.mono {e : Expr} {P P' : Bool → AH → Prop} (h : Tv c M H e P) (k : ∀ b H', P b H' → P' b H') : Tv c M H e P' := W.mono h fun _ _ _ p => ⟨p.1, k _ _ p.2⟩
theorem Ex.ifF {rest : List Stmt} {P : Fl → Mem → AH → Prop} {t : Expr} {b1 : List Stmt} {pos : Pos} (ht : Tv c M H t fun b H' => b = false ∧ Ex c M H' rest P) : Ex c M H (.If t b1 [] pos :: rest) P :=
  Ex.iteT (ht.mono fun b H' ⟨e, h⟩ => by subst e; exact Ex.nil h)
theorem Cmp.neSame (ok : c.Ok n) {a b : Value} {d : PyData} (ra : Rd H a d) (rb : Rd H b d) (la : layOk d) : Cmp c M H .NotEq a b false := by
  have := Cmp.neD (M := M) ok ra rb la la
  rwa [SeqAt.eqv_refl d la.1] at this
end
noncomputable def forBody : List Stmt → List Stmt
  | .For _ _ b _ _ :: _ => b
  | _ :: r => forBody r
  | [] => []
noncomputable def loopB : List Stmt := forBody F796.body
section
variable {C : LC}
theorem fix_ml : (C.ml, AO.list [.ref C.a1, .ref C.a2]) ∈ fixL C := .head _
theorem fix_ML : (C.ML, AO.list [.ref C.A1, .ref C.A2]) ∈ fixL C := .tail _ (.head _)
theorem fix_hl : (C.hl, AO.list (intV C.hd)) ∈ fixL C := .tail _ (.tail _ (.head _))
theorem fix_tl : (C.tl, AO.list (intV C.ts)) ∈ fixL C := .tail _ (.tail _ (.tail _ (.head _)))
theorem fix_fl : (C.fl, AO.list [.ref C.f0, .ref C.f1]) ∈ fixL C := .tail _ (.tail _ (.tail _ (.tail _ (.head _))))
theorem fix_sc : (C.sc, AO.list [.int C.c0 0, .int C.c1 0]) ∈ fixL C := .tail _ (.tail _ (.tail _ (.tail _ (.tail _ (.head _)))))
end
structure After (C : LC) (i : Nat) (l0 : HL) (K : AH) (D : DD) (w W : WD) (H : AH) : Prop where
  ls : LS l0 K (fixL C) D w W H
  j : LJ C (i + 1) D w W
theorem LJ.step {C : LC} (cf : CF C) {i : Nat} {D D' : DD} {w W w' W' : WD} {H1 H2 H3 H4 : AH} (j : LJ C i D w W) (dok : D'.ok) (dd : D'.d = C.d) (nd : (ks (AL D' w' W' (fixL C))).Nodup) (x : WStep H1 w H2 w') (y : WStep H3 W H4 W') {way x1 x2 x3 x4 : Int} {cs : List Int} {so : Bool} (hc : cs.length ≤ 3)
    (ew : w'.p = (cmdP w.p way x1 x2 x3 x4 cs so).2) (eW : W'.p = (cmdP W.p way (x1 + C.hd.length) (x2 + C.hd.length) (x3 + C.hd.length) (x4 + C.hd.length) cs so).2) : LJ C (i + 1) D' w' W' := by
  have r := (cmd_rel j.rel cf.far (way := way) (x1 := x1) (x2 := x2) (x3 := x3) (x4 := x4) (cs := cs) (so := so)).2
  rw [← ew, ← eW] at r
  have wf := j.rel.b.wf1
  have lim := cmd_lim j.lim wf.b1 wf.zt (way := way) (x1 := x1) (x2 := x2) (x3 := x3) (x4 := x4) (so := so) hc
  rw [← ew, show 2 * (16 * 2 ^ i) = 16 * 2 ^ (i + 1) by rw [Nat.pow_succ]; lia] at lim
  have l1 := x.len
  have l2 := y.len
  have l3 := j.lw
  have l4 := j.lW
  exact ⟨nd, dok, dd, x.ok, y.ok, x.eb.trans j.eb, x.ek.trans j.ek, x.er.trans j.er, y.eb.trans j.EB, y.ek.trans j.EK, y.er.trans j.ER, (x.nm _ (Int.le_refl 1)).mpr j.n1, (x.nm _ (show (1 : Int) ≤ 2 by decide)).mpr j.n2, (y.nm _ (Int.le_refl 1)).mpr j.N1, (y.nm _ (show (1 : Int) ≤ 2 by decide)).mpr j.N2, fun h => (y.nm _ (show (1 : Int) ≤ 3 by decide)).mpr (j.N3 h), fun h => (y.nm _ (show (1 : Int) ≤ 4 by decide)).mpr (j.N4 h), r, lim, by lia, by lia⟩
theorem codes_head {hd tl : List Int} {f3 f4 : Option (Bool × Int)} {p q : PB} (r : RelB hd tl f3 f4 p q) : (q.txt.drop 0).take (hd.length - 0) = hd := by
  rw [r.txt, List.drop_zero, Nat.sub_zero, List.append_assoc, List.take_left]
theorem codes_tail {hd tl : List Int} {f3 f4 : Option (Bool × Int)} {p q : PB} (r : RelB hd tl f3 f4 p q) : (q.txt.drop (hd.length + p.txt.length)).take (q.txt.length - (hd.length + p.txt.length)) = tl := by
  rw [List.take_of_length_le (by rw [List.length_drop]; exact Nat.le_refl _), r.txt, ← List.length_append, List.drop_left]
section
variable {c : Cx} {n : Nat}
theorem cmp_ne_nil {M : Mem} {H : AH} (ok : c.Ok n) {a b : Value} {xs : List Int} (ra : Rd H a (dInts xs)) (rb : Rd H b (dInts [])) : Cmp c M H .NotEq a b (decide (xs ≠ [])) := by
  have := Cmp.neD (M := M) ok ra rb (lay_ints _) (lay_ints _)
  rw [eqv_ints] at this
  cases xs <;> exact this
theorem ne_same {a b : Int} (h : a = b) : iCmp .NotEq a b = false := by subst h; simp [iCmp]
theorem loop_far (ok : c.Ok (n + 9)) (I : InFn c F796) {C : LC} (cf : CF C) {i : Nat} {D : DD} {w W : WD} (j : LJ C (i + 1) D w W) {l0 : HL} {K H : AH} (x : LS l0 K (fixL C) D w W H) {p q r : Option Value} :
    Ex c (lawM C p q r none) H (loopB.drop 5) fun fl M4 H4 => fl = .next ∧ ∃ D' w' W' q' r', M4 = lawM C p q' r' none ∧ After C i l0 K D' w' W' H4 := by
  have v := Pe.vars ok I
  have rb := j.rel.b
  refine Ex.ifF (Tv.or (Tv.mono (P := fun b H' => b = false ∧ Sub H H') ?_ fun b H6 ⟨e, S6⟩ => ?_))
  · refine Tv.and (Tv.cmp ((v 2 rfl rfl).ev (Ev.list ok rfl ⟨Nat.le_of_ble_eq_true rfl, fun d hd => ⟨_, cmp_ne_nil ok (Rd.ints (Sub.upd_new hd _ _ (x.hf _ fix_hl))) (Rd.ints (xs := []) (upd_same _ _ _)), ?_⟩⟩)))
    by_cases eh : C.hd = []
    · rw [if_neg (by simp [eh])]; exact ⟨rfl, Sub.upd_new hd⟩
    · rw [if_pos (by simp [eh])]
      refine el1_2 (id_mk (k := 3) j.Wok.oB (j.N3 eh)) fun m hm ea ob => ?_
      have := rb.o3
      rw [cf.h3 eh, show W.p.b.obs 3 = _ from ob] at this
      have e1 := (Prod.mk.inj (Option.some.inj this)).2
      have gm : H C.f0 = some (mkO W.b m) := ea ▸ ments_mk (em (WD.ok.hB x.hW)) hm
      exact Tv.pb (Pb.cmp (Pe.attr ok cMark_ok 3 (Pe.item (v 15 rfl rfl) Pe.int (Sub.upd_new hd _ _ (x.hf _ fix_fl)) (by decide) (by decide) rfl) (Sub.upd_new hd _ _ gm) rfl rfl rfl) (Pe.item (v 16 rfl rfl) Pe.int (Sub.upd_new hd _ _ (x.hf _ fix_sc)) (by decide) (by decide) rfl) (Cmp.int (op := .NotEq) rfl)) ⟨ne_same e1, Sub.upd_new hd⟩
  · subst e
    have x6 := x.more S6
    show Tv c _ _ _ _
    refine Tv.mono (P := fun b H' => b = false ∧ Sub H6 H') ?_ fun b H7 ⟨e, S7⟩ => ⟨e, Ex.nil ⟨rfl, D, w, W, q, r, rfl, x6.more S7, j⟩⟩
    refine Tv.and (Tv.cmp ((v 3 rfl rfl).ev (Ev.list ok rfl ⟨Nat.le_of_ble_eq_true rfl, fun d hd => ⟨_, cmp_ne_nil ok (Rd.ints (Sub.upd_new hd _ _ (x6.hf _ fix_tl))) (Rd.ints (xs := []) (upd_same _ _ _)), ?_⟩⟩)))
    by_cases eh : C.ts = []
    · rw [if_neg (by simp [eh])]; exact ⟨rfl, Sub.upd_new hd⟩
    · rw [if_pos (by simp [eh])]
      refine el1_2 (id_mk (k := 4) j.Wok.oB (j.N4 eh)) fun m hm ea ob => ?_
      have := rb.o4
      rw [cf.h4 eh, show W.p.b.obs 4 = _ from ob] at this
      have e1 := (Prod.mk.inj (Option.some.inj this)).2
      have ln := rb.len
      have e2 : (W.B.p.txt.length : Int) - m.pos = C.c1 := by show (W.p.b.txt.length : Int) - m.pos = C.c1; lia
      have gm : H6 C.f1 = some (mkO W.b m) := ea ▸ ments_mk (em (WD.ok.hB x6.hW)) hm
      have hB := (WD.ok.hB x6.hW).sub (Sub.upd_new hd (o := .list []))
      have oB := j.Wok.oB
      rw [j.EB] at hB oB
      exact Tv.pb (Pb.cmp (Pe.sub (Pe.meth ok (v 11 rfl rfl) cBuf_ok (eb hB) (List.mem_of_getElem? (i := 2) rfl) rfl rfl rfl (by decide) .nil (CallP.fn ok (buf_size (n + 7) hB oB))) (Pe.attr ok cMark_ok 3 (Pe.item (v 15 rfl rfl) Pe.int (Sub.upd_new hd _ _ (x6.hf _ fix_fl)) (by decide) (by decide) rfl) (Sub.upd_new hd _ _ gm) rfl rfl rfl)) (Pe.item (v 16 rfl rfl) Pe.int (Sub.upd_new hd _ _ (x6.hf _ fix_sc)) (by decide) (by decide) rfl) (Cmp.int (op := .NotEq) rfl)) ⟨ne_same e2, Sub.upd_new hd⟩
theorem loop_check (ok : c.Ok (n + 9)) (I : InFn c F796) {C : LC} (cf : CF C) {i : Nat} {D : DD} {w W : WD} (j : LJ C (i + 1) D w W) {l0 : HL} {K H : AH} (x : LS l0 K (fixL C) D w W H) {p q r : Option Value} (hi : i < 8) :
    Ex c (lawM C p q r none) H (loopB.drop 3) fun fl M4 H4 => fl = .next ∧ ∃ D' w' W' q' r', M4 = lawM C p q' r' none ∧ After C i l0 K D' w' W' H4 := by
  have v := Pe.vars ok I
  refine el1_2 (id_mk (k := 1) j.wok.oB j.n1) fun m1 hm1 ea1 ob1 => ?_
  refine el1_2 (id_mk (k := 2) j.wok.oB j.n2) fun m2 hm2 ea2 ob2 => ?_
  refine el1_2 (id_mk (k := 1) j.Wok.oB j.N1) fun M1 hM1 eA1 oB1 => ?_
  refine el1_2 (id_mk (k := 2) j.Wok.oB j.N2) fun M2 hM2 eA2 oB2 => ?_
  have rb := j.rel.b
  have e1 : M1.pos = m1.pos + C.hd.length := by
    have := rb.obs 1 (by decide)
    rw [show w.p.b.obs 1 = _ from ob1, show W.p.b.obs 1 = _ from oB1] at this
    exact (Prod.mk.inj (Option.some.inj this)).2
  have e2 : M2.pos = m2.pos + C.hd.length := by
    have := rb.obs 2 (by decide)
    rw [show w.p.b.obs 2 = _ from ob2, show W.p.b.obs 2 = _ from oB2] at this
    exact (Prod.mk.inj (Option.some.inj this)).2
  have zq := fit1 cf (Nat.succ_le_of_lt hi) j.rel j.lim; have fit := zq.1; have Fit' := zq.2
  have z1 : w.B.p.txt.length ≤ 2 ^ 20 := by show w.p.b.txt.length ≤ _; have := fit.z2; exact le_w2 (by assumption) (by decide)
  have z2 : W.B.p.txt.length ≤ 2 ^ 20 := by show W.p.b.txt.length ≤ _; have := Fit'.z2; lia
  have s1 := law_state (n + 5) (by' := C.hd.length) x.hW j.Wok rb.wf2 z2 (ml := C.ML) (by rw [eA1, eA2]; exact x.hf _ fix_ML) hM1 hM2
  rw [j.EB, j.EK, st_eq j.rel e1 e2] at s1
  refine Ex.ifF (Tv.cmp (Ev.fC ok I gf_law_state (by kernel_rfl) (.cons (v 11 rfl rfl) (.cons (v 13 rfl rfl) (.cons (v 12 rfl rfl) (.cons (v 5 rfl rfl) .nil)))) s1 fun u H4 rr => ?_))
  have S4 := rr.1; refine el2_2 rr.2 fun d4 vs4 z93 g4 R4 => ?_; rcases z93 with rfl; try clear rr
  have x4 := x.more S4
  have s1 := law_state (n + 5) (by' := 0) x4.hw j.wok rb.wf1 z1 (ml := C.ml) (by rw [ea1, ea2]; exact x4.hf _ fix_ml) hm1 hm2
  rw [j.eb, j.ek] at s1
  refine Ev.fC ok I gf_law_state (by kernel_rfl) (.cons (v 7 rfl rfl) (.cons (v 9 rfl rfl) (.cons (v 8 rfl rfl) (.cons Pe.int .nil)))) s1 fun u H5 rr => ?_
  have S5 := rr.1; refine el2_2 rr.2 fun d5 vs5 z93 g5 R5 => ?_; rcases z93 with rfl; try clear rr
  refine ⟨false, Cmp.neSame ok (.list (S5 _ _ g4) (R4.sub S5)) (.list g5 R5) (st_lay _ _ _ _), rfl, ?_⟩
  have x5 := x4.more S5
  clear s1 R4 R5 g4 g5 S4 S5 x4 x hm1 hm2 hM1 hM2 ob1 ob2 oB1 oB2 ea1 ea2 eA1 eA2 e1 e2 fit Fit' z1
  have hB := WD.ok.hB x5.hW
  have oB := j.Wok.oB
  rw [j.EB] at hB oB
  have q1 := rb.bq
  have q2 := rb.zq
  have ln := rb.len
  have c1 := codes_head rb
  have c2 := codes_tail rb
  refine Ex.ifF (Tv.or (Tv.cmp (Ev.mC ok (v 11 rfl rfl) cBuf_ok (eb hB) 4 rfl (.cons Pe.int (.cons (Pe.ba ok 5 hB (v 11 rfl rfl) rfl rfl) .nil)) (buf_codes (n + 7) hB oB (i := 0) (j := C.hd.length) rfl (by show W.p.b.begv - 1 = _; lia) (Nat.zero_le _) (by show _ ≤ W.p.b.txt.length; lia)) fun u H6 rr => ?_)))
  refine el1_2 rr fun d6 z91 hd6 S6 => ?_; rcases z91 with rfl; try clear rr
  have g6 := S6 _ _ (upd_same _ _ _)
  have S6 : Sub _ H6 := Sub.trans' (Sub.upd_new hd6) S6
  rw [show (W.B.g.txt.drop 0).take (C.hd.length - 0) = C.hd from c1] at g6
  have x6 := x5.more S6
  refine (v 2 rfl rfl).ev ⟨false, Cmp.neSame ok (Rd.ints g6) (Rd.ints (x6.hf _ fix_hl)) (lay_ints _), ?_⟩
  show Tv c _ _ _ _
  have hB6 := hB.sub S6
  refine Tv.cmp (Ev.mC ok (v 11 rfl rfl) cBuf_ok (eb hB6) 4 rfl (.cons (Pe.ba ok 6 hB6 (v 11 rfl rfl) rfl rfl) (.cons (Pe.add (Pe.meth ok (v 11 rfl rfl) cBuf_ok (eb hB6) (List.mem_of_getElem? (i := 2) rfl) rfl rfl rfl (by decide) .nil (CallP.fn ok (buf_size (n + 7) hB6 oB))) Pe.int) .nil)) (buf_codes (n + 7) hB6 oB (i := C.hd.length + w.p.b.txt.length) (j := W.p.b.txt.length) (by show W.p.b.zv - 1 = _; lia) (by show (W.p.b.txt.length : Int) + 1 - 1 = _; lia) (by lia) (Nat.le_refl _)) fun u H7 rr => ?_)
  refine el1_2 rr fun d7 z91 hd7 S7 => ?_; rcases z91 with rfl; try clear rr
  have g7 := S7 _ _ (upd_same _ _ _)
  have S7 : Sub _ H7 := Sub.trans' (Sub.upd_new hd7) S7
  rw [show (W.B.g.txt.drop (C.hd.length + w.p.b.txt.length)).take (W.p.b.txt.length - (C.hd.length + w.p.b.txt.length)) = C.ts from c2] at g7
  have x7 := x6.more S7
  have hB7 := hB6.sub S7
  refine (v 3 rfl rfl).ev ⟨false, Cmp.neSame ok (Rd.ints g7) (Rd.ints (x7.hf _ fix_tl)) (lay_ints _), rfl, ?_⟩
  exact loop_far ok I cf j x7
theorem loop_turn (ok : c.Ok (n + 9)) (I : InFn c F796) {C : LC} (cf : CF C) {i : Nat} (hi : i < 8) {D : DD} {w W : WD} (j : LJ C i D w W) {H : AH} (h : Has H (AL D w W (fixL C))) {q r : Option Value} :
    Ex c (lawM C (some (.int i 0)) q r none) H loopB fun fl M4 H4 => fl = .next ∧ ∃ D' w' W' q' r', M4 = lawM C (some (.int i 0)) q' r' none ∧ After C i (AL D w W (fixL C)) H D' w' W' H4 := by
  have v := Pe.vars ok I
  have x0 : LS (AL D w W (fixL C)) H (fixL C) D w W H := ⟨Tr.refl h, j.nd⟩
  have zq := fit1 cf (Nat.le_of_lt hi) j.rel j.lim; have fit := zq.1; have Fit' := zq.2
  have hz := fit.z2
  have lw := j.lw
  have lW := j.lW
  have hB := WD.ok.hB x0.hw
  have hm1 : IntMulOk 20 (i : Int) := IntMulOk.of_left (by decide +kernel)
  have s1 := law_drawn (n + 7) (size := w.B.p.txt.length) (fresh := 20 * i + 20) x0.hD j.dok (by exact Int.natCast_nonneg _) (by show ((w.p.b.txt.length : Nat) : Int) < _; lia)
  rw [j.dd] at s1
  rw [j.eb] at hB
  have oB := j.wok.oB
  rw [j.eb] at oB
  refine Ex.let I 18 rfl (Ev.fC ok I gf_law_drawn (by kernel_rfl) (.cons (v 1 rfl rfl) (.cons (Pe.meth ok (v 7 rfl rfl) cBuf_ok (eb hB) (List.mem_of_getElem? (i := 2) rfl) rfl rfl rfl (by decide) .nil (CallP.fn ok (buf_size (n + 7) hB oB))) (.cons (Pe.add (Pe.op Pe.int (v 17 rfl rfl) (Op.mul hm1)) Pe.int) .nil))) s1 fun _ H1 r => ?_)
  refine el12_8 r fun cmd pl cd way p1 p2 p3 p4 e0 ct so D1 z912 cm dok dd kk T1 z1 z2 z3 => ?_; rcases z912 with rfl; try clear r
  clear s1
  have x1 := x0.draw dok T1
  have hdone := law_done n (by' := 0) x1.hw j.wok fit (by lia) cm.tup cm.pl cm.cd cm.few (not_key x0.hw z1)
  rw [j.eb, j.ek, j.er] at hdone
  simp only [Int.add_zero] at hdone
  refine Ex.let I 19 rfl (Ev.fC ok I gf_law_done (by kernel_rfl) (.cons (v 7 rfl rfl) (.cons (v 9 rfl rfl) (.cons (v 10 rfl rfl) (.cons (v 18 rfl rfl) (.cons Pe.int .nil))))) hdone fun u H2 r => ?_)
  rcases r.1 with rfl; refine el1_1 r.2 fun w2 st ew => ?_; try clear r
  have x2 := x1.small st
  clear hdone hB oB
  have g1 := st.tr.sub1 cm.tup (not_key x0.hw z3)
  have g2 := st.tr.sub1 cm.pl (not_key x0.hw z2)
  have g3 := st.tr.sub1 cm.cd (not_key x0.hw z1)
  have hdone := law_done n (by' := C.hd.length) x2.hW j.Wok Fit' (by lia) g1 g2 g3 cm.few (not_key x0.hW z1)
  rw [j.EB, j.EK, j.ER] at hdone
  have hrel := (cmd_rel j.rel cf.far (way := way) (x1 := p1) (x2 := p2) (x3 := p3) (x4 := p4) (cs := e0 :: ct) (so := so)).1
  refine Ex.ifF (Tv.cmp (Ev.fC ok I gf_law_done (by kernel_rfl) (.cons (v 11 rfl rfl) (.cons (v 13 rfl rfl) (.cons (v 14 rfl rfl) (.cons (v 18 rfl rfl) (.cons (v 5 rfl rfl) .nil))))) hdone fun u H3 r => ?_))
  rcases r.1 with rfl; refine el1_1 r.2 fun W2 ST eW => ?_; try clear r
  clear hdone g1 g2 g3
  have x3 := x2.large ST
  rw [hrel]
  refine (v 19 rfl rfl).ev ⟨false, Cmp.neSame ok symV_rd symV_rd (sym_lay fun s hs => cmd_sym hs), rfl, ?_⟩
  have j' := LJ.step cf j dok dd x3.nd st ST (by show ct.length + 1 ≤ 3; have := cm.few; exact Nat.lt_of_le_of_lt (by assumption) (by decide)) ew eW
  clear hrel ew eW cm kk T1 z1 z2 z3 fit Fit' hz lw lW hm1
  clear st ST x2 x1
  exact loop_check ok I cf j' x3 hi
end
theorem WStep.ofStep {H H' : AH} {W : WD} {B' : BD} (h : Has H (went W)) (o : W.ok) (s : Step W.b H W.B H' B') : WStep H W H' { W with B := B' } :=
  WStep.onB h o s.ok (o.ri.ids s.ids) (Named.ids s.ids) (by rw [ids_len s.ids]; exact Nat.le_add_right _ _) s.tr
theorem nar_eq {hd tl S : List Int} {a z t : Int} (h1 : a = hd.length + 1) (h2 : z = S.length + 1 + hd.length) (h3 : t = (hd.length + S.length + tl.length : Nat)) : (a != 1 || z != t + 1) = decide (hd ++ tl ≠ []) := by
  subst h1 h2 h3
  cases hd with
  | nil =>
    cases tl with
    | nil => simp
    | cons y r => simp; lia
  | cons x r => simp; lia
section
variable {c : Cx} {n : Nat}
theorem law_end (ok : c.Ok (n + 9)) (I : InFn c F796) {C : LC} {i : Nat} (hi : i ≤ 8) (cf : CF C) {D : DD} {w W : WD} (j : LJ C i D w W) {l0 : HL} {K H : AH} (x : LS l0 K (fixL C) D w W H) {p q r : Option Value} :
    Ex c (lawM C p q r none) H (F796.body.drop 14) fun fl _ _ => fl.val = .bool true := by
  have v := Pe.vars ok I
  have rb := j.rel.b
  have zq := fit1 cf hi j.rel j.lim; have fit := zq.1; have Fit' := zq.2
  have hz1 := fit.z2
  have hz2 := Fit'.z2
  have wf := rb.wf2
  clear fit Fit'
  have hB := WD.ok.hB x.hW
  have oB := j.Wok.oB
  have EB := j.EB
  refine Ex.let I 20 rfl (Ev.list ok rfl (Args.one (Pe.ba ok 5 hB (EB ▸ v 11 rfl rfl) rfl rfl) (Args.one (Pe.ba ok 6 hB (EB ▸ v 11 rfl rfl) rfl rfl) ⟨Nat.le_of_ble_eq_true rfl, fun rl hrl => ?_⟩)))
  have S1 := Sub.upd_new (o := .list [.int W.B.begv 0, .int W.B.zv 0]) hrl
  have g1 := upd_same H rl (.list [.int W.B.begv 0, .int W.B.zv 0])
  have x1 := x.more S1
  have nk := not_key x.hW hrl
  generalize upd H rl (.list [.int W.B.begv 0, .int W.B.zv 0]) = H1 at *
  clear x S1 hB hrl
  have s1 := widen (n + 6) (WD.ok.hB x1.hW) oB
  rw [EB] at s1
  refine Ex.do I (Ev.fC ok I gf_widen (by kernel_rfl) (.cons (v 11 rfl rfl) .nil) s1 fun _ H2 rr => ?_)
  refine el1_1 rr.2 fun B1 st e1 => ?_; try clear rr
  clear s1
  rw [← EB] at st
  have st := WStep.ofStep x1.hW j.Wok st
  have g2 := st.tr.sub1 g1 nk
  have x2 := x1.large st
  have oW := st.ok
  have nk2 : rl ∉ ks (went { W with B := B1 }) := (st.tr.2 _ _ nk g1).2
  clear st x1 g1 nk
  have hB2 := WD.ok.hB x2.hW
  have oB2 := oW.oB
  have hb2 := WD.ok.hB x2.hw
  have ob2 := j.wok.oB
  have t1 : B1.p.txt = W.p.b.txt := by rw [e1]; rfl
  have b1 : B1.p.begv = 1 := by rw [e1]
  have z1 : B1.p.zv = W.p.b.txt.length + 1 := by rw [e1]; rfl
  have ln := rb.len
  have tx := rb.txt
  refine Ex.ifF (Tv.or (Tv.cmp (Ev.mC ok (EB ▸ v 11 rfl rfl) cBuf_ok (eb hB2) 4 rfl (.cons Pe.int (.cons (Pe.add (Pe.meth ok (EB ▸ v 11 rfl rfl) cBuf_ok (eb hB2) (List.mem_of_getElem? (i := 2) rfl) rfl rfl rfl (by decide) .nil (CallP.fn ok (buf_size (n + 7) hB2 oB2))) Pe.int) .nil)) (buf_codes (n + 7) hB2 oB2 (i := 0) (j := B1.p.txt.length) rfl (by show (B1.p.txt.length : Int) + 1 - 1 = _; lia) (Nat.zero_le _) (Nat.le_refl _)) fun u H3 rr => ?_)))
  refine el1_2 rr fun d3 z91 hd3 S3 => ?_; rcases z91 with rfl; try clear rr
  have g3 := S3 _ _ (upd_same _ _ _)
  have S3 : Sub _ H3 := Sub.trans' (Sub.upd_new hd3) S3
  rw [show (({ W with B := B1 } : WD).B.g.txt.drop 0).take (B1.p.txt.length - 0) = C.hd ++ w.p.b.txt ++ C.ts from by rw [List.drop_zero, Nat.sub_zero, ← tx, ← t1]; exact List.take_length] at g3
  have x3 := x2.more S3
  have hb3 := hb2.sub S3
  have eb' := j.eb
  refine Ev.opJ (Ev.opJ ((v 2 rfl rfl).ev (Ev.mC ok (eb' ▸ v 7 rfl rfl) cBuf_ok (eb hb3) 4 rfl (.cons Pe.int (.cons (Pe.add (Pe.meth ok (eb' ▸ v 7 rfl rfl) cBuf_ok (eb hb3) (List.mem_of_getElem? (i := 2) rfl) rfl rfl rfl (by decide) .nil (CallP.fn ok (buf_size (n + 7) hb3 ob2))) Pe.int) .nil)) (buf_codes (n + 7) hb3 ob2 (i := 0) (j := w.p.b.txt.length) rfl (by show (w.p.b.txt.length : Int) + 1 - 1 = _; lia) (Nat.zero_le _) (Nat.le_refl _)) fun u H4 rr => ?_)))
  refine el1_2 rr fun d4 z91 hd4 S4 => ?_; rcases z91 with rfl; try clear rr
  have g4 := S4 _ _ (upd_same _ _ _)
  have S4 : Sub _ H4 := Sub.trans' (Sub.upd_new hd4) S4
  rw [show (w.B.g.txt.drop 0).take (w.p.b.txt.length - 0) = w.p.b.txt from by rw [List.drop_zero, Nat.sub_zero]; exact List.take_length] at g4
  have x4 := x3.more S4
  have lh := cf.lh
  have lt := cf.lt
  refine OpJ.catI ok (x4.hf _ fix_hl) g4 (by exact Nat.le_trans (by assumption) (by decide)) (by exact le_w2 (by assumption) (by decide)) fun d5 hd5 => (v 3 rfl rfl).ev ?_
  have S5 := Sub.upd_new (o := .list (intV (C.hd ++ w.p.b.txt))) hd5
  refine OpJ.catI ok (upd_same _ _ _) ((x4.more S5).hf _ fix_tl) (by rw [List.length_append]; lia) (by exact Nat.le_trans (by assumption) (by decide)) fun d6 hd6 => ?_
  have S6 := Sub.upd_new (o := .list (intV (C.hd ++ w.p.b.txt ++ C.ts))) hd6
  have S36 := Sub.trans' S3 (Sub.trans' S4 (Sub.trans' S5 S6))
  refine ⟨false, Cmp.neSame ok (Rd.ints (S6 _ _ (S5 _ _ (S4 _ _ g3)))) (Rd.ints (upd_same _ _ _)) (lay_ints _), ?_⟩
  have x6 := x2.more S36
  have g6 := S36 _ _ g2
  generalize upd (upd H4 d5 (.list (intV (C.hd ++ w.p.b.txt)))) d6 (.list (intV (C.hd ++ w.p.b.txt ++ C.ts))) = H6 at *
  clear S3 S4 S5 S6 S36 g3 g4 hd3 hd4 hd5 hd6 x3 x4 hb3 hb2 ob2 x2 g2 hB2 hz1 hz2
  show Tv c _ _ _ _
  have hB6 := WD.ok.hB x6.hW
  have s1 := is_narrowed (n + 6) hB6 oB2
  rw [show (({ W with B := B1 } : WD).B.begv != 1 || ({ W with B := B1 } : WD).B.zv != (({ W with B := B1 } : WD).B.p.txt.length : Int) + 1) = false from by
    show (B1.p.begv != 1 || B1.p.zv != (B1.p.txt.length : Int) + 1) = false
    rw [b1, z1, t1]; simp] at s1
  have v11 : ∀ {M : Mem} {H : AH} {pos}, M[11]? = some (some (.ref C.B)) → Pe c M H (.Name "large" pos) (.ref ({ W with B := B1 } : WD).b) := fun h => EB ▸ v 11 rfl h
  refine Tv.pb (Pb.val (Pe.fC ok I gf_is_narrowed (by kernel_rfl) (.cons (v11 rfl) .nil) s1)) ⟨rfl, ?_⟩
  clear s1
  have i0 : ∀ {M : Mem} {H : AH} {e : Expr} {a : Addr} {x y : Int} {k} {p pos : Pos}, Pe c M H e (.ref a) → H a = some (.list [.int x 0, .int y 0]) → Pe c M H (.Subscript e (.Constant (.int 0) k p) pos) (.int x 0) := fun he ha => Pe.item he Pe.int ha (by decide) (by decide) rfl
  have i1 : ∀ {M : Mem} {H : AH} {e : Expr} {a : Addr} {x y : Int} {k} {p pos : Pos}, Pe c M H e (.ref a) → H a = some (.list [.int x 0, .int y 0]) → Pe c M H (.Subscript e (.Constant (.int 1) k p) pos) (.int y 0) := fun he ha => Pe.item he Pe.int ha (by decide) (by decide) rfl
  have wb1 := wf.b1
  have wb2 := wf.bp
  have wb3 := wf.pz
  have wb4 := wf.zt
  have mn : min W.B.zv W.B.begv = W.B.begv := by show min W.p.b.zv W.p.b.begv = W.p.b.begv; lia
  have mx : max W.B.zv W.B.begv = W.B.zv := by show max W.p.b.zv W.p.b.begv = W.p.b.zv; lia
  have s1 := narrow (n + 6) (s := W.B.zv) (e := W.B.begv) hB6 oB2 (by rw [mn]; exact wb1) (by rw [mx]; show W.p.b.zv ≤ (B1.p.txt.length : Int) + 1; rw [t1]; exact wb4)
  rw [mn, mx] at s1
  refine Ex.do I (Ev.fC ok I gf_narrow (by kernel_rfl) (.cons (v11 rfl) (.cons (i1 (v 20 rfl rfl) g6) (.cons (i0 (v 20 rfl rfl) g6) .nil))) s1 fun _ H7 rr => ?_)
  refine el1_1 rr.2 fun B2 st e2 => ?_; try clear rr
  clear s1
  have st := WStep.ofStep x6.hW oW st
  have g7 := st.tr.sub1 g6 nk2
  have x7 := x6.large st
  have oB7 := st.ok.oB
  have hB7 := WD.ok.hB x7.hW
  have b2 : B2.begv = W.B.begv := congrArg PB.begv e2
  have z2 : B2.zv = W.B.zv := congrArg PB.zv e2
  have t2 : B2.p.txt = W.p.b.txt := (congrArg PB.txt e2).trans t1
  have nar : (B2.begv != 1 || B2.zv != (B2.p.txt.length : Int) + 1) = decide (C.hd ++ C.ts ≠ []) := nar_eq (b2.trans rb.bq) (z2.trans rb.zq) (by rw [t2, ln])
  clear st x6 g6 nk2 hB6 oB2 oW e1 e2 t1 b1 z1 tx wf mn mx
  have v11 : ∀ {M : Mem} {H : AH} {pos}, M[11]? = some (some (.ref C.B)) → Pe c M H (.Name "large" pos) (.ref ({ W with B := B2 } : WD).b) := fun h => EB ▸ v 11 rfl h
  have s1 := is_narrowed (n + 6) hB7 oB7
  rw [show (({ W with B := B2 } : WD).B.begv != 1 || ({ W with B := B2 } : WD).B.zv != (({ W with B := B2 } : WD).B.p.txt.length : Int) + 1) = decide (C.hd ++ C.ts ≠ []) from nar] at s1
  refine Ex.ret (Ev.cmpE (Ev.list ok rfl (Args.one (Pe.meth ok (v11 rfl) cBuf_ok (eb hB7) (List.mem_of_getElem? (i := 0) rfl) rfl rfl rfl (by decide) .nil (CallP.fn ok (buf_begin (n + 8) hB7))) (Args.one (Pe.meth ok (v11 rfl) cBuf_ok (eb hB7) (List.mem_of_getElem? (i := 1) rfl) rfl rfl rfl (by decide) .nil (CallP.fn ok (buf_end (n + 8) hB7))) (Args.one (Pe.fC ok I gf_is_narrowed (by kernel_rfl) (.cons (v11 rfl) .nil) s1) ⟨Nat.le_of_ble_eq_true rfl, fun d8 hd8 => ?_⟩)))))
  have S8 := Sub.upd_new (o := .list [.int B2.begv 0, .int B2.zv 0, .bool (decide (C.hd ++ C.ts ≠ []))]) hd8
  have x8 := x7.more S8
  refine Ev.opJ ((v 20 rfl rfl).ev (Ev.list ok rfl (Ev.cmpE (Ev.opJ ((v 2 rfl rfl).ev ((v 3 rfl rfl).ev (OpJ.catI ok (x8.hf _ fix_hl) (x8.hf _ fix_tl) (by exact Nat.le_trans (by assumption) (by decide)) (by exact Nat.le_trans (by assumption) (by decide)) fun d9 hd9 => Ev.list ok rfl ⟨Nat.le_of_ble_eq_true rfl, fun d10 hd10 => ⟨_, cmp_ne_nil ok (Rd.ints (Sub.upd_new hd10 _ _ (upd_same _ _ _))) (Rd.ints (xs := []) (upd_same _ _ _)), ⟨Nat.le_of_ble_eq_true rfl, fun d11 hd11 => ?_⟩⟩⟩)))))))
  have S9 := Sub.trans' (Sub.upd_new (o := .list (intV (C.hd ++ C.ts))) hd9) (Sub.upd_new (o := .list []) hd10)
  have S11 := Sub.trans' S9 (Sub.upd_new (o := .list [.bool (decide (C.hd ++ C.ts ≠ []))]) hd11)
  refine OpJ.cat ok (S11 _ _ (S8 _ _ g7)) (upd_same _ _ _) (Nat.le_of_ble_eq_true rfl) fun d12 hd12 => ?_
  have S12 := Sub.upd_new (o := .list ([.int W.B.begv 0, .int W.B.zv 0] ++ [.bool (decide (C.hd ++ C.ts ≠ []))])) hd12
  have g8 := S12 _ _ (S11 _ _ (upd_same H7 d8 (.list [.int B2.begv 0, .int B2.zv 0, .bool (decide (C.hd ++ C.ts ≠ []))])))
  have la : layOk (.list [.int W.B.begv, .int W.B.zv, .bool (decide (C.hd ++ C.ts ≠ []))]) := by
    refine ⟨rfl, ?_⟩
    simp [PyData.depth, PyData.depthAll]
  have := Cmp.eqD (M := (lawM C p q r none).set 20 (some (.ref rl))) ok (.list g8 (.cons (show Rd _ (.int B2.begv 0) (.int W.B.begv) by rw [b2]; exact .int _) (.cons (show Rd _ (.int B2.zv 0) (.int W.B.zv) by rw [z2]; exact .int _) (.cons (.bool _) .nil)))) (.list (upd_same _ _ _) (.cons (.int _) (.cons (.int _) (.cons (.bool _) .nil)))) la la
  rw [SeqAt.eqv_refl _ la.1] at this
  exact ⟨true, this, rfl⟩
end
section
variable {c : Cx} {n : Nat}
theorem law_loop (ok : c.Ok (n + 9)) (I : InFn c F796) (noX : ∀ sym, ¬ c.X sym) {C : LC} (cf : CF C) {D : DD} {w W : WD} (j : LJ C 0 D w W) {H : AH} (h : Has H (AL D w W (fixL C))) {p q r : Option Value} :
    Ex c (lawM C p q r none) H (F796.body.drop 13) fun fl _ _ => fl.val = .bool true := by
  have v := Pe.vars ok I
  have x0 : LS (AL D w W (fixL C)) H (fixL C) D w W H := ⟨Tr.refl h, j.nd⟩
  refine Ex.forR ok I noX 17 rfl (Ev.call ok (Pe.gb ok I gb_range (by kernel_rfl) (by decide +kernel)) (Solid.typ _) (CW.typ _) rfl (Ev.op (Pe.int.ev (Ev.draw ok (I.kind (by kernel_rfl)) x0.hD j.dok j.dd (v 1 rfl rfl) Pe.int (by decide) (by decide) fun k D1 H1 k1 k2 o1 d1 kk T1 => ⟨_, Op.add, Args.nil' (CallJ.range1 ok fun rg t u g hr => ?_)⟩))))
  have x1 := (x0.draw o1 T1).more (Sub.upd_new (o := .raw (rgO 0 (3 + k) t u g)) hr)
  have j1 : LJ C 0 D1 w W := { j with dok := o1, dd := d1, nd := x1.nd }
  refine ⟨rg, 0, 3 + k, t, u, g, ofL (AL D1 w W (fixL C)), fun i M' H3 => ∃ D w W p q r, M' = lawM C p q r none ∧ LJ C i D w W ∧ H3 = ofL (AL D w W (fixL C)), rfl, upd_same _ _ _, by decide, by decide, by lia, by lia, x1.tr.1.ofL, ⟨D1, w, W, p, q, r, rfl, j1, rfl⟩, ?_, ?_⟩
  · rintro i M' H3 H' hi ⟨D2, w2, W2, p2, q2, r2, rfl, j2, rfl⟩ hS
    refine Ex.atM (M' := lawM C (some (.int i 0)) q2 r2 none) (by rw [Int.zero_add]; rfl) ((loop_turn ok I cf (by lia) j2 (ofL_sub hS j2.nd)).mono fun fl M4 H4 hp => ?_)
    rcases hp.1 with rfl; refine el5_1 hp.2 fun D3 w3 W3 q3 r3 z96 a => ?_; rcases z96 with rfl; try clear hp
    exact ⟨_, ⟨D3, w3, W3, _, q3, r3, rfl, a.j, rfl⟩, a.ls.tr.toFwd⟩
  · rintro M' H3 H' ⟨D2, w2, W2, p2, q2, r2, rfl, j2, rfl⟩ hF
    exact (law_end ok I (by lia) cf j2 (⟨Tr.ofFwd j2.nd hF, j2.nd⟩ : LS _ _ _ _ _ _ _)).mono fun fl M4 H4 hp => by
      cases fl <;> exact hp
end
noncomputable def five (C : LC) : HL := [(C.ml, .list [.ref C.a1, .ref C.a2]), (C.ML, .list [.ref C.A1, .ref C.A2]), (C.hl, .list (intV C.hd)), (C.tl, .list (intV C.ts)), (C.fl, .list [.ref C.f0, .ref C.f1])]
noncomputable def fixP (C : LC) (ps inner : List Int) : HL := (C.sp, .list (intV ps)) :: (C.il, .list (intV inner)) :: five C
noncomputable def preM (C : LC) (f s : Option Value) : Mem := [some (.ref C.s), some (.ref C.d), some (.ref C.hl), some (.ref C.tl), some (.ref C.il), some (.int C.hd.length 0), some (.ref C.sp), some (.ref C.b), some (.ref C.ml), some (.ref C.k), some (.ref C.r), some (.ref C.B), some (.ref C.ML), some (.ref C.K), some (.ref C.R), f, s, none, none, none, none]
structure NS (fx : HL) (D : DD) (w W : WD) (H : AH) : Prop where
  has : Has H (AL D w W fx)
  nd : (ks (AL D w W fx)).Nodup
theorem NS.ls {fx : HL} {D : DD} {w W : WD} {H : AH} (x : NS fx D w W H) : LS (AL D w W fx) H fx D w W H := ⟨Tr.refl x.has, x.nd⟩
theorem LS.ns {l0 fx : HL} {K : AH} {D : DD} {w W : WD} {H : AH} (x : LS l0 K fx D w W H) : NS fx D w W H := ⟨x.tr.1, x.nd⟩
theorem NS.spaces {C : LC} {ps inner : List Int} {D : DD} {w W : WD} {H : AH} (x : NS (fixP C ps inner) D w W H) {sc : Addr} (g : H sc = some (.list [.int C.c0 0, .int C.c1 0])) (n : sc ∉ ks (AL D w W (fixP C ps inner))) : NS (fixL { C with sc := sc }) D w W H := by
  have e : AL D w W (fixL { C with sc := sc }) = AL D w W (five C) ++ [(sc, .list [.int C.c0 0, .int C.c1 0])] := by
    unfold AL; rw [List.append_assoc, List.append_assoc, List.append_assoc]; rfl
  have s : (AL D w W (five C)).Sublist (AL D w W (fixP C ps inner)) := by
    unfold AL fixP
    exact .append (.refl _) (.append (.refl _) (.append (.refl _) (.cons _ (.cons _ (.refl _)))))
  refine ⟨?_, ?_⟩
  · rw [e]; exact (x.has.of fun p hp => s.subset hp).app (Has.cons g Has.nil)
  · rw [e, ks_app]
    exact List.nodup_append.mpr ⟨x.nd.sublist (s.map _), by simp [ks], fun a ha b hb q => n ((s.map _).subset (by rw [← List.mem_singleton.mp (show b ∈ [sc] from hb), ← q]; exact ha))⟩
structure LP (C : LC) (D : DD) (w W : WD) : Prop where
  dok : D.ok
  dd : D.d = C.d
  wok : w.ok
  Wok : W.ok
  eb : w.b = C.b
  ek : w.K.r = C.k
  er : w.R.m = C.r
  EB : W.b = C.B
  EK : W.K.r = C.K
  ER : W.R.m = C.R
  n1 : (1, C.a1, false) ∈ w.B.ids
  n2 : (2, C.a2, true) ∈ w.B.ids
  N1 : (1, C.A1, false) ∈ W.B.ids
  N2 : (2, C.A2, true) ∈ W.B.ids
  lw : w.B.mks.length ≤ 2
  pk : w.K.p = []
  pK : W.K.p = []
  li : w.B.p.txt.length ≤ 6
section
variable {c : Cx} {n : Nat}
theorem law_mid (ok : c.Ok (n + 9)) (I : InFn c F796) (noX : ∀ sym, ¬ c.X sym) {C : LC} (cf : CF C) {D : DD} {w W : WD} (a : LP C D w W) (N3 : C.hd ≠ [] → (3, C.f0, true) ∈ W.B.ids) (N4 : C.ts ≠ [] → (4, C.f1, false) ∈ W.B.ids) (lW : W.B.mks.length ≤ 4) {s1 s2 s3 : Int} {inner : List Int} {H : AH} (x : NS (fixP C [s1, s2, s3] inner) D w W H)
    (g0 : ∃ u, H C.f0 = some (.inst cMark u) ∧ u[3]? = some (.int C.c0 0)) (g1 : ∃ u y, H C.f1 = some (.inst cMark u) ∧ u[3]? = some (.int y 0) ∧ (W.B.p.txt.length : Int) - y = C.c1)
    (rel : RelB C.hd C.ts C.f3 C.f4 w.B.p (narP W.B.p (C.hd.length + 1) (C.hd.length + inner.length + 1))) (ei : w.B.p.txt = inner) (eq : W.B.p.txt.length = C.hd.length + inner.length + C.ts.length) :
    Ex c (preM C (some (.ref C.fl)) none) H (F796.body.drop 9) fun fl _ _ => fl.val = .bool true := by
  have v := Pe.vars ok I
  refine el1_1 g0 fun u0 gu0 p0 => ?_; try clear g0
  refine el2_2 g1 fun u1 y gu1 p1 ey => ?_; try clear g1
  have x0 := x.ls
  have gf : H C.fl = some (.list [.ref C.f0, .ref C.f1]) := x0.hf _ (.tail _ (.tail _ (.tail _ (.tail _ (.tail _ (.tail _ (.head _)))))))
  have EB := a.EB
  have eb' := a.eb
  have hB := WD.ok.hB x0.hW
  have oB := a.Wok.oB
  refine Ex.let I 16 rfl (Ev.list ok rfl (Args.one (Pe.attr ok cMark_ok 3 (Pe.item (v 15 rfl rfl) Pe.int gf (by decide) (by decide) rfl) gu0 rfl p0 rfl) (Args.one (Pe.sub (Pe.meth ok (EB ▸ v 11 rfl rfl) cBuf_ok (eb hB) (List.mem_of_getElem? (i := 2) rfl) rfl rfl rfl (by decide) .nil (CallP.fn ok (buf_size (n + 7) hB oB))) (Pe.attr ok cMark_ok 3 (Pe.item (v 15 rfl rfl) Pe.int gf (by decide) (by decide) rfl) gu1 rfl p1 rfl)) ⟨Nat.le_of_ble_eq_true rfl, fun sc hsc => ?_⟩)))
  rw [ey]
  have S1 := Sub.upd_new (o := .list [.int C.c0 0, .int C.c1 0]) hsc
  have gs := upd_same H sc (.list [.int C.c0 0, .int C.c1 0])
  have nk := not_key x.has hsc
  have x1 := (x0.more S1).ns.ls
  generalize upd H sc (.list [.int C.c0 0, .int C.c1 0]) = H1 at *
  clear gu0 gu1 p0 p1 ey gf hB S1 hsc
  have gi : H1 C.il = some (.list (intV inner)) := x1.hf _ (.tail _ (.head _))
  have hB := WD.ok.hB x1.hW
  have v5 : ∀ {M : Mem} {H : AH} {pos}, M[5]? = some (some (.int C.hd.length 0)) → Pe c M H (.Name "by" pos) (.int C.hd.length 0) := fun h => v 5 rfl h
  have li := a.li
  rw [ei] at li
  have lh := cf.lh
  have s1' := narrow (n + 6) (s := C.hd.length + 1) (e := C.hd.length + inner.length + 1) hB oB (by lia) (by lia)
  rw [show min ((C.hd.length : Int) + 1) (C.hd.length + inner.length + 1) = C.hd.length + 1 by lia, show max ((C.hd.length : Int) + 1) (C.hd.length + inner.length + 1) = C.hd.length + inner.length + 1 by lia] at s1'
  refine Ex.do I (Ev.fC ok I gf_narrow (by kernel_rfl) (.cons (EB ▸ v 11 rfl rfl) (.cons (Pe.add (v5 rfl) Pe.int) (.cons (Pe.add (Pe.add (v5 rfl) (Pe.len ok I (v 4 rfl rfl) gi (by exact Nat.le_trans (by assumption) (by decide)) rfl (by kernel_rfl))) Pe.int) .nil))) s1' fun _ H2 rr => ?_)
  refine el1_1 rr.2 fun B1 st e1 => ?_; try clear rr
  clear s1'
  have q1 : B1.ids = W.B.ids := st.ids
  have st := WStep.ofStep x1.hW a.Wok st
  have x2 := x1.large st
  have r1 : RelB C.hd C.ts C.f3 C.f4 w.B.p B1.p := e1 ▸ rel
  have ow := st.ok
  clear st e1 rel x1 hB
  have gp : H2 C.sp = some (.list (intV [s1, s2, s3])) := x2.hf _ (.head _)
  refine Ex.do I (Ev.mC ok (eb' ▸ v 7 rfl rfl) cBuf_ok (eb (WD.ok.hB x2.hw)) 5 rfl (.cons (Pe.item (v 6 rfl rfl) Pe.int gp (by decide) (by decide) rfl) .nil) (buf_goto (n + 8) (q := s3) (WD.ok.hB x2.hw) a.wok.oB) fun _ H3 rr => ?_)
  refine el1_1 rr fun b1 st e2 => ?_; try clear rr
  have q2 : b1.ids = w.B.ids := st.ids
  have st := WStep.ofStep x2.hw a.wok st
  have x3 := x2.small st
  have oww := st.ok
  have e2 : b1.p = gotoP w.B.p s3 := e2
  clear st x2
  have gp : H3 C.sp = some (.list (intV [s1, s2, s3])) := x3.hf _ (.head _)
  refine Ex.do I (Ev.mC ok (EB ▸ v 11 rfl rfl) cBuf_ok (eb (WD.ok.hB x3.hW)) 5 rfl (.cons (Pe.add (Pe.item (v 6 rfl rfl) Pe.int gp (by decide) (by decide) rfl) (v5 rfl)) .nil) (buf_goto (n + 8) (q := s3 + C.hd.length) (WD.ok.hB x3.hW) ow.oB) fun _ H4 rr => ?_)
  refine el1_1 rr fun B2 st e3 => ?_; try clear rr
  have q3 : B2.ids = W.B.ids := st.ids.trans q1
  have st := WStep.ofStep x3.hW ow st
  have x4 := x3.large st
  have e3 : B2.p = gotoP B1.p (s3 + C.hd.length) := e3
  have oW := st.ok
  clear st x3
  have zq := x4.tr.2 sc _ nk gs; have g4 := zq.1; have nk4 := zq.2
  have y := x4.ns.spaces g4 nk4
  have rb := r1.goto (x := s3)
  rw [← e2, ← e3] at rb
  have cf' : CF { C with sc := sc } := ⟨cf.far, cf.lh, cf.lt, cf.h3, cf.h4⟩
  have t1 : b1.p.txt = inner := by rw [e2]; exact ei
  refine Ex.atM (M' := lawM { C with sc := sc } none none none none) rfl (law_loop ok I noX cf' (D := D) (w := { w with B := b1 }) (W := { W with B := B2 }) ⟨y.nd, a.dok, a.dd, oww, oW, a.eb, a.ek, a.er, a.EB, a.EK, a.ER, by rw [q2]; exact a.n1, by rw [q2]; exact a.n2, by rw [q3]; exact a.N1, by rw [q3]; exact a.N2, fun h => by rw [q3]; exact N3 h, fun h => by rw [q3]; exact N4 h, ⟨rb, (show W.K.p = w.K.p from a.pK.trans a.pk.symm)⟩, ⟨?_, ?_⟩, ?_, ?_⟩ y.has)
  · show b1.p.txt.length + 3 ≤ _
    rw [t1]; lia
  · intro q hq
    rw [show (({ w with B := b1 } : WD).p.k) = [] from a.pk] at hq
    cases hq
  · show b1.mks.length ≤ _
    rw [ids_len q2]; exact a.lw
  · show B2.mks.length ≤ _
    rw [ids_len q3]; exact lW
end
noncomputable abbrev mkA (num : Int) (adv : Bool) : AO := .inst cMark [.int num 0, .bool adv, .none, .int 0 0]
theorem LP.set {C : LC} {D : DD} {w W : WD} (a : LP C D w W) {x0 x1 xf xs : Addr} {y0 y1 : Int} {z3 z4 : Option (Bool × Int)} : LP { C with f0 := x0, f1 := x1, fl := xf, sc := xs, c0 := y0, c1 := y1, f3 := z3, f4 := z4 } D w W :=
  ⟨a.dok, a.dd, a.wok, a.Wok, a.eb, a.ek, a.er, a.EB, a.EK, a.ER, a.n1, a.n2, a.N1, a.N2, a.lw, a.pk, a.pK, a.li⟩
section
variable {fx fx' : HL} {D : DD} {w W : WD} {H H' : AH}
theorem NS.perm (x : NS fx D w W H) (p : fx.Perm fx') : NS fx' D w W H := by
  have q : (AL D w W fx).Perm (AL D w W fx') := .append_left _ (.append_left _ (.append_left _ p))
  exact ⟨x.has.of fun e he => q.mem_iff.mpr he, (q.map (·.1)).nodup_iff.mp x.nd⟩
theorem NS.less (x : NS fx D w W H) (p : fx'.Sublist fx) : NS fx' D w W H := by
  have q : (AL D w W fx').Sublist (AL D w W fx) := .append (.refl _) (.append (.refl _) (.append (.refl _) p))
  exact ⟨x.has.of fun e he => q.subset he, x.nd.sublist (q.map _)⟩
theorem NS.new (x : NS fx D w W H) {a : Addr} {o : AO} (hn : H a = none) (s : Sub (upd H a o) H') : NS ((a, o) :: fx) D w W H' := by
  have q : ((a, o) :: AL D w W fx).Perm (AL D w W ((a, o) :: fx)) := by
    unfold AL
    rw [← List.append_assoc, ← List.append_assoc, ← List.append_assoc, ← List.append_assoc]
    exact List.perm_middle.symm
  have h : Has H' ((a, o) :: AL D w W fx) := .cons (s _ _ (upd_same _ _ _)) (x.has.sub (Sub.trans' (Sub.upd_new hn) s))
  exact ⟨h.of fun e he => q.mem_iff.mpr he, (q.map (·.1)).nodup_iff.mp (List.nodup_cons.mpr ⟨not_key x.has hn, x.nd⟩)⟩
theorem NS.more (x : NS fx D w W H) (s : Sub H H') : NS fx D w W H' := ⟨x.has.sub s, x.nd⟩
theorem NS.add {f : Addr} {o : AO} (x : NS ((f, o) :: fx) D w W H) {B' : BD} (T : Tr ((f, o) :: ents W.b W.B) H (ents W.b B') H') (oW : W.ok) (oB : B'.ok W.b) (ri : RI B' W.R) : NS fx D w { W with B := B' } H' ∧ ({ W with B := B' } : WD).ok := by
  have p1 : ∀ (E : HL), (E ++ ((dents D ++ went w) ++ ((kents W.K ++ rents W.R) ++ fx))).Perm ((dents D ++ went w) ++ (E ++ ((kents W.K ++ rents W.R) ++ fx))) := fun E => by
    rw [← List.append_assoc E, ← List.append_assoc (dents D ++ went w) E]
    exact List.perm_append_comm.append_right _
  have e1 : ∀ B fx, AL D w { W with B := B } fx = (dents D ++ went w) ++ (ents W.b B ++ ((kents W.K ++ rents W.R) ++ fx)) := fun B fx => by
    unfold AL went; simp only [List.append_assoc]
  have p2 : (((f, o) :: ents W.b W.B) ++ ((dents D ++ went w) ++ ((kents W.K ++ rents W.R) ++ fx))).Perm (AL D w W ((f, o) :: fx)) := by
    rw [show W = { W with B := W.B } from rfl, e1]
    refine (List.Perm.cons _ (p1 _)).trans ?_
    rw [← List.append_assoc, ← List.append_assoc, ← List.append_assoc, ← List.append_assoc, ← List.append_assoc, ← List.append_assoc]
    exact List.perm_middle.symm
  have h := x.has.of (l' := ((f, o) :: ents W.b W.B) ++ ((dents D ++ went w) ++ ((kents W.K ++ rents W.R) ++ fx))) fun e he => p2.mem_iff.mp he
  have nd := (p2.map (·.1)).nodup_iff.mpr x.nd
  have := part_tr (A := []) h nd oB.nd T
  have q := p1 (ents W.b B')
  rw [← e1] at q
  have nd2 := (q.map (·.1)).nodup_iff.mp this.2
  refine ⟨⟨this.1.1.of fun e he => q.mem_iff.mpr he, nd2⟩, ⟨?_, oB, oW.oK, ri⟩⟩
  refine nd2.sublist (List.Sublist.map _ ?_)
  unfold AL
  exact (List.sublist_append_left _ _).trans ((List.sublist_append_right _ _).trans (List.sublist_append_right _ _))
theorem RI.add {B : BD} {R : RD} (r : RI B R) {m : MK} (h : 0 ≤ m.num) : RI { B with mks := B.mks ++ [m] } R :=
  ⟨r.few, fun a ha => by
    refine el1_1 (r.mas a ha) fun k hk e => ?_
    exact ⟨k, List.mem_append_left _ hk, e⟩, fun k hk => by
    rcases List.mem_append.mp hk with hk | hk
    · exact r.low k hk
    · rw [List.mem_singleton.mp hk]; have := r.neg; solve_by_elim (maxDepth := 7) [Int.le_trans, Int.natCast_nonneg, Int.ofNat_le.mpr, Int.ofNat_lt.mpr, Nat.le_of_lt, Int.le_of_lt], r.neg, r.nd⟩
theorem obsOf_add {l : List MK} {m : MK} {k : Nat} (h : m.num ≠ (k : Int)) : obsOf (l ++ [m]) k = obsOf l k := by
  unfold obsOf
  rw [List.find?_append]
  simp [h]
theorem obsOf_add1 {l : List MK} {m : MK} {k : Nat} (h : m.num = (k : Int)) (n : ∀ x ∈ l, x.num ≠ (k : Int)) : obsOf (l ++ [m]) k = some (m.adv, m.pos) := by
  unfold obsOf
  rw [List.find?_append, List.find?_eq_none.mpr fun x hx => by simpa using n x hx]
  simp [h]
theorem add_ok {b : Addr} {B : BD} (o : B.ok b) {m : MK} (ha : m.a ∉ ks (ents b B)) (hn : m.num ∉ nums B.mks) (few : B.mks.length < 39) (h0 : m.num ≠ 0) : ({ B with mks := B.mks ++ [m] } : BD).ok b :=
  addM_ok o ha hn few (by rw [o.mark, List.find?_append]; simp [h0])
theorem RelB.set3 {hd tl : List Int} {f3 f4 g3 : Option (Bool × Int)} {p q : PB} (r : RelB hd tl f3 f4 p q) {o : Nat → Option (Bool × Int)} (h : ∀ k, k ≠ 3 → o k = q.obs k) (h3 : o 3 = g3) : RelB hd tl g3 f4 p { q with obs := o } :=
  ⟨r.txt, r.pt, r.b1, r.z1, r.bq, r.zq, r.p1, r.p2, fun k hk => (h k (by lia)).trans (r.obs k hk), h3, (h 4 (by decide)).trans r.o4⟩
theorem RelB.set4 {hd tl : List Int} {f3 f4 g4 : Option (Bool × Int)} {p q : PB} (r : RelB hd tl f3 f4 p q) {o : Nat → Option (Bool × Int)} (h : ∀ k, k ≠ 4 → o k = q.obs k) (h4 : o 4 = g4.map fun x => (x.1, (hd.length + p.txt.length + tl.length : Int) - x.2)) : RelB hd tl f3 g4 p { q with obs := o } :=
  ⟨r.txt, r.pt, r.b1, r.z1, r.bq, r.zq, r.p1, r.p2, fun k hk => (h k (by lia)).trans (r.obs k hk), (h 3 (by decide)).trans r.o3, h4⟩
end
noncomputable def e3 (C : LC) : HL := if C.hd = [] then [(C.f0, mkA 3 true)] else []
section
variable {c : Cx} {n : Nat}
theorem law_far2 (ok : c.Ok (n + 9)) (I : InFn c F796) (noX : ∀ sym, ¬ c.X sym) {C : LC} (lh : C.hd.length ≤ 3) (lt : C.ts.length ≤ 3) (h3 : C.hd ≠ [] → C.f3 = some (true, C.c0)) (l3 : ∀ x, C.f3 = some x → x.2 ≤ C.hd.length) {D : DD} {w W : WD} (a : LP C D w W) (N3 : C.hd ≠ [] → ∃ m ∈ W.B.mks, m.num = 3 ∧ m.a = C.f0 ∧ m.adv = true ∧ m.pos = C.c0) (z0 : C.hd = [] → C.c0 = 0) (nm : ∀ m ∈ W.B.mks, m.num ≤ 3) (lW : W.B.mks.length ≤ 3)
    {s1 s2 s3 : Int} {inner : List Int} {H : AH} (x : NS ((C.f1, mkA 4 false) :: (e3 C ++ fixP C [s1, s2, s3] inner)) D w W H)
    (rel : RelB C.hd C.ts C.f3 none w.B.p (narP W.B.p (C.hd.length + 1) (C.hd.length + inner.length + 1))) (ei : w.B.p.txt = inner) (eq : W.B.p.txt.length = C.hd.length + inner.length + C.ts.length) :
    Ex c (preM C (some (.ref C.fl)) none) H (F796.body.drop 8) fun fl _ _ => fl.val = .bool true := by
  have v := Pe.vars ok I
  have gh : ∀ {W' : WD} {H' : AH} {D' : DD} {fx : HL}, (∀ p ∈ e3 C ++ fixP C [s1, s2, s3] inner, p ∈ fx) → NS fx D' w W' H' → W'.b = W.b → (∀ m ∈ W.B.mks, m ∈ W'.B.mks) → ∃ u, H' C.f0 = some (.inst cMark u) ∧ u[3]? = some (.int C.c0 0) := fun hf y eb hm => by
    by_cases e : C.hd = []
    · refine ⟨_, y.ls.hf (C.f0, mkA 3 true) (hf _ (List.mem_append_left _ ?_)), by rw [z0 e]; rfl⟩
      unfold e3; rw [if_pos e]; exact .head _
    · refine el1_4 (N3 e) fun m h1 h2 h3 h4 h5 => ?_
      exact ⟨_, h3 ▸ ments_mk (em (WD.ok.hB y.ls.hW)) (hm m h1), by rw [← h5]; rfl⟩
  have N3' : ∀ {W' : WD}, (∀ m ∈ W.B.mks, m ∈ W'.B.mks) → C.hd ≠ [] → (3, C.f0, true) ∈ W'.B.ids := fun hm e => by
    refine el1_4 (N3 e) fun m h1 h2 h3 h4 h5 => ?_
    exact List.mem_map.mpr ⟨m, hm m h1, by rw [h2, h3, h4]⟩
  have x0 := x.ls
  have gt : H C.tl = some (.list (intV C.ts)) := x0.hf _ (.tail _ (List.mem_append_right _ (.tail _ (.tail _ (.tail _ (.tail _ (.tail _ (.head _))))))))
  have gf : H C.fl = some (.list [.ref C.f0, .ref C.f1]) := x0.hf _ (.tail _ (List.mem_append_right _ (.tail _ (.tail _ (.tail _ (.tail _ (.tail _ (.tail _ (.head _)))))))))
  refine Ex.iteT (Tv.cmp ((v 3 rfl rfl).ev (Ev.list ok rfl ⟨Nat.le_of_ble_eq_true rfl, fun d hd => ⟨_, cmp_ne_nil ok (Rd.ints (Sub.upd_new hd _ _ gt)) (Rd.ints (xs := []) (upd_same _ _ _)), ?_⟩⟩)))
  have x1 := x.more (Sub.upd_new (o := .list []) hd)
  have gt := Sub.upd_new (o := .list []) hd _ _ gt
  have gf := Sub.upd_new (o := .list []) hd _ _ gf
  generalize upd H d (.list []) = H1 at *
  clear hd x0 x
  by_cases eh : C.ts = []
  · rw [if_neg (by simp [eh])]
    have y := x1.less (fx' := fixP C [s1, s2, s3] inner) (.cons _ (List.sublist_append_right _ _))
    refine Ex.nil (law_mid ok I noX (C := { C with c1 := W.B.p.txt.length, f4 := none }) ⟨⟨l3, fun x e => by cases e⟩, lh, lt, h3, fun h => (h eh).elim⟩ a.set (N3' fun m h => h) (fun h => (h eh).elim) (by solve_by_elim (maxDepth := 7) [Int.le_of_lt, Int.le_trans, Int.lt_of_lt_of_le, Int.lt_of_le_of_lt, Int.not_lt.mp, Int.not_le.mp]) y (gh (fun p hp => .tail _ hp) x1 rfl fun m h => h) ⟨_, 0, x1.ls.hf (C.f1, mkA 4 false) (.head _), rfl, Int.sub_zero _⟩ rel ei eq)
  · rw [if_pos (by simp [eh])]
    have lp : 1 ≤ C.ts.length := List.length_pos_iff.mpr eh
    have EB := a.EB
    have hB := WD.ok.hB x1.ls.hW
    have oB := a.Wok.oB
    refine Ex.do I (Ev.call ok (f := .ref 651) (Pe.gl ok I gf_set_marker.g (by kernel_rfl) gf_set_marker.nd) (Solid.ref _) (CW.ref gf_set_marker.kp) rfl (Args.one (Pe.item (v 15 rfl rfl) Pe.int gf (by decide) (by decide) rfl) (Args.one (v 11 rfl rfl) (Ev.op ((Pe.add (Pe.meth ok (EB ▸ v 11 rfl rfl) cBuf_ok (eb hB) (List.mem_of_getElem? (i := 2) rfl) rfl rfl rfl (by decide) .nil (CallP.fn ok (buf_size (n + 7) hB oB))) Pe.int).ev (Ev.draw (n := n + 8) ok (I.kind (by kernel_rfl)) x1.ls.hD a.dok a.dd (v 1 rfl rfl) (Pe.len ok I (v 3 rfl rfl) gt (by exact Nat.le_trans (by assumption) (by decide)) rfl (by kernel_rfl)) (by exact Int.ofNat_le.mpr (by assumption)) (by lia) fun r D1 H2 r0 r1 o1 d1 kk T1 => ⟨_, Op.sub, Args.nil' ?_⟩))))))
    have x2 := (x1.ls.draw o1 T1).ns
    have hB2 := WD.ok.hB x2.ls.hW
    have g1 : H2 C.f1 = some (mkA 4 false) := x2.ls.hf _ (.head _)
    have nf : C.f1 ∉ ks (ents W.b W.B) := fun q => by
      have nd := x2.nd
      unfold AL at nd
      rw [ks_app, ks_app, ks_app] at nd
      have := (List.nodup_append.mp (List.nodup_append.mp (List.nodup_append.mp nd).2.1).2.1).2.2
      exact this C.f1 (by unfold went; rw [ks_app]; exact List.mem_append_left _ q) C.f1 (.head _) rfl
    have s1' := set_new (n + 6) (q := W.B.p.txt.length + 1 - r) hB2 oB.g oB.nd (by exact Nat.le_trans (by assumption) (by decide)) (fun q => by refine el1_1 (List.mem_map.mp q) fun m hm e => ?_; have := nm m hm; lia) g1 nf
    rw [EB] at s1'
    refine CallJ.fn ok s1' fun _ H3 rr => Ex.nil ?_
    have T3 := rr.2; try clear rr
    clear s1'
    rw [← EB] at T3
    have hn4 : (4 : Int) ∉ nums W.B.mks := fun q => by refine el1_1 (List.mem_map.mp q) fun m hm e => ?_; have := nm m hm; lia
    have oB' := add_ok oB (m := ⟨4, C.f1, false, clampP W.B.g.txt (W.B.p.txt.length + 1 - r)⟩) nf hn4 (by exact Nat.lt_of_le_of_lt (by assumption) (by decide)) (show (4 : Int) ≠ 0 by decide)
    have zq := x2.add T3 a.Wok oB' (a.Wok.ri.add (show (0 : Int) ≤ 4 by decide)); have x3 := zq.1; have oW := zq.2
    have hcl : clampP W.B.g.txt (W.B.p.txt.length + 1 - r) = W.B.p.txt.length + 1 - r := by
      show min (max ((W.B.p.txt.length : Int) + 1 - r) 1) (W.B.p.txt.length + 1) = _
      lia
    have hr := rel.set4 (g4 := some (false, r - 1)) (o := obsOf (W.B.mks ++ [⟨4, C.f1, false, clampP W.B.g.txt (W.B.p.txt.length + 1 - r)⟩])) (fun k hk => obsOf_add (by show (4 : Int) ≠ k; lia)) (by
      rw [obsOf_add1 rfl fun m hm => by have := nm m hm; lia, hcl]
      show some (_, _) = some (_, _)
      congr 2
      rw [ei]; show (W.B.p.txt.length : Int) + 1 - r = _ - (r - 1); lia)
    refine law_mid ok I noX (C := { C with c1 := r - 1, f4 := some (false, r - 1) }) (W := { W with B := { W.B with mks := W.B.mks ++ [⟨4, C.f1, false, clampP W.B.g.txt (W.B.p.txt.length + 1 - r)⟩] } }) (D := D1) ⟨⟨l3, fun x e => by cases e; show r - 1 + 1 < (C.ts.length : Int); lia⟩, lh, lt, h3, fun _ => rfl⟩ ?_ (N3' fun m h => List.mem_append_left _ h) (fun _ => List.mem_map.mpr ⟨_, List.mem_append_right _ (.head _), rfl⟩) (by show (W.B.mks ++ [_]).length ≤ 4; rw [List.length_append]; exact Nat.succ_le_succ lW) (x3.less (List.sublist_append_right _ _)) (gh (fun p hp => hp) x3 rfl fun m h => List.mem_append_left _ h) ⟨_, W.B.p.txt.length + 1 - r, ments_mk (em (WD.ok.hB x3.ls.hW)) (m := ⟨4, C.f1, false, clampP W.B.g.txt (W.B.p.txt.length + 1 - r)⟩) (List.mem_append_right _ (.head _)), by rw [hcl]; rfl, ?_⟩ hr ei eq
    · exact ⟨o1, d1, a.wok, oW, a.eb, a.ek, a.er, a.EB, a.EK, a.ER, a.n1, a.n2, List.mem_map.mpr (by refine el1_1 (List.mem_map.mp a.N1) fun m hm e => ?_; exact ⟨m, List.mem_append_left _ hm, e⟩), List.mem_map.mpr (by refine el1_1 (List.mem_map.mp a.N2) fun m hm e => ?_; exact ⟨m, List.mem_append_left _ hm, e⟩), a.lw, a.pk, a.pK, a.li⟩
    · show (W.B.p.txt.length : Int) - (W.B.p.txt.length + 1 - r) = r - 1
      lia
end
section
variable {c : Cx} {n : Nat}
theorem law_far1 (ok : c.Ok (n + 9)) (I : InFn c F796) (noX : ∀ sym, ¬ c.X sym) {C : LC} (lh : C.hd.length ≤ 3) (lt : C.ts.length ≤ 3) {D : DD} {w W : WD} (a : LP C D w W) (nm : ∀ m ∈ W.B.mks, m.num ≤ 2) (lW : W.B.mks.length ≤ 2)
    {s1 s2 s3 : Int} {inner : List Int} {H : AH} (x : NS ((C.f0, mkA 3 true) :: (C.f1, mkA 4 false) :: fixP C [s1, s2, s3] inner) D w W H)
    (rel : RelB C.hd C.ts none none w.B.p (narP W.B.p (C.hd.length + 1) (C.hd.length + inner.length + 1))) (ei : w.B.p.txt = inner) (eq : W.B.p.txt.length = C.hd.length + inner.length + C.ts.length) :
    Ex c (preM C (some (.ref C.fl)) none) H (F796.body.drop 7) fun fl _ _ => fl.val = .bool true := by
  have v := Pe.vars ok I
  have x0 := x.ls
  have gt : H C.hl = some (.list (intV C.hd)) := x0.hf _ (.tail _ (.tail _ (.tail _ (.tail _ (.tail _ (.tail _ (.head _)))))))
  have gf : H C.fl = some (.list [.ref C.f0, .ref C.f1]) := x0.hf _ (.tail _ (.tail _ (.tail _ (.tail _ (.tail _ (.tail _ (.tail _ (.tail _ (.head _)))))))))
  refine Ex.iteT (Tv.cmp ((v 2 rfl rfl).ev (Ev.list ok rfl ⟨Nat.le_of_ble_eq_true rfl, fun d hd => ⟨_, cmp_ne_nil ok (Rd.ints (Sub.upd_new hd _ _ gt)) (Rd.ints (xs := []) (upd_same _ _ _)), ?_⟩⟩)))
  have x1 := x.more (Sub.upd_new (o := .list []) hd)
  have gt := Sub.upd_new (o := .list []) hd _ _ gt
  have gf := Sub.upd_new (o := .list []) hd _ _ gf
  generalize upd H d (.list []) = H1 at *
  clear hd x0 x
  by_cases eh : C.hd = []
  · rw [if_neg (by simp [eh])]
    refine Ex.nil (law_far2 ok I noX (s1 := s1) (s2 := s2) (s3 := s3) (C := { C with c0 := 0, f3 := none }) lh lt (fun h => (h eh).elim) (fun x e => by cases e) a.set (fun h => (h eh).elim) (fun _ => rfl) (fun m hm => by have := nm m hm; solve_by_elim (maxDepth := 7) [Int.le_trans, Int.natCast_nonneg, Int.ofNat_le.mpr, Int.ofNat_lt.mpr, Nat.le_of_lt, Int.le_of_lt]) (by solve_by_elim (maxDepth := 7) [Int.le_of_lt, Int.le_trans, Int.lt_of_lt_of_le, Int.lt_of_le_of_lt, Int.not_lt.mp, Int.not_le.mp]) ?_ rel ei eq)
    rw [show e3 { C with c0 := 0, f3 := none } = [(C.f0, mkA 3 true)] from if_pos eh]
    exact x1.perm (List.Perm.swap _ _ _)
  · rw [if_pos (by simp [eh])]
    have lp : 1 ≤ C.hd.length := List.length_pos_iff.mpr eh
    have EB := a.EB
    have oB := a.Wok.oB
    refine Ex.do I (Ev.call ok (f := .ref 651) (Pe.gl ok I gf_set_marker.g (by kernel_rfl) gf_set_marker.nd) (Solid.ref _) (CW.ref gf_set_marker.kp) rfl (Args.one (Pe.item (v 15 rfl rfl) Pe.int gf (by decide) (by decide) rfl) (Args.one (v 11 rfl rfl) (Ev.op (Pe.int.ev (Ev.draw (n := n + 8) ok (I.kind (by kernel_rfl)) x1.ls.hD a.dok a.dd (v 1 rfl rfl) (v 5 rfl rfl) (by exact Int.ofNat_le.mpr (by assumption)) (by lia) fun r D1 H2 r0 r1 o1 d1 kk T1 => ⟨_, Op.add, Args.nil' ?_⟩))))))
    have x2 := (x1.ls.draw o1 T1).ns
    have hB2 := WD.ok.hB x2.ls.hW
    have g1 : H2 C.f0 = some (mkA 3 true) := x2.ls.hf _ (.head _)
    have nf : C.f0 ∉ ks (ents W.b W.B) := fun q => by
      have nd := x2.nd
      unfold AL at nd
      rw [ks_app, ks_app, ks_app] at nd
      have := (List.nodup_append.mp (List.nodup_append.mp (List.nodup_append.mp nd).2.1).2.1).2.2
      exact this C.f0 (by unfold went; rw [ks_app]; exact List.mem_append_left _ q) C.f0 (.head _) rfl
    have hn3 : (3 : Int) ∉ nums W.B.mks := fun q => by refine el1_1 (List.mem_map.mp q) fun m hm e => ?_; have := nm m hm; lia
    have s1' := set_new (n + 6) (q := 1 + r) hB2 oB.g oB.nd (by exact Nat.le_trans (by assumption) (by decide)) hn3 g1 nf
    rw [EB] at s1'
    refine CallJ.fn ok s1' fun _ H3 rr => Ex.nil ?_
    have T3 := rr.2; try clear rr
    clear s1'
    rw [← EB] at T3
    have oB' := add_ok oB (m := ⟨3, C.f0, true, clampP W.B.g.txt (1 + r)⟩) nf hn3 (by exact Nat.lt_of_le_of_lt (by assumption) (by decide)) (show (3 : Int) ≠ 0 by decide)
    have zq := x2.add T3 a.Wok oB' (a.Wok.ri.add (show (0 : Int) ≤ 3 by decide)); have x3 := zq.1; have oW := zq.2
    have hcl : clampP W.B.g.txt (1 + r) = 1 + r := by
      show min (max (1 + r) 1) ((W.B.p.txt.length : Int) + 1) = _
      lia
    have hr := rel.set3 (g3 := some (true, 1 + r)) (o := obsOf (W.B.mks ++ [⟨3, C.f0, true, clampP W.B.g.txt (1 + r)⟩])) (fun k hk => obsOf_add (by show (3 : Int) ≠ k; lia)) (by
      rw [obsOf_add1 rfl fun m hm => by have := nm m hm; lia, hcl])
    refine law_far2 ok I noX (s1 := s1) (s2 := s2) (s3 := s3) (C := { C with c0 := 1 + r, f3 := some (true, 1 + r) }) (W := { W with B := { W.B with mks := W.B.mks ++ [⟨3, C.f0, true, clampP W.B.g.txt (1 + r)⟩] } }) (D := D1) lh lt (fun _ => rfl) (fun x e => by cases e; show 1 + r ≤ (C.hd.length : Int); lia) ?_ (fun _ => ⟨_, List.mem_append_right _ (.head _), rfl, rfl, rfl, hcl⟩) (fun h => (eh h).elim) (fun m hm => ?_) (by show (W.B.mks ++ [_]).length ≤ 3; rw [List.length_append]; exact Nat.succ_le_succ lW) ?_ hr ei eq
    · exact ⟨o1, d1, a.wok, oW, a.eb, a.ek, a.er, a.EB, a.EK, a.ER, a.n1, a.n2, List.mem_map.mpr (by refine el1_1 (List.mem_map.mp a.N1) fun m hm e => ?_; exact ⟨m, List.mem_append_left _ hm, e⟩), List.mem_map.mpr (by refine el1_1 (List.mem_map.mp a.N2) fun m hm e => ?_; exact ⟨m, List.mem_append_left _ hm, e⟩), a.lw, a.pk, a.pK, a.li⟩
    · rcases List.mem_append.mp (show m ∈ W.B.mks ++ [_] from hm) with hm | hm
      · have := nm m hm; lia
      · rw [List.mem_singleton.mp hm]; show (3 : Int) ≤ 3; exact Int.le_refl 3
    · rw [show e3 { C with c0 := 1 + r, f3 := some (true, 1 + r) } = [] from if_neg eh]
      exact x3
noncomputable def four (C : LC) : HL := [(C.ml, .list [.ref C.a1, .ref C.a2]), (C.ML, .list [.ref C.A1, .ref C.A2]), (C.hl, .list (intV C.hd)), (C.tl, .list (intV C.ts))]
noncomputable def fix0 (C : LC) (ps inner : List Int) : HL := (C.sp, .list (intV ps)) :: (C.il, .list (intV inner)) :: four C
theorem law_far0 (ok : c.Ok (n + 9)) (I : InFn c F796) (noX : ∀ sym, ¬ c.X sym) {C : LC} (lh : C.hd.length ≤ 3) (lt : C.ts.length ≤ 3) {D : DD} {w W : WD} (a : LP C D w W) (nm : ∀ m ∈ W.B.mks, m.num ≤ 2) (lW : W.B.mks.length ≤ 2)
    {s1 s2 s3 : Int} {inner : List Int} {H : AH} (x : NS (fix0 C [s1, s2, s3] inner) D w W H)
    (rel : RelB C.hd C.ts none none w.B.p (narP W.B.p (C.hd.length + 1) (C.hd.length + inner.length + 1))) (ei : w.B.p.txt = inner) (eq : W.B.p.txt.length = C.hd.length + inner.length + C.ts.length) :
    Ex c (preM C none none) H (F796.body.drop 6) fun fl _ _ => fl.val = .bool true := by
  have v := Pe.vars ok I
  refine Ex.let I 15 rfl (Ev.list ok rfl (Ev.marker (n := n + 7) ok I (by kernel_rfl) Pe.int Pe.bool fun f0 H1 h1 S1 => Ev.marker (n := n + 7) ok I (by kernel_rfl) Pe.int Pe.bool fun f1 H2 h2 S2 => ⟨Nat.le_of_ble_eq_true rfl, fun fl hfl => ?_⟩))
  have y := ((x.new h1 S1).new h2 S2).new hfl Sub.rfl' (o := .list [.ref f0, .ref f1])
  refine Ex.atM (M' := preM { C with f0 := f0, f1 := f1, fl := fl } (some (.ref fl)) none) rfl (law_far1 ok I noX (s1 := s1) (s2 := s2) (s3 := s3) (C := { C with f0 := f0, f1 := f1, fl := fl }) lh lt a.set nm lW (y.perm ?_) rel ei eq)
  show ((fl, _) :: (f1, _) :: (f0, _) :: (C.sp, _) :: (C.il, _) :: (C.ml, _) :: (C.ML, _) :: (C.hl, _) :: [(C.tl, _)]).Perm ((f0, _) :: (f1, _) :: (C.sp, _) :: (C.il, _) :: (C.ml, _) :: (C.ML, _) :: (C.hl, _) :: (C.tl, _) :: [(fl, _)])
  refine (List.perm_append_comm (l₁ := [(fl, _)])).trans ?_
  exact List.Perm.swap _ _ _
end
noncomputable def f4L (C : LC) (ps inner : List Int) : HL := [(C.sp, .list (intV ps)), (C.il, .list (intV inner)), (C.hl, .list (intV C.hd)), (C.tl, .list (intV C.ts))]
theorem perm_beg {d w W : HL} {s i h t m M : Addr × AO} : ((d ++ [s, i, h, t]) ++ (m :: w) ++ (M :: W)).Perm (d ++ (w ++ (W ++ [s, i, m, M, h, t]))) := by
  rw [List.append_assoc, List.append_assoc]
  refine .append_left _ ?_
  refine (List.Perm.append_left _ (show (m :: w ++ (M :: W)).Perm (w ++ (m :: M :: W)) from List.perm_middle.symm)).trans ?_
  refine (List.perm_append_comm_assoc _ _ _).trans (.append_left _ ?_)
  rw [show [s, i, h, t] ++ (m :: M :: W) = [s, i, h, t, m, M] ++ W from rfl]
  refine List.perm_append_comm.trans (.append_left _ ?_)
  refine .cons _ (.cons _ ?_)
  exact List.perm_append_comm (l₁ := [h, t]) (l₂ := [m, M])
theorem Begun.new' {H H' : AH} {cs : List Int} {f g : Int} {t ml : Addr} {w : WD} {a1 a2 : Addr} (b : Begun H cs f g t ml w a1 a2 H') : New H ((ml, .list [.ref a1, .ref a2]) :: went w) H' := by
  refine ⟨.cons b.mls b.new.1, fun a o _ e => ⟨(b.new.2 a o (by simp) e).1, fun q => ?_⟩⟩
  rcases List.mem_cons.mp (show a ∈ ml :: ks (went w) from q) with q | q
  · rw [q, b.hml] at e; cases e
  · exact (b.new.2 a o (by simp) e).2 q
theorem Begun.nd {H H' : AH} {cs : List Int} {f g : Int} {t ml : Addr} {w : WD} {a1 a2 : Addr} (b : Begun H cs f g t ml w a1 a2 H') : (ks ((ml, AO.list [.ref a1, .ref a2]) :: went w)).Nodup := List.nodup_cons.mpr ⟨b.off, b.ok.nd⟩
theorem rel_beg {hd ts inner : List Int} {H1 H2 H3 H4 : AH} {s1 s2 : Int} {t T ml ML a1 a2 A1 A2 : Addr} {w W : WD} (b : Begun H1 inner s1 s2 t ml w a1 a2 H2) (B : Begun H3 (hd ++ inner ++ ts) (s1 + hd.length) (s2 + hd.length) T ML W A1 A2 H4) (r1 : 1 ≤ s1 ∧ s1 ≤ inner.length + 1) (r2 : 1 ≤ s2 ∧ s2 ≤ inner.length + 1) :
    RelB hd ts none none w.B.p (narP W.B.p (hd.length + 1) (hd.length + inner.length + 1)) := by
  have t1 := b.txt
  have p1 : w.B.p.pt = inner.length + 1 := b.pt
  have z1 : w.B.p.zv = inner.length + 1 := b.zv
  have T1 := B.txt
  have P1 : W.B.p.pt = (hd ++ inner ++ ts).length + 1 := B.pt
  have Z1 : W.B.p.zv = (hd ++ inner ++ ts).length + 1 := B.zv
  rw [List.length_append, List.length_append] at P1 Z1
  have c1 : ∀ {s : Int}, 1 ≤ s ∧ s ≤ inner.length + 1 → clampP (hd ++ inner ++ ts) (s + hd.length) = clampP inner s + hd.length := fun {s} h => by
    rw [clampP_id h.1 h.2]
    exact clampP_id (Int.le_trans h.1 (Int.le_add_of_nonneg_right (Int.natCast_nonneg _))) (by rw [List.length_append, List.length_append]; lia)
  refine ⟨by rw [t1]; exact T1, ?_, b.begv, by rw [t1]; exact z1, rfl, ?_, by rw [p1]; exact Int.le_add_of_nonneg_left (Int.natCast_nonneg _), by rw [t1, p1]; exact Int.le_refl _, fun k hk => ?_, ?_, ?_⟩
  · show min (max W.B.p.pt (hd.length + 1)) (hd.length + inner.length + 1) = _
    rw [P1, p1, Int.max_eq_left (by lia), Int.min_eq_right (by lia)]; lia
  · show (hd.length : Int) + inner.length + 1 = _
    rw [t1]; lia
  · show obsOf W.B.mks k = (obsOf w.B.mks k).map _
    rw [b.mks, B.mks, c1 r1, c1 r2]
    have : k = 0 ∨ k = 1 ∨ k = 2 := by lia
    rcases this with rfl | rfl | rfl <;> rfl
  · show obsOf W.B.mks 3 = none
    rw [B.mks]; rfl
  · show obsOf W.B.mks 4 = none
    rw [B.mks]; rfl
noncomputable def begM0 (C : LC) : Mem := [some (.ref C.s), some (.ref C.d), some (.ref C.hl), some (.ref C.tl), some (.ref C.il), some (.int C.hd.length 0), some (.ref C.sp), none, none, none, none, none, none, none, none, none, none, none, none, none, none]
section
variable {c : Cx} {n : Nat}
theorem law_beg (ok : c.Ok (n + 9)) (I : InFn c F796) (noX : ∀ sym, ¬ c.X sym) {C : LC} (lh : C.hd.length ≤ 3) (lt : C.ts.length ≤ 3) {s1 s2 s3 : Int} {inner : List Int} (li : inner.length ≤ 6) (r1 : 1 ≤ s1 ∧ s1 ≤ inner.length + 1) (r2 : 1 ≤ s2 ∧ s2 ≤ inner.length + 1) {D : DD} (dok : D.ok) (dd : D.d = C.d) {H : AH} (h : Has H (dents D ++ f4L C [s1, s2, s3] inner)) (nd : (ks (dents D ++ f4L C [s1, s2, s3] inner)).Nodup) :
    Ex c (begM0 C) H (F796.body.drop 4) fun fl _ _ => fl.val = .bool true := by
  have v := Pe.vars ok I
  have hr := h.of fun p hp => List.mem_append_right (dents D) hp
  have gp : H C.sp = some (.list [.int s1 0, .int s2 0, .int s3 0]) := hr _ (.head _)
  have gi : H C.il = some (.list (intV inner)) := hr _ (.tail _ (.head _))
  have gh : H C.hl = some (.list (intV C.hd)) := hr _ (.tail _ (.tail _ (.head _)))
  have gt : H C.tl = some (.list (intV C.ts)) := hr _ (.tail _ (.tail _ (.tail _ (.head _))))
  clear hr
  refine Ex.unpack ok (Ev.fC ok I gf_law_begun (by kernel_rfl) (.cons (v 4 rfl rfl) (.cons (Pe.item (v 6 rfl rfl) Pe.int gp (by decide) (by decide) rfl) (.cons (Pe.item (v 6 rfl rfl) Pe.int gp (by decide) (by decide) rfl) .nil))) (law_begun (n + 2) gi (by lia)) fun _ H1 rr => ?_)
  refine el5_1 rr fun t ml w a1 a2 z95 b => ?_; rcases z95 with rfl; try clear rr
  refine Asg.tup ok b.tup rfl rfl (Asg.name I 7 rfl (Asg.name I 8 rfl (Asg.name I 9 rfl (Asg.name I 10 rfl (Asgs.nil' ?_)))))
  have S1 := Tr.sub b.new
  refine Ex.unpack ok (Ev.call ok (f := .ref 791) (Pe.gl ok I gf_law_begun.g (by kernel_rfl) gf_law_begun.nd) (Solid.ref _) (CW.ref gf_law_begun.kp) rfl (Ev.opJ (Ev.opJ ((v 2 rfl rfl).ev ((v 4 rfl rfl).ev (OpJ.catI ok (S1 _ _ gh) (S1 _ _ gi) (by exact Nat.le_trans (by assumption) (by decide)) (by exact Nat.le_trans (by assumption) (by decide)) fun d5 hd5 => (v 3 rfl rfl).ev ?_))))))
  have S2 := Sub.trans' S1 (Sub.upd_new (o := .list (intV (C.hd ++ inner))) hd5)
  refine OpJ.catI ok (upd_same _ _ _) (S2 _ _ gt) (by rw [List.length_append]; lia) (by exact Nat.le_trans (by assumption) (by decide)) fun d6 hd6 => ?_
  have S3 := Sub.trans' S2 (Sub.upd_new (o := .list (intV (C.hd ++ inner ++ C.ts))) hd6)
  refine Args.one (Pe.add (Pe.item (v 6 rfl rfl) Pe.int (S3 _ _ gp) (by decide) (by decide) rfl) (v 5 rfl rfl)) (Args.one (Pe.add (Pe.item (v 6 rfl rfl) Pe.int (S3 _ _ gp) (by decide) (by decide) rfl) (v 5 rfl rfl)) (Args.nil' (CallJ.fn ok (law_begun (n + 2) (upd_same _ _ _) (by rw [List.length_append, List.length_append]; lia)) fun _ H2 rr => ?_)))
  refine el5_1 rr fun T ML W A1 A2 z95 B => ?_; rcases z95 with rfl; try clear rr
  refine Asg.tup ok B.tup rfl rfl (Asg.name I 11 rfl (Asg.name I 12 rfl (Asg.name I 13 rfl (Asg.name I 14 rfl (Asgs.nil' ?_)))))
  have Sm : Sub H1 (upd (upd H1 d5 (.list (intV (C.hd ++ inner)))) d6 (.list (intV (C.hd ++ inner ++ C.ts)))) := Sub.trans' (Sub.upd_new hd5) (Sub.upd_new hd6)
  have N1 := (Begun.new' b).moreS Sm
  have h1 : Has _ ((dents D ++ f4L C [s1, s2, s3] inner) ++ ((ml, AO.list [.ref a1, .ref a2]) :: went w)) := (h.sub (Tr.sub N1)).app N1.1
  have nd1 := New.nd h nd N1 (Begun.nd b)
  have N2 := Begun.new' B
  have nd2 := New.nd h1 nd1 N2 (Begun.nd B)
  have h2 := (h1.sub (Tr.sub N2)).app N2.1
  have pm := perm_beg (d := dents D) (w := went w) (W := went W) (s := (C.sp, AO.list (intV [s1, s2, s3]))) (i := (C.il, AO.list (intV inner))) (h := (C.hl, AO.list (intV C.hd))) (t := (C.tl, AO.list (intV C.ts))) (m := (ml, AO.list [.ref a1, .ref a2])) (M := (ML, AO.list [.ref A1, .ref A2]))
  have x : NS (fix0 { C with b := w.b, k := w.K.r, r := w.R.m, ml := ml, a1 := a1, a2 := a2, B := W.b, K := W.K.r, R := W.R.m, ML := ML, A1 := A1, A2 := A2 } [s1, s2, s3] inner) D w W H2 := ⟨h2.of fun p hp => pm.mem_iff.mpr hp, (pm.map (·.1)).nodup_iff.mp nd2⟩
  have rel := rel_beg b B r1 r2
  refine Ex.atM (M' := preM { C with b := w.b, k := w.K.r, r := w.R.m, ml := ml, a1 := a1, a2 := a2, B := W.b, K := W.K.r, R := W.R.m, ML := ML, A1 := A1, A2 := A2 } none none) rfl (law_far0 ok I noX (C := { C with b := w.b, k := w.K.r, r := w.R.m, ml := ml, a1 := a1, a2 := a2, B := W.b, K := W.K.r, R := W.R.m, ML := ML, A1 := A1, A2 := A2 }) (s1 := s1) (s2 := s2) (s3 := s3) (inner := inner) lh lt ⟨dok, dd, b.ok, B.ok, rfl, rfl, rfl, rfl, rfl, rfl, ?_, ?_, ?_, ?_, ?_, ?_, ?_, ?_⟩ ?_ ?_ x rel b.txt ?_)
  · show _ ∈ w.B.mks.map _; rw [b.mks]; exact .head _
  · show _ ∈ w.B.mks.map _; rw [b.mks]; exact .tail _ (.head _)
  · show _ ∈ W.B.mks.map _; rw [B.mks]; exact .head _
  · show _ ∈ W.B.mks.map _; rw [B.mks]; exact .tail _ (.head _)
  · rw [b.mks]; exact Nat.le_refl _
  · show w.K.pcs.map _ = []; rw [b.pcs]; rfl
  · show W.K.pcs.map _ = []; rw [B.pcs]; rfl
  · rw [b.txt]; exact li
  · intro m hm
    rw [B.mks] at hm
    rcases List.mem_cons.mp hm with rfl | hm
    · show (1 : Int) ≤ 2; decide
    · rw [List.mem_singleton.mp hm]; show (2 : Int) ≤ 2; decide
  · rw [B.mks]; exact Nat.le_refl _
  · rw [B.txt, List.length_append, List.length_append]
end
noncomputable def Cx.outer (w : World) (s : Shared) (F : Fn) : Cx :=
  { w := w, A := callerA, env := F.envAt 0, sh := s, h₀ := s.heap, L := 0, base := s.heap, frs := [], vars := [], loc := fun _ _ _ => True, X := fun _ => False, HX := fun _ => none }
theorem enter0 {w : World} {s : Shared} (B : BaseOK w s.heap) {F : Fn} (FO : FnOk F) {m n : Nat} (hb : FnBind F m []) {vs : List Value} (hm : vs.length = m) (hn : n ≤ 20) {Pv : Value → Prop}
    (body : ∀ c : Cx, c.Ok n → InFn c F → c.base = s.heap → (∀ sym, ¬ c.X sym) → Ex c (vs.map (fun v => some (er v)) ++ F.ls.map fun _ => none) (fun _ => none) F.body fun fl _ _ => Pv fl.val) :
    wpAny (model pw w) callerA (call (.ref F.addr) vs) (fun v s' => Pv (er v) ∧ (∀ b o, s.heap.get? b = some o → s'.heap.get? b = some o) ∧ s'.os = s.os ∧ s'.gens = s.gens) (fun _ _ => False) s := by
  have zq := id B; have K := zq.1; refine el3_0 zq.2 fun mean mg mb T => ?_
  refine el3_0 (FO.look w.params) fun oc od osl lk => ?_
  have hkd : ∀ y ∈ F.ps.zip vs, F.sc.names.lookup y.1 = some .local ∨ F.sc.names.lookup y.1 = some .cell := fun y hy => by
    have := List.all_eq_true.mp FO.kinds y.1 (List.mem_append_left _ (List.of_mem_zip hy).1)
    unfold okVar at this
    simp only [Bool.and_eq_true, Bool.or_eq_true, beq_iff_eq] at this
    exact this.1
  have hbn := hb.2 w s vs hm K
  rw [List.append_nil] at hbn
  have hl : F.ps.length = vs.length := by have := hb.1; rw [hm]; exact this
  refine wpAny_call (codeAny_call_function (s := s) (by show 1 + claimMargin + 1 ≤ _; decide +kernel) (K _ _ lk) rfl FO.co FO.gen FO.body (codeRec_of (h := s.heap) K (FO.code _)) (hbn _ _ _ _ ?_))
  rw [FO.clo]
  refine wpAny_newFunctionEnv_cells FO.kind (fun y hy => (hkd y hy).imp id fun e => ⟨e, cellsFrom_some _ _ _ (.inl e)⟩) fun env' hE s' x => ?_
  have hE' : env' = F.envAt s.heap.objs.size := hE
  subst hE'
  refine ⟨T.nolimit.keeps x.toInCall.keep, codeAny_func ?_⟩
  refine el2_1 x.done fun h₁ k₁ z92 _ => ?_; rcases z92 with rfl
  have hk₁ : ∀ b o, s.heap.get? b = some o → h₁.get? b = some o := x.toInCall.keep
  have ok : ((Cx.outer w s F).callee F s.heap.objs.size s.heap s.heap (fun _ => False) fun _ => none).Ok n :=
    callee_okG (c := Cx.outer w s F) (n := n) (by show 1 + claimMargin + 4 * (n + 1) + 8 < _; have : 1 + claimMargin + 4 * (20 + 1) + 8 < recursionLimit := by decide +kernel
                                                  omega) (by show 4 + 20 * (n + 1) + 60 < _; have : 4 + 20 * (20 + 1) + 60 < cLine := by decide +kernel
                                                             omega) rfl rfl FO (fun env he => by cases he) B (fun b o e => e) (Nat.le_refl _)
  have I : InFn ((Cx.outer w s F).callee F s.heap.objs.size s.heap s.heap (fun _ => False) fun _ => none) F :=
    ⟨FO, rfl, rfl, ⟨_, _, _, rfl, rfl⟩, ⟨_, rfl⟩, ⟨_, _, [], rfl, rfl, fun a ha => by cases ha⟩⟩
  have b := body _ ok I rfl fun _ => id
  have hns : h₁.Ns s.heap.objs.size (bindL (F.envAt s.heap.objs.size).kindOf (F.ps.zip vs) fun _ => none) := x.toInCall.ns
  refine b h₁ k₁ ?_ _ _ (fun fl h' k' M' H' r s' => ?_) fun e sym M' h' k' hx f => hx.elim
  · refine ⟨[], fun a => a, fun p hp => by (cases hp), .nil, ⟨fun a o e => (by cases e), fun a C vs e => (by cases e), fun a b C D vs ws e => (by cases e)⟩,
      _, bindC (F.envAt s.heap.objs.size).kindOf (F.ps.zip vs) (fun _ => none), ⟨hns, hk₁, Nat.le_refl _⟩, ⟨by simp [ads], fun a ha => (by cases ha)⟩, fun y ca e => ?_, fun a ha => (by cases ha), ?_⟩
    · have hc := x.cell y ca e
      have ha := x.above y ca (by
        have : (y, ca) ∈ cellsFrom (s.heap.objs.size + 1) F.sc.names [] := by
          refine el2_0 (List.lookup_eq_some_iff.mp e) fun p1 p2 q => ?_
          rw [q.1]; simp
        exact this)
      exact ⟨hc, Heap.get?_none_of_le (Nat.le_of_lt ha), ha, by simp [ads]⟩
    · rw [← memOf_zip F.ps F.ls vs hl FO.nodup]
      refine List.map_congr_left fun y hy => congrArg (Option.map er) ?_
      unfold Fn.val
      rw [bindL_eq, bindC_eq]
      have hko : (F.envAt s.heap.objs.size).kindOf y = F.sc.names.lookup y := rfl
      rw [hko]
      by_cases q : F.sc.names.lookup y = some .local
      · rw [if_pos q, if_pos q]; simp
      · rw [if_neg q, if_neg q]; simp
  · refine el2_3 s' fun news δ N nd A zq => ?_; refine el2_1 zq fun m cm F' _ => ?_; try clear s'
    have r' : Pv (erF fl).val := r
    cases fl <;> exact ⟨r', fun b o e => F'.keep b o e, rfl, rfl⟩
structure PS (D : DD) (fx : HL) (H : AH) : Prop where
  has : Has H (dents D ++ fx)
  nd : (ks (dents D ++ fx)).Nodup
section
variable {D D' : DD} {fx fx' : HL} {H H' : AH}
theorem PS.more (x : PS D fx H) (s : Sub H H') : PS D fx H' := ⟨x.has.sub s, x.nd⟩
theorem PS.hD (x : PS D fx H) : Has H (dents D) := x.has.of fun p hp => List.mem_append_left _ hp
theorem PS.hf (x : PS D fx H) : Has H fx := x.has.of fun p hp => List.mem_append_right _ hp
theorem PS.draw (x : PS D fx H) (o : D'.ok) (T : Tr (dents D) H (dents D') H') : PS D' fx H' := by
  have := part_tr (A := []) x.has x.nd o.nd' T
  exact ⟨this.1.1, this.2⟩
theorem PS.new (x : PS D fx H) {a : Addr} {o : AO} (hn : H a = none) (s : Sub (upd H a o) H') : PS D ((a, o) :: fx) H' := by
  have q : ((a, o) :: (dents D ++ fx)).Perm (dents D ++ ((a, o) :: fx)) := List.perm_middle.symm
  have h : Has H' ((a, o) :: (dents D ++ fx)) := .cons (s _ _ (upd_same _ _ _)) (x.has.sub (Sub.trans' (Sub.upd_new hn) s))
  exact ⟨h.of fun e he => q.mem_iff.mpr he, (q.map (·.1)).nodup_iff.mp (List.nodup_cons.mpr ⟨not_key x.has hn, x.nd⟩)⟩
theorem PS.perm (x : PS D fx H) (p : fx.Perm fx') : PS D fx' H := by
  have q : (dents D ++ fx).Perm (dents D ++ fx') := .append_left _ p
  exact ⟨x.has.of fun e he => q.mem_iff.mpr he, (q.map (·.1)).nodup_iff.mp x.nd⟩
end
section
variable {c : Cx} {M : Mem} {H : AH} {n : Nat} {F : Fn} {P : Value → AH → Prop}
theorem Ev.compR (ok : c.Ok n) (I : InFn c F) (noX : ∀ sym, ¬ c.X sym) {sc : Scope} {x : Str} {caps : List (Str × Nat)} (co : CompOk F sc [x] caps) {elt iter : Expr} {px pos : Pos} (g : Int → Int)
    (hi : Ev c M H iter fun v H1 => ∃ (r : Int) (rg : Addr) (t u w : Tok) (H2 : AH), v = .ref rg ∧ H2 rg = none ∧ H1 = upd H2 rg (.raw (rgO 0 r t u w)) ∧ 0 ≤ r ∧ r ≤ 100 ∧ ∀ (xs : List Int) d H', (xs.length : Int) = r → Sub H2 H' → H' d = none → P (.ref d) (upd H' d (.list (intV xs))))
    (helt : ∀ C H' (i : Int), (c.comp F M C sc [x] caps).Ok n → Pe (c.comp F M C sc [x] caps) (some (.int i 0) :: capV M caps) H' elt (.int (g i) 0))
    (hs : ∀ x, foldedSetIterable iter c.env x = pure x := by intro _; rfl) : Ev c M H (.ListComp elt [⟨.Name x px, iter, [], 0⟩] sc pos) P := by
  refine Ev.comp ok I noX co (fun co => hi.mono fun v H1 h => ?_) hs
  refine el6_5 h fun r rg t u w H2 z96 hn z98 r0 r1 q => ?_; rcases z96 with rfl; rcases z98 with rfl; try clear h
  refine .inr ⟨rg, 0, r, t, u, w, H2, fun i H3 ys => H3 = H2 ∧ ∃ ps : List Int, ys = intV ps ∧ ps.length = i, ⟨_, _, rfl⟩, rfl, upd_same _ _ _, by decide, by decide, by lia, by lia, ?_, Sub.upd_new hn, ⟨rfl, [], rfl, rfl⟩, ?_, ?_⟩
  · have : (r - 0).toNat ≤ 100 := by lia
    exact Nat.le_trans this (Nat.le_of_ble_eq_true rfl)
  · rintro C i us H3 H' ys hi ⟨rfl, ps, rfl, rfl⟩ hS hu
    refine CompStep.name I co hu ⟨true, rfl, fun _ => (helt C H' _ (comp_ok ok I co)).ev ⟨_, ⟨rfl, ps ++ [g (0 + ps.length)], (intV_app ps [_]).symm, by rw [List.length_append]; rfl⟩, Fwd.refl hS⟩, fun hb => by cases hb⟩
  · rintro H3 H' ys d ⟨rfl, ps, rfl, hps⟩ hF hd
    exact q ps d H' (by lia) hF.1 hd
theorem Ev.rgE (ok : c.Ok n) (I : InFn c F) {e : Expr} {p pos : Pos} (hk : F.sc.names.lookup ("range" : Str) = some .globalImplicit) (h : Ev c M H e fun v H1 => ∃ r : Int, v = .int r 0 ∧ ∀ rg t u w, H1 rg = none → P (.ref rg) (upd H1 rg (.raw (rgO 0 r t u w)))) (hn : noStar [e] = true := by rfl) : Ev c M H (.Call (.Name "range" p) [e] [] pos) P :=
  Ev.call ok (Pe.gb ok I gb_range hk (by decide +kernel)) (Solid.typ _) (CW.typ _) hn (h.mono fun v H1 ⟨r, e, q⟩ => by subst e; exact Args.nil' (CallJ.range1 ok q))
end
section
variable {c : Cx} {n : Nat}
theorem law_top (ok : c.Ok (n + 9)) (I : InFn c F796) (noX : ∀ sym, ¬ c.X sym) {l : Addr} {vs : List Value} {ns : List Int} (hl : c.base.IsList l vs.toArray) (hi : vs.map er = intV ns) (hz : ns.length ≤ 63) :
    Ex c (some (.ref l) :: F796.ls.map fun _ => none) (fun _ => none) F796.body fun fl _ _ => fl.val = .bool true := by
  have v := Pe.vars ok I
  refine Ex.let I 1 rfl (Ev.call ok (f := .ref 762) (Pe.gl ok I gf_law_deck.g (by kernel_rfl) gf_law_deck.nd) (Solid.ref _) (CW.ref gf_law_deck.kp) rfl (Args.one (v 0 rfl rfl) (Args.nil' (law_deck (n := n + 8) ok hl hi hz fun D H1 o1 N1 => ?_))))
  have x1 : PS D [] H1 := ⟨by rw [List.append_nil]; exact N1.1, by rw [List.append_nil]; exact o1.nd'⟩
  clear hl hi hz N1
  refine Ex.unpackS2 ok I 2 3 rfl rfl (Ev.tup ok rfl (Ev.compR ok I noX (x := "at") (caps := []) ⟨by decide +kernel, by rfl, by decide +kernel, by decide +kernel, by decide +kernel, by decide +kernel, by decide +kernel⟩ (fun i => 200 + i) (Ev.rgE ok I (by kernel_rfl) (Ev.draw (n := n + 8) ok (I.kind (by kernel_rfl)) x1.hD o1 rfl (v 1 rfl rfl) Pe.int (by decide) (by decide) fun r D2 H2 r0 r1 o2 d2 kk T2 => ⟨r, rfl, fun rg t u w hr => ⟨r, rg, t, u, w, H2, rfl, hr, rfl, r0, by lia, fun hd d H' lh S hl => ?_⟩⟩)) fun C H' i okc => Pe.add Pe.int (Pe.name okc 0 rfl rfl))) (by rw [I.env]; rfl)
  have x2 := ((x1.draw o2 T2).more S).new hl Sub.rfl' (o := .list (intV hd))
  generalize upd H' d (.list (intV hd)) = H3 at *
  clear x1 T2 S hl H'
  refine Ev.compR ok I noX (x := "at") (caps := []) ⟨by decide +kernel, by rfl, by decide +kernel, by decide +kernel, by decide +kernel, by decide +kernel, by decide +kernel⟩ (fun i => 300 + i) (Ev.rgE ok I (by kernel_rfl) (Ev.draw (n := n + 8) ok (I.kind (by kernel_rfl)) x2.hD o2 d2 (v 1 rfl rfl) Pe.int (by decide) (by decide) fun r' D3 H4 r0' r1' o3 d3 kk' T3 => ⟨r', rfl, fun rg t u w hr => ⟨r', rg, t, u, w, H4, rfl, hr, rfl, r0', by lia, fun tl d' H' lt S hl => ⟨Nat.le_of_ble_eq_true rfl, fun tp htp => ⟨tp, _, _, rfl, upd_same _ _ _, ?_⟩⟩⟩⟩)) fun C H' i okc => Pe.add Pe.int (Pe.name okc 0 rfl rfl)
  have x3 := (((x2.draw o3 T3).more S).new hl Sub.rfl' (o := .list (intV tl))).more (Sub.upd_new (o := .tup [.ref d, .ref d']) htp)
  generalize upd (upd H' d' (.list (intV tl))) tp (.tup [.ref d, .ref d']) = H5 at *
  clear x2 T3 S hl htp
  refine Ex.unpack2 ok I 4 5 rfl rfl (Ev.tup ok rfl (Ev.compR ok I noX (x := "at") (caps := []) ⟨by decide +kernel, by rfl, by decide +kernel, by decide +kernel, by decide +kernel, by decide +kernel, by decide +kernel⟩ (fun i => i.fmod 4) (Ev.rgE ok I (by kernel_rfl) (Ev.op (Pe.int.ev (Ev.draw (n := n + 8) ok (I.kind (by kernel_rfl)) x3.hD o3 d3 (v 1 rfl rfl) Pe.int (by decide) (by decide) fun k D4 H6 k0 k1 o4 d4 kk4 T4 => ⟨_, Op.add, _, rfl, fun rg t u w hr => ⟨1 + k, rg, t, u, w, H6, rfl, hr, rfl, by lia, by lia, fun inn di H7 li S hl => ?_⟩⟩)))) fun C H' i okc => Pe.op (Pe.name okc 0 rfl rfl) Pe.int (Op.mod (by decide)))) (hw := by rw [I.env]; rfl)
  have x4 := ((x3.draw o4 T4).more S).new hl Sub.rfl' (o := .list (intV inn))
  generalize upd H7 di (.list (intV inn)) = H8 at *
  clear x3 T4 S hl
  have gh : H8 d = some (.list (intV hd)) := x4.hf _ (.tail _ (.tail _ (.head _)))
  refine Args.one (Pe.len ok I (v 2 rfl rfl) gh (by lia) rfl (by kernel_rfl)) ⟨Nat.le_of_ble_eq_true rfl, fun tp htp => ⟨tp, _, _, rfl, upd_same _ _ _, ?_⟩⟩
  have x5 := x4.more (Sub.upd_new (o := .tup [.ref di, .int hd.length 0]) htp)
  generalize upd H8 tp (.tup [.ref di, .int hd.length 0]) = H9 at *
  clear x4 gh htp
  have l1 : (inn.length : Int) = 1 + k := li
  refine Ex.letComp ok I noX (ns := ["at"]) (caps := [("deck", 1), ("inner", 4)]) ⟨by decide +kernel, by rfl, by decide +kernel, by decide +kernel, by decide +kernel, by decide +kernel, by decide +kernel⟩ 6 rfl (by rw [I.env]; rfl) fun co => (Ev.call ok (Pe.gb ok I gb_range (by kernel_rfl) (by decide +kernel)) (Solid.typ _) (CW.typ _) rfl (Args.one Pe.int (Args.nil' (CallJ.range1 ok fun r t u w hr => ?_))))
  refine .inr ⟨r, 0, 3, t, u, w, ofL (dents D4 ++ [(di, .list (intV inn)), (d', .list (intV tl)), (d, .list (intV hd))]), fun i H3 ys => ∃ (Di : DD) (ps : List Int), Di.ok ∧ Di.d = D.d ∧ H3 = ofL (dents Di ++ [(di, .list (intV inn)), (d', .list (intV tl)), (d, .list (intV hd))]) ∧ (ks (dents Di ++ [(di, .list (intV inn)), (d', .list (intV tl)), (d, .list (intV hd))])).Nodup ∧ ys = intV ps ∧ ps.length = i ∧ ∀ p ∈ ps, 1 ≤ p ∧ p ≤ inn.length + 1, ⟨_, _, rfl⟩, rfl, upd_same _ _ _, by decide, by decide, by decide, by decide, by decide, (x5.has.sub (Sub.upd_new hr)).ofL, ⟨D4, [], o4, d4, rfl, x5.nd, rfl, rfl, fun p hp => by cases hp⟩, ?_, ?_⟩
  · rintro C i us H3 H' ys hi ⟨Di, ps, oi, dj, rfl, ndi, rfl, rfl, hps⟩ hS hu
    have okc := comp_ok (M := [some (.ref l), some (.ref D.d), some (.ref d), some (.ref d'), some (.ref di), some (.int hd.length 0), none, none, none, none, none, none, none, none, none, none, none, none, none, none, none]) (C := C) ok I co
    have y : PS Di [(di, .list (intV inn)), (d', .list (intV tl)), (d, .list (intV hd))] H' := ⟨ofL_sub hS ndi, ndi⟩
    have gi : H' di = some (.list (intV inn)) := y.hf _ (.head _)
    have hln : ∀ {c' : Cx} {M' : Mem}, CallP c' M' H' (.builtin "len") [.ref di] (.int inn.length 0) := fun {c' M'} => by
      have := CallP.len (c := c') (M := M') gi (by unfold intV; rw [List.length_map]; lia)
      rwa [show (intV inn).length = inn.length by unfold intV; rw [List.length_map]] at this
    refine CompStep.name I co hu ⟨true, rfl, fun _ => Ev.op (Pe.int.ev (Ev.draw (n := n + 8) okc (comp_kind (by kernel_rfl)) y.hD oi dj (Pe.name okc 1 rfl rfl) (Pe.add (Pe.call okc (Pe.blt okc gb_len (comp_kind (by kernel_rfl)) (by decide +kernel)) (Solid.blt _) (CW.blt _) rfl (.cons (Pe.name okc 2 rfl rfl) .nil) hln) Pe.int) (by lia) (by lia) fun q D5 H6 q0 q1 o5 d5 kk5 T5 => ⟨_, Op.add, ?_⟩)), fun hb => by cases hb⟩
    have z := part_tr (A := []) y.has y.nd o5.nd' T5
    refine ⟨_, ⟨D5, ps ++ [1 + q], o5, d5, rfl, z.2, (intV_app ps [1 + q]).symm, by rw [List.length_append]; rfl, fun p hp => ?_⟩, z.1.toFwd⟩
    rcases List.mem_append.mp hp with hp | hp
    · exact hps p hp
    · rw [List.mem_singleton.mp hp]; lia
  · rintro H3 H' ys sp ⟨Di, ps, oi, dj, rfl, ndi, rfl, hl3, hps⟩ hF hsp
    have y : PS Di [(di, .list (intV inn)), (d', .list (intV tl)), (d, .list (intV hd))] H' := ⟨(Tr.ofFwd ndi hF).1, ndi⟩
    have y := y.new hsp Sub.rfl' (o := .list (intV ps))
    obtain ⟨s1, s2, s3, rfl⟩ : ∃ s1 s2 s3, ps = [s1, s2, s3] := by
      match ps, hl3 with
      | [a, b, c], _ => exact ⟨a, b, c, rfl⟩
    have y := y.perm (fx' := [(sp, .list (intV [s1, s2, s3])), (di, .list (intV inn)), (d, .list (intV hd)), (d', .list (intV tl))]) (.cons _ (.cons _ (.swap _ _ _)))
    refine Ex.atM (M' := begM0 ⟨l, D.d, 0, 0, 0, 0, 0, 0, 0, 0, 0, 0, 0, 0, d, d', di, sp, 0, 0, 0, 0, hd, tl, 0, 0, none, none⟩) rfl (law_beg ok I noX (C := ⟨l, D.d, 0, 0, 0, 0, 0, 0, 0, 0, 0, 0, 0, 0, d, d', di, sp, 0, 0, 0, 0, hd, tl, 0, 0, none, none⟩) (s1 := s1) (s2 := s2) (s3 := s3) (inner := inn) (by show hd.length ≤ 3; lia) (by show tl.length ≤ 3; lia) (by lia) (hps s1 (.head _)) (hps s2 (.tail _ (.head _))) oi dj y.has y.nd)
end
theorem law_holds : RW.Holds := head fun w s l vs ns st hl hi hz => by
  refine wpAny_mono (enter0 (w := w) (s := s) ⟨st.2.1, st.2.2⟩ F796_ok (n := 9) F796_b1 (vs := [.ref l]) rfl (by decide) (Pv := fun v => v = .bool true) fun c ok I hB noX => ?_) (fun v s' h => ⟨er_bool h.1, h.2.1, h.2.2.1, h.2.2.2.trans st.1⟩) fun _ _ f => f
  exact law_top (n := 0) ok I noX (by rw [hB]; exact hl) (intsAre_er hi) hz
end Nw
theorem PySem.Challenge.cw_pq0293_01_holds : PySem.Challenge.rw_pq0293_01.Holds :=
  Nw.law_holds

import PyProof.Rows.All
import Wide.All
import OpenK.AllK
import Wide.FinOn
import PySem.Challenge.RW_on0076_01
set_option Elab.async false
set_option maxRecDepth 100000
set_option maxHeartbeats 8000000
set_option linter.unusedVariables false
section
open PySem PySem.W PySem.Calls PyProof.Rows
namespace Mine
/-- the def, and the method, that stand at a place of the text -/
noncomputable def stm (i : Nat) : Stmt := (PySem.Challenge.pw_on0076_01.main.body[i]?).getD (.Pass default)
noncomputable def mth (i j : Nat) : Stmt := match stm i with
  | .ClassDef _ _ _ b .. => (b[j]?).getD (.Pass default)
  | s => s
noncomputable def kE (P : Params) (x : Str) (t : Nat) (v : Value) : DictEntry := ⟨PyData.keyHash P x, .str x t, v⟩
noncomputable def fO (s : Stmt) (q md : Str) (tk c : Nat) (dfl : Value := .none) : Obj := match s with
  | .FunctionDef name ps body _ _ _ sc _ _ _ => ⟨.type "function", none, .func (fnOf name q ps body sc dfl .none .none (.str md tk) none (.ref c) .none), #[]⟩
  | _ => default
noncomputable def k2 (P : Params) : Obj := ⟨.none, none, .dict [kE P "type.__subclasses__.Exception.0" 223 (.int 38 0), kE P "type.__subclasses__.Exception.n" 224 (.int 1 0)].toArray 2, #[]⟩
noncomputable def mE (P : Params) : List DictEntry := [kE P "__doc__" 166 (.none), kE P "__package__" 167 (.none), kE P "__loader__" 168 (.builtin "__main__.__loader__#opaque"), kE P "__spec__" 169 (.none), kE P "__annotations__" 170 (.ref 6), kE P "__builtins__" 171 (.ref 4), kE P "__file__" 173 (.str "/claim/cut.py" 172), kE P "__cached__" 174 (.none), kE P "_wall" 193 (.ref 21), kE P "LispSignal" 226 (.ref 38), kE P "standard_messages" 232 (.ref 48), kE P "message_with" 238 (.ref 53), kE P "message_of" 247 (.ref 60), kE P "set_marker" 258 (.ref 67), kE P "Many" 289 (.ref 84), kE P "is_many" 296 (.ref 95), kE P "is_minus" 303 (.ref 102), kE P "numeric" 310 (.ref 109), kE P "need_writable" 319 (.ref 116), kE P "reached" 330 (.ref 123), kE P "tell_ahead" 340 (.ref 130), kE P "tell_behind" 351 (.ref 137), kE P "text_out" 361 (.ref 144), kE P "text_in" 370 (.ref 151), kE P "hung_out" 379 (.ref 158), kE P "hung_in" 389 (.ref 165), kE P "put_in" 400 (.ref 272), kE P "put_in_editing" 401 (.ref 172), kE P "insert_at" 411 (.ref 180), kE P "insert" 420 (.ref 188), kE P "delete" 432 (.ref 195), kE P "replace" 446 (.ref 202), kE P "NEWLINE" 450 (.int 10 449), kE P "line_start" 459 (.ref 209), kE P "line_end" 468 (.ref 216), kE P "TAB" 472 (.int 9 471), kE P "BLANK" 474 (.int 32 473), kE P "column_behind" 483 (.ref 223), kE P "column_at" 494 (.ref 230), kE P "row_columns" 502 (.ref 237), kE P "place_at" 513 (.ref 244), kE P "opened" 525 (.ref 251), kE P "padded" 534 (.ref 258), kE P "cut_at" 545 (.ref 265), kE P "put_in_rectcols" 558 (.ref 272), kE P "ROW_END" 562 (.int 10 561), kE P "rows_in" 571 (.ref 279), kE P "text_of" 580 (.ref 286), kE P "column_of" 590 (.ref 293), kE P "yank_rectangle" 596 (.ref 298), kE P "behind_last" 610 (.ref 305), kE P "row_columns_from" 619 (.ref 312), kE P "Registers" 649 (.ref 329), kE P "held" 657 (.ref 340), kE P "put" 666 (.ref 347), kE P "need" 676 (.ref 354), kE P "point_to_register" 685 (.ref 361), kE P "place_of_register" 694 (.ref 368), kE P "copy_to_register" 708 (.ref 375), kE P "joined_to_register" 727 (.ref 382), kE P "number_to_register" 736 (.ref 389), kE P "increment_register" 745 (.ref 396), kE P "number_codes" 751 (.ref 401), kE P "insert_register" 763 (.ref 408), kE P "do_point_to_register" 775 (.ref 415), kE P "do_jump_to_register" 784 (.ref 422), kE P "do_copy_to_register" 792 (.ref 429), kE P "do_append_to_register" 801 (.ref 436), kE P "do_prepend_to_register" 810 (.ref 443), kE P "do_insert_register" 819 (.ref 450), kE P "do_number_to_register" 827 (.ref 457), kE P "do_increment_register" 835 (.ref 464), kE P "GapText" 955 (.ref 551), kE P "Opaque" 999 (.ref 586), kE P "Marker" 1054 (.ref 628), kE P "Markers" 1152 (.ref 696), kE P "Buffer" 1291 (.ref 802), kE P "BufferTable" 1430 (.ref 906), kE P "Amalgam" 1461 (.ref 927), kE P "Editor" 1674 (.ref 1081), kE P "_law_draw" 1684 (.ref 1092), kE P "_law_pick" 1692 (.ref 1099), kE P "_law_editor" 1702 (.ref 1106), kE P "_law_moved" 1716 (.ref 1113), kE P "_law_taken" 1730 (.ref 1120), kE P "_law_kept" 1740 (.ref 1127), kE P "_law_text" 1755 (.ref 1134), kE P "_law_put" 1761 (.ref 1139), kE P "_law_due" 1775 (.ref 1146), kE P "_law_does" 1791 (.ref 1153), kE P "_law_told" 1802 (.ref 1160), kE P "law" 1808 (.ref 1165)]
noncomputable def k3 (P : Params) : Obj := ⟨.type "dict", none, .dict (kE P "__name__" 165 (.str "law_on0076_01" 1675) :: mE P).toArray 93, #[]⟩
noncomputable def k35 : Obj := fO (mth 2 0) "LispSignal.__init__" "emacs.errors" 194 34
noncomputable def k37 (P : Params) : Obj := ⟨.type "dict", none, .dict [kE P "__module__" 203 (.str "emacs.errors" 194), kE P "__firstlineno__" 207 (.int 5 206), kE P "__init__" 216 (.ref 35), kE P "__static_attributes__" 219 (.ref 36), kE P "__weakref__" 221 (.ref 39), kE P "__doc__" 222 (.none)].toArray 3, #[]⟩
noncomputable def k38 : Obj := ⟨.type "type", none, .cls { name := "LispSignal", bases := [.type "Exception"], mro := [.ref 38, .type "Exception", .type "BaseException", .type "object"], ns := 37, qualname := "LispSignal", hasDict := true, slotNames := [], subclasses := [], abstract := false, collection := none, hasDel := false }, #[some (.ref 22), none, some (.str "LispSignal" 196), some (.str "LispSignal" 204), some (.builtin "Exception.__new__"), some (.bool true)]⟩
noncomputable def k67 : Obj := fO (stm 7) "set_marker" "emacs.placing" 248 66
noncomputable def k83 (P : Params) : Obj := ⟨.type "dict", none, .dict [kE P "__module__" 268 (.str "emacs.prefixargs" 259), kE P "__firstlineno__" 272 (.int 31 271), kE P "__init__" 280 (.ref 81), kE P "__static_attributes__" 282 (.ref 82), kE P "__dict__" 284 (.ref 85), kE P "__weakref__" 286 (.ref 86), kE P "__doc__" 287 (.none)].toArray 4, #[]⟩
noncomputable def k84 : Obj := ⟨.type "type", none, .cls { name := "Many", bases := [.type "object"], mro := [.ref 84, .type "object"], ns := 83, qualname := "Many", hasDict := true, slotNames := [], subclasses := [], abstract := false, collection := none, hasDel := false }, #[none, none, some (.str "Many" 261), some (.str "Many" 269), some (.builtin "object.__new__"), some (.bool true)]⟩
noncomputable def k95 : Obj := fO (stm 10) "is_many" "emacs.prefixargs" 259 94
noncomputable def k102 : Obj := fO (stm 11) "is_minus" "emacs.prefixargs" 259 101
noncomputable def k109 : Obj := fO (stm 12) "numeric" "emacs.prefixargs" 259 108
noncomputable def k116 : Obj := fO (stm 14) "need_writable" "emacs.editing" 311 115
noncomputable def k123 : Obj := fO (stm 15) "reached" "emacs.editing" 311 122
noncomputable def k130 : Obj := fO (stm 16) "tell_ahead" "emacs.editing" 311 129
noncomputable def k137 : Obj := fO (stm 17) "tell_behind" "emacs.editing" 311 136
noncomputable def k144 : Obj := fO (stm 18) "text_out" "emacs.editing" 311 143
noncomputable def k151 : Obj := fO (stm 19) "text_in" "emacs.editing" 311 150
noncomputable def k158 : Obj := fO (stm 20) "hung_out" "emacs.editing" 311 157
noncomputable def k165 : Obj := fO (stm 21) "hung_in" "emacs.editing" 311 164
noncomputable def k172 : Obj := fO (stm 22) "put_in" "emacs.editing" 311 171
noncomputable def k173 : Obj := ⟨.type "tuple", none, .seq [.bool false].toArray 0, #[]⟩
noncomputable def k180 : Obj := fO (stm 24) "insert_at" "emacs.editing" 311 179 (.ref 173)
noncomputable def k181 : Obj := ⟨.type "tuple", none, .seq [.bool false].toArray 0, #[]⟩
noncomputable def k188 : Obj := fO (stm 25) "insert" "emacs.editing" 311 187 (.ref 181)
noncomputable def k195 : Obj := fO (stm 26) "delete" "emacs.editing" 311 194
noncomputable def k326 : Obj := fO (mth 53 0) "Registers.__init__" "emacs.registers" 620 325
noncomputable def k328 (P : Params) : Obj := ⟨.type "dict", none, .dict [kE P "__module__" 629 (.str "emacs.registers" 620), kE P "__firstlineno__" 633 (.int 231 632), kE P "__init__" 640 (.ref 326), kE P "__static_attributes__" 642 (.ref 327), kE P "__dict__" 644 (.ref 330), kE P "__weakref__" 646 (.ref 331), kE P "__doc__" 647 (.none)].toArray 4, #[]⟩
noncomputable def k329 : Obj := ⟨.type "type", none, .cls { name := "Registers", bases := [.type "object"], mro := [.ref 329, .type "object"], ns := 328, qualname := "Registers", hasDict := true, slotNames := [], subclasses := [], abstract := false, collection := none, hasDel := false }, #[none, none, some (.str "Registers" 622), some (.str "Registers" 630), some (.builtin "object.__new__"), some (.bool true)]⟩
noncomputable def k340 : Obj := fO (stm 54) "held" "emacs.registers" 620 339
noncomputable def k347 : Obj := fO (stm 55) "put" "emacs.registers" 620 346
noncomputable def k354 : Obj := fO (stm 56) "need" "emacs.registers" 620 353
noncomputable def k361 : Obj := fO (stm 57) "point_to_register" "emacs.registers" 620 360
noncomputable def k368 : Obj := fO (stm 58) "place_of_register" "emacs.registers" 620 367
noncomputable def k375 : Obj := fO (stm 59) "copy_to_register" "emacs.registers" 620 374
noncomputable def k382 : Obj := fO (stm 60) "joined_to_register" "emacs.registers" 620 381
noncomputable def k389 : Obj := fO (stm 61) "number_to_register" "emacs.registers" 620 388
noncomputable def k396 : Obj := fO (stm 62) "increment_register" "emacs.registers" 620 395
noncomputable def k401 : Obj := fO (stm 63) "number_codes" "emacs.registers" 620 400
noncomputable def k408 : Obj := fO (stm 64) "insert_register" "emacs.registers" 620 407
noncomputable def k415 : Obj := fO (stm 66) "do_point_to_register" "emacs.keepcommands" 764 414
noncomputable def k422 : Obj := fO (stm 67) "do_jump_to_register" "emacs.keepcommands" 764 421
noncomputable def k429 : Obj := fO (stm 68) "do_copy_to_register" "emacs.keepcommands" 764 428
noncomputable def k436 : Obj := fO (stm 69) "do_append_to_register" "emacs.keepcommands" 764 435
noncomputable def k443 : Obj := fO (stm 70) "do_prepend_to_register" "emacs.keepcommands" 764 442
noncomputable def k450 : Obj := fO (stm 71) "do_insert_register" "emacs.keepcommands" 764 449
noncomputable def k457 : Obj := fO (stm 72) "do_number_to_register" "emacs.keepcommands" 764 456
noncomputable def k464 : Obj := fO (stm 73) "do_increment_register" "emacs.keepcommands" 764 463
noncomputable def k478 : Obj := fO (mth 75 0) "GapText.__init__" "emacs.gap" 836 477
noncomputable def k485 : Obj := fO (mth 75 1) "GapText.size" "emacs.gap" 836 484
noncomputable def k499 : Obj := fO (mth 75 3) "GapText.codes" "emacs.gap" 836 498
noncomputable def k506 : Obj := fO (mth 75 4) "GapText.move_gap" "emacs.gap" 836 505
noncomputable def k513 : Obj := fO (mth 75 5) "GapText.widen_gap" "emacs.gap" 836 512
noncomputable def k520 : Obj := fO (mth 75 6) "GapText.insert" "emacs.gap" 836 519
noncomputable def k527 : Obj := fO (mth 75 7) "GapText.delete" "emacs.gap" 836 526
noncomputable def k550 (P : Params) : Obj := ⟨.type "dict", none, .dict [kE P "__module__" 845 (.str "emacs.gap" 836), kE P "__firstlineno__" 849 (.int 313 848), kE P "__init__" 858 (.ref 478), kE P "size" 865 (.ref 485), kE P "code" 873 (.ref 492), kE P "codes" 883 (.ref 499), kE P "move_gap" 892 (.ref 506), kE P "widen_gap" 901 (.ref 513), kE P "insert" 910 (.ref 520), kE P "delete" 920 (.ref 527), kE P "put" 929 (.ref 534), kE P "narrow_gap" 936 (.ref 541), kE P "is_whole" 943 (.ref 548), kE P "__static_attributes__" 948 (.ref 549), kE P "__dict__" 950 (.ref 552), kE P "__weakref__" 952 (.ref 553), kE P "__doc__" 953 (.none)].toArray 4, #[]⟩
noncomputable def k551 : Obj := ⟨.type "type", none, .cls { name := "GapText", bases := [.type "object"], mro := [.ref 551, .type "object"], ns := 550, qualname := "GapText", hasDict := true, slotNames := [], subclasses := [], abstract := false, collection := none, hasDel := false }, #[none, none, some (.str "GapText" 838), some (.str "GapText" 846), some (.builtin "object.__new__"), some (.bool true)]⟩
noncomputable def k585 (P : Params) : Obj := ⟨.type "dict", none, .dict [kE P "__module__" 965 (.str "emacs.objects" 956), kE P "__firstlineno__" 969 (.int 379 968), kE P "shown" 976 (.ref 569), kE P "kind" 983 (.ref 576), kE P "same_as" 991 (.ref 583), kE P "__static_attributes__" 992 (.ref 584), kE P "__dict__" 994 (.ref 587), kE P "__weakref__" 996 (.ref 588), kE P "__doc__" 997 (.none)].toArray 4, #[]⟩
noncomputable def k586 : Obj := ⟨.type "type", none, .cls { name := "Opaque", bases := [.type "object"], mro := [.ref 586, .type "object"], ns := 585, qualname := "Opaque", hasDict := true, slotNames := [], subclasses := [.ref 628, .ref 802], abstract := false, collection := none, hasDel := false }, #[none, none, some (.str "Opaque" 958), some (.str "Opaque" 966), some (.builtin "object.__new__"), some (.bool true)]⟩
noncomputable def k604 : Obj := fO (mth 79 0) "Marker.__init__" "emacs.markers" 1000 603
noncomputable def k627 (P : Params) : Obj := ⟨.type "dict", none, .dict [kE P "__module__" 1009 (.str "emacs.markers" 1000), kE P "__firstlineno__" 1013 (.int 390 1012), kE P "__init__" 1022 (.ref 604), kE P "shown" 1031 (.ref 611), kE P "kind" 1038 (.ref 618), kE P "same_as" 1046 (.ref 625), kE P "__static_attributes__" 1051 (.ref 626), kE P "__doc__" 1052 (.none)].toArray 2, #[]⟩
noncomputable def k628 : Obj := ⟨.type "type", none, .cls { name := "Marker", bases := [.ref 586], mro := [.ref 628, .ref 586, .type "object"], ns := 627, qualname := "Marker", hasDict := true, slotNames := [], subclasses := [], abstract := false, collection := none, hasDel := false }, #[some (.ref 591), none, some (.str "Marker" 1002), some (.str "Marker" 1010), some (.builtin "object.__new__"), some (.bool true)]⟩
noncomputable def k644 : Obj := fO (mth 80 0) "Markers.__init__" "emacs.markers" 1000 643
noncomputable def k651 : Obj := fO (mth 80 1) "Markers.numbers" "emacs.markers" 1000 650
noncomputable def k658 : Obj := fO (mth 80 2) "Markers.put" "emacs.markers" 1000 657
noncomputable def k679 : Obj := fO (mth 80 5) "Markers.inserted" "emacs.markers" 1000 678
noncomputable def k686 : Obj := fO (mth 80 6) "Markers.deleted" "emacs.markers" 1000 685
noncomputable def k695 (P : Params) : Obj := ⟨.type "dict", none, .dict [kE P "__module__" 1062 (.str "emacs.markers" 1000), kE P "__firstlineno__" 1066 (.int 408 1065), kE P "__init__" 1073 (.ref 644), kE P "numbers" 1080 (.ref 651), kE P "put" 1089 (.ref 658), kE P "drop" 1097 (.ref 665), kE P "within" 1108 (.ref 672), kE P "inserted" 1120 (.ref 679), kE P "deleted" 1131 (.ref 686), kE P "replaced" 1143 (.ref 693), kE P "__static_attributes__" 1145 (.ref 694), kE P "__dict__" 1147 (.ref 697), kE P "__weakref__" 1149 (.ref 698), kE P "__doc__" 1150 (.none)].toArray 4, #[]⟩
noncomputable def k696 : Obj := ⟨.type "type", none, .cls { name := "Markers", bases := [.type "object"], mro := [.ref 696, .type "object"], ns := 695, qualname := "Markers", hasDict := true, slotNames := [], subclasses := [], abstract := false, collection := none, hasDel := false }, #[none, none, some (.str "Markers" 1055), some (.str "Markers" 1063), some (.builtin "object.__new__"), some (.bool true)]⟩
noncomputable def k708 : Obj := ⟨.type "tuple", none, .seq [.int 8 1167].toArray 0, #[]⟩
noncomputable def k715 : Obj := fO (mth 82 0) "Buffer.__init__" "emacs.buffer" 1153 714 (.ref 708)
noncomputable def k750 : Obj := fO (mth 82 5) "Buffer.size" "emacs.buffer" 1153 749
noncomputable def k764 : Obj := fO (mth 82 7) "Buffer.codes" "emacs.buffer" 1153 763
noncomputable def k771 : Obj := fO (mth 82 8) "Buffer.goto" "emacs.buffer" 1153 770
noncomputable def k799 : Obj := fO (mth 82 12) "Buffer.touch" "emacs.buffer" 1153 798
noncomputable def k801 (P : Params) : Obj := ⟨.type "dict", none, .dict [kE P "__module__" 1162 (.str "emacs.buffer" 1153), kE P "__firstlineno__" 1166 (.int 453 1165), kE P "__init__" 1177 (.ref 715), kE P "shown" 1184 (.ref 722), kE P "kind" 1191 (.ref 729), kE P "begin" 1198 (.ref 736), kE P "end" 1205 (.ref 743), kE P "size" 1212 (.ref 750), kE P "code_at" 1220 (.ref 757), kE P "codes" 1229 (.ref 764), kE P "goto" 1237 (.ref 771), kE P "tick" 1244 (.ref 778), kE P "is_modified" 1251 (.ref 785), kE P "set_modified" 1259 (.ref 792), kE P "touch" 1267 (.ref 799), kE P "__static_attributes__" 1288 (.ref 800), kE P "__doc__" 1289 (.none)].toArray 2, #[]⟩
noncomputable def k802 : Obj := ⟨.type "type", none, .cls { name := "Buffer", bases := [.ref 586], mro := [.ref 802, .ref 586, .type "object"], ns := 801, qualname := "Buffer", hasDict := true, slotNames := [], subclasses := [], abstract := false, collection := none, hasDel := false }, #[some (.ref 701), none, some (.str "Buffer" 1155), some (.str "Buffer" 1163), some (.builtin "object.__new__"), some (.bool true)]⟩
noncomputable def k818 : Obj := fO (mth 84 0) "BufferTable.__init__" "emacs.buffers" 1292 817
noncomputable def k825 : Obj := fO (mth 84 1) "BufferTable.by_number" "emacs.buffers" 1292 824
noncomputable def k832 : Obj := fO (mth 84 2) "BufferTable.by_name" "emacs.buffers" 1292 831
noncomputable def k839 : Obj := fO (mth 84 3) "BufferTable.create" "emacs.buffers" 1292 838
noncomputable def k861 : Obj := fO (mth 84 6) "BufferTable.select" "emacs.buffers" 1292 860
noncomputable def k868 : Obj := fO (mth 84 7) "BufferTable.set_current" "emacs.buffers" 1292 867
noncomputable def k896 : Obj := fO (mth 84 11) "BufferTable.new_marker" "emacs.buffers" 1292 895
noncomputable def k905 (P : Params) : Obj := ⟨.type "dict", none, .dict [kE P "__module__" 1301 (.str "emacs.buffers" 1292), kE P "__firstlineno__" 1305 (.int 518 1304), kE P "__init__" 1312 (.ref 818), kE P "by_number" 1320 (.ref 825), kE P "by_name" 1329 (.ref 832), kE P "create" 1338 (.ref 839), kE P "fresh_name" 1348 (.ref 847), kE P "rename" 1358 (.ref 854), kE P "select" 1366 (.ref 861), kE P "set_current" 1374 (.ref 868), kE P "bury" 1382 (.ref 875), kE P "other" 1391 (.ref 882), kE P "kill" 1399 (.ref 889), kE P "new_marker" 1407 (.ref 896), kE P "marker_at" 1417 (.ref 903), kE P "__static_attributes__" 1423 (.ref 904), kE P "__dict__" 1425 (.ref 907), kE P "__weakref__" 1427 (.ref 908), kE P "__doc__" 1428 (.none)].toArray 4, #[]⟩
noncomputable def k906 : Obj := ⟨.type "type", none, .cls { name := "BufferTable", bases := [.type "object"], mro := [.ref 906, .type "object"], ns := 905, qualname := "BufferTable", hasDict := true, slotNames := [], subclasses := [], abstract := false, collection := none, hasDel := false }, #[none, none, some (.str "BufferTable" 1294), some (.str "BufferTable" 1302), some (.builtin "object.__new__"), some (.bool true)]⟩
noncomputable def k924 : Obj := fO (mth 86 0) "Amalgam.__init__" "emacs.amalgam" 1431 923
noncomputable def k926 (P : Params) : Obj := ⟨.type "dict", none, .dict [kE P "__module__" 1440 (.str "emacs.amalgam" 1431), kE P "__firstlineno__" 1444 (.int 580 1443), kE P "__init__" 1451 (.ref 924), kE P "__static_attributes__" 1454 (.ref 925), kE P "__dict__" 1456 (.ref 928), kE P "__weakref__" 1458 (.ref 929), kE P "__doc__" 1459 (.none)].toArray 4, #[]⟩
noncomputable def k927 : Obj := ⟨.type "type", none, .cls { name := "Amalgam", bases := [.type "object"], mro := [.ref 927, .type "object"], ns := 926, qualname := "Amalgam", hasDict := true, slotNames := [], subclasses := [], abstract := false, collection := none, hasDel := false }, #[none, none, some (.str "Amalgam" 1433), some (.str "Amalgam" 1441), some (.builtin "object.__new__"), some (.bool true)]⟩
noncomputable def k945 : Obj := fO (mth 88 0) "Editor.__init__" "emacs.editor" 1462 944
noncomputable def k952 : Obj := fO (mth 88 1) "Editor.current" "emacs.editor" 1462 951
noncomputable def k1080 (P : Params) : Obj := ⟨.type "dict", none, .dict [kE P "__module__" 1471 (.str "emacs.editor" 1462), kE P "__firstlineno__" 1475 (.int 586 1474), kE P "__init__" 1485 (.ref 945), kE P "current" 1492 (.ref 952), kE P "is_asking" 1499 (.ref 959), kE P "maps" 1506 (.ref 966), kE P "lookup" 1514 (.ref 973), kE P "inserting" 1522 (.ref 980), kE P "spec" 1530 (.ref 987), kE P "run" 1539 (.ref 994), kE P "hand" 1548 (.ref 1001), kE P "need_writable" 1555 (.ref 1008), kE P "shift_select" 1563 (.ref 1015), kE P "set_mark" 1571 (.ref 1022), kE P "joined_sort" 1579 (.ref 1029), kE P "before_command" 1587 (.ref 1036), kE P "after_command" 1595 (.ref 1043), kE P "ask" 1604 (.ref 1050), kE P "end_question" 1611 (.ref 1057), kE P "error" 1619 (.ref 1064), kE P "insert_event" 1628 (.ref 1071), kE P "insert_text" 1636 (.ref 1078), kE P "__static_attributes__" 1667 (.ref 1079), kE P "__dict__" 1669 (.ref 1082), kE P "__weakref__" 1671 (.ref 1083), kE P "__doc__" 1672 (.none)].toArray 4, #[]⟩
noncomputable def k1081 : Obj := ⟨.type "type", none, .cls { name := "Editor", bases := [.type "object"], mro := [.ref 1081, .type "object"], ns := 1080, qualname := "Editor", hasDict := true, slotNames := [], subclasses := [], abstract := false, collection := none, hasDel := false }, #[none, none, some (.str "Editor" 1464), some (.str "Editor" 1472), some (.builtin "object.__new__"), some (.bool true)]⟩
noncomputable def k1092 : Obj := fO (stm 90) "_law_draw" "law_on0076_01" 1675 1091
noncomputable def k1099 : Obj := fO (stm 91) "_law_pick" "law_on0076_01" 1675 1098
noncomputable def k1106 : Obj := fO (stm 92) "_law_editor" "law_on0076_01" 1675 1105
noncomputable def k1113 : Obj := fO (stm 93) "_law_moved" "law_on0076_01" 1675 1112
noncomputable def k1120 : Obj := fO (stm 94) "_law_taken" "law_on0076_01" 1675 1119
noncomputable def k1127 : Obj := fO (stm 95) "_law_kept" "law_on0076_01" 1675 1126
noncomputable def k1134 : Obj := fO (stm 96) "_law_text" "law_on0076_01" 1675 1133
noncomputable def k1139 : Obj := fO (stm 97) "_law_put" "law_on0076_01" 1675 1138
noncomputable def k1146 : Obj := fO (stm 98) "_law_due" "law_on0076_01" 1675 1145
noncomputable def k1153 : Obj := fO (stm 99) "_law_does" "law_on0076_01" 1675 1152
noncomputable def k1160 : Obj := fO (stm 100) "_law_told" "law_on0076_01" 1675 1159
noncomputable def k1165 : Obj := fO (stm 101) "law" "law_on0076_01" 1675 1164
noncomputable def KF (P : Params) : Frag := [(2, k2 P), (3, k3 P), (35, k35), (37, k37 P), (38, k38), (67, k67), (83, k83 P), (84, k84), (95, k95), (102, k102), (109, k109), (116, k116), (123, k123), (130, k130), (137, k137), (144, k144), (151, k151), (158, k158), (165, k165), (172, k172), (173, k173), (180, k180), (181, k181), (188, k188), (195, k195), (326, k326), (328, k328 P), (329, k329), (340, k340), (347, k347), (354, k354), (361, k361), (368, k368), (375, k375), (382, k382), (389, k389), (396, k396), (401, k401), (408, k408), (415, k415), (422, k422), (429, k429), (436, k436), (443, k443), (450, k450), (457, k457), (464, k464), (478, k478), (485, k485), (499, k499), (506, k506), (513, k513), (520, k520), (527, k527), (550, k550 P), (551, k551), (585, k585 P), (586, k586), (604, k604), (627, k627 P), (628, k628), (644, k644), (651, k651), (658, k658), (679, k679), (686, k686), (695, k695 P), (696, k696), (708, k708), (715, k715), (750, k750), (764, k764), (771, k771), (799, k799), (801, k801 P), (802, k802), (818, k818), (825, k825), (832, k832), (839, k839), (861, k861), (868, k868), (896, k896), (905, k905 P), (906, k906), (924, k924), (926, k926 P), (927, k927), (945, k945), (952, k952), (1080, k1080 P), (1081, k1081), (1092, k1092), (1099, k1099), (1106, k1106), (1113, k1113), (1120, k1120), (1127, k1127), (1134, k1134), (1139, k1139), (1146, k1146), (1153, k1153), (1160, k1160), (1165, k1165)]
noncomputable def kAt : List Addr := [2, 3, 35, 37, 38, 67, 83, 84, 95, 102, 109, 116, 123, 130, 137, 144, 151, 158, 165, 172, 173, 180, 181, 188, 195, 326, 328, 329, 340, 347, 354, 361, 368, 375, 382, 389, 396, 401, 408, 415, 422, 429, 436, 443, 450, 457, 464, 478, 485, 499, 506, 513, 520, 527, 550, 551, 585, 586, 604, 627, 628, 644, 651, 658, 679, 686, 695, 696, 708, 715, 750, 764, 771, 799, 801, 802, 818, 825, 832, 839, 861, 868, 896, 905, 906, 924, 926, 927, 945, 952, 1080, 1081, 1092, 1099, 1106, 1113, 1120, 1127, 1134, 1139, 1146, 1153, 1160, 1165]
noncomputable def kCode : List (Addr × Str) := [(34, ("LispSignal.__init__" : Str)), (66, ("set_marker" : Str)), (94, ("is_many" : Str)), (101, ("is_minus" : Str)), (108, ("numeric" : Str)), (115, ("need_writable" : Str)), (122, ("reached" : Str)), (129, ("tell_ahead" : Str)), (136, ("tell_behind" : Str)), (143, ("text_out" : Str)), (150, ("text_in" : Str)), (157, ("hung_out" : Str)), (164, ("hung_in" : Str)), (171, ("put_in" : Str)), (179, ("insert_at" : Str)), (187, ("insert" : Str)), (194, ("delete" : Str)), (325, ("Registers.__init__" : Str)), (339, ("held" : Str)), (346, ("put" : Str)), (353, ("need" : Str)), (360, ("point_to_register" : Str)), (367, ("place_of_register" : Str)), (374, ("copy_to_register" : Str)), (381, ("joined_to_register" : Str)), (388, ("number_to_register" : Str)), (395, ("increment_register" : Str)), (400, ("number_codes" : Str)), (407, ("insert_register" : Str)), (414, ("do_point_to_register" : Str)), (421, ("do_jump_to_register" : Str)), (428, ("do_copy_to_register" : Str)), (435, ("do_append_to_register" : Str)), (442, ("do_prepend_to_register" : Str)), (449, ("do_insert_register" : Str)), (456, ("do_number_to_register" : Str)), (463, ("do_increment_register" : Str)), (477, ("GapText.__init__" : Str)), (484, ("GapText.size" : Str)), (498, ("GapText.codes" : Str)), (505, ("GapText.move_gap" : Str)), (512, ("GapText.widen_gap" : Str)), (519, ("GapText.insert" : Str)), (526, ("GapText.delete" : Str)), (603, ("Marker.__init__" : Str)), (643, ("Markers.__init__" : Str)), (650, ("Markers.numbers" : Str)), (657, ("Markers.put" : Str)), (678, ("Markers.inserted" : Str)), (685, ("Markers.deleted" : Str)), (714, ("Buffer.__init__" : Str)), (749, ("Buffer.size" : Str)), (763, ("Buffer.codes" : Str)), (770, ("Buffer.goto" : Str)), (798, ("Buffer.touch" : Str)), (817, ("BufferTable.__init__" : Str)), (824, ("BufferTable.by_number" : Str)), (831, ("BufferTable.by_name" : Str)), (838, ("BufferTable.create" : Str)), (860, ("BufferTable.select" : Str)), (867, ("BufferTable.set_current" : Str)), (895, ("BufferTable.new_marker" : Str)), (923, ("Amalgam.__init__" : Str)), (944, ("Editor.__init__" : Str)), (951, ("Editor.current" : Str)), (1091, ("_law_draw" : Str)), (1098, ("_law_pick" : Str)), (1105, ("_law_editor" : Str)), (1112, ("_law_moved" : Str)), (1119, ("_law_taken" : Str)), (1126, ("_law_kept" : Str)), (1133, ("_law_text" : Str)), (1138, ("_law_put" : Str)), (1145, ("_law_due" : Str)), (1152, ("_law_does" : Str)), (1159, ("_law_told" : Str)), (1164, ("law" : Str))]
noncomputable def codeName : Option Obj → Option Str
  | some ⟨_, _, .fields vs, _⟩ => (match vs.toList with | _ :: Value.str n _ :: _ => some n | _ => none)
  | _ => none
theorem codeName_of {h : Heap} {c : Addr} {q : Str} (e : codeName (h.get? c) = some q) : h.CodeRec (.ref c) q := by
  unfold codeName at e
  split at e
  · rename_i vs sl he
    split at e
    · rename_i a n t r hv
      cases e
      exact ⟨_, _, vs, t, rfl, he, rfl, by rw [← Array.getElem?_toList, hv]; rfl⟩
    · cases e
  · cases e
noncomputable def KSays (w : World) (h : Heap) : Prop := (KF w.params).In h ∧ ∀ c ∈ kCode, h.CodeRec (.ref c.1) c.2
theorem map_codes {h : Heap} : ∀ {l : List (Addr × Str)}, l.map (fun c => codeName (h.get? c.1)) = l.map (fun c => some c.2) → ∀ c ∈ l, h.CodeRec (.ref c.1) c.2
  | [], _, _, m => nomatch m
  | c :: l, e, d, m => by
    rw [List.map_cons, List.map_cons] at e
    injection e with e1 e2
    rcases List.mem_cons.mp m with rfl | m
    · exact codeName_of e1
    · exact map_codes e2 d m
noncomputable def kHk : Hook := ⟨List (Option Obj) × List (Option Str), fun s => (kAt.map s.heap.get?, kCode.map fun c => codeName (s.heap.get? c.1)),
  fun w => ((KF w.params).map fun p => some p.2, kCode.map fun c => some c.2), KSays,
  fun _ _ e => ⟨Frag.in_of (as := kAt) rfl (congrArg Prod.fst e), map_codes (congrArg Prod.snd e)⟩,
  fun _ _ _ x k => ⟨x.1.keeps k, fun c m => (x.2 c m).keeps k⟩⟩
section
noncomputable abbrev pr : Program := PySem.Challenge.pw_on0076_01
noncomputable def envH : Env := { scope := pr.main.scope, locals := mainNs, globals := mainNs, cells := [], code := .ref 13, frame := some 14 }
noncomputable def q0 : Pos := { line := 0, col := 0, endLine := 0, endCol := 0 }
noncomputable abbrev BH : List Frame := [topFrame q0]
noncomputable def cH : Code := .body (behindTheImports pr) envH
noncomputable def annH : Option Value := some (.ref 6)
noncomputable def insAll : List Obj → BT → Nat → Option BT := List.rec (fun t _ => some t) fun o _ ih t n => match ((t.ins n o).get n).isSome with
    | true => ih (t.ins n o) (n + 1)
    | false => none
noncomputable def S0 (w : World) (os : OsState) : Shared := ⟨boot_heap w.params, Array.mk [], boot_drawn, boot_toks, os⟩
noncomputable abbrev TB : String → Option Builtin := Fast.tw14364793385576792824
noncomputable def pre0 (w : World) (os : OsState) : Option (Shared × Thread) := Fast.tw15667345088766844465 TB pr w 11 annH 12 (S0 w os) (topStub pr)
noncomputable def sa (w : World) (os : OsState) : Shared := match pre0 w os with
  | some x => x.1
  | none => S0 w os
noncomputable def T0 (w : World) (os : OsState) : SharedT := match insAll (sa w os).heap.objs.toList .nil 0 with
  | some t => ⟨t, 15, {}, #[], {}, 187, os⟩
  | none => ⟨.nil, 0, {}, #[], {}, 0, os⟩
noncomputable def partH (i n : Nat) : List Stmt := ((behindTheImports pr).drop i).take n
noncomputable abbrev Out := Option (Flow × SharedT × Code × Pos)
noncomputable def objAt (r : Out) (i : Nat) : Obj := match r with
  | some x => (match x.2.1.tree.get i with
    | some o => o
    | none => default)
  | none => default
noncomputable def codeAt (r : Out) (i : Nat) : List Value := match (objAt r i).data with
  | .fields vs => vs.toList.drop 2
  | _ => []
noncomputable def cL : List (Int × Addr) := [(1, 20), (5, 27), (10, 47), (12, 52), (17, 59), (22, 66), (31, 73), (35, 94), (37, 101), (39, 108), (46, 115), (49, 122), (54, 129), (57, 136), (61, 143), (69, 150), (76, 157), (81, 164), (86, 171), (99, 179), (101, 187), (103, 194), (114, 201), (135, 208), (140, 215), (148, 222), (150, 229), (155, 236), (157, 243), (164, 250), (171, 257), (173, 264), (177, 271), (183, 278), (191, 285), (198, 292), (201, 297), (219, 304), (228, 311), (231, 318), (235, 339), (237, 346), (239, 353), (244, 360), (246, 367), (253, 374), (258, 381), (270, 388), (272, 395), (274, 400), (276, 407), (285, 414), (290, 421), (294, 428), (296, 435), (299, 442), (302, 449), (308, 456), (310, 463), (313, 470), (379, 561), (390, 596), (408, 636), (453, 706), (518, 810), (580, 916), (586, 937), (679, 1091), (684, 1098), (686, 1105), (694, 1112), (702, 1119), (707, 1126), (711, 1133), (721, 1138), (729, 1145), (745, 1152), (765, 1159), (772, 1164)]
noncomputable def cF : List (Int × Addr) → List Value := List.rec [] fun p _ ih => .int p.1 0 :: .int 0 0 :: .ref p.2 :: ih
noncomputable def cO (x q : Str) (t : Tok) (r : List Value) : Obj := ⟨.type "code", none, .fields ⟨.str x t :: .str q (t + 1) :: r⟩, #[]⟩
noncomputable def k13 : Obj := ⟨.type "code", none, .fields ⟨[.str "<module>" 182, .str "<module>" 183, .str "/claim/cut.py" 184, .int 1 0, .int 0 0, .int 0 0, .int 0 0, .int 0 0, .ref 11, .bool false, .int 181 0, .ref 12, .none, .none, .none, .none, .int 185 0, .int 1 0, .str "/claim/cut.py" 186]⟩, #[]⟩
noncomputable def X1 (f : Nat → Obj) (g : Nat → List Value) (P : Params) (os : OsState) : SharedT := ⟨.node (boot_o_0 P) (.node (boot_o_1 P) (.node (⟨.type "dict", none, .dict ⟨kE P "__name__" 165 (.str "emacs.keepcommands" 764) :: (mE P).take 64⟩ 65, #[]⟩) (.node (f 7) (.node (f 15) (.node (f 31) (.node (f 63) (.node (f 127) (.node (f 255) .nil .nil) (.node (f 383) .nil .nil)) (.node (f 191) (.node (f 319) .nil .nil) .nil)) (.node (k95) (.node (f 159) (.node (f 287) .nil .nil) .nil) (.node (f 223) (.node (f 351) .nil .nil) .nil))) (.node (f 47) (.node (f 79) (.node (cO "text_out" "text_out" 352 (g 143)) (.node (f 271) .nil .nil) (.node (f 399) .nil .nil)) (.node (f 207) (.node (f 335) .nil .nil) .nil)) (.node (f 111) (.node (f 175) (.node (f 303) .nil .nil) .nil) (.node (f 239) (.node (cO "place_of_register" "place_of_register" 686 (g 367)) .nil .nil) .nil)))) (.node (f 23) (.node (f 39) (.node (f 71) (.node (f 135) (.node (f 263) .nil .nil) (.node (f 391) .nil .nil)) (.node (f 199) (.node (f 327) .nil .nil) .nil)) (.node (f 103) (.node (f 167) (.node (f 295) .nil .nil) .nil) (.node (f 231) (.node (f 359) .nil .nil) .nil))) (.node (f 55) (.node (f 87) (.node (k151) (.node (f 279) .nil .nil) (.node (cO "insert_register" "insert_register" 752 (g 407)) .nil .nil)) (.node (f 215) (.node (f 343) .nil .nil) .nil)) (.node (f 119) (.node (f 183) (.node (f 311) .nil .nil) .nil) (.node (f 247) (.node (k375) .nil .nil) .nil))))) (.node (f 11) (.node (f 19) (.node (k35) (.node (k67) (.node (f 131) (.node (f 259) .nil .nil) (.node (f 387) .nil .nil)) (.node (k195) (.node (f 323) .nil .nil) .nil)) (.node (f 99) (.node (f 163) (.node (f 291) .nil .nil) .nil) (.node (f 227) (.node (f 355) .nil .nil) .nil))) (.node (f 51) (.node (k83 P) (.node (f 147) (.node (f 275) .nil .nil) (.node (f 403) .nil .nil)) (.node (f 211) (.node (cO "held" "held" 650 (g 339)) .nil .nil) .nil)) (.node (cO "need_writable" "need_writable" 313 (g 115)) (.node (cO "insert_at" "insert_at" 402 (g 179)) (.node (f 307) .nil .nil) .nil) (.node (f 243) (.node (f 371) .nil .nil) .nil)))) (.node (f 27) (.node (f 43) (.node (f 75) (.node (f 139) (.node (f 267) .nil .nil) (.node (cO "increment_register" "increment_register" 737 (g 395)) .nil .nil)) (.node (f 203) (.node (f 331) .nil .nil) .nil)) (.node (f 107) (.node (cO "put_in" "put_in" 390 (g 171)) (.node (f 299) .nil .nil) .nil) (.node (f 235) (.node (f 363) .nil .nil) .nil))) (.node (f 59) (.node (f 91) (.node (f 155) (.node (f 283) .nil .nil) .nil) (.node (f 219) (.node (k347) .nil .nil) .nil)) (.node (k123) (.node (cO "insert" "insert" 412 (g 187)) (.node (f 315) .nil .nil) .nil) (.node (f 251) (.node (f 379) .nil .nil) .nil)))))) (.node (f 5) (.node (f 9) (.node (f 17) (.node (f 33) (.node (f 65) (.node (cO "tell_ahead" "tell_ahead" 331 (g 129)) (.node (f 257) .nil .nil) (.node (f 385) .nil .nil)) (.node (f 193) (.node (f 321) .nil .nil) .nil)) (.node (f 97) (.node (f 161) (.node (f 289) .nil .nil) .nil) (.node (f 225) (.node (cO "need" "need" 667 (g 353)) .nil .nil) .nil))) (.node (f 49) (.node (f 81) (.node (f 145) (.node (f 273) .nil .nil) (.node (k401) .nil .nil)) (.node (f 209) (.node (f 337) .nil .nil) .nil)) (.node (f 113) (.node (f 177) (.node (f 305) .nil .nil) .nil) (.node (f 241) (.node (f 369) .nil .nil) .nil)))) (.node (f 25) (.node (f 41) (.node (f 73) (.node (k137) (.node (f 265) .nil .nil) (.node (f 393) .nil .nil)) (.node (f 201) (.node (k329) .nil .nil) .nil)) (.node (f 105) (.node (f 169) (.node (f 297) .nil .nil) .nil) (.node (f 233) (.node (k361) .nil .nil) .nil))) (.node (f 57) (.node (f 89) (.node (f 153) (.node (f 281) .nil .nil) .nil) (.node (f 217) (.node (f 345) .nil .nil) .nil)) (.node (f 121) (.node (f 185) (.node (f 313) .nil .nil) .nil) (.node (f 249) (.node (f 377) .nil .nil) .nil))))) (.node (k13) (.node (f 21) (.node (k37 P) (.node (f 69) (.node (f 133) (.node (f 261) .nil .nil) (.node (k389) .nil .nil)) (.node (f 197) (.node (cO "__init__" "Registers.__init__" 634 (g 325)) .nil .nil) .nil)) (.node (cO "is_minus" "is_minus" 297 (g 101)) (.node (k165) (.node (f 293) .nil .nil) .nil) (.node (f 229) (.node (f 357) .nil .nil) .nil))) (.node (f 53) (.node (f 85) (.node (f 149) (.node (f 277) .nil .nil) (.node (f 405) .nil .nil)) (.node (f 213) (.node (f 341) .nil .nil) .nil)) (.node (f 117) (.node (k181) (.node (f 309) .nil .nil) .nil) (.node (f 245) (.node (f 373) .nil .nil) .nil)))) (.node (f 29) (.node (f 45) (.node (f 77) (.node (f 141) (.node (f 269) .nil .nil) (.node (f 397) .nil .nil)) (.node (f 205) (.node (f 333) .nil .nil) .nil)) (.node (k109) (.node (k173) (.node (f 301) .nil .nil) .nil) (.node (f 237) (.node (f 365) .nil .nil) .nil))) (.node (f 61) (.node (f 93) (.node (cO "hung_out" "hung_out" 371 (g 157)) (.node (f 285) .nil .nil) .nil) (.node (f 221) (.node (f 349) .nil .nil) .nil)) (.node (f 125) (.node (f 189) (.node (f 317) .nil .nil) .nil) (.node (f 253) (.node (cO "joined_to_register" "joined_to_register" 709 (g 381)) .nil .nil) .nil))))))) (.node (k2 P) (.node (boot_o_4 P) (.node (f 8) (.node (f 16) (.node (f 32) (.node (f 64) (.node (f 128) (.node (f 256) .nil .nil) (.node (f 384) .nil .nil)) (.node (f 192) (.node (f 320) .nil .nil) .nil)) (.node (f 96) (.node (f 160) (.node (f 288) .nil .nil) .nil) (.node (f 224) (.node (f 352) .nil .nil) .nil))) (.node (f 48) (.node (f 80) (.node (k144) (.node (f 272) .nil .nil) (.node (cO "number_codes" "number_codes" 746 (g 400)) .nil .nil)) (.node (f 208) (.node (f 336) .nil .nil) .nil)) (.node (f 112) (.node (f 176) (.node (f 304) .nil .nil) .nil) (.node (f 240) (.node (k368) .nil .nil) .nil)))) (.node (f 24) (.node (f 40) (.node (f 72) (.node (cO "tell_behind" "tell_behind" 341 (g 136)) (.node (f 264) .nil .nil) (.node (f 392) .nil .nil)) (.node (f 200) (.node (k328 P) .nil .nil) .nil)) (.node (f 104) (.node (f 168) (.node (f 296) .nil .nil) .nil) (.node (f 232) (.node (cO "point_to_register" "point_to_register" 677 (g 360)) .nil .nil) .nil))) (.node (f 56) (.node (f 88) (.node (f 152) (.node (f 280) .nil .nil) (.node (k408) .nil .nil)) (.node (f 216) (.node (f 344) .nil .nil) .nil)) (.node (f 120) (.node (f 184) (.node (f 312) .nil .nil) .nil) (.node (f 248) (.node (f 376) .nil .nil) .nil))))) (.node (⟨.none, none, .fields ⟨cF (cL.take 51)⟩, #[]⟩) (.node (f 20) (.node (f 36) (.node (f 68) (.node (f 132) (.node (f 260) .nil .nil) (.node (cO "number_to_register" "number_to_register" 728 (g 388)) .nil .nil)) (.node (f 196) (.node (f 324) .nil .nil) .nil)) (.node (f 100) (.node (cO "hung_in" "hung_in" 380 (g 164)) (.node (f 292) .nil .nil) .nil) (.node (f 228) (.node (f 356) .nil .nil) .nil))) (.node (f 52) (.node (k84) (.node (f 148) (.node (f 276) .nil .nil) (.node (f 404) .nil .nil)) (.node (f 212) (.node (k340) .nil .nil) .nil)) (.node (k116) (.node (k180) (.node (f 308) .nil .nil) .nil) (.node (f 244) (.node (f 372) .nil .nil) .nil)))) (.node (f 28) (.node (f 44) (.node (f 76) (.node (f 140) (.node (f 268) .nil .nil) (.node (k396) .nil .nil)) (.node (f 204) (.node (f 332) .nil .nil) .nil)) (.node (cO "numeric" "numeric" 304 (g 108)) (.node (k172) (.node (f 300) .nil .nil) .nil) (.node (f 236) (.node (f 364) .nil .nil) .nil))) (.node (f 60) (.node (f 92) (.node (f 156) (.node (f 284) .nil .nil) .nil) (.node (f 220) (.node (f 348) .nil .nil) .nil)) (.node (f 124) (.node (k188) (.node (f 316) .nil .nil) .nil) (.node (f 252) (.node (f 380) .nil .nil) .nil)))))) (.node (f 6) (.node (f 10) (.node (f 18) (.node (cO "__init__" "LispSignal.__init__" 208 (g 34)) (.node (cO "set_marker" "set_marker" 250 (g 66)) (.node (k130) (.node (f 258) .nil .nil) (.node (f 386) .nil .nil)) (.node (cO "delete" "delete" 421 (g 194)) (.node (f 322) .nil .nil) .nil)) (.node (f 98) (.node (f 162) (.node (f 290) .nil .nil) .nil) (.node (f 226) (.node (k354) .nil .nil) .nil))) (.node (f 50) (.node (f 82) (.node (f 146) (.node (f 274) .nil .nil) (.node (f 402) .nil .nil)) (.node (f 210) (.node (f 338) .nil .nil) .nil)) (.node (f 114) (.node (f 178) (.node (f 306) .nil .nil) .nil) (.node (f 242) (.node (f 370) .nil .nil) .nil)))) (.node (f 26) (.node (f 42) (.node (f 74) (.node (f 138) (.node (f 266) .nil .nil) (.node (f 394) .nil .nil)) (.node (f 202) (.node (f 330) .nil .nil) .nil)) (.node (f 106) (.node (f 170) (.node (f 298) .nil .nil) .nil) (.node (f 234) (.node (f 362) .nil .nil) .nil))) (.node (f 58) (.node (f 90) (.node (f 154) (.node (f 282) .nil .nil) .nil) (.node (f 218) (.node (cO "put" "put" 658 (g 346)) .nil .nil) .nil)) (.node (cO "reached" "reached" 320 (g 122)) (.node (f 186) (.node (f 314) .nil .nil) .nil) (.node (f 250) (.node (f 378) .nil .nil) .nil))))) (.node (f 14) (.node (f 22) (.node (k38) (.node (f 70) (.node (f 134) (.node (f 262) .nil .nil) (.node (f 390) .nil .nil)) (.node (f 198) (.node (k326) .nil .nil) .nil)) (.node (k102) (.node (f 166) (.node (f 294) .nil .nil) .nil) (.node (f 230) (.node (f 358) .nil .nil) .nil))) (.node (f 54) (.node (f 86) (.node (cO "text_in" "text_in" 362 (g 150)) (.node (f 278) .nil .nil) (.node (f 406) .nil .nil)) (.node (f 214) (.node (f 342) .nil .nil) .nil)) (.node (f 118) (.node (f 182) (.node (f 310) .nil .nil) .nil) (.node (f 246) (.node (cO "copy_to_register" "copy_to_register" 695 (g 374)) .nil .nil) .nil)))) (.node (f 30) (.node (f 46) (.node (f 78) (.node (f 142) (.node (f 270) .nil .nil) (.node (f 398) .nil .nil)) (.node (f 206) (.node (f 334) .nil .nil) .nil)) (.node (f 110) (.node (f 174) (.node (f 302) .nil .nil) .nil) (.node (f 238) (.node (f 366) .nil .nil) .nil))) (.node (f 62) (.node (cO "is_many" "is_many" 290 (g 94)) (.node (k158) (.node (f 286) .nil .nil) .nil) (.node (f 222) (.node (f 350) .nil .nil) .nil)) (.node (f 126) (.node (f 190) (.node (f 318) .nil .nil) .nil) (.node (f 254) (.node (k382) .nil .nil) .nil))))))), 409, {}, #[], {}, 766, os⟩
noncomputable def q1 : Pos := { line := 284, col := 0, endLine := 284, endCol := 8 }
noncomputable def X2 (f : Nat → Obj) (g : Nat → List Value) (P : Params) (os : OsState) : SharedT := ⟨.node (boot_o_0 P) (.node (boot_o_1 P) (.node (⟨.type "dict", none, .dict ⟨kE P "__name__" 165 (.str "emacs.buffer" 1153) :: (mE P).take 77⟩ 78, #[]⟩) (.node (f 7) (.node (f 15) (.node (f 31) (.node (f 63) (.node (f 127) (.node (f 255) (.node (f 511) .nil .nil) (.node (f 767) .nil .nil)) (.node (f 383) (.node (f 639) .nil .nil) .nil)) (.node (f 191) (.node (f 319) (.node (f 575) .nil .nil) .nil) (.node (f 447) (.node (f 703) .nil .nil) .nil))) (.node (k95) (.node (f 159) (.node (f 287) (.node (f 543) .nil .nil) (.node (k799) .nil .nil)) (.node (k415) (.node (f 671) .nil .nil) .nil)) (.node (f 223) (.node (f 351) (.node (f 607) .nil .nil) .nil) (.node (f 479) (.node (f 735) .nil .nil) .nil)))) (.node (f 47) (.node (f 79) (.node (cO "text_out" "text_out" 352 (g 143)) (.node (f 271) (.node (k527) .nil .nil) (.node (f 783) .nil .nil)) (.node (f 399) (.node (f 655) .nil .nil) .nil)) (.node (f 207) (.node (f 335) (.node (f 591) .nil .nil) .nil) (.node (cO "do_increment_register" "do_increment_register" 828 (g 463)) (.node (f 719) .nil .nil) .nil))) (.node (f 111) (.node (f 175) (.node (f 303) (.node (f 559) .nil .nil) .nil) (.node (f 431) (.node (f 687) .nil .nil) .nil)) (.node (f 239) (.node (cO "place_of_register" "place_of_register" 686 (g 367)) (.node (f 623) .nil .nil) .nil) (.node (f 495) (.node (f 751) .nil .nil) .nil))))) (.node (f 23) (.node (f 39) (.node (f 71) (.node (f 135) (.node (f 263) (.node (cO "insert" "GapText.insert" 902 (g 519)) .nil .nil) (.node (f 775) .nil .nil)) (.node (f 391) (.node (f 647) .nil .nil) .nil)) (.node (f 199) (.node (f 327) (.node (f 583) .nil .nil) .nil) (.node (f 455) (.node (f 711) .nil .nil) .nil))) (.node (f 103) (.node (f 167) (.node (f 295) (.node (k551) .nil .nil) .nil) (.node (f 423) (.node (k679) .nil .nil) .nil)) (.node (f 231) (.node (f 359) (.node (f 615) .nil .nil) .nil) (.node (f 487) (.node (f 743) .nil .nil) .nil)))) (.node (f 55) (.node (f 87) (.node (k151) (.node (f 279) (.node (f 535) .nil .nil) (.node (f 791) .nil .nil)) (.node (cO "insert_register" "insert_register" 752 (g 407)) (.node (f 663) .nil .nil) .nil)) (.node (f 215) (.node (f 343) (.node (f 599) .nil .nil) .nil) (.node (f 471) (.node (f 727) .nil .nil) .nil))) (.node (f 119) (.node (f 183) (.node (f 311) (.node (f 567) .nil .nil) .nil) (.node (f 439) (.node (k695 P) .nil .nil) .nil)) (.node (f 247) (.node (k375) (.node (f 631) .nil .nil) .nil) (.node (f 503) (.node (f 759) .nil .nil) .nil)))))) (.node (f 11) (.node (f 19) (.node (k35) (.node (k67) (.node (f 131) (.node (f 259) (.node (f 515) .nil .nil) (.node (k771) .nil .nil)) (.node (f 387) (.node (cO "__init__" "Markers.__init__" 1067 (g 643)) .nil .nil) .nil)) (.node (k195) (.node (f 323) (.node (f 579) .nil .nil) .nil) (.node (f 451) (.node (f 707) .nil .nil) .nil))) (.node (f 99) (.node (f 163) (.node (f 291) (.node (f 547) .nil .nil) (.node (f 803) .nil .nil)) (.node (f 419) (.node (f 675) .nil .nil) .nil)) (.node (f 227) (.node (f 355) (.node (f 611) .nil .nil) .nil) (.node (f 483) (.node (f 739) .nil .nil) .nil)))) (.node (f 51) (.node (k83 P) (.node (f 147) (.node (f 275) (.node (f 531) .nil .nil) (.node (f 787) .nil .nil)) (.node (f 403) (.node (f 659) .nil .nil) .nil)) (.node (f 211) (.node (cO "held" "held" 650 (g 339)) (.node (f 595) .nil .nil) .nil) (.node (f 467) (.node (f 723) .nil .nil) .nil))) (.node (cO "need_writable" "need_writable" 313 (g 115)) (.node (cO "insert_at" "insert_at" 402 (g 179)) (.node (f 307) (.node (f 563) .nil .nil) .nil) (.node (cO "do_append_to_register" "do_append_to_register" 793 (g 435)) (.node (f 691) .nil .nil) .nil)) (.node (f 243) (.node (f 371) (.node (k627 P) .nil .nil) .nil) (.node (k499) (.node (f 755) .nil .nil) .nil))))) (.node (f 27) (.node (f 43) (.node (f 75) (.node (f 139) (.node (f 267) (.node (f 523) .nil .nil) (.node (f 779) .nil .nil)) (.node (cO "increment_register" "increment_register" 737 (g 395)) (.node (k651) .nil .nil) .nil)) (.node (f 203) (.node (f 331) (.node (f 587) .nil .nil) .nil) (.node (f 459) (.node (k715) .nil .nil) .nil))) (.node (f 107) (.node (cO "put_in" "put_in" 390 (g 171)) (.node (f 299) (.node (f 555) .nil .nil) .nil) (.node (f 427) (.node (f 683) .nil .nil) .nil)) (.node (f 235) (.node (f 363) (.node (f 619) .nil .nil) .nil) (.node (f 491) (.node (f 747) .nil .nil) .nil)))) (.node (f 59) (.node (f 91) (.node (f 155) (.node (f 283) (.node (f 539) .nil .nil) (.node (f 795) .nil .nil)) (.node (f 411) (.node (f 667) .nil .nil) .nil)) (.node (f 219) (.node (k347) (.node (cO "__init__" "Marker.__init__" 1014 (g 603)) .nil .nil) .nil) (.node (f 475) (.node (f 731) .nil .nil) .nil))) (.node (k123) (.node (cO "insert" "insert" 412 (g 187)) (.node (f 315) (.node (f 571) .nil .nil) .nil) (.node (k443) (.node (f 699) .nil .nil) .nil)) (.node (f 251) (.node (f 379) (.node (f 635) .nil .nil) .nil) (.node (f 507) (.node (cO "codes" "Buffer.codes" 1221 (g 763)) .nil .nil) .nil))))))) (.node (f 5) (.node (f 9) (.node (f 17) (.node (f 33) (.node (f 65) (.node (cO "tell_ahead" "tell_ahead" 331 (g 129)) (.node (f 257) (.node (k513) .nil .nil) (.node (f 769) .nil .nil)) (.node (f 385) (.node (f 641) .nil .nil) .nil)) (.node (f 193) (.node (f 321) (.node (f 577) .nil .nil) .nil) (.node (cO "do_insert_register" "do_insert_register" 811 (g 449)) (.node (f 705) .nil .nil) .nil))) (.node (f 97) (.node (f 161) (.node (f 289) (.node (f 545) .nil .nil) (.node (k801 P) .nil .nil)) (.node (f 417) (.node (f 673) .nil .nil) .nil)) (.node (f 225) (.node (cO "need" "need" 667 (g 353)) (.node (f 609) .nil .nil) .nil) (.node (f 481) (.node (f 737) .nil .nil) .nil)))) (.node (f 49) (.node (f 81) (.node (f 145) (.node (f 273) (.node (f 529) .nil .nil) (.node (f 785) .nil .nil)) (.node (k401) (.node (cO "put" "Markers.put" 1081 (g 657)) .nil .nil) .nil)) (.node (f 209) (.node (f 337) (.node (f 593) .nil .nil) .nil) (.node (f 465) (.node (f 721) .nil .nil) .nil))) (.node (f 113) (.node (f 177) (.node (f 305) (.node (f 561) .nil .nil) .nil) (.node (f 433) (.node (f 689) .nil .nil) .nil)) (.node (f 241) (.node (f 369) (.node (f 625) .nil .nil) .nil) (.node (f 497) (.node (f 753) .nil .nil) .nil))))) (.node (f 25) (.node (f 41) (.node (f 73) (.node (k137) (.node (f 265) (.node (f 521) .nil .nil) (.node (f 777) .nil .nil)) (.node (f 393) (.node (f 649) .nil .nil) .nil)) (.node (f 201) (.node (k329) (.node (k585 P) .nil .nil) .nil) (.node (k457) (.node (f 713) .nil .nil) .nil))) (.node (f 105) (.node (f 169) (.node (f 297) (.node (f 553) .nil .nil) .nil) (.node (f 425) (.node (f 681) .nil .nil) .nil)) (.node (f 233) (.node (k361) (.node (f 617) .nil .nil) .nil) (.node (f 489) (.node (f 745) .nil .nil) .nil)))) (.node (f 57) (.node (f 89) (.node (f 153) (.node (f 281) (.node (f 537) .nil .nil) (.node (f 793) .nil .nil)) (.node (f 409) (.node (f 665) .nil .nil) .nil)) (.node (f 217) (.node (f 345) (.node (f 601) .nil .nil) .nil) (.node (f 473) (.node (f 729) .nil .nil) .nil))) (.node (f 121) (.node (f 185) (.node (f 313) (.node (f 569) .nil .nil) .nil) (.node (f 441) (.node (f 697) .nil .nil) .nil)) (.node (f 249) (.node (f 377) (.node (f 633) .nil .nil) .nil) (.node (cO "move_gap" "GapText.move_gap" 884 (g 505)) (.node (f 761) .nil .nil) .nil)))))) (.node (k13) (.node (f 21) (.node (k37 P) (.node (f 69) (.node (f 133) (.node (f 261) (.node (f 517) .nil .nil) (.node (f 773) .nil .nil)) (.node (k389) (.node (f 645) .nil .nil) .nil)) (.node (f 197) (.node (cO "__init__" "Registers.__init__" 634 (g 325)) (.node (f 581) .nil .nil) .nil) (.node (f 453) (.node (f 709) .nil .nil) .nil))) (.node (cO "is_minus" "is_minus" 297 (g 101)) (.node (k165) (.node (f 293) (.node (f 549) .nil .nil) .nil) (.node (cO "do_jump_to_register" "do_jump_to_register" 776 (g 421)) (.node (f 677) .nil .nil) .nil)) (.node (f 229) (.node (f 357) (.node (f 613) .nil .nil) .nil) (.node (k485) (.node (f 741) .nil .nil) .nil)))) (.node (f 53) (.node (f 85) (.node (f 149) (.node (f 277) (.node (f 533) .nil .nil) (.node (f 789) .nil .nil)) (.node (f 405) (.node (f 661) .nil .nil) .nil)) (.node (f 213) (.node (f 341) (.node (f 597) .nil .nil) .nil) (.node (f 469) (.node (f 725) .nil .nil) .nil))) (.node (f 117) (.node (k181) (.node (f 309) (.node (f 565) .nil .nil) .nil) (.node (f 437) (.node (f 693) .nil .nil) .nil)) (.node (f 245) (.node (f 373) (.node (f 629) .nil .nil) .nil) (.node (f 501) (.node (f 757) .nil .nil) .nil))))) (.node (f 29) (.node (f 45) (.node (f 77) (.node (f 141) (.node (f 269) (.node (f 525) .nil .nil) (.node (f 781) .nil .nil)) (.node (f 397) (.node (f 653) .nil .nil) .nil)) (.node (f 205) (.node (f 333) (.node (f 589) .nil .nil) .nil) (.node (f 461) (.node (f 717) .nil .nil) .nil))) (.node (k109) (.node (k173) (.node (f 301) (.node (f 557) .nil .nil) .nil) (.node (k429) (.node (cO "deleted" "Markers.deleted" 1121 (g 685)) .nil .nil) .nil)) (.node (f 237) (.node (f 365) (.node (f 621) .nil .nil) .nil) (.node (f 493) (.node (cO "size" "Buffer.size" 1206 (g 749)) .nil .nil) .nil)))) (.node (f 61) (.node (f 93) (.node (cO "hung_out" "hung_out" 371 (g 157)) (.node (f 285) (.node (f 541) .nil .nil) (.node (f 797) .nil .nil)) (.node (f 413) (.node (f 669) .nil .nil) .nil)) (.node (f 221) (.node (f 349) (.node (f 605) .nil .nil) .nil) (.node (cO "__init__" "GapText.__init__" 850 (g 477)) (.node (f 733) .nil .nil) .nil))) (.node (f 125) (.node (f 189) (.node (f 317) (.node (f 573) .nil .nil) .nil) (.node (f 445) (.node (f 701) .nil .nil) .nil)) (.node (f 253) (.node (cO "joined_to_register" "joined_to_register" 709 (g 381)) (.node (f 637) .nil .nil) .nil) (.node (f 509) (.node (f 765) .nil .nil) .nil)))))))) (.node (k2 P) (.node (boot_o_4 P) (.node (f 8) (.node (f 16) (.node (f 32) (.node (f 64) (.node (f 128) (.node (f 256) (.node (cO "widen_gap" "GapText.widen_gap" 893 (g 512)) .nil .nil) (.node (f 768) .nil .nil)) (.node (f 384) (.node (f 640) .nil .nil) .nil)) (.node (f 192) (.node (f 320) (.node (f 576) .nil .nil) .nil) (.node (f 448) (.node (f 704) .nil .nil) .nil))) (.node (f 96) (.node (f 160) (.node (f 288) (.node (f 544) .nil .nil) (.node (f 800) .nil .nil)) (.node (f 416) (.node (f 672) .nil .nil) .nil)) (.node (f 224) (.node (f 352) (.node (f 608) .nil .nil) .nil) (.node (f 480) (.node (f 736) .nil .nil) .nil)))) (.node (f 48) (.node (f 80) (.node (k144) (.node (f 272) (.node (f 528) .nil .nil) (.node (f 784) .nil .nil)) (.node (cO "number_codes" "number_codes" 746 (g 400)) (.node (f 656) .nil .nil) .nil)) (.node (f 208) (.node (f 336) (.node (f 592) .nil .nil) .nil) (.node (k464) (.node (f 720) .nil .nil) .nil))) (.node (f 112) (.node (f 176) (.node (f 304) (.node (f 560) .nil .nil) .nil) (.node (f 432) (.node (f 688) .nil .nil) .nil)) (.node (f 240) (.node (k368) (.node (f 624) .nil .nil) .nil) (.node (f 496) (.node (f 752) .nil .nil) .nil))))) (.node (f 24) (.node (f 40) (.node (f 72) (.node (cO "tell_behind" "tell_behind" 341 (g 136)) (.node (f 264) (.node (k520) .nil .nil) (.node (f 776) .nil .nil)) (.node (f 392) (.node (f 648) .nil .nil) .nil)) (.node (f 200) (.node (k328 P) (.node (f 584) .nil .nil) .nil) (.node (cO "do_number_to_register" "do_number_to_register" 820 (g 456)) (.node (f 712) .nil .nil) .nil))) (.node (f 104) (.node (f 168) (.node (f 296) (.node (f 552) .nil .nil) .nil) (.node (f 424) (.node (f 680) .nil .nil) .nil)) (.node (f 232) (.node (cO "point_to_register" "point_to_register" 677 (g 360)) (.node (f 616) .nil .nil) .nil) (.node (f 488) (.node (f 744) .nil .nil) .nil)))) (.node (f 56) (.node (f 88) (.node (f 152) (.node (f 280) (.node (f 536) .nil .nil) (.node (f 792) .nil .nil)) (.node (k408) (.node (f 664) .nil .nil) .nil)) (.node (f 216) (.node (f 344) (.node (f 600) .nil .nil) .nil) (.node (f 472) (.node (f 728) .nil .nil) .nil))) (.node (f 120) (.node (f 184) (.node (f 312) (.node (f 568) .nil .nil) .nil) (.node (f 440) (.node (k696) .nil .nil) .nil)) (.node (f 248) (.node (f 376) (.node (f 632) .nil .nil) .nil) (.node (f 504) (.node (f 760) .nil .nil) .nil)))))) (.node (⟨.none, none, .fields ⟨cF (cL.take 64)⟩, #[]⟩) (.node (f 20) (.node (f 36) (.node (f 68) (.node (f 132) (.node (f 260) (.node (f 516) .nil .nil) (.node (f 772) .nil .nil)) (.node (cO "number_to_register" "number_to_register" 728 (g 388)) (.node (k644) .nil .nil) .nil)) (.node (f 196) (.node (f 324) (.node (f 580) .nil .nil) .nil) (.node (f 452) (.node (k708) .nil .nil) .nil))) (.node (f 100) (.node (cO "hung_in" "hung_in" 380 (g 164)) (.node (f 292) (.node (f 548) .nil .nil) (.node (f 804) .nil .nil)) (.node (f 420) (.node (f 676) .nil .nil) .nil)) (.node (f 228) (.node (f 356) (.node (f 612) .nil .nil) .nil) (.node (cO "size" "GapText.size" 859 (g 484)) (.node (f 740) .nil .nil) .nil)))) (.node (f 52) (.node (k84) (.node (f 148) (.node (f 276) (.node (f 532) .nil .nil) (.node (f 788) .nil .nil)) (.node (f 404) (.node (f 660) .nil .nil) .nil)) (.node (f 212) (.node (k340) (.node (f 596) .nil .nil) .nil) (.node (f 468) (.node (f 724) .nil .nil) .nil))) (.node (k116) (.node (k180) (.node (f 308) (.node (f 564) .nil .nil) .nil) (.node (k436) (.node (f 692) .nil .nil) .nil)) (.node (f 244) (.node (f 372) (.node (k628) .nil .nil) .nil) (.node (f 500) (.node (f 756) .nil .nil) .nil))))) (.node (f 28) (.node (f 44) (.node (f 76) (.node (f 140) (.node (f 268) (.node (f 524) .nil .nil) (.node (f 780) .nil .nil)) (.node (k396) (.node (f 652) .nil .nil) .nil)) (.node (f 204) (.node (f 332) (.node (f 588) .nil .nil) .nil) (.node (f 460) (.node (f 716) .nil .nil) .nil))) (.node (cO "numeric" "numeric" 304 (g 108)) (.node (k172) (.node (f 300) (.node (f 556) .nil .nil) .nil) (.node (cO "do_copy_to_register" "do_copy_to_register" 785 (g 428)) (.node (f 684) .nil .nil) .nil)) (.node (f 236) (.node (f 364) (.node (f 620) .nil .nil) .nil) (.node (f 492) (.node (f 748) .nil .nil) .nil)))) (.node (f 60) (.node (f 92) (.node (f 156) (.node (f 284) (.node (f 540) .nil .nil) (.node (f 796) .nil .nil)) (.node (f 412) (.node (f 668) .nil .nil) .nil)) (.node (f 220) (.node (f 348) (.node (k604) .nil .nil) .nil) (.node (f 476) (.node (f 732) .nil .nil) .nil))) (.node (f 124) (.node (k188) (.node (f 316) (.node (f 572) .nil .nil) .nil) (.node (f 444) (.node (f 700) .nil .nil) .nil)) (.node (f 252) (.node (f 380) (.node (f 636) .nil .nil) .nil) (.node (f 508) (.node (k764) .nil .nil) .nil))))))) (.node (f 6) (.node (f 10) (.node (f 18) (.node (cO "__init__" "LispSignal.__init__" 208 (g 34)) (.node (cO "set_marker" "set_marker" 250 (g 66)) (.node (k130) (.node (f 258) (.node (f 514) .nil .nil) (.node (cO "goto" "Buffer.goto" 1230 (g 770)) .nil .nil)) (.node (f 386) (.node (f 642) .nil .nil) .nil)) (.node (cO "delete" "delete" 421 (g 194)) (.node (f 322) (.node (f 578) .nil .nil) .nil) (.node (k450) (.node (f 706) .nil .nil) .nil))) (.node (f 98) (.node (f 162) (.node (f 290) (.node (f 546) .nil .nil) (.node (k802) .nil .nil)) (.node (f 418) (.node (f 674) .nil .nil) .nil)) (.node (f 226) (.node (k354) (.node (f 610) .nil .nil) .nil) (.node (f 482) (.node (f 738) .nil .nil) .nil)))) (.node (f 50) (.node (f 82) (.node (f 146) (.node (f 274) (.node (f 530) .nil .nil) (.node (f 786) .nil .nil)) (.node (f 402) (.node (k658) .nil .nil) .nil)) (.node (f 210) (.node (f 338) (.node (f 594) .nil .nil) .nil) (.node (f 466) (.node (f 722) .nil .nil) .nil))) (.node (f 114) (.node (f 178) (.node (f 306) (.node (f 562) .nil .nil) .nil) (.node (f 434) (.node (f 690) .nil .nil) .nil)) (.node (f 242) (.node (f 370) (.node (f 626) .nil .nil) .nil) (.node (cO "codes" "GapText.codes" 874 (g 498)) (.node (f 754) .nil .nil) .nil))))) (.node (f 26) (.node (f 42) (.node (f 74) (.node (f 138) (.node (f 266) (.node (f 522) .nil .nil) (.node (f 778) .nil .nil)) (.node (f 394) (.node (cO "numbers" "Markers.numbers" 1074 (g 650)) .nil .nil) .nil)) (.node (f 202) (.node (f 330) (.node (k586) .nil .nil) .nil) (.node (f 458) (.node (cO "__init__" "Buffer.__init__" 1168 (g 714)) .nil .nil) .nil))) (.node (f 106) (.node (f 170) (.node (f 298) (.node (f 554) .nil .nil) .nil) (.node (f 426) (.node (f 682) .nil .nil) .nil)) (.node (f 234) (.node (f 362) (.node (f 618) .nil .nil) .nil) (.node (f 490) (.node (f 746) .nil .nil) .nil)))) (.node (f 58) (.node (f 90) (.node (f 154) (.node (f 282) (.node (f 538) .nil .nil) (.node (f 794) .nil .nil)) (.node (f 410) (.node (f 666) .nil .nil) .nil)) (.node (f 218) (.node (cO "put" "put" 658 (g 346)) (.node (f 602) .nil .nil) .nil) (.node (f 474) (.node (f 730) .nil .nil) .nil))) (.node (cO "reached" "reached" 320 (g 122)) (.node (f 186) (.node (f 314) (.node (f 570) .nil .nil) .nil) (.node (cO "do_prepend_to_register" "do_prepend_to_register" 802 (g 442)) (.node (f 698) .nil .nil) .nil)) (.node (f 250) (.node (f 378) (.node (f 634) .nil .nil) .nil) (.node (k506) (.node (f 762) .nil .nil) .nil)))))) (.node (f 14) (.node (f 22) (.node (k38) (.node (f 70) (.node (f 134) (.node (f 262) (.node (f 518) .nil .nil) (.node (f 774) .nil .nil)) (.node (f 390) (.node (f 646) .nil .nil) .nil)) (.node (f 198) (.node (k326) (.node (f 582) .nil .nil) .nil) (.node (f 454) (.node (f 710) .nil .nil) .nil))) (.node (k102) (.node (f 166) (.node (f 294) (.node (k550 P) .nil .nil) .nil) (.node (k422) (.node (cO "inserted" "Markers.inserted" 1109 (g 678)) .nil .nil) .nil)) (.node (f 230) (.node (f 358) (.node (f 614) .nil .nil) .nil) (.node (f 486) (.node (f 742) .nil .nil) .nil)))) (.node (f 54) (.node (f 86) (.node (cO "text_in" "text_in" 362 (g 150)) (.node (f 278) (.node (f 534) .nil .nil) (.node (f 790) .nil .nil)) (.node (f 406) (.node (f 662) .nil .nil) .nil)) (.node (f 214) (.node (f 342) (.node (f 598) .nil .nil) .nil) (.node (f 470) (.node (f 726) .nil .nil) .nil))) (.node (f 118) (.node (f 182) (.node (f 310) (.node (f 566) .nil .nil) .nil) (.node (f 438) (.node (f 694) .nil .nil) .nil)) (.node (f 246) (.node (cO "copy_to_register" "copy_to_register" 695 (g 374)) (.node (f 630) .nil .nil) .nil) (.node (f 502) (.node (f 758) .nil .nil) .nil))))) (.node (f 30) (.node (f 46) (.node (f 78) (.node (f 142) (.node (f 270) (.node (cO "delete" "GapText.delete" 911 (g 526)) .nil .nil) (.node (f 782) .nil .nil)) (.node (f 398) (.node (f 654) .nil .nil) .nil)) (.node (f 206) (.node (f 334) (.node (f 590) .nil .nil) .nil) (.node (f 462) (.node (f 718) .nil .nil) .nil))) (.node (f 110) (.node (f 174) (.node (f 302) (.node (f 558) .nil .nil) .nil) (.node (f 430) (.node (k686) .nil .nil) .nil)) (.node (f 238) (.node (f 366) (.node (f 622) .nil .nil) .nil) (.node (f 494) (.node (k750) .nil .nil) .nil)))) (.node (f 62) (.node (cO "is_many" "is_many" 290 (g 94)) (.node (k158) (.node (f 286) (.node (f 542) .nil .nil) (.node (cO "touch" "Buffer.touch" 1260 (g 798)) .nil .nil)) (.node (cO "do_point_to_register" "do_point_to_register" 766 (g 414)) (.node (f 670) .nil .nil) .nil)) (.node (f 222) (.node (f 350) (.node (f 606) .nil .nil) .nil) (.node (k478) (.node (f 734) .nil .nil) .nil))) (.node (f 126) (.node (f 190) (.node (f 318) (.node (f 574) .nil .nil) .nil) (.node (f 446) (.node (f 702) .nil .nil) .nil)) (.node (f 254) (.node (k382) (.node (f 638) .nil .nil) .nil) (.node (f 510) (.node (f 766) .nil .nil) .nil)))))))), 805, {}, #[], {}, 1292, os⟩
noncomputable def q2 : Pos := { line := 453, col := 0, endLine := 516, endCol := 41 }
noncomputable def X3 (f : Nat → Obj) (g : Nat → List Value) (P : Params) (os : OsState) : SharedT := ⟨.node (boot_o_0 P) (.node (boot_o_1 P) (.node (k3 P) (.node (f 7) (.node (f 15) (.node (f 31) (.node (f 63) (.node (f 127) (.node (f 255) (.node (f 511) (.node (f 1023) .nil .nil) .nil) (.node (f 767) .nil .nil)) (.node (f 383) (.node (f 639) (.node (f 1151) .nil .nil) .nil) (.node (cO "new_marker" "BufferTable.new_marker" 1400 (g 895)) .nil .nil))) (.node (f 191) (.node (f 319) (.node (f 575) (.node (f 1087) .nil .nil) .nil) (.node (cO "by_name" "BufferTable.by_name" 1321 (g 831)) .nil .nil)) (.node (f 447) (.node (f 703) .nil .nil) (.node (f 959) .nil .nil)))) (.node (k95) (.node (f 159) (.node (f 287) (.node (f 543) (.node (f 1055) .nil .nil) .nil) (.node (k799) .nil .nil)) (.node (k415) (.node (f 671) .nil .nil) (.node (k927) .nil .nil))) (.node (f 223) (.node (f 351) (.node (f 607) (.node (cO "_law_taken" "_law_taken" 1717 (g 1119)) .nil .nil) .nil) (.node (f 863) .nil .nil)) (.node (f 479) (.node (f 735) .nil .nil) (.node (f 991) .nil .nil))))) (.node (f 47) (.node (f 79) (.node (cO "text_out" "text_out" 352 (g 143)) (.node (f 271) (.node (k527) (.node (f 1039) .nil .nil) .nil) (.node (f 783) .nil .nil)) (.node (f 399) (.node (f 655) .nil .nil) (.node (f 911) .nil .nil))) (.node (f 207) (.node (f 335) (.node (f 591) (.node (f 1103) .nil .nil) .nil) (.node (f 847) .nil .nil)) (.node (cO "do_increment_register" "do_increment_register" 828 (g 463)) (.node (f 719) .nil .nil) (.node (f 975) .nil .nil)))) (.node (f 111) (.node (f 175) (.node (f 303) (.node (f 559) (.node (f 1071) .nil .nil) .nil) (.node (f 815) .nil .nil)) (.node (f 431) (.node (f 687) .nil .nil) (.node (f 943) .nil .nil))) (.node (f 239) (.node (cO "place_of_register" "place_of_register" 686 (g 367)) (.node (f 623) (.node (f 1135) .nil .nil) .nil) (.node (f 879) .nil .nil)) (.node (f 495) (.node (f 751) .nil .nil) (.node (f 1007) .nil .nil)))))) (.node (f 23) (.node (f 39) (.node (f 71) (.node (f 135) (.node (f 263) (.node (cO "insert" "GapText.insert" 902 (g 519)) (.node (f 1031) .nil .nil) .nil) (.node (f 775) .nil .nil)) (.node (f 391) (.node (f 647) (.node (cO "_law_told" "_law_told" 1792 (g 1159)) .nil .nil) .nil) (.node (f 903) .nil .nil))) (.node (f 199) (.node (f 327) (.node (f 583) (.node (f 1095) .nil .nil) .nil) (.node (k839) .nil .nil)) (.node (f 455) (.node (f 711) .nil .nil) (.node (f 967) .nil .nil)))) (.node (f 103) (.node (f 167) (.node (f 295) (.node (k551) (.node (f 1063) .nil .nil) .nil) (.node (f 807) .nil .nil)) (.node (f 423) (.node (k679) .nil .nil) (.node (f 935) .nil .nil))) (.node (f 231) (.node (f 359) (.node (f 615) (.node (k1127) .nil .nil) .nil) (.node (f 871) .nil .nil)) (.node (f 487) (.node (f 743) .nil .nil) (.node (f 999) .nil .nil))))) (.node (f 55) (.node (f 87) (.node (k151) (.node (f 279) (.node (f 535) (.node (f 1047) .nil .nil) .nil) (.node (f 791) .nil .nil)) (.node (cO "insert_register" "insert_register" 752 (g 407)) (.node (f 663) .nil .nil) (.node (f 919) .nil .nil))) (.node (f 215) (.node (f 343) (.node (f 599) (.node (f 1111) .nil .nil) .nil) (.node (f 855) .nil .nil)) (.node (f 471) (.node (f 727) .nil .nil) (.node (f 983) .nil .nil)))) (.node (f 119) (.node (f 183) (.node (f 311) (.node (f 567) (.node (f 1079) .nil .nil) .nil) (.node (f 823) .nil .nil)) (.node (f 439) (.node (k695 P) .nil .nil) (.node (cO "current" "Editor.current" 1486 (g 951)) .nil .nil))) (.node (f 247) (.node (k375) (.node (f 631) (.node (f 1143) .nil .nil) .nil) (.node (f 887) .nil .nil)) (.node (f 503) (.node (f 759) .nil .nil) (.node (f 1015) .nil .nil))))))) (.node (f 11) (.node (f 19) (.node (k35) (.node (k67) (.node (f 131) (.node (f 259) (.node (f 515) (.node (f 1027) .nil .nil) .nil) (.node (k771) .nil .nil)) (.node (f 387) (.node (cO "__init__" "Markers.__init__" 1067 (g 643)) (.node (f 1155) .nil .nil) .nil) (.node (f 899) .nil .nil))) (.node (k195) (.node (f 323) (.node (f 579) (.node (cO "_law_draw" "_law_draw" 1677 (g 1091)) .nil .nil) .nil) (.node (f 835) .nil .nil)) (.node (f 451) (.node (f 707) .nil .nil) (.node (f 963) .nil .nil)))) (.node (f 99) (.node (f 163) (.node (f 291) (.node (f 547) (.node (f 1059) .nil .nil) .nil) (.node (f 803) .nil .nil)) (.node (f 419) (.node (f 675) .nil .nil) (.node (f 931) .nil .nil))) (.node (f 227) (.node (f 355) (.node (f 611) (.node (f 1123) .nil .nil) .nil) (.node (cO "set_current" "BufferTable.set_current" 1367 (g 867)) .nil .nil)) (.node (f 483) (.node (f 739) .nil .nil) (.node (f 995) .nil .nil))))) (.node (f 51) (.node (k83 P) (.node (f 147) (.node (f 275) (.node (f 531) (.node (f 1043) .nil .nil) .nil) (.node (f 787) .nil .nil)) (.node (f 403) (.node (f 659) .nil .nil) (.node (f 915) .nil .nil))) (.node (f 211) (.node (cO "held" "held" 650 (g 339)) (.node (f 595) (.node (f 1107) .nil .nil) .nil) (.node (f 851) .nil .nil)) (.node (f 467) (.node (f 723) .nil .nil) (.node (f 979) .nil .nil)))) (.node (cO "need_writable" "need_writable" 313 (g 115)) (.node (cO "insert_at" "insert_at" 402 (g 179)) (.node (f 307) (.node (f 563) (.node (f 1075) .nil .nil) .nil) (.node (f 819) .nil .nil)) (.node (cO "do_append_to_register" "do_append_to_register" 793 (g 435)) (.node (f 691) .nil .nil) (.node (f 947) .nil .nil))) (.node (f 243) (.node (f 371) (.node (k627 P) (.node (k1139) .nil .nil) .nil) (.node (f 883) .nil .nil)) (.node (k499) (.node (f 755) .nil .nil) (.node (f 1011) .nil .nil)))))) (.node (f 27) (.node (f 43) (.node (f 75) (.node (f 139) (.node (f 267) (.node (f 523) (.node (f 1035) .nil .nil) .nil) (.node (f 779) .nil .nil)) (.node (cO "increment_register" "increment_register" 737 (g 395)) (.node (k651) (.node (f 1163) .nil .nil) .nil) (.node (f 907) .nil .nil))) (.node (f 203) (.node (f 331) (.node (f 587) (.node (k1099) .nil .nil) .nil) (.node (f 843) .nil .nil)) (.node (f 459) (.node (k715) .nil .nil) (.node (f 971) .nil .nil)))) (.node (f 107) (.node (cO "put_in" "put_in" 390 (g 171)) (.node (f 299) (.node (f 555) (.node (f 1067) .nil .nil) .nil) (.node (f 811) .nil .nil)) (.node (f 427) (.node (f 683) .nil .nil) (.node (f 939) .nil .nil))) (.node (f 235) (.node (f 363) (.node (f 619) (.node (f 1131) .nil .nil) .nil) (.node (f 875) .nil .nil)) (.node (f 491) (.node (f 747) .nil .nil) (.node (f 1003) .nil .nil))))) (.node (f 59) (.node (f 91) (.node (f 155) (.node (f 283) (.node (f 539) (.node (f 1051) .nil .nil) .nil) (.node (f 795) .nil .nil)) (.node (f 411) (.node (f 667) .nil .nil) (.node (cO "__init__" "Amalgam.__init__" 1445 (g 923)) .nil .nil))) (.node (f 219) (.node (k347) (.node (cO "__init__" "Marker.__init__" 1014 (g 603)) (.node (f 1115) .nil .nil) .nil) (.node (f 859) .nil .nil)) (.node (f 475) (.node (f 731) .nil .nil) (.node (f 987) .nil .nil)))) (.node (k123) (.node (cO "insert" "insert" 412 (g 187)) (.node (f 315) (.node (f 571) (.node (f 1083) .nil .nil) .nil) (.node (f 827) .nil .nil)) (.node (k443) (.node (f 699) .nil .nil) (.node (f 955) .nil .nil))) (.node (f 251) (.node (f 379) (.node (f 635) (.node (f 1147) .nil .nil) .nil) (.node (f 891) .nil .nil)) (.node (f 507) (.node (cO "codes" "Buffer.codes" 1221 (g 763)) .nil .nil) (.node (f 1019) .nil .nil)))))))) (.node (f 5) (.node (f 9) (.node (f 17) (.node (f 33) (.node (f 65) (.node (cO "tell_ahead" "tell_ahead" 331 (g 129)) (.node (f 257) (.node (k513) (.node (f 1025) .nil .nil) .nil) (.node (f 769) .nil .nil)) (.node (f 385) (.node (f 641) (.node (k1153) .nil .nil) .nil) (.node (f 897) .nil .nil))) (.node (f 193) (.node (f 321) (.node (f 577) (.node (f 1089) .nil .nil) .nil) (.node (f 833) .nil .nil)) (.node (cO "do_insert_register" "do_insert_register" 811 (g 449)) (.node (f 705) .nil .nil) (.node (f 961) .nil .nil)))) (.node (f 97) (.node (f 161) (.node (f 289) (.node (f 545) (.node (f 1057) .nil .nil) .nil) (.node (k801 P) .nil .nil)) (.node (f 417) (.node (f 673) .nil .nil) (.node (f 929) .nil .nil))) (.node (f 225) (.node (cO "need" "need" 667 (g 353)) (.node (f 609) (.node (f 1121) .nil .nil) .nil) (.node (f 865) .nil .nil)) (.node (f 481) (.node (f 737) .nil .nil) (.node (f 993) .nil .nil))))) (.node (f 49) (.node (f 81) (.node (f 145) (.node (f 273) (.node (f 529) (.node (f 1041) .nil .nil) .nil) (.node (f 785) .nil .nil)) (.node (k401) (.node (cO "put" "Markers.put" 1081 (g 657)) .nil .nil) (.node (f 913) .nil .nil))) (.node (f 209) (.node (f 337) (.node (f 593) (.node (cO "_law_editor" "_law_editor" 1693 (g 1105)) .nil .nil) .nil) (.node (f 849) .nil .nil)) (.node (f 465) (.node (f 721) .nil .nil) (.node (f 977) .nil .nil)))) (.node (f 113) (.node (f 177) (.node (f 305) (.node (f 561) (.node (f 1073) .nil .nil) .nil) (.node (cO "__init__" "BufferTable.__init__" 1306 (g 817)) .nil .nil)) (.node (f 433) (.node (f 689) .nil .nil) (.node (k945) .nil .nil))) (.node (f 241) (.node (f 369) (.node (f 625) (.node (f 1137) .nil .nil) .nil) (.node (f 881) .nil .nil)) (.node (f 497) (.node (f 753) .nil .nil) (.node (f 1009) .nil .nil)))))) (.node (f 25) (.node (f 41) (.node (f 73) (.node (k137) (.node (f 265) (.node (f 521) (.node (f 1033) .nil .nil) .nil) (.node (f 777) .nil .nil)) (.node (f 393) (.node (f 649) (.node (f 1161) .nil .nil) .nil) (.node (k905 P) .nil .nil))) (.node (f 201) (.node (k329) (.node (k585 P) (.node (f 1097) .nil .nil) .nil) (.node (f 841) .nil .nil)) (.node (k457) (.node (f 713) .nil .nil) (.node (f 969) .nil .nil)))) (.node (f 105) (.node (f 169) (.node (f 297) (.node (f 553) (.node (f 1065) .nil .nil) .nil) (.node (f 809) .nil .nil)) (.node (f 425) (.node (f 681) .nil .nil) (.node (f 937) .nil .nil))) (.node (f 233) (.node (k361) (.node (f 617) (.node (f 1129) .nil .nil) .nil) (.node (f 873) .nil .nil)) (.node (f 489) (.node (f 745) .nil .nil) (.node (f 1001) .nil .nil))))) (.node (f 57) (.node (f 89) (.node (f 153) (.node (f 281) (.node (f 537) (.node (f 1049) .nil .nil) .nil) (.node (f 793) .nil .nil)) (.node (f 409) (.node (f 665) .nil .nil) (.node (f 921) .nil .nil))) (.node (f 217) (.node (f 345) (.node (f 601) (.node (k1113) .nil .nil) .nil) (.node (f 857) .nil .nil)) (.node (f 473) (.node (f 729) .nil .nil) (.node (f 985) .nil .nil)))) (.node (f 121) (.node (f 185) (.node (f 313) (.node (f 569) (.node (k1081) .nil .nil) .nil) (.node (k825) .nil .nil)) (.node (f 441) (.node (f 697) .nil .nil) (.node (f 953) .nil .nil))) (.node (f 249) (.node (f 377) (.node (f 633) (.node (cO "_law_due" "_law_due" 1762 (g 1145)) .nil .nil) .nil) (.node (f 889) .nil .nil)) (.node (cO "move_gap" "GapText.move_gap" 884 (g 505)) (.node (f 761) .nil .nil) (.node (f 1017) .nil .nil))))))) (.node (k13) (.node (f 21) (.node (k37 P) (.node (f 69) (.node (f 133) (.node (f 261) (.node (f 517) (.node (f 1029) .nil .nil) .nil) (.node (f 773) .nil .nil)) (.node (k389) (.node (f 645) (.node (f 1157) .nil .nil) .nil) (.node (f 901) .nil .nil))) (.node (f 197) (.node (cO "__init__" "Registers.__init__" 634 (g 325)) (.node (f 581) (.node (f 1093) .nil .nil) .nil) (.node (f 837) .nil .nil)) (.node (f 453) (.node (f 709) .nil .nil) (.node (f 965) .nil .nil)))) (.node (cO "is_minus" "is_minus" 297 (g 101)) (.node (k165) (.node (f 293) (.node (f 549) (.node (f 1061) .nil .nil) .nil) (.node (f 805) .nil .nil)) (.node (cO "do_jump_to_register" "do_jump_to_register" 776 (g 421)) (.node (f 677) .nil .nil) (.node (f 933) .nil .nil))) (.node (f 229) (.node (f 357) (.node (f 613) (.node (f 1125) .nil .nil) .nil) (.node (f 869) .nil .nil)) (.node (k485) (.node (f 741) .nil .nil) (.node (f 997) .nil .nil))))) (.node (f 53) (.node (f 85) (.node (f 149) (.node (f 277) (.node (f 533) (.node (f 1045) .nil .nil) .nil) (.node (f 789) .nil .nil)) (.node (f 405) (.node (f 661) .nil .nil) (.node (f 917) .nil .nil))) (.node (f 213) (.node (f 341) (.node (f 597) (.node (f 1109) .nil .nil) .nil) (.node (f 853) .nil .nil)) (.node (f 469) (.node (f 725) .nil .nil) (.node (f 981) .nil .nil)))) (.node (f 117) (.node (k181) (.node (f 309) (.node (f 565) (.node (f 1077) .nil .nil) .nil) (.node (f 821) .nil .nil)) (.node (f 437) (.node (f 693) .nil .nil) (.node (f 949) .nil .nil))) (.node (f 245) (.node (f 373) (.node (f 629) (.node (f 1141) .nil .nil) .nil) (.node (f 885) .nil .nil)) (.node (f 501) (.node (f 757) .nil .nil) (.node (f 1013) .nil .nil)))))) (.node (f 29) (.node (f 45) (.node (f 77) (.node (f 141) (.node (f 269) (.node (f 525) (.node (f 1037) .nil .nil) .nil) (.node (f 781) .nil .nil)) (.node (f 397) (.node (f 653) (.node (k1165) .nil .nil) .nil) (.node (f 909) .nil .nil))) (.node (f 205) (.node (f 333) (.node (f 589) (.node (f 1101) .nil .nil) .nil) (.node (f 845) .nil .nil)) (.node (f 461) (.node (f 717) .nil .nil) (.node (f 973) .nil .nil)))) (.node (k109) (.node (k173) (.node (f 301) (.node (f 557) (.node (f 1069) .nil .nil) .nil) (.node (f 813) .nil .nil)) (.node (k429) (.node (cO "deleted" "Markers.deleted" 1121 (g 685)) .nil .nil) (.node (f 941) .nil .nil))) (.node (f 237) (.node (f 365) (.node (f 621) (.node (cO "_law_text" "_law_text" 1741 (g 1133)) .nil .nil) .nil) (.node (f 877) .nil .nil)) (.node (f 493) (.node (cO "size" "Buffer.size" 1206 (g 749)) .nil .nil) (.node (f 1005) .nil .nil))))) (.node (f 61) (.node (f 93) (.node (cO "hung_out" "hung_out" 371 (g 157)) (.node (f 285) (.node (f 541) (.node (f 1053) .nil .nil) .nil) (.node (f 797) .nil .nil)) (.node (f 413) (.node (f 669) .nil .nil) (.node (f 925) .nil .nil))) (.node (f 221) (.node (f 349) (.node (f 605) (.node (f 1117) .nil .nil) .nil) (.node (k861) .nil .nil)) (.node (cO "__init__" "GapText.__init__" 850 (g 477)) (.node (f 733) .nil .nil) (.node (f 989) .nil .nil)))) (.node (f 125) (.node (f 189) (.node (f 317) (.node (f 573) (.node (f 1085) .nil .nil) .nil) (.node (f 829) .nil .nil)) (.node (f 445) (.node (f 701) .nil .nil) (.node (f 957) .nil .nil))) (.node (f 253) (.node (cO "joined_to_register" "joined_to_register" 709 (g 381)) (.node (f 637) (.node (f 1149) .nil .nil) .nil) (.node (f 893) .nil .nil)) (.node (f 509) (.node (f 765) .nil .nil) (.node (f 1021) .nil .nil))))))))) (.node (k2 P) (.node (boot_o_4 P) (.node (f 8) (.node (f 16) (.node (f 32) (.node (f 64) (.node (f 128) (.node (f 256) (.node (cO "widen_gap" "GapText.widen_gap" 893 (g 512)) (.node (f 1024) .nil .nil) .nil) (.node (f 768) .nil .nil)) (.node (f 384) (.node (f 640) (.node (cO "_law_does" "_law_does" 1776 (g 1152)) .nil .nil) .nil) (.node (k896) .nil .nil))) (.node (f 192) (.node (f 320) (.node (f 576) (.node (f 1088) .nil .nil) .nil) (.node (k832) .nil .nil)) (.node (f 448) (.node (f 704) .nil .nil) (.node (f 960) .nil .nil)))) (.node (f 96) (.node (f 160) (.node (f 288) (.node (f 544) (.node (f 1056) .nil .nil) .nil) (.node (f 800) .nil .nil)) (.node (f 416) (.node (f 672) .nil .nil) (.node (f 928) .nil .nil))) (.node (f 224) (.node (f 352) (.node (f 608) (.node (k1120) .nil .nil) .nil) (.node (f 864) .nil .nil)) (.node (f 480) (.node (f 736) .nil .nil) (.node (f 992) .nil .nil))))) (.node (f 48) (.node (f 80) (.node (k144) (.node (f 272) (.node (f 528) (.node (f 1040) .nil .nil) .nil) (.node (f 784) .nil .nil)) (.node (cO "number_codes" "number_codes" 746 (g 400)) (.node (f 656) .nil .nil) (.node (f 912) .nil .nil))) (.node (f 208) (.node (f 336) (.node (f 592) (.node (f 1104) .nil .nil) .nil) (.node (f 848) .nil .nil)) (.node (k464) (.node (f 720) .nil .nil) (.node (f 976) .nil .nil)))) (.node (f 112) (.node (f 176) (.node (f 304) (.node (f 560) (.node (f 1072) .nil .nil) .nil) (.node (f 816) .nil .nil)) (.node (f 432) (.node (f 688) .nil .nil) (.node (cO "__init__" "Editor.__init__" 1476 (g 944)) .nil .nil))) (.node (f 240) (.node (k368) (.node (f 624) (.node (f 1136) .nil .nil) .nil) (.node (f 880) .nil .nil)) (.node (f 496) (.node (f 752) .nil .nil) (.node (f 1008) .nil .nil)))))) (.node (f 24) (.node (f 40) (.node (f 72) (.node (cO "tell_behind" "tell_behind" 341 (g 136)) (.node (f 264) (.node (k520) (.node (f 1032) .nil .nil) .nil) (.node (f 776) .nil .nil)) (.node (f 392) (.node (f 648) (.node (k1160) .nil .nil) .nil) (.node (f 904) .nil .nil))) (.node (f 200) (.node (k328 P) (.node (f 584) (.node (f 1096) .nil .nil) .nil) (.node (f 840) .nil .nil)) (.node (cO "do_number_to_register" "do_number_to_register" 820 (g 456)) (.node (f 712) .nil .nil) (.node (f 968) .nil .nil)))) (.node (f 104) (.node (f 168) (.node (f 296) (.node (f 552) (.node (f 1064) .nil .nil) .nil) (.node (f 808) .nil .nil)) (.node (f 424) (.node (f 680) .nil .nil) (.node (f 936) .nil .nil))) (.node (f 232) (.node (cO "point_to_register" "point_to_register" 677 (g 360)) (.node (f 616) (.node (f 1128) .nil .nil) .nil) (.node (f 872) .nil .nil)) (.node (f 488) (.node (f 744) .nil .nil) (.node (f 1000) .nil .nil))))) (.node (f 56) (.node (f 88) (.node (f 152) (.node (f 280) (.node (f 536) (.node (f 1048) .nil .nil) .nil) (.node (f 792) .nil .nil)) (.node (k408) (.node (f 664) .nil .nil) (.node (f 920) .nil .nil))) (.node (f 216) (.node (f 344) (.node (f 600) (.node (cO "_law_moved" "_law_moved" 1703 (g 1112)) .nil .nil) .nil) (.node (f 856) .nil .nil)) (.node (f 472) (.node (f 728) .nil .nil) (.node (f 984) .nil .nil)))) (.node (f 120) (.node (f 184) (.node (f 312) (.node (f 568) (.node (k1080 P) .nil .nil) .nil) (.node (cO "by_number" "BufferTable.by_number" 1313 (g 824)) .nil .nil)) (.node (f 440) (.node (k696) .nil .nil) (.node (k952) .nil .nil))) (.node (f 248) (.node (f 376) (.node (f 632) (.node (f 1144) .nil .nil) .nil) (.node (f 888) .nil .nil)) (.node (f 504) (.node (f 760) .nil .nil) (.node (f 1016) .nil .nil))))))) (.node (⟨.none, none, .fields ⟨cF (cL.take 79)⟩, #[]⟩) (.node (f 20) (.node (f 36) (.node (f 68) (.node (f 132) (.node (f 260) (.node (f 516) (.node (f 1028) .nil .nil) .nil) (.node (f 772) .nil .nil)) (.node (cO "number_to_register" "number_to_register" 728 (g 388)) (.node (k644) (.node (f 1156) .nil .nil) .nil) (.node (f 900) .nil .nil))) (.node (f 196) (.node (f 324) (.node (f 580) (.node (k1092) .nil .nil) .nil) (.node (f 836) .nil .nil)) (.node (f 452) (.node (k708) .nil .nil) (.node (f 964) .nil .nil)))) (.node (f 100) (.node (cO "hung_in" "hung_in" 380 (g 164)) (.node (f 292) (.node (f 548) (.node (f 1060) .nil .nil) .nil) (.node (f 804) .nil .nil)) (.node (f 420) (.node (f 676) .nil .nil) (.node (f 932) .nil .nil))) (.node (f 228) (.node (f 356) (.node (f 612) (.node (f 1124) .nil .nil) .nil) (.node (k868) .nil .nil)) (.node (cO "size" "GapText.size" 859 (g 484)) (.node (f 740) .nil .nil) (.node (f 996) .nil .nil))))) (.node (f 52) (.node (k84) (.node (f 148) (.node (f 276) (.node (f 532) (.node (f 1044) .nil .nil) .nil) (.node (f 788) .nil .nil)) (.node (f 404) (.node (f 660) .nil .nil) (.node (f 916) .nil .nil))) (.node (f 212) (.node (k340) (.node (f 596) (.node (f 1108) .nil .nil) .nil) (.node (f 852) .nil .nil)) (.node (f 468) (.node (f 724) .nil .nil) (.node (f 980) .nil .nil)))) (.node (k116) (.node (k180) (.node (f 308) (.node (f 564) (.node (f 1076) .nil .nil) .nil) (.node (f 820) .nil .nil)) (.node (k436) (.node (f 692) .nil .nil) (.node (f 948) .nil .nil))) (.node (f 244) (.node (f 372) (.node (k628) (.node (f 1140) .nil .nil) .nil) (.node (f 884) .nil .nil)) (.node (f 500) (.node (f 756) .nil .nil) (.node (f 1012) .nil .nil)))))) (.node (f 28) (.node (f 44) (.node (f 76) (.node (f 140) (.node (f 268) (.node (f 524) (.node (f 1036) .nil .nil) .nil) (.node (f 780) .nil .nil)) (.node (k396) (.node (f 652) (.node (⟨.type "code", none, .fields ⟨[.str "law" 1803, .str "law" 1804, .str "/claim/cut.py" 1805, .int 772 0, .int 1 0, .int 0 0, .int 0 0, .int 3 0, .ref 1161, .bool true, .int 181 0, .ref 1162, .none, .none, .none, .ref 1163, .int 1806 0, .int 772 0, .str "/claim/cut.py" 1807]⟩, #[]⟩) .nil .nil) .nil) (.node (f 908) .nil .nil))) (.node (f 204) (.node (f 332) (.node (f 588) (.node (f 1100) .nil .nil) .nil) (.node (f 844) .nil .nil)) (.node (f 460) (.node (f 716) .nil .nil) (.node (f 972) .nil .nil)))) (.node (cO "numeric" "numeric" 304 (g 108)) (.node (k172) (.node (f 300) (.node (f 556) (.node (f 1068) .nil .nil) .nil) (.node (f 812) .nil .nil)) (.node (cO "do_copy_to_register" "do_copy_to_register" 785 (g 428)) (.node (f 684) .nil .nil) (.node (f 940) .nil .nil))) (.node (f 236) (.node (f 364) (.node (f 620) (.node (f 1132) .nil .nil) .nil) (.node (f 876) .nil .nil)) (.node (f 492) (.node (f 748) .nil .nil) (.node (f 1004) .nil .nil))))) (.node (f 60) (.node (f 92) (.node (f 156) (.node (f 284) (.node (f 540) (.node (f 1052) .nil .nil) .nil) (.node (f 796) .nil .nil)) (.node (f 412) (.node (f 668) .nil .nil) (.node (k924) .nil .nil))) (.node (f 220) (.node (f 348) (.node (k604) (.node (f 1116) .nil .nil) .nil) (.node (cO "select" "BufferTable.select" 1359 (g 860)) .nil .nil)) (.node (f 476) (.node (f 732) .nil .nil) (.node (f 988) .nil .nil)))) (.node (f 124) (.node (k188) (.node (f 316) (.node (f 572) (.node (f 1084) .nil .nil) .nil) (.node (f 828) .nil .nil)) (.node (f 444) (.node (f 700) .nil .nil) (.node (f 956) .nil .nil))) (.node (f 252) (.node (f 380) (.node (f 636) (.node (f 1148) .nil .nil) .nil) (.node (f 892) .nil .nil)) (.node (f 508) (.node (k764) .nil .nil) (.node (f 1020) .nil .nil)))))))) (.node (f 6) (.node (f 10) (.node (f 18) (.node (cO "__init__" "LispSignal.__init__" 208 (g 34)) (.node (cO "set_marker" "set_marker" 250 (g 66)) (.node (k130) (.node (f 258) (.node (f 514) (.node (f 1026) .nil .nil) .nil) (.node (cO "goto" "Buffer.goto" 1230 (g 770)) .nil .nil)) (.node (f 386) (.node (f 642) (.node (f 1154) .nil .nil) .nil) (.node (f 898) .nil .nil))) (.node (cO "delete" "delete" 421 (g 194)) (.node (f 322) (.node (f 578) (.node (f 1090) .nil .nil) .nil) (.node (f 834) .nil .nil)) (.node (k450) (.node (f 706) .nil .nil) (.node (f 962) .nil .nil)))) (.node (f 98) (.node (f 162) (.node (f 290) (.node (f 546) (.node (f 1058) .nil .nil) .nil) (.node (k802) .nil .nil)) (.node (f 418) (.node (f 674) .nil .nil) (.node (f 930) .nil .nil))) (.node (f 226) (.node (k354) (.node (f 610) (.node (f 1122) .nil .nil) .nil) (.node (f 866) .nil .nil)) (.node (f 482) (.node (f 738) .nil .nil) (.node (f 994) .nil .nil))))) (.node (f 50) (.node (f 82) (.node (f 146) (.node (f 274) (.node (f 530) (.node (f 1042) .nil .nil) .nil) (.node (f 786) .nil .nil)) (.node (f 402) (.node (k658) .nil .nil) (.node (f 914) .nil .nil))) (.node (f 210) (.node (f 338) (.node (f 594) (.node (k1106) .nil .nil) .nil) (.node (f 850) .nil .nil)) (.node (f 466) (.node (f 722) .nil .nil) (.node (f 978) .nil .nil)))) (.node (f 114) (.node (f 178) (.node (f 306) (.node (f 562) (.node (f 1074) .nil .nil) .nil) (.node (k818) .nil .nil)) (.node (f 434) (.node (f 690) .nil .nil) (.node (f 946) .nil .nil))) (.node (f 242) (.node (f 370) (.node (f 626) (.node (cO "_law_put" "_law_put" 1756 (g 1138)) .nil .nil) .nil) (.node (f 882) .nil .nil)) (.node (cO "codes" "GapText.codes" 874 (g 498)) (.node (f 754) .nil .nil) (.node (f 1010) .nil .nil)))))) (.node (f 26) (.node (f 42) (.node (f 74) (.node (f 138) (.node (f 266) (.node (f 522) (.node (f 1034) .nil .nil) .nil) (.node (f 778) .nil .nil)) (.node (f 394) (.node (cO "numbers" "Markers.numbers" 1074 (g 650)) (.node (⟨.none, none, .fields ⟨[]⟩, #[]⟩) .nil .nil) .nil) (.node (k906) .nil .nil))) (.node (f 202) (.node (f 330) (.node (k586) (.node (cO "_law_pick" "_law_pick" 1685 (g 1098)) .nil .nil) .nil) (.node (f 842) .nil .nil)) (.node (f 458) (.node (cO "__init__" "Buffer.__init__" 1168 (g 714)) .nil .nil) (.node (f 970) .nil .nil)))) (.node (f 106) (.node (f 170) (.node (f 298) (.node (f 554) (.node (f 1066) .nil .nil) .nil) (.node (f 810) .nil .nil)) (.node (f 426) (.node (f 682) .nil .nil) (.node (f 938) .nil .nil))) (.node (f 234) (.node (f 362) (.node (f 618) (.node (f 1130) .nil .nil) .nil) (.node (f 874) .nil .nil)) (.node (f 490) (.node (f 746) .nil .nil) (.node (f 1002) .nil .nil))))) (.node (f 58) (.node (f 90) (.node (f 154) (.node (f 282) (.node (f 538) (.node (f 1050) .nil .nil) .nil) (.node (f 794) .nil .nil)) (.node (f 410) (.node (f 666) .nil .nil) (.node (f 922) .nil .nil))) (.node (f 218) (.node (cO "put" "put" 658 (g 346)) (.node (f 602) (.node (f 1114) .nil .nil) .nil) (.node (f 858) .nil .nil)) (.node (f 474) (.node (f 730) .nil .nil) (.node (f 986) .nil .nil)))) (.node (cO "reached" "reached" 320 (g 122)) (.node (f 186) (.node (f 314) (.node (f 570) (.node (f 1082) .nil .nil) .nil) (.node (f 826) .nil .nil)) (.node (cO "do_prepend_to_register" "do_prepend_to_register" 802 (g 442)) (.node (f 698) .nil .nil) (.node (f 954) .nil .nil))) (.node (f 250) (.node (f 378) (.node (f 634) (.node (k1146) .nil .nil) .nil) (.node (f 890) .nil .nil)) (.node (k506) (.node (f 762) .nil .nil) (.node (f 1018) .nil .nil))))))) (.node (f 14) (.node (f 22) (.node (k38) (.node (f 70) (.node (f 134) (.node (f 262) (.node (f 518) (.node (f 1030) .nil .nil) .nil) (.node (f 774) .nil .nil)) (.node (f 390) (.node (f 646) (.node (f 1158) .nil .nil) .nil) (.node (f 902) .nil .nil))) (.node (f 198) (.node (k326) (.node (f 582) (.node (f 1094) .nil .nil) .nil) (.node (cO "create" "BufferTable.create" 1330 (g 838)) .nil .nil)) (.node (f 454) (.node (f 710) .nil .nil) (.node (f 966) .nil .nil)))) (.node (k102) (.node (f 166) (.node (f 294) (.node (k550 P) (.node (f 1062) .nil .nil) .nil) (.node (f 806) .nil .nil)) (.node (k422) (.node (cO "inserted" "Markers.inserted" 1109 (g 678)) .nil .nil) (.node (f 934) .nil .nil))) (.node (f 230) (.node (f 358) (.node (f 614) (.node (cO "_law_kept" "_law_kept" 1731 (g 1126)) .nil .nil) .nil) (.node (f 870) .nil .nil)) (.node (f 486) (.node (f 742) .nil .nil) (.node (f 998) .nil .nil))))) (.node (f 54) (.node (f 86) (.node (cO "text_in" "text_in" 362 (g 150)) (.node (f 278) (.node (f 534) (.node (f 1046) .nil .nil) .nil) (.node (f 790) .nil .nil)) (.node (f 406) (.node (f 662) .nil .nil) (.node (f 918) .nil .nil))) (.node (f 214) (.node (f 342) (.node (f 598) (.node (f 1110) .nil .nil) .nil) (.node (f 854) .nil .nil)) (.node (f 470) (.node (f 726) .nil .nil) (.node (f 982) .nil .nil)))) (.node (f 118) (.node (f 182) (.node (f 310) (.node (f 566) (.node (f 1078) .nil .nil) .nil) (.node (f 822) .nil .nil)) (.node (f 438) (.node (f 694) .nil .nil) (.node (f 950) .nil .nil))) (.node (f 246) (.node (cO "copy_to_register" "copy_to_register" 695 (g 374)) (.node (f 630) (.node (f 1142) .nil .nil) .nil) (.node (f 886) .nil .nil)) (.node (f 502) (.node (f 758) .nil .nil) (.node (f 1014) .nil .nil)))))) (.node (f 30) (.node (f 46) (.node (f 78) (.node (f 142) (.node (f 270) (.node (cO "delete" "GapText.delete" 911 (g 526)) (.node (f 1038) .nil .nil) .nil) (.node (f 782) .nil .nil)) (.node (f 398) (.node (f 654) .nil .nil) (.node (f 910) .nil .nil))) (.node (f 206) (.node (f 334) (.node (f 590) (.node (f 1102) .nil .nil) .nil) (.node (f 846) .nil .nil)) (.node (f 462) (.node (f 718) .nil .nil) (.node (f 974) .nil .nil)))) (.node (f 110) (.node (f 174) (.node (f 302) (.node (f 558) (.node (f 1070) .nil .nil) .nil) (.node (f 814) .nil .nil)) (.node (f 430) (.node (k686) .nil .nil) (.node (f 942) .nil .nil))) (.node (f 238) (.node (f 366) (.node (f 622) (.node (k1134) .nil .nil) .nil) (.node (f 878) .nil .nil)) (.node (f 494) (.node (k750) .nil .nil) (.node (f 1006) .nil .nil))))) (.node (f 62) (.node (cO "is_many" "is_many" 290 (g 94)) (.node (k158) (.node (f 286) (.node (f 542) (.node (f 1054) .nil .nil) .nil) (.node (cO "touch" "Buffer.touch" 1260 (g 798)) .nil .nil)) (.node (cO "do_point_to_register" "do_point_to_register" 766 (g 414)) (.node (f 670) .nil .nil) (.node (k926 P) .nil .nil))) (.node (f 222) (.node (f 350) (.node (f 606) (.node (f 1118) .nil .nil) .nil) (.node (f 862) .nil .nil)) (.node (k478) (.node (f 734) .nil .nil) (.node (f 990) .nil .nil)))) (.node (f 126) (.node (f 190) (.node (f 318) (.node (f 574) (.node (f 1086) .nil .nil) .nil) (.node (f 830) .nil .nil)) (.node (f 446) (.node (f 702) .nil .nil) (.node (f 958) .nil .nil))) (.node (f 254) (.node (k382) (.node (f 638) (.node (f 1150) .nil .nil) .nil) (.node (f 894) .nil .nil)) (.node (f 510) (.node (f 766) .nil .nil) (.node (f 1022) .nil .nil))))))))), 1166, {}, #[], {}, 1809, os⟩
noncomputable def q3 : Pos := { line := 772, col := 0, endLine := 790, endCol := 15 }
noncomputable def run1 (w : World) (os : OsState) : Out := Fast.tw10110043849684766642 TB pr w 11 annH 1 2326 (T0 w os) (piecesOf (partH 0 66) envH cH q0 BH)
theorem part1 (w : World) (os : OsState) : (run1 w os).bind some = some (.next, X1 (objAt (run1 w os)) (codeAt (run1 w os)) w.params os, cH, q1) := by kernel_rfl
noncomputable def run2 (f : Nat → Obj) (g : Nat → List Value) (w : World) (os : OsState) : Out := Fast.tw10110043849684766642 TB pr w 11 annH 1 2567 (X1 f g w.params os) (piecesOf (partH 66 17) envH cH q1 BH)
theorem part2 (f : Nat → Obj) (g : Nat → List Value) (w : World) (os : OsState) : (run2 f g w os).bind some = some (.next, X2 (objAt (run2 f g w os)) (codeAt (run2 f g w os)) w.params os, cH, q2) := by kernel_rfl
noncomputable def run3 (f : Nat → Obj) (g : Nat → List Value) (w : World) (os : OsState) : Out := Fast.tw10110043849684766642 TB pr w 11 annH 1 2130 (X2 f g w.params os) (piecesOf (partH 83 19) envH cH q2 BH)
theorem part3 (f : Nat → Obj) (g : Nat → List Value) (w : World) (os : OsState) : (run3 f g w os).bind some = some (.next, X3 (objAt (run3 f g w os)) (codeAt (run3 f g w os)) w.params os, cH, q3) := by kernel_rfl
end
section
/-- the law's def alone; every other name of the text is loose -/
noncomputable def qH : Program := { pr with main := { pr.main with body := [stm 101] } }
noncomputable def looseH : List Str := List.map Str.ofString ["_wall", "LispSignal", "standard_messages", "message_with", "message_of", "set_marker", "Many", "is_many", "is_minus", "numeric", "need_writable", "reached", "tell_ahead", "tell_behind", "text_out", "text_in", "hung_out", "hung_in", "put_in", "put_in_editing", "insert_at", "insert", "delete", "replace", "NEWLINE", "line_start", "line_end", "TAB", "BLANK", "column_behind", "column_at", "row_columns", "place_at", "opened", "padded", "cut_at", "put_in_rectcols", "ROW_END", "rows_in", "text_of", "column_of", "yank_rectangle", "behind_last", "row_columns_from", "Registers", "held", "put", "need", "point_to_register", "place_of_register", "copy_to_register", "joined_to_register", "number_to_register", "increment_register", "number_codes", "insert_register", "do_point_to_register", "do_jump_to_register", "do_copy_to_register", "do_append_to_register", "do_prepend_to_register", "do_insert_register", "do_number_to_register", "do_increment_register", "GapText", "Opaque", "Marker", "Markers", "Buffer", "BufferTable", "Amalgam", "Editor", "_law_draw", "_law_pick", "_law_editor", "_law_moved", "_law_taken", "_law_kept", "_law_text", "_law_put", "_law_due", "_law_does", "_law_told"]
noncomputable abbrev XtH (s : Shared) : Bool := xlAt qH [] s && recOk (RowW.records PySem.Challenge.rw_on0076_01.row.toRowW) s
section
variable (f : Nat → Obj) (g : Nat → List Value) (w : World) (os : OsState)
noncomputable abbrev sH : Shared := (X3 f g w.params os).abs
theorem look0 : topRun TB pr w 11 annH 2 (sH f g w os) ⟨doneF .next, cH, q3, BH⟩ = some (sH f g w os) := by kernel_rfl
theorem look1 : (staticsOk (importedModules pr.main.body) (boot_heap w.params) (sH f g w os).heap && namesBound pr (sH f g w os).heap && gensDone (sH f g w os) && laidKept (boot_heap w.params) (sH f g w os).heap) = true := by kernel_rfl
theorem look2 : kHk.obs (sH f g w os) = kHk.val w := by kernel_rfl
theorem look3 : openSeen qH looseH (importedModules pr.main.body) XtH true (sH f g w os) = openGood qH looseH := by kernel_rfl
end
/-! from the parts to the whole -/
theorem bind_some {α : Type} (x : Option α) : x.bind some = x := by cases x <;> rfl
theorem insAll_abs (life : Life) : ∀ (l : List Obj) (t : BT) (n : Nat) (t' : BT), insAll l t n = some t' → absHeap t' (n + l.length) life = ⟨((absHeap t n life).objs.toList ++ l).toArray, life⟩
  | [], t, n, t', h => by
    cases (show some t = some t' from h)
    rw [List.append_nil]; rfl
  | o :: l, t, n, t', h => by
    have h : (match ((t.ins n o).get n).isSome with
      | true => insAll l (t.ins n o) (n + 1)
      | false => none) = some t' := h
    cases g : ((t.ins n o).get n).isSome with
    | false => rw [g] at h; cases h
    | true =>
      rw [g] at h
      have := insAll_abs life l (t.ins n o) (n + 1) t' h
      rw [List.length_cons, show n + (l.length + 1) = n + 1 + l.length by omega, this, absHeap_ins g]
      show (⟨((absHeap t n life).objs.push o).toList ++ l |>.toArray, life⟩ : Heap) = _
      rw [Array.toList_push, List.append_assoc]; rfl
theorem seg_F : @segRunT = @Fast.tw10110043849684766642 := Fast.te10110043849684766642
theorem go_F : @topGo = @Fast.tw15667345088766844465 := Fast.te15667345088766844465
section
variable (w : World) (os : OsState)
theorem pre_run : topGo TB pr w 11 annH 12 (S0 w os) (topStub pr) = some (sa w os, ⟨denote TB cH, cH, q0, BH⟩) := by
  rw [go_F, show @denote = Fast.tw11892475500146522536 from Fast.te11892475500146522536]
  kernel_rfl
theorem block_run : segRun TB pr w 11 annH 1 1 (sa w os) (blockOf (behindTheImports pr) envH cH q0 BH) = some (.next, sa w os, cH, q0) := by kernel_rfl
theorem T0_ins : ∃ t, insAll (sa w os).heap.objs.toList .nil 0 = some t ∧ T0 w os = ⟨t, 15, {}, #[], {}, 187, os⟩ := by
  have h : (insAll (sa w os).heap.objs.toList .nil 0).isSome = true := by kernel_rfl
  obtain ⟨t, e⟩ := Option.isSome_iff_exists.mp h
  refine ⟨t, e, ?_⟩
  unfold T0
  rw [e]
theorem sa_is : sa w os = ⟨⟨(sa w os).heap.objs, {}⟩, #[], {}, 187, os⟩ ∧ (sa w os).heap.objs.toList.length = 15 := ⟨by kernel_rfl, by kernel_rfl⟩
theorem T0_abs : (T0 w os).abs = sa w os := by
  obtain ⟨t, e, h⟩ := T0_ins w os
  obtain ⟨e1, e2⟩ := sa_is w os
  have := insAll_abs {} _ _ _ _ e
  rw [Nat.zero_add, e2] at this
  rw [h, e1]
  unfold SharedT.abs
  rw [this]
  rfl
theorem seg_of {o : Out} {n : Nat} {s s' : SharedT} {l : List Stmt} {q q' : Pos} (h : o.bind some = some (.next, s', cH, q')) (e : o = Fast.tw10110043849684766642 TB pr w 11 annH 1 n s (piecesOf l envH cH q BH)) : segRun TB pr w 11 annH 1 n s.abs (piecesOf l envH cH q BH) = some (.next, s'.abs, cH, q') := by
  rw [bind_some, e, ← seg_F] at h
  exact segRun_of h
theorem parts : partH 0 66 ++ (partH 66 17 ++ (partH 83 19 ++ [])) = behindTheImports pr := by kernel_rfl
theorem run1_is : run1 w os = Fast.tw10110043849684766642 TB pr w 11 annH 1 2326 (T0 w os) (piecesOf (partH 0 66) envH cH q0 BH) := by delta run1; exact Eq.refl _
theorem run2_is (f : Nat → Obj) (g : Nat → List Value) : run2 f g w os = Fast.tw10110043849684766642 TB pr w 11 annH 1 2567 (X1 f g w.params os) (piecesOf (partH 66 17) envH cH q1 BH) := by delta run2; exact Eq.refl _
theorem run3_is (f : Nat → Obj) (g : Nat → List Value) : run3 f g w os = Fast.tw10110043849684766642 TB pr w 11 annH 1 2130 (X2 f g w.params os) (piecesOf (partH 83 19) envH cH q2 BH) := by delta run3; exact Eq.refl _
theorem segA : ∃ f g, segRun TB pr w 11 annH 1 2326 (T0 w os).abs (piecesOf (partH 0 66) envH cH q0 BH) = some (.next, (X1 f g w.params os).abs, cH, q1) := by
  have a := part1 w os
  generalize objAt (run1 w os) = f1 at a
  generalize codeAt (run1 w os) = g1 at a
  exact ⟨f1, g1, seg_of w a (run1_is w os)⟩
theorem segB (f : Nat → Obj) (g : Nat → List Value) : ∃ f' g', segRun TB pr w 11 annH 1 2567 (X1 f g w.params os).abs (piecesOf (partH 66 17) envH cH q1 BH) = some (.next, (X2 f' g' w.params os).abs, cH, q2) := by
  have a := part2 f g w os
  generalize objAt (run2 f g w os) = f1 at a
  generalize codeAt (run2 f g w os) = g1 at a
  exact ⟨f1, g1, seg_of w a (run2_is w os f g)⟩
theorem segC (f : Nat → Obj) (g : Nat → List Value) : ∃ f' g', segRun TB pr w 11 annH 1 2130 (X2 f g w.params os).abs (piecesOf (partH 83 19) envH cH q2 BH) = some (.next, (X3 f' g' w.params os).abs, cH, q3) := by
  have a := part3 f g w os
  generalize objAt (run3 f g w os) = f1 at a
  generalize codeAt (run3 f g w os) = g1 at a
  exact ⟨f1, g1, seg_of w a (run3_is w os f g)⟩
theorem whole_run : ∃ f g, topRun TB pr w 11 annH (12 + (1 + (2326 + (2567 + (2130 + 2))))) (S0 w os) (topStub pr) = some (sH f g w os) := by
  obtain ⟨f1, g1, a⟩ := segA w os
  obtain ⟨f2, g2, b⟩ := segB w os f1 g1
  obtain ⟨f3, g3, c⟩ := segC w os f2 g2
  have d := piece_nil (env := envH) (look0 f3 g3 w os)
  have c := piece_app c d
  have b := piece_app b c
  have a := piece_app a b
  rw [parts, T0_abs] at a
  exact ⟨f3, g3, go_top (pre_run w os) (piece_block (block_run w os) a)⟩
end
theorem left_run {p q : Program} {loose : List Str} {Xt : Shared → Bool} {α : Type} {Yf : Shared → α} {Ya : World → α} {N M : Nat} {g0 : Bool} {h₀ : Params → Heap} {gs : Array GenState} {dr : Drawn} {tk m₀ : Nat} {ann : Option Value}
    (ho : ∀ w : World, (fencedOpening treeTable p w N).map (fun s => (s.heap, s.gens, s.drawn, s.toks)) = some (h₀ w.params, gs, dr, tk))
    (hs : ∀ w : World, ((h₀ w.params).isNs mainGlobals && gs.size == 0) = true ∧ (h₀ w.params).objs.size = m₀ ∧ (h₀ w.params).nsMap mainGlobals "__annotations__" = ann)
    (hr : ∀ w os, ∃ s, topRun treeTable p w m₀ ann M ⟨h₀ w.params, gs, dr, tk, os⟩ (topStub p) = some s ∧ (staticsOk (importedModules p.main.body) (h₀ w.params) s.heap && namesBound p s.heap && gensDone s && laidKept (h₀ w.params) s.heap) = true ∧
      openSeen q loose (importedModules p.main.body) Xt g0 s = openGood q loose ∧ Yf s = Ya w) (hM : M ≤ N) : LeftO p q loose Xt Yf Ya N g0 := fun w => by
  have o := ho w
  cases e : fencedOpening treeTable p w N with
  | none => rw [e] at o; cases o
  | some s₀ =>
    rw [e] at o
    obtain ⟨h, gs', dr', tk', os⟩ := s₀
    have o := Option.some.inj o
    simp only [Prod.mk.injEq] at o
    obtain ⟨rfl, rfl, rfl, rfl⟩ := o
    obtain ⟨s, r, c, l1, l2⟩ := hr w os
    obtain ⟨z1, z2, z3⟩ := hs w
    have r := topRun_mono (N - M) _ _ _ _ r
    rw [Nat.add_sub_cancel' hM] at r
    have t : topFrom treeTable p w N ⟨h₀ w.params, gs', dr', tk', os⟩ = some s := by
      unfold topFrom
      dsimp only
      rw [z1, z2, z3, r]
      dsimp only [Option.bind_some]
      rw [c]
    unfold openEnds
    rw [e, Option.bind_some, t, Option.map_some, l1, l2]
theorem left0 : LeftO pr qH looseH XtH kHk.obs kHk.val 20000 true :=
  left_run (M := 12 + (1 + (2326 + (2567 + (2130 + 2))))) (boot_open (by kernel_rfl) (by decide) fun s => by kernel_rfl) (m₀ := 11) (ann := annH) (fun w => ⟨by kernel_rfl, by kernel_rfl, by kernel_rfl⟩)
    (fun w os => by
      obtain ⟨f, g, r⟩ := whole_run w os
      rw [show treeTable = TB from Fast.te14364793385576792824]
      exact ⟨sH f g w os, r, look1 f g w os, look3 f g w os, look2 f g w os⟩) (by decide)
end
theorem said0 : Fast.tw9446332074065402090 PySem.Challenge.rw_on0076_01 = true := by
  unfold Fast.tw9446332074065402090
  repeat (refine look_both ?_ (by as_aux_lemma => kernel_rfl))
  as_aux_lemma => kernel_rfl
theorem said : PySem.Challenge.rw_on0076_01.wellSaid = true := (congrFun Fast.te9446332074065402090 _).trans said0
/-! # values, objects, states as plain data -/

inductive V where
  | none
  | bool (b : Bool)
  | int (i : Int)
  | str (s : Str)
  | val (v : Value)
  | ref (a : Addr)
  | tup (xs : List V)
  | lst (xs : List V)
  | obj (q : Obj → Prop)
  | dct (xs : List (Int × V))

noncomputable abbrev Cells := List (Addr × Obj)
noncomputable def IsTp (o : Obj) (vs : List Value) : Prop := o.cls = .type "tuple" ∧ ∃ n, o.data = .seq vs.toArray n
noncomputable def IsLs (o : Obj) (vs : List Value) : Prop := ∃ n, o = { cls := .type "list", data := .seq vs.toArray n }
noncomputable def IsDc (o : Obj) (kvs : List (Int × Value)) : Prop := ∀ prog w, o.IsDictOf (intKind prog w) kvs
theorem IsDc.of {prog : Program} {w : World} {o : Obj} {kvs : List (Int × Value)} (h : o.IsDictOf (intKind prog w) kvs) : IsDc o kvs := fun prog' w' => by
  obtain ⟨es, ep, h1, h2, h3, h4, h5⟩ := h
  refine ⟨es, ep, h1, h2, h3, ?_, h5⟩
  clear h2 h3 h5
  generalize es.toList = l at h4
  induction h4 with
  | nil => exact .nil
  | cons a b _ ih => exact .cons a b ih

mutual
inductive RV (z : Cells) : Value → V → Prop
  | none : RV z .none .none
  | bool (b : Bool) : RV z (.bool b) (.bool b)
  | int (i : Int) (t : Tok) : RV z (.int i t) (.int i)
  | str (s : Str) (t : Tok) : RV z (.str s t) (.str s)
  | val (v : Value) : RV z v (.val v)
  | ref (a : Addr) : RV z (.ref a) (.ref a)
  | tup {a : Addr} {o : Obj} {vs : List Value} {xs : List V} : (a, o) ∈ z → IsTp o vs → RVs z vs xs → RV z (.ref a) (.tup xs)
  | lst {a : Addr} {o : Obj} {vs : List Value} {xs : List V} : (a, o) ∈ z → IsLs o vs → RVs z vs xs → RV z (.ref a) (.lst xs)
  | obj {a : Addr} {o : Obj} {q : Obj → Prop} : (a, o) ∈ z → (a == sysModules) = false → (o.cls = .type "slice" ∨ o.cls = .type "range" ∨ o.cls = .type "dict") → q o → RV z (.ref a) (.obj q)
  | dct {a : Addr} {o : Obj} {es : List (Int × Value)} {xs : List (Int × V)} : (a, o) ∈ z → (a == sysModules) = false → IsDc o es → RE z es xs → RV z (.ref a) (.dct xs)
inductive RVs (z : Cells) : List Value → List V → Prop
  | nil : RVs z [] []
  | cons {v : Value} {x : V} {vs : List Value} {xs : List V} : RV z v x → RVs z vs xs → RVs z (v :: vs) (x :: xs)
inductive RE (z : Cells) : List (Int × Value) → List (Int × V) → Prop
  | nil : RE z [] []
  | cons {k : Int} {v : Value} {x : V} {es : List (Int × Value)} {xs : List (Int × V)} : RV z v x → RE z es xs → RE z ((k, v) :: es) ((k, x) :: xs)
end

noncomputable abbrev Sub (z z' : Cells) : Prop := ∀ p ∈ z, p ∈ z'
mutual
theorem RV.mono {z z' : Cells} (k : Sub z z') : ∀ {v : Value} {x : V}, RV z v x → RV z' v x
  | _, _, .none => .none
  | _, _, .bool b => .bool b
  | _, _, .int i t => .int i t
  | _, _, .str s t => .str s t
  | _, _, .val v => .val v
  | _, _, .ref a => .ref a
  | _, _, .tup m i h => .tup (k _ m) i (RVs.mono k h)
  | _, _, .lst m i h => .lst (k _ m) i (RVs.mono k h)
  | _, _, .obj m l c h => .obj (k _ m) l c h
  | _, _, .dct m l i h => .dct (k _ m) l i (RE.mono k h)
theorem RVs.mono {z z' : Cells} (k : Sub z z') : ∀ {vs : List Value} {xs : List V}, RVs z vs xs → RVs z' vs xs
  | _, _, .nil => .nil
  | _, _, .cons h hs => .cons (RV.mono k h) (RVs.mono k hs)
theorem RE.mono {z z' : Cells} (k : Sub z z') : ∀ {es : List (Int × Value)} {xs : List (Int × V)}, RE z es xs → RE z' es xs
  | _, _, .nil => .nil
  | _, _, .cons h hs => .cons (RV.mono k h) (RE.mono k hs)
end
theorem RVs.length {z : Cells} : ∀ {vs : List Value} {xs : List V}, RVs z vs xs → vs.length = xs.length
  | _, _, .nil => rfl
  | _, _, .cons _ h => by rw [List.length_cons, List.length_cons, RVs.length h]

inductive O where
  | inst (C : Addr) (cap : Nat) (fs : List (Str × V))
  | list (xs : List V)
  | dict (es : List (Int × V))
  | exc (raw : Bool) (fs : Option (List (Str × V)))
noncomputable abbrev HH := List (Addr × O)
noncomputable abbrev Locs := List (Str × V)

/-- the names that an object of a class may bear in its own dict -/
noncomputable def fldOf : Addr → List Str
  | 38 => ["symbol", "data"]
  | 329 => ["contents"]
  | 551 => ["room", "cells", "gap_start", "gap_end"]
  | 628 => ["number", "advances", "buffer", "position"]
  | 696 => ["rows"]
  | 802 => ["number", "name", "text", "markers", "point", "begv", "zv", "mark", "is_live", "is_read_only", "ticks", "codes_ticks", "saved_ticks", "listeners", "undo", "props", "overlays", "locals", "syntax", "file"]
  | 906 => ["rows", "order", "current", "last_number", "last_marker"]
  | 927 => ["sort", "many"]
  | 1081 => ["buffers", "commands", "global_map", "local_maps", "minor_maps", "question_map", "questions", "asker", "kills", "registers", "abbrevs", "windows", "files", "machine", "rules", "further", "matches", "loop", "goal", "undoing", "marks", "amalgam", "message", "panes", "modes", "fill_column", "tab_width", "rectangle", "last_expansion", "replacing"]
  | _ => []

inductive RO (z : Cells) : Addr → O → Cells → Prop
  | inst {a dx C : Addr} {cap n : Nat} {fs : List (Str × V)} {es : List DictEntry} : es.length ≤ cap → (∀ e ∈ es, ∃ x t, e.key = .str x t ∧ x ∈ fldOf C) →
      (∀ p ∈ fs, ∃ v, getL p.1 es = some (some v) ∧ RV z v p.2) → RO z a (.inst C cap fs) [(a, instObj C dx), (dx, dictOf es n)]
  | list {a : Addr} {o : Obj} {vs : List Value} {xs : List V} : IsLs o vs → RVs z vs xs → RO z a (.list xs) [(a, o)]
  | dict {a : Addr} {o : Obj} {es : List (Int × Value)} {xs : List (Int × V)} : (a == sysModules) = false → IsDc o es → RE z es xs → RO z a (.dict xs) [(a, o)]
  | exc0 {a t : Addr} : RO z a (.exc true none) [(a, { cls := .ref 38, data := .fields #[.ref t, .none, .none, .none, .bool false, .none] })]
  | exc1 {a dx : Addr} {o : Obj} {raw : Bool} {vs : Array Value} {sl : Array (Option Value)} {m : Str → Option Value} {fs : List (Str × V)} : (raw = true → ∃ t, vs = #[.ref t, .none, .none, .none, .bool false, .none]) → (∀ h : Heap, h.get? dx = some o → h.Ns1 dx m) →
      Within m ["symbol", "data"] → (∀ p ∈ fs, ∃ v, m p.1 = some v ∧ RV z v p.2) → RO z a (.exc raw (some fs)) [(a, { cls := .ref 38, dict := some dx, data := .fields vs, slots := sl }), (dx, o)]
theorem RO.mono {z z' : Cells} (k : Sub z z') {a : Addr} {o : O} {cs : Cells} (h : RO z a o cs) : RO z' a o cs := by
  cases h with
  | inst h1 h2 h3 => exact .inst h1 h2 fun p hp => let ⟨v, e, r⟩ := h3 p hp; ⟨v, e, r.mono k⟩
  | list i h => exact .list i (h.mono k)
  | dict l i h => exact .dict l i (h.mono k)
  | exc0 => exact .exc0
  | exc1 h0 h1 h2 h3 => exact .exc1 h0 h1 h2 fun p hp => let ⟨v, e, r⟩ := h3 p hp; ⟨v, e, r.mono k⟩

inductive RH (z : Cells) : HH → Cells → Prop
  | nil : RH z [] []
  | cons {a : Addr} {o : O} {cs ow : Cells} {H : HH} : RO z a o cs → RH z H ow → RH z ((a, o) :: H) (cs ++ ow)
theorem RH.mono {z z' : Cells} (k : Sub z z') : ∀ {H : HH} {ow : Cells}, RH z H ow → RH z' H ow
  | _, _, .nil => .nil
  | _, _, .cons h hs => .cons (h.mono k) (RH.mono k hs)

/-- the frame's names: each that is listed is bound so -/
noncomputable def RL (z : Cells) (m : Str → Option Value) (loc : Locs) : Prop := ∀ p ∈ loc, ∃ v, m p.1 = some v ∧ RV z v p.2
theorem RL.mono {z z' : Cells} (k : Sub z z') {m : Str → Option Value} {loc : Locs} (h : RL z m loc) : RL z' m loc :=
  fun p hp => let ⟨v, e, r⟩ := h p hp; ⟨v, e, r.mono k⟩

/-! # how a heap bears a state -/

structure Cf where
  env : Env
  outer : List Env
  m : Str → Option Value
  fr : Cells
  ow : Cells
  fz : Cells

structure Sat (h₀ : Heap) (c : Cf) (H : HH) (h : Heap) : Prop where
  F : Fr h₀ c.env.locals h c.m
  N : News h₀ c.env.locals h (c.ow ++ (c.fr ++ c.fz))
  R : RH c.fz H c.ow
  nd : ((c.ow ++ c.fr).map (·.1)).Nodup
  zz : ∀ p ∈ c.ow ++ c.fr, ∀ q ∈ c.fz, p.1 ≠ q.1
  fo : c.outer.map (·.frame) = c.fr.map (fun p => some p.1)
  fk : ∀ e ∈ c.outer, e.scope.kind ≠ .module
  fd : ∀ p ∈ c.fr, ∃ es n, p.2.data = .dict es n
  kind : c.env.scope.kind = .function
  lf : c.env.frame = some c.env.locals

structure AOk (A : Around) (c : Cf) (n : Nat) : Prop where
  fr : A.frames = some (c.env :: c.outer)
  hd : A.handled = none
  dp : A.depth + n < recursionLimit
  un : A.units + 8 * n < cLine

inductive FrEq : Cells → Cells → Prop
  | nil : FrEq [] []
  | cons {a : Addr} {o : Obj} {sl : Array (Option Value)} {l l' : Cells} : FrEq l l' → FrEq ((a, o) :: l) ((a, { o with slots := sl }) :: l')
theorem FrEq.refl : ∀ l : Cells, FrEq l l
  | [] => .nil
  | (_, o) :: l => .cons (sl := o.slots) (FrEq.refl l)
theorem FrEq.trans : ∀ {a b c : Cells}, FrEq a b → FrEq b c → FrEq a c
  | _, _, _, .nil, .nil => .nil
  | _, _, _, .cons h, .cons h' => .cons (h.trans h')

structure Le (c c' : Cf) : Prop where
  env : c'.env = c.env
  outer : c'.outer = c.outer
  fz : Sub c.fz c'.fz
  fr : FrEq c.fr c'.fr
theorem Le.refl (c : Cf) : Le c c := ⟨rfl, rfl, fun _ h => h, FrEq.refl _⟩
theorem Le.trans {a b c : Cf} (x : Le a b) (y : Le b c) : Le a c := ⟨y.env.trans x.env, y.outer.trans x.outer, fun p h => y.fz p (x.fz p h), x.fr.trans y.fr⟩
theorem AOk.le {A : Around} {c c' : Cf} {n : Nat} (a : AOk A c n) (l : Le c c') : AOk A c' n := ⟨by rw [l.env, l.outer]; exact a.fr, a.hd, a.dp, a.un⟩

/-- what the whole proof stands on -/
structure Gx where
  prog : Program
  w : World
  h₀ : Heap
  p : Program
  loose : List Str
  mg : Str → Option Value
  mb : Str → Option Value
  X : (KF w.params).In h₀
  C : ∀ c ∈ kCode, h₀.CodeRec (.ref c.1) c.2
  T : TopRead p loose mg mb h₀

/-- a def of the text -/
structure FD where
  name : Str
  qual : Str
  ps : Arguments
  body : List Stmt
  sc : Scope
  dfl : Value
  md : Str
  tk : Nat
  f : Addr
  c : Addr
noncomputable def mkFD (s : Stmt) (q md : Str) (tk f c : Nat) (dfl : Value := .none) : FD := match s with
  | .FunctionDef name ps body _ _ _ sc _ _ _ => ⟨name, q, ps, body, sc, dfl, md, tk, f, c⟩
  | _ => ⟨q, q, ⟨[], [], none, [], [], none, []⟩, [], ⟨.function, [], false, false, []⟩, dfl, md, tk, f, c⟩
noncomputable abbrev FD.env (d : FD) (L : Addr) : Env := envOf d.qual d.sc L d.f (.ref d.c)
noncomputable abbrev FD.fd (d : FD) : FuncData := fnOf d.name d.qual d.ps d.body d.sc d.dfl .none .none (.str d.md d.tk) none (.ref d.c) .none
noncomputable abbrev FD.obj (d : FD) : Obj := ⟨.type "function", none, .func d.fd, #[]⟩
noncomputable abbrev FD.pn (d : FD) : List Str := d.ps.args.map (·.arg)
noncomputable def kindOk (k : NameKind) : Bool := match k with
  | .cell => false
  | _ => true
noncomputable def nodupB : List Str → Bool
  | [] => true
  | x :: r => r.all (fun y => !(y == x)) && nodupB r
noncomputable def FD.ok (d : FD) : Bool := kCode.contains (d.c, d.qual) && !d.sc.isCoroutine && !d.sc.isGenerator && (match d.sc.kind with | .function => true | _ => false) && d.sc.names.all (fun x => kindOk x.2) && nodupB d.pn && d.pn.all fun x => d.sc.names.lookup x == some .local
structure FnOk (d : FD) : Prop where
  K : ∀ P, (KF P).lookup d.f = some d.obj
  ok : d.ok = true

/-- an exception of the text's own class, in flight -/
noncomputable def Off (h₀ : Heap) (c : Cf) (a : Addr) : Prop := a ≠ c.env.locals ∧ h₀.get? a = none ∧ ∀ p ∈ c.ow ++ (c.fr ++ c.fz), p.1 ≠ a
structure FlB (h₀ : Heap) (c : Cf) (H : HH) (y : Str) (e dx : Addr) (vs : Array Value) (h : Heap) : Prop where
  S : Sat h₀ c H h
  oe : ∃ sl, h.get? e = some { cls := .ref 38, dict := some dx, data := .fields vs, slots := sl }
  od : ∃ o m t, h.get? dx = some o ∧ (∀ h : Heap, h.get? dx = some o → h.Ns1 dx m) ∧ m "symbol" = some (.str y t)
  fe : Off h₀ c e
  fd : Off h₀ c dx
  ne : dx ≠ e
noncomputable def Tb (h₀ : Heap) (c : Cf) (e dx : Addr) (vs : Array Value) (h : Heap) (fl : Value) : Prop := ∃ T oT ts, vs[1]? = some (.ref T) ∧ h.get? T = some oT ∧ oT.data = .fields ts ∧ ts[3]? = some fl ∧ Off h₀ c T ∧ T ≠ e ∧ T ≠ dx
noncomputable def Fl (h₀ : Heap) (c : Cf) (H : HH) (y : Str) (ev : Value) (h : Heap) : Prop := ∃ e dx vs, ev = .ref e ∧ FlB h₀ c H y e dx vs h ∧ (vs[1]? = some .none ∨ Tb h₀ c e dx vs h .none)

section
variable (G : Gx)
noncomputable abbrev Gx.M : Model := model G.prog G.w

noncomputable def EPost (c : Cf) (s : Shared) (P : V → HH → Prop) (Q : Value → Shared → Prop) : Prop :=
  ∀ v x H' c' h' tk, P x H' → Le c c' → c'.m = c.m → Sat G.h₀ c' H' h' → RV c'.fz v x → Q v { s with heap := h', toks := tk }
noncomputable def BPost (c : Cf) (s : Shared) (P : Bool → HH → Prop) (Q : Bool → Shared → Prop) : Prop :=
  ∀ b H' c' h' tk, P b H' → Le c c' → c'.m = c.m → Sat G.h₀ c' H' h' → Q b { s with heap := h', toks := tk }
noncomputable def XPost (c : Cf) (s : Shared) (X : Str → HH → Prop) (E : Value → Shared → Prop) : Prop :=
  ∀ e y H' c' h' tk, X y H' → Le c c' → Fl G.h₀ c' H' y e h' → E e { s with heap := h', toks := tk }
noncomputable def SPost (c : Cf) (s : Shared) (Pn : Locs → HH → Prop) (Pr : V → HH → Prop) (Q : Flow → Shared → Prop) : Prop :=
  (∀ loc' H' c' h' tk, Pn loc' H' → Le c c' → Sat G.h₀ c' H' h' → RL c'.fz c'.m loc' → Q .next { s with heap := h', toks := tk }) ∧
  (∀ v x H' c' h' tk, Pr x H' → Le c c' → Sat G.h₀ c' H' h' → RV c'.fz v x → Q (.ret v) { s with heap := h', toks := tk })
end

structure Ev (G : Gx) (n : Nat) (d : FD) (loc : Locs) (H : HH) (e : Expr) (P : V → HH → Prop) (X : Str → HH → Prop) : Prop where
  use : ∀ A c s, c.env = d.env c.env.locals → AOk A c n → Sat G.h₀ c H s.heap → RL c.fz c.m loc → ∀ Q E, EPost G c s P Q → XPost G c s X E → wpAny G.M A (eval e c.env) Q E s
structure Bt (G : Gx) (n : Nat) (d : FD) (loc : Locs) (H : HH) (e : Expr) (P : Bool → HH → Prop) (X : Str → HH → Prop) : Prop where
  use : ∀ A c s, c.env = d.env c.env.locals → AOk A c n → Sat G.h₀ c H s.heap → RL c.fz c.m loc → ∀ Q E, BPost G c s P Q → XPost G c s X E → wpAny G.M A (isTrue e c.env (eval e c.env)) Q E s
structure E1 (G : Gx) (n : Nat) (d : FD) (loc : Locs) (H : HH) (t : Stmt) (Pn : Locs → HH → Prop) (Pr : V → HH → Prop) (X : Str → HH → Prop) : Prop where
  use : ∀ A c s, c.env = d.env c.env.locals → AOk A c n → Sat G.h₀ c H s.heap → RL c.fz c.m loc → ∀ Q E, SPost G c s Pn Pr Q → XPost G c s X E → wpAny G.M A (exec t c.env) Q E s
structure Es (G : Gx) (n : Nat) (d : FD) (loc : Locs) (H : HH) (ts : List Stmt) (Pn : Locs → HH → Prop) (Pr : V → HH → Prop) (X : Str → HH → Prop) : Prop where
  use : ∀ A c s, c.env = d.env c.env.locals → AOk A c n → Sat G.h₀ c H s.heap → RL c.fz c.m loc → ∀ Q E, SPost G c s Pn Pr Q → XPost G c s X E → wpAny G.M A (execs ts c.env) Q E s
/-- a call of a def (the code of it), a call of a value (the tree), arguments of a call -/
structure Cd (G : Gx) (n : Nat) (f : Value) (xs : List V) (H : HH) (P : V → HH → Prop) (X : Str → HH → Prop) : Prop where
  use : ∀ A c s, AOk A c n → Sat G.h₀ c H s.heap → ∀ vs, RVs c.fz vs xs → ∀ R : Result → Shared → Prop,
    EPost G c s P (fun v s' => R (.ok (.ret v)) s') → XPost G c s X (fun e s' => R (.error e) s') → codeAny G.M A (.call f ⟨vs, []⟩) R s
structure Cl (G : Gx) (n : Nat) (f : Value) (xs : List V) (H : HH) (P : V → HH → Prop) (X : Str → HH → Prop) : Prop where
  use : ∀ A c s, AOk A c n → Sat G.h₀ c H s.heap → ∀ vs, RVs c.fz vs xs → ∀ Q E, EPost G c s P Q → XPost G c s X E → wpAny G.M A (call f vs) Q E s
noncomputable def LPost (G : Gx) (c : Cf) (s : Shared) (P : List V → HH → Prop) (Q : List Value → Shared → Prop) : Prop :=
  ∀ vs xs H' c' h' tk, P xs H' → Le c c' → c'.m = c.m → Sat G.h₀ c' H' h' → RVs c'.fz vs xs → Q vs { s with heap := h', toks := tk }
structure Ea (G : Gx) (n : Nat) (d : FD) (loc : Locs) (H : HH) (es : List Expr) (P : List V → HH → Prop) (X : Str → HH → Prop) : Prop where
  use : ∀ A c s pos, c.env = d.env c.env.locals → AOk A c n → Sat G.h₀ c H s.heap → RL c.fz c.m loc → ∀ Q E, LPost G c s P Q → XPost G c s X E → wpAny G.M A (spliced (backTo pos (starEach es c.env))) Q E s
section
variable {G : Gx} {n : Nat} {d : FD} {loc : Locs} {H : HH} {X : Str → HH → Prop}


/-! ## what is handed on -/
theorem EPost.le {c c₁ : Cf} {s : Shared} {P : V → HH → Prop} {Q : Value → Shared → Prop} (p : EPost G c s P Q) (l : Le c c₁) (hm : c₁.m = c.m) (h₁ : Heap) (t₁ : Nat) : EPost G c₁ { s with heap := h₁, toks := t₁ } P Q :=
  fun v x H' c' h' tk hp l' hm' hs hr => p v x H' c' h' tk hp (l.trans l') (hm'.trans hm) hs hr
theorem BPost.le {c c₁ : Cf} {s : Shared} {P : Bool → HH → Prop} {Q : Bool → Shared → Prop} (p : BPost G c s P Q) (l : Le c c₁) (hm : c₁.m = c.m) (h₁ : Heap) (t₁ : Nat) : BPost G c₁ { s with heap := h₁, toks := t₁ } P Q :=
  fun b H' c' h' tk hp l' hm' hs => p b H' c' h' tk hp (l.trans l') (hm'.trans hm) hs
theorem XPost.le {c c₁ : Cf} {s : Shared} {E : Value → Shared → Prop} (p : XPost G c s X E) (l : Le c c₁) (h₁ : Heap) (t₁ : Nat) : XPost G c₁ { s with heap := h₁, toks := t₁ } X E :=
  fun e y H' c' h' tk hp l' hf => p e y H' c' h' tk hp (l.trans l') hf
theorem SPost.le {c c₁ : Cf} {s : Shared} {Pn : Locs → HH → Prop} {Pr : V → HH → Prop} {Q : Flow → Shared → Prop} (p : SPost G c s Pn Pr Q) (l : Le c c₁) (h₁ : Heap) (t₁ : Nat) : SPost G c₁ { s with heap := h₁, toks := t₁ } Pn Pr Q :=
  ⟨fun loc' H' c' h' tk hp l' hs hr => p.1 loc' H' c' h' tk hp (l.trans l') hs hr, fun v x H' c' h' tk hp l' hs hr => p.2 v x H' c' h' tk hp (l.trans l') hs hr⟩
/-- the same state, some tokens on -/
theorem EPost.now {c : Cf} {s : Shared} {P : V → HH → Prop} {Q : Value → Shared → Prop} (p : EPost G c s P Q) {v : Value} {x : V} {tk : Nat} (hp : P x H) (S : Sat G.h₀ c H s.heap) (r : RV c.fz v x) : Q v { s with toks := tk } :=
  p v x H c s.heap tk hp (Le.refl c) rfl S r
theorem BPost.now {c : Cf} {s : Shared} {P : Bool → HH → Prop} {Q : Bool → Shared → Prop} (p : BPost G c s P Q) {b : Bool} {tk : Nat} (hp : P b H) (S : Sat G.h₀ c H s.heap) : Q b { s with toks := tk } :=
  p b H c s.heap tk hp (Le.refl c) rfl S

theorem Ev.then {e : Expr} {P : V → HH → Prop} (h : Ev G n d loc H e P X) {A : Around} {c : Cf} {s : Shared} (he : c.env = d.env c.env.locals) (a : AOk A c n) (S : Sat G.h₀ c H s.heap) (r : RL c.fz c.m loc) {Q E : Value → Shared → Prop}
    (xp : XPost G c s X E) (k : ∀ v x H' c' h' tk, P x H' → Le c c' → c'.m = c.m → Sat G.h₀ c' H' h' → RV c'.fz v x → Q v { s with heap := h', toks := tk }) : wpAny G.M A (eval e c.env) Q E s := h.use A c s he a S r Q E k xp

theorem Le.rl {c c' : Cf} {loc : Locs} (l : Le c c') (hm : c'.m = c.m) (r : RL c.fz c.m loc) : RL c'.fz c'.m loc := by rw [hm]; exact r.mono l.fz
theorem Le.envd {c c' : Cf} (l : Le c c') (he : c.env = d.env c.env.locals) : c'.env = d.env c'.env.locals := by rw [l.env]; exact he

/-! ## names, constants -/
theorem envd_kind {c : Cf} {s : Shared} (he : c.env = d.env c.env.locals) (S : Sat G.h₀ c H s.heap) : d.sc.kind = .function := by
  have := S.kind; rw [he] at this; exact this

noncomputable def FD.isL (d : FD) (x : Str) : Bool := d.sc.names.lookup x == some .local && (x == ("__debug__" : Str)) == false
noncomputable def FD.isG (d : FD) (x : Str) : Bool := d.sc.names.lookup x == some .globalImplicit && (x == ("__debug__" : Str)) == false
theorem FD.isL_of {x : Str} (h : d.isL x = true) : d.sc.names.lookup x = some .local ∧ (x == ("__debug__" : Str)) = false := by
  simp only [FD.isL, Bool.and_eq_true, beq_iff_eq] at h
  exact h
theorem FD.isG_of {x : Str} (h : d.isG x = true) : d.sc.names.lookup x = some .globalImplicit ∧ (x == ("__debug__" : Str)) = false := by
  simp only [FD.isG, Bool.and_eq_true, beq_iff_eq] at h
  exact h

theorem Ev.name {x : Str} {pos : Pos} {v : V} {P : V → HH → Prop} (hm : (x, v) ∈ loc) (hk : d.isL x = true) (h : P v H) : Ev G n d loc H (.Name x pos) P X := by
  refine Ev.mk fun A c s he a S r Q E p xp => ?_
  obtain ⟨v', e, rv⟩ := r _ hm
  obtain ⟨k1, k2⟩ := FD.isL_of hk
  have hkd := envd_kind he S
  rw [he]
  exact ld S.F e (p.now (tk := s.toks) h S rv) hkd k1 k2
theorem Ev.glob {x : Str} {pos : Pos} {v : Value} {P : V → HH → Prop} (e : nsIn (KF G.w.params) mainGlobals x = some (some v)) (hk : d.isG x = true) (h : P (.val v) H) : Ev G n d loc H (.Name x pos) P X := by
  refine Ev.mk fun A c s he a S r Q E p xp => ?_
  obtain ⟨k1, k2⟩ := FD.isG_of hk
  have hkd := envd_kind he S
  rw [he]
  exact name_K S.F G.X G.T e (p.now (tk := s.toks) h S (.val v)) hkd k1 k2
theorem Ev.blt {x : Str} {pos : Pos} {v : Value} {P : V → HH → Prop} (e : nsIn (KF G.w.params) mainGlobals x = some none) (hv : bootBuiltins x = some v) (hn : x ≠ "__name__") (hk : d.isG x = true) (h : P (.val v) H) : Ev G n d loc H (.Name x pos) P X := by
  refine Ev.mk fun A c s he a S r Q E p xp => ?_
  obtain ⟨k1, k2⟩ := FD.isG_of hk
  have hkd := envd_kind he S
  rw [he]
  exact name_B S.F G.X G.T e hv hn (p.now (tk := s.toks) h S (.val v)) hkd k1 k2
theorem Ev.cint {i : Int} {k : Nat} {pos : Pos} {P : V → HH → Prop} (h : P (.int i) H) : Ev G n d loc H (.Constant (.int i) k pos) P X :=
  Ev.mk fun _ _ _ _ _ S _ _ _ p _ => wpAny_Constant_int (p.now h S (.int ..))
theorem Ev.cstr {x : Str} {k : Nat} {pos : Pos} {P : V → HH → Prop} (h : P (.str x) H) : Ev G n d loc H (.Constant (.str x) k pos) P X :=
  Ev.mk fun _ _ _ _ _ S _ _ _ p _ => Constant_str (p.now h S (.str ..))
theorem Ev.cbool {b : Bool} {k : Nat} {pos : Pos} {P : V → HH → Prop} (h : P (.bool b) H) : Ev G n d loc H (.Constant (.bool b) k pos) P X :=
  Ev.mk fun _ _ s _ _ S _ _ _ p _ => Constant_bool (p.now (tk := s.toks) h S (.bool _))
theorem Ev.cnone {k : Nat} {pos : Pos} {P : V → HH → Prop} (h : P .none H) : Ev G n d loc H (.Constant .none k pos) P X :=
  Ev.mk fun _ _ s _ _ S _ _ _ p _ => Constant_none (p.now (tk := s.toks) h S .none)

/-! ## a binary operation, in two parts: the operands, then the operation on what they gave -/
noncomputable def Bn (G : Gx) (n : Nat) (op : Operator) (a b : V) (H : HH) (P : V → HH → Prop) (X : Str → HH → Prop) : Prop :=
  ∀ A c s, AOk A c n → Sat G.h₀ c H s.heap → ∀ va vb, RV c.fz va a → RV c.fz vb b → ∀ Q E, EPost G c s P Q → XPost G c s X E → wpAny G.M A (binaryOp op va vb) Q E s
theorem Ev.bin {l r : Expr} {op : Operator} {pos : Pos} {P : V → HH → Prop} (h : Ev G n d loc H l (fun a H₁ => Ev G n d loc H₁ r (fun b H₂ => Bn G n op a b H₂ P X) X) X) : Ev G n d loc H (.BinOp l op r pos) P X := by
  refine Ev.mk fun A c s he a S r Q E p xp => wpAny_BinOp (h.then he a S r xp fun v x H₁ c₁ h₁ t₁ hp l₁ m₁ S₁ rv₁ => ?_)
  rw [← l₁.env]
  refine hp.then (l₁.envd he) (a.le l₁) S₁ (l₁.rl m₁ r) (xp.le l₁ h₁ t₁) fun v₂ x₂ H₂ c₂ h₂ t₂ hp₂ l₂ m₂ S₂ rv₂ => ?_
  exact hp₂ A c₂ _ ((a.le l₁).le l₂) S₂ _ _ (rv₁.mono l₂.fz) rv₂ _ _ ((p.le l₁ m₁ h₁ t₁).le l₂ m₂ h₂ t₂) ((xp.le l₁ h₁ t₁).le l₂ h₂ t₂)

end
section
variable {h₀ h h' : Heap} {c : Cf} {H H' : HH}

theorem Sat.lt (S : Sat h₀ c H h) : ∀ p ∈ c.ow ++ (c.fr ++ c.fz), p.1 < h.objs.size := fun p hp => Heap.lt_size (S.N p hp).1
theorem Sat.grow (S : Sat h₀ c H h) (F' : Fr h₀ c.env.locals h' c.m) (N' : News h₀ c.env.locals h' (c.ow ++ (c.fr ++ c.fz))) : Sat h₀ c H h' := { S with F := F', N := N' }
theorem Sat.kept (S : Sat h₀ c H h) (k : ∀ b o, h.get? b = some o → h'.get? b = some o) : Sat h₀ c H h' := S.grow (S.F.grownK k) (S.N.grown k)

theorem Sat.newz (S : Sat h₀ c H h) {a : Addr} {o : Obj} (F' : Fr h₀ c.env.locals h' c.m) (N' : News h₀ c.env.locals h' ((a, o) :: (c.ow ++ (c.fr ++ c.fz)))) (hf : ∀ p ∈ c.ow ++ c.fr, p.1 ≠ a) :
    Sat h₀ { c with fz := (a, o) :: c.fz } H h' :=
  { F := F', R := S.R.mono fun _ h => .tail _ h, nd := S.nd, fo := S.fo, fk := S.fk, fd := S.fd, kind := S.kind, lf := S.lf
    N := fun p hp => N' p (by
      simp only [List.mem_append, List.mem_cons] at hp ⊢
      rcases hp with h | h | h | h <;> simp [h])
    zz := fun p hp q hq => by
      rcases List.mem_cons.mp hq with rfl | hq
      · exact hf p hp
      · exact S.zz p hp q hq }
theorem Le.newz (c : Cf) (p : Addr × Obj) : Le c { c with fz := p :: c.fz } := ⟨rfl, rfl, fun _ h => .tail _ h, FrEq.refl _⟩
theorem Sat.pushz (S : Sat h₀ c H h) (o : Obj) (hfree : o.isFreed = false := by rfl) : Sat h₀ { c with fz := (h.objs.size, o) :: c.fz } H (h.push o) :=
  S.newz (S.F.push o) (S.N.push S.F o hfree) fun p hp => Nat.ne_of_lt (S.lt p (by
    rcases List.mem_append.mp hp with h | h
    · exact List.mem_append_left _ h
    · exact List.mem_append_right _ (List.mem_append_left _ h)))

theorem Le.ow (c : Cf) (ow : Cells) : Le c { c with ow := ow } := ⟨rfl, rfl, fun _ h => h, FrEq.refl _⟩
theorem Le.mm (c : Cf) (m : Str → Option Value) : Le c { c with m := m } := ⟨rfl, rfl, fun _ h => h, FrEq.refl _⟩

/-- one object of the state changed -/
inductive UpH (a : Addr) (o o' : O) : HH → HH → Prop
  | head {r : HH} : UpH a o o' ((a, o) :: r) ((a, o') :: r)
  | tail {p : Addr × O} {r r' : HH} : UpH a o o' r r' → UpH a o o' (p :: r) (p :: r')
theorem UpH.mem {a : Addr} {o o' : O} : ∀ {H H' : HH}, UpH a o o' H H' → (a, o) ∈ H
  | _, _, .head => .head _
  | _, _, .tail h => .tail _ h.mem
theorem RH.split {z : Cells} {a : Addr} {o o' : O} : ∀ {H H' : HH} {ow : Cells}, UpH a o o' H H' → RH z H ow → ∃ pre cs post, ow = pre ++ (cs ++ post) ∧ RO z a o cs ∧ ∀ cs', RO z a o' cs' → RH z H' (pre ++ (cs' ++ post))
  | _, _, _, .head, .cons (cs := cs) (ow := ow) h hs => ⟨[], cs, ow, rfl, h, fun cs' h' => by rw [List.nil_append]; exact .cons h' hs⟩
  | _, _, _, .tail u, .cons (cs := cs) h hs => by
    obtain ⟨pre, cs₁, post, rfl, h1, k⟩ := RH.split u hs
    exact ⟨cs ++ pre, cs₁, post, by simp only [List.append_assoc], h1, fun cs' h' => by rw [List.append_assoc]; exact .cons h (k cs' h')⟩
theorem RH.at {z : Cells} {a : Addr} {o : O} : ∀ {H : HH} {ow : Cells}, (a, o) ∈ H → RH z H ow → ∃ cs, RO z a o cs ∧ ∀ p ∈ cs, p ∈ ow
  | _, _, .head _, .cons h _ => ⟨_, h, fun _ h => List.mem_append_left _ h⟩
  | _, _, .tail _ m, .cons _ hs => let ⟨cs, h, k⟩ := RH.at m hs; ⟨cs, h, fun p hp => List.mem_append_right _ (k p hp)⟩

/-- the state behind a change of one object's cells, at the same addresses -/
theorem Sat.setc (S : Sat h₀ c H h) {a : Addr} {o o' : O} (U : UpH a o o' H H') : ∃ pre cs post, c.ow = pre ++ (cs ++ post) ∧ RO c.fz a o cs ∧
    ∀ cs' h', RO c.fz a o' cs' → cs'.map (·.1) = cs.map (·.1) → Fr h₀ c.env.locals h' c.m → News h₀ c.env.locals h' (pre ++ (cs' ++ (post ++ (c.fr ++ c.fz)))) → Sat h₀ { c with ow := pre ++ (cs' ++ post) } H' h' := by
  obtain ⟨pre, cs, post, e, hO, k⟩ := RH.split U S.R
  refine ⟨pre, cs, post, e, hO, fun cs' h' hO' ha F' N' => ?_⟩
  have addr : ((pre ++ (cs' ++ post) ++ c.fr).map (·.1)) = ((c.ow ++ c.fr).map (·.1)) := by rw [e]; simp only [List.map_append, ha]
  refine { F := F', R := k cs' hO', fo := S.fo, fk := S.fk, fd := S.fd, kind := S.kind, lf := S.lf, N := fun p hp => N' p (by simpa only [List.append_assoc] using hp), nd := by rw [addr]; exact S.nd, zz := fun p hp q hq => ?_ }
  have : p.1 ∈ (c.ow ++ c.fr).map (·.1) := addr ▸ List.mem_map_of_mem hp
  obtain ⟨p', hp', e'⟩ := List.mem_map.mp this
  rw [← e']; exact S.zz p' hp' q hq

/-- the one cell d among ours: what lies ahead and behind is elsewhere -/
theorem Sat.apart (S : Sat h₀ c H h) {pre post : Cells} {d : Addr} {o : Obj} (e : c.ow = pre ++ (d, o) :: post) : (∀ p ∈ pre, p.1 ≠ d) ∧ ∀ p ∈ post ++ (c.fr ++ c.fz), p.1 ≠ d := by
  have nd := S.nd
  rw [e] at nd
  simp only [List.map_append, List.map_cons, List.append_assoc, List.cons_append] at nd
  obtain ⟨_, n2, n3⟩ := List.nodup_append.mp nd
  have n4 := (List.nodup_cons.mp n2).1
  refine ⟨fun p hp q => n3 _ (List.mem_map_of_mem hp) d (.head _) q, fun p hp q => ?_⟩
  rcases List.mem_append.mp hp with hp | hp
  · exact n4 (q ▸ List.mem_append_left _ (List.mem_map_of_mem hp))
  · rcases List.mem_append.mp hp with hp | hp
    · exact n4 (q ▸ List.mem_append_right _ (List.mem_map_of_mem hp))
    · exact S.zz (d, o) (by rw [e]; simp) p hp q.symm

theorem Sat.getList (S : Sat h₀ c H h) {a : Addr} {xs : List V} (m : (a, .list xs) ∈ H) : ∃ o vs, h.get? a = some o ∧ IsLs o vs ∧ RVs c.fz vs xs := by
  obtain ⟨cs, hO, k⟩ := RH.at m S.R
  cases hO with
  | list i r => exact ⟨_, _, (S.N _ (List.mem_append_left _ (k _ (.head _)))).1, i, r⟩
theorem Sat.getDict (S : Sat h₀ c H h) {a : Addr} {xs : List (Int × V)} (m : (a, .dict xs) ∈ H) : ∃ o es, h.get? a = some o ∧ (a == sysModules) = false ∧ IsDc o es ∧ RE c.fz es xs := by
  obtain ⟨cs, hO, k⟩ := RH.at m S.R
  cases hO with
  | dict l i r => exact ⟨_, _, (S.N _ (List.mem_append_left _ (k _ (.head _)))).1, l, i, r⟩
theorem Sat.getInst (S : Sat h₀ c H h) {a C : Addr} {cap : Nat} {fs : List (Str × V)} (m : (a, .inst C cap fs) ∈ H) : ∃ dx es n, h.get? a = some (instObj C dx) ∧ h.get? dx = some (dictOf es n) ∧ es.length ≤ cap ∧
    (∀ e ∈ es, ∃ x t, e.key = .str x t ∧ x ∈ fldOf C) ∧ ∀ p ∈ fs, ∃ v, getL p.1 es = some (some v) ∧ RV c.fz v p.2 := by
  obtain ⟨cs, hO, k⟩ := RH.at m S.R
  cases hO with
  | inst h1 h2 h3 => exact ⟨_, _, _, (S.N _ (List.mem_append_left _ (k _ (.head _)))).1, (S.N _ (List.mem_append_left _ (k _ (.tail _ (.head _))))).1, h1, h2, h3⟩
theorem Sat.getTup (S : Sat h₀ c H h) {v : Value} {xs : List V} (r : RV c.fz v (.tup xs)) : ∃ a o vs, v = .ref a ∧ h.get? a = some o ∧ IsTp o vs ∧ RVs c.fz vs xs := by
  cases r with
  | tup m i r => exact ⟨_, _, _, rfl, (S.N _ (List.mem_append_right _ (List.mem_append_right _ m))).1, i, r⟩
theorem Sat.getLst (S : Sat h₀ c H h) {v : Value} {xs : List V} (r : RV c.fz v (.lst xs)) : ∃ a o vs, v = .ref a ∧ h.get? a = some o ∧ IsLs o vs ∧ RVs c.fz vs xs := by
  cases r with
  | lst m i r => exact ⟨_, _, _, rfl, (S.N _ (List.mem_append_right _ (List.mem_append_right _ m))).1, i, r⟩
theorem IsLs.isList {h : Heap} {a : Addr} {o : Obj} {vs : List Value} (i : IsLs o vs) (e : h.get? a = some o) : h.IsList a vs.toArray := by obtain ⟨n, rfl⟩ := i; exact ⟨_, e, rfl, n, rfl⟩
theorem IsTp.isTup {h : Heap} {a : Addr} {o : Obj} {vs : List Value} (i : IsTp o vs) (e : h.get? a = some o) : IsTup h a vs.toArray := let ⟨k, n, d⟩ := i; ⟨o, e, k, n, d⟩

/-- a change of a list of ours -/
theorem Sat.setList (S : Sat h₀ c H h) {a : Addr} {xs ys : List V} (U : UpH a (.list xs) (.list ys) H H') {o' : Obj} {ws : List Value} (hs : Heap.SameBut a h h') (ho : h'.get? a = some o') (i : IsLs o' ws) (r : RVs c.fz ws ys) :
    ∃ c', Le c c' ∧ c'.m = c.m ∧ Sat h₀ c' H' h' := by
  obtain ⟨pre, cs, post, e, hO, k⟩ := S.setc U
  cases hO with
  | @list o vs i₀ r₀ =>
    have ap := S.apart (o := o) e
    have hm := S.N (a, o) (by rw [e]; simp)
    have N := S.N
    rw [e] at N
    simp only [List.append_assoc, List.cons_append, List.nil_append] at N
    exact ⟨{ c with ow := pre ++ ([(a, o')] ++ post) }, Le.ow c _, rfl, k [(a, o')] h' (.list i r) rfl (S.F.change hs hm.2.1 hm.2.2) (news_set N ap.1 ap.2 hs ho)⟩
theorem Sat.setDict (S : Sat h₀ c H h) {a : Addr} {xs ys : List (Int × V)} (U : UpH a (.dict xs) (.dict ys) H H') {o' : Obj} {es : List (Int × Value)} (hs : Heap.SameBut a h h') (ho : h'.get? a = some o') (i : IsDc o' es) (r : RE c.fz es ys) :
    ∃ c', Le c c' ∧ c'.m = c.m ∧ Sat h₀ c' H' h' := by
  obtain ⟨pre, cs, post, e, hO, k⟩ := S.setc U
  cases hO with
  | @dict o vs _ lo i₀ r₀ =>
    have ap := S.apart (o := o) e
    have hm := S.N (a, o) (by rw [e]; simp)
    have N := S.N
    rw [e] at N
    simp only [List.append_assoc, List.cons_append, List.nil_append] at N
    exact ⟨{ c with ow := pre ++ ([(a, o')] ++ post) }, Le.ow c _, rfl, k [(a, o')] h' (.dict lo i r) rfl (S.F.change hs hm.2.1 hm.2.2) (news_set N ap.1 ap.2 hs ho)⟩

/-- a name of the frame stored -/
theorem Sat.store (S : Sat h₀ c H h) {x : Str} {v : Value} (hn : h'.Ns c.env.locals (fun y => if y = x then some v else c.m y)) (hs : Heap.SameBut c.env.locals h h') : Sat h₀ { c with m := fun y => if y = x then some v else c.m y } H h' :=
  { S with F := S.F.set hn hs, N := S.N.set hs }
end
section
variable {h₀ h h' : Heap} {c : Cf} {H : HH}

theorem FrEq.addr : ∀ {l l' : Cells}, FrEq l l' → l'.map (·.1) = l.map (·.1)
  | _, _, .nil => rfl
  | _, _, .cons h => by rw [List.map_cons, List.map_cons, h.addr]
theorem FrEq.dict : ∀ {l l' : Cells}, FrEq l l' → (∀ p ∈ l, ∃ es n, p.2.data = .dict es n) → ∀ p ∈ l', ∃ es n, p.2.data = .dict es n
  | _, _, .nil, _ => fun p hp => nomatch hp
  | _, _, .cons (a := a) (o := o) h, k => fun p hp => by
    rcases List.mem_cons.mp hp with rfl | hp
    · exact k (a, o) (.head _)
    · exact h.dict (fun p hp => k p (.tail _ hp)) p hp
theorem frames_moved : ∀ {l : Cells}, (∀ p ∈ l, ∃ sl, h.get? p.1 = some { p.2 with slots := sl }) → ∃ l', FrEq l l' ∧ ∀ p ∈ l', h.get? p.1 = some p.2
  | [], _ => ⟨[], .nil, fun p hp => nomatch hp⟩
  | (a, o) :: l, k => by
    obtain ⟨sl, e⟩ := k _ (.head _)
    obtain ⟨l', f, q⟩ := frames_moved fun p hp => k p (.tail _ hp)
    refine ⟨(a, { o with slots := sl }) :: l', .cons f, fun p hp => ?_⟩
    rcases List.mem_cons.mp hp with rfl | hp
    · exact e
    · exact q p hp
theorem Sat.frames (S : Sat h₀ c H h) : (c.env :: c.outer).filterMap (·.frame) = c.env.locals :: c.fr.map (·.1) := by
  rw [List.filterMap_cons, S.lf]
  dsimp only
  congr 1
  have := S.fo
  generalize c.outer = l at this
  generalize c.fr = f at this
  induction l generalizing f with
  | nil => cases f with
    | nil => rfl
    | cons _ _ => cases this
  | cons x r ih => cases f with
    | nil => cases this
    | cons y g =>
      rw [List.map_cons, List.map_cons] at this
      injection this with e1 e2
      rw [List.filterMap_cons, e1]
      dsimp only
      rw [List.map_cons, ih g e2]
theorem Sat.funFrames (S : Sat h₀ c H h) : h.FunFrames h₀ (c.env :: c.outer) := by
  have hL : h₀.get? c.env.locals = none := by
    cases q : h₀.get? c.env.locals with
    | none => rfl
    | some o => exact absurd (Nat.lt_of_lt_of_le (Heap.lt_size q) S.F.above) (Nat.lt_irrefl _)
  obtain ⟨o, es, ep, e, hd, _⟩ := S.F.ns
  refine ⟨(fun q => by rw [S.kind] at q; cases q), ⟨_, o, S.lf, hL, e, fun vs q => by rw [hd] at q; cases q⟩, ?_⟩
  have fo := S.fo
  have fk := S.fk
  have fd := S.fd
  have N : ∀ p ∈ c.fr, h.get? p.1 = some p.2 ∧ h₀.get? p.1 = none := fun p hp => let q := S.N p (List.mem_append_right _ (List.mem_append_left _ hp)); ⟨q.1, q.2.2⟩
  generalize c.outer = l at fo fk
  generalize c.fr = f at fo fd N
  induction l generalizing f with
  | nil => trivial
  | cons x r ih => cases f with
    | nil => cases fo
    | cons y g =>
      rw [List.map_cons, List.map_cons] at fo
      injection fo with e1 e2
      obtain ⟨es', n', d'⟩ := fd y (.head _)
      exact ⟨fk x (.head _), ⟨y.1, y.2, e1, (N y (.head _)).2, (N y (.head _)).1, fun vs q => by rw [d'] at q; cases q⟩, ih (fun e he => fk e (.tail _ he)) g e2 (fun p hp => fd p (.tail _ hp)) fun p hp => N p (.tail _ hp)⟩
/-- the frames' slots changed, nothing else -/
theorem Sat.slotted (S : Sat h₀ c H h) (hs : Heap.SlotsOnly (c.env.locals :: c.fr.map (·.1)) h h') : ∃ fr, FrEq c.fr fr ∧ Sat h₀ { c with fr := fr } H h' := by
  obtain ⟨fr, f, k⟩ := frames_moved (h := h') (l := c.fr) fun p hp => hs.2.2 _ _ (S.N p (List.mem_append_right _ (List.mem_append_left _ hp))).1
  have nd := S.nd
  rw [List.map_append] at nd
  obtain ⟨n1, n2, n3⟩ := List.nodup_append.mp nd
  have keep : ∀ p ∈ c.ow ++ c.fz, h'.get? p.1 = some p.2 := fun p hp => by
    have e : h.get? p.1 = some p.2 := (S.N p (by simp only [List.mem_append] at hp ⊢; rcases hp with h | h <;> simp [h])).1
    rw [← e]
    refine hs.2.1 _ fun m => ?_
    rcases List.mem_cons.mp m with q | m
    · exact (S.N p (by simp only [List.mem_append] at hp ⊢; rcases hp with h | h <;> simp [h])).2.1 q
    · obtain ⟨q, hq, e⟩ := List.mem_map.mp m
      rcases List.mem_append.mp hp with h | h
      · exact n3 p.1 (List.mem_map_of_mem h) q.1 (List.mem_map_of_mem hq) e.symm
      · exact S.zz q (List.mem_append_right _ hq) p h e
  obtain ⟨o, es, ep, e, hd, r⟩ := S.F.ns
  obtain ⟨sl, e'⟩ := hs.2.2 _ _ e
  have h0L : h₀.get? c.env.locals = none := by
    cases q : h₀.get? c.env.locals with
    | none => rfl
    | some o => exact absurd (Nat.lt_of_lt_of_le (Heap.lt_size q) S.F.above) (Nat.lt_irrefl _)
  refine ⟨fr, f, { F := ⟨⟨_, es, ep, e', hd, r⟩, fun b o hb => ?_, S.F.above⟩, N := fun p hp => ?_, R := S.R, nd := by rw [List.map_append, f.addr]; exact nd, zz := fun p hp q hq => ?_, fo := ?_, fk := S.fk, fd := f.dict S.fd, kind := S.kind, lf := S.lf }⟩
  · rw [hs.2.1 b fun m => ?_]
    · exact S.F.keep b o hb
    · rcases List.mem_cons.mp m with q | m
      · rw [q, h0L] at hb; cases hb
      · obtain ⟨q, hq, e⟩ := List.mem_map.mp m
        have := (S.N q (List.mem_append_right _ (List.mem_append_left _ hq))).2.2
        rw [e, hb] at this
        cases this
  · have hp' : p ∈ c.ow ++ (fr ++ c.fz) := hp
    simp only [List.mem_append] at hp'
    have old : ∀ {p : Addr × Obj}, p ∈ c.ow ∨ p ∈ c.fz → h'.get? p.1 = some p.2 ∧ p.1 ≠ c.env.locals ∧ h₀.get? p.1 = none := fun {p} hp => ⟨keep p (List.mem_append.mpr hp), (S.N p (by simp only [List.mem_append]; rcases hp with h | h <;> simp [h])).2⟩
    rcases hp' with h | h | h
    · exact old (.inl h)
    · have ha : p.1 ∈ c.fr.map (·.1) := by rw [← f.addr]; exact List.mem_map_of_mem h
      obtain ⟨q, hq, e⟩ := List.mem_map.mp ha
      have := (S.N q (List.mem_append_right _ (List.mem_append_left _ hq))).2
      rw [e] at this
      exact ⟨k p h, this⟩
    · exact old (.inr h)
  · rcases List.mem_append.mp hp with h | h
    · exact S.zz p (List.mem_append_left _ h) q hq
    · have ha : p.1 ∈ c.fr.map (·.1) := by rw [← f.addr]; exact List.mem_map_of_mem h
      obtain ⟨q', hq', e⟩ := List.mem_map.mp ha
      rw [← e]
      exact S.zz q' (List.mem_append_right _ hq') q hq
  · have := S.fo
    show c.outer.map (·.frame) = fr.map (fun p => some p.1)
    rw [this]
    have := congrArg (List.map some) f.addr
    rw [List.map_map, List.map_map] at this
    exact this.symm
theorem Off.fr {c : Cf} {fr : Cells} (f : FrEq c.fr fr) {a : Addr} (o : Off h₀ c a) : Off h₀ { c with fr := fr } a := ⟨o.1, o.2.1, fun p hp => by
  have hp' : p ∈ c.ow ++ (fr ++ c.fz) := hp
  simp only [List.mem_append] at hp'
  rcases hp' with h | h | h
  · exact o.2.2 p (by simp [h])
  · have ha : p.1 ∈ c.fr.map (·.1) := by rw [← f.addr]; exact List.mem_map_of_mem h
    obtain ⟨q, hq, e⟩ := List.mem_map.mp ha
    rw [← e]
    exact o.2.2 q (by simp [hq])
  · exact o.2.2 p (by simp [h])⟩
theorem Off.notFrame (o : Off h₀ c a) : a ∉ c.env.locals :: c.fr.map (·.1) := fun m => by
  rcases List.mem_cons.mp m with q | m
  · exact o.1 q
  · obtain ⟨q, hq, e⟩ := List.mem_map.mp m
    exact o.2.2 q (by simp [hq]) e

/-- a cell that is none of ours changed -/
theorem Sat.offK (S : Sat h₀ c H h) {I : Addr} (o : Off h₀ c I) (hk : ∀ b o, b ≠ I → h.get? b = some o → h'.get? b = some o) : Sat h₀ c H h' :=
  S.grow (kmk_fr S.F (fun b o hb => hk b o fun q => hb (by rw [q]; exact List.mem_singleton_self _)) o.1 o.2.1) (kmk_news S.N (fun b o hb => hk b o fun q => hb (by rw [q]; exact List.mem_singleton_self _)) o.2.2)
end

section
variable {M : Model} {A : Around} {E : Value → Shared → Prop} {s : Shared} {h₀ : Heap} {c : Cf} {H : HH} {y : Str} {e dx : Addr} {vs : Array Value}

theorem FlB.moved {h h' : Heap} (B : FlB h₀ c H y e dx vs h) {I : Addr} (o : Off h₀ c I) (hk : ∀ b o, b ≠ I → h.get? b = some o → h'.get? b = some o) (ne : I ≠ e) (nd : I ≠ dx) : FlB h₀ c H y e dx vs h' :=
  { S := B.S.offK o hk, oe := let ⟨sl, q⟩ := B.oe; ⟨sl, hk _ _ (Ne.symm ne) q⟩, od := let ⟨es, n, t, q, r⟩ := B.od; ⟨es, n, t, hk _ _ (Ne.symm nd) q, r⟩, fe := B.fe, fd := B.fd, ne := B.ne }

/-- the entry of a traceback made: the flight is the frame's -/
theorem entry_run {head : Value} {had : Bool} {Q : Unit → Shared → Prop} (hA : A.frames = some (c.env :: c.outer)) (B : FlB h₀ c H y e dx vs s.heap) (hsz : 1 < vs.size)
    (k : ∀ h' c' vs', Le c c' → c'.m = c.m → FlB h₀ c' H y e dx vs' h' → Tb h₀ c' e dx vs' h' (rawInt c.env.locals) → Q () { s with heap := h' }) :
    wpAny M A (do let a ← frameOf c.env; let pl ← entryPlaceOf c.env.locals had; let b ← EntryCells.newEntry head a .none (rawInt c.env.locals) .none pl; setField (.ref e) 1 b) Q E s := by
  obtain ⟨S, ⟨sl, oe⟩, ⟨es, n, t, od, r⟩, fe, fd, ne⟩ := B
  refine wpAny_bind (wpAny_frameOf_fun hA S.funFrames S.lf fun h₁ hs₁ => ?_)
  rw [S.frames] at hs₁
  obtain ⟨fr, f, S₁⟩ := S.slotted hs₁
  have oe₁ : h₁.get? e = _ := (hs₁.2.1 e fe.notFrame).trans oe
  have od₁ : h₁.get? dx = _ := (hs₁.2.1 dx fd.notFrame).trans od
  refine wpAny_bind (wpAny_entryPlaceOf fun pl hpl => ?_)
  unfold EntryCells.newEntry newFields
  refine wpAny_bind (wpAny_newObj_type ?_ (hpl.sizeOk5 _ _ _ _ _))
  generalize hts : ([head, Value.ref c.env.locals, Value.none, rawInt c.env.locals, Value.none] ++ (if pl.isEmpty then List.replicate 6 Value.none else pl)).toArray = ts
  have h3 : ts[3]? = some (rawInt c.env.locals) := by rw [← hts]; simp
  have keep₂ : ∀ b o, h₁.get? b = some o → (h₁.push { cls := .type "traceback", dict := none, data := .fields ts }).get? b = some o := fun b o e => Heap.get?_push_of_some _ e
  have oe₂ := keep₂ _ _ oe₁
  have od₂ := keep₂ _ _ od₁
  have S₂ := S₁.kept keep₂
  have hT₂ : (h₁.push { cls := .type "traceback", dict := none, data := .fields ts }).get? h₁.objs.size = some { cls := .type "traceback", dict := none, data := .fields ts } := Heap.get?_push_size _ rfl
  refine wpAny_setField oe₂ rfl hsz ?_
  have neT : h₁.objs.size ≠ e := Nat.ne_of_gt (Heap.lt_size oe₁)
  have neTd : h₁.objs.size ≠ dx := Nat.ne_of_gt (Heap.lt_size od₁)
  have keep₃ : ∀ b o, b ≠ e → (h₁.push { cls := .type "traceback", dict := none, data := .fields ts }).get? b = some o →
      ((h₁.push { cls := .type "traceback", dict := none, data := .fields ts }).update e (Obj.mapFields (·.setIfInBounds 1 (Value.ref h₁.objs.size)))).get? b = some o := fun b o hb q => (Heap.get?_update_other _ _ (Ne.symm hb)).trans q
  have fe₁ := Off.fr f fe
  have fd₁ := Off.fr f fd
  have S₃ := S₂.offK fe₁ keep₃
  have oe₃ := Heap.get?_update_self (Obj.mapFields (·.setIfInBounds 1 (Value.ref h₁.objs.size))) oe₂ (Obj.isFreed_of_fields (Obj.data_mapFields (vs := vs) rfl _))
  have h0T : h₀.get? h₁.objs.size = none := by
    cases q : h₀.get? h₁.objs.size with
    | none => rfl
    | some o => exact absurd (Heap.lt_size (S₁.F.keep _ _ q)) (Nat.lt_irrefl _)
  refine k _ { c with fr := fr } (vs.setIfInBounds 1 (.ref h₁.objs.size)) ⟨rfl, rfl, fun _ h => h, f⟩ rfl ⟨S₃, ⟨sl, oe₃⟩, ⟨es, n, t, keep₃ _ _ ne od₂, r⟩, fe₁, fd₁, ne⟩ ?_
  exact ⟨h₁.objs.size, _, ts, by simp [hsz], keep₃ _ _ neT hT₂, rfl, h3, ⟨Nat.ne_of_gt S₁.F.ns.lt, h0T, fun p hp => Nat.ne_of_lt (S₁.lt p hp)⟩, neT, neTd⟩

/-- the flight of an exception set -/
theorem flight_run {fl fl' : Value} {Q : Unit → Shared → Prop} (B : FlB h₀ c H y e dx vs s.heap) (t : Tb h₀ c e dx vs s.heap fl) {T : Addr} (hT : vs[1]? = some (.ref T))
    (k : ∀ h', FlB h₀ c H y e dx vs h' → Tb h₀ c e dx vs h' fl' → Q () { s with heap := h' }) : wpAny M A (setField (.ref T) 3 fl') Q E s := by
  obtain ⟨T', oT, ts, h1, hg, hd, h3, oT', ne, nd⟩ := t
  rw [hT] at h1
  cases h1
  have hk : ∀ b o, b ≠ T → s.heap.get? b = some o → (s.heap.update T (Obj.mapFields (·.setIfInBounds 3 fl'))).get? b = some o := fun b o hb q => (Heap.get?_update_other _ _ (Ne.symm hb)).trans q
  have hsz : 3 < ts.size := (Array.getElem?_eq_some_iff.mp h3).1
  refine wpAny_setField hg hd hsz (k _ (B.moved oT' hk ne nd) ?_)
  exact ⟨T, _, ts.setIfInBounds 3 fl', hT, Heap.get?_update_self _ hg (Obj.isFreed_of_fields (Obj.data_mapFields hd _)), Obj.data_mapFields hd _, by simp [hsz], oT', ne, nd⟩
theorem note_run {Q : Unit → Shared → Prop} (hA : A.frames = some (c.env :: c.outer)) (B : FlB h₀ c H y e dx vs s.heap) (t : vs[1]? = some .none ∨ Tb h₀ c e dx vs s.heap .none)
    (k : ∀ h' c' vs', Le c c' → c'.m = c.m → FlB h₀ c' H y e dx vs' h' → Tb h₀ c' e dx vs' h' (rawInt c.env.locals) → Q () { s with heap := h' }) : wpAny M A (noteFrame (.ref e) c.env) Q E s := by
  obtain ⟨sl, oe⟩ := B.oe
  unfold noteFrame
  simp only [B.S.lf]
  rcases t with h1 | t
  · refine wpAny_bind (wpAny_field oe rfl h1 ?_)
    rw [if_neg (by decide)]
    exact entry_run hA B (Array.getElem?_eq_some_iff.mp h1).1 k
  · have t' := t
    obtain ⟨T, oT, ts, h1, hg, hd, h3, r⟩ := t
    refine wpAny_bind (wpAny_field oe rfl h1 ?_)
    rw [if_pos (show (Value.ref T != Value.none) = true from by simp)]
    refine wpAny_bind (wpAny_field hg hd h3 ?_)
    rw [if_neg (show ¬ ((Value.none == rawInt c.env.locals) = true) from by simp [rawInt])]
    refine wpAny_bind (flight_run (fl' := .none) B t' h1 fun h' B' t'' => ?_)
    exact entry_run (s := { s with heap := h' }) hA B' (Array.getElem?_eq_some_iff.mp h1).1 k
theorem land_run {fl : Value} {Q : Unit → Shared → Prop} (B : FlB h₀ c H y e dx vs s.heap) (t : Tb h₀ c e dx vs s.heap fl) (k : ∀ h', FlB h₀ c H y e dx vs h' → Tb h₀ c e dx vs h' .none → Q () { s with heap := h' }) :
    wpAny M A (setFlight (.ref e) none) Q E s := by
  obtain ⟨sl, oe⟩ := B.oe
  have t' := t
  obtain ⟨T, oT, ts, h1, hg, hd, h3, r⟩ := t
  unfold setFlight
  refine wpAny_bind (wpAny_field oe rfl h1 ?_)
  rw [if_pos (show (Value.ref T != Value.none) = true from by simp)]
  exact flight_run B t' h1 k
theorem leave_run {Q : Unit → Shared → Prop} (hA : A.frames = some (c.env :: c.outer)) (B : FlB h₀ c H y e dx vs s.heap) (t : vs[1]? = some .none ∨ Tb h₀ c e dx vs s.heap .none)
    (k : ∀ h' c' vs', Le c c' → c'.m = c.m → FlB h₀ c' H y e dx vs' h' → Tb h₀ c' e dx vs' h' .none → Q () { s with heap := h' }) : wpAny M A (leaving c.env (.ref e)) Q E s := by
  unfold leaving
  refine wpAny_bind (note_run hA B t fun h' c' vs' l m B' t' => ?_)
  exact land_run (s := { s with heap := h' }) B' t' fun h'' B'' t'' => k h'' c' vs' l m B'' t''
end
theorem nodup_of_B : ∀ {l : List Str}, nodupB l = true → l.Nodup
  | [], _ => .nil
  | x :: r, h => by
    simp only [nodupB, Bool.and_eq_true, List.all_eq_true, Bool.not_eq_true', beq_eq_false_iff_ne] at h
    exact List.nodup_cons.mpr ⟨fun m => h.1 x m rfl, nodup_of_B h.2⟩
structure FnFacts (d : FD) : Prop where
  co : (d.c, d.qual) ∈ kCode
  cor : d.sc.isCoroutine = false
  gen : d.sc.isGenerator = false
  kind : d.sc.kind = .function
  cell : ∀ x ∈ d.sc.names, x.2 ≠ .cell
  nd : d.pn.Nodup
  loc : ∀ x ∈ d.pn, d.sc.names.lookup x = some .local
theorem FnOk.facts {d : FD} (h : FnOk d) : FnFacts d := by
  have e := h.ok
  simp only [FD.ok, Bool.and_eq_true, List.contains_iff_mem, Bool.not_eq_true', List.all_eq_true, beq_iff_eq] at e
  obtain ⟨⟨⟨⟨⟨⟨e1, e2⟩, e3⟩, e4⟩, e5⟩, e6⟩, e7⟩ := e
  refine ⟨e1, e2, e3, ?_, fun x hx q => ?_, nodup_of_B e6, e7⟩
  · split at e4
    · assumption
    · cases e4
  · have := e5 x hx
    rw [q] at this
    cases this

theorem lookup_of_mem {α : Type} : ∀ {l : List (Str × α)} {x : Str} {v : α}, (l.map (·.1)).Nodup → (x, v) ∈ l → l.lookup x = some v
  | (y, u) :: r, x, v, nd, m => by
    rw [List.map_cons, List.nodup_cons] at nd
    rw [List.lookup_cons]
    rcases List.mem_cons.mp m with e | m
    · cases e; rw [beq_self_eq_true]
    · have : (x == y) = false := beq_eq_false_iff_ne.mpr fun e => nd.1 (e ▸ List.mem_map_of_mem (f := (·.1)) m)
      rw [this]
      exact lookup_of_mem nd.2 m
theorem RVs.zip_rl {z : Cells} : ∀ {ns : List Str} {vs : List Value} {xs : List V}, RVs z vs xs → ∀ p ∈ ns.zip xs, ∃ v, (p.1, v) ∈ ns.zip vs ∧ RV z v p.2
  | [], _, _, _, p, hp => nomatch hp
  | n :: ns, _, _, .nil, p, hp => nomatch hp
  | n :: ns, _, _, .cons (v := v) h hs, p, hp => by
    rcases List.mem_cons.mp hp with rfl | hp
    · exact ⟨v, .head _, h⟩
    · obtain ⟨v', m, r⟩ := RVs.zip_rl hs p hp
      exact ⟨v', .tail _ m, r⟩
theorem zip_keys {α : Type} : ∀ {ns : List Str} {vs : List α}, ∀ k ∈ (ns.zip vs).map (·.1), k ∈ ns
  | n :: ns, v :: vs, k, h => by
    rcases List.mem_cons.mp h with rfl | h
    · exact .head _
    · exact .tail _ (zip_keys k h)
theorem zip_nodup {α : Type} : ∀ {ns : List Str} {vs : List α}, ns.Nodup → ((ns.zip vs).map (·.1)).Nodup
  | [], _, _ => .nil
  | n :: ns, [], _ => .nil
  | n :: ns, v :: vs, h => by
    rw [List.nodup_cons] at h
    exact List.nodup_cons.mpr ⟨fun m => h.1 (zip_keys _ m), zip_nodup h.2⟩
theorem rl_zip {z : Cells} {ns : List Str} {vs : List Value} {xs : List V} (nd : ns.Nodup) (r : RVs z vs xs) : RL z (fun x => (ns.zip vs).reverse.lookup x) (ns.zip xs) := fun p hp => by
  obtain ⟨v, m, rv⟩ := RVs.zip_rl r p hp
  refine ⟨v, lookup_of_mem ?_ (List.mem_reverse.mpr m), rv⟩
  rw [List.map_reverse]
  exact List.pairwise_reverse.mpr ((zip_nodup nd).imp fun h => Ne.symm h)
theorem RVs.append {z : Cells} : ∀ {vs ws : List Value} {xs ys : List V}, RVs z vs xs → RVs z ws ys → RVs z (vs ++ ws) (xs ++ ys)
  | _, _, _, _, .nil, h => h
  | _, _, _, _, .cons h hs, h' => .cons h (RVs.append hs h')

section
variable {G : Gx} {n : Nat} {d : FD} {H : HH} {X : Str → HH → Prop}

theorem Sat.oL {h₀ h : Heap} {c : Cf} (S : Sat h₀ c H h) : ∃ o, h.get? c.env.locals = some o ∧ (∃ es k, o.data = .dict es k) := by
  obtain ⟨o, es, ep, e, hd, _⟩ := S.F.ns
  exact ⟨o, e, es, ep, hd⟩
/-- the frame of a call upon the frame c -/
noncomputable def Cf.sub (c : Cf) (d : FD) (L : Addr) (o : Obj) (m : Str → Option Value) : Cf := ⟨d.env L, c.env :: c.outer, m, (c.env.locals, o) :: c.fr, c.ow, c.fz⟩
theorem Sat.enter {h₀ h h₁ : Heap} {c : Cf} {o : Obj} {m : Str → Option Value} (S : Sat h₀ c H h) (k : d.sc.kind = .function) (eo : h.get? c.env.locals = some o) (hd : ∃ es k, o.data = .dict es k)
    (hns : h₁.Ns h.objs.size m) (hk : ∀ b x, h.get? b = some x → h₁.get? b = some x) : Sat h₀ (c.sub d h.objs.size o m) H h₁ := by
  have hL := S.F.ns.lt
  have hnone : h₀.get? c.env.locals = none := by
    cases q : h₀.get? c.env.locals with
    | none => rfl
    | some o' => exact absurd (Nat.lt_of_lt_of_le (Heap.lt_size q) S.F.above) (Nat.lt_irrefl _)
  have old : ∀ p ∈ c.ow ++ (c.fr ++ c.fz), h₁.get? p.1 = some p.2 ∧ p.1 ≠ h.objs.size ∧ h₀.get? p.1 = none := fun p hp => ⟨hk _ _ (S.N p hp).1, Nat.ne_of_lt (S.lt p hp), (S.N p hp).2.2⟩
  have neL : ∀ p ∈ c.ow ++ (c.fr ++ c.fz), p.1 ≠ c.env.locals := fun p hp => (S.N p hp).2.1
  refine { F := ⟨hns, fun b x e => hk _ _ (S.F.keep b x e), Nat.le_trans S.F.above (Nat.le_of_lt hL)⟩, N := fun p hp => ?_, R := S.R, nd := ?_, zz := fun p hp q hq => ?_, fo := ?_, fk := ?_, fd := ?_, kind := k, lf := rfl }
  · simp only [Cf.sub, List.mem_append, List.mem_cons] at hp
    rcases hp with h | (rfl | h) | h
    · exact old p (by simp [h])
    · exact ⟨hk _ _ eo, Nat.ne_of_lt hL, hnone⟩
    · exact old p (by simp [h])
    · exact old p (by simp [h])
  · show ((c.ow ++ (c.env.locals, o) :: c.fr).map (·.1)).Nodup
    have nd := S.nd
    rw [List.map_append] at nd
    rw [List.map_append, List.map_cons]
    obtain ⟨n1, n2, n3⟩ := List.nodup_append.mp nd
    refine List.nodup_append.mpr ⟨n1, List.nodup_cons.mpr ⟨fun m => ?_, n2⟩, fun x hx y hy e => ?_⟩
    · obtain ⟨p, hp, e⟩ := List.mem_map.mp m
      exact neL p (by simp [hp]) e
    · rcases List.mem_cons.mp hy with rfl | hy
      · obtain ⟨p, hp, rfl⟩ := List.mem_map.mp hx
        exact neL p (by simp [hp]) e
      · exact n3 x hx y hy e
  · simp only [Cf.sub, List.mem_append, List.mem_cons] at hp
    rcases hp with h | rfl | h
    · exact S.zz p (by simp [h]) q hq
    · exact (neL q (by simp only [List.mem_append]; exact .inr (.inr hq))).symm
    · exact S.zz p (by simp [h]) q hq
  · show c.env.frame :: c.outer.map (·.frame) = some c.env.locals :: _
    rw [S.lf, S.fo]
  · intro e he
    rcases List.mem_cons.mp he with rfl | he
    · rw [S.kind]; intro q; cases q
    · exact S.fk e he
  · intro p hp
    rcases List.mem_cons.mp hp with rfl | hp
    · exact hd
    · exact S.fd p hp
theorem AOk.enter {A : Around} {c : Cf} {o : Obj} {m : Str → Option Value} {L : Addr} (a : AOk A c (n + 1)) : AOk (A.deeper (d.env L)) (c.sub d L o m) n :=
  ⟨by show A.frames.map _ = _; rw [a.fr]; rfl, a.hd, by have := a.dp; show A.depth + 1 + n < _; omega, by have := a.un; show A.units + 3 + 8 * n < _; omega⟩
/-- back from the call: the frame c again -/
theorem Sat.leave {h₀ h h' : Heap} {c c' : Cf} {o : Obj} {m : Str → Option Value} {L : Addr} {H₀ H' : HH} (S : Sat h₀ c H₀ h) (eo : h.get? c.env.locals = some o) (l : Le (c.sub d L o m) c') (S' : Sat h₀ c' H' h') :
    ∃ c₂, Le c c₂ ∧ c₂.m = c.m ∧ c₂.fz = c'.fz ∧ Sat h₀ c₂ H' h' ∧ ∀ a, Off h₀ c' a → Off h₀ c₂ a := by
  obtain ⟨env, outer, m', fr, ow, fz⟩ := c'
  obtain ⟨le, lo, lz, lf⟩ := l
  dsimp only [Cf.sub] at le lo lz lf
  subst le lo
  cases lf with
  | @cons _ _ sl _ fr' lf =>
    have hL := S'.N (c.env.locals, { o with slots := sl }) (by simp)
    obtain ⟨o', es, ep, e', hd', r'⟩ := S.F.ns
    rw [eo] at e'
    cases e'
    have ns : h'.Ns c.env.locals c.m := ⟨_, es, ep, hL.1, hd', r'⟩
    have nd := S'.nd
    rw [List.map_append, List.map_cons] at nd
    obtain ⟨n1, n2, n3⟩ := List.nodup_append.mp nd
    refine ⟨⟨c.env, c.outer, c.m, fr', ow, fz⟩, ⟨rfl, rfl, lz, lf⟩, rfl, rfl, { F := ⟨ns, S'.F.keep, S.F.above⟩, N := fun p hp => ?_, R := S'.R, nd := ?_, zz := fun p hp q hq => ?_, fo := ?_, fk := S.fk, fd := fun p hp => S'.fd p (.tail _ hp), kind := S.kind, lf := S.lf }, fun a oa => ⟨fun q => ?_, oa.2.1, fun p hp => ?_⟩⟩
    · have hp' : p ∈ ow ++ ((c.env.locals, { o with slots := sl }) :: fr' ++ fz) := by
        simp only [List.mem_append, List.mem_cons, List.cons_append] at hp ⊢
        rcases hp with h | h | h <;> simp [h]
      refine ⟨(S'.N p hp').1, fun e => ?_, (S'.N p hp').2.2⟩
      simp only [List.mem_append] at hp
      rcases hp with h | h | h
      · exact n3 p.1 (List.mem_map_of_mem h) c.env.locals (.head _) e
      · have q : p.1 ∈ fr'.map (·.1) := List.mem_map_of_mem h
        rw [e] at q
        exact (List.nodup_cons.mp n2).1 q
      · exact S'.zz (c.env.locals, { o with slots := sl }) (by simp) p h e.symm
    · rw [List.map_append]
      exact List.nodup_append.mpr ⟨n1, (List.nodup_cons.mp n2).2, fun x hx y hy => n3 x hx y (.tail _ hy)⟩
    · refine S'.zz p ?_ q hq
      simp only [List.mem_append, List.mem_cons] at hp ⊢
      rcases hp with h | h <;> simp [h]
    · have := S'.fo
      simp only [List.map_cons, List.cons.injEq] at this
      exact this.2
    · exact oa.2.2 (c.env.locals, { o with slots := sl }) (by simp) q.symm
    · refine oa.2.2 p ?_
      simp only [List.mem_append, List.mem_cons, List.cons_append] at hp ⊢
      rcases hp with h | h | h <;> simp [h]

theorem Cd.def {P : V → HH → Prop} {xs ds : List V} {dvs : List Value} (ok : FnOk d) (hb : ∀ vs : List Value, vs.length = xs.length → ∀ s : Shared, (KF G.w.params).In s.heap → BindsTo s d.fd ⟨vs, []⟩ (d.pn.zip (vs ++ dvs)))
    (hd : RVs [] dvs ds) (h : Es G n d (d.pn.zip (xs ++ ds)) H d.body (fun _ H' => P .none H') P X) : Cd G (n + 1) (.ref d.f) xs H P X := by
  refine Cd.mk fun A c s a S vs hvs R p xp => ?_
  obtain ⟨co, cor, gen, kind, cell, nd, loc⟩ := ok.facts
  have KX := G.X.keeps S.F.keep
  have hlim := G.T.nolimit.keeps S.F.keep
  obtain ⟨o, eo, hod⟩ := S.oL
  have hroom : A.depth < recursionLimit := by have := a.dp; omega
  refine codeAny_call_def (fd := d.fd) (body := d.body) (binds := d.pn.zip (vs ++ dvs)) hroom (KX _ _ (ok.K _)) rfl hlim ((G.C _ co).keeps S.F.keep) rfl (hb vs hvs.length s KX) cell (fun x hx => loc x.1 (zip_keys _ (List.mem_map_of_mem hx))) (fun h₁ hns hk => ?_) cor gen kind
  have S₁ := S.enter (d := d) kind eo hod hns hk
  have r : RL c.fz (fun x => (d.pn.zip (vs ++ dvs)).reverse.lookup x) (d.pn.zip (xs ++ ds)) := rl_zip nd (hvs.append (hd.mono (z' := c.fz) fun p m => absurd m List.not_mem_nil))
  refine h.use _ (c.sub d s.heap.objs.size o _) { s with heap := h₁, toks := s.toks + (d.pn.zip (vs ++ dvs)).length } rfl a.enter S₁ r _ _ ⟨fun loc' H' c' h' tk hp l S' _ => ?_, fun v x H' c' h' tk hp l S' rv => ?_⟩ fun e y H' c' h' tk hx l hf => ?_
  · obtain ⟨c₂, l₂, m₂, z₂, S₂, _⟩ := S.leave eo l S'
    exact p .none .none H' c₂ h' tk hp l₂ m₂ S₂ .none
  · obtain ⟨c₂, l₂, m₂, z₂, S₂, _⟩ := S.leave eo l S'
    exact p v x H' c₂ h' tk hp l₂ m₂ S₂ (z₂ ▸ rv)
  · obtain ⟨ea, dx, vs', rfl, B, t⟩ := hf
    have he : c'.env = d.env s.heap.objs.size := l.env
    show wpAny _ (A.deeper (d.env s.heap.objs.size)) (leaving (d.env s.heap.objs.size) (.ref ea)) _ _ _
    rw [← he]
    refine leave_run (h₀ := G.h₀) (c := c') (s := { s with heap := h', toks := tk }) ?_ B t fun h'' c'' vs'' l'' m'' B'' t'' => ?_
    · show A.frames.map _ = _
      rw [a.fr, l.outer]
      rfl
    · obtain ⟨c₂, l₂, m₂, z₂, S₂, off⟩ := S.leave eo (l.trans l'') B''.S
      obtain ⟨T, oT, ts, q1, q2, q3, q4, q5, q6, q7⟩ := t''
      exact xp (.ref ea) y H' c₂ h'' tk hx l₂ ⟨ea, dx, vs'', rfl, ⟨S₂, B''.oe, B''.od, off _ B''.fe, off _ B''.fd, B''.ne⟩, .inr ⟨T, oT, ts, q1, q2, q3, q4, off _ q5, q6, q7⟩⟩
end
/-- a name bound anew: what was bound to it goes -/
inductive Del (x : Str) : Locs → Locs → Prop
  | nil : Del x [] []
  | skip {v : V} {r r' : Locs} : Del x r r' → Del x ((x, v) :: r) r'
  | keep {y : Str} {v : V} {r r' : Locs} : (y == x) = false → Del x r r' → Del x ((y, v) :: r) ((y, v) :: r')
theorem Del.rl {z : Cells} {m : Str → Option Value} {x : Str} {u : Option Value} : ∀ {loc loc' : Locs}, Del x loc loc' → RL z m loc → RL z (fun y => if y = x then u else m y) loc'
  | _, _, .nil, _ => fun p hp => nomatch hp
  | _, _, .skip h, r => h.rl fun p hp => r p (.tail _ hp)
  | _, _, .keep (y := y) (v := v) e h, r => fun p hp => by
    rcases List.mem_cons.mp hp with rfl | hp
    · obtain ⟨v', e', rv⟩ := r (y, v) (.head _)
      exact ⟨v', by show (if y = x then u else m y) = _; rw [if_neg (beq_eq_false_iff_ne.mp e)]; exact e', rv⟩
    · exact (h.rl fun p hp => r p (.tail _ hp)) p hp
theorem RL.store {z : Cells} {m : Str → Option Value} {x : Str} {loc loc' : Locs} {v : Value} {w : V} (r : RL z m loc) (hd : Del x loc loc') (rv : RV z v w) : RL z (fun y => if y = x then some v else m y) ((x, w) :: loc') := fun p hp => by
  rcases List.mem_cons.mp hp with rfl | hp
  · exact ⟨v, if_pos rfl, rv⟩
  · exact hd.rl r p hp

noncomputable def notStar : Expr → Bool
  | .Starred .. => false
  | _ => true
noncomputable def plainB (es : List Expr) : Bool := es.all notStar
theorem star_plain {env : Env} : ∀ {es : List Expr}, plainB es = true → starEach es env = es.map fun e => (false, eval e env)
  | [], _ => rfl
  | e :: es, h => by
    obtain ⟨h1, h2⟩ := Bool.and_eq_true_iff.mp (show (notStar e && plainB es) = true from h)
    rw [List.map_cons, ← star_plain h2]
    cases e <;> first | rfl | cases h1
theorem any_plain {env : Env} {pos : Pos} {es : List Expr} (h : plainB es = true) : (backTo pos (starEach es env)).any (·.1) = false := by
  rw [star_plain h, backTo, List.any_eq_false]
  intro x hx
  obtain ⟨y, hy, rfl⟩ := List.mem_map.mp hx
  obtain ⟨e, _, rfl⟩ := List.mem_map.mp hy
  exact Bool.false_ne_true

noncomputable def noComp : Expr → Bool
  | .ListComp .. | .SetComp .. | .DictComp .. => false
  | _ => true
theorem swaps_no {value : Expr} {t : Option Expr} {line : Nat} {env : Env} (h : noComp value = true) : swapsWith value t line env = pure false := by
  cases value <;> first | rfl | cases h

section
variable {G : Gx} {n : Nat} {d : FD} {loc : Locs} {H : HH} {X : Str → HH → Prop}

theorem Ea.nil {P : List V → HH → Prop} (h : P [] H) : Ea G n d loc H [] P X :=
  Ea.mk fun A c s pos he a S r Q E p xp => spliced_nil (p [] [] H c s.heap s.toks h (Le.refl c) rfl S .nil)
theorem Ea.cons {e : Expr} {es : List Expr} {P : List V → HH → Prop} (hp : notStar e = true) (h : Ev G n d loc H e (fun x H₁ => Ea G n d loc H₁ es (fun xs H₂ => P (x :: xs) H₂) X) X) : Ea G n d loc H (e :: es) P X := by
  refine Ea.mk fun A c s pos he a S r Q E p xp => ?_
  have hs : starEach (e :: es) c.env = (false, eval e c.env) :: starEach es c.env := by cases e <;> first | rfl | cases hp
  rw [hs]
  refine spliced_cons (h.then he a S r xp fun v x H₁ c₁ h₁ t₁ hp₁ l₁ m₁ S₁ rv₁ => ?_)
  rw [← l₁.env]
  refine hp₁.use A c₁ _ pos (l₁.envd he) (a.le l₁) S₁ (l₁.rl m₁ r) _ _ (fun vs xs H₂ c₂ h₂ t₂ hp₂ l₂ m₂ S₂ rv₂ => ?_) (xp.le l₁ h₁ t₁)
  exact p _ _ H₂ c₂ h₂ t₂ hp₂ (l₁.trans l₂) (m₂.trans m₁) S₂ (.cons (rv₁.mono l₂.fz) rv₂)

/-- a callee of which the machine knows that it is called at once -/
noncomputable def KeepV (G : Gx) (f : Value) : Prop := ∀ h, (KF G.w.params).In h → ∃ k, (k = Keeper.frame ∨ k = Keeper.machine ∨ k = Keeper.boundFrame) ∧ Looks G.M h (keeperOf f) k
theorem KeepV.blt (i : String) : KeepV G (.builtin i) := fun _ _ => ⟨.machine, .inr (.inl rfl), Looks.of_pure rfl⟩
theorem KeepV.typ (i : String) : KeepV G (.type i) := fun _ _ => ⟨.machine, .inr (.inl rfl), Looks.of_pure rfl⟩
theorem KeepV.K {f : Value} (hk : keepIn (KF G.w.params) f = true) : KeepV G f := fun h X => keeps_K hk h X

theorem callW {f : Value} {args : List Expr} {first : List Value} {fx : List V} {P : V → HH → Prop} (kv : KeepV G f) (hp : plainB args = true) (h : Ea G n d loc H args (fun xs H₁ => Cl G n f (fx ++ xs) H₁ P X) X) {A : Around} {c : Cf} {s : Shared} {pos : Pos}
    (he : c.env = d.env c.env.locals) (a : AOk A c n) (S : Sat G.h₀ c H s.heap) (r : RL c.fz c.m loc) (rf : RVs c.fz first fx) {Q E : Value → Shared → Prop} (p : EPost G c s P Q) (xp : XPost G c s X E) :
    wpAny G.M A (callWith pos f first (backTo pos (starEach args c.env)) []) Q E s := by
  refine callWith_of (P := (KF G.w.params).In) (by rw [any_plain hp]; rfl) kv ?_
  have key : wpAny G.M A (spliced (backTo pos (starEach args c.env))) (fun vs s₁ => (KF G.w.params).In s₁.heap ∧ wpAny G.M A (call f (first ++ vs) []) Q E s₁) E s := by
    refine h.use A c s pos he a S r _ _ (fun vs xs H₁ c₁ h₁ t₁ hp₁ l₁ m₁ S₁ rv₁ => ⟨G.X.keeps S₁.F.keep, ?_⟩) xp
    exact hp₁.use A c₁ _ (a.le l₁) S₁ _ ((rf.mono l₁.fz).append rv₁) _ _ (p.le l₁ m₁ h₁ t₁) (xp.le l₁ h₁ t₁)
  cases args with
  | nil =>
    refine evalArgs_nil3 ⟨G.X.keeps S.F.keep, ?_⟩
    have := h.use A c s pos he a S r (fun vs s₁ => s₁ = s → vs = [] → wpAny G.M A (call f (first ++ []) []) Q E s) E (fun vs xs H₁ c₁ h₁ t₁ hp₁ l₁ m₁ S₁ rv₁ e1 e2 => ?_) xp
    · have z : wpAny G.M A (spliced []) (fun vs s₁ => s₁ = s → vs = [] → wpAny G.M A (call f (first ++ []) []) Q E s) E s := this
      exact fun Γ q hΓ => (z Γ q hΓ) rfl rfl Γ q hΓ
    · subst e2
      cases rv₁
      have q := hp₁.use A c₁ _ (a.le l₁) S₁ _ ((rf.mono l₁.fz).append .nil) _ _ (p.le l₁ m₁ h₁ t₁) (xp.le l₁ h₁ t₁)
      rw [← e1]
      exact q
  | cons e es =>
    have hn : notStar e = true := (Bool.and_eq_true_iff.mp (show (notStar e && plainB es) = true from hp)).1
    have hs : starEach (e :: es) c.env = (false, eval e c.env) :: starEach es c.env := by cases e <;> first | rfl | cases hn
    rw [hs] at key ⊢
    exact evalArgs_plain key

theorem Cl.cd {f : Value} {xs : List V} {P : V → HH → Prop} (h : Cd G n f xs H P X) : Cl G n f xs H P X :=
  Cl.mk fun A c s a S vs hvs Q E p xp => wpAny_call (h.use A c s a S vs hvs _ (fun v x H' c' h' tk hp l m S' r => p v x H' c' h' tk hp l m S' r) fun e y H' c' h' tk hx l f => xp e y H' c' h' tk hx l f)

/-- a call by a name -/
theorem Ev.call {x : Str} {xp' : Pos} {args : List Expr} {pos : Pos} {P : V → HH → Prop} (hp : plainB args = true)
    (h : Ev G n d loc H (.Name x xp') (fun fv H₁ => ∃ f, fv = .val f ∧ KeepV G f ∧ Ea G n d loc H₁ args (fun xs H₂ => Cl G n f xs H₂ P X) X) X) : Ev G n d loc H (.Call (.Name x xp') args [] pos) P X := by
  refine Ev.mk fun A c s he a S r Q E p xp => Call_ (h.then he a S r xp fun v fv H₁ c₁ h₁ t₁ hp₁ l₁ m₁ S₁ rv₁ => ?_)
  obtain ⟨f, rfl, kv, h₂⟩ := hp₁
  cases rv₁
  rw [← l₁.env]
  exact callW (fx := []) kv hp h₂ (l₁.envd he) (a.le l₁) S₁ (l₁.rl m₁ r) .nil (p.le l₁ m₁ h₁ t₁) (xp.le l₁ h₁ t₁)

/-! ## statements -/
theorem Es.nil {Pn : Locs → HH → Prop} {Pr : V → HH → Prop} (h : Pn loc H) : Es G n d loc H [] Pn Pr X :=
  Es.mk fun A c s he a S r Q E p xp => wpAny_execs_nil (p.1 loc H c s.heap s.toks h (Le.refl c) S r)
theorem Es.cons {t : Stmt} {ts : List Stmt} {Pn : Locs → HH → Prop} {Pr : V → HH → Prop} (h : E1 G n d loc H t (fun loc' H' => Es G n d loc' H' ts Pn Pr X) Pr X) : Es G n d loc H (t :: ts) Pn Pr X := by
  refine Es.mk fun A c s he a S r Q E p xp => wpAny_execs_cons (h.use A c s he a S r _ _ ⟨fun loc' H' c' h' tk hp l S' r' => ?_, fun v x H' c' h' tk hp l S' rv => p.2 v x H' c' h' tk hp l S' rv⟩ xp)
  show wpAny G.M A (execs ts c.env) Q E _
  rw [← l.env]
  exact hp.use A c' _ (l.envd he) (a.le l) S' r' _ _ (p.le l h' tk) (xp.le l h' tk)
theorem E1.ret {e : Expr} {pos : Pos} {Pn : Locs → HH → Prop} {Pr : V → HH → Prop} (h : Ev G n d loc H e Pr X) : E1 G n d loc H (.Return (some e) pos) Pn Pr X :=
  E1.mk fun A c s he a S r Q E p xp => wpAny_Return_some (h.then he a S r xp fun v x H' c' h' tk hp l m S' rv => p.2 v x H' c' h' tk hp l S' rv)
theorem E1.ret0 {pos : Pos} {Pn : Locs → HH → Prop} {Pr : V → HH → Prop} (h : Pr .none H) : E1 G n d loc H (.Return none pos) Pn Pr X :=
  E1.mk fun A c s he a S r Q E p xp => wpAny_Return_none (p.2 .none .none H c s.heap s.toks h (Le.refl c) S .none)
theorem E1.ite {test : Expr} {body orelse : List Stmt} {pos : Pos} {Pn : Locs → HH → Prop} {Pr : V → HH → Prop} (h : Bt G n d loc H test (fun b H₁ => if b = true then Es G n d loc H₁ body Pn Pr X else Es G n d loc H₁ orelse Pn Pr X) X) : E1 G n d loc H (.If test body orelse pos) Pn Pr X := by
  refine E1.mk fun A c s he a S r Q E p xp => wpAny_If (h.use A c s he a S r _ _ (fun b H₁ c₁ h₁ t₁ hp l m S₁ => ?_) xp)
  rw [← l.env]
  cases b with
  | true => exact Es.use (show Es G n d loc H₁ body Pn Pr X from hp) A c₁ _ (l.envd he) (a.le l) S₁ (l.rl m r) _ _ (p.le l h₁ t₁) (xp.le l h₁ t₁)
  | false => exact Es.use (show Es G n d loc H₁ orelse Pn Pr X from hp) A c₁ _ (l.envd he) (a.le l) S₁ (l.rl m r) _ _ (p.le l h₁ t₁) (xp.le l h₁ t₁)
theorem E1.expr {e : Expr} {pos : Pos} {Pn : Locs → HH → Prop} {Pr : V → HH → Prop} (hv : noComp e = true) (h : Ev G n d loc H e (fun _ H' => Pn loc H') X) : E1 G n d loc H (.Expr e pos) Pn Pr X :=
  E1.mk fun A c s he a S r Q E p xp => wpAny_Expr_any (h.then he a S r xp fun v x H' c' h' tk hp l m S' rv => p.1 loc H' c' h' tk hp l S' (l.rl m r))
    (by rw [he]; have := envd_kind he S; show (d.sc.kind == .module && _) = false; rw [this]; rfl) (swaps_no hv)

/-- a value stored under a name of the frame -/
theorem storeN {c : Cf} {A : Around} {s : Shared} {x : Str} {v : Value} {w : V} {loc' : Locs} {Q : Flow → Shared → Prop} {E : Value → Shared → Prop} (he : c.env = d.env c.env.locals) (S : Sat G.h₀ c H s.heap) (r : RL c.fz c.m loc) (hk : d.isL x = true) (hd : Del x loc loc')
    (rv : RV c.fz v w) (h : ∀ c' h' tk, Le c c' → Sat G.h₀ c' H h' → RL c'.fz c'.m ((x, w) :: loc') → Q .next { s with heap := h', toks := tk }) : wpAny G.M A (storeName c.env x v) (fun _ => Q .next) E s := by
  obtain ⟨k1, k2⟩ := FD.isL_of hk
  have hkd := envd_kind he S
  have hL := S.F.ns
  rw [he]
  refine wpAny_storeName_local (by show d.sc.names.lookup x = _; exact k1) hL (fun h' hn hs => ?_) (by show (d.sc.kind == .class || (d.sc.kind == .module && _)) = false; rw [hkd]; rfl)
  exact h _ h' _ (Le.mm c _) (S.store hn hs) (r.store hd rv)
theorem E1.asgN {x : Str} {xp' pos : Pos} {value : Expr} {loc' : Locs} {Pn : Locs → HH → Prop} {Pr : V → HH → Prop} (hd : Del x loc loc') (hk : d.isL x = true) (hv : noComp value = true) (h : Ev G n d loc H value (fun v H' => Pn ((x, v) :: loc') H') X) :
    E1 G n d loc H (.Assign [.Name x xp'] value pos) Pn Pr X :=
  E1.mk fun A c s he a S r Q E p xp => wpAny_Assign_Name (h.then he a S r xp fun v x' H' c' h' tk hp l m S' rv => by
    rw [← l.env]
    exact storeN (l.envd he) S' (l.rl m r) hk hd rv fun c₂ h₂ t₂ l₂ S₂ r₂ => p.1 _ H' c₂ h₂ t₂ hp (l.trans l₂) S₂ r₂) (swaps_no hv)
end
theorem RVs.take {z : Cells} : ∀ {vs : List Value} {xs : List V}, RVs z vs xs → ∀ k, RVs z (vs.take k) (xs.take k)
  | _, _, .nil, k => by simp only [List.take_nil]; exact .nil
  | _, _, .cons h hs, 0 => .nil
  | _, _, .cons h hs, k + 1 => .cons h (RVs.take hs k)
theorem RVs.drop {z : Cells} : ∀ {vs : List Value} {xs : List V}, RVs z vs xs → ∀ k, RVs z (vs.drop k) (xs.drop k)
  | _, _, .nil, k => by simp only [List.drop_nil]; exact .nil
  | _, _, .cons h hs, 0 => .cons h hs
  | _, _, .cons h hs, k + 1 => RVs.drop hs k
theorem RVs.at {z : Cells} : ∀ {vs : List Value} {xs : List V}, RVs z vs xs → ∀ {k : Nat} {x : V}, xs[k]? = some x → ∃ v, vs[k]? = some v ∧ RV z v x
  | _, _, .nil, k, x, h => by simp at h
  | _, _, .cons (v := v) h hs, 0, x, e => by
    rw [List.getElem?_cons_zero] at e
    cases e
    exact ⟨v, rfl, h⟩
  | _, _, .cons h hs, k + 1, x, e => by
    rw [List.getElem?_cons_succ] at e
    exact RVs.at hs e
theorem RVs.set {z : Cells} {v : Value} {x : V} (r : RV z v x) : ∀ {vs : List Value} {xs : List V}, RVs z vs xs → ∀ k, RVs z (vs.set k v) (xs.set k x)
  | _, _, .nil, k => .nil
  | _, _, .cons h hs, 0 => .cons r hs
  | _, _, .cons h hs, k + 1 => .cons h (RVs.set r hs k)
theorem RV.int_inv {z : Cells} {v : Value} {i : Int} (r : RV z v (.int i)) : ∃ t, v = .int i t := by cases r with | int _ t => exact ⟨t, rfl⟩
theorem RV.str_inv {z : Cells} {v : Value} {x : Str} (r : RV z v (.str x)) : ∃ t, v = .str x t := by cases r with | str _ t => exact ⟨t, rfl⟩
theorem RV.bool_inv {z : Cells} {v : Value} {b : Bool} (r : RV z v (.bool b)) : v = .bool b := by cases r; rfl
theorem RV.none_inv {z : Cells} {v : Value} (r : RV z v .none) : v = .none := by cases r; rfl
theorem RV.ref_inv {z : Cells} {v : Value} {a : Addr} (r : RV z v (.ref a)) : v = .ref a := by cases r; rfl
theorem RV.val_inv {z : Cells} {v u : Value} (r : RV z v (.val u)) : v = u := by cases r; rfl

section
variable {G : Gx} {n : Nat} {d : FD} {loc : Locs} {H : HH} {X : Str → HH → Prop}

/-! ## ints -/
theorem Bn.add {i j : Int} {P : V → HH → Prop} (h : P (.int (i + j)) H) : Bn G n .Add (.int i) (.int j) H P X := fun A c s a S va vb ra rb Q E p xp => by
  obtain ⟨t, rfl⟩ := ra.int_inv; obtain ⟨u, rfl⟩ := rb.int_inv
  exact PyProof.Rows.add_int (p.now h S (.int ..))
theorem Bn.sub {i j : Int} {P : V → HH → Prop} (h : P (.int (i - j)) H) : Bn G n .Sub (.int i) (.int j) H P X := fun A c s a S va vb ra rb Q E p xp => by
  obtain ⟨t, rfl⟩ := ra.int_inv; obtain ⟨u, rfl⟩ := rb.int_inv
  exact PyProof.Rows.sub_int (p.now h S (.int ..))
theorem Bn.mod {i j : Int} {P : V → HH → Prop} (hj : j ≠ 0) (h : P (.int (i.fmod j)) H) : Bn G n .Mod (.int i) (.int j) H P X := fun A c s a S va vb ra rb Q E p xp => by
  obtain ⟨t, rfl⟩ := ra.int_inv; obtain ⟨u, rfl⟩ := rb.int_inv
  exact PyProof.Rows.mod_int hj (p.now h S (.int ..))
theorem Bn.mul {i j : Int} {P : V → HH → Prop} (hm : IntMulOk i j) (h : P (.int (i * j)) H) : Bn G n .Mult (.int i) (.int j) H P X := fun A c s a S va vb ra rb Q E p xp => by
  obtain ⟨t, rfl⟩ := ra.int_inv; obtain ⟨u, rfl⟩ := rb.int_inv
  exact PyProof.Rows.mul_int (p.now h S (.int ..)) hm
theorem Bn.fdiv {i j : Int} {P : V → HH → Prop} (hj : j ≠ 0) (hp : Builtin.divisionGoesByPylong i j = false) (h : P (.int (i.fdiv j)) H) : Bn G n .FloorDiv (.int i) (.int j) H P X := fun A c s a S va vb ra rb Q E p xp => by
  obtain ⟨t, rfl⟩ := ra.int_inv; obtain ⟨u, rfl⟩ := rb.int_inv
  exact PyProof.Rows.floordiv_int hj (p.now h S (.int ..)) (.inl hp)

/-! ## comparisons -/
noncomputable def Cm (G : Gx) (n : Nat) (op : CmpOp) (a b : V) (H : HH) (P : Bool → HH → Prop) (X : Str → HH → Prop) : Prop :=
  ∀ A c s, AOk A c n → Sat G.h₀ c H s.heap → ∀ va vb, RV c.fz va a → RV c.fz vb b → ∀ (Q : Value → Shared → Prop) E, BPost G c s P (fun b s' => Q (.bool b) s') → XPost G c s X E → wpAny G.M A (compareOp op va vb) Q E s
theorem Ev.cmp {l r : Expr} {op : CmpOp} {pos : Pos} {P : V → HH → Prop} (hm : behindInMarks op r = false) (h : Ev G n d loc H l (fun a H₁ => Ev G n d loc H₁ r (fun b H₂ => Cm G n op a b H₂ (fun q H₃ => P (.bool q) H₃) X) X) X) : Ev G n d loc H (.Compare l [op] [r] pos) P X := by
  refine Ev.mk fun A c s he a S r Q E p xp => wpAny_Compare1 (h.then he a S r xp fun v x H₁ c₁ h₁ t₁ hp l₁ m₁ S₁ rv₁ => ?_) hm
  rw [← l₁.env]
  refine hp.then (l₁.envd he) (a.le l₁) S₁ (l₁.rl m₁ r) (xp.le l₁ h₁ t₁) fun v₂ x₂ H₂ c₂ h₂ t₂ hp₂ l₂ m₂ S₂ rv₂ => ?_
  exact hp₂ A c₂ _ ((a.le l₁).le l₂) S₂ _ _ (rv₁.mono l₂.fz) rv₂ _ _ (fun b H₃ c₃ h₃ t₃ hp₃ l₃ m₃ S₃ => p _ _ H₃ c₃ h₃ t₃ hp₃ ((l₁.trans l₂).trans l₃) (m₃.trans (m₂.trans m₁)) S₃ (.bool b)) ((xp.le l₁ h₁ t₁).le l₂ h₂ t₂)
theorem Bt.cmp {l r : Expr} {op : CmpOp} {pos : Pos} {P : Bool → HH → Prop} (hm : behindInMarks op r = false) (h : Ev G n d loc H l (fun a H₁ => Ev G n d loc H₁ r (fun b H₂ => Cm G n op a b H₂ P X) X) X) : Bt G n d loc H (.Compare l [op] [r] pos) P X := by
  refine Bt.mk fun A c s he a S r Q E p xp => wpAny_isTrue_Compare1 (h.then he a S r xp fun v x H₁ c₁ h₁ t₁ hp l₁ m₁ S₁ rv₁ => ?_) hm
  rw [← l₁.env]
  refine hp.then (l₁.envd he) (a.le l₁) S₁ (l₁.rl m₁ r) (xp.le l₁ h₁ t₁) fun v₂ x₂ H₂ c₂ h₂ t₂ hp₂ l₂ m₂ S₂ rv₂ => ?_
  exact hp₂ A c₂ _ ((a.le l₁).le l₂) S₂ _ _ (rv₁.mono l₂.fz) rv₂ _ _ (fun b H₃ c₃ h₃ t₃ hp₃ l₃ m₃ S₃ => wpAny_truthy_bool (p b H₃ c₃ h₃ t₃ hp₃ ((l₁.trans l₂).trans l₃) (m₃.trans (m₂.trans m₁)) S₃)) ((xp.le l₁ h₁ t₁).le l₂ h₂ t₂)

theorem Cm.lt {i j : Int} {P : Bool → HH → Prop} (h : P (decide (i < j)) H) : Cm G n .Lt (.int i) (.int j) H P X := fun A c s a S va vb ra rb Q E p xp => by
  obtain ⟨t, rfl⟩ := ra.int_inv; obtain ⟨u, rfl⟩ := rb.int_inv
  exact PyProof.Rows.lt_int (p.now (tk := s.toks) h S)
theorem Cm.gt {i j : Int} {P : Bool → HH → Prop} (h : P (decide (j < i)) H) : Cm G n .Gt (.int i) (.int j) H P X := fun A c s a S va vb ra rb Q E p xp => by
  obtain ⟨t, rfl⟩ := ra.int_inv; obtain ⟨u, rfl⟩ := rb.int_inv
  exact PyProof.Rows.gt_int (p.now (tk := s.toks) h S)
theorem Cm.le {i j : Int} {P : Bool → HH → Prop} (h : P (decide (i ≤ j)) H) : Cm G n .LtE (.int i) (.int j) H P X := fun A c s a S va vb ra rb Q E p xp => by
  obtain ⟨t, rfl⟩ := ra.int_inv; obtain ⟨u, rfl⟩ := rb.int_inv
  exact PyProof.Rows.le_int (p.now (tk := s.toks) h S)
theorem Cm.ge {i j : Int} {P : Bool → HH → Prop} (h : P (decide (j ≤ i)) H) : Cm G n .GtE (.int i) (.int j) H P X := fun A c s a S va vb ra rb Q E p xp => by
  obtain ⟨t, rfl⟩ := ra.int_inv; obtain ⟨u, rfl⟩ := rb.int_inv
  exact PyProof.Rows.ge_int (p.now (tk := s.toks) h S)
theorem Cm.eqI {i j : Int} {P : Bool → HH → Prop} (h : P (i == j) H) : Cm G n .Eq (.int i) (.int j) H P X := fun A c s a S va vb ra rb Q E p xp => by
  obtain ⟨t, rfl⟩ := ra.int_inv; obtain ⟨u, rfl⟩ := rb.int_inv
  exact PyProof.Rows.eq_int (p.now (tk := s.toks) h S)
theorem Cm.eqS {x y : Str} {P : Bool → HH → Prop} (h : P (x == y) H) : Cm G n .Eq (.str x) (.str y) H P X := fun A c s a S va vb ra rb Q E p xp => by
  obtain ⟨t, rfl⟩ := ra.str_inv; obtain ⟨u, rfl⟩ := rb.str_inv
  exact PyProof.Rows.eq_str (p.now (tk := s.toks) h S)
theorem Cm.neS {x y : Str} {P : Bool → HH → Prop} (h : P (x != y) H) : Cm G n .NotEq (.str x) (.str y) H P X := fun A c s a S va vb ra rb Q E p xp => by
  obtain ⟨t, rfl⟩ := ra.str_inv; obtain ⟨u, rfl⟩ := rb.str_inv
  exact PyProof.Rows.ne_str (p.now (tk := s.toks) h S)
noncomputable def V.isNone : V → Bool
  | .none => true
  | .val v => v == .none
  | _ => false
theorem RV.isNone {z : Cells} {v : Value} {x : V} (r : RV z v x) : (v == .none) = x.isNone := by
  cases r <;> first | rfl | (simp [V.isNone])
theorem Cm.isN {x : V} {P : Bool → HH → Prop} (h : P x.isNone H) : Cm G n .Is x .none H P X := fun A c s a S va vb ra rb Q E p xp => by
  obtain rfl := rb.none_inv
  exact is_none (by rw [ra.isNone]; exact p.now (tk := s.toks) h S)
theorem Cm.isNotN {x : V} {P : Bool → HH → Prop} (h : P (!x.isNone) H) : Cm G n .IsNot x .none H P X := fun A c s a S va vb ra rb Q E p xp => by
  obtain rfl := rb.none_inv
  exact isNot_none (by rw [ra.isNone]; exact p.now (tk := s.toks) h S)

/-! ## tests -/
noncomputable def plainT : Expr → Bool
  | .Name .. | .Attribute .. | .Call .. | .Subscript .. => true
  | _ => false
theorem Bt.bool {e : Expr} {P : Bool → HH → Prop} (hp : plainT e = true) (h : Ev G n d loc H e (fun v H₁ => ∃ b, v = .bool b ∧ P b H₁) X) : Bt G n d loc H e P X := by
  refine Bt.mk fun A c s he a S r Q E p xp => isTrue_plain (h.then he a S r xp fun v x H₁ c₁ h₁ t₁ hp l₁ m₁ S₁ rv₁ => ?_) (by cases e <;> first | rfl | cases hp)
  obtain ⟨b, rfl, hb⟩ := hp
  obtain rfl := rv₁.bool_inv
  exact wpAny_truthy_bool (p b H₁ c₁ h₁ t₁ hb l₁ m₁ S₁)
theorem Bt.not {e : Expr} {pos : Pos} {P : Bool → HH → Prop} (h : Bt G n d loc H e (fun b H₁ => P (!b) H₁) X) : Bt G n d loc H (.UnaryOp .Not e pos) P X :=
  Bt.mk fun A c s he a S r Q E p xp => isTrue_not (h.use A c s he a S r _ E (fun b H' c' h' tk hp l m S' => p _ H' c' h' tk hp l m S') xp)
theorem Bt.andN {pos : Pos} {P : Bool → HH → Prop} (h : P true H) : Bt G n d loc H (.BoolOp .And [] pos) P X := Bt.mk fun A c s he a S r Q E p xp => isTrue_and_nil (p.now (tk := s.toks) h S)
theorem Bt.orN {pos : Pos} {P : Bool → HH → Prop} (h : P false H) : Bt G n d loc H (.BoolOp .Or [] pos) P X := Bt.mk fun A c s he a S r Q E p xp => isTrue_or_nil (p.now (tk := s.toks) h S)
theorem Bt.and {e : Expr} {es : List Expr} {pos : Pos} {P : Bool → HH → Prop} (h : Bt G n d loc H e (fun b H₁ => if b = true then Bt G n d loc H₁ (.BoolOp .And es pos) P X else P false H₁) X) : Bt G n d loc H (.BoolOp .And (e :: es) pos) P X := by
  refine Bt.mk fun A c s he a S r Q E p xp => isTrue_and (h.use A c s he a S r _ E (fun b H₁ c₁ h₁ t₁ hp l m S₁ => ?_) xp)
  rw [← l.env]
  cases b with
  | true => exact (show Bt G n d loc H₁ (.BoolOp .And es pos) P X from hp).use A c₁ _ (l.envd he) (a.le l) S₁ (l.rl m r) _ _ (p.le l m h₁ t₁) (xp.le l h₁ t₁)
  | false => exact p false H₁ c₁ h₁ t₁ hp l m S₁
theorem Bt.or {e : Expr} {es : List Expr} {pos : Pos} {P : Bool → HH → Prop} (h : Bt G n d loc H e (fun b H₁ => if b = true then P true H₁ else Bt G n d loc H₁ (.BoolOp .Or es pos) P X) X) : Bt G n d loc H (.BoolOp .Or (e :: es) pos) P X := by
  refine Bt.mk fun A c s he a S r Q E p xp => isTrue_or (h.use A c s he a S r _ E (fun b H₁ c₁ h₁ t₁ hp l m S₁ => ?_) xp)
  rw [← l.env]
  cases b with
  | false => exact (show Bt G n d loc H₁ (.BoolOp .Or es pos) P X from hp).use A c₁ _ (l.envd he) (a.le l) S₁ (l.rl m r) _ _ (p.le l m h₁ t₁) (xp.le l h₁ t₁)
  | true => exact p true H₁ c₁ h₁ t₁ hp l m S₁
theorem Ev.ife {test body orelse : Expr} {pos : Pos} {P : V → HH → Prop} (h : Bt G n d loc H test (fun b H₁ => if b = true then Ev G n d loc H₁ body P X else Ev G n d loc H₁ orelse P X) X) : Ev G n d loc H (.IfExp test body orelse pos) P X := by
  refine Ev.mk fun A c s he a S r Q E p xp => IfExp_ (h.use A c s he a S r _ E (fun b H₁ c₁ h₁ t₁ hp l m S₁ => ?_) xp)
  rw [← l.env]
  cases b with
  | true => exact (show Ev G n d loc H₁ body P X from hp).use A c₁ _ (l.envd he) (a.le l) S₁ (l.rl m r) _ _ (p.le l m h₁ t₁) (xp.le l h₁ t₁)
  | false => exact (show Ev G n d loc H₁ orelse P X from hp).use A c₁ _ (l.envd he) (a.le l) S₁ (l.rl m r) _ _ (p.le l m h₁ t₁) (xp.le l h₁ t₁)

/-! ## items -/
noncomputable def Sb (G : Gx) (n : Nat) (o i : V) (H : HH) (P : V → HH → Prop) (X : Str → HH → Prop) : Prop :=
  ∀ (value slice : Expr) A c s, AOk A c n → Sat G.h₀ c H s.heap → ∀ vo vi, RV c.fz vo o → RV c.fz vi i → ∀ Q E, EPost G c s P Q → XPost G c s X E → wpAny G.M A (subscriptTail value slice vo vi) Q E s
theorem sub_ops (slice : Expr) (o i : Value) : ∃ ops, subscripted slice false o i = operate ops (getItem o i) := by
  unfold subscripted
  split
  · exact ⟨_, rfl⟩
  · rename_i h; cases h
  · exact ⟨_, rfl⟩
theorem Ev.sub {value slice : Expr} {pos : Pos} {P : V → HH → Prop} (h : Ev G n d loc H value (fun o H₁ => Ev G n d loc H₁ slice (fun i H₂ => Sb G n o i H₂ P X) X) X) : Ev G n d loc H (.Subscript value slice pos) P X := by
  refine Ev.mk fun A c s he a S r Q E p xp => Subscript_ (h.then he a S r xp fun v x H₁ c₁ h₁ t₁ hp l₁ m₁ S₁ rv₁ => ?_)
  rw [← l₁.env]
  refine hp.then (l₁.envd he) (a.le l₁) S₁ (l₁.rl m₁ r) (xp.le l₁ h₁ t₁) fun v₂ x₂ H₂ c₂ h₂ t₂ hp₂ l₂ m₂ S₂ rv₂ => ?_
  exact hp₂ _ _ A c₂ _ ((a.le l₁).le l₂) S₂ _ _ (rv₁.mono l₂.fz) rv₂ _ _ ((p.le l₁ m₁ h₁ t₁).le l₂ m₂ h₂ t₂) ((xp.le l₁ h₁ t₁).le l₂ h₂ t₂)
theorem seqIndex_nat {j n : Nat} (h : j < n) : seqIndex? (j : Int) n = some (j : Int).toNat := by
  unfold seqIndex?
  have h1 : ¬ ((j : Int) < 0) := by omega
  have h2 : (decide (0 ≤ (j : Int)) && decide ((j : Int) < (n : Int))) = true := by
    rw [decide_eq_true (by omega), decide_eq_true (by omega)]; rfl
  simp only [if_neg h1, h2, if_true]
/-- an item of a list (ours, or a frozen one) -/
theorem sb_list {A : Around} {value slice : Expr} {s : Shared} {a : Addr} {vs : List Value} {k : Int} {u : Tok} {v : Value} {Q E : Value → Shared → Prop} (hl : s.heap.IsList a vs.toArray) (h0 : 0 ≤ k) (h1 : k < 2 ^ 63) (hv : vs[k.toNat]? = some v) (h : Q v s) :
    wpAny G.M A (subscriptTail value slice (.ref a) (.int k u)) Q E s := by
  obtain ⟨ops, e⟩ := sub_ops slice (.ref a) (.int k u)
  exact tail_any hl.typeIs slot_list_getitem.lookup (wpAny_getItem_list hl h0 h1 (by simpa using hv) h) e
theorem Sb.list {a : Addr} {xs : List V} {k : Int} {x : V} {P : V → HH → Prop} (m : (a, .list xs) ∈ H) (h0 : 0 ≤ k) (h1 : k < 2 ^ 63) (hx : xs[k.toNat]? = some x) (h : P x H) : Sb G n (.ref a) (.int k) H P X := fun value slice A c s ao S vo vi ro ri Q E p xp => by
  obtain rfl := ro.ref_inv; obtain ⟨u, rfl⟩ := ri.int_inv
  obtain ⟨o, vs, ho, i, r⟩ := S.getList m
  obtain ⟨v, hv, rv⟩ := r.at hx
  exact sb_list (i.isList ho) h0 h1 hv (p.now (tk := s.toks) h S rv)
theorem Sb.lst {xs : List V} {k : Int} {x : V} {P : V → HH → Prop} (h0 : 0 ≤ k) (h1 : k < 2 ^ 63) (hx : xs[k.toNat]? = some x) (h : P x H) : Sb G n (.lst xs) (.int k) H P X := fun value slice A c s ao S vo vi ro ri Q E p xp => by
  obtain ⟨u, rfl⟩ := ri.int_inv
  obtain ⟨a, o, vs, rfl, ho, i, r⟩ := S.getLst ro
  obtain ⟨v, hv, rv⟩ := r.at hx
  exact sb_list (i.isList ho) h0 h1 hv (p.now (tk := s.toks) h S rv)
theorem Sb.tup {xs : List V} {k : Int} {x : V} {P : V → HH → Prop} (h0 : 0 ≤ k) (h1 : k < 2 ^ 63) (hx : xs[k.toNat]? = some x) (h : P x H) : Sb G n (.tup xs) (.int k) H P X := fun value slice A c s ao S vo vi ro ri Q E p xp => by
  obtain ⟨u, rfl⟩ := ri.int_inv
  obtain ⟨a, o, vs, rfl, ho, i, r⟩ := S.getTup ro
  obtain ⟨v, hv, rv⟩ := r.at hx
  obtain ⟨ops, e⟩ := sub_ops slice (.ref a) (.int k u)
  have hl := i.isTup ho
  have hlt : k.toNat < vs.length := (List.getElem?_eq_some_iff.mp hv).1
  refine tail_any hl.typeIs slot_tuple_getitem.lookup (getItem_tuple hl (by omega) h1 (j := k.toNat) ?_ (by simpa using hv) (p.now (tk := s.toks) h S rv)) e
  obtain ⟨j, rfl⟩ := Int.eq_ofNat_of_zero_le h0
  rw [List.size_toArray]
  exact seqIndex_nat (by simpa using hlt)

end
/-! # the order of the state's objects is free; an object may be left out -/
theorem RH.perm {z : Cells} {H H' : HH} (p : H.Perm H') : ∀ {ow : Cells}, RH z H ow → ∃ ow', ow.Perm ow' ∧ RH z H' ow' := by
  induction p with
  | nil => exact fun h => ⟨_, .refl _, h⟩
  | cons x _ ih =>
    intro ow h
    cases h with
    | cons hO hR =>
      obtain ⟨ow', q, h'⟩ := ih hR
      exact ⟨_, q.append_left _, .cons hO h'⟩
  | swap x y l =>
    intro ow h
    cases h with
    | cons hO hR =>
      cases hR with
      | @cons _ _ cs' ow' _ hO' hR' =>
        refine ⟨_, ?_, .cons hO' (.cons hO hR')⟩
        rw [← List.append_assoc, ← List.append_assoc]
        exact List.perm_append_comm.append_right _
  | trans _ _ ih1 ih2 =>
    intro ow h
    obtain ⟨o1, q1, h1⟩ := ih1 h
    obtain ⟨o2, q2, h2⟩ := ih2 h1
    exact ⟨o2, q1.trans q2, h2⟩

section
variable {h₀ h : Heap} {c : Cf} {H H' : HH}
theorem Sat.sub (S : Sat h₀ c H h) {ow : Cells} (R : RH c.fz H' ow) (hs : ∀ p ∈ ow, p ∈ c.ow) (nd : ((ow ++ c.fr).map (·.1)).Nodup) : Sat h₀ { c with ow := ow } H' h :=
  { F := S.F, R := R, nd := nd, fo := S.fo, fk := S.fk, fd := S.fd, kind := S.kind, lf := S.lf
    N := fun p hp => S.N p (by
      rcases List.mem_append.mp hp with h | h
      · exact List.mem_append_left _ (hs p h)
      · exact List.mem_append_right _ h)
    zz := fun p hp q hq => S.zz p (by
      rcases List.mem_append.mp hp with h | h
      · exact List.mem_append_left _ (hs p h)
      · exact List.mem_append_right _ h) q hq }
theorem Sat.perm (S : Sat h₀ c H h) (p : H.Perm H') : ∃ c', Le c c' ∧ c'.m = c.m ∧ c'.fz = c.fz ∧ Sat h₀ c' H' h := by
  obtain ⟨ow, q, R⟩ := S.R.perm p
  exact ⟨{ c with ow := ow }, Le.ow c ow, rfl, rfl, S.sub R (fun p hp => q.mem_iff.mpr hp) (((q.append_right _).map _).nodup_iff.mp S.nd)⟩
theorem Sat.drop1 {x : Addr × O} (S : Sat h₀ c (x :: H) h) : ∃ c', Le c c' ∧ c'.m = c.m ∧ c'.fz = c.fz ∧ Sat h₀ c' H h := by
  obtain ⟨env, outer, m, fr, ow, fz⟩ := c
  have R := S.R
  dsimp only at R
  cases R with
  | @cons a o cs ow' _ hO hR =>
    refine ⟨⟨env, outer, m, fr, ow', fz⟩, Le.ow _ _, rfl, rfl, S.sub hR (fun p hp => List.mem_append_right _ hp) ?_⟩
    have := S.nd
    dsimp only at this
    rw [List.append_assoc, List.map_append] at this
    exact (List.nodup_append.mp this).2.1
theorem Sat.less (S : Sat h₀ c H h) {D : HH} (p : H.Perm (D ++ H')) : ∃ c', Le c c' ∧ c'.m = c.m ∧ c'.fz = c.fz ∧ Sat h₀ c' H' h := by
  obtain ⟨c₁, l₁, m₁, z₁, S₁⟩ := S.perm p
  clear S p
  induction D generalizing c₁ with
  | nil => exact ⟨c₁, l₁, m₁, z₁, S₁⟩
  | cons x D ih =>
    obtain ⟨c₂, l₂, m₂, z₂, S₂⟩ := S₁.drop1
    exact ih c₂ (l₁.trans l₂) (m₂.trans m₁) (z₂.trans z₁) S₂
end

section
variable {G : Gx} {n : Nat} {d : FD} {loc : Locs} {H H' : HH} {X : Str → HH → Prop}
theorem Cl.less {f : Value} {xs : List V} {P : V → HH → Prop} {D : HH} (p : H.Perm (D ++ H')) (h : Cl G n f xs H' P X) : Cl G n f xs H P X :=
  Cl.mk fun A c s a S vs hvs R E q xp => by
    obtain ⟨c', l, m, z, S'⟩ := S.less p
    exact h.use A c' s (a.le l) S' vs (z ▸ hvs) R E (q.le l m s.heap s.toks) (xp.le l s.heap s.toks)
theorem Es.less {ts : List Stmt} {Pn : Locs → HH → Prop} {Pr : V → HH → Prop} {D : HH} (p : H.Perm (D ++ H')) (h : Es G n d loc H' ts Pn Pr X) : Es G n d loc H ts Pn Pr X :=
  Es.mk fun A c s he a S r Q E q xp => by
    obtain ⟨c', l, m, z, S'⟩ := S.less p
    rw [← l.env]
    exact h.use A c' s (l.envd he) (a.le l) S' (l.rl m r) Q E (q.le l s.heap s.toks) (xp.le l s.heap s.toks)
/-- names left out -/
theorem Es.names {ts : List Stmt} {loc' : Locs} {Pn : Locs → HH → Prop} {Pr : V → HH → Prop} (p : ∀ x ∈ loc', x ∈ loc) (h : Es G n d loc' H ts Pn Pr X) : Es G n d loc H ts Pn Pr X :=
  Es.mk fun A c s he a S r Q E q xp => h.use A c s he a S (fun x hx => r x (p x hx)) Q E q xp

/-! # slices -/
noncomputable def IsSlc (lo hi : Option Int) (o : Obj) : Prop := o.cls = .type "slice" ∧ ∃ vl vu, o.data = .fields #[vl, vu, .none] ∧ IsPart vl lo ∧ IsPart vu hi
inductive PartV : V → Option Int → Prop
  | none : PartV .none none
  | int (i : Int) : PartV (.int i) (some i)
theorem PartV.part {z : Cells} {v : Value} {x : V} {i : Option Int} (p : PartV x i) (r : RV z v x) : IsPart v i := by
  cases p with
  | none => obtain rfl := r.none_inv; exact .none
  | int i => obtain ⟨t, rfl⟩ := r.int_inv; exact .int i t
structure Ep (G : Gx) (n : Nat) (d : FD) (loc : Locs) (H : HH) (e : Option Expr) (P : V → HH → Prop) (X : Str → HH → Prop) : Prop where
  use : ∀ A c s, c.env = d.env c.env.locals → AOk A c n → Sat G.h₀ c H s.heap → RL c.fz c.m loc → ∀ Q E, EPost G c s P Q → XPost G c s X E → wpAny G.M A (evalPart e c.env) Q E s
theorem Ep.none {P : V → HH → Prop} (h : P .none H) : Ep G n d loc H none P X := by
  refine .mk ?_
  intro A c s he a S r Q E p xp
  exact evalPart_none_step (p.now (tk := s.toks) h S .none)
theorem Ep.some {e : Expr} {P : V → HH → Prop} (h : Ev G n d loc H e P X) : Ep G n d loc H (some e) P X := by
  refine .mk ?_
  intro A c s he a S r Q E p xp
  exact evalPart_some_step (h.use A c s he a S r Q E p xp)
theorem Ev.slice {lower upper : Option Expr} {pos : Pos} {P : V → HH → Prop} (h : Ep G n d loc H lower (fun a H₁ => Ep G n d loc H₁ upper (fun b H₂ => ∃ lo hi, PartV a lo ∧ PartV b hi ∧ P (.obj (IsSlc lo hi)) H₂) X) X) : Ev G n d loc H (.Slice lower upper none pos) P X := by
  refine Ev.mk fun A c s he a S r Q E p xp => wpAny_Slice ?_
  have h := h.use
  refine h A c s he a S r _ E (fun v x H₁ c₁ h₁ t₁ hp l₁ m₁ S₁ rv₁ => ?_) xp
  rw [← l₁.env]
  refine hp.use A c₁ _ (l₁.envd he) (a.le l₁) S₁ (l₁.rl m₁ r) _ E (fun v₂ x₂ H₂ c₂ h₂ t₂ hp₂ l₂ m₂ S₂ rv₂ => ?_) (xp.le l₁ h₁ t₁)
  obtain ⟨lo, hi, pa, pb, hp₃⟩ := hp₂
  refine evalPart_none_step ?_
  refine p (.ref h₂.objs.size) (.obj (IsSlc lo hi)) H₂ { c₂ with fz := (h₂.objs.size, { cls := .type "slice", data := .fields #[v, v₂, .none] }) :: c₂.fz } _ t₂ hp₃ ((l₁.trans l₂).trans (Le.newz _ _)) (m₂.trans m₁) (S₂.pushz _) ?_
  exact .obj (.head _) (S₂.F.notModules (modules_low G.T.nolimit)) (.inl rfl) ⟨rfl, _, _, rfl, pa.part (rv₁.mono l₂.fz), pb.part rv₂⟩

noncomputable def slcA (lo : Option Int) : Nat := match lo with
  | none => 0
  | some i => i.toNat
noncomputable def slcB (hi : Option Int) (n : Nat) : Nat := match hi with
  | none => n
  | some i => i.toNat
noncomputable def slcV {α : Type} (lo hi : Option Int) (xs : List α) : List α := (xs.drop (slcA lo)).take (slcB hi xs.length - slcA lo)
noncomputable def nnO (i : Option Int) : Prop := match i with
  | none => True
  | some i => 0 ≤ i
theorem bounds_nn {lo hi : Option Int} {n : Nat} (hl : nnO lo) (hh : nnO hi) : sliceBounds lo hi none n = (((min (slcA lo) n : Nat) : Int), ((min (slcB hi n) n : Nat) : Int), 1) := by
  have e : ∀ i : Int, 0 ≤ i → max 0 (min (if i < 0 then i + (n : Int) else i) n) = ((min i.toNat n : Nat) : Int) := fun i hi => by
    rw [if_neg (by omega)]; omega
  cases lo with
  | none => cases hi with
    | none => simp [sliceBounds, slcA, slcB]
    | some j => simp only [sliceBounds, slcA, slcB, Option.getD_none, show (1 : Int) > 0 by decide, if_true, e j hh]; simp
  | some i => cases hi with
    | none => simp only [sliceBounds, slcA, slcB, Option.getD_none, show (1 : Int) > 0 by decide, if_true, e i hl]; simp
    | some j => simp only [sliceBounds, slcA, slcB, Option.getD_none, show (1 : Int) > 0 by decide, if_true, e i hl, e j hh]
theorem drop_take_min {α : Type} (l : List α) (a b : Nat) : (l.drop (min a l.length)).take (min b l.length - min a l.length) = (l.drop a).take (b - a) := by
  rw [kmk_drop_min]
  by_cases ha : a ≤ l.length
  · rw [Nat.min_eq_left ha]
    by_cases hb : b ≤ l.length
    · rw [Nat.min_eq_left hb]
    · rw [Nat.min_eq_right (by omega), List.take_of_length_le (by rw [List.length_drop]; omega), List.take_of_length_le (by rw [List.length_drop]; omega)]
  · rw [List.drop_of_length_le (by omega)]
    simp
theorem pick_nn {vs : List Value} {lo hi : Option Int} (hl : nnO lo) (hh : nnO hi) : slicePick vs.toArray lo hi none = (slcV lo hi vs).toArray := by
  rw [kmk_pick_nat _ (bounds_nn hl hh)]
  show ((vs.drop (min (slcA lo) vs.toArray.size)).take (min (slcB hi vs.toArray.size) vs.toArray.size - min (slcA lo) vs.toArray.size)).toArray = _
  rw [List.size_toArray, drop_take_min]
  rfl
theorem RVs.slc {z : Cells} {vs : List Value} {xs : List V} (r : RVs z vs xs) (lo hi : Option Int) : RVs z (slcV lo hi vs) (slcV lo hi xs) := by
  unfold slcV
  rw [r.length]
  exact (r.drop _).take _

theorem sb_slc {A : Around} {value slice : Expr} {s : Shared} {c : Cf} {a : Addr} {o : Obj} {vs : List Value} {xs : List V} {vi : Value} {lo hi : Option Int} {P : V → HH → Prop} {Q E : Value → Shared → Prop}
    (S : Sat G.h₀ c H s.heap) (ho : s.heap.get? a = some o) (i : IsLs o vs) (r : RVs c.fz vs xs) (ri : RV c.fz vi (.obj (IsSlc lo hi))) (hz : xs.length ≤ 16777216) (hl : nnO lo) (hh : nnO hi) (p : EPost G c s P Q) (h : P (.lst (slcV lo hi xs)) H) :
    wpAny G.M A (subscriptTail value slice (.ref a) vi) Q E s := by
  cases ri with
  | @obj b ob _ mb _ _ hb =>
    obtain ⟨hc, vl, vu, hd, pl, pu⟩ := hb
    obtain ⟨ops, e⟩ := sub_ops slice (.ref a) (.ref b)
    have hL := i.isList ho
    refine tail_any hL.typeIs slot_list_getitem.lookup (wpAny_getItem_list_slice hL ⟨ob, (S.N _ (List.mem_append_right _ (List.mem_append_right _ mb))).1, hc, hd⟩ pl pu .none (by simp) ?_ ?_) e
    · rw [pick_nn hl hh]
      exact p (.ref s.heap.objs.size) (.lst (slcV lo hi xs)) H { c with fz := (s.heap.objs.size, { cls := .type "list", data := .seq (slcV lo hi vs).toArray }) :: c.fz } _ s.toks h (Le.newz _ _) rfl (S.pushz _)
        (.lst (.head _) ⟨_, rfl⟩ ((r.slc lo hi).mono fun _ h => .tail _ h))
    · rw [List.size_toArray, r.length, sizeLine_eq]; exact hz
theorem Sb.slcL {a : Addr} {xs : List V} {lo hi : Option Int} {P : V → HH → Prop} (m : (a, .list xs) ∈ H) (hz : xs.length ≤ 16777216) (hl : nnO lo) (hh : nnO hi) (h : P (.lst (slcV lo hi xs)) H) : Sb G n (.ref a) (.obj (IsSlc lo hi)) H P X := fun value slice A c s ao S vo vi ro ri Q E p xp => by
  obtain rfl := ro.ref_inv
  obtain ⟨o, vs, ho, i, r⟩ := S.getList m
  exact sb_slc S ho i r ri hz hl hh p h
theorem Sb.slcF {xs : List V} {lo hi : Option Int} {P : V → HH → Prop} (hz : xs.length ≤ 16777216) (hl : nnO lo) (hh : nnO hi) (h : P (.lst (slcV lo hi xs)) H) : Sb G n (.lst xs) (.obj (IsSlc lo hi)) H P X := fun value slice A c s ao S vo vi ro ri Q E p xp => by
  obtain ⟨a, o, vs, rfl, ho, i, r⟩ := S.getLst ro
  exact sb_slc S ho i r ri hz hl hh p h

end
noncomputable def setSlc {α : Type} (lo hi : Option Int) (xs ws : List α) : List α := xs.take (slcA lo) ++ ws ++ xs.drop (max (slcA lo) (slcB hi xs.length))

theorem islist_map {vs zs : List Value} {f : Array Value → Array Value} (n : Nat) (e : f vs.toArray = zs.toArray) : IsLs (Obj.mapSeq f { cls := .type "list", data := .seq vs.toArray n }) zs := by
  refine ⟨if ((f vs.toArray).size == vs.toArray.size) = true then n else n + 1, ?_⟩
  rw [← e]
  rfl
section
variable {prog : Program} {w : World} {A : Around} {E : Value → Shared → Prop} {s : Shared}
/-- a slice of a list assigned a list -/
theorem wpAny_setItem_list_slice {l sl b : Addr} {o ob : Obj} {vs ws : List Value} {vl vu : Value} {lo hi : Option Int} {Q : Unit → Shared → Prop} (ho : s.heap.get? l = some o) (io : IsLs o vs) (hb : s.heap.get? b = some ob) (ib : IsLs ob ws)
    (hs : s.heap.IsSliceOf sl vl vu .none) (pl : IsPart vl lo) (pu : IsPart vu hi) (nl : nnO lo) (nh : nnO hi) (hsz : vs.length + ws.length ≤ 16777216)
    (hQ : ∀ h' o', h'.get? l = some o' → IsLs o' (setSlc lo hi vs ws) → Heap.SameBut l s.heap h' → Q () { s with heap := h' }) :
    wpAny (model prog w) A (setItem (.ref l) (.ref sl) (.ref b)) Q E s := by
  have hl := io.isList ho
  have hlb := ib.isList hb
  obtain ⟨os, hos, hcs, hds⟩ := id hs
  have hTs : s.TypeIs (.ref sl) "slice" := ⟨os, hos, hcs⟩
  obtain ⟨no, rfl⟩ := io
  obtain ⟨nb, rfl⟩ := ib
  unfold setItem
  try with_reducible refine wpAny_holding ?_
  first | refine wpAny_bind (wpAny_pure ?_) | skip
  refine wpAny_bind (wpAny_sequenceKey hl.typeIs (by decide) ?_)
  refine wpAny_bind (wpAny_callSpecial?_slot (name := Str.ofString "__setitem__") hl.typeIs slot_list_setitem
    (wpAny_call_entry slot_list_setitem hl.typeIs entry_list_setitem ?_ (args_list_setitem _ _ _)))
  show wpAny _ _ (Builtin.List.listSubscript? (.ref sl) >>= _) _ _ s
  refine wpAny_bind ?_
  unfold Builtin.List.listSubscript?
  refine wpAny_bind (wpAny_specialOf hTs slice_no_index ?_)
  simp only [Option.isNone_none, if_true]
  refine wpAny_pure ?_
  show wpAny _ _ (typeOf (.ref sl) >>= _) _ _ s
  refine wpAny_bind (wpAny_typeOf hTs ?_)
  rw [if_neg (by decide)]
  rw [listSliceParts_eq]
  refine wpAny_bind (wpAny_bind (wpAny_field hos hds (x := .none) rfl (wpAny_bind (wpAny_listPart .none ?_))))
  rw [if_neg (by decide)]
  refine wpAny_bind (wpAny_field hos hds (x := vl) rfl (wpAny_bind (wpAny_listPart pl ?_)))
  refine wpAny_bind (wpAny_field hos hds (x := vu) rfl (wpAny_bind (wpAny_listPart pu (wpAny_pure ?_))))
  dsimp only
  have e := sliceIndices_raw lo hi none vs.toArray.size (by simp)
  rw [bounds_nn nl nh] at e
  have htl : ¬ (Builtin.List.listTooLong (vs.toArray.size + ws.toArray.size) = true) := by
    simp only [Builtin.List.listTooLong, List.size_toArray, decide_eq_true_eq, sizeLine_eq]; omega
  have hn : (min (slcA lo) vs.toArray.size : Nat) ≤ vs.length := by rw [List.size_toArray]; exact Nat.min_le_right _ _
  have hfe : vs.toArray.extract 0 (min (slcA lo) vs.toArray.size) ++ ws.toArray ++ vs.toArray.extract (max (min (slcA lo) vs.toArray.size) (min (slcB hi vs.toArray.size) vs.toArray.size)) vs.toArray.size = (setSlc lo hi vs ws).toArray := by
    apply Array.ext'
    simp only [Array.toList_append, Array.toList_extract, List.size_toArray, setSlc, List.extract_eq_take_drop, Nat.sub_zero, List.drop_zero, List.append_assoc]
    rw [kmk_take_min]
    congr 2
    rw [List.take_of_length_le (by rw [List.length_drop]; exact Nat.le_refl _)]
    have : max (min (slcA lo) vs.length) (min (slcB hi vs.length) vs.length) = min (max (slcA lo) (slcB hi vs.length)) vs.length := by omega
    rw [this, kmk_drop_min]
  have e1 : ((min (slcA lo) vs.toArray.size : Nat) : Int).toNat = min (slcA lo) vs.toArray.size := Int.toNat_natCast _
  have e2 : (max ((min (slcA lo) vs.toArray.size : Nat) : Int) ((min (slcB hi vs.toArray.size) vs.toArray.size : Nat) : Int)).toNat = max (min (slcA lo) vs.toArray.size) (min (slcB hi vs.toArray.size) vs.toArray.size) := by omega
  have hlen : (setSlc lo hi vs ws).length ≤ 16777216 := by
    simp only [setSlc, List.length_append, List.length_take, List.length_drop]; omega
  split
  · refine wpAny_bind (wpAny_listItems hb rfl ?_)
    refine wpAny_bind (wpAny_listItems ho rfl ?_)
    refine wpAny_bind (wpAny_of_eq e ?_)
    dsimp only
    rw [if_pos (by decide)]
    refine wpAny_bind (wpAny_rule ?_)
    rw [if_neg htl]
    refine wpAny_bind ?_
    show wpAny _ _ (updateSeq l (fun xs => xs.extract 0 ((min (slcA lo) vs.toArray.size : Nat) : Int).toNat ++ ws.toArray ++ xs.extract (max ((min (slcA lo) vs.toArray.size : Nat) : Int) ((min (slcB hi vs.toArray.size) vs.toArray.size : Nat) : Int)).toNat xs.size)) _ _ _
    rw [e1, e2]
    refine wpAny_updateSeq ho rfl ?_ ?_ ?_
    · refine wpAny_bind (wpAny_letGo ?_)
      refine wpAny_pure ⟨.none, rfl, wpAny_pure (hQ _ _ (Heap.get?_update_self _ ho rfl) (islist_map _ hfe) (Heap.SameBut.update ..))⟩
    · rw [List.size_toArray, sizeLine_eq]; omega
    · show (vs.toArray.extract 0 (min (slcA lo) vs.toArray.size) ++ ws.toArray ++ vs.toArray.extract (max (min (slcA lo) vs.toArray.size) (min (slcB hi vs.toArray.size) vs.toArray.size)) vs.toArray.size).size ≤ _
      rw [hfe, List.size_toArray, sizeLine_eq]; omega
  · refine wpAny_bind ?_
    unfold Builtin.List.listAllItems
    refine wpAny_bind (wpAny_typeOf hlb.typeIs ?_)
    rw [if_pos (by decide)]
    refine wpAny_listItems hb rfl ?_
    refine wpAny_bind (wpAny_listItems ho rfl ?_)
    refine wpAny_bind (wpAny_of_eq e ?_)
    dsimp only
    rw [if_pos (by decide)]
    refine wpAny_bind (wpAny_rule ?_)
    rw [if_neg htl]
    refine wpAny_bind ?_
    show wpAny _ _ (updateSeq l (fun xs => xs.extract 0 ((min (slcA lo) vs.toArray.size : Nat) : Int).toNat ++ ws.toArray ++ xs.extract (max ((min (slcA lo) vs.toArray.size : Nat) : Int) ((min (slcB hi vs.toArray.size) vs.toArray.size : Nat) : Int)).toNat xs.size)) _ _ _
    rw [e1, e2]
    refine wpAny_updateSeq ho rfl ?_ ?_ ?_
    · refine wpAny_bind (wpAny_letGo ?_)
      refine wpAny_pure ⟨.none, rfl, wpAny_pure (hQ _ _ (Heap.get?_update_self _ ho rfl) (islist_map _ hfe) (Heap.SameBut.update ..))⟩
    · rw [List.size_toArray, sizeLine_eq]; omega
    · show (vs.toArray.extract 0 (min (slcA lo) vs.toArray.size) ++ ws.toArray ++ vs.toArray.extract (max (min (slcA lo) vs.toArray.size) (min (slcB hi vs.toArray.size) vs.toArray.size)) vs.toArray.size).size ≤ _
      rw [hfe, List.size_toArray, sizeLine_eq]; omega
end
/-! # dicts by number -/
noncomputable def dget {α : Type} : List (Int × α) → Int → Option α
  | [], _ => none
  | (j, v) :: r, k => if j = k then some v else dget r k
noncomputable def dset {α : Type} : List (Int × α) → Int → α → List (Int × α)
  | [], k, v => [(k, v)]
  | (j, u) :: r, k, v => if j = k then (j, v) :: r else (j, u) :: dset r k v
theorem valueAt_dget : ∀ (kvs : List (Int × Value)) (k : Int), valueAt kvs k = dget kvs k
  | [], _ => rfl
  | (j, v) :: r, k => by
    have ih := valueAt_dget r k
    unfold valueAt at ih ⊢
    rw [List.find?_cons, dget]
    by_cases h : j = k
    · rw [if_pos h]; simp [h]
    · rw [if_neg h, ← ih]; simp [h]
theorem stored_dset : ∀ {kvs : List (Int × Value)} {k : Int} {v : Value}, (kvs.map (·.1)).Nodup → stored kvs k v = dset kvs k v
  | [], _, _, _ => rfl
  | (j, u) :: r, k, v, nd => by
    rw [List.map_cons, List.nodup_cons] at nd
    have ih := stored_dset (k := k) (v := v) nd.2
    unfold stored at ih ⊢
    rw [List.any_cons, dset]
    by_cases h : j = k
    · subst h
      rw [if_pos rfl]
      simp only [decide_true, Bool.true_or, if_true, List.map_cons]
      rw [map_store_of_not_mem r j v nd.1]
    · rw [if_neg h, ← ih]
      simp only [h, decide_false, Bool.false_or, List.map_cons, if_false]
      split <;> rfl
theorem RE.get {z : Cells} : ∀ {kvs : List (Int × Value)} {xs : List (Int × V)}, RE z kvs xs → ∀ {k : Int} {x : V}, dget xs k = some x → ∃ v, dget kvs k = some v ∧ RV z v x
  | _, _, .nil, k, x, h => by cases h
  | _, _, .cons (k := j) (v := v) h hs, k, x, e => by
    rw [dget] at e ⊢
    by_cases q : j = k
    · rw [if_pos q] at e ⊢
      cases e
      exact ⟨v, rfl, h⟩
    · rw [if_neg q] at e ⊢
      exact hs.get e
theorem RE.get0 {z : Cells} : ∀ {kvs : List (Int × Value)} {xs : List (Int × V)}, RE z kvs xs → ∀ {k : Int}, dget xs k = none → dget kvs k = none
  | _, _, .nil, k, h => rfl
  | _, _, .cons (k := j) (v := v) h hs, k, e => by
    rw [dget] at e ⊢
    by_cases q : j = k
    · rw [if_pos q] at e; cases e
    · rw [if_neg q] at e ⊢
      exact hs.get0 e
theorem RE.set {z : Cells} {k : Int} {v : Value} {x : V} (r : RV z v x) : ∀ {kvs : List (Int × Value)} {xs : List (Int × V)}, RE z kvs xs → RE z (dset kvs k v) (dset xs k x)
  | _, _, .nil => .cons r .nil
  | _, _, .cons (k := j) (v := u) (x := y) h hs => by
    rw [dset, dset]
    by_cases q : j = k
    · rw [if_pos q, if_pos q]; exact .cons r hs
    · rw [if_neg q, if_neg q]; exact .cons h (hs.set r)
theorem RE.length {z : Cells} : ∀ {kvs : List (Int × Value)} {xs : List (Int × V)}, RE z kvs xs → kvs.length = xs.length
  | _, _, .nil => rfl
  | _, _, .cons h hs => by rw [List.length_cons, List.length_cons, hs.length]
theorem RE.keys {z : Cells} : ∀ {kvs : List (Int × Value)} {xs : List (Int × V)}, RE z kvs xs → kvs.map (·.1) = xs.map (·.1)
  | _, _, .nil => rfl
  | _, _, .cons h hs => by rw [List.map_cons, List.map_cons, hs.keys]
theorem IsDc.nodup {o : Obj} {kvs : List (Int × Value)} (i : IsDc o kvs) (p : Program) (w : World) : (kvs.map (·.1)).Nodup := let ⟨_, _, _, _, _, _, h⟩ := i p w; h
theorem IsDc.dictOf {o : Obj} {kvs : List (Int × Value)} {h : Heap} {a : Addr} (i : IsDc o kvs) (e : h.get? a = some o) (p : Program) (w : World) : h.DictOf (intKind p w) a kvs := Heap.dictOf_iff.mpr ⟨o, e, i p w⟩

section
variable {G : Gx} {n : Nat} {d : FD} {loc : Locs} {H H' : HH} {X : Str → HH → Prop}

theorem Sb.dict {a : Addr} {xs : List (Int × V)} {k : Int} {x : V} {P : V → HH → Prop} (m : (a, .dict xs) ∈ H) (hx : dget xs k = some x) (h : P x H) : Sb G n (.ref a) (.int k) H P X := fun value slice A c s ao S vo vi ro ri Q E p xp => by
  obtain rfl := ro.ref_inv; obtain ⟨u, rfl⟩ := ri.int_inv
  obtain ⟨o, es, ho, lo, i, r⟩ := S.getDict m
  obtain ⟨v, hv, rv⟩ := r.get hx
  obtain ⟨ops, e⟩ := sub_ops slice (.ref a) (.int k u)
  have hD := i.dictOf ho G.prog G.w
  exact tail_any hD.typeIs slot_dict_getitem.lookup (wpAny_getItem_of (intKind_is _ _ _ _) hD.mapOf (by rw [valueAt_dget]; exact hv) (p.now h S rv)) e

/-! # items set -/
noncomputable def Stt (G : Gx) (n : Nat) (o i v : V) (H : HH) (P : HH → Prop) (X : Str → HH → Prop) : Prop :=
  ∀ A c s, AOk A c n → Sat G.h₀ c H s.heap → ∀ vo vi vv, RV c.fz vo o → RV c.fz vi i → RV c.fz vv v → ∀ (Q : Unit → Shared → Prop) E,
    (∀ H' c' h' tk, P H' → Le c c' → c'.m = c.m → Sat G.h₀ c' H' h' → Q () { s with heap := h', toks := tk }) → XPost G c s X E → wpAny G.M A (setItem vo vi vv) Q E s
theorem E1.asgS {o i value : Expr} {pos' pos : Pos} {Pn : Locs → HH → Prop} {Pr : V → HH → Prop} (hv : noComp value = true)
    (h : Ev G n d loc H value (fun v H₁ => Ev G n d loc H₁ o (fun ov H₂ => Ev G n d loc H₂ i (fun iv H₃ => Stt G n ov iv v H₃ (fun H₄ => Pn loc H₄) X) X) X) X) :
    E1 G n d loc H (.Assign [.Subscript o i pos'] value pos) Pn Pr X := by
  refine E1.mk fun A c s he a S r Q E p xp => wpAny_Assign_Subscript (h.then he a S r xp fun v x H₁ c₁ h₁ t₁ hp l₁ m₁ S₁ rv₁ => ?_) (swaps_no hv)
  rw [← l₁.env]
  refine hp.then (l₁.envd he) (a.le l₁) S₁ (l₁.rl m₁ r) (xp.le l₁ h₁ t₁) fun v₂ x₂ H₂ c₂ h₂ t₂ hp₂ l₂ m₂ S₂ rv₂ => ?_
  rw [← l₂.env]
  refine hp₂.then (l₂.envd (l₁.envd he)) ((a.le l₁).le l₂) S₂ (l₂.rl m₂ (l₁.rl m₁ r)) ((xp.le l₁ h₁ t₁).le l₂ h₂ t₂) fun v₃ x₃ H₃ c₃ h₃ t₃ hp₃ l₃ m₃ S₃ rv₃ => ?_
  refine hp₃ A c₃ _ (((a.le l₁).le l₂).le l₃) S₃ _ _ _ (rv₂.mono l₃.fz) rv₃ ((rv₁.mono l₂.fz).mono l₃.fz) _ _ (fun H' c' h' tk hp l m S' => ?_) (((xp.le l₁ h₁ t₁).le l₂ h₂ t₂).le l₃ h₃ t₃)
  exact p.1 loc H' c' h' tk hp (((l₁.trans l₂).trans l₃).trans l) S' (l.rl m (l₃.rl m₃ (l₂.rl m₂ (l₁.rl m₁ r))))

theorem Stt.list {a : Addr} {xs : List V} {k : Int} {x : V} {P : HH → Prop} (U : UpH a (.list xs) (.list (xs.set k.toNat x)) H H') (h0 : 0 ≤ k) (h1 : k < 2 ^ 63) (hk : k < xs.length) (h : P H') : Stt G n (.ref a) (.int k) x H P X := fun A c s ao S vo vi vv ro ri rv Q E p xp => by
  obtain rfl := ro.ref_inv; obtain ⟨u, rfl⟩ := ri.int_inv
  obtain ⟨o, vs, ho, ⟨no, rfl⟩, r⟩ := S.getList U.mem
  refine ki_setAt ho h0 h1 (by rw [List.size_toArray, r.length]; exact hk) ?_
  obtain ⟨c', l, m, S'⟩ := S.setList U (Heap.SameBut.update ..) (Heap.get?_update_self _ ho rfl) (islist_map (f := fun xs => xs.setIfInBounds k.toNat vv) (zs := vs.set k.toNat vv) no (List.setIfInBounds_toArray ..)) (RVs.set rv r k.toNat)
  exact p H' c' _ s.toks h l m S'
theorem Stt.slc {a : Addr} {xs ys : List V} {lo hi : Option Int} {P : HH → Prop} (U : UpH a (.list xs) (.list (setSlc lo hi xs ys)) H H') (nl : nnO lo) (nh : nnO hi) (hz : xs.length + ys.length ≤ 16777216) (h : P H') : Stt G n (.ref a) (.obj (IsSlc lo hi)) (.lst ys) H P X := fun A c s ao S vo vi vv ro ri rv Q E p xp => by
  obtain rfl := ro.ref_inv
  obtain ⟨o, vs, ho, i, r⟩ := S.getList U.mem
  obtain ⟨b, ob, ws, rfl, hb, ib, rb⟩ := S.getLst rv
  cases ri with
  | @obj sl os _ ms _ _ hs =>
    obtain ⟨hc, vl, vu, hd, pl, pu⟩ := hs
    refine wpAny_setItem_list_slice ho i hb ib ⟨os, (S.N _ (List.mem_append_right _ (List.mem_append_right _ ms))).1, hc, hd⟩ pl pu nl nh (by rw [r.length, rb.length]; exact hz) fun h' o' ho' i' hs' => ?_
    have r' : RVs c.fz (setSlc lo hi vs ws) (setSlc lo hi xs ys) := by
      unfold setSlc
      rw [r.length]
      exact ((r.take _).append rb).append (r.drop _)
    obtain ⟨c', l, m, S'⟩ := S.setList U hs' ho' i' r'
    exact p H' c' _ s.toks h l m S'
theorem Stt.dict {a : Addr} {xs : List (Int × V)} {k : Int} {x : V} {P : HH → Prop} (U : UpH a (.dict xs) (.dict (dset xs k x)) H H') (hz : xs.length ≤ 16777216) (h : P H') : Stt G n (.ref a) (.int k) x H P X := fun A c s ao S vo vi vv ro ri rv Q E p xp => by
  obtain rfl := ro.ref_inv; obtain ⟨u, rfl⟩ := ri.int_inv
  obtain ⟨o, es, ho, lo, i, r⟩ := S.getDict U.mem
  refine wpAny_setItem_pairs (hsz := ?_) (intKind_is _ _ _ _) (i.dictOf ho G.prog G.w) fun h' hmm hs => ?_
  · obtain ⟨o', ho', hd'⟩ := Heap.dictOf_iff.mp hmm
    rw [stored_dset (i.nodup G.prog G.w)] at hd'
    obtain ⟨c', l, m, S'⟩ := S.setDict U hs ho' (IsDc.of hd') (r.set rv)
    exact p H' c' _ _ h l m S'
  · rw [r.length, sizeLine_eq]; exact hz

end
noncomputable def clsB (K : Frag) (C : Addr) : Bool := plainGet K C "" && (findIn K (.ref C) "__setattr__" == some (some (.builtin "object.__setattr__"))) && plainOver K C && hasDictIn K C && (fldOf C).all fun x => findIn K (.ref C) x == some none
structure ClsOk (C : Addr) : Prop where
  ok : ∀ P, clsB (KF P) C = true
structure ClsFacts (K : Frag) (C : Addr) : Prop where
  get : ∀ x, plainGet K C x = true
  set : findIn K (.ref C) "__setattr__" = some (some (.builtin "object.__setattr__"))
  over : plainOver K C = true
  dict : hasDictIn K C = true
  no : ∀ x ∈ fldOf C, findIn K (.ref C) x = some none
theorem ClsOk.facts {C : Addr} (h : ClsOk C) (P : Params) : ClsFacts (KF P) C := by
  have e := h.ok P
  simp only [clsB, Bool.and_eq_true, List.all_eq_true, beq_iff_eq] at e
  obtain ⟨⟨⟨⟨e1, e2⟩, e3⟩, e4⟩, e5⟩ := e
  exact ⟨fun _ => e1, e2, e3, e4, e5⟩

/-! ## an own dict of names -/
noncomputable def StrKeys (C : Addr) (es : List DictEntry) : Prop := ∀ e ∈ es, ∃ x t, e.key = .str x t ∧ x ∈ fldOf C
theorem noRefKey {C : Addr} {es : List DictEntry} (h : StrKeys C es) : es.any (·.refKey) = false := by
  rw [List.any_eq_false]
  intro e he
  obtain ⟨x, t, q, _⟩ := h e he
  simp [DictEntry.refKey, q]
theorem getL_some {C : Addr} {es : List DictEntry} (h : StrKeys C es) (x : Str) : (getL x es).isSome = true := by
  unfold getL
  split
  · rfl
  · rw [noRefKey h]; rfl
theorem getL_no {C : Addr} {es : List DictEntry} (h : StrKeys C es) {x : Str} (hx : x ∉ fldOf C) : getL x es = some none := by
  unfold getL
  have : es.find? (fun e => e.key.isStr x) = none := by
    rw [List.find?_eq_none]
    intro e he q
    obtain ⟨y, t, k, hy⟩ := h e he
    rw [k] at q
    simp only [Value.isStr, beq_iff_eq] at q
    exact hx (q ▸ hy)
  rw [this, noRefKey h]
  rfl
theorem putL_keys {C : Addr} {x : Str} {hsh : Int} {t : Tok} {v : Value} (hx : x ∈ fldOf C) : ∀ {es : List DictEntry}, StrKeys C es → StrKeys C (putL x hsh (.str x t) v es)
  | [], _ => fun e he => by
    rw [putL, List.mem_singleton] at he
    subst he
    exact ⟨x, t, rfl, hx⟩
  | e :: r, h => fun e' he => by
    rw [putL] at he
    split at he
    · rcases List.mem_cons.mp he with rfl | he
      · exact h e (.head _)
      · exact h e' (.tail _ he)
    · rcases List.mem_cons.mp he with rfl | he
      · exact h e' (.head _)
      · exact putL_keys hx (fun e he => h e (.tail _ he)) e' he
theorem putL_len {x : Str} {hsh : Int} {key v : Value} : ∀ es : List DictEntry, (putL x hsh key v es).length ≤ es.length + 1
  | [] => Nat.le_refl _
  | e :: r => by
    rw [putL]
    split
    · exact Nat.le_succ _
    · exact Nat.succ_le_succ (putL_len r)
theorem ite_no {u : Value} (b : Bool) : ¬ ((if b = true then (none : Option (Option Value)) else some none) = some (some u)) := by
  intro h
  cases b <;> simp at h
theorem putL_len_old {x : Str} {hsh : Int} {key v u : Value} : ∀ {es : List DictEntry}, getL x es = some (some u) → (putL x hsh key v es).length = es.length
  | [], h => by cases h
  | e :: r, h => by
    rw [putL]
    split
    · rfl
    · rename_i q
      rw [List.length_cons, List.length_cons, putL_len_old (es := r) (u := u)]
      unfold getL at h ⊢
      simp only [List.find?_cons, q, List.any_cons] at h
      split at h
      · rename_i hf; rw [hf]; exact h
      · exact absurd h (ite_no _)
theorem getL_putL_self {C : Addr} {x : Str} {hsh : Int} {t : Tok} {v : Value} : ∀ {es : List DictEntry}, StrKeys C es → getL x (putL x hsh (.str x t) v es) = some (some v)
  | [], _ => by simp [putL, getL, Value.isStr]
  | e :: r, h => by
    rw [putL]
    split
    · rename_i q
      unfold getL
      rw [List.find?_cons]
      dsimp only
      rw [q]
    · rename_i q
      have ih := getL_putL_self (hsh := hsh) (x := x) (t := t) (v := v) (es := r) fun e he => h e (.tail _ he)
      unfold getL at ih ⊢
      rw [List.find?_cons]
      simp only [q]
      split at ih
      · rename_i hf; rw [hf]; exact ih
      · exact absurd ih (ite_no _)
theorem getL_putL_ne {x y : Str} {hsh : Int} {t : Tok} {v u : Value} (hn : y ≠ x) : ∀ {es : List DictEntry}, getL y es = some (some u) → getL y (putL x hsh (.str x t) v es) = some (some u)
  | [], h => by cases h
  | e :: r, h => by
    rw [putL]
    split
    · rename_i q
      unfold getL at h ⊢
      simp only [List.find?_cons] at h ⊢
      split at h
      · rename_i e' hf
        split at hf
        · rename_i q'
          have hk : ∃ z t', e.key = .str z t' := by
            cases hh : e.key <;> simp_all [Value.isStr]
          obtain ⟨z, t', hz⟩ := hk
          rw [hz] at q q'
          simp only [Value.isStr, beq_iff_eq] at q q'
          exact absurd (q'.symm.trans q) hn
        · rename_i q'
          simp only [hf]
          exact h
      · exact absurd h (ite_no _)
    · rename_i q
      unfold getL at h ⊢
      simp only [List.find?_cons] at h ⊢
      split at h
      · rename_i e' hf
        split at hf
        · rename_i q'
          cases hf
          exact h
        · rename_i q'
          have ih := getL_putL_ne (hsh := hsh) (t := t) (v := v) (u := u) hn (es := r) (by unfold getL; rw [hf]; exact h)
          unfold getL at ih
          split at ih
          · rename_i hf'; rw [hf']; exact ih
          · exact absurd ih (ite_no _)
      · exact absurd h (ite_no _)

/-- the known part of an own dict behind a store -/
inductive FSet (x : Str) (v : V) : List (Str × V) → List (Str × V) → Prop
  | nil : FSet x v [] [(x, v)]
  | hit {u : V} {r : List (Str × V)} : FSet x v ((x, u) :: r) ((x, v) :: r)
  | skip {y : Str} {u : V} {r r' : List (Str × V)} : (y == x) = false → FSet x v r r' → FSet x v ((y, u) :: r) ((y, u) :: r')
inductive FNo (x : Str) : List (Str × V) → Prop
  | nil : FNo x []
  | cons {y : Str} {u : V} {r : List (Str × V)} : (y == x) = false → FNo x r → FNo x ((y, u) :: r)
theorem FNo.ne {x : Str} : ∀ {fs : List (Str × V)}, FNo x fs → ∀ p ∈ fs, p.1 ≠ x
  | _, .nil, p, hp => nomatch hp
  | _, .cons e h, p, hp => by
    rcases List.mem_cons.mp hp with rfl | hp
    · exact beq_eq_false_iff_ne.mp e
    · exact h.ne p hp
section
variable {h₀ h h' : Heap} {c : Cf} {H H' : HH}
theorem Sat.newf (S : Sat h₀ c H h) {a : Addr} {O : O} {cs : Cells} (hO : RO c.fz a O cs) (F' : Fr h₀ c.env.locals h' c.m) (N' : News h₀ c.env.locals h' (cs ++ (c.ow ++ (c.fr ++ c.fz))))
    (fresh : ∀ q ∈ cs, ∀ p ∈ c.ow ++ (c.fr ++ c.fz), p.1 ≠ q.1) (hn : (cs.map (·.1)).Nodup) : Sat h₀ { c with ow := cs ++ c.ow } ((a, O) :: H) h' := by
  refine { F := F', R := .cons hO S.R, fo := S.fo, fk := S.fk, fd := S.fd, kind := S.kind, lf := S.lf, N := fun p hp => N' p (by simpa only [List.append_assoc] using hp), nd := ?_, zz := fun p hp q hq => ?_ }
  · rw [List.append_assoc, List.map_append]
    refine List.nodup_append.mpr ⟨hn, S.nd, fun x hx y hy e => ?_⟩
    obtain ⟨q, hq, rfl⟩ := List.mem_map.mp hx
    obtain ⟨p, hp, rfl⟩ := List.mem_map.mp hy
    refine fresh q hq p ?_ e.symm
    rcases List.mem_append.mp hp with h | h
    · exact List.mem_append_left _ h
    · exact List.mem_append_right _ (List.mem_append_left _ h)
  · rw [List.append_assoc] at hp
    rcases List.mem_append.mp hp with h | h
    · exact (fresh p h q (List.mem_append_right _ (List.mem_append_right _ hq))).symm
    · exact S.zz p h q hq
theorem Sat.newzf (S : Sat h₀ c H h) {a : Addr} {o : Obj} (F' : Fr h₀ c.env.locals h' c.m) (N' : News h₀ c.env.locals h' ((a, o) :: (c.ow ++ (c.fr ++ c.fz)))) (hf : ∀ p ∈ c.ow ++ (c.fr ++ c.fz), p.1 ≠ a) : Sat h₀ { c with fz := (a, o) :: c.fz } H h' :=
  S.newz F' N' fun p hp => hf p (by
    rcases List.mem_append.mp hp with h | h
    · exact List.mem_append_left _ h
    · exact List.mem_append_right _ (List.mem_append_left _ h))
theorem Sat.fresh (S : Sat h₀ c H h) : ∀ p ∈ c.ow ++ (c.fr ++ c.fz), p.1 ≠ h.objs.size := fun p hp => Nat.ne_of_lt (S.lt p hp)
end

/-- a list just made: frozen, or ours -/
noncomputable def NewL (xs : List V) (H : HH) (P : V → HH → Prop) : Prop := P (.lst xs) H ∨ ∀ a, P (.ref a) ((a, .list xs) :: H)

section
variable {G : Gx} {n : Nat} {d : FD} {loc : Locs} {H H' : HH} {X : Str → HH → Prop}

theorem alloc_list {c : Cf} {s : Shared} {P : V → HH → Prop} {Q : Value → Shared → Prop} (S : Sat G.h₀ c H s.heap) (p : EPost G c s P Q) {D : Addr} {o : Obj} {vs : List Value} {xs : List V} {h' : Heap} {tk : Nat} (io : IsLs o vs) (r : RVs c.fz vs xs)
    (F' : Fr G.h₀ c.env.locals h' c.m) (N' : News G.h₀ c.env.locals h' ((D, o) :: (c.ow ++ (c.fr ++ c.fz)))) (hf : ∀ p ∈ c.ow ++ (c.fr ++ c.fz), p.1 ≠ D) (h : NewL xs H P) : Q (.ref D) { s with heap := h', toks := tk } := by
  rcases h with h | h
  · exact p _ (.lst xs) H { c with fz := (D, o) :: c.fz } h' tk h (Le.newz _ _) rfl (S.newzf F' N' hf) (.lst (.head _) io (r.mono fun _ h => .tail _ h))
  · exact p _ (.ref D) _ { c with ow := [(D, o)] ++ c.ow } h' tk (h D) (Le.ow c _) rfl (S.newf (.list io r) F' N' (fun q hq => by
      rw [List.mem_singleton] at hq
      subst hq
      exact hf) (by simp)) (.ref D)
theorem alloc_tup {c : Cf} {s : Shared} {P : V → HH → Prop} {Q : Value → Shared → Prop} (S : Sat G.h₀ c H s.heap) (p : EPost G c s P Q) {D : Addr} {o : Obj} {vs : List Value} {xs : List V} {h' : Heap} {tk : Nat} (io : IsTp o vs) (r : RVs c.fz vs xs)
    (F' : Fr G.h₀ c.env.locals h' c.m) (N' : News G.h₀ c.env.locals h' ((D, o) :: (c.ow ++ (c.fr ++ c.fz)))) (hf : ∀ p ∈ c.ow ++ (c.fr ++ c.fz), p.1 ≠ D) (h : P (.tup xs) H) : Q (.ref D) { s with heap := h', toks := tk } :=
  p _ (.tup xs) H { c with fz := (D, o) :: c.fz } h' tk h (Le.newz _ _) rfl (S.newzf F' N' hf) (.tup (.head _) io (r.mono fun _ h => .tail _ h))

/-! # displays -/
theorem Ev.tup {es : List Expr} {k : Nat} {pos : Pos} {P : V → HH → Prop} (h : Ea G n d loc H es (fun xs H₁ => xs.length ≤ 16777216 ∧ P (.tup xs) H₁) X) : Ev G n d loc H (.Tuple es k pos) P X := by
  refine Ev.mk fun A c s he a S r Q E p xp => Tuple_ (h.use A c s pos he a S r _ E (fun vs xs H₁ c₁ h₁ t₁ hp l m S₁ rv => ?_) xp)
  refine newTuple_N S₁.F S₁.N (fun h' F' N' => ?_) (by rw [rv.length, sizeLine_eq]; exact hp.1)
  exact alloc_tup (s := { s with heap := h₁, toks := t₁ }) S₁ (p.le l m h₁ t₁) ⟨rfl, 0, rfl⟩ rv F' N' S₁.fresh hp.2
theorem Ev.lst {es : List Expr} {pos : Pos} {P : V → HH → Prop} (h : Ea G n d loc H es (fun xs H₁ => xs.length ≤ 16777216 ∧ NewL xs H₁ P) X) : Ev G n d loc H (.List es pos) P X := by
  refine Ev.mk fun A c s he a S r Q E p xp => List_ (h.use A c s pos he a S r _ E (fun vs xs H₁ c₁ h₁ t₁ hp l m S₁ rv => ?_) xp)
  refine newList_N S₁.F S₁.N (fun h' F' N' => ?_) (by rw [rv.length, sizeLine_eq]; exact hp.1)
  exact alloc_list (s := { s with heap := h₁, toks := t₁ }) S₁ (p.le l m h₁ t₁) ⟨0, rfl⟩ rv F' N' S₁.fresh hp.2
theorem Ev.dict0 {pos : Pos} {P : V → HH → Prop} (h : ∀ a, P (.ref a) ((a, .dict []) :: H)) : Ev G n d loc H (.Dict [] [] pos) P X := by
  refine Ev.mk fun A c s he a S r Q E p xp => newDict_K S.F S.N G.T.nolimit fun D h' o F' N' hlt lo _ _ i _ => ?_
  refine p _ (.ref D) _ { c with ow := [(D, o)] ++ c.ow } h' s.toks (h D) (Le.ow c _) rfl (S.newf (.dict lo (IsDc.of i) .nil) F' N' (fun q hq => ?_) (by simp)) (.ref D)
  rw [List.mem_singleton] at hq
  subst hq
  exact fun p hp => Nat.ne_of_lt (hlt p hp)

/-! # lists: put together, many times -/
theorem Bn.addL {xs ys : List V} {P : V → HH → Prop} (hz : xs.length + ys.length ≤ 16777216) (h : NewL (xs ++ ys) H P) : Bn G n .Add (.lst xs) (.lst ys) H P X := fun A c s a S va vb ra rb Q E p xp => by
  obtain ⟨a1, o1, vs, rfl, h1, i1, r1⟩ := S.getLst ra
  obtain ⟨a2, o2, ws, rfl, h2, i2, r2⟩ := S.getLst rb
  refine add_arrays S.F S.N (i1.isList h1) (i2.isList h2) (fun h' F' N' => ?_) (by rw [List.size_toArray, List.size_toArray, r1.length, r2.length, sizeLine_eq]; exact hz)
  exact alloc_list S p ⟨0, rfl⟩ (r1.append r2) F' N' S.fresh h
theorem rep_flat {α : Type} (x : List α) : ∀ (k : Nat) (acc : Array α), (List.foldl (fun x1 x2 => x1 ++ x2) acc (List.replicate k x.toArray)) = (acc.toList ++ (List.replicate k x).flatten).toArray
  | 0, acc => by simp
  | k + 1, acc => by
    rw [List.replicate_succ, List.foldl_cons, rep_flat x k, List.replicate_succ, List.flatten_cons]
    simp
theorem Bn.mulL {x : V} {k : Int} {P : V → HH → Prop} (h0 : 0 ≤ k) (hz : k ≤ 16777216) (h : NewL (List.replicate k.toNat x) H P) : Bn G n .Mult (.lst [x]) (.int k) H P X := fun A c s a S va vb ra rb Q E p xp => by
  obtain ⟨a1, o1, vs, rfl, h1, ⟨no, rfl⟩, r1⟩ := S.getLst ra
  obtain ⟨u, rfl⟩ := rb.int_inv
  cases r1 with
  | @cons v _ vs _ rv rn =>
    cases rn
    refine mul_list S.F S.N h1 (by omega) (by omega) (by simp; omega) fun h' F' N' => ?_
    refine alloc_list (vs := List.replicate k.toNat v) S p ⟨0, ?_⟩ ?_ F' N' S.fresh h
    · rw [show ([v].toArray).isEmpty = false from rfl]
      simp only [Bool.false_eq_true, if_false]
      rw [rep_flat]
      simp
    · generalize k.toNat = m
      induction m with
      | zero => exact .nil
      | succ m ih => exact .cons rv ih

/-! # functions of the machine -/
theorem Cl.lenL {xs : List V} {P : V → HH → Prop} (hz : xs.length ≤ 16777216) (h : P (.int xs.length) H) : Cl G n (.builtin "len") [.lst xs] H P X := Cl.mk fun A c s a S vs hvs Q E p xp => by
  cases hvs with
  | cons r rn =>
    cases rn
    obtain ⟨a1, o1, ws, rfl, h1, i1, r1⟩ := S.getLst r
    refine call_len_list (i1.isList h1) (by rw [List.size_toArray, r1.length]; omega) (p.now h S ?_)
    rw [List.size_toArray, r1.length]; exact .int ..
theorem Cl.lenO {b : Addr} {xs : List V} {P : V → HH → Prop} (m : (b, .list xs) ∈ H) (hz : xs.length ≤ 16777216) (h : P (.int xs.length) H) : Cl G n (.builtin "len") [.ref b] H P X := Cl.mk fun A c s a S vs hvs Q E p xp => by
  cases hvs with
  | cons r rn =>
    cases rn
    obtain rfl := r.ref_inv
    obtain ⟨o1, ws, h1, i1, r1⟩ := S.getList m
    refine call_len_list (i1.isList h1) (by rw [List.size_toArray, r1.length]; omega) (p.now h S ?_)
    rw [List.size_toArray, r1.length]; exact .int ..
theorem Cl.min {i j : Int} {P : V → HH → Prop} (h : P (.int (Min.min i j)) H) : Cl G n (.builtin "min") [.int i, .int j] H P X := Cl.mk fun A c s a S vs hvs Q E p xp => by
  cases hvs with
  | cons r rn =>
    cases rn with
    | cons r' rn =>
      cases rn
      obtain ⟨t, rfl⟩ := r.int_inv
      obtain ⟨u, rfl⟩ := r'.int_inv
      refine min_two_ints a.hd fun h' tk hk => p _ _ H c h' tk h (Le.refl c) rfl (S.kept hk) ?_
      by_cases q : j < i
      · rw [if_pos q, show Min.min i j = j by omega]; exact .int ..
      · rw [if_neg q, show Min.min i j = i by omega]; exact .int ..
theorem Cl.max {i j : Int} {P : V → HH → Prop} (h : P (.int (Max.max i j)) H) : Cl G n (.builtin "max") [.int i, .int j] H P X := Cl.mk fun A c s a S vs hvs Q E p xp => by
  cases hvs with
  | cons r rn =>
    cases rn with
    | cons r' rn =>
      cases rn
      obtain ⟨t, rfl⟩ := r.int_inv
      obtain ⟨u, rfl⟩ := r'.int_inv
      refine max_two_ints a.hd fun h' tk hk => p _ _ H c h' tk h (Le.refl c) rfl (S.kept hk) ?_
      by_cases q : j > i
      · rw [if_pos q, show Max.max i j = j by omega]; exact .int ..
      · rw [if_neg q, show Max.max i j = i by omega]; exact .int ..
theorem Cl.listL {xs : List V} {P : V → HH → Prop} (hz : xs.length ≤ 16777216) (h : NewL xs H P) : Cl G n (.type "list") [.lst xs] H P X := Cl.mk fun A c s a S vs hvs Q E p xp => by
  cases hvs with
  | cons r rn =>
    cases rn
    obtain ⟨a1, o1, ws, rfl, h1, i1, r1⟩ := S.getLst r
    refine list_copyK S.F S.N (i1.isList h1) (fun D k h' F' N' hlt => ?_) (by rw [List.size_toArray, r1.length, sizeLine_eq]; exact hz)
    exact alloc_list S p ⟨k, rfl⟩ r1 F' N' (fun p hp => Nat.ne_of_lt (hlt p hp)) h
end
theorem Upd.of {d : Addr} {o o' : Obj} {post : Cells} (hb : ∀ p ∈ post, p.1 ≠ d) : ∀ {pre : Cells}, (∀ p ∈ pre, p.1 ≠ d) → Upd d o o' (pre ++ (d, o) :: post) (pre ++ (d, o') :: post)
  | [], _ => .head hb
  | p :: pre, ha => .tail (ha p (.head _)) (Upd.of hb fun q hq => ha q (.tail _ hq))

inductive FHit (x : Str) (v : V) : List (Str × V) → List (Str × V) → Prop
  | hit {u : V} {r : List (Str × V)} : FNo x r → FHit x v ((x, u) :: r) ((x, v) :: r)
  | skip {y : Str} {u : V} {r r' : List (Str × V)} : (y == x) = false → FHit x v r r' → FHit x v ((y, u) :: r) ((y, u) :: r')
theorem FHit.old {x : Str} {v : V} : ∀ {fs fs' : List (Str × V)}, FHit x v fs fs' → ∃ u, (x, u) ∈ fs
  | _, _, .hit _ => ⟨_, .head _⟩
  | _, _, .skip _ h => let ⟨u, m⟩ := h.old; ⟨u, .tail _ m⟩
theorem FHit.split {x : Str} {v : V} : ∀ {fs fs' : List (Str × V)}, FHit x v fs fs' → ∀ p ∈ fs', p = (x, v) ∨ (p ∈ fs ∧ p.1 ≠ x)
  | _, _, .hit n, p, hp => by
    rcases List.mem_cons.mp hp with rfl | hp
    · exact .inl rfl
    · exact .inr ⟨.tail _ hp, n.ne p hp⟩
  | _, _, .skip e h, p, hp => by
    rcases List.mem_cons.mp hp with rfl | hp
    · exact .inr ⟨.head _, beq_eq_false_iff_ne.mp e⟩
    · rcases h.split p hp with h | ⟨h1, h2⟩
      · exact .inl h
      · exact .inr ⟨.tail _ h1, h2⟩

theorem RV.handed {z : Cells} {u : Value} {v : V} (r : RV z u v) (hv : ∀ i, v ≠ .val (.builtin i)) : handedIn u = true := by
  cases u with
  | builtin i => cases r; exact absurd rfl (hv i)
  | _ => rfl
noncomputable def noSuper : Expr → Bool
  | .Call .. => false
  | _ => true

section
variable {G : Gx} {n : Nat} {d : FD} {loc : Locs} {H H' : HH} {X : Str → HH → Prop}

noncomputable def At (G : Gx) (n : Nat) (o : V) (x : Str) (H : HH) (P : V → HH → Prop) (X : Str → HH → Prop) : Prop :=
  ∀ A c s, AOk A c n → Sat G.h₀ c H s.heap → ∀ vo, RV c.fz vo o → ∀ Q E, EPost G c s P Q → XPost G c s X E → wpAny G.M A (getAttr vo x true) Q E s
theorem Ev.attr {o : Expr} {x : Str} {pos : Pos} {P : V → HH → Prop} (hs : noSuper o = true) (h : Ev G n d loc H o (fun v H₁ => At G n v x H₁ P X) X) : Ev G n d loc H (.Attribute o x pos) P X := by
  refine Ev.mk fun A c s he a S r Q E p xp => Attribute_any_ (h.then he a S r xp fun v y H₁ c₁ h₁ t₁ hp l m S₁ rv => ?_) (by cases o <;> first | rfl | cases hs)
  exact hp A c₁ _ (a.le l) S₁ v rv Q E (p.le l m h₁ t₁) (xp.le l h₁ t₁)
theorem At.inst {a C : Addr} {cap : Nat} {fs : List (Str × V)} {x : Str} {v : V} {P : V → HH → Prop} (ok : ClsOk C) (m : (a, .inst C cap fs) ∈ H) (hx : x ∈ fldOf C) (mv : (x, v) ∈ fs) (hv : ∀ i, v ≠ .val (.builtin i)) (h : P v H) : At G n (.ref a) x H P X := fun A c s ao S vo ro Q E p xp => by
  obtain rfl := ro.ref_inv
  obtain ⟨dx, es, k, e1, e2, h1, h2, h3⟩ := S.getInst m
  obtain ⟨u, e3, rv⟩ := h3 _ mv
  have f := ok.facts G.w.params
  have hin := rv.handed hv
  exact get_own (C := C) S.F G.X ⟨e1, rfl, rfl, e2⟩ (f.get x) f.dict (f.no x hx) rfl e3 hin (p.now h S rv)

noncomputable def Sa (G : Gx) (n : Nat) (o : V) (x : Str) (v : V) (H : HH) (P : HH → Prop) (X : Str → HH → Prop) : Prop :=
  ∀ A c s, AOk A c n → Sat G.h₀ c H s.heap → ∀ vo vv, RV c.fz vo o → RV c.fz vv v → ∀ (Q : Unit → Shared → Prop) E,
    (∀ H' c' h' tk, P H' → Le c c' → c'.m = c.m → Sat G.h₀ c' H' h' → Q () { s with heap := h', toks := tk }) → XPost G c s X E → wpAny G.M A (setAttr vo x vv) Q E s
theorem E1.asgA {o value : Expr} {x : Str} {pos' pos : Pos} {Pn : Locs → HH → Prop} {Pr : V → HH → Prop} (hv : noComp value = true)
    (h : Ev G n d loc H value (fun v H₁ => Ev G n d loc H₁ o (fun ov H₂ => Sa G n ov x v H₂ (fun H₃ => Pn loc H₃) X) X) X) : E1 G n d loc H (.Assign [.Attribute o x pos'] value pos) Pn Pr X := by
  refine E1.mk fun A c s he a S r Q E p xp => plainObj_wpAny_Assign_Attribute (h.then he a S r xp fun v y H₁ c₁ h₁ t₁ hp l₁ m₁ S₁ rv₁ => ?_) (swaps_no hv)
  rw [← l₁.env]
  refine hp.then (l₁.envd he) (a.le l₁) S₁ (l₁.rl m₁ r) (xp.le l₁ h₁ t₁) fun v₂ x₂ H₂ c₂ h₂ t₂ hp₂ l₂ m₂ S₂ rv₂ => ?_
  refine hp₂ A c₂ _ ((a.le l₁).le l₂) S₂ _ _ rv₂ (rv₁.mono l₂.fz) _ _ (fun H' c' h' tk hp l m S' => ?_) ((xp.le l₁ h₁ t₁).le l₂ h₂ t₂)
  exact p.1 loc H' c' h' tk hp ((l₁.trans l₂).trans l) S' (l.rl m (l₂.rl m₂ (l₁.rl m₁ r)))

/-- a store into an own dict, at the level of the heap -/
theorem sa_core {A : Around} {c : Cf} {s : Shared} {a C : Addr} {cap cap' : Nat} {fs fs' : List (Str × V)} {x : Str} {v : V} {vv : Value} {Q : Unit → Shared → Prop} {E : Value → Shared → Prop} (ok : ClsOk C) (hx : x ∈ fldOf C) (S : Sat G.h₀ c H s.heap)
    (U : UpH a (.inst C cap fs) (.inst C cap' fs') H H') (rv : RV c.fz vv v) (hc : cap' ≤ 1000) (hsz : ∀ es : List DictEntry, ∀ hsh key, es.length ≤ cap → (∀ p ∈ fs, ∃ v, getL p.1 es = some (some v) ∧ RV c.fz v p.2) → (putL x hsh key vv es).length ≤ cap')
    (hfs : ∀ p ∈ fs', p = (x, v) ∨ (p ∈ fs ∧ p.1 ≠ x)) (h : ∀ c' h', Le c c' → c'.m = c.m → Sat G.h₀ c' H' h' → Q () { s with heap := h', toks := s.toks + 2 }) : wpAny G.M A (setAttr (.ref a) x vv) Q E s := by
  have f := ok.facts G.w.params
  obtain ⟨pre, cs, post, e, hO, k⟩ := S.setc U
  cases hO with
  | inst h1 h2 h3 =>
    rename_i dx nn es
    have e' : c.ow = (pre ++ [(a, instObj C dx)]) ++ (dx, dictOf es nn) :: post := by rw [e]; simp
    have ap := S.apart e'
    have N := S.N
    have eN : c.ow ++ (c.fr ++ c.fz) = (pre ++ [(a, instObj C dx)]) ++ (dx, dictOf es nn) :: (post ++ (c.fr ++ c.fz)) := by rw [e']; simp
    rw [eN] at N
    have hkeys := putL_keys (C := C) (hsh := PyData.keyHash G.w.params x) (t := s.toks + 1) (v := vv) hx h2
    have hlen := hsz es (PyData.keyHash G.w.params x) (.str x (s.toks + 1)) h1 h3
    refine set_dict (C := C) (dx := dx) (n := nn) (es := es) S.F G.X N ⟨(N (a, instObj C dx) (by simp)).1, rfl, rfl, (N (dx, dictOf es nn) (by simp)).1⟩ rfl f.set f.over ?_ f.dict (getL_some h2 x) rfl (Upd.of ap.2 ap.1) (Nat.le_trans hlen hc) fun h' F' N' => ?_
    · unfold takerIn
      rw [f.no x hx]
      rfl
    · refine h { c with ow := pre ++ ([(a, instObj C dx), (dx, dictOf (putL x (PyData.keyHash G.w.params x) (.str x (s.toks + 1)) vv es) (putN x es nn))] ++ post) } h' (Le.ow c _) rfl (k _ h' (.inst hlen hkeys fun p hp => ?_) rfl F' (by simpa using N'))
      rcases hfs p hp with rfl | ⟨hp, hne⟩
      · exact ⟨vv, getL_putL_self h2, rv⟩
      · obtain ⟨u, e1, r1⟩ := h3 p hp
        exact ⟨u, getL_putL_ne hne e1, r1⟩
theorem Sa.old {a C : Addr} {cap : Nat} {fs fs' : List (Str × V)} {x : Str} {v : V} {P : HH → Prop} (ok : ClsOk C) (hc : cap ≤ 1000) (hx : x ∈ fldOf C) (hf : FHit x v fs fs') (U : UpH a (.inst C cap fs) (.inst C cap fs') H H') (h : P H') : Sa G n (.ref a) x v H P X := fun A c s ao S vo vv ro rv Q E p xp => by
  obtain rfl := ro.ref_inv
  refine sa_core ok hx S U rv hc (fun es hsh key h1 h3 => ?_) hf.split fun c' h' l m S' => p H' c' h' _ h l m S'
  obtain ⟨u, mu⟩ := hf.old
  obtain ⟨w, e1, _⟩ := h3 _ mu
  rw [putL_len_old e1]
  exact h1
theorem Sa.new {a C : Addr} {cap : Nat} {fs : List (Str × V)} {x : Str} {v : V} {P : HH → Prop} (ok : ClsOk C) (hc : cap + 1 ≤ 1000) (hx : x ∈ fldOf C) (hf : FNo x fs) (U : UpH a (.inst C cap fs) (.inst C (cap + 1) ((x, v) :: fs)) H H') (h : P H') : Sa G n (.ref a) x v H P X := fun A c s ao S vo vv ro rv Q E p xp => by
  obtain rfl := ro.ref_inv
  refine sa_core ok hx S U rv hc (fun es hsh key h1 h3 => Nat.le_trans (putL_len es) (Nat.succ_le_succ h1)) (fun p hp => ?_) fun c' h' l m S' => p H' c' h' _ h l m S'
  rcases List.mem_cons.mp hp with rfl | hp
  · exact .inl rfl
  · exact .inr ⟨hp, hf.ne p hp⟩
/-! # methods -/
noncomputable def Mt (G : Gx) (o : V) (x : Str) (H : HH) (P : Value → List V → Prop) : Prop :=
  ∀ A c s (pl : Sem Bool), Sat G.h₀ c H s.heap → ∀ vo, RV c.fz vo o → ∀ (Q : Value × List Value → Shared → Prop) (E : Value → Shared → Prop), (∀ f first fx, P f fx → RVs c.fz first fx → Q (f, first) s) → wpAny G.M A (getMethod vo x pl) Q E s
theorem form_plain {env : Env} {pos : Pos} {args : List Expr} (hp : plainB args = true) (hl : args.length < 30) : methodCallForm (args.length + ([] : List Keyword).length) (backTo pos (starEach args env)) (backToKw pos (keywordEach [] env)) = true := by
  have e1 : (backTo pos (starEach args env)).all (!·.1) = true := by
    rw [star_plain hp, backTo, List.all_eq_true]
    intro x hx
    obtain ⟨y, hy, rfl⟩ := List.mem_map.mp hx
    obtain ⟨e, _, rfl⟩ := List.mem_map.mp hy
    rfl
  unfold methodCallForm
  rw [e1]
  show (true && true && decide (args.length + 0 + 0 < 30)) = true
  rw [decide_eq_true (by omega)]
  rfl
theorem Ev.meth {o : Expr} {x : Str} {apos pos : Pos} {args : List Expr} {P : V → HH → Prop} (hs : noSuper o = true) (hp : plainB args = true) (hl : args.length < 30) (hpos : (apos.endLine == pos.line) = true)
    (h : Ev G n d loc H o (fun v H₁ => Mt G v x H₁ (fun f fx => KeepV G f ∧ Ea G n d loc H₁ args (fun xs H₂ => Cl G n f (fx ++ xs) H₂ P X) X)) X) : Ev G n d loc H (.Call (.Attribute o x apos) args [] pos) P X := by
  refine Ev.mk fun A c s he a S r Q E p xp => ?_
  rw [arm_eval_Call]
  have hb : attributeBase o x c.env (eval o c.env) = eval o c.env := by cases o <;> first | rfl | cases hs
  rw [hb]
  refine wpAny_bind (h.then he a S r xp fun v y H₁ c₁ h₁ t₁ hp₁ l m S₁ rv => wpAny_bind (wpAny_standAt ?_))
  have hform := form_plain (env := c.env) (pos := pos) hp hl
  unfold methodCall calleeOf methodCallPos
  simp only [hform, hpos, if_true, Bool.not_true, Bool.or_true]
  refine wpAny_bind (wpAny_holding (hp₁ A c₁ _ _ S₁ v rv _ _ fun f first fx hP rf => ?_))
  refine wpAny_bind (wpAny_pure ?_)
  rw [← l.env]
  exact callW (fx := fx) hP.1 hp hP.2 (l.envd he) (a.le l) S₁ (l.rl m r) rf (p.le l m h₁ t₁) (xp.le l h₁ t₁)

noncomputable def mthB (K : Frag) (C : Addr) (x : Str) (f : Addr) : Bool := plainGet K C x && findIn K (.ref C) x == some (some (.ref f)) && isFn K (.ref f) && keepIn K (.ref f)
structure MthOk (C : Addr) (x : Str) (f : Addr) : Prop where
  ok : ∀ P, mthB (KF P) C x f = true
  no : x ∉ fldOf C
theorem Mt.inst {a C f : Addr} {cap : Nat} {fs : List (Str × V)} {x : Str} {P : Value → List V → Prop} (ok : MthOk C x f) (m : (a, .inst C cap fs) ∈ H) (h : KeepV G (.ref f) → P (.ref f) [.ref a]) : Mt G (.ref a) x H P := fun A c s pl S vo ro Q E p => by
  obtain rfl := ro.ref_inv
  obtain ⟨dx, es, k, e1, e2, h1, h2, h3⟩ := S.getInst m
  have e := ok.ok G.w.params
  simp only [mthB, Bool.and_eq_true, beq_iff_eq] at e
  obtain ⟨⟨⟨e3, e4⟩, e5⟩, e6⟩ := e
  exact method_inst (C := C) S.F G.X ⟨e1, rfl, rfl, e2⟩ e3 e4 e5 (getL_no h2 ok.no) (p _ _ _ (h (KeepV.K e6)) (.cons (.ref a) .nil))

/-! # instances made -/
noncomputable def makB (K : Frag) (C f : Addr) : Bool := makesIn K C && findIn K (.ref C) "__init__" == some (some (.ref f)) && isFn K (.ref f) && keepIn K (.ref C)
structure MakOk (C f : Addr) : Prop where
  ok : ∀ P, makB (KF P) C f = true
theorem Cl.make {C f : Addr} {xs : List V} {P : V → HH → Prop} (ok : MakOk C f) (h : ∀ a, Cd G n (.ref f) (.ref a :: xs) ((a, .inst C 0 []) :: H) (fun v H' => v.isNone = true ∧ P (.ref a) H') X) : Cl G (n + 1) (.ref C) xs H P X := Cl.mk fun A c s a S vs hvs Q E p xp => by
  have e := ok.ok G.w.params
  simp only [makB, Bool.and_eq_true, beq_iff_eq] at e
  obtain ⟨⟨⟨e3, e4⟩, e5⟩, e6⟩ := e
  refine call_cls S.F G.X S.N e3 e4 e5 fun x dx h' F' N' hlt hx => ?_
  have hf : ∀ q ∈ [(x, instObj C dx), (dx, dictOf [] 0)], ∀ p ∈ c.ow ++ (c.fr ++ c.fz), p.1 ≠ q.1 := fun q hq p hp => by
    have := hlt p hp
    rcases List.mem_cons.mp hq with rfl | hq
    · exact Nat.ne_of_lt (Nat.lt_trans this hx)
    · rw [List.mem_singleton] at hq
      subst hq
      exact Nat.ne_of_lt this
  have S' := S.newf (cs := [(x, instObj C dx), (dx, dictOf [] 0)]) (.inst (cap := 0) (fs := []) (Nat.le_refl _) (fun e he => nomatch he) (fun p hp => nomatch hp)) F' N' hf (by simpa using Nat.ne_of_gt hx)
  have aU : AOk (A.under (.builtin "type.__call__" ⟨.ref C :: vs, []⟩)) { c with ow := [(x, instObj C dx), (dx, dictOf [] 0)] ++ c.ow } n :=
    ⟨a.fr, a.hd, by have := a.dp; show A.depth + 1 + n < _; omega, by have := a.un; show A.units + 1 + 8 * n < _; omega⟩
  refine (h x).use _ _ { s with heap := h' } aU S' _ (.cons (.ref x) hvs) _ (fun v y H' c' h'' tk hp l m S'' rv => ⟨?_, ?_⟩) fun e y H' c' h'' tk hx l f => xp e y H' c' h'' tk hx (Le.trans (Le.ow c _) l) f
  · have := rv.isNone
    rw [hp.1] at this
    simpa using this
  · exact p (.ref x) (.ref x) H' c' h'' tk hp.2 ((Le.ow c _).trans l) m S'' (.ref x)
end
/-! # frozen from here on -/
section
variable {h₀ h : Heap} {c : Cf} {H : HH}
theorem Sat.frz1 {a : Addr} {o : Obj} {ow : Cells} (S : Sat h₀ c H h) (e : c.ow = (a, o) :: ow) {H' : HH} (R : RH c.fz H' ow) : Sat h₀ { c with ow := ow, fz := (a, o) :: c.fz } H' h := by
  have nd := S.nd
  rw [e] at nd
  simp only [List.map_append, List.map_cons, List.cons_append, List.nodup_cons, List.mem_append, List.mem_map] at nd
  refine { F := S.F, R := R.mono fun _ h => .tail _ h, nd := by rw [List.map_append]; exact nd.2, fo := S.fo, fk := S.fk, fd := S.fd, kind := S.kind, lf := S.lf, N := fun p hp => S.N p ?_, zz := fun p hp q hq => ?_ }
  · rw [e]
    simp only [List.mem_append, List.mem_cons] at hp ⊢
    rcases hp with h | h | h | h <;> simp [h]
  · rcases List.mem_cons.mp hq with rfl | hq
    · intro q
      rcases List.mem_append.mp hp with h | h
      · exact nd.1 (.inl ⟨p, h, q⟩)
      · exact nd.1 (.inr ⟨p, h, q⟩)
    · refine S.zz p ?_ q hq
      rw [e]
      simp only [List.mem_append, List.mem_cons] at hp ⊢
      rcases hp with h | h <;> simp [h]
theorem Sat.frzD {a : Addr} {xs : List (Int × V)} (S : Sat h₀ c ((a, .dict xs) :: H) h) : ∃ c', Le c c' ∧ c'.m = c.m ∧ RV c'.fz (.ref a) (.dct xs) ∧ Sat h₀ c' H h := by
  obtain ⟨env, outer, m, fr, ow, fz⟩ := c
  have R := S.R
  dsimp only at R
  cases R with
  | @cons _ _ cs ow' _ hO hR =>
    cases hO with
    | @dict o _ _ lo i r => exact ⟨⟨env, outer, m, fr, ow', (a, o) :: fz⟩, ⟨rfl, rfl, fun _ h => .tail _ h, FrEq.refl _⟩, rfl, .dct (.head _) lo i (r.mono fun _ h => .tail _ h), S.frz1 rfl hR⟩
end

/-- the names of a tuple target, stored from the left -/
inductive Sto : List Str → List V → Locs → Locs → Prop
  | nil {loc : Locs} : Sto [] [] loc loc
  | cons {x : Str} {ns : List Str} {v : V} {vs : List V} {loc loc₁ loc' : Locs} : Del x loc loc₁ → Sto ns vs ((x, v) :: loc₁) loc' → Sto (x :: ns) (v :: vs) loc loc'
inductive Binds (env : Env) : List (Value → Sem Unit) → List Str → Prop
  | nil : Binds env [] []
  | cons {f : Value → Sem Unit} {x : Str} {fs : List (Value → Sem Unit)} {ns : List Str} : (∀ {M : Model} {A : Around} {E : Value → Shared → Prop} {s : Shared} {v : Value} {Q : Unit → Shared → Prop}, wpAny M A (storeName env x v) Q E s → wpAny M A (f v) Q E s) → Binds env fs ns → Binds env (f :: fs) (x :: ns)
noncomputable def namesOf : List Expr → Option (List Str)
  | [] => some []
  | .Name x _ :: r => (namesOf r).map (x :: ·)
  | _ => none
theorem binds_each {env : Env} : ∀ {es : List Expr} {ns : List Str}, namesOf es = some ns → Binds env ((assignEach es env).map (·.2)) ns ∧ (assignEach es env).length = ns.length ∧ (assignEach es env).findIdx? (·.1) = none
  | [], ns, h => by cases h; exact ⟨.nil, rfl, rfl⟩
  | e :: r, ns, h => by
    cases e <;> try (cases h; done)
    rename_i x pos
    simp only [namesOf, Option.map_eq_some_iff] at h
    obtain ⟨ns', h', rfl⟩ := h
    obtain ⟨b, l, f⟩ := binds_each (env := env) h'
    refine ⟨.cons (fun h => assign_Name h) b, by simp [assignEach, l], ?_⟩
    simp only [assignEach, List.findIdx?_cons, f]
    rfl
theorem binds_names {env : Env} : ∀ ns : List Str, Binds env (ns.map fun n => bindName env n) ns
  | [] => .nil
  | x :: ns => .cons (fun h => wpAny_bindName h) (binds_names ns)

section
variable {G : Gx} {n : Nat} {d : FD} {loc : Locs} {H H' : HH} {X : Str → HH → Prop}

theorem Ev.frz {e : Expr} {P : V → HH → Prop} (h : Ev G n d loc H e (fun v H₁ => ∃ a xs H₂, v = .ref a ∧ H₁.Perm ((a, .dict xs) :: H₂) ∧ P (.dct xs) H₂) X) : Ev G n d loc H e P X := by
  refine Ev.mk fun A c s he a S r Q E p xp => h.then he a S r xp fun v x H₁ c₁ h₁ t₁ hp l m S₁ rv => ?_
  obtain ⟨b, xs, H₂, rfl, pm, hP⟩ := hp
  obtain rfl := rv.ref_inv
  obtain ⟨c₂, l₂, m₂, z₂, S₂⟩ := S₁.perm pm
  obtain ⟨c₃, l₃, m₃, rv₃, S₃⟩ := S₂.frzD
  exact p _ _ H₂ c₃ h₁ t₁ hP ((l.trans l₂).trans l₃) (m₃.trans (m₂.trans m)) S₃ rv₃
theorem sto_run {A : Around} {E : Value → Shared → Prop} {Q : Flow → Shared → Prop} : ∀ {ns : List Str} {xs : List V} {vs : List Value} {fs : List (Value → Sem Unit)} {loc loc' : Locs} {c : Cf} {s : Shared}, Binds c.env fs ns → Sto ns xs loc loc' → (∀ x ∈ ns, d.isL x = true) → c.env = d.env c.env.locals → Sat G.h₀ c H s.heap → RL c.fz c.m loc →
    RVs c.fz vs xs → (∀ c' h' tk, Le c c' → Sat G.h₀ c' H h' → RL c'.fz c'.m loc' → Q .next { s with heap := h', toks := tk }) → wpAny G.M A (assignInOrder fs vs) (fun _ => Q .next) E s
  | _, _, _, _, _, _, c, s, .nil, .nil, _, he, S, r, rv, k => by
    cases rv
    show wpAny G.M A (pure ()) _ _ _
    exact wpAny_pure (k c s.heap s.toks (Le.refl c) S r)
  | _, _, _, _, loc, loc', c, s, .cons hb bs, .cons hd st, hk, he, S, r, rv, k => by
    cases rv with
    | @cons v _ vs _ rv rvs =>
      unfold assignInOrder
      refine wpAny_bind (wpAny_holding (hb (storeN (Q := fun _ s' => wpAny G.M A (assignInOrder _ vs) (fun _ => Q .next) E s') he S r (hk _ (.head _)) hd rv fun c' h' tk l S' r' => ?_)))
      refine sto_run (l.env ▸ bs) st (fun x hx => hk x (.tail _ hx)) (l.envd he) S' r' (rvs.mono l.fz) fun c'' h'' tk' l' S'' r'' => k c'' h'' tk' (l.trans l') S'' r''

theorem RV.tup_inv {c : Cf} {s : Shared} (S : Sat G.h₀ c H s.heap) {v : Value} {xs : List V} (r : RV c.fz v (.tup xs)) : ∃ a vs, v = .ref a ∧ IsTup s.heap a vs.toArray ∧ RVs c.fz vs xs :=
  let ⟨a, o, vs, e, ho, i, r⟩ := S.getTup r; ⟨a, vs, e, i.isTup ho, r⟩
theorem extBut_kept {h h' : Heap} (x : Heap.ExtBut h.objs.size h h') : ∀ b o, h.get? b = some o → h'.get? b = some o := fun b o e => x b o (Nat.ne_of_lt (Heap.lt_size e)) e

theorem E1.asgT {elts : List Expr} {k : Nat} {tpos pos : Pos} {value : Expr} {ns : List Str} {Pn : Locs → HH → Prop} {Pr : V → HH → Prop} (hn : namesOf elts = some ns) (hl : ns.all d.isL = true) (hv : noComp value = true)
    (hw : ∀ L, swappedStores [.Tuple elts k tpos] value (d.env L) = pure none) (h : Ev G n d loc H value (fun v H₁ => ∃ xs loc', v = .tup xs ∧ Sto ns xs loc loc' ∧ Pn loc' H₁) X) : E1 G n d loc H (.Assign [.Tuple elts k tpos] value pos) Pn Pr X := by
  refine E1.mk fun A c s he a S r Q E p xp => Assign_Tuple (h.then he a S r xp fun v x H₁ c₁ h₁ t₁ hp l m S₁ rv => ?_) (by unfold swapsWithSole; exact swaps_no hv) (by rw [he]; exact hw _)
  obtain ⟨xs, loc', rfl, st, hP⟩ := hp
  obtain ⟨b, vs, rfl, ht, rvs⟩ := RV.tup_inv (s := { s with heap := h₁, toks := t₁ }) S₁ rv
  obtain ⟨bs, e1, e2⟩ := binds_each (env := c.env) hn
  have hlen : ∀ {ns : List Str} {xs : List V} {loc loc' : Locs}, Sto ns xs loc loc' → ns.length = xs.length := fun st => by
    induction st with
    | nil => rfl
    | cons _ _ ih => rw [List.length_cons, List.length_cons, ih]
  refine assign_Tuple_tuple a.hd ht (by rw [e1, hlen st, List.size_toArray, rvs.length]) e2 fun h' hx => ?_
  refine sto_run (l.env.symm ▸ bs) st (fun x hx => List.all_eq_true.mp hl x hx) (l.envd he) (S₁.kept (extBut_kept hx)) (l.rl m r) rvs fun c' h'' tk l' S' r' => ?_
  exact p.1 loc' H₁ c' h'' tk hP (l.trans l') S' r'
theorem E1.asgTS {elts : List Expr} {k : Nat} {tpos pos : Pos} {value : Expr} {ns : List Str} {Pn : Locs → HH → Prop} {Pr : V → HH → Prop} (hl : ns.all d.isL = true) (hv : noComp value = true)
    (hw : ∀ L, swappedStores [.Tuple elts k tpos] value (d.env L) = pure (some ns)) (h : Ev G n d loc H value (fun v H₁ => ∃ xs loc', v = .tup xs ∧ Sto ns.reverse xs.reverse loc loc' ∧ Pn loc' H₁) X) : E1 G n d loc H (.Assign [.Tuple elts k tpos] value pos) Pn Pr X := by
  refine E1.mk fun A c s he a S r Q E p xp => Assign_Tuple_swapped (names := ns) (h.then he a S r xp fun v x H₁ c₁ h₁ t₁ hp l m S₁ rv => ?_) (by unfold swapsWithSole; exact swaps_no hv) (by rw [he]; exact hw _)
  obtain ⟨xs, loc', rfl, st, hP⟩ := hp
  obtain ⟨b, vs, rfl, ht, rvs⟩ := RV.tup_inv (s := { s with heap := h₁, toks := t₁ }) S₁ rv
  have hlen : ∀ {ns : List Str} {xs : List V} {loc loc' : Locs}, Sto ns xs loc loc' → ns.length = xs.length := fun st => by
    induction st with
    | nil => rfl
    | cons _ _ ih => rw [List.length_cons, List.length_cons, ih]
  have hrev : ∀ {vs : List Value} {xs : List V}, RVs c₁.fz vs xs → RVs c₁.fz vs.reverse xs.reverse := fun r => by
    have hap : ∀ {vs : List Value} {xs : List V}, RVs c₁.fz vs xs → ∀ {us : List Value} {ys : List V}, RVs c₁.fz us ys → RVs c₁.fz (vs.reverseAux us) (xs.reverseAux ys) := by
      intro vs
      induction vs with
      | nil => intro xs r us ys r'; cases r; exact r'
      | cons v vs ih => intro xs r us ys r'; cases r with | cons a b => exact ih b (.cons a r')
    exact hap r .nil
  have hl' := hlen st
  rw [List.length_reverse, List.length_reverse] at hl'
  have key := unpackItems_tuple (prog := G.prog) (w := G.w) (A := A) (E := E) (s := { s with heap := h₁, toks := t₁ }) (t := b) (items := vs.toArray)
    (Q := fun items s₂ => wpAny G.M A (assignInOrder (ns.reverse.map fun n => bindName c.env n) items.reverse) (fun _ => Q .next) E s₂) a.hd ht (fun h' hx => ?_)
  · rw [List.size_toArray, rvs.length, ← hl'] at key
    exact key
  · refine sto_run (l.env.symm ▸ binds_names ns.reverse) st (fun x hx => List.all_eq_true.mp hl x (List.mem_reverse.mp hx)) (l.envd he) (S₁.kept (extBut_kept hx)) (l.rl m r) (hrev rvs) fun c' h'' tk l' S' r' => ?_
    exact p.1 loc' H₁ c' h'' tk hP (l.trans l') S' r'
end
noncomputable def isIt (o : Obj) : Bool := match o.cls with
  | .type t => t == "list_iterator" || t == "tuple_iterator" || t == "dict_keyiterator" || t == "range_iterator"
  | _ => false
noncomputable def offB (I : Addr) (p : Addr × Obj) : Bool := !(p.1 == I)
theorem mem_off {z : Cells} {I : Addr} {p : Addr × Obj} (m : p ∈ z) (h : p.1 ≠ I) : p ∈ z.filter (offB I) := List.mem_filter.mpr ⟨m, by simp [offB, h]⟩
theorem of_off {z : Cells} {I : Addr} {p : Addr × Obj} (m : p ∈ z.filter (offB I)) : p ∈ z ∧ p.1 ≠ I := by
  obtain ⟨a, b⟩ := List.mem_filter.mp m
  exact ⟨a, by simpa [offB] using b⟩
theorem ne_it {z : Cells} {I : Addr} (hI : ∀ p ∈ z, p.1 = I → isIt p.2 = true) {a : Addr} {o : Obj} (m : (a, o) ∈ z) (h : isIt o = false) : (a, o) ∈ z.filter (offB I) :=
  mem_off m fun e => by have := hI _ m e; rw [h] at this; cases this
theorem notIt {o : Obj} {t : String} (h : o.cls = .type t) (ht : (t == "list_iterator" || t == "tuple_iterator" || t == "dict_keyiterator" || t == "range_iterator") = false := by decide) : isIt o = false := by
  unfold isIt; rw [h]; exact ht
theorem IsDc.cls {o : Obj} {kvs : List (Int × Value)} (i : IsDc o kvs) (p : Program) (w : World) : o.cls = .type "dict" := let ⟨_, _, h, _⟩ := i p w; h.1
section
variable {z : Cells} {I : Addr} (hI : ∀ p ∈ z, p.1 = I → isIt p.2 = true) (pr : Program) (w : World)
include hI pr w
mutual
theorem RV.strip : ∀ {v : Value} {x : V}, RV z v x → RV (z.filter (offB I)) v x
  | _, _, .none => .none
  | _, _, .bool b => .bool b
  | _, _, .int i t => .int i t
  | _, _, .str s t => .str s t
  | _, _, .val v => .val v
  | _, _, .ref a => .ref a
  | _, _, .tup m i h => .tup (ne_it hI m (notIt i.1)) i (RVs.strip h)
  | _, _, .lst m i h => .lst (ne_it hI m (by obtain ⟨n, rfl⟩ := i; rfl)) i (RVs.strip h)
  | _, _, .obj m l c h => .obj (ne_it hI m (by rcases c with c | c | c <;> exact notIt c)) l c h
  | _, _, .dct m l i h => .dct (ne_it hI m (notIt (i.cls pr w))) l i (RE.strip h)
theorem RVs.strip : ∀ {vs : List Value} {xs : List V}, RVs z vs xs → RVs (z.filter (offB I)) vs xs
  | _, _, .nil => .nil
  | _, _, .cons h hs => .cons (RV.strip h) (RVs.strip hs)
theorem RE.strip : ∀ {es : List (Int × Value)} {xs : List (Int × V)}, RE z es xs → RE (z.filter (offB I)) es xs
  | _, _, .nil => .nil
  | _, _, .cons h hs => .cons (RV.strip h) (RE.strip hs)
end
theorem RO.strip {a : Addr} {o : O} {cs : Cells} (h : RO z a o cs) : RO (z.filter (offB I)) a o cs := by
  cases h with
  | inst h1 h2 h3 => exact .inst h1 h2 fun p hp => let ⟨v, e, r⟩ := h3 p hp; ⟨v, e, r.strip hI pr w⟩
  | list i h => exact .list i (h.strip hI pr w)
  | dict l i h => exact .dict l i (h.strip hI pr w)
  | exc0 => exact .exc0
  | exc1 h0 h1 h2 h3 => exact .exc1 h0 h1 h2 fun p hp => let ⟨v, e, r⟩ := h3 p hp; ⟨v, e, r.strip hI pr w⟩
theorem RH.strip : ∀ {H : HH} {ow : Cells}, RH z H ow → RH (z.filter (offB I)) H ow
  | _, _, .nil => .nil
  | _, _, .cons h hs => .cons (h.strip hI pr w) (RH.strip hs)
theorem RL.strip {m : Str → Option Value} {loc : Locs} (h : RL z m loc) : RL (z.filter (offB I)) m loc := fun p hp => let ⟨v, e, r⟩ := h p hp; ⟨v, e, r.strip hI pr w⟩
end

section
variable {h₀ h h' : Heap} {c : Cf} {H : HH}
theorem Sat.strip (S : Sat h₀ c H h) {I : Addr} (hI : ∀ p ∈ c.fz, p.1 = I → isIt p.2 = true) (pr : Program) (w : World) : Sat h₀ { c with fz := c.fz.filter (offB I) } H h :=
  { F := S.F, R := S.R.strip hI pr w, nd := S.nd, fo := S.fo, fk := S.fk, fd := S.fd, kind := S.kind, lf := S.lf
    zz := fun p hp q hq => S.zz p hp q (of_off hq).1
    N := fun p hp => S.N p (by
      simp only [List.mem_append] at hp ⊢
      rcases hp with h | h | h
      · exact .inl h
      · exact .inr (.inl h)
      · exact .inr (.inr (of_off h).1)) }
/-- only a cell that is none of ours changed -/
theorem Sat.off (S : Sat h₀ c H h) {I : Addr} (hk : ∀ b o, b ∉ [I] → h.get? b = some o → h'.get? b = some o) (hL : I ≠ c.env.locals) (h0 : h₀.get? I = none) (hn : ∀ p ∈ c.ow ++ (c.fr ++ c.fz), p.1 ≠ I) : Sat h₀ c H h' :=
  S.grow (kmk_fr S.F hk hL h0) (kmk_news S.N hk hn)
end

section
variable {G : Gx} {n : Nat} {d : FD} {loc : Locs} {H H' : HH} {X : Str → HH → Prop}

/-- what can be walked through -/
noncomputable def Itb (G : Gx) (v : V) (H : HH) (xs : List V) : Prop :=
  ∀ A c s, A.handled = none → Sat G.h₀ c H s.heap → ∀ vo, RV c.fz vo v → ∃ (io : Obj) (fp : List Addr) (P : Nat → Value → Prop) (St : Nat → Heap → Prop),
    (∀ (Q : Value → Shared → Prop) E, Q (.ref s.heap.objs.size) { s with heap := s.heap.push io } → wpAny G.M A (pyIter vo) Q E s) ∧ Walks G.prog G.w A s.heap.objs.size fp [s.heap.objs.size] xs.length P St ∧ St 0 (s.heap.push io) ∧
    (∀ b ∈ fp, b = s.heap.objs.size ∨ ∃ o, (b, o) ∈ c.fz) ∧ (∀ i v, P i v → ∃ x, xs[i]? = some x ∧ RV c.fz v x) ∧ (∀ i h, St i h → ∃ o, h.get? s.heap.objs.size = some o ∧ isIt o = true)

theorem E1.for {x : Str} {tpos pos : Pos} {iter : Expr} {body : List Stmt} {Pn : Locs → HH → Prop} {Pr : V → HH → Prop} (hk : d.isL x = true) (hf : ∀ L v, foldedSetIterable iter (d.env L) v = pure v)
    (h : Ev G n d loc H iter (fun v H₁ => ∃ (xs : List V) (Inv : Nat → Locs → HH → Prop), Itb G v H₁ xs ∧ Inv 0 loc H₁ ∧
      (∀ i y loc' H', xs[i]? = some y → Inv i loc' H' → ∃ loc'', Del x loc' loc'' ∧ Es G n d ((x, y) :: loc'') H' body (fun loc₂ H₂ => Inv (i + 1) loc₂ H₂) Pr (fun _ _ => False)) ∧
      ∀ loc' H', Inv xs.length loc' H' → Pn loc' H') X) : E1 G n d loc H (.For (.Name x tpos) iter body [] pos) Pn Pr X := by
  refine E1.mk fun A c₀ s₀ he₀ a₀ S₀ r₀ Q E p₀ xp₀ => wpAny_For (h.then he₀ a₀ S₀ r₀ xp₀ fun vo y H₁ c h t hp l₀ m₀ S rv => ?_) (by rw [he₀]; exact hf _)
  obtain ⟨xs, Inv, hit, hinv, hstep, hend⟩ := hp
  have he := l₀.envd he₀
  have a := a₀.le l₀
  have r := l₀.rl m₀ r₀
  have p := p₀.le l₀ h t
  rw [← l₀.env]
  obtain ⟨io, fp, P, St, iter, W, st0, hfp, hP, hSt⟩ := hit A c { s₀ with heap := h, toks := t } a.hd S vo rv
  refine iter _ _ ?_
  generalize hIe : ({ s₀ with heap := h, toks := t } : Shared).heap.objs.size = I at *
  replace hIe : h.objs.size = I := hIe
  have hL : I ≠ c.env.locals := by rw [← hIe]; exact Nat.ne_of_gt S.F.ns.lt
  have h0 : G.h₀.get? I = none := by
    cases q : G.h₀.get? I with
    | none => rfl
    | some o => exact absurd (Heap.lt_size (S.F.keep _ _ q)) (by rw [hIe]; exact Nat.lt_irrefl _)
  have hnI : ∀ q ∈ c.ow ++ (c.fr ++ c.fz), q.1 ≠ I := fun q hq => by rw [← hIe]; exact S.fresh q hq
  refine codeAny_forLoop (fun k s' => ∃ i loc' H' c' h' tk, s' = { s₀ with heap := h', toks := tk } ∧ i ≤ xs.length ∧ k = xs.length + 1 - i ∧ St i h' ∧ Le c c' ∧ Sat G.h₀ c' H' h' ∧ RL c'.fz c'.m loc' ∧ Inv i loc' H' ∧ ∀ q ∈ c'.ow ++ (c'.fr ++ c'.fz), q.1 ≠ I) ?_
    (xs.length + 1) ⟨0, loc, H₁, c, _, t, rfl, Nat.zero_le _, rfl, st0, Le.refl c, S.kept fun b o e => Heap.get?_push_of_some _ e, r, hinv, hnI⟩
  rintro k s' ⟨i, loc', H', c', h', tk, rfl, hi, rfl, hst, l, S', r', hv, hn⟩
  have hL' : I ≠ c'.env.locals := by rw [l.env]; exact hL
  by_cases hlt : i < xs.length
  · refine W.item i _ _ _ hlt hst fun v h₁ tk₁ hPv hst₁ hk₁ => ?_
    have S₁ := S'.off hk₁ hL' h0 hn
    obtain ⟨x₁, hx₁, rx₁⟩ := hP i v hPv
    obtain ⟨oI, eI, itI⟩ := hSt _ _ hst₁
    obtain ⟨loc'', hdel, hbody⟩ := hstep i x₁ loc' H' hx₁ hv
    have S₂ : Sat G.h₀ { c' with fz := (I, oI) :: c'.fz } H' h₁ := S₁.newzf S₁.F (fun q hq => by
      rcases List.mem_cons.mp hq with rfl | hq
      · exact ⟨eI, hL', h0⟩
      · exact S₁.N q hq) hn
    have l₂ : Le c' { c' with fz := (I, oI) :: c'.fz } := Le.newz c' (I, oI)
    refine assign_Name ?_
    rw [← l.env, ← l₂.env]
    refine storeN (d := d) (Q := fun _ s₂ => wpAny G.M A (execs body _) _ _ s₂) (l₂.envd (l.envd he)) S₂ (l₂.rl rfl r') hk hdel ((rx₁.mono l.fz).mono l₂.fz) fun c₃ h₃ t₃ l₃ S₃ r₃ => ?_
    rw [← l₃.env]
    refine hbody.use A c₃ { s₀ with heap := h₃, toks := t₃ } (l₃.envd (l₂.envd (l.envd he))) (((a.le l).le l₂).le l₃) S₃ r₃ _ _ ⟨fun loc₄ H₄ c₄ h₄ t₄ hv₄ l₄ S₄ r₄ => ?_, fun v₄ x₄ H₄ c₄ h₄ t₄ hp₄ l₄ S₄ rv₄ => ?_⟩ fun _ _ _ _ _ _ hx _ _ => hx.elim
    · have mI : (I, oI) ∈ c₄.fz := l₄.fz _ (l₃.fz _ (.head _))
      have hIs : ∀ q ∈ c₄.fz, q.1 = I → isIt q.2 = true := fun q hq e => by
        have e1 := (S₄.N q (List.mem_append_right _ (List.mem_append_right _ hq))).1
        have e2 := (S₄.N _ (List.mem_append_right _ (List.mem_append_right _ mI))).1
        rw [e, e2] at e1
        cases e1
        exact itI
      have lz : Le c c₄ := ((l.trans l₂).trans l₃).trans l₄
      refine ⟨xs.length + 1 - (i + 1), by omega, i + 1, loc₄, H₄, { c₄ with fz := c₄.fz.filter (offB I) }, h₄, t₄, rfl, hlt, rfl, W.frame _ _ _ hst₁ fun b hb o e => ?_, ⟨lz.env, lz.outer, fun q hq => mem_off (lz.fz q hq) (hnI q (by simp [hq])), lz.fr⟩, S₄.strip hIs G.prog G.w, r₄.strip hIs G.prog G.w, hv₄, fun q hq => ?_⟩
      · rcases hfp b hb with rfl | ⟨o', ho'⟩
        · rw [eI] at e
          cases e
          exact (S₄.N _ (List.mem_append_right _ (List.mem_append_right _ mI))).1
        · have e1 := (S₁.N _ (List.mem_append_right _ (List.mem_append_right _ (l.fz _ ho')))).1
          rw [e] at e1
          cases e1
          exact (S₄.N _ (List.mem_append_right _ (List.mem_append_right _ (lz.fz _ ho')))).1
      · simp only [List.mem_append] at hq
        rcases hq with h | h | h
        · exact S₄.zz q (List.mem_append_left _ h) _ mI
        · exact S₄.zz q (List.mem_append_right _ h) _ mI
        · exact (of_off h).2
    · exact p.2 v₄ x₄ H₄ c₄ h₄ t₄ hp₄ (((l.trans l₂).trans l₃).trans l₄) S₄ rv₄
  · have hin : i = xs.length := by omega
    subst hin
    refine W.done _ _ _ hst fun h₁ tk₁ hk₁ => wpAny_execs_nil ?_
    exact p.1 loc' H' c' h₁ tk₁ (hend _ _ hv) l (S'.off hk₁ hL' h0 hn) r'

/-! ## what is walked -/
theorem Itb.lst {xs : List V} : Itb G (.lst xs) H xs := fun A c s hh S vo ro => by
  cases ro with
  | @lst a o vs _ m i r =>
    have ho := (S.N _ (List.mem_append_right _ (List.mem_append_right _ m))).1
    have hl := i.isList ho
    have hne : a ≠ s.heap.objs.size := Nat.ne_of_lt (Heap.lt_size ho)
    have W := Walks.list (prog := G.prog) (w := G.w) hh s.heap.objs.size a hne vs.toArray
    have hsz : vs.toArray.size = xs.length := by rw [List.size_toArray]; exact r.length
    rw [hsz] at W
    refine ⟨_, _, _, _, fun Q E h => wpAny_pyIter_list hl h, W, ⟨⟨_, Heap.get?_push_size _ rfl, rfl, rfl⟩, hl.push _⟩, fun b hb => ?_, fun i v hP => ?_, fun i h hs => ?_⟩
    · rcases List.mem_cons.mp hb with rfl | hb
      · exact .inl rfl
      · rw [List.mem_singleton] at hb
        subst hb
        exact .inr ⟨o, m⟩
    · have hlt : i < vs.length := by
        rcases Nat.lt_or_ge i vs.length with q | q
        · exact q
        · rw [List.getElem?_toArray, List.getElem?_eq_none q] at hP; cases hP
      have hlt' : i < xs.length := by rw [← r.length]; exact hlt
      obtain ⟨v', e, rv⟩ := r.at (k := i) (List.getElem?_eq_getElem hlt')
      rw [List.getElem?_toArray, e] at hP
      cases hP
      exact ⟨_, List.getElem?_eq_getElem hlt', rv⟩
    · obtain ⟨⟨o', e, hc, _⟩, _⟩ := hs
      exact ⟨o', e, by unfold isIt; rw [hc]; rfl⟩
theorem Itb.tup {xs : List V} : Itb G (.tup xs) H xs := fun A c s hh S vo ro => by
  cases ro with
  | @tup a o vs _ m i r =>
    have ho := (S.N _ (List.mem_append_right _ (List.mem_append_right _ m))).1
    obtain ⟨hc, no, hd⟩ := i
    have hl : s.heap.IsTuple a vs.toArray := ⟨o, ho, hc, no, hd⟩
    have hne : a ≠ s.heap.objs.size := Nat.ne_of_lt (Heap.lt_size ho)
    have W := Walks.tuple (prog := G.prog) (w := G.w) hh s.heap.objs.size a hne vs.toArray
    have hsz : vs.toArray.size = xs.length := by rw [List.size_toArray]; exact r.length
    rw [hsz] at W
    refine ⟨_, _, _, _, fun Q E h => wpAny_pyIter_tuple hl h, W, ⟨⟨_, Heap.get?_push_size _ rfl, rfl, rfl⟩, hl.extBut (b := s.heap.objs.size) (fun b o hb e => Heap.get?_push_of_some _ e) hne⟩, fun b hb => ?_, fun i v hP => ?_, fun i h hs => ?_⟩
    · rcases List.mem_cons.mp hb with rfl | hb
      · exact .inl rfl
      · rw [List.mem_singleton] at hb
        subst hb
        exact .inr ⟨o, m⟩
    · have hlt : i < vs.length := by
        rcases Nat.lt_or_ge i vs.length with q | q
        · exact q
        · rw [List.getElem?_toArray, List.getElem?_eq_none q] at hP; cases hP
      have hlt' : i < xs.length := by rw [← r.length]; exact hlt
      obtain ⟨v', e, rv⟩ := r.at (k := i) (List.getElem?_eq_getElem hlt')
      rw [List.getElem?_toArray, e] at hP
      cases hP
      exact ⟨_, List.getElem?_eq_getElem hlt', rv⟩
    · obtain ⟨⟨o', e, hc, _⟩, _⟩ := hs
      exact ⟨o', e, by unfold isIt; rw [hc]; rfl⟩
theorem RE.key_at {z : Cells} : ∀ {kvs : List (Int × Value)} {xs : List (Int × V)}, RE z kvs xs → ∀ {i : Nat} {k : Int} {v : Value}, kvs[i]? = some (k, v) → (xs.map (fun p => V.int p.1))[i]? = some (.int k)
  | _, _, .nil, i, k, v, h => by simp at h
  | _, _, .cons h hs, 0, k, v, e => by
    rw [List.getElem?_cons_zero] at e
    cases e
    rfl
  | _, _, .cons h hs, i + 1, k, v, e => by
    rw [List.getElem?_cons_succ] at e
    rw [List.map_cons, List.getElem?_cons_succ]
    exact hs.key_at e
theorem Itb.dct {xs : List (Int × V)} : Itb G (.dct xs) H (xs.map fun p => .int p.1) := fun A c s hh S vo ro => by
  cases ro with
  | @dct a o kvs _ m lo i r =>
    have ho := (S.N _ (List.mem_append_right _ (List.mem_append_right _ m))).1
    obtain ⟨es, ep, rr⟩ := i G.prog G.w
    have hl : s.heap.DictAt (intKind G.prog G.w) a kvs ep := ⟨o, es, ho, rr⟩
    have hne : a ≠ s.heap.objs.size := Nat.ne_of_lt (Heap.lt_size ho)
    have W := Walks.dictKeys (prog := G.prog) (w := G.w) (knd := intKind G.prog G.w) hh s.heap.objs.size a hne kvs ep
    have hlen : kvs.length = (xs.map fun p => V.int p.1).length := by rw [List.length_map, r.length]
    rw [hlen] at W
    refine ⟨_, _, _, _, fun Q E h => wpAny_pyIter_dict lo hl h, W, ⟨⟨_, Heap.get?_push_size _ rfl, rfl, by rw [hlen]; rfl⟩, hl.at' fun o e => Heap.get?_push_of_some _ e⟩, fun b hb => ?_, fun i v hP => ?_, fun i h hs => ?_⟩
    · rcases List.mem_cons.mp hb with rfl | hb
      · exact .inl rfl
      · rw [List.mem_singleton] at hb
        subst hb
        exact .inr ⟨o, m⟩
    · obtain ⟨k, x, e, hk⟩ := hP
      obtain ⟨t, rfl⟩ := Value.isInt_shape (show Value.isInt k v = true from hk)
      exact ⟨_, r.key_at e, .int k t⟩
    · obtain ⟨⟨o', e, hc, _⟩, _⟩ := hs
      exact ⟨o', e, by unfold isIt; rw [hc]; rfl⟩
end
section
variable {G : Gx} {n : Nat} {d : FD} {loc : Locs} {H H' : HH} {X : Str → HH → Prop}

theorem Cl.mk1 {f : Value} {x : V} {P : V → HH → Prop} (h : ∀ A c s, AOk A c n → Sat G.h₀ c H s.heap → ∀ v, RV c.fz v x → ∀ Q E, EPost G c s P Q → XPost G c s X E → wpAny G.M A (call f [v]) Q E s) : Cl G n f [x] H P X :=
  Cl.mk fun A c s a S vs hvs Q E p xp => by
    cases hvs with
    | cons r rn => cases rn; exact h A c s a S _ r Q E p xp
theorem Cl.mk2 {f : Value} {x y : V} {P : V → HH → Prop} (h : ∀ A c s, AOk A c n → Sat G.h₀ c H s.heap → ∀ v u, RV c.fz v x → RV c.fz u y → ∀ Q E, EPost G c s P Q → XPost G c s X E → wpAny G.M A (call f [v, u]) Q E s) : Cl G n f [x, y] H P X :=
  Cl.mk fun A c s a S vs hvs Q E p xp => by
    cases hvs with
    | cons r rn => cases rn with | cons r' rn => cases rn; exact h A c s a S _ _ r r' Q E p xp
theorem Cl.mk3 {f : Value} {x y z : V} {P : V → HH → Prop} (h : ∀ A c s, AOk A c n → Sat G.h₀ c H s.heap → ∀ v u w, RV c.fz v x → RV c.fz u y → RV c.fz w z → ∀ Q E, EPost G c s P Q → XPost G c s X E → wpAny G.M A (call f [v, u, w]) Q E s) : Cl G n f [x, y, z] H P X :=
  Cl.mk fun A c s a S vs hvs Q E p xp => by
    cases hvs with
    | cons r rn => cases rn with | cons r' rn => cases rn with | cons r'' rn => cases rn; exact h A c s a S _ _ _ r r' r'' Q E p xp

/-! # dict.get -/
noncomputable def ogetD (o : Option V) (x : V) : V := match o with
  | some v => v
  | none => x
theorem RE.getD {z : Cells} {kvs : List (Int × Value)} {xs : List (Int × V)} (r : RE z kvs xs) {k : Int} {v : Value} {x : V} (h : RV z v x) : RV z ((dget kvs k).getD v) (ogetD (dget xs k) x) := by
  cases e : dget xs k with
  | none => rw [r.get0 e]; exact h
  | some y =>
    obtain ⟨u, e', ru⟩ := r.get e
    rw [e']
    exact ru
theorem Sat.memDict {h₀ h : Heap} {c : Cf} (S : Sat h₀ c H h) {a : Addr} {xs : List (Int × V)} (m : (a, .dict xs) ∈ H) : ∃ o es, (a, o) ∈ c.ow ++ (c.fr ++ c.fz) ∧ (a == sysModules) = false ∧ IsDc o es ∧ RE c.fz es xs := by
  obtain ⟨cs, hO, k⟩ := RH.at m S.R
  cases hO with
  | dict l i r => exact ⟨_, _, List.mem_append_left _ (k _ (.head _)), l, i, r⟩
theorem Cl.get2 {a : Addr} {xs : List (Int × V)} {k : Int} {x : V} {P : V → HH → Prop} (m : (a, .dict xs) ∈ H) (h : P (ogetD (dget xs k) x) H) : Cl G n (.builtin "dict.get") [.ref a, .int k, x] H P X := Cl.mk3 fun A c s ao S v u w r r' r'' Q E p xp => by
  obtain rfl := r.ref_inv
  obtain ⟨t, rfl⟩ := r'.int_inv
  obtain ⟨o, es, mo, lo, i, re⟩ := S.memDict m
  exact kdg_get2 (knd := intKind G.prog G.w) S.N mo (i G.prog G.w) lo (intKind_is _ _ _ _) _ (valueAt_dget es k) (p.now h S (re.getD r''))
theorem Cl.get1 {a : Addr} {xs : List (Int × V)} {k : Int} {P : V → HH → Prop} (m : (a, .dict xs) ∈ H) (h : P (ogetD (dget xs k) .none) H) : Cl G n (.builtin "dict.get") [.ref a, .int k] H P X := Cl.mk2 fun A c s ao S v u r r' Q E p xp => by
  obtain rfl := r.ref_inv
  obtain ⟨t, rfl⟩ := r'.int_inv
  obtain ⟨o, es, mo, lo, i, re⟩ := S.memDict m
  exact kdg_get1 (knd := intKind G.prog G.w) S.N mo (i G.prog G.w) lo (intKind_is _ _ _ _) _ (valueAt_dget es k) (p.now h S (re.getD .none))
theorem Cl.get2F {xs : List (Int × V)} {k : Int} {x : V} {P : V → HH → Prop} (h : P (ogetD (dget xs k) x) H) : Cl G n (.builtin "dict.get") [.dct xs, .int k, x] H P X := Cl.mk3 fun A c s ao S v u w r r' r'' Q E p xp => by
  obtain ⟨t, rfl⟩ := r'.int_inv
  cases r with
  | @dct a o es _ mo lo i re => exact kdg_get2 (knd := intKind G.prog G.w) S.N (List.mem_append_right _ (List.mem_append_right _ mo)) (i G.prog G.w) lo (intKind_is _ _ _ _) _ (valueAt_dget es k) (p.now h S (re.getD r''))
theorem Mt.dget {a : Addr} {xs : List (Int × V)} {P : Value → List V → Prop} (m : (a, .dict xs) ∈ H) (h : P (.builtin "dict.get") [.ref a]) : Mt G (.ref a) "get" H P := fun A c s pl S vo ro Q E p => by
  obtain rfl := ro.ref_inv
  obtain ⟨o, es, mo, lo, i, re⟩ := S.memDict m
  exact kdg_method (knd := intKind G.prog G.w) S.N mo (i G.prog G.w) (p _ _ _ h (.cons (.ref a) .nil))
theorem Mt.dgetF {xs : List (Int × V)} {P : Value → List V → Prop} (h : P (.builtin "dict.get") [.dct xs]) : Mt G (.dct xs) "get" H P := fun A c s pl S vo ro Q E p => by
  cases ro with
  | @dct a o es _ mo lo i re => exact kdg_method (knd := intKind G.prog G.w) S.N (List.mem_append_right _ (List.mem_append_right _ mo)) (i G.prog G.w) (p _ _ _ h (.cons (.dct mo lo i re) .nil))
theorem Sb.dct {xs : List (Int × V)} {k : Int} {x : V} {P : V → HH → Prop} (hx : Mine.dget xs k = some x) (h : P x H) : Sb G n (.dct xs) (.int k) H P X := fun value slice A c s ao S vo vi ro ri Q E p xp => by
  obtain ⟨u, rfl⟩ := ri.int_inv
  cases ro with
  | @dct a o es _ mo lo i r =>
    have ho := (S.N _ (List.mem_append_right _ (List.mem_append_right _ mo))).1
    obtain ⟨v, hv, rv⟩ := r.get hx
    obtain ⟨ops, e⟩ := sub_ops slice (.ref a) (.int k u)
    have hD := i.dictOf ho G.prog G.w
    exact tail_any hD.typeIs slot_dict_getitem.lookup (wpAny_getItem_of (intKind_is _ _ _ _) hD.mapOf (by rw [valueAt_dget]; exact hv) (p.now h S rv)) e
theorem Cl.dictF {xs : List (Int × V)} {P : V → HH → Prop} (hz : xs.length ≤ 16777216) (h : ∀ a, P (.ref a) ((a, .dict xs) :: H)) : Cl G n (.type "dict") [.dct xs] H P X := Cl.mk1 fun A c s a S v r Q E p xp => by
  cases r with
  | @dct b o es _ mo lo i rr =>
    have ho := (S.N _ (List.mem_append_right _ (List.mem_append_right _ mo))).1
    refine kt_call_dict lo (i.dictOf ho G.prog G.w) (by rw [rr.length, sizeLine_eq]; exact hz) fun h' hd hs => ?_
    obtain ⟨o', ho', i'⟩ := Heap.dictOf_iff.mp hd
    have hk : ∀ b o, s.heap.get? b = some o → h'.get? b = some o := fun b o e => (hs.2 b (Nat.ne_of_lt (Heap.lt_size e))).trans (Heap.get?_push_of_some _ e)
    refine p _ (.ref s.heap.objs.size) _ { c with ow := [(s.heap.objs.size, o')] ++ c.ow } h' s.toks (h _) (Le.ow c _) rfl (S.newf (.dict ?_ (IsDc.of i') rr) (S.F.grownK hk) (news_pushed S.F S.N hk ho' rfl) (fun q hq => ?_) (by simp)) (.ref _)
    · exact S.F.notModules (modules_low G.T.nolimit)
    · rw [List.mem_singleton] at hq
      subst hq
      exact S.fresh

/-! # list methods -/
theorem Mt.list {a : Addr} {xs : List V} {x : Str} {id : String} {P : Value → List V → Prop} (slot : Slot "list" x id) (hty : typeOf (.builtin id) = pure (.type "method_descriptor")) (m : (a, .list xs) ∈ H) (h : P (.builtin id) [.ref a]) : Mt G (.ref a) x H P := fun A c s pl S vo ro Q E p => by
  obtain rfl := ro.ref_inv
  obtain ⟨o, vs, ho, i, r⟩ := S.getList m
  refine getMethod_builtin (i.isList ho).typeIs PySem.F.plainAttrs_list slot hty (fun b e => ?_) (p _ _ _ h (.cons (.ref a) .nil))
  cases e
  obtain ⟨k, rfl⟩ := i
  exact ⟨_, ho, rfl⟩
theorem Cl.append {a : Addr} {xs : List V} {x : V} {P : V → HH → Prop} (U : UpH a (.list xs) (.list (xs ++ [x])) H H') (hz : xs.length ≤ 16777216) (h : P .none H') : Cl G n (.builtin "list.append") [.ref a, x] H P X := Cl.mk2 fun A c s ao S v u r r' Q E p xp => by
  obtain rfl := r.ref_inv
  obtain ⟨o, vs, ho, ⟨k, rfl⟩, rr⟩ := S.getList U.mem
  refine call_meets PySem.F.slot_list_append ⟨_, ho, rfl⟩ PySem.F.entry_list_append (PySem.F.args_list_append_2 _ _) (AutoListH.list_append_list_val_0 a vs.toArray k u (by rw [List.size_toArray, rr.length, sizeLine_eq]; exact hz)) ⟨ho, ?_⟩
  obtain ⟨c', l, m, S'⟩ := S.setList U (Heap.SameBut.update ..) (Heap.get?_update_self _ ho rfl) (islist_map (f := fun xs => xs.push u) (zs := vs ++ [u]) k (by simp)) (rr.append (.cons r' .nil))
  exact p .none .none H' c' _ s.toks h l m S' .none
theorem Cl.insert0 {a : Addr} {xs : List V} {x : V} {P : V → HH → Prop} (U : UpH a (.list xs) (.list (x :: xs)) H H') (hz : xs.length ≤ 16777216) (h : P .none H') : Cl G n (.builtin "list.insert") [.ref a, .int 0, x] H P X := Cl.mk3 fun A c s ao S v u w r r' r'' Q E p xp => by
  obtain rfl := r.ref_inv
  obtain ⟨t, rfl⟩ := r'.int_inv
  obtain ⟨o, vs, ho, ⟨k, rfl⟩, rr⟩ := S.getList U.mem
  refine call_meets PySem.F.slot_list_insert ⟨_, ho, rfl⟩ PySem.F.entry_list_insert (PySem.F.args_list_insert_3 _ _ _) (AutoListH.list_insert_list_int_val_1 a vs.toArray k 0 t w (by decide) (by rw [List.size_toArray, rr.length, sizeLine_eq]; exact hz)) ⟨ho, ?_⟩
  obtain ⟨c', l, m, S'⟩ := S.setList U (Heap.SameBut.update ..) (Heap.get?_update_self _ ho rfl) (islist_map (f := fun xs => have k := if (0 : Int) < 0 then ((0 : Int) + ((xs.size : Nat) : Int)).toNat else Min.min (0 : Int).toNat xs.size; (xs.extract 0 k).push w ++ xs.extract k) (zs := w :: vs) k (by simp)) (.cons r'' rr)
  exact p .none .none H' c' _ s.toks h l m S' .none
theorem Cl.remove1 {a : Addr} {k : Int} {P : V → HH → Prop} (U : UpH a (.list [.int k]) (.list []) H H') (h : P .none H') : Cl G n (.builtin "list.remove") [.ref a, .int k] H P X := Cl.mk2 fun A c s ao S v u r r' Q E p xp => by
  obtain rfl := r.ref_inv
  obtain ⟨t, rfl⟩ := r'.int_inv
  obtain ⟨o, vs, ho, ⟨j, rfl⟩, rr⟩ := S.getList U.mem
  cases rr with
  | @cons y _ vs _ ry rn =>
    cases rn
    obtain ⟨t', rfl⟩ := ry.int_inv
    refine call_meets PySem.F.slot_list_remove ⟨_, ho, rfl⟩ PySem.F.entry_list_remove (PySem.F.args_list_remove_2 _ _) (PySem.MeetsSeq.list_remove a [Value.int k t'].toArray j (.int k t) (fun _ => true) (fun y hy => ?_) 0 (by simp) rfl (fun m _ hm => absurd hm (Nat.not_lt_zero _)) (by simp [sizeLine_eq])) ⟨ho, ?_⟩
    · simp only [List.mem_toArray, List.mem_singleton] at hy
      subst hy
      have := PySem.MeetsSeq.EqGives.int k k t' t
      rwa [beq_self_eq_true] at this
    · obtain ⟨c', l, m, S'⟩ := S.setList U (Heap.SameBut.update ..) (Heap.get?_update_self _ ho rfl) (islist_map (f := fun xs => xs.eraseIdxIfInBounds 0) (zs := []) j (by simp [Array.eraseIdxIfInBounds])) .nil
      exact p .none .none H' c' _ s.toks h l m S' .none

/-! # isinstance -/
theorem Cl.isIntStr {i : Int} {P : V → HH → Prop} (h : P (.bool false) H) : Cl G n (.builtin "isinstance") [.int i, .val (.type "str")] H P X := Cl.mk2 fun A c s ao S v u r r' Q E p xp => by
  obtain ⟨t, rfl⟩ := r.int_inv
  obtain rfl := r'.val_inv
  exact PySem.IsiPair.int_str (p.now h S (.bool _))
theorem Cl.isStrStr {x : Str} {P : V → HH → Prop} (h : P (.bool true) H) : Cl G n (.builtin "isinstance") [.str x, .val (.type "str")] H P X := Cl.mk2 fun A c s ao S v u r r' Q E p xp => by
  obtain ⟨t, rfl⟩ := r.str_inv
  obtain rfl := r'.val_inv
  exact PySem.IsiPair.str_str (p.now (tk := s.toks) h S (.bool _))
theorem Cl.isTupStr {xs : List V} {P : V → HH → Prop} (h : P (.bool false) H) : Cl G n (.builtin "isinstance") [.tup xs, .val (.type "str")] H P X := Cl.mk2 fun A c s ao S v u r r' Q E p xp => by
  obtain ⟨a, o, vs, rfl, ho, i, rr⟩ := S.getTup r
  obtain rfl := r'.val_inv
  exact PySem.IsiPair.tuple_str ho i.1 (p.now h S (.bool _))
noncomputable def isiB (K : Frag) (C : Addr) : Bool := kitOne K (.type "int") (.ref C) == some false
theorem Cl.isIntCls {i : Int} {C : Addr} {P : V → HH → Prop} (ok : ∀ P, isiB (KF P) C = true) (h : P (.bool false) H) : Cl G n (.builtin "isinstance") [.int i, .val (.ref C)] H P X := Cl.mk2 fun A c s ao S v u r r' Q E p xp => by
  obtain ⟨t, rfl⟩ := r.int_inv
  obtain rfl := r'.val_inv
  exact kia_one kitx_int (G.X.keeps S.F.keep) trivial (beq_iff_eq.mp (ok G.w.params)) (by simp) fun tk => p.now h S (.bool _)
end
section
variable {G : Gx} {n : Nat} {d : FD} {loc : Locs} {H H' : HH} {X : Str → HH → Prop}

/-! # sorted, of a dict's keys -/
noncomputable def keysV {α : Type} (xs : List (Int × α)) : List V := xs.map fun p => .int p.1
theorem ints_of_keys {kvs : List (Int × Value)} {ns : List Int} (hk : kvs.map (·.1) = ns) {vs : List Value} (hl : vs.length = kvs.length) (hv : ∀ (j : Nat) (v : Value), vs[j]? = some v → ∃ k x, kvs[j]? = some (k, x) ∧ Value.isInt k v = true) : IntsAre vs ns := by
  subst hk
  induction vs generalizing kvs with
  | nil => cases kvs with
    | nil => exact IntsAre.nil
    | cons _ _ => cases hl
  | cons v vs ih => cases kvs with
    | nil => cases hl
    | cons kv kvs =>
      obtain ⟨k, x, e, hi⟩ := hv 0 v rfl
      rw [List.getElem?_cons_zero] at e
      cases e
      obtain ⟨t, rfl⟩ := Value.isInt_shape hi
      exact IntsAre.cons _ _ (ih (by simpa using hl) fun j v e => by
        have := hv (j + 1) v (by rw [List.getElem?_cons_succ]; exact e)
        rwa [List.getElem?_cons_succ] at this)
theorem rvs_of_ints {z : Cells} {vs : List Value} {ns : List Int} (h : IntsAre vs ns) : RVs z vs (ns.map V.int) := by
  induction h with
  | nil => exact .nil
  | cons _ _ _ ih => exact .cons (.int _ _) ih
theorem Cl.sortedD {a : Addr} {xs : List (Int × V)} {P : V → HH → Prop} (m : (a, .dict xs) ∈ H) (hz : xs.length < 64) (hs : (xs.map (·.1)).Pairwise (· ≤ ·)) (h : P (.lst (keysV xs)) H) : Cl G n (.builtin "sorted") [.ref a] H P X := Cl.mk1 fun A c s ao S v r Q E p xp => by
  obtain rfl := r.ref_inv
  obtain ⟨o, es, ho, lo, i, re⟩ := S.getDict m
  obtain ⟨ep, hat⟩ := (i.dictOf ho G.prog G.w).dictAt
  refine kdu_sorted (kdl_dict (knd := intKind G.prog G.w) (kvs := es) (ep := ep) lo) ao.hd S.F S.N hat (by rw [re.length, sizeLine_eq]; omega) fun D h' tk vs F' N' hlt hl hv => ?_
  have hI := ints_of_keys re.keys hl hv
  have hD := (N' _ (.head _)).1
  refine wpAny_call_entry PyProof.Rows.slot_list_sort ⟨_, hD, rfl⟩ PyProof.Rows.entry_list_sort (list_sort_tree (n := 0) (vs := vs) hD hI (by rw [hl, re.length]; exact hz) fun out ns' hI' hp hP => ⟨.none, rfl, ?_⟩) (PyProof.Rows.args_list_sort _)
  have hns : ns' = xs.map (·.1) := lks_uniq hp hP hs
  subst hns
  obtain ⟨k, hat'⟩ := sortedHeap_at (out := out) hD
  have hk : ∀ b o, b ∉ [D] → h'.get? b = some o → (sortedHeap h' D vs out).get? b = some o := fun b o hb e => by
    rw [sortedHeap_old (fun q => hb (by rw [q]; exact List.mem_singleton_self _)) (Heap.lt_size e)]; exact e
  have hne : ∀ p ∈ c.ow ++ (c.fr ++ c.fz), p.1 ≠ D := fun p hp => Nat.ne_of_lt (hlt p hp)
  have hDL := (N' _ (.head _)).2
  have Nold : News G.h₀ c.env.locals h' (c.ow ++ (c.fr ++ c.fz)) := fun p hp => N' p (.tail _ hp)
  refine alloc_list S p (D := D) (o := seqObj "list" out k) (vs := out.toList) ⟨k, rfl⟩ (rvs_of_ints hI') (kmk_fr F' hk hDL.1 hDL.2) (fun q hq => ?_) hne (.inl ?_)
  · rcases List.mem_cons.mp hq with rfl | hq
    · exact ⟨hat', hDL⟩
    · exact kmk_news Nold hk hne q hq
  · rw [List.map_map]; exact h

/-! # range, and what a comprehension walks through -/
noncomputable def IsRng (k : Nat) (o : Obj) : Prop := ∃ t u v, o = { cls := .type "range", dict := none, data := .fields #[.int 0 t, .int k u, .int 1 v], slots := #[] }
theorem Cl.range {k : Int} {P : V → HH → Prop} (h0 : 0 ≤ k) (h : P (.obj (IsRng k.toNat)) H) : Cl G n (.type "range") [.int k] H P X := Cl.mk1 fun A c s ao S v r Q E p xp => by
  obtain ⟨t, rfl⟩ := r.int_inv
  have e : ((k.toNat : Nat) : Int) = k := Int.toNat_of_nonneg h0
  exact call_range_1 (p _ (.obj (IsRng k.toNat)) H { c with fz := (s.heap.objs.size, { cls := .type "range", data := .fields #[.int 0 s.toks, .int k t, .int 1 (s.toks + 1)] }) :: c.fz } _ _ h (Le.newz _ _) rfl (S.pushz _) (.obj (.head _) (S.F.notModules (modules_low G.T.nolimit)) (.inr (.inl rfl)) ⟨s.toks, t, s.toks + 1, by rw [e]⟩))
theorem Cl.strI {i : Int} {P : V → HH → Prop} (hi : i.natAbs.log2 < 1920) (h : P (.str (toString i)) H) : Cl G n (.type "str") [.int i] H P X := Cl.mk1 fun A c s ao S v r Q E p xp => by
  obtain ⟨t, rfl⟩ := r.int_inv
  exact PySem.P.str_of_int hi (p.now h S (.str _ _))

/-- like Itb, without a word on the iterator's class -/
noncomputable def ItbW (G : Gx) (v : V) (H : HH) (xs : List V) : Prop :=
  ∀ A c s, A.handled = none → Sat G.h₀ c H s.heap → ∀ vo, RV c.fz vo v → ∃ (io : Obj) (fp : List Addr) (P : Nat → Value → Prop) (St : Nat → Heap → Prop),
    (∀ (Q : Value → Shared → Prop) E, Q (.ref s.heap.objs.size) { s with heap := s.heap.push io } → wpAny G.M A (pyIter vo) Q E s) ∧ Walks G.prog G.w A s.heap.objs.size fp [s.heap.objs.size] xs.length P St ∧ St 0 (s.heap.push io) ∧
    (∀ b ∈ fp, b ≤ s.heap.objs.size) ∧ (∀ i v, P i v → ∃ x, xs[i]? = some x ∧ RV c.fz v x)
noncomputable def rngV (k : Nat) : List V := (List.range k).map fun i : Nat => V.int (i : Int)
theorem rngV_len (k : Nat) : (rngV k).length = k := by unfold rngV; rw [List.length_map, List.length_range]
theorem Itb.range {k : Nat} (hk : k < 2 ^ 62) : Itb G (.obj (IsRng k)) H (rngV k) := fun A c s hh S vo ro => by
  cases ro with
  | @obj a o _ m _ _ hr =>
    obtain ⟨t, u, v, rfl⟩ := hr
    have ho := (S.N _ (List.mem_append_right _ (List.mem_append_right _ m))).1
    have hsz : Builtin.Range.rangeSize 0 (k : Int) 1 = (k : Int) := by
      simp only [Builtin.Range.rangeSize]
      by_cases h0 : (k : Int) = 0
      · simp [h0]
      · simp
        omega
    have W := (Walks.range (prog := G.prog) (w := G.w) hh s.heap.objs.size 0 1 k).bound
    refine ⟨_, _, _, _, fun Q E h => wpAny_pyIter_range (a := 0) (b := k) (c := 1) ho (small_one (by decide) (by decide) (by omega) (by omega)) h, by rw [rngV_len]; exact W, ?_, fun b hb => ?_, fun i v hP => ?_, fun i h hs => ?_⟩
    · show IsRangeIter _ _ _ _ _
      rw [hsz]
      simpa using Heap.get?_push_size _ rfl
    · rw [List.mem_singleton] at hb
      exact .inl hb
    · obtain ⟨hlt, t, rfl⟩ := hP
      refine ⟨.int i, by unfold rngV; simp [hlt], ?_⟩
      have : (0 : Int) + (i : Nat) * 1 = i := by omega
      rw [this]
      exact .int _ _
    · exact ⟨_, hs, rfl⟩
theorem Itb.weak {v : V} {xs : List V} (h : Itb G v H xs) : ItbW G v H xs := fun A c s hh S vo ro => by
  obtain ⟨io, fp, P, St, h1, h2, h3, h4, h5, _⟩ := h A c s hh S vo ro
  refine ⟨io, fp, P, St, h1, h2, h3, fun b hb => ?_, h5⟩
  rcases h4 b hb with rfl | ⟨o, m⟩
  · exact Nat.le_refl _
  · exact Nat.le_of_lt (S.lt _ (List.mem_append_right _ (List.mem_append_right _ m)))
noncomputable def strV (x : Str) : List V := x.cps.toList.map fun c => .str ⟨#[c]⟩
theorem ItbW.str {x : Str} : ItbW G (.str x) H (strV x) := fun A c s hh S vo ro => by
  obtain ⟨t, rfl⟩ := ro.str_inv
  have hlen : (strV x).length = x.cps.size := by unfold strV; rw [List.length_map, Array.length_toList]
  have fin : ∀ i v, SignAt x i v → ∃ y, (strV x)[i]? = some y ∧ RV c.fz v y := fun i v hP => by
    obtain ⟨ch, u, e, rfl⟩ := hP
    refine ⟨.str ⟨#[ch]⟩, ?_, .str _ _⟩
    unfold strV
    rw [List.getElem?_map, Array.getElem?_toList, e]
    rfl
  cases ha : x.cps.all (· < 128)
  · exact ⟨_, _, SignAt x, fun i h => h.IsStrIter s.heap.objs.size "str_iterator" x t i, fun Q E h => wpAny_pyIter_wide ha h, by rw [hlen]; exact Walks.strWide hh _ x t, ⟨_, Heap.get?_push_size _ rfl, rfl, rfl⟩, fun b hb => by rw [List.mem_singleton.mp hb]; exact Nat.le_refl _, fin⟩
  · exact ⟨_, _, SignAt x, fun i h => h.IsStrIter s.heap.objs.size "str_ascii_iterator" x t i, fun Q E h => wpAny_pyIter_ascii ha h, by rw [hlen]; exact Walks.strAscii hh _ x t, ⟨_, Heap.get?_push_size _ rfl, rfl, rfl⟩, fun b hb => by rw [List.mem_singleton.mp hb]; exact Nat.le_refl _, fin⟩

/-! # comprehensions of lists, without a test -/
noncomputable def ElOk (G : Gx) (d : FD) (scope : Scope) (elt : Expr) (x : Str) (xs : List V) (g : V → V) : Prop :=
  ∀ A L C (s : Shared) m v E', (∀ b o, G.h₀.get? b = some o → s.heap.get? b = some o) → G.h₀.objs.size ≤ C → s.heap.Ns C m → m x = some v → (∃ z, ∃ y ∈ xs, RV z v y) →
    wpAny G.M A (eval elt (compEnvC scope [] C (d.env L))) (fun r s' => (∀ z, ∀ y ∈ xs, RV z v y → RV z r (g y)) ∧ Keeps s s') E' s
structure CompOk (scope : Scope) (x : Str) : Prop where
  free : ∀ y ∈ scope.names, y.2 ≠ .free
  cell : ∀ y ∈ scope.names, y.2 ≠ .cell
  kind : scope.kind = .function
  names : ∀ y ∈ scope.names, y.2 = .local → scope.names.lookup y.1 = some .local
  loc : scope.names.lookup x = some .local
noncomputable def compB (scope : Scope) (x : Str) : Bool := scope.names.all (fun y => (match y.2 with | .free => false | .cell => false | .local => scope.names.lookup y.1 == some .local | _ => true)) && (match scope.kind with | .function => true | _ => false) && scope.names.lookup x == some .local
theorem CompOk.of {scope : Scope} {x : Str} (h : compB scope x = true) : CompOk scope x := by
  simp only [compB, Bool.and_eq_true, List.all_eq_true, beq_iff_eq] at h
  obtain ⟨⟨h1, h2⟩, h3⟩ := h
  refine ⟨fun y hy e => ?_, fun y hy e => ?_, ?_, fun y hy e => ?_, h3⟩
  · have := h1 y hy; rw [e] at this; cases this
  · have := h1 y hy; rw [e] at this; cases this
  · split at h2
    · assumption
    · cases h2
  · have := h1 y hy
    rw [e] at this
    simpa using this
theorem paired_rv {z : Cells} {F : Value → Value → Prop} {g : V → V} : ∀ {vs : List Value} {rs : List Value}, Paired F vs rs → ∀ {xs : List V}, vs.length = xs.length → (∀ (j : Nat) (v : Value), vs[j]? = some v → ∃ y, xs[j]? = some y ∧ RV z v y) → (∀ v r y, F v r → y ∈ xs → RV z v y → RV z r (g y)) → RVs z rs (xs.map g)
  | _, _, .nil, xs, hl, hv, hF => by
    cases xs with
    | nil => exact .nil
    | cons _ _ => cases hl
  | _, _, .cons hf hp, xs, hl, hv, hF => by
    cases xs with
    | nil => cases hl
    | cons y ys =>
      obtain ⟨y', e, r⟩ := hv 0 _ rfl
      rw [List.getElem?_cons_zero] at e
      cases e
      refine .cons (hF _ _ _ hf (.head _) r) (paired_rv hp (by simpa using hl) (fun j v e => ?_) fun v r y h m => hF v r y h (.tail _ m))
      have := hv (j + 1) v (by rw [List.getElem?_cons_succ]; exact e)
      rwa [List.getElem?_cons_succ] at this
theorem filter_true {α : Type} (l : List α) : l.filter (fun _ => true) = l := List.filter_eq_self.mpr fun _ _ => rfl
theorem Ev.comp {elt iter : Expr} {x : Str} {px pos : Pos} {scope : Scope} {P : V → HH → Prop} (xs : List V) (g : V → V) (ok : compB scope x = true) (hf : ∀ L v, foldedSetIterable iter (d.env L) v = pure v) (hz : xs.length ≤ 16777216) (he : ElOk G d scope elt x xs g)
    (h : Ev G n d loc H iter (fun v H₁ => ItbW G v H₁ xs ∧ P (.lst (xs.map g)) H₁) X) : Ev G n d loc H (.ListComp elt [⟨.Name x px, iter, [], 0⟩] scope pos) P X := by
  have ok := CompOk.of ok
  refine Ev.mk fun A c₀ s₀ he₀ a₀ S₀ r₀ Q E p₀ xp₀ => ?_
  refine wpAny_ListComp_free (cl := []) (fun _ => true) (fun v r => ∀ z, ∀ y ∈ xs, RV z v y → RV z r (g y)) (closureFor_none ok.free) ok.cell ok.kind ok.names ok.loc (h.then he₀ a₀ S₀ r₀ xp₀ fun vo y H₁ c h t hp l₀ m₀ S rv => ?_) (by rw [he₀]; exact hf _)
  obtain ⟨hit, hP⟩ := hp
  obtain ⟨io, fp, P', St, iter', W, st0, hfp, hPv⟩ := hit A c { s₀ with heap := h, toks := t } a₀.hd S vo rv
  refine iter' _ _ ?_
  have hkI : ∀ s' : Shared, (∀ b o, b ∉ [h.objs.size] → (h.push io).get? b = some o → s'.heap.get? b = some o) → ∀ b o, h.get? b = some o → s'.heap.get? b = some o := fun s' hk b o e =>
    hk b o (by rw [List.mem_singleton]; exact Nat.ne_of_lt (Heap.lt_size e)) (Heap.get?_push_of_some _ e)
  refine ⟨_, fp, [h.objs.size], xs.length, P', St, rfl, W, by rw [sizeLine_eq]; exact hz, st0, fun b hb => by rw [Heap.size_push]; exact Nat.lt_succ_of_le (hfp b hb), ⟨fun C i v s₃ m₃ E' _ _ _ _ _ _ => wpAny_pure ⟨rfl, s₃.heap, s₃.toks, rfl, fun _ _ e => e⟩, fun C i v s₃ m₃ E' hC hv _ hn hm hk _ => ?_⟩, fun D h' tk ys vs hD hl hpl hlen hv hpr hk => ?_⟩
  · have hC' : h.objs.size ≤ C := by rw [Heap.size_push] at hC; exact Nat.le_of_succ_le hC
    obtain ⟨y, e, ry⟩ := hPv i v hv
    rw [he₀]
    exact he A _ C s₃ m₃ v E' (fun b o e => hkI s₃ hk b o (S.F.keep b o e)) (Nat.le_trans (Nat.le_trans S.F.above (Nat.le_of_lt S.F.ns.lt)) hC') hn hm ⟨c.fz, y, List.mem_of_getElem? e, ry⟩
  · have hkeep : ∀ b o, h.get? b = some o → h'.get? b = some o := fun b o e => hkI { s₀ with heap := h', toks := tk } hk b o e
    obtain ⟨k, hD'⟩ := hpl
    rw [filter_true] at hpr
    have hDn : ∀ q ∈ c.ow ++ (c.fr ++ c.fz), q.1 ≠ D := fun q hq e => by
      rw [← e, Heap.get?_push_of_some _ (S.N q hq).1] at hD
      cases hD
    have hDL : D ≠ c.env.locals := fun e => by
      obtain ⟨o, ho, _⟩ := S.oL
      rw [e, Heap.get?_push_of_some _ ho] at hD
      cases hD
    have hD0 : G.h₀.get? D = none := by
      cases q : G.h₀.get? D with
      | none => rfl
      | some o => rw [Heap.get?_push_of_some _ (S.F.keep _ _ q)] at hD; cases hD
    refine alloc_list (s := { s₀ with heap := h, toks := t }) S (p₀.le l₀ m₀ h t) (D := D) (o := { cls := .type "list", data := .seq ys k }) (vs := ys.toList) ⟨k, rfl⟩ (paired_rv hpr hlen (fun j v e => hPv j v (hv j v e)) fun v r y hF hy ry => hF c.fz y hy ry) (S.F.grownK hkeep) (fun q hq => ?_) hDn (.inl hP)
    rcases List.mem_cons.mp hq with rfl | hq
    · exact ⟨hD', hDL, hD0⟩
    · exact ⟨hkeep _ _ (S.N q hq).1, (S.N q hq).2⟩
end
section
variable {G : Gx} {n : Nat} {d : FD} {loc : Locs} {H H' : HH} {X : Str → HH → Prop}

/-! # elements of comprehensions -/
theorem ElOk.add {scope : Scope} {k : Int} {kk : Nat} {p1 p2 p3 : Pos} {x : Str} {m : Nat} (ok : CompOk scope x) (hd : (x == ("__debug__" : Str)) = false) :
    ElOk G d scope (.BinOp (.Constant (.int k) kk p1) .Add (.Name x p2) p3) x (rngV m) (fun v => match v with | .int i => .int (k + i) | v => v) := fun A L C s mm v E' hk hC hn hm hv => by
  obtain ⟨z, y, hy, rv⟩ := hv
  unfold rngV at hy
  obtain ⟨i, _, rfl⟩ := List.mem_map.mp hy
  obtain ⟨t, rfl⟩ := rv.int_inv
  refine wpAny_BinOp (wpAny_Constant_int (wpAny_Name (wpAny_loadName_local ok.kind (lookup_relabel_local ok.loc) hn hm ?_) hd))
  refine PyProof.Rows.add_int ⟨fun z' y' hy' rv' => ?_, s.heap, _, rfl, fun _ _ e => e⟩
  unfold rngV at hy'
  obtain ⟨j, _, rfl⟩ := List.mem_map.mp hy'
  cases rv'
  exact .int _ _
noncomputable def ordV : V → V
  | .str y => .int (y.cps.getD 0 0)
  | v => v
theorem relabel_id {scope : Scope} {env : Env} (h : ∀ y ∈ scope.names, y.2 ≠ .free) : relabel scope env = scope := by
  unfold relabel
  have : (scope.names.map fun (n, k) => if (k == .free && env.scope.kind == .function && env.kindOf n == some .cell) then (n, .cell) else (n, k)) = scope.names := by
    conv => rhs; rw [← List.map_id scope.names]
    apply List.map_congr_left
    intro y hy
    obtain ⟨a, k⟩ := y
    have := h _ hy
    have hf : (k == NameKind.free) = false := by simpa using this
    simp [hf]
  rw [this]
theorem ElOk.ord {scope : Scope} {p1 p2 p3 : Pos} {x : Str} {y : Str} (ok : CompOk scope x) (hd : (x == ("__debug__" : Str)) = false) (ho : scope.names.lookup ("ord" : Str) = some .globalImplicit) (hg : nsIn (KF G.w.params) mainGlobals "ord" = some none) :
    ElOk G d scope (.Call (.Name "ord" p1) [.Name x p2] [] p3) x (strV y) ordV := fun A L C s mm v E' hk hC hn hm hv => by
  obtain ⟨z, u, hu, rv⟩ := hv
  unfold strV at hu
  obtain ⟨c, _, rfl⟩ := List.mem_map.mp hu
  obtain ⟨t, rfl⟩ := rv.str_inv
  have hrel := relabel_id (env := d.env L) ok.free
  have hb : G.mb "ord" = some (.builtin "ord") := (G.T.builtins _ (by decide)).trans bootS_ord
  have hmg : G.mg "ord" = none := mg_none_of G.X G.T.g hg
  refine Call_ (Calls.Name_function_global (by exact ok.kind) ?_ (Calls.loadGlobal_builtin (G.T.g.keeps hk) hmg (G.T.b.keeps hk) hb ?_) (by decide))
  · show (relabel scope (d.env L)).names.lookup ("ord" : Str) = _
    rw [hrel]; exact ho
  · refine callWith_of (P := fun _ => True) rfl (fun h _ => ⟨.machine, .inr (.inl rfl), Looks.of_pure rfl⟩) ?_
    refine evalArgs_plain (spliced_cons (wpAny_Name (wpAny_loadName_local ok.kind (lookup_relabel_local ok.loc) hn hm (spliced_nil ⟨trivial, ?_⟩)) hd))
    refine PySem.P.ord_of_char ⟨fun z' y' hy' rv' => ?_, s.heap, _, rfl, fun _ _ e => e⟩
    unfold strV at hy'
    obtain ⟨c', _, rfl⟩ := List.mem_map.mp hy'
    cases rv'
    exact .int _ _

/-! # dicts by text, written out; never changed -/
inductive RS : List (Str × Value) → List (Str × V) → Prop
  | nil : RS [] []
  | cons {k : Str} {v : Value} {x : V} {es : List (Str × Value)} {xs : List (Str × V)} : RV [] v x → RS es xs → RS ((k, v) :: es) ((k, x) :: xs)
noncomputable def IsSD (G : Gx) (xs : List (Str × V)) (o : Obj) : Prop := ∃ kvs, o.IsDictOf (PySem.strKind G.prog G.w) kvs ∧ RS kvs xs
noncomputable def sget {α : Type} : List (Str × α) → Str → Option α
  | [], _ => none
  | (j, v) :: r, k => if j = k then some v else sget r k
theorem valueAt_sget : ∀ (kvs : List (Str × Value)) (k : Str), valueAt kvs k = sget kvs k
  | [], _ => rfl
  | (j, v) :: r, k => by
    have ih := valueAt_sget r k
    unfold valueAt at ih ⊢
    rw [List.find?_cons, sget]
    by_cases h : j = k
    · rw [if_pos h]; simp [h]
    · rw [if_neg h, ← ih]; simp [h]
theorem RS.get : ∀ {kvs : List (Str × Value)} {xs : List (Str × V)}, RS kvs xs → ∀ {k : Str} {x : V}, sget xs k = some x → ∃ v, sget kvs k = some v ∧ RV [] v x
  | _, _, .nil, k, x, h => by cases h
  | _, _, .cons (k := j) (v := v) h hs, k, x, e => by
    rw [sget] at e ⊢
    by_cases q : j = k
    · rw [if_pos q] at e ⊢
      cases e
      exact ⟨v, rfl, h⟩
    · rw [if_neg q] at e ⊢
      exact hs.get e
theorem RS.isSome : ∀ {kvs : List (Str × Value)} {xs : List (Str × V)}, RS kvs xs → ∀ k : Str, (sget kvs k).isSome = (sget xs k).isSome
  | _, _, .nil, k => rfl
  | _, _, .cons (k := j) h hs, k => by
    rw [sget, sget]
    by_cases q : j = k
    · rw [if_pos q, if_pos q]; rfl
    · rw [if_neg q, if_neg q]; exact hs.isSome k
structure Ed (G : Gx) (n : Nat) (d : FD) (loc : Locs) (H : HH) (ks : List (Option Expr)) (es : List Expr) (P : List (V × V) → HH → Prop) (X : Str → HH → Prop) : Prop where
  use : ∀ A c s pos, c.env = d.env c.env.locals → AOk A c n → Sat G.h₀ c H s.heap → RL c.fz c.m loc → ∀ (Q : List (Value × Value) → Shared → Prop) E,
    (∀ vs xs H' c' h' tk, P xs H' → Le c c' → c'.m = c.m → Sat G.h₀ c' H' h' → RVs c'.fz (vs.map (·.1)) (xs.map (·.1)) → RVs c'.fz (vs.map (·.2)) (xs.map (·.2)) → Q vs { s with heap := h', toks := tk }) → XPost G c s X E → wpAny G.M A (evalPairs (pairTrees ks es c.env pos)) Q E s
theorem Ed.nil {P : List (V × V) → HH → Prop} (h : P [] H) : Ed G n d loc H [] [] P X := by
  refine .mk ?_
  intro A c s pos he a S r Q E p xp
  exact pairTrees_nil_walk (p [] [] H c s.heap s.toks h (Le.refl c) rfl S .nil .nil)
theorem Ed.cons {k e : Expr} {ks : List (Option Expr)} {es : List Expr} {P : List (V × V) → HH → Prop} (h : Ev G n d loc H k (fun x H₁ => Ev G n d loc H₁ e (fun y H₂ => Ed G n d loc H₂ ks es (fun xs H₃ => P ((x, y) :: xs) H₃) X) X) X) : Ed G n d loc H (some k :: ks) (e :: es) P X := by
  refine .mk ?_
  intro A c s pos he a S r Q E p xp
  refine pairTrees_cons_walk (h.then he a S r xp fun v x H₁ c₁ h₁ t₁ hp₁ l₁ m₁ S₁ rv₁ => ?_)
  rw [← l₁.env]
  refine hp₁.then (l₁.envd he) (a.le l₁) S₁ (l₁.rl m₁ r) (xp.le l₁ h₁ t₁) fun v₂ x₂ H₂ c₂ h₂ t₂ hp₂ l₂ m₂ S₂ rv₂ => ?_
  rw [← l₂.env]
  have hp₂ := hp₂.use
  refine hp₂ A c₂ _ pos (l₂.envd (l₁.envd he)) ((a.le l₁).le l₂) S₂ (l₂.rl m₂ (l₁.rl m₁ r)) _ _ (fun vs xs H₃ c₃ h₃ t₃ hp₃ l₃ m₃ S₃ ra rb => ?_) ((xp.le l₁ h₁ t₁).le l₂ h₂ t₂)
  exact p _ _ H₃ c₃ h₃ t₃ hp₃ ((l₁.trans l₂).trans l₃) (m₃.trans (m₂.trans m₁)) S₃ (.cons ((rv₁.mono l₂.fz).mono l₃.fz) ra) (.cons (rv₂.mono l₃.fz) rb)
end
noncomputable def V.atom : V → Bool
  | .none => true
  | .bool _ => true
  | .int _ => true
  | .str _ => true
  | .val _ => true
  | .ref _ => true
  | _ => false
theorem RV.bare {z : Cells} {v : Value} {x : V} (r : RV z v x) (h : x.atom = true) : RV [] v x := by
  cases r with
  | none => exact .none
  | bool b => exact .bool b
  | int i t => exact .int i t
  | str s t => exact .str s t
  | val v => exact .val _
  | ref a => exact .ref a
  | _ => cases h

section
variable {G : Gx} {n : Nat} {d : FD} {loc : Locs} {H H' : HH} {X : Str → HH → Prop}

theorem str_pairs {z : Cells} : ∀ {vs : List (Value × Value)} {ss : List (Str × V)}, RVs z (vs.map (·.1)) ((ss.map fun p => (V.str p.1, p.2)).map (·.1)) → RVs z (vs.map (·.2)) ((ss.map fun p => (V.str p.1, p.2)).map (·.2)) → (ss.all fun p => p.2.atom) = true →
    allStrKeys vs = true ∧ (strPairs vs).map (·.1) = ss.map (·.1) ∧ RS (strPairs vs) ss
  | [], [], _, _, _ => ⟨rfl, rfl, .nil⟩
  | [], _ :: _, h, _, _ => nomatch h
  | _ :: _, [], h, _, _ => nomatch h
  | (k, v) :: vs, (j, x) :: ss, ha, hb, hat => by
    cases ha with
    | cons r1 r2 =>
      cases hb with
      | cons q1 q2 =>
        obtain ⟨t, e⟩ := r1.str_inv
        dsimp only at e
        subst e
        rw [List.all_cons, Bool.and_eq_true] at hat
        obtain ⟨i1, i2, i3⟩ := str_pairs r2 q2 hat.2
        refine ⟨?_, ?_, ?_⟩
        · simpa [allStrKeys] using i1
        · simpa [strPairs] using i2
        · exact .cons (q1.bare hat.1) i3
theorem dict_empty_str {o : Obj} (i : IsDc o []) (p : Program) (w : World) : o.IsDictOf (PySem.strKind p w) [] := by
  obtain ⟨es, ep, h1, h2, _, h4, h5⟩ := i p w
  cases es with
  | mk l =>
    cases h4
    exact ⟨#[], ep, h1, h2, fun e he => by simp at he, .nil, by simp⟩

theorem Ev.sdict {keys : List (Option Expr)} {values : List Expr} {pos : Pos} {P : V → HH → Prop} (hall : keys.all (·.isSome) = true) (hl : keys.length = values.length) (h0 : keys ≠ []) (hlen : keys.length ≤ 15)
    (h : ∀ D, Ed G n d loc ((D, .dict []) :: H) keys values (fun ps H₁ => ∃ ss : List (Str × V), ps = ss.map (fun p => (V.str p.1, p.2)) ∧ (ss.map (·.1)).Nodup ∧ (ss.all fun p => p.2.atom) = true ∧ ∃ H₂, H₁ = (D, .dict []) :: H₂ ∧ P (.obj (IsSD G ss)) H₂) X) :
    Ev G n d loc H (.Dict keys values pos) P X := by
  refine Ev.mk fun A c s he a S r Q E p xp => kdn_eval (knd := PySem.strKind G.prog G.w) S.F S.N G.T.nolimit hall hl h0 hlen fun D h' o F' N' hlt lo i => ?_
  have iD : IsDc o [] := IsDc.of (prog := G.prog) (w := G.w) (by
    obtain ⟨es, ep, h1, h2, _, h4, _⟩ := i
    cases es with
    | mk l =>
      cases h4
      exact ⟨#[], ep, h1, h2, fun e he => by simp at he, .nil, by simp⟩)
  have S' : Sat G.h₀ { c with ow := [(D, o)] ++ c.ow } ((D, .dict []) :: H) h' := S.newf (.dict lo iD .nil) F' N' (fun q hq => by
    rw [List.mem_singleton] at hq
    subst hq
    exact fun p hp => Nat.ne_of_lt (hlt p hp)) (by simp)
  have l' : Le c { c with ow := [(D, o)] ++ c.ow } := Le.ow c _
  have hh := h D
  have hh := hh.use
  refine hh A _ { s with heap := h' } pos (l'.envd he) (a.le l') S' (l'.rl rfl r) _ E (fun vs xs H₁ c₁ h₁ t₁ hp l₁ m₁ S₁ ra rb => ?_) (xp.le l' h' s.toks)
  obtain ⟨ss, rfl, hnd, hat, H₂, rfl, hP⟩ := hp
  obtain ⟨env, outer, m, fr, ow, fz⟩ := c₁
  have R := S₁.R
  dsimp only at R
  cases R with
  | @cons _ _ cs ow' _ hO hR =>
    cases hO with
    | @dict o₁ es₁ _ lo₁ i₁ r₁ =>
      cases r₁
      obtain ⟨k1, k2, k3⟩ := str_pairs ra rb hat
      have ap := S₁.apart (pre := []) (post := ow') (d := D) (o := o₁) rfl
      have hD := S₁.N (D, o₁) (.head _)
      refine kdn_made_str (o := o₁) (news := (D, o₁) :: (ow' ++ (fr ++ fz))) S₁.F S₁.N (.head ap.2) (dict_empty_str i₁ G.prog G.w) k1 (by rw [k2]; exact hnd) fun h₂ o₂ F₂ N₂ hd₂ => ?_
      have N₃ : News G.h₀ env.locals h₂ (ow' ++ (fr ++ fz)) := fun p hp => N₂ p (.tail _ hp)
      have S₂ : Sat G.h₀ ⟨env, outer, m, fr, ow', fz⟩ H₂ h₁ := by
        refine S₁.sub hR (fun p hp => List.mem_append_right _ hp) ?_
        have := S₁.nd
        dsimp only at this
        rw [List.append_assoc, List.map_append] at this
        exact (List.nodup_append.mp this).2.1
      have S₃ : Sat G.h₀ ⟨env, outer, m, fr, ow', fz⟩ H₂ h₂ := S₂.grow F₂ N₃
      have S₄ := S₃.newzf (a := D) (o := o₂) F₂ N₂ ap.2
      have hcls : o₂.cls = .type "dict" := let ⟨_, _, h, _⟩ := hd₂; h.1
      have lz : Le (⟨env, outer, m, fr, [(D, o₁)] ++ ow', fz⟩ : Cf) ⟨env, outer, m, fr, ow', (D, o₂) :: fz⟩ := ⟨rfl, rfl, fun _ h => .tail _ h, FrEq.refl _⟩
      exact p _ (.obj (IsSD G ss)) H₂ ⟨env, outer, m, fr, ow', (D, o₂) :: fz⟩ h₂ _ hP ((l'.trans l₁).trans lz) m₁ S₄ (.obj (.head _) lo₁ (.inr (.inr hcls)) ⟨_, hd₂, k3⟩)

theorem Sb.sd {ss : List (Str × V)} {k : Str} {x : V} {P : V → HH → Prop} (hx : sget ss k = some x) (h : P x H) : Sb G n (.obj (IsSD G ss)) (.str k) H P X := fun value slice A c s ao S vo vi ro ri Q E p xp => by
  obtain ⟨u, rfl⟩ := ri.str_inv
  cases ro with
  | @obj a o _ m lo _ hq =>
    obtain ⟨kvs, i, r⟩ := hq
    have ho := (S.N _ (List.mem_append_right _ (List.mem_append_right _ m))).1
    obtain ⟨v, hv, rv⟩ := r.get hx
    obtain ⟨ops, e⟩ := sub_ops slice (.ref a) (.str k u)
    have hD : s.heap.DictOf (PySem.strKind G.prog G.w) a kvs := Heap.dictOf_iff.mpr ⟨o, ho, i⟩
    exact tail_any hD.typeIs slot_dict_getitem.lookup (wpAny_getItem_of (strKind_is _ _ _ _) hD.mapOf (by rw [valueAt_sget]; exact hv) (p.now h S (rv.mono (z' := c.fz) fun p hp => absurd hp List.not_mem_nil))) e
theorem Cm.inSD {ss : List (Str × V)} {k : Str} {P : Bool → HH → Prop} (h : P (sget ss k).isSome H) : Cm G n .In (.str k) (.obj (IsSD G ss)) H P X := fun A c s a S va vb ra rb Q E p xp => by
  obtain ⟨u, rfl⟩ := ra.str_inv
  cases rb with
  | @obj a o _ m lo _ hq =>
    obtain ⟨kvs, i, r⟩ := hq
    have ho := (S.N _ (List.mem_append_right _ (List.mem_append_right _ m))).1
    have hD : s.heap.DictOf (PySem.strKind G.prog G.w) a kvs := Heap.dictOf_iff.mpr ⟨o, ho, i⟩
    exact wpAny_in_of (strKind_is _ _ _ _) lo hD.mapOf (by rw [valueAt_sget, r.isSome]; exact p.now h S)

theorem strs_of {z : Cells} : ∀ {vs : List Value} {ys : List Str}, RVs z vs (ys.map V.str) → StrsAre vs ys
  | [], [], _ => .nil
  | _ :: _, [], h => nomatch h
  | [], _ :: _, h => nomatch h
  | v :: vs, y :: ys, h => by
    cases h with
    | cons a b => obtain ⟨t, rfl⟩ := a.str_inv; exact .cons y t (strs_of b)
theorem Cm.inT {x : Str} {xs : List V} {P : Bool → HH → Prop} (ys : List Str) (e : xs = ys.map V.str) (h : P (ys.any (· == x)) H) : Cm G n .In (.str x) (.tup xs) H P X := fun A c s a S va vb ra rb Q E p xp => by
  obtain ⟨u, rfl⟩ := ra.str_inv
  subst e
  obtain ⟨b, vs, rfl, ht, r⟩ := RV.tup_inv S rb
  exact in_tuple_strs ht (by exact strs_of r) (p.now (tk := s.toks) h S)
theorem Cm.notInT {x : Str} {xs : List V} {P : Bool → HH → Prop} (ys : List Str) (e : xs = ys.map V.str) (h : P (!(ys.any (· == x))) H) : Cm G n .NotIn (.str x) (.tup xs) H P X := fun A c s a S va vb ra rb Q E p xp => by
  obtain ⟨u, rfl⟩ := ra.str_inv
  subst e
  obtain ⟨b, vs, rfl, ht, r⟩ := RV.tup_inv S rb
  exact notin_tuple_strs ht (by exact strs_of r) (p.now (tk := s.toks) h S)
theorem Cm.neNN {P : Bool → HH → Prop} (h : P false H) : Cm G n .NotEq .none .none H P X := fun A c s a S va vb ra rb Q E p xp => by
  obtain rfl := ra.none_inv; obtain rfl := rb.none_inv
  exact PySem.EqNone.ne_none_none (p.now (tk := s.toks) h S)
end
section
variable {prog : Program} {w : World} {A : Around} {E : Value → Shared → Prop} {s : Shared}

noncomputable def sigObj (dd : Option Addr) (vs : Array Value) (sl : Array (Option Value)) : Obj := { cls := .ref 38, dict := dd, data := .fields vs, slots := sl }
theorem sig_in {P : Params} {h : Heap} (X : (KF P).In h) : h.get? 38 = some (excClassObj "LispSignal" "LispSignal" 38 37 [.type "Exception"] [.type "Exception", .type "BaseException", .type "object"] true [] [] false none none
    (some (.ref 22)) none (some (.str "LispSignal" 196)) (some (.str "LispSignal" 204)) (some (.bool true)) "Exception.__new__") := X 38 _ rfl
theorem sig_make {rest : List Value} {R : Result → Shared → Prop} (X : (KF w.params).In s.heap) (hrest : rest.length ≤ sizeLine)
    (hq : codeAny (model prog w) (A.under (.builtin "type.__call__" ⟨.ref 38 :: rest, []⟩)) (.call (.ref 35) ⟨.ref (s.heap.objs.size + 1) :: rest, []⟩) (InitBack (s.heap.objs.size + 1) R)
      { s with heap := (s.heap.push { cls := .type "tuple", data := .seq rest.toArray }).push { cls := .ref 38, data := .fields #[.ref s.heap.objs.size, .none, .none, .none, .bool false, .none] } }) :
    codeAny (model prog w) A (.call (.ref 38) ⟨rest, []⟩) R s := by
  obtain ⟨h, g, d, t, os⟩ := s
  have hC := sig_in X
  have f1 := tc_lookup
  have f2 := tc_bind (.ref 38)
  have hT : (⟨h, g, d, t, os⟩ : Shared).TypeIs (.ref 38) "type" := ⟨_, hC, rfl⟩
  refine codeAny_of_tree ?_
  show wpAny _ _ (callAny (.ref 38) _) _ _ _
  repeat (any_goals (first | assumption | with_reducible refine wpAny_loadPart_at hC ?_ | wp_step))
  refine ⟨rfl, ?_⟩
  refine codeAny_call_builtin_at (Code.quiet_builtin _ (by decide +kernel)) entry_typeCall (wpAny_check_type_call_sub hC ?_)
  show wpAny _ _ (Builtin.«type.__call__» ⟨.ref 38 :: rest, []⟩) _ _ _
  have Fn := PySem.F.excBase_Exception
  have T : OwnTail h [.type "Exception", .type "BaseException", .type "object"] [.type "Exception", .type "BaseException", .type "object"] := .base
  repeat (first | with_reducible refine wpAny_loadPart_at hC ?_ | with_reducible refine wpAny_madeBy_exc hC ?_ | wp_step)
  refine codeAny_call_builtin_code (Code.quiet_builtin _ Fn.quiet) (wpAny_check_new_subU Fn Fn.hasB T hC ?_)
  refine codeAny_exc_new_subU Fn Fn.hasB Fn T hC ?_ hrest
  have hC₁ := Heap.get?_push_of_some { cls := .ref 38, data := .fields #[.ref h.objs.size, .none, .none, .none, .bool false, .none] }
    (Heap.get?_push_of_some { cls := .type "tuple", data := .seq rest.toArray } hC)
  have hget : ((h.push { cls := .type "tuple", data := .seq rest.toArray }).push
      { cls := .ref 38, data := .fields #[.ref h.objs.size, .none, .none, .none, .bool false, .none] }).get? (h.objs.size + 1) = some
      { cls := .ref 38, data := .fields #[.ref h.objs.size, .none, .none, .none, .bool false, .none] } := by heap_get
  have hcC : ([Value.ref 38, .type "Exception", .type "BaseException", .type "object"]).contains (.ref 38) = true := by simp
  have X' : (KF w.params).In ((h.push { cls := .type "tuple", data := .seq rest.toArray }).push { cls := .ref 38, data := .fields #[.ref h.objs.size, .none, .none, .none, .bool false, .none] }) :=
    X.keeps fun b o e => Heap.get?_push_of_some _ (Heap.get?_push_of_some _ e)
  have i1 : Looks (model prog w) ((h.push { cls := .type "tuple", data := .seq rest.toArray }).push { cls := .ref 38, data := .fields #[.ref h.objs.size, .none, .none, .none, .bool false, .none] }) (typeLookup (.ref 38) "__init__") (some (.ref 35)) :=
    looks_findIn X' (by kernel_rfl)
  have b1 : Looks (model prog w) ((h.push { cls := .type "tuple", data := .seq rest.toArray }).push { cls := .ref 38, data := .fields #[.ref h.objs.size, .none, .none, .none, .bool false, .none] }) (bindSpecial (.ref 35) (.ref (h.objs.size + 1))) (.ref 35, [.ref (h.objs.size + 1)]) :=
    bind_fn X' _ (by kernel_rfl)
  unfold isInstance
  repeat (first | with_reducible refine wpAny_loadPart_at hget ?_ | (with_reducible refine wpAny_isSubtype_exc hC₁ ?_; rw [hcC]) | wp_step)
  show wpAny _ (A.under (.builtin "type.__call__" ⟨.ref 38 :: rest, []⟩)) (typeLookup (.ref 38) "__init__") _ _ _
  refine i1.here ?_
  dsimp only
  refine wpAny_holding (wpAny_bind (b1.here ?_))
  dsimp only
  refine wpAny_bind (wpAny_call ?_)
  show codeAny _ (A.under (.builtin "type.__call__" ⟨.ref 38 :: rest, []⟩)) (.call (.ref 35) ⟨.ref (h.objs.size + 1) :: rest, []⟩) _ _
  refine codeAny_mono hq fun r s' z => ?_
  rcases r with e | (v | _ | _ | _) <;> first | exact z | exact z.elim | skip
  obtain ⟨rfl, z⟩ := z
  exact wpAny_pure (wpAny_pure z)

theorem ns1_obj {h : Heap} {a : Addr} {m : Str → Option Value} (x : h.Ns1 a m) : ∃ o, h.get? a = some o ∧ ∀ h' : Heap, h'.get? a = some o → h'.Ns1 a m :=
  let ⟨o, es, ep, e, r⟩ := x; ⟨o, e, fun h' e' => ⟨o, es, ep, e', r⟩⟩
noncomputable def sigCd : ClassData := { name := "LispSignal", bases := [.type "Exception"], mro := [.ref 38, .type "Exception", .type "BaseException", .type "object"], ns := 37, qualname := "LispSignal", hasDict := true, slotNames := [], subclasses := [], abstract := false, collection := none, hasDel := false }
theorem sig_cls (P : Params) : clsIn (KF P) 38 = some sigCd := by kernel_rfl
theorem sig_set (P : Params) : findIn (KF P) (.ref 38) "__setattr__" = some (some (.builtin "object.__setattr__")) := by kernel_rfl
theorem sig_mro {M : Model} {P : Params} {h : Heap} (X : (KF P).In h) : Looks M h (mroOf (.ref 38)) [.ref 38, .type "Exception", .type "BaseException", .type "object"] := (looks_clsIn X (sig_cls P)).andThen .now
theorem sig_refuse (x : Addr) : refuseLoop (.ref x) "__setattr__" [.ref 38, .type "Exception", .type "BaseException", .type "object"] = pure () := (refuseLoop_ref _ _ _ _).trans (PySem.F.store_Exception.passes _)
theorem sig_check {A : Around} {E : Value → Shared → Prop} {h : Heap} {g : Array GenState} {d : Drawn} {t : Nat} {os : OsState} {x : Addr} {ox : Obj} {nameV v : Value} {Q : Unit → Shared → Prop} {M : Model} {P : Params} (X : (KF P).In h) (hx : h.get? x = some ox) (hc : ox.cls = .ref 38) (hq : Q () ⟨h, g, d, t, os⟩) :
    wpAny M A (checkBuiltinCall "object.__setattr__" ⟨[.ref x, nameV, v], []⟩) Q E ⟨h, g, d, t, os⟩ := by
  have := @wpAny_check_sa A E h g d t os _ _ _ _ _ _ _ _ _ _ _ _ _ _ _ _ _ _ _ _ _ v M _ nameV Q PySem.F.store_Exception (sig_in X) hx hc hq
  exact this
/-- the store into an exception of the text: the way up to the own dict -/
theorem sig_osa {x : Addr} {ox : Obj} {od : Option Obj} {name : Str} {v : Value} {Q : Unit → Shared → Prop} (X : (KF w.params).In s.heap) (I : InstAt s.heap x ox 38 od) (hn : findIn (KF w.params) (.ref 38) name = some none)
    (h : ∀ A' tk, wpAny (model prog w) A' (Builtin.ObjectAttr.storeInOwnDict (.ref x) (.ref 38) (.str name tk) name v false) (fun fin s' => ∃ u, fin = .done (.ret u) ∧ Q () s') (fun _ _ => False) { s with toks := s.toks + 1 }) :
    wpAny (model prog w) A (setAttr (.ref x) name v) Q E s := by
  refine set_plain X I (sig_set _) ?_
  have key : ∀ R : Result → Shared → Prop, (∀ u s', Q () s' → R (.ok (.ret u)) s') → codeAny (model prog w) A (.call (.builtin "object.__setattr__") ⟨[.ref x, .str name s.toks, v], []⟩) R { s with toks := s.toks + 1 } := by
    intro R hR
    obtain ⟨hh, g, d, t, os⟩ := s
    refine codeAny_call_builtin PySem.F.store_Exception.slot.plain PySem.F.store_Exception.entry (sig_check X I.at_ I.cls ?_)
    rw [osa_eq, refuse_eq]
    refine wpAny_bind (wpAny_bind (I.type.at (wpAny_bind ((sig_mro X).at ?_))))
    rw [sig_refuse]
    refine wpAny_pure (wpAny_bind (I.type.at (wpAny_bind ((looks_findIn X hn).at (wpAny_bind (wpAny_pure ?_))))))
    refine wpAny_mono (h _ t) (fun fin s' z => ?_) fun _ _ z => z.elim
    obtain ⟨u, rfl, z⟩ := z
    exact hR u s' z
  exact key _ fun u s' z => z
end
section
open Builtin Builtin.ObjectAttr
section
variable {prog : Program} {w : World} {A : Around} {E : Value → Shared → Prop} {s : Shared}

theorem sig_tail {dx : Addr} {name : Str} {v : Value} {tk : Tok} {m : Str → Option Value} {ns : List Str} {Q : Fin → Shared → Prop} (hns : s.heap.Ns1 dx m) (hw : Within m ns) (hsz : ns.length ≤ 100)
    (h : ∀ h' tk', h'.Ns1 dx (fun y => if y = name then some v else m y) → Heap.SameBut dx s.heap h' → Q (.done (.ret .none)) { s with heap := h', toks := tk' }) : wpAny (model prog w) A (storeInDict dx (.str name tk) name v) Q E s := by
  unfold storeInDict newKeyGuard
  refine wpAny_bind (wpAny_pure (wpAny_bind (wpAny_nsSet1 hns fun h' hn' hs => ?_)))
  obtain ⟨oD, esD, epD, hoD, hdD, hcD⟩ := hn'.count (Within.cons name v hw)
  refine wpAny_bind (wpAny_lookBehind hoD (by rw [hdD]; exact pastItsLine_dict (Nat.le_trans hcD (by rw [List.length_cons, sizeLine_eq]; omega))) ?_)
  exact wpAny_pure (h h' _ hn' hs)
theorem sig_store0 {x : Addr} {vs : Array Value} {sl : Array (Option Value)} {name : Str} {v : Value} {Q : Unit → Shared → Prop} (X : (KF w.params).In s.heap) (hx : s.heap.get? x = some { cls := .ref 38, data := .fields vs, slots := sl }) (hn : findIn (KF w.params) (.ref 38) name = some none)
    (h : ∀ h' tk, h'.get? x = some { cls := .ref 38, dict := some s.heap.objs.size, data := .fields vs, slots := sl } → h'.Ns1 s.heap.objs.size (fun y => if y = name then some v else none) → (∀ b o, b ≠ x → s.heap.get? b = some o → h'.get? b = some o) → Q () { s with heap := h', toks := tk }) :
    wpAny (model prog w) A (setAttr (.ref x) name v) Q E s := by
  refine sig_osa (od := none) X ⟨hx, rfl, rfl, trivial⟩ hn fun A' tk => ?_
  refine wpAny_bind (wpAny_pure (wpAny_bind (wpAny_bind (wpAny_loadPart hx (wpAny_bind (Looks.here (s := { s with toks := s.toks + 1 }) (looks_clsIn X (sig_cls _)) ?_))))))
  dsimp only [sigCd]
  have hx₁ : (s.heap.push { cls := .type "dict", data := .dict #[] }).get? x = some { cls := .ref 38, data := .fields vs, slots := sl } := Heap.get?_push_of_some _ hx
  have hxs : x ≠ s.heap.objs.size := Nat.ne_of_lt (Heap.lt_size hx)
  simp only [Bool.not_true, Bool.false_eq_true, if_false, typeHasDict, Bool.or_self]
  refine wpAny_bind (wpAny_alloc (wpAny_bind (wpAny_update hx₁ (wpAny_pure ?_))))
  have hnd : ((s.heap.push { cls := .type "dict", data := .dict #[] }).update x fun o => { cls := o.cls, dict := some s.heap.objs.size, data := o.data, slots := o.slots }).Ns s.heap.objs.size (fun _ => none) :=
    ⟨_, #[], _, (Heap.get?_update_ne _ _ _ _ hxs.symm).trans (Heap.get?_push_at rfl rfl), rfl, fun e he => absurd he (by simp), fun _ => rfl⟩
  refine sig_tail (Heap.Ns1.of_empty hnd) Within.nil (by decide) fun h' tk' hn' hs => ⟨_, rfl, h h' tk' ((hs.2 x hxs).trans (Heap.get?_update_self _ hx₁ rfl)) hn' fun b o hb e => ?_⟩
  exact (hs.2 b (Nat.ne_of_lt (Heap.lt_size e))).trans ((Heap.get?_update_ne _ _ _ _ hb).trans (Heap.get?_push_of_some _ e))
theorem sig_store1 {x dx : Addr} {o : Obj} {vs : Array Value} {sl : Array (Option Value)} {name : Str} {v : Value} {m : Str → Option Value} {ns : List Str} {Q : Unit → Shared → Prop} (X : (KF w.params).In s.heap) (hx : s.heap.get? x = some { cls := .ref 38, dict := some dx, data := .fields vs, slots := sl })
    (ho : s.heap.get? dx = some o) (hns : s.heap.Ns1 dx m) (hw : Within m ns) (hsz : ns.length ≤ 100) (hn : findIn (KF w.params) (.ref 38) name = some none)
    (h : ∀ h' tk, h'.Ns1 dx (fun y => if y = name then some v else m y) → Heap.SameBut dx s.heap h' → Q () { s with heap := h', toks := tk }) :
    wpAny (model prog w) A (setAttr (.ref x) name v) Q E s := by
  refine sig_osa (od := some o) X ⟨hx, rfl, rfl, ho⟩ hn fun A' tk => ?_
  refine wpAny_bind (wpAny_pure (wpAny_bind (wpAny_bind (wpAny_loadPart hx (wpAny_bind (Looks.here (s := { s with toks := s.toks + 1 }) (looks_clsIn X (sig_cls _)) ?_))))))
  dsimp only [sigCd]
  simp only [Bool.not_true, Bool.false_eq_true, if_false]
  refine wpAny_pure (a := some dx) ?_
  exact sig_tail (s := { s with toks := s.toks + 1 }) hns hw hsz fun h' tk' hn' hs => ⟨_, rfl, h h' tk' hn' hs⟩

theorem ns1_look {h : Heap} {dx : Addr} {o : Obj} {m : Str → Option Value} {name : Str} {v : Value} (hns : h.Ns1 dx m) (ho : h.get? dx = some o) (hv : m name = some v) : lookIn name o = some (some v) := by
  obtain ⟨o', es, ep, e, hd, _, _, hf⟩ := hns
  rw [ho] at e
  cases e
  unfold lookIn
  rw [hd]
  dsimp only
  have := hf name
  rw [hv] at this
  unfold nsFind findBy at this
  rw [← Array.find?_toList] at this
  cases q : es.toList.find? (fun x => x.key.isStr name) with
  | none => rw [q] at this; cases this
  | some e => rw [q] at this; cases this; rfl
theorem sig_hasDict (P : Params) : hasDictIn (KF P) 38 = true := by kernel_rfl
theorem sig_ga (P : Params) : findIn (KF P) (.ref 38) "__getattribute__" = some (some (.builtin "BaseException.__getattribute__")) := by kernel_rfl
theorem sig_noga (P : Params) : findIn (KF P) (.ref 38) "__getattr__" = some none := by kernel_rfl
theorem sig_base (P : Params) : mroIn (KF P) 38 (.type "BaseException") = some true := by kernel_rfl
theorem sig_get {x dx : Addr} {vs : Array Value} {sl : Array (Option Value)} {name : Str} {v : Value} {m : Str → Option Value} {expr : Bool} {Q : Value → Shared → Prop} (X : (KF w.params).In s.heap) (hx : s.heap.get? x = some { cls := .ref 38, dict := some dx, data := .fields vs, slots := sl })
    (hns : s.heap.Ns1 dx m) (hv : m name = some v) (hh : handedIn v = true) (hn : findIn (KF w.params) (.ref 38) name = some none) (h : Q v { s with toks := s.toks + 1 }) : wpAny (model prog w) A (getAttr (.ref x) name expr) Q E s := by
  obtain ⟨hp, g, d, t, os⟩ := s
  obtain ⟨o, ho, _⟩ := ns1_obj hns
  have I : InstAt hp x { cls := .ref 38, dict := some dx, data := .fields vs, slots := sl } 38 (some o) := ⟨hx, rfl, rfl, ho⟩
  have L0 := I.type (M := model prog w)
  unfold getAttr getAttrBy
  refine wpAny_bind (wpAny_mkText (wpAny_holding (wpAny_bind (L0.at (wpAny_bind ((looks_findIn X (sig_ga _)).at ?_))))))
  show wpAny _ _ (getAttrByItsOwn _ _ _ _ _ _) _ _ _
  unfold getAttrByItsOwn
  refine wpAny_bind ((show Looks (model prog w) hp (hookBefore (.ref 38)) none from looks_findIn X (sig_noga _)).at ?_)
  refine wpAny_bind (wpAny_attempt ?_)
  have hx0 : (expr && onTheHeap (Value.builtin "BaseException.__getattribute__")) = false := by cases expr <;> rfl
  show wpAny _ _ (callGetattribute _ _ _ _) _ _ _
  unfold callGetattribute
  rw [hx0]
  simp only [Bool.false_eq_true, if_false]
  unfold boundAndCalled
  rw [PySem.F.attr_Exception.ga.bind (.ref x)]
  refine wpAny_bind (wpAny_pure (wpAny_call ?_))
  have sub : Looks (model prog w) hp (isInstance (.ref x) (.type "BaseException")) true := L0.andThen (looks_mroIn X (sig_base _))
  refine codeAny_call_builtin PySem.F.attr_Exception.ga.plain PySem.F.entry_bexc_ga (@check_slot (model prog w) _ _ ⟨hp, g, d, t + 1, os⟩ "BaseException.__getattribute__" "BaseException" "__getattribute__" (.ref x) [.str name t] [] _ (by decide +kernel) (by decide +kernel) sub (PySem.F.args_bexc_ga _ _) ?_)
  have F' : Looks (model prog w) hp (find (.ref x) (.ref 38) name) (.value v) := looks_find X I (findObj_own (sig_hasDict _) hn rfl (ns1_look hns ho hv))
  refine wpAny_bind (wpAny_pure (wpAny_bind (wpAny_pure (wpAny_bind (L0.at (wpAny_bind (F'.at ?_)))))))
  refine wpAny_pure ?_
  show wpAny _ _ (handedOut v) _ _ _
  rw [handedOut_of hh]
  exact wpAny_pure h
end
end
theorem sig_matches {M : Model} {A : Around} {E : Value → Shared → Prop} {s : Shared} {e : Addr} {oe : Obj} {Q : Bool → Shared → Prop} {P : Params} (X : (KF P).In s.heap) (he : s.heap.get? e = some oe) (hcls : oe.cls = .ref 38) (hq : Q true s) : wpAny M A (excMatches (.ref e) (.ref 38)) Q E s := by
  obtain ⟨h, g, d, t, os⟩ := s
  have := @wpAny_excMatches_sub_self M A E _ _ _ _ _ _ _ _ _ _ _ _ _ _ _ _ _ _ h g d t os e oe Q (sig_in X) he hcls (by decide) hq
  exact this
theorem sig_raise {M : Model} {A : Around} {E : Value → Shared → Prop} {s : Shared} {env : Env} {x : Sem Value} {Q : Flow → Shared → Prop} {P : Params} (hh : A.handled = none)
    (h : wpAny M A x (fun v s₁ => ∃ e t dd sl, v = .ref e ∧ (KF P).In s₁.heap ∧ s₁.heap.get? e = some { cls := .ref 38, dict := dd, data := .fields #[.ref t, .none, .none, .none, .bool false, .none], slots := sl } ∧ E (.ref e) s₁) E s) : wpAny M A (raiseStmt env (some x) none) Q E s := by
  have hcB : ([Value.ref 38, .type "Exception", .type "BaseException", .type "object"]).contains (.type "BaseException") = true := by decide
  unfold raiseStmt
  refine wpAny_bind (wpAny_mono h (fun v s₁ h₁ => ?_) fun _ _ x => x)
  obtain ⟨e, t, dd, sl, rfl, X, he, hE⟩ := h₁
  have hC := sig_in X
  obtain ⟨hp, g, d, tk, os⟩ := s₁
  repeat (first | with_reducible refine wpAny_loadPart_at he ?_ | with_reducible refine wpAny_loadPart_at hC ?_ | (with_reducible refine wpAny_isSubtype_exc hC ?_; rw [hcB]) | wp_step)
  exact wpAny_raiseNew_none hh hE

section
variable {G : Gx} {n : Nat} {d : FD} {loc : Locs} {H H' : HH} {X : Str → HH → Prop}

/-! # an exception of the text: made -/
theorem Cl.sig {xs : List V} {P : V → HH → Prop} (hz : xs.length ≤ 16777216) (h : ∀ a, Cd G n (.ref 35) (.ref a :: xs) ((a, .exc true none) :: H) (fun v H' => v.isNone = true ∧ P (.ref a) H') X) : Cl G (n + 1) (.ref 38) xs H P X := Cl.mk fun A c s a S vs hvs Q E p xp => by
  refine wpAny_call (sig_make (G.X.keeps S.F.keep) (by rw [hvs.length, sizeLine_eq]; exact hz) ?_)
  have hk : ∀ b o, s.heap.get? b = some o → ((s.heap.push { cls := .type "tuple", data := .seq vs.toArray }).push { cls := .ref 38, data := .fields #[.ref s.heap.objs.size, .none, .none, .none, .bool false, .none] }).get? b = some o := fun b o e => Heap.get?_push_of_some _ (Heap.get?_push_of_some _ e)
  have hget : ((s.heap.push { cls := .type "tuple", data := .seq vs.toArray }).push { cls := .ref 38, data := .fields #[.ref s.heap.objs.size, .none, .none, .none, .bool false, .none] }).get? (s.heap.objs.size + 1) = some { cls := .ref 38, data := .fields #[.ref s.heap.objs.size, .none, .none, .none, .bool false, .none] } := by heap_get
  have fresh : ∀ a o, s.heap.get? a = some o → a ≠ s.heap.objs.size + 1 := fun a o e => Nat.ne_of_lt (Nat.lt_succ_of_lt (Heap.lt_size e))
  have h0 : G.h₀.get? (s.heap.objs.size + 1) = none := by
    cases q : G.h₀.get? (s.heap.objs.size + 1) with
    | none => rfl
    | some o => exact absurd rfl (fresh _ _ (S.F.keep _ _ q))
  have S' := S.newf (cs := [(s.heap.objs.size + 1, { cls := .ref 38, data := .fields #[.ref s.heap.objs.size, .none, .none, .none, .bool false, .none] })]) .exc0 (S.F.grownK hk) (fun q hq => by
    rcases List.mem_cons.mp hq with rfl | hq
    · exact ⟨hget, Nat.ne_of_gt (Nat.lt_succ_of_lt S.F.ns.lt), h0⟩
    · exact ⟨hk _ _ (S.N q hq).1, (S.N q hq).2⟩) (fun q hq p hp => by
    rw [List.mem_singleton] at hq
    subst hq
    exact fresh _ _ (S.N p hp).1) (by simp)
  have aU : AOk (A.under (.builtin "type.__call__" ⟨.ref 38 :: vs, []⟩)) { c with ow := [(s.heap.objs.size + 1, { cls := .ref 38, data := .fields #[.ref s.heap.objs.size, .none, .none, .none, .bool false, .none] })] ++ c.ow } n :=
    ⟨a.fr, a.hd, by have := a.dp; show A.depth + 1 + n < _; omega, by have := a.un; show A.units + 1 + 8 * n < _; omega⟩
  refine (h _).use _ _ { s with heap := _ } aU S' _ (.cons (.ref _) hvs) _ (fun v y H' c' h'' tk hp l m S'' rv => ⟨?_, ?_⟩) fun e y H' c' h'' tk hx l f => xp e y H' c' h'' tk hx (Le.trans (Le.ow c _) l) f
  · have := rv.isNone
    rw [hp.1] at this
    simpa using this
  · exact p (.ref _) (.ref _) H' c' h'' tk hp.2 ((Le.ow c _).trans l) m S'' (.ref _)

theorem Sa.exc0 {a : Addr} {x : Str} {v : V} {P : HH → Prop} (hx : x ∈ fldOf 38) (hn : ∀ P, findIn (KF P) (.ref 38) x = some none) (U : UpH a (.exc true none) (.exc true (some [(x, v)])) H H') (h : P H') : Sa G n (.ref a) x v H P X := fun A c s ao S vo vv ro rv Q E p xp => by
  obtain rfl := ro.ref_inv
  obtain ⟨pre, cs, post, e, hO, k⟩ := RH.split U S.R
  cases hO with
  | @exc0 t =>
    have ma : (a, ({ cls := .ref 38, data := .fields #[.ref t, .none, .none, .none, .bool false, .none] } : Obj)) ∈ c.ow := by rw [e]; simp
    have Na := S.N _ (List.mem_append_left _ ma)
    refine sig_store0 (G.X.keeps S.F.keep) Na.1 (hn _) fun h' tk hx' hns hk => ?_
    obtain ⟨od, hod, hod'⟩ := ns1_obj hns
    have hL : a ≠ c.env.locals := Na.2.1
    have ap := S.apart (pre := pre) (post := post) (d := a) (by rw [e]; rfl)
    have hsz : ∀ p ∈ c.ow ++ (c.fr ++ c.fz), p.1 ≠ s.heap.objs.size := S.fresh
    have h0 : G.h₀.get? s.heap.objs.size = none := by
      cases q : G.h₀.get? s.heap.objs.size with
      | none => rfl
      | some o => exact absurd (Heap.lt_size (S.F.keep _ _ q)) (Nat.lt_irrefl _)
    have F' : Fr G.h₀ c.env.locals h' c.m := kmk_fr S.F (fun b o hb => hk b o fun q => hb (by rw [q]; exact List.mem_singleton_self _)) hL Na.2.2
    have old : ∀ p ∈ pre ++ (post ++ (c.fr ++ c.fz)), h'.get? p.1 = some p.2 ∧ p.1 ≠ c.env.locals ∧ G.h₀.get? p.1 = none := fun p hp => by
      have m : p ∈ c.ow ++ (c.fr ++ c.fz) := by
        rw [e]
        simp only [List.mem_append, List.mem_cons, List.append_assoc, List.cons_append, List.nil_append] at hp ⊢
        rcases hp with h | h | h | h <;> simp [h]
      have ne : p.1 ≠ a := by
        rcases List.mem_append.mp hp with h | h
        · exact ap.1 p h
        · exact ap.2 p h
      exact ⟨hk _ _ ne (S.N p m).1, (S.N p m).2⟩
    have nd := S.nd
    rw [e] at nd
    have hRO : RO c.fz a (.exc true (some [(x, v)])) [(a, { cls := .ref 38, dict := some s.heap.objs.size, data := .fields #[.ref t, .none, .none, .none, .bool false, .none], slots := #[] }), (s.heap.objs.size, od)] := by
      refine .exc1 (fun _ => ⟨t, rfl⟩) (fun h e => hod' h e) ?_ ?_
      · intro y hy
        by_cases q : y = x
        · rw [q]; exact hx
        · exact absurd (if_neg q) hy
      · intro p hp
        rw [List.mem_singleton] at hp
        subst hp
        exact ⟨vv, if_pos rfl, rv⟩
    refine p H' { c with ow := pre ++ ([(a, { cls := .ref 38, dict := some s.heap.objs.size, data := .fields #[.ref t, .none, .none, .none, .bool false, .none], slots := #[] }), (s.heap.objs.size, od)] ++ post) } h' tk h (Le.ow c _) rfl
      { F := F', R := k _ hRO, fo := S.fo, fk := S.fk, fd := S.fd, kind := S.kind, lf := S.lf, N := fun p hp => ?_, nd := ?_, zz := fun p hp q hq => ?_ }
    · simp only [List.append_assoc, List.cons_append, List.nil_append, List.mem_append, List.mem_cons] at hp
      rcases hp with h | rfl | rfl | h
      · exact old p (by simp [h])
      · exact ⟨hx', Na.2⟩
      · exact ⟨hod, Nat.ne_of_gt S.F.ns.lt, h0⟩
      · exact old p (by simp only [List.mem_append]; rcases h with h | h | h <;> simp [h])
    · have fr' : ∀ y ∈ (pre ++ ([(a, ({ cls := .ref 38, data := .fields #[.ref t, .none, .none, .none, .bool false, .none] } : Obj))] ++ post) ++ c.fr).map (·.1), y ≠ s.heap.objs.size := fun y hy => by
        obtain ⟨p, hp, rfl⟩ := List.mem_map.mp hy
        rw [← e] at hp
        exact hsz p (by simp only [List.mem_append] at hp ⊢; rcases hp with h | h <;> simp [h])
      simp only [List.map_append, List.map_cons, List.append_assoc, List.cons_append, List.nil_append, List.map_nil] at nd fr' ⊢
      obtain ⟨n1, n2, n3⟩ := List.nodup_append.mp nd
      obtain ⟨n4, n5⟩ := List.nodup_cons.mp n2
      refine List.nodup_append.mpr ⟨n1, List.nodup_cons.mpr ⟨fun m => ?_, List.nodup_cons.mpr ⟨fun m => fr' _ (by simp only [List.mem_append, List.mem_cons] at m ⊢; rcases m with h | h <;> simp [h]) rfl, n5⟩⟩, fun y hy z hz q => ?_⟩
      · rcases List.mem_cons.mp m with q | m
        · exact fr' a (by simp) q
        · exact n4 m
      · rcases List.mem_cons.mp hz with rfl | hz
        · exact n3 y hy _ (.head _) q
        · rcases List.mem_cons.mp hz with rfl | hz
          · exact fr' y (by simp [hy]) q
          · exact n3 y hy z (.tail _ hz) q
    · simp only [List.append_assoc, List.cons_append, List.nil_append, List.mem_append, List.mem_cons] at hp
      rcases hp with h | rfl | rfl | h
      · exact S.zz p (by rw [e]; simp [h]) q hq
      · exact S.zz _ (List.mem_append_left _ ma) q hq
      · exact fun z => hsz q (by simp [hq]) z.symm
      · exact S.zz p (by rw [e]; simp only [List.mem_append, List.mem_cons]; rcases h with h | h <;> simp [h]) q hq
end
section
variable {G : Gx} {n : Nat} {d : FD} {loc : Locs} {H H' : HH} {X : Str → HH → Prop}

/-- a second store into an exception of the text -/
theorem Sa.exc1 {a : Addr} {x : Str} {v : V} {fs : List (Str × V)} {P : HH → Prop} (hx : x ∈ fldOf 38) (hn : ∀ P, findIn (KF P) (.ref 38) x = some none) (hf : FNo x fs) (U : UpH a (.exc true (some fs)) (.exc true (some ((x, v) :: fs))) H H') (h : P H') : Sa G n (.ref a) x v H P X := fun A c s ao S vo vv ro rv Q E p xp => by
  obtain rfl := ro.ref_inv
  obtain ⟨pre, cs, post, e, hO, k⟩ := S.setc U
  cases hO with
  | @exc1 dx o _ vs sl m _ h0 h1 h2 h3 =>
    have e' : c.ow = (pre ++ [(a, sigObj (some dx) vs sl)]) ++ (dx, o) :: post := by rw [e]; simp [sigObj]
    have ap := S.apart e'
    have N := S.N
    have eN : c.ow ++ (c.fr ++ c.fz) = (pre ++ [(a, sigObj (some dx) vs sl)]) ++ (dx, o) :: (post ++ (c.fr ++ c.fz)) := by rw [e']; simp
    rw [eN] at N
    have Na := N (a, sigObj (some dx) vs sl) (by simp)
    have Nd := N (dx, o) (by simp)
    refine sig_store1 (G.X.keeps S.F.keep) Na.1 Nd.1 (h1 _ Nd.1) h2 (by decide) (hn _) fun h' tk hns hs => ?_
    obtain ⟨od, hod, hod'⟩ := ns1_obj hns
    refine p H' { c with ow := pre ++ ([(a, sigObj (some dx) vs sl), (dx, od)] ++ post) } h' tk h (Le.ow c _) rfl (k [(a, sigObj (some dx) vs sl), (dx, od)] h' (.exc1 h0 (fun h e => hod' h e) (fun y hy => ?_) fun p hp => ?_) rfl (S.F.change hs Nd.2.1 Nd.2.2) ?_)
    · by_cases q : y = x
      · rw [q]; exact hx
      · refine h2 y ?_
        rwa [if_neg q] at hy
    · rcases List.mem_cons.mp hp with rfl | hp
      · exact ⟨vv, if_pos rfl, rv⟩
      · obtain ⟨u, e1, r1⟩ := h3 p hp
        exact ⟨u, by rw [if_neg (hf.ne p hp)]; exact e1, r1⟩
    · have := news_set N ap.1 ap.2 hs hod
      simpa using this

/-! # raise -/
theorem E1.raise {e : Expr} {pos : Pos} {Pn : Locs → HH → Prop} {Pr : V → HH → Prop} (h : Ev G n d loc H e (fun v H₁ => ∃ a fs y H₂, v = .ref a ∧ H₁.Perm ((a, .exc true (some fs)) :: H₂) ∧ (("symbol" : Str), V.str y) ∈ fs ∧ X y H₂) X) : E1 G n d loc H (.Raise (some e) none pos) Pn Pr X := by
  refine E1.mk fun A c s he a S r Q E p xp => ?_
  rw [arm_exec_Raise]
  refine wpAny_bind (wpAny_standAt ?_)
  show wpAny G.M A (raiseStmt c.env (some (do let v ← eval e c.env; standAt pos; pure v)) none) Q E s
  refine sig_raise (P := G.w.params) a.hd ?_
  refine wpAny_bind (h.then he a S r xp fun v x H₁ c₁ h₁ t₁ hp l m S₁ rv => wpAny_bind (wpAny_standAt (wpAny_pure ?_)))
  obtain ⟨ea, fs, y, H₂, rfl, pm, hy, hX⟩ := hp
  obtain rfl := rv.ref_inv
  obtain ⟨c₂, l₂, m₂, z₂, S₂⟩ := S₁.perm pm
  obtain ⟨env, outer, mm, fr, ow, fz⟩ := c₂
  have R := S₂.R
  dsimp only at R
  cases R with
  | @cons _ _ cs ow' _ hO hR =>
    cases hO with
    | @exc1 dx o _ vs sl mo _ h0 h1 h2 h3 =>
      obtain ⟨t, rfl⟩ := h0 rfl
      have Ne := S₂.N (ea, _) (List.mem_append_left _ (.head _))
      have Nd := S₂.N (dx, o) (List.mem_append_left _ (.tail _ (.head _)))
      have nd := S₂.nd
      simp only [List.cons_append, List.nil_append, List.map_cons, List.nodup_cons, List.mem_cons, not_or] at nd
      have zz := S₂.zz
      have off : ∀ {q : Addr × Obj}, q ∈ ow' ++ (fr ++ fz) → q.1 ≠ ea ∧ q.1 ≠ dx := fun {q} hq => by
        rw [← List.append_assoc] at hq
        rcases List.mem_append.mp hq with hq | hq
        · have hm : q.1 ∈ (ow' ++ fr).map (·.1) := List.mem_map_of_mem hq
          exact ⟨fun z => nd.1.2 (z ▸ hm), fun z => nd.2.1 (z ▸ hm)⟩
        · exact ⟨fun z => zz (ea, _) (List.mem_append_left _ (.head _)) q hq z.symm, fun z => zz (dx, o) (List.mem_append_left _ (.tail _ (.head _))) q hq z.symm⟩
      have nd' : ((ow' ++ fr).map (·.1)).Nodup := nd.2.2
      have S₃ : Sat G.h₀ ⟨env, outer, mm, fr, ow', fz⟩ H₂ h₁ := S₂.sub hR (fun p hp => List.mem_append_right _ hp) nd'
      obtain ⟨u, hu, ru⟩ := h3 _ hy
      obtain ⟨tu, rfl⟩ := ru.str_inv
      refine ⟨ea, t, some dx, sl, rfl, G.X.keeps S₁.F.keep, Ne.1, ?_⟩
      refine xp (.ref ea) y H₂ ⟨env, outer, mm, fr, ow', fz⟩ h₁ t₁ hX ((l.trans l₂).trans (Le.ow _ _)) ⟨ea, dx, _, rfl, ⟨S₃, ⟨sl, Ne.1⟩, ⟨o, mo, tu, Nd.1, h1, hu⟩, ⟨Ne.2.1, Ne.2.2, fun q hq => (off hq).1⟩, ⟨Nd.2.1, Nd.2.2, fun q hq => (off hq).2⟩, fun z => nd.1.1 z.symm⟩, .inl rfl⟩

/-! # try, with one clause that gives back the symbol -/
theorem E1.tryRet {body : List Stmt} {nm : Str} {p1 p2 p3 p4 p5 pos : Pos} {Pn : Locs → HH → Prop} {Pr : V → HH → Prop} (hg : nsIn (KF G.w.params) mainGlobals "LispSignal" = some (some (.ref 38))) (hk : d.isG "LispSignal" = true) (hl : d.isL nm = true)
    (h : Es G n d loc H body Pn Pr (fun y H' => Pr (.str y) H')) :
    E1 G n d loc H (.Try body [.ExceptHandler (some (.Name "LispSignal" p1)) (some nm) [.Return (some (.Attribute (.Name nm p2) "symbol" p3)) p4] p5] [] [] pos) Pn Pr X := by
  refine E1.mk fun A c s he a S r Q E p xp => wpAny_Try_except (h.use A c s he a S r _ _ ⟨fun loc' H' c' h' tk hp l S' r' => ?_, fun v x H' c' h' tk hp l S' rv => p.2 v x H' c' h' tk hp l S' rv⟩ fun ev y H' c' h' tk hx l hf => ?_)
  · exact wpAny_execs_nil (p.1 loc' H' c' h' tk hp l S' r')
  · obtain ⟨e, dx, vs, rfl, B, t⟩ := hf
    have hA : A.frames = some (c'.env :: c'.outer) := by rw [a.fr, l.env, l.outer]
    have he' := l.envd he
    rw [← l.env]
    refine note_run (s := { s with heap := h', toks := tk }) hA B t fun h₁ c₁ vs₁ l₁ m₁ B₁ t₁ => ?_
    rw [← l₁.env]
    refine land_run (s := { s with heap := h₁, toks := tk }) B₁ t₁ fun h₂ B₂ t₂ => ?_
    obtain ⟨k1, k2⟩ := FD.isG_of hk
    obtain ⟨l1, l2⟩ := FD.isL_of hl
    have he₁ := l₁.envd he'
    have hkd := envd_kind (s := { s with heap := h₂, toks := tk }) he₁ B₂.S
    have hK₂ : (KF G.w.params).In h₂ := G.X.keeps B₂.S.F.keep
    obtain ⟨sl, oe⟩ := B₂.oe
    refine wpAny_handleBy_cons (codeAny_handlers_test ?_) (by intro q; cases q)
    rw [he₁]
    refine name_K (s := { s with heap := h₂, toks := tk }) B₂.S.F G.X G.T hg ?_ hkd k1 k2
    refine sig_matches (s := { s with heap := h₂, toks := tk }) hK₂ oe rfl ?_
    dsimp only [if_true]
    refine codeAny_handlers_suite_as ?_
    rw [← he₁]
    refine land_run (s := { s with heap := h₂, toks := tk }) B₂ t₂ fun h₃ B₃ t₃ => ?_
    refine wpAny_storeName_local (by rw [he₁]; show d.sc.names.lookup nm = _; exact l1) B₃.S.F.ns (fun h₄ hn₄ hs₄ => ?_) (by rw [he₁]; show (d.sc.kind == .class || (d.sc.kind == .module && _)) = false; rw [hkd]; rfl)
    have S₄ := B₃.S.store hn₄ hs₄
    obtain ⟨sl₃, oe₃⟩ := B₃.oe
    obtain ⟨od, mo, tu, od₃, hod, hsy⟩ := B₃.od
    have oe₄ := (hs₄.2 _ B₃.fe.1).trans oe₃
    have od₄ := (hs₄.2 _ B₃.fd.1).trans od₃
    refine wpAny_execs_cons (wpAny_Return_some (Attribute_any_ ?_ rfl))
    rw [he₁]
    refine ld S₄.F (if_pos rfl) ?_ hkd l1 l2
    refine sig_get (G.X.keeps S₄.F.keep) oe₄ (hod _ od₄) hsy rfl ?_ ?_
    · kernel_rfl
    · rw [← he₁]
      refine wpAny_nameGoes (m := fun y => if y = nm then some (.ref e) else c₁.m y) (by rw [he₁]; show d.sc.names.lookup nm = _; exact l1) hn₄ (by rw [he₁]; show (d.sc.kind == .class || (d.sc.kind == .module && _)) = false; rw [hkd]; rfl) fun h₅ m₅ hn₅ hs₅ => ?_
      have S₅ : Sat G.h₀ { c₁ with m := m₅ } H' h₅ := { S₄ with F := S₄.F.set hn₅ hs₅, N := S₄.N.set hs₅ }
      exact p.2 _ (.str y) H' _ h₅ _ hx ((l.trans l₁).trans (Le.mm c₁ m₅)) S₅ (.str y tu)
end
section
open PySem.SeqAt
/-! # equal values -/
inductive EqV : Nat → V → V → Prop
  | int (k : Nat) (i : Int) : EqV k (.int i) (.int i)
  | str (k : Nat) (x : Str) : EqV k (.str x) (.str x)
  | lst {k : Nat} {xs ys : List V} : xs.length = ys.length → (∀ (j : Nat) (x y : V), xs[j]? = some x → ys[j]? = some y → EqV k x y) → EqV (k + 1) (.lst xs) (.lst ys)
  | tup {k : Nat} {xs ys : List V} : xs.length = ys.length → (∀ (j : Nat) (x y : V), xs[j]? = some x → ys[j]? = some y → EqV k x y) → EqV (k + 1) (.tup xs) (.tup ys)
  | dct {k : Nat} {xs ys : List (Int × V)} (f : Int → V) : xs.length = ys.length → (∀ p ∈ xs, dget ys p.1 = some (f p.1)) → (∀ p ∈ xs, EqV k p.2 (f p.1)) → EqV (k + 1) (.dct xs) (.dct ys)
theorem RVs.ats {z : Cells} {vs : List Value} {xs : List V} (r : RVs z vs xs) {j : Nat} (h : j < vs.length) : ∃ x, xs[j]? = some x ∧ RV z vs[j] x := by
  have h' : j < xs.length := by rw [← r.length]; exact h
  obtain ⟨v, e, rv⟩ := r.at (List.getElem?_eq_getElem h')
  rw [List.getElem?_eq_getElem h] at e
  cases e
  exact ⟨_, List.getElem?_eq_getElem h', rv⟩
theorem all_true (n : Nat) : (List.range n).all (fun _ => true) = true := by simp
theorem hits_of {A : Around} {s : Shared} {z : Cells} {kb : List (Int × Value)} : ∀ {ka : List (Int × Value)} {xs : List (Int × V)}, RE z ka xs → (∀ p ∈ xs, ∃ u, dget kb p.1 = some u ∧ ∀ v, RV z v p.2 → EqAt A s v u true) → KeqHits A s kb ka true
  | _, _, .nil, _ => .nil
  | _, _, .cons (k := j) (v := v) (x := x) rv re, h => by
    obtain ⟨u, eu, f⟩ := h (j, x) (.head _)
    exact KeqHits.hit (K := Int) (by rw [valueAt_dget]; exact eu) (f v rv) (hits_of re fun p hp => h p (.tail _ hp))
theorem EqV.at {s : Shared} (prog : Program) (w : World) {z : Cells} (hz : ∀ p ∈ z, s.heap.get? p.1 = some p.2) {k : Nat} {x y : V} (h : EqV k x y) : ∀ {va vb : Value} {A : Around}, RV z va x → RV z vb y → A.units + k < cLine → EqAt A s va vb true := by
  induction h with
  | int k i =>
    intro va vb A ra rb hu
    obtain ⟨t, rfl⟩ := ra.int_inv
    obtain ⟨u, rfl⟩ := rb.int_inv
    have := EqAt.int_int (A := A) (s := s) i t i u
    rwa [beq_self_eq_true] at this
  | str k x =>
    intro va vb A ra rb hu
    obtain ⟨t, rfl⟩ := ra.str_inv
    obtain ⟨u, rfl⟩ := rb.str_inv
    have := EqAt.str_str (A := A) (s := s) x t x u
    rwa [beq_self_eq_true] at this
  | @lst k xs ys hl he ih =>
    intro va vb A ra rb hu
    cases ra with
    | @lst a oa vs _ ma ia r1 =>
      cases rb with
      | @lst b ob us _ mb ib r2 =>
        have la := ia.isList (hz _ ma)
        have lb := ib.isList (hz _ mb)
        by_cases hab : a = b
        · subst hab; exact EqAt.same _
        · have hsz : vs.toArray.size = us.toArray.size := by rw [List.size_toArray, List.size_toArray, r1.length, r2.length, hl]
          refine EqAt.of_refs hab ?_
          have := RcAt.lists (A := A) (e := fun _ => true) la lb hsz (by omega) fun j h1 h2 => ?_
          · rwa [all_true] at this
          · rw [List.size_toArray] at h1 h2
            obtain ⟨x, ex, rx⟩ := r1.ats h1
            obtain ⟨y, ey, ry⟩ := r2.ats h2
            simpa using ih j x y ex ey (A := A.in1) rx ry (by show A.units + 1 + k < cLine; omega)
  | @tup k xs ys hl he ih =>
    intro va vb A ra rb hu
    cases ra with
    | @tup a oa vs _ ma ia r1 =>
      cases rb with
      | @tup b ob us _ mb ib r2 =>
        have la : s.heap.IsTuple a vs.toArray := ⟨oa, hz _ ma, ia.1, ia.2⟩
        have lb : s.heap.IsTuple b us.toArray := ⟨ob, hz _ mb, ib.1, ib.2⟩
        by_cases hab : a = b
        · subst hab; exact EqAt.same _
        · have hsz : vs.toArray.size = us.toArray.size := by rw [List.size_toArray, List.size_toArray, r1.length, r2.length, hl]
          refine EqAt.of_refs hab ?_
          have := RcAt.tuples (A := A) (e := fun _ => true) la lb (by omega) fun j h1 h2 => ?_
          · rwa [all_true, hsz, beq_self_eq_true, Bool.and_self] at this
          · rw [List.size_toArray] at h1 h2
            obtain ⟨x, ex, rx⟩ := r1.ats h1
            obtain ⟨y, ey, ry⟩ := r2.ats h2
            simpa using ih j x y ex ey (A := A.in1) rx ry (by show A.units + 1 + k < cLine; omega)
  | @dct k xs ys f hl hg he ih =>
    intro va vb A ra rb hu
    cases ra with
    | @dct a oa ka _ ma la ia r1 =>
      cases rb with
      | @dct b ob kb _ mb lb ib r2 =>
        by_cases hab : a = b
        · subst hab; exact EqAt.same _
        · refine EqAt.of_refs hab fun prog w E Q h => ?_
          have hits : KeqHits A.in1 s kb ka true := hits_of r1 fun p hp => let ⟨u, eu, ru⟩ := r2.get (hg p hp); ⟨u, eu, fun v rv => ih p hp (A := A.in1) rv ru (by show A.units + 1 + k < cLine; omega)⟩
          refine keq_eq (knd := intKind prog w) (r := true) la lb (ia.dictOf (hz _ ma) prog w) (ib.dictOf (hz _ mb) prog w) (by omega) (fun _ => hits) ?_
          rw [r1.length, r2.length, hl, beq_self_eq_true, Bool.and_true]
          exact h

section
variable {G : Gx} {n : Nat} {d : FD} {loc : Locs} {H H' : HH} {X : Str → HH → Prop}

theorem Cm.neT {xs ys : List V} {P : Bool → HH → Prop} (hl : xs.length = ys.length) (he : ∀ (j : Nat) (x y : V), xs[j]? = some x → ys[j]? = some y → EqV 4 x y) (h : P false H) : Cm G (n + 1) .NotEq (.tup xs) (.tup ys) H P X := fun A c s a S va vb ra rb Q E p xp => by
  have hz : ∀ p ∈ c.fz, s.heap.get? p.1 = some p.2 := fun p hp => (S.N p (List.mem_append_right _ (List.mem_append_right _ hp))).1
  have hu := a.un
  cases ra with
  | @tup ta oa vs _ ma ia r1 =>
    cases rb with
    | @tup tb ob us _ mb ib r2 =>
      have la : s.heap.IsTuple ta vs.toArray := ⟨oa, hz _ ma, ia.1, ia.2⟩
      have lb : s.heap.IsTuple tb us.toArray := ⟨ob, hz _ mb, ib.1, ib.2⟩
      have hsz : vs.toArray.size = us.toArray.size := by rw [List.size_toArray, List.size_toArray, r1.length, r2.length, hl]
      refine RcNeAt.tuples (A := A) (e := fun _ => true) la lb (by omega) (fun j h1 h2 => ?_) G.prog G.w E Q ?_
      · rw [List.size_toArray] at h1 h2
        obtain ⟨x, ex, rx⟩ := r1.ats h1
        obtain ⟨y, ey, ry⟩ := r2.ats h2
        simpa using (he j x y ex ey).at G.prog G.w hz (A := A.in1) rx ry (by show A.units + 1 + 4 < cLine; omega)
      · rw [all_true, hsz, beq_self_eq_true, Bool.and_self]
        exact p.now (tk := s.toks) h S

/-! # texts put together -/
theorem Bn.addS {x y : Str} {P : V → HH → Prop} (hz : x.length + y.length ≤ 16777216) (h : P (.str (x ++ y)) H) : Bn G n .Add (.str x) (.str y) H P X := fun A c s a S va vb ra rb Q E p xp => by
  obtain ⟨t, rfl⟩ := ra.str_inv; obtain ⟨u, rfl⟩ := rb.str_inv
  exact PyProof.Rows.add_str (fun t' tk => p.now h S (.str ..)) (by rw [sizeLine_eq]; exact hz)

/-! # a loop over an empty list of ours -/
theorem E1.for0 {x : Str} {tpos pos : Pos} {iter : Expr} {body : List Stmt} {Pn : Locs → HH → Prop} {Pr : V → HH → Prop} (hf : ∀ L v, foldedSetIterable iter (d.env L) v = pure v)
    (h : Ev G n d loc H iter (fun v H₁ => ∃ a, v = .ref a ∧ (a, .list []) ∈ H₁ ∧ Pn loc H₁) X) : E1 G n d loc H (.For (.Name x tpos) iter body [] pos) Pn Pr X := by
  refine E1.mk fun A c₀ s₀ he₀ a₀ S₀ r₀ Q E p₀ xp₀ => wpAny_For (h.then he₀ a₀ S₀ r₀ xp₀ fun vo y H₁ c h t hp l₀ m₀ S rv => ?_) (by rw [he₀]; exact hf _)
  obtain ⟨b, rfl, m, hP⟩ := hp
  obtain rfl := rv.ref_inv
  have a := a₀.le l₀
  obtain ⟨o, vs, ho, i, r⟩ := S.getList m
  cases r
  have hl := i.isList ho
  have hne : b ≠ h.objs.size := Nat.ne_of_lt (Heap.lt_size ho)
  have W := Walks.list (prog := G.prog) (w := G.w) a.hd h.objs.size b hne ([] : List Value).toArray
  refine wpAny_pyIter_list hl ?_
  have hL : h.objs.size ≠ c.env.locals := Nat.ne_of_gt S.F.ns.lt
  have h0 : G.h₀.get? h.objs.size = none := by
    cases q : G.h₀.get? h.objs.size with
    | none => rfl
    | some o => exact absurd (Heap.lt_size (S.F.keep _ _ q)) (Nat.lt_irrefl _)
  refine codeAny_forLoop (fun k s' => k = 1 ∧ ∃ h', s' = { s₀ with heap := h', toks := t } ∧ h' = h.push { cls := .type "list_iterator", data := .fields #[.ref b, rawInt 0] }) ?_ 1 ⟨rfl, _, rfl, rfl⟩
  rintro k s' ⟨rfl, h', rfl, rfl⟩
  refine W.done _ _ _ ⟨⟨_, Heap.get?_push_size _ rfl, rfl, rfl⟩, hl.push _⟩ fun h₁ tk₁ hk₁ => ?_
  refine wpAny_execs_nil (p₀.1 loc H₁ c h₁ tk₁ hP l₀ ?_ (l₀.rl m₀ r₀))
  exact (S.kept fun b o e => Heap.get?_push_of_some _ e).off hk₁ hL h0 S.fresh
end
end
noncomputable def d_LispSignal_init : FD := mkFD (mth 2 0) "LispSignal.__init__" "emacs.errors" 194 35 34
theorem ok_LispSignal_init : FnOk d_LispSignal_init := ⟨fun P => by kernel_rfl, by kernel_rfl⟩
noncomputable def d_set_marker : FD := mkFD (stm 7) "set_marker" "emacs.placing" 248 67 66
theorem ok_set_marker : FnOk d_set_marker := ⟨fun P => by kernel_rfl, by kernel_rfl⟩
noncomputable def d_is_many : FD := mkFD (stm 10) "is_many" "emacs.prefixargs" 259 95 94
theorem ok_is_many : FnOk d_is_many := ⟨fun P => by kernel_rfl, by kernel_rfl⟩
noncomputable def d_is_minus : FD := mkFD (stm 11) "is_minus" "emacs.prefixargs" 259 102 101
theorem ok_is_minus : FnOk d_is_minus := ⟨fun P => by kernel_rfl, by kernel_rfl⟩
noncomputable def d_numeric : FD := mkFD (stm 12) "numeric" "emacs.prefixargs" 259 109 108
theorem ok_numeric : FnOk d_numeric := ⟨fun P => by kernel_rfl, by kernel_rfl⟩
noncomputable def d_need_writable : FD := mkFD (stm 14) "need_writable" "emacs.editing" 311 116 115
theorem ok_need_writable : FnOk d_need_writable := ⟨fun P => by kernel_rfl, by kernel_rfl⟩
noncomputable def d_reached : FD := mkFD (stm 15) "reached" "emacs.editing" 311 123 122
theorem ok_reached : FnOk d_reached := ⟨fun P => by kernel_rfl, by kernel_rfl⟩
noncomputable def d_tell_ahead : FD := mkFD (stm 16) "tell_ahead" "emacs.editing" 311 130 129
theorem ok_tell_ahead : FnOk d_tell_ahead := ⟨fun P => by kernel_rfl, by kernel_rfl⟩
noncomputable def d_tell_behind : FD := mkFD (stm 17) "tell_behind" "emacs.editing" 311 137 136
theorem ok_tell_behind : FnOk d_tell_behind := ⟨fun P => by kernel_rfl, by kernel_rfl⟩
noncomputable def d_text_out : FD := mkFD (stm 18) "text_out" "emacs.editing" 311 144 143
theorem ok_text_out : FnOk d_text_out := ⟨fun P => by kernel_rfl, by kernel_rfl⟩
noncomputable def d_text_in : FD := mkFD (stm 19) "text_in" "emacs.editing" 311 151 150
theorem ok_text_in : FnOk d_text_in := ⟨fun P => by kernel_rfl, by kernel_rfl⟩
noncomputable def d_hung_out : FD := mkFD (stm 20) "hung_out" "emacs.editing" 311 158 157
theorem ok_hung_out : FnOk d_hung_out := ⟨fun P => by kernel_rfl, by kernel_rfl⟩
noncomputable def d_hung_in : FD := mkFD (stm 21) "hung_in" "emacs.editing" 311 165 164
theorem ok_hung_in : FnOk d_hung_in := ⟨fun P => by kernel_rfl, by kernel_rfl⟩
noncomputable def d_put_in : FD := mkFD (stm 22) "put_in" "emacs.editing" 311 172 171
theorem ok_put_in : FnOk d_put_in := ⟨fun P => by kernel_rfl, by kernel_rfl⟩
noncomputable def d_insert_at : FD := mkFD (stm 24) "insert_at" "emacs.editing" 311 180 179 (.ref 173)
theorem ok_insert_at : FnOk d_insert_at := ⟨fun P => by kernel_rfl, by kernel_rfl⟩
noncomputable def d_insert : FD := mkFD (stm 25) "insert" "emacs.editing" 311 188 187 (.ref 181)
theorem ok_insert : FnOk d_insert := ⟨fun P => by kernel_rfl, by kernel_rfl⟩
noncomputable def d_delete : FD := mkFD (stm 26) "delete" "emacs.editing" 311 195 194
theorem ok_delete : FnOk d_delete := ⟨fun P => by kernel_rfl, by kernel_rfl⟩
noncomputable def d_Registers_init : FD := mkFD (mth 53 0) "Registers.__init__" "emacs.registers" 620 326 325
theorem ok_Registers_init : FnOk d_Registers_init := ⟨fun P => by kernel_rfl, by kernel_rfl⟩
noncomputable def d_held : FD := mkFD (stm 54) "held" "emacs.registers" 620 340 339
theorem ok_held : FnOk d_held := ⟨fun P => by kernel_rfl, by kernel_rfl⟩
noncomputable def d_put : FD := mkFD (stm 55) "put" "emacs.registers" 620 347 346
theorem ok_put : FnOk d_put := ⟨fun P => by kernel_rfl, by kernel_rfl⟩
noncomputable def d_need : FD := mkFD (stm 56) "need" "emacs.registers" 620 354 353
theorem ok_need : FnOk d_need := ⟨fun P => by kernel_rfl, by kernel_rfl⟩
noncomputable def d_point_to_register : FD := mkFD (stm 57) "point_to_register" "emacs.registers" 620 361 360
theorem ok_point_to_register : FnOk d_point_to_register := ⟨fun P => by kernel_rfl, by kernel_rfl⟩
noncomputable def d_place_of_register : FD := mkFD (stm 58) "place_of_register" "emacs.registers" 620 368 367
theorem ok_place_of_register : FnOk d_place_of_register := ⟨fun P => by kernel_rfl, by kernel_rfl⟩
noncomputable def d_copy_to_register : FD := mkFD (stm 59) "copy_to_register" "emacs.registers" 620 375 374
theorem ok_copy_to_register : FnOk d_copy_to_register := ⟨fun P => by kernel_rfl, by kernel_rfl⟩
noncomputable def d_joined_to_register : FD := mkFD (stm 60) "joined_to_register" "emacs.registers" 620 382 381
theorem ok_joined_to_register : FnOk d_joined_to_register := ⟨fun P => by kernel_rfl, by kernel_rfl⟩
noncomputable def d_number_to_register : FD := mkFD (stm 61) "number_to_register" "emacs.registers" 620 389 388
theorem ok_number_to_register : FnOk d_number_to_register := ⟨fun P => by kernel_rfl, by kernel_rfl⟩
noncomputable def d_increment_register : FD := mkFD (stm 62) "increment_register" "emacs.registers" 620 396 395
theorem ok_increment_register : FnOk d_increment_register := ⟨fun P => by kernel_rfl, by kernel_rfl⟩
noncomputable def d_number_codes : FD := mkFD (stm 63) "number_codes" "emacs.registers" 620 401 400
theorem ok_number_codes : FnOk d_number_codes := ⟨fun P => by kernel_rfl, by kernel_rfl⟩
noncomputable def d_insert_register : FD := mkFD (stm 64) "insert_register" "emacs.registers" 620 408 407
theorem ok_insert_register : FnOk d_insert_register := ⟨fun P => by kernel_rfl, by kernel_rfl⟩
noncomputable def d_do_point_to_register : FD := mkFD (stm 66) "do_point_to_register" "emacs.keepcommands" 764 415 414
theorem ok_do_point_to_register : FnOk d_do_point_to_register := ⟨fun P => by kernel_rfl, by kernel_rfl⟩
noncomputable def d_do_jump_to_register : FD := mkFD (stm 67) "do_jump_to_register" "emacs.keepcommands" 764 422 421
theorem ok_do_jump_to_register : FnOk d_do_jump_to_register := ⟨fun P => by kernel_rfl, by kernel_rfl⟩
noncomputable def d_do_copy_to_register : FD := mkFD (stm 68) "do_copy_to_register" "emacs.keepcommands" 764 429 428
theorem ok_do_copy_to_register : FnOk d_do_copy_to_register := ⟨fun P => by kernel_rfl, by kernel_rfl⟩
noncomputable def d_do_append_to_register : FD := mkFD (stm 69) "do_append_to_register" "emacs.keepcommands" 764 436 435
theorem ok_do_append_to_register : FnOk d_do_append_to_register := ⟨fun P => by kernel_rfl, by kernel_rfl⟩
noncomputable def d_do_prepend_to_register : FD := mkFD (stm 70) "do_prepend_to_register" "emacs.keepcommands" 764 443 442
theorem ok_do_prepend_to_register : FnOk d_do_prepend_to_register := ⟨fun P => by kernel_rfl, by kernel_rfl⟩
noncomputable def d_do_insert_register : FD := mkFD (stm 71) "do_insert_register" "emacs.keepcommands" 764 450 449
theorem ok_do_insert_register : FnOk d_do_insert_register := ⟨fun P => by kernel_rfl, by kernel_rfl⟩
noncomputable def d_do_number_to_register : FD := mkFD (stm 72) "do_number_to_register" "emacs.keepcommands" 764 457 456
theorem ok_do_number_to_register : FnOk d_do_number_to_register := ⟨fun P => by kernel_rfl, by kernel_rfl⟩
noncomputable def d_do_increment_register : FD := mkFD (stm 73) "do_increment_register" "emacs.keepcommands" 764 464 463
theorem ok_do_increment_register : FnOk d_do_increment_register := ⟨fun P => by kernel_rfl, by kernel_rfl⟩
noncomputable def d_GapText_init : FD := mkFD (mth 75 0) "GapText.__init__" "emacs.gap" 836 478 477
theorem ok_GapText_init : FnOk d_GapText_init := ⟨fun P => by kernel_rfl, by kernel_rfl⟩
noncomputable def d_GapText_size : FD := mkFD (mth 75 1) "GapText.size" "emacs.gap" 836 485 484
theorem ok_GapText_size : FnOk d_GapText_size := ⟨fun P => by kernel_rfl, by kernel_rfl⟩
noncomputable def d_GapText_codes : FD := mkFD (mth 75 3) "GapText.codes" "emacs.gap" 836 499 498
theorem ok_GapText_codes : FnOk d_GapText_codes := ⟨fun P => by kernel_rfl, by kernel_rfl⟩
noncomputable def d_GapText_move_gap : FD := mkFD (mth 75 4) "GapText.move_gap" "emacs.gap" 836 506 505
theorem ok_GapText_move_gap : FnOk d_GapText_move_gap := ⟨fun P => by kernel_rfl, by kernel_rfl⟩
noncomputable def d_GapText_widen_gap : FD := mkFD (mth 75 5) "GapText.widen_gap" "emacs.gap" 836 513 512
theorem ok_GapText_widen_gap : FnOk d_GapText_widen_gap := ⟨fun P => by kernel_rfl, by kernel_rfl⟩
noncomputable def d_GapText_insert : FD := mkFD (mth 75 6) "GapText.insert" "emacs.gap" 836 520 519
theorem ok_GapText_insert : FnOk d_GapText_insert := ⟨fun P => by kernel_rfl, by kernel_rfl⟩
noncomputable def d_GapText_delete : FD := mkFD (mth 75 7) "GapText.delete" "emacs.gap" 836 527 526
theorem ok_GapText_delete : FnOk d_GapText_delete := ⟨fun P => by kernel_rfl, by kernel_rfl⟩
noncomputable def d_Marker_init : FD := mkFD (mth 79 0) "Marker.__init__" "emacs.markers" 1000 604 603
theorem ok_Marker_init : FnOk d_Marker_init := ⟨fun P => by kernel_rfl, by kernel_rfl⟩
noncomputable def d_Markers_init : FD := mkFD (mth 80 0) "Markers.__init__" "emacs.markers" 1000 644 643
theorem ok_Markers_init : FnOk d_Markers_init := ⟨fun P => by kernel_rfl, by kernel_rfl⟩
noncomputable def d_Markers_numbers : FD := mkFD (mth 80 1) "Markers.numbers" "emacs.markers" 1000 651 650
theorem ok_Markers_numbers : FnOk d_Markers_numbers := ⟨fun P => by kernel_rfl, by kernel_rfl⟩
noncomputable def d_Markers_put : FD := mkFD (mth 80 2) "Markers.put" "emacs.markers" 1000 658 657
theorem ok_Markers_put : FnOk d_Markers_put := ⟨fun P => by kernel_rfl, by kernel_rfl⟩
noncomputable def d_Markers_inserted : FD := mkFD (mth 80 5) "Markers.inserted" "emacs.markers" 1000 679 678
theorem ok_Markers_inserted : FnOk d_Markers_inserted := ⟨fun P => by kernel_rfl, by kernel_rfl⟩
noncomputable def d_Markers_deleted : FD := mkFD (mth 80 6) "Markers.deleted" "emacs.markers" 1000 686 685
theorem ok_Markers_deleted : FnOk d_Markers_deleted := ⟨fun P => by kernel_rfl, by kernel_rfl⟩
noncomputable def d_Buffer_init : FD := mkFD (mth 82 0) "Buffer.__init__" "emacs.buffer" 1153 715 714 (.ref 708)
theorem ok_Buffer_init : FnOk d_Buffer_init := ⟨fun P => by kernel_rfl, by kernel_rfl⟩
noncomputable def d_Buffer_size : FD := mkFD (mth 82 5) "Buffer.size" "emacs.buffer" 1153 750 749
theorem ok_Buffer_size : FnOk d_Buffer_size := ⟨fun P => by kernel_rfl, by kernel_rfl⟩
noncomputable def d_Buffer_codes : FD := mkFD (mth 82 7) "Buffer.codes" "emacs.buffer" 1153 764 763
theorem ok_Buffer_codes : FnOk d_Buffer_codes := ⟨fun P => by kernel_rfl, by kernel_rfl⟩
noncomputable def d_Buffer_goto : FD := mkFD (mth 82 8) "Buffer.goto" "emacs.buffer" 1153 771 770
theorem ok_Buffer_goto : FnOk d_Buffer_goto := ⟨fun P => by kernel_rfl, by kernel_rfl⟩
noncomputable def d_Buffer_touch : FD := mkFD (mth 82 12) "Buffer.touch" "emacs.buffer" 1153 799 798
theorem ok_Buffer_touch : FnOk d_Buffer_touch := ⟨fun P => by kernel_rfl, by kernel_rfl⟩
noncomputable def d_BufferTable_init : FD := mkFD (mth 84 0) "BufferTable.__init__" "emacs.buffers" 1292 818 817
theorem ok_BufferTable_init : FnOk d_BufferTable_init := ⟨fun P => by kernel_rfl, by kernel_rfl⟩
noncomputable def d_BufferTable_by_number : FD := mkFD (mth 84 1) "BufferTable.by_number" "emacs.buffers" 1292 825 824
theorem ok_BufferTable_by_number : FnOk d_BufferTable_by_number := ⟨fun P => by kernel_rfl, by kernel_rfl⟩
noncomputable def d_BufferTable_by_name : FD := mkFD (mth 84 2) "BufferTable.by_name" "emacs.buffers" 1292 832 831
theorem ok_BufferTable_by_name : FnOk d_BufferTable_by_name := ⟨fun P => by kernel_rfl, by kernel_rfl⟩
noncomputable def d_BufferTable_create : FD := mkFD (mth 84 3) "BufferTable.create" "emacs.buffers" 1292 839 838
theorem ok_BufferTable_create : FnOk d_BufferTable_create := ⟨fun P => by kernel_rfl, by kernel_rfl⟩
noncomputable def d_BufferTable_select : FD := mkFD (mth 84 6) "BufferTable.select" "emacs.buffers" 1292 861 860
theorem ok_BufferTable_select : FnOk d_BufferTable_select := ⟨fun P => by kernel_rfl, by kernel_rfl⟩
noncomputable def d_BufferTable_set_current : FD := mkFD (mth 84 7) "BufferTable.set_current" "emacs.buffers" 1292 868 867
theorem ok_BufferTable_set_current : FnOk d_BufferTable_set_current := ⟨fun P => by kernel_rfl, by kernel_rfl⟩
noncomputable def d_BufferTable_new_marker : FD := mkFD (mth 84 11) "BufferTable.new_marker" "emacs.buffers" 1292 896 895
theorem ok_BufferTable_new_marker : FnOk d_BufferTable_new_marker := ⟨fun P => by kernel_rfl, by kernel_rfl⟩
noncomputable def d_Amalgam_init : FD := mkFD (mth 86 0) "Amalgam.__init__" "emacs.amalgam" 1431 924 923
theorem ok_Amalgam_init : FnOk d_Amalgam_init := ⟨fun P => by kernel_rfl, by kernel_rfl⟩
noncomputable def d_Editor_init : FD := mkFD (mth 88 0) "Editor.__init__" "emacs.editor" 1462 945 944
theorem ok_Editor_init : FnOk d_Editor_init := ⟨fun P => by kernel_rfl, by kernel_rfl⟩
noncomputable def d_Editor_current : FD := mkFD (mth 88 1) "Editor.current" "emacs.editor" 1462 952 951
theorem ok_Editor_current : FnOk d_Editor_current := ⟨fun P => by kernel_rfl, by kernel_rfl⟩
noncomputable def d__law_draw : FD := mkFD (stm 90) "_law_draw" "law_on0076_01" 1675 1092 1091
theorem ok__law_draw : FnOk d__law_draw := ⟨fun P => by kernel_rfl, by kernel_rfl⟩
noncomputable def d__law_pick : FD := mkFD (stm 91) "_law_pick" "law_on0076_01" 1675 1099 1098
theorem ok__law_pick : FnOk d__law_pick := ⟨fun P => by kernel_rfl, by kernel_rfl⟩
noncomputable def d__law_editor : FD := mkFD (stm 92) "_law_editor" "law_on0076_01" 1675 1106 1105
theorem ok__law_editor : FnOk d__law_editor := ⟨fun P => by kernel_rfl, by kernel_rfl⟩
noncomputable def d__law_moved : FD := mkFD (stm 93) "_law_moved" "law_on0076_01" 1675 1113 1112
theorem ok__law_moved : FnOk d__law_moved := ⟨fun P => by kernel_rfl, by kernel_rfl⟩
noncomputable def d__law_taken : FD := mkFD (stm 94) "_law_taken" "law_on0076_01" 1675 1120 1119
theorem ok__law_taken : FnOk d__law_taken := ⟨fun P => by kernel_rfl, by kernel_rfl⟩
noncomputable def d__law_kept : FD := mkFD (stm 95) "_law_kept" "law_on0076_01" 1675 1127 1126
theorem ok__law_kept : FnOk d__law_kept := ⟨fun P => by kernel_rfl, by kernel_rfl⟩
noncomputable def d__law_text : FD := mkFD (stm 96) "_law_text" "law_on0076_01" 1675 1134 1133
theorem ok__law_text : FnOk d__law_text := ⟨fun P => by kernel_rfl, by kernel_rfl⟩
noncomputable def d__law_put : FD := mkFD (stm 97) "_law_put" "law_on0076_01" 1675 1139 1138
theorem ok__law_put : FnOk d__law_put := ⟨fun P => by kernel_rfl, by kernel_rfl⟩
noncomputable def d__law_due : FD := mkFD (stm 98) "_law_due" "law_on0076_01" 1675 1146 1145
theorem ok__law_due : FnOk d__law_due := ⟨fun P => by kernel_rfl, by kernel_rfl⟩
noncomputable def d__law_does : FD := mkFD (stm 99) "_law_does" "law_on0076_01" 1675 1153 1152
theorem ok__law_does : FnOk d__law_does := ⟨fun P => by kernel_rfl, by kernel_rfl⟩
noncomputable def d__law_told : FD := mkFD (stm 100) "_law_told" "law_on0076_01" 1675 1160 1159
theorem ok__law_told : FnOk d__law_told := ⟨fun P => by kernel_rfl, by kernel_rfl⟩
noncomputable def d_law : FD := mkFD (stm 101) "law" "law_on0076_01" 1675 1165 1164
theorem ok_law : FnOk d_law := ⟨fun P => by kernel_rfl, by kernel_rfl⟩
theorem cls_Registers : ClsOk 329 := ⟨fun P => by kernel_rfl⟩
theorem cls_GapText : ClsOk 551 := ⟨fun P => by kernel_rfl⟩
theorem cls_Marker : ClsOk 628 := ⟨fun P => by kernel_rfl⟩
theorem cls_Markers : ClsOk 696 := ⟨fun P => by kernel_rfl⟩
theorem cls_Buffer : ClsOk 802 := ⟨fun P => by kernel_rfl⟩
theorem cls_BufferTable : ClsOk 906 := ⟨fun P => by kernel_rfl⟩
theorem cls_Amalgam : ClsOk 927 := ⟨fun P => by kernel_rfl⟩
theorem cls_Editor : ClsOk 1081 := ⟨fun P => by kernel_rfl⟩
theorem mak_Registers : MakOk 329 326 := ⟨fun P => by kernel_rfl⟩
theorem mak_GapText : MakOk 551 478 := ⟨fun P => by kernel_rfl⟩
theorem mth_GapText_size : MthOk 551 "size" 485 := ⟨fun P => by kernel_rfl, by decide⟩
theorem mth_GapText_codes : MthOk 551 "codes" 499 := ⟨fun P => by kernel_rfl, by decide⟩
theorem mth_GapText_move_gap : MthOk 551 "move_gap" 506 := ⟨fun P => by kernel_rfl, by decide⟩
theorem mth_GapText_widen_gap : MthOk 551 "widen_gap" 513 := ⟨fun P => by kernel_rfl, by decide⟩
theorem mth_GapText_insert : MthOk 551 "insert" 520 := ⟨fun P => by kernel_rfl, by decide⟩
theorem mth_GapText_delete : MthOk 551 "delete" 527 := ⟨fun P => by kernel_rfl, by decide⟩
theorem mak_Marker : MakOk 628 604 := ⟨fun P => by kernel_rfl⟩
theorem mak_Markers : MakOk 696 644 := ⟨fun P => by kernel_rfl⟩
theorem mth_Markers_numbers : MthOk 696 "numbers" 651 := ⟨fun P => by kernel_rfl, by decide⟩
theorem mth_Markers_put : MthOk 696 "put" 658 := ⟨fun P => by kernel_rfl, by decide⟩
theorem mth_Markers_inserted : MthOk 696 "inserted" 679 := ⟨fun P => by kernel_rfl, by decide⟩
theorem mth_Markers_deleted : MthOk 696 "deleted" 686 := ⟨fun P => by kernel_rfl, by decide⟩
theorem mak_Buffer : MakOk 802 715 := ⟨fun P => by kernel_rfl⟩
theorem mth_Buffer_size : MthOk 802 "size" 750 := ⟨fun P => by kernel_rfl, by decide⟩
theorem mth_Buffer_codes : MthOk 802 "codes" 764 := ⟨fun P => by kernel_rfl, by decide⟩
theorem mth_Buffer_goto : MthOk 802 "goto" 771 := ⟨fun P => by kernel_rfl, by decide⟩
theorem mth_Buffer_touch : MthOk 802 "touch" 799 := ⟨fun P => by kernel_rfl, by decide⟩
theorem mak_BufferTable : MakOk 906 818 := ⟨fun P => by kernel_rfl⟩
theorem mth_BufferTable_by_number : MthOk 906 "by_number" 825 := ⟨fun P => by kernel_rfl, by decide⟩
theorem mth_BufferTable_by_name : MthOk 906 "by_name" 832 := ⟨fun P => by kernel_rfl, by decide⟩
theorem mth_BufferTable_create : MthOk 906 "create" 839 := ⟨fun P => by kernel_rfl, by decide⟩
theorem mth_BufferTable_select : MthOk 906 "select" 861 := ⟨fun P => by kernel_rfl, by decide⟩
theorem mth_BufferTable_set_current : MthOk 906 "set_current" 868 := ⟨fun P => by kernel_rfl, by decide⟩
theorem mth_BufferTable_new_marker : MthOk 906 "new_marker" 896 := ⟨fun P => by kernel_rfl, by decide⟩
theorem mak_Amalgam : MakOk 927 924 := ⟨fun P => by kernel_rfl⟩
theorem mak_Editor : MakOk 1081 945 := ⟨fun P => by kernel_rfl⟩
theorem mth_Editor_current : MthOk 1081 "current" 952 := ⟨fun P => by kernel_rfl, by decide⟩
theorem g_LispSignal (P : Params) : nsIn (KF P) mainGlobals "LispSignal" = some (some (.ref 38)) := by kernel_rfl
theorem g_set_marker (P : Params) : nsIn (KF P) mainGlobals "set_marker" = some (some (.ref 67)) := by kernel_rfl
theorem g_Many (P : Params) : nsIn (KF P) mainGlobals "Many" = some (some (.ref 84)) := by kernel_rfl
theorem g_is_many (P : Params) : nsIn (KF P) mainGlobals "is_many" = some (some (.ref 95)) := by kernel_rfl
theorem g_is_minus (P : Params) : nsIn (KF P) mainGlobals "is_minus" = some (some (.ref 102)) := by kernel_rfl
theorem g_numeric (P : Params) : nsIn (KF P) mainGlobals "numeric" = some (some (.ref 109)) := by kernel_rfl
theorem g_need_writable (P : Params) : nsIn (KF P) mainGlobals "need_writable" = some (some (.ref 116)) := by kernel_rfl
theorem g_reached (P : Params) : nsIn (KF P) mainGlobals "reached" = some (some (.ref 123)) := by kernel_rfl
theorem g_tell_ahead (P : Params) : nsIn (KF P) mainGlobals "tell_ahead" = some (some (.ref 130)) := by kernel_rfl
theorem g_tell_behind (P : Params) : nsIn (KF P) mainGlobals "tell_behind" = some (some (.ref 137)) := by kernel_rfl
theorem g_text_out (P : Params) : nsIn (KF P) mainGlobals "text_out" = some (some (.ref 144)) := by kernel_rfl
theorem g_text_in (P : Params) : nsIn (KF P) mainGlobals "text_in" = some (some (.ref 151)) := by kernel_rfl
theorem g_hung_out (P : Params) : nsIn (KF P) mainGlobals "hung_out" = some (some (.ref 158)) := by kernel_rfl
theorem g_hung_in (P : Params) : nsIn (KF P) mainGlobals "hung_in" = some (some (.ref 165)) := by kernel_rfl
theorem g_put_in_editing (P : Params) : nsIn (KF P) mainGlobals "put_in_editing" = some (some (.ref 172)) := by kernel_rfl
theorem g_insert_at (P : Params) : nsIn (KF P) mainGlobals "insert_at" = some (some (.ref 180)) := by kernel_rfl
theorem g_insert (P : Params) : nsIn (KF P) mainGlobals "insert" = some (some (.ref 188)) := by kernel_rfl
theorem g_delete (P : Params) : nsIn (KF P) mainGlobals "delete" = some (some (.ref 195)) := by kernel_rfl
theorem g_Registers (P : Params) : nsIn (KF P) mainGlobals "Registers" = some (some (.ref 329)) := by kernel_rfl
theorem g_held (P : Params) : nsIn (KF P) mainGlobals "held" = some (some (.ref 340)) := by kernel_rfl
theorem g_put (P : Params) : nsIn (KF P) mainGlobals "put" = some (some (.ref 347)) := by kernel_rfl
theorem g_need (P : Params) : nsIn (KF P) mainGlobals "need" = some (some (.ref 354)) := by kernel_rfl
theorem g_point_to_register (P : Params) : nsIn (KF P) mainGlobals "point_to_register" = some (some (.ref 361)) := by kernel_rfl
theorem g_place_of_register (P : Params) : nsIn (KF P) mainGlobals "place_of_register" = some (some (.ref 368)) := by kernel_rfl
theorem g_copy_to_register (P : Params) : nsIn (KF P) mainGlobals "copy_to_register" = some (some (.ref 375)) := by kernel_rfl
theorem g_joined_to_register (P : Params) : nsIn (KF P) mainGlobals "joined_to_register" = some (some (.ref 382)) := by kernel_rfl
theorem g_number_to_register (P : Params) : nsIn (KF P) mainGlobals "number_to_register" = some (some (.ref 389)) := by kernel_rfl
theorem g_increment_register (P : Params) : nsIn (KF P) mainGlobals "increment_register" = some (some (.ref 396)) := by kernel_rfl
theorem g_number_codes (P : Params) : nsIn (KF P) mainGlobals "number_codes" = some (some (.ref 401)) := by kernel_rfl
theorem g_insert_register (P : Params) : nsIn (KF P) mainGlobals "insert_register" = some (some (.ref 408)) := by kernel_rfl
theorem g_do_point_to_register (P : Params) : nsIn (KF P) mainGlobals "do_point_to_register" = some (some (.ref 415)) := by kernel_rfl
theorem g_do_jump_to_register (P : Params) : nsIn (KF P) mainGlobals "do_jump_to_register" = some (some (.ref 422)) := by kernel_rfl
theorem g_do_copy_to_register (P : Params) : nsIn (KF P) mainGlobals "do_copy_to_register" = some (some (.ref 429)) := by kernel_rfl
theorem g_do_append_to_register (P : Params) : nsIn (KF P) mainGlobals "do_append_to_register" = some (some (.ref 436)) := by kernel_rfl
theorem g_do_prepend_to_register (P : Params) : nsIn (KF P) mainGlobals "do_prepend_to_register" = some (some (.ref 443)) := by kernel_rfl
theorem g_do_insert_register (P : Params) : nsIn (KF P) mainGlobals "do_insert_register" = some (some (.ref 450)) := by kernel_rfl
theorem g_do_number_to_register (P : Params) : nsIn (KF P) mainGlobals "do_number_to_register" = some (some (.ref 457)) := by kernel_rfl
theorem g_do_increment_register (P : Params) : nsIn (KF P) mainGlobals "do_increment_register" = some (some (.ref 464)) := by kernel_rfl
theorem g_GapText (P : Params) : nsIn (KF P) mainGlobals "GapText" = some (some (.ref 551)) := by kernel_rfl
theorem g_Marker (P : Params) : nsIn (KF P) mainGlobals "Marker" = some (some (.ref 628)) := by kernel_rfl
theorem g_Markers (P : Params) : nsIn (KF P) mainGlobals "Markers" = some (some (.ref 696)) := by kernel_rfl
theorem g_Buffer (P : Params) : nsIn (KF P) mainGlobals "Buffer" = some (some (.ref 802)) := by kernel_rfl
theorem g_BufferTable (P : Params) : nsIn (KF P) mainGlobals "BufferTable" = some (some (.ref 906)) := by kernel_rfl
theorem g_Amalgam (P : Params) : nsIn (KF P) mainGlobals "Amalgam" = some (some (.ref 927)) := by kernel_rfl
theorem g_Editor (P : Params) : nsIn (KF P) mainGlobals "Editor" = some (some (.ref 1081)) := by kernel_rfl
theorem g_law_draw (P : Params) : nsIn (KF P) mainGlobals "_law_draw" = some (some (.ref 1092)) := by kernel_rfl
theorem g_law_pick (P : Params) : nsIn (KF P) mainGlobals "_law_pick" = some (some (.ref 1099)) := by kernel_rfl
theorem g_law_editor (P : Params) : nsIn (KF P) mainGlobals "_law_editor" = some (some (.ref 1106)) := by kernel_rfl
theorem g_law_moved (P : Params) : nsIn (KF P) mainGlobals "_law_moved" = some (some (.ref 1113)) := by kernel_rfl
theorem g_law_taken (P : Params) : nsIn (KF P) mainGlobals "_law_taken" = some (some (.ref 1120)) := by kernel_rfl
theorem g_law_kept (P : Params) : nsIn (KF P) mainGlobals "_law_kept" = some (some (.ref 1127)) := by kernel_rfl
theorem g_law_text (P : Params) : nsIn (KF P) mainGlobals "_law_text" = some (some (.ref 1134)) := by kernel_rfl
theorem g_law_put (P : Params) : nsIn (KF P) mainGlobals "_law_put" = some (some (.ref 1139)) := by kernel_rfl
theorem g_law_due (P : Params) : nsIn (KF P) mainGlobals "_law_due" = some (some (.ref 1146)) := by kernel_rfl
theorem g_law_does (P : Params) : nsIn (KF P) mainGlobals "_law_does" = some (some (.ref 1153)) := by kernel_rfl
theorem g_law_told (P : Params) : nsIn (KF P) mainGlobals "_law_told" = some (some (.ref 1160)) := by kernel_rfl
theorem g_law (P : Params) : nsIn (KF P) mainGlobals "law" = some (some (.ref 1165)) := by kernel_rfl
theorem b_len (P : Params) : nsIn (KF P) mainGlobals "len" = some none := by kernel_rfl
theorem b_min (P : Params) : nsIn (KF P) mainGlobals "min" = some none := by kernel_rfl
theorem b_max (P : Params) : nsIn (KF P) mainGlobals "max" = some none := by kernel_rfl
theorem b_list (P : Params) : nsIn (KF P) mainGlobals "list" = some none := by kernel_rfl
theorem b_dict (P : Params) : nsIn (KF P) mainGlobals "dict" = some none := by kernel_rfl
theorem b_sorted (P : Params) : nsIn (KF P) mainGlobals "sorted" = some none := by kernel_rfl
theorem b_isinstance (P : Params) : nsIn (KF P) mainGlobals "isinstance" = some none := by kernel_rfl
theorem b_str (P : Params) : nsIn (KF P) mainGlobals "str" = some none := by kernel_rfl
theorem b_range (P : Params) : nsIn (KF P) mainGlobals "range" = some none := by kernel_rfl
theorem b_ord (P : Params) : nsIn (KF P) mainGlobals "ord" = some none := by kernel_rfl
theorem bb_len : bootBuiltins "len" = some (.builtin "len") := by kernel_rfl
theorem bb_min : bootBuiltins "min" = some (.builtin "min") := by kernel_rfl
theorem bb_max : bootBuiltins "max" = some (.builtin "max") := by kernel_rfl
theorem bb_list : bootBuiltins "list" = some (.type "list") := by kernel_rfl
theorem bb_dict : bootBuiltins "dict" = some (.type "dict") := by kernel_rfl
theorem bb_sorted : bootBuiltins "sorted" = some (.builtin "sorted") := by kernel_rfl
theorem bb_isinstance : bootBuiltins "isinstance" = some (.builtin "isinstance") := by kernel_rfl
theorem bb_str : bootBuiltins "str" = some (.type "str") := by kernel_rfl
theorem bb_range : bootBuiltins "range" = some (.type "range") := by kernel_rfl
theorem ite_of {b : Bool} {p q : Prop} (h1 : b = true → p) (h2 : b = false → q) : if b = true then p else q := by
  cases b with
  | true => rw [if_pos rfl]; exact h1 rfl
  | false => rw [if_neg (by decide)]; exact h2 rfl
inductive Pick (p : Addr × O) : HH → HH → Prop
  | head {r : HH} : Pick p (p :: r) r
  | tail {q : Addr × O} {r r' : HH} : Pick p r r' → Pick p (q :: r) (q :: r')
theorem perm_pick {p : Addr × O} : ∀ {H H₁ H' : HH}, Pick p H H₁ → H₁.Perm H' → H.Perm (p :: H')
  | _, _, _, .head, h => h.cons _
  | _, _, _, .tail k, h => ((perm_pick k (.refl _)).cons _).trans ((List.Perm.swap _ _ _).trans (h.cons _))
section
variable {G : Gx} {n : Nat} {d : FD} {loc : Locs} {H H' : HH} {X : Str → HH → Prop}
theorem Cl.perm {f : Value} {xs : List V} {P : V → HH → Prop} (p : H.Perm H') (h : Cl G n f xs H' P X) : Cl G n f xs H P X := Cl.less (D := []) p h
theorem Es.perm {ts : List Stmt} {Pn : Locs → HH → Prop} {Pr : V → HH → Prop} (p : H.Perm H') (h : Es G n d loc H' ts Pn Pr X) : Es G n d loc H ts Pn Pr X := Es.less (D := []) p h
end
theorem lenS {k : Nat} {Q : List Value → Prop} (h : ∀ a vs, vs.length = k → Q (a :: vs)) : ∀ vs, vs.length = k + 1 → Q vs
  | a :: vs, e => h a vs (Nat.succ.inj e)
theorem len0 {Q : List Value → Prop} (h : Q []) : ∀ vs, vs.length = 0 → Q vs
  | [], _ => h
theorem len1 {Q : List Value → Prop} (h : ∀ a0 : Value, Q [a0]) : ∀ vs, vs.length = 1 → Q vs := lenS fun a0 => len0 (h a0)
theorem len2 {Q : List Value → Prop} (h : ∀ a0 a1 : Value, Q [a0, a1]) : ∀ vs, vs.length = 2 → Q vs := lenS fun a0 => lenS fun a1 => len0 (h a0 a1)
theorem len3 {Q : List Value → Prop} (h : ∀ a0 a1 a2 : Value, Q [a0, a1, a2]) : ∀ vs, vs.length = 3 → Q vs := lenS fun a0 => lenS fun a1 => lenS fun a2 => len0 (h a0 a1 a2)
theorem len4 {Q : List Value → Prop} (h : ∀ a0 a1 a2 a3 : Value, Q [a0, a1, a2, a3]) : ∀ vs, vs.length = 4 → Q vs := lenS fun a0 => lenS fun a1 => lenS fun a2 => lenS fun a3 => len0 (h a0 a1 a2 a3)
theorem len5 {Q : List Value → Prop} (h : ∀ a0 a1 a2 a3 a4 : Value, Q [a0, a1, a2, a3, a4]) : ∀ vs, vs.length = 5 → Q vs := lenS fun a0 => lenS fun a1 => lenS fun a2 => lenS fun a3 => lenS fun a4 => len0 (h a0 a1 a2 a3 a4)
theorem len6 {Q : List Value → Prop} (h : ∀ a0 a1 a2 a3 a4 a5 : Value, Q [a0, a1, a2, a3, a4, a5]) : ∀ vs, vs.length = 6 → Q vs := lenS fun a0 => lenS fun a1 => lenS fun a2 => lenS fun a3 => lenS fun a4 => lenS fun a5 => len0 (h a0 a1 a2 a3 a4 a5)
theorem len8 {Q : List Value → Prop} (h : ∀ a0 a1 a2 a3 a4 a5 a6 a7 : Value, Q [a0, a1, a2, a3, a4, a5, a6, a7]) : ∀ vs, vs.length = 8 → Q vs := lenS fun a0 => lenS fun a1 => lenS fun a2 => lenS fun a3 => lenS fun a4 => lenS fun a5 => lenS fun a6 => lenS fun a7 => len0 (h a0 a1 a2 a3 a4 a5 a6 a7)
section
variable {G : Gx} {n : Nat} {H : HH} {X : Str → HH → Prop} {P : V → HH → Prop}
theorem in_LispSignal_init {x0 x1 x2 : V} (h : Es G n d_LispSignal_init [("self", x0), ("symbol", x1), ("data", x2)] H d_LispSignal_init.body (fun _ H' => P .none H') P X) : Cd G (n + 1) (.ref 35) [x0, x1, x2] H P X := Cd.def ok_LispSignal_init (ds := []) (dvs := []) (len3 fun v0 v1 v2 s Y => BindsTo.of_eq rfl) .nil h
theorem in_set_marker {x0 x1 x2 : V} (h : Es G n d_set_marker [("marker", x0), ("buffer", x1), ("place", x2)] H d_set_marker.body (fun _ H' => P .none H') P X) : Cd G (n + 1) (.ref 67) [x0, x1, x2] H P X := Cd.def ok_set_marker (ds := []) (dvs := []) (len3 fun v0 v1 v2 s Y => BindsTo.of_eq rfl) .nil h
theorem in_is_many {x0 : V} (h : Es G n d_is_many [("raw", x0)] H d_is_many.body (fun _ H' => P .none H') P X) : Cd G (n + 1) (.ref 95) [x0] H P X := Cd.def ok_is_many (ds := []) (dvs := []) (len1 fun v0 s Y => BindsTo.of_eq rfl) .nil h
theorem in_is_minus {x0 : V} (h : Es G n d_is_minus [("raw", x0)] H d_is_minus.body (fun _ H' => P .none H') P X) : Cd G (n + 1) (.ref 102) [x0] H P X := Cd.def ok_is_minus (ds := []) (dvs := []) (len1 fun v0 s Y => BindsTo.of_eq rfl) .nil h
theorem in_numeric {x0 : V} (h : Es G n d_numeric [("raw", x0)] H d_numeric.body (fun _ H' => P .none H') P X) : Cd G (n + 1) (.ref 109) [x0] H P X := Cd.def ok_numeric (ds := []) (dvs := []) (len1 fun v0 s Y => BindsTo.of_eq rfl) .nil h
theorem in_need_writable {x0 : V} (h : Es G n d_need_writable [("buffer", x0)] H d_need_writable.body (fun _ H' => P .none H') P X) : Cd G (n + 1) (.ref 116) [x0] H P X := Cd.def ok_need_writable (ds := []) (dvs := []) (len1 fun v0 s Y => BindsTo.of_eq rfl) .nil h
theorem in_reached {x0 x1 x2 : V} (h : Es G n d_reached [("buffer", x0), ("start", x1), ("end", x2)] H d_reached.body (fun _ H' => P .none H') P X) : Cd G (n + 1) (.ref 123) [x0, x1, x2] H P X := Cd.def ok_reached (ds := []) (dvs := []) (len3 fun v0 v1 v2 s Y => BindsTo.of_eq rfl) .nil h
theorem in_tell_ahead {x0 x1 x2 : V} (h : Es G n d_tell_ahead [("buffer", x0), ("start", x1), ("end", x2)] H d_tell_ahead.body (fun _ H' => P .none H') P X) : Cd G (n + 1) (.ref 130) [x0, x1, x2] H P X := Cd.def ok_tell_ahead (ds := []) (dvs := []) (len3 fun v0 v1 v2 s Y => BindsTo.of_eq rfl) .nil h
theorem in_tell_behind {x0 x1 x2 x3 : V} (h : Es G n d_tell_behind [("buffer", x0), ("start", x1), ("end", x2), ("old_length", x3)] H d_tell_behind.body (fun _ H' => P .none H') P X) : Cd G (n + 1) (.ref 137) [x0, x1, x2, x3] H P X := Cd.def ok_tell_behind (ds := []) (dvs := []) (len4 fun v0 v1 v2 v3 s Y => BindsTo.of_eq rfl) .nil h
theorem in_text_out {x0 x1 x2 : V} (h : Es G n d_text_out [("buffer", x0), ("start", x1), ("end", x2)] H d_text_out.body (fun _ H' => P .none H') P X) : Cd G (n + 1) (.ref 144) [x0, x1, x2] H P X := Cd.def ok_text_out (ds := []) (dvs := []) (len3 fun v0 v1 v2 s Y => BindsTo.of_eq rfl) .nil h
theorem in_text_in {x0 x1 x2 : V} (h : Es G n d_text_in [("buffer", x0), ("place", x1), ("codes", x2)] H d_text_in.body (fun _ H' => P .none H') P X) : Cd G (n + 1) (.ref 151) [x0, x1, x2] H P X := Cd.def ok_text_in (ds := []) (dvs := []) (len3 fun v0 v1 v2 s Y => BindsTo.of_eq rfl) .nil h
theorem in_hung_out {x0 x1 x2 : V} (h : Es G n d_hung_out [("buffer", x0), ("start", x1), ("end", x2)] H d_hung_out.body (fun _ H' => P .none H') P X) : Cd G (n + 1) (.ref 158) [x0, x1, x2] H P X := Cd.def ok_hung_out (ds := []) (dvs := []) (len3 fun v0 v1 v2 s Y => BindsTo.of_eq rfl) .nil h
theorem in_hung_in {x0 x1 x2 x3 : V} (h : Es G n d_hung_in [("buffer", x0), ("place", x1), ("many", x2), ("before_markers", x3)] H d_hung_in.body (fun _ H' => P .none H') P X) : Cd G (n + 1) (.ref 165) [x0, x1, x2, x3] H P X := Cd.def ok_hung_in (ds := []) (dvs := []) (len4 fun v0 v1 v2 v3 s Y => BindsTo.of_eq rfl) .nil h
theorem in_put_in {x0 x1 x2 x3 x4 : V} (h : Es G n d_put_in [("buffer", x0), ("place", x1), ("codes", x2), ("before_markers", x3), ("is_point_behind", x4)] H d_put_in.body (fun _ H' => P .none H') P X) : Cd G (n + 1) (.ref 172) [x0, x1, x2, x3, x4] H P X := Cd.def ok_put_in (ds := []) (dvs := []) (len5 fun v0 v1 v2 v3 v4 s Y => BindsTo.of_eq rfl) .nil h
theorem in_insert_at_d {x0 x1 x2 : V} (h : Es G n d_insert_at [("buffer", x0), ("place", x1), ("codes", x2), ("before_markers", .bool false)] H d_insert_at.body (fun _ H' => P .none H') P X) : Cd G (n + 1) (.ref 180) [x0, x1, x2] H P X := Cd.def ok_insert_at (ds := [.bool false]) (dvs := [.bool false]) (len3 fun v0 v1 v2 s Y => BindsTo.of_defaults rfl (Y _ _ rfl) rfl rfl rfl) (.cons (.bool _) .nil) h
theorem in_insert_d {x0 x1 : V} (h : Es G n d_insert [("buffer", x0), ("codes", x1), ("before_markers", .bool false)] H d_insert.body (fun _ H' => P .none H') P X) : Cd G (n + 1) (.ref 188) [x0, x1] H P X := Cd.def ok_insert (ds := [.bool false]) (dvs := [.bool false]) (len2 fun v0 v1 s Y => BindsTo.of_defaults rfl (Y _ _ rfl) rfl rfl rfl) (.cons (.bool _) .nil) h
theorem in_delete {x0 x1 x2 : V} (h : Es G n d_delete [("buffer", x0), ("start", x1), ("end", x2)] H d_delete.body (fun _ H' => P .none H') P X) : Cd G (n + 1) (.ref 195) [x0, x1, x2] H P X := Cd.def ok_delete (ds := []) (dvs := []) (len3 fun v0 v1 v2 s Y => BindsTo.of_eq rfl) .nil h
theorem in_Registers_init {x0 : V} (h : Es G n d_Registers_init [("self", x0)] H d_Registers_init.body (fun _ H' => P .none H') P X) : Cd G (n + 1) (.ref 326) [x0] H P X := Cd.def ok_Registers_init (ds := []) (dvs := []) (len1 fun v0 s Y => BindsTo.of_eq rfl) .nil h
theorem in_held {x0 x1 : V} (h : Es G n d_held [("registers", x0), ("sign", x1)] H d_held.body (fun _ H' => P .none H') P X) : Cd G (n + 1) (.ref 340) [x0, x1] H P X := Cd.def ok_held (ds := []) (dvs := []) (len2 fun v0 v1 s Y => BindsTo.of_eq rfl) .nil h
theorem in_put {x0 x1 x2 : V} (h : Es G n d_put [("registers", x0), ("sign", x1), ("content", x2)] H d_put.body (fun _ H' => P .none H') P X) : Cd G (n + 1) (.ref 347) [x0, x1, x2] H P X := Cd.def ok_put (ds := []) (dvs := []) (len3 fun v0 v1 v2 s Y => BindsTo.of_eq rfl) .nil h
theorem in_need {x0 x1 x2 : V} (h : Es G n d_need [("registers", x0), ("sign", x1), ("word", x2)] H d_need.body (fun _ H' => P .none H') P X) : Cd G (n + 1) (.ref 354) [x0, x1, x2] H P X := Cd.def ok_need (ds := []) (dvs := []) (len3 fun v0 v1 v2 s Y => BindsTo.of_eq rfl) .nil h
theorem in_point_to_register {x0 x1 x2 : V} (h : Es G n d_point_to_register [("registers", x0), ("sign", x1), ("marker", x2)] H d_point_to_register.body (fun _ H' => P .none H') P X) : Cd G (n + 1) (.ref 361) [x0, x1, x2] H P X := Cd.def ok_point_to_register (ds := []) (dvs := []) (len3 fun v0 v1 v2 s Y => BindsTo.of_eq rfl) .nil h
theorem in_place_of_register {x0 x1 : V} (h : Es G n d_place_of_register [("registers", x0), ("sign", x1)] H d_place_of_register.body (fun _ H' => P .none H') P X) : Cd G (n + 1) (.ref 368) [x0, x1] H P X := Cd.def ok_place_of_register (ds := []) (dvs := []) (len2 fun v0 v1 s Y => BindsTo.of_eq rfl) .nil h
theorem in_copy_to_register {x0 x1 x2 x3 x4 x5 : V} (h : Es G n d_copy_to_register [("registers", x0), ("sign", x1), ("buffer", x2), ("start", x3), ("end", x4), ("is_delete", x5)] H d_copy_to_register.body (fun _ H' => P .none H') P X) : Cd G (n + 1) (.ref 375) [x0, x1, x2, x3, x4, x5] H P X := Cd.def ok_copy_to_register (ds := []) (dvs := []) (len6 fun v0 v1 v2 v3 v4 v5 s Y => BindsTo.of_eq rfl) .nil h
theorem in_joined_to_register {x0 x1 x2 x3 x4 x5 x6 x7 : V} (h : Es G n d_joined_to_register [("registers", x0), ("sign", x1), ("buffer", x2), ("start", x3), ("end", x4), ("is_delete", x5), ("is_behind", x6), ("between", x7)] H d_joined_to_register.body (fun _ H' => P .none H') P X) : Cd G (n + 1) (.ref 382) [x0, x1, x2, x3, x4, x5, x6, x7] H P X := Cd.def ok_joined_to_register (ds := []) (dvs := []) (len8 fun v0 v1 v2 v3 v4 v5 v6 v7 s Y => BindsTo.of_eq rfl) .nil h
theorem in_number_to_register {x0 x1 x2 : V} (h : Es G n d_number_to_register [("registers", x0), ("sign", x1), ("number", x2)] H d_number_to_register.body (fun _ H' => P .none H') P X) : Cd G (n + 1) (.ref 389) [x0, x1, x2] H P X := Cd.def ok_number_to_register (ds := []) (dvs := []) (len3 fun v0 v1 v2 s Y => BindsTo.of_eq rfl) .nil h
theorem in_increment_register {x0 x1 x2 : V} (h : Es G n d_increment_register [("registers", x0), ("sign", x1), ("more", x2)] H d_increment_register.body (fun _ H' => P .none H') P X) : Cd G (n + 1) (.ref 396) [x0, x1, x2] H P X := Cd.def ok_increment_register (ds := []) (dvs := []) (len3 fun v0 v1 v2 s Y => BindsTo.of_eq rfl) .nil h
theorem in_number_codes {x0 : V} (h : Es G n d_number_codes [("number", x0)] H d_number_codes.body (fun _ H' => P .none H') P X) : Cd G (n + 1) (.ref 401) [x0] H P X := Cd.def ok_number_codes (ds := []) (dvs := []) (len1 fun v0 s Y => BindsTo.of_eq rfl) .nil h
theorem in_insert_register {x0 x1 x2 x3 : V} (h : Es G n d_insert_register [("registers", x0), ("sign", x1), ("buffer", x2), ("is_ahead", x3)] H d_insert_register.body (fun _ H' => P .none H') P X) : Cd G (n + 1) (.ref 408) [x0, x1, x2, x3] H P X := Cd.def ok_insert_register (ds := []) (dvs := []) (len4 fun v0 v1 v2 v3 s Y => BindsTo.of_eq rfl) .nil h
theorem in_do_point_to_register {x0 x1 : V} (h : Es G n d_do_point_to_register [("editor", x0), ("values", x1)] H d_do_point_to_register.body (fun _ H' => P .none H') P X) : Cd G (n + 1) (.ref 415) [x0, x1] H P X := Cd.def ok_do_point_to_register (ds := []) (dvs := []) (len2 fun v0 v1 s Y => BindsTo.of_eq rfl) .nil h
theorem in_do_jump_to_register {x0 x1 : V} (h : Es G n d_do_jump_to_register [("editor", x0), ("values", x1)] H d_do_jump_to_register.body (fun _ H' => P .none H') P X) : Cd G (n + 1) (.ref 422) [x0, x1] H P X := Cd.def ok_do_jump_to_register (ds := []) (dvs := []) (len2 fun v0 v1 s Y => BindsTo.of_eq rfl) .nil h
theorem in_do_copy_to_register {x0 x1 : V} (h : Es G n d_do_copy_to_register [("editor", x0), ("values", x1)] H d_do_copy_to_register.body (fun _ H' => P .none H') P X) : Cd G (n + 1) (.ref 429) [x0, x1] H P X := Cd.def ok_do_copy_to_register (ds := []) (dvs := []) (len2 fun v0 v1 s Y => BindsTo.of_eq rfl) .nil h
theorem in_do_append_to_register {x0 x1 : V} (h : Es G n d_do_append_to_register [("editor", x0), ("values", x1)] H d_do_append_to_register.body (fun _ H' => P .none H') P X) : Cd G (n + 1) (.ref 436) [x0, x1] H P X := Cd.def ok_do_append_to_register (ds := []) (dvs := []) (len2 fun v0 v1 s Y => BindsTo.of_eq rfl) .nil h
theorem in_do_prepend_to_register {x0 x1 : V} (h : Es G n d_do_prepend_to_register [("editor", x0), ("values", x1)] H d_do_prepend_to_register.body (fun _ H' => P .none H') P X) : Cd G (n + 1) (.ref 443) [x0, x1] H P X := Cd.def ok_do_prepend_to_register (ds := []) (dvs := []) (len2 fun v0 v1 s Y => BindsTo.of_eq rfl) .nil h
theorem in_do_insert_register {x0 x1 : V} (h : Es G n d_do_insert_register [("editor", x0), ("values", x1)] H d_do_insert_register.body (fun _ H' => P .none H') P X) : Cd G (n + 1) (.ref 450) [x0, x1] H P X := Cd.def ok_do_insert_register (ds := []) (dvs := []) (len2 fun v0 v1 s Y => BindsTo.of_eq rfl) .nil h
theorem in_do_number_to_register {x0 x1 : V} (h : Es G n d_do_number_to_register [("editor", x0), ("values", x1)] H d_do_number_to_register.body (fun _ H' => P .none H') P X) : Cd G (n + 1) (.ref 457) [x0, x1] H P X := Cd.def ok_do_number_to_register (ds := []) (dvs := []) (len2 fun v0 v1 s Y => BindsTo.of_eq rfl) .nil h
theorem in_do_increment_register {x0 x1 : V} (h : Es G n d_do_increment_register [("editor", x0), ("values", x1)] H d_do_increment_register.body (fun _ H' => P .none H') P X) : Cd G (n + 1) (.ref 464) [x0, x1] H P X := Cd.def ok_do_increment_register (ds := []) (dvs := []) (len2 fun v0 v1 s Y => BindsTo.of_eq rfl) .nil h
theorem in_GapText_init {x0 x1 x2 : V} (h : Es G n d_GapText_init [("self", x0), ("codes", x1), ("room", x2)] H d_GapText_init.body (fun _ H' => P .none H') P X) : Cd G (n + 1) (.ref 478) [x0, x1, x2] H P X := Cd.def ok_GapText_init (ds := []) (dvs := []) (len3 fun v0 v1 v2 s Y => BindsTo.of_eq rfl) .nil h
theorem in_GapText_size {x0 : V} (h : Es G n d_GapText_size [("self", x0)] H d_GapText_size.body (fun _ H' => P .none H') P X) : Cd G (n + 1) (.ref 485) [x0] H P X := Cd.def ok_GapText_size (ds := []) (dvs := []) (len1 fun v0 s Y => BindsTo.of_eq rfl) .nil h
theorem in_GapText_codes {x0 x1 x2 : V} (h : Es G n d_GapText_codes [("self", x0), ("start", x1), ("end", x2)] H d_GapText_codes.body (fun _ H' => P .none H') P X) : Cd G (n + 1) (.ref 499) [x0, x1, x2] H P X := Cd.def ok_GapText_codes (ds := []) (dvs := []) (len3 fun v0 v1 v2 s Y => BindsTo.of_eq rfl) .nil h
theorem in_GapText_move_gap {x0 x1 : V} (h : Es G n d_GapText_move_gap [("self", x0), ("at", x1)] H d_GapText_move_gap.body (fun _ H' => P .none H') P X) : Cd G (n + 1) (.ref 506) [x0, x1] H P X := Cd.def ok_GapText_move_gap (ds := []) (dvs := []) (len2 fun v0 v1 s Y => BindsTo.of_eq rfl) .nil h
theorem in_GapText_widen_gap {x0 x1 : V} (h : Es G n d_GapText_widen_gap [("self", x0), ("wanted", x1)] H d_GapText_widen_gap.body (fun _ H' => P .none H') P X) : Cd G (n + 1) (.ref 513) [x0, x1] H P X := Cd.def ok_GapText_widen_gap (ds := []) (dvs := []) (len2 fun v0 v1 s Y => BindsTo.of_eq rfl) .nil h
theorem in_GapText_insert {x0 x1 x2 : V} (h : Es G n d_GapText_insert [("self", x0), ("at", x1), ("codes", x2)] H d_GapText_insert.body (fun _ H' => P .none H') P X) : Cd G (n + 1) (.ref 520) [x0, x1, x2] H P X := Cd.def ok_GapText_insert (ds := []) (dvs := []) (len3 fun v0 v1 v2 s Y => BindsTo.of_eq rfl) .nil h
theorem in_GapText_delete {x0 x1 x2 : V} (h : Es G n d_GapText_delete [("self", x0), ("start", x1), ("end", x2)] H d_GapText_delete.body (fun _ H' => P .none H') P X) : Cd G (n + 1) (.ref 527) [x0, x1, x2] H P X := Cd.def ok_GapText_delete (ds := []) (dvs := []) (len3 fun v0 v1 v2 s Y => BindsTo.of_eq rfl) .nil h
theorem in_Marker_init {x0 x1 x2 : V} (h : Es G n d_Marker_init [("self", x0), ("number", x1), ("advances", x2)] H d_Marker_init.body (fun _ H' => P .none H') P X) : Cd G (n + 1) (.ref 604) [x0, x1, x2] H P X := Cd.def ok_Marker_init (ds := []) (dvs := []) (len3 fun v0 v1 v2 s Y => BindsTo.of_eq rfl) .nil h
theorem in_Markers_init {x0 : V} (h : Es G n d_Markers_init [("self", x0)] H d_Markers_init.body (fun _ H' => P .none H') P X) : Cd G (n + 1) (.ref 644) [x0] H P X := Cd.def ok_Markers_init (ds := []) (dvs := []) (len1 fun v0 s Y => BindsTo.of_eq rfl) .nil h
theorem in_Markers_numbers {x0 : V} (h : Es G n d_Markers_numbers [("self", x0)] H d_Markers_numbers.body (fun _ H' => P .none H') P X) : Cd G (n + 1) (.ref 651) [x0] H P X := Cd.def ok_Markers_numbers (ds := []) (dvs := []) (len1 fun v0 s Y => BindsTo.of_eq rfl) .nil h
theorem in_Markers_put {x0 x1 x2 : V} (h : Es G n d_Markers_put [("self", x0), ("marker", x1), ("position", x2)] H d_Markers_put.body (fun _ H' => P .none H') P X) : Cd G (n + 1) (.ref 658) [x0, x1, x2] H P X := Cd.def ok_Markers_put (ds := []) (dvs := []) (len3 fun v0 v1 v2 s Y => BindsTo.of_eq rfl) .nil h
theorem in_Markers_inserted {x0 x1 x2 x3 : V} (h : Es G n d_Markers_inserted [("self", x0), ("start", x1), ("end", x2), ("is_before", x3)] H d_Markers_inserted.body (fun _ H' => P .none H') P X) : Cd G (n + 1) (.ref 679) [x0, x1, x2, x3] H P X := Cd.def ok_Markers_inserted (ds := []) (dvs := []) (len4 fun v0 v1 v2 v3 s Y => BindsTo.of_eq rfl) .nil h
theorem in_Markers_deleted {x0 x1 x2 : V} (h : Es G n d_Markers_deleted [("self", x0), ("start", x1), ("end", x2)] H d_Markers_deleted.body (fun _ H' => P .none H') P X) : Cd G (n + 1) (.ref 686) [x0, x1, x2] H P X := Cd.def ok_Markers_deleted (ds := []) (dvs := []) (len3 fun v0 v1 v2 s Y => BindsTo.of_eq rfl) .nil h
theorem in_Buffer_init_d {x0 x1 x2 : V} (h : Es G n d_Buffer_init [("self", x0), ("number", x1), ("name", x2), ("room", .int 8)] H d_Buffer_init.body (fun _ H' => P .none H') P X) : Cd G (n + 1) (.ref 715) [x0, x1, x2] H P X := Cd.def ok_Buffer_init (ds := [.int 8]) (dvs := [.int 8 1167]) (len3 fun v0 v1 v2 s Y => BindsTo.of_defaults rfl (Y _ _ rfl) rfl rfl rfl) (.cons (.int _ _) .nil) h
theorem in_Buffer_size {x0 : V} (h : Es G n d_Buffer_size [("self", x0)] H d_Buffer_size.body (fun _ H' => P .none H') P X) : Cd G (n + 1) (.ref 750) [x0] H P X := Cd.def ok_Buffer_size (ds := []) (dvs := []) (len1 fun v0 s Y => BindsTo.of_eq rfl) .nil h
theorem in_Buffer_codes {x0 x1 x2 : V} (h : Es G n d_Buffer_codes [("self", x0), ("start", x1), ("end", x2)] H d_Buffer_codes.body (fun _ H' => P .none H') P X) : Cd G (n + 1) (.ref 764) [x0, x1, x2] H P X := Cd.def ok_Buffer_codes (ds := []) (dvs := []) (len3 fun v0 v1 v2 s Y => BindsTo.of_eq rfl) .nil h
theorem in_Buffer_goto {x0 x1 : V} (h : Es G n d_Buffer_goto [("self", x0), ("place", x1)] H d_Buffer_goto.body (fun _ H' => P .none H') P X) : Cd G (n + 1) (.ref 771) [x0, x1] H P X := Cd.def ok_Buffer_goto (ds := []) (dvs := []) (len2 fun v0 v1 s Y => BindsTo.of_eq rfl) .nil h
theorem in_Buffer_touch {x0 x1 : V} (h : Es G n d_Buffer_touch [("self", x0), ("are_codes", x1)] H d_Buffer_touch.body (fun _ H' => P .none H') P X) : Cd G (n + 1) (.ref 799) [x0, x1] H P X := Cd.def ok_Buffer_touch (ds := []) (dvs := []) (len2 fun v0 v1 s Y => BindsTo.of_eq rfl) .nil h
theorem in_BufferTable_init {x0 : V} (h : Es G n d_BufferTable_init [("self", x0)] H d_BufferTable_init.body (fun _ H' => P .none H') P X) : Cd G (n + 1) (.ref 818) [x0] H P X := Cd.def ok_BufferTable_init (ds := []) (dvs := []) (len1 fun v0 s Y => BindsTo.of_eq rfl) .nil h
theorem in_BufferTable_by_number {x0 x1 : V} (h : Es G n d_BufferTable_by_number [("self", x0), ("number", x1)] H d_BufferTable_by_number.body (fun _ H' => P .none H') P X) : Cd G (n + 1) (.ref 825) [x0, x1] H P X := Cd.def ok_BufferTable_by_number (ds := []) (dvs := []) (len2 fun v0 v1 s Y => BindsTo.of_eq rfl) .nil h
theorem in_BufferTable_by_name {x0 x1 : V} (h : Es G n d_BufferTable_by_name [("self", x0), ("name", x1)] H d_BufferTable_by_name.body (fun _ H' => P .none H') P X) : Cd G (n + 1) (.ref 832) [x0, x1] H P X := Cd.def ok_BufferTable_by_name (ds := []) (dvs := []) (len2 fun v0 v1 s Y => BindsTo.of_eq rfl) .nil h
theorem in_BufferTable_create {x0 x1 : V} (h : Es G n d_BufferTable_create [("self", x0), ("name", x1)] H d_BufferTable_create.body (fun _ H' => P .none H') P X) : Cd G (n + 1) (.ref 839) [x0, x1] H P X := Cd.def ok_BufferTable_create (ds := []) (dvs := []) (len2 fun v0 v1 s Y => BindsTo.of_eq rfl) .nil h
theorem in_BufferTable_select {x0 x1 : V} (h : Es G n d_BufferTable_select [("self", x0), ("buffer", x1)] H d_BufferTable_select.body (fun _ H' => P .none H') P X) : Cd G (n + 1) (.ref 861) [x0, x1] H P X := Cd.def ok_BufferTable_select (ds := []) (dvs := []) (len2 fun v0 v1 s Y => BindsTo.of_eq rfl) .nil h
theorem in_BufferTable_set_current {x0 x1 : V} (h : Es G n d_BufferTable_set_current [("self", x0), ("buffer", x1)] H d_BufferTable_set_current.body (fun _ H' => P .none H') P X) : Cd G (n + 1) (.ref 868) [x0, x1] H P X := Cd.def ok_BufferTable_set_current (ds := []) (dvs := []) (len2 fun v0 v1 s Y => BindsTo.of_eq rfl) .nil h
theorem in_BufferTable_new_marker {x0 x1 : V} (h : Es G n d_BufferTable_new_marker [("self", x0), ("advances", x1)] H d_BufferTable_new_marker.body (fun _ H' => P .none H') P X) : Cd G (n + 1) (.ref 896) [x0, x1] H P X := Cd.def ok_BufferTable_new_marker (ds := []) (dvs := []) (len2 fun v0 v1 s Y => BindsTo.of_eq rfl) .nil h
theorem in_Amalgam_init {x0 : V} (h : Es G n d_Amalgam_init [("self", x0)] H d_Amalgam_init.body (fun _ H' => P .none H') P X) : Cd G (n + 1) (.ref 924) [x0] H P X := Cd.def ok_Amalgam_init (ds := []) (dvs := []) (len1 fun v0 s Y => BindsTo.of_eq rfl) .nil h
theorem in_Editor_init {x0 x1 x2 x3 : V} (h : Es G n d_Editor_init [("self", x0), ("buffers", x1), ("commands", x2), ("global_map", x3)] H d_Editor_init.body (fun _ H' => P .none H') P X) : Cd G (n + 1) (.ref 945) [x0, x1, x2, x3] H P X := Cd.def ok_Editor_init (ds := []) (dvs := []) (len4 fun v0 v1 v2 v3 s Y => BindsTo.of_eq rfl) .nil h
theorem in_Editor_current {x0 : V} (h : Es G n d_Editor_current [("self", x0)] H d_Editor_current.body (fun _ H' => P .none H') P X) : Cd G (n + 1) (.ref 952) [x0] H P X := Cd.def ok_Editor_current (ds := []) (dvs := []) (len1 fun v0 s Y => BindsTo.of_eq rfl) .nil h
theorem in__law_draw {x0 x1 : V} (h : Es G n d__law_draw [("deck", x0), ("many", x1)] H d__law_draw.body (fun _ H' => P .none H') P X) : Cd G (n + 1) (.ref 1092) [x0, x1] H P X := Cd.def ok__law_draw (ds := []) (dvs := []) (len2 fun v0 v1 s Y => BindsTo.of_eq rfl) .nil h
theorem in__law_pick {x0 x1 : V} (h : Es G n d__law_pick [("deck", x0), ("items", x1)] H d__law_pick.body (fun _ H' => P .none H') P X) : Cd G (n + 1) (.ref 1099) [x0, x1] H P X := Cd.def ok__law_pick (ds := []) (dvs := []) (len2 fun v0 v1 s Y => BindsTo.of_eq rfl) .nil h
theorem in__law_editor {x0 x1 : V} (h : Es G n d__law_editor [("codes", x0), ("place", x1)] H d__law_editor.body (fun _ H' => P .none H') P X) : Cd G (n + 1) (.ref 1106) [x0, x1] H P X := Cd.def ok__law_editor (ds := []) (dvs := []) (len2 fun v0 v1 s Y => BindsTo.of_eq rfl) .nil h
theorem in__law_moved {x0 x1 x2 x3 : V} (h : Es G n d__law_moved [("kept", x0), ("place", x1), ("gone", x2), ("come", x3)] H d__law_moved.body (fun _ H' => P .none H') P X) : Cd G (n + 1) (.ref 1113) [x0, x1, x2, x3] H P X := Cd.def ok__law_moved (ds := []) (dvs := []) (len4 fun v0 v1 v2 v3 s Y => BindsTo.of_eq rfl) .nil h
theorem in__law_taken {x0 x1 x2 : V} (h : Es G n d__law_taken [("state", x0), ("low", x1), ("high", x2)] H d__law_taken.body (fun _ H' => P .none H') P X) : Cd G (n + 1) (.ref 1120) [x0, x1, x2] H P X := Cd.def ok__law_taken (ds := []) (dvs := []) (len3 fun v0 v1 v2 s Y => BindsTo.of_eq rfl) .nil h
theorem in__law_kept {x0 x1 x2 : V} (h : Es G n d__law_kept [("state", x0), ("sign", x1), ("thing", x2)] H d__law_kept.body (fun _ H' => P .none H') P X) : Cd G (n + 1) (.ref 1127) [x0, x1, x2] H P X := Cd.def ok__law_kept (ds := []) (dvs := []) (len3 fun v0 v1 v2 s Y => BindsTo.of_eq rfl) .nil h
theorem in__law_text {x0 x1 x2 x3 x4 x5 : V} (h : Es G n d__law_text [("state", x0), ("word", x1), ("sign", x2), ("low", x3), ("high", x4), ("is_gone", x5)] H d__law_text.body (fun _ H' => P .none H') P X) : Cd G (n + 1) (.ref 1134) [x0, x1, x2, x3, x4, x5] H P X := Cd.def ok__law_text (ds := []) (dvs := []) (len6 fun v0 v1 v2 v3 v4 v5 s Y => BindsTo.of_eq rfl) .nil h
theorem in__law_put {x0 x1 x2 : V} (h : Es G n d__law_put [("state", x0), ("sign", x1), ("is_behind", x2)] H d__law_put.body (fun _ H' => P .none H') P X) : Cd G (n + 1) (.ref 1139) [x0, x1, x2] H P X := Cd.def ok__law_put (ds := []) (dvs := []) (len3 fun v0 v1 v2 s Y => BindsTo.of_eq rfl) .nil h
theorem in__law_due {x0 x1 : V} (h : Es G n d__law_due [("state", x0), ("deed", x1)] H d__law_due.body (fun _ H' => P .none H') P X) : Cd G (n + 1) (.ref 1146) [x0, x1] H P X := Cd.def ok__law_due (ds := []) (dvs := []) (len2 fun v0 v1 s Y => BindsTo.of_eq rfl) .nil h
theorem in__law_does {x0 x1 : V} (h : Es G n d__law_does [("editor", x0), ("deed", x1)] H d__law_does.body (fun _ H' => P .none H') P X) : Cd G (n + 1) (.ref 1153) [x0, x1] H P X := Cd.def ok__law_does (ds := []) (dvs := []) (len2 fun v0 v1 s Y => BindsTo.of_eq rfl) .nil h
theorem in__law_told {x0 : V} (h : Es G n d__law_told [("editor", x0)] H d__law_told.body (fun _ H' => P .none H') P X) : Cd G (n + 1) (.ref 1160) [x0] H P X := Cd.def ok__law_told (ds := []) (dvs := []) (len1 fun v0 s Y => BindsTo.of_eq rfl) .nil h
end
noncomputable def V.nb : V → Bool
  | .val (.builtin _) => false
  | _ => true
theorem V.nb_of {v : V} (h : v.nb = true) : ∀ i, v ≠ .val (.builtin i) := fun i e => by rw [e] at h; cases h
theorem ite_t' {b : Bool} {p q : Prop} (e : b = true) (h : p) : if b = true then p else q := by rw [if_pos e]; exact h
theorem ite_f' {b : Bool} {p q : Prop} (e : b = false) (h : q) : if b = true then p else q := by rw [if_neg (by rw [e]; decide)]; exact h
theorem bt_ok {b : Bool} {P : Bool → Prop} (h : P b) : ∃ b', V.bool b = V.bool b' ∧ P b' := ⟨b, rfl, h⟩
theorem len_ok {xs : List V} {q : Prop} (e : Nat.ble xs.length 16777216 = true) (h : q) : xs.length ≤ 16777216 ∧ q := ⟨Nat.le_of_ble_eq_true e, h⟩
theorem Del.ex (x : Str) : ∀ loc : Locs, ∃ loc', Del x loc loc' ∧ ∀ p ∈ loc, p.1 ≠ x → p ∈ loc'
  | [] => ⟨[], .nil, fun _ h _ => h⟩
  | (y, v) :: r => by
    obtain ⟨r', h1, h2⟩ := Del.ex x r
    cases q : y == x with
    | true =>
      have e := beq_iff_eq.mp q
      subst e
      refine ⟨r', .skip h1, fun p hp hne => ?_⟩
      rcases List.mem_cons.mp hp with rfl | hp
      · exact absurd rfl hne
      · exact h2 p hp hne
    | false =>
      refine ⟨(y, v) :: r', .keep q h1, fun p hp hne => ?_⟩
      rcases List.mem_cons.mp hp with rfl | hp
      · exact .head _
      · exact .tail _ (h2 p hp hne)
section
variable {G : Gx} {n : Nat} {d : FD} {loc : Locs} {H H' : HH} {X : Str → HH → Prop}
theorem At.i {a C : Addr} {cap : Nat} {fs : List (Str × V)} {x : Str} {v : V} {P : V → HH → Prop} (m : (a, .inst C cap fs) ∈ H) (ok : ClsOk C) (hx : x ∈ fldOf C) (mv : (x, v) ∈ fs) (hv : v.nb = true) (h : P v H) : At G n (.ref a) x H P X := At.inst ok m hx mv (V.nb_of hv) h
theorem Mt.i {a C f : Addr} {cap : Nat} {fs : List (Str × V)} {x : Str} {P : Value → List V → Prop} (m : (a, .inst C cap fs) ∈ H) (ok : MthOk C x f) (h : KeepV G (.ref f) → P (.ref f) [.ref a]) : Mt G (.ref a) x H P := Mt.inst ok m h
theorem Sa.od {a C : Addr} {cap : Nat} {fs fs' : List (Str × V)} {x : Str} {v : V} {P : HH → Prop} (m : (a, .inst C cap fs) ∈ H) (ok : ClsOk C) (hc : cap ≤ 1000) (hx : x ∈ fldOf C) (hf : FHit x v fs fs') (U : UpH a (.inst C cap fs) (.inst C cap fs') H H') (h : P H') : Sa G n (.ref a) x v H P X := Sa.old ok hc hx hf U h
theorem Sa.nw {a C : Addr} {cap : Nat} {fs : List (Str × V)} {x : Str} {v : V} {P : HH → Prop} (m : (a, .inst C cap fs) ∈ H) (ok : ClsOk C) (hc : cap + 1 ≤ 1000) (hx : x ∈ fldOf C) (hf : FNo x fs) (U : UpH a (.inst C cap fs) (.inst C (cap + 1) ((x, v) :: fs)) H H') (h : P H') : Sa G n (.ref a) x v H P X := Sa.new ok hc hx hf U h
theorem Es.mono {ts : List Stmt} {Pn Pn' : Locs → HH → Prop} {Pr : V → HH → Prop} (h : Es G n d loc H ts Pn Pr X) (k : ∀ loc' H', Pn loc' H' → Pn' loc' H') : Es G n d loc H ts Pn' Pr X :=
  Es.mk fun A c s he a S r Q E p xp => h.use A c s he a S r Q E ⟨fun loc' H' c' h' tk hp l S' r' => p.1 loc' H' c' h' tk (k _ _ hp) l S' r', p.2⟩ xp
/-- both ways on from a test, met again behind it -/
theorem ite_join {b : Bool} {body orelse ts : List Stmt} {Pn : Locs → HH → Prop} {Pr : V → HH → Prop} (J : Locs → HH → Prop) (h1 : b = true → Es G n d loc H body J Pr X) (h2 : b = false → Es G n d loc H orelse J Pr X) (h3 : ∀ loc' H', J loc' H' → Es G n d loc' H' ts Pn Pr X) :
    if b = true then Es G n d loc H body (fun loc' H' => Es G n d loc' H' ts Pn Pr X) Pr X else Es G n d loc H orelse (fun loc' H' => Es G n d loc' H' ts Pn Pr X) Pr X := by
  cases b with
  | true => rw [if_pos rfl]; exact (h1 rfl).mono h3
  | false => rw [if_neg (by decide)]; exact (h2 rfl).mono h3
/-- fields no longer kept in mind -/
theorem Es.forget {a C : Addr} {cap : Nat} {fs fs' : List (Str × V)} {ts : List Stmt} {Pn : Locs → HH → Prop} {Pr : V → HH → Prop} (U : UpH a (.inst C cap fs) (.inst C cap fs') H H') (hs : ∀ p ∈ fs', p ∈ fs) (h : Es G n d loc H' ts Pn Pr X) : Es G n d loc H ts Pn Pr X :=
  Es.mk fun A c s he a S r Q E q xp => by
    obtain ⟨pre, cs, post, e, hO, k⟩ := S.setc U
    have hc : { c with ow := pre ++ (cs ++ post) } = c := by rw [← e]
    have S' : Sat G.h₀ c H' s.heap := by
      rw [← hc]
      refine k cs s.heap ?_ rfl S.F ?_
      · cases hO with
        | inst h1 h2 h3 => exact .inst h1 h2 fun p hp => h3 p (hs p hp)
      · have N := S.N
        rw [e] at N
        simpa only [List.append_assoc] using N
    exact h.use A c s he a S' r Q E q xp
/-- a loop with what holds between its turns said of the objects and of a datum of one's own; base: the names kept -/
theorem E1.forB {σ : Type} (base : σ → Locs) {x : Str} {tpos pos : Pos} {iter : Expr} {body : List Stmt} {Pn : Locs → HH → Prop} {Pr : V → HH → Prop} (hk : d.isL x = true) (hf : ∀ L v, foldedSetIterable iter (d.env L) v = pure v) (hne : ∀ s, ((base s).all fun p => !(p.1 == x)) = true)
    (h : Ev G n d loc H iter (fun v H₁ => ∃ (xs : List V) (Inv : Nat → σ → HH → Prop) (s₀ : σ), Itb G v H₁ xs ∧ (∀ p ∈ base s₀, p ∈ loc) ∧ Inv 0 s₀ H₁ ∧
      (∀ i y s H', xs[i]? = some y → Inv i s H' → Es G n d ((x, y) :: base s) H' body (fun loc₂ H₂ => ∃ s', (∀ p ∈ base s', p ∈ loc₂) ∧ Inv (i + 1) s' H₂) Pr (fun _ _ => False)) ∧
      ∀ s loc' H', (∀ p ∈ base s, p ∈ loc') → Inv xs.length s H' → Pn loc' H') X) : E1 G n d loc H (.For (.Name x tpos) iter body [] pos) Pn Pr X := by
  refine E1.for hk hf (Ev.mk fun A c s he a S r Q E p xp => h.then he a S r xp fun v y H₁ c₁ h₁ t₁ hp l m S₁ rv => p v y H₁ c₁ h₁ t₁ ?_ l m S₁ rv)
  obtain ⟨xs, Inv, s₀, it, hb, hi, hs, hend⟩ := hp
  refine ⟨xs, fun i loc' H' => ∃ s, (∀ p ∈ base s, p ∈ loc') ∧ Inv i s H', it, ⟨s₀, hb, hi⟩, ?_, fun loc' H' ⟨s, hb, hv⟩ => hend s loc' H' hb hv⟩
  rintro i y loc' H' hx ⟨s, hb, hv⟩
  obtain ⟨loc'', hd, hk'⟩ := Del.ex x loc'
  refine ⟨loc'', hd, Es.names (fun p hp => ?_) (hs i y s H' hx hv)⟩
  rcases List.mem_cons.mp hp with rfl | hp
  · exact .head _
  · exact .tail _ (hk' p (hb p hp) (by have := List.all_eq_true.mp (hne s) p hp; simpa using this))
/-- the objects behind a call put in another order -/
theorem Cl.back {f : Value} {xs : List V} {P : V → HH → Prop} (h : Cl G n f xs H (fun v H' => ∃ H₂, H'.Perm H₂ ∧ P v H₂) X) : Cl G n f xs H P X :=
  Cl.mk fun A c s a S vs hvs Q E q xp => h.use A c s a S vs hvs Q E (fun v x H' c' h' tk hp l m S' r => by
    obtain ⟨H₂, pm, hP⟩ := hp
    obtain ⟨c₂, l₂, m₂, z₂, S₂⟩ := S'.perm pm
    exact q v x H₂ c₂ h' tk hP (l.trans l₂) (m₂.trans m) S₂ (z₂ ▸ r)) xp
end
/-! a place in a list -/
theorem m0 {α : Type} {x : α} {l : List α} : x ∈ x :: l := .head _
theorem m1 {α : Type} {x a0 : α} {l : List α} : x ∈ a0 :: x :: l := .tail _ m0
theorem m2 {α : Type} {x a0 a1 : α} {l : List α} : x ∈ a0 :: a1 :: x :: l := .tail _ m1
theorem m3 {α : Type} {x a0 a1 a2 : α} {l : List α} : x ∈ a0 :: a1 :: a2 :: x :: l := .tail _ m2
theorem m4 {α : Type} {x a0 a1 a2 a3 : α} {l : List α} : x ∈ a0 :: a1 :: a2 :: a3 :: x :: l := .tail _ m3
theorem m5 {α : Type} {x a0 a1 a2 a3 a4 : α} {l : List α} : x ∈ a0 :: a1 :: a2 :: a3 :: a4 :: x :: l := .tail _ m4
theorem m6 {α : Type} {x a0 a1 a2 a3 a4 a5 : α} {l : List α} : x ∈ a0 :: a1 :: a2 :: a3 :: a4 :: a5 :: x :: l := .tail _ m5
theorem m7 {α : Type} {x a0 a1 a2 a3 a4 a5 a6 : α} {l : List α} : x ∈ a0 :: a1 :: a2 :: a3 :: a4 :: a5 :: a6 :: x :: l := .tail _ m6
theorem m8 {α : Type} {x a0 a1 a2 a3 a4 a5 a6 a7 : α} {l : List α} : x ∈ a0 :: a1 :: a2 :: a3 :: a4 :: a5 :: a6 :: a7 :: x :: l := .tail _ m7
theorem m9 {α : Type} {x a0 a1 a2 a3 a4 a5 a6 a7 a8 : α} {l : List α} : x ∈ a0 :: a1 :: a2 :: a3 :: a4 :: a5 :: a6 :: a7 :: a8 :: x :: l := .tail _ m8
theorem m10 {α : Type} {x a0 a1 a2 a3 a4 a5 a6 a7 a8 a9 : α} {l : List α} : x ∈ a0 :: a1 :: a2 :: a3 :: a4 :: a5 :: a6 :: a7 :: a8 :: a9 :: x :: l := .tail _ m9
theorem m11 {α : Type} {x a0 a1 a2 a3 a4 a5 a6 a7 a8 a9 a10 : α} {l : List α} : x ∈ a0 :: a1 :: a2 :: a3 :: a4 :: a5 :: a6 :: a7 :: a8 :: a9 :: a10 :: x :: l := .tail _ m10
theorem m12 {α : Type} {x a0 a1 a2 a3 a4 a5 a6 a7 a8 a9 a10 a11 : α} {l : List α} : x ∈ a0 :: a1 :: a2 :: a3 :: a4 :: a5 :: a6 :: a7 :: a8 :: a9 :: a10 :: a11 :: x :: l := .tail _ m11
theorem m13 {α : Type} {x a0 a1 a2 a3 a4 a5 a6 a7 a8 a9 a10 a11 a12 : α} {l : List α} : x ∈ a0 :: a1 :: a2 :: a3 :: a4 :: a5 :: a6 :: a7 :: a8 :: a9 :: a10 :: a11 :: a12 :: x :: l := .tail _ m12
theorem m14 {α : Type} {x a0 a1 a2 a3 a4 a5 a6 a7 a8 a9 a10 a11 a12 a13 : α} {l : List α} : x ∈ a0 :: a1 :: a2 :: a3 :: a4 :: a5 :: a6 :: a7 :: a8 :: a9 :: a10 :: a11 :: a12 :: a13 :: x :: l := .tail _ m13
theorem m15 {α : Type} {x a0 a1 a2 a3 a4 a5 a6 a7 a8 a9 a10 a11 a12 a13 a14 : α} {l : List α} : x ∈ a0 :: a1 :: a2 :: a3 :: a4 :: a5 :: a6 :: a7 :: a8 :: a9 :: a10 :: a11 :: a12 :: a13 :: a14 :: x :: l := .tail _ m14
theorem m16 {α : Type} {x a0 a1 a2 a3 a4 a5 a6 a7 a8 a9 a10 a11 a12 a13 a14 a15 : α} {l : List α} : x ∈ a0 :: a1 :: a2 :: a3 :: a4 :: a5 :: a6 :: a7 :: a8 :: a9 :: a10 :: a11 :: a12 :: a13 :: a14 :: a15 :: x :: l := .tail _ m15
theorem m17 {α : Type} {x a0 a1 a2 a3 a4 a5 a6 a7 a8 a9 a10 a11 a12 a13 a14 a15 a16 : α} {l : List α} : x ∈ a0 :: a1 :: a2 :: a3 :: a4 :: a5 :: a6 :: a7 :: a8 :: a9 :: a10 :: a11 :: a12 :: a13 :: a14 :: a15 :: a16 :: x :: l := .tail _ m16
theorem m18 {α : Type} {x a0 a1 a2 a3 a4 a5 a6 a7 a8 a9 a10 a11 a12 a13 a14 a15 a16 a17 : α} {l : List α} : x ∈ a0 :: a1 :: a2 :: a3 :: a4 :: a5 :: a6 :: a7 :: a8 :: a9 :: a10 :: a11 :: a12 :: a13 :: a14 :: a15 :: a16 :: a17 :: x :: l := .tail _ m17
theorem m19 {α : Type} {x a0 a1 a2 a3 a4 a5 a6 a7 a8 a9 a10 a11 a12 a13 a14 a15 a16 a17 a18 : α} {l : List α} : x ∈ a0 :: a1 :: a2 :: a3 :: a4 :: a5 :: a6 :: a7 :: a8 :: a9 :: a10 :: a11 :: a12 :: a13 :: a14 :: a15 :: a16 :: a17 :: a18 :: x :: l := .tail _ m18
theorem m20 {α : Type} {x a0 a1 a2 a3 a4 a5 a6 a7 a8 a9 a10 a11 a12 a13 a14 a15 a16 a17 a18 a19 : α} {l : List α} : x ∈ a0 :: a1 :: a2 :: a3 :: a4 :: a5 :: a6 :: a7 :: a8 :: a9 :: a10 :: a11 :: a12 :: a13 :: a14 :: a15 :: a16 :: a17 :: a18 :: a19 :: x :: l := .tail _ m19
theorem m21 {α : Type} {x a0 a1 a2 a3 a4 a5 a6 a7 a8 a9 a10 a11 a12 a13 a14 a15 a16 a17 a18 a19 a20 : α} {l : List α} : x ∈ a0 :: a1 :: a2 :: a3 :: a4 :: a5 :: a6 :: a7 :: a8 :: a9 :: a10 :: a11 :: a12 :: a13 :: a14 :: a15 :: a16 :: a17 :: a18 :: a19 :: a20 :: x :: l := .tail _ m20
theorem m22 {α : Type} {x a0 a1 a2 a3 a4 a5 a6 a7 a8 a9 a10 a11 a12 a13 a14 a15 a16 a17 a18 a19 a20 a21 : α} {l : List α} : x ∈ a0 :: a1 :: a2 :: a3 :: a4 :: a5 :: a6 :: a7 :: a8 :: a9 :: a10 :: a11 :: a12 :: a13 :: a14 :: a15 :: a16 :: a17 :: a18 :: a19 :: a20 :: a21 :: x :: l := .tail _ m21
theorem m23 {α : Type} {x a0 a1 a2 a3 a4 a5 a6 a7 a8 a9 a10 a11 a12 a13 a14 a15 a16 a17 a18 a19 a20 a21 a22 : α} {l : List α} : x ∈ a0 :: a1 :: a2 :: a3 :: a4 :: a5 :: a6 :: a7 :: a8 :: a9 :: a10 :: a11 :: a12 :: a13 :: a14 :: a15 :: a16 :: a17 :: a18 :: a19 :: a20 :: a21 :: a22 :: x :: l := .tail _ m22
theorem m24 {α : Type} {x a0 a1 a2 a3 a4 a5 a6 a7 a8 a9 a10 a11 a12 a13 a14 a15 a16 a17 a18 a19 a20 a21 a22 a23 : α} {l : List α} : x ∈ a0 :: a1 :: a2 :: a3 :: a4 :: a5 :: a6 :: a7 :: a8 :: a9 :: a10 :: a11 :: a12 :: a13 :: a14 :: a15 :: a16 :: a17 :: a18 :: a19 :: a20 :: a21 :: a22 :: a23 :: x :: l := .tail _ m23
theorem m25 {α : Type} {x a0 a1 a2 a3 a4 a5 a6 a7 a8 a9 a10 a11 a12 a13 a14 a15 a16 a17 a18 a19 a20 a21 a22 a23 a24 : α} {l : List α} : x ∈ a0 :: a1 :: a2 :: a3 :: a4 :: a5 :: a6 :: a7 :: a8 :: a9 :: a10 :: a11 :: a12 :: a13 :: a14 :: a15 :: a16 :: a17 :: a18 :: a19 :: a20 :: a21 :: a22 :: a23 :: a24 :: x :: l := .tail _ m24
theorem m26 {α : Type} {x a0 a1 a2 a3 a4 a5 a6 a7 a8 a9 a10 a11 a12 a13 a14 a15 a16 a17 a18 a19 a20 a21 a22 a23 a24 a25 : α} {l : List α} : x ∈ a0 :: a1 :: a2 :: a3 :: a4 :: a5 :: a6 :: a7 :: a8 :: a9 :: a10 :: a11 :: a12 :: a13 :: a14 :: a15 :: a16 :: a17 :: a18 :: a19 :: a20 :: a21 :: a22 :: a23 :: a24 :: a25 :: x :: l := .tail _ m25
theorem m27 {α : Type} {x a0 a1 a2 a3 a4 a5 a6 a7 a8 a9 a10 a11 a12 a13 a14 a15 a16 a17 a18 a19 a20 a21 a22 a23 a24 a25 a26 : α} {l : List α} : x ∈ a0 :: a1 :: a2 :: a3 :: a4 :: a5 :: a6 :: a7 :: a8 :: a9 :: a10 :: a11 :: a12 :: a13 :: a14 :: a15 :: a16 :: a17 :: a18 :: a19 :: a20 :: a21 :: a22 :: a23 :: a24 :: a25 :: a26 :: x :: l := .tail _ m26
theorem m28 {α : Type} {x a0 a1 a2 a3 a4 a5 a6 a7 a8 a9 a10 a11 a12 a13 a14 a15 a16 a17 a18 a19 a20 a21 a22 a23 a24 a25 a26 a27 : α} {l : List α} : x ∈ a0 :: a1 :: a2 :: a3 :: a4 :: a5 :: a6 :: a7 :: a8 :: a9 :: a10 :: a11 :: a12 :: a13 :: a14 :: a15 :: a16 :: a17 :: a18 :: a19 :: a20 :: a21 :: a22 :: a23 :: a24 :: a25 :: a26 :: a27 :: x :: l := .tail _ m27
theorem m29 {α : Type} {x a0 a1 a2 a3 a4 a5 a6 a7 a8 a9 a10 a11 a12 a13 a14 a15 a16 a17 a18 a19 a20 a21 a22 a23 a24 a25 a26 a27 a28 : α} {l : List α} : x ∈ a0 :: a1 :: a2 :: a3 :: a4 :: a5 :: a6 :: a7 :: a8 :: a9 :: a10 :: a11 :: a12 :: a13 :: a14 :: a15 :: a16 :: a17 :: a18 :: a19 :: a20 :: a21 :: a22 :: a23 :: a24 :: a25 :: a26 :: a27 :: a28 :: x :: l := .tail _ m28
theorem mt {α : Type} {x a : α} {l : List α} (h : x ∈ l) : x ∈ a :: l := .tail _ h
theorem al0 {α : Type} {p : α → Prop} : ∀ x ∈ ([] : List α), p x := fun _ h => (List.not_mem_nil h).elim
theorem al1 {α : Type} {p : α → Prop} {a : α} {l : List α} (h : p a) (k : ∀ x ∈ l, p x) : ∀ x ∈ a :: l, p x := fun x m => match m with
  | .head _ => h
  | .tail _ m => k x m
/-! steps that are taken together -/
section
variable {G : Gx} {n : Nat} {d : FD} {loc : Locs} {H : HH} {X : Str → HH → Prop}
theorem eNq {x : Str} {p1 : Pos} {v : V} {P : V → HH → Prop} (m : (x, v) ∈ loc) (h : P v H) (hk : d.isL x = true := by kernel_rfl) : Ev G n d loc H (.Name x p1) P X := Ev.name m hk h
theorem aNq {x : Str} {p1 : Pos} {v : V} {es : List Expr} {P : List V → HH → Prop} (m : (x, v) ∈ loc) (h : Ea G n d loc H es (fun xs H₂ => P (v :: xs) H₂) X) (hk : d.isL x = true := by kernel_rfl) : Ea G n d loc H (.Name x p1 :: es) P X := Ea.cons rfl (Ev.name m hk h)
theorem aLq {x : Str} {p1 : Pos} {v : V} {P : List V → HH → Prop} (m : (x, v) ∈ loc) (h : P [v] H) (hk : d.isL x = true := by kernel_rfl) : Ea G n d loc H [.Name x p1] P X := aNq m (Ea.nil h) hk
theorem aSq {s : Str} {k : Nat} {p1 : Pos} {es : List Expr} {P : List V → HH → Prop} (h : Ea G n d loc H es (fun xs H₂ => P (.str s :: xs) H₂) X) : Ea G n d loc H (.Constant (.str s) k p1 :: es) P X := Ea.cons rfl (Ev.cstr h)
theorem aSlq {s : Str} {k : Nat} {p1 : Pos} {P : List V → HH → Prop} (h : P [.str s] H) : Ea G n d loc H [.Constant (.str s) k p1] P X := aSq (Ea.nil h)
theorem aIq {i : Int} {k : Nat} {p1 : Pos} {es : List Expr} {P : List V → HH → Prop} (h : Ea G n d loc H es (fun xs H₂ => P (.int i :: xs) H₂) X) : Ea G n d loc H (.Constant (.int i) k p1 :: es) P X := Ea.cons rfl (Ev.cint h)
theorem aIlq {i : Int} {k : Nat} {p1 : Pos} {P : List V → HH → Prop} (h : P [.int i] H) : Ea G n d loc H [.Constant (.int i) k p1] P X := aIq (Ea.nil h)
theorem cGq {x : Str} {p1 p2 : Pos} {args : List Expr} {f : Value} {P : V → HH → Prop} (e : nsIn (KF G.w.params) mainGlobals x = some (some f)) (h : Ea G n d loc H args (fun xs H₁ => Cl G n f xs H₁ P X) X)
    (hk : d.isG x = true := by kernel_rfl) (hp : plainB args = true := by kernel_rfl) (hK : keepIn (KF G.w.params) f = true := by kernel_rfl) : Ev G n d loc H (.Call (.Name x p1) args [] p2) P X := Ev.call hp (Ev.glob e hk ⟨_, rfl, KeepV.K hK, h⟩)
theorem cBq {x : Str} {p1 p2 : Pos} {args : List Expr} {i : String} {P : V → HH → Prop} (e : nsIn (KF G.w.params) mainGlobals x = some none) (hv : bootBuiltins x = some (.builtin i)) (h : Ea G n d loc H args (fun xs H₁ => Cl G n (.builtin i) xs H₁ P X) X)
    (hn : x ≠ "__name__" := by decide +kernel) (hk : d.isG x = true := by kernel_rfl) (hp : plainB args = true := by kernel_rfl) : Ev G n d loc H (.Call (.Name x p1) args [] p2) P X := Ev.call hp (Ev.blt e hv hn hk ⟨_, rfl, KeepV.blt _, h⟩)
theorem cTq {x : Str} {p1 p2 : Pos} {args : List Expr} {i : String} {P : V → HH → Prop} (e : nsIn (KF G.w.params) mainGlobals x = some none) (hv : bootBuiltins x = some (.type i)) (h : Ea G n d loc H args (fun xs H₁ => Cl G n (.type i) xs H₁ P X) X)
    (hn : x ≠ "__name__" := by decide +kernel) (hk : d.isG x = true := by kernel_rfl) (hp : plainB args = true := by kernel_rfl) : Ev G n d loc H (.Call (.Name x p1) args [] p2) P X := Ev.call hp (Ev.blt e hv hn hk ⟨_, rfl, KeepV.typ _, h⟩)
theorem tNq {y x : Str} {p1 p2 : Pos} {a C : Addr} {cap : Nat} {fs : List (Str × V)} {v : V} {P : V → HH → Prop} (mo : (y, .ref a) ∈ loc) (m : (a, .inst C cap fs) ∈ H) (ok : ClsOk C) (mv : (x, v) ∈ fs) (h : P v H)
    (hk : d.isL y = true := by kernel_rfl) (hx : x ∈ fldOf C := by decide +kernel) (hv : v.nb = true := by kernel_rfl) : Ev G n d loc H (.Attribute (.Name y p1) x p2) P X   := Ev.attr rfl (Ev.name mo hk (At.i m ok hx mv hv h))
theorem tAq {x : Str} {a C : Addr} {cap : Nat} {fs : List (Str × V)} {v : V} {P : V → HH → Prop} (m : (a, .inst C cap fs) ∈ H) (ok : ClsOk C) (mv : (x, v) ∈ fs) (h : P v H) (hx : x ∈ fldOf C := by decide +kernel) (hv : v.nb = true := by kernel_rfl) : At G n (.ref a) x H P X := At.i m ok hx mv hv h
theorem sTq {y : Str} {p1 p2 p3 : Pos} {i : Int} {k : Nat} {xs : List V} {v : V} {P : V → HH → Prop} (mo : (y, .tup xs) ∈ loc) (h : P v H) (hx : xs[i.toNat]? = some v := by rfl) (hk : d.isL y = true := by kernel_rfl) (h0 : 0 ≤ i := by decide) (h1 : i < 2 ^ 63 := by decide) :
    Ev G n d loc H (.Subscript (.Name y p1) (.Constant (.int i) k p2) p3) P X := Ev.sub (Ev.name mo hk (Ev.cint (Sb.tup h0 h1 hx h)))
theorem sLq {y : Str} {p1 p2 p3 : Pos} {i : Int} {k : Nat} {xs : List V} {v : V} {P : V → HH → Prop} (mo : (y, .lst xs) ∈ loc) (h : P v H) (hx : xs[i.toNat]? = some v := by rfl) (hk : d.isL y = true := by kernel_rfl) (h0 : 0 ≤ i := by decide) (h1 : i < 2 ^ 63 := by decide) :
    Ev G n d loc H (.Subscript (.Name y p1) (.Constant (.int i) k p2) p3) P X := Ev.sub (Ev.name mo hk (Ev.cint (Sb.lst h0 h1 hx h)))
theorem bEq {y s a : Str} {p1 p2 p3 : Pos} {k : Nat} {P : Bool → HH → Prop} (mo : (y, .str a) ∈ loc) (h : P (a == s) H) (hk : d.isL y = true := by kernel_rfl) :
    Bt G n d loc H (.Compare (.Name y p1) [.Eq] [.Constant (.str s) k p2] p3) P X := Bt.cmp rfl (Ev.name mo hk (Ev.cstr (Cm.eqS h)))
theorem bNq {y : Str} {x : V} {p1 p2 p3 : Pos} {k : Nat} {P : Bool → HH → Prop} (mo : (y, x) ∈ loc) (h : P x.isNone H) (hk : d.isL y = true := by kernel_rfl) :
    Bt G n d loc H (.Compare (.Name y p1) [.Is] [.Constant .none k p2] p3) P X := Bt.cmp rfl (Ev.name mo hk (Ev.cnone (Cm.isN h)))
theorem bMq {y : Str} {x : V} {p1 p2 p3 : Pos} {k : Nat} {P : Bool → HH → Prop} (mo : (y, x) ∈ loc) (h : P (!x.isNone) H) (hk : d.isL y = true := by kernel_rfl) :
    Bt G n d loc H (.Compare (.Name y p1) [.IsNot] [.Constant .none k p2] p3) P X := Bt.cmp rfl (Ev.name mo hk (Ev.cnone (Cm.isNotN h)))
theorem wNq {y x : Str} {p1 : Pos} {a C : Addr} {cap : Nat} {fs : List (Str × V)} {v : V} {H' : HH} {P : HH → Prop} (mo : (y, .ref a) ∈ loc) (m : (a, .inst C cap fs) ∈ H) (ok : ClsOk C) (hf : FNo x fs) (U : UpH a (.inst C cap fs) (.inst C (cap + 1) ((x, v) :: fs)) H H') (h : P H')
    (hk : d.isL y = true := by kernel_rfl) (hc : cap + 1 ≤ 1000 := by decide +kernel) (hx : x ∈ fldOf C := by decide +kernel) : Ev G n d loc H (.Name y p1) (fun ov H₂ => Sa G n ov x v H₂ P X) X := Ev.name mo hk (Sa.nw m ok hc hx hf U h)
theorem wOq {y x : Str} {p1 : Pos} {a C : Addr} {cap : Nat} {fs fs' : List (Str × V)} {v : V} {H' : HH} {P : HH → Prop} (mo : (y, .ref a) ∈ loc) (m : (a, .inst C cap fs) ∈ H) (ok : ClsOk C) (hf : FHit x v fs fs') (U : UpH a (.inst C cap fs) (.inst C cap fs') H H') (h : P H')
    (hk : d.isL y = true := by kernel_rfl) (hc : cap ≤ 1000 := by decide +kernel) (hx : x ∈ fldOf C := by decide +kernel) : Ev G n d loc H (.Name y p1) (fun ov H₂ => Sa G n ov x v H₂ P X) X := Ev.name mo hk (Sa.od m ok hc hx hf U h)
section
variable {ts : List Stmt} {Pn : Locs → HH → Prop} {Pr : V → HH → Prop}
theorem eIq {test : Expr} {body orelse : List Stmt} {p1 : Pos} (h : Bt G n d loc H test (fun b H₁ => if b = true then Es G n d loc H₁ body (fun loc' H' => Es G n d loc' H' ts Pn Pr X) Pr X else Es G n d loc H₁ orelse (fun loc' H' => Es G n d loc' H' ts Pn Pr X) Pr X) X) :
    Es G n d loc H (.If test body orelse p1 :: ts) Pn Pr X := Es.cons (E1.ite h)
theorem iFq {b : Bool} {p : Prop} (h : Pn loc H) (e : b = false := by kernel_rfl!) : if b = true then p else Es G n d loc H [] Pn Pr X := ite_f' e (Es.nil h)
theorem eRq {e : Expr} {p1 : Pos} (h : Ev G n d loc H e Pr X) : Es G n d loc H (.Return (some e) p1 :: ts) Pn Pr X := Es.cons (E1.ret h)
theorem eAq {x : Str} {p1 p2 : Pos} {value : Expr} {loc' : Locs} (hd : Del x loc loc') (h : Ev G n d loc H value (fun v H' => Es G n d ((x, v) :: loc') H' ts Pn Pr X) X) (hk : d.isL x = true := by kernel_rfl) (hv : noComp value = true := by kernel_rfl) :
    Es G n d loc H (.Assign [.Name x p1] value p2 :: ts) Pn Pr X := Es.cons (E1.asgN hd hk hv h)
theorem eTq {o value : Expr} {x : Str} {p1 p2 : Pos} (h : Ev G n d loc H value (fun v H₁ => Ev G n d loc H₁ o (fun ov H₂ => Sa G n ov x v H₂ (fun H₃ => Es G n d loc H₃ ts Pn Pr X) X) X) X) (hv : noComp value = true := by kernel_rfl) :
    Es G n d loc H (.Assign [.Attribute o x p1] value p2 :: ts) Pn Pr X := Es.cons (E1.asgA hv h)
theorem eXq {e : Expr} {p1 : Pos} (h : Ev G n d loc H e (fun _ H' => Es G n d loc H' ts Pn Pr X) X) (hv : noComp e = true := by kernel_rfl) : Es G n d loc H (.Expr e p1 :: ts) Pn Pr X := Es.cons (E1.expr hv h)
end
end
noncomputable abbrev gapF (l : Addr) (s t : Int) : List (Str × V) := [("gap_end", .int t), ("gap_start", .int s), ("cells", .ref l), ("room", .int 8)]
noncomputable abbrev gapO (l : Addr) (s t : Int) : O := .inst 551 4 (gapF l s t)
section
variable {G : Gx} {n : Nat} {H R : HH} {X : Str → HH → Prop} {P : V → HH → Prop}

theorem c_GapText_init {g : Addr} (h : ∀ l, P .none ((l, .list (List.replicate 8 (.int 0))) :: (g, gapO l 0 8) :: R)) : Cd G (n + 1) (.ref 478) [.ref g, .lst [], .int 8] ((g, .inst 551 0 []) :: R) P X := by
  refine in_GapText_init ?_
  refine Es.cons ?_
  with_reducible refine E1.asgA (by kernel_rfl) ?_
  refine eNq m2 ?_
  refine wNq m0 m0 cls_GapText .nil .head ?_
  refine eTq ?_
  with_reducible refine Ev.bin ?_
  refine cTq (b_list _) bb_list ?_
  refine aLq m1 ?_
  refine Cl.listL (by decide) (.inl ?_)
  with_reducible refine Ev.bin ?_
  with_reducible refine Ev.lst ?_
  refine aIlq ?_
  with_reducible refine len_ok (by kernel_rfl!) ?_
  refine Or.inl ?_
  refine eNq m2 ?_
  refine Bn.mulL (by decide) (by decide) (.inl ?_)
  refine Bn.addL (by decide) (.inr fun l => ?_)
  refine wNq m0 m1 cls_GapText (.cons (by kernel_rfl) .nil) (.tail .head) ?_
  refine eTq ?_
  refine cBq (b_len _) bb_len ?_
  refine aLq m1 ?_
  refine Cl.lenL (by decide) ?_
  refine wNq m0 m1 cls_GapText (.cons (by kernel_rfl) (.cons (by kernel_rfl) .nil)) (.tail .head) ?_
  refine eTq ?_
  with_reducible refine Ev.bin ?_
  refine cBq (b_len _) bb_len ?_
  refine aLq m1 ?_
  refine Cl.lenL (by decide) ?_
  refine eNq m2 ?_
  refine Bn.add ?_
  refine wNq m0 m1 cls_GapText (.cons (by kernel_rfl) (.cons (by kernel_rfl) (.cons (by kernel_rfl) .nil))) (.tail .head) ?_
  with_reducible refine Es.nil ?_
  exact h l
theorem c_GapText_size {g l : Addr} {cs : List V} {s t : Int} (mg : (g, gapO l s t) ∈ H) (ml : (l, .list cs) ∈ H) (hz : cs.length ≤ 16777216) (h : P (.int (cs.length - t + s)) H) : Cd G (n + 1) (.ref 485) [.ref g] H P X := by
  refine in_GapText_size ?_
  refine Es.cons ?_
  with_reducible refine E1.ret ?_
  with_reducible refine Ev.bin ?_
  with_reducible refine Ev.bin ?_
  refine cBq (b_len _) bb_len ?_
  refine Ea.cons (by kernel_rfl) ?_
  refine tNq m0 (by assumption) cls_GapText m2 ?_
  refine Ea.nil ?_
  refine Cl.lenO ml hz ?_
  refine tNq m0 (by assumption) cls_GapText m0 ?_
  refine Bn.sub ?_
  refine tNq m0 (by assumption) cls_GapText m1 ?_
  refine Bn.add ?_
  exact h
end
/-- the cells cs with the gap from s to t hold the text T -/
structure GapR {α : Type} (T cs : List α) (s t : Nat) : Prop where
  st : s ≤ t
  tl : t ≤ cs.length
  tx : cs.take s ++ cs.drop t = T
theorem GapR.len {α : Type} {T cs : List α} {s t : Nat} (g : GapR T cs s t) : T.length + t = cs.length + s := by
  have h1 := g.st; have h2 := g.tl
  rw [← g.tx, List.length_append, List.length_take, List.length_drop]
  omega
noncomputable def cut {α : Type} (T : List α) (i j : Nat) : List α := (T.drop i).take (j - i)
theorem cut_append_left {α : Type} {a b : List α} {i j : Nat} (h : j ≤ a.length) : cut (a ++ b) i j = cut a i j := by
  unfold cut
  by_cases hi : i ≤ a.length
  · rw [List.drop_append_of_le_length hi, List.take_append_of_le_length (by rw [List.length_drop]; omega)]
  · rw [show j - i = 0 by omega]; simp
theorem cut_append_right {α : Type} {a b : List α} {i j : Nat} (h : a.length ≤ i) : cut (a ++ b) i j = cut b (i - a.length) (j - a.length) := by
  unfold cut
  rw [List.drop_append, List.drop_of_length_le h, List.nil_append, show j - i = j - a.length - (i - a.length) by omega]
theorem cut_take {α : Type} {cs : List α} {s i j : Nat} (h : j ≤ s) : cut (cs.take s) i j = cut cs i j := by
  unfold cut
  rw [List.drop_take, List.take_take]
  congr 1
  omega
theorem cut_drop {α : Type} {cs : List α} {t i j : Nat} : cut (cs.drop t) i j = cut cs (i + t) (j + t) := by
  unfold cut
  rw [List.drop_drop, show t + i = i + t by omega, show j + t - (i + t) = j - i by omega]
theorem cut_split {α : Type} {T : List α} {i m j : Nat} (h1 : i ≤ m) (h2 : m ≤ j) : cut T i j = cut T i m ++ cut T m j := by
  unfold cut
  rw [show j - i = (m - i) + (j - m) by omega, List.take_add, List.drop_drop, show i + (m - i) = m by omega]
theorem slcV_cut {α : Type} {cs : List α} {i j : Int} : slcV (some i) (some j) cs = cut cs i.toNat j.toNat := rfl
theorem GapR.lo {α : Type} {T cs : List α} {s t i j : Nat} (g : GapR T cs s t) (h : j ≤ s) : cut T i j = cut cs i j := by
  have h1 := g.st; have h2 := g.tl
  rw [← g.tx, cut_append_left (by rw [List.length_take]; omega), cut_take h]
theorem cut_le {α : Type} (xs : List α) (i j : Nat) : (cut xs i j).length ≤ xs.length - i := by unfold cut; rw [List.length_take, List.length_drop]; exact Nat.min_le_right _ _
theorem cut_le' {α : Type} (xs : List α) (i j : Nat) : (cut xs i j).length ≤ j - i := by unfold cut; rw [List.length_take]; exact Nat.min_le_left _ _
theorem two_le {a b s t i c : Nat} (ha : a ≤ s - i) (hb : b ≤ c - t) (h1 : s ≤ t) (h2 : t ≤ c) (hz : c ≤ 16777216) : a + b ≤ 16777216 := by omega
theorem GapR.hi {α : Type} {T cs : List α} {s t i j : Nat} (g : GapR T cs s t) (h : s ≤ i) : cut T i j = cut cs (i + (t - s)) (j + (t - s)) := by
  have h1 := g.st; have h2 := g.tl
  have hl : (cs.take s).length = s := by rw [List.length_take]; omega
  rw [← g.tx, cut_append_right (by omega), hl, cut_drop]
  unfold cut
  rw [show i - s + t = i + (t - s) by omega]
  congr 1
  clear hl h2
  omega
section
variable {G : Gx} {n : Nat} {H R : HH} {X : Str → HH → Prop} {P : V → HH → Prop}

theorem c_GapText_codes {g l : Addr} {T cs : List V} {s t i j : Nat} (q : GapR T cs s t) (hij : i ≤ j) (mg : (g, gapO l s t) ∈ H) (ml : (l, .list cs) ∈ H) (hz : cs.length ≤ 16777216) (h : P (.lst (cut T i j)) H) : Cd G (n + 1) (.ref 499) [.ref g, .int i, .int j] H P X := by
  have h1 := q.st; have h2 := q.tl
  refine in_GapText_codes ?_
  refine Es.cons ?_
  with_reducible refine E1.asgN (.keep (by kernel_rfl) (.keep (by kernel_rfl) (.keep (by kernel_rfl) .nil))) (by kernel_rfl) (by kernel_rfl) ?_
  with_reducible refine Ev.bin ?_
  refine tNq m0 (by assumption) cls_GapText m0 ?_
  refine tNq m0 (by assumption) cls_GapText m1 ?_
  refine Bn.sub ?_
  refine eIq ?_
  with_reducible refine Bt.cmp (by kernel_rfl) ?_
  refine eNq m3 ?_
  refine tNq m1 (by assumption) cls_GapText m1 ?_
  refine Cm.le ?_
  refine ite_of (fun hb => ?_) (fun hb => ?_)
  · refine eRq ?_
    with_reducible refine Ev.sub ?_
    refine tNq m1 (by assumption) cls_GapText m2 ?_
    with_reducible refine Ev.slice ?_
    refine Ep.some ?_
    refine eNq m2 ?_
    refine Ep.some ?_
    refine eNq m3 ?_
    with_reducible refine ⟨_, _, PartV.int _, PartV.int _, ?_⟩
    refine Sb.slcL ml hz (Int.natCast_nonneg _) (Int.natCast_nonneg _) ?_
    rw [slcV_cut, Int.toNat_natCast, Int.toNat_natCast, ← q.lo (by simpa using hb)]
    exact h
  · with_reducible refine Es.nil ?_
    refine eIq ?_
    with_reducible refine Bt.cmp (by kernel_rfl) ?_
    refine eNq m2 ?_
    refine tNq m1 (by assumption) cls_GapText m1 ?_
    refine Cm.ge ?_
    refine ite_of (fun hb' => ?_) (fun hb' => ?_)
    · refine eRq ?_
      with_reducible refine Ev.sub ?_
      refine tNq m1 (by assumption) cls_GapText m2 ?_
      with_reducible refine Ev.slice ?_
      refine Ep.some ?_
      with_reducible refine Ev.bin ?_
      refine eNq m2 ?_
      refine eNq m0 ?_
      refine Bn.add ?_
      refine Ep.some ?_
      with_reducible refine Ev.bin ?_
      refine eNq m3 ?_
      refine eNq m0 ?_
      refine Bn.add ?_
      with_reducible refine ⟨_, _, PartV.int _, PartV.int _, ?_⟩
      refine Sb.slcL ml hz (by simp only [nnO]; omega) (by simp only [nnO]; omega) ?_
      rw [slcV_cut, show ((i : Int) + (↑t - ↑s)).toNat = i + (t - s) by omega, show ((j : Int) + (↑t - ↑s)).toNat = j + (t - s) by omega, ← q.hi (by simpa using hb')]
      exact h
    · have hb1 : s < j := by simpa using hb
      have hb2 : i < s := by simpa using hb'
      with_reducible refine Es.nil ?_
      refine eRq ?_
      with_reducible refine Ev.bin ?_
      with_reducible refine Ev.sub ?_
      refine tNq m1 (by assumption) cls_GapText m2 ?_
      with_reducible refine Ev.slice ?_
      refine Ep.some ?_
      refine eNq m2 ?_
      refine Ep.some ?_
      refine tNq m1 (by assumption) cls_GapText m1 ?_
      with_reducible refine ⟨_, _, PartV.int _, PartV.int _, ?_⟩
      refine Sb.slcL ml hz (Int.natCast_nonneg _) (Int.natCast_nonneg _) ?_
      with_reducible refine Ev.sub ?_
      refine tNq m1 (by assumption) cls_GapText m2 ?_
      with_reducible refine Ev.slice ?_
      refine Ep.some ?_
      refine tNq m1 (by assumption) cls_GapText m0 ?_
      refine Ep.some ?_
      with_reducible refine Ev.bin ?_
      refine eNq m3 ?_
      refine eNq m0 ?_
      refine Bn.add ?_
      with_reducible refine ⟨_, _, PartV.int _, PartV.int _, ?_⟩
      refine Sb.slcL ml hz (by simp only [nnO]; omega) (by simp only [nnO]; omega) ?_
      refine Bn.addL ?_ (.inl ?_)
      · exact two_le (cut_le' cs (i : Int).toNat (s : Int).toNat) (cut_le cs (t : Int).toNat _) h1 h2 hz
      · rw [slcV_cut, slcV_cut, Int.toNat_natCast, Int.toNat_natCast, Int.toNat_natCast, show ((j : Int) + (↑t - ↑s)).toNat = j + (t - s) by omega, ← q.lo (Nat.le_refl _)]
        have e := q.hi (i := s) (j := j) (Nat.le_refl _)
        rw [show s + (t - s) = t by omega] at e
        rw [← e, ← cut_split (by omega) (by omega)]
        exact h
end
section
variable {α : Type} {T cs : List α} {s t : Nat}
theorem take_cut {a b : Nat} (h : a ≤ b) : cs.take a ++ cut cs a b = cs.take b := by
  unfold cut
  rw [← List.take_add, show a + (b - a) = b by omega]
theorem cut_dropE {a b : Nat} (h : a ≤ b) : cut cs a b ++ cs.drop b = cs.drop a := by
  unfold cut
  have e : cs.drop b = (cs.drop a).drop (b - a) := by rw [List.drop_drop, show a + (b - a) = b by omega]
  rw [e, List.take_append_drop]
theorem cut_len {a b : Nat} (h : b ≤ cs.length) : (cut cs a b).length = b - a := by
  unfold cut; rw [List.length_take, List.length_drop]; omega
theorem take_app {a b : List α} {k : Nat} (h : a.length = k) : (a ++ b).take k = a := by rw [← h, List.take_left]
theorem drop_app {a b : List α} {k : Nat} (h : a.length = k) : (a ++ b).drop k = b := by rw [← h, List.drop_left]
theorem tklen {k : Nat} (h : k ≤ cs.length) : (cs.take k).length = k := by rw [List.length_take]; omega
theorem GapR.take (g : GapR T cs s t) : T.take s = cs.take s := by
  have h1 := g.st; have h2 := g.tl
  rw [← g.tx]; exact take_app (tklen (by omega))
theorem GapR.drop (g : GapR T cs s t) : T.drop s = cs.drop t := by
  have h1 := g.st; have h2 := g.tl
  rw [← g.tx]; exact drop_app (tklen (by omega))
theorem GapR.widen (g : GapR T cs s t) (zs : List α) : GapR T (setSlc (some (t : Int)) (some (t : Int)) cs zs) s (t + zs.length) := by
  have h1 := g.st; have h2 := g.tl
  have e : setSlc (some (t : Int)) (some (t : Int)) cs zs = cs.take t ++ (zs ++ cs.drop t) := by
    simp only [setSlc, slcA, slcB, Int.toNat_natCast, Nat.max_self, List.append_assoc]
  refine ⟨by omega, ?_, ?_⟩
  · rw [e]; simp only [List.length_append, List.length_take, List.length_drop]; omega
  · rw [e, List.take_append_of_le_length (by rw [tklen h2]; exact h1), List.take_take, Nat.min_eq_left h1, ← List.append_assoc, drop_app (by rw [List.length_append, tklen h2]), g.tx]
theorem GapR.left (g : GapR T cs s t) {i : Nat} (h : i < s) : GapR T (setSlc (some ((t : Int) - ((cut cs i s).length : Int))) (some (t : Int)) cs (cut cs i s)) i (t - (s - i)) := by
  have h1 := g.st; have h2 := g.tl
  have hl : (cut cs i s).length = s - i := cut_len (by omega)
  have e : setSlc (some ((t : Int) - ((cut cs i s).length : Int))) (some (t : Int)) cs (cut cs i s) = cs.take (t - (s - i)) ++ (cut cs i s ++ cs.drop t) := by
    simp only [setSlc, slcA, slcB, hl]
    rw [show ((t : Int) - ((s - i : Nat) : Int)).toNat = t - (s - i) by omega, show max (t - (s - i)) (t : Int).toNat = t by omega, List.append_assoc]
  refine ⟨by omega, ?_, ?_⟩
  · rw [e]; simp only [List.length_append, List.length_take, List.length_drop, hl]; omega
  · rw [e, List.take_append_of_le_length (by rw [tklen (by omega)]; omega), List.take_take, Nat.min_eq_left (by omega), drop_app (tklen (by omega)), ← List.append_assoc, take_cut (by omega), g.tx]
theorem GapR.right (g : GapR T cs s t) {i : Nat} (h : s ≤ i) (hi : i ≤ T.length) : GapR T (setSlc (some (s : Int)) (some ((s : Int) + ((cut cs t (t + i - s)).length : Int))) cs (cut cs t (t + i - s))) i (t + (i - s)) := by
  have h1 := g.st; have h2 := g.tl; have h3 := g.len
  have hl : (cut cs t (t + i - s)).length = i - s := by rw [cut_len (by omega)]; omega
  have e : setSlc (some (s : Int)) (some ((s : Int) + ((cut cs t (t + i - s)).length : Int))) cs (cut cs t (t + i - s)) = (cs.take s ++ cut cs t (t + i - s)) ++ cs.drop i := by
    simp only [setSlc, slcA, slcB, hl]
    rw [Int.toNat_natCast, show max s ((s : Int) + ((i - s : Nat) : Int)).toNat = i by omega]
  have hl2 : (cs.take s ++ cut cs t (t + i - s)).length = i := by rw [List.length_append, hl, tklen (by omega)]; omega
  refine ⟨by omega, ?_, ?_⟩
  · rw [e, List.length_append, hl2, List.length_drop]; omega
  · rw [e, take_app hl2, show t + (i - s) = i + (t - s) by omega, ← List.drop_drop, drop_app hl2, List.drop_drop, show i + (t - s) = t + i - s by omega, List.append_assoc, cut_dropE (by omega), g.tx]
theorem GapR.put (g : GapR T cs s t) {zs : List α} (h : zs.length ≤ t - s) : GapR (T.take s ++ zs ++ T.drop s) (setSlc (some (s : Int)) (some ((s : Int) + (zs.length : Int))) cs zs) (s + zs.length) t := by
  have h1 := g.st; have h2 := g.tl
  have e : setSlc (some (s : Int)) (some ((s : Int) + (zs.length : Int))) cs zs = (cs.take s ++ zs) ++ cs.drop (s + zs.length) := by
    simp only [setSlc, slcA, slcB]
    rw [Int.toNat_natCast, show max s ((s : Int) + (zs.length : Int)).toNat = s + zs.length by omega]
  have hl2 : (cs.take s ++ zs).length = s + zs.length := by rw [List.length_append, tklen (by omega)]
  refine ⟨by omega, ?_, ?_⟩
  · rw [e, List.length_append, hl2, List.length_drop]; omega
  · rw [e, take_app hl2, show t = (s + zs.length) + (t - (s + zs.length)) by omega, ← List.drop_drop, drop_app hl2, List.drop_drop, show s + zs.length + (t - (s + zs.length)) = t by omega, g.take, g.drop]
theorem GapR.out (g : GapR T cs s t) {i j : Nat} (h : i ≤ s) (h' : s ≤ j) (hj : j ≤ T.length) : GapR (T.take i ++ T.drop j) cs i (t + j - s) := by
  have h1 := g.st; have h2 := g.tl; have h3 := g.len
  refine ⟨by omega, by omega, ?_⟩
  have e1 : T.take i = cs.take i := by
    rw [← g.tx, List.take_append_of_le_length (by rw [tklen (by omega)]; omega), List.take_take, Nat.min_eq_left h]
  have e2 : T.drop j = cs.drop (t + j - s) := by
    rw [show j = s + (j - s) by omega, ← List.drop_drop, g.drop, List.drop_drop, show t + (j - s) = t + (s + (j - s)) - s by omega]
  rw [e1, e2]
end
section
variable {G : Gx} {n : Nat} {H R : HH} {X : Str → HH → Prop} {P : V → HH → Prop}

theorem c_GapText_widen_gap {g l : Addr} {T cs : List V} {s t w : Nat} (q : GapR T cs s t) (hz : cs.length + w + 8 ≤ 16777216)
    (h : ∀ cs' t', GapR T cs' s t' → w ≤ t' - s → cs'.length ≤ cs.length + w + 8 → P .none ((g, gapO l s t') :: (l, .list cs') :: R)) : Cd G (n + 1) (.ref 513) [.ref g, .int w] ((g, gapO l s t) :: (l, .list cs) :: R) P X := by
  have h1 := q.st; have h2 := q.tl
  refine in_GapText_widen_gap ?_
  refine Es.cons ?_
  with_reducible refine E1.asgN (.keep (by kernel_rfl) (.keep (by kernel_rfl) .nil)) (by kernel_rfl) (by kernel_rfl) ?_
  with_reducible refine Ev.bin ?_
  refine eNq m1 ?_
  with_reducible refine Ev.bin ?_
  refine tNq m0 m0 cls_GapText m0 ?_
  refine tNq m0 m0 cls_GapText m1 ?_
  refine Bn.sub ?_
  refine Bn.sub ?_
  refine eIq ?_
  with_reducible refine Bt.cmp (by kernel_rfl) ?_
  refine eNq m0 ?_
  with_reducible refine Ev.cint ?_
  refine Cm.gt ?_
  refine ite_of (fun hb => ?_) (fun hb => ?_)
  · have hb : 0 < (w : Int) - (↑t - ↑s) := by simpa using hb
    with_reducible refine Es.cons ?_
    with_reducible refine E1.asgS (by kernel_rfl) ?_
    with_reducible refine Ev.bin ?_
    with_reducible refine Ev.lst ?_
    refine aIlq ?_
    with_reducible refine len_ok (by kernel_rfl!) ?_
    refine Or.inl ?_
    with_reducible refine Ev.bin ?_
    refine eNq m0 ?_
    refine tNq m1 m0 cls_GapText m3 ?_
    refine Bn.add ?_
    refine Bn.mulL (by omega) (by omega) (.inl ?_)
    refine tNq m1 m0 cls_GapText m2 ?_
    with_reducible refine Ev.slice ?_
    refine Ep.some ?_
    refine tNq m1 m0 cls_GapText m0 ?_
    refine Ep.some ?_
    refine tNq m1 m0 cls_GapText m0 ?_
    with_reducible refine ⟨_, _, PartV.int _, PartV.int _, ?_⟩
    refine Stt.slc (.tail .head) (Int.natCast_nonneg _) (Int.natCast_nonneg _) (by rw [List.length_replicate]; omega) ?_
    refine eTq ?_
    with_reducible refine Ev.bin ?_
    with_reducible refine Ev.bin ?_
    refine tNq m1 m0 cls_GapText m0 ?_
    refine eNq m0 ?_
    refine Bn.add ?_
    refine tNq m1 m0 cls_GapText m3 ?_
    refine Bn.add ?_
    refine wOq m1 m0 cls_GapText (.hit (.cons (by kernel_rfl) (.cons (by kernel_rfl) (.cons (by kernel_rfl) .nil)))) .head ?_
    with_reducible refine Es.nil ?_
    with_reducible refine Es.nil ?_
    have e : (t : Int) + (↑w - (↑t - ↑s)) + 8 = ((t + (List.replicate ((w : Int) - (↑t - ↑s) + 8).toNat (V.int 0)).length : Nat) : Int) := by rw [List.length_replicate]; omega
    rw [e]
    refine h _ _ (q.widen _) (by rw [List.length_replicate]; omega) ?_
    simp only [setSlc, slcA, slcB, List.length_append, List.length_take, List.length_drop, List.length_replicate]
    omega
  · have hb : ¬ 0 < (w : Int) - (↑t - ↑s) := by simpa using hb
    with_reducible refine Es.nil ?_
    with_reducible refine Es.nil ?_
    exact h cs t q (by omega) (by omega)
theorem c_GapText_move_gap {g l : Addr} {T cs : List V} {s t i : Nat} (q : GapR T cs s t) (hi : i ≤ T.length) (hz : 2 * cs.length ≤ 16777216)
    (h : ∀ cs' t', GapR T cs' i t' → t' - i = t - s → cs'.length = cs.length → P .none ((g, gapO l i t') :: (l, .list cs') :: R)) : Cd G (n + 1) (.ref 506) [.ref g, .int i] ((g, gapO l s t) :: (l, .list cs) :: R) P X := by
  have h1 := q.st; have h2 := q.tl; have h3 := q.len
  refine in_GapText_move_gap ?_
  refine Es.cons ?_
  with_reducible refine E1.ite ?_
  with_reducible refine Bt.cmp (by kernel_rfl) ?_
  refine eNq m1 ?_
  refine tNq m0 m0 cls_GapText m1 ?_
  refine Cm.lt ?_
  refine ite_of (fun hb => ?_) (fun hb => ?_)
  · have hb : i < s := by simpa using hb
    have hl : (cut cs i s).length = s - i := cut_len (by omega)
    refine eAq (.keep (by kernel_rfl) (.keep (by kernel_rfl) .nil)) ?_
    with_reducible refine Ev.sub ?_
    refine tNq m0 m0 cls_GapText m2 ?_
    with_reducible refine Ev.slice ?_
    refine Ep.some ?_
    refine eNq m1 ?_
    refine Ep.some ?_
    refine tNq m0 m0 cls_GapText m1 ?_
    with_reducible refine ⟨_, _, PartV.int _, PartV.int _, ?_⟩
    refine Sb.slcL m1 (by omega) (Int.natCast_nonneg _) (Int.natCast_nonneg _) ?_
    rw [slcV_cut, Int.toNat_natCast, Int.toNat_natCast]
    with_reducible refine Es.cons ?_
    with_reducible refine E1.asgS (by kernel_rfl) ?_
    refine eNq m0 ?_
    refine tNq m1 m0 cls_GapText m2 ?_
    with_reducible refine Ev.slice ?_
    refine Ep.some ?_
    with_reducible refine Ev.bin ?_
    refine tNq m1 m0 cls_GapText m0 ?_
    refine cBq (b_len _) bb_len ?_
    refine aLq m0 ?_
    refine Cl.lenL (by omega) ?_
    refine Bn.sub ?_
    refine Ep.some ?_
    refine tNq m1 m0 cls_GapText m0 ?_
    with_reducible refine ⟨_, _, PartV.int _, PartV.int _, ?_⟩
    refine Stt.slc (.tail .head) (by simp only [nnO]; omega) (Int.natCast_nonneg _) (by omega) ?_
    refine eTq ?_
    with_reducible refine Ev.bin ?_
    refine tNq m1 m0 cls_GapText m0 ?_
    refine cBq (b_len _) bb_len ?_
    refine aLq m0 ?_
    refine Cl.lenL (by omega) ?_
    refine Bn.sub ?_
    refine wOq m1 m0 cls_GapText (.hit (.cons (by kernel_rfl) (.cons (by kernel_rfl) (.cons (by kernel_rfl) .nil)))) .head ?_
    with_reducible refine Es.nil ?_
    refine eTq ?_
    refine eNq m2 ?_
    refine wOq m1 m0 cls_GapText (.skip (by kernel_rfl) (.hit (.cons (by kernel_rfl) (.cons (by kernel_rfl) .nil)))) .head ?_
    with_reducible refine Es.nil ?_
    have q' := q.left hb
    have e : (t : Int) - ((cut cs i s).length : Int) = ((t - (s - i) : Nat) : Int) := by omega
    rw [show V.int ((t : Int) - ((cut cs i s).length : Int)) = V.int ((t - (s - i) : Nat) : Int) by rw [e]]
    refine h _ _ q' (by omega) ?_
    have := q'.len
    omega
  · have hb : s ≤ i := by simpa using hb
    have hl : (cut cs t (t + i - s)).length = i - s := by rw [cut_len (by omega)]; omega
    refine eAq (.keep (by kernel_rfl) (.keep (by kernel_rfl) .nil)) ?_
    with_reducible refine Ev.sub ?_
    refine tNq m0 m0 cls_GapText m2 ?_
    with_reducible refine Ev.slice ?_
    refine Ep.some ?_
    refine tNq m0 m0 cls_GapText m0 ?_
    refine Ep.some ?_
    with_reducible refine Ev.bin ?_
    with_reducible refine Ev.bin ?_
    refine tNq m0 m0 cls_GapText m0 ?_
    refine eNq m1 ?_
    refine Bn.add ?_
    refine tNq m0 m0 cls_GapText m1 ?_
    refine Bn.sub ?_
    with_reducible refine ⟨_, _, PartV.int _, PartV.int _, ?_⟩
    refine Sb.slcL m1 (by omega) (Int.natCast_nonneg _) (by simp only [nnO]; omega) ?_
    rw [slcV_cut, Int.toNat_natCast, show ((t : Int) + ↑i - ↑s).toNat = t + i - s by omega]
    with_reducible refine Es.cons ?_
    with_reducible refine E1.asgS (by kernel_rfl) ?_
    refine eNq m0 ?_
    refine tNq m1 m0 cls_GapText m2 ?_
    with_reducible refine Ev.slice ?_
    refine Ep.some ?_
    refine tNq m1 m0 cls_GapText m1 ?_
    refine Ep.some ?_
    with_reducible refine Ev.bin ?_
    refine tNq m1 m0 cls_GapText m1 ?_
    refine cBq (b_len _) bb_len ?_
    refine aLq m0 ?_
    refine Cl.lenL (by omega) ?_
    refine Bn.add ?_
    with_reducible refine ⟨_, _, PartV.int _, PartV.int _, ?_⟩
    refine Stt.slc (.tail .head) (Int.natCast_nonneg _) (by simp only [nnO]; omega) (by omega) ?_
    refine eTq ?_
    with_reducible refine Ev.bin ?_
    refine tNq m1 m0 cls_GapText m0 ?_
    refine cBq (b_len _) bb_len ?_
    refine aLq m0 ?_
    refine Cl.lenL (by omega) ?_
    refine Bn.add ?_
    refine wOq m1 m0 cls_GapText (.hit (.cons (by kernel_rfl) (.cons (by kernel_rfl) (.cons (by kernel_rfl) .nil)))) .head ?_
    with_reducible refine Es.nil ?_
    refine eTq ?_
    refine eNq m2 ?_
    refine wOq m1 m0 cls_GapText (.skip (by kernel_rfl) (.hit (.cons (by kernel_rfl) (.cons (by kernel_rfl) .nil)))) .head ?_
    with_reducible refine Es.nil ?_
    have q' := q.right hb hi
    have e : (t : Int) + ((cut cs t (t + i - s)).length : Int) = ((t + (i - s) : Nat) : Int) := by omega
    rw [show V.int ((t : Int) + ((cut cs t (t + i - s)).length : Int)) = V.int ((t + (i - s) : Nat) : Int) by rw [e]]
    refine h _ _ q' (by omega) ?_
    have := q'.len
    omega
end
section
variable {G : Gx} {n : Nat} {H R : HH} {X : Str → HH → Prop} {P : V → HH → Prop}
theorem c_GapText_insert {g l : Addr} {T cs zs : List V} {s t i : Nat} (q : GapR T cs s t) (hi : i ≤ T.length) (hz : 2 * (cs.length + zs.length + 8) ≤ 16777216)
    (h : ∀ cs' s' t', GapR (T.take i ++ zs ++ T.drop i) cs' s' t' → cs'.length ≤ cs.length + zs.length + 8 → P .none ((g, gapO l s' t') :: (l, .list cs') :: R)) : Cd G (n + 2) (.ref 520) [.ref g, .int i, .lst zs] ((g, gapO l s t) :: (l, .list cs) :: R) P X := by
  refine in_GapText_insert ?_
  refine Es.cons ?_
  with_reducible refine E1.expr (by kernel_rfl) ?_
  with_reducible refine Ev.meth (by kernel_rfl) (by kernel_rfl) (by decide +kernel) (by kernel_rfl) ?_
  refine eNq m0 ?_
  with_reducible refine Mt.i m0 mth_GapText_widen_gap fun kv => ⟨kv, ?_⟩
  refine Ea.cons (by kernel_rfl) ?_
  refine cBq (b_len _) bb_len ?_
  refine aLq m2 ?_
  refine Cl.lenL (by omega) ?_
  refine Ea.nil ?_
  refine Cl.cd (c_GapText_widen_gap q (by omega) fun cs₁ t₁ q₁ r₁ z₁ => ?_)
  refine eXq ?_
  with_reducible refine Ev.meth (by kernel_rfl) (by kernel_rfl) (by decide +kernel) (by kernel_rfl) ?_
  refine eNq m0 ?_
  with_reducible refine Mt.i m0 mth_GapText_move_gap fun kv => ⟨kv, ?_⟩
  refine aLq m1 ?_
  refine Cl.cd (c_GapText_move_gap q₁ hi (by omega) fun cs₂ t₂ q₂ r₂ z₂ => ?_)
  with_reducible refine Es.cons ?_
  with_reducible refine E1.asgS (by kernel_rfl) ?_
  refine eNq m2 ?_
  refine tNq m0 m0 cls_GapText m2 ?_
  with_reducible refine Ev.slice ?_
  refine Ep.some ?_
  refine eNq m1 ?_
  refine Ep.some ?_
  with_reducible refine Ev.bin ?_
  refine eNq m1 ?_
  refine cBq (b_len _) bb_len ?_
  refine aLq m2 ?_
  refine Cl.lenL (by omega) ?_
  refine Bn.add ?_
  with_reducible refine ⟨_, _, PartV.int _, PartV.int _, ?_⟩
  refine Stt.slc (.tail .head) (Int.natCast_nonneg _) (by simp only [nnO]; omega) (by omega) ?_
  refine eTq ?_
  with_reducible refine Ev.bin ?_
  refine eNq m1 ?_
  refine cBq (b_len _) bb_len ?_
  refine aLq m2 ?_
  refine Cl.lenL (by omega) ?_
  refine Bn.add ?_
  refine wOq m0 m0 cls_GapText (.skip (by kernel_rfl) (.hit (.cons (by kernel_rfl) (.cons (by kernel_rfl) .nil)))) .head ?_
  with_reducible refine Es.nil ?_
  have q₃ := q₂.put (zs := zs) (by omega)
  have e : (i : Int) + (zs.length : Int) = ((i + zs.length : Nat) : Int) := by omega
  rw [show V.int ((i : Int) + (zs.length : Int)) = V.int ((i + zs.length : Nat) : Int) by rw [e]]
  refine h _ _ _ q₃ ?_
  have h1 := q₂.st; have h2 := q₂.tl
  have l3 := q₃.len
  have l2 := q₂.len
  rw [List.length_append, List.length_append, List.length_take_of_le hi, List.length_drop] at l3
  clear h e h1 h2 hz q q₁ q₂ q₃
  omega
theorem c_GapText_delete {g l : Addr} {T cs : List V} {s t i j : Nat} (q : GapR T cs s t) (hij : i ≤ j) (hj : j ≤ T.length) (hz : 2 * cs.length ≤ 16777216)
    (h : ∀ cs' s' t', GapR (T.take i ++ T.drop j) cs' s' t' → cs'.length = cs.length → P (.lst (cut T i j)) ((g, gapO l s' t') :: (l, .list cs') :: R)) : Cd G (n + 2) (.ref 527) [.ref g, .int i, .int j] ((g, gapO l s t) :: (l, .list cs) :: R) P X := by
  refine in_GapText_delete ?_
  refine Es.cons ?_
  with_reducible refine E1.asgN (.keep (by kernel_rfl) (.keep (by kernel_rfl) (.keep (by kernel_rfl) .nil))) (by kernel_rfl) (by kernel_rfl) ?_
  with_reducible refine Ev.meth (by kernel_rfl) (by kernel_rfl) (by decide +kernel) (by kernel_rfl) ?_
  refine eNq m0 ?_
  with_reducible refine Mt.i m0 mth_GapText_codes fun kv => ⟨kv, ?_⟩
  refine aNq m1 ?_
  refine aLq m2 ?_
  refine Cl.cd (c_GapText_codes q hij m0 m1 (by omega) ?_)
  refine eIq ?_
  with_reducible refine Bt.cmp (by kernel_rfl) ?_
  refine eNq m3 ?_
  refine tNq m1 m0 cls_GapText m1 ?_
  refine Cm.lt ?_
  refine ite_join (fun loc' H' => loc' = ([("gone", .lst (cut T i j)), ("self", .ref g), ("start", .int i), ("end", .int j)] : Locs) ∧ ∃ (cs₁ : List V) (s₁ t₁ : Nat), GapR T cs₁ s₁ t₁ ∧ s₁ ≤ j ∧ cs₁.length = cs.length ∧ H' = (g, gapO l s₁ t₁) :: (l, .list cs₁) :: R) (fun hb => ?_) (fun hb => ?_) ?_
  · have hb : j < s := by simpa using hb
    refine eXq ?_
    with_reducible refine Ev.meth (by kernel_rfl) (by kernel_rfl) (by decide +kernel) (by kernel_rfl) ?_
    refine eNq m1 ?_
    with_reducible refine Mt.i m0 mth_GapText_move_gap fun kv => ⟨kv, ?_⟩
    refine aLq m3 ?_
    refine Cl.cd (c_GapText_move_gap q hj (by omega) fun cs₂ t₂ q₂ r₂ z₂ => ?_)
    with_reducible refine Es.nil ?_
    exact ⟨rfl, _, _, _, q₂, by omega, z₂, rfl⟩
  · have hb : ¬ j < s := by simpa using hb
    with_reducible refine Es.nil ?_
    exact ⟨rfl, _, _, _, q, by omega, rfl, rfl⟩
  rintro _ _ ⟨rfl, cs₁, s₁, t₁, q₁, hj₁, hl₁, rfl⟩
  refine eIq ?_
  with_reducible refine Bt.cmp (by kernel_rfl) ?_
  refine eNq m2 ?_
  refine tNq m1 m0 cls_GapText m1 ?_
  refine Cm.gt ?_
  refine ite_join (fun loc' H' => loc' = ([("gone", .lst (cut T i j)), ("self", .ref g), ("start", .int i), ("end", .int j)] : Locs) ∧ ∃ (cs₁ : List V) (s₁ t₁ : Nat), GapR T cs₁ s₁ t₁ ∧ i ≤ s₁ ∧ s₁ ≤ j ∧ cs₁.length = cs.length ∧ H' = (g, gapO l s₁ t₁) :: (l, .list cs₁) :: R) (fun hb => ?_) (fun hb => ?_) ?_
  · have hb : s₁ < i := by simpa using hb
    refine eXq ?_
    with_reducible refine Ev.meth (by kernel_rfl) (by kernel_rfl) (by decide +kernel) (by kernel_rfl) ?_
    refine eNq m1 ?_
    with_reducible refine Mt.i m0 mth_GapText_move_gap fun kv => ⟨kv, ?_⟩
    refine aLq m2 ?_
    refine Cl.cd (c_GapText_move_gap q₁ (by omega) (by omega) fun cs₂ t₂ q₂ r₂ z₂ => ?_)
    with_reducible refine Es.nil ?_
    exact ⟨rfl, _, _, _, q₂, by omega, hij, by omega, rfl⟩
  · have hb : ¬ s₁ < i := by simpa using hb
    with_reducible refine Es.nil ?_
    exact ⟨rfl, _, _, _, q₁, by omega, hj₁, hl₁, rfl⟩
  rintro _ _ ⟨rfl, cs₂, s₂, t₂, q₂, hi₂, hj₂, hl₂, rfl⟩
  refine eTq ?_
  with_reducible refine Ev.bin ?_
  with_reducible refine Ev.bin ?_
  refine tNq m1 m0 cls_GapText m0 ?_
  refine eNq m3 ?_
  refine Bn.add ?_
  refine tNq m1 m0 cls_GapText m1 ?_
  refine Bn.sub ?_
  refine wOq m1 m0 cls_GapText (.hit (.cons (by kernel_rfl) (.cons (by kernel_rfl) (.cons (by kernel_rfl) .nil)))) .head ?_
  refine eTq ?_
  refine eNq m2 ?_
  refine wOq m1 m0 cls_GapText (.skip (by kernel_rfl) (.hit (.cons (by kernel_rfl) (.cons (by kernel_rfl) .nil)))) .head ?_
  refine eRq ?_
  refine eNq m0 ?_
  have h1 := q₂.st; have h2 := q₂.tl
  have e : (t₂ : Int) + ↑j - ↑s₂ = ((t₂ + j - s₂ : Nat) : Int) := by omega
  rw [show V.int ((t₂ : Int) + ↑j - ↑s₂) = V.int ((t₂ + j - s₂ : Nat) : Int) by rw [e]]
  exact h _ _ _ (q₂.out hi₂ hj₂ hj) hl₂
end
noncomputable abbrev bufF (tx mk : Addr) (pt zv tk ck : Int) : List (Str × V) := [("overlays", .none), ("props", .none), ("undo", .none), ("listeners", .lst []), ("codes_ticks", .int ck), ("ticks", .int tk), ("is_read_only", .bool false), ("is_live", .bool true), ("zv", .int zv), ("begv", .int 1), ("point", .int pt), ("markers", .ref mk), ("text", .ref tx), ("name", .str "a"), ("number", .int 1)]
noncomputable abbrev bufO (tx mk : Addr) (pt zv tk ck : Int) : O := .inst 802 20 (bufF tx mk pt zv tk ck)
noncomputable abbrev bufF0 (tx mk : Addr) : List (Str × V) := [("file", .none), ("syntax", .none), ("locals", .none), ("overlays", .none), ("props", .none), ("undo", .none), ("listeners", .lst []), ("saved_ticks", .int 1), ("codes_ticks", .int 1), ("ticks", .int 1), ("is_read_only", .bool false), ("is_live", .bool true), ("mark", .none), ("zv", .int 1), ("begv", .int 1), ("point", .int 1), ("markers", .ref mk), ("text", .ref tx), ("name", .str "a"), ("number", .int 1)]
section
variable {G : Gx} {n : Nat} {H R : HH} {X : Str → HH → Prop} {P : V → HH → Prop}
theorem c_GapText_codes' {g l : Addr} {T cs : List V} {s t i j : Nat} {p q : Int} (k : GapR T cs s t) (hij : i ≤ j) (mg : (g, gapO l s t) ∈ H) (ml : (l, .list cs) ∈ H) (hz : cs.length ≤ 16777216) (hp : p = i) (hq : q = j) (h : P (.lst (cut T i j)) H) : Cd G (n + 1) (.ref 499) [.ref g, .int p, .int q] H P X := by
  subst hp hq; exact c_GapText_codes k hij mg ml hz h
theorem c_GapText_insert' {g l : Addr} {T cs zs : List V} {s t i : Nat} {p : Int} (q : GapR T cs s t) (hi : i ≤ T.length) (hz : 2 * (cs.length + zs.length + 8) ≤ 16777216) (hp : p = i)
    (h : ∀ cs' s' t', GapR (T.take i ++ zs ++ T.drop i) cs' s' t' → cs'.length ≤ cs.length + zs.length + 8 → P .none ((g, gapO l s' t') :: (l, .list cs') :: R)) : Cd G (n + 2) (.ref 520) [.ref g, .int p, .lst zs] ((g, gapO l s t) :: (l, .list cs) :: R) P X := by
  subst hp; exact c_GapText_insert q hi hz h
theorem c_GapText_delete' {g l : Addr} {T cs : List V} {s t i j : Nat} {p q : Int} (k : GapR T cs s t) (hij : i ≤ j) (hj : j ≤ T.length) (hz : 2 * cs.length ≤ 16777216) (hp : p = i) (hq : q = j)
    (h : ∀ cs' s' t', GapR (T.take i ++ T.drop j) cs' s' t' → cs'.length = cs.length → P (.lst (cut T i j)) ((g, gapO l s' t') :: (l, .list cs') :: R)) : Cd G (n + 2) (.ref 527) [.ref g, .int p, .int q] ((g, gapO l s t) :: (l, .list cs) :: R) P X := by
  subst hp hq; exact c_GapText_delete k hij hj hz h

theorem c_Markers_init {mk : Addr} (h : ∀ dm, P .none ((dm, .dict []) :: (mk, .inst 696 1 [("rows", .ref dm)]) :: R)) : Cd G (n + 1) (.ref 644) [.ref mk] ((mk, .inst 696 0 []) :: R) P X := by
  refine in_Markers_init ?_
  refine Es.cons ?_
  with_reducible refine E1.asgA (by kernel_rfl) ?_
  refine Ev.dict0 fun dm => ?_
  refine wNq m0 m1 cls_Markers .nil (.tail .head) ?_
  with_reducible refine Es.nil ?_
  exact h dm
theorem c_Buffer_init {b : Addr} (h : ∀ g l mk dm, P .none ((dm, .dict []) :: (mk, .inst 696 1 [("rows", .ref dm)]) :: (l, .list (List.replicate 8 (.int 0))) :: (g, gapO l 0 8) :: (b, .inst 802 20 (bufF0 g mk)) :: R)) : Cd G (n + 3) (.ref 715) [.ref b, .int 1, .str "a"] ((b, .inst 802 0 []) :: R) P X := by
  refine in_Buffer_init_d ?_
  refine Es.cons ?_
  with_reducible refine E1.asgA (by kernel_rfl) ?_
  refine eNq m1 ?_
  refine wNq m0 m0 cls_Buffer .nil .head ?_
  refine eTq ?_
  refine eNq m2 ?_
  refine wNq m0 m0 cls_Buffer (.cons (by kernel_rfl) .nil) .head ?_
  refine eTq ?_
  refine cGq (g_GapText _) ?_
  refine Ea.cons (by kernel_rfl) ?_
  with_reducible refine Ev.lst ?_
  refine Ea.nil ?_
  with_reducible refine len_ok (by kernel_rfl!) ?_
  refine Or.inl ?_
  refine aLq m3 ?_
  refine Cl.make mak_GapText fun g => c_GapText_init fun l => ⟨rfl, ?_⟩
  refine wNq m0 m2 cls_Buffer (.cons (by kernel_rfl) (.cons (by kernel_rfl) .nil)) (.tail (.tail .head)) ?_
  refine eTq ?_
  refine cGq (g_Markers _) ?_
  refine Ea.nil ?_
  refine Cl.make mak_Markers fun mk => c_Markers_init fun dm => ⟨rfl, ?_⟩
  refine wNq m0 m4 cls_Buffer (.cons (by kernel_rfl) (.cons (by kernel_rfl) (.cons (by kernel_rfl) .nil))) (.tail (.tail (.tail (.tail .head)))) ?_
  refine eTq ?_
  with_reducible refine Ev.cint ?_
  refine wNq m0 m4 cls_Buffer (.cons (by kernel_rfl) (.cons (by kernel_rfl) (.cons (by kernel_rfl) (.cons (by kernel_rfl) .nil)))) (.tail (.tail (.tail (.tail .head)))) ?_
  refine eTq ?_
  with_reducible refine Ev.cint ?_
  refine wNq m0 m4 cls_Buffer (.cons (by kernel_rfl) (.cons (by kernel_rfl) (.cons (by kernel_rfl) (.cons (by kernel_rfl) (.cons (by kernel_rfl) .nil))))) (.tail (.tail (.tail (.tail .head)))) ?_
  refine eTq ?_
  with_reducible refine Ev.cint ?_
  refine wNq m0 m4 cls_Buffer (.cons (by kernel_rfl) (.cons (by kernel_rfl) (.cons (by kernel_rfl) (.cons (by kernel_rfl) (.cons (by kernel_rfl) (.cons (by kernel_rfl) .nil)))))) (.tail (.tail (.tail (.tail .head)))) ?_
  refine eTq ?_
  with_reducible refine Ev.cnone ?_
  refine wNq m0 m4 cls_Buffer (.cons (by kernel_rfl) (.cons (by kernel_rfl) (.cons (by kernel_rfl) (.cons (by kernel_rfl) (.cons (by kernel_rfl) (.cons (by kernel_rfl) (.cons (by kernel_rfl) .nil))))))) (.tail (.tail (.tail (.tail .head)))) ?_
  refine eTq ?_
  with_reducible refine Ev.cbool ?_
  refine wNq m0 m4 cls_Buffer (.cons (by kernel_rfl) (.cons (by kernel_rfl) (.cons (by kernel_rfl) (.cons (by kernel_rfl) (.cons (by kernel_rfl) (.cons (by kernel_rfl) (.cons (by kernel_rfl) (.cons (by kernel_rfl) .nil)))))))) (.tail (.tail (.tail (.tail .head)))) ?_
  refine eTq ?_
  with_reducible refine Ev.cbool ?_
  refine eNq m0 ?_
  with_reducible refine Sa.nw m4 cls_Buffer (by decide +kernel) (by decide +kernel) (.cons (by kernel_rfl) (.cons (by kernel_rfl) (.cons (by kernel_rfl) (.cons (by kernel_rfl) (.cons (by kernel_rfl) (.cons (by kernel_rfl) (.cons (by kernel_rfl) (.cons (by kernel_rfl) (.cons (by kernel_rfl) .nil))))))))) (.tail (.tail (.tail (.tail .head)))) ?_
  refine eTq ?_
  with_reducible refine Ev.cint ?_
  refine eNq m0 ?_
  with_reducible refine Sa.nw m4 cls_Buffer (by decide +kernel) (by decide +kernel) (.cons (by kernel_rfl) (.cons (by kernel_rfl) (.cons (by kernel_rfl) (.cons (by kernel_rfl) (.cons (by kernel_rfl) (.cons (by kernel_rfl) (.cons (by kernel_rfl) (.cons (by kernel_rfl) (.cons (by kernel_rfl) (.cons (by kernel_rfl) .nil)))))))))) (.tail (.tail (.tail (.tail .head)))) ?_
  refine eTq ?_
  with_reducible refine Ev.cint ?_
  refine eNq m0 ?_
  with_reducible refine Sa.nw m4 cls_Buffer (by decide +kernel) (by decide +kernel) (.cons (by kernel_rfl) (.cons (by kernel_rfl) (.cons (by kernel_rfl) (.cons (by kernel_rfl) (.cons (by kernel_rfl) (.cons (by kernel_rfl) (.cons (by kernel_rfl) (.cons (by kernel_rfl) (.cons (by kernel_rfl) (.cons (by kernel_rfl) (.cons (by kernel_rfl) .nil))))))))))) (.tail (.tail (.tail (.tail .head)))) ?_
  refine eTq ?_
  with_reducible refine Ev.cint ?_
  refine eNq m0 ?_
  with_reducible refine Sa.nw m4 cls_Buffer (by decide +kernel) (by decide +kernel) (.cons (by kernel_rfl) (.cons (by kernel_rfl) (.cons (by kernel_rfl) (.cons (by kernel_rfl) (.cons (by kernel_rfl) (.cons (by kernel_rfl) (.cons (by kernel_rfl) (.cons (by kernel_rfl) (.cons (by kernel_rfl) (.cons (by kernel_rfl) (.cons (by kernel_rfl) (.cons (by kernel_rfl) .nil)))))))))))) (.tail (.tail (.tail (.tail .head)))) ?_
  refine eTq ?_
  with_reducible refine Ev.lst ?_
  refine Ea.nil ?_
  with_reducible refine len_ok (by kernel_rfl!) ?_
  refine Or.inl ?_
  refine eNq m0 ?_
  with_reducible refine Sa.nw m4 cls_Buffer (by decide +kernel) (by decide +kernel) (.cons (by kernel_rfl) (.cons (by kernel_rfl) (.cons (by kernel_rfl) (.cons (by kernel_rfl) (.cons (by kernel_rfl) (.cons (by kernel_rfl) (.cons (by kernel_rfl) (.cons (by kernel_rfl) (.cons (by kernel_rfl) (.cons (by kernel_rfl) (.cons (by kernel_rfl) (.cons (by kernel_rfl) (.cons (by kernel_rfl) .nil))))))))))))) (.tail (.tail (.tail (.tail .head)))) ?_
  refine eTq ?_
  with_reducible refine Ev.cnone ?_
  refine eNq m0 ?_
  with_reducible refine Sa.nw m4 cls_Buffer (by decide +kernel) (by decide +kernel) (.cons (by kernel_rfl) (.cons (by kernel_rfl) (.cons (by kernel_rfl) (.cons (by kernel_rfl) (.cons (by kernel_rfl) (.cons (by kernel_rfl) (.cons (by kernel_rfl) (.cons (by kernel_rfl) (.cons (by kernel_rfl) (.cons (by kernel_rfl) (.cons (by kernel_rfl) (.cons (by kernel_rfl) (.cons (by kernel_rfl) (.cons (by kernel_rfl) .nil)))))))))))))) (.tail (.tail (.tail (.tail .head)))) ?_
  refine eTq ?_
  with_reducible refine Ev.cnone ?_
  refine eNq m0 ?_
  with_reducible refine Sa.nw m4 cls_Buffer (by decide +kernel) (by decide +kernel) (.cons (by kernel_rfl) (.cons (by kernel_rfl) (.cons (by kernel_rfl) (.cons (by kernel_rfl) (.cons (by kernel_rfl) (.cons (by kernel_rfl) (.cons (by kernel_rfl) (.cons (by kernel_rfl) (.cons (by kernel_rfl) (.cons (by kernel_rfl) (.cons (by kernel_rfl) (.cons (by kernel_rfl) (.cons (by kernel_rfl) (.cons (by kernel_rfl) (.cons (by kernel_rfl) .nil))))))))))))))) (.tail (.tail (.tail (.tail .head)))) ?_
  refine eTq ?_
  with_reducible refine Ev.cnone ?_
  refine eNq m0 ?_
  with_reducible refine Sa.nw m4 cls_Buffer (by decide +kernel) (by decide +kernel) (.cons (by kernel_rfl) (.cons (by kernel_rfl) (.cons (by kernel_rfl) (.cons (by kernel_rfl) (.cons (by kernel_rfl) (.cons (by kernel_rfl) (.cons (by kernel_rfl) (.cons (by kernel_rfl) (.cons (by kernel_rfl) (.cons (by kernel_rfl) (.cons (by kernel_rfl) (.cons (by kernel_rfl) (.cons (by kernel_rfl) (.cons (by kernel_rfl) (.cons (by kernel_rfl) (.cons (by kernel_rfl) .nil)))))))))))))))) (.tail (.tail (.tail (.tail .head)))) ?_
  refine eTq ?_
  with_reducible refine Ev.cnone ?_
  refine eNq m0 ?_
  with_reducible refine Sa.nw m4 cls_Buffer (by decide +kernel) (by decide +kernel) (.cons (by kernel_rfl) (.cons (by kernel_rfl) (.cons (by kernel_rfl) (.cons (by kernel_rfl) (.cons (by kernel_rfl) (.cons (by kernel_rfl) (.cons (by kernel_rfl) (.cons (by kernel_rfl) (.cons (by kernel_rfl) (.cons (by kernel_rfl) (.cons (by kernel_rfl) (.cons (by kernel_rfl) (.cons (by kernel_rfl) (.cons (by kernel_rfl) (.cons (by kernel_rfl) (.cons (by kernel_rfl) (.cons (by kernel_rfl) .nil))))))))))))))))) (.tail (.tail (.tail (.tail .head)))) ?_
  refine eTq ?_
  with_reducible refine Ev.cnone ?_
  refine eNq m0 ?_
  with_reducible refine Sa.nw m4 cls_Buffer (by decide +kernel) (by decide +kernel) (.cons (by kernel_rfl) (.cons (by kernel_rfl) (.cons (by kernel_rfl) (.cons (by kernel_rfl) (.cons (by kernel_rfl) (.cons (by kernel_rfl) (.cons (by kernel_rfl) (.cons (by kernel_rfl) (.cons (by kernel_rfl) (.cons (by kernel_rfl) (.cons (by kernel_rfl) (.cons (by kernel_rfl) (.cons (by kernel_rfl) (.cons (by kernel_rfl) (.cons (by kernel_rfl) (.cons (by kernel_rfl) (.cons (by kernel_rfl) (.cons (by kernel_rfl) .nil)))))))))))))))))) (.tail (.tail (.tail (.tail .head)))) ?_
  refine eTq ?_
  with_reducible refine Ev.cnone ?_
  refine eNq m0 ?_
  with_reducible refine Sa.nw m4 cls_Buffer (by decide +kernel) (by decide +kernel) (.cons (by kernel_rfl) (.cons (by kernel_rfl) (.cons (by kernel_rfl) (.cons (by kernel_rfl) (.cons (by kernel_rfl) (.cons (by kernel_rfl) (.cons (by kernel_rfl) (.cons (by kernel_rfl) (.cons (by kernel_rfl) (.cons (by kernel_rfl) (.cons (by kernel_rfl) (.cons (by kernel_rfl) (.cons (by kernel_rfl) (.cons (by kernel_rfl) (.cons (by kernel_rfl) (.cons (by kernel_rfl) (.cons (by kernel_rfl) (.cons (by kernel_rfl) (.cons (by kernel_rfl) .nil))))))))))))))))))) (.tail (.tail (.tail (.tail .head)))) ?_
  with_reducible refine Es.nil ?_
  exact h g l mk dm
theorem c_Buffer_size {b g l mk : Addr} {T cs : List V} {s t : Nat} {pt zv tk ck : Int} (q : GapR T cs s t) (mb : (b, bufO g mk pt zv tk ck) ∈ H) (mg : (g, gapO l s t) ∈ H) (ml : (l, .list cs) ∈ H) (hz : cs.length ≤ 16777216) (h : P (.int T.length) H) : Cd G (n + 2) (.ref 750) [.ref b] H P X := by
  refine in_Buffer_size ?_
  refine Es.cons ?_
  with_reducible refine E1.ret ?_
  with_reducible refine Ev.meth (by kernel_rfl) (by kernel_rfl) (by decide +kernel) (by kernel_rfl) ?_
  refine tNq m0 (by assumption) cls_Buffer m12 ?_
  with_reducible refine Mt.i (by assumption) mth_GapText_size fun kv => ⟨kv, ?_⟩
  refine Ea.nil ?_
  refine Cl.cd (c_GapText_size mg ml hz ?_)
  have := q.len
  rw [show ((cs.length : Int) - ↑t + ↑s) = (T.length : Int) by omega]
  exact h
theorem c_Buffer_codes {b g l mk : Addr} {T cs : List V} {s t i j : Nat} {pt zv tk ck p p' : Int} (q : GapR T cs s t) (mb : (b, bufO g mk pt zv tk ck) ∈ H) (mg : (g, gapO l s t) ∈ H) (ml : (l, .list cs) ∈ H) (hz : cs.length ≤ 16777216) (hp : p = i + 1) (hp' : p' = j + 1) (hij : i ≤ j) (h : P (.lst (cut T i j)) H) : Cd G (n + 2) (.ref 764) [.ref b, .int p, .int p'] H P X := by
  refine in_Buffer_codes ?_
  refine Es.cons ?_
  with_reducible refine E1.ret ?_
  with_reducible refine Ev.meth (by kernel_rfl) (by kernel_rfl) (by decide +kernel) (by kernel_rfl) ?_
  refine tNq m0 (by assumption) cls_Buffer m12 ?_
  with_reducible refine Mt.i (by assumption) mth_GapText_codes fun kv => ⟨kv, ?_⟩
  refine Ea.cons (by kernel_rfl) ?_
  with_reducible refine Ev.bin ?_
  refine eNq m1 ?_
  with_reducible refine Ev.cint ?_
  refine Bn.sub ?_
  refine Ea.cons (by kernel_rfl) ?_
  with_reducible refine Ev.bin ?_
  refine eNq m2 ?_
  with_reducible refine Ev.cint ?_
  refine Bn.sub ?_
  refine Ea.nil ?_
  exact Cl.cd (c_GapText_codes' q hij mg ml hz (by omega) (by omega) h)
theorem c_Buffer_goto {b g mk : Addr} {pt zv tk ck p : Int} (h1 : 1 ≤ p) (h2 : p ≤ zv) (h : P (.int p) ((b, bufO g mk p zv tk ck) :: R)) : Cd G (n + 1) (.ref 771) [.ref b, .int p] ((b, bufO g mk pt zv tk ck) :: R) P X := by
  refine in_Buffer_goto ?_
  refine Es.cons ?_
  with_reducible refine E1.asgA (by kernel_rfl) ?_
  refine cBq (b_min _) bb_min ?_
  refine Ea.cons (by kernel_rfl) ?_
  refine cBq (b_max _) bb_max ?_
  refine aNq m1 ?_
  refine Ea.cons (by kernel_rfl) ?_
  refine tNq m0 m0 cls_Buffer m9 ?_
  refine Ea.nil ?_
  refine Cl.max ?_
  refine Ea.cons (by kernel_rfl) ?_
  refine tNq m0 m0 cls_Buffer m8 ?_
  refine Ea.nil ?_
  refine Cl.min ?_
  refine eNq m0 ?_
  with_reducible refine Sa.od m0 cls_Buffer (by decide +kernel) (by decide +kernel) (.skip (by kernel_rfl) (.skip (by kernel_rfl) (.skip (by kernel_rfl) (.skip (by kernel_rfl) (.skip (by kernel_rfl) (.skip (by kernel_rfl) (.skip (by kernel_rfl) (.skip (by kernel_rfl) (.skip (by kernel_rfl) (.skip (by kernel_rfl) (.hit (.cons (by kernel_rfl) (.cons (by kernel_rfl) (.cons (by kernel_rfl) (.cons (by kernel_rfl) .nil))))))))))))))) .head ?_
  refine eRq ?_
  refine tNq m0 m0 cls_Buffer m10 ?_
  rw [show min (max p 1) zv = p by omega]
  exact h
theorem c_Buffer_touch {b g mk : Addr} {pt zv tk ck : Int} (h : P .none ((b, bufO g mk pt zv (tk + 1) (tk + 1)) :: R)) : Cd G (n + 1) (.ref 799) [.ref b, .bool true] ((b, bufO g mk pt zv tk ck) :: R) P X := by
  refine in_Buffer_touch ?_
  refine Es.cons ?_
  with_reducible refine E1.asgA (by kernel_rfl) ?_
  with_reducible refine Ev.bin ?_
  refine tNq m0 m0 cls_Buffer m5 ?_
  with_reducible refine Ev.cint ?_
  refine Bn.add ?_
  refine eNq m0 ?_
  with_reducible refine Sa.od m0 cls_Buffer (by decide +kernel) (by decide +kernel) (.skip (by kernel_rfl) (.skip (by kernel_rfl) (.skip (by kernel_rfl) (.skip (by kernel_rfl) (.skip (by kernel_rfl) (.hit (.cons (by kernel_rfl) (.cons (by kernel_rfl) (.cons (by kernel_rfl) (.cons (by kernel_rfl) (.cons (by kernel_rfl) (.cons (by kernel_rfl) (.cons (by kernel_rfl) (.cons (by kernel_rfl) (.cons (by kernel_rfl) .nil))))))))))))))) .head ?_
  refine eIq ?_
  with_reducible refine Bt.bool (by kernel_rfl) ?_
  refine eNq m1 ?_
  with_reducible refine bt_ok ?_
  with_reducible refine ite_t' (by kernel_rfl!) ?_
  refine eTq ?_
  refine tNq m0 m0 cls_Buffer m5 ?_
  refine eNq m0 ?_
  with_reducible refine Sa.od m0 cls_Buffer (by decide +kernel) (by decide +kernel) (.skip (by kernel_rfl) (.skip (by kernel_rfl) (.skip (by kernel_rfl) (.skip (by kernel_rfl) (.hit (.cons (by kernel_rfl) (.cons (by kernel_rfl) (.cons (by kernel_rfl) (.cons (by kernel_rfl) (.cons (by kernel_rfl) (.cons (by kernel_rfl) (.cons (by kernel_rfl) (.cons (by kernel_rfl) (.cons (by kernel_rfl) (.cons (by kernel_rfl) .nil))))))))))))))) .head ?_
  with_reducible refine Es.nil ?_
  with_reducible refine Es.nil ?_
  exact h
end
noncomputable abbrev mkO (b : Addr) (k p : Int) : O := .inst 628 4 [("position", .int p), ("buffer", .ref b), ("advances", .bool false), ("number", .int k)]
noncomputable def mkH (b : Addr) : Int → List (Addr × Int) → HH
  | _, [] => []
  | k, x :: r => (x.1, mkO b k x.2) :: mkH b (k + 1) r
noncomputable def rowsV : Int → List (Addr × Int) → List (Int × V)
  | _, [] => []
  | k, x :: r => (k, .ref x.1) :: rowsV (k + 1) r
noncomputable abbrev mksO (dm : Addr) : O := .inst 696 1 [("rows", .ref dm)]
theorem mkH_append {b : Addr} : ∀ (k : Int) (A B : List (Addr × Int)), mkH b k (A ++ B) = mkH b k A ++ mkH b (k + A.length) B
  | k, [], B => by simp [mkH]
  | k, x :: A, B => by
    rw [List.cons_append, mkH, mkH, mkH_append (k + 1) A B, List.cons_append, List.length_cons, show k + 1 + (A.length : Int) = k + ((A.length + 1 : Nat) : Int) by omega]
theorem rowsV_len : ∀ (k : Int) (A : List (Addr × Int)), (rowsV k A).length = A.length
  | _, [] => rfl
  | k, x :: A => by rw [rowsV, List.length_cons, List.length_cons, rowsV_len]
theorem rowsV_keys : ∀ (k : Int) (A : List (Addr × Int)) (i : Nat), i < A.length → (keysV (rowsV k A))[i]? = some (.int (k + i))
  | k, [], i, h => absurd h (Nat.not_lt_zero _)
  | k, x :: A, 0, h => by simp [rowsV, keysV]
  | k, x :: A, i + 1, h => by
    have := rowsV_keys (k + 1) A i (by simpa using h)
    simp only [rowsV, keysV, List.map_cons, List.getElem?_cons_succ] at this ⊢
    rw [this, show k + 1 + (i : Int) = k + ((i + 1 : Nat) : Int) by omega]
theorem rowsV_low : ∀ (k : Int) (A : List (Addr × Int)), ∀ x ∈ (rowsV k A).map (·.1), k ≤ x
  | _, [], x, h => nomatch h
  | k, y :: A, x, h => by
    simp only [rowsV, List.map_cons, List.mem_cons] at h
    rcases h with rfl | h
    · exact Int.le_refl _
    · have := rowsV_low (k + 1) A x h
      omega
theorem rowsV_sorted : ∀ (k : Int) (A : List (Addr × Int)), ((rowsV k A).map (·.1)).Pairwise (· ≤ ·)
  | _, [] => .nil
  | k, y :: A => by
    simp only [rowsV, List.map_cons]
    exact List.pairwise_cons.mpr ⟨fun x h => by have := rowsV_low (k + 1) A x h; omega, rowsV_sorted (k + 1) A⟩
theorem rowsV_get : ∀ (k : Int) (A : List (Addr × Int)) (x : Addr × Int) (B : List (Addr × Int)), dget (rowsV k (A ++ x :: B)) (k + A.length) = some (.ref x.1)
  | k, [], x, B => by simp [rowsV, dget]
  | k, y :: A, x, B => by
    have := rowsV_get (k + 1) A x B
    simp only [List.cons_append, rowsV, dget, List.length_cons]
    rw [if_neg (by omega), show k + ((A.length + 1 : Nat) : Int) = k + 1 + (A.length : Int) by omega]
    exact this
theorem rowsV_put : ∀ (k : Int) (A : List (Addr × Int)) (x : Addr × Int), dset (rowsV k A) (k + A.length) (.ref x.1) = rowsV k (A ++ [x])
  | k, [], x => by simp [rowsV, dset]
  | k, y :: A, x => by
    have := rowsV_put (k + 1) A x
    simp only [List.cons_append, rowsV, dset, List.length_cons]
    rw [if_neg (by omega), show k + ((A.length + 1 : Nat) : Int) = k + 1 + (A.length : Int) by omega, this]
theorem rowsV_same : ∀ (k : Int) (A B : List (Addr × Int)), A.map (·.1) = B.map (·.1) → rowsV k A = rowsV k B
  | _, [], [], _ => rfl
  | _, [], _ :: _, h => nomatch h
  | _, _ :: _, [], h => nomatch h
  | k, x :: A, y :: B, h => by
    simp only [List.map_cons, List.cons.injEq] at h
    rw [rowsV, rowsV, h.1, rowsV_same (k + 1) A B h.2]
theorem UpH.pre {a : Addr} {o o' : O} {H H' : HH} : ∀ (A : HH), UpH a o o' H H' → UpH a o o' (A ++ H) (A ++ H')
  | [], U => U
  | x :: A, U => .tail (UpH.pre A U)
theorem mkH_up {b : Addr} (k : Int) (A : List (Addr × Int)) (a : Addr) (p p' : Int) (B : List (Addr × Int)) (R : HH) : UpH a (mkO b (k + A.length) p) (mkO b (k + A.length) p') (R ++ mkH b k (A ++ (a, p) :: B)) (R ++ mkH b k (A ++ (a, p') :: B)) := by
  rw [mkH_append, mkH_append, mkH, mkH]
  exact UpH.pre R (UpH.pre _ .head)
/-- the markers moved, the first i of them -/
noncomputable def mvd (f : Int → Int) (i : Nat) (ms : List (Addr × Int)) : List (Addr × Int) := (ms.take i).map (fun x => (x.1, f x.2)) ++ ms.drop i
theorem mvd_all (f : Int → Int) (ms : List (Addr × Int)) : mvd f ms.length ms = ms.map fun x => (x.1, f x.2) := by
  unfold mvd
  rw [List.take_length, List.drop_length, List.append_nil]
theorem mvd_addr (f : Int → Int) (i : Nat) (ms : List (Addr × Int)) : (mvd f i ms).map (·.1) = ms.map (·.1) := by
  unfold mvd
  rw [List.map_append, List.map_map]
  show (ms.take i).map (·.1) ++ (ms.drop i).map (·.1) = _
  rw [← List.map_append, List.take_append_drop]
theorem mvd_at (f : Int → Int) (i : Nat) (ms : List (Addr × Int)) (h : i < ms.length) : ∃ a p A, A.length = i ∧ mvd f i ms = A ++ (a, p) :: ms.drop (i + 1) ∧ mvd f (i + 1) ms = A ++ (a, f p) :: ms.drop (i + 1) := by
  refine ⟨ms[i].1, ms[i].2, (ms.take i).map (fun x => (x.1, f x.2)), ?_, ?_, ?_⟩
  · rw [List.length_map, List.length_take]; omega
  · unfold mvd; rw [List.drop_eq_getElem_cons h]
  · unfold mvd
    rw [List.take_succ_eq_append_getElem h, List.map_append, List.append_assoc]
    rfl
section
variable {G : Gx} {n : Nat} {H R : HH} {X : Str → HH → Prop} {P : V → HH → Prop}
theorem c_Marker_init {a : Addr} {k : Int} (h : P .none ((a, .inst 628 4 [("position", .int 0), ("buffer", .none), ("advances", .bool false), ("number", .int k)]) :: R)) : Cd G (n + 1) (.ref 604) [.ref a, .int k, .bool false] ((a, .inst 628 0 []) :: R) P X := by
  refine in_Marker_init ?_
  refine Es.cons ?_
  with_reducible refine E1.asgA (by kernel_rfl) ?_
  refine eNq m1 ?_
  refine wNq m0 m0 cls_Marker .nil .head ?_
  refine eTq ?_
  refine eNq m2 ?_
  refine wNq m0 m0 cls_Marker (.cons (by kernel_rfl) .nil) .head ?_
  refine eTq ?_
  with_reducible refine Ev.cnone ?_
  refine wNq m0 m0 cls_Marker (.cons (by kernel_rfl) (.cons (by kernel_rfl) .nil)) .head ?_
  refine eTq ?_
  with_reducible refine Ev.cint ?_
  refine wNq m0 m0 cls_Marker (.cons (by kernel_rfl) (.cons (by kernel_rfl) (.cons (by kernel_rfl) .nil))) .head ?_
  with_reducible refine Es.nil ?_
  exact h
theorem c_Markers_numbers {mk dm : Addr} {xs : List (Int × V)} (m : (mk, mksO dm) ∈ H) (md : (dm, .dict xs) ∈ H) (hz : xs.length < 64) (hs : (xs.map (·.1)).Pairwise (· ≤ ·)) (h : P (.lst (keysV xs)) H) : Cd G (n + 1) (.ref 651) [.ref mk] H P X := by
  refine in_Markers_numbers ?_
  refine Es.cons ?_
  with_reducible refine E1.ret ?_
  refine cBq (b_sorted _) bb_sorted ?_
  refine Ea.cons (by kernel_rfl) ?_
  refine tNq m0 (by assumption) cls_Markers m0 ?_
  refine Ea.nil ?_
  exact Cl.sortedD md hz hs h
theorem c_Markers_put {mk dm a b : Addr} {k p q : Int} {xs : List (Int × V)} (hz : xs.length ≤ 16777216) (h : P .none ((a, mkO b k q) :: (mk, mksO dm) :: (dm, .dict (dset xs k (.ref a))) :: R)) : Cd G (n + 1) (.ref 658) [.ref mk, .ref a, .int q] ((a, mkO b k p) :: (mk, mksO dm) :: (dm, .dict xs) :: R) P X := by
  refine in_Markers_put ?_
  refine Es.cons ?_
  with_reducible refine E1.asgS (by kernel_rfl) ?_
  refine eNq m1 ?_
  refine tNq m0 m1 cls_Markers m0 ?_
  refine tNq m1 m0 cls_Marker m3 ?_
  refine Stt.dict (.tail (.tail .head)) hz ?_
  refine eTq ?_
  refine eNq m2 ?_
  refine wOq m1 m0 cls_Marker (.hit (.cons (by kernel_rfl) (.cons (by kernel_rfl) (.cons (by kernel_rfl) .nil)))) .head ?_
  with_reducible refine Es.nil ?_
  exact h
noncomputable def mvIn (lo : Int) (many : Int) (p : Int) : Int := if lo < p then p + (lo + many) - lo else p
theorem c_Markers_inserted {mk dm b : Addr} {ms : List (Addr × Int)} {lo many : Int} (hz : ms.length < 64) (h : P .none ((mk, mksO dm) :: (dm, .dict (rowsV 1 ms)) :: (R ++ mkH b 1 (ms.map fun x => (x.1, mvIn lo many x.2))))) :
    Cd G (n + 2) (.ref 679) [.ref mk, .int lo, .int (lo + many), .bool false] ((mk, mksO dm) :: (dm, .dict (rowsV 1 ms)) :: (R ++ mkH b 1 ms)) P X := by
  refine in_Markers_inserted ?_
  refine Es.cons ?_
  refine E1.forB (σ := Unit) (fun _ => [("self", .ref mk), ("start", .int lo), ("end", .int (lo + many)), ("is_before", .bool false)]) (by kernel_rfl) (fun _ _ => rfl) (fun _ => by kernel_rfl) ?_
  with_reducible refine Ev.meth (by kernel_rfl) (by kernel_rfl) (by decide +kernel) (by kernel_rfl) ?_
  refine eNq m0 ?_
  with_reducible refine Mt.i m0 mth_Markers_numbers fun kv => ⟨kv, ?_⟩
  refine Ea.nil ?_
  refine Cl.cd (c_Markers_numbers m0 m1 (by rw [rowsV_len]; exact hz) (rowsV_sorted 1 ms) ?_)
  refine ⟨_, fun i _ H' => H' = (mk, mksO dm) :: (dm, .dict (rowsV 1 ms)) :: (R ++ mkH b 1 (mvd (mvIn lo many) i ms)), (), Itb.lst, (al1 m0 (al1 m1 (al1 m2 (al1 m3 al0)))), by simp [mvd], ?_, ?_⟩
  · rintro i y _ H' hy rfl
    have hi : i < ms.length := by
      have := (List.getElem?_eq_some_iff.mp hy).1
      simpa [keysV, rowsV_len] using this
    rw [rowsV_keys 1 ms i hi] at hy
    cases hy
    obtain ⟨a, p, A, hA, e1, e2⟩ := mvd_at (mvIn lo many) i ms hi
    have hg : dget (rowsV 1 ms) (1 + (i : Int)) = some (.ref a) := by
      rw [← rowsV_same 1 _ ms (mvd_addr (mvIn lo many) i ms), e1, ← hA]
      exact rowsV_get 1 A (a, p) _
    rw [e1]
    have hU := mkH_up (b := b) 1 A a p (p + (lo + many) - lo) (ms.drop (i + 1)) R
    rw [hA] at hU
    have hm := hU.mem
    refine eAq (.keep (by kernel_rfl) (.keep (by kernel_rfl) (.keep (by kernel_rfl) (.keep (by kernel_rfl) (.keep (by kernel_rfl) .nil))))) ?_
    with_reducible refine Ev.sub ?_
    refine tNq m1 m0 cls_Markers m0 ?_
    refine eNq m0 ?_
    refine Sb.dict m1 hg ?_
    refine eIq ?_
    with_reducible refine Bt.or ?_
    with_reducible refine Bt.cmp (by kernel_rfl) ?_
    refine tNq m0 (mt (mt (by assumption))) cls_Marker m0 ?_
    refine eNq m3 ?_
    refine Cm.gt ?_
    refine ite_of (fun hb => ?_) (fun hb => ?_)
    · have hb : lo < p := by simpa using hb
      with_reducible refine ite_t' (by kernel_rfl!) ?_
      refine eTq ?_
      with_reducible refine Ev.bin ?_
      with_reducible refine Ev.bin ?_
      refine tNq m0 (mt (mt (by assumption))) cls_Marker m0 ?_
      refine eNq m4 ?_
      refine Bn.add ?_
      refine eNq m3 ?_
      refine Bn.sub ?_
      refine wOq m0 (mt (mt (by assumption))) cls_Marker (.hit (.cons (by kernel_rfl) (.cons (by kernel_rfl) (.cons (by kernel_rfl) .nil)))) (.tail (.tail (by assumption))) ?_
      with_reducible refine Es.nil ?_
      with_reducible refine Es.nil ?_
      refine ⟨(), (al1 m2 (al1 m3 (al1 m4 (al1 m5 al0)))), ?_⟩
      show (_ : HH) = _
      rw [e2, mvIn, if_pos hb]
    · have hb : ¬ lo < p := by simpa using hb
      with_reducible refine Bt.or ?_
      with_reducible refine Bt.and ?_
      with_reducible refine Bt.cmp (by kernel_rfl) ?_
      refine tNq m0 (mt (mt (by assumption))) cls_Marker m0 ?_
      refine eNq m3 ?_
      refine Cm.eqI ?_
      refine ite_of (fun hb' => ?_) (fun hb' => ?_)
      · with_reducible refine Bt.and ?_
        with_reducible refine Bt.or ?_
        with_reducible refine Bt.bool (by kernel_rfl) ?_
        refine eNq m5 ?_
        with_reducible refine bt_ok ?_
        with_reducible refine ite_f' (by kernel_rfl!) ?_
        with_reducible refine Bt.or ?_
        with_reducible refine Bt.bool (by kernel_rfl) ?_
        refine tNq m0 (mt (mt (by assumption))) cls_Marker m2 ?_
        with_reducible refine bt_ok ?_
        with_reducible refine ite_f' (by kernel_rfl!) ?_
        with_reducible refine Bt.orN ?_
        with_reducible refine ite_f' (by kernel_rfl!) ?_
        with_reducible refine ite_f' (by kernel_rfl!) ?_
        with_reducible refine Bt.orN ?_
        refine iFq ?_
        with_reducible refine Es.nil ?_
        refine ⟨(), (al1 m2 (al1 m3 (al1 m4 (al1 m5 al0)))), ?_⟩
        show (_ : HH) = _
        rw [e2, mvIn, if_neg hb]
      · with_reducible refine ite_f' (by kernel_rfl!) ?_
        with_reducible refine Bt.orN ?_
        refine iFq ?_
        with_reducible refine Es.nil ?_
        refine ⟨(), (al1 m2 (al1 m3 (al1 m4 (al1 m5 al0)))), ?_⟩
        show (_ : HH) = _
        rw [e2, mvIn, if_neg hb]
  · rintro _ loc' H' hb rfl
    refine Es.nil ?_
    have e : (keysV (rowsV 1 ms)).length = ms.length := by simp [keysV, rowsV_len]
    rw [e, mvd_all]
    exact h
noncomputable def mvOut (lo hi : Int) (p : Int) : Int := if hi < p then p - (hi - lo) else if lo < p then lo else p
theorem c_Markers_deleted {mk dm b : Addr} {ms : List (Addr × Int)} {lo hi : Int} (hz : ms.length < 64) (h : P .none ((mk, mksO dm) :: (dm, .dict (rowsV 1 ms)) :: (R ++ mkH b 1 (ms.map fun x => (x.1, mvOut lo hi x.2))))) :
    Cd G (n + 2) (.ref 686) [.ref mk, .int lo, .int hi] ((mk, mksO dm) :: (dm, .dict (rowsV 1 ms)) :: (R ++ mkH b 1 ms)) P X := by
  refine in_Markers_deleted ?_
  refine Es.cons ?_
  refine E1.forB (σ := Unit) (fun _ => [("self", .ref mk), ("start", .int lo), ("end", .int hi)]) (by kernel_rfl) (fun _ _ => rfl) (fun _ => by kernel_rfl) ?_
  with_reducible refine Ev.meth (by kernel_rfl) (by kernel_rfl) (by decide +kernel) (by kernel_rfl) ?_
  refine eNq m0 ?_
  with_reducible refine Mt.i m0 mth_Markers_numbers fun kv => ⟨kv, ?_⟩
  refine Ea.nil ?_
  refine Cl.cd (c_Markers_numbers m0 m1 (by rw [rowsV_len]; exact hz) (rowsV_sorted 1 ms) ?_)
  refine ⟨_, fun i _ H' => H' = (mk, mksO dm) :: (dm, .dict (rowsV 1 ms)) :: (R ++ mkH b 1 (mvd (mvOut lo hi) i ms)), (), Itb.lst, (al1 m0 (al1 m1 (al1 m2 al0))), by simp [mvd], ?_, ?_⟩
  · rintro i y _ H' hy rfl
    have hlt : i < ms.length := by
      have := (List.getElem?_eq_some_iff.mp hy).1
      simpa [keysV, rowsV_len] using this
    rw [rowsV_keys 1 ms i hlt] at hy
    cases hy
    obtain ⟨a, p, A, hA, e1, e2⟩ := mvd_at (mvOut lo hi) i ms hlt
    have hg : dget (rowsV 1 ms) (1 + (i : Int)) = some (.ref a) := by
      rw [← rowsV_same 1 _ ms (mvd_addr (mvOut lo hi) i ms), e1, ← hA]
      exact rowsV_get 1 A (a, p) _
    rw [e1]
    have hU := mkH_up (b := b) 1 A a p (p - (hi - lo)) (ms.drop (i + 1)) R
    have hU2 := mkH_up (b := b) 1 A a p lo (ms.drop (i + 1)) R
    rw [hA] at hU hU2
    have hm := hU.mem
    refine eAq (.keep (by kernel_rfl) (.keep (by kernel_rfl) (.keep (by kernel_rfl) (.keep (by kernel_rfl) .nil)))) ?_
    with_reducible refine Ev.sub ?_
    refine tNq m1 m0 cls_Markers m0 ?_
    refine eNq m0 ?_
    refine Sb.dict m1 hg ?_
    refine eIq ?_
    with_reducible refine Bt.cmp (by kernel_rfl) ?_
    refine tNq m0 (mt (mt (by assumption))) cls_Marker m0 ?_
    refine eNq m4 ?_
    refine Cm.gt ?_
    refine ite_of (fun hb => ?_) (fun hb => ?_)
    · have hb : hi < p := by simpa using hb
      refine eTq ?_
      with_reducible refine Ev.bin ?_
      refine tNq m0 (mt (mt (by assumption))) cls_Marker m0 ?_
      with_reducible refine Ev.bin ?_
      refine eNq m4 ?_
      refine eNq m3 ?_
      refine Bn.sub ?_
      refine Bn.sub ?_
      refine wOq m0 (mt (mt (by assumption))) cls_Marker (.hit (.cons (by kernel_rfl) (.cons (by kernel_rfl) (.cons (by kernel_rfl) .nil)))) (.tail (.tail (by assumption))) ?_
      with_reducible refine Es.nil ?_
      with_reducible refine Es.nil ?_
      refine ⟨(), (al1 m2 (al1 m3 (al1 m4 al0))), ?_⟩
      show (_ : HH) = _
      rw [e2, mvOut, if_pos hb]
    · have hb : ¬ hi < p := by simpa using hb
      refine eIq ?_
      with_reducible refine Bt.cmp (by kernel_rfl) ?_
      refine tNq m0 (mt (mt (by assumption))) cls_Marker m0 ?_
      refine eNq m3 ?_
      refine Cm.gt ?_
      refine ite_of (fun hb' => ?_) (fun hb' => ?_)
      · have hb' : lo < p := by simpa using hb'
        refine eTq ?_
        refine eNq m3 ?_
        refine wOq m0 (mt (mt (by assumption))) cls_Marker (.hit (.cons (by kernel_rfl) (.cons (by kernel_rfl) (.cons (by kernel_rfl) .nil)))) (.tail (.tail (by assumption))) ?_
        with_reducible refine Es.nil ?_
        with_reducible refine Es.nil ?_
        with_reducible refine Es.nil ?_
        refine ⟨(), (al1 m2 (al1 m3 (al1 m4 al0))), ?_⟩
        show (_ : HH) = _
        rw [e2, mvOut, if_neg hb, if_pos hb']
      · have hb' : ¬ lo < p := by simpa using hb'
        with_reducible refine Es.nil ?_
        with_reducible refine Es.nil ?_
        with_reducible refine Es.nil ?_
        refine ⟨(), (al1 m2 (al1 m3 (al1 m4 al0))), ?_⟩
        show (_ : HH) = _
        rw [e2, mvOut, if_neg hb, if_neg hb']
  · rintro _ loc' H' hb rfl
    refine Es.nil ?_
    have e : (keysV (rowsV 1 ms)).length = ms.length := by simp [keysV, rowsV_len]
    rw [e, mvd_all]
    exact h
end
section
variable {G : Gx} {n : Nat} {H R : HH} {X : Str → HH → Prop} {P : V → HH → Prop} {b g mk : Addr} {pt zv tk ck : Int}
theorem c_need_writable (m : (b, bufO g mk pt zv tk ck) ∈ H) (h : P .none H) : Cd G (n + 1) (.ref 116) [.ref b] H P X := by
  refine in_need_writable ?_
  refine Es.cons ?_
  with_reducible refine E1.ite ?_
  with_reducible refine Bt.bool (by kernel_rfl) ?_
  refine tNq m0 (by assumption) cls_Buffer m6 ?_
  with_reducible refine bt_ok ?_
  refine iFq ?_
  with_reducible refine Es.nil ?_
  exact h
theorem c_reached {i j : Int} (m : (b, bufO g mk pt zv tk ck) ∈ H) (h1 : 1 ≤ i) (h2 : i ≤ j) (h3 : j ≤ zv) (h : P (.tup [.int i, .int j]) H) : Cd G (n + 1) (.ref 123) [.ref b, .int i, .int j] H P X := by
  refine in_reached ?_
  refine Es.cons ?_
  refine E1.asgTS (ns := ["low", "high"]) rfl rfl (fun _ => by kernel_rfl) ?_
  with_reducible refine Ev.tup ?_
  refine Ea.cons (by kernel_rfl) ?_
  refine cBq (b_min _) bb_min ?_
  refine aNq m1 ?_
  refine aLq m2 ?_
  refine Cl.min ?_
  refine Ea.cons (by kernel_rfl) ?_
  refine cBq (b_max _) bb_max ?_
  refine aNq m1 ?_
  refine aLq m2 ?_
  refine Cl.max ?_
  refine Ea.nil ?_
  with_reducible refine len_ok (by kernel_rfl!) ?_
  rw [show min i j = i by omega, show max i j = j by omega]
  refine ⟨_, _, rfl, (.cons (.keep (by kernel_rfl) (.keep (by kernel_rfl) (.keep (by kernel_rfl) .nil))) (.cons (.keep (by kernel_rfl) (.keep (by kernel_rfl) (.keep (by kernel_rfl) (.keep (by kernel_rfl) .nil)))) .nil)), ?_⟩
  refine eIq ?_
  with_reducible refine Bt.or ?_
  with_reducible refine Bt.cmp (by kernel_rfl) ?_
  refine eNq m0 ?_
  refine tNq m2 (by assumption) cls_Buffer m9 ?_
  refine Cm.lt ?_
  refine ite_of (fun hb => ?_) (fun hb => ?_)
  · exfalso; simp at hb; omega
  · with_reducible refine Bt.or ?_
    with_reducible refine Bt.cmp (by kernel_rfl) ?_
    refine eNq m1 ?_
    refine tNq m2 (by assumption) cls_Buffer m8 ?_
    refine Cm.gt ?_
    refine ite_of (fun hb => ?_) (fun hb => ?_)
    · exfalso; simp at hb; omega
    · with_reducible refine Bt.orN ?_
      refine iFq ?_
      refine eRq ?_
      with_reducible refine Ev.tup ?_
      refine aNq m0 ?_
      refine aLq m1 ?_
      with_reducible refine len_ok (by kernel_rfl!) ?_
      exact h
theorem c_tell_ahead {i j : Int} (m : (b, bufO g mk pt zv tk ck) ∈ H) (h : P .none H) : Cd G (n + 1) (.ref 130) [.ref b, .int i, .int j] H P X := by
  refine in_tell_ahead ?_
  refine Es.cons ?_
  refine E1.forB (σ := Unit) (fun _ => []) (by kernel_rfl) (fun _ _ => rfl) (fun _ => by kernel_rfl) ?_
  refine cTq (b_list _) bb_list ?_
  refine Ea.cons (by kernel_rfl) ?_
  refine tNq m0 (by assumption) cls_Buffer m3 ?_
  refine Ea.nil ?_
  refine Cl.listL (by decide) (.inl ?_)
  refine ⟨[], fun _ _ H' => H' = H, (), Itb.lst, al0, rfl, fun i y s H' hy _ => by simp at hy, ?_⟩
  rintro _ loc' H' _ rfl
  with_reducible refine Es.nil ?_
  exact h
theorem c_tell_behind {i j k : Int} (h : P .none ((b, bufO g mk pt zv (tk + 1) (tk + 1)) :: R)) : Cd G (n + 2) (.ref 137) [.ref b, .int i, .int j, .int k] ((b, bufO g mk pt zv tk ck) :: R) P X := by
  refine in_tell_behind ?_
  refine Es.cons ?_
  with_reducible refine E1.expr (by kernel_rfl) ?_
  with_reducible refine Ev.meth (by kernel_rfl) (by kernel_rfl) (by decide +kernel) (by kernel_rfl) ?_
  refine eNq m0 ?_
  with_reducible refine Mt.i m0 mth_Buffer_touch fun kv => ⟨kv, ?_⟩
  refine Ea.cons (by kernel_rfl) ?_
  with_reducible refine Ev.cbool ?_
  refine Ea.nil ?_
  refine Cl.cd (c_Buffer_touch ?_)
  with_reducible refine Es.cons ?_
  refine E1.forB (σ := Unit) (fun _ => []) (by kernel_rfl) (fun _ _ => rfl) (fun _ => by kernel_rfl) ?_
  refine cTq (b_list _) bb_list ?_
  refine Ea.cons (by kernel_rfl) ?_
  refine tNq m0 m0 cls_Buffer m3 ?_
  refine Ea.nil ?_
  refine Cl.listL (by decide) (.inl ?_)
  refine ⟨[], fun _ _ H' => H' = _, (), Itb.lst, al0, rfl, fun i y s H' hy _ => by simp at hy, ?_⟩
  rintro _ loc' H' _ rfl
  with_reducible refine Es.nil ?_
  exact h
theorem c_hung_out {i j : Int} (m : (b, bufO g mk pt zv tk ck) ∈ H) (h : P .none H) : Cd G (n + 1) (.ref 158) [.ref b, .int i, .int j] H P X := by
  refine in_hung_out ?_
  refine Es.cons ?_
  with_reducible refine E1.ite ?_
  with_reducible refine Bt.cmp (by kernel_rfl) ?_
  refine tNq m0 (by assumption) cls_Buffer m1 ?_
  with_reducible refine Ev.cnone ?_
  refine Cm.isNotN ?_
  refine iFq ?_
  refine eIq ?_
  with_reducible refine Bt.cmp (by kernel_rfl) ?_
  refine tNq m0 (by assumption) cls_Buffer m0 ?_
  with_reducible refine Ev.cnone ?_
  refine Cm.isNotN ?_
  refine iFq ?_
  with_reducible refine Es.nil ?_
  exact h
theorem c_hung_in {i j : Int} {w : V} (m : (b, bufO g mk pt zv tk ck) ∈ H) (h : P .none H) : Cd G (n + 1) (.ref 165) [.ref b, .int i, .int j, w] H P X := by
  refine in_hung_in ?_
  refine Es.cons ?_
  with_reducible refine E1.ite ?_
  with_reducible refine Bt.cmp (by kernel_rfl) ?_
  refine tNq m0 (by assumption) cls_Buffer m1 ?_
  with_reducible refine Ev.cnone ?_
  refine Cm.isNotN ?_
  refine iFq ?_
  refine eIq ?_
  with_reducible refine Bt.cmp (by kernel_rfl) ?_
  refine tNq m0 (by assumption) cls_Buffer m0 ?_
  with_reducible refine Ev.cnone ?_
  refine Cm.isNotN ?_
  refine iFq ?_
  with_reducible refine Es.nil ?_
  exact h
theorem c_text_in {l : Addr} {T cs zs : List V} {s t i : Nat} {p : Int} (q : GapR T cs s t) (hi : i ≤ T.length) (hz : 2 * (cs.length + zs.length + 8) ≤ 16777216) (hp : p = i + 1)
    (h : ∀ cs' s' t', GapR (T.take i ++ zs ++ T.drop i) cs' s' t' → cs'.length ≤ cs.length + zs.length + 8 → P .none ((b, bufO g mk (if p < pt then pt + zs.length else pt) (zv + zs.length) tk ck) :: (g, gapO l s' t') :: (l, .list cs') :: R)) :
    Cd G (n + 3) (.ref 151) [.ref b, .int p, .lst zs] ((b, bufO g mk pt zv tk ck) :: (g, gapO l s t) :: (l, .list cs) :: R) P X := by
  refine in_text_in ?_
  refine Es.cons ?_
  with_reducible refine E1.ite ?_
  with_reducible refine Bt.cmp (by kernel_rfl) ?_
  refine tNq m0 m0 cls_Buffer m2 ?_
  with_reducible refine Ev.cnone ?_
  refine Cm.isNotN ?_
  refine iFq ?_
  refine eXq ?_
  with_reducible refine Ev.meth (by kernel_rfl) (by kernel_rfl) (by decide +kernel) (by kernel_rfl) ?_
  refine tNq m0 m0 cls_Buffer m12 ?_
  with_reducible refine Mt.i m1 mth_GapText_insert fun kv => ⟨kv, ?_⟩
  refine Ea.cons (by kernel_rfl) ?_
  with_reducible refine Ev.bin ?_
  refine eNq m1 ?_
  with_reducible refine Ev.cint ?_
  refine Bn.sub ?_
  refine aLq m2 ?_
  refine Cl.perm (perm_pick (.tail .head) (perm_pick (.tail .head) (.refl _))) (Cl.cd (c_GapText_insert' q hi hz (by omega) fun cs' s' t' q' z' => ?_))
  refine Es.perm (H' := (b, _) :: (g, _) :: (l, _) :: R) (perm_pick (.tail (.tail .head)) (.refl _)) ?_
  refine eTq ?_
  with_reducible refine Ev.bin ?_
  refine tNq m0 m0 cls_Buffer m8 ?_
  refine cBq (b_len _) bb_len ?_
  refine aLq m2 ?_
  refine Cl.lenL (by omega) ?_
  refine Bn.add ?_
  refine eNq m0 ?_
  with_reducible refine Sa.od m0 cls_Buffer (by decide +kernel) (by decide +kernel) (.skip (by kernel_rfl) (.skip (by kernel_rfl) (.skip (by kernel_rfl) (.skip (by kernel_rfl) (.skip (by kernel_rfl) (.skip (by kernel_rfl) (.skip (by kernel_rfl) (.skip (by kernel_rfl) (.hit (.cons (by kernel_rfl) (.cons (by kernel_rfl) (.cons (by kernel_rfl) (.cons (by kernel_rfl) (.cons (by kernel_rfl) (.cons (by kernel_rfl) .nil))))))))))))))) .head ?_
  refine eIq ?_
  with_reducible refine Bt.cmp (by kernel_rfl) ?_
  refine tNq m0 m0 cls_Buffer m10 ?_
  refine eNq m1 ?_
  refine Cm.gt ?_
  have key := h cs' s' t' q' z'
  refine ite_of (fun hb => ?_) (fun hb => ?_)
  · rw [if_pos (by simpa using hb)] at key
    refine eTq ?_
    with_reducible refine Ev.bin ?_
    refine tNq m0 m0 cls_Buffer m10 ?_
    refine cBq (b_len _) bb_len ?_
    refine aLq m2 ?_
    refine Cl.lenL (by omega) ?_
    refine Bn.add ?_
    refine eNq m0 ?_
    with_reducible refine Sa.od m0 cls_Buffer (by decide +kernel) (by decide +kernel) (.skip (by kernel_rfl) (.skip (by kernel_rfl) (.skip (by kernel_rfl) (.skip (by kernel_rfl) (.skip (by kernel_rfl) (.skip (by kernel_rfl) (.skip (by kernel_rfl) (.skip (by kernel_rfl) (.skip (by kernel_rfl) (.skip (by kernel_rfl) (.hit (.cons (by kernel_rfl) (.cons (by kernel_rfl) (.cons (by kernel_rfl) (.cons (by kernel_rfl) .nil))))))))))))))) .head ?_
    with_reducible refine Es.nil ?_
    with_reducible refine Es.nil ?_
    exact key
  · rw [if_neg (by simpa using hb)] at key
    with_reducible refine Es.nil ?_
    with_reducible refine Es.nil ?_
    exact key
end
/-- a buffer with the text T, the point pt and the markers ms -/
structure BufH (b g l mk dm : Addr) (T : List V) (pt : Int) (ms : List (Addr × Int)) (N : Nat) (R H : HH) (cs : List V) (s t : Nat) (tk ck : Int) : Prop where
  q : GapR T cs s t
  z : cs.length ≤ N
  e : H = (b, bufO g mk pt (T.length + 1) tk ck) :: (g, gapO l s t) :: (l, .list cs) :: (mk, mksO dm) :: (dm, .dict (rowsV 1 ms)) :: (R ++ mkH b 1 ms)
section
variable {G : Gx} {n : Nat} {H R : HH} {X : Str → HH → Prop} {P : V → HH → Prop} {b g l mk dm : Addr} {pt zv tk ck : Int}
theorem c_text_out {T cs : List V} {s t i j : Nat} {p p' : Int} (q : GapR T cs s t) (hij : i ≤ j) (hj : j ≤ T.length) (hz : 2 * cs.length ≤ 16777216) (hp : p = i + 1) (hp' : p' = j + 1)
    (h : ∀ cs' s' t', GapR (T.take i ++ T.drop j) cs' s' t' → cs'.length = cs.length → P (.lst (cut T i j)) ((b, bufO g mk (if p < pt then max p (pt - (p' - p)) else pt) (zv - (p' - p)) tk ck) :: (g, gapO l s' t') :: (l, .list cs') :: R)) :
    Cd G (n + 3) (.ref 144) [.ref b, .int p, .int p'] ((b, bufO g mk pt zv tk ck) :: (g, gapO l s t) :: (l, .list cs) :: R) P X := by
  refine in_text_out ?_
  refine Es.cons ?_
  with_reducible refine E1.ite ?_
  with_reducible refine Bt.cmp (by kernel_rfl) ?_
  refine tNq m0 m0 cls_Buffer m2 ?_
  with_reducible refine Ev.cnone ?_
  refine Cm.isNotN ?_
  refine iFq ?_
  refine eAq (.keep (by kernel_rfl) (.keep (by kernel_rfl) (.keep (by kernel_rfl) .nil))) ?_
  with_reducible refine Ev.meth (by kernel_rfl) (by kernel_rfl) (by decide +kernel) (by kernel_rfl) ?_
  refine tNq m0 m0 cls_Buffer m12 ?_
  with_reducible refine Mt.i m1 mth_GapText_delete fun kv => ⟨kv, ?_⟩
  refine Ea.cons (by kernel_rfl) ?_
  with_reducible refine Ev.bin ?_
  refine eNq m1 ?_
  with_reducible refine Ev.cint ?_
  refine Bn.sub ?_
  refine Ea.cons (by kernel_rfl) ?_
  with_reducible refine Ev.bin ?_
  refine eNq m2 ?_
  with_reducible refine Ev.cint ?_
  refine Bn.sub ?_
  refine Ea.nil ?_
  refine Cl.back (Cl.perm (perm_pick (.tail .head) (perm_pick (.tail .head) (.refl _))) (Cl.cd (c_GapText_delete' q hij hj hz (by omega) (by omega) fun cs' s' t' q' z' => ?_)))
  refine ⟨(b, _) :: (g, _) :: (l, _) :: R, (perm_pick (.tail (.tail .head)) (.refl _)), ?_⟩
  refine eTq ?_
  with_reducible refine Ev.bin ?_
  refine tNq m1 m0 cls_Buffer m8 ?_
  with_reducible refine Ev.bin ?_
  refine eNq m3 ?_
  refine eNq m2 ?_
  refine Bn.sub ?_
  refine Bn.sub ?_
  refine eNq m1 ?_
  with_reducible refine Sa.od m0 cls_Buffer (by decide +kernel) (by decide +kernel) (.skip (by kernel_rfl) (.skip (by kernel_rfl) (.skip (by kernel_rfl) (.skip (by kernel_rfl) (.skip (by kernel_rfl) (.skip (by kernel_rfl) (.skip (by kernel_rfl) (.skip (by kernel_rfl) (.hit (.cons (by kernel_rfl) (.cons (by kernel_rfl) (.cons (by kernel_rfl) (.cons (by kernel_rfl) (.cons (by kernel_rfl) (.cons (by kernel_rfl) .nil))))))))))))))) .head ?_
  refine eIq ?_
  with_reducible refine Bt.cmp (by kernel_rfl) ?_
  refine tNq m1 m0 cls_Buffer m10 ?_
  refine eNq m2 ?_
  refine Cm.gt ?_
  have key := h cs' s' t' q' z'
  refine ite_of (fun hb => ?_) (fun hb => ?_)
  · rw [if_pos (by simpa using hb)] at key
    refine eTq ?_
    refine cBq (b_max _) bb_max ?_
    refine aNq m2 ?_
    refine Ea.cons (by kernel_rfl) ?_
    with_reducible refine Ev.bin ?_
    refine tNq m1 m0 cls_Buffer m10 ?_
    with_reducible refine Ev.bin ?_
    refine eNq m3 ?_
    refine eNq m2 ?_
    refine Bn.sub ?_
    refine Bn.sub ?_
    refine Ea.nil ?_
    refine Cl.max ?_
    refine eNq m1 ?_
    with_reducible refine Sa.od m0 cls_Buffer (by decide +kernel) (by decide +kernel) (.skip (by kernel_rfl) (.skip (by kernel_rfl) (.skip (by kernel_rfl) (.skip (by kernel_rfl) (.skip (by kernel_rfl) (.skip (by kernel_rfl) (.skip (by kernel_rfl) (.skip (by kernel_rfl) (.skip (by kernel_rfl) (.skip (by kernel_rfl) (.hit (.cons (by kernel_rfl) (.cons (by kernel_rfl) (.cons (by kernel_rfl) (.cons (by kernel_rfl) .nil))))))))))))))) .head ?_
    with_reducible refine Es.nil ?_
    refine eRq ?_
    refine eNq m0 ?_
    exact key
  · rw [if_neg (by simpa using hb)] at key
    with_reducible refine Es.nil ?_
    refine eRq ?_
    refine eNq m0 ?_
    exact key
theorem rowsV_map (k : Int) (f : Int → Int) (ms : List (Addr × Int)) : rowsV k (ms.map fun x => (x.1, f x.2)) = rowsV k ms := rowsV_same k _ _ (by rw [List.map_map]; rfl)
noncomputable def ptIn (bh : Bool) (p : Int) (m : Nat) (pt : Int) : Int := if bh then p + m else if p < pt then pt + m else pt
theorem mvIn_zero (lo : Int) (ms : List (Addr × Int)) : ms.map (fun x => (x.1, mvIn lo 0 x.2)) = ms := by
  conv => rhs; rw [← List.map_id ms]
  apply List.map_congr_left
  intro x _
  simp only [mvIn, id]
  split <;> (apply Prod.ext <;> simp; try omega)
theorem c_put_in {T cs zs : List V} {s t i N : Nat} {ms : List (Addr × Int)} {bh : Bool} {p : Int} (B : BufH b g l mk dm T pt ms N R H cs s t tk ck) (hp : p = i + 1) (hi : i ≤ T.length) (hbh : bh = true → p = pt) (hm : ms.length < 64) (hz : 2 * (N + zs.length + 8) ≤ 16777216)
    (h : ∀ H' cs' s' t' tk' ck', BufH b g l mk dm (T.take i ++ zs ++ T.drop i) (ptIn bh p zs.length pt) (ms.map fun x => (x.1, mvIn p zs.length x.2)) (N + zs.length + 8) R H' cs' s' t' tk' ck' → P .none H') :
    Cd G (n + 4) (.ref 172) [.ref b, .int p, .lst zs, .bool false, .bool bh] H P X := by
  obtain ⟨q, z, rfl⟩ := B
  refine in_put_in ?_
  refine Es.cons ?_
  with_reducible refine E1.expr (by kernel_rfl) ?_
  refine cGq (g_need_writable _) ?_
  refine aLq m0 ?_
  refine Cl.cd (c_need_writable m0 ?_)
  refine eXq ?_
  refine cGq (g_reached _) ?_
  refine aNq m0 ?_
  refine aNq m1 ?_
  refine aLq m1 ?_
  refine Cl.cd (c_reached m0 (by omega) (by omega) (by omega) ?_)
  refine eIq ?_
  with_reducible refine Bt.cmp (by kernel_rfl) ?_
  refine cBq (b_len _) bb_len ?_
  refine aLq m2 ?_
  refine Cl.lenL (by omega) ?_
  with_reducible refine Ev.cint ?_
  refine Cm.eqI ?_
  refine ite_of (fun hb => ?_) (fun hb => ?_)
  · have hb : zs = [] := by simpa using hb
    subst hb
    with_reducible refine Es.cons ?_
    with_reducible refine E1.ret0 ?_
    refine h _ cs s t tk ck ⟨?_, by omega, ?_⟩
    · rw [List.append_nil, List.take_append_drop]; exact q
    · have e : ptIn bh p ([] : List V).length pt = pt := by
        unfold ptIn
        cases bh with
        | true => rw [hbh rfl]; simp
        | false => simp
      rw [e, List.length_nil, Int.natCast_zero, mvIn_zero, List.append_nil, List.take_append_drop]
  · with_reducible refine Es.nil ?_
    refine eXq ?_
    refine cGq (g_tell_ahead _) ?_
    refine aNq m0 ?_
    refine aNq m1 ?_
    refine aLq m1 ?_
    refine Cl.cd (c_tell_ahead m0 ?_)
    refine eXq ?_
    refine cGq (g_text_in _) ?_
    refine aNq m0 ?_
    refine aNq m1 ?_
    refine aLq m2 ?_
    refine Cl.cd (c_text_in q hi (by omega) hp fun cs' s' t' q' z' => ?_)
    refine eIq ?_
    with_reducible refine Bt.bool (by kernel_rfl) ?_
    refine eNq m4 ?_
    with_reducible refine bt_ok ?_
    have eT : (((T.take i ++ zs ++ T.drop i).length : Nat) : Int) + 1 = (T.length : Int) + 1 + zs.length := by
      simp only [List.length_append, List.length_take, List.length_drop]; omega
    refine ite_join (fun loc' H' => loc' = ([("buffer", .ref b), ("place", .int p), ("codes", .lst zs), ("before_markers", .bool false), ("is_point_behind", .bool bh)] : Locs) ∧
      H' = (b, bufO g mk (ptIn bh p zs.length pt) (T.length + 1 + zs.length) tk ck) :: (g, gapO l s' t') :: (l, .list cs') :: (mk, mksO dm) :: (dm, .dict (rowsV 1 ms)) :: (R ++ mkH b 1 ms)) (fun hb => ?_) (fun hb => ?_) ?_
    · refine eTq ?_
      with_reducible refine Ev.bin ?_
      refine eNq m1 ?_
      refine cBq (b_len _) bb_len ?_
      refine aLq m2 ?_
      refine Cl.lenL (by omega) ?_
      refine Bn.add ?_
      refine eNq m0 ?_
      with_reducible refine Sa.od m0 cls_Buffer (by decide +kernel) (by decide +kernel) (.skip (by kernel_rfl) (.skip (by kernel_rfl) (.skip (by kernel_rfl) (.skip (by kernel_rfl) (.skip (by kernel_rfl) (.skip (by kernel_rfl) (.skip (by kernel_rfl) (.skip (by kernel_rfl) (.skip (by kernel_rfl) (.skip (by kernel_rfl) (.hit (.cons (by kernel_rfl) (.cons (by kernel_rfl) (.cons (by kernel_rfl) (.cons (by kernel_rfl) .nil))))))))))))))) .head ?_
      with_reducible refine Es.nil ?_
      have e : ptIn bh p zs.length pt = p + zs.length := by simp [ptIn, hb]
      exact ⟨rfl, by rw [e]⟩
    · with_reducible refine Es.nil ?_
      have e : ptIn bh p zs.length pt = if p < pt then pt + zs.length else pt := by simp [ptIn, hb]
      exact ⟨rfl, by rw [e]⟩
    rintro _ _ ⟨rfl, rfl⟩
    refine eXq ?_
    with_reducible refine Ev.meth (by kernel_rfl) (by kernel_rfl) (by decide +kernel) (by kernel_rfl) ?_
    refine tNq m0 m0 cls_Buffer m11 ?_
    with_reducible refine Mt.i m3 mth_Markers_inserted fun kv => ⟨kv, ?_⟩
    refine aNq m1 ?_
    refine Ea.cons (by kernel_rfl) ?_
    with_reducible refine Ev.bin ?_
    refine eNq m1 ?_
    refine cBq (b_len _) bb_len ?_
    refine aLq m2 ?_
    refine Cl.lenL (by omega) ?_
    refine Bn.add ?_
    refine aLq m3 ?_
    refine Cl.perm (H' := (mk, _) :: (dm, _) :: (b, _) :: (g, _) :: (l, _) :: (R ++ mkH b 1 ms)) (perm_pick (.tail (.tail (.tail .head))) (perm_pick (.tail (.tail (.tail .head))) (.refl _))) (Cl.cd (c_Markers_inserted (R := (b, _) :: (g, _) :: (l, _) :: R) hm ?_))
    rw [List.cons_append, List.cons_append, List.cons_append]
    refine eXq ?_
    refine cGq (g_hung_in _) ?_
    refine aNq m0 ?_
    refine aNq m1 ?_
    refine Ea.cons (by kernel_rfl) ?_
    refine cBq (b_len _) bb_len ?_
    refine aLq m2 ?_
    refine Cl.lenL (by omega) ?_
    refine aLq m3 ?_
    refine Cl.cd (c_hung_in m2 ?_)
    refine eXq ?_
    refine cGq (g_tell_behind _) ?_
    refine aNq m0 ?_
    refine aNq m1 ?_
    refine Ea.cons (by kernel_rfl) ?_
    with_reducible refine Ev.bin ?_
    refine eNq m1 ?_
    refine cBq (b_len _) bb_len ?_
    refine aLq m2 ?_
    refine Cl.lenL (by omega) ?_
    refine Bn.add ?_
    refine aIlq ?_
    refine Cl.perm (perm_pick (.tail (.tail .head)) (.refl _)) (Cl.cd (c_tell_behind ?_))
    refine Es.perm (H' := (b, _) :: (g, _) :: (l, _) :: (mk, _) :: (dm, _) :: (R ++ mkH b 1 (ms.map fun x => (x.1, mvIn p zs.length x.2)))) (perm_pick .head (perm_pick (.tail (.tail .head)) (perm_pick (.tail (.tail .head)) (.refl _)))) ?_
    with_reducible refine Es.nil ?_
    exact h _ cs' s' t' _ _ ⟨q', by omega, by rw [eT, rowsV_map]⟩
theorem c_insert_at {T cs zs : List V} {s t i N : Nat} {ms : List (Addr × Int)} {p : Int} (B : BufH b g l mk dm T pt ms N R H cs s t tk ck) (hp : p = i + 1) (hi : i ≤ T.length) (hm : ms.length < 64) (hz : 2 * (N + zs.length + 8) ≤ 16777216)
    (h : ∀ H' cs' s' t' tk' ck', BufH b g l mk dm (T.take i ++ zs ++ T.drop i) (ptIn false p zs.length pt) (ms.map fun x => (x.1, mvIn p zs.length x.2)) (N + zs.length + 8) R H' cs' s' t' tk' ck' → P .none H') :
    Cd G (n + 5) (.ref 180) [.ref b, .int p, .lst zs] H P X := by
  refine in_insert_at_d ?_
  refine Es.cons ?_
  with_reducible refine E1.expr (by kernel_rfl) ?_
  refine cGq (g_put_in_editing _) ?_
  refine aNq m0 ?_
  refine aNq m1 ?_
  refine aNq m2 ?_
  refine aNq m3 ?_
  refine Ea.cons (by kernel_rfl) ?_
  with_reducible refine Ev.cbool ?_
  refine Ea.nil ?_
  refine Cl.cd (c_put_in (bh := false) B hp hi (fun h => by cases h) hm hz fun H' cs' s' t' tk' ck' B' => ?_)
  with_reducible refine Es.nil ?_
  exact h H' cs' s' t' tk' ck' B'
theorem c_insert {T cs zs : List V} {s t i N : Nat} {ms : List (Addr × Int)} (B : BufH b g l mk dm T pt ms N R H cs s t tk ck) (hp : pt = i + 1) (hi : i ≤ T.length) (hm : ms.length < 64) (hz : 2 * (N + zs.length + 8) ≤ 16777216)
    (h : ∀ H' cs' s' t' tk' ck', BufH b g l mk dm (T.take i ++ zs ++ T.drop i) (pt + zs.length) (ms.map fun x => (x.1, mvIn pt zs.length x.2)) (N + zs.length + 8) R H' cs' s' t' tk' ck' → P .none H') :
    Cd G (n + 5) (.ref 188) [.ref b, .lst zs] H P X := by
  refine in_insert_d ?_
  have B' := B
  obtain ⟨q, z, rfl⟩ := B'
  refine Es.cons ?_
  with_reducible refine E1.expr (by kernel_rfl) ?_
  refine cGq (g_put_in_editing _) ?_
  refine aNq m0 ?_
  refine Ea.cons (by kernel_rfl) ?_
  refine tNq m0 m0 cls_Buffer m10 ?_
  refine aNq m1 ?_
  refine aNq m2 ?_
  refine Ea.cons (by kernel_rfl) ?_
  with_reducible refine Ev.cbool ?_
  refine Ea.nil ?_
  refine Cl.cd (c_put_in (bh := true) B hp hi (fun _ => rfl) hm hz fun H' cs' s' t' tk' ck' B' => ?_)
  with_reducible refine Es.nil ?_
  exact h H' cs' s' t' tk' ck' B'
noncomputable def ptOut (lo hi pt : Int) : Int := if lo < pt then max lo (pt - (hi - lo)) else pt
theorem mvOut_same (lo : Int) (ms : List (Addr × Int)) : ms.map (fun x => (x.1, mvOut lo lo x.2)) = ms := by
  conv => rhs; rw [← List.map_id ms]
  apply List.map_congr_left
  intro x _
  simp only [mvOut, id]
  by_cases h : lo < x.2
  · rw [if_pos h]; apply Prod.ext <;> simp
  · rw [if_neg h, if_neg h]
theorem c_delete {T cs : List V} {s t i j N : Nat} {ms : List (Addr × Int)} {p p' : Int} (B : BufH b g l mk dm T pt ms N R H cs s t tk ck) (hp : p = i + 1) (hp' : p' = j + 1) (hij : i ≤ j) (hj : j ≤ T.length) (hm : ms.length < 64) (hz : 2 * N ≤ 16777216)
    (h : ∀ v H' cs' s' t' tk' ck', BufH b g l mk dm (T.take i ++ T.drop j) (ptOut p p' pt) (ms.map fun x => (x.1, mvOut p p' x.2)) N R H' cs' s' t' tk' ck' → P v H') :
    Cd G (n + 4) (.ref 195) [.ref b, .int p, .int p'] H P X := by
  obtain ⟨q, z, rfl⟩ := B
  refine in_delete ?_
  refine Es.cons ?_
  with_reducible refine E1.expr (by kernel_rfl) ?_
  refine cGq (g_need_writable _) ?_
  refine aLq m0 ?_
  refine Cl.cd (c_need_writable m0 ?_)
  with_reducible refine Es.cons ?_
  refine E1.asgT (ns := ["low", "high"]) rfl (by kernel_rfl) rfl (fun _ => by kernel_rfl) ?_
  refine cGq (g_reached _) ?_
  refine aNq m0 ?_
  refine aNq m1 ?_
  refine aLq m2 ?_
  refine Cl.cd (c_reached m0 (by omega) (by omega) (by omega) ?_)
  refine ⟨_, _, rfl, (.cons (.keep (by kernel_rfl) (.keep (by kernel_rfl) (.keep (by kernel_rfl) .nil))) (.cons (.keep (by kernel_rfl) (.keep (by kernel_rfl) (.keep (by kernel_rfl) (.keep (by kernel_rfl) .nil)))) .nil)), ?_⟩
  refine eIq ?_
  with_reducible refine Bt.cmp (by kernel_rfl) ?_
  refine eNq m1 ?_
  refine eNq m0 ?_
  refine Cm.eqI ?_
  refine ite_of (fun hb => ?_) (fun hb => ?_)
  · have hb : p = p' := by simpa using hb
    have hij : i = j := by omega
    subst hb hij
    refine eRq ?_
    with_reducible refine Ev.lst ?_
    refine Ea.nil ?_
    with_reducible refine len_ok (by kernel_rfl!) ?_
    refine Or.inl ?_
    refine h _ _ cs s t tk ck ⟨?_, z, ?_⟩
    · rw [List.take_append_drop]; exact q
    · have e : ptOut p p pt = pt := by unfold ptOut; split <;> omega
      rw [e, mvOut_same, List.take_append_drop]
  · with_reducible refine Es.nil ?_
    refine eXq ?_
    refine cGq (g_tell_ahead _) ?_
    refine aNq m2 ?_
    refine aNq m1 ?_
    refine aLq m0 ?_
    refine Cl.cd (c_tell_ahead m0 ?_)
    refine eAq (.keep (by kernel_rfl) (.keep (by kernel_rfl) (.keep (by kernel_rfl) (.keep (by kernel_rfl) (.keep (by kernel_rfl) .nil))))) ?_
    refine cGq (g_text_out _) ?_
    refine aNq m2 ?_
    refine aNq m1 ?_
    refine aLq m0 ?_
    refine Cl.cd (c_text_out q hij hj (by omega) hp hp' fun cs' s' t' q' z' => ?_)
    refine eXq ?_
    with_reducible refine Ev.meth (by kernel_rfl) (by kernel_rfl) (by decide +kernel) (by kernel_rfl) ?_
    refine tNq m3 m0 cls_Buffer m11 ?_
    with_reducible refine Mt.i m3 mth_Markers_deleted fun kv => ⟨kv, ?_⟩
    refine aNq m2 ?_
    refine aLq m1 ?_
    refine Cl.back (Cl.perm (H' := (mk, _) :: (dm, _) :: (b, _) :: (g, _) :: (l, _) :: (R ++ mkH b 1 ms)) (perm_pick (.tail (.tail (.tail .head))) (perm_pick (.tail (.tail (.tail .head))) (.refl _))) (Cl.cd (c_Markers_deleted (R := (b, _) :: (g, _) :: (l, _) :: R) hm ?_)))
    rw [List.cons_append, List.cons_append, List.cons_append]
    refine ⟨(b, _) :: (g, _) :: (l, _) :: (mk, _) :: (dm, _) :: _, (perm_pick (.tail (.tail .head)) (perm_pick (.tail (.tail .head)) (perm_pick (.tail (.tail .head)) (.refl _)))), ?_⟩
    refine eXq ?_
    refine cGq (g_hung_out _) ?_
    refine aNq m3 ?_
    refine aNq m2 ?_
    refine aLq m1 ?_
    refine Cl.cd (c_hung_out m0 ?_)
    refine eXq ?_
    refine cGq (g_tell_behind _) ?_
    refine aNq m3 ?_
    refine aNq m2 ?_
    refine aNq m2 ?_
    refine Ea.cons (by kernel_rfl) ?_
    with_reducible refine Ev.bin ?_
    refine eNq m1 ?_
    refine eNq m2 ?_
    refine Bn.sub ?_
    refine Ea.nil ?_
    refine Cl.cd (c_tell_behind ?_)
    refine eRq ?_
    refine eNq m0 ?_
    have eT : (((T.take i ++ T.drop j).length : Nat) : Int) + 1 = (T.length : Int) + 1 - (p' - p) := by
      simp only [List.length_append, List.length_take, List.length_drop]; omega
    exact h _ _ cs' s' t' _ _ ⟨q', by omega, by rw [eT, rowsV_map]; rfl⟩
end
noncomputable abbrev regO (dg : Addr) : O := .inst 329 1 [("contents", .ref dg)]
section
variable {G : Gx} {n : Nat} {H H' R : HH} {X : Str → HH → Prop} {P : V → HH → Prop} {rg dg : Addr} {xs : List (Int × V)}
theorem c_sig {y : Str} {v : V} (h : ∀ a, P (.ref a) ((a, .exc true (some [("data", v), ("symbol", .str y)])) :: H)) : Cl G (n + 2) (.ref 38) [.str y, v] H P X := by
  refine Cl.sig (by show 2 ≤ 16777216; decide) fun a => in_LispSignal_init ?_
  refine Es.cons ?_
  with_reducible refine E1.asgA (by kernel_rfl) ?_
  refine eNq m1 ?_
  refine eNq m0 ?_
  refine Sa.exc0 (by decide +kernel) (fun P => by kernel_rfl) .head ?_
  refine eTq ?_
  refine eNq m2 ?_
  refine eNq m0 ?_
  refine Sa.exc1 (fs := [("symbol", .str y)]) (by decide +kernel) (fun P => by kernel_rfl) (.cons (by kernel_rfl) .nil) .head ?_
  with_reducible refine Es.nil ?_
  exact ⟨rfl, h a⟩
theorem c_Registers_init {a : Addr} (h : ∀ d, P .none ((d, .dict []) :: (a, regO d) :: R)) : Cd G (n + 1) (.ref 326) [.ref a] ((a, .inst 329 0 []) :: R) P X := by
  refine in_Registers_init ?_
  refine Es.cons ?_
  with_reducible refine E1.asgA (by kernel_rfl) ?_
  refine Ev.dict0 fun d => ?_
  refine wNq m0 m1 cls_Registers .nil (.tail .head) ?_
  with_reducible refine Es.nil ?_
  exact h d
theorem c_held {k : Int} (m : (rg, regO dg) ∈ H) (md : (dg, .dict xs) ∈ H) (h : P (ogetD (dget xs k) .none) H) : Cd G (n + 1) (.ref 340) [.ref rg, .int k] H P X := by
  refine in_held ?_
  refine Es.cons ?_
  with_reducible refine E1.ret ?_
  with_reducible refine Ev.meth (by kernel_rfl) (by kernel_rfl) (by decide +kernel) (by kernel_rfl) ?_
  refine tNq m0 (by assumption) cls_Registers m0 ?_
  with_reducible refine Mt.dget (by assumption) ⟨KeepV.blt _, ?_⟩
  refine aNq m1 ?_
  refine Ea.cons (by kernel_rfl) ?_
  with_reducible refine Ev.cnone ?_
  refine Ea.nil ?_
  exact Cl.get2 md h
theorem c_put {k : Int} {v : V} (m : (rg, regO dg) ∈ H) (U : UpH dg (.dict xs) (.dict (dset xs k v)) H H') (hz : xs.length ≤ 16777216) (h : P .none H') : Cd G (n + 1) (.ref 347) [.ref rg, .int k, v] H P X := by
  refine in_put ?_
  refine Es.cons ?_
  with_reducible refine E1.asgS (by kernel_rfl) ?_
  refine eNq m2 ?_
  refine tNq m0 (by assumption) cls_Registers m0 ?_
  refine eNq m1 ?_
  refine Stt.dict U hz ?_
  with_reducible refine Es.nil ?_
  exact h
theorem c_need_hit {k i : Int} (m : (rg, regO dg) ∈ H) (md : (dg, .dict xs) ∈ H) (hk : dget xs k = some (.tup [.str "number", .int i])) (h : P (.int i) H) : Cd G (n + 3) (.ref 354) [.ref rg, .int k, .str "number"] H P X := by
  refine in_need ?_
  refine Es.cons ?_
  with_reducible refine E1.asgN (.keep (by kernel_rfl) (.keep (by kernel_rfl) (.keep (by kernel_rfl) .nil))) (by kernel_rfl) (by kernel_rfl) ?_
  refine cGq (g_held _) ?_
  refine aNq m0 ?_
  refine aLq m1 ?_
  refine Cl.cd (c_held m md ?_)
  rw [hk]
  simp only [ogetD]
  refine eIq ?_
  with_reducible refine Bt.or ?_
  refine bNq m0 ?_
  with_reducible refine ite_f' (by kernel_rfl!) ?_
  with_reducible refine Bt.or ?_
  with_reducible refine Bt.cmp (by kernel_rfl) ?_
  refine sTq m0 ?_
  refine eNq m3 ?_
  refine Cm.neS ?_
  with_reducible refine ite_f' (by kernel_rfl!) ?_
  with_reducible refine Bt.orN ?_
  refine iFq ?_
  refine eRq ?_
  refine sTq m0 ?_
  exact h
theorem c_need_none {k : Int} (m : (rg, regO dg) ∈ H) (md : (dg, .dict xs) ∈ H) (hk : dget xs k = none) (h : X "user-error" H) : Cd G (n + 3) (.ref 354) [.ref rg, .int k, .str "number"] H P X := by
  refine in_need ?_
  refine Es.cons ?_
  with_reducible refine E1.asgN (.keep (by kernel_rfl) (.keep (by kernel_rfl) (.keep (by kernel_rfl) .nil))) (by kernel_rfl) (by kernel_rfl) ?_
  refine cGq (g_held _) ?_
  refine aNq m0 ?_
  refine aLq m1 ?_
  refine Cl.cd (c_held m md ?_)
  rw [hk]
  simp only [ogetD]
  refine eIq ?_
  with_reducible refine Bt.or ?_
  refine bNq m0 ?_
  with_reducible refine ite_t' (by kernel_rfl!) ?_
  with_reducible refine ite_t' (by kernel_rfl!) ?_
  with_reducible refine Es.cons ?_
  with_reducible refine E1.raise ?_
  refine cGq (g_LispSignal _) ?_
  refine aSq ?_
  refine Ea.cons (by kernel_rfl) ?_
  with_reducible refine Ev.lst ?_
  refine Ea.cons (by kernel_rfl) ?_
  with_reducible refine Ev.bin ?_
  with_reducible refine Ev.cstr ?_
  refine eNq m3 ?_
  refine Bn.addS (by decide) ?_
  refine Ea.nil ?_
  with_reducible refine len_ok (by kernel_rfl!) ?_
  refine Or.inl ?_
  refine Ea.nil ?_
  exact c_sig fun a => ⟨a, _, _, _, rfl, .refl _, .tail _ (.head _), h⟩
theorem c_need_other {k : Int} {w : Str} {v : V} (m : (rg, regO dg) ∈ H) (md : (dg, .dict xs) ∈ H) (hk : dget xs k = some (.tup [.str w, v])) (hw : (w != ("number" : Str)) = true) (h : X "user-error" H) : Cd G (n + 3) (.ref 354) [.ref rg, .int k, .str "number"] H P X := by
  refine in_need ?_
  refine Es.cons ?_
  with_reducible refine E1.asgN (.keep (by kernel_rfl) (.keep (by kernel_rfl) (.keep (by kernel_rfl) .nil))) (by kernel_rfl) (by kernel_rfl) ?_
  refine cGq (g_held _) ?_
  refine aNq m0 ?_
  refine aLq m1 ?_
  refine Cl.cd (c_held m md ?_)
  rw [hk]
  simp only [ogetD]
  refine eIq ?_
  with_reducible refine Bt.or ?_
  refine bNq m0 ?_
  with_reducible refine ite_f' (by kernel_rfl!) ?_
  with_reducible refine Bt.or ?_
  with_reducible refine Bt.cmp (by kernel_rfl) ?_
  refine sTq m0 ?_
  refine eNq m3 ?_
  refine Cm.neS ?_
  refine ite_t' hw ?_
  with_reducible refine ite_t' (by kernel_rfl!) ?_
  with_reducible refine Es.cons ?_
  with_reducible refine E1.raise ?_
  refine cGq (g_LispSignal _) ?_
  refine aSq ?_
  refine Ea.cons (by kernel_rfl) ?_
  with_reducible refine Ev.lst ?_
  refine Ea.cons (by kernel_rfl) ?_
  with_reducible refine Ev.bin ?_
  with_reducible refine Ev.cstr ?_
  refine eNq m3 ?_
  refine Bn.addS (by decide) ?_
  refine Ea.nil ?_
  with_reducible refine len_ok (by kernel_rfl!) ?_
  refine Or.inl ?_
  refine Ea.nil ?_
  exact c_sig fun a => ⟨a, _, _, _, rfl, .refl _, .tail _ (.head _), h⟩
theorem c_number_to_register {k i : Int} (m : (rg, regO dg) ∈ H) (U : UpH dg (.dict xs) (.dict (dset xs k (.tup [.str "number", .int i]))) H H') (hz : xs.length ≤ 16777216) (h : P .none H') : Cd G (n + 2) (.ref 389) [.ref rg, .int k, .int i] H P X := by
  refine in_number_to_register ?_
  refine Es.cons ?_
  with_reducible refine E1.expr (by kernel_rfl) ?_
  refine cGq (g_put _) ?_
  refine aNq m0 ?_
  refine aNq m1 ?_
  refine Ea.cons (by kernel_rfl) ?_
  with_reducible refine Ev.tup ?_
  refine aSq ?_
  refine aLq m2 ?_
  with_reducible refine len_ok (by kernel_rfl!) ?_
  refine Ea.nil ?_
  refine Cl.cd (c_put m U hz ?_)
  with_reducible refine Es.nil ?_
  exact h
theorem c_point_to_register {k : Int} {a : Addr} (m : (rg, regO dg) ∈ H) (U : UpH dg (.dict xs) (.dict (dset xs k (.tup [.str "point", .ref a]))) H H') (hz : xs.length ≤ 16777216) (h : P .none H') : Cd G (n + 2) (.ref 361) [.ref rg, .int k, .ref a] H P X := by
  refine in_point_to_register ?_
  refine Es.cons ?_
  with_reducible refine E1.expr (by kernel_rfl) ?_
  refine cGq (g_put _) ?_
  refine aNq m0 ?_
  refine aNq m1 ?_
  refine Ea.cons (by kernel_rfl) ?_
  with_reducible refine Ev.tup ?_
  refine aSq ?_
  refine aLq m2 ?_
  with_reducible refine len_ok (by kernel_rfl!) ?_
  refine Ea.nil ?_
  refine Cl.cd (c_put m U hz ?_)
  with_reducible refine Es.nil ?_
  exact h
theorem c_numeric {i : Int} (h : P (.int i) H) : Cd G (n + 2) (.ref 109) [.int i] H P X := by
  refine in_numeric ?_
  refine Es.cons ?_
  with_reducible refine E1.ite ?_
  refine bNq m0 ?_
  refine iFq ?_
  refine eIq ?_
  with_reducible refine Bt.bool (by kernel_rfl) ?_
  refine cGq (g_is_minus _) ?_
  refine aLq m0 ?_
  refine Cl.cd (in_is_minus ?_)
  refine Es.cons ?_
  with_reducible refine E1.ret ?_
  refine cBq (b_isinstance _) bb_isinstance ?_
  refine aNq m0 ?_
  refine Ea.cons (by kernel_rfl) ?_
  with_reducible refine Ev.blt (b_str _) bb_str (by decide +kernel) (by kernel_rfl) ?_
  refine Ea.nil ?_
  refine Cl.isIntStr ?_
  with_reducible refine bt_ok ?_
  refine iFq ?_
  refine eRq ?_
  with_reducible refine Ev.ife ?_
  with_reducible refine Bt.bool (by kernel_rfl) ?_
  refine cGq (g_is_many _) ?_
  refine aLq m0 ?_
  refine Cl.cd (in_is_many ?_)
  refine Es.cons ?_
  with_reducible refine E1.ret ?_
  refine cBq (b_isinstance _) bb_isinstance ?_
  refine aNq m0 ?_
  refine Ea.cons (by kernel_rfl) ?_
  with_reducible refine Ev.glob (g_Many _) (by kernel_rfl) ?_
  refine Ea.nil ?_
  refine Cl.isIntCls (fun P => by kernel_rfl) ?_
  with_reducible refine bt_ok ?_
  with_reducible refine ite_f' (by kernel_rfl!) ?_
  refine eNq m0 ?_
  exact h
end
/-! # the editor's state -/
inductive Rg where
  | pt (k : Nat)
  | tx (cs : List Int)
  | nm (i : Int)
noncomputable abbrev intV (cs : List Int) : List V := cs.map V.int
noncomputable def adr (ms : List (Addr × Int)) (k : Nat) : Addr := ((ms[k]?).map (·.1)).getD 0
noncomputable def pos (ms : List (Addr × Int)) (k : Nat) : Int := ((ms[k]?).map (·.2)).getD 0
noncomputable def regV (ms : List (Addr × Int)) : Rg → V
  | .pt k => .tup [.str "point", .ref (adr ms k)]
  | .tx cs => .tup [.str "text", .lst (intV cs)]
  | .nm i => .tup [.str "number", .int i]
noncomputable def regsV (ms : List (Addr × Int)) (rs : List (Int × Rg)) : List (Int × V) := rs.map fun p => (p.1, regV ms p.2)
theorem dget_map {α β : Type} (f : α → β) (k : Int) : ∀ l : List (Int × α), dget (l.map fun p => (p.1, f p.2)) k = (dget l k).map f
  | [] => rfl
  | (j, v) :: r => by
    rw [List.map_cons, dget, dget]
    by_cases h : j = k
    · rw [if_pos h, if_pos h]; rfl
    · rw [if_neg h, if_neg h]; exact dget_map f k r
theorem dset_map {α β : Type} (f : α → β) (k : Int) (v : α) : ∀ l : List (Int × α), dset (l.map fun p => (p.1, f p.2)) k (f v) = (dset l k v).map fun p => (p.1, f p.2)
  | [] => rfl
  | (j, u) :: r => by
    rw [List.map_cons, dset, dset]
    by_cases h : j = k
    · rw [if_pos h, if_pos h]; rfl
    · rw [if_neg h, if_neg h, List.map_cons, dset_map f k v r]
theorem regs_get (ms : List (Addr × Int)) (rs : List (Int × Rg)) (k : Int) : dget (regsV ms rs) k = (dget rs k).map (regV ms) := dget_map _ k rs
theorem regs_set (ms : List (Addr × Int)) (rs : List (Int × Rg)) (k : Int) (r : Rg) : dset (regsV ms rs) k (regV ms r) = regsV ms (dset rs k r) := dset_map _ k r rs
theorem adr_map (f : Int → Int) (ms : List (Addr × Int)) (k : Nat) : adr (ms.map fun x => (x.1, f x.2)) k = adr ms k := by
  unfold adr
  rw [List.getElem?_map, Option.map_map]
  rfl
theorem regV_map (f : Int → Int) (ms : List (Addr × Int)) (r : Rg) : regV (ms.map fun x => (x.1, f x.2)) r = regV ms r := by
  cases r with
  | pt k => simp only [regV, adr_map]
  | _ => rfl
theorem regsV_map (f : Int → Int) (ms : List (Addr × Int)) (rs : List (Int × Rg)) : regsV (ms.map fun x => (x.1, f x.2)) rs = regsV ms rs := by
  unfold regsV
  exact List.map_congr_left fun p _ => by rw [regV_map]
theorem cut_map {α β : Type} (f : α → β) (T : List α) (i j : Nat) : cut (T.map f) i j = (cut T i j).map f := by
  unfold cut
  rw [← List.map_drop, ← List.map_take]
theorem dset_len {α : Type} (k : Int) (v : α) : ∀ l : List (Int × α), (dset l k v).length ≤ l.length + 1
  | [] => Nat.le_refl _
  | (j, u) :: r => by
    rw [dset]
    by_cases h : j = k
    · rw [if_pos h]; exact Nat.le_succ _
    · rw [if_neg h, List.length_cons, List.length_cons]; exact Nat.succ_le_succ (dset_len k v r)
structure Ad where
  e : Addr
  bt : Addr
  dr : Addr
  od : Addr
  rg : Addr
  dg : Addr
  b : Addr
  g : Addr
  l : Addr
  mr : Addr
  dm : Addr
structure St where
  T : List Int
  pt : Int
  ms : List (Addr × Int)
  rs : List (Int × Rg)
noncomputable abbrev edO (bt rg : Addr) : O := .inst 1081 30 [("registers", .ref rg), ("buffers", .ref bt)]
noncomputable abbrev tabO (dr od : Addr) (lm : Int) : O := .inst 906 5 [("last_marker", .int lm), ("last_number", .int 1), ("current", .int 1), ("order", .ref od), ("rows", .ref dr)]
noncomputable abbrev EdL (a : Ad) (σ : St) (cs : List V) (s t : Nat) (tk ck : Int) (R : HH) : HH :=
  (a.b, bufO a.g a.mr σ.pt (σ.T.length + 1) tk ck) :: (a.g, gapO a.l s t) :: (a.l, .list cs) :: (a.mr, mksO a.dm) :: (a.dm, .dict (rowsV 1 σ.ms)) :: (a.e, edO a.bt a.rg) :: (a.bt, tabO a.dr a.od σ.ms.length) ::
    (a.dr, .dict [(1, .ref a.b)]) :: (a.od, .list [.int 1]) :: (a.rg, regO a.dg) :: (a.dg, .dict (regsV σ.ms σ.rs)) :: (R ++ mkH a.b 1 σ.ms)
structure EdH (a : Ad) (σ : St) (N : Nat) (R H : HH) (cs : List V) (s t : Nat) (tk ck : Int) : Prop where
  q : GapR (intV σ.T) cs s t
  z : cs.length ≤ N
  e : H = EdL a σ cs s t tk ck R
noncomputable abbrev EdR (a : Ad) (σ : St) (R : HH) : HH := (a.e, edO a.bt a.rg) :: (a.bt, tabO a.dr a.od σ.ms.length) :: (a.dr, .dict [(1, .ref a.b)]) :: (a.od, .list [.int 1]) :: (a.rg, regO a.dg) :: (a.dg, .dict (regsV σ.ms σ.rs)) :: R
theorem EdH.buf {a : Ad} {σ : St} {N : Nat} {R H : HH} {cs : List V} {s t : Nat} {tk ck : Int} (E : EdH a σ N R H cs s t tk ck) : BufH a.b a.g a.l a.mr a.dm (intV σ.T) σ.pt σ.ms N (EdR a σ R) H cs s t tk ck :=
  ⟨E.q, E.z, by rw [E.e]; simp only [EdL, EdR, List.cons_append, List.length_map]⟩
theorem BufH.ed {a : Ad} {σ σ' : St} {N : Nat} {R H : HH} {cs : List V} {s t : Nat} {tk ck : Int} (B : BufH a.b a.g a.l a.mr a.dm (intV σ'.T) σ'.pt σ'.ms N (EdR a σ R) H cs s t tk ck) (hl : σ'.ms.length = σ.ms.length) (hr : regsV σ'.ms σ'.rs = regsV σ.ms σ.rs) : EdH a σ' N R H cs s t tk ck :=
  ⟨B.q, B.z, by rw [B.e]; simp only [EdL, EdR, List.cons_append, List.length_map, hl, hr]⟩
noncomputable def setReg (σ : St) (k : Int) (r : Rg) : St := { σ with rs := dset σ.rs k r }
noncomputable def delSt (σ : St) (i j : Nat) : St := { σ with T := σ.T.take i ++ σ.T.drop j, pt := ptOut (i + 1) (j + 1) σ.pt, ms := σ.ms.map fun x => (x.1, mvOut (i + 1) (j + 1) x.2) }
noncomputable def insSt (σ : St) (zs : List Int) : St := { σ with T := σ.T.take (σ.pt - 1).toNat ++ zs ++ σ.T.drop (σ.pt - 1).toNat, pt := σ.pt + zs.length, ms := σ.ms.map fun x => (x.1, mvIn σ.pt zs.length x.2) }
section
variable {G : Gx} {n : Nat} {H H' R : HH} {X : Str → HH → Prop} {P : V → HH → Prop} {a : Ad} {σ : St} {N : Nat} {cs : List V} {s t : Nat} {tk ck : Int}
theorem e_delete {i j : Nat} {p p' : Int} (E : EdH a σ N R H cs s t tk ck) (hp : p = i + 1) (hp' : p' = j + 1) (hij : i ≤ j) (hj : j ≤ σ.T.length) (hm : σ.ms.length < 64) (hz : 2 * N ≤ 16777216)
    (h : ∀ v H' cs' s' t' tk' ck', EdH a (delSt σ i j) N R H' cs' s' t' tk' ck' → P v H') : Cd G (n + 4) (.ref 195) [.ref a.b, .int p, .int p'] H P X := by
  refine c_delete E.buf hp hp' hij (by rw [List.length_map]; exact hj) hm hz fun v H' cs' s' t' tk' ck' B => h v H' cs' s' t' tk' ck' (BufH.ed (σ := σ) ?_ (by simp [delSt]) (by simp only [delSt]; exact regsV_map _ _ _))
  subst hp hp'
  simp only [delSt, intV, List.map_append, List.map_take, List.map_drop]
  exact B
theorem e_insert {zs : List Int} (E : EdH a σ N R H cs s t tk ck) (h1 : 1 ≤ σ.pt) (h2 : σ.pt ≤ σ.T.length + 1) (hm : σ.ms.length < 64) (hz : 2 * (N + zs.length + 8) ≤ 16777216)
    (h : ∀ H' cs' s' t' tk' ck', EdH a (insSt σ zs) (N + zs.length + 8) R H' cs' s' t' tk' ck' → P .none H') : Cd G (n + 5) (.ref 188) [.ref a.b, .lst (intV zs)] H P X := by
  refine c_insert (i := (σ.pt - 1).toNat) E.buf (by omega) (by rw [List.length_map]; omega) hm (by rw [List.length_map]; exact hz) fun H' cs' s' t' tk' ck' B => h H' cs' s' t' tk' ck' (BufH.ed (σ := σ) ?_ (by simp [insSt]) (by simp only [insSt]; exact regsV_map _ _ _))
  rw [List.length_map] at B
  simp only [insSt, intV, List.map_append, List.map_take, List.map_drop]
  exact B
theorem c_copy {k p p' : Int} {i j : Nat} {del : Bool} (E : EdH a σ N R H cs s t tk ck) (hp : p = i + 1) (hp' : p' = j + 1) (hij : i ≤ j) (hj : j ≤ σ.T.length) (hm : σ.ms.length < 64) (hz : 2 * N ≤ 16777216) (hr : σ.rs.length ≤ 64)
    (h : ∀ H' cs' s' t' tk' ck', EdH a (if del then delSt (setReg σ k (.tx (cut σ.T i j))) i j else setReg σ k (.tx (cut σ.T i j))) N R H' cs' s' t' tk' ck' → P .none H') :
    Cd G (n + 5) (.ref 375) [.ref a.rg, .int k, .ref a.b, .int p, .int p', .bool del] H P X := by
  obtain ⟨q, z, rfl⟩ := E
  refine in_copy_to_register ?_
  refine Es.cons ?_
  refine E1.asgT (ns := ["low", "high"]) rfl (by kernel_rfl) rfl (fun _ => by kernel_rfl) ?_
  refine cGq (g_reached _) ?_
  refine aNq m2 ?_
  refine aNq m3 ?_
  refine aLq m4 ?_
  refine Cl.cd (c_reached m0 (by omega) (by omega) (by omega) ?_)
  refine ⟨_, _, rfl, (.cons (.keep (by kernel_rfl) (.keep (by kernel_rfl) (.keep (by kernel_rfl) (.keep (by kernel_rfl) (.keep (by kernel_rfl) (.keep (by kernel_rfl) .nil)))))) (.cons (.keep (by kernel_rfl) (.keep (by kernel_rfl) (.keep (by kernel_rfl) (.keep (by kernel_rfl) (.keep (by kernel_rfl) (.keep (by kernel_rfl) (.keep (by kernel_rfl) .nil))))))) .nil)), ?_⟩
  refine eXq ?_
  refine cGq (g_put _) ?_
  refine aNq m2 ?_
  refine aNq m3 ?_
  refine Ea.cons (by kernel_rfl) ?_
  with_reducible refine Ev.tup ?_
  refine aSq ?_
  refine Ea.cons (by kernel_rfl) ?_
  with_reducible refine Ev.meth (by kernel_rfl) (by kernel_rfl) (by decide +kernel) (by kernel_rfl) ?_
  refine eNq m4 ?_
  with_reducible refine Mt.i m0 mth_Buffer_codes fun kv => ⟨kv, ?_⟩
  refine aNq m1 ?_
  refine aLq m0 ?_
  refine Cl.cd (c_Buffer_codes q m0 m1 m2 (by omega) hp hp' hij ?_)
  refine Ea.nil ?_
  with_reducible refine len_ok (by kernel_rfl!) ?_
  refine Ea.nil ?_
  refine Cl.cd (c_put m9 (.tail (.tail (.tail (.tail (.tail (.tail (.tail (.tail (.tail (.tail .head)))))))))) (by simp only [regsV, List.length_map]; omega) ?_)
  have e : dset (regsV σ.ms σ.rs) k (.tup [.str "text", .lst (cut (intV σ.T) i j)]) = regsV σ.ms (dset σ.rs k (.tx (cut σ.T i j))) := by
    rw [cut_map]; exact regs_set σ.ms σ.rs k (.tx (cut σ.T i j))
  rw [e]
  have E' : EdH a (setReg σ k (.tx (cut σ.T i j))) N R (EdL a (setReg σ k (.tx (cut σ.T i j))) cs s t tk ck R) cs s t tk ck := ⟨q, z, rfl⟩
  refine eIq ?_
  with_reducible refine Bt.bool (by kernel_rfl) ?_
  refine eNq m7 ?_
  with_reducible refine bt_ok ?_
  refine ite_of (fun hb => ?_) (fun hb => ?_)
  · refine eXq ?_
    refine cGq (g_delete _) ?_
    refine aNq m4 ?_
    refine aNq m1 ?_
    refine aLq m0 ?_
    refine Cl.cd (e_delete E' hp hp' hij hj hm hz fun v H' cs' s' t' tk' ck' E₂ => ?_)
    with_reducible refine Es.nil ?_
    with_reducible refine Es.nil ?_
    refine h H' cs' s' t' tk' ck' ?_
    rw [if_pos hb]; exact E₂
  · with_reducible refine Es.nil ?_
    with_reducible refine Es.nil ?_
    refine h _ cs s t tk ck ?_
    rw [if_neg (by rw [hb]; decide)]; exact E'
end
theorem mk_mem {b : Addr} {ms : List (Addr × Int)} {j : Nat} (R : HH) (h : j < ms.length) : (adr ms j, mkO b (1 + j) (pos ms j)) ∈ R ++ mkH b 1 ms := by
  have e : ms = ms.take j ++ ms[j] :: ms.drop (j + 1) := by rw [← List.drop_eq_getElem_cons h, List.take_append_drop]
  have hl : (ms.take j).length = j := by rw [List.length_take]; omega
  have := (mkH_up (b := b) 1 (ms.take j) ms[j].1 ms[j].2 0 (ms.drop (j + 1)) R).mem
  rw [hl] at this
  have e2 : ms.take j ++ (ms[j].1, ms[j].2) :: ms.drop (j + 1) = ms := e.symm
  rw [e2] at this
  have ea : adr ms j = ms[j].1 := by unfold adr; rw [List.getElem?_eq_getElem h]; rfl
  have ep : pos ms j = ms[j].2 := by unfold pos; rw [List.getElem?_eq_getElem h]; rfl
  rw [ea, ep]
  exact this
noncomputable def codesOf (i : Int) : List Int := (Str.ofString (toString i)).cps.toList.map fun c : Nat => (c : Int)
theorem codesOf_V (i : Int) : (strV (Str.ofString (toString i))).map ordV = intV (codesOf i) := by
  unfold strV codesOf intV
  rw [List.map_map, List.map_map]
  rfl
section
variable {G : Gx} {n : Nat} {H H' R : HH} {X : Str → HH → Prop} {P : V → HH → Prop} {a : Ad} {σ : St} {N : Nat} {cs : List V} {s t : Nat} {tk ck : Int}
theorem c_joined_none {k p p' : Int} {i j : Nat} {del bh : Bool} (E : EdH a σ N R H cs s t tk ck) (hp : p = i + 1) (hp' : p' = j + 1) (hij : i ≤ j) (hj : j ≤ σ.T.length) (hm : σ.ms.length < 64) (hz : 2 * N ≤ 16777216) (hr : σ.rs.length ≤ 64) (hk : dget σ.rs k = none)
    (h : ∀ H' cs' s' t' tk' ck', EdH a (if del then delSt (setReg σ k (.tx (cut σ.T i j))) i j else setReg σ k (.tx (cut σ.T i j))) N R H' cs' s' t' tk' ck' → P .none H') :
    Cd G (n + 5) (.ref 382) [.ref a.rg, .int k, .ref a.b, .int p, .int p', .bool del, .bool bh, .lst []] H P X := by
  obtain ⟨q, z, rfl⟩ := E
  refine in_joined_to_register ?_
  refine Es.cons ?_
  refine E1.asgT (ns := ["low", "high"]) rfl (by kernel_rfl) rfl (fun _ => by kernel_rfl) ?_
  refine cGq (g_reached _) ?_
  refine aNq m2 ?_
  refine aNq m3 ?_
  refine aLq m4 ?_
  refine Cl.cd (c_reached m0 (by omega) (by omega) (by omega) ?_)
  refine ⟨_, _, rfl, (.cons (.keep (by kernel_rfl) (.keep (by kernel_rfl) (.keep (by kernel_rfl) (.keep (by kernel_rfl) (.keep (by kernel_rfl) (.keep (by kernel_rfl) (.keep (by kernel_rfl) (.keep (by kernel_rfl) .nil)))))))) (.cons (.keep (by kernel_rfl) (.keep (by kernel_rfl) (.keep (by kernel_rfl) (.keep (by kernel_rfl) (.keep (by kernel_rfl) (.keep (by kernel_rfl) (.keep (by kernel_rfl) (.keep (by kernel_rfl) (.keep (by kernel_rfl) .nil))))))))) .nil)), ?_⟩
  with_reducible refine Es.cons ?_
  with_reducible refine E1.asgN (.keep (by kernel_rfl) (.keep (by kernel_rfl) (.keep (by kernel_rfl) (.keep (by kernel_rfl) (.keep (by kernel_rfl) (.keep (by kernel_rfl) (.keep (by kernel_rfl) (.keep (by kernel_rfl) (.keep (by kernel_rfl) (.keep (by kernel_rfl) .nil)))))))))) (by kernel_rfl) (by kernel_rfl) ?_
  with_reducible refine Ev.meth (by kernel_rfl) (by kernel_rfl) (by decide +kernel) (by kernel_rfl) ?_
  refine eNq m4 ?_
  with_reducible refine Mt.i m0 mth_Buffer_codes fun kv => ⟨kv, ?_⟩
  refine aNq m1 ?_
  refine aLq m0 ?_
  refine Cl.cd (c_Buffer_codes q m0 m1 m2 (by omega) hp hp' hij ?_)
  with_reducible refine Es.cons ?_
  with_reducible refine E1.asgN (.keep (by kernel_rfl) (.keep (by kernel_rfl) (.keep (by kernel_rfl) (.keep (by kernel_rfl) (.keep (by kernel_rfl) (.keep (by kernel_rfl) (.keep (by kernel_rfl) (.keep (by kernel_rfl) (.keep (by kernel_rfl) (.keep (by kernel_rfl) (.keep (by kernel_rfl) .nil))))))))))) (by kernel_rfl) (by kernel_rfl) ?_
  refine cGq (g_held _) ?_
  refine aNq m3 ?_
  refine aLq m4 ?_
  refine Cl.cd (c_held m9 m10 ?_)
  rw [regs_get, hk]
  simp only [Option.map_none, ogetD]
  refine eIq ?_
  with_reducible refine Bt.and ?_
  refine bMq m0 ?_
  with_reducible refine ite_f' (by kernel_rfl!) ?_
  refine iFq ?_
  refine eIq ?_
  refine bMq m0 ?_
  refine iFq ?_
  refine eXq ?_
  refine cGq (g_put _) ?_
  refine aNq m4 ?_
  refine aNq m5 ?_
  refine Ea.cons (by kernel_rfl) ?_
  with_reducible refine Ev.tup ?_
  refine aSq ?_
  refine aLq m1 ?_
  with_reducible refine len_ok (by kernel_rfl!) ?_
  refine Ea.nil ?_
  refine Cl.cd (c_put m9 (.tail (.tail (.tail (.tail (.tail (.tail (.tail (.tail (.tail (.tail .head)))))))))) (by simp only [regsV, List.length_map]; omega) ?_)
  have e : dset (regsV σ.ms σ.rs) k (.tup [.str "text", .lst (cut (intV σ.T) i j)]) = regsV σ.ms (dset σ.rs k (.tx (cut σ.T i j))) := by
    rw [cut_map]; exact regs_set σ.ms σ.rs k (.tx (cut σ.T i j))
  rw [e]
  have E' : EdH a (setReg σ k (.tx (cut σ.T i j))) N R (EdL a (setReg σ k (.tx (cut σ.T i j))) cs s t tk ck R) cs s t tk ck := ⟨q, z, rfl⟩
  refine eIq ?_
  with_reducible refine Bt.bool (by kernel_rfl) ?_
  refine eNq m9 ?_
  with_reducible refine bt_ok ?_
  refine ite_of (fun hb => ?_) (fun hb => ?_)
  · refine eXq ?_
    refine cGq (g_delete _) ?_
    refine aNq m6 ?_
    refine aNq m3 ?_
    refine aLq m2 ?_
    refine Cl.cd (e_delete E' hp hp' hij hj hm hz fun v H' cs' s' t' tk' ck' E₂ => ?_)
    with_reducible refine Es.nil ?_
    with_reducible refine Es.nil ?_
    refine h H' cs' s' t' tk' ck' ?_
    rw [if_pos hb]; exact E₂
  · with_reducible refine Es.nil ?_
    with_reducible refine Es.nil ?_
    refine h _ cs s t tk ck ?_
    rw [if_neg (by rw [hb]; decide)]; exact E'
theorem c_joined_text {k p p' : Int} {i j : Nat} {del bh : Bool} {own : List Int} (E : EdH a σ N R H cs s t tk ck) (hp : p = i + 1) (hp' : p' = j + 1) (hij : i ≤ j) (hj : j ≤ σ.T.length) (hm : σ.ms.length < 64) (hz : 2 * N ≤ 16777216) (hr : σ.rs.length ≤ 64) (hk : dget σ.rs k = some (.tx own)) (ho : own.length + σ.T.length ≤ 16777216)
    (h : ∀ H' cs' s' t' tk' ck', EdH a (if del then delSt (setReg σ k (.tx (if bh then own ++ cut σ.T i j else cut σ.T i j ++ own))) i j else setReg σ k (.tx (if bh then own ++ cut σ.T i j else cut σ.T i j ++ own))) N R H' cs' s' t' tk' ck' → P .none H') :
    Cd G (n + 5) (.ref 382) [.ref a.rg, .int k, .ref a.b, .int p, .int p', .bool del, .bool bh, .lst []] H P X := by
  obtain ⟨q, z, rfl⟩ := E
  have hcl : (cut σ.T i j).length = j - i := cut_len hj
  refine in_joined_to_register ?_
  refine Es.cons ?_
  refine E1.asgT (ns := ["low", "high"]) rfl (by kernel_rfl) rfl (fun _ => by kernel_rfl) ?_
  refine cGq (g_reached _) ?_
  refine aNq m2 ?_
  refine aNq m3 ?_
  refine aLq m4 ?_
  refine Cl.cd (c_reached m0 (by omega) (by omega) (by omega) ?_)
  refine ⟨_, _, rfl, (.cons (.keep (by kernel_rfl) (.keep (by kernel_rfl) (.keep (by kernel_rfl) (.keep (by kernel_rfl) (.keep (by kernel_rfl) (.keep (by kernel_rfl) (.keep (by kernel_rfl) (.keep (by kernel_rfl) .nil)))))))) (.cons (.keep (by kernel_rfl) (.keep (by kernel_rfl) (.keep (by kernel_rfl) (.keep (by kernel_rfl) (.keep (by kernel_rfl) (.keep (by kernel_rfl) (.keep (by kernel_rfl) (.keep (by kernel_rfl) (.keep (by kernel_rfl) .nil))))))))) .nil)), ?_⟩
  with_reducible refine Es.cons ?_
  with_reducible refine E1.asgN (.keep (by kernel_rfl) (.keep (by kernel_rfl) (.keep (by kernel_rfl) (.keep (by kernel_rfl) (.keep (by kernel_rfl) (.keep (by kernel_rfl) (.keep (by kernel_rfl) (.keep (by kernel_rfl) (.keep (by kernel_rfl) (.keep (by kernel_rfl) .nil)))))))))) (by kernel_rfl) (by kernel_rfl) ?_
  with_reducible refine Ev.meth (by kernel_rfl) (by kernel_rfl) (by decide +kernel) (by kernel_rfl) ?_
  refine eNq m4 ?_
  with_reducible refine Mt.i m0 mth_Buffer_codes fun kv => ⟨kv, ?_⟩
  refine aNq m1 ?_
  refine aLq m0 ?_
  refine Cl.cd (c_Buffer_codes q m0 m1 m2 (by omega) hp hp' hij ?_)
  rw [cut_map]
  with_reducible refine Es.cons ?_
  with_reducible refine E1.asgN (.keep (by kernel_rfl) (.keep (by kernel_rfl) (.keep (by kernel_rfl) (.keep (by kernel_rfl) (.keep (by kernel_rfl) (.keep (by kernel_rfl) (.keep (by kernel_rfl) (.keep (by kernel_rfl) (.keep (by kernel_rfl) (.keep (by kernel_rfl) (.keep (by kernel_rfl) .nil))))))))))) (by kernel_rfl) (by kernel_rfl) ?_
  refine cGq (g_held _) ?_
  refine aNq m3 ?_
  refine aLq m4 ?_
  refine Cl.cd (c_held m9 m10 ?_)
  rw [regs_get, hk]
  simp only [Option.map_some, ogetD, regV]
  refine eIq ?_
  with_reducible refine Bt.and ?_
  refine bMq m0 ?_
  with_reducible refine ite_t' (by kernel_rfl!) ?_
  with_reducible refine Bt.and ?_
  with_reducible refine Bt.cmp (by kernel_rfl) ?_
  refine sTq m0 ?_
  with_reducible refine Ev.cstr ?_
  refine Cm.neS ?_
  with_reducible refine ite_f' (by kernel_rfl!) ?_
  refine iFq ?_
  refine eIq ?_
  refine bMq m0 ?_
  with_reducible refine ite_t' (by kernel_rfl!) ?_
  with_reducible refine Es.cons ?_
  with_reducible refine E1.asgN (.keep (by kernel_rfl) (.keep (by kernel_rfl) (.keep (by kernel_rfl) (.keep (by kernel_rfl) (.keep (by kernel_rfl) (.keep (by kernel_rfl) (.keep (by kernel_rfl) (.keep (by kernel_rfl) (.keep (by kernel_rfl) (.keep (by kernel_rfl) (.keep (by kernel_rfl) (.keep (by kernel_rfl) .nil)))))))))))) (by kernel_rfl) (by kernel_rfl) ?_
  refine sTq m0 ?_
  with_reducible refine Es.cons ?_
  with_reducible refine E1.asgN (.keep (by kernel_rfl) (.keep (by kernel_rfl) (.skip (.keep (by kernel_rfl) (.keep (by kernel_rfl) (.keep (by kernel_rfl) (.keep (by kernel_rfl) (.keep (by kernel_rfl) (.keep (by kernel_rfl) (.keep (by kernel_rfl) (.keep (by kernel_rfl) (.keep (by kernel_rfl) (.keep (by kernel_rfl) .nil))))))))))))) (by kernel_rfl) (by kernel_rfl) ?_
  with_reducible refine Ev.ife ?_
  with_reducible refine Bt.bool (by kernel_rfl) ?_
  refine eNq m11 ?_
  with_reducible refine bt_ok ?_
  have fin : ∀ zs : List Int, zs = (if bh then own ++ cut σ.T i j else cut σ.T i j ++ own) → Es G (n + 4) d_joined_to_register [("codes", .lst (intV zs)), ("registers", .ref a.rg), ("sign", .int k), ("buffer", .ref a.b), ("is_delete", .bool del), ("low", .int p), ("high", .int p')]
      (EdL a σ cs s t tk ck R) (d_joined_to_register.body.drop 5) (fun _ H' => P .none H') P X := by
    intro zs hzs
    refine Es.cons ?_
    with_reducible refine E1.expr (by kernel_rfl) ?_
    refine cGq (g_put _) ?_
    refine aNq m1 ?_
    refine aNq m2 ?_
    refine Ea.cons (by kernel_rfl) ?_
    with_reducible refine Ev.tup ?_
    refine aSq ?_
    refine aLq m0 ?_
    with_reducible refine len_ok (by kernel_rfl!) ?_
    refine Ea.nil ?_
    refine Cl.cd (c_put m9 (.tail (.tail (.tail (.tail (.tail (.tail (.tail (.tail (.tail (.tail .head)))))))))) (by simp only [regsV, List.length_map]; omega) ?_)
    have e : dset (regsV σ.ms σ.rs) k (.tup [.str "text", .lst (intV zs)]) = regsV σ.ms (dset σ.rs k (.tx zs)) := regs_set σ.ms σ.rs k (.tx zs)
    rw [e]
    have E' : EdH a (setReg σ k (.tx zs)) N R (EdL a (setReg σ k (.tx zs)) cs s t tk ck R) cs s t tk ck := ⟨q, z, rfl⟩
    rw [← hzs] at h
    refine eIq ?_
    with_reducible refine Bt.bool (by kernel_rfl) ?_
    refine eNq m4 ?_
    with_reducible refine bt_ok ?_
    refine ite_of (fun hb => ?_) (fun hb => ?_)
    · refine eXq ?_
      refine cGq (g_delete _) ?_
      refine aNq m3 ?_
      refine aNq m5 ?_
      refine aLq m6 ?_
      refine Cl.cd (e_delete E' hp hp' hij hj hm hz fun v H' cs' s' t' tk' ck' E₂ => ?_)
      with_reducible refine Es.nil ?_
      with_reducible refine Es.nil ?_
      refine h H' cs' s' t' tk' ck' ?_
      rw [if_pos hb]; exact E₂
    · with_reducible refine Es.nil ?_
      with_reducible refine Es.nil ?_
      refine h _ cs s t tk ck ?_
      rw [if_neg (by rw [hb]; decide)]; exact E'
  refine ite_of (fun hb => ?_) (fun hb => ?_)
  · with_reducible refine Ev.bin ?_
    with_reducible refine Ev.bin ?_
    refine eNq m0 ?_
    refine eNq m12 ?_
    refine Bn.addL (by simp; omega) (.inl ?_)
    refine eNq m2 ?_
    refine Bn.addL (by simp; omega) (.inl ?_)
    refine Es.nil ?_
    rw [List.append_nil, show intV own ++ intV (cut σ.T i j) = intV (own ++ cut σ.T i j) by simp]
    exact Es.names (al1 m0 (al1 m5 (al1 m6 (al1 m7 (al1 m10 (al1 m4 (al1 m3 al0))))))) (fin _ (by rw [if_pos hb]))
  · with_reducible refine Ev.bin ?_
    with_reducible refine Ev.bin ?_
    refine eNq m2 ?_
    refine eNq m12 ?_
    refine Bn.addL (by simp; omega) (.inl ?_)
    refine eNq m0 ?_
    refine Bn.addL (by simp; omega) (.inl ?_)
    refine Es.nil ?_
    rw [List.append_nil, show intV (cut σ.T i j) ++ intV own = intV (cut σ.T i j ++ own) by simp]
    exact Es.names (al1 m0 (al1 m5 (al1 m6 (al1 m7 (al1 m10 (al1 m4 (al1 m3 al0))))))) (fin _ (by rw [if_neg (by rw [hb]; decide)]))
end
noncomputable def insSt' (σ : St) (zs : List Int) (ahead : Bool) : St := { insSt σ zs with pt := if ahead then σ.pt else σ.pt + zs.length }
section
variable {G : Gx} {n : Nat} {H H' R : HH} {X : Str → HH → Prop} {P : V → HH → Prop} {a : Ad} {σ : St} {N : Nat} {cs : List V} {s t : Nat} {tk ck : Int}
theorem c_joined_other {k p p' : Int} {i j : Nat} {del bh : Bool} {w : Str} {v : V} (E : EdH a σ N R H cs s t tk ck) (hp : p = i + 1) (hp' : p' = j + 1) (hij : i ≤ j) (hj : j ≤ σ.T.length) (hz : 2 * N ≤ 16777216) (hk : dget (regsV σ.ms σ.rs) k = some (.tup [.str w, v])) (hw : (w != ("text" : Str)) = true)
    (h : X "user-error" H) : Cd G (n + 5) (.ref 382) [.ref a.rg, .int k, .ref a.b, .int p, .int p', .bool del, .bool bh, .lst []] H P X := by
  obtain ⟨q, z, rfl⟩ := E
  refine in_joined_to_register ?_
  refine Es.cons ?_
  refine E1.asgT (ns := ["low", "high"]) rfl (by kernel_rfl) rfl (fun _ => by kernel_rfl) ?_
  refine cGq (g_reached _) ?_
  refine aNq m2 ?_
  refine aNq m3 ?_
  refine aLq m4 ?_
  refine Cl.cd (c_reached m0 (by omega) (by omega) (by omega) ?_)
  refine ⟨_, _, rfl, (.cons (.keep (by kernel_rfl) (.keep (by kernel_rfl) (.keep (by kernel_rfl) (.keep (by kernel_rfl) (.keep (by kernel_rfl) (.keep (by kernel_rfl) (.keep (by kernel_rfl) (.keep (by kernel_rfl) .nil)))))))) (.cons (.keep (by kernel_rfl) (.keep (by kernel_rfl) (.keep (by kernel_rfl) (.keep (by kernel_rfl) (.keep (by kernel_rfl) (.keep (by kernel_rfl) (.keep (by kernel_rfl) (.keep (by kernel_rfl) (.keep (by kernel_rfl) .nil))))))))) .nil)), ?_⟩
  with_reducible refine Es.cons ?_
  with_reducible refine E1.asgN (.keep (by kernel_rfl) (.keep (by kernel_rfl) (.keep (by kernel_rfl) (.keep (by kernel_rfl) (.keep (by kernel_rfl) (.keep (by kernel_rfl) (.keep (by kernel_rfl) (.keep (by kernel_rfl) (.keep (by kernel_rfl) (.keep (by kernel_rfl) .nil)))))))))) (by kernel_rfl) (by kernel_rfl) ?_
  with_reducible refine Ev.meth (by kernel_rfl) (by kernel_rfl) (by decide +kernel) (by kernel_rfl) ?_
  refine eNq m4 ?_
  with_reducible refine Mt.i m0 mth_Buffer_codes fun kv => ⟨kv, ?_⟩
  refine aNq m1 ?_
  refine aLq m0 ?_
  refine Cl.cd (c_Buffer_codes q m0 m1 m2 (by omega) hp hp' hij ?_)
  with_reducible refine Es.cons ?_
  with_reducible refine E1.asgN (.keep (by kernel_rfl) (.keep (by kernel_rfl) (.keep (by kernel_rfl) (.keep (by kernel_rfl) (.keep (by kernel_rfl) (.keep (by kernel_rfl) (.keep (by kernel_rfl) (.keep (by kernel_rfl) (.keep (by kernel_rfl) (.keep (by kernel_rfl) (.keep (by kernel_rfl) .nil))))))))))) (by kernel_rfl) (by kernel_rfl) ?_
  refine cGq (g_held _) ?_
  refine aNq m3 ?_
  refine aLq m4 ?_
  refine Cl.cd (c_held m9 m10 ?_)
  rw [hk]
  simp only [ogetD]
  refine eIq ?_
  with_reducible refine Bt.and ?_
  refine bMq m0 ?_
  with_reducible refine ite_t' (by kernel_rfl!) ?_
  with_reducible refine Bt.and ?_
  with_reducible refine Bt.cmp (by kernel_rfl) ?_
  refine sTq m0 ?_
  with_reducible refine Ev.cstr ?_
  refine Cm.neS ?_
  refine ite_t' hw ?_
  with_reducible refine Bt.andN ?_
  with_reducible refine ite_t' (by kernel_rfl!) ?_
  with_reducible refine Es.cons ?_
  with_reducible refine E1.raise ?_
  refine cGq (g_LispSignal _) ?_
  refine aSq ?_
  refine Ea.cons (by kernel_rfl) ?_
  with_reducible refine Ev.lst ?_
  refine aSlq ?_
  with_reducible refine len_ok (by kernel_rfl!) ?_
  refine Or.inl ?_
  refine Ea.nil ?_
  exact c_sig fun a => ⟨a, _, _, _, rfl, .refl _, .tail _ (.head _), h⟩
theorem c_number_codes {i : Int} (hi : i.natAbs.log2 < 1920) (hl : (codesOf i).length ≤ 16777216) (h : P (.lst (intV (codesOf i))) H) : Cd G (n + 1) (.ref 401) [.int i] H P X := by
  refine in_number_codes ?_
  refine Es.cons ?_
  with_reducible refine E1.ret ?_
  refine Ev.comp (strV (Str.ofString (toString i))) ordV (by kernel_rfl) (fun _ _ => rfl) (by simp only [strV, codesOf, List.length_map] at hl ⊢; exact hl) (ElOk.ord (CompOk.of (by kernel_rfl)) (by kernel_rfl) (by kernel_rfl) (b_ord _)) ?_
  refine cTq (b_str _) bb_str ?_
  refine aLq m0 ?_
  refine Cl.strI hi ?_
  rw [codesOf_V]
  exact ⟨ItbW.str, h⟩
theorem c_increment {k i m : Int} {rg dg : Addr} {xs : List (Int × V)} (mr : (rg, regO dg) ∈ H) (md : (dg, .dict xs) ∈ H) (hk : dget xs k = some (.tup [.str "number", .int i])) (U : UpH dg (.dict xs) (.dict (dset xs k (.tup [.str "number", .int (i + m)]))) H H') (hz : xs.length ≤ 16777216) (h : P .none H') : Cd G (n + 4) (.ref 396) [.ref rg, .int k, .int m] H P X := by
  refine in_increment_register ?_
  refine Es.cons ?_
  with_reducible refine E1.expr (by kernel_rfl) ?_
  refine cGq (g_put _) ?_
  refine aNq m0 ?_
  refine aNq m1 ?_
  refine Ea.cons (by kernel_rfl) ?_
  with_reducible refine Ev.tup ?_
  refine aSq ?_
  refine Ea.cons (by kernel_rfl) ?_
  with_reducible refine Ev.bin ?_
  refine cGq (g_need _) ?_
  refine aNq m0 ?_
  refine aNq m1 ?_
  refine aSlq ?_
  refine Cl.cd (c_need_hit mr md hk ?_)
  refine eNq m2 ?_
  refine Bn.add ?_
  refine Ea.nil ?_
  with_reducible refine len_ok (by kernel_rfl!) ?_
  refine Ea.nil ?_
  refine Cl.cd (c_put mr U hz ?_)
  with_reducible refine Es.nil ?_
  exact h
theorem c_increment_none {k m : Int} {rg dg : Addr} {xs : List (Int × V)} (mr : (rg, regO dg) ∈ H) (md : (dg, .dict xs) ∈ H) (hk : dget xs k = none) (h : X "user-error" H) : Cd G (n + 4) (.ref 396) [.ref rg, .int k, .int m] H P X := by
  refine in_increment_register ?_
  refine Es.cons ?_
  with_reducible refine E1.expr (by kernel_rfl) ?_
  refine cGq (g_put _) ?_
  refine aNq m0 ?_
  refine aNq m1 ?_
  refine Ea.cons (by kernel_rfl) ?_
  with_reducible refine Ev.tup ?_
  refine aSq ?_
  refine Ea.cons (by kernel_rfl) ?_
  with_reducible refine Ev.bin ?_
  refine cGq (g_need _) ?_
  refine aNq m0 ?_
  refine aNq m1 ?_
  refine aSlq ?_
  exact Cl.cd (c_need_none mr md hk h)
theorem c_increment_other {k m : Int} {rg dg : Addr} {xs : List (Int × V)} {w : Str} {v : V} (mr : (rg, regO dg) ∈ H) (md : (dg, .dict xs) ∈ H) (hk : dget xs k = some (.tup [.str w, v])) (hw : (w != ("number" : Str)) = true) (h : X "user-error" H) : Cd G (n + 4) (.ref 396) [.ref rg, .int k, .int m] H P X := by
  refine in_increment_register ?_
  refine Es.cons ?_
  with_reducible refine E1.expr (by kernel_rfl) ?_
  refine cGq (g_put _) ?_
  refine aNq m0 ?_
  refine aNq m1 ?_
  refine Ea.cons (by kernel_rfl) ?_
  with_reducible refine Ev.tup ?_
  refine aSq ?_
  refine Ea.cons (by kernel_rfl) ?_
  with_reducible refine Ev.bin ?_
  refine cGq (g_need _) ?_
  refine aNq m0 ?_
  refine aNq m1 ?_
  refine aSlq ?_
  exact Cl.cd (c_need_other mr md hk hw h)
theorem c_insert_register_none {k : Int} {ah : Bool} {rg dg b : Addr} {xs : List (Int × V)} (mr : (rg, regO dg) ∈ H) (md : (dg, .dict xs) ∈ H) (hk : dget xs k = none) (h : X "user-error" H) : Cd G (n + 6) (.ref 408) [.ref rg, .int k, .ref b, .bool ah] H P X := by
  refine in_insert_register ?_
  refine Es.cons ?_
  with_reducible refine E1.asgN (.keep (by kernel_rfl) (.keep (by kernel_rfl) (.keep (by kernel_rfl) (.keep (by kernel_rfl) .nil)))) (by kernel_rfl) (by kernel_rfl) ?_
  refine cGq (g_held _) ?_
  refine aNq m0 ?_
  refine aLq m1 ?_
  refine Cl.cd (c_held mr md ?_)
  rw [hk]
  simp only [ogetD]
  refine eIq ?_
  with_reducible refine Bt.or ?_
  refine bNq m0 ?_
  with_reducible refine ite_t' (by kernel_rfl!) ?_
  with_reducible refine ite_t' (by kernel_rfl!) ?_
  with_reducible refine Es.cons ?_
  with_reducible refine E1.raise ?_
  refine cGq (g_LispSignal _) ?_
  refine aSq ?_
  refine Ea.cons (by kernel_rfl) ?_
  with_reducible refine Ev.lst ?_
  refine aSlq ?_
  with_reducible refine len_ok (by kernel_rfl!) ?_
  refine Or.inl ?_
  refine Ea.nil ?_
  exact c_sig fun a => ⟨a, _, _, _, rfl, .refl _, .tail _ (.head _), h⟩
theorem c_insert_register_point {k : Int} {ah : Bool} {rg dg b : Addr} {xs : List (Int × V)} {v : V} (mr : (rg, regO dg) ∈ H) (md : (dg, .dict xs) ∈ H) (hk : dget xs k = some (.tup [.str "point", v])) (h : X "user-error" H) : Cd G (n + 6) (.ref 408) [.ref rg, .int k, .ref b, .bool ah] H P X := by
  refine in_insert_register ?_
  refine Es.cons ?_
  with_reducible refine E1.asgN (.keep (by kernel_rfl) (.keep (by kernel_rfl) (.keep (by kernel_rfl) (.keep (by kernel_rfl) .nil)))) (by kernel_rfl) (by kernel_rfl) ?_
  refine cGq (g_held _) ?_
  refine aNq m0 ?_
  refine aLq m1 ?_
  refine Cl.cd (c_held mr md ?_)
  rw [hk]
  simp only [ogetD]
  refine eIq ?_
  with_reducible refine Bt.or ?_
  refine bNq m0 ?_
  with_reducible refine ite_f' (by kernel_rfl!) ?_
  with_reducible refine Bt.or ?_
  with_reducible refine Bt.cmp (by kernel_rfl) ?_
  refine sTq m0 ?_
  with_reducible refine Ev.tup ?_
  refine aSq ?_
  refine aSlq ?_
  with_reducible refine len_ok (by kernel_rfl!) ?_
  refine Cm.notInT ["text", "number"] rfl ?_
  with_reducible refine ite_t' (by kernel_rfl!) ?_
  with_reducible refine ite_t' (by kernel_rfl!) ?_
  with_reducible refine Es.cons ?_
  with_reducible refine E1.raise ?_
  refine cGq (g_LispSignal _) ?_
  refine aSq ?_
  refine Ea.cons (by kernel_rfl) ?_
  with_reducible refine Ev.lst ?_
  refine aSlq ?_
  with_reducible refine len_ok (by kernel_rfl!) ?_
  refine Or.inl ?_
  refine Ea.nil ?_
  exact c_sig fun a => ⟨a, _, _, _, rfl, .refl _, .tail _ (.head _), h⟩
theorem c_insert_register_text {k : Int} {ah : Bool} {zs : List Int} (E : EdH a σ N R H cs s t tk ck) (h1 : 1 ≤ σ.pt) (h2 : σ.pt ≤ σ.T.length + 1) (hm : σ.ms.length < 64) (hz : 2 * (N + zs.length + 8) ≤ 16777216) (hk : dget σ.rs k = some (.tx zs))
    (h : ∀ H' cs' s' t' tk' ck', EdH a (insSt' σ zs ah) (N + zs.length + 8) R H' cs' s' t' tk' ck' → P .none H') : Cd G (n + 6) (.ref 408) [.ref a.rg, .int k, .ref a.b, .bool ah] H P X := by
  have E' := E
  obtain ⟨q, z, rfl⟩ := E'
  refine in_insert_register ?_
  refine Es.cons ?_
  with_reducible refine E1.asgN (.keep (by kernel_rfl) (.keep (by kernel_rfl) (.keep (by kernel_rfl) (.keep (by kernel_rfl) .nil)))) (by kernel_rfl) (by kernel_rfl) ?_
  refine cGq (g_held _) ?_
  refine aNq m0 ?_
  refine aLq m1 ?_
  refine Cl.cd (c_held m9 m10 ?_)
  rw [regs_get, hk]
  simp only [Option.map_some, ogetD, regV]
  refine eIq ?_
  with_reducible refine Bt.or ?_
  refine bNq m0 ?_
  with_reducible refine ite_f' (by kernel_rfl!) ?_
  with_reducible refine Bt.or ?_
  with_reducible refine Bt.cmp (by kernel_rfl) ?_
  refine sTq m0 ?_
  with_reducible refine Ev.tup ?_
  refine aSq ?_
  refine aSlq ?_
  with_reducible refine len_ok (by kernel_rfl!) ?_
  refine Cm.notInT ["text", "number"] rfl ?_
  with_reducible refine ite_f' (by kernel_rfl!) ?_
  with_reducible refine Bt.orN ?_
  refine iFq ?_
  refine eAq (.keep (by kernel_rfl) (.keep (by kernel_rfl) (.keep (by kernel_rfl) (.keep (by kernel_rfl) (.keep (by kernel_rfl) .nil))))) ?_
  refine tNq m3 m0 cls_Buffer m10 ?_
  refine eXq ?_
  refine cGq (g_insert _) ?_
  refine aNq m4 ?_
  refine Ea.cons (by kernel_rfl) ?_
  with_reducible refine Ev.ife ?_
  with_reducible refine Bt.cmp (by kernel_rfl) ?_
  refine sTq m1 ?_
  with_reducible refine Ev.cstr ?_
  refine Cm.eqS ?_
  with_reducible refine ite_t' (by kernel_rfl!) ?_
  refine sTq m1 ?_
  refine Ea.nil ?_
  refine Cl.cd (e_insert E h1 h2 hm hz fun H' cs' s' t' tk' ck' E₂ => ?_)
  obtain ⟨q₂, z₂, rfl⟩ := E₂
  refine eIq ?_
  with_reducible refine Bt.bool (by kernel_rfl) ?_
  refine eNq m5 ?_
  with_reducible refine bt_ok ?_
  refine ite_of (fun hb => ?_) (fun hb => ?_)
  · refine eTq ?_
    refine eNq m0 ?_
    refine eNq m4 ?_
    with_reducible refine Sa.od m0 cls_Buffer (by decide +kernel) (by decide +kernel) (.skip (by kernel_rfl) (.skip (by kernel_rfl) (.skip (by kernel_rfl) (.skip (by kernel_rfl) (.skip (by kernel_rfl) (.skip (by kernel_rfl) (.skip (by kernel_rfl) (.skip (by kernel_rfl) (.skip (by kernel_rfl) (.skip (by kernel_rfl) (.hit (.cons (by kernel_rfl) (.cons (by kernel_rfl) (.cons (by kernel_rfl) (.cons (by kernel_rfl) .nil))))))))))))))) .head ?_
    with_reducible refine Es.nil ?_
    with_reducible refine Es.nil ?_
    exact h _ cs' s' t' tk' ck' ⟨q₂, z₂, by simp only [insSt', insSt, if_pos hb]⟩
  · with_reducible refine Es.nil ?_
    with_reducible refine Es.nil ?_
    exact h _ cs' s' t' tk' ck' ⟨q₂, z₂, by simp only [insSt', insSt, hb]; rfl⟩
theorem c_insert_register_number {k i : Int} {ah : Bool} (E : EdH a σ N R H cs s t tk ck) (h1 : 1 ≤ σ.pt) (h2 : σ.pt ≤ σ.T.length + 1) (hm : σ.ms.length < 64) (hz : 2 * (N + (codesOf i).length + 8) ≤ 16777216) (hk : dget σ.rs k = some (.nm i)) (hi : i.natAbs.log2 < 1920)
    (h : ∀ H' cs' s' t' tk' ck', EdH a (insSt' σ (codesOf i) ah) (N + (codesOf i).length + 8) R H' cs' s' t' tk' ck' → P .none H') : Cd G (n + 6) (.ref 408) [.ref a.rg, .int k, .ref a.b, .bool ah] H P X := by
  have E' := E
  obtain ⟨q, z, rfl⟩ := E'
  refine in_insert_register ?_
  refine Es.cons ?_
  with_reducible refine E1.asgN (.keep (by kernel_rfl) (.keep (by kernel_rfl) (.keep (by kernel_rfl) (.keep (by kernel_rfl) .nil)))) (by kernel_rfl) (by kernel_rfl) ?_
  refine cGq (g_held _) ?_
  refine aNq m0 ?_
  refine aLq m1 ?_
  refine Cl.cd (c_held m9 m10 ?_)
  rw [regs_get, hk]
  simp only [Option.map_some, ogetD, regV]
  refine eIq ?_
  with_reducible refine Bt.or ?_
  refine bNq m0 ?_
  with_reducible refine ite_f' (by kernel_rfl!) ?_
  with_reducible refine Bt.or ?_
  with_reducible refine Bt.cmp (by kernel_rfl) ?_
  refine sTq m0 ?_
  with_reducible refine Ev.tup ?_
  refine aSq ?_
  refine aSlq ?_
  with_reducible refine len_ok (by kernel_rfl!) ?_
  refine Cm.notInT ["text", "number"] rfl ?_
  with_reducible refine ite_f' (by kernel_rfl!) ?_
  with_reducible refine Bt.orN ?_
  refine iFq ?_
  refine eAq (.keep (by kernel_rfl) (.keep (by kernel_rfl) (.keep (by kernel_rfl) (.keep (by kernel_rfl) (.keep (by kernel_rfl) .nil))))) ?_
  refine tNq m3 m0 cls_Buffer m10 ?_
  refine eXq ?_
  refine cGq (g_insert _) ?_
  refine aNq m4 ?_
  refine Ea.cons (by kernel_rfl) ?_
  with_reducible refine Ev.ife ?_
  with_reducible refine Bt.cmp (by kernel_rfl) ?_
  refine sTq m1 ?_
  with_reducible refine Ev.cstr ?_
  refine Cm.eqS ?_
  with_reducible refine ite_f' (by kernel_rfl!) ?_
  refine cGq (g_number_codes _) ?_
  refine Ea.cons (by kernel_rfl) ?_
  refine sTq m1 ?_
  refine Ea.nil ?_
  refine Cl.cd (c_number_codes hi (by omega) ?_)
  refine Ea.nil ?_
  refine Cl.cd (e_insert E h1 h2 hm hz fun H' cs' s' t' tk' ck' E₂ => ?_)
  obtain ⟨q₂, z₂, rfl⟩ := E₂
  refine eIq ?_
  with_reducible refine Bt.bool (by kernel_rfl) ?_
  refine eNq m5 ?_
  with_reducible refine bt_ok ?_
  refine ite_of (fun hb => ?_) (fun hb => ?_)
  · refine eTq ?_
    refine eNq m0 ?_
    refine eNq m4 ?_
    with_reducible refine Sa.od m0 cls_Buffer (by decide +kernel) (by decide +kernel) (.skip (by kernel_rfl) (.skip (by kernel_rfl) (.skip (by kernel_rfl) (.skip (by kernel_rfl) (.skip (by kernel_rfl) (.skip (by kernel_rfl) (.skip (by kernel_rfl) (.skip (by kernel_rfl) (.skip (by kernel_rfl) (.skip (by kernel_rfl) (.hit (.cons (by kernel_rfl) (.cons (by kernel_rfl) (.cons (by kernel_rfl) (.cons (by kernel_rfl) .nil))))))))))))))) .head ?_
    with_reducible refine Es.nil ?_
    with_reducible refine Es.nil ?_
    exact h _ cs' s' t' tk' ck' ⟨q₂, z₂, by simp only [insSt', insSt, if_pos hb]⟩
  · with_reducible refine Es.nil ?_
    with_reducible refine Es.nil ?_
    exact h _ cs' s' t' tk' ck' ⟨q₂, z₂, by simp only [insSt', insSt, hb]; rfl⟩
end
theorem perm_last {x : Addr × O} (L M : HH) : (x :: (L ++ M)).Perm (L ++ (M ++ [x])) := by
  rw [← List.append_assoc]
  exact (List.perm_append_singleton x _).symm
theorem rowsV_new (ms : List (Addr × Int)) (x : Addr × Int) : dset (rowsV 1 ms) ((ms.length : Int) + 1) (.ref x.1) = rowsV 1 (ms ++ [x]) := by
  rw [show (ms.length : Int) + 1 = 1 + (ms.length : Int) by omega]; exact rowsV_put 1 ms x
section
variable {G : Gx} {n : Nat} {H H' R : HH} {X : Str → HH → Prop} {P : V → HH → Prop} {a : Ad} {σ : St} {N : Nat} {cs : List V} {s t : Nat} {tk ck : Int}
theorem c_by_number {bt dr od b : Addr} {lm : Int} (m : (bt, tabO dr od lm) ∈ H) (md : (dr, .dict [(1, .ref b)]) ∈ H) (h : P (.ref b) H) : Cd G (n + 1) (.ref 825) [.ref bt, .int 1] H P X := by
  refine in_BufferTable_by_number ?_
  refine Es.cons ?_
  with_reducible refine E1.ret ?_
  with_reducible refine Ev.meth (by kernel_rfl) (by kernel_rfl) (by decide +kernel) (by kernel_rfl) ?_
  refine tNq m0 (by assumption) cls_BufferTable m4 ?_
  with_reducible refine Mt.dget (by assumption) ⟨KeepV.blt _, ?_⟩
  refine aLq m1 ?_
  exact Cl.get1 md h
theorem c_current {e bt rg dr od b : Addr} {lm : Int} (me : (e, edO bt rg) ∈ H) (m : (bt, tabO dr od lm) ∈ H) (md : (dr, .dict [(1, .ref b)]) ∈ H) (h : P (.ref b) H) : Cd G (n + 2) (.ref 952) [.ref e] H P X := by
  refine in_Editor_current ?_
  refine Es.cons ?_
  with_reducible refine E1.ret ?_
  with_reducible refine Ev.meth (by kernel_rfl) (by kernel_rfl) (by decide +kernel) (by kernel_rfl) ?_
  refine tNq m0 (by assumption) cls_Editor m1 ?_
  with_reducible refine Mt.i (by assumption) mth_BufferTable_by_number fun kv => ⟨kv, ?_⟩
  refine Ea.cons (by kernel_rfl) ?_
  with_reducible refine Ev.attr (by kernel_rfl) ?_
  refine tNq m0 (by assumption) cls_Editor m1 ?_
  refine tAq (by assumption) cls_BufferTable m2 ?_
  refine Ea.nil ?_
  exact Cl.cd (c_by_number m md h)
theorem c_new_marker {bt dr od : Addr} {lm : Int} (U : UpH bt (tabO dr od lm) (tabO dr od (lm + 1)) H H') (h : ∀ x, P (.ref x) ((x, .inst 628 4 [("position", .int 0), ("buffer", .none), ("advances", .bool false), ("number", .int (lm + 1))]) :: H')) : Cd G (n + 3) (.ref 896) [.ref bt, .bool false] H P X := by
  have m := U.mem
  have m' : (bt, tabO dr od (lm + 1)) ∈ H' := by
    clear h m
    induction U with
    | head => exact .head _
    | tail _ ih => exact .tail _ ih
  refine in_BufferTable_new_marker ?_
  refine Es.cons ?_
  with_reducible refine E1.asgA (by kernel_rfl) ?_
  with_reducible refine Ev.bin ?_
  refine tNq m0 (by assumption) cls_BufferTable m0 ?_
  with_reducible refine Ev.cint ?_
  refine Bn.add ?_
  refine wOq m0 (by assumption) cls_BufferTable (.hit (.cons (by kernel_rfl) (.cons (by kernel_rfl) (.cons (by kernel_rfl) (.cons (by kernel_rfl) .nil))))) (by assumption) ?_
  refine eRq ?_
  refine cGq (g_Marker _) ?_
  refine Ea.cons (by kernel_rfl) ?_
  refine tNq m0 (by assumption) cls_BufferTable m0 ?_
  refine aLq m1 ?_
  refine Cl.make mak_Marker fun x => c_Marker_init ⟨rfl, ?_⟩
  exact h x
theorem c_set_marker {x b g l mk dm : Addr} {k pt tk ck : Int} {T cs : List V} {s t : Nat} {ms : List (Addr × Int)} (q : GapR T cs s t) (hz : cs.length ≤ 16777216) (hm : ms.length < 64) (h1 : 1 ≤ pt) (h2 : pt ≤ T.length + 1) {zv : Int} (hk : k = (ms.length : Int) + 1)
    (h : P .none ((x, mkO b k pt) :: (mk, mksO dm) :: (dm, .dict (rowsV 1 (ms ++ [(x, pt)]))) :: (b, bufO g mk pt zv tk ck) :: (g, gapO l s t) :: (l, .list cs) :: R)) :
    Cd G (n + 4) (.ref 67) [.ref x, .ref b, .int pt] ((x, .inst 628 4 [("position", .int 0), ("buffer", .none), ("advances", .bool false), ("number", .int k)]) :: (b, bufO g mk pt zv tk ck) :: (g, gapO l s t) :: (l, .list cs) :: (mk, mksO dm) :: (dm, .dict (rowsV 1 ms)) :: R) P X := by
  refine in_set_marker ?_
  refine Es.cons ?_
  with_reducible refine E1.ite ?_
  with_reducible refine Bt.and ?_
  with_reducible refine Bt.cmp (by kernel_rfl) ?_
  refine tNq m0 m0 cls_Marker m1 ?_
  with_reducible refine Ev.cnone ?_
  refine Cm.isNotN ?_
  with_reducible refine ite_f' (by kernel_rfl!) ?_
  refine iFq ?_
  refine eTq ?_
  refine eNq m1 ?_
  refine wOq m0 m0 cls_Marker (.skip (by kernel_rfl) (.hit (.cons (by kernel_rfl) (.cons (by kernel_rfl) .nil)))) .head ?_
  refine eIq ?_
  refine bNq m1 ?_
  with_reducible refine ite_f' (by kernel_rfl!) ?_
  refine eXq ?_
  with_reducible refine Ev.meth (by kernel_rfl) (by kernel_rfl) (by decide +kernel) (by kernel_rfl) ?_
  refine tNq m1 m1 cls_Buffer m11 ?_
  with_reducible refine Mt.i m4 mth_Markers_put fun kv => ⟨kv, ?_⟩
  refine aNq m0 ?_
  refine Ea.cons (by kernel_rfl) ?_
  refine cBq (b_min _) bb_min ?_
  refine Ea.cons (by kernel_rfl) ?_
  refine cBq (b_max _) bb_max ?_
  refine aNq m2 ?_
  refine aIlq ?_
  refine Cl.max ?_
  refine Ea.cons (by kernel_rfl) ?_
  with_reducible refine Ev.bin ?_
  with_reducible refine Ev.meth (by kernel_rfl) (by kernel_rfl) (by decide +kernel) (by kernel_rfl) ?_
  refine eNq m1 ?_
  with_reducible refine Mt.i m1 mth_Buffer_size fun kv => ⟨kv, ?_⟩
  refine Ea.nil ?_
  refine Cl.cd (c_Buffer_size q m1 m2 m3 hz ?_)
  with_reducible refine Ev.cint ?_
  refine Bn.add ?_
  refine Ea.nil ?_
  refine Cl.min ?_
  refine Ea.nil ?_
  rw [show min (max pt 1) ((T.length : Int) + 1) = pt by omega]
  refine Cl.perm (H' := (x, mkO b k 0) :: (mk, mksO dm) :: (dm, _) :: (b, _) :: (g, _) :: (l, _) :: R) (perm_pick .head (perm_pick (.tail (.tail (.tail .head))) (perm_pick (.tail (.tail (.tail .head))) (.refl _)))) (Cl.cd (c_Markers_put (by rw [rowsV_len]; omega) ?_))
  with_reducible refine Es.nil ?_
  with_reducible refine Es.nil ?_
  rw [hk, rowsV_new ms (x, pt), ← hk]
  exact h
theorem c_place_hit {k : Int} {j : Nat} (E : EdH a σ N R H cs s t tk ck) (hk : dget σ.rs k = some (.pt j)) (hj : j < σ.ms.length) (h : P (.ref (adr σ.ms j)) H) : Cd G (n + 3) (.ref 368) [.ref a.rg, .int k] H P X := by
  obtain ⟨q, z, rfl⟩ := E
  have hm := mk_mem (b := a.b) R hj
  refine in_place_of_register ?_
  refine Es.cons ?_
  with_reducible refine E1.asgN (.keep (by kernel_rfl) (.keep (by kernel_rfl) .nil)) (by kernel_rfl) (by kernel_rfl) ?_
  refine cGq (g_held _) ?_
  refine aNq m0 ?_
  refine aLq m1 ?_
  refine Cl.cd (c_held m9 m10 ?_)
  rw [regs_get, hk]
  simp only [Option.map_some, ogetD, regV]
  refine eIq ?_
  with_reducible refine Bt.or ?_
  refine bNq m0 ?_
  with_reducible refine ite_f' (by kernel_rfl!) ?_
  with_reducible refine Bt.or ?_
  with_reducible refine Bt.cmp (by kernel_rfl) ?_
  refine sTq m0 ?_
  with_reducible refine Ev.cstr ?_
  refine Cm.neS ?_
  with_reducible refine ite_f' (by kernel_rfl!) ?_
  with_reducible refine Bt.orN ?_
  refine iFq ?_
  refine eIq ?_
  with_reducible refine Bt.cmp (by kernel_rfl) ?_
  with_reducible refine Ev.attr (by kernel_rfl) ?_
  refine sTq m0 ?_
  with_reducible refine At.i (mt (mt (mt (mt (mt (mt (mt (mt (mt (mt (mt (by assumption)))))))))))) cls_Marker (by decide +kernel) m1 (by kernel_rfl) ?_
  with_reducible refine Ev.cnone ?_
  refine Cm.isN ?_
  refine iFq ?_
  refine eRq ?_
  refine sTq m0 ?_
  exact h
theorem c_place_none {k : Int} {rg dg : Addr} {xs : List (Int × V)} (mr : (rg, regO dg) ∈ H) (md : (dg, .dict xs) ∈ H) (hk : dget xs k = none) (h : X "user-error" H) : Cd G (n + 3) (.ref 368) [.ref rg, .int k] H P X := by
  refine in_place_of_register ?_
  refine Es.cons ?_
  with_reducible refine E1.asgN (.keep (by kernel_rfl) (.keep (by kernel_rfl) .nil)) (by kernel_rfl) (by kernel_rfl) ?_
  refine cGq (g_held _) ?_
  refine aNq m0 ?_
  refine aLq m1 ?_
  refine Cl.cd (c_held mr md ?_)
  rw [hk]
  simp only [ogetD]
  refine eIq ?_
  with_reducible refine Bt.or ?_
  refine bNq m0 ?_
  with_reducible refine ite_t' (by kernel_rfl!) ?_
  with_reducible refine ite_t' (by kernel_rfl!) ?_
  with_reducible refine Es.cons ?_
  with_reducible refine E1.raise ?_
  refine cGq (g_LispSignal _) ?_
  refine aSq ?_
  refine Ea.cons (by kernel_rfl) ?_
  with_reducible refine Ev.lst ?_
  refine aSlq ?_
  with_reducible refine len_ok (by kernel_rfl!) ?_
  refine Or.inl ?_
  refine Ea.nil ?_
  exact c_sig fun a => ⟨a, _, _, _, rfl, .refl _, .tail _ (.head _), h⟩
theorem c_place_other {k : Int} {rg dg : Addr} {xs : List (Int × V)} {w : Str} {v : V} (mr : (rg, regO dg) ∈ H) (md : (dg, .dict xs) ∈ H) (hk : dget xs k = some (.tup [.str w, v])) (hw : (w != ("point" : Str)) = true) (h : X "user-error" H) : Cd G (n + 3) (.ref 368) [.ref rg, .int k] H P X := by
  refine in_place_of_register ?_
  refine Es.cons ?_
  with_reducible refine E1.asgN (.keep (by kernel_rfl) (.keep (by kernel_rfl) .nil)) (by kernel_rfl) (by kernel_rfl) ?_
  refine cGq (g_held _) ?_
  refine aNq m0 ?_
  refine aLq m1 ?_
  refine Cl.cd (c_held mr md ?_)
  rw [hk]
  simp only [ogetD]
  refine eIq ?_
  with_reducible refine Bt.or ?_
  refine bNq m0 ?_
  with_reducible refine ite_f' (by kernel_rfl!) ?_
  with_reducible refine Bt.or ?_
  with_reducible refine Bt.cmp (by kernel_rfl) ?_
  refine sTq m0 ?_
  with_reducible refine Ev.cstr ?_
  refine Cm.neS ?_
  refine ite_t' hw ?_
  with_reducible refine ite_t' (by kernel_rfl!) ?_
  with_reducible refine Es.cons ?_
  with_reducible refine E1.raise ?_
  refine cGq (g_LispSignal _) ?_
  refine aSq ?_
  refine Ea.cons (by kernel_rfl) ?_
  with_reducible refine Ev.lst ?_
  refine aSlq ?_
  with_reducible refine len_ok (by kernel_rfl!) ?_
  refine Or.inl ?_
  refine Ea.nil ?_
  exact c_sig fun a => ⟨a, _, _, _, rfl, .refl _, .tail _ (.head _), h⟩
end
noncomputable def addPt (σ : St) (k : Int) (x : Addr) : St := { σ with ms := σ.ms ++ [(x, σ.pt)], rs := dset σ.rs k (.pt σ.ms.length) }
noncomputable def PtsOk (σ : St) : Prop := ∀ p ∈ σ.rs, ∀ j, p.2 = .pt j → j < σ.ms.length
theorem adr_app {ms : List (Addr × Int)} {y : Addr × Int} {j : Nat} (h : j < ms.length) : adr (ms ++ [y]) j = adr ms j := by
  unfold adr; rw [List.getElem?_append_left h]
theorem adr_new {ms : List (Addr × Int)} {y : Addr × Int} : adr (ms ++ [y]) ms.length = y.1 := by
  unfold adr; simp
theorem regsV_app {ms : List (Addr × Int)} {y : Addr × Int} {rs : List (Int × Rg)} (h : ∀ p ∈ rs, ∀ j, p.2 = .pt j → j < ms.length) : regsV (ms ++ [y]) rs = regsV ms rs := by
  unfold regsV
  refine List.map_congr_left fun p hp => ?_
  obtain ⟨k, r⟩ := p
  cases r with
  | pt j => simp only [regV]; rw [adr_app (h _ hp j rfl)]
  | tx _ => rfl
  | nm _ => rfl
theorem regs_addPt {σ : St} (k : Int) (x : Addr) (h : PtsOk σ) : dset (regsV σ.ms σ.rs) k (.tup [.str "point", .ref x]) = regsV (addPt σ k x).ms (addPt σ k x).rs := by
  have e : V.tup [.str "point", .ref x] = regV (σ.ms ++ [(x, σ.pt)]) (.pt σ.ms.length) := by simp only [regV, adr_new]
  rw [e, ← regsV_app (y := (x, σ.pt)) h, regs_set]
  rfl
section
variable {G : Gx} {n : Nat} {H H' R : HH} {X : Str → HH → Prop} {P : V → HH → Prop} {a : Ad} {σ : St} {N : Nat} {cs : List V} {s t : Nat} {tk ck : Int}
theorem Cd.mono {f : Value} {xs : List V} {P P' : V → HH → Prop} (h : Cd G n f xs H P X) (k : ∀ v H', P v H' → P' v H') : Cd G n f xs H P' X :=
  Cd.mk fun A c s a S vs hvs Q q xp => h.use A c s a S vs hvs Q (fun v x H' c' h' tk hp l m S' r => q v x H' c' h' tk (k _ _ hp) l m S' r) xp
theorem c_do_point {k : Int} (E : EdH a σ N R H cs s t tk ck) (h1 : 1 ≤ σ.pt) (h2 : σ.pt ≤ σ.T.length + 1) (hm : σ.ms.length < 64) (hz : 2 * N ≤ 16777216) (hr : σ.rs.length ≤ 64) (hp : PtsOk σ)
    (h : ∀ x H' cs' s' t' tk' ck', EdH a (addPt σ k x) N R H' cs' s' t' tk' ck' → P .none H') : Cd G (n + 5) (.ref 415) [.ref a.e, .lst [.int k]] H P X := by
  obtain ⟨q, z, rfl⟩ := E
  refine in_do_point_to_register ?_
  refine Es.cons ?_
  with_reducible refine E1.asgN (.keep (by kernel_rfl) (.keep (by kernel_rfl) .nil)) (by kernel_rfl) (by kernel_rfl) ?_
  with_reducible refine Ev.meth (by kernel_rfl) (by kernel_rfl) (by decide +kernel) (by kernel_rfl) ?_
  refine eNq m0 ?_
  with_reducible refine Mt.i m5 mth_Editor_current fun kv => ⟨kv, ?_⟩
  refine Ea.nil ?_
  refine Cl.cd (c_current m5 m6 m7 ?_)
  refine eAq (.keep (by kernel_rfl) (.keep (by kernel_rfl) (.keep (by kernel_rfl) .nil))) ?_
  with_reducible refine Ev.meth (by kernel_rfl) (by kernel_rfl) (by decide +kernel) (by kernel_rfl) ?_
  refine tNq m1 m5 cls_Editor m1 ?_
  with_reducible refine Mt.i m6 mth_BufferTable_new_marker fun kv => ⟨kv, ?_⟩
  refine Ea.cons (by kernel_rfl) ?_
  with_reducible refine Ev.cbool ?_
  refine Ea.nil ?_
  refine Cl.cd (c_new_marker (.tail (.tail (.tail (.tail (.tail (.tail .head)))))) fun x => ?_)
  refine eXq ?_
  refine cGq (g_set_marker _) ?_
  refine aNq m0 ?_
  refine aNq m1 ?_
  refine Ea.cons (by kernel_rfl) ?_
  refine tNq m1 m1 cls_Buffer m10 ?_
  refine Ea.nil ?_
  refine Cl.perm (H' := (x, _) :: (a.b, _) :: (a.g, _) :: (a.l, _) :: (a.mr, _) :: (a.dm, _) :: _) (.refl _) (Cl.cd (c_set_marker q (by omega) hm h1 (by rw [List.length_map]; exact h2) rfl ?_))
  refine eXq ?_
  refine cGq (g_point_to_register _) ?_
  refine Ea.cons (by kernel_rfl) ?_
  refine tNq m2 m6 cls_Editor m0 ?_
  refine Ea.cons (by kernel_rfl) ?_
  refine sLq m3 ?_
  refine aLq m0 ?_
  refine Cl.cd (c_point_to_register m10 (.tail (.tail (.tail (.tail (.tail (.tail (.tail (.tail (.tail (.tail (.tail .head))))))))))) (by simp only [regsV, List.length_map]; omega) ?_)
  refine Es.perm (H' := (a.b, _) :: (a.g, _) :: (a.l, _) :: (a.mr, _) :: (a.dm, _) :: (a.e, _) :: (a.bt, _) :: (a.dr, _) :: (a.od, _) :: (a.rg, _) :: (a.dg, _) :: (x, _) :: (R ++ mkH a.b 1 σ.ms)) (perm_pick (.tail (.tail (.tail .head))) (perm_pick (.tail (.tail (.tail .head))) (perm_pick (.tail (.tail (.tail .head))) (perm_pick (.tail .head) (perm_pick (.tail .head) (perm_pick (.tail .head) (perm_pick (.tail .head) (perm_pick (.tail .head) (perm_pick (.tail .head) (perm_pick (.tail .head) (perm_pick (.tail .head) (.refl _)))))))))))) ?_
  refine Es.perm (H' := EdL a (addPt σ k x) cs s t tk ck R) ?_ ?_
  · have eM : mkH a.b 1 (addPt σ k x).ms = mkH a.b 1 σ.ms ++ [(x, mkO a.b ((σ.ms.length : Int) + 1) σ.pt)] := by
      simp only [addPt]
      rw [mkH_append, mkH, mkH, show (1 : Int) + (σ.ms.length : Int) = (σ.ms.length : Int) + 1 by omega]
    have el : ((addPt σ k x).ms.length : Int) = (σ.ms.length : Int) + 1 := by simp [addPt]
    unfold EdL
    rw [eM, el, ← regs_addPt k x hp]
    exact .cons _ (.cons _ (.cons _ (.cons _ (.cons _ (.cons _ (.cons _ (.cons _ (.cons _ (.cons _ (.cons _ (perm_last R _)))))))))))
  with_reducible refine Es.nil ?_
  exact h x _ cs s t tk ck ⟨q, z, rfl⟩
theorem c_do_jump {k : Int} {j : Nat} (E : EdH a σ N R H cs s t tk ck) (hk : dget σ.rs k = some (.pt j)) (hj : j < σ.ms.length) (h1 : 1 ≤ pos σ.ms j) (h2 : pos σ.ms j ≤ σ.T.length + 1)
    (h : ∀ H' cs' s' t' tk' ck', EdH a { σ with pt := pos σ.ms j } N R H' cs' s' t' tk' ck' → P .none H') : Cd G (n + 4) (.ref 422) [.ref a.e, .lst [.int k]] H P X := by
  have E' := E
  obtain ⟨q, z, rfl⟩ := E'
  have hm := mk_mem (b := a.b) R hj
  refine in_do_jump_to_register ?_
  refine Es.cons ?_
  with_reducible refine E1.asgN (.keep (by kernel_rfl) (.keep (by kernel_rfl) .nil)) (by kernel_rfl) (by kernel_rfl) ?_
  refine cGq (g_place_of_register _) ?_
  refine Ea.cons (by kernel_rfl) ?_
  refine tNq m0 m5 cls_Editor m0 ?_
  refine Ea.cons (by kernel_rfl) ?_
  refine sLq m1 ?_
  refine Ea.nil ?_
  refine Cl.cd (c_place_hit E hk hj ?_)
  refine eTq ?_
  with_reducible refine Ev.attr (by kernel_rfl) ?_
  with_reducible refine Ev.attr (by kernel_rfl) ?_
  refine eNq m0 ?_
  with_reducible refine At.i (mt (mt (mt (mt (mt (mt (mt (mt (mt (mt (mt (by assumption)))))))))))) cls_Marker (by decide +kernel) m1 (by kernel_rfl) ?_
  refine tAq m0 cls_Buffer m14 ?_
  refine tNq m1 m5 cls_Editor m1 ?_
  with_reducible refine Sa.od m6 cls_BufferTable (by decide +kernel) (by decide +kernel) (.skip (by kernel_rfl) (.skip (by kernel_rfl) (.hit (.cons (by kernel_rfl) (.cons (by kernel_rfl) .nil))))) (.tail (.tail (.tail (.tail (.tail (.tail .head)))))) ?_
  refine eXq ?_
  with_reducible refine Ev.meth (by kernel_rfl) (by kernel_rfl) (by decide +kernel) (by kernel_rfl) ?_
  with_reducible refine Ev.attr (by kernel_rfl) ?_
  refine eNq m0 ?_
  with_reducible refine At.i (mt (mt (mt (mt (mt (mt (mt (mt (mt (mt (mt (by assumption)))))))))))) cls_Marker (by decide +kernel) m1 (by kernel_rfl) ?_
  with_reducible refine Mt.i m0 mth_Buffer_goto fun kv => ⟨kv, ?_⟩
  refine Ea.cons (by kernel_rfl) ?_
  with_reducible refine Ev.attr (by kernel_rfl) ?_
  refine eNq m0 ?_
  with_reducible refine At.i (mt (mt (mt (mt (mt (mt (mt (mt (mt (mt (mt (by assumption)))))))))))) cls_Marker (by decide +kernel) m0 (by kernel_rfl) ?_
  refine Ea.nil ?_
  refine Cl.cd (c_Buffer_goto h1 h2 ?_)
  with_reducible refine Es.nil ?_
  exact h _ cs s t tk ck ⟨q, z, rfl⟩
theorem c_do_jump_none {k : Int} (E : EdH a σ N R H cs s t tk ck) (hk : dget σ.rs k = none) (h : X "user-error" H) : Cd G (n + 4) (.ref 422) [.ref a.e, .lst [.int k]] H P X := by
  obtain ⟨q, z, rfl⟩ := E
  refine in_do_jump_to_register ?_
  refine Es.cons ?_
  with_reducible refine E1.asgN (.keep (by kernel_rfl) (.keep (by kernel_rfl) .nil)) (by kernel_rfl) (by kernel_rfl) ?_
  refine cGq (g_place_of_register _) ?_
  refine Ea.cons (by kernel_rfl) ?_
  refine tNq m0 m5 cls_Editor m0 ?_
  refine Ea.cons (by kernel_rfl) ?_
  refine sLq m1 ?_
  refine Ea.nil ?_
  exact Cl.cd (c_place_none m9 m10 (by rw [regs_get, hk]; rfl) h)
theorem c_do_jump_other {k : Int} {w : Str} {v : V} (E : EdH a σ N R H cs s t tk ck) (hk : dget (regsV σ.ms σ.rs) k = some (.tup [.str w, v])) (hw : (w != ("point" : Str)) = true) (h : X "user-error" H) : Cd G (n + 4) (.ref 422) [.ref a.e, .lst [.int k]] H P X := by
  obtain ⟨q, z, rfl⟩ := E
  refine in_do_jump_to_register ?_
  refine Es.cons ?_
  with_reducible refine E1.asgN (.keep (by kernel_rfl) (.keep (by kernel_rfl) .nil)) (by kernel_rfl) (by kernel_rfl) ?_
  refine cGq (g_place_of_register _) ?_
  refine Ea.cons (by kernel_rfl) ?_
  refine tNq m0 m5 cls_Editor m0 ?_
  refine Ea.cons (by kernel_rfl) ?_
  refine sLq m1 ?_
  refine Ea.nil ?_
  exact Cl.cd (c_place_other m9 m10 hk hw h)
theorem c_do_copy {k p p' : Int} {i j : Nat} {w : V} (E : EdH a σ N R H cs s t tk ck) (hp : p = i + 1) (hp' : p' = j + 1) (hij : i ≤ j) (hj : j ≤ σ.T.length) (hm : σ.ms.length < 64) (hz : 2 * N ≤ 16777216) (hr : σ.rs.length ≤ 64)
    (h : ∀ H' cs' s' t' tk' ck', EdH a (if (!w.isNone) = true then delSt (setReg σ k (.tx (cut σ.T i j))) i j else setReg σ k (.tx (cut σ.T i j))) N R H' cs' s' t' tk' ck' → P .none H') :
    Cd G (n + 6) (.ref 429) [.ref a.e, .lst [.int k, .int p, .int p', w]] H P X := by
  have E' := E
  obtain ⟨q, z, rfl⟩ := E'
  refine in_do_copy_to_register ?_
  refine Es.cons ?_
  with_reducible refine E1.expr (by kernel_rfl) ?_
  refine cGq (g_copy_to_register _) ?_
  refine Ea.cons (by kernel_rfl) ?_
  refine tNq m0 m5 cls_Editor m0 ?_
  refine Ea.cons (by kernel_rfl) ?_
  refine sLq m1 ?_
  refine Ea.cons (by kernel_rfl) ?_
  with_reducible refine Ev.meth (by kernel_rfl) (by kernel_rfl) (by decide +kernel) (by kernel_rfl) ?_
  refine eNq m0 ?_
  with_reducible refine Mt.i m5 mth_Editor_current fun kv => ⟨kv, ?_⟩
  refine Ea.nil ?_
  refine Cl.cd (c_current m5 m6 m7 ?_)
  refine Ea.cons (by kernel_rfl) ?_
  refine sLq m1 ?_
  refine Ea.cons (by kernel_rfl) ?_
  refine sLq m1 ?_
  refine Ea.cons (by kernel_rfl) ?_
  with_reducible refine Ev.cmp (by kernel_rfl) ?_
  refine sLq m1 ?_
  with_reducible refine Ev.cnone ?_
  refine Cm.isNotN ?_
  refine Ea.nil ?_
  refine Cl.cd (c_copy E hp hp' hij hj hm hz hr fun H' cs' s' t' tk' ck' E₂ => ?_)
  with_reducible refine Es.nil ?_
  exact h H' cs' s' t' tk' ck' E₂
theorem c_do_append {k p p' : Int} {w : V} (E : EdH a σ N R H cs s t tk ck) (hc : Cd G (n + 5) (.ref 382) [.ref a.rg, .int k, .ref a.b, .int p, .int p', .bool (!w.isNone), .bool true, .lst []] H (fun _ H' => P .none H') X) :
    Cd G (n + 6) (.ref 436) [.ref a.e, .lst [.int k, .int p, .int p', w]] H P X := by
  obtain ⟨q, z, rfl⟩ := E
  refine in_do_append_to_register ?_
  refine Es.cons ?_
  with_reducible refine E1.asgN (.keep (by kernel_rfl) (.keep (by kernel_rfl) .nil)) (by kernel_rfl) (by kernel_rfl) ?_
  with_reducible refine Ev.meth (by kernel_rfl) (by kernel_rfl) (by decide +kernel) (by kernel_rfl) ?_
  refine eNq m0 ?_
  with_reducible refine Mt.i m5 mth_Editor_current fun kv => ⟨kv, ?_⟩
  refine Ea.nil ?_
  refine Cl.cd (c_current m5 m6 m7 ?_)
  refine eXq ?_
  refine cGq (g_joined_to_register _) ?_
  refine Ea.cons (by kernel_rfl) ?_
  refine tNq m1 m5 cls_Editor m0 ?_
  refine Ea.cons (by kernel_rfl) ?_
  refine sLq m2 ?_
  refine aNq m0 ?_
  refine Ea.cons (by kernel_rfl) ?_
  refine sLq m2 ?_
  refine Ea.cons (by kernel_rfl) ?_
  refine sLq m2 ?_
  refine Ea.cons (by kernel_rfl) ?_
  with_reducible refine Ev.cmp (by kernel_rfl) ?_
  refine sLq m2 ?_
  with_reducible refine Ev.cnone ?_
  refine Cm.isNotN ?_
  refine Ea.cons (by kernel_rfl) ?_
  with_reducible refine Ev.cbool ?_
  refine Ea.cons (by kernel_rfl) ?_
  with_reducible refine Ev.lst ?_
  refine Ea.nil ?_
  with_reducible refine len_ok (by kernel_rfl!) ?_
  refine Or.inl ?_
  refine Ea.nil ?_
  refine Cl.cd (Cd.mono hc fun v H' hp => ?_)
  with_reducible refine Es.nil ?_
  exact hp
theorem c_do_prepend {k p p' : Int} {w : V} (E : EdH a σ N R H cs s t tk ck) (hc : Cd G (n + 5) (.ref 382) [.ref a.rg, .int k, .ref a.b, .int p, .int p', .bool (!w.isNone), .bool false, .lst []] H (fun _ H' => P .none H') X) :
    Cd G (n + 6) (.ref 443) [.ref a.e, .lst [.int k, .int p, .int p', w]] H P X := by
  obtain ⟨q, z, rfl⟩ := E
  refine in_do_prepend_to_register ?_
  refine Es.cons ?_
  with_reducible refine E1.asgN (.keep (by kernel_rfl) (.keep (by kernel_rfl) .nil)) (by kernel_rfl) (by kernel_rfl) ?_
  with_reducible refine Ev.meth (by kernel_rfl) (by kernel_rfl) (by decide +kernel) (by kernel_rfl) ?_
  refine eNq m0 ?_
  with_reducible refine Mt.i m5 mth_Editor_current fun kv => ⟨kv, ?_⟩
  refine Ea.nil ?_
  refine Cl.cd (c_current m5 m6 m7 ?_)
  refine eXq ?_
  refine cGq (g_joined_to_register _) ?_
  refine Ea.cons (by kernel_rfl) ?_
  refine tNq m1 m5 cls_Editor m0 ?_
  refine Ea.cons (by kernel_rfl) ?_
  refine sLq m2 ?_
  refine aNq m0 ?_
  refine Ea.cons (by kernel_rfl) ?_
  refine sLq m2 ?_
  refine Ea.cons (by kernel_rfl) ?_
  refine sLq m2 ?_
  refine Ea.cons (by kernel_rfl) ?_
  with_reducible refine Ev.cmp (by kernel_rfl) ?_
  refine sLq m2 ?_
  with_reducible refine Ev.cnone ?_
  refine Cm.isNotN ?_
  refine Ea.cons (by kernel_rfl) ?_
  with_reducible refine Ev.cbool ?_
  refine Ea.cons (by kernel_rfl) ?_
  with_reducible refine Ev.lst ?_
  refine Ea.nil ?_
  with_reducible refine len_ok (by kernel_rfl!) ?_
  refine Or.inl ?_
  refine Ea.nil ?_
  refine Cl.cd (Cd.mono hc fun v H' hp => ?_)
  with_reducible refine Es.nil ?_
  exact hp
theorem c_do_insert {k : Int} {w : V} (E : EdH a σ N R H cs s t tk ck) (ho : ∀ r, dget σ.rs k = some r → ∃ x v, regV σ.ms r = .tup [.str x, v] ∧ (x == ("rectangle" : Str)) = false) (hc : Cd G (n + 6) (.ref 408) [.ref a.rg, .int k, .ref a.b, .bool w.isNone] H (fun _ H' => P .none H') X) :
    Cd G (n + 7) (.ref 450) [.ref a.e, .lst [.int k, w]] H P X := by
  obtain ⟨q, z, rfl⟩ := E
  refine in_do_insert_register ?_
  refine Es.cons ?_
  with_reducible refine E1.asgN (.keep (by kernel_rfl) (.keep (by kernel_rfl) .nil)) (by kernel_rfl) (by kernel_rfl) ?_
  refine cGq (g_held _) ?_
  refine Ea.cons (by kernel_rfl) ?_
  refine tNq m0 m5 cls_Editor m0 ?_
  refine Ea.cons (by kernel_rfl) ?_
  refine sLq m1 ?_
  refine Ea.nil ?_
  refine Cl.cd (c_held m9 m10 ?_)
  rw [regs_get]
  cases hd : dget σ.rs k with
  | none =>
    simp only [Option.map_none, ogetD]
    refine eIq ?_
    with_reducible refine Bt.and ?_
    refine bMq m0 ?_
    with_reducible refine ite_f' (by kernel_rfl!) ?_
    with_reducible refine ite_f' (by kernel_rfl!) ?_
    refine eXq ?_
    refine cGq (g_insert_register _) ?_
    refine Ea.cons (by kernel_rfl) ?_
    refine tNq m1 m5 cls_Editor m0 ?_
    refine Ea.cons (by kernel_rfl) ?_
    refine sLq m2 ?_
    refine Ea.cons (by kernel_rfl) ?_
    with_reducible refine Ev.meth (by kernel_rfl) (by kernel_rfl) (by decide +kernel) (by kernel_rfl) ?_
    refine eNq m1 ?_
    with_reducible refine Mt.i m5 mth_Editor_current fun kv => ⟨kv, ?_⟩
    refine Ea.nil ?_
    refine Cl.cd (c_current m5 m6 m7 ?_)
    refine Ea.cons (by kernel_rfl) ?_
    with_reducible refine Ev.cmp (by kernel_rfl) ?_
    refine sLq m2 ?_
    with_reducible refine Ev.cnone ?_
    refine Cm.isN ?_
    refine Ea.nil ?_
    refine Cl.cd (Cd.mono hc fun v H' hp => ?_)
    with_reducible refine Es.nil ?_
    with_reducible refine Es.nil ?_
    exact hp
  | some r =>
    obtain ⟨x, v, e, hx⟩ := ho r hd
    simp only [Option.map_some, ogetD, e]
    refine eIq ?_
    with_reducible refine Bt.and ?_
    refine bMq m0 ?_
    with_reducible refine ite_t' (by kernel_rfl!) ?_
    with_reducible refine Bt.and ?_
    with_reducible refine Bt.cmp (by kernel_rfl) ?_
    refine sTq m0 ?_
    with_reducible refine Ev.cstr ?_
    refine Cm.eqS ?_
    refine ite_f' hx ?_
    with_reducible refine ite_f' (by kernel_rfl!) ?_
    refine eXq ?_
    refine cGq (g_insert_register _) ?_
    refine Ea.cons (by kernel_rfl) ?_
    refine tNq m1 m5 cls_Editor m0 ?_
    refine Ea.cons (by kernel_rfl) ?_
    refine sLq m2 ?_
    refine Ea.cons (by kernel_rfl) ?_
    with_reducible refine Ev.meth (by kernel_rfl) (by kernel_rfl) (by decide +kernel) (by kernel_rfl) ?_
    refine eNq m1 ?_
    with_reducible refine Mt.i m5 mth_Editor_current fun kv => ⟨kv, ?_⟩
    refine Ea.nil ?_
    refine Cl.cd (c_current m5 m6 m7 ?_)
    refine Ea.cons (by kernel_rfl) ?_
    with_reducible refine Ev.cmp (by kernel_rfl) ?_
    refine sLq m2 ?_
    with_reducible refine Ev.cnone ?_
    refine Cm.isN ?_
    refine Ea.nil ?_
    refine Cl.cd (Cd.mono hc fun v H' hp => ?_)
    with_reducible refine Es.nil ?_
    with_reducible refine Es.nil ?_
    exact hp
theorem c_do_number_none {k : Int} (E : EdH a σ N R H cs s t tk ck) (hr : σ.rs.length ≤ 64) (h : ∀ H' cs' s' t' tk' ck', EdH a (setReg σ k (.nm 0)) N R H' cs' s' t' tk' ck' → P .none H') :
    Cd G (n + 3) (.ref 457) [.ref a.e, .lst [.none, .int k]] H P X := by
  obtain ⟨q, z, rfl⟩ := E
  refine in_do_number_to_register ?_
  refine Es.cons ?_
  with_reducible refine E1.expr (by kernel_rfl) ?_
  refine cGq (g_number_to_register _) ?_
  refine Ea.cons (by kernel_rfl) ?_
  refine tNq m0 m5 cls_Editor m0 ?_
  refine Ea.cons (by kernel_rfl) ?_
  refine sLq m1 ?_
  refine Ea.cons (by kernel_rfl) ?_
  with_reducible refine Ev.ife ?_
  with_reducible refine Bt.cmp (by kernel_rfl) ?_
  refine sLq m1 ?_
  with_reducible refine Ev.cnone ?_
  refine Cm.isN ?_
  with_reducible refine ite_t' (by kernel_rfl!) ?_
  with_reducible refine Ev.cint ?_
  refine Ea.nil ?_
  refine Cl.cd (c_number_to_register m9 (.tail (.tail (.tail (.tail (.tail (.tail (.tail (.tail (.tail (.tail .head)))))))))) (by simp only [regsV, List.length_map]; omega) ?_)
  have e : dset (regsV σ.ms σ.rs) k (.tup [.str "number", .int 0]) = regsV σ.ms (dset σ.rs k (.nm 0)) := regs_set σ.ms σ.rs k (.nm 0)
  rw [e]
  with_reducible refine Es.nil ?_
  exact h _ cs s t tk ck ⟨q, z, rfl⟩
theorem c_do_number_int {k i : Int} (E : EdH a σ N R H cs s t tk ck) (hr : σ.rs.length ≤ 64) (h : ∀ H' cs' s' t' tk' ck', EdH a (setReg σ k (.nm i)) N R H' cs' s' t' tk' ck' → P .none H') :
    Cd G (n + 3) (.ref 457) [.ref a.e, .lst [.int i, .int k]] H P X := by
  obtain ⟨q, z, rfl⟩ := E
  refine in_do_number_to_register ?_
  refine Es.cons ?_
  with_reducible refine E1.expr (by kernel_rfl) ?_
  refine cGq (g_number_to_register _) ?_
  refine Ea.cons (by kernel_rfl) ?_
  refine tNq m0 m5 cls_Editor m0 ?_
  refine Ea.cons (by kernel_rfl) ?_
  refine sLq m1 ?_
  refine Ea.cons (by kernel_rfl) ?_
  with_reducible refine Ev.ife ?_
  with_reducible refine Bt.cmp (by kernel_rfl) ?_
  refine sLq m1 ?_
  with_reducible refine Ev.cnone ?_
  refine Cm.isN ?_
  with_reducible refine ite_f' (by kernel_rfl!) ?_
  refine cGq (g_numeric _) ?_
  refine Ea.cons (by kernel_rfl) ?_
  refine sLq m1 ?_
  refine Ea.nil ?_
  refine Cl.cd (c_numeric ?_)
  refine Ea.nil ?_
  refine Cl.cd (c_number_to_register m9 (.tail (.tail (.tail (.tail (.tail (.tail (.tail (.tail (.tail (.tail .head)))))))))) (by simp only [regsV, List.length_map]; omega) ?_)
  have e : dset (regsV σ.ms σ.rs) k (.tup [.str "number", .int i]) = regsV σ.ms (dset σ.rs k (.nm i)) := regs_set σ.ms σ.rs k (.nm i)
  rw [e]
  with_reducible refine Es.nil ?_
  exact h _ cs s t tk ck ⟨q, z, rfl⟩
theorem c_do_more {k m i : Int} (E : EdH a σ N R H cs s t tk ck) (hr : σ.rs.length ≤ 64) (hk : dget σ.rs k = some (.nm i)) (h : ∀ H' cs' s' t' tk' ck', EdH a (setReg σ k (.nm (i + m))) N R H' cs' s' t' tk' ck' → P .none H') :
    Cd G (n + 5) (.ref 464) [.ref a.e, .lst [.int m, .int k]] H P X := by
  obtain ⟨q, z, rfl⟩ := E
  refine in_do_increment_register ?_
  refine Es.cons ?_
  with_reducible refine E1.expr (by kernel_rfl) ?_
  refine cGq (g_increment_register _) ?_
  refine Ea.cons (by kernel_rfl) ?_
  refine tNq m0 m5 cls_Editor m0 ?_
  refine Ea.cons (by kernel_rfl) ?_
  refine sLq m1 ?_
  refine Ea.cons (by kernel_rfl) ?_
  refine sLq m1 ?_
  refine Ea.nil ?_
  refine Cl.cd (c_increment m9 m10 (by rw [regs_get, hk]; rfl) (.tail (.tail (.tail (.tail (.tail (.tail (.tail (.tail (.tail (.tail .head)))))))))) (by simp only [regsV, List.length_map]; omega) ?_)
  have e : dset (regsV σ.ms σ.rs) k (.tup [.str "number", .int (i + m)]) = regsV σ.ms (dset σ.rs k (.nm (i + m))) := regs_set σ.ms σ.rs k (.nm (i + m))
  rw [e]
  with_reducible refine Es.nil ?_
  exact h _ cs s t tk ck ⟨q, z, rfl⟩
theorem c_do_more_none {k m : Int} (E : EdH a σ N R H cs s t tk ck) (hk : dget σ.rs k = none) (h : X "user-error" H) : Cd G (n + 5) (.ref 464) [.ref a.e, .lst [.int m, .int k]] H P X := by
  obtain ⟨q, z, rfl⟩ := E
  refine in_do_increment_register ?_
  refine Es.cons ?_
  with_reducible refine E1.expr (by kernel_rfl) ?_
  refine cGq (g_increment_register _) ?_
  refine Ea.cons (by kernel_rfl) ?_
  refine tNq m0 m5 cls_Editor m0 ?_
  refine Ea.cons (by kernel_rfl) ?_
  refine sLq m1 ?_
  refine Ea.cons (by kernel_rfl) ?_
  refine sLq m1 ?_
  refine Ea.nil ?_
  exact Cl.cd (c_increment_none m9 m10 (by rw [regs_get, hk]; rfl) h)
theorem c_do_more_other {k m : Int} {w : Str} {v : V} (E : EdH a σ N R H cs s t tk ck) (hk : dget (regsV σ.ms σ.rs) k = some (.tup [.str w, v])) (hw : (w != ("number" : Str)) = true) (h : X "user-error" H) : Cd G (n + 5) (.ref 464) [.ref a.e, .lst [.int m, .int k]] H P X := by
  obtain ⟨q, z, rfl⟩ := E
  refine in_do_increment_register ?_
  refine Es.cons ?_
  with_reducible refine E1.expr (by kernel_rfl) ?_
  refine cGq (g_increment_register _) ?_
  refine Ea.cons (by kernel_rfl) ?_
  refine tNq m0 m5 cls_Editor m0 ?_
  refine Ea.cons (by kernel_rfl) ?_
  refine sLq m1 ?_
  refine Ea.cons (by kernel_rfl) ?_
  refine sLq m1 ?_
  refine Ea.nil ?_
  exact Cl.cd (c_increment_other m9 m10 hk hw h)
end
theorem mulOk {i j : Int} (h0 : -100000 ≤ i) (h1 : i ≤ 100000) : IntMulOk i j := by
  refine IntMulOk.of_left (PySem.intBits_le_iff.mpr ?_)
  have : (100000 : Nat) < 2 ^ 64 := by decide
  omega
inductive Kp where
  | pt (p : Int)
  | tx (cs : List Int)
  | nm (i : Int)
noncomputable def keV : Kp → V
  | .pt p => .tup [.str "point", .int p]
  | .tx cs => .tup [.str "text", .lst (intV cs)]
  | .nm i => .tup [.str "number", .int i]
noncomputable def keptV (ks : List (Int × Kp)) : List (Int × V) := ks.map fun p => (p.1, keV p.2)
noncomputable def stV (T : List Int) (pt : Int) (ks : List (Int × Kp)) : V := .tup [.lst (intV T), .int pt, .dct (keptV ks)]
theorem kept_get (ks : List (Int × Kp)) (k : Int) : dget (keptV ks) k = (dget ks k).map keV := dget_map _ k ks
theorem kept_set (ks : List (Int × Kp)) (k : Int) (r : Kp) : dset (keptV ks) k (keV r) = keptV (dset ks k r) := dset_map _ k r ks
section
variable {G : Gx} {n : Nat} {H H' R : HH} {X : Str → HH → Prop} {P : V → HH → Prop}
/-- a dict of ours, from here on not changed: its name bears what it holds -/
theorem Es.frz {d : FD} {loc loc' : Locs} {dd : Addr} {xs : List (Int × V)} {ts : List Stmt} {Pn : Locs → HH → Prop} {Pr : V → HH → Prop} (p : H.Perm ((dd, .dict xs) :: H')) (hl : ∀ q ∈ loc', q ∈ loc ∨ (q.2 = .dct xs ∧ (q.1, V.ref dd) ∈ loc)) (h : Es G n d loc' H' ts Pn Pr X) : Es G n d loc H ts Pn Pr X :=
  Es.mk fun A c s he a S r Q E q xp => by
    obtain ⟨c₂, l₂, m₂, z₂, S₂⟩ := S.perm p
    obtain ⟨c₃, l₃, m₃, rv₃, S₃⟩ := S₂.frzD
    have l := l₂.trans l₃
    rw [← l.env]
    refine h.use A c₃ s (l.envd he) (a.le l) S₃ (fun x hx => ?_) Q E (q.le l s.heap s.toks) (xp.le l s.heap s.toks)
    rcases hl x hx with hx | ⟨e, hx⟩
    · exact l.rl (m₃.trans m₂) r x hx
    · obtain ⟨v, ev, rv⟩ := r _ hx
      obtain rfl := rv.ref_inv
      rw [e, m₃, m₂]
      exact ⟨_, ev, rv₃⟩
theorem c_draw {dk : Addr} {xs : List Int} {j many : Int} (hj : 0 ≤ j) (hj2 : j ≤ 1000) (hm : 0 < many) (hx : xs.length ≤ 63) (U : UpH dk (.list [.lst (intV xs), .int j]) (.list [.lst (intV xs), .int (j + 1)]) H H') (h : ∀ r, 0 ≤ r → r < many → P (.int r) H') : Cd G (n + 1) (.ref 1092) [.ref dk, .int many] H P X := by
  have m := U.mem
  have m' : (dk, .list [.lst (intV xs), .int (j + 1)]) ∈ H' := by
    clear h m
    induction U with
    | head => exact .head _
    | tail _ ih => exact .tail _ ih
  have hlen : (intV xs).length ≤ 16777216 := by rw [List.length_map]; omega
  have hin : ∀ z : Int, P (.int (z.fmod many)) H' := fun z => h _ (Int.fmod_nonneg_of_pos _ hm) (Int.fmod_lt_of_pos _ hm)
  refine in__law_draw ?_
  refine Es.cons ?_
  with_reducible refine E1.asgS (by kernel_rfl) ?_
  with_reducible refine Ev.bin ?_
  with_reducible refine Ev.sub ?_
  refine eNq m0 ?_
  with_reducible refine Ev.cint ?_
  refine Sb.list (by assumption) (by decide) (by decide) (by rfl) ?_
  with_reducible refine Ev.cint ?_
  refine Bn.add ?_
  refine eNq m0 ?_
  with_reducible refine Ev.cint ?_
  refine Stt.list (xs := [.lst (intV xs), .int j]) U (by decide) (by decide) (by show (1 : Int) < 2; decide) ?_
  refine eIq ?_
  with_reducible refine Bt.cmp (by kernel_rfl) ?_
  with_reducible refine Ev.sub ?_
  refine eNq m0 ?_
  with_reducible refine Ev.cint ?_
  refine Sb.list (by assumption) (by decide) (by decide) (by rfl) ?_
  refine cBq (b_len _) bb_len ?_
  refine Ea.cons (by kernel_rfl) ?_
  with_reducible refine Ev.sub ?_
  refine eNq m0 ?_
  with_reducible refine Ev.cint ?_
  refine Sb.list (by assumption) (by decide) (by decide) (by rfl) ?_
  refine Ea.nil ?_
  refine Cl.lenL hlen ?_
  refine Cm.le ?_
  refine ite_of (fun hb => ?_) (fun hb => ?_)
  · have hb : j + 1 ≤ (xs.length : Int) := by simpa using hb
    refine eRq ?_
    with_reducible refine Ev.bin ?_
    with_reducible refine Ev.sub ?_
    with_reducible refine Ev.sub ?_
    refine eNq m0 ?_
    with_reducible refine Ev.cint ?_
    refine Sb.list (by assumption) (by decide) (by decide) (by rfl) ?_
    with_reducible refine Ev.bin ?_
    with_reducible refine Ev.sub ?_
    refine eNq m0 ?_
    with_reducible refine Ev.cint ?_
    refine Sb.list (by assumption) (by decide) (by decide) (by rfl) ?_
    with_reducible refine Ev.cint ?_
    refine Bn.sub ?_
    refine Sb.lst (k := j + 1 - 1) (x := .int (xs[j.toNat]?.getD 0)) (by omega) (by omega) ?_ ?_
    · rw [show j + 1 - 1 = j by omega, List.getElem?_map, List.getElem?_eq_getElem (by omega)]; rfl
    refine eNq m1 ?_
    exact Bn.mod (by omega) (hin _)
  · have hb : ¬ j + 1 ≤ (xs.length : Int) := by simpa using hb
    with_reducible refine Es.nil ?_
    refine eRq ?_
    with_reducible refine Ev.bin ?_
    with_reducible refine Ev.bin ?_
    with_reducible refine Ev.bin ?_
    with_reducible refine Ev.bin ?_
    with_reducible refine Ev.bin ?_
    with_reducible refine Ev.bin ?_
    with_reducible refine Ev.bin ?_
    with_reducible refine Ev.sub ?_
    refine eNq m0 ?_
    with_reducible refine Ev.cint ?_
    refine Sb.list (by assumption) (by decide) (by decide) (by rfl) ?_
    with_reducible refine Ev.sub ?_
    refine eNq m0 ?_
    with_reducible refine Ev.cint ?_
    refine Sb.list (by assumption) (by decide) (by decide) (by rfl) ?_
    refine Bn.mul (mulOk (by omega) (by omega)) ?_
    with_reducible refine Ev.cint ?_
    refine Bn.mul ?_ ?_
    · exact IntMulOk.of_right (by decide)
    with_reducible refine Ev.bin ?_
    with_reducible refine Ev.cint ?_
    with_reducible refine Ev.sub ?_
    refine eNq m0 ?_
    with_reducible refine Ev.cint ?_
    refine Sb.list (by assumption) (by decide) (by decide) (by rfl) ?_
    refine Bn.mul (mulOk (by omega) (by omega)) ?_
    refine Bn.add ?_
    with_reducible refine Ev.bin ?_
    with_reducible refine Ev.cint ?_
    refine cBq (b_len _) bb_len ?_
    refine Ea.cons (by kernel_rfl) ?_
    with_reducible refine Ev.sub ?_
    refine eNq m0 ?_
    with_reducible refine Ev.cint ?_
    refine Sb.list (by assumption) (by decide) (by decide) (by rfl) ?_
    refine Ea.nil ?_
    refine Cl.lenL hlen ?_
    skip
    refine Bn.mul (mulOk (by omega) (by omega)) ?_
    refine Bn.add ?_
    with_reducible refine Ev.cint ?_
    refine Bn.add ?_
    with_reducible refine Ev.cint ?_
    refine Bn.fdiv (by decide) (PyProof.noPylong_small (by decide)) ?_
    refine eNq m1 ?_
    exact Bn.mod (by omega) (hin _)
theorem c_pick {dk : Addr} {xs : List Int} {j : Int} {zs : List V} (hj : 0 ≤ j) (hj2 : j ≤ 1000) (hx : xs.length ≤ 63) (hz : 0 < zs.length) (hz2 : zs.length ≤ 1000) (U : UpH dk (.list [.lst (intV xs), .int j]) (.list [.lst (intV xs), .int (j + 1)]) H H') (h : ∀ z, z ∈ zs → P z H') : Cd G (n + 2) (.ref 1099) [.ref dk, .lst zs] H P X := by
  refine in__law_pick ?_
  refine Es.cons ?_
  with_reducible refine E1.ret ?_
  with_reducible refine Ev.sub ?_
  refine eNq m1 ?_
  refine cGq (g_law_draw _) ?_
  refine aNq m0 ?_
  refine Ea.cons (by kernel_rfl) ?_
  refine cBq (b_len _) bb_len ?_
  refine aLq m1 ?_
  refine Cl.lenL (by omega) ?_
  refine Ea.nil ?_
  refine Cl.cd (c_draw hj hj2 (by omega) hx U fun r h0 h1 => ?_)
  have hr : r.toNat < zs.length := by omega
  exact Sb.lst h0 (by omega) (List.getElem?_eq_getElem hr) (h _ (List.getElem_mem hr))
theorem c_kept {T : List Int} {pt k : Int} {ks : List (Int × Kp)} {r : Kp} (hz : ks.length ≤ 64) (h : P (stV T pt (dset ks k r)) H) : Cd G (n + 1) (.ref 1127) [stV T pt ks, .int k, keV r] H P X := by
  refine in__law_kept ?_
  unfold stV
  refine Es.cons ?_
  with_reducible refine E1.asgN (.keep (by kernel_rfl) (.keep (by kernel_rfl) (.keep (by kernel_rfl) .nil))) (by kernel_rfl) (by kernel_rfl) ?_
  refine cTq (b_dict _) bb_dict ?_
  refine Ea.cons (by kernel_rfl) ?_
  refine sTq m0 ?_
  refine Ea.nil ?_
  refine Cl.dictF (by simp only [keptV, List.length_map]; omega) fun d => ?_
  with_reducible refine Es.cons ?_
  with_reducible refine E1.asgS (by kernel_rfl) ?_
  refine eNq m3 ?_
  refine eNq m0 ?_
  refine eNq m2 ?_
  refine Stt.dict .head (by simp only [keptV, List.length_map]; omega) ?_
  rw [kept_set]
  refine Es.frz (H' := H) (loc' := [("found", .dct (keptV (dset ks k r))), ("state", .tup [.lst (intV T), .int pt, .dct (keptV ks)])]) (.refl _) (al1 (.inr ⟨rfl, m0⟩) (al1 (.inl m1) al0)) ?_
  refine eRq ?_
  with_reducible refine Ev.tup ?_
  refine Ea.cons (by kernel_rfl) ?_
  refine sTq m1 ?_
  refine Ea.cons (by kernel_rfl) ?_
  refine sTq m1 ?_
  refine aLq m0 ?_
  with_reducible refine len_ok (by kernel_rfl!) ?_
  exact h
end
theorem dget_at {α : Type} : ∀ {l : List (Int × α)} {i : Nat} {k : Int} {v : α}, (l.map (·.1)).Nodup → l[i]? = some (k, v) → dget l k = some v
  | (j, u) :: r, 0, k, v, nd, h => by
    rw [List.getElem?_cons_zero] at h
    cases h
    rw [dget, if_pos rfl]
  | (j, u) :: r, i + 1, k, v, nd, h => by
    rw [List.getElem?_cons_succ] at h
    rw [List.map_cons, List.nodup_cons] at nd
    have hm : k ∈ r.map (·.1) := List.mem_map_of_mem (f := (·.1)) (List.mem_of_getElem? h)
    have hne : ¬ j = k := fun e => nd.1 (by rw [e]; exact hm)
    rw [dget, if_neg hne]
    exact dget_at nd.2 h
theorem dset_new {α : Type} {k : Int} {v : α} : ∀ {l : List (Int × α)}, (∀ p ∈ l, p.1 ≠ k) → dset l k v = l ++ [(k, v)]
  | [], _ => rfl
  | (j, u) :: r, h => by
    rw [dset, if_neg (h (j, u) (.head _)), dset_new fun p hp => h p (.tail _ hp)]
    rfl
noncomputable def movK (place gone come : Int) : Kp → Kp
  | .pt p => .pt (if place < p then (if 0 < gone then max place (p - gone) else p + come) else p)
  | r => r
noncomputable def movedK (place gone come : Int) (ks : List (Int × Kp)) : List (Int × Kp) := ks.map fun x => (x.1, movK place gone come x.2)
section
variable {G : Gx} {n : Nat} {H H' R : HH} {X : Str → HH → Prop} {P : V → HH → Prop}
theorem Ev.mono {d : FD} {loc : Locs} {e : Expr} {P P' : V → HH → Prop} (h : Ev G n d loc H e P X) (k : ∀ v H', P v H' → P' v H') : Ev G n d loc H e P' X :=
  Ev.mk fun A c s he a S r Q E p xp => h.use A c s he a S r Q E (fun v x H' c' h' tk hp l m S' rv => p v x H' c' h' tk (k _ _ hp) l m S' rv) xp
theorem ife_join {d : FD} {loc : Locs} {b : Bool} {e1 e2 : Expr} {P : V → HH → Prop} (J : V → HH → Prop) (h1 : b = true → Ev G n d loc H e1 J X) (h2 : b = false → Ev G n d loc H e2 J X) (h3 : ∀ v H', J v H' → P v H') : if b = true then Ev G n d loc H e1 P X else Ev G n d loc H e2 P X := by
  cases b with
  | true => rw [if_pos rfl]; exact (h1 rfl).mono h3
  | false => rw [if_neg (by decide)]; exact (h2 rfl).mono h3
theorem c_moved {ks : List (Int × Kp)} {place gone come : Int} (nd : (ks.map (·.1)).Nodup) (hz : ks.length ≤ 64) (h : P (.dct (keptV (movedK place gone come ks))) H) : Cd G (n + 1) (.ref 1113) [.dct (keptV ks), .int place, .int gone, .int come] H P X := by
  refine in__law_moved ?_
  refine Es.cons ?_
  refine E1.asgN (.keep (by kernel_rfl) (.keep (by kernel_rfl) (.keep (by kernel_rfl) (.keep (by kernel_rfl) .nil)))) (by kernel_rfl) rfl (Ev.dict0 fun d => ?_)
  refine Es.cons ?_
  refine E1.forB (σ := Unit) (fun _ => [("found", .ref d), ("kept", .dct (keptV ks)), ("place", .int place), ("gone", .int gone), ("come", .int come)]) (by kernel_rfl) (fun _ _ => rfl) (fun _ => by kernel_rfl) ?_
  refine eNq m1 ?_
  refine ⟨_, fun i _ H' => H' = (d, .dict (keptV (movedK place gone come (ks.take i)))) :: H, (), Itb.dct, (al1 m0 (al1 m1 (al1 m2 (al1 m3 (al1 m4 al0))))), rfl, ?_, ?_⟩
  · rintro i y _ H' hy rfl
    have hi : i < ks.length := by
      have := (List.getElem?_eq_some_iff.mp hy).1
      simpa [keptV] using this
    obtain ⟨k, r, hkr⟩ : ∃ k r, ks[i] = (k, r) := ⟨_, _, rfl⟩
    have hy' : y = .int k := by
      simp only [keptV, List.map_map, List.getElem?_map, List.getElem?_eq_getElem hi, Option.map_some, Option.some.injEq, Function.comp, hkr] at hy
      exact hy.symm
    subst hy'
    have hg : dget (keptV ks) k = some (keV r) := by
      rw [kept_get, dget_at nd (i := i) (v := r) (by rw [List.getElem?_eq_getElem hi, hkr])]
      rfl
    have hnew : ∀ p ∈ movedK place gone come (ks.take i), p.1 ≠ k := by
      intro p hp e
      obtain ⟨q, hq, rfl⟩ := List.mem_map.mp hp
      have e1 : ks = ks.take i ++ (k, r) :: ks.drop (i + 1) := by rw [← hkr, ← List.drop_eq_getElem_cons hi, List.take_append_drop]
      rw [e1, List.map_append, List.nodup_append] at nd
      exact nd.2.2 q.1 (List.mem_map_of_mem hq) k (by simp) e
    have hstep : dset (keptV (movedK place gone come (ks.take i))) k (keV (movK place gone come r)) = keptV (movedK place gone come (ks.take (i + 1))) := by
      rw [kept_set, dset_new hnew]
      congr 1
      unfold movedK
      rw [List.take_succ_eq_append_getElem hi, List.map_append, hkr]
      rfl
    have hl : (keptV (movedK place gone come (ks.take i))).length ≤ 16777216 := by simp only [keptV, movedK, List.length_map, List.length_take]; omega
    refine Es.cons ?_
    refine E1.asgT (ns := ["word", "thing"]) rfl (by kernel_rfl) rfl (fun _ => by kernel_rfl) ?_
    with_reducible refine Ev.sub ?_
    refine eNq m2 ?_
    refine eNq m0 ?_
    refine Sb.dct hg ?_
    cases r with
    | pt p =>
      refine ⟨_, _, rfl, (.cons (.keep (by kernel_rfl) (.keep (by kernel_rfl) (.keep (by kernel_rfl) (.keep (by kernel_rfl) (.keep (by kernel_rfl) (.keep (by kernel_rfl) .nil)))))) (.cons (.keep (by kernel_rfl) (.keep (by kernel_rfl) (.keep (by kernel_rfl) (.keep (by kernel_rfl) (.keep (by kernel_rfl) (.keep (by kernel_rfl) (.keep (by kernel_rfl) .nil))))))) .nil)), ?_⟩
      refine eIq ?_
      with_reducible refine Bt.and ?_
      refine bEq m1 ?_
      with_reducible refine ite_t' (by kernel_rfl!) ?_
      with_reducible refine Bt.and ?_
      with_reducible refine Bt.cmp (by kernel_rfl) ?_
      refine eNq m0 ?_
      refine eNq m5 ?_
      refine Cm.gt ?_
      refine ite_of (fun hb => ?_) (fun hb => ?_)
      · have hb : place < p := by simpa using hb
        with_reducible refine Bt.andN ?_
        with_reducible refine ite_t' (by kernel_rfl!) ?_
        refine eAq (.skip (.keep (by kernel_rfl) (.keep (by kernel_rfl) (.keep (by kernel_rfl) (.keep (by kernel_rfl) (.keep (by kernel_rfl) (.keep (by kernel_rfl) (.keep (by kernel_rfl) .nil)))))))) ?_
        with_reducible refine Ev.ife ?_
        with_reducible refine Bt.cmp (by kernel_rfl) ?_
        refine eNq m6 ?_
        with_reducible refine Ev.cint ?_
        refine Cm.gt ?_
        refine ite_of (fun hc => ?_) (fun hc => ?_)
        · have hc : 0 < gone := by simpa using hc
          refine cBq (b_max _) bb_max ?_
          refine aNq m5 ?_
          refine Ea.cons (by kernel_rfl) ?_
          with_reducible refine Ev.bin ?_
          refine eNq m0 ?_
          refine eNq m6 ?_
          refine Bn.sub ?_
          refine Ea.nil ?_
          refine Cl.max ?_
          with_reducible refine Es.nil ?_
          with_reducible refine Es.cons ?_
          with_reducible refine E1.asgS (by kernel_rfl) ?_
          with_reducible refine Ev.tup ?_
          refine aNq m1 ?_
          refine aLq m0 ?_
          with_reducible refine len_ok (by kernel_rfl!) ?_
          refine eNq m3 ?_
          refine eNq m2 ?_
          refine Stt.dict .head hl ?_
          rw [show V.tup [.str "point", .int (max place (p - gone))] = keV (movK place gone come (.pt p)) by simp only [movK, keV, if_pos hb, if_pos hc], hstep]
          with_reducible refine Es.nil ?_
          exact ⟨(), (al1 m3 (al1 m4 (al1 m5 (al1 m6 (al1 m7 al0))))), rfl⟩
        · have hc : ¬ 0 < gone := by simpa using hc
          with_reducible refine Ev.bin ?_
          refine eNq m0 ?_
          refine eNq m7 ?_
          refine Bn.add ?_
          with_reducible refine Es.nil ?_
          with_reducible refine Es.cons ?_
          with_reducible refine E1.asgS (by kernel_rfl) ?_
          with_reducible refine Ev.tup ?_
          refine aNq m1 ?_
          refine aLq m0 ?_
          with_reducible refine len_ok (by kernel_rfl!) ?_
          refine eNq m3 ?_
          refine eNq m2 ?_
          refine Stt.dict .head hl ?_
          rw [show V.tup [.str "point", .int (p + come)] = keV (movK place gone come (.pt p)) by simp only [movK, keV, if_pos hb, if_neg hc], hstep]
          with_reducible refine Es.nil ?_
          exact ⟨(), (al1 m3 (al1 m4 (al1 m5 (al1 m6 (al1 m7 al0))))), rfl⟩
      · have hb : ¬ place < p := by simpa using hb
        refine iFq ?_
        with_reducible refine Es.cons ?_
        with_reducible refine E1.asgS (by kernel_rfl) ?_
        with_reducible refine Ev.tup ?_
        refine aNq m1 ?_
        refine aLq m0 ?_
        with_reducible refine len_ok (by kernel_rfl!) ?_
        refine eNq m3 ?_
        refine eNq m2 ?_
        refine Stt.dict .head hl ?_
        rw [show V.tup [.str "point", .int p] = keV (movK place gone come (.pt p)) by simp only [movK, keV, if_neg hb], hstep]
        with_reducible refine Es.nil ?_
        exact ⟨(), (al1 m3 (al1 m4 (al1 m5 (al1 m6 (al1 m7 al0))))), rfl⟩
    | tx cs =>
      refine ⟨_, _, rfl, (.cons (.keep (by kernel_rfl) (.keep (by kernel_rfl) (.keep (by kernel_rfl) (.keep (by kernel_rfl) (.keep (by kernel_rfl) (.keep (by kernel_rfl) .nil)))))) (.cons (.keep (by kernel_rfl) (.keep (by kernel_rfl) (.keep (by kernel_rfl) (.keep (by kernel_rfl) (.keep (by kernel_rfl) (.keep (by kernel_rfl) (.keep (by kernel_rfl) .nil))))))) .nil)), ?_⟩
      refine eIq ?_
      with_reducible refine Bt.and ?_
      refine bEq m1 ?_
      with_reducible refine ite_f' (by kernel_rfl!) ?_
      refine iFq ?_
      with_reducible refine Es.cons ?_
      with_reducible refine E1.asgS (by kernel_rfl) ?_
      with_reducible refine Ev.tup ?_
      refine aNq m1 ?_
      refine aLq m0 ?_
      with_reducible refine len_ok (by kernel_rfl!) ?_
      refine eNq m3 ?_
      refine eNq m2 ?_
      refine Stt.dict .head hl ?_
      rw [show V.tup [.str "text", .lst (intV cs)] = keV (movK place gone come (.tx cs)) from rfl, hstep]
      with_reducible refine Es.nil ?_
      exact ⟨(), (al1 m3 (al1 m4 (al1 m5 (al1 m6 (al1 m7 al0))))), rfl⟩
    | nm z =>
      refine ⟨_, _, rfl, (.cons (.keep (by kernel_rfl) (.keep (by kernel_rfl) (.keep (by kernel_rfl) (.keep (by kernel_rfl) (.keep (by kernel_rfl) (.keep (by kernel_rfl) .nil)))))) (.cons (.keep (by kernel_rfl) (.keep (by kernel_rfl) (.keep (by kernel_rfl) (.keep (by kernel_rfl) (.keep (by kernel_rfl) (.keep (by kernel_rfl) (.keep (by kernel_rfl) .nil))))))) .nil)), ?_⟩
      refine eIq ?_
      with_reducible refine Bt.and ?_
      refine bEq m1 ?_
      with_reducible refine ite_f' (by kernel_rfl!) ?_
      refine iFq ?_
      with_reducible refine Es.cons ?_
      with_reducible refine E1.asgS (by kernel_rfl) ?_
      with_reducible refine Ev.tup ?_
      refine aNq m1 ?_
      refine aLq m0 ?_
      with_reducible refine len_ok (by kernel_rfl!) ?_
      refine eNq m3 ?_
      refine eNq m2 ?_
      refine Stt.dict .head hl ?_
      rw [show V.tup [.str "number", .int z] = keV (movK place gone come (.nm z)) from rfl, hstep]
      with_reducible refine Es.nil ?_
      exact ⟨(), (al1 m3 (al1 m4 (al1 m5 (al1 m6 (al1 m7 al0))))), rfl⟩
  · rintro _ loc' H' hb rfl
    have e : ((keptV ks).map fun p => V.int p.1).length = ks.length := by simp [keptV]
    rw [e, List.take_length]
    refine Es.frz (H' := H) (loc' := [("found", .dct (keptV (movedK place gone come ks)))]) (.refl _) (fun q hq => ?_) ?_
    · rw [List.mem_singleton] at hq
      subst hq
      exact .inr ⟨rfl, hb _ (.head _)⟩
    refine eRq ?_
    refine eNq m0 ?_
    exact h
theorem movK_zero (place : Int) (r : Kp) : movK place 0 0 r = r := by
  cases r with
  | pt p => simp [movK]
  | _ => rfl
theorem movedK_zero (place : Int) (ks : List (Int × Kp)) : movedK place 0 0 ks = ks := by
  unfold movedK
  conv => rhs; rw [← List.map_id ks]
  exact List.map_congr_left fun x _ => by rw [movK_zero]; rfl
theorem slc_to {α : Type} {T : List α} {i : Nat} {p : Int} (h : p = i) : slcV none (some p) T = T.take i := by
  subst h
  simp only [slcV, slcA, slcB, List.drop_zero, Int.toNat_natCast, Nat.sub_zero]
theorem slc_from {α : Type} {T : List α} {i : Nat} {p : Int} (h : p = i) : slcV (some p) none T = T.drop i := by
  subst h
  simp only [slcV, slcA, slcB, Int.toNat_natCast]
  rw [List.take_of_length_le (by rw [List.length_drop]; exact Nat.le_refl _)]
theorem c_taken {T : List Int} {pt p p' : Int} {ks : List (Int × Kp)} {i j : Nat} (nd : (ks.map (·.1)).Nodup) (hz : ks.length ≤ 64) (hT : 2 * T.length ≤ 16777216) (hp : p = i + 1) (hp' : p' = j + 1) (hij : i ≤ j)
    (h : P (stV (T.take i ++ T.drop j) (ptOut p p' pt) (movedK p (p' - p) 0 ks)) H) : Cd G (n + 2) (.ref 1120) [stV T pt ks, .int p, .int p'] H P X := by
  refine in__law_taken ?_
  refine Es.cons ?_
  refine E1.asgT (ns := ["codes", "point", "kept"]) rfl (by kernel_rfl) rfl (fun _ => by kernel_rfl) ?_
  refine eNq m0 ?_
  refine ⟨_, _, rfl, (.cons (.keep (by kernel_rfl) (.keep (by kernel_rfl) (.keep (by kernel_rfl) .nil))) (.cons (.keep (by kernel_rfl) (.keep (by kernel_rfl) (.keep (by kernel_rfl) (.keep (by kernel_rfl) .nil)))) (.cons (.keep (by kernel_rfl) (.keep (by kernel_rfl) (.keep (by kernel_rfl) (.keep (by kernel_rfl) (.keep (by kernel_rfl) .nil))))) .nil))), ?_⟩
  refine eAq (.keep (by kernel_rfl) (.keep (by kernel_rfl) (.keep (by kernel_rfl) (.keep (by kernel_rfl) (.keep (by kernel_rfl) (.keep (by kernel_rfl) .nil)))))) ?_
  with_reducible refine Ev.bin ?_
  refine eNq m5 ?_
  refine eNq m4 ?_
  refine Bn.sub ?_
  refine eAq (.keep (by kernel_rfl) (.keep (by kernel_rfl) (.keep (by kernel_rfl) (.keep (by kernel_rfl) (.keep (by kernel_rfl) (.keep (by kernel_rfl) (.keep (by kernel_rfl) .nil))))))) ?_
  with_reducible refine Ev.ife ?_
  with_reducible refine Bt.cmp (by kernel_rfl) ?_
  refine eNq m2 ?_
  refine eNq m5 ?_
  refine Cm.le ?_
  refine ife_join (fun v H' => v = .int (ptOut p p' pt) ∧ H' = H) (fun hb => ?_) (fun hb => ?_) ?_
  · have hb : pt ≤ p := by simpa using hb
    refine eNq m2 ?_
    exact ⟨by unfold ptOut; rw [if_neg (by omega)], rfl⟩
  · have hb : ¬ pt ≤ p := by simpa using hb
    refine cBq (b_max _) bb_max ?_
    refine aNq m5 ?_
    refine Ea.cons (by kernel_rfl) ?_
    with_reducible refine Ev.bin ?_
    refine eNq m2 ?_
    refine eNq m0 ?_
    refine Bn.sub ?_
    refine Ea.nil ?_
    refine Cl.max ?_
    exact ⟨by unfold ptOut; rw [if_pos (by omega)], rfl⟩
  rintro _ _ ⟨rfl, rfl⟩
  refine eRq ?_
  with_reducible refine Ev.tup ?_
  refine Ea.cons (by kernel_rfl) ?_
  with_reducible refine Ev.bin ?_
  with_reducible refine Ev.sub ?_
  refine eNq m4 ?_
  with_reducible refine Ev.slice ?_
  refine Ep.none ?_
  refine Ep.some ?_
  with_reducible refine Ev.bin ?_
  refine eNq m6 ?_
  with_reducible refine Ev.cint ?_
  refine Bn.sub ?_
  with_reducible refine ⟨_, _, PartV.none, PartV.int _, ?_⟩
  refine Sb.slcF (by rw [List.length_map]; omega) trivial (by simp only [nnO]; omega) ?_
  rw [slc_to (i := i) (by omega)]
  with_reducible refine Ev.sub ?_
  refine eNq m4 ?_
  with_reducible refine Ev.slice ?_
  refine Ep.some ?_
  with_reducible refine Ev.bin ?_
  refine eNq m7 ?_
  with_reducible refine Ev.cint ?_
  refine Bn.sub ?_
  refine Ep.none ?_
  with_reducible refine ⟨_, _, PartV.int _, PartV.none, ?_⟩
  refine Sb.slcF (by rw [List.length_map]; omega) (by simp only [nnO]; omega) trivial ?_
  rw [slc_from (i := j) (by omega)]
  refine Bn.addL (by simp only [List.length_take, List.length_drop, List.length_map]; omega) (.inl ?_)
  rw [← List.map_take, ← List.map_drop, ← List.map_append]
  refine aNq m0 ?_
  refine Ea.cons (by kernel_rfl) ?_
  with_reducible refine Ev.ife ?_
  with_reducible refine Bt.cmp (by kernel_rfl) ?_
  refine eNq m1 ?_
  with_reducible refine Ev.cint ?_
  refine Cm.gt ?_
  refine ite_of (fun hb => ?_) (fun hb => ?_)
  · refine cGq (g_law_moved _) ?_
    refine aNq m2 ?_
    refine aNq m6 ?_
    refine aNq m1 ?_
    refine aIlq ?_
    refine Cl.cd (c_moved nd hz ?_)
    refine Ea.nil ?_
    with_reducible refine len_ok (by kernel_rfl!) ?_
    exact h
  · have hb : ¬ 0 < p' - p := by simpa using hb
    have e0 : p' - p = 0 := by omega
    rw [e0, movedK_zero] at h
    refine eNq m2 ?_
    refine Ea.nil ?_
    with_reducible refine len_ok (by kernel_rfl!) ?_
    exact h
end
noncomputable abbrev LS := List Int × Int × List (Int × Kp)
noncomputable def resV : Option LS → V
  | none => .str "user-error"
  | some r => stV r.1 r.2.1 r.2.2
/-- a text kept under a sign, and taken out or not -/
noncomputable def keepTx (T : List Int) (pt : Int) (ks : List (Int × Kp)) (k : Int) (i j : Nat) (zs : List Int) (del : Bool) : LS :=
  if del then (T.take i ++ T.drop j, ptOut (i + 1) (j + 1) pt, movedK (i + 1) ((j + 1 : Int) - (i + 1)) 0 (dset ks k (.tx zs))) else (T, pt, dset ks k (.tx zs))
noncomputable def putTx (T : List Int) (pt : Int) (ks : List (Int × Kp)) (zs : List Int) (bh : Bool) : LS :=
  (T.take (pt - 1).toNat ++ zs ++ T.drop (pt - 1).toNat, if bh then pt + zs.length else pt, movedK pt 0 zs.length ks)
theorem dset_keys {α : Type} (k : Int) (v : α) : ∀ l : List (Int × α), ∀ x, x ∈ (dset l k v).map (·.1) → x = k ∨ x ∈ l.map (·.1)
  | [], x, h => by simp [dset] at h; exact .inl h
  | (j, u) :: r, x, h => by
    rw [dset] at h
    by_cases q : j = k
    · rw [if_pos q] at h
      exact .inr h
    · rw [if_neg q, List.map_cons, List.mem_cons] at h
      rcases h with h | h
      · exact .inr (by rw [h]; exact .head _)
      · rcases dset_keys k v r x h with h | h
        · exact .inl h
        · exact .inr (.tail _ h)
theorem dset_nodup {α : Type} (k : Int) (v : α) : ∀ l : List (Int × α), (l.map (·.1)).Nodup → ((dset l k v).map (·.1)).Nodup
  | [], _ => by simp [dset]
  | (j, u) :: r, nd => by
    rw [dset]
    rw [List.map_cons, List.nodup_cons] at nd
    by_cases q : j = k
    · rw [if_pos q, List.map_cons, List.nodup_cons]
      exact nd
    · rw [if_neg q, List.map_cons, List.nodup_cons]
      refine ⟨fun h => ?_, dset_nodup k v r nd.2⟩
      rcases dset_keys k v r _ h with h | h
      · exact q h
      · exact nd.1 h
section
variable {G : Gx} {n : Nat} {H H' R : HH} {X : Str → HH → Prop} {P : V → HH → Prop} {T : List Int} {pt p p' k : Int} {ks : List (Int × Kp)} {i j : Nat} {del : Bool}
theorem c_ltext_copy (nd : (ks.map (·.1)).Nodup) (hz : ks.length < 64) (hT : 2 * T.length ≤ 16777216) (hp : p = i + 1) (hp' : p' = j + 1) (hij : i ≤ j) (h : P (resV (some (keepTx T pt ks k i j (cut T i j) del))) H) :
    Cd G (n + 3) (.ref 1134) [stV T pt ks, .str "copy", .int k, .int p, .int p', .bool del] H P X := by
  refine in__law_text ?_
  refine Es.cons ?_
  refine E1.asgTS (ns := ["codes", "own"]) rfl rfl (fun _ => by kernel_rfl) ?_
  with_reducible refine Ev.tup ?_
  refine Ea.cons (by kernel_rfl) ?_
  with_reducible refine Ev.sub ?_
  refine sTq m0 ?_
  with_reducible refine Ev.slice ?_
  refine Ep.some ?_
  with_reducible refine Ev.bin ?_
  refine eNq m3 ?_
  with_reducible refine Ev.cint ?_
  refine Bn.sub ?_
  refine Ep.some ?_
  with_reducible refine Ev.bin ?_
  refine eNq m4 ?_
  with_reducible refine Ev.cint ?_
  refine Bn.sub ?_
  with_reducible refine ⟨_, _, PartV.int _, PartV.int _, ?_⟩
  refine Sb.slcF (by rw [List.length_map]; omega) (by simp only [nnO]; omega) (by simp only [nnO]; omega) ?_
  rw [slcV_cut, show (p - 1).toNat = i by omega, show (p' - 1).toNat = j by omega, cut_map]
  refine Ea.cons (by kernel_rfl) ?_
  with_reducible refine Ev.meth (by kernel_rfl) (by kernel_rfl) (by decide +kernel) (by kernel_rfl) ?_
  refine sTq m0 ?_
  with_reducible refine Mt.dgetF ⟨KeepV.blt _, ?_⟩
  refine aNq m2 ?_
  refine Ea.cons (by kernel_rfl) ?_
  with_reducible refine Ev.cnone ?_
  refine Ea.nil ?_
  refine Cl.get2F ?_
  refine Ea.nil ?_
  with_reducible refine len_ok (by kernel_rfl!) ?_
  refine ⟨_, _, rfl, (.cons (.keep (by kernel_rfl) (.keep (by kernel_rfl) (.keep (by kernel_rfl) (.keep (by kernel_rfl) (.keep (by kernel_rfl) (.keep (by kernel_rfl) .nil)))))) (.cons (.keep (by kernel_rfl) (.keep (by kernel_rfl) (.keep (by kernel_rfl) (.keep (by kernel_rfl) (.keep (by kernel_rfl) (.keep (by kernel_rfl) (.keep (by kernel_rfl) .nil))))))) .nil)), ?_⟩
  refine eIq ?_
  with_reducible refine Bt.and ?_
  with_reducible refine Bt.cmp (by kernel_rfl) ?_
  refine eNq m3 ?_
  with_reducible refine Ev.cstr ?_
  refine Cm.neS ?_
  with_reducible refine ite_f' (by kernel_rfl!) ?_
  refine iFq ?_
  refine eIq ?_
  with_reducible refine Bt.and ?_
  refine bEq m3 ?_
  with_reducible refine ite_f' (by kernel_rfl!) ?_
  refine iFq ?_
  refine eIq ?_
  with_reducible refine Bt.and ?_
  refine bEq m3 ?_
  with_reducible refine ite_f' (by kernel_rfl!) ?_
  refine iFq ?_
  refine eAq (.keep (by kernel_rfl) (.keep (by kernel_rfl) (.keep (by kernel_rfl) (.keep (by kernel_rfl) (.keep (by kernel_rfl) (.keep (by kernel_rfl) (.keep (by kernel_rfl) (.keep (by kernel_rfl) .nil)))))))) ?_
  refine cGq (g_law_kept _) ?_
  refine aNq m2 ?_
  refine aNq m4 ?_
  refine Ea.cons (by kernel_rfl) ?_
  with_reducible refine Ev.tup ?_
  refine aSq ?_
  refine aLq m0 ?_
  with_reducible refine len_ok (by kernel_rfl!) ?_
  refine Ea.nil ?_
  refine Cl.cd (c_kept (r := .tx (cut T i j)) (by omega) ?_)
  refine eRq ?_
  with_reducible refine Ev.ife ?_
  with_reducible refine Bt.bool (by kernel_rfl) ?_
  refine eNq m8 ?_
  with_reducible refine bt_ok ?_
  refine ite_of (fun hb => ?_) (fun hb => ?_)
  · refine cGq (g_law_taken _) ?_
    refine aNq m0 ?_
    refine aNq m6 ?_
    refine aLq m7 ?_
    have hl := dset_len k (.tx (cut T i j) : Kp) ks
    refine Cl.cd (c_taken (dset_nodup _ _ _ nd) (by omega) hT hp hp' hij ?_)
    simp only [resV, keepTx, hb, if_true] at h
    subst hp hp'
    exact h
  · refine eNq m0 ?_
    simp only [resV, keepTx, hb, Bool.false_eq_true, if_false] at h
    exact h
theorem c_ltext_append_none (nd : (ks.map (·.1)).Nodup) (hz : ks.length < 64) (hT : 2 * T.length ≤ 16777216) (hp : p = i + 1) (hp' : p' = j + 1) (hij : i ≤ j) (hk : dget ks k = none) (h : P (resV (some (keepTx T pt ks k i j (cut T i j) del))) H) :
    Cd G (n + 3) (.ref 1134) [stV T pt ks, .str "append", .int k, .int p, .int p', .bool del] H P X := by
  refine in__law_text ?_
  refine Es.cons ?_
  refine E1.asgTS (ns := ["codes", "own"]) rfl rfl (fun _ => by kernel_rfl) ?_
  with_reducible refine Ev.tup ?_
  refine Ea.cons (by kernel_rfl) ?_
  with_reducible refine Ev.sub ?_
  refine sTq m0 ?_
  with_reducible refine Ev.slice ?_
  refine Ep.some ?_
  with_reducible refine Ev.bin ?_
  refine eNq m3 ?_
  with_reducible refine Ev.cint ?_
  refine Bn.sub ?_
  refine Ep.some ?_
  with_reducible refine Ev.bin ?_
  refine eNq m4 ?_
  with_reducible refine Ev.cint ?_
  refine Bn.sub ?_
  with_reducible refine ⟨_, _, PartV.int _, PartV.int _, ?_⟩
  refine Sb.slcF (by rw [List.length_map]; omega) (by simp only [nnO]; omega) (by simp only [nnO]; omega) ?_
  rw [slcV_cut, show (p - 1).toNat = i by omega, show (p' - 1).toNat = j by omega, cut_map]
  refine Ea.cons (by kernel_rfl) ?_
  with_reducible refine Ev.meth (by kernel_rfl) (by kernel_rfl) (by decide +kernel) (by kernel_rfl) ?_
  refine sTq m0 ?_
  with_reducible refine Mt.dgetF ⟨KeepV.blt _, ?_⟩
  refine aNq m2 ?_
  refine Ea.cons (by kernel_rfl) ?_
  with_reducible refine Ev.cnone ?_
  refine Ea.nil ?_
  refine Cl.get2F ?_
  rw [kept_get, hk]
  simp only [Option.map_none, ogetD]
  refine Ea.nil ?_
  with_reducible refine len_ok (by kernel_rfl!) ?_
  refine ⟨_, _, rfl, (.cons (.keep (by kernel_rfl) (.keep (by kernel_rfl) (.keep (by kernel_rfl) (.keep (by kernel_rfl) (.keep (by kernel_rfl) (.keep (by kernel_rfl) .nil)))))) (.cons (.keep (by kernel_rfl) (.keep (by kernel_rfl) (.keep (by kernel_rfl) (.keep (by kernel_rfl) (.keep (by kernel_rfl) (.keep (by kernel_rfl) (.keep (by kernel_rfl) .nil))))))) .nil)), ?_⟩
  refine eIq ?_
  with_reducible refine Bt.and ?_
  with_reducible refine Bt.cmp (by kernel_rfl) ?_
  refine eNq m3 ?_
  with_reducible refine Ev.cstr ?_
  refine Cm.neS ?_
  with_reducible refine ite_t' (by kernel_rfl!) ?_
  with_reducible refine Bt.and ?_
  refine bMq m1 ?_
  with_reducible refine ite_f' (by kernel_rfl!) ?_
  refine iFq ?_
  refine eIq ?_
  with_reducible refine Bt.and ?_
  refine bEq m3 ?_
  with_reducible refine ite_t' (by kernel_rfl!) ?_
  with_reducible refine Bt.and ?_
  refine bMq m1 ?_
  with_reducible refine ite_f' (by kernel_rfl!) ?_
  refine iFq ?_
  refine eIq ?_
  with_reducible refine Bt.and ?_
  refine bEq m3 ?_
  with_reducible refine ite_f' (by kernel_rfl!) ?_
  refine iFq ?_
  refine eAq (.keep (by kernel_rfl) (.keep (by kernel_rfl) (.keep (by kernel_rfl) (.keep (by kernel_rfl) (.keep (by kernel_rfl) (.keep (by kernel_rfl) (.keep (by kernel_rfl) (.keep (by kernel_rfl) .nil)))))))) ?_
  refine cGq (g_law_kept _) ?_
  refine aNq m2 ?_
  refine aNq m4 ?_
  refine Ea.cons (by kernel_rfl) ?_
  with_reducible refine Ev.tup ?_
  refine aSq ?_
  refine aLq m0 ?_
  with_reducible refine len_ok (by kernel_rfl!) ?_
  refine Ea.nil ?_
  refine Cl.cd (c_kept (r := .tx (cut T i j)) (by omega) ?_)
  refine eRq ?_
  with_reducible refine Ev.ife ?_
  with_reducible refine Bt.bool (by kernel_rfl) ?_
  refine eNq m8 ?_
  with_reducible refine bt_ok ?_
  refine ite_of (fun hb => ?_) (fun hb => ?_)
  · refine cGq (g_law_taken _) ?_
    refine aNq m0 ?_
    refine aNq m6 ?_
    refine aLq m7 ?_
    have hl := dset_len k (.tx (cut T i j) : Kp) ks
    refine Cl.cd (c_taken (dset_nodup _ _ _ nd) (by omega) hT hp hp' hij ?_)
    simp only [resV, keepTx, hb, if_true] at h
    subst hp hp'
    exact h
  · refine eNq m0 ?_
    simp only [resV, keepTx, hb, Bool.false_eq_true, if_false] at h
    exact h
theorem c_ltext_append_tx {o : List Int} (nd : (ks.map (·.1)).Nodup) (hz : ks.length < 64) (hT : 2 * T.length ≤ 16777216) (hp : p = i + 1) (hp' : p' = j + 1) (hij : i ≤ j) (hk : dget ks k = some (.tx o)) (ho : o.length + T.length ≤ 16777216) (h : P (resV (some (keepTx T pt ks k i j (o ++ cut T i j) del))) H) :
    Cd G (n + 3) (.ref 1134) [stV T pt ks, .str "append", .int k, .int p, .int p', .bool del] H P X := by
  refine in__law_text ?_
  refine Es.cons ?_
  refine E1.asgTS (ns := ["codes", "own"]) rfl rfl (fun _ => by kernel_rfl) ?_
  with_reducible refine Ev.tup ?_
  refine Ea.cons (by kernel_rfl) ?_
  with_reducible refine Ev.sub ?_
  refine sTq m0 ?_
  with_reducible refine Ev.slice ?_
  refine Ep.some ?_
  with_reducible refine Ev.bin ?_
  refine eNq m3 ?_
  with_reducible refine Ev.cint ?_
  refine Bn.sub ?_
  refine Ep.some ?_
  with_reducible refine Ev.bin ?_
  refine eNq m4 ?_
  with_reducible refine Ev.cint ?_
  refine Bn.sub ?_
  with_reducible refine ⟨_, _, PartV.int _, PartV.int _, ?_⟩
  refine Sb.slcF (by rw [List.length_map]; omega) (by simp only [nnO]; omega) (by simp only [nnO]; omega) ?_
  rw [slcV_cut, show (p - 1).toNat = i by omega, show (p' - 1).toNat = j by omega, cut_map]
  refine Ea.cons (by kernel_rfl) ?_
  with_reducible refine Ev.meth (by kernel_rfl) (by kernel_rfl) (by decide +kernel) (by kernel_rfl) ?_
  refine sTq m0 ?_
  with_reducible refine Mt.dgetF ⟨KeepV.blt _, ?_⟩
  refine aNq m2 ?_
  refine Ea.cons (by kernel_rfl) ?_
  with_reducible refine Ev.cnone ?_
  refine Ea.nil ?_
  refine Cl.get2F ?_
  rw [kept_get, hk]
  simp only [Option.map_some, ogetD, keV]
  refine Ea.nil ?_
  with_reducible refine len_ok (by kernel_rfl!) ?_
  refine ⟨_, _, rfl, (.cons (.keep (by kernel_rfl) (.keep (by kernel_rfl) (.keep (by kernel_rfl) (.keep (by kernel_rfl) (.keep (by kernel_rfl) (.keep (by kernel_rfl) .nil)))))) (.cons (.keep (by kernel_rfl) (.keep (by kernel_rfl) (.keep (by kernel_rfl) (.keep (by kernel_rfl) (.keep (by kernel_rfl) (.keep (by kernel_rfl) (.keep (by kernel_rfl) .nil))))))) .nil)), ?_⟩
  refine eIq ?_
  with_reducible refine Bt.and ?_
  with_reducible refine Bt.cmp (by kernel_rfl) ?_
  refine eNq m3 ?_
  with_reducible refine Ev.cstr ?_
  refine Cm.neS ?_
  with_reducible refine ite_t' (by kernel_rfl!) ?_
  with_reducible refine Bt.and ?_
  refine bMq m1 ?_
  with_reducible refine ite_t' (by kernel_rfl!) ?_
  with_reducible refine Bt.and ?_
  with_reducible refine Bt.cmp (by kernel_rfl) ?_
  refine sTq m1 ?_
  with_reducible refine Ev.cstr ?_
  refine Cm.neS ?_
  with_reducible refine ite_f' (by kernel_rfl!) ?_
  refine iFq ?_
  refine eIq ?_
  with_reducible refine Bt.and ?_
  refine bEq m3 ?_
  with_reducible refine ite_t' (by kernel_rfl!) ?_
  with_reducible refine Bt.and ?_
  refine bMq m1 ?_
  with_reducible refine ite_t' (by kernel_rfl!) ?_
  with_reducible refine Bt.andN ?_
  with_reducible refine ite_t' (by kernel_rfl!) ?_
  refine eAq (.skip (.keep (by kernel_rfl) (.keep (by kernel_rfl) (.keep (by kernel_rfl) (.keep (by kernel_rfl) (.keep (by kernel_rfl) (.keep (by kernel_rfl) (.keep (by kernel_rfl) .nil)))))))) ?_
  with_reducible refine Ev.bin ?_
  refine sTq m1 ?_
  refine eNq m0 ?_
  have hcl : (cut T i j).length ≤ T.length := by unfold cut; rw [List.length_take, List.length_drop]; omega
  refine Bn.addL (by simp; omega) (.inl ?_)
  rw [show intV o ++ List.map V.int (cut T i j) = intV (o ++ cut T i j) by simp]
  with_reducible refine Es.nil ?_
  refine eIq ?_
  with_reducible refine Bt.and ?_
  refine bEq m3 ?_
  with_reducible refine ite_f' (by kernel_rfl!) ?_
  refine iFq ?_
  refine eAq (.keep (by kernel_rfl) (.keep (by kernel_rfl) (.keep (by kernel_rfl) (.keep (by kernel_rfl) (.keep (by kernel_rfl) (.keep (by kernel_rfl) (.keep (by kernel_rfl) (.keep (by kernel_rfl) .nil)))))))) ?_
  refine cGq (g_law_kept _) ?_
  refine aNq m2 ?_
  refine aNq m4 ?_
  refine Ea.cons (by kernel_rfl) ?_
  with_reducible refine Ev.tup ?_
  refine aSq ?_
  refine aLq m0 ?_
  with_reducible refine len_ok (by kernel_rfl!) ?_
  refine Ea.nil ?_
  refine Cl.cd (c_kept (r := .tx (o ++ cut T i j)) (by omega) ?_)
  refine eRq ?_
  with_reducible refine Ev.ife ?_
  with_reducible refine Bt.bool (by kernel_rfl) ?_
  refine eNq m8 ?_
  with_reducible refine bt_ok ?_
  refine ite_of (fun hb => ?_) (fun hb => ?_)
  · refine cGq (g_law_taken _) ?_
    refine aNq m0 ?_
    refine aNq m6 ?_
    refine aLq m7 ?_
    have hl := dset_len k (.tx (o ++ cut T i j) : Kp) ks
    refine Cl.cd (c_taken (dset_nodup _ _ _ nd) (by omega) hT hp hp' hij ?_)
    simp only [resV, keepTx, hb, if_true] at h
    subst hp hp'
    exact h
  · refine eNq m0 ?_
    simp only [resV, keepTx, hb, Bool.false_eq_true, if_false] at h
    exact h
theorem c_ltext_append_pt {q : Int} (nd : (ks.map (·.1)).Nodup) (hz : ks.length < 64) (hT : 2 * T.length ≤ 16777216) (hp : p = i + 1) (hp' : p' = j + 1) (hij : i ≤ j) (hk : dget ks k = some (.pt q)) (h : P (resV (none)) H) :
    Cd G (n + 3) (.ref 1134) [stV T pt ks, .str "append", .int k, .int p, .int p', .bool del] H P X := by
  refine in__law_text ?_
  refine Es.cons ?_
  refine E1.asgTS (ns := ["codes", "own"]) rfl rfl (fun _ => by kernel_rfl) ?_
  with_reducible refine Ev.tup ?_
  refine Ea.cons (by kernel_rfl) ?_
  with_reducible refine Ev.sub ?_
  refine sTq m0 ?_
  with_reducible refine Ev.slice ?_
  refine Ep.some ?_
  with_reducible refine Ev.bin ?_
  refine eNq m3 ?_
  with_reducible refine Ev.cint ?_
  refine Bn.sub ?_
  refine Ep.some ?_
  with_reducible refine Ev.bin ?_
  refine eNq m4 ?_
  with_reducible refine Ev.cint ?_
  refine Bn.sub ?_
  with_reducible refine ⟨_, _, PartV.int _, PartV.int _, ?_⟩
  refine Sb.slcF (by rw [List.length_map]; omega) (by simp only [nnO]; omega) (by simp only [nnO]; omega) ?_
  rw [slcV_cut, show (p - 1).toNat = i by omega, show (p' - 1).toNat = j by omega, cut_map]
  refine Ea.cons (by kernel_rfl) ?_
  with_reducible refine Ev.meth (by kernel_rfl) (by kernel_rfl) (by decide +kernel) (by kernel_rfl) ?_
  refine sTq m0 ?_
  with_reducible refine Mt.dgetF ⟨KeepV.blt _, ?_⟩
  refine aNq m2 ?_
  refine Ea.cons (by kernel_rfl) ?_
  with_reducible refine Ev.cnone ?_
  refine Ea.nil ?_
  refine Cl.get2F ?_
  rw [kept_get, hk]
  simp only [Option.map_some, ogetD, keV]
  refine Ea.nil ?_
  with_reducible refine len_ok (by kernel_rfl!) ?_
  refine ⟨_, _, rfl, (.cons (.keep (by kernel_rfl) (.keep (by kernel_rfl) (.keep (by kernel_rfl) (.keep (by kernel_rfl) (.keep (by kernel_rfl) (.keep (by kernel_rfl) .nil)))))) (.cons (.keep (by kernel_rfl) (.keep (by kernel_rfl) (.keep (by kernel_rfl) (.keep (by kernel_rfl) (.keep (by kernel_rfl) (.keep (by kernel_rfl) (.keep (by kernel_rfl) .nil))))))) .nil)), ?_⟩
  refine eIq ?_
  with_reducible refine Bt.and ?_
  with_reducible refine Bt.cmp (by kernel_rfl) ?_
  refine eNq m3 ?_
  with_reducible refine Ev.cstr ?_
  refine Cm.neS ?_
  with_reducible refine ite_t' (by kernel_rfl!) ?_
  with_reducible refine Bt.and ?_
  refine bMq m1 ?_
  with_reducible refine ite_t' (by kernel_rfl!) ?_
  with_reducible refine Bt.and ?_
  with_reducible refine Bt.cmp (by kernel_rfl) ?_
  refine sTq m1 ?_
  with_reducible refine Ev.cstr ?_
  refine Cm.neS ?_
  with_reducible refine ite_t' (by kernel_rfl!) ?_
  with_reducible refine Bt.andN ?_
  with_reducible refine ite_t' (by kernel_rfl!) ?_
  refine eRq ?_
  with_reducible refine Ev.cstr ?_
  exact h
theorem c_ltext_append_nm {q : Int} (nd : (ks.map (·.1)).Nodup) (hz : ks.length < 64) (hT : 2 * T.length ≤ 16777216) (hp : p = i + 1) (hp' : p' = j + 1) (hij : i ≤ j) (hk : dget ks k = some (.nm q)) (h : P (resV (none)) H) :
    Cd G (n + 3) (.ref 1134) [stV T pt ks, .str "append", .int k, .int p, .int p', .bool del] H P X := by
  refine in__law_text ?_
  refine Es.cons ?_
  refine E1.asgTS (ns := ["codes", "own"]) rfl rfl (fun _ => by kernel_rfl) ?_
  with_reducible refine Ev.tup ?_
  refine Ea.cons (by kernel_rfl) ?_
  with_reducible refine Ev.sub ?_
  refine sTq m0 ?_
  with_reducible refine Ev.slice ?_
  refine Ep.some ?_
  with_reducible refine Ev.bin ?_
  refine eNq m3 ?_
  with_reducible refine Ev.cint ?_
  refine Bn.sub ?_
  refine Ep.some ?_
  with_reducible refine Ev.bin ?_
  refine eNq m4 ?_
  with_reducible refine Ev.cint ?_
  refine Bn.sub ?_
  with_reducible refine ⟨_, _, PartV.int _, PartV.int _, ?_⟩
  refine Sb.slcF (by rw [List.length_map]; omega) (by simp only [nnO]; omega) (by simp only [nnO]; omega) ?_
  rw [slcV_cut, show (p - 1).toNat = i by omega, show (p' - 1).toNat = j by omega, cut_map]
  refine Ea.cons (by kernel_rfl) ?_
  with_reducible refine Ev.meth (by kernel_rfl) (by kernel_rfl) (by decide +kernel) (by kernel_rfl) ?_
  refine sTq m0 ?_
  with_reducible refine Mt.dgetF ⟨KeepV.blt _, ?_⟩
  refine aNq m2 ?_
  refine Ea.cons (by kernel_rfl) ?_
  with_reducible refine Ev.cnone ?_
  refine Ea.nil ?_
  refine Cl.get2F ?_
  rw [kept_get, hk]
  simp only [Option.map_some, ogetD, keV]
  refine Ea.nil ?_
  with_reducible refine len_ok (by kernel_rfl!) ?_
  refine ⟨_, _, rfl, (.cons (.keep (by kernel_rfl) (.keep (by kernel_rfl) (.keep (by kernel_rfl) (.keep (by kernel_rfl) (.keep (by kernel_rfl) (.keep (by kernel_rfl) .nil)))))) (.cons (.keep (by kernel_rfl) (.keep (by kernel_rfl) (.keep (by kernel_rfl) (.keep (by kernel_rfl) (.keep (by kernel_rfl) (.keep (by kernel_rfl) (.keep (by kernel_rfl) .nil))))))) .nil)), ?_⟩
  refine eIq ?_
  with_reducible refine Bt.and ?_
  with_reducible refine Bt.cmp (by kernel_rfl) ?_
  refine eNq m3 ?_
  with_reducible refine Ev.cstr ?_
  refine Cm.neS ?_
  with_reducible refine ite_t' (by kernel_rfl!) ?_
  with_reducible refine Bt.and ?_
  refine bMq m1 ?_
  with_reducible refine ite_t' (by kernel_rfl!) ?_
  with_reducible refine Bt.and ?_
  with_reducible refine Bt.cmp (by kernel_rfl) ?_
  refine sTq m1 ?_
  with_reducible refine Ev.cstr ?_
  refine Cm.neS ?_
  with_reducible refine ite_t' (by kernel_rfl!) ?_
  with_reducible refine Bt.andN ?_
  with_reducible refine ite_t' (by kernel_rfl!) ?_
  refine eRq ?_
  with_reducible refine Ev.cstr ?_
  exact h
theorem c_ltext_prepend_none (nd : (ks.map (·.1)).Nodup) (hz : ks.length < 64) (hT : 2 * T.length ≤ 16777216) (hp : p = i + 1) (hp' : p' = j + 1) (hij : i ≤ j) (hk : dget ks k = none) (h : P (resV (some (keepTx T pt ks k i j (cut T i j) del))) H) :
    Cd G (n + 3) (.ref 1134) [stV T pt ks, .str "prepend", .int k, .int p, .int p', .bool del] H P X := by
  refine in__law_text ?_
  refine Es.cons ?_
  refine E1.asgTS (ns := ["codes", "own"]) rfl rfl (fun _ => by kernel_rfl) ?_
  with_reducible refine Ev.tup ?_
  refine Ea.cons (by kernel_rfl) ?_
  with_reducible refine Ev.sub ?_
  refine sTq m0 ?_
  with_reducible refine Ev.slice ?_
  refine Ep.some ?_
  with_reducible refine Ev.bin ?_
  refine eNq m3 ?_
  with_reducible refine Ev.cint ?_
  refine Bn.sub ?_
  refine Ep.some ?_
  with_reducible refine Ev.bin ?_
  refine eNq m4 ?_
  with_reducible refine Ev.cint ?_
  refine Bn.sub ?_
  with_reducible refine ⟨_, _, PartV.int _, PartV.int _, ?_⟩
  refine Sb.slcF (by rw [List.length_map]; omega) (by simp only [nnO]; omega) (by simp only [nnO]; omega) ?_
  rw [slcV_cut, show (p - 1).toNat = i by omega, show (p' - 1).toNat = j by omega, cut_map]
  refine Ea.cons (by kernel_rfl) ?_
  with_reducible refine Ev.meth (by kernel_rfl) (by kernel_rfl) (by decide +kernel) (by kernel_rfl) ?_
  refine sTq m0 ?_
  with_reducible refine Mt.dgetF ⟨KeepV.blt _, ?_⟩
  refine aNq m2 ?_
  refine Ea.cons (by kernel_rfl) ?_
  with_reducible refine Ev.cnone ?_
  refine Ea.nil ?_
  refine Cl.get2F ?_
  rw [kept_get, hk]
  simp only [Option.map_none, ogetD]
  refine Ea.nil ?_
  with_reducible refine len_ok (by kernel_rfl!) ?_
  refine ⟨_, _, rfl, (.cons (.keep (by kernel_rfl) (.keep (by kernel_rfl) (.keep (by kernel_rfl) (.keep (by kernel_rfl) (.keep (by kernel_rfl) (.keep (by kernel_rfl) .nil)))))) (.cons (.keep (by kernel_rfl) (.keep (by kernel_rfl) (.keep (by kernel_rfl) (.keep (by kernel_rfl) (.keep (by kernel_rfl) (.keep (by kernel_rfl) (.keep (by kernel_rfl) .nil))))))) .nil)), ?_⟩
  refine eIq ?_
  with_reducible refine Bt.and ?_
  with_reducible refine Bt.cmp (by kernel_rfl) ?_
  refine eNq m3 ?_
  with_reducible refine Ev.cstr ?_
  refine Cm.neS ?_
  with_reducible refine ite_t' (by kernel_rfl!) ?_
  with_reducible refine Bt.and ?_
  refine bMq m1 ?_
  with_reducible refine ite_f' (by kernel_rfl!) ?_
  refine iFq ?_
  refine eIq ?_
  with_reducible refine Bt.and ?_
  refine bEq m3 ?_
  with_reducible refine ite_f' (by kernel_rfl!) ?_
  refine iFq ?_
  refine eIq ?_
  with_reducible refine Bt.and ?_
  refine bEq m3 ?_
  with_reducible refine ite_t' (by kernel_rfl!) ?_
  with_reducible refine Bt.and ?_
  refine bMq m1 ?_
  with_reducible refine ite_f' (by kernel_rfl!) ?_
  refine iFq ?_
  refine eAq (.keep (by kernel_rfl) (.keep (by kernel_rfl) (.keep (by kernel_rfl) (.keep (by kernel_rfl) (.keep (by kernel_rfl) (.keep (by kernel_rfl) (.keep (by kernel_rfl) (.keep (by kernel_rfl) .nil)))))))) ?_
  refine cGq (g_law_kept _) ?_
  refine aNq m2 ?_
  refine aNq m4 ?_
  refine Ea.cons (by kernel_rfl) ?_
  with_reducible refine Ev.tup ?_
  refine aSq ?_
  refine aLq m0 ?_
  with_reducible refine len_ok (by kernel_rfl!) ?_
  refine Ea.nil ?_
  refine Cl.cd (c_kept (r := .tx (cut T i j)) (by omega) ?_)
  refine eRq ?_
  with_reducible refine Ev.ife ?_
  with_reducible refine Bt.bool (by kernel_rfl) ?_
  refine eNq m8 ?_
  with_reducible refine bt_ok ?_
  refine ite_of (fun hb => ?_) (fun hb => ?_)
  · refine cGq (g_law_taken _) ?_
    refine aNq m0 ?_
    refine aNq m6 ?_
    refine aLq m7 ?_
    have hl := dset_len k (.tx (cut T i j) : Kp) ks
    refine Cl.cd (c_taken (dset_nodup _ _ _ nd) (by omega) hT hp hp' hij ?_)
    simp only [resV, keepTx, hb, if_true] at h
    subst hp hp'
    exact h
  · refine eNq m0 ?_
    simp only [resV, keepTx, hb, Bool.false_eq_true, if_false] at h
    exact h
theorem c_ltext_prepend_tx {o : List Int} (nd : (ks.map (·.1)).Nodup) (hz : ks.length < 64) (hT : 2 * T.length ≤ 16777216) (hp : p = i + 1) (hp' : p' = j + 1) (hij : i ≤ j) (hk : dget ks k = some (.tx o)) (ho : o.length + T.length ≤ 16777216) (h : P (resV (some (keepTx T pt ks k i j (cut T i j ++ o) del))) H) :
    Cd G (n + 3) (.ref 1134) [stV T pt ks, .str "prepend", .int k, .int p, .int p', .bool del] H P X := by
  refine in__law_text ?_
  refine Es.cons ?_
  refine E1.asgTS (ns := ["codes", "own"]) rfl rfl (fun _ => by kernel_rfl) ?_
  with_reducible refine Ev.tup ?_
  refine Ea.cons (by kernel_rfl) ?_
  with_reducible refine Ev.sub ?_
  refine sTq m0 ?_
  with_reducible refine Ev.slice ?_
  refine Ep.some ?_
  with_reducible refine Ev.bin ?_
  refine eNq m3 ?_
  with_reducible refine Ev.cint ?_
  refine Bn.sub ?_
  refine Ep.some ?_
  with_reducible refine Ev.bin ?_
  refine eNq m4 ?_
  with_reducible refine Ev.cint ?_
  refine Bn.sub ?_
  with_reducible refine ⟨_, _, PartV.int _, PartV.int _, ?_⟩
  refine Sb.slcF (by rw [List.length_map]; omega) (by simp only [nnO]; omega) (by simp only [nnO]; omega) ?_
  rw [slcV_cut, show (p - 1).toNat = i by omega, show (p' - 1).toNat = j by omega, cut_map]
  refine Ea.cons (by kernel_rfl) ?_
  with_reducible refine Ev.meth (by kernel_rfl) (by kernel_rfl) (by decide +kernel) (by kernel_rfl) ?_
  refine sTq m0 ?_
  with_reducible refine Mt.dgetF ⟨KeepV.blt _, ?_⟩
  refine aNq m2 ?_
  refine Ea.cons (by kernel_rfl) ?_
  with_reducible refine Ev.cnone ?_
  refine Ea.nil ?_
  refine Cl.get2F ?_
  rw [kept_get, hk]
  simp only [Option.map_some, ogetD, keV]
  refine Ea.nil ?_
  with_reducible refine len_ok (by kernel_rfl!) ?_
  refine ⟨_, _, rfl, (.cons (.keep (by kernel_rfl) (.keep (by kernel_rfl) (.keep (by kernel_rfl) (.keep (by kernel_rfl) (.keep (by kernel_rfl) (.keep (by kernel_rfl) .nil)))))) (.cons (.keep (by kernel_rfl) (.keep (by kernel_rfl) (.keep (by kernel_rfl) (.keep (by kernel_rfl) (.keep (by kernel_rfl) (.keep (by kernel_rfl) (.keep (by kernel_rfl) .nil))))))) .nil)), ?_⟩
  refine eIq ?_
  with_reducible refine Bt.and ?_
  with_reducible refine Bt.cmp (by kernel_rfl) ?_
  refine eNq m3 ?_
  with_reducible refine Ev.cstr ?_
  refine Cm.neS ?_
  with_reducible refine ite_t' (by kernel_rfl!) ?_
  with_reducible refine Bt.and ?_
  refine bMq m1 ?_
  with_reducible refine ite_t' (by kernel_rfl!) ?_
  with_reducible refine Bt.and ?_
  with_reducible refine Bt.cmp (by kernel_rfl) ?_
  refine sTq m1 ?_
  with_reducible refine Ev.cstr ?_
  refine Cm.neS ?_
  with_reducible refine ite_f' (by kernel_rfl!) ?_
  refine iFq ?_
  refine eIq ?_
  with_reducible refine Bt.and ?_
  refine bEq m3 ?_
  with_reducible refine ite_f' (by kernel_rfl!) ?_
  refine iFq ?_
  refine eIq ?_
  with_reducible refine Bt.and ?_
  refine bEq m3 ?_
  with_reducible refine ite_t' (by kernel_rfl!) ?_
  with_reducible refine Bt.and ?_
  refine bMq m1 ?_
  with_reducible refine ite_t' (by kernel_rfl!) ?_
  with_reducible refine Bt.andN ?_
  with_reducible refine ite_t' (by kernel_rfl!) ?_
  refine eAq (.skip (.keep (by kernel_rfl) (.keep (by kernel_rfl) (.keep (by kernel_rfl) (.keep (by kernel_rfl) (.keep (by kernel_rfl) (.keep (by kernel_rfl) (.keep (by kernel_rfl) .nil)))))))) ?_
  with_reducible refine Ev.bin ?_
  refine eNq m0 ?_
  refine sTq m1 ?_
  have hcl : (cut T i j).length ≤ T.length := by unfold cut; rw [List.length_take, List.length_drop]; omega
  refine Bn.addL (by simp; omega) (.inl ?_)
  rw [show List.map V.int (cut T i j) ++ intV o = intV (cut T i j ++ o) by simp]
  with_reducible refine Es.nil ?_
  refine eAq (.keep (by kernel_rfl) (.keep (by kernel_rfl) (.keep (by kernel_rfl) (.keep (by kernel_rfl) (.keep (by kernel_rfl) (.keep (by kernel_rfl) (.keep (by kernel_rfl) (.keep (by kernel_rfl) .nil)))))))) ?_
  refine cGq (g_law_kept _) ?_
  refine aNq m2 ?_
  refine aNq m4 ?_
  refine Ea.cons (by kernel_rfl) ?_
  with_reducible refine Ev.tup ?_
  refine aSq ?_
  refine aLq m0 ?_
  with_reducible refine len_ok (by kernel_rfl!) ?_
  refine Ea.nil ?_
  refine Cl.cd (c_kept (r := .tx (cut T i j ++ o)) (by omega) ?_)
  refine eRq ?_
  with_reducible refine Ev.ife ?_
  with_reducible refine Bt.bool (by kernel_rfl) ?_
  refine eNq m8 ?_
  with_reducible refine bt_ok ?_
  refine ite_of (fun hb => ?_) (fun hb => ?_)
  · refine cGq (g_law_taken _) ?_
    refine aNq m0 ?_
    refine aNq m6 ?_
    refine aLq m7 ?_
    have hl := dset_len k (.tx (cut T i j ++ o) : Kp) ks
    refine Cl.cd (c_taken (dset_nodup _ _ _ nd) (by omega) hT hp hp' hij ?_)
    simp only [resV, keepTx, hb, if_true] at h
    subst hp hp'
    exact h
  · refine eNq m0 ?_
    simp only [resV, keepTx, hb, Bool.false_eq_true, if_false] at h
    exact h
theorem c_ltext_prepend_pt {q : Int} (nd : (ks.map (·.1)).Nodup) (hz : ks.length < 64) (hT : 2 * T.length ≤ 16777216) (hp : p = i + 1) (hp' : p' = j + 1) (hij : i ≤ j) (hk : dget ks k = some (.pt q)) (h : P (resV (none)) H) :
    Cd G (n + 3) (.ref 1134) [stV T pt ks, .str "prepend", .int k, .int p, .int p', .bool del] H P X := by
  refine in__law_text ?_
  refine Es.cons ?_
  refine E1.asgTS (ns := ["codes", "own"]) rfl rfl (fun _ => by kernel_rfl) ?_
  with_reducible refine Ev.tup ?_
  refine Ea.cons (by kernel_rfl) ?_
  with_reducible refine Ev.sub ?_
  refine sTq m0 ?_
  with_reducible refine Ev.slice ?_
  refine Ep.some ?_
  with_reducible refine Ev.bin ?_
  refine eNq m3 ?_
  with_reducible refine Ev.cint ?_
  refine Bn.sub ?_
  refine Ep.some ?_
  with_reducible refine Ev.bin ?_
  refine eNq m4 ?_
  with_reducible refine Ev.cint ?_
  refine Bn.sub ?_
  with_reducible refine ⟨_, _, PartV.int _, PartV.int _, ?_⟩
  refine Sb.slcF (by rw [List.length_map]; omega) (by simp only [nnO]; omega) (by simp only [nnO]; omega) ?_
  rw [slcV_cut, show (p - 1).toNat = i by omega, show (p' - 1).toNat = j by omega, cut_map]
  refine Ea.cons (by kernel_rfl) ?_
  with_reducible refine Ev.meth (by kernel_rfl) (by kernel_rfl) (by decide +kernel) (by kernel_rfl) ?_
  refine sTq m0 ?_
  with_reducible refine Mt.dgetF ⟨KeepV.blt _, ?_⟩
  refine aNq m2 ?_
  refine Ea.cons (by kernel_rfl) ?_
  with_reducible refine Ev.cnone ?_
  refine Ea.nil ?_
  refine Cl.get2F ?_
  rw [kept_get, hk]
  simp only [Option.map_some, ogetD, keV]
  refine Ea.nil ?_
  with_reducible refine len_ok (by kernel_rfl!) ?_
  refine ⟨_, _, rfl, (.cons (.keep (by kernel_rfl) (.keep (by kernel_rfl) (.keep (by kernel_rfl) (.keep (by kernel_rfl) (.keep (by kernel_rfl) (.keep (by kernel_rfl) .nil)))))) (.cons (.keep (by kernel_rfl) (.keep (by kernel_rfl) (.keep (by kernel_rfl) (.keep (by kernel_rfl) (.keep (by kernel_rfl) (.keep (by kernel_rfl) (.keep (by kernel_rfl) .nil))))))) .nil)), ?_⟩
  refine eIq ?_
  with_reducible refine Bt.and ?_
  with_reducible refine Bt.cmp (by kernel_rfl) ?_
  refine eNq m3 ?_
  with_reducible refine Ev.cstr ?_
  refine Cm.neS ?_
  with_reducible refine ite_t' (by kernel_rfl!) ?_
  with_reducible refine Bt.and ?_
  refine bMq m1 ?_
  with_reducible refine ite_t' (by kernel_rfl!) ?_
  with_reducible refine Bt.and ?_
  with_reducible refine Bt.cmp (by kernel_rfl) ?_
  refine sTq m1 ?_
  with_reducible refine Ev.cstr ?_
  refine Cm.neS ?_
  with_reducible refine ite_t' (by kernel_rfl!) ?_
  with_reducible refine Bt.andN ?_
  with_reducible refine ite_t' (by kernel_rfl!) ?_
  refine eRq ?_
  with_reducible refine Ev.cstr ?_
  exact h
theorem c_ltext_prepend_nm {q : Int} (nd : (ks.map (·.1)).Nodup) (hz : ks.length < 64) (hT : 2 * T.length ≤ 16777216) (hp : p = i + 1) (hp' : p' = j + 1) (hij : i ≤ j) (hk : dget ks k = some (.nm q)) (h : P (resV (none)) H) :
    Cd G (n + 3) (.ref 1134) [stV T pt ks, .str "prepend", .int k, .int p, .int p', .bool del] H P X := by
  refine in__law_text ?_
  refine Es.cons ?_
  refine E1.asgTS (ns := ["codes", "own"]) rfl rfl (fun _ => by kernel_rfl) ?_
  with_reducible refine Ev.tup ?_
  refine Ea.cons (by kernel_rfl) ?_
  with_reducible refine Ev.sub ?_
  refine sTq m0 ?_
  with_reducible refine Ev.slice ?_
  refine Ep.some ?_
  with_reducible refine Ev.bin ?_
  refine eNq m3 ?_
  with_reducible refine Ev.cint ?_
  refine Bn.sub ?_
  refine Ep.some ?_
  with_reducible refine Ev.bin ?_
  refine eNq m4 ?_
  with_reducible refine Ev.cint ?_
  refine Bn.sub ?_
  with_reducible refine ⟨_, _, PartV.int _, PartV.int _, ?_⟩
  refine Sb.slcF (by rw [List.length_map]; omega) (by simp only [nnO]; omega) (by simp only [nnO]; omega) ?_
  rw [slcV_cut, show (p - 1).toNat = i by omega, show (p' - 1).toNat = j by omega, cut_map]
  refine Ea.cons (by kernel_rfl) ?_
  with_reducible refine Ev.meth (by kernel_rfl) (by kernel_rfl) (by decide +kernel) (by kernel_rfl) ?_
  refine sTq m0 ?_
  with_reducible refine Mt.dgetF ⟨KeepV.blt _, ?_⟩
  refine aNq m2 ?_
  refine Ea.cons (by kernel_rfl) ?_
  with_reducible refine Ev.cnone ?_
  refine Ea.nil ?_
  refine Cl.get2F ?_
  rw [kept_get, hk]
  simp only [Option.map_some, ogetD, keV]
  refine Ea.nil ?_
  with_reducible refine len_ok (by kernel_rfl!) ?_
  refine ⟨_, _, rfl, (.cons (.keep (by kernel_rfl) (.keep (by kernel_rfl) (.keep (by kernel_rfl) (.keep (by kernel_rfl) (.keep (by kernel_rfl) (.keep (by kernel_rfl) .nil)))))) (.cons (.keep (by kernel_rfl) (.keep (by kernel_rfl) (.keep (by kernel_rfl) (.keep (by kernel_rfl) (.keep (by kernel_rfl) (.keep (by kernel_rfl) (.keep (by kernel_rfl) .nil))))))) .nil)), ?_⟩
  refine eIq ?_
  with_reducible refine Bt.and ?_
  with_reducible refine Bt.cmp (by kernel_rfl) ?_
  refine eNq m3 ?_
  with_reducible refine Ev.cstr ?_
  refine Cm.neS ?_
  with_reducible refine ite_t' (by kernel_rfl!) ?_
  with_reducible refine Bt.and ?_
  refine bMq m1 ?_
  with_reducible refine ite_t' (by kernel_rfl!) ?_
  with_reducible refine Bt.and ?_
  with_reducible refine Bt.cmp (by kernel_rfl) ?_
  refine sTq m1 ?_
  with_reducible refine Ev.cstr ?_
  refine Cm.neS ?_
  with_reducible refine ite_t' (by kernel_rfl!) ?_
  with_reducible refine Bt.andN ?_
  with_reducible refine ite_t' (by kernel_rfl!) ?_
  refine eRq ?_
  with_reducible refine Ev.cstr ?_
  exact h
end
section
variable {G : Gx} {n : Nat} {H H' R : HH} {X : Str → HH → Prop} {P : V → HH → Prop} {T : List Int} {pt k : Int} {ks : List (Int × Kp)} {bh : Bool}
theorem c_lput_none (hk : dget ks k = none) (h : P (resV none) H) : Cd G (n + 3) (.ref 1139) [stV T pt ks, .int k, .bool bh] H P X := by
  refine in__law_put ?_
  refine Es.cons ?_
  refine E1.asgT (ns := ["codes", "point", "kept"]) rfl (by kernel_rfl) rfl (fun _ => by kernel_rfl) ?_
  refine eNq m0 ?_
  refine ⟨_, _, rfl, (.cons (.keep (by kernel_rfl) (.keep (by kernel_rfl) (.keep (by kernel_rfl) .nil))) (.cons (.keep (by kernel_rfl) (.keep (by kernel_rfl) (.keep (by kernel_rfl) (.keep (by kernel_rfl) .nil)))) (.cons (.keep (by kernel_rfl) (.keep (by kernel_rfl) (.keep (by kernel_rfl) (.keep (by kernel_rfl) (.keep (by kernel_rfl) .nil))))) .nil))), ?_⟩
  refine eAq (.keep (by kernel_rfl) (.keep (by kernel_rfl) (.keep (by kernel_rfl) (.keep (by kernel_rfl) (.keep (by kernel_rfl) (.keep (by kernel_rfl) .nil)))))) ?_
  with_reducible refine Ev.meth (by kernel_rfl) (by kernel_rfl) (by decide +kernel) (by kernel_rfl) ?_
  refine eNq m0 ?_
  with_reducible refine Mt.dgetF ⟨KeepV.blt _, ?_⟩
  refine aNq m4 ?_
  refine Ea.cons (by kernel_rfl) ?_
  with_reducible refine Ev.cnone ?_
  refine Ea.nil ?_
  refine Cl.get2F ?_
  rw [kept_get, hk]
  simp only [Option.map_none, ogetD]
  refine eIq ?_
  with_reducible refine Bt.or ?_
  refine bNq m0 ?_
  with_reducible refine ite_t' (by kernel_rfl!) ?_
  with_reducible refine ite_t' (by kernel_rfl!) ?_
  refine eRq ?_
  with_reducible refine Ev.cstr ?_
  exact h
theorem c_lput_pt {q : Int} (hk : dget ks k = some (.pt q)) (h : P (resV none) H) : Cd G (n + 3) (.ref 1139) [stV T pt ks, .int k, .bool bh] H P X := by
  refine in__law_put ?_
  refine Es.cons ?_
  refine E1.asgT (ns := ["codes", "point", "kept"]) rfl (by kernel_rfl) rfl (fun _ => by kernel_rfl) ?_
  refine eNq m0 ?_
  refine ⟨_, _, rfl, (.cons (.keep (by kernel_rfl) (.keep (by kernel_rfl) (.keep (by kernel_rfl) .nil))) (.cons (.keep (by kernel_rfl) (.keep (by kernel_rfl) (.keep (by kernel_rfl) (.keep (by kernel_rfl) .nil)))) (.cons (.keep (by kernel_rfl) (.keep (by kernel_rfl) (.keep (by kernel_rfl) (.keep (by kernel_rfl) (.keep (by kernel_rfl) .nil))))) .nil))), ?_⟩
  refine eAq (.keep (by kernel_rfl) (.keep (by kernel_rfl) (.keep (by kernel_rfl) (.keep (by kernel_rfl) (.keep (by kernel_rfl) (.keep (by kernel_rfl) .nil)))))) ?_
  with_reducible refine Ev.meth (by kernel_rfl) (by kernel_rfl) (by decide +kernel) (by kernel_rfl) ?_
  refine eNq m0 ?_
  with_reducible refine Mt.dgetF ⟨KeepV.blt _, ?_⟩
  refine aNq m4 ?_
  refine Ea.cons (by kernel_rfl) ?_
  with_reducible refine Ev.cnone ?_
  refine Ea.nil ?_
  refine Cl.get2F ?_
  rw [kept_get, hk]
  simp only [Option.map_some, ogetD, keV]
  refine eIq ?_
  with_reducible refine Bt.or ?_
  refine bNq m0 ?_
  with_reducible refine ite_f' (by kernel_rfl!) ?_
  with_reducible refine Bt.or ?_
  with_reducible refine Bt.cmp (by kernel_rfl) ?_
  refine sTq m0 ?_
  with_reducible refine Ev.cstr ?_
  refine Cm.eqS ?_
  with_reducible refine ite_t' (by kernel_rfl!) ?_
  with_reducible refine ite_t' (by kernel_rfl!) ?_
  refine eRq ?_
  with_reducible refine Ev.cstr ?_
  exact h
theorem c_lput_tx {o : List Int} (nd : (ks.map (·.1)).Nodup) (hz : ks.length ≤ 64) (hT : 2 * (T.length + o.length) ≤ 16777216) (h1 : 1 ≤ pt) (hk : dget ks k = some (.tx o)) (h : P (resV (some (putTx T pt ks o bh))) H) : Cd G (n + 3) (.ref 1139) [stV T pt ks, .int k, .bool bh] H P X := by
  refine in__law_put ?_
  refine Es.cons ?_
  refine E1.asgT (ns := ["codes", "point", "kept"]) rfl (by kernel_rfl) rfl (fun _ => by kernel_rfl) ?_
  refine eNq m0 ?_
  refine ⟨_, _, rfl, (.cons (.keep (by kernel_rfl) (.keep (by kernel_rfl) (.keep (by kernel_rfl) .nil))) (.cons (.keep (by kernel_rfl) (.keep (by kernel_rfl) (.keep (by kernel_rfl) (.keep (by kernel_rfl) .nil)))) (.cons (.keep (by kernel_rfl) (.keep (by kernel_rfl) (.keep (by kernel_rfl) (.keep (by kernel_rfl) (.keep (by kernel_rfl) .nil))))) .nil))), ?_⟩
  refine eAq (.keep (by kernel_rfl) (.keep (by kernel_rfl) (.keep (by kernel_rfl) (.keep (by kernel_rfl) (.keep (by kernel_rfl) (.keep (by kernel_rfl) .nil)))))) ?_
  with_reducible refine Ev.meth (by kernel_rfl) (by kernel_rfl) (by decide +kernel) (by kernel_rfl) ?_
  refine eNq m0 ?_
  with_reducible refine Mt.dgetF ⟨KeepV.blt _, ?_⟩
  refine aNq m4 ?_
  refine Ea.cons (by kernel_rfl) ?_
  with_reducible refine Ev.cnone ?_
  refine Ea.nil ?_
  refine Cl.get2F ?_
  rw [kept_get, hk]
  simp only [Option.map_some, ogetD, keV]
  refine eIq ?_
  with_reducible refine Bt.or ?_
  refine bNq m0 ?_
  with_reducible refine ite_f' (by kernel_rfl!) ?_
  with_reducible refine Bt.or ?_
  with_reducible refine Bt.cmp (by kernel_rfl) ?_
  refine sTq m0 ?_
  with_reducible refine Ev.cstr ?_
  refine Cm.eqS ?_
  with_reducible refine ite_f' (by kernel_rfl!) ?_
  with_reducible refine Bt.orN ?_
  refine iFq ?_
  refine eAq (.keep (by kernel_rfl) (.keep (by kernel_rfl) (.keep (by kernel_rfl) (.keep (by kernel_rfl) (.keep (by kernel_rfl) (.keep (by kernel_rfl) (.keep (by kernel_rfl) .nil))))))) ?_
  with_reducible refine Ev.ife ?_
  with_reducible refine Bt.cmp (by kernel_rfl) ?_
  refine sTq m0 ?_
  with_reducible refine Ev.cstr ?_
  refine Cm.eqS ?_
  with_reducible refine ite_t' (by kernel_rfl!) ?_
  refine sTq m0 ?_
  refine eAq (.keep (by kernel_rfl) (.keep (by kernel_rfl) (.keep (by kernel_rfl) (.keep (by kernel_rfl) (.keep (by kernel_rfl) (.keep (by kernel_rfl) (.keep (by kernel_rfl) (.keep (by kernel_rfl) .nil)))))))) ?_
  with_reducible refine Ev.bin ?_
  with_reducible refine Ev.bin ?_
  with_reducible refine Ev.sub ?_
  refine eNq m4 ?_
  with_reducible refine Ev.slice ?_
  refine Ep.none ?_
  refine Ep.some ?_
  with_reducible refine Ev.bin ?_
  refine eNq m3 ?_
  with_reducible refine Ev.cint ?_
  refine Bn.sub ?_
  with_reducible refine ⟨_, _, PartV.none, PartV.int _, ?_⟩
  refine Sb.slcF (by rw [List.length_map]; omega) trivial (by simp only [nnO]; omega) ?_
  rw [slc_to (i := (pt - 1).toNat) (by omega)]
  refine eNq m0 ?_
  refine Bn.addL (by simp; omega) (.inl ?_)
  with_reducible refine Ev.sub ?_
  refine eNq m4 ?_
  with_reducible refine Ev.slice ?_
  refine Ep.some ?_
  with_reducible refine Ev.bin ?_
  refine eNq m3 ?_
  with_reducible refine Ev.cint ?_
  refine Bn.sub ?_
  refine Ep.none ?_
  with_reducible refine ⟨_, _, PartV.int _, PartV.none, ?_⟩
  refine Sb.slcF (by rw [List.length_map]; omega) (by simp only [nnO]; omega) trivial ?_
  rw [slc_from (i := (pt - 1).toNat) (by omega)]
  refine Bn.addL (by simp; omega) (.inl ?_)
  rw [show List.take (pt - 1).toNat (intV T) ++ intV o ++ List.drop (pt - 1).toNat (intV T) = intV (T.take (pt - 1).toNat ++ o ++ T.drop (pt - 1).toNat) by simp]
  refine eRq ?_
  with_reducible refine Ev.tup ?_
  refine aNq m0 ?_
  refine Ea.cons (by kernel_rfl) ?_
  with_reducible refine Ev.ife ?_
  with_reducible refine Bt.bool (by kernel_rfl) ?_
  refine eNq m8 ?_
  with_reducible refine bt_ok ?_
  refine ife_join (fun v H' => v = .int (if bh then pt + o.length else pt) ∧ H' = H) (fun hb => ?_) (fun hb => ?_) ?_
  · with_reducible refine Ev.bin ?_
    refine eNq m4 ?_
    refine cBq (b_len _) bb_len ?_
    refine aLq m1 ?_
    refine Cl.lenL (by rw [List.length_map]; omega) ?_
    refine Bn.add ?_
    rw [List.length_map]
    exact ⟨by rw [if_pos hb], rfl⟩
  · refine eNq m4 ?_
    exact ⟨by rw [hb]; rfl, rfl⟩
  rintro _ _ ⟨rfl, rfl⟩
  refine Ea.cons (by kernel_rfl) ?_
  refine cGq (g_law_moved _) ?_
  refine aNq m3 ?_
  refine aNq m4 ?_
  refine aIq ?_
  refine Ea.cons (by kernel_rfl) ?_
  refine cBq (b_len _) bb_len ?_
  refine aLq m1 ?_
  refine Cl.lenL (by rw [List.length_map]; omega) ?_
  refine Ea.nil ?_
  rw [List.length_map]
  refine Cl.cd (c_moved nd hz ?_)
  refine Ea.nil ?_
  with_reducible refine len_ok (by kernel_rfl!) ?_
  exact h
theorem c_lput_nm {z : Int} (nd : (ks.map (·.1)).Nodup) (hz : ks.length ≤ 64) (hT : 2 * (T.length + (codesOf z).length) ≤ 16777216) (h1 : 1 ≤ pt) (hi : z.natAbs.log2 < 1920) (hk : dget ks k = some (.nm z)) (h : P (resV (some (putTx T pt ks (codesOf z) bh))) H) : Cd G (n + 3) (.ref 1139) [stV T pt ks, .int k, .bool bh] H P X := by
  refine in__law_put ?_
  refine Es.cons ?_
  refine E1.asgT (ns := ["codes", "point", "kept"]) rfl (by kernel_rfl) rfl (fun _ => by kernel_rfl) ?_
  refine eNq m0 ?_
  refine ⟨_, _, rfl, (.cons (.keep (by kernel_rfl) (.keep (by kernel_rfl) (.keep (by kernel_rfl) .nil))) (.cons (.keep (by kernel_rfl) (.keep (by kernel_rfl) (.keep (by kernel_rfl) (.keep (by kernel_rfl) .nil)))) (.cons (.keep (by kernel_rfl) (.keep (by kernel_rfl) (.keep (by kernel_rfl) (.keep (by kernel_rfl) (.keep (by kernel_rfl) .nil))))) .nil))), ?_⟩
  refine eAq (.keep (by kernel_rfl) (.keep (by kernel_rfl) (.keep (by kernel_rfl) (.keep (by kernel_rfl) (.keep (by kernel_rfl) (.keep (by kernel_rfl) .nil)))))) ?_
  with_reducible refine Ev.meth (by kernel_rfl) (by kernel_rfl) (by decide +kernel) (by kernel_rfl) ?_
  refine eNq m0 ?_
  with_reducible refine Mt.dgetF ⟨KeepV.blt _, ?_⟩
  refine aNq m4 ?_
  refine Ea.cons (by kernel_rfl) ?_
  with_reducible refine Ev.cnone ?_
  refine Ea.nil ?_
  refine Cl.get2F ?_
  rw [kept_get, hk]
  simp only [Option.map_some, ogetD, keV]
  refine eIq ?_
  with_reducible refine Bt.or ?_
  refine bNq m0 ?_
  with_reducible refine ite_f' (by kernel_rfl!) ?_
  with_reducible refine Bt.or ?_
  with_reducible refine Bt.cmp (by kernel_rfl) ?_
  refine sTq m0 ?_
  with_reducible refine Ev.cstr ?_
  refine Cm.eqS ?_
  with_reducible refine ite_f' (by kernel_rfl!) ?_
  with_reducible refine Bt.orN ?_
  refine iFq ?_
  refine eAq (.keep (by kernel_rfl) (.keep (by kernel_rfl) (.keep (by kernel_rfl) (.keep (by kernel_rfl) (.keep (by kernel_rfl) (.keep (by kernel_rfl) (.keep (by kernel_rfl) .nil))))))) ?_
  with_reducible refine Ev.ife ?_
  with_reducible refine Bt.cmp (by kernel_rfl) ?_
  refine sTq m0 ?_
  with_reducible refine Ev.cstr ?_
  refine Cm.eqS ?_
  with_reducible refine ite_f' (by kernel_rfl!) ?_
  have hcl : (strV (Str.ofString (toString z))).length ≤ 16777216 := by
    have : (codesOf z).length ≤ 16777216 := by omega
    simp only [strV, codesOf, List.length_map] at this ⊢; exact this
  refine Ev.comp (strV (Str.ofString (toString z))) ordV (by kernel_rfl) (fun _ _ => rfl) hcl (ElOk.ord (CompOk.of (by kernel_rfl)) (by kernel_rfl) (by kernel_rfl) (b_ord _)) ?_
  refine cTq (b_str _) bb_str ?_
  refine Ea.cons (by kernel_rfl) ?_
  refine sTq m0 ?_
  refine Ea.nil ?_
  refine Cl.strI hi ?_
  rw [codesOf_V]
  refine ⟨ItbW.str, ?_⟩
  generalize codesOf z = o at *
  refine eAq (.keep (by kernel_rfl) (.keep (by kernel_rfl) (.keep (by kernel_rfl) (.keep (by kernel_rfl) (.keep (by kernel_rfl) (.keep (by kernel_rfl) (.keep (by kernel_rfl) (.keep (by kernel_rfl) .nil)))))))) ?_
  with_reducible refine Ev.bin ?_
  with_reducible refine Ev.bin ?_
  with_reducible refine Ev.sub ?_
  refine eNq m4 ?_
  with_reducible refine Ev.slice ?_
  refine Ep.none ?_
  refine Ep.some ?_
  with_reducible refine Ev.bin ?_
  refine eNq m3 ?_
  with_reducible refine Ev.cint ?_
  refine Bn.sub ?_
  with_reducible refine ⟨_, _, PartV.none, PartV.int _, ?_⟩
  refine Sb.slcF (by rw [List.length_map]; omega) trivial (by simp only [nnO]; omega) ?_
  rw [slc_to (i := (pt - 1).toNat) (by omega)]
  refine eNq m0 ?_
  refine Bn.addL (by simp; omega) (.inl ?_)
  with_reducible refine Ev.sub ?_
  refine eNq m4 ?_
  with_reducible refine Ev.slice ?_
  refine Ep.some ?_
  with_reducible refine Ev.bin ?_
  refine eNq m3 ?_
  with_reducible refine Ev.cint ?_
  refine Bn.sub ?_
  refine Ep.none ?_
  with_reducible refine ⟨_, _, PartV.int _, PartV.none, ?_⟩
  refine Sb.slcF (by rw [List.length_map]; omega) (by simp only [nnO]; omega) trivial ?_
  rw [slc_from (i := (pt - 1).toNat) (by omega)]
  refine Bn.addL (by simp; omega) (.inl ?_)
  rw [show List.take (pt - 1).toNat (intV T) ++ intV o ++ List.drop (pt - 1).toNat (intV T) = intV (T.take (pt - 1).toNat ++ o ++ T.drop (pt - 1).toNat) by simp]
  refine eRq ?_
  with_reducible refine Ev.tup ?_
  refine aNq m0 ?_
  refine Ea.cons (by kernel_rfl) ?_
  with_reducible refine Ev.ife ?_
  with_reducible refine Bt.bool (by kernel_rfl) ?_
  refine eNq m8 ?_
  with_reducible refine bt_ok ?_
  refine ife_join (fun v H' => v = .int (if bh then pt + o.length else pt) ∧ H' = H) (fun hb => ?_) (fun hb => ?_) ?_
  · with_reducible refine Ev.bin ?_
    refine eNq m4 ?_
    refine cBq (b_len _) bb_len ?_
    refine aLq m1 ?_
    refine Cl.lenL (by rw [List.length_map]; omega) ?_
    refine Bn.add ?_
    rw [List.length_map]
    exact ⟨by rw [if_pos hb], rfl⟩
  · refine eNq m4 ?_
    exact ⟨by rw [hb]; rfl, rfl⟩
  rintro _ _ ⟨rfl, rfl⟩
  refine Ea.cons (by kernel_rfl) ?_
  refine cGq (g_law_moved _) ?_
  refine aNq m3 ?_
  refine aNq m4 ?_
  refine aIq ?_
  refine Ea.cons (by kernel_rfl) ?_
  refine cBq (b_len _) bb_len ?_
  refine aLq m1 ?_
  refine Cl.lenL (by rw [List.length_map]; omega) ?_
  refine Ea.nil ?_
  rw [List.length_map]
  refine Cl.cd (c_moved nd hz ?_)
  refine Ea.nil ?_
  with_reducible refine len_ok (by kernel_rfl!) ?_
  exact h
end
inductive Wd where
  | copy
  | append
  | prepend
  | insert
  | point
  | jump
  | number
  | more
noncomputable def Wd.s : Wd → Str
  | .copy => "copy"
  | .append => "append"
  | .prepend => "prepend"
  | .insert => "insert"
  | .point => "point"
  | .jump => "jump"
  | .number => "number"
  | .more => "more"
noncomputable def rawV : Option Int → V
  | none => .none
  | some i => .int i
noncomputable def lawStep (w : Wd) (T : List Int) (pt : Int) (ks : List (Int × Kp)) (k : Int) (i j : Nat) (raw : Option Int) : Option LS := match w with
  | .copy => some (keepTx T pt ks k i j (cut T i j) raw.isSome)
  | .append => match dget ks k with
    | none => some (keepTx T pt ks k i j (cut T i j) raw.isSome)
    | some (.tx o) => some (keepTx T pt ks k i j (o ++ cut T i j) raw.isSome)
    | some _ => none
  | .prepend => match dget ks k with
    | none => some (keepTx T pt ks k i j (cut T i j) raw.isSome)
    | some (.tx o) => some (keepTx T pt ks k i j (cut T i j ++ o) raw.isSome)
    | some _ => none
  | .insert => match dget ks k with
    | some (.tx o) => some (putTx T pt ks o raw.isSome)
    | some (.nm z) => some (putTx T pt ks (codesOf z) raw.isSome)
    | _ => none
  | .point => some (T, pt, dset ks k (.pt pt))
  | .number => some (T, pt, dset ks k (.nm (raw.getD 0)))
  | .jump => match dget ks k with
    | some (.pt q) => some (T, q, ks)
    | _ => none
  | .more => match dget ks k with
    | some (.nm z) => some (T, pt, dset ks k (.nm (z + ((j : Int) + 1))))
    | _ => none
structure LawOk (T : List Int) (pt : Int) (ks : List (Int × Kp)) (M : Nat) : Prop where
  nd : (ks.map (·.1)).Nodup
  lz : ks.length < 64
  tM : T.length ≤ M
  hM : 4 * M ≤ 16777216
  p1 : 1 ≤ pt
  tx : ∀ k o, dget ks k = some (.tx o) → o.length ≤ M
  nm : ∀ k z, dget ks k = some (.nm z) → z.natAbs.log2 < 1920 ∧ (codesOf z).length ≤ M
section
variable {G : Gx} {n : Nat} {H H' R : HH} {X : Str → HH → Prop} {P : V → HH → Prop} {T : List Int} {pt p p' k : Int} {ks : List (Int × Kp)} {i j M : Nat}
theorem rawV_some (raw : Option Int) : (!(rawV raw).isNone) = raw.isSome := by cases raw <;> rfl
theorem c_ltext_any {w : Wd} {raw : Option Int} (hw : w = .copy ∨ w = .append ∨ w = .prepend) (L : LawOk T pt ks M) (hp : p = i + 1) (hp' : p' = j + 1) (hij : i ≤ j) (h : P (resV (lawStep w T pt ks k i j raw)) H) :
    Cd G (n + 3) (.ref 1134) [stV T pt ks, .str w.s, .int k, .int p, .int p', .bool raw.isSome] H P X := by
  obtain ⟨nd, lz, tM, hM, p1, tx, nm⟩ := L
  have hT : 2 * T.length ≤ 16777216 := by omega
  rcases hw with rfl | rfl | rfl
  · exact c_ltext_copy nd lz hT hp hp' hij h
  · cases hk : dget ks k with
    | none =>
      simp only [lawStep, hk] at h
      exact c_ltext_append_none nd lz hT hp hp' hij hk h
    | some r =>
      cases r with
      | tx o =>
        have := tx k o hk
        simp only [lawStep, hk] at h
        exact c_ltext_append_tx nd lz hT hp hp' hij hk (by omega) h
      | pt q =>
        simp only [lawStep, hk] at h
        exact c_ltext_append_pt nd lz hT hp hp' hij hk h
      | nm q =>
        simp only [lawStep, hk] at h
        exact c_ltext_append_nm nd lz hT hp hp' hij hk h
  · cases hk : dget ks k with
    | none =>
      simp only [lawStep, hk] at h
      exact c_ltext_prepend_none nd lz hT hp hp' hij hk h
    | some r =>
      cases r with
      | tx o =>
        have := tx k o hk
        simp only [lawStep, hk] at h
        exact c_ltext_prepend_tx nd lz hT hp hp' hij hk (by omega) h
      | pt q =>
        simp only [lawStep, hk] at h
        exact c_ltext_prepend_pt nd lz hT hp hp' hij hk h
      | nm q =>
        simp only [lawStep, hk] at h
        exact c_ltext_prepend_nm nd lz hT hp hp' hij hk h
theorem c_lput_any {raw : Option Int} (L : LawOk T pt ks M) (h : P (resV (lawStep .insert T pt ks k i j raw)) H) : Cd G (n + 3) (.ref 1139) [stV T pt ks, .int k, .bool raw.isSome] H P X := by
  obtain ⟨nd, lz, tM, hM, p1, tx, nm⟩ := L
  cases hk : dget ks k with
  | none =>
    simp only [lawStep, hk] at h
    exact c_lput_none hk h
  | some r =>
    cases r with
    | tx o =>
      have := tx k o hk
      simp only [lawStep, hk] at h
      exact c_lput_tx nd (by omega) (by omega) p1 hk h
    | pt q =>
      simp only [lawStep, hk] at h
      exact c_lput_pt hk h
    | nm z =>
      have := nm k z hk
      simp only [lawStep, hk] at h
      exact c_lput_nm nd (by omega) (by omega) p1 this.1 hk h
theorem Cl.get2E {xs : List (Int × V)} {x y : V} {P : V → HH → Prop} (e : ogetD (dget xs k) x = y) (h : P y H) : Cl G n (.builtin "dict.get") [.dct xs, .int k, x] H P X := Cl.get2F (e ▸ h)
theorem own_none (h : dget ks k = none) : ogetD (dget (keptV ks) k) .none = .none := by rw [kept_get, h]; rfl
theorem own_some {r : Kp} (h : dget ks k = some r) : ogetD (dget (keptV ks) k) .none = keV r := by rw [kept_get, h]; rfl
theorem ke_other {r : Kp} {x : Str} (h : (match r with | .pt _ => (("point" : Str) == x) | .tx _ => (("text" : Str) == x) | .nm _ => (("number" : Str) == x)) = false) : ∃ y v, keV r = .tup [.str y, v] ∧ (y != x) = true := by
  cases r with
  | pt q =>
    have h : (("point" : Str) == x) = false := h
    exact ⟨_, _, rfl, by rw [bne, h]; rfl⟩
  | tx q =>
    have h : (("text" : Str) == x) = false := h
    exact ⟨_, _, rfl, by rw [bne, h]; rfl⟩
  | nm q =>
    have h : (("number" : Str) == x) = false := h
    exact ⟨_, _, rfl, by rw [bne, h]; rfl⟩
theorem c_due {w : Wd} {raw : Option Int} (L : LawOk T pt ks M) (hp : p = i + 1) (hp' : p' = j + 1) (hij : i ≤ j) (h : P (resV (lawStep w T pt ks k i j raw)) H) :
    Cd G (n + 4) (.ref 1146) [stV T pt ks, .tup [.str w.s, .int k, .int p, .int p', rawV raw]] H P X := by
  have lz := L.lz
  refine in__law_due ?_
  refine Es.cons ?_
  refine E1.asgT (ns := ["word", "sign", "low", "high", "raw"]) rfl (by kernel_rfl) rfl (fun _ => by kernel_rfl) ?_
  refine eNq m1 ?_
  refine ⟨_, _, rfl, (.cons (.keep (by kernel_rfl) (.keep (by kernel_rfl) .nil)) (.cons (.keep (by kernel_rfl) (.keep (by kernel_rfl) (.keep (by kernel_rfl) .nil))) (.cons (.keep (by kernel_rfl) (.keep (by kernel_rfl) (.keep (by kernel_rfl) (.keep (by kernel_rfl) .nil)))) (.cons (.keep (by kernel_rfl) (.keep (by kernel_rfl) (.keep (by kernel_rfl) (.keep (by kernel_rfl) (.keep (by kernel_rfl) .nil))))) (.cons (.keep (by kernel_rfl) (.keep (by kernel_rfl) (.keep (by kernel_rfl) (.keep (by kernel_rfl) (.keep (by kernel_rfl) (.keep (by kernel_rfl) .nil)))))) .nil))))), ?_⟩
  refine eAq (.keep (by kernel_rfl) (.keep (by kernel_rfl) (.keep (by kernel_rfl) (.keep (by kernel_rfl) (.keep (by kernel_rfl) (.keep (by kernel_rfl) (.keep (by kernel_rfl) .nil))))))) ?_
  with_reducible refine Ev.meth (by kernel_rfl) (by kernel_rfl) (by decide +kernel) (by kernel_rfl) ?_
  refine sTq m5 ?_
  with_reducible refine Mt.dgetF ⟨KeepV.blt _, ?_⟩
  refine aNq m3 ?_
  refine Ea.cons (by kernel_rfl) ?_
  with_reducible refine Ev.cnone ?_
  refine Ea.nil ?_
  cases w with
  | copy =>
    refine Cl.get2F ?_
    refine eIq ?_
    with_reducible refine Bt.cmp (by kernel_rfl) ?_
    refine eNq m5 ?_
    with_reducible refine Ev.tup ?_
    refine aSq ?_
    refine aSq ?_
    refine aSlq ?_
    with_reducible refine len_ok (by kernel_rfl!) ?_
    refine Cm.inT ["copy", "append", "prepend"] rfl ?_
    with_reducible refine ite_t' (by kernel_rfl!) ?_
    refine eRq ?_
    refine cGq (g_law_text _) ?_
    refine aNq m6 ?_
    refine aNq m5 ?_
    refine aNq m4 ?_
    refine aNq m3 ?_
    refine aNq m2 ?_
    refine Ea.cons (by kernel_rfl) ?_
    with_reducible refine Ev.cmp (by kernel_rfl) ?_
    refine eNq m1 ?_
    with_reducible refine Ev.cnone ?_
    refine Cm.isNotN ?_
    refine Ea.nil ?_
    rw [rawV_some]
    exact Cl.cd (c_ltext_any (.inl rfl) L hp hp' hij h)
  | append =>
    refine Cl.get2F ?_
    refine eIq ?_
    with_reducible refine Bt.cmp (by kernel_rfl) ?_
    refine eNq m5 ?_
    with_reducible refine Ev.tup ?_
    refine aSq ?_
    refine aSq ?_
    refine aSlq ?_
    with_reducible refine len_ok (by kernel_rfl!) ?_
    refine Cm.inT ["copy", "append", "prepend"] rfl ?_
    with_reducible refine ite_t' (by kernel_rfl!) ?_
    refine eRq ?_
    refine cGq (g_law_text _) ?_
    refine aNq m6 ?_
    refine aNq m5 ?_
    refine aNq m4 ?_
    refine aNq m3 ?_
    refine aNq m2 ?_
    refine Ea.cons (by kernel_rfl) ?_
    with_reducible refine Ev.cmp (by kernel_rfl) ?_
    refine eNq m1 ?_
    with_reducible refine Ev.cnone ?_
    refine Cm.isNotN ?_
    refine Ea.nil ?_
    rw [rawV_some]
    exact Cl.cd (c_ltext_any (.inr (.inl rfl)) L hp hp' hij h)
  | prepend =>
    refine Cl.get2F ?_
    refine eIq ?_
    with_reducible refine Bt.cmp (by kernel_rfl) ?_
    refine eNq m5 ?_
    with_reducible refine Ev.tup ?_
    refine aSq ?_
    refine aSq ?_
    refine aSlq ?_
    with_reducible refine len_ok (by kernel_rfl!) ?_
    refine Cm.inT ["copy", "append", "prepend"] rfl ?_
    with_reducible refine ite_t' (by kernel_rfl!) ?_
    refine eRq ?_
    refine cGq (g_law_text _) ?_
    refine aNq m6 ?_
    refine aNq m5 ?_
    refine aNq m4 ?_
    refine aNq m3 ?_
    refine aNq m2 ?_
    refine Ea.cons (by kernel_rfl) ?_
    with_reducible refine Ev.cmp (by kernel_rfl) ?_
    refine eNq m1 ?_
    with_reducible refine Ev.cnone ?_
    refine Cm.isNotN ?_
    refine Ea.nil ?_
    rw [rawV_some]
    exact Cl.cd (c_ltext_any (.inr (.inr rfl)) L hp hp' hij h)
  | insert =>
    refine Cl.get2F ?_
    refine eIq ?_
    with_reducible refine Bt.cmp (by kernel_rfl) ?_
    refine eNq m5 ?_
    with_reducible refine Ev.tup ?_
    refine aSq ?_
    refine aSq ?_
    refine aSlq ?_
    with_reducible refine len_ok (by kernel_rfl!) ?_
    refine Cm.inT ["copy", "append", "prepend"] rfl ?_
    refine iFq ?_
    refine eIq ?_
    refine bEq m5 ?_
    with_reducible refine ite_t' (by kernel_rfl!) ?_
    refine eRq ?_
    refine cGq (g_law_put _) ?_
    refine aNq m6 ?_
    refine aNq m4 ?_
    refine Ea.cons (by kernel_rfl) ?_
    with_reducible refine Ev.cmp (by kernel_rfl) ?_
    refine eNq m1 ?_
    with_reducible refine Ev.cnone ?_
    refine Cm.isNotN ?_
    refine Ea.nil ?_
    rw [rawV_some]
    exact Cl.cd (c_lput_any L h)
  | point =>
    refine Cl.get2F ?_
    refine eIq ?_
    with_reducible refine Bt.cmp (by kernel_rfl) ?_
    refine eNq m5 ?_
    with_reducible refine Ev.tup ?_
    refine aSq ?_
    refine aSq ?_
    refine aSlq ?_
    with_reducible refine len_ok (by kernel_rfl!) ?_
    refine Cm.inT ["copy", "append", "prepend"] rfl ?_
    refine iFq ?_
    refine eIq ?_
    refine bEq m5 ?_
    refine iFq ?_
    refine eIq ?_
    refine bEq m5 ?_
    with_reducible refine ite_t' (by kernel_rfl!) ?_
    refine eRq ?_
    refine cGq (g_law_kept _) ?_
    refine aNq m6 ?_
    refine aNq m4 ?_
    refine Ea.cons (by kernel_rfl) ?_
    with_reducible refine Ev.tup ?_
    refine aSq ?_
    refine Ea.cons (by kernel_rfl) ?_
    refine sTq m6 ?_
    refine Ea.nil ?_
    with_reducible refine len_ok (by kernel_rfl!) ?_
    refine Ea.nil ?_
    refine Cl.cd (c_kept (r := .pt pt) (by omega) ?_)
    exact h
  | number =>
    refine Cl.get2F ?_
    refine eIq ?_
    with_reducible refine Bt.cmp (by kernel_rfl) ?_
    refine eNq m5 ?_
    with_reducible refine Ev.tup ?_
    refine aSq ?_
    refine aSq ?_
    refine aSlq ?_
    with_reducible refine len_ok (by kernel_rfl!) ?_
    refine Cm.inT ["copy", "append", "prepend"] rfl ?_
    cases raw with
    | none =>
      refine iFq ?_
      refine eIq ?_
      refine bEq m5 ?_
      refine iFq ?_
      refine eIq ?_
      refine bEq m5 ?_
      refine iFq ?_
      refine eIq ?_
      refine bEq m5 ?_
      with_reducible refine ite_t' (by kernel_rfl!) ?_
      refine eRq ?_
      refine cGq (g_law_kept _) ?_
      refine aNq m6 ?_
      refine aNq m4 ?_
      refine Ea.cons (by kernel_rfl) ?_
      with_reducible refine Ev.tup ?_
      refine aSq ?_
      refine Ea.cons (by kernel_rfl) ?_
      with_reducible refine Ev.ife ?_
      refine bNq m1 ?_
      with_reducible refine ite_t' (by kernel_rfl!) ?_
      with_reducible refine Ev.cint ?_
      refine Ea.nil ?_
      with_reducible refine len_ok (by kernel_rfl!) ?_
      refine Ea.nil ?_
      refine Cl.cd (c_kept (r := .nm 0) (by omega) ?_)
      exact h
    | some z =>
      refine iFq ?_
      refine eIq ?_
      refine bEq m5 ?_
      refine iFq ?_
      refine eIq ?_
      refine bEq m5 ?_
      refine iFq ?_
      refine eIq ?_
      refine bEq m5 ?_
      with_reducible refine ite_t' (by kernel_rfl!) ?_
      refine eRq ?_
      refine cGq (g_law_kept _) ?_
      refine aNq m6 ?_
      refine aNq m4 ?_
      refine Ea.cons (by kernel_rfl) ?_
      with_reducible refine Ev.tup ?_
      refine aSq ?_
      refine Ea.cons (by kernel_rfl) ?_
      with_reducible refine Ev.ife ?_
      refine bNq m1 ?_
      with_reducible refine ite_f' (by kernel_rfl!) ?_
      refine eNq m1 ?_
      refine Ea.nil ?_
      with_reducible refine len_ok (by kernel_rfl!) ?_
      refine Ea.nil ?_
      refine Cl.cd (c_kept (r := .nm z) (by omega) ?_)
      exact h
  | jump =>
    cases hk : dget ks k with
    | none =>
      simp only [lawStep, hk] at h
      refine Cl.get2E (own_none hk) ?_
      refine eIq ?_
      with_reducible refine Bt.cmp (by kernel_rfl) ?_
      refine eNq m5 ?_
      with_reducible refine Ev.tup ?_
      refine aSq ?_
      refine aSq ?_
      refine aSlq ?_
      with_reducible refine len_ok (by kernel_rfl!) ?_
      refine Cm.inT ["copy", "append", "prepend"] rfl ?_
      refine iFq ?_
      refine eIq ?_
      refine bEq m5 ?_
      refine iFq ?_
      refine eIq ?_
      refine bEq m5 ?_
      refine iFq ?_
      refine eIq ?_
      refine bEq m5 ?_
      refine iFq ?_
      refine eIq ?_
      with_reducible refine Bt.or ?_
      refine bNq m0 ?_
      with_reducible refine ite_t' (by kernel_rfl!) ?_
      with_reducible refine ite_t' (by kernel_rfl!) ?_
      refine eRq ?_
      with_reducible refine Ev.cstr ?_
      exact h
    | some r =>
      by_cases hr : ∃ q, r = .pt q
      · obtain ⟨q, rfl⟩ := hr
        simp only [lawStep, hk] at h
        refine Cl.get2E (own_some hk) ?_
        refine eIq ?_
        with_reducible refine Bt.cmp (by kernel_rfl) ?_
        refine eNq m5 ?_
        with_reducible refine Ev.tup ?_
        refine aSq ?_
        refine aSq ?_
        refine aSlq ?_
        with_reducible refine len_ok (by kernel_rfl!) ?_
        refine Cm.inT ["copy", "append", "prepend"] rfl ?_
        refine iFq ?_
        refine eIq ?_
        refine bEq m5 ?_
        refine iFq ?_
        refine eIq ?_
        refine bEq m5 ?_
        refine iFq ?_
        refine eIq ?_
        refine bEq m5 ?_
        refine iFq ?_
        refine eIq ?_
        with_reducible refine Bt.or ?_
        refine bNq m0 ?_
        with_reducible refine ite_f' (by kernel_rfl!) ?_
        with_reducible refine Bt.or ?_
        with_reducible refine Bt.cmp (by kernel_rfl) ?_
        refine sTq m0 ?_
        with_reducible refine Ev.sub ?_
        refine Ev.sdict (by rfl) (by rfl) (by simp) (by decide) fun D => ?_
        refine Ed.cons ?_
        with_reducible refine Ev.cstr ?_
        with_reducible refine Ev.cstr ?_
        refine Ed.cons ?_
        with_reducible refine Ev.cstr ?_
        with_reducible refine Ev.cstr ?_
        refine Ed.nil ?_
        refine ⟨[("jump", .str "point"), ("more", .str "number")], rfl, by decide, rfl, _, rfl, ?_⟩
        refine eNq m5 ?_
        refine Sb.sd (by rfl) ?_
        refine Cm.neS ?_
        with_reducible refine ite_f' (by kernel_rfl!) ?_
        with_reducible refine Bt.orN ?_
        refine iFq ?_
        refine eIq ?_
        refine bEq m5 ?_
        with_reducible refine ite_t' (by kernel_rfl!) ?_
        refine eRq ?_
        with_reducible refine Ev.tup ?_
        refine Ea.cons (by kernel_rfl) ?_
        refine sTq m6 ?_
        refine Ea.cons (by kernel_rfl) ?_
        refine sTq m0 ?_
        refine Ea.cons (by kernel_rfl) ?_
        refine sTq m6 ?_
        refine Ea.nil ?_
        with_reducible refine len_ok (by kernel_rfl!) ?_
        exact h
      · obtain ⟨y, v, ey, hy⟩ := ke_other (r := r) (x := "point") (by cases r with | pt q => exact absurd ⟨q, rfl⟩ hr | tx q => kernel_rfl | nm q => kernel_rfl)
        have h : P (resV none) H := by
          simp only [lawStep, hk] at h
          cases r with
          | pt q => exact absurd ⟨q, rfl⟩ hr
          | tx q => exact h
          | nm q => exact h
        refine Cl.get2E ((own_some hk).trans ey) ?_
        refine eIq ?_
        with_reducible refine Bt.cmp (by kernel_rfl) ?_
        refine eNq m5 ?_
        with_reducible refine Ev.tup ?_
        refine aSq ?_
        refine aSq ?_
        refine aSlq ?_
        with_reducible refine len_ok (by kernel_rfl!) ?_
        refine Cm.inT ["copy", "append", "prepend"] rfl ?_
        refine iFq ?_
        refine eIq ?_
        refine bEq m5 ?_
        refine iFq ?_
        refine eIq ?_
        refine bEq m5 ?_
        refine iFq ?_
        refine eIq ?_
        refine bEq m5 ?_
        refine iFq ?_
        refine eIq ?_
        with_reducible refine Bt.or ?_
        refine bNq m0 ?_
        with_reducible refine ite_f' (by kernel_rfl!) ?_
        with_reducible refine Bt.or ?_
        with_reducible refine Bt.cmp (by kernel_rfl) ?_
        refine sTq m0 ?_
        with_reducible refine Ev.sub ?_
        refine Ev.sdict (by rfl) (by rfl) (by simp) (by decide) fun D => ?_
        refine Ed.cons ?_
        with_reducible refine Ev.cstr ?_
        with_reducible refine Ev.cstr ?_
        refine Ed.cons ?_
        with_reducible refine Ev.cstr ?_
        with_reducible refine Ev.cstr ?_
        refine Ed.nil ?_
        refine ⟨[("jump", .str "point"), ("more", .str "number")], rfl, by decide, rfl, _, rfl, ?_⟩
        refine eNq m5 ?_
        refine Sb.sd (by rfl) ?_
        refine Cm.neS ?_
        refine ite_t' hy ?_
        with_reducible refine ite_t' (by kernel_rfl!) ?_
        refine eRq ?_
        with_reducible refine Ev.cstr ?_
        exact h
  | more =>
    cases hk : dget ks k with
    | none =>
      simp only [lawStep, hk] at h
      refine Cl.get2E (own_none hk) ?_
      refine eIq ?_
      with_reducible refine Bt.cmp (by kernel_rfl) ?_
      refine eNq m5 ?_
      with_reducible refine Ev.tup ?_
      refine aSq ?_
      refine aSq ?_
      refine aSlq ?_
      with_reducible refine len_ok (by kernel_rfl!) ?_
      refine Cm.inT ["copy", "append", "prepend"] rfl ?_
      refine iFq ?_
      refine eIq ?_
      refine bEq m5 ?_
      refine iFq ?_
      refine eIq ?_
      refine bEq m5 ?_
      refine iFq ?_
      refine eIq ?_
      refine bEq m5 ?_
      refine iFq ?_
      refine eIq ?_
      with_reducible refine Bt.or ?_
      refine bNq m0 ?_
      with_reducible refine ite_t' (by kernel_rfl!) ?_
      with_reducible refine ite_t' (by kernel_rfl!) ?_
      refine eRq ?_
      with_reducible refine Ev.cstr ?_
      exact h
    | some r =>
      by_cases hr : ∃ q, r = .nm q
      · obtain ⟨z, rfl⟩ := hr
        simp only [lawStep, hk] at h
        refine Cl.get2E (own_some hk) ?_
        refine eIq ?_
        with_reducible refine Bt.cmp (by kernel_rfl) ?_
        refine eNq m5 ?_
        with_reducible refine Ev.tup ?_
        refine aSq ?_
        refine aSq ?_
        refine aSlq ?_
        with_reducible refine len_ok (by kernel_rfl!) ?_
        refine Cm.inT ["copy", "append", "prepend"] rfl ?_
        refine iFq ?_
        refine eIq ?_
        refine bEq m5 ?_
        refine iFq ?_
        refine eIq ?_
        refine bEq m5 ?_
        refine iFq ?_
        refine eIq ?_
        refine bEq m5 ?_
        refine iFq ?_
        refine eIq ?_
        with_reducible refine Bt.or ?_
        refine bNq m0 ?_
        with_reducible refine ite_f' (by kernel_rfl!) ?_
        with_reducible refine Bt.or ?_
        with_reducible refine Bt.cmp (by kernel_rfl) ?_
        refine sTq m0 ?_
        with_reducible refine Ev.sub ?_
        refine Ev.sdict (by rfl) (by rfl) (by simp) (by decide) fun D => ?_
        refine Ed.cons ?_
        with_reducible refine Ev.cstr ?_
        with_reducible refine Ev.cstr ?_
        refine Ed.cons ?_
        with_reducible refine Ev.cstr ?_
        with_reducible refine Ev.cstr ?_
        refine Ed.nil ?_
        refine ⟨[("jump", .str "point"), ("more", .str "number")], rfl, by decide, rfl, _, rfl, ?_⟩
        refine eNq m5 ?_
        refine Sb.sd (by rfl) ?_
        refine Cm.neS ?_
        with_reducible refine ite_f' (by kernel_rfl!) ?_
        with_reducible refine Bt.orN ?_
        refine iFq ?_
        refine eIq ?_
        refine bEq m5 ?_
        refine iFq ?_
        refine eRq ?_
        refine cGq (g_law_kept _) ?_
        refine aNq m6 ?_
        refine aNq m4 ?_
        refine Ea.cons (by kernel_rfl) ?_
        with_reducible refine Ev.tup ?_
        refine aSq ?_
        refine Ea.cons (by kernel_rfl) ?_
        with_reducible refine Ev.bin ?_
        refine sTq m0 ?_
        refine eNq m2 ?_
        refine Bn.add ?_
        refine Ea.nil ?_
        with_reducible refine len_ok (by kernel_rfl!) ?_
        refine Ea.nil ?_
        refine Cl.cd (c_kept (r := .nm (z + p')) (by omega) ?_)
        subst hp'
        exact h
      · obtain ⟨y, v, ey, hy⟩ := ke_other (r := r) (x := "number") (by cases r with | nm q => exact absurd ⟨q, rfl⟩ hr | tx q => kernel_rfl | pt q => kernel_rfl)
        have h : P (resV none) H := by
          simp only [lawStep, hk] at h
          cases r with
          | nm q => exact absurd ⟨q, rfl⟩ hr
          | tx q => exact h
          | pt q => exact h
        refine Cl.get2E ((own_some hk).trans ey) ?_
        refine eIq ?_
        with_reducible refine Bt.cmp (by kernel_rfl) ?_
        refine eNq m5 ?_
        with_reducible refine Ev.tup ?_
        refine aSq ?_
        refine aSq ?_
        refine aSlq ?_
        with_reducible refine len_ok (by kernel_rfl!) ?_
        refine Cm.inT ["copy", "append", "prepend"] rfl ?_
        refine iFq ?_
        refine eIq ?_
        refine bEq m5 ?_
        refine iFq ?_
        refine eIq ?_
        refine bEq m5 ?_
        refine iFq ?_
        refine eIq ?_
        refine bEq m5 ?_
        refine iFq ?_
        refine eIq ?_
        with_reducible refine Bt.or ?_
        refine bNq m0 ?_
        with_reducible refine ite_f' (by kernel_rfl!) ?_
        with_reducible refine Bt.or ?_
        with_reducible refine Bt.cmp (by kernel_rfl) ?_
        refine sTq m0 ?_
        with_reducible refine Ev.sub ?_
        refine Ev.sdict (by rfl) (by rfl) (by simp) (by decide) fun D => ?_
        refine Ed.cons ?_
        with_reducible refine Ev.cstr ?_
        with_reducible refine Ev.cstr ?_
        refine Ed.cons ?_
        with_reducible refine Ev.cstr ?_
        with_reducible refine Ev.cstr ?_
        refine Ed.nil ?_
        refine ⟨[("jump", .str "point"), ("more", .str "number")], rfl, by decide, rfl, _, rfl, ?_⟩
        refine eNq m5 ?_
        refine Sb.sd (by rfl) ?_
        refine Cm.neS ?_
        refine ite_t' hy ?_
        with_reducible refine ite_t' (by kernel_rfl!) ?_
        refine eRq ?_
        with_reducible refine Ev.cstr ?_
        exact h
end
noncomputable def toKp (ms : List (Addr × Int)) : Rg → Kp
  | .pt j => .pt (pos ms j)
  | .tx cs => .tx cs
  | .nm i => .nm i
noncomputable def keptOf (ms : List (Addr × Int)) (rs : List (Int × Rg)) : List (Int × Kp) := rs.map fun p => (p.1, toKp ms p.2)
theorem keptOf_get (ms : List (Addr × Int)) (rs : List (Int × Rg)) (k : Int) : dget (keptOf ms rs) k = (dget rs k).map (toKp ms) := dget_map _ k rs
theorem keptOf_set (ms : List (Addr × Int)) (rs : List (Int × Rg)) (k : Int) (r : Rg) : dset (keptOf ms rs) k (toKp ms r) = keptOf ms (dset rs k r) := dset_map _ k r rs
theorem dget_mem {α : Type} {k : Int} {v : α} : ∀ {l : List (Int × α)}, dget l k = some v → (k, v) ∈ l
  | (j, u) :: r, h => by
    rw [dget] at h
    by_cases q : j = k
    · rw [if_pos q] at h; cases h; rw [q]; exact .head _
    · rw [if_neg q] at h; exact .tail _ (dget_mem h)
/-- what is told of the signs in a list -/
noncomputable def told (ks : List (Int × Kp)) (l : List Int) : List (Int × Kp) := l.filterMap fun k => (dget ks k).map fun r => (k, r)
theorem told_mem {ks : List (Int × Kp)} {l : List Int} {p : Int × Kp} (h : p ∈ told ks l) : p.1 ∈ l ∧ dget ks p.1 = some p.2 := by
  obtain ⟨k, hk, e⟩ := List.mem_filterMap.mp h
  cases q : dget ks k with
  | none => rw [q] at e; cases e
  | some r => rw [q] at e; cases e; exact ⟨hk, q⟩
theorem told_step {ks : List (Int × Kp)} {l : List Int} {i : Nat} {k : Int} (h : l[i]? = some k) : told ks (l.take (i + 1)) = told ks (l.take i) ++ ((dget ks k).map fun r => (k, r)).toList := by
  have hi : i < l.length := (List.getElem?_eq_some_iff.mp h).1
  rw [List.getElem?_eq_getElem hi] at h
  cases h
  unfold told
  rw [List.take_succ_eq_append_getElem hi, List.filterMap_append]
  congr 1
theorem len_le_of_sub : ∀ {a b : List Int}, a.Nodup → (∀ x ∈ a, x ∈ b) → a.length ≤ b.length
  | [], _, _, _ => Nat.zero_le _
  | x :: a, b, nd, h => by
    rw [List.nodup_cons] at nd
    have hx := h x (.head _)
    have := len_le_of_sub (b := b.erase x) nd.2 fun y hy => (List.mem_erase_of_ne (fun e => nd.1 (by rw [← e]; exact hy))).mpr (h y (.tail _ hy))
    rw [List.length_erase_of_mem hx] at this
    have : 0 < b.length := List.length_pos_of_mem hx
    rw [List.length_cons]; omega
theorem dget_some {α : Type} {k : Int} : ∀ {l : List (Int × α)}, k ∈ l.map (·.1) → ∃ v, dget l k = some v
  | (j, u) :: r, h => by
    rw [dget]
    by_cases q : j = k
    · exact ⟨u, by rw [if_pos q]⟩
    · rw [if_neg q]
      rcases List.mem_cons.mp h with h | h
      · exact absurd h.symm q
      · exact dget_some h
theorem told_keys_nodup (ks : List (Int × Kp)) : ∀ {l : List Int}, l.Nodup → ((told ks l).map (·.1)).Nodup
  | [], _ => .nil
  | k :: l, nd => by
    rw [List.nodup_cons] at nd
    have ih := told_keys_nodup ks nd.2
    unfold told at ih ⊢
    rw [List.filterMap_cons]
    cases q : dget ks k with
    | none => exact ih
    | some r =>
      show ((k, r).1 :: _).Nodup
      rw [List.nodup_cons]
      refine ⟨fun h => ?_, ih⟩
      obtain ⟨p, hp, e⟩ := List.mem_map.mp h
      have := (told_mem (ks := ks) (l := l) hp).1
      rw [e] at this
      exact nd.1 this
theorem told_len {ks : List (Int × Kp)} {l : List Int} (nd : (ks.map (·.1)).Nodup) (hl : l.Nodup) (hs : ∀ p ∈ ks, p.1 ∈ l) : (told ks l).length = ks.length := by
  have h1 : ((told ks l).map (·.1)).length ≤ (ks.map (·.1)).length := len_le_of_sub (told_keys_nodup ks hl) fun x hx => by
    obtain ⟨p, hp, rfl⟩ := List.mem_map.mp hx
    exact List.mem_map_of_mem (f := (·.1)) (dget_mem (told_mem hp).2)
  have h2 : (ks.map (·.1)).length ≤ ((told ks l).map (·.1)).length := len_le_of_sub nd fun x hx => by
    obtain ⟨v, hv⟩ := dget_some hx
    obtain ⟨p, hp, rfl⟩ := List.mem_map.mp hx
    refine List.mem_map.mpr ⟨(p.1, v), ?_, rfl⟩
    exact List.mem_filterMap.mpr ⟨p.1, hs p hp, by rw [hv]; rfl⟩
  rw [List.length_map, List.length_map] at h1 h2
  omega
/-! equal values -/
theorem eqv_ints (k : Nat) (xs : List Int) : EqV (k + 1) (.lst (intV xs)) (.lst (intV xs)) := .lst rfl fun j x y hx hy => by
  rw [hx] at hy
  cases hy
  rw [List.getElem?_map] at hx
  cases q : xs[j]? with
  | none => rw [q] at hx; cases hx
  | some i => rw [q] at hx; cases hx; exact .int k i
theorem eqv_two {k : Nat} {a b : V} (ha : EqV k a a) (hb : EqV k b b) : EqV (k + 1) (.tup [a, b]) (.tup [a, b]) := by
  refine .tup rfl fun j x y hx hy => ?_
  rw [hx] at hy
  cases hy
  rcases j with _ | _ | j
  · cases hx; exact ha
  · cases hx; exact hb
  · cases hx
theorem eqv_ke (r : Kp) : EqV 3 (keV r) (keV r) := by
  cases r with
  | pt p => exact eqv_two (.str _ _) (.int _ _)
  | tx cs => exact eqv_two (.str _ _) (eqv_ints 1 cs)
  | nm i => exact eqv_two (.str _ _) (.int _ _)
theorem eqv_told {ks : List (Int × Kp)} {l : List Int} (nd : (ks.map (·.1)).Nodup) (hl : l.Nodup) (hs : ∀ p ∈ ks, p.1 ∈ l) : EqV 4 (.dct (keptV (told ks l))) (.dct (keptV ks)) := by
  have key : ∀ p ∈ keptV (told ks l), ∃ r, p.2 = keV r ∧ dget (keptV ks) p.1 = some (keV r) := by
    intro p hp
    obtain ⟨q, hq, rfl⟩ := List.mem_map.mp hp
    exact ⟨q.2, rfl, by rw [kept_get, (told_mem hq).2]; rfl⟩
  refine .dct (fun k => (dget (keptV ks) k).getD .none) ?_ (fun p hp => ?_) fun p hp => ?_
  · simp only [keptV, List.length_map, told_len nd hl hs]
  · obtain ⟨r, e1, e2⟩ := key p hp
    rw [e2]; rfl
  · obtain ⟨r, e1, e2⟩ := key p hp
    rw [e1, e2]
    exact eqv_ke r
section
variable {G : Gx} {n : Nat} {H H' R : HH} {X : Str → HH → Prop} {P : V → HH → Prop} {a : Ad} {σ : St} {N : Nat} {cs : List V} {s t : Nat} {tk ck : Int}
theorem ne_told {T : List Int} {pt : Int} {ks : List (Int × Kp)} {P : Bool → HH → Prop} (nd : (ks.map (·.1)).Nodup) (hs : ∀ p ∈ ks, p.1 ∈ ([97, 98, 99] : List Int)) (h : P false H) : Cm G (n + 1) .NotEq (stV T pt (told ks [97, 98, 99])) (stV T pt ks) H P X := by
  unfold stV
  refine Cm.neT rfl (fun j x y hx hy => ?_) h
  match j, hx, hy with
  | 0, hx, hy => cases hx; cases hy; exact eqv_ints 3 T
  | 1, hx, hy => cases hx; cases hy; exact .int _ _
  | 2, hx, hy => cases hx; cases hy; exact eqv_told nd (by decide) hs
  | j + 3, hx, _ => cases hx
theorem c_told (E : EdH a σ N R H cs s t tk ck) (hz : N ≤ 16777216) (hp : PtsOk σ)
    (h : ∀ H', EdH a σ N R H' cs s t tk ck → P (stV σ.T σ.pt (told (keptOf σ.ms σ.rs) [97, 98, 99])) H') : Cd G (n + 3) (.ref 1160) [.ref a.e] H P X := by
  have h := h H E
  obtain ⟨q, z, rfl⟩ := E
  refine in__law_told ?_
  refine Es.cons ?_
  refine E1.asgTS (ns := ["buffer", "kept"]) rfl rfl (fun _ => by kernel_rfl) ?_
  with_reducible refine Ev.tup ?_
  refine Ea.cons (by kernel_rfl) ?_
  with_reducible refine Ev.meth (by kernel_rfl) (by kernel_rfl) (by decide +kernel) (by kernel_rfl) ?_
  refine eNq m0 ?_
  with_reducible refine Mt.i m5 mth_Editor_current fun kv => ⟨kv, ?_⟩
  refine Ea.nil ?_
  refine Cl.cd (c_current m5 m6 m7 ?_)
  refine Ea.cons (by kernel_rfl) ?_
  refine Ev.dict0 fun D => ?_
  refine Ea.nil ?_
  with_reducible refine len_ok (by kernel_rfl!) ?_
  refine ⟨_, _, rfl, (.cons (.keep (by kernel_rfl) .nil) (.cons (.keep (by kernel_rfl) (.keep (by kernel_rfl) .nil)) .nil)), ?_⟩
  with_reducible refine Es.cons ?_
  refine E1.forB (σ := Unit) (fun _ => [("editor", .ref a.e), ("kept", .ref D), ("buffer", .ref a.b)]) (by kernel_rfl) (fun _ _ => rfl) (fun _ => by kernel_rfl) ?_
  with_reducible refine Ev.tup ?_
  refine aIq ?_
  refine aIq ?_
  refine aIlq ?_
  with_reducible refine len_ok (by kernel_rfl!) ?_
  refine ⟨[.int 97, .int 98, .int 99], fun i _ H' => H' = (D, .dict (keptV (told (keptOf σ.ms σ.rs) (([97, 98, 99] : List Int).take i)))) :: EdL a σ cs s t tk ck R, (), Itb.tup, (al1 m2 (al1 m1 (al1 m0 al0))), rfl, ?_, ?_⟩
  · rintro i y _ H' hy rfl
    obtain ⟨k, hk, rfl⟩ : ∃ k, ([97, 98, 99] : List Int)[i]? = some k ∧ y = .int k := by
      match i, hy with
      | 0, hy => exact ⟨97, rfl, by cases hy; rfl⟩
      | 1, hy => exact ⟨98, rfl, by cases hy; rfl⟩
      | 2, hy => exact ⟨99, rfl, by cases hy; rfl⟩
      | i + 3, hy => cases hy
    have hst := told_step (ks := keptOf σ.ms σ.rs) hk
    have hnew : ∀ p ∈ told (keptOf σ.ms σ.rs) (([97, 98, 99] : List Int).take i), p.1 ≠ k := by
      intro p hp e
      have := (told_mem hp).1
      rw [e] at this
      match i, hk, this with
      | 0, hk, h => cases hk; simp at h
      | 1, hk, h => cases hk; simp at h
      | 2, hk, h => cases hk; simp at h
      | i + 3, hk, _ => cases hk
    have hlen : (keptV (told (keptOf σ.ms σ.rs) (([97, 98, 99] : List Int).take i))).length ≤ 16777216 := by
      simp only [keptV, List.length_map, told]
      exact Nat.le_trans (List.length_filterMap_le _ _) (by rw [List.length_take]; exact Nat.le_trans (Nat.min_le_right _ _) (by decide))
    refine eAq (.keep (by kernel_rfl) (.keep (by kernel_rfl) (.keep (by kernel_rfl) (.keep (by kernel_rfl) .nil)))) ?_
    refine cGq (g_held _) ?_
    refine Ea.cons (by kernel_rfl) ?_
    refine tNq m1 m6 cls_Editor m0 ?_
    refine aLq m0 ?_
    refine Cl.cd (c_held m10 m11 ?_)
    rw [regs_get]
    rw [keptOf_get] at hst
    cases hr : dget σ.rs k with
    | none =>
      rw [hr] at hst
      simp only [Option.map_none, ogetD]
      refine eIq ?_
      refine bMq m0 ?_
      refine iFq ?_
      with_reducible refine Es.nil ?_
      refine ⟨(), (al1 m2 (al1 m3 (al1 m4 al0))), ?_⟩
      show (_ : HH) = _
      rw [hst]; simp
    | some r =>
      rw [hr] at hst
      simp only [Option.map_some, ogetD]
      have hset : dset (keptV (told (keptOf σ.ms σ.rs) (([97, 98, 99] : List Int).take i))) k (keV (toKp σ.ms r)) = keptV (told (keptOf σ.ms σ.rs) (([97, 98, 99] : List Int).take (i + 1))) := by
        rw [kept_set, dset_new hnew, hst]; rfl
      cases r with
      | pt j =>
        have hm := mk_mem (b := a.b) R (hp _ (dget_mem hr) j rfl)
        simp only [regV]
        refine eIq ?_
        refine bMq m0 ?_
        with_reducible refine ite_t' (by kernel_rfl!) ?_
        with_reducible refine Es.cons ?_
        with_reducible refine E1.asgS (by kernel_rfl) ?_
        with_reducible refine Ev.tup ?_
        refine Ea.cons (by kernel_rfl) ?_
        refine sTq m0 ?_
        refine Ea.cons (by kernel_rfl) ?_
        with_reducible refine Ev.ife ?_
        with_reducible refine Bt.cmp (by kernel_rfl) ?_
        refine sTq m0 ?_
        with_reducible refine Ev.cstr ?_
        refine Cm.eqS ?_
        with_reducible refine ite_t' (by kernel_rfl!) ?_
        with_reducible refine Ev.attr (by kernel_rfl) ?_
        refine sTq m0 ?_
        with_reducible refine At.i (mt (mt (mt (mt (mt (mt (mt (mt (mt (mt (mt (mt (by assumption))))))))))))) cls_Marker (by decide +kernel) m0 (by kernel_rfl) ?_
        refine Ea.nil ?_
        with_reducible refine len_ok (by kernel_rfl!) ?_
        refine eNq m3 ?_
        refine eNq m1 ?_
        refine Stt.dict .head hlen ?_
        rw [show V.tup [.str "point", .int (pos σ.ms j)] = keV (toKp σ.ms (.pt j)) from rfl, hset]
        with_reducible refine Es.nil ?_
        with_reducible refine Es.nil ?_
        exact ⟨(), (al1 m2 (al1 m3 (al1 m4 al0))), rfl⟩
      | tx c =>
        simp only [regV]
        refine eIq ?_
        refine bMq m0 ?_
        with_reducible refine ite_t' (by kernel_rfl!) ?_
        with_reducible refine Es.cons ?_
        with_reducible refine E1.asgS (by kernel_rfl) ?_
        with_reducible refine Ev.tup ?_
        refine Ea.cons (by kernel_rfl) ?_
        refine sTq m0 ?_
        refine Ea.cons (by kernel_rfl) ?_
        with_reducible refine Ev.ife ?_
        with_reducible refine Bt.cmp (by kernel_rfl) ?_
        refine sTq m0 ?_
        with_reducible refine Ev.cstr ?_
        refine Cm.eqS ?_
        with_reducible refine ite_f' (by kernel_rfl!) ?_
        refine sTq m0 ?_
        refine Ea.nil ?_
        with_reducible refine len_ok (by kernel_rfl!) ?_
        refine eNq m3 ?_
        refine eNq m1 ?_
        refine Stt.dict .head hlen ?_
        rw [show V.tup [.str "text", .lst (intV c)] = keV (toKp σ.ms (.tx c)) from rfl, hset]
        with_reducible refine Es.nil ?_
        with_reducible refine Es.nil ?_
        exact ⟨(), (al1 m2 (al1 m3 (al1 m4 al0))), rfl⟩
      | nm c =>
        simp only [regV]
        refine eIq ?_
        refine bMq m0 ?_
        with_reducible refine ite_t' (by kernel_rfl!) ?_
        with_reducible refine Es.cons ?_
        with_reducible refine E1.asgS (by kernel_rfl) ?_
        with_reducible refine Ev.tup ?_
        refine Ea.cons (by kernel_rfl) ?_
        refine sTq m0 ?_
        refine Ea.cons (by kernel_rfl) ?_
        with_reducible refine Ev.ife ?_
        with_reducible refine Bt.cmp (by kernel_rfl) ?_
        refine sTq m0 ?_
        with_reducible refine Ev.cstr ?_
        refine Cm.eqS ?_
        with_reducible refine ite_f' (by kernel_rfl!) ?_
        refine sTq m0 ?_
        refine Ea.nil ?_
        with_reducible refine len_ok (by kernel_rfl!) ?_
        refine eNq m3 ?_
        refine eNq m1 ?_
        refine Stt.dict .head hlen ?_
        rw [show V.tup [.str "number", .int c] = keV (toKp σ.ms (.nm c)) from rfl, hset]
        with_reducible refine Es.nil ?_
        with_reducible refine Es.nil ?_
        exact ⟨(), (al1 m2 (al1 m3 (al1 m4 al0))), rfl⟩
  · rintro _ loc' H' hb rfl
    refine Es.names hb ?_
    refine Es.frz (H' := EdL a σ cs s t tk ck R) (loc' := [("kept", .dct _), ("editor", .ref a.e), ("buffer", .ref a.b)]) (.refl _) (al1 (.inr ⟨rfl, m1⟩) (al1 (.inl m0) (al1 (.inl m2) al0))) ?_
    refine eRq ?_
    with_reducible refine Ev.tup ?_
    refine Ea.cons (by kernel_rfl) ?_
    with_reducible refine Ev.meth (by kernel_rfl) (by kernel_rfl) (by decide +kernel) (by kernel_rfl) ?_
    refine eNq m2 ?_
    with_reducible refine Mt.i m0 mth_Buffer_codes fun kv => ⟨kv, ?_⟩
    refine aIq ?_
    refine Ea.cons (by kernel_rfl) ?_
    with_reducible refine Ev.bin ?_
    with_reducible refine Ev.meth (by kernel_rfl) (by kernel_rfl) (by decide +kernel) (by kernel_rfl) ?_
    refine eNq m2 ?_
    with_reducible refine Mt.i m0 mth_Buffer_size fun kv => ⟨kv, ?_⟩
    refine Ea.nil ?_
    refine Cl.cd (c_Buffer_size q m0 m1 m2 (by omega) ?_)
    with_reducible refine Ev.cint ?_
    refine Bn.add ?_
    refine Ea.nil ?_
    refine Cl.cd (c_Buffer_codes (i := 0) (j := (intV σ.T).length) q m0 m1 m2 (by omega) (by omega) rfl (Nat.zero_le _) ?_)
    refine Ea.cons (by kernel_rfl) ?_
    refine tNq m2 m0 cls_Buffer m10 ?_
    refine aLq m0 ?_
    with_reducible refine len_ok (by kernel_rfl!) ?_
    have e : cut (intV σ.T) 0 (intV σ.T).length = intV σ.T := by
      unfold cut
      rw [List.drop_zero, Nat.sub_zero, List.take_length]
    rw [e]
    exact h
end
theorem codesOf_len {z : Int} (h0 : 0 ≤ z) (h1 : z < 10 ^ 9) : (codesOf z).length ≤ 9 := by
  obtain ⟨m, rfl⟩ := Int.eq_ofNat_of_zero_le h0
  have hm : m < 10 ^ 9 := by
    have : (10 : Int) ^ 9 = ((10 ^ 9 : Nat) : Int) := by decide
    omega
  unfold codesOf
  rw [List.length_map, Str.ofString_eq_toList]
  show (((toString ((m : Nat) : Int)).toList.map Char.toNat).toArray.toList).length ≤ 9
  rw [List.toList_toArray, List.length_map]
  have : toString ((m : Nat) : Int) = Nat.repr m := rfl
  rw [this]
  exact (Nat.length_repr_le_iff (by decide)).mpr hm
theorem log2_small {z : Int} (h1 : z.natAbs < 10 ^ 9) : z.natAbs.log2 < 1920 := by
  by_cases h : z.natAbs = 0
  · rw [h]; decide
  · have := (Nat.log2_lt h (k := 30)).mpr (Nat.lt_of_lt_of_le h1 (by decide))
    omega
structure Good (σ : St) (M : Nat) : Prop where
  p1 : 1 ≤ σ.pt
  p2 : σ.pt ≤ σ.T.length + 1
  tM : σ.T.length ≤ M
  mr : ∀ x ∈ σ.ms, 1 ≤ x.2 ∧ x.2 ≤ σ.T.length + 1
  nd : (σ.rs.map (·.1)).Nodup
  ke : ∀ p ∈ σ.rs, p.1 ∈ ([97, 98, 99] : List Int)
  pts : PtsOk σ
  tx : ∀ p ∈ σ.rs, ∀ o, p.2 = .tx o → o.length ≤ M
  nm : ∀ p ∈ σ.rs, ∀ z, p.2 = .nm z → 0 ≤ z ∧ z ≤ M
section
variable {σ : St} {M : Nat}
theorem Good.len (g : Good σ M) : σ.rs.length ≤ 3 := by
  have := len_le_of_sub g.nd (b := [97, 98, 99]) fun x hx => by
    obtain ⟨p, hp, rfl⟩ := List.mem_map.mp hx
    exact g.ke p hp
  rw [List.length_map] at this
  exact this
theorem keptOf_keys (ms : List (Addr × Int)) (rs : List (Int × Rg)) : (keptOf ms rs).map (·.1) = rs.map (·.1) := by
  unfold keptOf
  rw [List.map_map]; rfl
theorem Good.law (g : Good σ M) (h1 : 100 ≤ M) (h2 : M ≤ 700000) : LawOk σ.T σ.pt (keptOf σ.ms σ.rs) M := by
  refine ⟨by rw [keptOf_keys]; exact g.nd, by have := g.len; simp only [keptOf, List.length_map]; omega, g.tM, by omega, g.p1, fun k o h => ?_, fun k z h => ?_⟩
  · rw [keptOf_get] at h
    cases hr : dget σ.rs k with
    | none => rw [hr] at h; cases h
    | some r =>
      rw [hr] at h
      cases r with
      | tx c => cases h; exact g.tx _ (dget_mem hr) _ rfl
      | pt j => cases h
      | nm z => cases h
  · rw [keptOf_get] at h
    cases hr : dget σ.rs k with
    | none => rw [hr] at h; cases h
    | some r =>
      rw [hr] at h
      cases r with
      | tx c => cases h
      | pt j => cases h
      | nm z' =>
        cases h
        obtain ⟨a, b⟩ := g.nm _ (dget_mem hr) _ rfl
        have : (M : Int) < 10 ^ 9 := by have : (10 : Int) ^ 9 = 1000000000 := by decide
                                        omega
        exact ⟨log2_small (by omega), Nat.le_trans (codesOf_len a (by omega)) (by omega)⟩
theorem dset_mem {α : Type} {k : Int} {v : α} : ∀ {l : List (Int × α)}, ∀ p ∈ dset l k v, p = (k, v) ∨ p ∈ l
  | [], p, h => by rw [dset, List.mem_singleton] at h; exact .inl h
  | (j, u) :: r, p, h => by
    rw [dset] at h
    by_cases q : j = k
    · rw [if_pos q] at h
      rcases List.mem_cons.mp h with h | h
      · exact .inl (by rw [h, q])
      · exact .inr (.tail _ h)
    · rw [if_neg q] at h
      rcases List.mem_cons.mp h with h | h
      · exact .inr (by rw [h]; exact .head _)
      · rcases dset_mem p h with h | h
        · exact .inl h
        · exact .inr (.tail _ h)
theorem Good.set (g : Good σ M) {k : Int} {r : Rg} {M' : Nat} (hM : M ≤ M') (hk : k ∈ ([97, 98, 99] : List Int)) (h1 : ∀ j, r = .pt j → j < σ.ms.length) (h2 : ∀ o, r = .tx o → o.length ≤ M') (h3 : ∀ z, r = .nm z → 0 ≤ z ∧ z ≤ M') : Good (setReg σ k r) M' := by
  refine ⟨g.p1, g.p2, Nat.le_trans g.tM hM, g.mr, dset_nodup _ _ _ g.nd, fun p hp => ?_, fun p hp j e => ?_, fun p hp o e => ?_, fun p hp z e => ?_⟩
  · rcases dset_mem p hp with rfl | hp
    · exact hk
    · exact g.ke p hp
  · rcases dset_mem p hp with rfl | hp
    · exact h1 j e
    · exact g.pts p hp j e
  · rcases dset_mem p hp with rfl | hp
    · exact h2 o e
    · exact Nat.le_trans (g.tx p hp o e) hM
  · rcases dset_mem p hp with rfl | hp
    · exact h3 z e
    · obtain ⟨a, b⟩ := g.nm p hp z e
      exact ⟨a, by omega⟩
theorem kept_setReg (k : Int) (r : Rg) : keptOf (setReg σ k r).ms (setReg σ k r).rs = dset (keptOf σ.ms σ.rs) k (toKp σ.ms r) := (keptOf_set σ.ms σ.rs k r).symm
theorem pos_map (f : Int → Int) {ms : List (Addr × Int)} {j : Nat} (h : j < ms.length) : pos (ms.map fun x => (x.1, f x.2)) j = f (pos ms j) := by
  unfold pos
  rw [List.getElem?_map, List.getElem?_eq_getElem h]
  rfl
theorem kept_moved (f : Int → Int) (place gone come : Int) (g : PtsOk σ) (hf : ∀ p, Kp.pt (f p) = movK place gone come (.pt p)) : keptOf (σ.ms.map fun x => (x.1, f x.2)) σ.rs = movedK place gone come (keptOf σ.ms σ.rs) := by
  unfold keptOf movedK
  rw [List.map_map]
  refine List.map_congr_left fun p hp => ?_
  obtain ⟨k, r⟩ := p
  cases r with
  | pt j =>
    have := g _ hp j rfl
    simp only [toKp, Function.comp, pos_map f this, hf]
  | tx c => rfl
  | nm z => rfl
theorem Good.del (g : Good σ M) {i j : Nat} (hij : i ≤ j) (hj : j ≤ σ.T.length) : Good (delSt σ i j) M := by
  have hl : (σ.T.take i ++ σ.T.drop j).length = σ.T.length - (j - i) := by rw [List.length_append, List.length_take, List.length_drop]; omega
  have p1 := g.p1; have p2 := g.p2; have tM := g.tM
  refine ⟨?_, ?_, ?_, fun x hx => ?_, g.nd, g.ke, fun p hp j e => ?_, g.tx, g.nm⟩
  · simp only [delSt, ptOut]; split <;> omega
  · simp only [delSt, ptOut, hl]; split <;> omega
  · simp only [delSt, hl]; omega
  · simp only [delSt] at hx ⊢
    obtain ⟨y, hy, rfl⟩ := List.mem_map.mp hx
    have := g.mr y hy
    simp only [hl, mvOut]
    split
    · omega
    · split <;> omega
  · have := g.pts p hp j e
    simp only [delSt, List.length_map]; exact this
theorem kept_del (g : Good σ M) {i j : Nat} (hij : i ≤ j) : keptOf (delSt σ i j).ms (delSt σ i j).rs = movedK ((i : Int) + 1) ((j + 1 : Int) - (i + 1)) 0 (keptOf σ.ms σ.rs) := by
  simp only [delSt]
  refine kept_moved _ _ _ _ g.pts fun p => ?_
  simp only [mvOut, movK]
  congr 1
  by_cases h1 : (j : Int) + 1 < p
  · rw [if_pos h1, if_pos (by omega)]
    by_cases h3 : 0 < (j + 1 : Int) - (i + 1)
    · rw [if_pos h3]; omega
    · rw [if_neg h3]; omega
  · rw [if_neg h1]
    by_cases h2 : (i : Int) + 1 < p
    · rw [if_pos h2, if_pos h2, if_pos (by omega)]; omega
    · rw [if_neg h2, if_neg h2]
theorem Good.ins (g : Good σ M) {zs : List Int} (hz : zs.length ≤ M) (ah : Bool) : Good (insSt' σ zs ah) (3 * M) := by
  have p1 := g.p1; have p2 := g.p2; have tM := g.tM
  have hl : (σ.T.take (σ.pt - 1).toNat ++ zs ++ σ.T.drop (σ.pt - 1).toNat).length = σ.T.length + zs.length := by simp only [List.length_append, List.length_take, List.length_drop]; omega
  refine ⟨?_, ?_, ?_, fun x hx => ?_, g.nd, g.ke, fun p hp j e => ?_, fun p hp o e => ?_, fun p hp z e => ?_⟩
  · simp only [insSt', insSt]; split <;> omega
  · simp only [insSt', insSt, hl]; split <;> omega
  · simp only [insSt', insSt, hl]; omega
  · simp only [insSt', insSt] at hx ⊢
    obtain ⟨y, hy, rfl⟩ := List.mem_map.mp hx
    have := g.mr y hy
    simp only [hl, mvIn]
    split <;> omega
  · have := g.pts p hp j e
    simp only [insSt', insSt, List.length_map]; exact this
  · exact Nat.le_trans (g.tx p hp o e) (by omega)
  · obtain ⟨a, b⟩ := g.nm p hp z e
    exact ⟨a, by omega⟩
theorem kept_ins (g : Good σ M) (zs : List Int) (ah : Bool) : keptOf (insSt' σ zs ah).ms (insSt' σ zs ah).rs = movedK σ.pt 0 zs.length (keptOf σ.ms σ.rs) := by
  simp only [insSt', insSt]
  refine kept_moved _ _ _ _ g.pts fun p => ?_
  simp only [mvIn, movK]
  congr 1
  split
  · rw [if_neg (by decide)]; omega
  · rfl
theorem Good.add (g : Good σ M) {k : Int} {x : Addr} (hk : k ∈ ([97, 98, 99] : List Int)) : Good (addPt σ k x) M := by
  refine ⟨g.p1, g.p2, g.tM, fun y hy => ?_, dset_nodup _ _ _ g.nd, fun p hp => ?_, fun p hp j e => ?_, fun p hp o e => ?_, fun p hp z e => ?_⟩
  · rcases List.mem_append.mp hy with hy | hy
    · exact g.mr y hy
    · rw [List.mem_singleton] at hy
      subst hy
      exact ⟨g.p1, g.p2⟩
  · rcases dset_mem p hp with rfl | hp
    · exact hk
    · exact g.ke p hp
  · simp only [addPt, List.length_append, List.length_singleton]
    rcases dset_mem p hp with rfl | hp
    · cases e; omega
    · have := g.pts p hp j e
      omega
  · rcases dset_mem p hp with rfl | hp
    · cases e
    · exact g.tx p hp o e
  · rcases dset_mem p hp with rfl | hp
    · cases e
    · exact g.nm p hp z e
theorem pos_app {ms : List (Addr × Int)} {y : Addr × Int} {j : Nat} (h : j < ms.length) : pos (ms ++ [y]) j = pos ms j := by
  unfold pos; rw [List.getElem?_append_left h]
theorem pos_new {ms : List (Addr × Int)} {y : Addr × Int} : pos (ms ++ [y]) ms.length = y.2 := by
  unfold pos; simp
theorem kept_add (g : Good σ M) (k : Int) (x : Addr) : keptOf (addPt σ k x).ms (addPt σ k x).rs = dset (keptOf σ.ms σ.rs) k (.pt σ.pt) := by
  have e1 : keptOf (σ.ms ++ [(x, σ.pt)]) σ.rs = keptOf σ.ms σ.rs := by
    unfold keptOf
    refine List.map_congr_left fun p hp => ?_
    obtain ⟨k, r⟩ := p
    cases r with
    | pt j => simp only [toKp]; rw [pos_app (g.pts _ hp j rfl)]
    | tx _ => rfl
    | nm _ => rfl
  have e2 : Kp.pt σ.pt = toKp (σ.ms ++ [(x, σ.pt)]) (.pt σ.ms.length) := by simp only [toKp, pos_new]
  rw [← e1, e2, keptOf_set]
  rfl
theorem Good.jump (g : Good σ M) {j : Nat} (hj : j < σ.ms.length) : Good { σ with pt := pos σ.ms j } M ∧ 1 ≤ pos σ.ms j ∧ pos σ.ms j ≤ σ.T.length + 1 := by
  have hp : pos σ.ms j = σ.ms[j].2 := by unfold pos; rw [List.getElem?_eq_getElem hj]; rfl
  have := g.mr _ (List.getElem_mem hj)
  rw [← hp] at this
  exact ⟨⟨this.1, this.2, g.tM, g.mr, g.nd, g.ke, g.pts, g.tx, g.nm⟩, this⟩
theorem Good.more (g : Good σ M) {M' : Nat} (h : M ≤ M') : Good σ M' :=
  ⟨g.p1, g.p2, Nat.le_trans g.tM h, g.mr, g.nd, g.ke, g.pts, fun p hp o e => Nat.le_trans (g.tx p hp o e) h, fun p hp z e => let ⟨a, b⟩ := g.nm p hp z e; ⟨a, by omega⟩⟩
theorem EdH.more {a : Ad} {N N' : Nat} {R H : HH} {cs : List V} {s t : Nat} {tk ck : Int} (E : EdH a σ N R H cs s t tk ck) (h : N ≤ N') : EdH a σ N' R H cs s t tk ck := ⟨E.q, Nat.le_trans E.z h, E.e⟩
end
noncomputable def doRows : List (Str × V) := [("copy", .val (.ref 429)), ("append", .val (.ref 436)), ("prepend", .val (.ref 443))]
section
variable {G : Gx} {n : Nat} {H H' R : HH} {X : Str → HH → Prop} {P : V → HH → Prop} {a : Ad} {σ : St} {N M : Nat} {cs : List V} {s t : Nat} {tk ck : Int}
/-- what a deed leaves, when the law's own step gives res -/
noncomputable def Left (a : Ad) (σ : St) (M : Nat) (R : HH) (P : V → HH → Prop) (H : HH) : Option LS → Prop
  | none => P (.str "user-error") H
  | some r => ∀ σ' H' cs' s' t' tk' ck', EdH a σ' (6 * M) R H' cs' s' t' tk' ck' → σ'.T = r.1 → σ'.pt = r.2.1 → keptOf σ'.ms σ'.rs = r.2.2 → Good σ' (3 * M) → σ'.ms.length ≤ σ.ms.length + 1 → P .none H'
theorem left_text {zs : List Int} {k : Int} {i j : Nat} {d : Bool} (g : Good σ M) (hN : N ≤ 2 * M) (hij : i ≤ j) (hj : j ≤ σ.T.length) (hk : k ∈ ([97, 98, 99] : List Int)) (hz : zs.length ≤ 3 * M)
    (h : Left a σ M R P H (some (keepTx σ.T σ.pt (keptOf σ.ms σ.rs) k i j zs d))) (E : EdH a (if d = true then delSt (setReg σ k (.tx zs)) i j else setReg σ k (.tx zs)) N R H' cs s t tk ck) : P .none H' := by
  have gs : Good (setReg σ k (.tx zs)) (3 * M) := g.set (by omega) hk (fun j e => by cases e) (fun o e => by cases e; exact hz) (fun z e => by cases e)
  cases d with
  | true =>
    rw [if_pos rfl] at E
    refine h _ _ _ _ _ _ _ (E.more (by omega)) rfl rfl ?_ (gs.del hij hj) (by simp [delSt, setReg])
    rw [kept_del gs hij, kept_setReg]; rfl
  | false =>
    rw [if_neg (by decide)] at E
    exact h _ _ _ _ _ _ _ (E.more (by omega)) rfl rfl (kept_setReg _ _) gs (Nat.le_succ _)
theorem left_ins {zs : List Int} {ah : Bool} {d : Bool} (g : Good σ M) (hz : zs.length ≤ M) (hd : d = !ah) (hN : N ≤ 6 * M) (h : Left a σ M R P H (some (putTx σ.T σ.pt (keptOf σ.ms σ.rs) zs d))) (E : EdH a (insSt' σ zs ah) N R H' cs s t tk ck) : P .none H' := by
  refine h _ _ _ _ _ _ _ (E.more hN) rfl ?_ (kept_ins g zs ah) (g.ins hz ah) (by simp [insSt', insSt])
  subst hd
  cases ah <;> rfl
theorem left_reg {k : Int} {r : Rg} (g : Good σ M) (hN : N ≤ 2 * M) (hk : k ∈ ([97, 98, 99] : List Int)) (h1 : ∀ j, r = .pt j → j < σ.ms.length) (h2 : ∀ o, r = .tx o → o.length ≤ 3 * M) (h3 : ∀ z, r = .nm z → 0 ≤ z ∧ z ≤ (3 * M : Nat))
    (h : Left a σ M R P H (some (σ.T, σ.pt, dset (keptOf σ.ms σ.rs) k (toKp σ.ms r)))) (E : EdH a (setReg σ k r) N R H' cs s t tk ck) : P .none H' :=
  h _ _ _ _ _ _ _ (E.more (by omega)) rfl rfl (kept_setReg k r) (g.set (by omega) hk h1 h2 h3) (Nat.le_succ _)
theorem c_does {w : Wd} {raw : Option Int} {k p p' : Int} {i j : Nat} (E : EdH a σ N R H cs s t tk ck) (g : Good σ M) (hN : N ≤ 2 * M) (hM1 : 100 ≤ M) (hM2 : M ≤ 700000) (hm : σ.ms.length < 60) (hp : p = i + 1) (hp' : p' = j + 1) (hij : i ≤ j) (hj : j ≤ σ.T.length)
    (hraw : ∀ z, raw = some z → 0 ≤ z ∧ z ≤ 4) (hk : k ∈ ([97, 98, 99] : List Int)) (h : Left a σ M R P H (lawStep w σ.T σ.pt (keptOf σ.ms σ.rs) k i j raw)) :
    Cd G (n + 8) (.ref 1153) [.ref a.e, .tup [.str w.s, .int k, .int p, .int p', rawV raw]] H P X := by
  have hrs := g.len
  have tM := g.tM
  have hcut : (cut σ.T i j).length ≤ σ.T.length := by unfold cut; rw [List.length_take, List.length_drop]; omega
  have h64 : σ.ms.length < 64 := Nat.lt_of_lt_of_le hm (by decide)
  have h2N : 2 * N ≤ 16777216 := by clear hp hp' hcut; omega
  have hr64 : σ.rs.length ≤ 64 := Nat.le_trans hrs (by decide)
  have hc3 : (cut σ.T i j).length ≤ 3 * M := by clear hp hp'; omega
  refine in__law_does ?_
  refine Es.cons ?_
  refine E1.asgT (ns := ["word", "sign", "low", "high", "raw"]) rfl (by kernel_rfl) rfl (fun _ => by kernel_rfl) ?_
  refine eNq m1 ?_
  refine ⟨_, _, rfl, (.cons (.keep (by kernel_rfl) (.keep (by kernel_rfl) .nil)) (.cons (.keep (by kernel_rfl) (.keep (by kernel_rfl) (.keep (by kernel_rfl) .nil))) (.cons (.keep (by kernel_rfl) (.keep (by kernel_rfl) (.keep (by kernel_rfl) (.keep (by kernel_rfl) .nil)))) (.cons (.keep (by kernel_rfl) (.keep (by kernel_rfl) (.keep (by kernel_rfl) (.keep (by kernel_rfl) (.keep (by kernel_rfl) .nil))))) (.cons (.keep (by kernel_rfl) (.keep (by kernel_rfl) (.keep (by kernel_rfl) (.keep (by kernel_rfl) (.keep (by kernel_rfl) (.keep (by kernel_rfl) .nil)))))) .nil))))), ?_⟩
  refine eAq (.keep (by kernel_rfl) (.keep (by kernel_rfl) (.keep (by kernel_rfl) (.keep (by kernel_rfl) (.keep (by kernel_rfl) (.keep (by kernel_rfl) (.keep (by kernel_rfl) .nil))))))) ?_
  refine Ev.sdict (by rfl) (by rfl) (by simp) (by decide) fun D => ?_
  refine Ed.cons ?_
  with_reducible refine Ev.cstr ?_
  with_reducible refine Ev.glob (g_do_copy_to_register _) (by kernel_rfl) ?_
  refine Ed.cons ?_
  with_reducible refine Ev.cstr ?_
  with_reducible refine Ev.glob (g_do_append_to_register _) (by kernel_rfl) ?_
  refine Ed.cons ?_
  with_reducible refine Ev.cstr ?_
  with_reducible refine Ev.glob (g_do_prepend_to_register _) (by kernel_rfl) ?_
  refine Ed.nil ?_
  refine ⟨doRows, rfl, by decide, rfl, _, rfl, ?_⟩
  refine Es.cons ?_
  refine E1.tryRet (g_LispSignal _) (by kernel_rfl) (by kernel_rfl) ?_
  cases w with
  | copy =>
    refine eIq ?_
    with_reducible refine Bt.cmp (by kernel_rfl) ?_
    refine eNq m5 ?_
    refine eNq m0 ?_
    refine Cm.inSD ?_
    with_reducible refine ite_t' (by kernel_rfl!) ?_
    refine eAq (.keep (by kernel_rfl) (.keep (by kernel_rfl) (.keep (by kernel_rfl) (.keep (by kernel_rfl) (.keep (by kernel_rfl) (.keep (by kernel_rfl) (.keep (by kernel_rfl) (.keep (by kernel_rfl) .nil)))))))) ?_
    with_reducible refine Ev.sub ?_
    refine eNq m0 ?_
    refine eNq m5 ?_
    refine Sb.sd (by rfl) ?_
    refine eXq ?_
    with_reducible refine Ev.call (by kernel_rfl) ?_
    refine eNq m0 ?_
    with_reducible refine ⟨_, rfl, KeepV.K (by kernel_rfl), ?_⟩
    refine aNq m7 ?_
    refine Ea.cons (by kernel_rfl) ?_
    with_reducible refine Ev.lst ?_
    refine aNq m5 ?_
    refine aNq m4 ?_
    refine aNq m3 ?_
    refine aLq m2 ?_
    with_reducible refine len_ok (by kernel_rfl!) ?_
    refine Or.inl ?_
    refine Ea.nil ?_
    refine Cl.cd (c_do_copy E hp hp' hij hj h64 h2N hr64 fun H' cs' s' t' tk' ck' E₂ => ?_)
    with_reducible refine Es.nil ?_
    with_reducible refine Es.nil ?_
    refine eRq ?_
    with_reducible refine Ev.cnone ?_
    have e : raw.isSome = !(rawV raw).isNone := by cases raw <;> rfl
    simp only [lawStep, e] at h
    exact left_text g hN hij hj hk hc3 h E₂
  | append =>
    refine eIq ?_
    with_reducible refine Bt.cmp (by kernel_rfl) ?_
    refine eNq m5 ?_
    refine eNq m0 ?_
    refine Cm.inSD ?_
    with_reducible refine ite_t' (by kernel_rfl!) ?_
    refine eAq (.keep (by kernel_rfl) (.keep (by kernel_rfl) (.keep (by kernel_rfl) (.keep (by kernel_rfl) (.keep (by kernel_rfl) (.keep (by kernel_rfl) (.keep (by kernel_rfl) (.keep (by kernel_rfl) .nil)))))))) ?_
    with_reducible refine Ev.sub ?_
    refine eNq m0 ?_
    refine eNq m5 ?_
    refine Sb.sd (by rfl) ?_
    refine eXq ?_
    with_reducible refine Ev.call (by kernel_rfl) ?_
    refine eNq m0 ?_
    with_reducible refine ⟨_, rfl, KeepV.K (by kernel_rfl), ?_⟩
    refine aNq m7 ?_
    refine Ea.cons (by kernel_rfl) ?_
    with_reducible refine Ev.lst ?_
    refine aNq m5 ?_
    refine aNq m4 ?_
    refine aNq m3 ?_
    refine aLq m2 ?_
    with_reducible refine len_ok (by kernel_rfl!) ?_
    refine Or.inl ?_
    refine Ea.nil ?_
    cases hr : dget σ.rs k with
    | none =>
      simp only [lawStep, keptOf_get, hr, Option.map_none] at h
      refine Cl.cd (c_do_append E (c_joined_none E hp hp' hij hj h64 h2N hr64 hr fun H' cs' s' t' tk' ck' E₂ => ?_))
      with_reducible refine Es.nil ?_
      with_reducible refine Es.nil ?_
      refine eRq ?_
      with_reducible refine Ev.cnone ?_
      have e : raw.isSome = !(rawV raw).isNone := by cases raw <;> rfl
      rw [e] at h
      exact left_text g hN hij hj hk hc3 h E₂
    | some r =>
      cases r with
      | tx o =>
        have ho := g.tx _ (dget_mem hr) _ rfl
        simp only [lawStep, keptOf_get, hr, Option.map_some, toKp] at h
        refine Cl.cd (c_do_append E (c_joined_text E hp hp' hij hj h64 h2N hr64 hr (by omega) fun H' cs' s' t' tk' ck' E₂ => ?_))
        with_reducible refine Es.nil ?_
        with_reducible refine Es.nil ?_
        refine eRq ?_
        with_reducible refine Ev.cnone ?_
        have e : raw.isSome = !(rawV raw).isNone := by cases raw <;> rfl
        rw [e] at h
        simp only [if_true] at E₂
        exact left_text g hN hij hj hk (by rw [List.length_append]; omega) h E₂
      | pt q =>
        simp only [lawStep, keptOf_get, hr, Option.map_some, toKp] at h
        exact Cl.cd (c_do_append E (c_joined_other (w := "point") E hp hp' hij hj (by omega) (by rw [regs_get, hr]; rfl) (by kernel_rfl) h))
      | nm q =>
        simp only [lawStep, keptOf_get, hr, Option.map_some, toKp] at h
        exact Cl.cd (c_do_append E (c_joined_other (w := "number") E hp hp' hij hj (by omega) (by rw [regs_get, hr]; rfl) (by kernel_rfl) h))
  | prepend =>
    refine eIq ?_
    with_reducible refine Bt.cmp (by kernel_rfl) ?_
    refine eNq m5 ?_
    refine eNq m0 ?_
    refine Cm.inSD ?_
    with_reducible refine ite_t' (by kernel_rfl!) ?_
    refine eAq (.keep (by kernel_rfl) (.keep (by kernel_rfl) (.keep (by kernel_rfl) (.keep (by kernel_rfl) (.keep (by kernel_rfl) (.keep (by kernel_rfl) (.keep (by kernel_rfl) (.keep (by kernel_rfl) .nil)))))))) ?_
    with_reducible refine Ev.sub ?_
    refine eNq m0 ?_
    refine eNq m5 ?_
    refine Sb.sd (by rfl) ?_
    refine eXq ?_
    with_reducible refine Ev.call (by kernel_rfl) ?_
    refine eNq m0 ?_
    with_reducible refine ⟨_, rfl, KeepV.K (by kernel_rfl), ?_⟩
    refine aNq m7 ?_
    refine Ea.cons (by kernel_rfl) ?_
    with_reducible refine Ev.lst ?_
    refine aNq m5 ?_
    refine aNq m4 ?_
    refine aNq m3 ?_
    refine aLq m2 ?_
    with_reducible refine len_ok (by kernel_rfl!) ?_
    refine Or.inl ?_
    refine Ea.nil ?_
    cases hr : dget σ.rs k with
    | none =>
      simp only [lawStep, keptOf_get, hr, Option.map_none] at h
      refine Cl.cd (c_do_prepend E (c_joined_none E hp hp' hij hj h64 h2N hr64 hr fun H' cs' s' t' tk' ck' E₂ => ?_))
      with_reducible refine Es.nil ?_
      with_reducible refine Es.nil ?_
      refine eRq ?_
      with_reducible refine Ev.cnone ?_
      have e : raw.isSome = !(rawV raw).isNone := by cases raw <;> rfl
      rw [e] at h
      exact left_text g hN hij hj hk hc3 h E₂
    | some r =>
      cases r with
      | tx o =>
        have ho := g.tx _ (dget_mem hr) _ rfl
        simp only [lawStep, keptOf_get, hr, Option.map_some, toKp] at h
        refine Cl.cd (c_do_prepend E (c_joined_text E hp hp' hij hj h64 h2N hr64 hr (by omega) fun H' cs' s' t' tk' ck' E₂ => ?_))
        with_reducible refine Es.nil ?_
        with_reducible refine Es.nil ?_
        refine eRq ?_
        with_reducible refine Ev.cnone ?_
        have e : raw.isSome = !(rawV raw).isNone := by cases raw <;> rfl
        rw [e] at h
        simp only [Bool.false_eq_true, if_false] at E₂
        exact left_text g hN hij hj hk (by rw [List.length_append]; omega) h E₂
      | pt q =>
        simp only [lawStep, keptOf_get, hr, Option.map_some, toKp] at h
        exact Cl.cd (c_do_prepend E (c_joined_other (w := "point") E hp hp' hij hj (by omega) (by rw [regs_get, hr]; rfl) (by kernel_rfl) h))
      | nm q =>
        simp only [lawStep, keptOf_get, hr, Option.map_some, toKp] at h
        exact Cl.cd (c_do_prepend E (c_joined_other (w := "number") E hp hp' hij hj (by omega) (by rw [regs_get, hr]; rfl) (by kernel_rfl) h))
  | insert =>
    refine eIq ?_
    with_reducible refine Bt.cmp (by kernel_rfl) ?_
    refine eNq m5 ?_
    refine eNq m0 ?_
    refine Cm.inSD ?_
    with_reducible refine ite_f' (by kernel_rfl!) ?_
    refine eIq ?_
    refine bEq m5 ?_
    with_reducible refine ite_t' (by kernel_rfl!) ?_
    refine eXq ?_
    refine cGq (g_do_insert_register _) ?_
    refine aNq m6 ?_
    refine Ea.cons (by kernel_rfl) ?_
    with_reducible refine Ev.lst ?_
    refine aNq m4 ?_
    refine aLq m1 ?_
    with_reducible refine len_ok (by kernel_rfl!) ?_
    refine Or.inl ?_
    refine Ea.nil ?_
    have e : raw.isSome = !(rawV raw).isNone := by cases raw <;> rfl
    have ho : ∀ r, dget σ.rs k = some r → ∃ x v, regV σ.ms r = .tup [.str x, v] ∧ (x == ("rectangle" : Str)) = false := by
      intro r _
      cases r with
      | pt q => exact ⟨_, _, rfl, by kernel_rfl⟩
      | tx q => exact ⟨_, _, rfl, by kernel_rfl⟩
      | nm q => exact ⟨_, _, rfl, by kernel_rfl⟩
    have E' := E
    obtain ⟨q, z, hH⟩ := E'
    have mrg : (a.rg, regO a.dg) ∈ H := by rw [hH]; exact m9
    have mdg : (a.dg, .dict (regsV σ.ms σ.rs)) ∈ H := by rw [hH]; exact m10
    cases hr : dget σ.rs k with
    | none =>
      simp only [lawStep, keptOf_get, hr, Option.map_none] at h
      exact Cl.cd (c_do_insert E ho (c_insert_register_none mrg mdg (by rw [regs_get, hr]; rfl) h))
    | some r =>
      cases r with
      | tx o =>
        have hol := g.tx _ (dget_mem hr) _ rfl
        simp only [lawStep, keptOf_get, hr, Option.map_some, toKp] at h
        refine Cl.cd (c_do_insert E ho (c_insert_register_text E g.p1 g.p2 h64 (by clear hp hp' hcut hc3; omega) hr fun H' cs' s' t' tk' ck' E₂ => ?_))
        with_reducible refine Es.nil ?_
        with_reducible refine Es.nil ?_
        with_reducible refine Es.nil ?_
        refine eRq ?_
        with_reducible refine Ev.cnone ?_
        exact left_ins g hol e (by omega) h E₂
      | nm o =>
        have hol := g.nm _ (dget_mem hr) _ rfl
        have h9 : (10 : Int) ^ 9 = 1000000000 := by decide
        have hcl := codesOf_len hol.1 (by omega)
        simp only [lawStep, keptOf_get, hr, Option.map_some, toKp] at h
        refine Cl.cd (c_do_insert E ho (c_insert_register_number E g.p1 g.p2 h64 (by clear hp hp' hcut hc3; omega) hr (log2_small (by omega)) fun H' cs' s' t' tk' ck' E₂ => ?_))
        with_reducible refine Es.nil ?_
        with_reducible refine Es.nil ?_
        with_reducible refine Es.nil ?_
        refine eRq ?_
        with_reducible refine Ev.cnone ?_
        exact left_ins g (by omega) e (by omega) h E₂
      | pt o =>
        simp only [lawStep, keptOf_get, hr, Option.map_some, toKp] at h
        exact Cl.cd (c_do_insert E ho (c_insert_register_point mrg mdg (by rw [regs_get, hr]; rfl) h))
  | point =>
    refine eIq ?_
    with_reducible refine Bt.cmp (by kernel_rfl) ?_
    refine eNq m5 ?_
    refine eNq m0 ?_
    refine Cm.inSD ?_
    with_reducible refine ite_f' (by kernel_rfl!) ?_
    refine eIq ?_
    refine bEq m5 ?_
    with_reducible refine ite_f' (by kernel_rfl!) ?_
    refine eIq ?_
    refine bEq m5 ?_
    with_reducible refine ite_f' (by kernel_rfl!) ?_
    refine eIq ?_
    refine bEq m5 ?_
    with_reducible refine ite_f' (by kernel_rfl!) ?_
    refine eIq ?_
    refine bEq m5 ?_
    with_reducible refine ite_t' (by kernel_rfl!) ?_
    refine eXq ?_
    refine cGq (g_do_point_to_register _) ?_
    refine aNq m6 ?_
    refine Ea.cons (by kernel_rfl) ?_
    with_reducible refine Ev.lst ?_
    refine aLq m4 ?_
    with_reducible refine len_ok (by kernel_rfl!) ?_
    refine Or.inl ?_
    refine Ea.nil ?_
    refine Cl.cd (c_do_point E g.p1 g.p2 h64 h2N hr64 g.pts fun x H' cs' s' t' tk' ck' E₂ => ?_)
    with_reducible refine Es.nil ?_
    with_reducible refine Es.nil ?_
    with_reducible refine Es.nil ?_
    with_reducible refine Es.nil ?_
    with_reducible refine Es.nil ?_
    with_reducible refine Es.nil ?_
    refine eRq ?_
    with_reducible refine Ev.cnone ?_
    simp only [lawStep] at h
    exact h _ _ _ _ _ _ _ (E₂.more (by omega)) rfl rfl (kept_add g k x) ((g.add hk).more (by omega)) (by simp [addPt])
  | jump =>
    refine eIq ?_
    with_reducible refine Bt.cmp (by kernel_rfl) ?_
    refine eNq m5 ?_
    refine eNq m0 ?_
    refine Cm.inSD ?_
    with_reducible refine ite_f' (by kernel_rfl!) ?_
    refine eIq ?_
    refine bEq m5 ?_
    with_reducible refine ite_f' (by kernel_rfl!) ?_
    refine eIq ?_
    refine bEq m5 ?_
    with_reducible refine ite_f' (by kernel_rfl!) ?_
    refine eIq ?_
    refine bEq m5 ?_
    with_reducible refine ite_f' (by kernel_rfl!) ?_
    refine eIq ?_
    refine bEq m5 ?_
    with_reducible refine ite_f' (by kernel_rfl!) ?_
    refine eXq ?_
    refine cGq (g_do_jump_to_register _) ?_
    refine aNq m6 ?_
    refine Ea.cons (by kernel_rfl) ?_
    with_reducible refine Ev.lst ?_
    refine aLq m4 ?_
    with_reducible refine len_ok (by kernel_rfl!) ?_
    refine Or.inl ?_
    refine Ea.nil ?_
    cases hr : dget σ.rs k with
    | none =>
      simp only [lawStep, keptOf_get, hr, Option.map_none] at h
      exact Cl.cd (c_do_jump_none E hr h)
    | some r =>
      cases r with
      | pt q =>
        have hq := g.pts _ (dget_mem hr) q rfl
        obtain ⟨g', q1, q2⟩ := g.jump hq
        simp only [lawStep, keptOf_get, hr, Option.map_some, toKp] at h
        refine Cl.cd (c_do_jump E hr hq q1 q2 fun H' cs' s' t' tk' ck' E₂ => ?_)
        with_reducible refine Es.nil ?_
        with_reducible refine Es.nil ?_
        with_reducible refine Es.nil ?_
        with_reducible refine Es.nil ?_
        with_reducible refine Es.nil ?_
        with_reducible refine Es.nil ?_
        refine eRq ?_
        with_reducible refine Ev.cnone ?_
        exact h _ _ _ _ _ _ _ (E₂.more (by omega)) rfl rfl rfl (g'.more (by omega)) (Nat.le_succ _)
      | tx q =>
        simp only [lawStep, keptOf_get, hr, Option.map_some, toKp] at h
        exact Cl.cd (c_do_jump_other (w := "text") E (by rw [regs_get, hr]; rfl) (by kernel_rfl) h)
      | nm q =>
        simp only [lawStep, keptOf_get, hr, Option.map_some, toKp] at h
        exact Cl.cd (c_do_jump_other (w := "number") E (by rw [regs_get, hr]; rfl) (by kernel_rfl) h)
  | number =>
    cases raw with
    | none =>
      refine eIq ?_
      with_reducible refine Bt.cmp (by kernel_rfl) ?_
      refine eNq m5 ?_
      refine eNq m0 ?_
      refine Cm.inSD ?_
      with_reducible refine ite_f' (by kernel_rfl!) ?_
      refine eIq ?_
      refine bEq m5 ?_
      with_reducible refine ite_f' (by kernel_rfl!) ?_
      refine eIq ?_
      refine bEq m5 ?_
      with_reducible refine ite_t' (by kernel_rfl!) ?_
      refine eXq ?_
      refine cGq (g_do_number_to_register _) ?_
      refine aNq m6 ?_
      refine Ea.cons (by kernel_rfl) ?_
      with_reducible refine Ev.lst ?_
      refine aNq m1 ?_
      refine aLq m4 ?_
      with_reducible refine len_ok (by kernel_rfl!) ?_
      refine Or.inl ?_
      refine Ea.nil ?_
      refine Cl.cd (c_do_number_none E hr64 fun H' cs' s' t' tk' ck' E₂ => ?_)
      with_reducible refine Es.nil ?_
      with_reducible refine Es.nil ?_
      with_reducible refine Es.nil ?_
      with_reducible refine Es.nil ?_
      refine eRq ?_
      with_reducible refine Ev.cnone ?_
      simp only [lawStep, Option.getD_none] at h
      exact left_reg g hN hk (fun j e => by cases e) (fun o e => by cases e) (fun z e => by cases e; omega) h E₂
    | some z =>
      have hz := hraw z rfl
      refine eIq ?_
      with_reducible refine Bt.cmp (by kernel_rfl) ?_
      refine eNq m5 ?_
      refine eNq m0 ?_
      refine Cm.inSD ?_
      with_reducible refine ite_f' (by kernel_rfl!) ?_
      refine eIq ?_
      refine bEq m5 ?_
      with_reducible refine ite_f' (by kernel_rfl!) ?_
      refine eIq ?_
      refine bEq m5 ?_
      with_reducible refine ite_t' (by kernel_rfl!) ?_
      refine eXq ?_
      refine cGq (g_do_number_to_register _) ?_
      refine aNq m6 ?_
      refine Ea.cons (by kernel_rfl) ?_
      with_reducible refine Ev.lst ?_
      refine aNq m1 ?_
      refine aLq m4 ?_
      with_reducible refine len_ok (by kernel_rfl!) ?_
      refine Or.inl ?_
      refine Ea.nil ?_
      refine Cl.cd (c_do_number_int E hr64 fun H' cs' s' t' tk' ck' E₂ => ?_)
      with_reducible refine Es.nil ?_
      with_reducible refine Es.nil ?_
      with_reducible refine Es.nil ?_
      with_reducible refine Es.nil ?_
      refine eRq ?_
      with_reducible refine Ev.cnone ?_
      simp only [lawStep, Option.getD_some] at h
      exact left_reg g hN hk (fun j e => by cases e) (fun o e => by cases e) (fun z e => by cases e; omega) h E₂
  | more =>
    refine eIq ?_
    with_reducible refine Bt.cmp (by kernel_rfl) ?_
    refine eNq m5 ?_
    refine eNq m0 ?_
    refine Cm.inSD ?_
    with_reducible refine ite_f' (by kernel_rfl!) ?_
    refine eIq ?_
    refine bEq m5 ?_
    with_reducible refine ite_f' (by kernel_rfl!) ?_
    refine eIq ?_
    refine bEq m5 ?_
    with_reducible refine ite_f' (by kernel_rfl!) ?_
    refine eIq ?_
    refine bEq m5 ?_
    with_reducible refine ite_t' (by kernel_rfl!) ?_
    refine eXq ?_
    refine cGq (g_do_increment_register _) ?_
    refine aNq m6 ?_
    refine Ea.cons (by kernel_rfl) ?_
    with_reducible refine Ev.lst ?_
    refine aNq m2 ?_
    refine aLq m4 ?_
    with_reducible refine len_ok (by kernel_rfl!) ?_
    refine Or.inl ?_
    refine Ea.nil ?_
    cases hr : dget σ.rs k with
    | none =>
      simp only [lawStep, keptOf_get, hr, Option.map_none] at h
      exact Cl.cd (c_do_more_none E hr h)
    | some r =>
      cases r with
      | nm q =>
        have hq := g.nm _ (dget_mem hr) _ rfl
        simp only [lawStep, keptOf_get, hr, Option.map_some, toKp] at h
        refine Cl.cd (c_do_more E hr64 hr fun H' cs' s' t' tk' ck' E₂ => ?_)
        with_reducible refine Es.nil ?_
        with_reducible refine Es.nil ?_
        with_reducible refine Es.nil ?_
        with_reducible refine Es.nil ?_
        with_reducible refine Es.nil ?_
        refine eRq ?_
        with_reducible refine Ev.cnone ?_
        rw [← hp'] at h
        exact left_reg g hN hk (fun j e => by cases e) (fun o e => by cases e) (fun z e => by cases e; omega) h E₂
      | tx q =>
        simp only [lawStep, keptOf_get, hr, Option.map_some, toKp] at h
        exact Cl.cd (c_do_more_other (w := "text") E (by rw [regs_get, hr]; rfl) (by kernel_rfl) h)
      | pt q =>
        simp only [lawStep, keptOf_get, hr, Option.map_some, toKp] at h
        exact Cl.cd (c_do_more_other (w := "point") E (by rw [regs_get, hr]; rfl) (by kernel_rfl) h)
end
section
variable {G : Gx} {n : Nat} {d : FD} {loc : Locs} {H H' R : HH} {X : Str → HH → Prop} {P : V → HH → Prop}
theorem Es.drop1 {x : Addr × O} {ts : List Stmt} {Pn : Locs → HH → Prop} {Pr : V → HH → Prop} (p : H.Perm (x :: H')) (h : Es G n d loc H' ts Pn Pr X) : Es G n d loc H ts Pn Pr X := Es.less (D := [x]) p h
theorem c_Table_init {bt : Addr} (h : ∀ dr od, P .none ((od, .list []) :: (dr, .dict []) :: (bt, .inst 906 5 [("last_marker", .int 0), ("last_number", .int 0), ("current", .int 0), ("order", .ref od), ("rows", .ref dr)]) :: R)) : Cd G (n + 1) (.ref 818) [.ref bt] ((bt, .inst 906 0 []) :: R) P X := by
  refine in_BufferTable_init ?_
  refine Es.cons ?_
  with_reducible refine E1.asgA (by kernel_rfl) ?_
  refine Ev.dict0 fun dr => ?_
  refine wNq m0 m1 cls_BufferTable .nil (.tail .head) ?_
  refine eTq ?_
  with_reducible refine Ev.lst ?_
  refine Ea.nil ?_
  with_reducible refine len_ok (by kernel_rfl!) ?_
  refine Or.inr fun od => ?_
  refine wNq m0 m2 cls_BufferTable (.cons (by kernel_rfl) .nil) (.tail (.tail .head)) ?_
  refine eTq ?_
  with_reducible refine Ev.cint ?_
  refine wNq m0 m2 cls_BufferTable (.cons (by kernel_rfl) (.cons (by kernel_rfl) .nil)) (.tail (.tail .head)) ?_
  refine eTq ?_
  with_reducible refine Ev.cint ?_
  refine wNq m0 m2 cls_BufferTable (.cons (by kernel_rfl) (.cons (by kernel_rfl) (.cons (by kernel_rfl) .nil))) (.tail (.tail .head)) ?_
  refine eTq ?_
  with_reducible refine Ev.cint ?_
  refine wNq m0 m2 cls_BufferTable (.cons (by kernel_rfl) (.cons (by kernel_rfl) (.cons (by kernel_rfl) (.cons (by kernel_rfl) .nil)))) (.tail (.tail .head)) ?_
  with_reducible refine Es.nil ?_
  exact h dr od
theorem c_Amalgam_init {x : Addr} (h : P .none ((x, .inst 927 2 [("many", .int 0), ("sort", .str "")]) :: R)) : Cd G (n + 1) (.ref 924) [.ref x] ((x, .inst 927 0 []) :: R) P X := by
  refine in_Amalgam_init ?_
  refine Es.cons ?_
  with_reducible refine E1.asgA (by kernel_rfl) ?_
  with_reducible refine Ev.cstr ?_
  refine wNq m0 m0 cls_Amalgam .nil .head ?_
  refine eTq ?_
  with_reducible refine Ev.cint ?_
  refine wNq m0 m0 cls_Amalgam (.cons (by kernel_rfl) .nil) .head ?_
  with_reducible refine Es.nil ?_
  exact h
theorem c_Editor_init {e bt : Addr} (h : P .none ((e, .inst 1081 30 [("registers", .none), ("buffers", .ref bt)]) :: R)) : Cd G (n + 3) (.ref 945) [.ref e, .ref bt, .none, .none] ((e, .inst 1081 0 []) :: R) P X := by
  refine in_Editor_init ?_
  refine Es.cons ?_
  with_reducible refine E1.asgA (by kernel_rfl) ?_
  refine eNq m1 ?_
  refine wNq m0 m0 cls_Editor .nil .head ?_
  refine eTq ?_
  refine eNq m2 ?_
  refine wNq m0 m0 cls_Editor (.cons (by kernel_rfl) .nil) .head ?_
  refine eTq ?_
  refine eNq m3 ?_
  refine wNq m0 m0 cls_Editor (.cons (by kernel_rfl) (.cons (by kernel_rfl) .nil)) .head ?_
  refine eTq ?_
  refine Ev.dict0 fun d1 => ?_
  refine wNq m0 m1 cls_Editor (.cons (by kernel_rfl) (.cons (by kernel_rfl) (.cons (by kernel_rfl) .nil))) (.tail .head) ?_
  refine eTq ?_
  with_reducible refine Ev.lst ?_
  refine Ea.nil ?_
  with_reducible refine len_ok (by kernel_rfl!) ?_
  refine Or.inl ?_
  refine wNq m0 m1 cls_Editor (.cons (by kernel_rfl) (.cons (by kernel_rfl) (.cons (by kernel_rfl) (.cons (by kernel_rfl) .nil)))) (.tail .head) ?_
  refine eTq ?_
  with_reducible refine Ev.cnone ?_
  refine wNq m0 m1 cls_Editor (.cons (by kernel_rfl) (.cons (by kernel_rfl) (.cons (by kernel_rfl) (.cons (by kernel_rfl) (.cons (by kernel_rfl) .nil))))) (.tail .head) ?_
  refine eTq ?_
  with_reducible refine Ev.cnone ?_
  refine wNq m0 m1 cls_Editor (.cons (by kernel_rfl) (.cons (by kernel_rfl) (.cons (by kernel_rfl) (.cons (by kernel_rfl) (.cons (by kernel_rfl) (.cons (by kernel_rfl) .nil)))))) (.tail .head) ?_
  refine eTq ?_
  with_reducible refine Ev.cnone ?_
  refine wNq m0 m1 cls_Editor (.cons (by kernel_rfl) (.cons (by kernel_rfl) (.cons (by kernel_rfl) (.cons (by kernel_rfl) (.cons (by kernel_rfl) (.cons (by kernel_rfl) (.cons (by kernel_rfl) .nil))))))) (.tail .head) ?_
  refine eTq ?_
  with_reducible refine Ev.cnone ?_
  refine wNq m0 m1 cls_Editor (.cons (by kernel_rfl) (.cons (by kernel_rfl) (.cons (by kernel_rfl) (.cons (by kernel_rfl) (.cons (by kernel_rfl) (.cons (by kernel_rfl) (.cons (by kernel_rfl) (.cons (by kernel_rfl) .nil)))))))) (.tail .head) ?_
  refine eTq ?_
  with_reducible refine Ev.cnone ?_
  refine eNq m0 ?_
  with_reducible refine Sa.nw m1 cls_Editor (by decide +kernel) (by decide +kernel) (.cons (by kernel_rfl) (.cons (by kernel_rfl) (.cons (by kernel_rfl) (.cons (by kernel_rfl) (.cons (by kernel_rfl) (.cons (by kernel_rfl) (.cons (by kernel_rfl) (.cons (by kernel_rfl) (.cons (by kernel_rfl) .nil))))))))) (.tail .head) ?_
  refine eTq ?_
  with_reducible refine Ev.cnone ?_
  refine eNq m0 ?_
  with_reducible refine Sa.nw m1 cls_Editor (by decide +kernel) (by decide +kernel) (.cons (by kernel_rfl) (.cons (by kernel_rfl) (.cons (by kernel_rfl) (.cons (by kernel_rfl) (.cons (by kernel_rfl) (.cons (by kernel_rfl) (.cons (by kernel_rfl) (.cons (by kernel_rfl) (.cons (by kernel_rfl) (.cons (by kernel_rfl) .nil)))))))))) (.tail .head) ?_
  refine eTq ?_
  with_reducible refine Ev.cnone ?_
  refine eNq m0 ?_
  with_reducible refine Sa.nw m1 cls_Editor (by decide +kernel) (by decide +kernel) (.cons (by kernel_rfl) (.cons (by kernel_rfl) (.cons (by kernel_rfl) (.cons (by kernel_rfl) (.cons (by kernel_rfl) (.cons (by kernel_rfl) (.cons (by kernel_rfl) (.cons (by kernel_rfl) (.cons (by kernel_rfl) (.cons (by kernel_rfl) (.cons (by kernel_rfl) .nil))))))))))) (.tail .head) ?_
  refine eTq ?_
  with_reducible refine Ev.cnone ?_
  refine eNq m0 ?_
  with_reducible refine Sa.nw m1 cls_Editor (by decide +kernel) (by decide +kernel) (.cons (by kernel_rfl) (.cons (by kernel_rfl) (.cons (by kernel_rfl) (.cons (by kernel_rfl) (.cons (by kernel_rfl) (.cons (by kernel_rfl) (.cons (by kernel_rfl) (.cons (by kernel_rfl) (.cons (by kernel_rfl) (.cons (by kernel_rfl) (.cons (by kernel_rfl) (.cons (by kernel_rfl) .nil)))))))))))) (.tail .head) ?_
  refine eTq ?_
  with_reducible refine Ev.cnone ?_
  refine eNq m0 ?_
  with_reducible refine Sa.nw m1 cls_Editor (by decide +kernel) (by decide +kernel) (.cons (by kernel_rfl) (.cons (by kernel_rfl) (.cons (by kernel_rfl) (.cons (by kernel_rfl) (.cons (by kernel_rfl) (.cons (by kernel_rfl) (.cons (by kernel_rfl) (.cons (by kernel_rfl) (.cons (by kernel_rfl) (.cons (by kernel_rfl) (.cons (by kernel_rfl) (.cons (by kernel_rfl) (.cons (by kernel_rfl) .nil))))))))))))) (.tail .head) ?_
  refine eTq ?_
  with_reducible refine Ev.cnone ?_
  refine eNq m0 ?_
  with_reducible refine Sa.nw m1 cls_Editor (by decide +kernel) (by decide +kernel) (.cons (by kernel_rfl) (.cons (by kernel_rfl) (.cons (by kernel_rfl) (.cons (by kernel_rfl) (.cons (by kernel_rfl) (.cons (by kernel_rfl) (.cons (by kernel_rfl) (.cons (by kernel_rfl) (.cons (by kernel_rfl) (.cons (by kernel_rfl) (.cons (by kernel_rfl) (.cons (by kernel_rfl) (.cons (by kernel_rfl) (.cons (by kernel_rfl) .nil)))))))))))))) (.tail .head) ?_
  refine eTq ?_
  with_reducible refine Ev.cnone ?_
  refine eNq m0 ?_
  with_reducible refine Sa.nw m1 cls_Editor (by decide +kernel) (by decide +kernel) (.cons (by kernel_rfl) (.cons (by kernel_rfl) (.cons (by kernel_rfl) (.cons (by kernel_rfl) (.cons (by kernel_rfl) (.cons (by kernel_rfl) (.cons (by kernel_rfl) (.cons (by kernel_rfl) (.cons (by kernel_rfl) (.cons (by kernel_rfl) (.cons (by kernel_rfl) (.cons (by kernel_rfl) (.cons (by kernel_rfl) (.cons (by kernel_rfl) (.cons (by kernel_rfl) .nil))))))))))))))) (.tail .head) ?_
  refine eTq ?_
  with_reducible refine Ev.cnone ?_
  refine eNq m0 ?_
  with_reducible refine Sa.nw m1 cls_Editor (by decide +kernel) (by decide +kernel) (.cons (by kernel_rfl) (.cons (by kernel_rfl) (.cons (by kernel_rfl) (.cons (by kernel_rfl) (.cons (by kernel_rfl) (.cons (by kernel_rfl) (.cons (by kernel_rfl) (.cons (by kernel_rfl) (.cons (by kernel_rfl) (.cons (by kernel_rfl) (.cons (by kernel_rfl) (.cons (by kernel_rfl) (.cons (by kernel_rfl) (.cons (by kernel_rfl) (.cons (by kernel_rfl) (.cons (by kernel_rfl) .nil)))))))))))))))) (.tail .head) ?_
  refine eTq ?_
  with_reducible refine Ev.cnone ?_
  refine eNq m0 ?_
  with_reducible refine Sa.nw m1 cls_Editor (by decide +kernel) (by decide +kernel) (.cons (by kernel_rfl) (.cons (by kernel_rfl) (.cons (by kernel_rfl) (.cons (by kernel_rfl) (.cons (by kernel_rfl) (.cons (by kernel_rfl) (.cons (by kernel_rfl) (.cons (by kernel_rfl) (.cons (by kernel_rfl) (.cons (by kernel_rfl) (.cons (by kernel_rfl) (.cons (by kernel_rfl) (.cons (by kernel_rfl) (.cons (by kernel_rfl) (.cons (by kernel_rfl) (.cons (by kernel_rfl) (.cons (by kernel_rfl) .nil))))))))))))))))) (.tail .head) ?_
  refine eTq ?_
  with_reducible refine Ev.cnone ?_
  refine eNq m0 ?_
  with_reducible refine Sa.nw m1 cls_Editor (by decide +kernel) (by decide +kernel) (.cons (by kernel_rfl) (.cons (by kernel_rfl) (.cons (by kernel_rfl) (.cons (by kernel_rfl) (.cons (by kernel_rfl) (.cons (by kernel_rfl) (.cons (by kernel_rfl) (.cons (by kernel_rfl) (.cons (by kernel_rfl) (.cons (by kernel_rfl) (.cons (by kernel_rfl) (.cons (by kernel_rfl) (.cons (by kernel_rfl) (.cons (by kernel_rfl) (.cons (by kernel_rfl) (.cons (by kernel_rfl) (.cons (by kernel_rfl) (.cons (by kernel_rfl) .nil)))))))))))))))))) (.tail .head) ?_
  refine eTq ?_
  refine Ev.dict0 fun d2 => ?_
  refine eNq m0 ?_
  with_reducible refine Sa.nw m2 cls_Editor (by decide +kernel) (by decide +kernel) (.cons (by kernel_rfl) (.cons (by kernel_rfl) (.cons (by kernel_rfl) (.cons (by kernel_rfl) (.cons (by kernel_rfl) (.cons (by kernel_rfl) (.cons (by kernel_rfl) (.cons (by kernel_rfl) (.cons (by kernel_rfl) (.cons (by kernel_rfl) (.cons (by kernel_rfl) (.cons (by kernel_rfl) (.cons (by kernel_rfl) (.cons (by kernel_rfl) (.cons (by kernel_rfl) (.cons (by kernel_rfl) (.cons (by kernel_rfl) (.cons (by kernel_rfl) (.cons (by kernel_rfl) .nil))))))))))))))))))) (.tail (.tail .head)) ?_
  refine eTq ?_
  refine Ev.dict0 fun d3 => ?_
  refine eNq m0 ?_
  with_reducible refine Sa.nw m3 cls_Editor (by decide +kernel) (by decide +kernel) (.cons (by kernel_rfl) (.cons (by kernel_rfl) (.cons (by kernel_rfl) (.cons (by kernel_rfl) (.cons (by kernel_rfl) (.cons (by kernel_rfl) (.cons (by kernel_rfl) (.cons (by kernel_rfl) (.cons (by kernel_rfl) (.cons (by kernel_rfl) (.cons (by kernel_rfl) (.cons (by kernel_rfl) (.cons (by kernel_rfl) (.cons (by kernel_rfl) (.cons (by kernel_rfl) (.cons (by kernel_rfl) (.cons (by kernel_rfl) (.cons (by kernel_rfl) (.cons (by kernel_rfl) (.cons (by kernel_rfl) .nil)))))))))))))))))))) (.tail (.tail (.tail .head))) ?_
  refine eTq ?_
  refine cGq (g_Amalgam _) ?_
  refine Ea.nil ?_
  refine Cl.make mak_Amalgam fun x => c_Amalgam_init ⟨rfl, ?_⟩
  refine eNq m0 ?_
  with_reducible refine Sa.nw m4 cls_Editor (by decide +kernel) (by decide +kernel) (.cons (by kernel_rfl) (.cons (by kernel_rfl) (.cons (by kernel_rfl) (.cons (by kernel_rfl) (.cons (by kernel_rfl) (.cons (by kernel_rfl) (.cons (by kernel_rfl) (.cons (by kernel_rfl) (.cons (by kernel_rfl) (.cons (by kernel_rfl) (.cons (by kernel_rfl) (.cons (by kernel_rfl) (.cons (by kernel_rfl) (.cons (by kernel_rfl) (.cons (by kernel_rfl) (.cons (by kernel_rfl) (.cons (by kernel_rfl) (.cons (by kernel_rfl) (.cons (by kernel_rfl) (.cons (by kernel_rfl) (.cons (by kernel_rfl) .nil))))))))))))))))))))) (.tail (.tail (.tail (.tail .head)))) ?_
  refine eTq ?_
  with_reducible refine Ev.cstr ?_
  refine eNq m0 ?_
  with_reducible refine Sa.nw m4 cls_Editor (by decide +kernel) (by decide +kernel) (.cons (by kernel_rfl) (.cons (by kernel_rfl) (.cons (by kernel_rfl) (.cons (by kernel_rfl) (.cons (by kernel_rfl) (.cons (by kernel_rfl) (.cons (by kernel_rfl) (.cons (by kernel_rfl) (.cons (by kernel_rfl) (.cons (by kernel_rfl) (.cons (by kernel_rfl) (.cons (by kernel_rfl) (.cons (by kernel_rfl) (.cons (by kernel_rfl) (.cons (by kernel_rfl) (.cons (by kernel_rfl) (.cons (by kernel_rfl) (.cons (by kernel_rfl) (.cons (by kernel_rfl) (.cons (by kernel_rfl) (.cons (by kernel_rfl) (.cons (by kernel_rfl) .nil)))))))))))))))))))))) (.tail (.tail (.tail (.tail .head)))) ?_
  refine eTq ?_
  with_reducible refine Ev.cnone ?_
  refine eNq m0 ?_
  with_reducible refine Sa.nw m4 cls_Editor (by decide +kernel) (by decide +kernel) (.cons (by kernel_rfl) (.cons (by kernel_rfl) (.cons (by kernel_rfl) (.cons (by kernel_rfl) (.cons (by kernel_rfl) (.cons (by kernel_rfl) (.cons (by kernel_rfl) (.cons (by kernel_rfl) (.cons (by kernel_rfl) (.cons (by kernel_rfl) (.cons (by kernel_rfl) (.cons (by kernel_rfl) (.cons (by kernel_rfl) (.cons (by kernel_rfl) (.cons (by kernel_rfl) (.cons (by kernel_rfl) (.cons (by kernel_rfl) (.cons (by kernel_rfl) (.cons (by kernel_rfl) (.cons (by kernel_rfl) (.cons (by kernel_rfl) (.cons (by kernel_rfl) (.cons (by kernel_rfl) .nil))))))))))))))))))))))) (.tail (.tail (.tail (.tail .head)))) ?_
  refine eTq ?_
  with_reducible refine Ev.cnone ?_
  refine eNq m0 ?_
  with_reducible refine Sa.nw m4 cls_Editor (by decide +kernel) (by decide +kernel) (.cons (by kernel_rfl) (.cons (by kernel_rfl) (.cons (by kernel_rfl) (.cons (by kernel_rfl) (.cons (by kernel_rfl) (.cons (by kernel_rfl) (.cons (by kernel_rfl) (.cons (by kernel_rfl) (.cons (by kernel_rfl) (.cons (by kernel_rfl) (.cons (by kernel_rfl) (.cons (by kernel_rfl) (.cons (by kernel_rfl) (.cons (by kernel_rfl) (.cons (by kernel_rfl) (.cons (by kernel_rfl) (.cons (by kernel_rfl) (.cons (by kernel_rfl) (.cons (by kernel_rfl) (.cons (by kernel_rfl) (.cons (by kernel_rfl) (.cons (by kernel_rfl) (.cons (by kernel_rfl) (.cons (by kernel_rfl) .nil)))))))))))))))))))))))) (.tail (.tail (.tail (.tail .head)))) ?_
  refine eTq ?_
  with_reducible refine Ev.cint ?_
  refine eNq m0 ?_
  with_reducible refine Sa.nw m4 cls_Editor (by decide +kernel) (by decide +kernel) (.cons (by kernel_rfl) (.cons (by kernel_rfl) (.cons (by kernel_rfl) (.cons (by kernel_rfl) (.cons (by kernel_rfl) (.cons (by kernel_rfl) (.cons (by kernel_rfl) (.cons (by kernel_rfl) (.cons (by kernel_rfl) (.cons (by kernel_rfl) (.cons (by kernel_rfl) (.cons (by kernel_rfl) (.cons (by kernel_rfl) (.cons (by kernel_rfl) (.cons (by kernel_rfl) (.cons (by kernel_rfl) (.cons (by kernel_rfl) (.cons (by kernel_rfl) (.cons (by kernel_rfl) (.cons (by kernel_rfl) (.cons (by kernel_rfl) (.cons (by kernel_rfl) (.cons (by kernel_rfl) (.cons (by kernel_rfl) (.cons (by kernel_rfl) .nil))))))))))))))))))))))))) (.tail (.tail (.tail (.tail .head)))) ?_
  refine eTq ?_
  with_reducible refine Ev.cint ?_
  refine eNq m0 ?_
  with_reducible refine Sa.nw m4 cls_Editor (by decide +kernel) (by decide +kernel) (.cons (by kernel_rfl) (.cons (by kernel_rfl) (.cons (by kernel_rfl) (.cons (by kernel_rfl) (.cons (by kernel_rfl) (.cons (by kernel_rfl) (.cons (by kernel_rfl) (.cons (by kernel_rfl) (.cons (by kernel_rfl) (.cons (by kernel_rfl) (.cons (by kernel_rfl) (.cons (by kernel_rfl) (.cons (by kernel_rfl) (.cons (by kernel_rfl) (.cons (by kernel_rfl) (.cons (by kernel_rfl) (.cons (by kernel_rfl) (.cons (by kernel_rfl) (.cons (by kernel_rfl) (.cons (by kernel_rfl) (.cons (by kernel_rfl) (.cons (by kernel_rfl) (.cons (by kernel_rfl) (.cons (by kernel_rfl) (.cons (by kernel_rfl) (.cons (by kernel_rfl) .nil)))))))))))))))))))))))))) (.tail (.tail (.tail (.tail .head)))) ?_
  refine eTq ?_
  with_reducible refine Ev.lst ?_
  refine Ea.nil ?_
  with_reducible refine len_ok (by kernel_rfl!) ?_
  refine Or.inl ?_
  refine eNq m0 ?_; with_reducible refine Sa.nw m4 cls_Editor (by decide +kernel) (by decide +kernel) (.cons (by kernel_rfl) (.cons (by kernel_rfl) (.cons (by kernel_rfl) (.cons (by kernel_rfl) (.cons (by kernel_rfl) (.cons (by kernel_rfl) (.cons (by kernel_rfl) (.cons (by kernel_rfl) (.cons (by kernel_rfl) (.cons (by kernel_rfl) (.cons (by kernel_rfl) (.cons (by kernel_rfl) (.cons (by kernel_rfl) (.cons (by kernel_rfl) (.cons (by kernel_rfl) (.cons (by kernel_rfl) (.cons (by kernel_rfl) (.cons (by kernel_rfl) (.cons (by kernel_rfl) (.cons (by kernel_rfl) (.cons (by kernel_rfl) (.cons (by kernel_rfl) (.cons (by kernel_rfl) (.cons (by kernel_rfl) (.cons (by kernel_rfl) (.cons (by kernel_rfl) (.cons (by kernel_rfl) .nil))))))))))))))))))))))))))) (.tail (.tail (.tail (.tail .head)))) ?_; with_reducible refine Es.cons ?_; with_reducible refine E1.asgA (by kernel_rfl) ?_; with_reducible refine Ev.cnone ?_; refine eNq m0 ?_; with_reducible refine Sa.nw m4 cls_Editor (by decide +kernel) (by decide +kernel) (.cons (by kernel_rfl) (.cons (by kernel_rfl) (.cons (by kernel_rfl) (.cons (by kernel_rfl) (.cons (by kernel_rfl) (.cons (by kernel_rfl) (.cons (by kernel_rfl) (.cons (by kernel_rfl) (.cons (by kernel_rfl) (.cons (by kernel_rfl) (.cons (by kernel_rfl) (.cons (by kernel_rfl) (.cons (by kernel_rfl) (.cons (by kernel_rfl) (.cons (by kernel_rfl) (.cons (by kernel_rfl) (.cons (by kernel_rfl) (.cons (by kernel_rfl) (.cons (by kernel_rfl) (.cons (by kernel_rfl) (.cons (by kernel_rfl) (.cons (by kernel_rfl) (.cons (by kernel_rfl) (.cons (by kernel_rfl) (.cons (by kernel_rfl) (.cons (by kernel_rfl) (.cons (by kernel_rfl) (.cons (by kernel_rfl) .nil)))))))))))))))))))))))))))) (.tail (.tail (.tail (.tail .head)))) ?_; with_reducible refine Es.cons ?_; with_reducible refine E1.asgA (by kernel_rfl) ?_; with_reducible refine Ev.cnone ?_; refine eNq m0 ?_; with_reducible refine Sa.nw m4 cls_Editor (by decide +kernel) (by decide +kernel) (.cons (by kernel_rfl) (.cons (by kernel_rfl) (.cons (by kernel_rfl) (.cons (by kernel_rfl) (.cons (by kernel_rfl) (.cons (by kernel_rfl) (.cons (by kernel_rfl) (.cons (by kernel_rfl) (.cons (by kernel_rfl) (.cons (by kernel_rfl) (.cons (by kernel_rfl) (.cons (by kernel_rfl) (.cons (by kernel_rfl) (.cons (by kernel_rfl) (.cons (by kernel_rfl) (.cons (by kernel_rfl) (.cons (by kernel_rfl) (.cons (by kernel_rfl) (.cons (by kernel_rfl) (.cons (by kernel_rfl) (.cons (by kernel_rfl) (.cons (by kernel_rfl) (.cons (by kernel_rfl) (.cons (by kernel_rfl) (.cons (by kernel_rfl) (.cons (by kernel_rfl) (.cons (by kernel_rfl) (.cons (by kernel_rfl) (.cons (by kernel_rfl) .nil))))))))))))))))))))))))))))) (.tail (.tail (.tail (.tail .head)))) ?_
  refine Es.forget (a := e) (fs' := [("registers", .none), ("buffers", .ref bt)]) (.tail (.tail (.tail (.tail .head)))) (al1 m20 (al1 m29 al0)) ?_
  refine Es.drop1 (x := (d1, _)) (perm_pick (.tail (.tail (.tail .head))) (.refl _)) ?_
  refine Es.drop1 (x := (d2, _)) (perm_pick (.tail (.tail .head)) (.refl _)) ?_
  refine Es.drop1 (x := (d3, _)) (perm_pick (.tail .head) (.refl _)) ?_
  refine Es.drop1 (x := (x, _)) (.refl _) ?_
  with_reducible refine Es.nil ?_
  exact h
theorem c_by_name {bt od : Addr} {cap : Nat} {fs : List (Str × V)} (m : (bt, .inst 906 cap fs) ∈ H) (mf : (("order" : Str), V.ref od) ∈ fs) (mo : (od, .list []) ∈ H) (h : P .none H) : Cd G (n + 1) (.ref 832) [.ref bt, .str "a"] H P X := by
  refine in_BufferTable_by_name ?_
  refine Es.cons ?_
  refine E1.for0 (fun _ _ => rfl) ?_
  refine tNq m0 (by assumption) cls_BufferTable (by assumption) ?_
  refine ⟨od, rfl, mo, ?_⟩
  refine eRq ?_
  with_reducible refine Ev.cnone ?_
  exact h
theorem c_create {bt dr od : Addr} (h : ∀ b g l mk dm, P (.ref b) ((b, bufO g mk 1 1 1 1) :: (g, gapO l 0 8) :: (l, .list (List.replicate 8 (.int 0))) :: (mk, mksO dm) :: (dm, .dict []) :: (bt, .inst 906 5 [("last_marker", .int 0), ("last_number", .int 1), ("current", .int 0), ("order", .ref od), ("rows", .ref dr)]) :: (dr, .dict [(1, .ref b)]) :: (od, .list [.int 1]) :: R)) :
    Cd G (n + 5) (.ref 839) [.ref bt, .str "a"] ((od, .list []) :: (dr, .dict []) :: (bt, .inst 906 5 [("last_marker", .int 0), ("last_number", .int 0), ("current", .int 0), ("order", .ref od), ("rows", .ref dr)]) :: R) P X := by
  refine in_BufferTable_create ?_
  refine Es.cons ?_
  with_reducible refine E1.ite ?_
  with_reducible refine Bt.or ?_
  refine bEq m1 ?_
  with_reducible refine ite_f' (by kernel_rfl!) ?_
  with_reducible refine Bt.or ?_
  with_reducible refine Bt.cmp (by kernel_rfl) ?_
  with_reducible refine Ev.meth (by kernel_rfl) (by kernel_rfl) (by decide +kernel) (by kernel_rfl) ?_
  refine eNq m0 ?_
  with_reducible refine Mt.i m2 mth_BufferTable_by_name fun kv => ⟨kv, ?_⟩
  refine aLq m1 ?_
  refine Cl.cd (c_by_name m2 m3 m0 ?_)
  with_reducible refine Ev.cnone ?_
  refine Cm.isNotN ?_
  with_reducible refine ite_f' (by kernel_rfl!) ?_
  with_reducible refine Bt.orN ?_
  refine iFq ?_
  refine eTq ?_
  with_reducible refine Ev.bin ?_
  refine tNq m0 m2 cls_BufferTable m1 ?_
  with_reducible refine Ev.cint ?_
  refine Bn.add ?_
  refine wOq m0 m2 cls_BufferTable (.skip (by kernel_rfl) (.hit (.cons (by kernel_rfl) (.cons (by kernel_rfl) (.cons (by kernel_rfl) .nil))))) (.tail (.tail .head)) ?_
  refine eAq (.keep (by kernel_rfl) (.keep (by kernel_rfl) .nil)) ?_
  refine cGq (g_Buffer _) ?_
  refine Ea.cons (by kernel_rfl) ?_
  refine tNq m0 m2 cls_BufferTable m1 ?_
  refine aLq m1 ?_
  refine Cl.make mak_Buffer fun b => c_Buffer_init fun g l mk dm => ⟨rfl, ?_⟩
  refine Es.forget (a := b) (fs' := bufF g mk 1 1 1 1) (.tail (.tail (.tail (.tail .head)))) (al1 m3 (al1 m4 (al1 m5 (al1 m6 (al1 m8 (al1 m9 (al1 m10 (al1 m11 (al1 m13 (al1 m14 (al1 m15 (al1 m16 (al1 m17 (al1 m18 (al1 m19 al0))))))))))))))) ?_
  with_reducible refine Es.cons ?_
  with_reducible refine E1.asgS (by kernel_rfl) ?_
  refine eNq m0 ?_
  refine tNq m1 m7 cls_BufferTable m4 ?_
  refine tNq m0 m4 cls_Buffer m14 ?_
  refine Stt.dict (.tail (.tail (.tail (.tail (.tail (.tail .head)))))) (by decide) ?_
  refine eXq ?_
  with_reducible refine Ev.meth (by kernel_rfl) (by kernel_rfl) (by decide +kernel) (by kernel_rfl) ?_
  refine tNq m1 m7 cls_BufferTable m3 ?_
  refine Mt.list PySem.F.slot_list_append (by kernel_rfl) m5 ⟨KeepV.blt _, ?_⟩
  refine Ea.cons (by kernel_rfl) ?_
  refine tNq m0 m4 cls_Buffer m14 ?_
  refine Ea.nil ?_
  refine Cl.append (xs := []) (.tail (.tail (.tail (.tail (.tail .head))))) (by decide) ?_
  refine Es.perm (H' := (b, _) :: (g, _) :: (l, _) :: (mk, _) :: (dm, _) :: (bt, _) :: (dr, _) :: (od, _) :: R) (perm_pick (.tail (.tail (.tail (.tail .head)))) (perm_pick (.tail (.tail (.tail .head))) (perm_pick (.tail (.tail .head)) (perm_pick (.tail .head) (perm_pick .head (perm_pick (.tail (.tail .head)) (perm_pick (.tail .head) (.refl _)))))))) ?_
  refine eRq ?_
  refine eNq m0 ?_
  exact h b g l mk dm
theorem c_select {b bt dr od g mk : Addr} {pt zv tk ck : Int} (h : P .none ((b, bufO g mk pt zv tk ck) :: (bt, tabO dr od 0) :: (od, .list [.int 1]) :: R)) :
    Cd G (n + 3) (.ref 861) [.ref bt, .ref b] ((b, bufO g mk pt zv tk ck) :: (bt, .inst 906 5 [("last_marker", .int 0), ("last_number", .int 1), ("current", .int 0), ("order", .ref od), ("rows", .ref dr)]) :: (od, .list [.int 1]) :: R) P X := by
  refine in_BufferTable_select ?_
  refine Es.cons ?_
  with_reducible refine E1.expr (by kernel_rfl) ?_
  with_reducible refine Ev.meth (by kernel_rfl) (by kernel_rfl) (by decide +kernel) (by kernel_rfl) ?_
  refine eNq m0 ?_
  with_reducible refine Mt.i m1 mth_BufferTable_set_current fun kv => ⟨kv, ?_⟩
  refine aLq m1 ?_
  refine Cl.cd (in_BufferTable_set_current ?_)
  refine Es.cons ?_
  with_reducible refine E1.ite ?_
  with_reducible refine Bt.not ?_
  with_reducible refine Bt.bool (by kernel_rfl) ?_
  refine tNq m1 m0 cls_Buffer m7 ?_
  with_reducible refine bt_ok ?_
  refine iFq ?_
  refine eTq ?_
  refine tNq m1 m0 cls_Buffer m14 ?_
  refine wOq m0 m1 cls_BufferTable (.skip (by kernel_rfl) (.skip (by kernel_rfl) (.hit (.cons (by kernel_rfl) (.cons (by kernel_rfl) .nil))))) (.tail .head) ?_
  with_reducible refine Es.nil ?_
  refine eXq ?_
  with_reducible refine Ev.meth (by kernel_rfl) (by kernel_rfl) (by decide +kernel) (by kernel_rfl) ?_
  refine tNq m0 m1 cls_BufferTable m3 ?_
  refine Mt.list PySem.F.slot_list_remove (by kernel_rfl) m2 ⟨KeepV.blt _, ?_⟩
  refine Ea.cons (by kernel_rfl) ?_
  refine tNq m1 m0 cls_Buffer m14 ?_
  refine Ea.nil ?_
  refine Cl.remove1 (.tail (.tail .head)) ?_
  refine eXq ?_
  with_reducible refine Ev.meth (by kernel_rfl) (by kernel_rfl) (by decide +kernel) (by kernel_rfl) ?_
  refine tNq m0 m1 cls_BufferTable m3 ?_
  refine Mt.list PySem.F.slot_list_insert (by kernel_rfl) m2 ⟨KeepV.blt _, ?_⟩
  refine aIq ?_
  refine Ea.cons (by kernel_rfl) ?_
  refine tNq m1 m0 cls_Buffer m14 ?_
  refine Ea.nil ?_
  refine Cl.insert0 (xs := []) (.tail (.tail .head)) (by decide) ?_
  with_reducible refine Es.nil ?_
  exact h
theorem c_editor {T : List Int} {pt : Int} (h1 : 1 ≤ pt) (h2 : pt ≤ T.length + 1) (hT : T.length ≤ 100) (h : ∀ a H' cs s t tk ck, EdH a ⟨T, pt, [], []⟩ 200 R H' cs s t tk ck → P (.ref a.e) H') :
    Cd G (n + 6) (.ref 1106) [.lst (intV T), .int pt] R P X := by
  refine in__law_editor ?_
  refine Es.cons ?_
  with_reducible refine E1.asgN (.keep (by kernel_rfl) (.keep (by kernel_rfl) .nil)) (by kernel_rfl) (by kernel_rfl) ?_
  refine cGq (g_Editor _) ?_
  refine Ea.cons (by kernel_rfl) ?_
  refine cGq (g_BufferTable _) ?_
  refine Ea.nil ?_
  refine Cl.make mak_BufferTable fun bt => c_Table_init fun dr od => ⟨rfl, ?_⟩
  refine Ea.cons (by kernel_rfl) ?_
  with_reducible refine Ev.cnone ?_
  refine Ea.cons (by kernel_rfl) ?_
  with_reducible refine Ev.cnone ?_
  refine Ea.nil ?_
  refine Cl.make mak_Editor fun e => c_Editor_init ⟨rfl, ?_⟩
  refine eAq (.keep (by kernel_rfl) (.keep (by kernel_rfl) (.keep (by kernel_rfl) .nil))) ?_
  with_reducible refine Ev.meth (by kernel_rfl) (by kernel_rfl) (by decide +kernel) (by kernel_rfl) ?_
  refine tNq m0 m0 cls_Editor m1 ?_
  with_reducible refine Mt.i m3 mth_BufferTable_create fun kv => ⟨kv, ?_⟩
  refine aSlq ?_
  refine Cl.perm (H' := (od, _) :: (dr, _) :: (bt, _) :: (e, _) :: R) (perm_pick (.tail .head) (perm_pick (.tail .head) (perm_pick (.tail .head) (.refl _)))) (Cl.cd (c_create fun b g l mk dm => ?_))
  refine eXq ?_
  with_reducible refine Ev.meth (by kernel_rfl) (by kernel_rfl) (by decide +kernel) (by kernel_rfl) ?_
  refine tNq m1 m8 cls_Editor m1 ?_
  with_reducible refine Mt.i m5 mth_BufferTable_select fun kv => ⟨kv, ?_⟩
  refine aLq m0 ?_
  refine Cl.perm (H' := (b, _) :: (bt, _) :: (od, _) :: _) (perm_pick .head (perm_pick (.tail (.tail (.tail (.tail .head)))) (perm_pick (.tail (.tail (.tail (.tail (.tail .head))))) (.refl _)))) (Cl.cd (c_select ?_))
  refine eXq ?_
  refine cGq (g_insert_at _) ?_
  refine aNq m0 ?_
  refine aIq ?_
  refine aLq m2 ?_
  have B : BufH b g l mk dm ([] : List V) 1 [] 8 ((bt, tabO dr od 0) :: (od, .list [.int 1]) :: (dr, .dict [(1, .ref b)]) :: (e, .inst 1081 30 [("registers", .none), ("buffers", .ref bt)]) :: R)
      ((b, bufO g mk 1 1 1 1) :: (g, gapO l 0 8) :: (l, .list (List.replicate 8 (.int 0))) :: (mk, mksO dm) :: (dm, .dict []) :: (bt, tabO dr od 0) :: (od, .list [.int 1]) :: (dr, .dict [(1, .ref b)]) :: (e, .inst 1081 30 [("registers", .none), ("buffers", .ref bt)]) :: R) (List.replicate 8 (.int 0)) 0 8 1 1 :=
    ⟨⟨by decide, by decide, rfl⟩, by decide, by simp [mkH, rowsV]⟩
  refine Cl.perm (perm_pick .head (perm_pick (.tail (.tail .head)) (perm_pick (.tail (.tail .head)) (perm_pick (.tail (.tail .head)) (perm_pick (.tail (.tail .head)) (.refl _)))))) (Cl.cd (c_insert_at (zs := intV T) B (p := 1) (i := 0) rfl (Nat.zero_le _) (by decide) (by rw [List.length_map]; omega) fun H' cs' s' t' tk' ck' B' => ?_))
  obtain ⟨q, z, rfl⟩ := B'
  have ep : ptIn false 1 (intV T).length 1 = 1 := by simp [ptIn]
  rw [ep]
  simp only [List.take_nil, List.drop_nil, List.nil_append, List.append_nil, List.cons_append, List.map_nil, mkH, rowsV] at q ⊢
  rw [List.length_map] at z ⊢
  refine eXq ?_
  with_reducible refine Ev.meth (by kernel_rfl) (by kernel_rfl) (by decide +kernel) (by kernel_rfl) ?_
  refine eNq m0 ?_
  with_reducible refine Mt.i m0 mth_Buffer_goto fun kv => ⟨kv, ?_⟩
  refine aLq m3 ?_
  refine Cl.cd (c_Buffer_goto h1 h2 ?_)
  refine eTq ?_
  refine cGq (g_Registers _) ?_
  refine Ea.nil ?_
  refine Cl.back (Cl.make mak_Registers fun rg => c_Registers_init fun dg => ⟨rfl, ?_⟩)
  refine ⟨(b, _) :: (g, _) :: (l, _) :: (mk, _) :: (dm, _) :: (e, _) :: (bt, _) :: (dr, _) :: (od, _) :: (rg, _) :: (dg, _) :: R, (perm_pick (.tail (.tail .head)) (perm_pick (.tail (.tail .head)) (perm_pick (.tail (.tail .head)) (perm_pick (.tail (.tail .head)) (perm_pick (.tail (.tail .head)) (perm_pick (.tail (.tail (.tail (.tail (.tail .head))))) (perm_pick (.tail (.tail .head)) (perm_pick (.tail (.tail (.tail .head))) (perm_pick (.tail (.tail .head)) (perm_pick (.tail .head) (.refl _))))))))))), ?_⟩
  refine wOq m1 m5 cls_Editor (.hit (.cons (by kernel_rfl) .nil)) (.tail (.tail (.tail (.tail (.tail .head))))) ?_
  refine eRq ?_
  refine eNq m1 ?_
  refine h ⟨e, bt, dr, od, rg, dg, b, g, l, mk, dm⟩ _ cs' s' t' tk' ck' ⟨q, by omega, ?_⟩
  simp only [EdL, mkH, List.append_nil, rowsV, regsV, List.map_nil, List.length_nil]
  rfl
end
section
variable {G : Gx} {n : Nat} {d : FD} {loc : Locs} {H H' R : HH} {X : Str → HH → Prop} {P : V → HH → Prop}
/-- a copy of the list that the caller handed in -/
theorem Cl.listV {sc : Addr} {vs : List Value} {xs : List Int} {P : V → HH → Prop} (hl : G.h₀.IsList sc vs.toArray) (hi : IntsAre vs xs) (hz : xs.length ≤ 16777216) (h : P (.lst (intV xs)) H) : Cl G n (.type "list") [.val (.ref sc)] H P X := Cl.mk1 fun A c s a S v r Q E p xp => by
  obtain rfl := r.val_inv
  obtain ⟨o, ho, hc⟩ := hl
  have hl' : s.heap.IsList sc vs.toArray := ⟨o, S.F.keep _ _ ho, hc⟩
  have rv : RVs c.fz vs (intV xs) := rvs_of_ints hi
  have e := rv.length
  rw [List.length_map] at e
  refine list_copyK S.F S.N hl' (fun D k h' F' N' hlt => ?_) (by rw [List.size_toArray, e, sizeLine_eq]; exact hz)
  exact alloc_list S p ⟨k, rfl⟩ rv F' N' (fun p hp => Nat.ne_of_lt (hlt p hp)) (.inl h)
/-- a comprehension stored under a name, over no more than known items -/
theorem E1.asgCs {elt iter : Expr} {x y : Str} {px py pos spos : Pos} {scope : Scope} {loc' : Locs} {Pn : Locs → HH → Prop} {Pr : V → HH → Prop} (xs : List V) (g : V → V)
    (hsw : ∀ L, swapsWith (.ListComp elt [⟨.Name x px, iter, [], 0⟩] scope pos) (some (.Name y py)) spos.line (d.env L) = pure true) (hk : d.isL y = true) (hd : Del y loc loc')
    (ok : compB scope x = true) (hf : ∀ L v, foldedSetIterable iter (d.env L) v = pure v) (he : ElOk G d scope elt x xs g)
    (h : Ev G n d loc H iter (fun v H₁ => ∃ zs : List V, (∀ z ∈ zs, z ∈ xs) ∧ zs.length ≤ 16777216 ∧ ItbW G v H₁ zs ∧ Pn ((y, .lst (zs.map g)) :: loc') H₁) X) : E1 G n d loc H (.Assign [.Name y py] (.ListComp elt [⟨.Name x px, iter, [], 0⟩] scope pos) spos) Pn Pr X := by
  have ok := CompOk.of ok
  refine E1.mk fun A c₀ s₀ he₀ a₀ S₀ r₀ Q E p₀ xp₀ => ?_
  obtain ⟨k1, k2⟩ := FD.isL_of hk
  have hkd := envd_kind he₀ S₀
  refine wpAny_Assign_ListComp_free (cl := []) (fun _ => true) (fun v r => ∀ z, ∀ y ∈ xs, RV z v y → RV z r (g y)) (by rw [he₀]; exact hsw _) (closureFor_none ok.free) ok.cell ok.kind ok.names ok.loc (by rw [he₀]; exact k1)
    (by rw [he₀]; show (d.sc.kind == .class || (d.sc.kind == .module && _)) = false; rw [hkd]; rfl) (h.then he₀ a₀ S₀ r₀ xp₀ fun vo y' H₁ c h t hp l₀ m₀ S rv => ?_) (by rw [he₀]; exact hf _)
  obtain ⟨zs, hsub, hz, hit, hP⟩ := hp
  obtain ⟨io, fp, P', St, iter', W, st0, hfp, hPv⟩ := hit A c { s₀ with heap := h, toks := t } a₀.hd S vo rv
  refine iter' _ _ ?_
  have hkI : ∀ s' : Shared, (∀ b o, b ∉ [h.objs.size] → (h.push io).get? b = some o → s'.heap.get? b = some o) → ∀ b o, h.get? b = some o → s'.heap.get? b = some o := fun s' hk b o e =>
    hk b o (by rw [List.mem_singleton]; exact Nat.ne_of_lt (Heap.lt_size e)) (Heap.get?_push_of_some _ e)
  have hLI : c.env.locals ≠ h.objs.size := Nat.ne_of_lt S.F.ns.lt
  rw [← l₀.env]
  refine ⟨_, fp, [h.objs.size], zs.length, P', St, c.m, rfl, W, by rw [sizeLine_eq]; exact hz, st0, fun b hb => by rw [Heap.size_push]; exact Nat.lt_succ_of_le (hfp b hb), by rw [List.mem_singleton]; exact hLI, S.F.ns.push io,
    ⟨fun C i v s₃ m₃ E' _ _ _ _ _ _ => wpAny_pure ⟨rfl, s₃.heap, s₃.toks, rfl, fun _ _ e => e⟩, fun C i v s₃ m₃ E' hC hv _ hn hm hk _ => ?_⟩, fun D h' tk ys vs hD hl hpl hlen hv hpr hns hk => ?_⟩
  · have hC' : h.objs.size ≤ C := by rw [Heap.size_push] at hC; exact Nat.le_of_succ_le hC
    obtain ⟨y, e, ry⟩ := hPv i v hv
    rw [l₀.envd he₀]
    exact he A _ C s₃ m₃ v E' (fun b o e => hkI s₃ hk b o (S.F.keep b o e)) (Nat.le_trans (Nat.le_trans S.F.above (Nat.le_of_lt S.F.ns.lt)) hC') hn hm ⟨c.fz, y, hsub _ (List.mem_of_getElem? e), ry⟩
  · have hkeep : ∀ b o, b ≠ c.env.locals → h.get? b = some o → h'.get? b = some o := fun b o hb e => hk b o hb (by rw [List.mem_singleton]; exact Nat.ne_of_lt (Heap.lt_size e)) (Heap.get?_push_of_some _ e)
    obtain ⟨k, hD'⟩ := hpl
    rw [filter_true] at hpr
    have hDn : ∀ q ∈ c.ow ++ (c.fr ++ c.fz), q.1 ≠ D := fun q hq e => by
      rw [← e, Heap.get?_push_of_some _ (S.N q hq).1] at hD
      cases hD
    have hDL : D ≠ c.env.locals := fun e => by
      obtain ⟨o, ho, _⟩ := S.oL
      rw [e, Heap.get?_push_of_some _ ho] at hD
      cases hD
    have hL0 : G.h₀.get? c.env.locals = none := by
      cases q : G.h₀.get? c.env.locals with
      | none => rfl
      | some o => exact absurd (Nat.lt_of_lt_of_le (Heap.lt_size q) S.F.above) (Nat.lt_irrefl _)
    have hD0 : G.h₀.get? D = none := by
      cases q : G.h₀.get? D with
      | none => rfl
      | some o => rw [Heap.get?_push_of_some _ (S.F.keep _ _ q)] at hD; cases hD
    have hF' : Fr G.h₀ c.env.locals h' (fun z => if z = y then some (.ref D) else c.m z) := ⟨hns, fun b o e => hkeep b o (fun q => by rw [q, hL0] at e; cases e) (S.F.keep b o e), S.F.above⟩
    have hN' : News G.h₀ c.env.locals h' (c.ow ++ (c.fr ++ c.fz)) := fun q hq => ⟨hkeep _ _ (S.N q hq).2.1 (S.N q hq).1, (S.N q hq).2⟩
    have S' : Sat G.h₀ { c with m := fun z => if z = y then some (.ref D) else c.m z } H₁ h' := { S with F := hF', N := hN' }
    have S'' := S'.newzf (a := D) (o := { cls := .type "list", data := .seq ys k }) hF' (fun q hq => by
      rcases List.mem_cons.mp hq with rfl | hq
      · exact ⟨hD', hDL, hD0⟩
      · exact hN' q hq) hDn
    have rr : RVs c.fz ys.toList (zs.map g) := paired_rv hpr hlen (fun j v e => hPv j v (hv j v e)) fun v r y hF hy ry => hF c.fz y (hsub _ hy) ry
    refine p₀.1 _ H₁ _ h' tk hP ((l₀.trans (Le.mm c _)).trans (Le.newz _ _)) S'' ?_
    refine RL.store (m := c.m) (loc := loc) ?_ hd (.lst (.head _) ⟨k, rfl⟩ (rr.mono fun _ h => .tail _ h))
    rw [m₀]
    exact (r₀.mono l₀.fz).mono fun _ h => .tail _ h
end
/-- the one object beside the editor's changed -/
theorem EdH.up {a : Ad} {σ : St} {N : Nat} {dk : Addr} {o : O} (o' : O) {H : HH} {cs : List V} {s t : Nat} {tk ck : Int} (E : EdH a σ N [(dk, o)] H cs s t tk ck) : ∃ H', UpH dk o o' H H' ∧ EdH a σ N [(dk, o')] H' cs s t tk ck := by
  obtain ⟨q, z, rfl⟩ := E
  exact ⟨EdL a σ cs s t tk ck [(dk, o')], .tail (.tail (.tail (.tail (.tail (.tail (.tail (.tail (.tail (.tail (.tail .head)))))))))), q, z, rfl⟩
noncomputable def wordsL : List Str := ["copy", "append", "prepend", "insert", "insert", "point", "jump", "number", "more"]
noncomputable def wordsV : List V := wordsL.map V.str
theorem word_of {z : V} (h : z ∈ wordsV) : ∃ w : Wd, z = .str w.s := by
  simp only [wordsV, wordsL, List.map_cons, List.map_nil, List.mem_cons, List.not_mem_nil, or_false] at h
  rcases h with h | h | h | h | h | h | h | h | h
  · exact ⟨.copy, h⟩
  · exact ⟨.append, h⟩
  · exact ⟨.prepend, h⟩
  · exact ⟨.insert, h⟩
  · exact ⟨.insert, h⟩
  · exact ⟨.point, h⟩
  · exact ⟨.jump, h⟩
  · exact ⟨.number, h⟩
  · exact ⟨.more, h⟩
theorem raw_of {r : Int} (h0 : 0 ≤ r) (h1 : r < 3) : ∃ raw : Option Int, [V.none, .int 1, .int 4][r.toNat]? = some (rawV raw) ∧ ∀ z, raw = some z → 0 ≤ z ∧ z ≤ 4 := by
  obtain rfl | rfl | rfl : r = 0 ∨ r = 1 ∨ r = 2 := by omega
  · exact ⟨none, rfl, fun z e => by cases e⟩
  · exact ⟨some 1, rfl, fun z e => by cases e; omega⟩
  · exact ⟨some 4, rfl, fun z e => by cases e; omega⟩
noncomputable abbrev dkO (xs : List Int) (j : Int) : O := .list [.lst (intV xs), .int j]
noncomputable abbrev stOf (σ : St) : V := stV σ.T σ.pt (keptOf σ.ms σ.rs)
/-- between the turns -/
noncomputable def LInv (a : Ad) (dk : Addr) (xs : List Int) (i : Nat) (q : St × Int) (H : HH) : Prop :=
  ∃ cs s t tk ck, EdH a q.1 (2 * (100 * 3 ^ i)) [(dk, dkO xs q.2)] H cs s t tk ck ∧ Good q.1 (100 * 3 ^ i) ∧ q.1.ms.length ≤ i ∧ 0 ≤ q.2 ∧ q.2 ≤ 3 + 5 * i
noncomputable def codes0 (m : Nat) : List Int := (List.range m).map fun i : Nat => 100 + (i : Int)
theorem codes0_len (m : Nat) : (codes0 m).length = m := by unfold codes0; rw [List.length_map, List.length_range]
noncomputable def addV (k : Int) (v : V) : V := match v with | .int i => .int (k + i) | v => v
theorem codes0_map (m : Nat) : (rngV m).map (addV 100) = intV (codes0 m) := by
  unfold rngV codes0 intV
  rw [List.map_map, List.map_map]
  rfl
theorem rngV_sub {m k : Nat} (h : m ≤ k) : ∀ z ∈ rngV m, z ∈ rngV k := by
  intro z hz
  unfold rngV at hz ⊢
  obtain ⟨i, hi, rfl⟩ := List.mem_map.mp hz
  exact List.mem_map.mpr ⟨i, List.mem_range.mpr (Nat.lt_of_lt_of_le (List.mem_range.mp hi) h), rfl⟩
theorem slc60 (ns : List Int) : slcV none (some 60) (intV ns) = intV (ns.take 60) := by
  simp [slcV, slcA, slcB, List.map_take]
theorem pow_le {i : Nat} (h : i ≤ 8) : 100 * 3 ^ i ≤ 700000 := by
  have : 3 ^ i ≤ 3 ^ 8 := Nat.pow_le_pow_right (by decide) h
  have e : 3 ^ 8 = 6561 := by decide
  omega
theorem pow3 (i : Nat) : 3 * (100 * 3 ^ i) = 100 * 3 ^ (i + 1) := by rw [Nat.pow_succ]; omega
theorem jlow {j : Int} (h : 0 ≤ j) : 0 ≤ j + 1 := Int.le_add_one h
theorem jtop {i : Nat} {j : Int} (h : j ≤ 3 + 5 * (i : Int)) (hi : i ≤ 8) : j ≤ 1000 ∧ j + 1 ≤ 1000 ∧ j + 1 + 1 ≤ 1000 ∧ j + 1 + 1 + 1 ≤ 1000 ∧ j + 1 + 1 + 1 + 1 ≤ 1000 := by omega
theorem jnext {i : Nat} {j : Int} (h : j ≤ 3 + 5 * (i : Int)) : j + 1 + 1 + 1 + 1 + 1 ≤ 3 + 5 * ((i + 1 : Nat) : Int) := by omega
theorem rlow {a : Nat} : (0 : Int) < (a : Int) + 1 := by omega
theorem rtop {a : Nat} {r : Int} (h : r < (a : Int) + 1) : 0 < (a : Int) + 2 - (1 + r) := by omega
theorem lowIs {r : Int} (h : 0 ≤ r) : 1 + r = (r.toNat : Int) + 1 := by omega
theorem highIs {r q : Int} (h : 0 ≤ r) (k : 0 ≤ q) : 1 + r + q = ((r + q).toNat : Int) + 1 := by omega
theorem lowHigh {r q : Int} (k : 0 ≤ q) : r.toNat ≤ (r + q).toNat := by omega
theorem highLen {a : Nat} {r q : Int} (h : 0 ≤ r) (k : q < (a : Int) + 2 - (1 + r)) : (r + q).toNat ≤ a := by omega
theorem lenLe {a M : Nat} (h : a ≤ M) (k : M ≤ 700000) : a ≤ 16777216 := by omega
theorem twoLe {M : Nat} (k : M ≤ 700000) : 2 * M ≤ 16777216 ∧ 6 * M ≤ 16777216 ∧ 2 * M ≤ 2 * (3 * M) ∧ M ≤ 3 * M ∧ 6 * M ≤ 2 * (3 * M) ∧ 2 * M ≤ 6 * M := by omega
theorem sgn {r : Int} (h : 0 ≤ r) (k : r < 3) : 97 + r ∈ ([97, 98, 99] : List Int) := by
  obtain rfl | rfl | rfl : r = 0 ∨ r = 1 ∨ r = 2 := by omega
  all_goals decide
theorem msLe {a i : Nat} (h : a ≤ i) (k : i ≤ 8) : a < 60 := by omega
theorem msNext {a b i : Nat} (h : a ≤ i) (k : b ≤ a + 1) : b ≤ i + 1 := by omega
theorem kept_ke {σ : St} {M : Nat} (g : Good σ M) : ∀ p ∈ keptOf σ.ms σ.rs, p.1 ∈ ([97, 98, 99] : List Int) := fun p hp => by
  obtain ⟨q, hq, rfl⟩ := List.mem_map.mp hp
  exact g.ke q hq
section
variable {G : Gx} {n : Nat} {H H' R : HH} {X : Str → HH → Prop} {P : V → HH → Prop}
theorem c_law {sc : Addr} {vs : List Value} {ns : List Int} (hl : G.h₀.IsList sc vs.toArray) (hi : IntsAre vs ns) (hz : ns.length ≤ 63) (h : ∀ H', P (.bool true) H') : Es G (n + 8) d_law [("script", .val (.ref sc))] [] d_law.body (fun _ H' => P .none H') P X := by
  refine Es.cons ?_
  with_reducible refine E1.asgN (.keep (by kernel_rfl) .nil) (by kernel_rfl) (by kernel_rfl) ?_
  with_reducible refine Ev.lst ?_
  refine Ea.cons (by kernel_rfl) ?_
  with_reducible refine Ev.sub ?_
  refine cTq (b_list _) bb_list ?_
  refine aLq m0 ?_
  refine Cl.listV hl hi (by omega) ?_
  with_reducible refine Ev.slice ?_
  refine Ep.none ?_
  refine Ep.some ?_
  with_reducible refine Ev.cint ?_
  with_reducible refine ⟨_, _, PartV.none, PartV.int _, ?_⟩
  refine Sb.slcF (by rw [List.length_map]; omega) trivial (by simp only [nnO]; omega) ?_
  rw [slc60]
  have hx : (ns.take 60).length ≤ 63 := by rw [List.length_take]; omega
  generalize ns.take 60 = xs at hx
  refine aIlq ?_
  with_reducible refine len_ok (by kernel_rfl!) ?_
  refine Or.inr fun dk => ?_
  refine Es.cons ?_
  refine E1.asgCs (rngV 11) (addV 100) (fun _ => by kernel_rfl) (by kernel_rfl) (.keep (by kernel_rfl) (.keep (by kernel_rfl) .nil)) (by kernel_rfl) (fun _ _ => rfl) (ElOk.add (CompOk.of (by kernel_rfl)) (by kernel_rfl)) ?_
  refine cTq (b_range _) bb_range ?_
  refine Ea.cons (by kernel_rfl) ?_
  refine cGq (g_law_draw _) ?_
  refine aNq m0 ?_
  refine aIlq ?_
  refine Cl.cd (c_draw (by decide) (by decide) (by decide) hx UpH.head fun r hr0 hr1 => ?_)
  refine Ea.nil ?_
  refine Cl.range hr0 ?_
  have hm : r.toNat ≤ 10 := by omega
  generalize r.toNat = m at hm
  refine ⟨rngV m, rngV_sub (by omega), by rw [rngV_len]; omega, (Itb.range (by omega)).weak, ?_⟩
  rw [codes0_map]
  have hT : (codes0 m).length ≤ 100 := by rw [codes0_len]; omega
  generalize codes0 m = T at hT
  refine eAq (.keep (by kernel_rfl) (.keep (by kernel_rfl) (.keep (by kernel_rfl) .nil))) ?_
  with_reducible refine Ev.tup ?_
  refine aNq m0 ?_
  refine Ea.cons (by kernel_rfl) ?_
  with_reducible refine Ev.bin ?_
  with_reducible refine Ev.cint ?_
  refine cGq (g_law_draw _) ?_
  refine aNq m1 ?_
  refine Ea.cons (by kernel_rfl) ?_
  with_reducible refine Ev.bin ?_
  refine cBq (b_len _) bb_len ?_
  refine aLq m0 ?_
  refine Cl.lenL (by rw [List.length_map]; omega) ?_
  rw [List.length_map]
  with_reducible refine Ev.cint ?_
  refine Bn.add ?_
  refine Ea.nil ?_
  refine Cl.cd (c_draw (by decide) (by decide) (by omega) hx UpH.head fun r hr0 hr1 => ?_)
  refine Bn.add ?_
  refine Ea.cons (by kernel_rfl) ?_
  refine Ev.frz (Ev.dict0 fun D => ⟨D, [], _, rfl, .refl _, ?_⟩)
  refine Ea.nil ?_
  with_reducible refine len_ok (by kernel_rfl!) ?_
  refine eAq (.keep (by kernel_rfl) (.keep (by kernel_rfl) (.keep (by kernel_rfl) (.keep (by kernel_rfl) .nil)))) ?_
  refine cGq (g_law_editor _) ?_
  refine aNq m1 ?_
  refine Ea.cons (by kernel_rfl) ?_
  refine sTq m0 ?_
  refine Ea.nil ?_
  refine Cl.cd (c_editor (T := T) (by omega) (by omega) hT fun a H' cs s t tk ck E₀ => ?_)
  refine eAq (.keep (by kernel_rfl) (.keep (by kernel_rfl) (.keep (by kernel_rfl) (.keep (by kernel_rfl) (.keep (by kernel_rfl) .nil))))) ?_
  with_reducible refine Ev.lst ?_
  refine aSq ?_
  refine aSq ?_
  refine aSq ?_
  refine aSq ?_
  refine aSq ?_
  refine aSq ?_
  refine aSq ?_
  refine aSq ?_
  refine aSlq ?_
  with_reducible refine len_ok (by kernel_rfl!) ?_
  refine Or.inl ?_
  refine Es.cons ?_
  refine E1.forB (σ := St × Int) (fun q => [("deck", .ref dk), ("state", stOf q.1), ("editor", .ref a.e), ("words", .lst wordsV)]) (by kernel_rfl) (fun _ _ => rfl) (fun _ => by kernel_rfl) ?_
  refine cTq (b_range _) bb_range ?_
  refine Ea.cons (by kernel_rfl) ?_
  with_reducible refine Ev.bin ?_
  with_reducible refine Ev.cint ?_
  refine cGq (g_law_draw _) ?_
  refine aNq m4 ?_
  refine aIlq ?_
  obtain ⟨H₁, U₁, E₁⟩ := E₀.up (dkO xs 3)
  refine Cl.cd (c_draw (by decide) (by decide) (by decide) hx U₁ fun r' hr0' hr1' => ?_)
  refine Bn.add ?_
  refine Ea.nil ?_
  refine Cl.range (by omega) ?_
  have hk : (1 + r').toNat ≤ 9 := by omega
  generalize (1 + r').toNat = k at hk
  have g₀ : Good ⟨T, 1 + r, [], []⟩ (100 * 3 ^ 0) := ⟨by show 1 ≤ 1 + r; omega, by show 1 + r ≤ (T.length : Int) + 1; omega, hT, fun x hx => (List.not_mem_nil hx).elim, .nil, fun x hx => (List.not_mem_nil hx).elim, fun x hx => (List.not_mem_nil hx).elim, fun x hx => (List.not_mem_nil hx).elim, fun x hx => (List.not_mem_nil hx).elim⟩
  refine ⟨rngV k, LInv a dk xs, (⟨T, 1 + r, [], []⟩, 3), Itb.range (by omega), (al1 m4 (al1 m2 (al1 m1 (al1 m0 al0)))), ⟨cs, s, t, tk, ck, E₁, g₀, Nat.le_refl _, by show (0 : Int) ≤ 3; decide, by show (3 : Int) ≤ 3 + 5 * (0 : Nat); decide⟩, ?_, ?_⟩
  · rintro i y ⟨σ, j⟩ H' hy ⟨cs, s, t, tk, ck, E, g, hms, hj0, hj1⟩
    have hik : i < k := by
      have := (List.getElem?_eq_some_iff.mp hy).1
      rwa [rngV_len] at this
    have hM1 : 100 ≤ 100 * 3 ^ i := Nat.le_mul_of_pos_right _ (Nat.pow_pos (by decide))
    have hi8 : i ≤ 8 := Nat.le_of_lt_succ (Nat.lt_of_lt_of_le hik hk)
    have hM2 := pow_le (i := i) hi8
    have hM3 : 3 * (100 * 3 ^ i) = 100 * 3 ^ (i + 1) := pow3 i
    dsimp only at E g hms hj0 hj1 ⊢
    have tM := g.tM
    have jt := jtop hj1 hi8
    have tw := twoLe hM2
    have lT := lenLe tM hM2
    obtain ⟨M, hM⟩ : ∃ M, 100 * 3 ^ i = M := ⟨_, rfl⟩
    rw [hM] at E g hM1 hM2 hM3 tM tw
    refine eAq (.keep (by kernel_rfl) (.keep (by kernel_rfl) (.keep (by kernel_rfl) (.keep (by kernel_rfl) (.keep (by kernel_rfl) .nil))))) ?_
    refine cBq (b_len _) bb_len ?_
    refine Ea.cons (by kernel_rfl) ?_
    refine sTq m2 ?_
    refine Ea.nil ?_
    refine Cl.lenL (by rw [List.length_map]; exact lT) ?_
    rw [List.length_map]
    refine eAq (.keep (by kernel_rfl) (.keep (by kernel_rfl) (.keep (by kernel_rfl) (.keep (by kernel_rfl) (.keep (by kernel_rfl) (.keep (by kernel_rfl) .nil)))))) ?_
    with_reducible refine Ev.bin ?_
    with_reducible refine Ev.cint ?_
    refine cGq (g_law_draw _) ?_
    refine aNq m2 ?_
    refine Ea.cons (by kernel_rfl) ?_
    with_reducible refine Ev.bin ?_
    refine eNq m0 ?_
    with_reducible refine Ev.cint ?_
    refine Bn.add ?_
    refine Ea.nil ?_
    obtain ⟨H1, U1, e1⟩ := E.up (dkO xs (j + 1))
    refine Cl.cd (c_draw hj0 jt.1 rlow hx U1 fun r1 h10 h11 => ?_)
    refine Bn.add ?_
    with_reducible refine Es.cons ?_
    refine E1.asgTS (ns := ["high", "raw"]) rfl rfl (fun _ => by kernel_rfl) ?_
    with_reducible refine Ev.tup ?_
    refine Ea.cons (by kernel_rfl) ?_
    with_reducible refine Ev.bin ?_
    refine eNq m0 ?_
    refine cGq (g_law_draw _) ?_
    refine aNq m3 ?_
    refine Ea.cons (by kernel_rfl) ?_
    with_reducible refine Ev.bin ?_
    with_reducible refine Ev.bin ?_
    refine eNq m1 ?_
    with_reducible refine Ev.cint ?_
    refine Bn.add ?_
    refine eNq m0 ?_
    refine Bn.sub ?_
    refine Ea.nil ?_
    obtain ⟨H2, U2, e2⟩ := e1.up (dkO xs (j + 1 + 1))
    refine Cl.cd (c_draw (jlow hj0) jt.2.1 (rtop h11) hx U2 fun r2 h20 h21 => ?_)
    refine Bn.add ?_
    refine Ea.cons (by kernel_rfl) ?_
    with_reducible refine Ev.sub ?_
    with_reducible refine Ev.lst ?_
    refine Ea.cons (by kernel_rfl) ?_
    with_reducible refine Ev.cnone ?_
    refine aIq ?_
    refine aIlq ?_
    with_reducible refine len_ok (by kernel_rfl!) ?_
    refine Or.inl ?_
    refine cGq (g_law_draw _) ?_
    refine aNq m3 ?_
    refine aIlq ?_
    obtain ⟨H3, U3, e3⟩ := e2.up (dkO xs (j + 1 + 1 + 1))
    refine Cl.cd (c_draw (jlow (jlow hj0)) jt.2.2.1 (by decide) hx U3 fun r3 h30 h31 => ?_)
    skip
    obtain ⟨raw, hr1, hr2⟩ := raw_of h30 h31
    refine Sb.lst h30 (Int.lt_trans h31 (by decide)) hr1 ?_
    refine Ea.nil ?_
    with_reducible refine len_ok (by kernel_rfl!) ?_
    refine ⟨_, _, rfl, (.cons (.keep (by kernel_rfl) (.keep (by kernel_rfl) (.keep (by kernel_rfl) (.keep (by kernel_rfl) (.keep (by kernel_rfl) (.keep (by kernel_rfl) (.keep (by kernel_rfl) .nil))))))) (.cons (.keep (by kernel_rfl) (.keep (by kernel_rfl) (.keep (by kernel_rfl) (.keep (by kernel_rfl) (.keep (by kernel_rfl) (.keep (by kernel_rfl) (.keep (by kernel_rfl) (.keep (by kernel_rfl) .nil)))))))) .nil)), ?_⟩
    with_reducible refine Es.cons ?_
    with_reducible refine E1.asgN (.keep (by kernel_rfl) (.keep (by kernel_rfl) (.keep (by kernel_rfl) (.keep (by kernel_rfl) (.keep (by kernel_rfl) (.keep (by kernel_rfl) (.keep (by kernel_rfl) (.keep (by kernel_rfl) (.keep (by kernel_rfl) .nil))))))))) (by kernel_rfl) (by kernel_rfl) ?_
    with_reducible refine Ev.tup ?_
    refine Ea.cons (by kernel_rfl) ?_
    refine cGq (g_law_pick _) ?_
    refine aNq m5 ?_
    refine aLq m8 ?_
    obtain ⟨H4, U4, e4⟩ := e3.up (dkO xs (j + 1 + 1 + 1 + 1))
    refine Cl.cd (c_pick (jlow (jlow (jlow hj0))) jt.2.2.2.1 hx (by decide) (by decide) U4 fun z hz => ?_)
    obtain ⟨w, rfl⟩ := word_of hz
    refine Ea.cons (by kernel_rfl) ?_
    with_reducible refine Ev.bin ?_
    with_reducible refine Ev.cint ?_
    refine cGq (g_law_draw _) ?_
    refine aNq m5 ?_
    refine aIlq ?_
    obtain ⟨H5, U5, e5⟩ := e4.up (dkO xs (j + 1 + 1 + 1 + 1 + 1))
    refine Cl.cd (c_draw (jlow (jlow (jlow (jlow hj0)))) jt.2.2.2.2 (by decide) hx U5 fun r4 h40 h41 => ?_)
    refine Bn.add ?_
    refine aNq m2 ?_
    refine aNq m0 ?_
    refine aLq m1 ?_
    with_reducible refine len_ok (by kernel_rfl!) ?_
    with_reducible refine Es.cons ?_
    with_reducible refine E1.asgN (.keep (by kernel_rfl) (.keep (by kernel_rfl) (.keep (by kernel_rfl) (.keep (by kernel_rfl) (.keep (by kernel_rfl) (.keep (by kernel_rfl) (.keep (by kernel_rfl) (.keep (by kernel_rfl) (.keep (by kernel_rfl) (.keep (by kernel_rfl) .nil)))))))))) (by kernel_rfl) (by kernel_rfl) ?_
    refine cGq (g_law_due _) ?_
    refine aNq m7 ?_
    refine aLq m0 ?_
    have gl := g.law hM1 hM2
    have hij : r1.toNat ≤ (r1 + r2).toNat := lowHigh h20
    have hj' : (r1 + r2).toNat ≤ σ.T.length := highLen h10 h21
    have hk4 := sgn h40 h41
    have el := lowIs h10
    have eh := highIs h10 h20
    have m60 := msLe hms hi8
    refine Cl.cd (c_due (w := w) (raw := raw) (i := r1.toNat) (j := (r1 + r2).toNat) gl el eh hij ?_)
    have back : ∀ σ' H' cs' s' t' tk' ck', EdH a σ' (6 * M) [(dk, dkO xs (j + 1 + 1 + 1 + 1 + 1))] H' cs' s' t' tk' ck' → Good σ' (3 * M) → σ'.ms.length ≤ σ.ms.length + 1 → LInv a dk xs (i + 1) (σ', j + 1 + 1 + 1 + 1 + 1) H' := fun σ' H' cs' s' t' tk' ck' E' g' hm' =>
      ⟨cs', s', t', tk', ck', by rw [← hM3]; exact E'.more tw.2.2.2.2.1, by rw [← hM3]; exact g', msNext hms hm', jlow (jlow (jlow (jlow (jlow hj0)))), jnext hj1⟩
    cases hs : lawStep w σ.T σ.pt (keptOf σ.ms σ.rs) (97 + r4) r1.toNat (r1 + r2).toNat raw with
    | none =>
      simp only [resV]
      with_reducible refine Es.cons ?_
      with_reducible refine E1.asgN (.keep (by kernel_rfl) (.keep (by kernel_rfl) (.keep (by kernel_rfl) (.keep (by kernel_rfl) (.keep (by kernel_rfl) (.keep (by kernel_rfl) (.keep (by kernel_rfl) (.keep (by kernel_rfl) (.keep (by kernel_rfl) (.keep (by kernel_rfl) (.keep (by kernel_rfl) .nil))))))))))) (by kernel_rfl) (by kernel_rfl) ?_
      refine cGq (g_law_does _) ?_
      refine aNq m9 ?_
      refine aLq m1 ?_
      refine Cl.cd (c_does e5 g (Nat.le_refl _) hM1 hM2 m60 el eh hij hj' hr2 hk4 ?_)
      rw [hs]
      simp only [Left]
      refine eIq ?_
      with_reducible refine Bt.cmp (by kernel_rfl) ?_
      refine eNq m0 ?_
      with_reducible refine Ev.ife ?_
      with_reducible refine Bt.bool (by kernel_rfl) ?_
      refine cBq (b_isinstance _) bb_isinstance ?_
      refine aNq m1 ?_
      refine Ea.cons (by kernel_rfl) ?_
      with_reducible refine Ev.blt (b_str _) bb_str (by decide +kernel) (by kernel_rfl) ?_
      refine Ea.nil ?_
      refine Cl.isStrStr ?_
      with_reducible refine bt_ok ?_
      with_reducible refine ite_t' (by kernel_rfl!) ?_
      refine eNq m1 ?_
      refine Cm.neS ?_
      refine iFq ?_
      with_reducible refine Es.cons ?_
      with_reducible refine E1.asgN (.keep (by kernel_rfl) (.keep (by kernel_rfl) (.keep (by kernel_rfl) (.keep (by kernel_rfl) (.keep (by kernel_rfl) (.keep (by kernel_rfl) (.keep (by kernel_rfl) (.keep (by kernel_rfl) (.keep (by kernel_rfl) (.skip (.keep (by kernel_rfl) (.keep (by kernel_rfl) .nil)))))))))))) (by kernel_rfl) (by kernel_rfl) ?_
      with_reducible refine Ev.ife ?_
      with_reducible refine Bt.bool (by kernel_rfl) ?_
      refine cBq (b_isinstance _) bb_isinstance ?_
      refine aNq m1 ?_
      refine Ea.cons (by kernel_rfl) ?_
      with_reducible refine Ev.blt (b_str _) bb_str (by decide +kernel) (by kernel_rfl) ?_
      refine Ea.nil ?_
      refine Cl.isStrStr ?_
      with_reducible refine bt_ok ?_
      with_reducible refine ite_t' (by kernel_rfl!) ?_
      refine eNq m9 ?_
      refine eIq ?_
      with_reducible refine Bt.cmp (by kernel_rfl) ?_
      refine cGq (g_law_told _) ?_
      refine aLq m10 ?_
      refine Cl.cd (c_told e5 tw.1 g.pts fun H6 e6 => ?_)
      refine eNq m0 ?_
      refine ne_told (by rw [keptOf_keys]; exact g.nd) (kept_ke g) ?_
      refine iFq ?_
      with_reducible refine Es.nil ?_
      exact ⟨(σ, j + 1 + 1 + 1 + 1 + 1), (al1 m9 (al1 m0 (al1 m10 (al1 m11 al0)))), back _ _ _ _ _ _ _ (e6.more tw.2.2.2.2.2) (g.more tw.2.2.2.1) (Nat.le_succ _)⟩
    | some q =>
      simp only [resV]
      with_reducible refine Es.cons ?_
      with_reducible refine E1.asgN (.keep (by kernel_rfl) (.keep (by kernel_rfl) (.keep (by kernel_rfl) (.keep (by kernel_rfl) (.keep (by kernel_rfl) (.keep (by kernel_rfl) (.keep (by kernel_rfl) (.keep (by kernel_rfl) (.keep (by kernel_rfl) (.keep (by kernel_rfl) (.keep (by kernel_rfl) .nil))))))))))) (by kernel_rfl) (by kernel_rfl) ?_
      refine cGq (g_law_does _) ?_
      refine aNq m9 ?_
      refine aLq m1 ?_
      refine Cl.cd (c_does e5 g (Nat.le_refl _) hM1 hM2 m60 el eh hij hj' hr2 hk4 ?_)
      rw [hs]
      simp only [Left]
      intro σ' H' cs' s' t' tk' ck' E' eT ept ek g' hm'
      rw [← eT, ← ept, ← ek]
      refine eIq ?_
      with_reducible refine Bt.cmp (by kernel_rfl) ?_
      refine eNq m0 ?_
      with_reducible refine Ev.ife ?_
      with_reducible refine Bt.bool (by kernel_rfl) ?_
      refine cBq (b_isinstance _) bb_isinstance ?_
      refine aNq m1 ?_
      refine Ea.cons (by kernel_rfl) ?_
      with_reducible refine Ev.blt (b_str _) bb_str (by decide +kernel) (by kernel_rfl) ?_
      refine Ea.nil ?_
      refine Cl.isTupStr ?_
      with_reducible refine bt_ok ?_
      with_reducible refine ite_f' (by kernel_rfl!) ?_
      with_reducible refine Ev.cnone ?_
      refine Cm.neNN ?_
      refine iFq ?_
      with_reducible refine Es.cons ?_
      with_reducible refine E1.asgN (.keep (by kernel_rfl) (.keep (by kernel_rfl) (.keep (by kernel_rfl) (.keep (by kernel_rfl) (.keep (by kernel_rfl) (.keep (by kernel_rfl) (.keep (by kernel_rfl) (.keep (by kernel_rfl) (.keep (by kernel_rfl) (.skip (.keep (by kernel_rfl) (.keep (by kernel_rfl) .nil)))))))))))) (by kernel_rfl) (by kernel_rfl) ?_
      with_reducible refine Ev.ife ?_
      with_reducible refine Bt.bool (by kernel_rfl) ?_
      refine cBq (b_isinstance _) bb_isinstance ?_
      refine aNq m1 ?_
      refine Ea.cons (by kernel_rfl) ?_
      with_reducible refine Ev.blt (b_str _) bb_str (by decide +kernel) (by kernel_rfl) ?_
      refine Ea.nil ?_
      refine Cl.isTupStr ?_
      with_reducible refine bt_ok ?_
      with_reducible refine ite_f' (by kernel_rfl!) ?_
      refine eNq m1 ?_
      refine eIq ?_
      with_reducible refine Bt.cmp (by kernel_rfl) ?_
      refine cGq (g_law_told _) ?_
      refine aLq m10 ?_
      refine Cl.cd (c_told E' tw.2.1 g'.pts fun H6 e6 => ?_)
      refine eNq m0 ?_
      refine ne_told (by rw [keptOf_keys]; exact g'.nd) (kept_ke g') ?_
      refine iFq ?_
      with_reducible refine Es.nil ?_
      exact ⟨(σ', j + 1 + 1 + 1 + 1 + 1), (al1 m9 (al1 m0 (al1 m10 (al1 m11 al0)))), back _ _ _ _ _ _ _ e6 g' hm'⟩
  · rintro ⟨σ, j⟩ loc' H' hb _
    refine Es.names hb ?_
    refine eRq ?_
    with_reducible refine Ev.cbool ?_
    exact h _
end
/-- the way in: from the caller's frame into the law -/
theorem into_law {q : Program} {loose : List Str} {w : World} {s₁ : Shared} {mg mb : Str → Option Value} {prog : Program} (K : kHk.says w s₁.heap) (T : TopRead q loose mg mb s₁.heap) {sc : Addr} {vs : List Value} {ns : List Int} (hl : s₁.heap.IsList sc vs.toArray) (hi : IntsAre vs ns) (hz : ns.length ≤ 63)
    {R : Result → Shared → Prop} (h : ∀ h' tk, (∀ b o, s₁.heap.get? b = some o → h'.get? b = some o) → R (.ok (.ret (.bool true))) { s₁ with heap := h', toks := tk }) : codeAny (model prog w) callerA (.call (.ref 1165) ⟨[.ref sc], []⟩) R s₁ := by
  let G : Gx := ⟨prog, w, s₁.heap, q, loose, mg, mb, K.1, K.2, T⟩
  obtain ⟨co, cor, gen, kind, cell, nd, loc⟩ := ok_law.facts
  refine codeAny_call_def (fd := d_law.fd) (body := d_law.body) (binds := [("script", .ref sc)]) (by decide) (K.1 _ _ (ok_law.K _)) rfl T.nolimit (K.2 _ co) rfl (BindsTo.of_eq rfl) cell (fun x hx => loc x.1 ?_) (fun h₁ hns hk => ?_) cor gen kind
  · obtain rfl := List.mem_singleton.mp hx
    exact List.mem_singleton.mpr rfl
  · have S : Sat G.h₀ ⟨d_law.env s₁.heap.objs.size, [], _, [], [], []⟩ [] h₁ :=
      { F := ⟨hns, hk, Nat.le_refl _⟩, N := fun p hp => (List.not_mem_nil hp).elim, R := .nil, nd := .nil, zz := fun p hp => (List.not_mem_nil hp).elim, fo := rfl, fk := fun e he => (List.not_mem_nil he).elim, fd := fun p hp => (List.not_mem_nil hp).elim, kind := kind, lf := rfl }
    have W := c_law (G := G) (n := 0) (X := fun _ _ => False) (P := fun v _ => v = .bool true) hl hi hz fun _ => rfl
    refine W.use _ _ { s₁ with heap := h₁, toks := s₁.toks + 1 } rfl ⟨rfl, rfl, by show callerA.depth + 1 + 8 < recursionLimit; decide, by show callerA.units + 3 + 8 * 8 < cLine; decide⟩ S (fun p hp => ?_) _ _ ⟨fun loc' H' c' h' tk hp _ _ _ => (by cases hp), fun v x H' c' h' tk hp l S' rv => ?_⟩ fun e y H' c' h' tk hx _ _ => hx.elim
    · obtain rfl := List.mem_singleton.mp hp
      exact ⟨.ref sc, rfl, .val _⟩
    · subst hp
      obtain rfl := rv.bool_inv
      exact h h' tk S'.F.keep
theorem walk_law (q : Program) (loose : List Str) (d : DefRec) (kwd : List (Str × Expr)) (hn : d.name = "law") : WalkO q loose (XL q []) kHk.says PySem.Challenge.rw_on0076_01.row.toRowW d kwd (fun f vs => PySem.call f vs) := by
  intro w s₀ s₁ mg mb G Y fa o pm cd doc dV kV ho hd hcd hD hmg hg args vals as hpre hlay hrd hwl hlo
  refine Ground.open G ?_
  intro T B D TE TW
  have TR := topRead_of T
  have hfa : fa = 1165 := by
    have := mg_of Y.1 T.g (g_law w.params)
    rw [← hn, hmg] at this
    cases this
    rfl
  clear hmg
  wrow_args hpre hlay hrd hwl hlo
  refine enter_call ?_
  subst hfa
  refine into_law Y TR (by assumption) (by assumption) (by omega) fun h' tk hk => ?_
  refine GoodW.toG ⟨.inl ⟨_, .bool true, [], rfl, fun _ => rfl, .bool true, ?_, fun _ => ⟨.nil, fun _ hm => (List.not_mem_nil hm).elim⟩⟩, hk, rfl, hg⟩
  kernel_rfl!
noncomputable def dH : DefRec := match stm 101 with
  | .FunctionDef name ps body _ _ _ sc _ _ pos => (match defOf qH "law" with
    | some x => x.1
    | none => ⟨name, ps, body, sc, pos⟩)
  | _ => ⟨"law", ⟨[], [], none, [], [], none, []⟩, [], pr.main.scope, q0⟩
theorem hd1 : defOf qH PySem.Challenge.rw_on0076_01.row.name = some (dH, []) := by kernel_rfl
theorem hd2 : PySem.Challenge.rw_on0076_01.row.prog.theDef PySem.Challenge.rw_on0076_01.row.name = some (dH.params, dH.body, dH.scope) := by kernel_rfl
theorem hd3 : kwWritten? dH.params.kwonlyargs dH.params.kw_defaults = some [] := by kernel_rfl
theorem hd4 : dH.name = "law" := by kernel_rfl
theorem hd5 : (chainsOk qH && opensWell PySem.Challenge.rw_on0076_01.row.prog && (frees PySem.Challenge.rw_on0076_01.row.toRowW && PySem.Challenge.rw_on0076_01.row.within.isEmpty)) = true := by kernel_rfl
theorem row_holds (ws : PySem.Challenge.rw_on0076_01.row.wellSaid = true) : PySem.Challenge.rw_on0076_01.row.Holds := by
  refine PySem.W.holds_open (q := qH) (loose := looseH) (Xt := XtH) (XP := XL qH []) (Yf := kHk.obs) (Ya := kHk.val) (YP := kHk.says) (N := 20000) left0 (Hook.of kHk) (Hook.keeps kHk) (fun s e => xl_of s (Bool.and_eq_true_iff.mp e).1) XL.keeps
    hd1 hd2 hd3 (fun s e => recFacts_of (Bool.and_eq_true_iff.mp e).2) (by rfl) ws hd5 ⟨rfl, rfl, rfl, rfl, rfl, by decide +kernel⟩ ?hw ?hc
  case hw => w_witness2
  case hc => exact walk_law _ _ _ _ hd4
theorem law_holds : PySem.Challenge.rw_on0076_01.Holds := holds_law said row_holds
end Mine
end

open PySem PySem.W PyProof.Rows
set_option maxRecDepth 100000 in
set_option maxHeartbeats 8000000 in
theorem PySem.Challenge.cw_on0076_01_holds : PySem.Challenge.rw_on0076_01.Holds :=
  Mine.law_holds

import PyProof.Rows.All
import Wide.All
import OpenK.AllK
import Wide.FinOn
import PySem.Challenge.RW_nt0234_01
open PySem PySem.W PyProof.Rows PySem.SeqAt
set_option Elab.async false
set_option maxRecDepth 100000
set_option linter.unusedVariables false
set_option genInjectivity false
set_option genSizeOf false
section
set_option maxHeartbeats 0
namespace Mine.H
noncomputable section
abbrev P0:Program:=Challenge.pw_nt0234_01
noncomputable def q (s:String) (t:Nat):Value:=.str (Str.ofString s) t
noncomputable def R (a:Nat):Value:=.ref a
noncomputable def I (n:Int):Value:=.int n 0
noncomputable def tu (l:List Value):Obj:=⟨.type "tuple",none,.seq l.toArray 0,#[]⟩
noncomputable def fl (s:String) (l:List Value):Obj:=⟨.type s,none,.fields l.toArray,#[]⟩
noncomputable def fz (l:List Value):Obj:=⟨.none,none,.fields l.toArray,#[]⟩
noncomputable def su (a:Nat):Obj:=fl "super" [R a,R a,R a]
noncomputable def fr (a b c:Nat) (s:String) (t:Nat):Obj:=⟨.type "frame",none,.plain,#[some (R a),some (R b),some (R c),none,some (q s t),none,some (R 0)]⟩
noncomputable def de (P:Params) (k:String) (t:Nat) (v:Value):DictEntry:=⟨PyData.keyHash P (Str.ofString k),q k t,v⟩
noncomputable def dc (n:Nat) (es:List DictEntry):Obj:=⟨.type "dict",none,.dict es.toArray n,#[]⟩
noncomputable def co (n qn:String) (t:Nat) (L a b c f:Int) (r:Nat) (o:Bool) (m:Int) (vs:List Value) (u:Nat):Obj:=
  fl "code" ([q n t,q qn (t+1),q "/claim/cut.py" (t+2),I L,I a,I b,I c,I f,R r,.bool o,I m,R (r+1)]++(vs++[I u,I L,q "/claim/cut.py" (u+1)]))
noncomputable def ty (n:String) (bs mro:List Value) (ns:Nat) (sub:List Value) (x:Option Value) (t u:Nat) (m:String):Obj:=
  ⟨.type "type",none,.cls ⟨Str.ofString n,bs,mro,ns,Str.ofString n,true,[],sub,false,none,false⟩,#[x,none,some (q n t),some (q n u),some (.builtin m),some (.bool true)]⟩
noncomputable def Pz:List Stmt->List Stmt
  | []=>[]
  | .FunctionDef n a b d e f g h i j::r=>.FunctionDef n a b d e f g h i j::Pz r
  | _::r=>Pz r
noncomputable def oF:List Stmt->List Stmt
  | []=>[]
  | .FunctionDef n a b d e f g h i j::r=>.FunctionDef n a b d e f g h i j::oF r
  | .ClassDef _ _ _ b _ _ _ _ _ _ _::r=>Pz b++oF r
  | _::r=>oF r
noncomputable def QS:List Stmt->Nat->Stmt
  | [],_=>.Pass default
  | a::_,0=>a
  | _::r,n+1=>QS r n
noncomputable def fn (i:Nat) (qn:String) (g:Nat) (v m c:Value):Data:=match QS (oF P0.main.body) i with
  | .FunctionDef n a b _ _ _ s _ _ _=>.func {name:=n,qualname:=Str.ofString qn,params:=a,body:=.stmts b,scope:=s,globals:=g,closure:=[],defaults:=v,kwdefaults:=.none,doc:=.none,pyModule:=m,annotations:=none,code:=c,closureTuple:=.none,builtins:=0}
  | _=>.plain
noncomputable def ZX (i:Nat):Value:=match QS (oF P0.main.body) i with
  | .FunctionDef n ..=>.str n 0
  | _=>.none
noncomputable def fw (i:Nat) (qn:String):Obj:=⟨.none,none,fn i qn 0 .none .none .none,#[]⟩
noncomputable def fo (i:Nat) (qn:String) (v:Value) (s:String) (t c:Nat):Obj:=⟨.type "function",none,fn i qn 3 v (q s t) (R c),#[]⟩
noncomputable def VQ:List String->Nat->List Value
  | [],_=>[]
  | s::r,t=>q s t::VQ r (t+1)
noncomputable def fb (i:Nat) (qn n:String) (r t:Nat) (L a:Int) (xs:List String) (s:String) (u:Nat) (w:List Obj):List Obj:=
  tu []::fz []::tu (VQ xs (t+3))::tu []::fw i qn::co n qn t L a 0 0 3 r true 181 [.none,R (r+2),R (r+3),R (r+4)] (t+3+xs.length)::fo i qn .none s u (r+5)::w
noncomputable def XW (P:Params):List Obj:=
  fb 115 "_law_prim" "_law_prim" 1086 1674 606 2 ["op","values"] "law_nt0234_01" 1615 (fb 116 "_law_step" "_law_step" 1093 1682 610 3 ["node","sight","rest"] "law_nt0234_01" 1615 (fb 117 "_law_all_there" "_law_all_there" 1100 1691 626 2 ["top","values","fun","sight","number","value"] "law_nt0234_01" 1615 (fb 118 "_law_given" "_law_given" 1107 1703 640 3 ["values","top","told","node","sight","rest","is_false","done"] "law_nt0234_01" 1615 (tu []::fz []::fw 119 "_law_meaning"::co "_law_meaning" "_law_meaning" 1717 657 2 0 0 3 1114 true 181 [.none,.none,.none,R 1116] 1720::fo 119 "_law_meaning" .none "law_nt0234_01" 1615 1117::tu []::fz []::fw 120 "_law_op"::co "_law_op" "_law_op" 1723 674 3 0 0 3 1119 true 181 [.none,.none,.none,R 1121] 1726::fo 120 "_law_op" .none "law_nt0234_01" 1615 1122::fb 121 "_law_into" "_law_into" 1124 1729 687 4 ["program","label","sight","values","block","found","var","value"] "law_nt0234_01" 1615 (tu []::fz []::fw 122 "_law_left"::co "_law_left" "_law_left" 1743 695 3 0 0 3 1131 true 181 [.none,.none,.none,R 1133] 1746::fo 122 "_law_left" .none "law_nt0234_01" 1615 1134::fb 123 "_law_run" "_law_run" 1136 1749 716 2 ["program","most","told","now","turn","block","sight","op"] "law_nt0234_01" 1615 (tu []::fz []::fw 124 "law"::co "law" "law" 1763 728 1 0 0 3 1143 true 181 [.none,.none,.none,R 1145] 1766::fo 124 "law" .none "law_nt0234_01" 1615 1146::[]))))))
noncomputable def XX (P:Params):List Obj:=
  fb 89 "go_call" "go_call" 894 1421 454 2 ["builder","task","values","var","after"] "scheme.cps" 1117 (fb 90 "go_choice" "go_choice" 901 1432 465 2 ["builder","task","test","yes","no","node","params","after"] "scheme.cps" 1117 (fb 91 "go_enter" "go_enter" 908 1446 478 2 ["builder","task"] "scheme.cps" 1117 (fb 92 "go_jump" "go_jump" 915 1454 480 2 ["builder","task","values"] "scheme.cps" 1117 (fb 93 "go_hold" "go_hold" 922 1463 483 2 ["builder","task"] "scheme.cps" 1117 (fb 94 "go_on" "go_on" 929 1471 485 2 ["builder","task"] "scheme.cps" 1117 (fb 95 "go" "go" 936 1479 494 2 ["builder","task"] "scheme.cps" 1117 (fb 96 "build" "build" 943 1487 507 3 ["builder","block","node"] "scheme.cps" 1117 (fb 97 "to_cps" "to_cps" 950 1496 512 2 ["node","world","builder","start","block","body"] "scheme.cps" 1117 (tu []::fl "builtin_function_or_method" [.builtin "type.__prepare__",.type "type"]::dc 14 [de P "__module__" 1517 (q "scheme.names" 1508),de P "__qualname__" 1519 (q "Names" 1518),de P "__firstlineno__" 1521 (.int 524 1520),de P "__init__" 1528 (R 970),de P "fresh" 1535 (R 977),de P "symbol" 1543 (R 984),de P "number_of_name" 1551 (R 991),de P "text_of_symbol" 1559 (R 998),de P "set_title" 1568 (R 1005),de P "title_of" 1576 (R 1012),de P "give_ops" 1584 (R 1019),de P "op_at" 1592 (R 1026),de P "fold" 1601 (R 1033),de P "__static_attributes__" 1607 (R 1034)]::tu []::fz [I 526,I 4,R 969,I 533,I 4,R 976,I 537,I 4,R 983,I 540,I 4,R 990,I 543,I 4,R 997,I 546,I 4,R 1004,I 549,I 4,R 1011,I 552,I 4,R 1018,I 555,I 4,R 1025,I 558,I 4,R 1032]::co "Names" "Names" 1512 524 0 0 0 0 960 false 181 [.none,.none,.none,.none] 1515::fr 962 3 959 "scheme.names" 1508::fb 98 "Names.__init__" "__init__" 964 1522 526 1 ["self"] "scheme.names" 1508 (fb 99 "Names.fresh" "fresh" 971 1529 533 1 ["self"] "scheme.names" 1508 (fb 100 "Names.symbol" "symbol" 978 1536 537 2 ["self","text"] "scheme.names" 1508 (fb 101 "Names.number_of_name" "number_of_name" 985 1544 540 2 ["self","text"] "scheme.names" 1508 (fb 102 "Names.text_of_symbol" "text_of_symbol" 992 1552 543 2 ["self","number"] "scheme.names" 1508 (fb 103 "Names.set_title" "set_title" 999 1560 546 3 ["self","label","text"] "scheme.names" 1508 (fb 104 "Names.title_of" "title_of" 1006 1569 549 2 ["self","label"] "scheme.names" 1508 (fb 105 "Names.give_ops" "give_ops" 1013 1577 552 2 ["self","rows"] "scheme.names" 1508 (fb 106 "Names.op_at" "op_at" 1020 1585 555 2 ["self","symbol"] "scheme.names" 1508 (fb 107 "Names.fold" "fold" 1027 1593 558 3 ["self","op","values"] "scheme.names" 1508 (tu [q "last" 1602,q "ops" 1603,q "root" 1604,q "table" 1605,q "titles" 1606]::dc 4 [de P "__module__" 1517 (q "scheme.names" 1508),de P "__firstlineno__" 1521 (.int 524 1520),de P "__init__" 1528 (R 970),de P "fresh" 1535 (R 977),de P "symbol" 1543 (R 984),de P "number_of_name" 1551 (R 991),de P "text_of_symbol" 1559 (R 998),de P "set_title" 1568 (R 1005),de P "title_of" 1576 (R 1012),de P "give_ops" 1584 (R 1019),de P "op_at" 1592 (R 1026),de P "fold" 1601 (R 1033),de P "__static_attributes__" 1607 (R 1034),de P "__dict__" 1609 (R 1037),de P "__weakref__" 1611 (R 1038),de P "__doc__" 1612 .none]::ty "Names" [.type "object"] [R 1036,.type "object"] 1035 [] none 1510 1518 "object.__new__"::fl "getset_descriptor" [q "__dict__" 1608,R 1036,.builtin "function.__dict__",.builtin "function.__dict__#set"]::fl "getset_descriptor" [q "__weakref__" 1610,R 1036,.builtin "ExceptionGroup.__weakref__",.none]::su 1036::fl "builtin_function_or_method" [.builtin "object.__init_subclass__",R 1036]::fb 108 "_law_draw" "_law_draw" 1041 1617 561 2 ["deck","many"] "law_nt0234_01" 1615 (fb 109 "_law_leaf" "_law_leaf" 1048 1625 566 2 ["deck","scope"] "law_nt0234_01" 1615 (tu []::fz []::fw 110 "_law_lambda"::co "_law_lambda" "_law_lambda" 1633 570 5 0 0 3 1055 true 181 [.none,.none,.none,R 1057] 1636::fo 110 "_law_lambda" .none "law_nt0234_01" 1615 1058::tu []::fz []::fw 111 "_law_some"::co "_law_some" "_law_some" 1639 573 5 0 0 3 1060 true 181 [.none,.none,.none,R 1062] 1642::fo 111 "_law_some" .none "law_nt0234_01" 1615 1063::fb 112 "_law_node" "_law_node" 1065 1645 575 4 ["deck","names","scope","left","way","parts","many","called"] "law_nt0234_01" 1615 (fb 113 "_law_shown" "_law_shown" 1072 1659 598 1 ["value"] "law_nt0234_01" 1615 (fb 114 "_law_cut" "_law_cut" 1079 1666 600 2 ["value","deep"] "law_nt0234_01" 1615 (XW P))))))))))))))))))))))))
noncomputable def XY (P:Params):List Obj:=
  fb 64 "Builder.named" "named" 720 1187 329 2 ["self","number"] "scheme.cps" 1117 (fb 65 "Builder.push" "push" 727 1195 332 5 ["self","word","node","way","numbers"] "scheme.cps" 1117 (fb 66 "Builder.push_all" "push_all" 734 1206 335 2 ["self","tasks","task"] "scheme.cps" 1117 (fb 67 "Builder.taken" "taken" 741 1215 339 2 ["self","many","first","found"] "scheme.cps" 1117 (fb 68 "Builder.emit" "emit" 748 1225 345 2 ["self","op"] "scheme.cps" 1117 (fb 69 "Builder.cont" "cont" 755 1233 348 3 ["self","params","rest","block"] "scheme.cps" 1117 (fb 70 "Builder.made" "made" 762 1243 355 2 ["self","datum","var"] "scheme.cps" 1117 (fb 71 "Builder.home_var" "home_var" 769 1252 360 1 ["self"] "scheme.cps" 1117 (fb 72 "Builder.finish" "finish" 776 1259 363 3 ["self","way","var"] "scheme.cps" 1117 (tu [q "held" 1268,q "here" 1269,q "later" 1270,q "other" 1271,q "program" 1272,q "waiting" 1273,q "world" 1274]::dc 4 [de P "__module__" 1167 (q "scheme.cps" 1117),de P "__firstlineno__" 1171 (.int 315 1170),de P "__init__" 1179 (R 712),de P "fresh" 1186 (R 719),de P "named" 1194 (R 726),de P "push" 1205 (R 733),de P "push_all" 1214 (R 740),de P "taken" 1224 (R 747),de P "emit" 1232 (R 754),de P "cont" 1242 (R 761),de P "made" 1251 (R 768),de P "home_var" 1258 (R 775),de P "finish" 1267 (R 782),de P "__static_attributes__" 1275 (R 783),de P "__dict__" 1277 (R 786),de P "__weakref__" 1279 (R 787),de P "__doc__" 1280 .none]::ty "Builder" [.type "object"] [R 785,.type "object"] 784 [] none 1160 1168 "object.__new__"::fl "getset_descriptor" [q "__dict__" 1276,R 785,.builtin "function.__dict__",.builtin "function.__dict__#set"]::fl "getset_descriptor" [q "__weakref__" 1278,R 785,.builtin "ExceptionGroup.__weakref__",.none]::su 785::fl "builtin_function_or_method" [.builtin "object.__init_subclass__",R 785]::fb 73 "fun_block" "fun_block" 790 1283 368 2 ["builder","node","block"] "scheme.cps" 1117 (fb 74 "do_const" "do_const" 797 1292 376 3 ["builder","node","way"] "scheme.cps" 1117 (fb 75 "do_local" "do_local" 804 1301 379 3 ["builder","node","way"] "scheme.cps" 1117 (fb 76 "do_global" "do_global" 811 1310 381 3 ["builder","node","way","var"] "scheme.cps" 1117 (fb 77 "do_lambda" "do_lambda" 818 1320 385 3 ["builder","node","way","var"] "scheme.cps" 1117 (tu []::fz []::fw 78 "do_fix"::co "do_fix" "do_fix" 1330 391 3 0 0 3 825 true 181 [.none,.none,.none,R 827] 1333::fo 78 "do_fix" .none "scheme.cps" 1117 828::fb 79 "do_set" "do_set" 830 1336 395 3 ["builder","node","way","word"] "scheme.cps" 1117 (fb 80 "do_if" "do_if" 837 1346 398 3 ["builder","node","way"] "scheme.cps" 1117 (tu []::fz []::fw 81 "do_seq"::co "do_seq" "do_seq" 1355 400 3 0 0 3 844 true 181 [.none,.none,.none,R 846] 1358::fo 81 "do_seq" .none "scheme.cps" 1117 847::tu []::fz []::fw 82 "do_prim"::co "do_prim" "do_prim" 1361 403 3 0 0 3 849 true 181 [.none,.none,.none,R 851] 1364::fo 82 "do_prim" .none "scheme.cps" 1117 852::tu []::fz []::fw 83 "do_call"::co "do_call" "do_call" 1367 406 3 0 0 3 854 true 181 [.none,.none,.none,R 856] 1370::fo 83 "do_call" .none "scheme.cps" 1117 857::fb 84 "do_small" "do_small" 859 1373 412 3 ["builder","node","way"] "scheme.cps" 1117 (fb 85 "go_node" "go_node" 866 1382 423 2 ["builder","task","node"] "scheme.cps" 1117 (fb 86 "go_set" "go_set" 873 1391 439 2 ["builder","task","values"] "scheme.cps" 1117 (fb 87 "go_prim" "go_prim" 880 1400 444 2 ["builder","task","var"] "scheme.cps" 1117 (fb 88 "go_let" "go_let" 887 1409 448 2 ["builder","task","values","inner","number","var"] "scheme.cps" 1117 (XX P)))))))))))))))))))))
noncomputable def XZ (P:Params):List Obj:=
  fb 57 "SymbolTable.find" "find" 630 1051 290 2 ["self","text"] "scheme.data" 938 (fb 58 "SymbolTable.is_interned" "is_interned" 637 1059 293 2 ["self","symbol"] "scheme.data" 938 (fb 59 "SymbolTable.size" "size" 644 1067 296 1 ["self"] "scheme.data" 938 (tu [q "by_text" 1074,q "rows" 1075]::dc 4 [de P "__module__" 1013 (q "scheme.data" 938),de P "__firstlineno__" 1017 (.int 268 1016),de P "__init__" 1024 (R 608),de P "symbol" 1033 (R 615),de P "fresh" 1042 (R 622),de P "by_number" 1050 (R 629),de P "find" 1058 (R 636),de P "is_interned" 1066 (R 643),de P "size" 1073 (R 650),de P "__static_attributes__" 1076 (R 651),de P "__dict__" 1078 (R 654),de P "__weakref__" 1080 (R 655),de P "__doc__" 1081 .none]::ty "SymbolTable" [.type "object"] [R 653,.type "object"] 652 [] none 1006 1014 "object.__new__"::fl "getset_descriptor" [q "__dict__" 1077,R 653,.builtin "function.__dict__",.builtin "function.__dict__#set"]::fl "getset_descriptor" [q "__weakref__" 1079,R 653,.builtin "ExceptionGroup.__weakref__",.none]::su 653::fl "builtin_function_or_method" [.builtin "object.__init_subclass__",R 653]::tu [.type "Exception"]::fl "builtin_function_or_method" [.builtin "type.__prepare__",.type "type"]::dc 5 [de P "__module__" 1093 (q "scheme.errors" 1084),de P "__qualname__" 1095 (q "CoreError" 1094),de P "__firstlineno__" 1097 (.int 299 1096),de P "__init__" 1106 (R 671),de P "__static_attributes__" 1109 (R 672)]::tu []::fz [I 301,I 4,R 670]::co "CoreError" "CoreError" 1088 299 0 0 0 0 661 false 181 [.none,.none,.none,.none] 1091::fr 663 3 660 "scheme.errors" 1084::fb 60 "CoreError.__init__" "__init__" 665 1098 301 3 ["self","what","number"] "scheme.errors" 1084 (tu [q "number" 1107,q "what" 1108]::dc 3 [de P "__module__" 1093 (q "scheme.errors" 1084),de P "__firstlineno__" 1097 (.int 299 1096),de P "__init__" 1106 (R 671),de P "__static_attributes__" 1109 (R 672),de P "__weakref__" 1111 (R 675),de P "__doc__" 1112 .none]::ty "CoreError" [.type "Exception"] [R 674,.type "Exception",.type "BaseException",.type "object"] 673 [] (some (R 658)) 1086 1094 "Exception.__new__"::fl "getset_descriptor" [q "__weakref__" 1110,R 674,.builtin "ExceptionGroup.__weakref__",.none]::su 674::fl "builtin_function_or_method" [.builtin "object.__init_subclass__",R 674]::tu []::fl "builtin_function_or_method" [.builtin "type.__prepare__",.type "type"]::dc 5 [de P "__module__" 1132 (q "scheme.cps" 1117),de P "__qualname__" 1134 (q "Task" 1133),de P "__firstlineno__" 1136 (.int 308 1135),de P "__init__" 1147 (R 691),de P "__static_attributes__" 1152 (R 692)]::tu []::fz [I 310,I 4,R 690]::co "Task" "Task" 1127 308 0 0 0 0 681 false 181 [.none,.none,.none,.none] 1130::fr 683 3 680 "scheme.cps" 1117::fb 61 "Task.__init__" "__init__" 685 1137 310 5 ["self","word","node","way","numbers"] "scheme.cps" 1117 (tu [q "node" 1148,q "numbers" 1149,q "way" 1150,q "word" 1151]::dc 4 [de P "__module__" 1132 (q "scheme.cps" 1117),de P "__firstlineno__" 1136 (.int 308 1135),de P "__init__" 1147 (R 691),de P "__static_attributes__" 1152 (R 692),de P "__dict__" 1154 (R 695),de P "__weakref__" 1156 (R 696),de P "__doc__" 1157 .none]::ty "Task" [.type "object"] [R 694,.type "object"] 693 [] none 1125 1133 "object.__new__"::fl "getset_descriptor" [q "__dict__" 1153,R 694,.builtin "function.__dict__",.builtin "function.__dict__#set"]::fl "getset_descriptor" [q "__weakref__" 1155,R 694,.builtin "ExceptionGroup.__weakref__",.none]::su 694::fl "builtin_function_or_method" [.builtin "object.__init_subclass__",R 694]::tu []::fl "builtin_function_or_method" [.builtin "type.__prepare__",.type "type"]::dc 15 [de P "__module__" 1167 (q "scheme.cps" 1117),de P "__qualname__" 1169 (q "Builder" 1168),de P "__firstlineno__" 1171 (.int 315 1170),de P "__init__" 1179 (R 712),de P "fresh" 1186 (R 719),de P "named" 1194 (R 726),de P "push" 1205 (R 733),de P "push_all" 1214 (R 740),de P "taken" 1224 (R 747),de P "emit" 1232 (R 754),de P "cont" 1242 (R 761),de P "made" 1251 (R 768),de P "home_var" 1258 (R 775),de P "finish" 1267 (R 782),de P "__static_attributes__" 1275 (R 783)]::tu []::fz [I 317,I 4,R 711,I 326,I 4,R 718,I 329,I 4,R 725,I 332,I 4,R 732,I 335,I 4,R 739,I 339,I 4,R 746,I 345,I 4,R 753,I 348,I 4,R 760,I 355,I 4,R 767,I 360,I 4,R 774,I 363,I 4,R 781]::co "Builder" "Builder" 1162 315 0 0 0 0 702 false 181 [.none,.none,.none,.none] 1165::fr 704 3 701 "scheme.cps" 1117::fb 62 "Builder.__init__" "__init__" 706 1172 317 2 ["self","world"] "scheme.cps" 1117 (fb 63 "Builder.fresh" "fresh" 713 1180 326 1 ["self"] "scheme.cps" 1117 (XY P)))))))
noncomputable def X0 (P:Params):List Obj:=
  fl "getset_descriptor" [q "__dict__" 931,R 545,.builtin "function.__dict__",.builtin "function.__dict__#set"]::fl "getset_descriptor" [q "__weakref__" 933,R 545,.builtin "ExceptionGroup.__weakref__",.none]::su 545::fl "builtin_function_or_method" [.builtin "object.__init_subclass__",R 545]::tu []::fl "builtin_function_or_method" [.builtin "type.__prepare__",.type "type"]::dc 5 [de P "__module__" 947 (q "scheme.data" 938),de P "__qualname__" 949 (q "Special" 948),de P "__firstlineno__" 951 (.int 258 950),de P "__init__" 959 (R 563),de P "__static_attributes__" 961 (R 564)]::tu []::fz [I 260,I 4,R 562]::co "Special" "Special" 942 258 0 0 0 0 553 false 181 [.none,.none,.none,.none] 945::fr 555 3 552 "scheme.data" 938::fb 51 "Special.__init__" "__init__" 557 952 260 2 ["self","title"] "scheme.data" 938 (tu [q "title" 960]::dc 4 [de P "__module__" 947 (q "scheme.data" 938),de P "__firstlineno__" 951 (.int 258 950),de P "__init__" 959 (R 563),de P "__static_attributes__" 961 (R 564),de P "__dict__" 963 (R 567),de P "__weakref__" 965 (R 568),de P "__doc__" 966 .none]::ty "Special" [.type "object"] [R 566,.type "object"] 565 [] none 940 948 "object.__new__"::fl "getset_descriptor" [q "__dict__" 962,R 566,.builtin "function.__dict__",.builtin "function.__dict__#set"]::fl "getset_descriptor" [q "__weakref__" 964,R 566,.builtin "ExceptionGroup.__weakref__",.none]::su 566::fl "builtin_function_or_method" [.builtin "object.__init_subclass__",R 566]::dc 1 [de P "title" 973 (q "unspecified" 969)]::⟨R 566,some 571,.plain,#[]⟩::⟨.type "frame",none,.dict #[de P "self" 970 (R 572),de P "title" 971 (q "unspecified" 969)] 2,#[]⟩::tu []::fl "builtin_function_or_method" [.builtin "type.__prepare__",.type "type"]::dc 5 [de P "__module__" 982 (q "scheme.data" 938),de P "__qualname__" 984 (q "Symbol" 983),de P "__firstlineno__" 986 (.int 263 985),de P "__init__" 995 (R 587),de P "__static_attributes__" 998 (R 588)]::tu []::fz [I 265,I 4,R 586]::co "Symbol" "Symbol" 977 263 0 0 0 0 577 false 181 [.none,.none,.none,.none] 980::fr 579 3 576 "scheme.data" 938::fb 52 "Symbol.__init__" "__init__" 581 987 265 3 ["self","number","text"] "scheme.data" 938 (tu [q "number" 996,q "text" 997]::dc 4 [de P "__module__" 982 (q "scheme.data" 938),de P "__firstlineno__" 986 (.int 263 985),de P "__init__" 995 (R 587),de P "__static_attributes__" 998 (R 588),de P "__dict__" 1000 (R 591),de P "__weakref__" 1002 (R 592),de P "__doc__" 1003 .none]::ty "Symbol" [.type "object"] [R 590,.type "object"] 589 [] none 975 983 "object.__new__"::fl "getset_descriptor" [q "__dict__" 999,R 590,.builtin "function.__dict__",.builtin "function.__dict__#set"]::fl "getset_descriptor" [q "__weakref__" 1001,R 590,.builtin "ExceptionGroup.__weakref__",.none]::su 590::fl "builtin_function_or_method" [.builtin "object.__init_subclass__",R 590]::tu []::fl "builtin_function_or_method" [.builtin "type.__prepare__",.type "type"]::dc 11 [de P "__module__" 1013 (q "scheme.data" 938),de P "__qualname__" 1015 (q "SymbolTable" 1014),de P "__firstlineno__" 1017 (.int 268 1016),de P "__init__" 1024 (R 608),de P "symbol" 1033 (R 615),de P "fresh" 1042 (R 622),de P "by_number" 1050 (R 629),de P "find" 1058 (R 636),de P "is_interned" 1066 (R 643),de P "size" 1073 (R 650),de P "__static_attributes__" 1076 (R 651)]::tu []::fz [I 270,I 4,R 607,I 274,I 4,R 614,I 282,I 4,R 621,I 287,I 4,R 628,I 290,I 4,R 635,I 293,I 4,R 642,I 296,I 4,R 649]::co "SymbolTable" "SymbolTable" 1008 268 0 0 0 0 598 false 181 [.none,.none,.none,.none] 1011::fr 600 3 597 "scheme.data" 938::fb 53 "SymbolTable.__init__" "__init__" 602 1018 270 1 ["self"] "scheme.data" 938 (fb 54 "SymbolTable.symbol" "symbol" 609 1025 274 2 ["self","text","found"] "scheme.data" 938 (fb 55 "SymbolTable.fresh" "fresh" 616 1034 282 2 ["self","hint","found"] "scheme.data" 938 (fb 56 "SymbolTable.by_number" "by_number" 623 1043 287 2 ["self","number"] "scheme.data" 938 (XZ P))))))
noncomputable def X2 (P:Params):List Obj:=
  fb 34 "KLast.reads" "reads" 396 731 171 1 ["self","found"] "scheme.cpscode" 618 (fb 35 "KLast.targets" "targets" 403 739 179 1 ["self"] "scheme.cpscode" 618 (fb 36 "KLast.copied" "copied" 410 746 182 1 ["self"] "scheme.cpscode" 618 (tu [q "args" 753,q "fun" 754,q "other" 755,q "to" 756,q "var" 757,q "word" 758]::dc 4 [de P "__module__" 718 (q "scheme.cpscode" 618),de P "__firstlineno__" 722 (.int 161 721),de P "__init__" 730 (R 395),de P "reads" 738 (R 402),de P "targets" 745 (R 409),de P "copied" 752 (R 416),de P "__static_attributes__" 759 (R 417),de P "__dict__" 761 (R 420),de P "__weakref__" 763 (R 421),de P "__doc__" 764 .none]::ty "KLast" [.type "object"] [R 419,.type "object"] 418 [] none 711 719 "object.__new__"::fl "getset_descriptor" [q "__dict__" 760,R 419,.builtin "function.__dict__",.builtin "function.__dict__#set"]::fl "getset_descriptor" [q "__weakref__" 762,R 419,.builtin "ExceptionGroup.__weakref__",.none]::su 419::fl "builtin_function_or_method" [.builtin "object.__init_subclass__",R 419]::fb 37 "call_last" "call_last" 424 767 184 4 ["fun","args","to","var","found"] "scheme.cpscode" 618 (fb 38 "jump_last" "jump_last" 431 778 191 2 ["to","args","found"] "scheme.cpscode" 618 (fb 39 "give_last" "give_last" 438 787 196 2 ["var","args","found"] "scheme.cpscode" 618 (fb 40 "branch_last" "branch_last" 445 796 201 3 ["test","yes","no","found"] "scheme.cpscode" 618 (tu []::fl "builtin_function_or_method" [.builtin "type.__prepare__",.type "type"]::dc 9 [de P "__module__" 813 (q "scheme.cpscode" 618),de P "__qualname__" 815 (q "KBlock" 814),de P "__firstlineno__" 817 (.int 207 816),de P "__init__" 828 (R 465),de P "binders" 836 (R 472),de P "given" 845 (R 479),de P "takes_one" 852 (R 486),de P "takes_any" 859 (R 493),de P "__static_attributes__" 870 (R 494)]::tu []::fz [I 209,I 4,R 464,I 221,I 4,R 471,I 229,I 4,R 478,I 235,I 4,R 485,I 238,I 4,R 492]::co "KBlock" "KBlock" 808 207 0 0 0 0 455 false 181 [.none,.none,.none,.none] 811::fr 457 3 454 "scheme.cpscode" 618::fb 41 "KBlock.__init__" "__init__" 459 818 209 5 ["self","label","sort","params","rest"] "scheme.cpscode" 618 (fb 42 "KBlock.binders" "binders" 466 829 221 1 ["self","found"] "scheme.cpscode" 618 (fb 43 "KBlock.given" "given" 473 837 229 1 ["self","found","op"] "scheme.cpscode" 618 (fb 44 "KBlock.takes_one" "takes_one" 480 846 235 1 ["self"] "scheme.cpscode" 618 (fb 45 "KBlock.takes_any" "takes_any" 487 853 238 1 ["self"] "scheme.cpscode" 618 (tu [q "home" 860,q "label" 861,q "last" 862,q "ops" 863,q "params" 864,q "parent" 865,q "rest" 866,q "sort" 867,q "title" 868,q "var" 869]::dc 4 [de P "__module__" 813 (q "scheme.cpscode" 618),de P "__firstlineno__" 817 (.int 207 816),de P "__init__" 828 (R 465),de P "binders" 836 (R 472),de P "given" 845 (R 479),de P "takes_one" 852 (R 486),de P "takes_any" 859 (R 493),de P "__static_attributes__" 870 (R 494),de P "__dict__" 872 (R 497),de P "__weakref__" 874 (R 498),de P "__doc__" 875 .none]::ty "KBlock" [.type "object"] [R 496,.type "object"] 495 [] none 806 814 "object.__new__"::fl "getset_descriptor" [q "__dict__" 871,R 496,.builtin "function.__dict__",.builtin "function.__dict__#set"]::fl "getset_descriptor" [q "__weakref__" 873,R 496,.builtin "ExceptionGroup.__weakref__",.none]::su 496::fl "builtin_function_or_method" [.builtin "object.__init_subclass__",R 496]::tu []::fl "builtin_function_or_method" [.builtin "type.__prepare__",.type "type"]::dc 9 [de P "__module__" 885 (q "scheme.cpscode" 618),de P "__qualname__" 887 (q "KProgram" 886),de P "__firstlineno__" 889 (.int 240 888),de P "__init__" 897 (R 514),de P "labels" 904 (R 521),de P "block" 912 (R 528),de P "put" 920 (R 535),de P "copied" 927 (R 542),de P "__static_attributes__" 930 (R 543)]::tu []::fz [I 242,I 4,R 513,I 246,I 4,R 520,I 249,I 4,R 527,I 252,I 4,R 534,I 255,I 4,R 541]::co "KProgram" "KProgram" 880 240 0 0 0 0 504 false 181 [.none,.none,.none,.none] 883::fr 506 3 503 "scheme.cpscode" 618::fb 46 "KProgram.__init__" "__init__" 508 890 242 2 ["self","entry"] "scheme.cpscode" 618 (fb 47 "KProgram.labels" "labels" 515 898 246 1 ["self"] "scheme.cpscode" 618 (fb 48 "KProgram.block" "block" 522 905 249 2 ["self","label"] "scheme.cpscode" 618 (fb 49 "KProgram.put" "put" 529 913 252 2 ["self","block"] "scheme.cpscode" 618 (fb 50 "KProgram.copied" "copied" 536 921 255 1 ["self"] "scheme.cpscode" 618 (tu [q "entry" 928,q "table" 929]::dc 4 [de P "__module__" 885 (q "scheme.cpscode" 618),de P "__firstlineno__" 889 (.int 240 888),de P "__init__" 897 (R 514),de P "labels" 904 (R 521),de P "block" 912 (R 528),de P "put" 920 (R 535),de P "copied" 927 (R 542),de P "__static_attributes__" 930 (R 543),de P "__dict__" 932 (R 546),de P "__weakref__" 934 (R 547),de P "__doc__" 935 .none]::ty "KProgram" [.type "object"] [R 545,.type "object"] 544 [] none 878 886 "object.__new__"::X0 P)))))))))))))))))
noncomputable def X3 (P:Params):List Obj:=
  dc 2 [de P "__module__" 534 (q "scheme.core" 194),de P "__firstlineno__" 538 (.int 96 537),de P "kind" 539 (.int 9 212),de P "__init__" 547 (R 266),de P "parts" 554 (R 273),de P "with_parts" 562 (R 280),de P "__static_attributes__" 564 (R 281),de P "__doc__" 565 .none]::ty "Seq" [R 45] [R 283,R 45,.type "object"] 282 [] (some (R 253)) 527 535 "object.__new__"::su 283::fl "builtin_function_or_method" [.builtin "object.__init_subclass__",R 283]::tu [R 45]::fl "builtin_function_or_method" [.builtin "type.__prepare__",.type "type"]::dc 8 [de P "__module__" 575 (q "scheme.core" 194),de P "__qualname__" 577 (q "Prim" 576),de P "__firstlineno__" 579 (.int 107 578),de P "kind" 580 (.int 10 214),de P "__init__" 589 (R 299),de P "parts" 596 (R 306),de P "with_parts" 604 (R 313),de P "__static_attributes__" 607 (R 314)]::tu []::fz [I 110,I 4,R 298,I 114,I 4,R 305,I 117,I 4,R 312]::co "Prim" "Prim" 570 107 0 0 0 0 289 false 181 [.none,.none,.none,.none] 573::fr 291 3 288 "scheme.core" 194::fb 23 "Prim.__init__" "__init__" 293 581 110 3 ["self","op","operands"] "scheme.core" 194 (fb 24 "Prim.parts" "parts" 300 590 114 1 ["self"] "scheme.core" 194 (fb 25 "Prim.with_parts" "with_parts" 307 597 117 2 ["self","parts"] "scheme.core" 194 (tu [q "op" 605,q "operands" 606]::dc 2 [de P "__module__" 575 (q "scheme.core" 194),de P "__firstlineno__" 579 (.int 107 578),de P "kind" 580 (.int 10 214),de P "__init__" 589 (R 299),de P "parts" 596 (R 306),de P "with_parts" 604 (R 313),de P "__static_attributes__" 607 (R 314),de P "__doc__" 608 .none]::ty "Prim" [R 45] [R 316,R 45,.type "object"] 315 [] (some (R 286)) 568 576 "object.__new__"::su 316::fl "builtin_function_or_method" [.builtin "object.__init_subclass__",R 316]::fb 26 "is_let" "is_let" 319 611 119 1 ["node"] "scheme.core" 194 (tu []::fl "builtin_function_or_method" [.builtin "type.__prepare__",.type "type"]::dc 7 [de P "__module__" 639 (q "scheme.cpscode" 618),de P "__qualname__" 641 (q "KOp" 640),de P "__firstlineno__" 643 (.int 130 642),de P "__init__" 654 (R 339),de P "given" 661 (R 346),de P "copied" 668 (R 353),de P "__static_attributes__" 676 (R 354)]::tu []::fz [I 132,I 4,R 338,I 141,I 4,R 345,I 146,I 4,R 352]::co "KOp" "KOp" 634 130 0 0 0 0 329 false 181 [.none,.none,.none,.none] 637::fr 331 3 328 "scheme.cpscode" 618::fb 27 "KOp.__init__" "__init__" 333 644 132 5 ["self","result","word","number","args"] "scheme.cpscode" 618 (fb 28 "KOp.given" "given" 340 655 141 1 ["self"] "scheme.cpscode" 618 (fb 29 "KOp.copied" "copied" 347 662 146 1 ["self"] "scheme.cpscode" 618 (tu [q "args" 669,q "datum" 670,q "labels" 671,q "number" 672,q "result" 673,q "results" 674,q "word" 675]::dc 4 [de P "__module__" 639 (q "scheme.cpscode" 618),de P "__firstlineno__" 643 (.int 130 642),de P "__init__" 654 (R 339),de P "given" 661 (R 346),de P "copied" 668 (R 353),de P "__static_attributes__" 676 (R 354),de P "__dict__" 678 (R 357),de P "__weakref__" 680 (R 358),de P "__doc__" 681 .none]::ty "KOp" [.type "object"] [R 356,.type "object"] 355 [] none 632 640 "object.__new__"::fl "getset_descriptor" [q "__dict__" 677,R 356,.builtin "function.__dict__",.builtin "function.__dict__#set"]::fl "getset_descriptor" [q "__weakref__" 679,R 356,.builtin "ExceptionGroup.__weakref__",.none]::su 356::fl "builtin_function_or_method" [.builtin "object.__init_subclass__",R 356]::fb 30 "const_op" "const_op" 361 684 148 2 ["result","datum","found"] "scheme.cpscode" 618 (fb 31 "fun_op" "fun_op" 368 693 152 2 ["result","label","found"] "scheme.cpscode" 618 (fb 32 "fix_op" "fix_op" 375 702 156 2 ["results","labels","found"] "scheme.cpscode" 618 (tu []::fl "builtin_function_or_method" [.builtin "type.__prepare__",.type "type"]::dc 8 [de P "__module__" 718 (q "scheme.cpscode" 618),de P "__qualname__" 720 (q "KLast" 719),de P "__firstlineno__" 722 (.int 161 721),de P "__init__" 730 (R 395),de P "reads" 738 (R 402),de P "targets" 745 (R 409),de P "copied" 752 (R 416),de P "__static_attributes__" 759 (R 417)]::tu []::fz [I 163,I 4,R 394,I 171,I 4,R 401,I 179,I 4,R 408,I 182,I 4,R 415]::co "KLast" "KLast" 713 161 0 0 0 0 385 false 181 [.none,.none,.none,.none] 716::fr 387 3 384 "scheme.cpscode" 618::fb 33 "KLast.__init__" "__init__" 389 723 163 2 ["self","word"] "scheme.cpscode" 618 (X2 P)))))))))))
noncomputable def X4 (P:Params):List Obj:=
  tu [q "no" 415,q "test" 416,q "yes" 417]::dc 2 [de P "__module__" 384 (q "scheme.core" 194),de P "__firstlineno__" 388 (.int 51 387),de P "kind" 389 (.int 6 206),de P "__init__" 399 (R 153),de P "parts" 406 (R 160),de P "with_parts" 414 (R 167),de P "__static_attributes__" 418 (R 168),de P "__doc__" 419 .none]::ty "If" [R 45] [R 170,R 45,.type "object"] 169 [] (some (R 140)) 377 385 "object.__new__"::su 170::fl "builtin_function_or_method" [.builtin "object.__init_subclass__",R 170]::tu [R 45]::fl "builtin_function_or_method" [.builtin "type.__prepare__",.type "type"]::dc 10 [de P "__module__" 429 (q "scheme.core" 194),de P "__qualname__" 431 (q "Lambda" 430),de P "__firstlineno__" 433 (.int 64 432),de P "kind" 434 (.int 7 208),de P "__init__" 445 (R 186),de P "parts" 452 (R 193),de P "with_parts" 460 (R 200),de P "binders" 467 (R 207),de P "takes" 475 (R 214),de P "__static_attributes__" 480 (R 215)]::tu []::fz [I 67,I 4,R 185,I 73,I 4,R 192,I 76,I 4,R 199,I 79,I 4,R 206,I 82,I 4,R 213]::co "Lambda" "Lambda" 424 64 0 0 0 0 176 false 181 [.none,.none,.none,.none] 427::fr 178 3 175 "scheme.core" 194::fb 12 "Lambda.__init__" "__init__" 180 435 67 5 ["self","label","params","rest","body"] "scheme.core" 194 (fb 13 "Lambda.parts" "parts" 187 446 73 1 ["self"] "scheme.core" 194 (fb 14 "Lambda.with_parts" "with_parts" 194 453 76 2 ["self","parts"] "scheme.core" 194 (fb 15 "Lambda.binders" "binders" 201 461 79 1 ["self"] "scheme.core" 194 (fb 16 "Lambda.takes" "takes" 208 468 82 2 ["self","many"] "scheme.core" 194 (tu [q "body" 476,q "label" 477,q "params" 478,q "rest" 479]::dc 2 [de P "__module__" 429 (q "scheme.core" 194),de P "__firstlineno__" 433 (.int 64 432),de P "kind" 434 (.int 7 208),de P "__init__" 445 (R 186),de P "parts" 452 (R 193),de P "with_parts" 460 (R 200),de P "binders" 467 (R 207),de P "takes" 475 (R 214),de P "__static_attributes__" 480 (R 215),de P "__doc__" 481 .none]::ty "Lambda" [R 45] [R 217,R 45,.type "object"] 216 [] (some (R 173)) 422 430 "object.__new__"::su 217::fl "builtin_function_or_method" [.builtin "object.__init_subclass__",R 217]::tu [R 45]::fl "builtin_function_or_method" [.builtin "type.__prepare__",.type "type"]::dc 8 [de P "__module__" 491 (q "scheme.core" 194),de P "__qualname__" 493 (q "Call" 492),de P "__firstlineno__" 495 (.int 84 494),de P "kind" 496 (.int 8 210),de P "__init__" 505 (R 233),de P "parts" 512 (R 240),de P "with_parts" 520 (R 247),de P "__static_attributes__" 523 (R 248)]::tu []::fz [I 87,I 4,R 232,I 91,I 4,R 239,I 94,I 4,R 246]::co "Call" "Call" 486 84 0 0 0 0 223 false 181 [.none,.none,.none,.none] 489::fr 225 3 222 "scheme.core" 194::fb 17 "Call.__init__" "__init__" 227 497 87 3 ["self","operator","operands"] "scheme.core" 194 (fb 18 "Call.parts" "parts" 234 506 91 1 ["self"] "scheme.core" 194 (fb 19 "Call.with_parts" "with_parts" 241 513 94 2 ["self","parts"] "scheme.core" 194 (tu [q "operands" 521,q "operator" 522]::dc 2 [de P "__module__" 491 (q "scheme.core" 194),de P "__firstlineno__" 495 (.int 84 494),de P "kind" 496 (.int 8 210),de P "__init__" 505 (R 233),de P "parts" 512 (R 240),de P "with_parts" 520 (R 247),de P "__static_attributes__" 523 (R 248),de P "__doc__" 524 .none]::ty "Call" [R 45] [R 250,R 45,.type "object"] 249 [] (some (R 220)) 484 492 "object.__new__"::su 250::fl "builtin_function_or_method" [.builtin "object.__init_subclass__",R 250]::tu [R 45]::fl "builtin_function_or_method" [.builtin "type.__prepare__",.type "type"]::dc 8 [de P "__module__" 534 (q "scheme.core" 194),de P "__qualname__" 536 (q "Seq" 535),de P "__firstlineno__" 538 (.int 96 537),de P "kind" 539 (.int 9 212),de P "__init__" 547 (R 266),de P "parts" 554 (R 273),de P "with_parts" 562 (R 280),de P "__static_attributes__" 564 (R 281)]::tu []::fz [I 99,I 4,R 265,I 102,I 4,R 272,I 105,I 4,R 279]::co "Seq" "Seq" 529 96 0 0 0 0 256 false 181 [.none,.none,.none,.none] 532::fr 258 3 255 "scheme.core" 194::fb 20 "Seq.__init__" "__init__" 260 540 99 2 ["self","items"] "scheme.core" 194 (fb 21 "Seq.parts" "parts" 267 548 102 1 ["self"] "scheme.core" 194 (fb 22 "Seq.with_parts" "with_parts" 274 555 105 2 ["self","parts"] "scheme.core" 194 (tu [q "items" 563]::X3 P)))))))))))
noncomputable def X5 (P:Params):List Obj:=
  tu []::fz [I 32,I 4,R 81]::co "Local" "Local" 284 29 0 0 0 0 72 false 181 [.none,.none,.none,.none] 287::fr 74 3 71 "scheme.core" 194::fb 4 "Local.__init__" "__init__" 76 295 32 2 ["self","number"] "scheme.core" 194 (tu [q "number" 303]::dc 2 [de P "__module__" 289 (q "scheme.core" 194),de P "__firstlineno__" 293 (.int 29 292),de P "kind" 294 (.int 1 198),de P "__init__" 302 (R 82),de P "__static_attributes__" 304 (R 83),de P "__doc__" 305 .none]::ty "Local" [R 45] [R 85,R 45,.type "object"] 84 [] (some (R 69)) 282 290 "object.__new__"::su 85::fl "builtin_function_or_method" [.builtin "object.__init_subclass__",R 85]::tu [R 45]::fl "builtin_function_or_method" [.builtin "type.__prepare__",.type "type"]::dc 6 [de P "__module__" 315 (q "scheme.core" 194),de P "__qualname__" 317 (q "Global" 316),de P "__firstlineno__" 319 (.int 34 318),de P "kind" 320 (.int 2 200),de P "__init__" 328 (R 101),de P "__static_attributes__" 330 (R 102)]::tu []::fz [I 37,I 4,R 100]::co "Global" "Global" 310 34 0 0 0 0 91 false 181 [.none,.none,.none,.none] 313::fr 93 3 90 "scheme.core" 194::fb 5 "Global.__init__" "__init__" 95 321 37 2 ["self","symbol"] "scheme.core" 194 (tu [q "symbol" 329]::dc 2 [de P "__module__" 315 (q "scheme.core" 194),de P "__firstlineno__" 319 (.int 34 318),de P "kind" 320 (.int 2 200),de P "__init__" 328 (R 101),de P "__static_attributes__" 330 (R 102),de P "__doc__" 331 .none]::ty "Global" [R 45] [R 104,R 45,.type "object"] 103 [] (some (R 88)) 308 316 "object.__new__"::su 104::fl "builtin_function_or_method" [.builtin "object.__init_subclass__",R 104]::tu [R 45]::fl "builtin_function_or_method" [.builtin "type.__prepare__",.type "type"]::dc 8 [de P "__module__" 341 (q "scheme.core" 194),de P "__qualname__" 343 (q "SetGlobal" 342),de P "__firstlineno__" 345 (.int 39 344),de P "kind" 346 (.int 4 202),de P "__init__" 355 (R 120),de P "parts" 362 (R 127),de P "with_parts" 370 (R 134),de P "__static_attributes__" 373 (R 135)]::tu []::fz [I 42,I 4,R 119,I 46,I 4,R 126,I 49,I 4,R 133]::co "SetGlobal" "SetGlobal" 336 39 0 0 0 0 110 false 181 [.none,.none,.none,.none] 339::fr 112 3 109 "scheme.core" 194::fb 6 "SetGlobal.__init__" "__init__" 114 347 42 3 ["self","symbol","value"] "scheme.core" 194 (fb 7 "SetGlobal.parts" "parts" 121 356 46 1 ["self"] "scheme.core" 194 (fb 8 "SetGlobal.with_parts" "with_parts" 128 363 49 2 ["self","parts"] "scheme.core" 194 (tu [q "symbol" 371,q "value" 372]::dc 2 [de P "__module__" 341 (q "scheme.core" 194),de P "__firstlineno__" 345 (.int 39 344),de P "kind" 346 (.int 4 202),de P "__init__" 355 (R 120),de P "parts" 362 (R 127),de P "with_parts" 370 (R 134),de P "__static_attributes__" 373 (R 135),de P "__doc__" 374 .none]::ty "SetGlobal" [R 45] [R 137,R 45,.type "object"] 136 [] (some (R 107)) 334 342 "object.__new__"::su 137::fl "builtin_function_or_method" [.builtin "object.__init_subclass__",R 137]::tu [R 45]::fl "builtin_function_or_method" [.builtin "type.__prepare__",.type "type"]::dc 8 [de P "__module__" 384 (q "scheme.core" 194),de P "__qualname__" 386 (q "If" 385),de P "__firstlineno__" 388 (.int 51 387),de P "kind" 389 (.int 6 206),de P "__init__" 399 (R 153),de P "parts" 406 (R 160),de P "with_parts" 414 (R 167),de P "__static_attributes__" 418 (R 168)]::tu []::fz [I 54,I 4,R 152,I 59,I 4,R 159,I 62,I 4,R 166]::co "If" "If" 379 51 0 0 0 0 143 false 181 [.none,.none,.none,.none] 382::fr 145 3 142 "scheme.core" 194::fb 9 "If.__init__" "__init__" 147 390 54 4 ["self","test","yes","no"] "scheme.core" 194 (fb 10 "If.parts" "parts" 154 400 59 1 ["self"] "scheme.core" 194 (fb 11 "If.with_parts" "with_parts" 161 407 62 2 ["self","parts"] "scheme.core" 194 (X4 P))))))))
noncomputable def KJ (P:Params):List Obj:=
  boot_o_0 P::dc 2 [de P "builtins" 162 (R 4),de P "__main__" 163 (R 5)]::⟨.none,none,.dict #[de P "type.__subclasses__.Exception.0" 1113 (I 674),de P "type.__subclasses__.Exception.n" 1114 (I 1)] 2,#[]⟩::dc 102 [de P "__name__" 165 (q "law_nt0234_01" 1615),de P "__doc__" 166 .none,de P "__package__" 167 .none,de P "__loader__" 168 (.builtin "__main__.__loader__#opaque"),de P "__spec__" 169 .none,de P "__annotations__" 170 (R 6),de P "__builtins__" 171 (R 4),de P "__file__" 173 (q "/claim/cut.py" 172),de P "__cached__" 174 .none,de P "_wall" 193 (R 21),de P "CONST" 197 (.int 0 196),de P "LOCAL" 199 (.int 1 198),de P "GLOBAL" 201 (.int 2 200),de P "SET_GLOBAL" 203 (.int 4 202),de P "DEFINE" 205 (.int 5 204),de P "IF" 207 (.int 6 206),de P "LAMBDA" 209 (.int 7 208),de P "CALL_core" 211 (.int 8 210),de P "SEQ" 213 (.int 9 212),de P "PRIM" 215 (.int 10 214),de P "FIX" 217 (.int 11 216),de P "Node" 255 (R 45),de P "Const" 281 (R 66),de P "Local" 307 (R 85),de P "Global" 333 (R 104),de P "SetGlobal" 376 (R 137),de P "If" 421 (R 170),de P "Lambda" 483 (R 217),de P "Call" 526 (R 250),de P "Seq" 567 (R 283),de P "Prim" 610 (R 316),de P "is_let" 617 (R 325),de P "FUN" 621 (q "fun" 620),de P "CONT" 623 (q "cont" 622),de P "CALL_cpscode" 625 (q "call" 624),de P "JUMP" 627 (q "jump" 626),de P "GIVE" 629 (q "give" 628),de P "BRANCH" 631 (q "if" 630),de P "KOp" 683 (R 356),de P "const_op" 692 (R 367),de P "fun_op" 701 (R 374),de P "fix_op" 710 (R 381),de P "KLast" 766 (R 419),de P "call_last" 777 (R 430),de P "jump_last" 786 (R 437),de P "give_last" 795 (R 444),de P "branch_last" 805 (R 451),de P "KBlock" 877 (R 496),de P "KProgram" 937 (R 545),de P "Special" 968 (R 566),de P "UNSPECIFIED" 974 (R 572),de P "Symbol" 1005 (R 590),de P "SymbolTable" 1083 (R 653),de P "CoreError" 1116 (R 674),de P "VALUE" 1120 (.int 0 1119),de P "EFFECT" 1122 (.int 1 1121),de P "TAIL" 1124 (.int 2 1123),de P "Task" 1159 (R 694),de P "Builder" 1282 (R 785),de P "fun_block" 1291 (R 796),de P "do_const" 1300 (R 803),de P "do_local" 1309 (R 810),de P "do_global" 1319 (R 817),de P "do_lambda" 1329 (R 824),de P "do_fix" 1335 (R 829),de P "do_set" 1345 (R 836),de P "do_if" 1354 (R 843),de P "do_seq" 1360 (R 848),de P "do_prim" 1366 (R 853),de P "do_call" 1372 (R 858),de P "do_small" 1381 (R 865),de P "go_node" 1390 (R 872),de P "go_set" 1399 (R 879),de P "go_prim" 1408 (R 886),de P "go_let" 1420 (R 893),de P "go_call" 1431 (R 900),de P "go_choice" 1445 (R 907),de P "go_enter" 1453 (R 914),de P "go_jump" 1462 (R 921),de P "go_hold" 1470 (R 928),de P "go_on" 1478 (R 935),de P "go" 1486 (R 942),de P "build" 1495 (R 949),de P "to_cps" 1507 (R 956),de P "Names" 1614 (R 1036),de P "_law_draw" 1624 (R 1047),de P "_law_leaf" 1632 (R 1054),de P "_law_lambda" 1638 (R 1059),de P "_law_some" 1644 (R 1064),de P "_law_node" 1658 (R 1071),de P "_law_shown" 1665 (R 1078),de P "_law_cut" 1673 (R 1085),de P "_law_prim" 1681 (R 1092),de P "_law_step" 1690 (R 1099),de P "_law_all_there" 1702 (R 1106),de P "_law_given" 1716 (R 1113),de P "_law_meaning" 1722 (R 1118),de P "_law_op" 1728 (R 1123),de P "_law_into" 1742 (R 1130),de P "_law_left" 1748 (R 1135),de P "_law_run" 1762 (R 1142),de P "law" 1768 (R 1147)]::⟨.type "module",some 0,.plain,#[]⟩::⟨.type "module",some 3,.plain,#[]⟩::dc 0 []::tu []::fz []::co "<module>" "<module>" 176 1 0 0 0 0 7 false 175 [.none,.none,.none,.none] 179::fr 9 3 3 "__main__" 164::tu []::fz [I 1,I 0,R 20,I 16,I 0,R 27,I 24,I 0,R 55,I 29,I 0,R 74,I 34,I 0,R 93,I 39,I 0,R 112,I 51,I 0,R 145,I 64,I 0,R 178,I 84,I 0,R 225,I 96,I 0,R 258,I 107,I 0,R 291,I 119,I 0,R 324,I 130,I 0,R 331,I 148,I 0,R 366,I 152,I 0,R 373,I 156,I 0,R 380,I 161,I 0,R 387,I 184,I 0,R 429,I 191,I 0,R 436,I 196,I 0,R 443,I 201,I 0,R 450,I 207,I 0,R 457,I 240,I 0,R 506,I 258,I 0,R 555,I 263,I 0,R 579,I 268,I 0,R 600,I 299,I 0,R 663,I 308,I 0,R 683,I 315,I 0,R 704,I 368,I 0,R 795,I 376,I 0,R 802,I 379,I 0,R 809,I 381,I 0,R 816,I 385,I 0,R 823,I 391,I 0,R 828,I 395,I 0,R 835,I 398,I 0,R 842,I 400,I 0,R 847,I 403,I 0,R 852,I 406,I 0,R 857,I 412,I 0,R 864,I 423,I 0,R 871,I 439,I 0,R 878,I 444,I 0,R 885,I 448,I 0,R 892,I 454,I 0,R 899,I 465,I 0,R 906,I 478,I 0,R 913,I 480,I 0,R 920,I 483,I 0,R 927,I 485,I 0,R 934,I 494,I 0,R 941,I 507,I 0,R 948,I 512,I 0,R 955,I 524,I 0,R 962,I 561,I 0,R 1046,I 566,I 0,R 1053,I 570,I 0,R 1058,I 573,I 0,R 1063,I 575,I 0,R 1070,I 598,I 0,R 1077,I 600,I 0,R 1084,I 606,I 0,R 1091,I 610,I 0,R 1098,I 626,I 0,R 1105,I 640,I 0,R 1112,I 657,I 0,R 1117,I 674,I 0,R 1122,I 687,I 0,R 1129,I 695,I 0,R 1134,I 716,I 0,R 1141,I 728,I 0,R 1146]::co "<module>" "<module>" 182 1 0 0 0 0 11 false 181 [.none,.none,.none,.none] 185::fr 13 3 3 "__main__" 164::fb 0 "_wall" "_wall" 15 187 1 1 ["k"] "__main__" 164 (tu []::fl "builtin_function_or_method" [.builtin "type.__prepare__",.type "type"]::dc 7 [de P "__module__" 225 (q "scheme.core" 194),de P "__qualname__" 227 (q "Node" 226),de P "__firstlineno__" 229 (.int 16 228),de P "kind" 232 (.int (-1) 231),de P "parts" 239 (R 35),de P "with_parts" 247 (R 42),de P "__static_attributes__" 248 (R 43)]::tu []::fz [I 19,I 4,R 34,I 22,I 4,R 41]::co "Node" "Node" 220 16 0 0 0 0 25 false 181 [.none,.none,.none,.none] 223::fr 27 3 24 "scheme.core" 194::fb 1 "Node.parts" "parts" 29 233 19 1 ["self"] "scheme.core" 194 (fb 2 "Node.with_parts" "with_parts" 36 240 22 2 ["self","parts"] "scheme.core" 194 (tu []::dc 4 [de P "__module__" 225 (q "scheme.core" 194),de P "__firstlineno__" 229 (.int 16 228),de P "kind" 232 (.int (-1) 231),de P "parts" 239 (R 35),de P "with_parts" 247 (R 42),de P "__static_attributes__" 248 (R 43),de P "__dict__" 250 (R 46),de P "__weakref__" 252 (R 47),de P "__doc__" 253 .none]::ty "Node" [.type "object"] [R 45,.type "object"] 44 [R 66,R 85,R 104,R 137,R 170,R 217,R 250,R 283,R 316] none 218 226 "object.__new__"::fl "getset_descriptor" [q "__dict__" 249,R 45,.builtin "function.__dict__",.builtin "function.__dict__#set"]::fl "getset_descriptor" [q "__weakref__" 251,R 45,.builtin "ExceptionGroup.__weakref__",.none]::su 45::fl "builtin_function_or_method" [.builtin "object.__init_subclass__",R 45]::tu [R 45]::fl "builtin_function_or_method" [.builtin "type.__prepare__",.type "type"]::dc 6 [de P "__module__" 263 (q "scheme.core" 194),de P "__qualname__" 265 (q "Const" 264),de P "__firstlineno__" 267 (.int 24 266),de P "kind" 268 (.int 0 196),de P "__init__" 276 (R 63),de P "__static_attributes__" 278 (R 64)]::tu []::fz [I 27,I 4,R 62]::co "Const" "Const" 258 24 0 0 0 0 53 false 181 [.none,.none,.none,.none] 261::fr 55 3 52 "scheme.core" 194::fb 3 "Const.__init__" "__init__" 57 269 27 2 ["self","value"] "scheme.core" 194 (tu [q "value" 277]::dc 2 [de P "__module__" 263 (q "scheme.core" 194),de P "__firstlineno__" 267 (.int 24 266),de P "kind" 268 (.int 0 196),de P "__init__" 276 (R 63),de P "__static_attributes__" 278 (R 64),de P "__doc__" 279 .none]::ty "Const" [R 45] [R 66,R 45,.type "object"] 65 [] (some (R 50)) 256 264 "object.__new__"::su 66::fl "builtin_function_or_method" [.builtin "object.__init_subclass__",R 66]::tu [R 45]::fl "builtin_function_or_method" [.builtin "type.__prepare__",.type "type"]::dc 6 [de P "__module__" 289 (q "scheme.core" 194),de P "__qualname__" 291 (q "Local" 290),de P "__firstlineno__" 293 (.int 29 292),de P "kind" 294 (.int 1 198),de P "__init__" 302 (R 82),de P "__static_attributes__" 304 (R 83)]::X5 P))))
noncomputable def mask:Nat:=0xcedcedce76eddbb76eddb9cedda7f6eddbb76eddbb76ed01b76eddbb76eddbb76eddbb76e739dbb73b76eddbb4feddbb76eddbb76eddbb401fda00fda04feddbb76eddbb401fda019fda00feddbb76ed007f6eddbb7680dbb76ed3fb76edda036edda7f6edda0369f6edda04fb76ed027dbb76813eddbb76ed027dbb76813eddbb409f6813ed027da04fedda036800c
noncomputable def live (o:Obj):Bool:=match o.data with
  | .freed=>false
  | _=>true
noncomputable def pk:List Obj->Nat->Nat->Frag
  | [],_,_=>[]
  | o::r,i,m=>match Nat.beq (m % 2) 1&&live o with
    | true=>(i,o)::pk r (i+1) (m / 2)
    | false=>pk r (i+1) (m / 2)
noncomputable def KK (P:Params):Frag:=pk (KJ P) 0 mask
noncomputable def rH:List Obj->List Obj
  | []=>[]
  | [a]=>[a]
  | a::_::r=>a::rH r
noncomputable def Pk:Nat->List Obj->BT
  | 0,_=>.nil
  | _+1,[]=>.nil
  | n+1,o::r=>.node o (Pk n (rH r)) (Pk n (rH r.tail))
noncomputable def upd:Nat->(Obj->Obj)->List Obj->List Obj
  | _,_,[]=>[]
  | 0,f,o::r=>f o::r
  | n+1,f,o::r=>o::upd n f r
noncomputable def X6 (v:Value) (n e:Nat) (o:Obj):Obj:=match o.data with
  | .dict ⟨x::r⟩ _=>⟨o.cls,o.dict,.dict ⟨⟨x.hash,x.key,v⟩::r.take n⟩ e,o.slots⟩
  | _=>o
noncomputable def O1 (n:Nat) (o:Obj):Obj:=match o.data with
  | .dict ⟨r⟩ _=>⟨o.cls,o.dict,.dict ⟨r.take n⟩ n,o.slots⟩
  | .fields ⟨r⟩=>⟨o.cls,o.dict,.fields ⟨r.take n⟩,o.slots⟩
  | .cls c=>⟨o.cls,o.dict,.cls {c with subclasses:=c.subclasses.take n},o.slots⟩
  | _=>o
noncomputable def cut (n a b e c d:Nat) (s:String) (t:Nat) (P:Params):List Obj:=
  upd 2 (O1 a) (upd 3 (X6 (q s t) b e) (upd 12 (O1 c) (upd 45 (O1 d) ((KJ P).take n))))
noncomputable def env:Env:={scope:=P0.main.scope,locals:=mainNs,globals:=mainNs,cells:=[],code:=.ref 13,frame:=some 14}
noncomputable def bd:List Stmt:=behindTheImports P0
noncomputable def cE:Code:=.body bd env
noncomputable def q0:Pos:=⟨0,0,0,0⟩
abbrev B:List Frame:=[topFrame q0]
noncomputable def an:Option Value:=some (.ref 6)
noncomputable def St (l:Params->List Obj) (n t:Nat) (w:World) (os:OsState):SharedT:=⟨Pk 12 (l w.params),n,{},⟨[]⟩,⟨0,0,0,0⟩,t,os⟩
noncomputable def S0:=St (cut 15 0 8 9 0 99 "__main__" 164) 15 187
noncomputable def c0:Pos:=q0
noncomputable def S1:=St (cut 140 0 25 26 18 4 "scheme.core" 194) 140 377
noncomputable def c1:Pos:=⟨39,0,50,16⟩
noncomputable def S2:=St (cut 319 0 30 31 33 9 "scheme.core" 194) 319 611
noncomputable def c2:Pos:=⟨107,0,118,16⟩
noncomputable def S3:=St (cut 501 0 47 48 66 9 "scheme.cpscode" 618) 501 878
noncomputable def c3:Pos:=⟨207,0,239,17⟩
noncomputable def S4:=St (cut 658 0 52 53 78 9 "scheme.errors" 1084) 658 1086
noncomputable def c4:Pos:=⟨298,0,298,8⟩
noncomputable def S5:=St (cut 950 2 82 83 159 9 "scheme.cps" 1117) 950 1496
noncomputable def c5:Pos:=⟨507,0,511,42⟩
noncomputable def S6:=St KJ 1148 1769
noncomputable def c6:Pos:=⟨728,0,733,53⟩
noncomputable def l1:List Stmt:=(bd.drop 0).take 18
noncomputable def l2:List Stmt:=(bd.drop 18).take 5
noncomputable def l3:List Stmt:=(bd.drop 23).take 18
noncomputable def l4:List Stmt:=(bd.drop 41).take 7
noncomputable def l5:List Stmt:=(bd.drop 48).take 31
noncomputable def l6:List Stmt:=(bd.drop 79).take 21
theorem fast {p:Program} {w:World} {n:Nat} {s:SharedT} {t:Thread} {r} (h:Fast.tw10110043849684766642 Fast.tw14364793385576792824 p w 11 an 1 n s t=r):segRunT treeTable p w 11 an 1 n s t=r:=by
  rw [Fast.te10110043849684766642,Fast.te14364793385576792824];exact h
theorem Wu {p:Program} {w:World} {n:Nat} {s:Shared} {t:Thread} {r} (h:Fast.tw15667345088766844465 Fast.tw14364793385576792824 p w 11 an n s t=r):topGo treeTable p w 11 an n s t=r:=by
  rw [Fast.te15667345088766844465,Fast.te14364793385576792824];exact h
theorem Nf {p:Program} {w:World} {n:Nat} {s:Shared} {t:Thread} {r} (h:Fast.tw14374325043358763698 Fast.tw14364793385576792824 p w 11 an 1 n s t=r):segRun treeTable p w 11 an 1 n s t=r:=by
  rw [Fast.te14374325043358763698,Fast.te14364793385576792824];exact h
theorem Ng {p:Program} {w:World} {n:Nat} {s:Shared} {t:Thread} {r} (h:Fast.tw14082659384304107361 Fast.tw14364793385576792824 p w 11 an n s t=r):topRun treeTable p w 11 an n s t=r:=by
  rw [Fast.te14082659384304107361,Fast.te14364793385576792824];exact h
abbrev Vp (w:World) (os:OsState):Shared:=⟨boot_heap w.params,⟨[]⟩,boot_drawn,boot_toks,os⟩
abbrev Vz:Thread:=⟨denote treeTable cE,cE,q0,B⟩
theorem QQ (w:World):(fun os=>Fast.tw14374325043358763698 Fast.tw14364793385576792824 P0 w 11 an 1 1 (S0 w os).abs (blockOf bd env cE q0 B))=fun os=>some (.next,(S0 w os).abs,cE,c0):=by kernel_rfl
theorem r1 (w:World):(fun os=>Fast.tw10110043849684766642 Fast.tw14364793385576792824 P0 w 11 an 1 1520 (S0 w os) (piecesOf l1 env cE c0 B))=fun os=>some (.next,S1 w os,cE,c1):=by kernel_rfl
theorem r2 (w:World):(fun os=>Fast.tw10110043849684766642 Fast.tw14364793385576792824 P0 w 11 an 1 1688 (S1 w os) (piecesOf l2 env cE c1 B))=fun os=>some (.next,S2 w os,cE,c2):=by kernel_rfl
theorem r3 (w:World):(fun os=>Fast.tw10110043849684766642 Fast.tw14364793385576792824 P0 w 11 an 1 1306 (S2 w os) (piecesOf l3 env cE c2 B))=fun os=>some (.next,S3 w os,cE,c3):=by kernel_rfl
theorem r4 (w:World):(fun os=>Fast.tw10110043849684766642 Fast.tw14364793385576792824 P0 w 11 an 1 1339 (S3 w os) (piecesOf l4 env cE c3 B))=fun os=>some (.next,S4 w os,cE,c4):=by kernel_rfl
theorem r5 (w:World):(fun os=>Fast.tw10110043849684766642 Fast.tw14364793385576792824 P0 w 11 an 1 1815 (S4 w os) (piecesOf l5 env cE c4 B))=fun os=>some (.next,S5 w os,cE,c5):=by kernel_rfl
theorem r6 (w:World):(fun os=>Fast.tw10110043849684766642 Fast.tw14364793385576792824 P0 w 11 an 1 1102 (S5 w os) (piecesOf l6 env cE c5 B))=fun os=>some (.next,S6 w os,cE,c6):=by kernel_rfl
end
end Mine.H
end
section
set_option maxHeartbeats 0
namespace Mine.H
noncomputable section
theorem O9 (w:World):(fun os=>Fast.tw15667345088766844465 Fast.tw14364793385576792824 P0 w 11 an 12 (Vp w os) (topStub P0))=fun os=>some ((S0 w os).abs,⟨Fast.tw11892475500146522536 Fast.tw14364793385576792824 cE,cE,q0,B⟩):=by kernel_rfl
theorem O8 (w:World) (os:OsState):topGo treeTable P0 w 11 an 12 (Vp w os) (topStub P0)=some ((S0 w os).abs,Vz):=by
  rw [Vz,Fast.te15667345088766844465,Fast.te14364793385576792824,Fast.te11892475500146522536];exact congrFun (O9 w) os
noncomputable def H1 (P:Params):Heap:=⟨⟨KJ P⟩,{}⟩
theorem Qx (w:World):(fun os=>Fast.tw14082659384304107361 Fast.tw14364793385576792824 P0 w 11 an 2 (S6 w os).abs (restOf [] env cE c6 B))=fun os=>some ⟨H1 w.params,⟨[]⟩,⟨0,0,0,0⟩,1769,os⟩:=by kernel_rfl
theorem NH:l1++(l2++(l3++(l4++(l5++(l6++[])))))=bd:=by kernel_rfl
theorem O5 (w:World) (os:OsState):topRun treeTable P0 w 11 an (12+(1+(1520+(1688+(1306+(1339+(1815+(1102+2)))))))) (Vp w os) (topStub P0)=some ⟨H1 w.params,⟨[]⟩,⟨0,0,0,0⟩,1769,os⟩:=
  have k:=Ng (congrFun (Qx w) os)
  have k:=piece_app (l:=l6) (rest:=[]) (q:=q0) (env:=env) (segRun_of (fast (congrFun (r6 w) os))) k
  have k:=piece_app (l:=l5) (q:=q0) (env:=env) (segRun_of (fast (congrFun (r5 w) os))) k
  have k:=piece_app (l:=l4) (q:=q0) (env:=env) (segRun_of (fast (congrFun (r4 w) os))) k
  have k:=piece_app (l:=l3) (q:=q0) (env:=env) (segRun_of (fast (congrFun (r3 w) os))) k
  have k:=piece_app (l:=l2) (q:=q0) (env:=env) (segRun_of (fast (congrFun (r2 w) os))) k
  have k:=piece_app (l:=l1) (q:=q0) (env:=env) (segRun_of (fast (congrFun (r1 w) os))) k
  have k:=(congrArg (fun l=>topRun treeTable P0 w 11 an (1520+(1688+(1306+(1339+(1815+(1102+2)))))) (S0 w os).abs (restOf l env cE c0 B)) NH).symm.trans k
  go_top (O8 w os) (piece_block (q:=q0) (env:=env) (Nf (congrFun (QQ w) os)) k)
end
end Mine.H
end
section
set_option maxHeartbeats 0
namespace Mine.H
noncomputable section
noncomputable def vw:Program:={P0 with main:={P0.main with body:=P0.main.body.take 1++((P0.main.body.drop 2).take 22++((P0.main.body.drop 25).take 17++((P0.main.body.drop 43).take 4++((P0.main.body.drop 48).take 1++((P0.main.body.drop 50).take 30++((P0.main.body.drop 81).take 1++P0.main.body.drop 83))))))}}
noncomputable def lo:List Str:=[Str.ofString "Node",Str.ofString "Const",Str.ofString "Local",Str.ofString "Global",Str.ofString "SetGlobal",Str.ofString "If",Str.ofString "Lambda",Str.ofString "Call",Str.ofString "Seq",Str.ofString "Prim",Str.ofString "UNSPECIFIED"]
abbrev R0:OpenRow:=Challenge.rw_nt0234_01.row
theorem zS {a:Addr} {o:Obj}:∀{l:List Obj} {i m:Nat},(pk l i m).lookup a=some o->∃j,a=i+j∧l[j]?=some o∧live o=true
  | [],_,_,h=>nomatch h
  | x::r,i,m,h=>by
    unfold pk at h
    have next (h:(pk r (i+1) (m / 2)).lookup a=some o):∃j,a=i+j∧(x::r)[j]?=some o∧live o=true:=
      let ⟨j,e,e2,e3⟩:=zS h
      ⟨j+1,by rw [e,Nat.add_assoc,Nat.add_comm 1],e2,e3⟩
    cases hb:(Nat.beq (m % 2) 1&&live x) with
    | true=>
      rw [hb] at h
      have h:(match a==i with | true=>some x | false=>(pk r (i+1) (m / 2)).lookup a)=some o:=h
      cases he:a==i with
      | true=>
        rw [he] at h
        cases h
        exact ⟨0,eq_of_beq he,rfl,(Bool.and_eq_true_iff.mp hb).2⟩
      | false=>rw [he] at h;exact next h
    | false=>rw [hb] at h;exact next h
theorem N8 {w:World} {h:Heap} (e:h.objs.toList=KJ w.params):(KK w.params).In h:=fun a o q=>by
  obtain ⟨j,ea,e2,e3⟩:=zS q
  rw [Nat.zero_add] at ea
  subst ea
  rw [←e,Array.getElem?_toList] at e2
  unfold Heap.get?
  rw [e2]
  obtain ⟨c,d,data,sl⟩:=o
  cases data<;>first | rfl | exact Bool.noConfusion e3
noncomputable def HK:Hook:=⟨List Obj,fun s=>s.heap.objs.toList,fun w=>KJ w.params,fun w h=>(KK w.params).In h,fun _ _ e=>N8 e,fun _ _ _ x k=>Frag.In.keeps x k⟩
noncomputable def Xt (s:Shared):Bool:=xlAt vw [] s&&recOk (RowW.records R0.toRowW) s
theorem Mb:opening P0=plainProg P0.main.scope.names:=by kernel_rfl
theorem Ma (w:World):(fencedOpening treeTable P0 w 20000).map (fun s=>(s.heap,s.gens,s.drawn,s.toks))=some (boot_heap w.params,Array.mk [],boot_drawn,boot_toks):=boot_open Mb rfl (fun _=>rfl) w
theorem Lu (w:World):((boot_heap w.params).isNs mainGlobals&&(Array.mk ([]:List GenState)).size==0,(boot_heap w.params).objs.size,(boot_heap w.params).nsMap mainGlobals "__annotations__")=(true,11,an):=by kernel_rfl
abbrev sF (w:World) (os:OsState):Shared:=⟨H1 w.params,⟨[]⟩,⟨0,0,0,0⟩,1769,os⟩
end
end Mine.H
end
section
set_option maxHeartbeats 0
namespace Mine.H
noncomputable section
open Fast
theorem KN (w:World):(fun os=>tw5160383126252970620 ((recsOf vw).map (·.name)) (ownsOf vw) [] {(sF w os) with gens:=#[]})=fun _=>expectedOf vw:=by kernel_rfl
theorem Pq (w:World):(fun os=>(sF w os).heap.bltView)=fun _=>bltViewBooted:=by kernel_rfl
theorem Pp (w:World):(fun os=>((sF w os).heap.keysOk (looseW vw lo) ((recsOf vw).map (·.name)) ((litsOf vw).map (·.1)) ((clssOf vw (looseW vw lo)).map (·.name))&&(sF w os).heap.accountedOkI (importedModules P0.main.body)&&(sF w os).heap.isNs mainGlobals&&(sF w os).heap.isNs builtinsNs&&tablesOk vw (sF w os).heap&&Xt (sF w os)&&((sF w os).gens.size==0)))=fun _=>true:=by
  rw [te10880121769531294198,te14722251495701143533,te10994771534591457954];kernel_rfl
theorem Po (w:World):(fun os=>tw479339242167458305 vw (sF w os))=fun _=>true:=by kernel_rfl
theorem Pn (w:World):(fun os=>tw16090120013241838585 vw (drecsOf vw) (sF w os))=fun _=>pinGoodD (drecsOf vw):=by kernel_rfl
theorem Yd (w:World):(fun os=>tw2386780881361962483 vw (looseW vw lo) (sF w os))=fun _=>plainGoodE vw (looseW vw lo):=by kernel_rfl
theorem Yc (w:World):(fun os=>tw11698064438423848299 vw lo (sF w os))=fun _=>plainGoodD vw lo:=by kernel_rfl
theorem Yb (w:World):(fun os=>tw7317090234206586261 vw (sF w os))=fun _=>wideGood vw:=by kernel_rfl
theorem X9 (w:World):(fun os=>tw7369524293546568484 vw lo (sF w os))=fun _=>clsGoodW vw lo:=by kernel_rfl
theorem Pr (w:World):(fun os=>(staticsOk (importedModules P0.main.body) (boot_heap w.params) (H1 w.params)&&namesBound P0 (H1 w.params)&&gensDone (sF w os)&&laidKept (boot_heap w.params) (H1 w.params)))=fun _=>true:=by kernel_rfl
end
end Mine.H
end
section
set_option maxHeartbeats 0
namespace Mine.H
noncomputable section
open Fast
theorem Lx (w:World) (os:OsState):openSeen vw lo (importedModules P0.main.body) Xt true (sF w os)=openGood vw lo:=by
  have e1:=congrFun (KN w) os
  have e4:=congrFun (Po w) os
  have e5:=congrFun (Pn w) os
  have e6:=congrFun (Yd w) os
  have e7:=congrFun (Yc w) os
  have e8:=congrFun (Yb w) os
  have e9:=congrFun (X9 w) os
  rw [←te5160383126252970620] at e1
  rw [←te479339242167458305] at e4
  rw [←te16090120013241838585] at e5
  rw [←te2386780881361962483] at e6
  rw [←te11698064438423848299] at e7
  rw [←te7317090234206586261] at e8
  rw [←te7369524293546568484] at e9
  exact looks_pair e1 (looks_pair (congrFun (Pq w) os) (looks_pair (congrFun (Pp w) os) (looks_pair e4 (looks_pair e5 (looks_pair e6 (looks_pair e7 (looks_pair e8 e9)))))))
theorem left:LeftO R0.prog vw lo Xt HK.obs HK.val 20000 true:=
  LeftO.of_pieces (p:=P0) (H₁:=H1) Ma Lu O5 rfl fun w=>funext fun os=>looks_pair (congrFun (Pr w) os) (looks_pair (Lx w os) rfl)
theorem AF {a b:Bool} (h:a=true) (k:b=true):(a&&b)=true:=by rw [h,k];rfl
theorem I4:Challenge.rw_nt0234_01.wellSaid=true:=by
  rw [Fast.te9446332074065402090]
  refine AF (AF (AF (AF (AF (AF (AF (AF (AF (AF (AF (AF (AF (AF (AF (AF (AF (AF ?_ ?_) ?_) ?_) ?_) ?_) ?_) ?_) ?_) ?_) ?_) ?_) ?_) ?_) ?_) ?_) ?_) ?_) ?_
  · refine AF (AF ?_ ?_) ?_
    · refine AF (AF (AF (AF (AF (AF (AF (AF (AF (AF (AF (AF (AF ?_ ?_) ?_) ?_) ?_) ?_) ?_) ?_) ?_) ?_) ?_) ?_) ?_) ?_
      · refine AF (AF (AF (AF (AF ?_ ?_) ?_) ?_) ?_) ?_
        · kernel_rfl
        · kernel_rfl
        · as_aux_lemma=>kernel_rfl
        · kernel_rfl
        · as_aux_lemma=>kernel_rfl
        · as_aux_lemma=>kernel_rfl
      all_goals kernel_rfl
    all_goals kernel_rfl
  all_goals kernel_rfl
end
end Mine.H
end
section
namespace Mine.Li
abbrev LV:=Int×List Int
noncomputable def dot:List Int->List Int->Int
  | c::cs,a::l=>c*a+dot cs l
  | _,_=>0
theorem yX (l:List Int):dot [] l=0:=by cases l<;>rfl
theorem BN (c:List Int):dot c []=0:=by cases c<;>rfl
noncomputable def cZ (c:List Int) (v:LV):Int:=v.1+dot c v.2
noncomputable def uN:List Int->List Int->List Int
  | a::l,b::m=>(a+b)::uN l m
  | [],m=>m
  | l,[]=>l
theorem i4 {a b c d:Int}:a+b+(c+d)=a+c+(b+d):=by rw [Int.add_assoc,Int.add_assoc,Int.add_left_comm b]
theorem yZ (l:List Int):∀m c,dot c (uN l m)=dot c l+dot c m:=by
  induction l with
  | nil=>intro m c;rw [BN,Int.zero_add];cases m<;>rfl
  | cons a l ih=>
    intro m c
    cases m with
    | nil=>rw [BN,Int.add_zero];rfl
    | cons b m=>
      cases c with
      | nil=>rfl
      | cons x c=>
        show x*(a+b)+dot c (uN l m)=x*a+dot c l+(x*b+dot c m)
        rw [ih,Int.mul_add,i4]
noncomputable def oo (k:Int) (v:LV):LV:=(k*v.1,v.2.map (k*·))
noncomputable def pa (v w:LV):LV:=(v.1+w.1,uN v.2 w.2)
theorem Dz {c:List Int} (v w:LV):cZ c (pa v w)=cZ c v+cZ c w:=by
  show v.1+w.1+dot c (uN v.2 w.2)=v.1+dot c v.2+(w.1+dot c w.2)
  rw [yZ,i4]
theorem yY (k:Int) (l:List Int):∀c,dot c (l.map (k*·))=k*dot c l:=by
  induction l with
  | nil=>intro c;rw [List.map_nil,BN,Int.mul_zero]
  | cons a l ih=>
    intro c
    cases c with
    | nil=>exact (Int.mul_zero k).symm
    | cons x c=>
      show x*(k*a)+dot c (l.map (k*·))=k*(x*a+dot c l)
      rw [ih,Int.mul_add,Int.mul_left_comm]
theorem Dy {c:List Int} (k:Int) (v:LV):cZ c (oo k v)=k*cZ c v:=by
  show k*v.1+dot c (v.2.map (k*·))=k*(v.1+dot c v.2)
  rw [yY,Int.mul_add]
noncomputable def iw (v w:LV):LV:=pa v (oo (-1) w)
theorem Dx {c:List Int} (v w:LV):cZ c (iw v w)=cZ c v-cZ c w:=by rw [iw,Dz,Dy,Int.neg_mul,Int.one_mul];rfl
noncomputable def vk (k:Int):LV:=(k,[])
theorem EI {c:List Int} (k:Int):cZ c (vk k)=k:=by show k+dot c []=k;rw [BN,Int.add_zero]
noncomputable def vu (i:Nat):LV:=(0,List.replicate i 0++[1])
theorem Np (i:Nat):∀c:List Int,dot c (List.replicate i 0++[1])=c.getD i 0:=by
  induction i with
  | zero=>intro c;cases c with
    | nil=>rfl
    | cons x c=>show x*1+dot c []=x;rw [BN,Int.mul_one,Int.add_zero]
  | succ i ih=>intro c;cases c with
    | nil=>rfl
    | cons x c=>show x*0+dot c (List.replicate i 0++[1])=c.getD i 0;rw [ih,Int.mul_zero,Int.zero_add]
theorem sT {c:List Int} (i:Nat):cZ c (vu i)=c.getD i 0:=(Int.zero_add _).trans (Np i c)
noncomputable def o2 (v:LV):Int:=v.2.headD 0
noncomputable def Oh (v:LV):LV:=(v.1,v.2.tail)
theorem sU {x:Int} {c:List Int} (v:LV):cZ (x::c) v=x*o2 v+cZ c (Oh v):=by
  obtain ⟨k,l⟩:=v
  cases l with
  | nil=>show k+dot (x::c) []=x*0+(k+dot c []);rw [BN,BN,Int.mul_zero,Int.zero_add]
  | cons a l=>exact Int.add_left_comm k _ _
noncomputable def Iu (L:List LV):List LV:=
  (L.filter fun v=>o2 v=0).map Oh++(L.filter fun v=>0<o2 v).flatMap fun v=>(L.filter fun w=>o2 w<0).map fun w=>pa (oo (-o2 w) (Oh v)) (oo (o2 v) (Oh w))
noncomputable def Sat (c:List Int) (L:List LV):Prop:=∀v∈L,0≤cZ c v
theorem vJ {x:Int} {c:List Int} {L:List LV} (h:Sat (x::c) L):Sat c (Iu L):=by
  intro u hu
  rcases List.mem_append.mp hu with hu | hu
  · obtain ⟨v,hv,e⟩:=List.mem_map.mp hu
    obtain ⟨h1,h2⟩:=List.mem_filter.mp hv
    have:=h v h1
    rw [sU,of_decide_eq_true h2,Int.mul_zero,Int.zero_add] at this
    exact e▸this
  · obtain ⟨v,hv,hu⟩:=List.mem_flatMap.mp hu
    obtain ⟨w,hw,e⟩:=List.mem_map.mp hu
    obtain ⟨h1,h2⟩:=List.mem_filter.mp hv
    obtain ⟨h3,h4⟩:=List.mem_filter.mp hw
    have h2:=of_decide_eq_true h2
    have h4:=of_decide_eq_true h4
    have a:=h v h1
    have b:=h w h3
    rw [sU] at a b
    rw [←e,Dz,Dy,Dy]
    have a:=Int.mul_nonneg (Int.le_of_lt (Int.neg_pos_of_neg h4)) a
    have b:=Int.mul_nonneg (Int.le_of_lt h2) b
    have z:-o2 w*(x*o2 v)+o2 v*(x*o2 w)=0:=by
      rw [Int.neg_mul,Int.mul_left_comm (o2 w),Int.mul_left_comm (o2 v),Int.mul_comm (o2 w)];exact Int.add_left_neg _
    rw [Int.mul_add] at a b
    have a:=Int.add_nonneg a b
    rw [i4,z,Int.zero_add] at a
    exact a
noncomputable def fm:Nat->List LV->Bool
  | 0,L=>L.any fun v=>v.1<0
  | n+1,L=>fm n (Iu L)
theorem Nc (n:Nat):∀{c:List Int} {L:List LV},c.length=n->fm n L=true->¬Sat c L:=by
  induction n with
  | zero=>
    intro c L hc h s
    obtain ⟨v,hv,e⟩:=List.any_eq_true.mp h
    have a:=s v hv
    cases List.eq_nil_of_length_eq_zero hc
    have e:=of_decide_eq_true e
    exact Int.not_le.mpr e ((show cZ [] v=v.1 from (congrArg (v.1+·) (yX _)).trans (Int.add_zero _))▸a)
  | succ n ih=>
    intro c L hc h s
    cases c with
    | nil=>exact nomatch hc
    | cons x c=>exact ih (Nat.succ.inj hc) h (vJ s)
structure LD where
  n:Nat
  z:Int
  p:Prop
abbrev LA:=List (List LV×LV)
structure LR where
  n:LA
  z:LA
  t:List (List LV)
  f:List (List LV)
noncomputable def Alt (c:List Int) (l:LA) (x:Int):Prop:=∃a∈l,Sat c a.1∧cZ c a.2=x
noncomputable def nH (c:List Int) (l:List (List LV)):Prop:=∃D∈l,Sat c D
structure sH (c:List Int) (d:LD) (a:LR):Prop where
  n:Alt c a.n d.n
  z:Alt c a.z d.z
  t:d.p->nH c a.t
  f:¬d.p->nH c a.f
noncomputable def lz:LA:=[([],vk 0)]
variable {c:List Int}
theorem Bb:Sat c []:=fun _ h=>nomatch h
theorem A0 {v:LV} {L:List LV} (h:0≤cZ c v) (k:Sat c L):Sat c (v::L):=fun w hw=>by
  cases hw with
  | head=>exact h
  | tail _ hw=>exact k w hw
theorem C3 {L M:List LV} (h:Sat c L) (k:Sat c M):Sat c (L++M):=fun w hw=>(List.mem_append.mp hw).elim (h w) (k w)
theorem BF {v:LV} {x:Int} (h:cZ c v=x):Alt c [([],v)] x:=⟨_,.head _,Bb,h⟩
theorem DV:Alt c lz 0:=BF (EI 0)
theorem Ez {L:List LV} (h:Sat c L):nH c [L]:=⟨_,.head _,h⟩
theorem Ci {L M:List (List LV)} (h:nH c L):nH c (L++M):=let ⟨D,a,b⟩:=h;⟨D,List.mem_append_left _ a,b⟩
theorem BJ {L M:List (List LV)} (h:nH c M):nH c (L++M):=let ⟨D,a,b⟩:=h;⟨D,List.mem_append_right _ a,b⟩
noncomputable def prod (l m:List (List LV)):List (List LV):=l.flatMap fun a=>m.map fun b=>a++b
theorem BO {L M:List (List LV)} (h:nH c L) (k:nH c M):nH c (prod L M):=
  let ⟨A,a,b⟩:=h;let ⟨B,a',b'⟩:=k;⟨A++B,List.mem_flatMap.mpr ⟨A,a,List.mem_map.mpr ⟨B,a',rfl⟩⟩,C3 b b'⟩
noncomputable def two (l m:LA) (f:LV->LV->List (List LV×LV)):LA:=l.flatMap fun a=>m.flatMap fun b=>(f a.2 b.2).map fun u=>(a.1++b.1++u.1,u.2)
theorem Bt {l m:LA} {x y z:Int} {f:LV->LV->LA} (h:Alt c l x) (k:Alt c m y) (q:∀v w,cZ c v=x->cZ c w=y->Alt c (f v w) z):Alt c (two l m f) z:=
  let ⟨A,a,b,e⟩:=h;let ⟨B,a',b',e'⟩:=k;let ⟨U,u,s,r⟩:=q _ _ e e'
  ⟨_,List.mem_flatMap.mpr ⟨A,a,List.mem_flatMap.mpr ⟨B,a',List.mem_map.mpr ⟨U,u,rfl⟩⟩⟩,C3 (C3 b b') s,r⟩
noncomputable def j5 (l m:LA) (f:LV->LV->List (List LV)):List (List LV):=l.flatMap fun a=>m.flatMap fun b=>(f a.2 b.2).map fun u=>a.1++b.1++u
theorem Bh {l m:LA} {x y:Int} {f:LV->LV->List (List LV)} (h:Alt c l x) (k:Alt c m y) (q:∀v w,cZ c v=x->cZ c w=y->nH c (f v w)):nH c (j5 l m f):=
  let ⟨A,a,b,e⟩:=h;let ⟨B,a',b',e'⟩:=k;let ⟨U,u,s⟩:=q _ _ e e'
  ⟨_,List.mem_flatMap.mpr ⟨A,a,List.mem_flatMap.mpr ⟨B,a',List.mem_map.mpr ⟨U,u,rfl⟩⟩⟩,C3 (C3 b b') s⟩
noncomputable def Mo (v w:LV):LA:=[([],pa v w)]
noncomputable def Ml (v w:LV):LA:=[([],iw v w)]
noncomputable def Mn (v w:LV):LA:=[([iw v w],iw v w),([iw w v],vk 0)]
noncomputable def Jj (v w:LV):LA:=[([iw w v],v),([iw v w],w)]
noncomputable def Jk (v w:LV):LA:=[([iw v w],v),([iw w v],w)]
noncomputable def Mm (v _w:LV):LA:=[([v],v),([oo (-1) v],vk 0)]
noncomputable def Nx (v w:LV):List (List LV):=[[iw w v]]
noncomputable def Nv (v w:LV):List (List LV):=[[pa (vk (-1)) (iw w v)]]
noncomputable def QI (v w:LV):List (List LV):=[[iw w v,iw v w]]
noncomputable def QH (v w:LV):List (List LV):=[[pa (vk (-1)) (iw w v)],[pa (vk (-1)) (iw v w)]]
variable {v w:LV} {x y:Int}
theorem F9 (a:cZ c v=x) (b:cZ c w=y) (h:x≤y):0≤cZ c (iw w v):=by rw [Dx,a,b];exact Int.sub_nonneg_of_le h
theorem yt (a:cZ c v=x) (b:cZ c w=y) (h:x≤y):nH c (Nx v w):=Ez (A0 (F9 a b h) Bb)
theorem rj (a:cZ c v=x) (b:cZ c w=y) (h:x<y):nH c (Nv v w):=Ez (A0 (by rw [Dz,EI,Dx,a,b];omega) Bb)
theorem Nk (a:cZ c v=x) (b:cZ c w=y) (h:x=y):nH c (QI v w):=Ez (A0 (F9 a b (Int.le_of_eq h)) (A0 (F9 b a (Int.le_of_eq h.symm)) Bb))
theorem Mf (a:cZ c v=x) (b:cZ c w=y) (h:x≠y):nH c (QH v w):=(Int.lt_or_gt_of_ne h).elim (fun h=>Ci (M:=[_]) (rj a b h)) (fun h=>BJ (L:=[_]) (rj b a h))
theorem zm (a:cZ c v=x) (b:cZ c w=y) {z:Int} (h:(y≤x->z=x-y)∧(x≤y->z=0)):Alt c (Mn v w) z:=by
  rcases Int.le_total y x with q | q
  · exact ⟨_,.head _,A0 (F9 b a q) Bb,by rw [Dx,h.1 q,a,b]⟩
  · exact ⟨_,.tail _ (.head _),A0 (F9 a b q) Bb,by rw [EI,h.2 q]⟩
theorem qB (a:cZ c v=x) (b:cZ c w=y) {z:Int} (h:(x≤y->z=x)∧(y≤x->z=y)):Alt c (Jj v w) z:=by
  rcases Int.le_total x y with q | q
  · exact ⟨_,.head _,A0 (F9 a b q) Bb,a.trans (h.1 q).symm⟩
  · exact ⟨_,.tail _ (.head _),A0 (F9 b a q) Bb,b.trans (h.2 q).symm⟩
theorem qD (a:cZ c v=x) (b:cZ c w=y) {z:Int} (h:(y≤x->z=x)∧(x≤y->z=y)):Alt c (Jk v w) z:=by
  rcases Int.le_total y x with q | q
  · exact ⟨_,.head _,A0 (F9 b a q) Bb,a.trans (h.1 q).symm⟩
  · exact ⟨_,.tail _ (.head _),A0 (F9 a b q) Bb,b.trans (h.2 q).symm⟩
theorem zl (a:cZ c v=x):Alt c (Mm v w) x.toNat:=by
  rcases Int.le_total 0 x with q | q
  · exact ⟨_,.head _,A0 (a▸q) Bb,a.trans (Int.toNat_of_nonneg q).symm⟩
  · exact ⟨_,.tail _ (.head _),A0 (by rw [Dy,a,Int.neg_mul,Int.one_mul];exact Int.neg_nonneg_of_nonpos q) Bb,(EI 0).trans (congrArg Nat.cast (Int.toNat_of_nonpos q)).symm⟩
noncomputable def term (n z:LA):LR:=⟨n,z,[[]],[]⟩
noncomputable def fact (t f:List (List LV)):LR:=⟨lz,lz,t,f⟩
theorem ei {n:Nat} {z:Int} {a b:LA} (h:Alt c a n) (k:Alt c b z):sH c ⟨n,z,True⟩ (term a b):=⟨h,k,fun _=>Ez Bb,fun q=>(q trivial).elim⟩
theorem Bl {p:Prop} {t f:List (List LV)} (h:p->nH c t) (k:¬p->nH c f):sH c ⟨0,0,p⟩ (fact t f):=⟨DV,DV,h,k⟩
abbrev N5:=LD->LD->LD
abbrev N4:=LR->LR->LR
noncomputable def zv (c:List Int) (d:N5) (a:N4):Prop:=∀x y a' b',sH c x a'->sH c y b'->sH c (d x y) (a a' b')
noncomputable def Om:List N5:=[
  fun x y=>⟨x.n+y.n,x.z+y.z,True⟩,
  fun x y=>⟨x.n-y.n,x.z-y.z,True⟩,
  fun x y=>⟨min x.n y.n,min x.z y.z,True⟩,
  fun x y=>⟨max x.n y.n,max x.z y.z,True⟩,
  fun x y=>⟨0,0,x.n≤y.n⟩,
  fun x y=>⟨0,0,x.n<y.n⟩,
  fun x y=>⟨0,0,x.n=y.n⟩,
  fun x y=>⟨0,0,x.z≤y.z⟩,
  fun x y=>⟨0,0,x.z<y.z⟩,
  fun x y=>⟨0,0,x.z=y.z⟩,
  fun x y=>⟨0,0,x.p∧y.p⟩,
  fun x y=>⟨0,0,x.p∨y.p⟩,
  fun x y=>⟨0,0,x.p->y.p⟩,
  fun x y=>⟨0,0,x.p↔y.p⟩,
  fun x _=>⟨x.z.toNat,x.n,True⟩,
  fun x _=>⟨0,-x.z,True⟩,
  fun x _=>⟨0,0,¬x.p⟩]
noncomputable def Ol:List N4:=[
  fun x y=>term (two x.n y.n Mo) (two x.z y.z Mo),
  fun x y=>term (two x.n y.n Mn) (two x.z y.z Ml),
  fun x y=>term (two x.n y.n Jj) (two x.z y.z Jj),
  fun x y=>term (two x.n y.n Jk) (two x.z y.z Jk),
  fun x y=>fact (j5 x.n y.n Nx) (j5 y.n x.n Nv),
  fun x y=>fact (j5 x.n y.n Nv) (j5 y.n x.n Nx),
  fun x y=>fact (j5 x.n y.n QI) (j5 x.n y.n QH),
  fun x y=>fact (j5 x.z y.z Nx) (j5 y.z x.z Nv),
  fun x y=>fact (j5 x.z y.z Nv) (j5 y.z x.z Nx),
  fun x y=>fact (j5 x.z y.z QI) (j5 x.z y.z QH),
  fun x y=>fact (prod x.t y.t) (x.f++y.f),
  fun x y=>fact (x.t++y.t) (prod x.f y.f),
  fun x y=>fact (x.f++y.t) (prod x.t y.f),
  fun x y=>fact (prod x.t y.t++prod x.f y.f) (prod x.t y.f++prod x.f y.t),
  fun x _=>term (two x.z lz Mm) x.n,
  fun x _=>term lz (two lz x.z Ml),
  fun x _=>fact x.f x.t]
noncomputable def dO:N5:=fun _ _=>⟨0,0,True⟩
noncomputable def rO:N4:=fun _ _=>term lz lz
theorem AS {a:N5} {b:N4} {l:List N5} {m:List N4} (h:zv c a b∧∀i,zv c (l.getD i dO) (m.getD i rO)) (i:Nat):zv c ((a::l).getD i dO) ((b::m).getD i rO):=by
  cases i with
  | zero=>exact h.1
  | succ i=>exact h.2 i
theorem z6:∀i,zv c (Om.getD i dO) (Ol.getD i rO):=by
  refine AS ⟨fun x y a b h k=>ei (Bt h.n k.n fun v w e f=>BF (by rw [Dz,e,f];rfl)) (Bt h.z k.z fun v w e f=>BF (by rw [Dz,e,f])),?_⟩
  refine AS ⟨fun x y a b h k=>ei (Bt h.n k.n fun v w e f=>zm e f ⟨fun q=>Int.ofNat_sub (Int.ofNat_le.mp q),fun q=>congrArg Nat.cast (Nat.sub_eq_zero_of_le (Int.ofNat_le.mp q))⟩) (Bt h.z k.z fun v w e f=>BF (by rw [Dx,e,f])),?_⟩
  refine AS ⟨fun x y a b h k=>ei (Bt h.n k.n fun v w e f=>qB e f ⟨fun q=>congrArg Nat.cast (Nat.min_eq_left (Int.ofNat_le.mp q)),fun q=>congrArg Nat.cast (Nat.min_eq_right (Int.ofNat_le.mp q))⟩) (Bt h.z k.z fun v w e f=>qB e f ⟨Int.min_eq_left,Int.min_eq_right⟩),?_⟩
  refine AS ⟨fun x y a b h k=>ei (Bt h.n k.n fun v w e f=>qD e f ⟨fun q=>congrArg Nat.cast (Nat.max_eq_left (Int.ofNat_le.mp q)),fun q=>congrArg Nat.cast (Nat.max_eq_right (Int.ofNat_le.mp q))⟩) (Bt h.z k.z fun v w e f=>qD e f ⟨Int.max_eq_left,Int.max_eq_right⟩),?_⟩
  refine AS ⟨fun x y a b h k=>Bl (fun q=>Bh h.n k.n fun v w e f=>yt e f (Int.ofNat_le.mpr q)) (fun q=>Bh k.n h.n fun v w e f=>rj e f (Int.ofNat_lt.mpr (Nat.lt_of_not_le q))),?_⟩
  refine AS ⟨fun x y a b h k=>Bl (fun q=>Bh h.n k.n fun v w e f=>rj e f (Int.ofNat_lt.mpr q)) (fun q=>Bh k.n h.n fun v w e f=>yt e f (Int.ofNat_le.mpr (Nat.le_of_not_lt q))),?_⟩
  refine AS ⟨fun x y a b h k=>Bl (fun q=>Bh h.n k.n fun v w e f=>Nk e f (congrArg _ q)) (fun q=>Bh h.n k.n fun v w e f=>Mf e f fun z=>q (Int.ofNat.inj z)),?_⟩
  refine AS ⟨fun x y a b h k=>Bl (fun q=>Bh h.z k.z fun v w e f=>yt e f q) (fun q=>Bh k.z h.z fun v w e f=>rj e f (Int.lt_of_not_ge q)),?_⟩
  refine AS ⟨fun x y a b h k=>Bl (fun q=>Bh h.z k.z fun v w e f=>rj e f q) (fun q=>Bh k.z h.z fun v w e f=>yt e f (Int.not_lt.mp q)),?_⟩
  refine AS ⟨fun x y a b h k=>Bl (fun q=>Bh h.z k.z fun v w e f=>Nk e f q) (fun q=>Bh h.z k.z fun v w e f=>Mf e f q),?_⟩
  refine AS ⟨fun x y a b h k=>Bl (fun q=>BO (h.t q.1) (k.t q.2)) (fun q=>(Classical.em x.p).elim (fun s=>BJ (k.f fun t=>q ⟨s,t⟩)) fun s=>Ci (h.f s)),?_⟩
  refine AS ⟨fun x y a b h k=>Bl (fun q=>q.elim (fun q=>Ci (h.t q)) fun q=>BJ (k.t q)) (fun q=>BO (h.f fun s=>q (.inl s)) (k.f fun s=>q (.inr s))),?_⟩
  refine AS ⟨fun x y a b h k=>Bl (fun q=>(Classical.em x.p).elim (fun s=>BJ (k.t (q s))) fun s=>Ci (h.f s)) (fun q=>BO (h.t (Classical.byContradiction fun s=>q fun t=>(s t).elim)) (k.f fun s=>q fun _=>s)),?_⟩
  refine AS ⟨fun x y a b h k=>Bl (fun q=>(Classical.em x.p).elim (fun s=>Ci (BO (h.t s) (k.t (q.mp s)))) fun s=>BJ (BO (h.f s) (k.f fun t=>s (q.mpr t)))) (fun q=>(Classical.em x.p).elim (fun s=>Ci (BO (h.t s) (k.f fun t=>q ⟨fun _=>t,fun _=>s⟩))) fun s=>BJ (BO (h.f s) (k.t (Classical.byContradiction fun t=>q ⟨fun u=>(s u).elim,fun u=>(t u).elim⟩)))),?_⟩
  refine AS ⟨fun x y a b h k=>ei (Bt h.z DV fun v w e f=>zl e) h.n,?_⟩
  refine AS ⟨fun x y a b h k=>ei DV (Bt DV h.z fun v w e f=>BF (by rw [Dx,e,f,Int.zero_sub])),?_⟩
  exact AS ⟨fun x y a b h k=>Bl h.f fun q=>h.t (Classical.byContradiction q),fun _ _ _ _ _ _ _=>ei DV DV⟩
section rd
variable {α:Type} (v k:Nat->α) (m:Nat->α->α) (o:Nat->α->α->α) (d:α)
noncomputable def Oi (t:Nat) (s:List α):List α:=
  bif Nat.blt t 8 then v t::s
  else bif Nat.blt t 22 then o (t-8) (s.tail.headD d) (s.headD d)::s.tail.tail
  else bif Nat.blt t 25 then o (t-8) (s.headD d) d::s.tail
  else bif Nat.blt t 128 then k (t-40)::s
  else m (t-128) (s.headD d)::s.tail
noncomputable def rd:Nat->Nat->List α->List α
  | 0,_,s=>s
  | f+1,n,s=>bif Nat.beq n 0 then s else rd f (n / 256) (Oi v k m o d (n % 256) s)
end rd
noncomputable def kT (i:Nat):Nat:=List.getD [0,1,2,120,6,4,900,1000,90000,100000,1000000,16777217,3,5,20,100,16777000,16777216,80000,60,80,12,8,10,16777215,90,999999,999,400,80100,30,9,40,11,60002,63,7,14] i 0
noncomputable def d0:LD:=⟨0,0,True⟩
noncomputable def r0:LR:=term lz lz
noncomputable def vD (cn:List Nat) (cz:List Int) (i:Nat):LD:=⟨cn.getD i 0,cz.getD i 0,True⟩
noncomputable def vR (N i:Nat):LR:=term [([],bif Nat.blt i N then vu i else vk 0)] [([],vu (N+i))]
noncomputable def kD (i:Nat):LD:=⟨kT i,kT i,True⟩
noncomputable def kR (i:Nat):LR:=term [([],vk (kT i))] [([],vk (kT i))]
noncomputable def mD (i:Nat) (x:LD):LD:=⟨kT i*x.n,kT i*x.z,True⟩
noncomputable def mR (i:Nat) (x:LR):LR:=term (x.n.map fun a=>(a.1,oo (kT i) a.2)) (x.z.map fun a=>(a.1,oo (kT i) a.2))
theorem qE {l:LA} {x:Int} (k:Int) (h:Alt c l x):Alt c (l.map fun a=>(a.1,oo k a.2)) (k*x):=let ⟨a,p,q,e⟩:=h;⟨_,List.mem_map.mpr ⟨a,p,rfl⟩,q,e▸Dy k a.2⟩
noncomputable def says (n:Nat) (cn:List Nat) (cz:List Int):Prop:=((rd (vD cn cz) kD mD (fun i=>Om.getD i dO) d0 100 n []).headD d0).p
noncomputable def nats (N:Nat):List LV:=(List.range N).map vu
noncomputable def Zo (N Z n:Nat):Bool:=((rd (vR N) kR mR (fun i=>Ol.getD i rO) r0 100 n []).headD r0).f.all fun D=>fm (N+Z) (D++nats N)
noncomputable def jZ (c:List Int) (s:List LD) (r:List LR):Prop:=∀i,sH c (s.getD i d0) (r.getD i r0)
theorem zR:sH c d0 r0:=ei DV DV
theorem xF:jZ c [] []:=fun _=>zR
theorem CK {a:LD} {b:LR} {s:List LD} {r:List LR} (h:sH c a b) (k:jZ c s r):jZ c (a::s) (b::r):=fun i=>by
  cases i with
  | zero=>exact h
  | succ i=>exact k i
theorem HX {β:Type} {d:β} (s:List β) (i:Nat):s.tail.getD i d=s.getD (i+1) d:=by cases s<;>rfl
theorem EL {s:List LD} {r:List LR} (h:jZ c s r):jZ c s.tail r.tail:=fun i=>by rw [HX,HX];exact h (i+1)
theorem Ib {β:Type} {d:β} (s:List β):s.headD d=s.getD 0 d:=by cases s<;>rfl
theorem D6 {s:List LD} {r:List LR} (h:jZ c s r):sH c (s.headD d0) (r.headD r0):=by rw [Ib,Ib];exact h 0
theorem IX {cn:List Nat} {cz:List Int} (hv:∀i,sH c (vD cn cz i) (vR cn.length i)) {s:List LD} {r:List LR} (h:jZ c s r) (t:Nat) :
    jZ c (Oi (vD cn cz) kD mD (fun i=>Om.getD i dO) d0 t s) (Oi (vR cn.length) kR mR (fun i=>Ol.getD i rO) r0 t r):=by
  unfold Oi
  cases Nat.blt t 8 with
  | true=>exact CK (hv t) h
  | false=>
    cases Nat.blt t 22 with
    | true=>exact CK (z6 _ _ _ _ _ (D6 (EL h)) (D6 h)) (EL (EL h))
    | false=>
      cases Nat.blt t 25 with
      | true=>exact CK (z6 _ _ _ _ _ (D6 h) zR) (EL h)
      | false=>
        cases Nat.blt t 128 with
        | true=>exact CK (ei (BF (EI _)) (BF (EI _))) h
        | false=>exact CK (ei (qE _ (D6 h).n) (qE _ (D6 h).z)) (EL h)
theorem LB {cn:List Nat} {cz:List Int} (hv:∀i,sH c (vD cn cz i) (vR cn.length i)) (f:Nat):∀n {s:List LD} {r:List LR},jZ c s r →
    jZ c (rd (vD cn cz) kD mD (fun i=>Om.getD i dO) d0 f n s) (rd (vR cn.length) kR mR (fun i=>Ol.getD i rO) r0 f n r):=by
  induction f with
  | zero=>exact fun _ _ _ h=>h
  | succ f ih=>
    intro n s r h
    show jZ c (bif Nat.beq n 0 then s else _) (bif Nat.beq n 0 then r else _)
    cases Nat.beq n 0 with
    | true=>exact h
    | false=>exact ih _ (IX hv h _)
noncomputable def ctx (cn:List Nat) (cz:List Int):List Int:=cn.map Nat.cast++cz
theorem Iv {cz:List Int} (cn:List Nat):∀i,i<cn.length->(ctx cn cz).getD i 0=((cn.getD i 0:Nat):Int):=by
  induction cn with
  | nil=>exact fun _ h=>nomatch h
  | cons a l ih=>
    intro i h
    cases i with
    | zero=>rfl
    | succ i=>exact ih i (Nat.lt_of_succ_lt_succ h)
theorem Ny {cz:List Int} (cn:List Nat):∀i,(ctx cn cz).getD (cn.length+i) 0=cz.getD i 0:=by
  induction cn with
  | nil=>exact fun i=>congrArg (List.getD cz · 0) (Nat.zero_add i)
  | cons a l ih=>exact fun i=>(congrArg (List.getD (ctx (a::l) cz) · 0) (Nat.succ_add l.length i)).trans (ih i)
theorem yP {cn:List Nat}:∀{i:Nat},cn.length≤i->cn.getD i 0=0:=by
  induction cn with
  | nil=>exact fun _=>rfl
  | cons a l ih=>
    intro i h
    cases i with
    | zero=>exact nomatch h
    | succ i=>exact ih (Nat.le_of_succ_le_succ h)
theorem OS (cn:List Nat) (cz:List Int) (i:Nat):sH (ctx cn cz) (vD cn cz i) (vR cn.length i):=by
  refine ei (BF ?_) (BF ((sT _).trans (Ny cn i)))
  cases h:Nat.blt i cn.length with
  | true=>exact (sT i).trans (Iv cn i (Nat.le_of_ble_eq_true h))
  | false=>exact (EI 0).trans (congrArg Nat.cast (yP (Nat.le_of_not_lt fun q=>Bool.false_ne_true (h.symm.trans (Nat.ble_eq_true_of_le q)))).symm)
theorem ar (n:Nat) (cn:List Nat) (cz:List Int) (h:Zo cn.length cz.length n=true:=by kernel_rfl):says n cn cz:=by
  refine Classical.byContradiction fun q=>?_
  obtain ⟨D,hD,hs⟩:=(D6 (LB (OS cn cz) 100 n xF)).f q
  refine Nc (cn.length+cz.length) ?_ (List.all_eq_true.mp h D hD) (C3 hs fun v hv=>?_)
  · rw [ctx,List.length_append,List.length_map]
  · obtain ⟨i,hi,e⟩:=List.mem_map.mp hv
    exact e▸(sT i).symm▸(Iv cn i (List.mem_range.mp hi)).symm▸Int.natCast_nonneg _
end Mine.Li
end
section
namespace Mine
theorem aw {n m:Nat} (h:Nat.ble n m=true):n≤m:=Nat.le_of_ble_eq_true h
theorem Zl {a n m:Nat} (h:a≤n) (k:Nat.ble n m=true):a≤m:=Nat.le_trans h (aw k)
theorem Zr {a n m:Nat} (k:Nat.ble n m=true):a+n≤a+m:=Nat.add_le_add_left (aw k) a
theorem Zi {a n m:Int} (k:decide (n≤m)=true):a+n≤a+m:=Int.add_le_add_left (of_decide_eq_true k) a
theorem Zj {a n m:Int} (k:decide (n<m)=true):a+n<a+m:=Int.add_lt_add_left (of_decide_eq_true k) a
variable {a b c d e f g h:Nat} {i j k l m n o p:Int}
theorem Z0 (x:a+1+b+c≤120):a+b+c≤120:=(Li.ar 0x140c2b08020801000c2b08020801082900 [a,b,c] []) x
theorem Z1 (x:a≤b):a≤b+2:=(Li.ar 0x140c082a01000c0100 [a,b] []) x
theorem Z2:i+1+1=i+2:=Li.ar 0x11082a000829082900 [] [i]
theorem Z3 (x:6≤a):0+1≤a:=(Li.ar 0x140c000829280c002c [a] []) x
theorem Z4:i+1≤i+1+1:=Li.ar 0xf0829082900082900 [] [i]
theorem Z5 (x:a+4*b≤900) (y:c≤b):a+4*c≤900:=(Li.ar 0x14140c2e088502000c01020c2e08850100 [a,b,c] []) x y
theorem Z6 (x:a+4*(b+1+c)≤900):a≤1000:=(Li.ar 0x140c2f000c2e0885080208290100 [a,b,c] []) x
theorem Z7 (x:a<b) (y:b=c):a<c:=(Li.ar 0x14140d02000e02010d0100 [a,b,c] []) x y
theorem Z8:i≤i+1:=Li.ar 0xf08290000 [] [i]
theorem Z9 (x:i<j) (y:j≤k):i≤k:=(Li.ar 0x14140f02000f0201100100 [] [i,j,k]) x y
theorem Vm:a+b+1≤a+1+b:=Li.ar 0xc08010829000829080100 [a,b] []
theorem K9:i+2≤i+1+1:=Li.ar 0xf0829082900082a00 [] [i]
theorem NY (x:a≤90000):a+1≤100000:=(Li.ar 0x140c310829000c3000 [a] []) x
theorem Xm:a+(b+c)≤a+1+(b+c):=Li.ar 0xc080802010829000808020100 [a,b,c] []
theorem ZQ:a+b≤a+1+b:=Li.ar 0xc0801082900080100 [a,b] []
theorem UX (x:i<j) (y:k≤i):¬k=j:=(Li.ar 0x1414181101020f0002100100 [] [i,j,k]) x y
theorem OK:i≤i+1+1:=Li.ar 0xf082908290000 [] [i]
theorem OJ (x:i≤j):¬(j<i∧i≤k):=(Li.ar 0x1418120f02001000010f0100 [] [i,j,k]) x
theorem Xl (x:a+b≤1000000) (y:c=a) (z:d=b):c+d≤16777217:=(Li.ar 0x1414140c330803020e01030e00020c32080100 [a,b,c,d] []) x y z
theorem Ut (x:a≤b+1) (y:c≤a+d):c≤b+(d+1):=(Li.ar 0x14140c0808290301020c080300020c08290100 [a,b,c,d] []) x y
theorem Ug (x:i+1=j+2) (y:k≤j):j+2≠k:=(Li.ar 0x1414181102082a010f010211082a01082900 [] [i,j,k]) x y
theorem T4:i+1+1+1=i+3:=Li.ar 0x1108340008290829082900 [] [i]
theorem OI:i+1≤i+1+1+1:=Li.ar 0xf08290829082900082900 [] [i]
theorem TH:i+2≤i+1+1+1:=Li.ar 0xf08290829082900082a00 [] [i]
theorem Tq (x:i≤j∧j≤k∧k≤l) (y:¬(i<m∧m≤l)):¬(j<m∧m≤k):=(Li.ar 0x141418120f020410040118120f030410040012120f03020f02010f0100 [] [i,j,k,l,m]) x y
theorem Tc (x:a≤2) (y:i+1+(a:Int)≤j):i≤j:=(Li.ar 0x14140f01000f010816000829000c2a00 [a] [i,j]) x y
theorem SR (x:a≤2) (y:i≤j):i≤j+1+(a:Int):=(Li.ar 0x14140f081600082901000f01000c2a00 [a] [i,j]) x y
theorem ZP (x:a+1+(b+c)+d≤120):a+(b+c)+(d+1)≤120:=(Li.ar 0x140c2b0808290308080201000c2b080308080201082900 [a,b,c,d] []) x
theorem Xk (x:a+5<b):a<b:=(Li.ar 0x140d01000d01083500 [a,b] []) x
theorem Xj (x:a+20*b+100≤c):a+5<c:=(Li.ar 0x140d020835000c020837088e0100 [a,b,c] []) x
theorem Xi (x:a+(b+1)<c):a<c:=(Li.ar 0x140d02000d020808290100 [a,b,c] []) x
theorem Xh (x:a<b):b-(a+1)<b-a:=(Li.ar 0x140d09000109082900010d0100 [a,b] []) x
theorem Xg (x:a≤b) (y:¬a<b):a=b:=(Li.ar 0x14140e0100180d01000c0100 [a,b] []) x y
theorem Xf:a≤a+1+1:=Li.ar 0xc082908290000 [a] []
theorem Xe:(((a+1):Nat):Int)>0:=Li.ar 0x101608290028 [a] []
theorem OH:(((a+1):Nat):Int)-1=(a:Int):=Li.ar 0x111600092916082900 [a] []
theorem ZO (x:a<b) (y:b≤1000000) (z:c=b):min a c≤1000000:=(Li.ar 0x1414140c320a02000e01020c32010d0100 [a,b,c] []) x y z
theorem ZN (x:a<b) (y:c=b):a<c:=(Li.ar 0x14140d02000e01020d0100 [a,b,c] []) x y
theorem Xd (x:0<a):(a:Int)≠0:=(Li.ar 0x1418112816000d0028 [a] []) x
theorem Xb (x:i<j) (y:k=j) (z:k≤i):False:=(Li.ar 0x1414180f0002110102100100 [] [i,j,k]) x y z
theorem Xa:i+1+2=i+3:=Li.ar 0x11083400082a082900 [] [i]
theorem W9 (x:a≤90000):a+1+1≤100000:=(Li.ar 0x140c3108290829000c3000 [a] []) x
theorem W8 (x:i+1=j+2) (y:k≤j):k≠j+2:=(Li.ar 0x14141811082a01020f010211082a01082900 [] [i,j,k]) x y
theorem W7 (x:a≤80000):a+1+1≤100000:=(Li.ar 0x140c3108290829000c3a00 [a] []) x
theorem W6:i+1+1+1+1=i+4:=Li.ar 0x11082d00082908290829082900 [] [i]
theorem W5 (x:a≤80000):a+1+1+1≤90000:=(Li.ar 0x140c30082908290829000c3a00 [a] []) x
theorem W4:i≤i+1+1+1:=Li.ar 0xf0829082908290000 [] [i]
theorem W3 (x:i≤j) (y:j≤k∧k≤l∧l≤m):i≤k:=(Li.ar 0x14140f020012120f04030f03020f02010f0100 [] [i,j,k,l,m]) x y
theorem W2 (x:i≤j) (y:k≤l∧l≤m∧m≤i):m≤j:=(Li.ar 0x14140f010412120f00040f04030f03020f0100 [] [i,j,k,l,m]) x y
theorem W0 (x:i<j∧j≤k) (y:l≤i∧k≤m):l<j∧j≤m:=(Li.ar 0x1414120f0401100103120f04020f0003120f0201100100 [] [i,j,k,l,m]) x y
theorem WZ (x:i<j∧j≤k) (y:l≤i∨k≤m):¬(m<j∧j≤l):=(Li.ar 0x141418120f0301100104130f04020f0003120f0201100100 [] [i,j,k,l,m]) x y
theorem WY (x:i≤j∧k≤l) (y:m≤i∨l<m):m≤j∨k<m:=(Li.ar 0x1414131004020f0104131004030f0004120f03020f0100 [] [i,j,k,l,m]) x y
theorem WX (x:¬(i<j∧j≤k)):j≤i∨k<j:=(Li.ar 0x14131001020f000118120f0201100100 [] [i,j,k]) x
theorem WW (x:a+60*b≤c+d) (y:c≤e+f):a+60*b≤e+(d+f):=(Li.ar 0x14140c0808050304089301000c080504020c08030208930100 [a,b,c,d,e,f] []) x y
theorem WV (x:a≤b):a+1+1≤b+2:=(Li.ar 0x140c082a0108290829000c0100 [a,b] []) x
theorem WU (x:a≤2):i≤i+1+(a:Int):=(Li.ar 0x140f081600082900000c2a00 [a] [i]) x
theorem WT (x:a≤2) (y:i+1+(a:Int)<j):i<j:=(Li.ar 0x141410010010010816000829000c2a00 [a] [i,j]) x y
theorem WS:i+3≤i+1+1+1:=Li.ar 0xf08290829082900083400 [] [i]
theorem WR (x:i≤j) (y:j≤k):¬(k<i∧i≤l):=(Li.ar 0x141418120f03001000020f02010f0100 [] [i,j,k,l]) x y
theorem WQ (x:i<j) (y:k=j) (z:k≤i):k=l:=(Li.ar 0x1414141103020f0002110102100100 [] [i,j,k,l]) x y z
theorem WO:60*a-2+2+(2+0)≤60*(a+1)-2:=Li.ar 0xc092a930829000808282a082a092a9300 [a] []
theorem WN (x:a=b) (y:b≤2):a≤100:=(Li.ar 0x14140c37000c2a010e0100 [a,b] []) x y
theorem WM:60*a-2+0+(0+0)≤60*a:=Li.ar 0xc9300080828280828092a9300 [a] []
theorem WL (x:i+2≤j):i≤j:=(Li.ar 0x140f01000f01082a00 [] [i,j]) x
theorem WK (x:i<j) (y:j≤k) (z:l≤i):l≤k:=(Li.ar 0x1414140f02030f00030f0201100100 [] [i,j,k,l]) x y z
theorem QU (x:a+1≤b) (y:c+4*b≤900):c+1+4*a≤900:=(Li.ar 0x14140c2e0885000829020c2e088501020c01082900 [a,b,c] []) x y
theorem WJ (x:a+b+1+c≤120):a+b+(c+1)≤120:=(Li.ar 0x140c2b080829020801000c2b08020829080100 [a,b,c] []) x
theorem WH (x:i = -1):i<0:=(Li.ar 0x1410280011172900 [] [i]) x
theorem ZM (x:a=b) (y:a≤2):¬1000<b:=(Li.ar 0x1414180d012f0c2a000e0100 [a,b] []) x y
theorem ZL (x:a+1+(b+c)+d≤120):a+(b+c)+d≤120:=(Li.ar 0x140c2b080308080201000c2b080308080201082900 [a,b,c,d] []) x
theorem WG (x:a<b) (y:b=c) (z:d=c):a<d:=(Li.ar 0x1414140d03000e02030e02010d0100 [a,b,c,d] []) x y z
theorem WE (x:a≤1):b+(c+a)≤b+1+c:=(Li.ar 0x140c080208290108080002010c2900 [a,b,c] []) x
theorem WD (x:a+1+b+c≤120) (y:d≤1):a+(b+d)+c≤120:=(Li.ar 0x14140c2b080208080301000c29030c2b08020801082900 [a,b,c,d] []) x y
theorem WC (x:80≤a+80) (y:b≤1000) (z:¬c=d) (w:¬c=e) (u:¬d=e) (v:e≠f) (r:c≠f) (s:d≠f):12≤a+80:=(Li.ar 0x14141414141414140c083c003d180e0503180e0502180e0504180e0403180e0402180e03020c2f010c083c003c [a,b,c,d,e,f] []) x y z w u v r s
theorem ZK (x:0≤i∧i<1000000) (y:a=b) (z:i.toNat<a):0≤i∧i<(a:Int):=(Li.ar 0x14141412101600000f00280d0016000e0100121032000f0028 [a,b] [i]) x y z
theorem WB (x:i<0∧-1000000≤i∧-(a:Int)≤i):0≤i+(a:Int)∧i+(a:Int)<(a:Int):=(Li.ar 0x1412101600081600000f081600002812120f001716000f001732102800 [a] [i]) x
theorem ZJ (x:a+4*(b+1)+8≤1000):a<1000:=(Li.ar 0x140d2f000c2f083e088508290100 [a,b] []) x
theorem ZH (x:a+4*(b+1)+8≤c):a+1+4*b+8≤c:=(Li.ar 0x140c02083e0885010829000c02083e088508290100 [a,b,c] []) x
theorem ZG (x:a+20*(b+1)+100≤c):a+3+20*b+100≤c:=(Li.ar 0x140c020837088e010834000c020837088e08290100 [a,b,c] []) x
theorem ZF (x:a+4*(b+1)+8≤c) (y:d≤2):a+d+4*b+8≤c:=(Li.ar 0x14140c02083e0885010803000c2a030c02083e088508290100 [a,b,c,d] []) x y
theorem ZE (x:a+20*(b+1)+100≤c) (y:d≤10):a+d+20*b+100≤c:=(Li.ar 0x14140c020837088e010803000c3f030c020837088e08290100 [a,b,c,d] []) x y
theorem ZD (x:a+20*b+100≤c):a+100≤c:=(Li.ar 0x140c020837000c020837088e0100 [a,b,c] []) x
theorem Vl (x:a+(b+1)<c):a+1+b<c:=(Li.ar 0x140d0208010829000d020808290100 [a,b,c] []) x
theorem Vk (x:a≤1000):a+1≤16777216+1:=(Li.ar 0x140c0829390829000c2f00 [a] []) x
theorem Vj (x:(a:Int)<(b:Int)):a<b:=(Li.ar 0x140d01001016011600 [a,b] []) x
theorem Vi (x:a<min b c):min b c-(a+1)<min b c-a:=(Li.ar 0x140d09000a0201090829000a02010d0a020100 [a,b,c] []) x
theorem Vh (x:a≤min b c) (y:¬a<min b c):a=min b c:=(Li.ar 0x14140e0a020100180d0a0201000c0a020100 [a,b,c] []) x y
theorem Vg (x:a+b≤1000000) (y:c=a) (z:d=b):¬a+b>16777216:=(Li.ar 0x141414180d080100390e01030e00020c32080100 [a,b,c,d] []) x y z
theorem Vf (x:a+b≤1000000) (y:c≤16777217) (z:d≤16777217) (w:c=a) (u:d=b):c≤16777216:=(Li.ar 0x14141414140c39020e01030e00020c33030c33020c32080100 [a,b,c,d] []) x y z w u
theorem Ve (x:a+4*b+8≤c) (y:d≤b):a+4*d+8≤c:=(Li.ar 0x14140c02083e088503000c01030c02083e08850100 [a,b,c,d] []) x y
theorem Vd (x:a+20*b+100≤c) (y:d≤b):a+20*d+100≤c:=(Li.ar 0x14140c020837088e03000c01030c020837088e0100 [a,b,c,d] []) x y
theorem Vc (x:6≤a):0+2≤a:=(Li.ar 0x140c00082a280c002c [a] []) x
theorem Vb (x:i<0):¬i≥0:=(Li.ar 0x14180f0028102800 [] [i]) x
theorem Va (x:a+b≤999):b≤1000000:=(Li.ar 0x140c32010c43080100 [a,b] []) x
theorem U9 (x:a=b):min a b≤a:=(Li.ar 0x140c000a01000e0100 [a,b] []) x
theorem U8 (x:a+b≤999) (y:b=c) (z:d≤a+e) (w:e≤b):d≤1000000:=(Li.ar 0x141414140c32030c01040c080400030e02010c43080100 [a,b,c,d,e] []) x y z w
theorem U7 (x:0<a):0≤(a:Int):=(Li.ar 0x140f1600280d0028 [a] []) x
theorem U6 (x:0<a):0<(a:Int):=(Li.ar 0x14101600280d0028 [a] []) x
theorem U5 (x:0≤i) (y:i<(a:Int)):i.toNat<a:=(Li.ar 0x14140d001600101600000f0028 [a] [i]) x y
theorem U4 (x:0≤i) (y:j=i):j=((i.toNat:Int):Int):=(Li.ar 0x141411161600011100010f0028 [] [i,j]) x y
theorem U3 (x:a+1≤b):(((a+1):Nat):Int)≤(b:Int):=(Li.ar 0x140f1601160829000c01082900 [a,b] []) x
theorem U0 (x:a<b):(((a+1):Nat):Int)-1=(a:Int):=(Li.ar 0x141116000929160829000d0100 [a,b] []) x
theorem UZ (x:¬a+1≤b):¬(((a+1):Nat):Int)≤(b:Int):=(Li.ar 0x14180f160116082900180c01082900 [a,b] []) x
theorem UY (x:a≤90000) (y:a≤b) (z:b≤a+2):b≤100000:=(Li.ar 0x1414140c31010c082a00010c01000c3000 [a,b] []) x y z
theorem UW (x:0<a) (y:a≤1000):0<min a 3:=(Li.ar 0x14140d0a3400280c2f000d0028 [a] []) x y
theorem UU (x:0<a) (y:a≤1000):a-1-b<a:=(Li.ar 0x14140d0009010929000c2f000d0028 [a,b] []) x y
theorem UT (x:0<a) (y:a-1-b<a) (z:a≤1000) (w:b<min a 3):(a:Int)-1-(b:Int)=(((a-1-b):Nat):Int):=(Li.ar 0x1414141411160901092900091601092916000d0a3400010c2f000d0009010929000d0028 [a,b] []) x y z w
theorem US:a+(b+c)=a+b+c:=Li.ar 0xe08020801000808020100 [a,b,c] []
theorem UR (x:a+b≤3):b≤1000000:=(Li.ar 0x140c32010c34080100 [a,b] []) x
theorem NX (x:a=b) (y:i≤j-(((c+b):Nat):Int)):i≤j:=(Li.ar 0x14140f01000f091608010201000e0100 [a,b,c] [i,j]) x y
theorem UQ (x:(a:Int)+2*max i 0≤900) (y:i≤400) (z:j≤i):(a:Int)+2*max j 0≤900:=(Li.ar 0x1414140f2e08820b280116000f00010f44000f2e08820b28001600 [a] [i,j]) x y z
theorem UP (x:a+b≤3) (y:c<b) (z:d=c):d≤1000000:=(Li.ar 0x1414140c32030e02030d01020c34080100 [a,b,c,d] []) x y z
theorem UO (x:(a:Int)≤2*(i-j)) (y:(b:Int)≤2*(j-k)):(↑(a+(b+0)):Int)≤2*(i-k):=(Li.ar 0x14140f820902001608082801000f8209020116010f820901001600 [a,b] [i,j,k]) x y
theorem UN (x:a<b) (y:b≤1000):a≤1000000:=(Li.ar 0x14140c32000c2f010d0100 [a,b] []) x y
theorem UM:i+(a:Int)+1=i+(((a+1):Nat):Int):=Li.ar 0x11081608290000082908160000 [a] [i]
theorem UL (x:(a:Int)+2+2*max i 0≤900) (y:b≤2) (z:i≤400):a+b≤1000000:=(Li.ar 0x1414140c320801000f44000c2a010f2e08820b2800082a1600 [a,b] [i]) x y z
theorem UK (x:a+1≤3) (y:i≤j-(a:Int)):i≤j:=(Li.ar 0x14140f01000f09160001000c34082900 [a] [i,j]) x y
theorem UJ (x:(a:Int)+2+2*max i 0≤900) (y:b≤2) (z:i≤400) (w:j≤i):(((a+b):Nat):Int)+2*max j 0≤900:=(Li.ar 0x141414140f2e08820b2801160801000f00010f44000c2a010f2e08820b2800082a1600 [a,b] [i,j]) x y z w
theorem UI (x:1≤a) (y:a≤3) (z:i=j+1) (w:k≤j-(a:Int)):k≤i-1:=(Li.ar 0x141414140f092900020f091600010211082901000c34000c0029 [a] [i,j,k]) x y z w
theorem UH:i=i+1-1:=Li.ar 0x11092908290000 [] [i]
theorem UG (x:i=j+1) (y:j≤400) (z:(a:Int)+5*i≤1000) (w:-1000≤i) (u:a≤b) (v:b≤a+1):b≤90000:=(Li.ar 0x1414141414140c30010c082900010c01000f00172f0f2f088d0016000f44011108290100 [a,b] [i,j]) x y z w u v
theorem UE (x:(a:Int)+2*max i 0≤900) (y:-1000≤i) (z:i=j+1) (w:j≤400):a≤1000:=(Li.ar 0x141414140c2f000f440111082901000f00172f0f2e08820b28001600 [a] [i,j]) x y z w
theorem Kg (x:i=j+1):j≤i-1:=(Li.ar 0x140f092900011108290100 [] [i,j]) x
theorem NW (x:i=j+1) (y:a≤b) (z:b≤a+1) (w:b≤c) (u:c≤b+3):(c:Int)+5*j≤(a:Int)+5*i:=(Li.ar 0x14141414140f088d001600088d0116020c083401020c02010c082900010c01001108290100 [a,b,c] [i,j]) x y z w u
theorem Kf (x:i=j+1):((1:Nat):Int)≤2*(i-j):=(Li.ar 0x140f8209010016291108290100 [] [i,j]) x
theorem UD (x:i=j+1) (y:j≤400) (z:(a:Int)+5*i≤1000) (w:-1000≤i) (u:j>0):a≤100000:=(Li.ar 0x14141414140c31001001280f00172f0f2f088d0016000f44011108290100 [a] [i,j]) x y z w u
theorem NV (x:i=j+1) (y:j≤400) (z:(a:Int)+2*max i 0≤900) (w:-1000≤i) (u:j>0):(a:Int)+2*max j 0≤900:=(Li.ar 0x14141414140f2e08820b280116001001280f00172f0f2e08820b280016000f44011108290100 [a] [i,j]) x y z w u
theorem UC (x:a+b≤1000000):b≤1000000:=(Li.ar 0x140c32010c32080100 [a,b] []) x
theorem UB (x:a+b≤1000000) (y:c<b):a+min c b≤16777000:=(Li.ar 0x14140c38080a0102000d01020c32080100 [a,b,c] []) x y
theorem UA (x:a≤b):min a b=a:=(Li.ar 0x140e000a01000c0100 [a,b] []) x
theorem Uz (x:a≤1000) (y:b≤100000) (z:c≤b):c+a≤1000000:=(Li.ar 0x1414140c320800020c01020c31010c2f00 [a,b,c] []) x y z
theorem Uy (x:a+b≤c):a≤c:=(Li.ar 0x140c02000c02080100 [a,b,c] []) x
theorem Ux (x:a≤90000):a<100000:=(Li.ar 0x140d31000c3000 [a] []) x
theorem Uw (x:a≤90000):a+1+1+1≤100000:=(Li.ar 0x140c31082908290829000c3000 [a] []) x
theorem Uv:(a:Int)=(b:Int)↔a=b:=Li.ar 0x150e01001116011600 [a,b] []
theorem Uu (x:a≤100):1+a≤1000000:=(Li.ar 0x140c320800290c3700 [a] []) x
theorem Us (x:a=b) (y:a≤100):b≤1000000:=(Li.ar 0x14140c32010c37000e0100 [a,b] []) x y
theorem Ur (x:a≤100) (y:b≤90000) (z:c≤b):c+a≤1000000:=(Li.ar 0x1414140c320800020c01020c30010c3700 [a,b,c] []) x y z
theorem Uq:a+1+b=a+(b+1):=Li.ar 0xe08082901000801082900 [a,b] []
theorem Uo (x:a≤b) (y:c≤a+1):c≤b+1:=(Li.ar 0x14140c082901020c082900020c0100 [a,b,c] []) x y
theorem Um (x:a=b) (y:a≤100) (z:c=b):b≤1000000:=(Li.ar 0x1414140c32010e01020c37000e0100 [a,b,c] []) x y z
theorem Ul (x:a<b) (y:b=c) (z:d=c) (w:d≤100):min a (min b d)≤100:=(Li.ar 0x141414140c370a0a0301000c37030e02030e02010d0100 [a,b,c,d] []) x y z w
theorem Uk (x:a=a) (y:a≤80000) (z:b≤100) (w:c≤a+b):c≤1000000:=(Li.ar 0x141414140c32020c080100020c37010c3a000e0000 [a,b,c] []) x y z w
theorem Uj (x:a<b) (y:b=c) (z:d=c):a<min b d:=(Li.ar 0x1414140d0a0301000e02030e02010d0100 [a,b,c,d] []) x y z
theorem Ui (x:a=b) (y:a≤100) (z:c=b) (w:d≤80000):d+min c a≤80100:=(Li.ar 0x141414140c45080a0002030c3a030e01020c37000e0100 [a,b,c,d] []) x y z w
theorem Uh (x:i≤j):¬i=j+1:=(Li.ar 0x141811082901000f0100 [] [i,j]) x
theorem Ue (x:a=b):1+(b:Int)=(((a+1):Nat):Int):=(Li.ar 0x141116082900081601290e0100 [a,b] []) x
theorem Ud (x:1+(a:Int)=(b:Int)) (y:c=a) (z:c≤100):a≤1000000:=(Li.ar 0x1414140c32000c37020e000211160108160029 [a,b,c] []) x y z
theorem Uc (x:a=b+1) (y:b≤80000) (z:c≤b+1):c≤16777000:=(Li.ar 0x1414140c38020c082901020c3a010e08290100 [a,b,c] []) x y z
theorem Ub (x:a≤80000):a+1≤100000:=(Li.ar 0x140c310829000c3a00 [a] []) x
theorem Ua (x:i+1=j+2) (y:k≤j):j+1≠k:=(Li.ar 0x14141811020829010f010211082a01082900 [] [i,j,k]) x y
theorem T9 (x:a≤80000):a+1+1≤90000:=(Li.ar 0x140c3008290829000c3a00 [a] []) x
theorem T8 (x:i+1=j+2) (y:k+1=j+3) (z:l+1=j+4) (w:m≤j):j+4≠m:=(Li.ar 0x14141414181104082d010f010411082d010829031108340108290211082a01082900 [] [i,j,k,l,m]) x y z w
theorem T7 (x:i+1=j+2) (y:k+1=j+3) (z:l≤j):j+3≠l:=(Li.ar 0x1414141811030834010f01031108340108290211082a01082900 [] [i,j,k,l]) x y z
theorem T6 (x:a+1≤b) (y:b≤80000):a≤100000:=(Li.ar 0x14140c31000c3a010c01082900 [a,b] []) x y
theorem T5 (x:a+1≤b) (y:b≤c) (z:c≤80000) (w:d≤a):d≤80000:=(Li.ar 0x141414140c3a030c00030c3a020c02010c01082900 [a,b,c,d] []) x y z w
theorem T3 (x:i<j∧j≤k) (y:k≤l∨m≤i):¬(l<j∧j≤m):=(Li.ar 0x141418120f0401100103130f00040f0302120f0201100100 [] [i,j,k,l,m]) x y
theorem T1 (x:i<j) (y:j≤k) (z:l≤i∧i≤k∧k≤m) (w:m≤n∨o≤l):j≤n∨o<j:=(Li.ar 0x14141414131001060f0501130f03060f050412120f04020f02000f00030f0201100100 [] [i,j,k,l,m,n,o]) x y z w
theorem TZ (x:i≤j∧k≤l):i≤j:=(Li.ar 0x140f0100120f03020f0100 [] [i,j,k,l]) x
theorem TY (x:i≤j∧k≤l):k≤l:=(Li.ar 0x140f0302120f03020f0100 [] [i,j,k,l]) x
theorem TX (x:i≤j∧j≤k∧k≤l) (y:m≤i∧l≤n):m≤j∧j≤k∧k≤n:=(Li.ar 0x141412120f05020f02010f0104120f05030f000412120f03020f02010f0100 [] [i,j,k,l,m,n]) x y
theorem TV (x:i≤j∧j≤k∧k≤l) (y:l≤m∨n≤i) (z:m≤o∧o≤p∧p≤n):k≤o∨p≤j:=(Li.ar 0x141414130f01070f060212120f05070f07060f0604130f00050f040312120f03020f02010f0100 [] [i,j,k,l,m,n,o,p]) x y z
theorem TU (x:a+60*b≤c+d) (y:c+60*e≤f+g):a+60*(e+b)≤f+(g+d):=(Li.ar 0x14140c08080306050893080104000c080605089304020c08030208930100 [a,b,c,d,e,f,g] []) x y
theorem TS (x:¬i≤j):j<i:=(Li.ar 0x14100001180f0100 [] [i,j]) x
theorem TR (x:a+60*b≤c+d) (y:d≤e):a+60*b≤c+e:=(Li.ar 0x14140c080402089301000c04030c08030208930100 [a,b,c,d,e] []) x y
theorem TP:i<j∧j≤i+(a:Int)∨j=i+((a:Int)+1)↔i<j∧j≤i+((a:Int)+1):=Li.ar 0x15120f08082916000001100100131108082916000001120f0816000001100100 [a] [i,j]
theorem TO (x:i<j∧j≤i+(a:Int)) (y:k=i+((a:Int)+1)):j≠k:=(Li.ar 0x1414181102011108082916000002120f0816000001100100 [a] [i,j,k]) x y
theorem TN:i<i+1+1:=Li.ar 0x10082908290000 [] [i]
theorem TM:i+1+1≤i+1+1+1:=Li.ar 0xf082908290829000829082900 [] [i]
theorem TL (x:i=j) (y:i=k+1+1+1) (z:l≤k):¬k+2=l:=(Li.ar 0x141414181103082a020f0203110829082908290200110100 [] [i,j,k,l]) x y z
theorem TK:i+2=i+1+1:=Li.ar 0x110829082900082a00 [] [i]
theorem TJ (x:i+1+(a:Int)≤j) (y:i+1<k∧k≤i+1+(a:Int)):i<k∧k≤j∧k≤i+1+(a:Int):=(Li.ar 0x141412120f081600082900020f0102100200120f0816000829000210020829000f01081600082900 [a] [i,j,k]) x y
theorem TG (x:0≤i) (y:i≤j) (z:k=j+1+1+1) (w:k=l):0≤j+3:=(Li.ar 0x141414140f083401281103021108290829082901020f01000f0028 [] [i,j,k,l]) x y z w
theorem TF (x:a≤2) (y:i≤j) (z:k≤l∨j<k) (w:m<k∧k≤i∧k≤m+1+(a:Int)) (u:l≤m):False:=(Li.ar 0x14141414180f040312120f081600082904020f0002100204131002010f03020f01000c2a00 [a] [i,j,k,l,m]) x y z w u
theorem TC (x:i=j) (y:i=k+1+1+1) (z:l≤k):l≠k+3:=(Li.ar 0x1414141811083402030f0203110829082908290200110100 [] [i,j,k,l]) x y z
theorem TB:60*a-2+3+(60*b-2+0)+(2+0)≤60*(a+b+1)-2:=Li.ar 0xc092a9308290801000808282a080828092a93010834092a9300 [a,b] []
theorem Tz:60*a-2+2+(60*b-2+0)≤60*(a+b+1)-2:=Li.ar 0xc092a930829080100080828092a9301082a092a9300 [a,b] []
theorem Tx:60*a-2+2+(2+0)+(2+0)≤60*(a+1)-2:=Li.ar 0xc092a930829000808282a0808282a082a092a9300 [a] []
theorem Tv:60*a-2+(60*b+0)≤60*(a+b):=Li.ar 0xc930801000808289301092a9300 [a,b] []
theorem Tu (x:i≤j) (y:k≤i∨l<k) (z:m≤l):k≤j∨m<k:=(Li.ar 0x141414131002040f01020f0304131002030f00020f0100 [] [i,j,k,l,m]) x y z
theorem Tt (x:i<j∧j≤k) (y:k≤l) (z:m≤i):m<j∧j≤l:=(Li.ar 0x141414120f03011001040f00040f0302120f0201100100 [] [i,j,k,l,m]) x y z
theorem Ts (x:a=b) (y:b≤2) (z:c=b):a≤100:=(Li.ar 0x1414140c37000e01020c2a010e0100 [a,b,c] []) x y z
theorem Tp (x:a=b) (y:c=b):a≤c:=(Li.ar 0x14140c02000e01020e0100 [a,b,c] []) x y
theorem To (x:i≤j):¬(j+1<i∧i≤j+1+(a:Int)):=(Li.ar 0x1418120f0816000829010010000829010f0100 [a] [i,j]) x
theorem Tn (x:a≤2) (y:i+1+(a:Int)≤j) (z:k≤i):k≤j∨l<k:=(Li.ar 0x141414131002030f01020f00020f010816000829000c2a00 [a] [i,j,k,l]) x y z
theorem Tj (x:i+1<j∧j≤i+1+(a:Int)):j≤i+1+(a:Int):=(Li.ar 0x140f08160008290001120f081600082900011001082900 [a] [i,j]) x
theorem Ti (x:i+1+(a:Int)<j):¬(i+1<j∧j≤i+1+(a:Int)):=(Li.ar 0x1418120f0816000829000110010829001001081600082900 [a] [i,j]) x
theorem Th (x:i≤j):i≤j∨k<i:=(Li.ar 0x14131000020f01000f0100 [] [i,j,k]) x
theorem Tg (x:a=b) (y:b≤2) (z:c=b) (w:d≤2):min d a≤2:=(Li.ar 0x141414140c2a0a00030c2a030e01020c2a010e0100 [a,b,c,d] []) x y z w
theorem Tf (x:i+1+(a:Int)≤j) (y:k≤i∨j<k):¬(i+1<k∧k≤i+1+(a:Int)):=(Li.ar 0x141418120f081600082900021002082900131002010f00020f01081600082900 [a] [i,j,k]) x y
theorem Te (x:i+1+(a:Int)≤j) (y:i+1<k∧k≤i+1+(a:Int)):i<k∧k≤j:=(Li.ar 0x1414120f0102100200120f0816000829000210020829000f01081600082900 [a] [i,j,k]) x y
theorem Td (x:a≤2):b+a+1≤b+3:=(Li.ar 0x140c08340108290800010c2a00 [a,b] []) x
theorem Tb (x:a≤2) (y:i+1+(a:Int)≤j) (z:k≤i):¬(j<k∧k≤l):=(Li.ar 0x14141418120f03021002010f00020f010816000829000c2a00 [a] [i,j,k,l]) x y z
theorem Ta:60*a+3+(60*b-2+3)≤60*(b+1+a+1)-2:=Li.ar 0xc092a9308290800082901080834092a930108349300 [a,b] []
theorem S9 (x:i+1<j∧j≤i+1+(a:Int)) (y:j≤i):False:=(Li.ar 0x14180f0001120f081600082900011001082900 [a] [i,j]) x y
theorem S7:a+1+1≤a+4:=Li.ar 0xc082d000829082900 [a] []
theorem SY (x:0≤i) (y:i≤j) (z:k+1=j+2) (w:l=j+1+1):0≤j+1:=(Li.ar 0x141414140f082901281108290829010311082a010829020f01000f0028 [] [i,j,k,l]) x y z w
theorem SX:60*a-2+4+(60*b+0)+(4+0)≤60*(a+b+1)-2:=Li.ar 0xc092a9308290801000808282d0808289301082d092a9300 [a,b] []
theorem SW:60*a-2+0≤60*a:=Li.ar 0xc93000828092a9300 [a] []
theorem SV:a+1+1+4≤a+11:=Li.ar 0xc084900082d0829082900 [a] []
theorem SU (x:i+1=j+2) (y:k≤j):¬j+1=k:=(Li.ar 0x14141811020829010f010211082a01082900 [] [i,j,k]) x y
theorem SS (x:i+1=j+2) (y:k≤j):¬j+2=k:=(Li.ar 0x1414181102082a010f010211082a01082900 [] [i,j,k]) x y
theorem SQ (x:i+1=j+2) (y:k+1=j+4) (z:l=j+1+1+1+1) (w:m≤j):¬j+1=m:=(Li.ar 0x141414141811040829010f0104110829082908290829010311082d0108290211082a01082900 [] [i,j,k,l,m]) x y z w
theorem SP (x:i+1=j+2) (y:k+1=j+4) (z:l=j+1+1+1+1) (w:m≤j):¬j+2=m:=(Li.ar 0x14141414181104082a010f0104110829082908290829010311082d0108290211082a01082900 [] [i,j,k,l,m]) x y z w
theorem SO (x:i+1=j+2) (y:k+1=j+4) (z:l=j+1+1+1+1) (w:m≤j):¬j+4=m:=(Li.ar 0x14141414181104082d010f0104110829082908290829010311082d0108290211082a01082900 [] [i,j,k,l,m]) x y z w
theorem SN:i+4≤i+1+1+1+1:=Li.ar 0xf082908290829082900082d00 [] [i]
theorem SM:i+3≤i+1+1+1+1:=Li.ar 0xf082908290829082900083400 [] [i]
theorem SK:i+2≤i+1+1+1+1:=Li.ar 0xf082908290829082900082a00 [] [i]
theorem SJ (x:i+1=j+2) (y:k+1=j+3) (z:l=j+1+1+1) (w:m≤j):¬j+1=m:=(Li.ar 0x141414141811040829010f01041108290829082901031108340108290211082a01082900 [] [i,j,k,l,m]) x y z w
theorem SI (x:i+1=j+2) (y:k+1=j+3) (z:l=j+1+1+1) (w:m≤j):¬j+2=m:=(Li.ar 0x14141414181104082a010f01041108290829082901031108340108290211082a01082900 [] [i,j,k,l,m]) x y z w
theorem SH (x:i+1=j+2) (y:k+1=j+3) (z:l=j+1+1+1) (w:m≤j):¬j+3=m:=(Li.ar 0x141414141811040834010f01041108290829082901031108340108290211082a01082900 [] [i,j,k,l,m]) x y z w
theorem SG (x:a+60*b≤c+d) (y:e≤a+f):e+60*b≤c+(d+f):=(Li.ar 0x14140c0808050302089301040c080500040c08030208930100 [a,b,c,d,e,f] []) x y
theorem SF (x:i+2≤j) (y:k=i+1):i<k∧k≤j:=(Li.ar 0x1414120f010210020011082900020f01082a00 [] [i,j,k]) x y
theorem SE (x:i+2≤j) (y:k=i+2):i<k∧k≤j:=(Li.ar 0x1414120f010210020011082a00020f01082a00 [] [i,j,k]) x y
theorem SD (x:i+2<j∧j≤k) (y:l=j):i<l∧l≤k:=(Li.ar 0x1414120f0203100300110103120f02011001082a00 [] [i,j,k,l]) x y
theorem SA:¬i+2=i+1:=Li.ar 0x1811082900082a00 [] [i]
theorem Sz (x:i=j+1) (y:i≤k) (z:k≤j):i=l:=(Li.ar 0x1414141103000f01020f02001108290100 [] [i,j,k,l]) x y z
theorem Sy (x:i=j+1) (y:i≤j):False:=(Li.ar 0x14180f01001108290100 [] [i,j]) x y
theorem Sw (x:i=j+2) (y:i≤k) (z:k≤j):i=l:=(Li.ar 0x1414141103000f01020f020011082a0100 [] [i,j,k,l]) x y z
theorem Sv (x:i=j+2) (y:i≤j):False:=(Li.ar 0x14180f010011082a0100 [] [i,j]) x y
theorem Su (x:i+2≤j) (y:j<k) (z:k=i+2):False:=(Li.ar 0x14141811082a00021002010f01082a00 [] [i,j,k]) x y z
theorem Ss (x:i≤j) (y:j≤k) (z:k≤l):¬(l<i∧i≤m):=(Li.ar 0x14141418120f04001000030f03020f02010f0100 [] [i,j,k,l,m]) x y z
theorem Sr:60*a-2+2+(11+0)+60*b+60*c≤60*a+2+11+60*b+60*c:=Li.ar 0xc0893020893010849082a930008930208930108082849082a092a9300 [a,b,c] []
theorem Sq (x:i+2≤j) (y:j≤k) (z:k≤l):i+2≤l:=(Li.ar 0x1414140f03082a000f03020f02010f01082a00 [] [i,j,k,l]) x y z
theorem NU (x:i+2<j∧j≤k):¬j=i+1:=(Li.ar 0x14181108290001120f02011001082a00 [] [i,j,k]) x
theorem NT (x:i+2<j∧j≤k):¬j=i+2:=(Li.ar 0x141811082a0001120f02011001082a00 [] [i,j,k]) x
theorem So:60*a+2+11+60*b+60*c+1≤60*(a+b+c+1)-2:=Li.ar 0xc092a930829080208010008290893020893010849082a9300 [a,b,c] []
theorem Sn (x:i<j∧j≤k) (y:k≤l) (z:l≤m):j≤m:=(Li.ar 0x1414140f04010f04030f0302120f0201100100 [] [i,j,k,l,m]) x y z
theorem Sl (x:i<j∧j≤k) (y:l≤i) (z:m≤l):m<j:=(Li.ar 0x1414141001040f03040f0003120f0201100100 [] [i,j,k,l,m]) x y z
theorem Sk (x:i<j∧j≤k) (y:k≤l) (z:l≤m):i<j∧j≤m:=(Li.ar 0x141414120f04011001000f04030f0302120f0201100100 [] [i,j,k,l,m]) x y z
theorem Sj (x:i+2≤j) (y:j≤k):i≤k:=(Li.ar 0x14140f02000f02010f01082a00 [] [i,j,k]) x y
theorem Si (x:i<j) (y:j≤k) (z:k≤l∨m≤i):j≤l∨m<j:=(Li.ar 0x141414131001040f0301130f00040f03020f0201100100 [] [i,j,k,l,m]) x y z
theorem Sg (x:0≤i∧i≤j∧j≤k) (y:i≤l∧l≤m∧m≤j):0≤l:=(Li.ar 0x14140f032812120f01040f04030f030012120f02010f01000f0028 [] [i,j,k,l,m]) x y
theorem Sf (x:0≤i∧i≤j∧j≤k) (y:i≤l∧l≤m∧m≤j):m≤k:=(Li.ar 0x14140f020412120f01040f04030f030012120f02010f01000f0028 [] [i,j,k,l,m]) x y
theorem Se (x:0≤i∧i≤j∧j≤k) (y:i<l∧l≤j):0<l∧l≤k:=(Li.ar 0x1414120f0203100328120f010310030012120f02010f01000f0028 [] [i,j,k,l]) x y
theorem Sd (x:i<j) (y:k≤i):k≠j:=(Li.ar 0x1414181101020f0002100100 [] [i,j,k]) x y
theorem R9 (x:i≤j∧j≤k∧k≤l) (y:m≤i∨l≤n):m≤j∨k≤n:=(Li.ar 0x1414130f05020f0104130f05030f000412120f03020f02010f0100 [] [i,j,k,l,m,n]) x y
theorem R8 (x:0<a) (y:b+60*(c+a)≤d) (z:e+60*f≤b+1+(60*a-2)) (w:g=b+1):e+60*(c+f)≤d:=(Li.ar 0x141414140c030893080502040e082901060c08092a9300082901089305040c030893080002010d0028 [a,b,c,d,e,f,g] []) x y z w
theorem R7 (x:a+1≤b) (y:c=a+1) (z:d≤a+(e+1)):d≤b+e:=(Li.ar 0x1414140c080401030c0808290400030e082900020c01082900 [a,b,c,d,e] []) x y z
theorem R6 (x:0≤i) (y:j=i+1+1):0≤i+2:=(Li.ar 0x14140f082a0028110829082900010f0028 [] [i,j]) x y
theorem R5 (x:a≤1000):2+60*(a+0)≤60002:=(Li.ar 0x140c4a08930828002a0c2f00 [a] []) x
theorem R4 (x:a+1+4*b≤900) (y:c≤a+1):c+4*b≤900:=(Li.ar 0x14140c2e088501020c082900020c2e088501082900 [a,b,c] []) x y
theorem RZ (x:a+4*b≤900):a≤999:=(Li.ar 0x140c43000c2e08850100 [a,b] []) x
theorem RY (x:a+4*b≤900) (y:c+d+1≤b) (z:e≤a+1):e+4*(c+d)≤900:=(Li.ar 0x1414140c2e0885080302040c082900040c0108290803020c2e08850100 [a,b,c,d,e] []) x y z
theorem wB (x:a+4*b≤900):a≤1000:=(Li.ar 0x140c2f000c2e08850100 [a,b] []) x
theorem RX (x:a+4*b≤900) (y:c+d+1≤b):a+4*(c+d)≤900:=(Li.ar 0x14140c2e0885080302000c0108290803020c2e08850100 [a,b,c,d] []) x y
theorem RW (x:0≤i) (y:j=i):0≤j:=(Li.ar 0x14140f01281100010f0028 [] [i,j]) x y
theorem RV (x:a+4*(b+1+(c+d))≤900) (y:e≤2):a+e≤999:=(Li.ar 0x14140c430804000c2a040c2e08850808030208290100 [a,b,c,d,e] []) x y
theorem RU (x:a=b) (y:a≤2) (z:c=b):min a c≤2:=(Li.ar 0x1414140c2a0a02000e01020c2a000e0100 [a,b,c] []) x y z
theorem RT (x:a+4*(b+1+(c+d))≤900) (y:e≤2) (z:f≤a+e) (w:g≤f+1):g+4*(b+(c+d))≤900:=(Li.ar 0x141414140c2e08850808030201060c082905060c080400050c2a040c2e08850808030208290100 [a,b,c,d,e,f,g] []) x y z w
theorem RS (x:a+1≤b) (y:c+4*b≤900):c+4*a≤900:=(Li.ar 0x14140c2e088500020c2e088501020c01082900 [a,b,c] []) x y
theorem RQ (x:a+1≤b) (y:c+4*b≤900) (z:d≤c+1):d+4*a≤900:=(Li.ar 0x1414140c2e088500030c082902030c2e088501020c01082900 [a,b,c,d] []) x y z
theorem RP:a+1+(b+1)=a+1+1+b:=Li.ar 0xe0801082908290008082901082900 [a,b] []
theorem RO (x:a+b+120≤120):a=0:=(Li.ar 0x140e28000c2b082b080100 [a,b] []) x
theorem RN (x:a≤b+2):a≤b+2+2:=(Li.ar 0x140c082a082a01000c082a0100 [a,b] []) x
theorem RM (x:a≤2) (y:b≤900) (z:c≤b):c+a≤1000:=(Li.ar 0x1414140c2f0800020c01020c2e010c2a00 [a,b,c] []) x y z
theorem RL (x:a=b) (y:a≤2):min a b≤2:=(Li.ar 0x14140c2a0a01000c2a000e0100 [a,b] []) x y
theorem RK (x:a≤2) (y:b≤c) (z:d≤b+a):d≤c+2:=(Li.ar 0x1414140c082a02030c080001030c02010c2a00 [a,b,c,d] []) x y z
theorem RJ (x:a≤b+1) (y:b≤c+2):a≤c+2+2:=(Li.ar 0x14140c082a082a02000c082a02010c08290100 [a,b,c] []) x y
theorem RI (x:a≤900) (y:b≤a+2):b≤1000:=(Li.ar 0x14140c2f010c082a00010c2e00 [a,b] []) x y
theorem RH (x:a+1+b≤3):a≤1000:=(Li.ar 0x140c2f000c340801082900 [a,b] []) x
theorem RG (x:a+1+b≤3):b≤1000:=(Li.ar 0x140c2f010c340801082900 [a,b] []) x
theorem RF (x:a≤2):1+a≤3:=(Li.ar 0x140c340800290c2a00 [a] []) x
theorem RE (x:2*(a+1)+b≤900):b≤900:=(Li.ar 0x140c2e010c2e080182082900 [a,b] []) x
theorem RD (x:2*(a+1)+b≤900):2*a+(b+2)≤900:=(Li.ar 0x140c2e08082a0182000c2e080182082900 [a,b] []) x
theorem RC:a+2+b=a+b+2:=Li.ar 0xe082a0801000801082a00 [a,b] []
theorem RB:a+2+b=a+b+1+1:=Li.ar 0xe082908290801000801082a00 [a,b] []
theorem RA:a+1+2+b=a+2+b+1:=Li.ar 0xe08290801082a000801082a082900 [a,b] []
theorem Rz (x:80≤a):a=a-80+80:=(Li.ar 0x140e083c093c00000c003c [a] []) x
theorem Ry (x:a≤63):min 63 a=a:=(Li.ar 0x140e000a004b0c4b00 [a] []) x
theorem Rx (x:80≤a+80) (y:b≤1000) (z:¬c=d) (w:¬c=e) (u:¬d=e) (v:e≠f) (r:c≠f) (s:d≠f):7≤a+80:=(Li.ar 0x14141414141414140c083c004c180e0503180e0502180e0504180e0403180e0402180e03020c2f010c083c003c [a,b,c,d,e,f] []) x y z w u v r s
theorem Rw (x:a+5<b):a+1<b:=(Li.ar 0x140d010829000d01083500 [a,b] []) x
theorem Rv (x:3≤i+2*j+(a:Int)∧i≤j-(a:Int)) (y:k≤i-1) (z:i-1≤k∨0≤k+2*(i-1)):3≤k+2*j+(((a+1):Nat):Int)∧k≤j-(((a+1):Nat):Int):=(Li.ar 0x141414120f091608290001020f08160829000882010234130f088209290002280f020929000f09290002120f09160001000f0816000882010034 [a] [i,j,k]) x y z
theorem Ru (x:a=0):(a:Int)≤2*(i-i):=(Li.ar 0x140f8209000016000e2800 [a] [i]) x
theorem Rt (x:3≤i+2*j+(((a+b):Nat):Int)) (y:i≤j-(((a+b):Nat):Int)) (z:j≤400) (w:a+c≤3) (u:b<c):-1000≤i:=(Li.ar 0x14141414140f00172f0d02010c340802000f44010f091608010001000f08160801000882010034 [a,b,c] [i,j]) x y z w u
theorem Rr (x:3≤i+2*j+(a:Int)) (y:a≤3) (z:k=j+1):0≤i+2*(k-1):=(Li.ar 0x1414140f0882092902002811082901020c34000f0816000882010034 [a] [i,j,k]) x y z
theorem Rq (x:(a:Int)+5*i≤(((b+c):Nat):Int)+5*j) (y:c≤5) (z:k=j+1):(a:Int)+5*i≤(b:Int)+5*k:=(Li.ar 0x1414140f088d021601088d00160011082901020c35020f088d0116080201088d001600 [a,b,c] [i,j,k]) x y z
theorem Rp (x:(((a+(b+(c+0))):Nat):Int)≤2*(i-j)) (y:k=i+1):(((a+b+c+1):Nat):Int)≤2*(k-j):=(Li.ar 0x14140f82090102160829080208010011082900020f820901001608080828020100 [a,b,c] [i,j,k]) x y
theorem Ro (x:(((a+b):Nat):Int)≤2*(i-j)) (y:k=i+1):(((a+b+1):Nat):Int)≤2*(k-j):=(Li.ar 0x14140f8209010216082908010011082900020f8209010016080100 [a,b] [i,j,k]) x y
theorem NS (x:(((a+(b+0)):Nat):Int)≤2*(i-j)) (y:k=i+1):(((a+b+1):Nat):Int)≤2*(k-j):=(Li.ar 0x14140f8209010216082908010011082900020f82090100160808280100 [a,b] [i,j,k]) x y
theorem NR (x:(a:Int)≤2*(i-j)) (y:k=i+1):(((a+1):Nat):Int)≤2*(k-j):=(Li.ar 0x14140f820901021608290011082900020f820901001600 [a] [i,j,k]) x y
theorem Rn (x:(((a+0):Nat):Int)≤2*(i-j)) (y:k=i+1):(((a+1):Nat):Int)≤2*(k-j):=(Li.ar 0x14140f820901021608290011082900020f8209010016082800 [a] [i,j,k]) x y
theorem Rm (x:(a:Int)≤2*(i-j)) (y:(b:Int)≤2*(j-k)) (z:l=i+1):(((a+1+b+1):Nat):Int)≤2*(l-k):=(Li.ar 0x1414140f82090203160829080108290011082900030f8209020116010f820901001600 [a,b] [i,j,k,l]) x y z
theorem Rl (x:i=j+1) (z:(a:Int)+5*i≤1000) (u:0<j):a+1≤100000:=(Li.ar 0x1414140c310829001001280f2f088d0016001108290100 [a] [i,j]) x z u
theorem sh (x:i=j+1) (y:b≤5) (z:(a:Int)+5*i≤1000):(((a+b):Nat):Int)+5*j≤1000:=(Li.ar 0x1414140f2f088d01160800010f2f088d0016010c35001108290100 [b,a] [i,j]) x y z
theorem Rk (x:i=j+1) (z:(a:Int)+5*i≤1000) (w:(b:Int)+5*k≤(((a+2):Nat):Int)+5*j):(b:Int)+5*k≤1000:=(Li.ar 0x1414140f2f088d0216010f088d0116082a00088d0216010f2f088d0016001108290100 [a,b] [i,j,k]) x z w
theorem Rj (x:i=j+1) (z:(a:Int)+2*max i 0≤900) (u:0<j):(a:Int)+2+2*max j 0≤900:=(Li.ar 0x1414140f2e08820b2801082a16001001280f2e08820b280016001108290100 [a] [i,j]) x z u
theorem Ri (x:0<j):-1000≤j:=(Li.ar 0x140f00172f100028 [] [j]) x
theorem Ke (x:i=j+1):i-1≤j:=(Li.ar 0x140f010929001108290100 [] [i,j]) x
theorem Rh (x:i=j+1):(((a+2):Nat):Int)+5*j≤(a:Int)+5*i:=(Li.ar 0x140f088d001600088d0116082a001108290100 [a] [i,j]) x
theorem sg (x:0<j):3≤j+2*j+((0:Nat):Int)∧j≤j-((0:Nat):Int):=(Li.ar 0x14120f09162800000f0816280882000034100028 [] [j]) x
theorem Rg (x:a=1+b) (y:b<3):a≤1000000:=(Li.ar 0x14140c32000d34010e08012900 [a,b] []) x y
theorem Kd (x:a<3) (y:b=0):b+(1+a)≤3:=(Li.ar 0x14140c3408080029010e28010d3400 [a,b] []) x y
theorem NQ (x:a<3) (y:b=1):b+a≤3:=(Li.ar 0x14140c340800010e29010d3400 [a,b] []) x y
theorem Rf (x:3≤i+2*j+(a:Int)) (y:i≤j-(a:Int)) (z:j≤400) (w:a+1≤3):-1000≤i:=(Li.ar 0x141414140f00172f0c340829000f44010f09160001000f0816000882010034 [a] [i,j]) x y z w
theorem Rd (x:a=0):1≤a+1+b:=(Li.ar 0x140c0801082900290e2800 [a,b] []) x
theorem NP:i-1+1=i:=Li.ar 0x11000829092900 [] [i]
theorem Rc (x:i≤((0:Nat):Int)):i-1≤400:=(Li.ar 0x140f440929000f162800 [] [i]) x
theorem Rb (x:i≤((0:Nat):Int)) (y:1≤i-1):False:=(Li.ar 0x14180f092900290f162800 [] [i]) x y
theorem Ra (x:a+1≤60) (y:i≤(((a+1):Nat):Int)):i-1≤400:=(Li.ar 0x14140f440929000f16082900000c3b082900 [a] [i]) x y
theorem Q9 (x:i≤(((a+1):Nat):Int)) (y:j≤i-1):j≤(a:Int):=(Li.ar 0x14140f1600010f092900010f1608290000 [a] [i,j]) x y
theorem Q8 (x:a=0):1≤a+(1+b):=(Li.ar 0x140c0808012900290e2800 [a,b] []) x
theorem Q7 (x:(14:Int)-1≤i∨0≤i+2*(14-1)) (y:(a:Int)≤2*(14-i)):1+1+a+1≤1000:=(Li.ar 0x14140c2f082908000829290f8209004d1600130f088209294d00280f0009294d [a] [i]) x y
theorem Q6 (x:3<(a:Int)):(3:Int)=(((min a 3):Nat):Int):=(Li.ar 0x1411160a34003410160034 [a] []) x
theorem Q5 (x:¬3<(a:Int)):(a:Int)=(((min a 3):Nat):Int):=(Li.ar 0x1411160a340016001810160034 [a] []) x
theorem Q4 (x:a+20*d+100≤c) (y:b+1≤90):a+(b+1)<c:=(Li.ar 0x14140d0208082903000c410829030c020837088e0100 [a,d,c,b] []) x y
theorem Q3 (x:i≤j∨k<i) (y:j≤l):i≤l+1+(a:Int)∨k<i:=(Li.ar 0x1414131000020f081600082903000f0301131000020f0100 [a] [i,j,k,l]) x y
theorem NO (x:i≤j):i≤j+1+1+1:=(Li.ar 0x140f08290829082901000f0100 [] [i,j]) x
theorem Q2 (x:j≤k) (y:l≤j) (z:i≤l):i≤k+1+1+1:=(Li.ar 0x1414140f08290829082901030f02030f00020f0100 [] [j,k,l,i]) x y z
theorem Q1 (x:i≤j) (y:k≤i) (z:j+3≤k):False:=(Li.ar 0x1414180f020834010f00020f0100 [] [i,j,k]) x y z
theorem Q0 (x:a≤d+1) (y:d=c+1+1+1):a+60*(b+0)≤c+(60*(b+1)-2):=(Li.ar 0x14140c08092a93082903020893082803000e08290829082902010c08290100 [a,d,c,b] []) x y
theorem QZ (x:j=i+1+1):i+2=j:=(Li.ar 0x141100082a0111082908290100 [] [j,i]) x
theorem QY (x:i≤j) (y:j+2=i):False:=(Li.ar 0x14181100082a010f0100 [] [i,j]) x y
theorem QX (x:a=b+2):b≤a:=(Li.ar 0x140c00010e082a0100 [a,b] []) x
theorem QW (x:a=b+2):b+c≤a+1+c:=(Li.ar 0x140c08020829000802010e082a0100 [a,b,c] []) x
theorem QV (x:a+1+c+d≤120) (y:a=b+2):b+c+d≤120:=(Li.ar 0x14140c2b08020801030e082a03000c2b08020801082900 [a,c,d,b] []) x y
theorem Hg (x:a=b+1):b<a:=(Li.ar 0x140d00010e08290100 [a,b] []) x
theorem wA (x:a=b+1):b+c+1≤a+c:=(Li.ar 0x140c08020008290802010e08290100 [a,b,c] []) x
theorem Gq (x:a+c+d≤120) (y:a=b+1):b+c+d≤120:=(Li.ar 0x14140c2b08020801030e082903000c2b0802080100 [a,c,d,b] []) x y
theorem HI (x:a=b+1):b+c≤a+c:=(Li.ar 0x140c0802000802010e08290100 [a,b,c] []) x
theorem NN (x:a+c+d≤120) (y:a=b+1):b+c+(d+1)≤120:=(Li.ar 0x14140c2b080829020801030e082903000c2b0802080100 [a,c,d,b] []) x y
end Mine
end
section
namespace Mine
theorem xA {p0:Prop} {p1:Prop} {G:Prop} (h:p0∧p1) (k:p0->p1->G):G:=by obtain ⟨a0,a1⟩:=h;exact k a0 a1
theorem xE.{u0} {α0:Sort u0} {p0:α0->Prop} {G:Prop} (h:∃x0:α0,p0 x0) (k:∀x0:α0,p0 x0->G):G:=by obtain ⟨a0,a1⟩:=h;exact k a0 a1
theorem j4 {p0:Prop} {p1:Prop} {p2:Prop} {G:Prop} (h:p0∧p1∧p2) (k:p0->p1->p2->G):G:=by obtain ⟨a0,a1,a2⟩:=h;exact k a0 a1 a2
theorem bq.{u0} {α0:Sort u0} {p0:α0->Prop} {p1:α0->Prop} {G:Prop} (h:∃x0:α0,p0 x0∧p1 x0) (k:∀x0:α0,p0 x0->p1 x0->G):G:=by obtain ⟨a0,a1,a2⟩:=h;exact k a0 a1 a2
theorem xk.{u0,u1} {α0:Sort u0} {α1:Sort u1} {p0:α0->α1->Prop} {G:Prop} (h:∃x0:α0,∃x1:α1,p0 x0 x1) (k:∀x0:α0,∀x1:α1,p0 x0 x1->G):G:=by obtain ⟨a0,a1,a2⟩:=h;exact k a0 a1 a2
theorem Dw {p0:Prop} {p1:Prop} {p2:Prop} {p3:Prop} {G:Prop} (h:p0∧p1∧p2∧p3) (k:p0->p1->p2->p3->G):G:=by obtain ⟨a0,a1,a2,a3⟩:=h;exact k a0 a1 a2 a3
theorem o8.{u0} {α0:Sort u0} {p0:Prop} {p1:α0->Prop} {p2:α0->Prop} {G:Prop} (h:p0∧∃x0:α0,p1 x0∧p2 x0) (k:p0->∀x0:α0,p1 x0->p2 x0->G):G:=by obtain ⟨a0,a1,a2,a3⟩:=h;exact k a0 a1 a2 a3
theorem dR.{u0} {α0:Sort u0} {p0:α0->Prop} {p1:α0->Prop} {p2:α0->Prop} {G:Prop} (h:∃x0:α0,p0 x0∧p1 x0∧p2 x0) (k:∀x0:α0,p0 x0->p1 x0->p2 x0->G):G:=by obtain ⟨a0,a1,a2,a3⟩:=h;exact k a0 a1 a2 a3
theorem IQ.{u0,u1} {α0:Sort u0} {α1:Sort u1} {p0:α0->α1->Prop} {p1:α0->α1->Prop} {G:Prop} (h:∃x0:α0,∃x1:α1,p0 x0 x1∧p1 x0 x1) (k:∀x0:α0,∀x1:α1,p0 x0 x1->p1 x0 x1->G):G:=by obtain ⟨a0,a1,a2,a3⟩:=h;exact k a0 a1 a2 a3
theorem FE {p0:Prop} {p1:Prop} {p2:Prop} {p3:Prop} {p4:Prop} {G:Prop} (h:p0∧p1∧p2∧p3∧p4) (k:p0->p1->p2->p3->p4->G):G:=by obtain ⟨a0,a1,a2,a3,a4⟩:=h;exact k a0 a1 a2 a3 a4
theorem gx.{u0} {α0:Sort u0} {p0:α0->Prop} {p1:α0->Prop} {p2:α0->Prop} {p3:α0->Prop} {G:Prop} (h:∃x0:α0,p0 x0∧p1 x0∧p2 x0∧p3 x0) (k:∀x0:α0,p0 x0->p1 x0->p2 x0->p3 x0->G):G:=by obtain ⟨a0,a1,a2,a3,a4⟩:=h;exact k a0 a1 a2 a3 a4
theorem zH.{u0,u1} {α0:Sort u0} {α1:Sort u1} {p0:α0->Prop} {p1:α0->Prop} {p2:α0->α1->Prop} {G:Prop} (h:∃x0:α0,p0 x0∧p1 x0∧∃x1:α1,p2 x0 x1) (k:∀x0:α0,p0 x0->p1 x0->∀x1:α1,p2 x0 x1->G):G:=by obtain ⟨a0,a1,a2,a3,a4⟩:=h;exact k a0 a1 a2 a3 a4
theorem bS.{u0,u1} {α0:Sort u0} {α1:Sort u1} {p0:α0->α1->Prop} {p1:α0->α1->Prop} {p2:α0->α1->Prop} {G:Prop} (h:∃x0:α0,∃x1:α1,p0 x0 x1∧p1 x0 x1∧p2 x0 x1) (k:∀x0:α0,∀x1:α1,p0 x0 x1->p1 x0 x1->p2 x0 x1->G):G:=by obtain ⟨a0,a1,a2,a3,a4⟩:=h;exact k a0 a1 a2 a3 a4
theorem fR.{u0,u1,u2} {α0:Sort u0} {α1:Sort u1} {α2:Sort u2} {p0:α0->α1->α2->Prop} {p1:α0->α1->α2->Prop} {G:Prop} (h:∃x0:α0,∃x1:α1,∃x2:α2,p0 x0 x1 x2∧p1 x0 x1 x2) (k:∀x0:α0,∀x1:α1,∀x2:α2,p0 x0 x1 x2->p1 x0 x1 x2->G):G:=by obtain ⟨a0,a1,a2,a3,a4⟩:=h;exact k a0 a1 a2 a3 a4
theorem Lf.{u0,u1,u2,u3} {α0:Sort u0} {α1:Sort u1} {α2:Sort u2} {α3:Sort u3} {p0:α0->α1->α2->α3->Prop} {G:Prop} (h:∃x0:α0,∃x1:α1,∃x2:α2,∃x3:α3,p0 x0 x1 x2 x3) (k:∀x0:α0,∀x1:α1,∀x2:α2,∀x3:α3,p0 x0 x1 x2 x3->G):G:=by obtain ⟨a0,a1,a2,a3,a4⟩:=h;exact k a0 a1 a2 a3 a4
theorem D1 {p0:Prop} {p1:Prop} {p2:Prop} {p3:Prop} {p4:Prop} {p5:Prop} {G:Prop} (h:p0∧p1∧p2∧p3∧p4∧p5) (k:p0->p1->p2->p3->p4->p5->G):G:=by obtain ⟨a0,a1,a2,a3,a4,a5⟩:=h;exact k a0 a1 a2 a3 a4 a5
theorem mX.{u0} {α0:Sort u0} {p0:Prop} {p1:α0->Prop} {p2:α0->Prop} {p3:α0->Prop} {p4:α0->Prop} {G:Prop} (h:p0∧∃x0:α0,p1 x0∧p2 x0∧p3 x0∧p4 x0) (k:p0->∀x0:α0,p1 x0->p2 x0->p3 x0->p4 x0->G):G:=by obtain ⟨a0,a1,a2,a3,a4,a5⟩:=h;exact k a0 a1 a2 a3 a4 a5
theorem j3.{u0,u1} {α0:Sort u0} {α1:Sort u1} {p0:Prop} {p1:α0->α1->Prop} {p2:α0->α1->Prop} {p3:α0->α1->Prop} {G:Prop} (h:p0∧∃x0:α0,∃x1:α1,p1 x0 x1∧p2 x0 x1∧p3 x0 x1) (k:p0->∀x0:α0,∀x1:α1,p1 x0 x1->p2 x0 x1->p3 x0 x1->G):G:=by obtain ⟨a0,a1,a2,a3,a4,a5⟩:=h;exact k a0 a1 a2 a3 a4 a5
theorem j2.{u0} {α0:Sort u0} {p0:α0->Prop} {p1:α0->Prop} {p2:α0->Prop} {p3:α0->Prop} {p4:α0->Prop} {G:Prop} (h:∃x0:α0,p0 x0∧p1 x0∧p2 x0∧p3 x0∧p4 x0) (k:∀x0:α0,p0 x0->p1 x0->p2 x0->p3 x0->p4 x0->G):G:=by obtain ⟨a0,a1,a2,a3,a4,a5⟩:=h;exact k a0 a1 a2 a3 a4 a5
theorem sP.{u0,u1} {α0:Sort u0} {α1:Sort u1} {p0:α0->Prop} {p1:α0->α1->Prop} {p2:α0->α1->Prop} {p3:α0->α1->Prop} {G:Prop} (h:∃x0:α0,p0 x0∧∃x1:α1,p1 x0 x1∧p2 x0 x1∧p3 x0 x1) (k:∀x0:α0,p0 x0->∀x1:α1,p1 x0 x1->p2 x0 x1->p3 x0 x1->G):G:=by obtain ⟨a0,a1,a2,a3,a4,a5⟩:=h;exact k a0 a1 a2 a3 a4 a5
theorem bP.{u0,u1} {α0:Sort u0} {α1:Sort u1} {p0:α0->α1->Prop} {p1:α0->α1->Prop} {p2:α0->α1->Prop} {p3:α0->α1->Prop} {G:Prop} (h:∃x0:α0,∃x1:α1,p0 x0 x1∧p1 x0 x1∧p2 x0 x1∧p3 x0 x1) (k:∀x0:α0,∀x1:α1,p0 x0 x1->p1 x0 x1->p2 x0 x1->p3 x0 x1->G):G:=by obtain ⟨a0,a1,a2,a3,a4,a5⟩:=h;exact k a0 a1 a2 a3 a4 a5
theorem o7.{u0,u1,u2} {α0:Sort u0} {α1:Sort u1} {α2:Sort u2} {p0:α0->α1->α2->Prop} {p1:α0->α1->α2->Prop} {p2:α0->α1->α2->Prop} {G:Prop} (h:∃x0:α0,∃x1:α1,∃x2:α2,p0 x0 x1 x2∧p1 x0 x1 x2∧p2 x0 x1 x2) (k:∀x0:α0,∀x1:α1,∀x2:α2,p0 x0 x1 x2->p1 x0 x1 x2->p2 x0 x1 x2->G):G:=by obtain ⟨a0,a1,a2,a3,a4,a5⟩:=h;exact k a0 a1 a2 a3 a4 a5
theorem IP.{u0,u1,u2,u3} {α0:Sort u0} {α1:Sort u1} {α2:Sort u2} {α3:Sort u3} {p0:α0->α1->α2->α3->Prop} {p1:α0->α1->α2->α3->Prop} {G:Prop} (h:∃x0:α0,∃x1:α1,∃x2:α2,∃x3:α3,p0 x0 x1 x2 x3∧p1 x0 x1 x2 x3) (k:∀x0:α0,∀x1:α1,∀x2:α2,∀x3:α3,p0 x0 x1 x2 x3->p1 x0 x1 x2 x3->G):G:=by obtain ⟨a0,a1,a2,a3,a4,a5⟩:=h;exact k a0 a1 a2 a3 a4 a5
theorem cm.{u0,u1} {α0:Sort u0} {α1:Sort u1} {p0:α0->α1->Prop} {p1:α0->α1->Prop} {p2:α0->α1->Prop} {p3:α0->α1->Prop} {p4:α0->α1->Prop} {G:Prop} (h:∃x0:α0,∃x1:α1,p0 x0 x1∧p1 x0 x1∧p2 x0 x1∧p3 x0 x1∧p4 x0 x1) (k:∀x0:α0,∀x1:α1,p0 x0 x1->p1 x0 x1->p2 x0 x1->p3 x0 x1->p4 x0 x1->G):G:=by obtain ⟨a0,a1,a2,a3,a4,a5,a6⟩:=h;exact k a0 a1 a2 a3 a4 a5 a6
theorem xj.{u0,u1,u2} {α0:Sort u0} {α1:Sort u1} {α2:Sort u2} {p0:α0->α1->α2->Prop} {p1:α0->α1->α2->Prop} {p2:α0->α1->α2->Prop} {p3:α0->α1->α2->Prop} {G:Prop} (h:∃x0:α0,∃x1:α1,∃x2:α2,p0 x0 x1 x2∧p1 x0 x1 x2∧p2 x0 x1 x2∧p3 x0 x1 x2) (k:∀x0:α0,∀x1:α1,∀x2:α2,p0 x0 x1 x2->p1 x0 x1 x2->p2 x0 x1 x2->p3 x0 x1 x2->G):G:=by obtain ⟨a0,a1,a2,a3,a4,a5,a6⟩:=h;exact k a0 a1 a2 a3 a4 a5 a6
theorem sQ.{u0} {α0:Sort u0} {p0:α0->Prop} {p1:α0->Prop} {p2:α0->Prop} {p3:α0->Prop} {p4:α0->Prop} {p5:α0->Prop} {p6:α0->Prop} {G:Prop} (h:∃x0:α0,p0 x0∧p1 x0∧p2 x0∧p3 x0∧p4 x0∧p5 x0∧p6 x0) (k:∀x0:α0,p0 x0->p1 x0->p2 x0->p3 x0->p4 x0->p5 x0->p6 x0->G):G:=by obtain ⟨a0,a1,a2,a3,a4,a5,a6,a7⟩:=h;exact k a0 a1 a2 a3 a4 a5 a6 a7
theorem sO.{u0,u1} {α0:Sort u0} {α1:Sort u1} {p0:α0->α1->Prop} {p1:α0->α1->Prop} {p2:α0->α1->Prop} {p3:α0->α1->Prop} {p4:α0->α1->Prop} {p5:α0->α1->Prop} {G:Prop} (h:∃x0:α0,∃x1:α1,p0 x0 x1∧p1 x0 x1∧p2 x0 x1∧p3 x0 x1∧p4 x0 x1∧p5 x0 x1) (k:∀x0:α0,∀x1:α1,p0 x0 x1->p1 x0 x1->p2 x0 x1->p3 x0 x1->p4 x0 x1->p5 x0 x1->G):G:=by obtain ⟨a0,a1,a2,a3,a4,a5,a6,a7⟩:=h;exact k a0 a1 a2 a3 a4 a5 a6 a7
theorem eX.{u0,u1,u2} {α0:Sort u0} {α1:Sort u1} {α2:Sort u2} {p0:α0->α1->α2->Prop} {p1:α0->α1->α2->Prop} {p2:α0->α1->α2->Prop} {p3:α0->α1->α2->Prop} {p4:α0->α1->α2->Prop} {G:Prop} (h:∃x0:α0,∃x1:α1,∃x2:α2,p0 x0 x1 x2∧p1 x0 x1 x2∧p2 x0 x1 x2∧p3 x0 x1 x2∧p4 x0 x1 x2) (k:∀x0:α0,∀x1:α1,∀x2:α2,p0 x0 x1 x2->p1 x0 x1 x2->p2 x0 x1 x2->p3 x0 x1 x2->p4 x0 x1 x2->G):G:=by obtain ⟨a0,a1,a2,a3,a4,a5,a6,a7⟩:=h;exact k a0 a1 a2 a3 a4 a5 a6 a7
theorem qR.{u0,u1,u2,u3} {α0:Sort u0} {α1:Sort u1} {α2:Sort u2} {α3:Sort u3} {p0:α0->α1->Prop} {p1:α0->α1->Prop} {p2:α0->α1->α2->α3->Prop} {p3:α0->α1->α2->α3->Prop} {p4:α0->α1->α2->α3->Prop} {G:Prop} (h:∃x0:α0,∃x1:α1,p0 x0 x1∧p1 x0 x1∧∃x2:α2,∃x3:α3,p2 x0 x1 x2 x3∧p3 x0 x1 x2 x3∧p4 x0 x1 x2 x3) (k:∀x0:α0,∀x1:α1,p0 x0 x1->p1 x0 x1->∀x2:α2,∀x3:α3,p2 x0 x1 x2 x3->p3 x0 x1 x2 x3->p4 x0 x1 x2 x3->G):G:=by obtain ⟨a0,a1,a2,a3,a4,a5,a6,a7,a8⟩:=h;exact k a0 a1 a2 a3 a4 a5 a6 a7 a8
theorem cB.{u0,u1,u2,u3,u4,u5} {α0:Sort u0} {α1:Sort u1} {α2:Sort u2} {α3:Sort u3} {α4:Sort u4} {α5:Sort u5} {p0:α0->α1->α2->α3->α4->α5->Prop} {p1:α0->α1->α2->α3->α4->α5->Prop} {p2:α0->α1->α2->α3->α4->α5->Prop} {G:Prop} (h:∃x0:α0,∃x1:α1,∃x2:α2,∃x3:α3,∃x4:α4,∃x5:α5,p0 x0 x1 x2 x3 x4 x5∧p1 x0 x1 x2 x3 x4 x5∧p2 x0 x1 x2 x3 x4 x5) (k:∀x0:α0,∀x1:α1,∀x2:α2,∀x3:α3,∀x4:α4,∀x5:α5,p0 x0 x1 x2 x3 x4 x5->p1 x0 x1 x2 x3 x4 x5->p2 x0 x1 x2 x3 x4 x5->G):G:=by obtain ⟨a0,a1,a2,a3,a4,a5,a6,a7,a8⟩:=h;exact k a0 a1 a2 a3 a4 a5 a6 a7 a8
theorem lq.{u0,u1,u2} {α0:Sort u0} {α1:Sort u1} {α2:Sort u2} {p0:α0->α1->α2->Prop} {p1:α0->α1->α2->Prop} {p2:α0->α1->α2->Prop} {p3:α0->α1->α2->Prop} {p4:α0->α1->α2->Prop} {p5:α0->α1->α2->Prop} {p6:α0->α1->α2->Prop} {G:Prop} (h:∃x0:α0,∃x1:α1,∃x2:α2,p0 x0 x1 x2∧p1 x0 x1 x2∧p2 x0 x1 x2∧p3 x0 x1 x2∧p4 x0 x1 x2∧p5 x0 x1 x2∧p6 x0 x1 x2) (k:∀x0:α0,∀x1:α1,∀x2:α2,p0 x0 x1 x2->p1 x0 x1 x2->p2 x0 x1 x2->p3 x0 x1 x2->p4 x0 x1 x2->p5 x0 x1 x2->p6 x0 x1 x2->G):G:=by obtain ⟨a0,a1,a2,a3,a4,a5,a6,a7,a8,a9⟩:=h;exact k a0 a1 a2 a3 a4 a5 a6 a7 a8 a9
theorem o6.{u0,u1,u2,u3,u4,u5} {α0:Sort u0} {α1:Sort u1} {α2:Sort u2} {α3:Sort u3} {α4:Sort u4} {α5:Sort u5} {p0:α0->α1->α2->α3->α4->α5->Prop} {p1:α0->α1->α2->α3->α4->α5->Prop} {p2:α0->α1->α2->α3->α4->α5->Prop} {p3:α0->α1->α2->α3->α4->α5->Prop} {G:Prop} (h:∃x0:α0,∃x1:α1,∃x2:α2,∃x3:α3,∃x4:α4,∃x5:α5,p0 x0 x1 x2 x3 x4 x5∧p1 x0 x1 x2 x3 x4 x5∧p2 x0 x1 x2 x3 x4 x5∧p3 x0 x1 x2 x3 x4 x5) (k:∀x0:α0,∀x1:α1,∀x2:α2,∀x3:α3,∀x4:α4,∀x5:α5,p0 x0 x1 x2 x3 x4 x5->p1 x0 x1 x2 x3 x4 x5->p2 x0 x1 x2 x3 x4 x5->p3 x0 x1 x2 x3 x4 x5->G):G:=by obtain ⟨a0,a1,a2,a3,a4,a5,a6,a7,a8,a9⟩:=h;exact k a0 a1 a2 a3 a4 a5 a6 a7 a8 a9
theorem kr.{u0,u1,u2} {α0:Sort u0} {α1:Sort u1} {α2:Sort u2} {p0:α0->α1->α2->Prop} {p1:α0->α1->α2->Prop} {p2:α0->α1->α2->Prop} {p3:α0->α1->α2->Prop} {p4:α0->α1->α2->Prop} {p5:α0->α1->α2->Prop} {p6:α0->α1->α2->Prop} {p7:α0->α1->α2->Prop} {G:Prop} (h:∃x0:α0,∃x1:α1,∃x2:α2,p0 x0 x1 x2∧p1 x0 x1 x2∧p2 x0 x1 x2∧p3 x0 x1 x2∧p4 x0 x1 x2∧p5 x0 x1 x2∧p6 x0 x1 x2∧p7 x0 x1 x2) (k:∀x0:α0,∀x1:α1,∀x2:α2,p0 x0 x1 x2->p1 x0 x1 x2->p2 x0 x1 x2->p3 x0 x1 x2->p4 x0 x1 x2->p5 x0 x1 x2->p6 x0 x1 x2->p7 x0 x1 x2->G):G:=by obtain ⟨a0,a1,a2,a3,a4,a5,a6,a7,a8,a9,Kc⟩:=h;exact k a0 a1 a2 a3 a4 a5 a6 a7 a8 a9 Kc
theorem lr.{u0,u1,u2,u3} {α0:Sort u0} {α1:Sort u1} {α2:Sort u2} {α3:Sort u3} {p0:α0->α1->Prop} {p1:α0->α1->Prop} {p2:α0->α1->Prop} {p3:α0->α1->Prop} {p4:α0->α1->α2->Prop} {p5:α0->α1->α2->α3->Prop} {p6:α0->α1->α2->α3->Prop} {p7:α0->α1->α2->α3->Prop} {p8:α0->α1->α2->α3->Prop} {p9:α0->α1->α2->α3->Prop} {G:Prop} (h:∃x0:α0,∃x1:α1,p0 x0 x1∧p1 x0 x1∧p2 x0 x1∧p3 x0 x1∧∃x2:α2,p4 x0 x1 x2∧∃x3:α3,p5 x0 x1 x2 x3∧p6 x0 x1 x2 x3∧p7 x0 x1 x2 x3∧p8 x0 x1 x2 x3∧p9 x0 x1 x2 x3) (k:∀x0:α0,∀x1:α1,p0 x0 x1->p1 x0 x1->p2 x0 x1->p3 x0 x1->∀x2:α2,p4 x0 x1 x2->∀x3:α3,p5 x0 x1 x2 x3->p6 x0 x1 x2 x3->p7 x0 x1 x2 x3->p8 x0 x1 x2 x3->p9 x0 x1 x2 x3->G):G:=by obtain ⟨a0,a1,a2,a3,a4,a5,a6,a7,a8,a9,Kc,NM,NK,NJ⟩:=h;exact k a0 a1 a2 a3 a4 a5 a6 a7 a8 a9 Kc NM NK NJ
theorem fI.{u0,u1,u2,u3,u4,u5} {α0:Sort u0} {α1:Sort u1} {α2:Sort u2} {α3:Sort u3} {α4:Sort u4} {α5:Sort u5} {p0:α0->α1->α2->α3->α4->α5->Prop} {p1:α0->α1->α2->α3->α4->α5->Prop} {p2:α0->α1->α2->α3->α4->α5->Prop} {p3:α0->α1->α2->α3->α4->α5->Prop} {p4:α0->α1->α2->α3->α4->α5->Prop} {p5:α0->α1->α2->α3->α4->α5->Prop} {p6:α0->α1->α2->α3->α4->α5->Prop} {p7:α0->α1->α2->α3->α4->α5->Prop} {G:Prop} (h:∃x0:α0,∃x1:α1,∃x2:α2,∃x3:α3,∃x4:α4,∃x5:α5,p0 x0 x1 x2 x3 x4 x5∧p1 x0 x1 x2 x3 x4 x5∧p2 x0 x1 x2 x3 x4 x5∧p3 x0 x1 x2 x3 x4 x5∧p4 x0 x1 x2 x3 x4 x5∧p5 x0 x1 x2 x3 x4 x5∧p6 x0 x1 x2 x3 x4 x5∧p7 x0 x1 x2 x3 x4 x5) (k:∀x0:α0,∀x1:α1,∀x2:α2,∀x3:α3,∀x4:α4,∀x5:α5,p0 x0 x1 x2 x3 x4 x5->p1 x0 x1 x2 x3 x4 x5->p2 x0 x1 x2 x3 x4 x5->p3 x0 x1 x2 x3 x4 x5->p4 x0 x1 x2 x3 x4 x5->p5 x0 x1 x2 x3 x4 x5->p6 x0 x1 x2 x3 x4 x5->p7 x0 x1 x2 x3 x4 x5->G):G:=by obtain ⟨a0,a1,a2,a3,a4,a5,a6,a7,a8,a9,Kc,NM,NK,NJ⟩:=h;exact k a0 a1 a2 a3 a4 a5 a6 a7 a8 a9 Kc NM NK NJ
theorem eh.{u0,u1,u2,u3,u4,u5,u6,u7,u8,u9,XI,XH,XG,XF,XE,XD,XC,XB} {α0:Sort u0} {α1:Sort u1} {α2:Sort u2} {α3:Sort u3} {α4:Sort u4} {α5:Sort u5} {α6:Sort u6} {α7:Sort u7} {α8:Sort u8} {α9:Sort u9} {α10:Sort XI} {α11:Sort XH} {α12:Sort XG} {α13:Sort XF} {α14:Sort XE} {α15:Sort XD} {α16:Sort XC} {α17:Sort XB} {p0:α0->α1->α2->α3->α4->α5->α6->α7->α8->α9->α10->α11->α12->α13->α14->α15->α16->α17->Prop} {p1:α0->α1->α2->α3->α4->α5->α6->α7->α8->α9->α10->α11->α12->α13->α14->α15->α16->α17->Prop} {p2:α0->α1->α2->α3->α4->α5->α6->α7->α8->α9->α10->α11->α12->α13->α14->α15->α16->α17->Prop} {p3:α0->α1->α2->α3->α4->α5->α6->α7->α8->α9->α10->α11->α12->α13->α14->α15->α16->α17->Prop} {G:Prop} (h:∃x0:α0,∃x1:α1,∃x2:α2,∃x3:α3,∃x4:α4,∃x5:α5,∃x6:α6,∃x7:α7,∃x8:α8,∃x9:α9,∃xv:α10,∃xu:α11,∃o9:α12,∃xt:α13,∃xr:α14,∃xq:α15,∃xn:α16,∃xm:α17,p0 x0 x1 x2 x3 x4 x5 x6 x7 x8 x9 xv xu o9 xt xr xq xn xm∧p1 x0 x1 x2 x3 x4 x5 x6 x7 x8 x9 xv xu o9 xt xr xq xn xm∧p2 x0 x1 x2 x3 x4 x5 x6 x7 x8 x9 xv xu o9 xt xr xq xn xm∧p3 x0 x1 x2 x3 x4 x5 x6 x7 x8 x9 xv xu o9 xt xr xq xn xm) (k:∀x0:α0,∀x1:α1,∀x2:α2,∀x3:α3,∀x4:α4,∀x5:α5,∀x6:α6,∀x7:α7,∀x8:α8,∀x9:α9,∀xv:α10,∀xu:α11,∀o9:α12,∀xt:α13,∀xr:α14,∀xq:α15,∀xn:α16,∀xm:α17,p0 x0 x1 x2 x3 x4 x5 x6 x7 x8 x9 xv xu o9 xt xr xq xn xm->p1 x0 x1 x2 x3 x4 x5 x6 x7 x8 x9 xv xu o9 xt xr xq xn xm->p2 x0 x1 x2 x3 x4 x5 x6 x7 x8 x9 xv xu o9 xt xr xq xn xm->p3 x0 x1 x2 x3 x4 x5 x6 x7 x8 x9 xv xu o9 xt xr xq xn xm->G):G:=by obtain ⟨a0,a1,a2,a3,a4,a5,a6,a7,a8,a9,Kc,NM,NK,NJ,ZC,ZA,Zz,Zy,Zx,Zw,Zv,Zu⟩:=h;exact k a0 a1 a2 a3 a4 a5 a6 a7 a8 a9 Kc NM NK NJ ZC ZA Zz Zy Zx Zw Zv Zu
end Mine
end
section
local macro_rules
  | `(tactic| subst $h:ident)=>`(tactic| first
    | subst ($h)
    | (injection $h;done)
    | (injection $h with a;subst a)
    | (injection $h with a b;subst a;subst b)
    | (injection $h with a b c;subst a;subst b;subst c)
    | (injection $h with a b c d;subst a;subst b;subst c;subst d)
    | clear $h)
section
namespace Mine
structure Nm where
  i:Fin 218
  deriving DecidableEq,Inhabited
noncomputable def nm (k:Nat):Nm:=⟨Fin.ofNat 218 k⟩
namespace Nm
noncomputable def oj:=nm 0
noncomputable def ak:=nm 1
noncomputable def iE:=nm 2
noncomputable def iD:=nm 3
noncomputable def qj:=nm 4
noncomputable def uE:=nm 5
noncomputable def iC:=nm 6
noncomputable def fE:=nm 7
noncomputable def lO:=nm 8
noncomputable def iB:=nm 9
noncomputable def z8:=nm 10
noncomputable def uD:=nm 11
noncomputable def uC:=nm 12
noncomputable def oi:=nm 13
noncomputable def eH:=nm 14
noncomputable def Mh:=nm 15
noncomputable def oh:=nm 16
noncomputable def uB:=nm 17
noncomputable def aS:=nm 18
noncomputable def d5:=nm 19
noncomputable def fO:=nm 20
noncomputable def aE:=nm 21
noncomputable def lN:=nm 22
noncomputable def qi:=nm 23
noncomputable def fc:=nm 24
noncomputable def gb:=nm 25
noncomputable def aN:=nm 26
noncomputable def uA:=nm 27
noncomputable def fk:=nm 28
noncomputable def z7:=nm 29
noncomputable def jQ:=nm 30
noncomputable def jP:=nm 31
noncomputable def cG:=nm 32
noncomputable def cJ:=nm 33
noncomputable def jn:=nm 34
noncomputable def bF:=nm 35
noncomputable def bz:=nm 36
noncomputable def eG:=nm 37
noncomputable def aF:=nm 38
noncomputable def dK:=nm 39
noncomputable def dC:=nm 40
noncomputable def bx:=nm 41
noncomputable def fD:=nm 42
noncomputable def cV:=nm 43
noncomputable def dk:=nm 44
noncomputable def eZ:=nm 45
noncomputable def bh:=nm 46
noncomputable def eF:=nm 47
noncomputable def dA:=nm 48
noncomputable def bC:=nm 49
noncomputable def bX:=nm 50
noncomputable def fN:=nm 51
noncomputable def cc:=nm 52
noncomputable def cF:=nm 53
noncomputable def f9:=nm 54
noncomputable def uz:=nm 55
noncomputable def fC:=nm 56
noncomputable def dz:=nm 57
noncomputable def cI:=nm 58
noncomputable def dy:=nm 59
noncomputable def g9:=nm 60
noncomputable def aq:=nm 61
noncomputable def dp:=nm 62
noncomputable def eE:=nm 63
noncomputable def di:=nm 64
noncomputable def k9:=nm 65
noncomputable def aa:=nm 66
noncomputable def mS:=nm 67
noncomputable def d8:=nm 68
noncomputable def ec:=nm 69
noncomputable def og:=nm 70
noncomputable def uy:=nm 71
noncomputable def dh:=nm 72
noncomputable def k8:=nm 73
noncomputable def g8:=nm 74
noncomputable def cw:=nm 75
noncomputable def eW:=nm 76
noncomputable def bf:=nm 77
noncomputable def kf:=nm 78
noncomputable def ux:=nm 79
noncomputable def lM:=nm 80
noncomputable def iT:=nm 81
noncomputable def g7:=nm 82
noncomputable def f7:=nm 83
noncomputable def k7:=nm 84
noncomputable def fZ:=nm 85
noncomputable def gZ:=nm 86
noncomputable def fG:=nm 87
noncomputable def jO:=nm 88
noncomputable def jN:=nm 89
noncomputable def gY:=nm 90
noncomputable def nj:=nm 91
noncomputable def uv:=nm 92
noncomputable def iA:=nm 93
noncomputable def b4:=nm 94
noncomputable def uu:=nm 95
noncomputable def aY:=nm 96
noncomputable def dJ:=nm 97
noncomputable def oa:=nm 98
noncomputable def dw:=nm 99
noncomputable def k6:=nm 100
noncomputable def aM:=nm 101
noncomputable def bD:=nm 102
noncomputable def aR:=nm 103
noncomputable def fY:=nm 104
noncomputable def jM:=nm 105
noncomputable def ur:=nm 106
noncomputable def fj:=nm 107
noncomputable def fX:=nm 108
noncomputable def lL:=nm 109
noncomputable def jm:=nm 110
noncomputable def iS:=nm 111
noncomputable def fW:=nm 112
noncomputable def gX:=nm 113
noncomputable def iR:=nm 114
noncomputable def fF:=nm 115
noncomputable def jL:=nm 116
noncomputable def iQ:=nm 117
noncomputable def gV:=nm 118
noncomputable def iP:=nm 119
noncomputable def jK:=nm 120
noncomputable def qh:=nm 121
noncomputable def fM:=nm 122
noncomputable def cH:=nm 123
noncomputable def cP:=nm 124
noncomputable def gj:=nm 125
noncomputable def fL:=nm 126
noncomputable def rh:=nm 127
noncomputable def jJ:=nm 128
noncomputable def jI:=nm 129
noncomputable def lK:=nm 130
noncomputable def jH:=nm 131
noncomputable def au:=nm 132
noncomputable def eV:=nm 133
noncomputable def cY:=nm 134
noncomputable def fV:=nm 135
noncomputable def b9:=nm 136
noncomputable def aC:=nm 137
noncomputable def gC:=nm 138
noncomputable def bw:=nm 139
noncomputable def fU:=nm 140
noncomputable def Mg:=nm 141
noncomputable def dU:=nm 142
noncomputable def bZ:=nm 143
noncomputable def ic:=nm 144
noncomputable def jl:=nm 145
noncomputable def jk:=nm 146
noncomputable def du:=nm 147
noncomputable def qg:=nm 148
noncomputable def ni:=nm 149
noncomputable def jG:=nm 150
noncomputable def bM:=nm 151
noncomputable def gU:=nm 152
noncomputable def bW:=nm 153
noncomputable def af:=nm 154
noncomputable def mQ:=nm 155
noncomputable def b7:=nm 156
noncomputable def aU:=nm 157
noncomputable def cO:=nm 158
noncomputable def cN:=nm 159
noncomputable def iO:=nm 160
noncomputable def aQ:=nm 161
noncomputable def b5:=nm 162
noncomputable def ja:=nm 163
noncomputable def eD:=nm 164
noncomputable def ng:=nm 165
noncomputable def aG:=nm 166
noncomputable def eC:=nm 167
noncomputable def eB:=nm 168
noncomputable def uq:=nm 169
noncomputable def cM:=nm 170
noncomputable def ky:=nm 171
noncomputable def aJ:=nm 172
noncomputable def ke:=nm 173
noncomputable def bK:=nm 174
noncomputable def mP:=nm 175
noncomputable def eU:=nm 176
noncomputable def aV:=nm 177
noncomputable def bc:=nm 178
noncomputable def dg:=nm 179
noncomputable def iN:=nm 180
noncomputable def pG:=nm 181
noncomputable def uo:=nm 182
noncomputable def b8:=nm 183
noncomputable def eY:=nm 184
noncomputable def aj:=nm 185
noncomputable def um:=nm 186
noncomputable def uk:=nm 187
noncomputable def bV:=nm 188
noncomputable def ay:=nm 189
noncomputable def gi:=nm 190
noncomputable def eA:=nm 191
noncomputable def uj:=nm 192
noncomputable def bJ:=nm 193
noncomputable def dI:=nm 194
noncomputable def ez:=nm 195
noncomputable def az:=nm 196
noncomputable def fB:=nm 197
noncomputable def dT:=nm 198
noncomputable def fT:=nm 199
noncomputable def gS:=nm 200
noncomputable def jF:=nm 201
noncomputable def jE:=nm 202
noncomputable def jD:=nm 203
noncomputable def bE:=nm 204
noncomputable def et:=nm 205
noncomputable def er:=nm 206
noncomputable def eP:=nm 207
noncomputable def dH:=nm 208
noncomputable def aT:=nm 209
noncomputable def ai:=nm 210
noncomputable def aW:=nm 211
noncomputable def eO:=nm 212
noncomputable def aI:=nm 213
noncomputable def bo:=nm 214
noncomputable def dZ:=nm 215
noncomputable def ej:=nm 216
noncomputable def n9:=nm 217
end Nm
noncomputable def Pj {α:Type} (d:α):List α->Nat->α
  | [],_=>d
  | a::_,0=>a
  | _::r,n+1=>Pj d r n
noncomputable def X7:List String:=["BRANCH","Builder","CALL_core","CALL_cpscode","CONST","CONT","Call","Const","DEFINE","EFFECT","FIX","FUN","GIVE","GLOBAL","Global","IF","If","JUMP","KBlock","KLast","KOp","KProgram","LAMBDA","LOCAL","Lambda","Local","Names","PRIM","Prim","SEQ","SET_GLOBAL","Seq","SetGlobal","SymbolTable","TAIL","Task","UNSPECIFIED","VALUE","__init__","_law_all_there","_law_cut","_law_draw","_law_given","_law_into","_law_lambda","_law_leaf","_law_left","_law_meaning","_law_node","_law_op","_law_prim","_law_run","_law_shown","_law_some","_law_step","abs","after","append","args","arguments","back","block","body","bool","branch_last","build","builder","by_text","call","call_last","called","cell","choice","const","const_op","cont","datum","deck","deep","define","dict","do_call","do_const","do_global","do_if","do_lambda","do_local","do_prim","do_seq","do_set","do_small","done","due","emit","","end","enter","entry","extend","finish","first","found","fresh","fun","fun_block","fun_op","get","give","give_last","global","go","go_call","go_choice","go_enter","go_hold","go_jump","go_let","go_node","go_on","go_prim","go_set","grown","held","here","hold","home","home_var","if","inner","int","is_false","is_let","isinstance","items","jump","jump_last","kind","label","labels","last","later","law","left","len","let","list","made","many","min","most","named","names","no","no procedure","node","nothing","now","number","numbers","op","operand","operands","operator","ops","other","pair","params","parent","parts","pop","prim","procedure","program","push","push_all","put","range","refused","rest","result","results","root","rows","scope","script","self","seq","set","setglobal","sight","sort","start","step","symbol","table","taken","task","tasks","test","title","title_of","titles","to","to_cps","told","top","tuple","turn","unbound","value","values","var","waiting","way","word","world","yes","zip"]
noncomputable def ah (x:Nm):Str:=Str.ofString (Pj "" X7 x.i.1)
inductive xh where | add | sub | mul | fdiv | mod
  deriving DecidableEq
inductive xa where | eq | ne | lt | le | gt | ge | KS | Mr | Me
  deriving DecidableEq,Inhabited
inductive PE where
  | loc (x:Nm) | jU (x:Nm) | bI (x:Nm)
  | int (i:Int) | neg (i:Nat) | str (x:Nm) | bool (b:Bool) | none
  | attr (e:PE) (n:Nm)
  | sub (e i:PE)
  | slice (e:PE) (lo hi:Option PE)
  | rev (e:PE)
  | bin (op:xh) (l r:PE)
  | cmp (op:xa) (l r:PE)
  | and (l r:PE) | or (l r:PE) | not (e:PE)
  | bt (c t f:PE)
  | list (es:List PE) | tup (es:List PE) | dict (ks vs:List PE)
  | comp (elt:PE) (x:Nm) (it:PE)
  | call (f:Nm) (as:List PE)
  | aB (e:PE) (n:Nm) (as:List PE)
  | freeze (e:PE) | gF (e:PE)
  | dead
inductive PS where
  | asg (x:Nm) (e:PE)
  | km (x:Nm) (elt:PE) (y:Nm) (it:PE)
  | aP (o:PE) (n:Nm) (e:PE)
  | iy (o i e:PE)
  | par (xs:List Nm) (e:PE)
  | Og (xs:List Nm) (e:PE)
  | bt (c:PE) (t f:List PS)
  | ret (e:PE) | qV
  | expr (e:PE)
  | mA (x:Nm) (it:PE) (b:List PS)
  | pM (x y:Nm) (i j:PE) (b:List PS)
  | sR (c:PE) (b:List PS)
  | dead
noncomputable def xh.py:xh->Operator
  | .add=>.Add | .sub=>.Sub | .mul=>.Mult | .fdiv=>.FloorDiv | .mod=>.Mod
noncomputable def xa.py:xa->CmpOp
  | .eq=>.Eq | .ne=>.NotEq | .lt=>.Lt | .le=>.LtE | .gt=>.Gt | .ge=>.GtE | .KS=>.Is | .Mr=>.In | .Me=>.NotIn
noncomputable def kindB (sc:Scope) (x:Str) (k:NameKind):Bool:=sc.names.lookup x==some k
noncomputable def inner (sc:Scope) (o:Scope):Scope:=
  {sc with names:=sc.names.map fun (n,k)=>if (k==.free&&o.kind==.function&&o.names.lookup n==some .cell) then (n,.cell) else (n,k)}
mutual
noncomputable def lV:PE->List Nm
  | .jU x=>[x]
  | .sub e i=>lV e++lV i
  | .aB e _ as=>lV e++v9 as
  | .call _ as=>v9 as
  | .freeze e=>lV e
  | _=>[]
noncomputable def v9:List PE->List Nm
  | []=>[]
  | e::r=>lV e++v9 r
end
noncomputable def v3 (sc o:Scope) (x:Str) (elt:PE):List Bool:=
  [sc.kind==.function,sc.names.all (fun y=>y.2 !=.free||o.names.lookup y.1==some .cell),sc.names.all (fun y=>y.2 !=.cell),sc.names.lookup x==some .local,sc.names.all (fun y=>y.2 !=.local||sc.names.lookup y.1==some .local),(lV elt).all fun y=>kindB (inner sc o) (ah y) .cell]
noncomputable def notStar (e:Expr):Bool:=e.ctorIdx !=22
noncomputable def Nq (e:Expr):Bool:=e.ctorIdx !=7&&e.ctorIdx !=22
noncomputable def n7 (e:Expr):Bool:=e.ctorIdx !=26
noncomputable def iM (e:Expr):Bool:=!Nat.blt 7 e.ctorIdx||Nat.blt 10 e.ctorIdx
noncomputable def pF (e:Expr):Bool:=e.ctorIdx !=7
noncomputable def uX (e:Expr):Bool:=e.ctorIdx==25
structure Dt where
  p:Pos
  k:Nat
  sc:Scope
  e:Expr
  s:Stmt
abbrev Tr:=List Nat->Dt
noncomputable def Tr.a (t:Tr) (i:Nat):Tr:=fun l=>t (i::l)
noncomputable def Tr.d (t:Tr):Dt:=t []
mutual
noncomputable def dE:PE->Tr->Expr
  | .loc x,t=>.Name (ah x) t.d.p
  | .jU x,t=>.Name (ah x) t.d.p
  | .bI x,t=>.Name (ah x) t.d.p
  | .int i,t=>.Constant (.int i) t.d.k t.d.p
  | .neg i,t=>.UnaryOp .USub (.Constant (.int i) (t.a 0).d.k (t.a 0).d.p) t.d.p
  | .str x,t=>.Constant (.str (ah x)) t.d.k t.d.p
  | .bool b,t=>.Constant (.bool b) t.d.k t.d.p
  | .none,t=>.Constant .none t.d.k t.d.p
  | .attr e n,t=>.Attribute (dE e (t.a 0)) (ah n) t.d.p
  | .sub e i,t=>.Subscript (dE e (t.a 0)) (dE i (t.a 1)) t.d.p
  | .slice e lo hi,t=>.Subscript (dE e (t.a 0)) (.Slice (dO lo ((t.a 1).a 0)) (dO hi ((t.a 1).a 1)) none (t.a 1).d.p) t.d.p
  | .rev e,t=>.Subscript (dE e (t.a 0)) (.Slice none none (some (.UnaryOp .USub (.Constant (.int 1) (((t.a 1).a 2).a 0).d.k (((t.a 1).a 2).a 0).d.p) ((t.a 1).a 2).d.p)) (t.a 1).d.p) t.d.p
  | .bin op l r,t=>.BinOp (dE l (t.a 0)) op.py (dE r (t.a 1)) t.d.p
  | .cmp op l r,t=>.Compare (dE l (t.a 0)) [op.py] [dE r ((t.a 1).a 0)] t.d.p
  | .and l r,t=>.BoolOp .And [dE l (t.a 0),dE r ((t.a 1).a 0)] t.d.p
  | .or l r,t=>.BoolOp .Or [dE l (t.a 0),dE r ((t.a 1).a 0)] t.d.p
  | .not e,t=>.UnaryOp .Not (dE e (t.a 0)) t.d.p
  | .bt c x f,t=>.IfExp (dE c (t.a 0)) (dE x (t.a 1)) (dE f (t.a 2)) t.d.p
  | .list es,t=>.List (dL es t) t.d.p
  | .tup es,t=>.Tuple (dL es t) t.d.k t.d.p
  | .dict ks vs,t=>.Dict (dD ks (t.a 0)) (dL vs (t.a 1)) t.d.p
  | .comp elt x it,t=>.ListComp (dE elt (t.a 0)) [⟨.Name (ah x) (t.a 1).d.p,dE it (t.a 2),[],0⟩] t.d.sc t.d.p
  | .call f as,t=>.Call (.Name (ah f) (t.a 0).d.p) (dL as (t.a 1)) [] t.d.p
  | .aB e n as,t=>.Call (.Attribute (dE e ((t.a 0).a 0)) (ah n) (t.a 0).d.p) (dL as (t.a 1)) [] t.d.p
  | .freeze e,t=>dE e t
  | .gF e,t=>dE e t
  | .dead,t=>t.d.e
noncomputable def dL:List PE->Tr->List Expr
  | [],_=>[]
  | e::r,t=>dE e (t.a 0)::dL r (t.a 1)
noncomputable def dD:List PE->Tr->List (Option Expr)
  | [],_=>[]
  | e::r,t=>some (dE e (t.a 0))::dD r (t.a 1)
noncomputable def dO:Option PE->Tr->Option Expr
  | none,_=>none
  | some e,t=>some (dE e t)
end
mutual
noncomputable def oE (sc:Scope):PE->Tr->Bool
  | .loc x,_=>kindB sc (ah x) .local
  | .jU x,_=>kindB sc (ah x) .cell
  | .bI x,_=>kindB sc (ah x) .globalImplicit
  | .attr e _,t=>oE sc e (t.a 0)&&Nat.blt e.ctorIdx 24
  | .sub e i,t=>oE sc e (t.a 0)&&(oE sc i (t.a 1)&&n7 (dE i (t.a 1)))
  | .slice e lo hi,t=>oE sc e (t.a 0)&&(oO sc lo ((t.a 1).a 0)&&oO sc hi ((t.a 1).a 1))
  | .rev e,t=>oE sc e (t.a 0)
  | .bin _ l r,t=>oE sc l (t.a 0)&&oE sc r (t.a 1)
  | .cmp op l r,t=>oE sc l (t.a 0)&&(oE sc r ((t.a 1).a 0)&&!behindInMarks op.py (dE r ((t.a 1).a 0)))
  | .and l r,t=>oE sc l (t.a 0)&&oE sc r ((t.a 1).a 0)
  | .or l r,t=>oE sc l (t.a 0)&&oE sc r ((t.a 1).a 0)
  | .not e,t=>oE sc e (t.a 0)
  | .bt c x f,t=>oE sc c (t.a 0)&&(oE sc x (t.a 1)&&oE sc f (t.a 2))
  | .list es,t=>oL sc es t
  | .tup es,t=>oL sc es t
  | .dict ks vs,t=>oL sc ks (t.a 0)&&oL sc vs (t.a 1)
  | .comp elt x it,t=>(v3 t.d.sc sc (ah x) elt).all id&&(oE sc it (t.a 2)&&(oE (inner t.d.sc sc) elt (t.a 0)&&pF (dE it (t.a 2))))
  | .call f as,t=>kindB sc (ah f) .globalImplicit&&oL sc as (t.a 1)
  | .aB e _ as,t=>((t.a 0).d.p.endLine==t.d.p.line&&(Nat.ble (dL as (t.a 1)).length 28&&Nat.blt e.ctorIdx 24))&&(oE sc e ((t.a 0).a 0)&&oL sc as (t.a 1))
  | .freeze e,t=>oE sc e t
  | .gF e,t=>oE sc e t
  | .dead,t=>Nq t.d.e
  | _,_=>true
noncomputable def oL (sc:Scope):List PE->Tr->Bool
  | [],_=>true
  | e::r,t=>oE sc e (t.a 0)&&(notStar (dE e (t.a 0))&&oL sc r (t.a 1))
noncomputable def oO (sc:Scope):Option PE->Tr->Bool
  | none,_=>true
  | some e,t=>oE sc e t
end
noncomputable def dN:List Nm->Tr->List Expr
  | [],_=>[]
  | x::r,t=>.Name (ah x) (t.a 0).d.p::dN r (t.a 1)
noncomputable def nN (sc:Scope) (ts:List Expr):List Str:=
  let line:=(ts.head?.map (·.pos.line)).getD 0
  ts.filterMap fun
    | .Name id pos=>if sc.names.lookup id==some .local&&pos.line==line then some id else none
    | _=>none
noncomputable def zT (sc:Scope) (xs:List Nm) (ts vs:List Expr):List Bool:=
  [ts.length==2||ts.length==3,vs.length==ts.length,!(vs.any fun | .Starred ..=>true | _=>false),
  (nN sc ts).length==ts.length,(nN sc ts).eraseDups.length==(nN sc ts).length,!(vs.all (foldedForSure 8)),!(vs.all (constantsAlone 8)),nN sc ts==xs.map ah]
noncomputable def tm (sc:Scope) (n:Str) (p:Pos) (lp:Pos) (Lz:Scope):Bool:=
  sc.kind==.function&&sc.names.lookup n==some .local&&p.line==lp.line&&!(Lz.names.any fun y=>y.1==n&&(y.2==.local||y.2==.cell))
noncomputable def me (sc:Scope) (xs:List Nm):Bool:=xs.all fun x=>kindB sc (ah x) .local
mutual
noncomputable def dS:PS->Tr->Stmt
  | .asg x e,t=>.Assign [.Name (ah x) (t.a 0).d.p] (dE e (t.a 1)) t.d.p
  | .km x elt y it,t=>.Assign [.Name (ah x) (t.a 0).d.p] (dE (.comp elt y it) (t.a 1)) t.d.p
  | .aP o n e,t=>.Assign [dE (.attr o n) (t.a 0)] (dE e (t.a 1)) t.d.p
  | .iy o i e,t=>.Assign [dE (.sub o i) (t.a 0)] (dE e (t.a 1)) t.d.p
  | .par xs e,t=>.Assign [.Tuple (dN xs (t.a 0)) (t.a 0).d.k (t.a 0).d.p] (dE e (t.a 1)) t.d.p
  | .Og xs e,t=>.Assign [.Tuple (dN xs (t.a 0)) (t.a 0).d.k (t.a 0).d.p] (dE e (t.a 1)) t.d.p
  | .bt c x f,t=>.If (dE c (t.a 0)) (pN x (t.a 1)) (pN f (t.a 2)) t.d.p
  | .ret e,t=>.Return (some (dE e (t.a 0))) t.d.p
  | .qV,t=>.Return none t.d.p
  | .expr e,t=>.Expr (dE e (t.a 0)) t.d.p
  | .mA x it b,t=>.For (.Name (ah x) (t.a 0).d.p) (dE it (t.a 1)) (pN b (t.a 2)) [] t.d.p
  | .pM x y i j b,t=>.For (.Tuple (dN [x,y] (t.a 0)) (t.a 0).d.k (t.a 0).d.p) (dE (.call .n9 [i,j]) (t.a 1)) (pN b (t.a 2)) [] t.d.p
  | .sR c b,t=>.While (dE c (t.a 0)) (pN b (t.a 1)) [] t.d.p
  | .dead,t=>t.d.s
noncomputable def pN:List PS->Tr->List Stmt
  | [],_=>[]
  | s::r,t=>dS s (t.a 0)::pN r (t.a 1)
end
mutual
noncomputable def oS (sc:Scope):PS->Tr->Bool
  | .asg x e,t=>kindB sc (ah x) .local&&(oE sc e (t.a 1)&&iM (dE e (t.a 1)))
  | .km x elt y it,t=>kindB sc (ah x) .local&&(tm sc (ah x) (t.a 0).d.p (t.a 1).d.p (t.a 1).d.sc&&oE sc (.comp elt y it) (t.a 1))
  | .aP o n e,t=>oE sc (.attr o n) (t.a 0)&&(oE sc e (t.a 1)&&iM (dE e (t.a 1)))
  | .iy o i e,t=>oE sc (.sub o i) (t.a 0)&&(oE sc e (t.a 1)&&iM (dE e (t.a 1)))
  | .par xs e,t=>me sc xs&&(e.ctorIdx==(PE.tup []).ctorIdx&&(oE sc e (t.a 1)&&(zT sc xs (dN xs (t.a 0)) (match dE e (t.a 1) with | .Tuple vs _ _=>vs | _=>[])).all id))
  | .Og xs e,t=>me sc xs&&(oE sc e (t.a 1)&&(iM (dE e (t.a 1))&&!uX (dE e (t.a 1))))
  | .bt c x f,t=>oE sc c (t.a 0)&&(rg sc x (t.a 1)&&rg sc f (t.a 2))
  | .ret e,t=>oE sc e (t.a 0)
  | .qV,_=>true
  | .expr e,t=>oE sc e (t.a 0)&&iM (dE e (t.a 0))
  | .mA x it b,t=>kindB sc (ah x) .local&&(oE sc it (t.a 1)&&(rg sc b (t.a 2)&&pF (dE it (t.a 1))))
  | .pM x y i j b,t=>me sc [x,y]&&(oE sc (.call .n9 [i,j]) (t.a 1)&&rg sc b (t.a 2))
  | .sR c b,t=>oE sc c (t.a 0)&&rg sc b (t.a 1)
  | .dead,_=>true
noncomputable def rg (sc:Scope):List PS->Tr->Bool
  | [],_=>true
  | s::r,t=>oS sc s (t.a 0)&&rg sc r (t.a 1)
end
inductive Nd where | xe (x:Expr) | xs (x:Stmt) | xl (x:List Expr) | xo (x:List (Option Expr)) | xb (x:List Stmt) | xz
noncomputable def Nd.q:Option Expr->Nd
  | some e=>.xe e
  | none=>.xz
noncomputable def Nd.lk:List Expr->List Nd
  | a::r=>[.xe a,.xl r]
  | []=>[]
noncomputable def Nd.kids:Nd->List Nd
  | .xe x=>match x with
    | .UnaryOp _ e _ | .Attribute e _ _=>[.xe e]
    | .Subscript a b _ | .BinOp a _ b _=>[.xe a,.xe b]
    | .Slice a b c _=>[.q a,.q b,.q c]
    | .Compare a _ l _=>[.xe a,.xl l]
    | .BoolOp _ l _ | .List l _ | .Tuple l _ _=>Nd.lk l
    | .IfExp a b c _=>[.xe a,.xe b,.xe c]
    | .Dict k v _=>[.xo k,.xl v]
    | .ListComp a (g::_) _ _=>[.xe a,.xe g.target,.xe g.iter]
    | .Call f l _ _=>[.xe f,.xl l]
    | _=>[]
  | .xs x=>match x with
    | .Assign (a::_) b _=>[.xe a,.xe b]
    | .If c a b _=>[.xe c,.xb a,.xb b]
    | .Return (some e) _ | .Expr e _=>[.xe e]
    | .For a b c _ _=>[.xe a,.xe b,.xb c]
    | .While c b _ _=>[.xe c,.xb b]
    | _=>[]
  | .xl l=>Nd.lk l
  | .xo (a::r)=>[.q a,.xo r]
  | .xb (a::r)=>[.xs a,.xb r]
  | _=>[]
noncomputable def Nd.dat:Nd->Dt
  | .xe x=>⟨x.pos,match x with | .Constant _ k _ | .Tuple _ k _=>k | _=>0,match x with | .ListComp _ _ sc _=>sc | _=>default,x,default⟩
  | .xs x=>⟨x.pos,0,default,default,x⟩
  | _=>⟨default,0,default,default,default⟩
noncomputable def Nd.tr (n:Nd):Tr:=fun l=>(l.foldl (fun n i=>Pj .xz n.kids i) n).dat
set_option genInjectivity true in
inductive AV where
  | none | bool (b:Bool) | int (i:Int) | str (x:Nm)
  | ref (a:Addr) | glob
  | tup (vs:List AV) | lst (vs:List AV) | xM (vs:List AV) | kC (es:List (Int×AV)) | obj (c:Nm) (fs:List (Nm×AV))
  deriving Inhabited
inductive bQ where
  | list (vs:List AV) | dict (es:List (Int×AV)) | inst (c:Nm) (d:Addr) | aD (fs:List (Nm×AV))
abbrev St:=Addr->Option bQ
noncomputable def St.upd (st:St) (a:Addr) (o:bQ):St:=fun b=>if b=a then some o else st b
noncomputable def St.del (st:St) (a:Addr):St:=fun b=>if b=a then none else st b
abbrev Loc:=List (Nm×AV)
section lists
variable {α β:Type} [DecidableEq α]
noncomputable def ae (es:List (α×β)) (k:α):Option β:=(es.find? fun kv=>kv.1=k).map (·.2)
noncomputable def putK (es:List (α×β)) (k:α) (v:β):List (α×β):=
  if es.any (fun kv=>kv.1=k) then es.map (fun kv=>if kv.1=k then (kv.1,v) else kv) else es++[(k,v)]
theorem Cc (k:α):ae ([]:List (α×β)) k=none:=rfl
theorem Am (k x:α) (v:β) (r:List (α×β)):ae ((x,v)::r) k=if x=k then some v else ae r k:=by
  unfold ae;rw [List.find?_cons];by_cases h:x=k<;>simp [h]
theorem Ej (es:List (α×β)) (r:List (α×β)) (k:α):ae (es++r) k=(ae es k).or (ae r k):=by
  induction es with
  | nil=>rfl
  | cons e es ih=>
    obtain ⟨x,v⟩:=e
    rw [List.cons_append,Am,Am,ih]
    split<;>rfl
theorem iU {es:List (α×β)} {k:α}:ae es k=none↔∀kv∈es,kv.1≠k:=by
  induction es with
  | nil=>simp [Cc]
  | cons e es ih=>
    obtain ⟨x,v⟩:=e
    rw [Am]
    by_cases h:x=k<;>simp [h,ih]
theorem vC (es:List (α×β)) (k x:α) (v:β):ae (es.map (fun kv=>if kv.1=k then (kv.1,v) else kv)) x=if x=k then (ae es k).map (fun _=>v) else ae es x:=by
  induction es with
  | nil=>simp [Cc]
  | cons e es ih=>
    obtain ⟨y,u⟩:=e
    rw [List.map_cons]
    by_cases hy:y=k
    · subst hy
      rw [if_pos rfl,Am,ih,Am,Am]
      by_cases hx:x=y
      · subst hx;simp
      · have:¬y=x:=fun e=>hx e.symm
        simp [this,hx]
    · rw [if_neg hy,Am,ih,Am,Am]
      by_cases hx:x=k
      · subst hx;simp [hy]
      · simp [hx]
theorem Af (es:List (α×β)) (k x:α) (v:β):ae (putK es k v) x=if x=k then some v else ae es x:=by
  unfold putK
  split
  · rename_i h
    rw [vC]
    by_cases hx:x=k
    · subst hx
      simp only [if_true]
      cases hg:ae es x with
      | none=>
        rw [iU] at hg
        rw [List.any_eq_true] at h
        refine bq h ?_;clear h;intro kv hm he
        exact absurd (of_decide_eq_true he) (hg kv hm)
      | some u=>rfl
    · simp [hx]
  · rename_i h
    rw [Ej,Am,Cc]
    by_cases hx:x=k
    · subst hx
      have:ae es x=none:=by
        rw [iU]
        intro kv hm he
        exact h (List.any_eq_true.mpr ⟨kv,hm,decide_eq_true he⟩)
      simp [this]
    · have:¬k=x:=fun e=>hx e.symm
      simp [this,hx]
theorem AN (es:List (α×β)) (k:α) (v:β):(putK es k v).length≤es.length+1:=by
  unfold putK;split<;>simp
end lists
noncomputable def nx:List PS:=[(.aP (.loc .aj) .aT (.loc .aT))]
noncomputable def m9:List Nm:=[.aj,.aT]
noncomputable def nu:List PS:=[(.aP (.loc .aj) .aU (.loc .aU))]
noncomputable def m6:List Nm:=[.aj,.aU]
noncomputable def mJ:List PS:=[(.aP (.loc .aj) .bJ (.loc .bJ))]
noncomputable def mz:List Nm:=[.aj,.bJ]
noncomputable def kh:List PS:=[(.aP (.loc .aj) .bJ (.loc .bJ)),(.aP (.loc .aj) .aT (.loc .aT))]
noncomputable def j7:List Nm:=[.aj,.bJ,.aT]
noncomputable def se:List PS:=[(.aP (.loc .aj) .dT (.loc .dT)),(.aP (.loc .aj) .ej (.loc .ej)),(.aP (.loc .aj) .gU (.loc .gU))]
noncomputable def rf:List Nm:=[.aj,.dT,.ej,.gU]
noncomputable def mI:List PS:=[(.aP (.loc .aj) .aC (.loc .aC)),(.aP (.loc .aj) .aG (.loc .aG)),(.aP (.loc .aj) .bc (.loc .bc)),(.aP (.loc .aj) .dp (.loc .dp))]
noncomputable def my:List Nm:=[.aj,.aC,.aG,.bc,.dp]
noncomputable def oW:List PS:=[(.aP (.loc .aj) .b5 (.loc .b5)),(.aP (.loc .aj) .aQ (.loc .aQ))]
noncomputable def nY:List Nm:=[.aj,.b5,.aQ]
noncomputable def qb:List PS:=[(.aP (.loc .aj) .eV (.loc .eV))]
noncomputable def pD:List Nm:=[.aj,.eV]
noncomputable def oV:List PS:=[(.aP (.loc .aj) .cN (.loc .cN)),(.aP (.loc .aj) .aQ (.loc .aQ))]
noncomputable def nX:List Nm:=[.aj,.cN,.aQ]
noncomputable def qc:List PS:=[(.aP (.loc .aj) .dg (.loc .dg)),(.aP (.loc .aj) .bo (.loc .bo)),(.aP (.loc .aj) .aU (.loc .aU)),(.aP (.loc .aj) .cI (.loc .cI)),(.aP (.loc .aj) .eW .none),(.aP (.loc .aj) .iN (.freeze (.list []))),(.aP (.loc .aj) .gC (.freeze (.list [])))]
noncomputable def pE:List Nm:=[.aj,.dg,.bo,.aU,.cI]
noncomputable def nv:List PS:=[(.aP (.loc .aj) .bo (.loc .bo)),(.aP (.loc .aj) .aR (.neg 1)),(.aP (.loc .aj) .cI (.freeze (.list []))),(.aP (.loc .aj) .jE (.neg 1)),(.aP (.loc .aj) .eD (.neg 1)),(.aP (.loc .aj) .aW (.neg 1))]
noncomputable def m8:List Nm:=[.aj,.bo]
noncomputable def jf:List PS:=[(.aP (.loc .aj) .aC (.loc .aC)),(.aP (.loc .aj) .gi (.loc .gi)),(.aP (.loc .aj) .aG (.loc .aG)),(.aP (.loc .aj) .bc (.loc .bc)),(.aP (.loc .aj) .aW (.neg 1)),(.aP (.loc .aj) .gj (.loc .aC)),(.aP (.loc .aj) .eC (.neg 1)),(.aP (.loc .aj) .fT (.str .b4)),(.aP (.loc .aj) .ja (.list [])),(.aP (.loc .aj) .bw .none)]
noncomputable def i9:List Nm:=[.aj,.aC,.gi,.aG,.bc]
noncomputable def ij:List PS:=[(.aP (.loc .aj) .dI (.dict [] [])),(.aP (.loc .aj) .dJ (.loc .dJ))]
noncomputable def ib:List Nm:=[.aj,.dJ]
noncomputable def kj:List PS:=[(.ret (.sub (.attr (.loc .aj) .dI) (.loc .aC)))]
noncomputable def j9:List Nm:=[.aj,.aC]
noncomputable def lY:List PS:=[(.iy (.attr (.loc .aj) .dI) (.attr (.loc .aq) .aC) (.loc .aq))]
noncomputable def lF:List Nm:=[.aj,.aq]
noncomputable def oU:List PS:=[(.aP (.loc .aj) .bo (.loc .bo)),(.aP (.loc .aj) .af (.loc .af)),(.aP (.loc .aj) .aI (.loc .aI)),(.aP (.loc .aj) .cO (.loc .cO))]
noncomputable def nW:List Nm:=[.aj,.bo,.af,.aI,.cO]
noncomputable def iI:List PS:=[(.aP (.loc .aj) .dZ (.loc .dZ)),(.aP (.loc .aj) .aJ (.call .aE [(.aB (.loc .dZ) .bD [])])),(.aP (.loc .aj) .cH .none),(.aP (.loc .aj) .eO (.list [])),(.aP (.loc .aj) .fM (.list [])),(.aP (.loc .aj) .fU (.list [])),(.aP (.loc .aj) .eD (.dict [] []))]
noncomputable def iz:List Nm:=[.aj,.dZ]
noncomputable def kU:List PS:=[(.ret (.aB (.attr (.loc .aj) .dZ) .bD []))]
noncomputable def kO:List Nm:=[.aj]
noncomputable def kS:List PS:=[(.ret (.aB (.attr (.loc .aj) .eD) .ur [(.loc .aU),(.loc .aU)]))]
noncomputable def kN:List Nm:=[.aj,.aU]
noncomputable def lZ:List PS:=[(.expr (.aB (.attr (.loc .aj) .eO) .dz [(.freeze (.call .bF [(.loc .bo),(.loc .af),(.loc .aI),(.loc .cO)]))]))]
noncomputable def lG:List Nm:=[.aj,.bo,.af,.aI,.cO]
noncomputable def jv:List PS:=[(.mA .az (.freeze (.rev (.loc .fB))) [(.expr (.aB (.attr (.loc .aj) .eO) .dz [(.loc .az)]))])]
noncomputable def ji:List Nm:=[.aj,.fB]
noncomputable def kQ:List PS:=[(.asg .k6 (.bin .sub (.call .bZ [(.attr (.loc .aj) .fM)]) (.loc .du))),(.asg .aM (.freeze (.slice (.attr (.loc .aj) .fM) (some (.loc .k6)) none))),(.aP (.loc .aj) .fM (.slice (.attr (.loc .aj) .fM) none (some (.loc .k6)))),(.ret (.loc .aM))]
noncomputable def kM:List Nm:=[.aj,.du]
noncomputable def l8:List PS:=[(.expr (.aB (.attr (.attr (.loc .aj) .cH) .ja) .dz [(.loc .cN)]))]
noncomputable def lI:List Nm:=[.aj,.cN]
noncomputable def l9:List PS:=[(.asg .aq (.call .aS [(.aB (.loc .aj) .bD []),(.bI .uE),(.loc .aG),(.loc .bc)])),(.aP (.loc .aq) .gj (.attr (.attr (.loc .aj) .cH) .gj)),(.aP (.loc .aq) .eC (.attr (.attr (.loc .aj) .cH) .aC)),(.expr (.aB (.attr (.loc .aj) .aJ) .mP [(.loc .aq)])),(.ret (.loc .aq))]
noncomputable def lJ:List Nm:=[.aj,.aG,.bc]
noncomputable def l7:List PS:=[(.asg .aW (.aB (.loc .aj) .bD [])),(.expr (.aB (.loc .aj) .iA [(.call .g8 [(.loc .aW),(.loc .eW)])])),(.ret (.loc .aW))]
noncomputable def lH:List Nm:=[.aj,.eW]
noncomputable def jw:List PS:=[(.ret (.attr (.aB (.attr (.loc .aj) .aJ) .aq [(.attr (.attr (.loc .aj) .cH) .gj)]) .aW))]
noncomputable def jj:List Nm:=[.aj]
noncomputable def kl:List PS:=[(.bt (.cmp .eq (.loc .aI) (.bI .eG)) [(.expr (.aB (.attr (.loc .aj) .fM) .dz [(.loc .aW)]))] [(.bt (.cmp .eq (.loc .aI) (.bI .jn)) [(.aP (.attr (.loc .aj) .cH) .bw (.call .fX [(.aB (.loc .aj) .fL []),(.freeze (.list [(.loc .aW)]))]))] [])])]
noncomputable def ka:List Nm:=[.aj,.aI,.aW]
noncomputable def fP:List PS:=[(.aP (.loc .aj) .uo (.list [])),(.aP (.loc .aj) .mS (.dict [] []))]
noncomputable def fJ:List Nm:=[.aj]
noncomputable def jW:List PS:=[(.aP (.loc .aj) .dI (.call .cJ [])),(.aP (.loc .aj) .bw (.int 0)),(.aP (.loc .aj) .jF (.dict [] [])),(.aP (.loc .aj) .ja (.dict [] [])),(.aP (.loc .aj) .pG .none)]
noncomputable def jB:List Nm:=[.aj]
noncomputable def mH:List PS:=[(.aP (.loc .aj) .bw (.bin .add (.attr (.loc .aj) .bw) (.int 1))),(.ret (.attr (.loc .aj) .bw))]
noncomputable def mx:List Nm:=[.aj]
noncomputable def ki:List PS:=[(.ret (.aB (.attr (.loc .aj) .jF) .ur [(.loc .aC),(.str .b4)]))]
noncomputable def j8:List Nm:=[.aj,.aC]
noncomputable def wi:List PS:=[(.bt (.or (.cmp .ne (.attr (.loc .af) .b9) (.bI .iE)) (.cmp .ne (.attr (.attr (.loc .af) .b5) .b9) (.bI .lN))) [(.ret (.bool false))] []),(.ret (.and (.cmp .lt (.attr (.attr (.loc .af) .b5) .bc) (.int 0)) (.cmp .eq (.call .bZ [(.attr (.attr (.loc .af) .b5) .aG)]) (.call .bZ [(.attr (.loc .af) .aQ)]))))]
noncomputable def tS:List Nm:=[.af]
noncomputable def qa:List PS:=[(.asg .aM (.call .fO [(.loc .dg),(.str .k8),(.neg 1),(.freeze (.list []))])),(.aP (.loc .aM) .eW (.loc .eW)),(.ret (.freeze (.loc .aM)))]
noncomputable def pA:List Nm:=[.dg,.eW]
noncomputable def wk:List PS:=[(.asg .aM (.call .fO [(.loc .dg),(.str .aR),(.neg 1),(.freeze (.list []))])),(.aP (.loc .aM) .gC (.freeze (.list [(.loc .aC)]))),(.ret (.freeze (.loc .aM)))]
noncomputable def tU:List Nm:=[.dg,.aC]
noncomputable def oT:List PS:=[(.asg .aM (.call .d5 [(.bI .iD)])),(.aP (.loc .aM) .aR (.loc .aR)),(.aP (.loc .aM) .cI (.freeze (.call .jl [(.loc .cI)]))),(.aP (.loc .aM) .jE (.loc .jE)),(.aP (.loc .aM) .aW (.loc .aW)),(.ret (.freeze (.loc .aM)))]
noncomputable def nV:List Nm:=[.aR,.cI,.jE,.aW]
noncomputable def oK:List PS:=[(.asg .aM (.call .d5 [(.bI .uB)])),(.aP (.loc .aM) .jE (.loc .jE)),(.aP (.loc .aM) .cI (.freeze (.call .jl [(.loc .cI)]))),(.ret (.freeze (.loc .aM)))]
noncomputable def nP:List Nm:=[.jE,.cI]
noncomputable def oP:List PS:=[(.asg .aM (.call .d5 [(.bI .uC)])),(.aP (.loc .aM) .aW (.loc .aW)),(.aP (.loc .aM) .cI (.freeze (.call .jl [(.loc .cI)]))),(.ret (.freeze (.loc .aM)))]
noncomputable def nS:List Nm:=[.aW,.cI]
noncomputable def mG:List PS:=[(.asg .aM (.call .d5 [(.bI .oj)])),(.aP (.loc .aM) .aR (.loc .dT)),(.aP (.loc .aM) .jE (.loc .ej)),(.aP (.loc .aM) .eD (.loc .gU)),(.ret (.freeze (.loc .aM)))]
noncomputable def mw:List Nm:=[.dT,.ej,.gU]
noncomputable def oQ:List PS:=[(.asg .aq (.call .aS [(.aB (.loc .aa) .bD []),(.bI .uD),(.freeze (.call .jl [(.attr (.loc .af) .aG)])),(.attr (.loc .af) .bc)])),(.aP (.loc .aq) .aW (.aB (.loc .aa) .bD [])),(.aP (.loc .aq) .eC (.attr (.attr (.loc .aa) .cH) .aC)),(.aP (.loc .aq) .fT (.aB (.attr (.loc .aa) .dZ) .gS [(.attr (.loc .af) .aC)])),(.expr (.aB (.attr (.loc .aa) .aJ) .mP [(.loc .aq)])),(.expr (.aB (.attr (.loc .aa) .fU) .dz [(.tup [(.loc .aq),(.attr (.loc .af) .dp)])])),(.ret (.loc .aq))]
noncomputable def nT:List Nm:=[.aa,.af]
noncomputable def pZ:List PS:=[(.bt (.cmp .ne (.loc .aI) (.bI .iB)) [(.expr (.aB (.loc .aa) .dw [(.loc .aI),(.aB (.loc .aa) .jk [(.attr (.loc .af) .aT)])]))] [])]
noncomputable def pz:List Nm:=[.aa,.af,.aI]
noncomputable def pY:List PS:=[(.expr (.aB (.loc .aa) .dw [(.loc .aI),(.aB (.loc .aa) .jG [(.attr (.loc .af) .aU)])]))]
noncomputable def pv:List Nm:=[.aa,.af,.aI]
noncomputable def oR:List PS:=[(.asg .aW (.aB (.loc .aa) .bD [])),(.expr (.aB (.loc .aa) .iA [(.freeze (.call .fO [(.loc .aW),(.str .lL),(.attr (.loc .af) .bJ),(.freeze (.list []))]))])),(.expr (.aB (.loc .aa) .dw [(.loc .aI),(.loc .aW)]))]
noncomputable def nU:List Nm:=[.aa,.af,.aI]
noncomputable def kF:List PS:=[(.bt (.cmp .eq (.loc .aI) (.bI .iB)) [.qV] []),(.asg .aW (.aB (.loc .aa) .bD [])),(.expr (.aB (.loc .aa) .iA [(.call .jM [(.loc .aW),(.attr (.call .fY [(.loc .aa),(.loc .af)]) .aC)])])),(.expr (.aB (.loc .aa) .dw [(.loc .aI),(.loc .aW)]))]
noncomputable def kx:List Nm:=[.aa,.af,.aI]
noncomputable def wm:List PS:=[(.asg .bo (.bt (.cmp .eq (.attr (.loc .af) .b9) (.bI .lO)) (.str .ux) (.str .bV))),(.expr (.aB (.loc .aa) .bK [(.freeze (.list [(.freeze (.call .bF [(.str .af),(.attr (.loc .af) .aT),(.bI .eG),(.freeze (.list []))])),(.freeze (.call .bF [(.loc .bo),(.loc .af),(.loc .aI),(.freeze (.list []))]))]))]))]
noncomputable def tV:List Nm:=[.aa,.af,.aI]
noncomputable def zi:List PS:=[(.expr (.aB (.loc .aa) .bK [(.freeze (.list [(.freeze (.call .bF [(.str .af),(.attr (.loc .af) .dT),(.bI .eG),(.freeze (.list []))])),(.freeze (.call .bF [(.str .dh),(.loc .af),(.loc .aI),(.freeze (.list []))]))]))]))]
noncomputable def ya:List Nm:=[.aa,.af,.aI]
noncomputable def wo:List PS:=[(.km .fB (.freeze (.call .bF [(.str .af),(.loc .uj),(.bI .iB),(.freeze (.list []))])) .uj (.freeze (.slice (.attr (.loc .af) .eV) none (some (.neg 1))))),(.expr (.aB (.loc .aa) .bK [(.freeze (.bin .add (.loc .fB) (.freeze (.list [(.freeze (.call .bF [(.str .af),(.sub (.attr (.loc .af) .eV) (.neg 1)),(.loc .aI),(.freeze (.list []))]))]))))]))]
noncomputable def tW:List Nm:=[.aa,.af,.aI]
noncomputable def sa:List PS:=[(.km .fB (.freeze (.call .bF [(.str .af),(.loc .iO),(.bI .eG),(.freeze (.list []))])) .iO (.attr (.loc .af) .aQ)),(.expr (.aB (.loc .aa) .bK [(.freeze (.bin .add (.loc .fB) (.freeze (.list [(.freeze (.call .bF [(.str .cM),(.loc .af),(.loc .aI),(.freeze (.list []))]))]))))]))]
noncomputable def q8:List Nm:=[.aa,.af,.aI]
noncomputable def sd:List PS:=[(.km .fB (.freeze (.call .bF [(.str .af),(.loc .iO),(.bI .eG),(.freeze (.list []))])) .iO (.attr (.loc .af) .aQ)),(.bt (.call .jH [(.loc .af)]) [(.expr (.aB (.loc .aa) .bK [(.freeze (.bin .add (.loc .fB) (.freeze (.list [(.freeze (.call .bF [(.str .ic),(.loc .af),(.loc .aI),(.freeze (.list []))]))]))))]))] [(.expr (.aB (.loc .aa) .bK [(.freeze (.bin .add (.freeze (.bin .add (.freeze (.list [(.freeze (.call .bF [(.str .af),(.attr (.loc .af) .b5),(.bI .eG),(.freeze (.list []))]))])) (.loc .fB))) (.freeze (.list [(.freeze (.call .bF [(.str .d8),(.loc .af),(.loc .aI),(.freeze (.list []))]))]))))]))])]
noncomputable def q9:List Nm:=[.aa,.af,.aI]
noncomputable def pX:List PS:=[(.bt (.cmp .eq (.attr (.loc .af) .b9) (.bI .qj)) [(.expr (.call .g7 [(.loc .aa),(.loc .af),(.loc .aI)]))] [(.bt (.cmp .eq (.attr (.loc .af) .b9) (.bI .qi)) [(.expr (.call .gZ [(.loc .aa),(.loc .af),(.loc .aI)]))] [(.bt (.cmp .eq (.attr (.loc .af) .b9) (.bI .oi)) [(.expr (.call .f7 [(.loc .aa),(.loc .af),(.loc .aI)]))] [(.bt (.cmp .eq (.attr (.loc .af) .b9) (.bI .lN)) [(.expr (.call .fZ [(.loc .aa),(.loc .af),(.loc .aI)]))] [.dead])])])])]
noncomputable def pq:List Nm:=[.aa,.af,.aI]
noncomputable def rX:List PS:=[(.asg .af (.attr (.loc .az) .af)),(.bt (.cmp .eq (.attr (.loc .af) .b9) (.bI .iE)) [(.expr (.call .iT [(.loc .aa),(.loc .af),(.attr (.loc .az) .aI)]))] [(.bt (.cmp .eq (.attr (.loc .af) .b9) (.bI .Mh)) [(.expr (.call .k7 [(.loc .aa),(.loc .af),(.attr (.loc .az) .aI)]))] [(.bt (.cmp .eq (.attr (.loc .af) .b9) (.bI .z7)) [(.expr (.call .jO [(.loc .aa),(.loc .af),(.attr (.loc .az) .aI)]))] [(.bt (.cmp .eq (.attr (.loc .af) .b9) (.bI .uA)) [(.expr (.call .fG [(.loc .aa),(.loc .af),(.attr (.loc .az) .aI)]))] [(.bt (.cmp .eq (.attr (.loc .af) .b9) (.bI .z8)) [(.expr .dead)] [(.bt (.cmp .Mr (.attr (.loc .af) .b9) (.tup [(.bI .jQ),(.bI .lO)])) [(.expr (.call .jN [(.loc .aa),(.loc .af),(.attr (.loc .az) .aI)]))] [(.expr (.call .gY [(.loc .aa),(.loc .af),(.attr (.loc .az) .aI)]))])])])])])])]
noncomputable def qZ:List Nm:=[.aa,.az]
noncomputable def wj:List PS:=[(.asg .ai (.aB (.loc .aa) .ez [(.int 1)])),(.expr (.aB (.loc .aa) .iA [(.freeze (.call .fO [(.neg 1),(.attr (.loc .az) .bo),(.attr (.attr (.loc .az) .af) .bJ),(.loc .ai)]))])),(.bt (.cmp .ne (.attr (.loc .az) .aI) (.bI .iB)) [(.expr (.aB (.loc .aa) .dw [(.attr (.loc .az) .aI),(.aB (.loc .aa) .jk [(.bI .bz)])]))] [])]
noncomputable def tT:List Nm:=[.aa,.az]
noncomputable def rW:List PS:=[(.asg .aW (.aB (.loc .aa) .bD [])),(.expr (.aB (.loc .aa) .iA [(.freeze (.call .fO [(.loc .aW),(.str .cM),(.attr (.attr (.loc .az) .af) .cN),(.aB (.loc .aa) .ez [(.call .bZ [(.attr (.attr (.loc .az) .af) .aQ)])])]))])),(.expr (.aB (.loc .aa) .dw [(.attr (.loc .az) .aI),(.loc .aW)]))]
noncomputable def qY:List Nm:=[.aa,.az]
noncomputable def oM:List PS:=[(.asg .ai (.aB (.loc .aa) .ez [(.call .bZ [(.attr (.attr (.loc .az) .af) .aQ)])])),(.asg .jJ (.attr (.attr (.loc .az) .af) .b5)),(.pM .aU .aW (.attr (.loc .jJ) .aG) (.loc .ai) [(.iy (.attr (.loc .aa) .eD) (.loc .aU) (.loc .aW))]),(.expr (.aB (.loc .aa) .ke [(.str .af),(.attr (.loc .jJ) .dp),(.attr (.loc .az) .aI),(.freeze (.list []))]))]
noncomputable def nQ:List Nm:=[.aa,.az]
noncomputable def r9:List PS:=[(.asg .ai (.aB (.loc .aa) .ez [(.bin .add (.int 1) (.call .bZ [(.attr (.attr (.loc .az) .af) .aQ)]))])),(.bt (.cmp .eq (.attr (.loc .az) .aI) (.bI .jn)) [(.aP (.attr (.loc .aa) .cH) .bw (.call .ec [(.sub (.loc .ai) (.int 0)),(.freeze (.slice (.loc .ai) (some (.int 1)) none)),(.neg 1),(.aB (.loc .aa) .fL [])])),.qV] []),(.asg .aW (.aB (.loc .aa) .bD [])),(.asg .fC (.bt (.cmp .eq (.attr (.loc .az) .aI) (.bI .eG)) (.aB (.loc .aa) .cw [(.freeze (.list [(.loc .aW)])),(.neg 1)]) (.aB (.loc .aa) .cw [(.freeze (.list [])),(.loc .aW)]))),(.aP (.attr (.loc .aa) .cH) .bw (.call .ec [(.sub (.loc .ai) (.int 0)),(.freeze (.slice (.loc .ai) (some (.int 1)) none)),(.attr (.loc .fC) .aC),(.neg 1)])),(.aP (.loc .aa) .cH (.loc .fC)),(.bt (.cmp .eq (.attr (.loc .az) .aI) (.bI .eG)) [(.expr (.aB (.attr (.loc .aa) .fM) .dz [(.loc .aW)]))] [])]
noncomputable def q7:List Nm:=[.aa,.az]
noncomputable def oN:List PS:=[(.asg .dT (.sub (.aB (.loc .aa) .ez [(.int 1)]) (.int 0))),(.asg .ej (.aB (.loc .aa) .cw [(.freeze (.list [])),(.neg 1)])),(.asg .gU (.aB (.loc .aa) .cw [(.freeze (.list [])),(.neg 1)])),(.asg .af (.attr (.loc .az) .af)),(.bt (.cmp .eq (.attr (.loc .az) .aI) (.bI .jn)) [(.aP (.attr (.loc .aa) .cH) .bw (.call .di [(.loc .dT),(.attr (.loc .ej) .aC),(.attr (.loc .gU) .aC)])),(.expr (.aB (.loc .aa) .bK [(.freeze (.list [(.freeze (.call .bF [(.str .aY),.none,(.int 0),(.freeze (.list [(.attr (.loc .ej) .aC)]))])),(.freeze (.call .bF [(.str .af),(.attr (.loc .af) .ej),(.bI .jn),(.freeze (.list []))])),(.freeze (.call .bF [(.str .aY),.none,(.int 0),(.freeze (.list [(.attr (.loc .gU) .aC)]))])),(.freeze (.call .bF [(.str .af),(.attr (.loc .af) .gU),(.bI .jn),(.freeze (.list []))]))]))])),.qV] []),(.asg .aG (.bt (.cmp .eq (.attr (.loc .az) .aI) (.bI .eG)) (.freeze (.list [(.aB (.loc .aa) .bD [])])) (.freeze (.list [])))),(.asg .fC (.aB (.loc .aa) .cw [(.loc .aG),(.neg 1)])),(.aP (.attr (.loc .aa) .cH) .bw (.call .di [(.loc .dT),(.attr (.loc .ej) .aC),(.attr (.loc .gU) .aC)])),(.expr (.aB (.loc .aa) .bK [(.freeze (.list [(.freeze (.call .bF [(.str .aY),.none,(.int 0),(.freeze (.list [(.attr (.loc .ej) .aC)]))])),(.freeze (.call .bF [(.str .af),(.attr (.loc .af) .ej),(.attr (.loc .az) .aI),(.freeze (.list []))])),(.freeze (.call .bF [(.str .cY),.none,(.attr (.loc .az) .aI),(.freeze (.list [(.attr (.loc .fC) .aC)]))])),(.freeze (.call .bF [(.str .aY),.none,(.int 0),(.freeze (.list [(.attr (.loc .gU) .aC)]))])),(.freeze (.call .bF [(.str .af),(.attr (.loc .af) .gU),(.attr (.loc .az) .aI),(.freeze (.list []))])),(.freeze (.call .bF [(.str .cY),.none,(.attr (.loc .az) .aI),(.freeze (.list [(.attr (.loc .fC) .aC)]))])),(.freeze (.call .bF [(.str .aY),.none,(.int 0),(.freeze (.list [(.attr (.loc .fC) .aC)]))])),(.freeze (.call .bF [(.str .cP),.none,(.int 0),(.loc .aG)]))]))]))]
noncomputable def nR:List Nm:=[.aa,.az]
noncomputable def pW:List PS:=[(.aP (.loc .aa) .cH (.aB (.attr (.loc .aa) .aJ) .aq [(.sub (.attr (.loc .az) .cO) (.int 0))]))]
noncomputable def pn:List Nm:=[.aa,.az]
noncomputable def rY:List PS:=[(.asg .ai (.bt (.cmp .eq (.attr (.loc .az) .aI) (.bI .eG)) (.aB (.loc .aa) .ez [(.int 1)]) (.freeze (.list [])))),(.aP (.attr (.loc .aa) .cH) .bw (.call .fV [(.sub (.attr (.loc .az) .cO) (.int 0)),(.loc .ai)]))]
noncomputable def q5:List Nm:=[.aa,.az]
noncomputable def rZ:List PS:=[(.expr (.aB (.attr (.loc .aa) .fM) .oa [(.attr (.loc .az) .cO)]))]
noncomputable def q6:List Nm:=[.aa,.az]
noncomputable def zh:List PS:=[(.bt (.cmp .eq (.attr (.loc .az) .bo) (.str .aY)) [(.expr (.call .gX [(.loc .aa),(.loc .az)]))] [(.bt (.cmp .eq (.attr (.loc .az) .bo) (.str .cY)) [(.expr (.call .fF [(.loc .aa),(.loc .az)]))] [(.bt (.cmp .eq (.attr (.loc .az) .bo) (.str .cP)) [(.expr (.call .iR [(.loc .aa),(.loc .az)]))] [(.expr (.call .jK [(.loc .aa),(.loc .az)]))])])])]
noncomputable def xZ:List Nm:=[.aa,.az]
noncomputable def QR:List PS:=[(.bt (.cmp .eq (.attr (.loc .az) .bo) (.str .af)) [(.expr (.call .iQ [(.loc .aa),(.loc .az)]))] [(.bt (.cmp .eq (.attr (.loc .az) .bo) (.str .d8)) [(.expr (.call .iS [(.loc .aa),(.loc .az)]))] [(.bt (.cmp .eq (.attr (.loc .az) .bo) (.str .ic)) [(.expr (.call .jL [(.loc .aa),(.loc .az)]))] [(.bt (.cmp .eq (.attr (.loc .az) .bo) (.str .cM)) [(.expr (.call .iP [(.loc .aa),(.loc .az)]))] [(.bt (.cmp .eq (.attr (.loc .az) .bo) (.str .dh)) [(.expr (.call .fW [(.loc .aa),(.loc .az)]))] [(.expr (.call .gV [(.loc .aa),(.loc .az)]))])])])])])]
noncomputable def Pa:List Nm:=[.aa,.az]
noncomputable def zj:List PS:=[(.aP (.loc .aa) .cH (.loc .aq)),(.expr (.aB (.loc .aa) .ke [(.str .af),(.loc .af),(.bI .jn),(.freeze (.list []))])),(.sR (.cmp .gt (.call .bZ [(.attr (.loc .aa) .eO)]) (.int 0)) [(.expr (.call .jm [(.loc .aa),(.aB (.attr (.loc .aa) .eO) .uq [])]))])]
noncomputable def yb:List Nm:=[.aa,.aq,.af]
noncomputable def wg:List PS:=[(.asg .aa (.call .ak [(.loc .dZ)])),(.asg .eA (.call .aS [(.attr (.attr (.loc .aa) .aJ) .dJ),(.bI .uD),(.freeze (.list [])),(.neg 1)])),(.aP (.loc .eA) .aW (.aB (.loc .aa) .bD [])),(.aP (.loc .eA) .fT (.str .eA)),(.expr (.aB (.attr (.loc .aa) .aJ) .mP [(.loc .eA)])),(.expr (.aB (.attr (.loc .aa) .fU) .dz [(.tup [(.loc .eA),(.loc .af)])])),(.sR (.cmp .gt (.call .bZ [(.attr (.loc .aa) .fU)]) (.int 0)) [(.Og [.aq,.dp] (.aB (.attr (.loc .aa) .fU) .uq [])),(.expr (.call .k9 [(.loc .aa),(.loc .aq),(.loc .dp)]))]),(.ret (.attr (.loc .aa) .aJ))]
noncomputable def tQ:List Nm:=[.af,.dZ]
noncomputable def pV:List PS:=[(.iy (.loc .bf) (.int 1) (.bin .add (.sub (.loc .bf) (.int 1)) (.int 1))),(.bt (.cmp .le (.sub (.loc .bf) (.int 1)) (.call .bZ [(.sub (.loc .bf) (.int 0))])) [(.ret (.bin .mod (.sub (.sub (.loc .bf) (.int 0)) (.bin .sub (.sub (.loc .bf) (.int 1)) (.int 1))) (.loc .du)))] []),(.ret (.bin .mod (.bin .fdiv (.bin .add (.bin .add (.bin .mul (.bin .mul (.sub (.loc .bf) (.int 1)) (.sub (.loc .bf) (.int 1))) (.int 37)) (.bin .mul (.int 11) (.sub (.loc .bf) (.int 1)))) (.bin .mul (.int 7) (.call .bZ [(.sub (.loc .bf) (.int 0))]))) (.int 5)) (.loc .du)))]
noncomputable def pj:List Nm:=[.bf,.du]
noncomputable def lW:List PS:=[(.bt (.and (.cmp .ne (.loc .b8) (.freeze (.list []))) (.cmp .gt (.call .bx [(.loc .bf),(.int 3)]) (.int 0))) [(.ret (.freeze (.call .gb [(.sub (.loc .b8) (.bin .sub (.bin .sub (.call .bZ [(.loc .b8)]) (.int 1)) (.call .bx [(.loc .bf),(.call .qg [(.call .bZ [(.loc .b8)]),(.int 3)])])))])))] []),(.ret (.freeze (.call .fE [(.sub (.freeze (.list [(.bool true),(.bool false),(.int 5)])) (.call .bx [(.loc .bf),(.int 3)]))])))]
noncomputable def lD:List Nm:=[.bf,.b8]
noncomputable def nr:List PS:=[(.par [.aC,.aG] (.tup [(.aB (.jU .bM) .bD []),(.freeze (.comp (.aB (.jU .bM) .bD []) .eP (.call .eU [(.loc .du)])))])),(.ret (.freeze (.call .fc [(.loc .aC),(.loc .aG),(.neg 1),(.call .dA [(.loc .bf),(.jU .bM),(.freeze (.bin .add (.loc .b8) (.loc .aG))),(.loc .dU)])])))]
noncomputable def m5:List Nm:=[.bf,.bM,.b8,.dU,.du]
noncomputable def pS:List PS:=[(.ret (.freeze (.comp (.call .dA [(.jU .bf),(.jU .bM),(.jU .b8),(.jU .dU)]) .eP (.call .eU [(.loc .du)]))))]
noncomputable def pf:List Nm:=[.bf,.bM,.b8,.dU,.du]
noncomputable def pU:List PS:=[(.iy (.loc .dU) (.int 0) (.bin .sub (.sub (.loc .dU) (.int 0)) (.int 1))),(.asg .aI (.bt (.cmp .gt (.sub (.loc .dU) (.int 0)) (.int 0)) (.call .bx [(.loc .bf),(.int 10)]) (.int 0))),(.bt (.cmp .eq (.loc .aI) (.int 1)) [(.asg .eB (.call .cF [(.loc .bf),(.loc .bM),(.loc .b8),(.loc .dU),(.int 3)])),(.ret (.freeze (.call .oh [(.sub (.loc .eB) (.int 0)),(.sub (.loc .eB) (.int 1)),(.sub (.loc .eB) (.int 2))])))] []),(.bt (.cmp .eq (.loc .aI) (.int 2)) [(.ret (.call .dk [(.loc .bf),(.loc .bM),(.loc .b8),(.loc .dU),(.call .bx [(.loc .bf),(.int 3)])]))] []),(.bt (.cmp .Mr (.loc .aI) (.tup [(.int 3),(.int 4)])) [(.asg .eB (.call .cF [(.loc .bf),(.loc .bM),(.loc .b8),(.loc .dU),(.bin .add (.int 1) (.call .bx [(.loc .bf),(.int 3)]))])),(.ret (.freeze (.call .iC [(.sub (.loc .eB) (.int 0)),(.freeze (.slice (.loc .eB) (some (.int 1)) none))])))] []),(.bt (.cmp .eq (.loc .aI) (.int 5)) [(.asg .du (.call .bx [(.loc .bf),(.int 3)])),(.asg .og (.call .dk [(.loc .bf),(.loc .bM),(.loc .b8),(.loc .dU),(.loc .du)])),(.ret (.freeze (.call .iC [(.loc .og),(.call .cF [(.loc .bf),(.loc .bM),(.loc .b8),(.loc .dU),(.loc .du)])])))] []),(.bt (.cmp .eq (.loc .aI) (.int 6)) [(.ret (.freeze (.call .jP [(.call .cF [(.loc .bf),(.loc .bM),(.loc .b8),(.loc .dU),(.int 2)])])))] []),(.bt (.cmp .eq (.loc .aI) (.int 7)) [(.asg .du (.bin .add (.int 1) (.call .bx [(.loc .bf),(.int 2)]))),(.ret (.freeze (.call .fk [(.bin .add (.int 7) (.loc .du)),(.call .cF [(.loc .bf),(.loc .bM),(.loc .b8),(.loc .dU),(.loc .du)])])))] []),(.bt (.cmp .eq (.loc .aI) (.int 8)) [(.ret (.freeze (.call .cG [(.bin .add (.int 1) (.call .bx [(.loc .bf),(.int 2)])),(.call .dA [(.loc .bf),(.loc .bM),(.loc .b8),(.loc .dU)])])))] []),(.ret (.bt (.cmp .eq (.loc .aI) (.int 9)) (.freeze (.call .eH [(.bin .add (.int 1) (.call .bx [(.loc .bf),(.int 4)]))])) (.call .eZ [(.loc .bf),(.loc .b8)])))]
noncomputable def ph:List Nm:=[.bf,.bM,.b8,.dU]
noncomputable def oJ:List PS:=[(.ret (.call .dC [(.loc .aT),(.int 3)]))]
noncomputable def nO:List Nm:=[.aT]
noncomputable def rV:List PS:=[(.bt (.call .au [(.loc .aT),(.bI .er)]) [(.bt (.cmp .ne (.sub (.loc .aT) (.int 0)) (.str .ng)) [(.ret (.str .ky))] []),(.ret (.bt (.cmp .gt (.loc .kf) (.int 0)) (.tup [(.call .dC [(.sub (.loc .aT) (.int 1)),(.bin .sub (.loc .kf) (.int 1))]),(.call .dC [(.sub (.loc .aT) (.int 2)),(.bin .sub (.loc .kf) (.int 1))])]) (.str .kf)))] []),(.ret (.bt (.cmp .KS (.loc .aT) (.bI .bz)) (.str .mQ) (.tup [(.call .au [(.loc .aT),(.bI .eE)]),(.call .jI [(.loc .aT)])])))]
noncomputable def qX:List Nm:=[.aT,.kf]
noncomputable def pT:List PS:=[(.bt (.cmp .eq (.loc .cN) (.int 8)) [(.ret (.and (.call .au [(.sub (.loc .ai) (.int 0)),(.bI .eE)]) (.not (.sub (.loc .ai) (.int 0)))))] []),(.ret (.tup [(.str .ng),(.sub (.loc .ai) (.int 0)),(.sub (.loc .ai) (.int 1))]))]
noncomputable def pg:List Nm:=[.cN,.ai]
noncomputable def pR:List PS:=[(.bt (.call .au [(.loc .af),(.bI .fE)]) [(.ret (.tup [(.str .fj),(.freeze (.list [(.attr (.loc .af) .aT)])),(.loc .bc)]))] []),(.bt (.call .au [(.loc .af),(.bI .gb)]) [(.ret (.tup [(.str .fj),(.freeze (.list [(.sub (.loc .ay) (.attr (.loc .af) .aU))])),(.loc .bc)]))] []),(.bt (.call .au [(.loc .af),(.bI .fc)]) [(.ret (.tup [(.str .fj),(.freeze (.list [(.tup [(.str .aR),(.loc .af),(.loc .ay)])])),(.loc .bc)]))] []),(.bt (.call .au [(.loc .af),(.bI .oh)]) [(.ret (.tup [(.str .jm),(.attr (.loc .af) .dT),(.loc .ay),(.tup [(.str .rh),(.loc .af),(.loc .ay),(.loc .bc)])]))] []),(.bt (.call .au [(.loc .af),(.bI .jP)]) [(.ret (.tup [(.str .jm),(.sub (.attr (.loc .af) .eV) (.int 0)),(.loc .ay),(.tup [(.str .um),(.loc .af),(.loc .ay),(.loc .bc)])]))] []),(.bt (.call .au [(.loc .af),(.bI .cG)]) [(.ret (.tup [(.str .jm),(.attr (.loc .af) .aT),(.loc .ay),(.tup [(.str .uk),(.loc .af),(.loc .ay),(.loc .bc)])]))] []),(.bt (.call .au [(.loc .af),(.bI .fk)]) [(.ret (.tup [(.str .jm),(.sub (.attr (.loc .af) .aQ) (.int 0)),(.loc .ay),(.tup [(.str .eB),(.loc .af),(.loc .ay),(.loc .bc),(.freeze (.slice (.attr (.loc .af) .aQ) (some (.int 1)) none)),(.freeze (.list []))])]))] []),(.ret (.tup [(.str .jm),(.attr (.loc .af) .b5),(.loc .ay),(.tup [(.str .eB),(.loc .af),(.loc .ay),(.loc .bc),(.attr (.loc .af) .aQ),(.freeze (.list []))])]))]
noncomputable def pe:List Nm:=[.af,.ay,.bc]
noncomputable def aH:List PS:=[(.bt (.call .au [(.sub (.loc .et) (.int 1)),(.bI .fk)]) [(.ret (.tup [(.str .fj),(.freeze (.list [(.call .bX [(.attr (.sub (.loc .et) (.int 1)) .cN),(.loc .ai)])])),(.sub (.loc .et) (.int 3))]))] []),(.asg .aR (.sub (.loc .ai) (.int 0))),(.bt (.cmp .eq (.loc .aR) (.tup [(.str .ai)])) [(.ret (.tup [(.str .fj),(.freeze (.slice (.loc .ai) (some (.int 1)) none)),(.sub (.loc .et) (.int 3))]))] []),(.bt (.or (.not (.call .au [(.loc .aR),(.bI .er)])) (.cmp .ne (.sub (.loc .aR) (.int 0)) (.str .aR))) [(.ret (.tup [(.str .aV),(.str .bW),(.int 0)]))] []),(.bt (.cmp .ne (.call .bZ [(.attr (.sub (.loc .aR) (.int 1)) .aG)]) (.bin .sub (.call .bZ [(.loc .ai)]) (.int 1))) [(.ret (.tup [(.str .aV),(.str .dy),(.bin .sub (.call .bZ [(.loc .ai)]) (.int 1))]))] []),(.asg .ay (.call .lM [(.sub (.loc .aR) (.int 2))])),(.pM .aU .aT (.attr (.sub (.loc .aR) (.int 1)) .aG) (.freeze (.slice (.loc .ai) (some (.int 1)) none)) [(.iy (.loc .ay) (.loc .aU) (.loc .aT))]),(.ret (.tup [(.str .jm),(.attr (.sub (.loc .aR) (.int 1)) .dp),(.freeze (.loc .ay)),(.sub (.loc .et) (.int 3))]))]
noncomputable def hZ:List Nm:=[.et,.ai]
noncomputable def bG:List PS:=[(.par [.af,.ay,.bc] (.tup [(.sub (.loc .et) (.int 1)),(.sub (.loc .et) (.int 2)),(.sub (.loc .et) (.int 3))])),(.bt (.cmp .eq (.sub (.loc .et) (.int 0)) (.str .um)) [(.ret (.tup [(.str .jm),(.sub (.attr (.loc .af) .eV) (.int 1)),(.loc .ay),(.loc .bc)]))] []),(.bt (.cmp .ne (.call .bZ [(.loc .ai)]) (.int 1)) [(.ret (.tup [(.str .aV),(.str .ai),(.call .bZ [(.loc .ai)])]))] []),(.bt (.cmp .eq (.sub (.loc .et) (.int 0)) (.str .rh)) [(.asg .lK (.and (.call .au [(.sub (.loc .ai) (.int 0)),(.bI .eE)]) (.not (.sub (.loc .ai) (.int 0))))),(.ret (.tup [(.str .jm),(.bt (.loc .lK) (.attr (.loc .af) .gU) (.attr (.loc .af) .ej)),(.loc .ay),(.loc .bc)]))] []),(.bt (.cmp .eq (.sub (.loc .et) (.int 0)) (.str .uk)) [(.iy (.sub (.loc .bE) (.int 0)) (.attr (.loc .af) .bJ) (.sub (.loc .ai) (.int 0))),(.expr (.aB (.sub (.loc .bE) (.int 1)) .dz [(.tup [(.attr (.loc .af) .bJ),(.call .cc [(.sub (.loc .ai) (.int 0))])])])),(.ret (.tup [(.str .fj),(.freeze (.list [(.bI .bz)])),(.loc .bc)]))] []),(.asg .nj (.freeze (.bin .add (.sub (.loc .et) (.int 5)) (.freeze (.list [(.sub (.loc .ai) (.int 0))]))))),(.bt (.cmp .eq (.sub (.loc .et) (.int 4)) (.freeze (.list []))) [(.ret (.call .dK [(.loc .et),(.loc .nj)]))] []),(.ret (.tup [(.str .jm),(.sub (.sub (.loc .et) (.int 4)) (.int 0)),(.loc .ay),(.tup [(.str .eB),(.loc .af),(.loc .ay),(.loc .bc),(.freeze (.slice (.sub (.loc .et) (.int 4)) (some (.int 1)) none)),(.loc .nj)])]))]
noncomputable def bU:List Nm:=[.ai,.et,.bE]
noncomputable def je:List PS:=[(.asg .bE (.freeze (.list [(.dict [(.int 1),(.int 4)] [(.bool true),(.tup [(.str .ai)])]),(.list [])]))),(.asg .b7 (.tup [(.str .jm),(.loc .af),(.freeze (.dict [] [])),.none])),(.mA .eP (.call .eU [(.loc .ni)]) [(.bt (.cmp .eq (.sub (.loc .b7) (.int 0)) (.str .aV)) [(.ret (.freeze (.list [(.loc .b7),(.freeze (.sub (.loc .bE) (.int 1)))])))] []),(.bt (.and (.cmp .eq (.sub (.loc .b7) (.int 0)) (.str .fj)) (.cmp .KS (.sub (.loc .b7) (.int 2)) .none)) [(.ret (.freeze (.list [(.tup [(.str .bE),(.freeze (.comp (.call .cc [(.loc .aT)]) .aT (.sub (.loc .b7) (.int 1))))]),(.freeze (.sub (.loc .bE) (.int 1)))])))] []),(.bt (.cmp .eq (.sub (.loc .b7) (.int 0)) (.str .fj)) [(.asg .b7 (.call .fD [(.sub (.loc .b7) (.int 1)),(.sub (.loc .b7) (.int 2)),(.loc .bE)]))] [(.bt (.call .au [(.sub (.loc .b7) (.int 1)),(.bI .eH)]) [(.bt (.cmp .Me (.attr (.sub (.loc .b7) (.int 1)) .bJ) (.sub (.loc .bE) (.int 0))) [(.ret (.freeze (.list [(.tup [(.str .aV),(.str .dH),(.attr (.sub (.loc .b7) (.int 1)) .bJ)]),(.freeze (.sub (.loc .bE) (.int 1)))])))] []),(.asg .b7 (.tup [(.str .fj),(.freeze (.list [(.sub (.sub (.loc .bE) (.int 0)) (.attr (.sub (.loc .b7) (.int 1)) .bJ))])),(.sub (.loc .b7) (.int 3))]))] [(.asg .b7 (.call .f9 [(.sub (.loc .b7) (.int 1)),(.sub (.loc .b7) (.int 2)),(.sub (.loc .b7) (.int 3))]))])])]),(.ret .none)]
noncomputable def mu:List Nm:=[.af,.ni]
noncomputable def wh:List PS:=[(.km .ai (.sub (.jU .ay) (.loc .aW)) .aW (.attr (.loc .cN) .cI)),(.bt (.cmp .eq (.attr (.loc .cN) .bo) (.str .bV)) [(.iy (.sub (.loc .bE) (.int 0)) (.attr (.loc .cN) .aU) (.sub (.loc .ai) (.int 0))),(.expr (.aB (.sub (.loc .bE) (.int 1)) .dz [(.tup [(.attr (.loc .cN) .aU),(.call .cc [(.sub (.loc .ai) (.int 0))])])]))] [(.bt (.cmp .eq (.attr (.loc .cN) .bo) (.str .lL)) [(.bt (.cmp .Me (.attr (.loc .cN) .aU) (.sub (.loc .bE) (.int 0))) [(.ret (.bool false))] []),(.iy (.jU .ay) (.attr (.loc .cN) .dg) (.sub (.sub (.loc .bE) (.int 0)) (.attr (.loc .cN) .aU)))] [(.asg .qh (.bt (.cmp .eq (.attr (.loc .cN) .bo) (.str .k8)) (.attr (.loc .cN) .eW) (.bt (.cmp .eq (.attr (.loc .cN) .bo) (.str .aR)) (.tup [(.str .aR),(.sub (.attr (.loc .cN) .gC) (.int 0)),(.jU .ay)]) .none))),(.iy (.jU .ay) (.attr (.loc .cN) .dg) (.bt (.cmp .eq (.attr (.loc .cN) .bo) (.str .cM)) (.call .bX [(.attr (.loc .cN) .aU),(.loc .ai)]) (.loc .qh)))])]),(.ret (.bool true))]
noncomputable def tR:List Nm:=[.cN,.ay,.bE]
noncomputable def lX:List PS:=[(.asg .aq (.aB (.loc .aJ) .aq [(.loc .aC)])),(.asg .aM (.call .lM [(.loc .ay)])),(.bt (.and (.cmp .lt (.attr (.loc .aq) .bc) (.int 0)) (.cmp .ne (.call .bZ [(.attr (.loc .aq) .aG)]) (.call .bZ [(.loc .ai)]))) [(.ret (.tup [(.str .aV),(.str .ai),(.call .bZ [(.loc .ai)])]))] []),(.pM .aW .aT (.attr (.loc .aq) .aG) (.loc .ai) [(.iy (.loc .aM) (.loc .aW) (.loc .aT))]),(.ret (.tup [(.loc .aC),(.loc .aM)]))]
noncomputable def lE:List Nm:=[.aJ,.aC,.ay,.ai]
noncomputable def hJ:List PS:=[(.km .ai (.sub (.jU .ay) (.loc .aW)) .aW (.attr (.loc .bw) .cI)),(.bt (.cmp .eq (.attr (.loc .bw) .bo) (.str .rh)) [(.asg .aT (.sub (.jU .ay) (.attr (.loc .bw) .aR))),(.ret (.tup [(.bt (.and (.call .au [(.loc .aT),(.bI .eE)]) (.not (.loc .aT))) (.attr (.loc .bw) .eD) (.attr (.loc .bw) .jE)),(.jU .ay)]))] []),(.bt (.cmp .eq (.attr (.loc .bw) .bo) (.str .cY)) [(.ret (.call .cV [(.loc .aJ),(.attr (.loc .bw) .jE),(.jU .ay),(.loc .ai)]))] []),(.asg .g9 (.bt (.cmp .ge (.attr (.loc .bw) .aW) (.int 0)) (.sub (.jU .ay) (.attr (.loc .bw) .aW)) (.tup [(.str .aq),(.attr (.loc .bw) .jE),(.jU .ay)]))),(.bt (.cmp .eq (.attr (.loc .bw) .bo) (.str .d8)) [(.asg .aR (.sub (.jU .ay) (.attr (.loc .bw) .aR))),(.bt (.and (.call .au [(.loc .aR),(.bI .er)]) (.cmp .eq (.sub (.loc .aR) (.int 0)) (.str .aR))) [(.bt (.cmp .ne (.call .bZ [(.attr (.aB (.loc .aJ) .aq [(.sub (.loc .aR) (.int 1))]) .aG)]) (.call .bZ [(.loc .ai)])) [(.ret (.tup [(.str .aV),(.str .dy),(.call .bZ [(.loc .ai)])]))] []),(.asg .aM (.call .cV [(.loc .aJ),(.sub (.loc .aR) (.int 1)),(.sub (.loc .aR) (.int 2)),(.loc .ai)])),(.iy (.sub (.loc .aM) (.int 1)) (.attr (.aB (.loc .aJ) .aq [(.sub (.loc .aR) (.int 1))]) .aW) (.loc .g9)),(.ret (.loc .aM))] []),(.bt (.cmp .ne (.loc .aR) (.tup [(.str .ai)])) [(.ret (.tup [(.str .aV),(.str .bW),(.int 0)]))] [])] []),(.bt (.cmp .eq (.loc .g9) (.str .uu)) [(.ret (.tup [(.str .bE),(.freeze (.comp (.call .cc [(.loc .aT)]) .aT (.loc .ai)))]))] []),(.ret (.call .cV [(.loc .aJ),(.sub (.loc .g9) (.int 1)),(.sub (.loc .g9) (.int 2)),(.loc .ai)]))]
noncomputable def jh:List Nm:=[.aJ,.ay,.bw]
noncomputable def rU:List PS:=[(.asg .bE (.freeze (.list [(.dict [(.int 1),(.int 4)] [(.bool true),(.tup [(.str .ai)])]),(.list [])]))),(.asg .b7 (.tup [(.attr (.loc .aJ) .dJ),(.dict [(.attr (.aB (.loc .aJ) .aq [(.attr (.loc .aJ) .dJ)]) .aW)] [(.str .uu)])])),(.mA .eP (.call .eU [(.loc .ni)]) [(.par [.aq,.ay] (.tup [(.aB (.loc .aJ) .aq [(.sub (.loc .b7) (.int 0))]),(.sub (.loc .b7) (.int 1))])),(.mA .cN (.attr (.loc .aq) .ja) [(.bt (.not (.call .bC [(.loc .cN),(.loc .ay),(.loc .bE)])) [(.ret (.freeze (.list [(.tup [(.str .aV),(.str .dH),(.attr (.loc .cN) .aU)]),(.freeze (.sub (.loc .bE) (.int 1)))])))] [])]),(.asg .b7 (.call .bh [(.loc .aJ),(.loc .ay),(.attr (.loc .aq) .bw)])),(.bt (.not (.call .au [(.sub (.loc .b7) (.int 0)),(.bI .jI)])) [(.ret (.freeze (.list [(.loc .b7),(.freeze (.sub (.loc .bE) (.int 1)))])))] [])]),(.ret .none)]
noncomputable def qW:List Nm:=[.aJ,.ni]
noncomputable def qy:List PS:=[(.par [.bf,.bM] (.tup [(.list [(.freeze (.comp (.call .uz [(.loc .uy)]) .uy (.freeze (.slice (.loc .eY) none (some (.int 63)))))),(.int 0)]),(.call .aN [])])),(.asg .af (.freeze (.call .jP [(.freeze (.list [(.freeze (.call .cG [(.int 2),(.freeze (.call .fE [(.int 5)]))])),(.call .dA [(.loc .bf),(.loc .bM),(.freeze (.list [])),(.list [(.int 14)])])]))]))),(.asg .uv (.call .eF [(.loc .af),(.int 90)])),(.asg .aM (.gF (.call .jD [(.loc .af),(.loc .bM)]))),(.ret (.or (.cmp .KS (.loc .uv) .none) (.cmp .eq (.call .fN [(.loc .aM),(.int 120)]) (.loc .uv))))]
noncomputable def LG:List Nm:=[.eY]
noncomputable def lk {α β:Type} [DecidableEq α] (x:α):List (α×β)->Option β
  | []=>none
  | (y,v)::r=>if y=x then some v else lk x r
noncomputable def Nb:List (Nm×(List Nm×List PS)):=[(.jH,(tS,wi)),(.g8,(pA,qa)),(.jM,(tU,wk)),(.ec,(nV,oT)),(.fV,(nP,oK)),(.fX,(nS,oP)),(.di,(mw,mG)),(.fY,(nT,oQ)),(.g7,(pz,pZ)),(.gZ,(pv,pY)),(.f7,(nU,oR)),(.fZ,(kx,kF)),(.jN,(tV,wm)),(.k7,(ya,zi)),(.jO,(tW,wo)),(.fG,(q8,sa)),(.iT,(q9,sd)),(.gY,(pq,pX)),(.iQ,(qZ,rX)),(.jK,(tT,wj)),(.iP,(qY,rW)),(.jL,(nQ,oM)),(.iS,(q7,r9)),(.fW,(nR,oN)),(.gX,(pn,pW)),(.fF,(q5,rY)),(.iR,(q6,rZ)),(.gV,(xZ,zh)),(.jm,(Pa,QR)),(.k9,(yb,zj)),(.jD,(tQ,wg)),(.bx,(pj,pV)),(.eZ,(lD,lW)),(.dk,(m5,nr)),(.cF,(pf,pS)),(.dA,(ph,pU)),(.cc,(nO,oJ)),(.dC,(qX,rV)),(.bX,(pg,pT)),(.f9,(pe,pR)),(.dK,(hZ,aH)),(.fD,(bU,bG)),(.eF,(mu,je)),(.bC,(tR,wh)),(.cV,(lE,lX)),(.bh,(jh,hJ)),(.fN,(qW,rU)),(.Mg,(LG,qy))]
noncomputable def Ir (x:Nm):=lk x Nb
noncomputable def mL:List ((Nm×Nm)×(List Nm×List PS)):=[((.fE,.aF),(m9,nx)),((.gb,.aF),(m6,nu)),((.eH,.aF),(mz,mJ)),((.cG,.aF),(j7,kh)),((.oh,.aF),(rf,se)),((.fc,.aF),(my,mI)),((.iC,.aF),(nY,oW)),((.jP,.aF),(pD,qb)),((.fk,.aF),(nX,oV)),((.fO,.aF),(pE,qc)),((.d5,.aF),(m8,nv)),((.aS,.aF),(i9,jf)),((.aE,.aF),(ib,ij)),((.aE,.aq),(j9,kj)),((.aE,.mP),(lF,lY)),((.bF,.aF),(nW,oU)),((.ak,.aF),(iz,iI)),((.ak,.bD),(kO,kU)),((.ak,.jG),(kN,kS)),((.ak,.ke),(lG,lZ)),((.ak,.bK),(ji,jv)),((.ak,.ez),(kM,kQ)),((.ak,.iA),(lI,l8)),((.ak,.cw),(lJ,l9)),((.ak,.jk),(lH,l7)),((.ak,.fL),(jj,jw)),((.ak,.dw),(ka,kl)),((.cJ,.aF),(fJ,fP)),((.aN,.aF),(jB,jW)),((.aN,.bD),(mx,mH)),((.aN,.gS),(j8,ki))]
noncomputable def om (c x:Nm):=lk (c,x) mL
noncomputable def aL:List (Nm×List Nm):=[(.fE,[.aT]),(.gb,[.aU]),(.eH,[.bJ]),(.cG,[.bJ,.aT]),(.oh,[.dT,.ej,.gU]),(.fc,[.aC,.aG,.bc,.dp]),(.iC,[.b5,.aQ]),(.jP,[.eV]),(.fk,[.cN,.aQ]),(.fO,[.dg,.bo,.aU,.cI,.eW,.iN,.gC]),(.d5,[.bo,.aR,.cI,.jE,.eD,.aW]),(.aS,[.aC,.gi,.aG,.bc,.aW,.gj,.eC,.fT,.ja,.bw]),(.aE,[.dI,.dJ]),(.bF,[.bo,.af,.aI,.cO]),(.ak,[.dZ,.aJ,.cH,.eO,.fM,.fU,.eD]),(.cJ,[.uo,.mS]),(.aN,[.dI,.bw,.jF,.ja,.pG])]
noncomputable def iq (c:Nm):List Nm:=(lk c aL).getD []
noncomputable def Zc:List (Nm×Int):=[(.eG,0),(.iB,1),(.jn,2),(.qj,0),(.qi,1),(.oi,2),(.jQ,4),(.lO,5),(.Mh,6),(.lN,7),(.iE,8),(.z7,9),(.uA,10),(.z8,11)]
noncomputable def rG (x:Nm):=lk x Zc
noncomputable def Zb:List (Nm×Nm):=[(.uD,.aR),(.uE,.cw),(.iD,.d8),(.uB,.cY),(.uC,.fj),(.oj,.rh)]
noncomputable def yR (x:Nm):=lk x Zb
noncomputable def kL:List (Nm×Int):=[(.fE,0),(.gb,1),(.eH,2),(.cG,4),(.oh,6),(.fc,7),(.iC,8),(.jP,9),(.fk,10)]
noncomputable def uR (x:Nm):=lk x kL
theorem CQ {α β:Type} [DecidableEq α] {x:α} {v:β} {l:List (α×β)} (h:lk x l=some v):(x,v)∈l:=by
  induction l with
  | nil=>exact nomatch h
  | cons a r ih=>
    by_cases q:a.1=x
    · exact (Prod.ext q (Option.some.inj ((if_pos q).symm.trans h)):a=(x,v))▸.head _
    · exact .tail _ (ih ((if_neg q).symm.trans h))
noncomputable def cL:List Nm:=[.fE,.gb,.eH,.cG,.oh,.fc,.iC,.jP,.fk]
noncomputable def dX:List Nm:=cL++[.fO,.d5,.aS,.aE,.bF,.ak,.cJ,.aN]
noncomputable def zk:List Nm:=[.bZ,.qg,.uz,.au,.jl,.lM,.eU,.n9,.jI,.er,.eE]
noncomputable def keyOf (s:Str):Nat:=(s.cps.toList.foldl (fun a c=>a*1000003+c) 7) % 2305843009213693951
noncomputable def yj (k:Nat):Nm:=nm (((List.range 218).find? fun i=>Nat.beq (keyOf (ah (nm i))) k).getD 0)
theorem ES {P:Nm->Prop} (h:∀i:Nat,i<218->P (nm i)) (x:Nm):P x:=by
  obtain ⟨⟨i,hi⟩⟩:=x
  have:=h i hi
  have e:nm i=⟨⟨i,hi⟩⟩:=congrArg Nm.mk (Fin.ext (Nat.mod_eq_of_lt hi))
  rwa [e] at this
theorem ET (x:Nm):yj (keyOf (ah x))=x:=ES (P:=fun x=>yj (keyOf (ah x))=x) (by decide +kernel) x
end Mine
end
section
namespace Mine
theorem cp {α:Type} {x:α} {P:Prop} (h:none=some x):P:=nomatch h
theorem al {l:List Bool} (h:l.all id=true) (i:Nat) {c:Bool} (e:l[i]?=some c):c=true:=List.all_eq_true.mp h c (List.mem_of_getElem? e)
noncomputable def Nd.body:FuncBody->List Stmt
  | .stmts b=>b
  | .expr _=>[]
noncomputable def JM (K:Frag) (ps:List Nm) (b:List PS) (fd:FuncData):List Bool:=
  [rg fd.scope b (Nd.xb (Nd.body fd.body)).tr,fd.params.args.map (·.arg)==ps.map ah,fd.scope.kind==.function,!fd.scope.isGenerator,!fd.scope.isCoroutine,
    codeIn K fd.code fd.qualname,fd.globals==mainGlobals,fd.builtins==builtinsNs,fd.closure.isEmpty,
    fd.params.posonlyargs.isEmpty,fd.params.vararg.isNone,fd.params.kwonlyargs.isEmpty,fd.params.kwarg.isNone,fd.defaults==.none,
    (ps.all fun p=>fd.scope.names.lookup (ah p)==some .local||fd.scope.names.lookup (ah p)==some .cell),decide ((ps.map ah).Nodup)]
structure FnAt (K:Frag) (a:Addr) (ps:List Nm) (b:List PS) (o:Obj) (fd:FuncData):Prop where
  at_:K.lookup a=some o
  data:o.data=.func fd
  body:fd.body=.stmts (pN b (Nd.xb (Nd.body fd.body)).tr)
  XU:(JM K ps b fd).all id=true
noncomputable def yU (K:Frag) (a:Addr) (ps:List Nm) (b:List PS):Prop:=∃o fd,FnAt K a ps b o fd
noncomputable def Iw (K:Frag) (c:Addr):List Bool:=
  [makesIn K c,findIn K (.ref c) "__getattribute__"==some (some (.builtin "object.__getattribute__")),findIn K (.ref c) "__getattr__"==some none,hasDictIn K c,
  findIn K (.ref c) "__setattr__"==some (some (.builtin "object.__setattr__")),plainOver K c,keepIn K (.ref c),isClsIn K c,
  plainGet K c "__class__",findIn K (.ref c) "__class__"==some (some (.builtin "object.__class__")),mroIn K c (.type "object")==some true,
  specialIn K (.builtin "object.__class__") "__get__"==some (some (.builtin "getset_descriptor.__get__")),takesIn K (.builtin "object.__class__")==some true]
structure Cx where
  prog:Program
  w:World
  K:Frag
  h₀:Heap
  mg:Str->Option Value
  mb:Str->Option Value
  cls:Nm->Addr
  aA:Addr
  X:K.In h₀
  g:h₀.Ns mainGlobals mg
  b:h₀.Ns builtinsNs mb
  nolimit:h₀.NoLimit
  builtins:∀x:Str,x≠"__name__"->mb x=bootBuiltins x
  fa:Nm->Addr
  ma:Nm->Nm->Addr
  qr:nsIn K mainGlobals (ah .bz)=some (some (.ref aA))
  M7:∀x i,rG x=some i->∃t,nsIn K mainGlobals (ah x)=some (some (.int i t))
  M5:∀x y,yR x=some y->∃t,nsIn K mainGlobals (ah x)=some (some (.str (ah y) t))
  dM:∀f p,Ir f=some p->nsIn K mainGlobals (ah f)=some (some (.ref (fa f)))∧yU K (fa f) p.1 p.2∧keepIn K (.ref (fa f))=true
  oC:∀c,c∈dX->nsIn K mainGlobals (ah c)=some (some (.ref (cls c)))∧(Iw K (cls c)).all id=true
  aB:∀c n p,om c n=some p->findIn K (.ref (cls c)) (ah n)=some (some (.ref (ma c n)))∧isFn K (.ref (ma c n))=true∧keepIn K (.ref (ma c n))=true∧yU K (ma c n) p.1 p.2
  attr:∀c n,n∈iq c->findIn K (.ref (cls c)) (ah n)=some none
  kind:∀c i,uR c=some i->∃t,findIn K (.ref (cls c)) (ah .b9)=some (some (.int i t))
  VT:∀c,c∈cL->isIn K (.ref (cls c)) (cls c)=true
  VS:∀c d,c∈cL->d∈cL->c≠d->kin_not K (cls c) (cls d)=true
  zL:∀c n,n∈iq c->takerIn K (cls c) (ah n)=some none
  M4:∀{A:Around} {s:Shared} {p:Addr} {items:Array Value},(∀b o,h₀.get? b=some o->s.heap.get? b=some o)->s.heap.IsTuple p items->h₀.get? p=none->A.units+5<cLine →
    RcAt A s (.ref aA) (.ref p) false∧RcNeAt A s (.ref aA) (.ref p) true
  JG:∀{A:Around} {s:Shared} {T:String} {P:Value->Shared->Prop},(∀b o,h₀.get? b=some o->s.heap.get? b=some o)->T = "tuple"∨T = "bool"->(∀n,P (.bool false) {s with toks:=n}) →
    wpAny (model prog w) A (call (.builtin "isinstance") [.ref aA,.type T]) P (fun _ _=>False) s
  wd:∀f,f∈zk->nsIn K mainGlobals (ah f)=some none
abbrev Cx.M (C:Cx):Model:=model C.prog C.w
noncomputable def Cx.Nw (C:Cx) (p:Addr):Prop:=C.h₀.get? p=none∧(p==sysModules)=false
abbrev Cx.IK (C:Cx):KeyKind C.prog C.w Int:=intKind C.prog C.w
noncomputable def mr (st:St) (a:Addr):Prop:=st a≠none
mutual
noncomputable def VR (C:Cx) (hp:Heap) (D:Addr->Prop):AV->Value->Prop
  | .none,v=>v=.none
  | .bool b,v=>v=.bool b
  | .int i,v=>∃t,v=.int i t
  | .str x,v=>∃t,v=.str (ah x) t
  | .ref a,v=>v=.ref a
  | .glob,v=>v=.ref C.aA
  | .tup vs,v=>∃a xs,v=.ref a∧¬D a∧C.Nw a∧hp.IsTuple a xs.toArray∧bY C hp D vs xs
  | .lst vs,v=>∃a xs,v=.ref a∧¬D a∧hp.PlainList a xs.toArray∧bY C hp D vs xs∧xs.length≤16777217
  | .xM vs,v=>∃a xs,v=.ref a∧¬D a∧hp.IsList a xs.toArray∧bY C hp D vs xs
  | .kC es,v=>∃a kvs,v=.ref a∧¬D a∧C.Nw a∧hp.DictOf C.IK a kvs∧hS C hp D es kvs
  | .obj c fs,v=>∃a d m,v=.ref a∧¬D a∧¬D d∧C.Nw a∧hp.get? a=some (instObj (C.cls c) d)∧hp.Ns d m∧kX C hp D fs m∧∀n,ae fs n=none->m (ah n)=none
noncomputable def bY (C:Cx) (hp:Heap) (D:Addr->Prop):List AV->List Value->Prop
  | [],xs=>xs=[]
  | v::r,xs=>∃x r',xs=x::r'∧VR C hp D v x∧bY C hp D r r'
noncomputable def hS (C:Cx) (hp:Heap) (D:Addr->Prop):List (Int×AV)->List (Int×Value)->Prop
  | [],xs=>xs=[]
  | (k,v)::r,xs=>∃x r',xs=(k,x)::r'∧VR C hp D v x∧hS C hp D r r'
noncomputable def kX (C:Cx) (hp:Heap) (D:Addr->Prop):List (Nm×AV)->(Str->Option Value)->Prop
  | [],_=>True
  | (n,v)::r,m=>(∃x,m (ah n)=some x∧VR C hp D v x)∧kX C hp D r m
end
noncomputable def Up (hp:Heap) (D:Addr->Prop) (ft:Heap) (D':Addr->Prop):Prop:=
  ∀b o,hp.get? b=some o->¬D b->ft.get? b=some o∧¬D' b
theorem E4 {hp ft:Heap} {D D':Addr->Prop} (u:Up hp D ft D') {a xs} (n:¬D a) (h:hp.IsTuple a xs):ft.IsTuple a xs∧¬D' a:=
  bq h fun o ho r=>⟨⟨o,(u a o ho n).1,r⟩,(u a o ho n).2⟩
theorem FQ {hp ft:Heap} {D D':Addr->Prop} (u:Up hp D ft D') {a xs} (n:¬D a) (h:hp.IsList a xs):ft.IsList a xs∧¬D' a:=
  bq h fun o ho r=>⟨⟨o,(u a o ho n).1,r⟩,(u a o ho n).2⟩
theorem DH {hp ft:Heap} {D D':Addr->Prop} (u:Up hp D ft D') {a xs} (n:¬D a) (h:hp.PlainList a xs):ft.PlainList a xs∧¬D' a:=
  xE h fun k ho=>⟨⟨k,(u a _ ho n).1⟩,(u a _ ho n).2⟩
theorem FX {C:Cx} {hp ft:Heap} {D D':Addr->Prop} (u:Up hp D ft D') {a kvs} (n:¬D a) (h:hp.DictOf C.IK a kvs):ft.DictOf C.IK a kvs∧¬D' a:=
  fR h fun o es ep ho r=>⟨⟨o,es,ep,(u a o ho n).1,r⟩,(u a o ho n).2⟩
theorem H5 {hp ft:Heap} {D D':Addr->Prop} (u:Up hp D ft D') {a m} (n:¬D a) (h:hp.Ns a m):ft.Ns a m∧¬D' a:=
  fR h fun o es ep ho r=>⟨⟨o,es,ep,(u a o ho n).1,r⟩,(u a o ho n).2⟩
mutual
theorem VR.up {C:Cx} {hp ft:Heap} {D D':Addr->Prop} (u:Up hp D ft D'):∀{av:AV} {v:Value},VR C hp D av v->VR C ft D' av v
  | .none,_,h=>h
  | .bool _,_,h=>h
  | .int _,_,h=>h
  | .str _,_,h=>h
  | .ref _,_,h=>h
  | .glob,_,h=>h
  | .tup vs,v,h=>by
    refine cm h ?_;clear h;intro a xs e n z t r
    exact ⟨a,xs,e,(E4 u n t).2,z,(E4 u n t).1,bY.up u r⟩
  | .lst vs,v,h=>by
    refine cm h ?_;clear h;intro a xs e n t r z
    exact ⟨a,xs,e,(DH u n t).2,(DH u n t).1,bY.up u r,z⟩
  | .xM vs,v,h=>by
    refine bP h ?_;clear h;intro a xs e n t r
    exact ⟨a,xs,e,(FQ u n t).2,(FQ u n t).1,bY.up u r⟩
  | .kC es,v,h=>by
    refine cm h ?_;clear h;intro a xs e n z t r
    exact ⟨a,xs,e,(FX u n t).2,z,(FX u n t).1,hS.up u r⟩
  | .obj c fs,v,h=>by
    refine kr h ?_;clear h;intro a d m e n n' z t t' r q
    exact ⟨a,d,m,e,(u _ _ t n).2,(H5 u n' t').2,z,(u _ _ t n).1,(H5 u n' t').1,kX.up u r,q⟩
theorem bY.up {C:Cx} {hp ft:Heap} {D D':Addr->Prop} (u:Up hp D ft D'):∀{avs:List AV} {vs:List Value},bY C hp D avs vs->bY C ft D' avs vs
  | [],_,h=>h
  | v::r,xs,h=>by
    refine bS h ?_;clear h;intro x r' e a b
    exact ⟨x,r',e,VR.up u a,bY.up u b⟩
theorem hS.up {C:Cx} {hp ft:Heap} {D D':Addr->Prop} (u:Up hp D ft D'):∀{avs:List (Int×AV)} {vs:List (Int×Value)},hS C hp D avs vs->hS C ft D' avs vs
  | [],_,h=>h
  | (k,v)::r,xs,h=>by
    refine bS h ?_;clear h;intro x r' e a b
    exact ⟨x,r',e,VR.up u a,hS.up u b⟩
theorem kX.up {C:Cx} {hp ft:Heap} {D D':Addr->Prop} (u:Up hp D ft D'):∀{fs:List (Nm×AV)} {m:Str->Option Value},kX C hp D fs m->kX C ft D' fs m
  | [],_,_=>trivial
  | (n,v)::r,m,h=>by
    refine xA h ?_;clear h;intro sS b;obtain ⟨x,e,a⟩:=sS
    exact ⟨⟨x,e,VR.up u a⟩,kX.up u b⟩
end
section
variable {C:Cx} {hp:Heap} {D:Addr->Prop}
theorem bY.ind {P:List AV->List Value->Prop} (n:P [] []) (c:∀{a v as vs},VR C hp D a v->bY C hp D as vs->P as vs->P (a::as) (v::vs)) {as:List AV}:∀{vs:List Value},bY C hp D as vs->P as vs:=by
  induction as with
  | nil=>exact fun h=>(show _=[] from h)▸n
  | cons a as ih=>exact fun h=>bS h fun v r e p q=>e▸c p q (ih q)
theorem bY.length {avs:List AV} {vs:List Value} (h:bY C hp D avs vs):vs.length=avs.length:=
  bY.ind (P:=fun avs vs=>vs.length=avs.length) rfl (fun _ _ h=>congrArg Nat.succ h) h
theorem bY.get {avs:List AV} {vs:List Value} {i:Nat} {av:AV} (h:bY C hp D avs vs):avs[i]?=some av->∃v,vs[i]?=some v∧VR C hp D av v:=
  bY.ind (P:=fun avs vs=>∀i,avs[i]?=some av->∃v,vs[i]?=some v∧VR C hp D av v) (fun _ e=>cp (List.getElem?_nil.symm.trans e))
    (fun p _ ih i=>match i with
      | 0=>fun e=>⟨_,rfl,Option.some.inj e▸p⟩
      | i+1=>ih i) h i
theorem bY.append {a b:List AV} {x y:List Value} (h:bY C hp D a x) (g:bY C hp D b y):bY C hp D (a++b) (x++y):=
  bY.ind (P:=fun a x=>bY C hp D (a++b) (x++y)) g (fun p _ q=>⟨_,_,rfl,p,q⟩) h
theorem bY.take (n:Nat) {a:List AV} {x:List Value} (h:bY C hp D a x):bY C hp D (a.take n) (x.take n):=
  bY.ind (P:=fun a x=>∀n,bY C hp D (a.take n) (x.take n)) (fun n=>match n with | 0 | _+1=>rfl)
    (fun p _ ih n=>match n with
      | 0=>rfl
      | n+1=>⟨_,_,rfl,p,ih n⟩) h n
theorem bY.drop (n:Nat) {a:List AV} {x:List Value} (h:bY C hp D a x):bY C hp D (a.drop n) (x.drop n):=
  bY.ind (P:=fun a x=>∀n,bY C hp D (a.drop n) (x.drop n)) (fun n=>match n with | 0 | _+1=>rfl)
    (fun p q ih n=>match n with
      | 0=>⟨_,_,rfl,p,q⟩
      | n+1=>ih n) h n
theorem bY.one {a:AV} {v:Value} (h:VR C hp D a v):bY C hp D [a] [v]:=⟨v,[],rfl,h,rfl⟩
theorem bY.reverse {a:List AV} {x:List Value} (h:bY C hp D a x):bY C hp D a.reverse x.reverse:=
  bY.ind (P:=fun a x=>bY C hp D a.reverse x.reverse) rfl (fun p _ q=>by rw [List.reverse_cons,List.reverse_cons];exact q.append (.one p)) h
theorem kX.get {m:Str->Option Value} {fs:List (Nm×AV)} {n:Nm} {av:AV}:kX C hp D fs m->ae fs n=some av->∃v,m (ah n)=some v∧VR C hp D av v:=by
  induction fs with
  | nil=>exact fun _ e=>nomatch e
  | cons y r ih=>
    intro h e
    replace e:=(Am n y.1 y.2 r).symm.trans e
    by_cases q:y.1=n
    · have e:=Option.some.inj ((if_pos q).symm.trans e)
      exact q▸e▸h.1
    · exact ih h.2 ((if_neg q).symm.trans e)
theorem hS.ind {P:List (Int×AV)->List (Int×Value)->Prop} (n:P [] []) (c:∀{k a v as vs},VR C hp D a v->hS C hp D as vs->P as vs->P ((k,a)::as) ((k,v)::vs)) {as:List (Int×AV)}:∀{vs:List (Int×Value)},hS C hp D as vs->P as vs:=by
  induction as with
  | nil=>exact fun h=>(show _=[] from h)▸n
  | cons a as ih=>exact fun h=>bS h fun v r e p q=>e▸c p q (ih q)
noncomputable def vz (C:Cx) (hp:Heap) (D:Addr->Prop) (o:Option AV) (u:Option Value):Prop:=match o with | some av=>∃v,u=some v∧VR C hp D av v | none=>u=none
theorem hS.get {es:List (Int×AV)} {kvs:List (Int×Value)} {k:Int} (h:hS C hp D es kvs):vz C hp D (ae es k) (valueAt kvs k):=
  hS.ind (P:=fun es kvs=>vz C hp D (ae es k) (valueAt kvs k)) rfl (fun {x a v as vs} p _ ih=>by
    have hv:valueAt ((x,v)::vs) k=if x=k then some v else valueAt vs k:=by
      unfold valueAt;rw [List.find?_cons];by_cases q:x=k<;>simp [q]
    rw [Am,hv]
    by_cases q:x=k
    · rw [if_pos q,if_pos q];exact ⟨v,rfl,p⟩
    · rw [if_neg q,if_neg q];exact ih) h
theorem hS.length {es:List (Int×AV)} {kvs:List (Int×Value)} (h:hS C hp D es kvs):kvs.length=es.length:=
  hS.ind (P:=fun es kvs=>kvs.length=es.length) rfl (fun _ _ h=>congrArg Nat.succ h) h
theorem hS.append {a b:List (Int×AV)} {x y:List (Int×Value)} (h:hS C hp D a x) (g:hS C hp D b y):hS C hp D (a++b) (x++y):=
  hS.ind (P:=fun a x=>hS C hp D (a++b) (x++y)) g (fun p _ q=>⟨_,_,rfl,p,q⟩) h
theorem hS.map {k:Int} {a:AV} {v:Value} (hv:VR C hp D a v) {es:List (Int×AV)} {kvs:List (Int×Value)} (h:hS C hp D es kvs) :
    hS C hp D (es.map fun kv=>if kv.1=k then (kv.1,a) else kv) (kvs.map fun kv=>if kv.1=k then (kv.1,v) else kv):=
  hS.ind (P:=fun es kvs=>hS C hp D (es.map fun kv=>if kv.1=k then (kv.1,a) else kv) (kvs.map fun kv=>if kv.1=k then (kv.1,v) else kv)) rfl (fun {x b u as vs} p _ ih=>by
    rw [List.map_cons,List.map_cons]
    by_cases q:x=k
    · rw [if_pos q,if_pos q];exact ⟨v,_,rfl,hv,ih⟩
    · rw [if_neg q,if_neg q];exact ⟨u,_,rfl,p,ih⟩) h
theorem hS.any {k:Int} {es:List (Int×AV)} {kvs:List (Int×Value)} (h:hS C hp D es kvs):es.any (fun kv=>kv.1=k)=kvs.any (fun kv=>kv.1=k):=
  hS.ind (P:=fun es kvs=>es.any (fun kv=>kv.1=k)=kvs.any (fun kv=>kv.1=k)) rfl (fun {x _ _ _ _} _ _ ih=>congrArg (decide (x=k)||·) ih) h
theorem hS.put {k:Int} {a:AV} {v:Value} {es:List (Int×AV)} {kvs:List (Int×Value)} (h:hS C hp D es kvs) (hv:VR C hp D a v):hS C hp D (putK es k a) (stored kvs k v):=by
  unfold putK stored
  rw [h.any]
  by_cases q:(kvs.any fun kv=>kv.1=k)=true
  · rw [if_pos q,if_pos q];exact h.map hv
  · rw [if_neg q,if_neg q];exact h.append ⟨v,[],rfl,hv,rfl⟩
end
noncomputable def mi (C:Cx) (hp:Heap) (D:Addr->Prop) (a:Addr):bQ->Prop
  | .list vs=>∃xs,hp.PlainList a xs.toArray∧bY C hp D vs xs∧xs.length≤16777217
  | .dict es=>∃kvs,hp.DictOf C.IK a kvs∧hS C hp D es kvs
  | .inst c d=>hp.get? a=some (instObj (C.cls c) d)
  | .aD fs=>∃m,hp.Ns1 a m∧kX C hp D fs m∧(∀n,ae fs n=none->m (ah n)=none)∧Within m (fs.map fun kv=>ah kv.1)
noncomputable def dm (R:Addr->Prop) (st:St):Addr->Prop:=fun b=>mr st b∨R b
structure bp (C:Cx) (R:Addr->Prop) (st:St) (s:Shared):Prop where
  base:∀b o,C.h₀.get? b=some o->s.heap.get? b=some o
  low:∀a,mr st a->C.Nw a
  obj:∀a o,st a=some o->mi C s.heap (dm R st) a o
  gens:s.gens=#[]
  apart:∀a,R a->st a=none
  under:∀a,R a->∃o,s.heap.get? a=some o
  above:∀a,R a->C.h₀.get? a=none
structure Ext (st:St) (s:Shared) (ag:St) (s':Shared):Prop where
  keep:∀b o,s.heap.get? b=some o->¬mr st b->s'.heap.get? b=some o
  dm:∀b o,s.heap.get? b=some o->¬mr st b->¬mr ag b
  os:s'.os=s.os
theorem Ext.IS {st ag:St} {s s':Shared} (x:Ext st s ag s'):Up s.heap (mr st) s'.heap (mr ag):=fun b o e n=>⟨x.keep b o e n,x.dm b o e n⟩
theorem Ext.up {st ag:St} {s s':Shared} (x:Ext st s ag s') {R:Addr->Prop}:Up s.heap (Mine.dm R st) s'.heap (Mine.dm R ag):=fun b o e n=>
  ⟨(x.IS b o e fun d=>n (.inl d)).1,fun d=>d.elim (x.IS b o e fun d=>n (.inl d)).2 fun d=>n (.inr d)⟩
theorem Ext.refl (st:St) (s:Shared):Ext st s st s:=⟨fun _ _ e _=>e,fun _ _ _ d=>d,rfl⟩
theorem Ext.trans {st ag dG:St} {s s' tI:Shared} (x:Ext st s ag s') (y:Ext ag s' dG tI):Ext st s dG tI:=
  ⟨fun b o e n=>y.keep b o (x.keep b o e n) (x.IS b o e n).2,fun b o e n=>y.dm b o (x.keep b o e n) (x.dm b o e n),y.os.trans x.os⟩
theorem Cx.uf (C:Cx) {h:Heap} (k:∀b o,C.h₀.get? b=some o->h.get? b=some o):h.NoLimit:=C.nolimit.keeps k
theorem GC {C:Cx} {h:Heap} (k:∀b o,C.h₀.get? b=some o->h.get? b=some o) {a:Addr} (ha:h.objs.size≤a):C.Nw a:=by
  refine ⟨?_,beq_eq_false_iff_ne.mpr fun q=>?_⟩
  · cases e:C.h₀.get? a with
    | none=>rfl
    | some o=>exact absurd (Heap.lt_size (k a o e)) (Nat.not_lt.mpr ha)
  · exact Nat.lt_irrefl _ (Nat.lt_of_lt_of_le (modules_low (C.uf k)) (q▸ha))
theorem B2 {st:St} {a o} (e:st a=some o):mr st a:=by intro h;rw [e] at h;injection h
theorem Ek {R:Addr->Prop} {st:St} {a o} (e:st a=some o):dm R st a:=.inl (B2 e)
section
variable {C:Cx} {R:Addr->Prop} {st:St} {s:Shared}
theorem bR {h:Heap} {a:Addr} (ha:h.objs.size≤a) {o:Obj} (e:h.get? a=some o):False:=absurd (Heap.lt_size e) (Nat.not_lt.mpr ha)
theorem bp.toks {n:Nat} (S:bp C R st s):bp C R st {s with toks:=n}:=⟨S.base,S.low,S.obj,S.gens,S.apart,S.under,S.above⟩
theorem Ext.toks {n:Nat}:Ext st s st {s with toks:=n}:=⟨fun _ _ e _=>e,fun _ _ _ d=>d,rfl⟩
theorem mi.up {hp ft:Heap} {D D':Addr->Prop} (u:Up hp D ft D') {a:Addr} (ha:∀o,hp.get? a=some o->ft.get? a=some o) {o:bQ} (h:mi C hp D a o):mi C ft D' a o:=by
  cases o with
  | list vs=>exact dR h fun xs p q z=>⟨xs,p.imp fun _ e=>ha _ e,q.up u,z⟩
  | dict es=>exact bq h fun xs p q=>⟨xs,p.imp fun _=>Exists.imp fun _=>Exists.imp fun _ e=>⟨ha _ e.1,e.2⟩,q.up u⟩
  | inst c d=>exact ha _ h
  | aD fs=>exact dR h fun m p q z=>⟨m,p.imp fun _=>Exists.imp fun _=>Exists.imp fun _ e=>⟨ha _ e.1,e.2⟩,q.up u,z⟩
theorem mi.alive {hp:Heap} {D:Addr->Prop} {a:Addr} {o:bQ} (h:mi C hp D a o):∃ob,hp.get? a=some ob:=by
  cases o with
  | list vs=>exact bq h fun _ p _=>xE p fun _ e=>⟨_,e⟩
  | dict es=>exact bq h fun _ p _=>fR p fun o _ _ e _=>⟨o,e⟩
  | inst c d=>exact ⟨_,h⟩
  | aD fs=>exact bq h fun _ p _=>fR p fun o _ _ e _=>⟨o,e⟩
theorem bp.gE {h':Heap} {n:Nat} (S:bp C R st s) (k:∀b o,s.heap.get? b=some o->h'.get? b=some o):bp C R st {s with heap:=h',toks:=n}:=
  ⟨fun b o e=>k b o (S.base b o e),S.low,fun a o e=>(S.obj a o e).up (fun b o e n=>⟨k b o e,n⟩) (k a),S.gens,S.apart,fun a h=>(S.under a h).imp fun o e=>k a o e,S.above⟩
theorem Ext.gE {h':Heap} {n:Nat} (k:∀b o,s.heap.get? b=some o->h'.get? b=some o):Ext st s st {s with heap:=h',toks:=n}:=
  ⟨fun b o e _=>k b o e,fun _ _ _ d=>d,rfl⟩
theorem bp.grow {h':Heap} {n:Nat} (S:bp C R st s) (k:∀b o,s.heap.get? b=some o->h'.get? b=some o) (_:s.heap.objs.size≤h'.objs.size):bp C R st {s with heap:=h',toks:=n}:=S.gE k
theorem Ext.grow {h':Heap} {n:Nat} (k:∀b o,s.heap.get? b=some o->h'.get? b=some o) (_:s.heap.objs.size≤h'.objs.size):Ext st s st {s with heap:=h',toks:=n}:=.gE k
theorem BY {a b:Addr} {o:bQ} (d:mr (st.upd a o) b):b=a∨mr st b:=by
  unfold mr St.upd at d
  split at d
  · rename_i q;exact .inl q
  · exact .inr d
theorem HG {a b:Addr} {o:bQ} (d:dm R (st.upd a o) b):b=a∨dm R st b:=d.elim (fun d=>(BY d).imp id .inl) fun d=>.inr (.inr d)
theorem vM {a:Addr} {o o':bQ} (e0:st a=some o):dm R (st.upd a o')=dm R st:=by
  funext b
  unfold dm
  congr 1
  unfold mr St.upd
  apply propext
  split
  · rename_i q;subst q;simp [e0]
  · exact Iff.rfl
theorem bp.new {h':Heap} {n:Nat} {a:Addr} {o:bQ} (S:bp C R st s) (k:∀b o,s.heap.get? b=some o->h'.get? b=some o) (_:s.heap.objs.size≤h'.objs.size)
    (ha:s.heap.objs.size≤a) (ho:mi C h' (dm R (st.upd a o)) a o):bp C R (st.upd a o) {s with heap:=h',toks:=n}:=by
  have up:Up s.heap (dm R st) h' (dm R (st.upd a o)):=fun b ob e nb=>⟨k b ob e,fun d=>by
    rcases HG d with q | d
    · subst q;exact bR ha e
    · exact nb d⟩
  refine ⟨fun b o e=>k b o (S.base b o e),fun b d=>?_,fun b ob e=>?_,S.gens,fun b h=>?_,fun a h=>(S.under a h).imp fun o e=>k a o e,S.above⟩
  · rcases BY d with q | d
    · subst q;exact GC S.base ha
    · exact S.low b d
  · unfold St.upd at e
    split at e
    · rename_i q;subst q;subst e;exact ho
    · exact (S.obj b ob e).up up (k b)
  · unfold St.upd
    rw [if_neg (fun q=>by subst q;refine xE (S.under _ h) fun o e=>?_;exact bR ha e)]
    exact S.apart b h
theorem Ext.new {h':Heap} {n:Nat} {a:Addr} {o:bQ} (k:∀b o,s.heap.get? b=some o->h'.get? b=some o) (_:s.heap.objs.size≤h'.objs.size)
    (ha:s.heap.objs.size≤a):Ext st s (st.upd a o) {s with heap:=h',toks:=n}:=
  ⟨fun b o e _=>k b o e,fun b o e n d=>by
    rcases BY d with q | d
    · subst q;exact bR ha e
    · exact n d,rfl⟩
theorem bp.set {h':Heap} {n:Nat} {a:Addr} {o o':bQ} (S:bp C R st s) (e0:st a=some o) (hs:Heap.SameBut a s.heap h') (ho:mi C h' (dm R st) a o'):bp C R (st.upd a o') {s with heap:=h',toks:=n}:=by
  have keep:∀b,b≠a->∀ob,s.heap.get? b=some ob->h'.get? b=some ob:=fun b hb ob e=>(hs.2 b hb).trans e
  have up:Up s.heap (dm R st) h' (dm R st):=fun b ob e nb=>⟨keep b (fun q=>nb (q▸Ek e0)) ob e,nb⟩
  have ra:∀b,R b->b≠a:=fun b h q=>by subst q;rw [S.apart _ h] at e0;injection e0
  refine ⟨fun b ob e=>?_,fun b d=>?_,fun b ob e=>?_,S.gens,fun b h=>?_,fun b h=>(S.under b h).imp fun o e=>keep b (ra b h) o e,S.above⟩
  · refine keep b (fun q=>?_) ob (S.base b ob e)
    subst q
    rw [(S.low _ (B2 e0)).1] at e;injection e
  · rcases BY d with q | d
    · subst q;exact S.low _ (B2 e0)
    · exact S.low b d
  · rw [vM e0]
    unfold St.upd at e
    split at e
    · rename_i q;subst q;subst e;exact ho
    · rename_i q;exact (S.obj b ob e).up up (keep b q)
  · unfold St.upd
    rw [if_neg (ra b h)]
    exact S.apart b h
theorem Ext.set {h':Heap} {n:Nat} {a:Addr} {o o':bQ} (e0:st a=some o) (hs:Heap.SameBut a s.heap h'):Ext st s (st.upd a o') {s with heap:=h',toks:=n}:=
  ⟨fun b ob e nb=>(hs.2 b (fun q=>nb (q▸B2 e0))).trans e,fun b o e n d=>by
    rcases BY d with q | d
    · subst q;exact n (B2 e0)
    · exact n d,rfl⟩
end
end Mine
end
section
namespace Mine
theorem ff {P:Prop} (h:false=true):P:=Bool.noConfusion h
theorem NI {a b:Bool} (h:(a&&b)=true):a=true∧b=true:=Bool.and_eq_true_iff.mp h
theorem a1 {a b:Bool} (h:(a&&b)=true):a=true:=(NI h).1
theorem a2 {a b:Bool} (h:(a&&b)=true):b=true:=(NI h).2
structure d9 (A:Around) (r:Nat):Prop where
  handled:A.handled=none
  depth:A.depth+4*r+8≤recursionLimit
  units:A.units+20*r+100≤cLine
structure ck (env:Env):Prop where
  kind:env.scope.kind=.function
  globals:env.globals=mainGlobals
  builtins:env.builtins=builtinsNs
  cells:∀y,env.kindOf y=some .cell->∃c,env.cells.lookup y=some c
structure bA (C:Cx) (hp:Heap) (R:Addr->Prop) (st:St) (env:Env) (ρ:Loc):Prop where
  inR:R env.locals
  nd:¬mr st env.locals
  ns:∃m,hp.Ns env.locals m∧∀x av,ae ρ x=some av->∃v,VR C hp (dm R st) av v∧
    ((env.kindOf (ah x)=some .local∧m (ah x)=some v)∨
     (env.kindOf (ah x)=some .cell∧∃c,env.cells.lookup (ah x)=some c∧¬dm R st c∧hp.IsCell c (some v)))
theorem bA.up {C:Cx} {R:Addr->Prop} {st ag:St} {s s':Shared} {env:Env} {ρ:Loc} (L:bA C s.heap R st env ρ) (x:Ext st s ag s'):bA C s'.heap R ag env ρ:=
  ⟨L.inR,bq L.ns fun _ hn _=>(H5 x.IS L.nd hn).2,bq L.ns fun m hn hl=>⟨m,(H5 x.IS L.nd hn).1,fun y av e=>bq (hl y av e) fun v a b=>
    ⟨v,a.up x.up,b.imp id fun q=>⟨q.1,dR q.2 fun c l n h=>bq h fun o z h=>⟨c,l,(x.up c o z n).2,o,(x.up c o z n).1,h⟩⟩⟩⟩⟩
noncomputable def cS (C:Cx) (R:Addr->Prop) (st:St) (s:Shared) (Q:AV->St->Prop) (v:Value) (s':Shared):Prop:=
  ∃av ag,VR C s'.heap (dm R ag) av v∧bp C R ag s'∧Ext st s ag s'∧Q av ag
noncomputable def N3 (C:Cx) (R:Addr->Prop) (st:St) (s:Shared) (Q:List AV->St->Prop) (vs:List Value) (s':Shared):Prop:=
  ∃av ag,bY C s'.heap (dm R ag) av vs∧bp C R ag s'∧Ext st s ag s'∧Q av ag
noncomputable def mW (C:Cx) (R:Addr->Prop) (st:St) (s:Shared) (Q:Bool->St->Prop) (b:Bool) (s':Shared):Prop:=
  ∃ag,bp C R ag s'∧Ext st s ag s'∧Q b ag
abbrev c9:Value->Shared->Prop:=fun _ _=>False
structure E (C:Cx) (r:Nat) (e:PE) (ρ:Loc) (st:St) (Q:AV->St->Prop):Prop where
  d:∀R A env t s,oE env.scope e t=true->ck env->d9 A r->bp C R st s->bA C s.heap R st env ρ->wpAny C.M A (eval (dE e t) env) (cS C R st s Q) c9 s
structure Es (C:Cx) (r:Nat) (es:List PE) (ρ:Loc) (st:St) (Q:List AV->St->Prop):Prop where
  d:∀R A env t pos s,oL env.scope es t=true->ck env->d9 A r->bp C R st s->bA C s.heap R st env ρ->wpAny C.M A (spliced (backTo pos (starEach (dL es t) env))) (N3 C R st s Q) c9 s
structure T (C:Cx) (r:Nat) (e:PE) (ρ:Loc) (st:St) (Q:Bool->St->Prop):Prop where
  d:∀R A env t s,oE env.scope e t=true->ck env->d9 A r->bp C R st s->bA C s.heap R st env ρ->wpAny C.M A (isTrue (dE e t) env (eval (dE e t) env)) (mW C R st s Q) c9 s
variable {C:Cx} {R:Addr->Prop} {r:Nat} {ρ:Loc} {st:St} {Q:AV->St->Prop}
theorem FG {R st s Q Q' v s'} (h:cS C R st s Q v s') (hq:∀a t,Q a t->Q' a t):cS C R st s Q' v s':=
  bP h fun av ag a b c d=>⟨av,ag,a,b,c,hq _ _ d⟩
theorem E.mono {e:PE} {Q':AV->St->Prop} (h:E C r e ρ st Q) (hq:∀a t,Q a t->Q' a t):E C r e ρ st Q':=
  .mk fun R A env t s a b c d l=>wpAny_mono (h.d R A env t s a b c d l) (fun _ _ p=>FG p hq) fun _ _ x=>x
theorem cS.trans {st st₁:St} {s s₁:Shared} (x:Ext st s st₁ s₁) {v s'} (h:cS C R st₁ s₁ Q v s'):cS C R st s Q v s':=
  bP h fun av ag a b c d=>⟨av,ag,a,b,x.trans c,d⟩
theorem mW.trans {st st₁:St} {s s₁:Shared} {Q:Bool->St->Prop} (x:Ext st s st₁ s₁) {v s'} (h:mW C R st₁ s₁ Q v s'):mW C R st s Q v s':=
  dR h fun ag b c d=>⟨ag,b,x.trans c,d⟩
theorem AO {av:AV} {v:Value} {s:Shared} {n:Nat} (S:bp C R st s) (hv:VR C s.heap (dm R st) av v) (q:Q av st):cS C R st s Q v {s with toks:=n}:=
  ⟨av,st,hv,S.toks,.toks,q⟩
theorem AL {av:AV} {v:Value} {s:Shared} (S:bp C R st s) (hv:VR C s.heap (dm R st) av v) (q:Q av st):cS C R st s Q v s:=
  ⟨av,st,hv,S,.refl ..,q⟩
section run
variable {A:Around} {env:Env} {s:Shared} {e:PE} {t:Tr}
theorem E.run {Q':AV->St->Prop} (h:E C r e ρ st Q') (he:oE env.scope e t=true) (hv:ck env) (hr:d9 A r) (S:bp C R st s) (L:bA C s.heap R st env ρ) {P:Value->Shared->Prop}
    (k:∀v s' av ag,VR C s'.heap (dm R ag) av v->bp C R ag s'->Ext st s ag s'->bA C s'.heap R ag env ρ->Q' av ag->P v s'):wpAny C.M A (eval (dE e t) env) P c9 s:=
  wpAny_mono (h.d R A env t s he hv hr S L) (fun v s' h=>bP h fun av ag a b c d=>k v s' av ag a b c (L.up c) d) fun _ _ x=>x
theorem Es.run {Q':List AV->St->Prop} {es:List PE} {pos:Pos} (h:Es C r es ρ st Q') (he:oL env.scope es t=true) (hv:ck env) (hr:d9 A r) (S:bp C R st s) (L:bA C s.heap R st env ρ) {P:List Value->Shared->Prop}
    (k:∀v s' av ag,bY C s'.heap (dm R ag) av v->bp C R ag s'->Ext st s ag s'->bA C s'.heap R ag env ρ->Q' av ag->P v s'):wpAny C.M A (spliced (backTo pos (starEach (dL es t) env))) P c9 s:=
  wpAny_mono (h.d R A env t pos s he hv hr S L) (fun v s' h=>bP h fun av ag a b c d=>k v s' av ag a b c (L.up c) d) fun _ _ x=>x
theorem T.run {Q':Bool->St->Prop} (h:T C r e ρ st Q') (he:oE env.scope e t=true) (hv:ck env) (hr:d9 A r) (S:bp C R st s) (L:bA C s.heap R st env ρ) {P:Bool->Shared->Prop}
    (k:∀b s' ag,bp C R ag s'->Ext st s ag s'->bA C s'.heap R ag env ρ->Q' b ag->P b s'):wpAny C.M A (isTrue (dE e t) env (eval (dE e t) env)) P c9 s:=
  wpAny_mono (h.d R A env t s he hv hr S L) (fun v s' h=>dR h fun ag b c d=>k v s' ag b c (L.up c) d) fun _ _ x=>x
end run
theorem A4 (x:Nm):(ah x==("__debug__" :Str))=false:=ES (P:=fun x=>(ah x==("__debug__" :Str))=false) (by decide +kernel) x
theorem bA.loc {hp:Heap} {env:Env} {x:Nm} {av:AV} (L:bA C hp R st env ρ) (h:ae ρ x=some av) (hk:env.kindOf (ah x)=some .local):∃m v,hp.Ns env.locals m∧m (ah x)=some v∧VR C hp (dm R st) av v:=
  bq L.ns fun m hn hl=>bq (hl x av h) fun v a b=>b.elim (fun b=>⟨m,v,hn,b.2,a⟩) fun b=>nomatch hk.symm.trans b.1
theorem bA.jU {hp:Heap} {env:Env} {x:Nm} {av:AV} (L:bA C hp R st env ρ) (h:ae ρ x=some av) (hk:env.kindOf (ah x)=some .cell):∃c v,env.cells.lookup (ah x)=some c∧hp.IsCell c (some v)∧VR C hp (dm R st) av v:=
  bq L.ns fun m hn hl=>bq (hl x av h) fun v a b=>b.elim (fun b=>nomatch hk.symm.trans b.1) fun b=>dR b.2 fun c h1 _ h2=>⟨c,v,h1,h2,a⟩
theorem El {x:Nm} {av:AV} (h:ae ρ x=some av) (q:Q av st):E C r (.loc x) ρ st Q:=.mk fun _ _ _ _ _ he hv _ S L=>
  bS (L.loc h (eq_of_beq he)) fun _ _ hn e a=>wpAny_Name (wpAny_loadName_local hv.kind (eq_of_beq he) hn e (AL S a q)) (A4 x)
theorem Bo {x:Nm} {av:AV} (h:ae ρ x=some av) (q:Q av st):E C r (.jU x) ρ st Q:=.mk fun _ _ _ _ _ he hv _ S L=>
  bS (L.jU h (eq_of_beq he)) fun _ _ hc e a=>wpAny_Name (wpAny_loadName_cell hv.kind (eq_of_beq he) hc e (AL S a q)) (A4 x)
theorem Ae {i:Int} (q:Q (.int i) st):E C r (.int i) ρ st Q:=.mk fun _ _ _ _ _ _ _ _ S _=>wpAny_Constant_int (AO (av:=.int i) S ⟨_,rfl⟩ q)
theorem Ak {x:Nm} (q:Q (.str x) st):E C r (.str x) ρ st Q:=.mk fun _ _ _ _ _ _ _ _ S _ _ _ _=>AO (av:=.str x) S ⟨_,rfl⟩ q
theorem Bz {b:Bool} (q:Q (.bool b) st):E C r (.bool b) ρ st Q:=.mk fun _ _ _ _ _ _ _ _ S _ _ _ _=>AL (av:=.bool b) S rfl q
theorem AJ (q:Q .none st):E C r .none ρ st Q:=.mk fun _ _ _ _ _ _ _ _ S _ _ _ _=>AL (av:=.none) S rfl q
theorem Bc {i:Nat} (q:Q (.int (-i)) st):E C r (.neg i) ρ st Q:=.mk fun _ _ _ _ s _ _ _ S _=>
  wpAny_UnaryOp (wpAny_Constant_int (neg_int (AO (s:=s) (av:=.int (-i)) S ⟨_,rfl⟩ q)))
theorem bp.g {s:Shared} (S:bp C R st s):s.heap.Ns mainGlobals C.mg:=C.g.keeps S.base
theorem bp.b {s:Shared} (S:bp C R st s):s.heap.Ns builtinsNs C.mb:=C.b.keeps S.base
theorem bp.X {s:Shared} (S:bp C R st s):C.K.In s.heap:=C.X.keeps S.base
theorem bp.nolimit {s:Shared} (S:bp C R st s):s.heap.NoLimit:=C.nolimit.keeps S.base
theorem B8 {A env s n p v P} (S:bp C R st s) (hv:ck env) (hk:kindB env.scope n .globalImplicit=true) (hd:(n==("__debug__" :Str))=false) (e:nsIn C.K mainGlobals n=some (some v)) (h:P v s) :
    wpAny C.M A (eval (.Name n p) env) P c9 s:=
  Calls.Name_function_global hv.kind (beq_iff_eq.mp hk) (Calls.loadGlobal_global (hv.globals▸S.g) (mg_of C.X C.g e) h) hd
theorem C9 {A env s n p v P} (S:bp C R st s) (hv:ck env) (hk:kindB env.scope n .globalImplicit=true) (hd:(n==("__debug__" :Str))=false) (e:nsIn C.K mainGlobals n=some none) (hn:n≠"__name__")
    (hb:bootBuiltins n=some v) (h:P v s):wpAny C.M A (eval (.Name n p) env) P c9 s:=
  Calls.Name_function_global hv.kind (beq_iff_eq.mp hk) (Calls.loadGlobal_builtin (hv.globals▸S.g) (mg_none_of C.X C.g e) (hv.builtins▸S.b) ((C.builtins n hn).trans hb) h) hd
theorem Ar {x:Nm} {i:Int} (h:rG x=some i) (q:Q (.int i) st):E C r (.bI x) ρ st Q:=.mk fun _ _ _ _ _ he hv _ S _=>
  xE (C.M7 x i h) fun t e=>B8 S hv he (A4 x) e (AL (av:=.int i) S ⟨t,rfl⟩ q)
theorem C0 {x y:Nm} (h:yR x=some y) (q:Q (.str y) st):E C r (.bI x) ρ st Q:=.mk fun _ _ _ _ _ he hv _ S _=>
  xE (C.M5 x y h) fun t e=>B8 S hv he (A4 x) e (AL (av:=.str y) S ⟨t,rfl⟩ q)
theorem Bx (q:Q .glob st):E C r (.bI .bz) ρ st Q:=.mk fun _ _ _ _ _ he hv _ S _=>
  B8 S hv he (A4 _) C.qr (AL (av:=.glob) S rfl q)
noncomputable def binI (op:xh) (i j k:Int):Prop:=match op with
  | .add=>k=i+j
  | .sub=>k=i-j
  | .mul=>IntMulOk i j∧k=i*j
  | .fdiv=>j≠0∧Builtin.divisionGoesByPylong i j=false∧k=i.fdiv j
  | .mod=>j≠0∧k=i.fmod j
inductive nZ (op:xh) (a:AV) (Q:AV->St->Prop) (b:AV) (bg:St):Prop
  | mk:∀i j k,(a=.int i)->(b=.int j)->(binI op i j k)->(Q (.int k) bg)->nZ op a Q b bg
abbrev Pg (C:Cx) (r:Nat) (op:xh) (e:PE) (ρ:Loc) (Q:AV->St->Prop):AV->St->Prop:=fun a ao=>E C r e ρ ao (nZ op a Q)
theorem J7 {A:Around} {s:Shared} {op:xh} {i j k:Int} {v w:Value} {P:Value->Shared->Prop} {hp ft:Heap} {D D':Addr->Prop} {a b:AV} (hv:VR C hp D a v) (hw:VR C ft D' b w) (e1:a=.int i) (e2:b=.int j) (h:binI op i j k) (q:∀n,P (.int k n) {s with toks:=s.toks+1}):wpAny C.M A (binaryOp op.py v w) P c9 s:=by
  subst e1;subst e2
  obtain ⟨t,rfl⟩:=hv
  obtain ⟨u,rfl⟩:=hw
  cases op with
  | add=>exact add_int (h▸q _)
  | sub=>exact sub_int (h▸q _)
  | mul=>exact mul_int (h.2▸q _) h.1
  | fdiv=>exact floordiv_int h.1 (h.2.2▸q _) (.inl h.2.1)
  | mod=>exact mod_int' h.1 (h.2▸q _)
theorem AT {op:xh} {l rr:PE} (h:E C r l ρ st (Pg C r op rr ρ Q)):E C r (.bin op l rr) ρ st Q:=.mk fun _ _ _ _ _ he hv hr S L=>
  wpAny_BinOp (h.run (a1 he) hv hr S L fun _ _ _ _ ha S1 x1 L1 h1=>h1.run (a2 he) hv hr S1 L1 fun _ _ _ _ hb S2 x2 _ ⟨_,_,_,e1,e2,hk,q⟩=>
    J7 ha hb e1 e2 hk fun _=>cS.trans (x1.trans x2) (AO (av:=.int _) S2 ⟨_,rfl⟩ q))
theorem En {Q:List AV->St->Prop} (q:Q [] st):Es C r [] ρ st Q:=.mk fun _ _ _ _ _ _ _ _ _ S _=>spliced_none ⟨[],st,rfl,S,.refl ..,q⟩
theorem AI {e:Expr} {rest:List Expr} {env:Env} (h:notStar e=true):starEach (e::rest) env=(false,eval e env)::starEach rest env:=by
  cases e<;>first | rfl | exact ff h
abbrev I8 (a:AV) (Q:List AV->St->Prop):List AV->St->Prop:=fun as bg=>Q (a::as) bg
abbrev L6 (C:Cx) (r:Nat) (es:List PE) (ρ:Loc) (Q:List AV->St->Prop):AV->St->Prop:=fun a ao=>Es C r es ρ ao (I8 a Q)
theorem Ec {e:PE} {es:List PE} {Q:List AV->St->Prop} (h:E C r e ρ st (L6 C r es ρ Q)):Es C r (e::es) ρ st Q:=.mk fun _ _ _ _ _ _ he hv hr S L=>
  spliced_more (h.run (a1 he) hv hr S L fun v _ a _ ha S1 x1 L1 h1=>h1.run (a2 (a2 he)) hv hr S1 L1 fun vs _ as bg has S2 x2 _ q=>
    ⟨a::as,bg,⟨v,vs,rfl,ha.up x2.up,has⟩,S2,x1.trans x2,q⟩) (AI (a1 (a2 he)))
theorem AW {s:Shared} (S:bp C R st s) {b:Addr} (d:dm R st b) (h:s.heap.objs.size≤b):False:=by
  rcases d with d | d
  · cases e:st b with
    | none=>exact d e
    | some o=>refine xE ((S.obj _ _ e).alive) fun ob e=>?_;exact bR h e
  · refine xE (S.under b d) fun o e=>?_;exact bR h e
theorem Bi {s:Shared} (S:bp C R st s):st s.heap.objs.size=none:=by
  cases e:st s.heap.objs.size with
  | none=>rfl
  | some o=>exact (AW S (Ek (R:=R) e) (Nat.le_refl _)).elim
theorem G5 {s:Shared} (S:bp C R st s):C.Nw s.heap.objs.size:=GC S.base (Nat.le_refl _)
theorem vE {s:Shared} (S:bp C R st s):¬dm R st s.heap.objs.size:=fun d=>AW S d (Nat.le_refl _)
theorem GA {s:Shared} {vs:List AV} {xs:List Value} {n:Nat} (S:bp C R st s) (h:bY C s.heap (dm R st) vs xs) (q:Q (.tup vs) st) :
    cS C R st s Q (.ref s.heap.objs.size) {s with heap:=s.heap.push {cls:=.type "tuple",data:=.seq xs.toArray},toks:=n}:=by
  have k:∀b o,s.heap.get? b=some o->(s.heap.push {cls:=.type "tuple",data:=.seq xs.toArray}).get? b=some o:=fun b o e=>Heap.get?_push_of_some _ e
  have z:s.heap.objs.size≤(s.heap.push {cls:=.type "tuple",data:=.seq xs.toArray}).objs.size:=by rw [Heap.size_push];exact Nat.le_succ _
  refine ⟨.tup vs,st,⟨_,xs,rfl,fun d=>vE S d,G5 S,⟨_,Heap.get?_push_size _ rfl,rfl,0,rfl⟩,h.up fun b o e nb=>⟨k b o e,nb⟩⟩,S.grow k z,.grow k z,q⟩
theorem C5 {s:Shared} {vs:List AV} {xs:List Value} {n:Nat} (S:bp C R st s) (h:bY C s.heap (dm R st) vs xs) (hz:xs.length≤16777217) (q:∀b,st b=none->Q (.ref b) (st.upd b (.list vs))) :
    cS C R st s Q (.ref s.heap.objs.size) {s with heap:=s.heap.push {cls:=.type "list",data:=.seq xs.toArray},toks:=n}:=by
  have k:∀b o,s.heap.get? b=some o->(s.heap.push {cls:=.type "list",data:=.seq xs.toArray}).get? b=some o:=fun b o e=>Heap.get?_push_of_some _ e
  have z:s.heap.objs.size≤(s.heap.push {cls:=.type "list",data:=.seq xs.toArray}).objs.size:=by rw [Heap.size_push];exact Nat.le_succ _
  refine ⟨.ref s.heap.objs.size,_,rfl,S.new (o:=.list vs) k z (Nat.le_refl _) ?_,.new k z (Nat.le_refl _),q _ (Bi S)⟩
  refine ⟨xs,⟨0,Heap.get?_push_size _ rfl⟩,h.up fun b o e nb=>⟨k b o e,fun d=>?_⟩,hz⟩
  rcases HG d with q' | d
  · subst q';exact absurd (Heap.lt_size e) (Nat.lt_irrefl _)
  · exact nb d
abbrev Pb (Q:AV->St->Prop) (vs:List AV) (ao:St):Prop:=vs.length≤1000∧Q (.tup vs) ao
theorem F8 {hp:Heap} {D:Addr->Prop} {vs:List AV} {xs:List Value} (h:bY C hp D vs xs) (z:vs.length≤1000):xs.length≤sizeLine:=sizeLine_eq▸h.length▸Zl z rfl
theorem AC {es:List PE} (h:Es C r es ρ st (Pb Q)):E C r (.tup es) ρ st Q:=.mk fun _ _ _ _ _ he hv hr S L=>
  wpAny_Tuple (h.run he hv hr S L fun _ _ _ _ i6 S1 x1 _ h1=>⟨F8 i6 h1.1,cS.trans x1 (GA S1 i6 h1.2)⟩)
theorem B4 {es:List PE} (h:Es C r es ρ st (fun vs ao=>vs.length≤1000∧∀b,ao b=none->Q (.ref b) (ao.upd b (.list vs)))):E C r (.list es) ρ st Q:=.mk fun _ _ _ _ _ he hv hr S L=>
  wpAny_List (h.run he hv hr S L fun _ _ _ _ i6 S1 x1 _ h1=>⟨F8 i6 h1.1,cS.trans x1 (C5 S1 i6 (i6.length▸Zl h1.1 rfl) h1.2)⟩)
noncomputable def kW:Option bQ->Option (List AV)
  | some (.list vs)=>some vs
  | _=>none
noncomputable def o4:Option bQ->Option (List (Int×AV))
  | some (.dict es)=>some es
  | _=>none
noncomputable def K8:Option bQ->Option (Nm×Addr)
  | some (.inst c d)=>some (c,d)
  | _=>none
noncomputable def Kb:Option bQ->Option (List (Nm×AV))
  | some (.aD fs)=>some fs
  | _=>none
section
variable {o:Option bQ} {P:Prop}
theorem F0 {vs:List AV} (h:kW o=some vs):o=some (.list vs):=match o with
  | none=>cp h
  | some (.list _)=>congrArg (fun v=>some (bQ.list v)) (Option.some.inj h)
  | some (.dict _) | some (.inst _ _) | some (.aD _)=>cp h
theorem Em {es:List (Int×AV)} (h:o4 o=some es):o=some (.dict es):=match o with
  | none=>cp h
  | some (.dict _)=>congrArg (fun v=>some (bQ.dict v)) (Option.some.inj h)
  | some (.list _) | some (.inst _ _) | some (.aD _)=>cp h
theorem wu {c:Nm} {d:Addr} (h:K8 o=some (c,d)):o=some (.inst c d):=match o with
  | none=>cp h
  | some (.inst _ _)=>congrArg (fun v=>some (bQ.inst v.1 v.2)) (Option.some.inj h)
  | some (.list _) | some (.dict _) | some (.aD _)=>cp h
theorem wx {fs:List (Nm×AV)} (h:Kb o=some fs):o=some (.aD fs):=match o with
  | none=>cp h
  | some (.aD _)=>congrArg (fun v=>some (bQ.aD v)) (Option.some.inj h)
  | some (.list _) | some (.dict _) | some (.inst _ _)=>cp h
end
noncomputable def qf (st:St):AV->Option (List AV)
  | .lst vs=>some vs
  | .tup vs=>some vs
  | .ref a=>kW (st a)
  | _=>none
noncomputable def gI (st:St):AV->Option (List (Int×AV))
  | .kC es=>some es
  | .ref a=>o4 (st a)
  | _=>none
noncomputable def eL (st:St):AV->Option (List AV)
  | .lst vs=>some vs
  | .ref a=>kW (st a)
  | _=>none
noncomputable def objOf (st:St):AV->Option (Nm×List (Nm×AV))
  | .obj c fs=>some (c,fs)
  | .ref a=>(K8 (st a)).bind fun y=>(Kb (st y.2)).map fun fs=>(y.1,fs)
  | _=>none
noncomputable def idx (n:Nat) (k:Int):Option Nat:=if 0≤k∧k<1000000 then some k.toNat else if k<0∧-1000000≤k∧-(n:Int)≤k then some (k+n).toNat else none
noncomputable def itemAt (vs:List AV) (k:Int):Option AV:=(idx vs.length k).bind fun j=>vs[j]?
noncomputable def itemOf (st:St) (a:AV):AV->Option AV
  | .int k=>(qf st a).elim ((gI st a).bind fun es=>ae es k) fun vs=>itemAt vs k
  | _=>none
theorem tH {i i':Int} {n:Nat} (e:(if i<0 then i+n else i)=i') (h0:0≤i') (h1:i'<n):seqIndex? i n=some i'.toNat:=by
  subst e;exact if_pos (Bool.and_eq_true_iff.mpr ⟨decide_eq_true h0,decide_eq_true h1⟩)
section
variable {s:Shared} (S:bp C R st s) {a:AV} {v:Value}
include S
theorem BM {vs:List AV} (h:VR C s.heap (dm R st) a v) (e:eL st a=some vs):∃p xs,v=.ref p∧s.heap.PlainList p xs.toArray∧bY C s.heap (dm R st) vs xs∧xs.length≤16777217:=by
  cases a with
  | lst ws=>exact Option.some.inj e▸cm h fun p xs e _ hl hx hz=>⟨p,xs,e,hl,hx,hz⟩
  | ref p=>exact dR (S.obj _ _ (F0 e)) fun xs hl hx hz=>⟨p,xs,h,hl,hx,hz⟩
  | _=>exact cp e
theorem CY {es:List (Int×AV)} (h:VR C s.heap (dm R st) a v) (e:gI st a=some es) :
    ∃p kvs,v=.ref p∧C.Nw p∧s.heap.DictOf C.IK p kvs∧hS C s.heap (dm R st) es kvs:=by
  cases a with
  | kC ws=>exact Option.some.inj e▸cm h fun p xs e _ z hl hx=>⟨p,xs,e,z,hl,hx⟩
  | ref p=>exact bq (S.obj _ _ (Em e)) fun xs hl hx=>⟨p,xs,h,S.low _ (B2 (Em e)),hl,hx⟩
  | _=>exact cp e
theorem tG {vs:List AV} (h:VR C s.heap (dm R st) a v) (e:qf st a=some vs) :
    ∃p xs,v=.ref p∧(s.heap.IsList p xs.toArray∨IsTup s.heap p xs.toArray)∧bY C s.heap (dm R st) vs xs:=by
  cases a with
  | lst ws=>exact Option.some.inj e▸cm h fun p xs e _ hl hx _=>⟨p,xs,e,.inl hl.isList,hx⟩
  | tup ws=>exact Option.some.inj e▸cm h fun p xs e _ _ hl hx=>⟨p,xs,e,.inr hl,hx⟩
  | ref p=>exact dR (S.obj _ _ (F0 e)) fun xs hl hx _=>⟨p,xs,h,.inl hl.isList,hx⟩
  | _=>exact cp e
end
noncomputable def GI (C:Cx) (A:Around) (s:Shared) (P:Value->Shared->Prop) (v w:Value):Prop:=∃T id,s.TypeIs v T∧typeLookup (.type T) "__getitem__"=pure (some (.builtin id))∧wpAny C.M A (getItem v w) P c9 s
theorem uT {A:Around} {s:Shared} {p:Addr} {xs:List Value} {i:Int} {t:Tok} {j:Nat} {u:Value} {P:Value->Shared->Prop} (hp:s.heap.IsList p xs.toArray∨IsTup s.heap p xs.toArray) (hj:idx xs.length i=some j) (hu:xs[j]?=some u) (k:P u s):GI C A s P (.ref p) (.int i t):=by
  have YG:=(List.getElem?_eq_some_iff.mp hu).1
  have hu:xs.toArray[j]?=some u:=List.getElem?_toArray.trans hu
  by_cases h0:0≤i∧i<1000000
  · cases Option.some.inj ((if_pos h0).symm.trans hj)
    exact hp.elim (fun hp=>⟨_,_,hp.typeIs,slot_list_getitem.lookup,wpAny_getItem_list hp h0.1 (Int.lt_of_lt_of_le h0.2 (by decide)) hu k⟩) fun hp=>
      ⟨_,_,hp.typeIs,slot_tuple_getitem.lookup,getItem_tuple hp (Int.le_trans (by decide) h0.1) (Int.lt_of_lt_of_le h0.2 (by decide)) (tH (n:=xs.length) (if_neg (Int.not_lt.mpr h0.1)) h0.1 (ZK h0 rfl YG).2) hu k⟩
  · have hj:=(if_neg h0).symm.trans hj
    by_cases h1:i<0∧-1000000≤i∧-(xs.length:Int)≤i
    · cases Option.some.inj ((if_pos h1).symm.trans hj)
      exact hp.elim (fun hp=>⟨_,_,hp.typeIs,slot_list_getitem.lookup,wpAny_getItem_list_neg hp h1.1 h1.2.2 (Int.le_trans (by decide) h1.2.1) hu k⟩) fun hp=>
        ⟨_,_,hp.typeIs,slot_tuple_getitem.lookup,getItem_tuple hp (Int.le_trans (by decide) h1.2.1) (Int.lt_trans h1.1 (by decide)) (tH (n:=xs.length) (if_pos h1.1) (WB h1).1 (WB h1).2) hu k⟩
    · exact cp ((if_neg h1).symm.trans hj)
theorem HC {A:Around} {s:Shared} (S:bp C R st s) {a b:AV} {v w:Value} {x:AV} (ha:VR C s.heap (dm R st) a v) (hb:VR C s.heap (dm R st) b w) (e:itemOf st a b=some x) {P:Value->Shared->Prop}
    (k:∀u n,VR C s.heap (dm R st) x u->P u {s with toks:=n}):GI C A s P v w:=by
  cases b with
  | int i=>
    obtain ⟨t,rfl⟩:=hb
    have e:(qf st a).elim _ _=some x:=e
    cases q:qf st a with
    | some vs=>
      rw [q] at e
      exact bS (tG S ha q) fun p xs ev hp hx=>bq (Option.bind_eq_some_iff.mp e) fun j hj hi=>bq (hx.get hi) fun u hu hv=>ev▸uT hp (hx.length.symm▸hj) hu (k u s.toks hv)
    | none=>
      rw [q] at e
      exact bq (Option.bind_eq_some_iff.mp e) fun es q e=>bP (CY S ha q) fun p kvs ev _ hp hx=>bq (e▸hx.get (k:=i):vz _ _ _ (some x) _) fun u hu hv=>
        ev▸⟨_,_,hp.mapOf.typeIs,slot_dict_getitem.lookup,wpAny_getItem_of (intKind_is _ _ i t) hp.mapOf hu (k u (s.toks+1) hv)⟩
  | _=>exact cp e
theorem DB {slice:Expr} {o i:Value} (h:n7 slice=true):subscripted slice false o i=operate [o,i] (getItem o i):=by
  cases slice<;>first | rfl | exact ff h
inductive zU (a:AV) (Q:AV->St->Prop) (b:AV) (bg:St):Prop
  | mk:∀x,(itemOf bg a b=some x)->(Q x bg)->zU a Q b bg
abbrev Pc (C:Cx) (r:Nat) (e:PE) (ρ:Loc) (Q:AV->St->Prop):AV->St->Prop:=fun a ao=>E C r e ρ ao (zU a Q)
theorem Ai {e i:PE} (h:E C r e ρ st (Pc C r i ρ Q)):E C r (.sub e i) ρ st Q:=.mk fun R A _ _ s he hv hr S L=>
  Subscript_ (h.run (a1 he) hv hr S L fun _ _ _ _ ha S1 x1 L1 h1=>h1.run (a1 (a2 he)) hv hr S1 L1 fun _ _ _ _ hb S2 x2 _ ⟨_,hx,q⟩=>
    bS (HC (A:=A) S2 (ha.up x2.up) hb hx (P:=cS C R st s Q) fun _ _ hu=>cS.trans (x1.trans x2) (AO S2 hu q)) fun _ _ hT hl hg=>tail_any hT hl hg (DB (a2 (a2 he))))
end Mine
end
section
namespace Mine
variable {C:Cx} {R:Addr->Prop} {r:Nat} {ρ:Loc} {st:St} {Q:AV->St->Prop}
noncomputable def J9 (c:Nm) (fs:List (Nm×AV)) (n:Nm):Option AV:=if n∈iq c then ae fs n else if n=.b9∧ae fs .b9=none then (uR c).map .int else none
noncomputable def gp (st:St) (a:AV) (n:Nm):Option AV:=(objOf st a).bind fun y=>J9 y.1 y.2 n
theorem FK {hp:Heap} {d:Addr} {m:Str->Option Value} (h:hp.Ns d m):∃od,hp.get? d=some od∧(∃es ep,od.data=.dict es ep)∧∀x,lookIn x od=some (m x):=by
  refine xj h ?_;clear h;intro o es ep ho hd hk hm
  refine ⟨o,ho,⟨es,ep,hd⟩,fun x=>?_⟩
  unfold lookIn
  rw [hd]
  dsimp only
  have:=hm x
  unfold nsFind findBy at this
  rw [←Array.find?_toList] at this
  rw [←this]
  cases hf:es.toList.find? (fun e=>e.key.isStr x) with
  | some e=>rfl
  | none=>
    have yK:es.toList.any (fun e=>e.refKey)=false:=by
      rw [Array.any_toList,Array.any_eq_false']
      intro e he
      refine xk (hk e he) fun n t q=>?_
      simp [DictEntry.refKey,q]
    rw [if_neg (by rw [yK];exact Bool.false_ne_true)];rfl
structure Inst (C:Cx) (s:Shared) (D:Addr->Prop) (v:Value) (c:Nm) (fs:List (Nm×AV)) where
  a:Addr
  d:Addr
  m:Str->Option Value
  eq:v=.ref a
  at_:s.heap.get? a=some (instObj (C.cls c) d)
  ns:s.heap.Ns d m
  rel:kX C s.heap D fs m
  none_:∀n,ae fs n=none->m (ah n)=none
theorem ER {s:Shared} (S:bp C R st s) {a:AV} {v:Value} {c:Nm} {fs:List (Nm×AV)} (h:VR C s.heap (dm R st) a v) (e:objOf st a=some (c,fs)):Nonempty (Inst C s (dm R st) v c fs):=by
  cases a with
  | obj c' Zd=>
    cases Option.some.inj e
    exact kr h fun p d m e _ _ _ h1 h2 h3 h4=>⟨⟨p,d,m,e,h1,h2,h3,h4⟩⟩
  | ref p=>
    obtain ⟨⟨c',d⟩,q,e⟩:=Option.bind_eq_some_iff.mp e
    obtain ⟨Zd,q',e⟩:=Option.map_eq_some_iff.mp e
    cases e
    exact gx (S.obj _ _ (wx q')) fun m h1 h2 h3 _=>⟨⟨p,d,m,h,S.obj _ _ (wu q),h1.ns,h2,h3⟩⟩
  | _=>exact cp e
theorem Inst.at' {s:Shared} {D:Addr->Prop} {v:Value} {c:Nm} {fs:List (Nm×AV)} (I:Inst C s D v c fs):∃od,InstAt s.heap I.a (instObj (C.cls c) I.d) (C.cls c) (some od)∧∀x,lookIn x od=some (I.m x):=by
  refine dR (FK I.ns) fun od h1 _ h2=>?_
  exact ⟨od,⟨I.at_,rfl,rfl,h1⟩,h2⟩
theorem DX {c n:Nm} (h:n∈iq c):c∈dX:=by
  unfold iq at h
  cases e:lk c aL with
  | none=>rw [e] at h;exact nomatch h
  | some l=>exact (by decide +kernel:∀y∈aL,y.1∈dX) _ (CQ e)
theorem GR {c:Nm} {i:Int} (h:uR c=some i):c∈dX:=(by decide +kernel:∀y∈kL,y.1∈dX) _ (CQ h)
theorem ym:∀y∈mL.map (·.1),y.1∈dX:=by decide +kernel
theorem uG {c n:Nm} {p} (h:om c n=some p):c∈dX:=ym _ (List.mem_map_of_mem (f:=(·.1)) (CQ h))
theorem Gj {hp:Heap} {D:Addr->Prop} {a:AV} {v:Value} (h:VR C hp D a v):handedIn v=true:=by
  cases a with
  | int _ | str _=>exact xE h fun _ e=>e▸rfl
  | tup _ | lst _ | xM _ | kC _=>exact IQ h fun _ _ e _=>e▸rfl
  | obj _ _=>exact fR h fun _ _ _ e _=>e▸rfl
  | _=>exact (show v=_ from h)▸rfl
theorem F7 {K:Frag} {i:Int} {t:Tok}:specialIn K (.int i t) "__get__"=some none:=by
  unfold specialIn typeIn
  show (pureOf (typeOf (.int i t))).bind _=_
  kernel_rfl
theorem HD {A:Around} {s:Shared} (S:bp C R st s) {a:AV} {v:Value} {n:Nm} {x:AV} (h:VR C s.heap (dm R st) a v) (e:gp st a n=some x) {P:Value->Shared->Prop} {b:Bool}
    (k:∀u t,VR C s.heap (dm R st) x u->P u {s with toks:=t}):wpAny C.M A (getAttr v (ah n) b) P c9 s:=by
  obtain ⟨⟨c,fs⟩,q,e⟩:=Option.bind_eq_some_iff.mp e
  obtain ⟨I⟩:=ER S h q
  obtain ⟨od,ia,hl⟩:=I.at'
  rw [I.eq]
  have cl:=fun (hc:c∈dX)=>(C.oC c hc).2
  by_cases hn:n∈iq c
  · have e:=(if_pos hn).symm.trans e
    have hc:=cl (DX hn)
    exact bq (I.rel.get e) fun u hu hv=>get_value S.X ia (eq_of_beq (al hc 1 rfl)) (findObj_own (al hc 3 rfl) (C.attr c n hn) rfl (by rw [hl,hu])) (Gj hv) (k u (s.toks+1) hv)
  · have e:=(if_neg hn).symm.trans e
    by_cases hk:n=.b9∧ae fs .b9=none
    · have e2:=(if_pos hk).symm.trans e
      clear e hn
      obtain ⟨rfl,hf⟩:=hk
      refine bq (Option.map_eq_some_iff.mp e2) fun i Wa ex=>?_
      have hc:=cl (GR Wa)
      exact xE (C.kind c i Wa) fun t hi=>get_value S.X ia (eq_of_beq (al hc 1 rfl)) (findObj_cls (al hc 3 rfl) hi F7 rfl (by decide +kernel) (by rw [hl,I.none_ _ hf])) rfl (k (.int i t) (s.toks+1) (ex▸⟨t,rfl⟩))
    · exact cp ((if_neg hk).symm.trans e)
theorem uh (f:Nm):(ah f !=("super" :Str))=true:=ES (P:=fun f=>(ah f !=("super" :Str))=true) (by decide +kernel) f
theorem Be {attr:Str} {env:Env} {whole:Sem Value} {t:Tr} (e:PE) (h:Nat.blt e.ctorIdx 24=true):attributeBase (dE e t) attr env whole=whole:=by
  cases e with
  | call f as=>
    cases as with
    | nil=>
      unfold attributeBase
      dsimp only [dE,dL]
      rw [uh f];rfl
    | cons _ _=>exact Eq.refl whole
  | freeze _ | gF _ | dead=>exact ff h
  | _=>exact Eq.refl whole
inductive VM (n:Nm) (Q:AV->St->Prop) (a:AV) (ao:St):Prop
  | mk:∀x,(gp ao a n=some x)->(Q x ao)->VM n Q a ao
theorem Aa {e:PE} {n:Nm} (h:E C r e ρ st (VM n Q)):E C r (.attr e n) ρ st Q:=.mk fun R A env t s he hv hr S L=>
  Attribute_any_ (h.run (a1 he) hv hr S L fun _ _ _ _ ha S1 x1 _ ⟨_,hx,q⟩=>HD S1 ha hx fun _ _ hu=>cS.trans x1 (AO S1 hu q))
    (show (do
      let o ←attributeBase (dE e (t.a 0)) (ah n) env (eval (dE e (t.a 0)) env)
      standAt t.d.p.atName
      let r ←holding [o] (getAttr o (ah n) true)
      letTemporaryGo (dE e (t.a 0)) o r
      pure r)=_ by rw [Be e (a2 he)])
theorem D8:∀{x y:Nm},ah x=ah y->x=y:=by
  intro x y h
  have:yj (keyOf (ah x))=yj (keyOf (ah y)):=by rw [h]
  rwa [ET,ET] at this
theorem FJ (x y:Nm):(ah x==ah y)=decide (x=y):=by
  by_cases h:x=y
  · subst h;simp
  · rw [decide_eq_false h];exact beq_eq_false_iff_ne.mpr fun e=>h (D8 e)
noncomputable def QT:AV->Option Int
  | .int i=>some i
  | _=>none
noncomputable def WA:AV->Option Nm
  | .str i=>some i
  | _=>none
noncomputable def Ja:List AV->Option AV
  | a::r=>if r.isEmpty then some a else none
  | []=>none
noncomputable def IV:AV->Option (List AV)
  | .tup vs=>some vs
  | _=>none
noncomputable def yf (b:AV):Option Nm:=(IV b).bind fun vs=>(Ja vs).bind WA
noncomputable def uc (b:AV):Option Bool:=(yf b).map fun _=>false
noncomputable def Wy (i:Int) (b:AV):Option Bool:=match b with
  | .int j=>some (i==j)
  | _=>uc b
noncomputable def eqT (vs:List AV) (y:Nm):Option Bool:=match vs with
  | .str x::vs=>if x=y then (if vs.isEmpty then some true else none) else some false
  | _=>none
noncomputable def QC (vs:List AV) (b:AV):Option Bool:=match b with
  | .str _=>some false
  | _=>(yf b).bind (eqT vs)
noncomputable def Ww (x:Nm) (b:AV):Option Bool:=match b with
  | .str y=>some (decide (x=y))
  | _=>none
noncomputable def Wx (vs:List AV) (b:AV):Option Bool:=match b with
  | .lst ws=>if ws.isEmpty then some vs.isEmpty else none
  | _=>none
noncomputable def OE (a b:AV):Option Bool:=match a with
  | .int i=>Wy i b
  | .str x=>Ww x b
  | .tup vs=>QC vs b
  | .lst vs=>Wx vs b
  | .bool _=>uc b
  | .glob=>uc b
  | _=>none
noncomputable def VU (a:AV):Option Bool:=match a with
  | .none=>some true
  | .bool _ | .int _ | .str _ | .tup _ | .lst _ | .obj _ _ | .ref _=>some false
  | _=>none
noncomputable def VV (a:AV):Option Bool:=match a with
  | .glob=>some true
  | .bool _ | .int _=>some false
  | _=>none
noncomputable def isA (a b:AV):Option Bool:=match b with
  | .none=>VU a
  | .glob=>VV a
  | _=>none
noncomputable def Lm:List AV->Option (Int×Int)
  | a::r=>(QT a).bind fun x=>(Ja r).bind fun b=>(QT b).map fun y=>(x,y)
  | []=>none
noncomputable def two (b:AV):Option (Int×Int):=(IV b).bind Lm
noncomputable def KU (st:St) (a b:AV):Option Bool:=match a with
  | .int k=>(two b).elim ((gI st b).map fun es=>(ae es k).isSome) fun y=>some (y.1==k||y.2==k)
  | _=>none
noncomputable def ints2 (f:Int->Int->Bool) (a b:AV):Option Bool:=match a with
  | .int i=>match b with
    | .int j=>some (f i j)
    | _=>none
  | _=>none
noncomputable def rK (op:xa) (st:St) (a b:AV):Option Bool:=match op with
  | .eq=>OE a b
  | .ne=>(OE a b).map (!·)
  | .KS=>isA a b
  | .Mr=>KU st a b
  | .Me=>(KU st a b).map (!·)
  | .lt=>ints2 (fun i j=>decide (i<j)) a b
  | .le=>ints2 (fun i j=>decide (i≤j)) a b
  | .gt=>ints2 (fun i j=>decide (i>j)) a b
  | .ge=>ints2 (fun i j=>decide (i≥j)) a b
theorem bY.nil {hp:Heap} {D:Addr->Prop} {xs:List Value} (h:bY C hp D [] xs):xs=[]:=h
theorem Fw {A:Around} {s:Shared} (S:bp C R st s) {p:Addr} {items:Array Value} (ht:s.heap.IsTuple p items) (hp:C.Nw p) (hu:A.units+5<cLine) :
    RcAt A s (.ref C.aA) (.ref p) false∧RcNeAt A s (.ref C.aA) (.ref p) true:=C.M4 S.base ht hp.1 hu
section
variable {A:Around} {s:Shared} {hp:Heap} {D:Addr->Prop} {a b:AV} {v w:Value} {k:Bool} {P:Value->Shared->Prop}
theorem wt {i:Int} (h:VR C hp D a v) (e:QT a=some i):∃t,v=.int i t:=by
  cases a with
  | int j=>exact Option.some.inj e▸h
  | _=>exact cp e
theorem Ka {i:Nm} (h:VR C hp D a v) (e:WA a=some i):∃t,v=.str (ah i) t:=by
  cases a with
  | str j=>exact Option.some.inj e▸h
  | _=>exact cp e
theorem H3 {vs:List AV} {xs:List Value} (h:bY C hp D vs xs) (e:Ja vs=some a):∃x,xs=[x]∧VR C hp D a x:=by
  cases vs with
  | nil=>exact cp e
  | cons b r=>
    cases r with
    | cons _ _=>exact cp e
    | nil=>exact Option.some.inj e▸bS h fun x r' e1 hx h=>⟨x,e1.trans (congrArg _ h.nil),hx⟩
theorem HW {vs:List AV} (h:VR C hp D b w) (e:IV b=some vs):∃q xs,w=.ref q∧C.Nw q∧hp.IsTuple q xs.toArray∧bY C hp D vs xs:=by
  cases b with
  | tup us=>exact Option.some.inj e▸cm h fun q xs e1 _ z hq hx=>⟨q,xs,e1,z,hq,hx⟩
  | _=>exact cp e
theorem H0 {y:Nm} (hb:VR C hp D b w) (e:yf b=some y):∃q u,w=.ref q∧C.Nw q∧hp.IsTuple q [Value.str (ah y) u].toArray:=
  bq (Option.bind_eq_some_iff.mp e) fun vs e1 e=>bq (Option.bind_eq_some_iff.mp e) fun a e2 e3=>bP (HW hb e1) fun q xs ew z hq hx=>bq (H3 hx e2) fun x ex hx=>xE (Ka hx e3) fun u eu=>⟨q,u,ew,z,eu▸ex▸hq⟩
theorem yg (hb:VR C hp D b w) (e:uc b=some k):k=false∧∃q xs,w=.ref q∧C.Nw q∧hp.IsTuple q xs:=by
  obtain ⟨y,h,e⟩:=Option.map_eq_some_iff.mp e
  exact ⟨e.symm,bS (H0 hb h) fun q u a b c=>⟨q,_,a,b,c⟩⟩
noncomputable def IF (A:Around) (s:Shared) (v w:Value) (k:Bool):Prop:=RcAt A s v w k∧RcNeAt A s v w (!k)
theorem HF (f:∀q xs,C.Nw q->s.heap.IsTuple q xs->IF A s v (.ref q) false) (hb:VR C s.heap D b w) (e:uc b=some k):IF A s v w k:=
  xA (yg hb e) fun ek h=>bS h fun q xs ew z hq=>ek▸ew▸f q xs z hq
theorem JU {i:Int} {t:Tok} (hb:VR C s.heap D b w) (e:Wy i b=some k) (hu:A.units<cLine):IF A s (.int i t) w k:=by
  cases b with
  | int j=>cases Option.some.inj e;exact xE hb fun u ew=>ew▸⟨.int_int _ _ _ _,.int_int _ _ _ _⟩
  | _=>exact HF (fun _ _ _ hq=>⟨.int_tuple _ _ hq hu,.int_tuple _ _ hq hu⟩) hb e
theorem JS {x:Nm} {t:Tok} (hb:VR C s.heap D b w) (e:Ww x b=some k):IF A s (.str (ah x) t) w k:=by
  cases b with
  | str y=>cases Option.some.inj e;exact xE hb fun u ew=>ew▸FJ x y▸⟨.str_str _ _ _ _,.str_str _ _ _ _⟩
  | _=>exact cp e
theorem JT {p:Addr} {vs:List AV} {xs:List Value} (hp:s.heap.PlainList p xs.toArray) (hx:bY C s.heap D vs xs) (hb:VR C s.heap D b w) (e:Wx vs b=some k) (hu:A.units<cLine):IF A s (.ref p) w k:=by
  cases b with
  | lst ws=>
    cases ws with
    | cons _ _=>exact cp e
    | nil=>
      cases Option.some.inj e
      refine bP hb fun q ys ew _ hq hy=>?_
      rw [hy.1.nil] at hq
      rw [ew]
      cases vs with
      | nil=>rw [hx.nil] at hp;exact ⟨RcAt.lists (e:=fun _=>true) hp.isList hq.isList rfl hu (fun _ h=>nomatch h),RcNeAt.lists (e:=fun _=>true) hp.isList hq.isList rfl hu (fun _ h=>nomatch h)⟩
      | cons v vs=>
        have hE:(xs.toArray.size !=([]:List Value).toArray.size)=true:=by rw [List.size_toArray,List.size_toArray,hx.length];rfl
        exact ⟨RcAt.lists_lengths hp.isList hq.isList hE hu,RcNeAt.lists_lengths hp.isList hq.isList hE hu⟩
  | _=>exact cp e
theorem JR {p q:Addr} {u:Tok} {y:Nm} {vs:List AV} {xs:List Value} (hp:s.heap.IsTuple p xs.toArray) (hx:bY C s.heap D vs xs) (hq:s.heap.IsTuple q [Value.str (ah y) u].toArray) (e:eqT vs y=some k) (hu:A.units<cLine):IF A s (.ref p) (.ref q) k:=by
  cases vs with
  | nil=>exact cp e
  | cons x vs=>
    cases x with
    | str x=>
      refine bS hx fun v OQ ex hv PH=>xE hv fun t ev=>?_
      subst ev;subst ex
      have he:∀j (h1:j<(Value.str (ah x) t::OQ).toArray.size) (h2:j<[Value.str (ah y) u].toArray.size),EqAt A.in1 s (Value.str (ah x) t::OQ).toArray[j] [Value.str (ah y) u].toArray[j] (ah x==ah y):=by
        intro j h1 h2
        cases j with
        | zero=>exact EqAt.str_str _ _ _ _
        | succ j=>exact absurd h2 (Nat.not_lt.mpr (Nat.succ_le_succ (Nat.zero_le j)))
      have r1:=RcAt.tuples (e:=fun _=>ah x==ah y) hp hq hu he
      have r2:=RcNeAt.tuples (e:=fun _=>ah x==ah y) hp hq hu he
      have hm:min (Value.str (ah x) t::OQ).toArray.size [Value.str (ah y) u].toArray.size=1:=Nat.min_eq_right (Nat.succ_le_succ (Nat.zero_le _))
      rw [hm,FJ] at r1 r2
      by_cases pH:x=y
      · have e:=(if_pos pH).symm.trans e
        cases vs with
        | cons _ _=>exact cp e
        | nil=>
          cases Option.some.inj e
          rw [PH.nil,decide_eq_true pH] at r1 r2
          exact ⟨r1,r2⟩
      · cases Option.some.inj ((if_neg pH).symm.trans e)
        rw [decide_eq_false pH] at r1 r2
        exact ⟨r1,r2⟩
    | _=>exact cp e
theorem Nl {vs:List AV} (e:QC vs b=some k):(∃y,b=.str y∧k=false)∨(yf b).bind (eqT vs)=some k:=by
  cases b with
  | str y=>exact .inl ⟨y,rfl,(Option.some.inj e).symm⟩
  | _=>exact .inr e
theorem JQ {p:Addr} {vs:List AV} {xs:List Value} (hp:s.heap.IsTuple p xs.toArray) (hx:bY C s.heap D vs xs) (hb:VR C s.heap D b w) (e:QC vs b=some k) (hu:A.units<cLine):IF A s (.ref p) w k:=by
  rcases Nl e with ⟨y,rfl,rfl⟩ | e
  · exact xE hb fun u ew=>ew▸⟨.tuple_str _ _ hp hu,.tuple_str _ _ hp hu⟩
  · exact bq (Option.bind_eq_some_iff.mp e) fun y ey e=>bS (H0 hb ey) fun q u ew _ hq=>ew▸JR hp hx hq e hu
theorem vG (S:bp C R st s) (ha:VR C s.heap (dm R st) a v) (hb:VR C s.heap (dm R st) b w) (e:OE a b=some k) (hu:A.units+5<cLine):IF A s v w k:=by
  have Mx:A.units<cLine:=Xk hu
  cases a with
  | int i=>exact xE ha fun t ev=>ev▸JU hb e Mx
  | str x=>exact xE ha fun t ev=>ev▸JS hb e
  | lst vs=>exact cm ha fun p xs ev _ hp hx _=>ev▸JT hp hx hb e Mx
  | bool _=>exact (show v=_ from ha)▸HF (fun _ _ _ hq=>⟨.bool_tuple _ hq Mx,.bool_tuple _ hq Mx⟩) hb e
  | glob=>exact (show v=_ from ha)▸HF (fun _ _ z hq=>Fw S hq z hu) hb e
  | tup vs=>
    exact cm ha fun p xs ev _ _ hp hx=>ev▸JQ hp hx hb e Mx
  | _=>exact cp e
theorem DU {op:CmpOp} {f:Int->Int->Bool} {ft:Heap} {D':Addr->Prop} (ha:VR C hp D a v) (hb:VR C ft D' b w) (e:ints2 f a b=some k) (h0:P (.bool k) s)
    (h:∀i j t u,P (.bool (f i j)) s->wpAny C.M A (compareOp op (.int i t) (.int j u)) P c9 s):wpAny C.M A (compareOp op v w) P c9 s:=by
  cases a with
  | int i=>
    cases b with
    | int j=>exact xE ha fun t ev=>xE hb fun u ew=>ev▸ew▸h i j t u (Option.some.inj e▸h0)
    | _=>exact cp e
  | _=>exact cp e
theorem FP {v':Value} (ev:v=v') (hp:plainIs v' w=true) (hE:v'≠w) (e:some false=some k) (h0:P (.bool k) s):wpAny C.M A (compareOp .Is v w) P c9 s:=
  ev▸wpAny_is_other hp hE (Option.some.inj e▸h0)
theorem Jp (ha:VR C hp D a v) (e:VU a=some k) (h0:P (.bool k) s):wpAny C.M A (compareOp .Is v .none) P c9 s:=by
  cases a with
  | none=>cases (show v=_ from ha);exact wpAny_is_self rfl (Option.some.inj e▸h0)
  | bool _ | ref _=>exact FP (show v=_ from ha) rfl nofun e h0
  | int _ | str _=>exact xE ha fun _ ev=>FP ev rfl nofun e h0
  | tup _ | lst _=>exact IQ ha fun _ _ ev _=>FP ev rfl nofun e h0
  | obj _ _=>exact fR ha fun _ _ _ ev _=>FP ev rfl nofun e h0
  | _=>exact cp e
theorem Jq (ha:VR C hp D a v) (e:VV a=some k) (h0:P (.bool k) s):wpAny C.M A (compareOp .Is v (.ref C.aA)) P c9 s:=by
  cases a with
  | glob=>cases (show v=_ from ha);exact wpAny_is_ref_self (Option.some.inj e▸h0)
  | bool _=>exact FP (show v=_ from ha) rfl nofun e h0
  | int _=>exact xE ha fun _ ev=>FP ev rfl nofun e h0
  | _=>exact cp e
theorem rF {o:Option AV} {u:Option Value} (h:vz C hp D o u):u.isSome=o.isSome:=by
  cases o with
  | none=>exact (show u=none from h)▸rfl
  | some _=>exact bq h fun _ e _=>e▸rfl
theorem xB {y:Int×Int} {vs:List AV} {xs:List Value} (hx:bY C hp D vs xs) (e:Lm vs=some y):IntsAre xs [y.1,y.2]:=by
  cases vs with
  | nil=>exact cp e
  | cons a r=>exact bq (Option.bind_eq_some_iff.mp e) fun i e1 e=>bq (Option.bind_eq_some_iff.mp e) fun b e2 e=>bq (Option.map_eq_some_iff.mp e) fun j e3 e4=>bS hx fun v r' e5 hv hr=>bq (H3 hr e2) fun x e6 hx=>xE (wt hv e1) fun t1 e7=>xE (wt hx e3) fun t2 e8=>e4▸e5▸e6▸e7▸e8▸.cons _ _ (.cons _ _ .nil)
theorem IT {y:Int×Int} (hb:VR C hp D b w) (e:two b=some y):∃p xs,w=.ref p∧hp.IsTuple p xs.toArray∧IntsAre xs [y.1,y.2]:=
  bq (Option.bind_eq_some_iff.mp e) fun vs e1 e=>bP (HW hb e1) fun p xs ew _ hq hx=>⟨p,xs,ew,hq,xB hx e⟩
theorem uZ {op:CmpOp} (neg:Bool) (S:bp C R st s) (ha:VR C s.heap (dm R st) a v) (hb:VR C s.heap (dm R st) b w) (e:KU st a b=some k)
    (h1:∀{x:Int} {u p xs} {y:Int×Int},s.heap.IsTuple p xs.toArray->IntsAre xs [y.1,y.2]->P (.bool (neg.xor ([y.1,y.2].any (·==x)))) s->wpAny C.M A (compareOp op (.int x u) (.ref p)) P c9 s)
    (h2:∀{x:Int} {u p kvs},C.Nw p->s.heap.DictOf C.IK p kvs->P (.bool (neg.xor (valueAt kvs x).isSome)) {s with toks:=s.toks+1}->wpAny C.M A (compareOp op (.int x u) (.ref p)) P c9 s)
    (h:∀n,P (.bool (neg.xor k)) {s with toks:=n}):wpAny C.M A (compareOp op v w) P c9 s:=by
  cases a with
  | int x=>
    refine xE ha fun t ev=>ev▸?_
    have e:(two b).elim _ _=some k:=e
    cases q:two b with
    | some y=>
      rw [q] at e
      exact bS (IT hb q) fun p xs ew hp hx=>ew▸h1 hp hx (by
        have e:(y.1==x||y.2==x)=k:=Option.some.inj e
        rw [List.any_cons,List.any_cons,List.any_nil,Bool.or_false,e];exact h s.toks)
    | none=>
      rw [q] at e
      exact bq (Option.map_eq_some_iff.mp e) fun es q e=>bP (CY S hb q) fun p kvs ew z hp hx=>ew▸h2 z hp (by rw [rF (hx.get (k:=x)),e];exact h _)
  | _=>exact cp e
theorem v5 {op:xa} (S:bp C R st s) (ha:VR C s.heap (dm R st) a v) (hb:VR C s.heap (dm R st) b w) (e:rK op st a b=some k) (hu:A.units+5<cLine)
    (h:∀n,P (.bool k) {s with toks:=n}):wpAny C.M A (compareOp op.py v w) P c9 s:=by
  have h0:=h s.toks
  cases op with
  | eq=>exact (vG S ha hb e hu).1 _ _ _ _ h0
  | ne=>exact bq (Option.map_eq_some_iff.mp e) fun k' e' ek=>(vG S ha hb e' hu).2 _ _ _ _ (ek▸h0)
  | lt=>exact DU ha hb e h0 fun _ _ _ _ h=>lt_int h
  | le=>exact DU ha hb e h0 fun _ _ _ _ h=>le_int h
  | gt=>exact DU ha hb e h0 fun _ _ _ _ h=>gt_int h
  | ge=>exact DU ha hb e h0 fun _ _ _ _ h=>ge_int h
  | KS=>
    cases b with
    | none=>exact (show w=_ from hb)▸Jp ha e h0
    | glob=>exact (show w=_ from hb)▸Jq ha e h0
    | _=>exact cp e
  | Mr=>exact uZ false S ha hb e (fun hp hx h=>in_tuple_ints hp hx (by rw [Bool.false_xor] at h;exact h)) (fun z hp h=>wpAny_in_of (intKind_is _ _ _ _) z.2 hp.mapOf (by rw [Bool.false_xor] at h;exact h)) (by rw [Bool.false_xor];exact h)
  | Me=>exact bq (Option.map_eq_some_iff.mp e) fun k' e ek=>uZ true S ha hb e (fun hp hx h=>notin_tuple_ints hp hx (by rw [Bool.true_xor] at h;exact h)) (fun z hp h=>wpAny_notIn_of (intKind_is _ _ _ _) z.2 hp.mapOf (by rw [Bool.true_xor] at h;exact h)) (by rw [Bool.true_xor,ek];exact h)
end
theorem nt {b:Bool} (h:(!b)=true):b=false:=(Bool.not_eq_true' b).mp h
inductive z4 (op:xa) (a:AV) (Q:AV->St->Prop) (b:AV) (bg:St):Prop
  | mk:∀k,(rK op bg a b=some k)->(Q (.bool k) bg)->z4 op a Q b bg
abbrev Pf (C:Cx) (r:Nat) (op:xa) (e:PE) (ρ:Loc) (Q:AV->St->Prop):AV->St->Prop:=fun a ao=>E C r e ρ ao (z4 op a Q)
inductive zM (op:xa) (a:AV) (Q:Bool->St->Prop) (b:AV) (bg:St):Prop
  | mk:∀k,(rK op bg a b=some k)->(Q k bg)->zM op a Q b bg
abbrev OY (C:Cx) (r:Nat) (op:xa) (e:PE) (ρ:Loc) (Q:Bool->St->Prop):AV->St->Prop:=fun a ao=>E C r e ρ ao (zM op a Q)
theorem Hj {op:xa} {l rr:PE} (h:E C r l ρ st (Pf C r op rr ρ Q)):E C r (.cmp op l rr) ρ st Q:=.mk fun _ _ _ _ _ he hv hr S L=>
  wpAny_Compare1 (h.run (a1 he) hv hr S L fun _ _ _ _ ha S1 x1 L1 h1=>h1.run (a1 (a2 he)) hv hr S1 L1 fun _ _ _ _ hb S2 x2 _ ⟨k,hk,q⟩=>
    v5 S2 (ha.up x2.up) hb hk (by have:=hr.units;exact Xj this) fun _=>cS.trans (x1.trans x2) (AO (av:=.bool k) S2 rfl q)) (nt (a2 (a2 he)))
theorem Al {op:xa} {l rr:PE} {Q:Bool->St->Prop} (h:E C r l ρ st (OY C r op rr ρ Q)):T C r (.cmp op l rr) ρ st Q:=.mk fun _ _ _ _ _ he hv hr S L=>
  wpAny_isTrue_Compare1 (h.run (a1 he) hv hr S L fun _ _ _ _ ha S1 x1 L1 h1=>h1.run (a1 (a2 he)) hv hr S1 L1 fun _ _ _ bg hb S2 x2 _ ⟨_,hk,q⟩=>
    v5 S2 (ha.up x2.up) hb hk (by have:=hr.units;exact Xj this) fun _=>wpAny_truthy_bool (mW.trans (x1.trans x2) ⟨bg,S2.toks,.toks,q⟩)) (nt (a2 (a2 he)))
end Mine
end
section
namespace Mine
variable {C:Cx} {R:Addr->Prop} {r:Nat} {ρ:Loc} {st:St} {Q:AV->St->Prop}
section zip
variable {α β:Type}
theorem cC {n:Str} {v:α} {l:List (Str×α)}:List.lookup n ((n,v)::l)=some v:=by rw [List.lookup_cons,beq_self_eq_true]
theorem AP {n x:Str} {v:α} {l:List (Str×α)} (h:n≠x):List.lookup n ((x,v)::l)=l.lookup n:=by rw [List.lookup_cons,beq_eq_false_iff_ne.mpr h]
theorem Fx {ns:List Str}:∀{vs:List α},ns.length=vs.length->ns.Nodup->∀{m:List (Str×α)},(∀n∈ns,m.lookup n=(ns.zip vs).lookup n)->ns.filterMap (fun n=>(m.lookup n).map (n,·))=ns.zip vs:=by
  induction ns with
  | nil=>exact fun _ _ _ _=>rfl
  | cons x ns ih=>
    intro vs h hn m hm
    cases vs with
    | nil=>exact nomatch h
    | cons v vs=>
      have hn:=List.nodup_cons.mp hn
      rw [List.filterMap_cons,(hm x (.head _)).trans cC]
      exact congrArg _ (ih (Nat.succ.inj h) hn.2 fun n hl=>(hm n (.tail _ hl)).trans (AP fun e=>hn.1 (e▸hl)))
theorem Hs {ns:List Str}:∀{vs:List α},ns.length=vs.length->∀n∈ns,((ns.zip vs).lookup n).isNone=false:=by
  induction ns with
  | nil=>exact fun _ _ h=>nomatch h
  | cons x ns ih=>
    intro vs h n hn
    cases vs with
    | nil=>exact nomatch h
    | cons v vs=>
      by_cases e:n=x
      · exact congrArg Option.isNone (e▸cC:((x,v)::ns.zip vs).lookup n=some v)
      · exact (congrArg Option.isNone (AP e)).trans (ih (Nat.succ.inj h) n ((List.mem_cons.mp hn).resolve_left e))
end zip
theorem zf {fd:FuncData} {vs:List Value} (h1:fd.params.posonlyargs=[]) (h2:fd.params.vararg=none) (h3:fd.params.kwonlyargs=[]) (h4:fd.params.kwarg=none) (h5:fd.defaults=.none)
    (hl:fd.params.args.length=vs.length) (hn:(fd.params.args.map (·.arg)).Nodup):bindArgs fd ⟨vs,[]⟩=pure ((fd.params.args.map (·.arg)).zip vs):=by
  have qm:(fd.params.args.map (·.arg)).length=vs.length:=(List.length_map ..).trans hl
  obtain ⟨nm,q,⟨po,ar,va,ko,kd,kw,df⟩,b,sc,g,cl,dv,kv,doc,pm,an,cd,ct,bl⟩:=fd
  dsimp only at h1 h2 h3 h4 h5 hl hn qm ⊢
  subst h1 h2 h3 h4 h5
  clear hl
  generalize ql:ar.map (·.arg)=ns at hn qm ⊢
  have hm:(ns.filter fun n=>((ns.zip vs).lookup n).isNone)=[]:=List.filter_eq_nil_iff.mpr fun n h=>by rw [Hs qm n h];exact Bool.false_ne_true
  have hf:=Fx qm hn fun n _=>rfl
  have ht:List.take vs.length ns=ns:=List.take_of_length_le (Nat.le_of_eq qm)
  have hc:¬((decide (vs.length>(ar.map (·.arg)).length))&&true)=true:=by rw [ql,qm,decide_eq_false (Nat.lt_irrefl _)];exact Bool.false_ne_true
  refine (if_neg hc).trans ?_
  have hd:∀n,List.drop n ([]:List Value)=[]:=fun _=>List.drop_nil
  refine (hd _).symm▸?_
  have MG:¬(!(List.filter (fun n=>(((ar.map (·.arg)).zip vs).lookup n).isNone) (List.take ((ar.map (·.arg)).length-0) (ar.map (·.arg)))).isEmpty)=true:=by
    rw [ql,Nat.sub_zero,List.take_length,hm];exact Bool.false_ne_true
  refine (if_neg MG).trans ?_
  have hz:∀l:List Str,l.zip ([]:List Value)=[]:=fun _=>List.zip_nil_right
  refine (hz _).symm▸?_
  show (pure (List.filterMap (fun n=>(((ar.map (·.arg)).zip vs).lookup n).map (n,·)) (ar.map (·.arg)++[])):Sem _)=_
  rw [List.append_nil,ql,hf]
inductive Fl where | next | ret (v:AV)
noncomputable def OP (C:Cx) (hp:Heap) (D:Addr->Prop):Fl->Flow->Prop
  | .next,f=>f=.next
  | .ret av,f=>∃v,f=.ret v∧VR C hp D av v
structure fe (L:Addr) (st:St) (s:Shared) (ag:St) (s':Shared):Prop where
  keep:∀b o,b≠L->s.heap.get? b=some o->¬mr st b->s'.heap.get? b=some o
  dm:∀b o,b≠L->s.heap.get? b=some o->¬mr st b->¬mr ag b
  os:s'.os=s.os
theorem Ext.l {st ag:St} {s s':Shared} {L:Addr} (x:Ext st s ag s'):fe L st s ag s':=⟨fun b o _ e n=>x.keep b o e n,fun b o _ e n=>x.dm b o e n,x.os⟩
theorem fe.trans {st ag dG:St} {s s' tI:Shared} {L:Addr} (x:fe L st s ag s') (y:fe L ag s' dG tI):fe L st s dG tI:=
  ⟨fun b o hb e n=>y.keep b o hb (x.keep b o hb e n) (x.dm b o hb e n),fun b o hb e n=>y.dm b o hb (x.keep b o hb e n) (x.dm b o hb e n),y.os.trans x.os⟩
theorem fe.up {st ag:St} {s s':Shared} {L:Addr} (x:fe L st s ag s') {R:Addr->Prop} (hL:R L):Up s.heap (Mine.dm R st) s'.heap (Mine.dm R ag):=fun b o e n=>
  ⟨x.keep b o (fun q=>n (.inr (q▸hL))) e fun d=>n (.inl d),fun d=>d.elim (x.dm b o (fun q=>n (.inr (q▸hL))) e fun d=>n (.inl d)) fun d=>n (.inr d)⟩
noncomputable def mO (R:Addr->Prop) (L:Addr):Addr->Prop:=fun b=>R b∨b=L
theorem bp.LC {s:Shared} {h₁:Heap} {n:Nat} (S:bp C R st s) (k:∀b o,s.heap.get? b=some o->h₁.get? b=some o) {o:Obj} (z:h₁.get? s.heap.objs.size=some o) :
    bp C (mO R s.heap.objs.size) st {s with heap:=h₁,toks:=n}∧Up s.heap (dm R st) h₁ (dm (mO R s.heap.objs.size) st):=by
  have up:Up s.heap (dm R st) h₁ (dm (mO R s.heap.objs.size) st):=fun b o e nb=>⟨k b o e,fun d=>by
    rcases d with d | d | d
    · exact nb (.inl d)
    · exact nb (.inr d)
    · subst d;exact Nat.lt_irrefl _ (Heap.lt_size e)⟩
  refine ⟨⟨fun b o e=>k b o (S.base b o e),S.low,fun a o e=>(S.obj a o e).up up (k a),S.gens,fun b h=>?_,fun b h=>?_,fun b h=>?_⟩,up⟩
  · rcases h with h | h
    · exact S.apart b h
    · subst h;exact Bi S
  · rcases h with h | h
    · exact (S.under b h).imp fun o e=>k b o e
    · subst h;exact ⟨o,z⟩
  · rcases h with h | h
    · exact S.above b h
    · subst h;exact (G5 S).1
theorem JV {R':Addr->Prop} (h:∀b,R b->R' b) {b:Addr} (d:dm R st b):dm R' st b:=d.imp id (h b)
theorem D2 {hp:Heap} {R':Addr->Prop} (h:∀b,R b->R' b):Up hp (dm R' st) hp (dm R st):=fun _ _ e n=>⟨e,fun d=>n (JV h d)⟩
theorem bp.I6 {s:Shared} {R':Addr->Prop} (S:bp C R' st s) (h:∀b,R b->R' b):bp C R st s:=
  ⟨S.base,S.low,fun a o e=>(S.obj a o e).up (D2 h) fun _ e=>e,S.gens,fun b x=>S.apart b (h b x),fun b x=>S.under b (h b x),fun b x=>S.above b (h b x)⟩
noncomputable def jg (C:Cx) (R:Addr->Prop) (env:Env) (st:St) (s:Shared) (Q:Fl->Loc->St->Prop) (f:Flow) (s':Shared):Prop:=
  ∃fl ρ' ag,OP C s'.heap (dm R ag) fl f∧bp C R ag s'∧fe env.locals st s ag s'∧bA C s'.heap R ag env ρ'∧Q fl ρ' ag
structure X (C:Cx) (r:Nat) (ss:List PS) (ρ:Loc) (st:St) (Q:Fl->Loc->St->Prop):Prop where
  d:∀R A env t s,rg env.scope ss t=true->ck env->d9 A r->bp C R st s->bA C s.heap R st env ρ->wpAny C.M A (execs (pN ss t) env) (jg C R env st s Q) c9 s
structure X1 (C:Cx) (r:Nat) (ss:PS) (ρ:Loc) (st:St) (Q:Fl->Loc->St->Prop):Prop where
  d:∀R A env t s,oS env.scope ss t=true->ck env->d9 A r->bp C R st s->bA C s.heap R st env ρ->wpAny C.M A (exec (dS ss t) env) (jg C R env st s Q) c9 s
inductive mm (C:Cx) (R:Addr->Prop) (st:St) (s:Shared) (Q:AV->St->Prop) (s':Shared):Result->Prop
  | mk {v}:cS C R st s Q v s'->mm C R st s Q s' (.ok (.ret v))
noncomputable def Fn (C:Cx) (r:Nat) (f:Addr) (avs:List AV) (st:St) (Q:AV->St->Prop):Prop:=
  ∀R A vs s,d9 A r->bp C R st s->bY C s.heap (dm R st) avs vs->codeAny C.M A (.call (.ref f) ⟨vs,[]⟩) (fun res s'=>mm C R st s Q s' res) s
theorem Fn.mono {f:Addr} {avs:List AV} {Q':AV->St->Prop} (h:Fn C r f avs st Q) (hq:∀a t,Q a t->Q' a t):Fn C r f avs st Q':=
  fun R A vs s a b c=>codeAny_mono (h R A vs s a b c) fun _ _ p=>p.casesOn fun p=>.mk (FG p hq)
theorem Fn.run {f:Addr} {avs:List AV} {vs:List Value} {Q':AV->St->Prop} {A s} (h:Fn C r f avs st Q') (hr:d9 A r) (S:bp C R st s) (hv:bY C s.heap (dm R st) avs vs) {P:Value->Shared->Prop}
    (k:∀v s' av ag,VR C s'.heap (dm R ag) av v->bp C R ag s'->Ext st s ag s'->Q' av ag->P v s'):wpAny C.M A (call (.ref f) vs) P c9 s:=
  wpAny_call (codeAny_mono (h R A vs s hr S hv) fun _ _ p=>p.casesOn fun p=>bP p fun av ag a b c d=>k _ _ av ag a b c d)
section
variable {kindOf:Str->Option NameKind} {binds:List (Str×Value)} {y:Str} {v:Value}
theorem qz {a:Str×Value} {r:List (Str×Value)} {m:Str->Option Value}:bindL kindOf (a::r) m y=bindL kindOf r (if kindOf a.1=some .local then fun y=>if y=a.1 then some a.2 else m y else m) y:=rfl
theorem qA {a:Str×Value} {r:List (Str×Value)} {m:Str->Option Value}:bindC kindOf (a::r) m y=bindC kindOf r (if kindOf a.1=some .local then m else fun y=>if y=a.1 then some a.2 else m y) y:=rfl
theorem rP:∀{m:Str->Option Value},y∉binds.map (·.1)->bindL kindOf binds m y=m y:=by
  induction binds with
  | nil=>exact fun _=>rfl
  | cons a r ih=>
    intro m h
    rw [qz,ih fun z=>h (.tail _ z)]
    by_cases q:kindOf a.1=some .local
    · rw [if_pos q];exact if_neg fun z:y=a.1=>h (z▸.head _)
    · rw [if_neg q]
theorem rR:∀{m:Str->Option Value},y∉binds.map (·.1)->bindC kindOf binds m y=m y:=by
  induction binds with
  | nil=>exact fun _=>rfl
  | cons a r ih=>
    intro m h
    rw [qA,ih fun z=>h (.tail _ z)]
    by_cases q:kindOf a.1=some .local
    · rw [if_pos q]
    · rw [if_neg q];exact if_neg fun z:y=a.1=>h (z▸.head _)
theorem rQ:∀{m:Str->Option Value},(binds.map (·.1)).Nodup->(y,v)∈binds->kindOf y=some .local->bindL kindOf binds m y=some v:=by
  induction binds with
  | nil=>exact fun _ h=>nomatch h
  | cons a r ih=>
    intro m hn hm hk
    have hn:=List.nodup_cons.mp hn
    rw [qz]
    rcases List.mem_cons.mp hm with e | hm
    · subst e;rw [rP hn.1,if_pos hk,if_pos rfl]
    · exact ih hn.2 hm hk
theorem rS:∀{m:Str->Option Value},(binds.map (·.1)).Nodup->(y,v)∈binds->kindOf y≠some .local->bindC kindOf binds m y=some v:=by
  induction binds with
  | nil=>exact fun _ h=>nomatch h
  | cons a r ih=>
    intro m hn hm hk
    have hn:=List.nodup_cons.mp hn
    rw [qA]
    rcases List.mem_cons.mp hm with e | hm
    · subst e;rw [rR hn.1,if_neg hk,if_pos rfl]
    · exact ih hn.2 hm hk
end
theorem zip_get {hp:Heap} {D:Addr->Prop} {x:Nm} {av:AV} {ps:List Nm}:∀{avs:List AV} {vs:List Value},bY C hp D avs vs->ae (ps.zip avs) x=some av->∃v,(ah x,v)∈(ps.map ah).zip vs∧VR C hp D av v:=by
  induction ps with
  | nil=>exact fun _ e=>cp e
  | cons p ps ih=>
    intro avs vs h e
    cases avs with
    | nil=>exact cp e
    | cons a avs=>
      refine bS h fun v XA mE hv hr=>mE▸?_
      replace e:=(Am x p a (ps.zip avs)).symm.trans e
      by_cases q:p=x
      · exact ⟨v,q▸.head _,Option.some.inj ((if_pos q).symm.trans e)▸hv⟩
      · exact bq (ih hr ((if_neg q).symm.trans e)) fun u hu hx=>⟨u,.tail _ hu,hx⟩
abbrev QF (Q:AV->St->Prop):Fl->Loc->St->Prop:=fun fl _ ag=>match fl with | .ret v=>Q v ag | .next=>Q .none ag
theorem kinds_of {n:Addr} {sc:Scope} {ps:List Nm} {vs:List Value} (h:(ps.all fun p=>sc.names.lookup (ah p)==some .local||sc.names.lookup (ah p)==some .cell)=true) :
    ∀x∈(ps.map ah).zip vs,sc.names.lookup x.1=some .local∨(sc.names.lookup x.1=some .cell∧((cellsFrom n sc.names []).lookup x.1).isSome=true):=fun x hx=>
  bq (List.mem_map.mp (List.of_mem_zip hx).1) fun p hp e=>e▸(Bool.or_eq_true_iff.mp (List.all_eq_true.mp h p hp)).imp (fun q=>eq_of_beq q) fun q=>⟨eq_of_beq q,cellsFrom_some _ _ _ (.inl (eq_of_beq q))⟩
theorem bA.start {s s₁:Shared} (S:bp C R st s) {env:Env} {ps:List Nm} {avs:List AV} {vs:List Value} (hL:env.locals=s.heap.objs.size) (up:Up s.heap (dm R st) s₁.heap (dm (mO R env.locals) st)) (hv:bY C s.heap (dm R st) avs vs)
    (x:InCallC s env.locals (bindL env.kindOf ((ps.map ah).zip vs) fun _=>none) env.cells (bindC env.kindOf ((ps.map ah).zip vs) fun _=>none) s₁) (hn:(((ps.map ah).zip vs).map (·.1)).Nodup)
    (hk:∀x∈(ps.map ah).zip vs,env.kindOf x.1=some .local∨(env.kindOf x.1=some .cell∧(env.cells.lookup x.1).isSome=true)):bA C s₁.heap (mO R env.locals) st env (ps.zip avs):=
  ⟨.inr rfl,hL▸fun d=>d (Bi S),_,x.toInCall.ns,fun y av e=>bq (zip_get hv e) fun v hm Yo=>⟨v,Yo.up up,(hk _ hm).imp (fun q=>⟨q,rQ hn hm q⟩) fun q=>xA q fun q1 q2=>⟨q1,xE (Option.isSome_iff_exists.mp q2) fun c hc=>⟨c,hc,fun d=>by
      have Qa:s.heap.objs.size<c:=hL▸x.above _ c (mem_of_lookup hc)
      rcases d with d | d | d
      · exact AW S (.inl d) (Nat.le_of_lt Qa)
      · exact AW S (.inr d) (Nat.le_of_lt Qa)
      · exact absurd (d.trans hL) (Nat.ne_of_gt Qa),(rS (m:=fun _=>none) hn hm (fun z=>nomatch q1.symm.trans z))▸x.cell _ c hc⟩⟩⟩⟩
theorem Ag {f:Addr} {ps:List Nm} {b:List PS} {avs:List AV} (hf:yU C.K f ps b) (hl:avs.length=ps.length)
    (h:X C r b (ps.zip avs) st (QF Q)):Fn C (r+1) f avs st Q:=by
  intro R A vs s hr S hv
  obtain ⟨o,fd,F⟩:=hf
  have ok:∀i {c},(JM C.K ps b fd)[i]?=some c->c=true:=fun i _ e=>al F.XU i e
  have h2:=eq_of_beq (ok 1 rfl)
  have hk:=@kinds_of (s.heap.objs.size+1) fd.scope ps vs (ok 14 rfl)
  have h3:fd.scope.kind=.function:=eq_of_beq (ok 2 rfl)
  have hn:(ps.map ah).Nodup:=of_decide_eq_true (ok 15 rfl)
  have V6:(ps.map ah).length=vs.length:=(List.length_map ..).trans (hl.symm.trans hv.length.symm)
  refine codeAny_call_function (by have:=hr.depth;unfold recursionLimit at *;exact ZJ this) (S.X _ _ F.at_) F.data (nt (ok 4 rfl)) (nt (ok 3 rfl)) F.body (codeRec_of S.X (ok 5 rfl)) ?_
  rw [zf (List.isEmpty_iff.mp (ok 9 rfl)) (Option.isNone_iff_eq_none.mp (ok 10 rfl)) (List.isEmpty_iff.mp (ok 11 rfl)) (Option.isNone_iff_eq_none.mp (ok 12 rfl)) (eq_of_beq (ok 13 rfl)) ((List.length_map ..).symm.trans (h2▸V6)) (h2▸hn),List.isEmpty_iff.mp (ok 8 rfl),h2]
  refine wpAny_pure (wpAny_newFunctionEnv_cells h3 hk fun env he s' x=>?_)
  refine ⟨S.nolimit.keeps x.toInCall.keep,codeAny_func ?_⟩
  have hL:env.locals=s.heap.objs.size:=he▸rfl
  obtain ⟨h₁,tk,rfl⟩:=x.toInCall.same
  have k:=x.toInCall.keep
  refine fR x.toInCall.ns fun ol _ _ YA _=>xA (S.LC (n:=tk) k (hL▸YA)) fun S' up=>?_
  have L:=bA.start S hL (hL▸up) hv x ((List.map_fst_zip (Nat.le_of_eq V6)).symm▸hn) (he▸hk)
  refine wpAny_mono (h.d _ (A.deeper _) env _ _ (he▸ok 0 rfl) (he▸⟨h3,eq_of_beq (ok 6 rfl),eq_of_beq (ok 7 rfl),fun y hy=>Option.isSome_iff_exists.mp (cellsFrom_some _ _ _ (.inl hy))⟩)
    ⟨hr.handled,by have:=hr.depth;show A.depth+1+4*r+8≤_;exact ZH this,by have:=hr.units;show A.units+3+20*r+100≤_;exact ZG this⟩ S' (hL▸L)) (fun fl tI hx=>?_) fun _ _ x=>x.elim
  refine eX hx fun Ze ρ' ag Wg S2 x2 _ q=>?_
  have fin:∀{av v},VR C tI.heap (dm (mO R s.heap.objs.size) ag) av v->Q av ag->mm C R st s Q tI (.ok (.ret v)):=fun hv q=>.mk ⟨_,ag,hv.up (D2 fun _=>.inl),S2.I6 fun _=>.inl,
    ⟨fun b o e n=>x2.keep b o (hL▸Nat.ne_of_lt (Heap.lt_size e)) (k b o e) n,fun b o e n=>x2.dm b o (hL▸Nat.ne_of_lt (Heap.lt_size e)) (k b o e) n,x2.os⟩,q⟩
  cases Ze with
  | next=>cases Wg;exact fin (av:=.none) rfl q
  | ret av=>exact bq Wg fun v e hv=>e▸fin hv q
end Mine
end
section
namespace Mine
variable {C:Cx} {R:Addr->Prop} {r:Nat} {ρ:Loc} {st:St} {Q:AV->St->Prop}
theorem A9 {sc:Scope} {env:Env} {pos:Pos} {es:List PE}:∀{t:Tr},oL sc es t=true->(backTo pos (starEach (dL es t) env)).any (·.1)=false:=by
  induction es with
  | nil=>exact fun _=>rfl
  | cons e es ih=>exact fun h=>(congrArg (fun l=>(backTo pos l).any (·.1)) (AI (a1 (a2 h)))).trans (ih (a2 (a2 h)))
theorem Cm {A:Around} {env:Env} {s:Shared} {f:Value} {es:List PE} {t:Tr} {pos:Pos} {Q':List AV->St->Prop} (h:Es C r es ρ st Q') (he:oL env.scope es t=true) (hv:ck env) (hr:d9 A r) (S:bp C R st s)
    (L:bA C s.heap R st env ρ) {P:Args->Shared->Prop}
    (k:∀v s' av ag,bY C s'.heap (dm R ag) av v->bp C R ag s'->Ext st s ag s'->bA C s'.heap R ag env ρ->Q' av ag->P ⟨v,[]⟩ s'):wpAny C.M A (evalArgs f true (backTo pos (starEach (dL es t) env)) []) P c9 s:=by
  have hs:=h.run (pos:=pos) he hv hr S L k
  cases es with
  | nil=>exact wpAny_bind (wpAny_mono hs (fun vs s' h'=>wpAny_bind (wpAny_pure (wpAny_holding (wpAny_bind (wpAny_pure (wpAny_bind (wpAny_pure (wpAny_pure h')))))))) fun _ _ x=>x)
  | cons e es=>
    have e1:=AI (rest:=dL es (t.a 1)) (env:=env) (a1 (a2 he))
    rw [show starEach (dL (e::es) t) env=_ from e1] at hs ⊢
    exact wpAny_bind (wpAny_mono hs (fun vs s' h'=>wpAny_holding (wpAny_bind (wpAny_pure (wpAny_bind (wpAny_pure (wpAny_pure h')))))) fun _ _ x=>x)
abbrev L7 (C:Cx) (r:Nat) (f:Nm) (Q:AV->St->Prop):List AV->St->Prop:=fun avs ao=>Fn C r (C.fa f) avs ao Q
theorem Aj {f:Nm} {as:List PE} {p} (hf:Ir f=some p) (h:Es C r as ρ st (L7 C r f Q)):E C r (.call f as) ρ st Q:=.mk fun R A env t s he hv hr S L=>
  j4 (C.dM f p hf) fun g1 _ g3=>wpAny_Call_NameR (B8 S hv (a1 he) (A4 f) g1
    (callWith_of (P:=C.K.In) (by rw [A9 (a2 he)];rfl) (keeps_K g3) (Cm h (a2 he) hv hr S L fun _ _ _ _ i6 S1 x1 _ h1=>⟨S1.X,
      h1.run hr S1 i6 fun _ _ av bg Mv S2 x2 q=>⟨av,bg,Mv,S2,x1.trans x2,q⟩⟩)))
theorem yh {s:Shared} {D:Addr->Prop} {v:Value} {c:Nm} {fs:List (Nm×AV)} (I:Inst C s D v c fs) {n:Nm} (h:ae fs n=none) {od:Obj} (hl:∀x,lookIn x od=some (I.m x)):shadowIn (some od) (ah n)=some false:=
  congrArg (Option.map Option.isSome) ((hl _).trans (congrArg some (I.none_ n h)))
theorem B6 {o:Expr} {name:Str} {apos pos:Pos} {env:Env} {es:List PE} {t:Tr} {A s} {P:Value->Shared->Prop} (he:oL env.scope es t=true) (hp:(apos.endLine==pos.line)=true) (hn:Nat.ble (dL es t).length 28=true)
    {ov:Value} (h:∀pl,wpAny C.M A (getMethod ov name pl) (fun fx s₂=>wpAny C.M A (callWith pos fx.1 fx.2 (backTo pos (starEach (dL es t) env)) []) P c9 s₂) c9 s) :
    wpAny C.M A (methodCall o name apos pos env ov ((dL es t).length+([]:List Keyword).length) (backTo pos (starEach (dL es t) env)) (backToKw pos (keywordEach [] env))) P c9 s:=by
  have yK:=A9 (env:=env) (pos:=pos) he
  generalize backTo pos (starEach (dL es t) env)=l at yK h ⊢
  generalize (dL es t).length=n at hn ⊢
  have MP:methodCallForm (n+([]:List Keyword).length) l (backToKw pos (keywordEach [] env))=true:=by
    refine Bool.and_eq_true_iff.mpr ⟨Bool.and_eq_true_iff.mpr ⟨List.all_eq_true.mpr fun x hx=>?_,rfl⟩,?_⟩
    · have:=List.any_eq_false.mp yK x hx
      cases q:x.1 with
      | true=>exact absurd q this
      | false=>rfl
    · exact decide_eq_true (show n+0+0<30 from Nat.lt_succ_of_le (Nat.le_succ_of_le (aw hn)))
  have PV:methodCallPos true o env apos pos=pure pos:=by unfold methodCallPos;rw [hp];rfl
  unfold methodCall
  rw [MP]
  exact wpAny_bind (wpAny_holding (wpAny_mono (h _) (fun fx s₂ h₂=>wpAny_bind (wpAny_of_eq PV h₂)) fun _ _ x=>x))
abbrev tZ (C:Cx) (r:Nat) (c n:Nm) (a:AV) (Q:AV->St->Prop):List AV->St->Prop:=fun avs bg=>Fn C r (C.ma c n) (a::avs) bg Q
inductive zY (C:Cx) (r:Nat) (n:Nm) (as:List PE) (ρ:Loc) (Q:AV->St->Prop) (a:AV) (ao:St):Prop
  | mk:∀c fs,(objOf ao a=some (c,fs))->(ae fs n=none)->((om c n).isSome=true)->(Es C r as ρ ao (tZ C r c n a Q))->zY C r n as ρ Q a ao
theorem AU {e:PE} {n:Nm} {as:List PE} (h:E C r e ρ st (zY C r n as ρ Q)):E C r (.aB e n as) ρ st Q:=by
  constructor
  intro R A env t s he hv hr S L
  have c:=a1 he
  show wpAny C.M A (eval (.Call (.Attribute (dE e ((t.a 0).a 0)) (ah n) (t.a 0).d.p) (dL as (t.a 1)) [] t.d.p) env) _ _ _
  rw [arm_eval_Call,Be e (a2 (a2 c))]
  refine wpAny_bind (h.run (a1 (a2 he)) hv hr S L fun v s1 a ao ha S1 x1 L1 ⟨cl,fs,ho,hf,hm,h1⟩=>wpAny_bind (wpAny_standAt ?_))
  obtain ⟨I⟩:=ER S1 ha ho
  refine xE (Option.isSome_iff_exists.mp hm) fun p hm=>bq I.at' fun od ia hl=>Dw (C.aB cl n p hm) fun m1 m2 m3 _=>?_
  have hc:=(C.oC cl (uG hm)).2
  rw [I.eq] at ha ⊢
  refine B6 (a2 (a2 he)) (a1 c) (a1 (a2 c)) fun pl=>method_fn S1.X ia (eq_of_beq (al hc 1 rfl)) (eq_of_beq (al hc 2 rfl)) m1 (beq_iff_eq.mp m2) (yh I hf hl) ?_
  exact callWith_of (P:=C.K.In) (by rw [A9 (a2 (a2 he))];rfl) (keeps_K m3) (Cm h1 (a2 (a2 he)) hv hr S1 L1 fun vs s2 avs bg i6 S2 x2 L2 h2=>⟨S2.X,
    h2.run hr S2 (vs:=.ref I.a::vs) ⟨_,vs,rfl,ha.up x2.up,i6⟩ fun v s3 av eJ PM S3 x3 q=>⟨av,eJ,PM,S3,x1.trans (x2.trans x3),q⟩⟩)
theorem bp.inst {s:Shared} (S:bp C R st s) (c:Nm) (n:Nat) {L:Addr} (hL:s.heap.objs.size=L):st L=none∧st (L+1)=none∧
    bp C R ((st.upd L (.aD [])).upd (L+1) (.inst c L)) {s with heap:=(s.heap.push emptyDict).push (instObj (C.cls c) L),toks:=n}∧
    Ext st s ((st.upd L (.aD [])).upd (L+1) (.inst c L)) {s with heap:=(s.heap.push emptyDict).push (instObj (C.cls c) L),toks:=n}:=by
  subst hL
  have z:s.heap.objs.size≤(s.heap.push emptyDict).objs.size:=by rw [Heap.size_push];exact Nat.le_succ _
  have z1:(s.heap.push emptyDict).objs.size=s.heap.objs.size+1:=Heap.size_push ..
  have z2:(s.heap.push emptyDict).objs.size≤((s.heap.push emptyDict).push (instObj (C.cls c) s.heap.objs.size)).objs.size:=by rw [Heap.size_push _ (instObj _ _)];exact Nat.le_succ _
  have f2:st (s.heap.objs.size+1)=none:=by
    cases e:st (s.heap.objs.size+1) with
    | none=>rfl
    | some o=>exact (AW S (R:=R) (Ek e) (Nat.le_succ _)).elim
  have Sa:bp C R (st.upd s.heap.objs.size (.aD [])) {s with heap:=s.heap.push emptyDict,toks:=n}:=
    S.new (n:=n) (fun b o e=>Heap.get?_push_of_some _ e) z (Nat.le_refl _) ⟨fun _=>none,Heap.Ns1.of_empty (Heap.Ns.new s.heap _),trivial,fun _ _=>rfl,Within.nil⟩
  exact ⟨Bi S,f2,Sa.new (n:=n) (fun b o e=>Heap.get?_push_of_some _ e) z2 (Nat.le_of_eq z1) (z1▸Heap.get?_push_size (s.heap.push emptyDict) (o:=instObj (C.cls c) s.heap.objs.size) rfl),
    Ext.trans (s':={s with heap:=s.heap.push emptyDict,toks:=n}) (Ext.new (n:=n) (fun b o e=>Heap.get?_push_of_some _ e) z (Nat.le_refl _)) (Ext.new (n:=n) (fun b o e=>Heap.get?_push_of_some _ e) z2 (Nat.le_of_eq z1))⟩
theorem d9.under {A:Around} {v:Addr} {vs:List Value} (hr:d9 A (r+1)):d9 (A.under (.builtin "type.__call__" ⟨.ref v::vs,[]⟩)) r:=
  ⟨hr.handled,ZF hr.depth (by exact aw rfl:(Code.builtin "type.__call__" ⟨.ref v::vs,[]⟩).weight≤2),ZE hr.units (by exact aw rfl:(Code.builtin "type.__call__" ⟨.ref v::vs,[]⟩).cUnits≤10)⟩
theorem F2 {c:Nm} {as:List PE} {p} (hc:c∈dX) (hm:om c .aF=some p) (h:Es C (r+1) as ρ st (fun avs ao=>∀a d,ao a=none->ao d=none->a≠d →
    Fn C r (C.ma c .aF) (.ref a::avs) ((ao.upd d (.aD [])).upd a (.inst c d)) (fun v bg=>v=.none∧Q (.ref a) bg))):E C (r+1) (.call c as) ρ st Q:=by
  constructor
  intro R A env t s he hv hr S L
  have kc:=(C.oC c hc).2
  refine j4 (C.aB c _ p hm) fun m1 m2 _=>wpAny_Call_NameR (B8 S hv (a1 he) (A4 c) (C.oC c hc).1 ?_)
  refine callWith_of (P:=C.K.In) (by rw [A9 (a2 he)];rfl) (keeps_K (al kc 6 rfl)) (Cm h (a2 he) hv hr S L fun vs s1 avs ao i6 S1 x1 L1 h1=>⟨S1.X,?_⟩)
  refine wpAny_call (make_core (makes_of S1.X (al kc 0 rfl)) (looks_findIn S1.X m1) (fun self=>bind_fn S1.X self (beq_iff_eq.mp m2)) (.inl rfl) ?_)
  refine Dw (S1.inst c s1.toks rfl) fun f1 f2 Sb xb=>?_
  exact codeAny_mono (h1 _ _ f2 f1 (Nat.succ_ne_self _) R (A.under _) (.ref (s1.heap.objs.size+1)::vs) _ hr.under Sb ⟨_,vs,rfl,rfl,i6.up xb.up⟩) fun _ _ hp=>hp.casesOn fun hp=>
    cm hp fun _ bg a1 a2 a3 e q=>⟨by subst e;exact a1,⟨.ref (s1.heap.objs.size+1),bg,rfl,a2,x1.trans (xb.trans a3),q⟩⟩
end Mine
end
section
namespace Mine
variable {C:Cx} {R:Addr->Prop} {r:Nat} {ρ:Loc} {st:St} {Q:AV->St->Prop}
section
variable {hp:Heap} {D:Addr->Prop} {a b c:AV} {xs:List Value} {P:List Value->Prop}
@[elab_as_elim] theorem bY.c1 (h:bY C hp D [a] xs) (k:∀v,VR C hp D a v->P [v]):P xs:=bS h fun v _ e hv h=>e▸(show _=[] from h)▸k v hv
@[elab_as_elim] theorem bY.c2 (h:bY C hp D [a,b] xs) (k:∀v w,VR C hp D a v->VR C hp D b w->P [v,w]):P xs:=bS h fun v _ e hv h=>e▸bY.c1 (P:=fun l=>P (v::l)) h fun w hw=>k v w hv hw
@[elab_as_elim] theorem bY.c3 (h:bY C hp D [a,b,c] xs) (k:∀v w u,VR C hp D a v->VR C hp D b w->VR C hp D c u->P [v,w,u]):P xs:=bS h fun v _ e hv h=>e▸bY.c2 (P:=fun l=>P (v::l)) h fun w u hw hu=>k v w u hv hw hu
@[elab_as_elim] theorem vI {i:Int} {P:Value->Prop} {v:Value} (h:VR C hp D (.int i) v) (k:∀t,P (.int i t)):P v:=xE h fun t e=>e▸k t
end
noncomputable def Cl (C:Cx) (f:Value) (avs:List AV) (st:St) (Q:AV->St->Prop):Prop:=
  ∀R A vs s,A.handled=none->A.units+100≤cLine->bp C R st s->bY C s.heap (dm R st) avs vs->wpAny C.M A (call f vs) (cS C R st s Q) c9 s
theorem Cl.run {f:Value} {avs:List AV} {vs:List Value} {Q':AV->St->Prop} {A s} (h:Cl C f avs st Q') (hr:d9 A r) (S:bp C R st s) (hv:bY C s.heap (dm R st) avs vs) {P:Value->Shared->Prop}
    (k:∀v s' av ag,VR C s'.heap (dm R ag) av v->bp C R ag s'->Ext st s ag s'->Q' av ag->P v s'):wpAny C.M A (call f vs) P c9 s:=
  wpAny_mono (h R A vs s hr.handled (by have:=hr.units;exact ZD this) S hv) (fun v s' h=>bP h fun av ag a b c d=>k v s' av ag a b c d) fun _ _ x=>x
noncomputable def bL:List (Nm×Value):=[(.bZ,.builtin "len"),(.qg,.builtin "min"),(.uz,.builtin "abs"),(.au,.builtin "isinstance"),(.jl,.type "list"),(.lM,.type "dict"),(.jI,.type "int"),(.eU,.type "range"),(.n9,.type "zip"),(.er,.type "tuple"),(.eE,.type "bool")]
noncomputable def wq (x:Nm):=lk x bL
theorem Iz:∀y∈bL,y.1∈zk∧bootBuiltins (ah y.1)=some y.2:=by decide +kernel
theorem EA {f:Nm} {v:Value} (h:wq f=some v):f∈zk∧bootBuiltins (ah f)=some v∧ah f≠"__name__":=
  ⟨(Iz _ (CQ h)).1,(Iz _ (CQ h)).2,ES (P:=fun f=>ah f≠"__name__") (by decide +kernel) f⟩
noncomputable def Yh:Value->Bool
  | .builtin _=>true
  | .type _=>true
  | _=>false
theorem FZ {f:Nm} {v:Value} (h:wq f=some v):(∃id,v=.builtin id)∨(∃T,v=.type T):=by
  have:=(by decide +kernel:∀y∈bL,Yh y.2=true) _ (CQ h)
  cases v with
  | builtin=>exact .inl ⟨_,rfl⟩
  | type=>exact .inr ⟨_,rfl⟩
  | _=>exact ff this
abbrev pB (C:Cx) (v:Value) (Q:AV->St->Prop):List AV->St->Prop:=fun avs ao=>Cl C v avs ao Q
theorem BG {f:Nm} {as:List PE} {v} (hf:wq f=some v) (h:Es C r as ρ st (pB C v Q)):E C r (.call f as) ρ st Q:=by
  constructor
  intro R A env t s he hv hr S L
  refine j4 (EA hf) fun b1 b2 b3=>wpAny_Call_NameR (C9 S hv (a1 he) (A4 f) (C.wd f b1) b3 b2 ?_)
  have main:∀pos',wpAny C.M A (evalArgs v true (backTo pos' (starEach (dL as (t.a 1)) env)) []) (fun a s₁=>wpAny C.M A (call v ([]++a.pos) a.kw) (cS C R st s Q) c9 s₁) c9 s:=fun pos'=>
    Cm h (a2 he) hv hr S L fun vs s1 avs ao i6 S1 x1 L1 h1=>h1.run hr S1 i6 fun v s2 av bg Mv S2 x2 q=>⟨av,bg,Mv,S2,x1.trans x2,q⟩
  rcases FZ hf with ⟨id,rfl⟩ | ⟨T,rfl⟩
  · exact Calls.callWith_builtin (A9 (a2 he)) (main _)
  · exact PyProof.Rows.callWith_type (A9 (a2 he)) (main _)
theorem HQ {f:Nm} {v:Value} {A env s p P} (hf:wq f=some v) (S:bp C R st s) (hv:ck env) (hk:kindB env.scope (ah f) .globalImplicit=true) (h:P v s) :
    wpAny C.M A (eval (.Name (ah f) p) env) P c9 s:=j4 (EA hf) fun b1 b2 b3=>C9 S hv hk (A4 f) (C.wd f b1) b3 b2 h
theorem CL:sizeLine=16777216:=rfl
theorem Ky {a:AV} {vs:List AV} (h:eL st a=some vs) (q:Q (.int vs.length) st) (hz:vs.length≤1000000):Cl C (.builtin "len") [a] st Q:=fun R A xs s hh hu S hx=>hx.c1 fun v hv=>
  bS (BM S hv h) fun p ys e hp hy=>e▸Calls.call_len_list hp.isList (by rw [List.size_toArray,hy.1.length];exact Int.lt_of_le_of_lt (Int.ofNat_le.mpr hz) (by decide)) (AO (s:=s) (av:=.int vs.length) S ⟨s.toks+1,congrArg (fun n:Nat=>Value.int n (s.toks+1)) hy.1.length⟩ q)
theorem KA {i:Int} (q:Q (.int (if i<0 then -i else i)) st):Cl C (.builtin "abs") [.int i] st Q:=fun R A xs s hh hu S hx=>hx.c1 fun v hv=>vI hv fun t=>
  call_abs_int fun u tk=>AO (s:=s) (av:=.int _) S ⟨_,rfl⟩ q
theorem IU {a b:Int} {t u:Tok} {v:Value} (hP:(intItems #[(a,t),(b,u)])[argBest (fun i j=>decide (numAt #[(a,t),(b,u)] i<numAt #[(a,t),(b,u)] j)) ((intItems #[(a,t),(b,u)]).size-1)]?=some v):v=if b<a then Value.int b u else Value.int a t:=by
  have e:(intItems #[(a,t),(b,u)]).size-1=1:=by simp [intItems]
  rw [e] at hP
  by_cases Ox:b<a
  · rw [if_pos Ox];rw [show argBest _ 1=1 from by simp [argBest,numAt,Ox]] at hP;simpa [intItems] using hP.symm
  · rw [if_neg Ox];rw [show argBest _ 1=0 from by simp [argBest,numAt,Ox]] at hP;simpa [intItems] using hP.symm
theorem min_two {prog:Program} {w:World} {A:Around} {E:Value->Shared->Prop} {s:Shared} {a b:Int} {t u:Tok} {Q:Value->Shared->Prop} (hh:A.handled=none)
    (h:∀h' tk,(∀c o,s.heap.get? c=some o->h'.get? c=some o)->s.heap.objs.size≤h'.objs.size->Q (if b<a then .int b u else .int a t) {s with heap:=h',toks:=tk}) :
    wpAny (model prog w) A (call (.builtin "min") [.int a t,.int b u]) Q E s:=by
  have hT:(s.heap.push {cls:=.type "tuple",data:=.seq #[.int a t,.int b u]}).IsTuple s.heap.objs.size (intItems #[(a,t),(b,u)]):=⟨_,Heap.get?_push_size _ rfl,rfl,0,by simp [intItems]⟩
  refine call_min_two (wpAny_pyIter_tuple hT ?_)
  have nk:(s.heap.push {cls:=.type "tuple",data:=.seq #[.int a t,.int b u]}).objs.size=s.heap.objs.size+1:=Heap.size_push ..
  refine ⟨_,[_,s.heap.objs.size],[_],_,_,_,_,rfl,Walks.tuple (A:=A.in1) hh _ s.heap.objs.size (by rw [nk];exact Nat.ne_of_lt (Nat.lt_succ_self _)) (intItems #[(a,t),(b,u)]),
    ⟨⟨_,Heap.get?_push_size _ rfl,rfl,rfl⟩,hT.push _⟩,fun c hc=>?_,by simp [intItems],CmpOf.ints_lt (numAt #[(a,t),(b,u)]) (fun _ _=>intItems_at),fun v h' tk hP hk=>?_⟩
  · show c<((s.heap.push _).push _).objs.size
    rw [Heap.size_push,nk]
    rcases List.mem_cons.mp hc with rfl | hc
    · rw [nk];exact Nat.lt_succ_self _
    · rcases List.mem_cons.mp hc with rfl | hc
      · exact Nat.lt_succ_of_lt (Nat.lt_succ_self _)
      · cases hc
  · have hold:∀c o,s.heap.get? c=some o->h'.get? c=some o:=fun c o e=>by
      refine hk c o (fun hm=>?_) (Heap.get?_push_of_some _ (Heap.get?_push_of_some _ e))
      rcases List.mem_cons.mp hm with e1 | hm
      · have:=Heap.lt_size e;rw [e1,nk] at this;exact Nat.lt_irrefl _ (Nat.lt_of_succ_lt this)
      · cases hm
    have z:s.heap.objs.size≤h'.objs.size:=by
      have:=hk s.heap.objs.size _ (fun hm=>?_) (Heap.get?_push_of_some _ (Heap.get?_push_size s.heap (o:={cls:=.type "tuple",data:=.seq #[.int a t,.int b u]}) rfl))
      · exact Nat.le_of_lt (Heap.lt_size this)
      · rcases List.mem_cons.mp hm with e1 | hm
        · rw [nk] at e1;exact absurd e1 (Nat.ne_of_lt (Nat.lt_succ_self _))
        · cases hm
    have:=h h' tk hold z
    have hv:=IU hP
    rw [hv];exact this
theorem Kx {i j:Int} (q:Q (.int (if j<i then j else i)) st):Cl C (.builtin "min") [.int i,.int j] st Q:=fun R A xs s hh hu S hx=>hx.c2 fun v w hv hw=>vI hv fun t=>vI hw fun u=>
  min_two hh fun h' tk k z=>⟨.int (if j<i then j else i),st,by by_cases e:j<i<;>simp only [e,if_true,if_false]<;>exact ⟨_,rfl⟩,S.grow k z,.grow k z,q⟩
theorem Ep {b:Bool} (q:Q (.int (if b then 1 else 0)) st):Cl C (.type "int") [.bool b] st Q:=fun R A xs s hh hu S hx=>hx.c1 fun v hv=>
  (show v=_ from hv)▸call_int_bool (AO (s:=s) (av:=.int _) S ⟨_,rfl⟩ q)
theorem Fo {i:Int} (q:Q (.int i) st):Cl C (.type "int") [.int i] st Q:=fun R A xs s hh hu S hx=>hx.c1 fun v hv=>vI hv fun t=>
  call_int_int (AL (s:=s) (av:=.int _) S ⟨_,rfl⟩ q)
theorem bY.last {hp:Heap} {D:Addr->Prop} {v:AV} {vs:List AV}:∀{ys:List Value},bY C hp D (vs++[v]) ys->∃zs z,ys=zs++[z]∧bY C hp D vs zs∧VR C hp D v z:=by
  induction vs with
  | nil=>exact fun h=>h.c1 fun x hx=>⟨[],x,rfl,rfl,hx⟩
  | cons u us ih=>exact fun h=>bS h fun x r e h1 h2=>bS (ih h2) fun zs z e2 h3 h4=>⟨x::zs,z,e.trans (congrArg _ e2),⟨x,zs,rfl,h1,h3⟩,h4⟩
theorem CH {hp ft:Heap} {a:Addr} {o:bQ} (h:st a=some o) (sb:Heap.SameBut a hp ft):Up hp (dm R st) ft (dm R st):=fun b _ e nb=>⟨(sb.2 b (fun q=>nb (q▸Ek h))).trans e,nb⟩
theorem Kw {a:Addr} {vs:List AV} {v:AV} (h:st a=some (.list (vs++[v]))) (q:Q v (st.upd a (.list vs))) (hz:vs.length≤16777000):Cl C (.builtin "list.pop") [.ref a] st Q:=fun R A xs s hh hu S hx=>hx.c1 fun w hw=>(show w=_ from hw)▸by
  refine dR (S.obj _ _ h) fun ys ha hy _=>xE ha fun n ha=>bS hy.last fun zs z e xf Jt=>?_
  clear hw hx hu hh hy
  subst e
  have hk:(zs++[z]).toArray.size-1=zs.length:=by rw [List.size_toArray,List.length_append];rfl
  have KY:=xf.length
  have Yk:(zs++[z]).toArray[(zs++[z]).toArray.size-1]?=some z:=by rw [hk];simp
  have sb:Heap.SameBut a s.heap (s.heap.update a (Obj.mapSeq fun xs=>xs.eraseIdxIfInBounds ((zs++[z]).toArray.size-1))):=Heap.SameBut.update ..
  have up:=CH (R:=R) h sb
  have pl:=PySem.IsL.update ha (fun xs=>xs.eraseIdxIfInBounds ((zs++[z]).toArray.size-1))
  have el:((zs++[z]).toArray.size:Nat)≤sizeLine:=by rw [List.size_toArray,List.length_append,CL];exact Nat.le_trans (Nat.add_le_add_right (KY▸hz) 1) (aw rfl)
  refine call_meets PySem.F.slot_list_pop ⟨_,ha,rfl⟩ PySem.F.entry_list_pop (PySem.F.args_list_pop_1 _) (PySem.MeetsSeq.list_pop_last a _ n z Yk el) ⟨ha,?_⟩
  rw [hk,kl_erase,List.append_nil,←hk] at pl
  exact ⟨v,st.upd a (.list vs),(vM h:dm R _=_)▸Jt.up up,S.set (n:=s.toks) h sb ⟨zs,⟨_,pl⟩,xf.up up,KY▸Zl hz rfl⟩,Ext.set (n:=s.toks) h sb,q⟩
theorem F4 {a:Addr} {vs:List AV} {v:AV} (h:st a=some (.list vs)) (q:Q .none (st.upd a (.list (vs++[v])))) (hz:vs.length≤16777000):Cl C (.builtin "list.append") [.ref a,v] st Q:=fun R A xs s hh hu S hx=>hx.c2 fun w x hw hv=>(show w=_ from hw)▸
  dR (S.obj _ _ h) fun ys ha hy _=>wpAny_list_append_plain ha (fun h' hp sb=>⟨.none,st.upd a (.list (vs++[v])),rfl,S.set (n:=s.toks) h sb ⟨ys++[x],by rw [←List.push_toArray];exact hp,(hy.append (bY.one hv)).up (CH h sb),
      by rw [List.length_append,hy.length];exact Nat.le_trans (Nat.add_le_add_right hz 1) (aw rfl)⟩,Ext.set (n:=s.toks) h sb,q⟩) (by rw [List.size_toArray,CL,hy.length];exact Nat.le_trans hz (aw rfl))
theorem get_or {hp:Heap} {D:Addr->Prop} {o:Option AV} {u:Option Value} {d:AV} {w:Value} (h:vz C hp D o u) (hw:VR C hp D d w):VR C hp D (o.getD d) (u.getD w):=by
  cases o with
  | none=>exact (show u=none from h)▸hw
  | some a=>exact bq h fun v e hv=>e▸hv
theorem Kz {a:AV} {es:List (Int×AV)} {k:Int} {d x:AV} (h:gI st a=some es) (hx:(ae es k).getD d=x) (q:Q x st):Cl C (.builtin "dict.get") [a,.int k,d] st Q:=fun R A xs s hh hu S sA=>sA.c3 fun v u w hv hu hw=>vI hu fun t=>
  bP (CY S hv h) fun p kvs e z hp hy=>e▸call_meetsIn PySem.F.slot_dict_get hp.mapOf.typeIs PySem.F.entry_dict_get (PySem.F.args_dict_get_3 _ _ _) (meets_dict_get_default C.IK p (intKind_is _ _ k t) z.2 w) ⟨_,hp.mapOf,
    AO S (hx▸get_or (hy.get (k:=k)) hw) q⟩
noncomputable def sY (st:St) (a:AV):Option String:=(eL st a).elim ((gI st a).map fun _=>"dict") fun _=>some "list"
theorem F6 {a:AV} {vs:List AV} (h:eL st a=some vs):sY st a=some "list":=congrArg (Option.elim · _ _) h
theorem sX {a:AV} {es:List (Int×AV)} (h:eL st a=none) (h2:gI st a=some es):sY st a=some "dict":=(congrArg (Option.elim · _ _) h).trans (congrArg (Option.map _) h2)
noncomputable def Vs (s:Shared) (v:Value) (T:String):Prop:=s.TypeIs v T∧PlainAttrs T∧∀p,v=.ref p->∃o,s.heap.get? p=some o∧o.dict=none
theorem xy {s:Shared} (S:bp C R st s) {a:AV} {v:Value} {T} (h:VR C s.heap (dm R st) a v) (e:sY st a=some T):Vs s v T:=by
  cases q:eL st a with
  | some vs=>
    cases (F6 q).symm.trans e
    exact bS (BM S h q) fun p xs e hp _=>xE hp fun n hp=>e▸⟨⟨_,hp,rfl⟩,PySem.F.plainAttrs_list,fun p' e=>Value.ref.inj e▸⟨_,hp,rfl⟩⟩
  | none=>
    cases q2:gI st a with
    | some es=>
      cases (sX q q2).symm.trans e
      exact bP (CY S h q2) fun p xs e _ hp _=>e▸⟨hp.mapOf.typeIs,PySem.F.plainAttrs_dict,fun p' e=>Value.ref.inj e▸o7 hp fun o _ _ ho YR _=>⟨o,ho,YR.2.1⟩⟩
    | none=>unfold sY at e;rw [q,q2] at e;exact cp e
theorem EH {e:PE} {n:Nm} {as:List PE} {T:String} {id:String} (slot:Slot T (ah n) id) (Yq:typeOf (.builtin id)=pure (.type "method_descriptor"))
    (h:E C r e ρ st (fun a ao=>sY ao a=some T∧Es C r as ρ ao (fun avs bg=>Cl C (.builtin id) (a::avs) bg Q))):E C r (.aB e n as) ρ st Q:=by
  constructor
  intro R A env t s he hv hr S L
  have c:=a1 he
  show wpAny C.M A (eval (.Call (.Attribute (dE e ((t.a 0).a 0)) (ah n) (t.a 0).d.p) (dL as (t.a 1)) [] t.d.p) env) _ _ _
  rw [arm_eval_Call,Be e (a2 (a2 c))]
  exact wpAny_bind (h.run (a1 (a2 he)) hv hr S L fun v s1 a ao ha S1 x1 L1 h1=>wpAny_bind (wpAny_standAt (j4 (xy S1 ha h1.1) fun t1 t2 t3=>
    B6 (a2 (a2 he)) (a1 c) (a1 (a2 c)) fun pl=>getMethod_builtin t1 t2 slot Yq t3 (Calls.callWith_builtin (A9 (a2 (a2 he))) (Cm h1.2 (a2 (a2 he)) hv hr S1 L1 fun vs s2 avs bg i6 S2 x2 L2 h2=>
      h2.run hr S2 (vs:=v::vs) ⟨_,vs,rfl,ha.up x2.up,i6⟩ fun w s3 av eJ PM S3 x3 q=>⟨av,eJ,PM,S3,x1.trans (x2.trans x3),q⟩)))))
inductive LM (Q:AV->St->Prop) (a:AV) (ao:St):Prop
  | mk:∀b vs v,(a=.ref b)->(ao b=some (.list (vs++[v])))->(vs.length≤16777000)->(Q v (ao.upd b (.list vs)))->LM Q a ao
theorem IG {e:PE} (h:E C r e ρ st (LM Q)):E C r (.aB e .uq []) ρ st Q:=
  EH PySem.F.slot_list_pop PySem.F.type_list_pop (h.mono fun a ao ⟨b,vs,v,e,h1,h2,h3⟩=>⟨e▸F6 (congrArg kW h1),En (e▸Kw h1 h3 h2)⟩)
inductive z5 (b:Addr) (Q:AV->St->Prop) (v:AV) (bg:St):Prop
  | mk:∀us,(bg b=some (.list us))->(us.length≤16777000)->(Q .none (bg.upd b (.list (us++[v]))))->z5 b Q v bg
inductive L8 (C:Cx) (r:Nat) (f:PE) (ρ:Loc) (Q:AV->St->Prop) (a:AV) (ao:St):Prop
  | mk:∀b vs,(a=.ref b)->(ao b=some (.list vs))->(E C r f ρ ao (z5 b Q))->L8 C r f ρ Q a ao
theorem By {e f:PE} (h:E C r e ρ st (L8 C r f ρ Q)):E C r (.aB e .dz [f]) ρ st Q:=
  EH PySem.F.slot_list_append PySem.F.type_list_append (h.mono fun a ao ⟨b,vs,e,h1,h2⟩=>⟨e▸F6 (congrArg kW h1),Ec (h2.mono fun v bg ⟨us,h3,h4,h5⟩=>En (e▸F4 h3 h5 h4))⟩)
inductive zZ (a k:AV) (Q:AV->St->Prop) (d:AV) (eJ:St):Prop
  | mk:∀es i,(k=.int i)->(gI eJ a=some es)->(Q ((ae es i).getD d) eJ)->zZ a k Q d eJ
abbrev LU (C:Cx) (r:Nat) (g:PE) (ρ:Loc) (a:AV) (Q:AV->St->Prop):AV->St->Prop:=fun k bg=>E C r g ρ bg (zZ a k Q)
inductive LW (C:Cx) (r:Nat) (f g:PE) (ρ:Loc) (Q:AV->St->Prop) (a:AV) (ao:St):Prop
  | mk:((∃es,gI ao a=some es))->(eL ao a=none)->(E C r f ρ ao (LU C r g ρ a Q))->LW C r f g ρ Q a ao
theorem IJ {e f g:PE} (h:E C r e ρ st (LW C r f g ρ Q)):E C r (.aB e .ur [f,g]) ρ st Q:=
  EH PySem.F.slot_dict_get PySem.F.type_dict_get (h.mono fun a ao ⟨h1,h0,h2⟩=>⟨xE h1 fun es h1=>sX h0 h1,Ec (h2.mono fun k bg h3=>Ec (h3.mono fun d eJ ⟨es,i,e,h4,h5⟩=>En (e▸Kz h4 rfl h5)))⟩)
end Mine
end
section
namespace Mine
variable {C:Cx} {R:Addr->Prop} {r:Nat} {ρ:Loc} {st:St} {Q:AV->St->Prop}
inductive Lr (Q:Bool->St->Prop) (a:AV) (ao:St):Prop
  | mk:∀b,(a=.bool b)->(Q b ao)->Lr Q a ao
theorem vB {A:Around} {s s1:Shared} {ao:St} {Q:Bool->St->Prop} {a:AV} {v:Value} (ha:VR C s1.heap (dm R ao) a v) (S1:bp C R ao s1) (x1:Ext st s ao s1) (h:Lr Q a ao):wpAny C.M A (truthy v) (mW C R st s Q) c9 s1:=by
  obtain ⟨b,e,q⟩:=h
  subst e
  exact (show v=_ from ha)▸wpAny_truthy_bool ⟨ao,S1,x1,q⟩
theorem AB {f:Nm} {as:List PE} {Q:Bool->St->Prop} (h:E C r (.call f as) ρ st (Lr Q)):T C r (.call f as) ρ st Q:=.mk fun _ _ _ _ _ he hv hr S L=>
  wpAny_isTrue_value (h.run he hv hr S L fun _ _ _ _ ha S1 x1 _ h=>vB ha S1 x1 h) rfl
theorem wK {x:Nm} {b:Bool} {Q:Bool->St->Prop} (h:ae ρ x=some (.bool b)) (q:Q b st):T C r (.loc x) ρ st Q:=.mk fun _ _ _ _ _ he hv hr S L=>
  wpAny_isTrue_value ((El h (Q:=Lr Q) ⟨b,rfl,q⟩).run he hv hr S L fun _ _ _ _ ha S1 x1 _ h=>vB ha S1 x1 h) rfl
theorem Kk {b:Bool} {Q:Bool->St->Prop} (q:Q b st):T C r (.bool b) ρ st Q:=.mk fun _ _ _ _ _ he hv hr S L=>
  wpAny_isTrue_value ((Bz (b:=b) (Q:=Lr Q) ⟨b,rfl,q⟩).run he hv hr S L fun _ _ _ _ ha S1 x1 _ h=>vB ha S1 x1 h) rfl
abbrev OX (Q:Bool->St->Prop):Bool->St->Prop:=fun b ao=>Q (!b) ao
theorem Fk {e:PE} {Q:Bool->St->Prop} (h:T C r e ρ st (OX Q)):T C r (.not e) ρ st Q:=.mk fun _ _ _ _ _ he hv hr S L=>
  wpAny_isTrue_Not (h.run he hv hr S L fun _ _ ao S1 x1 _ q=>⟨ao,S1,x1,q⟩)
abbrev OZ (C:Cx) (r:Nat) (rr:PE) (ρ:Loc) (Q:Bool->St->Prop):Bool->St->Prop:=fun b ao=>if b then T C r rr ρ ao Q else Q false ao
theorem Bn {l rr:PE} {Q:Bool->St->Prop} (h:T C r l ρ st (OZ C r rr ρ Q)):T C r (.and l rr) ρ st Q:=.mk fun _ _ _ _ _ he hv hr S L=>
  wpAny_isTrue_BoolOp (wpAny_allTrue_And_cons (h.run (a1 he) hv hr S L fun b s1 ao S1 x1 L1 q=>match b with
    | false=>⟨ao,S1,x1,q⟩
    | true=>wpAny_allTrue_And_cons (T.run q (a2 he) hv hr S1 L1 fun c s2 bg S2 x2 L2 q2=>match c with
      | false=>⟨bg,S2,x1.trans x2,q2⟩
      | true=>wpAny_allTrue_And_nil ⟨bg,S2,x1.trans x2,q2⟩)))
abbrev XK (C:Cx) (r:Nat) (rr:PE) (ρ:Loc) (Q:Bool->St->Prop):Bool->St->Prop:=fun b ao=>if b then Q true ao else T C r rr ρ ao Q
theorem wJ {l rr:PE} {Q:Bool->St->Prop} (h:T C r l ρ st (XK C r rr ρ Q)):T C r (.or l rr) ρ st Q:=.mk fun _ _ _ _ _ he hv hr S L=>
  wpAny_isTrue_BoolOp (wpAny_allTrue_Or_cons (h.run (a1 he) hv hr S L fun b s1 ao S1 x1 L1 q=>match b with
    | true=>⟨ao,S1,x1,q⟩
    | false=>wpAny_allTrue_Or_cons (T.run q (a2 he) hv hr S1 L1 fun c s2 bg S2 x2 L2 q2=>match c with
      | false=>wpAny_allTrue_Or_nil ⟨bg,S2,x1.trans x2,q2⟩
      | true=>⟨bg,S2,x1.trans x2,q2⟩)))
inductive LP (Q:AV->St->Prop) (a:AV) (ao:St):Prop
  | mk:∀b,(a=.bool b)->(Q (.bool (!b)) ao)->LP Q a ao
theorem vBool {hp:Heap} {D:Addr->Prop} {a:AV} {b:Bool} {v:Value} (h:VR C hp D a v) (e:a=.bool b):v=.bool b:=by subst e;exact h
theorem II {e:PE} (h:E C r e ρ st (LP Q)):E C r (.not e) ρ st Q:=.mk fun _ _ _ _ _ he hv hr S L=>
  wpAny_UnaryOp (h.run he hv hr S L fun _ _ _ _ ha S1 x1 _ ⟨b,e,q⟩=>not_value (vBool ha e▸wpAny_truthy_bool (cS.trans x1 (AL (av:=.bool (!b)) S1 rfl q))))
theorem cS.of {A:Around} {env:Env} {s s1:Shared} {ao:St} {e:PE} {t:Tr} (h:E C r e ρ ao Q) (he:oE env.scope e t=true) (hv:ck env) (hr:d9 A r) (S:bp C R ao s1) (L:bA C s1.heap R ao env ρ) (x1:Ext st s ao s1):wpAny C.M A (eval (dE e t) env) (cS C R st s Q) c9 s1:=
  h.run he hv hr S L fun _ _ c bg hc S2 x2 _ q2=>⟨c,bg,hc,S2,x1.trans x2,q2⟩
inductive L9 (C:Cx) (r:Nat) (rr:PE) (ρ:Loc) (Q:AV->St->Prop) (a:AV) (ao:St):Prop
  | mk:∀b,(a=.bool b)->(if b then E C r rr ρ ao Q else Q (.bool false) ao)->L9 C r rr ρ Q a ao
theorem BZ {l rr:PE} (h:E C r l ρ st (L9 C r rr ρ Q)):E C r (.and l rr) ρ st Q:=.mk fun _ _ _ _ _ he hv hr S L=>
  wpAny_And2 (h.run (a1 he) hv hr S L fun _ _ _ _ ha S1 x1 L1 ⟨b,e,q⟩=>vBool ha e▸wpAny_truthy_bool (match b with
    | false=>cS.trans x1 (AL (av:=.bool false) S1 rfl q)
    | true=>cS.of q (a2 he) hv hr S1 L1 x1))
inductive VJ (C:Cx) (r:Nat) (rr:PE) (ρ:Loc) (Q:AV->St->Prop) (a:AV) (ao:St):Prop
  | mk:∀b,(a=.bool b)->(if b then Q (.bool true) ao else E C r rr ρ ao Q)->VJ C r rr ρ Q a ao
theorem Ob {l rr:PE} (h:E C r l ρ st (VJ C r rr ρ Q)):E C r (.or l rr) ρ st Q:=.mk fun _ _ _ _ _ he hv hr S L=>
  wpAny_Or2 (h.run (a1 he) hv hr S L fun _ _ _ _ ha S1 x1 L1 ⟨b,e,q⟩=>vBool ha e▸wpAny_truthy_bool (match b with
    | true=>cS.trans x1 (AL (av:=.bool true) S1 rfl q)
    | false=>cS.of q (a2 he) hv hr S1 L1 x1))
abbrev Pe (C:Cx) (r:Nat) (t f:PE) (ρ:Loc) (Q:AV->St->Prop):Bool->St->Prop:=fun b ao=>if b then E C r t ρ ao Q else E C r f ρ ao Q
theorem AE {c t f:PE} (h:T C r c ρ st (Pe C r t f ρ Q)):E C r (.bt c t f) ρ st Q:=.mk fun _ _ _ _ _ he hv hr S L=>
  wpAny_IfExp (h.run (a1 he) hv hr S L fun b _ _ S1 x1 L1 q=>match b with
    | true=>cS.of q (a1 (a2 he)) hv hr S1 L1 x1
    | false=>cS.of q (a2 (a2 he)) hv hr S1 L1 x1)
theorem Oc {l rr:PE} (h:E C r l ρ st (fun a ao=>E C r rr ρ ao (fun b bg=>∃xs ys,eL bg a=some xs∧eL bg b=some ys∧xs.length+ys.length≤1000000∧∀c,bg c=none->Q (.ref c) (bg.upd c (.list (xs++ys)))))) :
    E C r (.bin .add l rr) ρ st Q:=.mk fun _ _ _ _ _ he hv hr S L=>
  wpAny_BinOp (h.run (a1 he) hv hr S L fun _ _ _ _ ha S1 x1 L1 h1=>h1.run (a2 he) hv hr S1 L1 fun _ s2 _ _ hb S2 x2 _ h2=>bP h2 fun _ _ hx hy hz q=>
    bS (BM S2 (ha.up x2.up) hx) fun p1 vs e1 hp i6=>xE hp fun n hp=>bS (BM S2 hb hy) fun p2 ws e2 hq VX=>xE hq fun m hq=>e1▸e2▸by
      have l3:vs.length+ws.length≤1000000:=i6.1.length▸VX.1.length▸hz
      refine concat_meets ⟨_,hp,rfl⟩ ⟨_,hq,rfl⟩ noFill_list_add seq_list_add PySem.F.slot_list_add PySem.F.entry_list_add (PySem.F.args_list_add_2 _ _) (AutoSeq1.list___add___list_list_0 p1 vs.toArray n p2 ws.toArray m (by simp [CL];exact Zl l3 rfl)) ⟨hp,hq,?_⟩
      have:=cS.trans (x1.trans x2) (C5 (n:=s2.toks) S2 (i6.1.append VX.1) (by rw [List.length_append];exact Zl l3 rfl) q)
      rw [←List.append_toArray] at this;exact this)
noncomputable def md (st:St):AV->Option (List AV)
  | .xM vs=>some vs
  | a=>eL st a
theorem F1 {s:Shared} (S:bp C R st s) {a:AV} {v:Value} {vs:List AV} (h:VR C s.heap (dm R st) a v) (e:md st a=some vs):∃p xs,v=.ref p∧s.heap.IsList p xs.toArray∧bY C s.heap (dm R st) vs xs:=by
  cases a with
  | xM us=>exact Option.some.inj e▸bP h fun p xs e _ hl hx=>⟨p,xs,e,hl,hx⟩
  | _=>exact bP (BM S h e) fun p xs e hl hx _=>⟨p,xs,e,hl.isList,hx⟩
noncomputable def Eo (C:Cx) (r:Nat) (e:Option PE) (ρ:Loc) (st:St) (Q:Option Int->St->Prop):Prop:=match e with
  | none=>Q none st
  | some e=>E C r e ρ st (fun a ao=>∃i,a=.int i∧Q (some i) ao)
noncomputable def kE (n:Nat) (i:Int):Nat:=clipAt n i
noncomputable def fh (vs:List AV) (lo hi:Option Int):List AV:=(vs.drop (lo.elim 0 (kE vs.length))).take (hi.elim vs.length (kE vs.length)-lo.elim 0 (kE vs.length))
theorem Eo.run {e:Option PE} {t:Tr} {Q':Option Int->St->Prop} {A env s} (h:Eo C r e ρ st Q') (he:oO env.scope e t=true) (hv:ck env) (hr:d9 A r) (S:bp C R st s) (L:bA C s.heap R st env ρ) {P:Value->Shared->Prop}
    (k:∀v s' i ag,IsPart v i->bp C R ag s'->Ext st s ag s'->bA C s'.heap R ag env ρ->Q' i ag->P v s'):wpAny C.M A (evalPart (dO e t) env) P c9 s:=by
  cases e with
  | none=>exact wpAny_pure (k _ _ _ _ .none S (.refl ..) L h)
  | some e=>exact E.run h he hv hr S L fun v s' a ag ha S' x' L' q=>bq q fun i e q=>xE (e▸ha:VR C s'.heap (dm R ag) (.int i) v) fun t e=>e▸k _ _ _ _ (.int i t) S' x' L' q
theorem D7 {s:Shared} {o:Obj}:∀b ob,s.heap.get? b=some ob->(s.heap.push o).get? b=some ob:=fun _ _ e=>Heap.get?_push_of_some _ e
theorem qL {e:PE} {lo hi:Option PE} (h:E C r e ρ st (fun a ao=>Eo C r lo ρ ao (fun i bg=>Eo C r hi ρ bg (fun j eJ=>∃vs,md eJ a=some vs∧vs.length≤1000000∧∀c,eJ c=none->Q (.ref c) (eJ.upd c (.list (fh vs i j))))))) :
    E C r (.slice e lo hi) ρ st Q:=by
  constructor
  intro R A env t s he hv hr S L
  refine Subscript_ (h.run (a1 he) hv hr S L fun v s1 a ao ha S1 x1 L1 h1=>wpAny_Slice (Eo.run h1 (a1 (a2 he)) hv hr S1 L1 fun vl s2 i bg hl S2 x2 L2 h2=>Eo.run h2 (a2 (a2 he)) hv hr S2 L2 fun vu s3 j eJ hu S3 x3 L3 h3=>wpAny_pure ?_))
  refine dR h3 fun vs i6 hz q=>bS (F1 S3 ((ha.up x2.up).up x3.up) i6) fun b xs e hb hx=>e▸?_
  have x0:=(x1.trans x2).trans x3
  clear h i6 ha x1 x2 x3 h3 h2 h1 L1 L2 L3 S1 S2 S L
  have hlen:=hx.length
  generalize ho:({cls:=.type "slice",data:=.fields #[vl,vu,.none]}:Obj)=o
  have k:∀b ob,s3.heap.get? b=some ob->(s3.heap.push o).get? b=some ob:=D7
  have yJ:(s3.heap.push o).IsList b xs.toArray:=hb.imp fun _ e=>⟨k _ _ e.1,e.2⟩
  have nk:xs.toArray.size≤sizeLine:=by rw [List.size_toArray,hlen,CL];exact Zl hz rfl
  subst ho
  refine tail_any (ops:=[.ref s3.heap.objs.size,.ref b]) yJ.typeIs slot_list_getitem.lookup (wpAny_getItem_list_slice yJ (Heap.IsSliceOf.new ..) hl hu .none (by simp) ?_ nk) rfl
  have x4:Ext eJ s3 eJ {s3 with heap:=s3.heap.push {cls:=.type "slice",data:=.fields #[vl,vu,.none]},toks:=s3.toks}:=.gE k
  rw [slicePick_plain]
  refine cS.trans (x0.trans x4) (C5 (n:=s3.toks) (S3.gE k) (vs:=fh vs i j) ?_ ?_ q)
  · unfold fh;rw [←hlen];exact ((hx.up x4.up).drop _).take _
  · rw [List.length_take,List.length_drop];exact Nat.le_trans (Nat.min_le_right ..) (Nat.le_trans (Nat.sub_le ..) (hlen▸Zl hz rfl))
theorem Oa {e:PE} (h:E C r e ρ st (fun a ao=>∃vs,md ao a=some vs∧vs.length≤1000000∧∀c,ao c=none->Q (.ref c) (ao.upd c (.list vs.reverse)))):E C r (.rev e) ρ st Q:=by
  constructor
  intro R A env t s he hv hr S L
  refine Subscript_ (h.run he hv hr S L fun v s1 a ao ha S1 x1 L1 h1=>wpAny_Slice (wpAny_pure (wpAny_pure (wpAny_UnaryOp (wpAny_Constant_int (neg_int ?_))))))
  refine dR h1 fun vs i6 hz q=>bS (F1 S1 ha i6) fun b xs e hb hx=>e▸?_
  clear h i6 ha h1 L1 S L
  have hlen:=hx.length
  generalize (s1.toks+1:Nat)=tk
  generalize ho:({cls:=.type "slice",data:=.fields #[.none,.none,.int (-1) tk]}:Obj)=o
  have k:∀b ob,s1.heap.get? b=some ob->(s1.heap.push o).get? b=some ob:=D7
  have yJ:(s1.heap.push o).IsList b xs.toArray:=hb.imp fun _ e=>⟨k _ _ e.1,e.2⟩
  have nk:xs.toArray.size≤sizeLine:=by rw [List.size_toArray,hlen,CL];exact Zl hz rfl
  subst ho
  refine tail_any (ops:=[.ref b,.ref s1.heap.objs.size]) yJ.typeIs slot_list_getitem.lookup (wpAny_getItem_list_slice yJ (Heap.IsSliceOf.new ..) .none .none (.int (-1) tk) (by simp) ?_ nk) rfl
  have x4:Ext ao s1 ao {s1 with heap:=s1.heap.push {cls:=.type "slice",data:=.fields #[.none,.none,.int (-1) tk]},toks:=tk+1}:=.gE k
  rw [krv_pick]
  exact cS.trans (x1.trans x4) (C5 (n:=tk+1) (S1.gE k) (hx.up x4.up).reverse (by rw [List.length_reverse,hlen];exact Zl hz rfl) q)
end Mine
end
section
namespace Mine
variable {C:Cx} {R:Addr->Prop} {r:Nat} {ρ:Loc} {st:St} {Q:AV->St->Prop}
theorem sV {hp ft:Heap} {o:bQ} (k:∀b o,hp.get? b=some o->ft.get? b=some o):Up hp (dm R st) ft (dm R (st.upd hp.objs.size o)):=fun b _ e nb=>⟨k b _ e,fun d=>(HG d).elim (fun q=>absurd (Heap.lt_size e) (q▸Nat.lt_irrefl _)) nb⟩
theorem GB {s:Shared} {h':Heap} {o:bQ} {n:Nat} (S:bp C R st s) (k:∀b o,s.heap.get? b=some o->h'.get? b=some o) (z:s.heap.objs.size≤h'.objs.size)
    (ho:mi C h' (dm R (st.upd s.heap.objs.size o)) s.heap.objs.size o) (q:∀b,st b=none->Q (.ref b) (st.upd b o)):cS C R st s Q (.ref s.heap.objs.size) {s with heap:=h',toks:=n}:=
  ⟨.ref s.heap.objs.size,_,rfl,S.new (o:=o) k z (Nat.le_refl _) ho,.new k z (Nat.le_refl _),q _ (Bi S)⟩
theorem FH {s:Shared} {h':Heap} {es:List (Int×AV)} {kvs:List (Int×Value)} {n:Nat} (S:bp C R st s) (k:∀b o,s.heap.get? b=some o->h'.get? b=some o) (z:s.heap.objs.size≤h'.objs.size)
    (hd:h'.DictOf C.IK s.heap.objs.size kvs) (h:hS C s.heap (dm R st) es kvs) (q:∀b,st b=none->Q (.ref b) (st.upd b (.dict es))):cS C R st s Q (.ref s.heap.objs.size) {s with heap:=h',toks:=n}:=
  GB (o:=.dict es) S k z ⟨kvs,hd,h.up (sV k)⟩ q
theorem zE {a:AV} {es:List (Int×AV)} (h:gI st a=some es) (hz:es.length≤1000000) (q:∀b,st b=none->Q (.ref b) (st.upd b (.dict es))):Cl C (.type "dict") [a] st Q:=fun R A xs s hh hu S hx=>hx.c1 fun v hv=>
  bP (CY S hv h) fun p kvs e z hp hy=>e▸kt_call_dict z.2 hp (by rw [hy.length,CL];exact Zl hz rfl) fun h' hd sb=>
    FH (n:=s.toks) S (fun b o e=>(sb.2 b (Nat.ne_of_lt (Heap.lt_size e))).trans (Heap.get?_push_of_some _ e)) (by rw [sb.1,Heap.size_push];exact Nat.le_succ _) hd hy q
theorem zD {a:AV} {vs:List AV} (h:eL st a=some vs) (hz:vs.length≤1000000) (q:∀b,st b=none->Q (.ref b) (st.upd b (.list vs))):Cl C (.type "list") [a] st Q:=fun R A xs s hh hu S hx=>hx.c1 fun v hv=>
  bS (BM S hv h) fun p ys e hp hy=>xE hp fun n hp=>e▸call_list_seq p (.inl rfl) hp rfl rfl (fun h' c' k hg=>
    GB (n:=s.toks) (o:=.list vs) S k (Nat.le_of_lt (Heap.lt_size hg)) ⟨ys,⟨c',hg⟩,hy.1.up (sV k),hy.2⟩ q) (by rw [List.size_toArray,hy.1.length,CL];exact Zl hz rfl)
noncomputable def Jn:AV->Option Bool
  | .tup _=>some true | .bool _=>some false | .int _=>some false | .glob=>some false | .str _=>some false | _=>none
noncomputable def Mq:AV->Option Bool
  | .bool _=>some true | .tup _=>some false | .int _=>some false | .glob=>some false | .str _=>some false | _=>none
noncomputable def Mp:AV->Option Bool
  | .int _=>some true | .str _=>some false | _=>none
noncomputable def Jo (T:Nm):Option (Nm×List (Nm×AV))->Option Bool
  | some (c,_)=>if c∈cL then some (decide (c=T)) else none
  | none=>none
noncomputable def ry (st:St) (a:AV) (T:Nm):Option Bool:=if T=.er then Jn a else if T=.eE then Mq a else if T=.jI then Mp a else if T∈cL then Jo T (objOf st a) else none
theorem Hw {st:St} {a:AV} {T:Nm} (h1:T≠.er) (h2:T≠.eE) (h3:T≠.jI):ry st a T=if T∈cL then Jo T (objOf st a) else none:=
  (if_neg h1).trans ((if_neg h2).trans (if_neg h3))
section
variable {A:Around} {s:Shared} (S:bp C R st s) {a:AV} {v:Value} {b:Bool} (hv:VR C s.heap (dm R st) a v) {P:Value->Shared->Prop} (h:∀n,P (.bool b) {s with toks:=n})
include S hv h
theorem rx (e:Jn a=some b):wpAny C.M A (call (.builtin "isinstance") [v,.type "tuple"]) P c9 s:=by
  cases a with
  | tup vs=>cases Option.some.inj e;exact bP hv fun p xs e _ _ ht=>e▸dR ht.1 fun o ho hc _=>IsiPair.tuple_tuple ho hc (h _)
  | bool _=>cases Option.some.inj e;exact (show v=_ from hv)▸IsiPair.bool_tuple (h _)
  | int _=>cases Option.some.inj e;exact vI hv fun _=>IsiPair.int_tuple (h _)
  | glob=>cases Option.some.inj e;exact (show v=_ from hv)▸C.JG S.base (.inl rfl) h
  | str _=>cases Option.some.inj e;exact xE hv fun _ e=>e▸IsiPair.str_tuple (h _)
  | _=>exact cp e
theorem uW (e:Mq a=some b):wpAny C.M A (call (.builtin "isinstance") [v,.type "bool"]) P c9 s:=by
  cases a with
  | tup vs=>cases Option.some.inj e;exact bP hv fun p xs e _ _ ht=>e▸dR ht.1 fun o ho hc _=>IsiPair.tuple_bool ho hc (h _)
  | bool _=>cases Option.some.inj e;exact (show v=_ from hv)▸IsiPair.bool_bool (h _)
  | int _=>cases Option.some.inj e;exact vI hv fun _=>IsiPair.int_bool (h _)
  | glob=>cases Option.some.inj e;exact (show v=_ from hv)▸C.JG S.base (.inr rfl) h
  | str _=>cases Option.some.inj e;exact xE hv fun _ e=>e▸IsiPair.str_bool (h _)
  | _=>exact cp e
theorem yz (e:Mp a=some b):wpAny C.M A (call (.builtin "isinstance") [v,.type "int"]) P c9 s:=by
  cases a with
  | int _=>cases Option.some.inj e;exact vI hv fun _=>IsiPair.int_int (h _)
  | str _=>cases Option.some.inj e;exact xE hv fun _ e=>e▸IsiPair.str_int (h _)
  | _=>exact cp e
end
theorem GE {c:Nm} (h:c∈cL):c∈dX:=List.mem_append.mpr (.inl h)
theorem yA {A:Around} {s:Shared} (S:bp C R st s) {a:AV} {v:Value} {T:Nm} {b:Bool} (hv:VR C s.heap (dm R st) a v) (hT:T∈cL) (e:Jo T (objOf st a)=some b)
    {P:Value->Shared->Prop} (h:∀n,P (.bool b) {s with toks:=n}):wpAny C.M A (call (.builtin "isinstance") [v,.ref (C.cls T)]) P c9 s:=by
  cases q:objOf st a with
  | none=>rw [q] at e;exact cp e
  | some y=>
    obtain ⟨c,fs⟩:=y
    rw [q] at e
    obtain ⟨I⟩:=ER S hv q
    clear hv q
    by_cases hc:c∈cL
    · cases Option.some.inj ((if_pos hc).symm.trans e)
      refine bq I.at' fun od ia _=>?_
      rw [I.eq]
      by_cases q:c=T
      · subst q
        exact isi_call S.X (fun M=>ia.type) (C.VT c hc) nofun (decide_eq_true (rfl:c=c)▸h _)
      · have k:=(C.oC c (GE hc)).2
        exact kin_callC S.X ia (C.VS c T hc hT q) (al k 8 rfl) (al k 3 rfl) (eq_of_beq (al k 9 rfl)) (eq_of_beq (al k 11 rfl)) (eq_of_beq (al k 12 rfl)) (eq_of_beq (al k 10 rfl)) (decide_eq_false q▸h _)
    · exact cp ((if_neg hc).symm.trans e)
theorem sf {A:Around} {env:Env} {s:Shared} {f w:Value} {e g:PE} {t:Tr} {pos:Pos} {Q':AV->St->Prop} (h:E C r e ρ st Q') (he:oL env.scope [e,g] t=true) (hv:ck env) (hr:d9 A r) (S:bp C R st s)
    (L:bA C s.heap R st env ρ) {P:Args->Shared->Prop} (hg:∀u s' ag P',oE env.scope g u=true->bp C R ag s'->P' w s'->wpAny C.M A (eval (dE g u) env) P' c9 s')
    (k:∀v s' av ag,VR C s'.heap (dm R ag) av v->bp C R ag s'->Ext st s ag s'->bA C s'.heap R ag env ρ->Q' av ag->P ⟨[v,w],[]⟩ s'):wpAny C.M A (evalArgs f true (backTo pos (starEach (dL [e,g] t) env)) []) P c9 s:=by
  have hs:wpAny C.M A (spliced (backTo pos (starEach (dL [e,g] t) env))) (fun vs s'=>P ⟨vs,[]⟩ s') c9 s:=
    spliced_more (h.run (a1 he) hv hr S L fun v s1 a ao ha S1 x1 L1 h1=>spliced_more (hg _ s1 ao _ (a1 (a2 (a2 he))) S1 (spliced_none (k v s1 a ao ha S1 x1 L1 h1))) (AI (a1 (a2 (a2 (a2 he)))))) (AI (a1 (a2 he)))
  have e1:=AI (rest:=dL [g] (t.a 1)) (env:=env) (a1 (a2 he))
  rw [show starEach (dL [e,g] t) env=_ from e1] at hs ⊢
  exact wpAny_bind (wpAny_mono hs (fun vs s' h'=>wpAny_holding (wpAny_bind (wpAny_pure (wpAny_bind (wpAny_pure (wpAny_pure h')))))) fun _ _ x=>x)
inductive LS (T:Nm) (Q:AV->St->Prop) (a:AV) (ao:St):Prop
  | mk:∀b,(ry ao a T=some b)->(Q (.bool b) ao)->LS T Q a ao
theorem AA {e:PE} {T:Nm} (h:E C r e ρ st (LS T Q)):E C r (.call .au [e,.bI T]) ρ st Q:=by
  constructor
  intro R A env t s he hv hr S L
  refine j4 (EA (f:=.au) rfl) fun b1 b2 b3=>wpAny_Call_NameR (C9 S hv (a1 he) (A4 _) (C.wd _ b1) b3 b2 (Calls.callWith_builtin (A9 (a2 he)) ?_))
  have main:∀w,(∀u s' ag P',oE env.scope (.bI T) u=true->bp C R ag s'->P' w s'->wpAny C.M A (eval (dE (.bI T) u) env) P' c9 s') →
      (∀ao s1 av v b,bp C R ao s1->VR C s1.heap (dm R ao) av v->ry ao av T=some b->∀{P:Value->Shared->Prop},(∀n,P (.bool b) {s1 with toks:=n})->wpAny C.M A (call (.builtin "isinstance") [v,w]) P c9 s1) →
      wpAny C.M A (evalArgs (.builtin "isinstance") true (backTo t.d.p (starEach (dL [e,.bI T] (t.a 1)) env)) []) (fun a s₁=>wpAny C.M A (call (.builtin "isinstance") ([]++a.pos) a.kw) (cS C R st s Q) c9 s₁) c9 s:=fun w hg hk=>
    sf (w:=w) h (a2 he) hv hr S L hg fun v s1 av ao Ot S1 x1 L1 ⟨b,hi,q⟩=>hk _ _ _ _ _ S1 Ot hi fun m=>cS.trans x1 (AO (av:=.bool b) S1 rfl q)
  by_cases h1:T=.er
  · subst h1;exact main _ (fun u s' ag P' hg S' h'=>HQ (f:=.er) rfl S' hv hg h') fun _ _ _ _ _ S hv e _ h=>rx S hv h e
  · by_cases h2:T=.eE
    · subst h2;exact main _ (fun u s' ag P' hg S' h'=>HQ (f:=.eE) rfl S' hv hg h') fun _ _ _ _ _ S hv e _ h=>uW S hv h e
    · by_cases h3:T=.jI
      · subst h3;exact main _ (fun u s' ag P' hg S' h'=>HQ (f:=.jI) rfl S' hv hg h') fun _ _ _ _ _ S hv e _ h=>yz S hv h e
      · by_cases hn:T∈cL
        · exact main _ (fun u s' ag P' hg S' h'=>B8 S' hv hg (A4 T) (C.oC T (GE hn)).1 h') fun _ _ _ _ _ S hv e _ h=>yA S hv hn ((if_pos hn).symm.trans ((Hw h1 h2 h3).symm.trans e)) h
        · have hs:wpAny C.M A (spliced (backTo t.d.p (starEach (dL [e,.bI T] (t.a 1)) env))) (fun vs s'=>False) c9 s:=
            spliced_more (h.run (a1 (a2 he)) hv hr S L fun v s1 a ao ha S1 x1 L1 ⟨b,hb,_⟩=>cp ((if_neg hn).symm.trans ((Hw h1 h2 h3).symm.trans hb))) (AI (a1 (a2 (a2 he))))
          have e1:=AI (rest:=dL [.bI T] ((t.a 1).a 1)) (env:=env) (a1 (a2 (a2 he)))
          rw [show starEach (dL [e,.bI T] (t.a 1)) env=_ from e1] at hs ⊢
          exact wpAny_bind (wpAny_mono hs (fun vs s' (h':False)=>h'.elim) fun _ _ x=>x)
theorem lT {a:Addr}:(st.del a) a=none:=if_pos rfl
theorem Gp {a b:Addr} (h:b≠a):(st.del a) b=st b:=if_neg h
theorem Ey {a b:Addr} (h:mr (st.del a) b):mr st b:=fun e=>h (by
  by_cases q:b=a
  · exact q▸lT
  · exact (Gp q).trans e)
theorem Fc {a b:Addr} (h:dm R (st.del a) b):dm R st b:=h.imp Ey id
theorem Cr {s:Shared} {a:Addr} {o:bQ} (S:bp C R st s) (e:st a=some o):¬dm R (st.del a) a:=fun d=>d.elim (fun d=>d lT) fun d=>nomatch (S.apart a d).symm.trans e
theorem EJ {hp:Heap} {a:Addr}:Up hp (dm R st) hp (dm R (st.del a)):=fun _ _ e nb=>⟨e,fun d=>nb (Fc d)⟩
theorem bp.del {s:Shared} {a:Addr} (S:bp C R st s):bp C R (st.del a) s:=
  ⟨S.base,fun b d=>S.low b (Ey d),fun b o e=>(S.obj b o (by
    by_cases q:b=a
    · subst q;exact cp (lT.symm.trans e)
    · exact (Gp q).symm.trans e)).up EJ fun o e=>e,S.gens,fun b h=>by
    by_cases q:b=a
    · exact q▸lT
    · exact (Gp q).trans (S.apart b h),S.under,S.above⟩
theorem Ext.del {s:Shared} {a:Addr}:Ext st s (st.del a) s:=⟨fun _ _ e _=>e,fun _ _ _ n d=>n (Ey d),rfl⟩
noncomputable def JJ (st:St) (a:Addr):Option (AV×St):=(K8 (st a)).bind fun y=>(Kb (st y.2)).map fun fs=>(.obj y.1 fs,(st.del a).del y.2)
noncomputable def Qv (st:St) (a:Addr):Option (AV×St):=(kW (st a)).elim ((o4 (st a)).elim (JJ st a) fun es=>some (.kC es,st.del a)) fun vs=>some (.lst vs,st.del a)
noncomputable def JK (st:St):AV->Option (AV×St)
  | .ref a=>Qv st a
  | _=>none
noncomputable def wU (C:Cx) (R:Addr->Prop) (st:St) (s:Shared) (v:Value) (y:AV×St):Prop:=VR C s.heap (dm R y.2) y.1 v∧bp C R y.2 s∧Ext st s y.2 s
theorem yT {s:Shared} (S:bp C R st s) {a:Addr} {y:AV×St} (e:JJ st a=some y):wU C R st s (.ref a) y:=by
  obtain ⟨⟨c,d⟩,q,e⟩:=Option.bind_eq_some_iff.mp e
  obtain ⟨fs,q2,rfl⟩:=Option.map_eq_some_iff.mp e
  have q:=wu q
  have q2:=wx q2
  exact gx (S.obj _ _ q2) fun m h1 h2 h3 _=>⟨⟨a,d,m,rfl,fun z=>Cr S q (Fc (a:=d) z),fun z=>z.elim (fun z=>z lT) (fun z=>nomatch (S.apart d z).symm.trans q2),S.low _ (B2 q),S.obj _ _ q,h1.ns,
    (h2.up EJ).up EJ,h3⟩,S.del.del,Ext.trans .del .del⟩
theorem JI {s:Shared} (S:bp C R st s) {a:AV} {v:Value} {y:AV×St} (h:VR C s.heap (dm R st) a v) (e:JK st a=some y):wU C R st s v y:=by
  cases a with
  | ref a=>
    cases (show v=_ from h)
    have e:(kW (st a)).elim _ _=some y:=e
    cases q:kW (st a) with
    | some vs=>rw [q] at e;cases Option.some.inj e;exact dR (S.obj _ _ (F0 q)) fun xs hl hx hz=>⟨⟨a,xs,rfl,Cr S (F0 q),hl,hx.up EJ,hz⟩,S.del,.del⟩
    | none=>
      rw [q] at e
      have e:(o4 (st a)).elim _ _=some y:=e
      cases q2:o4 (st a) with
      | some es=>rw [q2] at e;cases Option.some.inj e;exact bq (S.obj _ _ (Em q2)) fun xs hl hx=>⟨⟨a,xs,rfl,Cr S (Em q2),S.low _ (B2 (Em q2)),hl,hx.up EJ⟩,S.del,.del⟩
      | none=>rw [q2] at e;exact yT S e
  | _=>exact cp e
inductive LX (Q:AV->St->Prop) (a:AV) (ao:St):Prop
  | mk:∀b bg,(JK ao a=some (b,bg))->(Q b bg)->LX Q a ao
theorem AD {e:PE} (h:E C r e ρ st (LX Q)):E C r (.freeze e) ρ st Q:=.mk fun _ _ env t _ he hv hr S L=>
  h.run (show oE env.scope e t=true from he) hv hr S L fun _ _ _ _ ha S1 x1 _ ⟨b,bg,hf,q⟩=>j4 (JI S1 ha hf) fun h1 h2 h3=>⟨b,bg,h1,h2,x1.trans h3,q⟩
section
variable {α β:Type}
noncomputable def kn (f:α->Option β):List α->Option (List β)
  | []=>some []
  | a::r=>(f a).bind fun b=>(kn f r).map (b::·)
theorem DW {f:α->Option β} {P:List α->List β->Prop} (n:P [] []) (c:∀{a b as bs},f a=some b->P as bs->P (a::as) (b::bs)) {as:List α}:∀{bs:List β},kn f as=some bs->P as bs:=by
  induction as with
  | nil=>exact fun e=>Option.some.inj e▸n
  | cons a as ih=>exact fun e=>bq (Option.bind_eq_some_iff.mp e) fun b h e=>bq (Option.map_eq_some_iff.mp e) fun bs h2 e=>e▸c h (ih h2)
noncomputable def kJ (f:AV->Option AV) (y:α×AV):Option (α×AV):=(f y.2).map fun b=>(y.1,b)
theorem zP {f:AV->Option AV} {y z:α×AV} (h:kJ f y=some z):∃b,f y.2=some b∧(y.1,b)=z:=Option.map_eq_some_iff.mp h
end
noncomputable def vU (f:AV->Option AV) (st:St) (a:Addr):Option AV:=(K8 (st a)).bind fun y=>(Kb (st y.2)).bind fun fs=>(kn (kJ f) fs).map (.obj y.1)
noncomputable def lU (f:AV->Option AV) (st:St) (a:Addr):Option AV:=(kW (st a)).elim ((o4 (st a)).elim (vU f st a) fun es=>(kn (kJ f) es).map .kC) fun vs=>(kn f vs).map .lst
noncomputable def deep (st:St):Nat->AV->Option AV
  | 0,_=>none
  | n+1,a=>match a with
    | .ref p=>lU (deep st n) st p
    | _=>some a
noncomputable def c7:St:=fun _=>none
theorem y0 {b:Addr}:¬mr c7 b:=fun h=>h rfl
theorem OF {s:Shared} {a:Addr} {o:bQ} (S:bp C R st s) (e:st a=some o):¬dm R c7 a:=fun d=>d.elim y0 fun d=>nomatch (S.apart a d).symm.trans e
theorem IS {hp:Heap}:Up hp (dm R st) hp (dm R c7):=fun _ _ e n=>⟨e,fun d=>n (.inr (d.resolve_left y0))⟩
theorem vA {f:AV->Option AV} {fs gs:List (Nm×AV)} (h:kn (kJ f) fs=some gs) (x:Nm):ae gs x=none->ae fs x=none:=
  DW (P:=fun fs gs=>ae gs x=none->ae fs x=none) (fun _=>rfl) (fun {a b as bs} e ih=>by
    obtain ⟨c,_,rfl⟩:=Option.map_eq_some_iff.mp e
    intro e
    replace e:=(Am x a.1 c bs).symm.trans e
    refine (Am x a.1 a.2 as).trans ?_
    by_cases q:a.1=x
    · exact nomatch (if_pos q).symm.trans e
    · exact (if_neg q).trans (ih ((if_neg q).symm.trans e))) h
theorem vT {s:Shared} (S:bp C R st s) {f:AV->Option AV} (hf:∀a b v,f a=some b->VR C s.heap (dm R st) a v->VR C s.heap (dm R c7) b v) {a:Addr} {b:AV} (e:vU f st a=some b):VR C s.heap (dm R c7) b (.ref a):=by
  obtain ⟨⟨c,d⟩,q,e⟩:=Option.bind_eq_some_iff.mp e
  obtain ⟨fs,q2,e⟩:=Option.bind_eq_some_iff.mp e
  obtain ⟨gs,hg,rfl⟩:=Option.map_eq_some_iff.mp e
  have q:=wu q
  have q2:=wx q2
  exact gx (S.obj _ _ q2) fun m h1 h2 h3 _=>⟨a,d,m,rfl,OF S q,OF S q2,S.low _ (B2 q),S.obj _ _ q,h1.ns,
    DW (P:=fun fs gs=>kX C s.heap (dm R st) fs m->kX C s.heap (dm R c7) gs m) (f:=kJ f) id (fun {a b as bs} e ih h=>bq (zP e) fun _ h4 e=>e▸⟨bq h.1 fun x h5 h6=>⟨x,h5,hf _ _ _ h4 h6⟩,ih h.2⟩) hg h2,fun x hx=>h3 x (vA hg x hx)⟩
theorem y3 {s:Shared} (S:bp C R st s) (n:Nat):∀a b v,deep st n a=some b->VR C s.heap (dm R st) a v->VR C s.heap (dm R c7) b v:=by
  induction n with
  | zero=>exact fun _ _ _ e=>cp e
  | succ n ih=>
    intro a b v e h
    cases a with
    | ref a=>
      cases (show v=_ from h)
      have e:(kW (st a)).elim _ _=some b:=e
      cases q:kW (st a) with
      | some vs=>
        rw [q] at e
        exact dR (S.obj _ _ (F0 q)) fun xs hl hx hz=>bq (Option.map_eq_some_iff.mp e) fun ws hw e=>e▸⟨a,xs,rfl,OF S (F0 q),hl,
          DW (P:=fun vs ws=>∀xs,bY C s.heap (dm R st) vs xs->bY C s.heap (dm R c7) ws xs) (fun _=>id) (fun e PA _ h=>bS h fun x xs e1 h1 h2=>⟨x,xs,e1,ih _ _ _ e h1,PA _ h2⟩) hw _ hx,hz⟩
      | none=>
        rw [q] at e
        have e:(o4 (st a)).elim _ _=some b:=e
        cases q2:o4 (st a) with
        | some es=>
          rw [q2] at e
          exact bq (S.obj _ _ (Em q2)) fun xs hl hx=>bq (Option.map_eq_some_iff.mp e) fun ws hw e=>e▸⟨a,xs,rfl,OF S (Em q2),S.low _ (B2 (Em q2)),hl,
            DW (P:=fun vs ws=>∀xs,hS C s.heap (dm R st) vs xs->hS C s.heap (dm R c7) ws xs) (f:=kJ (deep st n)) (fun _=>id) (fun e PA _ h=>bq (zP e) fun _ h4 e=>e▸bS h fun x xs e1 h1 h2=>⟨x,xs,e1,ih _ _ _ h4 h1,PA _ h2⟩) hw _ hx⟩
        | none=>rw [q2] at e;exact vT S ih e
    | _=>exact Option.some.inj e▸h.up IS
theorem Hi {e:PE} (h:E C r e ρ st (fun a ao=>∃n b,deep ao n a=some b∧Q b c7)):E C r (.gF e) ρ st Q:=.mk fun _ _ env t _ he hv hr S L=>
  h.run (show oE env.scope e t=true from he) hv hr S L fun _ s1 _ _ ha S1 x1 _ h1=>IQ h1 fun n b hf q=>⟨b,c7,y3 S1 n _ _ _ hf ha,
    ⟨S1.base,fun _ d=>absurd d y0,fun _ _ (e:none=some _)=>cp e,S1.gens,fun _ _=>rfl,S1.under,S1.above⟩,x1.trans ⟨fun _ _ e _=>e,fun _ _ _ _ d=>y0 d,rfl⟩,q⟩
theorem De (q:∀b,st b=none->Q (.ref b) (st.upd b (.dict []))):E C r (.dict [] []) ρ st Q:=.mk fun _ _ _ _ s _ _ _ S _=>
  wpAny_Dict_empty (FH (n:=s.toks) S (fun _ _ e=>Heap.get?_push_of_some _ e) (by rw [Heap.size_push];exact Nat.le_succ _) (Heap.DictOf.new s.heap) (es:=[]) (kvs:=[]) rfl q)
theorem Fd {s:Shared} (S:bp C R st s):bp C R (st.upd s.heap.objs.size (.dict [])) {s with heap:=s.heap.push {cls:=.type "dict",data:=.dict #[]}}∧Ext st s (st.upd s.heap.objs.size (.dict [])) {s with heap:=s.heap.push {cls:=.type "dict",data:=.dict #[]}}:=by
  have zz:s.heap.objs.size≤(s.heap.push {cls:=.type "dict",data:=.dict #[]}).objs.size:=by rw [Heap.size_push];exact Nat.le_succ _
  exact ⟨S.new (n:=s.toks) D7 zz (Nat.le_refl _) ⟨[],Heap.DictOf.new s.heap,rfl⟩,.new (n:=s.toks) D7 zz (Nat.le_refl _)⟩
theorem qw {s:Shared} {d:Addr} (S:bp C R st s) (e:st d=some (.dict [])):s.heap.DictOf C.IK d []:=bq (S.obj _ _ e) fun kvs h1 h2=>(show kvs=[] from h2)▸h1
theorem G8 {s:Shared} {d:Addr} {h':Heap} {es:List (Int×AV)} {kvs:List (Int×Value)} {n:Nat} (S:bp C R st s) (e:st d=some (.dict [])) (hd:h'.DictOf C.IK d kvs) (sb:Heap.SameBut d s.heap h') (h:hS C s.heap (dm R st) es kvs)
    (q:Q (.ref d) (st.upd d (.dict es))):cS C R st s Q (.ref d) {s with heap:=h',toks:=n}:=
  ⟨.ref d,st.upd d (.dict es),rfl,S.set (o':=.dict es) e sb ⟨kvs,hd,h.up (CH e sb)⟩,Ext.set e sb,q⟩
theorem Jm {hp:Heap} {D:Addr->Prop} {a:AV} {v:Value} {i:Int} (h:VR C hp D a v) (e:a=.int i):C.IK.is i v=true:=by subst e;exact xE h fun t e=>e▸intKind_is _ _ i t
theorem zA {k v:PE} (h:∀d,st d=none->E C r k ρ (st.upd d (.dict [])) (fun a ao=>E C r v ρ ao (fun b bg=>∃i,a=.int i∧bg d=some (.dict [])∧Q (.ref d) (bg.upd d (.dict [(i,b)]))))):E C r (.dict [k] [v]) ρ st Q:=by
  constructor
  intro R A env t s he hv hr S L
  refine xA (Fd S) fun S0 x0=>?_
  refine wpAny_Dict_pairs (knd:=C.IK) (pairs:=[(eval (dE k ((t.a 0).a 0)) env,do let x ←eval (dE v ((t.a 1).a 0)) env;standAt t.d.p;pure x)]) rfl (by simp) (by simp) ?_
  refine wpAny_bind (E.run (h _ (Bi S)) (a1 (a1 he)) hv hr S0 (L.up x0) fun a s1 av ao ha S1 x1 L1 h1=>wpAny_bind (wpAny_holding (wpAny_bind (h1.run (a1 (a2 he)) hv hr S1 L1 fun b s2 bv bg hb S2 x2 L2 h2=>wpAny_bind (wpAny_standAt (wpAny_pure ?_))))))
  exact dR h2 fun i e hd q=>wpAny_bind (wpAny_holding (wpAny_pure (wpAny_pure ⟨[(i,b)],⟨Jm ha e,rfl,trivial⟩,qw S2 hd,fun h' K3 sb=>
    cS.trans ((x0.trans x1).trans x2) (G8 (es:=[(i,bv)]) S2 hd K3 sb ⟨b,[],rfl,hb,rfl⟩ q)⟩)))
theorem yl {i j:Int} {b f:Value} (h:i≠j):PySem.merged [] [(i,b),(j,f)]=[(i,b),(j,f)]:=by simp [PySem.merged,stored,h]
theorem qM {k v l w:PE} (h:∀d,st d=none->E C r k ρ (st.upd d (.dict [])) (fun a ao=>E C r v ρ ao (fun b bg=>E C r l ρ bg (fun c eJ=>E C r w ρ eJ (fun f fA=>∃i j,a=.int i∧c=.int j∧i≠j∧fA d=some (.dict [])∧Q (.ref d) (fA.upd d (.dict [(i,b),(j,f)]))))))) :
    E C r (.dict [k,l] [v,w]) ρ st Q:=by
  constructor
  intro R A env t s he hv hr S L
  refine xA (Fd S) fun S0 x0=>?_
  refine wpAny_Dict_pairs (knd:=C.IK) (pairs:=[(eval (dE k ((t.a 0).a 0)) env,do let x ←eval (dE v ((t.a 1).a 0)) env;standAt t.d.p;pure x),(eval (dE l (((t.a 0).a 1).a 0)) env,do let x ←eval (dE w (((t.a 1).a 1).a 0)) env;standAt t.d.p;pure x)]) rfl (by simp) (by simp) ?_
  have k1:=a1 he
  have v1:=a2 he
  refine wpAny_bind (E.run (h _ (Bi S)) (a1 k1) hv hr S0 (L.up x0) fun a s1 av ao ha S1 x1 L1 h1=>wpAny_bind (wpAny_holding (wpAny_bind (h1.run (a1 v1) hv hr S1 L1 fun b s2 bv bg hb S2 x2 L2 h2=>wpAny_bind (wpAny_standAt (wpAny_pure (wpAny_bind (wpAny_holding ?_))))))))
  have Xy:=(x0.trans x1).trans x2
  clear h1 S1 L1 x1 x2 L S0 x0 h
  refine wpAny_bind (h2.run (a1 (a2 (a2 k1))) hv hr S2 L2 fun c s3 cv eJ hc S3 x3 L3 h3=>wpAny_bind (wpAny_holding (wpAny_bind (h3.run (a1 (a2 (a2 v1))) hv hr S3 L3 fun f s4 fv fA hf S4 x4 L4 h4=>wpAny_bind (wpAny_standAt (wpAny_pure ?_))))))
  exact cm h4 fun i j e1 e2 YL hd q=>wpAny_bind (wpAny_holding (wpAny_pure (wpAny_pure (wpAny_pure ⟨[(i,b),(j,f)],⟨Jm ha e1,rfl,Jm hc e2,rfl,trivial⟩,qw S4 hd,fun h' K3 sb=>
    cS.trans ((Xy.trans x3).trans x4) (G8 (es:=[(i,bv),(j,fv)]) S4 hd (yl YL▸K3) sb ⟨b,_,rfl,(hb.up x3.up).up x4.up,f,[],rfl,hf,rfl⟩ q)⟩))))
noncomputable def ku:Nat->AV->Bool
  | 0,_=>false
  | n+1,a=>match a with
    | .bool _=>true
    | .int _=>true
    | .str _=>true
    | .tup vs=>vs.all (ku n)
    | .lst vs=>vs.all (ku n)
    | _=>false
theorem bY.at {hp:Heap} {D:Addr->Prop} {vs:List AV} {xs:List Value} (h:bY C hp D vs xs) {j:Nat} (hj:j<xs.length):∃a,vs[j]?=some a∧VR C hp D a xs[j]:=by
  have this:vs[j]?=some (vs[j]'(h.length▸hj)):=List.getElem?_eq_getElem _
  exact bq (h.get this) fun v h1 h2=>⟨_,this,Option.some.inj ((List.getElem?_eq_getElem hj).symm.trans h1)▸h2⟩
theorem qF (n:Nat):((List.range n).all fun _=>true)=true:=List.all_eq_true.mpr fun _ _=>rfl
theorem HY {s:Shared} {A:Around} {n:Nat} (ih:∀(A:Around) (a:AV) (v w:Value),ku n a=true->VR C s.heap (dm R st) a v->VR C s.heap (dm R st) a w->A.units+n<cLine->EqAt A s v w true) (hu:A.units+(n+1)<cLine) {vs:List AV} {xs ys:List Value}
    (hp:vs.all (ku n)=true) (hx:bY C s.heap (dm R st) vs xs) (hy:bY C s.heap (dm R st) vs ys):∀j (h1:j<xs.toArray.size) (h2:j<ys.toArray.size),EqAt A.in1 s xs.toArray[j] ys.toArray[j] true:=fun j h1 h2=>
  bq (hx.at (j:=j) h1) fun a e1 r1=>bq (hy.at (j:=j) h2) fun b e2 r2=>
    ih A.in1 a _ _ (List.all_eq_true.mp hp a (List.mem_of_getElem? e1)) r1 (Option.some.inj (e2.symm.trans e1)▸r2) (by show A.units+1+n<_;exact Vl hu)
theorem EM {s:Shared} {A:Around} {n:Nat} (ih:∀(A:Around) (a:AV) (v w:Value),ku n a=true->VR C s.heap (dm R st) a v->VR C s.heap (dm R st) a w->A.units+n<cLine->EqAt A s v w true) (hu:A.units+(n+1)<cLine) {vs:List AV} {xs ys:List Value} {p q:Addr}
    (h:vs.all (ku n)=true) (hp:s.heap.PlainList p xs.toArray) (hq:s.heap.PlainList q ys.toArray) (hx:bY C s.heap (dm R st) vs xs) (hy:bY C s.heap (dm R st) vs ys):RcAt A s (.ref p) (.ref q) true:=by
  have:=RcAt.lists (e:=fun _=>true) hp.isList hq.isList (by rw [List.size_toArray,List.size_toArray,hx.length,hy.length]) (by exact Xi hu) (HY ih hu h hx hy)
  rw [qF] at this;exact this
theorem xN {s:Shared} (n:Nat):∀(A:Around) (a:AV) (v w:Value),ku n a=true->VR C s.heap (dm R st) a v->VR C s.heap (dm R st) a w->A.units+n<cLine->EqAt A s v w true:=by
  induction n with
  | zero=>exact fun _ _ _ _ h=>ff h
  | succ n ih=>
    intro A a v w h hv hw hu
    cases a with
    | bool _=>exact (show v=_ from hv)▸(show w=_ from hw)▸.same _
    | int i=>exact vI hv fun t=>vI hw fun u=>beq_self_eq_true i▸EqAt.int_int (A:=A) (s:=s) i t i u
    | str x=>exact xE hv fun t e=>xE hw fun u e2=>e▸e2▸beq_self_eq_true (ah x)▸EqAt.str_str (A:=A) (s:=s) (ah x) t (ah x) u
    | tup vs=>
      refine cm hv fun p xs e _ _ hp hx=>cm hw fun q ys e2 _ _ hq hy=>e▸e2▸?_
      by_cases MD:p=q
      · exact MD▸.same _
      · have:=RcAt.tuples (e:=fun _=>true) hp hq (by exact Xi hu) (HY ih hu h hx hy)
        have hl:xs.toArray.size=ys.toArray.size:=by rw [List.size_toArray,List.size_toArray,hx.length,hy.length]
        rw [hl,Nat.min_self,qF,beq_self_eq_true] at this
        exact EqAt.of_refs MD this
    | lst vs=>
      refine bP hv fun p xs e _ hp hx=>bP hw fun q ys e2 _ hq hy=>e▸e2▸?_
      by_cases MD:p=q
      · exact MD▸.same _
      · exact EqAt.of_refs MD (EM ih hu h hp hq hx.1 hy.1)
    | _=>exact ff h
theorem Ks {l rr:PE} (h:E C r l ρ st (fun a ao=>E C r rr ρ ao (fun b bg=>(∃vs,a=.lst vs)∧b=a∧(∃n,n≤90∧ku n a=true)∧Q (.bool true) bg))):E C r (.cmp .eq l rr) ρ st Q:=by
  constructor
  intro R A env t s he hv hr S L
  refine wpAny_Compare1 (h.run (a1 he) hv hr S L fun v s1 a ao ha S1 x1 L1 h1=>h1.run (a1 (a2 he)) hv hr S1 L1 fun w s2 b bg hb S2 x2 L2 h2=>?_) (nt (a2 (a2 he)))
  have fin:=fun q=>cS.trans (x1.trans x2) (AL (Q:=Q) (av:=.bool true) S2 rfl q)
  have ha:=ha.up x2.up
  have hu:=hr.units
  clear h1 L1 L2 S1 x1 x2 L S
  obtain ⟨⟨vs,rfl⟩,rfl,⟨n,hn,hp⟩,q⟩:=h2
  cases n with
  | zero=>exact ff hp
  | succ n=>exact bP ha fun p1 xs e1 _ Yy hx=>bP hb fun p2 ys e2 _ Yx hy=>e1▸e2▸EM (xN n) (Q4 hu hn) hp Yy Yx hx.1 hy.1 _ _ _ _ (fin q)
end Mine
end
section
namespace Mine
variable {C:Cx} {R:Addr->Prop} {r:Nat} {ρ:Loc} {st:St} {Q:Fl->Loc->St->Prop}
theorem CJ {A:Around} {env:Env} {s:Shared} {x:Nm} {av:AV} {v:Value} (hv:ck env) (hk:kindB env.scope (ah x) .local=true) (S:bp C R st s) (L:bA C s.heap R st env ρ) (ha:VR C s.heap (dm R st) av v)
    {P:Unit->Shared->Prop} (k:∀s',bp C R st s'->fe env.locals st s st s'->bA C s'.heap R st env (putK ρ x av)->Up s.heap (dm R st) s'.heap (dm R st)->P () s') :
    wpAny C.M A (storeName env (ah x) v) P c9 s:=bq L.ns fun m hn hl=>by
  refine wpAny_storeName_local (beq_iff_eq.mp hk) hn (fun h' Ov sb=>?_) (by rw [hv.kind];rfl)
  have inR:=L.inR
  have keep:∀b,b≠env.locals->∀o,s.heap.get? b=some o->h'.get? b=some o:=fun b hb o e=>(sb.2 b hb).trans e
  have up:Up s.heap (dm R st) h' (dm R st):=fun b o e nb=>⟨keep b (fun q=>nb (.inr (q▸inR))) o e,nb⟩
  refine k _ ⟨fun b o e=>keep b (fun q=>?_) o (S.base b o e),S.low,fun a o e=>(S.obj a o e).up up (keep a fun q=>cp ((S.apart _ inR).symm.trans (q▸e:st env.locals=some o))),S.gens,S.apart,fun b h=>?_,S.above⟩ ⟨fun b o hb e _=>keep b hb o e,fun _ _ _ _ n=>n,rfl⟩
    ⟨inR,L.nd,_,Ov,fun y bv e=>?_⟩ up
  · exact cp ((S.above _ inR).symm.trans (q▸e:C.h₀.get? env.locals=some o))
  · by_cases q:b=env.locals
    · exact q▸fR Ov fun o _ _ e _=>⟨o,e⟩
    · exact (S.under b h).imp fun o e=>keep b q o e
  · clear k S keep sb hv
    replace e:=(Af ρ x y av).symm.trans e
    by_cases q:y=x
    · cases Option.some.inj ((if_pos q).symm.trans e)
      exact ⟨v,ha.up up,.inl ⟨q▸beq_iff_eq.mp hk,if_pos (congrArg ah q)⟩⟩
    · exact bq (hl y bv ((if_neg q).symm.trans e)) fun u h1 h2=>⟨u,h1.up up,h2.imp (fun h=>⟨h.1,(if_neg (fun z=>q (D8 z))).trans h.2⟩) fun h=>⟨h.1,dR h.2 fun c h4 h5 h=>bq h fun o h6 h7=>⟨c,h4,h5,o,(up c o h6 h5).1,h7⟩⟩⟩
theorem X1.run {c:PS} {A env s} {t:Tr} {Q':Fl->Loc->St->Prop} (h:X1 C r c ρ st Q') (he:oS env.scope c t=true) (hv:ck env) (hr:d9 A r) (S:bp C R st s) (L:bA C s.heap R st env ρ) {P:Flow->Shared->Prop}
    (k:∀f s' fl ρ' ag,OP C s'.heap (dm R ag) fl f->bp C R ag s'->fe env.locals st s ag s'->bA C s'.heap R ag env ρ'->Q' fl ρ' ag->P f s'):wpAny C.M A (exec (dS c t) env) P c9 s:=
  wpAny_mono (h.d R A env t s he hv hr S L) (fun f s' h=>eX h fun fl ρ' ag a b c d e=>k f s' fl ρ' ag a b c d e) fun _ _ x=>x
theorem X.run {c:List PS} {A env s} {t:Tr} {Q':Fl->Loc->St->Prop} (h:X C r c ρ st Q') (he:rg env.scope c t=true) (hv:ck env) (hr:d9 A r) (S:bp C R st s) (L:bA C s.heap R st env ρ) {P:Flow->Shared->Prop}
    (k:∀f s' fl ρ' ag,OP C s'.heap (dm R ag) fl f->bp C R ag s'->fe env.locals st s ag s'->bA C s'.heap R ag env ρ'->Q' fl ρ' ag->P f s'):wpAny C.M A (execs (pN c t) env) P c9 s:=
  wpAny_mono (h.d R A env t s he hv hr S L) (fun f s' h=>eX h fun fl ρ' ag a b c d e=>k f s' fl ρ' ag a b c d e) fun _ _ x=>x
theorem Df {env:Env} {s s':Shared} {ag:St} {ρ':Loc} {f:Flow} {fl:Fl} (hf:OP C s'.heap (dm R ag) fl f) (S:bp C R ag s') (x:fe env.locals st s ag s') (L:bA C s'.heap R ag env ρ') (q:Q fl ρ' ag):jg C R env st s Q f s':=⟨fl,ρ',ag,hf,S,x,L,q⟩
theorem CG {env:Env} {s s':Shared} {ag:St} {ρ':Loc} (S:bp C R ag s') (x:fe env.locals st s ag s') (L:bA C s'.heap R ag env ρ') (q:Q .next ρ' ag):jg C R env st s Q .next s':=⟨.next,ρ',ag,rfl,S,x,L,q⟩
theorem X.of {c:List PS} {A env s s1} {t:Tr} {ao:St} {ρ1:Loc} (h:X C r c ρ1 ao Q) (he:rg env.scope c t=true) (hv:ck env) (hr:d9 A r) (S:bp C R ao s1) (L:bA C s1.heap R ao env ρ1) (x:fe env.locals st s ao s1):wpAny C.M A (execs (pN c t) env) (jg C R env st s Q) c9 s1:=
  h.run he hv hr S L fun _ _ _ _ _ a b c d e=>Df a b (x.trans c) d e
theorem Ac (q:Q .next ρ st):X C r [] ρ st Q:=.mk fun _ _ _ _ _ _ _ _ S L=>wpAny_execs_nil (CG S (Ext.refl ..).l L q)
abbrev Lq (C:Cx) (r:Nat) (cs:List PS) (Q:Fl->Loc->St->Prop):Fl->Loc->St->Prop:=fun fl ρ1 ao=>match fl with | .next=>X C r cs ρ1 ao Q | .ret v=>Q (.ret v) ρ1 ao
theorem Xc {c:PS} {cs:List PS} (h:X1 C r c ρ st (Lq C r cs Q)):X C r (c::cs) ρ st Q:=.mk fun _ _ _ _ _ he hv hr S L=>
  wpAny_execs_cons (h.run (a1 he) hv hr S L fun f s1 fl ρ1 ao hf S1 x1 L1 q=>match fl with
    | .next=>(show f=_ from hf)▸X.of q (a2 he) hv hr S1 L1 x1
    | .ret v=>bq hf fun u e hu=>e▸Df (fl:=.ret v) ⟨u,rfl,hu⟩ S1 x1 L1 q)
theorem X.mono {c:List PS} {Q':Fl->Loc->St->Prop} (h:X C r c ρ st Q') (hq:∀a b d,Q' a b d->Q a b d):X C r c ρ st Q:=
  .mk fun _ _ _ _ _ he hv hr S L=>X.run h he hv hr S L fun _ _ _ _ _ a b c d e=>Df a b c d (hq _ _ _ e)
theorem Bu {value:Expr} {t:Option Expr} {l:Nat} {env:Env} (h:iM value=true):swapsWith value t l env=pure false:=by
  cases value with
  | ListComp | SetComp | DictComp=>exact ff h
  | _=>exact Eq.refl (pure false)
abbrev Ph (x:Nm) (ρ:Loc) (Q:Fl->Loc->St->Prop):AV->St->Prop:=fun v ao=>Q .next (putK ρ x v) ao
abbrev Pd (ρ:Loc) (Q:Fl->Loc->St->Prop):AV->St->Prop:=fun v ao=>Q (.ret v) ρ ao
abbrev LZ (ρ:Loc) (Q:Fl->Loc->St->Prop):AV->St->Prop:=fun v ao=>v=.none∧Q .next ρ ao
abbrev XT (C:Cx) (r:Nat) (t f:List PS) (ρ:Loc) (Q:Fl->Loc->St->Prop):Bool->St->Prop:=fun b ao=>if b then X C r t ρ ao Q else X C r f ρ ao Q
theorem Au {x:Nm} {e:PE} (h:E C r e ρ st (Ph x ρ Q)):X1 C r (.asg x e) ρ st Q:=.mk fun _ _ _ _ _ he hv hr S L=>
  wpAny_Assign_Name (h.run (a1 (a2 he)) hv hr S L fun _ _ _ _ ha S1 x1 L1 q=>CJ hv (a1 he) S1 L1 ha fun _ S2 x2 L2 _=>CG S2 (x1.l.trans x2) L2 q) (Bu (a2 (a2 he)))
theorem Aq {e:PE} (h:E C r e ρ st (Pd ρ Q)):X1 C r (.ret e) ρ st Q:=.mk fun _ _ _ _ _ he hv hr S L=>
  wpAny_Return_some (h.run he hv hr S L fun v _ a _ ha S1 x1 L1 q=>Df (fl:=.ret a) ⟨v,rfl,ha⟩ S1 x1.l L1 q)
theorem HJ (q:Q (.ret .none) ρ st):X1 C r .qV ρ st Q:=.mk fun _ _ _ _ _ _ _ _ S L=>wpAny_Return_none (Df (fl:=.ret .none) ⟨.none,rfl,rfl⟩ S (Ext.refl ..).l L q)
theorem E5 {env:Env} (hv:ck env):interactive env=false:=by unfold interactive;rw [hv.kind];rfl
theorem Ap {e:PE} (h:E C r e ρ st (LZ ρ Q)):X1 C r (.expr e) ρ st Q:=.mk fun _ _ _ _ _ he hv hr S L=>
  wpAny_Expr (h.run (a1 he) hv hr S L fun v _ a _ ha S1 x1 L1 q=>by obtain ⟨rfl,q⟩:=q;cases (show v=_ from ha);exact CG S1 x1.l L1 q) (E5 hv) (Bu (a2 he))
theorem Ao {c:PE} {t f:List PS} (h:T C r c ρ st (XT C r t f ρ Q)):X1 C r (.bt c t f) ρ st Q:=.mk fun _ _ _ _ _ he hv hr S L=>
  wpAny_If (h.run (a1 he) hv hr S L fun b _ _ S1 x1 L1 q=>match b with
    | true=>X.of q (a1 (a2 he)) hv hr S1 L1 x1.l
    | false=>X.of q (a2 (a2 he)) hv hr S1 L1 x1.l)
section
variable {hp:Heap} {D:Addr->Prop} {m:Str->Option Value} {n:Nm} {a:AV} {v:Value}
noncomputable abbrev uF (m:Str->Option Value) (n:Nm) (v:Value):Str->Option Value:=fun x=>if x=ah n then some v else m x
theorem Gc {y:Nm} {o:Option Value} (h:y≠n) (e:m (ah y)=o):uF m n v (ah y)=o:=(if_neg (fun z=>h (D8 z))).trans e
theorem kX.other {gs:List (Nm×AV)}:kX C hp D gs m->(∀kv∈gs,kv.1≠n)->kX C hp D gs (uF m n v):=by
  induction gs with
  | nil=>exact fun h _=>h
  | cons g gs ih=>exact fun h1 h2=>⟨bq h1.1 fun u h3 h4=>⟨u,Gc (h2 _ (.head _)) h3,h4⟩,ih h1.2 fun kv hm=>h2 kv (.tail _ hm)⟩
theorem kX.mapped (hv:VR C hp D a v) {gs:List (Nm×AV)}:kX C hp D gs m->kX C hp D (gs.map fun kv=>if kv.1=n then (kv.1,a) else kv) (uF m n v):=by
  induction gs with
  | nil=>exact id
  | cons g gs ih=>
    intro h1
    rw [List.map_cons]
    by_cases q:g.1=n
    · rw [if_pos q];exact ⟨⟨v,if_pos (congrArg ah q),hv⟩,ih h1.2⟩
    · rw [if_neg q];exact ⟨bq h1.1 fun u h3 h4=>⟨u,Gc q h3,h4⟩,ih h1.2⟩
theorem kX.snoc (hv:VR C hp D a v) (h:m (ah n)=some v) {gs:List (Nm×AV)}:kX C hp D gs m->kX C hp D (gs++[(n,a)]) m:=by
  induction gs with
  | nil=>exact fun _=>⟨⟨v,h,hv⟩,trivial⟩
  | cons g gs ih=>exact fun h1=>⟨h1.1,ih h1.2⟩
theorem kX.put {fs:List (Nm×AV)} (h:kX C hp D fs m) (hv:VR C hp D a v):kX C hp D (putK fs n a) (uF m n v):=by
  unfold putK
  by_cases hn:(fs.any fun kv=>kv.1=n)=true
  · rw [if_pos hn];exact h.mapped hv
  · rw [if_neg hn];exact (h.other fun kv hm q=>hn (List.any_eq_true.mpr ⟨kv,hm,decide_eq_true q⟩)).snoc hv (if_pos rfl)
theorem Hl {fs:List (Nm×AV)} (h:Within m (fs.map fun kv=>ah kv.1)):Within (uF m n v) ((putK fs n a).map fun kv=>ah kv.1):=by
  intro y hy
  have MF:=List.mem_cons.mp (Within.cons (ah n) v h y hy)
  unfold putK
  by_cases hn:(fs.any fun kv=>kv.1=n)=true
  · rw [if_pos hn,List.map_map,show ((fun kv:Nm×AV=>ah kv.1)∘fun kv=>if kv.1=n then (kv.1,a) else kv)=fun kv=>ah kv.1 from funext fun kv=>by
      show ah (if kv.1=n then (kv.1,a) else kv).1=_
      by_cases q:kv.1=n
      · rw [if_pos q]
      · rw [if_neg q]]
    exact MF.elim (fun e=>bq (List.any_eq_true.mp hn) fun kv hm q=>List.mem_map.mpr ⟨kv,hm,(congrArg ah (of_decide_eq_true q)).trans e.symm⟩) id
  · rw [if_neg hn,List.map_append]
    exact MF.elim (fun e=>List.mem_append.mpr (.inr (e▸.head _))) fun hm=>List.mem_append.mpr (.inl hm)
end
theorem IZ {A:Around} {s:Shared} {p d:Addr} {c n:Nm} {fs:List (Nm×AV)} {av:AV} {v:Value} (S:bp C R st s) (e1:st p=some (.inst c d)) (e2:st d=some (.aD fs)) (hn:n∈iq c) (hz:fs.length≤1000) (hv:VR C s.heap (dm R st) av v)
    {P:Unit->Shared->Prop} (k:∀h' tk,Heap.SameBut d s.heap h'->mi C h' (dm R st) d (.aD (putK fs n av))->P () {s with heap:=h',toks:=tk}):wpAny C.M A (setAttr (.ref p) (ah n) v) P c9 s:=by
  have hp:=S.obj _ _ e1
  refine gx (S.obj _ _ e2) fun m ns hf YD hw=>bq (FK ns.ns) fun od ho _=>?_
  have I:InstAt s.heap p (instObj (C.cls c) d) (C.cls c) (some od):=⟨hp,rfl,rfl,ho⟩
  have hc:=(C.oC c (DX hn)).2
  refine set_plain S.X I (eq_of_beq (al hc 4 rfl)) (osa_open (s:={s with toks:=s.toks+1}) S.X I (al hc 5 rfl) (C.zL c n hn) fun b=>?_)
  refine bq (any_some (al hc 3 rfl)) fun cd K4 K3=>?_
  have hx:({s with toks:=s.toks+1}:Shared).heap.get? p=some {cls:=.ref (C.cls c),dict:=some d}:=hp
  refine wpAny_bind (wpAny_pure (wpAny_bind (wpAny_bind (wpAny_loadPart hx (wpAny_bind ((looks_clsIn (S.toks (n:=s.toks+1)).X K4).here ?_))))))
  rw [K3]
  refine wpAny_pure (a:=some d) (wpAny_bind (wpAny_pure (wpAny_bind (wpAny_nsSet1 (s:={s with toks:=s.toks+1}) ns fun h' VO sb=>?_))))
  clear hx K3 K4 I ho hp e1
  refine o7 (VO.count (Within.cons (ah n) v hw)) fun oD ZY ZZ YC YS YU=>?_
  refine wpAny_bind (wpAny_lookBehind YC (by rw [YS];exact pastItsLine_dict (Nat.le_trans YU (by rw [List.length_cons,List.length_map,sizeLine_eq];exact Vk hz))) (wpAny_pure ?_))
  have up:=CH (R:=R) e2 sb
  refine k h' _ sb ⟨_,VO,(hf.up up).put (hv.up up),fun x hx=>?_,Hl hw⟩
  replace hx:=(Af fs n x av).symm.trans hx
  by_cases q:x=n
  · exact nomatch (if_pos q).symm.trans hx
  · exact Gc q (YD x ((if_neg q).symm.trans hx))
inductive tY (n:Nm) (ρ:Loc) (v:AV) (Q:Fl->Loc->St->Prop) (a:AV) (bg:St):Prop
  | mk:∀p c d fs,(a=.ref p)->(bg p=some (.inst c d))->(bg d=some (.aD fs))->(n∈iq c)->(fs.length≤1000)->(Q .next ρ (bg.upd d (.aD (putK fs n v))))->tY n ρ v Q a bg
abbrev LL (C:Cx) (r:Nat) (o:PE) (n:Nm) (ρ:Loc) (Q:Fl->Loc->St->Prop):AV->St->Prop:=fun v ao=>E C r o ρ ao (tY n ρ v Q)
theorem BQ {o e:PE} {n:Nm} (h:E C r e ρ st (LL C r o n ρ Q)):X1 C r (.aP o n e) ρ st Q:=.mk fun _ _ _ _ _ he hv hr S L=>
  plainObj_wpAny_Assign_Attribute (h.run (a1 (a2 he)) hv hr S L fun _ _ av _ ha S1 x1 L1 h1=>h1.run (a1 (a1 he)) hv hr S1 L1 fun w s2 bv bg hb S2 x2 L2 ⟨p,c,d,fs,e,g1,g2,g3,g4,q⟩=>by
    subst e;cases hb
    exact IZ S2 g1 g2 g3 g4 (ha.up x2.up) fun h' tk sb ob=>CG (S2.set g2 sb ob) ((x1.trans x2).trans (.set (n:=tk) g2 sb)).l (L2.up (.set (n:=tk) g2 sb)) q) (Bu (a2 (a2 he)))
theorem set_list {prog:Program} {w:World} {A:Around} {E:Value->Shared->Prop} {s:Shared} {l:Addr} {items:Array Value} {k:Int} {t:Tok} {v:Value} {P:Unit->Shared->Prop} (hl:s.heap.PlainList l items)
    (h0:0≤k) (MR:k<2 ^ 63) (hn:k<items.size)
    (hQ:∀h',h'.PlainList l (items.setIfInBounds k.toNat v)->Heap.SameBut l s.heap h'->P () {s with heap:=h'}) :
    wpAny (model prog w) A (setItem (.ref l) (.int k t) v) P E s:=by
  refine xE (id hl) fun nn ho=>?_
  unfold setItem
  refine wpAny_holding ?_
  refine wpAny_bind (wpAny_sequenceKey hl.isList.typeIs (by decide) ?_)
  refine wpAny_bind (wpAny_callSpecial?_slot (name:=Str.ofString "__setitem__") hl.isList.typeIs slot_list_setitem
    (wpAny_call_entry slot_list_setitem hl.isList.typeIs entry_list_setitem ?_ (args_list_setitem _ _ _)))
  show wpAny _ _ (Builtin.List.listSubscript? (.int k t) >>= _) _ _ s
  refine wpAny_bind (wpAny_listSubscript_int (fitsIndex_of h0 MR) ?_)
  clear MR
  refine xE (Int.eq_ofNat_of_zero_le h0) fun j mE=>?_;subst mE
  have hj:j<items.size:=by exact Vj hn
  have PH:items[j]?=some items[j]:=Array.getElem?_eq_getElem hj
  show wpAny _ _ ((seqItemAt l j >>= fun r=>pure (r.map (j,·))) >>= _) _ _ s
  refine wpAny_bind (wpAny_bind (wpAny_seqItemAt ho rfl (wpAny_pure ?_)))
  rw [PH]
  show wpAny _ _ (setSeqItemAt l j v >>= _) _ _ s
  have:=PySem.IsL.update ho (fun xs=>xs.setIfInBounds j v)
  refine wpAny_bind (wpAny_setSeqItemAt ho rfl ?_)
  exact wpAny_pure ⟨.none,rfl,wpAny_pure (hQ _ ⟨_,this⟩ (Heap.SameBut.update ..))⟩
theorem bY.set {hp:Heap} {D:Addr->Prop} {a:AV} {v:Value} (hv:VR C hp D a v) {vs:List AV} {xs:List Value} (j:Nat) (h:bY C hp D vs xs):bY C hp D (vs.set j a) (xs.set j v):=
  bY.ind (P:=fun vs xs=>∀j,bY C hp D (vs.set j a) (xs.set j v)) (fun _=>rfl) (fun p q ih j=>match j with
    | 0=>⟨v,_,rfl,hv,q⟩
    | j+1=>⟨_,_,rfl,p,ih j⟩) h j
inductive setOk (st:St) (p:Addr):AV->AV->St->Prop
  | list {vs} {k:Int} {v}:st p=some (.list vs)->0≤k->k<vs.length->vs.length≤1000000->setOk st p (.int k) v (st.upd p (.list (vs.set k.toNat v)))
  | dict {es} {k:Int} {v}:st p=some (.dict es)->es.length≤1000000->setOk st p (.int k) v (st.upd p (.dict (putK es k v)))
theorem setOk.d {p:Addr} {es:List (Int×AV)} {k:Int} {v:AV} {fA:St} (h:st p=some (.dict es)) (hz:es.length≤1000000) (e:fA=st.upd p (.dict (putK es k v))):setOk st p (.int k) v fA:=e▸.dict h hz
theorem setOk.l {p:Addr} {vs:List AV} {k:Int} {v:AV} {fA:St} (h:st p=some (.list vs)) (h0:0≤k) (h1:k<vs.length) (hz:vs.length≤1000000) (e:fA=st.upd p (.list (vs.set k.toNat v))):setOk st p (.int k) v fA:=e▸.list h h0 h1 hz
inductive tX (ρ:Loc) (v a:AV) (Q:Fl->Loc->St->Prop) (b:AV) (eJ:St):Prop
  | mk:∀p fA,(a=.ref p)->(setOk eJ p b v fA)->(Q .next ρ fA)->tX ρ v a Q b eJ
abbrev I7 (C:Cx) (r:Nat) (i:PE) (ρ:Loc) (v:AV) (Q:Fl->Loc->St->Prop):AV->St->Prop:=fun a bg=>E C r i ρ bg (tX ρ v a Q)
abbrev LK (C:Cx) (r:Nat) (o i:PE) (ρ:Loc) (Q:Fl->Loc->St->Prop):AV->St->Prop:=fun v ao=>E C r o ρ ao (I7 C r i ρ v Q)
theorem xJ {A:Around} {s:Shared} {p:Addr} {i av:AV} {u v:Value} {fA:St} (S:bp C R st s) (h:setOk st p i av fA) (hi:VR C s.heap (dm R st) i u) (ha:VR C s.heap (dm R st) av v) {P:Unit->Shared->Prop}
    (k:∀h' n,bp C R fA {s with heap:=h',toks:=n}->Ext st s fA {s with heap:=h',toks:=n}->P () {s with heap:=h',toks:=n}):wpAny C.M A (setItem (.ref p) u v) P c9 s:=by
  cases h with
  | list g h0 h1 h2=>exact xE hi fun t e=>e▸dR (S.obj _ _ g) fun xs hp hx hz=>set_list hp h0 (Int.lt_of_lt_of_le h1 (Int.le_trans (Int.ofNat_le.mpr h2) (by decide))) (by rw [List.size_toArray,hx.length];exact h1) fun h' ft sb=>k h' s.toks (S.set (o':=.list _) g sb ⟨xs.set _ v,by rw [←List.setIfInBounds_toArray];exact ft,(hx.up (CH g sb)).set (ha.up (CH g sb)) _,by rw [List.length_set];exact hz⟩) (.set g sb)
  | dict g h2=>exact xE hi fun t e=>e▸bq (S.obj _ _ g) fun kvs hp hx=>wpAny_setItem_pairs (intKind_is _ _ _ t) hp (fun h' ft sb=>k h' _ (S.set (o':=.dict _) g sb ⟨_,ft,(hx.up (CH g sb)).put (ha.up (CH g sb))⟩) (.set g sb)) (by rw [hx.length,CL];exact Zl h2 rfl)
theorem Br {o i e:PE} (h:E C r e ρ st (LK C r o i ρ Q)):X1 C r (.iy o i e) ρ st Q:=.mk fun _ _ _ _ _ he hv hr S L=>
  wpAny_Assign_Subscript (h.run (a1 (a2 he)) hv hr S L fun _ _ _ _ ha S1 x1 L1 h1=>h1.run (a1 (a1 he)) hv hr S1 L1 fun w _ bv _ hb S2 x2 L2 h2=>h2.run (a1 (a2 (a1 he))) hv hr S2 L2 fun _ _ _ _ hc S3 x3 L3 ⟨p,fA,e,hs,q⟩=>
    (by subst e;cases hb;exact xJ S3 hs hc ((ha.up x2.up).up x3.up) fun _ _ S4 x4=>CG S4 (((x1.trans x2).trans x3).trans x4).l (L3.up x4) q)) (Bu (a2 (a2 he)))
end Mine
end
section
namespace Mine
variable {C:Cx} {R:Addr->Prop} {r:Nat} {ρ:Loc} {st:St} {Q:Fl->Loc->St->Prop}
noncomputable def gv (R:Addr->Prop) (wr:List Addr):Addr->Prop:=fun b=>R b∨b∈wr
theorem HS {wr:List Addr} {h h':Heap} (k:∀b o,b∉wr->h.get? b=some o->h'.get? b=some o):Up h (dm (gv R wr) st) h' (dm (gv R wr) st):=fun b o e n=>⟨k b o (fun hm=>n (.inr (.inr hm))) e,n⟩
theorem bp.VI {s:Shared} {h':Heap} {n:Nat} {wr:List Addr} (S:bp C R st s) (k:∀b o,s.heap.get? b=some o->h'.get? b=some o) (hw:∀b∈wr,s.heap.objs.size≤b) (qq:∀b∈wr,∃o,h'.get? b=some o) :
    bp C (gv R wr) st {s with heap:=h',toks:=n}∧Up s.heap (dm R st) h' (dm (gv R wr) st):=by
  have up:Up s.heap (dm R st) h' (dm (gv R wr) st):=fun b o e nb=>⟨k b o e,fun d=>d.elim (fun d=>nb (.inl d)) fun d=>d.elim (fun d=>nb (.inr d)) fun d=>bR (hw b d) e⟩
  exact ⟨⟨fun b o e=>k b o (S.base b o e),S.low,fun a o e=>(S.obj a o e).up up (k a),S.gens,fun b h=>h.elim (S.apart b) fun h=>by
    cases e:st b with
    | none=>rfl
    | some o=>exact (AW S (Ek (R:=R) e) (hw b h)).elim,fun b h=>h.elim (fun h=>(S.under b h).imp fun o e=>k b o e) (qq b),fun b h=>h.elim (S.above b) fun h=>(GC S.base (hw b h)).1⟩,up⟩
theorem bp.moved {s:Shared} {h':Heap} {n:Nat} {wr:List Addr} (S:bp C (gv R wr) st s) (k:∀b o,b∉wr->s.heap.get? b=some o->h'.get? b=some o) (qq:∀b∈wr,∃o,h'.get? b=some o) :
    bp C (gv R wr) st {s with heap:=h',toks:=n}:=
  ⟨fun b o e=>k b o (fun hm=>cp ((S.above b (.inr hm)).symm.trans e)) (S.base b o e),S.low,fun a o e=>(S.obj a o e).up (HS k) fun o e'=>k a o (fun hm=>cp ((S.apart a (.inr hm)).symm.trans e)) e',S.gens,S.apart,fun b h=>by
    by_cases hm:b∈wr
    · exact qq b hm
    · exact (S.under b h).imp fun o e=>k b o hm e,S.above⟩
theorem bp.left {s:Shared} {h':Heap} {n:Nat} {wr:List Addr} (S:bp C (gv R wr) st s) (k:∀b o,b∉wr->s.heap.get? b=some o->h'.get? b=some o) (hR:∀b∈wr,¬R b) :
    bp C R st {s with heap:=h',toks:=n}:=
  ⟨fun b o e=>k b o (fun hm=>cp ((S.above b (.inr hm)).symm.trans e)) (S.base b o e),S.low,fun a o e=>(S.obj a o e).up (fun b o e n=>⟨k b o (fun hm=>n (.inr (.inr hm))) e,fun d=>n (d.imp id .inl)⟩) fun o e'=>k a o (fun hm=>cp ((S.apart a (.inr hm)).symm.trans e)) e',S.gens,
    fun b h=>S.apart b (.inl h),fun b h=>(S.under b (.inl h)).imp fun o e=>k b o (fun hm=>hR b hm h) e,fun b h=>S.above b (.inl h)⟩
theorem bA.over {h h':Heap} {R':Addr->Prop} {ag:St} {env:Env} (L:bA C h R st env ρ) (hR:R' env.locals) (hn:¬mr ag env.locals) (hl:∀o,h.get? env.locals=some o->h'.get? env.locals=some o) (u:Up h (dm R st) h' (dm R' ag)):bA C h' R' ag env ρ:=
  ⟨hR,hn,bq L.ns fun m hm qm=>⟨m,hm.at' hl,fun x av e=>bq (qm x av e) fun v a b=>⟨v,a.up u,b.imp id fun q=>⟨q.1,dR q.2 fun c l n h=>bq h fun o z h=>⟨c,l,(u c o z n).2,o,(u c o z n).1,h⟩⟩⟩⟩⟩
theorem fe.moved {L:Addr} {c7:St} {s0 s:Shared} {h':Heap} {n:Nat} {wr:List Addr} (x:fe L c7 s0 st s) (hw:∀b∈wr,s0.heap.objs.size≤b) (k:∀b o,b∉wr->s.heap.get? b=some o->h'.get? b=some o) :
    fe L c7 s0 st {s with heap:=h',toks:=n}:=
  ⟨fun b o hb e nd=>k b o (fun hm=>bR (hw b hm) e) (x.keep b o hb e nd),x.dm,x.os⟩
inductive OO (C:Cx) (R:Addr->Prop) (A:Around) (ao:St) (s1:Shared) (I:Addr) (n:Nat) (av:Nat->AV) (h1:Heap):Prop
  | mk {fp wr:List Addr} {P:Nat->Value->Prop} {nF:Nat->Heap->Prop} (G:Heap->(Addr->Prop)->Prop):Walks C.prog C.w A I fp wr n P nF->(∀b o,s1.heap.get? b=some o->h1.get? b=some o)->s1.heap.objs.size≤h1.objs.size->(∀b∈wr,s1.heap.objs.size≤b) →
      (∀i h,nF i h->∀b∈wr,∃o,h.get? b=some o)->(∀b∈fp,b∈wr∨((∃o,s1.heap.get? b=some o)∧¬dm R ao b))->nF 0 h1->(∀h D h' D',Up h D h' D'->G h D->G h' D')->G s1.heap (dm R ao) →
      (∀i v h D,G h D->P i v->i<n->VR C h D (av i) v)->OO C R A ao s1 I n av h1
inductive LI (C:Cx) (R:Addr->Prop) (env:Env) (wr:List Addr) (c7:St) (s0:Shared) (n:Nat) (nF:Nat->Heap->Prop) (G:Heap->(Addr->Prop)->Prop) (Inv:Nat->Loc->St->Prop) (m:Nat) (s:Shared):Prop
  | mk {i st ρ}:m=n-i->i≤n->bp C (gv R wr) st s->bA C s.heap (gv R wr) st env ρ->fe env.locals c7 s0 st s->nF i s.heap->G s.heap (dm (gv R wr) st)->Inv i ρ st->LI C R env wr c7 s0 n nF G Inv m s
noncomputable def I9 (P:Flow->Shared->Prop) (E:Value->Shared->Prop) (r:Except Value Flow) (s':Shared):Prop:=match r with | .ok f=>P f s' | .error e=>E e s'
theorem I9.imp {P P':Flow->Shared->Prop} {E:Value->Shared->Prop} (h:∀f s,P f s->P' f s) {r:Except Value Flow} {s':Shared} (q:I9 P E r s'):I9 P' E r s':=by
  cases r with
  | ok f=>exact h f s' q
  | error e=>exact q
theorem yn {env:Env} {A:Around} {b:List PS} {t:Tr} {x:Nm} {px:Pos} {s0:Shared} {c7:St} {ρ0:Loc} {I:Addr} {n:Nat} {h1:Heap} {t1:Nat} {av:Nat->AV}
    (W:OO C R A c7 s0 I n av h1) (hv:ck env) (hr:d9 A r) (hk:kindB env.scope (ah x) .local=true) (hb:rg env.scope b t=true) (S0:bp C R c7 s0) (L0:bA C s0.heap R c7 env ρ0)
    (Inv:Nat->Loc->St->Prop) (i0:Inv 0 ρ0 c7)
    (step:∀i ρ st,i<n->Inv i ρ st->X C r b (putK ρ x (av i)) st (fun fl ρ' ag=>match fl with | .next=>Inv (i+1) ρ' ag | .ret v=>Q (.ret v) ρ' ag))
    (fin:∀ρ st,Inv n ρ st->Q .next ρ st) {E:Value->Shared->Prop} :
    codeAny C.M A (.forLoop (.Name (ah x) px) (.ref I) (pN b t) [] env) (I9 (jg C R env c7 s0 Q) E) {s0 with heap:=h1,toks:=t1}:=by
  obtain ⟨G,W,k1,z1,hw,qq,Jz,g1,hG,g0,vc⟩:=W
  rename_i fp wr P nF
  have hR:∀b∈wr,¬R b:=fun b hm h=>xE (S0.under b h) fun o e=>bR (hw b hm) e
  have pK:env.locals∉wr:=fun hm=>hR _ hm L0.inR
  refine codeAny_forLoop (LI C R env wr c7 s0 n nF G Inv) ?_ n ?_
  · intro m s ⟨em,hi,S,L,x0,g,gg,hI⟩
    subst em
    rename_i i st ρ
    by_cases mT:i<n
    · refine W.item i s _ _ mT g fun v h' tk hP g' k=>?_
      have up:=HS (R:=R) (st:=st) k
      have S':bp C (gv R wr) st {s with heap:=h',toks:=tk}:=S.moved k (qq _ _ g')
      have x':fe env.locals c7 s0 st {s with heap:=h',toks:=tk}:=x0.moved hw k
      have M8:=hG _ _ _ _ up gg
      refine wpAny_assign_Name (wpAny_mono (E:=c9) (CJ hv hk S' (L.over L.inR L.nd (fun o e=>k _ o pK e) up) (vc i v _ _ M8 hP mT) fun s2 S2 x2 L2 u2=>?_) (fun _ _ z=>z) fun _ _ z=>z.elim)
      clear S L x0 g gg up hP k
      refine wpAny_mono (E:=c9) (X.run (step i ρ st mT hI) hb hv hr S2 L2 fun f s3 fl ρ3 eJ hf S3 x3 L3 q=>?_) (fun _ _ z=>z) fun _ _ z=>z.elim
      have Vx:=(x'.trans x2).trans x3
      cases fl with
      | next=>
        cases hf
        refine ⟨n-(i+1),by exact Xh mT,.mk rfl mT S3 L3 Vx (W.frame _ _ _ g' fun b hm o e=>?_) (hG _ _ _ _ (x3.up L2.inR) (hG _ _ _ _ u2 M8)) q⟩
        have K5:b≠env.locals:=fun q=>(Jz b hm).elim (fun h=>pK (q▸h)) fun h=>h.2 (.inr (q▸L0.inR))
        have Ij:¬mr st b:=(Jz b hm).elim (fun h d=>d (S'.apart b (.inr h))) fun h=>xE h.1 fun ob h2=>x'.dm b ob K5 h2 fun d=>h.2 (.inl d)
        exact x3.keep b o K5 (x2.keep b o K5 e Ij) Ij
      | ret rv=>exact bq hf fun u e hu=>e▸Df (fl:=.ret rv) ⟨u,rfl,hu.up (D2 fun _=>.inl)⟩ (S3.I6 fun _=>.inl) Vx (L3.over L0.inR L3.nd (fun _ e=>e) (D2 fun _=>.inl)) q
    · have en:i=n:=by exact Xg hi mT
      subst en
      exact W.done s _ _ g fun h' tk k=>wpAny_execs_nil (CG (S.left k hR) (x0.moved hw k) (L.over L0.inR L.nd (fun o e=>k _ o pK e) fun b o e nd=>⟨k b o (fun hm=>nd (.inr (.inr hm))) e,fun d=>nd (d.imp id .inl)⟩) (fin ρ st hI))
  · exact xA (S0.VI (n:=t1) k1 hw (qq _ _ g1)) fun S1 up=>.mk rfl (Nat.zero_le _) S1 (L0.over (.inl L0.inR) L0.nd (fun o e=>k1 _ o e) up) ⟨fun b o _ e _=>k1 b o e,fun _ _ _ _ n=>n,rfl⟩ g1 (hG _ _ _ _ up g0) i0
end Mine
end
section
namespace Mine
variable {C:Cx} {R:Addr->Prop} {r:Nat} {ρ:Loc} {st:St} {Q:Fl->Loc->St->Prop}
theorem BD {e:Expr} {env:Env} {x:Value} (h:pF e=true):foldedSetIterable e env x=pure x:=by
  cases e with
  | Set _ _ _=>exact ff h
  | _=>exact Eq.refl (pure x)
abbrev Jc (P:Loc->St->Prop) (Q:Fl->Loc->St->Prop):Fl->Loc->St->Prop:=fun fl ρ'' dG=>match fl with | .next=>P ρ'' dG | .ret v=>Q (.ret v) ρ'' dG
theorem FY {A:Around} {env:Env} {s:Shared} {t:Tr} {f:Nm} {as:List PE} {v:Value} {Q':List AV->St->Prop} (hf:wq f=some v) (h:Es C r as ρ st Q') (he:oE env.scope (.call f as) t=true) (hv:ck env) (hr:d9 A r) (S:bp C R st s)
    (L:bA C s.heap R st env ρ) {P:Value->Shared->Prop}
    (k:∀vs s1 avs ao,bY C s1.heap (dm R ao) avs vs->bp C R ao s1->Ext st s ao s1->bA C s1.heap R ao env ρ->Q' avs ao->wpAny C.M A (call v vs) P c9 s1):wpAny C.M A (eval (dE (.call f as) t) env) P c9 s:=by
  refine j4 (EA hf) fun b1 b2 b3=>wpAny_Call_NameR (C9 S hv (a1 he) (A4 f) (C.wd f b1) b3 b2 ?_)
  have main:∀pos',wpAny C.M A (evalArgs v true (backTo pos' (starEach (dL as (t.a 1)) env)) []) (fun a s₁=>wpAny C.M A (call v ([]++a.pos) a.kw) P c9 s₁) c9 s:=fun pos'=>Cm h (a2 he) hv hr S L k
  rcases FZ hf with ⟨id,rfl⟩ | ⟨T,rfl⟩
  · exact Calls.callWith_builtin (A9 (a2 he)) (main _)
  · exact PyProof.Rows.callWith_type (A9 (a2 he)) (main _)
theorem Kq {e:PE} {Q':AV->St->Prop} (h:Mine.E C r e ρ st Q'):Es C r [e] ρ st (fun avs ao=>∃a,avs=[a]∧Q' a ao):=Ec (h.mono fun a _ q=>En ⟨a,rfl,q⟩)
theorem Hr (n:Nat):(Builtin.Range.rangeSize 0 n 1).toNat=n∧Builtin.Range.rangeSize 0 n 1=n:=by
  rw [rangeSize_one]
  split<;>constructor<;>omega
noncomputable def Iter (C:Cx) (r:Nat) (it:PE) (ρ:Loc) (st:St) (K:Nat->(Nat->AV)->St->Prop):Prop:=
  ∀R A env t s,oE env.scope it t=true->ck env->d9 A r->bp C R st s->bA C s.heap R st env ρ->∀P:Value->Shared->Prop,
    (∀(ao:St) (s1:Shared) (I:Addr) (n:Nat) (h1:Heap) (t1:Nat) (av:Nat->AV),K n av ao->bp C R ao s1->Ext st s ao s1->bA C s1.heap R ao env ρ->OO C R A ao s1 I n av h1->P (.ref I) {s1 with heap:=h1,toks:=t1}) →
    wpAny C.M A (eval (dE it t) env) (fun x s₁=>wpAny C.M A (pyIter x) P c9 s₁) c9 s
theorem EW {hp:Heap} {D:Addr->Prop} {avs:List AV} {xs:List Value} {i:Nat} {v:Value} (g:bY C hp D avs xs) (hi:i<xs.length) (hP:xs.toArray[i]?=some v):VR C hp D (avs.getD i .none) v:=
  bq (g.at hi) fun a e1 r1=>by
    rw [List.getD_eq_getElem?_getD,e1]
    exact (Option.some.inj ((List.getElem?_eq_getElem (l:=xs) hi).symm.trans (List.getElem?_toArray.symm.trans hP)):xs[i]=v)▸r1
theorem Ed {it:PE} {K:Nat->(Nat->AV)->St->Prop} (h:Mine.E C r it ρ st (fun a ao=>∃avs,a=.lst avs∧K avs.length (fun i=>avs.getD i .none) ao)):Iter C r it ρ st K:=by
  intro R A env t s he hv hr S L P k
  refine h.run he hv hr S L fun v s1 a ao ha S1 x1 L1 h1=>?_
  refine bq h1 fun avs ea hK=>bP (by subst ea;exact ha:VR C s1.heap (dm R ao) (.lst avs) v) fun ax xs ev Ij hp hx=>ev▸?_
  have hl:=hp.isList
  have hE:ax≠s1.heap.objs.size:=bq hl fun o ho _=>Nat.ne_of_lt (Heap.lt_size ho)
  clear h1 ha h
  refine wpAny_pyIter_list hl (k ao s1 s1.heap.objs.size xs.toArray.size _ s1.toks (fun i=>avs.getD i .none) ((show xs.toArray.size=avs.length from hx.1.length)▸hK) S1 x1 L1 (.mk (fun hh D=>bY C hh D avs xs) (Walks.list hr.handled s1.heap.objs.size ax hE xs.toArray)
    D7 (by rw [Heap.size_push];exact Nat.le_succ _) (fun b hb=>Nat.le_of_eq (List.mem_singleton.mp hb).symm) (fun i hh g b hb=>?_) (fun b hb=>?_) ⟨⟨_,Heap.get?_push_size _ rfl,rfl,rfl⟩,hl.push _⟩ (fun _ _ _ _ u g=>g.up u) hx.1 fun i v hh D g hP hi=>EW g hi hP))
  · cases List.mem_singleton.mp hb
    exact bq g.1 fun o ho _=>⟨o,ho⟩
  · rcases List.mem_cons.mp hb with e | e
    · exact .inl (e▸.head _)
    · cases List.mem_singleton.mp e;exact bq hl fun o ho _=>.inr ⟨⟨o,ho⟩,Ij⟩
theorem Dq {e:PE} {K:Nat->(Nat->AV)->St->Prop} (h:Mine.E C r e ρ st (fun a ao=>∃n:Nat,a=.int n∧n≤1000000∧K n (fun i=>.int i) ao)):Iter C r (.call .eU [e]) ρ st K:=by
  intro R A env t s he hv hr S L P k
  refine FY (f:=.eU) rfl (Kq h) he hv hr S L fun vs s1 avs ao i6 S1 x1 L1 h1=>?_
  refine sP h1 fun a ea n en hn hK=>bY.c1 (by subst ea en;exact i6:bY C s1.heap (dm R ao) [.int n] vs) fun v Mw=>vI Mw fun t'=>?_
  clear h1 i6 h S L
  refine call_range_1 ?_
  have vd:=IsRange.new s1.heap 0 (n:Int) 1 s1.toks t' (s1.toks+1)
  refine wpAny_pyIter_range vd (small_one (by decide) (by decide) (Int.le_trans (by decide) (Int.natCast_nonneg _)) (Int.lt_of_le_of_lt (Int.ofNat_le.mpr hn) (by decide))) ?_
  generalize ho:({cls:=.type "range",data:=.fields #[.int 0 s1.toks,.int n t',.int 1 (s1.toks+1)]}:Obj)=o at vd ⊢
  have z1:(s1.heap.push o).objs.size=s1.heap.objs.size+1:=Heap.size_push ..
  rw [(Hr n).2]
  refine k ao s1 (s1.heap.push o).objs.size n _ (s1.toks+1+1) (fun i=>.int i) hK S1 x1 L1 (.mk (fun _ _=>True) (Walks.range hr.handled (s1.heap.push o).objs.size 0 1 n) (fun b ob e=>Heap.get?_push_of_some _ (D7 b ob e)) (by rw [Heap.size_push,z1];exact Xf) (fun b hb=>?_) (fun i hh g b hb=>?_) (fun b hb=>.inl hb)
    (by show IsRangeIter _ _ _ _ _;simpa using Heap.get?_push_size (s1.heap.push o) (o:={cls:=.type "range_iterator",data:=.fields #[rawInt 0,rawInt n,rawInt 1]}) rfl) (fun _ _ _ _ _ _=>trivial) trivial (fun i v hh D g hP hi=>?_))
  · cases List.mem_singleton.mp hb;exact z1▸Nat.le_succ _
  · cases List.mem_singleton.mp hb;exact ⟨_,g⟩
  · exact xE hP fun t' e=>⟨t',by simpa using e⟩
inductive ForIn (C:Cx) (r:Nat) (x:Nm) (b:List PS) (ρ:Loc) (Q:Fl->Loc->St->Prop) (n:Nat) (av:Nat->AV) (ao:St):Prop
  | mk (Inv:Nat->Loc->St->Prop):Inv 0 ρ ao->(∀i ρ' ag,i<n->Inv i ρ' ag->X C r b (putK ρ' x (av i)) ag (Jc (Inv (i+1)) Q))->(∀ρ' ag,Inv n ρ' ag->Q .next ρ' ag)->ForIn C r x b ρ Q n av ao
theorem IA {x:Nm} {it:PE} {b:List PS} (h:Iter C r it ρ st (ForIn C r x b ρ Q)):X1 C r (.mA x it b) ρ st Q:=.mk fun R A env t s he hv hr S L=>
  wpAny_For (h R A env (t.a 1) s (a1 (a2 he)) hv hr S L _ fun _ _ _ _ _ _ _ ⟨Inv,i0,step,fin⟩ S1 x1 L1 W=>
    codeAny_mono (yn (E:=cameBackBy C.M A env c9) W hv hr (a1 he) (a1 (a2 (a2 he))) S1 L1 Inv i0 step fin) fun _ _ hh=>I9.imp (fun _ _ hh=>eX hh fun _ _ _ a b c d e=>Df a b (x1.l.trans c) d e) hh) (fun _=>BD (a2 (a2 (a2 he))))
theorem wH {x:Nm} {it:PE} {b:List PS} (h:Mine.E C r it ρ st (fun a ao=>∃avs,a=.lst avs∧∃Inv:Nat->Loc->St->Prop,Inv 0 ρ ao∧
      (∀i ρ' ag,i<avs.length->Inv i ρ' ag->X C r b (putK ρ' x (avs.getD i .none)) ag (Jc (Inv (i+1)) Q))∧
      (∀ρ' ag,Inv avs.length ρ' ag->Q .next ρ' ag))):X1 C r (.mA x it b) ρ st Q:=IA (Ed (h.mono fun _ _ h=>sP h fun avs e Inv a b c=>⟨avs,e,Inv,a,b,c⟩))
theorem wF {x:Nm} {e:PE} {b:List PS} (h:Mine.E C r e ρ st (fun a ao=>∃n:Nat,a=.int n∧n≤1000000∧∃Inv:Nat->Loc->St->Prop,Inv 0 ρ ao∧
      (∀i ρ' ag,i<n->Inv i ρ' ag->X C r b (putK ρ' x (.int i)) ag (Jc (Inv (i+1)) Q))∧
      (∀ρ' ag,Inv n ρ' ag->Q .next ρ' ag))):X1 C r (.mA x (.call .eU [e]) b) ρ st Q:=IA (Dq (h.mono fun _ _ ⟨n,e,z,Inv,a,b,c⟩=>⟨n,e,z,Inv,a,b,c⟩))
inductive WI (C:Cx) (R:Addr->Prop) (env:Env) (st:St) (s:Shared) (Inv:Nat->Loc->St->Prop) (m:Nat) (s1:Shared):Prop
  | mk {ρ' ag}:Inv m ρ' ag->bp C R ag s1->bA C s1.heap R ag env ρ'->fe env.locals st s ag s1->WI C R env st s Inv m s1
theorem wD {c:PE} {b:List PS} (Inv:Nat->Loc->St->Prop) (n:Nat) (i0:Inv n ρ st)
    (step:∀n ρ' ag,Inv n ρ' ag->T C r c ρ' ag (fun t ao=>if t then X C r b ρ' ao (fun fl ρ'' dG=>match fl with | .next=>∃m,m<n∧Inv m ρ'' dG | .ret v=>Q (.ret v) ρ'' dG) else Q .next ρ' ao)) :
    X1 C r (.sR c b) ρ st Q:=by
  constructor
  intro R A env t s he hv hr S L
  refine wpAny_While (codeAny_whileLoop (WI C R env st s Inv) ?_ n (.mk i0 S L (Ext.refl ..).l))
  intro m s1 ⟨hI,S1,L1,x1⟩
  refine wpAny_mono (E:=c9) (T.run (step m _ _ hI) (a1 he) hv hr S1 L1 fun t s2 bg S2 x2 L2 q=>?_) (fun _ _ z=>z) fun _ _ z=>z.elim
  have o9:=x1.trans x2.l
  clear hI S1 L1 x1 x2
  cases t with
  | false=>exact wpAny_execs_nil (CG S2 o9 L2 q)
  | true=>
    refine wpAny_mono (E:=c9) (X.run q (a2 he) hv hr S2 L2 fun f s3 fl ρ3 eJ hf S3 x3 L3 q3=>?_) (fun _ _ z=>z) fun _ _ z=>z.elim
    cases fl with
    | next=>cases hf;exact bq q3 fun k hk M1=>⟨k,hk,.mk M1 S3 L3 (o9.trans x3)⟩
    | ret v=>exact bq hf fun u e hu=>e▸Df (fl:=.ret v) ⟨u,rfl,hu⟩ S3 (o9.trans x3) L3 q3
noncomputable def Kl (M:Model) (env:Env) (x:Nm) (f:Value->Sem Unit):Prop:=∀A s v (P:Unit->Shared->Prop),wpAny M A (storeName env (ah x) v) P c9 s->wpAny M A (f v) P c9 s
inductive iX (M:Model) (env:Env):List Nm->List (Value->Sem Unit)->Prop
  | nil:iX M env [] []
  | cons {x f xs fs}:Kl M env x f->iX M env xs fs->iX M env (x::xs) (f::fs)
noncomputable def putAll (ρ:Loc) (l:List (Nm×AV)):Loc:=l.foldl (fun ρ kv=>putK ρ kv.1 kv.2) ρ
theorem D5 {A:Around} {env:Env} (hv:ck env) {xs:List Nm} {fs:List (Value->Sem Unit)} (h:iX C.M env xs fs):(∀x∈xs,kindB env.scope (ah x) .local=true) →
    ∀{avs:List AV} {vs:List Value} {s:Shared} {ρ:Loc},avs.length=xs.length->bY C s.heap (dm R st) avs vs->bp C R st s->bA C s.heap R st env ρ->∀{P:Unit->Shared->Prop},
    (∀s',bp C R st s'->fe env.locals st s st s'->bA C s'.heap R st env (putAll ρ (xs.zip avs))->P () s')->wpAny C.M A (assignInOrder fs vs) P c9 s:=by
  induction h with
  | nil=>
    intro _ avs vs s ρ hl hx S L P k
    cases List.eq_nil_of_length_eq_zero hl
    exact hx.nil▸wpAny_pure (k s S (Ext.refl ..).l L)
  | cons h _ ih=>
    intro hk avs vs s ρ hl hx S L P k
    cases avs with
    | nil=>exact nomatch hl
    | cons a avs=>exact bS hx fun v XA e h1 h2=>e▸wpAny_bind (wpAny_holding (h _ _ _ _ (CJ hv (hk _ (.head _)) S L h1 fun s1 S1 x1 L1 u=>
        ih (fun y hy=>hk y (.tail _ hy)) (Nat.succ.inj hl) (h2.up u) S1 L1 fun s2 S2 x2 L2=>k s2 S2 (x1.trans x2) L2)))
theorem Dh {M:Model} {env:Env}:∀(xs:List Nm),iX M env xs (xs.map fun x=>bindName env (ah x))
  | []=>.nil
  | _::xs=>.cons (fun _ _ _ _ h=>wpAny_bindName h) (Dh xs)
theorem Gf {sc:Scope} {xs:List Nm} (h:me sc xs=true):∀x∈xs,kindB sc (ah x) .local=true:=List.all_eq_true.mp h
theorem EU {M:Model} {env:Env} {xs:List Nm}:∀{t:Tr},(assignEach (dN xs t) env).length=xs.length∧(assignEach (dN xs t) env).findIdx? (·.1)=none∧iX M env xs ((assignEach (dN xs t) env).map (·.2)):=by
  induction xs with
  | nil=>exact ⟨rfl,rfl,.nil⟩
  | cons x xs ih=>exact fun {t}=>j4 (ih (t:=t.a 1)) fun i1 i2 i3=>⟨congrArg Nat.succ i1,List.findIdx?_cons.trans (congrArg (Option.map _) i2),.cons (fun A s v P h=>wpAny_assign_Name h) i3⟩
inductive LJ (xs:List Nm) (ρ:Loc) (Q:Fl->Loc->St->Prop) (a:AV) (ao:St):Prop
  | mk:∀avs,(a=.tup avs)->(avs.length=xs.length)->(Q .next (putAll ρ (xs.zip avs)) ao)->LJ xs ρ Q a ao
theorem Hq {ts:List Expr} {k:Nat} {p:Pos} {ex:Expr} {env:Env} (h:(!uX ex)=true):swappedStores [.Tuple ts k p] ex env=pure none:=by
  cases ex with
  | Tuple _ _ _=>exact ff h
  | _=>exact Eq.refl (pure none)
theorem NZ {xs:List Nm} {e:PE} (h:Mine.E C r e ρ st (LJ xs ρ Q)):X1 C r (.Og xs e) ρ st Q:=.mk fun R A env t s he hv hr S L=>
  Assign_Tuple (h.run (a1 (a2 he)) hv hr S L fun v s1 a ao ha S1 x1 L1 ⟨avs,ea,hl,q⟩=>cm (by subst ea;exact ha:VR C s1.heap (dm R ao) (.tup avs) v) fun _ ys e _ _ ht hy=>e▸j4 (EU (M:=C.M) (env:=env) (xs:=xs) (t:=t.a 0)) fun i1 i2 i3=>
    wpAny_assign_Tuple hr.handled ht (i1.trans ((hl.symm.trans hy.length.symm).trans (List.size_toArray ..).symm)) i2 fun h' eb=>
      have x2:Ext ao s1 ao {s1 with heap:=h',toks:=s1.toks}:=.gE fun b o e=>eb b o (Nat.ne_of_lt (Heap.lt_size e)) e
      D5 hv i3 (Gf (a1 he)) hl (hy.up x2.up) (S1.gE (n:=s1.toks) fun b o e=>eb b o (Nat.ne_of_lt (Heap.lt_size e)) e) (L1.up x2) fun _ S3 x3 L3=>CG S3 ((x1.l.trans x2.l).trans x3) L3 q)
    (by unfold swapsWithSole;exact Bu (a1 (a2 (a2 he)))) (Hq (a2 (a2 (a2 he))))
theorem Hf {env:Env} (hv:ck env):env.blockKind=.function:=by unfold Env.blockKind;rw [hv.kind];rfl
inductive LO (xs:List Nm) (ρ:Loc) (Q:Fl->Loc->St->Prop) (avs:List AV) (ao:St):Prop
  | mk:(avs.length=xs.length)->(avs.length≤1000)->(Q .next (putAll ρ (xs.reverse.zip avs.reverse)) ao)->LO xs ρ Q avs ao
theorem Gv {xs:List Nm} {ts vs:List Expr} {k k2:Nat} {p p2:Pos} {env:Env} (hv:ck env) (h:(zT env.scope xs ts vs).all id=true):swappedStores [.Tuple ts k p] (.Tuple vs k2 p2) env=pure (some (xs.map ah)):=by
  have c1:(ts.length==2||ts.length==3)=true:=al h 0 rfl
  have c2:vs.length=ts.length:=eq_of_beq (al h 1 rfl)
  have c4:(nN env.scope ts).length=ts.length:=eq_of_beq (al h 3 rfl)
  have c5:(nN env.scope ts).eraseDups.length=(nN env.scope ts).length:=eq_of_beq (al h 4 rfl)
  have c8:nN env.scope ts=xs.map ah:=eq_of_beq (al h 7 rfl)
  unfold swappedStores
  refine (if_neg fun h=>?_).trans ((if_neg fun z=>ff ((nt (al h 2 rfl)).symm.trans z)).trans ((if_neg fun h=>?_).trans ((if_neg fun z=>ff ((nt (al h 5 rfl)).symm.trans z)).trans ((if_neg fun z=>ff ((nt (al h 6 rfl)).symm.trans z)).trans ?_))))
  · rw [c1,c2,Hf hv] at h;simp at h
  · exact (Bool.or_eq_true_iff.mp h).elim (fun h=>bne_iff_ne.mp h c4) fun h=>bne_iff_ne.mp h c5
  · exact congrArg (fun z=>(pure (some z):Sem _)) c8
theorem xY {A:Around} {env:Env} {s s2:Shared} {bg:St} {h':Heap} {xs:List Nm} {avs:List AV} {zs:List Value} (hv:ck env) (o9:fe env.locals st s bg s2) (S2:bp C R bg s2) (L2:bA C s2.heap R bg env ρ) (kk:∀b o,s2.heap.get? b=some o->h'.get? b=some o)
    (xf:bY C s2.heap (dm R bg) avs zs) (hl:avs.length=xs.length) (hk:∀x∈xs,kindB env.scope (ah x) .local=true) (q:Q .next (putAll ρ (xs.reverse.zip avs.reverse)) bg) {P:Unit->Shared->Prop} (k:∀s',jg C R env st s Q .next s'->P () s') :
    wpAny C.M A (assignInOrder (xs.reverse.map fun x=>bindName env (ah x)) zs.reverse) P c9 {s2 with heap:=h',toks:=s2.toks}:=
  have x3:Ext bg s2 bg {s2 with heap:=h',toks:=s2.toks}:=.gE kk
  D5 hv (Dh xs.reverse) (fun x hx=>hk x (List.mem_reverse.mp hx)) (by rw [List.length_reverse,List.length_reverse,hl]) (xf.up x3.up).reverse (S2.gE (n:=s2.toks) kk) (L2.up x3) fun s4 S4 x4 L4=>k s4 (CG S4 ((o9.trans x3.l).trans x4) L4 q)
theorem qG {xs:List Nm} {es:List PE} (h:Es C r es ρ st (LO xs ρ Q)):X1 C r (.par xs (.tup es)) ρ st Q:=by
  constructor
  intro R A env t s he hv hr S L
  refine Assign_Tuple_swapped (names:=xs.map ah) (wpAny_Tuple (h.run (a1 (a2 (a2 he))) hv hr S L fun ys s1 avs ao hy S1 x1 L1 ⟨hl,hz,q⟩=>⟨F8 hy hz,?_⟩)) rfl (Gv hv (a2 (a2 (a2 he))))
  refine cm (GA (n:=s1.toks) (Q:=fun a bg=>a=.tup avs∧bg=ao) S1 hy ⟨rfl,rfl⟩) fun av bg Ot S2 x2 e1 e2=>?_
  subst e1 e2
  refine cm Ot fun tp zs e _ _ ht xf=>Value.ref.inj e▸?_
  have hn:(xs.map ah).length=zs.toArray.size:=by rw [List.length_map,List.size_toArray,xf.length,hl]
  clear h Ot S hy
  rw [hn]
  refine unpackItems_tuple hr.handled (Value.ref.inj e▸ht) fun h' eb=>?_
  rw [show ((xs.map ah).reverse.map fun n=>bindName env n)=xs.reverse.map fun x=>bindName env (ah x) by rw [←List.map_reverse,List.map_map];rfl]
  exact xY (s2:={s1 with heap:=s1.heap.push {cls:=.type "tuple",data:=.seq ys.toArray},toks:=s1.toks}) hv (x1.l.trans x2.l) S2 (L1.up x2) (fun b o e=>eb b o (Nat.ne_of_lt (Heap.lt_size e)) e) xf hl (Gf (a1 he)) q fun _ h=>h
end Mine
end
section
namespace Mine
variable {C:Cx} {R:Addr->Prop} {r:Nat} {ρ:Loc} {st:St}
noncomputable def jT (env:Env) (x:Str×NameKind) (cs:List (Str×Addr)):Sem (ForInStep (List (Str×Addr))):=do
  if x.2==.free then do
    let c ←cellOf env x.1
    pure (ForInStep.yield ((x.1,c)::cs))
  else pure (ForInStep.yield cs)
inductive Xu (env:Env) (names:List (Str×NameKind)) (acc:List (Str×Addr)):Prop
  | mk (cl:List (Str×Addr)):(forIn names acc (jT env):Sem _)=pure cl->(∀y c d,cl.lookup y=some c->env.cells.lookup y=some d->c=d)->(∀y,(acc.lookup y).isSome=true->(cl.lookup y).isSome=true)->(∀y∈names,y.2=.free->(cl.lookup y.1).isSome=true)->Xu env names acc
theorem HH {env:Env} {names:List (Str×NameKind)}:∀{acc:List (Str×Addr)},(∀y∈names,y.2=.free->∃c,env.cells.lookup y.1=some c)->(∀y c d,acc.lookup y=some c->env.cells.lookup y=some d->c=d)->Xu env names acc:=by
  induction names with
  | nil=>exact fun _ h=>.mk _ (List.forIn_nil ..) h (fun _ h=>h) fun _ h=>nomatch h
  | cons a rest ih=>
    intro acc h1 h2
    by_cases hk:a.2=.free
    · refine xE (h1 a (.head _) hk) fun c hc=>?_
      have hs:jT env a acc=pure (ForInStep.yield ((a.1,c)::acc)):=by unfold jT cellOf;rw [hk,hc];rfl
      obtain ⟨cl,e,g1,g2,g3⟩:=ih (acc:=(a.1,c)::acc) (fun y hy=>h1 y (.tail _ hy)) fun y c' d e1 e2=>by
        by_cases q:y=a.1
        · subst q;exact (Option.some.inj (cC.symm.trans e1)).symm.trans (Option.some.inj (hc.symm.trans e2))
        · exact h2 y c' d ((AP q).symm.trans e1) e2
      have g0:(cl.lookup a.1).isSome=true:=g2 _ (cC▸rfl)
      exact .mk cl (by rw [List.forIn_cons,hs];exact e) g1 (fun y hy=>g2 y (by
        by_cases q:y=a.1
        · exact q▸cC▸rfl
        · exact (AP q).symm▸hy)) fun y hy hf=>(List.mem_cons.mp hy).elim (fun q=>q▸g0) fun hy=>g3 y hy hf
    · have hs:jT env a acc=pure (ForInStep.yield acc):=by unfold jT;rw [beq_eq_false_iff_ne.mpr hk];rfl
      obtain ⟨cl,e,g1,g2,g3⟩:=ih (fun y hy=>h1 y (.tail _ hy)) h2
      exact .mk cl (by rw [List.forIn_cons,hs];exact e) g1 g2 fun y hy hf=>(List.mem_cons.mp hy).elim (fun q=>absurd (q▸hf) hk) fun hy=>g3 y hy hf
theorem Fh {sc:Scope} {env:Env} (h:∀y∈sc.names,y.2=.free->∃c,env.cells.lookup y.1=some c) :
    ∃cl,closureFor sc env=pure cl∧∀y∈sc.names,y.2=.free->cl.lookup y.1=env.cells.lookup y.1:=by
  obtain ⟨cl,e,g1,_,g3⟩:=HH (acc:=[]) h fun _ _ _ e=>cp e
  exact ⟨cl,(congrArg (fun m:Sem (List (Str×Addr))=>m >>= fun z=>pure z) e).trans rfl,fun y hy hf=>xE (h y hy hf) fun c hc=>xE (Option.isSome_iff_exists.mp (g3 y hy hf)) fun d hd=>hd.trans ((congrArg some (g1 _ _ _ hd hc)).trans hc.symm)⟩
theorem bp.begin {s:Shared} {h':Heap} {n:Nat} {wr:List Addr} {D:Addr} {o:bQ} (S:bp C R st s) (k:∀b o,s.heap.get? b=some o->h'.get? b=some o) (hw:∀b∈wr,s.heap.objs.size≤b) (qq:∀b∈wr,∃o,h'.get? b=some o)
    (hD:s.heap.objs.size≤D) (OB:D∉wr) (ho:mi C h' (dm (gv R wr) (st.upd D o)) D o) :
    bp C (gv R wr) (st.upd D o) {s with heap:=h',toks:=n}∧Up s.heap (dm R st) h' (dm (gv R wr) (st.upd D o)):=by
  have up:Up s.heap (dm R st) h' (dm (gv R wr) (st.upd D o)):=fun b ob e nb=>⟨k b ob e,fun d=>d.elim (fun d=>(BY d).elim (fun q=>bR hD (q▸e)) fun d=>nb (.inl d)) fun d=>d.elim (fun d=>nb (.inr d)) fun d=>bR (hw b d) e⟩
  refine ⟨⟨fun b o e=>k b o (S.base b o e),fun b d=>(BY d).elim (fun q=>q▸GC S.base hD) (S.low b),fun b ob e=>?_,S.gens,fun b h=>?_,fun b h=>h.elim (fun h=>(S.under b h).imp fun o e=>k b o e) (qq b),fun b h=>h.elim (S.above b) fun h=>(GC S.base (hw b h)).1⟩,up⟩
  · by_cases q:b=D
    · subst q;cases Option.some.inj ((if_pos rfl:(st.upd b o) b=_).symm.trans e);exact ho
    · exact (S.obj b ob ((if_neg q:(st.upd D o) b=_).symm.trans e)).up up (k b)
  · have hb:b≠D:=h.elim (fun h q=>xE (S.under b h) fun o e=>bR hD (q▸e)) fun h q=>OB (q▸h)
    refine (if_neg hb:(st.upd D o) b=_).trans (h.elim (S.apart b) fun h=>?_)
    cases e:st b with
    | none=>rfl
    | some o=>exact (AW S (Ek (R:=R) e) (hw b h)).elim
theorem bA.weaken {h:Heap} {env:Env} {ρ':Loc} (L:bA C h R st env ρ') (k:∀x av,ae ρ x=some av->ae ρ' x=some av):bA C h R st env ρ:=
  ⟨L.inR,L.nd,bq L.ns fun m hm hl=>⟨m,hm,fun x av e=>hl x av (k x av e)⟩⟩
theorem Er {g:Str×NameKind->Bool} {x:Str} {names:List (Str×NameKind)}:(names.map fun y=>if g y then (y.1,NameKind.cell) else y).lookup x=some .cell->(∃y∈names,y.1=x∧g y=true)∨(x,NameKind.cell)∈names:=by
  induction names with
  | nil=>exact fun h=>cp h
  | cons a r ih=>
    intro h
    rw [List.map_cons] at h
    have more:_->(∃y∈a::r,y.1=x∧g y=true)∨(x,NameKind.cell)∈a::r:=fun h=>(ih h).imp (fun h=>bq h fun y hy q=>⟨y,.tail _ hy,q⟩) fun h=>List.Mem.tail a h
    by_cases hx:x=a.1
    · by_cases hg:g a=true
      · exact .inl ⟨a,.head _,hx.symm,hg⟩
      · rw [if_neg hg,hx] at h
        exact .inr (hx▸(Option.some.inj ((cC (n:=a.1) (v:=a.2)).symm.trans h):a.2=.cell)▸.head _)
    · by_cases hg:g a=true
      · rw [if_pos hg] at h;exact more ((AP hx).symm.trans h)
      · rw [if_neg hg] at h;exact more ((AP (v:=a.2) hx).symm.trans h)
structure nA (sc o:Scope) (x:Str) (elt:PE):Prop where
  kind:sc.kind=.function
  free:∀y∈sc.names,y.2=.free->o.names.lookup y.1=some .cell
  cell:∀y∈sc.names,y.2≠.cell
  x:sc.names.lookup x=some .local
  loc:∀y∈sc.names,y.2=.local->sc.names.lookup y.1=some .local
  QP:∀y∈lV elt,kindB (inner sc o) (ah y) .cell=true
theorem Fg {sc o:Scope} {x:Str} {elt:PE} (h:(v3 sc o x elt).all id=true):nA sc o x elt:=
  ⟨eq_of_beq (al h 0 rfl),fun y hy hf=>(Bool.or_eq_true_iff.mp (List.all_eq_true.mp (al h 1 rfl) y hy)).elim (fun q=>absurd hf (bne_iff_ne.mp q)) fun q=>eq_of_beq q,fun y hy=>bne_iff_ne.mp (List.all_eq_true.mp (al h 2 rfl) y hy),eq_of_beq (al h 3 rfl),fun y hy hf=>(Bool.or_eq_true_iff.mp (List.all_eq_true.mp (al h 4 rfl) y hy)).elim (fun q=>absurd hf (bne_iff_ne.mp q)) fun q=>eq_of_beq q,List.all_eq_true.mp (al h 5 rfl)⟩
theorem E6 {sc:Scope} {env:Env} {x y:Str} {elt:PE} (h:nA sc env.scope x elt) (hk:kindB (relabel sc env) y .cell=true):∃z∈sc.names,z.1=y∧z.2=.free∧env.kindOf y=some .cell:=by
  have hk:=beq_iff_eq.mp hk
  have hm:(relabel sc env).names=sc.names.map fun z=>if (z.2==.free&&env.scope.kind==.function&&env.kindOf z.1==some .cell) then (z.1,NameKind.cell) else z:=by
    unfold relabel;rfl
  rw [hm] at hk
  rcases Er (g:=fun z=>(z.2==.free&&env.scope.kind==.function&&env.kindOf z.1==some .cell)) hk with ⟨z,hz,e,hg⟩ | hc
  · simp only [Bool.and_eq_true,beq_iff_eq] at hg
    subst e
    exact ⟨z,hz,rfl,hg.1.1,hg.2⟩
  · exact absurd rfl (h.cell _ hc)
noncomputable def gD (ρ:Loc) (e:PE):Loc:=ρ.filter fun kv=>decide (kv.1∈lV e)
theorem G3 {p:Nm->Bool} {x:Nm} {v:AV} {ρ:Loc}:ae (ρ.filter fun kv=>p kv.1) x=some v->p x=true∧ae ρ x=some v:=by
  induction ρ with
  | nil=>exact fun h=>cp h
  | cons a r ih=>
    intro h
    rw [List.filter_cons] at h
    have g:=Am a.1 x a.2 r
    by_cases hp:p a.1=true
    · rw [if_pos hp] at h
      have h:=(Am x a.1 a.2 _).symm.trans h
      by_cases q:a.1=x
      · exact ⟨q▸hp,(Am x a.1 a.2 r).trans ((if_pos q).trans ((if_pos q).symm.trans h))⟩
      · exact xA (ih ((if_neg q).symm.trans h)) fun h1 h2=>⟨h1,(Am x a.1 a.2 r).trans ((if_neg q).trans h2)⟩
    · rw [if_neg hp] at h
      exact xA (ih h) fun h1 h2=>⟨h1,(Am x a.1 a.2 r).trans ((if_neg (fun q:a.1=x=>hp (q▸h1))).trans h2)⟩
theorem Hx {h:Heap} {R':Addr->Prop} {ag:St} {env:Env} {sc:Scope} {cl:List (Str×Addr)} {x:Str} {elt:PE} {Cl:Addr} {s0:Heap} (L:bA C s0 R st env ρ) (hc:nA sc env.scope x elt)
    (yH:∀y∈sc.names,y.2=.free->cl.lookup y.1=env.cells.lookup y.1) (hR:R' Cl) (hn:¬mr ag Cl) {m:Str->Option Value} (ql:h.Ns Cl m) (u:Up s0 (dm R st) h (dm R' ag)) :
    bA C h R' ag (compEnvC sc cl Cl env) (gD ρ elt):=bq L.ns fun m0 _ hl=>
  ⟨hR,hn,m,ql,fun y av e=>xA (G3 (p:=fun z=>decide (z∈lV elt)) e) fun hy e=>
    have hk:=hc.QP y (of_decide_eq_true hy)
    gx (E6 hc hk) fun z hz e1 e2 e3=>bq (hl y av e) fun v hv Mv=>⟨v,hv.up u,.inr ⟨beq_iff_eq.mp hk,Mv.elim (fun h=>nomatch h.1.symm.trans e3) fun h=>dR h.2 fun c h1 h2 h=>bq h fun o h3 h4=>
      ⟨c,(show cl.lookup _=_ from e1▸(yH z hz e2).trans (e1▸h1)),(u c o h3 h2).2,o,(u c o h3 h2).1,h4⟩⟩⟩⟩
inductive CI (C:Cx) (R:Addr->Prop) (ce:Env) (wr:List Addr) (ao:St) (s1:Shared) (n:Nat) (nF:Nat->Heap->Prop) (G:Heap->(Addr->Prop)->Prop) (Inv:Nat->St->Prop) (ρ0:Loc) (x:Nm) (m:Nat) (s:Shared):Prop
  | mk {i st ρ'}:m=n-i->i≤n->bp C (gv R wr) st s->bA C s.heap (gv R wr) st ce ρ'->(∀y v,y≠x->ae ρ0 y=some v->ae ρ' y=some v)->Ext ao s1 st s->nF i s.heap->G s.heap (dm (gv R wr) st)->Inv i st->CI C R ce wr ao s1 n nF G Inv ρ0 x m s
theorem rJ {ce:Env} {A:Around} {elt:PE} {t:Tr} {iter:Expr} {x:Nm} {px pos:Pos} {sc:Scope} {s1:Shared} {ao bg:St} {I D:Addr} {fp wr:List Addr} {n:Nat} {P:Nat->Value->Prop} {nF:Nat->Heap->Prop} {h₂:Heap} {t1:Nat} {ρ0:Loc}
    (W:Walks C.prog C.w A I fp wr n P nF) (hv:ck ce) (hr:d9 A r) (YK:kindB ce.scope (ah x) .local=true) (he:oE ce.scope elt t=true)
    (zC:s1.heap.objs.size≤ce.locals) (Ip:ce.locals∉wr) (hR:∀b,R b->b∉wr) (hw:∀b∈wr,s1.heap.objs.size≤b) (qq:∀i h,nF i h->∀b∈wr,∃o,h.get? b=some o) (Jz:∀b∈fp,b∈wr∨((∃o,s1.heap.get? b=some o)∧¬dm R ao b))
    (G:Heap->(Addr->Prop)->Prop) (hG:∀h D h' D',Up h D h' D'->G h D->G h' D') (av:Nat->AV) (vc:∀i v h D,G h D->P i v->i<n->VR C h D (av i) v)
    (Inv:Nat->St->Prop) (step:∀i st,i<n->Inv i st->Mine.E C r elt (putK ρ0 x (av i)) st (fun y ag=>∃vs,ag D=some (.list vs)∧vs.length≤1000000∧Inv (i+1) (ag.upd D (.list (vs++[y])))))
    (S2:bp C (gv R (ce.locals::wr)) bg {s1 with heap:=h₂,toks:=t1}) (L2:bA C h₂ (gv R (ce.locals::wr)) bg ce ρ0) (x2:Ext ao s1 bg {s1 with heap:=h₂,toks:=t1}) (g2:nF 0 h₂) (gg:G h₂ (dm (gv R (ce.locals::wr)) bg)) (i0:Inv 0 bg)
    {RR:Result->Shared->Prop} (Qm:∀ag s',Inv n ag->bp C (gv R [ce.locals]) ag s'->Ext ao s1 ag s'->(∃m,s'.heap.Ns ce.locals m)->RR (.ok .next) s') :
    codeAny C.M A (.compLoop (.ListComp (dE elt t) [⟨.Name (ah x) px,iter,[],0⟩] sc pos) 0 (.ref I) (.ref D) ce) RR {s1 with heap:=h₂,toks:=t1}:=by
  refine codeAny_compLoop_list (CI C R ce (ce.locals::wr) ao s1 n nF G Inv ρ0 x) ?_ n (.mk rfl (Nat.zero_le _) S2 L2 (fun _ _ _ e=>e) x2 g2 gg i0)
  intro m s ⟨em,hi,S,L,hρ,x0,g,gg,hI⟩
  subst em
  rename_i i st ρ'
  clear S2 L2 x2 g2 i0
  by_cases mT:i<n
  · refine W.item i s _ _ mT g fun v h' tk hP g' k=>?_
    have k':∀b o,b∉ce.locals::wr->s.heap.get? b=some o->h'.get? b=some o:=fun b o hb e=>k b o (fun hm=>hb (.tail _ hm)) e
    have S':bp C (gv R (ce.locals::wr)) st {s with heap:=h',toks:=tk}:=S.moved k' fun b hb=>(List.mem_cons.mp hb).elim (fun q=>q▸xE (S.under _ (.inr (.head _))) fun o e=>⟨o,k _ o Ip e⟩) (qq _ _ g' b)
    have up:=HS (R:=R) (st:=st) k'
    have x':Ext ao s1 st {s with heap:=h',toks:=tk}:=⟨fun b o e nd=>k b o (fun hm=>bR (hw b hm) e) (x0.keep b o e nd),x0.dm,x0.os⟩
    have M8:=hG _ _ _ _ up gg
    refine wpAny_assign_Name (wpAny_mono (E:=c9) (CJ hv YK S' (L.over L.inR L.nd (fun o e=>k _ o Ip e) up) (vc i v _ _ M8 hP mT) fun s2 Xo x2 Xr u2=>?_) (fun _ _ z=>z) fun _ _ z=>z.elim)
    have L3:bA C s2.heap (gv R (ce.locals::wr)) st ce (putK ρ0 x (av i)):=Xr.weaken fun y v e=>by
      have e:=(Af ρ0 x y (av i)).symm.trans e
      refine (Af ρ' x y (av i)).trans ?_
      by_cases q:y=x
      · exact (if_pos q).trans ((if_pos q).symm.trans e)
      · exact (if_neg q).trans (hρ y v q ((if_neg q).symm.trans e))
    have YI:=L.inR
    clear L S x0 gg g up hP k k' Xr hρ hi
    refine wpAny_mono (E:=c9) (E.run (step i st mT hI) he hv hr Xo L3 fun w s3 y eJ Yl S3 x3 L4 q=>?_) (fun _ _ z=>z) fun _ _ z=>z.elim
    refine dR q fun vs e1 hz M1=>wpAny_mono (E:=c9) (Mine.Cl.run (Q':=fun a fA=>a=.none∧fA=eJ.upd D (.list (vs++[y]))) (F4 e1 ⟨rfl,rfl⟩ (by exact Zl hz rfl)) hr S3 (vs:=[.ref D,w]) ⟨_,_,rfl,rfl,_,_,rfl,Yl,rfl⟩ fun u s4 a fA _ S4 x4 q4=>?_) (fun _ _ z=>z) fun _ _ z=>z.elim
    have q4:=q4.2
    subst q4
    have Lj:=(x2.trans x3.l).trans x4.l
    clear S3 x2 x3 Xo L3 q hI
    have nC:∀{b o},s1.heap.get? b=some o->b≠ce.locals:=fun e q=>bR zC (q▸e)
    refine ⟨n-(i+1),by exact Xh mT,.mk rfl mT S4 (L4.up x4) (fun y v q e=>(Af ρ0 x y (av i)).trans ((if_neg q).trans e)) ?_ (W.frame _ _ _ g' fun b hm o e=>?_) (hG _ _ _ _ (Lj.up YI) M8) M1⟩
    · exact ⟨fun b o e nd=>Lj.keep b o (nC e) (x'.keep b o e nd) (x'.dm b o e nd),fun b o e nd=>Lj.dm b o (nC e) (x'.keep b o e nd) (x'.dm b o e nd),Lj.os.trans x'.os⟩
    · exact Lj.keep b o ((Jz b hm).elim (fun h q=>Ip (q▸h)) fun h=>xE h.1 fun ob h2=>nC h2) e ((Jz b hm).elim (fun h d=>nomatch (S'.apart b (.inr (.tail _ h))).symm.trans (Option.ne_none_iff_exists'.mp d).choose_spec) fun h=>xE h.1 fun ob h2=>x'.dm b ob h2 fun d=>h.2 (.inl d))
  · have en:i=n:=by exact Xg hi mT
    subst en
    refine W.done s _ _ g fun h' tk k=>?_
    have Ql:gv R (ce.locals::wr)=gv (gv R [ce.locals]) wr:=by
      funext b;apply propext;unfold gv;simp [or_assoc]
    exact Qm st _ hI ((Ql▸S).left k fun b hb h=>h.elim (fun h=>hR b h hb) fun h=>Ip (List.mem_singleton.mp h▸hb)) ⟨fun b o e nd=>k b o (fun hm=>bR (hw b hm) e) (x0.keep b o e nd),x0.dm,x0.os⟩
      (bq L.ns fun m hm _=>⟨m,hm.at' fun o e=>k _ o Ip e⟩)
theorem Ff {env:Env} {A:Around} {elt:PE} {t:Tr} {iter:Expr} {x:Nm} {px pos:Pos} {sc:Scope} {cl:List (Str×Addr)} {s1:Shared} {ao:St} {I:Addr} {n:Nat} {h1:Heap} {t1:Nat} {av:Nat->AV}
    (W:OO C R A ao s1 I n av h1) (hv:ck env) (hr:d9 A r) (hc:nA sc env.scope (ah x) elt) (yH:∀y∈sc.names,y.2=.free->cl.lookup y.1=env.cells.lookup y.1) (he:oE (relabel sc env) elt t=true)
    (S1:bp C R ao s1) (L1:bA C s1.heap R ao env ρ)
    (Inv:Addr->Nat->St->Prop) (i0:∀D,ao D=none->Inv D 0 (ao.upd D (.list [])))
    (step:∀D i st,i<n->Inv D i st->Mine.E C r elt (putK (gD ρ elt) x (av i)) st (fun y ag=>∃vs,ag D=some (.list vs)∧vs.length≤1000000∧Inv D (i+1) (ag.upd D (.list (vs++[y])))))
    {RR:Value->Addr->Result->Shared->Prop}
    (Qm:∀D Cl ag s',s1.heap.objs.size≤Cl->D≠Cl->Inv D n ag->bp C (gv R [Cl]) ag s'->Ext ao s1 ag s'->(∃m,s'.heap.Ns Cl m)->RR (.ref D) Cl (.ok .next) s') :
    wpAny C.M A (newList []) (fun acc s₃=>wpAny C.M A (newFunctionEnv sc env.globals cl [] env.qual none .none (some env)) (fun NF s₄=>
      codeAny C.M A (.compStart (.ListComp (dE elt t) [⟨.Name (ah x) px,iter,[],0⟩] sc pos) 0 (.ref I) acc {NF with scope:=relabel sc env}) (RR acc NF.locals) s₄) c9 s₃) c9 {s1 with heap:=h1,toks:=t1}:=by
  obtain ⟨G,W,k1,z1,hw,qq,Jz,g1,hG,g0,vc⟩:=W
  rename_i fp wr P nF
  refine wpAny_newObj_type (wpAny_newFunctionEnv hc.cell (fun y hy=>nomatch hy) (fun h₂ hns₂ hsb₂=>?_) hc.kind)
  dsimp only at hns₂ hsb₂ ⊢
  generalize OA:h1.push {cls:=.type "list",dict:=none,data:=.seq ([]:List Value).toArray}=H2 at hns₂ hsb₂ ⊢
  have hC:H2.objs.size=h1.objs.size+1:=by rw [←OA,Heap.size_push]
  have JD:h1.objs.size≠H2.objs.size:=by rw [hC];exact Nat.ne_of_lt (Nat.lt_succ_self _)
  have old:∀b o,h1.get? b=some o->h₂.get? b=some o:=fun b o e=>hsb₂.extBut b o (Nat.ne_of_lt (Nat.lt_trans (Heap.lt_size e) (by rw [hC];exact Nat.lt_succ_self _))) (Heap.get?_push_of_some _ (OA▸Heap.get?_push_of_some _ e))
  have MY:h₂.PlainList h1.objs.size #[]:=⟨_,hsb₂.extBut _ _ JD (Heap.get?_push_of_some _ (OA▸Heap.get?_push_size _ rfl))⟩
  have g2:nF 0 h₂:=W.frame _ _ _ g1 fun b _ o e=>old b o e
  have Mu:∀b∈wr,b<h1.objs.size:=fun b hb=>xE (qq _ _ g1 b hb) fun o e=>Heap.lt_size e
  have zC:s1.heap.objs.size≤H2.objs.size:=by rw [hC];exact Nat.le_succ_of_le z1
  have OB:h1.objs.size∉wr:=fun hm=>Nat.lt_irrefl _ (Mu _ hm)
  have Ip:H2.objs.size∉wr:=fun hm=>Nat.lt_irrefl _ (Nat.lt_of_succ_lt (hC▸Mu _ hm))
  generalize Y9:H2.objs.size=Cl at hns₂ hsb₂ JD zC Ip ⊢
  generalize Y8:h1.objs.size=D at MY JD z1 OB ⊢
  clear hsb₂ hC Y9 Y8 OA Mu g1
  have Md:∀b o,s1.heap.get? b=some o->h₂.get? b=some o:=fun b o e=>old b o (k1 b o e)
  clear old k1
  refine xA (S1.begin (n:=t1) (D:=D) (o:=.list []) Md (fun b hb=>(List.mem_cons.mp hb).elim (fun q=>q▸zC) (hw b)) (fun b hb=>(List.mem_cons.mp hb).elim (fun q=>q▸fR hns₂ fun o _ _ e _=>⟨o,e⟩) (qq _ _ g2 b)) z1
    (fun hm=>(List.mem_cons.mp hm).elim JD OB) ⟨[],MY,rfl,Nat.zero_le _⟩) fun S2 KH=>?_
  have PN:ao D=none:=by
    cases e:ao D with
    | none=>rfl
    | some o=>exact (AW S1 (Ek (R:=R) e) z1).elim
  have loop:∀s₃:Shared,s₃={s1 with heap:=h₂,toks:=t1} →
      codeAny C.M A (.compLoop (.ListComp (dE elt t) [⟨.Name (ah x) px,iter,[],0⟩] sc pos) 0 (.ref I) (.ref D) (compEnvC sc cl Cl env)) (RR (.ref D) Cl) s₃:=fun _ e=>e▸
    rJ (ce:=compEnvC sc cl Cl env) W ⟨hc.kind,hv.globals,hv.builtins,fun y hy=>gx (E6 hc (beq_iff_eq.mpr hy)) fun z hz e1 e2 e3=>xE (hv.cells y e3) fun c YT=>⟨c,e1▸(yH z hz e2).trans (e1▸YT)⟩⟩ hr (beq_iff_eq.mpr (lookup_relabel_local hc.x)) he
      zC Ip (fun b h hb=>xE (S1.under b h) fun o e=>bR (hw b hb) e) hw qq Jz G hG av vc (Inv D) (step D) S2 (Hx L1 hc yH (.inr (.head _)) (fun d=>d (S2.apart Cl (.inr (.head _)))) hns₂ KH)
      ⟨fun b o e _=>Md b o e,fun b o e nd d=>(BY d).elim (fun q=>bR z1 (q▸e)) nd,rfl⟩ g2 (hG _ _ _ _ KH g0) (i0 D PN) fun ag s'=>Qm D Cl ag s' zC JD
  exact codeAny_compStart_list (loop _ rfl) (W.self 0 _ _ _ g2 (loop _ rfl))
end Mine
end
section
namespace Mine
variable {C:Cx} {R:Addr->Prop} {r:Nat} {ρ:Loc} {st:St}
structure qe (C:Cx) (r:Nat) (elt:PE) (x:Nm) (ρ:Loc) (ao:St) (n:Nat) (av:Nat->AV) (Inv:Addr->Nat->St->Prop):Prop where
  i0:∀D,ao D=none->Inv D 0 (ao.upd D (.list []))
  step:∀D i ag,i<n->Inv D i ag->E C r elt (putK (gD ρ elt) x (av i)) ag (fun y dG=>∃vs,dG D=some (.list vs)∧vs.length≤1000000∧Inv D (i+1) (dG.upd D (.list (vs++[y]))))
theorem ud {a b:Addr} (h:b∉[a]):b≠a:=fun q=>h (q▸.head _)
theorem bp.drop {s':Shared} {ag:St} {Ca:Addr} {h':Heap} (S:bp C (gv R [Ca]) ag s') (hR:¬R Ca) (sb:Heap.SameBut Ca s'.heap h'):bp C R ag {s' with heap:=h',toks:=s'.toks}:=
  S.left (fun b _ hb e=>(sb.2 b (ud hb)).trans e) fun _ hb h=>hR (List.mem_singleton.mp hb▸h)
theorem HP {elt it:PE} {x:Nm} {Q:AV->St->Prop} (h:Iter C r it ρ st (fun n av ao=>∃Inv,qe C r elt x ρ ao n av Inv∧∀D ag,Inv D n ag->Q (.ref D) ag)):E C r (.comp elt x it) ρ st Q:=by
  constructor
  intro R A env t s he hv hr S L
  have hc:=Fg (a1 he)
  refine bq (Fh (sc:=t.d.sc) (env:=env) fun y hy hf=>hv.cells y.1 (hc.free y hy hf)) fun cl yH yG=>?_
  show wpAny C.M A (eval (.ListComp (dE elt (t.a 0)) [⟨.Name (ah x) (t.a 1).d.p,dE it (t.a 2),[],0⟩] t.d.sc t.d.p) env) _ _ _
  rw [eval_ListComp]
  refine wpAny_comprehension_free (use:=none) rfl (fun _=>BD (a2 (a2 (a2 he)))) yH hc.kind hc.loc (h R A env (t.a 2) s (a1 (a2 he)) hv hr S L _ fun ao s1 I n h1 t1 av hK S1 x1 L1 W=>?_)
  refine bq hK fun Inv hI hQ=>Ff (RR:=fun acc Ca=>compPost C.M A c9 none (cS C R st s Q) acc Ca) W hv hr hc yG (a1 (a2 (a2 he))) S1 L1 Inv hI.i0 hI.step fun D Ca ag s' K7 JD hn S' x' Qn=>xE Qn fun m hm=>⟨m,hm,fun h' sb=>
    ⟨.ref D,ag,rfl,S'.drop (fun hR=>xE (S1.under _ hR) fun o e=>bR K7 e) sb,x1.trans ⟨fun b o e nd=>(sb.2 b fun q=>bR K7 (q▸e)).trans (x'.keep b o e nd),x'.dm,x'.os⟩,hQ D ag hn⟩⟩
theorem Ki {elt it:PE} {x y:Nm} {Q:Fl->Loc->St->Prop} (h:Iter C r it ρ st (fun n av ao=>∃Inv,qe C r elt y ρ ao n av Inv∧∀D ag,Inv D n ag->Q .next (putK ρ x (.ref D)) ag)):X1 C r (.km x elt y it) ρ st Q:=by
  constructor
  intro R A env t s he hv hr S L
  have hk:=a1 he
  have VZ:=a1 (a2 he)
  have ho:=a2 (a2 he)
  have hc:=Fg (a1 ho)
  refine bq (Fh (sc:=(t.a 1).d.sc) (env:=env) fun y hy hf=>hv.cells y.1 (hc.free y hy hf)) fun cl yH yG=>?_
  have My:swapsWith (dE (.comp elt y it) (t.a 1)) (some (.Name (ah x) (t.a 0).d.p)) t.d.p.line env=pure true:=
    congrArg pure (show (env.blockKind==.function&&env.kindOf (ah x)==some .local&&(t.a 0).d.p.line==(t.a 1).d.p.line&&!((t.a 1).d.sc.names.any fun y=>y.1==ah x&&(y.2==.local||y.2==.cell)))=true by
      have h:=VZ;unfold tm at h;rw [hv.kind] at h;rw [Hf hv];exact h)
  show wpAny C.M A (exec (.Assign [.Name (ah x) (t.a 0).d.p] (dE (.comp elt y it) (t.a 1)) t.d.p) env) _ _ _
  rw [exec_Assign_Name_used _ _ _ _ My]
  refine wpAny_bind (wpAny_standAt (wpAny_bind ?_))
  show wpAny _ A (do let _ ←comprehension (dE (.comp elt y it) (t.a 1)) (t.a 1).d.sc env _ (newList []) false (eval (dE it ((t.a 1).a 2)) env) (some (assign (.Name (ah x) (t.a 0).d.p) env))) _ _ s
  refine wpAny_bind (wpAny_mono (wpAny_comprehension_free (use:=some (assign (.Name (ah x) (t.a 0).d.p) env)) (Q:=fun _ s'=>jg C R env st s Q .next s') rfl (fun _=>BD (a2 (a2 (a2 ho)))) yH hc.kind hc.loc
    (h R A env ((t.a 1).a 2) s (a1 (a2 ho)) hv hr S L _ fun ao s1 I n h1 t1 av hK S1 x1 L1 W=>?_)) (fun _ s' hq=>wpAny_pure (wpAny_pure hq)) fun _ _ e=>e)
  refine bq hK fun Inv hI hQ=>Ff (RR:=fun acc Ca=>compPost C.M A c9 (some (assign (.Name (ah x) (t.a 0).d.p) env)) (fun _ s'=>jg C R env st s Q .next s') acc Ca) W hv hr hc yG (a1 (a2 (a2 ho))) S1 L1 Inv hI.i0 hI.step fun D Ca ag s' K7 JD hn S' x' Qn=>?_
  clear W hK My VZ h hI S L yH yG
  have Wk:¬R Ca:=fun hR=>xE (S1.under _ hR) fun o e=>bR K7 e
  have Wm:env.locals≠Ca:=fun q=>Wk (q▸L1.inR)
  have u:Up s1.heap (dm R ao) s'.heap (dm (gv R [Ca]) ag):=fun b o e nd=>xA (x'.up b o e nd) fun e1 e2=>⟨e1,fun d=>d.elim (fun d=>e2 (.inl d)) fun d=>d.elim (fun d=>e2 (.inr d)) fun d=>bR K7 (List.mem_singleton.mp d▸e)⟩
  have L2:bA C s'.heap (gv R [Ca]) ag env ρ:=L1.over (.inl L1.inR) (L1.up x').nd (fun o e=>x'.keep _ o e L1.nd) u
  show wpAny _ A (assign (.Name (ah x) (t.a 0).d.p) env (.ref D)) _ _ _
  refine wpAny_assign_Name (CJ hv hk S' L2 (av:=.ref D) rfl fun s2 S2 x2 L3 u2=>xE Qn fun m hm=>?_)
  refine ⟨m,hm.at' fun o e=>x2.keep Ca o (Ne.symm Wm) e (fun d=>d (S'.apart Ca (.inr (.head _)))),fun h' sb=>?_⟩
  have k':∀b o,b≠Ca->s2.heap.get? b=some o->h'.get? b=some o:=fun b o hb e=>(sb.2 b hb).trans e
  refine CG (s':={s2 with heap:=h'}) (S2.drop Wk sb) (x1.l.trans ⟨fun b o hb e nd=>k' b o (fun q=>bR K7 (q▸e)) (x2.keep b o hb (x'.keep b o e nd) (x'.dm b o e nd)),fun b o hb e nd=>x2.dm b o hb (x'.keep b o e nd) (x'.dm b o e nd),x2.os.trans x'.os⟩)
    (L3.over L1.inR L3.nd (fun o e=>k' _ o Wm e) fun b o e nd=>⟨k' b o (fun q=>nd (.inr (.inr (q▸.head _)))) e,fun d=>nd (d.imp id .inl)⟩) (hQ D ag hn)
end Mine
end
section
namespace Mine
variable {C:Cx} {R:Addr->Prop} {r:Nat} {ρ:Loc} {st:St}
noncomputable def zW (N:Nat):List Addr:=[N+4,N+2,N+3,N,N+1]
theorem sN {P:Addr->Prop} {N:Nat} (a:P (N+4)) (b:P (N+2)) (c:P (N+3)) (d:P N) (e:P (N+1)):∀x∈zW N,P x:=
  List.forall_mem_cons.mpr ⟨a,List.forall_mem_cons.mpr ⟨b,List.forall_mem_cons.mpr ⟨c,List.forall_mem_cons.mpr ⟨d,List.forall_mem_cons.mpr ⟨e,fun _ h=>nomatch h⟩⟩⟩⟩⟩
theorem Lc {N:Nat}:∀b∈zW N,N≤b:=sN (Nat.le_add_right ..) (Nat.le_add_right ..) (Nat.le_add_right ..) (Nat.le_refl _) (Nat.le_add_right ..)
theorem IM {N:Nat}:∀x∈[N+4,N+3,N,N+1],x∈zW N:=
  List.forall_mem_cons.mpr ⟨.head _,List.forall_mem_cons.mpr ⟨.tail _ (.tail _ (.head _)),List.forall_mem_cons.mpr ⟨.tail _ (.tail _ (.tail _ (.head _))),List.forall_mem_cons.mpr ⟨.tail _ (.tail _ (.tail _ (.tail _ (.head _)))),fun _ h=>nomatch h⟩⟩⟩⟩
theorem B5 {N:Nat} {hp ft:Heap} (k:∀b o,b∉[N+4,N+3,N,N+1]->hp.get? b=some o->ft.get? b=some o):∀b o,b∉zW N->hp.get? b=some o->ft.get? b=some o:=fun b o hb=>k b o fun hm=>hb (IM b hm)
theorem IL {N l1 l2:Addr} {P:Addr->Prop} (d1:P l1) (d2:P l2):∀b∈[N+4,N+2,N+3,N,N+1,l1,l2],b∈zW N∨P b:=
  List.forall_mem_cons.mpr ⟨.inl (.head _),List.forall_mem_cons.mpr ⟨.inl (.tail _ (.head _)),List.forall_mem_cons.mpr ⟨.inl (.tail _ (.tail _ (.head _))),List.forall_mem_cons.mpr ⟨.inl (.tail _ (.tail _ (.tail _ (.head _)))),List.forall_mem_cons.mpr ⟨.inl (.tail _ (.tail _ (.tail _ (.tail _ (.head _))))),List.forall_mem_cons.mpr ⟨.inr d1,List.forall_mem_cons.mpr ⟨.inr d2,fun _ h=>nomatch h⟩⟩⟩⟩⟩⟩⟩
noncomputable def sM (N l1 l2:Addr) (us ws:Array Value) (k:Nat) (h:Heap):Prop:=
  IsZip h (N+4) (N+2) (N+3) .none∧IsPair h (N+2) (.ref N) (.ref (N+1))∧(∃a b,IsPair h (N+3) a b)∧h.IsListIter N l1 k∧h.IsListIter (N+1) l2 k∧h.IsList l1 us∧h.IsList l2 ws
theorem E2 {h:Heap} {a l:Addr} {k:Nat} (c:h.IsListIter a l k):∃o,h.get? a=some o:=bq c fun o e _=>⟨o,e⟩
theorem D0 {hp:Heap} {N l1 l2:Addr} {f0:Value} {k1 k2:Nat} (c1:IsZip hp (N+4) (N+2) (N+3) f0) (c2:IsPair hp (N+2) (.ref N) (.ref (N+1))) (c3:∃a b,IsPair hp (N+3) a b) (c4:hp.IsListIter N l1 k1) (c5:hp.IsListIter (N+1) l2 k2):∀b∈zW N,∃o,hp.get? b=some o:=
  sN ⟨_,c1⟩ ⟨_,c2⟩ (xk c3 fun _ _ e=>⟨_,e⟩) (E2 c4) (E2 c5)
theorem nn {a b:Nat} (h:a≠b):@Ne Addr a b:=h
theorem qQ {N l1 l2:Nat} (a1:l1<N) (a2:l2<N):ZipApart (N+4) (N+2) (N+3) N (N+1) l1 l2:=by
  constructor<;>refine nn ?_<;>first | exact Nat.ne_of_lt (Nat.add_lt_add_left (by decide) _) | exact Nat.ne_of_gt (Nat.add_lt_add_left (by decide) _) | exact Nat.ne_of_gt (Nat.lt_add_of_pos_right (by decide)) | exact Nat.ne_of_lt (Nat.lt_add_of_pos_right (by decide)) | exact Nat.ne_of_lt a1 | exact Nat.ne_of_lt a2 | exact Nat.ne_of_lt (Nat.lt_add_right _ a1) | exact Nat.ne_of_lt (Nat.lt_add_right _ a2)
inductive ZI (C:Cx) (R:Addr->Prop) (env:Env) (N:Nat) (c7:St) (s0:Shared) (l1 l2:Addr) (xs ys:List AV) (us ws:List Value) (Inv:Nat->Loc->St->Prop) (m:Nat) (s:Shared):Prop
  | mk {k st ρ}:m=min us.length ws.length-k->k≤min us.length ws.length->bp C (gv R (zW N)) st s->bA C s.heap (gv R (zW N)) st env ρ->fe env.locals c7 s0 st s->sM N l1 l2 us.toArray ws.toArray k s.heap →
      bY C s.heap (dm (gv R (zW N)) st) xs us->bY C s.heap (dm (gv R (zW N)) st) ys ws->Inv k ρ st->ZI C R env N c7 s0 l1 l2 xs ys us ws Inv m s
inductive LH (C:Cx) (r:Nat) (x y:Nm) (b:List PS) (ρ:Loc) (Q:Fl->Loc->St->Prop) (avs:List AV) (ao:St):Prop
  | mk (xs ys:List AV):avs=[.lst xs,.lst ys]->(Inv:Nat->Loc->St->Prop)->Inv 0 ρ ao →
      (∀k ρ' ag,k<xs.length->k<ys.length->Inv k ρ' ag->X C r b (putK (putK ρ' x (xs.getD k .none)) y (ys.getD k .none)) ag (Jc (Inv (k+1)) Q)) →
      (∀ρ' ag,Inv (min xs.length ys.length) ρ' ag->Q .next ρ' ag)->LH C r x y b ρ Q avs ao
theorem sJ {A:Around} {env:Env} {s1:Shared} {ao:St} {x y:Nm} {b:List PS} {t t0:Tr} {Q:Fl->Loc->St->Prop} {xs ys:List AV} {us ws:List Value} {l1 l2 N:Addr} {h1:Heap} {kk:Nat} {pt:Pos} (Inv:Nat->Loc->St->Prop) (i0:Inv 0 ρ ao)
    (step:∀k ρ' ag,k<xs.length->k<ys.length->Inv k ρ' ag->X C r b (putK (putK ρ' x (xs.getD k .none)) y (ys.getD k .none)) ag (Jc (Inv (k+1)) Q))
    (fin:∀ρ' ag,Inv (min xs.length ys.length) ρ' ag->Q .next ρ' ag) (hv:ck env) (hr:d9 A r) (pH:me env.scope [x,y]=true) (hb:rg env.scope b t=true) (S1:bp C R ao s1) (L1:bA C s1.heap R ao env ρ) (eN:s1.heap.objs.size=N)
    (d1:(∃o,s1.heap.get? l1=some o)∧¬dm R ao l1) (d2:(∃o,s1.heap.get? l2=some o)∧¬dm R ao l2) (hu:bY C s1.heap (dm R ao) xs us) (hw:bY C s1.heap (dm R ao) ys ws)
    (k1:∀b o,s1.heap.get? b=some o->h1.get? b=some o) (g0:sM N l1 l2 us.toArray ws.toArray 0 h1) {E:Value->Shared->Prop} :
    codeAny C.M A (.forLoop (.Tuple (dN [x,y] t0) kk pt) (.ref (N+4)) (pN b t) [] env) (I9 (jg C R env ao s1 Q) E) {s1 with heap:=h1,toks:=s1.toks}:=by
  have lt:∀{l},((∃o,s1.heap.get? l=some o)∧¬dm R ao l)->@LT.lt Nat _ l N:=fun d=>xE d.1 fun o e=>eN▸Heap.lt_size e
  have W:=WalksT.zip2 (prog:=C.prog) (w:=C.w) (A:=A) hr.handled (N+4) (N+2) (N+3) N (N+1) l1 l2 (qQ (lt d1) (lt d2)) us.toArray ws.toArray
  have V7:=hu.length
  have V5:=hw.length
  have vb:∀b∈zW N,s1.heap.objs.size≤b:=eN.symm▸Lc
  have hR:∀b∈zW N,¬R b:=fun b hm h=>xE (S1.under b h) fun o e=>bR (vb b hm) e
  have pK:env.locals∉zW N:=fun hm=>hR _ hm L1.inR
  refine codeAny_forLoop_any (ZI C R env N ao s1 l1 l2 xs ys us ws Inv) ?_ (min us.length ws.length) ?_
  · intro m s ⟨em,hk,S,L,x0,g,gu,gw,hI⟩
    subst em
    rename_i k st ρ'
    by_cases mT:k<min us.length ws.length
    · refine W.item k s _ _ (by simpa using mT) g fun T vals h' tk hP hT Wj hM k'=>bS hP fun vx vy Yn Ym ev=>?_
      have k2:=B5 k'
      have S':bp C (gv R (zW N)) st {s with heap:=h',toks:=tk}:=S.moved k2 (D1 hM fun m1 m2 m3 m4 z _=>D0 m1 m2 (xk m3 fun a b e=>⟨_,_,e⟩) m4 z)
      have Vu:fe env.locals ao s1 st {s with heap:=h',toks:=tk}:=x0.moved vb k2
      refine W.go _ _ _ k T _ _ _ hM fun vg Wt Px=>?_
      have k3:=B5 Px
      have Xp:bp C (gv R (zW N)) st {s with heap:=vg,toks:=tk}:=bp.moved (s:={s with heap:=h',toks:=tk}) S' k3 (D1 Wt fun m1 m2 m3 m4 z _=>D0 m1 m2 m3 m4 z)
      have Vt:fe env.locals ao s1 st {s with heap:=vg,toks:=tk}:=fe.moved (s:={s with heap:=h',toks:=tk}) Vu vb k3
      have Pw:∀b o,b∉zW N->s.heap.get? b=some o->vg.get? b=some o:=fun b o hb e=>k3 b o hb (k2 b o hb e)
      have up:=HS (R:=R) (st:=st) Pw
      have Xs:bA C vg (gv R (zW N)) st env ρ':=L.over L.inR L.nd (fun o e=>Pw _ o pK e) up
      have MZ:vg.IsTuple T #[vx,vy]:=bq (ev▸Wj) fun o ho q=>⟨o,Px T o (W.apart k T h' hM) ho,q⟩
      refine j4 (EU (M:=C.M) (env:=env) (xs:=[x,y]) (t:=t0)) fun i1 i2 i3=>?_
      refine wpAny_assign_Tuple (s:={s with heap:=vg,toks:=tk}) hr.handled MZ i1 i2 fun h3 eb=>?_
      have kk:∀b o,vg.get? b=some o->h3.get? b=some o:=fun b o e=>eb b o (Nat.ne_of_lt (Heap.lt_size e)) e
      have S3:bp C (gv R (zW N)) st {s with heap:=h3,toks:=tk}:=bp.gE (s:={s with heap:=vg,toks:=tk}) Xp kk
      have Lh:Ext st {s with heap:=vg,toks:=tk} st {s with heap:=h3,toks:=tk}:=Ext.gE (s:={s with heap:=vg,toks:=tk}) kk
      have L3:bA C h3 (gv R (zW N)) st env ρ':=bA.up (s:={s with heap:=vg,toks:=tk}) Xs Lh
      have Wr:=(gu.up up).up Lh.up
      have Wq:=(gw.up up).up Lh.up
      have V9:k<us.length:=Nat.lt_of_lt_of_le mT (Nat.min_le_left _ _)
      have V8:k<ws.length:=Nat.lt_of_lt_of_le mT (Nat.min_le_right _ _)
      have Xx:=Vt.trans Lh.l
      clear hP hT Wj hM k' Px k2 k3 Pw S' L Xs S Vu eb kk MZ x0 g up gu gw
      refine wpAny_mono (E:=c9) (D5 (s:={s with heap:=h3,toks:=tk}) hv i3 (Gf pH) (avs:=[xs.getD k .none,ys.getD k .none]) rfl ⟨vx,_,rfl,EW Wr V9 Yn,vy,_,rfl,EW Wq V8 Ym,rfl⟩ S3 L3 fun s4 S4 x4 L4=>?_) (fun _ _ z=>z) fun _ _ z=>z.elim
      refine wpAny_mono (E:=c9) (X.run (step k ρ' st (V7▸V9) (V5▸V8) hI) hb hv hr S4 L4 fun f s5 fl ρ5 tv hf S5 x5 L5 q=>?_) (fun _ _ z=>z) fun _ _ z=>z.elim
      have Xw:=(Lh.l.trans x4).trans x5
      have Vw:=(Xx.trans x4).trans x5
      cases fl with
      | next=>
        cases hf
        refine ⟨min us.length ws.length-(k+1),by exact Vi mT,.mk rfl mT S5 L5 Vw (W.frame _ _ _ Wt fun b hm o e=>?_) ?_ ?_ q⟩
        · have hb:b∈zW N∨((∃o,s1.heap.get? b=some o)∧¬dm R ao b):=IL (P:=fun b=>(∃o,s1.heap.get? b=some o)∧¬dm R ao b) d1 d2 b hm
          have K5:b≠env.locals:=fun q=>hb.elim (fun h=>pK (q▸h)) fun h=>h.2 (.inr (q▸L1.inR))
          exact Xw.keep b o K5 e (hb.elim (fun h d=>d (Xp.apart b (.inr h))) fun h=>xE h.1 fun ob h2=>Vt.dm b ob K5 h2 fun d=>h.2 (.inl d))
        · exact Wr.up ((x4.trans x5).up L3.inR)
        · exact Wq.up ((x4.trans x5).up L3.inR)
      | ret rv=>exact bq hf fun u e hu=>e▸Df (fl:=.ret rv) ⟨u,rfl,hu.up (D2 fun _=>.inl)⟩ (S5.I6 fun _=>.inl) Vw (L5.over L1.inR L5.nd (fun _ e=>e) (D2 fun _=>.inl)) q
    · have ek:k=min us.length ws.length:=by exact Vh hk mT
      subst ek
      exact W.done s _ _ (by simpa [sM] using g) fun h' tk k'=>wpAny_execs_nil (CG (S.left (B5 k') hR) (x0.moved vb (B5 k')) (L.over L1.inR L.nd (fun o e=>B5 k' _ o pK e) fun b o e nd=>⟨B5 k' b o (fun hm=>nd (.inr (.inr hm))) e,fun d=>nd (d.imp id .inl)⟩) (fin ρ' st (V7▸V5▸hI)))
  · exact xA (S1.VI (n:=s1.toks) k1 vb (D1 g0 fun m1 m2 m3 m4 z _=>D0 m1 m2 m3 m4 z)) fun S2 KH=>.mk rfl (Nat.zero_le _) S2 (L1.over (.inl L1.inR) L1.nd (fun o e=>k1 _ o e) KH) ⟨fun b o _ e _=>k1 b o e,fun _ _ _ _ n=>n,rfl⟩ g0 (hu.up KH) (hw.up KH) i0
theorem wG {x y:Nm} {i j:PE} {b:List PS} {Q:Fl->Loc->St->Prop} (h:Es C r [i,j] ρ st (LH C r x y b ρ Q)):X1 C r (.pM x y i j b) ρ st Q:=.mk fun R A env t s he hv hr S L=>
  wpAny_For (FY (f:=.n9) (t:=t.a 1) rfl h (a1 (a2 he)) hv hr S L fun vs s1 avs ao i6 S1 x1 L1 ⟨xs,ys,ea,Inv,i0,step,fin⟩=>by
    subst ea
    refine bY.c2 i6 fun v1 v2 w1 w2=>bP w1 fun l1 us e1 n1 p1 q1=>bP w2 fun l2 ws e2 n2 p2 q2=>?_
    subst e1 e2
    have P8:=p1.isList
    have jr:=p2.isList
    refine call_zip_2 P8 jr fun h1 hz Y0 YZ rz YM nk k1=>wpAny_pyIter_zip hz ?_
    exact codeAny_mono (sJ Inv i0 step fin hv hr (a1 he) (a2 (a2 he)) S1 L1 rfl ⟨bq P8 fun o e _=>⟨o,e⟩,n1⟩ ⟨bq jr fun o e _=>⟨o,e⟩,n2⟩ q1.1 q2.1 k1 ⟨hz,Y0,⟨_,_,YZ⟩,rz,YM,P8.at (fun o e=>k1 _ o e),jr.at (fun o e=>k1 _ o e)⟩) fun _ _ hh=>I9.imp (fun _ _ hh=>eX hh fun _ _ _ a b c d e=>Df a b (x1.l.trans c) d e) hh)
    (fun _=>BD rfl)
end Mine
end
section
namespace Mine
variable {C:Cx} {R:Addr->Prop} {r:Nat} {ρ:Loc} {st:St} {Q:AV->St->Prop}
theorem so {a:Addr} {b:AV} {vs ws:List AV} (h:st a=some (.list vs)) (hb:eL st b=some ws) (q:Q .none (st.upd a (.list (vs++ws)))) (hz:vs.length+ws.length≤1000000):Mine.Cl C (.builtin "list.extend") [.ref a,b] st Q:=by
  intro R A xs s hh hu S hx
  refine qR hx ?_;clear hx;intro w _ mE Zn x _ Zm hv hx;subst mE;subst Zn;subst Zm
  obtain rfl:=hx.nil
  refine dR (S.obj _ _ h) fun ys sS hy Yj=>?_;obtain ⟨n,ha⟩:=sS
  refine bP (BM S hv hb) fun p zs mE OR xf _=>?_;subst mE;obtain ⟨m,hp⟩:=OR
  have l1:=hy.length
  have l2:=xf.length
  have MH:Builtin.List.listTooLong (ys.toArray.size+zs.toArray.size)=false:=by
    unfold Builtin.List.listTooLong
    rw [List.size_toArray,List.size_toArray,l1,l2]
    exact decide_eq_false (by rw [CL];exact Vg hz l1 l2)
  refine call_meets PySem.F.slot_list_extend ⟨_,ha,rfl⟩ PySem.F.entry_list_extend (PySem.F.args_list_extend_2 _ _) (AutoSeq1.list_extend_list_list_0 a ys.toArray n p zs.toArray m (by rw [MH];simp) (by simp [CL];exact Vf hz Yj (by assumption) l1 l2) (by simp [CL];exact Xl hz l1 l2)) ⟨ha,hp,?_⟩
  have sb:Heap.SameBut a s.heap (s.heap.update a (Obj.mapSeq fun x=>x++zs.toArray)):=Heap.SameBut.update ..
  have up:Up s.heap (dm R st) (s.heap.update a (Obj.mapSeq fun x=>x++zs.toArray)) (dm R st):=fun b o e nb=>⟨(sb.2 b (fun q=>nb (q▸Ek h))).trans e,nb⟩
  have:=PySem.IsL.update ha (fun x=>x++zs.toArray)
  refine ⟨.none,st.upd a (.list (vs++ws)),rfl,S.set (n:=s.toks) (o':=.list (vs++ws)) h sb ⟨ys++zs,⟨_,by simpa using this⟩,(hy.up up).append (xf.up up),by simp;exact Xl hz l1 l2⟩,Ext.set (n:=s.toks) h sb,q⟩
theorem wX {e f:PE} (h:E C r e ρ st (fun a ao=>∃b vs,a=.ref b∧ao b=some (.list vs)∧E C r f ρ ao (fun v bg=>∃us ws,bg b=some (.list us)∧eL bg v=some ws∧us.length+ws.length≤1000000∧Q .none (bg.upd b (.list (us++ws)))))):E C r (.aB e .oa [f]) ρ st Q:=
  EH PySem.F.slot_list_extend PySem.F.type_list_extend (h.mono fun a ao ⟨b,vs,e,h1,h2⟩=>⟨e▸F6 (congrArg kW h1),Ec (h2.mono fun v bg ⟨us,ws,h3,h4,h5,h6⟩=>En (e▸so h3 h4 h6 h5))⟩)
end Mine
end
section
namespace Mine
variable {C:Cx} {r:Nat} {ρ:Loc} {st:St}
theorem aZ {a:Addr} {o:bQ}:(st.upd a o) a=some o:=if_pos rfl
theorem Aw {a b:Addr} {o:bQ} (h:b≠a):(st.upd a o) b=st b:=if_neg h
theorem AK {a d:Addr} {c:Nm} {fs:List (Nm×AV)} (h1:st a=some (.inst c d)) (h2:st d=some (.aD fs)):objOf st (.ref a)=some (c,fs):=by show (K8 (st a)).bind _=_;rw [h1];show (Kb (st d)).map _=_;rw [h2];rfl
theorem At {a d:Addr} {c n:Nm} {fs:List (Nm×AV)} {v:AV} (h1:st a=some (.inst c d)) (h2:st d=some (.aD fs)) (hn:n∈iq c) (hv:ae fs n=some v):gp st (.ref a) n=some v:=
  (congrArg (Option.bind · _) (AK h1 h2)).trans ((if_pos hn).trans hv)
theorem Ab {c n:Nm} {fs:List (Nm×AV)} {v:AV} (hn:n∈iq c) (hv:ae fs n=some v):gp st (.obj c fs) n=some v:=(if_pos hn:J9 c fs n=_).trans hv
theorem An {c:Nm} {fs:List (Nm×AV)} {i:Int} (hn:Nm.b9∉iq c) (hf:ae fs .b9=none) (hk:uR c=some i):gp st (.obj c fs) .b9=some (.int i):=
  (if_neg hn:J9 c fs .b9=_).trans ((if_pos ⟨rfl,hf⟩).trans (congrArg _ hk))
theorem eT {a:Addr} {o o':bQ}:(st.upd a o).upd a o'=st.upd a o':=funext fun b=>by
  by_cases q:b=a
  · exact (if_pos q).trans (if_pos q).symm
  · exact (if_neg q).trans ((if_neg q).trans (if_neg q).symm)
theorem Gn {a:Addr} {o:bQ} (h:st a=none):(st.upd a o).del a=st:=funext fun b=>by
  by_cases q:b=a
  · exact (if_pos q).trans (q▸h.symm)
  · exact (if_neg q).trans (if_neg q)
theorem Es.mono {es:List PE} {Q Q':List AV->St->Prop} (h:Es C r es ρ st Q) (hq:∀a t,Q a t->Q' a t):Es C r es ρ st Q':=
  .mk fun R A env t pos s a b c d e=>wpAny_mono (h.d R A env t pos s a b c d e) (fun _ _ ⟨av,ag,u,v,w,q⟩=>⟨av,ag,u,v,w,hq _ _ q⟩) fun _ _ x=>x
section
variable {Q:AV->St->Prop}
theorem Cf {b:Addr} {vs:List AV} (h:st b=none):JK (st.upd b (.list vs)) (.ref b)=some (.lst vs,st):=
  (congrArg (fun o=>(kW o).elim _ _) aZ).trans (congrArg (fun z=>some (AV.lst vs,z)) (Gn h))
theorem G4 {b:Addr} {es:List (Int×AV)} (h:st b=none):JK (st.upd b (.dict es)) (.ref b)=some (.kC es,st):=by
  show (kW (st.upd b (.dict es) b)).elim ((o4 (st.upd b (.dict es) b)).elim _ _) _=_
  rw [aZ];exact congrArg (fun z=>some (AV.kC es,z)) (Gn h)
inductive VK (Q:AV->St->Prop) (vs:List AV) (ao:St):Prop
  | mk:(vs.length≤1000)->(Q (.lst vs) ao)->VK Q vs ao
theorem Ah {es:List PE} (h:Es C r es ρ st (VK Q)):E C r (.freeze (.list es)) ρ st Q:=
  AD (B4 (h.mono fun _ _ ⟨z,q⟩=>⟨z,fun _ hc=>⟨_,_,Cf hc,q⟩⟩))
theorem Bg {e:PE} {lo hi:Option PE} (h:E C r e ρ st (fun a ao=>Eo C r lo ρ ao (fun i bg=>Eo C r hi ρ bg (fun j eJ=>∃vs,md eJ a=some vs∧vs.length≤1000000∧Q (.lst (fh vs i j)) eJ)))) :
    E C r (.freeze (.slice e lo hi)) ρ st Q:=by
  have eo:∀{o:Option PE} {st:St} {K K':Option Int->St->Prop},Eo C r o ρ st K->(∀i s,K i s->K' i s)->Eo C r o ρ st K':=by
    intro o st K K' h hk
    cases o with
    | none=>exact hk _ _ h
    | some o=>exact E.mono h fun a t ⟨i,e,q⟩=>⟨i,e,hk _ _ q⟩
  exact AD (qL (h.mono fun a ao h1=>eo h1 fun i bg h2=>eo h2 fun j eJ ⟨vs,e1,e2,q⟩=>⟨vs,e1,e2,fun c hc=>⟨_,_,Cf hc,q⟩⟩))
inductive z0 (Q:AV->St->Prop) (a:AV) (ao:St):Prop
  | mk:∀vs,(md ao a=some vs)->(vs.length≤1000000)->(Q (.lst vs.reverse) ao)->z0 Q a ao
theorem Ku {e:PE} (h:E C r e ρ st (z0 Q)):E C r (.freeze (.rev e)) ρ st Q:=
  AD (Oa (h.mono fun _ _ ⟨vs,e1,e2,q⟩=>⟨vs,e1,e2,fun _ hc=>⟨_,_,Cf hc,q⟩⟩))
inductive t5 (a:AV) (Q:AV->St->Prop) (b:AV) (bg:St):Prop
  | mk:∀xs ys,(eL bg a=some xs)->(eL bg b=some ys)->(xs.length+ys.length≤1000000)->(Q (.lst (xs++ys)) bg)->t5 a Q b bg
abbrev LY (C:Cx) (r:Nat) (rr:PE) (ρ:Loc) (Q:AV->St->Prop):AV->St->Prop:=fun a ao=>E C r rr ρ ao (t5 a Q)
theorem C1 {l rr:PE} (h:E C r l ρ st (LY C r rr ρ Q)) :
    E C r (.freeze (.bin .add l rr)) ρ st Q:=
  AD (Oc (h.mono fun _ _ h1=>h1.mono fun _ _ ⟨xs,ys,e1,e2,e3,q⟩=>⟨xs,ys,e1,e2,e3,fun _ hc=>⟨_,_,Cf hc,q⟩⟩))
inductive t4 (Q:AV->St->Prop) (a:AV) (ao:St):Prop
  | mk:∀vs,(eL ao a=some vs)->(vs.length≤1000000)->(Q (.lst vs) ao)->t4 Q a ao
theorem EG {e:PE} (h:E C r e ρ st (t4 Q)):E C r (.freeze (.call .jl [e])) ρ st Q:=
  AD (BG (v:=.type "list") rfl (Ec (h.mono fun _ _ ⟨_,e1,e2,q⟩=>En (zD e1 e2 fun _ hc=>⟨_,_,Cf hc,q⟩))))
theorem wW (q:Q (.kC []) st):E C r (.freeze (.dict [] [])) ρ st Q:=AD (De fun _ hc=>⟨_,_,G4 hc,q⟩)
inductive t6 (Q:AV->St->Prop) (a:AV) (ao:St):Prop
  | mk:∀es,(gI ao a=some es)->(es.length≤1000000)->(∀b,ao b=none->Q (.ref b) (ao.upd b (.dict es)))->t6 Q a ao
theorem qN {e:PE} (h:E C r e ρ st (t6 Q)):E C r (.call .lM [e]) ρ st Q:=
  BG (v:=.type "dict") rfl (Ec (h.mono fun _ _ ⟨_,e1,e2,q⟩=>En (zE e1 e2 q)))
inductive LQ (Q:AV->St->Prop) (a:AV) (ao:St):Prop
  | mk:∀vs,(eL ao a=some vs)->(vs.length≤1000000)->(Q (.int vs.length) ao)->LQ Q a ao
theorem AX {e:PE} (h:E C r e ρ st (LQ Q)):E C r (.call .bZ [e]) ρ st Q:=
  BG (v:=.builtin "len") rfl (Ec (h.mono fun a ao ⟨vs,e1,e2,q⟩=>En (Ky e1 q e2)))
end
noncomputable def cf (st:St) (a d:Addr) (c:Nm) (fs:List (Nm×AV)):St:=(st.upd d (.aD fs)).upd a (.inst c d)
theorem GG {a d:Addr} {c:Nm} {fs:List (Nm×AV)}:cf st a d c fs a=some (.inst c d):=aZ
theorem GF {a d:Addr} {c:Nm} {fs:List (Nm×AV)} (h:a≠d):cf st a d c fs d=some (.aD fs):=(Aw (Ne.symm h)).trans aZ
theorem Gb {a d:Addr} {c:Nm} {fs gs:List (Nm×AV)} (h:a≠d):(cf st a d c fs).upd d (.aD gs)=cf st a d c gs:=funext fun b=>by
  by_cases q:b=d
  · subst q;exact (if_pos rfl).trans (GF h).symm
  · refine (if_neg q).trans ?_
    by_cases q':b=a
    · exact (if_pos q').trans (if_pos q').symm
    · exact (if_neg q').trans ((if_neg q).trans ((if_neg q').trans (if_neg q)).symm)
theorem CA {a d:Addr} {c:Nm} {fs:List (Nm×AV)} (h1:st a=none) (h2:st d=none) (h:a≠d):JK (cf st a d c fs) (.ref a)=some (.obj c fs,st):=by
  show (kW (cf st a d c fs a)).elim ((o4 (cf st a d c fs a)).elim (JJ _ a) _) _=_
  rw [GG]
  show (K8 (cf st a d c fs a)).bind _=_
  rw [GG]
  show (Kb (cf st a d c fs d)).map _=_
  rw [GF h]
  refine congrArg (fun z=>some (AV.obj c fs,z)) (funext fun b=>?_)
  by_cases q:b=d
  · exact (if_pos q).trans (q▸h2.symm)
  · refine (if_neg q).trans ?_
    by_cases q':b=a
    · exact (if_pos q').trans (q'▸h1.symm)
    · exact (if_neg q').trans ((if_neg q').trans (if_neg q))
inductive zV (a d:Addr) (c n:Nm) (fs:List (Nm×AV)) (st:St) (ρ:Loc) (Q:Fl->Loc->St->Prop) (v:AV) (ag:St):Prop
  | mk:(ag=cf st a d c fs)->(Q .next ρ (cf st a d c (putK fs n v)))->zV a d c n fs st ρ Q v ag
theorem Ay {n:Nm} {e:PE} {a d:Addr} {c:Nm} {fs:List (Nm×AV)} {Q:Fl->Loc->St->Prop} (hs:ae ρ .aj=some (.ref a)) (mq:a≠d) (hn:n∈iq c) (hz:fs.length≤1000)
    (h:E C r e ρ (cf st a d c fs) (zV a d c n fs st ρ Q)):X1 C r (.aP (.loc .aj) n e) ρ (cf st a d c fs) Q:=
  BQ (h.mono fun v ag ⟨e,q⟩=>e▸El hs ⟨a,c,d,fs,rfl,GG,GF mq,hn,hz,(Gb mq).symm▸q⟩)
noncomputable def gd (C:Cx) (r:Nat) (c:Nm) (avs:List AV) (fs:List (Nm×AV)):Prop:=∀st a d,a≠d->∃p,om c .aF=some p∧avs.length+1=p.1.length∧X C r p.2 (p.1.zip (.ref a::avs)) (cf st a d c []) (fun fl _ ag=>fl=.next∧ag=cf st a d c fs)
inductive zX (C:Cx) (r:Nat) (c:Nm) (Q:AV->St->Prop) (avs:List AV) (ao:St):Prop
  | mk:∀fs,(gd C r c avs fs)->(∀a d,ao a=none->ao d=none->a≠d->Q (.ref a) (cf ao a d c fs))->zX C r c Q avs ao
theorem Dr {c:Nm} {as:List PE} {Q:AV->St->Prop} (hc:c∈dX) (hm:(om c .aF).isSome=true) (h:Es C (r+2) as ρ st (zX C r c Q)) :
    E C (r+2) (.call c as) ρ st Q:=by
  refine xE (Option.isSome_iff_exists.mp hm) fun p hp=>F2 hc hp (h.mono fun avs ag ⟨fs,hI,q⟩ x y hx hy pH=>dR (hI ag x y pH) fun p' ft hl hX=>?_)
  cases Option.some.inj (hp.symm.trans ft)
  exact Ag (C.aB c _ p hp).2.2.2 hl (hX.mono fun fl ρ' dG z=>xA z fun e1 e2=>e1▸e2▸⟨rfl,q x y hx hy pH⟩)
inductive z3 (C:Cx) (r:Nat) (c:Nm) (Q:AV->St->Prop) (avs:List AV) (ao:St):Prop
  | mk:∀fs,(gd C r c avs fs)->(Q (.obj c fs) ao)->z3 C r c Q avs ao
theorem Ax {c:Nm} {as:List PE} {Q:AV->St->Prop} (hc:c∈dX) (hm:(om c .aF).isSome=true) (h:Es C (r+2) as ρ st (z3 C r c Q)) :
    E C (r+2) (.freeze (.call c as)) ρ st Q:=
  AD (Dr hc hm (h.mono fun _ _ ⟨fs,hI,q⟩=>⟨fs,hI,fun _ _ hx hy pH=>⟨_,_,CA hx hy pH,q⟩⟩))
theorem Cz {v:AV}:gd C r .fE [v] [(.aT,v)]:=fun st a d h=>⟨_,rfl,rfl,Xc (Ay rfl h (by decide) (by decide) (El rfl ⟨rfl,Ac ⟨rfl,rfl⟩⟩))⟩
theorem Hy {v:AV}:gd C r .gb [v] [(.aU,v)]:=fun st a d h=>⟨_,rfl,rfl,Xc (Ay rfl h (by decide) (by decide) (El rfl ⟨rfl,Ac ⟨rfl,rfl⟩⟩))⟩
theorem GZ {v:AV}:gd C r .eH [v] [(.bJ,v)]:=fun st a d h=>⟨_,rfl,rfl,Xc (Ay rfl h (by decide) (by decide) (El rfl ⟨rfl,Ac ⟨rfl,rfl⟩⟩))⟩
theorem GX {v:AV}:gd C r .jP [v] [(.eV,v)]:=fun st a d h=>⟨_,rfl,rfl,Xc (Ay rfl h (by decide) (by decide) (El rfl ⟨rfl,Ac ⟨rfl,rfl⟩⟩))⟩
theorem CR {u v:AV}:gd C r .cG [u,v] [(.bJ,u),(.aT,v)]:=fun st a d h=>⟨_,rfl,rfl,Xc (Ay rfl h (by decide) (by decide) (El rfl ⟨rfl,Xc (Ay rfl h (by decide) (aw rfl) (El rfl ⟨rfl,Ac ⟨rfl,rfl⟩⟩))⟩))⟩
end Mine
end
section
namespace Mine
variable {C:Cx} {r:Nat} {ρ:Loc} {st:St}
theorem d9.le {A:Around} {r r':Nat} (h:d9 A r') (hr:r≤r'):d9 A r:=⟨h.handled,by have:=h.depth;exact Ve this hr,by have:=h.units;exact Vd this hr⟩
theorem Fn.up {f:Addr} {avs:List AV} {Q:AV->St->Prop} {r r':Nat} (h:Fn C r f avs st Q) (hr:r≤r'):Fn C r' f avs st Q:=fun R A vs s a b c=>h R A vs s (a.le hr) b c
inductive qO where | t | f | mB
noncomputable def qO.A:qO->AV | .t=>.bool true | .f=>.bool false | .mB=>.int 5
inductive Tm where
  | cst (k:qO) | loc (n:Int) | bI (s:Int) | set (s:Int) (e:Tm) | bt (a b c:Tm) | lam (l:Int) (ps:List Int) (b:Tm) | call (f:Tm) (as:List Tm) | seq (a b:Tm) | p1 (a:Tm) | p2 (a b:Tm)
mutual
noncomputable def bT:Tm->AV
  | .cst k=>.obj .fE [(.aT,k.A)]
  | .loc n=>.obj .gb [(.aU,.int n)]
  | .bI s=>.obj .eH [(.bJ,.int s)]
  | .set s e=>.obj .cG [(.bJ,.int s),(.aT,bT e)]
  | .bt a b c=>.obj .oh [(.dT,bT a),(.ej,bT b),(.gU,bT c)]
  | .lam l ps b=>.obj .fc [(.aC,.int l),(.aG,.lst (ps.map .int)),(.bc,.int (-1)),(.dp,bT b)]
  | .call f as=>.obj .iC [(.b5,bT f),(.aQ,.lst (iZ as))]
  | .seq a b=>.obj .jP [(.eV,.lst [bT a,bT b])]
  | .p1 a=>.obj .fk [(.cN,.int 8),(.aQ,.lst [bT a])]
  | .p2 a b=>.obj .fk [(.cN,.int 9),(.aQ,.lst [bT a,bT b])]
noncomputable def iZ:List Tm->List AV
  | []=>[]
  | t::r=>bT t::iZ r
end
theorem AZ (l:List Tm):iZ l=l.map bT:=by induction l with | nil=>rfl | cons t r ih=>rw [iZ,List.map_cons,ih]
inductive MV where
  | bool (b:Bool) | int (i:Int) | aA | pair (a b:MV) | fn (l:Int) (ps:List Int) (b:Tm) (σ:List (Int×MV)) | vals
mutual
noncomputable def d6:MV->AV
  | .bool b=>.bool b
  | .int i=>.int i
  | .aA=>.glob
  | .pair a b=>.tup [.str .ng,d6 a,d6 b]
  | .fn l ps b σ=>.tup [.str .aR,bT (.lam l ps b),.kC (kz σ)]
  | .vals=>.tup [.str .ai]
noncomputable def kz:List (Int×MV)->List (Int×AV)
  | []=>[]
  | kv::r=>(kv.1,d6 kv.2)::kz r
end
theorem BV (l:List (Int×MV)):kz l=l.map fun kv=>(kv.1,d6 kv.2):=by induction l with | nil=>rfl | cons t r ih=>rw [kz,List.map_cons,ih]
theorem Ce {β γ:Type} (f:β->γ) (l:List (Int×β)) (k:Int):ae (l.map fun kv=>(kv.1,f kv.2)) k=(ae l k).map f:=by
  induction l with
  | nil=>rfl
  | cons e l ih=>
    obtain ⟨x,v⟩:=e
    rw [List.map_cons,Am,Am,ih]
    by_cases q:x=k
    · rw [if_pos q,if_pos q];rfl
    · rw [if_neg q,if_neg q]
theorem C4 {β γ:Type} (f:β->γ) (l:List (Int×β)) (k:Int) (v:β):putK (l.map fun kv=>(kv.1,f kv.2)) k (f v)=(putK l k v).map fun kv=>(kv.1,f kv.2):=by
  unfold putK
  have:(l.map fun kv=>(kv.1,f kv.2)).any (fun kv=>kv.1=k)=l.any fun kv=>kv.1=k:=by rw [List.any_map];rfl
  rw [this]
  cases l.any fun kv=>kv.1=k with
  | true=>
    show (l.map _).map _=(l.map _).map _
    rw [List.map_map,List.map_map]
    refine List.map_congr_left fun kv _=>?_
    show (if kv.1=k then (kv.1,f v) else (kv.1,f kv.2))=(fun kv=>(kv.1,f kv.2)) (if kv.1=k then (kv.1,v) else kv)
    by_cases q:kv.1=k
    · rw [if_pos q,if_pos q]
    · rw [if_neg q,if_neg q]
  | false=>exact (List.map_append (f:=fun kv:Int×β=>(kv.1,f kv.2)) (l₁:=l) (l₂:=[(k,v)])).symm
theorem yO (l:List (Int×MV)) (k:Int):ae (kz l) k=(ae l k).map d6:=by rw [BV,Ce]
theorem xV (l:List (Int×MV)) (k:Int) (v:MV):putK (kz l) k (d6 v)=kz (putK l k v):=by rw [BV,BV,C4]
inductive Sh where | proc | deep | nothing | pair (a b:Sh) | at (b:Bool) (i:Int)
noncomputable def jY:Sh->AV
  | .proc=>.str .ky
  | .deep=>.str .kf
  | .nothing=>.str .mQ
  | .pair a b=>.tup [jY a,jY b]
  | .at b i=>.tup [.bool b,.int i]
noncomputable def cut:Nat->MV->Sh
  | _,.fn ..=>.proc
  | _,.vals=>.proc
  | n+1,.pair a b=>.pair (cut n a) (cut n b)
  | 0,.pair ..=>.deep
  | _,.aA=>.nothing
  | _,.bool b=>.at true (if b then 1 else 0)
  | _,.int i=>.at false i
abbrev here (st:St) (v:AV):AV->St->Prop:=fun x ag=>x=v∧st=ag
theorem Gh:∀(n:Nat) (v:MV),Fn C (n+1) (C.fa .dC) [d6 v,.int n] st (here st (jY (cut n v)))
  | n,v=>by
    refine Ag (C.dM .dC _ rfl).2.1 rfl ?_
    cases v with
    | bool b=>
      refine Xc (Ao (AB (AA (El rfl ⟨false,rfl,false,rfl,Ac ?_⟩))))
      refine Xc (Aq (AE (Al (El rfl (Bx ⟨false,rfl,?_⟩)))))
      refine AC (Ec (AA (El rfl ⟨true,rfl,Ec (BG (v:=.type "int") rfl (Ec (El rfl (En (Ep (En ⟨aw rfl,?_⟩))))))⟩)))
      cases n<;>exact ⟨rfl,rfl⟩
    | int i=>
      refine Xc (Ao (AB (AA (El rfl ⟨false,rfl,false,rfl,Ac ?_⟩))))
      refine Xc (Aq (AE (Al (El rfl (Bx ⟨false,rfl,?_⟩)))))
      refine AC (Ec (AA (El rfl ⟨false,rfl,Ec (BG (v:=.type "int") rfl (Ec (El rfl (En (Fo (En ⟨aw rfl,?_⟩))))))⟩)))
      cases n<;>exact ⟨rfl,rfl⟩
    | aA=>
      refine Xc (Ao (AB (AA (El rfl ⟨false,rfl,false,rfl,Ac ?_⟩))))
      refine Xc (Aq (AE (Al (El rfl (Bx ⟨true,rfl,Ak ?_⟩)))))
      cases n<;>exact ⟨rfl,rfl⟩
    | vals=>
      refine Xc (Ao (AB (AA (El rfl ⟨true,rfl,true,rfl,?_⟩))))
      refine Xc (Ao (Al (Ai (El rfl (Ae ⟨_,rfl,Ak ⟨true,rfl,Xc (Aq (Ak ?_))⟩⟩)))))
      cases n<;>exact ⟨rfl,rfl⟩
    | fn l ps b σ=>
      refine Xc (Ao (AB (AA (El rfl ⟨true,rfl,true,rfl,?_⟩))))
      refine Xc (Ao (Al (Ai (El rfl (Ae ⟨_,rfl,Ak ⟨true,rfl,Xc (Aq (Ak ?_))⟩⟩)))))
      cases n<;>exact ⟨rfl,rfl⟩
    | pair a b=>
      refine Xc (Ao (AB (AA (El rfl ⟨true,rfl,true,rfl,?_⟩))))
      refine Xc (Ao (Al (Ai (El rfl (Ae ⟨_,rfl,Ak ⟨false,rfl,Ac ?_⟩⟩)))))
      cases n with
      | zero=>exact Xc (Aq (AE (Al (El rfl (Ae ⟨false,rfl,Ak ⟨rfl,rfl⟩⟩)))))
      | succ n=>
        refine Xc (Aq (AE (Al (El rfl (Ae ⟨true,?_,?_⟩)))))
        · show some (decide (((n+1:Nat):Int)>0))=some true
          rw [decide_eq_true (by exact Xe)]
        · have e:(((n+1:Nat):Int)-1)=(n:Int):=by exact OH
          refine AC (Ec (Aj rfl (Ec (Ai (El rfl (Ae ⟨_,rfl,Ec (AT (El rfl (Ae ⟨_,_,_,rfl,rfl,rfl,En ?_⟩)))⟩))))))
          rw [e]
          refine (Gh n a).mono fun x ag ⟨hx,hs⟩=>?_
          subst hx;subst hs
          refine Ec (Aj rfl (Ec (Ai (El rfl (Ae ⟨_,rfl,Ec (AT (El rfl (Ae ⟨_,_,_,rfl,rfl,rfl,En ?_⟩)))⟩)))))
          rw [e]
          refine (Gh n b).mono fun x ag ⟨hx,hs⟩=>?_
          subst hx;subst hs
          exact En ⟨aw rfl,rfl,rfl⟩
end Mine
end
section
namespace Mine
variable {C:Cx} {r:Nat} {ρ:Loc} {st:St}
noncomputable def JF (x:Nm):Option AV:=(rG x).elim ((yR x).map .str) fun i=>some (.int i)
noncomputable def Jr (f:Int->Int->Int) (a b:AV):Option AV:=match a with
  | .int i=>match b with
    | .int j=>some (.int (f i j))
    | _=>none
  | _=>none
noncomputable def NG (op:xh) (a b:AV):Option AV:=match op with
  | .add=>Jr (·+·) a b
  | .sub=>Jr (·-·) a b
  | _=>none
noncomputable def gn:PE->Option Nm
  | .bI T=>some T
  | _=>none
noncomputable def Qy (es:List PE) (o:Option (List AV)) (f:List AV->AV):Option AV:=if es.length≤1000 then o.map f else none
mutual
noncomputable def ev (ρ:Loc) (st:St):PE->Option AV
  | .loc x=>ae ρ x
  | .jU x=>ae ρ x
  | .bI x=>JF x
  | .int i=>some (.int i)
  | .neg i=>some (.int (-i))
  | .str x=>some (.str x)
  | .bool b=>some (.bool b)
  | .none=>some .none
  | .attr e n=>(ev ρ st e).bind fun a=>gp st a n
  | .sub e i=>(ev ρ st e).bind fun a=>(ev ρ st i).bind fun b=>itemOf st a b
  | .bin op l r=>(ev ρ st l).bind fun a=>(ev ρ st r).bind fun b=>NG op a b
  | .cmp op l r=>(ev ρ st l).bind fun a=>(ev ρ st r).bind fun b=>(rK op st a b).map .bool
  | .tup es=>Qy es (rH ρ st es) .tup
  | .freeze e=>Ni ρ st e
  | _=>none
noncomputable def Ni (ρ:Loc) (st:St):PE->Option AV
  | .list es=>Qy es (rH ρ st es) .lst
  | _=>none
noncomputable def rH (ρ:Loc) (st:St):List PE->Option (List AV)
  | []=>some []
  | e::r=>(ev ρ st e).bind fun a=>(rH ρ st r).map fun as=>a::as
end
theorem jV {α β:Type} {o:Option α} {f:α->Option β} {y:β} {P:Prop} (h:o.bind f=some y) (k:∀a,o=some a->f a=some y->P):P:=bq (Option.bind_eq_some_iff.mp h) k
theorem ri {α β:Type} {o:Option α} {f:α->β} {y:β} {P:β->Prop} (h:o.map f=some y) (k:∀a,o=some a->P (f a)):P y:=bq (Option.map_eq_some_iff.mp h) fun a e e2=>e2▸k a e
theorem yV {es:List PE}:∀{vs:List AV},rH ρ st es=some vs->vs.length=es.length:=by
  induction es with
  | nil=>exact fun h=>Option.some.inj h▸rfl
  | cons e r ih=>exact fun h=>jV h fun a _ h=>ri (P:=fun vs=>vs.length=r.length+1) h fun as h'=>congrArg Nat.succ (ih h')
theorem It {es:List PE} {f:List AV->AV} {v:AV} {P:AV->Prop} (h:Qy es (rH ρ st es) f=some v) (k:∀vs,vs.length≤1000->rH ρ st es=some vs->P (f vs)):P v:=by
  by_cases q:es.length≤1000
  · exact ri ((if_pos q).symm.trans h) fun vs e=>k vs (yV e▸q) e
  · exact cp ((if_neg q).symm.trans h)
theorem uY {f:Int->Int->Int} {a b v:AV} {P:AV->AV->AV->Prop} (h:Jr f a b=some v) (k:∀i j,P (.int i) (.int j) (.int (f i j))):P a b v:=by
  cases a with
  | int i=>
    cases b with
    | int j=>exact Option.some.inj h▸k i j
    | _=>exact cp h
  | _=>exact cp h
theorem J8 {op:xh} {a b v:AV} {Q:AV->St->Prop} (h:NG op a b=some v) (q:Q v st):nZ op a Q b st:=by
  cases op with
  | add=>exact uY (P:=fun a b v=>Q v st->nZ .add a Q b st) h (fun i j q=>⟨i,j,_,rfl,rfl,rfl,q⟩) q
  | sub=>exact uY (P:=fun a b v=>Q v st->nZ .sub a Q b st) h (fun i j q=>⟨i,j,_,rfl,rfl,rfl,q⟩) q
  | _=>exact cp h
theorem Vr {x:Nm} {v:AV} {Q:AV->St->Prop} (h:JF x=some v) (q:Q v st):E C r (.bI x) ρ st Q:=by
  unfold JF at h
  cases e:rG x with
  | some i=>rw [e] at h;exact Ar e (Option.some.inj h▸q)
  | none=>rw [e] at h;exact ri (P:=fun v=>Q v st->_) h (fun y h'=>C0 h') q
noncomputable def Vv (C:Cx) (r:Nat) (ρ:Loc) (st:St) (e:PE):Prop:=∀v Q,ev ρ st e=some v->Q v st->E C r e ρ st Q
noncomputable def N1 (C:Cx) (r:Nat) (ρ:Loc) (st:St) (e:PE):Prop:=∀v Q,Ni ρ st e=some v->Q v st->E C r (.freeze e) ρ st Q
noncomputable def ZR (C:Cx) (r:Nat) (ρ:Loc) (st:St) (es:List PE):Prop:=∀vs Q,rH ρ st es=some vs->Q vs st->Es C r es ρ st Q
theorem N9 {e:PE} (h:ev ρ st e=none):Vv C r ρ st e:=fun _ _ h'=>cp (h.symm.trans h')
theorem IE {e:PE} (h:Ni ρ st e=none):N1 C r ρ st e:=fun _ _ h'=>cp (h.symm.trans h')
theorem DY {e:PE} (h:Vv C r ρ st e) (h2:Ni ρ st e=none):Vv C r ρ st e∧N1 C r ρ st e:=⟨h,IE h2⟩
theorem Et {e:PE} (h:ev ρ st e=none) (h2:Ni ρ st e=none):Vv C r ρ st e∧N1 C r ρ st e:=⟨N9 h,IE h2⟩
theorem Kp (e:PE):Vv C r ρ st e∧N1 C r ρ st e:=
  PE.rec (motive_1:=fun e=>Vv C r ρ st e∧N1 C r ρ st e) (motive_2:=fun _=>True) (motive_3:=ZR C r ρ st)
    (fun _=>DY (fun _ _=>El) rfl) (fun _=>DY (fun _ _=>Bo) rfl) (fun _=>DY (fun _ _=>Vr) rfl)
    (fun _=>DY (fun _ _ h q=>Ae (Option.some.inj h▸q)) rfl) (fun _=>DY (fun _ _ h q=>Bc (Option.some.inj h▸q)) rfl) (fun _=>DY (fun _ _ h q=>Ak (Option.some.inj h▸q)) rfl) (fun _=>DY (fun _ _ h q=>Bz (Option.some.inj h▸q)) rfl) (DY (fun _ _ h q=>AJ (Option.some.inj h▸q)) rfl)
    (fun _ _ ih=>DY (fun _ _ h q=>jV h fun _ h1 h2=>Aa (ih.1 _ _ h1 ⟨_,h2,q⟩)) rfl)
    (fun _ _ i1 i2=>DY (fun _ _ h q=>jV h fun _ h1 h=>jV h fun _ h2 h3=>Ai (i1.1 _ _ h1 (i2.1 _ _ h2 ⟨_,h3,q⟩))) rfl)
    (fun _ _ _ _ _ _=>Et rfl rfl) (fun _ _=>Et rfl rfl)
    (fun _ _ _ i1 i2=>DY (fun _ _ h q=>jV h fun _ h1 h=>jV h fun _ h2 h3=>AT (i1.1 _ _ h1 (i2.1 _ _ h2 (J8 h3 q)))) rfl)
    (fun _ _ _ i1 i2=>DY (fun _ Q h q=>jV h fun _ h1 h=>jV h fun _ h2 h3=>ri (P:=fun v=>Q v st->_) h3 (fun k h4 q=>Hj (i1.1 _ _ h1 (i2.1 _ _ h2 ⟨k,h4,q⟩))) q) rfl)
    (fun _ _ _ _=>Et rfl rfl) (fun _ _ _ _=>Et rfl rfl) (fun _ _=>Et rfl rfl) (fun _ _ _ _ _ _=>Et rfl rfl)
    (fun _ ih=>⟨N9 rfl,fun _ Q h q=>It (P:=fun v=>Q v st->_) h (fun _ h1 h2 q=>Ah (ih _ _ h2 ⟨h1,q⟩)) q⟩)
    (fun _ ih=>DY (fun _ Q h q=>It (P:=fun v=>Q v st->_) h (fun _ h1 h2 q=>AC (ih _ _ h2 ⟨h1,q⟩)) q) rfl)
    (fun _ _ _ _=>Et rfl rfl) (fun _ _ _ _ _=>Et rfl rfl) (fun _ _ _=>Et rfl rfl) (fun _ _ _ _ _=>Et rfl rfl)
    (fun _ ih=>DY ih.2 rfl) (fun _ _=>Et rfl rfl) (Et rfl rfl) trivial (fun _ _=>trivial)
    (fun _ _ h q=>En (Option.some.inj h▸q))
    (fun _ _ i1 i2 _ Q h q=>jV h fun _ h1 h=>ri (P:=fun vs=>Q vs st->_) h (fun _ h2 q=>Ec (i1.1 _ _ h1 (i2 _ _ h2 q))) q) e
theorem Lb (e:PE) {v:AV} {Q:AV->St->Prop} (h:ev ρ st e=some v) (q:Q v st):E C r e ρ st Q:=(Kp e).1 v Q h q
theorem Vq (es:List PE):∀{vs:List AV} {Q:List AV->St->Prop},rH ρ st es=some vs->Q vs st->Es C r es ρ st Q:=by
  induction es with
  | nil=>exact fun h q=>En (Option.some.inj h▸q)
  | cons e es ih=>exact fun {_ Q} h q=>jV h fun _ h1 h=>ri (P:=fun vs=>Q vs st->_) h (fun _ h2 q=>Ec (Lb e h1 (ih h2 q))) q
noncomputable def Wv (ρ:Loc) (st:St) (as:List PE):Option Bool:=match as with
  | []=>none
  | e::as=>match as with
    | []=>none
    | g::as=>match as with
      | []=>(gn g).bind fun T=>(ev ρ st e).bind fun a=>ry st a T
      | _::_=>none
noncomputable def sC (ρ:Loc) (st:St):PE->Option Bool
  | .cmp op l r=>(ev ρ st l).bind fun a=>(ev ρ st r).bind fun b=>rK op st a b
  | .not e=>(sC ρ st e).map (!·)
  | .and l r=>(sC ρ st l).bind fun b=>if b then sC ρ st r else some false
  | .or l r=>(sC ρ st l).bind fun b=>if b then some true else sC ρ st r
  | .bool b=>some b
  | .call f as=>if f=.au then Wv ρ st as else none
  | _=>none
theorem Qt {g:PE} {T:Nm} {P:PE->Prop} (h:gn g=some T) (k:P (.bI T)):P g:=by
  cases g with
  | bI x=>exact Option.some.inj h▸k
  | _=>exact cp h
theorem Nh {as:List PE} {b:Bool} {Q:Bool->St->Prop} (h:Wv ρ st as=some b) (q:Q b st):T C r (.call .au as) ρ st Q:=by
  cases as with
  | nil=>exact cp h
  | cons e as=>
    cases as with
    | nil=>exact cp h
    | cons g as=>
      cases as with
      | nil=>exact jV h fun T h1 h=>Qt (P:=fun g=>Mine.T C r (.call .au [e,g]) ρ st Q) h1 (jV h fun a h2 h3=>AB (AA (Lb e h2 ⟨b,h3,b,rfl,q⟩)))
      | cons _ _=>exact cp h
noncomputable def Vo (C:Cx) (r:Nat) (ρ:Loc) (st:St) (e:PE):Prop:=∀b Q,sC ρ st e=some b->Q b st->T C r e ρ st Q
theorem B3 {e:PE} (h:sC ρ st e=none):Vo C r ρ st e:=fun _ _ h'=>cp (h.symm.trans h')
theorem Kj (e:PE):Vo C r ρ st e:=
  PE.rec (motive_1:=Vo C r ρ st) (motive_2:=fun _=>True) (motive_3:=fun _=>True)
    (fun _=>B3 rfl) (fun _=>B3 rfl) (fun _=>B3 rfl) (fun _=>B3 rfl) (fun _=>B3 rfl) (fun _=>B3 rfl)
    (fun _ _ _ h q=>Kk (Option.some.inj h▸q)) (B3 rfl) (fun _ _ _=>B3 rfl) (fun _ _ _ _=>B3 rfl) (fun _ _ _ _ _ _=>B3 rfl) (fun _ _=>B3 rfl) (fun _ _ _ _ _=>B3 rfl)
    (fun _ l rr _ _ b Q h q=>jV h fun _ h1 h=>jV h fun _ h2 h3=>Al (Lb l h1 (Lb rr h2 ⟨b,h3,q⟩)))
    (fun _ _ i1 i2 k Q h q=>jV h fun b h1 h2=>Bn (i1 _ _ h1 (by
      cases b with
      | true=>exact i2 _ _ h2 q
      | false=>exact (Option.some.inj h2▸q:Q false st))))
    (fun _ _ i1 i2 k Q h q=>jV h fun b h1 h2=>wJ (i1 _ _ h1 (by
      cases b with
      | true=>exact (Option.some.inj h2▸q:Q true st)
      | false=>exact i2 _ _ h2 q)))
    (fun _ ih _ Q h q=>ri (P:=fun b=>Q b st->_) h (fun _ h' q=>Fk (ih _ _ h' q)) q)
    (fun _ _ _ _ _ _=>B3 rfl) (fun _ _=>B3 rfl) (fun _ _=>B3 rfl) (fun _ _ _ _=>B3 rfl) (fun _ _ _ _ _=>B3 rfl)
    (fun f as _ b Q h q=>by
      by_cases e:f=.au
      · exact e▸Nh ((if_pos e).symm.trans h) q
      · exact cp ((if_neg e).symm.trans h))
    (fun _ _ _ _ _=>B3 rfl) (fun _ _=>B3 rfl) (fun _ _=>B3 rfl) (B3 rfl) trivial (fun _ _=>trivial) trivial (fun _ _ _ _=>trivial) e
theorem OL (e:PE) {b:Bool} {Q:Bool->St->Prop} (h:sC ρ st e=some b) (q:Q b st):T C r e ρ st Q:=Kj e b Q h q
theorem Ew {es:List PE} {vs:List AV} {Q:List AV->St->Prop} (h:rH ρ st es=some vs) (q:Q vs st):Es C r es ρ st Q:=Vq es h q
theorem Tw {e:PE} {b:Bool} {Q:Bool->St->Prop} (h:sC ρ st e=some b) (q:Q b st):T C r e ρ st Q:=OL e h q
variable {Q:Fl->Loc->St->Prop} {rest t f:List PS} {c e:PE}
theorem Av (h:sC ρ st c=some false) (k:X C r rest ρ st Q):X C r (.bt c t []::rest) ρ st Q:=Xc (Ao (OL c h (Ac k)))
theorem ef (h:sC ρ st c=some false) (k:X C r f ρ st (Lq C r rest Q)):X C r (.bt c t f::rest) ρ st Q:=Xc (Ao (OL c h k))
theorem AH (h:sC ρ st c=some true) (k:X C r t ρ st (Lq C r rest Q)):X C r (.bt c t f::rest) ρ st Q:=Xc (Ao (OL c h k))
theorem Hh {x:Nm} {v:AV} (h:ev ρ st e=some v) (k:X C r rest (putK ρ x v) st Q):X C r (.asg x e::rest) ρ st Q:=Xc (Au (Lb e h k))
theorem BS {v:AV} (h:ev ρ st e=some v) (k:Q (.ret v) ρ st):X C r (.ret e::rest) ρ st Q:=Xc (Aq (Lb e h k))
end Mine
end
section
namespace Mine
variable {C:Cx} {r:Nat} {ρ:Loc} {st:St}
theorem DP {c T:Nm} {fs:List (Nm×AV)} (hc:c∈cL) (hT:T∈cL):ry st (.obj c fs) T=some (decide (c=T)):=by
  have h3:T≠.er∧T≠.eE∧T≠.jI:=by refine ⟨?_,?_,?_⟩<;>(rintro rfl;exact absurd hT (by decide))
  rw [Hw h3.1 h3.2.1 h3.2.2,if_pos hT]
  show (if c∈cL then _ else _)=_
  rw [if_pos hc]
inductive MK where
  | done | lR (a b c:Tm) (σ:List (Int×MV)) (k:MK) | gh (a b:Tm) (σ:List (Int×MV)) (k:MK) | gM (s:Int) (e:Tm) (σ:List (Int×MV)) (k:MK) | parts (t:Tm) (σ:List (Int×MV)) (k:MK) (todo:List Tm) (vs:List MV)
noncomputable def lP:MK->AV
  | .done=>.none
  | .lR a b c σ k=>.tup [.str .rh,bT (.bt a b c),.kC (kz σ),lP k]
  | .gh a b σ k=>.tup [.str .um,bT (.seq a b),.kC (kz σ),lP k]
  | .gM s e σ k=>.tup [.str .uk,bT (.set s e),.kC (kz σ),lP k]
  | .parts t σ k todo vs=>.tup [.str .eB,bT t,.kC (kz σ),lP k,.lst (todo.map bT),.lst (vs.map d6)]
inductive MS where | go (t:Tm) (σ:List (Int×MV)) (k:MK) | give (vs:List MV) (k:MK) | refused (w:Nm) (i:Int)
noncomputable def gA:MS->AV
  | .go t σ k=>.tup [.str .jm,bT t,.kC (kz σ),lP k]
  | .give vs k=>.tup [.str .fj,.lst (vs.map d6),lP k]
  | .refused w i=>.tup [.str .aV,.str w,.int i]
noncomputable def qO.V:qO->MV | .t=>.bool true | .f=>.bool false | .mB=>.int 5
theorem qO.Vn (k:qO):d6 k.V=k.A:=by cases k<;>rfl
noncomputable def tq (σ:List (Int×MV)) (k:MK):Tm->Option MS
  | .cst c=>some (.give [c.V] k)
  | .loc n=>(ae σ n).map fun v=>.give [v] k
  | .lam l ps b=>some (.give [.fn l ps b σ] k)
  | .bt a b c=>some (.go a σ (.lR a b c σ k))
  | .seq a b=>some (.go a σ (.gh a b σ k))
  | .set s e=>some (.go e σ (.gM s e σ k))
  | .p1 a=>some (.go a σ (.parts (.p1 a) σ k [] []))
  | .p2 a b=>some (.go a σ (.parts (.p2 a b) σ k [b] []))
  | .call f as=>some (.go f σ (.parts (.call f as) σ k as []))
  | .bI _=>none
theorem uJ {t:Tm} {σ:List (Int×MV)} {k:MK} {now:MS} (h:tq σ k t=some now):Fn C (r+1) (C.fa .f9) [bT t,.kC (kz σ),lP k] st (here st (gA now)):=by
  refine Ag (C.dM .f9 _ rfl).2.1 rfl ?_
  cases t with
  | cst c=>
    subst h
    refine AH rfl (BS rfl ?_)
    show _=AV.tup [_,.lst [d6 c.V],_]∧_
    rw [qO.Vn];exact ⟨rfl,rfl⟩
  | loc n=>
    refine bq (Option.map_eq_some_iff.mp h) fun v hv mE=>?_;subst mE
    refine Av rfl (AH rfl (Xc (Aq (AC (Ec (Ak (Ec (Ah (Ec (Ai (El rfl (Aa (El rfl ⟨_,Ab (by decide) rfl,?_⟩)))))))))))))
    refine ⟨d6 v,?_,?_⟩
    · show ae (kz σ) n=_
      rw [yO,hv];rfl
    · exact En ⟨aw rfl,(Ec (El rfl (En ⟨aw rfl,⟨rfl,rfl⟩⟩)))⟩
  | lam l ps b=>
    subst h
    exact Av rfl (Av rfl (AH rfl (BS rfl ⟨rfl,rfl⟩)))
  | bt a b c=>
    subst h
    exact Av rfl (Av rfl (Av rfl (AH rfl (BS rfl ⟨rfl,rfl⟩))))
  | seq a b=>
    subst h
    exact Av rfl (Av rfl (Av rfl (Av rfl (AH rfl (BS rfl ⟨rfl,rfl⟩)))))
  | set s e=>
    subst h
    exact Av rfl (Av rfl (Av rfl (Av rfl (Av rfl (AH rfl (BS rfl ⟨rfl,rfl⟩))))))
  | p1 a=>
    subst h
    exact Av rfl (Av rfl (Av rfl (Av rfl (Av rfl (Av rfl (AH rfl (Xc (Aq (AC (Ec (Ak (Ec (Ai (Aa (El rfl ⟨_,Ab (by decide) rfl,(Ae ⟨_,rfl,(Ec (El rfl (Ec (AC (Ec (Ak (Ec (El rfl (Ec (El rfl (Ec (El rfl (Ec (Bg (Aa (El rfl ⟨_,Ab (by decide) rfl,((show Eo C _ (some (.int 1)) _ _ _ from Ae ⟨_,rfl,⟨_,rfl,aw rfl,(Ec (Ah (En ⟨aw rfl,(En ⟨aw rfl,(En ⟨aw rfl,⟨rfl,rfl⟩⟩)⟩)⟩)))⟩⟩))⟩))))))))))))))))⟩)⟩)))))))))))))))
  | p2 a b=>
    subst h
    exact Av rfl (Av rfl (Av rfl (Av rfl (Av rfl (Av rfl (AH rfl (Xc (Aq (AC (Ec (Ak (Ec (Ai (Aa (El rfl ⟨_,Ab (by decide) rfl,(Ae ⟨_,rfl,(Ec (El rfl (Ec (AC (Ec (Ak (Ec (El rfl (Ec (El rfl (Ec (El rfl (Ec (Bg (Aa (El rfl ⟨_,Ab (by decide) rfl,((show Eo C _ (some (.int 1)) _ _ _ from Ae ⟨_,rfl,⟨_,rfl,aw rfl,(Ec (Ah (En ⟨aw rfl,(En ⟨aw rfl,(En ⟨aw rfl,⟨rfl,rfl⟩⟩)⟩)⟩)))⟩⟩))⟩))))))))))))))))⟩)⟩)))))))))))))))
  | call f as=>
    subst h
    refine Av rfl (Av rfl (Av rfl (Av rfl (Av rfl (Av rfl (Av rfl (BS rfl ?_)))))))
    show _=AV.tup [_,_,_,AV.tup [_,_,_,_,.lst (as.map bT),_]]∧_
    rw [←AZ];exact ⟨rfl,rfl⟩
  | bI s=>subst h
end Mine
end
section
namespace Mine
variable {C:Cx} {r:Nat} {ρ:Loc} {st:St}
theorem FO {v:MV} (hr:5≤r):Fn C r (C.fa .cc) [d6 v] st (here st (jY (cut 3 v))):=by
  refine Fn.up (r:=5) ?_ hr
  refine Ag (C.dM .cc _ rfl).2.1 rfl ?_
  exact Xc (Aq (Aj rfl (Ec (El rfl (Ec (Ae (En (Gh 3 v))))))))
noncomputable def isFalse:MV->Bool | .bool b=>!b | _=>false
theorem F3 {x:Nm} {v:MV} {vs:List AV} {Q:AV->St->Prop} (hl:ae ρ x=some (.lst (d6 v::vs))) (q:Q (.bool (isFalse v)) st) :
    E C r (.and (.call .au [(.sub (.loc x) (.int 0)),(.bI .eE)]) (.not (.sub (.loc x) (.int 0)))) ρ st Q:=by
  cases v with
  | bool b=>exact BZ (AA (Ai (El hl (Ae ⟨_,rfl,⟨true,rfl,true,rfl,(II (Ai (El hl (Ae ⟨_,rfl,⟨b,rfl,q⟩⟩))))⟩⟩))))
  | int i=>exact BZ (AA (Ai (El hl (Ae ⟨_,rfl,⟨false,rfl,false,rfl,(q)⟩⟩))))
  | aA=>exact BZ (AA (Ai (El hl (Ae ⟨_,rfl,⟨false,rfl,false,rfl,(q)⟩⟩))))
  | pair a b=>exact BZ (AA (Ai (El hl (Ae ⟨_,rfl,⟨false,rfl,false,rfl,(q)⟩⟩))))
  | fn l ps b σ=>exact BZ (AA (Ai (El hl (Ae ⟨_,rfl,⟨false,rfl,false,rfl,(q)⟩⟩))))
  | vals=>exact BZ (AA (Ai (El hl (Ae ⟨_,rfl,⟨false,rfl,false,rfl,(q)⟩⟩))))
theorem rt {v:MV} {vs:List AV}:Fn C (r+1) (C.fa .bX) [.int 8,.lst (d6 v::vs)] st (here st (.bool (isFalse v))):=by
  refine Ag (C.dM .bX _ rfl).2.1 rfl ?_
  exact AH rfl (Xc (Aq (F3 rfl ⟨rfl,rfl⟩)))
theorem rq {v w:MV} {vs:List AV}:Fn C (r+1) (C.fa .bX) [.int 9,.lst (d6 v::d6 w::vs)] st (here st (d6 (.pair v w))):=by
  refine Ag (C.dM .bX _ rfl).2.1 rfl ?_
  exact Av rfl (BS rfl ⟨rfl,rfl⟩)
noncomputable def putL (σ:List (Int×MV)) (l:List (Int×MV)):List (Int×MV):=l.foldl (fun σ kv=>putK σ kv.1 kv.2) σ
theorem D9 {α:Type} {p:Prop} [Decidable p] {o:Option α} {y:α} {P:Prop} (h:(if p then o else none)=some y) (k:p->o=some y->P):P:=by
  by_cases q:p
  · exact k q ((if_pos q).symm.trans h)
  · exact cp ((if_neg q).symm.trans h)
noncomputable def hd {α β:Type} (vs:List α) (f:α->List α->Option β):Option β:=match vs with
  | []=>none
  | v::r=>f v r
theorem yF {α β:Type} {vs:List α} {f:α->List α->Option β} {y:β} {P:List α->Prop} (h:hd vs f=some y) (k:∀v r,f v r=some y->P (v::r)):P vs:=by
  cases vs with
  | nil=>exact cp h
  | cons v r=>exact k v r h
noncomputable def JL (k:MK) (ps:List Int) (b:Tm) (σ:List (Int×MV)) (as:List MV):Option MS:=
  if ps.length=as.length then (if σ.length+ps.length≤1000 then some (.go b (putL σ (ps.zip as)) k) else none) else if ps.length≤1000 then some (.refused .dy as.length) else none
noncomputable def oH (k:MK) (as:List MV):MV->Option MS
  | .vals=>some (.give as k)
  | .fn _ ps b σ=>JL k ps b σ as
  | _=>some (.refused .bW 0)
noncomputable def fg (t:Tm) (k:MK) (vs:List MV):Option MS:=match t with
  | .p1 _=>hd vs fun v _=>some (.give [.bool (isFalse v)] k)
  | .p2 _ _=>hd vs fun v r=>hd r fun w _=>some (.give [.pair v w] k)
  | .call _ _=>hd vs fun f as=>if as.length≤1000 then oH k as f else none
  | _=>none
theorem Bv (v:AV) (vs:List AV):fh (v::vs) (some 1) none=vs:=by
  unfold fh kE
  have:clipAt (v::vs).length 1=1:=by
    have:=clipAt_nat (v::vs).length 1
    rw [show ((1:Nat):Int)=1 from rfl] at this
    rw [this];simp
  simp only [Option.elim,this]
  simp
theorem Eg:∀(l:List (Int×MV)) (σ:List (Int×MV)),(putL σ l).length≤σ.length+l.length
  | [],σ=>Nat.le_refl _
  | kv::l,σ=>by
    have:=Eg l (putK σ kv.1 kv.2)
    have h2:=AN σ kv.1 kv.2
    show (putL (putK σ kv.1 kv.2) l).length≤_
    rw [List.length_cons];exact Ut h2 this
theorem Dk (l:List (Int×MV)):(kz l).length=l.length:=by rw [BV,List.length_map]
variable {k:MK} {a2 a4 a5 w:AV} {vs:List MV} {f v v2:MV} {tf:Tm} {th:List Tm} {as:List MV} {Q:Fl->Loc->St->Prop}
noncomputable def zK (w:AV) (t:Tm) (a2:AV) (k:MK) (a4 a5:AV) (vs:List MV):Loc:=hZ.zip [.tup [w,bT t,a2,lP k,a4,a5],.lst (vs.map d6)]
theorem td {a:Tm}:X C (r+1) aH (zK w (.p1 a) a2 k a4 a5 (v::vs)) st (QF (here st (gA (.give [.bool (isFalse v)] k)))):=
  Xc (Ao (AB (AA (Ai (El rfl (Ae ⟨_,rfl,⟨_,DP (by decide) (by decide),_,rfl,Xc (Aq (AC (Ec (Ak (Ec (Ah (Ec (Aj rfl (Ec (Aa (Ai (El rfl (Ae ⟨_,rfl,⟨_,Ab (by decide) rfl,(Ec (El rfl (En (rt.mono fun x ag q=>xA q fun e1 e2=>
    e1▸e2▸En ⟨aw rfl,Ec (Ai (El rfl (Ae ⟨_,rfl,En ⟨aw rfl,rfl,rfl⟩⟩)))⟩))))⟩⟩)))))))))))))⟩⟩))))))
theorem tc {a b:Tm}:X C (r+1) aH (zK w (.p2 a b) a2 k a4 a5 (v::v2::vs)) st (QF (here st (gA (.give [.pair v v2] k)))):=
  Xc (Ao (AB (AA (Ai (El rfl (Ae ⟨_,rfl,⟨_,DP (by decide) (by decide),_,rfl,Xc (Aq (AC (Ec (Ak (Ec (Ah (Ec (Aj rfl (Ec (Aa (Ai (El rfl (Ae ⟨_,rfl,⟨_,Ab (by decide) rfl,(Ec (El rfl (En (rq.mono fun x ag q=>xA q fun e1 e2=>
    e1▸e2▸En ⟨aw rfl,Ec (Ai (El rfl (Ae ⟨_,rfl,En ⟨aw rfl,rfl,rfl⟩⟩)))⟩))))⟩⟩)))))))))))))⟩⟩))))))
noncomputable def zJ (w:AV) (t:Tm) (a2:AV) (k:MK) (a4 a5:AV) (f:MV) (as:List MV):Loc:=putK (zK w t a2 k a4 a5 (f::as)) .aR (d6 f)
theorem Ho (h:X C r (aH.drop 2) (zJ w (.call tf th) a2 k a4 a5 f as) st Q):X C r aH (zK w (.call tf th) a2 k a4 a5 (f::as)) st Q:=
  Xc (Ao (AB (AA (Ai (El rfl (Ae ⟨_,rfl,⟨_,DP (by decide) (by decide),_,rfl,Ac (Hh rfl h)⟩⟩))))))
theorem EV {n:Nat} (h:as.length≤n):(as.map d6).length≤n:=(List.length_map (as:=as) d6).symm▸h
theorem EX {n:Nat} (h:n≤1000):n≤1000000:=Nat.le_trans h (aw rfl)
theorem yp {n:Nat} (h:n≤1000):n+1≤1000000:=Nat.le_trans (Nat.succ_le_succ h) (aw rfl)
theorem Hn (hz:as.length≤1000):X C r (aH.drop 2) (zJ w (.call tf th) a2 k a4 a5 .vals as) st (QF (here st (gA (.give as k)))):=by
  refine AH rfl (Xc (Aq (AC (Ec (Ak (Ec (Bg (El rfl ((show Eo C _ (some (.int 1)) _ _ _ from Ae ⟨_,rfl,⟨_,rfl,yp (EV hz),?_⟩⟩))))))))))
  rw [List.map_cons,Bv]
  exact Ec (Ai (El rfl (Ae ⟨_,rfl,(En ⟨aw rfl,⟨rfl,rfl⟩⟩)⟩)))
theorem DA (h:oH k as f=some (.refused .bW 0)) (h2:OE (d6 f) (.tup [.str .ai])=some false) (h3:(Jn (d6 f)=some false)∨∃a b,f=.pair a b):X C r (aH.drop 2) (zJ w (.call tf th) a2 k a4 a5 f as) st (QF (here st (gA (.refused .bW 0)))):=by
  refine Xc (Ao (Al (El rfl (AC (Ec (Ak (En ⟨aw rfl,⟨false,h2,Ac ?_⟩⟩)))))))
  refine Xc (Ao (wJ (Fk (AB (AA (El rfl ?_))))))
  rcases h3 with h3 | h3
  · exact ⟨false,h3,false,rfl,(BS rfl ⟨rfl,rfl⟩)⟩
  · exact xk h3 fun a b e=>e▸⟨true,rfl,true,rfl,(Al (Ai (El rfl (Ae ⟨_,rfl,(Ak ⟨true,rfl,(BS rfl ⟨rfl,rfl⟩)⟩)⟩))))⟩
variable {l:Int} {ps:List Int} {b:Tm} {σ:List (Int×MV)}
theorem Je {n m:Nat} {c:Bool} (h:decide (n=m)=!c):(!((n:Int)==(((m+1:Nat):Int)-1)))=c:=by
  rw [show ((m+1:Nat):Int)-1=(m:Int) by exact OH]
  cases c with
  | true=>rw [beq_eq_false_iff_ne.mpr (show (n:Int)≠(m:Int) from fun e=>of_decide_eq_false h (Int.ofNat.inj e))];rfl
  | false=>rw [beq_iff_eq.mpr (show (n:Int)=(m:Int) from congrArg Int.ofNat (of_decide_eq_true h))];rfl
theorem Gu {c:Bool} (Jv:ps.length≤1000) (hz:as.length≤1000) (hc:decide (ps.length=as.length)=!c)
    (h:X C r (if c then [.ret (.tup [.str .aV,.str .dy,.bin .sub (.call .bZ [.loc .ai]) (.int 1)])] else []) (zJ w (.call tf th) a2 k a4 a5 (.fn l ps b σ) as) st (Lq C r (aH.drop 5) Q)):X C r (aH.drop 2) (zJ w (.call tf th) a2 k a4 a5 (.fn l ps b σ) as) st Q:=by
  refine Av rfl (Xc (Ao (wJ (Fk (AB (AA (El rfl ⟨true,rfl,true,rfl,Al (Ai (El rfl (Ae ⟨_,rfl,(Ak ⟨false,rfl,(Ac ?_)⟩)⟩)))⟩)))))))
  refine Xc (Ao (Al (AX (Aa (Ai (El rfl (Ae ⟨_,rfl,⟨_,Ab (by decide) rfl,⟨ps.map .int,rfl,(List.length_map (as:=ps) AV.int).symm▸EX Jv,AT (AX (El rfl ⟨d6 (.fn l ps b σ)::as.map d6,rfl,yp (EV hz),Ae ⟨_,_,_,rfl,rfl,rfl,c,?_,?_⟩⟩))⟩⟩⟩)))))))
  · refine congrArg some ?_
    rw [List.length_map,List.length_cons,List.length_map]
    exact Je hc
  · cases c with
    | true=>exact h
    | false=>exact h
theorem Hp (Jv:ps.length≤1000) (hz:as.length≤1000) (hn:ps.length≠as.length):X C r (aH.drop 2) (zJ w (.call tf th) a2 k a4 a5 (.fn l ps b σ) as) st (QF (here st (gA (.refused .dy as.length)))):=by
  refine Gu (c:=true) Jv hz (decide_eq_false hn) (Xc (Aq (AC (Ec (Ak (Ec (Ak (Ec (AT (AX (El rfl ⟨d6 (.fn l ps b σ)::as.map d6,rfl,yp (EV hz),Ae ⟨_,_,_,rfl,rfl,rfl,(En ⟨aw rfl,?_,rfl⟩)⟩⟩)))))))))))
  show AV.tup [_,_,.int _]=AV.tup [_,_,.int as.length]
  rw [List.length_cons,List.length_map,show ((as.length+1:Nat):Int)-1=(as.length:Int) by exact OH]
theorem CU {α:Type} {g:α->AV} {xs:List α} {i:Nat} (h:i<xs.length):(xs.map g).getD i .none=g xs[i]:=by
  rw [List.getD_eq_getElem?_getD,List.getElem?_map,List.getElem?_eq_getElem h];rfl
theorem getD_at {xs:List AV} {i:Nat} (h:i<xs.length):xs.getD i .none=xs[i]:=by
  rw [List.getD_eq_getElem?_getD,List.getElem?_eq_getElem h];rfl
theorem tj {α β:Type} {xs:List α} {ys:List β} {i:Nat} (h1:i<xs.length) (h2:i<ys.length):(xs.zip ys).take (i+1)=(xs.zip ys).take i++[(xs[i],ys[i])]:=by
  rw [List.take_add_one,List.getElem?_eq_getElem (by rw [List.length_zip];exact Nat.lt_min.mpr ⟨h1,h2⟩),List.getElem_zip];rfl
noncomputable def j6 {β:Type} (es:List (Int×β)) (l:List (Int×β)):List (Int×β):=l.foldl (fun σ kv=>putK σ kv.1 kv.2) es
theorem Gy {β:Type} (f:β->AV) (ps:List Int):∀(σ:List (Int×β)) (as:List β),j6 (σ.map fun kv=>(kv.1,f kv.2)) (ps.zip (as.map f))=(j6 σ (ps.zip as)).map fun kv=>(kv.1,f kv.2):=by
  induction ps with
  | nil=>exact fun _ _=>rfl
  | cons p ps ih=>
    intro σ as
    cases as with
    | nil=>exact rfl
    | cons a as=>exact (congrArg (fun z=>j6 z (ps.zip (as.map f))) (C4 f σ p a)).trans (ih (putK σ p a) as)
theorem tM {es l:List (Int×AV)} {n:Nat} (h:es.length+l.length≤n):(j6 es l).length≤n:=by
  induction l generalizing es with
  | nil=>exact h
  | cons kv l ih=>exact ih (Nat.le_trans (Nat.add_le_add_right (AN es kv.1 kv.2) _) (by rw [Nat.add_assoc,Nat.add_comm 1];exact h))
theorem xT (σ:List (Int×MV)) (ps:List Int) (as:List MV):j6 (kz σ) (ps.zip (as.map d6))=kz (putL σ (ps.zip as)):=by
  rw [BV,BV];exact Gy d6 ps σ as
theorem tN {β:Type} (es l:List (Int×β)) (k:Int) (v:β):j6 es (l++[(k,v)])=putK (j6 es l) k v:=List.foldl_append
inductive OG (st:St) (ρ0:Loc) (D:Addr) (es:List (Int×AV)) (l:List (Int×AV)) (x y:Nm) (i:Nat) (ρ:Loc) (ag:St):Prop
  | mk:ag=st.upd D (.dict (j6 es (l.take i)))->(∀z,z≠x->z≠y->ae ρ z=ae ρ0 z)->OG st ρ0 D es l x y i ρ ag
theorem xi {x y d:Nm} {D:Addr} {es:List (Int×AV)} {ps:List Int} {ws:List AV} {ρ0:Loc} (pH:x≠y) (MU:d≠x) (Qg:d≠y) (hd:ae ρ0 d=some (.ref D)) (hz:es.length+ps.length≤1000) {i:Nat} {ρ:Loc} {ag:St} (h1:i<ps.length) (h2:i<ws.length) (hI:OG st ρ0 D es (ps.zip ws) x y i ρ ag) :
    X C r [.iy (.loc d) (.loc x) (.loc y)] (putK (putK ρ x ((ps.map AV.int).getD i .none)) y (ws.getD i .none)) ag (Jc (OG st ρ0 D es (ps.zip ws) x y (i+1)) Q):=by
  refine hI.rec fun e hρ=>?_
  rw [CU h1,getD_at h2]
  have l1:ae (putK (putK ρ x (.int ps[i])) y ws[i]) y=some ws[i]:=(Af ..).trans (if_pos rfl)
  have l2:ae (putK (putK ρ x (.int ps[i])) y ws[i]) x=some (.int ps[i]):=by rw [Af,if_neg pH,Af,if_pos rfl]
  have lx:∀z,z≠x->z≠y->ae (putK (putK ρ x (.int ps[i])) y ws[i]) z=ae ρ0 z:=fun z h1 h2=>by rw [Af,if_neg h2,Af,if_neg h1,hρ z h1 h2]
  have hl:es.length+((ps.zip ws).take i).length≤1000000:=Nat.le_trans (Nat.add_le_add_left (List.length_take ..▸Nat.le_trans (Nat.min_le_right ..) (List.length_zip ..▸Nat.min_le_left ..)) _) (EX hz)
  exact Xc (Br (El l1 (El ((lx _ MU Qg).trans hd) (El l2 ⟨D,_,rfl,setOk.d (e▸aZ) (tM hl) rfl,Ac ⟨by rw [e,eT,tj h1 h2];exact congrArg (fun z=>st.upd D (.dict z)) (tN ..).symm,lx⟩⟩))))
theorem wC {x y d:Nm} {i j:PE} {rest:List PS} {D:Addr} {es:List (Int×AV)} {ps:List Int} {ws:List AV} (pH:x≠y) (MU:d≠x) (Qg:d≠y) (hd:ae ρ d=some (.ref D)) (hz:es.length+ps.length≤1000)
    (h:Es C r [i,j] ρ (st.upd D (.dict es)) (fun avs ao=>avs=[.lst (ps.map .int),.lst ws]∧ao=st.upd D (.dict es)))
    (k:∀ρ',(∀z,z≠x->z≠y->ae ρ' z=ae ρ z)->X C r rest ρ' (st.upd D (.dict (j6 es (ps.zip ws)))) Q):X C r (.pM x y i j [.iy (.loc d) (.loc x) (.loc y)]::rest) ρ (st.upd D (.dict es)) Q:=
  Xc (wG (h.mono fun avs ao q=>xA q fun e1 e2=>⟨ps.map .int,ws,e1,OG st ρ D es (ps.zip ws) x y,⟨e2,fun _ _ _=>rfl⟩,fun i ρ' ag h1 h2 hI=>xi pH MU Qg hd hz ((List.length_map (as:=ps) AV.int)▸h1) h2 hI,
    fun ρ' ag hI=>hI.rec fun e hρ=>by
      rw [List.length_map,List.take_of_length_le (Nat.le_of_eq List.length_zip)] at e
      exact e▸k ρ' hρ⟩))
theorem tg (hσ:σ.length+ps.length≤1000) (hz:as.length≤1000) (hl:ps.length=as.length):X C r (aH.drop 2) (zJ w (.call tf th) a2 k a4 a5 (.fn l ps b σ) as) st (QF (here st (gA (.go b (putL σ (ps.zip as)) k)))):=by
  refine Gu (c:=false) (hl▸hz) hz (decide_eq_true hl) (Ac ?_)
  refine Xc (Au (qN (Ai (El rfl (Ae ⟨_,rfl,kz σ,rfl,Dk σ▸EX (Nat.le_trans (Nat.le_add_right ..) hσ),fun D hD=>?_⟩)))))
  refine wC (ps:=ps) (ws:=as.map d6) (by decide) (by decide) (by decide) rfl (Dk σ▸hσ) (Ec (Aa (Ai (El rfl (Ae ⟨_,rfl,⟨_,Ab (by decide) rfl,(Ec (Bg (El rfl ((show Eo C _ (some (.int 1)) _ _ _ from Ae ⟨_,rfl,⟨_,rfl,yp (EV hz),En ⟨?_,rfl⟩⟩⟩)))))⟩⟩))))) fun ρ' hρ=>?_
  · rw [List.map_cons,Bv]
  · rw [xT]
    exact Xc (Aq (AC (Ec (Ak (Ec (Aa (Ai (El ((hρ .aR (by decide) (by decide)).trans rfl) (Ae ⟨_,rfl,⟨_,Ab (by decide) rfl,(Ec (AD (El ((hρ .ay (by decide) (by decide)).trans rfl) ⟨_,_,G4 hD,(Ec (Ai (El ((hρ .et (by decide) (by decide)).trans rfl) (Ae ⟨_,rfl,(En ⟨aw rfl,⟨rfl,rfl⟩⟩)⟩))))⟩)))⟩⟩)))))))))
theorem xD (hz:as.length≤1000) {now:MS} (h:oH k as f=some now):X C r (aH.drop 2) (zJ w (.call tf th) a2 k a4 a5 f as) st (QF (here st (gA now))):=by
  cases f with
  | bool b=>exact Option.some.inj h▸DA rfl rfl (.inl rfl)
  | int b=>exact Option.some.inj h▸DA rfl rfl (.inl rfl)
  | aA=>exact Option.some.inj h▸DA rfl rfl (.inl rfl)
  | pair a b=>exact Option.some.inj h▸DA rfl rfl (.inr ⟨a,b,rfl⟩)
  | vals=>exact Option.some.inj h▸Hn hz
  | fn l ps b σ=>
    by_cases e:ps.length=as.length
    · exact D9 ((if_pos e).symm.trans h) fun hσ h=>Option.some.inj h▸tg hσ hz e
    · exact D9 ((if_neg e).symm.trans h) fun hp h=>Option.some.inj h▸Hp hp hz e
theorem rp {t:Tm} {k:MK} {vs:List MV} {now:MS} {a2 a4 a5 w:AV} (h:fg t k vs=some now) :
    Fn C (r+2) (C.fa .dK) [.tup [w,bT t,a2,lP k,a4,a5],.lst (vs.map d6)] st (here st (gA now)):=by
  refine Ag (C.dM .dK _ rfl).2.1 rfl ?_
  cases t with
  | p1 a=>exact yF (P:=fun vs=>X C (r+1) aH (zK w (.p1 a) a2 k a4 a5 vs) st (QF (here st (gA now)))) h fun v vs e=>Option.some.inj e▸td
  | p2 a b=>exact yF (P:=fun vs=>X C (r+1) aH (zK w (.p2 a b) a2 k a4 a5 vs) st (QF (here st (gA now)))) h fun v vs e=>yF (P:=fun vs=>X C (r+1) aH (zK w (.p2 a b) a2 k a4 a5 (v::vs)) st (QF (here st (gA now)))) e fun v2 vs e=>Option.some.inj e▸tc
  | call tf th=>exact yF (P:=fun vs=>X C (r+1) aH (zK w (.call tf th) a2 k a4 a5 vs) st (QF (here st (gA now)))) h fun f as e=>D9 e fun hz e=>Ho (xD hz e)
  | _=>exact cp h
end Mine
end
section
namespace Mine
variable {C:Cx} {r:Nat} {ρ:Loc} {st:St}
abbrev bB:=List (Int×MV)
abbrev Log:=List (Int×Sh)
noncomputable def dW (l:Log):List AV:=l.map fun x=>.tup [.int x.1,jY x.2]
structure Told (G Lg:Addr) (g:bB) (lg:Log) (st:St):Prop where
  d:st G=some (.dict (kz g))
  l:st Lg=some (.list (dW lg))
noncomputable def Oe (G Lg:Addr) (st ag:St):Prop:=∀b,b≠G->b≠Lg->ag b=st b
noncomputable def one {α:Type} (vs:List MV) (f:MV->Option α) (e:Nat->α):Option α:=match vs with
  | []=>some (e 0)
  | v::r=>match r with
    | []=>f v
    | _::_=>if (v::r).length≤1000 then some (e (v::r).length) else none
theorem EQ {α:Type} {vs:List MV} {f:MV->Option α} {e:Nat->α} {y:α} {P:List MV->Prop} (h:one vs f e=some y) (k1:∀v,f v=some y->P [v]) (k2:vs.length≤1000->vs.length≠1->e vs.length=y->P vs):P vs:=by
  cases vs with
  | nil=>exact k2 (Nat.zero_le _) nofun (Option.some.inj h)
  | cons v r=>
    cases r with
    | nil=>exact k1 v h
    | cons w r=>
      by_cases q:(v::w::r).length≤1000
      · exact k2 q nofun (Option.some.inj ((if_pos q).symm.trans h))
      · exact cp ((if_neg q).symm.trans h)
noncomputable def tP (g:bB) (lg:Log) (t:Tm) (σ:List (Int×MV)) (k:MK) (l:List MV) (todo:List Tm):Option (MS×bB×Log):=match todo with
  | []=>(fg t k l).map fun now=>(now,g,lg)
  | t'::rest=>some (.go t' σ (.parts t σ k rest l),g,lg)
noncomputable def tL (g:bB) (lg:Log) (n:Nat):MS×bB×Log:=(.refused .ai n,g,lg)
noncomputable def fu (g:bB) (lg:Log) (vs:List MV):MK->Option (MS×bB×Log)
  | .done=>none
  | .gh _ b σ k=>some (.go b σ k,g,lg)
  | .lR _ b c σ k=>one vs (fun v=>some (.go (if isFalse v then c else b) σ k,g,lg)) (tL g lg)
  | .gM s _ _ k=>one vs (fun v=>if g.length≤1000∧lg.length≤1000 then some (.give [.aA] k,putK g s v,lg++[(s,cut 3 v)]) else none) (tL g lg)
  | .parts t σ k todo dn=>one vs (fun v=>if dn.length≤1000∧todo.length≤1000 then tP g lg t σ k (dn++[v]) todo else none) (tL g lg)
theorem Jg {vs:List MV} (h:vs.length≠1):rK .ne st (.int ((vs.map d6).length:Int)) (.int 1)=some true:=
  congrArg some (show (!(((vs.map d6).length:Int)==1))=true by rw [List.length_map,beq_eq_false_iff_ne.mpr (show ((vs.length:Nat):Int)≠1 from fun e=>h (Int.ofNat.inj e))];rfl)
noncomputable def kY (G Lg:Addr) (st:St) (y:MS×bB×Log) (x:AV) (ag:St):Prop:=x=gA y.1∧Told G Lg y.2.1 y.2.2 ag∧Oe G Lg st ag
theorem Told.nK {G Lg:Addr} {g:bB} {lg:Log} {now:MS} {x:AV} (hT:Told G Lg g lg st) (e:x=gA now):kY G Lg st (now,g,lg) x st:=⟨e,hT,fun _ _ _=>rfl⟩
noncomputable def ou:PS:=.bt (.cmp .ne (.call .bZ [.loc .ai]) (.int 1)) [.ret (.tup [.str .aV,.str .ai,.call .bZ [.loc .ai]])] []
variable {Q:Fl->Loc->St->Prop} {rest:List PS} {g:bB} {lg:Log} {vs:List MV} {G Lg:Addr}
theorem HM {v:AV} (hv:ae ρ .ai=some (.lst [v])) (k:X C r rest ρ st Q):X C r (ou::rest) ρ st Q:=
  Xc (Ao (Al (AX (El hv ⟨[v],rfl,aw rfl,(Ae ⟨false,rfl,(Ac k)⟩)⟩))))
theorem HL (hv:ae ρ .ai=some (.lst (vs.map d6))) (hz:vs.length≤1000) (hE:vs.length≠1) (q:Q (.ret (gA (.refused .ai vs.length))) ρ st):X C r (ou::rest) ρ st Q:=
  have KZ:(vs.map d6).length≤1000000:=(List.length_map (as:=vs) d6).symm▸Nat.le_trans hz (aw rfl)
  Xc (Ao (Al (AX (El hv ⟨_,rfl,KZ,Ae ⟨true,Jg hE,Xc (Aq (AC (Ec (Ak (Ec (Ak (Ec (AX (El hv ⟨_,rfl,KZ,En ⟨aw rfl,(List.length_map (as:=vs) d6).symm▸q⟩⟩)))))))))⟩⟩))))
theorem ED {w x1 x2 x3 told:AV} {l:List AV} (k:X C r (bG.drop 1) (putK (putK (putK (bU.zip [.lst (vs.map d6),.tup (w::x1::x2::x3::l),told]) .bc x3) .ay x2) .af x1) st Q) :
    X C r bG (bU.zip [.lst (vs.map d6),.tup (w::x1::x2::x3::l),told]) st Q:=
  Xc (qG (Ec (Ai (El rfl (Ae ⟨_,rfl,(Ec (Ai (El rfl (Ae ⟨_,rfl,(Ec (Ai (El rfl (Ae ⟨_,rfl,(En ⟨rfl,aw rfl,k⟩)⟩))))⟩))))⟩)))))
theorem rC {a b:Tm} {σ:bB} {k:MK} (hT:Told G Lg g lg st):X C r bG (bU.zip [.lst (vs.map d6),lP (.gh a b σ k),.lst [.ref G,.ref Lg]]) st (QF (kY G Lg st (.go b σ k,g,lg))):=
  ED (AH rfl (BS rfl (hT.nK rfl)))
theorem vt {a b c:Tm} {σ:bB} {k:MK} {y:MS×bB×Log} (h:fu g lg vs (.lR a b c σ k)=some y) (hT:Told G Lg g lg st) :
    X C r bG (bU.zip [.lst (vs.map d6),lP (.lR a b c σ k),.lst [.ref G,.ref Lg]]) st (QF (kY G Lg st y)):=by
  refine ED (Av rfl (EQ (P:=fun vs=>X C r (ou::bG.drop 3) (putK (putK (putK (bU.zip [.lst (vs.map d6),lP (.lR a b c σ k),.lst [.ref G,.ref Lg]]) .bc (lP k)) .ay (.kC (kz σ))) .af (bT (.bt a b c))) st (QF (kY G Lg st y))) h (fun v e=>?_) fun hz hn e=>HL rfl hz hn (e▸hT.nK rfl)))
  refine HM rfl (AH rfl (Xc (Au (F3 (v:=v) (vs:=[]) rfl ?_))))
  cases Option.some.inj e
  cases isFalse v with
  | true=>exact Xc (Aq (AC (Ec (Ak (Ec (AE (wK (b:=true) rfl (Aa (El rfl ⟨_,Ab (by decide) rfl,(Ec (El rfl (Ec (El rfl (En ⟨aw rfl,hT.nK rfl⟩)))))⟩)))))))))
  | false=>exact Xc (Aq (AC (Ec (Ak (Ec (AE (wK (b:=false) rfl (Aa (El rfl ⟨_,Ab (by decide) rfl,(Ec (El rfl (Ec (El rfl (En ⟨aw rfl,hT.nK rfl⟩)))))⟩)))))))))
theorem GK {n:Nat} (h:lg.length≤n):(dW lg).length≤n:=(List.length_map (as:=lg) _).symm▸h
theorem Told.put {s:Int} {v:MV} (hT:Told G Lg g lg st) (hE:G≠Lg):kY G Lg st (.give [.aA] k,putK g s v,lg++[(s,cut 3 v)]) (gA (.give [.aA] k)) ((st.upd G (.dict (kz (putK g s v)))).upd Lg (.list (dW lg++[.tup [.int s,jY (cut 3 v)]]))):=
  ⟨rfl,⟨(Aw hE).trans aZ,aZ.trans (congrArg (fun l=>some (bQ.list l)) (List.map_append (l₁:=lg) (l₂:=[(s,cut 3 v)])).symm)⟩,fun b h1 h2=>(Aw h2).trans (Aw h1)⟩
theorem Told.ne (hT:Told G Lg g lg st):G≠Lg:=fun e=>nomatch (e▸hT.d).symm.trans hT.l
theorem rB {s:Int} {a:Tm} {σ:bB} {k:MK} {y:MS×bB×Log} (h:fu g lg vs (.gM s a σ k)=some y) (hT:Told G Lg g lg st) :
    X C (r+5) bG (bU.zip [.lst (vs.map d6),lP (.gM s a σ k),.lst [.ref G,.ref Lg]]) st (QF (kY G Lg st y)):=by
  refine ED (Av rfl (EQ (P:=fun vs=>X C (r+5) (ou::bG.drop 3) (putK (putK (putK (bU.zip [.lst (vs.map d6),lP (.gM s a σ k),.lst [.ref G,.ref Lg]]) .bc (lP k)) .ay (.kC (kz σ))) .af (bT (.set s a))) st (QF (kY G Lg st y))) h (fun v e=>D9 e fun hz e=>?_) fun hz hn e=>HL rfl hz hn (e▸hT.nK rfl)))
  cases Option.some.inj e
  have hl:st.upd G (.dict (kz (putK g s v))) Lg=some (.list (dW lg)):=(Aw (Ne.symm hT.ne)).trans hT.l
  refine HM rfl (Av rfl (AH rfl (Xc (Br (Ai (El rfl (Ae ⟨d6 v,rfl,Ai (El rfl (Ae ⟨.ref G,rfl,Aa (El rfl ⟨.int s,Ab (by decide) rfl,G,st.upd G (.dict (kz (putK g s v))),rfl,
    setOk.d hT.d (Dk g▸Nat.le_trans hz.1 (aw rfl)) (by rw [xV]),?_⟩)⟩))⟩)))))))
  refine Xc (Ap (By (Ai (El rfl (Ae ⟨.ref Lg,rfl,Lg,dW lg,rfl,hl,AC (Ec (Aa (El rfl ⟨_,Ab (by decide) rfl,(Ec (Aj rfl (Ec (Ai (El rfl (Ae ⟨d6 v,rfl,(En ?_)⟩))))))⟩)))⟩)))))
  refine (FO (by exact aw rfl)).mono fun x ag q=>xA q fun hx hs=>?_
  subst hx hs
  exact En ⟨aw rfl,dW lg,hl,GK (Nat.le_trans hz.2 (aw rfl)),rfl,Xc (Aq (AC (Ec (Ak (Ec (Ah (Ec (Bx (En ⟨aw rfl,(Ec (El rfl (En ⟨aw rfl,hT.put hT.ne⟩)))⟩)))))))))⟩
noncomputable def partρ (G Lg:Addr) (t:Tm) (σ:bB) (k:MK) (todo:List Tm) (dn:List MV) (v:MV):Loc:=
  putK (putK (putK (putK (bU.zip [.lst [d6 v],lP (.parts t σ k todo dn),.lst [.ref G,.ref Lg]]) .bc (lP k)) .ay (.kC (kz σ))) .af (bT t)) .nj (.lst ((dn++[v]).map d6))
theorem HB {t:Tm} {σ:bB} {k:MK} {dn:List MV} {v:MV} {y:MS×bB×Log} (h:tP g lg t σ k (dn++[v]) []=some y) (hT:Told G Lg g lg st):X C (r+3) (bG.drop 6) (partρ G Lg t σ k [] dn v) st (QF (kY G Lg st y)):=
  ri (P:=fun y=>X C (r+3) (bG.drop 6) (partρ G Lg t σ k [] dn v) st (QF (kY G Lg st y))) h fun now h'=>AH rfl (Xc (Aq (Aj rfl (Ec (El rfl (Ec (El rfl (En ((rp h').mono fun x ag q=>xA q fun hx hs=>hs▸hT.nK hx)))))))))
theorem HA {t t':Tm} {σ:bB} {k:MK} {todo:List Tm} {dn:List MV} {v:MV} (hz:(t'::todo).length≤1000) (hT:Told G Lg g lg st):X C (r+3) (bG.drop 6) (partρ G Lg t σ k (t'::todo) dn v) st (QF (kY G Lg st (.go t' σ (.parts t σ k todo (dn++[v])),g,lg))):=by
  refine Av rfl (Xc (Aq (AC (Ec (Ak (Ec (Ai (Ai (El rfl (Ae ⟨_,rfl,(Ae ⟨_,rfl,(Ec (El rfl (Ec (AC (Ec (Ak (Ec (El rfl (Ec (El rfl (Ec (El rfl (Ec (Bg (Ai (El rfl (Ae ⟨_,rfl,((show Eo C _ (some (.int 1)) _ _ _ from Ae ⟨_,rfl,⟨(t'::todo).map bT,rfl,?_,?_⟩⟩))⟩)))))))))))))))))⟩)⟩))))))))))
  · rw [List.length_map];exact Nat.le_trans hz (aw rfl)
  · rw [List.map_cons,Bv]
    exact Ec (El rfl (En ⟨aw rfl,(En ⟨aw rfl,hT.nK rfl⟩)⟩))
theorem G2 {t:Tm} {σ:bB} {k:MK} {todo:List Tm} {dn:List MV} {y:MS×bB×Log} (h:fu g lg vs (.parts t σ k todo dn)=some y) (hT:Told G Lg g lg st) :
    X C (r+3) bG (bU.zip [.lst (vs.map d6),lP (.parts t σ k todo dn),.lst [.ref G,.ref Lg]]) st (QF (kY G Lg st y)):=by
  refine ED (Av rfl (EQ (P:=fun vs=>X C (r+3) (ou::bG.drop 3) (putK (putK (putK (bU.zip [.lst (vs.map d6),lP (.parts t σ k todo dn),.lst [.ref G,.ref Lg]]) .bc (lP k)) .ay (.kC (kz σ))) .af (bT t)) st (QF (kY G Lg st y))) h (fun v e=>D9 e fun hz e=>?_) fun hz hn e=>HL rfl hz hn (e▸hT.nK rfl)))
  refine HM rfl (Av rfl (Av rfl (Xc (Au (C1 (Ai (El rfl (Ae ⟨_,rfl,(Ah (Ec (Ai (El rfl (Ae ⟨d6 v,rfl,(En ⟨aw rfl,?_⟩)⟩)))))⟩))))))))
  refine ⟨dn.map d6,[d6 v],rfl,rfl,by rw [List.length_map];exact Nat.le_trans (Nat.add_le_add_right hz.1 1) (aw rfl),?_⟩
  rw [show dn.map d6++[d6 v]=(dn++[v]).map d6 from (List.map_append (l₁:=dn) (l₂:=[v])).symm]
  cases todo with
  | nil=>exact HB e hT
  | cons t' todo=>exact Option.some.inj e▸HA hz.2 hT
theorem ru {g:bB} {lg:Log} {vs:List MV} {k:MK} {now:MS} {g':bB} {lg':Log} {G Lg:Addr} (h:fu g lg vs k=some (now,g',lg')) (hT:Told G Lg g lg st) :
    Fn C (r+6) (C.fa .fD) [.lst (vs.map d6),lP k,.lst [.ref G,.ref Lg]] st (fun x ag=>x=gA now∧Told G Lg g' lg' ag∧Oe G Lg st ag):=by
  refine Ag (C.dM .fD _ rfl).2.1 rfl ?_
  cases k with
  | done=>exact cp h
  | gh a b σ k=>cases Option.some.inj h;exact rC hT
  | lR a b c σ k=>exact vt h hT
  | gM s e σ k=>exact rB h hT
  | parts t σ k todo dn=>exact G2 (r:=r+2) h hT
end Mine
end
section
namespace Mine
variable {C:Cx} {r:Nat} {ρ:Loc} {st:St}
theorem HO {elt it:PE} {x:Nm} {Q:AV->St->Prop} (h:E C r it ρ st (fun a ao=>∃avs mF,a=.lst avs∧mF.length=avs.length∧avs.length≤1000000∧
      (∀i ag,i<avs.length->E C r elt (putK (gD ρ elt) x (avs.getD i .none)) ag (here ag (mF.getD i .none)))∧Q (.lst mF) ao)):E C r (.freeze (.comp elt x it)) ρ st Q:=by
  refine AD (HP (Ed (h.mono fun a ao ⟨avs,mF,e,hl,hz,hs,q⟩=>⟨avs,e,fun D i ag=>ao D=none∧ag=ao.upd D (.list (mF.take i)),⟨fun D hD=>⟨hD,by simp⟩,?_⟩,?_⟩)))
  · rintro D i ag hi ⟨hD,rfl⟩
    refine (hs i _ hi).mono fun y dG ⟨e1,e2⟩=>?_
    subst e1;subst e2
    refine ⟨_,aZ,by rw [List.length_take];exact ZO hi hz hl,hD,?_⟩
    rw [eT]
    congr 2
    have qo:i<mF.length:=by exact ZN hi hl
    rw [List.take_add_one,List.getElem?_eq_getElem qo,List.getD_eq_getElem?_getD,List.getElem?_eq_getElem qo];rfl
  · rintro D ag ⟨hD,rfl⟩
    rw [List.take_of_length_le (by exact Nat.le_of_eq (by assumption))]
    exact ⟨_,_,Cf hD,q⟩
inductive iJ where | refused (w:Nm) (i:Int) | told (l:List Sh)
noncomputable def tK:iJ->AV
  | .refused w i=>.tup [.str .aV,.str w,.int i]
  | .told l=>.tup [.str .bE,.lst (l.map jY)]
noncomputable def uS:MK->Bool | .done=>true | _=>false
noncomputable def pL:Tm->Option Int | .bI s=>some s | _=>none
abbrev ny:=iJ ⊕ (MS×bB×Log)
noncomputable def Lo (g:bB) (lg:Log) (vs:List MV) (k:MK):Option ny:=
  if uS k=true then (if vs.length≤1000 then some (.inl (.told (vs.map (cut 3)))) else none) else (fu g lg vs k).map .inr
noncomputable def lu (g:bB) (lg:Log) (k:MK) (s:Int):ny:=(ae g s).elim (.inl (.refused .dH s)) fun v=>.inr (.give [v] k,g,lg)
noncomputable def Ln (g:bB) (lg:Log) (t:Tm) (σ:bB) (k:MK):Option ny:=(pL t).elim ((tq σ k t).map fun now=>.inr (now,g,lg)) fun s=>some (lu g lg k s)
noncomputable def ix (g:bB) (lg:Log):MS->Option ny
  | .refused w i=>some (.inl (.refused w i))
  | .give vs k=>Lo g lg vs k
  | .go t σ k=>Ln g lg t σ k
noncomputable def nextM (lg:Log) (f:MS->bB->Log->Option (Option (iJ×Log))):ny->Option (Option (iJ×Log))
  | .inl x=>some (some (x,lg))
  | .inr y=>f y.1 y.2.1 y.2.2
noncomputable def runM:Nat->MS->bB->Log->Option (Option (iJ×Log))
  | 0,_,_,_=>some none
  | n+1,now,g,lg=>(ix g lg now).bind (nextM lg (runM n))
noncomputable def n0:Option (iJ×Log)->AV
  | none=>.none
  | some (x,lg)=>.lst [tK x,.lst (dW lg)]
noncomputable def mj (st ag:St):Prop:=∀b o,st b=some o->ag b=some o
noncomputable def g0:bB:=[(1,.bool true),(4,.vals)]
theorem Gl {a:Addr} {vs:List AV} (h:st a=some (.list vs)):JK st (.ref a)=some (.lst vs,st.del a):=congrArg (fun o=>(kW o).elim _ _) h
theorem JW {a b:Addr} (h:b≠a):(st.del a) b=st b:=if_neg h
noncomputable def Qw:PS->List PS | .mA _ _ b=>b | _=>[]
noncomputable def gy:List PS:=(je[2]?).elim [] Qw
structure sD (C:Cx) (ρ:Loc) (st:St) (G Lg:Addr) (c7:St) (g:bB) (lg:Log) (now:MS):Prop where
  n:ae ρ .b7=some (gA now)
  t:ae ρ .bE=some (.lst [.ref G,.ref Lg])
  T:Told G Lg g lg st
  K:mj c7 st
  G0:c7 G=none
  L0:c7 Lg=none
noncomputable def TQ (G Lg:Addr) (c7:St) (lg:Log) (ρ:Loc) (Q:Fl->Loc->St->Prop):ny->Prop
  | .inl y=>∀ag,mj c7 ag->Q (.ret (.lst [tK y,.lst (dW lg)])) ρ ag
  | .inr y=>∀ag,mj c7 ag->Told G Lg y.2.1 y.2.2 ag->Q .next (putK ρ .b7 (gA y.1)) ag
variable {g:bB} {lg:Log} {G Lg:Addr} {c7:St} {Q:Fl->Loc->St->Prop} {now:MS} {vs:List MV} {k:MK}
theorem sD.told (c:sD C ρ st G Lg c7 g lg now) {y:iJ} {rest:List PS} {e:PE} (q:TQ G Lg c7 lg ρ Q (.inl y)) (he:∀{Q':AV->St->Prop},Q' (tK y) st->E C r e ρ st Q'):X C r (.ret (.freeze (.list [e,.freeze (.sub (.loc .bE) (.int 1))]))::rest) ρ st Q:=
  Xc (Aq (Ah (Ec (he (Ec (AD (Ai (El c.t (Ae ⟨.ref Lg,rfl,_,_,Gl c.T.l,En ⟨aw rfl,q _ fun b o e=>(JW fun z=>cp (c.L0.symm.trans (z▸e))).trans (c.K b o e)⟩⟩)))))))))
theorem ue {o:Option bQ} {x:bQ} {P:Prop} (h:o=none) (h2:o=some x):P:=cp (h.symm.trans h2)
theorem sZ {w:Nm} {i:Int} (c:sD C ρ st G Lg c7 g lg (.refused w i)) (q:TQ G Lg c7 lg ρ Q (.inl (.refused w i))):X C r gy ρ st Q:=
  Xc (Ao (Al (Ai (El c.n (Ae ⟨_,rfl,(Ak ⟨true,rfl,c.told q fun q'=>El c.n q'⟩)⟩)))))
theorem HU (c:sD C ρ st G Lg c7 g lg (.give vs k)) (h:X C r (gy.drop 1) ρ st Q):X C r gy ρ st Q:=Xc (Ao (Al (Ai (El c.n (Ae ⟨_,rfl,(Ak ⟨false,rfl,(Ac h)⟩)⟩)))))
theorem s6 {t:Tm} {σ:bB} (c:sD C ρ st G Lg c7 g lg (.go t σ k)) (h:X C r (gy.drop 1) ρ st Q):X C r gy ρ st Q:=Xc (Ao (Al (Ai (El c.n (Ae ⟨_,rfl,(Ak ⟨false,rfl,(Ac h)⟩)⟩)))))
theorem s9 (hr:5≤r) (c:sD C ρ st G Lg c7 g lg (.give vs .done)) (hz:vs.length≤1000) (q:TQ G Lg c7 lg ρ Q (.inl (.told (vs.map (cut 3))))):X C r gy ρ st Q:=by
  refine HU c (Xc (Ao (Bn (Al (Ai (El c.n (Ae ⟨_,rfl,(Ak ⟨true,rfl,(Al (Ai (El c.n (Ae ⟨_,rfl,(AJ ⟨true,rfl,c.told q fun q'=>AC (Ec (Ak (Ec (HO (Ai (El c.n (Ae ⟨.lst (vs.map d6),rfl,?_⟩)))))))⟩)⟩))))⟩)⟩)))))))
  refine ⟨vs.map d6,(vs.map (cut 3)).map jY,rfl,by rw [List.length_map,List.length_map,List.length_map],EX (EV hz),fun i ag hi=>?_,En ⟨aw rfl,q'⟩⟩
  have hi:i<vs.length:=(List.length_map (as:=vs) d6)▸hi
  rw [CU hi,List.map_map,CU hi]
  exact Aj rfl (Ec (El ((Af ..).trans (if_pos rfl)) (En (FO hr))))
theorem yy (h:uS k=false):isA (lP k) .none=some false:=by
  cases k with
  | done=>exact ff h.symm
  | _=>exact Eq.refl (some false)
theorem Hm (hr:6≤r) (c:sD C ρ st G Lg c7 g lg (.give vs k)) (hk:uS k=false) {y:MS×bB×Log} (h:fu g lg vs k=some y) (q:TQ G Lg c7 lg ρ Q (.inr y)):X C r gy ρ st Q:=
  HU c (Xc (Ao (Bn (Al (Ai (El c.n (Ae ⟨_,rfl,(Ak ⟨true,rfl,(Al (Ai (El c.n (Ae ⟨_,rfl,(AJ ⟨false,yy hk,Ac (Xc (Ao (Al (Ai (El c.n (Ae ⟨_,rfl,(Ak ⟨true,rfl,(Xc (Au (Aj rfl (Ec (Ai (El c.n (Ae ⟨.lst (vs.map d6),rfl,(Ec (Ai (El c.n (Ae ⟨_,rfl,(Ec (El c.t (En
    ((Fn.up (ru (r:=0) (now:=y.1) (g':=y.2.1) (lg':=y.2.2) h c.T) hr).mono fun x ag z=>j4 z fun e1 e2 e3=>e1▸Ac (Ac (q ag (fun b o e=>(e3 b (fun z=>ue c.G0 (z▸e)) (fun z=>ue c.L0 (z▸e))).trans (c.K b o e)) e2))))))⟩))))⟩)))))))⟩)⟩))))))⟩)⟩))))⟩)⟩)))))))
noncomputable def Nn:PS->List PS | .bt _ _ f=>f | _=>[]
noncomputable def Lp:List PS:=(gy[2]?).elim [] Nn
variable {t:Tm} {σ:bB} {s:Int}
theorem Gs (c:sD C ρ st G Lg c7 g lg (.go t σ k)) (h:X C r Lp ρ st (Lq C r [] Q)):X C r gy ρ st Q:=
  s6 c (Xc (Ao (Bn (Al (Ai (El c.n (Ae ⟨_,rfl,(Ak ⟨false,rfl,Ac (Xc (Ao (Al (Ai (El c.n (Ae ⟨_,rfl,(Ak ⟨false,rfl,h⟩)⟩))))))⟩)⟩)))))))
theorem IW (h:pL t=none):ry st (bT t) .eH=some false:=by
  cases t with
  | bI s=>exact cp h.symm
  | _=>exact DP (by decide) (by decide)
theorem qS (hr:6≤r) (c:sD C ρ st G Lg c7 g lg (.go t σ k)) (ht:pL t=none) {y:MS} (h:tq σ k t=some y) (q:TQ G Lg c7 lg ρ Q (.inr (y,g,lg))):X C r gy ρ st Q:=
  Gs c (Xc (Ao (AB (AA (Ai (El c.n (Ae ⟨_,rfl,⟨_,IW ht,_,rfl,Xc (Au (Aj rfl (Ec (Ai (El c.n (Ae ⟨_,rfl,(Ec (Ai (El c.n (Ae ⟨_,rfl,(Ec (Ai (El c.n (Ae ⟨_,rfl,(En
    (((uJ (r:=0) h).up (by exact Z3 hr)).mono fun x ag z=>xA z fun e1 e2=>e1▸e2▸Ac (Ac (Ac (q _ c.K c.T)))))⟩))))⟩))))⟩))))))⟩⟩)))))))
theorem Py {G:Addr} {es:List (Int×AV)} {s:Int} (h:st G=some (.dict es)):KU st (.int s) (.ref G)=some (ae es s).isSome:=congrArg (fun o=>(o4 o).map fun es=>(ae es s).isSome) h
theorem uV {G:Addr} {es:List (Int×AV)} {s:Int} {v:AV} (h:st G=some (.dict es)) (hv:ae es s=some v):itemOf st (.ref G) (.int s)=some v:=
  (congrArg (fun o=>(kW o).elim ((o4 o).bind fun es=>ae es s) fun vs=>itemAt vs s) h).trans hv
theorem Gi {a:Addr} {vs:List AV} {k:Int} {v:AV} (h:st a=some (.list vs)) (hv:itemAt vs k=some v):itemOf st (.ref a) (.int k)=some v:=(congrArg (fun o=>(kW o).elim ((o4 o).bind fun es=>ae es k) fun vs=>itemAt vs k) h).trans hv
theorem GT {vs:List AV} {k:Nat} (hz:k<1000000):itemAt vs k=vs[k]?:=congrArg (Option.bind · fun j=>vs[j]?) (if_pos ⟨Int.natCast_nonneg k,Int.ofNat_lt.mpr hz⟩:idx vs.length k=some k)
theorem Hz {β:Type} {f:β->AV} {G:Addr} {es:List (Int×β)} {s:Int} (h:st G=some (.dict (es.map fun kv=>(kv.1,f kv.2)))):KU st (.int s) (.ref G)=some (ae es s).isSome:=by rw [Py h,Ce,Option.isSome_map]
theorem DO {β:Type} {f:β->AV} {G:Addr} {es:List (Int×β)} {s:Int} {v:β} (h:st G=some (.dict (es.map fun kv=>(kv.1,f kv.2)))) (hv:ae es s=some v):itemOf st (.ref G) (.int s)=some (f v):=uV h (by rw [Ce,hv];rfl)
theorem Js (hT:Told G Lg g lg st):KU st (.int s) (.ref G)=some (ae g s).isSome:=Hz (BV g▸hT.d)
theorem uU (hT:Told G Lg g lg st) {v:MV} (hv:ae g s=some v):itemOf st (.ref G) (.int s)=some (d6 v):=DO (BV g▸hT.d) hv
theorem s8 (c:sD C ρ st G Lg c7 g lg (.go (.bI s) σ k)) (q:TQ G Lg c7 lg ρ Q (lu g lg k s)):X C r gy ρ st Q:=by
  refine Gs c (Xc (Ao (AB (AA (Ai (El c.n (Ae ⟨_,rfl,⟨_,DP (by decide) (by decide),_,rfl,?_⟩⟩)))))))
  unfold lu at q
  refine Xc (Ao (Al (Aa (Ai (El c.n (Ae ⟨_,rfl,⟨_,Ab (by decide) rfl,(Ai (El c.t (Ae ⟨.ref G,rfl,!(ae g s).isSome,congrArg (Option.map _) (Js c.T),?_⟩)))⟩⟩))))))
  cases e:ae g s with
  | none=>
    rw [e] at q
    exact c.told q fun q'=>AC (Ec (Ak (Ec (Ak (Ec (Aa (Ai (El c.n (Ae ⟨_,rfl,⟨_,Ab (by decide) rfl,En ⟨aw rfl,q'⟩⟩⟩)))))))))
  | some v=>
    rw [e] at q
    exact Ac (Xc (Au (AC (Ec (Ak (Ec (Ah (Ec (Ai (Ai (El c.t (Ae ⟨.ref G,rfl,(Aa (Ai (El c.n (Ae ⟨_,rfl,⟨_,Ab (by decide) rfl,⟨d6 v,uU c.T e,(En ⟨aw rfl,(Ec (Ai (El c.n (Ae ⟨_,rfl,(En ⟨aw rfl,Ac (Ac (Ac (q _ c.K c.T)))⟩)⟩))))⟩)⟩⟩⟩))))⟩))))))))))))
theorem Gd (hr:6≤r) {x:ny} (h:ix g lg now=some x) (c:sD C ρ st G Lg c7 g lg now) (q:TQ G Lg c7 lg ρ Q x):X C r gy ρ st Q:=by
  cases now with
  | refused w i=>exact sZ c (Option.some.inj h▸q)
  | give vs k=>
    cases hk:uS k with
    | true=>
      have ek:k=.done:=by
        cases k with
        | done=>rfl
        | _=>exact ff hk
      subst ek
      exact D9 (show (if vs.length≤1000 then _ else none)=some x from h) fun hz h=>s9 (Nat.le_of_lt hr) c hz (Option.some.inj h▸q)
    | false=>exact ri (P:=fun x=>TQ G Lg c7 lg ρ Q x->_) ((if_neg (hk▸Bool.false_ne_true)).symm.trans h) (fun y h=>Hm hr c hk h) q
  | go t σ k=>
    have h:(pL t).elim _ _=some x:=h
    cases ht:pL t with
    | none=>rw [ht] at h;exact ri (P:=fun x=>TQ G Lg c7 lg ρ Q x->_) h (fun y h=>qS hr c ht h) q
    | some s=>
      rw [ht] at h
      cases t with
      | bI s'=>exact s8 c (((congrArg (lu g lg k) (Option.some.inj ht)).trans (Option.some.inj h):lu g lg k s'=x)▸q)
      | _=>exact cp ht
end Mine
end
section
namespace Mine
variable {C:Cx} {r:Nat} {ρ:Loc} {st:St}
inductive MI (C:Cx) (G Lg:Addr) (c7:St) (n:Nat) (res:Option (iJ×Log)) (i:Nat) (ρ:Loc) (st:St):Prop
  | mk {now g lg}:sD C ρ st G Lg c7 g lg now->runM (n-i) now g lg=some res->MI C G Lg c7 n res i ρ st
noncomputable def MQ (c7:St) (res:Option (iJ×Log)):Fl->Loc->St->Prop:=QF fun x ag=>x=n0 res∧mj c7 ag
theorem Ge {G Lg:Addr} {c7:St} {n i:Nat} {res:Option (iJ×Log)} (hi:i<n) (hI:MI C G Lg c7 n res i ρ st):X C 6 gy (putK ρ .eP (.int i)) st (Jc (MI C G Lg c7 n res (i+1)) (MQ c7 res)):=by
  refine hI.rec fun {now g lg} c h=>?_
  rw [show n-i=(n-(i+1))+1 from (Nat.succ_pred_eq_of_pos (Nat.sub_pos_of_lt hi)).symm] at h
  refine jV h fun x hx h=>Gd (Nat.le_refl _) hx ⟨((Af ..).trans (if_neg (by decide))).trans c.n,((Af ..).trans (if_neg (by decide))).trans c.t,c.T,c.K,c.G0,c.L0⟩ ?_
  cases x with
  | inl y=>exact Option.some.inj h▸fun dG hk=>⟨rfl,hk⟩
  | inr y=>exact fun dG hk hT=>⟨⟨(Af ..).trans (if_pos rfl),((Af ..).trans (if_neg (by decide))).trans (((Af ..).trans (if_neg (by decide))).trans c.t),hT,hk,c.G0,c.L0⟩,h⟩
theorem GP {t:Tm} {n:Nat} {res:Option (iJ×Log)} (hr:7≤r) (hn:n≤1000) (h:runM n (.go t [] .done) g0 []=some res) :
    Fn C r (C.fa .eF) [bT t,.int n] st (fun x ag=>x=n0 res∧mj st ag):=by
  refine Fn.up (r:=7) ?_ hr
  refine Ag (C.dM .eF _ rfl).2.1 rfl ?_
  refine Xc (Au (Ah (Ec (qM fun G hG=>?_))))
  refine Ae (Bz (Ae (AC (Ec (Ak (En ⟨aw rfl,?_⟩))))))
  refine ⟨1,4,rfl,rfl,by decide,aZ,?_⟩
  rw [eT]
  refine Ec (B4 (En ⟨aw rfl,fun Lg K6=>En ⟨aw rfl,?_⟩⟩))
  have hE:Lg≠G:=fun e=>by rw [e,aZ] at K6;injection K6
  have hL:st Lg=none:=by rwa [Aw hE] at K6
  refine Xc (Au (AC (Ec (Ak (Ec (El rfl (Ec (wW (Ec (AJ (En ⟨aw rfl,?_⟩)))))))))))
  refine Xc (wF (El rfl ⟨n,rfl,EX hn,MI C G Lg st n res,⟨⟨rfl,rfl,⟨(Aw (Ne.symm hE)).trans aZ,aZ⟩,fun b o e=>(Aw fun z=>ue hL (z▸e)).trans ((Aw fun z=>ue hG (z▸e)).trans e),hG,hL⟩,h⟩,fun i ρ' ag hi hI=>?_,fun ρ' ag hI=>?_⟩))
  · exact Ge hi hI
  · refine hI.rec fun c e=>?_
    rw [Nat.sub_self] at e
    exact Option.some.inj e▸BS rfl ⟨rfl,c.K⟩
end Mine
end
section
namespace Mine
variable {C:Cx} {r:Nat} {ρ:Loc} {st:St}
inductive CV where | c (k:qO) | aA
noncomputable def CV.A:CV->AV | .c k=>k.A | .aA=>.glob
inductive KO where | cst (res:Int) (c:CV) | fn (res lab:Int) | bI (res s:Int) | set (s a:Int) | prim (res op:Int) (args:List Int)
noncomputable def KQ (res:Int) (w:Nm) (num:Int) (args:List Int) (Nr:AV) (Ji:List Int):List (Nm×AV):=
  [(.dg,.int res),(.bo,.str w),(.aU,.int num),(.cI,.lst (args.map .int)),(.eW,Nr),(.iN,.lst []),(.gC,.lst (Ji.map .int))]
noncomputable def kP:KO->AV
  | .cst res c=>.obj .fO (KQ res .k8 (-1) [] c.A [])
  | .fn res lab=>.obj .fO (KQ res .aR (-1) [] .none [lab])
  | .bI res s=>.obj .fO (KQ res .lL s [] .none [])
  | .set s a=>.obj .fO (KQ (-1) .bV s [a] .none [])
  | .prim res op args=>.obj .fO (KQ res .cM op args .none [])
inductive KL where | call (f:Int) (args:List Int) (to var:Int) | gm (to:Int) (args:List Int) | give (var:Int) (args:List Int) | branch (t y n:Int)
noncomputable def Oq (w:Nm) (f:Int) (args:List Int) (to other var:Int):List (Nm×AV):=
  [(.bo,.str w),(.aR,.int f),(.cI,.lst (args.map .int)),(.jE,.int to),(.eD,.int other),(.aW,.int var)]
noncomputable def qk:KL->AV
  | .call f args to var=>.obj .d5 (Oq .d8 f args to (-1) var)
  | .gm to args=>.obj .d5 (Oq .cY (-1) args to (-1) (-1))
  | .give var args=>.obj .d5 (Oq .fj (-1) args (-1) (-1) var)
  | .branch t y n=>.obj .d5 (Oq .rh t [] y n (-1))
structure BK where
  label:Int
  sort:Nm
  params:List Int
  rest:Int
  var:Int
  dF:Int
  parent:Int
  title:Nm
  ops:List KO
  last:KL
noncomputable def pQ (b:BK):AV:=.obj .aS [(.aC,.int b.label),(.gi,.str b.sort),(.aG,.lst (b.params.map .int)),(.bc,.int b.rest),(.aW,.int b.var),(.gj,.int b.dF),(.eC,.int b.parent),(.fT,.str b.title),
  (.ja,.lst (b.ops.map kP)),(.bw,qk b.last)]
abbrev sE:=List (Int×BK)
noncomputable def kK (p:sE) (entry:Int):AV:=.obj .aE [(.dI,.kC (p.map fun kv=>(kv.1,pQ kv.2))),(.dJ,.int entry)]
inductive KV where | bool (b:Bool) | int (i:Int) | aA | pair (a b:KV) | vals | fn (l:Int) (s:Addr) | bu (l:Int) (s:Addr) | stop
noncomputable def fq:KV->AV
  | .bool b=>.bool b
  | .int i=>.int i
  | .aA=>.glob
  | .pair a b=>.tup [.str .ng,fq a,fq b]
  | .vals=>.tup [.str .ai]
  | .fn l s=>.tup [.str .aR,.int l,.ref s]
  | .bu l s=>.tup [.str .aq,.int l,.ref s]
  | .stop=>.str .uu
abbrev aK:=List (Int×KV)
noncomputable def eg (σ:aK):List (Int×AV):=σ.map fun kv=>(kv.1,fq kv.2)
theorem HZ (l:aK) (k:Int) (v:KV):putK (eg l) k (fq v)=eg (putK l k v):=C4 ..
theorem Cw (l:aK):(eg l).length=l.length:=by unfold eg;rw [List.length_map]
noncomputable def il:Nat->KV->Sh
  | n+1,.pair a b=>.pair (il n a) (il n b)
  | 0,.pair ..=>.deep
  | _,.aA=>.nothing
  | _,.bool b=>.at true (if b then 1 else 0)
  | _,.int i=>.at false i
  | _,_=>.proc
noncomputable def KV.plain:KV->Prop
  | .stop=>False
  | .pair a b=>a.plain∧b.plain
  | _=>True
theorem E1:∀(n:Nat) (v:KV),v.plain->Fn C (n+1) (C.fa .dC) [fq v,.int n] st (here st (jY (il n v)))
  | n,v,hp=>by
    refine Ag (C.dM .dC _ rfl).2.1 rfl ?_
    cases v with
    | bool b=>
      refine Xc (Ao (AB (AA (El rfl ⟨false,rfl,false,rfl,(Ac (Xc (Aq (AE (Al (El rfl (Bx ⟨false,rfl,(AC (Ec (AA (El rfl ⟨true,rfl,(Ec (BG (v:=.type "int") rfl (Ec (El rfl (En (Ep (En ⟨aw rfl,?_⟩)))))))⟩))))⟩)))))))⟩))))
      cases n<;>exact ⟨rfl,rfl⟩
    | int i=>
      refine Xc (Ao (AB (AA (El rfl ⟨false,rfl,false,rfl,(Ac (Xc (Aq (AE (Al (El rfl (Bx ⟨false,rfl,(AC (Ec (AA (El rfl ⟨false,rfl,(Ec (BG (v:=.type "int") rfl (Ec (El rfl (En (Fo (En ⟨aw rfl,?_⟩)))))))⟩))))⟩)))))))⟩))))
      cases n<;>exact ⟨rfl,rfl⟩
    | aA=>
      refine Xc (Ao (AB (AA (El rfl ⟨false,rfl,false,rfl,(Ac (Xc (Aq (AE (Al (El rfl (Bx ⟨true,rfl,(Ak ?_)⟩)))))))⟩))))
      cases n<;>exact ⟨rfl,rfl⟩
    | vals=>
      refine Xc (Ao (AB (AA (El rfl ⟨true,rfl,true,rfl,(AH rfl (BS rfl ?_))⟩))))
      cases n<;>exact ⟨rfl,rfl⟩
    | fn l s=>
      refine Xc (Ao (AB (AA (El rfl ⟨true,rfl,true,rfl,(AH rfl (BS rfl ?_))⟩))))
      cases n<;>exact ⟨rfl,rfl⟩
    | bu l s=>
      refine Xc (Ao (AB (AA (El rfl ⟨true,rfl,true,rfl,(AH rfl (BS rfl ?_))⟩))))
      cases n<;>exact ⟨rfl,rfl⟩
    | stop=>exact hp.elim
    | pair a b=>
      refine Xc (Ao (AB (AA (El rfl ⟨true,rfl,true,rfl,(Av rfl ?_)⟩))))
      cases n with
      | zero=>exact Xc (Aq (AE (Al (El rfl (Ae ⟨false,rfl,(Ak ⟨rfl,rfl⟩)⟩)))))
      | succ n=>
        refine Xc (Aq (AE (Al (El rfl (Ae ⟨true,?_,?_⟩)))))
        · show some (decide (((n+1:Nat):Int)>0))=some true
          rw [decide_eq_true (by exact Xe)]
        · have e:(((n+1:Nat):Int)-1)=(n:Int):=by exact OH
          refine AC (Ec (Aj rfl (Ec (Ai (El rfl (Ae ⟨_,rfl,(Ec (AT (El rfl (Ae ⟨_,_,_,rfl,rfl,rfl,(En ?_)⟩))))⟩))))))
          rw [e]
          refine (E1 n a hp.1).mono fun x ag ⟨hx,hs⟩=>?_
          subst hx;subst hs
          refine Ec (Aj rfl (Ec (Ai (El rfl (Ae ⟨_,rfl,(Ec (AT (El rfl (Ae ⟨_,_,_,rfl,rfl,rfl,(En ?_)⟩))))⟩)))))
          rw [e]
          refine (E1 n b hp.2).mono fun x ag ⟨hx,hs⟩=>?_
          subst hx;subst hs
          exact En ⟨aw rfl,⟨rfl,rfl⟩⟩
theorem E0 {v:KV} (hr:5≤r) (hp:v.plain):Fn C r (C.fa .cc) [fq v] st (here st (jY (il 3 v))):=by
  refine Fn.up (r:=5) ?_ hr
  refine Ag (C.dM .cc _ rfl).2.1 rfl ?_
  exact Xc (Aq (Aj rfl (Ec (El rfl (Ec (Ae (En (E1 3 v hp))))))))
noncomputable def hA:KV->Bool | .bool b=>!b | _=>false
theorem wV {v:KV} {e:PE} {Q:AV->St->Prop} (hl:∀{Q:AV->St->Prop},Q (fq v) st->E C r e ρ st Q) (hp:v.plain) (q:Q (.bool (hA v)) st) :
    E C r (.and (.call .au [e,(.bI .eE)]) (.not e)) ρ st Q:=by
  cases v with
  | bool b=>exact BZ (AA (hl ⟨true,rfl,true,rfl,(II (hl ⟨b,rfl,q⟩))⟩))
  | int i=>exact BZ (AA (hl ⟨false,rfl,false,rfl,(q)⟩))
  | aA=>exact BZ (AA (hl ⟨false,rfl,false,rfl,(q)⟩))
  | pair a b=>exact BZ (AA (hl ⟨false,rfl,false,rfl,(q)⟩))
  | fn l s=>exact BZ (AA (hl ⟨false,rfl,false,rfl,(q)⟩))
  | bu l s=>exact BZ (AA (hl ⟨false,rfl,false,rfl,(q)⟩))
  | vals=>exact BZ (AA (hl ⟨false,rfl,false,rfl,(q)⟩))
  | stop=>exact hp.elim
theorem wL {v:KV} {e:PE} {Q:Bool->St->Prop} (hl:∀{Q:AV->St->Prop},Q (fq v) st->E C r e ρ st Q) (ht:∀{b:Bool} {Q:Bool->St->Prop},v=.bool b->Q b st->T C r e ρ st Q) (hp:v.plain) (q:Q (hA v) st) :
    T C r (.and (.call .au [e,(.bI .eE)]) (.not e)) ρ st Q:=by
  cases v with
  | bool b=>exact Bn (AB (AA (hl ⟨true,rfl,true,rfl,(Fk (ht rfl (q)))⟩)))
  | int i=>exact Bn (AB (AA (hl ⟨false,rfl,false,rfl,(q)⟩)))
  | aA=>exact Bn (AB (AA (hl ⟨false,rfl,false,rfl,(q)⟩)))
  | pair a b=>exact Bn (AB (AA (hl ⟨false,rfl,false,rfl,(q)⟩)))
  | fn l s=>exact Bn (AB (AA (hl ⟨false,rfl,false,rfl,(q)⟩)))
  | bu l s=>exact Bn (AB (AA (hl ⟨false,rfl,false,rfl,(q)⟩)))
  | vals=>exact Bn (AB (AA (hl ⟨false,rfl,false,rfl,(q)⟩)))
  | stop=>exact hp.elim
theorem Hu {v:KV} {vs:List AV} (hp:v.plain):Fn C (r+1) (C.fa .bX) [.int 8,.lst (fq v::vs)] st (here st (fq (.bool (hA v)))):=by
  refine Ag (C.dM .bX _ rfl).2.1 rfl ?_
  exact AH rfl (Xc (Aq (wV (fun q=>Ai (El rfl (Ae ⟨_,rfl,q⟩))) hp ⟨rfl,rfl⟩)))
theorem Ht {v w:KV} {vs:List AV}:Fn C (r+1) (C.fa .bX) [.int 9,.lst (fq v::fq w::vs)] st (here st (fq (.pair v w))):=by
  refine Ag (C.dM .bX _ rfl).2.1 rfl ?_
  exact Av rfl (BS rfl ⟨rfl,rfl⟩)
noncomputable def gz (σ:aK) (l:List (Int×KV)):aK:=l.foldl (fun σ kv=>putK σ kv.1 kv.2) σ
theorem DF:∀(l:List (Int×KV)) (σ:aK),(gz σ l).length≤σ.length+l.length
  | [],σ=>Nat.le_refl _
  | kv::l,σ=>by
    have:=DF l (putK σ kv.1 kv.2)
    have h2:=AN σ kv.1 kv.2
    show (gz (putK σ kv.1 kv.2) l).length≤_
    rw [List.length_cons];exact Ut h2 this
theorem Fy {p:sE} {e l:Int} {b:BK} {Q:AV->St->Prop} (h:ae p l=some b) (q:Q (pQ b) st):Fn C (r+1) (C.ma .aE .aq) [kK p e,.int l] st Q:=by
  refine Ag (C.aB .aE .aq _ rfl).2.2.2 rfl ?_
  refine Xc (Aq (Ai (Aa (El rfl ⟨_,Ab (by decide) rfl,(El rfl ?_)⟩))))
  exact ⟨pQ b,by show ae (p.map fun kv=>(kv.1,pQ kv.2)) l=_;rw [Ce,h];rfl,q⟩
theorem DZ {p:sE} {x:Nm} {e l:Int} {b:BK} {a:PE} {Q:AV->St->Prop} (hx:ae ρ x=some (kK p e)) (ha:∀{Q:AV->St->Prop},Q (.int l) st->E C (r+1) a ρ st Q) (h:ae p l=some b) (q:Q (pQ b) st):E C (r+1) (.aB (.loc x) .aq [a]) ρ st Q:=
  AU (El hx ⟨_,_,rfl,rfl,rfl,Ec (ha (En (Fy h q)))⟩)
end Mine
end
section
namespace Mine
variable {C:Cx} {R:Addr->Prop} {r:Nat} {ρ:Loc} {st:St}
theorem bA.freeze {s:Shared} {env:Env} {x:Nm} {D:Addr} {vs:List AV} (S:bp C R st s) (L:bA C s.heap R st env (putK ρ x (.ref D))) (h:st D=some (.list vs)):bA C s.heap R (st.del D) env (putK ρ x (.lst vs)):=
  have up:Up s.heap (dm R st) s.heap (dm R (st.del D)):=fun b o e nb=>⟨e,fun d=>nb (Fc d)⟩
  ⟨L.inR,fun d=>L.nd (Ey d),bq L.ns fun m hm hl=>⟨m,hm,fun y v e=>by
    by_cases q:y=x
    · cases Option.some.inj ((if_pos q).symm.trans ((Af ..).symm.trans e))
      exact bq (hl y (.ref D) ((Af ..).trans (if_pos q))) fun u h1 h2=>dR (S.obj _ _ h) fun xs h3 h4 h5=>⟨.ref D,⟨D,xs,rfl,Cr S h,h3,h4.up up,h5⟩,(h1:u=.ref D)▸h2.imp id fun z=>⟨z.1,dR z.2 fun c l n z=>⟨c,l,fun d=>n (Fc d),z⟩⟩⟩
    · exact bq (hl y v ((Af ..).trans ((if_neg q).trans ((if_neg q).symm.trans ((Af ..).symm.trans e))))) fun u h1 h2=>⟨u,h1.up up,h2.imp id fun z=>⟨z.1,dR z.2 fun c l n z=>⟨c,l,fun d=>n (Fc d),z⟩⟩⟩⟩⟩
theorem zp {elt it:PE} {x y:Nm} {Q:Fl->Loc->St->Prop} (h:Iter C r it ρ st (fun n av ao=>∃Inv,qe C r elt y ρ ao n av Inv∧∀D ag,Inv D n ag->∃vs,ag D=some (.list vs)∧Q .next (putK ρ x (.lst vs)) (ag.del D))):X1 C r (.km x elt y it) ρ st Q:=by
  have h1:X1 C r (.km x elt y it) ρ st (fun fl ρ' ag=>fl=.next∧∃D vs,ρ'=putK ρ x (.ref D)∧ag D=some (.list vs)∧Q .next (putK ρ x (.lst vs)) (ag.del D)):=
    Ki fun R A env t s a b c d e P k=>h R A env t s a b c d e P fun ao s1 I n h1 t1 av hK=>k ao s1 I n h1 t1 av (bq hK fun Inv hI hQ=>⟨Inv,hI,fun D ag hh=>bq (hQ D ag hh) fun vs e1 q=>⟨rfl,D,vs,rfl,e1,q⟩⟩)
  constructor
  intro R A env sx s he hv hr S L
  refine h1.run he hv hr S L fun f s' fl ρ' ag hf S' x' L' q0=>j3 q0 fun e1 D vs e2 e3 q=>?_
  clear q0;subst e1 e2
  exact ⟨.next,_,ag.del D,hf,S'.del,x'.trans (Ext.del (s:=s')).l,L'.freeze S' e3,q⟩
theorem qU {mF:List AV} {i n:Nat} (hi:i<n) (hl:mF.length=n):mF.take (i+1)=mF.take i++[mF.getD i .none]:=by
  rw [List.take_add_one,getD_at (hl▸hi),List.getElem?_eq_getElem (hl▸hi)];rfl
inductive Xq (ao:St) (mF:List AV) (D:Addr) (i:Nat) (ag:St):Prop
  | mk:ao D=none->ag=ao.upd D (.list (mF.take i))->Xq ao mF D i ag
theorem wI {elt it:PE} {x y:Nm} {Q:Fl->Loc->St->Prop} (h:E C r it ρ st (fun a ao=>∃avs mF,a=.lst avs∧mF.length=avs.length∧avs.length≤1000000∧
      (∀i ag,i<avs.length->mj ao ag->E C r elt (putK (gD ρ elt) y (avs.getD i .none)) ag (here ag (mF.getD i .none)))∧Q .next (putK ρ x (.lst mF)) ao)):X1 C r (.km x elt y it) ρ st Q:=
  zp (Ed (h.mono fun a ao q=>cm q fun avs mF e hl hz hs q=>⟨avs,e,Xq ao mF,⟨fun D hD=>⟨hD,rfl⟩,fun D i ag hi hI=>hI.rec fun hD e=>e▸
      (hs i _ hi fun b o e=>(Aw fun z=>ue hD (z▸e)).trans e).mono fun y dG q=>xA q fun e1 e2=>e1▸e2▸⟨_,aZ,(List.length_take ..).symm▸Nat.le_trans (Nat.min_le_right ..) (hl▸hz),hD,eT.trans (congrArg (fun z=>ao.upd D (.list z)) (qU hi hl).symm)⟩⟩,
    fun D ag hI=>hI.rec fun hD e=>⟨mF,e▸aZ.trans (congrArg (fun z=>some (bQ.list z)) (List.take_of_length_le (Nat.le_of_eq hl))),e▸(Gn hD).symm▸q⟩⟩))
theorem xU (σ:aK) (ps:List Int) (vs:List KV):j6 (eg σ) (ps.zip (vs.map fq))=eg (gz σ (ps.zip vs)):=Gy fq ps σ vs
noncomputable def inρ (p:sE) (e l:Int) (s:Addr) (vs:List KV) (b:BK) (D:Addr):Loc:=putK (putK (lE.zip [kK p e,.int l,.ref s,.lst (vs.map fq)]) .aq (pQ b)) .aM (.ref D)
section
variable {p:sE} {e l:Int} {b:BK} {s:Addr} {σ:aK} {vs:List KV} {Q:AV->St->Prop} {D:Addr}
theorem FR (hz:σ.length+b.params.length≤1000) (q:Q (.tup [.int l,.ref D]) (st.upd D (.dict (eg (gz σ (b.params.zip vs)))))):X C r (lX.drop 3) (inρ p e l s vs b D) (st.upd D (.dict (eg σ))) (QF Q):=by
  refine wC (ps:=b.params) (ws:=vs.map fq) (by decide) (by decide) (by decide) rfl (Cw σ▸hz) (Ec (Aa (El rfl ⟨_,Ab (by decide) rfl,(Ec (El rfl (En ⟨rfl,rfl⟩)))⟩))) fun ρ' hρ=>?_
  rw [xU]
  exact Xc (Aq (AC (Ec (El ((hρ .aC (by decide) (by decide)).trans rfl) (Ec (El ((hρ .aM (by decide) (by decide)).trans rfl) (En ⟨aw rfl,q⟩)))))))
theorem Jd {n m:Nat} {c:Bool} (h:decide (n=m)=!c):(!((n:Int)==(m:Int)))=c:=by
  cases c with
  | true=>rw [beq_eq_false_iff_ne.mpr (show (n:Int)≠(m:Int) from fun e=>of_decide_eq_false h (Int.ofNat.inj e))];rfl
  | false=>rw [beq_iff_eq.mpr (show (n:Int)=(m:Int) from congrArg Int.ofNat (of_decide_eq_true h))];rfl
theorem Ia (hz:b.params.length≤1000) (hv:vs.length≤1000) {c:Bool} (hc:decide (b.params.length=vs.length)=!c) {ρ:Loc} {st:St} (h1:ae ρ .aq=some (pQ b)) (h2:ae ρ .ai=some (.lst (vs.map fq))) {Q:Bool->St->Prop} (q:Q c st) :
    T C r (.cmp .ne (.call .bZ [.attr (.loc .aq) .aG]) (.call .bZ [.loc .ai])) ρ st Q:=
  Al (AX (Aa (El h1 ⟨_,Ab (by decide) rfl,⟨b.params.map .int,rfl,(List.length_map (as:=b.params) AV.int).symm▸EX hz,(AX (El h2 ⟨vs.map fq,rfl,(List.length_map (as:=vs) fq).symm▸EX hv,c,by rw [List.length_map,List.length_map];exact congrArg some (Jd hc),q⟩))⟩⟩)))
theorem GQ (hb:ae p l=some b) (hs:st s=some (.dict (eg σ))) (hz:σ.length+b.params.length≤1000) (hv:vs.length≤1000)
    (q0:b.rest<0->b.params.length≠vs.length->∀D,st D=none->Q (.tup [.str .aV,.str .ai,.int vs.length]) (st.upd D (.dict (eg σ))))
    (q1:(b.rest<0->b.params.length=vs.length)->∀D,st D=none->Q (.tup [.int l,.ref D]) (st.upd D (.dict (eg (gz σ (b.params.zip vs)))))) :
    Fn C (r+2) (C.fa .cV) [kK p e,.int l,.ref s,.lst (vs.map fq)] st Q:=by
  refine Ag (C.dM .cV _ rfl).2.1 rfl ?_
  refine Xc (Au (DZ (p:=p) (e:=e) rfl (fun q=>El rfl q) hb ?_))
  refine Xc (Au (qN (El rfl ⟨eg σ,congrArg o4 hs,Cw σ▸EX (Nat.le_trans (Nat.le_add_right ..) hz),fun D hD=>?_⟩)))
  refine Xc (Ao (Bn (Al (Aa (El rfl ⟨_,Ab (by decide) rfl,(Ae ⟨decide (b.rest<0),rfl,?_⟩)⟩)))))
  by_cases hr:b.rest<0
  · rw [decide_eq_true hr]
    by_cases hl:b.params.length=vs.length
    · exact Ia (Nat.le_trans (Nat.le_add_left ..) hz) hv (c:=false) (decide_eq_true hl) rfl rfl (Ac (FR hz (q1 (fun _=>hl) D hD)))
    · refine Ia (Nat.le_trans (Nat.le_add_left ..) hz) hv (c:=true) (decide_eq_false hl) rfl rfl (Xc (Aq (AC (Ec (Ak (Ec (Ak (Ec (AX (El rfl ⟨vs.map fq,rfl,(List.length_map (as:=vs) fq).symm▸EX hv,(En ⟨aw rfl,?_⟩)⟩))))))))))
      exact (List.length_map (as:=vs) fq).symm▸q0 hr hl D hD
  · rw [decide_eq_false hr]
    exact Ac (FR hz (q1 (fun h=>absurd h hr) D hD))
end
end Mine
end
section
namespace Mine
variable {C:Cx} {r:Nat} {ρ:Loc} {st:St}
theorem DT {p:Nm->Bool} {x:Nm} (hp:p x=true) {ρ:Loc}:ae (ρ.filter fun kv=>p kv.1) x=ae ρ x:=by
  induction ρ with
  | nil=>rfl
  | cons e r ih=>
    obtain ⟨y,a⟩:=e
    rw [List.filter_cons,Am]
    by_cases hy:p y=true
    · rw [if_pos hy,Am,ih]
    · rw [if_neg hy,if_neg (fun q:y=x=>hy (q▸hp)),ih]
noncomputable def eQ (σ:aK) (as:List Int) (vs:List KV):Prop:=vs.length=as.length∧∀i (h:i<as.length) (h':i<vs.length),ae σ as[i]=some vs[i]
theorem BP {it:PE} {s:Addr} {σ:aK} {as:List Int} {vs:List KV} {Q:Fl->Loc->St->Prop} (hs:ae ρ .ay=some (.ref s)) (hd:st s=some (.dict (eg σ))) (hl:eQ σ as vs) (hz:as.length≤1000)
    (hit:∀{Q:AV->St->Prop},Q (.lst (as.map .int)) st->E C r it ρ st Q) (q:Q .next (putK ρ .ai (.lst (vs.map fq))) st):X1 C r (.km .ai (.sub (.jU .ay) (.loc .aW)) .aW it) ρ st Q:=by
  refine wI (hit ⟨as.map .int,vs.map fq,rfl,by rw [List.length_map,List.length_map,hl.1],(List.length_map (as:=as) AV.int).symm▸EX hz,fun i ag hi hk=>?_,q⟩)
  have hi:i<as.length:=(List.length_map (as:=as) AV.int)▸hi
  have qo:i<vs.length:=hl.1▸hi
  rw [CU hi,CU qo]
  refine Ai (Bo (av:=.ref s) ?_ (El (av:=.int as[i]) ((Af ..).trans (if_pos rfl)) ⟨fq vs[i],DO (hk _ _ hd) (hl.2 i hi qo),rfl,rfl⟩))
  rw [Af,if_neg (by decide)]
  exact (DT (p:=fun z=>decide (z∈lV (.sub (.jU .ay) (.loc .aW)))) (by decide)).trans hs
structure qH (G Lg:Addr) (g:aK) (lg:Log) (st:St):Prop where
  d:st G=some (.dict (eg g))
  l:st Lg=some (.list (dW lg))
noncomputable def CV.V:CV->KV | .c .t=>.bool true | .c .f=>.bool false | .c .mB=>.int 5 | .aA=>.aA
theorem CV.Vn (c:CV):fq c.V=c.A:=by
  cases c with
  | c k=>cases k<;>rfl
  | aA=>rfl
theorem Ba {σ:aK}:eQ σ [] []:=⟨rfl,fun i h=>absurd h (Nat.not_lt_zero i)⟩
theorem Eh {σ:aK} {a:Int} {v:KV} {as:List Int} {vs:List KV} (h:ae σ a=some v) (q:eQ σ as vs):eQ σ (a::as) (v::vs):=⟨congrArg Nat.succ q.1,fun i=>by
  cases i with
  | zero=>exact fun _ _=>h
  | succ i=>exact fun h1 h2=>q.2 i (Nat.lt_of_succ_lt_succ h1) (Nat.lt_of_succ_lt_succ h2)⟩
theorem DJ {σ:aK} {a:Int} {v:KV} (h:ae σ a=some v):eQ σ [a] [v]:=Eh h Ba
theorem yo {σ:aK} {a b:Int} {v w:KV} (h:ae σ a=some v) (h':ae σ b=some w):eQ σ [a,b] [v,w]:=Eh h (DJ h')
section
variable {G Lg s:Addr} {g σ:aK} {lg:Log}
noncomputable abbrev gR (op:KO) (s G Lg:Addr):List AV:=[kP op,.ref s,.lst [.ref G,.ref Lg]]
theorem uP {s:Addr} {σ:aK} {res:Int} {v:KV} (hd:st s=some (.dict (eg σ))) (hz:σ.length≤1000):setOk st s (.int res) (fq v) (st.upd s (.dict (eg (putK σ res v)))):=setOk.d hd (Cw σ▸EX hz) (by rw [HZ])
theorem Ie {s:Addr} {σ:aK} {res:Int} {v:KV} {a:AV} (hd:st s=some (.dict (eg σ))) (hz:σ.length≤1000) (e:fq v=a):setOk st s (.int res) a (st.upd s (.dict (eg (putK σ res v)))):=e▸uP hd hz
theorem ua {res:Int} {c:CV} {Q:AV->St->Prop} (hd:st s=some (.dict (eg σ))) (hz:σ.length≤1000) (q:Q (.bool true) (st.upd s (.dict (eg (putK σ res c.V))))):Fn C (r+1) (C.fa .bC) (gR (.cst res c) s G Lg) st Q:=by
  refine Ag (C.dM .bC _ rfl).2.1 rfl ?_
  refine Xc (BP rfl hd Ba (by decide) (fun q=>Aa (El rfl ⟨_,Ab (by decide) rfl,q⟩)) ?_)
  refine ef rfl (ef rfl (Xc (Au (AE (Al (Aa (El rfl ⟨_,Ab (by decide) rfl,(Ak ⟨true,rfl,(Aa (El rfl ⟨_,Ab (by decide) rfl,?_⟩))⟩)⟩)))))))
  refine Xc (Br (AE (Al (Aa (El rfl ⟨_,Ab (by decide) rfl,Ak ⟨false,rfl,El rfl (Bo rfl (Aa (El rfl ⟨_,Ab (by decide) rfl,s,st.upd s (.dict (eg (putK σ res c.V))),rfl,Ie hd hz (CV.Vn c),Ac (Ac (Xc (Aq (Bz q))))⟩)))⟩⟩)))))
theorem Mc {res lab:Int} {Q:AV->St->Prop} (hd:st s=some (.dict (eg σ))) (hz:σ.length≤1000) (q:Q (.bool true) (st.upd s (.dict (eg (putK σ res (.fn lab s)))))):Fn C (r+1) (C.fa .bC) (gR (.fn res lab) s G Lg) st Q:=by
  refine Ag (C.dM .bC _ rfl).2.1 rfl ?_
  refine Xc (BP rfl hd Ba (by decide) (fun q=>Aa (El rfl ⟨_,Ab (by decide) rfl,q⟩)) ?_)
  refine ef rfl (ef rfl (Xc (Au (AE (Al (Aa (El rfl ⟨_,Ab (by decide) rfl,(Ak ⟨false,rfl,(AE (Al (Aa (El rfl ⟨_,Ab (by decide) rfl,(Ak ⟨true,rfl,(AC (Ec (Ak (Ec (Ai (Aa (El rfl ⟨_,Ab (by decide) rfl,(Ae ⟨_,rfl,(Ec (Bo rfl (En ⟨aw rfl,?_⟩)))⟩)⟩)))))))⟩)⟩))))⟩)⟩)))))))
  refine Xc (Br (AE (Al (Aa (El rfl ⟨_,Ab (by decide) rfl,Ak ⟨false,rfl,El rfl (Bo rfl (Aa (El rfl ⟨_,Ab (by decide) rfl,s,st.upd s (.dict (eg (putK σ res (.fn lab s)))),rfl,Ie hd hz rfl,Ac (Ac (Xc (Aq (Bz q))))⟩)))⟩⟩)))))
theorem t9 {res a:Int} {v:KV} {Q:AV->St->Prop} (hd:st s=some (.dict (eg σ))) (hz:σ.length≤1000) (hv:ae σ a=some v) (hp:v.plain) (q:Q (.bool true) (st.upd s (.dict (eg (putK σ res (.bool (hA v))))))) :
    Fn C (r+2) (C.fa .bC) (gR (.prim res 8 [a]) s G Lg) st Q:=by
  refine Ag (C.dM .bC _ rfl).2.1 rfl ?_
  refine Xc (BP rfl hd (DJ hv) (aw rfl) (fun q=>Aa (El rfl ⟨_,Ab (by decide) rfl,q⟩)) ?_)
  refine ef rfl (ef rfl (Xc (Au (AE (Al (Aa (El rfl ⟨_,Ab (by decide) rfl,(Ak ⟨false,rfl,(AE (Al (Aa (El rfl ⟨_,Ab (by decide) rfl,(Ak ⟨false,rfl,(AJ ?_)⟩)⟩))))⟩)⟩)))))))
  refine Xc (Br (AE (Al (Aa (El rfl ⟨_,Ab (by decide) rfl,(Ak ⟨true,rfl,(Aj rfl (Ec (Aa (El rfl ⟨_,Ab (by decide) rfl,(Ec (El rfl (En ?_)))⟩))))⟩)⟩)))))
  refine (Hu hp).mono fun x ag ⟨e1,e2⟩=>?_
  subst e1;subst e2
  refine Bo rfl (Aa (El rfl ⟨_,Ab (by decide) rfl,s,st.upd s (.dict (eg (putK σ res (.bool (hA v))))),rfl,uP hd hz,Ac (Ac (Xc (Aq (Bz q))))⟩))
theorem t8 {res a b:Int} {v w:KV} {Q:AV->St->Prop} (hd:st s=some (.dict (eg σ))) (hz:σ.length≤1000) (hv:ae σ a=some v) (hw:ae σ b=some w) (q:Q (.bool true) (st.upd s (.dict (eg (putK σ res (.pair v w)))))) :
    Fn C (r+2) (C.fa .bC) (gR (.prim res 9 [a,b]) s G Lg) st Q:=by
  refine Ag (C.dM .bC _ rfl).2.1 rfl ?_
  refine Xc (BP rfl hd (yo hv hw) (aw rfl) (fun q=>Aa (El rfl ⟨_,Ab (by decide) rfl,q⟩)) ?_)
  refine ef rfl (ef rfl (Xc (Au (AE (Al (Aa (El rfl ⟨_,Ab (by decide) rfl,(Ak ⟨false,rfl,(AE (Al (Aa (El rfl ⟨_,Ab (by decide) rfl,(Ak ⟨false,rfl,(AJ ?_)⟩)⟩))))⟩)⟩)))))))
  refine Xc (Br (AE (Al (Aa (El rfl ⟨_,Ab (by decide) rfl,(Ak ⟨true,rfl,(Aj rfl (Ec (Aa (El rfl ⟨_,Ab (by decide) rfl,(Ec (El rfl (En ?_)))⟩))))⟩)⟩)))))
  refine (Ht).mono fun x ag ⟨e1,e2⟩=>?_
  subst e1;subst e2
  refine Bo rfl (Aa (El rfl ⟨_,Ab (by decide) rfl,s,st.upd s (.dict (eg (putK σ res (.pair v w)))),rfl,uP hd hz,Ac (Ac (Xc (Aq (Bz q))))⟩))
theorem yd {res n:Int} {Q:AV->St->Prop} (hd:st s=some (.dict (eg σ))) (hT:qH G Lg g lg st) (hg:ae g n=none) (q:Q (.bool false) st):Fn C (r+1) (C.fa .bC) (gR (.bI res n) s G Lg) st Q:=by
  refine Ag (C.dM .bC _ rfl).2.1 rfl ?_
  refine Xc (BP rfl hd Ba (by decide) (fun q=>Aa (El rfl ⟨_,Ab (by decide) rfl,q⟩)) ?_)
  refine ef rfl (AH rfl (Xc (Ao (Al (Aa (El rfl ⟨_,Ab (by decide) rfl,(Ai (El rfl (Ae ⟨.ref G,rfl,?_⟩)))⟩))))))
  exact ⟨true,congrArg (Option.map _) ((Hz hT.d).trans (congrArg (fun o=>some (Option.isSome o)) hg)),BS rfl q⟩
theorem yc {res n:Int} {v:KV} {Q:AV->St->Prop} (hd:st s=some (.dict (eg σ))) (hz:σ.length≤1000) (hT:qH G Lg g lg st) (hg:ae g n=some v) (q:Q (.bool true) (st.upd s (.dict (eg (putK σ res v))))):Fn C (r+1) (C.fa .bC) (gR (.bI res n) s G Lg) st Q:=by
  refine Ag (C.dM .bC _ rfl).2.1 rfl ?_
  refine Xc (BP rfl hd Ba (by decide) (fun q=>Aa (El rfl ⟨_,Ab (by decide) rfl,q⟩)) ?_)
  refine ef rfl (AH rfl (Xc (Ao (Al (Aa (El rfl ⟨_,Ab (by decide) rfl,(Ai (El rfl (Ae ⟨.ref G,rfl,?_⟩)))⟩))))))
  refine ⟨false,congrArg (Option.map _) ((Hz hT.d).trans (congrArg (fun o=>some (Option.isSome o)) hg)),Ac ?_⟩
  refine Xc (Br (Ai (Ai (El rfl (Ae ⟨.ref G,rfl,(Aa (El rfl ⟨_,Ab (by decide) rfl,?_⟩))⟩)))))
  exact ⟨fq v,DO hT.d hg,Bo rfl (Aa (El rfl ⟨_,Ab (by decide) rfl,s,st.upd s (.dict (eg (putK σ res v))),rfl,uP hd hz,Ac (Ac (Xc (Aq (Bz q))))⟩))⟩
theorem t7 {n a:Int} {v:KV} {Q:AV->St->Prop} (hd:st s=some (.dict (eg σ))) (hT:qH G Lg g lg st) (hg:g.length≤1000) (hl:lg.length≤1000) (hv:ae σ a=some v) (hp:v.plain)
    (q:Q (.bool true) ((st.upd G (.dict (eg (putK g n v)))).upd Lg (.list (dW (lg++[(n,il 3 v)]))))):Fn C (r+6) (C.fa .bC) (gR (.set n a) s G Lg) st Q:=by
  have hE:G≠Lg:=fun e=>nomatch (e▸hT.d).symm.trans hT.l
  refine Ag (C.dM .bC _ rfl).2.1 rfl ?_
  refine Xc (BP rfl hd (DJ hv) (aw rfl) (fun q=>Aa (El rfl ⟨_,Ab (by decide) rfl,q⟩)) ?_)
  refine AH rfl ?_
  refine Xc (Br (Ai (El rfl (Ae ⟨fq v,rfl,Ai (El rfl (Ae ⟨.ref G,rfl,Aa (El rfl ⟨.int n,Ab (by decide) rfl,G,st.upd G (.dict (eg (putK g n v))),rfl,?_,?_⟩)⟩))⟩))))
  · exact uP hT.d hg
  · have qm:=(Aw (st:=st) (o:=.dict (eg (putK g n v))) (Ne.symm hE)).trans hT.l
    refine Xc (Ap (By (Ai (El rfl (Ae ⟨.ref Lg,rfl,Lg,dW lg,rfl,qm,AC (Ec (Aa (El rfl ⟨_,Ab (by decide) rfl,(Ec (Aj rfl (Ec (Ai (El rfl (Ae ⟨fq v,rfl,(En ?_)⟩))))))⟩)))⟩)))))
    refine (E0 (by exact aw rfl) hp).mono fun x ag z=>xA z fun hx hs=>?_
    subst hx hs
    exact En ⟨aw rfl,dW lg,qm,GK (Nat.le_trans hl (aw rfl)),rfl,Ac (Xc (Aq (Bz ((List.map_append (l₁:=lg) (l₂:=[(n,il 3 v)]):dW (lg++[(n,il 3 v)])=_)▸q))))⟩
end
end Mine
end
section
namespace Mine
variable {C:Cx} {r:Nat} {ρ:Loc} {st:St}
noncomputable abbrev cR (p:sE) (e:Int) (s:Addr) (l:KL):List AV:=[kK p e,.ref s,qk l]
structure nz (p:sE) (l:Int) (s:Addr) (vs:List KV) (st:St) (Q:AV->St->Prop) (b:BK) (σ:aK):Prop where
  hb:ae p l=some b
  hs:st s=some (.dict (eg σ))
  hz:σ.length+b.params.length≤1000
  q0:b.rest<0->b.params.length≠vs.length->∀D,st D=none->Q (.tup [.str .aV,.str .ai,.int vs.length]) (st.upd D (.dict (eg σ)))
  q1:(b.rest<0->b.params.length=vs.length)->∀D,st D=none->Q (.tup [.int l,.ref D]) (st.upd D (.dict (eg (gz σ (b.params.zip vs)))))
theorem nz.fn {p:sE} {e l:Int} {s:Addr} {vs:List KV} {Q:AV->St->Prop} {b:BK} {σ:aK} (h:nz p l s vs st Q b σ) (hv:vs.length≤1000):Fn C (r+2) (C.fa .cV) [kK p e,.int l,.ref s,.lst (vs.map fq)] st Q:=
  GQ h.hb h.hs h.hz hv h.q0 h.q1
section
variable {p:sE} {e:Int} {s:Addr} {σ:aK} {as:List Int} {vs:List KV} {Q:AV->St->Prop}
theorem Ex {k:Int} {v:KV} (hd:st s=some (.dict (eg σ))) (h:ae σ k=some v):itemOf st (.ref s) (.int k)=some (fq v):=DO hd h
theorem GO {t y n:Int} {v:KV} (hd:st s=some (.dict (eg σ))) (hv:ae σ t=some v) (hp:v.plain) (q:Q (.tup [.int (if hA v then n else y),.ref s]) st) :
    Fn C (r+1) (C.fa .bh) (cR p e s (.branch t y n)) st Q:=by
  refine Ag (C.dM .bh _ rfl).2.1 rfl ?_
  refine Xc (BP rfl hd Ba (by decide) (fun q=>Aa (El rfl ⟨_,Ab (by decide) rfl,q⟩)) ?_)
  refine AH rfl (Xc (Au (Ai (Bo rfl (Aa (El rfl ⟨_,Ab (by decide) rfl,⟨fq v,Ex hd hv,?_⟩⟩))))))
  refine Xc (Aq (AC (Ec (AE (wL (v:=v) (fun q=>El rfl q) (fun hb q=>wK (by rw [Af,if_pos rfl,hb];rfl) q) hp ?_)))))
  cases hf:hA v with
  | true=>
    rw [hf] at q
    exact Aa (El rfl ⟨_,Ab (by decide) rfl,(Ec (Bo rfl (En ⟨aw rfl,(q)⟩)))⟩)
  | false=>
    rw [hf] at q
    exact Aa (El rfl ⟨_,Ab (by decide) rfl,(Ec (Bo rfl (En ⟨aw rfl,(q)⟩)))⟩)
theorem FM {to:Int} {b:BK} (hd:st s=some (.dict (eg σ))) (hl:eQ σ as vs) (hz:as.length≤1000) (h:nz p to s vs st Q b σ):Fn C (r+3) (C.fa .bh) (cR p e s (.gm to as)) st Q:=by
  refine Ag (C.dM .bh _ rfl).2.1 rfl ?_
  refine Xc (BP rfl hd hl hz (fun q=>Aa (El rfl ⟨_,Ab (by decide) rfl,q⟩)) ?_)
  exact Av rfl (AH rfl (Xc (Aq (Aj rfl (Ec (El rfl (Ec (Aa (El rfl ⟨_,Ab (by decide) rfl,(Ec (Bo rfl (Ec (El rfl (En (h.fn (by rw [hl.1];exact hz)))))))⟩)))))))))
theorem FN {back:KV} (hb:ae ρ .g9=some (fq back)) (i6:ae ρ .ai=some (.lst (vs.map fq))) (Yw:ae ρ .aJ=some (kK p e)) (hz:vs.length≤1000) (hr:6≤r)
    (h:(back=.stop∧(∀v∈vs,v.plain)∧Q (.tup [.str .bE,.lst ((vs.map (il 3)).map jY)]) st)∨∃l s' b σ',back=.bu l s'∧nz p l s' vs st Q b σ') :
    X C r (hJ.drop 5) ρ st (QF Q):=by
  rcases h with ⟨rfl,hp,q⟩ | ⟨l,s',b,σ',rfl,h⟩
  · refine Xc (Ao (Al (El hb (Ak ⟨true,rfl,(Xc (Aq (AC (Ec (Ak (Ec (HO (El i6 ?_))))))))⟩))))
    refine ⟨vs.map fq,(vs.map (il 3)).map jY,rfl,by simp,by simp;exact Zl hz rfl,fun i ag hi=>?_,?_⟩
    · rw [List.length_map] at hi
      have e1:(vs.map fq).getD i .none=fq vs[i]:=by simp [List.getD_eq_getElem?_getD,hi]
      have e2:((vs.map (il 3)).map jY).getD i .none=jY (il 3 vs[i]):=by simp [List.getD_eq_getElem?_getD,hi]
      rw [e1,e2]
      exact Aj rfl (Ec (El (by rw [Af,if_pos rfl]) (En (E0 (by exact Nat.le_of_lt hr) (hp _ (List.getElem_mem hi))))))
    · exact En ⟨aw rfl,(q)⟩
  · refine Xc (Ao (Al (El hb (Ak ⟨false,rfl,(Ac ?_)⟩))))
    exact Xc (Aq (Aj rfl (Ec (El Yw (Ec (Ai (El hb (Ae ⟨_,rfl,(Ec (Ai (El hb (Ae ⟨_,rfl,(Ec (El i6 (En (Fn.up (h.fn (r:=0) hz) (by exact Vc hr)))))⟩))))⟩))))))))
theorem rn {var:Int} {back:KV} (hd:st s=some (.dict (eg σ))) (hl:eQ σ as vs) (hz:as.length≤1000) (Yp:0≤var) (hv:ae σ var=some back)
    (h:(back=.stop∧(∀v∈vs,v.plain)∧Q (.tup [.str .bE,.lst ((vs.map (il 3)).map jY)]) st)∨∃l s' b σ',back=.bu l s'∧nz p l s' vs st Q b σ') :
    Fn C (r+7) (C.fa .bh) (cR p e s (.give var as)) st Q:=by
  refine Ag (C.dM .bh _ rfl).2.1 rfl ?_
  refine Xc (BP rfl hd hl hz (fun q=>Aa (El rfl ⟨_,Ab (by decide) rfl,q⟩)) ?_)
  refine Av rfl (Av rfl ?_)
  refine Xc (Au (AE (Al (Aa (El rfl ⟨_,Ab (by decide) rfl,Ae ⟨true,by show some (decide (var≥0))=_;rw [decide_eq_true Yp],?_⟩⟩)))))
  refine Ai (Bo rfl (Aa (El rfl ⟨_,Ab (by decide) rfl,⟨fq back,Ex hd hv,(Av rfl ?_)⟩⟩)))
  exact FN rfl rfl rfl (by rw [hl.1];exact hz) (by exact aw rfl) h
noncomputable def mn (σ:aK) (s:Addr) (to var:Int) (back:KV):Prop:=(0≤var∧ae σ var=some back)∨(var<0∧back=.bu to s)
theorem Do {f to var:Int} {back fn:KV} (hd:st s=some (.dict (eg σ))) (hl:eQ σ as vs) (hz:as.length≤1000) (hv:mn σ s to var back) (hf:ae σ f=some fn)
    (h:X C r (([PS.bt (.and (.call .au [(.loc .aR),(.bI .er)]) (.cmp .eq (.sub (.loc .aR) (.int 0)) (.str .aR))) [(.bt (.cmp .ne (.call .bZ [(.attr (.aB (.loc .aJ) .aq [(.sub (.loc .aR) (.int 1))]) .aG)]) (.call .bZ [(.loc .ai)])) [(.ret (.tup [(.str .aV),(.str .dy),(.call .bZ [(.loc .ai)])]))] []),(.asg .aM (.call .cV [(.loc .aJ),(.sub (.loc .aR) (.int 1)),(.sub (.loc .aR) (.int 2)),(.loc .ai)])),(.iy (.sub (.loc .aM) (.int 1)) (.attr (.aB (.loc .aJ) .aq [(.sub (.loc .aR) (.int 1))]) .aW) (.loc .g9)),(.ret (.loc .aM))] [],
      .bt (.cmp .ne (.loc .aR) (.tup [(.str .ai)])) [(.ret (.tup [(.str .aV),(.str .bW),(.int 0)]))] []]))
      (putK (putK (putK (jh.zip (cR p e s (.call f as to var))) .ai (.lst (vs.map fq))) .g9 (fq back)) .aR (fq fn)) st (fun fl ρ1 ao=>match fl with | .next=>X C r (hJ.drop 5) ρ1 ao (QF Q) | .ret v=>Q v ao)) :
    Fn C (r+1) (C.fa .bh) (cR p e s (.call f as to var)) st Q:=by
  refine Ag (C.dM .bh _ rfl).2.1 rfl ?_
  refine Xc (BP rfl hd hl hz (fun q=>Aa (El rfl ⟨_,Ab (by decide) rfl,q⟩)) ?_)
  refine Av rfl (Av rfl ?_)
  have cont:∀ρ1,ρ1=putK (putK (jh.zip (cR p e s (.call f as to var))) .ai (.lst (vs.map fq))) .g9 (fq back)->X C r (hJ.drop 4) ρ1 st (QF Q):=by
    rintro ρ1 rfl
    refine AH rfl (Xc (Au (Ai (Bo rfl (Aa (El rfl ⟨_,Ab (by decide) rfl,⟨fq fn,Ex hd hf,?_⟩⟩))))))
    exact h
  rcases hv with ⟨h0,hv⟩ | ⟨h0,rfl⟩
  · refine Xc (Au (AE (Al (Aa (El rfl ⟨_,Ab (by decide) rfl,Ae ⟨true,by show some (decide (var≥0))=_;rw [decide_eq_true h0],?_⟩⟩)))))
    refine Ai (Bo rfl (Aa (El rfl ⟨_,Ab (by decide) rfl,⟨fq back,Ex hd hv,?_⟩⟩)))
    exact cont _ rfl
  · refine Xc (Au (AE (Al (Aa (El rfl ⟨_,Ab (by decide) rfl,Ae ⟨false,by show some (decide (var≥0))=_;rw [decide_eq_false (by exact Vb h0)],?_⟩⟩)))))
    refine AC (Ec (Ak (Ec (Aa (El rfl ⟨_,Ab (by decide) rfl,(Ec (Bo rfl (En ⟨aw rfl,?_⟩)))⟩)))))
    exact cont _ rfl
end
end Mine
end
section
namespace Mine
variable {C:Cx} {r:Nat} {ρ:Loc} {st:St}
section
variable {p:sE} {e:Int} {s:Addr} {σ:aK} {as:List Int} {vs:List KV} {Q:AV->St->Prop}
theorem GN {f to var:Int} {back fn:KV} (hd:st s=some (.dict (eg σ))) (hl:eQ σ as vs) (hz:as.length≤1000) (hv:mn σ s to var back) (hf:ae σ f=some fn)
    (hn:(∃b,fn=.bool b)∨(∃i,fn=.int i)∨fn=.aA∨∃a b,fn=.pair a b) (q:Q (.tup [.str .aV,.str .bW,.int 0]) st):Fn C (r+1) (C.fa .bh) (cR p e s (.call f as to var)) st Q:=by
  refine Do hd hl hz hv hf ?_
  rcases hn with ⟨b,rfl⟩ | ⟨i,rfl⟩ | rfl | ⟨a,b,rfl⟩
  · exact Xc (Ao (Bn (AB (AA (El rfl ⟨false,rfl,false,rfl,(Ac (AH rfl (BS rfl (q))))⟩)))))
  · exact Xc (Ao (Bn (AB (AA (El rfl ⟨false,rfl,false,rfl,(Ac (AH rfl (BS rfl (q))))⟩)))))
  · exact Xc (Ao (Bn (AB (AA (El rfl ⟨false,rfl,false,rfl,(Ac (AH rfl (BS rfl (q))))⟩)))))
  · exact Xc (Ao (Bn (AB (AA (El rfl ⟨true,rfl,true,rfl,(Al (Ai (El rfl (Ae ⟨_,rfl,(Ak ⟨false,rfl,(Ac (AH rfl (BS rfl (q))))⟩)⟩))))⟩)))))
theorem rm {f to var:Int} {back:KV} (hd:st s=some (.dict (eg σ))) (hl:eQ σ as vs) (hz:as.length≤1000) (hv:mn σ s to var back) (hf:ae σ f=some .vals)
    (h:(back=.stop∧(∀v∈vs,v.plain)∧Q (.tup [.str .bE,.lst ((vs.map (il 3)).map jY)]) st)∨∃l s' b σ',back=.bu l s'∧nz p l s' vs st Q b σ') :
    Fn C (r+7) (C.fa .bh) (cR p e s (.call f as to var)) st Q:=by
  refine Do hd hl hz hv hf ?_
  refine Xc (Ao (Bn (AB (AA (El rfl ⟨true,rfl,true,rfl,(Al (Ai (El rfl (Ae ⟨_,rfl,(Ak ⟨false,rfl,(Ac (Av rfl (Ac ?_)))⟩)⟩))))⟩)))))
  exact FN rfl rfl rfl (by rw [hl.1];exact hz) (by exact aw rfl) h
theorem yr {f to var l:Int} {back:KV} {s':Addr} {σ':aK} {b:BK} (hd:st s=some (.dict (eg σ))) (hl:eQ σ as vs) (hz:as.length≤999) (hv:mn σ s to var back) (hf:ae σ f=some (.fn l s'))
    (hb:ae p l=some b) (Ys:st s'=some (.dict (eg σ'))) (KZ:σ'.length+b.params.length≤999)
    (q0:b.params.length≠vs.length->Q (.tup [.str .aV,.str .dy,.int vs.length]) st)
    (q1:b.params.length=vs.length->∀D,st D=none->Q (.tup [.int l,.ref D]) (st.upd D (.dict (eg (putK (gz σ' (b.params.zip vs)) b.var back))))) :
    Fn C (r+5) (C.fa .bh) (cR p e s (.call f as to var)) st Q:=by
  have PJ:vs.length≤1000:=by rw [hl.1];exact Zl hz rfl
  refine Do hd hl (by exact Zl hz rfl) hv hf ?_
  refine Xc (Ao (Bn (AB (AA (El rfl ⟨true,rfl,true,rfl,(Al (Ai (El rfl (Ae ⟨_,rfl,(Ak ⟨true,rfl,?_⟩)⟩))))⟩)))))
  refine Xc (Ao (Al (AX (Aa (DZ (p:=p) (e:=e) rfl (fun q=>Ai (El rfl (Ae ⟨_,rfl,q⟩))) hb ⟨_,Ab (by decide) rfl,⟨b.params.map .int,rfl,by simp;exact Va KZ,(AX (El rfl ⟨vs.map fq,rfl,by simp;exact Zl PJ rfl,?_⟩))⟩⟩)))))
  by_cases hlen:b.params.length=vs.length
  · refine ⟨false,by show some (!(_==_))=_;rw [beq_iff_eq.mpr (by simp [hlen])];rfl,Ac ?_⟩
    refine Xc (Au (Aj rfl (Ec (El rfl (Ec (Ai (El rfl (Ae ⟨_,rfl,Ec (Ai (El rfl (Ae ⟨_,rfl,Ec (El rfl (En ?_))⟩)))⟩))))))))
    refine Fn.up (r:=2) (GQ (r:=0) hb Ys (by exact Zl KZ rfl) PJ (fun _ h=>absurd hlen h) fun _ D hD=>?_) (by exact aw rfl)
    refine Xc (Br (El rfl (Ai (El rfl (Ae ⟨.ref D,rfl,Aa (DZ (p:=p) (e:=e) rfl (fun q=>Ai (El rfl (Ae ⟨_,rfl,q⟩))) hb ⟨.int b.var,Ab (by decide) rfl,D,st.upd D (.dict (eg (putK (gz σ' (b.params.zip vs)) b.var back))),rfl,?_,Xc (Aq (El rfl (q1 hlen D hD)))⟩)⟩)))))
    refine setOk.d aZ ?_ (by rw [eT,HZ])
    rw [Cw]
    have:=DF (b.params.zip vs) σ'
    have h3:(b.params.zip vs).length≤b.params.length:=by rw [List.length_zip];exact U9 hlen
    exact U8 KZ hlen this h3
  · refine ⟨true,by show some (!(_==_))=_;rw [beq_eq_false_iff_ne.mpr (by simpa using fun h:(b.params.length:Int)=vs.length=>hlen (by exact Int.ofNat.inj h))];rfl,?_⟩
    refine Xc (Aq (AC (Ec (Ak (Ec (Ak (Ec (AX (El rfl ⟨vs.map fq,rfl,by simp;exact Zl PJ rfl,(En ⟨aw rfl,?_⟩)⟩)))))))))
    have:=q0 hlen
    simpa using this
end
end Mine
end
section
namespace Mine
variable {C:Cx} {r:Nat} {ρ:Loc} {st:St}
noncomputable def uQ:KO->Int | .cst ..=>-1 | .fn ..=>-1 | .bI _ s=>s | .set s _=>s | .prim _ op _=>op
noncomputable def zu (C:Cx) (s G Lg:Addr):List KO->St->(Option Int->St->Prop)->Prop
  | [],st,K=>K none st
  | op::rest,st,K=>Fn C 8 (C.fa .bC) (gR op s G Lg) st (fun v ag=>(v=.bool true∧zu C s G Lg rest ag K)∨(v=.bool false∧K (some (uQ op)) ag))
noncomputable def Na:aK:=[(1,.bool true),(4,.vals)]
theorem Jl {op:KO}:gp st (kP op) .aU=some (.int (uQ op)):=by cases op<;>exact Ab (by decide) rfl
theorem yw {p:sE} {e:Int} {n:Nat} {b0:BK} (Res:AV->Prop) (Inv:Addr->Addr->Nat->Int->Addr->St->Prop) (hr:12≤r) (hn:n≤1000) (YX:ae p e=some b0)
    (i0:∀G Lg D ag,G≠Lg->D≠G->D≠Lg->qH G Lg Na [] ag->ag D=some (.dict (eg [(b0.var,.stop)]))->Inv G Lg 0 e D ag)
    (step:∀G Lg i l s ag,i<n->Inv G Lg i l s ag->∃b,ae p l=some b∧zu C s G Lg b.ops ag (fun o dG=>match o with
      | some k=>∃lg,dG Lg=some (.list (dW lg))∧Res (.lst [.tup [.str .aV,.str .dH,.int k],.lst (dW lg)])
      | none=>Fn C 10 (C.fa .bh) (cR p e s b.last) dG (fun v eJ=>(∃l' s',v=.tup [.int l',.ref s']∧Inv G Lg (i+1) l' s' eJ)∨(∃w vs lg,v=.tup (.str w::vs)∧eJ Lg=some (.list (dW lg))∧Res (.lst [v,.lst (dW lg)])))))
    (fin:∀G Lg l s ag,Inv G Lg n l s ag->Res .none):Fn C r (C.fa .fN) [kK p e,.int n] st (fun x _=>Res x):=by
  refine Fn.up (r:=12) ?_ hr
  refine Ag (C.dM .fN _ rfl).2.1 rfl ?_
  refine Xc (Au (Ah (Ec (qM fun G hG=>?_))))
  refine Ae (Bz (Ae (AC (Ec (Ak (En ⟨aw rfl,?_⟩))))))
  refine ⟨1,4,rfl,rfl,by decide,aZ,?_⟩
  rw [eT]
  refine Ec (B4 (En ⟨aw rfl,fun Lg K6=>En ⟨aw rfl,?_⟩⟩))
  have hE:Lg≠G:=fun e=>by rw [e,aZ] at K6;injection K6
  refine Xc (Au (AC (Ec (Aa (El rfl ⟨_,Ab (by decide) rfl,(Ec ?_)⟩)))))
  refine zA fun D hD=>?_
  have OC:D≠Lg:=fun e=>by rw [e,aZ] at hD;injection hD
  have OD:D≠G:=fun e=>by rw [e,Aw (Ne.symm hE),aZ] at hD;injection hD
  refine Aa (DZ (p:=p) (e:=e) rfl (fun q=>Aa (El rfl ⟨_,Ab (by decide) rfl,q⟩)) YX ⟨.int b0.var,Ab (by decide) rfl,(Ak ?_)⟩)
  refine ⟨b0.var,rfl,aZ,?_⟩
  rw [eT]
  refine En ⟨aw rfl,?_⟩
  refine Xc (wF (El rfl ⟨n,rfl,by exact Zl hn rfl,fun i ρ' ag=>∃l s,ae ρ' .b7=some (.tup [.int l,.ref s])∧ae ρ' .bE=some (.lst [.ref G,.ref Lg])∧ae ρ' .aJ=some (kK p e)∧Inv G Lg i l s ag,?_,?_,?_⟩))
  · exact ⟨e,D,rfl,rfl,rfl,i0 G Lg D _ (Ne.symm hE) OD OC ⟨(Aw (Ne.symm OD)).trans ((Aw (Ne.symm hE)).trans aZ),(Aw (Ne.symm OC)).trans aZ⟩ aZ⟩
  · rintro i ρ' ag hi ⟨l,s,h1,h2,h3,hI⟩
    refine bq (step G Lg i l s ag hi hI) fun b hb ME=>?_
    have f1:∀x v,x≠.eP->ae ρ' x=some v->ae (putK ρ' .eP (.int i)) x=some v:=fun x v hx e=>by rw [Af,if_neg hx];exact e
    refine Xc (qG (Ec (DZ (p:=p) (e:=e) (f1 _ _ (by decide) h3) (fun q=>Ai (El (f1 _ _ (by decide) h1) (Ae ⟨_,rfl,q⟩))) hb (Ec (Ai (El (f1 _ _ (by decide) h1) (Ae ⟨_,rfl,(En ⟨rfl,aw rfl,?_⟩)⟩)))))))
    have f2:∀x v,x≠.eP->x≠.aq->x≠.ay->ae ρ' x=some v->ae (putAll (putK ρ' .eP (.int i)) ([Nm.aq,.ay].reverse.zip [pQ b,AV.ref s].reverse)) x=some v:=fun x v hx sA PF e=>by
      show ae (putK (putK _ Nm.ay _) Nm.aq _) x=_
      rw [Af,if_neg sA,Af,if_neg PF];exact f1 x v hx e
    have fb:ae (putAll (putK ρ' .eP (.int i)) ([Nm.aq,.ay].reverse.zip [pQ b,AV.ref s].reverse)) .aq=some (pQ b):=by
      show ae (putK (putK _ Nm.ay _) Nm.aq _) _=_
      rw [Af,if_pos rfl]
    have fs:ae (putAll (putK ρ' .eP (.int i)) ([Nm.aq,.ay].reverse.zip [pQ b,AV.ref s].reverse)) .ay=some (.ref s):=by
      show ae (putK (putK _ Nm.ay _) Nm.aq _) _=_
      rw [Af,if_neg (by decide),Af,if_pos rfl]
    generalize (putAll (putK ρ' .eP (.int i)) ([Nm.aq,.ay].reverse.zip [pQ b,AV.ref s].reverse))=ρ1 at f2 fb fs ⊢
    have g1:=f2 _ _ (by decide) (by decide) (by decide) h2
    have g2:=f2 _ _ (by decide) (by decide) (by decide) h3
    refine Xc (wH (Aa (El fb ⟨_,Ab (by decide) rfl,b.ops.map kP,rfl,fun k ρ2 bg=>(∀x,x≠.cN->ae ρ2 x=ae ρ1 x)∧zu C s G Lg (b.ops.drop k) bg (fun o dG=>match o with
      | some k=>∃lg,dG Lg=some (.list (dW lg))∧Res (.lst [.tup [.str .aV,.str .dH,.int k],.lst (dW lg)])
      | none=>Fn C 10 (C.fa .bh) (cR p e s b.last) dG (fun v eJ=>(∃l' s',v=.tup [.int l',.ref s']∧Inv G Lg (i+1) l' s' eJ)∨(∃w vs lg,v=.tup (.str w::vs)∧eJ Lg=some (.list (dW lg))∧Res (.lst [v,.lst (dW lg)])))),?_,?_,?_⟩)))
    · exact ⟨fun _ _=>rfl,ME⟩
    · rintro k ρ2 bg hk ⟨hρ,hO⟩
      rw [List.length_map] at hk
      have e1:(b.ops.map kP).getD k .none=kP b.ops[k]:=by simp [List.getD_eq_getElem?_getD,hk]
      rw [e1]
      rw [List.drop_eq_getElem_cons hk] at hO
      have l1:∀x v,x≠.cN->ae ρ1 x=some v->ae (putK ρ2 .cN (kP b.ops[k])) x=some v:=fun x v hx e=>by rw [Af,if_neg hx,hρ x hx];exact e
      have l2:ae (putK ρ2 .cN (kP b.ops[k])) .cN=some (kP b.ops[k]):=by rw [Af,if_pos rfl]
      refine Xc (Ao (Fk (AB (Aj rfl (Ec (El l2 (Ec (El (l1 _ _ (by decide) fs) (Ec (El (l1 _ _ (by decide) g1) (En ?_)))))))))))
      refine (Fn.up hO (by exact aw rfl)).mono fun v eJ hv=>?_
      rcases hv with ⟨rfl,Y4⟩ | ⟨rfl,lg,P4,pJ⟩
      · exact ⟨true,rfl,Ac (Ac ⟨fun x hx=>by rw [Af,if_neg hx];exact hρ x hx,Y4⟩)⟩
      · refine ⟨false,rfl,?_⟩
        refine Xc (Aq (Ah (Ec (AC (Ec (Ak (Ec (Ak (Ec (Aa (El l2 ⟨_,Jl,(En ⟨aw rfl,(Ec ?_)⟩)⟩)))))))))))
        refine AD (Ai (El (l1 _ _ (by decide) g1) (Ae ⟨.ref Lg,rfl,_,_,Gl P4,?_⟩)))
        exact En ⟨aw rfl,(pJ)⟩
    · rintro ρ2 bg ⟨hρ,hO⟩
      rw [List.length_map,List.drop_length] at hO
      have l1:∀x v,x≠.cN->ae ρ1 x=some v->ae ρ2 x=some v:=fun x v hx e=>(hρ x hx).trans e
      refine Xc (Au (Aj rfl (Ec (El (l1 _ _ (by decide) g2) (Ec (El (l1 _ _ (by decide) fs) (Ec (Aa (El (l1 _ _ (by decide) fb) ⟨_,Ab (by decide) rfl,(En ?_)⟩)))))))))
      refine (Fn.up hO (by exact aw rfl)).mono fun v eJ hv=>?_
      have m1:ae (putK ρ2 .b7 v) .b7=some v:=by rw [Af,if_pos rfl]
      have m2:∀x u,x≠.b7->x≠.cN->ae ρ1 x=some u->ae (putK ρ2 .b7 v) x=some u:=fun x u hx sA e=>by rw [Af,if_neg hx];exact l1 x u sA e
      rcases hv with ⟨l',s',rfl,M1⟩ | ⟨w,vs,lg,rfl,P4,pJ⟩
      · refine Xc (Ao (Fk (AB (AA (Ai (El m1 (Ae ⟨_,rfl,⟨true,rfl,true,rfl,(Ac (Ac ?_))⟩⟩)))))))
        exact ⟨l',s',m1,m2 _ _ (by decide) (by decide) g1,m2 _ _ (by decide) (by decide) g2,M1⟩
      · refine Xc (Ao (Fk (AB (AA (Ai (El m1 (Ae ⟨_,rfl,⟨false,rfl,false,rfl,(Xc (Aq (Ah (Ec (El m1 (Ec ?_))))))⟩⟩)))))))
        refine AD (Ai (El (m2 _ _ (by decide) (by decide) g1) (Ae ⟨.ref Lg,rfl,_,_,Gl P4,?_⟩)))
        exact En ⟨aw rfl,(pJ)⟩
  · rintro ρ' ag ⟨l,s,_,_,_,hI⟩
    exact BS rfl (fin G Lg l s ag hI)
end Mine
end
section
namespace Mine
variable {C:Cx} {r:Nat} {ρ:Loc} {st:St}
theorem GS {vs:List AV} {k:Int} {v:AV} (hv:itemAt vs k=some v):itemOf st (.lst vs) (.int k)=some v:=hv
noncomputable def eI (ns:List Int) (k:Nat):bQ:=.list [.lst (ns.map .int),.int k]
theorem G6 {x:Int} {m:Nat} (h:0<m):∃d:Nat,d<m∧x.fmod m=d:=by
  have e:x.fmod m=x % m:=Int.fmod_eq_emod_of_nonneg x (by exact U7 h)
  have h1:=Int.emod_nonneg x (b:=(m:Int)) (by exact Xd h)
  have h2:=Int.emod_lt_of_pos x (b:=(m:Int)) (by exact U6 h)
  exact ⟨(x % m).toNat,by exact U5 h1 h2,by exact U4 h1 e⟩
theorem DM {D:Addr} {ns:List Int} {k m:Nat} {Q:AV->St->Prop} (h:st D=some (eI ns k)) (hm:0<m) (hk:k≤100000) (hz:ns.length≤1000) (q:∀d:Nat,d<m->Q (.int d) (st.upd D (eI ns (k+1)))) :
    Fn C (r+1) (C.fa .bx) [.ref D,.int m] st Q:=by
  have Yg:itemOf st (.ref D) (.int 1)=some (.int k):=Gi h rfl
  have j0:itemOf (st.upd D (eI ns (k+1))) (.ref D) (.int 0)=some (.lst (ns.map .int)):=Gi aZ rfl
  have j1:itemOf (st.upd D (eI ns (k+1))) (.ref D) (.int 1)=some (.int (k+1:Nat)):=Gi aZ rfl
  have V4:(m:Int)≠0:=by exact Xd hm
  refine Ag (C.dM .bx _ rfl).2.1 rfl ?_
  refine Xc (Br (AT (Ai (El rfl (Ae ⟨.int k,Yg,Ae ⟨_,_,_,rfl,rfl,rfl,El rfl (Ae ⟨D,st.upd D (eI ns (k+1)),rfl,?_,?_⟩)⟩⟩)))))
  · exact setOk.l h (by decide) (by simp) (aw rfl) (rfl)
  · refine Xc (Ao (Al (Ai (El rfl (Ae ⟨_,j1,AX (Ai (El rfl (Ae ⟨_,j0,ns.map .int,rfl,by simp;exact Zl hz rfl,?_⟩)))⟩)))))
    rw [List.length_map]
    by_cases hc:k+1≤ns.length
    · refine ⟨true,by show some (decide (((k+1:Nat):Int)≤_))=_;rw [decide_eq_true (by exact U3 hc)],?_⟩
      have MM:k<ns.length:=by exact hc
      refine bq (G6 (x:=ns[k]) hm) fun d hd he=>?_
      refine Xc (Aq (AT (Ai (Ai (El rfl (Ae ⟨_,j0,(AT (Ai (El rfl (Ae ⟨_,j1,(Ae ⟨_,_,_,rfl,rfl,rfl,?_⟩)⟩))))⟩))))))
      refine ⟨.int ns[k],?_,El rfl ⟨_,_,_,rfl,rfl,⟨V4,rfl⟩,?_⟩⟩
      · have e:((k+1:Nat):Int)-1=(k:Int):=by exact U0 MM
        rw [e]
        refine GS ((GT (Nat.lt_of_le_of_lt hk (by decide))).trans ?_)
        rw [List.getElem?_map,List.getElem?_eq_getElem MM];rfl
      · rw [he];exact q d hd
    · refine ⟨false,by show some (decide (((k+1:Nat):Int)≤_))=_;rw [decide_eq_false (by exact UZ hc)],Ac ?_⟩
      refine bq (G6 (x:=(((k+1:Nat):Int)*(k+1:Nat)*37+11*(k+1:Nat)+7*ns.length).fdiv 5) hm) fun d hd he=>?_
      have mo:IntMulOk ((k+1:Nat):Int) (k+1:Nat):=.of_left (intBits_le_64 (Int.lt_of_lt_of_le (by decide) (Int.natCast_nonneg _)) (Int.lt_of_le_of_lt (Int.ofNat_le.mpr (Nat.succ_le_succ hk)) (by decide)))
      refine Xc (Aq (AT (AT (AT (AT (AT (AT (Ai (El rfl (Ae ⟨_,j1,(Ai (El rfl (Ae ⟨_,j1,⟨_,_,_,rfl,rfl,⟨mo,rfl⟩,(Ae ⟨_,_,_,rfl,rfl,⟨.of_right (intBits_le_64 (by decide) (by decide)),rfl⟩,?_⟩)⟩⟩)))⟩))))))))))
      refine AT (Ae (Ai (El rfl (Ae ⟨_,j1,⟨_,_,_,rfl,rfl,⟨.of_left (intBits_le_64 (by decide) (by decide)),rfl⟩,⟨_,_,_,rfl,rfl,rfl,?_⟩⟩⟩))))
      refine AT (Ae (AX (Ai (El rfl (Ae ⟨_,j0,⟨ns.map .int,rfl,by simp;exact Zl hz rfl,?_⟩⟩)))))
      rw [List.length_map]
      refine ⟨_,_,_,rfl,rfl,⟨.of_left (intBits_le_64 (by decide) (by decide)),rfl⟩,⟨_,_,_,rfl,rfl,rfl,(Ae ⟨_,_,_,rfl,rfl,⟨by decide,rfl,rfl⟩,(El rfl ⟨_,_,_,rfl,rfl,⟨V4,rfl⟩,?_⟩)⟩)⟩⟩
      rw [he];exact q d hd
end Mine
end
section
namespace Mine
variable {C:Cx} {r:Nat} {ρ:Loc} {st:St}
noncomputable def wQ (sc:List Int) (t:Tm):Prop:=(∃n,n∈sc∧t=.loc n)∨∃c,t=.cst c
theorem uL {D:Addr} {ns sc:List Int} {k:Nat} {Q:AV->St->Prop} (h:st D=some (eI ns k)) (hk:k≤90000) (hz:ns.length≤1000) (hs:sc.length≤1000)
    (q:∀t k',wQ sc t->k≤k'->k'≤k+3->Q (bT t) (st.upd D (eI ns k'))):Fn C (r+4) (C.fa .eZ) [.ref D,.lst (sc.map .int)] st Q:=by
  refine Ag (C.dM .eZ _ rfl).2.1 rfl ?_
  have const:∀ao k1,k≤k1->k1≤k+2->ao D=some (eI ns k1)->(∀k',ao.upd D (eI ns k')=st.upd D (eI ns k'))->X C (r+3) (lW.drop 1) (lD.zip [.ref D,.lst (sc.map .int)]) ao (fun fl _ ag=>match fl with | .ret v=>Q v ag | .next=>Q .none ag):=by
    intro ao k1 h1 h2 h3 h4
    refine Xc (Aq (Ax (by decide) rfl (Ec (Ai (Ah (Ec (Bz (Ec (Bz (Ec (Ae (En ⟨aw rfl,(Aj rfl (Ec (El rfl (Ec (Ae (En ?_))))))⟩))))))))))))
    refine DM (m:=3) h3 (by decide) (by exact UY hk h1 h2) hz fun d hd=>?_
    rw [h4]
    match d,hd with
    | 0,_=>exact ⟨.bool true,rfl,En ⟨_,Cz,q (.cst .t) _ (.inr ⟨_,rfl⟩) (by exact Nat.le_succ_of_le h1) (by exact Nat.succ_le_succ h2)⟩⟩
    | 1,_=>exact ⟨.bool false,rfl,En ⟨_,Cz,q (.cst .f) _ (.inr ⟨_,rfl⟩) (by exact Nat.le_succ_of_le h1) (by exact Nat.succ_le_succ h2)⟩⟩
    | 2,_=>exact ⟨.int 5,rfl,En ⟨_,Cz,q (.cst .mB) _ (.inr ⟨_,rfl⟩) (by exact Nat.le_succ_of_le h1) (by exact Nat.succ_le_succ h2)⟩⟩
  refine Xc (Ao (Bn (Al (El rfl (Ah (En ⟨aw rfl,!(sc.map AV.int).isEmpty,rfl,?_⟩))))))
  cases Ou:sc with
  | nil=>
    subst Ou
    exact Ac (const st k (Nat.le_refl _) (by exact Nat.le_add_right _ _) h (fun _=>rfl))
  | cons a Lz=>
    rw [←Ou]
    have hE:(sc.map AV.int).isEmpty=false:=by rw [Ou];rfl
    rw [hE]
    refine Al (Aj rfl (Ec (El rfl (Ec (Ae (En ?_))))))
    refine DM (m:=3) h (by decide) (by exact Zl hk rfl) hz fun d hd=>?_
    refine Ae ⟨decide ((d:Int)>0),rfl,?_⟩
    by_cases o2:(d:Int)>0
    · rw [decide_eq_true o2]
      refine Xc (Aq (Ax (by decide) rfl (Ec (Ai (El rfl (AT (AT (AX (El rfl ⟨sc.map .int,rfl,by simp;exact Zl hs rfl,(Ae ⟨_,_,_,rfl,rfl,rfl,(Aj rfl (Ec (El rfl (Ec (BG (f:=.qg) (v:=.builtin "min") rfl (Ec (AX (El rfl ⟨sc.map .int,rfl,by simp;exact Zl hs rfl,(Ec (Ae (En (Kx ?_))))⟩))))))))⟩)⟩)))))))))
      rw [List.length_map]
      have hlen:0<sc.length:=by rw [Ou];simp
      have PZ:(if (3:Int)<(sc.length:Int) then (3:Int) else (sc.length:Int))=((min sc.length 3:Nat):Int):=by
        split
        · exact Q6 (by assumption)
        · exact Q5 (by assumption)
      rw [PZ]
      refine En (DM (m:=min sc.length 3) aZ (by exact UW hlen hs) (by exact NY hk) hz fun d2 hd2=>?_)
      rw [eT]
      have hi:sc.length-1-d2<sc.length:=by exact UU hlen hs
      refine ⟨_,_,_,rfl,rfl,rfl,.int sc[sc.length-1-d2],?_,En ⟨_,Hy,q (.loc sc[sc.length-1-d2]) (k+2) (.inl ⟨_,List.getElem_mem hi,rfl⟩) (by exact Nat.le_add_right _ _) (by exact Zr rfl)⟩⟩
      have e:(sc.length:Int)-1-d2=((sc.length-1-d2:Nat):Int):=by exact UT hlen hi hs hd2
      rw [e]
      refine GS ((GT (Zl (Nat.le_trans hi hs) rfl)).trans ?_)
      rw [List.getElem?_map,List.getElem?_eq_getElem hi];rfl
    · rw [decide_eq_false o2]
      exact Ac (const _ (k+1) (by exact Nat.le_add_right _ _) (by exact Zr rfl) aZ (fun _=>eT))
end Mine
end
section
namespace Mine
variable {C:Cx} {r:Nat} {ρ:Loc} {st:St}
noncomputable def cg (t ti o:Addr) (k:Int):List (Nm×AV):=[(.dI,.ref t),(.bw,.int k),(.jF,.ref ti),(.ja,.ref o),(.pG,.none)]
theorem Bw {N d t ti o:Addr} {k:Int} {Q:AV->St->Prop} (h1:st N=some (.inst .aN d)) (h2:st d=some (.aD (cg t ti o k))) (q:Q (.int (k+1)) (st.upd d (.aD (cg t ti o (k+1))))) :
    Fn C (r+1) (C.ma .aN .bD) [.ref N] st Q:=by
  have hE:N≠d:=fun e=>by subst e;rw [h1] at h2;subst h2
  refine Ag (C.aB .aN .bD _ rfl).2.2.2 rfl ?_
  refine Xc (BQ (AT (Aa (El rfl ⟨_,At h1 h2 (by decide) rfl,Ae ⟨_,_,_,rfl,rfl,rfl,El rfl ⟨_,_,_,_,rfl,h1,h2,by decide,aw rfl,?_⟩⟩⟩))))
  exact Xc (Aq (Aa (El rfl ⟨_,At (by rw [Aw hE];exact h1) aZ (by decide) rfl,q⟩)))
noncomputable def bN (lo:Int):Nat->List Int
  | 0=>[]
  | n+1=>bN lo n++[lo+(n+1:Nat)]
theorem AM (lo:Int):∀n,(bN lo n).length=n
  | 0=>rfl
  | n+1=>by rw [bN,List.length_append,AM lo n];rfl
mutual
inductive Num:List Int->Int->Int->Tm->Prop
  | cst {sc lo c}:Num sc lo lo (.cst c)
  | loc {sc lo n}:n∈sc->Num sc lo lo (.loc n)
  | bI {sc lo s}:Num sc lo lo (.bI s)
  | set {sc lo hi s e}:Num sc lo hi e->Num sc lo hi (.set s e)
  | bt {sc lo m1 m2 hi a b c}:Num sc lo m1 a->Num sc m1 m2 b->Num sc m2 hi c->Num sc lo hi (.bt a b c)
  | lam {sc lo hi b} (n:Nat):n≤2->Num (sc++bN (lo+1) n) (lo+1+n) hi b->Num sc lo hi (.lam (lo+1) (bN (lo+1) n) b)
  | call {sc lo m hi f as}:Num sc lo m f->fy sc m hi as->as.length≤2->Num sc lo hi (.call f as)
  | seq {sc lo m hi a b}:Num sc lo m a->Num sc m hi b->Num sc lo hi (.seq a b)
  | p1 {sc lo hi a}:Num sc lo hi a->Num sc lo hi (.p1 a)
  | p2 {sc lo m hi a b}:Num sc lo m a->Num sc m hi b->Num sc lo hi (.p2 a b)
inductive fy:List Int->Int->Int->List Tm->Prop
  | nil {sc lo}:fy sc lo lo []
  | cons {sc lo m hi t ts}:Num sc lo m t->fy sc m hi ts->fy sc lo hi (t::ts)
end
theorem fy.snoc {sc:List Int} {lo m hi:Int} {t:Tm}:∀{ts:List Tm},fy sc lo m ts->Num sc m hi t->fy sc lo hi (ts++[t])
  | [],h,h'=>by cases h;exact .cons h' .nil
  | _::_,h,h'=>by cases h with | cons a b=>exact .cons a (b.snoc h')
mutual
noncomputable def Tm.size:Tm->Nat
  | .set _ e=>e.size+1
  | .bt a b c=>a.size+b.size+c.size+1
  | .lam _ _ b=>b.size+1
  | .call f as=>f.size+fS as+1
  | .seq a b=>a.size+b.size+1
  | .p1 a=>a.size+1
  | .p2 a b=>a.size+b.size+1
  | _=>1
noncomputable def fS:List Tm->Nat
  | []=>0
  | t::r=>t.size+fS r
end
theorem DC:∀(a b:List Tm),fS (a++b)=fS a+fS b
  | [],b=>(Nat.zero_add _).symm
  | t::a,b=>by rw [List.cons_append,fS,fS,DC a b];exact US
theorem Tm.size_pos (t:Tm):0<t.size:=by cases t<;>exact Nat.succ_pos _
structure Gen where
  D:Addr
  L:Addr
  N:Addr
  dN:Addr
  t:Addr
  ti:Addr
  o:Addr
  ns:List Int
  ql:ns.length≤1000
  DL:D≠L
  DN:D≠N
  Dd:D≠dN
  LN:L≠N
  Ld:L≠dN
  Nd:N≠dN
variable {g:Gen}
noncomputable def dr (g:Gen) (st:St) (k:Nat) (l last:Int):St:=(((st.upd g.N (.inst .aN g.dN)).upd g.D (eI g.ns k)).upd g.L (.list [.int l])).upd g.dN (.aD (cg g.t g.ti g.o last))
variable {k:Nat} {l last:Int}
theorem qt:dr g st k l last g.D=some (eI g.ns k):=(Aw g.Dd).trans ((Aw g.DL).trans aZ)
theorem qs:dr g st k l last g.L=some (.list [.int l]):=(Aw g.Ld).trans aZ
theorem Dm:dr g st k l last g.dN=some (.aD (cg g.t g.ti g.o last)):=aZ
theorem E8:dr g st k l last g.N=some (.inst .aN g.dN):=(Aw g.Nd).trans ((Aw (Ne.symm g.LN)).trans ((Aw (Ne.symm g.DN)).trans aZ))
theorem vi {k':Nat}:(dr g st k l last).upd g.D (eI g.ns k')=dr g st k' l last:=by
  funext b;unfold dr St.upd
  by_cases h1:b=g.D
  · subst h1;simp [g.DL,g.Dd]
  · simp [h1]
theorem JE {l':Int}:(dr g st k l last).upd g.L (.list [.int l'])=dr g st k l' last:=by
  funext b;unfold dr St.upd
  by_cases h1:b=g.L
  · subst h1;simp [g.Ld]
  · simp [h1]
theorem vh {last':Int}:(dr g st k l last).upd g.dN (.aD (cg g.t g.ti g.o last'))=dr g st k l last':=eT
theorem Ic {b:Addr} {o:bQ} (h:dr g st k l last b=none):(dr g st k l last).upd b o=dr g (st.upd b o) k l last:=by
  have h1:b≠g.D:=fun e=>by rw [e,qt] at h;injection h
  have h2:b≠g.L:=fun e=>by rw [e,qs] at h;injection h
  have h3:b≠g.N:=fun e=>by rw [e,E8] at h;injection h
  have h4:b≠g.dN:=fun e=>by rw [e,Dm] at h;injection h
  funext c;unfold dr St.upd
  by_cases hb:c=b
  · subst hb;simp [h1,h2,h3,h4]
  · simp [hb]
theorem Ea {b:Addr} (h:dr g st k l last b=none):st b=none∧b≠g.D∧b≠g.L∧b≠g.N∧b≠g.dN:=by
  have h1:b≠g.D:=fun e=>by rw [e,qt] at h;injection h
  have h2:b≠g.L:=fun e=>by rw [e,qs] at h;injection h
  have h3:b≠g.N:=fun e=>by rw [e,E8] at h;injection h
  have h4:b≠g.dN:=fun e=>by rw [e,Dm] at h;injection h
  refine ⟨?_,h1,h2,h3,h4⟩
  unfold dr St.upd at h
  simpa [h1,h2,h3,h4] using h
theorem Gk {b:Addr} {o:bQ} {k':Nat} {l' last':Int} (h:dr g st k l last b=none):dr g (st.upd b o) k' l' last' b=some o∧dr g st k' l' last' b=none:=by
  refine FE (Ea h) fun h0 h1 h2 h3 h4=>?_
  constructor
  · unfold dr St.upd;simp [h1,h2,h3,h4]
  · unfold dr St.upd;simp [h0,h1,h2,h3,h4]
noncomputable def jS (g:Gen) (sc:List Int):List AV:=[.ref g.D,.ref g.N,.lst (sc.map .int),.ref g.L]
structure zq (k:Nat) (l last:Int) (k':Nat) (l' last':Int):Prop where
  down:l'≤l-1
  low:l-1≤l'∨0≤l'+2*(l-1)
  draws:(k':Int)+5*l'≤k+5*l
inductive N6 (g:Gen) (st:St) (sc:List Int) (k:Nat) (l last:Int):AV->St->Prop
  | mk {t:Tm} {k':Nat} {l' last':Int}:zq k l last k' l' last'->Num sc last last' t->(t.size:Int)≤2*(l-l')->N6 g st sc k l last (bT t) (dr g st k' l' last')
noncomputable def NodeOk (C:Cx) (g:Gen) (r:Nat) (l:Int):Prop:=∀(st:St) (sc:List Int) (k:Nat) (last:Int),(sc.length:Int)+2*max l 0≤900->(k:Int)+5*l≤1000->-1000≤l →
  Fn C r (C.fa .dA) (jS g sc) (dr g st k l last) (N6 g st sc k l last)
theorem Fn.nd {f:Addr} {avs:List AV} {c7:St} {sc:List Int} {Q:AV->St->Prop} (h:Fn C r f avs c7 (N6 g st sc k l last))
    (q:∀t k' l' last',zq k l last k' l' last'->Num sc last last' t->(t.size:Int)≤2*(l-l')->Q (bT t) (dr g st k' l' last')):Fn C r f avs c7 Q:=h.mono fun _ _ h=>h.casesOn fun a b c=>q _ _ _ _ a b c
end Mine
end
section
namespace Mine
variable {C:Cx} {r:Nat} {ρ:Loc} {st:St} {g:Gen} {k:Nat} {l last:Int}
theorem vm {b:Addr} {o o':bQ} {k0:Nat} {l0 oz:Int} (h:dr g st k0 l0 oz b=none):(dr g (st.upd b o) k l last).upd b o'=dr g (st.upd b o') k l last:=by
  refine FE (Ea h) fun _ h1 h2 h3 h4=>?_
  funext c;unfold dr St.upd
  by_cases hb:c=b
  · subst hb;simp [h1,h2,h3,h4]
  · simp [hb]
theorem yN {b:Addr} {o:bQ} {k0:Nat} {l0 oz:Int} (h:dr g st k0 l0 oz b=none):(dr g (st.upd b o) k l last).del b=dr g st k l last:=by
  refine FE (Ea h) fun h0 h1 h2 h3 h4=>?_
  funext c;unfold dr St.upd St.del
  by_cases hb:c=b
  · subst hb;simp [h0,h1,h2,h3,h4]
  · simp [hb]
theorem qu {b:Addr} {vs:List AV} {k0:Nat} {l0 oz:Int} (h:dr g st k0 l0 oz b=none):JK (dr g (st.upd b (.list vs)) k l last) (.ref b)=some (.lst vs,dr g st k l last):=by
  have:=(Gk (k':=k) (l':=l) (last':=last) (o:=.list vs) h).1
  exact (Gl this).trans (congrArg (fun z=>some (AV.lst vs,z)) (yN h))
noncomputable def jx (m:Int) (j:Nat) (e:Int):Prop:=3≤e+2*m+j∧e≤m-j
theorem jx.next {m e e':Int} {j:Nat} (h:jx m j e) (h1:e'≤e-1) (h2:e-1≤e'∨0≤e'+2*(e-1)):jx m (j+1) e':=Rv h h1 h2
inductive OM (g:Gen) (st:St) (sc:List Int) (m:Int) (j n k:Nat) (e last:Int):AV->St->Prop
  | mk {ts:List Tm} {k':Nat} {e' last':Int}:jx m (j+n) e'->(k':Int)+5*e'≤k+5*e->fy sc last last' ts->ts.length=n->(fS ts:Int)≤2*(e-e')->OM g st sc m j n k e last (.lst (ts.map bT)) (dr g st k' e' last')
inductive N2 (g:Gen) (st:St) (sc:List Int) (m:Int) (j k:Nat) (e last:Int) (Dc:Addr) (i:Nat):St->Prop
  | mk {ts:List Tm} {k':Nat} {e' last':Int}:dr g st k e last Dc=none->jx m (j+i) e'->(k':Int)+5*e'≤k+5*e->fy sc last last' ts->ts.length=i->(fS ts:Int)≤2*(e-e')->N2 g st sc m j k e last Dc i (dr g (st.upd Dc (.list (ts.map bT))) k' e' last')
theorem Fn.sm {f:Addr} {avs:List AV} {c7:St} {sc:List Int} {Q:AV->St->Prop} {m e:Int} {j n:Nat} (h:Fn C r f avs c7 (OM g st sc m j n k e last))
    (q:∀ts (k':Nat) e' last',jx m (j+n) e'->(k':Int)+5*e'≤k+5*e->fy sc last last' ts->ts.length=n->(fS ts:Int)≤2*(e-e')->Q (.lst (ts.map bT)) (dr g st k' e' last')):Fn C r f avs c7 Q:=h.mono fun _ _ h=>h.casesOn fun a b c d e=>q _ _ _ _ a b c d e
section
variable {m e:Int} {j n:Nat} {sc:List Int} {Dc:Addr} {i:Nat}
theorem N2.next {ts:List Tm} {k' k2:Nat} {e' e2 last' kA:Int} {t:Tm} (hi:i<n) (hj:j+n≤3) (hD:dr g st k e last Dc=none) (h1:jx m (j+i) e') (h2:(k':Int)+5*e'≤k+5*e) (h3:fy sc last last' ts) (h4:ts.length=i) (h5:(fS ts:Int)≤2*(e-e'))
    (hW:zq k' e' last' k2 e2 kA) (hn:Num sc last' kA t) (hs:(t.size:Int)≤2*(e'-e2)) :
    ∃vs,dr g (st.upd Dc (.list (ts.map bT))) k2 e2 kA Dc=some (.list vs)∧vs.length≤1000000∧N2 g st sc m j k e last Dc (i+1) ((dr g (st.upd Dc (.list (ts.map bT))) k2 e2 kA).upd Dc (.list (vs++[bT t]))):=
  ⟨_,(Gk hD).1,(List.length_map (as:=ts) bT).symm▸UP hj hi h4,((vm hD).trans (congrArg (fun z=>dr g (st.upd Dc (.list z)) k2 e2 kA) (List.map_append (f:=bT) (l₁:=ts) (l₂:=[t])).symm)).symm▸
    .mk hD (h1.next hW.down hW.low) (Int.le_trans hW.draws h2) (h3.snoc hn) ((List.length_append (as:=ts) (bs:=[t])).trans (congrArg (·+1) h4)) (DC ts [t]▸UO h5 hs)⟩
theorem uK (hN:∀e,e≤m->NodeOk C g r e) (hK:jx m j e) (hm:m≤400) (hj:j+n≤3) (hs:(sc.length:Int)+2*max m 0≤900) (hk:(k:Int)+5*e≤1000) :
    Fn C (r+1) (C.fa .cF) (jS g sc++[.int n]) (dr g st k e last) (OM g st sc m j n k e last):=by
  refine Ag (C.dM .cF _ rfl).2.1 rfl (Xc (Aq (AD (HP (Dq (El rfl ⟨n,rfl,UR hj,N2 g st sc m j k e last,⟨fun Dc hD=>Ic hD▸.mk (ts:=[]) hD hK (Int.le_refl _) .nil rfl (Ru rfl),fun Dc i ag hi h=>h.casesOn ?_⟩,fun Dc ag h=>h.casesOn ?_⟩))))))
  · exact fun hD h1 h2 h3 h4 h5=>Aj rfl (Ew rfl ((hN _ (NX h4 h1.2) _ sc _ _ (UQ hs hm (NX h4 h1.2)) (Int.le_trans h2 hk) (Rt h1.1 h1.2 hm hj hi)).nd
      fun t k2 e2 kA hW hn hz=>N2.next hi hj hD h1 h2 h3 h4 h5 hW hn hz))
  · exact fun hD h1 h2 h3 h4 h5=>⟨_,_,qu hD,.mk h1 h2 h3 h4 h5⟩
end
theorem HE {n:Nat} {ρ:Loc} {Q:AV->St->Prop} (hn:n≤1000) (hm:ae ρ .du=some (.int n)) (hN:ae ρ .bM=some (.ref g.N)) (q:Q (.lst ((bN last n).map .int)) (dr g st k l (last+n))) :
    E C (r+1) (.freeze (.comp (.aB (.jU .bM) .bD []) .eP (.call .eU [(.loc .du)]))) ρ (dr g st k l last) Q:=by
  refine AD (HP (Dq (El hm ⟨n,rfl,by exact Zl hn rfl,fun Dc i ag=>dr g st k l last Dc=none∧ag=dr g (st.upd Dc (.list ((bN last i).map .int))) k l (last+i),⟨fun Dc hD=>⟨hD,by rw [Ic hD];simp [bN]⟩,?_⟩,?_⟩)))
  · rintro Dc i ag hi ⟨hD,rfl⟩
    refine AU (Bo (av:=.ref g.N) ?_ ⟨.aN,_,AK E8 Dm,rfl,rfl,En (Bw E8 Dm ?_)⟩)
    · rw [Af,if_neg (by decide)]
      unfold gD
      rw [DT (p:=fun z=>decide (z∈lV (.aB (.jU .bM) .bD []))) (by decide)];exact hN
    · rw [vh]
      refine ⟨_,(Gk hD).1,by rw [List.length_map,AM];exact UN hi hn,hD,?_⟩
      rw [vm hD,bN,List.map_append]
      have:last+(i:Int)+1=last+((i+1:Nat):Int):=by exact UM
      rw [this];rfl
  · rintro Dc ag ⟨hD,rfl⟩
    exact ⟨_,_,qu hD,q⟩
end Mine
end
section
namespace Mine
variable {C:Cx} {r:Nat} {ρ:Loc} {st:St} {g:Gen} {k:Nat} {l last:Int}
theorem yB {a b c:AV}:gd C r .oh [a,b,c] [(.dT,a),(.ej,b),(.gU,c)]:=fun st x y h=>by
  refine ⟨_,rfl,rfl,?_⟩
  exact Xc (Ay rfl h (by decide) (by decide) (El rfl ⟨rfl,(Xc (Ay rfl h (by decide) (aw rfl) (El rfl ⟨rfl,(Xc (Ay rfl h (by decide) (aw rfl) (El rfl ⟨rfl,(Ac ⟨rfl,rfl⟩)⟩)))⟩)))⟩))
theorem GY {a b c d:AV}:gd C r .fc [a,b,c,d] [(.aC,a),(.aG,b),(.bc,c),(.dp,d)]:=fun st x y h=>by
  refine ⟨_,rfl,rfl,?_⟩
  exact Xc (Ay rfl h (by decide) (by decide) (El rfl ⟨rfl,(Xc (Ay rfl h (by decide) (aw rfl) (El rfl ⟨rfl,(Xc (Ay rfl h (by decide) (aw rfl) (El rfl ⟨rfl,(Xc (Ay rfl h (by decide) (aw rfl) (El rfl ⟨rfl,(Ac ⟨rfl,rfl⟩)⟩)))⟩)))⟩)))⟩))
theorem FU {a b:AV}:gd C r .iC [a,b] [(.b5,a),(.aQ,b)]:=fun st x y h=>by
  refine ⟨_,rfl,rfl,?_⟩
  exact Xc (Ay rfl h (by decide) (by decide) (El rfl ⟨rfl,(Xc (Ay rfl h (by decide) (aw rfl) (El rfl ⟨rfl,(Ac ⟨rfl,rfl⟩)⟩)))⟩))
theorem FS {a b:AV}:gd C r .fk [a,b] [(.cN,a),(.aQ,b)]:=fun st x y h=>by
  refine ⟨_,rfl,rfl,?_⟩
  exact Xc (Ay rfl h (by decide) (by decide) (El rfl ⟨rfl,(Xc (Ay rfl h (by decide) (aw rfl) (El rfl ⟨rfl,(Ac ⟨rfl,rfl⟩)⟩)))⟩))
inductive ON (g:Gen) (st:St) (sc:List Int) (m:Int) (j n k:Nat) (e last:Int):AV->St->Prop
  | mk {b:Tm} {k':Nat} {e' last':Int}:jx m (j+1) e'->(k':Int)+5*e'≤k+5*e->Num sc last last' (.lam (last+1) (bN (last+1) n) b)->(b.size:Int)≤2*(e-e')->ON g st sc m j n k e last (bT (.lam (last+1) (bN (last+1) n) b)) (dr g st k' e' last')
theorem Fn.lm {f:Addr} {avs:List AV} {c7:St} {sc:List Int} {Q:AV->St->Prop} {m e:Int} {j n:Nat} (h:Fn C r f avs c7 (ON g st sc m j n k e last))
    (q:∀b (k':Nat) e' last',jx m (j+1) e'->(k':Int)+5*e'≤k+5*e->Num sc last last' (.lam (last+1) (bN (last+1) n) b)->(b.size:Int)≤2*(e-e')->Q (bT (.lam (last+1) (bN (last+1) n) b)) (dr g st k' e' last')):Fn C r f avs c7 Q:=h.mono fun _ _ h=>h.casesOn fun a b c d=>q _ _ _ _ a b c d
theorem Hv {m e:Int} {j n:Nat} {sc:List Int} (hN:∀e,e≤m->NodeOk C g (r+2) e) (hK:jx m j e) (hm:m≤400) (hj:j+1≤3) (hn:n≤2) (hs:(sc.length:Int)+2+2*max m 0≤900) (hk:(k:Int)+5*e≤1000) :
    Fn C (r+3) (C.fa .dk) (jS g sc++[.int n]) (dr g st k e last) (ON g st sc m j n k e last):=by
  have he:e≤m:=UK hj hK.2
  refine Ag (C.dM .dk _ rfl).2.1 rfl (Xc (qG (Ec (AU (Bo rfl ⟨.aN,_,AK E8 Dm,rfl,rfl,En (Bw E8 Dm (vh.symm▸Ec (HE (n:=n) (Zl hn rfl) rfl rfl (En ⟨rfl,aw rfl,?_⟩))))⟩)))))
  refine Xc (Aq (Ax (by decide) rfl (Ec (El rfl (Ec (El rfl (Ec (Bc (Ec (Aj rfl (Ec (El rfl (Ec (Bo rfl (Ec (C1 (El rfl (El rfl ⟨sc.map .int,(bN (last+1) n).map .int,rfl,rfl,?_,?_⟩))))))))))))))))))
  · rw [List.length_map,List.length_map,AM];exact UL hs hn hm
  · exact (List.map_append (f:=AV.int))▸Ec (El rfl (En ((hN e he st (sc++bN (last+1) n) k (last+1+n) ((List.length_append (as:=sc)).trans (congrArg (sc.length+·) (AM (last+1) n))▸UJ hs hn hm he) hk (Rf hK.1 hK.2 hm hj)).nd
      fun t k2 e2 kA hW Ov hz=>En ⟨_,GY,.mk (hK.next hW.down hW.low) hW.draws (.lam n hn Ov) hz⟩)))
end Mine
end
section
namespace Mine
variable {C:Cx} {r:Nat} {ρ:Loc} {st:St} {g:Gen} {k:Nat} {l last:Int}
theorem ro {sc:List Int} {P:Tm->Prop} (h1:∀n,n∈sc->P (.loc n)) (h2:∀c,P (.cst c)) {t:Tm} (h:wQ sc t):P t:=Or.elim h (fun h=>bq h fun n hn e=>e▸h1 n hn) fun h=>xE h fun c e=>e▸h2 c
@[elab_as_elim] theorem fy.c {sc:List Int} {lo hi:Int} {ts:List Tm} {P:List Tm->Prop} {n:Nat} (h:fy sc lo hi ts) (hl:ts.length=n+1) (q:∀t r m,Num sc lo m t->fy sc m hi r->r.length=n->P (t::r)):P ts:=by
  cases h with
  | nil=>exact nomatch hl
  | cons a b=>exact q _ _ _ a b (Nat.succ.inj hl)
@[elab_as_elim] theorem fy.n {sc:List Int} {lo hi:Int} {ts:List Tm} {P:Int->List Tm->Prop} (h:fy sc lo hi ts) (hl:ts.length=0) (q:P lo []):P hi ts:=by
  cases h with
  | nil=>exact q
  | cons a b=>exact nomatch hl
theorem jx.nJ {m e:Int} {j c k':Nat} {last':Int} (h:jx m j e) (hl:l=m+1) (hj:1≤j) (Jy:j≤3) (hc:c≤5) (hk:(k':Int)+5*e≤((k+c:Nat):Int)+5*m):zq k l last k' e last':=
  ⟨UI hj Jy hl h.2,.inr (Rr h.1 Jy hl),Rq hk hc hl⟩
theorem E7 {l:Int}:itemOf (dr g st k l last) (.ref g.L) (.int 0)=some (.int l):=Gi qs rfl
theorem sr {P:Nat->Prop} {n:Nat} (k:∀d,d<n->P d) (h:P n) (d:Nat) (hd:d<n+1):P d:=(Nat.lt_succ_iff_lt_or_eq.mp hd).elim (k d) fun e=>e▸h
theorem lt10 {P:Nat->Prop} (h0:P 0) (h1:P 1) (h2:P 2) (h3:∀d,d=3∨d=4->P d) (h5:P 5) (h6:P 6) (h7:P 7) (h8:P 8) (h9:P 9):∀d,d<10->P d:=
  sr (sr (sr (sr (sr (sr (sr (sr (sr (sr nofun h0) h1) h2) (h3 3 (.inl rfl))) (h3 4 (.inr rfl))) h5) h6) h7) h8) h9
@[elab_as_elim] theorem Jf {P:Nat->Prop} {d:Nat} (h:d=3∨d=4) (h3:P 3) (h4:P 4):P d:=h.elim (fun e=>e▸h3) fun e=>e▸h4
@[elab_as_elim] theorem X8 {P:Nat->Prop} {d:Nat} (h:d<2) (h3:P 0) (h4:P 1):P d:=sr (sr nofun h3) h4 d h
structure zw (C:Cx) (g:Gen) (r:Nat) (sc:List Int) (k:Nat) (l m:Int):Prop where
  hl:l=m+1
  hm:m≤400
  hN:1≤m->∀e,e≤m->NodeOk C g (r+2) e
  hs:(sc.length:Int)+2*max l 0≤900
  hk:(k:Int)+5*l≤1000
  oA:-1000≤l
section
variable {sc:List Int} {m:Int} {Q:AV->St->Prop}
theorem G1 {M:Nat} {l:Int} (hM:0<M) (hk:k≤100000) (q:∀d:Nat,d<M->Q (.int d) (dr g st (k+1) l last)):Fn C (r+1) (C.fa .bx) [.ref g.D,.int M] (dr g st k l last) Q:=
  DM qt hM hk g.ql fun d hd=>vi.symm▸q d hd
theorem zw.draw (H:zw C g r sc k l m) (m0:0<m) {M:Nat} (hM:0<M) (q:∀d:Nat,d<M->Q (.int d) (dr g st (k+2) m last)):Fn C (r+5) (C.fa .bx) [.ref g.D,.int M] (dr g st (k+1) m last) Q:=
  G1 hM (Rl H.hl H.hk m0) q
theorem zw.some (H:zw C g r sc k l m) (m0:0<m) {k1 j n:Nat} {e z9:Int} (hK:jx m j e) (hj:j+n≤3) (K2:(k1:Int)+5*e≤1000):Fn C (r+5) (C.fa .cF) (jS g sc++[.int n]) (dr g st k1 e z9) (OM g st sc m j n k1 e z9):=
  Fn.up (uK (H.hN m0) hK H.hm hj (NV H.hl H.hm H.hs H.oA m0) K2) (Nat.le_add_right (r+3) 2)
theorem zw.lam (H:zw C g r sc k l m) (m0:0<m) {n:Nat} (hn:n<3):Fn C (r+5) (C.fa .dk) (jS g sc++[.int n]) (dr g st (k+2) m last) (ON g st sc m 0 n (k+2) m last):=
  Fn.up (Hv (H.hN m0) (sg m0) H.hm (aw rfl) (Nat.le_of_lt_succ hn) (Rj H.hl H.hs m0) (sh (b:=2) H.hl (aw rfl) H.hk)) (Zr rfl)
theorem zw.leaf (H:zw C g r sc k l m) {k1:Nat} (h1:k≤k1) (h2:k1≤k+1):Fn C (r+5) (C.fa .eZ) [.ref g.D,.lst (sc.map .int)] (dr g st k1 m last) (N6 g st sc k l last):=
  Fn.up (r:=r+4) (uL (k:=k1) qt (UG H.hl H.hm H.hk H.oA h1 h2) g.ql (UE H.hs H.oA H.hl H.hm) fun t k' ht h3 h4=>
    vi.symm▸ro (P:=fun t=>N6 g st sc k l last (bT t) (dr g st k' m last)) (fun n hn=>.mk ⟨Kg H.hl,.inl (Ke H.hl),NW H.hl h1 h2 h3 h4⟩ (.loc hn) (Kf H.hl)) (fun c=>.mk ⟨Kg H.hl,.inl (Ke H.hl),NW H.hl h1 h2 h3 h4⟩ .cst (Kf H.hl)) ht) (Zr rfl)
end
theorem FI {m:Int} (hl:l=m+1) (hm:m≤400) (hN:1≤m->∀e,e≤m->NodeOk C g (r+2) e):NodeOk C g (r+6) l:=by
  intro st sc k last hs hk oA
  have H:zw C g r sc k l m:=⟨hl,hm,hN,hs,hk,oA⟩
  clear hm hN hs hk oA
  refine Ag (C.dM .dA _ rfl).2.1 rfl (Xc (Br (AT (Ai (El rfl (Ae ⟨_,E7,Ae ⟨_,_,_,rfl,rfl,rfl,El rfl (Ae ⟨g.L,dr g st k m last,rfl,setOk.l qs (by decide) (by simp) (by simp) ?_,?_⟩)⟩⟩))))))
  · exact (JE (l':=m)).symm.trans (congrArg (fun z=>(dr g st k l last).upd g.L (.list [.int z])) (UH.trans (congrArg (·-1) hl.symm)))
  by_cases m0:0<m
  · refine Xc (Au (AE (Al (Ai (El rfl (Ae ⟨_,E7,Ae ⟨true,congrArg some (decide_eq_true m0),Aj rfl (Ew rfl (G1 (M:=10) (by decide) (UD hl H.hm H.hk H.oA m0) (lt10 ?_ ?_ ?_ ?_ ?_ ?_ ?_ ?_ ?_)))⟩⟩))))))
    · refine Av rfl (Av rfl (Av rfl (Av rfl (Av rfl (Av rfl (Av rfl ?_))))))
      refine Xc (Aq (AE (Tw rfl ?_)))
      exact Aj rfl (Ew rfl (H.leaf (Nat.le_add_right _ _) (Nat.le_refl _)))
    · refine AH rfl (Xc (Au (Aj rfl (Ew rfl ((H.some (n:=3) m0 (sg m0) (aw rfl) (sh (b:=1) hl (aw rfl) H.hk)).sm fun ts k' e' last' h1 h2 h3 h4=>?_)))))
      refine h3.c h4 fun a OW m1 n1 h3 h4=>?_
      refine h3.c h4 fun b Vy m2 n2 h3 h4=>?_
      refine h3.c h4 fun c ZS m3 n3 h3 h4=>?_
      refine fy.n h3 h4 fun h5=>?_
      exact Xc (Aq (Ax (by decide) rfl (Ew rfl ⟨_,yB,.mk (t:=.bt a b c) (h1.nJ hl (aw rfl) (aw rfl) (aw rfl) h2) (.bt n1 n2 n3) (Rp h5 hl)⟩)))
    · refine Av rfl (AH rfl (Xc (Aq (Aj rfl (Ec (El rfl (Ec (El rfl (Ec (El rfl (Ec (El rfl (Ec (Aj rfl (Ew rfl (H.draw m0 (by decide) fun d2 hd2=>En ?_))))))))))))))))
      exact (H.lam m0 hd2).lm fun b k' e' last' h1 h2 h3 h5=>.mk (h1.nJ hl (aw rfl) (aw rfl) (aw rfl) h2) h3 (NR h5 hl)
    · intro d h34
      refine Av (Jf h34 rfl rfl) (Av (Jf h34 rfl rfl) (AH (Jf h34 rfl rfl) (Xc (Au (Aj rfl (Ec (El rfl (Ec (El rfl (Ec (El rfl (Ec (El rfl (Ec (AT (Ae (Aj rfl (Ew rfl (H.draw m0 (by decide) fun d2 hd2=>⟨_,_,((1+d2:Nat):Int),rfl,rfl,rfl,En ?_⟩)))))))))))))))))))
      refine (H.some (n:=1+d2) m0 (sg m0) (Kd hd2 rfl) (sh (b:=2) hl (aw rfl) H.hk)).sm fun ts k' e' last' h1 h2 h3 h4=>?_
      refine h3.c (h4.trans (Nat.add_comm _ _)) fun a as m1 n1 h3 Il h5=>?_
      refine Xc (Aq (Ax (by decide) rfl (Ec (Ai (El rfl (Ae ⟨_,rfl,Ec (Bg (El rfl ((show Eo C _ (some (.int 1)) _ _ _ from Ae ⟨_,rfl,_,rfl,Rg ((List.length_map (as:=a::as) bT).trans (congrArg (·+1) Il |>.trans (Nat.add_comm _ _))) hd2,?_⟩))))⟩))))))
      rw [List.map_cons,Bv,←AZ]
      exact En ⟨_,FU,.mk (t:=.call a as) (h1.nJ hl (Q8 rfl) (Kd hd2 rfl) (aw rfl) h2) (.call n1 h3 (Nat.le_of_lt_succ (Il▸hd2))) (Ro h5 hl)⟩
    · refine Av rfl (Av rfl (Av rfl (AH rfl (Xc (Au (Aj rfl (Ew rfl (H.draw m0 (by decide) fun d2 hd2=>?_))))))))
      refine Xc (Au (Aj rfl (Ew rfl ((H.lam m0 hd2).lm fun b k' e' last' h1 h2 h3 h5=>?_))))
      refine Xc (Aq (Ax (by decide) rfl (Ec (El rfl (Ec (Aj rfl (Ew rfl ((H.some (n:=d2) m0 h1 (NQ hd2 rfl) (Rk hl H.hk h2)).sm fun ts k2 e2 kA g1 g2 g3 g4 g5=>?_))))))))
      exact AZ ts▸En ⟨_,FU,.mk (t:=.call (.lam (last+1) (bN (last+1) d2) b) ts) (g1.nJ hl (Rd rfl) (NQ hd2 rfl) (aw rfl) (Int.le_trans g2 h2)) (.call h3 g3 (Nat.le_of_lt_succ (g4▸hd2))) (Rm h5 g5 hl)⟩
    · refine Av rfl (Av rfl (Av rfl (Av rfl (AH rfl (Xc (Aq (Ax (by decide) rfl (Ec (Aj rfl (Ew rfl ((H.some (n:=2) m0 (sg m0) (aw rfl) (sh (b:=1) hl (aw rfl) H.hk)).sm fun ts k' e' last' h1 h2 h3 h4=>?_)))))))))))
      refine h3.c h4 fun a OW m1 n1 h3 h4=>?_
      refine h3.c h4 fun b Vy m2 n2 h3 h4=>?_
      exact fy.n h3 h4 fun h5=>
        En ⟨_,GX,.mk (t:=.seq a b) (h1.nJ hl (aw rfl) (aw rfl) (aw rfl) h2) (.seq n1 n2) (NS h5 hl)⟩
    · refine Av rfl (Av rfl (Av rfl (Av rfl (Av rfl (AH rfl (Xc (Au (AT (Ae (Aj rfl (Ew rfl (H.draw m0 (by decide) fun d2 hd2=>⟨_,_,((1+d2:Nat):Int),rfl,rfl,rfl,?_⟩))))))))))))
      refine Xc (Aq (Ax (by decide) rfl (Ec (AT (Ae (El rfl ⟨_,_,_,rfl,rfl,rfl,Ec (Aj rfl (Ew rfl ((H.some (n:=1+d2) m0 (sg m0) (Kd (Nat.lt_succ_of_lt hd2) rfl) (sh (b:=2) hl (aw rfl) H.hk)).sm fun ts k' e' last' h1 h2 h3 h4=>?_)))⟩))))))
      revert h1 h4
      refine X8 hd2 (fun h1 h4=>?_) fun h1 h4=>?_
      · refine h3.c h4 fun a OW m1 n1 h3 h4=>?_
        refine fy.n h3 h4 fun h5=>?_
        exact En ⟨_,FS,.mk (t:=.p1 a) (h1.nJ hl (aw rfl) (aw rfl) (aw rfl) h2) (.p1 n1) (Rn h5 hl)⟩
      · refine h3.c h4 fun a OW m1 n1 h3 h4=>?_
        refine h3.c h4 fun b Vy m2 n2 h3 h4=>?_
        refine fy.n h3 h4 fun h5=>?_
        exact En ⟨_,FS,.mk (t:=.p2 a b) (h1.nJ hl (aw rfl) (aw rfl) (aw rfl) h2) (.p2 n1 n2) (NS h5 hl)⟩
    · refine Av rfl (Av rfl (Av rfl (Av rfl (Av rfl (Av rfl (AH rfl (Xc (Aq (Ax (by decide) rfl (Ec (AT (Ae (Aj rfl (Ew rfl (H.draw m0 (by decide) fun d2 hd2=>?_)))))))))))))))
      refine ⟨_,_,((1+d2:Nat):Int),rfl,rfl,rfl,Ec (Aj rfl (Ew rfl ?_))⟩
      exact (Fn.up (H.hN m0 m (Int.le_refl _) st sc (k+2) last (NV hl H.hm H.hs H.oA m0) (sh (b:=2) hl (aw rfl) H.hk) (Ri m0)) (Nat.le_add_right (r+2) 3)).nd fun t k' l' last' hW yL nk=>
        En ⟨_,CR,.mk (t:=.set (1+d2:Nat) t) ((jx.next (j:=0) (sg m0) hW.down hW.low).nJ hl (aw rfl) (aw rfl) (aw rfl) hW.draws) (.set yL) (NR nk hl)⟩
    · refine Av rfl (Av rfl (Av rfl (Av rfl (Av rfl (Av rfl (Av rfl ?_))))))
      refine Xc (Aq (AE (Tw rfl ?_)))
      refine Ax (by decide) rfl (Ec (AT (Ae (Aj rfl (Ew rfl (H.draw m0 (by decide) fun d2 hd2=>⟨_,_,((1+d2:Nat):Int),rfl,rfl,rfl,?_⟩))))))
      exact En ⟨_,GZ,.mk (t:=.bI (1+d2:Nat)) ⟨Kg hl,.inl (Ke hl),Rh hl⟩ .bI (Kf hl)⟩
  · refine Xc (Au (AE (Al (Ai (El rfl (Ae ⟨_,E7,Ae ⟨false,congrArg some (decide_eq_false m0),Ae ?_⟩⟩))))))
    refine Av rfl (Av rfl (Av rfl (Av rfl (Av rfl (Av rfl (Av rfl ?_))))))
    refine Xc (Aq (AE (Tw rfl ?_)))
    exact Aj rfl (Ew rfl (H.leaf (Nat.le_refl _) (Nat.le_succ _)))
theorem ug:∀(n:Nat),n≤60->∀l:Int,l≤n->NodeOk C g (4*n+6) l:=by
  intro n
  induction n with
  | zero=>exact fun _ l hl=>FI (r:=0) NP.symm (Rc hl) fun h=>(Rb hl h).elim
  | succ n ih=>exact fun hn l hl=>FI (r:=4*n+4) NP.symm (Ra hn hl) fun h e he=>ih (Nat.le_of_succ_le hn) e (Q9 hl he)
end Mine
end
section
namespace Mine
variable {C:Cx} {r:Nat} {ρ:Loc} {st:St}
theorem Cn {x n:Nm} {e:PE} {a d:Addr} {c:Nm} {fs:List (Nm×AV)} {Q:Fl->Loc->St->Prop} (hs:ae ρ x=some (.ref a)) (mq:a≠d) (hn:n∈iq c) (hz:fs.length≤1000)
    (h:E C r e ρ (cf st a d c fs) (fun v ag=>ag=cf st a d c fs∧Q .next ρ (cf st a d c (putK fs n v)))):X1 C r (.aP (.loc x) n e) ρ (cf st a d c fs) Q:=
  BQ (h.mono fun v ag ⟨e,q⟩=>by subst e;exact El hs ⟨a,c,d,fs,rfl,GG,GF mq,hn,hz,by rw [Gb mq];exact q⟩)
theorem As {a b c d:AV}:gd C r .bF [a,b,c,d] [(.bo,a),(.af,b),(.aI,c),(.cO,d)]:=fun st x y h=>by
  refine ⟨_,rfl,rfl,?_⟩
  exact Xc (Ay rfl h (by decide) (by decide) (El rfl ⟨rfl,(Xc (Ay rfl h (by decide) (aw rfl) (El rfl ⟨rfl,(Xc (Ay rfl h (by decide) (aw rfl) (El rfl ⟨rfl,(Xc (Ay rfl h (by decide) (aw rfl) (El rfl ⟨rfl,(Ac ⟨rfl,rfl⟩)⟩)))⟩)))⟩)))⟩))
theorem CS {a b c d:AV}:gd C r .fO [a,b,c,d] [(.dg,a),(.bo,b),(.aU,c),(.cI,d),(.eW,.none),(.iN,.lst []),(.gC,.lst [])]:=fun st x y h=>by
  refine ⟨_,rfl,rfl,?_⟩
  exact Xc (Ay rfl h (by decide) (by decide) (El rfl ⟨rfl,(Xc (Ay rfl h (by decide) (aw rfl) (El rfl ⟨rfl,(Xc (Ay rfl h (by decide) (aw rfl) (El rfl ⟨rfl,(Xc (Ay rfl h (by decide) (aw rfl) (El rfl ⟨rfl,(Xc (Ay rfl h (by decide) (aw rfl) (AJ ⟨rfl,(Xc (Ay rfl h (by decide) (aw rfl) (Ah (En ⟨aw rfl,rfl,(Xc (Ay rfl h (by decide) (aw rfl) (Ah (En ⟨aw rfl,rfl,(Ac ⟨rfl,rfl⟩)⟩))))⟩))))⟩)))⟩)))⟩)))⟩)))⟩))
theorem Cy {w:AV}:gd C r .d5 [w] [(.bo,w),(.aR,.int (-1)),(.cI,.lst []),(.jE,.int (-1)),(.eD,.int (-1)),(.aW,.int (-1))]:=fun st x y h=>by
  refine ⟨_,rfl,rfl,?_⟩
  exact Xc (Ay rfl h (by decide) (by decide) (El rfl ⟨rfl,(Xc (Ay rfl h (by decide) (aw rfl) (Bc ⟨rfl,(Xc (Ay rfl h (by decide) (aw rfl) (Ah (En ⟨aw rfl,rfl,(Xc (Ay rfl h (by decide) (aw rfl) (Bc ⟨rfl,(Xc (Ay rfl h (by decide) (aw rfl) (Bc ⟨rfl,(Xc (Ay rfl h (by decide) (aw rfl) (Bc ⟨rfl,(Ac ⟨rfl,rfl⟩)⟩)))⟩)))⟩)))⟩))))⟩)))⟩))
theorem vV {res:Int} {v:AV}:Fn C (r+3) (C.fa .g8) [.int res,v] st (here st (.obj .fO (KQ res .k8 (-1) [] v []))):=by
  refine Ag (C.dM .g8 _ rfl).2.1 rfl ?_
  refine Xc (Au (Dr (by decide) rfl ?_))
  refine Ec (El rfl (Ec (Ak (Ec (Bc (Ec (Ah (En ⟨aw rfl,(En ?_)⟩))))))))
  refine ⟨_,CS,fun a d hx hy h=>?_⟩
  exact Xc (Cn rfl h (by decide) (aw rfl) (El rfl ⟨rfl,(Xc (Aq (AD (El rfl ⟨_,_,CA hx hy h,⟨rfl,rfl⟩⟩))))⟩))
theorem JH {res lab:Int}:Fn C (r+3) (C.fa .jM) [.int res,.int lab] st (here st (kP (.fn res lab))):=by
  refine Ag (C.dM .jM _ rfl).2.1 rfl ?_
  refine Xc (Au (Dr (by decide) rfl ?_))
  refine Ec (El rfl (Ec (Ak (Ec (Bc (Ec (Ah (En ⟨aw rfl,(En ?_)⟩))))))))
  refine ⟨_,CS,fun a d hx hy h=>?_⟩
  exact Xc (Cn rfl h (by decide) (aw rfl) (Ah (Ec (El rfl (En ⟨aw rfl,⟨rfl,(Xc (Aq (AD (El rfl ⟨_,_,CA hx hy h,⟨rfl,rfl⟩⟩))))⟩⟩)))))
theorem Ck {f to var:Int} {as:List Int} (hz:as.length≤1000):Fn C (r+3) (C.fa .ec) [.int f,.lst (as.map .int),.int to,.int var] st (here st (qk (.call f as to var))):=by
  refine Ag (C.dM .ec _ rfl).2.1 rfl ?_
  refine Xc (Au (Dr (by decide) rfl ?_))
  refine Ec (C0 rfl (En ?_))
  refine ⟨_,Cy,fun a d hx hy h=>?_⟩
  exact Xc (Cn rfl h (by decide) (aw rfl) (El rfl ⟨rfl,(Xc (Cn rfl h (by decide) (aw rfl) (EG (El rfl ⟨as.map .int,rfl,by simp;exact Zl hz rfl,⟨rfl,(Xc (Cn rfl h (by decide) (aw rfl) (El rfl ⟨rfl,(Xc (Cn rfl h (by decide) (aw rfl) (El rfl ⟨rfl,(Xc (Aq (AD (El rfl ⟨_,_,CA hx hy h,⟨rfl,rfl⟩⟩))))⟩)))⟩)))⟩⟩))))⟩))
theorem BI {to:Int} {as:List Int} (hz:as.length≤1000):Fn C (r+3) (C.fa .fV) [.int to,.lst (as.map .int)] st (here st (qk (.gm to as))):=by
  refine Ag (C.dM .fV _ rfl).2.1 rfl ?_
  refine Xc (Au (Dr (by decide) rfl ?_))
  refine Ec (C0 rfl (En ?_))
  refine ⟨_,Cy,fun a d hx hy h=>?_⟩
  exact Xc (Cn rfl h (by decide) (aw rfl) (El rfl ⟨rfl,(Xc (Cn rfl h (by decide) (aw rfl) (EG (El rfl ⟨as.map .int,rfl,by simp;exact Zl hz rfl,⟨rfl,(Xc (Aq (AD (El rfl ⟨_,_,CA hx hy h,⟨rfl,rfl⟩⟩))))⟩⟩))))⟩))
theorem B9 {var:Int} {as:List Int} (hz:as.length≤1000):Fn C (r+3) (C.fa .fX) [.int var,.lst (as.map .int)] st (here st (qk (.give var as))):=by
  refine Ag (C.dM .fX _ rfl).2.1 rfl ?_
  refine Xc (Au (Dr (by decide) rfl ?_))
  refine Ec (C0 rfl (En ?_))
  refine ⟨_,Cy,fun a d hx hy h=>?_⟩
  exact Xc (Cn rfl h (by decide) (aw rfl) (El rfl ⟨rfl,(Xc (Cn rfl h (by decide) (aw rfl) (EG (El rfl ⟨as.map .int,rfl,by simp;exact Zl hz rfl,⟨rfl,(Xc (Aq (AD (El rfl ⟨_,_,CA hx hy h,⟨rfl,rfl⟩⟩))))⟩⟩))))⟩))
theorem oI {t y n:Int}:Fn C (r+3) (C.fa .di) [.int t,.int y,.int n] st (here st (qk (.branch t y n))):=by
  refine Ag (C.dM .di _ rfl).2.1 rfl ?_
  refine Xc (Au (Dr (by decide) rfl ?_))
  refine Ec (C0 rfl (En ?_))
  refine ⟨_,Cy,fun a d hx hy h=>?_⟩
  exact Xc (Cn rfl h (by decide) (aw rfl) (El rfl ⟨rfl,(Xc (Cn rfl h (by decide) (aw rfl) (El rfl ⟨rfl,(Xc (Cn rfl h (by decide) (aw rfl) (El rfl ⟨rfl,(Xc (Aq (AD (El rfl ⟨_,_,CA hx hy h,⟨rfl,rfl⟩⟩))))⟩)))⟩)))⟩))
end Mine
end
section
namespace Mine
variable {C:Cx} {r:Nat} {ρ:Loc} {st:St}
abbrev Objs:=List (Addr×bQ)
structure Rep (l:Objs) (st:St):Prop where
  nodup:(l.map (·.1)).Nodup
  at_:∀p∈l,st p.1=some p.2
theorem Rep.get {l:Objs} (h:Rep l st) {a:Addr} {o:bQ} (m:(a,o)∈l):st a=some o:=h.at_ _ m
theorem Rep.set {l l':Objs} {a:Addr} {o:bQ} (h:Rep l st) (hk:l'.map (·.1)=l.map (·.1)) (ho:∀p∈l',p=(a,o)∨(p.1≠a∧p∈l)):Rep l' (st.upd a o):=by
  refine ⟨hk▸h.nodup,fun p hp=>?_⟩
  rcases ho p hp with rfl | ⟨h1,h2⟩
  · exact aZ
  · exact (Aw h1).trans (h.at_ p h2)
theorem Rep.new {l:Objs} {a:Addr} {o:bQ} (h:Rep l st) (ha:st a=none):Rep ((a,o)::l) (st.upd a o):=by
  have hn:∀p∈l,p.1≠a:=fun p hp q=>by have:=h.at_ p hp;rw [q,ha] at this;injection this
  refine ⟨List.nodup_cons.mpr ⟨fun hm=>?_,h.nodup⟩,fun p hp=>?_⟩
  · refine bq (List.mem_map.mp hm) fun p hp e=>?_;exact hn p hp e
  · rcases List.mem_cons.mp hp with rfl | hp
    · exact aZ
    · exact (Aw (hn p hp)).trans (h.at_ p hp)
theorem Rep.sub {l l':Objs} (h:Rep l st) (hs:l'.Sublist l):Rep l' st:=⟨h.nodup.sublist (hs.map _),fun p hp=>h.at_ p (hs.subset hp)⟩
theorem Rep.perm {l l':Objs} (h:Rep l st) (hp:l'.Perm l):Rep l' st:=⟨(hp.map _).nodup_iff.mpr h.nodup,fun p hm=>h.at_ p (hp.subset hm)⟩
end Mine
end
section
namespace Mine
variable {C:Cx} {r:Nat} {ρ:Loc} {st:St}
inductive Way where | val | cj | tail
noncomputable def Way.i:Way->Int | .val=>0 | .cj=>1 | .tail=>2
structure gJ where
  word:Nm
  node:Option Tm
  way:Way
  nums:List Int
noncomputable def cX (t:gJ):AV:=.obj .bF [(.bo,.str t.word),(.af,match t.node with | none=>.none | some t=>bT t),(.aI,.int t.way.i),(.cO,.lst (t.nums.map .int))]
structure Bk where
  a:Addr
  d:Addr
  o:Addr
  label:Int
  sort:Nm
  params:List Int
  rest:Int
  var:Int
  dF:Int
  parent:Int
  title:Nm
  ops:List KO
  last:Option KL
noncomputable def oy:Option KL->AV | none=>.none | some l=>qk l
noncomputable def nE (b:Bk):List (Nm×AV):=[(.aC,.int b.label),(.gi,.str b.sort),(.aG,.lst (b.params.map .int)),(.bc,.int b.rest),(.aW,.int b.var),(.gj,.int b.dF),(.eC,.int b.parent),(.fT,.str b.title),
  (.ja,.ref b.o),(.bw,oy b.last)]
noncomputable def ju (b:Bk):Objs:=[(b.a,.inst .aS b.d),(b.d,.aD (nE b)),(b.o,.list (b.ops.map kP))]
structure Bd where
  B:Addr
  dB:Addr
  P:Addr
  dP:Addr
  T:Addr
  W:Addr
  H:Addr
  L:Addr
  O:Addr
  N:Addr
  dN:Addr
  tb:Addr
  ti:Addr
  op:Addr
  entry:Int
  last:Int
  here:Option Addr
  waiting:List gJ
  held:List Int
  later:List (Addr×Tm)
  other:List (Int×Int)
  blocks:List Bk
noncomputable def Io:Option Addr->AV | none=>.none | some a=>.ref a
noncomputable def o3 (b:Bd):List (Nm×AV):=[(.dZ,.ref b.N),(.aJ,.ref b.P),(.cH,Io b.here),(.eO,.ref b.W),(.fM,.ref b.H),(.fU,.ref b.L),(.eD,.ref b.O)]
noncomputable def dt (b:Bd):Objs:=
  [(b.B,.inst .ak b.dB),(b.dB,.aD (o3 b)),(b.P,.inst .aE b.dP),(b.dP,.aD [(.dI,.ref b.T),(.dJ,.int b.entry)]),(b.T,.dict (b.blocks.map fun k=>(k.label,.ref k.a))),
   (b.W,.list (b.waiting.map cX)),(b.H,.list (b.held.map .int)),(b.L,.list (b.later.map fun x=>.tup [.ref x.1,bT x.2])),(b.O,.dict (b.other.map fun x=>(x.1,.int x.2))),
   (b.N,.inst .aN b.dN),(b.dN,.aD (cg b.tb b.ti b.op b.last)),(b.ti,.dict [])]++b.blocks.flatMap ju
noncomputable abbrev dq (b:Bd) (st:St):Prop:=Rep (dt b) st
theorem Rep.mid {l1 l2:Objs} {a:Addr} {o o0:bQ} (h:Rep (l1++(a,o0)::l2) st):Rep (l1++(a,o)::l2) (st.upd a o):=by
  have hn:=h.nodup
  rw [List.map_append,List.map_cons,List.nodup_append] at hn
  refine j4 hn ?_;clear hn;intro _ h2 h3
  rw [List.nodup_cons] at h2
  refine h.set (by simp) fun p hp=>?_
  rcases List.mem_append.mp hp with hp | hp
  · exact .inr ⟨h3 p.1 (List.mem_map_of_mem hp) a (.head _),List.mem_append.mpr (.inl hp)⟩
  · rcases List.mem_cons.mp hp with rfl | hp
    · exact .inl rfl
    · exact .inr ⟨fun q=>by
        have hm:p.1∈l2.map (·.1):=List.mem_map_of_mem hp
        rw [q] at hm
        exact h2.1 hm,List.mem_append.mpr (.inr (.tail _ hp))⟩
theorem FD {b:Bd} {Q:AV->St->Prop} (h:dq b st) (q:∀ag,dq {b with last:=b.last+1} ag->Q (.int (b.last+1)) ag):Fn C (r+2) (C.ma .ak .bD) [.ref b.B] st Q:=by
  have m:∀p,p∈(dt b).take 12->p∈dt b:=fun p hp=>List.mem_of_mem_take hp
  refine Ag (C.aB .ak .bD _ rfl).2.2.2 rfl ?_
  have e1:st b.B=some (.inst .ak b.dB):=h.get (m _ (by simp [dt]))
  have e2:st b.dB=some (.aD (o3 b)):=h.get (m _ (by simp [dt]))
  have e3:st b.N=some (.inst .aN b.dN):=h.get (m _ (by simp [dt]))
  have e4:st b.dN=some (.aD (cg b.tb b.ti b.op b.last)):=h.get (m _ (by simp [dt]))
  refine Xc (Aq (AU (Aa (El rfl ⟨_,At e1 e2 (by decide) rfl,.aN,_,AK e3 e4,rfl,rfl,En (Bw e3 e4 (q _ ?_))⟩))))
  exact Rep.mid (l1:=(dt b).take 10) (o0:=.aD (cg b.tb b.ti b.op b.last)) (l2:=(b.ti,.dict [])::b.blocks.flatMap ju) h
end Mine
end
section
namespace Mine
variable {C:Cx} {r:Nat} {ρ:Loc} {st:St}
section
variable {b:Bd} (h:dq b st)
include h
theorem dq.gB:st b.B=some (.inst .ak b.dB):=h.get (List.mem_of_mem_take (i:=12) (by simp [dt]))
theorem dq.hF:st b.dB=some (.aD (o3 b)):=h.get (List.mem_of_mem_take (i:=12) (by simp [dt]))
theorem dq.gP:st b.P=some (.inst .aE b.dP):=h.get (List.mem_of_mem_take (i:=12) (by simp [dt]))
theorem dq.yQ:st b.dP=some (.aD [(.dI,.ref b.T),(.dJ,.int b.entry)]):=h.get (List.mem_of_mem_take (i:=12) (by simp [dt]))
theorem dq.gT:st b.T=some (.dict (b.blocks.map fun k=>(k.label,.ref k.a))):=h.get (List.mem_of_mem_take (i:=12) (by simp [dt]))
theorem dq.gW:st b.W=some (.list (b.waiting.map cX)):=h.get (List.mem_of_mem_take (i:=12) (by simp [dt]))
theorem dq.gH:st b.H=some (.list (b.held.map .int)):=h.get (List.mem_of_mem_take (i:=12) (by simp [dt]))
theorem dq.gL:st b.L=some (.list (b.later.map fun x=>.tup [.ref x.1,bT x.2])):=h.get (List.mem_of_mem_take (i:=12) (by simp [dt]))
theorem dq.gO:st b.O=some (.dict (b.other.map fun x=>(x.1,.int x.2))):=h.get (List.mem_of_mem_take (i:=12) (by simp [dt]))
theorem dq.gN:st b.N=some (.inst .aN b.dN):=h.get (List.mem_of_mem_take (i:=12) (by simp [dt]))
theorem dq.Qu:st b.dN=some (.aD (cg b.tb b.ti b.op b.last)):=h.get (List.mem_of_mem_take (i:=12) (by simp [dt]))
theorem dq.Ws:st b.ti=some (.dict []):=h.get (List.mem_of_mem_take (i:=12) (by simp [dt]))
theorem dq.I0 (ws:List gJ):dq {b with waiting:=ws} (st.upd b.W (.list (ws.map cX))):=Rep.mid (l1:=(dt b).take 5) (o0:=.list (b.waiting.map cX)) (l2:=(dt b).drop 6) h
theorem dq.I3 (hs:List Int):dq {b with held:=hs} (st.upd b.H (.list (hs.map .int))):=Rep.mid (l1:=(dt b).take 6) (o0:=.list (b.held.map .int)) (l2:=(dt b).drop 7) h
theorem dq.Lv (os:List (Int×Int)):dq {b with other:=os} (st.upd b.O (.dict (os.map fun x=>(x.1,AV.int x.2)))):=Rep.mid (l1:=(dt b).take 8) (o0:=.dict (b.other.map fun x:Int×Int=>(x.1,AV.int x.2))) (l2:=(dt b).drop 9) h
end
theorem FC {b:Bd} {n:Int} {Q:AV->St->Prop} (h:dq b st) (q:Q (.int ((ae b.other n).getD n)) st):Fn C (r+1) (C.ma .ak .jG) [.ref b.B,.int n] st Q:=by
  refine Ag (C.aB .ak .jG _ rfl).2.2.2 rfl ?_
  have hd:gI st (.ref b.O)=some (b.other.map fun x=>(x.1,AV.int x.2)):=congrArg o4 h.gO
  refine Xc (Aq (IJ (Aa (El rfl ⟨_,At h.gB h.hF (by decide) rfl,⟨_,hd⟩,congrArg kW h.gO,El rfl (El rfl ⟨_,n,rfl,hd,?_⟩)⟩))))
  rw [Ce]
  cases e:ae b.other n with
  | none=>rw [e] at q;exact q
  | some v=>rw [e] at q;exact q
theorem Gr {b:Bd} {t:gJ} {Q:AV->St->Prop} (h:dq b st) (hz:b.waiting.length≤1000000) (q:∀ag,dq {b with waiting:=b.waiting++[t]} ag->Q .none ag) :
    Fn C (r+3) (C.ma .ak .ke) [.ref b.B,.str t.word,(match t.node with | none=>.none | some t=>bT t),.int t.way.i,.lst (t.nums.map .int)] st Q:=by
  refine Ag (C.aB .ak .ke _ rfl).2.2.2 rfl ?_
  refine Xc (Ap (By (Aa (El rfl ⟨_,At h.gB h.hF (by decide) rfl,b.W,_,rfl,h.gW,?_⟩))))
  refine Ax (by decide) rfl (Ec (El rfl (Ec (El rfl (Ec (El rfl (Ec (El rfl (En ?_)))))))))
  refine ⟨_,As,_,h.gW,by rw [List.length_map];exact Zl hz rfl,rfl,Ac (q _ ?_)⟩
  have:=h.I0 (b.waiting++[t])
  rw [List.map_append] at this
  exact this
end Mine
end
section
namespace Mine
variable {C:Cx} {r:Nat} {ρ:Loc} {st:St}
theorem Ee {b:Bd} {ts:List gJ} {Q:AV->St->Prop} (h:dq b st) (hz:b.waiting.length+ts.length≤1000000) (q:∀ag,dq {b with waiting:=b.waiting++ts.reverse} ag->Q .none ag) :
    Fn C (r+1) (C.ma .ak .bK) [.ref b.B,.lst (ts.map cX)] st Q:=by
  refine Ag (C.aB .ak .bK _ rfl).2.2.2 rfl ?_
  refine Xc (wH (Ku (El rfl ⟨ts.map cX,rfl,by rw [List.length_map];exact UC hz,(ts.map cX).reverse,rfl,fun i ρ' ag=>ae ρ' .aj=some (.ref b.B)∧dq {b with waiting:=b.waiting++ts.reverse.take i} ag,?_,?_,?_⟩)))
  · exact ⟨rfl,by simpa using h⟩
  · rintro i ρ' ag hi ⟨h1,h2⟩
    have qo:i<ts.reverse.length:=by simpa using hi
    have e1:(ts.map cX).reverse.getD i .none=cX ts.reverse[i]:=by rw [←List.map_reverse];rw [List.getD_eq_getElem?_getD,List.getElem?_map,List.getElem?_eq_getElem qo];rfl
    rw [e1]
    refine Xc (Ap (By (Aa (El (by rw [Af,if_neg (by decide)];exact h1) ⟨_,At h2.gB h2.hF (by decide) rfl,b.W,_,rfl,h2.gW,El (by rw [Af,if_pos rfl]) ⟨_,h2.gW,?_,rfl,Ac ⟨by rw [Af,if_neg (by decide)];exact h1,?_⟩⟩⟩))))
    · simp at qo ⊢;exact UB hz qo
    · have ht:b.waiting++ts.reverse.take (i+1)=(b.waiting++ts.reverse.take i)++[ts.reverse[i]]:=by rw [List.take_add_one,List.getElem?_eq_getElem qo,List.append_assoc];rfl
      rw [ht]
      have:=h2.I0 ((b.waiting++ts.reverse.take i)++[ts.reverse[i]])
      rw [List.map_append (l₁:=b.waiting++ts.reverse.take i)] at this
      exact this
  · rintro ρ' ag ⟨_,h2⟩
    refine Ac (q ag ?_)
    rwa [List.take_of_length_le (by simp)] at h2
end Mine
end
section
namespace Mine
variable {C:Cx} {r:Nat} {ρ:Loc} {st:St}
theorem EF {Q:Option Int->St->Prop} (h:Q none st):Eo C r none ρ st Q:=h
theorem EE {e:PE} {Q:Option Int->St->Prop} (h:E C r e ρ st (fun a ao=>∃i,a=.int i∧Q (some i) ao)):Eo C r (some e) ρ st Q:=h
theorem Hd {n i:Nat} (h:i≤n):kE n i=i:=by unfold kE;rw [clipAt_nat];exact UA h
theorem Rep.QE {l1 l2:Objs} {p:Addr×bQ} (h:Rep (l1++p::l2) st):Rep (l1++l2) st:=h.sub ((List.Sublist.refl l1).append (List.sublist_cons_self p l2))
theorem tB {hs ts:List Int}:fh ((hs++ts).map .int) (some (hs.length:Int)) none=ts.map .int:=by
  unfold fh
  simp only [Option.elim]
  rw [Hd (by simp)]
  simp [List.take_of_length_le]
theorem tA {hs ts:List Int}:fh ((hs++ts).map .int) none (some (hs.length:Int))=hs.map .int:=by
  unfold fh
  simp only [Option.elim]
  rw [Hd (by simp)]
  simp
theorem FA {b:Bd} {hs ts:List Int} {Q:AV->St->Prop} (h:dq b st) (hh:b.held=hs++ts) (hz:b.held.length≤1000000) (q:∀H ag,dq {b with H:=H,held:=hs} ag->Q (.lst (ts.map .int)) ag) :
    Fn C (r+1) (C.ma .ak .ez) [.ref b.B,.int ts.length] st Q:=by
  refine Ag (C.aB .ak .ez _ rfl).2.2.2 rfl ?_
  have hl:eL st (.ref b.H)=some ((hs++ts).map .int):=(congrArg kW h.gH).trans (congrArg (fun l=>some (List.map AV.int l)) hh)
  have Ms:(hs++ts).length≤1000000:=hh▸hz
  refine Xc (Au (AT (AX (Aa (El rfl ⟨_,At h.gB h.hF (by decide) rfl,⟨_,hl,by rw [List.length_map];exact Ms,(El rfl ⟨_,_,_,rfl,rfl,rfl,?_⟩)⟩⟩)))))
  have e1:(((hs++ts).map AV.int).length:Int)-ts.length=hs.length:=by simp
  rw [e1]
  refine Xc (Au (Bg (Aa (El rfl ⟨_,At h.gB h.hF (by decide) rfl,((show Eo C _ (some (.loc .k6)) _ _ _ from El rfl ⟨_,rfl,⟨_,hl,by rw [List.length_map];exact Ms,?_⟩⟩))⟩))))
  rw [tB]
  refine Xc (BQ (qL (Aa (El rfl ⟨_,At h.gB h.hF (by decide) rfl,?_⟩))))
  refine EF (EE (El rfl ⟨_,rfl,(hs++ts).map .int,hl,by rw [List.length_map];exact Ms,fun H hH=>?_⟩))
  rw [tA]
  have hn:∀a o,st a=some o->a≠H:=fun a o e q=>by rw [q,hH] at e;injection e
  refine El rfl ⟨b.B,_,b.dB,o3 b,rfl,(Aw (hn _ _ h.gB)).trans h.gB,(Aw (hn _ _ h.hF)).trans h.hF,by decide,aw rfl,Xc (Aq (El rfl (q H _ ?_)))⟩
  have r1:Rep ((H,.list (hs.map .int))::dt b) (st.upd H (.list (hs.map .int))):=Rep.new h hH
  have r2:Rep (((H,.list (hs.map .int))::(dt b).take 6)++(dt b).drop 7) (st.upd H (.list (hs.map .int))):=Rep.QE (p:=(b.H,.list (b.held.map .int))) r1
  have r3:=Rep.mid (l1:=[(H,.list (hs.map .int)),(b.B,.inst .ak b.dB)]) (a:=b.dB) (o:=.aD (putK (o3 b) .fM (.ref H))) (o0:=.aD (o3 b)) (l2:=((dt b).drop 2).take 4++(dt b).drop 7) r2
  exact Rep.perm (l:=(H,.list (hs.map .int))::((dt {b with H:=H,held:=hs}).take 6++(dt b).drop 7)) r3 (List.perm_middle (l₁:=(dt {b with H:=H,held:=hs}).take 6))
end Mine
end
section
namespace Mine
variable {C:Cx} {r:Nat} {ρ:Loc} {st:St}
structure KP where
  sort:Nm
  params:List Int
  rest:Int
  var:Int
  dF:Int
  parent:Int
  title:Nm
  ops:List KO
  last:Option KL
structure Cs where
  n:Nat
  entry:Int
  last:Int
  here:Option Int
  waiting:List gJ
  held:List Int
  later:List (Int×Tm)
  other:List (Int×Int)
  blocks:List (Int×KP)
structure Ad where
  B:Addr
  dB:Addr
  P:Addr
  dP:Addr
  T:Addr
  W:Addr
  H:Addr
  L:Addr
  O:Addr
  N:Addr
  dN:Addr
  tb:Addr
  ti:Addr
  op:Addr
  bu:Int->Addr×Addr×Addr
noncomputable def bH (x:Addr×Addr×Addr) (l:Int) (k:KP):Bk:=⟨x.1,x.2.1,x.2.2,l,k.sort,k.params,k.rest,k.var,k.dF,k.parent,k.title,k.ops,k.last⟩
noncomputable def aX (A:Ad) (s:Cs):Bd:={B:=A.B,dB:=A.dB,P:=A.P,dP:=A.dP,T:=A.T,W:=A.W,H:=A.H,L:=A.L,O:=A.O,N:=A.N,dN:=A.dN,tb:=A.tb,ti:=A.ti,op:=A.op,entry:=s.entry,last:=s.last,here:=s.here.map fun l=>(A.bu l).1,waiting:=s.waiting,held:=s.held,later:=s.later.map fun x=>((A.bu x.1).1,x.2),other:=s.other,blocks:=s.blocks.map fun x=>bH (A.bu x.1) x.1 x.2}
structure Wf (s:Cs):Prop where
  blocks:∀x∈s.blocks,x.1≤s.last
  here:∀l,s.here=some l->(ae s.blocks l).isSome
  ie:∀l k,ae s.blocks l=some k->(ae s.blocks k.dF).isSome
  later:∀x∈s.later,x.1≤s.last
  nw:s.waiting.length≤s.n
  nh:s.held.length≤s.n
  nl:s.later.length≤s.n
  no:s.other.length≤s.n
  nb:s.blocks.length≤s.n
  np:∀x∈s.blocks,x.2.ops.length≤s.n
structure BR (A:Ad) (s:Cs) (st:St):Prop where
  rep:dq (aX A s) st
  wf:Wf s
structure Le (A A':Ad) (n:Int):Prop where
  B:A'.B=A.B
  P:A'.P=A.P
  bu:∀l,l≤n->A'.bu l=A.bu l
theorem Le.refl (A:Ad) (n:Int):Le A A n:=⟨rfl,rfl,fun _ _=>rfl⟩
theorem Le.trans {A A' Xv:Ad} {n n':Int} (x:Le A A' n) (y:Le A' Xv n') (h:n≤n'):Le A Xv n:=⟨y.B.trans x.B,y.P.trans x.P,fun l hl=>(y.bu l (by exact Int.le_trans hl h)).trans (x.bu l hl)⟩
theorem CP {α β:Type} [DecidableEq α] {l:List (α×β)} {k:α} {v:β} (h:ae l k=some v):(k,v)∈l:=by
  induction l with
  | nil=>subst h
  | cons e l ih=>
    obtain ⟨x,u⟩:=e
    rw [Am] at h
    split at h
    · rename_i q;subst q;subst h;exact .head _
    · exact .tail _ (ih h)
theorem Wf.le {s:Cs} {l:Int} {k:KP} (h:Wf s) (e:ae s.blocks l=some k):l≤s.last:=h.blocks _ (CP e)
theorem Wf.hle {s:Cs} {l:Int} (h:Wf s) (e:s.here=some l):l≤s.last:=by
  refine xE (Option.isSome_iff_exists.mp (h.here l e)) fun k e=>?_;exact h.le e
theorem BR.bk {A:Ad} {s:Cs} {l:Int} {k:KP} (h:BR A s st) (hb:ae s.blocks l=some k):ju (bH (A.bu l) l k) ⊆ dt (aX A s):=by
  intro p hp
  refine List.mem_append_right _ (List.mem_flatMap.mpr ⟨_,List.mem_map.mpr ⟨(l,k),CP hb,rfl⟩,hp⟩)
theorem BR.k1 {A:Ad} {s:Cs} {l:Int} {k:KP} (h:BR A s st) (hb:ae s.blocks l=some k):st (A.bu l).1=some (.inst .aS (A.bu l).2.1):=h.rep.get (h.bk hb (by simp [ju,bH]))
theorem BR.k2 {A:Ad} {s:Cs} {l:Int} {k:KP} (h:BR A s st) (hb:ae s.blocks l=some k):st (A.bu l).2.1=some (.aD (nE (bH (A.bu l) l k))):=h.rep.get (h.bk hb (by simp [ju,bH]))
theorem BR.k3 {A:Ad} {s:Cs} {l:Int} {k:KP} (h:BR A s st) (hb:ae s.blocks l=some k):st (A.bu l).2.2=some (.list (k.ops.map kP)):=h.rep.get (h.bk hb (by simp [ju,bH]))
theorem BR.split {A:Ad} {s:Cs} {l:Int} {k:KP} (h:BR A s st) (hb:ae s.blocks l=some k):∃b1 b2,s.blocks=b1++(l,k)::b2∧(∀x∈b1,x.1≠l)∧∀x∈b2,x.1≠l:=by
  refine xk (List.append_of_mem (CP hb)) fun b1 b2 e=>?_
  have hn:((s.blocks.map fun x=>bH (A.bu x.1) x.1 x.2).flatMap ju |>.map (·.1)).Nodup:=by
    have:=h.rep.nodup
    unfold dt at this
    rw [List.map_append] at this
    exact (List.nodup_append.mp this).2.1
  rw [e,List.map_append,List.map_cons,List.flatMap_append,List.flatMap_cons,List.map_append,List.nodup_append] at hn
  refine j4 hn ?_;clear hn;intro _ h2 h3
  rw [List.map_append,List.nodup_append] at h2
  have mem:∀{b:List (Int×KP)} {x:Int×KP},x∈b->(A.bu x.1).1∈((b.map fun x=>bH (A.bu x.1) x.1 x.2).flatMap ju).map (·.1):=fun {b x} hx=>
    List.mem_map.mpr ⟨((A.bu x.1).1,.inst .aS (A.bu x.1).2.1),List.mem_flatMap.mpr ⟨_,List.mem_map.mpr ⟨x,hx,rfl⟩,by simp [ju,bH]⟩,rfl⟩
  have own:(A.bu l).1∈(ju (bH (A.bu l) l k)).map (·.1):=by simp [ju,bH]
  refine ⟨b1,b2,e,fun x hx q=>?_,fun x hx q=>?_⟩
  · refine h3 _ (mem hx) (A.bu l).1 ?_ (by rw [q])
    rw [List.map_append]
    exact List.mem_append_left _ own
  · exact h2.2.2 _ own _ (mem hx) (by rw [q])
theorem Di {β:Type} {b1 b2:List (Int×β)} {l:Int} {k k':β} (h1:∀x∈b1,x.1≠l) (h2:∀x∈b2,x.1≠l):putK (b1++(l,k)::b2) l k'=b1++(l,k')::b2:=by
  unfold putK
  have m:∀{b:List (Int×β)},(∀x∈b,x.1≠l)->b.map (fun kv=>if kv.1=l then (kv.1,k') else kv)=b:=fun {b} h=>by
    conv=>rhs;rw [←List.map_id b]
    exact List.map_congr_left fun x hx=>if_neg (h x hx)
  rw [if_pos (by simp),List.map_append,List.map_cons,m h1,m h2]
  simp
theorem Da (b:Bd):dt b=(dt b).take 12++b.blocks.flatMap ju:=rfl
theorem BR.I2 {A:Ad} {s:Cs} {l:Int} {k:KP} {n:Nat} (h:BR A s st) (hb:ae s.blocks l=some k) (ops:List KO):dq (aX A {s with n:=n,blocks:=putK s.blocks l {k with ops:=ops}}) (st.upd (A.bu l).2.2 (.list (ops.map kP))):=by
  refine bS (h.split hb) fun b1 b2 e h1 h2=>?_
  have e2:putK s.blocks l {k with ops:=ops}=b1++(l,{k with ops:=ops})::b2:=by rw [e];exact Di h1 h2
  obtain ⟨hr,hw⟩:=h
  rw [e2]
  · have hT:dt (aX A s)=((dt (aX A s)).take 12++(b1.map fun x=>bH (A.bu x.1) x.1 x.2).flatMap ju++[((A.bu l).1,bQ.inst .aS (A.bu l).2.1),((A.bu l).2.1,.aD (nE (bH (A.bu l) l k)))])++((A.bu l).2.2,.list (k.ops.map kP))::(b2.map fun x=>bH (A.bu x.1) x.1 x.2).flatMap ju:=by
      rw [Da (aX A s),show (aX A s).blocks=s.blocks.map fun x=>bH (A.bu x.1) x.1 x.2 from rfl]
      rw [e,List.map_append,List.map_cons,List.flatMap_append,List.flatMap_cons]
      simp only [List.append_assoc,List.cons_append,List.nil_append]
      simp [dt,ju,bH]
    unfold dq at hr
    rw [hT] at hr
    have:=Rep.mid (o:=.list (ops.map kP)) hr
    have Qk:dt (aX A {s with n:=n,blocks:=b1++(l,{k with ops:=ops})::b2})=((dt (aX A s)).take 12++(b1.map fun x=>bH (A.bu x.1) x.1 x.2).flatMap ju++[((A.bu l).1,bQ.inst .aS (A.bu l).2.1),((A.bu l).2.1,.aD (nE (bH (A.bu l) l k)))])++((A.bu l).2.2,.list (ops.map kP))::(b2.map fun x=>bH (A.bu x.1) x.1 x.2).flatMap ju:=by
      rw [Da (aX A {s with n:=n,blocks:=b1++(l,{k with ops:=ops})::b2}),show (aX A {s with n:=n,blocks:=b1++(l,{k with ops:=ops})::b2}).blocks=(b1++(l,{k with ops:=ops})::b2).map fun x=>bH (A.bu x.1) x.1 x.2 from rfl]
      rw [List.map_append,List.map_cons,List.flatMap_append,List.flatMap_cons]
      simp only [List.append_assoc]
      have t:(dt (aX A s)).take 12=(dt (aX A {s with n:=n,blocks:=b1++(l,{k with ops:=ops})::b2})).take 12:=by
        simp [dt,aX,o3,e,bH]
      rw [t]
      rfl
    unfold dq
    rw [Qk]
    exact this
theorem BR.xK {A:Ad} {s:Cs} {l:Int} {k:KP} (h:BR A s st) (hb:ae s.blocks l=some k) (la:Option KL):dq (aX A {s with blocks:=putK s.blocks l {k with last:=la}}) (st.upd (A.bu l).2.1 (.aD (putK (nE (bH (A.bu l) l k)) .bw (oy la)))):=by
  refine bS (h.split hb) fun b1 b2 e h1 h2=>?_
  have e2:putK s.blocks l {k with last:=la}=b1++(l,{k with last:=la})::b2:=by rw [e];exact Di h1 h2
  obtain ⟨hr,hw⟩:=h
  rw [e2]
  · have hT:dt (aX A s)=((dt (aX A s)).take 12++(b1.map fun x=>bH (A.bu x.1) x.1 x.2).flatMap ju++[((A.bu l).1,bQ.inst .aS (A.bu l).2.1)])++((A.bu l).2.1,.aD (nE (bH (A.bu l) l k)))::((A.bu l).2.2,.list (k.ops.map kP))::(b2.map fun x=>bH (A.bu x.1) x.1 x.2).flatMap ju:=by
      rw [Da (aX A s),show (aX A s).blocks=s.blocks.map fun x=>bH (A.bu x.1) x.1 x.2 from rfl]
      rw [e,List.map_append,List.map_cons,List.flatMap_append,List.flatMap_cons]
      simp only [List.append_assoc,List.cons_append,List.nil_append]
      simp [dt,ju,bH]
    unfold dq at hr
    rw [hT] at hr
    have:=Rep.mid (o:=.aD (putK (nE (bH (A.bu l) l k)) .bw (oy la))) hr
    have Qk:dt (aX A {s with blocks:=b1++(l,{k with last:=la})::b2})=((dt (aX A s)).take 12++(b1.map fun x=>bH (A.bu x.1) x.1 x.2).flatMap ju++[((A.bu l).1,bQ.inst .aS (A.bu l).2.1)])++((A.bu l).2.1,.aD (putK (nE (bH (A.bu l) l k)) .bw (oy la)))::((A.bu l).2.2,.list (k.ops.map kP))::(b2.map fun x=>bH (A.bu x.1) x.1 x.2).flatMap ju:=by
      rw [Da (aX A {s with blocks:=b1++(l,{k with last:=la})::b2}),show (aX A {s with blocks:=b1++(l,{k with last:=la})::b2}).blocks=(b1++(l,{k with last:=la})::b2).map fun x=>bH (A.bu x.1) x.1 x.2 from rfl]
      rw [List.map_append,List.map_cons,List.flatMap_append,List.flatMap_cons]
      simp only [List.append_assoc]
      have t:(dt (aX A s)).take 12=(dt (aX A {s with blocks:=b1++(l,{k with last:=la})::b2})).take 12:=by
        simp [dt,aX,o3,e,bH]
      rw [t]
      rfl
    unfold dq
    rw [Qk]
    exact this
noncomputable def jo (bs:List (Int×KP)) (l:Int) (f:KP->KP):List (Int×KP):=bs.map fun x=>if x.1=l then (x.1,f x.2) else x
theorem Cd (bs:List (Int×KP)) (l:Int) (f:KP->KP) (i:Int):ae (jo bs l f) i=if i=l then (ae bs i).map f else ae bs i:=by
  induction bs with
  | nil=>unfold jo;rw [List.map_nil,Cc];split<;>rfl
  | cons e bs ih=>
    obtain ⟨x,v⟩:=e
    unfold jo at ih ⊢
    rw [List.map_cons]
    by_cases h:x=l
    · simp only [h,if_true,Am,ih]
      by_cases q:i=l
      · subst q;simp
      · rw [if_neg q,if_neg (Ne.symm q),if_neg q,if_neg (Ne.symm q)]
    · simp only [h,if_false,Am,ih]
      by_cases q:x=i
      · subst q;simp [h]
      · simp [q]
theorem GJ (bs:List (Int×KP)) (l:Int) (f:KP->KP):(jo bs l f).length=bs.length:=List.length_map ..
noncomputable def ig (s:Cs):Int:=s.here.getD 0
noncomputable def cT (s:Cs):Cs:={s with last:=s.last+1}
noncomputable def bO (op:KO) (s:Cs):Cs:={s with n:=s.n+1,blocks:=jo s.blocks (ig s) fun k=>{k with ops:=k.ops++[op]}}
noncomputable def cK (la:KL) (s:Cs):Cs:={s with blocks:=jo s.blocks (ig s) fun k=>{k with last:=some la}}
noncomputable def qp (x:Int) (s:Cs):Cs:={s with n:=s.n+1,held:=s.held++[x]}
noncomputable def pushS (ts:List gJ) (s:Cs):Cs:={s with n:=s.n+ts.length,waiting:=s.waiting++ts.reverse}
noncomputable def kg (s:Cs):Int:=((ae s.blocks (ig s)).map (·.dF)).getD 0
noncomputable def d7 (s:Cs):Int:=((ae s.blocks (kg s)).map (·.var)).getD 0
noncomputable def cq:Way->Int->Cs->Cs
  | .val,x,s=>qp x s
  | .cj,_,s=>s
  | .tail,x,s=>cK (.give (d7 s) [x]) s
noncomputable def jb (c:CV) (s:Cs):Cs:=bO (.cst (s.last+1) c) (cT s)
noncomputable def ip (l:Int) (k:KP) (s:Cs):Cs:={s with n:=s.n+1,blocks:=s.blocks++[(l,k)]}
noncomputable def aO (ps:List Int) (rest:Int) (s:Cs):Cs:=ip (s.last+1) ⟨.cw,ps,rest,-1,kg s,ig s,.b4,[],none⟩ (cT s)
noncomputable def lQ (l:Int) (t:Tm) (s:Cs):Cs:={s with n:=s.n+1,later:=s.later++[(l,t)]}
noncomputable def jt (ps:List Int) (t:Tm) (s:Cs):Cs:=lQ (s.last+1) t (ip (s.last+1) ⟨.aR,ps,-1,s.last+2,s.last+1,ig s,.b4,[],none⟩ (cT (cT s)))
noncomputable def gQ (n x:Int) (s:Cs):Cs:={s with n:=s.n+1,other:=putK s.other n x}
theorem Ei {bs:List (Int×KP)} {l:Int} {f:KP->KP} {i:Int} (h:(ae bs i).isSome):(ae (jo bs l f) i).isSome:=by
  rw [Cd]
  split
  · rw [Option.isSome_map];exact h
  · exact h
theorem Wf.mod {s:Cs} {l:Int} {f:KP->KP} {n:Nat} (h:Wf s) (hn:s.n≤n) (h1:∀k,(f k).dF=k.dF) (h2:∀k,k.ops.length≤s.n->(f k).ops.length≤n):Wf {s with n:=n,blocks:=jo s.blocks l f}:=by
  have mem:∀x∈jo s.blocks l f,∃y∈s.blocks,x.1=y.1∧(x.2=y.2∨x.2=f y.2):=fun x hx=>by
    refine bq (List.mem_map.mp hx) fun y hy mE=>?_;subst mE
    refine ⟨y,hy,?_⟩
    split
    · exact ⟨rfl,.inr rfl⟩
    · exact ⟨rfl,.inl rfl⟩
  refine ⟨fun x hx=>?_,fun i e=>Ei (h.here i e),fun i k e=>?_,h.later,Nat.le_trans h.nw hn,Nat.le_trans h.nh hn,Nat.le_trans h.nl hn,Nat.le_trans h.no hn,?_,fun x hx=>?_⟩
  · refine dR (mem x hx) fun y hy e _=>?_;rw [e];exact h.blocks y hy
  · refine Ei ?_
    rw [Cd] at e
    split at e
    · refine bq (Option.map_eq_some_iff.mp e) fun k' e' mE=>?_;subst mE
      rw [h1];exact h.ie _ _ e'
    · exact h.ie _ _ e
  · show (jo _ _ _).length≤n
    rw [GJ];exact Nat.le_trans h.nb hn
  · obtain ⟨y,hy,_,e | e⟩:=mem x hx
    · rw [e];exact Nat.le_trans (h.np y hy) hn
    · rw [e];exact h2 _ (h.np y hy)
theorem GH {A:Ad} {s:Cs} {l:Int} {k:KP} {f:KP->KP} (h:BR A s st) (hb:ae s.blocks l=some k):putK s.blocks l (f k)=jo s.blocks l f:=by
  refine bS (h.split hb) fun b1 b2 e h1 h2=>?_
  rw [e,Di h1 h2]
  unfold jo
  have m:∀{b:List (Int×KP)},(∀x∈b,x.1≠l)->b.map (fun kv=>if kv.1=l then (kv.1,f kv.2) else kv)=b:=fun {b} h=>by
    conv=>rhs;rw [←List.map_id b]
    exact List.map_congr_left fun x hx=>if_neg (h x hx)
  rw [List.map_append,List.map_cons,m h1,m h2]
  simp
theorem Bf {s:Cs} {l:Int} (h:s.here=some l):ig s=l:=by unfold ig;rw [h];rfl
theorem BR.emit {A:Ad} {s:Cs} {l:Int} {k:KP} (h:BR A s st) (hh:s.here=some l) (hb:ae s.blocks l=some k) (op:KO):BR A (bO op s) (st.upd (A.bu l).2.2 (.list (k.ops.map kP++[kP op]))):=by
  have h1:=h.I2 (n:=s.n+1) hb (k.ops++[op])
  rw [GH (f:=fun k=>{k with ops:=k.ops++[op]}) h hb,List.map_append] at h1
  unfold bO
  rw [Bf hh]
  exact ⟨h1,h.wf.mod (by exact Nat.le_add_right _ _) (fun _=>rfl) fun k hk=>by simp;exact hk⟩
theorem BR.last {A:Ad} {s:Cs} {l:Int} {k:KP} (h:BR A s st) (hh:s.here=some l) (hb:ae s.blocks l=some k) (la:KL):BR A (cK la s) (st.upd (A.bu l).2.1 (.aD (putK (nE (bH (A.bu l) l k)) .bw (qk la)))):=by
  have h1:=h.xK hb (some la)
  rw [GH (f:=fun k=>{k with last:=some la}) h hb] at h1
  unfold cK
  rw [Bf hh]
  exact ⟨h1,h.wf.mod (Nat.le_refl _) (fun _=>rfl) fun k hk=>hk⟩
theorem Wf.fr {s:Cs} (h:Wf s):Wf (cT s):=⟨fun x hx=>by have:=h.blocks x hx;show _≤s.last+1;exact Int.le_add_one this,h.here,h.ie,fun x hx=>by have:=h.later x hx;show _≤s.last+1;exact Int.le_add_one this,h.nw,h.nh,h.nl,h.no,h.nb,h.np⟩
theorem Wf.held {s:Cs} {hs:List Int} {n:Nat} (h:Wf s) (hn:s.n≤n) (hz:hs.length≤n):Wf {s with n:=n,held:=hs}:=⟨h.blocks,h.here,h.ie,h.later,Nat.le_trans h.nw hn,hz,Nat.le_trans h.nl hn,Nat.le_trans h.no hn,Nat.le_trans h.nb hn,fun x hx=>Nat.le_trans (h.np x hx) hn⟩
theorem Wf.waiting {s:Cs} {ws:List gJ} {n:Nat} (h:Wf s) (hn:s.n≤n) (hz:ws.length≤n):Wf {s with n:=n,waiting:=ws}:=⟨h.blocks,h.here,h.ie,h.later,hz,Nat.le_trans h.nh hn,Nat.le_trans h.nl hn,Nat.le_trans h.no hn,Nat.le_trans h.nb hn,fun x hx=>Nat.le_trans (h.np x hx) hn⟩
theorem Wf.other {s:Cs} {os:List (Int×Int)} {n:Nat} (h:Wf s) (hn:s.n≤n) (hz:os.length≤n):Wf {s with n:=n,other:=os}:=⟨h.blocks,h.here,h.ie,h.later,Nat.le_trans h.nw hn,Nat.le_trans h.nh hn,Nat.le_trans h.nl hn,hz,Nat.le_trans h.nb hn,fun x hx=>Nat.le_trans (h.np x hx) hn⟩
theorem Wf.uM {s:Cs} {ls:List (Int×Tm)} {n:Nat} (h:Wf s) (hn:s.n≤n) (hz:ls.length≤n) (hl:∀x∈ls,x.1≤s.last):Wf {s with n:=n,later:=ls}:=⟨h.blocks,h.here,h.ie,hl,Nat.le_trans h.nw hn,Nat.le_trans h.nh hn,hz,Nat.le_trans h.no hn,Nat.le_trans h.nb hn,fun x hx=>Nat.le_trans (h.np x hx) hn⟩
theorem Bp {bs:List (Int×KP)} {l i:Int} {k:KP} (h:ae bs l=none):ae (bs++[(l,k)]) i=if i=l then some k else ae bs i:=by
  rw [Ej,Am,Cc]
  by_cases q:i=l
  · subst q;simp [h]
  · rw [if_neg (Ne.symm q),if_neg q,Option.or_none]
theorem Wf.none {s:Cs} {l:Int} (h:Wf s) (hl:s.last<l):ae s.blocks l=.none:=by
  cases e:ae s.blocks l with
  | none=>rfl
  | some k=>have:=h.le e;exact absurd hl (Int.not_lt.mpr this)
theorem Wf.add {s:Cs} {l:Int} {k:KP} (h:Wf s) (hl:l≤s.last) (hn:ae s.blocks l=.none) (h1:k.dF=l∨(ae s.blocks k.dF).isSome) (hk:k.ops=[]):Wf (ip l k s):=by
  have up:∀i,(ae s.blocks i).isSome->(ae (ip l k s).blocks i).isSome:=fun i hi=>by
    show (ae (s.blocks++[(l,k)]) i).isSome
    rw [Bp hn];split
    · rfl
    · exact hi
  refine ⟨fun x hx=>?_,fun i e=>up i (h.here i e),fun i k' e=>?_,h.later,Nat.le_succ_of_le h.nw,Nat.le_succ_of_le h.nh,Nat.le_succ_of_le h.nl,Nat.le_succ_of_le h.no,?_,fun x hx=>?_⟩
  · rcases List.mem_append.mp hx with hx | hx
    · exact h.blocks x hx
    · rw [List.mem_singleton] at hx;subst hx;exact hl
  · have e':(if i=l then some k else ae s.blocks i)=some k':=by rw [←Bp hn];exact e
    split at e'
    · subst e'
      rcases h1 with h1 | h1
      · show (ae (s.blocks++[(l,k)]) k.dF).isSome
        rw [Bp hn,if_pos h1];rfl
      · exact up _ h1
    · exact up _ (h.ie i k' e')
  · show (s.blocks++[(l,k)]).length≤s.n+1
    have:=h.nb
    simp;exact this
  · rcases List.mem_append.mp hx with hx | hx
    · exact Nat.le_succ_of_le (h.np x hx)
    · rw [List.mem_singleton] at hx;subst hx
      show k.ops.length≤_
      rw [hk];exact Nat.zero_le _
end Mine
end
section
namespace Mine
variable {C:Cx} {r:Nat} {ρ:Loc} {st:St} {A:Ad} {s:Cs}
theorem BH {Q:AV->St->Prop} (h:BR A s st) (q:∀ag,BR A (cT s) ag->Q (.int (s.last+1)) ag):Fn C (r+2) (C.ma .ak .bD) [.ref A.B] st Q:=
  FD (b:=aX A s) h.rep fun ag h'=>q ag ⟨h',h.wf.fr⟩
theorem zG {n:Int} {Q:AV->St->Prop} (h:BR A s st) (q:Q (.int ((ae s.other n).getD n)) st):Fn C (r+1) (C.ma .ak .jG) [.ref A.B,.int n] st Q:=
  FC (b:=aX A s) h.rep q
theorem xc {t:gJ} {Q:AV->St->Prop} (h:BR A s st) (hn:s.n≤100000) (q:∀ag,BR A (pushS [t] s) ag->Q .none ag) :
    Fn C (r+3) (C.ma .ak .ke) [.ref A.B,.str t.word,(match t.node with | none=>.none | some t=>bT t),.int t.way.i,.lst (t.nums.map .int)] st Q:=
  Gr (b:=aX A s) h.rep (by have:=h.wf.nw;show s.waiting.length≤_;exact Zl (Nat.le_trans this hn) rfl) fun ag h'=>q ag ⟨h',h.wf.waiting (Nat.le_succ _) (by have:=h.wf.nw;show (s.waiting++[t]).length≤_;simp;exact this)⟩
theorem Fp {ts:List gJ} {Q:AV->St->Prop} (h:BR A s st) (hn:s.n≤100000) (hz:ts.length≤1000) (q:∀ag,BR A (pushS ts s) ag->Q .none ag) :
    Fn C (r+1) (C.ma .ak .bK) [.ref A.B,.lst (ts.map cX)] st Q:=
  Ee (b:=aX A s) h.rep (by have:=h.wf.nw;show s.waiting.length+_≤_;exact Uz hz hn this) fun ag h'=>q ag ⟨h',h.wf.waiting (Nat.le_add_right ..) (by have:=h.wf.nw;show (s.waiting++ts.reverse).length≤_;simp;exact this)⟩
theorem zF {hs ts:List Int} {Q:AV->St->Prop} (h:BR A s st) (hh:s.held=hs++ts) (hn:s.n≤100000) (q:∀A' ag,Le A A' s.last->BR A' {s with held:=hs} ag->Q (.lst (ts.map .int)) ag) :
    Fn C (r+1) (C.ma .ak .ez) [.ref A.B,.int ts.length] st Q:=by
  have hl:=h.wf.nh
  refine FA (b:=aX A s) h.rep hh (by show s.held.length≤_;exact Zl (Nat.le_trans hl hn) rfl) fun H ag h'=>q {A with H:=H} ag ⟨rfl,rfl,fun _ _=>rfl⟩ ⟨h',h.wf.held (Nat.le_refl _) ?_⟩
  rw [hh] at hl;simp at hl;exact Uy hl
theorem BR.M9 {l:Int} (hh:s.here=some l):ae (o3 (aX A s)) .cH=some (.ref (A.bu l).1):=by
  show some (Io (s.here.map fun l=>(A.bu l).1))=_
  rw [hh];rfl
theorem Du {e:PE} {l:Int} {Q:AV->St->Prop} (h:BR A s st) (hh:s.here=some l) (he:∀{Q:AV->St->Prop},Q (.ref A.B) st->E C r e ρ st Q) (q:Q (.ref (A.bu l).1) st):E C r (.attr e .cH) ρ st Q:=
  Aa (he ⟨_,At h.rep.gB h.rep.hF (by decide) (BR.M9 hh),q⟩)
theorem BR.gc {l:Int} {k:KP} {n:Nm} {v:AV} (h:BR A s st) (hb:ae s.blocks l=some k) (hn:n∈iq .aS) (hv:ae (nE (bH (A.bu l) l k)) n=some v):gp st (.ref (A.bu l).1) n=some v:=At (h.k1 hb) (h.k2 hb) hn hv
theorem BR.mU {l:Int} (h:BR A s st) (hh:s.here=some l):∃k,ae s.blocks l=some k:=Option.isSome_iff_exists.mp (h.wf.here l hh)
theorem Fr {op:KO} {l:Int} {Q:AV->St->Prop} (h:BR A s st) (hh:s.here=some l) (hn:s.n≤100000) (q:∀ag,BR A (bO op s) ag->Q .none ag) :
    Fn C (r+1) (C.ma .ak .iA) [.ref A.B,kP op] st Q:=by
  refine xE (h.mU hh) fun k hb=>?_
  refine Ag (C.aB .ak .iA _ rfl).2.2.2 rfl ?_
  refine Xc (Ap (By (Aa (Du h hh (fun q=>El rfl q) ⟨.ref (A.bu l).2.2,h.gc hb (by decide) rfl,_,_,rfl,h.k3 hb,El rfl ⟨_,h.k3 hb,?_,rfl,Ac (q _ (h.emit hh hb op))⟩⟩))))
  have:=h.wf.np _ (CP hb)
  simp at this ⊢;exact Zl (Nat.le_trans this hn) rfl
theorem J5 (bs:List (Int×KP)) (l:Int):ae (bs.map ((fun k:Bk=>(k.label,AV.ref k.a))∘fun x:Int×KP=>bH (A.bu x.1) x.1 x.2)) l=(ae bs l).map fun _=>.ref (A.bu l).1:=by
  induction bs with
  | nil=>rfl
  | cons e bs ih=>
    obtain ⟨x,v⟩:=e
    rw [List.map_cons,Am,ih,Am]
    show (if x=l then some (AV.ref (A.bu x).1) else _)=_
    by_cases q:x=l
    · rw [if_pos q,if_pos q,q];rfl
    · rw [if_neg q,if_neg q]
theorem qJ {l:Int} {k:KP} {Q:AV->St->Prop} (h:BR A s st) (hb:ae s.blocks l=some k) (q:Q (.ref (A.bu l).1) st):Fn C (r+1) (C.ma .aE .aq) [.ref A.P,.int l] st Q:=by
  refine Ag (C.aB .aE .aq _ rfl).2.2.2 rfl ?_
  refine Xc (Aq (Ai (Aa (El rfl ⟨_,At h.rep.gP h.rep.yQ (by decide) rfl,El rfl ⟨.ref (A.bu l).1,uV h.rep.gT ?_,q⟩⟩))))
  show ae ((s.blocks.map fun x=>bH (A.bu x.1) x.1 x.2).map fun k=>(k.label,AV.ref k.a)) l=_
  rw [List.map_map]
  exact (J5 s.blocks l).trans (congrArg _ hb)
theorem C6 {l:Int} {k:KP} (hh:s.here=some l) (hb:ae s.blocks l=some k):kg s=k.dF:=by unfold kg;rw [Bf hh,hb];rfl
theorem Fq {l:Int} {Q:AV->St->Prop} (h:BR A s st) (hh:s.here=some l) (q:Q (.int (d7 s)) st):Fn C (r+2) (C.ma .ak .fL) [.ref A.B] st Q:=by
  refine xE (h.mU hh) fun k hb=>?_
  refine xE (Option.isSome_iff_exists.mp (h.wf.ie l k hb)) fun k' yJ=>?_
  refine Ag (C.aB .ak .fL _ rfl).2.2.2 rfl ?_
  refine Xc (Aq (Aa (AU (Aa (El rfl ⟨_,At h.rep.gB h.rep.hF (by decide) rfl,.aE,_,AK h.rep.gP h.rep.yQ,rfl,rfl,Ec (Aa (Du h hh (fun q=>El rfl q) ⟨.int k.dF,h.gc hb (by decide) rfl,En (qJ h yJ ⟨.int k'.var,h.gc yJ (by decide) rfl,?_⟩)⟩))⟩)))))
  have:d7 s=k'.var:=by unfold d7;rw [C6 hh hb,yJ];rfl
  rw [←this];exact q
theorem xd {c:CV} {l:Int} {Q:AV->St->Prop} (h:BR A s st) (hh:s.here=some l) (hn:s.n≤100000) (q:∀ag,BR A (jb c s) ag->Q (.int (s.last+1)) ag):Fn C (r+4) (C.ma .ak .jk) [.ref A.B,c.A] st Q:=by
  refine Ag (C.aB .ak .jk _ rfl).2.2.2 rfl ?_
  refine Xc (Au (AU (El rfl ⟨_,_,AK h.rep.gB h.rep.hF,rfl,rfl,En (BH h fun ao h1=>?_)⟩)))
  refine Xc (Ap (AU (El rfl ⟨_,_,AK h1.rep.gB h1.rep.hF,rfl,rfl,Ec (Aj rfl (Ec (El rfl (Ec (El rfl (En (vV.mono fun x bg ⟨e1,e2⟩=>?_)))))))⟩)))
  subst e1;subst e2
  refine En ((Fr (r:=r+2) (op:=.cst (s.last+1) c) h1 hh hn fun eJ h3=>⟨rfl,?_⟩))
  exact BS rfl (q _ h3)
theorem Co {w:Way} {x l:Int} {Q:AV->St->Prop} (h:BR A s st) (hh:s.here=some l) (hn:s.n≤100000) (q:∀ag,BR A (cq w x s) ag->Q .none ag):Fn C (r+4) (C.ma .ak .dw) [.ref A.B,.int w.i,.int x] st Q:=by
  refine xE (h.mU hh) fun k hb=>?_
  refine Ag (C.aB .ak .dw _ rfl).2.2.2 rfl ?_
  cases w with
  | val=>
    refine AH rfl ?_
    refine Xc (Ap (By (Aa (El rfl ⟨_,At h.rep.gB h.rep.hF (by decide) rfl,_,_,rfl,h.rep.gH,El rfl ⟨_,h.rep.gH,?_,rfl,Ac (Ac (q _ ?_))⟩⟩))))
    · have:=h.wf.nh
      show (s.held.map _).length≤_
      simp;exact Zl (Nat.le_trans this hn) rfl
    · have h1:=h.rep.I3 (s.held++[x])
      rw [List.map_append] at h1
      exact ⟨h1,h.wf.held (Nat.le_succ _) (by have:=h.wf.nh;simp;exact this)⟩
  | cj=>
    refine ef rfl (Av rfl ?_)
    exact Ac (Ac (q _ h))
  | tail=>
    refine ef rfl (AH rfl (Xc (BQ (Aj rfl (Ec ?_)))))
    refine AU (El rfl ⟨_,_,AK h.rep.gB h.rep.hF,rfl,rfl,En (Fq (r:=r+1) h hh ?_)⟩)
    refine Ec (Ah (Ec (El rfl (En ⟨aw rfl,(En ?_)⟩))))
    refine (B9 (as:=[x]) (aw rfl)).mono fun v ag ⟨e1,e2⟩=>?_
    subst e1;subst e2
    refine Du h hh (fun q=>El rfl q) ⟨_,.aS,_,_,rfl,h.k1 hb,h.k2 hb,by decide,aw rfl,Ac (Ac (Ac (q _ (h.last hh hb _))))⟩
end Mine
end
section
namespace Mine
variable {C:Cx} {r:Nat} {ρ:Loc} {st:St} {A:Ad} {s:Cs}
theorem yk {a d o:Addr} {c:Nm} {fs:List (Nm×AV)} {x:bQ} (h1:o≠a) (h2:o≠d):(cf st a d c fs).upd o x=cf (st.upd o x) a d c fs:=by
  funext b;unfold cf St.upd
  by_cases q:b=o
  · subst q;simp [h1,h2]
  · simp [q]
theorem ui {a d o:Addr} {c:Nm} {fs:List (Nm×AV)} (h:cf st a d c fs o=none):o≠a∧o≠d∧st o=none:=by
  unfold cf St.upd at h
  split at h
  · injection h
  · split at h
    · injection h
    · rename_i q1 q2;exact ⟨q1,q2,h⟩
noncomputable def kb (sort:Nm) (ps:List Int) (rest l:Int):KP:=⟨sort,ps,rest,-1,l,-1,.b4,[],none⟩
theorem Fm {as:List PE} {Q:AV->St->Prop} (h:Es C (r+2) as ρ st (fun avs ao=>∃l sort ps rest,avs=[.int l,.str sort,.lst (ps.map .int),.int rest]∧∀x:Addr×Addr×Addr,x.1≠x.2.1->x.2.2≠x.1->x.2.2≠x.2.1->ao x.1=none->ao x.2.1=none->ao x.2.2=none →
      Q (.ref x.1) (cf (ao.upd x.2.2 (.list [])) x.1 x.2.1 .aS (nE (bH x l (kb sort ps rest l)))))):E C (r+2) (.call .aS as) ρ st Q:=by
  refine F2 (p:=(i9,jf)) (by decide) rfl (h.mono fun avs ao ⟨l,sort,ps,rest,e,q⟩ a d ha hd mq=>?_)
  subst e
  refine Ag (C.aB .aS .aF _ rfl).2.2.2 rfl ?_
  show X C r _ _ (cf ao a d .aS []) _
  have h:=mq
  refine Xc (Ay rfl h (by decide) (by decide) (El rfl ⟨rfl,(Xc (Ay rfl h (by decide) (aw rfl) (El rfl ⟨rfl,(Xc (Ay rfl h (by decide) (aw rfl) (El rfl ⟨rfl,(Xc (Ay rfl h (by decide) (aw rfl) (El rfl ⟨rfl,?_⟩)))⟩)))⟩)))⟩))
  change X C r _ _ (cf ao a d .aS [(.aC,.int l),(.gi,.str sort),(.aG,.lst (ps.map .int)),(.bc,.int rest)]) _
  refine Xc (Ay rfl h (by decide) (aw rfl) (Bc ⟨rfl,(Xc (Ay rfl h (by decide) (aw rfl) (El rfl ⟨rfl,(Xc (Ay rfl h (by decide) (aw rfl) (Bc ⟨rfl,?_⟩)))⟩)))⟩))
  change X C r _ _ (cf ao a d .aS [(.aC,.int l),(.gi,.str sort),(.aG,.lst (ps.map .int)),(.bc,.int rest),(.aW,.int (-1)),(.gj,.int l),(.eC,.int (-1))]) _
  refine Xc (Ay rfl mq (by decide) (aw rfl) (Ak ⟨rfl,?_⟩))
  change X C r _ _ (cf ao a d .aS [(.aC,.int l),(.gi,.str sort),(.aG,.lst (ps.map .int)),(.bc,.int rest),(.aW,.int (-1)),(.gj,.int l),(.eC,.int (-1)),(.fT,.str .b4)]) _
  refine Xc (BQ (B4 (En ⟨aw rfl,fun o ho=>?_⟩)))
  refine j4 (ui ho) fun q1 q2 q3=>?_
  rw [yk q1 q2]
  refine El rfl ⟨a,.aS,d,_,rfl,GG,GF mq,by decide,aw rfl,?_⟩
  rw [Gb mq]
  change X C r _ _ (cf _ a d .aS [(.aC,.int l),(.gi,.str sort),(.aG,.lst (ps.map .int)),(.bc,.int rest),(.aW,.int (-1)),(.gj,.int l),(.eC,.int (-1)),(.fT,.str .b4),(.ja,.ref o)]) _
  refine Xc (Ay rfl mq (by decide) (aw rfl) (AJ ⟨rfl,Ac ⟨rfl,?_⟩⟩))
  exact q (a,d,o) mq q1 q2 ha hd q3
structure Loose (A:Ad) (s:Cs) (x:Addr×Addr×Addr) (l:Int) (k:KP) (st:St):Prop where
  rep:Rep (ju (bH x l k)++dt (aX A s)) st
  wf:Wf s
theorem Loose.start {x:Addr×Addr×Addr} {l:Int} {sort:Nm} {ps:List Int} {rest:Int} (h:BR A s st) (h1:x.1≠x.2.1) (h2:x.2.2≠x.1) (h3:x.2.2≠x.2.1) (e1:st x.1=none) (e2:st x.2.1=none) (e3:st x.2.2=none) :
    Loose A s x l (kb sort ps rest l) (cf (st.upd x.2.2 (.list [])) x.1 x.2.1 .aS (nE (bH x l (kb sort ps rest l)))):=by
  refine ⟨?_,h.wf⟩
  have r1:Rep ((x.2.2,.list [])::dt (aX A s)) (st.upd x.2.2 (.list [])):=Rep.new h.rep e3
  have r2:=Rep.new (o:=.aD (nE (bH x l (kb sort ps rest l)))) r1 ((Aw (Ne.symm h3)).trans e2)
  exact Rep.new (o:=.inst .aS x.2.1) r2 ((Aw h1).trans ((Aw (Ne.symm h2)).trans e1))
theorem Loose.br {x:Addr×Addr×Addr} {l:Int} {k:KP} (h:Loose A s x l k st):BR A s st:=⟨h.rep.sub (List.sublist_append_right ..),h.wf⟩
theorem Loose.k1 {x:Addr×Addr×Addr} {l:Int} {k:KP} (h:Loose A s x l k st):st x.1=some (.inst .aS x.2.1):=h.rep.get (List.mem_append_left _ (by simp [ju,bH]))
theorem Loose.k2 {x:Addr×Addr×Addr} {l:Int} {k:KP} (h:Loose A s x l k st):st x.2.1=some (.aD (nE (bH x l k))):=h.rep.get (List.mem_append_left _ (by simp [ju,bH]))
theorem CD {x:Addr×Addr×Addr} {l:Int} {k k':KP} {y n:Nm} {e:PE} {v:AV} {Q:Fl->Loc->St->Prop} (hy:ae ρ y=some (.ref x.1)) (hn:n∈iq .aS)
    (he:E C r e ρ st (fun u ag=>u=v∧∃A' s',Loose A' s' x l k ag∧putK (nE (bH x l k)) n v=nE (bH x l k')∧k'.ops=k.ops∧∀dG,Loose A' s' x l k' dG->Q .next ρ dG)):X1 C r (.aP (.loc y) n e) ρ st Q:=by
  refine BQ (he.mono fun u ag ⟨e1,A',s',hl,e2,e3,q⟩=>?_)
  subst e1
  refine El hy ⟨x.1,.aS,x.2.1,_,rfl,hl.k1,hl.k2,hn,aw rfl,q _ ⟨?_,hl.wf⟩⟩
  rw [e2]
  have r3:=Rep.mid (l1:=[(x.1,.inst .aS x.2.1)]) (a:=x.2.1) (o:=.aD (nE (bH x l k'))) (o0:=.aD (nE (bH x l k))) (l2:=(x.2.2,.list (k.ops.map kP))::dt (aX A' s')) hl.rep
  rw [←e3] at r3
  exact r3
noncomputable def zy (l:Int) (s:Cs):Prop:=(∀x∈s.blocks,x.1≠l)∧(s.here≠some l)∧∀x∈s.later,x.1≠l
theorem Wf.free (h:Wf s) {l:Int} (hl:s.last<l):zy l s:=⟨fun x hx q=>by have:=h.blocks x hx;exact Xb hl q this,fun q=>by have:=h.hle q;exact absurd hl (Int.not_lt.mpr this),fun x hx q=>by have:=h.later x hx;exact Xb hl q this⟩
theorem rT {l:Int} {x:Addr×Addr×Addr} (hf:zy l s):aX {A with bu:=fun i=>if i=l then x else A.bu i} s=aX A s:=by
  unfold aX
  congr 1
  · cases e:s.here with
    | none=>rfl
    | some i=>simp only [Option.map_some,if_neg (fun q:i=l=>hf.2.1 (q▸e))]
  · exact List.map_congr_left fun y hy=>by simp only [if_neg (hf.2.2 y hy)]
  · exact List.map_congr_left fun y hy=>by simp only [if_neg (hf.1 y hy)]
noncomputable def Ad.add (A:Ad) (l:Int) (x:Addr×Addr×Addr):Ad:={A with bu:=fun i=>if i=l then x else A.bu i}
theorem Loose.put {x:Addr×Addr×Addr} {l:Int} {k:KP} (h:Loose A s x l k st) (hf:zy l s) (hl:l≤s.last) (h1:k.dF=l∨(ae s.blocks k.dF).isSome) (hk:k.ops=[]) :
    BR (A.add l x) (ip l k s) (st.upd A.T (.dict (putK ((aX A s).blocks.map fun k=>(k.label,AV.ref k.a)) l (.ref x.1)))):=by
  have hn:ae s.blocks l=none:=iU.mpr hf.1
  refine ⟨?_,h.wf.add hl hn h1 hk⟩
  have e1:putK ((aX A s).blocks.map fun k=>(k.label,AV.ref k.a)) l (.ref x.1)=((aX A s).blocks++[bH x l k]).map fun k=>(k.label,AV.ref k.a):=by
    unfold putK
    rw [if_neg ?_]
    · rw [List.map_append];rfl
    · show ¬((((s.blocks.map fun x=>bH (A.bu x.1) x.1 x.2).map fun k=>(k.label,AV.ref k.a)).any fun kv=>kv.1=l)=true)
      rw [List.map_map,List.any_map,List.any_eq_true]
      rintro ⟨y,hy,hq⟩
      exact hf.1 y hy (by simpa [bH] using hq)
  rw [e1]
  have r1:Rep ((dt (aX A s)).take 4++(A.T,.dict (((aX A s).blocks).map fun k=>(k.label,AV.ref k.a)))::((dt (aX A s)).drop 5++ju (bH x l k))) st:=h.rep.perm (by
    have e2:(dt (aX A s)).take 4++(A.T,.dict (((aX A s).blocks).map fun k=>(k.label,AV.ref k.a)))::((dt (aX A s)).drop 5++ju (bH x l k))=dt (aX A s)++ju (bH x l k):=rfl
    rw [e2];exact List.perm_append_comm)
  have r2:=Rep.mid (o:=.dict (((aX A s).blocks++[bH x l k]).map fun k=>(k.label,AV.ref k.a))) r1
  have e3:dt (aX (A.add l x) (ip l k s))=(dt (aX A s)).take 4++(A.T,.dict (((aX A s).blocks++[bH x l k]).map fun k=>(k.label,AV.ref k.a)))::((dt (aX A s)).drop 5++ju (bH x l k)):=by
    have e4:aX (A.add l x) (ip l k s)={aX A s with blocks:=(aX A s).blocks++[bH x l k]}:=by
      have:=rT (A:=A) (x:=x) hf
      have e5:aX (A.add l x) (ip l k s)={aX (A.add l x) s with blocks:=(aX (A.add l x) s).blocks++[bH x l k]}:=by
        unfold aX ip Ad.add
        simp [bH]
      rw [e5]
      show ({aX {A with bu:=_} s with blocks:=(aX {A with bu:=_} s).blocks++_}:Bd)=_
      rw [this]
    rw [e4]
    unfold dt
    simp [o3]
    rfl
  show Rep (dt (aX (A.add l x) (ip l k s))) _
  rw [e3];exact r2
theorem wO {x:Addr×Addr×Addr} {l:Int} {k:KP} {Q:AV->St->Prop} (h:Loose A s x l k st) (hf:zy l s) (hl:l≤s.last) (h1:k.dF=l∨(ae s.blocks k.dF).isSome) (hk:k.ops=[]) (hn:s.n≤100000) (q:∀ag,BR (A.add l x) (ip l k s) ag->Q .none ag) :
    Fn C (r+1) (C.ma .aE .mP) [.ref A.P,.ref x.1] st Q:=by
  have hb:=h.br
  refine Ag (C.aB .aE .mP _ rfl).2.2.2 rfl ?_
  refine Xc (Br (El rfl (Aa (El rfl ⟨.ref A.T,At hb.rep.gP hb.rep.yQ (by decide) rfl,Aa (El rfl ⟨.int l,At h.k1 h.k2 (by decide) rfl,A.T,_,rfl,?_,Ac (q _ (h.put hf hl h1 hk))⟩)⟩))))
  have hT:=hb.rep.gT
  refine setOk.d (show st A.T=_ from hT) ?_ (rfl)
  have:=h.wf.nb
  show (((s.blocks.map _).map _).length)≤_
  simp;exact Zl (Nat.le_trans this hn) rfl
theorem Le.add {l:Int} {x:Addr×Addr×Addr} {n:Int} (h:n<l):Le A (A.add l x) n:=⟨rfl,rfl,fun i hi=>if_neg (by exact UX h hi)⟩
theorem EB {l:Int} {x:Addr×Addr×Addr}:(A.add l x).bu l=x:=if_pos rfl
theorem Ef {ps:List Int} {rest l:Int} {Q:AV->St->Prop} (h:BR A s st) (hh:s.here=some l) (hn:s.n≤100000) (q:∀A' ag,Le A A' s.last->BR A' (aO ps rest s) ag->Q (.ref (A'.bu (s.last+1)).1) ag) :
    Fn C (r+3) (C.ma .ak .cw) [.ref A.B,.lst (ps.map .int),.int rest] st Q:=by
  refine xE (h.mU hh) fun k hb=>?_
  refine Ag (C.aB .ak .cw _ rfl).2.2.2 rfl ?_
  refine Xc (Au (Fm (Ec (AU (El rfl ⟨_,_,AK h.rep.gB h.rep.hF,rfl,rfl,En (BH h fun ao h1=>?_)⟩)))))
  refine Ec (C0 rfl (Ec (El rfl (Ec (El rfl (En ?_))))))
  refine ⟨s.last+1,.cw,ps,rest,rfl,fun x g1 g2 g3 f1 f2 f3=>?_⟩
  have l1:=Loose.start (l:=s.last+1) (sort:=.cw) (ps:=ps) (rest:=rest) h1 g1 g2 g3 f1 f2 f3
  refine Xc (CD (k':={kb .cw ps rest (s.last+1) with dF:=k.dF}) (v:=.int k.dF) rfl (by decide) (Aa (Du l1.br hh (fun q=>El rfl q) ⟨.int k.dF,l1.br.gc hb (by decide) rfl,rfl,A,cT s,l1,rfl,rfl,fun bg l2=>?_⟩)))
  refine Xc (CD (k':={kb .cw ps rest (s.last+1) with dF:=k.dF,parent:=l}) (v:=.int l) rfl (by decide) (Aa (Du l2.br hh (fun q=>El rfl q) ⟨.int l,l2.br.gc hb (by decide) rfl,rfl,A,cT s,l2,rfl,rfl,fun eJ l3=>?_⟩)))
  refine Xc (Ap (AU (Aa (El rfl ⟨.ref A.P,At l3.br.rep.gB l3.br.rep.hF (by decide) rfl,.aE,_,AK l3.br.rep.gP l3.br.rep.yQ,rfl,rfl,Ec (El rfl (En (wO l3 (h.wf.free (l:=s.last+1) (by exact Int.le_refl _)) (Int.le_refl _) (.inr (h.wf.ie l k hb)) rfl hn fun fA h4=>⟨rfl,?_⟩)))⟩))))
  refine Xc (Aq (El rfl ?_))
  have:=q (A.add (s.last+1) x) fA (Le.add (by exact Int.le_refl _)) (by
    have e:aO ps rest s=ip (s.last+1) {kb .cw ps rest (s.last+1) with dF:=k.dF,parent:=l} (cT s):=by unfold aO;rw [C6 hh hb,Bf hh];rfl
    rw [e];exact h4)
  rw [EB] at this
  exact this
theorem sq {l:Int} {Q:AV->St->Prop} (h:BR A s st) (q:Q (.str .b4) st):Fn C (r+1) (C.ma .aN .gS) [.ref A.N,.int l] st Q:=by
  refine Ag (C.aB .aN .gS _ rfl).2.2.2 rfl ?_
  have hd:gI st (.ref A.ti)=some []:=congrArg o4 h.rep.Ws
  exact Xc (Aq (IJ (Aa (El rfl ⟨.ref A.ti,At h.rep.gN h.rep.Qu (by decide) rfl,⟨_,hd⟩,congrArg kW h.rep.Ws,El rfl (Ak ⟨_,l,rfl,hd,q⟩)⟩))))
theorem qK {x:Addr×Addr×Addr} {l:Int} {k:KP} {Q:AV->St->Prop} (h:Loose A s x l k st) (q:∀ag,Loose A (cT s) x l k ag->Q (.int (s.last+1)) ag):Fn C (r+2) (C.ma .ak .bD) [.ref A.B] st Q:=by
  refine Ag (C.aB .ak .bD _ rfl).2.2.2 rfl ?_
  have e1:=h.br.rep.gB
  have e2:=h.br.rep.hF
  have e3:=h.br.rep.gN
  have e4:=h.br.rep.Qu
  refine Xc (Aq (AU (Aa (El rfl ⟨_,At e1 e2 (by decide) rfl,.aN,_,AK e3 e4,rfl,rfl,En (Bw e3 e4 (q _ ⟨?_,h.wf.fr⟩))⟩))))
  exact Rep.mid (l1:=ju (bH x l k)++(dt (aX A s)).take 10) (o0:=.aD (cg A.tb A.ti A.op s.last)) (l2:=(A.ti,.dict [])::(aX A s).blocks.flatMap ju) h.rep
theorem BR.Lw (h:BR A s st) (ls:List (Int×Tm)):dq (aX A {s with later:=ls}) (st.upd A.L (.list ((ls.map fun x=>((A.bu x.1).1,x.2)).map fun x=>.tup [.ref x.1,bT x.2]))):=
  Rep.mid (l1:=(dt (aX A s)).take 7) (o0:=.list ((aX A s).later.map fun x:Addr×Tm=>AV.tup [.ref x.1,bT x.2])) (l2:=(dt (aX A s)).drop 8) h.rep
theorem BR.LF {l:Int} {t:Tm} (h:BR A s st) (hl:l≤s.last):BR A (lQ l t s) (st.upd A.L (.list (((aX A s).later.map fun x=>.tup [.ref x.1,bT x.2])++[.tup [.ref (A.bu l).1,bT t]]))):=by
  have h1:=h.Lw (s.later++[(l,t)])
  rw [List.map_append,List.map_append] at h1
  refine ⟨h1,h.wf.uM (Nat.le_succ _) (by have:=h.wf.nl;simp;exact this) fun x hx=>?_⟩
  rcases List.mem_append.mp hx with hx | hx
  · exact h.wf.later x hx
  · rw [List.mem_singleton] at hx;subst hx;exact hl
theorem qP {l:Int} {t:Tm} {x y:PE} {Q:AV->St->Prop} (h:BR A s st) (hl:l≤s.last) (hn:s.n≤100000) (hx:∀{Q:AV->St->Prop},Q (.ref (A.bu l).1) st->E C r x ρ st Q) (hy:∀{Q:AV->St->Prop},Q (bT t) st->E C r y ρ st Q)
    {b:PE} (hb:∀{Q:AV->St->Prop},Q (.ref A.B) st->E C r b ρ st Q) (q:∀ag,BR A (lQ l t s) ag->Q .none ag):E C r (.aB (.attr b .fU) .dz [.tup [x,y]]) ρ st Q:=by
  refine By (Aa (hb ⟨_,At h.rep.gB h.rep.hF (by decide) rfl,A.L,_,rfl,h.rep.gL,AC (Ec (hx (Ec (hy (En ⟨aw rfl,_,h.rep.gL,?_,q _ (h.LF hl)⟩)))))⟩))
  have:=h.wf.nl
  show ((s.later.map _).map _).length≤_
  simp;exact Zl (Nat.le_trans this hn) rfl
theorem Hk {lab:Int} {ps:List Int} {t:Tm} {l:Int} {Q:AV->St->Prop} (h:BR A s st) (hh:s.here=some l) (hn:s.n<100000) (hz:ps.length≤1000) (q:∀A' ag,Le A A' s.last->BR A' (jt ps t s) ag->Q (.ref (A'.bu (s.last+1)).1) ag) :
    Fn C (r+3) (C.fa .fY) [.ref A.B,bT (.lam lab ps t)] st Q:=by
  refine xE (h.mU hh) fun k hb=>?_
  refine Ag (C.dM .fY _ rfl).2.1 rfl ?_
  refine Xc (Au (Fm (Ec (AU (El rfl ⟨_,_,AK h.rep.gB h.rep.hF,rfl,rfl,En (BH h fun ao h1=>?_)⟩)))))
  refine Ec (C0 rfl (Ec (EG (Aa (El rfl ⟨_,Ab (by decide) rfl,⟨ps.map .int,rfl,by simp;exact Zl hz rfl,(Ec (Aa (El rfl ⟨_,Ab (by decide) rfl,(En ?_)⟩)))⟩⟩)))))
  refine ⟨s.last+1,.aR,ps,-1,rfl,fun x g1 g2 g3 f1 f2 f3=>?_⟩
  have l1:=Loose.start (l:=s.last+1) (sort:=.aR) (ps:=ps) (rest:=-1) h1 g1 g2 g3 f1 f2 f3
  refine Xc (CD (k':={kb .aR ps (-1) (s.last+1) with var:=s.last+2}) (v:=.int (s.last+2)) rfl (by decide) (AU (El rfl ⟨_,_,AK l1.br.rep.gB l1.br.rep.hF,rfl,rfl,En (qK l1 fun bg l2=>⟨by show AV.int (s.last+1+1)=_;congr 1;exact Z2,A,cT (cT s),l2,rfl,rfl,fun eJ l3=>?_⟩)⟩)))
  refine Xc (CD (k':={kb .aR ps (-1) (s.last+1) with var:=s.last+2,parent:=l}) (v:=.int l) rfl (by decide) (Aa (Du l3.br hh (fun q=>El rfl q) ⟨.int l,l3.br.gc hb (by decide) rfl,rfl,A,cT (cT s),l3,rfl,rfl,fun fA l4=>?_⟩)))
  refine Xc (CD (k':={kb .aR ps (-1) (s.last+1) with var:=s.last+2,parent:=l}) (v:=.str .b4) rfl (by decide) (AU (Aa (El rfl ⟨.ref A.N,At l4.br.rep.gB l4.br.rep.hF (by decide) rfl,.aN,_,AK l4.br.rep.gN l4.br.rep.Qu,rfl,rfl,Ec (Aa (El rfl ⟨.int lab,Ab (by decide) rfl,En (sq l4.br ⟨rfl,A,cT (cT s),l4,rfl,rfl,fun tv l5=>?_⟩)⟩))⟩))))
  refine Xc (Ap (AU (Aa (El rfl ⟨.ref A.P,At l5.br.rep.gB l5.br.rep.hF (by decide) rfl,.aE,_,AK l5.br.rep.gP l5.br.rep.yQ,rfl,rfl,Ec (El rfl (En (wO l5 (h.wf.free (l:=s.last+1) (by exact Int.le_refl _)) (show s.last+1≤s.last+1+1 by exact Z4) (.inl rfl) rfl (show s.n≤100000 by exact Nat.le_of_lt hn) fun pb h6=>⟨rfl,?_⟩)))⟩))))
  refine Xc (Ap (qP (l:=s.last+1) (t:=t) h6 (show s.last+1≤s.last+1+1 by exact Z4) (show s.n+1≤100000 by exact hn) (fun q=>El (by rw [EB];rfl) q) (fun q=>Aa (El rfl ⟨_,Ab (by decide) rfl,q⟩)) (fun q=>El rfl q) fun zN h7=>⟨rfl,?_⟩))
  refine Xc (Aq (El rfl ?_))
  have:=q (A.add (s.last+1) x) zN (Le.add (by exact Int.le_refl _)) (by
    have e:jt ps t s=lQ (s.last+1) t (ip (s.last+1) {kb .aR ps (-1) (s.last+1) with var:=s.last+2,parent:=l} (cT (cT s))):=by unfold jt;rw [Bf hh];rfl
    rw [e];exact h7)
  rw [EB] at this
  exact this
end Mine
end
section
namespace Mine
variable {C:Cx} {r:Nat} {ρ:Loc} {st:St} {A:Ad} {s:Cs}
theorem AY {e:PE} {n:Nm} {as:List PE} {Q:AV->St->Prop} (h:BR A s st) (he:∀{Q:AV->St->Prop},Q (.ref A.B) st->E C r e ρ st Q) (hn:ae (o3 (aX A s)) n=none) (hm:(om .ak n).isSome=true)
    (h2:Es C r as ρ st (tZ C r .ak n (.ref A.B) Q)):E C r (.aB e n as) ρ st Q:=AU (he ⟨_,_,AK h.rep.gB h.rep.hF,hn,hm,h2⟩)
theorem Fn.cU {f:Addr} {avs:List AV} {Q:AV->St->Prop} (r':Nat) {r:Nat} (hr:r'≤r) (h:Fn C r' f avs st Q):Fn C r f avs st Q:=h.up hr
noncomputable def nd (t:Tm) (w:Way):gJ:=⟨.af,some t,w,[]⟩
noncomputable def tk (x:Nm) (t:Tm) (w:Way):gJ:=⟨x,some t,w,[]⟩
noncomputable def isLet (f:Tm) (as:List Tm):Bool:=match f with | .lam _ ps _=>ps.length==as.length | _=>false
noncomputable def eK (t:Tm) (w:Way) (s:Cs):Cs:=match t with
  | .cst c=>(match w with | .cj=>s | w=>cq w (s.last+1) (jb (.c c) s))
  | .loc n=>cq w ((ae s.other n).getD n) s
  | .bI g=>cq w (s.last+1) (bO (.bI (s.last+1) g) (cT s))
  | .lam _ ps b=>(match w with | .cj=>s | w=>cq w (s.last+1) (bO (.fn (s.last+1) (s.last+2)) (jt ps b (cT s))))
  | .set g e=>pushS [nd e .val,tk .bV (.set g e) w] s
  | .bt a b c=>pushS [nd a .val,tk .dh (.bt a b c) w] s
  | .seq a b=>pushS [nd a .cj,nd b w] s
  | .p1 a=>pushS [nd a .val,tk .cM (.p1 a) w] s
  | .p2 a b=>pushS [nd a .val,nd b .val,tk .cM (.p2 a b) w] s
  | .call f as=>if isLet f as then pushS (as.map (fun a=>nd a .val)++[tk .ic (.call f as) w]) s else pushS (nd f .val::as.map (fun a=>nd a .val)++[tk .d8 (.call f as) w]) s
noncomputable abbrev kI (A:Ad) (s s':Cs) (Q:AV->St->Prop):Prop:=∀A' ag,Le A A' s.last->BR A' s' ag->Q .none ag
theorem CX {c:qO} {w:Way} {l:Int} {Q:AV->St->Prop} (h:BR A s st) (hh:s.here=some l) (hn:s.n≤90000) (q:kI A s (eK (.cst c) w s) Q):Fn C (r+6) (C.fa .g7) [.ref A.B,bT (.cst c),.int w.i] st Q:=by
  refine Ag (C.dM .g7 _ rfl).2.1 rfl ?_
  have go:∀{w:Way} {Q:AV->St->Prop},(∀ag,BR A (cq w (s.last+1) (jb (.c c) s)) ag->Q .none ag)->∀{ρ:Loc},ae ρ .aa=some (.ref A.B)->ae ρ .aI=some (.int w.i)->ae ρ .af=some (bT (.cst c))->E C (r+5) (.aB (.loc .aa) .dw [(.loc .aI),(.aB (.loc .aa) .jk [(.attr (.loc .af) .aT)])]) ρ st Q:=by
    intro w Q q ρ h1 h2 h3
    refine AY h (fun q=>El h1 q) rfl rfl (Ec (El h2 (Ec (AY h (fun q=>El h1 q) rfl rfl (Ec (Aa (El h3 ⟨c.A,Ab (by decide) rfl,En ?_⟩)))))))
    exact Fn.cU (r+4) (by exact Zr rfl) (xd (c:=.c c) h hh (by exact Zl hn rfl) fun ao h1=>En (Fn.cU (r+4) (by exact Zr rfl) (Co h1 hh (show s.n+1≤100000 by exact NY hn) q)))
  cases w with
  | cj=>exact ef rfl (Ac (Ac (q A st (Le.refl ..) h)))
  | val=>exact AH rfl (Xc (Ap (go (w:=.val) (fun ag h'=>⟨rfl,Ac (Ac (q A ag (Le.refl ..) h'))⟩) rfl rfl rfl)))
  | tail=>exact AH rfl (Xc (Ap (go (w:=.tail) (fun ag h'=>⟨rfl,Ac (Ac (q A ag (Le.refl ..) h'))⟩) rfl rfl rfl)))
theorem CW {n:Int} {w:Way} {l:Int} {Q:AV->St->Prop} (h:BR A s st) (hh:s.here=some l) (hn:s.n≤90000) (q:kI A s (eK (.loc n) w s) Q):Fn C (r+6) (C.fa .gZ) [.ref A.B,bT (.loc n),.int w.i] st Q:=by
  refine Ag (C.dM .gZ _ rfl).2.1 rfl ?_
  refine Xc (Ap (AY h (fun q=>El rfl q) rfl rfl (Ec (El rfl (Ec (AY h (fun q=>El rfl q) rfl rfl (Ec (Aa (El rfl ⟨.int n,Ab (by decide) rfl,En ?_⟩)))))))))
  exact Fn.cU (r+1) (by exact Zr rfl) (zG h (En (Fn.cU (r+4) (by exact Zr rfl) (Co h hh (by exact Zl hn rfl) fun ag h'=>⟨rfl,Ac (q A ag (Le.refl ..) h')⟩))))
theorem Ch {g:Int} {w:Way} {l:Int} {Q:AV->St->Prop} (h:BR A s st) (hh:s.here=some l) (hn:s.n≤90000) (q:kI A s (eK (.bI g) w s) Q):Fn C (r+6) (C.fa .f7) [.ref A.B,bT (.bI g),.int w.i] st Q:=by
  refine Ag (C.dM .f7 _ rfl).2.1 rfl ?_
  refine Xc (Au (AY h (fun q=>El rfl q) rfl rfl (En (Fn.cU (r+2) (by exact Zr rfl) (BH h fun ao h1=>?_)))))
  refine Xc (Ap (AY h1 (fun q=>El rfl q) rfl rfl (Ec ?_)))
  refine Ax (by decide) rfl (Ec (El rfl (Ec (Ak (Ec (Aa (El rfl ⟨_,Ab (by decide) rfl,(Ec (Ah (En ⟨aw rfl,(En ?_)⟩)))⟩)))))))
  refine ⟨_,CS,En (Fn.cU (r+1) (by exact Zr rfl) (Fr (op:=.bI (s.last+1) g) h1 hh (show s.n≤100000 by exact Zl hn rfl) fun bg h2=>⟨rfl,?_⟩))⟩
  refine Xc (Ap (AY h2 (fun q=>El rfl q) rfl rfl (Ec (El rfl (Ec (El rfl (En ?_)))))))
  exact Fn.cU (r+4) (by exact Zr rfl) (Co h2 hh (show s.n+1≤100000 by exact NY hn) fun ag h'=>⟨rfl,Ac (q A ag (Le.refl ..) h')⟩)
theorem Cg {lab:Int} {ps:List Int} {b:Tm} {w:Way} {l:Int} {Q:AV->St->Prop} (h:BR A s st) (hh:s.here=some l) (hn:s.n≤90000) (hz:ps.length≤1000) (q:kI A s (eK (.lam lab ps b) w s) Q):Fn C (r+6) (C.fa .fZ) [.ref A.B,bT (.lam lab ps b),.int w.i] st Q:=by
  refine Ag (C.dM .fZ _ rfl).2.1 rfl ?_
  have go:∀{w:Way},kI A s (cq w (s.last+1) (bO (.fn (s.last+1) (s.last+2)) (jt ps b (cT s)))) Q->X C (r+5) (kF.drop 1) (kx.zip [.ref A.B,bT (.lam lab ps b),.int w.i]) st (fun fl _ ag=>match fl with | .ret v=>Q v ag | .next=>Q .none ag):=by
    intro w q
    refine Xc (Au (AY h (fun q=>El rfl q) rfl rfl (En (Fn.cU (r+2) (by exact Zr rfl) (BH h fun ao h1=>?_)))))
    refine Xc (Ap (AY h1 (fun q=>El rfl q) rfl rfl (Ec (Aj rfl (Ec (El rfl (Ec (Aa (Aj rfl (Ec (El rfl (Ec (El rfl (En ?_))))))))))))))
    refine Fn.cU (r+3) (by exact Zr rfl) (Hk (s:=cT s) h1 hh (show s.n<100000 by exact Ux hn) hz fun A2 bg sv h2=>?_)
    have YW:ae (jt ps b (cT s)).blocks (s.last+2)=some ⟨.aR,ps,-1,s.last+3,s.last+2,l,.b4,[],none⟩:=by
      show ae (s.blocks++[(s.last+1+1,_)]) (s.last+2)=_
      rw [show s.last+1+1=s.last+2 by exact Z2,Bp (h.wf.none (by exact Zi rfl)),if_pos rfl,Bf (s:=cT s) hh]
      show some (⟨.aR,ps,-1,s.last+1+2,s.last+1+1,l,.b4,[],none⟩:KP)=_
      rw [show s.last+1+2=s.last+3 by exact Xa,show s.last+1+1=s.last+2 by exact Z2]
    refine ⟨.int (s.last+2),?_,En (Fn.cU (r+3) (by exact Zr rfl) (JH.mono fun x eJ ⟨e1,e2⟩=>?_))⟩
    · rw [show (cT s).last+1=s.last+2 by show s.last+1+1=_;exact Z2]
      exact h2.gc YW (by decide) rfl
    subst e1;subst e2
    rw [←sv.B]
    refine En (Fn.cU (r+1) (by exact Zr rfl) (Fr h2 hh (show s.n+1+1≤100000 by exact W9 hn) fun fA h4=>⟨rfl,?_⟩))
    refine Xc (Ap (AY h4 (fun q=>El rfl q) rfl rfl (Ec (El rfl (Ec (El rfl (En ?_)))))))
    exact Fn.cU (r+4) (by exact Zr rfl) (Co h4 hh (show s.n+1+1+1≤100000 by exact Uw hn) fun ag h'=>⟨rfl,Ac (q A2 ag ⟨sv.B,sv.P,fun i hi=>sv.bu i (show i≤s.last+1 by exact Int.le_add_one hi)⟩ h')⟩)
  cases w with
  | cj=>exact AH rfl (Xc (HJ (q A st (Le.refl ..) h)))
  | val=>exact ef rfl (Ac (go (w:=.val) q))
  | tail=>exact ef rfl (Ac (go (w:=.tail) q))
theorem CO {ts:List gJ} {Q:AV->St->Prop} (h:BR A s st) (hn:s.n≤90000) (hz:ts.length≤1000) (q:kI A s (pushS ts s) Q):Fn C (r+1) (C.ma .ak .bK) [.ref A.B,.lst (ts.map cX)] st (fun v ag=>v=.none∧X C (r+5) [] ρ ag (fun fl _ ag=>match fl with | .ret v=>Q v ag | .next=>Q .none ag)):=
  Fp h (by exact Zl hn rfl) hz fun ag h'=>⟨rfl,Ac (q A ag (Le.refl ..) h')⟩
theorem Fb {g:Int} {e:Tm} {w:Way} {Q:AV->St->Prop} (h:BR A s st) (hn:s.n≤90000) (q:kI A s (eK (.set g e) w s) Q):Fn C (r+6) (C.fa .jN) [.ref A.B,bT (.set g e),.int w.i] st Q:=by
  refine Ag (C.dM .jN _ rfl).2.1 rfl ?_
  refine Xc (Au (AE (Al (Aa (El rfl ⟨_,An (by decide) rfl rfl,(Ar rfl ⟨false,rfl,(Ak ?_)⟩)⟩)))))
  refine Xc (Ap (AY h (fun q=>El rfl q) rfl rfl (Ec ?_)))
  refine Ah (Ec (Ax (by decide) rfl (Ec (Ak (Ec (Aa (El rfl ⟨_,Ab (by decide) rfl,(Ec (Ar rfl ((Ec (Ah (En ⟨aw rfl,En ⟨_,As,(Ec (Ax (by decide) rfl (Ec (El rfl (Ec (El rfl (Ec (El rfl ((Ec (Ah (En ⟨aw rfl,En ⟨_,As,(En ⟨aw rfl,(En ?_)⟩)⟩⟩))))))))))))⟩⟩))))))⟩)))))))
  exact Fn.cU (r+1) (by exact Zr rfl) (CO (ts:=[nd e .val,tk .bV (.set g e) w]) h hn (by simp) q)
theorem G7 {a b c:Tm} {w:Way} {Q:AV->St->Prop} (h:BR A s st) (hn:s.n≤90000) (q:kI A s (eK (.bt a b c) w s) Q):Fn C (r+6) (C.fa .k7) [.ref A.B,bT (.bt a b c),.int w.i] st Q:=by
  refine Ag (C.dM .k7 _ rfl).2.1 rfl ?_
  refine Xc (Ap (AY h (fun q=>El rfl q) rfl rfl (Ec ?_)))
  refine Ah (Ec (Ax (by decide) rfl (Ec (Ak (Ec (Aa (El rfl ⟨_,Ab (by decide) rfl,(Ec (Ar rfl ((Ec (Ah (En ⟨aw rfl,En ⟨_,As,(Ec (Ax (by decide) rfl (Ec (Ak (Ec (El rfl (Ec (El rfl ((Ec (Ah (En ⟨aw rfl,En ⟨_,As,(En ⟨aw rfl,(En ?_)⟩)⟩⟩))))))))))))⟩⟩))))))⟩)))))))
  exact Fn.cU (r+1) (by exact Zr rfl) (CO (ts:=[nd a .val,tk .dh (.bt a b c) w]) h hn (by simp) q)
theorem EC {x:Nm} {it:PE} {w:Way} {y z:Nm} (hz:rG z=some w.i) {Q:Fl->Loc->St->Prop} {ts:List Tm} (hl:ts.length≤100) (h:E C (r+2) it ρ st (fun a ao=>a=.lst (ts.map bT)∧Q .next (putK ρ x (.lst ((ts.map fun t=>nd t w).map cX))) ao)) :
    X1 C (r+2) (.km x (.freeze (.call .bF [(.str .af),(.loc y),(.bI z),(.freeze (.list []))])) y it) ρ st Q:=by
  refine wI (h.mono fun a ao ⟨e,q⟩=>⟨_,_,e,by simp,by simp;exact Zl hl rfl,fun i ag hi _=>?_,q⟩)
  rw [List.length_map] at hi
  have e1:(ts.map bT).getD i .none=bT ts[i]:=by simp [List.getD_eq_getElem?_getD,hi]
  have e2:((ts.map fun t=>nd t w).map cX).getD i .none=cX (nd ts[i] w):=by simp [List.getD_eq_getElem?_getD,hi]
  rw [e1,e2]
  refine Ax (by decide) rfl (Ec (Ak (Ec (El (by rw [Af,if_pos rfl]) (Ec (Ar hz ?_))))))
  exact (Ec (Ah (En ⟨aw rfl,En ⟨_,As,⟨rfl,rfl⟩⟩⟩)))
theorem Dn {a b:Tm} {w:Way} {Q:AV->St->Prop} (h:BR A s st) (hn:s.n≤90000) (q:kI A s (eK (.seq a b) w s) Q):Fn C (r+6) (C.fa .jO) [.ref A.B,bT (.seq a b),.int w.i] st Q:=by
  refine Ag (C.dM .jO _ rfl).2.1 rfl ?_
  refine Xc (EC (w:=.cj) rfl (ts:=[a]) (by simp) (Bg (Aa (El rfl ⟨.lst [bT a,bT b],Ab (by decide) rfl,EF (EE (Bc ⟨_,rfl,_,rfl,by simp,rfl,?_⟩))⟩))))
  refine Xc (Ap (AY h (fun q=>El rfl q) rfl rfl (Ec ?_)))
  refine C1 (El rfl (Ah (Ec (Ax (by decide) rfl (Ec (Ak (Ec (Ai (Aa (El rfl ⟨.lst [bT a,bT b],Ab (by decide) rfl,(Bc ⟨_,rfl,(Ec (El rfl ((Ec (Ah (En ⟨aw rfl,En ⟨_,As,(En ⟨aw rfl,⟨_,_,rfl,rfl,aw rfl,(En ?_)⟩⟩)⟩⟩))))))⟩)⟩))))))))))
  exact Fn.cU (r+1) (by exact Zr rfl) (CO (ts:=[nd a .cj,nd b w]) h hn (by simp) q)
theorem vL {a:Tm} {w:Way} {Q:AV->St->Prop} (h:BR A s st) (hn:s.n≤90000) (q:kI A s (eK (.p1 a) w s) Q):Fn C (r+6) (C.fa .fG) [.ref A.B,bT (.p1 a),.int w.i] st Q:=by
  refine Ag (C.dM .fG _ rfl).2.1 rfl ?_
  refine Xc (EC (w:=.val) rfl (ts:=[a]) (by simp) (Aa (El rfl ⟨.lst [bT a],Ab (by decide) rfl,rfl,?_⟩)))
  refine Xc (Ap (AY h (fun q=>El rfl q) rfl rfl (Ec ?_)))
  refine C1 (El rfl (Ah (Ec (Ax (by decide) rfl (Ec (Ak (Ec (El rfl (Ec (El rfl ((Ec (Ah (En ⟨aw rfl,En ⟨_,As,(En ⟨aw rfl,⟨_,_,rfl,rfl,aw rfl,(En ?_)⟩⟩)⟩⟩))))))))))))))
  exact Fn.cU (r+1) (by exact Zr rfl) (CO (ts:=[nd a .val,tk .cM (.p1 a) w]) h hn (by simp) q)
theorem vK {a b:Tm} {w:Way} {Q:AV->St->Prop} (h:BR A s st) (hn:s.n≤90000) (q:kI A s (eK (.p2 a b) w s) Q):Fn C (r+6) (C.fa .fG) [.ref A.B,bT (.p2 a b),.int w.i] st Q:=by
  refine Ag (C.dM .fG _ rfl).2.1 rfl ?_
  refine Xc (EC (w:=.val) rfl (ts:=[a,b]) (by simp) (Aa (El rfl ⟨.lst [bT a,bT b],Ab (by decide) rfl,rfl,?_⟩)))
  refine Xc (Ap (AY h (fun q=>El rfl q) rfl rfl (Ec ?_)))
  refine C1 (El rfl (Ah (Ec (Ax (by decide) rfl (Ec (Ak (Ec (El rfl (Ec (El rfl ((Ec (Ah (En ⟨aw rfl,En ⟨_,As,(En ⟨aw rfl,⟨_,_,rfl,rfl,aw rfl,(En ?_)⟩⟩)⟩⟩))))))))))))))
  exact Fn.cU (r+1) (by exact Zr rfl) (CO (ts:=[nd a .val,nd b .val,tk .cM (.p2 a b) w]) h hn (by simp) q)
end Mine
end
section
namespace Mine
variable {C:Cx} {r:Nat} {ρ:Loc} {st:St} {A:Ad} {s:Cs}
noncomputable def slim:Tm->Prop
  | .lam _ ps _=>ps.length≤100
  | .call f as=>as.length≤100∧∀lab ps b,f=.lam lab ps b->ps.length≤100
  | _=>True
theorem E3 {f:Tm} {as:List Tm} {Q:AV->St->Prop} (hz:slim (.call f as)) (q:Q (.bool (isLet f as)) st):Fn C (r+1) (C.fa .jH) [bT (.call f as)] st Q:=by
  refine Ag (C.dM .jH _ rfl).2.1 rfl ?_
  refine xA hz ?_;clear hz;intro hz hp
  cases f with
  | lam lab ps b=>
    have hp:=hp lab ps b rfl
    refine Xc (Ao (wJ (Al (Aa (El rfl ⟨_,An (by decide) rfl rfl,(Ar rfl ⟨false,rfl,(Al (Aa (Aa (El rfl ⟨_,Ab (by decide) rfl,⟨_,An (by decide) rfl rfl,(Ar rfl ⟨false,rfl,(Ac (Xc (Aq (BZ (Hj (Aa (Aa (El rfl ⟨_,Ab (by decide) rfl,⟨_,Ab (by decide) rfl,(Ae ⟨true,rfl,?_⟩)⟩⟩))))))))⟩)⟩⟩))))⟩)⟩)))))
    refine ⟨true,rfl,Hj (AX (Aa (Aa (El rfl ⟨_,Ab (by decide) rfl,⟨.lst (ps.map .int),Ab (by decide) rfl,ps.map .int,rfl,by simp;exact Zl hp rfl,?_⟩⟩))))⟩
    refine AX (Aa (El rfl ⟨.lst (iZ as),Ab (by decide) rfl,⟨iZ as,rfl,by rw [AZ];simp;exact Zl hz rfl,?_⟩⟩))
    refine ⟨isLet (.lam lab ps b) as,?_,q⟩
    show some (((ps.map AV.int).length:Int)==((iZ as).length:Int))=some (ps.length==as.length)
    rw [AZ,List.length_map,List.length_map]
    congr 1
    rw [Bool.eq_iff_iff,beq_iff_eq,beq_iff_eq];exact Uv
  | _=>exact Xc (Ao (wJ (Al (Aa (El rfl ⟨_,An (by decide) rfl rfl,(Ar rfl ⟨false,rfl,(Al (Aa (Aa (El rfl ⟨_,Ab (by decide) rfl,⟨_,An (by decide) rfl rfl,(Ar rfl ⟨true,rfl,(BS rfl (q))⟩)⟩⟩))))⟩)⟩)))))
theorem DG {vs:List AV} {ts:List gJ} {Q:AV->St->Prop} (e:vs=ts.map cX) (h:BR A s st) (hn:s.n≤90000) (hz:ts.length≤1000) (q:∀ag,BR A (pushS ts s) ag->Q .none ag):Fn C (r+1) (C.ma .ak .bK) [.ref A.B,.lst vs] st Q:=by
  subst e;exact Fp h (by exact Zl hn rfl) hz q
theorem Cu {f:Tm} {as:List Tm} {w:Way}:eK (.call f as) w s=if isLet f as then pushS (as.map (fun a=>nd a .val)++[tk .ic (.call f as) w]) s else pushS (nd f .val::as.map (fun a=>nd a .val)++[tk .d8 (.call f as) w]) s:=rfl
theorem CC {f:Tm} {as:List Tm} {w:Way} {Q:AV->St->Prop} (h:BR A s st) (hn:s.n≤90000) (hz:slim (.call f as)) (q:kI A s (eK (.call f as) w s) Q):Fn C (r+6) (C.fa .iT) [.ref A.B,bT (.call f as),.int w.i] st Q:=by
  refine Ag (C.dM .iT _ rfl).2.1 rfl ?_
  refine Xc (EC (w:=.val) rfl (ts:=as) hz.1 (Aa (El rfl ⟨.lst (iZ as),Ab (by decide) rfl,by rw [AZ],?_⟩)))
  refine Xc (Ao (AB (Aj rfl (Ec (El rfl (En (Fn.cU (r+1) (by exact Zr rfl) (E3 hz ⟨_,rfl,?_⟩))))))))
  have Jt:=hz.1
  rw [Cu] at q
  cases hl:isLet f as with
  | true=>
    rw [hl,if_pos rfl] at q
    show X C _ _ _ _ _
    refine Xc (Ap (AY h (fun q=>El rfl q) rfl rfl (Ec ?_)))
    refine C1 (El rfl (Ah (Ec (Ax (by decide) rfl (Ec (Ak (Ec (El rfl (Ec (El rfl ((Ec (Ah (En ⟨aw rfl,En ⟨_,As,(En ⟨aw rfl,⟨_,_,rfl,rfl,by simp;exact Zl Jt rfl,(En ?_)⟩⟩)⟩⟩))))))))))))))
    exact Fn.cU (r+1) (by exact Zr rfl) (DG (ts:=as.map (fun a=>nd a .val)++[tk .ic (.call f as) w]) (by rw [List.map_append];rfl) h hn (by simp;exact Zl Jt rfl) fun ag h'=>⟨rfl,Ac (Ac (q A ag (Le.refl ..) h'))⟩)
  | false=>
    rw [hl,if_neg (by decide)] at q
    show X C _ _ _ _ _
    refine Xc (Ap (AY h (fun q=>El rfl q) rfl rfl (Ec ?_)))
    refine C1 (C1 (Ah (Ec (Ax (by decide) rfl (Ec (Ak (Ec (Aa (El rfl ⟨bT f,Ab (by decide) rfl,(Ec (Ar rfl ((Ec (Ah (En ⟨aw rfl,En ⟨_,As,(En ⟨aw rfl,(El rfl ⟨_,_,rfl,rfl,by simp;exact Uu Jt,(Ah (Ec (Ax (by decide) rfl (Ec (Ak (Ec (El rfl (Ec (El rfl ((Ec (Ah (En ⟨aw rfl,En ⟨_,As,(En ⟨aw rfl,⟨_,_,rfl,rfl,by simp;exact Zl Jt rfl,(En ?_)⟩⟩)⟩⟩)))))))))))))⟩)⟩)⟩⟩))))))⟩)))))))))
    exact Fn.cU (r+1) (by exact Zr rfl) (DG (ts:=nd f .val::as.map (fun a=>nd a .val)++[tk .d8 (.call f as) w]) (by rw [List.map_append,List.map_cons];rfl) h hn (by simp;exact Zl Jt rfl) fun ag h'=>⟨rfl,Ac (Ac (q A ag (Le.refl ..) h'))⟩)
theorem DQ {t:Tm} {w:Way} {l:Int} {Q:AV->St->Prop} (h:BR A s st) (hh:s.here=some l) (hn:s.n≤90000) (hz:slim t) (q:kI A s (eK t w s) Q):Fn C (r+8) (C.fa .iQ) [.ref A.B,cX (nd t w)] st Q:=by
  refine Ag (C.dM .iQ _ rfl).2.1 rfl ?_
  have small:∀{ρ:Loc} {Q:AV->St->Prop},kI A s (eK t w s) Q->(∀f as,t≠.call f as)->(∀a b c,t≠.bt a b c)->(∀a b,t≠.seq a b)->(∀a,t≠.p1 a)->(∀a b,t≠.p2 a b)->(∀a b,t≠.set a b)->Fn C (r+7) (C.fa .gY) [.ref A.B,bT t,.int w.i] st Q:=by
    intro ρ Q q h1 h2 h3 h4 h5 h6
    refine Ag (C.dM .gY _ rfl).2.1 rfl ?_
    cases t with
    | cst c=>exact Xc (Ao (Al (Aa (El rfl ⟨_,An (by decide) rfl rfl,(Ar rfl ⟨true,rfl,(Xc (Ap (Aj rfl (Ec (El rfl (Ec (El rfl (Ec (El rfl (En (CX h hh hn fun A' ag le h'=>⟨rfl,Ac (Ac (q A' ag le h'))⟩)))))))))))⟩)⟩))))
    | loc n=>exact Xc (Ao (Al (Aa (El rfl ⟨_,An (by decide) rfl rfl,(Ar rfl ⟨false,rfl,(Xc (Ao (Al (Aa (El rfl ⟨_,An (by decide) rfl rfl,(Ar rfl ⟨true,rfl,(Xc (Ap (Aj rfl (Ec (El rfl (Ec (El rfl (Ec (El rfl (En (CW h hh hn fun A' ag le h'=>⟨rfl,Ac (Ac (Ac (q A' ag le h')))⟩)))))))))))⟩)⟩)))))⟩)⟩))))
    | bI n=>exact Xc (Ao (Al (Aa (El rfl ⟨_,An (by decide) rfl rfl,(Ar rfl ⟨false,rfl,(Xc (Ao (Al (Aa (El rfl ⟨_,An (by decide) rfl rfl,(Ar rfl ⟨false,rfl,(Xc (Ao (Al (Aa (El rfl ⟨_,An (by decide) rfl rfl,(Ar rfl ⟨true,rfl,(Xc (Ap (Aj rfl (Ec (El rfl (Ec (El rfl (Ec (El rfl (En (Ch h hh hn fun A' ag le h'=>⟨rfl,Ac (Ac (Ac (Ac (q A' ag le h'))))⟩)))))))))))⟩)⟩)))))⟩)⟩)))))⟩)⟩))))
    | lam lab ps b=>exact Xc (Ao (Al (Aa (El rfl ⟨_,An (by decide) rfl rfl,(Ar rfl ⟨false,rfl,(Xc (Ao (Al (Aa (El rfl ⟨_,An (by decide) rfl rfl,(Ar rfl ⟨false,rfl,(Xc (Ao (Al (Aa (El rfl ⟨_,An (by decide) rfl rfl,(Ar rfl ⟨false,rfl,(Xc (Ao (Al (Aa (El rfl ⟨_,An (by decide) rfl rfl,(Ar rfl ⟨true,rfl,(Xc (Ap (Aj rfl (Ec (El rfl (Ec (El rfl (Ec (El rfl (En (Cg h hh hn (Nat.le_trans (show ps.length≤100 from hz) (by exact aw rfl)) fun A' ag le h'=>⟨rfl,Ac (Ac (Ac (Ac (Ac (q A' ag le h')))))⟩)))))))))))⟩)⟩)))))⟩)⟩)))))⟩)⟩)))))⟩)⟩))))
    | call f as=>exact absurd rfl (h1 f as)
    | bt a b c=>exact absurd rfl (h2 a b c)
    | seq a b=>exact absurd rfl (h3 a b)
    | p1 a=>exact absurd rfl (h4 a)
    | p2 a b=>exact absurd rfl (h5 a b)
    | set a b=>exact absurd rfl (h6 a b)
  cases t with
  | call f as=>exact Hh rfl (Xc (Ao (Al (Aa (El rfl ⟨_,An (by decide) rfl rfl,(Ar rfl ⟨true,rfl,(Xc (Ap (Aj rfl (Ec (El rfl (Ec (El rfl (Ec (Aa (El rfl ⟨_,Ab (by decide) rfl,(En (Fn.cU (r+6) (by exact Zr rfl) (CC h hn hz fun A' ag le h'=>⟨rfl,Ac (Ac (q A' ag le h'))⟩)))⟩))))))))))⟩)⟩)))))
  | bt a b c=>exact Hh rfl (Xc (Ao (Al (Aa (El rfl ⟨_,An (by decide) rfl rfl,(Ar rfl ⟨false,rfl,(Xc (Ao (Al (Aa (El rfl ⟨_,An (by decide) rfl rfl,(Ar rfl ⟨true,rfl,(Xc (Ap (Aj rfl (Ec (El rfl (Ec (El rfl (Ec (Aa (El rfl ⟨_,Ab (by decide) rfl,(En (Fn.cU (r+6) (by exact Zr rfl) (G7 h hn fun A' ag le h'=>⟨rfl,Ac (Ac (Ac (q A' ag le h')))⟩)))⟩))))))))))⟩)⟩)))))⟩)⟩)))))
  | seq a b=>exact Hh rfl (Xc (Ao (Al (Aa (El rfl ⟨_,An (by decide) rfl rfl,(Ar rfl ⟨false,rfl,(Xc (Ao (Al (Aa (El rfl ⟨_,An (by decide) rfl rfl,(Ar rfl ⟨false,rfl,(Xc (Ao (Al (Aa (El rfl ⟨_,An (by decide) rfl rfl,(Ar rfl ⟨true,rfl,(Xc (Ap (Aj rfl (Ec (El rfl (Ec (El rfl (Ec (Aa (El rfl ⟨_,Ab (by decide) rfl,(En (Fn.cU (r+6) (by exact Zr rfl) (Dn h hn fun A' ag le h'=>⟨rfl,Ac (Ac (Ac (Ac (q A' ag le h'))))⟩)))⟩))))))))))⟩)⟩)))))⟩)⟩)))))⟩)⟩)))))
  | p1 a=>exact Hh rfl (Xc (Ao (Al (Aa (El rfl ⟨_,An (by decide) rfl rfl,(Ar rfl ⟨false,rfl,(Xc (Ao (Al (Aa (El rfl ⟨_,An (by decide) rfl rfl,(Ar rfl ⟨false,rfl,(Xc (Ao (Al (Aa (El rfl ⟨_,An (by decide) rfl rfl,(Ar rfl ⟨false,rfl,(Xc (Ao (Al (Aa (El rfl ⟨_,An (by decide) rfl rfl,(Ar rfl ⟨true,rfl,(Xc (Ap (Aj rfl (Ec (El rfl (Ec (El rfl (Ec (Aa (El rfl ⟨_,Ab (by decide) rfl,(En (Fn.cU (r+6) (by exact Zr rfl) (vL h hn fun A' ag le h'=>⟨rfl,Ac (Ac (Ac (Ac (Ac (q A' ag le h')))))⟩)))⟩))))))))))⟩)⟩)))))⟩)⟩)))))⟩)⟩)))))⟩)⟩)))))
  | p2 a b=>exact Hh rfl (Xc (Ao (Al (Aa (El rfl ⟨_,An (by decide) rfl rfl,(Ar rfl ⟨false,rfl,(Xc (Ao (Al (Aa (El rfl ⟨_,An (by decide) rfl rfl,(Ar rfl ⟨false,rfl,(Xc (Ao (Al (Aa (El rfl ⟨_,An (by decide) rfl rfl,(Ar rfl ⟨false,rfl,(Xc (Ao (Al (Aa (El rfl ⟨_,An (by decide) rfl rfl,(Ar rfl ⟨true,rfl,(Xc (Ap (Aj rfl (Ec (El rfl (Ec (El rfl (Ec (Aa (El rfl ⟨_,Ab (by decide) rfl,(En (Fn.cU (r+6) (by exact Zr rfl) (vK h hn fun A' ag le h'=>⟨rfl,Ac (Ac (Ac (Ac (Ac (q A' ag le h')))))⟩)))⟩))))))))))⟩)⟩)))))⟩)⟩)))))⟩)⟩)))))⟩)⟩)))))
  | set a b=>exact Hh rfl (Xc (Ao (Al (Aa (El rfl ⟨_,An (by decide) rfl rfl,(Ar rfl ⟨false,rfl,(Xc (Ao (Al (Aa (El rfl ⟨_,An (by decide) rfl rfl,(Ar rfl ⟨false,rfl,(Xc (Ao (Al (Aa (El rfl ⟨_,An (by decide) rfl rfl,(Ar rfl ⟨false,rfl,(Xc (Ao (Al (Aa (El rfl ⟨_,An (by decide) rfl rfl,(Ar rfl ⟨false,rfl,(Xc (Ao (Al (Aa (El rfl ⟨_,An (by decide) rfl rfl,(Ar rfl ⟨false,rfl,(Xc (Ao (Al (Aa (El rfl ⟨_,An (by decide) rfl rfl,(AC (Ec (Ar rfl (Ec (Ar rfl (En ⟨aw rfl,⟨true,rfl,(Xc (Ap (Aj rfl (Ec (El rfl (Ec (El rfl (Ec (Aa (El rfl ⟨_,Ab (by decide) rfl,(En (Fn.cU (r+6) (by exact Zr rfl) (Fb h hn fun A' ag le h'=>⟨rfl,Ac (Ac (Ac (Ac (Ac (Ac (Ac (q A' ag le h')))))))⟩)))⟩))))))))))⟩⟩))))))⟩)))))⟩)⟩)))))⟩)⟩)))))⟩)⟩)))))⟩)⟩)))))⟩)⟩)))))
  | _=>exact Hh rfl (Xc (Ao (Al (Aa (El rfl ⟨_,An (by decide) rfl rfl,(Ar rfl ⟨false,rfl,(Xc (Ao (Al (Aa (El rfl ⟨_,An (by decide) rfl rfl,(Ar rfl ⟨false,rfl,(Xc (Ao (Al (Aa (El rfl ⟨_,An (by decide) rfl rfl,(Ar rfl ⟨false,rfl,(Xc (Ao (Al (Aa (El rfl ⟨_,An (by decide) rfl rfl,(Ar rfl ⟨false,rfl,(Xc (Ao (Al (Aa (El rfl ⟨_,An (by decide) rfl rfl,(Ar rfl ⟨false,rfl,(Xc (Ao (Al (Aa (El rfl ⟨_,An (by decide) rfl rfl,(AC (Ec (Ar rfl (Ec (Ar rfl (En ⟨aw rfl,⟨false,rfl,(Xc (Ap (Aj rfl (Ec (El rfl (Ec (El rfl (Ec (Aa (El rfl ⟨_,Ab (by decide) rfl,(En (small (ρ:=[]) (fun A' ag le h'=>⟨rfl,Ac (Ac (Ac (Ac (Ac (Ac (Ac (q A' ag le h')))))))⟩) (fun _ _=>Tm.noConfusion) (fun _ _ _=>Tm.noConfusion) (fun _ _=>Tm.noConfusion) (fun _=>Tm.noConfusion) (fun _ _=>Tm.noConfusion) (fun _ _=>Tm.noConfusion)))⟩))))))))))⟩⟩))))))⟩)))))⟩)⟩)))))⟩)⟩)))))⟩)⟩)))))⟩)⟩)))))⟩)⟩)))))
end Mine
end
section
namespace Mine
variable {C:Cx} {r:Nat} {ρ:Loc} {st:St} {A:Ad} {s:Cs}
noncomputable def bj (hs:List Int) (s:Cs):Cs:={s with held:=hs}
noncomputable def I1 (g x:Int) (w:Way) (s:Cs):Cs:=match w with
  | .cj=>bO (.set g x) s
  | w=>cq w (s.last+1) (jb .aA (bO (.set g x) s))
noncomputable def nM (op:Int) (xs:List Int) (w:Way) (s:Cs):Cs:=cq w (s.last+1) (bO (.prim (s.last+1) op xs) (cT s))
noncomputable def cQ (l:List (Int×Int)) (s:Cs):Cs:=l.foldl (fun s px=>gQ px.1 px.2 s) s
noncomputable def cW (l:Int) (s:Cs):Cs:={s with here:=some l}
noncomputable def jd (x:Int) (xs:List Int) (w:Way) (s:Cs):Cs:=match w with
  | .tail=>cK (.call x xs (-1) (d7 s)) s
  | .val=>qp (s.last+1) (cW (s.last+2) (cK (.call x xs (s.last+2) (-1)) (aO [s.last+1] (-1) (cT s))))
  | .cj=>cW (s.last+2) (cK (.call x xs (s.last+2) (-1)) (aO [] (s.last+1) (cT s)))
noncomputable def tn (w:Nm) (way:Way) (ns:List Int):gJ:=⟨w,none,way,ns⟩
noncomputable def iV (b c:Tm) (x:Int) (w:Way) (s:Cs):Cs:=match w with
  | .tail=>pushS [tn .aY .val [s.last+1],nd b .tail,tn .aY .val [s.last+2],nd c .tail] (cK (.branch x (s.last+1) (s.last+2)) (aO [] (-1) (aO [] (-1) s)))
  | .val=>pushS [tn .aY .val [s.last+1],nd b .val,tn .cY .val [s.last+4],tn .aY .val [s.last+2],nd c .val,tn .cY .val [s.last+4],tn .aY .val [s.last+4],tn .cP .val [s.last+3]]
      (cK (.branch x (s.last+1) (s.last+2)) (aO [s.last+3] (-1) (cT (aO [] (-1) (aO [] (-1) s)))))
  | .cj=>pushS [tn .aY .val [s.last+1],nd b .cj,tn .cY .cj [s.last+3],tn .aY .val [s.last+2],nd c .cj,tn .cY .cj [s.last+3],tn .aY .val [s.last+3],tn .cP .val []]
      (cK (.branch x (s.last+1) (s.last+2)) (aO [] (-1) (aO [] (-1) (aO [] (-1) s))))
noncomputable def Ih (xs:List Int) (s:Cs):Cs:={s with n:=s.n+xs.length,held:=s.held++xs}
theorem Db {e k:PE} {hs ts:List Int} {Q:AV->St->Prop} (h:BR A s st) (hh:s.held=hs++ts) (hn:s.n≤100000) (he:∀{Q:AV->St->Prop},Q (.ref A.B) st->E C (r+1) e ρ st Q) (hk:∀{Q:AV->St->Prop},Q (.int ts.length) st->E C (r+1) k ρ st Q)
    (q:∀A' ag,Le A A' s.last->BR A' (bj hs s) ag->Q (.lst (ts.map .int)) ag):E C (r+1) (.aB e .ez [k]) ρ st Q:=
  AY h he rfl rfl (Ec (hk (En (zF h hh hn q))))
theorem BR.J6 {A:Ad} {s:Cs} {l:Int} {k:KP} (h:BR A s st) (hb:ae s.blocks l=some k):gp st (.ref (A.bu l).1) .aC=some (.int l):=h.gc hb (by decide) rfl
theorem CZ {b e:PE} {la:KL} {l:Int} {Q:Fl->Loc->St->Prop} (h:BR A s st) (hh:s.here=some l) (hb:∀{Q:AV->St->Prop},Q (.ref A.B) st->E C r b ρ st Q) (he:∀{Q:AV->St->Prop},Q (qk la) st->E C r e ρ st Q)
    (q:∀ag,BR A (cK la s) ag->Q .next ρ ag):X1 C r (.aP (.attr b .cH) .bw e) ρ st Q:=by
  refine xE (h.mU hh) fun k hk=>?_
  exact BQ (he (Du h hh hb ⟨_,.aS,_,_,rfl,h.k1 hk,h.k2 hk,by decide,aw rfl,q _ (h.last hh hk la)⟩))
theorem E9 {g:Int} {e:Tm} {w:Way} {l x:Int} {hs:List Int} {Q:AV->St->Prop} (h:BR A s st) (hh:s.here=some l) (hn:s.n≤90000) (hx:s.held=hs++[x]) (q:kI A s (I1 g x w (bj hs s)) Q):Fn C (r+6) (C.fa .jK) [.ref A.B,cX (tk .bV (.set g e) w)] st Q:=by
  refine Ag (C.dM .jK _ rfl).2.1 rfl ?_
  refine Xc (Au (Db (ts:=[x]) h hx (by exact Zl hn rfl) (fun q=>El rfl q) (fun q=>Ae q) fun A1 ao ow h1=>?_))
  rw [←ow.B]
  refine Xc (Ap (AY h1 (fun q=>El rfl q) rfl rfl (Ec ?_)))
  refine Ax (by decide) rfl (Ec (Bc (Ec (Aa (El rfl ⟨_,Ab (by decide) rfl,(Ec (Aa (Aa (El rfl ⟨_,Ab (by decide) rfl,⟨_,Ab (by decide) rfl,(Ec (El rfl (En ?_)))⟩⟩))))⟩)))))
  refine ⟨_,CS,En (Fn.cU (r+1) (by exact Zr rfl) (Fr (op:=.set g x) h1 hh (show s.n≤100000 by exact Zl hn rfl) fun bg h2=>⟨rfl,?_⟩))⟩
  have go:∀{w':Way} {ρ:Loc},kI A s (cq w' (s.last+1) (jb .aA (bO (.set g x) (bj hs s)))) Q->ae ρ .aa=some (.ref A1.B)->ae ρ .az=some (cX (tk .bV (.set g e) w'))->∀{Q':AV->St->Prop},(∀ag,Q .none ag->Q' .none ag)->E C (r+5) (.aB (.loc .aa) .dw [(.attr (.loc .az) .aI),(.aB (.loc .aa) .jk [(.bI .bz)])]) ρ bg Q':=by
    intro w' ρ q e1 e2 Q' hq
    refine AY h2 (fun q=>El e1 q) rfl rfl (Ec (Aa (El e2 ⟨.int w'.i,Ab (by decide) rfl,Ec (AY h2 (fun q=>El e1 q) rfl rfl (Ec (Bx (En ?_))))⟩)))
    exact Fn.cU (r+4) (by exact Zr rfl) (xd (c:=.aA) h2 hh (show s.n+1≤100000 by exact NY hn) fun eJ h3=>En (Fn.cU (r+4) (by exact Zr rfl) (Co h3 hh (show s.n+1+1≤100000 by exact W9 hn) fun fA h4=>hq _ (q A1 fA ow h4))))
  cases w with
  | cj=>exact ef rfl (Ac (Ac (q A1 bg ow h2)))
  | val=>exact AH rfl (Xc (Ap (go (w':=.val) q rfl rfl fun ag hq=>⟨rfl,Ac (Ac hq)⟩)))
  | tail=>exact AH rfl (Xc (Ap (go (w':=.tail) q rfl rfl fun ag hq=>⟨rfl,Ac (Ac hq)⟩)))
theorem C7 {t:Tm} {op:Int} {as:List Tm} {w:Way} {l:Int} {hs xs:List Int} {Q:AV->St->Prop} (ht:bT t=.obj .fk [(.cN,.int op),(.aQ,.lst (iZ as))]) (h:BR A s st) (hh:s.here=some l) (hn:s.n≤90000) (hx:s.held=hs++xs) (hl:xs.length=as.length) (hz:xs.length≤100)
    (q:kI A s (nM op xs w (bj hs s)) Q):Fn C (r+6) (C.fa .iP) [.ref A.B,cX (tk .cM t w)] st Q:=by
  refine Ag (C.dM .iP _ rfl).2.1 rfl ?_
  refine Xc (Au (AY h (fun q=>El rfl q) rfl rfl (En (Fn.cU (r+2) (by exact Zr rfl) (BH h fun ao h1=>?_)))))
  have node:gp ao (cX (tk .cM t w)) .af=some (.obj .fk [(.cN,.int op),(.aQ,.lst (iZ as))]):=Ab (by decide) (by rw [←ht];rfl)
  refine Xc (Ap (AY h1 (fun q=>El rfl q) rfl rfl (Ec ?_)))
  refine Ax (by decide) rfl (Ec (El rfl (Ec (Ak (Ec (Aa (Aa (El rfl ⟨_,node,⟨_,Ab (by decide) rfl,(Ec ?_)⟩⟩))))))))
  refine Db (r:=r+4) (hs:=hs) (ts:=xs) h1 hx (show s.n≤100000 by exact Zl hn rfl) (fun q=>El rfl q) (fun q=>AX (Aa (Aa (El rfl ⟨_,node,.lst (iZ as),Ab (by decide) rfl,iZ as,rfl,by rw [AZ,List.length_map];exact Us hl hz,by rw [AZ,List.length_map,←hl];exact q⟩)))) fun A2 bg sv h2=>?_
  rw [←sv.B]
  refine En ⟨_,CS,En (Fn.cU (r+1) (by exact Zr rfl) (Fr (op:=.prim (s.last+1) op xs) h2 hh (show s.n≤100000 by exact Zl hn rfl) fun eJ h3=>⟨rfl,?_⟩))⟩
  have uI:Le A A2 s.last:=⟨sv.B,sv.P,fun i hi=>sv.bu i (show i≤s.last+1 by exact Int.le_add_one hi)⟩
  refine Xc (Ap (AY h3 (fun q=>El rfl q) rfl rfl (Ec (Aa (El rfl ⟨.int w.i,Ab (by decide) rfl,Ec (El rfl (En ?_))⟩)))))
  exact Fn.cU (r+4) (by exact Zr rfl) (Co h3 hh (show s.n+1≤100000 by exact NY hn) fun fA h4=>⟨rfl,Ac (q A2 fA uI h4)⟩)
theorem CT {l:Int} {Q:AV->St->Prop} (h:BR A s st) (hb:(ae s.blocks l).isSome) (q:kI A s (cW l s) Q):Fn C (r+6) (C.fa .gX) [.ref A.B,cX (tn .aY .val [l])] st Q:=by
  refine xE (Option.isSome_iff_exists.mp hb) fun k hb=>?_
  refine Ag (C.dM .gX _ rfl).2.1 rfl ?_
  refine Xc (BQ (AU (Aa (El rfl ⟨.ref A.P,At h.rep.gB h.rep.hF (by decide) rfl,.aE,_,AK h.rep.gP h.rep.yQ,rfl,rfl,Ec ?_⟩))))
  refine Ai (Aa (El rfl ⟨_,Ab (by decide) rfl,(Ae ⟨_,rfl,(En ?_)⟩)⟩))
  refine Fn.cU (r+1) (by exact Zr rfl) (qJ h hb (El rfl ⟨A.B,.ak,A.dB,_,rfl,h.rep.gB,h.rep.hF,by decide,aw rfl,Ac (q A _ (Le.refl ..) ⟨?_,⟨h.wf.blocks,fun i e=>?_,h.wf.ie,h.wf.later,h.wf.nw,h.wf.nh,h.wf.nl,h.wf.no,h.wf.nb,h.wf.np⟩⟩)⟩))
  · exact Rep.mid (l1:=[(A.B,.inst .ak A.dB)]) (o:=.aD (o3 (aX A (cW l s)))) (o0:=.aD (o3 (aX A s))) (l2:=(dt (aX A s)).drop 2) h.rep
  · subst e;show (ae s.blocks l).isSome;rw [hb];rfl
theorem vo {l x to:Int} {hs:List Int} {Q:AV->St->Prop} (h:BR A s st) (hh:s.here=some l) (hn:s.n≤90000) (hx:s.held=hs++[x]) (q:kI A s (cK (.gm to [x]) (bj hs s)) Q):Fn C (r+6) (C.fa .fF) [.ref A.B,cX (tn .cY .val [to])] st Q:=by
  refine Ag (C.dM .fF _ rfl).2.1 rfl ?_
  refine Xc (Au (AE (Al (Aa (El rfl ⟨_,Ab (by decide) rfl,(Ar rfl ⟨true,rfl,?_⟩)⟩)))))
  refine Db (ts:=[x]) h hx (by exact Zl hn rfl) (fun q=>El rfl q) (fun q=>Ae q) fun A1 ao ow h1=>?_
  rw [←ow.B]
  refine Xc (CZ h1 hh (fun q=>El rfl q) (la:=.gm to [x]) (fun q=>?_) fun bg h2=>Ac (q A1 bg ow h2))
  refine Aj rfl (Ec (Ai (Aa (El rfl ⟨_,Ab (by decide) rfl,(Ae ⟨_,rfl,(Ec (El rfl (En ?_)))⟩)⟩))))
  exact Fn.cU (r+3) (by exact Zr rfl) ((BI (as:=[x]) (aw rfl)).mono fun v ag ⟨e1,e2⟩=>by subst e1;subst e2;exact q)
theorem vp {l to:Int} {Q:AV->St->Prop} (h:BR A s st) (hh:s.here=some l) (q:kI A s (cK (.gm to []) s) Q):Fn C (r+6) (C.fa .fF) [.ref A.B,cX (tn .cY .cj [to])] st Q:=by
  refine Ag (C.dM .fF _ rfl).2.1 rfl ?_
  refine Xc (Au (AE (Al (Aa (El rfl ⟨_,Ab (by decide) rfl,(Ar rfl ⟨false,rfl,(Ah (En ⟨aw rfl,?_⟩))⟩)⟩)))))
  refine Xc (CZ h hh (fun q=>El rfl q) (la:=.gm to []) (fun q=>?_) fun bg h2=>Ac (q A bg (Le.refl ..) h2))
  refine Aj rfl (Ec (Ai (Aa (El rfl ⟨_,Ab (by decide) rfl,(Ae ⟨_,rfl,(Ec (El rfl (En ?_)))⟩)⟩))))
  exact Fn.cU (r+3) (by exact Zr rfl) ((BI (as:=[]) (aw rfl)).mono fun v ag ⟨e1,e2⟩=>by subst e1;subst e2;exact q)
theorem DR {xs:List Int} {Q:AV->St->Prop} (h:BR A s st) (hn:s.n≤90000) (hz:xs.length≤100) (q:kI A s (Ih xs s) Q):Fn C (r+6) (C.fa .iR) [.ref A.B,cX (tn .cP .val xs)] st Q:=by
  refine Ag (C.dM .iR _ rfl).2.1 rfl ?_
  refine Xc (Ap (wX (Aa (El rfl ⟨.ref A.H,At h.rep.gB h.rep.hF (by decide) rfl,A.H,_,rfl,h.rep.gH,Aa (El rfl ⟨.lst (xs.map .int),Ab (by decide) rfl,_,xs.map .int,h.rep.gH,rfl,?_,rfl,Ac (q A _ (Le.refl ..) ⟨?_,h.wf.held (Nat.le_add_right ..) ?_⟩)⟩)⟩))))
  · have:=h.wf.nh
    show (s.held.map AV.int).length+_≤_
    simp;exact Ur hz hn this
  · have h1:=h.rep.I3 (s.held++xs)
    rw [List.map_append] at h1
    exact h1
  · have:=h.wf.nh
    simp;exact this
end Mine
end
section
namespace Mine
variable {C:Cx} {r:Nat} {ρ:Loc} {st:St} {A:Ad} {s:Cs}
theorem DK:∀(l:List (Int×Int)) (s:Cs),(cQ l s).n=s.n+l.length
  | [],_=>rfl
  | p::l,s=>by
    show (cQ l (gQ p.1 p.2 s)).n=_
    rw [DK l];show s.n+1+l.length=s.n+(l.length+1);exact Uq
theorem EY:∀(l:List (Int×Int)) (s:Cs),(cQ l s).here=s.here
  | [],_=>rfl
  | p::l,s=>EY l (gQ p.1 p.2 s)
theorem Cv:∀(l:List (Int×Int)) (s:Cs),(cQ l s).last=s.last
  | [],_=>rfl
  | p::l,s=>Cv l (gQ p.1 p.2 s)
theorem BR.tF {n x:Int} (h:BR A s st):BR A (gQ n x s) (st.upd A.O (.dict (putK (s.other.map fun x=>(x.1,AV.int x.2)) n (.int x)))):=by
  have h1:=h.rep.Lv (putK s.other n x)
  rw [←C4 AV.int s.other n x] at h1
  refine ⟨h1,h.wf.other (Nat.le_succ _) ?_⟩
  have:=h.wf.no
  have h2:=AN s.other n x
  exact Uo this h2
theorem Fa {lab:Int} {ps:List Int} {b:Tm} {as:List Tm} {w:Way} {hs xs:List Int} {Q:AV->St->Prop} (h:BR A s st) (hn:s.n≤80000) (hx:s.held=hs++xs) (hl:xs.length=as.length) (hp:ps.length=as.length) (hz:xs.length≤100)
    (q:kI A s (pushS [nd b w] (cQ (ps.zip xs) (bj hs s))) Q):Fn C (r+6) (C.fa .jL) [.ref A.B,cX (tk .ic (.call (.lam lab ps b) as) w)] st Q:=by
  refine Ag (C.dM .jL _ rfl).2.1 rfl ?_
  refine Xc (Au (Db (hs:=hs) (ts:=xs) h hx (show s.n≤100000 by exact Zl hn rfl) (fun q=>El rfl q) (fun q=>AX (Aa (Aa (El rfl ⟨bT (.call (.lam lab ps b) as),Ab (by decide) rfl,.lst (iZ as),Ab (by decide) rfl,iZ as,rfl,by rw [AZ,List.length_map];exact Um hl hz hp,by rw [AZ,List.length_map,←hl];exact q⟩)))) fun A1 ao ow h1=>?_))
  rw [←ow.B]
  refine Xc (Au (Aa (Aa (El rfl ⟨_,Ab (by decide) rfl,⟨bT (.lam lab ps b),Ab (by decide) rfl,?_⟩⟩))))
  refine Xc (wG (Ec (Aa (El rfl ⟨.lst (ps.map .int),Ab (by decide) rfl,Ec (El rfl (En ⟨ps.map .int,xs.map .int,rfl,fun k ρ' ag=>(∀x,x≠.aU->x≠.aW->ae ρ' x=ae (putK (putK ((nQ,oM).1.zip [.ref A1.B,cX (tk .ic (.call (.lam lab ps b) as) w)]) .ai (.lst (xs.map .int))) .jJ (bT (.lam lab ps b))) x)∧BR A1 (cQ ((ps.zip xs).take k) (bj hs s)) ag,?_,?_,?_⟩))⟩))))
  · exact ⟨fun _ _ _=>rfl,h1⟩
  · rintro k ρ' ag K2 Wc ⟨h2,h3⟩
    rw [List.length_map] at K2 Wc
    have e1:(ps.map AV.int).getD k .none=.int ps[k]:=by simp [List.getD_eq_getElem?_getD,K2]
    have e2:(xs.map AV.int).getD k .none=.int xs[k]:=by simp [List.getD_eq_getElem?_getD,Wc]
    rw [e1,e2]
    have hO:ag A1.O=some (.dict ((cQ ((ps.zip xs).take k) (bj hs s)).other.map fun x=>(x.1,.int x.2))):=h3.rep.gO
    refine Xc (Br (El (by rw [Af,if_pos rfl]) (Aa (El (by rw [Af,if_neg (by decide),Af,if_neg (by decide)];exact h2 .aa (by decide) (by decide)) ⟨.ref A1.O,At h3.rep.gB h3.rep.hF (by decide) rfl,El (by rw [Af,if_neg (by decide),Af,if_pos rfl]) ⟨A1.O,ag.upd A1.O (.dict (putK ((cQ ((ps.zip xs).take k) (bj hs s)).other.map fun x=>(x.1,AV.int x.2)) ps[k] (.int xs[k]))),rfl,?_,Ac ⟨fun x PG sA=>?_,?_⟩⟩⟩))))
    · refine setOk.d hO ?_ (rfl)
      have:=h3.wf.no
      rw [DK] at this
      have h4:((ps.zip xs).take k).length≤100:=by simp;exact Ul K2 hp hl hz
      rw [List.length_map]
      have:(bj hs s).n=s.n:=rfl
      exact Uk this hn h4 (by assumption)
    · rw [Af,if_neg sA,Af,if_neg PG];exact h2 x PG sA
    · have hk:k<(ps.zip xs).length:=by rw [List.length_zip];exact Uj K2 hp hl
      have e3:(ps.zip xs).take (k+1)=(ps.zip xs).take k++[(ps[k],xs[k])]:=by rw [List.take_add_one,List.getElem?_eq_getElem hk,List.getElem_zip];rfl
      have e4:cQ ((ps.zip xs).take (k+1)) (bj hs s)=gQ ps[k] xs[k] (cQ ((ps.zip xs).take k) (bj hs s)):=by rw [e3];unfold cQ;rw [List.foldl_append];rfl
      rw [e4];exact h3.tF
  · rintro ρ' ag ⟨h2,h3⟩
    rw [List.take_of_length_le (by simp)] at h3
    have ed:(cQ (ps.zip xs) (bj hs s)).last=s.last:=Cv ..
    have PY:(cQ (ps.zip xs) (bj hs s)).n≤80100:=by
      rw [DK,List.length_zip];show s.n+_≤_;exact Ui hl hz hp hn
    refine Xc (Ap (AY h3 (fun q=>El (h2 .aa (by decide) (by decide)) q) rfl rfl (Ec (Ak (Ec (Aa (El (h2 .jJ (by decide) (by decide)) ⟨bT b,Ab (by decide) rfl,Ec (Aa (El (h2 .az (by decide) (by decide)) ⟨.int w.i,Ab (by decide) rfl,Ec (Ah (En ⟨aw rfl,En ?_⟩))⟩))⟩)))))))
    exact Fn.cU (r+3) (by exact Zr rfl) (xc (t:=nd b w) h3 (by exact Zl PY rfl) fun fA h4=>⟨rfl,Ac (q A1 fA ow h4)⟩)
theorem BR.MT {l:Int} {k:KP} (h:BR A s st) (hb:ae s.blocks l=some k):BR A (cW l s) (st.upd A.dB (.aD (o3 (aX A (cW l s))))):=
  ⟨Rep.mid (l1:=[(A.B,.inst .ak A.dB)]) (o:=.aD (o3 (aX A (cW l s)))) (o0:=.aD (o3 (aX A s))) (l2:=(dt (aX A s)).drop 2) h.rep,
   ⟨h.wf.blocks,fun i e=>by subst e;show (ae s.blocks l).isSome;rw [hb];rfl,h.wf.ie,h.wf.later,h.wf.nw,h.wf.nh,h.wf.nl,h.wf.no,h.wf.nb,h.wf.np⟩⟩
theorem HN {b e:PE} {l:Int} {k:KP} {Q:Fl->Loc->St->Prop} (h:BR A s st) (hb:ae s.blocks l=some k) (he:∀{Q:AV->St->Prop},Q (.ref A.B) st->E C r b ρ st Q) (hv:∀{Q:AV->St->Prop},Q (.ref (A.bu l).1) st->E C r e ρ st Q)
    (q:∀ag,BR A (cW l s) ag->Q .next ρ ag):X1 C r (.aP b .cH e) ρ st Q:=
  BQ (hv (he ⟨A.B,.ak,A.dB,_,rfl,h.rep.gB,h.rep.hF,by decide,aw rfl,q _ (h.MT hb)⟩))
theorem BL {ps:List Int} {rest:Int} (hw:Wf s):ae (aO ps rest s).blocks (s.last+1)=some ⟨.cw,ps,rest,-1,kg s,ig s,.b4,[],none⟩:=by
  show ae (s.blocks++[(s.last+1,_)]) _=_
  rw [Bp (hw.none (by exact Int.le_refl _)),if_pos rfl]
theorem Cj {ps:List Int} {rest i:Int} (hw:Wf s) (hi:i≤s.last):ae (aO ps rest s).blocks i=ae s.blocks i:=by
  show ae (s.blocks++[(s.last+1,_)]) _=_
  rw [Bp (hw.none (by exact Int.le_refl _)),if_neg (by exact Uh hi)]
theorem A7 {la:KL} {l i:Int} (hh:s.here=some l) (hi:i≠l):ae (cK la s).blocks i=ae s.blocks i:=by
  show ae (jo s.blocks (ig s) fun k=>{k with last:=some la}) i=_
  rw [Cd,Bf hh,if_neg hi]
theorem Az {x:Nm} {l:Int} {k:KP} {Q:AV->St->Prop} (h:BR A s st) (hb:ae s.blocks l=some k) (hx:ae ρ x=some (.ref (A.bu l).1)) (q:Q (.int l) st):E C r (.attr (.loc x) .aC) ρ st Q:=
  Aa (El hx ⟨_,h.J6 hb,q⟩)
theorem Dv {f to v a1:PE} {fx tx vx:Int} {xs:List Int} {Q:AV->St->Prop} (hz:xs.length≤100) (h1:∀{Q:AV->St->Prop},Q (.int fx) st->E C (r+3) f ρ st Q) (h2:∀{Q:AV->St->Prop},Q (.lst (xs.map .int)) st->E C (r+3) a1 ρ st Q) (h3:∀{Q:AV->St->Prop},Q (.int tx) st->E C (r+3) to ρ st Q) (h4:∀{Q:AV->St->Prop},Q (.int vx) st->E C (r+3) v ρ st Q)
    (q:Q (qk (.call fx xs tx vx)) st):E C (r+3) (.call .ec [f,a1,to,v]) ρ st Q:=by
  refine Aj rfl (Ec (h1 (Ec (h2 (Ec (h3 (Ec (h4 (En ?_)))))))))
  exact (Ck (by exact Zl hz rfl)).mono fun v ag ⟨e1,e2⟩=>by subst e1;subst e2;exact q
theorem Kr {x:Nm} {fx:Int} {xs:List Int} {Q:AV->St->Prop} (hx:ae ρ x=some (.lst ((fx::xs).map .int))) (hz:xs.length≤100) (q:Q (.lst (xs.map .int)) st):E C r (.freeze (.slice (.loc x) (some (.int 1)) none)) ρ st Q:=by
  refine Bg (El hx (EE (Ae ⟨1,rfl,EF ⟨_,rfl,by simp;exact Zl hz rfl,?_⟩⟩)))
  rw [List.map_cons,Bv];exact q
theorem Kt {x:Nm} {fx:Int} {xs:List Int} {Q:AV->St->Prop} (hx:ae ρ x=some (.lst ((fx::xs).map .int))) (q:Q (.int fx) st):E C r (.sub (.loc x) (.int 0)) ρ st Q:=
  Ai (El hx (Ae ⟨_,rfl,q⟩))
theorem Le.weak {A A':Ad} {n n':Int} (h:Le A A' n) (hn:n'≤n):Le A A' n':=⟨h.B,h.P,fun i hi=>h.bu i (by exact Int.le_trans hi hn)⟩
theorem DS {f:Tm} {as:List Tm} {w:Way} {l x:Int} {hs xs:List Int} {Q:AV->St->Prop} (h:BR A s st) (hh:s.here=some l) (hn:s.n≤80000) (hx:s.held=hs++(x::xs)) (hl:xs.length=as.length) (hz:xs.length≤100)
    (q:kI A s (jd x xs w (bj hs s)) Q):Fn C (r+6) (C.fa .iS) [.ref A.B,cX (tk .d8 (.call f as) w)] st Q:=by
  have Im:l≤s.last:=h.wf.hle hh
  refine Ag (C.dM .iS _ rfl).2.1 rfl ?_
  have ek:(1:Int)+as.length=((x::xs).length:Nat):=by rw [List.length_cons];exact Ue hl
  refine Xc (Au (Db (hs:=hs) (ts:=x::xs) h hx (show s.n≤100000 by exact Zl hn rfl) (fun q=>El rfl q) (fun q=>AT (Ae (AX (Aa (Aa (El rfl ⟨bT (.call f as),Ab (by decide) rfl,.lst (iZ as),Ab (by decide) rfl,iZ as,rfl,by rw [AZ,List.length_map];exact Ud ek hl hz,_,_,_,rfl,rfl,rfl,by rw [AZ,List.length_map,ek];exact q⟩)))))) fun A1 ao ow h1=>?_))
  rw [←ow.B]
  have V2:(bj hs s).n≤80000:=hn
  cases w with
  | tail=>
    refine AH rfl ?_
    refine Xc (CZ h1 hh (fun q=>El rfl q) (la:=.call x xs (-1) (d7 (bj hs s))) (fun q=>Dv (r:=r+2) hz (fun q=>Kt rfl q) (fun q=>Kr (xs:=xs) rfl hz q) (fun q=>Bc q) (fun q=>AY h1 (fun q=>El rfl q) rfl rfl (En (Fn.cU (r+2) (by exact Nat.le_add_right _ _) (Fq h1 hh q)))) q) fun bg h2=>Xc (HJ (q A1 bg ow h2)))
  | val=>
    refine Av rfl ?_
    refine Xc (Au (AY h1 (fun q=>El rfl q) rfl rfl (En (Fn.cU (r+2) (by exact Zr rfl) (BH h1 fun bg h2=>?_)))))
    have js:=BL (ps:=[s.last+1]) (rest:=-1) h2.wf
    refine Xc (Au (AE (Al (Aa (El rfl ⟨_,Ab (by decide) rfl,(Ar rfl ⟨true,rfl,?_⟩)⟩)))))
    refine AY h2 (fun q=>El rfl q) rfl rfl (Ec ?_)
    refine Ah (Ec (El rfl (En ⟨aw rfl,(Ec (Bc (En ?_)))⟩)))
    refine Fn.cU (r+3) (by exact Zr rfl) (Ef (ps:=[s.last+1]) (rest:=-1) (s:=cT (bj hs s)) h2 hh (show s.n≤100000 by exact Zl hn rfl) fun A3 eJ uI h3=>?_)
    rw [←uI.B]
    have e2:(cT (bj hs s)).last+1=s.last+2:=by show s.last+1+1=_;exact Z2
    rw [e2] at js ⊢
    have hd:l≠s.last+2:=by exact W8 e2 Im
    have yI:=(A7 (s:=aO [s.last+1] (-1) (cT (bj hs s))) (la:=.call x xs (s.last+2) (-1)) hh (Ne.symm hd)).trans js
    refine Xc (CZ h3 hh (fun q=>El rfl q) (la:=.call x xs (s.last+2) (-1)) (fun q=>Dv (r:=r+2) hz (fun q=>Kt rfl q) (fun q=>Kr (xs:=xs) rfl hz q) (fun q=>Az h3 js rfl q) (fun q=>Bc q) q) fun fA h4=>?_)
    refine Xc (HN h4 yI (fun q=>El rfl q) (fun q=>El rfl q) fun tv h5=>?_)
    refine AH rfl ?_
    refine Xc (Ap (By (Aa (El rfl ⟨.ref A3.H,At h5.rep.gB h5.rep.hF (by decide) rfl,A3.H,_,rfl,h5.rep.gH,El rfl ⟨_,h5.rep.gH,?_,rfl,Ac (Ac (q A3 _ (ow.trans (uI.weak (show s.last≤s.last+1 by exact Z8)) (Int.le_refl _)) ?_))⟩⟩))))
    · have:=h5.wf.nh
      rw [List.length_map]
      have e3:(cW (s.last+2) (cK (.call x xs (s.last+2) (-1)) (aO [s.last+1] (-1) (cT (bj hs s))))).n=s.n+1:=rfl
      have e4:(aX A3 (cW (s.last+2) (cK (.call x xs (s.last+2) (-1)) (aO [s.last+1] (-1) (cT (bj hs s)))))).held=hs:=rfl
      rw [e4]
      have e5:(cW (s.last+2) (cK (.call x xs (s.last+2) (-1)) (aO [s.last+1] (-1) (cT (bj hs s))))).held=hs:=rfl
      rw [e3,e5] at this
      exact Uc e3 hn this
    · have h6:=h5.rep.I3 (hs++[s.last+1])
      rw [List.map_append] at h6
      exact ⟨h6,h5.wf.held (Nat.le_succ _) (by have:=h5.wf.nh;simp at this ⊢;exact this)⟩
  | cj=>
    refine Av rfl ?_
    refine Xc (Au (AY h1 (fun q=>El rfl q) rfl rfl (En (Fn.cU (r+2) (by exact Zr rfl) (BH h1 fun bg h2=>?_)))))
    have js:=BL (ps:=[]) (rest:=s.last+1) h2.wf
    refine Xc (Au (AE (Al (Aa (El rfl ⟨_,Ab (by decide) rfl,(Ar rfl ⟨false,rfl,?_⟩)⟩)))))
    refine AY h2 (fun q=>El rfl q) rfl rfl (Ec ?_)
    refine Ah (En ⟨aw rfl,(Ec (El rfl (En ?_)))⟩)
    refine Fn.cU (r+3) (by exact Zr rfl) (Ef (ps:=[]) (rest:=s.last+1) (s:=cT (bj hs s)) h2 hh (show s.n≤100000 by exact Zl hn rfl) fun A3 eJ uI h3=>?_)
    rw [←uI.B]
    have e2:(cT (bj hs s)).last+1=s.last+2:=by show s.last+1+1=_;exact Z2
    rw [e2] at js ⊢
    have hd:l≠s.last+2:=by exact W8 e2 Im
    have yI:=(A7 (s:=aO [] (s.last+1) (cT (bj hs s))) (la:=.call x xs (s.last+2) (-1)) hh (Ne.symm hd)).trans js
    refine Xc (CZ h3 hh (fun q=>El rfl q) (la:=.call x xs (s.last+2) (-1)) (fun q=>Dv (r:=r+2) hz (fun q=>Kt rfl q) (fun q=>Kr (xs:=xs) rfl hz q) (fun q=>Az h3 js rfl q) (fun q=>Bc q) q) fun fA h4=>?_)
    refine Xc (HN h4 yI (fun q=>El rfl q) (fun q=>El rfl q) fun tv h5=>?_)
    refine Av rfl ?_
    exact Ac (q A3 _ (ow.trans (uI.weak (show s.last≤s.last+1 by exact Z8)) (Int.le_refl _)) h5)
end Mine
end
section
namespace Mine
variable {C:Cx} {r:Nat} {ρ:Loc} {st:St} {A:Ad} {s:Cs}
theorem CE {a b c:PE} {x y z:Int} {Q:AV->St->Prop} (h1:∀{Q:AV->St->Prop},Q (.int x) st->E C (r+3) a ρ st Q) (h2:∀{Q:AV->St->Prop},Q (.int y) st->E C (r+3) b ρ st Q) (h3:∀{Q:AV->St->Prop},Q (.int z) st->E C (r+3) c ρ st Q)
    (q:Q (qk (.branch x y z)) st):E C (r+3) (.call .di [a,b,c]) ρ st Q:=by
  refine Aj rfl (Ec (h1 (Ec (h2 (Ec (h3 (En ?_)))))))
  exact oI.mono fun v ag ⟨e1,e2⟩=>by subst e1;subst e2;exact q
set_option maxHeartbeats 4000000 in
theorem B7 {a b c:Tm} {w:Way} {l x:Int} {hs:List Int} {Q:AV->St->Prop} (h:BR A s st) (hh:s.here=some l) (hn:s.n≤80000) (hx:s.held=hs++[x])
    (q:kI A s (iV b c x w (bj hs s)) Q):Fn C (r+6) (C.fa .fW) [.ref A.B,cX (tk .dh (.bt a b c) w)] st Q:=by
  have Im:l≤s.last:=h.wf.hle hh
  refine Ag (C.dM .fW _ rfl).2.1 rfl ?_
  refine Xc (Au (Ai (Db (hs:=hs) (ts:=[x]) h hx (show s.n≤100000 by exact Zl hn rfl) (fun q=>El rfl q) (fun q=>Ae q) fun A1 ao ow h1=>Ae ⟨.int x,rfl,?_⟩)))
  rw [←ow.B]
  refine Xc (Au (AY h1 (fun q=>El rfl q) rfl rfl (Ec ?_)))
  refine Ah (En ⟨aw rfl,(Ec (Bc (En ?_)))⟩)
  refine Fn.cU (r+3) (by exact Zr rfl) (Ef (ps:=[]) (rest:=-1) h1 hh (show s.n≤100000 by exact Zl hn rfl) fun A2 bg sv h2=>?_)
  have y1:=BL (ps:=[]) (rest:=-1) h1.wf
  rw [←sv.B]
  refine Xc (Au (AY h2 (fun q=>El rfl q) rfl rfl (Ec ?_)))
  refine Ah (En ⟨aw rfl,(Ec (Bc (En ?_)))⟩)
  refine Fn.cU (r+3) (by exact Zr rfl) (Ef (ps:=[]) (rest:=-1) h2 hh (show s.n+1≤100000 by exact Ub hn) fun A3 eJ uI h3=>?_)
  have y2:=(Cj (ps:=[]) (rest:=-1) h2.wf (i:=s.last+1) (Int.le_refl _)).trans y1
  have n2:=BL (ps:=[]) (rest:=-1) h2.wf
  have e2:(aO [] (-1) (bj hs s)).last+1=s.last+2:=by show s.last+1+1=_;exact Z2
  rw [e2] at n2 ⊢
  have e3:A2.bu ((bj hs s).last+1)=A3.bu (s.last+1):=(uI.bu (s.last+1) (Int.le_refl _)).symm
  rw [e3,←uI.B]
  have Pt:Le A A3 s.last:=(ow.trans sv (Int.le_refl _)).trans (uI.weak (show s.last≤s.last+1 by exact Z8)) (Int.le_refl _)
  have d1:s.last+1≠l:=by exact Ua e2 Im
  have d2:s.last+2≠l:=by exact Ug e2 Im
  cases w with
  | tail=>
    refine Xc (Au (Aa (El rfl ⟨bT (.bt a b c),Ab (by decide) rfl,(AH rfl ?_)⟩)))
    change X C (r+5) _ [(.aa,.ref A3.B),(.az,cX (tk .dh (.bt a b c) .tail)),(.dT,.int x),(.ej,.ref (A3.bu (s.last+1)).1),(.gU,.ref (A3.bu (s.last+2)).1),(.af,bT (.bt a b c))] _ _
    refine Xc (CZ h3 hh (fun q=>El rfl q) (la:=.branch x (s.last+1) (s.last+2)) (fun q=>CE (r:=r+2) (fun q=>El rfl q) (fun q=>Az h3 y2 rfl q) (fun q=>Az h3 n2 rfl q) q) fun fA h4=>?_)
    have y4:=(A7 (la:=.branch x (s.last+1) (s.last+2)) (s:=aO [] (-1) (aO [] (-1) (bj hs s))) hh d1).trans y2
    have n4:=(A7 (la:=.branch x (s.last+1) (s.last+2)) (s:=aO [] (-1) (aO [] (-1) (bj hs s))) hh d2).trans n2
    refine Xc (Ap (AY h4 (fun q=>El rfl q) rfl rfl (Ec ?_)))
    refine Ah (Ec (Ax (by decide) rfl (Ec (Ak (Ec (AJ (Ec (Ae (Ec (Ah (Ec (Az h4 y4 rfl (En ⟨aw rfl,(En ⟨_,As,(Ec (Ax (by decide) rfl (Ec (Ak (Ec (Aa (El rfl ⟨bT b,Ab (by decide) rfl,(Ec (Ar rfl ((Ec (Ah (En ⟨aw rfl,En ⟨_,As,(Ec (Ax (by decide) rfl (Ec (Ak (Ec (AJ (Ec (Ae (Ec (Ah (Ec (Az h4 n4 rfl (En ⟨aw rfl,(En ⟨_,As,(Ec (Ax (by decide) rfl (Ec (Ak (Ec (Aa (El rfl ⟨bT c,Ab (by decide) rfl,(Ec (Ar rfl ((Ec (Ah (En ⟨aw rfl,En ⟨_,As,(En ⟨aw rfl,(En ?_)⟩)⟩⟩))))))⟩)))))))⟩)⟩)))))))))))))⟩⟩))))))⟩)))))))⟩)⟩)))))))))))))
    exact Fn.cU (r+1) (by exact Zr rfl) (DG (ts:=[tn .aY .val [s.last+1],nd b .tail,tn .aY .val [s.last+2],nd c .tail]) rfl h4 (show s.n+1+1≤90000 by exact T9 hn) (by simp) fun tv h5=>⟨rfl,Xc (HJ (q A3 tv Pt h5))⟩)
  | val=>
    refine Xc (Au (Aa (El rfl ⟨bT (.bt a b c),Ab (by decide) rfl,(Av rfl (Xc (Au (AE (Al (Aa (El rfl ⟨_,Ab (by decide) rfl,(Ar rfl ⟨true,rfl,?_⟩)⟩)))))))⟩)))
    refine Ah (Ec (AY h3 (fun q=>El rfl q) rfl rfl (En (Fn.cU (r+2) (by exact Zr rfl) (BH h3 fun fA h4=>En ⟨aw rfl,?_⟩)))))
    have p3:(aO [] (-1) (aO [] (-1) (bj hs s))).last+1=s.last+3:=by show s.last+1+1+1=_;exact T4
    rw [p3]
    refine Xc (Au (AY h4 (fun q=>El rfl q) rfl rfl (Ec (El rfl (Ec (Bc (En ?_)))))))
    refine Fn.cU (r+3) (by exact Zr rfl) (Ef (ps:=[s.last+3]) (rest:=-1) h4 hh (show s.n+1+1≤100000 by exact W7 hn) fun A5 tv yu h5=>?_)
    have p4:(cT (aO [] (-1) (aO [] (-1) (bj hs s)))).last+1=s.last+4:=by show s.last+1+1+1+1=_;exact W6
    have a5:=BL (ps:=[s.last+3]) (rest:=-1) h4.wf
    have y5:=(Cj (ps:=[s.last+3]) (rest:=-1) h4.wf (i:=s.last+1) (by show _≤s.last+1+1+1;exact OI)).trans y2
    have n5:=(Cj (ps:=[s.last+3]) (rest:=-1) h4.wf (i:=s.last+2) (by show _≤s.last+1+1+1;exact TH)).trans n2
    rw [p4] at a5 ⊢
    rw [←yu.bu (s.last+1) (by show _≤s.last+1+1+1;exact OI),←yu.bu (s.last+2) (by show _≤s.last+1+1+1;exact TH),←yu.B]
    change X C (r+5) _ [(.aa,.ref A5.B),(.az,cX (tk .dh (.bt a b c) .val)),(.dT,.int x),(.ej,.ref (A5.bu (s.last+1)).1),(.gU,.ref (A5.bu (s.last+2)).1),(.af,bT (.bt a b c)),(.aG,.lst [.int (s.last+3)]),(.fC,.ref (A5.bu (s.last+4)).1)] _ _
    refine Xc (CZ h5 hh (fun q=>El rfl q) (la:=.branch x (s.last+1) (s.last+2)) (fun q=>CE (r:=r+2) (fun q=>El rfl q) (fun q=>Az h5 y5 rfl q) (fun q=>Az h5 n5 rfl q) q) fun pb h6=>?_)
    have y6:=(A7 (la:=.branch x (s.last+1) (s.last+2)) (s:=aO [s.last+3] (-1) (cT (aO [] (-1) (aO [] (-1) (bj hs s))))) hh d1).trans y5
    have n6:=(A7 (la:=.branch x (s.last+1) (s.last+2)) (s:=aO [s.last+3] (-1) (cT (aO [] (-1) (aO [] (-1) (bj hs s))))) hh d2).trans n5
    have a6:=(A7 (la:=.branch x (s.last+1) (s.last+2)) (s:=aO [s.last+3] (-1) (cT (aO [] (-1) (aO [] (-1) (bj hs s))))) (i:=s.last+4) hh (by exact T8 e2 p3 p4 Im)).trans a5
    refine Xc (Ap (AY h6 (fun q=>El rfl q) rfl rfl (Ec ?_)))
    refine Ah (Ec (Ax (by decide) rfl (Ec (Ak (Ec (AJ (Ec (Ae (Ec (Ah (Ec (Az h6 y6 rfl (En ⟨aw rfl,(En ⟨_,As,(Ec (Ax (by decide) rfl (Ec (Ak (Ec (Aa (El rfl ⟨bT b,Ab (by decide) rfl,(Ec (Aa (El rfl ⟨_,Ab (by decide) rfl,((Ec (Ah (En ⟨aw rfl,En ⟨_,As,(Ec (Ax (by decide) rfl (Ec (Ak (Ec (AJ (Ec (Aa (El rfl ⟨_,Ab (by decide) rfl,(Ec (Ah (Ec (Az h6 a6 rfl (En ⟨aw rfl,(En ⟨_,As,(Ec (Ax (by decide) rfl (Ec (Ak (Ec (AJ (Ec (Ae (Ec (Ah (Ec (Az h6 n6 rfl (En ⟨aw rfl,(En ⟨_,As,(Ec (Ax (by decide) rfl (Ec (Ak (Ec (Aa (El rfl ⟨bT c,Ab (by decide) rfl,(Ec (Aa (El rfl ⟨_,Ab (by decide) rfl,((Ec (Ah (En ⟨aw rfl,En ⟨_,As,(Ec (Ax (by decide) rfl (Ec (Ak (Ec (AJ (Ec (Aa (El rfl ⟨_,Ab (by decide) rfl,(Ec (Ah (Ec (Az h6 a6 rfl (En ⟨aw rfl,(En ⟨_,As,(Ec (Ax (by decide) rfl (Ec (Ak (Ec (AJ (Ec (Ae (Ec (Ah (Ec (Az h6 a6 rfl (En ⟨aw rfl,(En ⟨_,As,(Ec (Ax (by decide) rfl (Ec (Ak (Ec (AJ (Ec (Ae (Ec (El rfl (En ⟨_,As,(En ⟨aw rfl,(En ?_)⟩)⟩)))))))))))⟩)⟩)))))))))))))⟩)⟩)))))⟩)))))))))⟩⟩))))⟩)))⟩)))))))⟩)⟩)))))))))))))⟩)⟩)))))⟩)))))))))⟩⟩))))⟩)))⟩)))))))⟩)⟩)))))))))))))
    exact Fn.cU (r+1) (by exact Zr rfl) (DG (ts:=[tn .aY .val [s.last+1],nd b .val,tn .cY .val [s.last+4],tn .aY .val [s.last+2],nd c .val,tn .cY .val [s.last+4],tn .aY .val [s.last+4],tn .cP .val [s.last+3]]) rfl h6 (show s.n+1+1+1≤90000 by exact W5 hn) (by simp) fun zN h7=>⟨rfl,Ac (q A5 zN (Pt.trans (yu.weak (show s.last≤s.last+1+1+1 by exact W4)) (Int.le_refl _)) h7)⟩)
  | cj=>
    refine Xc (Au (Aa (El rfl ⟨bT (.bt a b c),Ab (by decide) rfl,(Av rfl (Xc (Au (AE (Al (Aa (El rfl ⟨_,Ab (by decide) rfl,(Ar rfl ⟨false,rfl,(Ah (En ⟨aw rfl,?_⟩))⟩)⟩)))))))⟩)))
    refine Xc (Au (AY h3 (fun q=>El rfl q) rfl rfl (Ec (El rfl (Ec (Bc (En ?_)))))))
    refine Fn.cU (r+3) (by exact Zr rfl) (Ef (ps:=[]) (rest:=-1) h3 hh (show s.n+1+1≤100000 by exact W7 hn) fun A5 tv yu h5=>?_)
    have p4:(aO [] (-1) (aO [] (-1) (bj hs s))).last+1=s.last+3:=by show s.last+1+1+1=_;exact T4
    have a5:=BL (ps:=[]) (rest:=-1) h3.wf
    have y5:=(Cj (ps:=[]) (rest:=-1) h3.wf (i:=s.last+1) (by show _≤s.last+1+1;exact Z4)).trans y2
    have n5:=(Cj (ps:=[]) (rest:=-1) h3.wf (i:=s.last+2) (by show _≤s.last+1+1;exact K9)).trans n2
    rw [p4] at a5 ⊢
    rw [←yu.bu (s.last+1) (by show _≤s.last+1+1;exact Z4),←yu.bu (s.last+2) (by show _≤s.last+1+1;exact K9),←yu.B]
    change X C (r+5) _ [(.aa,.ref A5.B),(.az,cX (tk .dh (.bt a b c) .cj)),(.dT,.int x),(.ej,.ref (A5.bu (s.last+1)).1),(.gU,.ref (A5.bu (s.last+2)).1),(.af,bT (.bt a b c)),(.aG,.lst []),(.fC,.ref (A5.bu (s.last+3)).1)] _ _
    refine Xc (CZ h5 hh (fun q=>El rfl q) (la:=.branch x (s.last+1) (s.last+2)) (fun q=>CE (r:=r+2) (fun q=>El rfl q) (fun q=>Az h5 y5 rfl q) (fun q=>Az h5 n5 rfl q) q) fun pb h6=>?_)
    have y6:=(A7 (la:=.branch x (s.last+1) (s.last+2)) (s:=aO [] (-1) (aO [] (-1) (aO [] (-1) (bj hs s)))) hh d1).trans y5
    have n6:=(A7 (la:=.branch x (s.last+1) (s.last+2)) (s:=aO [] (-1) (aO [] (-1) (aO [] (-1) (bj hs s)))) hh d2).trans n5
    have a6:=(A7 (la:=.branch x (s.last+1) (s.last+2)) (s:=aO [] (-1) (aO [] (-1) (aO [] (-1) (bj hs s)))) (i:=s.last+3) hh (by exact T7 e2 p4 Im)).trans a5
    refine Xc (Ap (AY h6 (fun q=>El rfl q) rfl rfl (Ec ?_)))
    refine Ah (Ec (Ax (by decide) rfl (Ec (Ak (Ec (AJ (Ec (Ae (Ec (Ah (Ec (Az h6 y6 rfl (En ⟨aw rfl,(En ⟨_,As,(Ec (Ax (by decide) rfl (Ec (Ak (Ec (Aa (El rfl ⟨bT b,Ab (by decide) rfl,(Ec (Aa (El rfl ⟨_,Ab (by decide) rfl,((Ec (Ah (En ⟨aw rfl,En ⟨_,As,(Ec (Ax (by decide) rfl (Ec (Ak (Ec (AJ (Ec (Aa (El rfl ⟨_,Ab (by decide) rfl,(Ec (Ah (Ec (Az h6 a6 rfl (En ⟨aw rfl,(En ⟨_,As,(Ec (Ax (by decide) rfl (Ec (Ak (Ec (AJ (Ec (Ae (Ec (Ah (Ec (Az h6 n6 rfl (En ⟨aw rfl,(En ⟨_,As,(Ec (Ax (by decide) rfl (Ec (Ak (Ec (Aa (El rfl ⟨bT c,Ab (by decide) rfl,(Ec (Aa (El rfl ⟨_,Ab (by decide) rfl,((Ec (Ah (En ⟨aw rfl,En ⟨_,As,(Ec (Ax (by decide) rfl (Ec (Ak (Ec (AJ (Ec (Aa (El rfl ⟨_,Ab (by decide) rfl,(Ec (Ah (Ec (Az h6 a6 rfl (En ⟨aw rfl,(En ⟨_,As,(Ec (Ax (by decide) rfl (Ec (Ak (Ec (AJ (Ec (Ae (Ec (Ah (Ec (Az h6 a6 rfl (En ⟨aw rfl,(En ⟨_,As,(Ec (Ax (by decide) rfl (Ec (Ak (Ec (AJ (Ec (Ae (Ec (El rfl (En ⟨_,As,(En ⟨aw rfl,(En ?_)⟩)⟩)))))))))))⟩)⟩)))))))))))))⟩)⟩)))))⟩)))))))))⟩⟩))))⟩)))⟩)))))))⟩)⟩)))))))))))))⟩)⟩)))))⟩)))))))))⟩⟩))))⟩)))⟩)))))))⟩)⟩)))))))))))))
    exact Fn.cU (r+1) (by exact Zr rfl) (DG (ts:=[tn .aY .val [s.last+1],nd b .cj,tn .cY .cj [s.last+3],tn .aY .val [s.last+2],nd c .cj,tn .cY .cj [s.last+3],tn .aY .val [s.last+3],tn .cP .val []]) rfl h6 (show s.n+1+1+1≤90000 by exact W5 hn) (by simp) fun zN h7=>⟨rfl,Ac (q A5 zN (Pt.trans (yu.weak (show s.last≤s.last+1+1 by exact OK)) (Int.le_refl _)) h7)⟩)
end Mine
end
section
namespace Mine
variable {C:Cx} {r:Nat} {ρ:Loc} {st:St} {A:Ad} {s:Cs}
inductive Go:gJ->Cs->Cs->Prop
  | node {t w s l}:s.here=some l->slim t->Go (nd t w) s (eK t w s)
  | set {g e w s l x hs}:s.here=some l->s.held=hs++[x]->Go (tk .bV (.set g e) w) s (I1 g x w (bj hs s))
  | p1 {a w s l x hs}:s.here=some l->s.held=hs++[x]->Go (tk .cM (.p1 a) w) s (nM 8 [x] w (bj hs s))
  | p2 {a b w s l x y hs}:s.here=some l->s.held=hs++[x,y]->Go (tk .cM (.p2 a b) w) s (nM 9 [x,y] w (bj hs s))
  | lets {lab ps b as w s hs xs}:s.held=hs++xs->xs.length=as.length->ps.length=as.length->xs.length≤100->Go (tk .ic (.call (.lam lab ps b) as) w) s (pushS [nd b w] (cQ (ps.zip xs) (bj hs s)))
  | call {f as w s l hs x xs}:s.here=some l->s.held=hs++(x::xs)->xs.length=as.length->xs.length≤100->Go (tk .d8 (.call f as) w) s (jd x xs w (bj hs s))
  | choice {a b c w s l hs x}:s.here=some l->s.held=hs++[x]->Go (tk .dh (.bt a b c) w) s (iV b c x w (bj hs s))
  | enter {l s}:(ae s.blocks l).isSome->Go (tn .aY .val [l]) s (cW l s)
  | iG {l x hs to s}:s.here=some l->s.held=hs++[x]->Go (tn .cY .val [to]) s (cK (.gm to [x]) (bj hs s))
  | jc {l to s}:s.here=some l->Go (tn .cY .cj [to]) s (cK (.gm to []) s)
  | hold {xs s}:xs.length≤100->Go (tn .cP .val xs) s (Ih xs s)
theorem M6 {t:gJ} {s':Cs} {Q:AV->St->Prop} (hg:Go t s s') (h:BR A s st) (hn:s.n≤80000) (q:kI A s s' Q):Fn C (r+9) (C.fa .jm) [.ref A.B,cX t] st Q:=by
  refine Ag (C.dM .jm _ rfl).2.1 rfl ?_
  cases hg with
  | node hh hz=>exact AH rfl (Xc (Ap (Aj rfl (Ec (El rfl (Ec (El rfl (En (Fn.cU (r+8) (by exact Nat.le_refl _) (DQ h hh (by exact Zl hn rfl) hz fun A' ag le h'=>⟨rfl,Ac (Ac (q A' ag le h'))⟩))))))))))
  | call hh hx hl hz=>exact ef rfl (AH rfl (Xc (Ap (Aj rfl (Ec (El rfl (Ec (El rfl (En (Fn.cU (r+6) (by exact Zr rfl) (DS h hh (by exact hn) hx hl hz fun A' ag le h'=>⟨rfl,Ac (Ac (Ac (q A' ag le h')))⟩)))))))))))
  | lets hx hl hp hz=>exact ef rfl (ef rfl (AH rfl (Xc (Ap (Aj rfl (Ec (El rfl (Ec (El rfl (En (Fn.cU (r+6) (by exact Zr rfl) (Fa h (by exact hn) hx hl hp hz fun A' ag le h'=>⟨rfl,Ac (Ac (Ac (Ac (q A' ag le h'))))⟩))))))))))))
  | p1 hh hx=>exact ef rfl (ef rfl (ef rfl (AH rfl (Xc (Ap (Aj rfl (Ec (El rfl (Ec (El rfl (En (Fn.cU (r+6) (by exact Zr rfl) (C7 (as:=[_]) rfl h hh (by exact Zl hn rfl) hx rfl (by simp) fun A' ag le h'=>⟨rfl,Ac (Ac (Ac (Ac (Ac (q A' ag le h')))))⟩)))))))))))))
  | p2 hh hx=>exact ef rfl (ef rfl (ef rfl (AH rfl (Xc (Ap (Aj rfl (Ec (El rfl (Ec (El rfl (En (Fn.cU (r+6) (by exact Zr rfl) (C7 (as:=[_,_]) rfl h hh (by exact Zl hn rfl) hx rfl (by simp) fun A' ag le h'=>⟨rfl,Ac (Ac (Ac (Ac (Ac (q A' ag le h')))))⟩)))))))))))))
  | choice hh hx=>exact ef rfl (ef rfl (ef rfl (ef rfl (AH rfl (Xc (Ap (Aj rfl (Ec (El rfl (Ec (El rfl (En (Fn.cU (r+6) (by exact Zr rfl) (B7 h hh (by exact hn) hx fun A' ag le h'=>⟨rfl,Ac (Ac (Ac (Ac (Ac (Ac (q A' ag le h'))))))⟩))))))))))))))
  | set hh hx=>
    refine ef rfl (ef rfl (ef rfl (ef rfl (ef rfl (Xc (Ap (Aj rfl (Ec (El rfl (Ec (El rfl (En ?_))))))))))))
    refine Fn.cU (r+7) (by exact Zr rfl) (Ag (C.dM .gV _ rfl).2.1 rfl ?_)
    exact ef rfl (ef rfl (ef rfl (Xc (Ap (Aj rfl (Ec (El rfl (Ec (El rfl (En (E9 h hh (by exact Zl hn rfl) hx fun A' ag le h'=>⟨rfl,Ac (Ac (Ac (Ac ⟨rfl,Ac (Ac (Ac (Ac (Ac (Ac (q A' ag le h'))))))⟩)))⟩)))))))))))
  | enter hb=>
    refine ef rfl (ef rfl (ef rfl (ef rfl (ef rfl (Xc (Ap (Aj rfl (Ec (El rfl (Ec (El rfl (En ?_))))))))))))
    refine Fn.cU (r+7) (by exact Zr rfl) (Ag (C.dM .gV _ rfl).2.1 rfl ?_)
    exact AH rfl (Xc (Ap (Aj rfl (Ec (El rfl (Ec (El rfl (En (CT h hb fun A' ag le h'=>⟨rfl,Ac (Ac ⟨rfl,Ac (Ac (Ac (Ac (Ac (Ac (q A' ag le h'))))))⟩)⟩)))))))))
  | iG hh hx=>
    refine ef rfl (ef rfl (ef rfl (ef rfl (ef rfl (Xc (Ap (Aj rfl (Ec (El rfl (Ec (El rfl (En ?_))))))))))))
    refine Fn.cU (r+7) (by exact Zr rfl) (Ag (C.dM .gV _ rfl).2.1 rfl ?_)
    exact ef rfl (AH rfl (Xc (Ap (Aj rfl (Ec (El rfl (Ec (El rfl (En (vo h hh (by exact Zl hn rfl) hx fun A' ag le h'=>⟨rfl,Ac (Ac (Ac ⟨rfl,Ac (Ac (Ac (Ac (Ac (Ac (q A' ag le h'))))))⟩))⟩))))))))))
  | jc hh=>
    refine ef rfl (ef rfl (ef rfl (ef rfl (ef rfl (Xc (Ap (Aj rfl (Ec (El rfl (Ec (El rfl (En ?_))))))))))))
    refine Fn.cU (r+7) (by exact Zr rfl) (Ag (C.dM .gV _ rfl).2.1 rfl ?_)
    exact ef rfl (AH rfl (Xc (Ap (Aj rfl (Ec (El rfl (Ec (El rfl (En (vp h hh fun A' ag le h'=>⟨rfl,Ac (Ac (Ac ⟨rfl,Ac (Ac (Ac (Ac (Ac (Ac (q A' ag le h'))))))⟩))⟩))))))))))
  | hold hz=>
    refine ef rfl (ef rfl (ef rfl (ef rfl (ef rfl (Xc (Ap (Aj rfl (Ec (El rfl (Ec (El rfl (En ?_))))))))))))
    refine Fn.cU (r+7) (by exact Zr rfl) (Ag (C.dM .gV _ rfl).2.1 rfl ?_)
    exact ef rfl (ef rfl (AH rfl (Xc (Ap (Aj rfl (Ec (El rfl (Ec (El rfl (En (DR h (by exact Zl hn rfl) hz fun A' ag le h'=>⟨rfl,Ac (Ac (Ac (Ac ⟨rfl,Ac (Ac (Ac (Ac (Ac (Ac (q A' ag le h'))))))⟩)))⟩)))))))))))
inductive Runs:Cs->Nat->Cs->Prop
  | zero {s:Cs}:Runs s 0 s
  | succ {s ws t s1 n s2}:s.waiting=ws++[t]->Go t {s with waiting:=ws} s1->Runs s1 n s2->Runs s (n+1) s2
theorem Runs.trans {s1 s2 s3:Cs} {n m:Nat} (h:Runs s1 n s2) (h':Runs s2 m s3):Runs s1 (m+n) s3:=by
  induction h with
  | zero=>exact h'
  | succ e g _ ih=>exact .succ e g (ih h')
theorem Go.one {s s1:Cs} {ws:List gJ} {t:gJ} (e:s.waiting=ws++[t]) (g:Go t {s with waiting:=ws} s1):Runs s 1 s1:=.succ e g .zero
structure jz (s s':Cs):Prop where
  n:s.n≤s'.n
  last:s.last≤s'.last
theorem jz.refl:jz s s:=⟨Nat.le_refl _,Int.le_refl _⟩
theorem jz.trans {s s' tI:Cs} (x:jz s s') (y:jz s' tI):jz s tI:=⟨Nat.le_trans x.n y.n,Int.le_trans x.last y.last⟩
theorem jA:jz s (cT s):=⟨Nat.le_refl _,by show s.last≤s.last+1;exact Z8⟩
theorem BC {op:KO}:jz s (bO op s):=⟨Nat.le_succ _,Int.le_refl _⟩
theorem BB {la:KL}:jz s (cK la s):=⟨Nat.le_refl _,Int.le_refl _⟩
theorem HT {x:Int}:jz s (qp x s):=⟨Nat.le_succ _,Int.le_refl _⟩
theorem C2 {ts:List gJ}:jz s (pushS ts s):=⟨Nat.le_add_right ..,Int.le_refl _⟩
theorem eM {hs:List Int}:jz s (bj hs s):=⟨Nat.le_refl _,Int.le_refl _⟩
theorem F5 {l:Int}:jz s (cW l s):=⟨Nat.le_refl _,Int.le_refl _⟩
theorem B1 {w:Way} {x:Int}:jz s (cq w x s):=by (cases w with | val=>exact HT | cj=>exact .refl | tail=>exact BB)
theorem kZ {c:CV}:jz s (jb c s):=jA.trans BC
theorem Bs {ps:List Int} {rest:Int}:jz s (aO ps rest s):=⟨Nat.le_succ _,by show s.last≤s.last+1;exact Z8⟩
theorem sW {ps:List Int} {t:Tm}:jz s (jt ps t s):=⟨by show s.n≤s.n+1+1;exact Xf,by show s.last≤s.last+1+1;exact OK⟩
theorem xx (l:List (Int×Int)):jz s (cQ l s):=⟨by rw [DK];exact Nat.le_add_right _ _,by rw [Cv];exact Int.le_refl _⟩
theorem xw {t:Tm} {w:Way}:jz s (eK t w s):=by
  cases t with
  | cst c=>(cases w with | val=>exact (show jz s (cq .val (s.last+1) (jb (.c c) s)) from kZ.trans B1) | cj=>exact .refl | tail=>exact (show jz s (cq .tail (s.last+1) (jb (.c c) s)) from kZ.trans B1))
  | loc n=>exact B1
  | bI g=>exact (jA.trans BC).trans B1
  | lam l ps b=>(cases w with | val=>exact (show jz s (cq .val (s.last+1) (bO (.fn (s.last+1) (s.last+2)) (jt ps b (cT s)))) from ((jA.trans sW).trans BC).trans B1) | cj=>exact .refl | tail=>exact (show jz s (cq .tail (s.last+1) (bO (.fn (s.last+1) (s.last+2)) (jt ps b (cT s)))) from ((jA.trans sW).trans BC).trans B1))
  | call f as=>rw [Cu];split<;>exact C2
  | _=>exact C2
theorem Go.up {t:gJ} {s s':Cs} (h:Go t s s'):jz s s':=by
  cases h with
  | node _ _=>exact xw
  | @set g e w s l x hs _ _=>(cases w with | val=>exact (show jz s (cq .val (s.last+1) (jb .aA (bO (.set g x) (bj hs s)))) from ((eM.trans BC).trans kZ).trans B1) | cj=>exact eM.trans BC | tail=>exact (show jz s (cq .tail (s.last+1) (jb .aA (bO (.set g x) (bj hs s)))) from ((eM.trans BC).trans kZ).trans B1))
  | p1 _ _=>exact ((eM.trans jA).trans BC).trans B1
  | p2 _ _=>exact ((eM.trans jA).trans BC).trans B1
  | lets _ _ _ _=>exact (eM.trans (xx _)).trans C2
  | @call f as w s l hs x xs _ _ _ _=>(cases w with | val=>exact ((((eM.trans jA).trans Bs).trans BB).trans F5).trans HT | cj=>exact (((eM.trans jA).trans Bs).trans BB).trans F5 | tail=>exact eM.trans BB)
  | @choice a b c w s l hs x _ _=>(cases w with | val=>exact (((((eM.trans Bs).trans Bs).trans jA).trans Bs).trans BB).trans C2 | cj=>exact ((((eM.trans Bs).trans Bs).trans Bs).trans BB).trans C2 | tail=>exact (((eM.trans Bs).trans Bs).trans BB).trans C2)
  | enter _=>exact F5
  | iG _ _=>exact eM.trans BB
  | jc _=>exact BB
  | hold _=>exact ⟨Nat.le_add_right ..,Int.le_refl _⟩
theorem Runs.up {s s':Cs} {n:Nat} (h:Runs s n s'):jz s s':=by
  induction h with
  | zero=>exact .refl
  | succ _ g _ ih=>exact jz.trans ⟨g.up.n,g.up.last⟩ ih
theorem wc {l:Int} {t:Tm} {k:Nat} {f:Cs} {Q:AV->St->Prop} (h:BR A s st) (hb:(ae s.blocks l).isSome) (hr:Runs (pushS [nd t .tail] (cW l s)) k f) (hf:f.waiting=[]) (hn:f.n≤80000) (q:kI A s f Q) :
    Fn C (r+10) (C.fa .k9) [.ref A.B,.ref (A.bu l).1,bT t] st Q:=by
  refine xE (Option.isSome_iff_exists.mp hb) fun kp hb=>?_
  have YE:=hr.up.n
  have V2:s.n+1≤f.n:=YE
  refine Ag (C.dM .k9 _ rfl).2.1 rfl ?_
  refine Xc (HN h hb (fun q=>El rfl q) (fun q=>El rfl q) fun ao h1=>?_)
  refine Xc (Ap (AY h1 (fun q=>El rfl q) rfl rfl (Ec (Ak (Ec (El rfl (Ec (Ar rfl (Ec (Ah (En ⟨aw rfl,En ?_⟩)))))))))))
  refine Fn.cU (r+3) (by exact Zr rfl) (xc (t:=nd t .tail) h1 (show s.n≤100000 by exact T6 V2 hn) fun bg h2=>⟨rfl,?_⟩)
  refine Xc (wD (fun n ρ' ag=>∃A' s',ae ρ' .aa=some (.ref A.B)∧Le A A' s.last∧s.last≤s'.last∧BR A' s' ag∧Runs s' n f) k ⟨A,_,rfl,Le.refl ..,Int.le_refl _,h2,hr⟩ ?_)
  rintro n ρ' ag ⟨A',s',hB,le,hle,h3,Yv⟩
  rw [←le.B] at hB
  cases Yv with
  | zero=>
    refine Al (AX (Aa (El hB ⟨.ref A'.W,At h3.rep.gB h3.rep.hF (by decide) rfl,⟨[],(congrArg kW h3.rep.gW).trans (congrArg (fun l=>some (List.map cX l)) hf),Nat.zero_le _,(Ae ⟨false,rfl,(Ac ?_)⟩)⟩⟩)))
    exact q A' ag le h3
  | @succ _ ws t1 s1 m _ e g V0=>
    have hu:=V0.up
    have hg:=g.up
    have hw:=h3.wf.nw
    have kB:s'.n≤80000:=Nat.le_trans (Nat.le_trans hg.n hu.n) hn
    have PY:s'.waiting.length≤80000:=by exact Nat.le_trans hw kB
    have Qj:ag A'.W=some (.list ((ws++[t1]).map cX)):=by have h4:ag A'.W=_:=h3.rep.gW;rw [h4];simp only [aX,e]
    have hl:(ws++[t1]).length≤80000:=e▸PY
    refine Al (AX (Aa (El hB ⟨.ref A'.W,At h3.rep.gB h3.rep.hF (by decide) rfl,⟨(ws++[t1]).map cX,congrArg kW Qj,by rw [List.length_map];exact Zl hl rfl,(Ae ?_)⟩⟩)))
    refine ⟨true,?_,?_⟩
    · show some (decide ((((ws++[t1]).map cX).length:Int)>0))=some true
      rw [decide_eq_true];simp
    · rw [List.map_append] at Qj
      refine Xc (Ap (Aj rfl (Ec (El hB (Ec (IG (Aa (El hB ⟨.ref A'.W,At h3.rep.gB h3.rep.hF (by decide) rfl,A'.W,ws.map cX,cX t1,rfl,Qj,?_,En ?_⟩))))))))
      · simp at hl ⊢;exact Zl hl rfl
      · have h5:BR A' {s' with waiting:=ws} (ag.upd A'.W (.list (ws.map cX))):=⟨h3.rep.I0 ws,h3.wf.waiting (Nat.le_refl _) (by rw [e] at hw;simp at hw;exact Nat.le_of_lt hw)⟩
        refine Fn.cU (r+9) (by exact Nat.le_refl _) (M6 g h5 (show s'.n≤80000 from kB) fun A6 pb Pu h6=>⟨rfl,Ac ⟨m,Nat.lt_succ_self _,A6,s1,?_,le.trans Pu hle,Int.le_trans hle hg.last,h6,V0⟩⟩)
        rw [hB,le.B]
end Mine
end
section
namespace Mine
variable {C:Cx} {r:Nat} {ρ:Loc} {st:St} {A:Ad} {s:Cs}
theorem BA {x n:Nm} {e:PE} {a d:Addr} {c:Nm} {fs:List (Nm×AV)} {Q:Fl->Loc->St->Prop} (hx:ae ρ x=some (.ref a)) (hn:n∈iq c) (hz:fs.length≤1000)
    (he:E C r e ρ st (fun v ag=>∃l,Rep ((a,.inst c d)::(d,.aD fs)::l) ag∧∀dG,Rep ((a,.inst c d)::(d,.aD (putK fs n v))::l) dG->Q .next ρ dG)):X1 C r (.aP (.loc x) n e) ρ st Q:=
  BQ (he.mono fun _ _ ⟨_,hr,q⟩=>El hx ⟨a,c,d,fs,rfl,hr.get (.head _),hr.get (.tail _ (.head _)),hn,hz,q _ (Rep.mid (l1:=[(a,.inst c d)]) (o0:=.aD fs) hr)⟩)
theorem Rep.mY {x y z:Addr×bQ} {l:Objs} (h:Rep (x::y::z::l) st):Rep (y::z::x::l) st:=h.perm ((List.Perm.cons y (List.Perm.swap x z l)).trans (List.Perm.swap x y (z::l)))
theorem Rep.O6 {x y z u v:Addr×bQ} {l:Objs} (h:Rep (x::y::z::u::v::l) st):Rep (u::v::x::y::z::l) st:=h.perm (List.perm_append_comm (l₁:=[u,v]) (l₂:=[x,y,z]) |>.append_right l)
theorem Rep.inst {l:Objs} {a d:Addr} {c:Nm} (h:Rep l st) (ha:st a=none) (hd:st d=none) (mq:a≠d):Rep ((a,.inst c d)::(d,.aD [])::l) ((st.upd d (.aD [])).upd a (.inst c d)):=
  Rep.new (Rep.new h hd) ((Aw mq).trans ha)
theorem HR {as:List PE} {Q:AV->St->Prop} (h:Es C (r+2) as ρ st (fun avs ao=>∃e l,avs=[.int e]∧Rep l ao∧∀a d T ag,Rep ((a,.inst .aE d)::(d,.aD [(.dI,.ref T),(.dJ,.int e)])::(T,.dict [])::l) ag->Q (.ref a) ag)):E C (r+2) (.call .aE as) ρ st Q:=by
  refine F2 (p:=(ib,ij)) (by decide) rfl (h.mono fun avs ao ⟨e,l,eq,hr,q⟩ a d ha hd mq=>?_)
  subst eq
  refine Ag (C.aB .aE .aF _ rfl).2.2.2 rfl ?_
  have r1:=hr.inst (c:=.aE) ha hd mq
  refine Xc (BA rfl (by decide) (by decide) (De fun T hT=>⟨_,(Rep.new r1 hT).mY,fun bg r2=>?_⟩))
  refine Xc (BA rfl (by decide) (aw rfl) (El rfl ⟨_,r2,fun eJ r3=>?_⟩))
  exact Ac ⟨rfl,q a d T _ r3⟩
theorem Fz {Q:AV->St->Prop} {l:Objs} (hr:Rep l st) (q:∀a l' ag,Rep (l'++l) ag->Q (.ref a) ag):E C (r+2) (.call .cJ []) ρ st Q:=by
  refine F2 (p:=(fJ,fP)) (by decide) rfl (En fun a d ha hd mq=>?_)
  refine Ag (C.aB .cJ .aF _ rfl).2.2.2 rfl ?_
  have r1:=hr.inst (c:=.cJ) ha hd mq
  refine Xc (BA rfl (by decide) (by decide) (B4 (En ⟨aw rfl,fun T hT=>⟨_,(Rep.new r1 hT).mY,fun bg r2=>?_⟩⟩)))
  refine Xc (BA rfl (by decide) (aw rfl) (De fun T2 Y1=>⟨_,(Rep.new r2 Y1).mY,fun eJ r3=>?_⟩))
  exact Ac ⟨rfl,q a [_,_,_,_] eJ r3⟩
theorem zB {Q:AV->St->Prop} {l:Objs} (hr:Rep l st) (q:∀N d t ti o l' ag,Rep ((N,.inst .aN d)::(d,.aD (cg t ti o 0))::(ti,.dict [])::(l'++l)) ag->Q (.ref N) ag):E C (r+4) (.call .aN []) ρ st Q:=by
  refine F2 (p:=(jB,jW)) (by decide) rfl (En fun a d ha hd mq=>?_)
  refine Ag (C.aB .aN .aF _ rfl).2.2.2 rfl ?_
  have r1:=hr.inst (c:=.aN) ha hd mq
  refine Xc (BA (c:=.aN) (d:=d) (fs:=[]) rfl (by decide) (by decide) (Fz r1 fun t l' ao r2=>⟨l'++l,r2.perm ?_,fun bg r2=>?_⟩))
  · exact (List.perm_append_comm (l₁:=[(a,.inst .aN d),(d,.aD [])]) (l₂:=l')).append_right l |>.trans (by rw [List.append_assoc])
  refine Xc (BA rfl (by decide) (aw rfl) (Ae ⟨_,r2,fun eJ r3=>?_⟩))
  refine Xc (BA rfl (by decide) (aw rfl) (De fun ti Yr=>⟨_,(Rep.new r3 Yr).mY,fun fA r4=>?_⟩))
  refine Xc (BA rfl (by decide) (aw rfl) (De fun o ho=>⟨_,(Rep.new r4 ho).mY,fun tv r5=>?_⟩))
  refine Xc (BA rfl (by decide) (aw rfl) (AJ ⟨_,r5,fun pb r6=>Ac ⟨rfl,q a d t ti o ((o,.dict [])::l') pb ?_⟩⟩))
  exact r6.perm (.cons _ (.cons _ (List.Perm.swap ..)))
noncomputable def s0 (L0:Int):Cs:=⟨0,L0+1,L0+1,none,[],[],[],[],[]⟩
theorem sk {w:PE} {N dN tb ti op:Addr} {L0:Int} {l:Objs} {Q:AV->St->Prop} (hr:Rep ((N,.inst .aN dN)::(dN,.aD (cg tb ti op L0))::(ti,.dict [])::l) st) (hw:∀{Q:AV->St->Prop},Q (.ref N) st->E C (r+4) w ρ st Q)
    (q:∀A ag,BR A (s0 L0) ag->Q (.ref A.B) ag):E C (r+4) (.call .ak [w]) ρ st Q:=by
  refine F2 (p:=(iz,iI)) (by decide) rfl (Ec (hw (En fun a d ha hd mq=>?_)))
  refine Ag (C.aB .ak .aF _ rfl).2.2.2 rfl ?_
  have r1:=(hr.sub (List.Sublist.cons_cons _ (.cons_cons _ (.cons_cons _ (List.nil_sublist l))))).inst (c:=.ak) ha hd mq
  refine Xc (BA rfl (by decide) (by decide) (El rfl ⟨_,r1,fun ao r1=>?_⟩))
  have hN:ao N=some (.inst .aN dN):=r1.get (by simp)
  have Wh:ao dN=some (.aD (cg tb ti op L0)):=r1.get (by simp)
  refine Xc (BA (c:=.ak) (d:=d) (fs:=[(.dZ,.ref N)]) rfl (by decide) (aw rfl) (HR (Ec (AU (El rfl ⟨.aN,_,AK hN Wh,rfl,rfl,En (Bw hN Wh (En ⟨_,_,rfl,Rep.mid (l1:=[(a,.inst .ak d),(d,.aD [(.dZ,.ref N)]),(N,.inst .aN dN)]) (o0:=.aD (cg tb ti op L0)) (l2:=[(ti,.dict [])]) r1,fun P dP T bg r2=>⟨_,r2.O6,fun eJ r3=>?_⟩⟩))⟩)))))
  refine Xc (BA rfl (by decide) (aw rfl) (AJ ⟨_,r3,fun fA r4=>?_⟩))
  refine Xc (BA rfl (by decide) (aw rfl) (B4 (En ⟨aw rfl,fun W hW=>⟨_,(Rep.new r4 hW).mY,fun tv r5=>?_⟩⟩)))
  refine Xc (BA rfl (by decide) (aw rfl) (B4 (En ⟨aw rfl,fun H hH=>⟨_,(Rep.new r5 hH).mY,fun pb r6=>?_⟩⟩)))
  refine Xc (BA rfl (by decide) (aw rfl) (B4 (En ⟨aw rfl,fun L hL=>⟨_,(Rep.new r6 hL).mY,fun zN r7=>?_⟩⟩)))
  refine Xc (BA rfl (by decide) (aw rfl) (De fun O hO=>⟨_,(Rep.new r7 hO).mY,fun XO r8=>?_⟩))
  refine Ac ⟨rfl,q ⟨a,d,P,dP,T,W,H,L,O,N,dN,tb,ti,op,fun _=>(a,a,a)⟩ XO ⟨?_,?_⟩⟩
  · refine Rep.perm (l:=_) r8 ?_
    show List.Perm ([(a,bQ.inst .ak d),(d,_)]++([(P,.inst .aE dP),(dP,_),(T,_)]++([(W,_),(H,_),(L,_),(O,_)]++[(N,_),(dN,_),(ti,_)]))) ([(a,bQ.inst .ak d),(d,_)]++([(O,_),(L,_),(H,_),(W,_)]++([(P,.inst .aE dP),(dP,_),(T,_)]++[(N,_),(dN,_),(ti,_)])))
    refine List.Perm.append_left _ ?_
    rw [←List.append_assoc,←List.append_assoc]
    refine List.Perm.append_right _ ?_
    exact List.perm_append_comm.trans (List.Perm.append_right _ (List.reverse_perm [(O,_),(L,_),(H,_),(W,_)]))
  · exact ⟨fun x hx=>(by cases hx),fun l e=>(by subst e),fun l k e=>(by subst e),fun x hx=>(by cases hx),Nat.le_refl _,Nat.le_refl _,Nat.le_refl _,Nat.le_refl _,Nat.le_refl _,fun x hx=>(by cases hx)⟩
end Mine
end
section
namespace Mine
variable {C:Cx} {r:Nat} {ρ:Loc} {st:St} {A:Ad} {s:Cs}
inductive Built:Cs->Nat->Cs->Prop
  | zero {s:Cs}:s.later=[]->Built s 0 s
  | succ {s ls l t m s1 k f}:s.later=ls++[(l,t)]->(ae s.blocks l).isSome->Runs (pushS [nd t .tail] (cW l {s with later:=ls})) m s1->s1.waiting=[]->Built s1 k f->Built s (k+1) f
theorem Built.up {s f:Cs} {k:Nat} (h:Built s k f):jz s f:=by
  induction h with
  | zero _=>exact .refl
  | @succ s ls l t m s1 k f _ _ g _ _ ih=>exact jz.trans ⟨Nat.le_trans (Nat.le_succ _) g.up.n,g.up.last⟩ ih
noncomputable def gf (L0:Int) (t:Tm):Cs:=lQ (L0+1) t (ip (L0+1) ⟨.aR,[],-1,L0+2,L0+1,-1,.eA,[],none⟩ (cT (s0 L0)))
theorem qT {N dN tb ti op:Addr} {L0:Int} {l:Objs} {t:Tm} {k:Nat} {f:Cs} {Q:AV->St->Prop} (hr:Rep ((N,.inst .aN dN)::(dN,.aD (cg tb ti op L0))::(ti,.dict [])::l) st)
    (hb:Built (gf L0 t) k f) (hn:f.n≤80000) (q:∀A ag,BR A f ag->Q (.ref A.P) ag):Fn C (r+12) (C.fa .jD) [bT t,.ref N] st Q:=by
  refine Ag (C.dM .jD _ rfl).2.1 rfl ?_
  refine Xc (Au (sk (r:=r+7) hr (fun q=>El rfl q) fun A ao h1=>?_))
  refine Xc (Au (Fm (r:=r+9) (Ec (Aa (Aa (El rfl ⟨.ref A.P,At h1.rep.gB h1.rep.hF (by decide) rfl,.int (L0+1),At h1.rep.gP h1.rep.yQ (by decide) rfl,?_⟩))))))
  refine Ec (C0 rfl (Ec (Ah (En ⟨aw rfl,(Ec (Bc (En ?_)))⟩))))
  refine ⟨L0+1,.aR,[],-1,rfl,fun x g1 g2 g3 f1 f2 f3=>?_⟩
  have l1:=Loose.start (l:=L0+1) (sort:=.aR) (ps:=[]) (rest:=-1) h1 g1 g2 g3 f1 f2 f3
  refine Xc (CD (k':={kb .aR [] (-1) (L0+1) with var:=L0+2}) (v:=.int (L0+2)) rfl (by decide) (AU (El rfl ⟨_,_,AK l1.br.rep.gB l1.br.rep.hF,rfl,rfl,En (qK (r:=r+9) l1 fun bg l2=>⟨by show AV.int (L0+1+1)=_;congr 1;exact Z2,A,cT (s0 L0),l2,rfl,rfl,fun eJ l3=>?_⟩)⟩)))
  refine Xc (CD (k':={kb .aR [] (-1) (L0+1) with var:=L0+2,title:=.eA}) (v:=.str .eA) rfl (by decide) (Ak ⟨rfl,A,cT (s0 L0),l3,rfl,rfl,fun tv l5=>?_⟩))
  refine Xc (Ap (AU (Aa (El rfl ⟨.ref A.P,At l5.br.rep.gB l5.br.rep.hF (by decide) rfl,.aE,_,AK l5.br.rep.gP l5.br.rep.yQ,rfl,rfl,Ec (El rfl (En (wO (r:=r+10) l5 ⟨fun x hx=>(by cases hx),fun e=>(by subst e),fun x hx=>(by cases hx)⟩ (show L0+1≤L0+1+1 by exact Z4) (.inl rfl) rfl (show 0≤100000 by exact aw rfl) fun pb h6=>⟨rfl,?_⟩)))⟩))))
  refine Xc (Ap (qP (l:=L0+1) (t:=t) h6 (show L0+1≤L0+1+1 by exact Z4) (show 1≤100000 by exact aw rfl) (fun q=>El (by rw [EB];rfl) q) (fun q=>El rfl q) (fun q=>El rfl q) fun zN h7=>⟨rfl,?_⟩))
  have h8:BR (A.add (L0+1) x) (gf L0 t) zN:=h7
  have hP:(A.add (L0+1) x).B=A.B:=rfl
  generalize A.add (L0+1) x=A1 at h8 hP
  refine Xc (wD (fun n ρ' ag=>∃A' s',ae ρ' .aa=some (.ref A'.B)∧BR A' s' ag∧Built s' n f) k ⟨A1,_,by rw [hP];rfl,h8,hb⟩ ?_)
  rintro n ρ' ag ⟨A',s',hB,h3,YV⟩
  cases YV with
  | zero hl=>
    refine Al (AX (Aa (El hB ⟨.ref A'.L,At h3.rep.gB h3.rep.hF (by decide) rfl,⟨[],by refine (congrArg kW h3.rep.gL).trans ?_;show some (List.map _ (aX A' _).later)=_;unfold aX;rw [hl];rfl,Nat.zero_le _,(Ae ⟨false,rfl,(Xc (Aq (Aa (El hB ⟨.ref A'.P,At h3.rep.gB h3.rep.hF (by decide) rfl,?_⟩))))⟩)⟩⟩)))
    exact q A' ag h3
  | @succ _ ls l t1 m s1 k' _ e MX MC PI Wi=>
    have hu:=Wi.up
    have hg:=MC.up
    have hw:=h3.wf.nl
    have YN:s'.n+1≤s1.n:=hg.n
    have K1:=hu.n
    have Qp:ag A'.L=some (.list ((ls++[(l,t1)]).map fun x=>.tup [.ref (A'.bu x.1).1,bT x.2])):=by have h4:ag A'.L=_:=h3.rep.gL;rw [h4];simp only [aX,e,List.map_map];rfl
    have hl:(ls++[(l,t1)]).length≤80000:=by rw [←e];exact T5 YN K1 hn hw
    refine Al (AX (Aa (El hB ⟨.ref A'.L,At h3.rep.gB h3.rep.hF (by decide) rfl,⟨(ls++[(l,t1)]).map fun x:Int×Tm=>AV.tup [.ref (A'.bu x.1).1,bT x.2],congrArg kW Qp,by rw [List.length_map];exact Zl hl rfl,(Ae ?_)⟩⟩)))
    refine ⟨true,?_,?_⟩
    · show some (decide (((((ls++[(l,t1)]).map fun x=>AV.tup [.ref (A'.bu x.1).1,bT x.2])).length:Int)>0))=some true
      rw [decide_eq_true];simp
    · rw [List.map_append] at Qp
      refine Xc (NZ (IG (Aa (El hB ⟨.ref A'.L,At h3.rep.gB h3.rep.hF (by decide) rfl,A'.L,_,.tup [.ref (A'.bu l).1,bT t1],rfl,Qp,?_,[.ref (A'.bu l).1,bT t1],rfl,rfl,?_⟩))))
      · simp at hl ⊢;exact Zl hl rfl
      · have h5:BR A' {s' with later:=ls} (ag.upd A'.L (.list (ls.map fun x=>.tup [.ref (A'.bu x.1).1,bT x.2]))):=by
          have h6:=h3.Lw ls
          rw [List.map_map] at h6
          exact ⟨h6,h3.wf.uM (Nat.le_refl _) (by rw [e] at hw;simp at hw;exact Nat.le_of_lt hw) fun x hx=>h3.wf.later x (by rw [e];exact List.mem_append_left _ hx)⟩
        have Wo:ae (putAll ρ' ([Nm.aq,.dp].zip [AV.ref (A'.bu l).1,bT t1])) .aa=some (.ref A'.B):=by
          show ae (putK (putK ρ' .aq _) .dp _) _=_
          rw [Af,if_neg (by decide),Af,if_neg (by decide)];exact hB
        have Y5:ae (putAll ρ' ([Nm.aq,.dp].zip [AV.ref (A'.bu l).1,bT t1])) .aq=some (.ref (A'.bu l).1):=by
          show ae (putK (putK ρ' .aq _) .dp _) _=_
          rw [Af,if_neg (by decide),Af,if_pos rfl]
        have M0:ae (putAll ρ' ([Nm.aq,.dp].zip [AV.ref (A'.bu l).1,bT t1])) .dp=some (bT t1):=by
          show ae (putK (putK ρ' .aq _) .dp _) _=_
          rw [Af,if_pos rfl]
        refine Xc (Ap (Aj rfl (Ec (El Wo (Ec (El Y5 (Ec (El M0 (En ?_)))))))))
        exact Fn.cU (r+10) (by exact Zr rfl) (wc h5 MX MC PI (by exact Nat.le_trans K1 hn) fun A6 pb Pu h6=>⟨rfl,Ac ⟨k',Nat.lt_succ_self _,A6,s1,by rw [Pu.B];exact Wo,h6,Wi⟩⟩)
end Mine
end
section
namespace Mine
variable {C:Cx} {r:Nat} {ρ:Loc} {st:St} {A:Ad} {s:Cs}
noncomputable def sy (l:Int) (k:KP):BK:=⟨l,k.sort,k.params,k.rest,k.var,k.dF,k.parent,k.title,k.ops,k.last.getD (.gm 0 [])⟩
noncomputable def progOf (s:Cs):sE:=s.blocks.map fun x=>(x.1,sy x.1 x.2)
theorem y7 {op:KO} {m:Nat}:deep st (m+1) (kP op)=some (kP op):=by cases op<;>exact Eq.refl (some _)
theorem y8 {la:KL} {m:Nat}:deep st (m+1) (qk la)=some (qk la):=by cases la<;>exact Eq.refl (some _)
theorem zo {f:AV->Option AV} {xs:List AV} (h:∀a∈xs,f a=some a):kn f xs=some xs:=by
  induction xs with
  | nil=>rfl
  | cons a r ih=>exact (congrArg (Option.bind · _) (h a (.head _))).trans (congrArg (Option.map _) (ih fun b hb=>h b (.tail _ hb)))
theorem Bq {α:Type} {f:AV->Option AV} {x:α} {a b:AV} {l l':List (α×AV)} (h:f a=some b) (h2:kn (kJ f) l=some l'):kn (kJ f) ((x,a)::l)=some ((x,b)::l'):=
  (congrArg (fun o:Option AV=>(o.map fun b=>(x,b)).bind fun b=>(kn (kJ f) l).map (b::·)) h).trans (congrArg (Option.map _) h2)
theorem JX {f:AV->Option AV} {p:Addr} {vs:List AV} (h:st p=some (.list vs)) (hv:∀a∈vs,f a=some a):lU f st p=some (.lst vs):=by
  unfold lU;rw [h];exact congrArg (Option.map AV.lst) (zo hv)
theorem JY {f:AV->Option AV} {p:Addr} {es gs:List (Int×AV)} (h:st p=some (.dict es)) (e:kn (kJ f) es=some gs):lU f st p=some (.kC gs):=by
  unfold lU;rw [h];exact congrArg (Option.map AV.kC) e
theorem vP {f:AV->Option AV} {p d:Addr} {c:Nm} {fs gs:List (Nm×AV)} (h:st p=some (.inst c d)) (h2:st d=some (.aD fs)) (e:kn (kJ f) fs=some gs):lU f st p=some (.obj c gs):=by
  unfold lU vU;rw [h]
  show (Kb (st d)).bind _=_
  rw [h2];exact congrArg (Option.map (AV.obj c)) e
theorem vQ {l:Int} {k:KP} (h:BR A s st) (hb:ae s.blocks l=some k) (hl:k.last.isSome):deep st 3 (.ref (A.bu l).1)=some (pQ (sy l k)):=
  xE (Option.isSome_iff_exists.mp hl) fun la hl=>by
    refine vP (h.k1 hb) (h.k2 hb) (Bq rfl (Bq rfl (Bq rfl (Bq rfl (Bq rfl (Bq rfl (Bq rfl (Bq rfl (Bq (b:=.lst (k.ops.map kP)) ?_ (Bq ?_ rfl))))))))))
    · exact JX (h.k3 hb) fun a ha=>bq (List.mem_map.mp ha) fun op _ e=>e▸y7
    · show deep st 2 (oy k.last)=some (qk (k.last.getD (.gm 0 [])))
      rw [hl];exact y8
theorem vO (h:BR A s st) (hl:∀x∈s.blocks,x.2.last.isSome) (bs:List (Int×KP)):(∀x∈bs,ae s.blocks x.1=some x.2) →
    kn (kJ (deep st 3)) (bs.map fun x=>(x.1,AV.ref (A.bu x.1).1))=some (bs.map fun x=>(x.1,pQ (sy x.1 x.2))):=by
  induction bs with
  | nil=>exact fun _=>rfl
  | cons x bs ih=>exact fun hb=>Bq (vQ h (hb x (.head _)) (hl _ (CP (hb x (.head _))))) (ih fun y hy=>hb y (.tail _ hy))
theorem BR.own (h:BR A s st) {x:Int×KP} (hx:x∈s.blocks):ae s.blocks x.1=some x.2:=by
  obtain ⟨k,e⟩:∃k,ae s.blocks x.1=some k:=by
    cases e:ae s.blocks x.1 with
    | none=>exact absurd rfl (iU.mp e x hx)
    | some k=>exact ⟨k,rfl⟩
  refine bS (h.split e) fun b1 b2 e1 h1 h2=>?_
  rw [e1] at hx
  rcases List.mem_append.mp hx with hx | hx
  · exact absurd rfl (h1 x hx)
  · rcases List.mem_cons.mp hx with hx | hx
    · rw [e,hx]
    · exact absurd rfl (h2 x hx)
theorem rI (h:BR A s st) (hl:∀x∈s.blocks,x.2.last.isSome):∃n,deep st n (.ref A.P)=some (kK (progOf s) s.entry):=by
  have hT:st A.T=some (.dict (s.blocks.map fun x=>(x.1,AV.ref (A.bu x.1).1))):=h.rep.gT.trans (congrArg (fun z=>some (bQ.dict z)) List.map_map)
  have e:kK (progOf s) s.entry=.obj .aE [(.dI,.kC (s.blocks.map fun x=>(x.1,pQ (sy x.1 x.2)))),(.dJ,.int s.entry)]:=congrArg (fun l=>AV.obj .aE [(.dI,.kC l),(.dJ,.int s.entry)]) List.map_map
  exact ⟨5,e▸vP (p:=A.P) (f:=deep st 4) h.rep.gP h.rep.yQ (Bq (JY hT (vO h hl s.blocks fun x hx=>h.own hx)) (Bq rfl rfl))⟩
end Mine
end
section
namespace Mine
abbrev Bm:=Int->Option KP
structure Kn (k k':KP):Prop where
  params:k'.params=k.params
  rest:k'.rest=k.rest
  var:k'.var=k.var
  dF:k'.dF=k.dF
  ops:∃more,k'.ops=k.ops++more
  fin:k.last.isSome->k'=k
theorem Kn.refl (k:KP):Kn k k:=⟨rfl,rfl,rfl,rfl,⟨[],(List.append_nil _).symm⟩,fun _=>rfl⟩
theorem Kn.trans {a b c:KP} (x:Kn a b) (y:Kn b c):Kn a c:=⟨y.params.trans x.params,y.rest.trans x.rest,y.var.trans x.var,y.dF.trans x.dF,
  let ⟨m,e⟩:=x.ops;let ⟨m',e'⟩:=y.ops;⟨m++m',by rw [e',e,List.append_assoc]⟩,fun h=>by have e:=x.fin h;subst e;exact y.fin h⟩
noncomputable def iL (b b':Bm):Prop:=∀l k,b l=some k->∃k',b' l=some k'∧Kn k k'
theorem iL.refl (b:Bm):iL b b:=fun _ k h=>⟨k,h,.refl k⟩
theorem iL.trans {a b c:Bm} (x:iL a b) (y:iL b c):iL a c:=fun l k h=>let ⟨k1,h1,e1⟩:=x l k h;let ⟨k2,h2,e2⟩:=y l k1 h1;⟨k2,h2,e1.trans e2⟩
noncomputable def gq (b:Bm) (l:Int) (i:Nat) (op:KO):Prop:=∃k,b l=some k∧k.ops[i]?=some op
noncomputable def cA (b:Bm) (l:Int) (i:Nat) (la:KL):Prop:=∃k,b l=some k∧k.ops.length=i∧k.last=some la
noncomputable def cu (b:Bm) (l:Int) (ps:List Int) (rest var:Int):Prop:=∃k,b l=some k∧k.params=ps∧k.rest=rest∧k.var=var
theorem gq.up {b b':Bm} {l:Int} {i:Nat} {op:KO} (h:gq b l i op) (x:iL b b'):gq b' l i op:=by
  refine bq h ?_;clear h;intro k h1 h2
  refine bq (x l k h1) fun k' M3 hk=>?_
  refine xE hk.ops fun m e=>?_
  refine ⟨k',M3,?_⟩
  rw [e,List.getElem?_append_left (List.getElem?_eq_some_iff.mp h2).1];exact h2
theorem cA.up {b b':Bm} {l:Int} {i:Nat} {la:KL} (h:cA b l i la) (x:iL b b'):cA b' l i la:=by
  refine dR h ?_;clear h;intro k h1 h2 h3
  refine bq (x l k h1) fun k' M3 hk=>?_
  have:=hk.fin (by rw [h3];rfl)
  subst this
  exact ⟨k',M3,h2,h3⟩
theorem cu.up {b b':Bm} {l:Int} {ps:List Int} {rest var:Int} (h:cu b l ps rest var) (x:iL b b'):cu b' l ps rest var:=by
  refine gx h ?_;clear h;intro k h1 h2 h3 h4
  refine bq (x l k h1) fun k' M3 hk=>?_
  exact ⟨k',M3,hk.params.trans h2,hk.rest.trans h3,hk.var.trans h4⟩
inductive Ds where | val (l:Int) (i:Nat) (x c:Int) | cj (l:Int) (i:Nat) (c:Int) | tail (y:Int) | back (v:KV)
noncomputable def fQ (b:Bm) (x l:Int) (i:Nat) (c:Int):Ds->Prop
  | .val l' i' x' c'=>l'=l∧i'=i∧x'=x∧c'=c
  | .cj l' i' c'=>l'=l∧i'=i∧c'=c
  | .tail y=>cA b l i (.give y [x])
  | .back _=>False
structure Fi where
  lab:Int
  y:Int
  ps:List Int
  body:Tm
  sc:List Int
  ρ:Int->Int
  lo:Int
  hi:Int
inductive hY (b:Bm) (c to var:Int):Ds->Prop
  | tail {y}:to = -1->var=y->0≤y->hY b c to var (.tail y)
  | val {x c' v}:var = -1->cu b to [x] (-1) v->c<x->x≤c'->hY b c to var (.val to 0 x c')
  | cj {x c' v}:var = -1->cu b to [] x v->0≤x->c≤c'->hY b c to var (.cj to 0 c')
inductive Meet (b:Bm) (c:Int):Ds->Ds->Prop
  | tail {y}:Meet b c (.tail y) (.tail y)
  | val {l i x c1 la xp c' v}:cA b l i (.gm la [x])->cu b la [xp] (-1) v->c<xp->xp≤c'->Meet b c (.val l i x c1) (.val la 0 xp c')
  | cj {l i c1 la c' v}:cA b l i (.gm la [])->cu b la [] (-1) v->c≤c'->Meet b c (.cj l i c1) (.cj la 0 c')
abbrev wZ:=List Int->(Int->Int)->Tm->Int->Nat->Int->Ds->Prop
abbrev oY:=List Int->(Int->Int)->List Tm->Int->Nat->Int->Int->Nat->Int->List Int->Prop
inductive dQ (b:Bm) (FT:Fi->Prop) (R:wZ) (S:oY) (sc:List Int) (ρ:Int->Int) (l:Int) (i:Nat) (c:Int):Tm->Ds->Prop
  | cst {k d x c'}:c<x->x≤c'->gq b l i (.cst x (.c k))->fQ b x l (i+1) c' d->dQ b FT R S sc ρ l i c (.cst k) d
  | y9 {k}:dQ b FT R S sc ρ l i c (.cst k) (.cj l i c)
  | loc {n d}:n∈sc->fQ b (ρ n) l i c d->dQ b FT R S sc ρ l i c (.loc n) d
  | bI {s d x c'}:c<x->x≤c'->gq b l i (.bI x s)->fQ b x l (i+1) c' d->dQ b FT R S sc ρ l i c (.bI s) d
  | lam {lab ps body d x c' fi}:c<x->x≤c'->gq b l i (.fn x fi.lab)->FT fi->fi.ps=ps->fi.body=body->fi.sc=sc->(∀n∈sc,fi.ρ n=ρ n)->fQ b x l (i+1) c' d->dQ b FT R S sc ρ l i c (.lam lab ps body) d
  | yx {lab ps body}:dQ b FT R S sc ρ l i c (.lam lab ps body) (.cj l i c)
  | lA {s e d l1 i1 a c1 x c'}:R sc ρ e l i c (.val l1 i1 a c1)->gq b l1 i1 (.set s a)->c1<x->x≤c'->gq b l1 (i1+1) (.cst x .aA)->fQ b x l1 (i1+2) c' d->dQ b FT R S sc ρ l i c (.set s e) d
  | lB {s e l1 i1 a c1}:R sc ρ e l i c (.val l1 i1 a c1)->gq b l1 i1 (.set s a)->dQ b FT R S sc ρ l i c (.set s e) (.cj l1 (i1+1) c1)
  | bt {t1 t2 t3 d l1 i1 x c1 ly ln cy cn d1 d2 vy vn}:R sc ρ t1 l i c (.val l1 i1 x c1)->cA b l1 i1 (.branch x ly ln)->cu b ly [] (-1) vy->cu b ln [] (-1) vn->c1≤cy->c1≤cn →
      R sc ρ t2 ly 0 cy d1->R sc ρ t3 ln 0 cn d2->Meet b c1 d1 d->Meet b c1 d2 d->dQ b FT R S sc ρ l i c (.bt t1 t2 t3) d
  | seq {t1 t2 d l1 i1 c1}:R sc ρ t1 l i c (.cj l1 i1 c1)->R sc ρ t2 l1 i1 c1 d->dQ b FT R S sc ρ l i c (.seq t1 t2) d
  | p1 {t d l1 i1 x c1 y c'}:R sc ρ t l i c (.val l1 i1 x c1)->c1<y->y≤c'->gq b l1 i1 (.prim y 8 [x])->fQ b y l1 (i1+1) c' d->dQ b FT R S sc ρ l i c (.p1 t) d
  | p2 {t u d l1 i1 x c1 l2 i2 x2 c2 y c'}:R sc ρ t l i c (.val l1 i1 x c1)->R sc ρ u l1 i1 c1 (.val l2 i2 x2 c2)->c2<y->y≤c'->gq b l2 i2 (.prim y 9 [x,x2])->fQ b y l2 (i2+1) c' d->dQ b FT R S sc ρ l i c (.p2 t u) d
  | lets {lab ps body as d l1 i1 c1 xs} (ρ':Int->Int):S sc ρ as l i c l1 i1 c1 xs->ps.length=as.length->(∀n∈sc,ρ' n=ρ n)->ps.map ρ'=xs->(∀n∈sc,n∉ps)->ps.Nodup->ps.length≤2 →
      R (sc++ps) ρ' body l1 i1 c1 d->dQ b FT R S sc ρ l i c (.call (.lam lab ps body) as) d
  | call {f as d l1 i1 x c1 l2 i2 c2 xs to var}:R sc ρ f l i c (.val l1 i1 x c1)->S sc ρ as l1 i1 c1 l2 i2 c2 xs->as.length≤2->cA b l2 i2 (.call x xs to var)->hY b c2 to var d->dQ b FT R S sc ρ l i c (.call f as) d
inductive eS (R:wZ) (S:oY) (sc:List Int) (ρ:Int->Int) (l:Int) (i:Nat) (c:Int):List Tm->Int->Nat->Int->List Int->Prop
  | nil:eS R S sc ρ l i c [] l i c []
  | cons {t ts l1 i1 x c1 l2 i2 c2 xs}:R sc ρ t l i c (.val l1 i1 x c1)->S sc ρ ts l1 i1 c1 l2 i2 c2 xs->eS R S sc ρ l i c (t::ts) l2 i2 c2 (x::xs)
section
variable {b:Bm} {FT:Fi->Prop} {R R':wZ} {S S':oY} {sc:List Int} {ρ:Int->Int} {l l2:Int} {i i2:Nat} {c c2:Int} {t:Tm} {ts:List Tm} {d:Ds} {xs:List Int}
abbrev KD (R R':wZ):Prop:=∀{sc ρ t l i c d},R sc ρ t l i c d->R' sc ρ t l i c d
abbrev wY (S S':oY):Prop:=∀{sc ρ t l i c l2 i2 c2 xs},S sc ρ t l i c l2 i2 c2 xs->S' sc ρ t l i c l2 i2 c2 xs
theorem dQ.mono (r:KD R R') (s:wY S S') (h:dQ b FT R S sc ρ l i c t d):dQ b FT R' S' sc ρ l i c t d:=by
  cases h with
  | cst h1 h2 h3 h4=>exact .cst h1 h2 h3 h4
  | y9=>exact .y9
  | loc h1 h2=>exact .loc h1 h2
  | bI h1 h2 h3 h4=>exact .bI h1 h2 h3 h4
  | lam h1 h2 h3 h4 h5 h6 h7 h8 h9=>exact .lam h1 h2 h3 h4 h5 h6 h7 h8 h9
  | yx=>exact .yx
  | lA h1 h2 h3 h4 h5 h6=>exact .lA (r h1) h2 h3 h4 h5 h6
  | lB h1 h2=>exact .lB (r h1) h2
  | bt h1 h2 h3 h4 h5 h6 h7 h8 h9 h10=>exact .bt (r h1) h2 h3 h4 h5 h6 (r h7) (r h8) h9 h10
  | seq h1 h2=>exact .seq (r h1) (r h2)
  | p1 h1 h2 h3 h4 h5=>exact .p1 (r h1) h2 h3 h4 h5
  | p2 h1 h2 h3 h4 h5 h6=>exact .p2 (r h1) (r h2) h3 h4 h5 h6
  | lets ρ' h1 h2 h3 h4 h5 h6 h7 h8=>exact .lets ρ' (s h1) h2 h3 h4 h5 h6 h7 (r h8)
  | call h1 h2 h3 h4 h5=>exact .call (r h1) (s h2) h3 h4 h5
theorem eS.mono (r:KD R R') (s:wY S S') (h:eS R S sc ρ l i c ts l2 i2 c2 xs):eS R' S' sc ρ l i c ts l2 i2 c2 xs:=by
  cases h with
  | nil=>exact .nil
  | cons h1 h2=>exact .cons (r h1) (s h2)
structure KG (b:Bm) (FT:Fi->Prop) (R:wZ) (S:oY):Prop where
  r:KD (fun sc ρ t l i c d=>dQ b FT R S sc ρ l i c t d) R
  s:wY (fun sc ρ t l i c l2 i2 c2 xs=>eS R S sc ρ l i c t l2 i2 c2 xs) S
def Code (b:Bm) (FT:Fi->Prop) (sc:List Int) (ρ:Int->Int) (t:Tm) (l:Int) (i:Nat) (c:Int) (d:Ds):Prop:=∀R S,KG b FT R S->R sc ρ t l i c d
def dY (b:Bm) (FT:Fi->Prop) (sc:List Int) (ρ:Int->Int) (t:List Tm) (l:Int) (i:Nat) (c l2:Int) (i2:Nat) (c2:Int) (xs:List Int):Prop:=∀R S,KG b FT R S->S sc ρ t l i c l2 i2 c2 xs
theorem Code.w (h:dQ b FT (Code b FT) (dY b FT) sc ρ l i c t d):Code b FT sc ρ t l i c d:=fun R S p=>p.r (h.mono (fun g=>g R S p) fun g=>g R S p)
theorem dY.w (h:eS (Code b FT) (dY b FT) sc ρ l i c ts l2 i2 c2 xs):dY b FT sc ρ ts l i c l2 i2 c2 xs:=fun R S p=>p.s (h.mono (fun g=>g R S p) fun g=>g R S p)
theorem Iy:KG b FT (fun sc ρ t l i c d=>dQ b FT (Code b FT) (dY b FT) sc ρ l i c t d) (fun sc ρ t l i c l2 i2 c2 xs=>eS (Code b FT) (dY b FT) sc ρ l i c t l2 i2 c2 xs):=⟨fun h=>h.mono .w .w,fun h=>h.mono .w .w⟩
theorem Code.o (h:Code b FT sc ρ t l i c d):dQ b FT (Code b FT) (dY b FT) sc ρ l i c t d:=h _ _ Iy
theorem dY.o (h:dY b FT sc ρ ts l i c l2 i2 c2 xs):eS (Code b FT) (dY b FT) sc ρ l i c ts l2 i2 c2 xs:=h _ _ Iy
end
structure oX (b:Bm) (FT:Fi->Prop) (fi:Fi):Prop where
  nq:∀n∈fi.sc,n∉fi.ps
  nodup:fi.ps.Nodup
  len:fi.ps.length≤2
  ps:∀p∈fi.ps,fi.ρ p=p
  out:∀n∈fi.sc,fi.ρ n∉fi.ps∧fi.ρ n≠fi.y
  y:fi.y∉fi.ps∧0≤fi.y
  bu:cu b fi.lab fi.ps (-1) fi.y
  code:∃c,(∀n∈fi.sc++fi.ps,fi.ρ n≤c)∧fi.y≤c∧Code b FT (fi.sc++fi.ps) fi.ρ fi.body fi.lab 0 c (.tail fi.y)
end Mine
end
section
namespace Mine
noncomputable def named (o:List (Int×Int)) (n:Int):Int:=(ae o n).getD n
noncomputable def bm (s:Cs):Bm:=fun l=>ae s.blocks l
noncomputable def jX (s:Cs):Prop:=∀l k,ae s.blocks l=some k->l≤s.last
structure Ev (S S':Cs) (P:Int->Prop):Prop where
  last:S.last≤S'.last
  cD:jX S'
  le:iL (bm S) (bm S')
  frame:∀j k,ae S.blocks j=some k->¬P j->ae S'.blocks j=some k
theorem Ev.trans {S S1 S2:Cs} {P P1:Int->Prop} (x:Ev S S1 P) (y:Ev S1 S2 P1) (hb:jX S) (hP:∀j,j≤S.last->P1 j->P j):Ev S S2 P:=
  ⟨Int.le_trans x.last y.last,y.cD,x.le.trans y.le,fun j k e n=>y.frame j k (x.frame j k e n) fun q=>n (hP j (hb j k e) q)⟩
theorem Ev.weak {S S1:Cs} {P P1:Int->Prop} (x:Ev S S1 P) (h:∀j,P j->P1 j):Ev S S1 P1:=⟨x.last,x.cD,x.le,fun j k e n=>x.frame j k e fun q=>n (h j q)⟩
noncomputable def Un (S:Cs) (j:Int):Prop:=∃k,ae S.blocks j=some k∧k.last=none
noncomputable def jy (S:Cs) (l:Int) (i:Nat) (h:Int):Prop:=S.here=some l∧∃k,ae S.blocks l=some k∧k.last=none∧k.ops.length=i∧k.dF=h
noncomputable def HV (S:Cs) (h y:Int):Prop:=∃k,ae S.blocks h=some k∧k.var=y
theorem HV.up {S S':Cs} {h y:Int} (hv:HV S h y) (x:iL (bm S) (bm S')):HV S' h y:=by
  refine bq hv ?_;clear hv;intro k e q
  refine bq (x h k e) fun k' e' hk=>?_
  exact ⟨k',e',hk.var.trans q⟩
theorem Dl {S:Cs} {l h y:Int} {i:Nat} (a:jy S l i h) (hv:HV S h y):d7 S=y:=by
  refine mX a ?_;clear a;intro e k e1 _ _ e4
  refine bq hv ?_;clear hv;intro k' e5 e6
  unfold d7
  rw [C6 e e1,e4,e5];exact e6
theorem BX {S S':Cs} (hb:jX S) (h:S'.blocks=S.blocks) (hl:S.last≤S'.last):Ev S S' fun _=>False:=
  ⟨hl,fun l k e=>by rw [h] at e;exact Int.le_trans (hb l k e) hl,fun l k e=>⟨k,by unfold bm;rw [h];exact e,.refl k⟩,fun j k e _=>by rw [h];exact e⟩
theorem jy.same {S S':Cs} {l h:Int} {i:Nat} (a:jy S l i h) (e:S'.blocks=S.blocks) (e2:S'.here=S.here):jy S' l i h:=by
  unfold jy;rw [e,e2];exact a
theorem Gm {S:Cs} {l h:Int} {i:Nat} {op:KO} (a:jy S l i h) (hb:jX S):Ev S (bO op S) (·=l)∧jy (bO op S) l (i+1) h∧gq (bm (bO op S)) l i op∧∀j,Un (bO op S) j->Un S j:=by
  refine mX a ?_;clear a;intro e k e1 e2 e3 e4
  have eb:(bO op S).blocks=jo S.blocks l fun k=>{k with ops:=k.ops++[op]}:=by unfold bO;rw [Bf e]
  have g:∀j,ae (bO op S).blocks j=if j=l then (ae S.blocks j).map (fun k=>{k with ops:=k.ops++[op]}) else ae S.blocks j:=fun j=>by rw [eb,Cd]
  refine ⟨⟨Int.le_refl _,fun j k' q=>?_,fun j k' q=>?_,fun j k' q n=>?_⟩,⟨e,{k with ops:=k.ops++[op]},by rw [g,if_pos rfl,e1];rfl,e2,by simp [e3],e4⟩,⟨{k with ops:=k.ops++[op]},by unfold bm;rw [g,if_pos rfl,e1];rfl,by simp [←e3]⟩,fun j ⟨k',q1,q2⟩=>?_⟩
  · rw [g] at q
    split at q
    · refine bq (Option.map_eq_some_iff.mp q) fun k0 q _=>?_;exact hb _ _ q
    · exact hb _ _ q
  · unfold bm at q ⊢
    rw [g]
    split
    · rename_i hj;subst hj
      rw [e1] at q;subst q
      rw [e1]
      exact ⟨_,rfl,rfl,rfl,rfl,rfl,⟨[op],rfl⟩,fun f=>by rw [e2] at f;subst f⟩
    · exact ⟨k',q,.refl _⟩
  · rw [g,if_neg n];exact q
  · rw [g] at q1
    split at q1
    · refine bq (Option.map_eq_some_iff.mp q1) fun k0 q q3=>?_
      subst q3
      exact ⟨k0,q,q2⟩
    · exact ⟨k',q1,q2⟩
theorem BE {S:Cs} {l h:Int} {i:Nat} {la:KL} (a:jy S l i h) (hb:jX S):Ev S (cK la S) (·=l)∧cA (bm (cK la S)) l i la∧∀j,Un (cK la S) j->Un S j∧j≠l:=by
  refine mX a ?_;clear a;intro e k e1 e2 e3 e4
  have eb:(cK la S).blocks=jo S.blocks l fun k=>{k with last:=some la}:=by unfold cK;rw [Bf e]
  have g:∀j,ae (cK la S).blocks j=if j=l then (ae S.blocks j).map (fun k=>{k with last:=some la}) else ae S.blocks j:=fun j=>by rw [eb,Cd]
  refine ⟨⟨Int.le_refl _,fun j k' q=>?_,fun j k' q=>?_,fun j k' q n=>?_⟩,⟨{k with last:=some la},by unfold bm;rw [g,if_pos rfl,e1];rfl,e3,rfl⟩,fun j ⟨k',q1,q2⟩=>?_⟩
  · rw [g] at q
    split at q
    · refine bq (Option.map_eq_some_iff.mp q) fun k0 q _=>?_;exact hb _ _ q
    · exact hb _ _ q
  · unfold bm at q ⊢
    rw [g]
    split
    · rename_i hj;subst hj
      rw [e1] at q;subst q
      rw [e1]
      exact ⟨_,rfl,rfl,rfl,rfl,rfl,⟨[],(List.append_nil _).symm⟩,fun f=>by rw [e2] at f;subst f⟩
    · exact ⟨k',q,.refl _⟩
  · rw [g,if_neg n];exact q
  · rw [g] at q1
    split at q1
    · refine bq (Option.map_eq_some_iff.mp q1) fun k0 q q3=>?_
      subst q3;injection q2
    · rename_i hj;exact ⟨⟨k',q1,q2⟩,hj⟩
theorem vF {S:Cs} {l:Int} {k:KP} (hb:jX S) (hl:l≤S.last) (hn:ae S.blocks l=none):Ev S (ip l k S) (fun _=>False)∧ae (ip l k S).blocks l=some k∧∀j,Un (ip l k S) j->Un S j∨j=l:=by
  have g:∀j,ae (ip l k S).blocks j=if j=l then some k else ae S.blocks j:=fun j=>Bp hn
  refine ⟨⟨Int.le_refl _,fun j k' q=>?_,fun j k' q=>⟨k',?_,.refl _⟩,fun j k' q _=>?_⟩,by rw [g,if_pos rfl],fun j ⟨k',q1,q2⟩=>?_⟩
  · rw [g] at q
    split at q
    · rename_i hj;rw [hj];exact hl
    · exact hb _ _ q
  · unfold bm at q ⊢
    rw [g,if_neg fun e=>by rw [e,hn] at q;injection q];exact q
  · rw [g,if_neg fun e=>by rw [e,hn] at q;injection q];exact q
  · rw [g] at q1
    split at q1
    · rename_i hj;exact .inr hj
    · exact .inl ⟨k',q1,q2⟩
theorem jX.none {S:Cs} {l:Int} (h:jX S) (hl:S.last<l):ae S.blocks l=none:=by
  cases e:ae S.blocks l with
  | none=>rfl
  | some k=>have:=h l k e;exact absurd hl (Int.not_lt.mpr this)
theorem jX.fr {S:Cs} (h:jX S):jX (cT S):=fun l k e=>by have:=h l k e;show l≤S.last+1;exact Int.le_add_one this
structure sj (S S':Cs) (sc:List Int) (lo hi N0:Int) (fi:Fi):Prop where
  lab:S.last<fi.lab
  bu:∃k,ae S'.blocks fi.lab=some k∧k.params=fi.ps∧k.rest = -1∧k.var=fi.y∧k.dF=fi.lab∧k.ops=[]∧k.last=none
  range:lo≤fi.lo∧fi.lo≤fi.hi∧fi.hi≤hi
  scope:∀n∈fi.sc++fi.ps,n∈sc∨(lo<n∧n≤hi)
  num:Num (fi.sc++fi.ps) fi.lo fi.hi fi.body
  le:∀n∈fi.sc++fi.ps,n≤fi.lo
  ρ:∀n∈fi.sc++fi.ps,fi.ρ n=named S'.other n
  ps:∀p∈fi.ps,fi.ρ p=p
  out:∀n∈fi.sc,fi.ρ n∉fi.ps∧fi.ρ n≠fi.y
  jV:∀n∈fi.sc++fi.ps,fi.ρ n≤S'.last∧(fi.ρ n≤fi.lo∨N0<fi.ρ n)
  none:∀n,fi.lo<n->n≤fi.hi->ae S'.other n=.none
  y:0≤fi.y∧fi.y≤S'.last∧fi.y∉fi.ps
  nq:∀n∈fi.sc,n∉fi.ps
  nodup:fi.ps.Nodup
  len:fi.ps.length≤2
structure Kv (a b:Fi):Prop where
  lab:a.lab≠b.lab
  r:a.hi≤b.lo∨b.hi≤a.lo
  ab:∀n∈a.sc++a.ps,¬(b.lo<n∧n≤b.hi)
  ba:∀n∈b.sc++b.ps,¬(a.lo<n∧n≤a.hi)
noncomputable def total (l:List Fi):Nat:=(l.map fun fi=>fi.body.size).sum
theorem Cp (a b:List Fi):total (a++b)=total a+total b:=by unfold total;rw [List.map_append,List.sum_append]
structure i7 (S S':Cs) (sc:List Int) (lo hi N0:Int) (P U:Int->Prop) (sz:Nat) (new:List Fi):Prop where
  ev:Ev S S' P
  other:∀n,(n≤lo∨hi<n)->ae S'.other n=ae S.other n
  later:S'.later=S.later++new.map fun fi=>(fi.lab,fi.body)
  mC:∀fi∈new,sj S S' sc lo hi N0 fi
  pw:new.Pairwise Kv
  size:S'.n+60*total new≤S.n+sz
  entry:S'.entry=S.entry
  un:∀j,Un S' j->U j∨(Un S j∧¬P j)∨∃fi∈new,fi.lab=j
  nl:∀fi∈new,¬U fi.lab
  ul:∀j,U j->P j∨S.last<j
  ub:∀j,U j->j≤S'.last
theorem sj.up {S S1 S2:Cs} {sc Lz:List Int} {lo hi Pm qo N0:Int} {fi:Fi} {P:Int->Prop} (h:sj S S1 sc lo hi N0 fi) (x:Ev S1 S2 P) (hP:¬P fi.lab) (ho:∀n∈fi.sc++fi.ps,ae S2.other n=ae S1.other n) (hn:∀n,fi.lo<n->n≤fi.hi->ae S2.other n=ae S1.other n)
    (h1:Pm≤lo) (h2:hi≤qo) (h3:∀n∈fi.sc++fi.ps,n∈Lz∨(Pm<n∧n≤qo)):sj S S2 Lz Pm qo N0 fi:=by
  refine bq h.bu fun k e q=>?_
  refine ⟨h.lab,⟨k,x.frame _ _ e hP,q⟩,⟨by have:=h.range;exact W3 h1 this,h.range.2.1,by have:=h.range;exact W2 h2 this⟩,h3,h.num,h.le,fun n hn=>?_,h.ps,h.out,fun n hn=>⟨Int.le_trans (h.jV n hn).1 x.last,(h.jV n hn).2⟩,fun n a b=>?_,⟨h.y.1,Int.le_trans h.y.2.1 x.last,h.y.2.2⟩,h.nq,h.nodup,h.len⟩
  · rw [h.ρ n hn];unfold named;rw [ho n hn]
  · rw [hn n a b];exact h.none n a b
theorem i7.trans {S S1 S2:Cs} {sc VH Ly:List Int} {lo hi a1 b1 a2 b2 N0:Int} {P1 U1 P2 U2:Int->Prop} {z1 z2:Nat} {na nb:List Fi} (h1:i7 S S1 VH a1 b1 N0 P1 U1 z1 na) (h2:i7 S1 S2 Ly a2 b2 N0 P2 U2 z2 nb) (hb:jX S)
    (hP:∀j,j≤S.last->P2 j->P1 j) (Wl:∀fi∈na,¬P2 fi.lab) (r1:lo≤a1∧b1≤hi) (r2:lo≤a2∧b2≤hi) (rd:b1≤a2∨b2≤a1)
    (s1:∀n∈VH,(n∈sc∨(lo<n∧n≤hi))∧¬(a2<n∧n≤b2)) (s2:∀n∈Ly,(n∈sc∨(lo<n∧n≤hi))∧¬(a1<n∧n≤b1)) :
    i7 S S2 sc lo hi N0 P1 (fun j=>U2 j∨(U1 j∧¬P2 j)) (z1+z2) (na++nb):=by
  have f1:∀fi∈na,∀n∈fi.sc++fi.ps,(n∈sc∨(lo<n∧n≤hi))∧¬(a2<n∧n≤b2):=fun fi hf n hn=>by
    rcases (h1.mC fi hf).scope n hn with h | h
    · exact s1 n h
    · exact ⟨.inr (by exact W0 h r1),by exact T3 h rd⟩
  have f2:∀fi∈nb,∀n∈fi.sc++fi.ps,(n∈sc∨(lo<n∧n≤hi))∧¬(a1<n∧n≤b1):=fun fi hf n hn=>by
    rcases (h2.mC fi hf).scope n hn with h | h
    · exact s2 n h
    · exact ⟨.inr (by exact W0 h r2),by exact WZ h rd⟩
  have uO:∀fi∈na,fi.lab≤S1.last:=fun fi hf=>by refine bq ((h1.mC fi hf).bu) fun k e _=>?_;exact h1.ev.cD _ _ e
  refine ⟨h1.ev.trans h2.ev hb hP,fun n hn=>?_,?_,fun fi hf=>?_,?_,?_,h2.entry.trans h1.entry,fun j hj=>?_,fun fi hf=>?_,fun j hj=>?_,fun j hj=>?_⟩
  · rw [h2.other n (by exact WY r2 hn),h1.other n (by exact WY r1 hn)]
  · rw [h2.later,h1.later,List.append_assoc,List.map_append]
  · rcases List.mem_append.mp hf with hf | hf
    · have g:=h1.mC fi hf
      have hr:=g.range
      refine g.up h2.ev (Wl fi hf) (fun n hn=>h2.other n (by have:=(f1 fi hf n hn).2;exact WX this)) (fun n p q=>h2.other n (by exact T1 p q hr rd)) (by exact TZ r1) (by exact TY r1) fun n hn=>(f1 fi hf n hn).1
    · have g:=h2.mC fi hf
      have hr:=g.range
      refine bq g.bu fun k e q=>?_
      exact ⟨by have:=g.lab;have:=h1.ev.last;exact Int.lt_of_le_of_lt this (by assumption),⟨k,e,q⟩,by exact TX hr r2,fun n hn=>(f2 fi hf n hn).1,g.num,g.le,g.ρ,g.ps,g.out,g.jV,g.none,g.y,g.nq,g.nodup,g.len⟩
  · refine List.pairwise_append.mpr ⟨h1.pw,h2.pw,fun fa ha fb hb=>?_⟩
    have g1:=(h1.mC fa ha).range
    have g2:=(h2.mC fb hb).range
    exact ⟨by have:=uO fa ha;have:=(h2.mC fb hb).lab;exact UX this (by assumption),by exact TV g1 rd g2,fun n hn=>by have:=(f1 fa ha n hn).2;exact Tq g2 this,fun n hn=>by have:=(f2 fb hb n hn).2;exact Tq g1 this⟩
  · rw [Cp];have:=h1.size;have:=h2.size;exact TU this (by assumption)
  · rcases h2.un j hj with h | ⟨h,hn⟩ | ⟨fi,hf,e⟩
    · exact .inl (.inl h)
    · rcases h1.un j h with h | h | ⟨fi,hf,e⟩
      · exact .inl (.inr ⟨h,hn⟩)
      · exact .inr (.inl h)
      · exact .inr (.inr ⟨fi,List.mem_append_left _ hf,e⟩)
    · exact .inr (.inr ⟨fi,List.mem_append_right _ hf,e⟩)
  · rcases List.mem_append.mp hf with hf | hf
    · rintro (q | ⟨q,_⟩)
      · rcases h2.ul _ q with q | q
        · exact Wl fi hf q
        · have:=uO fi hf;exact absurd q (Int.not_lt.mpr this)
      · exact h1.nl fi hf q
    · rintro (q | ⟨q,_⟩)
      · exact h2.nl fi hf q
      · have:=h1.ub _ q;have:=(h2.mC fi hf).lab;exact absurd this (Int.not_lt.mpr (by assumption))
  · rcases hj with q | ⟨q,_⟩
    · rcases h2.ul j q with q | q
      · by_cases hj:j≤S.last
        · exact .inl (hP j hj q)
        · exact .inr (by exact TS hj)
      · exact .inr (by have:=h1.ev.last;exact Int.lt_of_le_of_lt this q)
    · exact h1.ul j q
  · rcases hj with q | ⟨q,_⟩
    · exact h2.ub j q
    · exact Int.le_trans (h1.ub j q) h2.ev.last
theorem i7.weak {S S':Cs} {sc:List Int} {lo hi N0:Int} {P U U':Int->Prop} {z z':Nat} {new:List Fi} (h:i7 S S' sc lo hi N0 P U z new) (hU:∀j,U j↔U' j) (hz:z≤z'):i7 S S' sc lo hi N0 P U' z' new:=
  ⟨h.ev,h.other,h.later,h.mC,h.pw,by have:=h.size;exact TR this hz,h.entry,fun j hj=>(h.un j hj).imp (hU j).mp id,fun fi hf q=>h.nl fi hf ((hU _).mpr q),fun j q=>h.ul j ((hU j).mpr q),fun j q=>h.ub j ((hU j).mpr q)⟩
theorem i7.plain {S S':Cs} {sc:List Int} {lo hi N0:Int} {P U:Int->Prop} {z:Nat} (ev:Ev S S' P) (ho:S'.other=S.other) (hl:S'.later=S.later) (hn:S'.n≤S.n+z) (he:S'.entry=S.entry) (un:∀j,Un S' j->U j∨(Un S j∧¬P j)) (ul:∀j,U j->P j∨S.last<j)
    (ub:∀j,U j->j≤S'.last):i7 S S' sc lo hi N0 P U z []:=
  ⟨ev,fun n _=>by rw [ho],by rw [hl];simp,fun fi h=>(by cases h),.nil,by unfold total;simpa using hn,he,fun j h=>(un j h).imp id .inl,fun fi h=>(by cases h),ul,ub⟩
structure gK (S S':Cs):Prop where
  blocks:S'.blocks=S.blocks
  last:S'.last=S.last
  here:S'.here=S.here
  other:S'.other=S.other
  later:S'.later=S.later
  entry:S'.entry=S.entry
structure ik (S S':Cs):Prop where
  blocks:S'.blocks=S.blocks
  last:S'.last=S.last
  other:S'.other=S.other
  later:S'.later=S.later
  entry:S'.entry=S.entry
theorem gK.b {S S':Cs} (h:gK S S'):ik S S':=⟨h.blocks,h.last,h.other,h.later,h.entry⟩
theorem ik.un {S S':Cs} (h:ik S S') (j:Int):Un S' j↔Un S j:=by unfold Un;rw [h.blocks]
theorem ik.bm {S S':Cs} (h:ik S S'):bm S'=bm S:=by unfold Mine.bm;rw [h.blocks]
theorem gK.un {S S':Cs} (h:gK S S') (j:Int):Un S' j↔Un S j:=by unfold Un;rw [h.blocks]
theorem gK.bm {S S':Cs} (h:gK S S'):bm S'=bm S:=by unfold Mine.bm;rw [h.blocks]
theorem gK.at_ {S S':Cs} {l h0:Int} {i:Nat} (h:gK S S') (a:jy S l i h0):jy S' l i h0:=a.same h.blocks h.here
theorem Ev.left {S Sa S':Cs} {P:Int->Prop} (x:Ev Sa S' P) (h:ik S Sa):Ev S S' P:=⟨h.last▸x.last,x.cD,h.bm▸x.le,fun j k e=>x.frame j k (by rw [h.blocks];exact e)⟩
theorem i7.left {S Sa S':Cs} {sc:List Int} {lo hi N0:Int} {P U:Int->Prop} {z d:Nat} {new:List Fi} (x:i7 Sa S' sc lo hi N0 P U z new) (h:ik S Sa) (hn:Sa.n≤S.n+d):i7 S S' sc lo hi N0 P U (z+d) new:=
  ⟨x.ev.left h,fun n hn=>by rw [x.other n hn,h.other],by rw [x.later,h.later],fun fi hf=>by
    have g:=x.mC fi hf
    exact ⟨h.last▸g.lab,g.bu,g.range,g.scope,g.num,g.le,g.ρ,g.ps,g.out,g.jV,g.none,g.y,g.nq,g.nodup,g.len⟩,x.pw,by have:=x.size;exact WW this hn,x.entry.trans h.entry,
    fun j hj=>(x.un j hj).imp id (Or.imp (fun q=>⟨(h.un j).mp q.1,q.2⟩) id),x.nl,fun j hj=>h.last▸x.ul j hj,x.ub⟩
end Mine
end
section
namespace Mine
mutual
theorem Num.le:∀{sc:List Int} {lo hi:Int} {t:Tm},Num sc lo hi t->lo≤hi
  | _,_,_,_,.cst=>Int.le_refl _
  | _,_,_,_,.loc _=>Int.le_refl _
  | _,_,_,_,.bI=>Int.le_refl _
  | _,_,_,_,.set h=>h.le
  | _,_,_,_,.bt a b c=>Int.le_trans a.le (Int.le_trans b.le c.le)
  | _,_,_,_,.lam n _ h=>by have:=h.le;exact Tc (by assumption) this
  | _,_,_,_,.call a b _=>Int.le_trans a.le b.le
  | _,_,_,_,.seq a b=>Int.le_trans a.le b.le
  | _,_,_,_,.p1 a=>a.le
  | _,_,_,_,.p2 a b=>Int.le_trans a.le b.le
theorem fy.le:∀{sc:List Int} {lo hi:Int} {t:List Tm},fy sc lo hi t->lo≤hi
  | _,_,_,_,.nil=>Int.le_refl _
  | _,_,_,_,.cons a b=>Int.le_trans a.le b.le
end
noncomputable def heldW (w:Way) (hs:List Int) (x:Int):List Int:=match w with | .val=>hs++[x] | _=>hs
noncomputable def dest (w:Way) (l:Int) (i:Nat) (x y c:Int):Ds:=match w with | .val=>.val l i x c | .cj=>.cj l i c | .tail=>.tail y
structure Hyp (S:Cs) (sc:List Int) (lo hi z N0 l:Int) (i:Nat) (h y:Int):Prop where
  b6:∀n∈sc,n≤lo
  hz:z≤lo
  oZ:hi≤N0
  last:N0≤S.last
  nm:∀n∈sc,named S.other n≤S.last∧(named S.other n≤z∨N0<named S.other n)
  fresh:∀n,lo<n->n≤hi->ae S.other n=none
  cD:jX S
  at_:jy S l i h
  hv:HV S h y
  y:0≤y
  nn:0≤N0
structure Res (w:Way) (S S':Cs) (ws:List gJ) (sc:List Int) (lo hi z N0 l h:Int) (sz:Nat) (l':Int) (i':Nat) (x:Int) (new:List Fi):Prop where
  waiting:S'.waiting=ws
  held:S'.held=heldW w S.held x
  st:i7 S S' sc lo hi N0 (·=l) (fun j=>w≠.tail∧j=l') sz new
  at_:w≠.tail->jy S' l' i' h
  val:w=.val->x≤S'.last∧(x≤z∨N0<x)
noncomputable def Od (S S':Cs) (sc:List Int) (t:Tm) (l:Int) (i:Nat) (new:List Fi) (d:Ds):Prop:=
  ∀(b:Bm) (FT:Fi->Prop) (ρ:Int->Int),(∀n∈sc,ρ n=named S.other n)->iL (bm S') b->(∀fi∈new,FT fi)->Code b FT sc ρ t l i S.last d
noncomputable def Comp (t:Tm):Prop:=∀(w:Way) (S:Cs) (ws:List gJ) (sc:List Int) (lo hi z N0 l:Int) (i:Nat) (h y:Int),Num sc lo hi t->Hyp S sc lo hi z N0 l i h y->S.waiting=ws++[nd t w] →
  ∃m S' l' i' x new,Runs S m S'∧Res w S S' ws sc lo hi z N0 l h (60*t.size-2) l' i' x new∧Od S S' sc t l i new (dest w l' i' x y S'.last)
theorem JN {w:Way} {x:Int} {S:Cs} {l h y:Int} {i:Nat} (a:jy S l i h) (hb:jX S) (hv:HV S h y) :
    Ev S (cq w x S) (·=l)∧(w≠.tail->jy (cq w x S) l i h)∧(cq w x S).held=heldW w S.held x∧(∀j,Un (cq w x S) j->Un S j∧(w=.tail->j≠l))∧(cq w x S).last=S.last∧
    ∀b,iL (bm (cq w x S)) b->fQ b x l i S.last (dest w l i x y S.last):=by
  cases w with
  | val=>exact ⟨(BX (S':=qp x S) hb rfl (Int.le_refl _)).weak fun _=>False.elim,fun _=>a,rfl,fun j hj=>⟨hj,fun e=>by injection e⟩,rfl,fun b _=>⟨rfl,rfl,rfl,rfl⟩⟩
  | cj=>exact ⟨(BX (S':=S) hb rfl (Int.le_refl _)).weak fun _=>False.elim,fun _=>a,rfl,fun j hj=>⟨hj,fun e=>by injection e⟩,rfl,fun b _=>⟨rfl,rfl,rfl⟩⟩
  | tail=>
    have:=BE (la:=.give (d7 S) [x]) a hb
    refine ⟨this.1,fun e=>absurd rfl e,rfl,fun j hj=>⟨(this.2.2 j hj).1,fun _=>(this.2.2 j hj).2⟩,rfl,fun b hle=>?_⟩
    rw [Dl a hv] at this
    have h2:=this.2.1
    refine cA.up (b:=bm (cq .tail x S)) ?_ hle
    show cA (bm (cK (.give (d7 S) [x]) S)) l i _
    rw [Dl a hv];exact h2
theorem H9 {w:Way} {x:Int} {S S1:Cs} {l h y:Int} {i1:Nat} (hb:jX S) (ev:Ev S S1 (·=l)) (a:jy S1 l i1 h) (hv:HV S h y) (un:∀j,Un S1 j->Un S j) :
    Ev S (cq w x S1) (·=l)∧(w≠.tail->jy (cq w x S1) l i1 h)∧(cq w x S1).held=heldW w S1.held x∧(∀j,Un (cq w x S1) j->(w≠.tail∧j=l)∨(Un S j∧j≠l))∧(cq w x S1).last=S1.last∧
    (∀b,iL (bm (cq w x S1)) b->iL (bm S1) b∧fQ b x l i1 S1.last (dest w l i1 x y S1.last)):=by
  refine D1 (JN (w:=w) (x:=x) a ev.cD (hv.up ev.le)) fun f1 f2 f3 f4 f5 f6=>?_
  refine ⟨ev.trans f1 hb fun _ _ e=>e,f2,f3,fun j hj=>?_,f5,fun b hle=>⟨f1.le.trans hle,f6 b hle⟩⟩
  have:=f4 j hj
  by_cases e:j=l
  · by_cases hw:w=.tail
    · exact absurd e (this.2 hw)
    · exact .inl ⟨hw,e⟩
  · exact .inr ⟨un j this.1,e⟩
theorem FV {w:Way} {x:Int} {S:Cs}:(cq w x S).other=S.other∧(cq w x S).later=S.later∧(cq w x S).waiting=S.waiting∧(cq w x S).entry=S.entry∧(cq w x S).n≤S.n+1:=by
  cases w<;>exact ⟨rfl,rfl,rfl,rfl,by first | exact Nat.le_refl _ | exact Nat.le_succ _⟩
theorem Hyp.same {S S':Cs} {sc:List Int} {lo hi z N0 l h y:Int} {i:Nat} (H:Hyp S sc lo hi z N0 l i h y) (q:gK S S'):Hyp S' sc lo hi z N0 l i h y:=
  ⟨H.b6,H.hz,H.oZ,by rw [q.last];exact H.last,fun n hn=>by rw [q.last,q.other];exact H.nm n hn,fun n a b=>by rw [q.other];exact H.fresh n a b,fun l k e=>by rw [q.last];exact H.cD l k (by rw [←q.blocks];exact e),q.at_ H.at_,H.hv.up (by rw [q.bm];exact .refl _),H.y,H.nn⟩
theorem jy.le {S:Cs} {l h:Int} {i:Nat} (a:jy S l i h) (hb:jX S):l≤S.last:=by refine o8 a ?_;clear a;intro _ k e _;exact hb _ _ e
theorem EZ {w:Way} {S S1:Cs} {ws:List gJ} {sc:List Int} {lo hi z N0 l h y x:Int} {i i1 sz:Nat} (H:Hyp S sc lo hi z N0 l i h y) (ev:Ev S S1 (·=l)) (a:jy S1 l i1 h) (un:∀j,Un S1 j->Un S j) (ho:S1.other=S.other) (hl:S1.later=S.later) (he:S1.entry=S.entry)
    (hw:S1.waiting=ws) (hh:S1.held=S.held) (hn:S1.n+1≤S.n+sz) (hx:w=.val->x≤S1.last∧(x≤z∨N0<x)) :
    Res w S (cq w x S1) ws sc lo hi z N0 l h sz l i1 x []∧(cq w x S1).last=S1.last∧∀b,iL (bm (cq w x S1)) b->iL (bm S1) b∧fQ b x l i1 S1.last (dest w l i1 x y S1.last):=by
  refine D1 (H9 (w:=w) (x:=x) H.cD ev a H.hv un) fun f1 f2 f3 f4 f5 f6=>?_
  refine FE (FV (w:=w) (x:=x) (S:=S1)) fun k1 k2 k3 k4 k5=>?_
  refine ⟨⟨k3.trans hw,by rw [f3,hh],.plain f1 (k1.trans ho) (k2.trans hl) (by exact Nat.le_trans k5 hn) (k4.trans he) f4 (fun j hj=>.inl hj.2) (fun j hj=>?_),f2,fun e=>⟨by rw [f5];exact (hx e).1,(hx e).2⟩⟩,f5,f6⟩
  rw [hj.2];exact Int.le_trans (H.at_.le H.cD) f1.last
theorem GD {S S1:Cs} {ws:List gJ} {sc:List Int} {lo hi z N0 l h y x:Int} {i sz:Nat} (H:Hyp S sc lo hi z N0 l i h y) (q:gK S S1) (hw:S1.waiting=ws) (hh:S1.held=S.held) (hn:S1.n≤S.n+sz):Res .cj S S1 ws sc lo hi z N0 l h sz l i x []:=by
  refine ⟨hw,hh,.plain ((BX H.cD q.blocks (by rw [q.last];exact Int.le_refl _)).weak fun _=>False.elim) q.other q.later hn q.entry (fun j hj=>?_) (fun j hj=>.inl hj.2) (fun j hj=>?_),fun _=>q.at_ H.at_,fun e=>by injection e⟩
  · by_cases e:j=l
    · exact .inl ⟨Way.noConfusion,e⟩
    · exact .inr ⟨(q.un j).mp hj,e⟩
  · rw [hj.2,q.last];exact H.at_.le H.cD
theorem FW {S S':Cs} (hb:jX S) (h:S'.blocks=S.blocks) (hl:S'.last=S.last):Ev S (cT S') (fun _=>False):=BX hb h (by show S.last≤S'.last+1;rw [hl];exact Z8)
theorem EP {w:Way} {S Sa:Cs} {ws:List gJ} {sc:List Int} {lo hi z N0 l h y:Int} {i:Nat} {op:KO} (H:Hyp S sc lo hi z N0 l i h y) (q:gK S Sa) (hw:Sa.waiting=ws) (hh:Sa.held=S.held) (hn:Sa.n≤S.n) :
    ∃S',S'=cq w (S.last+1) (bO op (cT Sa))∧Res w S S' ws sc lo hi z N0 l h 2 l (i+1) (S.last+1) []∧S'.last=S.last+1∧∀b,iL (bm S') b->gq b l i op∧fQ b (S.last+1) l (i+1) (S.last+1) (dest w l (i+1) (S.last+1) y (S.last+1)):=by
  have MX:jX (cT Sa):=(FW H.cD q.blocks q.last).cD
  have a1:jy (cT Sa) l i h:=H.at_.same q.blocks q.here
  refine Dw (Gm (op:=op) a1 MX) fun e1 e2 e3 e4=>?_
  have Zg:Ev S (bO op (cT Sa)) (·=l):=((FW H.cD q.blocks q.last).weak fun _=>False.elim).trans e1 H.cD fun _ _ q=>q
  have ed:(bO op (cT Sa)).last=S.last+1:=by show Sa.last+1=_;rw [q.last]
  refine j4 (EZ (w:=w) (ws:=ws) (x:=S.last+1) (sz:=2) H Zg e2 (fun j hj=>(q.un j).mp (e4 j hj)) q.other q.later q.entry hw hh (by show Sa.n+1+1≤_;exact WV hn) fun _=>⟨by rw [ed];exact Int.le_refl _,.inr (by have:=H.last;exact Int.lt_add_one_of_le this)⟩) fun r1 r2 r3=>?_
  rw [ed] at r2 r3
  exact ⟨_,rfl,r1,r2,fun b hle=>⟨e3.up (r3 b hle).1,(r3 b hle).2⟩⟩
theorem EN {S:Cs} {ws:List gJ}:gK S {S with waiting:=ws}:=⟨rfl,rfl,rfl,rfl,rfl,rfl⟩
theorem Res.weak {w:Way} {S S':Cs} {ws:List gJ} {sc:List Int} {lo hi z N0 l h:Int} {sz VC:Nat} {l':Int} {i':Nat} {x:Int} {new:List Fi} (R:Res w S S' ws sc lo hi z N0 l h sz l' i' x new) (nk:sz≤VC):Res w S S' ws sc lo hi z N0 l h VC l' i' x new:=
  ⟨R.waiting,R.held,R.st.weak (fun _=>Iff.rfl) nk,R.at_,R.val⟩
theorem Hc {k:qO}:Comp (.cst k):=by
  intro w S ws sc lo hi z N0 l i h y hN H hw
  have go:=Go.one hw (.node (t:=.cst k) (w:=w) (s:={S with waiting:=ws}) (l:=l) H.at_.1 trivial)
  by_cases Ig:w=.cj
  · subst Ig
    exact ⟨1,_,l,i,0,[],go,GD H (EN (ws:=ws)) rfl rfl (Nat.le_add_right ..),fun b FT ρ _ _ _=>.w .y9⟩
  · have e:eK (.cst k) w {S with waiting:=ws}=cq w (S.last+1) (bO (.cst (S.last+1) (.c k)) (cT {S with waiting:=ws})):=by cases w<;>first | rfl | exact absurd rfl Ig
    rw [e] at go
    refine gx (EP (w:=w) (op:=.cst (S.last+1) (.c k)) H (EN (ws:=ws)) rfl rfl (Nat.le_refl _)) fun S' e1 r1 r2 r3=>?_
    rw [←e1] at go
    refine ⟨1,S',l,i+1,S.last+1,[],go,r1.weak (show _≤60*1-2 by exact aw rfl),fun b FT ρ _ hle _=>?_⟩
    rw [r2]
    exact .w <| .cst (by exact Int.le_refl _) (Int.le_refl _) (r3 b hle).1 (r3 b hle).2
theorem Hb {g:Int}:Comp (.bI g):=by
  intro w S ws sc lo hi z N0 l i h y hN H hw
  have go:=Go.one hw (.node (t:=.bI g) (w:=w) (s:={S with waiting:=ws}) (l:=l) H.at_.1 trivial)
  refine gx (EP (w:=w) (op:=.bI (S.last+1) g) H (EN (ws:=ws)) rfl rfl (Nat.le_refl _)) fun S' e1 r1 r2 r3=>?_
  have e:eK (.bI g) w {S with waiting:=ws}=S':=e1.symm
  rw [e] at go
  refine ⟨1,S',l,i+1,S.last+1,[],go,r1.weak (show _≤60*1-2 by exact aw rfl),fun b FT ρ _ hle _=>?_⟩
  rw [r2]
  exact .w <| .bI (by exact Int.le_refl _) (Int.le_refl _) (r3 b hle).1 (r3 b hle).2
theorem G9 {n:Int}:Comp (.loc n):=by
  intro w S ws sc lo hi z N0 l i h y hN H hw
  have go:=Go.one hw (.node (t:=.loc n) (w:=w) (s:={S with waiting:=ws}) (l:=l) H.at_.1 trivial)
  cases hN with
  | loc hn=>
    have q:gK S {S with waiting:=ws}:=EN
    refine j4 (EZ (w:=w) (ws:=ws) (x:=named S.other n) (sz:=1) H (S1:={S with waiting:=ws}) ((BX (S':={S with waiting:=ws}) H.cD rfl (Int.le_refl _)).weak fun _=>False.elim) (q.at_ H.at_) (fun j hj=>(q.un j).mp hj) rfl rfl rfl rfl rfl (Nat.le_refl _) fun _=>H.nm n hn) fun r1 r2 r3=>?_
    refine ⟨1,_,l,i,named S.other n,[],go,r1.weak (show _≤60*1-2 by exact aw rfl),fun b FT ρ hρ hle _=>.w (.loc hn ?_)⟩
    rw [hρ n hn]
    show fQ b (named S.other n) l i S.last (dest w l i (named S.other n) y (cq w (named S.other n) {S with waiting:=ws}).last)
    rw [r2];exact (r3 b hle).2
end Mine
end
section
namespace Mine
theorem Bj {lo p:Int}:∀{n:Nat},p∈bN lo n↔(lo<p∧p≤lo+n)
  | 0=>by simp [bN]
  | n+1=>by rw [bN,List.mem_append,Bj,List.mem_singleton];push_cast;exact TP
theorem Ct {lo:Int}:∀{n:Nat},(bN lo n).Nodup
  | 0=>.nil
  | n+1=>by
    rw [bN,List.nodup_append]
    refine ⟨Ct,by simp,fun a ha b hb=>?_⟩
    rw [Bj] at ha
    rw [List.mem_singleton] at hb
    push_cast at hb
    exact TO ha hb
theorem Ha {lab:Int} {ps:List Int} {b:Tm}:Comp (.lam lab ps b):=by
  intro w S ws sc lo hi z N0 l i h y hN H hw
  cases hN with
  | lam n kB hb=>
  have hle:=hb.le
  have PQ:slim (.lam (lo+1) (bN (lo+1) n) b):=by show (bN (lo+1) n).length≤100;rw [AM];exact Zl kB rfl
  have go:=Go.one hw (.node (t:=.lam (lo+1) (bN (lo+1) n) b) (w:=w) (s:={S with waiting:=ws}) (l:=l) H.at_.1 PQ)
  by_cases Ig:w=.cj
  · subst Ig
    exact ⟨1,_,l,i,0,[],go,GD H (EN (ws:=ws)) rfl rfl (Nat.le_add_right ..),fun b FT ρ _ _ _=>.w .yx⟩
  · have e:eK (.lam (lo+1) (bN (lo+1) n) b) w {S with waiting:=ws}=cq w (S.last+1) (bO (.fn (S.last+1) (S.last+2)) (jt (bN (lo+1) n) b (cT {S with waiting:=ws}))):=by cases w<;>first | rfl | exact absurd rfl Ig
    rw [e] at go
    have nD:=H.at_.le H.cD
    have ed:=H.last
    have oZ:=H.oZ
    have PX:=H.nn
    have q0:gK S {S with waiting:=ws}:=EN
    have b3:jX (cT (cT (cT {S with waiting:=ws}))):=jX.fr (jX.fr (FW H.cD q0.blocks q0.last).cD)
    have Nj:Ev S (cT (cT (cT {S with waiting:=ws}))) (fun _=>False):=BX H.cD rfl (by show S.last≤S.last+1+1+1;exact W4)
    have MO:ae S.blocks (S.last+1+1)=none:=H.cD.none (by exact TN)
    refine j4 (vF (l:=S.last+1+1) (k:=⟨.aR,bN (lo+1) n,-1,S.last+1+2,S.last+1+1,ig (cT {S with waiting:=ws}),.b4,[],none⟩) b3 (by show S.last+1+1≤S.last+1+1+1;exact TM) MO) fun m1 m2 m3=>?_
    have JP:Ev S (jt (bN (lo+1) n) b (cT {S with waiting:=ws})) (fun _=>False):=by
      have:=Nj.trans m1 H.cD fun _ _ q=>q
      exact ⟨this.last,this.cD,this.le,this.frame⟩
    have am:jy (jt (bN (lo+1) n) b (cT {S with waiting:=ws})) l i h:=by
      refine o8 H.at_ fun e k e1 e2=>?_
      exact ⟨e,k,JP.frame l k e1 (fun q=>q),e2⟩
    refine Dw (Gm (op:=.fn (S.last+1) (S.last+2)) am JP.cD) fun e1 e2 e3 e4=>?_
    refine D1 (H9 (w:=w) (x:=S.last+1) JP.cD e1 e2 (H.hv.up JP.le) e4) fun f1 f2 f3 f4 f5 f6=>?_
    refine FE (FV (w:=w) (x:=S.last+1) (S:=bO (.fn (S.last+1) (S.last+2)) (jt (bN (lo+1) n) b (cT {S with waiting:=ws})))) fun k1 k2 k3 k4 k5=>?_
    have ve:(cq w (S.last+1) (bO (.fn (S.last+1) (S.last+2)) (jt (bN (lo+1) n) b (cT {S with waiting:=ws})))).last=S.last+1+1+1:=f5
    generalize cq w (S.last+1) (bO (.fn (S.last+1) (S.last+2)) (jt (bN (lo+1) n) b (cT {S with waiting:=ws})))=S' at go f1 f2 f3 f4 f5 f6 k1 k2 k3 k4 k5 ve
    have ho:S'.other=S.other:=k1
    have bu:∃k,ae S'.blocks (S.last+2)=some k∧k.params=bN (lo+1) n∧k.rest = -1∧k.var=S.last+3∧k.dF=S.last+2∧k.ops=[]∧k.last=none:=by
      refine ⟨_,f1.frame (S.last+2) ⟨.aR,bN (lo+1) n,-1,S.last+1+2,S.last+1+1,ig (cT {S with waiting:=ws}),.b4,[],none⟩ ?_ (by exact TL f5 ve nD),rfl,rfl,by show S.last+1+2=_;exact Xa,by show S.last+1+1=_;exact Z2,rfl,rfl⟩
      rw [show S.last+2=S.last+1+1 by exact TK];exact m2
    have mZ:∀p∈bN (lo+1) n,lo<p∧p≤hi∧p≤lo+1+n:=fun p hp=>by rw [Bj] at hp;exact TJ hle hp
    have pd:∀p∈bN (lo+1) n,named S.other p=p:=fun p hp=>by unfold named;rw [H.fresh p (mZ p hp).1 (mZ p hp).2.1];rfl
    refine ⟨1,S',l,i+1,S.last+1,[⟨S.last+2,S.last+3,bN (lo+1) n,b,sc,named S.other,lo+1+n,hi⟩],go,⟨k3,f3,⟨?_,fun n _=>by rw [ho],by rw [k2];show S.later++[(S.last+1+1,b)]=S.later++[(S.last+2,b)];rw [show S.last+1+1=S.last+2 by exact Z2],fun fi hf=>?_,List.pairwise_singleton _ _,?_,k4,fun j hj=>?_,fun fi hf q=>?_,fun j hj=>.inl hj.2,fun j hj=>?_⟩,f2,fun _=>⟨by rw [ve];exact OI,.inr (by exact Int.lt_add_one_of_le ed)⟩⟩,?_⟩
    · exact ⟨Int.le_trans JP.last f1.last,f1.cD,JP.le.trans f1.le,fun j k e hj=>f1.frame j k (JP.frame j k e fun q=>q) hj⟩
    · rw [List.mem_singleton] at hf;subst hf
      refine ⟨by show S.last<S.last+2;exact Zi rfl,bu,⟨by show lo≤lo+1+n;exact WU kB,hle,Int.le_refl _⟩,fun m hm=>?_,hb,fun m hm=>?_,fun m hm=>by rw [ho],pd,fun m hm=>⟨fun hp=>?_,?_⟩,fun m hm=>?_,fun m a c=>by rw [ho];exact H.fresh m (by have:lo+1+n<m:=a;exact WT kB this) c,⟨by show 0≤S.last+3;exact TG PX ed ve f5,by rw [ve];show S.last+3≤_;exact WS,fun hp=>?_⟩,fun m hm hp=>?_,Ct,by show (bN (lo+1) n).length≤2;rw [AM];exact kB⟩
      · rcases List.mem_append.mp hm with hm | hm
        · exact .inl hm
        · exact .inr ⟨(mZ m hm).1,(mZ m hm).2.1⟩
      · show m≤lo+1+n
        rcases List.mem_append.mp hm with hm | hm
        · have:=H.b6 m hm;exact SR kB this
        · exact (mZ m hm).2.2
      · have h1:=(H.nm m hm).2
        have h2:lo<named S.other m∧named S.other m≤hi∧named S.other m≤lo+1+n:=mZ _ hp
        have h3:=H.hz
        exact TF kB oZ h1 h2 h3
      · have:=(H.nm m hm).1
        show named S.other m≠S.last+3
        exact TC f5 ve this
      · rcases List.mem_append.mp hm with hm | hm
        · have h1:=H.nm m hm
          have h3:=H.hz
          refine ⟨by rw [ve];exact NO h1.1,?_⟩
          exact Q3 h1.2 h3
        · have h1:=mZ m hm
          refine ⟨?_,?_⟩
          · rw [ve];show named S.other m≤_;rw [pd m hm];exact Q2 ed oZ h1.2.1
          · show named S.other m≤lo+1+n∨_;rw [pd m hm];exact .inl h1.2.2
      · have h1:=mZ _ hp;exact (Q1 ed oZ h1.2.1)
      · exact absurd (mZ m hp).1 (Int.not_lt.mpr (H.b6 m hm))
    · show S'.n+60*(b.size+0)≤S.n+(60*(b.size+1)-2)
      exact Q0 k5 rfl
    · rcases f4 j hj with g | ⟨g,g'⟩
      · exact .inl g
      · rcases m3 j g with g | g
        · exact .inr (.inl ⟨g,g'⟩)
        · exact .inr (.inr ⟨_,.head _,QZ g⟩)
    · rw [List.mem_singleton] at hf;subst hf
      exact QY nD q.2
    · rw [hj.2,ve];exact NO nD
    · intro bb FT ρ hρ P5 fH
      rw [ve]
      have g:=f6 bb P5
      refine .w <| .lam (x:=S.last+1) (c':=S.last+1+1+1) (fi:=⟨S.last+2,S.last+3,bN (lo+1) n,b,sc,named S.other,lo+1+n,hi⟩) (Int.le_refl _) OI (e3.up g.1) (fH _ (.head _)) rfl rfl rfl (fun m hm=>(hρ m hm).symm) g.2
end Mine
end
section
namespace Mine
theorem Hyp.jC {S S':Cs} {sc:List Int} {lo m hi z N0 l h y l':Int} {i i' sz:Nat} {P U:Int->Prop} {new:List Fi} (H:Hyp S sc lo hi z N0 l i h y) (R:i7 S S' sc lo m N0 P U sz new) (a:jy S' l' i' h) (h1:lo≤m):Hyp S' sc m hi z N0 l' i' h y:=by
  have hl:=R.ev.last
  have ho:∀n,(n≤lo∨m<n)->ae S'.other n=ae S.other n:=R.other
  refine ⟨fun n hn=>Int.le_trans (H.b6 n hn) h1,Int.le_trans H.hz h1,H.oZ,Int.le_trans H.last hl,fun n hn=>?_,fun n a b=>?_,R.ev.cD,a,H.hv.up R.ev.le,H.y,H.nn⟩
  · have e:named S'.other n=named S.other n:=by unfold named;rw [ho n (.inl (H.b6 n hn))]
    rw [e];exact ⟨Int.le_trans (H.nm n hn).1 hl,(H.nm n hn).2⟩
  · rw [ho n (.inr a)];exact H.fresh n (by exact Int.lt_of_le_of_lt h1 a) b
theorem BU {S S':Cs} {sc:List Int} {lo m hi z N0 l h y:Int} {i sz:Nat} {P U:Int->Prop} {new:List Fi} (H:Hyp S sc lo hi z N0 l i h y) (R:i7 S S' sc lo m N0 P U sz new) {ρ:Int->Int} (hρ:∀n∈sc,ρ n=named S.other n):∀n∈sc,ρ n=named S'.other n:=
  fun n hn=>by rw [hρ n hn];unfold named;rw [R.other n (.inl (H.b6 n hn))]
theorem i7.seq {S S1 S1' S2:Cs} {sc:List Int} {lo m hi N0 l l1:Int} {U1 U2:Int->Prop} {z1 z2 d:Nat} {na nb:List Fi} (h1:i7 S S1 sc lo m N0 (·=l) U1 z1 na) (hU:∀j,U1 j↔j=l1) (q:ik S1 S1') (hn:S1'.n≤S1.n+d) (h2:i7 S1' S2 sc m hi N0 (·=l1) U2 z2 nb)
    (hb:jX S) (hs:∀n∈sc,n≤lo) (hm:lo≤m) (MG:m≤hi):i7 S S2 sc lo hi N0 (·=l) U2 (z1+(z2+d)) (na++nb):=by
  refine (h1.trans (h2.left q hn) hb (fun j hj e=>?_) (fun fi hf e=>h1.nl fi hf ((hU _).mpr e)) ⟨Int.le_refl _,MG⟩ ⟨hm,Int.le_refl _⟩ (.inl (Int.le_refl _)) (fun n hn=>⟨.inl hn,by have:=hs n hn;exact WR this hm⟩) (fun n hn=>⟨.inl hn,by have:=hs n hn;exact OJ this⟩)).weak (fun j=>⟨fun g=>?_,fun g=>.inl g⟩) (Nat.le_refl _)
  · rcases h1.ul l1 ((hU _).mpr rfl) with g | g
    · exact e.trans g
    · exact WQ g e hj
  · rcases g with g | ⟨g,g'⟩
    · exact g
    · exact absurd ((hU _).mp g) g'
theorem uw {w:Way} {l1:Int} (hw:w≠.tail):∀j,(w≠.tail∧j=l1)↔j=l1:=fun _=>⟨fun q=>q.2,fun q=>⟨hw,q⟩⟩
theorem Res.comp {w1 w:Way} {S S1 S1' S2:Cs} {Xz ws:List gJ} {sc:List Int} {lo m hi z N0 l h y:Int} {i VB VA d:Nat} {l1:Int} {i1:Nat} {x1:Int} {na:List Fi} {l2:Int} {i2:Nat} {x:Int} {nb:List Fi} (H:Hyp S sc lo hi z N0 l i h y)
    (R1:Res w1 S S1 Xz sc lo m z N0 l h VB l1 i1 x1 na) (PI:w1≠.tail) (q:ik S1 S1') (hn:S1'.n≤S1.n+d) (hh:S1'.held=S.held) (hm:lo≤m) (MG:m≤hi) (R2:Res w S1' S2 ws sc m hi z N0 l1 h VA l2 i2 x nb) :
    Res w S S2 ws sc lo hi z N0 l h (VB+(VA+d)) l2 i2 x (na++nb):=
  ⟨R2.waiting,by rw [R2.held,hh],R1.st.seq (uw PI) q hn R2.st H.cD H.b6 hm MG,R2.at_,R2.val⟩
theorem Res.left {w:Way} {S Sa S2:Cs} {ws:List gJ} {sc:List Int} {lo hi z N0 l h:Int} {sz d:Nat} {l2:Int} {i2:Nat} {x:Int} {nb:List Fi} (R:Res w Sa S2 ws sc lo hi z N0 l h sz l2 i2 x nb) (q:ik S Sa) (hh:Sa.held=S.held) (hn:Sa.n≤S.n+d):Res w S S2 ws sc lo hi z N0 l h (sz+d) l2 i2 x nb:=
  ⟨R.waiting,by rw [R.held,hh],R.st.left q hn,R.at_,R.val⟩
theorem vH {S Sa:Cs} {ws:List gJ} {sc:List Int} {lo hi z N0 l h y:Int} {i:Nat} {op:KO} (H:Hyp S sc lo hi z N0 l i h y) (q:gK S Sa) (hw:Sa.waiting=ws) (hh:Sa.held=S.held) (hn:Sa.n≤S.n) :
    Res .cj S (bO op Sa) ws sc lo hi z N0 l h 2 l (i+1) 0 []∧∀b,iL (bm (bO op Sa)) b->gq b l i op:=by
  have MX:jX Sa:=(BX H.cD q.blocks (by rw [q.last];exact Int.le_refl _)).cD
  refine Dw (Gm (op:=op) (q.at_ H.at_) MX) fun e1 e2 e3 e4=>?_
  exact ⟨(EZ (w:=.cj) (x:=0) (sz:=2) H (e1.left q.b) e2 (fun j hj=>(q.un j).mp (e4 j hj)) q.other q.later q.entry hw hh (by show Sa.n+1+1≤_;exact WV hn) fun e=>by injection e).1,fun b hle=>e3.up hle⟩
theorem i8 {S:Cs} {ws:List gJ} {hs:List Int}:gK S (bj hs {S with waiting:=ws}):=⟨rfl,rfl,rfl,rfl,rfl,rfl⟩
theorem DD {S:Cs} {ws:List gJ} {ts:List gJ}:gK S (pushS ts {S with waiting:=ws}):=⟨rfl,rfl,rfl,rfl,rfl,rfl⟩
theorem zb {a:Tm} (ha:Comp a):Comp (.p1 a):=by
  intro w S ws sc lo hi z N0 l i h y hN H hw
  cases hN with
  | p1 iH=>
  have go:=Go.one hw (.node (t:=.p1 a) (w:=w) (s:={S with waiting:=ws}) (l:=l) H.at_.1 trivial)
  refine cB (ha .val (pushS [nd a .val,tk .cM (.p1 a) w] {S with waiting:=ws}) (ws++[tk .cM (.p1 a) w]) sc lo hi z N0 l i h y iH (H.same DD) (by simp [pushS])) fun m1 S1 l1 i1 x na i5 R1 c1=>?_
  have mV:=R1.left (DD (S:=S) (ws:=ws) (ts:=[nd a .val,tk .cM (.p1 a) w])).b rfl (show S.n+2≤S.n+2 from Nat.le_refl _)
  have H1:=H.jC mV.st (R1.at_ Way.noConfusion) iH.le
  have go2:=Go.one R1.waiting (.p1 (a:=a) (w:=w) (s:={S1 with waiting:=ws}) (l:=l1) (x:=x) (hs:=S.held) (R1.at_ Way.noConfusion).1 R1.held)
  refine gx (EP (w:=w) (ws:=ws) (op:=.prim (S1.last+1) 8 [x]) (S:=bj S.held {S1 with waiting:=ws}) (Sa:=bj S.held {S1 with waiting:=ws}) (H1.same i8) ⟨rfl,rfl,rfl,rfl,rfl,rfl⟩ rfl rfl (Nat.le_refl _)) fun S2 e2 R2 h2 c2=>?_
  have e3:nM 8 [x] w (bj S.held {S1 with waiting:=ws})=S2:=e2.symm
  rw [e3] at go2
  have R:=mV.comp (d:=0) H Way.noConfusion i8.b (Nat.le_refl _) rfl iH.le (Int.le_refl _) R2
  refine ⟨_,S2,l1,i1+1,S1.last+1,na++[],(go.trans i5).trans go2,R.weak (by show (60*a.size-2)+2+(2+0)≤60*(a.size+1)-2;exact WO),fun b FT ρ hρ hle fH=>?_⟩
  have lS:iL (bm S1) b:=R2.st.ev.le.trans hle
  have Za:S2.last=S1.last+1:=h2
  rw [Za]
  exact .w <| .p1 (c1 b FT ρ hρ lS fun fi hf=>fH fi (List.mem_append_left _ hf)) (show S1.last<S1.last+1 by exact Int.le_refl _) (Int.le_refl _) (c2 b hle).1 (c2 b hle).2
theorem za {a u:Tm} (ha:Comp a) (hu:Comp u):Comp (.p2 a u):=by
  intro w S ws sc lo hi z N0 l i h y hN H hw
  cases hN with
  | @p2 _ _ m _ _ _ iH vf=>
  have go:=Go.one hw (.node (t:=.p2 a u) (w:=w) (s:={S with waiting:=ws}) (l:=l) H.at_.1 trivial)
  refine cB (ha .val (pushS [nd a .val,nd u .val,tk .cM (.p2 a u) w] {S with waiting:=ws}) (ws++[tk .cM (.p2 a u) w]++[nd u .val]) sc lo m z N0 l i h y iH ⟨H.b6,H.hz,Int.le_trans vf.le H.oZ,H.last,H.nm,fun n a b=>H.fresh n a (Int.le_trans b vf.le),H.cD,H.at_,H.hv,H.y,H.nn⟩ (by simp [pushS])) fun m1 S1 l1 i1 x na i5 R1 c1=>?_
  have mV:=R1.left (DD (S:=S) (ws:=ws) (ts:=[nd a .val,nd u .val,tk .cM (.p2 a u) w])).b rfl (show S.n+3≤S.n+3 from Nat.le_refl _)
  have H1:=H.jC mV.st (R1.at_ Way.noConfusion) iH.le
  refine cB (hu .val S1 (ws++[tk .cM (.p2 a u) w]) sc m hi z N0 l1 i1 h y vf H1 R1.waiting) fun m2 S2 l2 i2 x2 nb lC R2 c2=>?_
  have H2:=H1.jC R2.st (R2.at_ Way.noConfusion) vf.le
  have hh:S2.held=S.held++[x,x2]:=by rw [R2.held,R1.held];show (S.held++[x])++[x2]=_;simp
  have go2:=Go.one R2.waiting (.p2 (a:=a) (b:=u) (w:=w) (s:={S2 with waiting:=ws}) (l:=l2) (x:=x) (y:=x2) (hs:=S.held) (R2.at_ Way.noConfusion).1 hh)
  refine gx (EP (w:=w) (ws:=ws) (op:=.prim (S2.last+1) 9 [x,x2]) (S:=bj S.held {S2 with waiting:=ws}) (Sa:=bj S.held {S2 with waiting:=ws}) (H2.same i8) ⟨rfl,rfl,rfl,rfl,rfl,rfl⟩ rfl rfl (Nat.le_refl _)) fun S3 e3 R3 h3 c3=>?_
  have e4:nM 9 [x,x2] w (bj S.held {S2 with waiting:=ws})=S3:=e3.symm
  rw [e4] at go2
  have ao:=mV.st.seq (d:=0) (uw Way.noConfusion) ⟨rfl,rfl,rfl,rfl,rfl⟩ (Nat.le_refl _) R2.st H.cD H.b6 iH.le vf.le
  have bg:=ao.seq (d:=0) (uw Way.noConfusion) (i8 (S:=S2) (ws:=ws) (hs:=S.held)).b (Nat.le_refl _) R3.st H.cD H.b6 (Int.le_trans iH.le vf.le) (Int.le_refl _)
  refine ⟨_,S3,l2,i2+1,S2.last+1,na++nb++[],((go.trans i5).trans lC).trans go2,⟨R3.waiting,R3.held,bg.weak (fun _=>Iff.rfl) (by show (60*a.size-2)+3+((60*u.size-2)+0)+(2+0)≤60*(a.size+u.size+1)-2;exact TB),R3.at_,R3.val⟩,fun b FT ρ hρ hle fH=>?_⟩
  have jq:iL (bm S2) b:=R3.st.ev.le.trans hle
  have lS:iL (bm S1) b:=R2.st.ev.le.trans jq
  have Qr:S3.last=S2.last+1:=h3
  rw [Qr]
  exact .w <| .p2 (c1 b FT ρ hρ lS fun fi hf=>fH fi (by simp [hf])) (c2 b FT ρ (BU H mV.st hρ) jq fun fi hf=>fH fi (by simp [hf])) (show S2.last<S2.last+1 by exact Int.le_refl _) (Int.le_refl _) (c3 b hle).1 (c3 b hle).2
theorem vX {a u:Tm} (ha:Comp a) (hu:Comp u):Comp (.seq a u):=by
  intro w S ws sc lo hi z N0 l i h y hN H hw
  cases hN with
  | @seq _ _ m _ _ _ iH vf=>
  have go:=Go.one hw (.node (t:=.seq a u) (w:=w) (s:={S with waiting:=ws}) (l:=l) H.at_.1 trivial)
  refine cB (ha .cj (pushS [nd a .cj,nd u w] {S with waiting:=ws}) (ws++[nd u w]) sc lo m z N0 l i h y iH ⟨H.b6,H.hz,Int.le_trans vf.le H.oZ,H.last,H.nm,fun n a b=>H.fresh n a (Int.le_trans b vf.le),H.cD,H.at_,H.hv,H.y,H.nn⟩ (by simp [pushS])) fun m1 S1 l1 i1 x na i5 R1 c1=>?_
  have mV:=R1.left (DD (S:=S) (ws:=ws) (ts:=[nd a .cj,nd u w])).b rfl (show S.n+2≤S.n+2 from Nat.le_refl _)
  have H1:=H.jC mV.st (R1.at_ Way.noConfusion) iH.le
  refine cB (hu w S1 ws sc m hi z N0 l1 i1 h y vf H1 R1.waiting) fun m2 S2 l2 i2 x2 nb lC R2 c2=>?_
  have R:=mV.comp (d:=0) H Way.noConfusion (S1':=S1) ⟨rfl,rfl,rfl,rfl,rfl⟩ (Nat.le_refl _) R1.held iH.le vf.le R2
  refine ⟨_,S2,l2,i2,x2,na++nb,(go.trans i5).trans lC,R.weak (by show (60*a.size-2)+2+((60*u.size-2)+0)≤60*(a.size+u.size+1)-2;exact Tz),fun b FT ρ hρ hle fH=>?_⟩
  have lS:iL (bm S1) b:=R2.st.ev.le.trans hle
  exact .w <| .seq (c1 b FT ρ hρ lS fun fi hf=>fH fi (by simp [hf])) (c2 b FT ρ (BU H mV.st hρ) hle fun fi hf=>fH fi (by simp [hf]))
theorem vW {g:Int} {a:Tm} (ha:Comp a):Comp (.set g a):=by
  intro w S ws sc lo hi z N0 l i h y hN H hw
  cases hN with
  | set iH=>
  have go:=Go.one hw (.node (t:=.set g a) (w:=w) (s:={S with waiting:=ws}) (l:=l) H.at_.1 trivial)
  refine cB (ha .val (pushS [nd a .val,tk .bV (.set g a) w] {S with waiting:=ws}) (ws++[tk .bV (.set g a) w]) sc lo hi z N0 l i h y iH (H.same DD) (by simp [pushS])) fun m1 S1 l1 i1 x na i5 R1 c1=>?_
  have mV:=R1.left (DD (S:=S) (ws:=ws) (ts:=[nd a .val,tk .bV (.set g a) w])).b rfl (show S.n+2≤S.n+2 from Nat.le_refl _)
  have H1:=H.jC mV.st (R1.at_ Way.noConfusion) iH.le
  have go2:=Go.one R1.waiting (.set (g:=g) (e:=a) (w:=w) (s:={S1 with waiting:=ws}) (l:=l1) (x:=x) (hs:=S.held) (R1.at_ Way.noConfusion).1 R1.held)
  refine xA (vH (ws:=ws) (op:=.set g x) (S:=bj S.held {S1 with waiting:=ws}) (Sa:=bj S.held {S1 with waiting:=ws}) (H1.same i8) ⟨rfl,rfl,rfl,rfl,rfl,rfl⟩ rfl rfl (Nat.le_refl _)) fun R2 c2=>?_
  have R:=mV.comp (d:=0) H Way.noConfusion i8.b (Nat.le_refl _) rfl iH.le (Int.le_refl _) R2
  by_cases Ig:w=.cj
  · subst Ig
    refine ⟨_,_,l1,i1+1,0,na++[],(go.trans i5).trans go2,R.weak (by show (60*a.size-2)+2+(2+0)≤60*(a.size+1)-2;exact WO),fun b FT ρ hρ hle fH=>?_⟩
    exact .w <| .lB (c1 b FT ρ hρ (R2.st.ev.le.trans hle) fun fi hf=>fH fi (by simp [hf])) (c2 b hle)
  · have e:I1 g x w (bj S.held {S1 with waiting:=ws})=cq w (S1.last+1) (bO (.cst (S1.last+1) .aA) (cT (bO (.set g x) (bj S.held {S1 with waiting:=ws})))):=by cases w<;>first | rfl | exact absurd rfl Ig
    rw [e] at go2
    have H2:=H.jC R.st (R.at_ Way.noConfusion) iH.le
    refine gx (EP (w:=w) (ws:=ws) (op:=.cst (S1.last+1) .aA) H2 ⟨rfl,rfl,rfl,rfl,rfl,rfl⟩ rfl rfl (Nat.le_refl _)) fun S3 e3 R3 h3 c3=>?_
    have e4:cq w (S1.last+1) (bO (.cst (S1.last+1) .aA) (cT (bO (.set g x) (bj S.held {S1 with waiting:=ws}))))=S3:=e3.symm
    rw [e4] at go2
    have RR:=R.comp (d:=0) H Way.noConfusion (S1':=bO (.set g x) (bj S.held {S1 with waiting:=ws})) ⟨rfl,rfl,rfl,rfl,rfl⟩ (Nat.le_refl _) rfl iH.le (Int.le_refl _) R3
    refine ⟨_,S3,l1,i1+1+1,S1.last+1,na++[]++[],(go.trans i5).trans go2,RR.weak (by show (60*a.size-2)+2+(2+0)+(2+0)≤60*(a.size+1)-2;exact Tx),fun b FT ρ hρ hle fH=>?_⟩
    have jq:=R3.st.ev.le.trans hle
    have Qr:S3.last=S1.last+1:=h3
    rw [Qr]
    exact .w <| .lA (c1 b FT ρ hρ (R2.st.ev.le.trans jq) fun fi hf=>fH fi (by simp [hf])) (c2 b jq) (show S1.last<S1.last+1 by exact Int.le_refl _) (Int.le_refl _) (c3 b hle).1 (c3 b hle).2
end Mine
end
section
namespace Mine
theorem Hyp.sub {S:Cs} {sc:List Int} {lo hi a b z N0 l h y:Int} {i:Nat} (H:Hyp S sc lo hi z N0 l i h y) (ha:lo≤a) (hb:b≤hi):Hyp S sc a b z N0 l i h y:=
  ⟨fun n hn=>Int.le_trans (H.b6 n hn) ha,Int.le_trans H.hz ha,Int.le_trans hb H.oZ,H.last,H.nm,fun n p q=>H.fresh n (by exact Int.lt_of_le_of_lt ha p) (by exact Int.le_trans q hb),H.cD,H.at_,H.hv,H.y,H.nn⟩
theorem Eb:∀(ts:List Tm),(∀t∈ts,Comp t)->∀(S:Cs) (ws:List gJ) (sc:List Int) (lo hi z N0 l:Int) (i:Nat) (h y:Int),fy sc lo hi ts->Hyp S sc lo hi z N0 l i h y->S.waiting=ws++(ts.map fun a=>nd a .val).reverse →
    ∃m S' l' i' xs new,Runs S m S'∧S'.waiting=ws∧S'.held=S.held++xs∧xs.length=ts.length∧i7 S S' sc lo hi N0 (·=l) (·=l') (60*fS ts) new∧jy S' l' i' h∧(∀x∈xs,x≤S'.last∧(x≤z∨N0<x))∧
      ∀(b:Bm) (FT:Fi->Prop) (ρ:Int->Int),(∀n∈sc,ρ n=named S.other n)->iL (bm S') b->(∀fi∈new,FT fi)->dY b FT sc ρ ts l i S.last l' i' S'.last xs
  | [],_,S,ws,sc,lo,hi,z,N0,l,i,h,y,hN,H,hw=>by
    cases hN
    refine ⟨0,S,l,i,[],[],.zero,by simpa using hw,by simp,rfl,.plain ((BX (S':=S) H.cD rfl (Int.le_refl _)).weak fun _=>False.elim) rfl rfl (Nat.le_add_right ..) rfl (fun j hj=>?_) (fun j hj=>.inl hj) (fun j hj=>?_),H.at_,fun x hx=>(by cases hx),fun b FT ρ _ _ _=>.w .nil⟩
    · by_cases e:j=l
      · exact .inl e
      · exact .inr ⟨hj,e⟩
    · rw [hj];exact H.at_.le H.cD
  | t::ts,hc,S,ws,sc,lo,hi,z,N0,l,i,h,y,hN,H,hw=>by
    cases hN with
    | @cons _ _ m _ _ _ Qo M0=>
    refine cB (hc t (.head _) .val S (ws++(ts.map fun a=>nd a .val).reverse) sc lo m z N0 l i h y Qo (H.sub (Int.le_refl _) M0.le) (by rw [hw];simp)) fun m1 S1 l1 i1 x na i5 R1 c1=>?_
    have H1:=H.jC R1.st (R1.at_ Way.noConfusion) Qo.le
    refine fI (Eb ts (fun t ht=>hc t (.tail _ ht)) S1 ws sc m hi z N0 l1 i1 h y M0 H1 R1.waiting) fun m2 S2 l2 i2 xs nb lC w2 h2 yq bg at2 v2 c2=>?_
    have st:=R1.st.seq (d:=0) (uw Way.noConfusion) ⟨rfl,rfl,rfl,rfl,rfl⟩ (Nat.le_refl _) bg H.cD H.b6 Qo.le M0.le
    refine ⟨_,S2,l2,i2,x::xs,na++nb,i5.trans lC,w2,by rw [h2,R1.held];show S.held++[x]++xs=_;simp,by simp [yq],st.weak (fun _=>Iff.rfl) (by show 60*t.size-2+(60*fS ts+0)≤60*(t.size+fS ts);exact Tv),at2,fun v hv=>?_,fun b FT ρ hρ hle fH=>?_⟩
    · rcases List.mem_cons.mp hv with rfl | hv
      · exact ⟨Int.le_trans (R1.val rfl).1 bg.ev.last,(R1.val rfl).2⟩
      · exact v2 v hv
    · exact .w <| .cons (c1 b FT ρ hρ (bg.ev.le.trans hle) fun fi hf=>fH fi (by simp [hf])) (c2 b FT ρ (BU H R1.st hρ) hle fun fi hf=>fH fi (by simp [hf]))
theorem i7.Mk {S Sa S':Cs} {sc Ly:List Int} {lo hi a2 b2 N0:Int} {P U:Int->Prop} {z d:Nat} {new:List Fi} (x:i7 Sa S' Ly a2 b2 N0 P U z new) (hb:Sa.blocks=S.blocks) (hl:Sa.last=S.last) (Il:Sa.later=S.later) (he:Sa.entry=S.entry)
    (ho:∀n,(n≤lo∨hi<n)->ae Sa.other n=ae S.other n) (ra:lo≤a2) (rb:b2≤hi) (hs:∀n∈Ly,n∈sc∨(lo<n∧n≤hi)) (hn:Sa.n≤S.n+d):i7 S S' sc lo hi N0 P U (z+d) new:=by
  have hu:∀j,Un Sa j↔Un S j:=fun j=>by unfold Un;rw [hb]
  refine ⟨⟨hl▸x.ev.last,x.ev.cD,by have:=x.ev.le;unfold bm at this ⊢;rw [hb] at this;exact this,fun j k e=>x.ev.frame j k (by rw [hb];exact e)⟩,fun n hn=>?_,by rw [x.later,Il],fun fi hf=>?_,x.pw,by have:=x.size;exact WW this hn,x.entry.trans he,fun j hj=>(x.un j hj).imp id (Or.imp (fun q=>⟨(hu j).mp q.1,q.2⟩) id),x.nl,fun j hj=>hl▸x.ul j hj,x.ub⟩
  · rw [x.other n (by exact Tu ra hn rb),ho n hn]
  · have g:=x.mC fi hf
    have hr:=g.range
    refine ⟨hl▸g.lab,g.bu,⟨by exact W3 ra hr,hr.2.1,by exact W2 rb hr⟩,fun n hn=>?_,g.num,g.le,g.ρ,g.ps,g.out,g.jV,g.none,g.y,g.nq,g.nodup,g.len⟩
    rcases g.scope n hn with q | q
    · exact hs n q
    · exact .inr (by exact Tt q rb ra)
theorem Gg {n:Int}:∀(l:List (Int×Int)) (s:Cs),n∉l.map (·.1)->ae (cQ l s).other n=ae s.other n
  | [],_,_=>rfl
  | p::l,s,h=>by
    rw [List.map_cons,List.mem_cons,not_or] at h
    show ae (cQ l (gQ p.1 p.2 s)).other n=_
    rw [Gg l _ h.2]
    show ae (putK s.other p.1 p.2) n=_
    rw [Af,if_neg h.1]
theorem GM:∀(ps xs:List Int) (s:Cs),ps.Nodup->ps.length=xs.length->ps.map (named (cQ (ps.zip xs) s).other)=xs
  | [],[],_,_,_=>rfl
  | p::ps,x::xs,s,hn,hl=>by
    rw [List.nodup_cons] at hn
    have qm:ps.length=xs.length:=by simpa using hl
    have e:cQ ((p::ps).zip (x::xs)) s=cQ (ps.zip xs) (gQ p x s):=rfl
    rw [e,List.map_cons,GM ps xs _ hn.2 qm]
    have h2:p∉(ps.zip xs).map (·.1):=by rw [List.map_fst_zip (by exact Nat.le_of_eq qm)];exact hn.1
    unfold named
    rw [Gg _ _ h2]
    show (ae (putK s.other p x) p).getD p::xs=_
    rw [Af,if_pos rfl];rfl
  | [],_::_,_,_,hl=>by simp at hl
  | _::_,[],_,_,hl=>by simp at hl
theorem FL:∀(l:List (Int×Int)) (s:Cs),(cQ l s).blocks=s.blocks∧(cQ l s).later=s.later∧(cQ l s).entry=s.entry∧(cQ l s).held=s.held∧(cQ l s).waiting=s.waiting
  | [],_=>⟨rfl,rfl,rfl,rfl,rfl⟩
  | p::l,s=>FL l (gQ p.1 p.2 s)
theorem vY {lab:Int} {ps:List Int} {b:Tm} {as:List Tm} (hl:isLet (.lam lab ps b) as=true) (hb:Comp b) (has:∀t∈as,Comp t):Comp (.call (.lam lab ps b) as):=by
  intro w S ws sc lo hi z N0 l i h y hN H hw
  cases hN with
  | @call _ _ m _ _ _ JC iH hz=>
  cases JC with
  | lam n kB yM=>
  have Jw:(bN (lo+1) n).length=as.length:=by simpa [isLet] using hl
  have rA:=yM.le
  have JA:=iH.le
  have go:=Go.one hw (.node (t:=.call (.lam (lo+1) (bN (lo+1) n) b) as) (w:=w) (s:={S with waiting:=ws}) (l:=l) H.at_.1 ⟨by exact Zl hz rfl,fun _ _ _ e=>by cases e;exact WN Jw hz⟩)
  rw [Cu,hl,if_pos rfl] at go
  have q0:gK S (pushS (as.map (fun a=>nd a .val)++[tk .ic (.call (.lam (lo+1) (bN (lo+1) n) b) as) w]) {S with waiting:=ws}):=DD
  refine fI (Eb as has (pushS (as.map (fun a=>nd a .val)++[tk .ic (.call (.lam (lo+1) (bN (lo+1) n) b) as) w]) {S with waiting:=ws}) (ws++[tk .ic (.call (.lam (lo+1) (bN (lo+1) n) b) as) w]) sc m hi z N0 l i h y iH
    ((H.same q0).sub (by exact Tc kB rA) (Int.le_refl _)) (by simp [pushS])) fun m1 S1 l1 i1 xs na i5 w1 h1 uH ao Zt v1 c1=>?_
  have tw:=ao.left q0.b (show S.n+(as.map (fun a=>nd a Way.val)++[tk .ic (.call (.lam (lo+1) (bN (lo+1) n) b) as) w]).length≤S.n+3 by simp;exact hz)
  have go2:=Go.one w1 (.lets (lab:=lo+1) (ps:=bN (lo+1) n) (b:=b) (as:=as) (w:=w) (s:={S1 with waiting:=ws}) (hs:=S.held) (xs:=xs) h1 uH Jw (by exact Ts uH hz Jw))
  have lk:=FL ((bN (lo+1) n).zip xs) (bj S.held {S1 with waiting:=ws})
  have ll:=Cv ((bN (lo+1) n).zip xs) (bj S.held {S1 with waiting:=ws})
  have lh:=EY ((bN (lo+1) n).zip xs) (bj S.held {S1 with waiting:=ws})
  have ln:=DK ((bN (lo+1) n).zip xs) (bj S.held {S1 with waiting:=ws})
  have Oo:∀k,k∉bN (lo+1) n->ae (cQ ((bN (lo+1) n).zip xs) (bj S.held {S1 with waiting:=ws})).other k=ae S1.other k:=fun k hk=>Gg _ _ (by rw [List.map_fst_zip (by exact Tp Jw uH)];exact hk)
  have lmap:=GM (bN (lo+1) n) xs (bj S.held {S1 with waiting:=ws}) Ct (by exact (Jw).trans (uH).symm)
  generalize cQ ((bN (lo+1) n).zip xs) (bj S.held {S1 with waiting:=ws})=mK at go2 lk ll lh ln Oo lmap
  refine FE lk ?_;clear lk;intro KN Pq Pp Po Pn
  have o1:∀k,(k≤m∨hi<k)->ae S1.other k=ae S.other k:=ao.other
  have VG:∀k∈sc,named mK.other k=named S.other k:=fun k hk=>by
    have:=H.b6 k hk
    unfold named
    rw [Oo k (by rw [Bj];exact To this),o1 k (by exact Tn kB rA this)]
  have H2:Hyp (pushS [nd b w] mK) (sc++bN (lo+1) n) (lo+1+n) m z N0 l1 i1 h y:=by
    have ed:S.last≤S1.last:=tw.ev.last
    refine ⟨fun k hk=>?_,by have:=H.hz;exact SR kB this,by have:=H.oZ;exact Int.le_trans JA this,?_,fun k hk=>?_,fun k p q=>?_,?_,?_,?_,H.y,H.nn⟩
    · rcases List.mem_append.mp hk with hk | hk
      · have:=H.b6 k hk;exact SR kB this
      · rw [Bj] at hk;exact Tj hk
    · show N0≤mK.last
      rw [ll];exact Int.le_trans H.last ed
    · show named mK.other k≤mK.last∧_
      rw [show mK.last=S1.last from ll]
      rcases List.mem_append.mp hk with hk | hk
      · show named mK.other k≤S1.last∧(named mK.other k≤z∨N0<named mK.other k)
        rw [VG k hk];exact ⟨Int.le_trans (H.nm k hk).1 ed,(H.nm k hk).2⟩
      · have:named mK.other k∈xs:=by rw [←lmap];exact List.mem_map_of_mem hk
        exact v1 _ this
    · show ae mK.other k=none
      rw [Oo k (by rw [Bj];exact Ti p),o1 k (by exact Th q)]
      exact H.fresh k (by exact WT kB p) (by exact Int.le_trans q JA)
    · intro j k e
      show j≤mK.last
      rw [ll]
      exact ao.ev.cD j k (by have e':ae mK.blocks j=some k:=e;rw [KN] at e';exact e')
    · exact Zt.same KN lh
    · refine bq (H.hv.up tw.ev.le) fun k e q=>?_
      exact ⟨k,by show ae mK.blocks h=_;rw [KN];exact e,q⟩
  refine cB (hb w (pushS [nd b w] mK) ws (sc++bN (lo+1) n) (lo+1+n) m z N0 l1 i1 h y yM H2 (by show mK.waiting++_=_;rw [Pn];rfl)) fun m2 S2 l2 i2 x2 nb lC R2 c2=>?_
  have KY:((bN (lo+1) n).zip xs).length≤2:=by rw [List.length_zip,AM];exact Tg uH hz Jw kB
  have bg:i7 S1 S2 sc lo m N0 (·=l1) (fun j=>w≠.tail∧j=l2) (60*b.size-2+3) nb:=R2.st.Mk (d:=3) KN ll Pq Pp (fun k hk=>Oo k (by rw [Bj];exact Tf rA hk)) (by exact WU kB) (Int.le_refl _)
    (fun k hk=>by
      rcases List.mem_append.mp hk with hk | hk
      · exact .inl hk
      · rw [Bj] at hk;exact .inr (by exact Te rA hk)) (by show mK.n+1≤S1.n+3;rw [ln];show S1.n+_+1≤_;exact Td KY)
  have Ye:l1=l∨S.last<l1:=tw.ul l1 rfl
  have Y3:∀j,j≤S.last->j=l1->j=l:=fun j hj e=>by
    rcases Ye with q | q
    · exact e.trans q
    · exact WQ q e hj
  have YY:∀j,((w≠.tail∧j=l2)∨(j=l1∧¬j=l1))↔(w≠.tail∧j=l2):=fun j=>⟨fun g=>g.elim id fun g=>absurd g.1 g.2,.inl⟩
  have st:=(tw.trans bg (sc:=sc) (lo:=lo) (hi:=hi) H.cD Y3 (fun fi hf e=>tw.nl fi hf e) ⟨by exact Tc kB rA,Int.le_refl _⟩ ⟨Int.le_refl _,JA⟩ (.inr (Int.le_refl _)) (fun k hk=>⟨.inl hk,by have:=H.b6 k hk;exact OJ this⟩) (fun k hk=>⟨.inl hk,by have:=H.b6 k hk;exact Tb kB rA this⟩)).weak
    (U':=fun j=>w≠.tail∧j=l2) (z':=60*(Tm.call (.lam (lo+1) (bN (lo+1) n) b) as).size-2) YY Ta
  refine ⟨_,S2,l2,i2,x2,na++nb,((go.trans i5).trans go2).trans lC,⟨R2.waiting,?_,st,R2.at_,R2.val⟩,fun bb FT ρ hρ hle fH=>?_⟩
  · rw [R2.held];show heldW w mK.held x2=_;rw [Po];rfl
  · have lS:iL (bm S1) bb:=bg.ev.le.trans hle
    refine .w <| .lets (named mK.other) (c1 bb FT ρ hρ lS fun fi hf=>fH fi (by simp [hf])) Jw (fun k hk=>by rw [VG k hk,hρ k hk]) lmap (fun k hk hp=>?_) Ct (by rw [AM];exact kB) ?_
    · rw [Bj] at hp;have:=H.b6 k hk;exact S9 hp this
    · have:=c2 bb FT (named mK.other) (fun k _=>rfl) hle fun fi hf=>fH fi (by simp [hf])
      have e:(pushS [nd b w] mK).last=S1.last:=ll
      rw [e] at this
      exact this
end Mine
end
section
namespace Mine
theorem C8 {S:Cs} {l h:Int} {i:Nat} {ps:List Int} {rest:Int} (a:jy S l i h) (hb:jX S) :
    Ev S (aO ps rest S) (fun _=>False)∧jy (aO ps rest S) l i h∧ae (aO ps rest S).blocks (S.last+1)=some ⟨.cw,ps,rest,-1,h,l,.b4,[],none⟩∧∀j,Un (aO ps rest S) j->Un S j∨j=S.last+1:=by
  refine mX a ?_;clear a;intro e k e1 e2 e3 e4
  have b1:jX (cT S):=hb.fr
  refine j4 (vF (l:=S.last+1) (k:=⟨.cw,ps,rest,-1,kg S,ig S,.b4,[],none⟩) b1 (Int.le_refl _) (hb.none (by exact Int.le_refl _))) fun m1 m2 m3=>?_
  have ev:Ev S (aO ps rest S) (fun _=>False):=⟨by show S.last≤S.last+1;exact Z8,m1.cD,m1.le,m1.frame⟩
  refine ⟨ev,⟨e,k,ev.frame l k e1 (fun q=>q),e2,e3,e4⟩,?_,m3⟩
  have:ae (aO ps rest S).blocks (S.last+1)=_:=m2
  rw [this,C6 e e1,Bf e,e4]
theorem cu.of {S:Cs} {l:Int} {k:KP} (h:ae S.blocks l=some k):cu (bm S) l k.params k.rest k.var:=⟨k,h,rfl,rfl,rfl⟩
theorem rL {w:Way} {S:Cs} {ws:List gJ} {sc:List Int} {lo hi z N0 l h y x:Int} {i:Nat} {xs:List Int} (H:Hyp S sc lo hi z N0 l i h y) (hw:S.waiting=ws) :
    ∃S' l' i' x' to var,S'=jd x xs w S∧Res w S S' ws sc lo hi z N0 l h 4 l' i' x' []∧S.last≤S'.last∧∀b,iL (bm S') b->cA b l i (.call x xs to var)∧hY b S.last to var (dest w l' i' x' y S'.last):=by
  have nD:=H.at_.le H.cD
  have ed:=H.last
  have PX:=H.nn
  cases w with
  | tail=>
    refine j4 (BE (la:=.call x xs (-1) (d7 S)) H.at_ H.cD) fun e1 e2 e3=>?_
    refine ⟨_,l,i,0,-1,d7 S,rfl,⟨hw,rfl,.plain e1 rfl rfl (Nat.le_add_right ..) rfl (fun j hj=>.inr (e3 j hj)) (fun j hj=>absurd rfl hj.1) (fun j hj=>absurd rfl hj.1),fun e=>absurd rfl e,fun e=>by injection e⟩,Int.le_refl _,fun b hle=>⟨e2.up hle,?_⟩⟩
    exact .tail rfl (Dl H.at_ H.hv) H.y
  | val=>
    have a1:jy (cT S) l i h:=H.at_.same rfl rfl
    refine Dw (C8 (ps:=[S.last+1]) (rest:=-1) a1 H.cD.fr) fun c1 c2 c3 c4=>?_
    refine j4 (BE (la:=.call x xs (S.last+2) (-1)) c2 c1.cD) fun d1 d2 d3=>?_
    have e2:(cT S).last+1=S.last+2:=by show S.last+1+1=_;exact Z2
    rw [e2] at c3 c4
    have hE:S.last+2≠l:=by exact Ug e2 nD
    have c5:=d1.frame _ _ c3 hE
    have Nj:Ev S (cT S) (·=l):=(FW H.cD rfl rfl).weak fun _=>False.elim
    have QA:=Nj.trans c1 H.cD fun _ _ q=>False.elim q
    have yW:=QA.trans d1 H.cD fun _ _ q=>q
    have ev:Ev S (jd x xs .val S) (·=l):=⟨yW.last,yW.cD,yW.le,yW.frame⟩
    have jr:(jd x xs .val S).last=S.last+1+1:=rfl
    refine ⟨_,S.last+2,0,S.last+1,S.last+2,-1,rfl,⟨hw,rfl,.plain ev rfl rfl (show S.n+1+1≤S.n+4 by exact S7) rfl (fun j hj=>?_) (fun j hj=>.inr (by rw [hj.2];exact Zi rfl)) (fun j hj=>by rw [hj.2,jr];exact K9),fun _=>⟨rfl,_,c5,rfl,rfl,rfl⟩,fun _=>⟨by rw [jr];exact Z4,.inr (by exact Int.lt_add_one_of_le ed)⟩⟩,ev.last,fun b hle=>⟨d2.up hle,?_⟩⟩
    · refine xA (d3 j hj) fun g1 g2=>?_
      rcases c4 j g1 with g | g
      · exact .inr ⟨g,g2⟩
      · exact .inl ⟨Way.noConfusion,g⟩
    · rw [jr]
      exact .val (v:=-1) rfl ((cu.of c5).up (b:=bm (jd x xs .val S)) hle) (by exact Int.le_refl _) (by exact Z4)
  | cj=>
    have a1:jy (cT S) l i h:=H.at_.same rfl rfl
    refine Dw (C8 (ps:=[]) (rest:=S.last+1) a1 H.cD.fr) fun c1 c2 c3 c4=>?_
    refine j4 (BE (la:=.call x xs (S.last+2) (-1)) c2 c1.cD) fun d1 d2 d3=>?_
    have e2:(cT S).last+1=S.last+2:=by show S.last+1+1=_;exact Z2
    rw [e2] at c3 c4
    have hE:S.last+2≠l:=by exact Ug e2 nD
    have c5:=d1.frame _ _ c3 hE
    have Nj:Ev S (cT S) (·=l):=(FW H.cD rfl rfl).weak fun _=>False.elim
    have QA:=Nj.trans c1 H.cD fun _ _ q=>False.elim q
    have yW:=QA.trans d1 H.cD fun _ _ q=>q
    have ev:Ev S (jd x xs .cj S) (·=l):=⟨yW.last,yW.cD,yW.le,yW.frame⟩
    have jr:(jd x xs .cj S).last=S.last+1+1:=rfl
    refine ⟨_,S.last+2,0,S.last+1,S.last+2,-1,rfl,⟨hw,rfl,.plain ev rfl rfl (show S.n+1≤S.n+4 by exact Zr rfl) rfl (fun j hj=>?_) (fun j hj=>.inr (by rw [hj.2];exact Zi rfl)) (fun j hj=>by rw [hj.2,jr];exact K9),fun _=>⟨rfl,_,c5,rfl,rfl,rfl⟩,fun e=>by injection e⟩,ev.last,fun b hle=>⟨d2.up hle,?_⟩⟩
    · refine xA (d3 j hj) fun g1 g2=>?_
      rcases c4 j g1 with g | g
      · exact .inr ⟨g,g2⟩
      · exact .inl ⟨Way.noConfusion,g⟩
    · rw [jr]
      exact .cj (x:=S.last+1) (v:=-1) rfl ((cu.of c5).up (b:=bm (jd x xs .cj S)) hle) (by exact SY PX ed e2 jr) (by exact OK)
theorem A8 {f:Tm} {as:List Tm} (hl:isLet f as=false) (hf:Comp f) (has:∀t∈as,Comp t):Comp (.call f as):=by
  intro w S ws sc lo hi z N0 l i h y hN H hw
  cases hN with
  | @call _ _ m _ _ _ JC iH hz=>
  have PQ:slim (.call f as):=⟨by exact Zl hz rfl,fun lab ps b e=>by subst e;cases JC with | lam n kB _=>rw [AM];exact Zl kB rfl⟩
  have go:=Go.one hw (.node (t:=.call f as) (w:=w) (s:={S with waiting:=ws}) (l:=l) H.at_.1 PQ)
  rw [Cu,hl,if_neg (by decide)] at go
  have q0:gK S (pushS (nd f .val::as.map (fun a=>nd a .val)++[tk .d8 (.call f as) w]) {S with waiting:=ws}):=DD
  refine cB (hf .val (pushS (nd f .val::as.map (fun a=>nd a .val)++[tk .d8 (.call f as) w]) {S with waiting:=ws}) (ws++[tk .d8 (.call f as) w]++(as.map fun a=>nd a .val).reverse) sc lo m z N0 l i h y JC ((H.same q0).sub (Int.le_refl _) iH.le) (by simp [pushS])) fun m1 S1 l1 i1 x na i5 R1 c1=>?_
  have mV:=R1.left q0.b rfl (show S.n+(nd f Way.val::as.map (fun a=>nd a Way.val)++[tk .d8 (.call f as) w]).length≤S.n+4 by simp;exact hz)
  have H1:=H.jC mV.st (R1.at_ Way.noConfusion) JC.le
  refine fI (Eb as has S1 (ws++[tk .d8 (.call f as) w]) sc m hi z N0 l1 i1 h y iH H1 R1.waiting) fun m2 S2 l2 i2 xs nb lC w2 h2 yq bg at2 v2 c2=>?_
  have H2:=H1.jC bg at2 iH.le
  have hh:S2.held=S.held++(x::xs):=by rw [h2,R1.held];show S.held++[x]++xs=_;simp
  have go2:=Go.one w2 (.call (f:=f) (as:=as) (w:=w) (s:={S2 with waiting:=ws}) (l:=l2) (hs:=S.held) (x:=x) (xs:=xs) at2.1 hh yq (by exact WN yq hz))
  refine o6 (rL (w:=w) (x:=x) (xs:=xs) (S:=bj S.held {S2 with waiting:=ws}) (ws:=ws) (H2.same i8) rfl) fun S3 l3 i3 x3 to var e3 R3 h3 c3=>?_
  have e4:jd x xs w (bj S.held {S2 with waiting:=ws})=S3:=e3.symm
  rw [e4] at go2
  have XN:=mV.st.seq (d:=0) (uw Way.noConfusion) ⟨rfl,rfl,rfl,rfl,rfl⟩ (Nat.le_refl _) bg H.cD H.b6 JC.le iH.le
  have XM:=XN.seq (d:=0) (fun j=>Iff.rfl) (i8 (S:=S2) (ws:=ws) (hs:=S.held)).b (Nat.le_refl _) R3.st H.cD H.b6 (Int.le_trans JC.le iH.le) (Int.le_refl _)
  refine ⟨_,S3,l3,i3,x3,na++nb++[],((go.trans i5).trans lC).trans go2,⟨R3.waiting,R3.held,XM.weak (fun _=>Iff.rfl) SX,R3.at_,R3.val⟩,fun b FT ρ hρ hle fH=>?_⟩
  have jq:iL (bm S2) b:=R3.st.ev.le.trans hle
  have lS:iL (bm S1) b:=bg.ev.le.trans jq
  exact .w <| .call (c1 b FT ρ hρ lS fun fi hf=>fH fi (by simp [hf])) (c2 b FT ρ (BU H mV.st hρ) jq fun fi hf=>fH fi (by simp [hf])) hz (c3 b hle).1 (c3 b hle).2
end Mine
end
section
namespace Mine
noncomputable def mt (w:Way) (la:Int):List gJ:=match w with | .tail=>[] | w=>[tn .cY w [la]]
noncomputable def Ends (w:Way) (la y:Int) (b:Bm) (d:Ds):Prop:=match w with
  | .tail=>d=.tail y
  | .val=>∃l i x c,d=.val l i x c∧cA b l i (.gm la [x])
  | .cj=>∃l i c,d=.cj l i c∧cA b l i (.gm la [])
theorem Fj {t:Tm} (ht:Comp t) {w:Way} {S:Cs} {ws:List gJ} {sc:List Int} {lo hi z N0 lb h y la:Int} (hN:Num sc lo hi t) (H:Hyp (cW lb S) sc lo hi z N0 lb 0 h y) (hw:S.waiting=ws++mt w la++[nd t w]++[tn .aY .val [lb]]) :
    ∃m S' new,Runs S m S'∧S'.waiting=ws∧S'.held=S.held∧i7 S S' sc lo hi N0 (·=lb) (fun _=>False) (60*t.size) new∧
      ∀(b:Bm) (FT:Fi->Prop) (ρ:Int->Int),(∀n∈sc,ρ n=named S.other n)->iL (bm S') b->(∀fi∈new,FT fi)->∃d,Code b FT sc ρ t lb 0 S.last d∧Ends w la y b d:=by
  have go:=Go.one hw (.enter (s:={S with waiting:=ws++mt w la++[nd t w]}) (l:=lb) (by refine o8 H.at_ fun _ k e _=>?_;have e':ae S.blocks lb=some k:=e;show (ae S.blocks lb).isSome;rw [e'];rfl))
  refine cB (ht w (cW lb {S with waiting:=ws++mt w la++[nd t w]}) (ws++mt w la) sc lo hi z N0 lb 0 h y hN (H.same ⟨rfl,rfl,rfl,rfl,rfl,rfl⟩) rfl) fun m1 S2 l2 i2 x new run R c=>?_
  have R':Res w S S2 (ws++mt w la) sc lo hi z N0 lb h (60*t.size-2+0) l2 i2 x new:=R.left (d:=0) ⟨rfl,rfl,rfl,rfl,rfl⟩ rfl (Nat.le_refl _)
  have cD:jX S:=H.cD
  have VF:=H.b6
  cases w with
  | tail=>
    refine ⟨_,S2,new,go.trans run,by rw [R.waiting];simp [mt],R'.held,R'.st.weak (fun j=>⟨fun q=>q.1 rfl,False.elim⟩) (by exact SW),fun b FT ρ hρ hle fH=>⟨_,c b FT ρ hρ hle fH,rfl⟩⟩
  | val=>
    have a2:=R.at_ Way.noConfusion
    have hh:S2.held=S.held++[x]:=R.held
    have go2:=Go.one R.waiting (.iG (s:={S2 with waiting:=ws}) (l:=l2) (x:=x) (hs:=S.held) (to:=la) a2.1 hh)
    refine j4 (BE (la:=.gm la [x]) (S:=bj S.held {S2 with waiting:=ws}) (a2.same rfl rfl) R.st.ev.cD) fun e1 e2 e3=>?_
    have bg:i7 (bj S.held {S2 with waiting:=ws}) (cK (.gm la [x]) (bj S.held {S2 with waiting:=ws})) sc hi hi N0 (·=l2) (fun _=>False) 0 []:=.plain e1 rfl rfl (Nat.le_refl _) rfl (fun j hj=>.inr (e3 j hj)) (fun j hj=>hj.elim) fun j hj=>hj.elim
    have st:=R'.st.seq (d:=0) (uw Way.noConfusion) (i8 (S:=S2) (ws:=ws) (hs:=S.held)).b (Nat.le_refl _) bg cD VF hN.le (Int.le_refl _)
    refine ⟨_,_,new++[],(go.trans run).trans go2,rfl,rfl,st.weak (fun _=>Iff.rfl) (by exact WM),fun b FT ρ hρ hle fH=>⟨_,c b FT ρ hρ (e1.le.trans hle) fun fi hf=>fH fi (by simp [hf]),_,_,_,_,rfl,e2.up hle⟩⟩
  | cj=>
    have a2:=R.at_ Way.noConfusion
    have go2:=Go.one R.waiting (.jc (s:={S2 with waiting:=ws}) (l:=l2) (to:=la) a2.1)
    refine j4 (BE (la:=.gm la []) (S:={S2 with waiting:=ws}) (a2.same rfl rfl) R.st.ev.cD) fun e1 e2 e3=>?_
    have bg:i7 {S2 with waiting:=ws} (cK (.gm la []) {S2 with waiting:=ws}) sc hi hi N0 (·=l2) (fun _=>False) 0 []:=.plain e1 rfl rfl (Nat.le_refl _) rfl (fun j hj=>.inr (e3 j hj)) (fun j hj=>hj.elim) fun j hj=>hj.elim
    have st:=R'.st.seq (d:=0) (uw Way.noConfusion) (EN (S:=S2) (ws:=ws)).b (Nat.le_refl _) bg cD VF hN.le (Int.le_refl _)
    refine ⟨_,_,new++[],(go.trans run).trans go2,rfl,R.held,st.weak (fun _=>Iff.rfl) (by exact WM),fun b FT ρ hρ hle fH=>⟨_,c b FT ρ hρ (e1.le.trans hle) fun fi hf=>fH fi (by simp [hf]),_,_,_,rfl,e2.up hle⟩⟩
noncomputable def tl (w:Way) (la p:Int):List gJ:=match w with | .tail=>[] | .val=>[tn .cP .val [p],tn .aY .val [la]] | .cj=>[tn .cP .val [],tn .aY .val [la]]
noncomputable def pr (w:Way) (p:Int):List Int:=match w with | .val=>[p] | _=>[]
structure KC (w:Way) (S S2:Cs) (ws:List gJ) (b c:Tm) (l h x:Int) (i:Nat) (la p:Int):Prop where
  waiting:S2.waiting=ws++tl w la p++(mt w la++[nd c w]++[tn .aY .val [S.last+2]])++(mt w la++[nd b w]++[tn .aY .val [S.last+1]])
  held:S2.held=S.held
  other:S2.other=S.other
  later:S2.later=S.later
  entry:S2.entry=S.entry
  n:S2.n≤S.n+11
  ev:Ev S S2 (·=l)
  yes:∃v,ae S2.blocks (S.last+1)=some ⟨.cw,[],-1,v,h,l,.b4,[],none⟩
  no:∃v,ae S2.blocks (S.last+2)=some ⟨.cw,[],-1,v,h,l,.b4,[],none⟩
  after:w≠.tail->∃v,ae S2.blocks la=some ⟨.cw,pr w p,-1,v,h,l,.b4,[],none⟩
  Il:w≠.tail->S.last+2<la∧la≤S2.last
  hp:w=.val->S.last<p∧p≤S2.last
  un:∀j,Un S2 j->(j=S.last+1∨j=S.last+2∨(w≠.tail∧j=la))∨(Un S j∧j≠l)
  ed:cA (bm S2) l i (.branch x (S.last+1) (S.last+2))
  hl:S.last+2≤S2.last
theorem He {w:Way} {S:Cs} {ws:List gJ} {b c:Tm} {l h x:Int} {i:Nat} (a:jy S l i h) (hb:jX S) (hw:S.waiting=ws):∃la p,KC w S (iV b c x w S) ws b c l h x i la p:=by
  have nD:=a.le hb
  refine Dw (C8 (ps:=[]) (rest:=-1) a hb) fun c1 c2 c3 c4=>?_
  refine Dw (C8 (ps:=[]) (rest:=-1) c2 c1.cD) fun d1 d2 d3 d4=>?_
  have e2:(aO [] (-1) S).last+1=S.last+2:=by show S.last+1+1=_;exact Z2
  rw [e2] at d3 d4
  have y2:=d1.frame _ _ c3 (fun q=>q)
  have QB:=c1.trans d1 hb fun _ _ q=>False.elim q
  cases w with
  | tail=>
    refine j4 (BE (la:=.branch x (S.last+1) (S.last+2)) d2 d1.cD) fun f1 f2 f3=>?_
    have ev:=(QB.weak (P1:=(·=l)) fun _ q=>False.elim q).trans f1 hb fun _ _ q=>q
    refine ⟨0,0,?_,rfl,rfl,rfl,rfl,show S.n+1+1+4≤S.n+11 by exact SV,⟨ev.last,ev.cD,ev.le,ev.frame⟩,⟨-1,f1.frame _ _ y2 (by exact SU e2 nD)⟩,⟨-1,f1.frame _ _ d3 (by exact SS e2 nD)⟩,fun e=>absurd rfl e,fun e=>absurd rfl e,fun e=>(by injection e),fun j hj=>?_,f2,show S.last+2≤S.last+1+1 by exact K9⟩
    · show S.waiting++_=_;rw [hw];simp [tl,mt]
    · refine xA (f3 j hj) fun g1 g2=>?_
      rcases d4 j g1 with g | g
      · rcases c4 j g with g | g
        · exact .inr ⟨g,g2⟩
        · exact .inl (.inl g)
      · exact .inl (.inr (.inl g))
  | val=>
    have a3:jy (cT (aO [] (-1) (aO [] (-1) S))) l i h:=d2.same rfl rfl
    refine Dw (C8 (ps:=[S.last+3]) (rest:=-1) a3 d1.cD.fr) fun g1 g2 g3 g4=>?_
    have e3:(cT (aO [] (-1) (aO [] (-1) S))).last+1=S.last+4:=by show S.last+1+1+1+1=_;exact W6
    rw [e3] at g3 g4
    have Zf:Ev (aO [] (-1) (aO [] (-1) S)) (cT (aO [] (-1) (aO [] (-1) S))) (fun _=>False):=FW d1.cD rfl rfl
    have Qz:=(QB.trans Zf hb fun _ _ q=>False.elim q).trans g1 hb fun _ _ q=>False.elim q
    refine j4 (BE (la:=.branch x (S.last+1) (S.last+2)) g2 g1.cD) fun f1 f2 f3=>?_
    have ev:=(Qz.weak (P1:=(·=l)) fun _ q=>False.elim q).trans f1 hb fun _ _ q=>q
    have jr:(iV b c x .val S).last=S.last+1+1+1+1:=rfl
    refine ⟨S.last+4,S.last+3,?_,rfl,rfl,rfl,rfl,show S.n+1+1+1+8≤S.n+11 by exact Nat.le_refl _,⟨ev.last,ev.cD,ev.le,ev.frame⟩,⟨-1,f1.frame _ _ (g1.frame _ _ y2 (fun q=>q)) (by exact SQ e2 e3 jr nD)⟩,⟨-1,f1.frame _ _ (g1.frame _ _ d3 (fun q=>q)) (by exact SP e2 e3 jr nD)⟩,fun _=>⟨-1,f1.frame _ _ g3 (by exact SO e2 e3 jr nD)⟩,fun _=>⟨by exact Zj rfl,by rw [jr];exact SN⟩,fun _=>⟨by exact Zi rfl,by rw [jr];exact SM⟩,fun j hj=>?_,f2,by rw [jr];exact SK⟩
    · show S.waiting++_=_;rw [hw];simp [tl,mt]
    · refine xA (f3 j hj) fun k1 k2=>?_
      rcases g4 j k1 with g | g
      · rcases d4 j g with g | g
        · rcases c4 j g with g | g
          · exact .inr ⟨g,k2⟩
          · exact .inl (.inl g)
        · exact .inl (.inr (.inl g))
      · exact .inl (.inr (.inr ⟨Way.noConfusion,g⟩))
  | cj=>
    refine Dw (C8 (ps:=[]) (rest:=-1) d2 d1.cD) fun g1 g2 g3 g4=>?_
    have e3:(aO [] (-1) (aO [] (-1) S)).last+1=S.last+3:=by show S.last+1+1+1=_;exact T4
    rw [e3] at g3 g4
    have Qz:=QB.trans g1 hb fun _ _ q=>False.elim q
    refine j4 (BE (la:=.branch x (S.last+1) (S.last+2)) g2 g1.cD) fun f1 f2 f3=>?_
    have ev:=(Qz.weak (P1:=(·=l)) fun _ q=>False.elim q).trans f1 hb fun _ _ q=>q
    have jr:(iV b c x .cj S).last=S.last+1+1+1:=rfl
    refine ⟨S.last+3,0,?_,rfl,rfl,rfl,rfl,show S.n+1+1+1+8≤S.n+11 by exact Nat.le_refl _,⟨ev.last,ev.cD,ev.le,ev.frame⟩,⟨-1,f1.frame _ _ (g1.frame _ _ y2 (fun q=>q)) (by exact SJ e2 e3 jr nD)⟩,⟨-1,f1.frame _ _ (g1.frame _ _ d3 (fun q=>q)) (by exact SI e2 e3 jr nD)⟩,fun _=>⟨-1,f1.frame _ _ g3 (by exact SH e2 e3 jr nD)⟩,fun _=>⟨by exact Zj rfl,by rw [jr];exact WS⟩,fun e=>(by injection e),fun j hj=>?_,f2,by rw [jr];exact TH⟩
    · show S.waiting++_=_;rw [hw];simp [tl,mt]
    · refine xA (f3 j hj) fun k1 k2=>?_
      rcases g4 j k1 with g | g
      · rcases d4 j g with g | g
        · rcases c4 j g with g | g
          · exact .inr ⟨g,k2⟩
          · exact .inl (.inl g)
        · exact .inl (.inr (.inl g))
      · exact .inl (.inr (.inr ⟨Way.noConfusion,g⟩))
end Mine
end
section
namespace Mine
theorem i7.right {S S' Sb:Cs} {sc:List Int} {lo hi N0:Int} {P U:Int->Prop} {z d:Nat} {new:List Fi} (x:i7 S S' sc lo hi N0 P U z new) (h:ik S' Sb) (hn:Sb.n≤S'.n+d):i7 S Sb sc lo hi N0 P U (z+d) new:=by
  refine ⟨⟨by rw [h.last];exact x.ev.last,fun l k e=>by rw [h.last];exact x.ev.cD l k (by rw [←h.blocks];exact e),by rw [h.bm];exact x.ev.le,fun j k e n=>by rw [h.blocks];exact x.ev.frame j k e n⟩,fun n hn=>by rw [h.other];exact x.other n hn,by rw [h.later];exact x.later,fun fi hf=>?_,x.pw,by have:=x.size;exact SG this hn,
    h.entry.trans x.entry,fun j hj=>x.un j ((h.un j).mp hj),x.nl,x.ul,fun j hj=>by rw [h.last];exact x.ub j hj⟩
  have g:=x.mC fi hf
  exact ⟨g.lab,by rw [h.blocks];exact g.bu,g.range,g.scope,g.num,g.le,fun n hn=>by rw [h.other];exact g.ρ n hn,g.ps,g.out,fun n hn=>by rw [h.last];exact g.jV n hn,fun n a b=>by rw [h.other];exact g.none n a b,by rw [h.last];exact g.y,g.nq,g.nodup,g.len⟩
structure ml (S:Cs) (sc:List Int) (lo hi z N0 h y:Int):Prop where
  b6:∀n∈sc,n≤lo
  hz:z≤lo
  oZ:hi≤N0
  last:N0≤S.last
  nm:∀n∈sc,named S.other n≤S.last∧(named S.other n≤z∨N0<named S.other n)
  fresh:∀n,lo<n->n≤hi->ae S.other n=none
  cD:jX S
  hv:HV S h y
  y:0≤y
  nn:0≤N0
theorem Hyp.n {S:Cs} {sc:List Int} {lo hi z N0 l h y:Int} {i:Nat} (H:Hyp S sc lo hi z N0 l i h y):ml S sc lo hi z N0 h y:=⟨H.b6,H.hz,H.oZ,H.last,H.nm,H.fresh,H.cD,H.hv,H.y,H.nn⟩
theorem ml.here {S:Cs} {sc:List Int} {lo hi z N0 l h y:Int} {i:Nat} (H:ml S sc lo hi z N0 h y) (a:jy (cW l S) l i h):Hyp (cW l S) sc lo hi z N0 l i h y:=⟨H.b6,H.hz,H.oZ,H.last,H.nm,H.fresh,H.cD,a,H.hv,H.y,H.nn⟩
theorem ml.next {S S':Cs} {sc:List Int} {lo m hi z N0 h y:Int} {sz:Nat} {P U:Int->Prop} {new:List Fi} (H:ml S sc lo hi z N0 h y) (R:i7 S S' sc lo m N0 P U sz new) (h1:lo≤m):ml S' sc m hi z N0 h y:=by
  have hl:=R.ev.last
  have ho:∀n,(n≤lo∨m<n)->ae S'.other n=ae S.other n:=R.other
  refine ⟨fun n hn=>Int.le_trans (H.b6 n hn) h1,Int.le_trans H.hz h1,H.oZ,Int.le_trans H.last hl,fun n hn=>?_,fun n a b=>?_,R.ev.cD,H.hv.up R.ev.le,H.y,H.nn⟩
  · have e:named S'.other n=named S.other n:=by unfold named;rw [ho n (.inl (H.b6 n hn))]
    rw [e];exact ⟨Int.le_trans (H.nm n hn).1 hl,(H.nm n hn).2⟩
  · rw [ho n (.inr a)];exact H.fresh n (by exact Int.lt_of_le_of_lt h1 a) b
theorem ml.sub {S:Cs} {sc:List Int} {lo hi a b z N0 h y:Int} (H:ml S sc lo hi z N0 h y) (ha:lo≤a) (hb:b≤hi):ml S sc a b z N0 h y:=
  ⟨fun n hn=>Int.le_trans (H.b6 n hn) ha,Int.le_trans H.hz ha,Int.le_trans hb H.oZ,H.last,H.nm,fun n p q=>H.fresh n (by exact Int.lt_of_le_of_lt ha p) (by exact Int.le_trans q hb),H.cD,H.hv,H.y,H.nn⟩
theorem ml.named {S S':Cs} {sc:List Int} {lo m hi z N0 h y:Int} {sz:Nat} {P U:Int->Prop} {new:List Fi} (H:ml S sc lo hi z N0 h y) (R:i7 S S' sc lo m N0 P U sz new) {ρ:Int->Int} (hρ:∀n∈sc,ρ n=named S.other n):∀n∈sc,ρ n=Mine.named S'.other n:=
  fun n hn=>by rw [hρ n hn];unfold Mine.named;rw [R.other n (.inl (H.b6 n hn))]
theorem H6 {w:Way} {la p y c c':Int} {b:Bm} {d1:Ds} (h1:Ends w la y b d1) (hb:w≠.tail->∃v,cu b la (pr w p) (-1) v) (hp:w=.val->c<p∧p≤c') (hc:c≤c'):Meet b c d1 (dest w la 0 p y c'):=by
  cases w with
  | tail=>have e:d1=.tail y:=h1;subst e;exact .tail
  | val=>
    refine IP h1 ?_;clear h1;intro l i x c1 e h2
    refine xE (hb Way.noConfusion) fun v h3=>?_
    subst e
    exact .val h2 h3 (hp rfl).1 (hp rfl).2
  | cj=>
    refine fR h1 ?_;clear h1;intro l i c1 e h2
    refine xE (hb Way.noConfusion) fun v h3=>?_
    subst e
    exact .cj h2 h3 hc
theorem vZ {a b c:Tm} (ha:Comp a) (hb:Comp b) (hc:Comp c):Comp (.bt a b c):=by
  intro w S ws sc lo hi z N0 l i h y hN H hw
  cases hN with
  | @bt _ _ m1 m2 _ _ _ _ iH yM Oy=>
  have go:=Go.one hw (.node (t:=.bt a b c) (w:=w) (s:={S with waiting:=ws}) (l:=l) H.at_.1 trivial)
  have q0:gK S (pushS [nd a .val,tk .dh (.bt a b c) w] {S with waiting:=ws}):=DD
  refine cB (ha .val (pushS [nd a .val,tk .dh (.bt a b c) w] {S with waiting:=ws}) (ws++[tk .dh (.bt a b c) w]) sc lo m1 z N0 l i h y iH ((H.same q0).sub (Int.le_refl _) (Int.le_trans yM.le Oy.le)) (by simp [pushS])) fun k1 S1 l1 i1 x na i5 R1 c1=>?_
  have mV:=R1.left q0.b rfl (show S.n+2≤S.n+2 from Nat.le_refl _)
  have a1:=R1.at_ Way.noConfusion
  have go2:=Go.one R1.waiting (.choice (a:=a) (b:=b) (c:=c) (w:=w) (s:={S1 with waiting:=ws}) (l:=l1) (x:=x) (hs:=S.held) a1.1 R1.held)
  refine xk (He (w:=w) (S:=bj S.held {S1 with waiting:=ws}) (ws:=ws) (b:=b) (c:=c) (x:=x) (a1.same rfl rfl) R1.st.ev.cD rfl) fun la p ch=>?_
  generalize iV b c x w (bj S.held {S1 with waiting:=ws})=S2 at go2 ch
  have ed:(bj S.held {S1 with waiting:=ws}).last=S1.last:=rfl
  have Wz:=ch.waiting
  have Zp:S2.held=S.held:=ch.held
  have ND:=ch.ev
  refine xE ch.yes fun vy QK=>?_
  refine xE ch.no fun vn QN=>?_
  have v8:=ch.Il
  have QL:=ch.hp
  have pO:=ch.hl
  have NB:=ch.un
  have v7:=ch.ed
  rw [ed] at Wz QK QN v8 QL pO NB v7
  have VY:∀j,(j=S1.last+1∨j=S1.last+2∨(w≠.tail∧j=la))->S1.last<j∧j≤S2.last:=fun j hj=>by
    rcases hj with e | e | ⟨e,e'⟩
    · exact SF pO e
    · exact SE pO e
    · have:=v8 e;exact SD this e'
  have bg:i7 (bj S.held {S1 with waiting:=ws}) S2 sc m1 m1 N0 (·=l1) (fun j=>j=S1.last+1∨j=S1.last+2∨(w≠.tail∧j=la)) 11 []:=.plain ND ch.other ch.later ch.n ch.entry NB
    (fun j hj=>.inr (VY j hj).1) (fun j hj=>(VY j hj).2)
  have Oj:=mV.st.seq (d:=0) (uw Way.noConfusion) (i8 (S:=S1) (ws:=ws) (hs:=S.held)).b (Nat.le_refl _) bg H.cD H.b6 iH.le (Int.le_refl _)
  have ve:=Oj.ev.last
  have JB:S.last≤S1.last:=mV.st.ev.last
  have H2:=H.n.next Oj iH.le
  -- yes
  refine eX (Fj hb (w:=w) (S:=S2) (ws:=ws++tl w la p++(mt w la++[nd c w]++[tn .aY .val [S1.last+2]])) (la:=la) (lb:=S1.last+1) yM ((H2.sub (Int.le_refl _) Oy.le).here ⟨rfl,_,QK,rfl,rfl,rfl⟩) (by rw [Wz];simp)) fun k2 S4 nb lC w4 h4 fA c4=>?_
  have H4:=H2.next fA yM.le
  have QM:=fA.ev.frame _ _ QN (by show ¬S1.last+2=S1.last+1;exact SA)
  -- no
  refine eX (Fj hc (w:=w) (S:=S4) (ws:=ws++tl w la p) (la:=la) (lb:=S1.last+2) Oy (H4.here ⟨rfl,_,QM,rfl,rfl,rfl⟩) (by rw [w4];simp)) fun k3 S6 nc O4 w6 h6 pb c6=>?_
  have uO:∀fi∈na++[],fi.lab≤S1.last:=fun fi hf=>by
    refine bq ((R1.st.mC fi (by simpa using hf)).bu) fun k e _=>?_
    exact R1.st.ev.cD _ _ e
  have XS:=Oj.trans fA (sc:=sc) (lo:=lo) (hi:=m2) H.cD (fun j hj e=>by have e':j=S1.last+1:=e;exact Sz e hj JB) (fun fi hf e=>by have e':fi.lab=S1.last+1:=e;have:=uO fi hf;exact Sy e this) ⟨Int.le_refl _,yM.le⟩ ⟨iH.le,Int.le_refl _⟩ (.inl (Int.le_refl _))
    (fun k hk=>⟨.inl hk,by have:=H.b6 k hk;have:=iH.le;exact WR (by assumption) this⟩) (fun k hk=>⟨.inl hk,by have:=H.b6 k hk;exact OJ this⟩)
  have XR:=XS.trans pb (sc:=sc) (lo:=lo) (hi:=hi) H.cD (fun j hj e=>by have e':j=S1.last+2:=e;exact Sw e hj JB) (fun fi hf e=>by
      have e':fi.lab=S1.last+2:=e
      rcases List.mem_append.mp hf with hf | hf
      · have:=uO fi hf;exact Sv e this
      · have:=(fA.mC fi hf).lab;exact Su pO this e) ⟨Int.le_refl _,Oy.le⟩ ⟨Int.le_trans iH.le yM.le,Int.le_refl _⟩ (.inl (Int.le_refl _))
    (fun k hk=>⟨.inl hk,by have:=H.b6 k hk;have:=iH.le;have:=yM.le;exact Ss (by assumption) (by assumption) this⟩) (fun k hk=>⟨.inl hk,by have:=H.b6 k hk;exact OJ this⟩)
  have O2:=XR.weak (U':=fun j=>w≠.tail∧j=la) (z':=60*a.size+2+11+60*b.size+60*c.size) (fun j=>⟨fun g=>by
      rcases g with g | ⟨g | ⟨g,g1⟩,g2⟩
      · exact g.elim
      · exact g.elim
      · rcases g with g | g | g
        · exact absurd g g1
        · exact absurd g g2
        · exact g,fun g=>.inr ⟨.inr ⟨.inr (.inr g),NU (g.2.symm▸v8 g.1)⟩,NT (g.2.symm▸v8 g.1)⟩⟩) (by exact Sr)
  have P9:S6.held=S.held:=h6.trans (h4.trans Zp)
  have Ik:iL (bm S4) (bm S6):=pb.ev.le
  have MJ:iL (bm S2) (bm S6):=fA.ev.le.trans Ik
  have YJ:S1.last+2≤S6.last:=by have:=fA.ev.last;have:=pb.ev.last;exact Sq pO (by assumption) this
  -- ZT end
  have fin:∃m7 S8,Runs S6 m7 S8∧ik S6 S8∧S8.n≤S6.n+1∧S8.waiting=ws∧S8.held=heldW w S.held p∧(w≠.tail->jy S8 la 0 h):=by
    have wz:w≠.tail->∃v,ae S6.blocks la=some ⟨.cw,pr w p,-1,v,h,l1,.b4,[],none⟩:=fun e=>by
      refine xE (ch.after e) fun v e1=>?_
      have:=v8 e
      exact ⟨v,pb.ev.frame _ _ (fA.ev.frame _ _ e1 (by show ¬la=S1.last+1;exact NU this)) (by show ¬la=S1.last+2;exact NT this)⟩
    cases w with
    | tail=>exact ⟨0,S6,.zero,⟨rfl,rfl,rfl,rfl,rfl⟩,Nat.le_succ _,by rw [w6];simp [tl],P9,fun e=>absurd rfl e⟩
    | val=>
      refine xE (wz Way.noConfusion) fun v e1=>?_
      have g1:=Go.one (ws:=ws++[tn .cP .val [p]]) (t:=tn .aY .val [la]) (by rw [w6];simp [tl]) (.enter (s:={S6 with waiting:=ws++[tn .cP .val [p]]}) (l:=la) (by show (ae S6.blocks la).isSome;rw [e1];rfl))
      have g2:=Go.one (s:=cW la {S6 with waiting:=ws++[tn .cP .val [p]]}) (ws:=ws) (t:=tn .cP .val [p]) rfl (.hold (xs:=[p]) (s:={cW la {S6 with waiting:=ws++[tn .cP .val [p]]} with waiting:=ws}) (by simp))
      exact ⟨_,_,g1.trans g2,⟨rfl,rfl,rfl,rfl,rfl⟩,Nat.le_refl _,rfl,by show S6.held++[p]=_;rw [P9];rfl,fun _=>⟨rfl,_,e1,rfl,rfl,rfl⟩⟩
    | cj=>
      refine xE (wz Way.noConfusion) fun v e1=>?_
      have g1:=Go.one (ws:=ws++[tn .cP .val []]) (t:=tn .aY .val [la]) (by rw [w6];simp [tl]) (.enter (s:={S6 with waiting:=ws++[tn .cP .val []]}) (l:=la) (by show (ae S6.blocks la).isSome;rw [e1];rfl))
      have g2:=Go.one (s:=cW la {S6 with waiting:=ws++[tn .cP .val []]}) (ws:=ws) (t:=tn .cP .val []) rfl (.hold (xs:=[]) (s:={cW la {S6 with waiting:=ws++[tn .cP .val []]} with waiting:=ws}) (by simp))
      exact ⟨_,_,g1.trans g2,⟨rfl,rfl,rfl,rfl,rfl⟩,Nat.le_succ _,rfl,by show S6.held++[]=_;rw [P9];simp [heldW],fun _=>⟨rfl,_,e1,rfl,rfl,rfl⟩⟩
  refine sO fin ?_;clear fin;intro m7 S8 O3 sb n8 w8 h8 a8
  have st:=O2.right sb n8
  refine ⟨_,S8,la,0,p,na++[]++nb++nc,(((go.trans i5).trans go2).trans lC).trans O4 |>.trans O3,⟨w8,h8,st.weak (fun _=>Iff.rfl) So,a8,fun e=>?_⟩,fun bb FT ρ hρ hle fH=>?_⟩
  · have:=QL e
    have:=fA.ev.last
    have:=pb.ev.last
    rw [sb.last]
    exact ⟨by exact Sn (by assumption) (by assumption) this,.inr (by have:=H.last;exact Sl (by assumption) JB this)⟩
  · rw [sb.bm] at hle
    have jq:=MJ.trans hle
    have lS:iL (bm S1) bb:=ND.le.trans jq
    have ρ2:=H.n.named Oj hρ
    have ρ4:=H2.named fA ρ2
    refine bq (c4 bb FT ρ ρ2 (Ik.trans hle) fun fi hf=>fH fi (by simp [hf])) fun d1 Zs Zk=>?_
    refine bq (c6 bb FT ρ ρ4 hle fun fi hf=>fH fi (by simp [hf])) fun d2 Zq Zh=>?_
    have mb:w≠.tail->∃v,cu bb la (pr w p) (-1) v:=fun e=>by
      refine xE (ch.after e) fun v e1=>?_
      exact ⟨v,(cu.of e1).up jq⟩
    have mp:w=.val->S1.last<p∧p≤S8.last:=fun e=>by
      have:=QL e
      have:=fA.ev.last
      have:=pb.ev.last
      rw [sb.last];exact Sk (by assumption) (by assumption) this
    have mc:S1.last≤S8.last:=by rw [sb.last];exact WL YJ
    exact .w <| .bt (c1 bb FT ρ hρ lS fun fi hf=>fH fi (by simp [hf])) (v7.up jq) ((cu.of QK).up jq) ((cu.of QN).up jq) (by exact WL pO) (by have:=fA.ev.last;exact Sj pO this) Zs Zq (H6 Zk mb mp mc) (H6 Zh mb mp mc)
mutual
theorem AG:∀(t:Tm),Comp t
  | .cst _=>Hc
  | .loc _=>G9
  | .bI _=>Hb
  | .set _ e=>vW (AG e)
  | .bt a b c=>vZ (AG a) (AG b) (AG c)
  | .lam _ _ _=>Ha
  | .seq a b=>vX (AG a) (AG b)
  | .p1 a=>zb (AG a)
  | .p2 a b=>za (AG a) (AG b)
  | .call (.lam lab ps b) as=>by
    cases hl:isLet (.lam lab ps b) as with
    | true=>exact vY hl (AG b) (AQ as)
    | false=>exact A8 hl Ha (AQ as)
  | .call (.cst k) as=>A8 rfl Hc (AQ as)
  | .call (.loc k) as=>A8 rfl G9 (AQ as)
  | .call (.bI k) as=>A8 rfl Hb (AQ as)
  | .call (.set g e) as=>A8 rfl (AG (.set g e)) (AQ as)
  | .call (.bt a b c) as=>A8 rfl (AG (.bt a b c)) (AQ as)
  | .call (.call f bs) as=>A8 rfl (AG (.call f bs)) (AQ as)
  | .call (.seq a b) as=>A8 rfl (AG (.seq a b)) (AQ as)
  | .call (.p1 a) as=>A8 rfl (AG (.p1 a)) (AQ as)
  | .call (.p2 a b) as=>A8 rfl (AG (.p2 a b)) (AQ as)
theorem AQ:∀(ts:List Tm),∀t∈ts,Comp t
  | [],_,h=>by cases h
  | t::ts,u,h=>by
    rcases List.mem_cons.mp h with h | h
    · rw [h];exact AG t
    · exact AQ ts u h
end
end Mine
end
section
namespace Mine
structure zt (N0:Int) (Sx S:Cs) (PL:List Fi):Prop where
  sx:Sx.last=N0
  cD:jX S
  last:N0≤S.last
  nn:0≤N0
  waiting:S.waiting=[]
  later:S.later=PL.map fun fi=>(fi.lab,fi.body)
  mC:∀fi∈PL,sj Sx S [] 0 N0 N0 fi
  pw:PL.Pairwise Kv
  un:∀j,Un S j->∃fi∈PL,fi.lab=j
theorem EK (l:List Fi) (x:Fi):total (l++[x])=total l+x.body.size:=by rw [Cp];unfold total;simp
theorem outer (N0:Int) (Sx:Cs):∀(n:Nat) (S:Cs) (PL:List Fi),zt N0 Sx S PL->S.n+60*total PL≤n →
    ∃(k:Nat) (f:Cs) (all:List Fi),Built S k f∧(∀fi∈PL,fi∈all)∧iL (bm S) (bm f)∧f.n≤n∧(∀j,¬Un f j)∧f.entry=S.entry∧∀FT:Fi->Prop,(∀fi∈all,FT fi)->∀fi∈all,oX (bm f) FT fi:=by
  suffices H:∀(d n:Nat) (S:Cs) (PL:List Fi),zt N0 Sx S PL->S.n+60*total PL≤n->n≤S.n+d->∃(k:Nat) (f:Cs) (all:List Fi),Built S k f∧(∀fi∈PL,fi∈all)∧iL (bm S) (bm f)∧f.n≤n∧(∀j,¬Un f j)∧f.entry=S.entry∧∀FT:Fi->Prop,(∀fi∈all,FT fi)->∀fi∈all,oX (bm f) FT fi from
    fun n S PL h1 h2=>H n n S PL h1 h2 (Nat.le_add_left ..)
  intro d
  induction d with
  | zero=>
    intro n S PL hP hn hd
    rcases List.eq_nil_or_concat PL with e | ⟨ls,G,e⟩
    · subst e
      exact ⟨0,S,[],.zero (by rw [hP.later];rfl),fun fi h=>h,.refl _,by exact hn,fun j hj=>(by refine bq (hP.un j hj) fun fi h _=>?_;cases h),rfl,fun FT _ fi h=>(by cases h)⟩
    · rw [List.concat_eq_append] at e
      subst e
      rw [EK] at hn
      have:=G.body.size_pos
      omega
  | succ d ih=>
    intro n S PL hP hn hd
    rcases List.eq_nil_or_concat PL with e | ⟨ls,G,e⟩
    · subst e
      exact ⟨0,S,[],.zero (by rw [hP.later];rfl),fun fi h=>h,.refl _,by unfold total at hn;simpa using hn,fun j hj=>(by refine bq (hP.un j hj) fun fi h _=>?_;cases h),rfl,fun FT _ fi h=>(by cases h)⟩
    · rw [List.concat_eq_append] at e
      subst e
      rw [EK] at hn
      have gG:=hP.mC G (by simp)
      have pw:=List.pairwise_append.mp hP.pw
      have dj:∀fi∈ls,Kv fi G:=fun fi hf=>pw.2.2 fi hf G (by simp)
      refine sQ gG.bu fun kG e1 e2 e3 e4 e5 e6 e7=>?_
      have hr:=gG.range
      have hH:Hyp (pushS [nd G.body .tail] (cW G.lab {S with later:=ls.map fun fi=>(fi.lab,fi.body)})) (G.sc++G.ps) G.lo G.hi G.lo N0 G.lab 0 G.lab G.y:=
        ⟨gG.le,Int.le_refl _,hr.2.2,hP.last,fun k hk=>by have:=gG.jV k hk;rw [gG.ρ k hk] at this;exact this,gG.none,hP.cD,⟨rfl,kG,e1,e7,by rw [e6];rfl,e5⟩,⟨kG,e1,e4⟩,gG.y.1,hP.nn⟩
      refine cB (AG G.body .tail (pushS [nd G.body .tail] (cW G.lab {S with later:=ls.map fun fi=>(fi.lab,fi.body)})) [] (G.sc++G.ps) G.lo G.hi G.lo N0 G.lab 0 G.lab G.y gG.num hH (by show S.waiting++_=_;rw [hP.waiting];rfl)) fun m S2 l' i' x nb run R c=>?_
      have st:=R.st
      have nk:=st.size
      have kB:(pushS [nd G.body .tail] (cW G.lab {S with later:=ls.map fun fi=>(fi.lab,fi.body)})).n=S.n+1:=rfl
      have V1:=run.up.n
      rw [kB] at nk V1
      have Y6:=G.body.size_pos
      have ed:S.last≤S2.last:=st.ev.last
      have Qh:∀fi∈ls,∃k,ae S.blocks fi.lab=some k:=fun fi hf=>by refine bq ((hP.mC fi (by simp [hf])).bu) fun k e _=>?_;exact ⟨k,e⟩
      have VN:∀fi∈ls,(∀k∈fi.sc++fi.ps,ae S2.other k=ae S.other k)∧∀k,fi.lo<k->k≤fi.hi->ae S2.other k=ae S.other k:=fun fi hf=>by
        have D:=dj fi hf
        refine ⟨fun k hk=>st.other k ?_,fun k p q=>st.other k ?_⟩
        · have:=D.ab k hk;exact WX this
        · have:=D.r;exact Si p q this
      have Jx:S2.later=(ls++nb).map fun fi=>(fi.lab,fi.body):=by rw [st.later,List.map_append];rfl
      have newOk:∀fi∈nb,sj Sx S2 [] 0 N0 N0 fi:=fun fi hf=>by
        have g:=st.mC fi hf
        have hg:=g.range
        have P7:S.last<fi.lab:=g.lab
        refine ⟨by rw [hP.sx];have:=hP.last;exact Int.lt_of_le_of_lt this P7,g.bu,⟨by exact Sg hr hg,hg.2.1,by exact Sf hr hg⟩,fun k hk=>.inr ?_,g.num,g.le,g.ρ,g.ps,g.out,g.jV,g.none,g.y,g.nq,g.nodup,g.len⟩
        rcases g.scope k hk with q | q
        · rcases gG.scope k q with q | q
          · cases q
          · exact q
        · exact Se hr q
      have Y2:zt N0 Sx S2 (ls++nb):=by
        refine ⟨hP.sx,st.ev.cD,Int.le_trans hP.last ed,hP.nn,R.waiting,Jx,fun fi hf=>?_,List.pairwise_append.mpr ⟨pw.1,st.pw,fun fa ha fb hb=>?_⟩,fun j hj=>?_⟩
        · rcases List.mem_append.mp hf with hf | hf
          · have g:=hP.mC fi (by simp [hf])
            have ev:Ev S S2 (·=G.lab):=⟨st.ev.last,st.ev.cD,st.ev.le,st.ev.frame⟩
            exact g.up ev (dj fi hf).lab (VN fi hf).1 (VN fi hf).2 (Int.le_refl _) (Int.le_refl _) g.scope
          · exact newOk fi hf
        · have D:=dj fa ha
          have g:=st.mC fb hb
          have hg:=g.range
          refine xE (Qh fa ha) fun k e=>?_
          have Il:=hP.cD _ _ e
          have YH:S.last<fb.lab:=g.lab
          refine ⟨by exact Sd YH Il,by have:=D.r;exact R9 hg this,fun k hk=>by have:=D.ab k hk;exact Tq hg this,fun k hk=>?_⟩
          rcases g.scope k hk with q | q
          · exact D.ba k q
          · have:=D.r;exact WZ q this
        · rcases st.un j hj with q | ⟨q,q'⟩ | ⟨fi,hf,e⟩
          · exact absurd rfl q.1
          · refine bq (hP.un j q) fun fi hf e=>?_
            rcases List.mem_append.mp hf with hf | hf
            · exact ⟨fi,by simp [hf],e⟩
            · rw [List.mem_singleton] at hf;subst hf;exact absurd e.symm q'
          · exact ⟨fi,by simp [hf],e⟩
      refine lq (ih n S2 (ls++nb) Y2 (by rw [Cp];exact R8 Y6 hn nk kB) (by exact R7 V1 kB hd)) fun k f all hB oB hle Qb K1 Qe Qq=>?_
      have ML:iL (bm S) (bm S2):=st.ev.le
      refine ⟨k+1,f,G::all,.succ (ls:=ls.map fun fi=>(fi.lab,fi.body)) (l:=G.lab) (t:=G.body) (by rw [hP.later];simp) (by rw [e1];rfl) run R.waiting hB,fun fi hf=>?_,ML.trans hle,Qb,K1,Qe.trans st.entry,fun FT fH fi hf=>?_⟩
      · rcases List.mem_append.mp hf with hf | hf
        · exact .tail _ (oB fi (by simp [hf]))
        · rw [List.mem_singleton] at hf;subst hf;exact .head _
      · rcases List.mem_cons.mp hf with hf | hf
        · subst hf
          refine ⟨gG.nq,gG.nodup,gG.len,gG.ps,gG.out,⟨gG.y.2.2,gG.y.1⟩,?_,S.last,fun k hk=>(gG.jV k hk).1,gG.y.2.1,?_⟩
          · have:=(cu.of e1).up (ML.trans hle)
            rw [e2,e3,e4] at this
            exact this
          · exact c (bm f) FT fi.ρ (fun k hk=>gG.ρ k hk) hle fun fi hf=>fH fi (.tail _ (oB fi (by simp [hf])))
        · exact Qq FT (fun fi hf=>fH fi (.tail _ hf)) fi hf
theorem compiled {N0:Int} {t:Tm} (hN:Num [] 0 N0 t) (hz:t.size≤1000):∃k f,Built (gf N0 t) k f∧f.n≤80000∧(∀x∈f.blocks,ae f.blocks x.1=some x.2->x.2.last.isSome)∧f.entry=N0+1∧∃FT:Fi->Prop,(∀fi,FT fi->oX (bm f) FT fi)∧∃fi,FT fi∧fi.lab=N0+1∧fi.ps=[]∧fi.sc=[]∧fi.body=t:=by
  have hle:=hN.le
  have g:ae (gf N0 t).blocks (N0+1)=some ⟨.aR,[],-1,N0+2,N0+1,-1,.eA,[],none⟩:=by show ae [(N0+1,_)] _=_;rw [Am,if_pos rfl]
  have g2:∀j k,ae (gf N0 t).blocks j=some k->j=N0+1:=fun j k e=>by
    have e':ae [(N0+1,(⟨.aR,[],-1,N0+2,N0+1,-1,.eA,[],none⟩:KP))] j=some k:=e
    rw [Am] at e'
    split at e'
    · rename_i q;exact q.symm
    · subst e'
  have hl:(gf N0 t).last=N0+1+1:=rfl
  have hP:zt N0 {gf N0 t with last:=N0} (gf N0 t) [⟨N0+1,N0+2,[],t,[],fun n=>n,0,N0⟩]:=by
    refine ⟨rfl,fun j k e=>by rw [hl,g2 j k e];exact Z4,by rw [hl];exact OK,hle,rfl,rfl,fun fi hf=>?_,List.pairwise_singleton _ _,fun j ⟨k,e,_⟩=>⟨_,.head _,(g2 j k e).symm⟩⟩
    rw [List.mem_singleton] at hf;subst hf
    exact ⟨show N0<N0+1 by exact Int.le_refl _,⟨_,g,rfl,rfl,rfl,rfl,rfl,rfl⟩,⟨Int.le_refl _,hle,Int.le_refl _⟩,fun n h=>(by cases h),hN,fun n h=>(by cases h),fun n h=>(by cases h),fun n h=>(by cases h),fun n h=>(by cases h),fun n h=>(by cases h),fun n _ _=>rfl,⟨show 0≤N0+2 by exact R6 hle hl,by rw [hl];show N0+2≤_;exact K9,fun h=>by cases h⟩,fun n h=>(by cases h),.nil,Nat.zero_le _⟩
  refine lq (outer N0 {gf N0 t with last:=N0} 60002 (gf N0 t) [⟨N0+1,N0+2,[],t,[],fun n=>n,0,N0⟩] hP (by show 2+60*(t.size+0)≤_;exact R5 hz)) fun k f all hB oB jq Qb K1 Qe Qq=>?_
  refine ⟨k,f,hB,by exact Zl Qb rfl,fun x _ e=>?_,Qe,(·∈all),fun fi hf=>Qq _ (fun _ h=>h) fi hf,_,oB _ (.head _),rfl,rfl,rfl,rfl⟩
  cases hx:x.2.last with
  | some _=>rfl
  | none=>exact absurd ⟨x.2,e,hx⟩ (K1 x.1)
end Mine
end
section
namespace Mine
abbrev Kh:=Addr->Option aK
inductive V (FT:Fi->Prop) (K:Kh) (κ:Addr->Int):MV->KV->Prop
  | bool (b:Bool):V FT K κ (.bool b) (.bool b)
  | int (i:Int):V FT K κ (.int i) (.int i)
  | aA:V FT K κ .aA .aA
  | vals:V FT K κ .vals .vals
  | pair {a b:MV} {a' b':KV}:V FT K κ a a'->V FT K κ b b'->V FT K κ (.pair a b) (.pair a' b')
  | fn {l:Int} {ps:List Int} {b:Tm} {σ:List (Int×MV)} {fi:Fi} {s:Addr} {σk:aK} (f:Int->MV) (h:Int->KV):FT fi->fi.ps=ps->fi.body=b->K s=some σk->(∀n∈fi.sc,fi.ρ n≤κ s)->(∀n∈fi.sc,ae σ n=some (f n))->(∀n∈fi.sc,ae σk (fi.ρ n)=some (h n)) →
      (∀n∈fi.sc,V FT K κ (f n) (h n))->V FT K κ (.fn l ps b σ) (.fn fi.lab s)
noncomputable def eR (σ σ':aK) (c:Int):Prop:=∀k v,k≤c->ae σ k=some v->ae σ' k=some v
theorem eR.refl (σ:aK) (c:Int):eR σ σ c:=fun _ _ _ e=>e
theorem eR.le {σ σ':aK} {c c':Int} (h:eR σ σ' c) (hc:c'≤c):eR σ σ' c':=fun k v hk e=>h k v (Int.le_trans hk hc) e
theorem eR.put {σ:aK} {x c:Int} {v:KV} (h:c<x):eR σ (putK σ x v) c:=fun k u hk e=>by rw [Af,if_neg (by exact UX h hk)];exact e
noncomputable def iv (K:Kh) (κ:Addr->Int) (K':Kh) (κ':Addr->Int):Prop:=∀a σ,K a=some σ->κ a≤κ' a∧∃σ',K' a=some σ'∧eR σ σ' (κ a)
variable {FT:Fi->Prop} {K K':Kh} {κ κ':Addr->Int} {b:Bm}
theorem iv.refl (K:Kh) (κ:Addr->Int):iv K κ K κ:=fun _ σ e=>⟨Int.le_refl _,σ,e,eR.refl _ _⟩
theorem V.up {mv:MV} {kv:KV} (h:V FT K κ mv kv) (x:iv K κ K' κ'):V FT K' κ' mv kv:=by
  induction h with
  | bool b=>exact .bool b
  | int i=>exact .int i
  | aA=>exact .aA
  | vals=>exact .vals
  | pair _ _ h1 h2=>exact .pair h1 h2
  | fn f h h1 h2 h3 h4 h5 h6 h7 _ ih=>
    refine o8 (x _ _ h4) fun g1 σ' g2 g3=>?_
    exact .fn f h h1 h2 h3 g2 (fun n hn=>Int.le_trans (h5 n hn) g1) h6 (fun n hn=>g3 _ _ (h5 n hn) (h7 n hn)) ih
theorem V.plain {mv:MV} {kv:KV} (h:V FT K κ mv kv):kv.plain:=by
  induction h with
  | pair _ _ h1 h2=>exact ⟨h1,h2⟩
  | _=>trivial
theorem V.cut {mv:MV} {kv:KV} (h:V FT K κ mv kv):∀n,Mine.cut n mv=il n kv:=by
  induction h with
  | pair _ _ h1 h2=>
    intro n
    cases n with
    | zero=>rfl
    | succ n=>show Sh.pair _ _=Sh.pair _ _;rw [h1,h2]
  | _=>intro n;cases n<;>rfl
theorem V.isFalse {mv:MV} {kv:KV} (h:V FT K κ mv kv):Mine.isFalse mv=hA kv:=by cases h<;>rfl
noncomputable def hV (FT:Fi->Prop) (K:Kh) (κ:Addr->Int) (sc:List Int) (ρ:Int->Int) (σ:List (Int×MV)) (σk:aK) (c:Int):Prop:=∀n∈sc,ρ n≤c∧∃mv kv,ae σ n=some mv∧ae σk (ρ n)=some kv∧V FT K κ mv kv
theorem hV.up {sc:List Int} {ρ:Int->Int} {σ:List (Int×MV)} {σk σk':aK} {c:Int} (h:hV FT K κ sc ρ σ σk c) (x:iv K κ K' κ') (y:eR σk σk' c):hV FT K' κ' sc ρ σ σk' c:=
  fun n hn=>let ⟨h1,mv,kv,h2,h3,h4⟩:=h n hn;⟨h1,mv,kv,h2,y _ _ h1 h3,h4.up x⟩
theorem hV.weak {sc:List Int} {ρ:Int->Int} {σ:List (Int×MV)} {σk:aK} {c c':Int} (h:hV FT K κ sc ρ σ σk c) (hc:c≤c'):hV FT K κ sc ρ σ σk c':=fun n hn=>⟨Int.le_trans (h n hn).1 hc,(h n hn).2⟩
inductive VL (FT:Fi->Prop) (K:Kh) (κ:Addr->Int) (σk:aK) (c:Int):List Int->List MV->Prop
  | nil:VL FT K κ σk c [] []
  | cons {x:Int} {xs:List Int} {mv:MV} {kv:KV} {ms:List MV}:x≤c->ae σk x=some kv->V FT K κ mv kv->VL FT K κ σk c xs ms->VL FT K κ σk c (x::xs) (mv::ms)
theorem VL.up {σk σk':aK} {c:Int} {xs:List Int} {ms:List MV} (h:VL FT K κ σk c xs ms) (x:iv K κ K' κ') (y:eR σk σk' c):VL FT K' κ' σk' c xs ms:=by
  induction h with
  | nil=>exact .nil
  | cons h1 h2 h3 _ ih=>exact .cons h1 (y _ _ h1 h2) (h3.up x) ih
theorem VL.weak {σk:aK} {c c':Int} {xs:List Int} {ms:List MV} (h:VL FT K κ σk c xs ms) (hc:c≤c'):VL FT K κ σk c' xs ms:=by
  induction h with
  | nil=>exact .nil
  | cons h1 h2 h3 _ ih=>exact .cons (Int.le_trans h1 hc) h2 h3 ih
theorem VL.snoc {σk:aK} {c:Int} {xs:List Int} {ms:List MV} {x:Int} {mv:MV} {kv:KV} (h:VL FT K κ σk c xs ms) (h1:x≤c) (h2:ae σk x=some kv) (h3:V FT K κ mv kv):VL FT K κ σk c (xs++[x]) (ms++[mv]):=by
  induction h with
  | nil=>exact .cons h1 h2 h3 .nil
  | cons g1 g2 g3 _ ih=>exact .cons g1 g2 g3 ih
theorem VL.length {σk:aK} {c:Int} {xs:List Int} {ms:List MV} (h:VL FT K κ σk c xs ms):xs.length=ms.length:=by
  induction h with
  | nil=>rfl
  | cons _ _ _ _ ih=>simp [ih]
theorem VL.looked {σk:aK} {c:Int} {xs:List Int} {ms:List MV} (h:VL FT K κ σk c xs ms):∃vs,eQ σk xs vs∧(∀v∈vs,v.plain)∧vs.length=ms.length∧ms.map (Mine.cut 3)=vs.map (il 3)∧∀j (h1:j<ms.length) (h2:j<vs.length),V FT K κ ms[j] vs[j]:=by
  induction h with
  | nil=>exact ⟨[],Ba,fun _ h=>(by cases h),rfl,rfl,fun j h=>by simp at h⟩
  | @cons x xs mv kv ms h1 h2 h3 _ ih=>
    refine j2 ih ?_;clear ih;intro vs sS g3 g4 g5 g6;obtain ⟨g1,g2⟩:=sS
    refine ⟨kv::vs,⟨by simp [g1],fun i a b=>?_⟩,fun v hv=>?_,by simp [g4],by simp [g5,h3.cut],fun j a b=>?_⟩
    · cases i with
      | zero=>exact h2
      | succ i=>exact g2 i (by simpa using a) (by simpa using b)
    · rcases List.mem_cons.mp hv with q | q
      · rw [q];exact h3.plain
      · exact g3 v q
    · cases j with
      | zero=>exact h3
      | succ j=>exact g6 j (by simpa using a) (by simpa using b)
noncomputable def iF:Ds->Nat | .val ..=>1 | .cj ..=>1 | _=>0
inductive mf:Tm->Int->Nat->Prop
  | p1 {a:Tm}:mf (.p1 a) 8 1
  | p2 {a b:Tm}:mf (.p2 a b) 9 2
abbrev si:=MK->aK->Ds->Int->Nat->Prop
abbrev N7 (R R':si):Prop:=∀{k σk d c q},R k σk d c q->R' k σk d c q
section
variable (b:Bm) (FT:Fi->Prop) (sc:List Int) (ρ:Int->Int) (l:Int) (i:Nat) (x cx:Int)
inductive Xn (t2 t3:Tm) (d:Ds):Prop
  | mk {ly ln vy vn cy cn d1 d2}:cA b l i (.branch x ly ln)->cu b ly [] (-1) vy->cu b ln [] (-1) vn->cx≤cy->cx≤cn->Code b FT sc ρ t2 ly 0 cy d1->Code b FT sc ρ t3 ln 0 cn d2->Meet b cx d1 d->Meet b cx d2 d->Xn t2 t3 d
inductive SSet (s:Int) (d:Ds):Prop
  | mk {x' c'}:gq b l i (.set s x)->cx<x'->x'≤c'->gq b l (i+1) (.cst x' .aA)->fQ b x' l (i+2) c' d->SSet s d
inductive IB (todo:List Tm) (xs:List Int) (t:Tm) (op:Int) (n:Nat) (d:Ds):Prop
  | mk {l2 i2 c2 nI y c'}:dY b FT sc ρ todo l i cx l2 i2 c2 nI->c2<y->y≤c'->gq b l2 i2 (.prim y op (xs++x::nI))->fQ b y l2 (i2+1) c' d->mf t op (n+todo.length)->IB todo xs t op n d
inductive ID (todo:List Tm) (xs:List Int) (d:Ds):Prop
  | mk {l2 i2 c2 nI f args to var}:dY b FT sc ρ todo l i cx l2 i2 c2 nI->cA b l2 i2 (.call f args to var)->f::args=xs++x::nI->args.length≤2->hY b c2 to var d->ID todo xs d
inductive IC (todo:List Tm) (xs ps:List Int) (body:Tm) (d:Ds):Prop
  | mk {l2 i2 c2 nI} (ρ':Int->Int):dY b FT sc ρ todo l i cx l2 i2 c2 nI->ps.map ρ'=xs++x::nI->(∀n∈sc,ρ' n=ρ n)->(∀n∈sc,n∉ps)->ps.Nodup->ps.length≤2->Code b FT (sc++ps) ρ' body l2 i2 c2 d->IC todo xs ps body d
end
section
variable (b:Bm) (FT:Fi->Prop) (K:Kh) (κ:Addr->Int) (R:si)
inductive kH (σk:aK) (l:Int) (i:Nat) (x cx c:Int):MK->Nat->Prop
  | lR {a t2 t3 σ k sc ρ d q}:Xn b FT sc ρ l i x cx t2 t3 d->hV FT K κ sc ρ σ σk c->R k σk d c q->kH σk l i x cx c (.lR a t2 t3 σ k) (q+iF d)
  | iG {k la xp c' v q c0}:cA b l i (.gm la [x])->cu b la [xp] (-1) v->c0<xp->xp≤c'->c0≤c->R k σk (.val la 0 xp c') c0 q->kH σk l i x cx c k (q+1)
  | lA {s e σ k d q}:SSet b l i x cx s d->R k σk d c q->kH σk l i x cx c (.gM s e σ k) q
  | lB {s e σ k q}:gq b l i (.set s x)->R k σk (.cj l (i+1) cx) c q->kH σk l i x cx c (.gM s e σ k) q
  | prim {t op σ k todo dn sc ρ xs d q}:IB b FT sc ρ l i x cx todo xs t op (dn.length+1) d->hV FT K κ sc ρ σ σk c->VL FT K κ σk c xs dn->R k σk d c q->kH σk l i x cx c (.parts t σ k todo dn) q
  | call {tf as σ k todo dn sc ρ xs d q}:ID b FT sc ρ l i x cx todo xs d->hV FT K κ sc ρ σ σk c->VL FT K κ σk c xs dn->R k σk d c q->kH σk l i x cx c (.parts (.call tf as) σ k todo dn) (q+iF d)
  | lets {tf as σ k todo dn sc ρ xs lab ps body d q}:IC b FT sc ρ l i x cx todo xs ps body d->hV FT K κ sc ρ σ σk c->VL FT K κ σk c xs dn->R k σk d c q->kH σk l i x cx c (.parts (.call tf as) σ k todo (.fn lab ps body σ::dn)) q
inductive sI (σk:aK) (l:Int) (i:Nat) (cx c:Int):MK->Nat->Prop
  | jc {k la c' v q c0}:cA b l i (.gm la [])->cu b la [] (-1) v->c0≤c'->c0≤c->R k σk (.cj la 0 c') c0 q->sI σk l i cx c k (q+1)
  | gh {a t2 σ k sc ρ d q}:Code b FT sc ρ t2 l i cx d->hV FT K κ sc ρ σ σk c->R k σk d c q->sI σk l i cx c (.gh a t2 σ k) q
inductive zx (σk:aK) (y c:Int) (k:MK) (q:Nat):Prop
  | mk {kv}:ae σk y=some kv->0≤y->y≤c->R k [] (.back kv) 0 q->zx σk y c k q
inductive qd:KV->MK->Nat->Prop
  | stop:qd .stop .done 0
  | rM {k σk s la xp v c' q c0}:cu b la [xp] (-1) v->K s=some σk->c0≤κ s->c0<xp->xp≤c'->R k σk (.val la 0 xp c') c0 q->qd (.bu la s) k (q+1)
  | rN {k σk s la rest v c' q c0}:cu b la [] rest v->0≤rest->K s=some σk->c0≤κ s->c0≤c'->R k σk (.cj la 0 c') c0 q->qd (.bu la s) k (q+1)
noncomputable def xg (k:MK) (σk:aK) (d:Ds) (c:Int) (q:Nat):Prop:=match d with
  | .val l i x cx=>kH b FT K κ R σk l i x cx c k q
  | .cj l i cx=>sI b FT K κ R σk l i cx c k q
  | .tail y=>zx R σk y c k q
  | .back kv=>qd b K κ R kv k q
def KR (b:Bm) (FT:Fi->Prop) (K:Kh) (κ:Addr->Int) (k:MK) (σk:aK) (d:Ds) (c:Int) (q:Nat):Prop:=∀R:si,(∀{k σk d c c' q},xg b FT K κ R k σk d c q->c≤c'->R k σk d c' q)->R k σk d c q
end
section
variable {R R':si} {k:MK} {σk:aK} {d:Ds} {c c':Int} {q:Nat}
theorem kH.mono (r:N7 R R') {l:Int} {i:Nat} {x cx:Int} (h:kH b FT K κ R σk l i x cx c k q):kH b FT K κ R' σk l i x cx c k q:=by
  cases h with
  | lR h1 h2 h3=>exact .lR h1 h2 (r h3)
  | iG h1 h2 h3 h4 h5 h6=>exact .iG h1 h2 h3 h4 h5 (r h6)
  | lA h1 h2=>exact .lA h1 (r h2)
  | lB h1 h2=>exact .lB h1 (r h2)
  | prim h1 h2 h3 h4=>exact .prim h1 h2 h3 (r h4)
  | call h1 h2 h3 h4=>exact .call h1 h2 h3 (r h4)
  | lets h1 h2 h3 h4=>exact .lets h1 h2 h3 (r h4)
theorem xg.mono (r:N7 R R') (h:xg b FT K κ R k σk d c q):xg b FT K κ R' k σk d c q:=by
  cases d with
  | val l i x cx=>exact kH.mono r h
  | cj l i cx=>
    cases (h:sI b FT K κ R σk l i cx c k q) with
    | jc h1 h2 h3 h4 h5=>exact sI.jc h1 h2 h3 h4 (r h5)
    | gh h1 h2 h3=>exact sI.gh h1 h2 (r h3)
  | tail y=>
    cases (h:zx R σk y c k q) with
    | mk h1 h2 h3 h4=>exact zx.mk h1 h2 h3 (r h4)
  | back kv=>
    cases (h:qd b K κ R kv k q) with
    | stop=>exact qd.stop
    | rM h1 h2 h3 h4 h5 h6=>exact qd.rM h1 h2 h3 h4 h5 (r h6)
    | rN h1 h2 h3 h4 h5 h6=>exact qd.rN h1 h2 h3 h4 h5 (r h6)
theorem KR.w (h:xg b FT K κ (KR b FT K κ) k σk d c q) (hc:c≤c'):KR b FT K κ k σk d c' q:=fun R p=>p (h.mono fun g=>g R p) hc
theorem KR.o (h:KR b FT K κ k σk d c q):∃c1,xg b FT K κ (KR b FT K κ) k σk d c1 q∧c1≤c:=h (fun k σk d c q=>∃c1,xg b FT K κ (KR b FT K κ) k σk d c1 q∧c1≤c) fun g hc=>⟨_,g.mono fun z=>bq z fun _ g h=>.w g h,hc⟩
theorem KR.weak (h:KR b FT K κ k σk d c q) (hc:c≤c'):KR b FT K κ k σk d c' q:=bq h.o fun _ g h=>.w g (Int.le_trans h hc)
section
variable {l:Int} {i:Nat} {x cx:Int} {kv:KV}
theorem KR.wv (h:kH b FT K κ (KR b FT K κ) σk l i x cx c k q):KR b FT K κ k σk (.val l i x cx) c q:=.w h (Int.le_refl _)
theorem KR.we (h:sI b FT K κ (KR b FT K κ) σk l i cx c k q):KR b FT K κ k σk (.cj l i cx) c q:=.w h (Int.le_refl _)
theorem KR.wb (h:qd b K κ (KR b FT K κ) kv k q):KR b FT K κ k σk (.back kv) c q:=.w (c:=c) h (Int.le_refl _)
theorem KR.ov (h:KR b FT K κ k σk (.val l i x cx) c q):∃c1,kH b FT K κ (KR b FT K κ) σk l i x cx c1 k q∧c1≤c:=h.o
theorem KR.oe (h:KR b FT K κ k σk (.cj l i cx) c q):∃c1,sI b FT K κ (KR b FT K κ) σk l i cx c1 k q∧c1≤c:=h.o
theorem KR.ob (h:KR b FT K κ k σk (.back kv) c q):qd b K κ (KR b FT K κ) kv k q:=bq h.o fun _ g _=>g
theorem KR.ot {y:Int} {P:Prop} (h:KR b FT K κ k σk (.tail y) c q) (z:∀{kv},ae σk y=some kv->0≤y->y≤c->KR b FT K κ k [] (.back kv) 0 q->P):P:=bq h.o fun _ (g:zx (KR b FT K κ) σk y _ k q) hc=>g.casesOn fun a e f g=>z a e (Int.le_trans f hc) g
end
abbrev La (b:Bm) (FT:Fi->Prop) (K':Kh) (κ':Addr->Int):si:=fun k σk d c q=>∀{σk':aK},eR σk σk' c->KR b FT K' κ' k σk' d c q
theorem xg.up (h:xg b FT K κ (La b FT K' κ') k σk d c q) (x:iv K κ K' κ') {σk':aK} (y:eR σk σk' c):xg b FT K' κ' (KR b FT K' κ') k σk' d c q:=by
  cases d with
  | val l i _ cx=>
    cases (h:kH b FT K κ (La b FT K' κ') σk l i _ cx c k q) with
    | lR h1 h2 ih=>exact kH.lR h1 (h2.up x y) (ih y)
    | iG h1 h2 h3 h4 h5 ih=>exact kH.iG h1 h2 h3 h4 h5 (ih (y.le h5))
    | lA h1 ih=>exact kH.lA h1 (ih y)
    | lB h1 ih=>exact kH.lB h1 (ih y)
    | prim h1 h2 h3 ih=>exact kH.prim h1 (h2.up x y) (h3.up x y) (ih y)
    | call h1 h2 h3 ih=>exact kH.call h1 (h2.up x y) (h3.up x y) (ih y)
    | lets h1 h2 h3 ih=>exact kH.lets h1 (h2.up x y) (h3.up x y) (ih y)
  | cj l i cx=>
    cases (h:sI b FT K κ (La b FT K' κ') σk l i cx c k q) with
    | jc h1 h2 h3 h4 ih=>exact sI.jc h1 h2 h3 h4 (ih (y.le h4))
    | gh h1 h2 ih=>exact sI.gh h1 (h2.up x y) (ih y)
  | tail _=>
    cases (h:zx (La b FT K' κ') σk _ c k q) with
    | mk h1 h0 h2 ih=>exact zx.mk (y _ _ h2 h1) h0 h2 (ih (eR.refl _ _))
  | back kv=>
    cases (h:qd b K κ (La b FT K' κ') kv k q) with
    | stop=>exact qd.stop
    | rM h1 h2 h3 h4 h5 ih=>exact o8 (x _ _ h2) fun g1 σ' g2 g3=>qd.rM h1 g2 (Int.le_trans h3 g1) h4 h5 (ih (g3.le h3))
    | rN h1 h2 h3 h4 h5 ih=>exact o8 (x _ _ h3) fun g1 σ' g2 g3=>qd.rN h1 h2 g2 (Int.le_trans h4 g1) h5 (ih (g3.le h4))
theorem KR.up (h:KR b FT K κ k σk d c q) (x:iv K κ K' κ'):∀{σk':aK},eR σk σk' c->KR b FT K' κ' k σk' d c q:=
  h (La b FT K' κ') fun g hc=>fun y=>.w (g.up x (y.le hc)) hc
end
end Mine
end
section
namespace Mine
variable {C:Cx} {FT:Fi->Prop} {K K':Kh} {κ κ':Addr->Int} {b:Bm} {st:St}
noncomputable def iY (K:Kh) (s:Addr) (σ:aK):Kh:=fun a=>if a=s then some σ else K a
noncomputable def updκ (κ:Addr->Int) (s:Addr) (c:Int):Addr->Int:=fun a=>if a=s then c else κ a
structure Wd (FT:Fi->Prop) (G Lg s:Addr) (st:St) (K:Kh) (κ:Addr->Int) (g:bB) (gk:aK) (lg:Log) (σk:aK) (c:Int) (B:Nat):Prop where
  ks:∀a σ,K a=some σ->st a=some (.dict (eg σ))
  cur:K s=some σk
  κs:κ s≤c
  hG:st G=some (.dict (eg gk))
  hL:st Lg=some (.list (dW lg))
  nG:K G=none
  nL:K Lg=none
  GL:G≠Lg
  glob:∀n,(ae g n=none∧ae gk n=none)∨∃mv kv,ae g n=some mv∧ae gk n=some kv∧V FT K κ mv kv
  jR:∀a σ,K a=some σ->σ.length+4*B≤900
  oq:gk.length+4*B≤900
  rk:lg.length+4*B≤900
variable {G Lg s:Addr} {g:bB} {gk:aK} {lg:Log} {σk:aK} {c:Int} {B B':Nat}
theorem Wd.less (w:Wd FT G Lg s st K κ g gk lg σk c B) (h:B'≤B):Wd FT G Lg s st K κ g gk lg σk c B':=
  ⟨w.ks,w.cur,w.κs,w.hG,w.hL,w.nG,w.nL,w.GL,w.glob,fun a σ e=>by have:=w.jR a σ e;exact Z5 this h,by have:=w.oq;exact Z5 this h,by have:=w.rk;exact Z5 this h⟩
theorem Wd.later (w:Wd FT G Lg s st K κ g gk lg σk c B) {c':Int} (h:c≤c'):Wd FT G Lg s st K κ g gk lg σk c' B:=
  ⟨w.ks,w.cur,Int.le_trans w.κs h,w.hG,w.hL,w.nG,w.nL,w.GL,w.glob,w.jR,w.oq,w.rk⟩
theorem Wd.vq (w:Wd FT G Lg s st K κ g gk lg σk c B) (x:iv K κ K' κ'):∀n,(ae g n=none∧ae gk n=none)∨∃mv kv,ae g n=some mv∧ae gk n=some kv∧V FT K' κ' mv kv:=
  fun n=>(w.glob n).imp id fun ⟨mv,kv,h1,h2,h3⟩=>⟨mv,kv,h1,h2,h3.up x⟩
theorem Wd.sG (w:Wd FT G Lg s st K κ g gk lg σk c B):s≠G:=fun e=>by have:=w.cur;rw [e,w.nG] at this;injection this
theorem Wd.sL (w:Wd FT G Lg s st K κ g gk lg σk c B):s≠Lg:=fun e=>by have:=w.cur;rw [e,w.nL] at this;injection this
theorem Wd.O7 (w:Wd FT G Lg s st K κ g gk lg σk c B) {x c':Int} (v:KV) (h1:c<x) (h2:x≤c') (hB:B'≤B) (hz:σk.length+1+4*B'≤900) :
    Wd FT G Lg s (st.upd s (.dict (eg (putK σk x v)))) (iY K s (putK σk x v)) (updκ κ s c') g gk lg (putK σk x v) c' B'∧iv K κ (iY K s (putK σk x v)) (updκ κ s c'):=by
  have gr:iv K κ (iY K s (putK σk x v)) (updκ κ s c'):=fun a σ e=>by
    unfold iY updκ
    by_cases q:a=s
    · subst q
      rw [w.cur] at e;subst e
      have:=w.κs
      rw [if_pos rfl,if_pos rfl]
      exact ⟨by exact WK h1 h2 this,_,rfl,eR.put (by exact Int.lt_of_le_of_lt this h1)⟩
    · rw [if_neg q,if_neg q];exact ⟨Int.le_refl _,σ,e,eR.refl _ _⟩
  refine ⟨⟨fun a σ e=>?_,if_pos rfl,by unfold updκ;rw [if_pos rfl];exact Int.le_refl _,(Aw (Ne.symm w.sG)).trans w.hG,(Aw (Ne.symm w.sL)).trans w.hL,(if_neg (Ne.symm w.sG)).trans w.nG,(if_neg (Ne.symm w.sL)).trans w.nL,w.GL,w.vq gr,fun a σ e=>?_,by have:=w.oq;exact Z5 this hB,by have:=w.rk;exact Z5 this hB⟩,gr⟩
  · unfold iY at e
    split at e
    · rename_i q;subst q;subst e;exact aZ
    · rename_i q;exact (Aw q).trans (w.ks a σ e)
  · unfold iY at e
    split at e
    · subst e
      have h3:=AN σk x v
      exact R4 hz h3
    · have:=w.jR a σ e;exact Z5 this hB
theorem Wd.new (w:Wd FT G Lg s st K κ g gk lg σk c B) {D:Addr} {σ':aK} {c':Int} (hD:st D=none) (hz:σ'.length+4*B'≤900) (hB:B'≤B) :
    Wd FT G Lg D (st.upd D (.dict (eg σ'))) (iY K D σ') (updκ κ D c') g gk lg σ' c' B'∧iv K κ (iY K D σ') (updκ κ D c'):=by
  have ne:∀a σ,K a=some σ->a≠D:=fun a σ e q=>by have:=w.ks a σ e;rw [q,hD] at this;injection this
  have gr:iv K κ (iY K D σ') (updκ κ D c'):=fun a σ e=>by
    unfold iY updκ
    rw [if_neg (ne a σ e),if_neg (ne a σ e)];exact ⟨Int.le_refl _,σ,e,eR.refl _ _⟩
  have Wn:G≠D:=fun q=>by have:=w.hG;rw [q,hD] at this;injection this
  have Oz:Lg≠D:=fun q=>by have:=w.hL;rw [q,hD] at this;injection this
  refine ⟨⟨fun a σ e=>?_,if_pos rfl,by unfold updκ;rw [if_pos rfl];exact Int.le_refl _,(Aw Wn).trans w.hG,(Aw Oz).trans w.hL,(if_neg Wn).trans w.nG,(if_neg Oz).trans w.nL,w.GL,w.vq gr,fun a σ e=>?_,by have:=w.oq;exact Z5 this hB,by have:=w.rk;exact Z5 this hB⟩,gr⟩
  · unfold iY at e
    split at e
    · rename_i q;subst q;subst e;exact aZ
    · rename_i q;exact (Aw q).trans (w.ks a σ e)
  · unfold iY at e
    split at e
    · subst e;exact hz
    · have:=w.jR a σ e;exact Z5 this hB
theorem Wd.raise (w:Wd FT G Lg s st K κ g gk lg σk c B):Wd FT G Lg s st K (updκ κ s c) g gk lg σk c B∧iv K κ K (updκ κ s c):=by
  have gr:iv K κ K (updκ κ s c):=fun a σ e=>by
    unfold updκ
    by_cases q:a=s
    · subst q;rw [if_pos rfl];exact ⟨w.κs,σ,e,eR.refl _ _⟩
    · rw [if_neg q];exact ⟨Int.le_refl _,σ,e,eR.refl _ _⟩
  exact ⟨⟨w.ks,w.cur,by unfold updκ;rw [if_pos rfl];exact Int.le_refl _,w.hG,w.hL,w.nG,w.nL,w.GL,w.vq gr,w.jR,w.oq,w.rk⟩,gr⟩
abbrev Rs:=iJ×Log
inductive Of (b:Bm) (FT:Fi->Prop) (K:Kh) (κ:Addr->Int) (σk:aK) (c:Int) (g:bB) (lg:Log) (res:Rs) (m q:Nat) (l:Int) (i:Nat):Prop
  | go {t σ k sc ρ d}:Code b FT sc ρ t l i c d->hV FT K κ sc ρ σ σk c->KR b FT K κ k σk d c q->runM m (.go t σ k) g lg=some (some res)->Of b FT K κ σk c g lg res m q l i
  | val {mv kv k x}:KR b FT K κ k σk (.val l i x c) c q->x≤c->ae σk x=some kv->V FT K κ mv kv->runM m (.give [mv] k) g lg=some (some res)->Of b FT K κ σk c g lg res m q l i
  | cj {vs k}:KR b FT K κ k σk (.cj l i c) c q->runM m (.give vs k) g lg=some (some res)->Of b FT K κ σk c g lg res m q l i
inductive Ko (b:Bm) (FT:Fi->Prop) (res:Rs) (G Lg:Addr) (i:Nat) (l:Int) (s:Addr) (st:St):Prop
  | mk {K κ g gk lg σk c m q}:Wd FT G Lg s st K κ g gk lg σk c (m+q)->Of b FT K κ σk c g lg res m q l 0->m+q+i≤120->(∃k,b l=some k)->Ko b FT res G Lg i l s st
noncomputable def iW (b:Bm) (FT:Fi->Prop) (res:Rs) (G Lg:Addr) (i:Nat) (v:AV) (eJ:St):Prop:=
  (∃l' s',v=.tup [.int l',.ref s']∧Ko b FT res G Lg (i+1) l' s' eJ)∨(∃w vs lg,v=.tup (.str w::vs)∧eJ Lg=some (.list (dW lg))∧AV.lst [v,.lst (dW lg)]=n0 (some res))
theorem Cb (f:Cs) (l:Int):ae (progOf f) l=(ae f.blocks l).map (sy l):=by
  unfold progOf
  generalize f.blocks=bs
  induction bs with
  | nil=>rfl
  | cons e bs ih=>
    obtain ⟨x,v⟩:=e
    rw [List.map_cons,Am,Am,ih]
    by_cases q:x=l
    · subst q;simp
    · simp [q]
noncomputable def KW (C:Cx) (f:Cs) (FT:Fi->Prop) (res:Rs) (G Lg:Addr) (i:Nat) (l:Int) (k:Nat) (s:Addr) (st:St):Prop:=∀bk,ae (progOf f) l=some bk->zu C s G Lg (bk.ops.drop k) st (fun o dG=>match o with
  | some j=>∃lg,dG Lg=some (.list (dW lg))∧AV.lst [.tup [.str .aV,.str .dH,.int j],.lst (dW lg)]=n0 (some res)
  | none=>Fn C 10 (C.fa .bh) (cR (progOf f) f.entry s bk.last) dG (iW (bm f) FT res G Lg i))
variable {f:Cs} {res:Rs} {i k:Nat} {l:Int}
theorem KW.op {op:KO} (h:gq (bm f) l k op) (w:Fn C 8 (C.fa .bC) (gR op s G Lg) st (fun v ag=>(v=.bool true∧KW C f FT res G Lg i l (k+1) s ag)∨
    (v=.bool false∧∃lg,ag Lg=some (.list (dW lg))∧AV.lst [.tup [.str .aV,.str .dH,.int (uQ op)],.lst (dW lg)]=n0 (some res)))):KW C f FT res G Lg i l k s st:=by
  intro bk hb
  refine bq h ?_;clear h;intro kp h1 h2
  rw [Cb,show ae f.blocks l=some kp from h1] at hb
  subst hb
  have h3:(sy l kp).ops.drop k=op::(sy l kp).ops.drop (k+1):=by
    refine xE (List.getElem?_eq_some_iff.mp h2) fun hl he=>?_
    show kp.ops.drop k=op::kp.ops.drop (k+1)
    rw [List.drop_eq_getElem_cons hl,he]
  rw [h3]
  refine w.mono fun v ag hv=>?_
  rcases hv with ⟨e,hk⟩ | ⟨e,lg,h4,h5⟩
  · exact .inl ⟨e,hk _ (by rw [Cb,show ae f.blocks l=some kp from h1];rfl)⟩
  · exact .inr ⟨e,lg,h4,h5⟩
theorem KW.last {la:KL} (h:cA (bm f) l k la) (w:Fn C 10 (C.fa .bh) (cR (progOf f) f.entry s la) st (iW (bm f) FT res G Lg i)):KW C f FT res G Lg i l k s st:=by
  intro bk hb
  refine dR h ?_;clear h;intro kp h1 h2 h3
  rw [Cb,show ae f.blocks l=some kp from h1] at hb
  subst hb
  have h4:(sy l kp).ops.drop k=[]:=List.drop_eq_nil_iff.mpr (by show kp.ops.length≤k;exact Nat.le_of_eq h2)
  have h5:(sy l kp).last=la:=by show kp.last.getD _=la;rw [h3];rfl
  rw [h4]
  show Fn C 10 _ _ _ _
  rw [h5];exact w
theorem cu.prog {ps:List Int} {rest var:Int} (h:cu (bm f) l ps rest var):∃bk,ae (progOf f) l=some bk∧bk.params=ps∧bk.rest=rest∧bk.var=var∧∃k,bm f l=some k:=by
  refine gx h ?_;clear h;intro kp h1 h2 h3 h4
  exact ⟨sy l kp,by rw [Cb,show ae f.blocks l=some kp from h1];rfl,h2,h3,h4,kp,h1⟩
theorem xO {m:Nat} {now:MS} (h:runM m now g lg=some (some res)):∃m',m=m'+1:=by
  cases m with
  | zero=>subst h
  | succ m=>exact ⟨m,rfl⟩
theorem CM {m:Nat} {now:MS} {x:iJ ⊕ (MS×bB×Log)} (h:runM (m+1) now g lg=some (some res)) (e:ix g lg now=some x):match x with
    | .inl y=>res=(y,lg)
    | .inr (now',g',lg')=>runM m now' g' lg'=some (some res):=by
  unfold runM at h
  rw [e] at h
  cases x with
  | inl y=>subst h;rfl
  | inr z=>exact h
theorem CN {m:Nat} {w:Nm} {j:Int} (h:runM m (.refused w j) g lg=some (some res)):res=(.refused w j,lg):=by
  refine xE (xO h) fun m' mE=>?_;subst mE
  exact CM (x:=.inl (.refused w j)) h rfl
theorem Gx {m:Nat} {now:MS} (h:runM (m+1) now g lg=some (some res)) (e:ix g lg now=none):False:=by
  unfold runM at h;rw [e] at h;injection h
theorem D4 {vs:List MV}:ix g lg (.give vs .done)=if vs.length≤1000 then some (.inl (.told (vs.map (Mine.cut 3)))) else none:=rfl
theorem D3 {vs:List MV} {k:MK} (hk:k≠.done):ix g lg (.give vs k)=(fu g lg vs k).map .inr:=by cases k<;>first | rfl | exact absurd rfl hk
theorem EO {m:Nat} {vs:List MV} {k:MK} (hk:k≠.done) (h:runM (m+1) (.give vs k) g lg=some (some res)):∃now g' lg',fu g lg vs k=some (now,g',lg')∧runM m now g' lg'=some (some res):=by
  cases e:fu g lg vs k with
  | none=>exact (Gx h (by rw [D3 hk,e];rfl)).elim
  | some x=>
    obtain ⟨now,g',lg'⟩:=x
    exact ⟨now,g',lg',rfl,CM (x:=.inr (now,g',lg')) h (by rw [D3 hk,e];rfl)⟩
theorem ye {α:Type} {vs:List MV} {f:MV->Option α} {e:Nat->α} {y:α} (hv:vs.length≠1) (h:one vs f e=some y):e vs.length=y:=
  EQ (P:=fun vs=>vs.length≠1->e vs.length=y) h (fun _ _ h=>absurd rfl h) (fun _ _ e _=>e) hv
@[elab_as_elim] theorem zQ {now:MS} {P:Nat->Prop} {m:Nat} (h:runM m now g lg=some (some res)) (k:∀m',runM (m'+1) now g lg=some (some res)->P (m'+1)):P m:=by
  cases m with
  | zero=>exact nomatch h
  | succ m=>exact k m h
theorem xS {k:MK} {vs:List MV} {m:Nat} (hk:k≠.done) (h0:∀{y},fu g lg vs k=some y->tL g lg vs.length=y) (hr:runM m (.give vs k) g lg=some (some res)):res=(.refused .ai vs.length,lg):=
  zQ hr fun m hr=>fR (EO hk hr) fun now g' lg' e1 e2=>by
    cases h0 e1
    exact CN e2
abbrev Km (g:bB) (lg:Log) (res:Rs):si:=fun k _ d _ _=>match d with
  | .val ..=>∀{vs:List MV} {m:Nat},vs.length≠1->runM m (.give vs k) g lg=some (some res)->res=(.refused .ai vs.length,lg)
  | _=>True
theorem kH.refuse {k:MK} {q:Nat} {l:Int} {i:Nat} {x cx:Int} (h:kH b FT K κ (Km g lg res) σk l i x cx c k q) {vs:List MV} {m:Nat} (hv:vs.length≠1):runM m (.give vs k) g lg=some (some res)->res=(.refused .ai vs.length,lg):=by
  cases h with
  | iG _ _ _ _ _ ih=>exact ih hv
  | _=>exact xS MK.noConfusion (ye hv)
theorem KR.refuse {k:MK} {q:Nat} {l:Int} {i:Nat} {x cx:Int} (h:KR b FT K κ k σk (.val l i x cx) c q) {vs:List MV} {m:Nat} (hv:vs.length≠1) (hr:runM m (.give vs k) g lg=some (some res)):res=(.refused .ai vs.length,lg):=
  (h (Km g lg res) (fun {k σk d c c' q} h _=>by
    cases d with
    | val l i x cx=>exact fun {_ _}=>kH.refuse h
    | _=>trivial):Km g lg res k σk (.val l i x cx) c q) hv hr
end Mine
end
section
namespace Mine
variable {C:Cx} {FT:Fi->Prop} {K K':Kh} {κ κ':Addr->Int} {st:St} {G Lg s:Addr} {g:bB} {gk:aK} {lg:Log} {σk:aK} {c:Int} {B B':Nat} {f:Cs} {res:Rs} {i k m q:Nat} {l:Int}
structure VP (FT:Fi->Prop) (K:Kh) (κ:Addr->Int) (ms:List MV) (vs:List KV):Prop where
  len:vs.length=ms.length
  at_:∀j (h1:j<ms.length) (h2:j<vs.length),V FT K κ ms[j] vs[j]
theorem VP.one {mv:MV} {kv:KV} (h:V FT K κ mv kv):VP FT K κ [mv] [kv]:=⟨rfl,fun j h1 _=>by
  have:j=0:=by simpa using h1
  subst this;exact h⟩
theorem VP.plain {ms:List MV} {vs:List KV} (h:VP FT K κ ms vs):∀v∈vs,v.plain:=fun v hv=>by
  obtain ⟨j,hj,e⟩:=List.mem_iff_getElem.mp hv
  rw [←e];exact (h.at_ j (by have:=h.len;exact Z7 hj this) hj).plain
theorem VP.cut {ms:List MV} {vs:List KV} (h:VP FT K κ ms vs):ms.map (Mine.cut 3)=vs.map (il 3):=by
  refine List.ext_getElem (by simp [h.len]) fun j h1 h2=>?_
  rw [List.getElem_map,List.getElem_map]
  exact (h.at_ j (by simpa using h1) (by simpa using h2)).cut 3
theorem VP.head {mv:MV} {ms:List MV} {kv:KV} {vs:List KV} (h:VP FT K κ (mv::ms) (kv::vs)):V FT K κ mv kv:=h.at_ 0 (by simp) (by simp)
theorem GV {xp la v c' c0:Int} {s0:Addr} {σ0:aK} {k0:MK} {ms:List MV} {vs:List KV} (w:Wd FT G Lg s st K κ g gk lg σk c B) (hb:cu (bm f) la [xp] (-1) v) (h0:K s0=some σ0) (h1:c0<xp) (h2:xp≤c') (hk:KR (bm f) FT K κ k0 σ0 (.val la 0 xp c') c0 q) (hv:VP FT K κ ms vs)
    (hr:runM m (.give ms k0) g lg=some (some res)) (hB:m+q+1≤B) (hi:m+q+1+i≤120):∃bk,nz (progOf f) la s0 vs st (iW (bm f) FT res G Lg i) bk σ0:=by
  refine j2 hb.prog fun bk e1 e2 e3 e4 e5=>?_
  have hz:=w.jR _ _ h0
  refine ⟨bk,e1,w.ks _ _ h0,by rw [e2];simp;exact RZ hz,fun _ hE D hD=>?_,fun he D hD=>?_⟩
  · have Oz:Lg≠D:=fun q=>by have:=w.hL;rw [q,hD] at this;injection this
    refine .inr ⟨_,_,lg,rfl,(Aw Oz).trans w.hL,?_⟩
    have:=hk.refuse (fun e=>hE (by rw [e2,hv.len,e];rfl)) hr
    rw [this]
    show _=AV.lst [.tup [.str .aV,.str .ai,.int ms.length],.lst (dW lg)]
    rw [hv.len]
  · have hl:vs.length=1:=by have:=he (by rw [e3];decide);rw [e2] at this;exact this.symm
    match ms,vs,hv,hl with
    | [mv],[kv],hv,_=>
      have e6:gz σ0 (bk.params.zip [kv])=putK σ0 xp kv:=by rw [e2];rfl
      rw [e6]
      have Yi:=AN σ0 xp kv
      refine xA (w.new (B':=m+q) (σ':=putK σ0 xp kv) (c':=c') hD (by exact RY hz hB Yi) (by exact Nat.le_of_lt hB)) fun w1 gr=>?_
      refine .inl ⟨la,D,rfl,w1,.val (mv:=mv) (kv:=kv) (x:=xp) ((hk.up gr (eR.put h1)).weak (by exact Z9 h1 h2)) h2 (by rw [Af,if_pos rfl]) (hv.head.up gr) hr,by exact WJ hi,e5⟩
    | [],[_],hv,_=>exact absurd hv.len (by simp)
    | _::_::_,[_],hv,_=>exact absurd hv.len (by simp)
theorem GW {la rest v c' c0:Int} {s0:Addr} {σ0:aK} {k0:MK} {ms:List MV} {vs:List KV} (w:Wd FT G Lg s st K κ g gk lg σk c B) (hb:cu (bm f) la [] rest v) (MB:rest<0->vs=[]) (h0:K s0=some σ0) (h1:c0≤c') (hk:KR (bm f) FT K κ k0 σ0 (.cj la 0 c') c0 q)
    (hr:runM m (.give ms k0) g lg=some (some res)) (hB:m+q+1≤B) (hi:m+q+1+i≤120):∃bk,nz (progOf f) la s0 vs st (iW (bm f) FT res G Lg i) bk σ0:=by
  refine j2 hb.prog fun bk e1 e2 e3 e4 e5=>?_
  have hz:=w.jR _ _ h0
  refine ⟨bk,e1,w.ks _ _ h0,by rw [e2];simp;exact wB hz,fun hn hE D hD=>absurd (by rw [e2,MB (by rw [←e3];exact hn)];rfl) hE,fun he D hD=>?_⟩
  have e6:gz σ0 (bk.params.zip vs)=σ0:=by rw [e2];rfl
  rw [e6]
  refine xA (w.new (B':=m+q) (σ':=σ0) (c':=c') hD (by exact RX hz hB) (by exact Nat.le_of_lt hB)) fun w1 gr=>?_
  exact .inl ⟨la,D,rfl,w1,.cj ((hk.up gr (eR.refl _ _)).weak h1) hr,by exact WJ hi,e5⟩
theorem Fe {back:KV} {k0:MK} {ms:List MV} {vs:List KV} (w:Wd FT G Lg s st K κ g gk lg σk c B) (hv:VP FT K κ ms vs) (hk:qd (bm f) K κ (KR (bm f) FT K κ) back k0 q):runM m (.give ms k0) g lg=some (some res)->m+q≤B->m+q+i≤120 →
    (back=.stop∧(∀v∈vs,v.plain)∧iW (bm f) FT res G Lg i (.tup [.str .bE,.lst ((vs.map (il 3)).map jY)]) st)∨∃l s' b σ',back=.bu l s'∧nz (progOf f) l s' vs st (iW (bm f) FT res G Lg i) b σ':=by
  cases hk with
  | stop=>
    intro hr _ _
    refine .inl ⟨rfl,hv.plain,.inr ⟨_,_,lg,rfl,w.hL,?_⟩⟩
    refine zQ hr fun m' hr=>?_
    by_cases hz:ms.length≤1000
    · have:res=(.told (ms.map (Mine.cut 3)),lg):=CM (x:=.inl (.told (ms.map (Mine.cut 3)))) hr (by rw [D4,if_pos hz])
      rw [this,hv.cut];rfl
    · exact (Gx hr (by rw [D4,if_neg hz])).elim
  | rM h1 h2 h3 h4 h5 h6=>exact fun hr hB hi=>xE (GV w h1 h2 h4 h5 h6 hv hr hB hi) fun bk hI=>.inr ⟨_,_,bk,_,rfl,hI⟩
  | rN h1 h2 h3 h4 h5 h6=>exact fun hr hB hi=>xE (GW (vs:=vs) w h1 (fun e=>absurd e (Int.not_lt.mpr h2)) h3 h5 h6 hr hB hi) fun bk hI=>.inr ⟨_,_,bk,_,rfl,hI⟩
def Sm (C:Cx) (f:Cs) (FT:Fi->Prop) (res:Rs) (G Lg:Addr) (i m:Nat):Prop:=∀⦃K:Kh⦄ ⦃κ:Addr->Int⦄ ⦃st:St⦄ ⦃s:Addr⦄ ⦃g:bB⦄ ⦃gk:aK⦄ ⦃lg:Log⦄ ⦃σk:aK⦄ ⦃c:Int⦄ ⦃q:Nat⦄ ⦃l:Int⦄ ⦃k:Nat⦄,
  Of (bm f) FT K κ σk c g lg res m q l k->Wd FT G Lg s st K κ g gk lg σk c (m+q)->m+q+i≤120->KW C f FT res G Lg i l k s st
theorem fQ.v {b:Bm} {x l l' x' c c':Int} {i i':Nat} (h:fQ b x l i c (.val l' i' x' c')):Ds.val l' i' x' c'=.val l i x c:=by
  cases h.1;cases h.2.1;cases h.2.2.1;cases h.2.2.2;rfl
theorem fQ.e {b:Bm} {x l l' c c':Int} {i i':Nat} (h:fQ b x l i c (.cj l' i' c')):Ds.cj l' i' c'=.cj l i c:=by
  cases h.1;cases h.2.1;cases h.2.2;rfl
theorem qv {x:Int} {mv:MV} {kv:KV} {k0:MK} {d:Ds} (H:Sm C f FT res G Lg i m)
    (w:Wd FT G Lg s st K κ g gk lg σk c (m+q)) (hi:m+q+i≤120) (hf:fQ (bm f) x l k c d) (hx:x≤c) (hg:ae σk x=some kv) (hv:V FT K κ mv kv) (hk:KR (bm f) FT K κ k0 σk d c q) (hr:runM m (.give [mv] k0) g lg=some (some res)):KW C f FT res G Lg i l k s st:=by
  cases d with
  | val l' i' x' c'=>exact H (.val (hf.v▸hk) hx hg hv hr) w hi
  | cj l' i' c'=>exact H (.cj (hf.e▸hk) hr) w hi
  | tail y=>exact hk.ot fun h1 hy h2 h3=>KW.last hf (Fn.cU 7 (aw rfl) (rn (r:=0) (w.ks _ _ w.cur) (DJ hg) (aw rfl) hy h1 (Fe w (.one hv) h3.ob hr (Nat.le_refl _) hi)))
  | back v=>exact hf.elim
theorem Gz {x c':Int} {mv:MV} {kv:KV} {k0:MK} {d:Ds} (H:Sm C f FT res G Lg i m) (w:Wd FT G Lg s st K κ g gk lg σk c B) (hB:m+q≤B) (hz:σk.length+1+4*(m+q)≤900) (hi:m+q+i≤120) (h1:c<x) (h2:x≤c') (hf:fQ (bm f) x l k c' d)
    (hv:iv K κ (iY K s (putK σk x kv)) (updκ κ s c')->V FT (iY K s (putK σk x kv)) (updκ κ s c') mv kv) (hk:KR (bm f) FT K κ k0 σk d c q) (hr:runM m (.give [mv] k0) g lg=some (some res)):KW C f FT res G Lg i l k s (st.upd s (.dict (eg (putK σk x kv)))):=
  xA (w.O7 kv h1 h2 hB hz) fun w2 gr=>qv H w2 hi hf h2 ((Af ..).trans (if_pos rfl)) (hv gr) ((hk.up gr (eR.put h1)).weak (Z9 h1 h2)) hr
theorem DE {x c':Int} {mv:MV} {kv:KV} {k0:MK} {d:Ds} (H:Sm C f FT res G Lg i m) (w:Wd FT G Lg s st K κ g gk lg σk c B) (hB:m+q+1≤B) (hi:m+q+i≤120) (h1:c<x) (h2:x≤c') (hf:fQ (bm f) x l k c' d)
    (hv:iv K κ (iY K s (putK σk x kv)) (updκ κ s c')->V FT (iY K s (putK σk x kv)) (updκ κ s c') mv kv) (hk:KR (bm f) FT K κ k0 σk d c q) (hr:runM m (.give [mv] k0) g lg=some (some res)):KW C f FT res G Lg i l k s (st.upd s (.dict (eg (putK σk x kv)))):=
  Gz H w (Nat.le_of_lt hB) (QU hB (w.jR _ _ w.cur)) hi h1 h2 hf hv hk hr
theorem H7 {d1 d:Ds} {cx c0 cy:Int} {k0:MK} (h:Meet (bm f) cx d1 d):KR (bm f) FT K κ k0 σk d c0 q->c0≤cx->cx≤cy->KR (bm f) FT K κ k0 σk d1 cy (q+iF d):=by
  cases h with
  | tail=>exact fun hk h0 h1=>hk.weak (Int.le_trans h0 h1)
  | val g1 g2 g3 g4=>exact fun hk h0 h1=>.wv (.iG g1 g2 (Int.lt_of_le_of_lt h0 g3) g4 (Int.le_trans h0 h1) hk)
  | cj g1 g2 g3=>exact fun hk h0 h1=>.we (.jc g1 g2 (Int.le_trans h0 g3) (Int.le_trans h0 h1) hk)
end Mine
end
section
namespace Mine
variable {C:Cx} {FT:Fi->Prop} {K K':Kh} {κ κ':Addr->Int} {st:St} {G Lg s:Addr} {g:bB} {gk:aK} {lg:Log} {σk:aK} {c:Int} {B B':Nat} {f:Cs} {res:Rs} {i k m q:Nat} {l:Int}
theorem CB {β:Type}:∀(ps:List Int) (vs:List β) (σ:List (Int×β)),ps.Nodup->ps.length=vs.length->(∀n,n∉ps->ae ((ps.zip vs).foldl (fun σ kv=>putK σ kv.1 kv.2) σ) n=ae σ n)∧
    ∀j (h1:j<ps.length) (h2:j<vs.length),ae ((ps.zip vs).foldl (fun σ kv=>putK σ kv.1 kv.2) σ) ps[j]=some vs[j]
  | [],_,σ,_,_=>⟨fun _ _=>rfl,fun j h=>by simp at h⟩
  | p::ps,[],σ,_,hl=>by simp at hl
  | p::ps,v::vs,σ,hn,hl=>by
    rw [List.nodup_cons] at hn
    refine xA (CB ps vs (putK σ p v) hn.2 (by simpa using hl)) fun h1 h2=>?_
    refine ⟨fun n hx=>?_,fun j a b=>?_⟩
    · rw [List.mem_cons,not_or] at hx
      rw [List.zip_cons_cons,List.foldl_cons,h1 n hx.2,Af,if_neg hx.1]
    · rw [List.zip_cons_cons,List.foldl_cons]
      cases j with
      | zero=>
        show ae _ p=some v
        rw [h1 p hn.1,Af,if_pos rfl]
      | succ j=>exact h2 j (by simpa using a) (by simpa using b)
theorem BW {β:Type}:∀(l:List (Int×β)) (σ:List (Int×β)),(l.foldl (fun σ kv=>putK σ kv.1 kv.2) σ).length≤σ.length+l.length
  | [],σ=>Nat.le_refl _
  | kv::l,σ=>by
    have:=BW l (putK σ kv.1 kv.2)
    have h2:=AN σ kv.1 kv.2
    rw [List.foldl_cons,List.length_cons];exact Ut h2 this
inductive Back (FT:Fi->Prop) (G Lg s:Addr) (st:St) (K:Kh) (κ:Addr->Int) (g:bB) (gk:aK) (lg:Log) (σk:aK) (c:Int) (B:Nat) (f:Cs) (to var:Int) (k0:MK) (q:Nat):Prop
  | mk {κ' back}:Wd FT G Lg s st K κ' g gk lg σk c B->iv K κ K κ'->mn σk s to var back->KR (bm f) FT K κ' k0 [] (.back back) 0 q->Back FT G Lg s st K κ g gk lg σk c B f to var k0 q
theorem zg {to var:Int} {d:Ds} {k0:MK} (w:Wd FT G Lg s st K κ g gk lg σk c B) (h:hY (bm f) c to var d):KR (bm f) FT K κ k0 σk d c q->Back FT G Lg s st K κ g gk lg σk c B f to var k0 (q+iF d):=by
  cases h with
  | tail h1 h2 h3=>exact fun hk=>hk.ot fun g1 g0 g2 g3=>.mk w (iv.refl _ _) (.inl ⟨RW h3 h2,by rw [h2];exact g1⟩) g3
  | val h1 h2 h3 h4=>exact fun hk=>xA w.raise fun w' gr=>.mk w' gr (.inr ⟨WH h1,rfl⟩) (.wb (.rM h2 w.cur (by unfold updκ;rw [if_pos rfl];exact Int.le_refl _) h3 h4 (hk.up gr (eR.refl _ _))))
  | cj h1 h2 h3 h4=>exact fun hk=>xA w.raise fun w' gr=>.mk w' gr (.inr ⟨WH h1,rfl⟩) (.wb (.rN h2 h3 w.cur (by unfold updκ;rw [if_pos rfl];exact Int.le_refl _) h4 (hk.up gr (eR.refl _ _))))
theorem ze (fH:∀fi,FT fi->oX (bm f) FT fi) {tf:Tm} {as:List Tm} {fx to var:Int} {args:List Int} {all:List MV} {d:Ds} {k0:MK} (w:Wd FT G Lg s st K κ g gk lg σk c (m+1+(q+iF d))) (hi:m+1+(q+iF d)+i≤120)
    (hl:cA (bm f) l k (.call fx args to var)) (hv:VL FT K κ σk c (fx::args) all) (ha:args.length≤2) (hc:hY (bm f) c to var d) (hk:KR (bm f) FT K κ k0 σk d c q)
    {now:MS} (ht:fg (.call tf as) k0 all=some now) (hr:runM m now g lg=some (some res)):KW C f FT res G Lg i l k s st:=by
  refine (zg w hc hk).casesOn fun {κ' back} w' gr Qi Wb=>?_
  have Mz:=w.ks _ _ w.cur
  cases hv with
  | @cons _ _ fv kv ms PG sA PF VW=>
  refine j2 VW.looked fun vs lk pl ln ct vv=>?_
  have hlen:=VW.length
  have ZU:VP FT K κ ms vs:=⟨ln,vv⟩
  have PK:VP FT K κ' ms vs:=⟨ln,fun j a b=>(vv j a b).up gr⟩
  have YF:¬1000<ms.length:=by exact ZM hlen ha
  have ht:oH k0 ms fv=some now:=(if_pos (Nat.not_lt.mp YF)).symm.trans ht
  have nf:(∃b,kv=.bool b)∨(∃i,kv=.int i)∨kv=.aA∨(∃a b,kv=.pair a b)->now=.refused .bW 0->KW C f FT res G Lg i l k s st:=fun hn e=>by
    subst e
    refine KW.last hl (Fn.cU 1 (by exact aw rfl) (GN (r:=0) Mz lk (by exact Zl ha rfl) Qi sA hn (.inr ⟨_,_,lg,rfl,w.hL,?_⟩)))
    rw [CN hr];rfl
  cases PF with
  | bool b=>exact nf (.inl ⟨b,rfl⟩) (Option.some.inj ht).symm
  | int j=>exact nf (.inr (.inl ⟨j,rfl⟩)) (Option.some.inj ht).symm
  | aA=>exact nf (.inr (.inr (.inl rfl))) (Option.some.inj ht).symm
  | pair=>exact nf (.inr (.inr (.inr ⟨_,_,rfl⟩))) (Option.some.inj ht).symm
  | vals=>
    cases Option.some.inj ht
    exact KW.last hl (Fn.cU 7 (by exact aw rfl) (rm (r:=0) Mz lk (by exact Zl ha rfl) Qi sA (Fe w' PK Wb.ob hr Xm (ZL hi))))
  | @fn _ ps body σ fi s' σ' ff hh h1 h2 h3 h4 h5 h6 h7 h8=>
    have F:=fH fi h1
    refine j2 F.bu.prog fun bk e1 e2 e3 e4 e5=>?_
    have PO:=w.ks _ _ h4
    have hz:=w.jR _ _ h4
    have Jv:=F.len
    subst h2;subst h3
    have ht:JL k0 fi.ps _ σ ms=some now:=ht
    unfold JL at ht
    refine KW.last hl (Fn.cU 5 (by exact aw rfl) (yr (r:=0) Mz lk (by exact Zl ha rfl) Qi sA e1 PO (by rw [e2];exact RV hz Jv) (fun hE=>?_) (fun he D hD=>?_)))
    · rw [e2,ln] at hE
      rw [if_neg hE,if_pos (by exact Zl Jv rfl)] at ht
      subst ht
      refine .inr ⟨_,_,lg,rfl,w.hL,?_⟩
      rw [CN hr,ln];rfl
    · rw [e2,ln] at he
      rw [if_pos he] at ht
      split at ht
      · subst ht
        have jr:fi.ps.length=vs.length:=by exact (he).trans (ln).symm
        refine xA (CB fi.ps ms σ F.nodup he) fun p1 p2=>?_
        refine xA (CB fi.ps vs σ' F.nodup jr) fun k1 k2=>?_
        refine dR F.code fun cb c1 c2 c3=>?_
        have PR:bk.params.zip vs=fi.ps.zip vs:=by rw [e2]
        rw [PR,e4]
        have KY:=BW (fi.ps.zip vs) σ'
        have PC:=AN (gz σ' (fi.ps.zip vs)) fi.y back
        have Ms:(fi.ps.zip vs).length≤2:=by rw [List.length_zip];exact RU he Jv ln
        have PB:(gz σ' (fi.ps.zip vs)).length≤σ'.length+(fi.ps.zip vs).length:=KY
        refine xA (w'.new (B':=m+(q+iF d)) (σ':=putK (gz σ' (fi.ps.zip vs)) fi.y back) (c':=cb) hD (by exact RT hz Ms PB PC) (by exact Xm)) fun w2 Qs=>?_
        refine .inl ⟨fi.lab,D,rfl,w2,.go c3 (fun n hn=>⟨c1 n hn,?_⟩) (.w (c:=cb) (zx.mk (by rw [Af,if_pos rfl]) F.y.2 c2 (Wb.up Qs (eR.refl _ _))) (Int.le_refl _)) hr,by exact ZP hi,e5⟩
        rcases List.mem_append.mp hn with hn | hn
        · refine ⟨ff n,hh n,?_,?_,((h8 n hn).up gr).up Qs⟩
          · rw [show putL σ (fi.ps.zip ms)=_ from rfl]
            exact (p1 n (F.nq n hn)).trans (h6 n hn)
          · rw [Af,if_neg (F.out n hn).2]
            exact (k1 _ (F.out n hn).1).trans (h7 n hn)
        · obtain ⟨j,hj,e⟩:=List.mem_iff_getElem.mp hn
          have MN:j<ms.length:=by exact Z7 hj he
          have Jy:j<vs.length:=by exact WG hj he ln
          refine ⟨ms[j],vs[j],?_,?_,((vv j MN Jy).up gr).up Qs⟩
          · rw [←e];exact p2 j hj MN
          · rw [F.ps n hn,Af,if_neg (show ¬n=fi.y from fun e'=>F.y.1 (by rw [←e'];exact hn)),←e];exact k2 j hj Jy
      · injection ht
end Mine
end
section
namespace Mine
variable {C:Cx} {FT:Fi->Prop} {K K':Kh} {κ κ':Addr->Int} {st:St} {G Lg s:Addr} {g:bB} {gk:aK} {lg:Log} {σk:aK} {c:Int} {B B':Nat} {f:Cs} {res:Rs} {i k m q:Nat} {l:Int}
theorem Wd.set (w:Wd FT G Lg s st K κ g gk lg σk c B) {n:Int} {mv:MV} {kv:KV} (hv:V FT K κ mv kv) (hB:B'+1≤B) :
    Wd FT G Lg s ((st.upd G (.dict (eg (putK gk n kv)))).upd Lg (.list (dW (lg++[(n,il 3 kv)])))) K κ (putK g n mv) (putK gk n kv) (lg++[(n,cut 3 mv)]) σk c B':=by
  have l2:=w.oq
  have l3:=w.rk
  have l4:=AN gk n kv
  refine ⟨fun a σ e=>?_,w.cur,w.κs,(Aw w.GL).trans aZ,by rw [hv.cut];exact aZ,w.nG,w.nL,w.GL,fun j=>?_,fun a σ e=>by have:=w.jR a σ e;exact RS hB this,by exact RQ hB l2 l4,by simp;exact QU hB l3⟩
  · have h1:a≠Lg:=fun q=>by rw [q,w.nL] at e;injection e
    have h2:a≠G:=fun q=>by rw [q,w.nG] at e;injection e
    exact (Aw h1).trans ((Aw h2).trans (w.ks a σ e))
  · rw [Af,Af]
    by_cases e:j=n
    · rw [if_pos e,if_pos e];exact .inr ⟨mv,kv,rfl,rfl,hv⟩
    · rw [if_neg e,if_neg e];exact w.glob j
theorem DI (d:Ds):iF d≤1:=by cases d<;>simp [iF]
theorem Nz {kk:qO}:V FT K κ kk.V (CV.V (.c kk)):=by cases kk with | t=>exact .bool true | f=>exact .bool false | mB=>exact .int 5
theorem dY.length {b:Bm} {sc:List Int} {ρ:Int->Int} {ts:List Tm} {l:Int} {i:Nat} {c l2:Int} {i2:Nat} {c2:Int} {xs:List Int} (h:dY b FT sc ρ ts l i c l2 i2 c2 xs):xs.length=ts.length:=
  h (fun _ _ _ _ _ _ _=>True) (fun _ _ ts _ _ _ _ _ _ xs=>xs.length=ts.length) ⟨fun _=>trivial,fun h=>by cases h with | nil=>rfl | cons _ h2=>exact congrArg Nat.succ h2⟩
theorem VL.at_ {xs:List Int} {ms:List MV} (h:VL FT K κ σk c xs ms):∀j (h1:j<xs.length) (h2:j<ms.length),xs[j]≤c∧∃kv,ae σk xs[j]=some kv∧V FT K κ ms[j] kv:=by
  induction h with
  | nil=>intro j h;simp at h
  | cons g1 g2 g3 _ ih=>
    intro j h1 h2
    cases j with
    | zero=>exact ⟨g1,_,g2,g3⟩
    | succ j=>exact ih j (by simpa using h1) (by simpa using h2)
theorem H8 {sc ps xs:List Int} {ρ ρ':Int->Int} {σ:List (Int×MV)} {ms:List MV} (he:hV FT K κ sc ρ σ σk c) (hv:VL FT K κ σk c xs ms) (h1:ps.map ρ'=xs) (h2:∀n∈sc,ρ' n=ρ n) (h3:∀n∈sc,n∉ps) (h4:ps.Nodup) :
    hV FT K κ (sc++ps) ρ' (putL σ (ps.zip ms)) σk c:=by
  have hl:=hv.length
  have jr:ps.length=ms.length:=by rw [←hl,←h1,List.length_map]
  refine xA (CB ps ms σ h4 jr) fun p1 p2=>?_
  intro n hn
  rcases List.mem_append.mp hn with hn | hn
  · refine j3 (he n hn) fun g1 mv kv g2 g3 g4=>?_
    rw [h2 n hn]
    exact ⟨g1,mv,kv,(p1 n (h3 n hn)).trans g2,g3,g4⟩
  · obtain ⟨j,hj,e⟩:=List.mem_iff_getElem.mp hn
    have MN:j<ms.length:=by exact Z7 hj jr
    have Jy:j<xs.length:=by exact WG hj jr hl
    refine o8 (hv.at_ j Jy MN) fun g1 kv g2 g3=>?_
    have e2:xs[j]=ρ' n:=by
      have:(ps.map ρ')[j]'(by rw [List.length_map];exact hj)=ρ' n:=by rw [List.getElem_map,e]
      rw [←this];simp only [h1]
    rw [e2] at g1 g2
    exact ⟨g1,_,kv,by rw [←e];exact p2 j hj MN,g2,g3⟩
theorem AR {now now':MS} {g':bB} {lg':Log} (h:runM (m+1) now g lg=some (some res)) (e:ix g lg now=some (.inr (now',g',lg'))):runM m now' g' lg'=some (some res):=CM (x:=.inr (now',g',lg')) h e
theorem xR {now:MS} {y:iJ} (h:runM (m+1) now g lg=some (some res)) (e:ix g lg now=some (.inl y)):res=(y,lg):=CM (x:=.inl y) h e
theorem CF {now:MS} {P:Prop} (h:runM m now g lg=some (some res)) (k:∀m',m=m'+1->runM (m'+1) now g lg=some (some res)->P):P:=by
  cases m with
  | zero=>exact nomatch h
  | succ m=>exact k m rfl h
theorem Cq {t:Tm} {σ:bB} {k0:MK} {todo:List Tm} {dn:List MV} {mv:MV} {P:Prop} (h:runM (m+1) (.give [mv] (.parts t σ k0 todo dn)) g lg=some (some res))
    (k:∀now,runM m now g lg=some (some res)->(todo=[]->fg t k0 (dn++[mv])=some now)->(∀t' rest,todo=t'::rest->now=.go t' σ (.parts t σ k0 rest (dn++[mv])))->P):P:=
  fR (EO MK.noConfusion h) fun now g' lg' e e2=>D9 (show (if dn.length≤1000∧todo.length≤1000 then _ else none)=some (now,g',lg') from e) fun _ e=>by
    cases todo with
    | nil=>exact bq (Option.map_eq_some_iff.mp e) fun x hx e=>by cases e;exact k _ e2 (fun _=>hx) nofun
    | cons t' rest=>cases Option.some.inj e;exact k _ e2 nofun fun _ _ e=>by cases e;rfl
theorem FF {tf:Tm} {as:List Tm} {lab:Int} {ps:List Int} {body:Tm} {σ:bB} {k:MK} {vs:List MV} {now:MS} (h:fg (.call tf as) k (.fn lab ps body σ::vs)=some now) (hl:ps.length=vs.length):now=.go body (putL σ (ps.zip vs)) k:=
  D9 (show (if vs.length≤1000 then _ else none)=some now from h) fun _ h=>D9 ((if_pos hl).symm.trans h) fun _ h=>(Option.some.inj h).symm
theorem Gw {gs:Int} {e:Tm} {σ:bB} {k0:MK} {mv:MV} {P:Prop} (h:runM (m+1) (.give [mv] (.gM gs e σ k0)) g lg=some (some res))
    (k:lg.length≤1000->runM m (.give [.aA] k0) (putK g gs mv) (lg++[(gs,Mine.cut 3 mv)])=some (some res)->P):P:=
  fR (EO MK.noConfusion h) fun now g' lg' e e2=>D9 (show (if g.length≤1000∧lg.length≤1000 then _ else none)=some (now,g',lg') from e) fun hz e=>by
    cases Option.some.inj e;exact k hz.2 e2
theorem rl {lab:Int} {ps:List Int} {body:Tm} {as:List Tm} {σ:bB} {k0:MK} {P:Prop} (h:runM (m+1) (.go (.call (.lam lab ps body) as) σ k0) g lg=some (some res))
    (k:∀m3 now,m=m3+2->runM m3 now g lg=some (some res)->(as=[]->fg (.call (.lam lab ps body) as) k0 [.fn lab ps body σ]=some now) →
      (∀t' rest,as=t'::rest->now=.go t' σ (.parts (.call (.lam lab ps body) as) σ k0 rest [.fn lab ps body σ]))->P):P:=
  CF (AR (now':=.go (.lam lab ps body) σ (.parts (.call (.lam lab ps body) as) σ k0 as [])) (g':=g) (lg':=lg) h rfl) fun _ e MC=>
    CF (AR (now':=.give [.fn lab ps body σ] (.parts (.call (.lam lab ps body) as) σ k0 as [])) (g':=g) (lg':=lg) MC rfl) fun m3 e2 PT=>Cq PT fun now h1 h2 h3=>k m3 now (e.trans (congrArg Nat.succ e2)) h1 h2 h3
section
variable {t:Tm} {σ:bB} {k0:MK} {sc:List Int} {ρ:Int->Int} {d:Ds} {mv:MV} {kv:KV} {x c1:Int}
theorem xH {lab:Int} {ps xs:List Int} {body:Tm} {as:List Tm} {ρ':Int->Int} {l2 c2:Int} {i2:Nat} {now:MS} (IH:Sm C f FT res G Lg i m) (w:Wd FT G Lg s st K κ g gk lg σk c (m+q)) (hi:m+q+i≤120) (he:hV FT K κ sc ρ σ σk c) (hk:KR (bm f) FT K κ k0 σk d c q) (hr:runM m now g lg=some (some res))
    (h3:∀n∈sc,ρ' n=ρ n) (h5:∀n∈sc,n∉ps) (h6:ps.Nodup) (h7:ps.length≤2) (h:eS (Code (bm f) FT) (dY (bm f) FT) sc ρ l k c as l2 i2 c2 xs) :
    ps.length=as.length->ps.map ρ'=xs->Code (bm f) FT (sc++ps) ρ' body l2 i2 c2 d->(as=[]->fg (.call (.lam lab ps body) as) k0 [.fn lab ps body σ]=some now) →
    (∀t' rest,as=t'::rest->now=.go t' σ (.parts (.call (.lam lab ps body) as) σ k0 rest [.fn lab ps body σ]))->KW C f FT res G Lg i l k s st:=by
  cases h with
  | nil=>exact fun h2 h4 h8 e3 _=>IH (.go h8 (H8 he .nil h4 h3 h5 h6) hk (FF (e3 rfl) h2▸hr)) w hi
  | cons g1 g2=>exact fun _ h4 h8 _ e4=>IH (.go g1 he (.wv (.lets (xs:=[]) (.mk ρ' g2 h4 h3 h5 h6 h7 h8) he .nil hk)) (e4 _ _ rfl▸hr)) w hi
theorem IY (IH:∀m',m'≤m->Sm C f FT res G Lg i m') (w:Wd FT G Lg s st K κ g gk lg σk c (m+1+q)) (hi:m+1+q+i≤120) (he:hV FT K κ sc ρ σ σk c) (hc:dQ (bm f) FT (Code (bm f) FT) (dY (bm f) FT) sc ρ l k c t d) :
    KR (bm f) FT K κ k0 σk d c q->runM (m+1) (.go t σ k0) g lg=some (some res)->KW C f FT res G Lg i l k s st:=by
  have hd:=w.ks _ _ w.cur
  have hz:σk.length≤1000:=Z6 (w.jR _ _ w.cur)
  have w1:Wd FT G Lg s st K κ g gk lg σk c (m+q):=w.less ZQ
  have rz:m+q+i≤120:=Z0 hi
  have o5:=IH m (Nat.le_refl _)
  cases hc with
  | cst h1 h2 h3 h4=>exact fun hk hr=>KW.op h3 (Fn.cU 1 (aw rfl) (ua (r:=0) hd hz (.inl ⟨rfl,DE o5 w Vm rz h1 h2 h4 (fun _=>Nz) hk (AR (now':=.give [qO.V _] k0) (g':=g) (lg':=lg) hr rfl)⟩)))
  | y9=>exact fun hk hr=>o5 (.cj hk (AR (now':=.give [qO.V _] k0) (g':=g) (lg':=lg) hr rfl)) w1 rz
  | loc hn hf=>exact fun hk hr=>j3 (he _ hn) fun h1 mv kv e1 e2 e3=>qv o5 w1 rz hf h1 e2 e3 hk (AR (now':=.give [mv] k0) (g':=g) (lg':=lg) hr (by show ((ae σ _).map fun v=>MS.give [v] k0).map _=_;rw [e1];rfl))
  | bI h1 h2 h3 h4=>
    intro hk hr
    rcases w.glob _ with ⟨e1,e2⟩ | ⟨mv,kv,e1,e2,e3⟩
    · have vd:=xR (y:=.refused .dH _) hr (congrArg (fun o=>some (Option.elim o _ _)) e1)
      exact KW.op h3 (Fn.cU 1 (aw rfl) (yd (r:=0) hd ⟨w.hG,w.hL⟩ e2 (.inr ⟨rfl,lg,w.hL,vd▸rfl⟩)))
    · exact KW.op h3 (Fn.cU 1 (aw rfl) (yc (r:=0) hd hz ⟨w.hG,w.hL⟩ e2 (.inl ⟨rfl,DE o5 w Vm rz h1 h2 h4 (fun gr=>e3.up gr) hk (AR (now':=.give [mv] k0) (g':=g) (lg':=lg) hr (congrArg (fun o=>some (Option.elim o _ _)) e1))⟩)))
  | @lam lab ps body _ x c' fi h1 h2 h3 h4 h5 h6 h7 h8 h9=>
    intro hk hr
    refine KW.op h3 (Fn.cU 1 (aw rfl) (Mc (r:=0) hd hz (.inl ⟨rfl,DE o5 w Vm rz h1 h2 h9 (fun gr=>?_) hk (AR (now':=.give [.fn lab ps body σ] k0) (g':=g) (lg':=lg) hr rfl)⟩)))
    have Qf:=he.up gr (eR.put (v:=.fn fi.lab s) h1)
    refine .fn (fun n=>(ae σ n).getD .aA) (fun n=>(ae (putK σk x (.fn fi.lab s)) (fi.ρ n)).getD .aA) h4 h5 h6 (if_pos rfl) (fun n hn=>?_) (fun n hn=>?_) (fun n hn=>?_) (fun n hn=>?_)
    · rw [h7] at hn;rw [h8 n hn];unfold updκ;rw [if_pos rfl];exact WK h1 h2 (he n hn).1
    · rw [h7] at hn;exact j3 (Qf n hn) fun g1 mv kv e1 e2 e3=>by rw [e1];rfl
    · rw [h7] at hn;exact j3 (Qf n hn) fun g1 mv kv e1 e2 e3=>by rw [h8 n hn,e2];rfl
    · rw [h7] at hn;exact j3 (Qf n hn) fun g1 mv kv e1 e2 e3=>by rw [h8 n hn,e1,e2];exact e3
  | yx=>exact fun hk hr=>o5 (.cj hk (AR (now':=.give [.fn _ _ _ σ] k0) (g':=g) (lg':=lg) hr rfl)) w1 rz
  | lA h1 h2 h3 h4 h5 h6=>exact fun hk hr=>o5 (.go h1 he (.wv (.lA (.mk h2 h3 h4 h5 h6) hk)) (AR (now':=.go _ _ (.gM _ _ _ _)) (g':=g) (lg':=lg) hr rfl)) w1 rz
  | lB h1 h2=>exact fun hk hr=>o5 (.go h1 he (.wv (.lB h2 hk)) (AR (now':=.go _ _ (.gM _ _ _ _)) (g':=g) (lg':=lg) hr rfl)) w1 rz
  | bt h1 h2 h3 h4 h5 h6 h7 h8 h9 h10=>exact fun hk hr=>o5 (.go h1 he (.wv (.lR (.mk h2 h3 h4 h5 h6 h7 h8 h9 h10) he hk)) (AR (now':=.go _ _ (.lR _ _ _ _ _)) (g':=g) (lg':=lg) hr rfl)) (w.less (WE (DI _))) (WD hi (DI _))
  | seq h1 h2=>exact fun hk hr=>o5 (.go h1 he (.we (.gh h2 he hk)) (AR (now':=.go _ _ (.gh _ _ _ _)) (g':=g) (lg':=lg) hr rfl)) w1 rz
  | p1 h1 h2 h3 h4 h5=>exact fun hk hr=>o5 (.go h1 he (.wv (.prim (xs:=[]) (.mk (.w .nil) h2 h3 h4 h5 .p1) he .nil hk)) (AR (now':=.go _ _ (.parts _ _ _ _ _)) (g':=g) (lg':=lg) hr rfl)) w1 rz
  | p2 h1 h2 h3 h4 h5 h6=>exact fun hk hr=>o5 (.go h1 he (.wv (.prim (xs:=[]) (.mk (.w (.cons h2 (.w .nil))) h3 h4 h5 h6 .p2) he .nil hk)) (AR (now':=.go _ _ (.parts _ _ _ _ _)) (g':=g) (lg':=lg) hr rfl)) w1 rz
  | call h1 h2 h3 h4 h5=>exact fun hk hr=>o5 (.go h1 he (.wv (.call (xs:=[]) (.mk h2 h4 rfl (h2.length▸h3) h5) he .nil hk)) (AR (now':=.go _ _ (.parts _ _ _ _ _)) (g':=g) (lg':=lg) hr rfl)) (w.less (WE (DI _))) (WD hi (DI _))
  | lets ρ' h1 h2 h3 h4 h5 h6 h7 h8=>exact fun hk hr=>rl hr fun m3 now e PT e3 e4=>xH (IH m3 (QX e)) (w.less (QW e)) (QV hi e) he hk PT h3 h5 h6 h7 h1.o h2 h4 h8 e3 e4
section
variable (IH:∀m',m'<m->Sm C f FT res G Lg i m') (js:c1≤c) (hx:x≤c) (hg:ae σk x=some kv) (hv:V FT K κ mv kv)
include IH hg hv
theorem tO {xs:List Int} {dn:List MV} {op y c':Int} {n m':Nat} {now:MS} (e:m=m'+1) (w:Wd FT G Lg s st K κ g gk lg σk c (m+q)) (hi:m+q+i≤120) (hr:runM m' now g lg=some (some res)) (h1:c<y) (h2:y≤c') (hf:fQ (bm f) y l (k+1) c' d) (hk:KR (bm f) FT K κ k0 σk d c q)
    (h3:VL FT K κ σk c xs dn) (hp:mf t op n):n=dn.length+1->gq (bm f) l k (.prim y op (xs++[x]))->fg t k0 (dn++[mv])=some now->KW C f FT res G Lg i l k s st:=by
  have hd:=w.ks _ _ w.cur
  have hz:σk.length≤1000:=wB (w.jR _ _ w.cur)
  have o5:=IH m' (Hg e)
  cases hp with
  | p1=>
    cases h3 with
    | nil=>exact fun _ ho ht=>KW.op ho (Fn.cU 2 (aw rfl) (t9 (r:=0) hd hz hg hv.plain (.inl ⟨rfl,DE o5 w (wA e) (Gq hi e) h1 h2 hf (fun _=>hv.isFalse▸.bool _) hk (Option.some.inj ht▸hr)⟩)))
    | cons _ _ _ _=>exact fun h=>nomatch h
  | p2=>
    cases h3 with
    | nil=>exact fun h=>nomatch h
    | cons a1 a2 a3 a4=>
      cases a4 with
      | nil=>exact fun _ ho ht=>KW.op ho (Fn.cU 2 (aw rfl) (t8 (r:=0) hd hz a2 hg (.inl ⟨rfl,DE o5 w (wA e) (Gq hi e) h1 h2 hf (fun gr=>.pair (a3.up gr) (hv.up gr)) hk (Option.some.inj ht▸hr)⟩)))
      | cons _ _ _ _=>exact fun h=>nomatch h
include hx
theorem tC {xs nI:List Int} {todo:List Tm} {dn:List MV} {op y c' l2 c2:Int} {i2 m':Nat} {now:MS} (e:m=m'+1) (w:Wd FT G Lg s st K κ g gk lg σk c (m+q)) (hi:m+q+i≤120) (hr:runM m' now g lg=some (some res)) (he:hV FT K κ sc ρ σ σk c) (h3:VL FT K κ σk c xs dn) (hk:KR (bm f) FT K κ k0 σk d c q)
    (h:eS (Code (bm f) FT) (dY (bm f) FT) sc ρ l k c todo l2 i2 c2 nI):c2<y->y≤c'->gq (bm f) l2 i2 (.prim y op (xs++x::nI))->fQ (bm f) y l2 (i2+1) c' d->mf t op (dn.length+1+todo.length)->(todo=[]->fg t k0 (dn++[mv])=some now) →
    (∀t' rest,todo=t'::rest->now=.go t' σ (.parts t σ k0 rest (dn++[mv])))->KW C f FT res G Lg i l k s st:=by
  cases h with
  | nil=>exact fun h1 h2 ho hf hp e3 _=>tO IH hg hv e w hi hr h1 h2 hf hk h3 hp rfl ho (e3 rfl)
  | @cons _ rest _ _ _ _ _ _ _ _ g1 g2=>exact fun h1 h2 ho hf hp _ e4=>IH m' (Hg e) (.go g1 he (.wv (.prim (xs:=xs++[x]) (.mk g2 h1 h2 (List.append_cons ..▸ho) hf ((congrArg (mf t op) (RP.trans (congrArg (fun z=>z+1+rest.length) (List.length_append (as:=dn) (bs:=[mv])).symm))).mp hp)) he (h3.snoc hx hg hv) hk)) (e4 _ _ rfl▸hr)) (w.less (HI e)) (Gq hi e)
theorem tE (fH:∀fi,FT fi->oX (bm f) FT fi) {tf:Tm} {as:List Tm} {xs nI:List Int} {todo:List Tm} {dn:List MV} {fx to var l2 c2:Int} {args:List Int} {i2 m':Nat} {now:MS} (e:m=m'+1) (w:Wd FT G Lg s st K κ g gk lg σk c (m+(q+iF d))) (hi:m+(q+iF d)+i≤120) (hr:runM m' now g lg=some (some res)) (he:hV FT K κ sc ρ σ σk c) (h3:VL FT K κ σk c xs dn) (hk:KR (bm f) FT K κ k0 σk d c q)
    (ha:args.length≤2) (h:eS (Code (bm f) FT) (dY (bm f) FT) sc ρ l k c todo l2 i2 c2 nI):cA (bm f) l2 i2 (.call fx args to var)->fx::args=xs++x::nI->hY (bm f) c2 to var d->(todo=[]->fg (.call tf as) k0 (dn++[mv])=some now) →
    (∀t' rest,todo=t'::rest->now=.go t' σ (.parts (.call tf as) σ k0 rest (dn++[mv])))->KW C f FT res G Lg i l k s st:=by
  cases h with
  | nil=>exact fun hl h5 hc e3 _=>ze (m:=m') fH (e▸w) (e▸hi) hl (h5▸h3.snoc hx hg hv) ha hc hk (e3 rfl) hr
  | cons g1 g2=>exact fun hl h5 hc _ e4=>IH m' (Hg e) (.go g1 he (.wv (.call (xs:=xs++[x]) (.mk g2 hl (h5.trans (List.append_cons ..)) ha hc) he (h3.snoc hx hg hv) hk)) (e4 _ _ rfl▸hr)) (w.less (HI e)) (Gq hi e)
theorem tD {tf:Tm} {as:List Tm} {lab:Int} {xs nI ps:List Int} {body:Tm} {ρ':Int->Int} {todo:List Tm} {dn:List MV} {l2 c2:Int} {i2 m':Nat} {now:MS} (e:m=m'+1) (w:Wd FT G Lg s st K κ g gk lg σk c (m+q)) (hi:m+q+i≤120) (hr:runM m' now g lg=some (some res)) (he:hV FT K κ sc ρ σ σk c) (h3:VL FT K κ σk c xs dn) (hk:KR (bm f) FT K κ k0 σk d c q)
    (h5:∀n∈sc,ρ' n=ρ n) (h6:∀n∈sc,n∉ps) (h7:ps.Nodup) (h8:ps.length≤2) (h:eS (Code (bm f) FT) (dY (bm f) FT) sc ρ l k c todo l2 i2 c2 nI):ps.map ρ'=xs++x::nI->Code (bm f) FT (sc++ps) ρ' body l2 i2 c2 d->(todo=[]->fg (.call tf as) k0 (.fn lab ps body σ::dn++[mv])=some now) →
    (∀t' rest,todo=t'::rest->now=.go t' σ (.parts (.call tf as) σ k0 rest (.fn lab ps body σ::dn++[mv])))->KW C f FT res G Lg i l k s st:=by
  have oB:=h3.snoc hx hg hv
  cases h with
  | nil=>exact fun h4 h9 e3 _=>IH m' (Hg e) (.go h9 (H8 he oB h4 h5 h6 h7) hk (FF (e3 rfl) ((List.length_map (as:=ps) ρ').symm.trans ((congrArg List.length h4).trans oB.length))▸hr)) (w.less (HI e)) (Gq hi e)
  | cons g1 g2=>exact fun h4 h9 _ e4=>IH m' (Hg e) (.go g1 he (.wv (.lets (xs:=xs++[x]) (.mk ρ' g2 (h4.trans (List.append_cons ..)) h5 h6 h7 h8 h9) he oB hk)) (e4 _ _ rfl▸hr)) (w.less (HI e)) (Gq hi e)
include js
theorem xG (fH:∀fi,FT fi->oX (bm f) FT fi) (h:kH (bm f) FT K κ (KR (bm f) FT K κ) σk l k x c c1 k0 q):runM m (.give [mv] k0) g lg=some (some res)->Wd FT G Lg s st K κ g gk lg σk c (m+q)->m+q+i≤120->KW C f FT res G Lg i l k s st:=by
  cases h with
  | iG h1 h2 h3 h4 h5 h6=>exact fun hr w hi=>xE (GV w h2 w.cur h3 h4 h6 (.one hv) hr (Nat.le_refl _) hi) fun bk hI=>KW.last h1 (Fn.cU 3 (aw rfl) (FM (r:=0) (w.ks _ _ w.cur) (DJ hg) (aw rfl) hI))
  | @lR a t2 t3 σ k1 _ _ _ _ hs h10 h11=>
    intro hr w hi
    refine hs.casesOn fun {ly ln vy vn cy cn d1 d2} h1 h2 h3 h4 h5 h6 h7 h8 h9=>CF hr fun m' e hr=>?_
    have vd:=AR (now':=.go (if isFalse mv then t3 else t2) σ k1) (g':=g) (lg':=lg) hr rfl
    rw [hv.isFalse] at vd
    refine KW.last h1 (Fn.cU 1 (aw rfl) (GO (r:=0) (w.ks _ _ w.cur) hg hv.plain (.inl ⟨_,s,rfl,?_⟩)))
    revert vd
    cases hA kv with
    | true=>exact fun vd=>bq h3 fun kk e3 _=>⟨(w.less (HI e)).later h5,.go h7 (h10.weak (Int.le_trans js h5)) (H7 h9 h11 js h5) vd,NN hi e,kk,e3⟩
    | false=>exact fun vd=>bq h2 fun kk e3 _=>⟨(w.less (HI e)).later h4,.go h6 (h10.weak (Int.le_trans js h4)) (H7 h8 h11 js h4) vd,NN hi e,kk,e3⟩
  | lA hs h6=>exact fun hr w hi=>hs.casesOn fun {x' c'} h1 h2 h3 h4 h5=>CF hr fun m' e hr=>Gw hr fun hz hr=>KW.op h1 (Fn.cU 6 (aw rfl) (t7 (r:=0) (w.ks _ _ w.cur) ⟨w.hG,w.hL⟩ (wB w.oq) hz hg hv.plain
      (.inl ⟨rfl,have w2:=w.set hv (wA e);KW.op h4 (Fn.cU 1 (aw rfl) (ua (c:=.aA) (r:=0) (w2.ks _ _ w2.cur) (wB (w.jR _ _ w.cur)) (.inl ⟨rfl,Gz (IH m' (Hg e)) w2 (Nat.le_refl _) (QU (wA e) (w.jR _ _ w.cur)) (Gq hi e) h2 h3 h5 (fun _=>.aA) (h6.weak js) hr⟩)))⟩)))
  | lB h1 h2=>exact fun hr w hi=>CF hr fun m' e hr=>Gw hr fun hz hr=>KW.op h1 (Fn.cU 6 (aw rfl) (t7 (r:=0) (w.ks _ _ w.cur) ⟨w.hG,w.hL⟩ (wB w.oq) hz hg hv.plain (.inl ⟨rfl,IH m' (Hg e) (.cj (h2.weak js) hr) (w.set hv (wA e)) (Gq hi e)⟩)))
  | prim hs h2 h3 h9=>exact fun hr w hi=>hs.casesOn fun h1 h4 h5 h6 h7 h8=>CF hr fun m' e hr=>Cq hr fun now hr e3 e4=>tC IH hx hg hv e w hi hr (h2.weak js) (h3.weak js) (h9.weak js) h1.o h4 h5 h6 h7 h8 e3 e4
  | call hs h2 h3 h8=>exact fun hr w hi=>hs.casesOn fun h1 h4 h5 h6 h7=>CF hr fun m' e hr=>Cq hr fun now hr e3 e4=>tE IH hx hg hv fH e w hi hr (h2.weak js) (h3.weak js) (h8.weak js) h6 h1.o h4 h5 h7 e3 e4
  | lets hs h2 h3 h10=>exact fun hr w hi=>hs.casesOn fun ρ' h1 h4 h5 h6 h7 h8 h9=>CF hr fun m' e hr=>Cq hr fun now hr e3 e4=>tD IH hx hg hv e w hi hr (h2.weak js) (h3.weak js) (h10.weak js) h5 h6 h7 h8 h1.o h4 h9 e3 e4
end
theorem xI {vs:List MV} (IH:∀m',m'<m->Sm C f FT res G Lg i m') (js:c1≤c) (h:sI (bm f) FT K κ (KR (bm f) FT K κ) σk l k c c1 k0 q):runM m (.give vs k0) g lg=some (some res)->Wd FT G Lg s st K κ g gk lg σk c (m+q)->m+q+i≤120->KW C f FT res G Lg i l k s st:=by
  cases h with
  | jc h1 h2 h3 h4 h5=>exact fun hr w hi=>xE (GW (vs:=[]) w h2 (fun _=>rfl) w.cur h3 h5 hr (Nat.le_refl _) hi) fun bk hI=>KW.last h1 (Fn.cU 3 (aw rfl) (FM (r:=0) (w.ks _ _ w.cur) Ba (aw rfl) hI))
  | gh h1 h2 h3=>exact fun hr w hi=>CF hr fun m' e hr=>IH m' (Hg e) (.go h1 (h2.weak js) (h3.weak js) (AR (now':=.go _ _ _) (g':=g) (lg':=lg) hr rfl)) (w.less (HI e)) (Gq hi e)
end
theorem sim (fH:∀fi,FT fi->oX (bm f) FT fi) (m:Nat):Sm C f FT res G Lg i m:=by
  induction m using Nat.strongRecOn with
  | _ m ih=>
    intro K κ st s g gk lg σk c q l k ha w hi
    cases ha with
    | go hc he hk hr=>
      cases m with
      | zero=>exact nomatch hr
      | succ m=>exact IY (fun m' h=>ih m' (Nat.lt_succ_of_le h)) w hi he hc.o hk hr
    | val hk hx hg hv hr=>exact bq hk.ov fun c1 h js=>xG ih js hx hg hv fH h hr w hi
    | cj hk hr=>exact bq hk.oe fun c1 h js=>xI ih js h hr w hi
end Mine
end
section
namespace Mine
variable {C:Cx} {r:Nat} {FT:Fi->Prop} {st:St} {f:Cs} {res:Rs}
theorem yS {K:Kh} {κ:Addr->Int} (n:Int):(ae g0 n=none∧ae Na n=none)∨∃mv kv,ae g0 n=some mv∧ae Na n=some kv∧V FT K κ mv kv:=by
  unfold g0 Na
  rw [Am,Am,Am,Am]
  by_cases h1:(1:Int)=n
  · rw [if_pos h1,if_pos h1];exact .inr ⟨_,_,rfl,rfl,.bool true⟩
  · rw [if_neg h1,if_neg h1]
    by_cases h2:(4:Int)=n
    · rw [if_pos h2,if_pos h2];exact .inr ⟨_,_,rfl,rfl,.vals⟩
    · rw [if_neg h2,if_neg h2];exact .inl ⟨rfl,rfl⟩
theorem tJ (fH:∀fi,FT fi->oX (bm f) FT fi) {fi:Fi} {t:Tm} (h1:FT fi) (h2:fi.lab=f.entry) (h3:fi.ps=[]) (h4:fi.sc=[]) (h5:fi.body=t) (hr:runM 90 (.go t [] .done) g0 []=some (some res)) (Yt:12≤r) :
    Fn C r (C.fa .fN) [kK (progOf f) f.entry,.int 120] st (fun x _=>x=n0 (some res)):=by
  have F:=fH fi h1
  refine j2 F.bu.prog fun bk e1 e2 e3 e4 e5=>?_
  rw [h2] at e1 e5
  refine dR F.code fun cb c1 c2 c3=>?_
  refine yw (p:=progOf f) (e:=f.entry) (n:=120) (b0:=bk) (·=n0 (some res)) (Ko (bm f) FT res) Yt (by decide) e1 (fun G Lg D ag Y7 OD OC hT hD=>?_) (fun G Lg i l s ag hi hI=>?_) fun G Lg l s ag hI=>?_
  · refine .mk (K:=fun a=>if a=D then some [(bk.var,.stop)] else none) (κ:=fun _=>cb) (g:=g0) (gk:=Na) (lg:=[]) (σk:=[(bk.var,.stop)]) (c:=cb) (m:=90) (q:=0) ⟨fun a σ e=>?_,if_pos rfl,Int.le_refl _,hT.d,hT.l,if_neg (Ne.symm OD),if_neg (Ne.symm OC),Y7,yS,fun a σ e=>?_,by decide,by decide⟩ (.go (t:=t) (σ:=[]) (k:=.done) (sc:=fi.sc++fi.ps) (ρ:=fi.ρ) (d:=.tail fi.y) ?_ ?_ ?_ hr) (by decide) e5
    · split at e
      · rename_i q;subst q;subst e;exact hD
      · injection e
    · split at e
      · subst e;exact aw rfl
      · injection e
    · rw [←h5,←h2];exact c3
    · intro n hn;rw [h3,h4] at hn;cases hn
    · exact .w (c:=cb) (zx.mk (kv:=.stop) (by rw [e4,Am,if_pos rfl]) F.y.2 c2 (.wb .stop)) (Int.le_refl _)
  · refine hI.casesOn fun {K κ g gk lg σk c m q} w a hb hk=>xE hk fun kk hk=>?_;clear hI
    have:=sim (C:=C) (i:=i) (G:=G) (Lg:=Lg) fH m a w hb
    have MM:ae (progOf f) l=some (sy l kk):=by rw [Cb,show ae f.blocks l=some kk from hk];rfl
    exact ⟨sy l kk,MM,this _ MM⟩
  · refine hI.casesOn fun {K κ g gk lg σk c m q} w a hb _=>?_;clear hI
    have e:m=0:=RO hb
    cases a with
    | go _ _ _ h=>exact CF h fun _ e' _=>nomatch e.symm.trans e'
    | val _ _ _ _ h=>exact CF h fun _ e' _=>nomatch e.symm.trans e'
    | cj _ h=>exact CF h fun _ e' _=>nomatch e.symm.trans e'
inductive kq (L:Nat):MV->Prop
  | bool (b:Bool):kq L (.bool b)
  | int (i:Int):kq L (.int i)
  | aA:kq L .aA
  | vals:kq L .vals
  | pair {a b:MV}:kq L a->kq L b->kq L (.pair a b)
  | fn {l:Int} {ps:List Int} {b:Tm} {σ:List (Int×MV)} {sc:List Int} {lo hi:Int} (f:Int->MV):Num (sc++ps) lo hi b->ps.length≤2->(∀n∈sc,ae σ n=some (f n))->(∀n∈sc,kq L (f n))->σ.length≤L->kq L (.fn l ps b σ)
theorem kq.up {L L':Nat} {v:MV} (h:kq L v) (hL:L≤L'):kq L' v:=by
  induction h with
  | bool b=>exact .bool b
  | int i=>exact .int i
  | aA=>exact .aA
  | vals=>exact .vals
  | pair _ _ a b=>exact .pair a b
  | fn f h1 h2 h3 _ h5 ih=>exact .fn f h1 h2 h3 ih (Nat.le_trans h5 hL)
noncomputable def jZ (L:Nat) (sc:List Int) (σ:List (Int×MV)):Prop:=∀n∈sc,∃v,ae σ n=some v∧kq L v
theorem jZ.up {L L':Nat} {sc:List Int} {σ:List (Int×MV)} (h:jZ L sc σ) (hL:L≤L'):jZ L' sc σ:=fun n hn=>let ⟨v,e,q⟩:=h n hn;⟨v,e,q.up hL⟩
theorem jZ.put {L:Nat} {sc:List Int} {σ:List (Int×MV)} {k:Int} {v:MV} (h:jZ L sc σ) (hv:kq L v):jZ L (sc++[k]) (putK σ k v):=fun n hn=>by
  rw [Af]
  by_cases e:n=k
  · rw [if_pos e];exact ⟨v,rfl,hv⟩
  · rw [if_neg e]
    rcases List.mem_append.mp hn with hn | hn
    · exact h n hn
    · rw [List.mem_singleton] at hn;exact absurd hn e
theorem jZ.j6 {L:Nat}:∀{ps:List Int} {as:List MV} {sc:List Int} {σ:List (Int×MV)},jZ L sc σ->(∀v∈as,kq L v)->ps.length=as.length->jZ L (sc++ps) (putL σ (ps.zip as))
  | [],[],sc,σ,h,_,_=>by rw [List.append_nil];exact h
  | p::ps,a::as,sc,σ,h,hv,hl=>by
    have:=jZ.j6 (h.put (k:=p) (hv a (.head _))) (fun v Mw=>hv v (.tail _ Mw)) (by simpa using hl) (ps:=ps) (as:=as)
    rw [List.append_assoc] at this
    exact this
  | [],_::_,_,_,_,_,hl=>by simp at hl
  | _::_,[],_,_,_,_,hl=>by simp at hl
noncomputable def Sc (sc:List Int) (t:Tm):Prop:=∃lo hi,Num sc lo hi t
theorem fy.sc {sc:List Int}:∀{ts:List Tm} {lo hi:Int},fy sc lo hi ts->∀t∈ts,Sc sc t
  | [],_,_,_,_,h=>by cases h
  | t::ts,_,_,h,u,hu=>by
    cases h with
    | cons a b=>
    rcases List.mem_cons.mp hu with e | hu
    · rw [e];exact ⟨_,_,a⟩
    · exact b.sc u hu
inductive mh:Tm->Nat->Prop
  | prim {t:Tm} {op:Int} {n:Nat}:mf t op n->mh t n
  | call {f:Tm} {as:List Tm} {n:Nat}:n≤3->mh (.call f as) n
inductive iu (L:Nat):MK->Prop
  | done:iu L .done
  | lR {a b c:Tm} {σ:List (Int×MV)} {k:MK} {sc:List Int}:Sc sc b->Sc sc c->jZ L sc σ->σ.length≤L->iu L k->iu L (.lR a b c σ k)
  | gh {a b:Tm} {σ:List (Int×MV)} {k:MK} {sc:List Int}:Sc sc b->jZ L sc σ->σ.length≤L->iu L k->iu L (.gh a b σ k)
  | gM {s:Int} {e:Tm} {σ:List (Int×MV)} {k:MK}:iu L k->iu L (.gM s e σ k)
  | parts {t:Tm} {σ:List (Int×MV)} {k:MK} {todo:List Tm} {dn:List MV} {sc:List Int}:(∀u∈todo,Sc sc u)->jZ L sc σ->σ.length≤L->(∀v∈dn,kq L v)->mh t (dn.length+1+todo.length)->iu L k->iu L (.parts t σ k todo dn)
theorem iu.up {L L':Nat} {k:MK} (h:iu L k) (hL:L≤L'):iu L' k:=by
  induction h with
  | done=>exact .done
  | lR h1 h2 h3 h4 _ ih=>exact .lR h1 h2 (h3.up hL) (Nat.le_trans h4 hL) ih
  | gh h1 h2 h3 _ ih=>exact .gh h1 (h2.up hL) (Nat.le_trans h3 hL) ih
  | gM _ ih=>exact .gM ih
  | parts h1 h2 h3 h4 h5 _ ih=>exact .parts h1 (h2.up hL) (Nat.le_trans h3 hL) (fun v hv=>(h4 v hv).up hL) h5 ih
inductive mM (L:Nat):MS->Prop
  | go {t:Tm} {σ:List (Int×MV)} {k:MK} {sc:List Int}:Sc sc t->jZ L sc σ->σ.length≤L->iu L k->mM L (.go t σ k)
  | give {vs:List MV} {k:MK}:(∀v∈vs,kq L v)->vs.length≤3->iu L k->mM L (.give vs k)
  | refused {w:Nm} {i:Int}:mM L (.refused w i)
structure wR (L:Nat) (g:bB) (lg:Log):Prop where
  v:∀n v,ae g n=some v->kq L v
  g:g.length≤L+2
  lg:lg.length≤L
theorem wR.up {L:Nat} {g:bB} {lg:Log} (h:wR L g lg):wR (L+2) g lg:=⟨fun n v e=>(h.v n v e).up (by exact Nat.le_add_right _ _),by have:=h.g;exact RN this,by have:=h.lg;exact Z1 this⟩
theorem Dj {L:Nat} {v:MV} (h:kq L v):∀u∈[v],kq L u:=fun u hu=>by rw [List.mem_singleton] at hu;rw [hu];exact h
theorem mh.le {t:Tm} {n:Nat} (h:mh t n):n≤3:=by
  cases h with
  | prim h=>cases h<;>exact aw rfl
  | call h=>exact h
theorem wa {L:Nat} {k:MK} {f:MV} {as:List MV} (hl:as.length≤2) (hf:kq L f) (hv:∀v∈as,kq L v) (hk:iu L k) (hL:L≤900):∃now,oH k as f=some now∧mM (L+2) now:=by
  have up:L≤L+2:=Nat.le_add_right _ _
  cases hf with
  | bool b=>exact ⟨_,rfl,.refused⟩
  | int i=>exact ⟨_,rfl,.refused⟩
  | aA=>exact ⟨_,rfl,.refused⟩
  | pair _ _=>exact ⟨_,rfl,.refused⟩
  | vals=>exact ⟨_,rfl,.give (fun v Mw=>(hv v Mw).up up) (Nat.le_succ_of_le hl) (hk.up up)⟩
  | @fn l ps b σ sc lo hi ff h1 h2 h3 h4 h5=>
    by_cases e:ps.length=as.length
    · have hz:=Eg (ps.zip as) σ
      have PD:(ps.zip as).length≤2:=by rw [List.length_zip];exact RL e h2
      exact ⟨_,(if_pos e).trans (if_pos (by exact RM h2 hL h5)),.go ⟨lo,hi,h1⟩ ((jZ.j6 (fun n hn=>⟨ff n,h3 n hn,h4 n hn⟩) hv e).up up) (by exact RK PD h5 hz) (hk.up up)⟩
    · exact ⟨_,(if_neg e).trans (if_pos (by exact Zl h2 rfl)),.refused⟩
theorem te {L:Nat} {t:Tm} {k:MK} {vs:List MV} (h:mh t vs.length) (h0:1≤vs.length) (hv:∀v∈vs,kq L v) (hk:iu L k) (hL:L≤900):∃now,fg t k vs=some now∧mM (L+2) now:=by
  have up:L≤L+2:=Nat.le_add_right _ _
  generalize hn:vs.length=n at h
  cases h with
  | prim h=>
    cases vs with
    | nil=>exact absurd h0 (Nat.not_lt_zero 0)
    | cons v vs=>
      cases h with
      | p1=>exact ⟨_,rfl,.give (Dj (.bool _)) (aw rfl) (hk.up up)⟩
      | p2=>
        cases vs with
        | nil=>exact nomatch hn
        | cons w vs=>exact ⟨_,rfl,.give (Dj (.pair ((hv v (.head _)).up up) ((hv w (.tail _ (.head _))).up up))) (aw rfl) (hk.up up)⟩
  | call h=>
    cases vs with
    | nil=>exact absurd h0 (Nat.not_lt_zero 0)
    | cons f as=>
      have hl:as.length≤2:=Nat.le_of_succ_le_succ (Nat.le_trans (Nat.le_of_eq hn) h)
      exact bq (wa hl (hv f (.head _)) (fun v h=>hv v (.tail _ h)) hk hL) fun now e q=>⟨now,(if_pos (by exact Zl hl rfl)).trans e,q⟩
noncomputable def wM (L:Nat) (o:Option (MS×bB×Log)):Prop:=∃now g' lg',o=some (now,g',lg')∧mM (L+2) now∧wR (L+2) g' lg'
theorem Ga {L:Nat} {f:MV->Option (MS×bB×Log)} {vs:List MV} {g:bB} {lg:Log} (hG:wR L g lg) (hz:vs.length≤3) (hv:∀v∈vs,kq L v) (h:∀v,kq L v->wM L (f v)):wM L (one vs f (tL g lg)):=by
  cases vs with
  | nil=>exact ⟨_,_,_,rfl,.refused,hG.up⟩
  | cons v r=>
    cases r with
    | nil=>exact h v (hv v (.head _))
    | cons w r=>exact ⟨_,_,_,if_pos (by exact Zl hz rfl),.refused,hG.up⟩
theorem xX {L:Nat} {g:bB} {lg:Log} {t:Tm} {σ:bB} {k:MK} {todo:List Tm} {l:List MV} {sc:List Int} (h1:∀t∈todo,Sc sc t) (h2:jZ L sc σ) (h3:σ.length≤L) (h4:∀u∈l,kq L u) (h0:1≤l.length) (h5:mh t (l.length+todo.length)) (h6:iu L k) (hG:wR L g lg) (hL:L≤900):wM L (tP g lg t σ k l todo):=by
  have up:L≤L+2:=Nat.le_add_right _ _
  cases todo with
  | nil=>exact bq (te (t:=t) (k:=k) (vs:=l) h5 h0 h4 h6 hL) fun now e q=>⟨now,g,lg,congrArg (Option.map _) e,q,hG.up⟩
  | cons t' rest=>exact ⟨_,_,_,rfl,.go (h1 t' (.head _)) (h2.up up) (by exact Z1 h3) (.parts (fun u hu=>h1 u (.tail _ hu)) (h2.up up) (by exact Z1 h3) (fun u hu=>(h4 u hu).up up) (by rw [Nat.add_assoc,Nat.add_comm 1];exact h5) (h6.up up)),hG.up⟩
theorem vr {L:Nat} {g:bB} {lg:Log} {vs:List MV} {k:MK} (hv:∀v∈vs,kq L v) (hz:vs.length≤3) (hk:iu L k) (hG:wR L g lg) (hL:L≤900) (hd:k≠.done):∃now g' lg',fu g lg vs k=some (now,g',lg')∧mM (L+2) now∧wR (L+2) g' lg':=by
  have up:L≤L+2:=Nat.le_add_right _ _
  have We:=hG.g
  have nD:=hG.lg
  cases hk with
  | done=>exact absurd rfl hd
  | gh h1 h2 h3 h4=>exact ⟨_,_,_,rfl,.go h1 (h2.up up) (by exact Z1 h3) (h4.up up),hG.up⟩
  | lR h1 h2 h3 h4 h5=>
    refine Ga hG hz hv fun v hv=>⟨_,_,_,rfl,.go (sc:=_) ?_ (h3.up up) (by exact Z1 h4) (h5.up up),hG.up⟩
    cases isFalse v
    · exact h1
    · exact h2
  | @gM s e σ k h1=>
    refine Ga hG hz hv fun v hv=>?_
    have PD:=AN g s v
    refine ⟨.give [.aA] k,putK g s v,lg++[(s,Mine.cut 3 v)],if_pos ⟨by exact RI hL We,by exact Zl (Nat.le_trans nD hL) rfl⟩,.give (Dj .aA) (aw rfl) (h1.up up),⟨fun n u hu=>?_,by exact RJ PD We,by rw [List.length_append];exact Nat.le_succ_of_le (Nat.succ_le_succ nD)⟩⟩
    rw [Af] at hu
    by_cases q:n=s
    · exact Option.some.inj ((if_pos q).symm.trans hu)▸hv.up up
    · exact (hG.v n u ((if_neg q).symm.trans hu)).up up
  | @parts t σ k todo dn sc h1 h2 h3 h4 h5 h6=>
    have hle:=h5.le
    refine Ga hG hz hv fun v hv=>?_
    rw [if_pos ⟨by exact RH hle,by exact RG hle⟩]
    refine xX h1 h2 h3 (fun u hu=>(List.mem_append.mp hu).elim (h4 u) fun hu=>List.mem_singleton.mp hu▸hv) (by rw [List.length_append];exact Nat.le_add_left 1 _) (by rw [List.length_append];exact h5) h6 hG hL
theorem xC {L:Nat} {g:bB} {lg:Log} {now:MS} (h:mM L now) (hG:wR L g lg) (hL:L≤900):(∃y,ix g lg now=some (.inl y))∨∃now' g' lg',ix g lg now=some (.inr (now',g',lg'))∧mM (L+2) now'∧wR (L+2) g' lg':=by
  have up:L≤L+2:=by exact Nat.le_add_right _ _
  cases h with
  | refused=>exact .inl ⟨_,rfl⟩
  | @give vs k h1 h2 h3=>
    by_cases hd:k=.done
    · subst hd
      exact .inl ⟨_,by rw [D4,if_pos (by exact Zl h2 rfl)]⟩
    · refine o7 (vr h1 h2 h3 hG hL hd) fun now' g' lg' e q1 q2=>?_
      exact .inr ⟨now',g',lg',by rw [D3 hd,e];rfl,q1,q2⟩
  | @go t σ k sc h1 h2 h3 h4=>
    refine xk h1 ?_;clear h1;intro lo hi hN
    cases hN with
    | @cst _ _ c=>exact .inr ⟨_,_,_,rfl,.give (Dj (by cases c with | t=>exact .bool _ | f=>exact .bool _ | mB=>exact .int _)) (by simp) (h4.up up),hG.up⟩
    | @loc _ _ n hn=>
      refine bq (h2 _ hn) fun v e q=>?_
      exact .inr ⟨.give [v] k,g,lg,by show ((ae σ n).map fun v=>MS.give [v] k).map _=_;rw [e];rfl,.give (Dj (q.up up)) (by simp) (h4.up up),hG.up⟩
    | @bI _ _ s=>
      cases e:ae g s with
      | none=>exact .inl ⟨.refused .dH s,congrArg (fun o=>some (Option.elim o _ _)) e⟩
      | some v=>exact .inr ⟨.give [v] k,g,lg,congrArg (fun o=>some (Option.elim o _ _)) e,.give (Dj ((hG.v _ _ e).up up)) (by simp) (h4.up up),hG.up⟩
    | set h=>exact .inr ⟨_,_,_,rfl,.go ⟨_,_,h⟩ (h2.up up) (by exact Z1 h3) (.gM (h4.up up)),hG.up⟩
    | bt a b c=>exact .inr ⟨_,_,_,rfl,.go ⟨_,_,a⟩ (h2.up up) (by exact Z1 h3) (.lR ⟨_,_,b⟩ ⟨_,_,c⟩ (h2.up up) (by exact Z1 h3) (h4.up up)),hG.up⟩
    | lam n hn hb=>
      refine .inr ⟨_,_,_,rfl,.give (Dj (.fn (fun n=>(ae σ n).getD .aA) hb (by rw [AM];exact hn) (fun n hn=>?_) (fun n hn=>?_) (by exact Z1 h3))) (by simp) (h4.up up),hG.up⟩
      · refine bq (h2 n hn) fun v e q=>?_;rw [e];rfl
      · refine bq (h2 n hn) fun v e q=>?_;rw [e];exact q.up up
    | call a b hz=>exact .inr ⟨_,_,_,rfl,.go ⟨_,_,a⟩ (h2.up up) (by exact Z1 h3) (.parts b.sc (h2.up up) (by exact Z1 h3) (fun v hv=>by cases hv) (.call (by simp;exact RF hz)) (h4.up up)),hG.up⟩
    | seq a b=>exact .inr ⟨_,_,_,rfl,.go ⟨_,_,a⟩ (h2.up up) (by exact Z1 h3) (.gh ⟨_,_,b⟩ (h2.up up) (by exact Z1 h3) (h4.up up)),hG.up⟩
    | p1 a=>exact .inr ⟨_,_,_,rfl,.go ⟨_,_,a⟩ (h2.up up) (by exact Z1 h3) (.parts (sc:=sc) (fun u hu=>by cases hu) (h2.up up) (by exact Z1 h3) (fun v hv=>by cases hv) (.prim .p1) (h4.up up)),hG.up⟩
    | p2 a b=>exact .inr ⟨_,_,_,rfl,.go ⟨_,_,a⟩ (h2.up up) (by exact Z1 h3) (.parts (sc:=sc) (fun u hu=>by rw [List.mem_singleton] at hu;rw [hu];exact ⟨_,_,b⟩) (h2.up up) (by exact Z1 h3) (fun v hv=>by cases hv) (.prim .p2) (h4.up up)),hG.up⟩
theorem I5 (n:Nat):∀(L:Nat) (now:MS) (g:bB) (lg:Log),mM L now->wR L g lg->2*n+L≤900->∃r,runM n now g lg=some r:=by
  induction n with
  | zero=>exact fun _ _ _ _ _ _ _=>⟨none,rfl⟩
  | succ n ih=>
    intro L now g lg h hG hL
    rcases xC h hG (by exact RE hL) with ⟨y,e⟩ | ⟨now',g',lg',e,q1,q2⟩
    · exact ⟨some (y,lg),congrArg (Option.bind · _) e⟩
    · exact xE (ih (L+2) now' g' lg' q1 q2 (by exact RD hL)) fun r hr=>⟨r,(congrArg (Option.bind · _) e).trans hr⟩
theorem xQ {t:Tm} (h:Sc [] t):∃r,runM 90 (.go t [] .done) g0 []=some r:=by
  refine I5 90 0 _ _ _ (.go h (fun n hn=>by cases hn) (Nat.le_refl _) .done) ⟨fun n v e=>?_,by decide,by decide⟩ (by decide)
  unfold g0 at e
  rw [Am,Am] at e
  split at e
  · subst e;exact .bool _
  · split at e
    · subst e;exact .vals
    · subst e
end Mine
end
section
namespace Mine
variable {C:Cx} {r:Nat} {ρ:Loc} {st:St} {g:bB} {lg:Log}
theorem Eu:∀(n k:Nat) (v:MV),ku (n+2+k) (jY (cut n v))=true
  | n,k,v=>by
    have one:∀(m:Nat) (b:Bool) (i:Int),ku (m+2) (jY (.at b i))=true:=fun m b i=>by simp [jY,ku]
    have str:∀(m:Nat) (x:Nm),ku (m+1) (.str x)=true:=fun m x=>rfl
    have e:n+2+k=(n+k)+2:=by exact RC
    have e1:n+2+k=(n+k+1)+1:=by exact RB
    cases v with
    | bool b=>cases n<;>(rw [e];exact one _ _ _)
    | int i=>cases n<;>(rw [e];exact one _ _ _)
    | aA=>cases n<;>(rw [e1];rfl)
    | vals=>cases n<;>(rw [e1];rfl)
    | fn l ps b σ=>cases n<;>(rw [e1];rfl)
    | pair a b=>
      cases n with
      | zero=>rw [e1];rfl
      | succ n=>
        have h1:=Eu n k a
        have h2:=Eu n k b
        have e2:n+1+2+k=(n+2+k)+1:=by exact RA
        rw [e2]
        show ([jY (cut n a),jY (cut n b)].all (ku (n+2+k)))=true
        simp [h1,h2]
noncomputable def iK (lg:Log):Prop:=∀e∈lg,∃v,e.2=cut 3 v
noncomputable def wN (x:iJ):Prop:=(∃w i,x=.refused w i)∨∃vs:List MV,x=.told (vs.map (cut 3))
theorem rE {vs:List MV} {k:MK} {y:MS×bB×Log} (h:fu g lg vs k=some y) (hl:iK lg):iK y.2.2:=by
  cases k with
  | done=>exact cp h
  | gh=>exact Option.some.inj h▸hl
  | lR a b c σ k=>exact EQ (P:=fun _=>iK y.2.2) h (fun v e=>Option.some.inj e▸hl) fun _ _ e=>e▸hl
  | gM s e σ k=>exact EQ (P:=fun _=>iK y.2.2) h (fun v e=>D9 e fun _ e=>Option.some.inj e▸fun e he=>(List.mem_append.mp he).elim (hl e) fun he=>List.mem_singleton.mp he▸⟨v,rfl⟩) fun _ _ e=>e▸hl
  | parts t σ k todo dn=>
    refine EQ (P:=fun _=>iK y.2.2) h (fun v e=>D9 e fun _ e=>?_) fun _ _ e=>e▸hl
    cases todo with
    | nil=>exact ri (P:=fun y:MS×bB×Log=>iK y.2.2) e fun _ _=>hl
    | cons t' r=>exact Option.some.inj e▸hl
noncomputable def zr:ny->Prop
  | .inl y=>wN y
  | .inr z=>iK z.2.2
theorem s7 {now:MS} {x:ny} (h:ix g lg now=some x) (hl:iK lg):zr x:=by
  cases now with
  | refused w i=>exact Option.some.inj h▸.inl ⟨w,i,rfl⟩
  | give vs k=>
    by_cases hk:uS k=true
    · exact D9 ((if_pos hk).symm.trans h) fun _ h=>Option.some.inj h▸.inr ⟨vs,rfl⟩
    · exact ri (P:=zr) ((if_neg hk).symm.trans h) fun y h=>rE h hl
  | go t σ k=>
    have h:(pL t).elim _ _=some x:=h
    cases ht:pL t with
    | none=>rw [ht] at h;exact ri (P:=zr) h fun y h=>hl
    | some s=>
      rw [ht] at h
      refine Option.some.inj h▸(?_:zr (lu g lg k s))
      unfold lu
      cases ae g s with
      | none=>exact .inl ⟨_,_,rfl⟩
      | some v=>exact hl
theorem xP (n:Nat):∀{now:MS} {g:bB} {lg:Log} {x:iJ} {lg':Log},runM n now g lg=some (some (x,lg'))->iK lg->iK lg'∧wN x:=by
  induction n with
  | zero=>exact fun h _=>nomatch h
  | succ n ih=>
    intro now g lg x lg' h hl
    refine jV h fun z e h=>?_
    have ht:=s7 e hl
    cases z with
    | inl y=>cases Option.some.inj (Option.some.inj h);exact ⟨hl,ht⟩
    | inr z=>exact ih h ht
theorem xW {x:iJ} {lg:Log} (h1:iK lg) (h2:wN x):ku 9 (n0 (some (x,lg)))=true:=by
  show ([tK x,.lst (dW lg)].all (ku 8))=true
  have e1:ku 8 (tK x)=true:=by
    rcases h2 with ⟨w,i,rfl⟩ | ⟨vs,rfl⟩
    · rfl
    · show ([AV.str .bE,.lst ((vs.map (cut 3)).map jY)].all (ku 7))=true
      have:ku 7 (.lst ((vs.map (cut 3)).map jY))=true:=by
        show (((vs.map (cut 3)).map jY).all (ku 6))=true
        rw [List.all_eq_true]
        intro a ha
        refine bq (List.mem_map.mp ha) fun b hb mE=>?_;subst mE
        refine bq (List.mem_map.mp hb) fun v _ mE=>?_;subst mE
        exact Eu 3 1 v
      show (ku 7 (.str .bE)&&(ku 7 (.lst ((vs.map (cut 3)).map jY))&&true))=true
      rw [this];rfl
  have e2:ku 8 (.lst (dW lg))=true:=by
    show ((dW lg).all (ku 7))=true
    rw [List.all_eq_true]
    intro a ha
    refine bq (List.mem_map.mp ha) fun b hb mE=>?_;subst mE
    refine xE (h1 b hb) fun v hv=>?_
    show ([AV.int b.1,jY b.2].all (ku 6))=true
    have:=Eu 3 1 v
    show (ku 6 (.int b.1)&&(ku 6 (jY b.2)&&true))=true
    rw [hv,this];rfl
  simp [e1,e2]
theorem vj {g:Gen} {k:Nat} {l last:Int} (h1:st g.D=some (eI g.ns k)) (h2:st g.L=some (.list [.int l])) (h3:st g.N=some (.inst .aN g.dN)) (h4:st g.dN=some (.aD (cg g.t g.ti g.o last))):dr g st k l last=st:=by
  funext a
  unfold dr St.upd
  split
  · rename_i q;rw [q,h4]
  · split
    · rename_i q;rw [q,h2]
    · split
      · rename_i q;rw [q,h1]
      · split
        · rename_i q;rw [q,h3]
        · rfl
theorem Rep.keep {l:Objs} {ag:St} (h:Rep l st) (k:mj st ag):Rep l ag:=⟨h.nodup,fun p hp=>k _ _ (h.at_ p hp)⟩
theorem Rep.dr {g:Gen} {k:Nat} {l0 last:Int} (h:Rep [(g.N,.inst .aN g.dN),(g.dN,.aD (cg g.t g.ti g.o 0)),(g.ti,.dict [])] st) (hD:g.ti≠g.D) (hL:g.ti≠g.L):Rep ((g.N,.inst .aN g.dN)::(g.dN,.aD (cg g.t g.ti g.o last))::(g.ti,.dict [])::[]) (dr g st k l0 last):=by
  have hn:=h.nodup
  refine ⟨hn,fun p hp=>?_⟩
  simp only [List.mem_cons,List.not_mem_nil,or_false] at hp
  rcases hp with rfl | rfl | rfl
  · exact E8
  · exact Dm
  · have h1:g.ti≠g.N:=fun e=>by simp [e] at hn
    have h2:g.ti≠g.dN:=fun e=>by simp [e] at hn
    unfold Mine.dr
    exact (Aw h2).trans ((Aw hL).trans ((Aw hD).trans ((Aw h1).trans (h.get (by simp)))))
theorem Jh {nB:List Int} (hz:nB.length≤63) (hr:80≤r):X C r qy [(.eY,.xM (nB.map .int))] c7 (fun fl _ _=>fl=.ret (.bool true)):=by
  obtain ⟨r,rfl⟩:∃r',r=r'+80:=⟨r-80,by exact Rz hr⟩
  refine Xc (qG (Ec (B4 (Ec (HO (Bg (El rfl (EF (EE (Ae ⟨63,rfl,nB.map .int,rfl,by simp;exact Zl hz rfl,?_⟩))))))))))
  have e0:fh (nB.map AV.int) none (some 63)=nB.map .int:=by
    unfold fh
    simp only [Option.elim]
    have:kE (nB.map AV.int).length 63=(nB.map AV.int).length:=by
      unfold kE
      rw [show (63:Int)=((63:Nat):Int) from rfl,clipAt_nat];simp;exact Ry hz
    rw [this];simp [List.take_of_length_le]
  rw [e0]
  refine ⟨nB.map .int,(nB.map fun i=>if i<0 then -i else i).map .int,rfl,by simp,by simp;exact Zl hz rfl,fun i ag hi=>?_,?_⟩
  · rw [List.length_map] at hi
    have e1:(nB.map AV.int).getD i .none=.int nB[i]:=by simp [List.getD_eq_getElem?_getD,hi]
    have e2:((nB.map fun i=>if i<0 then -i else i).map AV.int).getD i .none=.int (if nB[i]<0 then -nB[i] else nB[i]):=by simp [List.getD_eq_getElem?_getD,hi]
    rw [e1,e2]
    exact BG (v:=.builtin "abs") rfl (Ec (El (by rw [Af,if_pos rfl]) (En (KA ⟨rfl,rfl⟩))))
  generalize ql:(nB.map fun i=>if i<0 then -i else i)=ns
  have yD:ns.length≤1000:=by rw [←ql];simp;exact Zl hz rfl
  refine Ec (Ae (En ⟨aw rfl,fun D hD=>?_⟩))
  have rD:Rep [(D,eI ns 0)] (c7.upd D (eI ns 0)):=⟨by simp,fun p hp=>by rw [List.mem_singleton] at hp;rw [hp];exact aZ⟩
  refine Ec (zB (r:=r+76) rD fun N dN t ti o l' ao r1=>En ⟨rfl,aw rfl,?_⟩)
  have r2:Rep [(N,.inst .aN dN),(dN,.aD (cg t ti o 0)),(ti,.dict []),(D,eI ns 0)] ao:=r1.sub (.cons_cons _ (.cons_cons _ (.cons_cons _ (List.sublist_append_right ..))))
  change X C (r+80) _ [(.eY,.xM (nB.map .int)),(.bM,.ref N),(.bf,.ref D)] ao _
  have Ij:=r2.nodup
  simp only [List.map_cons,List.map_nil,List.nodup_cons,List.mem_cons,List.not_mem_nil,or_false,not_or] at Ij
  refine Dw Ij ?_;clear Ij;intro sS OR n6 _;obtain ⟨n1,n2,n3⟩:=sS;obtain ⟨n4,n5⟩:=OR
  refine Xc (Au (Ax (by decide) rfl ?_))
  refine Ec (Ah (Ec (Ax (by decide) rfl (Ec (Ae (Ec (Ax (by decide) rfl (Ec (Ae (En ⟨_,Cz,(En ⟨_,CR,(Ec (Aj rfl (Ec (El rfl (Ec (El rfl (Ec (Ah (En ⟨aw rfl,(Ec ?_)⟩)))))))))⟩)⟩))))))))))
  refine B4 (Ec (Ae (En ⟨aw rfl,fun L hL=>?_⟩)))
  have nL:∀p∈[(N,bQ.inst .aN dN),(dN,.aD (cg t ti o 0)),(ti,.dict []),(D,eI ns 0)],p.1≠L:=fun p hp e=>by have:=r2.at_ p hp;rw [e,hL] at this;injection this
  have dL:=nL (D,eI ns 0) (by simp)
  have NL:=nL (N,.inst .aN dN) (by simp)
  have Nu:=nL (dN,.aD (cg t ti o 0)) (by simp)
  have XJ:=nL (ti,.dict []) (by simp)
  let G:Gen:=⟨D,L,N,dN,t,ti,o,ns,yD,dL,Ne.symm n3,Ne.symm n5,Ne.symm NL,Ne.symm Nu,n1⟩
  have Mz:dr G (ao.upd L (.list [.int 14])) 0 14 0=ao.upd L (.list [.int 14]):=vj ((Aw dL).trans (r2.get (by simp [G]))) aZ ((Aw NL).trans (r2.get (by simp [G]))) ((Aw Nu).trans (r2.get (by simp [G])))
  have Ii:=ug (C:=C) (g:=G) 14 (by exact aw rfl) 14 (by exact Int.le_refl _) (ao.upd L (.list [.int 14])) [] 0 0 (by decide) (by decide) (by decide)
  rw [Mz] at Ii
  refine En ((Fn.cU (4*14+6) (aw rfl) Ii).nd fun tt k' l2 last hW hN nk=>?_)
  generalize Ju:dr G (ao.upd L (.list [.int 14])) k' l2 last=bg
  have Ju:=Ju.symm
  have yL:Num [] 0 last (.seq (.set 2 (.cst .mB)) tt):=.seq (.set .cst) hN
  have MA:(Tm.seq (.set 2 (.cst .mB)) tt).size≤1000:=Q7 hW.low nk
  refine xE (xQ (t:=.seq (.set 2 (.cst .mB)) tt) ⟨0,last,yL⟩) fun res pJ=>?_
  refine En ⟨aw rfl,(En ⟨_,GX,?_⟩)⟩
  change X C (r+80) _ [(.eY,.xM (nB.map .int)),(.bM,.ref N),(.bf,.ref D),(.af,bT (.seq (.set 2 (.cst .mB)) tt))] bg _
  refine Xc (Au (Aj rfl (Ec (El rfl (Ec (Ae (En ?_)))))))
  refine (GP (n:=90) (by exact Rx hr yD n1 n3 n5 dL NL Nu) (by decide) pJ).mono fun x eJ ⟨hx,hk⟩=>?_
  subst hx
  have r3:Rep [(G.N,.inst .aN G.dN),(G.dN,.aD (cg G.t G.ti G.o last)),(G.ti,.dict [])] bg:=by
    rw [Ju]
    refine Rep.dr (g:=G) ?_ n6 XJ
    have r4:Rep [(N,.inst .aN dN),(dN,.aD (cg t ti o 0)),(ti,.dict [])] ao:=r2.sub (.cons_cons _ (.cons_cons _ (.cons_cons _ (List.nil_sublist _))))
    refine r4.keep fun b o' e=>(Aw fun q=>?_).trans e
    rw [q,hL] at e;injection e
  have r5:=r3.keep hk
  refine lr (compiled yL MA) fun kk f hB hn Qc Qd FT fH fi h1 h2 h3 h4 h5=>?_
  refine Xc (Au (Hi (Aj rfl (Ec (El rfl (Ec (El rfl (En (Fn.cU 12 (by exact WC hr yD n1 n3 n5 dL NL Nu) (qT (r:=0) (l:=[]) r5 hB hn fun A fA h6=>?_))))))))))
  refine xE (rI h6 fun x hx=>Qc x hx (h6.own hx)) fun nn MW=>?_
  refine ⟨nn,_,MW,?_⟩
  cases res with
  | none=>
    refine Xc (Aq (Ob (Hj (El rfl (AJ ⟨true,rfl,true,rfl,?_⟩)))))
    rw [if_pos rfl]
  | some res=>
    obtain ⟨y,lg⟩:=res
    have Ow:=xP 90 pJ (fun e he=>by cases he)
    refine Xc (Aq (Ob (Hj (El rfl (AJ ⟨false,rfl,false,rfl,?_⟩)))))
    rw [if_neg (by decide)]
    refine Ks (Aj rfl (Ec (El rfl (Ec (Ae (En ?_))))))
    refine (tJ (r:=r+80) fH h1 (h2.trans Qd.symm) h3 h4 h5 pJ (by exact WC hr yD n1 n3 n5 dL NL Nu)).mono fun x tv hx=>?_
    subst hx
    exact El rfl ⟨⟨_,rfl⟩,rfl,⟨9,by decide,xW Ow.1 Ow.2⟩,rfl⟩
end Mine
end
section
open Builtin
namespace Mine
open MeetsSeq MeetsSeq2 MeetsSeq3 SeqRoads2
section
variable {nm q:Str} {C N:Addr} {bs bm:List Value} {yE:Bool} {sn:List Str} {sub:List Value} {ab:Bool} {col:Option Bool} {dd:Option Addr} {k0 k1 k2 k3 k5:Option Value} {newId:String}
theorem Ft (l x:Addr) (items:Array Value) (n:Nat) (d0:Option Addr) (sl:Array (Option Value)) (ox:Obj) (hc:ox.cls=.ref C) (hb:(Value.ref C::bm).contains (.type "tuple")=false) :
    Meets (Builtin.«tuple.__eq__» ⟨[.ref l,.ref x],[]⟩) (fun _ R s=>s.heap.get? l=some {cls:=.type "tuple",dict:=d0,data:=.seq items n,slots:=sl}∧s.heap.get? x=some ox∧
      s.heap.get? C=some (excClassObj nm q C N bs bm yE sn sub ab col dd k0 k1 k2 k3 k5 newId)∧R (.ok (.ret .notImplemented)) s):=by
  obtain ⟨cls,d1,data,XQ⟩:=ox
  simp only at hc
  subst hc
  refine .of_wp fun prog w A R s h=>?_
  obtain ⟨hp,g,d,tk,os⟩:=s;refine Dw h ?_;clear h;intro hl hx hC h
  have st:∀{M:Model} {A:Around} {E:Value->Shared->Prop} {Q:Bool->Shared->Prop},Q false ⟨hp,g,d,tk,os⟩->wpAny M A (isSubtype (.ref C) (.type "tuple")) Q E ⟨hp,g,d,tk,os⟩:=fun hq=>wpAny_isSubtype_exc hC (by rw [hb];exact hq)
  wp_walk using wpAny_loadPart' hl,wpAny_loadPart' hx,st
  exact ⟨_,rfl,h⟩
theorem Fs (l x:Addr) (items:Array Value) (n:Nat) (d0:Option Addr) (sl:Array (Option Value)) (ox:Obj) (hc:ox.cls=.ref C) (hb:(Value.ref C::bm).contains (.type "tuple")=false) :
    Meets (Builtin.«tuple.__ne__» ⟨[.ref l,.ref x],[]⟩) (fun _ R s=>s.heap.get? l=some {cls:=.type "tuple",dict:=d0,data:=.seq items n,slots:=sl}∧s.heap.get? x=some ox∧
      s.heap.get? C=some (excClassObj nm q C N bs bm yE sn sub ab col dd k0 k1 k2 k3 k5 newId)∧R (.ok (.ret .notImplemented)) s):=by
  obtain ⟨cls,d1,data,XQ⟩:=ox
  simp only at hc
  subst hc
  refine .of_wp fun prog w A R s h=>?_
  obtain ⟨hp,g,d,tk,os⟩:=s;refine Dw h ?_;clear h;intro hl hx hC h
  have st:∀{M:Model} {A:Around} {E:Value->Shared->Prop} {Q:Bool->Shared->Prop},Q false ⟨hp,g,d,tk,os⟩->wpAny M A (isSubtype (.ref C) (.type "tuple")) Q E ⟨hp,g,d,tk,os⟩:=fun hq=>wpAny_isSubtype_exc hC (by rw [hb];exact hq)
  wp_walk using wpAny_loadPart' hl,wpAny_loadPart' hx,st
  exact ⟨_,rfl,h⟩
end
section
variable {A:Around} {s:Shared} {x C p:Addr} {bm:List Value} {B:String} {items:Array Value}
theorem Dg (C:Addr):isSubtype (.type "tuple") (.ref C)=pure false:=by
  rw [isSubtype_type]
  have:fastBuiltinMro "tuple"=some [.type "tuple",.type "object"]:=by kernel_rfl
  rw [this];rfl
theorem Fv (FB:CmpFacts B bm) (X:s.heap.CmpInst x C bm) (hb:(Value.ref C::bm).contains (.type "tuple")=false) (ht:s.heap.IsTuple p items) (Mt:x≠p) (hu:A.units<cLine):RcAt A s (.ref x) (.ref p) false:=fun prog w E Q hq=>by
  obtain ⟨h,g,d,t,os⟩:=s
  refine eh (id X) fun o nm q N bs yE sn sub ab col dd k0 k1 k2 k3 k5 newId mN hx hc hC _=>?_
  refine zH (id ht) fun sS yC yI n2 hd2=>?_;obtain ⟨QJ,QG,data2,O0⟩:=sS
  simp only at yI hd2
  subst yI hd2
  have hT:(⟨h,g,d,t,os⟩:Shared).TypeIs (.ref p) "tuple":=⟨_,yC,rfl⟩
  have ta:∀{M:Model} {A:Around} {E:Value->Shared->Prop} {Q:Value->Shared->Prop},Q (.ref C) ⟨h,g,d,t,os⟩->wpAny M A (typeOf (.ref x)) Q E ⟨h,g,d,t,os⟩:=fun hq=>by
    unfold typeOf
    repeat (first | (with_reducible refine wpAny_loadPart_at hx ?_;rw [hc]) | wp_step)
    exact hq
  simp only [richCompare,cmpInfo_Eq,oneThing_ref]
  refine wpAny_holding (wpAny_bind (wpAny_cRoomFor hu ?_))
  refine wpAny_bind (ta (wpAny_bind (wpAny_typeOf hT ?_)))
  rw [if_pos (show (Value.ref C !=Value.type "tuple")=true from rfl)]
  refine wpAny_bind (wpAny_of_eq (Dg C) ?_)
  rw [if_neg (by decide)]
  refine wpAny_bind (m:=tryCompare (.ref x) _ (.ref p)) (tryCompare_eq_other FB X yC Mt ?_)
  dsimp only
  rw [if_pos (by decide)]
  refine wpAny_bind (m:=tryCompare (.ref p) _ (.ref x)) (wpAny_tryCompare_declines hT F.slot_tuple_eq_refl (call_meets F.slot_tuple_eq_refl hT F.entry_tuple_eq (F.args_tuple_eq_2 _ _) (Ft (C:=C) p x items n2 QG O0 o hc hb) ⟨yC,hx,hC,rfl,?_⟩))
  exact wpAny_bind (wpAny_rule (wpAny_bind (wpAny_isSame_ref_other Mt hx yC (by rw [hc];simp) (wpAny_pure hq))))
theorem Fu (FB:CmpFacts B bm) (X:s.heap.CmpInst x C bm) (hb:(Value.ref C::bm).contains (.type "tuple")=false) (ht:s.heap.IsTuple p items) (Mt:x≠p) (hu:A.units+1<cLine):RcNeAt A s (.ref x) (.ref p) true:=fun prog w E Q hq=>by
  obtain ⟨h,g,d,t,os⟩:=s
  refine eh (id X) fun o nm q N bs yE sn sub ab col dd k0 k1 k2 k3 k5 newId mN hx hc hC _=>?_
  refine zH (id ht) fun sS yC yI n2 hd2=>?_;obtain ⟨QJ,QG,data2,O0⟩:=sS
  simp only at yI hd2
  subst yI hd2
  have hT:(⟨h,g,d,t,os⟩:Shared).TypeIs (.ref p) "tuple":=⟨_,yC,rfl⟩
  have ta:∀{M:Model} {A:Around} {E:Value->Shared->Prop} {Q:Value->Shared->Prop},Q (.ref C) ⟨h,g,d,t,os⟩->wpAny M A (typeOf (.ref x)) Q E ⟨h,g,d,t,os⟩:=fun hq=>by
    unfold typeOf
    repeat (first | (with_reducible refine wpAny_loadPart_at hx ?_;rw [hc]) | wp_step)
    exact hq
  simp only [richCompare,cmpInfo_NotEq,oneThing_ref]
  refine wpAny_holding (wpAny_bind (wpAny_cRoomFor (Nat.lt_of_succ_lt hu) ?_))
  refine wpAny_bind (ta (wpAny_bind (wpAny_typeOf hT ?_)))
  rw [if_pos (show (Value.ref C !=Value.type "tuple")=true from rfl)]
  refine wpAny_bind (wpAny_of_eq (Dg C) ?_)
  rw [if_neg (by decide)]
  refine wpAny_bind (m:=tryCompare (.ref x) _ (.ref p)) (tryCompare_ne_other FB X yC Mt hu ?_)
  dsimp only
  rw [if_pos (by decide)]
  refine wpAny_bind (m:=tryCompare (.ref p) _ (.ref x)) (wpAny_tryCompare_declines hT F.slot_tuple_ne_refl (call_meets F.slot_tuple_ne_refl hT F.entry_tuple_ne (F.args_tuple_ne_2 _ _) (Fs (C:=C) p x items n2 QG O0 o hc hb) ⟨yC,hx,hC,rfl,?_⟩))
  exact wpAny_bind (wpAny_rule (wpAny_bind (wpAny_isSame_ref_other Mt hx yC (by rw [hc];simp) (wpAny_pure hq))))
end
end Mine
end
section
namespace Mine
noncomputable def vR:Option (Option Value)->Option Addr
  | some (some (.ref a))=>some a
  | _=>none
noncomputable def vN:Option (Option Value)->Option Int
  | some (some (.int i _))=>some i
  | _=>none
noncomputable def vS:Option (Option Value)->Option Str
  | some (some (.str x _))=>some x
  | _=>none
noncomputable def OV:Option Value->Option String
  | some (.builtin n)=>some n
  | _=>none
theorem OU {o:Option (Option Value)} {a:Addr} (h:vR o=some a):o=some (some (.ref a)):=by
  cases o with
  | none=>exact cp h
  | some o=>
    cases o with
    | none=>exact cp h
    | some v=>
      cases v with
      | ref b=>exact Option.some.inj h▸rfl
      | _=>exact cp h
theorem Lk {o:Option (Option Value)} {i:Int} (h:vN o=some i):∃t,o=some (some (.int i t)):=by
  cases o with
  | none=>exact cp h
  | some o=>
    cases o with
    | none=>exact cp h
    | some v=>
      cases v with
      | int j t=>exact ⟨t,Option.some.inj h▸rfl⟩
      | _=>exact cp h
theorem OT {o:Option (Option Value)} {x:Str} (h:vS o=some x):∃t,o=some (some (.str x t)):=by
  cases o with
  | none=>exact cp h
  | some o=>
    cases o with
    | none=>exact cp h
    | some v=>
      cases v with
      | str j t=>exact ⟨t,Option.some.inj h▸rfl⟩
      | _=>exact cp h
theorem Ll {o:Option Value} {n:String} (h:OV o=some n):o=some (.builtin n):=by
  cases o with
  | none=>exact cp h
  | some v=>
    cases v with
    | builtin b=>exact Option.some.inj h▸rfl
    | _=>exact cp h
noncomputable def fK (K:Frag) (x:Nm):Addr:=(vR (nsIn K mainGlobals (ah x))).getD 0
noncomputable def Mi (K:Frag) (c n:Nm):Addr:=(vR (findIn K (.ref (fK K c)) (ah n))).getD 0
noncomputable def lj (K:Frag) (x:Nm):Bool:=(vR (nsIn K mainGlobals (ah x))).isSome
theorem zI {o:Option (Option Value)} (h:(vR o).isSome=true):o=some (some (.ref ((vR o).getD 0))):=xE (Option.isSome_iff_exists.mp h) fun a e=>(OU e).trans (by rw [e];rfl)
theorem Dp {K:Frag} {x:Nm} (h:lj K x=true):nsIn K mainGlobals (ah x)=some (some (.ref (fK K x))):=zI h
theorem el {α:Type} {o:Option α} {f:α->Bool} {P:Prop} (h:o.elim false f=true) (k:∀a,o=some a->f a=true->P):P:=by
  cases o with
  | none=>exact ff h
  | some a=>exact k a rfl h
noncomputable def J3 (K:Frag) (x:Nm):Bool:=(rG x).elim true fun i=>vN (nsIn K mainGlobals (ah x))==some i
noncomputable def J1 (K:Frag) (x:Nm):Bool:=(yR x).elim true fun y=>vS (nsIn K mainGlobals (ah x))==some (ah y)
noncomputable def Nt:Data->Option FuncData
  | .func fd=>some fd
  | _=>none
noncomputable def NA:Data->Option ClassData
  | .cls cd=>some cd
  | _=>none
theorem JZ {d:Data} {fd:FuncData} (h:Nt d=some fd):d=.func fd:=by
  cases d with
  | func f=>exact Option.some.inj h▸rfl
  | _=>exact cp h
theorem J0 {d:Data} {cd:ClassData} (h:NA d=some cd):d=.cls cd:=by
  cases d with
  | cls f=>exact Option.some.inj h▸rfl
  | _=>exact cp h
noncomputable def fdOf (K:Frag) (a:Addr):Option FuncData:=(K.lookup a).bind fun o=>Nt o.data
noncomputable def Jb (K:Frag) (a:Addr) (p:List Nm×List PS):Bool:=(fdOf K a).elim false fun fd=>(JM K p.1 p.2 fd).all id
noncomputable def pP (K:Frag) (a:Addr):Option FuncBody:=(fdOf K a).map (·.body)
noncomputable def bodyOf (K:Frag) (a:Addr) (b:List PS):Option FuncBody:=(fdOf K a).map fun fd=>.stmts (pN b (Nd.xb (Nd.body fd.body)).tr)
theorem Iq {K:Frag} {a:Addr} {p:List Nm×List PS} (h:Jb K a p=true) (e:pP K a=bodyOf K a p.2):yU K a p.1 p.2:=
  el h fun fd hf q=>jV hf fun o ho hd=>⟨o,fd,ho,JZ hd,Option.some.inj ((congrArg (Option.map (fun fd:FuncData=>fd.body)) hf).symm.trans (e.trans (congrArg (Option.map fun fd:FuncData=>FuncBody.stmts (pN p.2 (Nd.xb (Nd.body fd.body)).tr)) hf))),q⟩
noncomputable def NC (K:Frag) (e:Nm×List Nm×List PS):Bool:=lj K e.1&&(Jb K (fK K e.1) e.2&&keepIn K (.ref (fK K e.1)))
noncomputable def J4 (K:Frag) (c:Nm):Bool:=lj K c&&(Iw K (fK K c)).all id
noncomputable def zc (K:Frag) (e:(Nm×Nm)×List Nm×List PS):Bool:=
  (vR (findIn K (.ref (fK K e.1.1)) (ah e.1.2))).isSome&&(isFn K (.ref (Mi K e.1.1 e.1.2))&&(keepIn K (.ref (Mi K e.1.1 e.1.2))&&Jb K (Mi K e.1.1 e.1.2) e.2))
noncomputable def qx (K:Frag) (c:Nm):Bool:=(iq c).all fun n=>findIn K (.ref (fK K c)) (ah n)==some none
noncomputable def oG (K:Frag) (c:Nm):Bool:=(iq c).all fun n=>takerIn K (fK K c) (ah n)==some none
noncomputable def zd (K:Frag) (c:Nm):Bool:=(uR c).elim true fun i=>vN (findIn K (.ref (fK K c)) (ah .b9))==some i
noncomputable def J2 (K:Frag):Bool:=cL.all fun c=>isIn K (.ref (fK K c)) (fK K c)&&cL.all fun d=>c==d||kin_not K (fK K c) (fK K d)
noncomputable def QO (K:Frag):Bool:=zk.all fun f=>nsIn K mainGlobals (ah f)==some none
noncomputable def VD (K:Frag) (u D:Addr):Bool:=(K.lookup u).elim false fun o=>o.cls==.ref D&&(notCls o&&o.dict.elim false fun d=>(K.lookup d).isSome)
noncomputable def VE (K:Frag) (D:Addr):Bool:=(K.lookup D).elim false fun o=>(o.cls==.type "type"&&(o.slots.toList.length==6&&(OV (o.slots.toList.getD 4 none)).isSome))&&
  (NA o.data).elim false fun cd=>cd.mro==[.ref D,.type "object"]&&(!cd.hasDel&&(nsOkIn K cd.ns&&(nsIn K cd.ns "__eq__"==some none&&nsIn K cd.ns "__ne__"==some none)))
noncomputable def Ls (K:Frag) (D:Addr):List Bool:=[kin_notT K D "tuple",kin_notT K D "bool",plainGet K D "__class__",hasDictIn K D,findIn K (.ref D) "__class__"==some (some (.builtin "object.__class__")),
  specialIn K (.builtin "object.__class__") "__get__"==some (some (.builtin "getset_descriptor.__get__")),takesIn K (.builtin "object.__class__")==some true,mroIn K D (.type "object")==some true]
end Mine
end
section
namespace Mine
theorem wy {P:Nm->Bool} (h:(List.range 218).all (fun i=>P (nm i))=true) (x:Nm):P x=true:=
  ES (P:=fun x=>P x=true) (fun i hi=>List.all_eq_true.mp h i (List.mem_range.mpr hi)) x
noncomputable def Mj (K:Frag) (e:(Nm×Nm)×List Nm×List PS):Addr:=Mi K e.1.1 e.1.2
structure Facts (K:Frag) (D:Addr):Prop where
  i:(List.range 218).all (fun i=>J3 K (nm i))=true
  s:(List.range 218).all (fun i=>J1 K (nm i))=true
  b:QO K=true
  c:dX.all (fun c=>J4 K c)=true
  f:Nb.all (NC K)=true
  fb:Nb.map (fun e=>pP K (fK K e.1))=Nb.map (fun e=>bodyOf K (fK K e.1) e.2.2)
  a:dX.all (fun c=>qx K c)=true
  t:dX.all (fun c=>oG K c)=true
  k:dX.all (fun c=>zd K c)=true
  n:J2 K=true
  m:mL.all (zc K)=true
  mb:mL.map (fun e=>pP K (Mj K e))=mL.map (fun e=>bodyOf K (Mj K e) e.2.2)
  u:lj K .bz=true
  pI:VD K (fK K .bz) D=true
  pC:VE K D=true
  p:(Ls K D).all id=true
structure Sp (K:Frag) (u D:Addr) (h:Heap):Prop where
  inst:∃o od,InstAt h u o D (some od)
  cmp:h.CmpInst u D [.type "object"]
  e:∃o,K.lookup u=some o
theorem KI {α:Type} {l:List α} {n:Nat} (h:l.length=n+1):∃a r,l=a::r∧r.length=n:=by
  cases l with
  | nil=>exact nomatch h
  | cons a r=>exact ⟨a,r,rfl,Nat.succ.inj h⟩
theorem six {l:List (Option Value)} (h:(l.length==6&&(OV (l.getD 4 none)).isSome)=true):∃k0 k1 k2 k3 n k5,l=[k0,k1,k2,k3,some (.builtin n),k5]:=by
  obtain ⟨k0,r0,rfl,h0⟩:=KI (eq_of_beq (a1 h))
  obtain ⟨k1,r1,rfl,h1⟩:=KI h0
  obtain ⟨k2,r2,rfl,h2⟩:=KI h1
  obtain ⟨k3,r3,rfl,h3⟩:=KI h2
  obtain ⟨k4,r4,rfl,h4⟩:=KI h3
  obtain ⟨k5,r5,rfl,h5⟩:=KI h4
  cases List.eq_nil_of_length_eq_zero h5
  exact xE (Option.isSome_iff_exists.mp (a2 h)) fun n e=>⟨k0,k1,k2,k3,n,k5,(Ll e:k4=_)▸rfl⟩
theorem JO {o:Obj} {cd:ClassData} {D:Addr} {k0 k1 k2 k3 k5:Option Value} {n:String} (h1:o.cls=.type "type") (h2:o.data=.cls cd) (h3:cd.mro=[.ref D,.type "object"]) (h4:cd.hasDel=false) (h5:o.slots.toList=[k0,k1,k2,k3,some (.builtin n),k5]) :
    o=excClassObj cd.name cd.qualname D cd.ns cd.bases [.type "object"] cd.hasDict cd.slotNames cd.subclasses cd.abstract cd.collection o.dict k0 k1 k2 k3 k5 n:=by
  obtain ⟨c,d,da,⟨sl⟩⟩:=o
  obtain ⟨nm,bs,mro,ns,qn,hd,sn,sub,ab,col,del⟩:=cd
  cases h1;cases h2;cases h3;cases h4;cases h5
  rfl
theorem zO {K:Frag} {u D:Addr} (qI:VD K u D=true) (qC:VE K D=true) {h:Heap} (X:K.In h):Sp K u D h:=
  el qI fun o ho q=>el (a2 (a2 q)) fun dx MU q2=>xE (Option.isSome_iff_exists.mp q2) fun od YB=>el qC fun oc hC c=>el (a2 c) fun cd K4 c2=>Lf (six (a2 (a1 c))) fun k0 k1 k2 k3 z=>xk z fun n k5 hs=>
    have c3:=a2 c2
    have PW:=a1 (a2 c3)
    have e:=JO (eq_of_beq (a1 (a1 c))) (J0 K4) (eq_of_beq (a1 c2)) (nt (a1 c3)) hs
    ⟨⟨o,od,X _ _ ho,eq_of_beq (a1 q),a1 (a2 q),MU▸X _ _ YB⟩,⟨o,_,_,_,_,_,_,_,_,_,_,k0,k1,k2,k3,k5,n,_,X _ _ ho,eq_of_beq (a1 q),e▸X _ _ hC,.of_isNs (isNs_of_in X PW),nsMap_none_of_in X PW (eq_of_beq (a1 (a2 (a2 c3)))),nsMap_none_of_in X PW (eq_of_beq (a2 (a2 (a2 c3))))⟩,o,ho⟩
theorem both {α β:Type} {l:List α} {f g:α->β} {c:α->Bool} (h:l.map f=l.map g) (hc:l.all c=true) {x:α} (m:x∈l):c x=true∧f x=g x:=⟨List.all_eq_true.mp hc x m,List.map_inj_left.mp h x m⟩
theorem QD {α:Type} {o:Option α} {f:α->Bool} {a:α} (h:o.elim true f=true) (e:o=some a):f a=true:=by rw [e] at h;exact h
noncomputable def Pl (prog:Program) (w:World) (K:Frag) (D:Addr) (F:Facts K D) (h₀:Heap) (mg mb:Str->Option Value) (X:K.In h₀) (g:h₀.Ns mainGlobals mg) (b:h₀.Ns builtinsNs mb) (nolimit:h₀.NoLimit) (builtins:∀x:Str,x≠"__name__"->mb x=bootBuiltins x):Cx where
  prog:=prog
  w:=w
  K:=K
  h₀:=h₀
  mg:=mg
  mb:=mb
  cls:=fK K
  aA:=fK K .bz
  X:=X
  g:=g
  b:=b
  nolimit:=nolimit
  builtins:=builtins
  fa:=fK K
  ma:=Mi K
  qr:=Dp F.u
  M7:=fun x i h=>Lk (eq_of_beq (QD (f:=fun i=>vN (nsIn K mainGlobals (ah x))==some i) (wy F.i x) h))
  M5:=fun x y h=>OT (eq_of_beq (QD (f:=fun y=>vS (nsIn K mainGlobals (ah x))==some (ah y)) (wy F.s x) h))
  dM:=fun f p h=>by
    have q:=both F.fb F.f (CQ (l:=Nb) h)
    exact ⟨Dp (a1 q.1),Iq (a1 (a2 q.1)) q.2,a2 (a2 q.1)⟩
  oC:=fun c h=>have q:=List.all_eq_true.mp F.c c h;⟨Dp (a1 q),a2 q⟩
  aB:=fun c n p h=>by
    have q:=both F.mb F.m (CQ (l:=mL) h)
    exact ⟨zI (a1 q.1),a1 (a2 q.1),a1 (a2 (a2 q.1)),Iq (a2 (a2 (a2 q.1))) q.2⟩
  attr:=fun c n h=>by
    have:=List.all_eq_true.mp F.a c (DX h)
    unfold qx at this
    exact beq_iff_eq.mp (List.all_eq_true.mp this n h)
  kind:=fun c i h=>Lk (eq_of_beq (QD (f:=fun i=>vN (findIn K (.ref (fK K c)) (ah .b9))==some i) (List.all_eq_true.mp F.k c (GR h)) h))
  VT:=fun c h=>a1 (List.all_eq_true.mp F.n c h)
  VS:=fun c d h h2 hE=>(Bool.or_eq_true_iff.mp (List.all_eq_true.mp (a2 (List.all_eq_true.mp F.n c h)) d h2)).resolve_left fun e=>hE (eq_of_beq e)
  zL:=fun c n h=>by
    have:=List.all_eq_true.mp F.t c (DX h)
    unfold oG at this
    exact beq_iff_eq.mp (List.all_eq_true.mp this n h)
  M4:=fun {A s p items} hk ht hp hu=>by
    have S:=zO F.pI F.pC (X.keeps hk)
    have hE:fK K .bz≠p:=fun e=>xE S.e fun o ho=>cp ((e.symm▸hp:h₀.get? (fK K .bz)=none).symm.trans (X _ _ ho))
    have hb:(Value.ref D::[.type "object"]).contains (.type "tuple")=false:=by
      rw [List.contains_cons];rfl
    exact ⟨Fv PySem.F.cmp_object S.cmp hb ht hE (by exact Xk hu),Fu PySem.F.cmp_object S.cmp hb ht hE (by exact Rw hu)⟩
  JG:=fun {A s T P} hk hT q=>by
    have S:=zO F.pI F.pC (X.keeps hk)
    refine xk S.inst fun o od I=>?_
    have b:∀i {c},(Ls K D)[i]?=some c->c=true:=fun i _ e=>al F.p i e
    rcases hT with rfl | rfl
    · exact kin_callT (X.keeps hk) I (b 0 rfl) rfl (b 2 rfl) (b 3 rfl) (eq_of_beq (b 4 rfl)) (eq_of_beq (b 5 rfl)) (eq_of_beq (b 6 rfl)) (eq_of_beq (b 7 rfl)) (q _)
    · exact kin_callT (X.keeps hk) I (b 1 rfl) rfl (b 2 rfl) (b 3 rfl) (eq_of_beq (b 4 rfl)) (eq_of_beq (b 5 rfl)) (eq_of_beq (b 6 rfl)) (eq_of_beq (b 7 rfl)) (q _)
  wd:=fun f h=>beq_iff_eq.mp (List.all_eq_true.mp F.b f h)
theorem GU {C:Cx} {hp:Heap} {D:Addr->Prop}:∀{vs:List Value} {ns:List Int},IntsAre vs ns->bY C hp D (ns.map .int) vs
  | _,_,.nil=>rfl
  | _,_,.cons n t h=>⟨_,_,rfl,⟨t,rfl⟩,GU h⟩
theorem yv {C:Cx} {A:Around} {ee:Env} {s:Shared} {ns:List Int} {vs:List Value} {a:Addr} {m:Str->Option Value} {bb:List Stmt} (e:pN qy (Nd.xb bb).tr=bb) (he:rg ee.scope qy (Nd.xb bb).tr=true) (hv:ck ee) (hr:d9 A 80) (hk:∀b o,C.h₀.get? b=some o->s.heap.get? b=some o) (hg:s.gens=#[])
    (hL:C.h₀.IsList a vs.toArray) (hI:IntsAre vs ns) (hz:ns.length≤63) (ql:s.heap.Ns ee.locals m) (hm:m (ah .eY)=some (.ref a)) (hs:ee.kindOf (ah .eY)=some .local) (hf:C.h₀.get? ee.locals=none) :
    wpAny C.M A (execs bb ee) (fun f s'=>f=.ret (.bool true)∧(∀b o,C.h₀.get? b=some o->s'.heap.get? b=some o)∧s'.os=s.os∧s'.gens=#[]) c9 s:=by
  generalize (Nd.xb bb).tr=tr at e he
  subst e
  have YQ:∀b,dm (·=ee.locals) c7 b->b=ee.locals:=fun b d=>d.elim (fun d=>absurd rfl d) id
  have S:bp C (·=ee.locals) c7 s:=by
    refine ⟨hk,fun a d=>absurd rfl d,fun a o e=>(by subst e),hg,fun _ _=>rfl,fun b hb=>?_,fun b hb=>by rw [hb];exact hf⟩
    refine fR ql ?_;clear ql;intro o es ep ho _
    exact ⟨o,by rw [hb];exact ho⟩
  have L:bA C s.heap (·=ee.locals) c7 ee [(.eY,.xM (ns.map .int))]:=by
    refine ⟨rfl,fun d=>d rfl,m,ql,fun x av e=>?_⟩
    rw [Am,Cc] at e
    split at e
    · rename_i q;subst q;subst e
      refine ⟨.ref a,⟨a,vs,rfl,fun d=>?_,?_,GU hI⟩,.inl ⟨hs,hm⟩⟩
      · have:=YQ _ d
        refine bq hL ?_;clear hL;intro o ho _
        rw [this,hf] at ho;injection ho
      · refine bq hL ?_;clear hL;intro o ho r
        exact ⟨o,hk _ _ ho,r⟩
    · injection e
  refine wpAny_mono ((Jh (C:=C) (r:=80) hz (Nat.le_refl _)).d (·=ee.locals) A ee tr s he hv hr S L) (fun f s' h=>eX h fun fl ρ' ag h1 h2 h3 h4 h5=>?_) fun _ _ h=>h
  subst h5
  exact bq h1 fun v e1 e2=>⟨e1.trans (congrArg _ e2),h2.base,h3.os,h2.gens⟩
end Mine
end
end
section
set_option maxRecDepth 1000000
set_option maxHeartbeats 0
namespace Mine
noncomputable def clsAt (K:Frag) (u:Addr):Addr:=match K.lookup u with | some o=>(match o.cls with | .ref D=>D | _=>0) | none=>0
theorem facts (w:World):Facts (H.KK w.params) (clsAt (H.KK w.params) (fK (H.KK w.params) .bz)) where
  i:=by kernel_rfl
  s:=by kernel_rfl
  b:=by kernel_rfl
  c:=by kernel_rfl
  f:=by kernel_rfl
  fb:=by kernel_rfl
  a:=by kernel_rfl
  t:=by kernel_rfl
  k:=by kernel_rfl
  n:=by kernel_rfl
  m:=by kernel_rfl
  mb:=by kernel_rfl
  u:=by kernel_rfl
  pI:=by kernel_rfl
  pC:=by kernel_rfl
  p:=by kernel_rfl
theorem yi {l:List (Str×NameKind)} {y:Str} (h:l.all (fun y=>y.2 !=.cell)=true):¬l.lookup y=some .cell:=by
  induction l with
  | nil=>intro e;cases e
  | cons a l ih=>
    obtain ⟨x,k⟩:=a
    rw [List.all_cons,Bool.and_eq_true] at h
    rw [List.lookup_cons]
    split
    · intro e;cases e;simp at h
    · exact ih h.2
theorem holds:PySem.Challenge.rw_nt0234_01.Holds:=by
  w_on
  refine holds_law H.I4 fun I4=>?_
  refine holds_open (q:=H.vw) (loose:=H.lo) (Xt:=H.Xt) (XP:=XL H.vw []) (Yf:=Hook.obs H.HK) (Ya:=Hook.val H.HK) (YP:=Hook.says H.HK) (N:=20000) H.left (Hook.of H.HK) (Hook.keeps H.HK) (fun s e=>xl_of s (Bool.and_eq_true_iff.mp e).1) XL.keeps (by rfl) (by rfl) (by rfl) (fun s e=>recFacts_of (Bool.and_eq_true_iff.mp e).2) (by rfl) I4 (by decide +kernel) ⟨rfl,rfl,rfl,rfl,rfl,by decide +kernel⟩ ?hw ?hc
  case hw=>w_witness2
  intro w s₀ s₁ mg mb G Y fa o pm cd doc dV kV ho hd K4 hD V3 hg args vals as PU P6 Yu Mu Ow
  have KX:(H.KK w.params).In s₁.heap:=Y
  have X:=(Ground.X G).1
  have V:=(Ground.X G).2
  have GL:=glob_more (Ground.glob G (by decide +kernel) (by decide +kernel)) V
  refine Ground.open G ?_
  intro T B D TE TW
  try (refine guard_noD D (by decide +kernel) ?_;clear D)
  obtain ⟨_,_,M⟩:=bmod_of_top T
  have TA:=at_of_top T
  try (obtain ⟨_,_,he,B0⟩:=based_of_top T rfl V3 ho hd;have YO:cd=_:=he;subst YO;clear he)
  clear V3
  wrow_args PU P6 Yu Mu Ow
  all_goals (
    first | refine callC_kw (enter_call ?_) | refine enter_call ?_ | refine callC_kw (enter_callW ?_) | refine enter_callW ?_ | w_how
    w_top on
    try refine codeAny_mono ?_ (fun _ _ g=>GoodW.toG g)
    have K0:=below_caller (Top.heap T)
    w_call any ho hd K4 hD T F
    clear hd TA
    k_drop
    skip)
  rename_i w9 w8 w7 w6 w5 hs Im ZW MC jr w4 w3 w2 w1 w0 hL ra W1 r0 hI hr ZV hc h1 N0
  refine wpAny_mono (yv (C:=Pl Challenge.rw_nt0234_01.row.prog w _ _ (facts w) s₁.heap mg mb KX T.g T.b T.nolimit T.builtins) (ns:=w5) (vs:=w1) (a:=w2) ?_ ?_ ?_ ?_ F.keep hg hL hI ?_ F.ns ?_ ?_ ?_) ?_ ?_
  · kernel_rfl
  · kernel_rfl
  · exact ⟨rfl,rfl,rfl,fun y h=>absurd h (yi (by kernel_rfl))⟩
  · exact ⟨rfl,aw rfl,aw rfl⟩
  · omega
  · kernel_rfl
  · kernel_rfl
  · show s₁.heap.get? s₁.heap.objs.size=none
    cases e:s₁.heap.get? s₁.heap.objs.size with
    | none=>rfl
    | some o=>exact absurd (Heap.lt_size e) (Nat.lt_irrefl _)
  · rintro f s' ⟨rfl,hk,Yz,hg⟩
    refine ⟨.inl ⟨.bool true,.bool true,[],rfl,fun _=>rfl,?_,?_,fun _=>⟨.nil,nofun⟩⟩,hk,Yz,hg⟩
    · exact .bool _
    · first | rfl | kernel_rfl | (simp;done)
  · exact fun _ _ h=>h.elim
end Mine
end
theorem PySem.Challenge.cw_nt0234_01_holds : PySem.Challenge.rw_nt0234_01.Holds :=
  Mine.holds

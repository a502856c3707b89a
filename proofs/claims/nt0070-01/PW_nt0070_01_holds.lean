import PyProof.Rows.All
import Wide.All
import OpenK.AllK
import Wide.FinOn
import Lean
import PySem.Challenge.RW_nt0070_01
set_option Elab.async false
set_option maxRecDepth 100000
set_option linter.all false
set_option genInjectivity false
set_option tactic.hygienic false
set_option maxHeartbeats 8000000
set_option genSizeOf false
set_option bootstrap.genMatcherCode false
namespace Hd.Internal
open PySem PySem.W PySem.Calls PyProof.Rows
noncomputable abbrev pw:Program:=PySem.Challenge.rw_nt0070_01.row.toRowW.1
noncomputable abbrev S (s:String):Str:=Str.ofString s
noncomputable abbrev r (a:Addr):Value:=.ref a
noncomputable abbrev i (n:Int) (t:Tok):Value:=.int n t
noncomputable abbrev s (x:String) (t:Tok):Value:=.str (Str.ofString x) t
noncomputable abbrev t (x:String):Value:=.type x
noncomputable def e (P:Params) (k:String) (n:Tok) (v:Value):DictEntry:=⟨PyData.keyHash P (Str.ofString k),.str (Str.ofString k) n,v⟩
noncomputable def tu (xs:Array Value):Obj:=⟨.type "tuple",none,.seq xs 0,#[]⟩
noncomputable def fi (c:Value) (xs:Array Value):Obj:=⟨c,none,.fields xs,#[]⟩
noncomputable def sv (k:Tok) (l:List String):Obj:=tu (l.mapIdx λi x=>s x (k+i)).toArray
noncomputable def tS (k:Nat):Stmt:=(pw.main.body[k]?).getD (.Pass default)
noncomputable def mS (k j:Nat):Stmt:=match tS k with
 | .ClassDef J ζ η b θ μ ν ξ π υ δ=>(b[j]?).getD (.Pass default)
 | x=>x
noncomputable def fo (st:Stmt) (c:Value) (q:String) (g:Addr) (df kd doc md code ct:Value):Obj:=match st with
 | .FunctionDef n ps b J ζ η sc θ μ ν=>⟨c,none,.func ⟨n,Str.ofString q,ps,.stmts b,sc,g,[],df,kd,doc,md,none,code,ct,0⟩,#[]⟩
 | J=>tu #[]
noncomputable def f0 (st:Stmt) (q:String):Obj:=fo st .none q 0 .none .none .none .none .none .none
noncomputable def f1 (st:Stmt) (q:String) (df:Value) (m:String) (mt:Tok) (code:Addr):Obj:=fo st (t "function") q 3 df .none .none (s m mt) (r code) .none
noncomputable def cC (q n:String) (a:Tok) (ln ac fl:Int) (x:Addr) (u v w:Value) (b:Tok):Obj:=
 fi (t "code") #[s q a,s n (a+1),s "/claim/cut.py" (a+2),i ln 0,i ac 0,i 0 0,i 0 0,i fl 0,r x,.bool true,i 181 0,r (x+1),.none,u,v,w,i b 0,i ln 0,s "/claim/cut.py" (b+1)]
noncomputable def cA (q:String) (a:Tok) (ln ac fl:Int) (x:Addr) (b:Tok):Obj:=cC q q a ln ac fl x (r (x+2)) (r (x+3)) (r (x+4)) b
noncomputable def cB (q:String) (a:Tok) (ln ac fl:Int) (x:Addr) (b:Tok):Obj:=cC q q a ln ac fl x .none .none (r (x+2)) b
noncomputable abbrev nd:=BT.node
noncomputable abbrev lf (o:Obj):BT:=.node o .nil .nil
noncomputable def es (P:Params):List DictEntry:=[e P "__doc__" 166 (.none),
 e P "__package__" 167 (.none),
 e P "__loader__" 168 (.builtin "__main__.__loader__#opaque"),
 e P "__spec__" 169 (.none),
 e P "__annotations__" 170 (r 6),
 e P "__builtins__" 171 (r 4),
 e P "__file__" 173 (s "/claim/cut.py" 172),
 e P "__cached__" 174 (.none),
 e P "_wall" 193 (r 21),
 e P "MAX_CODE" 197 (i 1114111 196),
 e P "HIGH_FIRST" 199 (i 55296 198),
 e P "LOW_LAST" 201 (i 57343 200),
 e P "UniError" 230 (r 39),
 e P "BadLabel" 246 (r 52),
 e P "BadTable" 262 (r 64),
 e P "is_code" 269 (r 73),
 e P "is_surrogate" 276 (r 80),
 e P "is_scalar" 283 (r 87),
 e P "place_by_half" 294 (r 94),
 e P "SYLLABLE_FIRST" 298 (i 44032 297),
 e P "LEAD_FIRST" 300 (i 4352 299),
 e P "VOWEL_FIRST" 302 (i 4449 301),
 e P "TAIL_NONE" 304 (i 4519 303),
 e P "LEADS" 306 (i 19 305),
 e P "VOWELS" 308 (i 21 307),
 e P "TAILS" 310 (i 28 309),
 e P "SYLLABLES" 313 (i 11172 312),
 e P "is_hangul_syllable" 320 (r 101),
 e P "hangul_numbers" 328 (r 108),
 e P "hangul_parts" 338 (r 115),
 e P "hangul_pair" 348 (r 122),
 e P "form_mapping" 361 (r 129),
 e P "form_expanded" 376 (r 136),
 e P "ordered" 388 (r 143),
 e P "form_sorted" 394 (r 148),
 e P "decomposed" 405 (r 156),
 e P "primary_composites" 417 (r 163),
 e P "form_is_primary" 426 (r 170),
 e P "Composer" 477 (r 201),
 e P "composed" 492 (r 213),
 e P "form_of" 503 (r 221),
 e P "nfc" 511 (r 228),
 e P "form_quick" 522 (r 235),
 e P "quick_check" 537 (r 243),
 e P "is_form" 548 (r 251),
 e P "HYPHEN_punycode" 552 (i 45 551),
 e P "SMALL_A" 554 (i 97 553),
 e P "CAPITAL_A" 556 (i 65 555),
 e P "NOUGHT" 558 (i 48 557),
 e P "LETTERS" 560 (i 26 559),
 e P "FIGURES" 562 (i 10 561),
 e P "PunyNumbers" 631 (r 283),
 e P "puny_value" 638 (r 294),
 e P "puny_number_at" 653 (r 301),
 e P "puny_basic" 661 (r 308),
 e P "puny_split" 669 (r 315),
 e P "puny_is_capital" 676 (r 322),
 e P "decode_annotated" 694 (r 330),
 e P "decode_label" 702 (r 338),
 e P "STOP" 706 (i 46 705),
 e P "HYPHEN_idna" 708 (i 45 707),
 e P "PREFIX" 713 (r 339),
 e P "NON_JOINER" 715 (i 8204 714),
 e P "JOINER" 717 (i 8205 716),
 e P "VIRAMA" 719 (i 9 718),
 e P "MARKS" 723 (r 340),
 e P "MIDDLE_DOT" 725 (i 183 724),
 e P "SMALL_L" 727 (i 108 726),
 e P "GREEK_SIGN" 729 (i 885 728),
 e P "HEBREW_SIGNS" 732 (r 341),
 e P "KANA_DOT" 734 (i 12539 733),
 e P "KANA_SCRIPTS" 738 (r 342),
 e P "ARABIC_ZERO" 740 (i 1632 739),
 e P "FURTHER_ZERO" 742 (i 1776 741),
 e P "RIGHT_CLASSES" 753 (r 343),
 e P "LEFT_CLASSES" 762 (r 344),
 e P "IdnaFlags" 803 (r 362),
 e P "idna_is_plain" 810 (r 373),
 e P "idna_status" 821 (r 380),
 e P "idna_mapped" 836 (r 387),
 e P "map_label" 850 (r 395),
 e P "idna_labels" 859 (r 402),
 e P "idna_is_ascii" 865 (r 407),
 e P "idna_joins" 877 (r 414),
 e P "idna_may_join" 886 (r 421),
 e P "idna_has_digit" 892 (r 426),
 e P "idna_has_company" 898 (r 431),
 e P "idna_classes" 904 (r 436),
 e P "idna_is_mixed" 914 (r 443),
 e P "idna_last_class" 922 (r 450),
 e P "idna_has_one_way" 928 (r 455),
 e P "idna_hyphen_words" 937 (r 462),
 e P "idna_code_words" 950 (r 469),
 e P "idna_label_words" 963 (r 476),
 e P "idna_opened" 974 (r 483),
 e P "idna_shown" 983 (r 490),
 e P "idna_settled" 992 (r 497),
 e P "process" 1007 (r 504),
 e P "range_are_like" 1017 (r 511),
 e P "RangeMap" 1085 (r 554),
 e P "range_rows" 1097 (r 565),
 e P "data_defaults" 1107 (r 572),
 e P "Data" 1166 (r 610),
 e P "_law_rows" 1341 (r 615),
 e P "_law_pool" 1365 (r 665),
 e P "_law_deck" 1371 (r 670),
 e P "_law_draw" 1379 (r 677),
 e P "_law_data" 1396 (r 684),
 e P "_law_mapped" 1413 (r 691),
 e P "_law_two_way" 1419 (r 696),
 e P "_law_is_joined" 1425 (r 701),
 e P "law" 1431 (r 706)]
noncomputable def gd (P:Params) (n:Nat) (x:String) (k:Tok):Obj:=⟨t "dict",none,.dict ((e P "__name__" 165 (s x k))::(es P).take (n-1)).toArray n,#[]⟩
noncomputable def cs:List Value:=[i 1 0,i 0 0,r 20,i 8 0,i 0 0,r 27,i 12 0,i 0 0,r 48,i 14 0,i 0 0,r 60,i 16 0,i 0 0,r 72,i 18 0,i 0 0,r 79,i 20 0,i 0 0,r 86,i 22 0,i 0 0,r 93,i 41 0,i 0 0,r 100,i 43 0,i 0 0,r 107,i 46 0,i 0 0,r 114,i 53 0,i 0 0,r 121,i 62 0,i 0 0,r 128,i 70 0,i 0 0,r 135,i 89 0,i 0 0,r 142,i 101 0,i 0 0,r 147,i 103 0,i 0 0,r 155,i 108 0,i 0 0,r 162,i 117 0,i 0 0,r 169,i 121 0,i 0 0,r 176,i 136 0,i 0 0,r 212,i 152 0,i 0 0,r 220,i 155 0,i 0 0,r 227,i 157 0,i 0 0,r 234,i 164 0,i 0 0,r 242,i 176 0,i 0 0,r 250,i 187 0,i 0 0,r 257,i 210 0,i 0 0,r 293,i 218 0,i 0 0,r 300,i 233 0,i 0 0,r 307,i 235 0,i 0 0,r 314,i 242 0,i 0 0,r 321,i 244 0,i 0 0,r 329,i 269 0,i 0 0,r 337,i 289 0,i 0 0,r 350,i 299 0,i 0 0,r 372,i 301 0,i 0 0,r 379,i 308 0,i 0 0,r 386,i 325 0,i 0 0,r 394,i 334 0,i 0 0,r 401,i 342 0,i 0 0,r 406,i 344 0,i 0 0,r 413,i 351 0,i 0 0,r 420,i 357 0,i 0 0,r 425,i 359 0,i 0 0,r 430,i 376 0,i 0 0,r 435,i 378 0,i 0 0,r 442,i 384 0,i 0 0,r 449,i 389 0,i 0 0,r 454,i 401 0,i 0 0,r 461,i 406 0,i 0 0,r 468,i 415 0,i 0 0,r 475,i 431 0,i 0 0,r 482,i 440 0,i 0 0,r 489,i 446 0,i 0 0,r 496,i 452 0,i 0 0,r 503,i 465 0,i 0 0,r 510,i 467 0,i 0 0,r 517,i 497 0,i 0 0,r 564,i 504 0,i 0 0,r 571,i 516 0,i 0 0,r 578,i 539 0,i 0 0,r 669,i 544 0,i 0 0,r 676,i 549 0,i 0 0,r 683,i 559 0,i 0 0,r 690,i 576 0,i 0 0,r 695,i 584 0,i 0 0,r 700,i 592 0,i 0 0,r 705]
noncomputable def treeF (P:Params):BT:=
 nd (PySem.W.boot_o_0 P)
 (nd (PySem.W.boot_o_1 P)
 (nd (gd P 113 "law_nt0070_01" 1167)
 (nd (PySem.W.boot_o_7 P)
 (nd (tu #[])
 (nd (fi .none #[])
 (nd (⟨t "dict",none,(PySem.Data.dict #[e P "__module__" 254 (s "unicore.base" 194),e P "__firstlineno__" 258 (i 14 257),e P "__static_attributes__" 259 (r 62),e P "__doc__" 260 (.none)] 2),#[]⟩)
 (nd (f0 (tS 26) "form_mapping")
 (nd (tu #[])
 (lf (f1 (tS 96) "range_are_like" .none "unicore.ranges" 1008 510)) (.nil)) (nd (sv 825 ["code","data","is_transitional","only_letters","status","told","found","other","further"])
 (lf (tu #[s "valid" 1251,r 638,s "Mn" 1252,i 9 1253,s "T" 1254,s "NSM" 1255])) (.nil))) (nd (f1 (mS 33 1) "Composer.pair" .none "unicore.forms" 349 190)
 (nd (tu #[])
 (lf (⟨t "dict",none,(PySem.Data.dict #[e P "__module__" 1115 (s "unicore.data" 1098),e P "__qualname__" 1117 (s "Data" 1116),e P "__firstlineno__" 1119 (i 516 1118),e P "__init__" 1126 (r 586),e P "put" 1137 (r 593),e P "get" 1146 (r 600),e P "map_of" 1154 (r 607),e P "__static_attributes__" 1159 (r 608)] 8),#[]⟩)) (.nil)) (nd (tu #[])
 (lf (fi .none #[])) (.nil)))) (nd (tu #[])
 (nd (sv 409 ["data","found","first","last","told","code"])
 (nd (fi (t "builtin_function_or_method") #[.builtin "object.__init_subclass__",r 283])
 (lf (cC "ranges" "RangeMap.ranges" 1061 492 1 3 540 .none .none (r 542) 1064)) (.nil)) (nd (tu #[])
 (lf (tu #[])) (.nil))) (nd (fi .none #[])
 (nd (⟨t "frame",none,.plain,#[some (r 350),some (r 3),some (r 347),none,some (s "unicore.idna" 703),none,some (r 0)]⟩)
 (lf (f1 (mS 101 3) "Data.map_of" .none "unicore.data" 1098 606)) (.nil)) (lf (sv 967 ["label","data","flags","shown","words"]))))) (nd (fi .none #[])
 (nd (cA "is_surrogate" 270 18 1 3 74 274)
 (nd (f1 (tS 28) "ordered" .none "unicore.forms" 349 142)
 (nd (f0 (mS 47 1) "PunyNumbers.threshold")
 (lf (fi .none #[])) (.nil)) (nd (tu #[])
 (lf (tu #[])) (.nil))) (nd (tu #[])
 (nd (tu #[])
 (lf (f0 (mS 101 1) "Data.put")) (.nil)) (lf (tu #[])))) (nd (sv 332 ["code","lead","vowel","tail"])
 (nd (fi .none #[i 123 0,i 4 0,r 183,i 129 0,i 4 0,r 190,i 133 0,i 4 0,r 197])
 (nd (fi .none #[])
 (lf (tu #[])) (.nil)) (nd (f1 (tS 83) "idna_has_company" .none "unicore.idna" 703 430)
 (lf (sv 1400 ["page","is_transitional","faults","found","code","status","others","other","is_more","go","k"])) (.nil))) (nd (sv 526 ["text","data","word","composer","found","ahead","code","weight","told"])
 (nd (tu #[])
 (lf (tu #[s "mapped" 1191,r 622,s "Lu" 1193,i 0 1194,s "U" 1195,s "L" 1196])) (.nil)) (lf (f0 (tS 93) "idna_settled")))))) (nd (fi (t "builtin_function_or_method") #[.builtin "type.__prepare__",t "type"])
 (nd (⟨t "type",none,(PySem.Data.cls (PySem.ClassData.mk (S "UniError") [t "Exception"] [r 39,t "Exception",t "BaseException",t "object"] 38 (S "UniError") true [] [r 52,r 64] false none false)),#[some (r 22),none,some (s "UniError" 202),some (s "UniError" 210),some (.builtin "Exception.__new__"),some (.bool true)]⟩)
 (nd (f0 (tS 8) "is_code")
 (nd (cA "form_expanded" 362 70 3 3 130 374)
 (nd (tu #[])
 (lf (tu #[])) (.nil)) (nd (sv 840 ["text","data","is_transitional","only_letters","found","words","code","told"])
 (lf (tu #[s "valid" 1279,r 646,s "Lo" 1280,i 0 1281,s "D" 1282,s "AL" 1283])) (.nil))) (nd (sv 468 ["pairs","seconds"])
 (nd (tu #[])
 (lf (tu #[])) (.nil)) (lf (f1 (tS 87) "idna_has_one_way" .none "unicore.idna" 703 454)))) (nd (fi .none #[])
 (nd (tu #[])
 (nd (tu #[])
 (lf (f1 (mS 97 4) "RangeMap.set_of" .none "unicore.ranges" 1008 550)) (.nil)) (nd (fi .none #[])
 (lf (fi .none #[])) (.nil))) (nd (sv 515 ["code","data","word","composer","first"])
 (nd (f1 (mS 73 0) "IdnaFlags.__init__" (r 352) "unicore.idna" 703 358)
 (lf (⟨t "dict",none,(PySem.Data.dict #[(PySem.DictEntry.mk 98 (i 98 1169) (r 617)),(PySem.DictEntry.mk 49 (i 49 1176) (r 619)),(PySem.DictEntry.mk 45 (i 45 1183) (r 621)),(PySem.DictEntry.mk 65 (i 65 1190) (r 623)),(PySem.DictEntry.mk 97 (i 97 1198) (r 625)),(PySem.DictEntry.mk 95 (i 95 1205) (r 627)),(PySem.DictEntry.mk 173 (i 173 1212) (r 629)),(PySem.DictEntry.mk 223 (i 223 1219) (r 631)),(PySem.DictEntry.mk 7838 (i 7838 1228) (r 633)),(PySem.DictEntry.mk 8226 (i 8226 1236) (r 635)),(PySem.DictEntry.mk 769 (i 769 1243) (r 637)),(PySem.DictEntry.mk 2381 (i 2381 1250) (r 639)),(PySem.DictEntry.mk 2307 (i 2307 1257) (r 641)),(PySem.DictEntry.mk 8204 (i 8204 1264) (r 643)),(PySem.DictEntry.mk 8205 (i 8205 1271) (r 645)),(PySem.DictEntry.mk 1576 (i 1576 1278) (r 647)),(PySem.DictEntry.mk 1575 (i 1575 1285) (r 649)),(PySem.DictEntry.mk 1488 (i 1488 1292) (r 652)),(PySem.DictEntry.mk 1632 (i 1632 1298) (r 654)),(PySem.DictEntry.mk 183 (i 183 1304) (r 656)),(PySem.DictEntry.mk 37 (i 37 1310) (r 658)),(PySem.DictEntry.mk 44 (i 44 1316) (r 660)),(PySem.DictEntry.mk 43122 (i 43122 1322) (r 662)),(PySem.DictEntry.mk 115 (i 115 1328) (r 664))] 24),#[]⟩)) (.nil)) (lf (tu #[]))))) (nd (tu #[r 39])
 (nd (f1 (tS 10) "is_scalar" .none "unicore.base" 194 86)
 (nd (fi .none #[])
 (nd (cC "adapted" "PunyNumbers.adapted" 606 202 4 3 274 (r 276) (r 277) (r 278) 614)
 (lf (sv 1049 ["self","first","last","value","low","high","behind","starts","values"])) (.nil)) (nd (f1 (tS 79) "idna_is_ascii" .none "unicore.idna" 703 406)
 (lf (tu #[])) (.nil))) (nd (tu #[])
 (nd (sv 743 ["R","AL","AN","EN","ES","CS","ET","ON","BN","NSM"])
 (lf (cC "get" "Data.get" 1138 527 3 3 594 (r 596) (r 597) (r 598) 1144)) (.nil)) (lf (fi .none #[])))) (nd (tu #[])
 (nd (cC "__init__" "Composer.__init__" 439 123 2 3 178 (r 180) (r 181) (r 182) 446)
 (nd (sv 665 ["octets","at"])
 (lf (fi .none #[])) (.nil)) (nd (sv 908 ["labels","data","label","word"])
 (lf (cB "_law_two_way" 1414 576 1 3 692 1417)) (.nil))) (nd (sv 541 ["text","data","word","composer","told"])
 (nd (fi .none #[])
 (lf (tu #[s "deviation" 1220,r 630,s "Ll" 1223,i 0 1224,s "U" 1225,s "L" 1226])) (.nil)) (lf (cA "process" 993 452 3 3 498 1005))))))) (nd (tu #[])
 (nd (f0 (tS 0) "_wall")
 (nd (cC "__init__" "UniError.__init__" 214 10 2 3 30 (r 32) (r 33) (r 34) 219)
 (nd (tu #[])
 (nd (fi .none #[])
 (nd (tu #[i 36 575,i 1 576,i 26 577,i 38 578,i 700 579,i 72 580,i 128 581])
 (lf (tu #[])) (.nil)) (nd (f1 (tS 76) "idna_mapped" .none "unicore.idna" 703 386)
 (lf (tu #[s "deviation" 1265,r 642,s "Cf" 1266,i 0 1267,s "U" 1268,s "BN" 1269])) (.nil))) (nd (tu #[])
 (nd (tu #[.none])
 (lf (⟨t "frame",none,.plain,#[some (r 578),some (r 3),some (r 575),none,some (s "unicore.data" 1098),none,some (r 0)]⟩)) (.nil)) (lf (tu #[])))) (nd (f0 (tS 21) "is_hangul_syllable")
 (nd (f1 (tS 31) "primary_composites" .none "unicore.forms" 349 162)
 (nd (tu #[])
 (lf (sv 1070 ["self","value"])) (.nil)) (nd (f0 (tS 81) "idna_may_join")
 (lf (f0 (tS 106) "_law_draw")) (.nil))) (nd (cA "nfc" 504 155 2 3 222 509)
 (nd (sv 778 ["self","is_transitional","only_letters","hyphens","joiners","directions","contexts","lengths"])
 (lf (fi (t "getset_descriptor") #[s "__dict__" 1160,r 610,.builtin "function.__dict__",.builtin "function.__dict__#set"])) (.nil)) (lf (f1 (tS 91) "idna_opened" .none "unicore.idna" 703 482))))) (nd (⟨t "dict",none,(PySem.Data.dict #[e P "__module__" 238 (s "unicore.base" 194),e P "__firstlineno__" 242 (i 12 241),e P "__static_attributes__" 243 (r 50),e P "__doc__" 244 (.none)] 2),#[]⟩)
 (nd (sv 280 ["number"])
 (nd (cB "form_sorted" 389 101 1 3 144 392)
 (nd (fi .none #[])
 (lf (cC "get" "RangeMap.get" 1038 474 2 3 526 (r 528) (r 529) (r 530) 1043)) (.nil)) (nd (tu #[])
 (lf (tu #[])) (.nil))) (nd (f0 (tS 34) "composed")
 (nd (⟨t "list",none,(PySem.Data.seq #[i 120 709,i 110 710,i 45 711,i 45 712] 0),#[]⟩)
 (lf (fi .none #[])) (.nil)) (lf (f0 (tS 89) "idna_code_words")))) (nd (f1 (tS 23) "hangul_parts" .none "unicore.hangul" 295 114)
 (nd (fi .none #[])
 (nd (cA "puny_basic" 654 233 2 3 302 659)
 (lf (f0 (tS 98) "range_rows")) (.nil)) (nd (cB "idna_classes" 899 376 2 3 432 902)
 (lf (f1 (tS 108) "_law_mapped" .none "law_nt0070_01" 1167 690)) (.nil))) (nd (f1 (tS 38) "quick_check" (r 236) "unicore.forms" 349 242)
 (nd (f0 (tS 74) "idna_is_plain")
 (lf (tu #[s "valid" 1206,r 626,s "Pc" 1207,i 0 1208,s "U" 1209,s "ON" 1210])) (.nil)) (lf (fi .none #[])))))) (nd (fi (t "code") #[s "UniError" 204,s "UniError" 205,s "/claim/cut.py" 206,i 8 0,i 0 0,i 0 0,i 0 0,i 0 0,r 25,.bool false,i 181 0,r 26,.none,.none,.none,.none,i 207 0,i 8 0,s "/claim/cut.py" 208])
 (nd (tu #[r 39])
 (nd (fi .none #[])
 (nd (sv 380 ["text","data","found","run","code","weight"])
 (nd (tu #[])
 (lf (f0 (mS 97 0) "RangeMap.__init__")) (.nil)) (nd (f1 (tS 77) "map_label" (r 388) "unicore.idna" 703 394)
 (lf (tu #[])) (.nil))) (nd (fi (t "getset_descriptor") #[s "__weakref__" 473,r 201,.builtin "ExceptionGroup.__weakref__",.none])
 (nd (tu #[.none])
 (lf (tu #[])) (.nil)) (lf (tu #[])))) (nd (cA "hangul_numbers" 321 43 1 3 102 326)
 (nd (tu #[])
 (nd (f0 (tS 49) "puny_number_at")
 (lf (fi (t "getset_descriptor") #[s "__dict__" 1079,r 554,.builtin "function.__dict__",.builtin "function.__dict__#set"])) (.nil)) (nd (tu #[])
 (lf (cA "_law_data" 1380 549 0 3 678 1394)) (.nil))) (nd (f1 (tS 37) "form_quick" .none "unicore.forms" 349 234)
 (nd (fi (t "getset_descriptor") #[s "__dict__" 797,r 362,.builtin "function.__dict__",.builtin "function.__dict__#set"])
 (lf (tu #[s "valid" 1177,r 618,s "Nd" 1178,i 0 1179,s "U" 1180,s "EN" 1181])) (.nil)) (lf (tu #[]))))) (nd (fi .none #[])
 (nd (tu #[])
 (nd (cA "decomposed" 395 103 3 3 150 403)
 (nd (⟨t "type",none,(PySem.Data.cls (PySem.ClassData.mk (S "PunyNumbers") [t "object"] [r 283,t "object"] 282 (S "PunyNumbers") true [] [] false none false)),#[none,none,some (s "PunyNumbers" 563),some (s "PunyNumbers" 571),some (.builtin "object.__new__"),some (.bool true)]⟩)
 (lf (f1 (mS 97 2) "RangeMap.put" .none "unicore.ranges" 1008 538)) (.nil)) (nd (tu #[])
 (lf (fi .none #[])) (.nil))) (nd (f0 (tS 35) "form_of")
 (nd (⟨t "dict",none,(PySem.Data.dict #[e P "__module__" 770 (s "unicore.idna" 703),e P "__qualname__" 772 (s "IdnaFlags" 771),e P "__firstlineno__" 774 (i 289 773),e P "__init__" 788 (r 359),e P "__static_attributes__" 796 (r 360)] 5),#[]⟩)
 (lf (sv 1150 ["self","name"])) (.nil)) (lf (cA "idna_label_words" 951 415 4 3 470 961)))) (nd (tu #[])
 (nd (sv 452 ["self","one","other","found"])
 (nd (f1 (tS 51) "puny_split" .none "unicore.punycode" 549 314)
 (lf (cA "data_defaults" 1100 504 0 3 566 1105)) (.nil)) (nd (f1 (tS 85) "idna_is_mixed" .none "unicore.idna" 703 442)
 (lf (f0 (tS 110) "_law_is_joined")) (.nil))) (nd (f1 (tS 39) "is_form" (r 244) "unicore.forms" 349 250)
 (nd (cA "idna_status" 811 301 3 3 374 819)
 (lf (tu #[s "disallowed" 1237,r 634,s "Po" 1238,i 0 1239,s "U" 1240,s "ON" 1241])) (.nil)) (lf (sv 1013 ["one","other"])))))))) (nd (PySem.W.boot_o_5 P)
 (nd (PySem.W.boot_o_9 P)
 (nd (sv 190 ["k"])
 (nd (tu #[])
 (nd (fi (t "super") #[r 64,r 64,r 64])
 (nd (f1 (tS 26) "form_mapping" .none "unicore.forms" 349 128)
 (nd (fi (t "code") #[s "PunyNumbers" 565,s "PunyNumbers" 566,s "/claim/cut.py" 567,i 187 0,i 0 0,i 0 0,i 0 0,i 0 0,r 255,.bool false,i 181 0,r 256,.none,.none,.none,.none,i 568 0,i 187 0,s "/claim/cut.py" 569])
 (lf (fi (t "builtin_function_or_method") #[.builtin "type.__prepare__",t "type"])) (.nil)) (nd (f0 (tS 76) "idna_mapped")
 (lf (tu #[s "valid" 1258,r 640,s "Mc" 1259,i 0 1260,s "U" 1261,s "L" 1262])) (.nil))) (nd (fi .none #[])
 (nd (cA "puny_is_capital" 670 242 1 3 316 674)
 (lf (fi .none #[i 518 0,i 4 0,r 585,i 524 0,i 4 0,r 592,i 527 0,i 4 0,r 599,i 532 0,i 4 0,r 606])) (.nil)) (nd (cA "idna_last_class" 915 384 1 3 444 920)
 (lf (cB "law" 1426 592 1 3 702 1429)) (.nil)))) (nd (sv 317 ["code"])
 (nd (f0 (tS 31) "primary_composites")
 (nd (fi .none #[])
 (lf (tu #[])) (.nil)) (nd (sv 881 ["label","at","data"])
 (lf (sv 1375 ["deck","many"])) (.nil))) (nd (tu #[])
 (nd (tu #[])
 (lf (⟨t "dict",none,(PySem.Data.dict #[e P "__module__" 1115 (s "unicore.data" 1098),e P "__firstlineno__" 1119 (i 516 1118),e P "__init__" 1126 (r 586),e P "put" 1137 (r 593),e P "get" 1146 (r 600),e P "map_of" 1154 (r 607),e P "__static_attributes__" 1159 (r 608),e P "__dict__" 1161 (r 611),e P "__weakref__" 1163 (r 612),e P "__doc__" 1164 (.none)] 4),#[]⟩)) (.nil)) (lf (f0 (tS 91) "idna_opened"))))) (nd (⟨t "frame",none,.plain,#[some (r 48),some (r 3),some (r 45),none,some (s "unicore.base" 194),none,some (r 0)]⟩)
 (nd (tu #[])
 (nd (fi .none #[])
 (nd (f1 (mS 47 1) "PunyNumbers.threshold" .none "unicore.punycode" 549 272)
 (lf (tu #[])) (.nil)) (nd (cA "idna_labels" 851 334 1 3 396 857)
 (lf (tu #[])) (.nil))) (nd (sv 481 ["text","data","composer","found","starter","most","code","weight","pair"])
 (nd (cA "decode_label" 695 269 2 3 332 700)
 (lf (f1 (mS 101 1) "Data.put" .none "unicore.data" 1098 592)) (.nil)) (lf (sv 941 ["label","data","flags","is_encoded","code","status","may_deviate"])))) (nd (f0 (tS 23) "hangul_parts")
 (nd (⟨t "frame",none,.plain,#[some (r 176),some (r 3),some (r 173),none,some (s "unicore.forms" 349),none,some (r 0)]⟩)
 (nd (tu #[])
 (lf (sv 1089 ["range_map","starts","found","at","value","last"])) (.nil)) (nd (fi .none #[])
 (lf (f0 (tS 108) "_law_mapped")) (.nil))) (nd (f0 (tS 38) "quick_check")
 (nd (sv 807 ["code"])
 (lf (tu #[s "valid" 1199,r 624,s "Ll" 1200,i 0 1201,s "U" 1202,s "L" 1203])) (.nil)) (lf (f1 (tS 93) "idna_settled" .none "unicore.idna" 703 496)))))) (nd (tu #[])
 (nd (fi (t "super") #[r 39,r 39,r 39])
 (nd (f1 (tS 8) "is_code" .none "unicore.base" 194 72)
 (nd (tu #[])
 (nd (cC "__init__" "PunyNumbers.__init__" 582 189 8 3 260 (r 262) (r 263) (r 264) 593)
 (lf (sv 1033 ["self","default"])) (.nil)) (nd (f0 (tS 77) "map_label")
 (lf (tu #[s "valid" 1286,r 648,s "Lo" 1287,i 0 1288,s "R" 1289,s "AL" 1290])) (.nil))) (nd (⟨t "type",none,(PySem.Data.cls (PySem.ClassData.mk (S "Composer") [t "object"] [r 201,t "object"] 200 (S "Composer") true [] [] false none false)),#[none,none,some (s "Composer" 427),some (s "Composer" 435),some (.builtin "object.__new__"),some (.bool true)]⟩)
 (nd (cA "decode_annotated" 677 244 2 3 324 692)
 (lf (cC "__init__" "Data.__init__" 1120 518 1 3 580 (r 582) (r 583) (r 584) 1124)) (.nil)) (lf (fi .none #[])))) (nd (tu #[])
 (nd (cA "form_is_primary" 418 117 3 3 164 424)
 (nd (sv 642 ["octets","at","bias","numbers","value","weight","place","figure","least"])
 (lf (⟨t "dict",none,(PySem.Data.dict #[e P "__module__" 1025 (s "unicore.ranges" 1008),e P "__firstlineno__" 1029 (i 467 1028),e P "__init__" 1037 (r 525),e P "get" 1045 (r 532),e P "put" 1060 (r 539),e P "ranges" 1066 (r 544),e P "set_of" 1074 (r 551),e P "__static_attributes__" 1078 (r 552),e P "__dict__" 1080 (r 555),e P "__weakref__" 1082 (r 556),e P "__doc__" 1083 (.none)] 4),#[]⟩)) (.nil)) (nd (cB "idna_has_digit" 887 357 2 3 422 890)
 (lf (tu #[])) (.nil))) (nd (f0 (tS 37) "form_quick")
 (nd (⟨t "dict",none,(PySem.Data.dict #[e P "__module__" 770 (s "unicore.idna" 703),e P "__firstlineno__" 774 (i 289 773),e P "__init__" 788 (r 359),e P "__static_attributes__" 796 (r 360),e P "__dict__" 798 (r 363),e P "__weakref__" 800 (r 364),e P "__doc__" 801 (.none)] 4),#[]⟩)
 (lf (tu #[s "valid" 1170,r 616,s "Ll" 1171,i 0 1172,s "U" 1173,s "L" 1174])) (.nil)) (lf (cA "idna_shown" 975 440 3 3 484 981))))) (nd (⟨t "dict",none,(PySem.Data.dict #[e P "__module__" 254 (s "unicore.base" 194),e P "__qualname__" 256 (s "BadTable" 255),e P "__firstlineno__" 258 (i 14 257),e P "__static_attributes__" 259 (r 62)] 4),#[]⟩)
 (nd (fi .none #[])
 (nd (tu #[])
 (nd (sv 617 ["base","bias","damp","first","least","most","skew"])
 (lf (f0 (mS 97 2) "RangeMap.put")) (.nil)) (nd (fi .none #[])
 (lf (⟨t "list",none,(PySem.Data.seq #[i 98 1342,i 49 1343,i 45 1344,i 65 1345,i 97 1346,i 95 1347,i 173 1348,i 223 1349,i 8226 1350,i 769 1351,i 2381 1352,i 8204 1353,i 8205 1354,i 1576 1355,i 1575 1356,i 1488 1357,i 1632 1358,i 183 1359,i 7838 1360,i 2307 1361,i 37 1362,i 44 1363,i 43122 1364] 0),#[]⟩)) (.nil))) (nd (sv 496 ["text","data","word","composer","found"])
 (nd (tu #[])
 (lf (tu #[])) (.nil)) (lf (tu #[])))) (nd (cA "hangul_pair" 339 53 2 3 116 346)
 (nd (tu #[])
 (nd (f0 (tS 51) "puny_split")
 (lf (tu #[])) (.nil)) (nd (f0 (tS 85) "idna_is_mixed")
 (lf (tu #[])) (.nil))) (nd (f0 (tS 39) "is_form")
 (nd (tu #[])
 (lf (tu #[s "mapped" 1229,r 632,s "Lu" 1231,i 0 1232,s "U" 1233,s "L" 1234])) (.nil)) (lf (tu #[]))))))) (nd (fi (t "code") #[s "<module>" 182,s "<module>" 183,s "/claim/cut.py" 184,i 1 0,i 0 0,i 0 0,i 0 0,i 0 0,r 11,.bool false,i 181 0,r 12,.none,.none,.none,.none,i 185 0,i 1 0,s "/claim/cut.py" 186])
 (nd (f1 (tS 0) "_wall" .none "__main__" 164 20)
 (nd (sv 222 ["told"])
 (nd (sv 266 ["number"])
 (nd (tu #[])
 (nd (fi .none #[])
 (lf (fi (t "code") #[s "RangeMap" 1020,s "RangeMap" 1021,s "/claim/cut.py" 1022,i 467 0,i 0 0,i 0 0,i 0 0,i 0 0,r 515,.bool false,i 181 0,r 516,.none,.none,.none,.none,i 1023 0,i 467 0,s "/claim/cut.py" 1024])) (.nil)) (nd (tu #[])
 (lf (tu #[s "deviation" 1272,r 644,s "Cf" 1273,i 0 1274,s "C" 1275,s "BN" 1276])) (.nil))) (nd (cC "is_second" "Composer.is_second" 459 133 2 3 192 (r 194) (r 195) (r 196) 465)
 (nd (fi .none #[])
 (lf (fi .none #[])) (.nil)) (lf (f0 (tS 87) "idna_has_one_way")))) (nd (f1 (tS 21) "is_hangul_syllable" .none "unicore.hangul" 295 100)
 (nd (fi .none #[])
 (nd (cA "puny_value" 632 210 1 3 288 636)
 (lf (f0 (mS 97 4) "RangeMap.set_of")) (.nil)) (nd (f1 (tS 81) "idna_may_join" .none "unicore.idna" 703 420)
 (lf (f1 (tS 106) "_law_draw" .none "law_nt0070_01" 1167 676)) (.nil))) (nd (tu #[])
 (nd (f0 (mS 73 0) "IdnaFlags.__init__")
 (lf (fi (t "super") #[r 610,r 610,r 610])) (.nil)) (lf (fi .none #[]))))) (nd (fi (t "super") #[r 52,r 52,r 52])
 (nd (f0 (tS 10) "is_scalar")
 (nd (tu #[.bool false])
 (nd (tu #[])
 (lf (tu #[])) (.nil)) (nd (f0 (tS 79) "idna_is_ascii")
 (lf (tu #[])) (.nil))) (nd (f1 (tS 34) "composed" (r 206) "unicore.forms" 349 212)
 (nd (tu #[i 1523 730,i 1524 731])
 (lf (tu #[])) (.nil)) (lf (f1 (tS 89) "idna_code_words" .none "unicore.idna" 703 468)))) (nd (fi .none #[])
 (nd (tu #[])
 (nd (tu #[])
 (lf (f1 (tS 98) "range_rows" .none "unicore.ranges" 1008 564)) (.nil)) (nd (tu #[])
 (lf (fi .none #[])) (.nil))) (nd (tu #[])
 (nd (f1 (tS 74) "idna_is_plain" .none "unicore.idna" 703 372)
 (lf (tu #[s "ignored" 1213,r 628,s "Cf" 1214,i 0 1215,s "T" 1216,s "BN" 1217])) (.nil)) (lf (tu #[])))))) (nd (tu #[.none])
 (nd (⟨t "dict",none,(PySem.Data.dict #[e P "__module__" 238 (s "unicore.base" 194),e P "__qualname__" 240 (s "BadLabel" 239),e P "__firstlineno__" 242 (i 12 241),e P "__static_attributes__" 243 (r 50)] 4),#[]⟩)
 (nd (tu #[])
 (nd (f0 (tS 28) "ordered")
 (nd (sv 599 ["self","place","bias","told"])
 (lf (f1 (mS 97 0) "RangeMap.__init__" .none "unicore.ranges" 1008 524)) (.nil)) (nd (fi .none #[])
 (lf (tu #[])) (.nil))) (nd (fi (t "builtin_function_or_method") #[.builtin "object.__init_subclass__",r 201])
 (nd (fi .none #[])
 (lf (sv 1130 ["self","name","first","last","value"])) (.nil)) (lf (cA "idna_hyphen_words" 929 401 2 3 456 935)))) (nd (tu #[])
 (nd (⟨t "dict",none,(PySem.Data.dict #[e P "__module__" 434 (s "unicore.forms" 349),e P "__qualname__" 436 (s "Composer" 435),e P "__firstlineno__" 438 (i 121 437),e P "__init__" 448 (r 184),e P "pair" 458 (r 191),e P "is_second" 467 (r 198),e P "__static_attributes__" 470 (r 199)] 7),#[]⟩)
 (nd (f1 (tS 49) "puny_number_at" .none "unicore.punycode" 549 300)
 (lf (fi (t "super") #[r 554,r 554,r 554])) (.nil)) (nd (f0 (tS 83) "idna_has_company")
 (lf (tu #[])) (.nil))) (nd (tu #[])
 (nd (fi (t "super") #[r 362,r 362,r 362])
 (lf (tu #[s "valid" 1184,r 620,s "Pd" 1185,i 0 1186,s "U" 1187,s "ES" 1188])) (.nil)) (lf (sv 987 ["words","found","word"]))))) (nd (⟨t "frame",none,.plain,#[some (r 60),some (r 3),some (r 57),none,some (s "unicore.base" 194),none,some (r 0)]⟩)
 (nd (cA "place_by_half" 284 22 2 3 88 292)
 (nd (tu #[])
 (nd (fi (t "getset_descriptor") #[s "__weakref__" 627,r 283,.builtin "ExceptionGroup.__weakref__",.none])
 (lf (fi .none #[])) (.nil)) (nd (cA "idna_joins" 866 344 5 3 408 875)
 (lf (cB "_law_deck" 1366 539 1 3 666 1369)) (.nil))) (nd (f1 (tS 35) "form_of" (r 214) "unicore.forms" 349 220)
 (nd (fi .none #[i 291 0,i 4 0,r 358])
 (lf (f0 (mS 101 3) "Data.map_of")) (.nil)) (lf (tu #[])))) (nd (sv 354 ["code","data","is_compat","parts","told"])
 (nd (f0 (mS 33 1) "Composer.pair")
 (nd (fi .none #[])
 (lf (tu #[])) (.nil)) (nd (fi .none #[])
 (lf (f1 (tS 110) "_law_is_joined" .none "law_nt0070_01" 1167 700)) (.nil))) (nd (fi (t "builtin_function_or_method") #[.builtin "type.__prepare__",t "type"])
 (nd (tu #[])
 (lf (tu #[s "valid" 1244,r 636,s "Mn" 1245,i 230 1246,s "T" 1247,s "NSM" 1248])) (.nil)) (lf (f0 (tS 96) "range_are_like"))))))))) (nd (⟨.none,none,(PySem.Data.dict #[e P "type.__subclasses__.Exception.0" 227 (i 39 0),e P "type.__subclasses__.Exception.n" 228 (i 1 0)] 2),#[]⟩)
 (nd (PySem.W.boot_o_4 P)
 (nd (PySem.W.boot_o_8 P)
 (nd (fi .none #[])
 (nd (sv 217 ["self","told"])
 (nd (⟨t "type",none,(PySem.Data.cls (PySem.ClassData.mk (S "BadTable") [r 39] [r 64,r 39,t "Exception",t "BaseException",t "object"] 63 (S "BadTable") true [] [] false none false)),#[some (r 55),none,some (s "BadTable" 247),some (s "BadTable" 255),some (.builtin "Exception.__new__"),some (.bool true)]⟩)
 (nd (cA "form_mapping" 351 62 3 3 123 359)
 (nd (fi .none #[i 189 0,i 4 0,r 265,i 198 0,i 4 0,r 272,i 202 0,i 4 0,r 279])
 (lf (tu #[])) (.nil)) (nd (tu #[])
 (lf (tu #[])) (.nil))) (nd (tu #[])
 (nd (f0 (tS 52) "puny_is_capital")
 (lf (tu #[])) (.nil)) (nd (f0 (tS 86) "idna_last_class")
 (lf (f0 (tS 111) "law")) (.nil)))) (nd (fi .none #[])
 (nd (tu #[])
 (nd (tu #[])
 (lf (f1 (mS 97 3) "RangeMap.ranges" .none "unicore.ranges" 1008 543)) (.nil)) (nd (fi .none #[])
 (lf (fi .none #[])) (.nil))) (nd (sv 507 ["text","data"])
 (nd (tu #[.bool false,.bool true,.bool true,.bool true,.bool true,.bool false,.bool true])
 (lf (sv 1155 ["defaults","maps","properties","words"])) (.nil)) (lf (tu #[]))))) (nd (fi (t "code") #[s "BadLabel" 233,s "BadLabel" 234,s "/claim/cut.py" 235,i 12 0,i 0 0,i 0 0,i 0 0,i 0 0,r 46,.bool false,i 181 0,r 47,.none,.none,.none,.none,i 236 0,i 12 0,s "/claim/cut.py" 237])
 (nd (f1 (tS 9) "is_surrogate" .none "unicore.base" 194 79)
 (nd (tu #[])
 (nd (cC "threshold" "PunyNumbers.threshold" 596 198 3 3 267 (r 269) (r 270) (r 271) 603)
 (lf (sv 1041 ["self","code"])) (.nil)) (nd (f0 (tS 78) "idna_labels")
 (lf (tu #[s "valid" 1305,r 655,s "Po" 1306,i 0 1307,s "U" 1308,s "ON" 1309])) (.nil))) (nd (fi .none #[])
 (nd (f0 (tS 54) "decode_label")
 (lf (cC "put" "Data.put" 1127 524 5 3 587 (r 589) (r 590) (r 591) 1135)) (.nil)) (lf (fi .none #[])))) (nd (tu #[])
 (nd (fi (t "code") #[s "Composer" 429,s "Composer" 430,s "/claim/cut.py" 431,i 121 0,i 0 0,i 0 0,i 0 0,i 0 0,r 174,.bool false,i 181 0,r 175,.none,.none,.none,.none,i 432 0,i 121 0,s "/claim/cut.py" 433])
 (nd (sv 657 ["code","numbers"])
 (lf (fi .none #[])) (.nil)) (nd (tu #[])
 (lf (tu #[])) (.nil))) (nd (tu #[])
 (nd (fi .none #[])
 (lf (tu #[])) (.nil)) (lf (cA "idna_settled" 984 446 1 3 491 990)))))) (nd (⟨t "dict",none,(PySem.Data.dict #[e P "__module__" 209 (s "unicore.base" 194),e P "__qualname__" 211 (s "UniError" 210),e P "__firstlineno__" 213 (i 8 212),e P "__init__" 221 (r 36),e P "__static_attributes__" 223 (r 37)] 5),#[]⟩)
 (nd (fi (t "getset_descriptor") #[s "__weakref__" 224,r 39,.builtin "ExceptionGroup.__weakref__",.none])
 (nd (cA "is_code" 263 16 1 3 67 267)
 (nd (f1 (tS 27) "form_expanded" .none "unicore.forms" 349 135)
 (nd (f0 (mS 47 0) "PunyNumbers.__init__")
 (lf (fi .none #[])) (.nil)) (nd (tu #[])
 (lf (tu #[])) (.nil))) (nd (⟨t "dict",none,(PySem.Data.dict #[e P "__module__" 434 (s "unicore.forms" 349),e P "__firstlineno__" 438 (i 121 437),e P "__init__" 448 (r 184),e P "pair" 458 (r 191),e P "is_second" 467 (r 198),e P "__static_attributes__" 470 (r 199),e P "__dict__" 472 (r 202),e P "__weakref__" 474 (r 203),e P "__doc__" 475 (.none)] 4),#[]⟩)
 (nd (f0 (tS 53) "decode_annotated")
 (lf (f0 (mS 101 0) "Data.__init__")) (.nil)) (lf (tu #[])))) (nd (sv 324 ["code","number"])
 (nd (f0 (tS 32) "form_is_primary")
 (nd (fi .none #[])
 (lf (sv 1075 ["default","starts","values"])) (.nil)) (nd (f0 (tS 82) "idna_has_digit")
 (lf (sv 1383 ["data","usual","code","status","others","kind","order","joining","way","name","told"])) (.nil))) (nd (tu #[])
 (nd (sv 789 ["contexts","directions","hyphens","is_transitional","joiners","lengths","only_letters"])
 (lf (tu #[])) (.nil)) (lf (f0 (tS 92) "idna_shown"))))) (nd (fi (t "builtin_function_or_method") #[.builtin "type.__prepare__",t "type"])
 (nd (tu #[])
 (nd (sv 398 ["text","data","is_compat","found","code"])
 (nd (f1 (mS 47 2) "PunyNumbers.adapted" .none "unicore.punycode" 549 279)
 (lf (tu #[])) (.nil)) (nd (tu #[])
 (lf (tu #[s "valid" 1329,r 663,s "Ll" 1330,i 0 1331,s "U" 1332,s "L" 1333])) (.nil))) (nd (fi .none #[])
 (nd (sv 754 ["L","EN","ES","CS","ET","ON","BN","NSM"])
 (lf (f1 (mS 101 2) "Data.get" .none "unicore.data" 1098 599)) (.nil)) (lf (sv 954 ["label","data","flags","is_encoded","words","at","code"])))) (nd (f0 (tS 24) "hangul_pair")
 (nd (f1 (mS 33 0) "Composer.__init__" .none "unicore.forms" 349 183)
 (nd (tu #[])
 (lf (sv 1103 ["found","name"])) (.nil)) (nd (tu #[])
 (lf (f1 (tS 109) "_law_two_way" .none "law_nt0070_01" 1167 695)) (.nil))) (nd (tu #[])
 (nd (sv 814 ["code","data","only_letters","status","told"])
 (lf (tu #[i 223 1230])) (.nil)) (lf (f1 (tS 94) "process" .none "unicore.idna" 703 503))))))) (nd (fi .none (cs.take 204).toArray)
 (nd (cA "_wall" 187 1 1 3 15 191)
 (nd (f1 (mS 5 0) "UniError.__init__" (r 29) "unicore.base" 194 35)
 (nd (fi .none #[])
 (nd (sv 365 ["code","data","is_compat","found","waiting","open_codes","here","parts","part"])
 (nd (tu #[])
 (lf (fi .none #[i 469 0,i 4 0,r 524,i 474 0,i 4 0,r 531,i 477 0,i 4 0,r 538,i 492 0,i 4 0,r 543,i 495 0,i 4 0,r 550])) (.nil)) (nd (tu #[.bool true])
 (lf (tu #[])) (.nil))) (nd (f0 (mS 33 2) "Composer.is_second")
 (nd (tu #[])
 (lf (tu #[])) (.nil)) (lf (fi .none #[])))) (nd (cA "is_hangul_syllable" 314 41 1 3 95 318)
 (nd (tu #[])
 (nd (f0 (tS 48) "puny_value")
 (lf (tu #[])) (.nil)) (nd (cA "idna_may_join" 878 351 3 3 415 884)
 (lf (cA "_law_draw" 1372 544 2 3 671 1377)) (.nil))) (nd (f1 (tS 36) "nfc" .none "unicore.forms" 349 227)
 (nd (tu #[])
 (lf (fi (t "getset_descriptor") #[s "__weakref__" 1162,r 610,.builtin "ExceptionGroup.__weakref__",.none])) (.nil)) (lf (tu #[]))))) (nd (⟨t "type",none,(PySem.Data.cls (PySem.ClassData.mk (S "BadLabel") [r 39] [r 52,r 39,t "Exception",t "BaseException",t "object"] 51 (S "BadLabel") true [] [] false none false)),#[some (r 43),none,some (s "BadLabel" 231),some (s "BadLabel" 239),some (.builtin "Exception.__new__"),some (.bool true)]⟩)
 (nd (tu #[])
 (nd (f1 (tS 29) "form_sorted" .none "unicore.forms" 349 147)
 (nd (sv 609 ["self","delta","many","is_first","count"])
 (lf (f1 (mS 97 1) "RangeMap.get" .none "unicore.ranges" 1008 531)) (.nil)) (nd (fi .none #[])
 (lf (tu #[s "valid" 1317,r 659,s "Po" 1318,i 0 1319,s "U" 1320,s "CS" 1321])) (.nil))) (nd (cA "composed" 478 136 3 3 207 490)
 (nd (sv 720 ["Mn","Mc","Me"])
 (lf (sv 1141 ["self","name","code"])) (.nil)) (lf (cA "idna_code_words" 938 406 4 3 463 948)))) (nd (tu #[])
 (nd (sv 442 ["self","data","one","other"])
 (nd (f1 (tS 50) "puny_basic" .none "unicore.punycode" 549 307)
 (lf (cA "range_rows" 1086 497 1 3 559 1095)) (.nil)) (nd (f1 (tS 84) "idna_classes" .none "unicore.idna" 703 435)
 (lf (tu #[])) (.nil))) (nd (tu #[.none])
 (nd (cA "idna_is_plain" 804 299 1 3 367 808)
 (lf (tu #[])) (.nil)) (lf (sv 996 ["domain","data","flags","mapped","words","labels","label","shown","more"])))))) (nd (⟨t "frame",none,.plain,#[some (r 27),some (r 3),some (r 24),none,some (s "unicore.base" 194),none,some (r 0)]⟩)
 (nd (fi (t "builtin_function_or_method") #[.builtin "type.__prepare__",t "type"])
 (nd (sv 273 ["code"])
 (nd (tu #[])
 (nd (fi .none #[])
 (lf (cC "__init__" "RangeMap.__init__" 1030 469 2 3 519 (r 521) (r 522) (r 523) 1035)) (.nil)) (nd (tu #[])
 (lf (tu #[s "valid" 1293,r 651,s "Lo" 1294,i 0 1295,s "U" 1296,s "R" 1297])) (.nil))) (nd (fi (t "super") #[r 201,r 201,r 201])
 (nd (tu #[])
 (lf (fi .none #[])) (.nil)) (lf (f0 (tS 88) "idna_hyphen_words")))) (nd (f1 (tS 22) "hangul_numbers" .none "unicore.hangul" 295 107)
 (nd (fi (t "builtin_function_or_method") #[.builtin "type.__prepare__",t "type"])
 (nd (cA "puny_number_at" 639 218 4 3 295 651)
 (lf (fi (t "getset_descriptor") #[s "__weakref__" 1081,r 554,.builtin "ExceptionGroup.__weakref__",.none])) (.nil)) (nd (fi .none #[])
 (lf (f1 (tS 107) "_law_data" .none "law_nt0070_01" 1167 683)) (.nil))) (nd (tu #[.none])
 (nd (fi (t "getset_descriptor") #[s "__weakref__" 799,r 362,.builtin "ExceptionGroup.__weakref__",.none])
 (lf (tu #[])) (.nil)) (lf (fi .none #[]))))) (nd (fi (t "code") #[s "BadTable" 249,s "BadTable" 250,s "/claim/cut.py" 251,i 14 0,i 0 0,i 0 0,i 0 0,i 0 0,r 58,.bool false,i 181 0,r 59,.none,.none,.none,.none,i 252 0,i 14 0,s "/claim/cut.py" 253])
 (nd (f0 (tS 11) "place_by_half")
 (nd (f1 (tS 30) "decomposed" (r 149) "unicore.forms" 349 155)
 (nd (fi (t "getset_descriptor") #[s "__dict__" 625,r 283,.builtin "function.__dict__",.builtin "function.__dict__#set"])
 (lf (tu #[])) (.nil)) (nd (f0 (tS 80) "idna_joins")
 (lf (f0 (tS 105) "_law_deck")) (.nil))) (nd (cA "form_of" 493 152 4 3 215 501)
 (nd (tu #[])
 (lf (tu #[])) (.nil)) (lf (f1 (tS 90) "idna_label_words" .none "unicore.idna" 703 475)))) (nd (fi .none #[])
 (nd (tu #[])
 (nd (tu #[])
 (lf (f1 (tS 100) "data_defaults" .none "unicore.data" 1098 571)) (.nil)) (nd (tu #[])
 (lf (cB "_law_is_joined" 1420 584 2 3 697 1423)) (.nil))) (nd (tu #[])
 (nd (f1 (tS 75) "idna_status" .none "unicore.idna" 703 379)
 (lf (tu #[])) (.nil)) (lf (tu #[])))))))) (nd (PySem.W.boot_o_6 P)
 (nd (PySem.W.boot_o_10 P)
 (nd (tu #[])
 (nd (f0 (mS 5 0) "UniError.__init__")
 (nd (fi (t "builtin_function_or_method") #[.builtin "object.__init_subclass__",r 64])
 (nd (tu #[])
 (nd (⟨t "frame",none,.plain,#[some (r 257),some (r 3),some (r 254),none,some (s "unicore.punycode" 549),none,some (r 0)]⟩)
 (lf (⟨t "dict",none,(PySem.Data.dict #[e P "__module__" 1025 (s "unicore.ranges" 1008),e P "__qualname__" 1027 (s "RangeMap" 1026),e P "__firstlineno__" 1029 (i 467 1028),e P "__init__" 1037 (r 525),e P "get" 1045 (r 532),e P "put" 1060 (r 539),e P "ranges" 1066 (r 544),e P "set_of" 1074 (r 551),e P "__static_attributes__" 1078 (r 552)] 9),#[]⟩)) (.nil)) (nd (cA "idna_mapped" 822 308 4 3 381 834)
 (lf (tu #[])) (.nil))) (nd (sv 462 ["self","code","is_vowel"])
 (nd (f1 (tS 52) "puny_is_capital" .none "unicore.punycode" 549 321)
 (lf (fi (t "code") #[s "Data" 1110,s "Data" 1111,s "/claim/cut.py" 1112,i 516 0,i 0 0,i 0 0,i 0 0,i 0 0,r 576,.bool false,i 181 0,r 577,.none,.none,.none,.none,i 1113 0,i 516 0,s "/claim/cut.py" 1114])) (.nil)) (nd (f1 (tS 86) "idna_last_class" .none "unicore.idna" 703 449)
 (lf (f1 (tS 111) "law" .none "law_nt0070_01" 1167 705)) (.nil)))) (nd (tu #[])
 (nd (cA "primary_composites" 406 108 1 3 157 415)
 (nd (sv 635 ["octet"])
 (lf (fi .none #[])) (.nil)) (nd (tu #[])
 (lf (tu #[])) (.nil))) (nd (f0 (tS 36) "nfc")
 (nd (fi .none #[])
 (lf (⟨t "type",none,(PySem.Data.cls (PySem.ClassData.mk (S "Data") [t "object"] [r 610,t "object"] 609 (S "Data") true [] [] false none false)),#[none,none,some (s "Data" 1108),some (s "Data" 1116),some (.builtin "object.__new__"),some (.bool true)]⟩)) (.nil)) (lf (cA "idna_opened" 964 431 3 3 477 972))))) (nd (tu #[])
 (nd (fi .none #[])
 (nd (f0 (tS 29) "form_sorted")
 (nd (tu #[])
 (lf (f0 (mS 97 1) "RangeMap.get")) (.nil)) (nd (f1 (tS 78) "idna_labels" .none "unicore.idna" 703 401)
 (lf (tu #[s "valid" 1311,r 657,s "Po" 1312,i 0 1313,s "U" 1314,s "ET" 1315])) (.nil))) (nd (tu #[])
 (nd (f1 (tS 54) "decode_label" (r 331) "unicore.punycode" 549 337)
 (lf (tu #[])) (.nil)) (lf (tu #[])))) (nd (cA "hangul_parts" 329 46 1 3 109 336)
 (nd (tu #[])
 (nd (f0 (tS 50) "puny_basic")
 (lf (tu #[])) (.nil)) (nd (f0 (tS 84) "idna_classes")
 (lf (cA "_law_mapped" 1397 559 3 3 685 1411)) (.nil))) (nd (cA "quick_check" 523 164 4 3 237 535)
 (nd (tu #[])
 (lf (tu #[])) (.nil)) (lf (tu #[])))))) (nd (fi .none #[i 10 0,i 4 0,r 35])
 (nd (fi (t "builtin_function_or_method") #[.builtin "object.__init_subclass__",r 39])
 (nd (tu #[])
 (nd (fi .none #[])
 (nd (f1 (mS 47 0) "PunyNumbers.__init__" (r 259) "unicore.punycode" 549 265)
 (lf (tu #[])) (.nil)) (nd (cA "map_label" 837 325 4 3 389 848)
 (lf (⟨t "dict",none,(PySem.Data.dict #[(PySem.DictEntry.mk 1488 (i 1488 1292) (r 652)),(PySem.DictEntry.mk 1632 (i 1632 1298) (r 654)),(PySem.DictEntry.mk 183 (i 183 1304) (r 656)),(PySem.DictEntry.mk 37 (i 37 1310) (r 658)),(PySem.DictEntry.mk 44 (i 44 1316) (r 660)),(PySem.DictEntry.mk 43122 (i 43122 1322) (r 662)),(PySem.DictEntry.mk 115 (i 115 1328) (r 664))] 7),#[]⟩)) (.nil))) (nd (fi (t "getset_descriptor") #[s "__dict__" 471,r 201,.builtin "function.__dict__",.builtin "function.__dict__#set"])
 (nd (f1 (tS 53) "decode_annotated" (r 323) "unicore.punycode" 549 329)
 (lf (f1 (mS 101 0) "Data.__init__" .none "unicore.data" 1098 585)) (.nil)) (lf (sv 932 ["label","asks_hyphens","is_bound"])))) (nd (f0 (tS 22) "hangul_numbers")
 (nd (f1 (tS 32) "form_is_primary" .none "unicore.forms" 349 169)
 (nd (tu #[])
 (lf (⟨t "type",none,(PySem.Data.cls (PySem.ClassData.mk (S "RangeMap") [t "object"] [r 554,t "object"] 553 (S "RangeMap") true [] [] false none false)),#[none,none,some (s "RangeMap" 1018),some (s "RangeMap" 1026),some (.builtin "object.__new__"),some (.bool true)]⟩)) (.nil)) (nd (f1 (tS 82) "idna_has_digit" .none "unicore.idna" 703 425)
 (lf (f0 (tS 107) "_law_data")) (.nil))) (nd (cA "form_quick" 512 157 4 3 229 520)
 (nd (⟨t "type",none,(PySem.Data.cls (PySem.ClassData.mk (S "IdnaFlags") [t "object"] [r 362,t "object"] 361 (S "IdnaFlags") true [] [] false none false)),#[none,none,some (s "IdnaFlags" 763),some (s "IdnaFlags" 771),some (.builtin "object.__new__"),some (.bool true)]⟩)
 (lf (tu #[])) (.nil)) (lf (f1 (tS 92) "idna_shown" .none "unicore.idna" 703 489))))) (nd (tu #[])
 (nd (sv 287 ["firsts","number","low","high","middle"])
 (nd (f0 (tS 30) "decomposed")
 (nd (⟨t "dict",none,(PySem.Data.dict #[e P "__module__" 570 (s "unicore.punycode" 549),e P "__firstlineno__" 574 (i 187 573),e P "__init__" 595 (r 266),e P "threshold" 605 (r 273),e P "adapted" 616 (r 280),e P "__static_attributes__" 624 (r 281),e P "__dict__" 626 (r 284),e P "__weakref__" 628 (r 285),e P "__doc__" 629 (.none)] 4),#[]⟩)
 (lf (cC "put" "RangeMap.put" 1046 477 4 3 533 (r 535) (r 536) (r 537) 1058)) (.nil)) (nd (sv 869 ["label","at","step","data","asked","joining"])
 (lf (tu #[])) (.nil))) (nd (tu #[])
 (nd (fi (t "builtin_function_or_method") #[.builtin "type.__prepare__",t "type"])
 (lf (fi .none #[])) (.nil)) (lf (f0 (tS 90) "idna_label_words")))) (nd (f1 (tS 24) "hangul_pair" .none "unicore.hangul" 295 121)
 (nd (fi .none #[])
 (nd (cA "puny_split" 662 235 1 3 309 667)
 (lf (f0 (tS 100) "data_defaults")) (.nil)) (nd (cA "idna_is_mixed" 905 378 2 3 437 912)
 (lf (fi .none #[])) (.nil))) (nd (cA "is_form" 538 176 4 3 245 546)
 (nd (f0 (tS 75) "idna_status")
 (lf (tu #[])) (.nil)) (lf (fi .none #[]))))))) (nd (⟨t "frame",none,.plain,#[some (r 13),some (r 3),some (r 3),none,some (s "__main__" 164),none,some (r 0)]⟩)
 (nd (tu #[t "Exception"])
 (nd (⟨t "dict",none,(PySem.Data.dict #[e P "__module__" 209 (s "unicore.base" 194),e P "__firstlineno__" 213 (i 8 212),e P "__init__" 221 (r 36),e P "__static_attributes__" 223 (r 37),e P "__weakref__" 225 (r 40),e P "__doc__" 226 (.none)] 3),#[]⟩)
 (nd (tu #[])
 (nd (f0 (tS 27) "form_expanded")
 (nd (sv 585 ["self","base","least","most","skew","damp","bias","first"])
 (lf (⟨t "frame",none,.plain,#[some (r 517),some (r 3),some (r 514),none,some (s "unicore.ranges" 1008),none,some (r 0)]⟩)) (.nil)) (nd (fi .none #[])
 (lf (tu #[])) (.nil))) (nd (f1 (mS 33 2) "Composer.is_second" .none "unicore.forms" 349 197)
 (nd (sv 680 ["octets","numbers","basic","at","text","capitals","octet","code","index","bias","delta","many"])
 (lf (sv 1123 ["self"])) (.nil)) (lf (cB "idna_has_one_way" 923 389 2 3 451 926)))) (nd (tu #[])
 (nd (sv 421 ["code","parts","data"])
 (nd (f1 (tS 48) "puny_value" .none "unicore.punycode" 549 293)
 (lf (cC "set_of" "RangeMap.set_of" 1067 495 2 3 545 (r 547) (r 548) (r 549) 1072)) (.nil)) (nd (tu #[])
 (lf (tu #[])) (.nil))) (nd (fi .none #[])
 (nd (cC "__init__" "IdnaFlags.__init__" 775 291 8 3 353 (r 355) (r 356) (r 357) 786)
 (lf (fi (t "builtin_function_or_method") #[.builtin "object.__init_subclass__",r 610])) (.nil)) (lf (sv 978 ["label","data","flags"]))))) (nd (fi (t "builtin_function_or_method") #[.builtin "object.__init_subclass__",r 52])
 (nd (cA "is_scalar" 277 20 1 3 81 281)
 (nd (tu #[])
 (nd (f0 (mS 47 2) "PunyNumbers.adapted")
 (lf (fi .none #[])) (.nil)) (nd (cB "idna_is_ascii" 860 342 1 3 403 863)
 (lf (tu #[s "valid" 1323,r 661,s "Lo" 1324,i 0 1325,s "L" 1326,s "L" 1327])) (.nil))) (nd (tu #[.none])
 (nd (sv 735 ["Hira","Kana","Hani"])
 (lf (f0 (mS 101 2) "Data.get")) (.nil)) (lf (tu #[])))) (nd (sv 342 ["one","other","lead","vowel"])
 (nd (f0 (mS 33 0) "Composer.__init__")
 (nd (fi .none #[])
 (lf (tu #[])) (.nil)) (nd (fi .none #[])
 (lf (f0 (tS 109) "_law_two_way")) (.nil))) (nd (fi .none #[])
 (nd (tu #[])
 (lf (tu #[i 115 1221,i 115 1222])) (.nil)) (lf (f0 (tS 94) "process")))))) (nd (tu #[])
 (nd (tu #[])
 (nd (f0 (tS 9) "is_surrogate")
 (nd (cA "ordered" 377 89 2 3 137 386)
 (nd (tu #[])
 (lf (tu #[])) (.nil)) (nd (sv 854 ["text","found","code"])
 (lf (tu #[s "valid" 1299,r 653,s "Nd" 1300,i 0 1301,s "U" 1302,s "AN" 1303])) (.nil))) (nd (tu #[.none])
 (nd (sv 698 ["octets","numbers"])
 (lf (tu #[])) (.nil)) (lf (f1 (tS 88) "idna_hyphen_words" .none "unicore.idna" 703 461)))) (nd (fi .none #[])
 (nd (tu #[])
 (nd (tu #[])
 (lf (fi (t "builtin_function_or_method") #[.builtin "object.__init_subclass__",r 554])) (.nil)) (nd (cB "idna_has_company" 893 359 3 3 427 896)
 (lf (fi .none #[])) (.nil))) (nd (fi .none #[])
 (nd (fi (t "builtin_function_or_method") #[.builtin "object.__init_subclass__",r 362])
 (lf (tu #[i 97 1192])) (.nil)) (lf (tu #[]))))) (nd (tu #[])
 (nd (f1 (tS 11) "place_by_half" .none "unicore.base" 194 93)
 (nd (fi .none #[])
 (nd (fi (t "super") #[r 283,r 283,r 283])
 (lf (f0 (mS 97 3) "RangeMap.ranges")) (.nil)) (nd (f1 (tS 80) "idna_joins" .none "unicore.idna" 703 413)
 (lf (f1 (tS 105) "_law_deck" .none "law_nt0070_01" 1167 669)) (.nil))) (nd (tu #[])
 (nd (fi (t "code") #[s "IdnaFlags" 765,s "IdnaFlags" 766,s "/claim/cut.py" 767,i 289 0,i 0 0,i 0 0,i 0 0,i 0 0,r 348,.bool false,i 181 0,r 349,.none,.none,.none,.none,i 768 0,i 289 0,s "/claim/cut.py" 769])
 (lf (cC "map_of" "Data.map_of" 1147 532 2 3 601 (r 603) (r 604) (r 605) 1152)) (.nil)) (lf (fi .none #[])))) (nd (tu #[])
 (nd (cC "pair" "Composer.pair" 449 129 3 3 185 (r 187) (r 188) (r 189) 456)
 (nd (sv 673 ["octet"])
 (lf (fi (t "builtin_function_or_method") #[.builtin "type.__prepare__",t "type"])) (.nil)) (nd (sv 918 ["classes","word"])
 (lf (tu #[])) (.nil))) (nd (⟨t "dict",none,(PySem.Data.dict #[e P "__module__" 570 (s "unicore.punycode" 549),e P "__qualname__" 572 (s "PunyNumbers" 571),e P "__firstlineno__" 574 (i 187 573),e P "__init__" 595 (r 266),e P "threshold" 605 (r 273),e P "adapted" 616 (r 280),e P "__static_attributes__" 624 (r 281)] 7),#[]⟩)
 (nd (fi .none #[])
 (lf (tu #[])) (.nil)) (lf (cA "range_are_like" 1010 465 2 3 505 1015)))))))))
end Hd.Internal
namespace Hd.Internal
open PySem PySem.W PySem.Calls PyProof.Rows
noncomputable def cutT:BT->Nat->Nat->Nat->BT:=λω ψ χ ϕ=>match ω,ψ,χ,ϕ with
 | .nil,J,ζ,η=>.nil
 | .node v l r,a,b,n=>match Nat.blt b n with
  | true=>.node v (cutT l (2*a) (a+b) n) (cutT r (2*a) (2*a+b) n)
  | false=>.nil
structure Row where
 n:Nat
 ng:Nat
 x:String
 k:Tok
 nc:Nat
 toks:Nat
 pos:Pos
noncomputable def subK (k:Nat) (o:Obj):Obj:=match o.data with
 | .cls c=>{ o with data:=.cls { c with subclasses:=c.subclasses.take k } }
 | J=>o
noncomputable def midT (P:Params) (R:Row):BT:=
 (((cutT (treeF P) 1 0 R.n).set 3 λJ=>gd P R.ng R.x R.k).set 12 λJ=>fi .none (cs.take R.nc).toArray).set (match R.n with | 15=>2 | J=>39) λo=>match R.n with
  | 15=>boot_o_2 P
  | 43=>subK 0 o
  | 55=>subK 1 o
  | J=>o
noncomputable def p0:Pos:=⟨0,0,0,0⟩
noncomputable def stT (P:Params) (R:Row) (os:OsState):SharedT:=⟨midT P R,R.n,{},#[],{},R.toks,os⟩
noncomputable def bdy:List Stmt:=behindTheImports pw
noncomputable def envT:Env:={ scope:=pw.main.scope,locals:=mainNs,globals:=mainNs,cells:=[],code:=.ref 13,frame:=some 14 }
noncomputable def codeT:Code:=.body bdy envT
noncomputable abbrev Fn6:=Program->World->Nat->Option Value->Nat->Nat->SharedT->Thread->Option (Flow×SharedT×Code×Pos)
noncomputable def Pc (F:Fn6) (a b n:Nat) (R R':Row) (w:World):Prop:=∀os,F pw w 11 (some (.ref 6)) 1 n (stT w.params R os) (piecesOf ((bdy.drop a).take b) envT codeT R.pos [topFrame p0])=some (.next,stT w.params R' os,codeT,R'.pos)
theorem twF:segRunT treeTable=Fast.tw10110043849684766642 Fast.tw14364793385576792824:=(congrFun Fast.te10110043849684766642 _).trans (congrArg _ Fast.te14364793385576792824)
noncomputable abbrev FF:Fn6:=Fast.tw10110043849684766642 Fast.tw14364793385576792824
theorem Pc.tw {a b n:Nat} {R R':Row} {w:World} (h:Pc FF a b n R R' w):Pc (segRunT treeTable) a b n R R' w:=by rw [twF];exact h
theorem Pc.go {a b c n N M:Nat} {R R':Row} {w:World} {os:OsState} {r:Shared} (h:Pc FF a b n R R' w) (k:topRun treeTable pw w 11 (some (.ref 6)) N (stT w.params R' os).abs (restOf (bdy.drop c) envT codeT R'.pos [topFrame p0])=some r) (e:a+b=c/\n+N=M):
  topRun treeTable pw w 11 (some (.ref 6)) M (stT w.params R os).abs (restOf (bdy.drop a) envT codeT R.pos [topFrame p0])=some r:=by
 have h2:(bdy.drop a).take b++bdy.drop c=bdy.drop a:=by rw [<-e.1,<-List.drop_drop];exact List.take_append_drop b _
 rw [<-h2,<-e.2]
 exact piece_app (segRun_of (h.tw os)) k
noncomputable def row0:Row:=⟨15,9,"__main__",164,0,187,⟨0,0,0,0⟩⟩
noncomputable def row1:Row:=⟨43,14,"unicore.base",194,6,231,⟨8,0,11,24⟩⟩
noncomputable def row2:Row:=⟨55,15,"unicore.base",194,9,247,⟨12,0,13,8⟩⟩
noncomputable def row3:Row:=⟨95,26,"unicore.hangul",295,24,309,⟨38,0,38,6⟩⟩
noncomputable def row4:Row:=⟨171,39,"unicore.forms",349,57,427,⟨117,0,120,72⟩⟩
noncomputable def row5:Row:=⟨229,43,"unicore.forms",349,69,512,⟨155,0,156,37⟩⟩
noncomputable def row6:Row:=⟨252,52,"unicore.punycode",549,78,563,⟨186,0,186,7⟩⟩
noncomputable def row7:Row:=⟨302,55,"unicore.punycode",549,87,654,⟨218,0,232,25⟩⟩
noncomputable def row8:Row:=⟨345,77,"unicore.idna",703,102,763,⟨288,0,288,12⟩⟩
noncomputable def row9:Row:=⟨396,82,"unicore.idna",703,117,851,⟨325,0,333,36⟩⟩
noncomputable def row10:Row:=⟨477,95,"unicore.idna",703,156,964,⟨415,0,430,16⟩⟩
noncomputable def row11:Row:=⟨512,100,"unicore.ranges",1008,171,1018,⟨465,0,466,76⟩⟩
noncomputable def row12:Row:=⟨566,102,"unicore.data",1098,177,1100,⟨503,0,503,8⟩⟩
noncomputable def row13:Row:=⟨615,104,"law_nt0070_01",1167,183,1169,⟨536,0,536,8⟩⟩
noncomputable def row14:Row:=⟨665,105,"law_nt0070_01",1167,183,1342,⟨537,0,537,9⟩⟩
noncomputable def row15:Row:=⟨707,113,"law_nt0070_01",1167,204,1432,⟨592,0,615,117⟩⟩
theorem pc0 (w:World):Pc FF 0 6 295 row0 row1 w:=λos=>by kernel_rfl
theorem pc1 (w:World):Pc FF 6 1 214 row1 row2 w:=λos=>by kernel_rfl
theorem pc2 (w:World):Pc FF 7 12 397 row2 row3 w:=λos=>by kernel_rfl
theorem pc3 (w:World):Pc FF 19 14 395 row3 row4 w:=λos=>by kernel_rfl
theorem pc4 (w:World):Pc FF 33 4 395 row4 row5 w:=λos=>by kernel_rfl
theorem pc5 (w:World):Pc FF 37 10 169 row5 row6 w:=λos=>by kernel_rfl
theorem pc6 (w:World):Pc FF 47 3 378 row6 row7 w:=λos=>by kernel_rfl
theorem pc7 (w:World):Pc FF 50 23 360 row7 row8 w:=λos=>by kernel_rfl
theorem pc8 (w:World):Pc FF 73 5 372 row8 row9 w:=λos=>by kernel_rfl
theorem pc9 (w:World):Pc FF 78 13 390 row9 row10 w:=λos=>by kernel_rfl
theorem pc10 (w:World):Pc FF 91 6 172 row10 row11 w:=λos=>by kernel_rfl
theorem pc11 (w:World):Pc FF 97 3 399 row11 row12 w:=λos=>by kernel_rfl
theorem pc12 (w:World):Pc FF 100 3 364 row12 row13 w:=λos=>by kernel_rfl
theorem pc13:∀w,Pc FF 103 1 568 row13 row14 w:=byRow2 "special-get-raises" (λw os=>by kernel_rfl) (λw os=>by kernel_rfl)
theorem pc14 (w:World):Pc FF 104 8 246 row14 row15 w:=λos=>by kernel_rfl
end Hd.Internal
namespace Hd.Internal
open PySem PySem.W PySem.Calls PyProof.Rows
noncomputable def bitsOf (m n:Nat):List Nat:=(List.range n).filter λi=>m.testBit i
noncomputable def frA:List Nat:=bitsOf 542982835168476018856076741231148460058193413227438048246574527275169163111841354455154570739441099767817113503211160073065786182966032965471523982670180517257241943053106497402625869000492574851938186016526336012 707
noncomputable def K39 (P:Params):Frag:=frA.map λa=>(a,((treeF P).get a).getD default)
noncomputable def qv:Program:=view pw (bitsOf 5186552816601427673550764170539005 112)
noncomputable def lse:List Str:=["UniError","SYLLABLES","decomposed","composed","form_of","quick_check","is_form","decode_annotated","decode_label","PREFIX","map_label","_law_rows","_law_pool"].map Str.ofString
noncomputable def lvs:List (Str×WData):=[(Str.ofString "SYLLABLES",.int 11172)]
noncomputable def hk:Hook:=kmHook K39 frA (λP=>by unfold K39;rw [List.map_map];exact (List.map_id _).symm) [145]
theorem pre (w:World):∀os,topGo treeTable pw w 11 (some (.ref 6)) 12 ⟨boot_heap w.params,#[],boot_drawn,boot_toks,os⟩ (topStub pw)=some ((stT w.params row0 os).abs,⟨denote treeTable codeT,codeT,p0,[topFrame p0]⟩):=λos=>by kernel_rfl
theorem blk (w:World):∀os,segRun treeTable pw w 11 (some (.ref 6)) 1 1 (stT w.params row0 os).abs (blockOf bdy envT codeT p0 [topFrame p0])=some (.next,(stT w.params row0 os).abs,codeT,p0):=λos=>by kernel_rfl
theorem lst (w:World):∀os,topRun treeTable pw w 11 (some (.ref 6)) 2 (stT w.params row15 os).abs (restOf (bdy.drop 112) envT codeT row15.pos [topFrame p0])=some (stT w.params row15 os).abs:=λos=>by kernel_rfl
theorem size (w:World):((boot_heap w.params).isNs mainGlobals&&(#[]:Array GenState).size==0,(boot_heap w.params).objs.size,(boot_heap w.params).nsMap mainGlobals "__annotations__")=(true,11,some (.ref 6)):=by kernel_rfl
noncomputable def hF (P:Params):Heap:=absHeap (midT P row15) 707 {}
theorem chain (w:World) (os:OsState):topRun treeTable pw w 11 (some (.ref 6)) 5116 (stT w.params row0 os).abs (restOf (bdy.drop 0) envT codeT row0.pos [topFrame p0])=some (stT w.params row15 os).abs:=
 Pc.go (pc0 w) (Pc.go (pc1 w) (Pc.go (pc2 w) (Pc.go (pc3 w) (Pc.go (pc4 w) (Pc.go (pc5 w) (Pc.go (pc6 w) (Pc.go (pc7 w) (Pc.go (pc8 w) (Pc.go (pc9 w) (Pc.go (pc10 w) (Pc.go (pc11 w) (Pc.go (pc12 w) (Pc.go (pc13 w) (Pc.go (pc14 w) (lst w os) ⟨rfl,rfl⟩) ⟨rfl,rfl⟩) ⟨rfl,rfl⟩) ⟨rfl,rfl⟩) ⟨rfl,rfl⟩) ⟨rfl,rfl⟩) ⟨rfl,rfl⟩) ⟨rfl,rfl⟩) ⟨rfl,rfl⟩) ⟨rfl,rfl⟩) ⟨rfl,rfl⟩) ⟨rfl,rfl⟩) ⟨rfl,rfl⟩) ⟨rfl,rfl⟩) ⟨rfl,rfl⟩
theorem run (w:World) (os:OsState):topRun treeTable pw w 11 (some (.ref 6)) (12+(1+5116)) ⟨boot_heap w.params,#[],boot_drawn,boot_toks,os⟩ (topStub pw)=some ⟨hF w.params,#[],{},1432,os⟩:=by
 have h:=chain w os
 rw [List.drop_zero] at h
 exact go_top (pre w os) (piece_block (blk w os) h)
theorem frS (P:Params):(frA.all λa=>match Nat.blt a 707,(midT P row15).get a with
 | true,some o=>match alive o with
  | some J=>true
  | none=>false
 | J,ζ=>false)=true:=by kernel_rfl
theorem frE (P:Params):(frA.map λa=>(midT P row15).get a)=frA.map λa=>(treeF P).get a:=by kernel_rfl
theorem frH (P:Params):frA.map (hF P).get?=(K39 P).map λp=>some p.2:=by
 unfold K39
 rw [List.map_map]
 refine List.map_congr_left λa ha=>?_
 have h:=List.all_eq_true.mp (frS P) a ha
 have h2:=List.map_inj_left.mp (frE P) a ha
 cases q:(midT P row15).get a with
 | none=>rw [q] at h;cases hb:Nat.blt a 707<;>(rw [hb] at h;cases h)
 | some o=>
  rw [q] at h h2
  cases hb:Nat.blt a 707 with
  | false=>rw [hb] at h;cases h
  | true=>
   rw [hb] at h
   have h3:(hF P).get? a=alive o:=abs_get (Nat.le_of_ble_eq_true hb) q
   show (hF P).get? a=some (((treeF P).get a).getD default)
   rw [h3,<-h2]
   obtain ⟨c,d,dt,sl⟩:=o
   cases dt<;>first | rfl | cases h
theorem frT (P:Params):[145].map (hF P).get?=[some (tabObj #[])]:=by kernel_rfl
noncomputable def sF (P:Params) (os:OsState):Shared:=⟨hF P,#[],{},1432,os⟩
theorem lk1 (P:Params) (os:OsState):(staticsOk (importedModules pw.main.body) (boot_heap P) (hF P)&&namesBound pw (hF P)&&gensDone (sF P os)&&laidKept (boot_heap P) (hF P))=true:=by kernel_rfl
noncomputable def xt (s:Shared):Bool:=xlAt qv lvs s&&recOk (RowW.records PySem.Challenge.rw_nt0070_01.row.toRowW) s
end Hd.Internal
namespace Hd.Internal
open PySem PySem.W PySem.Calls PyProof.Rows
theorem lk2 (P:Params) (os:OsState):openSeen qv lse (importedModules pw.main.body) xt true (sF P os)=openGood qv lse:=by kernel_rfl
noncomputable def lawD:DefRec:=match defOf qv (Str.ofString "law") with
 | some (d,J)=>d
 | none=>⟨S "",default,[],default,p0⟩
theorem lft:LeftO pw qv lse xt hk.obs hk.val 10324:=
 LeftO.of_pieces (boot_open (by kernel_rfl) (by decide) (λs=>by kernel_rfl)) size run (by decide) λw=>funext λos=>Prod.ext (lk1 w.params os) (Prod.ext (lk2 w.params os) (Prod.ext (frH w.params) (frT w.params)))
theorem hw1:(chainsOk qv&&opensWell PySem.Challenge.rw_nt0070_01.row.prog&&(frees PySem.Challenge.rw_nt0070_01.row.toRowW&&PySem.Challenge.rw_nt0070_01.row.within.isEmpty))=true:=by kernel_rfl
noncomputable abbrev lw:=PySem.Challenge.rw_nt0070_01
theorem rs:lw.row.wellSaid=true:=by kernel_rfl
theorem wls:lw.wellSaid=true:=by
 iterate 18 refine look_both ?_ (by kernel_rfl)
 exact rs
theorem hd (walk:WalkO qv lse (XL qv lvs) hk.says PySem.Challenge.rw_nt0070_01.row.toRowW lawD [] λf vs=>PySem.call f vs):PySem.Challenge.rw_nt0070_01.Holds:=by
 refine holds_law wls λsaid=>?_
 refine holds_open (q:=qv) (loose:=lse) (Xt:=xt) (XP:=XL qv lvs) (Yf:=hk.obs) (Ya:=hk.val) (YP:=hk.says) (N:=10324) lft hk.of hk.keeps (λs e=>xl_of s (Bool.and_eq_true_iff.mp e).1) XL.keeps ?_ ?_ ?_ (λs e=>recFacts_of (Bool.and_eq_true_iff.mp e).2) ?_ said hw1 ⟨?_,?_,?_,?_,?_,?_⟩ ⟨[.list []],?_,?_⟩ walk
 all_goals kernel_rfl
end Hd.Internal
namespace Mine.Internal
theorem odT {p:Prop} [Decidable p] (h:decide p=true):p:=of_decide_eq_true h
inductive AV where
 | none
 | bool (b:Bool)
 | int (i:Int)
 | str (k:Nat)
 | tup (xs:List AV)
 | ref (i:Nat)
 | gl (k:Nat)
 deriving Inhabited
inductive BO | add | sub | mul | mod | div
 deriving DecidableEq
inductive CO | eq | ne | lt | le | gt | ge | is | isNot | isIn | notIn
 deriving DecidableEq
inductive T where
 | v (k:Nat)
 | tup (ks:List Nat)
mutual
inductive E where
 | bad
 | lit (v:AV)
 | var (k:Nat)
 | glob (v:AV)
 | bin (o:BO) (l r:E)
 | neg (e:E)
 | not (e:E)
 | bop (isAnd:Bool) (es:Es)
 | cmp (l:E) (cs:Cs)
 | ite (c t f:E)
 | attr (e:E) (n:Nat)
 | idx (e i:E)
 | slc (e:E) (lo hi st:Eo)
 | list (es:Es)
 | tup (es:Es)
 | dict (ks:List Nat) (es:Es)
 | call (f:Nat) (es:Es)
 | new (c:Nat) (es:Es)
 | newK (c:Nat) (kws:List Nat) (ks:Es)
 | meth (e:E) (n:Nat) (es:Es)
 | blt (b:Nat) (es:Es)
 | srtk (e:E)
 | comp (elt:E) (t:T) (it:It) (ifs:Es) (vs:List Nat)
inductive Es where
 | nil
 | cons (e:E) (es:Es)
inductive Cs where
 | nil
 | cons (o:CO) (e:E) (cs:Cs)
inductive Eo where
 | none
 | some (e:E)
inductive It where
 | plain (e:E)
 | range1 (e:E)
 | range2 (a b:E)
 | enum (e:E)
end
inductive Tg where
 | nm (t:T)
 | sub (o i:E)
 | attr (o:E) (n:Nat)
 | subs (o i o' i':E)
mutual
inductive S where
 | bad
 | expr (e:E)
 | ret (e:E)
 | asg (t:Tg) (e:E)
 | aug (k:Nat) (o:BO) (e:E)
 | ite (c:E) (a b:Ss)
 | for_ (t:T) (it:It) (b:Ss)
 | while_ (c:E) (b:Ss)
 | cont
inductive Ss where
 | nil
 | cons (s:S) (ss:Ss)
end
inductive AO where
 | list (xs:List AV)
 | sdict (kvs:List (Nat×AV))
 | inst (c:Nat) (fs:List (Nat×AV))
 | box (k:Nat)
 deriving Inhabited
inductive FO where
 | list (xs:List AV)
 | idict (kvs:List (Int×AV))
 | nothing
 deriving Inhabited
noncomputable abbrev St:=List AO
noncomputable abbrev Lo:=List (Option AV)
inductive Fl where
 | next
 | cont
 | ret (v:AV)
inductive Src where
 | list (i:Nat)
 | enum (i:Nat)
 | keys (i:Nat)
 | fix (xs:List AV)
 | rng (a:Int) (n:Nat)
noncomputable def EQ:Nat:=60
noncomputable def SZ:Nat:=1048576
noncomputable def idxL (xs:List AV) (k:Int):Option AV:=
 if 0<=k then xs[k.toNat]? else if -(xs.length:Int)<=k then xs[(k+xs.length).toNat]? else none
noncomputable def intOp:BO->Int->Int->Option Int:=λω ψ χ=>match ω,ψ,χ with
 | .add,a,b=>some (a+b)
 | .sub,a,b=>some (a-b)
 | .mul,a,b=>if a.natAbs<1073741824/\b.natAbs<1073741824 then some (a*b) else none
 | .mod,a,b=>if b=0 then none else some (Int.fmod a b)
 | .div,a,b=>if b=0\/1073741824<=b.natAbs then none else some (Int.fdiv a b)
noncomputable def cmpI:CO->Int->Int->Option Bool:=λω ψ χ=>match ω,ψ,χ with
 | .lt,a,b=>some (decide (a<b))
 | .le,a,b=>some (decide (a<=b))
 | .gt,a,b=>some (decide (b<a))
 | .ge,a,b=>some (decide (b<=a))
 | J,ζ,η=>none
noncomputable def lookA (k:Nat):List (Nat×AV)->Option AV:=λω=>match ω with
 | []=>none
 | (j,v)::r=>if j=k then some v else lookA k r
noncomputable def putA (k:Nat) (v:AV):List (Nat×AV)->List (Nat×AV):=λω=>match ω with
 | []=>[(k,v)]
 | (j,x)::r=>if j=k then (j,v)::r else (j,x)::putA k v r
noncomputable def lookI (k:Int):List (Int×AV)->Option AV:=λω=>match ω with
 | []=>none
 | (j,v)::r=>if j=k then some v else lookI k r
structure Tb where
 γ:Nat->FO
 mth:Nat->Nat->Option Nat
 boxC:Nat->Nat
 init:Nat->Option Nat
 arity:Nat->Nat
 dflt:Nat->List AV
 fst:Nat->Option Nat
theorem ae {α:Type} {x:α} {P:Prop} (h:none=some x):P:=nomatch h
noncomputable def lstO:AO->Option (List AV):=λω=>match ω with
 | .list xs=>some xs
 | J=>none
theorem lstO_at:∀{o:AO} {xs:List AV},lstO o=some xs->o=.list xs:=@λω=>@λψ=>@λχ=>match ω,ψ,χ with
 | .list J,ζ,e=>congrArg _ (Option.some.inj e)
 | .sdict J,ζ,e=>ae e
 | .inst J ζ,η,e=>ae e
 | .box J,ζ,e=>ae e
noncomputable def lstF:FO->Option (List AV):=λω=>match ω with
 | .list xs=>some xs
 | J=>none
theorem lstF_at:∀{o:FO} {xs:List AV},lstF o=some xs->o=.list xs:=@λω=>@λψ=>@λχ=>match ω,ψ,χ with
 | .list J,ζ,e=>congrArg _ (Option.some.inj e)
 | .idict J,ζ,e=>ae e
 | .nothing,J,e=>ae e
noncomputable def aT (τ:Tb) (σ:St):AV->Option (List AV):=λω=>match ω with
 | .ref i=>σ[i]?.bind lstO
 | .gl k=>lstF (τ.γ k)
 | J=>none
noncomputable def ownL (σ:St):AV->Option (List AV):=λω=>match ω with
 | .ref i=>σ[i]?.bind lstO
 | J=>none
theorem own_i {σ:St} {i:Nat} {xs:List AV} (hi:σ[i]?=some (.list xs)):ownL σ (.ref i)=some xs:=congrArg (λo=>o.bind lstO) hi
theorem lst_i {τ:Tb} {σ:St} {i:Nat} {xs:List AV} (hi:σ[i]?=some (.list xs)):aT τ σ (.ref i)=some xs:=congrArg (λo=>o.bind lstO) hi
noncomputable def eqP (f:List AV->List AV->Option Bool):AV->AV->Option Bool:=λω ψ=>match ω,ψ with
 | .none,.none=>some true
 | .bool a,.bool b=>some (decide (a=b))
 | .int a,.int b=>some (decide (a=b))
 | .str a,.str b=>some (decide (a=b))
 | .tup xs,.tup ys=>f xs ys
 | .none,.int J=>some false
 | .int J,.none=>some false
 | .none,.str J=>some false
 | .str J,.none=>some false
 | J,ζ=>none
mutual
noncomputable def eqS (τ:Tb) (σ:St):Nat->AV->AV->Option Bool:=λω ψ χ=>match ω,ψ,χ with
 | 0,J,ζ=>none
 | n+1,a,b=>Option.rec (Option.rec (eqP (eqSs τ σ n) a b) (λJ=>none) (aT τ σ b)) (λxs=>Option.rec none (λys=>if xs.length=ys.length then eqSs τ σ n xs ys else some false) (aT τ σ b)) (ownL σ a)
noncomputable def eqSs (τ:Tb) (σ:St):Nat->List AV->List AV->Option Bool:=λω ψ χ=>match ω,ψ,χ with
 | 0,J,ζ=>none
 | n+1,xs,ys=>List.rec (List.rec (some true) (λJ J J=>some false) ys) (λx xs J=>List.rec (some false) (λy ys J=>(eqS τ σ n x y).bind λa=>(eqSs τ σ n xs ys).map (λJ=>a&&J)) ys) xs
end
theorem eqS_l {τ:Tb} {σ:St} {n:Nat} {a b:AV} {xs ys:List AV} (h1:ownL σ a=some xs) (h2:aT τ σ b=some ys):eqS τ σ (n+1) a b=if xs.length=ys.length then eqSs τ σ n xs ys else some false:=by
 show (Option.rec (Option.rec (eqP (eqSs τ σ n) a b) (λJ=>none) (aT τ σ b)) (λxs=>Option.rec none (λys=>if xs.length=ys.length then eqSs τ σ n xs ys else some false) (aT τ σ b)) (ownL σ a):Option Bool)=_
 rw [h1,h2]
noncomputable def memI (x:Int):List AV->Option Bool:=λω=>match ω with
 | []=>some false
 | .int y::ys=>(memI x ys).map (λJ=>decide (y=x)||J)
 | J=>none
noncomputable def memS (x:Nat):List AV->Option Bool:=λω=>match ω with
 | []=>some false
 | .str y::ys=>(memS x ys).map (λJ=>decide (y=x)||J)
 | J=>none
noncomputable def memA:AV->List AV->Option Bool:=λω ψ=>match ω,ψ with
 | .int x,ys=>memI x ys
 | .str x,ys=>memS x ys
 | J,ζ=>none
structure Alg (R:Type) where
 fail:R
 call:Nat->List AV->St->(AV->St->R)->R
 forL:Nat->Src->T->(Nat->Lo->St->(Fl->Lo->St->R)->R)->Lo->St->(Fl->Lo->St->R)->R
 whileL:Nat->(Lo->St->(Bool->St->R)->R)->(Nat->Lo->St->(Fl->Lo->St->R)->R)->Lo->St->(Fl->Lo->St->R)->R
 compL:Src->T->(Lo->St->(Option AV->St->R)->R)->Lo->St->Nat->(AV->St->R)->R
noncomputable def aw:T->AV->Lo->Option Lo:=λω ψ χ=>match ω,ψ,χ with
 | .v k,v,m=>if k<m.length then some (m.set k (some v)) else none
 | .tup ks,.tup vs,m=>if ks.length=vs.length then go ks vs m else none
 | J,ζ,η=>none
where go:List Nat->List AV->Lo->Option Lo
 | k::ks,v::vs,m=>if k<m.length then go ks vs (m.set k (some v)) else none
 | J,ζ,m=>some m
noncomputable def keyO:AO->Option (Option AV):=λω=>match ω with
 | .sdict []=>some none
 | J=>none
noncomputable def itemAt (σ:St):Src->Nat->Option (Option AV):=λω ψ=>match ω,ψ with
 | .list i,j=>(σ[i]?.bind lstO).map λxs=>xs[j]?
 | .enum i,j=>(σ[i]?.bind lstO).map λxs=>xs[j]?.map λx=>.tup [.int j,x]
 | .keys i,J=>σ[i]?.bind keyO
 | .fix xs,j=>some xs[j]?
 | .rng a n,j=>some (if j<n then some (.int (a+j)) else none)
noncomputable def clrs:List Nat->Lo->Lo:=λω ψ=>match ω,ψ with
 | [],m=>m
 | i::vs,m=>clrs vs (m.set i none)
section
variable {R:Type} (τ:Tb) (α:Alg R)
noncomputable def optK {β:Type} (o:Option β) (k:β->R):R:=match o with
 | some x=>k x
 | none=>α.fail
noncomputable def ifK (b:Bool) (x y:R):R:=match b with
 | true=>x
 | false=>y
noncomputable def aL (c:Bool) (r:R):R:=match c with
 | true=>r
 | false=>α.fail
noncomputable def noneK (v:AV) (r:R):R:=match v with
 | .none=>r
 | J=>α.fail
noncomputable def newK (o:AO) (σ:St) (k:AV->St->R):R:=k (.ref σ.length) (σ++[o])
noncomputable def binK (o:BO) (a b:AV) (σ:St) (k:AV->St->R):R:=match a,b with
 | .int x,.int y=>optK α (intOp o x y) λz=>k (.int z) σ
 | a,b=>match o with
  | .add=>match ownL σ a,ownL σ b with
   | some xs,some ys=>aL α (decide (xs.length+ys.length<=SZ)) (newK (.list (xs++ys)) σ k)
   | J,ζ=>α.fail
  | J=>α.fail
noncomputable def isNoneA:AV->Bool:=λω=>match ω with
 | .none=>true
 | J=>false
noncomputable def containD:AV->List (Nat×AV)->Option Bool:=λω ψ=>match ω,ψ with
 | .str k,kvs=>some (lookA k kvs).isSome
 | .int J,kvs=>if kvs.isEmpty=true then some false else none
 | J,ζ=>none
noncomputable def containO (x:AV):AO->Option Bool:=λω=>match ω with
 | .list ys=>memA x ys
 | .sdict kvs=>containD x kvs
 | J=>none
noncomputable def containA (σ:St) (x:AV):AV->Option Bool:=λω=>match ω with
 | .tup ys=>memA x ys
 | .ref i=>σ[i]?.bind (containO x)
 | J=>none
noncomputable def onI1 (f:Int->Option Bool):AV->Option Bool:=λω=>match ω with
 | .int y=>f y
 | J=>none
noncomputable def onI2 (f:Int->Int->Option Bool):AV->AV->Option Bool:=λω ψ=>match ω,ψ with
 | .int x,b=>onI1 (f x) b
 | J,ζ=>none
noncomputable def cmpA (σ:St):CO->AV->AV->Option Bool:=λω ψ χ=>match ω,ψ,χ with
 | .is,a,b=>if isNoneA b=true then some (isNoneA a) else none
 | .isNot,a,b=>if isNoneA b=true then some (!isNoneA a) else none
 | .eq,a,b=>eqS τ σ EQ a b
 | .ne,a,b=>(eqS τ σ EQ a b).map (λJ=>!J)
 | .isIn,a,b=>containA σ a b
 | .notIn,a,b=>(containA σ a b).map (λJ=>!J)
 | o,a,b=>onI2 (cmpI o) a b
noncomputable def idxI (σ:St) (k:Int):AV->Option AV:=λω=>match ω with
 | .tup xs=>if k.natAbs<1073741824 then idxL xs k else none
 | .ref p=>(aT τ σ (.ref p)).bind λxs=>idxL xs k
 | .gl p=>match τ.γ p with
  | .idict kvs=>lookI k kvs
  | J=>(aT τ σ (.gl p)).bind λxs=>idxL xs k
 | J=>none
noncomputable def dictO:AO->Option (List (Nat×AV)):=λω=>match ω with
 | .sdict kvs=>some kvs
 | J=>none
noncomputable def idxT (σ:St) (k:Nat):AV->Option AV:=λω=>match ω with
 | .ref p=>(σ[p]?.bind dictO).bind (lookA k)
 | J=>none
noncomputable def idxA (σ:St) (o:AV):AV->Option AV:=λω=>match ω with
 | .int k=>idxI τ σ k o
 | .str s=>idxT σ s o
 | J=>none
noncomputable def ao (xs:List AV) (lo hi:Option Int):List AV:=(xs.take (hi.elim xs.length (PySem.clipAt xs.length))).drop (lo.elim 0 (PySem.clipAt xs.length))
inductive SlK | one (lo hi:Option Int) | rev
noncomputable def partA:AV->Option (Option Int):=λω=>match ω with
 | .none=>some none
 | .int k=>some (some k)
 | J=>none
noncomputable def slK (lo hi st:AV):Option SlK:=match st with
 | .none=>(partA lo).bind λa=>(partA hi).map (SlK.one a)
 | .int k=>if k=-1/\(isNoneA lo&&isNoneA hi)=true then some .rev else none
 | J=>none
noncomputable def slicedA (xs:List AV):SlK->List AV:=λω=>match ω with
 | .one a b=>ao xs a b
 | .rev=>xs.reverse
noncomputable def slcS (o:AV) (s:SlK) (σ:St) (k:AV->St->R):R:=match o with
 | .tup xs=>match s with
  | .one none (some b)=>aL α (decide (0<b/\b<xs.length/\b<1000)) (k (.tup (xs.take b.toNat)) σ)
  | J=>α.fail
 | .str c=>match s with
  | .one none (some b)=>if b=1 then optK α (τ.fst c) (λd=>k (.str d) σ) else α.fail
  | J=>α.fail
 | o=>optK α (aT τ σ o) λxs=>newK (.list (slicedA xs s)) σ k
noncomputable def slcK (o lo hi st:AV) (σ:St) (k:AV->St->R):R:=match slK lo hi st with
 | none=>α.fail
 | some s=>slcS τ α o s σ k
noncomputable def attrA (σ:St) (o:AV) (n:Nat):Option AV:=match o with
 | .ref i=>match σ[i]? with
  | some (.inst c fs)=>if c<4/\n<25/\τ.mth c n=none then lookA n fs else none
  | J=>none
 | J=>none
noncomputable def insertN (x:Nat):List Nat->List Nat:=λω=>match ω with
 | []=>[x]
 | y::ys=>if x<=y then x::y::ys else y::insertN x ys
noncomputable def aD (l:List Nat):List Nat:=l.foldr insertN []
noncomputable def insertI (x:Int):List Int->List Int:=λω=>match ω with
 | []=>[x]
 | y::ys=>if x<=y then x::y::ys else y::insertI x ys
noncomputable def sortI (l:List Int):List Int:=l.foldr insertI []
noncomputable def strsOf:List AV->Option (List Nat):=λω=>match ω with
 | []=>some []
 | .str k::r=>(strsOf r).map (λJ=>k::J)
 | J=>none
noncomputable def intO:AV->Option Int:=λω=>match ω with
 | .int i=>some i
 | J=>none
noncomputable def pairO:List AV->Option (Int×Int):=λω=>match ω with
 | [a,b]=>(intO a).bind λw=>(intO b).map (λJ=>(w,J))
 | J=>none
noncomputable def rowOf:AV->Option (Int×Int):=λω=>match ω with
 | .tup l=>pairO l
 | J=>none
noncomputable def keyedOf:List AV->Option (List (Int×Int)):=λω=>match ω with
 | []=>some []
 | x::r=>(rowOf x).bind λp=>(keyedOf r).map (λJ=>p::J)
noncomputable def aR (x:Int×Int):List (Int×Int)->List (Int×Int):=λω=>match ω with
 | []=>[x]
 | y::ys=>if x.1<=y.1 then x::y::ys else y::aR x ys
noncomputable def aU (l:List (Int×Int)):List (Int×Int):=l.foldr aR []
noncomputable def oneRow (l:List (Int×Int)):Bool:=decide (l.length<64)&&l.all λa=>l.all λb=>a.1 != b.1||a.2==b.2
noncomputable def sortedA (σ:St):AV->Option (List AV):=λω=>match ω with
 | .ref i=>match σ[i]? with
  | some (.list xs)=>if xs.length<64 then (strsOf xs).map λl=>(aD l).map AV.str else none
  | some (.sdict kvs)=>if kvs.length<64 then some ((aD (kvs.map (λJ=>J.1))).map AV.str) else none
  | J=>none
 | .gl p=>match τ.γ p with
  | .idict kvs=>if kvs.length<64 then some ((sortI (kvs.map (λJ=>J.1))).map AV.int) else none
  | J=>none
 | J=>none
noncomputable def boolsOf:List AV->Option (List Bool):=λω=>match ω with
 | []=>some []
 | .bool b::r=>(boolsOf r).map (λJ=>b::J)
 | J=>none
noncomputable def bltK (b:Nat) (vs:List AV) (σ:St) (k:AV->St->R):R:=match vs with
 | [o]=>match b with
  | 0=>optK α (aT τ σ o) λxs=>k (.int xs.length) σ
  | 1=>match o with
   | .int i=>k (.int i) σ
   | J=>α.fail
  | 2=>optK α ((aT τ σ o).bind boolsOf) λbs=>k (.bool (bs.any id)) σ
  | 3=>optK α (sortedA τ σ o) λxs=>newK (.list xs) σ k
  | 4=>match o with
   | .tup xs=>aL α (decide (xs.length<=SZ)) (newK (.list xs) σ k)
   | o=>optK α (aT τ σ o) λxs=>newK (.list xs) σ k
  | 5=>match o with
   | .bool J=>k (.bool true) σ
   | .none=>k (.bool false) σ
   | .int J=>k (.bool false) σ
   | .str J=>k (.bool false) σ
   | .tup J=>k (.bool false) σ
   | J=>α.fail
  | J=>α.fail
 | [v,w]=>match v with
  | .int x=>match w with
   | .int y=>if b=6 then k (.int (if x<y then y else x)) σ else α.fail
   | J=>α.fail
  | J=>α.fail
 | J=>α.fail
inductive MK | list | dict | fn (f:Nat)
noncomputable def mkOf (σ:St) (o:AV) (n:Nat):Option MK:=match o with
 | .ref i=>match σ[i]? with
  | some (.list J)=>if n<3 then some .list else none
  | some (.sdict J)=>if n=3 then some .dict else none
  | some (.inst c fs)=>if c<4/\(lookA n fs).isNone then (τ.mth c n).map .fn else none
  | some (.box b)=>if τ.boxC b<4 then (τ.mth (τ.boxC b) n).map .fn else none
  | none=>none
 | J=>none
noncomputable def methL (i:Nat) (xs:List AV) (n:Nat) (vs:List AV) (σ:St) (k:AV->St->R):R:=match vs with
 | []=>if n=2 then (match xs.getLast? with
  | some v=>k v (σ.set i (.list xs.dropLast))
  | none=>α.fail) else α.fail
 | [v]=>match n with
  | 0=>aL α (decide (xs.length<SZ)) (k .none (σ.set i (.list (xs++[v]))))
  | 1=>match v with
   | .tup ys=>aL α (decide (xs.length+ys.length<=SZ)) (k .none (σ.set i (.list (xs++ys))))
   | .ref j=>match σ[j]? with
    | some (.list ys)=>aL α (decide (i≠j/\xs.length+ys.length<=SZ)) (k .none (σ.set i (.list (xs++ys))))
    | J=>α.fail
   | J=>α.fail
  | 2=>match v with
   | .int j=>if j=0 then (match xs with
    | v::r=>k v (σ.set i (.list r))
    | []=>α.fail) else α.fail
   | J=>α.fail
  | J=>α.fail
 | J=>α.fail
noncomputable def methD (kvs:List (Nat×AV)) (vs:List AV) (σ:St) (k:AV->St->R):R:=match vs with
 | [v]=>match v with
  | .str s=>k ((lookA s kvs).getD .none) σ
  | J=>α.fail
 | [v,d]=>match v with
  | .str s=>k ((lookA s kvs).getD d) σ
  | .tup [.int J,.int ζ]=>match kvs with
   | []=>k d σ
   | J=>α.fail
  | J=>α.fail
 | J=>α.fail
noncomputable def methK (mk:MK) (o:AV) (n:Nat) (vs:List AV) (σ:St) (k:AV->St->R):R:=match mk with
 | .list=>match o with
  | .ref i=>match σ[i]? with
   | some (.list xs)=>methL α i xs n vs σ k
   | J=>α.fail
  | J=>α.fail
 | .dict=>match o with
  | .ref i=>match σ[i]? with
   | some (.sdict kvs)=>methD α kvs vs σ k
   | J=>α.fail
  | J=>α.fail
 | .fn f=>α.call f (o::vs) σ k
noncomputable def setIK (o i v:AV) (σ:St) (k:St->R):R:=match o with
 | .ref p=>match σ[p]?,i with
  | some (.list xs),.int j=>aL α (decide (0<=j/\j<xs.length)) (k (σ.set p (.list (xs.set j.toNat v))))
  | some (.sdict kvs),.str s=>aL α (decide (kvs.length<1000)) (k (σ.set p (.sdict (putA s v kvs))))
  | J,ζ=>α.fail
 | J=>α.fail
noncomputable def setAK (o:AV) (n:Nat) (v:AV) (σ:St) (k:St->R):R:=match o with
 | .ref p=>match σ[p]? with
  | some (.inst c fs)=>aL α (decide (fs.length<100/\c<4/\n<25/\τ.mth c n=none)) (k (σ.set p (.inst c (putA n v fs))))
  | J=>α.fail
 | J=>α.fail
noncomputable def truK (v:AV) (k:Bool->R):R:=match v with
 | .bool b=>k b
 | J=>α.fail
noncomputable def srcO (i:Nat):AO->Option Src:=λω=>match ω with
 | .list J=>some (.list i)
 | .sdict []=>some (.keys i)
 | J=>none
noncomputable def srcOf (σ:St):AV->Option Src:=λω=>match ω with
 | .ref i=>σ[i]?.bind (srcO i)
 | .tup xs=>some (.fix xs)
 | .gl p=>(lstF (τ.γ p)).map Src.fix
 | J=>none
noncomputable def padA (f:Nat) (vs:List AV):Option (List AV):=
 let n:=τ.arity f
 let d:=τ.dflt f
 if vs.length<=n/\n<=vs.length+d.length then some (vs++d.drop (vs.length+d.length-n)) else none
mutual
noncomputable def evE:E->Lo->St->(AV->St->R)->R:=λω ψ χ ϕ=>match ω,ψ,χ,ϕ with
 | .bad,J,ζ,η=>α.fail
 | .lit v,J,σ,k=>k v σ
 | .var i,m,σ,k=>optK α (m.getD i none) λv=>k v σ
 | .glob v,J,σ,k=>k v σ
 | .bin o l r,m,σ,k=>evE l m σ λa σ=>evE r m σ λb σ=>binK α o a b σ k
 | .neg e,m,σ,k=>evE e m σ λv σ=>match v with
  | .int i=>k (.int (-i)) σ
  | J=>α.fail
 | .not e,m,σ,k=>evE e m σ λv σ=>truK α v λb=>k (.bool (!b)) σ
 | .bop isAnd es,m,σ,k=>evB isAnd es m σ k
 | .cmp l cs,m,σ,k=>evE l m σ λa σ=>evC a cs m σ k
 | .ite c t f,m,σ,k=>evE c m σ λv σ=>truK α v λb=>ifK b (evE t m σ k) (evE f m σ k)
 | .attr e n,m,σ,k=>evE e m σ λo σ=>optK α (attrA τ σ o n) λv=>k v σ
 | .idx e i,m,σ,k=>evE e m σ λo σ=>evE i m σ λj σ=>optK α (idxA τ σ o j) λv=>k v σ
 | .slc e lo hi st,m,σ,k=>evE e m σ λo σ=>evO lo m σ λa σ=>evO hi m σ λb σ=>evO st m σ λc σ=>slcK τ α o a b c σ k
 | .list es,m,σ,k=>evEs es m σ λvs σ=>aL α (decide (vs.length<=SZ)) (newK (.list vs) σ k)
 | .tup es,m,σ,k=>evEs es m σ λvs σ=>aL α (decide (vs.length<=SZ)) (k (.tup vs) σ)
 | .dict ks es,m,σ,k=>evEs es m σ λvs σ=>aL α (decide (vs.length=ks.length/\ks.length<=15/\ks.Nodup)) (newK (.sdict (ks.zip vs)) σ k)
 | .call f es,m,σ,k=>evEs es m σ λvs σ=>optK α (padA τ f vs) λargs=>α.call f args σ k
 | .new c es,m,σ,k=>evEs es m σ λvs σ=>optK α (τ.init c) λf=>optK α (padA τ f (.ref σ.length::vs)) λargs=>α.call f args (σ++[.inst c []]) λv σ'=>noneK α v (k (.ref σ.length) σ')
 | .newK c J ks,m,σ,k=>evEs ks m σ λvs σ=>optK α (τ.init c) λf=>optK α (padA τ f (.ref σ.length::vs)) λargs=>α.call f args (σ++[.inst c []]) λv σ'=>noneK α v (k (.ref σ.length) σ')
 | .meth e n es,m,σ,k=>evE e m σ λo σ=>optK α (mkOf τ σ o n) λmk=>evEs es m σ λvs σ=>methK α mk o n vs σ k
 | .blt b es,m,σ,k=>evEs es m σ λvs σ=>bltK τ α b vs σ k
 | .srtk e,m,σ,k=>evE e m σ λo σ=>optK α ((aT τ σ o).bind keyedOf) λrows=>aL α (oneRow rows) (newK (.list ((aU rows).map λr=>.tup [.int r.1,.int r.2])) σ k)
 | .comp elt t it ifs vs,m,σ,k=>evI it m σ λsrc σ=>
   α.compL src t (λm σ k=>evT ifs m σ λb σ=>ifK b (evE elt m σ λv σ=>k (some v) σ) (k none σ)) (clrs vs m) (σ++[.list []]) σ.length k
noncomputable def evEs:Es->Lo->St->(List AV->St->R)->R:=λω ψ χ ϕ=>match ω,ψ,χ,ϕ with
 | .nil,J,σ,k=>k [] σ
 | .cons e es,m,σ,k=>evE e m σ λv σ=>evEs es m σ λvs σ=>k (v::vs) σ
noncomputable def evT:Es->Lo->St->(Bool->St->R)->R:=λω ψ χ ϕ=>match ω,ψ,χ,ϕ with
 | .nil,J,σ,k=>k true σ
 | .cons e es,m,σ,k=>evE e m σ λv σ=>truK α v λb=>ifK b (evT es m σ k) (k false σ)
noncomputable def evB:Bool->Es->Lo->St->(AV->St->R)->R:=λω ψ χ ϕ ϱ=>match ω,ψ,χ,ϕ,ϱ with
 | J,.nil,ζ,η,θ=>α.fail
 | isAnd,.cons e es,m,σ,k=>match es with
  | .nil=>evE e m σ k
  | .cons J ζ=>evE e m σ λv σ=>truK α v λb=>ifK (b==isAnd) (evB isAnd es m σ k) (k v σ)
noncomputable def evC:AV->Cs->Lo->St->(AV->St->R)->R:=λω ψ χ ϕ ϱ=>match ω,ψ,χ,ϕ,ϱ with
 | J,.nil,ζ,η,θ=>α.fail
 | a,.cons o e cs,m,σ,k=>evE e m σ λb σ=>optK α (cmpA τ σ o a b) λr=>match cs with
  | .nil=>k (.bool r) σ
  | .cons J ζ η=>ifK r (evC b cs m σ k) (k (.bool false) σ)
noncomputable def evO:Eo->Lo->St->(AV->St->R)->R:=λω ψ χ ϕ=>match ω,ψ,χ,ϕ with
 | .none,J,σ,k=>k .none σ
 | .some e,m,σ,k=>evE e m σ k
noncomputable def evI:It->Lo->St->(Src->St->R)->R:=λω ψ χ ϕ=>match ω,ψ,χ,ϕ with
 | .plain e,m,σ,k=>evE e m σ λv σ=>optK α (srcOf τ σ v) λs=>k s σ
 | .range1 e,m,σ,k=>evE e m σ λv σ=>match v with
  | .int n=>aL α (decide (-1073741824<=n/\n<=SZ)) (k (.rng 0 n.toNat) σ)
  | J=>α.fail
 | .range2 a b,m,σ,k=>evE a m σ λv σ=>evE b m σ λw σ=>match v,w with
  | .int x,.int y=>aL α (decide (0<=x/\x<=SZ/\-1073741824<=y/\y<=SZ)) (k (.rng x (y-x).toNat) σ)
  | J,ζ=>α.fail
 | .enum e,m,σ,k=>evE e m σ λv σ=>match v with
  | .ref i=>match σ[i]? with
   | some (.list J)=>k (.enum i) σ
   | J=>α.fail
  | J=>α.fail
end
noncomputable def asgK:Tg->AV->Lo->St->(Lo->St->R)->R:=λω ψ χ ϕ ϱ=>match ω,ψ,χ,ϕ,ϱ with
 | .nm t,v,m,σ,k=>optK α (aw t v m) λm=>k m σ
 | .sub o i,v,m,σ,k=>evE τ α o m σ λov σ=>evE τ α i m σ λiv σ=>setIK α ov iv v σ λσ=>k m σ
 | .attr o n,v,m,σ,k=>evE τ α o m σ λov σ=>setAK τ α ov n v σ λσ=>k m σ
 | .subs o i o' i',v,m,σ,k=>match v with
  | .tup [a,b]=>evE τ α o m σ λov σ=>evE τ α i m σ λiv σ=>setIK α ov iv a σ λσ=>
    evE τ α o' m σ λov σ=>evE τ α i' m σ λiv σ=>setIK α ov iv b σ λσ=>k m σ
  | J=>α.fail
mutual
noncomputable def evS:S->Nat->Lo->St->(Fl->Lo->St->R)->R:=λω ψ χ ϕ ϱ=>match ω,ψ,χ,ϕ,ϱ with
 | .bad,J,ζ,η,θ=>α.fail
 | .expr e,J,m,σ,k=>evE τ α e m σ λJ σ=>k .next m σ
 | .ret e,J,m,σ,k=>evE τ α e m σ λv σ=>k (.ret v) m σ
 | .asg t e,J,m,σ,k=>evE τ α e m σ λv σ=>asgK τ α t v m σ λm σ=>k .next m σ
 | .aug i o e,J,m,σ,k=>optK α (m.getD i none) λa=>evE τ α e m σ λb σ=>match a,b with
  | .int x,.int y=>optK α (intOp o x y) λz=>k .next (m.set i (some (.int z))) σ
  | J,ζ=>α.fail
 | .ite c a b,p,m,σ,k=>evE τ α c m σ λv σ=>truK α v λt=>ifK t (aA a p m σ k) (aA b p m σ k)
 | .for_ t it b,p,m,σ,k=>evI τ α it m σ λsrc σ=>α.forL p src t (λp m σ k=>aA b p m σ k) m σ k
 | .while_ c b,p,m,σ,k=>α.whileL p (λm σ k=>evE τ α c m σ λv σ=>truK α v λt=>k t σ) (λp m σ k=>aA b p m σ k) m σ k
 | .cont,J,m,σ,k=>k .cont m σ
noncomputable def aA:Ss->Nat->Lo->St->(Fl->Lo->St->R)->R:=λω ψ χ ϕ ϱ=>match ω,ψ,χ,ϕ,ϱ with
 | .nil,J,m,σ,k=>k .next m σ
 | .cons s ss,p,m,σ,k=>evS s p m σ λfl m σ=>match fl with
  | .next=>aA ss p m σ k
  | fl=>k fl m σ
end
end
noncomputable abbrev Res:=Option (AV×St)
structure Fn where
 n:Nat
 vars:Nat
 body:Ss
noncomputable def startL (f:Fn) (args:List AV):Lo:=args.map some++List.replicate (f.vars-args.length) none
section
variable (τ:Tb) (F:Nat->Option Fn)
end
noncomputable def f0:Fn:=⟨2,5,
  (.cons (.asg (.nm (.v 2)) (.lit (.int 0)))
  (.cons (.asg (.nm (.v 3)) (.blt 0 (.cons (.var 0) .nil)))
  (.cons (.while_ (.cmp (.var 2) (.cons .lt (.var 3) .nil)) (.cons (.asg (.nm (.v 4)) (.bin .div (.bin .add (.var 2) (.var 3)) (.lit (.int 2))))
  (.cons (.ite (.cmp (.idx (.var 0) (.var 4)) (.cons .le (.var 1) .nil)) (.cons (.asg (.nm (.v 2)) (.bin .add (.var 4) (.lit (.int 1))))
  .nil) (.cons (.asg (.nm (.v 3)) (.var 4))
  .nil))
  .nil)))
  (.cons (.ret (.bin .sub (.var 2) (.lit (.int 1))))
  .nil))))⟩
noncomputable def f1:Fn:=⟨1,1,
  (.cons (.ret (.cmp (.lit (.int 0)) (.cons .le (.bin .sub (.var 0) (.glob (.int 44032))) (.cons .lt (.glob (.int 11172)) .nil))))
  .nil)⟩
noncomputable def f2:Fn:=⟨1,2,
  (.cons (.asg (.nm (.v 1)) (.bin .sub (.var 0) (.glob (.int 44032))))
  (.cons (.ret (.tup (.cons (.bin .div (.var 1) (.bin .mul (.glob (.int 21)) (.glob (.int 28)))) (.cons (.bin .mod (.bin .div (.var 1) (.glob (.int 28))) (.glob (.int 21))) (.cons (.bin .mod (.var 1) (.glob (.int 28))) .nil)))))
  .nil))⟩
noncomputable def f3:Fn:=⟨1,4,
  (.cons (.ite (.not (.call 1 (.cons (.var 0) .nil))) (.cons (.ret (.lit .none))
  .nil) .nil)
  (.cons (.asg (.nm (.tup [1,2,3])) (.call 2 (.cons (.var 0) .nil)))
  (.cons (.ite (.cmp (.var 3) (.cons .eq (.lit (.int 0)) .nil)) (.cons (.ret (.tup (.cons (.bin .add (.glob (.int 4352)) (.var 1)) (.cons (.bin .add (.glob (.int 4449)) (.var 2)) .nil))))
  .nil) .nil)
  (.cons (.ret (.tup (.cons (.bin .add (.glob (.int 4352)) (.var 1)) (.cons (.bin .add (.glob (.int 4449)) (.var 2)) (.cons (.bin .add (.glob (.int 4519)) (.var 3)) .nil)))))
  .nil))))⟩
noncomputable def f4:Fn:=⟨2,4,
  (.cons (.asg (.nm (.v 2)) (.bin .sub (.var 0) (.glob (.int 4352))))
  (.cons (.asg (.nm (.v 3)) (.bin .sub (.var 1) (.glob (.int 4449))))
  (.cons (.ite (.bop true (.cons (.cmp (.lit (.int 0)) (.cons .le (.var 2) (.cons .lt (.glob (.int 19)) .nil))) (.cons (.cmp (.lit (.int 0)) (.cons .le (.var 3) (.cons .lt (.glob (.int 21)) .nil))) .nil))) (.cons (.ret (.bin .add (.glob (.int 44032)) (.bin .mul (.bin .add (.bin .mul (.var 2) (.glob (.int 21))) (.var 3)) (.glob (.int 28)))))
  .nil) .nil)
  (.cons (.ite (.bop true (.cons (.call 1 (.cons (.var 0) .nil)) (.cons (.cmp (.bin .mod (.bin .sub (.var 0) (.glob (.int 44032))) (.glob (.int 28))) (.cons .eq (.lit (.int 0)) .nil)) (.cons (.cmp (.lit (.int 0)) (.cons .lt (.bin .sub (.var 1) (.glob (.int 4519))) (.cons .lt (.glob (.int 28)) .nil))) .nil)))) (.cons (.ret (.bin .sub (.bin .add (.var 0) (.var 1)) (.glob (.int 4519))))
  .nil) .nil)
  (.cons (.ret (.lit .none))
  .nil)))))⟩
noncomputable def f5:Fn:=⟨2,2,
  (.cons (.ret (.bop true (.cons (.cmp (.var 0) (.cons .eq (.var 1) .nil)) (.cons (.cmp (.blt 5 (.cons (.var 0) .nil)) (.cons .eq (.blt 5 (.cons (.var 1) .nil)) .nil)) .nil))))
  .nil)⟩
noncomputable def f6:Fn:=⟨2,2,
  (.cons (.asg (.attr (.var 0) 4) (.var 1))
  (.cons (.asg (.attr (.var 0) 5) (.list (.cons (.lit (.int 0)) .nil)))
  (.cons (.asg (.attr (.var 0) 6) (.list (.cons (.var 1) .nil)))
  .nil)))⟩
noncomputable def f7:Fn:=⟨1,3,
  (.cons (.ret (.comp (.var 2) (.tup [1,2]) (.plain (.srtk (.var 0))) .nil [1,2]))
  .nil)⟩
noncomputable def f8:Fn:=⟨2,2,
  (.cons (.ret (.idx (.attr (.var 0) 6) (.call 0 (.cons (.attr (.var 0) 5) (.cons (.var 1) .nil)))))
  .nil)⟩
noncomputable def f9:Fn:=⟨4,9,
  (.cons (.ite (.cmp (.var 1) (.cons .gt (.var 2) .nil)) (.cons (.ret (.lit .none))
  .nil) .nil)
  (.cons (.asg (.nm (.v 4)) (.bin .add (.call 0 (.cons (.attr (.var 0) 5) (.cons (.bin .sub (.var 1) (.lit (.int 1))) .nil))) (.lit (.int 1))))
  (.cons (.asg (.nm (.v 5)) (.bin .add (.call 0 (.cons (.attr (.var 0) 5) (.cons (.bin .add (.var 2) (.lit (.int 1))) .nil))) (.lit (.int 1))))
  (.cons (.asg (.nm (.v 6)) (.idx (.attr (.var 0) 6) (.bin .sub (.var 5) (.lit (.int 1)))))
  (.cons (.asg (.nm (.tup [7,8])) (.tup (.cons (.list (.cons (.var 1) .nil)) (.cons (.list (.cons (.var 3) .nil)) .nil))))
  (.cons (.ite (.bop true (.cons (.cmp (.var 2) (.cons .lt (.glob (.int 1114111)) .nil)) (.cons (.not (.call 5 (.cons (.var 6) (.cons (.var 3) .nil)))) .nil))) (.cons (.expr (.meth (.var 7) 0 (.cons (.bin .add (.var 2) (.lit (.int 1))) .nil)))
  (.cons (.expr (.meth (.var 8) 0 (.cons (.var 6) .nil)))
  .nil)) .nil)
  (.cons (.ite (.bop true (.cons (.cmp (.var 4) (.cons .gt (.lit (.int 0)) .nil)) (.cons (.call 5 (.cons (.idx (.attr (.var 0) 6) (.bin .sub (.var 4) (.lit (.int 1)))) (.cons (.var 3) .nil))) .nil))) (.cons (.asg (.nm (.tup [7,8])) (.tup (.cons (.slc (.var 7) (.some (.lit (.int 1))) .none .none) (.cons (.slc (.var 8) (.some (.lit (.int 1))) .none .none) .nil))))
  .nil) .nil)
  (.cons (.asg (.attr (.var 0) 5) (.bin .add (.bin .add (.slc (.attr (.var 0) 5) .none (.some (.var 4)) .none) (.var 7)) (.slc (.attr (.var 0) 5) (.some (.var 5)) .none .none)))
  (.cons (.asg (.attr (.var 0) 6) (.bin .add (.bin .add (.slc (.attr (.var 0) 6) .none (.some (.var 4)) .none) (.var 8)) (.slc (.attr (.var 0) 6) (.some (.var 5)) .none .none)))
  .nil)))))))))⟩
noncomputable def f10:Fn:=⟨1,6,
  (.cons (.asg (.nm (.tup [1,2])) (.tup (.cons (.attr (.var 0) 5) (.cons (.list .nil) .nil))))
  (.cons (.for_ (.tup [3,4]) (.enum (.attr (.var 0) 6)) (.cons (.asg (.nm (.v 5)) (.ite (.cmp (.bin .add (.var 3) (.lit (.int 1))) (.cons .lt (.blt 0 (.cons (.var 1) .nil)) .nil)) (.bin .sub (.idx (.var 1) (.bin .add (.var 3) (.lit (.int 1)))) (.lit (.int 1))) (.glob (.int 1114111))))
  (.cons (.expr (.meth (.var 2) 0 (.cons (.tup (.cons (.idx (.var 1) (.var 3)) (.cons (.var 5) (.cons (.var 4) .nil)))) .nil)))
  .nil)))
  (.cons (.ret (.var 2))
  .nil)))⟩
noncomputable def f11:Fn:=⟨1,2,
  (.cons (.ret (.comp (.var 1) (.v 1) (.plain (.call 10 (.cons (.var 0) .nil))) (.cons (.not (.call 5 (.cons (.idx (.var 1) (.lit (.int 2))) (.cons (.attr (.var 0) 4) .nil)))) .nil) [1]))
  .nil)⟩
noncomputable def f12:Fn:=⟨0,2,
  (.cons (.asg (.nm (.v 0)) (.dict [57,41,36,68,53,89,67,65] (.cons (.lit (.str 7)) (.cons (.lit (.int 0)) (.cons (.lit (.str 12)) (.cons (.lit (.str 33)) (.cons (.lit (.str 20)) (.cons (.lit (.str 34)) (.cons (.lit (.str 32)) (.cons (.lit (.str 23)) .nil))))))))))
  (.cons (.for_ (.v 1) (.plain (.tup (.cons (.lit (.str 58)) (.cons (.lit (.str 98)) (.cons (.lit (.str 88)) .nil))))) (.cons (.asg (.sub (.var 0) (.var 1)) (.lit (.str 25)))
  .nil))
  (.cons (.for_ (.v 1) (.plain (.tup (.cons (.lit (.str 55)) (.cons (.lit (.str 91)) (.cons (.lit (.str 40)) (.cons (.lit (.str 43)) (.cons (.lit (.str 54)) (.cons (.lit (.str 47)) (.cons (.lit (.str 62)) (.cons (.lit (.str 60)) (.cons (.lit (.str 100)) (.cons (.lit (.str 99)) (.cons (.lit (.str 84)) (.cons (.lit (.str 85)) (.cons (.lit (.str 63)) .nil))))))))))))))) (.cons (.asg (.sub (.var 0) (.var 1)) (.lit (.bool false)))
  .nil))
  (.cons (.for_ (.v 1) (.plain (.tup (.cons (.lit (.str 51)) (.cons (.lit (.str 96)) (.cons (.lit (.str 69)) (.cons (.lit (.str 95)) (.cons (.lit (.str 42)) (.cons (.lit (.str 38)) (.cons (.lit (.str 39)) (.cons (.lit (.str 90)) (.cons (.lit (.str 82)) (.cons (.lit (.str 83)) (.cons (.lit (.str 75)) (.cons (.lit (.str 44)) (.cons (.lit (.str 79)) .nil))))))))))))))) (.cons (.asg (.sub (.var 0) (.var 1)) (.lit .none))
  .nil))
  (.cons (.for_ (.v 1) (.plain (.tup (.cons (.lit (.str 94)) (.cons (.lit (.str 92)) (.cons (.lit (.str 93)) (.cons (.lit (.str 35)) .nil)))))) (.cons (.asg (.sub (.var 0) (.var 1)) (.tup .nil))
  .nil))
  (.cons (.asg (.sub (.var 0) (.lit (.str 61))) (.tup (.cons (.lit (.str 48)) (.cons (.tup .nil) .nil))))
  (.cons (.ret (.var 0))
  .nil)))))))⟩
noncomputable def f13:Fn:=⟨1,1,
  (.cons (.asg (.attr (.var 0) 7) (.call 12 .nil))
  (.cons (.asg (.attr (.var 0) 8) (.dict [] .nil))
  (.cons (.asg (.attr (.var 0) 9) (.dict [] .nil))
  (.cons (.asg (.attr (.var 0) 10) (.dict [] .nil))
  .nil))))⟩
noncomputable def f14:Fn:=⟨2,2,
  (.cons (.ite (.cmp (.var 1) (.cons .notIn (.attr (.var 0) 8) .nil)) (.cons (.asg (.sub (.attr (.var 0) 8) (.var 1)) (.new 0 (.cons (.meth (.attr (.var 0) 7) 3 (.cons (.var 1) .nil)) .nil)))
  .nil) .nil)
  (.cons (.ret (.idx (.attr (.var 0) 8) (.var 1)))
  .nil))⟩
noncomputable def f15:Fn:=⟨5,5,
  (.cons (.expr (.meth (.meth (.var 0) 11 (.cons (.var 1) .nil)) 12 (.cons (.var 2) (.cons (.var 3) (.cons (.var 4) .nil)))))
  .nil)⟩
noncomputable def f16:Fn:=⟨3,3,
  (.cons (.ite (.cmp (.var 1) (.cons .isIn (.attr (.var 0) 8) .nil)) (.cons (.ret (.meth (.idx (.attr (.var 0) 8) (.var 1)) 3 (.cons (.var 2) .nil)))
  .nil) .nil)
  (.cons (.ret (.meth (.attr (.var 0) 7) 3 (.cons (.var 1) .nil)))
  .nil))⟩
noncomputable def f17:Fn:=⟨3,5,
  (.cons (.asg (.nm (.v 3)) (.call 3 (.cons (.var 0) .nil)))
  (.cons (.ite (.cmp (.var 3) (.cons .isNot (.lit .none) .nil)) (.cons (.ret (.var 3))
  .nil) .nil)
  (.cons (.asg (.nm (.v 4)) (.meth (.var 1) 3 (.cons (.lit (.str 51)) (.cons (.var 0) .nil))))
  (.cons (.ite (.bop false (.cons (.cmp (.var 4) (.cons .is (.lit .none) .nil)) (.cons (.bop true (.cons (.cmp (.idx (.var 4) (.lit (.int 0))) (.cons .ne (.lit (.str 0)) .nil)) (.cons (.not (.var 2)) .nil))) .nil))) (.cons (.ret (.lit .none))
  .nil) .nil)
  (.cons (.ret (.idx (.var 4) (.lit (.int 1))))
  .nil)))))⟩
noncomputable def f18:Fn:=⟨3,9,
  (.cons (.asg (.nm (.v 3)) (.list .nil))
  (.cons (.asg (.nm (.tup [4,5])) (.tup (.cons (.list (.cons (.var 0) .nil)) (.cons (.list .nil) .nil))))
  (.cons (.while_ (.cmp (.var 4) (.cons .ne (.list .nil) .nil)) (.cons (.asg (.nm (.v 6)) (.meth (.var 4) 2 .nil))
  (.cons (.ite (.cmp (.var 6) (.cons .is (.lit .none) .nil)) (.cons (.expr (.meth (.var 5) 2 .nil))
  (.cons .cont
  .nil)) .nil)
  (.cons (.asg (.nm (.v 7)) (.call 17 (.cons (.var 6) (.cons (.var 1) (.cons (.var 2) .nil)))))
  (.cons (.ite (.cmp (.var 7) (.cons .is (.lit .none) .nil)) (.cons (.expr (.meth (.var 3) 0 (.cons (.var 6) .nil)))
  .nil) (.cons (.ite (.cmp (.var 6) (.cons .isIn (.var 5) .nil)) (.cons .bad
  .nil) (.cons (.expr (.meth (.var 5) 0 (.cons (.var 6) .nil)))
  (.cons (.expr (.meth (.var 4) 0 (.cons (.lit .none) .nil)))
  (.cons (.for_ (.v 8) (.plain (.slc (.var 7) .none .none (.some (.neg (.lit (.int 1)))))) (.cons (.expr (.meth (.var 4) 0 (.cons (.var 8) .nil)))
  .nil))
  .nil))))
  .nil))
  .nil)))))
  (.cons (.ret (.var 3))
  .nil))))⟩
noncomputable def f19:Fn:=⟨2,6,
  (.cons (.asg (.nm (.tup [3,4])) (.tup (.cons (.list .nil) (.cons (.list .nil) .nil))))
  (.cons (.for_ (.v 2) (.plain (.var 0)) (.cons (.asg (.nm (.v 5)) (.meth (.var 1) 3 (.cons (.lit (.str 41)) (.cons (.var 2) .nil))))
  (.cons (.ite (.cmp (.var 5) (.cons .gt (.lit (.int 0)) .nil)) (.cons (.expr (.meth (.var 4) 0 (.cons (.tup (.cons (.var 5) (.cons (.var 2) .nil))) .nil)))
  .nil) (.cons (.expr (.meth (.var 3) 1 (.cons (.call 7 (.cons (.var 4) .nil)) .nil)))
  (.cons (.expr (.meth (.var 3) 0 (.cons (.var 2) .nil)))
  (.cons (.asg (.nm (.v 4)) (.list .nil))
  .nil))))
  .nil)))
  (.cons (.expr (.meth (.var 3) 1 (.cons (.call 7 (.cons (.var 4) .nil)) .nil)))
  (.cons (.ret (.var 3))
  .nil))))⟩
noncomputable def f20:Fn:=⟨3,5,
  (.cons (.asg (.nm (.v 3)) (.list .nil))
  (.cons (.for_ (.v 4) (.plain (.var 0)) (.cons (.expr (.meth (.var 3) 1 (.cons (.call 18 (.cons (.var 4) (.cons (.var 1) (.cons (.var 2) .nil)))) .nil)))
  .nil))
  (.cons (.ret (.call 19 (.cons (.var 3) (.cons (.var 1) .nil))))
  .nil)))⟩
noncomputable def f21:Fn:=⟨3,3,
  (.cons (.ite (.bop false (.cons (.meth (.var 2) 3 (.cons (.lit (.str 55)) (.cons (.var 0) .nil))) (.cons (.cmp (.call 3 (.cons (.var 0) .nil)) (.cons .isNot (.lit .none) .nil)) .nil))) (.cons (.ret (.lit (.bool false)))
  .nil) .nil)
  (.cons (.ret (.bop true (.cons (.cmp (.meth (.var 2) 3 (.cons (.lit (.str 41)) (.cons (.var 0) .nil))) (.cons .eq (.lit (.int 0)) .nil)) (.cons (.cmp (.meth (.var 2) 3 (.cons (.lit (.str 41)) (.cons (.idx (.var 1) (.lit (.int 0))) .nil))) (.cons .eq (.lit (.int 0)) .nil)) .nil))))
  .nil))⟩
noncomputable def f22:Fn:=⟨1,6,
  (.cons (.asg (.nm (.v 1)) (.dict [] .nil))
  (.cons (.for_ (.tup [2,3,4]) (.plain (.meth (.meth (.var 0) 11 (.cons (.lit (.str 51)) .nil)) 13 .nil)) (.cons (.ite (.bop false (.cons (.cmp (.var 4) (.cons .is (.lit .none) .nil)) (.cons (.cmp (.idx (.var 4) (.lit (.int 0))) (.cons .ne (.lit (.str 0)) .nil)) (.cons (.cmp (.blt 0 (.cons (.idx (.var 4) (.lit (.int 1))) .nil)) (.cons .ne (.lit (.int 2)) .nil)) .nil)))) (.cons .cont
  .nil) .nil)
  (.cons (.for_ (.v 5) (.range2 (.var 2) (.bin .add (.var 3) (.lit (.int 1)))) (.cons (.ite (.bop true (.cons (.call 21 (.cons (.var 5) (.cons (.idx (.var 4) (.lit (.int 1))) (.cons (.var 0) .nil)))) (.cons (.cmp (.idx (.var 4) (.lit (.int 1))) (.cons .notIn (.var 1) .nil)) .nil))) (.cons (.asg (.sub (.var 1) (.idx (.var 4) (.lit (.int 1)))) (.var 5))
  .nil) .nil)
  .nil))
  .nil)))
  (.cons (.ret (.var 1))
  .nil)))⟩
noncomputable def f23:Fn:=⟨2,4,
  (.cons (.asg (.attr (.var 0) 14) (.call 22 (.cons (.var 1) .nil)))
  (.cons (.asg (.attr (.var 0) 15) (.dict [] .nil))
  (.cons (.for_ (.tup [2,3]) (.plain (.attr (.var 0) 14)) (.cons (.asg (.sub (.attr (.var 0) 15) (.var 3)) (.lit (.bool true)))
  .nil))
  .nil)))⟩
noncomputable def f24:Fn:=⟨3,4,
  (.cons (.asg (.nm (.v 3)) (.call 4 (.cons (.var 1) (.cons (.var 2) .nil))))
  (.cons (.ret (.ite (.cmp (.var 3) (.cons .isNot (.lit .none) .nil)) (.var 3) (.meth (.attr (.var 0) 14) 3 (.cons (.tup (.cons (.var 1) (.cons (.var 2) .nil))) (.cons (.lit .none) .nil)))))
  .nil))⟩
noncomputable def f25:Fn:=⟨2,3,
  (.cons (.asg (.nm (.v 2)) (.cmp (.glob (.int 4449)) (.cons .le (.var 1) (.cons .lt (.bin .add (.glob (.int 4449)) (.glob (.int 21))) .nil))))
  (.cons (.ret (.bop false (.cons (.cmp (.var 1) (.cons .isIn (.attr (.var 0) 15) .nil)) (.cons (.var 2) (.cons (.cmp (.glob (.int 4519)) (.cons .lt (.var 1) (.cons .lt (.bin .add (.glob (.int 4519)) (.glob (.int 28))) .nil))) .nil)))))
  .nil))⟩
noncomputable def f26:Fn:=⟨3,9,
  (.cons (.asg (.nm (.v 2)) (.ite (.cmp (.var 2) (.cons .is (.lit .none) .nil)) (.new 2 (.cons (.var 1) .nil)) (.var 2)))
  (.cons (.asg (.nm (.tup [4,5,6])) (.tup (.cons (.list .nil) (.cons (.neg (.lit (.int 1))) (.cons (.neg (.lit (.int 1))) .nil)))))
  (.cons (.for_ (.v 3) (.plain (.var 0)) (.cons (.asg (.nm (.v 7)) (.meth (.var 1) 3 (.cons (.lit (.str 41)) (.cons (.var 3) .nil))))
  (.cons (.ite (.bop true (.cons (.cmp (.var 5) (.cons .ge (.lit (.int 0)) .nil)) (.cons (.bop false (.cons (.cmp (.var 5) (.cons .eq (.bin .sub (.blt 0 (.cons (.var 4) .nil)) (.lit (.int 1))) .nil)) (.cons (.cmp (.var 6) (.cons .lt (.var 7) .nil)) .nil))) .nil))) (.cons (.asg (.nm (.v 8)) (.meth (.var 2) 16 (.cons (.idx (.var 4) (.var 5)) (.cons (.var 3) .nil))))
  (.cons (.ite (.cmp (.var 8) (.cons .isNot (.lit .none) .nil)) (.cons (.asg (.sub (.var 4) (.var 5)) (.var 8))
  (.cons .cont
  .nil)) .nil)
  .nil)) .nil)
  (.cons (.ite (.cmp (.var 7) (.cons .eq (.lit (.int 0)) .nil)) (.cons (.asg (.nm (.tup [5,6])) (.tup (.cons (.blt 0 (.cons (.var 4) .nil)) (.cons (.neg (.lit (.int 1))) .nil))))
  .nil) (.cons (.asg (.nm (.v 6)) (.blt 6 (.cons (.var 6) (.cons (.var 7) .nil))))
  .nil))
  (.cons (.expr (.meth (.var 4) 0 (.cons (.var 3) .nil)))
  .nil)))))
  (.cons (.ret (.var 4))
  .nil))))⟩
noncomputable def f27:Fn:=⟨4,5,
  (.cons (.asg (.nm (.v 4)) (.call 20 (.cons (.var 0) (.cons (.var 1) (.cons (.cmp (.var 2) (.cons .isIn (.tup (.cons (.lit (.str 80)) (.cons (.lit (.str 78)) .nil))) .nil)) .nil)))))
  (.cons (.ret (.ite (.cmp (.var 2) (.cons .isIn (.tup (.cons (.lit (.str 77)) (.cons (.lit (.str 80)) .nil))) .nil)) (.var 4) (.call 26 (.cons (.var 4) (.cons (.var 1) (.cons (.var 3) .nil))))))
  .nil))⟩
noncomputable def f28:Fn:=⟨2,2,
  (.cons (.ret (.call 27 (.cons (.var 0) (.cons (.var 1) (.cons (.lit (.str 76)) .nil)))))
  .nil)⟩
noncomputable def f29:Fn:=⟨4,5,
  (.cons (.ite (.cmp (.call 27 (.cons (.list (.cons (.var 0) .nil)) (.cons (.var 1) (.cons (.var 2) (.cons (.var 3) .nil))))) (.cons .ne (.list (.cons (.var 0) .nil)) .nil)) (.cons (.ret (.lit (.str 81)))
  .nil) .nil)
  (.cons (.ite (.cmp (.var 2) (.cons .isIn (.tup (.cons (.lit (.str 77)) (.cons (.lit (.str 80)) .nil))) .nil)) (.cons (.ret (.lit (.str 101)))
  .nil) .nil)
  (.cons (.asg (.nm (.v 4)) (.idx (.call 18 (.cons (.var 0) (.cons (.var 1) (.cons (.cmp (.var 2) (.cons .eq (.lit (.str 78)) .nil)) .nil)))) (.lit (.int 0))))
  (.cons (.ret (.ite (.meth (.var 3) 17 (.cons (.var 4) .nil)) (.lit (.str 73)) (.lit (.str 101))))
  .nil))))⟩
noncomputable def f30:Fn:=⟨4,9,
  (.cons (.asg (.nm (.v 3)) (.ite (.cmp (.var 3) (.cons .is (.lit .none) .nil)) (.new 2 (.cons (.var 1) .nil)) (.var 3)))
  (.cons (.asg (.nm (.tup [5,6])) (.tup (.cons (.lit (.str 101)) (.cons (.lit (.int 0)) .nil))))
  (.cons (.for_ (.v 4) (.plain (.var 0)) (.cons (.asg (.nm (.v 7)) (.meth (.var 1) 3 (.cons (.lit (.str 41)) (.cons (.var 4) .nil))))
  (.cons (.asg (.nm (.v 8)) (.call 29 (.cons (.var 4) (.cons (.var 1) (.cons (.var 2) (.cons (.var 3) .nil))))))
  (.cons (.ite (.bop false (.cons (.cmp (.var 8) (.cons .eq (.lit (.str 81)) .nil)) (.cons (.cmp (.lit (.int 0)) (.cons .lt (.var 7) (.cons .lt (.var 6) .nil))) .nil))) (.cons (.ret (.lit (.str 81)))
  .nil) .nil)
  (.cons (.ite (.cmp (.var 8) (.cons .eq (.lit (.str 73)) .nil)) (.cons (.asg (.nm (.v 5)) (.lit (.str 73)))
  .nil) .nil)
  (.cons (.asg (.nm (.v 6)) (.var 7))
  .nil))))))
  (.cons (.ret (.var 5))
  .nil))))⟩
noncomputable def f31:Fn:=⟨4,5,
  (.cons (.asg (.nm (.v 3)) (.ite (.cmp (.var 3) (.cons .is (.lit .none) .nil)) (.new 2 (.cons (.var 1) .nil)) (.var 3)))
  (.cons (.asg (.nm (.v 4)) (.call 30 (.cons (.var 0) (.cons (.var 1) (.cons (.var 2) (.cons (.var 3) .nil))))))
  (.cons (.ret (.bop false (.cons (.cmp (.var 4) (.cons .eq (.lit (.str 101)) .nil)) (.cons (.bop true (.cons (.cmp (.var 4) (.cons .eq (.lit (.str 73)) .nil)) (.cons (.cmp (.call 27 (.cons (.var 0) (.cons (.var 1) (.cons (.var 2) (.cons (.var 3) .nil))))) (.cons .eq (.blt 4 (.cons (.var 0) .nil)) .nil)) .nil))) .nil))))
  .nil)))⟩
noncomputable def f32:Fn:=⟨8,8,
  (.cons (.asg (.attr (.var 0) 18) (.var 1))
  (.cons (.asg (.attr (.var 0) 19) (.var 2))
  (.cons (.asg (.attr (.var 0) 20) (.var 3))
  (.cons (.asg (.attr (.var 0) 21) (.var 4))
  (.cons (.asg (.attr (.var 0) 22) (.var 5))
  (.cons (.asg (.attr (.var 0) 23) (.var 6))
  (.cons (.asg (.attr (.var 0) 24) (.var 7))
  .nil)))))))⟩
noncomputable def f33:Fn:=⟨1,1,
  (.cons (.ret (.bop false (.cons (.cmp (.lit (.int 97)) (.cons .le (.var 0) (.cons .le (.lit (.int 122)) .nil))) (.cons (.cmp (.lit (.int 48)) (.cons .le (.var 0) (.cons .le (.lit (.int 57)) .nil))) (.cons (.cmp (.var 0) (.cons .eq (.glob (.int 45)) .nil)) .nil)))))
  .nil)⟩
noncomputable def f34:Fn:=⟨3,5,
  (.cons (.asg (.nm (.tup [3,4])) (.meth (.var 1) 3 (.cons (.lit (.str 61)) (.cons (.var 0) .nil))))
  (.cons (.ite (.cmp (.var 3) (.cons .eq (.lit (.str 50)) .nil)) (.cons (.ret (.tup (.cons (.ite (.var 2) (.lit (.str 48)) (.lit (.str 97))) (.cons (.var 4) .nil))))
  .nil) .nil)
  (.cons (.ite (.cmp (.var 3) (.cons .eq (.lit (.str 49)) .nil)) (.cons (.ret (.tup (.cons (.ite (.var 2) (.lit (.str 48)) (.lit (.str 71))) (.cons (.var 4) .nil))))
  .nil) .nil)
  (.cons (.ret (.tup (.cons (.var 3) (.cons (.var 4) .nil))))
  .nil))))⟩
noncomputable def f35:Fn:=⟨4,9,
  (.cons (.asg (.nm (.tup [6,7])) (.call 34 (.cons (.var 0) (.cons (.var 1) (.cons (.var 3) .nil)))))
  (.cons (.ite (.cmp (.var 6) (.cons .eq (.lit (.str 97)) .nil)) (.cons (.ret (.list (.cons (.var 0) .nil)))
  .nil) .nil)
  (.cons (.ite (.cmp (.var 6) (.cons .eq (.lit (.str 64)) .nil)) (.cons (.ret (.list .nil))
  .nil) .nil)
  (.cons (.ite (.cmp (.var 6) (.cons .eq (.lit (.str 46)) .nil)) (.cons (.ret (.ite (.var 2) (.blt 4 (.cons (.var 7) .nil)) (.list (.cons (.var 0) .nil))))
  .nil) .nil)
  (.cons (.ite (.cmp (.var 6) (.cons .ne (.lit (.str 71)) .nil)) (.cons (.ret (.lit .none))
  .nil) .nil)
  (.cons (.ite (.not (.var 2)) (.cons (.ret (.blt 4 (.cons (.var 7) .nil)))
  .nil) .nil)
  (.cons (.asg (.nm (.v 4)) (.list .nil))
  (.cons (.for_ (.v 5) (.plain (.var 7)) (.cons (.asg (.nm (.v 8)) (.call 34 (.cons (.var 5) (.cons (.var 1) (.cons (.var 3) .nil)))))
  (.cons (.expr (.meth (.var 4) 1 (.cons (.ite (.cmp (.idx (.var 8) (.lit (.int 0))) (.cons .eq (.lit (.str 46)) .nil)) (.blt 4 (.cons (.idx (.var 8) (.lit (.int 1))) .nil)) (.list (.cons (.var 5) .nil))) .nil)))
  .nil)))
  (.cons (.ret (.var 4))
  .nil)))))))))⟩
noncomputable def f36:Fn:=⟨4,8,
  (.cons (.asg (.nm (.tup [5,6])) (.tup (.cons (.list .nil) (.cons (.list .nil) .nil))))
  (.cons (.for_ (.v 4) (.plain (.var 0)) (.cons (.asg (.nm (.v 7)) (.call 35 (.cons (.var 4) (.cons (.var 1) (.cons (.var 2) (.cons (.var 3) .nil))))))
  (.cons (.ite (.cmp (.var 7) (.cons .is (.lit .none) .nil)) (.cons (.asg (.nm (.v 6)) (.list (.cons (.lit (.str 48)) .nil)))
  (.cons (.asg (.nm (.v 7)) (.list (.cons (.var 4) .nil)))
  .nil)) .nil)
  (.cons (.expr (.meth (.var 5) 1 (.cons (.var 7) .nil)))
  .nil))))
  (.cons (.ret (.tup (.cons (.call 28 (.cons (.var 5) (.cons (.var 1) .nil))) (.cons (.var 6) .nil))))
  .nil)))⟩
noncomputable def f37:Fn:=⟨1,3,
  (.cons (.asg (.nm (.v 1)) (.list (.cons (.list .nil) .nil)))
  (.cons (.for_ (.v 2) (.plain (.var 0)) (.cons (.ite (.cmp (.var 2) (.cons .eq (.glob (.int 46)) .nil)) (.cons (.expr (.meth (.var 1) 0 (.cons (.list .nil) .nil)))
  .nil) (.cons (.expr (.meth (.idx (.var 1) (.neg (.lit (.int 1)))) 0 (.cons (.var 2) .nil)))
  .nil))
  .nil))
  (.cons (.ret (.var 1))
  .nil)))⟩
noncomputable def f38:Fn:=⟨5,6,
  (.cons (.while_ (.cmp (.lit (.int 0)) (.cons .le (.var 1) (.cons .lt (.blt 0 (.cons (.var 0) .nil)) .nil))) (.cons (.asg (.nm (.v 5)) (.meth (.var 3) 3 (.cons (.lit (.str 67)) (.cons (.idx (.var 0) (.var 1)) .nil))))
  (.cons (.ite (.cmp (.var 5) (.cons .ne (.lit (.str 31)) .nil)) (.cons (.ret (.cmp (.var 5) (.cons .isIn (.var 4) .nil)))
  .nil) .nil)
  (.cons (.aug 1 .add (.var 2))
  .nil))))
  (.cons (.ret (.lit (.bool false)))
  .nil))⟩
noncomputable def f39:Fn:=⟨3,3,
  (.cons (.ite (.bop true (.cons (.cmp (.var 1) (.cons .gt (.lit (.int 0)) .nil)) (.cons (.cmp (.meth (.var 2) 3 (.cons (.lit (.str 41)) (.cons (.idx (.var 0) (.bin .sub (.var 1) (.lit (.int 1)))) .nil))) (.cons .eq (.glob (.int 9)) .nil)) .nil))) (.cons (.ret (.lit (.bool true)))
  .nil) .nil)
  (.cons (.ite (.cmp (.idx (.var 0) (.var 1)) (.cons .eq (.glob (.int 8205)) .nil)) (.cons (.ret (.lit (.bool false)))
  .nil) .nil)
  (.cons (.ret (.bop true (.cons (.call 38 (.cons (.var 0) (.cons (.bin .sub (.var 1) (.lit (.int 1))) (.cons (.neg (.lit (.int 1))) (.cons (.var 2) (.cons (.tup (.cons (.lit (.str 12)) (.cons (.lit (.str 8)) .nil))) .nil)))))) (.cons (.call 38 (.cons (.var 0) (.cons (.bin .add (.var 1) (.lit (.int 1))) (.cons (.lit (.int 1)) (.cons (.var 2) (.cons (.tup (.cons (.lit (.str 30)) (.cons (.lit (.str 8)) .nil))) .nil)))))) .nil))))
  .nil)))⟩
noncomputable def f40:Fn:=⟨2,3,
  (.cons (.ret (.comp (.meth (.var 1) 3 (.cons (.lit (.str 36)) (.cons (.var 2) .nil))) (.v 2) (.plain (.var 0)) .nil [2]))
  .nil)⟩
noncomputable def f41:Fn:=⟨2,4,
  (.cons (.for_ (.v 2) (.plain (.var 0)) (.cons (.for_ (.v 3) (.plain (.call 40 (.cons (.var 2) (.cons (.var 1) .nil)))) (.cons (.ite (.cmp (.var 3) (.cons .isIn (.tup (.cons (.lit (.str 30)) (.cons (.lit (.str 1)) (.cons (.lit (.str 2)) .nil)))) .nil)) (.cons (.ret (.lit (.bool true)))
  .nil) .nil)
  .nil))
  .nil))
  (.cons (.ret (.lit (.bool false)))
  .nil))⟩
noncomputable def f42:Fn:=⟨1,2,
  (.cons (.for_ (.v 1) (.plain (.slc (.var 0) .none .none (.some (.neg (.lit (.int 1)))))) (.cons (.ite (.cmp (.var 1) (.cons .ne (.lit (.str 21)) .nil)) (.cons (.ret (.var 1))
  .nil) .nil)
  .nil))
  (.cons (.ret (.lit .none))
  .nil))⟩
noncomputable def f43:Fn:=⟨2,6,
  (.cons (.asg (.nm (.v 2)) (.call 40 (.cons (.var 0) (.cons (.var 1) .nil))))
  (.cons (.ite (.cmp (.var 2) (.cons .eq (.list .nil) .nil)) (.cons (.ret (.lit (.bool true)))
  .nil) .nil)
  (.cons (.asg (.nm (.v 3)) (.call 42 (.cons (.var 2) .nil)))
  (.cons (.ite (.cmp (.idx (.var 2) (.lit (.int 0))) (.cons .isIn (.tup (.cons (.lit (.str 30)) (.cons (.lit (.str 1)) .nil))) .nil)) (.cons (.ite (.bop false (.cons (.blt 2 (.cons (.comp (.cmp (.var 4) (.cons .notIn (.glob (.tup [(.str 30),(.str 1),(.str 2),(.str 9),(.str 10),(.str 5),(.str 11),(.str 24),(.str 3),(.str 21)])) .nil)) (.v 4) (.plain (.var 2)) .nil [4]) .nil)) (.cons (.bop true (.cons (.cmp (.lit (.str 9)) (.cons .isIn (.var 2) .nil)) (.cons (.cmp (.lit (.str 2)) (.cons .isIn (.var 2) .nil)) .nil))) .nil))) (.cons (.ret (.lit (.bool false)))
  .nil) .nil)
  (.cons (.ret (.cmp (.var 3) (.cons .isIn (.tup (.cons (.lit (.str 30)) (.cons (.lit (.str 1)) (.cons (.lit (.str 9)) (.cons (.lit (.str 2)) .nil))))) .nil)))
  .nil)) .nil)
  (.cons (.ite (.cmp (.idx (.var 2) (.lit (.int 0))) (.cons .eq (.lit (.str 12)) .nil)) (.cons (.ret (.bop true (.cons (.not (.blt 2 (.cons (.comp (.cmp (.var 5) (.cons .notIn (.glob (.tup [(.str 12),(.str 9),(.str 10),(.str 5),(.str 11),(.str 24),(.str 3),(.str 21)])) .nil)) (.v 5) (.plain (.var 2)) .nil [5]) .nil))) (.cons (.cmp (.var 3) (.cons .isIn (.tup (.cons (.lit (.str 12)) (.cons (.lit (.str 9)) .nil))) .nil)) .nil))))
  .nil) .nil)
  (.cons (.ret (.lit (.bool false)))
  .nil))))))⟩
noncomputable def f44:Fn:=⟨2,3,
  (.cons (.ite (.var 1) (.cons (.asg (.nm (.v 2)) (.bop false (.cons (.cmp (.slc (.var 0) .none (.some (.lit (.int 1))) .none) (.cons .eq (.list (.cons (.glob (.int 45)) .nil)) .nil)) (.cons (.cmp (.slc (.var 0) (.some (.neg (.lit (.int 1)))) .none .none) (.cons .eq (.list (.cons (.glob (.int 45)) .nil)) .nil)) .nil))))
  (.cons (.ret (.ite (.bop false (.cons (.var 2) (.cons (.cmp (.slc (.var 0) (.some (.lit (.int 2))) (.some (.lit (.int 4))) .none) (.cons .eq (.list (.cons (.glob (.int 45)) (.cons (.glob (.int 45)) .nil))) .nil)) .nil))) (.list (.cons (.lit (.str 59)) .nil)) (.list .nil)))
  .nil)) .nil)
  (.cons (.ret (.ite (.cmp (.slc (.var 0) .none (.some (.lit (.int 4))) .none) (.cons .eq (.glob (.gl 2)) .nil)) (.list (.cons (.lit (.str 86)) .nil)) (.list .nil)))
  .nil))⟩
noncomputable def f45:Fn:=⟨4,7,
  (.cons (.for_ (.v 4) (.plain (.var 0)) (.cons (.asg (.nm (.v 5)) (.idx (.call 34 (.cons (.var 4) (.cons (.var 1) (.cons (.lit (.bool false)) .nil)))) (.lit (.int 0))))
  (.cons (.asg (.nm (.v 6)) (.bop false (.cons (.var 3) (.cons (.not (.attr (.var 2) 18)) .nil))))
  (.cons (.ite (.bop true (.cons (.cmp (.var 5) (.cons .ne (.lit (.str 97)) .nil)) (.cons (.not (.bop true (.cons (.cmp (.var 5) (.cons .eq (.lit (.str 46)) .nil)) (.cons (.var 6) .nil)))) .nil))) (.cons (.ret (.list (.cons (.lit (.str 48)) .nil)))
  .nil) .nil)
  (.cons (.ite (.bop true (.cons (.attr (.var 2) 19) (.cons (.cmp (.var 4) (.cons .le (.lit (.int 127)) .nil)) (.cons (.not (.call 33 (.cons (.var 4) .nil))) .nil)))) (.cons (.ret (.list (.cons (.lit (.str 48)) .nil)))
  .nil) .nil)
  .nil)))))
  (.cons (.ret (.list .nil))
  .nil))⟩
noncomputable def f46:Fn:=⟨4,7,
  (.cons (.asg (.nm (.v 4)) (.list .nil))
  (.cons (.ite (.not (.call 31 (.cons (.var 0) (.cons (.var 1) (.cons (.lit (.str 76)) .nil))))) (.cons (.expr (.meth (.var 4) 0 (.cons (.lit (.str 56)) .nil)))
  .nil) .nil)
  (.cons (.expr (.meth (.var 4) 1 (.cons (.call 44 (.cons (.var 0) (.cons (.attr (.var 2) 20) .nil))) .nil)))
  (.cons (.ite (.cmp (.glob (.int 46)) (.cons .isIn (.var 0) .nil)) (.cons (.expr (.meth (.var 4) 0 (.cons (.lit (.str 52)) .nil)))
  .nil) .nil)
  (.cons (.ite (.bop true (.cons (.cmp (.var 0) (.cons .ne (.list .nil) .nil)) (.cons (.cmp (.meth (.var 1) 3 (.cons (.lit (.str 57)) (.cons (.idx (.var 0) (.lit (.int 0))) .nil))) (.cons .isIn (.glob (.tup [(.str 19),(.str 17),(.str 18)])) .nil)) .nil))) (.cons (.expr (.meth (.var 4) 0 (.cons (.lit (.str 72)) .nil)))
  .nil) .nil)
  (.cons (.expr (.meth (.var 4) 1 (.cons (.call 45 (.cons (.var 0) (.cons (.var 1) (.cons (.var 2) (.cons (.var 3) .nil))))) .nil)))
  (.cons (.for_ (.tup [5,6]) (.enum (.var 0)) (.cons (.ite (.bop true (.cons (.attr (.var 2) 21) (.cons (.cmp (.var 6) (.cons .isIn (.tup (.cons (.glob (.int 8205)) (.cons (.glob (.int 8204)) .nil))) .nil)) (.cons (.not (.call 39 (.cons (.var 0) (.cons (.var 5) (.cons (.var 1) .nil))))) .nil)))) (.cons (.expr (.meth (.var 4) 0 (.cons (.lit (.str 66)) .nil)))
  .nil) .nil)
  (.cons (.ite (.bop true (.cons (.attr (.var 2) 23) (.cons (.not .bad) .nil))) (.cons (.expr (.meth (.var 4) 0 (.cons (.lit (.str 45)) .nil)))
  .nil) .nil)
  .nil)))
  (.cons (.ret (.var 4))
  .nil))))))))⟩
noncomputable def f47:Fn:=⟨3,3,
  (.cons (.ite (.cmp (.slc (.var 0) .none (.some (.blt 0 (.cons (.glob (.gl 2)) .nil))) .none) (.cons .ne (.glob (.gl 2)) .nil)) (.cons (.ret (.tup (.cons (.var 0) (.cons (.call 46 (.cons (.var 0) (.cons (.var 1) (.cons (.var 2) (.cons (.lit (.bool false)) .nil))))) .nil))))
  .nil) .nil)
  (.cons (.ite (.not .bad) (.cons (.ret (.tup (.cons (.var 0) (.cons (.list (.cons (.lit (.str 87)) .nil)) .nil))))
  .nil) .nil)
  (.cons (.ret .bad)
  .nil)))⟩
noncomputable def f48:Fn:=⟨1,3,
  (.cons (.asg (.nm (.v 1)) (.list .nil))
  (.cons (.for_ (.v 2) (.plain (.blt 3 (.cons (.var 0) .nil))) (.cons (.ite (.bop false (.cons (.cmp (.var 1) (.cons .eq (.list .nil) .nil)) (.cons (.cmp (.idx (.var 1) (.neg (.lit (.int 1)))) (.cons .ne (.var 2) .nil)) .nil))) (.cons (.expr (.meth (.var 1) 0 (.cons (.var 2) .nil)))
  .nil) .nil)
  .nil))
  (.cons (.ret (.var 1))
  .nil)))⟩
noncomputable def f49:Fn:=⟨3,9,
  (.cons (.asg (.nm (.tup [5,6])) (.call 36 (.cons (.var 0) (.cons (.var 1) (.cons (.attr (.var 2) 18) (.cons (.attr (.var 2) 19) .nil))))))
  (.cons (.asg (.nm (.v 3)) (.list .nil))
  (.cons (.for_ (.v 4) (.plain (.call 37 (.cons (.var 5) .nil))) (.cons (.asg (.nm (.tup [7,8])) (.call 47 (.cons (.var 4) (.cons (.var 1) (.cons (.var 2) .nil)))))
  (.cons (.expr (.meth (.var 3) 0 (.cons (.var 7) .nil)))
  (.cons (.asg (.nm (.v 6)) (.bin .add (.var 6) (.var 8)))
  .nil))))
  (.cons (.ite (.bop true (.cons (.attr (.var 2) 22) (.cons (.call 41 (.cons (.var 3) (.cons (.var 1) .nil))) .nil))) (.cons (.for_ (.v 4) (.plain (.var 3)) (.cons (.ite (.not (.call 43 (.cons (.var 4) (.cons (.var 1) .nil)))) (.cons (.expr (.meth (.var 6) 0 (.cons (.lit (.str 37)) .nil)))
  .nil) .nil)
  .nil))
  .nil) .nil)
  (.cons (.ret (.tup (.cons (.var 3) (.cons (.call 48 (.cons (.var 6) .nil)) .nil))))
  .nil)))))⟩
noncomputable def f50:Fn:=⟨1,5,
  (.cons (.asg (.nm (.tup [2,3])) (.tup (.cons (.comp (.bin .mod (.blt 1 (.cons (.var 4) .nil)) (.lit (.int 1000003))) (.v 4) (.plain (.slc (.var 0) .none (.some (.lit (.int 24))) .none)) .nil [4]) (.cons (.lit (.int 3407)) .nil))))
  (.cons (.for_ (.v 1) (.plain (.var 2)) (.cons (.asg (.nm (.v 3)) (.bin .mod (.bin .add (.bin .add (.bin .mul (.var 3) (.lit (.int 31))) (.var 1)) (.lit (.int 1))) (.lit (.int 1000003))))
  .nil))
  (.cons (.ret (.dict [70,74] (.cons (.var 2) (.cons (.var 3) .nil))))
  .nil)))⟩
noncomputable def f51:Fn:=⟨2,2,
  (.cons (.ite (.cmp (.idx (.var 0) (.lit (.str 70))) (.cons .ne (.list .nil) .nil)) (.cons (.ret (.bin .mod (.meth (.idx (.var 0) (.lit (.str 70))) 2 (.cons (.lit (.int 0)) .nil)) (.var 1)))
  .nil) .nil)
  (.cons (.asg (.sub (.var 0) (.lit (.str 74))) (.bin .mod (.bin .add (.bin .mul (.idx (.var 0) (.lit (.str 74))) (.lit (.int 4801))) (.lit (.int 97))) (.lit (.int 1000003))))
  (.cons (.ret (.bin .mod (.bin .div (.idx (.var 0) (.lit (.str 74))) (.lit (.int 7))) (.var 1)))
  .nil)))⟩
noncomputable def f52:Fn:=⟨0,11,
  (.cons (.asg (.nm (.tup [1,2])) (.tup (.cons (.new 1 .nil) (.cons (.dict [61,57,41,67,36] (.cons (.tup (.cons (.lit (.str 48)) (.cons (.tup .nil) .nil))) (.cons (.lit (.str 7)) (.cons (.lit (.int 0)) (.cons (.lit (.str 32)) (.cons (.lit (.str 12)) .nil)))))) .nil))))
  (.cons (.for_ (.v 0) (.plain (.blt 3 (.cons (.glob (.gl 0)) .nil))) (.cons (.asg (.nm (.tup [4,5,3,6,7,8])) (.idx (.glob (.gl 0)) (.var 0)))
  (.cons (.asg (.nm (.v 3)) (.ite (.cmp (.slc (.var 3) .none (.some (.lit (.int 1))) .none) (.cons .eq (.lit (.str 16)) .nil)) (.var 3) (.lit (.str 7))))
  (.cons (.for_ (.tup [9,10]) (.plain (.tup (.cons (.tup (.cons (.lit (.str 61)) (.cons (.tup (.cons (.var 4) (.cons (.var 5) .nil))) .nil))) (.cons (.tup (.cons (.lit (.str 57)) (.cons (.var 3) .nil))) (.cons (.tup (.cons (.lit (.str 41)) (.cons (.var 6) .nil))) (.cons (.tup (.cons (.lit (.str 67)) (.cons (.var 7) .nil))) (.cons (.tup (.cons (.lit (.str 36)) (.cons (.var 8) .nil))) .nil))))))) (.cons (.ite (.cmp (.var 10) (.cons .ne (.idx (.var 2) (.var 9)) .nil)) (.cons (.expr (.meth (.var 1) 12 (.cons (.var 9) (.cons (.var 0) (.cons (.var 0) (.cons (.var 10) .nil))))))
  .nil) .nil)
  .nil))
  .nil))))
  (.cons (.expr (.meth (.var 1) 12 (.cons (.lit (.str 61)) (.cons (.lit (.int 46)) (.cons (.lit (.int 46)) (.cons (.tup (.cons (.lit (.str 97)) (.cons (.tup .nil) .nil))) .nil))))))
  (.cons (.ret (.var 1))
  .nil))))⟩
noncomputable def f53:Fn:=⟨3,11,
  (.cons (.asg (.nm (.v 3)) (.list .nil))
  (.cons (.for_ (.v 4) (.plain (.var 0)) (.cons (.asg (.nm (.tup [7,8])) (.slc (.idx (.glob (.gl 0)) (.var 4)) .none (.some (.lit (.int 2))) .none))
  (.cons (.ite (.cmp (.var 7) (.cons .eq (.lit (.str 48)) .nil)) (.cons (.asg (.sub (.var 2) (.lit (.str 48))) (.lit (.bool true)))
  .nil) .nil)
  (.cons (.ite (.bop false (.cons (.cmp (.var 7) (.cons .eq (.lit (.str 71)) .nil)) (.cons (.bop true (.cons (.cmp (.var 7) (.cons .eq (.lit (.str 46)) .nil)) (.cons (.var 1) .nil))) .nil))) (.cons (.for_ (.v 9) (.plain (.var 8)) (.cons (.asg (.nm (.v 10)) (.bop true (.cons (.var 1) (.cons (.cmp (.idx (.idx (.glob (.gl 0)) (.var 9)) (.lit (.int 0))) (.cons .eq (.lit (.str 46)) .nil)) .nil))))
  (.cons (.expr (.meth (.var 3) 1 (.cons (.ite (.var 10) (.idx (.idx (.glob (.gl 0)) (.var 9)) (.lit (.int 1))) (.tup (.cons (.var 9) .nil))) .nil)))
  .nil)))
  .nil) (.cons (.ite (.cmp (.var 7) (.cons .ne (.lit (.str 64)) .nil)) (.cons (.expr (.meth (.var 3) 0 (.cons (.var 4) .nil)))
  .nil) .nil)
  .nil))
  .nil))))
  (.cons (.for_ (.v 5) (.range1 (.blt 0 (.cons (.var 3) .nil))) (.cons (.for_ (.v 6) (.range2 (.lit (.int 1)) (.blt 0 (.cons (.var 3) .nil))) (.cons (.ite (.cmp (.lit (.int 0)) (.cons .lt (.idx (.idx (.glob (.gl 0)) (.idx (.var 3) (.var 6))) (.lit (.int 3))) (.cons .lt (.idx (.idx (.glob (.gl 0)) (.idx (.var 3) (.bin .sub (.var 6) (.lit (.int 1))))) (.lit (.int 3))) .nil))) (.cons (.asg (.subs (.var 3) (.bin .sub (.var 6) (.lit (.int 1))) (.var 3) (.var 6)) (.tup (.cons (.idx (.var 3) (.var 6)) (.cons (.idx (.var 3) (.bin .sub (.var 6) (.lit (.int 1)))) .nil))))
  .nil) .nil)
  .nil))
  .nil))
  (.cons (.ret (.var 3))
  .nil))))⟩
noncomputable def f54:Fn:=⟨1,10,
  (.cons (.asg (.nm (.v 1)) (.comp (.var 5) (.tup [4,5]) (.enum (.var 0)) (.cons (.bop false (.cons (.cmp (.var 5) (.cons .ne (.lit (.str 21)) .nil)) (.cons (.cmp (.comp (.lit (.int 1)) (.v 6) (.plain (.slc (.var 0) (.some (.var 4)) .none .none)) (.cons (.cmp (.var 6) (.cons .ne (.lit (.str 21)) .nil)) .nil) [6]) (.cons .ne (.list .nil) .nil)) .nil))) .nil) [4,5]))
  (.cons (.asg (.nm (.tup [2,3])) (.tup (.cons (.list (.cons (.lit (.str 9)) (.cons (.lit (.str 10)) (.cons (.lit (.str 5)) (.cons (.lit (.str 11)) (.cons (.lit (.str 24)) (.cons (.lit (.str 3)) (.cons (.lit (.str 21)) .nil)))))))) (.cons (.comp (.var 7) (.v 7) (.plain (.tup (.cons (.lit (.str 9)) (.cons (.lit (.str 2)) .nil)))) (.cons (.cmp (.var 7) (.cons .isIn (.var 0) .nil)) .nil) [7]) .nil))))
  (.cons (.ite (.cmp (.idx (.var 0) (.lit (.int 0))) (.cons .eq (.lit (.str 12)) .nil)) (.cons (.ret (.bop true (.cons (.cmp (.comp (.var 8) (.v 8) (.plain (.var 0)) (.cons (.cmp (.var 8) (.cons .notIn (.bin .add (.var 2) (.list (.cons (.lit (.str 12)) .nil))) .nil)) .nil) [8]) (.cons .eq (.list .nil) .nil)) (.cons (.cmp (.idx (.var 1) (.neg (.lit (.int 1)))) (.cons .isIn (.tup (.cons (.lit (.str 12)) (.cons (.lit (.str 9)) .nil))) .nil)) .nil))))
  .nil) .nil)
  (.cons (.ite (.bop false (.cons (.cmp (.idx (.var 0) (.lit (.int 0))) (.cons .notIn (.tup (.cons (.lit (.str 30)) (.cons (.lit (.str 1)) .nil))) .nil)) (.cons (.cmp (.blt 0 (.cons (.var 3) .nil)) (.cons .eq (.lit (.int 2)) .nil)) .nil))) (.cons (.ret (.lit (.bool false)))
  .nil) .nil)
  (.cons (.ret (.bop true (.cons (.cmp (.comp (.var 9) (.v 9) (.plain (.var 0)) (.cons (.cmp (.var 9) (.cons .notIn (.bin .add (.var 2) (.list (.cons (.lit (.str 30)) (.cons (.lit (.str 1)) (.cons (.lit (.str 2)) .nil))))) .nil)) .nil) [9]) (.cons .eq (.list .nil) .nil)) (.cons (.cmp (.idx (.var 1) (.neg (.lit (.int 1)))) (.cons .isIn (.tup (.cons (.lit (.str 30)) (.cons (.lit (.str 1)) (.cons (.lit (.str 9)) (.cons (.lit (.str 2)) .nil))))) .nil)) .nil))))
  .nil)))))⟩
noncomputable def f55:Fn:=⟨2,11,
  (.cons (.ite (.bop true (.cons (.cmp (.var 1) (.cons .gt (.lit (.int 0)) .nil)) (.cons (.cmp (.idx (.idx (.glob (.gl 0)) (.idx (.var 0) (.bin .sub (.var 1) (.lit (.int 1))))) (.lit (.int 3))) (.cons .eq (.lit (.int 9)) .nil)) .nil))) (.cons (.ret (.lit (.bool true)))
  .nil) .nil)
  (.cons (.asg (.nm (.v 2)) (.slc (.comp (.idx (.idx (.glob (.gl 0)) (.var 6)) (.lit (.int 4))) (.v 6) (.plain (.slc (.var 0) .none (.some (.var 1)) .none)) .nil [6]) .none .none (.some (.neg (.lit (.int 1))))))
  (.cons (.asg (.nm (.v 3)) (.comp (.idx (.idx (.glob (.gl 0)) (.var 7)) (.lit (.int 4))) (.v 7) (.plain (.slc (.var 0) (.some (.bin .add (.var 1) (.lit (.int 1)))) .none .none)) .nil [7]))
  (.cons (.asg (.nm (.v 4)) (.slc (.comp (.var 9) (.tup [8,9]) (.enum (.var 2)) (.cons (.cmp (.var 9) (.cons .ne (.lit (.str 31)) .nil)) .nil) [8,9]) .none (.some (.lit (.int 1))) .none))
  (.cons (.asg (.nm (.v 5)) (.slc (.comp (.var 10) (.v 10) (.plain (.var 3)) (.cons (.cmp (.var 10) (.cons .ne (.lit (.str 31)) .nil)) .nil) [10]) .none (.some (.lit (.int 1))) .none))
  (.cons (.ret (.bop true (.cons (.cmp (.idx (.var 0) (.var 1)) (.cons .eq (.lit (.int 8204)) .nil)) (.cons (.cmp (.var 4) (.cons .ne (.list .nil) .nil)) (.cons (.cmp (.idx (.var 4) (.lit (.int 0))) (.cons .isIn (.tup (.cons (.lit (.str 12)) (.cons (.lit (.str 8)) .nil))) .nil)) (.cons (.cmp (.var 5) (.cons .ne (.list .nil) .nil)) (.cons (.cmp (.idx (.var 5) (.lit (.int 0))) (.cons .isIn (.tup (.cons (.lit (.str 30)) (.cons (.lit (.str 8)) .nil))) .nil)) .nil)))))))
  .nil))))))⟩
noncomputable def f56:Fn:=⟨1,23,
  (.cons (.asg (.nm (.tup [7,8])) (.tup (.cons (.call 50 (.cons (.var 0) .nil)) (.cons (.dict [] .nil) .nil))))
  (.cons (.asg (.nm (.v 1)) (.comp (.idx (.glob (.gl 1)) (.call 51 (.cons (.var 7) (.cons (.lit (.int 23)) .nil)))) (.v 18) (.range1 (.call 51 (.cons (.var 7) (.cons (.lit (.int 7)) .nil)))) .nil [18]))
  (.cons (.asg (.nm (.v 2)) (.call 51 (.cons (.var 7) (.cons (.bin .add (.blt 0 (.cons (.var 1) .nil)) (.lit (.int 1))) .nil))))
  (.cons (.asg (.nm (.v 1)) (.bin .add (.bin .add (.slc (.var 1) .none (.some (.var 2)) .none) (.list (.cons (.lit (.int 98)) .nil))) (.slc (.var 1) (.some (.var 2)) .none .none)))
  (.cons (.asg (.nm (.tup [9,10])) (.tup (.cons (.cmp (.call 51 (.cons (.var 7) (.cons (.lit (.int 4)) .nil))) (.cons .eq (.lit (.int 3)) .nil)) (.cons (.cmp (.call 51 (.cons (.var 7) (.cons (.lit (.int 4)) .nil))) (.cons .ne (.lit (.int 3)) .nil)) .nil))))
  (.cons (.asg (.nm (.tup [11,12,13])) (.tup (.cons (.cmp (.call 51 (.cons (.var 7) (.cons (.lit (.int 4)) .nil))) (.cons .ne (.lit (.int 3)) .nil)) (.cons (.cmp (.call 51 (.cons (.var 7) (.cons (.lit (.int 4)) .nil))) (.cons .ne (.lit (.int 3)) .nil)) (.cons (.cmp (.call 51 (.cons (.var 7) (.cons (.lit (.int 4)) .nil))) (.cons .ne (.lit (.int 3)) .nil)) .nil)))))
  (.cons (.asg (.nm (.v 3)) (.call 53 (.cons (.var 1) (.cons (.var 9) (.cons (.var 8) .nil)))))
  (.cons (.ite (.cmp (.slc (.idx (.idx (.glob (.gl 0)) (.idx (.var 3) (.lit (.int 0)))) (.lit (.int 2))) .none (.some (.lit (.int 1))) .none) (.cons .eq (.lit (.str 16)) .nil)) (.cons (.asg (.sub (.var 8) (.lit (.str 72))) (.lit (.bool true)))
  .nil) .nil)
  (.cons (.ite (.bop true (.cons (.var 11) (.cons (.bop false (.cons (.cmp (.idx (.var 3) (.lit (.int 0))) (.cons .eq (.lit (.int 45)) .nil)) (.cons (.cmp (.idx (.var 3) (.neg (.lit (.int 1)))) (.cons .eq (.lit (.int 45)) .nil)) (.cons (.cmp (.slc (.var 3) (.some (.lit (.int 2))) (.some (.lit (.int 4))) .none) (.cons .eq (.list (.cons (.lit (.int 45)) (.cons (.lit (.int 45)) .nil))) .nil)) .nil)))) .nil))) (.cons (.asg (.sub (.var 8) (.lit (.str 59))) (.lit (.bool true)))
  .nil) .nil)
  (.cons (.ite (.bop true (.cons (.var 10) (.cons (.cmp (.comp (.var 19) (.v 19) (.plain (.var 3)) (.cons (.bop true (.cons (.cmp (.var 19) (.cons .lt (.lit (.int 128)) .nil)) (.cons (.cmp (.var 19) (.cons .notIn (.tup (.cons (.lit (.int 45)) (.cons (.lit (.int 49)) (.cons (.lit (.int 97)) (.cons (.lit (.int 98)) (.cons (.lit (.int 115)) .nil)))))) .nil)) .nil))) .nil) [19]) (.cons .ne (.list .nil) .nil)) .nil))) (.cons (.asg (.sub (.var 8) (.lit (.str 48))) (.lit (.bool true)))
  .nil) .nil)
  (.cons (.for_ (.tup [14,15]) (.enum (.var 3)) (.cons (.ite (.bop true (.cons (.var 12) (.cons (.cmp (.var 15) (.cons .isIn (.tup (.cons (.lit (.int 8204)) (.cons (.lit (.int 8205)) .nil))) .nil)) (.cons (.not (.call 55 (.cons (.var 3) (.cons (.var 14) .nil)))) .nil)))) (.cons (.asg (.sub (.var 8) (.lit (.str 66))) (.lit (.bool true)))
  .nil) .nil)
  .nil))
  (.cons (.asg (.nm (.v 4)) (.comp (.idx (.idx (.glob (.gl 0)) (.var 20)) (.lit (.int 5))) (.v 20) (.plain (.var 3)) .nil [20]))
  (.cons (.asg (.nm (.v 5)) (.cmp (.call 51 (.cons (.var 7) (.cons (.lit (.int 4)) .nil))) (.cons .eq (.lit (.int 3)) .nil)))
  (.cons (.ite (.bop true (.cons (.var 13) (.cons (.bop false (.cons (.var 5) (.cons (.cmp (.comp (.var 21) (.v 21) (.plain (.var 4)) (.cons (.cmp (.var 21) (.cons .isIn (.tup (.cons (.lit (.str 30)) (.cons (.lit (.str 1)) (.cons (.lit (.str 2)) .nil)))) .nil)) .nil) [21]) (.cons .ne (.list .nil) .nil)) .nil))) (.cons (.not (.call 54 (.cons (.var 4) .nil))) .nil)))) (.cons (.asg (.sub (.var 8) (.lit (.str 37))) (.lit (.bool true)))
  .nil) .nil)
  (.cons (.asg (.nm (.v 6)) (.newK 3 [18,19,20,21,22,23,24] (.cons (.var 9) (.cons (.var 10) (.cons (.var 11) (.cons (.var 12) (.cons (.var 13) (.cons (.lit (.bool false)) (.cons (.lit (.bool true)) .nil)))))))))
  (.cons (.asg (.nm (.tup [16,17])) (.call 49 (.cons (.bin .add (.var 1) (.ite (.var 5) (.list (.cons (.lit (.int 46)) (.cons (.lit (.int 1488)) .nil))) (.list .nil))) (.cons (.call 52 .nil) (.cons (.var 6) .nil)))))
  (.cons (.ret (.bop true (.cons (.cmp (.comp (.blt 4 (.cons (.var 22) .nil)) (.v 22) (.plain (.var 16)) .nil [22]) (.cons .eq (.bin .add (.list (.cons (.var 3) .nil)) (.ite (.var 5) (.list (.cons (.list (.cons (.lit (.int 1488)) .nil)) .nil)) (.list .nil))) .nil)) (.cons (.cmp (.blt 4 (.cons (.var 17) .nil)) (.cons .eq (.blt 3 (.cons (.var 8) .nil)) .nil)) .nil))))
  .nil)))))))))))))))))⟩
noncomputable def fnT:List Fn:=[f0,f1,f2,f3,f4,f5,f6,f7,f8,f9,f10,f11,f12,f13,f14,f15,f16,f17,f18,f19,f20,f21,f22,f23,f24,f25,f26,f27,f28,f29,f30,f31,f32,f33,f34,f35,f36,f37,f38,f39,f40,f41,f42,f43,f44,f45,f46,f47,f48,f49,f50,f51,f52,f53,f54,f55,f56]
noncomputable def arityT:List Nat:=[2,1,1,1,2,2,2,1,2,4,1,1,0,1,2,5,3,3,3,2,3,3,1,2,3,2,3,4,2,4,4,4,8,1,3,4,4,1,5,3,2,2,1,2,2,4,4,3,1,3,1,2,0,3,1,2,1]
noncomputable def dfltT:List (List AV):=[[],[],[],[],[],[],[],[],[],[],[],[],[],[],[],[],[],[],[],[],[(.bool false)],[],[],[],[],[],[.none],[.none],[],[],[.none],[.none],[(.bool false),(.bool true),(.bool true),(.bool true),(.bool true),(.bool false),(.bool true)],[],[],[],[(.bool true)],[],[],[],[],[],[],[],[],[],[],[],[],[],[],[],[],[],[],[],[]]
noncomputable def mthT:List (Nat×Nat×Nat):=[(0,3,8),(0,12,9),(0,13,11),(1,11,14),(1,12,15),(1,3,16),(2,16,24),(2,17,25)]
noncomputable def initT:List Nat:=[6,13,23,32]
noncomputable def fstT:List (Option Nat):=[some 0,none,none,none,some 4,some 4,some 4,some 4,some 8,none,none,none,some 12,some 12,some 12,some 12,some 16,some 16,some 16,some 16,some 20,some 20,some 20,some 20,none,none,some 26,some 26,some 26,some 26,some 30,some 31,some 32,none,none,none,none,none,none,none,none,none,none,none,none,none,none,none,none,none,none,none,none,none,none,none,none,none,none,none,none,none,none,none,none,none,none,none,none,none,none,none,none,none,none,none,none,none,none,none,none,none,none,none,none,none,none,none,none,none,none,none,none,none,none,none,none,none,none,none,none,none]
noncomputable def rowsT:List (Int×AV):=[(98,(.tup [(.str 97),(.tup []),(.str 13),(.int 0),(.str 32),(.str 12)])),
 (49,(.tup [(.str 97),(.tup []),(.str 22),(.int 0),(.str 32),(.str 9)])),
 (45,(.tup [(.str 97),(.tup []),(.str 28),(.int 0),(.str 32),(.str 10)])),
 (65,(.tup [(.str 71),(.tup [(.int 97)]),(.str 15),(.int 0),(.str 32),(.str 12)])),
 (97,(.tup [(.str 97),(.tup []),(.str 13),(.int 0),(.str 32),(.str 12)])),
 (95,(.tup [(.str 97),(.tup []),(.str 27),(.int 0),(.str 32),(.str 24)])),
 (173,(.tup [(.str 64),(.tup []),(.str 6),(.int 0),(.str 31),(.str 3)])),
 (223,(.tup [(.str 46),(.tup [(.int 115),(.int 115)]),(.str 13),(.int 0),(.str 32),(.str 12)])),
 (7838,(.tup [(.str 71),(.tup [(.int 223)]),(.str 15),(.int 0),(.str 32),(.str 12)])),
 (8226,(.tup [(.str 48),(.tup []),(.str 29),(.int 0),(.str 32),(.str 24)])),
 (769,(.tup [(.str 97),(.tup []),(.str 19),(.int 230),(.str 31),(.str 21)])),
 (2381,(.tup [(.str 97),(.tup []),(.str 19),(.int 9),(.str 31),(.str 21)])),
 (2307,(.tup [(.str 97),(.tup []),(.str 17),(.int 0),(.str 32),(.str 12)])),
 (8204,(.tup [(.str 46),(.tup []),(.str 6),(.int 0),(.str 32),(.str 3)])),
 (8205,(.tup [(.str 46),(.tup []),(.str 6),(.int 0),(.str 4),(.str 3)])),
 (1576,(.tup [(.str 97),(.tup []),(.str 14),(.int 0),(.str 8),(.str 1)])),
 (1575,(.tup [(.str 97),(.tup []),(.str 14),(.int 0),(.str 30),(.str 1)])),
 (1488,(.tup [(.str 97),(.tup []),(.str 14),(.int 0),(.str 32),(.str 30)])),
 (1632,(.tup [(.str 97),(.tup []),(.str 22),(.int 0),(.str 32),(.str 2)])),
 (183,(.tup [(.str 97),(.tup []),(.str 29),(.int 0),(.str 32),(.str 24)])),
 (37,(.tup [(.str 97),(.tup []),(.str 29),(.int 0),(.str 32),(.str 11)])),
 (44,(.tup [(.str 97),(.tup []),(.str 29),(.int 0),(.str 32),(.str 5)])),
 (43122,(.tup [(.str 97),(.tup []),(.str 14),(.int 0),(.str 12),(.str 12)])),
 (115,(.tup [(.str 97),(.tup []),(.str 13),(.int 0),(.str 32),(.str 12)]))]
noncomputable def poolT:List Int:=[98,49,45,65,97,95,173,223,8226,769,2381,8204,8205,1576,1575,1488,1632,183,7838,2307,37,44,43122]
noncomputable def tb (script:List Int):Tb where
 γ:=λk=>match k with
  | 0=>.idict rowsT
  | 1=>.list (poolT.map AV.int)
  | 2=>.list [.int 120,.int 110,.int 45,.int 45]
  | 3=>.list (script.map AV.int)
  | J=>.nothing
 mth:=λc n=>(mthT.find? λx=>x.1==c&&x.2.1==n).map (λJ=>J.2.2)
 boxC:=λJ=>1
 init:=λc=>initT[c]?
 arity:=λf=>arityT.getD f 0
 dflt:=λf=>dfltT.getD f []
 fst:=λk=>(fstT.getD k none)
noncomputable def strT:List String:=["","AL","AN","BN","C","CS","Cf","Cn","D","EN","ES","ET","L","Ll","Lo","Lu","M","Mc","Me","Mn","N","NSM","Nd","None","ON","Other","P","Pc","Pd","Po","R","T","U","XX","Zzzz","alias","bc","bidi","bm","bpb","cased","ccc","cf","ci","conf","context","deviation","di","disallowed","disallowed_STD3_mapped","disallowed_STD3_valid","dm","dot","ea","ep","ex","form","gc","gcb","hyphens","idc","idna","ids","idst","ignored","incb","joiner","jt","lb","lc","left","mapped","mark","maybe","mixed","name","nfc","nfd","nfkc","nfkc_cf","nfkd","no","nt","nv","pat_syn","pat_ws","prefix","punycode","sb","sc","scx","sd","slc","stc","suc","tc","uc","valid","wb","xidc","xids","yes"]
noncomputable def nameT:List String:=["append","extend","pop","get","default","starts","values","defaults","maps","properties","words","map_of","put","ranges","pairs","seconds","pair","is_second","is_transitional","only_letters","hyphens","joiners","directions","contexts","lengths"]
end Mine.Internal
namespace Mine.Internal
open PySem PySem.W PySem.Calls PyProof.Rows PySem.SeqAt
noncomputable def SS (k:Nat):Str:=Str.ofString (strT.getD k "")
noncomputable def NS:Nat:=strT.length
noncomputable def NM (k:Nat):Str:=Str.ofString (nameT.getD k "")
noncomputable def NN:Nat:=nameT.length
noncomputable abbrev Rf:=Nat->Option Addr
mutual
noncomputable def VR (h:Heap) (rf gf:Rf):AV->Value->Prop:=λω ψ=>match ω,ψ with
 | .none,v=>v=.none
 | .bool b,v=>v=.bool b
 | .int i,v=>∃t,v=.int i t
 | .str k,v=>k<NS/\∃t,v=.str (SS k) t
 | .tup xs,v=>∃a items,v=.ref a/\h.IsTuple a items/\VRs h rf gf xs items.toList
 | .ref i,v=>∃a,rf i=some a/\v=.ref a
 | .gl k,v=>∃a,gf k=some a/\v=.ref a
noncomputable def VRs (h:Heap) (rf gf:Rf):List AV->List Value->Prop:=λω ψ=>match ω,ψ with
 | [],vs=>vs=[]
 | x::xs,vs=>∃v r,vs=v::r/\VR h rf gf x v/\VRs h rf gf xs r
end
noncomputable def KR (h:Heap) (rf gf:Rf):List (Nat×AV)->List (Str×Value)->Prop:=λω ψ=>match ω,ψ with
 | [],l=>l=[]
 | (k,x)::r,l=>∃v q,l=(SS k,v)::q/\k<NS/\VR h rf gf x v/\KR h rf gf r q
noncomputable def DR (h:Heap) (rf gf:Rf):List (Nat×AV)->List DictEntry->Prop:=λω ψ=>match ω,ψ with
 | [],l=>l=[]
 | (k,x)::r,l=>∃e q,l=e::q/\k<NN/\(∃t,e.key=.str (NM k) t)/\VR h rf gf x e.val/\DR h rf gf r q
noncomputable def IR (h:Heap) (rf gf:Rf):List (Int×AV)->List (Int×Value)->Prop:=λω ψ=>match ω,ψ with
 | [],l=>l=[]
 | (k,x)::r,l=>∃v q,l=(k,v)::q/\VR h rf gf x v/\IR h rf gf r q
structure Cfg where
 prog:Program
 w:World
 K:Frag
 hb:Heap
 mg:Str->Option Value
 mb:Str->Option Value
 P:Addr
 ps:Array Value
 lpos:Pos
 lqual:Str
 τ:Tb
 gf:Rf
 fa:Nat->Addr
 ca:Nat->Addr
 BX:Nat->Heap->List Addr->Prop
noncomputable def noRf:Rf:=λJ=>none
noncomputable def OR (C:Cfg) (h:Heap) (rf:Rf):AO->List Addr->Prop:=λω ψ=>match ω,ψ with
 | .list xs,as=>∃a items,as=[a]/\h.PlainList a items/\VRs h rf C.gf xs items.toList/\xs.length<=SZ
 | .sdict kvs,as=>∃a l,as=[a]/\h.DictOf (strKind C.prog C.w) a l/\KR h rf C.gf kvs l/\kvs.length<=1000/\(a==sysModules)=false
 | .inst c fs,as=>∃x dx es n,as=[x,dx]/\h.get? x=some (instObj (C.ca c) dx)/\h.get? dx=some (dictOf es n)/\DR h rf C.gf fs es/\fs.length<=100
 | .box k,as=>C.BX k h as
noncomputable abbrev Ro:=List (List Addr)
noncomputable def ab (ρ:Ro):Rf:=λi=>(ρ[i]?).bind (λJ=>J.head?)
structure Rel (C:Cfg) (ρ:Ro) (σ:St) (h:Heap):Prop where
 len:ρ.length=σ.length
 obj:∀(i:Nat) (o:AO) (as:List Addr),σ[i]?=some o->ρ[i]?=some as->OR C h (ab ρ) o as
 nd:ρ.flatten.Nodup
 new:∀a∈ρ.flatten,C.hb.get? a=none/\a≠C.P
noncomputable def Frm (C:Cfg) (as:List Addr) (h h':Heap):Prop:=∀b o,h.get? b=some o->b∉as->b≠C.P->h'.get? b=some o
noncomputable def LamOK (C:Cfg) (h:Heap):Prop:=
 h.get? C.P=some (tabObj C.ps)\/∃c,h.get? C.P=some (tabObj (C.ps++#[rawInt C.lpos.line,rawInt C.lpos.col,.ref c]))/\h.CodeRec (.ref c) C.lqual/\C.hb.get? c=none
structure Bas (C:Cfg) (h:Heap):Prop where
 keep:∀b o,C.hb.get? b=some o->b≠C.P->h.get? b=some o
 lam:LamOK C h
structure BoxOK (C:Cfg):Prop where
 mono:∀k h h' as,C.BX k h as->(∀a∈as,∀o,h.get? a=some o->h'.get? a=some o)->(∀a o,h.get? a=some o->(o.cls=.type "tuple"/\∃xs n,o.data=.seq xs n)->h'.get? a=some o)->C.BX k h' as
 cls:∀k h as,C.BX k h as->∀a∈as,∀o,h.get? a=some o->o.cls≠.type "tuple"/\∀vs,o.data≠.fields vs
 there:∀k h as,C.BX k h as->∀a∈as,∃o,h.get? a=some o
 head:∀k h as,C.BX k h as->∃(x dx:Addr) (r:List Addr) (es:List DictEntry) (n:Nat),as=x::r/\h.get? x=some (instObj (C.ca (C.τ.boxC k)) dx)/\h.get? dx=some (dictOf es n) /\
  ∀j,C.τ.mth (C.τ.boxC k) j≠none->getL (NM j) es=some none
structure OKA (A:Around) (d:Nat):Prop where
 hd:A.handled=none
 depth:A.depth+2*d<recursionLimit
 units:A.units+8*d+64<cLine
noncomputable def Grw (ρ ρ':Ro):Prop:=∀(i:Nat) (as:List Addr),ρ[i]?=some as->∃more,ρ'[i]?=some (as++more)
theorem Grw.refl (ρ:Ro):Grw ρ ρ:=λJ as h=>⟨[],by rw [List.append_nil];exact h⟩
theorem Grw.trans {ρ₁ ρ₂ ρ₃:Ro} (a:Grw ρ₁ ρ₂) (b:Grw ρ₂ ρ₃):Grw ρ₁ ρ₃:=λi as h=>by
 obtain ⟨m1,h1⟩:=a i as h
 obtain ⟨m2,h2⟩:=b i _ h1
 exact ⟨m1++m2,by rw [<-List.append_assoc];exact h2⟩
theorem Grw.app (ρ tl:Ro):Grw ρ (ρ++tl):=λi as h=>⟨[],by rw [List.append_nil,List.getElem?_append_left (List.getElem?_eq_some_iff.mp h).1];exact h⟩
theorem Grw.rf {ρ ρ':Ro} (g:Grw ρ ρ') (i:Nat) (a:Addr) (e:ab ρ i=some a):ab ρ' i=some a:=by
 unfold ab at e ⊢
 cases hx:ρ[i]? with
 | none=>rw [hx] at e;cases e
 | some as=>
  obtain ⟨more,h⟩:=g i as hx
  rw [hx] at e
  rw [h]
  cases as with
  | nil=>cases e
  | cons b r=>exact e
theorem Grw.mem {ρ ρ':Ro} (g:Grw ρ ρ') {a:Addr} (h:a∈ρ.flatten):a∈ρ'.flatten:=by
 obtain ⟨as,h1,h2⟩:=List.mem_flatten.mp h
 obtain ⟨i,hi,rfl⟩:=List.mem_iff_getElem.mp h1
 obtain ⟨more,h3⟩:=g i _ (List.getElem?_eq_getElem hi)
 exact List.mem_flatten.mpr ⟨_,List.mem_of_getElem? h3,List.mem_append_left _ h2⟩
theorem Grw.len {ρ ρ':Ro} (g:Grw ρ ρ'):ρ.length<=ρ'.length:=by
 rcases Nat.lt_or_ge ρ'.length ρ.length with h | h
 ·obtain ⟨more,h1⟩:=g ρ'.length _ (List.getElem?_eq_getElem h)
  rw [List.getElem?_eq_none (Nat.le_refl _)] at h1;cases h1
 ·exact h
structure Aft (C:Cfg) (ρ:Ro) (s s':Shared) (ρ':Ro):Prop where
 rest:s'={ s with heap:=s'.heap,toks:=s'.toks }
 ext:Grw ρ ρ'
 fresh:∀a∈ρ'.flatten,a∈ρ.flatten\/(s.heap.get? a=none/\a≠C.P)
 frm:Frm C ρ.flatten s.heap s'.heap
mutual
theorem VR.mono {h h':Heap} {rf rf' gf:Rf} (hr:∀i a,rf i=some a->rf' i=some a) (ht:∀a o,h.get? a=some o->(o.cls=.type "tuple"/\∃xs n,o.data=.seq xs n)->h'.get? a=some o):
  ∀(x:AV) {v:Value},VR h rf gf x v->VR h' rf' gf x v:=@λω=>@λψ=>@λχ=>match ω,ψ,χ with
 | .none,J,e=>e
 | .bool J,ζ,e=>e
 | .int J,ζ,e=>e
 | .str J,ζ,e=>e
 | .tup xs,J,⟨a,items,e,⟨o,ho,hc,n,hd⟩,hv⟩=>⟨a,items,e,⟨o,ht a o ho ⟨hc,_,_,hd⟩,hc,n,hd⟩,VRs.mono hr ht xs hv⟩
 | .ref i,J,⟨a,e,hv⟩=>⟨a,hr i a e,hv⟩
 | .gl J,ζ,e=>e
theorem VRs.mono {h h':Heap} {rf rf' gf:Rf} (hr:∀i a,rf i=some a->rf' i=some a) (ht:∀a o,h.get? a=some o->(o.cls=.type "tuple"/\∃xs n,o.data=.seq xs n)->h'.get? a=some o):
  ∀(xs:List AV) {vs:List Value},VRs h rf gf xs vs->VRs h' rf' gf xs vs:=@λω=>@λψ=>@λχ=>match ω,ψ,χ with
 | [],J,e=>e
 | x::xs,J,⟨v,r,e,hv,hr'⟩=>⟨v,r,e,VR.mono hr ht x hv,VRs.mono hr ht xs hr'⟩
end
section
variable {h h':Heap} {rf rf' gf:Rf} (hr:∀i a,rf i=some a->rf' i=some a) (ht:∀a o,h.get? a=some o->(o.cls=.type "tuple"/\∃xs n,o.data=.seq xs n)->h'.get? a=some o)
include hr ht
theorem KR.mono:∀(kvs:List (Nat×AV)) {l:List (Str×Value)},KR h rf gf kvs l->KR h' rf' gf kvs l:=@λω=>@λψ=>@λχ=>match ω,ψ,χ with
 | [],J,e=>e
 | (J,x)::r,ζ,⟨v,q,e,hk,hv,hq⟩=>⟨v,q,e,hk,hv.mono hr ht x,KR.mono r hq⟩
theorem DR.mono:∀(kvs:List (Nat×AV)) {l:List DictEntry},DR h rf gf kvs l->DR h' rf' gf kvs l:=@λω=>@λψ=>@λχ=>match ω,ψ,χ with
 | [],J,e=>e
 | (J,x)::r,ζ,⟨v,q,e,hn,hk,hv,hq⟩=>⟨v,q,e,hn,hk,hv.mono hr ht x,DR.mono r hq⟩
theorem IR.mono:∀(kvs:List (Int×AV)) {l:List (Int×Value)},IR h rf gf kvs l->IR h' rf' gf kvs l:=@λω=>@λψ=>@λχ=>match ω,ψ,χ with
 | [],J,e=>e
 | (J,x)::r,ζ,⟨v,q,e,hv,hq⟩=>⟨v,q,e,hv.mono hr ht x,IR.mono r hq⟩
theorem OR.mono {C:Cfg} (B:BoxOK C) (o:AO) {as:List Addr} (hk:∀a∈as,∀o,h.get? a=some o->h'.get? a=some o) (x:OR C h rf o as):OR C h' rf' o as:=by
 cases o with
 | list xs=>
  obtain ⟨a,items,rfl,⟨n,hl⟩,hv,hz⟩:=x
  exact ⟨a,items,rfl,⟨n,hk a (by simp) _ hl⟩,hv.mono hr ht xs,hz⟩
 | sdict kvs=>
  obtain ⟨a,l,rfl,⟨o,es,ep,ho,r⟩,hv,hz⟩:=x
  exact ⟨a,l,rfl,⟨o,es,ep,hk a (by simp) _ ho,r⟩,KR.mono hr ht kvs hv,hz⟩
 | inst c fs=>
  obtain ⟨x,dx,es,n,rfl,h1,h2,hv,hz⟩:=x
  exact ⟨x,dx,es,n,rfl,hk x (by simp) _ h1,hk dx (by simp) _ h2,DR.mono hr ht fs hv,hz⟩
 | box k=>exact B.mono k h h' as x hk ht
end
theorem rfOf_append (ρ tl:Ro) (i:Nat) (a:Addr) (e:ab ρ i=some a):ab (ρ++tl) i=some a:=by
 unfold ab at e ⊢
 cases hx:ρ[i]? with
 | none=>rw [hx] at e;cases e
 | some as=>
  rw [hx] at e
  have hlt:i < ρ.length:=by
   rcases Nat.lt_or_ge i ρ.length with q | q
   ·exact q
   ·rw [List.getElem?_eq_none q] at hx;cases hx
  rw [List.getElem?_append_left hlt,hx];exact e
theorem mem_flat {ρ:Ro} {i:Nat} {as:List Addr} (e:ρ[i]?=some as) {a:Addr} (ha:a∈as):a∈ρ.flatten:=
 List.mem_flatten.mpr ⟨as,List.mem_of_getElem? e,ha⟩
theorem nodup_apart:∀{ρ:Ro},ρ.flatten.Nodup->∀{i j:Nat} {as bs:List Addr},i≠j->ρ[i]?=some as->ρ[j]?=some bs->∀a∈as,a∉bs:=@λω=>@λψ=>@λχ=>@λϕ=>@λϱ=>@λς=>@λϑ=>@λϖ=>@λϐ=>@λϰ=>@λϗ=>match ω,ψ,χ,ϕ,ϱ,ς,ϑ,ϖ,ϐ,ϰ,ϗ with
 | [],J,ζ,η,θ,μ,ν,e,ξ,π,υ=>by cases e
 | x::r,hn,i,j,as,bs,hij,e1,e2,a,ha=>by
  rw [List.flatten_cons,List.nodup_append] at hn
  obtain ⟨_,h2,h3⟩:=hn
  cases i with
  | zero=>
   cases j with
   | zero=>exact absurd rfl hij
   | succ j=>
    simp at e1 e2;subst e1
    exact λhb=>h3 a ha a (mem_flat e2 hb) rfl
  | succ i=>
   cases j with
   | zero=>
    simp at e1 e2;subst e2
    exact λhb=>h3 a hb a (mem_flat e1 ha) rfl
   | succ j=>
    simp at e1 e2
    exact nodup_apart h2 (λq=>hij (by rw [q])) e1 e2 a ha
section
variable {C:Cfg} (B:BoxOK C)
include B
theorem OR.notTup {h:Heap} {rf:Rf} (o:AO) {as:List Addr} (x:OR C h rf o as):∀a∈as,∀ob,h.get? a=some ob->ob.cls≠.type "tuple"/\∀vs,ob.data≠.fields vs:=by
 cases o with
 | list xs=>
  obtain ⟨a,items,rfl,⟨n,hl⟩,hv,hz⟩:=x
  intro b hb ob e
  rw [List.mem_singleton.mp hb,hl] at e
  cases e;exact ⟨by simp,λJ q=>by cases q⟩
 | sdict kvs=>
  obtain ⟨a,l,rfl,⟨o,es,ep,ho,hx,hd,r⟩,hv,hz⟩:=x
  intro b hb ob e
  rw [List.mem_singleton.mp hb,ho] at e
  cases e;exact ⟨by rw [hx.1];simp,λJ q=>by rw [hd] at q;cases q⟩
 | inst c fs=>
  obtain ⟨x,dx,es,n,rfl,h1,h2,hv,hz⟩:=x
  intro b hb ob e
  rcases List.mem_cons.mp hb with q | q
  ·rw [q,h1] at e;cases e;exact ⟨by simp,λJ q=>by cases q⟩
  ·rw [List.mem_singleton.mp q,h2] at e;cases e;exact ⟨by simp,λJ q=>by cases q⟩
 | box k=>exact B.cls k h as x
theorem OR.there {h:Heap} {rf:Rf} (o:AO) {as:List Addr} (x:OR C h rf o as):∀a∈as,∃ob,h.get? a=some ob:=by
 cases o with
 | list xs=>
  obtain ⟨a,items,rfl,⟨n,hl⟩,hv,hz⟩:=x
  intro b hb;rw [List.mem_singleton.mp hb];exact ⟨_,hl⟩
 | sdict kvs=>
  obtain ⟨a,l,rfl,⟨o,es,ep,ho,r⟩,hv,hz⟩:=x
  intro b hb;rw [List.mem_singleton.mp hb];exact ⟨_,ho⟩
 | inst c fs=>
  obtain ⟨x,dx,es,n,rfl,h1,h2,hv,hz⟩:=x
  intro b hb
  rcases List.mem_cons.mp hb with q | q
  ·rw [q];exact ⟨_,h1⟩
  ·rw [List.mem_singleton.mp q];exact ⟨_,h2⟩
 | box k=>exact B.there k h as x
theorem Rel.notTup {ρ:Ro} {σ:St} {h:Heap} (R:Rel C ρ σ h) {a:Addr} (ha:a∈ρ.flatten) {ob:Obj} (e:h.get? a=some ob):ob.cls≠.type "tuple"/\∀vs,ob.data≠.fields vs:=by
 obtain ⟨as,h1,h2⟩:=List.mem_flatten.mp ha
 obtain ⟨i,hi,rfl⟩:=List.mem_iff_getElem.mp h1
 have hs:i < σ.length:=R.len▸hi
 exact OR.notTup B _ (R.obj i σ[i] ρ[i] (List.getElem?_eq_getElem hs) (List.getElem?_eq_getElem hi)) a h2 ob e
theorem Rel.tup {ρ:Ro} {σ:St} {h h':Heap} (R:Rel C ρ σ h) (F:Frm C ρ.flatten h h') (L:Bas C h):∀a o,h.get? a=some o->(o.cls=.type "tuple"/\∃xs n,o.data=.seq xs n)->h'.get? a=some o:=λa o e hc=>by
 refine F a o e (λq=>(Rel.notTup B R q e).1 hc.1) λq=>?_
 rw [q] at e
 rcases L.lam with z | ⟨c,z,_⟩<;>(rw [z] at e;cases e;cases hc.1)
theorem VR.aft {ρ ρ':Ro} {σ:St} {s s':Shared} {x:AV} {v:Value} (R:Rel C ρ σ s.heap) (L:Bas C s.heap) (a:Aft C ρ s s' ρ') (hv:VR s.heap (ab ρ) C.gf x v):VR s'.heap (ab ρ') C.gf x v:=by
 exact hv.mono a.ext.rf (Rel.tup B R a.frm L) x
theorem VRs.aft {ρ ρ':Ro} {σ:St} {s s':Shared} {x:List AV} {v:List Value} (R:Rel C ρ σ s.heap) (L:Bas C s.heap) (a:Aft C ρ s s' ρ') (hv:VRs s.heap (ab ρ) C.gf x v):VRs s'.heap (ab ρ') C.gf x v:=by
 exact hv.mono a.ext.rf (Rel.tup B R a.frm L) x
end
theorem Aft.refl {C:Cfg} (ρ:Ro) (s:Shared):Aft C ρ s s ρ:=⟨rfl,.refl _,λJ h=>.inl h,λJ J e J J=>e⟩
theorem Aft.toks {C:Cfg} (ρ:Ro) (s:Shared) (t:Nat):Aft C ρ s { s with toks:=t } ρ:=⟨rfl,.refl _,λJ h=>.inl h,λJ J e J J=>e⟩
theorem Aft.trans {C:Cfg} {ρ ρ₁ ρ₂:Ro} {s s₁ s₂:Shared} (a:Aft C ρ s s₁ ρ₁) (b:Aft C ρ₁ s₁ s₂ ρ₂):Aft C ρ s s₂ ρ₂:=by
 refine ⟨?_,?_,λx hx=>?_,λx o e hx hp=>?_⟩
 ·have e1:=a.rest
  have e2:=b.rest
  rw [e2];rw [e1]
 ·exact a.ext.trans b.ext
 ·rcases b.fresh x hx with q | ⟨q,hp⟩
  ·exact a.fresh x q
  ·by_cases hm:x∈ρ.flatten
   ·exact .inl hm
   ·refine .inr ⟨?_,hp⟩
    cases hq:s.heap.get? x with
    | none=>rfl
    | some o=>rw [a.frm x o hq hm hp] at q;cases q
 ·refine b.frm x o (a.frm x o e hx hp) (λq=>?_) hp
  rcases a.fresh x q with z | z
  ·exact hx z
  ·rw [z.1] at e;cases e
noncomputable def Kp (as:List Addr) (h h':Heap):Prop:=∀b o,h.get? b=some o->b∉as->h'.get? b=some o
theorem Kp.frm {C:Cfg} {as as':List Addr} {h h':Heap} (k:Kp as h h') (hs:∀a∈as,a∈as'):Frm C as' h h':=λb o e hb J=>k b o e λq=>hb (hs b q)
theorem Kp.nil {h h':Heap} (k:∀b o,h.get? b=some o->h'.get? b=some o) (as:List Addr):Kp as h h':=λb o e J=>k b o e
theorem Kp.of_same {a:Addr} {h h':Heap} (x:Heap.SameBut a h h'):Kp [a] h h':=λb J e hb=>x.extBut b _ (λq=>hb (by simp [q])) e
theorem LamOK.kp {C:Cfg} {h h':Heap} {as:List Addr} (L:LamOK C h) (k:Kp as h h') (hP:C.P∉as) (hn:∀a∈as,∀ob,h.get? a=some ob->∀vs,ob.data≠.fields vs):LamOK C h':=by
 rcases L with e | ⟨c,e,⟨c',o,vs,t,ec,g,d,r⟩,hc⟩
 ·exact .inl (k _ _ e hP)
 ·exact .inr ⟨c,k _ _ e hP,⟨c',o,vs,t,ec,k _ _ g (λq=>hn c' q o g vs d),d,r⟩,hc⟩
theorem LamOK.ex {C:Cfg} {h:Heap} (L:LamOK C h):∃ps,h.get? C.P=some (tabObj ps):=by
 rcases L with e | ⟨c,e,_⟩
 ·exact ⟨_,e⟩
 ·exact ⟨_,e⟩
theorem Bas.kp {C:Cfg} {h h':Heap} {as:List Addr} (L:Bas C h) (k:Kp as h h') (hn:∀a∈as,C.hb.get? a=none/\∀ob,h.get? a=some ob->∀vs,ob.data≠.fields vs):Bas C h':=by
 obtain ⟨ps,hP⟩:=L.lam.ex
 refine ⟨λb o e hb=>k b o (L.keep b o e hb) λq=>?_,L.lam.kp k (λq=>?_) λa ha=>(hn a ha).2⟩
 ·rw [(hn b q).1] at e;cases e
 ·exact (hn _ q).2 _ hP _ rfl
theorem Bas.notP {C:Cfg} {h:Heap} (L:Bas C h) {a:Addr} {ob:Obj} (e:h.get? a=some ob) (hd:∀vs,ob.data≠.fields vs):a≠C.P:=λq=>by
 obtain ⟨ps,hP⟩:=L.lam.ex
 rw [q,hP] at e;cases e;exact hd _ rfl
section
variable {C:Cfg} (B:BoxOK C) {ρ:Ro} {σ:St}
include B
theorem Rel.as_new {h:Heap} (R:Rel C ρ σ h) {as:List Addr} (hs:∀a∈as,a∈ρ.flatten):∀a∈as,C.hb.get? a=none/\∀ob,h.get? a=some ob->∀vs,ob.data≠.fields vs:=
 λa ha=>⟨(R.new a (hs a ha)).1,λJ e=>(Rel.notTup B R (hs a ha) e).2⟩
theorem aE {s:Shared} {h':Heap} {tk:Nat} (R:Rel C ρ σ s.heap) (L:Bas C s.heap) (k:∀b o,s.heap.get? b=some o->h'.get? b=some o):
  Aft C ρ s { s with heap:=h',toks:=tk } ρ/\Rel C ρ σ h'/\Bas C h':=by
 have kp:=Kp.nil k ([]:List Addr)
 refine ⟨⟨rfl,.refl _,λa ha=>.inl ha,λb o e J J=>k b o e⟩,⟨R.len,λi o as h1 h2=>?_,R.nd,R.new⟩,L.kp kp (λa ha=>nomatch ha)⟩
 exact OR.mono (λJ J e=>e) (λa o e J=>k a o e) B o (λa J o e=>k a o e) (R.obj i o as h1 h2)
theorem step_new {s:Shared} {h':Heap} {tk:Nat} {o:AO} {as:List Addr} (R:Rel C ρ σ s.heap) (L:Bas C s.heap) (k:∀b o,s.heap.get? b=some o->h'.get? b=some o)
  (hn:as.Nodup) (hf:∀a∈as,s.heap.get? a=none) (x:OR C h' (ab (ρ++[as])) o as):
  Aft C ρ s { s with heap:=h',toks:=tk } (ρ++[as])/\Rel C (ρ++[as]) (σ++[o]) h'/\Bas C h':=by
 have hP:∀a∈as,a≠C.P:=λa ha q=>by
  obtain ⟨ps,hP⟩:=L.lam.ex
  have:=hf a ha;rw [q,hP] at this;cases this
 have hnb:∀a∈as,C.hb.get? a=none:=λa ha=>by
  cases q:C.hb.get? a with
  | none=>rfl
  | some ob=>have:=L.keep a ob q (hP a ha);rw [hf a ha] at this;cases this
 refine ⟨⟨rfl,.app _ _,λa ha=>?_,λb o e J J=>k b o e⟩,⟨by simp [R.len],λi o' as' h1 h2=>?_,?_,λa ha=>?_⟩,L.kp (Kp.nil k ([]:List Addr)) (λa ha=>nomatch ha)⟩
 ·rw [List.flatten_append,List.mem_append] at ha
  rcases ha with q | q
  ·exact .inl q
  ·have:a∈as:=by simpa using q
   exact .inr ⟨hf a this,hP a this⟩
 ·rcases Nat.lt_trichotomy i σ.length with q | q | q
  ·rw [List.getElem?_append_left q] at h1
   rw [List.getElem?_append_left (R.len▸q)] at h2
   exact OR.mono (rfOf_append ρ [as]) (λa o e J=>k a o e) B o' (λa J o e=>k a o e) (R.obj i o' as' h1 h2)
  ·subst q
   rw [List.getElem?_append_right (Nat.le_refl _)] at h1
   rw [<-R.len,List.getElem?_append_right (Nat.le_refl _)] at h2
   simp at h1 h2;subst h1;subst h2;exact x
  ·rw [List.getElem?_eq_none (by simp;omega)] at h1;cases h1
 ·rw [List.flatten_append,List.nodup_append]
  refine ⟨R.nd,by simpa using hn,λa ha b hb e=>?_⟩
  have hb':b∈as:=by simpa using hb
  subst e
  obtain ⟨as',m1,m2⟩:=List.mem_flatten.mp ha
  obtain ⟨i,hi,rfl⟩:=List.mem_iff_getElem.mp m1
  have hs:i < σ.length:=R.len▸hi
  obtain ⟨ob,e⟩:=OR.there B _ (R.obj i σ[i] ρ[i] (List.getElem?_eq_getElem hs) (List.getElem?_eq_getElem hi)) a m2
  rw [hf a hb'] at e;cases e
 ·rw [List.flatten_append,List.mem_append] at ha
  rcases ha with q | q
  ·exact R.new a q
  ·have:a∈as:=by simpa using q
   exact ⟨hnb a this,hP a this⟩
theorem step_set {s:Shared} {h':Heap} {tk:Nat} {i:Nat} {o o':AO} {as:List Addr} (R:Rel C ρ σ s.heap) (L:Bas C s.heap) (hi:σ[i]?=some o) (hr:ρ[i]?=some as)
  (k:Kp as s.heap h') (x:OR C h' (ab ρ) o' as):Aft C ρ s { s with heap:=h',toks:=tk } ρ/\Rel C ρ (σ.set i o') h'/\Bas C h':=by
 have hs:∀a∈as,a∈ρ.flatten:=λa ha=>mem_flat hr ha
 have hlt:i < σ.length:=by
  rcases Nat.lt_or_ge i σ.length with q | q
  ·exact q
  ·rw [List.getElem?_eq_none q] at hi;cases hi
 refine ⟨⟨rfl,.refl _,λa ha=>.inl ha,k.frm hs⟩,⟨by simp [R.len],λj oj asj h1 h2=>?_,R.nd,R.new⟩,L.kp k (Rel.as_new B R hs)⟩
 by_cases hj:j=i
 ·subst hj
  rw [List.getElem?_set_self hlt] at h1
  rw [hr] at h2
  cases h1;cases h2;exact x
 ·rw [List.getElem?_set_ne (Ne.symm hj)] at h1
  have ap:∀a∈asj,a∉as:=λa ha hb=>nodup_apart R.nd (Ne.symm hj) hr h2 a hb ha
  exact OR.mono (λJ J e=>e) (λa ob e hc=>k a ob e λq=>(Rel.notTup B R (hs a q) e).1 hc.1) B oj (λa ha ob e=>k a ob e (ap a ha)) (R.obj j oj asj h1 h2)
end
mutual
noncomputable def rnA (ι:List Nat):AV->Option AV:=λω=>match ω with
 | .none=>some .none
 | .bool b=>some (.bool b)
 | .int i=>some (.int i)
 | .str k=>some (.str k)
 | .tup xs=>(rnAs ι xs).map .tup
 | .ref j=>(ι[j]?).map .ref
 | .gl k=>some (.gl k)
noncomputable def rnAs (ι:List Nat):List AV->Option (List AV):=λω=>match ω with
 | []=>some []
 | x::xs=>(rnA ι x).bind λy=>(rnAs ι xs).map (λJ=>y::J)
end
noncomputable def rnK {κ:Type} (ι:List Nat):List (κ×AV)->Option (List (κ×AV)):=λω=>match ω with
 | []=>some []
 | (k,x)::xs=>(rnA ι x).bind λy=>(rnK ι xs).map (λJ=>(k,y)::J)
noncomputable def rnO (ι:List Nat):AO->Option AO:=λω=>match ω with
 | .list xs=>(rnAs ι xs).map .list
 | .sdict kvs=>(rnK ι kvs).map .sdict
 | .inst c fs=>(rnK ι fs).map (.inst c)
 | .box k=>some (.box k)
noncomputable def VwM (ι:List Nat):Lo->Lo->Prop:=λω ψ=>match ω,ψ with
 | [],[]=>True
 | x2::r2,x::r=>(match x2,x with
  | none,J=>True
  | some v2,some v=>rnA ι v2=some v
  | some J,none=>False)/\VwM ι r2 r
 | J,ζ=>False
structure VwI (p:Nat) (ι:List Nat) (m:Lo) (σ:St) (m2:Lo) (σ2:St):Prop where
 nd:ι.Nodup
 lt:∀i∈ι,i < σ.length
 pin:∀j,j<p->ι[j]?=some j
 objs:σ2.map (rnO ι)=ι.map (λi=>σ[i]?)
 los:VwM ι m2 m
noncomputable def Vw (p:Nat) (m:Lo) (σ:St) (m2:Lo) (σ2:St):Prop:=(m2=m/\σ2=σ)\/∃ι,VwI p ι m σ m2 σ2
noncomputable def pinS (p:Nat):Src->Prop:=λω=>match ω with
 | .list i=>i<p
 | .enum i=>i<p
 | .keys i=>i<p
 | .fix xs=>∃ys,rnAs [] xs=some ys
 | .rng J ζ=>True
noncomputable def ForP (p:Nat) (src:Src) (t:T) (body:Nat->Lo->St->(Fl->Lo->St->Prop)->Prop) (m:Lo) (σ:St) (Φ:Fl->Lo->St->Prop):Prop:=
 ∃p' N,∃I:Nat->Lo->St->Prop,p<=p'/\pinS p' src/\I 0 m σ/\∀j m σ,I j m σ->j<=N/\(match itemAt σ src j with
  | none=>False
  | some none=>Φ .next m σ
  | some (some v)=>match aw t v m with
   | none=>False
   | some m'=>body p' m' σ λfl m'' σ'=>match fl with
    | .ret v=>Φ (.ret v) m'' σ'
    | J=>∃m2 σ2,Vw p' m'' σ' m2 σ2/\I (j+1) m2 σ2)
noncomputable def WhileP (p:Nat) (test:Lo->St->(Bool->St->Prop)->Prop) (body:Nat->Lo->St->(Fl->Lo->St->Prop)->Prop) (m:Lo) (σ:St) (Φ:Fl->Lo->St->Prop):Prop:=
 ∃p' N,∃I:Nat->Lo->St->Prop,p<=p'/\I 0 m σ/\∀j m σ,I j m σ->j<=N/\test m σ λb σ'=>match b with
  | false=>Φ .next m σ'
  | true=>body p' m σ' λfl m'' σ''=>match fl with
   | .ret v=>Φ (.ret v) m'' σ''
   | J=>∃m2 σ2,Vw p' m'' σ'' m2 σ2/\I (j+1) m2 σ2
noncomputable def CompP (src:Src) (t:T) (step:Lo->St->(Option AV->St->Prop)->Prop) (m:Lo) (σ:St) (pos:Nat) (Φ:AV->St->Prop):Prop:=
 ∃N,∃I:Nat->St->Prop,pinS pos src/\I 0 σ/\∀j σ,I j σ->j<=N/\(match itemAt σ src j with
  | none=>False
  | some none=>Φ (.ref pos) σ
  | some (some v)=>match aw t v m with
   | none=>False
   | some m'=>step m' σ λo σ'=>match o with
    | none=>∃σ2,Vw (pos+1) [] σ' [] σ2/\I (j+1) σ2
    | some y=>∃xs,σ'[pos]?=some (.list xs)/\xs.length<SZ/\∃σ2,Vw (pos+1) [] (σ'.set pos (.list (xs++[y]))) [] σ2/\I (j+1) σ2)
noncomputable def aV (C:Cfg) (ρ:Ro) (s:Shared) (Φ:AV->St->Prop) (Q:Value->Shared->Prop):Prop:=
 ∀V s' ρ' v σ',Aft C ρ s s' ρ'->Rel C ρ' σ' s'.heap->Bas C s'.heap->VR s'.heap (ab ρ') C.gf v V->Φ v σ'->Q V s'
noncomputable def fdAt (C:Cfg) (f:Nat):Option FuncData:=match C.K.lookup (C.fa f) with
 | some ⟨J,ζ,.func fd,η⟩=>some fd
 | J=>none
structure OKC (A:Around) (f:Nat):Prop where
 hd:A.handled=none
 depth:A.depth+2*f+1<recursionLimit
 units:A.units+8*f+70<cLine
noncomputable def aa (C:Cfg) (f:Nat) (args:List AV) (σ:St) (Φ:AV->St->Prop):Prop:=
 ∀A s ρ (Vs:List Value) (as:Args) (fd:FuncData) (Q:Value->Shared->Prop),OKC A f->Rel C ρ σ s.heap->Bas C s.heap->fdAt C f=some fd ->
  VRs s.heap (ab ρ) C.gf args Vs->BindsTo s fd as ((fd.params.args.map (λJ=>J.arg)).zip Vs)->aV C ρ s Φ Q ->
  codeAny (model C.prog C.w) A (.call (.ref (C.fa f)) as) (λr s'=>match r with
   | .ok (.ret v)=>Q v s'
   | J=>False) s
noncomputable def vcA (C:Cfg) (d:Nat):Alg Prop where
 fail:=False
 call:=λf args σ Φ=>f<d/\args.length=C.τ.arity f/\aa C f args σ Φ
 forL:=ForP
 whileL:=WhileP
 compL:=CompP
theorem aV.mono {C:Cfg} {ρ:Ro} {s:Shared} {Φ Ψ:AV->St->Prop} {Q:Value->Shared->Prop} (k:aV C ρ s Φ Q) (h:∀v σ,Ψ v σ->Φ v σ):aV C ρ s Ψ Q:=
 λV s' ρ' v σ' a R L hv p=>k V s' ρ' v σ' a R L hv (h v σ' p)
theorem aV.from {C:Cfg} {ρ ρ₁:Ro} {s s₁:Shared} {Φ:AV->St->Prop} {Q:Value->Shared->Prop} (k:aV C ρ s Φ Q) (a:Aft C ρ s s₁ ρ₁):aV C ρ₁ s₁ Φ Q:=
 λV s' ρ' v σ' b R L hv p=>k V s' ρ' v σ' (a.trans b) R L hv p
theorem aV.here {C:Cfg} (B:BoxOK C) {ρ:Ro} {σ:St} {s:Shared} {Φ:AV->St->Prop} {Q:Value->Shared->Prop} (k:aV C ρ s Φ Q) (R:Rel C ρ σ s.heap) (L:Bas C s.heap) {v:AV} {V:Value} {h':Heap} {tk:Nat}
  (kp:∀b o,s.heap.get? b=some o->h'.get? b=some o) (hv:VR h' (ab ρ) C.gf v V) (p:Φ v σ):Q V { s with heap:=h',toks:=tk }:=by
 obtain ⟨a,R',L'⟩:=aE (tk:=tk) B R L kp
 exact k V _ ρ v σ a R' L' hv p
structure ClsOK (C:Cfg) (c:Nat):Prop where
 ga:findIn C.K (.ref (C.ca c)) "__getattribute__"=some (some (.builtin "object.__getattribute__"))
 gt:findIn C.K (.ref (C.ca c)) "__getattr__"=some none
 sa:findIn C.K (.ref (C.ca c)) "__setattr__"=some (some (.builtin "object.__setattr__"))
 over:plainOver C.K (C.ca c)=true
 hd:hasDictIn C.K (C.ca c)=true
 mks:makesIn C.K (C.ca c)=true
 init:∀f,C.τ.init c=some f->findIn C.K (.ref (C.ca c)) "__init__"=some (some (.ref (C.fa f)))/\isFn C.K (.ref (C.fa f))=true
 att:∀n,n<25->C.τ.mth c n=none->findIn C.K (.ref (C.ca c)) (NM n)=some none
 meth:∀n f,C.τ.mth c n=some f->n<25/\findIn C.K (.ref (C.ca c)) (NM n)=some (some (.ref (C.fa f)))/\isFn C.K (.ref (C.fa f))=true
structure CfgOK (C:Cfg):Prop where
 box:BoxOK C
 hP:C.hb.get? C.P=some (tabObj C.ps)
 kin:∀a o,C.K.lookup a=some o->C.hb.get? a=some o/\a≠C.P
 glist:∀k xs,C.τ.γ k=.list xs->∃a items,C.gf k=some a/\C.hb.IsList a items/\VRs C.hb noRf C.gf xs items.toList/\xs.length<=SZ
 gdict:∀k kvs,C.τ.γ k=.idict kvs->∃a l,C.gf k=some a/\C.hb.DictOf (intKind C.prog C.w) a l/\IR C.hb noRf C.gf kvs l/\kvs.length<=1000
 lim:C.hb.NoLimit
 cls:∀c,c<4->ClsOK C c
 gsys:∀g kvs a,C.τ.γ g=.idict kvs->C.gf g=some a->(a==sysModules)=false
 glob:C.hb.Ns mainGlobals C.mg
 buil:C.hb.Ns builtinsNs C.mb
section
variable {C:Cfg} (W:CfgOK C)
include W
theorem CfgOK.notP {a:Addr} {o:Obj} (e:C.hb.get? a=some o) (hd:∀vs,o.data≠.fields vs):a≠C.P:=λq=>by
 rw [q,W.hP] at e;cases e;exact hd _ rfl
theorem CfgOK.notP' {a:Addr} {o:Obj} (e:C.hb.get? a=some o) (hd:o.cls≠.none):a≠C.P:=λq=>by
 rw [q,W.hP] at e;cases e;exact hd rfl
theorem Bas.old {h:Heap} (L:Bas C h) {a:Addr} {o:Obj} (e:C.hb.get? a=some o) (hd:∀vs,o.data≠.fields vs):h.get? a=some o:=L.keep a o e (W.notP e hd)
theorem Bas.tup {h:Heap} (L:Bas C h):∀a o,C.hb.get? a=some o->(o.cls=.type "tuple"/\∃xs n,o.data=.seq xs n)->h.get? a=some o:=λa o e hc=>L.keep a o e (W.notP' e (by rw [hc.1];simp))
theorem Bas.kin {h:Heap} (L:Bas C h):C.K.In h:=λa o e=>L.keep a o (W.kin a o e).1 (W.kin a o e).2
theorem Bas.lim {h:Heap} (L:Bas C h):h.NoLimit:=by
 obtain ⟨mc,⟨o,es,ep,ho,hd,r⟩,q⟩:=W.lim
 exact ⟨mc,⟨o,es,ep,Bas.old W L ho (λvs z=>by rw [hd] at z;cases z),hd,r⟩,q⟩
theorem Bas.ns {h:Heap} (L:Bas C h) {a:Addr} {m} (x:C.hb.Ns a m):h.Ns a m:=by
 obtain ⟨o,es,ep,ho,hd,r⟩:=x
 exact ⟨o,es,ep,Bas.old W L ho (λvs z=>by rw [hd] at z;cases z),hd,r⟩
end
section
variable {C:Cfg} (W:CfgOK C) {ρ:Ro} {σ:St} {s:Shared} {A:Around} {d:Nat} {Φ:AV->St->Prop} {Q:Value->Shared->Prop}
noncomputable def boOf:BO->Operator:=λω=>match ω with
 | .add=>.Add
 | .sub=>.Sub
 | .mul=>.Mult
 | .mod=>.Mod
 | .div=>.FloorDiv
theorem VRs.length {h:Heap} {rf gf:Rf}:∀{xs:List AV} {vs:List Value},VRs h rf gf xs vs->vs.length=xs.length:=@λω=>@λψ=>@λχ=>match ω,ψ,χ with
 | [],J,e=>by rw [e];rfl
 | J::xs,ζ,⟨v,r,e,η,hr⟩=>by rw [e,List.length_cons,List.length_cons,VRs.length hr]
theorem VRs.append {h:Heap} {rf gf:Rf}:∀{xs ys:List AV} {vs ws:List Value},VRs h rf gf xs vs->VRs h rf gf ys ws->VRs h rf gf (xs++ys) (vs++ws):=@λω=>@λψ=>@λχ=>@λϕ=>@λϱ=>@λς=>match ω,ψ,χ,ϕ,ϱ,ς with
 | [],J,ζ,η,e,k=>by rw [e];exact k
 | J::xs,ζ,η,θ,⟨v,r,e,hv,hr⟩,k=>by rw [e];exact ⟨v,r++_,rfl,hv,VRs.append hr k⟩
theorem VRs.get {h:Heap} {rf gf:Rf}:∀{xs:List AV} {vs:List Value},VRs h rf gf xs vs->∀{i:Nat} {x:AV},xs[i]?=some x->∃v,vs[i]?=some v/\VR h rf gf x v:=@λω=>@λψ=>@λχ=>@λϕ=>@λϱ=>@λς=>match ω,ψ,χ,ϕ,ϱ,ς with
 | [],J,ζ,i,x,e=>by cases i<;>cases e
 | y::xs,J,⟨v,r,e,hv,hr⟩,0,x,ex=>by simp at ex;subst ex;rw [e];exact ⟨v,rfl,hv⟩
 | y::xs,J,⟨v,r,e,hv,hr⟩,i+1,x,ex=>by
  rw [List.getElem?_cons_succ] at ex
  obtain ⟨w,h1,h2⟩:=VRs.get hr ex
  rw [e];exact ⟨w,by rw [List.getElem?_cons_succ];exact h1,h2⟩
theorem VRs.none {h:Heap} {rf gf:Rf} {xs:List AV} {vs:List Value} (k:VRs h rf gf xs vs) {i:Nat} (e:xs[i]?=none):vs[i]?=none:=by
 rw [List.getElem?_eq_none_iff] at e ⊢
 rw [k.length];exact e
theorem VRs.take {h:Heap} {rf gf:Rf}:∀{xs:List AV} {vs:List Value} (n:Nat),VRs h rf gf xs vs->VRs h rf gf (xs.take n) (vs.take n):=@λω=>@λψ=>@λχ=>@λϕ=>match ω,ψ,χ,ϕ with
 | J,ζ,0,η=>by rw [List.take_zero,List.take_zero];rfl
 | [],J,n+1,e=>by rw [e];rfl
 | J::xs,ζ,n+1,⟨v,r,e,hv,hr⟩=>by rw [e];exact ⟨v,r.take n,rfl,hv,VRs.take n hr⟩
theorem VRs.drop {h:Heap} {rf gf:Rf}:∀{xs:List AV} {vs:List Value} (n:Nat),VRs h rf gf xs vs->VRs h rf gf (xs.drop n) (vs.drop n):=@λω=>@λψ=>@λχ=>@λϕ=>match ω,ψ,χ,ϕ with
 | J,ζ,0,k=>k
 | [],J,n+1,e=>by rw [e];rfl
 | J::xs,ζ,n+1,⟨v,r,e,hv,hr⟩=>by rw [e];exact VRs.drop n hr
theorem VRs.reverse {h:Heap} {rf gf:Rf}:∀{xs:List AV} {vs:List Value},VRs h rf gf xs vs->VRs h rf gf xs.reverse vs.reverse:=@λω=>@λψ=>@λχ=>match ω,ψ,χ with
 | [],J,e=>by rw [e];rfl
 | x::xs,J,⟨v,r,e,hv,hr⟩=>by
  rw [e,List.reverse_cons,List.reverse_cons]
  exact VRs.append (VRs.reverse hr) ⟨v,[],rfl,hv,rfl⟩
theorem VRs.set {h:Heap} {rf gf:Rf}:∀{xs:List AV} {vs:List Value},VRs h rf gf xs vs->∀{i:Nat} {x:AV} {v:Value},VR h rf gf x v->VRs h rf gf (xs.set i x) (vs.set i v):=@λω=>@λψ=>@λχ=>@λϕ=>@λϱ=>@λς=>@λϑ=>match ω,ψ,χ,ϕ,ϱ,ς,ϑ with
 | [],J,e,i,x,v,ζ=>by rw [e];rfl
 | y::xs,J,⟨w,r,e,hw,hr⟩,0,x,v,hv=>by rw [e];exact ⟨v,r,rfl,hv,hr⟩
 | y::xs,J,⟨w,r,e,hw,hr⟩,i+1,x,v,hv=>by rw [e];exact ⟨w,r.set i v,rfl,hw,VRs.set hr hv⟩
include W
theorem own_at (R:Rel C ρ σ s.heap) {v:AV} {V:Value} {xs:List AV} (hv:VR s.heap (ab ρ) C.gf v V) (e:ownL σ v=some xs):
  ∃i a items,v=.ref i/\σ[i]?=some (.list xs)/\ρ[i]?=some [a]/\V=.ref a/\s.heap.PlainList a items/\VRs s.heap (ab ρ) C.gf xs items.toList/\xs.length<=SZ:=by
 let _:=W
 cases v with
 | ref i=>
  obtain ⟨_,hi,e⟩:=Option.bind_eq_some_iff.mp e
  cases lstO_at e
  obtain ⟨a,ha,rfl⟩:=hv
  unfold ab at ha
  cases hr:ρ[i]? with
  | none=>rw [hr] at ha;cases ha
  | some as=>
   rw [hr] at ha
   obtain ⟨b,items,rfl,hl,hvs,hz⟩:=R.obj i _ as hi hr
   cases ha
   exact ⟨i,a,items,rfl,hi,hr,rfl,hl,hvs,hz⟩
 | _=>cases e
set_option tactic.hygienic true in
theorem list_at (R:Rel C ρ σ s.heap) (L:Bas C s.heap) {v:AV} {V:Value} {xs:List AV} (hv:VR s.heap (ab ρ) C.gf v V) (e:aT C.τ σ v=some xs):
  ∃a items,V=.ref a/\s.heap.IsList a items/\VRs s.heap (ab ρ) C.gf xs items.toList/\xs.length<=SZ:=by
 cases v with
 | ref i=>
  obtain ⟨_,a,items,_,_,_,h1,h2,h3,h4⟩:=own_at W R hv (v:=.ref i) (xs:=xs) e
  exact ⟨a,items,h1,h2.isList,h3,h4⟩
 | gl k=>
  obtain ⟨a,ha,rfl⟩:=hv
  obtain ⟨b,items,hb,⟨o,ho,hc,n,hd⟩,hvs,hz⟩:=W.glist k _ (lstF_at e)
  rw [ha] at hb;cases hb
  exact ⟨a,items,rfl,⟨o,Bas.old W L ho (λvs z=>by rw [hd] at z;cases z),hc,n,hd⟩,hvs.mono (λi a q=>ae q) (Bas.tup W L) _,hz⟩
 | _=>cases e
omit W in
theorem SZ_le:SZ<=sizeLine:=by decide
omit W in
theorem VRs.size {h:Heap} {rf gf:Rf} {xs:List AV} {items:Array Value} (k:VRs h rf gf xs items.toList):items.size=xs.length:=by
 rw [<-Array.length_toList];exact k.length
theorem aW (R:Rel C ρ σ s.heap) (L:Bas C s.heap) (k:aV C ρ s Φ Q) (v:AV) {V:Value} {tk:Nat} (hv:VR s.heap (ab ρ) C.gf v V) (p:Φ v σ):Q V { s with toks:=tk }:=
 k.here W.box R L (h':=s.heap) (λJ J e=>e) hv p
theorem k_int (R:Rel C ρ σ s.heap) (L:Bas C s.heap) (k:aV C ρ s Φ Q) (z:Int) {t tk:Nat} (p:Φ (.int z) σ):Q (.int z t) { s with toks:=tk }:=aW W R L k (.int z) ⟨_,rfl⟩ p
theorem k_bool (R:Rel C ρ σ s.heap) (L:Bas C s.heap) (k:aV C ρ s Φ Q) (b:Bool) {tk:Nat} (p:Φ (.bool b) σ):Q (.bool b) { s with toks:=tk }:=aW W R L k (.bool b) rfl p
theorem k_list (R:Rel C ρ σ s.heap) (L:Bas C s.heap) (k:aV C ρ s Φ Q) {xs:List AV} {items:Array Value} {tk:Nat} (hvs:VRs s.heap (ab ρ) C.gf xs items.toList) (hz:xs.length<=SZ) (p:newK (.list xs) σ Φ):
  Q (.ref s.heap.objs.size) { s with heap:=s.heap.push { cls:=.type "list",data:=.seq items },toks:=tk }:=by
 have kp:∀b o,s.heap.get? b=some o->(s.heap.push { cls:=.type "list",data:=.seq items }).get? b=some o:=λb o e=>Heap.get?_push_of_some _ e
 have st:=step_new (tk:=tk) (o:=.list xs) (as:=[s.heap.objs.size]) W.box R L kp (by simp) (λa ha=>by rw [List.mem_singleton.mp ha];exact Heap.get?_none_of_le (Nat.le_refl _))
  ⟨_,items,rfl,⟨0,Heap.get?_push_size _ rfl⟩,hvs.mono (rfOf_append ρ _) (λa o e J=>kp a o e) _,hz⟩
 refine k _ _ _ (.ref σ.length) _ st.1 st.2.1 st.2.2 ⟨s.heap.objs.size,?_,rfl⟩ p
 unfold ab;rw [<-R.len,List.getElem?_append_right (Nat.le_refl _)];simp
set_option tactic.hygienic true in
theorem p_bin (hA:OKA A d) (R:Rel C ρ σ s.heap) (L:Bas C s.heap) {o:BO} {a b:AV} {V U:Value} (ha:VR s.heap (ab ρ) C.gf a V) (hb:VR s.heap (ab ρ) C.gf b U)
  (p:binK (vcA C d) o a b σ Φ) (k:aV C ρ s Φ Q):wpAny (model C.prog C.w) A (binaryOp (boOf o) V U) Q (λJ J=>False) s:=by
 unfold binK at p
 split at p
 ·rename_i x y
  obtain ⟨t,rfl⟩:=ha
  obtain ⟨u,rfl⟩:=hb
  cases o with
  | add=>exact add_int (k_int W R L k _ p)
  | sub=>exact sub_int (k_int W R L k _ p)
  | mul=>
   simp only [intOp] at p
   split at p
   ·rename_i hm
    exact mul_int (k_int W R L k _ p) (IntMulOk.of_left (intBits_le_64 (by omega) (by omega)))
   ·exact p.elim
  | mod=>
   simp only [intOp] at p
   split at p
   ·exact p.elim
   ·rename_i hm;exact mod_int' hm (k_int W R L k _ p)
  | div=>
   simp only [intOp] at p
   split at p
   ·exact p.elim
   ·rename_i hm
    exact floordiv_int (λq=>hm (.inl q)) (k_int W R L k _ p) (.inl (PyProof.noPylong_small (by omega)))
 ·split at p
  ·split at p
   ·rename_i xs ys h1 h2
    unfold aL at p
    split at p
    ·rename_i hz
     have hz':=odT hz
     obtain ⟨_,l,its,_,_,_,rfl,⟨n,hl⟩,hvs,_⟩:=own_at W R ha h1
     obtain ⟨_,l2,its2,_,_,_,rfl,⟨n2,hl2⟩,hvs2,_⟩:=own_at W R hb h2
     have e1:=hvs.size
     have e2:=hvs2.size
     refine P.add_list hl hl2 (k_list W R L k ?_ (by simpa using hz') p) (by have:=SZ_le;omega)
     rw [Array.toList_append];exact VRs.append hvs hvs2
    ·exact p.elim
   ·exact p.elim
  ·exact p.elim
end
noncomputable def SL (k:Nat):List Nat:=(SS k).cps.toList
theorem SL_step:∀i,i<NS-1->SL i<SL (i+1):=by decide +kernel
theorem SL_lt:∀(d i:Nat),i+d+1<NS->SL i<SL (i+d+1):=λω ψ χ=>match ω,ψ,χ with
 | 0,i,h=>SL_step i (Nat.lt_sub_of_add_lt h)
 | d+1,i,h=>List.lt_trans (SL_lt d i (Nat.lt_of_succ_lt h)) (SL_step (i+d+1) (Nat.lt_sub_of_add_lt h))
theorem SL_lt' {i j:Nat} (h:i<j) (hj:j<NS):SL i<SL j:=(Nat.exists_eq_add_of_lt h).elim λd e=>by
 subst e;exact SL_lt d i hj
theorem SS_inj {i j:Nat} (hi:i<NS) (hj:j<NS) (h:SS i=SS j):i=j:=
 have e:SL i=SL j:=congrArg (λs:Str=>s.cps.toList) h
 (Nat.lt_trichotomy i j).elim (λq=>absurd (SL_lt' q hj) (e▸List.lt_irrefl _)) λq=>q.elim id λq=>absurd (SL_lt' q hi) (e▸List.lt_irrefl _)
theorem SS_beq {i j:Nat} (hi:i<NS) (hj:j<NS):(SS i==SS j)=decide (i=j):=by
 by_cases h:i=j
 ·subst h;simp
 ·rw [decide_eq_false h]
  exact beq_eq_false_iff_ne.mpr λq=>h (SS_inj hi hj q)
theorem beqB (x y:Bool):(x==y)=decide (x=y):=by cases x<;>cases y<;>rfl
theorem some2 {α β γ:Type} {a:Option α} {b:Option β} {f:α->β->γ} {c:γ} (e:(a.bind λy=>b.map (f y))=some c):∃y ys,a=some y/\b=some ys/\f y ys=c:=
 (Option.bind_eq_some_iff.mp e).imp λy q=>(Option.map_eq_some_iff.mp q.2).imp λys z=>⟨q.1,z⟩
theorem vne {u v:Value} {P:Prop} (e:u=v) (h:Nat.beq u.ctorIdx v.ctorIdx=false):P:=by
 subst e;rw [Nat.beq_refl] at h;exact Bool.noConfusion h
theorem spec_cons (m k:Nat) (a:Bool) (e:Nat->Bool):(a&&((List.range (min m k)).all e&&m==k))=((List.range (min (m+1) (k+1))).all (λj=>Nat.rec a (λj J=>e j) j)&&(m+1==k+1)):=by
 have h:(m==k)=(m+1==k+1):=Bool.eq_iff_iff.mpr (beq_iff_eq.trans (Nat.add_right_cancel_iff.symm.trans beq_iff_eq.symm))
 rw [Nat.add_min_add_right,List.range_succ_eq_map,List.all_cons,List.all_map,Bool.and_assoc,h]
 rfl
section
variable {τ:Tb} {σ:St}
theorem eqSs_spec:∀(n:Nat) (xs ys:List AV) (r:Bool),eqSs τ σ n xs ys=some r->∃e:Nat->Bool,r=((List.range (min xs.length ys.length)).all e&&xs.length==ys.length) /\
  ∀(j:Nat) x y,xs[j]?=some x->ys[j]?=some y->∃m,m<n/\eqS τ σ m x y=some (e j):=λω ψ χ ϕ ϱ=>match ω,ψ,χ,ϕ,ϱ with
 | 0,J,ζ,η,h=>ae h
 | J+1,[],[],ζ,h=>⟨λJ=>true,(Option.some.inj h).symm,λJ J J q=>ae q⟩
 | J+1,[],ζ::η,θ,h=>⟨λJ=>true,(Option.some.inj h).symm.trans (by rw [List.length_nil,Nat.zero_min];rfl),λJ J J q=>ae q⟩
 | J+1,ζ::η,[],θ,h=>⟨λJ=>true,(Option.some.inj h).symm.trans (by rw [List.length_nil,Nat.min_zero];rfl),λJ J J J q=>ae q⟩
 | n+1,x::xs,y::ys,J,h=>(some2 h).elim λa q=>q.elim λb q=>(eqSs_spec n xs ys b q.2.1).elim λe z=>
  ⟨λj=>Nat.rec a (λj J=>e j) j,q.2.2.symm.trans ((congrArg (λJ=>a&&J) z.1).trans (spec_cons _ _ a e)),λj=>match j with
   | 0=>λJ J q1 q2=>⟨n,Nat.lt_succ_self n,Option.some.inj q1▸Option.some.inj q2▸q.1⟩
   | j+1=>λx' y' q1 q2=>(z.2 j x' y' q1 q2).imp λJ w=>⟨Nat.lt_succ_of_lt w.1,w.2⟩⟩
theorem eqS_inv {P:Prop} {n:Nat} {a b:AV} {r:Bool} (h:eqS τ σ (n+1) a b=some r) (k1:∀xs ys,ownL σ a=some xs->aT τ σ b=some ys->(if xs.length=ys.length then eqSs τ σ n xs ys else some false)=some r->P) (k2:eqP (eqSs τ σ n) a b=some r->P):P:=by
 have h:(Option.rec (Option.rec (eqP (eqSs τ σ n) a b) (λJ=>none) (aT τ σ b)) (λxs=>Option.rec none (λys=>if xs.length=ys.length then eqSs τ σ n xs ys else some false) (aT τ σ b)) (ownL σ a):Option Bool)=some r:=h
 revert h k1
 cases ownL σ a with
 | none=>
  cases aT τ σ b with
  | none=>exact λJ h=>k2 h
  | some ys=>exact λJ h=>ae h
 | some xs=>
  cases aT τ σ b with
  | none=>exact λJ h=>ae h
  | some ys=>exact λk1 h=>k1 xs ys rfl rfl h
theorem eqP_inv {f:List AV->List AV->Option Bool} {P:AV->AV->Bool->Prop} (k0:P .none .none true) (kb:∀a b,P (.bool a) (.bool b) (decide (a=b))) (ki:∀a b,P (.int a) (.int b) (decide (a=b))) (ks:∀a b,P (.str a) (.str b) (decide (a=b)))
  (kt:∀xs ys r,f xs ys=some r->P (.tup xs) (.tup ys) r) (ni:∀i,P .none (.int i) false) (i':∀i,P (.int i) .none false) (ns:∀i,P .none (.str i) false) (s':∀i,P (.str i) .none false) {a b:AV} {r:Bool} (h:eqP f a b=some r):P a b r:=by
 cases a<;>cases b<;>first
  | exact ae h
  | exact kt _ _ _ h
  | exact Option.some.inj h▸k0
  | exact Option.some.inj h▸kb _ _
  | exact Option.some.inj h▸ki _ _
  | exact Option.some.inj h▸ks _ _
  | exact Option.some.inj h▸ni _
  | exact Option.some.inj h▸i' _
  | exact Option.some.inj h▸ns _
  | exact Option.some.inj h▸s' _
end
section
variable {C:Cfg} (W:CfgOK C) {ρ:Ro} {σ:St} {s:Shared}
include W
theorem own_inj (R:Rel C ρ σ s.heap) {i j:Nat} {a:Addr} (hi:ρ[i]?=some [a]) (hj:ab ρ j=some a):i=j:=by
 let _:=W
 unfold ab at hj
 cases hr:ρ[j]? with
 | none=>rw [hr] at hj;exact ae hj
 | some bs=>
  rw [hr] at hj
  exact Decidable.byContradiction λq=>nodup_apart R.nd q hi hr a (.head _) (List.mem_of_mem_head? hj)
omit W in
theorem both_at {h:Heap} {rf gf:Rf} {xs ys:List AV} {vs ws:List Value} (h1:VRs h rf gf xs vs) (h2:VRs h rf gf ys ws) {j:Nat} (b1:j<vs.length) (b2:j<ws.length):∃x y,xs[j]?=some x/\ys[j]?=some y/\VR h rf gf x vs[j]/\VR h rf gf y ws[j]:=by
 have c1:j<xs.length:=h1.length▸b1
 have c2:j<ys.length:=h2.length▸b2
 have e1:=List.getElem?_eq_getElem c1
 have e2:=List.getElem?_eq_getElem c2
 refine ⟨_,_,e1,e2,(h1.get e1).elim λv q=>?_,(h2.get e2).elim λv q=>?_⟩
 ·exact Option.some.inj ((List.getElem?_eq_getElem b1).symm.trans q.1)▸q.2
 ·exact Option.some.inj ((List.getElem?_eq_getElem b2).symm.trans q.1)▸q.2
noncomputable def Sm (C:Cfg) (h:Heap) (rf:Rf) (f:AV->AV->Option Bool):Prop:=∀(a b:AV) (V:Value) (r:Bool),VR h rf C.gf a V->VR h rf C.gf b V->f a b=some r->r=true
omit W in
theorem sm_lists {h:Heap} {rf:Rf} {n:Nat} (ih:∀m,m<n+1->Sm C h rf (eqS C.τ σ m)) {xs ys:List AV} {vs:List Value} {r:Bool} (h1:VRs h rf C.gf xs vs) (h2:VRs h rf C.gf ys vs) (h3:eqSs C.τ σ n xs ys=some r):r=true:=
 (eqSs_spec _ _ _ _ h3).elim λe y=>y.1.trans (Bool.and_eq_true_iff.mpr ⟨List.all_eq_true.mpr λj hj=>
  have b1:j<vs.length:=h1.length.symm▸Nat.lt_of_lt_of_le (List.mem_range.mp hj) (Nat.min_le_left ..)
  (both_at h1 h2 b1 b1).elim λx q=>q.elim λz q=>(y.2 j x z q.1 q.2.1).elim λm w=>ih m (Nat.lt_succ_of_lt w.1) _ _ _ _ q.2.2.1 q.2.2.2 w.2,
  beq_iff_eq.mpr (h1.length.symm.trans h2.length)⟩)
theorem sm_own (R:Rel C ρ σ s.heap) (L:Bas C s.heap) {n:Nat} (ih:∀m,m<n+1->Sm C s.heap (ab ρ) (eqS C.τ σ m)) {a b:AV} {V:Value} {r:Bool} (ha:VR s.heap (ab ρ) C.gf a V) (hb:VR s.heap (ab ρ) C.gf b V) {xs ys:List AV} (h1:ownL σ a=some xs) (h2:aT C.τ σ b=some ys)
  (h:(if xs.length=ys.length then eqSs C.τ σ n xs ys else some false)=some r):r=true:=by
 obtain ⟨i,ad,items,rfl,hi,hr,rfl,hl,hvs,hz⟩:=own_at W R ha h1
 cases b with
 | ref j=>
  obtain ⟨a',q1,q2⟩:=hb
  cases q2
  obtain rfl:=own_inj W R hr q1
  have h2:ownL σ (.ref i)=some ys:=h2
  rw [h1] at h2
  cases h2
  rw [if_pos rfl] at h
  exact sm_lists ih hvs hvs h
 | gl k=>
  obtain ⟨b',q1,q2⟩:=hb
  cases q2
  cases hk:C.τ.γ k with
  | list xs=>
   obtain ⟨b,itm,hb',⟨o',ho',_⟩,_⟩:=W.glist k _ hk
   rw [q1] at hb';cases hb'
   exact ae ((R.new ad (mem_flat hr (.head _))).1.symm.trans ho')
  | _=>
   exact ae ((congrArg lstF hk).symm.trans h2)
 | _=>exact ae h2
omit W in
theorem tup_same {h:Heap} {rf gf:Rf} {xs ys:List AV} {V:Value} (ha:VR h rf gf (.tup xs) V) (hb:VR h rf gf (.tup ys) V):∃vs,VRs h rf gf xs vs/\VRs h rf gf ys vs:=by
 obtain ⟨t,items,rfl,⟨o,ho,_,n1,hd⟩,hvs⟩:=ha
 obtain ⟨t',items',q,⟨o',ho',_,n2,hd'⟩,hvs'⟩:=hb
 cases q
 rw [ho] at ho';cases ho'
 rw [hd] at hd';cases hd'
 exact ⟨_,hvs,hvs'⟩
theorem eq_same (R:Rel C ρ σ s.heap) (L:Bas C s.heap) (n:Nat):Sm C s.heap (ab ρ) (eqS C.τ σ n):=Nat.strongRecOn n λn=>match n with
 | 0=>λJ J J J J J J h=>ae h
 | n+1=>λih a b V r ha hb h=>eqS_inv h (λJ J h1 h2 h=>sm_own W R L ih ha hb h1 h2 h) λh=>
  eqP_inv (P:=λa b r=>VR s.heap (ab ρ) C.gf a V->VR s.heap (ab ρ) C.gf b V->r=true) (λJ J=>rfl) (λJ J h1 h2=>decide_eq_true (Value.bool.inj ((h1:V=_).symm.trans h2))) (λJ J h1 h2=>h1.elim λJ h1=>h2.elim λJ h2=>decide_eq_true (Value.int.inj (h1.symm.trans h2)).1)
   (λJ J h1 h2=>h1.2.elim λJ e1=>h2.2.elim λJ e2=>decide_eq_true (SS_inj h1.1 h2.1 (Value.str.inj (e1.symm.trans e2)).1)) (λJ J J h h1 h2=>(tup_same h1 h2).elim λJ q=>sm_lists ih q.1 q.2 h)
   (λJ h1 h2=>h2.elim λJ h2=>vne ((h1:V=.none).symm.trans h2) rfl) (λJ h1 h2=>h1.elim λJ h1=>vne ((h2:V=.none).symm.trans h1) rfl) (λJ h1 h2=>h2.2.elim λJ h2=>vne ((h1:V=.none).symm.trans h2) rfl) (λJ h1 h2=>h1.2.elim λJ h1=>vne ((h2:V=.none).symm.trans h1) rfl) h ha hb
noncomputable def Cmp3 (A:Around) (s:Shared) (V U:Value) (r:Bool):Prop:=RcAt A s V U r/\RcNeAt A s V U (!r)/\EqAt A s V U r
noncomputable def Al (C:Cfg) (s:Shared) (rf:Rf) (n:Nat) (f:AV->AV->Option Bool):Prop:=∀(A:Around) (a b:AV) (V U:Value) (r:Bool),A.units+n<cLine->VR s.heap rf C.gf a V->VR s.heap rf C.gf b U->f a b=some r->Cmp3 A s V U r
omit W in
theorem al_items {rf:Rf} {n:Nat} (ih:∀m,m<n+1->Al C s rf m (eqS C.τ σ m)) {A:Around} (hA:A.units+(n+1)<cLine) {xs ys:List AV} {vs ws:Array Value} {r:Bool} (h1:VRs s.heap rf C.gf xs vs.toList) (h2:VRs s.heap rf C.gf ys ws.toList) (h3:eqSs C.τ σ n xs ys=some r):
  ∃e:Nat->Bool,r=((List.range (min vs.size ws.size)).all e&&vs.size==ws.size)/\∀j (h1:j<vs.size) (h2:j<ws.size),EqAt A.in1 s vs[j] ws[j] (e j):=
 (eqSs_spec _ _ _ _ h3).imp λe y=>⟨h1.size▸h2.size▸y.1,λj b1 b2=>(both_at h1 h2 (j:=j) b1 b2).elim λx q=>q.elim λz q=>(y.2 j x z q.1 q.2.1).elim λm w=>
  (ih m (Nat.lt_succ_of_lt w.1) A.in1 _ _ _ _ _ (Nat.lt_trans (Nat.add_lt_add_left w.1 (A.units+1)) ((Nat.add_right_comm A.units 1 n)▸hA)) q.2.2.1 q.2.2.2 w.2).2.2⟩
omit W in
theorem cmp_refs {A:Around} {t t':Addr} {r:Bool} (same:t=t'->r=true) (h1:RcAt A s (.ref t) (.ref t') r) (h2:RcNeAt A s (.ref t) (.ref t') (!r)):Cmp3 A s (.ref t) (.ref t') r:=
 ⟨h1,h2,(Decidable.em (t=t')).elim (λq=>by
  cases q;rw [same rfl];exact EqAt.same _) λq=>EqAt.of_refs q h1⟩
omit W in
theorem al_own {A:Around} {l l':Addr} {its its':Array Value} {n:Nat} {rf:Rf} (ih:∀m,m<n+1->Al C s rf m (eqS C.τ σ m)) (hA:A.units+(n+1)<cLine) {xs ys:List AV} {r:Bool} (hl:s.heap.IsList l its) (hl':s.heap.IsList l' its') (h1:VRs s.heap rf C.gf xs its.toList) (h2:VRs s.heap rf C.gf ys its'.toList)
  (h:(if xs.length=ys.length then eqSs C.τ σ n xs ys else some false)=some r) (same:l=l'->r=true):Cmp3 A s (.ref l) (.ref l') r:=by
 have hu:A.units<cLine:=Nat.lt_of_le_of_lt (Nat.le_add_right ..) hA
 by_cases q:xs.length=ys.length
 ·rw [if_pos q] at h
  obtain ⟨e,e1,e2⟩:=al_items ih hA h1 h2 h
  have hsz:its.size=its'.size:=h1.size.trans (q.trans h2.size.symm)
  rw [<-hsz,Nat.min_self,beq_self_eq_true,Bool.and_true] at e1
  subst e1
  exact cmp_refs same (RcAt.lists hl hl' hsz hu e2) (RcNeAt.lists hl hl' hsz hu e2)
 ·rw [if_neg q] at h
  cases h
  have hsz:(its.size != its'.size)=true:=bne_iff_ne.mpr λz=>q (h1.size.symm.trans (z.trans h2.size))
  exact cmp_refs same (RcAt.lists_lengths hl hl' hsz hu) (RcNeAt.lists_lengths hl hl' hsz hu)
omit W in
theorem al_tup {A:Around} {n:Nat} {rf:Rf} (ih:∀m,m<n+1->Al C s rf m (eqS C.τ σ m)) (hA:A.units+(n+1)<cLine) {xs ys:List AV} {V U:Value} {r:Bool} (ha:VR s.heap rf C.gf (.tup xs) V) (hb:VR s.heap rf C.gf (.tup ys) U) (h:eqSs C.τ σ n xs ys=some r) (same:V=U->r=true):Cmp3 A s V U r:=by
 have hu:A.units<cLine:=Nat.lt_of_le_of_lt (Nat.le_add_right ..) hA
 obtain ⟨t,its,rfl,hl,hvs⟩:=ha
 obtain ⟨t',its',rfl,hl',hvs'⟩:=hb
 obtain ⟨e,e1,e2⟩:=al_items ih hA hvs hvs' h
 subst e1
 exact cmp_refs (λq=>same (congrArg _ q)) (RcAt.tuples hl hl' hu e2) (RcNeAt.tuples hl hl' hu e2)
theorem eq_all' (R:Rel C ρ σ s.heap) (L:Bas C s.heap) (n:Nat):Al C s (ab ρ) n (eqS C.τ σ n):=Nat.strongRecOn n λn=>match n with
 | 0=>λJ J J J J J J J J J h=>ae h
 | n+1=>λih A a b V U r hA ha hb h0=>eqS_inv h0 (λxs ys h1 h2 h=>by
   obtain ⟨i,l,its,rfl,_,_,rfl,hl,hvs,_⟩:=own_at W R ha h1
   obtain ⟨l',its',rfl,hl',hvs',_⟩:=list_at W R L hb h2
   exact al_own ih hA hl.isList hl' hvs hvs' h λq=>eq_same W R L (n+1) _ b (.ref l) r ha (q▸hb) h0) λh=>
  eqP_inv (P:=λa b r=>VR s.heap (ab ρ) C.gf a V->VR s.heap (ab ρ) C.gf b U->(V=U->r=true)->Cmp3 A s V U r) (λh1 h2 J=>by cases h1;cases h2;exact ⟨RcAt.none_none,RcNeAt.none_none,EqAt.same _⟩) (λx y h1 h2 J=>h1▸h2▸beqB x y▸⟨RcAt.bool_bool _ _,RcNeAt.bool_bool _ _,EqAt.bool_bool _ _⟩)
   (λJ J h1 h2 J=>h1.elim λJ h1=>h2.elim λJ h2=>h1▸h2▸⟨RcAt.int_int _ _ _ _,RcNeAt.int_int _ _ _ _,EqAt.int_int _ _ _ _⟩)
   (λJ J h1 h2 J=>h1.2.elim λJ e1=>h2.2.elim λJ e2=>e1▸e2▸SS_beq h1.1 h2.1▸⟨RcAt.str_str _ _ _ _,RcNeAt.str_str _ _ _ _,EqAt.str_str _ _ _ _⟩) (λJ J J h h1 h2 sm=>al_tup ih hA h1 h2 h sm)
   (λJ h1 h2 J=>h2.elim λJ h2=>h1▸h2▸⟨RcAt.none_int _ _,RcNeAt.none_int _ _,EqAt.none_int _ _⟩) (λJ h1 h2 J=>h1.elim λJ h1=>h1▸h2▸⟨RcAt.int_none _ _,RcNeAt.int_none _ _,EqAt.int_none _ _⟩)
   (λJ h1 h2 J=>h2.2.elim λJ h2=>h1▸h2▸⟨RcAt.none_str _ _,RcNeAt.none_str _ _,EqAt.none_str _ _⟩) (λJ h1 h2 J=>h1.2.elim λJ h1=>h1▸h2▸⟨RcAt.str_none _ _,RcNeAt.str_none _ _,EqAt.str_none _ _⟩) h ha hb λq=>eq_same W R L (n+1) a b V r ha (q▸hb) h0
end
section
variable {C:Cfg} (W:CfgOK C) {ρ:Ro} {σ:St} {s:Shared} {A:Around} {d:Nat} {Φ:AV->St->Prop} {Q:Value->Shared->Prop}
noncomputable def coOf:CO->CmpOp:=λω=>match ω with
 | .eq=>.Eq
 | .ne=>.NotEq
 | .lt=>.Lt
 | .le=>.LtE
 | .gt=>.Gt
 | .ge=>.GtE
 | .is=>.Is
 | .isNot=>.IsNot
 | .isIn=>.In
 | .notIn=>.NotIn
theorem isNone_VR {h:Heap} {rf gf:Rf}:∀{a:AV} {V:Value},VR h rf gf a V->(V==.none)=isNoneA a:=@λω=>@λψ=>@λχ=>match ω,ψ,χ with
 | .none,_,rfl=>rfl
 | .bool _,_,rfl=>rfl
 | .int _,_,⟨_,rfl⟩=>rfl
 | .str _,_,⟨_,_,rfl⟩=>rfl
 | .tup _,_,⟨_,_,rfl,_⟩=>rfl
 | .ref _,_,⟨_,_,rfl⟩=>rfl
 | .gl _,_,⟨_,_,rfl⟩=>rfl
theorem none_at {h:Heap} {rf gf:Rf} {v:AV} {V:Value} (hv:VR h rf gf v V) (e:isNoneA v=true):V=.none:=eq_of_beq ((isNone_VR hv).trans e)
noncomputable def eqv (X:Value) (y:Value):Bool:=match y,X with
 | .int a J,.int b ζ=>a==b
 | .str a J,.str b ζ=>a==b
 | J,ζ=>false
theorem memI_any {h:Heap} {rf gf:Rf} {x:Int} {t:Tok}:∀{ys:List AV} {vs:List Value} {r:Bool},VRs h rf gf ys vs->memI x ys=some r ->
  (vs.any (eqv (.int x t))=r/\∀y∈vs,∃a u,y=.int a u):=@λω=>@λψ=>@λχ=>@λϕ=>@λϱ=>match ω,ψ,χ,ϕ,ϱ with
 | [],_,_,rfl,h=>⟨Option.some.inj h,λJ hy=>(List.not_mem_nil hy).elim⟩
 | .int y::ys,_,_,⟨_,_,rfl,⟨_,rfl⟩,hr⟩,h=>(Option.map_eq_some_iff.mp h).elim λJ h=>have z:=memI_any hr h.1
  ⟨(congrArg (λJ=>decide (y=x)||J) z.1).trans (h.2),λv hv=>(List.mem_cons.mp hv).elim (λq=>⟨_,_,q⟩) (z.2 v)⟩
 | .none::J,ζ,η,θ,h=>ae h
 | .bool J::ζ,η,θ,μ,h=>ae h
 | .str J::ζ,η,θ,μ,h=>ae h
 | .tup J::ζ,η,θ,μ,h=>ae h
 | .ref J::ζ,η,θ,μ,h=>ae h
 | .gl J::ζ,η,θ,μ,h=>ae h
theorem memS_any {h:Heap} {rf gf:Rf} {x:Nat} {t:Tok} (hx:x<NS):∀{ys:List AV} {vs:List Value} {r:Bool},VRs h rf gf ys vs->memS x ys=some r ->
  (vs.any (eqv (.str (SS x) t))=r/\∀y∈vs,∃a u,y=.str a u):=@λω=>@λψ=>@λχ=>@λϕ=>@λϱ=>match ω,ψ,χ,ϕ,ϱ with
 | [],_,_,rfl,h=>⟨Option.some.inj h,λJ hy=>(List.not_mem_nil hy).elim⟩
 | .str y::ys,_,_,⟨_,_,rfl,⟨hy,_,rfl⟩,hr⟩,h=>(Option.map_eq_some_iff.mp h).elim λJ h=>have z:=memS_any hx hr h.1
  ⟨(congrArg (λJ=>SS y==SS x||J) z.1).trans (SS_beq hy hx▸h.2),λv hv=>(List.mem_cons.mp hv).elim (λq=>⟨_,_,q⟩) (z.2 v)⟩
 | .none::J,ζ,η,θ,h=>ae h
 | .bool J::ζ,η,θ,μ,h=>ae h
 | .int J::ζ,η,θ,μ,h=>ae h
 | .tup J::ζ,η,θ,μ,h=>ae h
 | .ref J::ζ,η,θ,μ,h=>ae h
 | .gl J::ζ,η,θ,μ,h=>ae h
theorem mem_at {h:Heap} {rf gf:Rf} {x:AV} {X:Value} {ys:List AV} {vs:Array Value} {r:Bool} (hx:VR h rf gf x X) (hv:VRs h rf gf ys vs.toList) (e:memA x ys=some r):
  (vs.any (eqv X))=r/\∀A s,∀y,y∈vs->EqAt A s y X (eqv X y):=by
 cases x with
 | int x=>
  obtain ⟨t,rfl⟩:=hx
  obtain ⟨h1,h2⟩:=memI_any (t:=t) hv e
  refine ⟨by rw [<-h1,<-Array.any_toList],λA s y hy=>?_⟩
  obtain ⟨a,u,rfl⟩:=h2 y (Array.mem_toList_iff.mpr hy)
  exact EqAt.int_int _ _ _ _
 | str x=>
  obtain ⟨hN,t,rfl⟩:=hx
  obtain ⟨h1,h2⟩:=memS_any (t:=t) hN hv e
  refine ⟨by rw [<-h1,<-Array.any_toList],λA s y hy=>?_⟩
  obtain ⟨a,u,rfl⟩:=h2 y (Array.mem_toList_iff.mpr hy)
  exact EqAt.str_str _ _ _ _
 | _=>simp [memA] at e
theorem va_pos {T:Type} [DecidableEq T] {j k:T} {v:Value} {q:List (T×Value)} (h:j=k):valueAt ((j,v)::q) k=some v:=by subst h;simp [valueAt]
theorem va_neg {T:Type} [DecidableEq T] {j k:T} {v:Value} {q:List (T×Value)} (h:¬j=k):valueAt ((j,v)::q) k=valueAt q k:=by
 unfold valueAt;rw [List.find?_cons_of_neg (by simpa using h)]
theorem KR.look {h:Heap} {rf gf:Rf} {k:Nat} (hk:k<NS):∀{kvs:List (Nat×AV)} {l:List (Str×Value)},KR h rf gf kvs l ->
  (match lookA k kvs with
   | some x=>∃v,valueAt l (SS k)=some v/\VR h rf gf x v
   | none=>valueAt l (SS k)=none)
 | [],_,rfl=>rfl
 | (j,x)::r,_,⟨v,lq,rfl,hj,hv,hq⟩=>by
  by_cases q:j=k
  ·rw [show lookA k ((j,x)::r)=some x from if_pos q]
   exact ⟨v,va_pos (congrArg SS q),hv⟩
  ·rw [show lookA k ((j,x)::r)=lookA k r from if_neg q,va_neg λz=>q (SS_inj hj hk z)]
   exact KR.look hk hq
include W
theorem dict_at (R:Rel C ρ σ s.heap) {i:Nat} {V:Value} {kvs:List (Nat×AV)} (hv:VR s.heap (ab ρ) C.gf (.ref i) V) (hi:σ[i]?=some (.sdict kvs)):
  ∃a l,ρ[i]?=some [a]/\V=.ref a/\s.heap.DictOf (strKind C.prog C.w) a l/\KR s.heap (ab ρ) C.gf kvs l/\kvs.length<=1000/\(a==sysModules)=false:=by
 obtain ⟨a,ha,rfl⟩:=hv
 unfold ab at ha
 cases hr:ρ[i]? with
 | none=>rw [hr] at ha;cases ha
 | some as=>
  rw [hr] at ha
  obtain ⟨b,l,rfl,hl,hvs,hz⟩:=R.obj i _ as hi hr
  cases ha
  exact ⟨a,l,rfl,rfl,hl,hvs,hz.1,hz.2⟩
omit W in
theorem KR.len {h:Heap} {rf gf:Rf}:∀{kvs:List (Nat×AV)} {l:List (Str×Value)},KR h rf gf kvs l->l.length=kvs.length:=@λω=>@λψ=>@λχ=>match ω,ψ,χ with
 | [],l,e=>by rw [e];rfl
 | (j,x)::r,l,⟨v,q,e,hj,hv,hq⟩=>by rw [e,List.length_cons,List.length_cons,KR.len hq]
omit W in
theorem empty_int {h:Heap} {a:Addr} {prog w} (x:h.DictOf (strKind prog w) a []):h.DictOf (intKind prog w) a []:=by
 obtain ⟨o,es,ep,ho,hc,hd,hk,hp,hn⟩:=x
 generalize e:es.toList=l at hp
 cases hp
 have:es=#[]:=by cases es;simp at e;rw [e]
 subst this
 exact ⟨o,#[],ep,ho,hc,hd,λJ he=>by simp at he,Pairs.nil,List.nodup_nil⟩
omit W in
theorem in_tup {neg:Bool} {t:Addr} {items:Array Value} {ys:List AV} {a:AV} {V:Value} {rf gf:Rf} {r:Bool} {E:Value->Shared->Prop} (ht:s.heap.IsTuple t items) (hvs:VRs s.heap rf gf ys items.toList) (ha:VR s.heap rf gf a V)
  (p:memA a ys=some r) (k:Q (.bool (bif neg then !r else r)) s):wpAny (model C.prog C.w) A (compareOp (bif neg then .NotIn else .In) V (.ref t)) Q E s:=by
 have h:=mem_at ha hvs p
 have z:∀y,y∈items->EqAt A.in1 s y V (eqv V y):=h.2 _ _
 rw [<-h.1] at k
 exact match neg,k with
 | false,k=>in_tupleAt _ ht z k
 | true,k=>notIn_tupleAt _ ht z k
omit W in
theorem in_lst {neg:Bool} {t:Addr} {items:Array Value} {ys:List AV} {a:AV} {V:Value} {rf gf:Rf} {r:Bool} {E:Value->Shared->Prop} (ht:s.heap.IsList t items) (hvs:VRs s.heap rf gf ys items.toList) (ha:VR s.heap rf gf a V)
  (p:memA a ys=some r) (k:Q (.bool (bif neg then !r else r)) s):wpAny (model C.prog C.w) A (compareOp (bif neg then .NotIn else .In) V (.ref t)) Q E s:=by
 have h:=mem_at ha hvs p
 have z:∀y,y∈items->EqAt A.in1 s y V (eqv V y):=h.2 _ _
 rw [<-h.1] at k
 exact match neg,k with
 | false,k=>in_listAt _ ht z k
 | true,k=>notIn_listAt _ ht z k
omit W in
theorem in_dct {neg:Bool} {T:Type} [DecidableEq T] {knd:PySem.KeyKind C.prog C.w T} {kk:T} {key:Value} {l:List (T×Value)} {ad:Addr} {E:Value->Shared->Prop} (h:knd.is kk key=true) (hs:(ad==sysModules)=false) (hl:s.heap.DictOf knd ad l)
  (k:Q (.bool (bif neg then !(valueAt l kk).isSome else (valueAt l kk).isSome)) { s with toks:=s.toks+1 }):wpAny (model C.prog C.w) A (compareOp (bif neg then .NotIn else .In) key (.ref ad)) Q E s:=
 match neg,k with
 | false,k=>wpAny_in_of h hs hl.mapOf k
 | true,k=>wpAny_notIn_of h hs hl.mapOf k
omit W in
theorem look_some {h:Heap} {rf gf:Rf} {kk:Nat} (hk:kk<NS) {kvs:List (Nat×AV)} {l:List (Str×Value)} (hkr:KR h rf gf kvs l):(valueAt l (SS kk)).isSome=(lookA kk kvs).isSome:=by
 have hlk:=KR.look hk hkr
 revert hlk
 cases lookA kk kvs with
 | none=>exact λh=>congrArg Option.isSome h
 | some x=>exact λh=>h.elim λv h=>congrArg Option.isSome h.1
theorem in_d {neg:Bool} (R:Rel C ρ σ s.heap) {i:Nat} {U:Value} {kvs:List (Nat×AV)} {r:Bool} {E:Value->Shared->Prop} (hb:VR s.heap (ab ρ) C.gf (.ref i) U) (hi:σ[i]?=some (.sdict kvs)) (k:∀tk,Q (.bool (bif neg then !r else r)) { s with toks:=tk }):
  ∀{a:AV} {V:Value},VR s.heap (ab ρ) C.gf a V->containD a kvs=some r->wpAny (model C.prog C.w) A (compareOp (bif neg then .NotIn else .In) V U) Q E s
 | .str kk,_,⟨hk,t,rfl⟩,p=>(dict_at W R hb hi).elim λad y=>y.elim λl y=>y.2.1▸in_dct (knd:=strKind C.prog C.w) (kk:=SS kk) (beq_self_eq_true _) y.2.2.2.2.2 y.2.2.1 (look_some hk y.2.2.2.1▸Option.some.inj p▸k _)
 | .int kk,_,⟨t,rfl⟩,p=>by
  cases kvs with
  | cons J ζ=>exact ae p
  | nil=>
   obtain ⟨ad,l,hr,rfl,hl,hkr,hz,hs⟩:=dict_at W R hb hi
   obtain rfl:l=[]:=hkr
   cases p
   exact in_dct (knd:=intKind C.prog C.w) (kk:=kk) (beq_self_eq_true _) hs (empty_int hl) (k _)
 | .none,J,ζ,p=>ae p
 | .bool J,ζ,η,p=>ae p
 | .tup J,ζ,η,p=>ae p
 | .ref J,ζ,η,p=>ae p
 | .gl J,ζ,η,p=>ae p
theorem in_o {neg:Bool} (R:Rel C ρ σ s.heap) (L:Bas C s.heap) {a:AV} {V U:Value} {i:Nat} {r:Bool} {E:Value->Shared->Prop} (ha:VR s.heap (ab ρ) C.gf a V) (hb:VR s.heap (ab ρ) C.gf (.ref i) U) (k:∀tk,Q (.bool (bif neg then !r else r)) { s with toks:=tk }):
  ∀{O:AO},σ[i]?=some O->containO a O=some r->wpAny (model C.prog C.w) A (compareOp (bif neg then .NotIn else .In) V U) Q E s
 | .list ys,hi,p=>by
  obtain ⟨t,items,rfl,ht,hvs,_⟩:=list_at W R L hb (xs:=ys) (lst_i hi)
  exact in_lst ht hvs ha p (k s.toks)
 | .sdict kvs,hi,p=>in_d W R hb hi k ha p
 | .inst J ζ,η,p=>ae p
 | .box J,ζ,p=>ae p
theorem p_in (neg:Bool) (R:Rel C ρ σ s.heap) (L:Bas C s.heap) {a:AV} {V:Value} {r:Bool} {E:Value->Shared->Prop} (ha:VR s.heap (ab ρ) C.gf a V) (k:∀tk,Q (.bool (bif neg then !r else r)) { s with toks:=tk }):
  ∀{b:AV} {U:Value},VR s.heap (ab ρ) C.gf b U->containA σ a b=some r->wpAny (model C.prog C.w) A (compareOp (bif neg then .NotIn else .In) V U) Q E s
 | .tup _,_,⟨_,_,rfl,ht,hvs⟩,p=>in_tup ht hvs ha p (k s.toks)
 | .ref J,ζ,hb,p=>(Option.bind_eq_some_iff.mp p).elim λJ q=>in_o W R L ha hb k q.1 q.2
 | .none,J,ζ,p=>ae p
 | .bool J,ζ,η,p=>ae p
 | .int J,ζ,η,p=>ae p
 | .str J,ζ,η,p=>ae p
 | .gl J,ζ,η,p=>ae p
omit W in
theorem i1E {f:Int->Option Bool} {r:Bool} {P:AV->Prop} (k:∀y,f y=some r->P (.int y)):∀{b:AV},onI1 f b=some r->P b:=@λω=>@λψ=>match ω,ψ with
 | .int J,h=>k _ h
 | .none,h=>ae h
 | .bool J,h=>ae h
 | .str J,h=>ae h
 | .tup J,h=>ae h
 | .ref J,h=>ae h
 | .gl J,h=>ae h
omit W in
theorem i2E {f:Int->Int->Option Bool} {r:Bool} {h:Heap} {rf gf:Rf} {V U:Value} {G:Prop} {b:AV} (k:∀x y t u,f x y=some r->V=.int x t->U=.int y u->G):∀{a:AV},VR h rf gf a V->VR h rf gf b U->onI2 f a b=some r->G:=@λω=>@λψ=>@λχ=>@λϕ=>match ω,ψ,χ,ϕ with
 | .int J,⟨ζ,ha⟩,hb,e=>i1E (P:=λb=>VR h rf gf b U->G) (λJ e hb=>hb.elim λJ hb=>k _ _ _ _ e ha hb) e hb
 | .none,J,ζ,h=>ae h
 | .bool J,ζ,η,h=>ae h
 | .str J,ζ,η,h=>ae h
 | .tup J,ζ,η,h=>ae h
 | .ref J,ζ,η,h=>ae h
 | .gl J,ζ,η,h=>ae h
omit W in
theorem p_is {neg:Bool} {b:AV} {V U:Value} {r x:Bool} {h:Heap} {rf gf:Rf} {E:Value->Shared->Prop} (hx:(bif neg then !(V==.none) else V==.none)=x) (hb:VR h rf gf b U)
  (p:(if isNoneA b=true then some x else none)=some r) (k:Q (.bool r) s):wpAny (model C.prog C.w) A (compareOp (bif neg then .IsNot else .Is) V U) Q E s:=by
 by_cases q:isNoneA b=true
 ·rw [if_pos q] at p
  cases p
  subst hx
  rw [none_at hb q]
  cases neg with
  | false=>exact wpAny_of_eq (a:=.bool (V==.none)) (by show (do return Value.bool (<-isSame V .none))=_;rw [isSame_none];rfl) k
  | true=>exact wpAny_of_eq (a:=.bool (!(V==.none))) (by show (do return Value.bool (!(<-isSame V .none)))=_;rw [isSame_none];rfl) k
 ·exact ae ((if_neg q).symm.trans p)
theorem p_cmp (hA:OKA A d) (R:Rel C ρ σ s.heap) (L:Bas C s.heap) {o:CO} {a b:AV} {V U:Value} {r:Bool} {E:Value->Shared->Prop} (ha:VR s.heap (ab ρ) C.gf a V) (hb:VR s.heap (ab ρ) C.gf b U)
  (p:cmpA C.τ σ o a b=some r) (k:∀tk,Q (.bool r) { s with toks:=tk }):wpAny (model C.prog C.w) A (compareOp (coOf o) V U) Q E s:=
 have hu:A.units+EQ<cLine:=by have:=hA.units;unfold EQ;omega
 match o,p with
 | .eq,p=>(eq_all' W R L _ A a b V U r hu ha hb p).1 _ _ _ _ (k s.toks)
 | .ne,p=>(Option.map_eq_some_iff.mp p).elim λr' p=>(eq_all' W R L _ A a b V U r' hu ha hb p.1).2.1 _ _ _ _ (p.2▸k s.toks)
 | .is,p=>p_is (neg:=false) (isNone_VR ha) hb p (k s.toks)
 | .isNot,p=>p_is (neg:=true) (x:=!isNoneA a) (congrArg (λJ=>!J) (isNone_VR ha)) hb p (k s.toks)
 | .isIn,p=>p_in W false R L ha k hb p
 | .notIn,p=>(Option.map_eq_some_iff.mp p).elim λr' p=>p_in W true R L ha (r:=r') (p.2▸k) hb p.1
 | .lt,p=>i2E (V:=V) (U:=U) (λx y t u e h1 h2=>h1▸h2▸PyProof.Rows.lt_int ((Option.some.inj e:decide (x<y)=r)▸k s.toks)) ha hb p
 | .le,p=>i2E (V:=V) (U:=U) (λx y t u e h1 h2=>h1▸h2▸PyProof.Rows.le_int ((Option.some.inj e:decide (x<=y)=r)▸k s.toks)) ha hb p
 | .gt,p=>i2E (V:=V) (U:=U) (λx y t u e h1 h2=>h1▸h2▸PyProof.Rows.gt_int ((Option.some.inj e:decide (y<x)=r)▸k s.toks)) ha hb p
 | .ge,p=>i2E (V:=V) (U:=U) (λx y t u e h1 h2=>h1▸h2▸PyProof.Rows.ge_int ((Option.some.inj e:decide (y<=x)=r)▸k s.toks)) ha hb p
end
theorem Slot.look {T:String} {n:Str} {i:String} (x:Slot T n i):typeLookup (.type T) n=pure (some (.builtin i)):=x.lookup
section
variable {C:Cfg} (W:CfgOK C) {ρ:Ro} {σ:St} {s:Shared} {A:Around} {d:Nat} {Φ:AV->St->Prop} {Q:Value->Shared->Prop} {E:Value->Shared->Prop}
theorem sub_tail {M:Model} {value slice:Expr} {o i:Value} (h:SubscriptOn M A o i Q E s)
  (hM:∃p w,M=model p w):wpAny M A (subscriptTail value slice o i) Q E s:=by
 obtain ⟨T,id,hl,hT,hg⟩:=h
 obtain ⟨p,w,rfl⟩:=hM
 unfold subscriptTail
 refine wpAny_bind ?_
 rw [getitemInPython_of_ne hT.not_modules]
 refine wpAny_bind (wpAny_specialOf hT hl ?_)
 have e:∃ops,subscripted slice false o i=operate ops (getItem o i):=by
  cases slice with
  | Slice a b c p=>cases c<;>exact ⟨_,rfl⟩
  | _=>exact ⟨_,rfl⟩
 obtain ⟨ops,e⟩:=e
 show wpAny _ _ (pure false) _ _ _
 refine wpAny_pure ?_
 show wpAny _ _ (subscripted slice false o i>>=_) _ _ _
 rw [e]
 exact wpAny_bind (wpAny_operating (wpAny_mono hg (λr s₃ h₃=>wpAny_bind (wpAny_letTemporaryGo (wpAny_pure h₃))) λJ J x=>x))
theorem valueAt_int {h:Heap} {rf gf:Rf} {k:Int} {x:AV}:∀{kvs:List (Int×AV)} {l:List (Int×Value)},IR h rf gf kvs l->lookI k kvs=some x->∃v,valueAt l k=some v/\VR h rf gf x v:=@λω=>@λψ=>@λχ=>@λϕ=>match ω,ψ,χ,ϕ with
 | [],J,ζ,e=>ae e
 | (j,y)::kvs,_,⟨v,q,rfl,hv,hq⟩,e=>(Decidable.em (j=k)).elim (λhj=>⟨v,va_pos hj,Option.some.inj ((if_pos hj).symm.trans e)▸hv⟩) λhj=>
  (valueAt_int hq ((if_neg hj).symm.trans e)).imp λw z=>⟨(va_neg hj).trans z.1,z.2⟩
theorem seq_pos {k:Int} {n:Nat} (h:0<=k) (h2:k.toNat<n):seqIndex? k n=some k.toNat:=by
 simp only [seqIndex?,if_neg (Int.not_lt.mpr h)]
 rw [if_pos (by simp;omega)]
theorem seq_neg {k:Int} {n:Nat} (h:k<0) (h1:-(n:Int)<=k):seqIndex? k n=some (k+n).toNat:=by
 simp only [seqIndex?,if_pos h]
 rw [if_pos (by simp;omega)]
theorem idx_pos {xs:List AV} {k:Int} {x:AV} (h:0<=k) (e:idxL xs k=some x):xs[k.toNat]?=some x:=(if_pos h).symm.trans e
theorem idx_neg {xs:List AV} {k:Int} {x:AV} (h:k<0) (e:idxL xs k=some x):-(xs.length:Int)<=k/\xs[(k+xs.length).toNat]?=some x:=by
 have e:=(if_neg (Int.not_le.mpr h)).symm.trans e
 by_cases q:-(xs.length:Int)<=k
 ·exact ⟨q,(if_pos q).symm.trans e⟩
 ·exact ae ((if_neg q).symm.trans e)
theorem VRs.it {xs:List AV} {items:Array Value} {h:Heap} {rf gf:Rf} (hv:VRs h rf gf xs items.toList) {i:Nat} {x:AV} (e:xs[i]?=some x):∃v,items[i]?=some v/\VR h rf gf x v:=(hv.get e).imp λJ q=>⟨Array.getElem?_toList.symm.trans q.1,q.2⟩
theorem seqIdx {xs:List AV} {k:Int} {x:AV} {items:Array Value} {h:Heap} {rf gf:Rf} (hv:VRs h rf gf xs items.toList) (e:idxL xs k=some x):
  ∃j v,seqIndex? k items.size=some j/\items[j]?=some v/\VR h rf gf x v:=
 (Int.lt_or_le k 0).elim (λz=>(hv.it (idx_neg z e).2).elim λv q=>⟨_,v,(congrArg _ hv.size).trans (seq_neg z (idx_neg z e).1),q.1,q.2⟩)
  λz=>(hv.it (idx_pos z e)).elim λv q=>⟨_,v,(congrArg _ hv.size).trans (seq_pos z (List.getElem?_eq_some_iff.mp (idx_pos z e)).1),q.1,q.2⟩
theorem bnd1 {n:Nat} {k:Int} (h:n<=SZ) (h2:-(n:Int)<=k):-2 ^ 63<=k:=by unfold SZ at h;omega
theorem bnd2 {n:Nat} {k:Int} (h:n<=SZ) (h2:k.toNat<n):k<2 ^ 63:=by unfold SZ at h;omega
theorem bnd3 {k:Int} (h:k.natAbs<1073741824):-2 ^ 63<=k/\k<2 ^ 63:=by omega
include W
theorem idx_list (R:Rel C ρ σ s.heap) (L:Bas C s.heap) {o v:AV} {O:Value} {k:Int} {t:Tok} {xs:List AV} (ho:VR s.heap (ab ρ) C.gf o O) (hxs:aT C.τ σ o=some xs) (e:idxL xs k=some v) (K:∀V tk,VR s.heap (ab ρ) C.gf v V->Q V { s with toks:=tk }):SubscriptOn (model C.prog C.w) A O (.int k t) Q E s:=by
 obtain ⟨l,items,rfl,hl,hvs,hz⟩:=list_at W R L ho hxs
 refine ⟨"list",_,Slot.look F.slot_list_getitem,hl.typeIs,?_⟩
 rcases Int.lt_or_le k 0 with z | z
 ·have q:=idx_neg z e
  obtain ⟨w,h1,h2⟩:=hvs.it q.2
  rw [<-hvs.size] at q h1
  exact wpAny_getItem_list_neg hl z q.1 (bnd1 (hvs.size▸hz) q.1) h1 (K w s.toks h2)
 ·obtain ⟨w,h1,h2⟩:=hvs.it (idx_pos z e)
  exact wpAny_getItem_list hl z (bnd2 hz (List.getElem?_eq_some_iff.mp (idx_pos z e)).1) h1 (K w s.toks h2)
theorem idx_gd (L:Bas C s.heap) {g:Nat} {v:AV} {O:Value} {j:Int} {t:Tok} {kvs:List (Int×AV)} (ho:VR s.heap (ab ρ) C.gf (.gl g) O) (hg:C.τ.γ g=.idict kvs) (e:lookI j kvs=some v) (K:∀V tk,VR s.heap (ab ρ) C.gf v V->Q V { s with toks:=tk }):SubscriptOn (model C.prog C.w) A O (.int j t) Q E s:=by
 obtain ⟨a,ha,rfl⟩:=ho
 obtain ⟨b,l,hb,⟨ob,es,ep,h1,h2,h3,h4⟩,hir,hz⟩:=W.gdict g _ hg
 rw [ha] at hb;cases hb
 have hl:s.heap.DictOf (intKind C.prog C.w) a l:=⟨ob,es,ep,Bas.old W L h1 (λvs z=>by rw [h3] at z;cases z),h2,h3,h4⟩
 obtain ⟨w,q1,q2⟩:=valueAt_int hir e
 exact ⟨"dict",_,Slot.look F.slot_dict_getitem,hl.typeIs,wpAny_getItem_of (knd:=intKind C.prog C.w) (k:=j) (beq_self_eq_true _) hl.mapOf q1 (K w _ (q2.mono (λi a q=>ae q) (Bas.tup W L) _))⟩
theorem idx_i (R:Rel C ρ σ s.heap) (L:Bas C s.heap) {v:AV} {k:Int} {t:Tok} (K:∀V tk,VR s.heap (ab ρ) C.gf v V->Q V { s with toks:=tk }):∀{o:AV} {O:Value},VR s.heap (ab ρ) C.gf o O->idxI C.τ σ k o=some v->SubscriptOn (model C.prog C.w) A O (.int k t) Q E s
 | .tup xs,_,⟨_,_,rfl,ht,hvs⟩,e=>(Decidable.em (k.natAbs<1073741824)).elim (λhk=>(seqIdx hvs ((if_pos hk).symm.trans e)).elim λp q=>q.elim λw q=>
   ⟨"tuple",_,Slot.look F.slot_tuple_getitem,ht.typeIs,PyProof.Rows.getItem_tuple ht (bnd3 hk).1 (bnd3 hk).2 q.1 q.2.1 (K w s.toks q.2.2)⟩) λhk=>ae ((if_neg hk).symm.trans e)
 | .ref J,ζ,ho,e=>(Option.bind_eq_some_iff.mp e).elim λJ q=>idx_list W R L ho q.1 q.2 K
 | .gl g,J,ho,e=>by
  cases hg:C.τ.γ g with
  | idict kvs=>simp only [idxI,hg] at e;exact idx_gd W L ho hg e K
  | _=>simp only [idxI,hg] at e;exact (Option.bind_eq_some_iff.mp e).elim λJ q=>idx_list W R L ho q.1 q.2 K
 | .none,J,ζ,e=>ae e
 | .bool J,ζ,η,e=>ae e
 | .int J,ζ,η,e=>ae e
 | .str J,ζ,η,e=>ae e
omit W in
theorem dictO_at:∀{o:AO} {kvs:List (Nat×AV)},dictO o=some kvs->o=.sdict kvs:=@λω=>@λψ=>@λχ=>match ω,ψ,χ with
 | .sdict J,ζ,e=>congrArg _ (Option.some.inj e)
 | .list J,ζ,e=>ae e
 | .inst J ζ,η,e=>ae e
 | .box J,ζ,e=>ae e
theorem idx_t (R:Rel C ρ σ s.heap) {v:AV} {k:Nat} {t:Tok} (hk:k<NS) (K:∀V tk,VR s.heap (ab ρ) C.gf v V->Q V { s with toks:=tk }):∀{o:AV} {O:Value},VR s.heap (ab ρ) C.gf o O->idxT σ k o=some v->SubscriptOn (model C.prog C.w) A O (.str (SS k) t) Q E s
 | .ref J,ζ,ho,e=>(Option.bind_eq_some_iff.mp e).elim λkvs q=>(Option.bind_eq_some_iff.mp q.1).elim λo q1=>by
  obtain ⟨ad,l,hr,rfl,hl,hkr,hz,hs⟩:=dict_at W R ho (q1.1.trans (congrArg some (dictO_at q1.2)))
  have hlk:=KR.look hk hkr
  rw [q.2] at hlk
  obtain ⟨w,h1,h2⟩:=hlk
  exact ⟨"dict",_,Slot.look F.slot_dict_getitem,hl.typeIs,wpAny_getItem_of (knd:=strKind C.prog C.w) (k:=SS k) (beq_self_eq_true _) hl.mapOf h1 (K w _ h2)⟩
 | .none,J,ζ,e=>ae e
 | .bool J,ζ,η,e=>ae e
 | .int J,ζ,η,e=>ae e
 | .str J,ζ,η,e=>ae e
 | .tup J,ζ,η,e=>ae e
 | .gl J,ζ,η,e=>ae e
theorem p_idx (R:Rel C ρ σ s.heap) (L:Bas C s.heap) {o v:AV} {O:Value} (ho:VR s.heap (ab ρ) C.gf o O):∀{i:AV} {I:Value},VR s.heap (ab ρ) C.gf i I->idxA C.τ σ o i=some v->(∀V tk,VR s.heap (ab ρ) C.gf v V->Q V { s with toks:=tk })->SubscriptOn (model C.prog C.w) A O I Q E s
 | .int _,_,⟨_,rfl⟩,e,K=>idx_i W R L K ho e
 | .str _,_,⟨hk,_,rfl⟩,e,K=>idx_t W R hk K ho e
 | .none,J,ζ,e,η=>ae e
 | .bool J,ζ,η,e,θ=>ae e
 | .tup J,ζ,η,e,θ=>ae e
 | .ref J,ζ,η,e,θ=>ae e
 | .gl J,ζ,η,e,θ=>ae e
end
theorem slice_plain {xs:List AV} {items:Array Value} {h:Heap} {rf gf:Rf} (hv:VRs h rf gf xs items.toList) (lo hi:Option Int):
  VRs h rf gf (ao xs lo hi) (slicePick items lo hi none).toList:=by
 rw [slicePick_plain,List.toList_toArray,<-List.drop_take,hv.size]
 exact (hv.take _).drop _
theorem slice_rev {xs:List AV} {items:Array Value} {h:Heap} {rf gf:Rf} (hv:VRs h rf gf xs items.toList):
  VRs h rf gf xs.reverse (slicePick items none none (some (-1))).toList:=by
 rw [krv_pick,List.toList_toArray];exact hv.reverse
theorem sliceA_le (xs:List AV) (lo hi:Option Int):(ao xs lo hi).length<=xs.length:=
 Nat.le_trans (Nat.le_of_eq List.length_drop) (Nat.le_trans (Nat.sub_le ..) (List.length_take_le' ..))
theorem isPart {h:Heap} {rf gf:Rf}:∀{v:AV} {V:Value} {o:Option Int},VR h rf gf v V->partA v=some o->IsPart V o:=@λω=>@λψ=>@λχ=>@λϕ=>@λϱ=>match ω,ψ,χ,ϕ,ϱ with
 | .none,J,ζ,hv,e=>Option.some.inj e▸(hv:_=Value.none)▸.none
 | .int J,ζ,η,hv,e=>hv.elim λt q=>q▸Option.some.inj e▸.int _ _
 | .bool J,ζ,η,θ,e=>ae e
 | .str J,ζ,η,θ,e=>ae e
 | .tup J,ζ,η,θ,e=>ae e
 | .ref J,ζ,η,θ,e=>ae e
 | .gl J,ζ,η,θ,e=>ae e
theorem adjust_upto (b n:Nat) (hb:b<=n):Builtin.Slice.sliceAdjust none (some (b:Int)) 1 (n:Int)=(0,(b:Int)):=by
 unfold Builtin.Slice.sliceAdjust
 have h1:¬((1:Int)<0):=by omega
 have h2:¬((b:Int)<0):=by omega
 simp only [h1,h2,if_false]
 congr 1
 omega
theorem places_upto (b:Nat):Builtin.Slice.slicePlaces 0 (b:Int) 1=b:=by
 unfold Builtin.Slice.slicePlaces
 have h1:(1:Int) > 0:=by omega
 simp only [h1,if_true,Int.ediv_one]
 split<;>omega
section
variable {prog:Program} {w:World} {A:Around} {E:Value->Shared->Prop} {s:Shared}
theorem applied_upto {sl:Addr} {b n:Nat} {u:Tok} {Q:Int×Int×Nat->Shared->Prop} (hs:s.heap.IsSliceOf sl .none (.int b u) .none) (hb:b<=n) (h:Q (0,1,b) s):
  wpAny (model prog w) A (Builtin.Slice.sliceApplied (.ref sl) (pure (n:Int))) Q E s:=by
 obtain ⟨os,hos,hcs,hds⟩:=id hs
 unfold Builtin.Slice.sliceApplied Builtin.Slice.sliceFields
 refine wpAny_bind (wpAny_bind (wpAny_field hos hds (x:=.none) rfl (wpAny_bind (wpAny_field hos hds (x:=.int b u) rfl (wpAny_bind (wpAny_field hos hds (x:=.none) rfl (wpAny_pure ?_)))))))
 refine wpAny_bind (slicePart_none ?_)
 show wpAny _ _ (if ((1:Int)==0)=true then _ else _) _ _ s
 rw [if_neg (by decide)]
 refine wpAny_bind (slicePart_none (wpAny_bind (slicePart_int (wpAny_bind (wpAny_pure ?_)))))
 show wpAny _ _ (match Builtin.Slice.sliceAdjust none (some (b:Int)) 1 (n:Int) with | (lo,hi)=>pure (lo,(1:Int),Builtin.Slice.slicePlaces lo hi 1)) _ _ s
 rw [adjust_upto b n hb]
 show wpAny _ _ (pure ((0:Int),(1:Int),Builtin.Slice.slicePlaces 0 (b:Int) 1)) _ _ s
 rw [places_upto b]
 exact wpAny_pure h
theorem pick_upto (xs:Array Value) (b:Nat) (hb:b<=xs.size):((List.range b).filterMap λ(k:Nat)=>xs[((0:Int)+(k:Int)*1).toNat]?).toArray=(xs.toList.take b).toArray:=by
 congr 1
 have e:(λ(k:Nat)=>xs[((0:Int)+(k:Int)*1).toNat]?)=λk=>xs.toList[k]?:=by
  funext k
  have:((0:Int)+(k:Int)*1).toNat=k:=by omega
  rw [this,Array.getElem?_toList]
 rw [e]
 have hl:b<=xs.toList.length:=by simpa using hb
 generalize xs.toList=l at hl
 clear e hb
 induction b generalizing l with
 | zero=>simp
 | succ b ih=>
  cases l with
  | nil=>simp at hl
  | cons x l=>
   rw [List.range_succ_eq_map,List.filterMap_cons,List.filterMap_map]
   simp only [List.getElem?_cons_zero,List.take_succ_cons]
   congr 1
   have:=ih l (by simpa using hl)
   rw [<-this]
   rfl
theorem getItem_upto {t sl:Addr} {items:Array Value} {b:Nat} {u:Tok} {Q:Value->Shared->Prop} (ht:IsTup s.heap t items) (hs:s.heap.IsSliceOf sl .none (.int b u) .none) (hb:b<items.size)
  (h:Q (.ref s.heap.objs.size) { s with heap:=s.heap.push { cls:=.type "tuple",data:=.seq (items.toList.take b).toArray } })
  (hsz:b<=sizeLine):wpAny (model prog w) A (getItem (.ref t) (.ref sl)) Q E s:=by
 have htake:sizeOk (.seq (items.toList.take b).toArray):=by
  show (items.toList.take b).toArray.size<=sizeLine
  rw [List.size_toArray,List.length_take]
  omega
 obtain ⟨os,hos,hcs,hds⟩:=id hs
 have hTs:s.TypeIs (.ref sl) "slice":=⟨os,hos,hcs⟩
 unfold getItem
 try with_reducible refine wpAny_holding ?_
 first | refine wpAny_bind (wpAny_pure ?_) | skip
 refine wpAny_bind (wpAny_sequenceKey ht.typeIs (by decide) ?_)
 refine wpAny_bind (wpAny_callSpecial?_slot (name:=Str.ofString "__getitem__") ht.typeIs slot_tuple_getitem
  (wpAny_call_entry slot_tuple_getitem ht.typeIs entry_tuple_getitem ?_ (args_tuple_getitem _ _)))
 show wpAny _ _ (Builtin.Tuple.tupleItemsOf (.ref t)>>=_) _ _ s
 refine wpAny_bind (tupleItemsOf_ ht ?_)
 refine wpAny_bind (wpAny_typeOf hTs ?_)
 rw [if_pos (by decide)]
 refine wpAny_bind (applied_upto hs (Nat.le_of_lt hb) ?_)
 have hno:¬(((0:Int)==0&&(1:Int)==1&&b==items.size)=true):=by
  have:(b==items.size)=false:=by rw [beq_eq_false_iff_ne];omega
  rw [this];simp
 show wpAny _ _ (if ((0:Int)==0&&(1:Int)==1&&b==items.size)=true then _ else _) _ _ s
 rw [if_neg hno,pick_upto items b (Nat.le_of_lt hb)]
 first
  | exact wpAny_bind (m:=Builtin.Tuple.tupleExact _) (wpAny_newObj_type (wpAny_pure ⟨_,rfl,wpAny_pure h⟩) htake)
  | exact wpAny_bind (m:=Builtin.Tuple.tupleExact _) (wpAny_newObj_type (wpAny_bind (wpAny_pure (wpAny_pure ⟨_,rfl,wpAny_pure h⟩))) htake)
  | exact wpAny_bind (wpAny_bind (m:=Builtin.Tuple.tupleExact _) (wpAny_newObj_type (wpAny_pure (wpAny_pure ⟨_,rfl,wpAny_pure h⟩)) htake))
  | exact wpAny_bind (wpAny_bind (m:=Builtin.Tuple.tupleExact _) (wpAny_newObj_type (wpAny_pure ⟨_,rfl,wpAny_pure h⟩) htake))
end
theorem SS_len:∀d,d<NS->(SS d).length<=sizeLine:=by decide +kernel
noncomputable def fstOK (c d:Nat):Bool:=
 if (slicePicked (SS c) none (some (1,0)) none).length==(SS c).length then decide (c=d) else decide ((⟨((slicePicked (SS c) none (some (1,0)) none).filterMap (λJ=>(SS c).cps[J]?)).toArray⟩:Str)=SS d)
noncomputable def fstAll:Bool:=(List.range NS).all λc=>match fstT.getD c none with
 | some d=>fstOK c d&&decide (d<NS)
 | none=>true
theorem fst_all:fstAll=true:=by decide +kernel
theorem fst_at {c d:Nat} (hc:c<NS) (e:fstT.getD c none=some d):d<NS/\∀t u,sliceMade (SS c) t none (some (1,u)) none=.val (.str (SS d) t)\/sliceMade (SS c) t none (some (1,u)) none=.str (SS d):=by
 have h:=List.all_eq_true.mp fst_all c (List.mem_range.mpr hc)
 simp only [e,Bool.and_eq_true] at h
 refine ⟨odT h.2,λt u=>?_⟩
 have h1:=h.1
 unfold fstOK at h1
 have e2:slicePicked (SS c) none (some (1,u)) none=slicePicked (SS c) none (some (1,0)) none:=rfl
 unfold sliceMade
 rw [e2]
 split at h1
 ·rename_i q
  obtain rfl:=odT h1
  left;rw [if_pos];simpa using q
 ·rename_i q
  right;rw [if_neg (by simpa using q),odT h1]
theorem iteF {c:Prop} [Decidable c] {P:Prop} (h:if c then P else False):c/\P:=by
 split at h
 ·exact ⟨‹c›,h⟩
 ·exact h.elim
theorem grd {C:Cfg} {d:Nat} {c:Bool} {P:Prop} (h:aL (vcA C d) c P):c=true/\P:=by
 cases c with
 | true=>exact ⟨rfl,h⟩
 | false=>exact h.elim
theorem opt {C:Cfg} {d:Nat} {γ:Type} {o:Option γ} {P:γ->Prop} (h:optK (vcA C d) o P):∃x,o=some x/\P x:=by
 cases o with
 | none=>exact h.elim
 | some x=>exact ⟨x,rfl,h⟩
inductive SlKA:Value->Value->Value->SlK->Prop
 | one {LO HI:Value} {a b:Option Int}:IsPart LO a->IsPart HI b->SlKA LO HI .none (.one a b)
 | rev {t:Tok}:SlKA .none .none (.int (-1) t) .rev
theorem slK_int {lo hi:AV} {k:Int} {sk:SlK} (e:slK lo hi (.int k)=some sk):k=-1/\isNoneA lo=true/\isNoneA hi=true/\.rev=sk:=by
 by_cases q:k=-1/\(isNoneA lo&&isNoneA hi)=true
 ·have e:(if k=-1/\(isNoneA lo&&isNoneA hi)=true then some SlK.rev else none)=some sk:=e
  rw [if_pos q] at e
  exact ⟨q.1,(Bool.and_eq_true_iff.mp q.2).1,(Bool.and_eq_true_iff.mp q.2).2,Option.some.inj e⟩
 ·exact ae ((if_neg q).symm.trans e)
theorem sl_rev {LO HI ST:Value} {sk:SlK} {t:Tok} {k:Int} (h1:LO=.none) (h2:HI=.none) (h3:ST=.int k t) (h4:k=-1) (h5:.rev=sk):SlKA LO HI ST sk:=by
 subst h1 h2 h3 h4 h5;exact .rev
theorem slK_inv {h:Heap} {rf gf:Rf} {lo hi:AV} {LO HI:Value} {sk:SlK} (hlo:VR h rf gf lo LO) (hhi:VR h rf gf hi HI):∀{st:AV} {ST:Value},VR h rf gf st ST->slK lo hi st=some sk->SlKA LO HI ST sk:=@λω=>@λψ=>@λχ=>@λϕ=>match ω,ψ,χ,ϕ with
 | .none,J,hst,e=>(some2 (f:=SlK.one) e).elim λJ q=>q.elim λJ q=>q.2.2▸(hst:_=Value.none)▸.one (isPart hlo q.1) (isPart hhi q.2.1)
 | .int J,ζ,hst,e=>hst.elim λt z=>have q:=slK_int e;sl_rev (none_at hlo q.2.1) (none_at hhi q.2.2.1) z q.1 q.2.2.2
 | .bool J,ζ,η,e=>ae e
 | .str J,ζ,η,e=>ae e
 | .tup J,ζ,η,e=>ae e
 | .ref J,ζ,η,e=>ae e
 | .gl J,ζ,η,e=>ae e
section
variable {C:Cfg} (W:CfgOK C) {ρ:Ro} {σ:St} {s:Shared} {A:Around} {d:Nat} {Φ:AV->St->Prop} {Q:Value->Shared->Prop}
include W
theorem slc_list (R:Rel C ρ σ s.heap) (L:Bas C s.heap) (k:aV C ρ s Φ Q) {sl:Addr} {o:AV} {O LO HI ST:Value} {xs:List AV} {sk:SlK} (hs:s.heap.IsSliceOf sl LO HI ST) (ho:VR s.heap (ab ρ) C.gf o O) (hp:SlKA LO HI ST sk) (hxs:aT C.τ σ o=some xs)
  (p:newK (.list (slicedA xs sk)) σ Φ):SubscriptOn (model C.prog C.w) A O (.ref sl) Q (λJ J=>False) s:=by
 obtain ⟨l,items,rfl,hl,hvs,hz⟩:=list_at W R L ho hxs
 refine ⟨"list",_,Slot.look F.slot_list_getitem,hl.typeIs,?_⟩
 have hz2:items.size<=sizeLine:=hvs.size▸Nat.le_trans hz SZ_le
 cases hp with
 | one h1 h2=>exact wpAny_getItem_list_slice hl hs h1 h2 .none (by decide) (k_list W R L k (slice_plain hvs _ _) (Nat.le_trans (sliceA_le _ _ _) hz) p) hz2
 | rev=>exact wpAny_getItem_list_slice hl hs .none .none (.int _ _) (by decide) (k_list W R L k (slice_rev hvs) (Nat.le_trans (Nat.le_of_eq List.length_reverse) hz) p) hz2
theorem slc_tup (R:Rel C ρ σ s.heap) (L:Bas C s.heap) (k:aV C ρ s Φ Q) {sl:Addr} {O:Value} {xs:List AV} {n:Nat} {u:Tok} (hs:s.heap.IsSliceOf sl .none (.int n u) .none) (ho:VR s.heap (ab ρ) C.gf (.tup xs) O) (hn:n<xs.length) (h3:n<1000)
  (p:Φ (.tup (xs.take n)) σ):SubscriptOn (model C.prog C.w) A O (.ref sl) Q (λJ J=>False) s:=by
 obtain ⟨t,items,rfl,ht,hvs⟩:=ho
 refine ⟨"tuple",_,Slot.look F.slot_tuple_getitem,ht.typeIs,getItem_upto ht hs (hvs.size▸hn) ?_ (Nat.le_trans (Nat.le_of_lt h3) (by decide))⟩
 refine k.here W.box R L (v:=.tup (xs.take n)) (h':=_) (λb o e=>Heap.get?_push_of_some _ e) ⟨_,(items.toList.take n).toArray,rfl,⟨_,Heap.get?_push_size _ rfl,rfl,0,rfl⟩,?_⟩ p
 rw [List.toList_toArray]
 exact (hvs.take n).mono (λJ J e=>e) (λa o e J=>Heap.get?_push_of_some _ e) _
theorem slc_str (hfst:∀c,C.τ.fst c=fstT.getD c none) (R:Rel C ρ σ s.heap) (L:Bas C s.heap) (k:aV C ρ s Φ Q) {sl:Addr} {O:Value} {c dd:Nat} {u:Tok} (hs:s.heap.IsSlice sl none (some (1,u)) none) (ho:VR s.heap (ab ρ) C.gf (.str c) O) (hd:C.τ.fst c=some dd)
  (p:Φ (.str dd) σ):SubscriptOn (model C.prog C.w) A O (.ref sl) Q (λJ J=>False) s:=by
 obtain ⟨hc,t,rfl⟩:=ho
 rw [hfst] at hd
 obtain ⟨hdN,hmade⟩:=fst_at hc hd
 refine ⟨"str",_,Slot.look F.slot_str_getitem,rfl,wpAny_getItem_str_slice hs rfl ?_⟩
 rcases hmade t u with e | e
 ·rw [e];exact aW W R L k (.str dd) ⟨hdN,_,rfl⟩ p
 ·rw [e];exact ⟨SS_len dd hdN,aW W R L k (.str dd) ⟨hdN,_,rfl⟩ p⟩
theorem slc_go (hfst:∀c,C.τ.fst c=fstT.getD c none) (R:Rel C ρ σ s.heap) (L:Bas C s.heap) (k:aV C ρ s Φ Q) {sl:Addr} {o:AV} {O LO HI ST:Value} {sk:SlK} (hs:s.heap.IsSliceOf sl LO HI ST) (ho:VR s.heap (ab ρ) C.gf o O) (hp:SlKA LO HI ST sk)
  (p:slcS C.τ (vcA C d) o sk σ Φ):SubscriptOn (model C.prog C.w) A O (.ref sl) Q (λJ J=>False) s:=by
 cases o with
 | tup xs=>
  cases hp with
  | rev=>exact p.elim
  | @one J ζ a b h1 h2=>
   rcases a with _ | a
   ·rcases b with _ | b
    ·exact p.elim
    ·obtain ⟨q1,q2⟩:=grd p
     obtain ⟨q0,q3,q4⟩:=odT q1
     cases h1;cases h2
     obtain ⟨n,rfl⟩:∃n:Nat,b=n:=⟨b.toNat,(Int.toNat_of_nonneg (Int.le_of_lt q0)).symm⟩
     exact slc_tup W R L k hs ho (Int.ofNat_lt.mp q3) (Int.ofNat_lt.mp q4) q2
   ·exact p.elim
 | str c=>
  cases hp with
  | rev=>exact p.elim
  | @one J ζ a b h1 h2=>
   rcases a with _ | a
   ·rcases b with _ | b
    ·exact p.elim
    ·obtain ⟨rfl,p⟩:=iteF (c:=b=1) p
     obtain ⟨dd,hd,q⟩:=opt p
     cases h1;cases h2
     exact slc_str W hfst R L k hs ho hd q
   ·exact p.elim
 | ref i=>obtain ⟨xs,hxs,q⟩:=opt p;exact slc_list W R L k hs ho hp hxs q
 | gl i=>obtain ⟨xs,hxs,q⟩:=opt p;exact slc_list W R L k hs ho hp hxs q
 | none=>exact p.elim
 | bool J=>exact p.elim
 | int J=>exact p.elim
theorem p_slc (hfst:∀c,C.τ.fst c=fstT.getD c none) (R:Rel C ρ σ s.heap) (L:Bas C s.heap) {o lo hi st:AV} {O LO HI ST:Value} {value slice:Expr}
  (ho:VR s.heap (ab ρ) C.gf o O) (hlo:VR s.heap (ab ρ) C.gf lo LO) (hhi:VR s.heap (ab ρ) C.gf hi HI) (hst:VR s.heap (ab ρ) C.gf st ST)
  (p:slcK C.τ (vcA C d) o lo hi st σ Φ) (k:aV C ρ s Φ Q):
  wpAny (model C.prog C.w) A (subscriptTail value slice O (.ref s.heap.objs.size)) Q (λJ J=>False) { s with heap:=s.heap.push { cls:=.type "slice",data:=.fields #[LO,HI,ST] } }:=by
 have q:∃sk,slK lo hi st=some sk/\slcS C.τ (vcA C d) o sk σ Φ:=by
  revert p;unfold slcK
  cases slK lo hi st with
  | none=>exact λp=>p.elim
  | some sk=>exact λp=>⟨sk,rfl,p⟩
 obtain ⟨sk,hsk,q⟩:=q
 have K:=aE (tk:=s.toks) W.box R L (λb o e=>Heap.get?_push_of_some { cls:=.type "slice",data:=.fields #[LO,HI,ST] } e)
 exact sub_tail (slc_go W hfst K.2.1 K.2.2 (k.from K.1) (Heap.IsSliceOf.new s.heap LO HI ST) (VR.aft W.box R L K.1 ho) (slK_inv hlo hhi hst hsk) q) ⟨_,_,rfl⟩
end
theorem NM_all:∀i,i<NN->∀j,j<NN->(NM i==NM j)=decide (i=j):=by decide +kernel
theorem NM_beq {i j:Nat} (hi:i<NN) (hj:j<NN):(NM i==NM j)=decide (i=j):=NM_all i hi j hj
section
variable {h:Heap} {rf gf:Rf}
theorem DR.noRef:∀{fs:List (Nat×AV)} {es:List DictEntry},DR h rf gf fs es->es.any (λJ=>J.refKey)=false:=@λω=>@λψ=>@λχ=>match ω,ψ,χ with
 | [],J,e=>by rw [e];rfl
 | (k,x)::r,J,⟨e,q,h1,hn,⟨t,ht⟩,hv,hq⟩=>by
  subst h1
  rw [List.any_cons,DR.noRef hq]
  obtain ⟨hsh,key,val⟩:=e
  simp only at ht
  subst ht
  rfl
theorem DR.look {n:Nat} (hn:n<NN):∀{fs:List (Nat×AV)} {es:List DictEntry},DR h rf gf fs es->∀{v:AV},lookA n fs=some v->∃V,getL (NM n) es=some (some V)/\VR h rf gf v V:=@λω=>@λψ=>@λχ=>@λϕ=>@λϱ=>match ω,ψ,χ,ϕ,ϱ with
 | [],J,ζ,v,e=>by cases e
 | (k,x)::r,J,⟨en,q,h1,hk,⟨t,ht⟩,hv,hq⟩,v,e=>by
  subst h1
  have hkey:en.key.isStr (NM n)=decide (k=n):=by rw [ht];exact NM_beq hk hn
  simp only [lookA] at e
  by_cases z:k=n
  ·subst z;rw [if_pos rfl] at e;cases e
   refine ⟨en.val,?_,hv⟩
   unfold getL
   rw [List.find?_cons_of_pos (by rw [hkey];simp)]
  ·rw [if_neg z] at e
   obtain ⟨V,h2,h3⟩:=DR.look hn hq e
   refine ⟨V,?_,h3⟩
   unfold getL at h2 ⊢
   rw [List.find?_cons_of_neg (by rw [hkey];simpa using z)]
   cases hf:q.find? (λJ=>J.key.isStr (NM n)) with
   | some z=>rw [hf] at h2;exact h2
   | none=>
    rw [hf] at h2
    simp only at h2
    split at h2<;>cases h2
theorem DR.put {n:Nat} (hn:n<NN) {v:AV} {V:Value} (hv:VR h rf gf v V) (hsh:Int) (t:Tok):∀{fs:List (Nat×AV)} {es:List DictEntry},DR h rf gf fs es ->
  DR h rf gf (putA n v fs) (putL (NM n) hsh (.str (NM n) t) V es):=@λω=>@λψ=>@λχ=>match ω,ψ,χ with
 | [],J,e=>by rw [e];exact ⟨_,[],rfl,hn,⟨t,rfl⟩,hv,rfl⟩
 | (k,x)::r,J,⟨en,q,h1,hk,⟨u,ht⟩,hx,hq⟩=>by
  subst h1
  have hkey:en.key.isStr (NM n)=decide (k=n):=by rw [ht];exact NM_beq hk hn
  simp only [putA,putL,hkey]
  by_cases z:k=n
  ·subst z
   simp only [if_true,decide_true]
   exact ⟨_,q,rfl,hk,⟨u,ht⟩,hv,hq⟩
  ·simp only [if_neg z,decide_eq_false z]
   exact ⟨en,_,rfl,hk,⟨u,ht⟩,hx,DR.put hn hv hsh t hq⟩
theorem putA_len (n:Nat) (v:AV):∀fs:List (Nat×AV),(putA n v fs).length<=fs.length+1:=λω=>match ω with
 | []=>Nat.le_refl _
 | (k,x)::r=>by
  simp only [putA]
  split
  ·simp
  ·simp only [List.length_cons];have:=putA_len n v r;omega
theorem putL_len (name:Str) (hsh:Int) (key v:Value):∀es:List DictEntry,(putL name hsh key v es).length<=es.length+1:=λω=>match ω with
 | []=>Nat.le_refl _
 | e::r=>by
  simp only [putL]
  split
  ·simp
  ·simp only [List.length_cons];have:=putL_len name hsh key v r;omega
theorem DR.len:∀{fs:List (Nat×AV)} {es:List DictEntry},DR h rf gf fs es->es.length=fs.length:=@λω=>@λψ=>@λχ=>match ω,ψ,χ with
 | [],J,e=>by rw [e];rfl
 | (k,x)::r,J,⟨e,q,h1,ζ,η,θ,hq⟩=>by rw [h1,List.length_cons,List.length_cons,DR.len hq]
end
section
variable {C:Cfg} (W:CfgOK C) {ρ:Ro} {σ:St} {s:Shared} {A:Around} {d:Nat} {Φ:AV->St->Prop} {Q:Value->Shared->Prop} {E:Value->Shared->Prop}
include W
theorem inst_at (R:Rel C ρ σ s.heap) {i c:Nat} {fs:List (Nat×AV)} {V:Value} (hv:VR s.heap (ab ρ) C.gf (.ref i) V) (hi:σ[i]?=some (.inst c fs)):
  ∃x dx es n,ρ[i]?=some [x,dx]/\V=.ref x/\InstAt s.heap x (instObj (C.ca c) dx) (C.ca c) (some (dictOf es n))/\s.heap.get? dx=some (dictOf es n)/\DR s.heap (ab ρ) C.gf fs es/\fs.length<=100:=by
 let _:=W
 obtain ⟨a,ha,rfl⟩:=hv
 unfold ab at ha
 cases hr:ρ[i]? with
 | none=>rw [hr] at ha;cases ha
 | some as=>
  rw [hr] at ha
  obtain ⟨x,dx,es,n,rfl,h1,h2,h3,h4⟩:=R.obj i _ as hi hr
  cases ha
  exact ⟨a,dx,es,n,rfl,rfl,⟨h1,rfl,rfl,h2⟩,h2,h3,h4⟩
theorem handed_VR {h:Heap} {rf gf:Rf} {v:AV} {V:Value} (hv:VR h rf gf v V):handedIn V=true:=by
 let _:=W
 cases v with
 | none=>cases hv;rfl
 | bool b=>cases hv;rfl
 | int i=>obtain ⟨t,rfl⟩:=hv;rfl
 | str k=>obtain ⟨_,t,rfl⟩:=hv;rfl
 | tup xs=>obtain ⟨_,_,rfl,_⟩:=hv;rfl
 | ref i=>obtain ⟨_,_,rfl⟩:=hv;rfl
 | gl i=>obtain ⟨_,_,rfl⟩:=hv;rfl
set_option tactic.hygienic true in
theorem p_attr (R:Rel C ρ σ s.heap) (L:Bas C s.heap) {o v:AV} {O:Value} {n:Nat} {expr:Bool} (ho:VR s.heap (ab ρ) C.gf o O) (e:attrA C.τ σ o n=some v)
  (k:∀V tk,VR s.heap (ab ρ) C.gf v V->Q V { s with toks:=tk }):wpAny (model C.prog C.w) A (getAttr O (NM n) expr) Q E s:=by
 unfold attrA at e
 split at e
 ·split at e
  ·rename_i i _ c fs hi
   split at e
   ·rename_i hc
    obtain ⟨x,dx,es,m,hr,rfl,I,hd,hD,hz⟩:=inst_at W R ho hi
    have hn:n<NN:=hc.2.1
    obtain ⟨V,h1,h2⟩:=hD.look hn e
    have K:=W.cls c hc.1
    have hf:findObj C.K (C.ca c) (some (dictOf es m)) (NM n)=some (.value V):=findObj_own K.hd (K.att n hc.2.1 hc.2.2) rfl h1
    exact get_value (L.kin W) I K.ga hf (handed_VR W h2) (k V _ h2)
   ·cases e
  ·cases e
 ·cases e
theorem osa_upd {x dx:Addr} {c:Addr} {es:List DictEntry} {n:Nat} {name:Str} {tk:Tok} {v:Value} {R:Result->Shared->Prop} (X:C.K.In s.heap)
  (I:InstAt s.heap x (instObj c dx) c (some (dictOf es n))) (hD:s.heap.get? dx=some (dictOf es n)) (hp:plainOver C.K c=true) (ht:takerIn C.K c name=some none) (hh:hasDictIn C.K c=true)
  (hl:es.any (λJ=>J.refKey)=false) (hz:es.length<=100)
  (h:∀h' es' n',Heap.SameBut dx s.heap h'->h'.get? dx=some (dictOf es' n')->es'=putL name (PyData.keyHash C.w.params name) (.str name s.toks) v es->R (.ok (.ret .none)) { s with heap:=h',toks:=s.toks+1 }):
  codeAny (model C.prog C.w) A (.call (.builtin "object.__setattr__") ⟨[.ref x,.str name tk,v],[]⟩) R s:=by
 let _:=W
 refine osa_open X I hp ht λb=>?_
 obtain ⟨cd,hc,hd'⟩:=any_some hh
 have e:Obj.putName name (PyData.keyHash C.w.params name) (.str name s.toks) v (dictOf es n)=dictOf (putL name (PyData.keyHash C.w.params name) (.str name s.toks) v es) (putN name es n):=putName_dict ..
 have SB:=Heap.SameBut.update s.heap dx (Obj.putName name (PyData.keyHash C.w.params name) (.str name s.toks) v)
 have D':(s.heap.update dx (Obj.putName name (PyData.keyHash C.w.params name) (.str name s.toks) v)).get? dx=some (dictOf (putL name (PyData.keyHash C.w.params name) (.str name s.toks) v es) (putN name es n)):=by
  rw [<-e]
  exact Heap.get?_update_self _ hD (by rw [e];rfl)
 obtain ⟨hx,hcl,hn,-⟩:=I
 refine wpAny_bind (wpAny_pure (wpAny_bind (wpAny_bind (wpAny_loadPart hx (wpAny_bind ((looks_clsIn X hc).here ?_))))))
 rw [hd']
 refine wpAny_pure (a:=some dx) (wpAny_bind (wpAny_pure (wpAny_bind ?_)))
 unfold nsSet
 refine wpAny_bind (wpAny_bind (wpAny_askSetting (wpAny_pure (wpAny_bind (wpAny_mkText (wpAny_bind (wpAny_loadPart hD ?_)))))))
 dsimp only
 have c:(!es.toArray.any (λJ=>J.key.isStr name)&&es.toArray.any (λJ=>J.refKey))=false:=by
  have:es.toArray.any (λJ=>J.refKey)=false:=by simpa using hl
  rw [this,Bool.and_false]
 rw [aRefKeyMayBeTheName_at,c]
 refine wpAny_updatePart hD ?_
 refine wpAny_bind (wpAny_lookBehind D' (pastItsLine_dict (by have:=putL_len name (PyData.keyHash C.w.params name) (.str name s.toks) v es;rw [List.size_toArray,sizeLine_eq];omega)) ?_)
 exact wpAny_pure (h _ _ _ SB D' rfl)
end
section
variable {prog:Program} {w:World} {A:Around} {E:Value->Shared->Prop} {s:Shared}
theorem setList {l:Addr} {items:Array Value} {k:Int} {t:Tok} {v:Value} {Q:Unit->Shared->Prop} (hl:s.heap.PlainList l items)
  (h0:0<=k) (hfit:k<2 ^ 63) (hn:k<items.size)
  (hQ:∀h',h'.PlainList l (items.setIfInBounds k.toNat v)->Heap.SameBut l s.heap h'->Q () { s with heap:=h' }):
  wpAny (model prog w) A (setItem (.ref l) (.int k t) v) Q E s:=by
 obtain ⟨n,ho⟩:=id hl
 have hT:=hl.isList.typeIs (s:=s)
 unfold setItem
 try with_reducible refine wpAny_holding ?_
 first | refine wpAny_bind (wpAny_pure ?_) | skip
 refine wpAny_bind (wpAny_sequenceKey hT (by decide) ?_)
 refine wpAny_bind (wpAny_callSpecial?_slot (name:=Str.ofString "__setitem__") hT PySem.slot_list_setitem
  (wpAny_call_entry PySem.slot_list_setitem hT PySem.entry_list_setitem ?_ (PySem.args_list_setitem _ _ _)))
 show wpAny _ _ (Builtin.List.listSubscript? (.int k t)>>=_) _ _ s
 refine wpAny_bind (wpAny_listSubscript_int (fitsIndex_of h0 hfit) ?_)
 clear hfit
 obtain ⟨j,rfl⟩:=Int.eq_ofNat_of_zero_le h0
 have hj:j<items.size:=by omega
 have hx':items[j]?=some items[j]:=Array.getElem?_eq_getElem hj
 show wpAny _ _ ((seqItemAt l j>>=λr=>pure (r.map (λJ=>(j,J))))>>=_) _ _ s
 refine wpAny_bind (wpAny_bind (wpAny_seqItemAt ho rfl (wpAny_pure ?_)))
 rw [hx']
 show wpAny _ _ (setSeqItemAt l j v>>=_) _ _ s
 have hfin:(s.heap.update l (Obj.mapSeq (λJ=>J.setIfInBounds j v))).PlainList l (items.setIfInBounds j v):=
  ⟨_,get?_update_seq (c:="list") ho (λJ=>J.setIfInBounds j v)⟩
 refine wpAny_bind (wpAny_setSeqItemAt ho rfl ?_)
 first
  | exact wpAny_bind (wpAny_pure (wpAny_pure ⟨.none,rfl,wpAny_pure (hQ _ hfin (Heap.SameBut.update ..))⟩))
  | exact wpAny_pure ⟨.none,rfl,wpAny_pure (hQ _ hfin (Heap.SameBut.update ..))⟩
end
section
variable {C:Cfg} (W:CfgOK C) {ρ:Ro} {σ:St} {s:Shared} {A:Around} {d:Nat} {Φ:St->Prop} {Q:Unit->Shared->Prop}
noncomputable def ContU (C:Cfg) (ρ:Ro) (s:Shared) (Φ:St->Prop) (Q:Unit->Shared->Prop):Prop:=
 ∀s' ρ' σ',Aft C ρ s s' ρ'->Rel C ρ' σ' s'.heap->Bas C s'.heap->Φ σ'->Q () s'
theorem stored_eq {K:Type} [DecidableEq K] {a:K} {w V:Value} {l:List (K×Value)} (h:a∉l.map (λJ=>J.1)):stored ((a,w)::l) a V=(a,V)::l:=by
 unfold stored
 have e:((a,w)::l).any (λkv=>kv.1=a)=true:=by simp
 rw [if_pos e,List.map_cons]
 simp only [if_true]
 congr 1
 have:∀x∈l,(if x.1=a then (x.1,V) else x)=x:=λx hx=>if_neg λ(q:x.1=a)=>h (q▸List.mem_map_of_mem hx)
 rw [List.map_congr_left this];simp
theorem stored_ne {K:Type} [DecidableEq K] {a b:K} {w V:Value} {l:List (K×Value)} (h:a≠b):stored ((a,w)::l) b V=(a,w)::stored l b V:=by
 unfold stored
 have e:((a,w)::l).any (λkv=>kv.1=b)=l.any (λkv=>kv.1=b):=by simp [h]
 rw [e]
 split
 ·rw [List.map_cons,if_neg h]
 ·rfl
theorem KR.set {h:Heap} {rf gf:Rf} {k:Nat} {v:AV} {V:Value} (hk:k<NS) (hv:VR h rf gf v V):∀{kvs:List (Nat×AV)} {l:List (Str×Value)},(l.map (λJ=>J.1)).Nodup->KR h rf gf kvs l ->
  KR h rf gf (putA k v kvs) (stored l (SS k) V):=@λω=>@λψ=>@λχ=>@λϕ=>match ω,ψ,χ,ϕ with
 | [],l,J,e=>by rw [show l=[] from e];exact ⟨V,[],rfl,hk,hv,rfl⟩
 | (j,x)::r,l,hn,⟨w,lq,e,hj,hx,hq⟩=>by
  subst e
  rw [List.map_cons,List.nodup_cons] at hn
  simp only [putA]
  by_cases z:j=k
  ·subst z
   rw [if_pos rfl,stored_eq hn.1]
   exact ⟨V,lq,rfl,hk,hv,hq⟩
  ·rw [if_neg z,stored_ne λq=>z (SS_inj hj hk q)]
   exact ⟨w,_,rfl,hj,hx,KR.set hk hv hn.2 hq⟩
theorem setIO_inv {O:Option AO} {i v:AV} {pp:Nat} (p:match O,i with
  | some (.list xs),.int j=>aL (vcA C d) (decide (0<=j/\j<xs.length)) (Φ (σ.set pp (.list (xs.set j.toNat v))))
  | some (.sdict kvs),.str s=>aL (vcA C d) (decide (kvs.length<1000)) (Φ (σ.set pp (.sdict (putA s v kvs))))
  | J,ζ=>(vcA C d).fail):(∃xs j,O=some (.list xs)/\i=.int j/\(0<=j/\j<xs.length)/\Φ (σ.set pp (.list (xs.set j.toNat v))))\/∃kvs ss,O=some (.sdict kvs)/\i=.str ss/\kvs.length<1000/\Φ (σ.set pp (.sdict (putA ss v kvs))):=by
 rcases O with _ | O
 ·exact p.elim
 ·cases O<;>first | exact p.elim | skip
  ·cases i<;>first | exact p.elim | exact .inl ⟨_,_,rfl,rfl,odT (grd p).1,(grd p).2⟩
  ·cases i<;>first | exact p.elim | exact .inr ⟨_,_,rfl,rfl,odT (grd p).1,(grd p).2⟩
theorem setIK_inv {o i v:AV} (p:setIK (vcA C d) o i v σ Φ):∃pp,o=.ref pp/\((∃xs j,σ[pp]?=some (.list xs)/\i=.int j/\(0<=j/\j<xs.length)/\Φ (σ.set pp (.list (xs.set j.toNat v))))\/∃kvs ss,σ[pp]?=some (.sdict kvs)/\i=.str ss/\kvs.length<1000/\Φ (σ.set pp (.sdict (putA ss v kvs)))):=by
 cases o<;>first | exact p.elim | exact ⟨_,rfl,setIO_inv p⟩
include W
theorem p_setI (R:Rel C ρ σ s.heap) (L:Bas C s.heap) {o i v:AV} {O I V:Value} (ho:VR s.heap (ab ρ) C.gf o O) (hi:VR s.heap (ab ρ) C.gf i I) (hv:VR s.heap (ab ρ) C.gf v V)
  (p:setIK (vcA C d) o i v σ Φ) (k:ContU C ρ s Φ Q):wpAny (model C.prog C.w) A (setItem O I V) Q (λJ J=>False) s:=by
 obtain ⟨pp,rfl,w⟩:=setIK_inv p
 rcases w with ⟨xs,j,hp,rfl,⟨g1,g2⟩,w⟩ | ⟨kvs,ss,hp,rfl,g1,w⟩
 ·obtain ⟨u,rfl⟩:=hi
  obtain ⟨q,a,items,e,h1,h2,rfl,h3,h4,h5⟩:=own_at W R ho (xs:=xs) (own_i hp)
  cases e
  refine setList h3 g1 (bnd2 h5 ((Int.toNat_lt g1).mpr g2)) (h4.size▸g2) λh' hl sb=>?_
  have hvs:VRs h' (ab ρ) C.gf (xs.set j.toNat v) (items.setIfInBounds j.toNat V).toList:=by
   rw [Array.toList_setIfInBounds]
   refine (h4.set hv).mono (λJ J e=>e) (λb o e hc=>sb.extBut b o (λq=>?_) e) _
   obtain ⟨n,ho⟩:=h3
   rw [q,ho] at e;cases e;simp at hc
  obtain ⟨a1,a2,a3⟩:=step_set (tk:=s.toks) (o':=.list (xs.set j.toNat v)) W.box R L h1 h2 (Kp.of_same sb) ⟨a,_,rfl,hl,hvs,Nat.le_trans (Nat.le_of_eq List.length_set) h5⟩
  exact k _ ρ _ a1 a2 a3 w
 ·obtain ⟨ad,l,hr,rfl,hl,hkr,hz,hs⟩:=dict_at W R ho hp
  obtain ⟨hk,t,rfl⟩:=hi
  have hn:(l.map (λJ=>J.1)).Nodup:=let ⟨_,_,_,_,_,_,_,_,n⟩:=hl;n
  refine wpAny_setItem_pairs (knd:=strKind C.prog C.w) (k:=SS ss) (beq_self_eq_true _) hl (λh' hl' sb=>?_) (by rw [hkr.len,sizeLine_eq];omega)
  have hvs:KR h' (ab ρ) C.gf (putA ss v kvs) (stored l (SS ss) V):=by
   refine KR.mono (λJ J e=>e) (λb o e hc=>sb.extBut b o (λq=>?_) e) _ (KR.set hk hv hn hkr)
   obtain ⟨o',es,ep,ho',hx,_⟩:=hl
   rw [q,ho'] at e;cases e;rw [hx.1] at hc;simp at hc
  obtain ⟨a1,a2,a3⟩:=step_set (tk:=s.toks+1) (o':=.sdict (putA ss v kvs)) W.box R L hp hr (Kp.of_same sb) ⟨ad,_,rfl,hl',hvs,Nat.le_trans (putA_len ss v kvs) g1,hs⟩
  exact k _ ρ _ a1 a2 a3 w
set_option tactic.hygienic true in
theorem p_setA (R:Rel C ρ σ s.heap) (L:Bas C s.heap) {o v:AV} {O V:Value} {n:Nat} (ho:VR s.heap (ab ρ) C.gf o O) (hv:VR s.heap (ab ρ) C.gf v V)
  (p:setAK C.τ (vcA C d) o n v σ Φ) (k:ContU C ρ s Φ Q):wpAny (model C.prog C.w) A (setAttr O (NM n) V) Q (λJ J=>False) s:=by
 unfold setAK at p
 split at p
 ·split at p
  ·rename_i i _ c fs hi
   unfold aL at p
   split at p
   ·rename_i hg
    obtain ⟨g1,g2,g3,g4⟩:=odT hg
    obtain ⟨x,dx,es,m,hr,rfl,I,hd,hD,hz⟩:=inst_at W R ho hi
    have K:=W.cls c g2
    have hn:n<NN:=g3
    have hdx:dx∈ρ.flatten:=mem_flat hr (by simp)
    have ht:takerIn C.K (C.ca c) (NM n)=some none:=by unfold takerIn;rw [K.att n g3 g4];rfl
    refine set_plain (L.kin W) I K.sa ?_
    have I':InstAt s.heap x (instObj (C.ca c) dx) (C.ca c) (some (dictOf es m)):=I
    refine osa_upd W (s:={ s with toks:=s.toks+1 }) (L.kin W) I hd K.over ht K.hd hD.noRef (by rw [hD.len];omega) λh' es' n' sb hd' he=>?_
    subst he
    have hxd:x≠dx:=λq=>by
     have:=R.nd
     have h2:[x,dx].Nodup:=List.Sublist.nodup (List.sublist_flatten_of_mem (List.mem_of_getElem? hr)) this
     rw [q] at h2;simp at h2
    have hvs:DR h' (ab ρ) C.gf (putA n v fs) (putL (NM n) (PyData.keyHash C.w.params (NM n)) (.str (NM n) (s.toks+1)) V es):=by
     refine DR.mono (λJ J e=>e) (λb o e hc=>sb.extBut b o (λq=>?_) e) _ (DR.put hn hv _ _ hD)
     rw [q,hd] at e;cases e;simp at hc
    obtain ⟨a1,a2,a3⟩:=step_set (tk:=s.toks+1+1) (o':=.inst c (putA n v fs)) W.box R L hi hr (h':=h') (λb o e hb=>sb.extBut b o (λq=>hb (by simp [q])) e)
     ⟨x,dx,_,n',rfl,sb.extBut x _ hxd I.at_,hd',hvs,by have:=putA_len n v fs;omega⟩
    exact k _ ρ _ a1 a2 a3 p
   ·exact p.elim
  ·exact p.elim
 ·exact p.elim
end
section
variable {C:Cfg} (W:CfgOK C) {ρ:Ro} {σ:St} {s:Shared} {A:Around} {d:Nat} {Φ:AV->St->Prop} {Q:Value->Shared->Prop}
include W
theorem k_listAt (R:Rel C ρ σ s.heap) (L:Bas C s.heap) (k:aV C ρ s Φ Q) {xs:List AV} {items:Array Value} {n tk:Nat} {h':Heap} {D:Addr} (kp:∀b o,s.heap.get? b=some o->h'.get? b=some o)
  (hD:s.heap.get? D=none) (ho:h'.get? D=some { cls:=.type "list",data:=.seq items n }) (hvs:VRs s.heap (ab ρ) C.gf xs items.toList) (hz:xs.length<=SZ) (p:newK (.list xs) σ Φ):
  Q (.ref D) { s with heap:=h',toks:=tk }:=by
 have st:=step_new (tk:=tk) (o:=.list xs) (as:=[D]) W.box R L kp (by simp) (λa ha=>by rw [List.mem_singleton.mp ha];exact hD)
  ⟨_,items,rfl,⟨n,ho⟩,hvs.mono (rfOf_append ρ _) (λa o e J=>kp a o e) _,hz⟩
 refine k _ _ _ (.ref σ.length) _ st.1 st.2.1 st.2.2 ⟨D,?_,rfl⟩ p
 unfold ab;rw [<-R.len,List.getElem?_append_right (Nat.le_refl _)];simp
omit W in
theorem bools_of {h:Heap} {rf gf:Rf}:∀{xs:List AV} {vs:List Value} {bs:List Bool},VRs h rf gf xs vs->boolsOf xs=some bs->LSm.BoolsAre vs bs:=@λω=>@λψ=>@λχ=>@λϕ=>@λϱ=>match ω,ψ,χ,ϕ,ϱ with
 | [],J,ζ,e,h=>by rw [e];simp [boolsOf] at h;rw [h];exact .nil
 | x::xs,J,bs,⟨v,r,e,hv,hr⟩,h=>by
  cases x with
  | bool b=>
   simp only [boolsOf,Option.map_eq_some_iff] at h
   obtain ⟨q,h1,rfl⟩:=h
   subst e;cases hv
   exact .cons b (bools_of hr h1)
  | _=>simp [boolsOf] at h
noncomputable def bltF:Nat->Value:=λω=>match ω with
 | 0=>.builtin "len"
 | 1=>.type "int"
 | 2=>.builtin "any"
 | 3=>.builtin "sorted"
 | 4=>.type "list"
 | 5=>.builtin "isinstance"
 | J=>.builtin "max"
theorem p_len (R:Rel C ρ σ s.heap) (L:Bas C s.heap) {o:AV} {O:Value} {xs:List AV} (ho:VR s.heap (ab ρ) C.gf o O) (e:aT C.τ σ o=some xs)
  (p:Φ (.int xs.length) σ) (k:aV C ρ s Φ Q):wpAny (model C.prog C.w) A (call (.builtin "len") [O]) Q (λJ J=>False) s:=by
 obtain ⟨l,items,rfl,hl,hvs,hz⟩:=list_at W R L ho e
 have:=hvs.size
 unfold SZ at hz
 refine call_len_list hl (by omega) ?_
 rw [hvs.size]
 exact k_int W R L k _ p
theorem p_any (hA:OKA A d) (R:Rel C ρ σ s.heap) (L:Bas C s.heap) {o:AV} {O:Value} {bs:List Bool} (ho:VR s.heap (ab ρ) C.gf o O) (e:(aT C.τ σ o).bind boolsOf=some bs)
  (p:Φ (.bool (bs.any id)) σ) (k:aV C ρ s Φ Q):wpAny (model C.prog C.w) A (call (.builtin "any") [O]) Q (λJ J=>False) s:=by
 obtain ⟨xs,e1,e2⟩:=Option.bind_eq_some_iff.mp e
 obtain ⟨l,items,rfl,hl,hvs,hz⟩:=list_at W R L ho e1
 have hb:=bools_of hvs e2
 have hlt:l<s.heap.objs.size:=by obtain ⟨_,e,_⟩:=hl;exact Heap.lt_size e
 refine call_any_walk (wpAny_pyIter_list hl ?_)
 refine ⟨s.heap.objs.size,[s.heap.objs.size,l],[s.heap.objs.size],items.size,_,_,λi=>(bs[i]?).getD false,rfl,Walks.list (A:=A.in1) hA.hd _ l (Nat.ne_of_lt hlt) items,
  ⟨⟨_,Heap.get?_push_size _ rfl,rfl,rfl⟩,hl.push _⟩,λi v s' Q' E' hP hQ=>?_,λh' tk hk=>?_⟩
 ·obtain ⟨b,e,rfl⟩:=hb.get i v (by rw [Array.getElem?_toList];exact hP)
  simp only [e,Option.getD_some] at hQ
  exact wpAny_truthy_bool hQ
 ·have e3:((List.range items.size).any λi=>(bs[i]?).getD false)=bs.any id:=by
   have:items.size=bs.length:=by rw [<-Array.length_toList];exact hb.length
   rw [this];exact LSm.range_any bs
  rw [e3]
  exact aV.here W.box k R L (v:=.bool (bs.any id)) (LSm.kept_iter hk) rfl p
theorem p_list (R:Rel C ρ σ s.heap) (L:Bas C s.heap) {a:Addr} {xs:List AV} {T:String} (hT:T="list"\/T="tuple") {items:Array Value} (ho:∃o,s.heap.get? a=some o/\o.cls=.type T/\∃n,o.data=.seq items n) (hvs:VRs s.heap (ab ρ) C.gf xs items.toList)
  (hz:xs.length<=SZ) (p:newK (.list xs) σ Φ) (k:aV C ρ s Φ Q):wpAny (model C.prog C.w) A (call (.type "list") [.ref a]) Q (λJ J=>False) s:=by
 obtain ⟨o,h1,h2,n,h3⟩:=ho
 have:=hvs.size
 have:=SZ_le
 refine call_list_seq a hT h1 h2 h3 (λh' c' kp ho'=>?_) (by omega)
 exact k_listAt W R L k (tk:=s.toks) kp (Heap.get?_none_of_le (Nat.le_refl _)) ho' hvs hz p
omit W in
theorem isb_int {K:Frag}:kitOne K (.type "int") (.type "bool")=some false:=rfl
omit W in
theorem isb_str {K:Frag}:kitOne K (.type "str") (.type "bool")=some false:=rfl
omit W in
theorem isb_tup {K:Frag}:kitOne K (.type "tuple") (.type "bool")=some false:=rfl
omit W in
theorem isb_none {K:Frag}:kitOne K (.type "NoneType") (.type "bool")=some false:=rfl
theorem p_isb (R:Rel C ρ σ s.heap) (L:Bas C s.heap) {v:AV} {V:Value} (hv:VR s.heap (ab ρ) C.gf v V)
  (p:bltK C.τ (vcA C d) 5 [v] σ Φ) (k:aV C ρ s Φ Q):wpAny (model C.prog C.w) A (call (.builtin "isinstance") [V,.type "bool"]) Q (λJ J=>False) s:=by
 cases v with
 | none=>cases hv;exact kia_one kitx_none (L.kin W) trivial (b:=false) (by rw [isb_none]) (by simp) λtk=>k_bool W R L k false p
 | bool b=>cases hv;exact kia_one kitx_bool (L.kin W) trivial rfl (by simp) λtk=>k_bool W R L k true p
 | int i=>obtain ⟨t,rfl⟩:=hv;exact kia_one kitx_int (L.kin W) trivial (b:=false) (by rw [isb_int]) (by simp) λtk=>k_bool W R L k false p
 | str i=>obtain ⟨_,t,rfl⟩:=hv;exact kia_one kitx_str (L.kin W) trivial (b:=false) (by rw [isb_str]) (by simp) λtk=>k_bool W R L k false p
 | tup xs=>obtain ⟨a,items,rfl,⟨o,h1,h2,_⟩,_⟩:=hv;exact kia_one kitx_tuple (L.kin W) ⟨o,h1,h2⟩ (b:=false) (by rw [isb_tup]) (by simp) λtk=>k_bool W R L k false p
 | ref i=>exact p.elim
 | gl i=>exact p.elim
theorem k_setL (R:Rel C ρ σ s.heap) (L:Bas C s.heap) (k:aV C ρ s Φ Q) {i:Nat} {a:Addr} {xs ys:List AV} {items items':Array Value} {h':Heap} {tk:Nat} {v:AV} {V:Value}
  (h1:σ[i]?=some (.list xs)) (h2:ρ[i]?=some [a]) (hl:s.heap.PlainList a items) (sb:Heap.SameBut a s.heap h') (hl':h'.PlainList a items') (hvs:VRs s.heap (ab ρ) C.gf ys items'.toList)
  (hz:ys.length<=SZ) (hv:VR s.heap (ab ρ) C.gf v V) (p:Φ v (σ.set i (.list ys))):Q V { s with heap:=h',toks:=tk }:=by
 have ht:∀b o,s.heap.get? b=some o->(o.cls=.type "tuple"/\∃xs n,o.data=.seq xs n)->h'.get? b=some o:=λb o e hc=>sb.extBut b o (λq=>by
  obtain ⟨n,ho⟩:=hl
  rw [q,ho] at e;cases e;simp at hc) e
 obtain ⟨a1,a2,a3⟩:=step_set (tk:=tk) (o':=.list ys) W.box R L h1 h2 (Kp.of_same sb) ⟨a,_,rfl,hl',hvs.mono (λJ J e=>e) ht _,hz⟩
 exact k _ _ _ v _ a1 a2 a3 (hv.mono (λJ J e=>e) ht v) p
theorem p_append (R:Rel C ρ σ s.heap) (L:Bas C s.heap) (k:aV C ρ s Φ Q) {i:Nat} {v:AV} {O V:Value} {xs:List AV} (ho:VR s.heap (ab ρ) C.gf (.ref i) O) (hv:VR s.heap (ab ρ) C.gf v V) (hi:σ[i]?=some (.list xs))
  (hz:xs.length<SZ) (p:Φ .none (σ.set i (.list (xs++[v])))):wpAny (model C.prog C.w) A (call (.builtin "list.append") [O,V]) Q (λJ J=>False) s:=by
 obtain ⟨q,a,items,e,h1,h2,rfl,h3,h4,h5⟩:=own_at W R ho (xs:=xs) (own_i hi)
 cases e
 have:=h4.size
 have:=SZ_le
 refine wpAny_list_append_plain h3 (λh' hl sb=>?_) (by omega)
 refine k_setL W R L k (v:=.none) (tk:=s.toks) h1 h2 h3 sb hl ?_ (by simp;omega) rfl p
 rw [Array.toList_push];exact h4.append ⟨V,[],rfl,hv,rfl⟩
theorem p_extend (R:Rel C ρ σ s.heap) (L:Bas C s.heap) (k:aV C ρ s Φ Q) {i:Nat} {b:Addr} {O:Value} {xs ys:List AV} {items2:Array Value} (ho:VR s.heap (ab ρ) C.gf (.ref i) O) (hi:σ[i]?=some (.list xs))
  (hb:(∃n,s.heap.get? b=some { cls:=.type "list",data:=.seq items2 n })\/(∃n,s.heap.get? b=some { cls:=.type "tuple",dict:=none,data:=.seq items2 n,slots:=#[] }))
  (hvs:VRs s.heap (ab ρ) C.gf ys items2.toList) (hz:xs.length+ys.length<=SZ) (p:Φ .none (σ.set i (.list (xs++ys)))):wpAny (model C.prog C.w) A (call (.builtin "list.extend") [O,.ref b]) Q (λJ J=>False) s:=by
 obtain ⟨q,a,items,e,h1,h2,rfl,⟨n,h3⟩,h4,h5⟩:=own_at W R ho (xs:=xs) (own_i hi)
 cases e
 have e1:=h4.size
 have e2:=hvs.size
 have hS:=SZ_le
 have hT:s.TypeIs (.ref a) "list":=⟨_,h3,rfl⟩
 have long:¬(!items.isEmpty&&Builtin.List.listTooLong (items.size+items2.size))=true:=by
  have:Builtin.List.listTooLong (items.size+items2.size)=false:=by
   unfold Builtin.List.listTooLong
   rw [e1,e2]
   exact decide_eq_false (by omega)
  rw [this];simp
 have fin:∀tk,Q .none { s with heap:=s.heap.update a (Obj.mapSeq λx=>x++items2),toks:=tk }:=λtk=>by
  refine k_setL W R L k (v:=.none) h1 h2 ⟨n,h3⟩ (Heap.SameBut.update ..) ⟨_,get?_update_seq (c:="list") h3 (λJ=>J++items2)⟩ (ys:=xs++ys) ?_ (by simpa using hz) rfl p
  rw [Array.toList_append];exact h4.append hvs
 rcases hb with ⟨n2,hb⟩ | ⟨n2,hb⟩
 ·exact call_meets PySem.F.slot_list_extend hT PySem.F.entry_list_extend (PySem.F.args_list_extend_2 _ _) (AutoSeq1.list_extend_list_list_0 a items n b items2 n2 long (by omega) (by omega)) ⟨h3,hb,fin _⟩
 ·exact call_meets PySem.F.slot_list_extend hT PySem.F.entry_list_extend (PySem.F.args_list_extend_2 _ _) (AutoSeq1.list_extend_list_tuple_0 a items n b items2 n2 long (by omega) (by omega)) ⟨h3,hb,fin _⟩
theorem p_pop (R:Rel C ρ σ s.heap) (L:Bas C s.heap) (k:aV C ρ s Φ Q) {i:Nat} {v:AV} {O:Value} {xs:List AV} (ho:VR s.heap (ab ρ) C.gf (.ref i) O) (hi:σ[i]?=some (.list xs)) (hl:xs.getLast?=some v)
  (p:Φ v (σ.set i (.list xs.dropLast))):wpAny (model C.prog C.w) A (call (.builtin "list.pop") [O]) Q (λJ J=>False) s:=by
 obtain ⟨q,a,items,e,h1,h2,rfl,⟨n,h3⟩,h4,h5⟩:=own_at W R ho (xs:=xs) (own_i hi)
 cases e
 have e1:=h4.size
 have hS:=SZ_le
 have hT:s.TypeIs (.ref a) "list":=⟨_,h3,rfl⟩
 rw [List.getLast?_eq_getElem?] at hl
 obtain ⟨V,g1,g2⟩:=h4.get hl
 have g3:items[items.size-1]?=some V:=by rw [e1,<-Array.getElem?_toList];exact g1
 refine call_meets PySem.F.slot_list_pop hT PySem.F.entry_list_pop (PySem.F.args_list_pop_1 _) (MeetsSeq.list_pop_last a items n V g3 (by omega)) ⟨h3,?_⟩
 refine k_setL W R L k (v:=v) (tk:=s.toks) h1 h2 ⟨n,h3⟩ (Heap.SameBut.update ..) ⟨_,get?_update_seq (c:="list") h3 (λx=>x.eraseIdxIfInBounds (items.size-1))⟩ (ys:=xs.dropLast) ?_ (by simp;omega) g2 p
 have hlt:items.size-1<items.size:=(Array.getElem?_eq_some_iff.mp g3).1
 have e3:(items.eraseIdxIfInBounds (items.size-1)).toList=items.toList.take (xs.length-1):=by
  rw [Array.eraseIdxIfInBounds,dif_pos hlt,Array.toList_eraseIdx,<-Array.length_toList,List.eraseIdx_length_sub_one,List.dropLast_eq_take,Array.length_toList,e1]
 rw [e3,List.dropLast_eq_take];exact h4.take _
theorem p_pop0 (R:Rel C ρ σ s.heap) (L:Bas C s.heap) (k:aV C ρ s Φ Q) {i:Nat} {v:AV} {O:Value} {xs:List AV} {t:Tok} (ho:VR s.heap (ab ρ) C.gf (.ref i) O) (hi:σ[i]?=some (.list (v::xs)))
  (p:Φ v (σ.set i (.list xs))):wpAny (model C.prog C.w) A (call (.builtin "list.pop") [O,.int 0 t]) Q (λJ J=>False) s:=by
 obtain ⟨q,a,items,e,h1,h2,rfl,⟨n,h3⟩,h4,h5⟩:=own_at W R ho (xs:=v::xs) (own_i hi)
 cases e
 have e1:=h4.size
 have hS:=SZ_le
 have hT:s.TypeIs (.ref a) "list":=⟨_,h3,rfl⟩
 have hg:(v::xs)[0]?=some v:=rfl
 obtain ⟨V,g1,g2⟩:=h4.get hg
 have g3:items[0]?=some V:=by rw [<-Array.getElem?_toList];exact g1
 have hlt:0<items.size:=(Array.getElem?_eq_some_iff.mp g3).1
 have hk:seqIndex? 0 items.size=some 0:=by simp [seqIndex?,hlt]
 refine call_meets PySem.F.slot_list_pop hT PySem.F.entry_list_pop (PySem.F.args_list_pop_2 _ _) (MeetsSeq.list_pop_at a items n 0 t 0 V (by decide) hk g3 (by omega)) ⟨h3,?_⟩
 refine k_setL W R L k (v:=v) (tk:=s.toks) h1 h2 ⟨n,h3⟩ (Heap.SameBut.update ..) ⟨_,get?_update_seq (c:="list") h3 (λx=>x.eraseIdxIfInBounds 0)⟩ (ys:=xs) ?_ (by simp at h5;omega) g2 p
 have e3:(items.eraseIdxIfInBounds 0).toList=items.toList.drop 1:=by
  rw [Array.eraseIdxIfInBounds,dif_pos hlt,Array.toList_eraseIdx,List.eraseIdx_zero,List.drop_one]
 rw [e3];exact h4.drop 1
theorem p_max (hA:OKA A d) (R:Rel C ρ σ s.heap) (L:Bas C s.heap) (k:aV C ρ s Φ Q) {x y:Int} {t u:Tok} (p:Φ (.int (if x<y then y else x)) σ):
  wpAny (model C.prog C.w) A (call (.builtin "max") [.int x t,.int y u]) Q (λJ J=>False) s:=by
 refine max_two_ints hA.hd λh' tk hk=>?_
 by_cases c:y > x
 ·rw [if_pos c]
  rw [if_pos c] at p
  exact aV.here W.box k R L (v:=.int y) hk ⟨_,rfl⟩ p
 ·rw [if_neg c]
  rw [if_neg c] at p
  exact aV.here W.box k R L (v:=.int x) hk ⟨_,rfl⟩ p
set_option tactic.hygienic true in
theorem p_get (R:Rel C ρ σ s.heap) (L:Bas C s.heap) (k:aV C ρ s Φ Q) {i ss:Nat} {O:Value} {D:Value} {dv:AV} {kvs:List (Nat×AV)} {t:Tok} (ho:VR s.heap (ab ρ) C.gf (.ref i) O) (hi:σ[i]?=some (.sdict kvs)) (hs:ss<NS)
  (hd:VR s.heap (ab ρ) C.gf dv D) (p:Φ ((lookA ss kvs).getD dv) σ):wpAny (model C.prog C.w) A (call (.builtin "dict.get") [O,.str (SS ss) t,D]) Q (λJ J=>False) s:=by
 obtain ⟨ad,l,hr,rfl,hl,hkr,hz,hsy⟩:=dict_at W R ho hi
 have hlk:=KR.look hs hkr
 refine call_meetsIn PySem.F.slot_dict_get hl.typeIs PySem.F.entry_dict_get (PySem.F.args_dict_get_3 _ _ _) (meets_dict_get_default (strKind C.prog C.w) ad (k:=SS ss) (by show (_==_)=true;simp) hsy D) ⟨_,hl.mapOf,?_⟩
 split at hlk
 ·rename_i x hx
  obtain ⟨V,h1,h2⟩:=hlk
  rw [hx] at p
  rw [h1]
  exact aW W R L k x h2 p
 ·rename_i hx
  rw [hx] at p
  rw [hlk]
  exact aW W R L k dv hd p
set_option tactic.hygienic true in
theorem p_get1 (R:Rel C ρ σ s.heap) (L:Bas C s.heap) (k:aV C ρ s Φ Q) {i ss:Nat} {O:Value} {kvs:List (Nat×AV)} {t:Tok} (ho:VR s.heap (ab ρ) C.gf (.ref i) O) (hi:σ[i]?=some (.sdict kvs)) (hs:ss<NS)
  (p:Φ ((lookA ss kvs).getD .none) σ):wpAny (model C.prog C.w) A (call (.builtin "dict.get") [O,.str (SS ss) t]) Q (λJ J=>False) s:=by
 obtain ⟨ad,l,hr,rfl,hl,hkr,hz,hsy⟩:=dict_at W R ho hi
 have hlk:=KR.look hs hkr
 refine call_meetsIn PySem.F.slot_dict_get hl.typeIs PySem.F.entry_dict_get (PySem.F.args_dict_get_2 _ _) (meets_dict_get (strKind C.prog C.w) ad (k:=SS ss) (by show (_==_)=true;simp) hsy) ⟨_,hl.mapOf,?_⟩
 split at hlk
 ·rename_i x hx
  obtain ⟨V,h1,h2⟩:=hlk
  rw [hx] at p
  rw [h1]
  exact aW W R L k x h2 p
 ·rename_i hx
  rw [hx] at p
  rw [hlk]
  exact aW W R L k .none rfl p
end
theorem insertN_perm (x:Nat):∀l,(insertN x l).Perm (x::l):=λω=>match ω with
 | []=>.refl _
 | y::ys=>by
  simp only [insertN]
  split
  ·exact .refl _
  ·exact ((insertN_perm x ys).cons y).trans (.swap ..)
theorem insertN_sorted (x:Nat):∀l:List Nat,l.Pairwise (λJ ζ=>J<=ζ)->(insertN x l).Pairwise (λJ ζ=>J<=ζ):=λω ψ=>match ω,ψ with
 | [],J=>List.pairwise_singleton ..
 | y::ys,h=>by
  simp only [insertN]
  have h':=List.pairwise_cons.mp h
  split
  ·rename_i q
   exact List.pairwise_cons.mpr ⟨λz hz=>by rcases List.mem_cons.mp hz with e | e;exact e▸q;exact Nat.le_trans q (h'.1 z e),h⟩
  ·rename_i q
   refine List.pairwise_cons.mpr ⟨λz hz=>?_,insertN_sorted x ys h'.2⟩
   rcases List.mem_cons.mp ((insertN_perm x ys).mem_iff.mp hz) with e | e
   ·omega
   ·exact h'.1 z e
theorem sortN_perm:∀l,(aD l).Perm l:=λω=>match ω with
 | []=>.refl _
 | x::l=>(insertN_perm x _).trans ((sortN_perm l).cons x)
theorem sortN_sorted:∀l,(aD l).Pairwise (λJ ζ=>J<=ζ):=λω=>match ω with
 | []=>.nil
 | x::l=>insertN_sorted x _ (sortN_sorted l)
theorem insertI_perm (x:Int):∀l,(insertI x l).Perm (x::l):=λω=>match ω with
 | []=>.refl _
 | y::ys=>by
  simp only [insertI]
  split
  ·exact .refl _
  ·exact ((insertI_perm x ys).cons y).trans (.swap ..)
theorem insertI_sorted (x:Int):∀l:List Int,l.Pairwise (λJ ζ=>J<=ζ)->(insertI x l).Pairwise (λJ ζ=>J<=ζ):=λω ψ=>match ω,ψ with
 | [],J=>List.pairwise_singleton ..
 | y::ys,h=>by
  simp only [insertI]
  have h':=List.pairwise_cons.mp h
  split
  ·rename_i q
   exact List.pairwise_cons.mpr ⟨λz hz=>by rcases List.mem_cons.mp hz with e | e;exact e▸q;exact Int.le_trans q (h'.1 z e),h⟩
  ·rename_i q
   refine List.pairwise_cons.mpr ⟨λz hz=>?_,insertI_sorted x ys h'.2⟩
   rcases List.mem_cons.mp ((insertI_perm x ys).mem_iff.mp hz) with e | e
   ·omega
   ·exact h'.1 z e
theorem sortI_perm:∀l,(sortI l).Perm l:=λω=>match ω with
 | []=>.refl _
 | x::l=>(insertI_perm x _).trans ((sortI_perm l).cons x)
theorem sortI_sorted:∀l,(sortI l).Pairwise (λJ ζ=>J<=ζ):=λω=>match ω with
 | []=>.nil
 | x::l=>insertI_sorted x _ (sortI_sorted l)
theorem one_sorted {α:Type} {r:α->α->Prop}:∀{l₁ l₂:List α},(∀a∈l₁,∀b∈l₁,r a b->r b a->a=b)->l₁.Perm l₂->l₁.Pairwise r->l₂.Pairwise r->l₁=l₂:=@λω=>@λψ=>@λχ=>@λϕ=>@λϱ=>@λς=>match ω,ψ,χ,ϕ,ϱ,ς with
 | [],l₂,J,p,ζ,η=>by rw [List.nil_perm.mp p]
 | a::l₁,[],J,p,ζ,η=>absurd p.length_eq (by simp)
 | a::l₁,b::l₂,anti,p,h1,h2=>by
  have h1':=List.pairwise_cons.mp h1
  have h2':=List.pairwise_cons.mp h2
  have hab:a=b:=by
   rcases List.mem_cons.mp (p.mem_iff.mp (List.mem_cons_self ..)) with e | e
   ·exact e
   ·have hb:=p.mem_iff.mpr (List.mem_cons_self (a:=b) (l:=l₂))
    rcases List.mem_cons.mp hb with e' | e'
    ·exact e'.symm
    ·exact anti a (List.mem_cons_self ..) b (List.mem_cons_of_mem _ e') (h1'.1 b e') (h2'.1 a e)
  subst hab
  rw [one_sorted (λx hx y hy=>anti x (List.mem_cons_of_mem _ hx) y (List.mem_cons_of_mem _ hy)) (List.Perm.cons_inv p) h1'.2 h2'.2]
open Classical in
noncomputable def numOfS (x:Str):Nat:=if h:∃k,k<NS/\SS k=x then h.choose else 0
theorem numOfS_SS {k:Nat} (h:k<NS):numOfS (SS k)=k:=by
 have hx:∃j,j<NS/\SS j=SS k:=⟨k,h,rfl⟩
 unfold numOfS
 rw [dif_pos hx]
 exact SS_inj hx.choose_spec.1 h hx.choose_spec.2
theorem rising_le:∀(k:Nat) (ks:List Nat),k<NS->(∀x∈ks,x<NS)->risingS (SS k) (ks.map SS)=true->(k::ks).Pairwise (λJ ζ=>J<=ζ):=λω ψ χ ϕ ϱ=>match ω,ψ,χ,ϕ,ϱ with
 | k,[],J,ζ,η=>List.pairwise_singleton ..
 | k,p::r,hk,hr,h=>by
  have h':(!PySem.Spec.ltCps (SS p).cps.toList (SS k).cps.toList&&risingS (SS p) (r.map SS))=true:=h
  rw [Bool.and_eq_true,ltCps_eq] at h'
  have hp:=hr p (List.mem_cons_self ..)
  have ih:=rising_le p r hp (λx hx=>hr x (List.mem_cons_of_mem _ hx)) h'.2
  have hkp:k<=p:=by
   rcases Nat.lt_or_ge p k with q | q
   ·have:=SL_lt' q hk
    have h2:=h'.1
    simp only [Bool.not_eq_true',decide_eq_false_iff_not] at h2
    exact absurd this h2
   ·exact q
  refine List.pairwise_cons.mpr ⟨λz hz=>?_,ih⟩
  rcases List.mem_cons.mp hz with e | e
  ·rw [e];exact hkp
  ·exact Nat.le_trans hkp ((List.pairwise_cons.mp ih).1 z e)
theorem strs_sorted {ks:List Nat} (hk:∀k∈ks,k<NS) {ss':List Str} (hp:ss'.Perm (ks.map SS)) (hs:sortedS ss'=true):ss'=(aD ks).map SS:=by
 have hmem:∀x∈ss',∃k,k<NS/\SS k=x:=λx hx=>by
  obtain ⟨k,h1,h2⟩:=List.mem_map.mp (hp.mem_iff.mp hx)
  exact ⟨k,hk k h1,h2⟩
 have e:ss'=(ss'.map numOfS).map SS:=by
  rw [List.map_map]
  have:∀x∈ss',(SS∘numOfS) x=x:=λx hx=>by
   obtain ⟨k,h1,rfl⟩:=hmem x hx
   show SS (numOfS (SS k))=_
   rw [numOfS_SS h1]
  rw [List.map_congr_left this];simp
 have hp':(ss'.map numOfS).Perm ks:=by
  have:=hp.map numOfS
  rw [List.map_map] at this
  have e2:ks.map (numOfS∘SS)=ks:=by
   have:∀k∈ks,(numOfS∘SS) k=k:=λk h=>numOfS_SS (hk k h)
   rw [List.map_congr_left this];simp
  rwa [e2] at this
 have hlt:∀x∈ss'.map numOfS,x<NS:=λx hx=>hk x (hp'.mem_iff.mp hx)
 have hs':(ss'.map numOfS).Pairwise (λJ ζ=>J<=ζ):=by
  rw [e] at hs
  cases hc:ss'.map numOfS with
  | nil=>exact .nil
  | cons k r=>
   rw [hc] at hs hlt
   exact rising_le k r (hlt k (List.mem_cons_self ..)) (λx hx=>hlt x (List.mem_cons_of_mem _ hx)) hs
 have:ss'.map numOfS=aD ks:=one_sorted (λa J b J h1 h2=>Nat.le_antisymm h1 h2) (hp'.trans (sortN_perm ks).symm) hs' (sortN_sorted ks)
 rw [<-this];exact e
section
variable {prog:Program} {w:World} {A:Around} {E:Value->Shared->Prop} {s:Shared} {Q:Value->Shared->Prop}
theorem sorted_from {x:Value} {P:List Value->Prop} {Out:Array Value->Prop} (h1:∀vs,P vs->vs.length<=sizeLine)
  (hc:∀(R:List Value->Shared->Prop),(∀vs h' tk,P vs->(∀b o,s.heap.get? b=some o->h'.get? b=some o)->R vs { s with heap:=h',toks:=tk })->wpAny (model prog w) A.in1 (collect x) R E s)
  (hsrt:∀(A:Around) (vs:List Value) (a:Addr) (n:Nat) (s':Shared),P vs->s'.heap.get? a=some (seqObj "list" vs.toArray n)->∀Pp:Fin->Shared->Prop,(∀out,Out out->Pp (.done (.ret .none)) { s' with heap:=sortedHeap s'.heap a vs out }) ->
   wpAny (model prog w) A (Builtin.«list.sort» ⟨[.ref a],[]⟩) Pp E s')
  (fin:∀D h' tk out n,(∀b o,s.heap.get? b=some o->h'.get? b=some o)->s.heap.get? D=none->h'.get? D=some (seqObj "list" out n)->Out out->Q (.ref D) { s with heap:=h',toks:=tk }):
  wpAny (model prog w) A (call (.builtin "sorted") [x]) Q E s:=by
 refine Calls.call_function_entry kind_sorted plain_sorted entry_sorted (args_sorted1 _) ?_
 unfold Builtin.«sorted»
 refine wpAny_bind (m:=checkCount "sorted" 1 1 _) (wpAny_pure ?_)
 refine wpAny_bind (hc _ λvs h' tk hP kp=>?_)
 refine wpAny_bind (wpAny_newList ?_ (h1 vs hP))
 have hoL:(h'.push (seqObj "list" vs.toArray 0)).get? h'.objs.size=some (seqObj "list" vs.toArray 0):=Heap.get?_push_size _ rfl
 show wpAny _ _ _ _ _ { s with heap:=h'.push (seqObj "list" vs.toArray 0),toks:=tk }
 refine wpAny_bind (wpAny_holding (wpAny_call_entry slot_list_sort ⟨_,hoL,rfl⟩ entry_list_sort (hsrt _ vs _ _ _ hP hoL _ λout ho=>⟨_,rfl,?_⟩) (args_list_sort _)))
 obtain ⟨e,he⟩:=sortedHeap_at (out:=out) hoL
 refine wpAny_pure ⟨_,rfl,fin _ _ tk out e (λb o q=>?_) ?_ he ho⟩
 ·have q':=kp b o q
  have hlt:b<h'.objs.size:=Heap.lt_size q'
  rw [sortedHeap_old (Nat.ne_of_lt hlt) (by rw [Heap.size_push];exact Nat.lt_succ_of_lt hlt)]
  exact Heap.get?_push_of_some _ q'
 ·cases hq:s.heap.get? h'.objs.size with
  | none=>rfl
  | some o=>exact absurd (Heap.lt_size (kp _ _ hq)) (Nat.lt_irrefl _)
end
section
variable {h:Heap} {rf gf:Rf}
theorem strs_of:∀{xs:List AV} {vs:List Value} {ks:List Nat},VRs h rf gf xs vs->strsOf xs=some ks->StrsAre vs (ks.map SS)/\(∀k∈ks,k<NS)/\ks.length=xs.length:=@λω=>@λψ=>@λχ=>@λϕ=>@λϱ=>match ω,ψ,χ,ϕ,ϱ with
 | [],vs,ks,e,q=>by rw [show vs=[] from e];simp [strsOf] at q;subst q;exact ⟨.nil,by simp,rfl⟩
 | x::xs,vs,ks,⟨v,r,e,hv,hr⟩,q=>by
  cases x with
  | str k=>
   simp only [strsOf,Option.map_eq_some_iff] at q
   obtain ⟨l,h1,rfl⟩:=q
   obtain ⟨h2,h3,h4⟩:=strs_of hr h1
   obtain ⟨hk,t,rfl⟩:=hv
   subst e
   exact ⟨.cons _ _ h2,λz hz=>by rcases List.mem_cons.mp hz with e | e;exact e▸hk;exact h3 z e,by simp [h4]⟩
  | _=>simp [strsOf] at q
theorem vrs_strs:∀{ks:List Nat} {vs:List Value},(∀k∈ks,k<NS)->StrsAre vs (ks.map SS)->VRs h rf gf (ks.map AV.str) vs:=@λω=>@λψ=>@λχ=>@λϕ=>match ω,ψ,χ,ϕ with
 | [],vs,J,q=>by cases q;rfl
 | k::ks,vs,hk,q=>by
  rw [List.map_cons] at q
  cases q with
  | cons y t q=>exact ⟨_,_,rfl,⟨hk k (List.mem_cons_self ..),t,rfl⟩,vrs_strs (λz hz=>hk z (List.mem_cons_of_mem _ hz)) q⟩
theorem vrs_ints:∀{ks:List Int} {vs:List Value},IntsAre vs ks->VRs h rf gf (ks.map AV.int) vs:=@λω=>@λψ=>@λχ=>match ω,ψ,χ with
 | _,_,.nil=>rfl
 | _,_,.cons n t q=>⟨_,_,rfl,⟨t,rfl⟩,vrs_ints q⟩
theorem KR.keys:∀{kvs:List (Nat×AV)} {l:List (Str×Value)},KR h rf gf kvs l->l.map (λJ=>J.1)=(kvs.map (λJ=>J.1)).map SS/\∀k∈kvs.map (λJ=>J.1),k<NS:=@λω=>@λψ=>@λχ=>match ω,ψ,χ with
 | [],l,e=>by rw [show l=[] from e];simp
 | (j,x)::r,l,⟨v,q,e,hj,hv,hq⟩=>by
  subst e
  obtain ⟨h1,h2⟩:=KR.keys hq
  exact ⟨by simp only [List.map_cons,h1],λk hk=>by rcases List.mem_cons.mp hk with e | e;exact e▸hj;exact h2 k e⟩
theorem IR.keys:∀{kvs:List (Int×AV)} {l:List (Int×Value)},IR h rf gf kvs l->l.map (λJ=>J.1)=kvs.map (λJ=>J.1):=@λω=>@λψ=>@λχ=>match ω,ψ,χ with
 | [],l,e=>by rw [show l=[] from e];rfl
 | (j,x)::r,l,⟨v,q,e,hv,hq⟩=>by subst e;simp only [List.map_cons,IR.keys hq]
end
theorem keys_strs {prog w} {l:List (Str×Value)}:∀{vs:List Value},vs.length=l.length->(∀(j:Nat) (v:Value),vs[j]?=some v->∃(k:Str) (x:Value),l[j]?=some (k,x)/\(strKind prog w).is k v=true)->StrsAre vs (l.map (λJ=>J.1)):=by
 induction l with
 | nil=>intro vs h _;rw [List.length_eq_zero_iff.mp h];exact .nil
 | cons a l ih=>
  intro vs h hv
  cases vs with
  | nil=>simp at h
  | cons v vs=>
   obtain ⟨k,x,e1,e2⟩:=hv 0 v rfl
   simp at e1
   obtain ⟨t,rfl⟩:=Value.isStrOf_shape e2
   rw [List.map_cons,e1]
   exact .cons k t (ih (by simpa using h) λj v hj=>by simpa using hv (j+1) v (by simpa using hj))
theorem keys_ints {prog w} {l:List (Int×Value)}:∀{vs:List Value},vs.length=l.length->(∀(j:Nat) (v:Value),vs[j]?=some v->∃(k:Int) (x:Value),l[j]?=some (k,x)/\(intKind prog w).is k v=true)->IntsAre vs (l.map (λJ=>J.1)):=by
 induction l with
 | nil=>intro vs h _;rw [List.length_eq_zero_iff.mp h];exact .nil
 | cons a l ih=>
  intro vs h hv
  cases vs with
  | nil=>simp at h
  | cons v vs=>
   obtain ⟨k,x,e1,e2⟩:=hv 0 v rfl
   simp at e1
   obtain ⟨t,rfl⟩:=Value.isInt_shape e2
   rw [List.map_cons,e1]
   exact .cons k t (ih (by simpa using h) λj v hj=>by simpa using hv (j+1) v (by simpa using hj))
section
variable {C:Cfg} (W:CfgOK C) {ρ:Ro} {σ:St} {s:Shared} {A:Around} {d:Nat} {Φ:AV->St->Prop} {Q:Value->Shared->Prop}
include W
set_option tactic.hygienic true in
theorem p_sorted (hA:OKA A d) (R:Rel C ρ σ s.heap) (L:Bas C s.heap) (k:aV C ρ s Φ Q) {o:AV} {O:Value} {ys:List AV} (ho:VR s.heap (ab ρ) C.gf o O) (e:sortedA C.τ σ o=some ys)
  (p:newK (.list ys) σ Φ):wpAny (model C.prog C.w) A (call (.builtin "sorted") [O]) Q (λJ J=>False) s:=by
 have strs_:∀(ks:List Nat),(∀k∈ks,k<NS)->ks.length<64->newK (.list ((aD ks).map AV.str)) σ Φ ->
   (∀(R:List Value->Shared->Prop),(∀vs h' tk,StrsAre vs (ks.map SS)->(∀b o,s.heap.get? b=some o->h'.get? b=some o)->R vs { s with heap:=h',toks:=tk })->wpAny (model C.prog C.w) A.in1 (collect O) R (λJ J=>False) s) ->
   wpAny (model C.prog C.w) A (call (.builtin "sorted") [O]) Q (λJ J=>False) s:=by
  intro ks hks h64 p hc
  have hlen:∀vs,StrsAre vs (ks.map SS)->vs.length=ks.length:=λvs hS=>by
   have:=congrArg List.length hS.strs
   simpa using this
  refine sorted_from (P:=λvs=>StrsAre vs (ks.map SS)) (Out:=λout=>StrsAre out.toList ((aD ks).map SS)) (λvs hS=>by rw [hlen vs hS,sizeLine_eq];omega) hc
   (λA vs a n s' hS ha Pp h=>list_sort_treeK strKind_oneLt ha hS.keysOf (λv₁ v₂ rest e=>keyKind_strs (by rw [<-e];exact hS)) (by rw [hlen vs hS];exact h64) λst' hp hs=>?_)
   λD h' tk out n kp hD hD' ho=>k_listAt W R L k kp hD hD' (vrs_strs (λz hz=>hks z ((sortN_perm ks).mem_iff.mp hz)) ho) (by rw [List.length_map,(sortN_perm ks).length_eq];unfold SZ;omega) p
  obtain ⟨ss',q1,q2,q3⟩:=sorted_out_str hS hp hs
  refine h _ ?_
  rw [strs_sorted hks q2 q3] at q1
  exact q1
 unfold sortedA at e
 split at e
 ·split at e
  ·rename_i i _ xs hi
   split at e
   ·rename_i h64
    simp only [Option.map_eq_some_iff] at e
    obtain ⟨ks,h1,rfl⟩:=e
    obtain ⟨l,items,rfl,hl,hvs,hz⟩:=list_at W R L ho (xs:=xs) (lst_i hi)
    obtain ⟨q1,q2,q3⟩:=strs_of hvs h1
    have hlen:=hvs.length
    refine strs_ ks q2 (by omega) p λR' h=>collect_list (vs:=items.toList) (by simpa using hl) (h _ _ _ q1 λb o q=>?_) (by rw [hlen,sizeLine_eq];omega)
    have hlt:b<s.heap.objs.size:=Heap.lt_size q
    rw [Heap.get?_update_ne _ _ _ _ (Nat.ne_of_lt hlt)]
    exact Heap.get?_push_of_some _ q
   ·cases e
  ·rename_i i _ kvs hi
   split at e
   ·rename_i h64
    cases e
    obtain ⟨ad,l,hr,rfl,hl,hkr,hz,hsy⟩:=dict_at W R ho hi
    obtain ⟨q1,q2⟩:=hkr.keys
    have hlen:=hkr.len
    obtain ⟨ep,hat⟩:=hl.dictAt
    refine strs_ _ q2 (by simpa using h64) p λR' h=>kdu_collect (kdl_dict (knd:=strKind C.prog C.w) (kvs:=l) (ep:=ep) hsy) hA.hd hat (by rw [hlen,sizeLine_eq];omega) λh' tk acc kp hacc=>h _ _ _ ?_ kp
    rw [<-q1]
    exact keys_strs (prog:=C.prog) (w:=C.w) (by rw [Array.length_toList];exact hacc.1) λj v hj=>hacc.2 j v (by rw [<-Array.getElem?_toList];exact hj)
   ·cases e
  ·cases e
 ·split at e
  ·rename_i g _ kvs hg
   split at e
   ·rename_i h64
    cases e
    obtain ⟨a,ha,rfl⟩:=ho
    obtain ⟨b,l,hb,⟨ob,es,ep,h1,h2,h3,h4⟩,hir,hz⟩:=W.gdict g _ hg
    rw [ha] at hb;cases hb
    have hl:s.heap.DictOf (intKind C.prog C.w) a l:=⟨ob,es,ep,Bas.old W L h1 (λvs z=>by rw [h3] at z;cases z),h2,h3,h4⟩
    have q1:=hir.keys
    have hlen:l.length=kvs.length:=by have:=congrArg List.length q1;simpa using this
    obtain ⟨ep',hat⟩:=hl.dictAt
    have hsy:(a==sysModules)=false:=W.gsys g _ a hg ha
    have hlen2:∀vs,IntsAre vs (kvs.map (λJ=>J.1))->vs.length=kvs.length:=λvs hS=>by rw [hS.length];simp
    refine sorted_from (P:=λvs=>IntsAre vs (kvs.map (λJ=>J.1))) (Out:=λout=>IntsAre out.toList (sortI (kvs.map (λJ=>J.1)))) (λvs hS=>by rw [hlen2 vs hS,sizeLine_eq];omega)
     (λR' h=>kdu_collect (kdl_dict (knd:=intKind C.prog C.w) (kvs:=l) (ep:=ep') hsy) hA.hd hat (by rw [hlen,sizeLine_eq];omega) λh' tk acc kp hacc=>h _ _ _ ?_ kp)
     (λA vs a n s' hS ha Pp h=>list_sort_tree ha hS (by rw [hlen2 vs hS];exact h64) λout ns' q2 q3 q4=>h out ?_)
     λD h' tk out n kp hD hD' ho=>k_listAt W R L k kp hD hD' (vrs_ints ho) (by rw [List.length_map,(sortI_perm _).length_eq,List.length_map];unfold SZ;omega) p
    ·rw [<-q1]
     exact keys_ints (prog:=C.prog) (w:=C.w) (by rw [Array.length_toList];exact hacc.1) λj v hj=>hacc.2 j v (by rw [<-Array.getElem?_toList];exact hj)
    ·have:=one_sorted (λa J b J h1 h2=>Int.le_antisymm h1 h2) (q3.trans (sortI_perm _).symm) q4 (sortI_sorted _)
     rw [<-this];exact q2
   ·cases e
  ·cases e
 ·cases e
end
theorem ffT {P:Prop} (h:false=true):P:=Bool.noConfusion h
theorem aH {c:Prop} [D:Decidable c] {f:c->Bool} {P:Prop} (h:(dite c f λJ=>false)=true) (k:∀hc,f hc=true->P):P:=by
 cases D with
 | isTrue hc=>exact k hc h
 | isFalse J=>exact ffT h
theorem an2 {a b:Bool} (h:(a&&b)=true):a=true/\b=true:=Bool.and_eq_true_iff.mp h
theorem an3 {a b c:Bool} (h:(a&&b&&c)=true):(a=true/\b=true)/\c=true:=⟨an2 (an2 h).1,(an2 h).2⟩
theorem an4 {a b c d:Bool} (h:(a&&b&&c&&d)=true):((a=true/\b=true)/\c=true)/\d=true:=⟨an3 (an2 h).1,(an2 h).2⟩
theorem an5 {a b c d e:Bool} (h:(a&&b&&c&&d&&e)=true):(((a=true/\b=true)/\c=true)/\d=true)/\e=true:=⟨an4 (an2 h).1,(an2 h).2⟩
theorem an6 {a b c d e f:Bool} (h:(a&&b&&c&&d&&e&&f)=true):((((a=true/\b=true)/\c=true)/\d=true)/\e=true)/\f=true:=⟨an5 (an2 h).1,(an2 h).2⟩
theorem an7 {a b c d e f g:Bool} (h:(a&&b&&c&&d&&e&&f&&g)=true):(((((a=true/\b=true)/\c=true)/\d=true)/\e=true)/\f=true)/\g=true:=⟨an6 (an2 h).1,(an2 h).2⟩
theorem an8 {a b c d e f g i:Bool} (h:(a&&b&&c&&d&&e&&f&&g&&i)=true):((((((a=true/\b=true)/\c=true)/\d=true)/\e=true)/\f=true)/\g=true)/\i=true:=⟨an7 (an2 h).1,(an2 h).2⟩
theorem andE {a b:Bool} {P:Prop} (h:(a&&b)=true) (k:a=true->b=true->P):P:=k (an2 h).1 (an2 h).2
noncomputable def onConst {α:Type} (x:Expr) (f:Const->Nat->Pos->α) (d:α):α:=dite (x.ctorIdx=19) (λh=>Expr.Constant.elim x h f) λJ=>d
theorem e_Const {x:Expr} {f:Const->Nat->Pos->Bool} {P:Expr->Prop} (h:onConst x f false=true) (k:∀a b c,f a b c=true->P (.Constant a b c)):P x:=
 aH h λhc=>@Expr.Constant.elim (λx=>∀hc:x.ctorIdx=19,Expr.Constant.elim x hc f=true->P x) x hc (λa b c J h=>k a b c h) hc
noncomputable def onName {α:Type} (x:Expr) (f:Str->Pos->α) (d:α):α:=dite (x.ctorIdx=23) (λh=>Expr.Name.elim x h f) λJ=>d
theorem e_Name {x:Expr} {f:Str->Pos->Bool} {P:Expr->Prop} (h:onName x f false=true) (k:∀a b,f a b=true->P (.Name a b)):P x:=
 aH h λhc=>@Expr.Name.elim (λx=>∀hc:x.ctorIdx=23,Expr.Name.elim x hc f=true->P x) x hc (λa b J h=>k a b h) hc
noncomputable def onBin {α:Type} (x:Expr) (f:Expr->Operator->Expr->Pos->α) (d:α):α:=dite (x.ctorIdx=2) (λh=>Expr.BinOp.elim x h f) λJ=>d
theorem e_Bin {x:Expr} {f:Expr->Operator->Expr->Pos->Bool} {P:Expr->Prop} (h:onBin x f false=true) (k:∀a b c d,f a b c d=true->P (.BinOp a b c d)):P x:=
 aH h λhc=>@Expr.BinOp.elim (λx=>∀hc:x.ctorIdx=2,Expr.BinOp.elim x hc f=true->P x) x hc (λa b c d J h=>k a b c d h) hc
noncomputable def onUn {α:Type} (x:Expr) (f:UnaryOp->Expr->Pos->α) (d:α):α:=dite (x.ctorIdx=3) (λh=>Expr.UnaryOp.elim x h f) λJ=>d
theorem e_Un {x:Expr} {f:UnaryOp->Expr->Pos->Bool} {P:Expr->Prop} (h:onUn x f false=true) (k:∀a b c,f a b c=true->P (.UnaryOp a b c)):P x:=
 aH h λhc=>@Expr.UnaryOp.elim (λx=>∀hc:x.ctorIdx=3,Expr.UnaryOp.elim x hc f=true->P x) x hc (λa b c J h=>k a b c h) hc
noncomputable def onBool {α:Type} (x:Expr) (f:BoolOp->(List Expr)->Pos->α) (d:α):α:=dite (x.ctorIdx=0) (λh=>Expr.BoolOp.elim x h f) λJ=>d
theorem e_Bool {x:Expr} {f:BoolOp->(List Expr)->Pos->Bool} {P:Expr->Prop} (h:onBool x f false=true) (k:∀a b c,f a b c=true->P (.BoolOp a b c)):P x:=
 aH h λhc=>@Expr.BoolOp.elim (λx=>∀hc:x.ctorIdx=0,Expr.BoolOp.elim x hc f=true->P x) x hc (λa b c J h=>k a b c h) hc
noncomputable def onCmp {α:Type} (x:Expr) (f:Expr->(List CmpOp)->(List Expr)->Pos->α) (d:α):α:=dite (x.ctorIdx=15) (λh=>Expr.Compare.elim x h f) λJ=>d
theorem e_Cmp {x:Expr} {f:Expr->(List CmpOp)->(List Expr)->Pos->Bool} {P:Expr->Prop} (h:onCmp x f false=true) (k:∀a b c d,f a b c d=true->P (.Compare a b c d)):P x:=
 aH h λhc=>@Expr.Compare.elim (λx=>∀hc:x.ctorIdx=15,Expr.Compare.elim x hc f=true->P x) x hc (λa b c d J h=>k a b c d h) hc
noncomputable def onIf {α:Type} (x:Expr) (f:Expr->Expr->Expr->Pos->α) (d:α):α:=dite (x.ctorIdx=5) (λh=>Expr.IfExp.elim x h f) λJ=>d
theorem e_If {x:Expr} {f:Expr->Expr->Expr->Pos->Bool} {P:Expr->Prop} (h:onIf x f false=true) (k:∀a b c d,f a b c d=true->P (.IfExp a b c d)):P x:=
 aH h λhc=>@Expr.IfExp.elim (λx=>∀hc:x.ctorIdx=5,Expr.IfExp.elim x hc f=true->P x) x hc (λa b c d J h=>k a b c d h) hc
noncomputable def onAttr {α:Type} (x:Expr) (f:Expr->Str->Pos->α) (d:α):α:=dite (x.ctorIdx=20) (λh=>Expr.Attribute.elim x h f) λJ=>d
theorem e_Attr {x:Expr} {f:Expr->Str->Pos->Bool} {P:Expr->Prop} (h:onAttr x f false=true) (k:∀a b c,f a b c=true->P (.Attribute a b c)):P x:=
 aH h λhc=>@Expr.Attribute.elim (λx=>∀hc:x.ctorIdx=20,Expr.Attribute.elim x hc f=true->P x) x hc (λa b c J h=>k a b c h) hc
noncomputable def onSub {α:Type} (x:Expr) (f:Expr->Expr->Pos->α) (d:α):α:=dite (x.ctorIdx=21) (λh=>Expr.Subscript.elim x h f) λJ=>d
theorem e_Sub {x:Expr} {f:Expr->Expr->Pos->Bool} {P:Expr->Prop} (h:onSub x f false=true) (k:∀a b c,f a b c=true->P (.Subscript a b c)):P x:=
 aH h λhc=>@Expr.Subscript.elim (λx=>∀hc:x.ctorIdx=21,Expr.Subscript.elim x hc f=true->P x) x hc (λa b c J h=>k a b c h) hc
noncomputable def onSlice {α:Type} (x:Expr) (f:(Option Expr)->(Option Expr)->(Option Expr)->Pos->α) (d:α):α:=dite (x.ctorIdx=26) (λh=>Expr.Slice.elim x h f) λJ=>d
theorem e_Slice {x:Expr} {f:(Option Expr)->(Option Expr)->(Option Expr)->Pos->Bool} {P:Expr->Prop} (h:onSlice x f false=true) (k:∀a b c d,f a b c d=true->P (.Slice a b c d)):P x:=
 aH h λhc=>@Expr.Slice.elim (λx=>∀hc:x.ctorIdx=26,Expr.Slice.elim x hc f=true->P x) x hc (λa b c d J h=>k a b c d h) hc
noncomputable def onList {α:Type} (x:Expr) (f:(List Expr)->Pos->α) (d:α):α:=dite (x.ctorIdx=24) (λh=>Expr.List.elim x h f) λJ=>d
theorem e_List {x:Expr} {f:(List Expr)->Pos->Bool} {P:Expr->Prop} (h:onList x f false=true) (k:∀a b,f a b=true->P (.List a b)):P x:=
 aH h λhc=>@Expr.List.elim (λx=>∀hc:x.ctorIdx=24,Expr.List.elim x hc f=true->P x) x hc (λa b J h=>k a b h) hc
noncomputable def onTuple {α:Type} (x:Expr) (f:(List Expr)->Nat->Pos->α) (d:α):α:=dite (x.ctorIdx=25) (λh=>Expr.Tuple.elim x h f) λJ=>d
theorem e_Tuple {x:Expr} {f:(List Expr)->Nat->Pos->Bool} {P:Expr->Prop} (h:onTuple x f false=true) (k:∀a b c,f a b c=true->P (.Tuple a b c)):P x:=
 aH h λhc=>@Expr.Tuple.elim (λx=>∀hc:x.ctorIdx=25,Expr.Tuple.elim x hc f=true->P x) x hc (λa b c J h=>k a b c h) hc
noncomputable def onDict {α:Type} (x:Expr) (f:(List (Option Expr))->(List Expr)->Pos->α) (d:α):α:=dite (x.ctorIdx=6) (λh=>Expr.Dict.elim x h f) λJ=>d
theorem e_Dict {x:Expr} {f:(List (Option Expr))->(List Expr)->Pos->Bool} {P:Expr->Prop} (h:onDict x f false=true) (k:∀a b c,f a b c=true->P (.Dict a b c)):P x:=
 aH h λhc=>@Expr.Dict.elim (λx=>∀hc:x.ctorIdx=6,Expr.Dict.elim x hc f=true->P x) x hc (λa b c J h=>k a b c h) hc
noncomputable def onCall {α:Type} (x:Expr) (f:Expr->(List Expr)->(List Keyword)->Pos->α) (d:α):α:=dite (x.ctorIdx=16) (λh=>Expr.Call.elim x h f) λJ=>d
theorem e_Call {x:Expr} {f:Expr->(List Expr)->(List Keyword)->Pos->Bool} {P:Expr->Prop} (h:onCall x f false=true) (k:∀a b c d,f a b c d=true->P (.Call a b c d)):P x:=
 aH h λhc=>@Expr.Call.elim (λx=>∀hc:x.ctorIdx=16,Expr.Call.elim x hc f=true->P x) x hc (λa b c d J h=>k a b c d h) hc
noncomputable def onComp {α:Type} (x:Expr) (f:Expr->(List Comprehension)->Scope->Pos->α) (d:α):α:=dite (x.ctorIdx=8) (λh=>Expr.ListComp.elim x h f) λJ=>d
theorem e_Comp {x:Expr} {f:Expr->(List Comprehension)->Scope->Pos->Bool} {P:Expr->Prop} (h:onComp x f false=true) (k:∀a b c d,f a b c d=true->P (.ListComp a b c d)):P x:=
 aH h λhc=>@Expr.ListComp.elim (λx=>∀hc:x.ctorIdx=8,Expr.ListComp.elim x hc f=true->P x) x hc (λa b c d J h=>k a b c d h) hc
noncomputable def onLam {α:Type} (x:Expr) (f:Arguments->Expr->Scope->Pos->α) (d:α):α:=dite (x.ctorIdx=4) (λh=>Expr.Lambda.elim x h f) λJ=>d
theorem e_Lam {x:Expr} {f:Arguments->Expr->Scope->Pos->Bool} {P:Expr->Prop} (h:onLam x f false=true) (k:∀a b c d,f a b c d=true->P (.Lambda a b c d)):P x:=
 aH h λhc=>@Expr.Lambda.elim (λx=>∀hc:x.ctorIdx=4,Expr.Lambda.elim x hc f=true->P x) x hc (λa b c d J h=>k a b c d h) hc
noncomputable def onSRet {α:Type} (x:Stmt) (f:(Option Expr)->Pos->α) (d:α):α:=dite (x.ctorIdx=3) (λh=>PySem.Stmt.Return.elim x h f) λJ=>d
theorem e_SRet {x:Stmt} {f:(Option Expr)->Pos->Bool} {P:Stmt->Prop} (h:onSRet x f false=true) (k:∀a b,f a b=true->P (.Return a b)):P x:=
 aH h λhc=>@PySem.Stmt.Return.elim (λx=>∀hc:x.ctorIdx=3,PySem.Stmt.Return.elim x hc f=true->P x) x hc (λa b J h=>k a b h) hc
noncomputable def onSAsg {α:Type} (x:Stmt) (f:(List Expr)->Expr->Pos->α) (d:α):α:=dite (x.ctorIdx=5) (λh=>PySem.Stmt.Assign.elim x h f) λJ=>d
theorem e_SAsg {x:Stmt} {f:(List Expr)->Expr->Pos->Bool} {P:Stmt->Prop} (h:onSAsg x f false=true) (k:∀a b c,f a b c=true->P (.Assign a b c)):P x:=
 aH h λhc=>@PySem.Stmt.Assign.elim (λx=>∀hc:x.ctorIdx=5,PySem.Stmt.Assign.elim x hc f=true->P x) x hc (λa b c J h=>k a b c h) hc
noncomputable def onSAug {α:Type} (x:Stmt) (f:Expr->Operator->Expr->Pos->α) (d:α):α:=dite (x.ctorIdx=7) (λh=>PySem.Stmt.AugAssign.elim x h f) λJ=>d
theorem e_SAug {x:Stmt} {f:Expr->Operator->Expr->Pos->Bool} {P:Stmt->Prop} (h:onSAug x f false=true) (k:∀a b c d,f a b c d=true->P (.AugAssign a b c d)):P x:=
 aH h λhc=>@PySem.Stmt.AugAssign.elim (λx=>∀hc:x.ctorIdx=7,PySem.Stmt.AugAssign.elim x hc f=true->P x) x hc (λa b c d J h=>k a b c d h) hc
noncomputable def onSFor {α:Type} (x:Stmt) (f:Expr->Expr->(List Stmt)->(List Stmt)->Pos->α) (d:α):α:=dite (x.ctorIdx=9) (λh=>PySem.Stmt.For.elim x h f) λJ=>d
theorem e_SFor {x:Stmt} {f:Expr->Expr->(List Stmt)->(List Stmt)->Pos->Bool} {P:Stmt->Prop} (h:onSFor x f false=true) (k:∀a b c d e,f a b c d e=true->P (.For a b c d e)):P x:=
 aH h λhc=>@PySem.Stmt.For.elim (λx=>∀hc:x.ctorIdx=9,PySem.Stmt.For.elim x hc f=true->P x) x hc (λa b c d e J h=>k a b c d e h) hc
noncomputable def onSWhile {α:Type} (x:Stmt) (f:Expr->(List Stmt)->(List Stmt)->Pos->α) (d:α):α:=dite (x.ctorIdx=11) (λh=>PySem.Stmt.While.elim x h f) λJ=>d
theorem e_SWhile {x:Stmt} {f:Expr->(List Stmt)->(List Stmt)->Pos->Bool} {P:Stmt->Prop} (h:onSWhile x f false=true) (k:∀a b c d,f a b c d=true->P (.While a b c d)):P x:=
 aH h λhc=>@PySem.Stmt.While.elim (λx=>∀hc:x.ctorIdx=11,PySem.Stmt.While.elim x hc f=true->P x) x hc (λa b c d J h=>k a b c d h) hc
noncomputable def onSIf {α:Type} (x:Stmt) (f:Expr->(List Stmt)->(List Stmt)->Pos->α) (d:α):α:=dite (x.ctorIdx=12) (λh=>PySem.Stmt.If.elim x h f) λJ=>d
theorem e_SIf {x:Stmt} {f:Expr->(List Stmt)->(List Stmt)->Pos->Bool} {P:Stmt->Prop} (h:onSIf x f false=true) (k:∀a b c d,f a b c d=true->P (.If a b c d)):P x:=
 aH h λhc=>@PySem.Stmt.If.elim (λx=>∀hc:x.ctorIdx=12,PySem.Stmt.If.elim x hc f=true->P x) x hc (λa b c d J h=>k a b c d h) hc
noncomputable def onSExpr {α:Type} (x:Stmt) (f:Expr->Pos->α) (d:α):α:=dite (x.ctorIdx=24) (λh=>PySem.Stmt.Expr.elim x h f) λJ=>d
theorem e_SExpr {x:Stmt} {f:Expr->Pos->Bool} {P:Stmt->Prop} (h:onSExpr x f false=true) (k:∀a b,f a b=true->P (.Expr a b)):P x:=
 aH h λhc=>@PySem.Stmt.Expr.elim (λx=>∀hc:x.ctorIdx=24,PySem.Stmt.Expr.elim x hc f=true->P x) x hc (λa b J h=>k a b h) hc
noncomputable def onSCont {α:Type} (x:Stmt) (f:Pos->α) (d:α):α:=dite (x.ctorIdx=27) (λh=>PySem.Stmt.Continue.elim x h f) λJ=>d
theorem e_SCont {x:Stmt} {f:Pos->Bool} {P:Stmt->Prop} (h:onSCont x f false=true) (k:∀a,f a=true->P (.Continue a)):P x:=
 aH h λhc=>@PySem.Stmt.Continue.elim (λx=>∀hc:x.ctorIdx=27,PySem.Stmt.Continue.elim x hc f=true->P x) x hc (λa J h=>k a h) hc
noncomputable def onVBool {α:Type} (x:AV) (f:Bool->α) (d:α):α:=dite (x.ctorIdx=1) (λh=>AV.bool.elim x h f) λJ=>d
theorem e_VBool {x:AV} {f:Bool->Bool} {P:AV->Prop} (h:onVBool x f false=true) (k:∀a,f a=true->P (.bool a)):P x:=
 aH h λhc=>@AV.bool.elim (λx=>∀hc:x.ctorIdx=1,AV.bool.elim x hc f=true->P x) x hc (λa J h=>k a h) hc
noncomputable def onVInt {α:Type} (x:AV) (f:Int->α) (d:α):α:=dite (x.ctorIdx=2) (λh=>AV.int.elim x h f) λJ=>d
theorem e_VInt {x:AV} {f:Int->Bool} {P:AV->Prop} (h:onVInt x f false=true) (k:∀a,f a=true->P (.int a)):P x:=
 aH h λhc=>@AV.int.elim (λx=>∀hc:x.ctorIdx=2,AV.int.elim x hc f=true->P x) x hc (λa J h=>k a h) hc
noncomputable def onVStr {α:Type} (x:AV) (f:Nat->α) (d:α):α:=dite (x.ctorIdx=3) (λh=>AV.str.elim x h f) λJ=>d
theorem e_VStr {x:AV} {f:Nat->Bool} {P:AV->Prop} (h:onVStr x f false=true) (k:∀a,f a=true->P (.str a)):P x:=
 aH h λhc=>@AV.str.elim (λx=>∀hc:x.ctorIdx=3,AV.str.elim x hc f=true->P x) x hc (λa J h=>k a h) hc
noncomputable def onVTup {α:Type} (x:AV) (f:(List AV)->α) (d:α):α:=dite (x.ctorIdx=4) (λh=>AV.tup.elim x h f) λJ=>d
theorem e_VTup {x:AV} {f:(List AV)->Bool} {P:AV->Prop} (h:onVTup x f false=true) (k:∀a,f a=true->P (.tup a)):P x:=
 aH h λhc=>@AV.tup.elim (λx=>∀hc:x.ctorIdx=4,AV.tup.elim x hc f=true->P x) x hc (λa J h=>k a h) hc
noncomputable def onVRef {α:Type} (x:AV) (f:Nat->α) (d:α):α:=dite (x.ctorIdx=5) (λh=>AV.ref.elim x h f) λJ=>d
theorem e_VRef {x:AV} {f:Nat->Bool} {P:AV->Prop} (h:onVRef x f false=true) (k:∀a,f a=true->P (.ref a)):P x:=
 aH h λhc=>@AV.ref.elim (λx=>∀hc:x.ctorIdx=5,AV.ref.elim x hc f=true->P x) x hc (λa J h=>k a h) hc
noncomputable def onVGl {α:Type} (x:AV) (f:Nat->α) (d:α):α:=dite (x.ctorIdx=6) (λh=>AV.gl.elim x h f) λJ=>d
theorem e_VGl {x:AV} {f:Nat->Bool} {P:AV->Prop} (h:onVGl x f false=true) (k:∀a,f a=true->P (.gl a)):P x:=
 aH h λhc=>@AV.gl.elim (λx=>∀hc:x.ctorIdx=6,AV.gl.elim x hc f=true->P x) x hc (λa J h=>k a h) hc
noncomputable def l1 {β:Type} (x:List β) (f:β->Bool):Bool:=List.rec false (λa r J=>List.rec (f a) (λJ J J=>false) r) x
theorem e_l1 {β:Type} {x:List β} {f:β->Bool} {P:List β->Prop} (h:l1 x f=true) (k:∀a,f a=true->P [a]):P x:=match x,h with
 | [],h=>ffT h
 | [a],h=>k a h
 | J::ζ::η,h=>ffT h
noncomputable def l0 {β:Type} (x:List β) (b:Bool):Bool:=List.rec b (λJ J J=>false) x
theorem e_l0 {β:Type} {x:List β} {b:Bool} {P:List β->Prop} (h:l0 x b=true) (k:b=true->P []):P x:=match x,h with
 | [],h=>k h
 | J::ζ,h=>ffT h
noncomputable def l2 {β:Type} (x:List β) (f:β->β->Bool):Bool:=List.rec false (λa r J=>l1 r (f a)) x
theorem e_l2 {β:Type} {x:List β} {f:β->β->Bool} {P:List β->Prop} (h:l2 x f=true) (k:∀a b,f a b=true->P [a,b]):P x:=match x,h with
 | [],h=>ffT h
 | a::J,h=>e_l1 (P:=λr=>P (a::r)) h (k a)
noncomputable def oS {β:Type} (x:Option β) (f:β->Bool):Bool:=Option.rec false f x
theorem e_oS {β:Type} {x:Option β} {f:β->Bool} {P:Option β->Prop} (h:oS x f=true) (k:∀a,f a=true->P (some a)):P x:=match x,h with
 | none,h=>ffT h
 | some a,h=>k a h
noncomputable def l22 {α β:Type} (p:α->β->Bool):List α->List β->Bool:=λω ψ=>match ω,ψ with
 | [],ys=>l0 ys true
 | x::xs,ys=>List.rec false (λy r J=>p x y&&l22 p xs r) ys
mutual
noncomputable def avB:AV->AV->Bool:=λω ψ=>match ω,ψ with
 | .int a,y=>onVInt y (λb=>decide (a=b)) false
 | .str a,y=>onVStr y (λb=>decide (a=b)) false
 | .tup xs,y=>onVTup y (avBs xs) false
 | .gl a,y=>onVGl y (λb=>decide (a=b)) false
 | .bool a,y=>onVBool y (λb=>decide (a=b)) false
 | .ref a,y=>onVRef y (λb=>decide (a=b)) false
 | .none,y=>decide (y.ctorIdx=0)
noncomputable def avBs:List AV->List AV->Bool:=λω ψ=>match ω,ψ with
 | [],ys=>l0 ys true
 | x::xs,ys=>List.rec false (λy r J=>avB x y&&avBs xs r) ys
end
mutual
theorem avB_eq:∀{a b:AV},avB a b=true->a=b:=@λω=>@λψ=>@λχ=>match ω,ψ,χ with
 | .int J,ζ,h=>e_VInt h λJ h=>congrArg AV.int (odT h)
 | .str J,ζ,h=>e_VStr h λJ h=>congrArg AV.str (odT h)
 | .tup J,ζ,h=>e_VTup h λJ h=>congrArg AV.tup (avBs_eq h)
 | .gl J,ζ,h=>e_VGl h λJ h=>congrArg AV.gl (odT h)
 | .bool J,ζ,h=>e_VBool h λJ h=>congrArg AV.bool (odT h)
 | .ref J,ζ,h=>e_VRef h λJ h=>congrArg AV.ref (odT h)
 | .none,b,h=>@AV.none.elim (λb=>AV.none=b) b (odT h) rfl
theorem avBs_eq:∀{a b:List AV},avBs a b=true->a=b:=@λω=>@λψ=>@λχ=>match ω,ψ,χ with
 | [],J,h=>e_l0 h λJ=>rfl
 | J::ζ,[],h=>ffT h
 | J::ζ,η::θ,h=>congr (congrArg List.cons (avB_eq (an2 h).1)) (avBs_eq (an2 h).2)
end
structure Blk where
 scp:Scope
 vis:List (Nat×Str)
 fn:Nat
structure Nms where
 lpos:Pos
 g:List (Str×AV)
 f:Nat->Str
 c:Nat->Str
 kwl:Nat->List Nat
noncomputable def isG (Γ:Blk) (x:Str):Bool:=decide (Γ.scp.names.lookup x=some .globalImplicit)&&x != ("__debug__":Str)&&x != ("super":Str)
noncomputable def notSuper (x:Expr):Bool:=onName x (λJ J=>true) false||onAttr x (λJ J J=>true) false||onSub x (λJ J J=>true) false||onCall x (λf J J J=>onAttr f (λJ J J=>true) false) false
noncomputable def notStar (x:Expr):Bool:=x.ctorIdx != 22
noncomputable def notSet (x:Expr):Bool:=x.ctorIdx != 7
theorem star_one {x:Expr} {xs:List Expr} {env:Env} (h:notStar x=true):starEach (x::xs) env=(false,eval x env)::starEach xs env:=by
 cases x<;>first | rfl | exact ffT h
noncomputable def ckC:AV->Const->Bool:=λω ψ=>match ω,ψ with
 | .none,c=>decide (c=.none)
 | .bool a,c=>decide (c=.bool a)
 | .int a,c=>decide (c=.int a)
 | .str k,c=>decide (k<NS)&&decide (c=.str (SS k))
 | J,ζ=>false
noncomputable def bltN:Nat->Str:=λω=>match ω with
 | 0=>"len"
 | 1=>"int"
 | 2=>"any"
 | 3=>"sorted"
 | 4=>"list"
 | 5=>"isinstance"
 | J=>"max"
noncomputable def ckN (Γ:Blk) (k:Nat) (x:Expr):Bool:=onName x (λx J=>decide (Γ.vis.lookup k=some x)) false
noncomputable def ckT (Γ:Blk):T->Expr->Bool:=λω ψ=>match ω,ψ with
 | .v k,x=>ckN Γ k x
 | .tup ks,x=>onTuple x (λxs J J=>l22 (ckN Γ) ks xs&&decide (2<=ks.length)) false
noncomputable def nmsOf (xs:List Expr):List Str:=xs.filterMap λx=>onName x (λx J=>some x) none
noncomputable def tgN (x:Expr):List Str:=onName x (λx J=>[x]) (onTuple x (λxs J J=>nmsOf xs) [])
noncomputable def relB (scope outer:Scope):Scope:=
 { scope with names:=scope.names.map λ(n,k)=>if (k==.free&&outer.kind==.function&&outer.names.lookup n==some .cell) then (n,.cell) else (n,k) }
noncomputable def inB (Γ:Blk) (scope:Scope) (vs:List Nat) (tg:Expr):Blk:=
 let r:=relB scope Γ.scp
 ⟨r,(vs.zip (tgN tg))++Γ.vis.filter (λp=>decide (r.names.lookup p.2=some .cell)),Γ.fn⟩
noncomputable def distinct:List Str->Bool:=λω=>match ω with
 | []=>true
 | x::xs=>!(xs.contains x)&&distinct xs
noncomputable def distinctN:List Nat->Bool:=λω=>match ω with
 | []=>true
 | x::xs=>!(xs.contains x)&&distinctN xs
noncomputable def okB (Γ:Blk):Bool:=Γ.scp.kind==.function&&distinct (Γ.vis.map (λJ=>J.2))&&distinctN (Γ.vis.map (λJ=>J.1)) &&
 Γ.vis.all λp=>(decide (Γ.scp.names.lookup p.2=some .local)||decide (Γ.scp.names.lookup p.2=some .cell))&&p.2 != ("__debug__":Str)
noncomputable def okComp (Γ:Blk) (scope:Scope) (vs:List Nat) (tg:Expr):Bool:=
 scope.kind==.function&&(scope.names.all λx=>x.2 != .cell&&(x.2 != .local||decide (scope.names.lookup x.1=some .local))&&(x.2 != .free||decide (Γ.scp.names.lookup x.1=some .cell))) &&
 decide (vs.length=(tgN tg).length)&&okB (inB Γ scope vs tg)&&(tgN tg).all λx=>decide (scope.names.lookup x=some .local)
noncomputable def ckKs:List Nat->List (Option Expr)->Bool:=l22 λk x=>decide (k<NS)&&oS x λx=>onConst x (λc J J=>decide (c=.str (SS k))) false
noncomputable def ckKw:List Nat->List Keyword->Bool:=l22 λk w=>decide (w.arg=some (NM k))
noncomputable def lamA (a:Arguments):Bool:=l0 a.posonlyargs (l1 a.args λa=>a.arg==("pair":Str)&&a.annotation.isNone)&&a.vararg.isNone&&l0 a.kwonlyargs (l0 a.kw_defaults (a.kwarg.isNone&&a.defaults.isEmpty))
noncomputable def lamB (p:Pos) (x:Expr):Bool:=onLam x (λa b scope lp=>decide (lp=p)&&decide (scope=⟨.function,[("pair",.local)],false,false,[]⟩)&&lamA a &&
 onSub b (λx i J=>onName x (λx J=>x==("pair":Str)) false&&onConst i (λc J J=>decide (c=.int 0)) false) false) false
noncomputable def tgB:It->T->Bool:=λω ψ=>match ω,ψ with
 | .enum J,.tup ζ=>true
 | .enum J,ζ=>false
 | J,ζ=>true
noncomputable def ckF (Γ:Blk) (x:Expr) (n:Str) (f:List Expr->Bool):Bool:=onCall x (λg xs kws J=>onName g (λy J=>isG Γ y&&y==n&&l0 kws (f xs)) false) false
section
variable (N:Nms)
mutual
noncomputable def ckE:Blk->E->Expr->Bool:=λω ψ χ=>match ω,ψ,χ with
 | J,.bad,ζ=>true
 | J,.lit v,x=>onConst x (λc J J=>ckC v c) false
 | Γ,.var k,x=>ckN Γ k x
 | Γ,.glob v,x=>onName x (λx J=>isG Γ x&&N.g.any λp=>p.1==x&&avB p.2 v) false
 | Γ,.bin o l r,x=>onBin x (λa op b J=>decide (boOf o=op)&&ckE Γ l a&&ckE Γ r b) false
 | Γ,.neg e,x=>onUn x (λop a J=>decide (.USub=op)&&ckE Γ e a) false
 | Γ,.not e,x=>onUn x (λop a J=>decide (.Not=op)&&ckE Γ e a) false
 | Γ,.bop an es,x=>onBool x (λop xs J=>decide ((if an then .And else .Or)=op)&&ckEs Γ es xs) false
 | Γ,.cmp l cs,x=>onCmp x (λa ops xs J=>ckE Γ l a&&ckCs Γ cs ops xs) false
 | Γ,.ite c t f,x=>onIf x (λa b d J=>ckE Γ c a&&ckE Γ t b&&ckE Γ f d) false
 | Γ,.attr e n,x=>onAttr x (λa x J=>ckE Γ e a&&x==NM n&&notSuper a) false
 | Γ,.idx e i,x=>onSub x (λa b J=>ckE Γ e a&&ckE Γ i b) false
 | Γ,.slc e lo hi st,x=>onSub x (λa b J=>onSlice b (λl h s J=>ckE Γ e a&&ckO Γ lo l&&ckO Γ hi h&&ckO Γ st s) false) false
 | Γ,.list es,x=>onList x (λxs J=>ckEs Γ es xs) false
 | Γ,.tup es,x=>onTuple x (λxs J J=>ckEs Γ es xs) false
 | Γ,.dict ks es,x=>onDict x (λkeys xs J=>decide (ks.length<=15/\ks.length=xs.length)&&ckKs ks keys&&ckEs Γ es xs) false
 | Γ,.call f es,x=>decide (f<57/\N.f f≠("":Str))&&ckF Γ x (N.f f) (ckEs Γ es)
 | Γ,.new c es,x=>decide (c<4)&&ckF Γ x (N.c c) (ckEs Γ es)
 | Γ,.newK c kws es,x=>decide (c<4)&&onCall x (λg xs kwl J=>onName g (λx J=>l0 xs (isG Γ x&&x==N.c c&&decide (2<=kwl.length/\kws=N.kwl c)&&ckKw kws kwl&&ckEs Γ es (kwl.map (λJ=>J.value)))) false) false
 | Γ,.meth e n es,x=>onCall x (λg xs kws p=>onAttr g (λa x ap=>l0 kws (ckE Γ e a&&x==NM n&&notSuper a&&decide (ap.endLine=p.line)&&decide (xs.length<20)&&ckEs Γ es xs)) false) false
 | Γ,.blt b es,x=>ckF Γ x (bltN b) λxs=>if b=5 then l2 xs λa y=>onName y (λy J=>isG Γ y&&y==("bool":Str)) false&&ckEs Γ es [a] else ckEs Γ es xs
 | Γ,.srtk e,x=>onCall x (λg xs kws J=>onName g (λx J=>isG Γ x&&x==bltN 3&&l1 kws (λk=>decide (k.arg=some ("key":Str))&&lamB N.lpos k.value&&decide (Γ.fn=7))&&l1 xs (λa=>ckE Γ e a&&notStar a)) false) false
 | Γ,.comp elt t it ifs vs,x=>onComp x (λx gs scope J=>l1 gs λg=>
   decide (g.is_async=0)&&ckI Γ it g.iter&&tgB it t&&okComp Γ scope vs g.target&&ckT (inB Γ scope vs g.target) t g.target&&ckEs (inB Γ scope vs g.target) ifs g.ifs&&ckE (inB Γ scope vs g.target) elt x&&notSet g.iter) false
noncomputable def ckEs:Blk->Es->List Expr->Bool:=λω ψ χ=>match ω,ψ,χ with
 | J,.nil,xs=>l0 xs true
 | Γ,.cons e es,xs=>List.rec false (λx r J=>ckE Γ e x&&notStar x&&ckEs Γ es r) xs
noncomputable def ckCs:Blk->Cs->List CmpOp->List Expr->Bool:=λω ψ χ ϕ=>match ω,ψ,χ,ϕ with
 | J,.nil,ops,xs=>l0 ops (l0 xs true)
 | Γ,.cons o e cs,ops,xs=>List.rec false (λop ops J=>List.rec false (λx r J=>decide (coOf o=op)&&ckE Γ e x&&notSet x&&ckCs Γ cs ops r) xs) ops
noncomputable def ckO:Blk->Eo->Option Expr->Bool:=λω ψ χ=>match ω,ψ,χ with
 | J,.none,x=>x.isNone
 | Γ,.some e,x=>oS x (ckE Γ e)
noncomputable def ckI:Blk->It->Expr->Bool:=λω ψ χ=>match ω,ψ,χ with
 | Γ,.plain e,x=>ckE Γ e x
 | Γ,.range1 e,x=>ckF Γ x "range" λxs=>l1 xs λa=>ckE Γ e a&&notStar a
 | Γ,.range2 e e',x=>ckF Γ x "range" λxs=>l2 xs λa b=>ckE Γ e a&&notStar a&&ckE Γ e' b&&notStar b
 | Γ,.enum e,x=>ckF Γ x "enumerate" λxs=>l1 xs λa=>ckE Γ e a&&notStar a
end
end
theorem e_F {Γ:Blk} {x:Expr} {n:Str} {f:List Expr->Bool} {P:Expr->Prop} (h:ckF Γ x n f=true) (k:∀p xs pos,isG Γ n=true->f xs=true->P (.Call (.Name n p) xs [] pos)):P x:=
 e_Call h λJ xs J pos h=>e_Name (P:=λg=>P (.Call g xs _ pos)) h λJ p h=>andE h λh h0=>e_l0 (P:=λl=>P (.Call _ xs l pos)) h0 λh1=>
  eq_of_beq (an2 h).2▸k p xs pos (eq_of_beq (an2 h).2▸(an2 h).1) h1
structure EnvR (C:Cfg) (Γ:Blk) (env:Env) (m:Lo) (ρ:Ro) (h:Heap):Prop where
 sc:env.scope=Γ.scp
 glob:env.globals=mainGlobals
 bui:env.builtins=builtinsNs
 sepL:env.locals∉ρ.flatten/\C.hb.get? env.locals=none
 loc:∃mc,h.Ns env.locals mc/\∀i n v,Γ.vis.lookup i=some n->m[i]?=some (some v)->Γ.scp.names.lookup n=some .local->∃V,mc n=some V/\VR h (ab ρ) C.gf v V
 sepC:∀n c,env.cells.lookup n=some c->c∉ρ.flatten/\C.hb.get? c=none/\c≠env.locals/\∃v,h.IsCell c v
 celv:∀i n v,Γ.vis.lookup i=some n->m[i]?=some (some v)->Γ.scp.names.lookup n=some .cell->∃c V,env.cells.lookup n=some c/\h.IsCell c (some V)/\VR h (ab ρ) C.gf v V
 celd:∀n n' c,env.cells.lookup n=some c->env.cells.lookup n'=some c->n=n'
 celh:∀n,Γ.scp.names.lookup n=some .cell->∃c,env.cells.lookup n=some c
 cod:∃fd,fdAt C Γ.fn=some fd/\env.code=fd.code/\env.qual=fd.qualname++".<locals>."
theorem ns_data {h:Heap} {a:Addr} {m} (x:h.Ns a m):∃o,h.get? a=some o/\∀vs,o.data≠.fields vs:=let ⟨o,es,ep,ho,hd,_⟩:=x;⟨o,ho,λvs q=>by rw [hd] at q;cases q⟩
theorem EnvR.aft {C:Cfg} (B:BoxOK C) {Γ:Blk} {env:Env} {m:Lo} {ρ ρ':Ro} {σ:St} {s s':Shared} (e:EnvR C Γ env m ρ s.heap) (R:Rel C ρ σ s.heap) (L:Bas C s.heap) (a:Aft C ρ s s' ρ'):EnvR C Γ env m ρ' s'.heap:=by
 obtain ⟨mc,hn,hl⟩:=e.loc
 obtain ⟨oL,hoL,hdL⟩:=ns_data hn
 have sep:∀b o,s.heap.get? b=some o->b∉ρ.flatten->b∉ρ'.flatten:=λb o ho hb q=>by
  rcases a.fresh b q with z | z
  ·exact hb z
  ·rw [z.1] at ho;cases ho
 have kL:∀o,s.heap.get? env.locals=some o->s'.heap.get? env.locals=some o:=λo ho=>a.frm _ o ho e.sepL.1 (L.notP hoL hdL)
 refine ⟨e.sc,e.glob,e.bui,⟨sep _ _ hoL e.sepL.1,e.sepL.2⟩,⟨mc,hn.at' kL,λn i v h1 h2 h3=>?_⟩,λn c h1=>?_,λn i v h1 h2 h3=>?_,e.celd,e.celh,e.cod⟩
 ·obtain ⟨V,q1,q2⟩:=hl n i v h1 h2 h3
  exact ⟨V,q1,VR.aft B R L a q2⟩
 ·obtain ⟨q1,q2,q3,v,o,ho,hd⟩:=e.sepC n c h1
  exact ⟨sep _ _ ho q1,q2,q3,v,o,a.frm _ o ho q1 (L.notP ho λvs q=>by rw [hd] at q;cases q),hd⟩
 ·obtain ⟨c,V,q1,⟨o,ho,hd⟩,q3⟩:=e.celv n i v h1 h2 h3
  exact ⟨c,V,q1,⟨o,a.frm _ o ho (e.sepC _ c q1).1 (L.notP ho λvs q=>by rw [hd] at q;cases q),hd⟩,VR.aft B R L a q3⟩
structure NmsOK (C:Cfg) (N:Nms):Prop where
 g:∀p,p∈N.g->∃V,C.mg p.1=some V/\VR C.hb noRf C.gf p.2 V
 f:∀i,i<57/\N.f i≠("":Str)->C.mg (N.f i)=some (.ref (C.fa i))
 c:∀i,i<4->C.mg (N.c i)=some (.ref (C.ca i))
 fn:∀i,i<57->∃o fd,C.K.lookup (C.fa i)=some o/\o.data=.func fd
 kf:∀i,i<57->keepIn C.K (.ref (C.fa i))=true
 kc:∀i,i<4->keepIn C.K (.ref (C.ca i))=true
 ini:∀c f,C.τ.init c=some f->f<57
 ini':∀c n f,C.τ.mth c n=some f->f<57
 b:∀n,C.mg (bltN n)=none/\C.mb (bltN n)=some (bltF n)
 bool:C.mg "bool"=none/\C.mb "bool"=some (.type "bool")
 range:C.mg "range"=none/\C.mb "range"=some (.type "range")
 enum:C.mg "enumerate"=none/\C.mb "enumerate"=some (.type "enumerate")
 fst:∀c,C.τ.fst c=fstT.getD c none
 lpos:N.lpos=C.lpos
 lamT:TriplesOk C.ps.toList
 lamN:codeAmong C.lpos C.ps.toList=none
 lamG:mainGlobals≠C.P
 lamB:C.hb.BuiltinsAt C.mg C.P
 lamC:∀fd,fdAt C 7=some fd->∃c,fd.code=.ref c/\CodeHd C.hb c C.P/\(fd.qualname++".<locals>.":Str)++("<lambda>":Str)=C.lqual
 bind:∀f fd (Vs:List Value) s vs args,fdAt C f=some fd->Bas C s.heap->vs.length=Vs.length->padA C.τ f vs=some args->∃ds Ds,args=vs++ds/\VRs C.hb noRf C.gf ds Ds/\BindsTo s fd ⟨Vs,[]⟩ ((fd.params.args.map (·.arg)).zip (Vs++Ds))
 kw:∀c f fd (Vs:List Value) x s,C.τ.init c=some f->2<=(N.kwl c).length->(N.kwl c).length=Vs.length->fdAt C f=some fd->C.τ.arity f=(N.kwl c).length+1/\(Bas C s.heap->BindsTo s fd ⟨[x],((N.kwl c).map NM).zip Vs⟩ ((fd.params.args.map (·.arg)).zip (x::Vs)))
noncomputable def EvT (C:Cfg) (d:Nat) (Γ:Blk) (x:Expr) (m:Lo) (σ:St) (Φ:AV->St->Prop):Prop:=
 ∀env A s ρ (Q:Value->Shared->Prop),EnvR C Γ env m ρ s.heap->OKA A d->Rel C ρ σ s.heap->Bas C s.heap->aV C ρ s Φ Q ->
  wpAny (model C.prog C.w) A (eval x env) Q (λJ J=>False) s
noncomputable def ContL (C:Cfg) (ρ:Ro) (s:Shared) (Φ:List AV->St->Prop) (Q:List Value->Shared->Prop):Prop:=
 ∀Vs s' ρ' vs σ',Aft C ρ s s' ρ'->Rel C ρ' σ' s'.heap->Bas C s'.heap->VRs s'.heap (ab ρ') C.gf vs Vs->Φ vs σ'->Q Vs s'
noncomputable def ContB (C:Cfg) (ρ:Ro) (s:Shared) (Φ:Bool->St->Prop) (Q:Bool->Shared->Prop):Prop:=
 ∀b s' ρ' σ',Aft C ρ s s' ρ'->Rel C ρ' σ' s'.heap->Bas C s'.heap->Φ b σ'->Q b s'
noncomputable def EsT (C:Cfg) (d:Nat) (Γ:Blk) (xs:List Expr) (m:Lo) (σ:St) (Φ:List AV->St->Prop):Prop:=
 ∀env A s ρ pos (Q:List Value->Shared->Prop),EnvR C Γ env m ρ s.heap->OKA A d->Rel C ρ σ s.heap->Bas C s.heap->ContL C ρ s Φ Q ->
  wpAny (model C.prog C.w) A (spliced (backTo pos (starEach xs env))) Q (λJ J=>False) s
noncomputable def TrT (C:Cfg) (d:Nat) (Γ:Blk) (x:Expr) (m:Lo) (σ:St) (Φ:Bool->St->Prop):Prop:=
 ∀env A s ρ (Q:Bool->Shared->Prop),EnvR C Γ env m ρ s.heap->OKA A d->Rel C ρ σ s.heap->Bas C s.heap->ContB C ρ s Φ Q ->
  wpAny (model C.prog C.w) A (isTrue x env (eval x env)) Q (λJ J=>False) s
theorem aO {α β:Type} [BEq α] [LawfulBEq α] {k:α} {v:β}:∀{l:List (α×β)},l.lookup k=some v->(k,v)∈l:=@λω=>@λψ=>match ω,ψ with
 | [],h=>by simp at h
 | (a,b)::l,h=>by
  simp only [List.lookup_cons] at h
  split at h
  ·rename_i q
   cases h
   rw [eq_of_beq q];exact List.mem_cons_self ..
  ·exact List.mem_cons_of_mem _ (aO h)
theorem ContL.from {C:Cfg} {ρ ρ₁:Ro} {s s₁:Shared} {Φ:List AV->St->Prop} {Q:List Value->Shared->Prop} (k:ContL C ρ s Φ Q) (a:Aft C ρ s s₁ ρ₁):ContL C ρ₁ s₁ Φ Q:=
 λV s' ρ' v σ' b R L hv p=>k V s' ρ' v σ' (a.trans b) R L hv p
theorem ContB.from {C:Cfg} {ρ ρ₁:Ro} {s s₁:Shared} {Φ:Bool->St->Prop} {Q:Bool->Shared->Prop} (k:ContB C ρ s Φ Q) (a:Aft C ρ s s₁ ρ₁):ContB C ρ₁ s₁ Φ Q:=
 λV s' ρ' σ' b R L p=>k V s' ρ' σ' (a.trans b) R L p
theorem notE:∀{a:Bool},(!a)=true->a=false:=@λω=>@λψ=>match ω,ψ with
 | false,J=>rfl
 | true,h=>ffT h
theorem orE {a b:Bool} (h:(a||b)=true):a=true\/b=true:=Bool.or_eq_true_iff.mp h
theorem okB_kind {Γ:Blk} (hG:okB Γ=true):Γ.scp.kind=.function:=eq_of_beq (an2 (an2 (an2 hG).1).1).1
theorem okB_name {Γ:Blk} (hG:okB Γ=true) {k:Nat} {x:Str} (hx:Γ.vis.lookup k=some x):(Γ.scp.names.lookup x=some .local\/Γ.scp.names.lookup x=some .cell)/\(x==("__debug__":Str))=false:=
 have h:=an2 (List.all_eq_true.mp (an2 hG).2 _ (aO hx))
 ⟨(orE h.1).imp odT odT,notE h.2⟩
theorem isG_at {Γ:Blk} {x:Str} (hx:isG Γ x=true):Γ.scp.names.lookup x=some .globalImplicit/\(x==("__debug__":Str))=false:=⟨odT (an2 (an2 hx).1).1,notE (an2 (an2 hx).1).2⟩
section
variable {C:Cfg} {N:Nms} (W:CfgOK C) {Γ:Blk} {ρ:Ro} {σ:St} {s:Shared} {A:Around} {d:Nat} {m:Lo} {env:Env}
theorem EnvR.kindE {h:Heap} (e:EnvR C Γ env m ρ h) (n:Str):env.kindOf n=Γ.scp.names.lookup n:=by unfold Env.kindOf;rw [e.sc]
theorem EnvR.fn {h:Heap} (hG:okB Γ=true) (e:EnvR C Γ env m ρ h):env.scope.kind=.function:=e.sc▸okB_kind hG
theorem name_load {k:Nat} {x:Str} {v:AV} (hG:okB Γ=true) (hx:Γ.vis.lookup k=some x) (hm:m[k]?=some (some v)) (e:EnvR C Γ env m ρ s.heap) {Q:Value->Shared->Prop} {E:Value->Shared->Prop}
  (h:∀V,VR s.heap (ab ρ) C.gf v V->Q V s):wpAny (model C.prog C.w) A (loadName env x) Q E s:=
 (okB_name hG hx).1.elim
  (λhl=>e.loc.elim λJ hn=>(hn.2 k x v hx hm hl).elim λV h1=>wpAny_loadName_local (e.fn hG) ((e.kindE x).trans hl) hn.1 h1.1 (h V h1.2))
  (λhl=>(e.celv k x v hx hm hl).elim λJ hc=>hc.elim λV h1=>wpAny_loadName_cell (e.fn hG) ((e.kindE x).trans hl) h1.1 h1.2.1 (h V h1.2.2))
theorem name_own {k:Nat} {x:Str} {p:Pos} {v:AV} (hG:okB Γ=true) (hx:Γ.vis.lookup k=some x) (hm:m[k]?=some (some v)) (e:EnvR C Γ env m ρ s.heap) {Q:Value->Shared->Prop} {E:Value->Shared->Prop}
  (h:∀V,VR s.heap (ab ρ) C.gf v V->Q V s):wpAny (model C.prog C.w) A (eval (.Name x p) env) Q E s:=wpAny_Name (name_load hG hx hm e h) (okB_name hG hx).2
include W
theorem name_glob {x:Str} {p:Pos} {V:Value} (hG:okB Γ=true) (hx:isG Γ x=true) (L:Bas C s.heap) (e:EnvR C Γ env m ρ s.heap) (hg:C.mg x=some V) {Q:Value->Shared->Prop} {E:Value->Shared->Prop}
  (h:Q V s):wpAny (model C.prog C.w) A (eval (.Name x p) env) Q E s:=
 Name_function_global (e.fn hG) ((e.kindE x).trans (isG_at hx).1) (loadGlobal_global (mg:=C.mg) (e.glob.symm▸Bas.ns W L W.glob) hg h) (isG_at hx).2
theorem name_blt {x:Str} {p:Pos} {V:Value} (hG:okB Γ=true) (hx:isG Γ x=true) (L:Bas C s.heap) (e:EnvR C Γ env m ρ s.heap) (hg:C.mg x=none) (hb:C.mb x=some V) {Q:Value->Shared->Prop} {E:Value->Shared->Prop}
  (h:Q V s):wpAny (model C.prog C.w) A (eval (.Name x p) env) Q E s:=
 Name_function_global (e.fn hG) ((e.kindE x).trans (isG_at hx).1) (loadGlobal_builtin (mg:=C.mg) (mb:=C.mb) (e.glob.symm▸Bas.ns W L W.glob) hg (e.bui.symm▸Bas.ns W L W.buil) hb h) (isG_at hx).2
end
noncomputable def pick (ρ:Ro) (ι:List Nat):Ro:=ι.map λi=>(ρ[i]?).getD []
theorem mapS {α β:Type} {f:α->β} {o:Option α} {b:β} (h:o.map f=some b):∃a,o=some a/\f a=b:=Option.map_eq_some_iff.mp h
theorem rnAs_cons {ι:List Nat} {y:AV} {xs ys:List AV} (e:rnAs ι (y::xs)=some ys):∃z zs,rnA ι y=some z/\rnAs ι xs=some zs/\z::zs=ys:=some2 (f:=List.cons) e
theorem rnK_cons {κ:Type} {ι:List Nat} {k:κ} {y:AV} {xs ys:List (κ×AV)} (e:rnK ι ((k,y)::xs)=some ys):∃z zs,rnA ι y=some z/\rnK ι xs=some zs/\(k,z)::zs=ys:=some2 (f:=λy ys=>(k,y)::ys) e
section
variable {h:Heap} {rf rf' gf:Rf} {ι:List Nat}
theorem rnAs_len:∀{xs ys:List AV},rnAs ι xs=some ys->xs.length=ys.length:=@λω=>@λψ=>@λχ=>match ω,ψ,χ with
 | [],J,e=>congrArg List.length (Option.some.inj e)
 | J::ζ,η,e=>(rnAs_cons e).elim λJ q=>q.elim λJ q=>q.2.2▸congrArg Nat.succ (rnAs_len q.2.1)
theorem rnK_len {κ:Type}:∀{xs ys:List (κ×AV)},rnK ι xs=some ys->xs.length=ys.length:=@λω=>@λψ=>@λχ=>match ω,ψ,χ with
 | [],J,e=>congrArg List.length (Option.some.inj e)
 | (k,J)::ζ,η,e=>(rnK_cons e).elim λJ q=>q.elim λJ q=>q.2.2▸congrArg Nat.succ (rnK_len q.2.1)
variable (hr:∀(j i:Nat),ι[j]?=some i->∀a,rf i=some a->rf' j=some a)
include hr
mutual
theorem VR.pull:∀(v2:AV) {v:AV} {V:Value},rnA ι v2=some v->VR h rf gf v V->VR h rf' gf v2 V:=@λω=>@λψ=>@λχ=>@λϕ=>@λϱ=>match ω,ψ,χ,ϕ,ϱ with
 | .none,J,ζ,e,x=>(Option.some.inj e▸x:VR h rf gf .none _)
 | .bool J,ζ,η,e,x=>(Option.some.inj e▸x:VR h rf gf (.bool _) _)
 | .int J,ζ,η,e,x=>(Option.some.inj e▸x:VR h rf gf (.int _) _)
 | .str J,ζ,η,e,x=>(Option.some.inj e▸x:VR h rf gf (.str _) _)
 | .tup xs,J,ζ,e,x=>(mapS e).elim λys q=>by
  obtain ⟨a,items,h2,h3,h4⟩:=(q.2▸x:VR h rf gf (.tup ys) _)
  exact ⟨a,items,h2,h3,VRs.pull xs q.1 h4⟩
 | .ref j,J,ζ,e,x=>(mapS e).elim λi q=>(q.2▸x:VR h rf gf (.ref i) _).imp λa z=>⟨hr j i q.1 a z.1,z.2⟩
 | .gl J,ζ,η,e,x=>(Option.some.inj e▸x:VR h rf gf (.gl _) _)
theorem VRs.pull:∀(xs:List AV) {ys:List AV} {vs:List Value},rnAs ι xs=some ys->VRs h rf gf ys vs->VRs h rf' gf xs vs:=@λω=>@λψ=>@λχ=>@λϕ=>@λϱ=>match ω,ψ,χ,ϕ,ϱ with
 | [],J,ζ,e,x=>(Option.some.inj e▸x:VRs h rf gf [] _)
 | y::xs,J,ζ,e,x=>(rnAs_cons e).elim λz q=>q.elim λzs q=>(q.2.2▸x:VRs h rf gf (z::zs) _).imp λv x=>x.imp λr x=>⟨x.1,VR.pull y q.1 x.2.1,VRs.pull xs q.2.1 x.2.2⟩
end
theorem KR.pull:∀(kvs:List (Nat×AV)) {kvs':List (Nat×AV)} {l:List (Str×Value)},rnK ι kvs=some kvs'->KR h rf gf kvs' l->KR h rf' gf kvs l:=@λω=>@λψ=>@λχ=>@λϕ=>@λϱ=>match ω,ψ,χ,ϕ,ϱ with
 | [],J,ζ,e,x=>(Option.some.inj e▸x:KR h rf gf [] _)
 | (k,y)::xs,J,ζ,e,x=>(rnK_cons e).elim λz q=>q.elim λzs q=>(q.2.2▸x:KR h rf gf ((k,z)::zs) _).imp λv x=>x.imp λr x=>⟨x.1,x.2.1,VR.pull hr y q.1 x.2.2.1,KR.pull xs q.2.1 x.2.2.2⟩
theorem DR.pull:∀(kvs:List (Nat×AV)) {kvs':List (Nat×AV)} {l:List DictEntry},rnK ι kvs=some kvs'->DR h rf gf kvs' l->DR h rf' gf kvs l:=@λω=>@λψ=>@λχ=>@λϕ=>@λϱ=>match ω,ψ,χ,ϕ,ϱ with
 | [],J,ζ,e,x=>(Option.some.inj e▸x:DR h rf gf [] _)
 | (k,y)::xs,J,ζ,e,x=>(rnK_cons e).elim λz q=>q.elim λzs q=>(q.2.2▸x:DR h rf gf ((k,z)::zs) _).imp λv x=>x.imp λr x=>⟨x.1,x.2.1,x.2.2.1,VR.pull hr y q.1 x.2.2.2.1,DR.pull xs q.2.1 x.2.2.2.2⟩
theorem OR.pull {C:Cfg} {o2 o:AO} {as:List Addr} (e:rnO ι o2=some o) (x:OR C h rf o as):OR C h rf' o2 as:=by
 cases o2 with
 | list xs=>
  obtain ⟨ys,h1,rfl⟩:=mapS e
  exact x.imp λa x=>x.imp λitems x=>⟨x.1,x.2.1,VRs.pull hr xs h1 x.2.2.1,rnAs_len h1▸x.2.2.2⟩
 | sdict xs=>
  obtain ⟨ys,h1,rfl⟩:=mapS e
  exact x.imp λa x=>x.imp λl x=>⟨x.1,x.2.1,KR.pull hr xs h1 x.2.2.1,rnK_len h1▸x.2.2.2⟩
 | inst c fs=>
  obtain ⟨ys,h1,rfl⟩:=mapS e
  exact x.imp λa x=>x.imp λdx x=>x.imp λes x=>x.imp λn x=>⟨x.1,x.2.1,x.2.2.1,DR.pull hr fs h1 x.2.2.2.1,rnK_len h1▸x.2.2.2.2⟩
 | box k=>exact (Option.some.inj e▸x:OR C h rf (.box k) as)
end
section
variable {h:Heap} {ρ:Ro} {ι:List Nat} {gf:Rf}
theorem rf_pick {j i:Nat} (e:ι[j]?=some i):ab (pick ρ ι) j=ab ρ i:=by
 unfold ab pick
 rw [List.getElem?_map,e,Option.map_some]
 cases ρ[i]?<;>rfl
theorem pick_hr (j i:Nat) (e:ι[j]?=some i) (a:Addr) (q:ab ρ i=some a):ab (pick ρ ι) j=some a:=(rf_pick e).trans q
theorem VR.pick (v2:AV) {v:AV} {V:Value} (e:rnA ι v2=some v):VR h (ab ρ) gf v V->VR h (ab (pick ρ ι)) gf v2 V:=VR.pull pick_hr v2 e
theorem VRs.pick (xs:List AV) {ys:List AV} {vs:List Value} (e:rnAs ι xs=some ys):VRs h (ab ρ) gf ys vs->VRs h (ab (Internal.pick ρ ι)) gf xs vs:=VRs.pull pick_hr xs e
theorem OR.pick {C:Cfg} {o2 o:AO} {as:List Addr} (e:rnO ι o2=some o):OR C h (ab ρ) o as->OR C h (ab (Internal.pick ρ ι)) o2 as:=OR.pull pick_hr e
theorem mem_getD {α:Type} {o:Option (List α)} {a:α} (h:a∈o.getD []):∃as,o=some as/\a∈as:=by
 cases o with
 | none=>exact absurd h List.not_mem_nil
 | some as=>exact ⟨as,rfl,h⟩
theorem mem_pick {a:Addr} (ha:a∈(pick ρ ι).flatten):a∈ρ.flatten:=by
 obtain ⟨as,h1,h2⟩:=List.mem_flatten.mp ha
 obtain ⟨i,hi,rfl⟩:=List.mem_map.mp h1
 exact (mem_getD h2).elim λas q=>mem_flat q.1 q.2
theorem nodup_pick (hρ:ρ.flatten.Nodup):∀{ι:List Nat},ι.Nodup->(pick ρ ι).flatten.Nodup:=@λω=>@λψ=>match ω,ψ with
 | [],J=>List.nodup_nil
 | i::ι,hn=>by
  have hn':=List.nodup_cons.mp hn
  show ((ρ[i]?).getD []++(pick ρ ι).flatten).Nodup
  refine List.nodup_append.mpr ⟨?_,nodup_pick hρ hn'.2,λa ha b hb e=>?_⟩
  ·cases hr:ρ[i]? with
   | none=>exact List.nodup_nil
   | some as=>exact List.Sublist.nodup (List.sublist_flatten_of_mem (List.mem_of_getElem? hr)) hρ
  ·obtain ⟨bs,h1,h2⟩:=List.mem_flatten.mp hb
   obtain ⟨j,hj,rfl⟩:=List.mem_map.mp h1
   exact (mem_getD ha).elim λas q=>(mem_getD h2).elim λbs z=>nodup_apart hρ (λy:i=j=>hn'.1 (y▸hj)) q.1 z.1 a q.2 (e▸z.2)
theorem Rel.pick {C:Cfg} {p:Nat} {m m2:Lo} {σ σ2:St} (R:Rel C ρ σ h) (V:VwI p ι m σ m2 σ2):Rel C (pick ρ ι) σ2 h:=by
 have hl:ι.length=σ2.length:=(List.length_map _).symm.trans ((congrArg List.length V.objs).symm.trans (List.length_map _))
 refine ⟨(List.length_map _).trans hl,λj o2 as h1 h2=>?_,nodup_pick R.nd V.nd,λa ha=>R.new a (mem_pick ha)⟩
 have e2:=congrArg (λl=>l[j]?) V.objs
 have hj:j < ι.length:=hl▸(List.getElem?_eq_some_iff.mp h1).1
 have e1:ι[j]?=some ι[j]:=List.getElem?_eq_getElem hj
 simp only [List.getElem?_map,h1,e1,Option.map_some,Option.some.injEq] at e2
 have hlt:=V.lt ι[j] (List.getElem_mem hj)
 have e4:ρ[ι[j]]?=some (ρ[ι[j]]'(R.len▸hlt)):=List.getElem?_eq_getElem _
 unfold Internal.pick at h2
 rw [List.getElem?_map,e1,Option.map_some,e4] at h2
 exact OR.pick (e2.trans (List.getElem?_eq_getElem hlt)) (R.obj _ _ _ (List.getElem?_eq_getElem hlt) (e4.trans h2))
end
theorem VwM.at':∀{ι:List Nat} {m2 m:Lo},VwM ι m2 m->∀(i:Nat) (v2:AV),m2[i]?=some (some v2)->∃v,m[i]?=some (some v)/\rnA ι v2=some v:=@λω=>@λψ=>@λχ=>@λϕ=>match ω,ψ,χ,ϕ with
 | J,[],ζ,η=>λJ J e=>nomatch e
 | J,ζ::η,[],h=>h.elim
 | ι,x2::r2,x::r,h=>λi v2=>match i with
  | 0=>λe=>by
   have h1:=h.1
   rw [show x2=some v2 from Option.some.inj e] at h1
   cases x with
   | none=>exact h1.elim
   | some v=>exact ⟨v,rfl,h1⟩
  | i+1=>VwM.at' h.2 i v2
theorem VwM.at {ι:List Nat} {m2 m:Lo} (h:VwM ι m2 m) {i:Nat} {v2:AV}:m2[i]?=some (some v2)->∃v,m[i]?=some (some v)/\rnA ι v2=some v:=VwM.at' h i v2
theorem pin_rf {p:Nat} {ρ ρ2:Ro} (h:∀j:Nat,j<p->ρ[j]?≠none->ρ2[j]?=ρ[j]?) {j:Nat} {a:Addr} (hj:j<p) (e:ab ρ j=some a):ab ρ2 j=some a:=
 (Option.bind_eq_some_iff.mp e).elim λas q=>Option.bind_eq_some_iff.mpr ⟨as,(h j hj λz=>nomatch q.1.symm.trans z).trans q.1,q.2⟩
theorem view_rel {C:Cfg} {p:Nat} {ρ:Ro} {h:Heap} {m m2:Lo} {σ σ2:St} (R:Rel C ρ σ h) (V:Vw p m σ m2 σ2):
  ∃ρ2,Rel C ρ2 σ2 h/\(∀b∈ρ2.flatten,b∈ρ.flatten) /\
   (∀(i:Nat) (v2:AV),m2[i]?=some (some v2)->∃v,m[i]?=some (some v)/\∀U,VR h (ab ρ) C.gf v U->VR h (ab ρ2) C.gf v2 U)/\(∀j:Nat,j<p->ρ[j]?≠none->ρ2[j]?=ρ[j]?):=by
 rcases V with ⟨rfl,rfl⟩ | ⟨ι,V⟩
 ·exact ⟨ρ,R,λJ h=>h,λi v h=>⟨v,h,λJ q=>q⟩,λJ J J=>rfl⟩
 ·refine ⟨pick ρ ι,Rel.pick R V,λb=>mem_pick,λi v2 h=>(V.los.at h).imp λv q=>⟨q.1,λU=>VR.pick v2 q.2⟩,λj hj hr=>?_⟩
  unfold pick
  rw [List.getElem?_map,V.pin j hj]
  cases hr':ρ[j]? with
  | none=>exact absurd hr' hr
  | some as=>exact congrArg (λo=>some (o.getD [])) hr'
theorem view_ok {C:Cfg} {p:Nat} {ρ₀ ρ:Ro} {s₀ s:Shared} {m m2:Lo} {σ σ2:St} (R:Rel C ρ σ s.heap) (V:Vw p m σ m2 σ2) (hp:ρ₀.length<=p) (a:Aft C ρ₀ s₀ s ρ):
  ∃ρ2,Rel C ρ2 σ2 s.heap/\Aft C ρ₀ s₀ s ρ2/\(∀b∈ρ2.flatten,b∈ρ.flatten) /\
   (∀(i:Nat) (v2:AV),m2[i]?=some (some v2)->∃v,m[i]?=some (some v)/\∀U,VR s.heap (ab ρ) C.gf v U->VR s.heap (ab ρ2) C.gf v2 U)/\(∀j:Nat,j<p->ρ[j]?≠none->ρ2[j]?=ρ[j]?):=
 (view_rel R V).imp λρ2 q=>⟨q.1,⟨a.rest,λi as hi=>(a.ext i as hi).imp λmore h=>(q.2.2.2 i (Nat.lt_of_lt_of_le (List.getElem?_eq_some_iff.mp hi).1 hp) λz=>nomatch h.symm.trans z).trans h,λb hb=>a.fresh b (q.2.1 b hb),a.frm⟩,q.2⟩
theorem getE {α:Type} {o:Option α} {a b:α} (h:o=some a) (k:o=some b):a=b:=Option.some.inj (h.symm.trans k)
theorem noE {α:Type} {o:Option α} {a:α} {P:Prop} (h:o=none) (k:o=some a):P:=nomatch h.symm.trans k
theorem own_rf {C:Cfg} {ρ:Ro} {σ:St} {h:Heap} (R:Rel C ρ σ h) {i:Nat} {xs:List AV} {ax:Addr} (hi:σ[i]?=some (.list xs)) (h1:ab ρ i=some ax):∃items,ρ[i]?=some [ax]/\h.PlainList ax items/\VRs h (ab ρ) C.gf xs items.toList/\xs.length<=SZ:=by
 obtain ⟨as,hr,h2⟩:=Option.bind_eq_some_iff.mp h1
 obtain ⟨b,items,rfl,h3⟩:=R.obj i _ as hi hr
 obtain rfl:b=ax:=Option.some.inj h2
 exact ⟨items,hr,h3⟩
noncomputable abbrev TupK (h h':Heap):Prop:=∀a o,h.get? a=some o->(o.cls=.type "tuple"/\∃xs n,o.data=.seq xs n)->h'.get? a=some o
theorem memN {α:Type} {a:α} {P:Prop} (h:a∈[]):P:=absurd h List.not_mem_nil
theorem memE {α:Type} {a y:α} {ys:List α} {P:Prop} (h:a∈y::ys) (k1:a=y->P) (k2:a∈ys->P):P:=(List.mem_cons.mp h).elim k1 k2
noncomputable def plainO (ob:Obj):Prop:=(∀vs,ob.data=.fields vs->∀q t,vs[1]?≠some (.str q t))/\¬(ob.cls=.type "tuple"/\∃xs n,ob.data=.seq xs n)
noncomputable def noStr:Option Value->Bool:=λω=>match ω with
 | some (.str J ζ)=>false
 | J=>true
theorem plain_fld {ob:Obj} {T:String} {vs:Array Value} (hc:ob.cls=.type T) (hT:(T=="tuple")=false) (hd:ob.data=.fields vs) (hv:noStr vs[1]?=true):plainO ob:=
 ⟨λvs' q q1 t z=>ffT ((show noStr (some (Value.str q1 t))=true from z▸Data.fields.inj (hd.symm.trans q)▸hv)),λq=>by rw [Value.type.inj (hc.symm.trans q.1)] at hT;exact absurd hT (by decide)⟩
inductive ItS (C:Cfg) (j:Nat) (ρ:Ro) (h:Heap):Src->Value->List Addr->Prop
 | list {i:Nat} {I ax:Addr} (h1:ab ρ i=some ax) (h2:h.IsListIter I ax j):ItS C j ρ h (.list i) (.ref I) [I]
 | enum {i:Nat} {e I ax:Addr} {old:Value} (hne:e≠I) (h1:ab ρ i=some ax) (h2:IsEnum h e I (j:Int) old) (h3:h.IsListIter I ax j):ItS C j ρ h (.enum i) (.ref e) [e,I]
 | keys {i:Nat} {I d:Addr} {ep:Nat} (h0:j=0) (h1:ab ρ i=some d) (h2:h.IsKeyIter I d 0 0 ep) (h3:h.DictAt (strKind C.prog C.w) d [] ep):ItS C j ρ h (.keys i) (.ref I) [I]
 | tup {xs:List AV} {I t:Addr} {items:Array Value} (h1:h.IsTupleIter I t j) (h2:h.IsTuple t items) (h3:VRs h (ab ρ) C.gf xs items.toList):ItS C j ρ h (.fix xs) (.ref I) [I]
 | glob {xs:List AV} {I l:Addr} {items:Array Value} (h1:h.IsListIter I l j) (h2:C.hb.IsList l items) (h3:VRs C.hb noRf C.gf xs items.toList):ItS C j ρ h (.fix xs) (.ref I) [I]
 | rng {a:Int} {n:Nat} {I:Addr} (h1:IsRangeIter h I (a+j) ((n:Int)-j) 1):ItS C j ρ h (.rng a n) (.ref I) [I]
section
variable {h h':Heap} {rf rf' gf:Rf}
mutual
theorem VR.noRef (ht:∀a o,h.get? a=some o->(o.cls=.type "tuple"/\∃xs n,o.data=.seq xs n)->h'.get? a=some o):∀(x:AV) {y:AV} {v:Value},rnA [] x=some y->VR h rf gf x v->VR h' rf' gf x v:=@λω=>@λψ=>@λχ=>@λϕ=>@λϱ=>match ω,ψ,χ,ϕ,ϱ with
 | .none,J,ζ,η,q=>q
 | .bool J,ζ,η,θ,q=>q
 | .int J,ζ,η,θ,q=>q
 | .str J,ζ,η,θ,q=>q
 | .tup xs,J,ζ,e,q=>q.imp λa q=>q.imp λitems q=>(mapS e).elim λys z=>⟨q.1,q.2.1.imp λo y=>⟨ht a o y.1 ⟨y.2.1,y.2.2.elim λn e=>⟨_,n,e⟩⟩,y.2⟩,VRs.noRef ht xs z.1 q.2.2⟩
 | .ref j,J,ζ,e,η=>noE (show rnA [] (.ref j)=none from rfl) e
 | .gl J,ζ,η,θ,q=>q
theorem VRs.noRef (ht:∀a o,h.get? a=some o->(o.cls=.type "tuple"/\∃xs n,o.data=.seq xs n)->h'.get? a=some o):∀(xs:List AV) {ys:List AV} {vs:List Value},rnAs [] xs=some ys->VRs h rf gf xs vs->VRs h' rf' gf xs vs:=@λω=>@λψ=>@λχ=>@λϕ=>@λϱ=>match ω,ψ,χ,ϕ,ϱ with
 | [],J,ζ,η,q=>q
 | x::xs,J,ζ,e,q=>q.imp λv q=>q.imp λr q=>(rnAs_cons e).elim λy z=>z.elim λys z=>⟨q.1,VR.noRef ht x z.1 q.2.1,VRs.noRef ht xs z.2.1 q.2.2⟩
end
end
section
variable {C:Cfg} {src:Src} {j:Nat} {it:Value} {ow:List Addr} {ρ:Ro} {h:Heap}
theorem one_get {h:Heap} {I:Addr} {o:Obj} (ho:h.get? I=some o) (p:plainO o):∀a∈[I],∃ob,h.get? a=some ob/\plainO ob:=λJ ha=>List.mem_singleton.mp ha▸⟨o,ho,p⟩
theorem ItS.own (I:ItS C j ρ h src it ow):∀a∈ow,∃ob,h.get? a=some ob/\plainO ob:=by
 cases I with
 | list J x=>exact x.elim λo q=>one_get q.1 (plain_fld q.2.1 rfl q.2.2 rfl)
 | enum J ζ y x=>exact x.elim λo q a ha=>memE ha (λz=>z▸⟨_,y,plain_fld rfl rfl rfl rfl⟩) (one_get q.1 (plain_fld q.2.1 rfl q.2.2 rfl) a)
 | keys J ζ x η=>exact x.elim λo q=>one_get q.1 (plain_fld q.2.1 rfl q.2.2 rfl)
 | tup x J ζ=>exact x.elim λo q=>one_get q.1 (plain_fld q.2.1 rfl q.2.2 rfl)
 | glob x J ζ=>exact x.elim λo q=>one_get q.1 (plain_fld q.2.1 rfl q.2.2 rfl)
 | rng x=>exact one_get x (plain_fld rfl rfl rfl rfl)
theorem ItS.plain (I:ItS C j ρ h src it ow):∀a∈ow,∀ob,h.get? a=some ob->plainO ob:=λa ha J e=>(I.own a ha).elim λJ q=>getE q.1 e▸q.2
theorem ItS.tup' {h':Heap} (I:ItS C j ρ h src it ow) (k:∀b o,b∉ow->h.get? b=some o->h'.get? b=some o):TupK h h':=λb o e hc=>k b o (λq=>(I.plain b q o e).2 hc) e
theorem ItS.mono {p:Nat} {ρ':Ro} {h':Heap} (I:ItS C j ρ h src it ow) (hk:∀i,src≠.keys i) (hp:pinS p src)
  (hown:∀a∈ow,∀o,h.get? a=some o->h'.get? a=some o) (ht:TupK h h')
  (hr:∀(i:Nat) (a:Addr),i<p->ab ρ i=some a->ab ρ' i=some a):ItS C j ρ' h' src it ow:=by
 cases I with
 | list h1 x=>exact .list (hr _ _ hp h1) (x.imp λo q=>⟨hown _ (.head _) o q.1,q.2⟩)
 | enum n h1 y x=>exact .enum n (hr _ _ hp h1) (hown _ (.head _) _ y) (x.imp λo q=>⟨hown _ (.tail _ (.head _)) o q.1,q.2⟩)
 | keys=>exact absurd rfl (hk _)
 | tup x y z=>exact hp.elim λJ e=>.tup (x.imp λo q=>⟨hown _ (.head _) o q.1,q.2⟩) (y.imp λo q=>⟨ht _ o q.1 ⟨q.2.1,q.2.2.elim λn e=>⟨_,n,e⟩⟩,q.2⟩) (VRs.noRef ht _ e z)
 | glob x y z=>exact .glob (x.imp λo q=>⟨hown _ (.head _) o q.1,q.2⟩) y z
 | rng x=>exact .rng (hown _ (.head _) _ x)
theorem ItS.keep {ρ':Ro} {h':Heap} (I:ItS C j ρ h src it ow) (k:∀b o,h.get? b=some o->h'.get? b=some o) (hr:∀i a,ab ρ i=some a->ab ρ' i=some a):ItS C j ρ' h' src it ow:=by
 have t:TupK h h':=λa o e J=>k a o e
 cases I with
 | list h1 x=>exact .list (hr _ _ h1) (x.imp λo q=>⟨k _ o q.1,q.2⟩)
 | enum n h1 y x=>exact .enum n (hr _ _ h1) (k _ _ y) (x.imp λo q=>⟨k _ o q.1,q.2⟩)
 | keys h0 h1 x y=>exact .keys h0 (hr _ _ h1) (x.imp λo q=>⟨k _ o q.1,q.2⟩) (y.imp λo q=>q.imp λes q=>⟨k _ o q.1,q.2⟩)
 | tup x y z=>exact .tup (x.imp λo q=>⟨k _ o q.1,q.2⟩) (y.imp λo q=>⟨k _ o q.1,q.2⟩) (z.mono hr t _)
 | glob x y z=>exact .glob (x.imp λo q=>⟨k _ o q.1,q.2⟩) y z
 | rng x=>exact .rng (k _ _ x)
end
noncomputable def tgOK (src:Src) (tg:Expr):Prop:=match src with
 | .enum J=>∃xs x1 p,tg=.Tuple xs x1 p
 | J=>True
section
variable {prog:Program} {w:World} {A:Around} {E:Value->Shared->Prop} {s:Shared}
theorem letOwned_other {tg:Expr} {I:Addr} {V:Value} {o:Obj} {T:String} {Q:Unit->Shared->Prop} (ho:s.heap.get? I=some o) (hc:o.cls=.type T)
  (hT:["enumerate","zip","dict_itemiterator","dict_reverseitemiterator","odict_iterator","itertools.zip_longest","itertools.pairwise"].contains T=false) (h:Q () s):
  wpAny (model prog w) A (letOwnedTupleGo tg (.ref I) V) Q E s:=by
 have body:wpAny (model prog w) A (do
   let (.ref r,.ref a):=((.ref I,V):Value×Value) | return
   let o <-load r
   match o.cls,o.data with
   | .type n,.fields vs=>
    if ["enumerate","zip","dict_itemiterator","dict_reverseitemiterator","odict_iterator","itertools.zip_longest","itertools.pairwise"].contains n&&vs[0]?==some (rawInt a) then
     rule "for.unpacks-the-owned-tuple"
     updateField r 0 .none
   | J,ζ=>pure ()) Q E s:=by
  cases V with
  | ref a=>
   refine wpAny_bind (wpAny_load ho ?_)
   obtain ⟨c,dd,data,sl⟩:=o
   obtain rfl:c=_:=hc
   cases data<;>first | exact wpAny_pure h | skip
   dsimp only
   rw [hT]
   exact wpAny_pure h
  | _=>exact wpAny_pure h
 cases tg<;>first | exact wpAny_pure h | exact body
end
section
variable {C:Cfg} (W:CfgOK C) {ρ:Ro} {σ:St} {s:Shared} {A:Around} {d:Nat}
theorem VRs.at {h:Heap} {rf gf:Rf} {xs:List AV} {items:Array Value} (k:VRs h rf gf xs items.toList) (j:Nat):(xs[j]?=.none/\items[j]?=.none)\/∃v V,xs[j]?=some v/\items[j]?=some V/\VR h rf gf v V:=by
 rw [<-Array.getElem?_toList]
 cases hx:xs[j]? with
 | none=>exact .inl ⟨rfl,k.none hx⟩
 | some v=>exact .inr ((k.get hx).elim λV q=>⟨v,V,rfl,q⟩)
theorem listE {β:Type} {o:Option AO} {f:List AV->β} {r:β} (e:(o.bind lstO).map f=some r):∃xs,o=some (.list xs)/\f xs=r:=
 (Option.map_eq_some_iff.mp e).imp λJ q=>⟨(Option.bind_eq_some_iff.mp q.1).elim λJ z=>z.1.trans (congrArg some (lstO_at z.2)),q.2⟩
noncomputable def enumF (j:Nat) (xs:List AV):Option AV:=xs[j]?.map λx=>.tup [.int j,x]
theorem keyO_at:∀{o:AO} {r:Option AV},keyO o=some r->r=none:=@λω=>@λψ=>@λχ=>match ω,ψ,χ with
 | .sdict [],J,e=>(Option.some.inj e).symm
 | .sdict (J::ζ),η,e=>ae e
 | .list J,ζ,e=>ae e
 | .inst J ζ,η,e=>ae e
 | .box J,ζ,e=>ae e
noncomputable def OneK (own:List Addr) (h h':Heap):Prop:=∀b o,b∉own->h.get? b=some o->h'.get? b=some o
theorem OneK.of {I:Addr} {h h':Heap} (x:Heap.ExtBut I h h'):OneK [I] h h':=λb o hb e=>x b o (λq=>hb (q▸.head _)) e
noncomputable def NextS (C:Cfg) (ρ:Ro) (s:Shared) (src:Src) (j:Nat) (it:Value) (own:List Addr) (v:AV) (Q:Value->Shared->Prop):Prop:=
 ∀V h' tk,OneK own s.heap h'->VR h' (ab ρ) C.gf v V->ItS C (j+1) ρ h' src it own->(∀i,src≠.keys i)->Q V { s with heap:=h',toks:=tk }
include W
theorem it_next (hA:A.handled=none) (R:Rel C ρ σ s.heap) (L:Bas C s.heap) {src:Src} {j:Nat} {it:Value} {own:List Addr} {tg:Expr} {r:Option AV} {E:Value->Shared->Prop}
  {Q:Value->Shared->Prop} {Qn:Shared->Prop}
  (I:ItS C j ρ s.heap src it own) (ho:∀a∈own,a∉ρ.flatten/\C.hb.get? a=none) (e:itemAt σ src j=some r) (htg:tgOK src tg)
  (kn:r=none->∀h' tk,OneK own s.heap h'->Qn { s with heap:=h',toks:=tk })
  (ks:∀v,r=some v->NextS C ρ s src j it own v Q):
  wpAny (model C.prog C.w) A (pyNext it) (λr s₁=>match r with
   | none=>Qn s₁
   | some v=>wpAny (model C.prog C.w) A (letOwnedTupleGo tg it v) (λJ s₁'=>Q v s₁') E s₁) E s:=by
 have tp:∀{h'},OneK own s.heap h'->TupK s.heap h':=λk=>I.tup' k
 cases I with
 | list h1 h2=>
  refine (listE (f:=λxs=>xs[j]?) e).elim λxs p=>(own_rf R p.1 h1).elim λitems q=>(VRs.at q.2.2.1 j).elim (λz=>?_) λz=>z.elim λv z=>z.elim λV z=>?_
  ·exact wpAny_pyNext_list_end hA h2 q.2.1.isList z.2 λh' kx=>kn (p.2.symm.trans z.1) h' _ (.of kx)
  ·exact wpAny_pyNext_list_item h2 q.2.1.isList z.2.1 λh' hit sb=>hit.elim λoI y=>letOwned_other y.1 y.2.1 (by decide) (ks v (p.2.symm.trans z.1) V h' s.toks (.of sb.extBut) (z.2.2.mono (λJ J e=>e) (tp (.of sb.extBut)) _) (.list h1 hit) nofun)
 | @enum i e' I ax old hne h1 h2 h3=>
  refine (listE (f:=enumF j) e).elim λxs p=>(own_rf R p.1 h1).elim λitems q=>(VRs.at q.2.2.1 j).elim (λz=>?_) λz=>z.elim λv z=>z.elim λV z=>?_
  ·exact wpAny_pyNext_enum_end hA h2 h3 q.2.1.isList z.2 λh' kx=>kn (p.2.symm.trans (congrArg (Option.map λx=>AV.tup [.int j,x]) z.1)) h' s.toks λb o hb e=>kx b o (λq=>hb (q▸.tail _ (.head _))) e
  ·refine htg.elim λxs' z0=>z0.elim λx1 z0=>z0.elim λp' z0=>wpAny_pyNext_enum_item h2 h3 q.2.1.isList z.2.1 hne λh' heo hit htup hsz kp=>z0▸?_
   refine wpAny_letOwnedTupleGo_enum (s:={ s with heap:=h',toks:=s.toks+1 }) heo λh₂ he₂ sb₂=>?_
   have k2:OneK [e',I] s.heap h₂:=λb o hb e=>sb₂.extBut b o (λq=>hb (q▸.head _)) (kp b o (λq=>hb (q▸.head _)) (λq=>hb (q▸.tail _ (.head _))) e)
   refine ks (.tup [.int j,v]) (p.2.symm.trans (congrArg (Option.map λx=>AV.tup [.int j,x]) z.1)) _ h₂ (s.toks+1) k2 ⟨_,_,rfl,⟨_,(sb₂.2 _ (Nat.ne_of_gt (Heap.lt_size h2))).trans htup,rfl,0,rfl⟩,⟨_,_,rfl,⟨_,rfl⟩,V,[],rfl,z.2.2.mono (λJ J e=>e) (tp k2) _,rfl⟩⟩ (.enum hne h1 (by push_cast;exact he₂) (hit.imp λo q=>⟨(sb₂.2 _ (Ne.symm hne)).trans q.1,q.2⟩)) nofun
 | keys h0 h1 h2 h3=>
  subst h0
  have:r=none:=(Option.bind_eq_some_iff.mp e).elim λJ q=>keyO_at q.2
  exact wpAny_pyNext_dict_end hA h2 h3 rfl λh' kx=>kn this h' s.toks (.of kx)
 | tup h1 h2 h3=>
  refine (VRs.at h3 j).elim (λz=>?_) λz=>z.elim λv z=>z.elim λV z=>?_
  ·exact wpAny_pyNext_tuple_end hA h1 h2 z.2 λh' kx=>kn ((Option.some.inj e).symm.trans z.1) h' s.toks (.of kx)
  ·refine wpAny_pyNext_tuple_item h1 h2 z.2.1 λh' hit sb=>hit.elim λoI y=>?_
   have t:=tp (.of sb.extBut)
   exact letOwned_other y.1 y.2.1 (by decide) (ks v ((Option.some.inj e).symm.trans z.1) V h' s.toks (.of sb.extBut) (z.2.2.mono (λJ J e=>e) t _) (.tup hit (h2.imp λo q=>⟨t _ o q.1 ⟨q.2.1,q.2.2.elim λn e=>⟨_,n,e⟩⟩,q.2⟩) (h3.mono (λJ J e=>e) t _)) nofun)
 | @glob J I ζ η h1 h2 h3=>
  have hl:s.heap.IsList _ _:=let ⟨o,q1,q2,n,q3⟩:=h2;⟨o,Bas.old W L q1 (λvs z=>nomatch q3.symm.trans z),q2,n,q3⟩
  refine (VRs.at h3 j).elim (λz=>?_) λz=>z.elim λv z=>z.elim λV z=>?_
  ·exact wpAny_pyNext_list_end hA h1 hl z.2 λh' kx=>kn ((Option.some.inj e).symm.trans z.1) h' s.toks (.of kx)
  ·exact wpAny_pyNext_list_item h1 hl z.2.1 λh' hit sb=>hit.elim λoI y=>letOwned_other y.1 y.2.1 (by decide) (ks v ((Option.some.inj e).symm.trans z.1) V h' s.toks (.of sb.extBut)
    (z.2.2.mono (λJ J e=>noE rfl e) (λb o e hc=>tp (.of sb.extBut) b o (Bas.tup W L b o e hc) hc) _) (.glob hit h2 h3) nofun)
 | @rng a n I h1=>
  have e:=Option.some.inj e
  by_cases hj:j<n
  ·refine wpAny_pyNext_range_item h1 (by omega) λh' hit sb=>letOwned_other (s:={ s with heap:=h',toks:=s.toks+1 }) hit rfl (by decide) (ks (.int (a+j)) (e.symm.trans (if_pos hj)) _ h' (s.toks+1) (.of sb.extBut) ⟨_,rfl⟩ (.rng ?_) nofun)
   have e1:a+((j+1:Nat):Int)=a+j+1:=by push_cast;omega
   have e2:(n:Int)-((j+1:Nat):Int)=n-j-1:=by push_cast;omega
   rw [e1,e2];exact hit
  ·exact wpAny_pyNext_range_end hA h1 (by omega) λh' kx=>kn (e.symm.trans (if_neg hj)) h' s.toks (.of kx)
omit W in
theorem ItS.self {C:Cfg} {src:Src} {it:Value} {own:List Addr} {ρ:Ro} {s:Shared} {A:Around} {Q:Value->Shared->Prop} {E:Value->Shared->Prop} {j:Nat} (I:ItS C j ρ s.heap src it own) (h:Q it s):wpAny (model C.prog C.w) A (pyIter it) Q E s:=by
 cases I with
 | list J h2=>exact wpAny_pyIter_listiter h2 h
 | enum J ζ h2 η=>exact wpAny_pyIter_enum h2 h
 | keys J ζ h2 η=>exact wpAny_pyIter_keyiter h2 h
 | tup h2 J ζ=>exact wpAny_pyIter_tupleiter h2 h
 | glob h2 J ζ=>exact wpAny_pyIter_listiter h2 h
 | rng h2=>exact wpAny_pyIter_rangeiter h2 h
end
theorem Rel.out {C:Cfg} (B:BoxOK C) {ρ:Ro} {σ:St} {h h':Heap} (R:Rel C ρ σ h) (hk:∀b∈ρ.flatten,∀o,h.get? b=some o->h'.get? b=some o)
  (ht:∀a o,h.get? a=some o->(o.cls=.type "tuple"/\∃xs n,o.data=.seq xs n)->h'.get? a=some o):Rel C ρ σ h':=
 ⟨R.len,λi o as h1 h2=>OR.mono (λJ J e=>e) ht B o (λa ha o e=>hk a (mem_flat h2 ha) o e) (R.obj i o as h1 h2),R.nd,R.new⟩
theorem distinct_inj:∀{l:List (Nat×Str)},distinct (l.map (λJ=>J.2))=true->∀{i j:Nat} {x:Str},(i,x)∈l->(j,x)∈l->i=j:=@λω=>@λψ=>@λχ=>@λϕ=>@λϱ=>@λς=>@λϑ=>match ω,ψ,χ,ϕ,ϱ,ς,ϑ with
 | [],J,ζ,η,θ,h,μ=>nomatch h
 | J::l,hd,ζ,η,θ,h1,h2=>
  have no:∀p∈l,∀y:Str,((l.map (λJ=>J.2)).contains y)=false->p.2=y->False:=λp h y q z=>Bool.false_ne_true (q.symm.trans (List.contains_iff_mem.mpr (z▸List.mem_map_of_mem (f:=(λJ=>J.2)) h)))
  memE h1 (λe1=>memE h2 (λe2=>(congrArg Prod.fst e1).trans (congrArg Prod.fst e2).symm) λe2=>(no _ e2 _ (notE (an2 hd).1) (congrArg Prod.snd e1 :)).elim)
   λe1=>memE h2 (λe2=>(no _ e1 _ (notE (an2 hd).1) (congrArg Prod.snd e2 :)).elim) λe2=>distinct_inj (an2 hd).2 e1 e2
theorem okB_inj {Γ:Blk} (hG:okB Γ=true) {k:Nat} {x:Str} (hx:Γ.vis.lookup k=some x) (i:Nat) (hi:Γ.vis.lookup i=some x):i=k:=
 distinct_inj (an2 (an2 (an2 hG).1).1).2 (aO hi) (aO hx)
noncomputable def chg (Γ:Blk) (env:Env) (xs:List Str) (b:Addr):Prop:=b=env.locals\/∃x c,x∈xs/\Γ.scp.names.lookup x=some .cell/\env.cells.lookup x=some c/\b=c
theorem chg.mono {Γ:Blk} {env:Env} {xs ys:List Str} {b:Addr} (h:∀x∈xs,x∈ys) (q:chg Γ env xs b):chg Γ env ys b:=q.imp id (Exists.imp λx=>Exists.imp λJ z=>⟨h x z.1,z.2⟩)
theorem set_slot {m:Lo} {k i:Nat} {u v:AV} (h:(m.set k (some v))[i]?=some (some u)):(i=k/\u=v)\/(i≠k/\m[i]?=some (some u)):=by
 by_cases q:i=k
 ·subst q
  refine .inl ⟨rfl,?_⟩
  have h1:=(List.getElem?_eq_some_iff.mp h).2
  rw [List.getElem_set_self] at h1
  exact (Option.some.inj h1).symm
 ·rw [List.getElem?_set_ne (Ne.symm q)] at h
  exact .inr ⟨q,h⟩
noncomputable def AftB (C:Cfg) (Γ:Blk) (env:Env) (xs:List Str) (m':Lo) (ρ:Ro) (σ:St) (s:Shared) (Q:Unit->Shared->Prop):Prop:=
 ∀h' tk,(∀b o,¬chg Γ env xs b->s.heap.get? b=some o->h'.get? b=some o)->(∀a o,s.heap.get? a=some o->(o.cls=.type "tuple"/\∃xs n,o.data=.seq xs n)->h'.get? a=some o)->EnvR C Γ env m' ρ h'->Rel C ρ σ h'->Bas C h'->Q () { s with heap:=h',toks:=tk }
theorem any_no {α β:Type} (xs:List α) (f:α->β):(xs.map λx=>(false,f x)).findIdx? (λJ=>J.1)=none:=
 List.findIdx?_eq_none_iff.mpr λJ hy=>(List.mem_map.mp hy).elim λJ z=>z.2▸rfl
theorem iteS {α:Type} {c:Prop} [Decidable c] {o:Option α} {b:α} (h:(if c then o else none)=some b):c/\o=some b:=by
 by_cases q:c
 ·exact ⟨q,(if_pos q).symm.trans h⟩
 ·exact nomatch (if_neg q).symm.trans h
section
variable {C:Cfg} {Γ:Blk} {ρ:Ro} {m:Lo} {env:Env}
theorem EnvR.upd {h h':Heap} {k:Nat} {x:Str} {v:AV} {V:Value} (hG:okB Γ=true) (hx:Γ.vis.lookup k=some x) (e:EnvR C Γ env m ρ h) (hv:VR h (ab ρ) C.gf v V)
  (ht:∀a o,h.get? a=some o->(o.cls=.type "tuple"/\∃xs n,o.data=.seq xs n)->h'.get? a=some o)
  {mc mc':Str->Option Value} (q:∀i n v,Γ.vis.lookup i=some n->m[i]?=some (some v)->Γ.scp.names.lookup n=some .local->∃V,mc n=some V/\VR h (ab ρ) C.gf v V)
  (hn:h'.Ns env.locals mc') (hn1:∀n,n≠x->mc' n=mc n) (hn2:Γ.scp.names.lookup x=some .local->mc' x=some V)
  (hc:∀n c vv,env.cells.lookup n=some c->h.IsCell c vv->(n≠x->h'.IsCell c vv)/\(∃u,h'.IsCell c u)/\(n=x->Γ.scp.names.lookup x=some .cell->h'.IsCell c (some V))):EnvR C Γ env (m.set k (some v)) ρ h' where
 sc:=e.sc
 glob:=e.glob
 bui:=e.bui
 sepL:=e.sepL
 loc:=⟨mc',hn,λi n u h1 h2 h3=>(set_slot h2).elim
  (λy=>have hnx:n=x:=Option.some.inj (h1.symm.trans (y.1▸hx));⟨V,hnx▸hn2 (hnx▸h3),y.2▸hv.mono (λJ J q=>q) ht _⟩)
  (λy=>(q i n u h1 y.2 h3).elim λU w=>⟨U,(hn1 n λhnx=>y.1 (okB_inj hG hx i (hnx▸h1))).trans w.1,w.2.mono (λJ J q=>q) ht _⟩)⟩
 sepC:=λn c h1=>have g:=e.sepC n c h1;⟨g.1,g.2.1,g.2.2.1,g.2.2.2.elim λvv q=>(hc n c vv h1 q).2.1⟩
 celv:=λi n u h1 h2 h3=>(set_slot h2).elim
  (λy=>have hnx:n=x:=Option.some.inj (h1.symm.trans (y.1▸hx));(e.celh n h3).elim λc h4=>(e.sepC n c h4).2.2.2.elim λvv q=>⟨c,V,h4,(hc n c vv h4 q).2.2 hnx (hnx▸h3),y.2▸hv.mono (λJ J q=>q) ht _⟩)
  (λy=>(e.celv i n u h1 y.2 h3).elim λc w=>w.elim λU w=>⟨c,U,w.1,(hc n c _ w.1 w.2.1).1 (λhnx=>y.1 (okB_inj hG hx i (hnx▸h1))),w.2.2.mono (λJ J q=>q) ht _⟩)
 celd:=e.celd
 celh:=e.celh
 cod:=e.cod
variable (W:CfgOK C) {σ:St} {s:Shared} {A:Around} {E:Value->Shared->Prop} {Q:Unit->Shared->Prop}
theorem IsCell.kp {h h':Heap} {c:Addr} {v:Option Value} (x:h.IsCell c v) (k:∀o,h.get? c=some o->h'.get? c=some o):h'.IsCell c v:=x.elim λo z=>⟨o,k o z.1,z.2⟩
theorem upd_at {h':Heap} {a:Addr} {o:Obj} (B:BoxOK C) (R:Rel C ρ σ s.heap) (L:Bas C s.heap) (sb:Heap.SameBut a s.heap h') (ha:a∉ρ.flatten/\C.hb.get? a=none) (ho:s.heap.get? a=some o) (h1:∀vs,o.data≠.fields vs) (h2:¬∃xs n,o.data=.seq xs n):
  (∀b o,b≠a->s.heap.get? b=some o->h'.get? b=some o)/\(∀a o,s.heap.get? a=some o->(o.cls=.type "tuple"/\∃xs n,o.data=.seq xs n)->h'.get? a=some o)/\Rel C ρ σ h'/\Bas C h':=
 have ne:∀b q,s.heap.get? b=some q->(∃xs n,q.data=.seq xs n)->b≠a:=λb q e d z=>h2 (Option.some.inj ((z▸e:s.heap.get? a=some q).symm.trans ho)▸d)
 have ht:=λb q e (d:_/\_)=>sb.extBut b q (ne b q e d.2) e
 ⟨λb o hb q=>sb.extBut b o hb q,ht,R.out B (λb hb o q=>sb.extBut b o (λz=>ha.1 (z▸hb)) q) ht,
  L.kp (Kp.of_same sb) λb hb=>List.mem_singleton.mp hb▸⟨ha.2,λob q=>Option.some.inj (ho.symm.trans q)▸h1⟩⟩
include W
theorem st_store {k:Nat} {x:Str} {v:AV} {V:Value} (hG:okB Γ=true) (hx:Γ.vis.lookup k=some x) (e:EnvR C Γ env m ρ s.heap) (R:Rel C ρ σ s.heap) (L:Bas C s.heap)
  (hv:VR s.heap (ab ρ) C.gf v V)
  (K:AftB C Γ env [x] (m.set k (some v)) ρ σ s Q):
  wpAny (model C.prog C.w) A (storeName env x V) Q E s:=by
 rcases (okB_name hG hx).1 with hl | hl
 ·refine e.loc.elim λmc q=>wpAny_storeName_local ((e.kindE x).trans hl) q.1 (λh' hn' sb=>?_) (by rw [e.fn hG];rfl)
  refine q.1.elim λo q0=>q0.elim λes q0=>q0.elim λep q0=>?_
  have u:=upd_at W.box R L sb e.sepL q0.1 (λvs z=>nomatch q0.2.1.symm.trans z) (λz=>z.elim λJ z=>z.elim λJ z=>nomatch q0.2.1.symm.trans z)
  refine K h' _ (λb o hb=>u.1 b o λz=>hb (.inl z)) u.2.1 (e.upd hG hx hv u.2.1 q.2 hn' (λn hn=>if_neg hn) (λJ=>if_pos rfl) λn c vv h1 h2=>?_) u.2.2.1 u.2.2.2
  have g:=IsCell.kp h2 (λJ=>u.1 c J (e.sepC n c h1).2.2.1)
  exact ⟨λJ=>g,⟨vv,g⟩,λJ z=>nomatch hl.symm.trans z⟩
 ·refine (e.celh x hl).elim λc hc=>(e.sepC x c hc).2.2.2.elim λvv hcell=>wpAny_storeName_cell (e.fn hG) ((e.kindE x).trans hl) hc hcell λh' hcell' sb=>?_
  have q:=e.sepC x c hc
  refine hcell.elim λo q0=>e.loc.elim λmc z=>?_
  have u:=upd_at W.box R L sb ⟨q.1,q.2.1⟩ q0.1 (λvs z=>nomatch q0.2.symm.trans z) (λz=>z.elim λJ z=>z.elim λJ z=>nomatch q0.2.symm.trans z)
  refine K h' _ (λb o hb=>u.1 b o λz=>hb (.inr ⟨x,c,.head _,hl,hc,z⟩)) u.2.1 (e.upd hG hx hv u.2.1 z.2 (z.1.at' λo=>u.1 _ o q.2.2.1.symm) (λJ J=>rfl) (λz=>nomatch hl.symm.trans z) λn c' v' h1 h2=>?_) u.2.2.1 u.2.2.2
  refine ⟨λhn=>IsCell.kp h2 (λJ=>u.1 c' J λz=>hn (e.celd n x c (z▸h1) hc)),?_,λz J=>Option.some.inj (hc.symm.trans (z▸h1))▸hcell'⟩
  by_cases z:c'=c
  ·exact ⟨_,z▸hcell'⟩
  ·exact ⟨v',IsCell.kp h2 (λJ=>u.1 c' J z)⟩
theorem st_names (hG:okB Γ=true):∀(ks:List Nat) (xs:List Expr) (vs:List AV),l22 (ckN Γ) ks xs=true->vs.length=ks.length->∀(Vs:List Value) (m m':Lo) (s:Shared),VRs s.heap (ab ρ) C.gf vs Vs->aw.go ks vs m=some m' ->
  EnvR C Γ env m ρ s.heap->Rel C ρ σ s.heap->Bas C s.heap->AftB C Γ env (nmsOf xs) m' ρ σ s Q->wpAny (model C.prog C.w) A (assignInOrder (xs.map λx=>assign x env) Vs) Q E s:=λω ψ χ ϕ ϱ=>match ω,ψ,χ,ϕ,ϱ with
 | [],[],[],J,ζ=>λVs m m' s hv hb e R L K=>by
  obtain rfl:Vs=[]:=hv
  obtain rfl:m=m':=Option.some.inj hb
  exact wpAny_assignInOrder_none (K _ _ (λJ J J q=>q) (λJ J q J=>q) e R L)
 | [],J::ζ,η,h,θ=>ffT h
 | J::ζ,[],η,h,θ=>ffT h
 | [],[],J::ζ,η,h=>nomatch h
 | J::ζ,η::θ,[],μ,h=>nomatch h
 | k::ks,x::xs,v::vs,h,hl=>λJ J J s hv hb e R L=>by
  obtain ⟨V,r,rfl,hv1,hv2⟩:=hv
  refine e_Name (P:=λx=>AftB C Γ env (nmsOf (x::xs)) _ ρ σ _ Q->wpAny (model C.prog C.w) A (assignInOrder ((x::xs).map λx=>assign x env) (V::r)) Q E _) (an2 h).1 λn p hx K=>?_
  refine wpAny_assignInOrder_more (wpAny_assign_Name (st_store W hG (odT hx) e R L hv1 λh₁ tk₁ kp ht e₁ R₁ L₁=>?_))
  refine st_names hG ks xs vs (an2 h).2 (Nat.succ.inj hl) r _ _ { s with heap:=h₁,toks:=tk₁ } (hv2.mono (λJ J q=>q) ht _) (iteS hb).2 e₁ R₁ L₁ λh' tk kp' ht'=>K h' tk (λb o hb q=>?_) λa o q c=>ht' a o (ht a o q c) c
  exact kp' b o (λz=>hb (z.mono λy q=>.tail _ q)) (kp b o (λz=>hb (z.mono λy q=>List.mem_singleton.mp q▸.head _)) q)
omit W in
theorem each_names:∀(ks:List Nat) (xs:List Expr),l22 (ckN Γ) ks xs=true->assignEach xs env=xs.map (λx=>(false,assign x env))/\xs.length=ks.length:=λω ψ χ=>match ω,ψ,χ with
 | [],[],J=>⟨rfl,rfl⟩
 | [],J::ζ,h=>ffT h
 | J::ζ,[],h=>ffT h
 | J::ks,ζ::xs,h=>have q:=each_names ks xs (an2 h).2
  ⟨e_Name (P:=λx=>assignEach (x::xs) env=(x::xs).map (λx=>(false,assign x env))) (an2 h).1 λJ J J=>congrArg (λJ=>_::J) q.1,congrArg Nat.succ q.2⟩
set_option tactic.hygienic true in
theorem p_bind {t:T} {tg:Expr} {v:AV} {V:Value} {m':Lo} (hG:okB Γ=true) (hA:A.handled=none) (hT:ckT Γ t tg=true) (hb:aw t v m=some m') (e:EnvR C Γ env m ρ s.heap) (R:Rel C ρ σ s.heap) (L:Bas C s.heap)
  (hv:VR s.heap (ab ρ) C.gf v V) (K:AftB C Γ env (tgN tg) m' ρ σ s Q):wpAny (model C.prog C.w) A (assign tg env V) Q E s:=by
 revert K
 cases t with
 | v k=>exact e_Name (P:=λtg=>AftB C Γ env (tgN tg) m' ρ σ s Q->wpAny (model C.prog C.w) A (assign tg env V) Q E s) hT λn p h K=>wpAny_assign_Name (st_store W hG (odT h) e R L hv (Option.some.inj (iteS hb).2▸K))
 | tup ks=>
  refine e_Tuple (P:=λtg=>AftB C Γ env (tgN tg) m' ρ σ s Q->wpAny (model C.prog C.w) A (assign tg env V) Q E s) hT λxs x1 p h K=>?_
  cases v<;>first | exact ae hb | skip
  rename_i vs
  obtain ⟨t,items,rfl,ht,hvs⟩:=hv
  have q:=each_names (env:=env) ks xs (an2 h).1
  have hl:=(iteS hb).1
  refine wpAny_assign_Tuple hA ht (by rw [q.1,List.length_map,q.2,hl,hvs.size]) (by rw [q.1];exact any_no xs _) λh' kx=>?_
  have kp:∀b o,s.heap.get? b=some o->h'.get? b=some o:=λb o q=>kx b o (Nat.ne_of_lt (Heap.lt_size q)) q
  have a:=aE (tk:=s.toks) W.box R L kp
  rw [q.1,List.map_map]
  exact st_names W hG ks xs vs (an2 h).1 hl.symm _ _ _ { s with heap:=h' } (hvs.mono (λJ J q=>q) (λa o q J=>kp a o q) _) (iteS hb).2 (e.aft W.box R L a.1) a.2.1 a.2.2 λh₂ tk₂ kp₂ ht₂=>K h₂ tk₂ (λb o hb q=>kp₂ b o hb (kp b o q)) λa o q c=>ht₂ a o (kp a o q) c
end
theorem codeAny_comp_any {prog:Program} {w:World} {A:Around} {R:Result->Shared->Prop} {s:Shared} {elt target iter:Expr} {ifs:List Expr} {scope:Scope} {pos:Pos} {it acc:Value} {env:Env} (I:Nat->Shared->Prop)
  (turn:∀n s,I n s->wpAny (model prog w) A (pyNext it) (λr s₁=>match r with
   | none=>R (.ok .next) s₁
   | some v=>wpAny (model prog w) A (letOwnedTupleGo target it v) (λJ s₁'=>wpAny (model prog w) A (assign target env v) (λJ s₂=>
     wpAny (model prog w) A (forIn ifs true λc r=>if r=true then do let ok <-isTrue c env (eval c env);pure (ForInStep.yield ok) else pure (ForInStep.yield r)) (λok s₃=>
      if ok=true then wpAny (model prog w) A (eval elt env) (λx s₄=>
       wpAny (model prog w) A (call (.builtin "list.append") [acc,x]) (λJ s₅=>∃m,m<n/\I m s₅) (λJ J=>False) s₄) (λJ J=>False) s₃
      else ∃m,m<n/\I m s₃) (λJ J=>False) s₂) (λJ J=>False) s₁') (λJ J=>False) s₁) (λJ J=>False) s)
  (n:Nat) (h:I n s):codeAny (model prog w) A (.compLoop (.ListComp elt [⟨target,iter,ifs,0⟩] scope pos) 0 it acc env) R s:=by
 refine codeAny_loop rfl I (λn s hI=>?_) n h
 show wpAny _ A ((compTurn (.ListComp elt [⟨target,iter,ifs,0⟩] scope pos) 0 it acc env).onRaise (λx=>do noteFrame x env;theTreesLotGoes x)) _ _ s
 refine wpAny_noted ?_
 rw [compTurn_list]
 refine wpAny_bind (wpAny_standAt (wpAny_bind (wpAny_mono (turn n s hI) (λr s₁ h₁=>?_) λJ J h'=>h'.elim)))
 cases r with
 | none=>exact wpAny_pure h₁
 | some v=>
  refine wpAny_bind (wpAny_mono h₁ (λJ s₁' h₂=>wpAny_bind (wpAny_mono h₂ (λJ s₂ h₂=>wpAny_bind (wpAny_mono h₂ (λok s₃ h₃=>?_) λJ J h'=>h'.elim)) λJ J h'=>h'.elim)) λJ J h'=>h'.elim)
  cases ok with
  | false=>exact wpAny_pure ⟨rfl,h₃⟩
  | true=>
   exact wpAny_bind (wpAny_bind (wpAny_mono h₃ (λx s₄ h₄=>wpAny_bind (wpAny_mono h₄ (λJ s₅ h₅=>wpAny_pure (wpAny_pure ⟨rfl,h₅⟩)) λJ J h'=>h'.elim)) λJ J h'=>h'.elim))
noncomputable def closeL (cells:List (Str×Addr)):List (Str×NameKind)->List (Str×Addr)->List (Str×Addr):=λω ψ=>match ω,ψ with
 | [],acc=>acc
 | (n,k)::r,acc=>if k==.free then closeL cells r ((n,(cells.lookup n).getD 0)::acc) else closeL cells r acc
theorem closeL_ok {cells:List (Str×Addr)}:∀(names:List (Str×NameKind)) (acc:List (Str×Addr)),(∀x∈names,x.2=.free->∃c,cells.lookup x.1=some c)->(∀n c,acc.lookup n=some c->cells.lookup n=some c) ->
  (∀n c,(closeL cells names acc).lookup n=some c->cells.lookup n=some c)/\(∀x∈names,x.2=.free->∃c,(closeL cells names acc).lookup x.1=some c)/\(∀n c,acc.lookup n=some c->∃c',(closeL cells names acc).lookup n=some c'):=λω ψ χ ϕ=>match ω,ψ,χ,ϕ with
 | [],acc,J,ha=>⟨ha,λx hx=>by simp at hx,λn c h=>⟨c,h⟩⟩
 | (n,k)::r,acc,hf,ha=>by
  unfold closeL
  split
  ·rename_i hk
   obtain ⟨c,hc⟩:=hf (n,k) (List.mem_cons_self ..) (by simpa using hk)
   have ha':∀n' c',((n,(cells.lookup n).getD 0)::acc).lookup n'=some c'->cells.lookup n'=some c':=λn' c' h=>by
    simp only [List.lookup_cons] at h
    split at h
    ·rename_i q
     rw [eq_of_beq q]
     simp only at hc
     rw [hc] at h ⊢;exact h
    ·exact ha n' c' h
   obtain ⟨h1,h2,h3⟩:=closeL_ok r ((n,(cells.lookup n).getD 0)::acc) (λx hx=>hf x (List.mem_cons_of_mem _ hx)) ha'
   refine ⟨h1,λx hx hfree=>?_,λn' c' h=>?_⟩
   ·rcases List.mem_cons.mp hx with e | e
    ·subst e;exact h3 n _ (by simp [List.lookup_cons];rfl)
    ·exact h2 x e hfree
   ·by_cases q:n'=n
    ·subst q;exact h3 n' _ (by simp [List.lookup_cons];rfl)
    ·have q':(n'==n)=false:=by simpa using q
     exact h3 n' c' (by simp only [List.lookup_cons,q'];exact h)
  ·rename_i hk
   obtain ⟨h1,h2,h3⟩:=closeL_ok r acc (λx hx=>hf x (List.mem_cons_of_mem _ hx)) ha
   refine ⟨h1,λx hx hfree=>?_,h3⟩
   rcases List.mem_cons.mp hx with e | e
   ·subst e;exact absurd (by simpa using hfree:k=.free) (by simpa using hk)
   ·exact h2 x e hfree
theorem closure_eq {scope:Scope} {env:Env} (hf:∀x∈scope.names,x.2=.free->∃c,env.cells.lookup x.1=some c):closureFor scope env=pure (closeL env.cells scope.names []):=by
 have gen:∀(names:List (Str×NameKind)) (acc:List (Str×Addr)),(∀x∈names,x.2=.free->∃c,env.cells.lookup x.1=some c) ->
   (forIn names acc (λ(x:Str×NameKind) (cs:List (Str×Addr))=>if (x.2==.free)=true then (do let a <-cellOf env x.1;pure (ForInStep.yield ((x.1,a)::cs))) else pure (ForInStep.yield cs):Str×NameKind->List (Str×Addr)->Sem _))=(pure (closeL env.cells names acc):Sem _):=by
  intro names
  induction names with
  | nil=>intro acc _;rfl
  | cons x r ih=>
   intro acc hf
   obtain ⟨n,k⟩:=x
   rw [List.forIn_cons]
   unfold closeL
   by_cases hk:k==.free
   ·obtain ⟨c,hc⟩:=hf (n,k) (List.mem_cons_self ..) (by simpa using hk)
    simp only at hc
    simp only [hk,if_true]
    have:cellOf env n=pure c:=by unfold cellOf;rw [hc]
    rw [this]
    simp only [pure_bind,hc,Option.getD_some]
    exact ih _ λx hx=>hf x (List.mem_cons_of_mem _ hx)
   ·simp only [hk]
    simp only [Bool.false_eq_true,if_false,pure_bind]
    exact ih _ λx hx=>hf x (List.mem_cons_of_mem _ hx)
 unfold closureFor
 have:=gen scope.names [] hf
 simp only [bind_pure]
 exact this
theorem clrs_at:∀{vs:List Nat} {m:Lo} {i:Nat} {v:AV},(clrs vs m)[i]?=some (some v)->m[i]?=some (some v)/\i∉vs:=@λω=>@λψ=>@λχ=>@λϕ=>@λϱ=>match ω,ψ,χ,ϕ,ϱ with
 | [],m,i,v,h=>⟨h,by simp⟩
 | k::vs,m,i,v,h=>by
  obtain ⟨h1,h2⟩:=clrs_at (vs:=vs) h
  rw [List.getElem?_set] at h1
  split at h1
  ·split at h1<;>cases h1
  ·rename_i hne
   exact ⟨h1,λq=>by rcases List.mem_cons.mp q with z | z;exact hne z.symm;exact h2 z⟩
theorem lookup_append {α β:Type} [BEq α] {k:α}:∀{l₁ l₂:List (α×β)},(l₁++l₂).lookup k=match l₁.lookup k with | some v=>some v | none=>l₂.lookup k:=@λω=>@λψ=>match ω,ψ with
 | [],l₂=>rfl
 | (a,b)::l₁,l₂=>by
  simp only [List.cons_append,List.lookup_cons]
  split
  ·rfl
  ·exact lookup_append
theorem lookup_of_mem {l:List (Nat×Str)} (hd:distinctN (l.map (λJ=>J.1))=true) {i:Nat} {x:Str} (h:(i,x)∈l):l.lookup i=some x:=by
 induction l with
 | nil=>simp at h
 | cons a l ih=>
  obtain ⟨j,y⟩:=a
  simp only [List.map_cons,distinctN,Bool.and_eq_true,Bool.not_eq_true',List.contains_eq_mem,decide_eq_false_iff_not] at hd
  simp only [List.lookup_cons]
  rcases List.mem_cons.mp h with e | e
  ·cases e;simp
  ·have hne:i≠j:=λq=>hd.1 (q▸List.mem_map_of_mem (f:=(λJ=>J.1)) e)
   have:(i==j)=false:=by simpa using hne
   rw [this];exact ih hd.2 e
theorem relB_lookup {scope outer:Scope} (n:Str) (k:NameKind) (h:scope.names.lookup n=some k):
  (relB scope outer).names.lookup n=some (if (k==.free&&outer.kind==.function&&outer.names.lookup n==some .cell) then .cell else k):=by
 unfold relB
 simp only
 generalize scope.names=l at h
 induction l with
 | nil=>simp at h
 | cons a l ih=>
  obtain ⟨x,kx⟩:=a
  simp only [List.lookup_cons] at h
  simp only [List.map_cons]
  by_cases q:n=x
  ·subst q
   simp only [beq_self_eq_true] at h
   cases h
   split<;>simp [List.lookup_cons, *]
  ·have q':(n==x)=false:=by simpa using q
   rw [q'] at h
   split<;>(simp only [List.lookup_cons,q'];exact ih h)
theorem relB_none {scope outer:Scope} (n:Str) (h:scope.names.lookup n=none):(relB scope outer).names.lookup n=none:=by
 unfold relB
 simp only
 generalize scope.names=l at h
 induction l with
 | nil=>rfl
 | cons a l ih=>
  obtain ⟨x,kx⟩:=a
  simp only [List.lookup_cons] at h
  simp only [List.map_cons]
  by_cases q:n=x
  ·subst q;simp at h
  ·have q':(n==x)=false:=by simpa using q
   rw [q'] at h
   split<;>(simp only [List.lookup_cons,q'];exact ih h)
theorem relB_cell {scope outer:Scope} {n:Str} (hno:∀x∈scope.names,x.2≠.cell) (h:(relB scope outer).names.lookup n=some .cell):scope.names.lookup n=some .free/\outer.names.lookup n=some .cell:=by
 cases hk:scope.names.lookup n with
 | none=>rw [relB_none n hk] at h;cases h
 | some k=>
  rw [relB_lookup n k hk] at h
  split at h
  ·rename_i hc
   simp only [Bool.and_eq_true,beq_iff_eq] at hc
   exact ⟨by rw [hc.1.1],hc.2⟩
  ·cases h
   exact absurd rfl (hno _ (aO hk))
theorem rel_eq {scope:Scope} {env:Env} {Γ:Blk} (h:env.scope=Γ.scp):relabel scope env=relB scope Γ.scp:=by
 unfold relabel relB Env.kindOf
 rw [h]
structure CompH (Γ:Blk) (scope:Scope) (vs:List Nat) (tg:Expr):Prop where
 kind:scope.kind=.function
 noC:∀x∈scope.names,x.2≠.cell
 loc:∀x∈scope.names,x.2=.local->scope.names.lookup x.1=some .local
 free:∀x∈scope.names,x.2=.free->Γ.scp.names.lookup x.1=some .cell
 len:vs.length=(tgN tg).length
 ok:okB (inB Γ scope vs tg)=true
 own:∀x∈tgN tg,scope.names.lookup x=some .local
theorem okComp_at {Γ:Blk} {scope:Scope} {vs:List Nat} {tg:Expr} (h:okComp Γ scope vs tg=true):CompH Γ scope vs tg:=by
 unfold okComp at h
 simp only [Bool.and_eq_true,List.all_eq_true,decide_eq_true_eq,beq_iff_eq,Bool.or_eq_true,bne_iff_ne,ne_eq] at h
 obtain ⟨⟨⟨⟨h1,h2⟩,h3⟩,h4⟩,h5⟩:=h
 refine ⟨h1,λx hx=>(h2 x hx).1.1,λx hx q=>?_,λx hx q=>?_,h3,h4,h5⟩
 ·rcases (h2 x hx).1.2 with z | z
  ·exact absurd q z
  ·exact z
 ·rcases (h2 x hx).2 with z | z
  ·exact absurd q z
  ·exact z
set_option tactic.hygienic true in
theorem inner_env {C:Cfg} {Γ:Blk} {env cenv:Env} {m:Lo} {ρ:Ro} {h:Heap} {scope:Scope} {vs:List Nat} {tg:Expr} {mc:Str->Option Value} (H:CompH Γ scope vs tg) (hG:okB Γ=true) (e:EnvR C Γ env m ρ h)
  (h1:cenv.scope=relB scope Γ.scp) (h2:cenv.globals=env.globals) (h3:cenv.builtins=env.builtins) (h4:cenv.cells=closeL env.cells scope.names [])
  (h5:cenv.code=env.code) (h6:cenv.qual=env.qual) (hn:h.Ns cenv.locals mc) (hs:cenv.locals∉ρ.flatten/\C.hb.get? cenv.locals=none) (hc:∀n c,env.cells.lookup n=some c->c≠cenv.locals):
  EnvR C (inB Γ scope vs tg) cenv (clrs vs m) ρ h:=by
 have hf:∀x∈scope.names,x.2=.free->∃c,env.cells.lookup x.1=some c:=λx hx q=>e.celh x.1 (H.free x hx q)
 obtain ⟨c1,c2,_⟩:=closeL_ok (cells:=env.cells) scope.names [] hf (λn c q=>by simp at q)
 have hdist:distinctN (Γ.vis.map (λJ=>J.1))=true:=by
  unfold okB at hG
  simp only [Bool.and_eq_true] at hG
  exact hG.1.2
 have outer:∀{i:Nat} {n:Str} {v:AV},(inB Γ scope vs tg).vis.lookup i=some n->(clrs vs m)[i]?=some (some v)->Γ.vis.lookup i=some n/\m[i]?=some (some v)/\(relB scope Γ.scp).names.lookup n=some .cell:=by
  intro i n v q1 q2
  obtain ⟨q3,q4⟩:=clrs_at q2
  unfold inB at q1
  simp only at q1
  rw [lookup_append] at q1
  split at q1
  ·rename_i y hy
   exact absurd (List.of_mem_zip (aO hy)).1 q4
  ·have hm:=aO q1
   obtain ⟨hm1,hm2⟩:=List.mem_filter.mp hm
   exact ⟨lookup_of_mem hdist hm1,q3,odT hm2⟩
 refine ⟨h1,by rw [h2,e.glob],by rw [h3,e.bui],hs,⟨mc,hn,λi n v q1 q2 q3=>?_⟩,λn c q=>?_,λi n v q1 q2 q3=>?_,λn n' c q1 q2=>?_,λn q=>?_,?_⟩
 ·obtain ⟨_,_,q6⟩:=outer q1 q2
  have:(inB Γ scope vs tg).scp=relB scope Γ.scp:=rfl
  rw [this,q6] at q3;cases q3
 ·rw [h4] at q
  obtain ⟨g1,g2,g3,g4⟩:=e.sepC n c (c1 n c q)
  exact ⟨g1,g2,hc n c (c1 n c q),g4⟩
 ·obtain ⟨q4,q5,q6⟩:=outer q1 q2
  obtain ⟨hfree,hcell⟩:=relB_cell H.noC q6
  obtain ⟨c,V,g1,g2,g3⟩:=e.celv i n v q4 q5 hcell
  obtain ⟨c',g4⟩:=c2 (n,.free) (aO hfree) rfl
  have:=c1 n c' g4
  rw [g1] at this;cases this
  exact ⟨c,V,by rw [h4];exact g4,g2,g3⟩
 ·rw [h4] at q1 q2
  exact e.celd n n' c (c1 n c q1) (c1 n' c q2)
 ·obtain ⟨hfree,hcell⟩:=relB_cell H.noC q
  obtain ⟨c',g4⟩:=c2 (n,.free) (aO hfree) rfl
  exact ⟨c',by rw [h4];exact g4⟩
 ·rw [h5,h6];exact e.cod
theorem LamOK.kp2 {C:Cfg} {h h':Heap} {as:List Addr} (L:LamOK C h) (k:Kp as h h') (hP:C.P∉as) (hn:∀a∈as,∀ob,h.get? a=some ob->plainO ob):LamOK C h':=by
 rcases L with e | ⟨c,e,⟨c',o,vs,t,ec,g,d,r⟩,hc⟩
 ·exact .inl (k _ _ e hP)
 ·exact .inr ⟨c,k _ _ e hP,⟨c',o,vs,t,ec,k _ _ g (λq=>(hn c' q o g).1 vs d _ _ r),d,r⟩,hc⟩
theorem plain_ns {h:Heap} {a:Addr} {m} (x:h.Ns a m) {ob:Obj} (e:h.get? a=some ob):plainO ob:=let ⟨_,_,_,ho,hd,_⟩:=x
 getE ho e▸⟨λJ q=>(nomatch hd.symm.trans q),λq=>let ⟨_,_,z⟩:=q.2;nomatch hd.symm.trans z⟩
theorem plain_cell {h:Heap} {a:Addr} {v} (x:h.IsCell a v) {ob:Obj} (e:h.get? a=some ob):plainO ob:=let ⟨_,ho,hd⟩:=x
 getE ho e▸⟨λJ q=>(nomatch hd.symm.trans q),λq=>let ⟨_,_,z⟩:=q.2;nomatch hd.symm.trans z⟩
section
variable {C:Cfg} (W:CfgOK C)
include W
theorem aft_out2 {ρ₀ ρ:Ro} {σ:St} {s₀ s:Shared} {h':Heap} {tk:Nat} {as:List Addr} (a:Aft C ρ₀ s₀ s ρ) (R:Rel C ρ σ s.heap) (L:Bas C s.heap) (k:Kp as s.heap h')
  (ha:∀b∈as,b∉ρ.flatten/\C.hb.get? b=none/\s₀.heap.get? b=none/\∀ob,s.heap.get? b=some ob->plainO ob):
  Aft C ρ₀ s₀ { s with heap:=h',toks:=tk } ρ/\Rel C ρ σ h'/\Bas C h'/\TupK s.heap h':=
 have ht:TupK s.heap h':=λb o e hc=>k b o e λq=>((ha b q).2.2.2 o e).2 hc
 ⟨⟨by rw [a.rest],a.ext,a.fresh,λb o e hb hp=>k b o (a.frm b o e hb hp) λq=>noE (ha b q).2.2.1 e⟩,R.out W.box (λb hb o e=>k b o e λq=>(ha b q).1 hb) ht,
  ⟨λb o e hb=>k b o (L.keep b o e hb) λq=>noE (ha b q).2.1 e,L.lam.kp2 k (λq=>noE (ha _ q).2.1 W.hP) λb hb ob e=>(ha b hb).2.2.2 ob e⟩,ht⟩
end
noncomputable def ItT (C:Cfg) (d:Nat) (Γ:Blk) (tg:Expr) (x:Expr) (m:Lo) (σ:St) (Φ:Src->St->Prop):Prop:=
 ∀env A s ρ (Q:Value->Shared->Prop),EnvR C Γ env m ρ s.heap->OKA A d->Rel C ρ σ s.heap->Bas C s.heap ->
  (∀it own s' ρ' src σ',Aft C ρ s s' ρ'->Rel C ρ' σ' s'.heap->Bas C s'.heap->ItS C 0 ρ' s'.heap src it own->(∀a∈own,a∉ρ'.flatten/\C.hb.get? a=none/\s.heap.get? a=none/\∃ob,s'.heap.get? a=some ob)->tgOK src tg->Φ src σ'->Q it s') ->
  wpAny (model C.prog C.w) A (eval x env) (λv s₁=>wpAny (model C.prog C.w) A (pyIter v) Q (λJ J=>False) s₁) (λJ J=>False) s
noncomputable def StepT (C:Cfg) (d:Nat) (Γ:Blk) (ifs:List Expr) (elt:Expr) (m:Lo) (σ:St) (Φ:Option AV->St->Prop):Prop:=
 ∀env A s ρ (Q:Option Value->Shared->Prop),EnvR C Γ env m ρ s.heap->OKA A d->Rel C ρ σ s.heap->Bas C s.heap ->
  (∀o s' ρ' ov σ',Aft C ρ s s' ρ'->Rel C ρ' σ' s'.heap->Bas C s'.heap->(match ov,o with
   | some v,some V=>VR s'.heap (ab ρ') C.gf v V
   | none,none=>True
   | J,ζ=>False)->Φ ov σ'->Q o s') ->
  wpAny (model C.prog C.w) A (forIn ifs true λc r=>if r=true then do let ok <-isTrue c env (eval c env);pure (ForInStep.yield ok) else pure (ForInStep.yield r)) (λok s₃=>
   if ok=true then wpAny (model C.prog C.w) A (eval elt env) (λx s₄=>Q (some x) s₄) (λJ J=>False) s₃ else Q none s₃) (λJ J=>False) s
theorem notSet_at {x:Expr} (h:notSet x=true) (env:Env) (v:Value):foldedSetIterable x env v=pure v:=by
 cases x<;>first | rfl | exact ffT h
section
variable {C:Cfg} (W:CfgOK C)
theorem mem_own {ρ:Ro} {i:Nat} {a:Addr} (h:ρ[i]?=some [a]):ab ρ i=some a:=by unfold ab;rw [h];rfl
include W
theorem Rel.there {ρ:Ro} {σ:St} {h:Heap} (R:Rel C ρ σ h) {a:Addr} (ha:a∈ρ.flatten):∃ob,h.get? a=some ob:=by
 obtain ⟨as,h1,h2⟩:=List.mem_flatten.mp ha
 obtain ⟨i,hi,e⟩:=List.mem_iff_getElem.mp h1
 exact OR.there W.box _ (R.obj i (σ[i]'(R.len▸hi)) _ (List.getElem?_eq_getElem _) (List.getElem?_eq_getElem hi)) a (e▸h2)
theorem fresh_at {ρ₀ ρ:Ro} {σ:St} {s₀ s:Shared} {b:Addr} (a:Aft C ρ₀ s₀ s ρ) (R:Rel C ρ σ s.heap) (L:Bas C s.heap) (h:s.heap.get? b=none):b∉ρ.flatten/\C.hb.get? b=none/\b≠C.P/\s₀.heap.get? b=none:=by
 have hp:b≠C.P:=λq=>L.lam.ex.elim λps e=>noE h (q▸e)
 have hn:b∉ρ.flatten:=λq=>(R.there W q).elim λJ e=>noE h e
 refine ⟨hn,?_,hp,?_⟩
 ·cases q:C.hb.get? b with
  | none=>rfl
  | some o=>exact noE h (L.keep b o q hp)
 ·cases q:s₀.heap.get? b with
  | none=>rfl
  | some o=>exact noE h (a.frm b o q (λm=>hn (a.ext.mem m)) hp)
end
structure CI (C:Cfg) (ρ:Ro) (s:Shared) (src:Src) (it:Value) (own:List Addr) (loc acc:Addr) (p j:Nat) (σj:St) (ρj:Ro) (s':Shared):Prop where
 a:Aft C ρ s s' ρj
 R:Rel C ρj σj s'.heap
 L:Bas C s'.heap
 I:ItS C j ρj s'.heap src it own
 ow:∀a∈own,a∉ρj.flatten
 lo:loc∉ρj.flatten
 ns:∃mc,s'.heap.Ns loc mc
 ac:ab ρj p=some acc
section
variable {C:Cfg} (W:CfgOK C) {ρ:Ro} {s:Shared} {src:Src} {it:Value} {own:List Addr} {loc acc:Addr} {p j:Nat}
include W
theorem CI.fin {ρj ρ₅:Ro} {σj σ₅ σ2:St} {s₂ s₅:Shared} (hk:∀i,src≠.keys i) (hpin:pinS p src) (hρ:ρ.length<=p+1) (ow:∀a∈own,a∉ρj.flatten/\C.hb.get? a=none) (a₂:Aft C ρ s s₂ ρj) (R₂:Rel C ρj σj s₂.heap) (L₂:Bas C s₂.heap)
  (I:ItS C j ρj s₂.heap src it own) (ac:ab ρj p=some acc) (a₅:Aft C ρj s₂ s₅ ρ₅) (R₅:Rel C ρ₅ σ₅ s₅.heap) (L₅:Bas C s₅.heap) (V:Vw (p+1) [] σ₅ [] σ2) (lo:loc∉ρ₅.flatten) (ns:∃mc,s₅.heap.Ns loc mc):
  ∃ρ6,CI C ρ s src it own loc acc p j σ2 ρ6 s₅:=by
 refine (view_ok (ρ₀:=ρ) (s₀:=s) R₅ V hρ (a₂.trans a₅)).elim λρ6 q=>?_
 have pin:∀(i:Nat) (a:Addr),i<p+1->ab ρj i=some a->ab ρ6 i=some a:=λi a hi h=>pin_rf q.2.2.2.2 hi (a₅.ext.rf i a h)
 exact ⟨ρ6,q.2.1,q.1,L₅,I.mono hk hpin (λa ha o e=>a₅.frm a o e (ow a ha).1 λz=>noE (ow a ha).2 (z▸W.hP)) (Rel.tup W.box R₂ a₅.frm L₂) λi a hi=>pin i a (Nat.lt_succ_of_lt hi),
  λa ha z=>(a₅.fresh a (q.2.2.1 a z)).elim (ow a ha).1 λy=>(I.own a ha).elim λJ g=>noE y.1 g.1,λz=>lo (q.2.2.1 _ z),ns,pin p acc (Nat.lt_succ_self _) ac⟩
variable {Γ:Blk} {scope:Scope} {vs:List Nat} {tg iter elt:Expr} {ifs:List Expr} {t:T} {m:Lo} {d:Nat} {env:Env} {A:Around}
omit W in
noncomputable def cenv (scope:Scope) (loc:Addr) (env:Env):Env:={ newEnv scope loc env.globals (closeL env.cells scope.names []) env.qual none .none (some env) builtinsNs with scope:=relabel scope env }
theorem CI.bind {ρj:Ro} {σj:St} {s':Shared} {h':Heap} {tk:Nat} {v:AV} {V:Value} {m':Lo} {Q:Unit->Shared->Prop} (hG:okB Γ=true) (H:CompH Γ scope vs tg) (hT:ckT (inB Γ scope vs tg) t tg=true) (e:EnvR C Γ env m ρ s.heap) (hA:A.handled=none) {σ:St} (R:Rel C ρ σ s.heap) (L:Bas C s.heap)
  (hl:C.hb.get? loc=none/\s.heap.get? loc=none) (ow:∀a∈own,C.hb.get? a=none/\s.heap.get? a=none/\a≠loc) (hpin:pinS p src) (hk:∀i,src≠.keys i)
  (I:CI C ρ s src it own loc acc p j σj ρj s') (kp:OneK own s'.heap h') (hb:aw t v (clrs vs m)=some m') (hv:VR h' (ab ρj) C.gf v V) (It:ItS C (j+1) ρj h' src it own)
  (K:∀s₂,EnvR C (inB Γ scope vs tg) (cenv scope loc env) m' ρj s₂.heap->Aft C ρ s s₂ ρj->Rel C ρj σj s₂.heap->Bas C s₂.heap->ItS C (j+1) ρj s₂.heap src it own->Q () s₂):
  wpAny (model C.prog C.w) A (assign tg (cenv scope loc env) V) Q (λJ J=>False) { s' with heap:=h',toks:=tk }:=by
 have a₁:=aft_out2 (tk:=tk) W I.a I.R I.L (λb o q hb=>kp b o hb q) λb hb=>⟨I.ow b hb,(ow b hb).1,(ow b hb).2.1,I.I.plain b hb⟩
 refine I.ns.elim λmc hN=>?_
 have hN₁:h'.Ns loc mc:=hN.at' λo q=>kp _ o (λz=>(ow _ z).2.2 rfl) q
 have ei:EnvR C (inB Γ scope vs tg) (cenv scope loc env) (clrs vs m) ρj h':=
  inner_env H hG (e.aft W.box R L a₁.1) (rel_eq e.sc) rfl rfl rfl rfl rfl hN₁ ⟨I.lo,hl.1⟩ λn c hc q=>(e.sepC n c hc).2.2.2.elim λJ z=>z.elim λJ z=>noE hl.2 (q▸z.1)
 refine p_bind W H.ok hA hT hb ei (s:={ s' with heap:=h',toks:=tk }) a₁.2.1 a₁.2.2.1 hv λh₂ tk₂ kp₂ ht₂ e₂ R₂ L₂=>?_
 have kl:∀b o,b≠loc->h'.get? b=some o->h₂.get? b=some o:=λb o hb=>kp₂ b o λq=>q.elim hb λq=>q.elim λx q=>q.elim λc q=>nomatch (relB_cell (outer:=Γ.scp) H.noC q.2.1).1.symm.trans (H.own x q.1)
 have a₂:=(aft_out2 (s:={ s' with heap:=h',toks:=tk }) (h':=h₂) (tk:=tk₂) (as:=[loc]) W a₁.1 a₁.2.1 a₁.2.2.1 (λb o q hb=>kl b o (λz=>hb (z▸.head _)) q) λb hb=>List.mem_singleton.mp hb▸⟨I.lo,hl.1,hl.2,λob q=>plain_ns hN₁ q⟩).1
 exact K { s' with heap:=h₂,toks:=tk₂ } e₂ a₂ R₂ L₂ (It.mono hk hpin (λa ha o q=>kl a o (ow a ha).2.2 q) ht₂ λJ J J q=>q)
omit W in
theorem step_dn:∀{n j N:Nat},n+j=N+1->j<=N->n-1<n/\n-1+(j+1)=N+1:=@λω=>@λψ=>@λχ=>@λϕ=>@λϱ=>match ω,ψ,χ,ϕ,ϱ with
 | 0,j,N,h,g=>absurd (Nat.le_trans (Nat.le_of_eq (h.symm.trans (Nat.zero_add j))) g) (Nat.not_succ_le_self N)
 | n+1,j,J,h,ζ=>⟨Nat.lt_succ_self n,(Nat.succ_add_eq_add_succ n j).symm.trans h⟩
noncomputable def PostC (C:Cfg) (A:Around) (ρ:Ro) (s:Shared) (Φ:AV->St->Prop) (use:Option (Value->Sem Unit)) (Q:Value->Shared->Prop):Prop:=
 ∀V s' ρ' v σ' loc,Aft C ρ s s' ρ'->Rel C ρ' σ' s'.heap->Bas C s'.heap->VR s'.heap (ab ρ') C.gf v V->Φ v σ'->loc∉ρ'.flatten->C.hb.get? loc=none->s.heap.get? loc=none->(∃mc,s'.heap.Ns loc mc) ->
  compPost (model C.prog C.w) A (λJ J=>False) use Q V loc (.ok .next) s'
noncomputable def CInv (C:Cfg) (ρ:Ro) (s:Shared) (src:Src) (it:Value) (own:List Addr) (loc acc:Addr) (p N:Nat) (I:Nat->St->Prop) (n:Nat) (s':Shared):Prop:=
 ∃j σj ρj,n+j=N+1/\I j σj/\CI C ρ s src it own loc acc p j σj ρj s'
theorem comp_turn {σ:St} {Φ:AV->St->Prop} {step:Lo->St->(Option AV->St->Prop)->Prop} {N n:Nat} {I:Nat->St->Prop} {s':Shared} {use:Option (Value->Sem Unit)} {Q:Value->Shared->Prop}
  (hG:okB Γ=true) (H:CompH Γ scope vs tg) (hT:ckT (inB Γ scope vs tg) t tg=true) (hst:∀m' σ' Φ',step m' σ' Φ'->StepT C d (inB Γ scope vs tg) ifs elt m' σ' Φ')
  (e:EnvR C Γ env m ρ s.heap) (hA:OKA A d) (R:Rel C ρ σ s.heap) (L:Bas C s.heap) (k:PostC C A ρ s Φ use Q) (hρ:ρ.length<=p+1) (htg:tgOK src tg)
  (hl:C.hb.get? loc=none/\s.heap.get? loc=none) (ow:∀a∈own,C.hb.get? a=none/\s.heap.get? a=none/\a≠loc) (hpin:pinS p src)
  (turn:∀j σ,I j σ->j<=N/\(match itemAt σ src j with
   | none=>False
   | some none=>Φ (.ref p) σ
   | some (some v)=>match aw t v (clrs vs m) with
    | none=>False
    | some m'=>step m' σ λo σ'=>match o with
     | none=>∃σ2,Vw (p+1) [] σ' [] σ2/\I (j+1) σ2
     | some y=>∃xs,σ'[p]?=some (.list xs)/\xs.length<SZ/\∃σ2,Vw (p+1) [] (σ'.set p (.list (xs++[y]))) [] σ2/\I (j+1) σ2))
  (hI:CInv C ρ s src it own loc acc p N I n s'):
  wpAny (model C.prog C.w) A (pyNext it) (λr s₁=>match r with
   | none=>compPost (model C.prog C.w) A (λJ J=>False) use Q (.ref acc) loc (.ok .next) s₁
   | some v=>wpAny (model C.prog C.w) A (letOwnedTupleGo tg it v) (λJ s₁'=>wpAny (model C.prog C.w) A (assign tg (cenv scope loc env) v) (λJ s₂=>
     wpAny (model C.prog C.w) A (forIn ifs true λc r=>if r=true then do let ok <-isTrue c (cenv scope loc env) (eval c (cenv scope loc env));pure (ForInStep.yield ok) else pure (ForInStep.yield r)) (λok s₃=>
      if ok=true then wpAny (model C.prog C.w) A (eval elt (cenv scope loc env)) (λx s₄=>
       wpAny (model C.prog C.w) A (call (.builtin "list.append") [.ref acc,x]) (λJ s₅=>∃m,m<n/\CInv C ρ s src it own loc acc p N I m s₅) (λJ J=>False) s₄) (λJ J=>False) s₃
      else ∃m,m<n/\CInv C ρ s src it own loc acc p N I m s₃) (λJ J=>False) s₂) (λJ J=>False) s₁') (λJ J=>False) s₁) (λJ J=>False) s':=by
 refine hI.elim λj q=>q.elim λσj q=>q.elim λρj q=>?_
 have g:=turn j σj q.2.1
 have ci:=q.2.2
 cases hitem:itemAt σj src j with
 | none=>rw [hitem] at g;exact g.2.elim
 | some r=>
 rw [hitem] at g
 refine it_next W hA.hd ci.R ci.L ci.I (λa ha=>⟨ci.ow a ha,(ow a ha).1⟩) hitem htg (λhr h' tk kp=>?_) λv hr V h' tk kp hv It hk=>?_
 ·have a₁:=aft_out2 (tk:=tk) W ci.a ci.R ci.L (λb o q hb=>kp b o hb q) λb hb=>⟨ci.ow b hb,(ow b hb).1,(ow b hb).2.1,ci.I.plain b hb⟩
  refine ci.ns.elim λmc hN=>?_
  have hN₁:h'.Ns loc mc:=hN.at' λo q=>kp _ o (λz=>(ow _ z).2.2 rfl) q
  rw [hr] at g
  exact k (.ref acc) _ ρj (.ref p) σj loc a₁.1 a₁.2.1 a₁.2.2.1 ⟨acc,ci.ac,rfl⟩ g.2 ci.lo hl.1 hl.2 ⟨mc,hN₁⟩
 ·rw [hr] at g
  have g2:=g.2
  simp only at g2
  cases hb:aw t v (clrs vs m) with
  | none=>rw [hb] at g2;exact g2.elim
  | some m'=>
  rw [hb] at g2
  refine CI.bind W hG H hT e hA.hd R L hl ow hpin hk ci kp hb hv It λs₂ e₂ a₂ R₂ L₂ It₂=>?_
  have fin:∀s₅ ρ₅ σ₅,Aft C ρj s₂ s₅ ρ₅->Rel C ρ₅ σ₅ s₅.heap->Bas C s₅.heap->(∃σ2,Vw (p+1) [] σ₅ [] σ2/\I (j+1) σ2)->∃m,m<n/\CInv C ρ s src it own loc acc p N I m s₅:=λs₅ ρ₅ σ₅ a₅ R₅ L₅ ⟨σ2,V₅,hI₅⟩=>
   have e₅:=e₂.aft W.box R₂ L₂ a₅
   (CI.fin W hk hpin hρ (λa ha=>⟨ci.ow a ha,(ow a ha).1⟩) a₂ R₂ L₂ It₂ ci.ac a₅ R₅ L₅ V₅ e₅.sepL.1 (e₅.loc.imp λmc q=>q.1)).elim λρ6 c6=>
    ⟨n-1,(step_dn q.1 g.1).1,j+1,σ2,ρ6,(step_dn q.1 g.1).2,hI₅,c6⟩
  refine hst m' σj _ g2 (cenv scope loc env) A s₂ ρj (λo s₆=>match o with
   | some x=>wpAny (model C.prog C.w) A (call (.builtin "list.append") [.ref acc,x]) (λJ s₅=>∃m,m<n/\CInv C ρ s src it own loc acc p N I m s₅) (λJ J=>False) s₆
   | none=>∃m,m<n/\CInv C ρ s src it own loc acc p N I m s₆) e₂ hA R₂ L₂ λo s₆ ρ₆ ov σ₆ a₆ R₆ L₆ hov hΦ=>?_
  cases ov with
  | none=>
   cases o with
   | some x=>exact hov.elim
   | none=>exact fin s₆ ρ₆ σ₆ a₆ R₆ L₆ hΦ
  | some y=>
   cases o with
   | none=>exact hov.elim
   | some x=>exact hΦ.elim λxs z=>p_append W R₆ L₆ (Φ:=λv σ'=>σ'=σ₆.set p (.list (xs++[y]))) (λV s₅ ρ₅ v σ₅ a₅ R₅ L₅ hv hσ=>fin s₅ ρ₅ _ (a₆.trans a₅) R₅ L₅ (hσ▸z.2.2)) (i:=p) ⟨acc,a₆.ext.rf _ _ ci.ac,rfl⟩ hov z.1 z.2.1 rfl
theorem p_comp {σ:St} {Φ:AV->St->Prop} {step:Lo->St->(Option AV->St->Prop)->Prop} {pos q0:Pos}
  (hG:okB Γ=true) (H:CompH Γ scope vs tg) (hT:ckT (inB Γ scope vs tg) t tg=true) (hset:notSet iter=true)
  (hIt:ItT C d Γ tg iter m σ λsrc σ'=>CompP src t step (clrs vs m) (σ'++[.list []]) σ'.length Φ)
  (hst:∀m' σ' Φ',step m' σ' Φ'->StepT C d (inB Γ scope vs tg) ifs elt m' σ' Φ')
  {use:Option (Value->Sem Unit)} {Q:Value->Shared->Prop} (e:EnvR C Γ env m ρ s.heap) (hA:OKA A d) (R:Rel C ρ σ s.heap) (L:Bas C s.heap) (k:PostC C A ρ s Φ use Q):
  wpAny (model C.prog C.w) A (comprehension (.ListComp elt [⟨tg,iter,ifs,0⟩] scope pos) scope env q0 (newList []) false (eval iter env) use) Q (λJ J=>False) s:=by
 refine wpAny_comprehension_free rfl (notSet_at hset env) (closure_eq λx hx q=>e.celh x.1 (H.free x hx q)) H.kind H.loc ?_
 refine hIt env A s ρ _ e hA R L λit own s₂ ρ₂ src σ₂ a₂ R₂ L₂ I₂ hown htg hC=>hC.elim λN hC=>hC.elim λI hC=>?_
 refine wpAny_newList ?_ (Nat.zero_le _)
 have kp₃:∀b o,s₂.heap.get? b=some o->(s₂.heap.push { cls:=.type "list",data:=.seq #[] }).get? b=some o:=λb o e=>Heap.get?_push_of_some _ e
 have a₃:=step_new (tk:=s₂.toks) (o:=.list []) (as:=[s₂.heap.objs.size]) W.box R₂ L₂ kp₃ (List.nodup_cons.mpr ⟨memN,.nil⟩) (λa ha=>List.mem_singleton.mp ha▸Heap.get?_none_of_le (Nat.le_refl _))
  ⟨_,#[],rfl,⟨0,Heap.get?_push_size _ rfl⟩,rfl,Nat.zero_le _⟩
 have ac:ab (ρ₂++[[s₂.heap.objs.size]]) σ₂.length=some s₂.heap.objs.size:=mem_own (by rw [<-R₂.len];exact List.getElem?_concat_length)
 have no:∀a∈own,a∉(ρ₂++[[s₂.heap.objs.size]]).flatten:=λa ha q=>by
  rw [List.flatten_append,List.mem_append] at q
  exact q.elim (hown a ha).1 λz=>(hown a ha).2.2.2.elim λJ y=>absurd (Heap.lt_size ((List.mem_singleton.mp z:a=_)▸y)) (Nat.lt_irrefl _)
 have I₃:ItS C 0 (ρ₂++[[s₂.heap.objs.size]]) (s₂.heap.push { cls:=.type "list",data:=.seq #[] }) src it own:=I₂.keep kp₃ (rfOf_append _ _)
 have hρ:ρ.length<=σ₂.length+1:=Nat.le_succ_of_le (R₂.len▸a₂.ext.len)
 generalize ρ₂++[[s₂.heap.objs.size]]=ρ₃ at *
 generalize s₂.heap.objs.size=acc at *
 have a13:=a₂.trans a₃.1
 have R₃:=a₃.2.1
 have L₃:=a₃.2.2
 clear a₃ kp₃ a₂ R₂ L₂ I₂
 generalize s₂.heap.push { cls:=.type "list",data:=.seq #[] }=h₃ at *
 refine wpAny_newFunctionEnv (hc:=H.noC) (hl:=λJ=>memN) (hk:=H.kind) (hQ:=λh₄ hn₄ sb₄=>?_)
 have kp₄:∀b o,h₃.get? b=some o->h₄.get? b=some o:=λb o q=>sb₄.extBut b o (Nat.ne_of_lt (Heap.lt_size q)) (Heap.get?_push_of_some _ q)
 have a₄:=aE (s:={ s₂ with heap:=h₃ }) (tk:=s₂.toks+([]:List (Str×Value)).length) W.box R₃ L₃ kp₄
 have lN:h₃.get? h₃.objs.size=none:=Heap.get?_none_of_le (Nat.le_refl _)
 have f:=fresh_at (s:={ s₂ with heap:=h₃ }) W a13 R₃ L₃ lN
 have I₄:=I₃.keep kp₄ λJ J q=>q
 have loop:=codeAny_comp_any (scope:=scope) (acc:=.ref acc) (env:=cenv scope h₃.objs.size env) (pos:=pos) (iter:=iter) (CInv C ρ s src it own h₃.objs.size acc σ₂.length N I)
  (λn s'=>comp_turn W hG H hT hst e hA R L k hρ htg ⟨f.2.1,f.2.2.2⟩ (λa ha=>⟨(hown a ha).2.1,(hown a ha).2.2.1,λz=>(I₃.own a ha).elim λJ y=>noE lN (z▸y.1)⟩) hC.1 hC.2.2) (N+1)
  ⟨0,_,ρ₃,rfl,hC.2.1,a13.trans a₄.1,a₄.2.1,a₄.2.2,I₄,no,f.1,⟨_,hn₄⟩,ac⟩
 exact codeAny_compStart_list loop (I₄.self loop)
end
theorem padA_full {τ:Tb} {f:Nat} {vs:List AV} (h:vs.length=τ.arity f):padA τ f vs=some vs:=by
 unfold padA
 simp only [<-h]
 rw [if_pos ⟨Nat.le_refl _,Nat.le_add_right _ _⟩]
 rw [Nat.add_sub_cancel_left,List.drop_length,List.append_nil]
theorem OKA.mono {A:Around} {d d':Nat} (h:OKA A d) (hd:d'<=d):OKA A d':=⟨h.hd,Nat.lt_of_le_of_lt (Nat.add_le_add_left (Nat.mul_le_mul_left 2 hd) _) h.depth,
 Nat.lt_of_le_of_lt (Nat.add_le_add_right (Nat.add_le_add_left (Nat.mul_le_mul_left 8 hd) _) _) h.units⟩
theorem OKA.okc {A:Around} {d f:Nat} (h:OKA A d) (hf:f<d):OKC A f:=⟨h.hd,Nat.lt_of_le_of_lt (Nat.add_le_add_left (Nat.le_trans (Nat.le_succ (2*f+1)) (Nat.mul_le_mul_left 2 hf)) A.depth) h.depth,
 Nat.lt_of_le_of_lt (Nat.le_trans (Nat.add_le_add_left (by decide:70<=8+64) (A.units+8*f)) (Nat.add_le_add_right (Nat.add_le_add_left (Nat.mul_le_mul_left 8 hf) A.units) 64)) h.units⟩
theorem tc_depth (A:Around) (c:Addr) (vs:List Value) (kw:List (Str×Value)):(A.under (.builtin "type.__call__" ⟨.ref c::vs,kw⟩)).depth=A.depth+1:=rfl
theorem tc_units (A:Around) (c:Addr) (vs:List Value) (kw:List (Str×Value)):(A.under (.builtin "type.__call__" ⟨.ref c::vs,kw⟩)).units=A.units+1:=rfl
theorem tc_handled (A:Around) (c:Addr) (vs:List Value) (kw:List (Str×Value)):(A.under (.builtin "type.__call__" ⟨.ref c::vs,kw⟩)).handled=A.handled:=rfl
section
variable {C:Cfg} {N:Nms} (W:CfgOK C) (M:NmsOK C N) {Γ:Blk} {ρ:Ro} {σ:St} {s:Shared} {A:Around} {d:Nat} {m:Lo} {env:Env} {Φ:AV->St->Prop} {Q:Value->Shared->Prop}
include W M
theorem fd_at {f:Nat} (hf:f<57):∃o fd,C.K.lookup (C.fa f)=some o/\o.data=.func fd/\fdAt C f=some fd:=by
 let _:=W
 obtain ⟨o,fd,h1,h2⟩:=M.fn f hf
 refine ⟨o,fd,h1,h2,?_⟩
 unfold fdAt
 rw [h1]
 obtain ⟨c,dd,dt,sl⟩:=o
 simp only at h2
 subst h2;rfl
theorem p_call {f:Nat} {vs args:List AV} {Vs:List Value} (hd:d<=57) (hA:OKA A d) (R:Rel C ρ σ s.heap) (L:Bas C s.heap) (hv:VRs s.heap (ab ρ) C.gf vs Vs) (hpad:padA C.τ f vs=some args)
  (h:(vcA C d).call f args σ Φ) (k:aV C ρ s Φ Q):wpAny (model C.prog C.w) A (call (.ref (C.fa f)) Vs) Q (λJ J=>False) s:=by
 obtain ⟨hf,hlen,hc⟩:=h
 obtain ⟨o,fd,h1,h2,h3⟩:=fd_at W M (Nat.lt_of_lt_of_le hf hd)
 obtain ⟨ds,Ds,rfl,h4,h5⟩:=M.bind f fd Vs s vs args h3 L hv.length.symm hpad
 refine wpAny_call (codeAny_mono (hc A s ρ (Vs++Ds) ⟨Vs,[]⟩ fd Q (hA.okc hf) R L h3 (hv.append (h4.mono (λJ J q=>by cases q) (Bas.tup W L) _)) h5 k) λr s' hr=>?_)
 cases r with
 | ok v=>cases v<;>first | exact hr | exact hr.elim
 | error e=>exact hr.elim
theorem p_new {c f:Nat} {vs args:List AV} {Vs:List Value} (hd:d<=57) (hA:OKA A d) (R:Rel C ρ σ s.heap) (L:Bas C s.heap) (hv:VRs s.heap (ab ρ) C.gf vs Vs) (hc:c<4) (hi:C.τ.init c=some f)
  (kw:List (Str×Value)) (Ws:List Value) (hb:∀s' x fd,Bas C s'.heap->fdAt C f=some fd->∃Ds,VRs C.hb noRf C.gf (args.drop (vs.length+1)) Ds/\BindsTo s' fd ⟨x::Ws,kw⟩ ((fd.params.args.map (λJ=>J.arg)).zip (x::Vs++Ds)))
  (hargs:args.take (vs.length+1)=.ref σ.length::vs)
  (h:(vcA C d).call f args (σ++[.inst c []]) λv σ'=>noneK (vcA C d) v (Φ (.ref σ.length) σ')) (k:aV C ρ s Φ Q):wpAny (model C.prog C.w) A (call (.ref (C.ca c)) Ws kw) Q (λJ J=>False) s:=by
 obtain ⟨hf,hlen,hcall⟩:=h
 have hf57:=Nat.lt_of_lt_of_le hf hd
 obtain ⟨o,fd,h1,h2,h3⟩:=fd_at W M hf57
 have K:=W.cls c hc
 obtain ⟨i1,i2⟩:=K.init f hi
 have X:=L.kin W
 refine wpAny_call ?_
 obtain ⟨hh,g,dd,t,os⟩:=s
 refine make_core (makes_of X K.mks) (looks_findIn X i1) (λself=>bind_fn X self (eq_of_beq i2)) (.inl rfl) ?_
 have kp:∀b o,hh.get? b=some o->((hh.push emptyDict).push (instObj (C.ca c) hh.objs.size)).get? b=some o:=λb o e=>Heap.get?_push_of_some _ (Heap.get?_push_of_some _ e)
 have hx:((hh.push emptyDict).push (instObj (C.ca c) hh.objs.size)).get? (hh.objs.size+1)=some (instObj (C.ca c) hh.objs.size):=by
  have:((hh.push emptyDict).push (instObj (C.ca c) hh.objs.size)).get? (hh.push emptyDict).objs.size=some (instObj (C.ca c) hh.objs.size):=Heap.get?_push_size _ rfl
  rwa [Heap.size_push] at this
 have hdx:((hh.push emptyDict).push (instObj (C.ca c) hh.objs.size)).get? hh.objs.size=some (dictOf [] 0):=Heap.get?_push_of_some _ (Heap.get?_push_size _ rfl)
 obtain ⟨a₁,R₁,L₁⟩:=step_new (s:=⟨hh,g,dd,t,os⟩) (tk:=t) (o:=.inst c []) (as:=[hh.objs.size+1,hh.objs.size]) W.box R L kp (by simp) (λa ha=>by
   rcases List.mem_cons.mp ha with z | z
   ·rw [z];exact Heap.get?_none_of_le (Nat.le_succ _)
   ·rw [List.mem_singleton.mp z];exact Heap.get?_none_of_le (Nat.le_refl _))
  ⟨_,_,[],0,rfl,hx,hdx,rfl,Nat.zero_le _⟩
 have hx':ab (ρ++[[hh.objs.size+1,hh.objs.size]]) σ.length=some (hh.objs.size+1):=by
  unfold ab;rw [<-R.len,List.getElem?_append_right (Nat.le_refl _)];simp
 have hv₁:=VRs.aft W.box R L a₁ hv
 obtain ⟨Ds,d1,d2⟩:=hb { heap:=(hh.push emptyDict).push (instObj (C.ca c) hh.objs.size),gens:=g,drawn:=dd,toks:=t,os:=os } (.ref (hh.objs.size+1)) fd L₁ h3
 have hall:VRs ((hh.push emptyDict).push (instObj (C.ca c) hh.objs.size)) (ab (ρ++[[hh.objs.size+1,hh.objs.size]])) C.gf args (.ref (hh.objs.size+1)::Vs++Ds):=by
  rw [<-List.take_append_drop (vs.length+1) args,hargs]
  exact VRs.append ⟨_,Vs,rfl,⟨_,hx',rfl⟩,hv₁⟩ (d1.mono (λJ J q=>by cases q) (Bas.tup W L₁) _)
 have hA':OKC (A.under (.builtin "type.__call__" ⟨.ref (C.ca c)::Ws,kw⟩)) f:=by
  have h1:=hA.depth
  have h2:=hA.units
  exact ⟨by rw [tc_handled];exact hA.hd,by rw [tc_depth];omega,by rw [tc_units];omega⟩
 refine codeAny_mono (hcall _ _ _ _ ⟨.ref (hh.objs.size+1)::Ws,kw⟩ fd (λv s'=>v=.none/\Q (.ref (hh.objs.size+1)) s') hA' R₁ L₁ h3 hall d2 λV s' ρ' v σ' a R' L' hv' hΦ=>?_) λr s' hr=>?_
 ·cases v with
  | none=>
   refine ⟨hv',k _ s' ρ' (.ref σ.length) σ' (a₁.trans a) R' L' ⟨_,?_,rfl⟩ hΦ⟩
   exact a.ext.rf _ _ hx'
  | _=>exact hΦ.elim
 ·cases r with
  | ok v=>cases v<;>first | exact hr | exact hr.elim
  | error e=>exact hr.elim
end
section
variable {C:Cfg} {N:Nms} (W:CfgOK C) (M:NmsOK C N) {Γ:Blk} {σ:St} {d:Nat} {m:Lo} {Φ:AV->St->Prop}
noncomputable abbrev IHE (C:Cfg) (d:Nat) (Γ:Blk) (e:E) (x:Expr):Prop:=∀{m:Lo} {σ:St} {Φ:AV->St->Prop},evE C.τ (vcA C d) e m σ Φ->EvT C d Γ x m σ Φ
noncomputable abbrev IHT (C:Cfg) (d:Nat) (Γ:Blk) (e:E) (x:Expr):Prop:=∀{m:Lo} {σ:St} {Φ:Bool->St->Prop},(evE C.τ (vcA C d) e m σ λv σ=>truK (vcA C d) v λb=>Φ b σ)->TrT C d Γ x m σ Φ
noncomputable abbrev IHs (C:Cfg) (d:Nat) (Γ:Blk) (es:Es) (xs:List Expr):Prop:=∀{m:Lo} {σ:St} {Φ:List AV->St->Prop},evEs C.τ (vcA C d) es m σ Φ->EsT C d Γ xs m σ Φ
theorem truK_inv {v:AV} {k:Bool->Prop} (p:truK (vcA C d) v k):∃b,v=.bool b/\k b:=by
 cases v<;>first | exact ⟨_,rfl,p⟩ | exact False.elim p
theorem az {β:Type} {o:Option β} {k:β->Prop} (p:optK (vcA C d) o k):∃x,o=some x/\k x:=by
 cases o with
 | some x=>exact ⟨x,rfl,p⟩
 | none=>exact False.elim p
theorem aJ {c:Bool} {r:Prop} (p:aL (vcA C d) c r):c=true/\r:=by
 cases c with
 | true=>exact ⟨rfl,p⟩
 | false=>exact False.elim p
theorem getD_some {m:Lo} {k:Nat} {v:AV} (h:m.getD k none=some v):m[k]?=some (some v):=by
 rw [List.getD_eq_getElem?_getD] at h
 cases q:m[k]? with
 | none=>rw [q] at h;cases h
 | some o=>rw [q] at h;rw [show o=some v from h]
include W
theorem tr_plain {e:E} {x:Expr} (ih:IHE C d Γ e x) (hx:∀env whole,isTrue x env whole=(do let v <-whole;standAt x.pos;holding [v] (truthy v))):IHT C d Γ e x:=by
 intro m σ Φ p env A s ρ Q e hA R L k
 refine isTrue_plain (ih p env A s ρ _ e hA R L λV s₁ ρ₁ v σ₁ a₁ R₁ L₁ hv q=>?_) (hx env _)
 obtain ⟨b,rfl,q⟩:=truK_inv q
 rw [show V=.bool b from hv]
 exact wpAny_truthy_bool (k b s₁ ρ₁ σ₁ a₁ R₁ L₁ q)
theorem ev_lit {v:AV} {c:Const} {n:Nat} {p:Pos} (h:ckC v c=true):IHE C d Γ (.lit v) (.Constant c n p):=by
 intro m σ Φ q env A s ρ Q e hA R L k
 cases v with
 | none=>exact odT h▸wpAny_Constant_none (aW W R L k .none rfl q)
 | bool b=>exact odT h▸wpAny_Constant_bool (aW W R L k (.bool b) rfl q)
 | int i=>exact odT h▸wpAny_Constant_int (aW W R L k (.int i) ⟨_,rfl⟩ q)
 | str i=>exact odT (an2 h).2▸wpAny_Constant_str (aW W R L k (.str i) ⟨odT (an2 h).1,_,rfl⟩ q)
 | _=>exact ffT h
omit W in
theorem ev_var {k:Nat} {x:Str} {p:Pos} (hG:okB Γ=true) (hx:Γ.vis.lookup k=some x):IHE C d Γ (.var k) (.Name x p):=by
 intro m σ Φ q env A s ρ Q e hA R L kk
 obtain ⟨v,h1,h2⟩:=az q
 exact name_own hG hx (getD_some h1) e λV hv=>kk V s ρ v σ (Aft.refl ρ s) R L hv h2
include M
theorem ev_glob {v:AV} {x:Str} {p:Pos} (hG:okB Γ=true) (hx:isG Γ x=true) (hv:(N.g.any λp=>p.1==x&&avB p.2 v)=true):IHE C d Γ (.glob v) (.Name x p):=by
 intro m σ Φ q env A s ρ Q e hA R L k
 obtain ⟨pr,h1,h2⟩:=List.any_eq_true.mp hv
 simp only [Bool.and_eq_true] at h2
 obtain ⟨V,h3,h4⟩:=M.g pr h1
 rw [eq_of_beq h2.1] at h3
 rw [avB_eq h2.2] at h4
 exact name_glob W hG hx L e h3 (aW W R L k v (h4.mono (λJ J z=>by cases z) (Bas.tup W L) _) q)
omit M
theorem ev_bin {o:BO} {l r:E} {x y:Expr} {p:Pos} (il:IHE C d Γ l x) (ir:IHE C d Γ r y):IHE C d Γ (.bin o l r) (.BinOp x (boOf o) y p):=by
 intro m σ Φ q env A s ρ Q e hA R L k
 exact wpAny_BinOp (il q env A s ρ _ e hA R L λV s₁ ρ₁ a σ₁ a₁ R₁ L₁ hv q=>ir q env A s₁ ρ₁ _ (e.aft W.box R L a₁) hA R₁ L₁ λU s₂ ρ₂ b σ₂ a₂ R₂ L₂ hu q₂=>
  p_bin W hA R₂ L₂ (VR.aft W.box R₁ L₁ a₂ hv) hu q₂ (k.from (a₁.trans a₂)))
theorem ev_neg {e:E} {x:Expr} {p:Pos} (ie:IHE C d Γ e x):IHE C d Γ (.neg e) (.UnaryOp .USub x p):=by
 intro m σ Φ q env A s ρ Q e hA R L k
 refine UnaryOp_ (ie q env A s ρ _ e hA R L λV s₁ ρ₁ a σ₁ a₁ R₁ L₁ hv q=>?_)
 cases a with
 | int i=>obtain ⟨t,rfl⟩:=hv;exact PyProof.Rows.neg_int (aW W R₁ L₁ (k.from a₁) (.int (-i)) ⟨_,rfl⟩ q)
 | _=>exact q.elim
theorem ev_not {e:E} {x:Expr} {p:Pos} (ie:IHE C d Γ e x):IHE C d Γ (.not e) (.UnaryOp .Not x p):=by
 intro m σ Φ q env A s ρ Q e hA R L k
 refine UnaryOp_ (ie q env A s ρ _ e hA R L λV s₁ ρ₁ a σ₁ a₁ R₁ L₁ hv q=>?_)
 obtain ⟨b,rfl,q⟩:=truK_inv q
 rw [show V=.bool b from hv]
 exact not_of (wpAny_truthy_bool (aW W R₁ L₁ (k.from a₁) (.bool (!b)) rfl q))
theorem tr_not {e:E} {x:Expr} {p:Pos} (ie:IHT C d Γ e x):IHT C d Γ (.not e) (.UnaryOp .Not x p):=by
 intro m σ Φ q env A s ρ Q e hA R L k
 exact isTrue_not (ie (Φ:=λb σ=>Φ (!b) σ) q env A s ρ _ e hA R L λb s₁ ρ₁ σ₁ a₁ R₁ L₁ q=>k (!b) s₁ ρ₁ σ₁ a₁ R₁ L₁ q)
theorem ev_ite {c t f:E} {x y z:Expr} {p:Pos} (ic:IHT C d Γ c x) (it:IHE C d Γ t y) (ig:IHE C d Γ f z):IHE C d Γ (.ite c t f) (.IfExp x y z p):=by
 intro m σ Φ q env A s ρ Q e hA R L k
 refine IfExp_ (ic (Φ:=λb σ=>ifK b (evE C.τ (vcA C d) t m σ Φ) (evE C.τ (vcA C d) f m σ Φ)) q env A s ρ _ e hA R L λb s₁ ρ₁ σ₁ a₁ R₁ L₁ q=>?_)
 have e₁:=e.aft W.box R L a₁
 cases b with
 | true=>exact it q env A s₁ ρ₁ _ e₁ hA R₁ L₁ (k.from a₁)
 | false=>exact ig q env A s₁ ρ₁ _ e₁ hA R₁ L₁ (k.from a₁)
theorem tr_ite {c t f:E} {x y z:Expr} {p:Pos} (ic:IHT C d Γ c x) (it:IHT C d Γ t y) (ig:IHT C d Γ f z):IHT C d Γ (.ite c t f) (.IfExp x y z p):=by
 intro m σ Φ q env A s ρ Q e hA R L k
 refine isTrue_IfExp (ic (Φ:=λb σ=>ifK b (evE C.τ (vcA C d) t m σ λv σ=>truK (vcA C d) v λb=>Φ b σ) (evE C.τ (vcA C d) f m σ λv σ=>truK (vcA C d) v λb=>Φ b σ)) q env A s ρ _ e hA R L λb s₁ ρ₁ σ₁ a₁ R₁ L₁ q=>?_)
 have e₁:=e.aft W.box R L a₁
 cases b with
 | true=>exact it q env A s₁ ρ₁ _ e₁ hA R₁ L₁ (k.from a₁)
 | false=>exact ig q env A s₁ ρ₁ _ e₁ hA R₁ L₁ (k.from a₁)
omit W in
theorem base_at {x:Expr} {a:Str} {env:Env} {whole:Sem Value} (h:notSuper x=true):attributeBase x a env whole=whole:=
 (Bool.or_eq_true_iff.mp h).elim (λh=>(Bool.or_eq_true_iff.mp h).elim (λh=>(Bool.or_eq_true_iff.mp h).elim (λh=>e_Name (P:=λx=>attributeBase x a env whole=whole) h λJ J J=>rfl) λh=>e_Attr (P:=λx=>attributeBase x a env whole=whole) h λJ J J J=>rfl) λh=>e_Sub (P:=λx=>attributeBase x a env whole=whole) h λJ J J J=>rfl)
  λh=>e_Call (P:=λx=>attributeBase x a env whole=whole) h λJ xs kws p h=>e_Attr (P:=λf=>attributeBase (.Call f xs kws p) a env whole=whole) h λJ J J J=>rfl
theorem ev_attr {e:E} {n:Nat} {x:Expr} {a:Str} {p:Pos} (ie:IHE C d Γ e x) (ha:a=NM n) (hs:notSuper x=true):IHE C d Γ (.attr e n) (.Attribute x a p):=by
 subst ha
 intro m σ Φ q env A s ρ Q e hA R L k
 rw [arm_eval_Attribute,base_at hs]
 refine wpAny_bind (ie q env A s ρ _ e hA R L λV s₁ ρ₁ o σ₁ a₁ R₁ L₁ hv q=>?_)
 obtain ⟨v,h1,h2⟩:=az q
 refine wpAny_bind (wpAny_standAt (wpAny_bind (wpAny_holding (p_attr W R₁ L₁ hv h1 λU tk hu=>wpAny_bind (wpAny_letTemporaryGo (wpAny_pure ?_))))))
 exact aW W R₁ L₁ (k.from a₁) v hu h2
theorem ev_idx {e i:E} {x y:Expr} {p:Pos} (ie:IHE C d Γ e x) (ii:IHE C d Γ i y):IHE C d Γ (.idx e i) (.Subscript x y p):=by
 intro m σ Φ q env A s ρ Q e hA R L k
 refine Subscript_ (ie q env A s ρ _ e hA R L λV s₁ ρ₁ o σ₁ a₁ R₁ L₁ hv q=>ii q env A s₁ ρ₁ _ (e.aft W.box R L a₁) hA R₁ L₁ λU s₂ ρ₂ j σ₂ a₂ R₂ L₂ hu q=>?_)
 obtain ⟨v,h1,h2⟩:=az q
 exact sub_tail (p_idx W R₂ L₂ (VR.aft W.box R₁ L₁ a₂ hv) hu h1 λX tk hx=>aW W R₂ L₂ (k.from (a₁.trans a₂)) v hx h2) ⟨_,_,rfl⟩
noncomputable abbrev IHO (C:Cfg) (d:Nat) (Γ:Blk) (o:Eo) (x:Option Expr):Prop:=∀{m:Lo} {σ:St} {Φ:AV->St->Prop},evO C.τ (vcA C d) o m σ Φ->∀env A s ρ (Q:Value->Shared->Prop),EnvR C Γ env m ρ s.heap->OKA A d->Rel C ρ σ s.heap->Bas C s.heap->aV C ρ s Φ Q ->
 wpAny (model C.prog C.w) A (valueOrNone (evalOpt x env)) Q (λJ J=>False) s
theorem ev_none:IHO C d Γ .none none:=λq J J J J J J J R L k=>wpAny_pure (aW W R L k .none rfl q)
theorem ev_some {e:E} {x:Expr} (ie:IHE C d Γ e x):IHO C d Γ (.some e) (some x):=λq env A s ρ Q e hA R L k=>ie q env A s ρ Q e hA R L k
include M
theorem ev_slc {e:E} {lo hi st:Eo} {x:Expr} {l h t:Option Expr} {p sp:Pos} (ie:IHE C d Γ e x) (i1:IHO C d Γ lo l) (i2:IHO C d Γ hi h) (i3:IHO C d Γ st t):
  IHE C d Γ (.slc e lo hi st) (.Subscript x (.Slice l h t sp) p):=by
 intro m σ Φ q env A s ρ Q e hA R L k
 refine Subscript_ (ie q env A s ρ _ e hA R L λV s₁ ρ₁ o σ₁ a₁ R₁ L₁ hv q=>?_)
 rw [arm_eval_Slice]
 have e₁:=e.aft W.box R L a₁
 refine wpAny_bind (i1 q env A s₁ ρ₁ _ e₁ hA R₁ L₁ λLO s₂ ρ₂ lo' σ₂ a₂ R₂ L₂ hlo q=>?_)
 have e₂:=e₁.aft W.box R₁ L₁ a₂
 refine wpAny_bind (wpAny_holding (i2 q env A s₂ ρ₂ _ e₂ hA R₂ L₂ λHI s₃ ρ₃ hi' σ₃ a₃ R₃ L₃ hhi q=>?_))
 have e₃:=e₂.aft W.box R₂ L₂ a₃
 refine wpAny_bind (wpAny_holding (i3 q env A s₃ ρ₃ _ e₃ hA R₃ L₃ λST s₄ ρ₄ st' σ₄ a₄ R₄ L₄ hst q=>?_))
 show wpAny _ _ (newFields "slice" [LO,HI,ST]) _ _ _
 refine wpAny_newObj_type ?_ (by size_fits)
 refine p_slc W M.fst R₄ L₄ (VR.aft W.box R₁ L₁ (a₂.trans (a₃.trans a₄)) hv) (VR.aft W.box R₂ L₂ (a₃.trans a₄) hlo) (VR.aft W.box R₃ L₃ a₄ hhi) hst q (k.from (a₁.trans (a₂.trans (a₃.trans a₄))))
omit M
theorem ev_list {es:Es} {xs:List Expr} {p:Pos} (ie:IHs C d Γ es xs):IHE C d Γ (.list es) (.List xs p):=by
 intro m σ Φ q env A s ρ Q e hA R L k
 rw [arm_eval_List]
 refine wpAny_bind (wpAny_standAt (wpAny_bind (ie q env A s ρ p _ e hA R L λVs s₁ ρ₁ vs σ₁ a₁ R₁ L₁ hv q=>?_)))
 obtain ⟨h1,h2⟩:=aJ q
 have hz:vs.length<=SZ:=odT h1
 refine wpAny_newList ?_ (by rw [hv.length];have:=SZ_le;omega)
 exact k_list W R₁ L₁ (k.from a₁) (tk:=s₁.toks) (by simpa using hv) hz h2
theorem ev_tup {es:Es} {xs:List Expr} {p:Pos} {n:Nat} (ie:IHs C d Γ es xs):IHE C d Γ (.tup es) (.Tuple xs n p):=by
 intro m σ Φ q env A s ρ Q e hA R L k
 rw [arm_eval_Tuple]
 refine wpAny_bind (wpAny_standAt (wpAny_bind (ie q env A s ρ p _ e hA R L λVs s₁ ρ₁ vs σ₁ a₁ R₁ L₁ hv q=>?_)))
 obtain ⟨h1,h2⟩:=aJ q
 have hz:vs.length<=SZ:=odT h1
 refine wpAny_newTuple ?_ (by rw [hv.length];have:=SZ_le;omega)
 exact (k.from a₁).here W.box R₁ L₁ (v:=.tup vs) (tk:=s₁.toks) (λb o z=>Heap.get?_push_of_some _ z) ⟨_,Vs.toArray,rfl,⟨_,Heap.get?_push_size _ rfl,rfl,0,rfl⟩,by
  rw [List.toList_toArray];exact hv.mono (λJ J z=>z) (λb o z J=>Heap.get?_push_of_some _ z) _⟩ h2
omit W in
theorem es_nil:IHs C d Γ .nil []:=by
 intro m σ Φ q env A s ρ pos Q e hA R L k
 exact spliced_nil (k [] s ρ [] σ (Aft.refl ρ s) R L rfl q)
theorem es_cons {e:E} {es:Es} {x:Expr} {xs:List Expr} (ie:IHE C d Γ e x) (hx:notStar x=true) (ies:IHs C d Γ es xs):IHs C d Γ (.cons e es) (x::xs):=by
 intro m σ Φ q env A s ρ pos Q e hA R L k
 refine args_cons (ie q env A s ρ _ e hA R L λV s₁ ρ₁ v σ₁ a₁ R₁ L₁ hv q=>ies q env A s₁ ρ₁ pos _ (e.aft W.box R L a₁) hA R₁ L₁ λVs s₂ ρ₂ vs σ₂ a₂ R₂ L₂ hvs q=>?_) (star_one hx)
 exact k (V::Vs) s₂ ρ₂ (v::vs) σ₂ (a₁.trans a₂) R₂ L₂ ⟨V,Vs,rfl,VR.aft W.box R₁ L₁ a₂ hv,hvs⟩ q
end
end Mine.Internal
namespace Mine.Internal
structure AlgRel {R S:Type} (α:Alg R) (β:Alg S) (r:R->S->Prop) (pr:Nat->Nat->Prop):Prop where
 fail:r α.fail β.fail
 call:∀f args σ k k',(∀v σ,r (k v σ) (k' v σ))->r (α.call f args σ k) (β.call f args σ k')
 forL:∀p p' src t b b' m σ k k',pr p p'->(∀p p' m σ k k',pr p p'->(∀fl m σ,r (k fl m σ) (k' fl m σ))->r (b p m σ k) (b' p' m σ k'))->(∀fl m σ,r (k fl m σ) (k' fl m σ))->r (α.forL p src t b m σ k) (β.forL p' src t b' m σ k')
 whileL:∀p p' t t' b b' m σ k k',pr p p'->(∀m σ k k',(∀c σ,r (k c σ) (k' c σ))->r (t m σ k) (t' m σ k'))->(∀p p' m σ k k',pr p p'->(∀fl m σ,r (k fl m σ) (k' fl m σ))->r (b p m σ k) (b' p' m σ k')) ->
  (∀fl m σ,r (k fl m σ) (k' fl m σ))->r (α.whileL p t b m σ k) (β.whileL p' t' b' m σ k')
 compL:∀src t b b' m σ pos k k',(∀m σ k k',(∀o σ,r (k o σ) (k' o σ))->r (b m σ k) (b' m σ k'))->(∀v σ,r (k v σ) (k' v σ))->σ[pos]?=some (.list [])->r (α.compL src t b m σ pos k) (β.compL src t b' m σ pos k')
section
variable {R S:Type} {α:Alg R} {β:Alg S} {r:R->S->Prop} {pr:Nat->Nat->Prop} (H:AlgRel α β r pr) {τ:Tb}
include H
theorem aq {γ:Type} {o:Option γ} {k:γ->R} {k':γ->S} (h:∀x,o=some x->r (k x) (k' x)):r (optK α o k) (optK β o k'):=by
 cases o with
 | none=>exact H.fail
 | some x=>exact h x rfl
theorem ifK_rel {b:Bool} {x y:R} {x' y':S} (h1:r x x') (h2:r y y'):r (ifK b x y) (ifK b x' y'):=by cases b<;>assumption
theorem iteR {c:Prop} [Decidable c] {x y:R} {x' y':S} (h1:r x x') (h2:r y y'):r (if c then x else y) (if c then x' else y'):=by split<;>assumption
theorem aK {b:Bool} {x:R} {x':S} (h1:r x x'):r (aL α b x) (aL β b x'):=by
 cases b with
 | true=>exact h1
 | false=>exact H.fail
theorem truK_rel {v:AV} {k:Bool->R} {k':Bool->S} (h:∀b,r (k b) (k' b)):r (truK α v k) (truK β v k'):=by
 cases v<;>first | exact h _ | exact H.fail
theorem noneK_rel {v:AV} {x:R} {x':S} (h:r x x'):r (noneK α v x) (noneK β v x'):=by
 cases v<;>first | exact h | exact H.fail
variable {k:AV->St->R} {k':AV->St->S} (hk:∀v σ,r (k v σ) (k' v σ))
include hk
theorem newK_rel {o:AO} {σ:St}:r (newK o σ k) (newK o σ k'):=hk _ _
theorem binK_rel {o:BO} {a b:AV} {σ:St}:r (binK α o a b σ k) (binK β o a b σ k'):=by
 have ad:∀{A B:Option (List AV)},r (match A,B with | some xs,some ys=>aL α (decide (xs.length+ys.length<=SZ)) (newK (.list (xs++ys)) σ k) | J,ζ=>α.fail)
   (match A,B with | some xs,some ys=>aL β (decide (xs.length+ys.length<=SZ)) (newK (.list (xs++ys)) σ k') | J,ζ=>β.fail):=by
  intro A B
  rcases A with _ | A
  ·exact H.fail
  ·rcases B with _ | B
   ·exact H.fail
   ·exact aK H (hk _ _)
 unfold binK
 split
 ·exact aq H λJ J=>hk _ _
 ·cases o<;>first | exact ad | exact H.fail
theorem slcK_rel {o lo hi st:AV} {σ:St}:r (slcK τ α o lo hi st σ k) (slcK τ β o lo hi st σ k'):=by
 show r (match slK lo hi st with | none=>_ | some s=>_) (match slK lo hi st with | none=>_ | some s=>_)
 rcases slK lo hi st with _ | ⟨_ | a,_ | b⟩ | _
 ·exact H.fail
 ·cases o<;>first | exact H.fail | exact aq H λJ J=>hk _ _
 ·cases o<;>first | exact H.fail | exact aq H λJ J=>hk _ _ | exact aK H (hk _ _) | exact iteR H (c:=b=1) (aq H λJ J=>hk _ _) H.fail
 ·cases o<;>first | exact H.fail | exact aq H λJ J=>hk _ _
 ·cases o<;>first | exact H.fail | exact aq H λJ J=>hk _ _
 ·cases o<;>first | exact H.fail | exact aq H λJ J=>hk _ _
theorem bltK_rel {b:Nat} {vs:List AV} {σ:St}:r (bltK τ α b vs σ k) (bltK τ β b vs σ k'):=by
 rcases vs with _ | ⟨o,_ | ⟨c,_ | ⟨_,_⟩⟩⟩
 ·exact H.fail
 ·rcases b with _ | _ | _ | _ | _ | _ | b
  ·exact aq H λJ J=>hk _ _
  ·cases o<;>first | exact hk _ _ | exact H.fail
  ·exact aq H λJ J=>hk _ _
  ·exact aq H λJ J=>hk _ _
  ·cases o<;>first | exact aq H λJ J=>hk _ _ | exact aK H (hk _ _) | exact H.fail
  ·cases o<;>first | exact hk _ _ | exact H.fail
  ·exact H.fail
 ·cases o<;>first | exact H.fail | skip
  cases c<;>first | exact H.fail | skip
  exact iteR H (c:=b=6) (hk _ _) H.fail
 ·exact H.fail
set_option tactic.hygienic true in
theorem methL_rel {i n:Nat} {xs vs:List AV} {σ:St}:r (methL α i xs n vs σ k) (methL β i xs n vs σ k'):=by
 rcases vs with _ | ⟨o,_ | ⟨c,_⟩⟩
 ·refine iteR H ?_ H.fail
  generalize xs.getLast?=l
  cases l<;>first | exact hk _ _ | exact H.fail
 ·rcases n with _ | _ | _ | n
  ·exact aK H (hk _ _)
  ·cases o<;>first | exact H.fail | exact aK H (hk _ _) | skip
   rename_i j
   show r (match σ[j]? with | some (.list ys)=>_ | J=>_) (match σ[j]? with | some (.list ys)=>_ | J=>_)
   generalize σ[j]?=O
   rcases O with _ | O
   ·exact H.fail
   ·cases O<;>first | exact H.fail | exact aK H (hk _ _)
  ·cases o<;>first | exact H.fail | skip
   refine iteR H ?_ H.fail
   cases xs<;>first | exact hk _ _ | exact H.fail
  ·exact H.fail
 ·exact H.fail
set_option tactic.hygienic true in
theorem methD_rel {kvs:List (Nat×AV)} {vs:List AV} {σ:St}:r (methD α kvs vs σ k) (methD β kvs vs σ k'):=by
 rcases vs with _ | ⟨o,_ | ⟨c,_ | ⟨_,_⟩⟩⟩
 ·exact H.fail
 ·cases o<;>first | exact hk _ _ | exact H.fail
 ·cases o<;>first | exact hk _ _ | exact H.fail | skip
  rename_i l
  rcases l with _ | ⟨x,_ | ⟨y,_ | ⟨_,_⟩⟩⟩
  ·exact H.fail
  ·cases x<;>exact H.fail
  ·cases x<;>first | exact H.fail | (cases y<;>first | exact H.fail | (cases kvs<;>first | exact hk _ _ | exact H.fail))
  ·cases x<;>first | exact H.fail | (cases y<;>exact H.fail)
 ·exact H.fail
set_option tactic.hygienic true in
theorem methK_rel {mk:MK} {o:AV} {n:Nat} {vs:List AV} {σ:St}:r (methK α mk o n vs σ k) (methK β mk o n vs σ k'):=by
 cases mk with
 | fn f=>exact H.call _ _ _ _ _ hk
 | list=>
  cases o<;>first | exact H.fail | skip
  rename_i i
  show r (match σ[i]? with | some (.list xs)=>_ | J=>_) (match σ[i]? with | some (.list xs)=>_ | J=>_)
  generalize σ[i]?=O
  rcases O with _ | O
  ·exact H.fail
  ·cases O<;>first | exact H.fail | exact methL_rel H hk
 | dict=>
  cases o<;>first | exact H.fail | skip
  rename_i i
  show r (match σ[i]? with | some (.sdict xs)=>_ | J=>_) (match σ[i]? with | some (.sdict xs)=>_ | J=>_)
  generalize σ[i]?=O
  rcases O with _ | O
  ·exact H.fail
  ·cases O<;>first | exact H.fail | exact methD_rel H hk
omit hk
set_option tactic.hygienic true in
theorem setIK_rel {o i v:AV} {σ:St} {k:St->R} {k':St->S} (hk:∀σ,r (k σ) (k' σ)):r (setIK α o i v σ k) (setIK β o i v σ k'):=by
 cases o<;>first | exact H.fail | skip
 rename_i p
 show r (match σ[p]?,i with | some (.list xs),.int j=>_ | some (.sdict kvs),.str s=>_ | J,ζ=>_) (match σ[p]?,i with | some (.list xs),.int j=>_ | some (.sdict kvs),.str s=>_ | J,ζ=>_)
 generalize σ[p]?=O
 rcases O with _ | O
 ·exact H.fail
 ·cases O<;>first | exact H.fail | (cases i<;>first | exact H.fail | exact aK H (hk _))
set_option tactic.hygienic true in
theorem setAK_rel {o v:AV} {n:Nat} {σ:St} {k:St->R} {k':St->S} (hk:∀σ,r (k σ) (k' σ)):r (setAK τ α o n v σ k) (setAK τ β o n v σ k'):=by
 cases o<;>first | exact H.fail | skip
 rename_i p
 show r (match σ[p]? with | some (.inst c fs)=>_ | J=>_) (match σ[p]? with | some (.inst c fs)=>_ | J=>_)
 generalize σ[p]?=O
 rcases O with _ | O
 ·exact H.fail
 ·cases O<;>first | exact H.fail | exact aK H (hk _)
mutual
theorem aj:∀(e:E) {m:Lo} {σ:St} {k:AV->St->R} {k':AV->St->S},(∀v σ,r (k v σ) (k' v σ))->r (evE τ α e m σ k) (evE τ β e m σ k'):=@λω=>@λψ=>@λχ=>@λϕ=>@λϱ=>@λς=>match ω,ψ,χ,ϕ,ϱ,ς with
 | .bad,J,ζ,η,θ,μ=>H.fail
 | .lit v,J,ζ,η,θ,hk=>hk _ _
 | .var i,J,ζ,η,θ,hk=>aq H λJ J=>hk _ _
 | .glob v,J,ζ,η,θ,hk=>hk _ _
 | .bin o a b,J,ζ,η,θ,hk=>aj a λJ J=>aj b λJ J=>binK_rel H hk
 | .neg a,J,ζ,η,θ,hk=>aj a λv J=>by cases v<;>first | exact hk _ _ | exact H.fail
 | .not a,J,ζ,η,θ,hk=>aj a λv J=>truK_rel H λJ=>hk _ _
 | .bop b es,J,ζ,η,θ,hk=>evB_rel b es hk
 | .cmp a cs,J,ζ,η,θ,hk=>aj a λJ J=>evC_rel cs hk
 | .ite c t f,J,ζ,η,θ,hk=>aj c λJ J=>truK_rel H λJ=>ifK_rel H (aj t hk) (aj f hk)
 | .attr a n,J,ζ,η,θ,hk=>aj a λJ J=>aq H λJ J=>hk _ _
 | .idx a b,J,ζ,η,θ,hk=>aj a λJ J=>aj b λJ J=>aq H λJ J=>hk _ _
 | .slc a lo hi st,J,ζ,η,θ,hk=>aj a λJ J=>evO_rel lo λJ J=>evO_rel hi λJ J=>evO_rel st λJ J=>slcK_rel H hk
 | .list es,J,ζ,η,θ,hk=>evEs_rel es λJ J=>aK H (newK_rel H hk)
 | .tup es,J,ζ,η,θ,hk=>evEs_rel es λJ J=>aK H (hk _ _)
 | .dict ks es,J,ζ,η,θ,hk=>evEs_rel es λJ J=>aK H (newK_rel H hk)
 | .call f es,J,ζ,η,θ,hk=>evEs_rel es λJ J=>aq H λJ J=>H.call _ _ _ _ _ hk
 | .new c es,J,ζ,η,θ,hk=>evEs_rel es λJ J=>aq H λJ J=>aq H λJ J=>H.call _ _ _ _ _ λJ J=>noneK_rel H (hk _ _)
 | .newK c ks es,J,ζ,η,θ,hk=>evEs_rel es λJ J=>aq H λJ J=>aq H λJ J=>H.call _ _ _ _ _ λJ J=>noneK_rel H (hk _ _)
 | .meth a n es,J,ζ,η,θ,hk=>aj a λJ J=>aq H λJ J=>evEs_rel es λJ J=>methK_rel H hk
 | .blt b es,J,ζ,η,θ,hk=>evEs_rel es λJ J=>bltK_rel H hk
 | .srtk a,J,ζ,η,θ,hk=>aj a λJ J=>aq H λJ J=>aK H (newK_rel H hk)
 | .comp elt t it ifs vs,J,ζ,η,θ,hk=>evI_rel it λJ J=>H.compL _ _ _ _ _ _ _ _ _ (λJ J J J hk=>evT_rel ifs λJ J=>ifK_rel H (aj elt λJ J=>hk _ _) (hk _ _)) hk List.getElem?_concat_length
theorem evEs_rel:∀(es:Es) {m:Lo} {σ:St} {k:List AV->St->R} {k':List AV->St->S},(∀v σ,r (k v σ) (k' v σ))->r (evEs τ α es m σ k) (evEs τ β es m σ k'):=@λω=>@λψ=>@λχ=>@λϕ=>@λϱ=>@λς=>match ω,ψ,χ,ϕ,ϱ,ς with
 | .nil,J,ζ,η,θ,hk=>hk _ _
 | .cons e es,J,ζ,η,θ,hk=>aj e λJ J=>evEs_rel es λJ J=>hk _ _
theorem evT_rel:∀(es:Es) {m:Lo} {σ:St} {k:Bool->St->R} {k':Bool->St->S},(∀v σ,r (k v σ) (k' v σ))->r (evT τ α es m σ k) (evT τ β es m σ k'):=@λω=>@λψ=>@λχ=>@λϕ=>@λϱ=>@λς=>match ω,ψ,χ,ϕ,ϱ,ς with
 | .nil,J,ζ,η,θ,hk=>hk _ _
 | .cons e es,J,ζ,η,θ,hk=>aj e λJ J=>truK_rel H λJ=>ifK_rel H (evT_rel es hk) (hk _ _)
theorem evB_rel:∀(b:Bool) (es:Es) {m:Lo} {σ:St} {k:AV->St->R} {k':AV->St->S},(∀v σ,r (k v σ) (k' v σ))->r (evB τ α b es m σ k) (evB τ β b es m σ k'):=@λω=>@λψ=>@λχ=>@λϕ=>@λϱ=>@λς=>@λϑ=>match ω,ψ,χ,ϕ,ϱ,ς,ϑ with
 | J,.nil,ζ,η,θ,μ,ν=>H.fail
 | b,.cons e .nil,J,ζ,η,θ,hk=>aj e hk
 | b,.cons e (.cons e2 es),J,ζ,η,θ,hk=>aj e λJ J=>truK_rel H λJ=>ifK_rel H (evB_rel b (.cons e2 es) hk) (hk _ _)
theorem evC_rel:∀(cs:Cs) {a:AV} {m:Lo} {σ:St} {k:AV->St->R} {k':AV->St->S},(∀v σ,r (k v σ) (k' v σ))->r (evC τ α a cs m σ k) (evC τ β a cs m σ k'):=@λω=>@λψ=>@λχ=>@λϕ=>@λϱ=>@λς=>@λϑ=>match ω,ψ,χ,ϕ,ϱ,ς,ϑ with
 | .nil,J,ζ,η,θ,μ,ν=>H.fail
 | .cons o e .nil,J,ζ,η,θ,μ,hk=>aj e λJ J=>aq H λJ J=>hk _ _
 | .cons o e (.cons o2 e2 cs),J,ζ,η,θ,μ,hk=>aj e λJ J=>aq H λJ J=>ifK_rel H (evC_rel (.cons o2 e2 cs) hk) (hk _ _)
theorem evO_rel:∀(o:Eo) {m:Lo} {σ:St} {k:AV->St->R} {k':AV->St->S},(∀v σ,r (k v σ) (k' v σ))->r (evO τ α o m σ k) (evO τ β o m σ k'):=@λω=>@λψ=>@λχ=>@λϕ=>@λϱ=>@λς=>match ω,ψ,χ,ϕ,ϱ,ς with
 | .none,J,ζ,η,θ,hk=>hk _ _
 | .some e,J,ζ,η,θ,hk=>aj e hk
theorem evI_rel:∀(it:It) {m:Lo} {σ:St} {k:Src->St->R} {k':Src->St->S},(∀v σ,r (k v σ) (k' v σ))->r (evI τ α it m σ k) (evI τ β it m σ k'):=@λω=>@λψ=>@λχ=>@λϕ=>@λϱ=>@λς=>match ω,ψ,χ,ϕ,ϱ,ς with
 | .plain e,J,ζ,η,θ,hk=>aj e λJ J=>aq H λJ J=>hk _ _
 | .range1 e,J,ζ,η,θ,hk=>aj e λv J=>by cases v<;>first | exact aK H (hk _ _) | exact H.fail
 | .range2 a b,J,ζ,η,θ,hk=>aj a λv J=>aj b λw J=>by cases v<;>cases w<;>first | exact aK H (hk _ _) | exact H.fail
 | .enum e,J,ζ,η,θ,hk=>by
  refine aj e λv σ=>?_
  cases v with
  | ref i=>
   simp only
   cases h:σ[i]? with
   | none=>exact H.fail
   | some ob=>cases ob<;>first | exact H.fail | exact hk _ _
  | _=>exact H.fail
end
set_option tactic.hygienic true in
theorem asgK_rel {g:Tg} {v:AV} {m:Lo} {σ:St} {k:Lo->St->R} {k':Lo->St->S} (hk:∀m σ,r (k m σ) (k' m σ)):r (asgK τ α g v m σ k) (asgK τ β g v m σ k'):=by
 cases g with
 | nm t=>exact aq H λJ J=>hk _ _
 | sub o i=>exact aj H o λJ J=>aj H i λJ J=>setIK_rel H λJ=>hk _ _
 | attr o n=>exact aj H o λJ J=>setAK_rel H λJ=>hk _ _
 | subs o i o' i'=>
  cases v<;>first | exact H.fail | skip
  rename_i l
  rcases l with _ | ⟨x,_ | ⟨y,_ | ⟨_,_⟩⟩⟩
  ·exact H.fail
  ·exact H.fail
  ·exact aj H o λJ J=>aj H i λJ J=>setIK_rel H λJ=>aj H o' λJ J=>aj H i' λJ J=>setIK_rel H λJ=>hk _ _
  ·exact H.fail
mutual
theorem evS_rel:∀(s:Internal.S) {p p':Nat} {m:Lo} {σ:St} {k:Fl->Lo->St->R} {k':Fl->Lo->St->S},pr p p'->(∀fl m σ,r (k fl m σ) (k' fl m σ))->r (evS τ α s p m σ k) (evS τ β s p' m σ k'):=@λω=>@λψ=>@λχ=>@λϕ=>@λϱ=>@λς=>@λϑ=>@λϖ=>@λϐ=>match ω,ψ,χ,ϕ,ϱ,ς,ϑ,ϖ,ϐ with
 | .bad,J,ζ,η,θ,μ,ν,ξ,π=>H.fail
 | .expr e,J,ζ,η,θ,μ,ν,ξ,hk=>aj H e λJ J=>hk _ _ _
 | .ret e,J,ζ,η,θ,μ,ν,ξ,hk=>aj H e λJ J=>hk _ _ _
 | .asg t e,J,ζ,η,θ,μ,ν,ξ,hk=>aj H e λJ J=>asgK_rel H λJ J=>hk _ _ _
 | .aug i o e,J,ζ,η,θ,μ,ν,ξ,hk=>by
  refine aq H λa J=>aj H e λb J=>?_
  cases a<;>cases b<;>first | exact H.fail | exact aq H λJ J=>hk _ _ _
 | .ite c a b,J,ζ,η,θ,μ,ν,hp,hk=>aj H c λJ J=>truK_rel H λJ=>ifK_rel H (evSs_rel a hp hk) (evSs_rel b hp hk)
 | .for_ t it b,J,ζ,η,θ,μ,ν,hp,hk=>evI_rel H it λJ J=>H.forL _ _ _ _ _ _ _ _ _ _ hp (λJ J J J J J hp hk=>evSs_rel b hp hk) hk
 | .while_ c b,J,ζ,η,θ,μ,ν,hp,hk=>H.whileL _ _ _ _ _ _ _ _ _ _ hp (λJ J J J hk=>aj H c λJ J=>truK_rel H λJ=>hk _ _) (λJ J J J J J hp hk=>evSs_rel b hp hk) hk
 | .cont,J,ζ,η,θ,μ,ν,ξ,hk=>hk _ _ _
theorem evSs_rel:∀(ss:Ss) {p p':Nat} {m:Lo} {σ:St} {k:Fl->Lo->St->R} {k':Fl->Lo->St->S},pr p p'->(∀fl m σ,r (k fl m σ) (k' fl m σ))->r (aA τ α ss p m σ k) (aA τ β ss p' m σ k'):=@λω=>@λψ=>@λχ=>@λϕ=>@λϱ=>@λς=>@λϑ=>@λϖ=>@λϐ=>match ω,ψ,χ,ϕ,ϱ,ς,ϑ,ϖ,ϐ with
 | .nil,J,ζ,η,θ,μ,ν,ξ,hk=>hk _ _ _
 | .cons s ss,J,ζ,η,θ,μ,ν,hp,hk=>by
  refine evS_rel s hp λfl m σ=>?_
  cases fl with
  | next=>exact evSs_rel ss hp hk
  | cont=>exact hk _ _ _
  | ret v=>exact hk _ _ _
end
end
end Mine.Internal
namespace Mine.Internal
open PySem PySem.W PySem.Calls PyProof.Rows PySem.SeqAt
noncomputable def bopOf (an:Bool):PySem.BoolOp:=if an then .And else .Or
section
variable {C:Cfg} {N:Nms} (W:CfgOK C) (M:NmsOK C N) {Γ:Blk} {σ:St} {d:Nat} {m:Lo} {Φ:AV->St->Prop}
omit W in
theorem vc_mono:AlgRel (vcA C d) (vcA C d) (λP Q=>P->Q) Eq where
 fail:=id
 call:=λf args σ k k' hk ⟨h1,h2,h3⟩=>⟨h1,h2,λA s ρ Vs as fd Q a1 a2 a3 a4 a5 a6 a7=>h3 A s ρ Vs as fd Q a1 a2 a3 a4 a5 a6 (a7.mono hk)⟩
 forL:=by
  rintro p _ src t b b' m σ k k' rfl hb hk ⟨p',n,I,h1,h2,h3,h4⟩
  refine ⟨p',n,I,h1,h2,h3,λj m σ hI=>⟨(h4 j m σ hI).1,?_⟩⟩
  have:=(h4 j m σ hI).2
  revert this
  cases itemAt σ src j with
  | none=>exact id
  | some o=>
   cases o with
   | none=>exact hk _ _ _
   | some v=>
    simp only
    cases aw t v m with
    | none=>exact id
    | some m'=>exact hb _ _ _ _ _ _ rfl (λfl m σ h=>by cases fl<;>first | exact hk _ _ _ h | exact h)
 whileL:=by
  rintro p _ t t' b b' m σ k k' rfl ht hb hk ⟨p',n,I,h1,h3,h4⟩
  refine ⟨p',n,I,h1,h3,λj m σ hI=>⟨(h4 j m σ hI).1,?_⟩⟩
  refine ht _ _ _ _ (λc σ h=>?_) (h4 j m σ hI).2
  cases c with
  | false=>exact hk _ _ _ h
  | true=>exact hb _ _ _ _ _ _ rfl (λfl m σ h=>by cases fl<;>first | exact hk _ _ _ h | exact h) h
 compL:=by
  rintro src t b b' m σ pos k k' hb hk-⟨n,I,h1,h2,h3⟩
  refine ⟨n,I,h1,h2,λj σ hI=>⟨(h3 j σ hI).1,?_⟩⟩
  have:=(h3 j σ hI).2
  revert this
  cases itemAt σ src j with
  | none=>exact id
  | some o=>
   cases o with
   | none=>exact hk _ _
   | some v=>
    simp only
    cases aw t v m with
    | none=>exact id
    | some m'=>exact hb _ _ _ _ (λo σ h=>by cases o<;>exact h)
noncomputable abbrev IHB (C:Cfg) (d:Nat) (Γ:Blk) (an:Bool) (es:Es) (xs:List Expr):Prop:=∀{m:Lo} {σ:St} {Φ:AV->St->Prop},evB C.τ (vcA C d) an es m σ Φ ->
 ∀env A s ρ pos (Q:Value->Shared->Prop),EnvR C Γ env m ρ s.heap->OKA A d->Rel C ρ σ s.heap->Bas C s.heap->aV C ρ s Φ Q ->
  wpAny (model C.prog C.w) A (boolOp pos (bopOf an) (evalEach xs env)) Q (λJ J=>False) s
noncomputable abbrev IHBT (C:Cfg) (d:Nat) (Γ:Blk) (an:Bool) (es:Es) (xs:List Expr):Prop:=∀{m:Lo} {σ:St} {Φ:Bool->St->Prop},(evB C.τ (vcA C d) an es m σ λv σ=>truK (vcA C d) v λb=>Φ b σ) ->
 ∀env A s ρ (Q:Bool->Shared->Prop),EnvR C Γ env m ρ s.heap->OKA A d->Rel C ρ σ s.heap->Bas C s.heap->ContB C ρ s Φ Q ->
  wpAny (model C.prog C.w) A (allTrue (bopOf an) xs env) Q (λJ J=>False) s
include W
theorem b_one {an:Bool} {e:E} {x:Expr} (ie:IHE C d Γ e x):IHB C d Γ an (.cons e .nil) [x]:=by
 intro m σ Φ q env A s ρ pos Q e hA R L k
 exact ie q env A s ρ Q e hA R L k
theorem b_more {an:Bool} {e e2:E} {es:Es} {x x2:Expr} {xs:List Expr} (ie:IHE C d Γ e x) (ir:IHB C d Γ an (.cons e2 es) (x2::xs)):IHB C d Γ an (.cons e (.cons e2 es)) (x::x2::xs):=by
 intro m σ Φ q env A s ρ pos Q e hA R L k
 show wpAny _ A (do
  let v <-eval x env
  standAt pos
  let t <-holding [v] (truthy v)
  match bopOf an,t with
  | .And,false | .Or,true=>pure v
  | J,ζ=>boolOp pos (bopOf an) (evalEach (x2::xs) env)) Q _ s
 refine wpAny_bind (ie q env A s ρ _ e hA R L λV s₁ ρ₁ v σ₁ a₁ R₁ L₁ hv q=>?_)
 obtain ⟨b,rfl,q⟩:=truK_inv q
 rw [show V=.bool b from hv]
 refine wpAny_bind (wpAny_standAt (wpAny_bind (wpAny_holding (wpAny_truthy_bool ?_))))
 have here:=aW W R₁ L₁ (k.from a₁) (.bool b) (V:=.bool b) (tk:=s₁.toks) rfl
 have go:=λq=>ir (m:=m) (σ:=σ₁) (Φ:=Φ) q env A s₁ ρ₁ pos Q (e.aft W.box R L a₁) hA R₁ L₁ (k.from a₁)
 cases an<;>cases b
 ·exact go q
 ·exact wpAny_pure (here q)
 ·exact wpAny_pure (here q)
 ·exact go q
theorem ev_bop {an:Bool} {es:Es} {xs:List Expr} {p:Pos} (ie:IHB C d Γ an es xs):IHE C d Γ (.bop an es) (.BoolOp (bopOf an) xs p):=by
 intro m σ Φ q env A s ρ Q e hA R L k
 exact ie q env A s ρ p Q e hA R L k
theorem bt_one {an:Bool} {e:E} {x:Expr} (ie:IHT C d Γ e x):IHBT C d Γ an (.cons e .nil) [x]:=by
 intro m σ Φ q env A s ρ Q e hA R L k
 show wpAny _ A (do
  match bopOf an,<-isTrue x env (eval x env) with
  | .And,false=>pure false
  | .Or,true=>pure true
  | J,ζ=>allTrue (bopOf an) [] env) Q _ s
 refine wpAny_bind (ie q env A s ρ _ e hA R L λb s₁ ρ₁ σ₁ a₁ R₁ L₁ q=>?_)
 have:=k b s₁ ρ₁ σ₁ a₁ R₁ L₁ q
 cases an<;>cases b<;>exact wpAny_pure this
theorem bt_more {an:Bool} {e e2:E} {es:Es} {x x2:Expr} {xs:List Expr} (ie:IHT C d Γ e x) (ir:IHBT C d Γ an (.cons e2 es) (x2::xs)):IHBT C d Γ an (.cons e (.cons e2 es)) (x::x2::xs):=by
 intro m σ Φ q env A s ρ Q e' hA R L k
 show wpAny _ A (do
  match bopOf an,<-isTrue x env (eval x env) with
  | .And,false=>pure false
  | .Or,true=>pure true
  | J,ζ=>allTrue (bopOf an) (x2::xs) env) Q _ s
 have q':evE C.τ (vcA C d) e m σ λv σ=>truK (vcA C d) v λb=>ifK (b==an) (evB C.τ (vcA C d) an (.cons e2 es) m σ λv σ=>truK (vcA C d) v λb=>Φ b σ) (Φ b σ):=
  aj vc_mono e (λv σ h=>by
   obtain ⟨b,rfl,h⟩:=truK_inv h
   exact h) (q:evE C.τ (vcA C d) e m σ λv σ=>truK (vcA C d) v λb=>ifK (b==an) (evB C.τ (vcA C d) an (.cons e2 es) m σ λv σ=>truK (vcA C d) v λb=>Φ b σ) (truK (vcA C d) v λb=>Φ b σ))
 refine wpAny_bind (ie q' env A s ρ _ e' hA R L λb s₁ ρ₁ σ₁ a₁ R₁ L₁ q=>?_)
 have go:=λq=>ir (m:=m) (σ:=σ₁) (Φ:=Φ) q env A s₁ ρ₁ Q (e'.aft W.box R L a₁) hA R₁ L₁ (k.from a₁)
 have here:=k b s₁ ρ₁ σ₁ a₁ R₁ L₁
 cases an<;>cases b
 ·exact go q
 ·exact wpAny_pure (here q)
 ·exact wpAny_pure (here q)
 ·exact go q
theorem tr_bop {an:Bool} {es:Es} {xs:List Expr} {p:Pos} (ie:IHBT C d Γ an es xs):IHT C d Γ (.bop an es) (.BoolOp (bopOf an) xs p):=by
 intro m σ Φ q env A s ρ Q e hA R L k
 exact ie q env A s ρ Q e hA R L k
noncomputable abbrev IHC (C:Cfg) (d:Nat) (Γ:Blk) (cs:Cs) (ops:List CmpOp) (xs:List Expr):Prop:=∀{m:Lo} {σ:St} {a:AV} {Φ:AV->St->Prop},evC C.τ (vcA C d) a cs m σ Φ ->
 ∀env A s ρ pos V (Q:Value->Shared->Prop),EnvR C Γ env m ρ s.heap->OKA A d->Rel C ρ σ s.heap->Bas C s.heap->VR s.heap (ab ρ) C.gf a V->aV C ρ s Φ Q ->
  wpAny (model C.prog C.w) A (compareChain pos V ops (evalEach xs env)) Q (λJ J=>False) s
noncomputable abbrev IHCT (C:Cfg) (d:Nat) (Γ:Blk) (cs:Cs) (ops:List CmpOp) (xs:List Expr):Prop:=∀{m:Lo} {σ:St} {a:AV} {Φ:Bool->St->Prop},(evC C.τ (vcA C d) a cs m σ λv σ=>truK (vcA C d) v λb=>Φ b σ) ->
 ∀env A s ρ pos V (Q:Bool->Shared->Prop),EnvR C Γ env m ρ s.heap->OKA A d->Rel C ρ σ s.heap->Bas C s.heap->VR s.heap (ab ρ) C.gf a V->ContB C ρ s Φ Q ->
  wpAny (model C.prog C.w) A (testChain pos V ops (evalEach xs env)) Q (λJ J=>False) s
omit W in
theorem k_boolB {s:Shared} {ρ:Ro} {Q:Bool->Shared->Prop} {Ψ:Bool->St->Prop} (W:CfgOK C) (R:Rel C ρ σ s.heap) (L:Bas C s.heap) (k:ContB C ρ s Ψ Q) {b:Bool} {tk:Nat} (q:Ψ b σ):Q b { s with toks:=tk }:=by
 obtain ⟨a,R',L'⟩:=aE (h':=s.heap) (tk:=tk) W.box R L (λJ J e=>e)
 exact k b _ ρ σ a R' L' q
theorem operate_of {vs:List Value} {t:Sem Value} {A:Around} {s:Shared} {Q:Value->Shared->Prop} {E:Value->Shared->Prop} (h:wpAny (model C.prog C.w) A t Q E s):wpAny (model C.prog C.w) A (operate vs t) Q E s:=wpAny_operating h
theorem release_of {vs ks:List Value} {A:Around} {s:Shared} {Q:Unit->Shared->Prop} {E:Value->Shared->Prop} (h:Q () s):wpAny (model C.prog C.w) A (release vs ks) Q E s:=λΓ p J=>by rw [Sem.wp_release];exact h
theorem c_one {o:CO} {e:E} {x:Expr} (ie:IHE C d Γ e x):IHC C d Γ (.cons o e .nil) [coOf o] [x]:=by
 intro m σ a Φ q env A s ρ pos V Q e hA R L ha k
 refine wpAny_bind (wpAny_holding (ie q env A s ρ _ e hA R L λU s₁ ρ₁ b σ₁ a₁ R₁ L₁ hb q=>wpAny_bind (wpAny_standAt (operate_of W ?_))))
 obtain ⟨r,h1,h2⟩:=az q
 exact p_cmp W hA R₁ L₁ (VR.aft W.box R L a₁ ha) hb h1 λtk=>aW W R₁ L₁ (k.from a₁) (.bool r) rfl h2
theorem c_more {o o2:CO} {e e2:E} {cs:Cs} {x x2:Expr} {ops:List CmpOp} {xs:List Expr} (ie:IHE C d Γ e x) (ir:IHC C d Γ (.cons o2 e2 cs) (coOf o2::ops) (x2::xs)):IHC C d Γ (.cons o e (.cons o2 e2 cs)) (coOf o::coOf o2::ops) (x::x2::xs):=by
 intro m σ a Φ q env A s ρ pos V Q e hA R L ha k
 show wpAny _ A (do
  let rv <-holding [V] (eval x env)
  standAt pos
  let c <-holding [V,rv] (compareOp (coOf o) V rv)
  release [V,rv] [c]
  if <-holding [c,rv] (truthy c) then compareChain pos rv (coOf o2::ops) (evalEach (x2::xs) env) else pure c) Q _ s
 refine wpAny_bind (wpAny_holding (ie q env A s ρ _ e hA R L λU s₁ ρ₁ b σ₁ a₁ R₁ L₁ hb q=>wpAny_bind (wpAny_standAt (wpAny_bind (wpAny_holding ?_)))))
 obtain ⟨r,h1,h2⟩:=az q
 refine p_cmp W hA R₁ L₁ (VR.aft W.box R L a₁ ha) hb h1 λtk=>wpAny_bind (release_of W (wpAny_bind (wpAny_holding (wpAny_truthy_bool ?_))))
 obtain ⟨a₂,R₂,L₂⟩:=aE (s:=s₁) (h':=s₁.heap) (tk:=tk) W.box R₁ L₁ (λJ J e=>e)
 have h3:ifK r (evC C.τ (vcA C d) b (.cons o2 e2 cs) m σ₁ Φ) (Φ (.bool false) σ₁):=h2
 cases r with
 | true=>exact ir h3 env A { s₁ with toks:=tk } ρ₁ pos U Q (e.aft (s':={ s₁ with toks:=tk }) W.box R L (a₁.trans a₂)) hA R₂ L₂ hb (k.from (a₁.trans a₂))
 | false=>exact wpAny_pure (aW (s:={ s₁ with toks:=tk }) W R₂ L₂ (k.from (a₁.trans a₂)) (.bool false) (tk:=tk) rfl h3)
theorem ct_one {o:CO} {e:E} {x:Expr} (ie:IHE C d Γ e x):IHCT C d Γ (.cons o e .nil) [coOf o] [x]:=by
 intro m σ a Φ q env A s ρ pos V Q e hA R L ha k
 refine wpAny_bind (wpAny_holding (ie q env A s ρ _ e hA R L λU s₁ ρ₁ b σ₁ a₁ R₁ L₁ hb q=>wpAny_bind (wpAny_standAt (wpAny_bind (operate_of W ?_)))))
 obtain ⟨r,h1,h2⟩:=az q
 exact p_cmp W hA R₁ L₁ (VR.aft W.box R L a₁ ha) hb h1 λtk=>wpAny_holding (wpAny_truthy_bool (k_boolB W R₁ L₁ (k.from a₁) h2))
theorem ct_more {o o2:CO} {e e2:E} {cs:Cs} {x x2:Expr} {ops:List CmpOp} {xs:List Expr} (ie:IHE C d Γ e x) (ir:IHCT C d Γ (.cons o2 e2 cs) (coOf o2::ops) (x2::xs)):IHCT C d Γ (.cons o e (.cons o2 e2 cs)) (coOf o::coOf o2::ops) (x::x2::xs):=by
 intro m σ a Φ q env A s ρ pos V Q e hA R L ha k
 show wpAny _ A (do
  let rv <-holding [V] (eval x env)
  standAt pos
  let c <-holding [V,rv] (compareOp (coOf o) V rv)
  release [V,rv] [c]
  if <-holding [c,rv] (truthy c) then testChain pos rv (coOf o2::ops) (evalEach (x2::xs) env) else pure false) Q _ s
 refine wpAny_bind (wpAny_holding (ie q env A s ρ _ e hA R L λU s₁ ρ₁ b σ₁ a₁ R₁ L₁ hb q=>wpAny_bind (wpAny_standAt (wpAny_bind (wpAny_holding ?_)))))
 obtain ⟨r,h1,h2⟩:=az q
 refine p_cmp W hA R₁ L₁ (VR.aft W.box R L a₁ ha) hb h1 λtk=>wpAny_bind (release_of W (wpAny_bind (wpAny_holding (wpAny_truthy_bool ?_))))
 obtain ⟨a₂,R₂,L₂⟩:=aE (s:=s₁) (h':=s₁.heap) (tk:=tk) W.box R₁ L₁ (λJ J e=>e)
 have h3:ifK r (evC C.τ (vcA C d) b (.cons o2 e2 cs) m σ₁ λv σ=>truK (vcA C d) v λb=>Φ b σ) (Φ false σ₁):=h2
 cases r with
 | true=>exact ir h3 env A { s₁ with toks:=tk } ρ₁ pos U Q (e.aft (s':={ s₁ with toks:=tk }) W.box R L (a₁.trans a₂)) hA R₂ L₂ hb (k.from (a₁.trans a₂))
 | false=>exact wpAny_pure (k_boolB (s:={ s₁ with toks:=tk }) W R₂ L₂ (k.from (a₁.trans a₂)) (tk:=tk) h3)
omit W in
theorem marked_at:∀{cs:Cs} {ops:List CmpOp} {xs:List Expr} {ts:List (Sem Value)},ckCs N Γ cs ops xs=true->markedEach ops xs ts=ts:=@λω=>@λψ=>@λχ=>@λϕ=>@λϱ=>match ω,ψ,χ,ϕ,ϱ with
 | .nil,[],[],J,ζ=>by first | rfl | simp [markedEach]
 | .nil,J::ζ,η,θ,h=>ffT h
 | .nil,[],J::ζ,η,h=>ffT h
 | .cons J ζ η,[],θ,μ,h=>ffT h
 | .cons J ζ η,θ::μ,[],ν,h=>ffT h
 | .cons o e cs,op::ops,x::xs,ts,h=>by
  have hb:behindInMarks op x=false:=by
   have hn:=(an4 h).1.2
   cases x<;>first | rfl | exact ffT hn
  have ih:=λts=>marked_at (ts:=ts) (an4 h).2
  cases ops with
  | nil=>
   cases xs with
   | nil=>
    cases ts with
    | nil=>first | rfl | simp [markedEach]
    | cons t ts=>
     cases ts with
     | nil=>simp only [markedEach];rw [markedBehindIn_of_false hb]
     | cons t2 ts=>first | rfl | simp [markedEach]
   | cons x2 xs=>
    cases ts with
    | nil=>first | rfl | simp [markedEach]
    | cons t ts=>simp only [markedEach,ih]
  | cons op2 ops=>
   cases ts with
   | nil=>cases xs<;>first | rfl | simp [markedEach]
   | cons t ts=>simp only [markedEach,ih]
theorem ev_cmp {l:E} {cs:Cs} {x:Expr} {ops:List CmpOp} {xs:List Expr} {p:Pos} (hck:ckCs N Γ cs ops xs=true) (il:IHE C d Γ l x) (ic:IHC C d Γ cs ops xs):IHE C d Γ (.cmp l cs) (.Compare x ops xs p):=by
 intro m σ Φ q env A s ρ Q e hA R L k
 rw [arm_eval_Compare,marked_at hck]
 exact wpAny_bind (il q env A s ρ _ e hA R L λV s₁ ρ₁ v σ₁ a₁ R₁ L₁ hv q=>ic q env A s₁ ρ₁ p V Q (e.aft W.box R L a₁) hA R₁ L₁ hv (k.from a₁))
theorem tr_cmp {l:E} {cs:Cs} {x:Expr} {ops:List CmpOp} {xs:List Expr} {p:Pos} (hck:ckCs N Γ cs ops xs=true) (il:IHE C d Γ l x) (ic:IHCT C d Γ cs ops xs):IHT C d Γ (.cmp l cs) (.Compare x ops xs p):=by
 intro m σ Φ q env A s ρ Q e hA R L k
 rw [arm_isTrue_Compare,marked_at hck]
 exact wpAny_bind (il q env A s ρ _ e hA R L λV s₁ ρ₁ v σ₁ a₁ R₁ L₁ hv q=>ic q env A s₁ ρ₁ p V Q (e.aft W.box R L a₁) hA R₁ L₁ hv (k.from a₁))
end
noncomputable def IHL (C:Cfg) (d:Nat) (Γ:Blk):Es->List Expr->Prop:=λω ψ=>match ω,ψ with
 | .nil,[]=>True
 | .cons e es,x::xs=>IHE C d Γ e x/\notStar x=true/\IHL C d Γ es xs
 | J,ζ=>False
theorem DR.look_none {h:Heap} {rf gf:Rf} {n:Nat} (hn:n<NN):∀{fs:List (Nat×AV)} {es:List DictEntry},DR h rf gf fs es->lookA n fs=none->getL (NM n) es=some none:=@λω=>@λψ=>@λχ=>@λϕ=>match ω,ψ,χ,ϕ with
 | fs,es,hD,e=>by
  have hno:=hD.noRef
  have:es.find? (λJ=>J.key.isStr (NM n))=none:=by
   clear hno
   induction fs generalizing es with
   | nil=>rw [show es=[] from hD];rfl
   | cons a fs ih=>
    obtain ⟨j,y⟩:=a
    obtain ⟨en,q,rfl,hj,⟨t,ht⟩,hy,hq⟩:=hD
    simp only [lookA] at e
    split at e
    ·cases e
    ·rename_i hne
     rw [List.find?_cons_of_neg (by rw [ht];show ¬(NM j==NM n)=true;rw [NM_beq hj hn];simpa using hne)]
     exact ih _ hq e
  unfold getL
  rw [this]
  simp only [hno]
  rfl
noncomputable def lenEs:Es->Nat:=λω=>match ω with
 | .nil=>0
 | .cons J es=>lenEs es+1
section
variable {C:Cfg} {N:Nms} (W:CfgOK C) (M:NmsOK C N) {Γ:Blk} {σ:St} {d:Nat} {m:Lo} {Φ:AV->St->Prop}
include W
theorem IHL.es:∀{es:Es} {xs:List Expr},IHL C d Γ es xs->IHs C d Γ es xs:=@λω=>@λψ=>@λχ=>match ω,ψ,χ with
 | .nil,[],J=>es_nil
 | .cons e es,x::xs,⟨h1,h2,h3⟩=>es_cons W h1 h2 (IHL.es h3)
 | .nil,J::ζ,h=>h.elim
 | .cons J ζ,[],h=>h.elim
omit W in
theorem IHL.star {env:Env}:∀{es:Es} {xs:List Expr},IHL C d Γ es xs->starEach xs env=xs.map λx=>(false,eval x env):=@λω=>@λψ=>@λχ=>match ω,ψ,χ with
 | .nil,[],J=>rfl
 | .nil,J::ζ,h=>h.elim
 | .cons J ζ,[],h=>h.elim
 | .cons e es,x::xs,⟨J,hs,h⟩=>(star_one hs).trans (congrArg (λJ=>_::J) (IHL.star h))
omit W in
theorem IHL.plain {env:Env} {es:Es} {xs:List Expr} (pos:Pos) (h:IHL C d Γ es xs):(backTo pos (starEach xs env)).any (λJ=>J.1)=false:=by
 rw [h.star]
 unfold backTo
 rw [List.map_map]
 induction xs with
 | nil=>rfl
 | cons x xs ih=>simp
theorem evalArgs_gen {M:Model} {A:Around} {E:Value->Shared->Prop} {s:Shared} {f:Value} {trees:List (Bool×Sem Value)} {Q:Args->Shared->Prop} (hpl:trees.any (λJ=>J.1)=false)
  (h:wpAny M A (spliced trees) (λvs s'=>Q ⟨vs,[]⟩ s') E s):wpAny M A (evalArgs f true trees []) Q E s:=by
 let _:=W
 cases trees with
 | nil=>
  unfold evalArgs
  show wpAny M A (spliced []>>=_) Q E s
  refine wpAny_bind (wpAny_mono h (λvs s₁ h₁=>wpAny_bind (wpAny_pure (wpAny_holding (wpAny_bind (wpAny_pure (wpAny_bind (wpAny_pure (wpAny_pure ?_)))))))) λJ J x=>x)
  exact h₁
 | cons t r=>
  obtain ⟨b,t⟩:=t
  simp only [List.any_cons,Bool.or_eq_false_iff] at hpl
  obtain ⟨rfl,_⟩:=hpl
  exact evalArgs_plain h
noncomputable def KpO (M:Model) (P:Heap->Prop) (f:Value):Prop:=∀h,P h->∃k,(k=Keeper.frame\/k=Keeper.machine\/k=Keeper.boundFrame)/\Looks M h (keeperOf f) k
theorem kpO_ref {M:Model} {f:Addr} (h:keepIn C.K (.ref f)=true):KpO M (λh=>C.K.In h) (.ref f):=keeps_K h
theorem kpO_blt {M:Model} {i:String}:KpO M (λJ=>True) (.builtin i):=λJ J=>⟨.machine,.inr (.inl rfl),Looks.of_pure rfl⟩
theorem kpO_type {M:Model} {i:String}:KpO M (λJ=>True) (.type i):=λJ J=>⟨.machine,.inr (.inl rfl),Looks.of_pure rfl⟩
theorem callW {P:Heap->Prop} {f:Value} {first:List Value} {es:Es} {xs:List Expr} {env:Env} {pos:Pos} {A:Around} {s:Shared} {ρ:Ro} {Q:Value->Shared->Prop} {Ψ:List AV->St->Prop}
  (hk:KpO (model C.prog C.w) P f) (ie:IHL C d Γ es xs) (q:evEs C.τ (vcA C d) es m σ Ψ) (e:EnvR C Γ env m ρ s.heap) (hA:OKA A d) (R:Rel C ρ σ s.heap) (L:Bas C s.heap)
  (h:∀Vs s' ρ' vs σ',Aft C ρ s s' ρ'->Rel C ρ' σ' s'.heap->Bas C s'.heap->VRs s'.heap (ab ρ') C.gf vs Vs->Ψ vs σ'->P s'.heap/\wpAny (model C.prog C.w) A (call f (first++Vs)) Q (λJ J=>False) s'):
  wpAny (model C.prog C.w) A (callWith pos f first (backTo pos (starEach xs env)) []) Q (λJ J=>False) s:=by
 refine callWith_of (P:=P) (by rw [ie.plain];rfl) hk (evalArgs_gen W (ie.plain pos) ?_)
 exact ie.es W q env A s ρ pos _ e hA R L λVs s' ρ' vs σ' a R' L' hv hΨ=>h Vs s' ρ' vs σ' a R' L' hv hΨ
include M
theorem ev_call (hd:d<=57) (hG:okB Γ=true) {f:Nat} {es:Es} {p pos:Pos} {xs:List Expr} (hf:f<57/\N.f f≠("":Str)) (hx:isG Γ (N.f f)=true) (ie:IHL C d Γ es xs):IHE C d Γ (.call f es) (.Call (.Name (N.f f) p) xs [] pos):=by
 intro m σ Φ q env A s ρ Q e hA R L k
 refine Call_Name rfl (name_glob W hG hx L e (V:=.ref (C.fa f)) (M.f f hf) ?_)
 refine callW W (kpO_ref W (M.kf f hf.1)) ie q e hA R L λVs s' ρ' vs σ' a R' L' hv q=>⟨L'.kin W,?_⟩
 obtain ⟨args,h1,h2⟩:=az q
 exact p_call W M hd hA R' L' hv h1 h2 (k.from a)
theorem ev_new (hd:d<=57) (hG:okB Γ=true) {c:Nat} {es:Es} {p pos:Pos} {xs:List Expr} (hc:c<4) (hx:isG Γ (N.c c)=true) (ie:IHL C d Γ es xs):IHE C d Γ (.new c es) (.Call (.Name (N.c c) p) xs [] pos):=by
 intro m σ Φ q env A s ρ Q e hA R L k
 refine Call_Name rfl (name_glob W hG hx L e (V:=.ref (C.ca c)) (M.c c hc) ?_)
 refine callW W (kpO_ref W (M.kc c hc)) ie q e hA R L λVs s' ρ' vs σ' a R' L' hv q=>⟨L'.kin W,?_⟩
 obtain ⟨f,h0,q⟩:=az q
 obtain ⟨args,h1,h2⟩:=az q
 rw [List.nil_append]
 obtain rfl:=Option.some.inj (iteS (o:=some _) h1).2
 refine p_new W M hd hA R' L' hv hc h0 [] Vs (λs₁ y fd L₁ hfd=>?_) (by simp) h2 (k.from a)
 obtain ⟨ds',Ds,e1,e2,e3⟩:=M.bind f fd (y::Vs) s₁ (.ref σ'.length::vs) _ hfd L₁ (by simp [hv.length]) h1
 have:=List.append_cancel_left e1
 subst this
 exact ⟨Ds,by simpa using e2,by simpa using e3⟩
omit W M in
theorem mkOf_inv {o:AV} {n:Nat} {mk:MK} {P:Prop} (h:mkOf C.τ σ o n=some mk) (kl:∀i xs,o=.ref i->σ[i]?=some (.list xs)->n<3->mk=.list->P) (kd:∀i kvs,o=.ref i->σ[i]?=some (.sdict kvs)->n=3->mk=.dict->P)
  (ki:∀i c fs f,o=.ref i->σ[i]?=some (.inst c fs)->c<4/\(lookA n fs).isNone->C.τ.mth c n=some f->mk=.fn f->P) (kb:∀i b f,o=.ref i->σ[i]?=some (.box b)->C.τ.boxC b<4->C.τ.mth (C.τ.boxC b) n=some f->mk=.fn f->P):P:=by
 cases o with
 | ref i=>
  revert h
  show (match σ[i]? with
   | some (.list J)=>if n<3 then some MK.list else none
   | some (.sdict J)=>if n=3 then some .dict else none
   | some (.inst c fs)=>if c<4/\(lookA n fs).isNone then (C.τ.mth c n).map .fn else none
   | some (.box b)=>if C.τ.boxC b<4 then (C.τ.mth (C.τ.boxC b) n).map .fn else none
   | none=>none)=some mk->P
  cases hi:σ[i]? with
  | none=>exact ae
  | some ob=>
   cases ob with
   | list xs=>exact λh=>kl i xs rfl hi (iteS h).1 (Option.some.inj (iteS h).2).symm
   | sdict xs=>exact λh=>kd i xs rfl hi (iteS h).1 (Option.some.inj (iteS h).2).symm
   | inst c fs=>exact λh=>(Option.map_eq_some_iff.mp (iteS h).2).elim λf q=>ki i c fs f rfl hi (iteS h).1 q.1 q.2.symm
   | box b=>exact λh=>(Option.map_eq_some_iff.mp (iteS h).2).elim λf q=>kb i b f rfl hi (iteS h).1 q.1 q.2.symm
 | _=>exact ae h
theorem getM_inst {i c n f:Nat} {fs:List (Nat×AV)} {V:Value} {A:Around} {s:Shared} {ρ:Ro} {pl:Sem Bool} {Q:Value×List Value->Shared->Prop} (R:Rel C ρ σ s.heap) (L:Bas C s.heap) (hv:VR s.heap (ab ρ) C.gf (.ref i) V) (hi:σ[i]?=some (.inst c fs)) (hc:c<4/\(lookA n fs).isNone) (h1:C.τ.mth c n=some f)
  (hQ:f<57->Q (.ref (C.fa f),[V]) s):wpAny (model C.prog C.w) A (getMethod V (NM n) pl) Q (λJ J=>False) s:=by
 obtain ⟨x,dx,es,n',hr,rfl,I,hdx,hD,_⟩:=inst_at W R hv hi
 have K:=W.cls c hc.1
 have h3:=K.meth n f h1
 exact method_fn (L.kin W) I K.ga K.gt h3.2.1 (eq_of_beq h3.2.2) (by show (lookIn (NM n) (dictOf es n')).map _=_;rw [lookIn_dict,hD.look_none h3.1 (Option.isNone_iff_eq_none.mp hc.2)];rfl) (hQ (M.ini' c n f h1))
theorem getM_box {i b n f:Nat} {V:Value} {A:Around} {s:Shared} {ρ:Ro} {pl:Sem Bool} {Q:Value×List Value->Shared->Prop} (R:Rel C ρ σ s.heap) (L:Bas C s.heap) (hv:VR s.heap (ab ρ) C.gf (.ref i) V) (hi:σ[i]?=some (.box b)) (hc:C.τ.boxC b<4) (h1:C.τ.mth (C.τ.boxC b) n=some f)
  (hQ:f<57->Q (.ref (C.fa f),[V]) s):wpAny (model C.prog C.w) A (getMethod V (NM n) pl) Q (λJ J=>False) s:=by
 have K:=W.cls _ hc
 have h3:=K.meth n f h1
 obtain ⟨a,ha,rfl⟩:=hv
 obtain ⟨as,hr,ha⟩:=Option.bind_eq_some_iff.mp ha
 obtain ⟨x,dx,r,es,n',rfl,g1,g2,g3⟩:=W.box.head b s.heap as (R.obj i _ as hi hr)
 obtain rfl:x=a:=Option.some.inj ha
 have I:InstAt s.heap x (instObj (C.ca (C.τ.boxC b)) dx) (C.ca (C.τ.boxC b)) (some (dictOf es n')):=⟨g1,rfl,rfl,g2⟩
 exact method_fn (L.kin W) I K.ga K.gt h3.2.1 (eq_of_beq h3.2.2) (by show (lookIn (NM n) (dictOf es n')).map _=_;rw [lookIn_dict,g3 n (λz=>nomatch h1.symm.trans z)];rfl) (hQ (M.ini' _ n f h1))
end
noncomputable def bL:Nat->String:=λω=>match ω with
 | 0=>"list.append"
 | 1=>"list.extend"
 | J=>"list.pop"
theorem list_extend_tup (l:Addr) (items:Array Value) (n:Nat) (b:Addr) (items2:Array Value) (n2:Nat) (od:Option Addr) (sl:Array (Option Value)) (hs0:¬(!items.isEmpty&&Builtin.List.listTooLong (items.size+items2.size))=true) (hs1:items.size<=sizeLine) (hs2:items.size+items2.size<=sizeLine+1):
  Meets (Builtin.«list.extend» ⟨[.ref l,.ref b],[]⟩) (λJ R s=>s.heap.get? l=some { cls:=.type "list",dict:=none,data:=.seq items n,slots:=#[] }/\s.heap.get? b=some { cls:=.type "tuple",dict:=od,data:=.seq items2 n2,slots:=sl }/\R (.ok (.ret Value.none)) { s with heap:=s.heap.update l (Obj.mapSeq λx=>x++items2),toks:=s.toks }):=
 .of_wp λprog w A R s h=>by
  obtain ⟨hp,g,d,tk,os⟩:=s;obtain ⟨hl,hb,h⟩:=h;have f1:=AutoSeq1.idx_int;have f2:=AutoSeq1.sub_tuple_tuple;have f3:=AutoSeq1.sub_list_list;have f4:=AutoSeq1.sub_tuple_list;have f5:=AutoSeq1.sub_list_tuple;
  have hz':(items++items2).size<=sizeLine+1:=by rw [Array.size_append];exact hs2
  wp_walk using (wpAny_updateSeq hl rfl (hz:=hs1) (_hz':=hz')),AutoSeq1.wpAny_loadPart' hl,AutoSeq1.wpAny_loadPart' hb;exact ⟨_,rfl,h⟩
theorem intF {a:AV} {f:Int->Prop} {P:AV->Prop} (q:match a with | .int i=>f i | J=>False) (k:∀i,f i->P (.int i)):P a:=by
 cases a<;>first | exact k _ q | exact q.elim
theorem strF {a:AV} {f:Nat->Prop} {P:AV->Prop} (q:match a with | .str i=>f i | J=>False) (k:∀i,f i->P (.str i)):P a:=by
 cases a<;>first | exact k _ q | exact q.elim
theorem trF {a:AV} {f:List AV->Prop} {g:Nat->Prop} {P:AV->Prop} (q:match a with | .tup i=>f i | .ref j=>g j | J=>False) (k:∀i,f i->P (.tup i)) (k2:∀i,g i->P (.ref i)):P a:=by
 cases a<;>first | exact k _ q | exact k2 _ q | exact q.elim
set_option tactic.hygienic true in
theorem st2F {a:AV} {f:Nat->Prop} {g:Prop} {P:AV->Prop} (q:match a with | .str i=>f i | .tup [.int J,.int ζ]=>g | J=>False) (k:∀i,f i->P (.str i)) (k2:∀x y,g->P (.tup [.int x,.int y])):P a:=by
 cases a<;>first | exact k _ q | exact q.elim | skip
 rename_i l
 rcases l with _ | ⟨x,_ | ⟨y,_ | ⟨_,_⟩⟩⟩<;>first | exact q.elim | skip
 ·cases x<;>exact q.elim
 ·cases x<;>first | exact q.elim | skip
  cases y<;>first | exact k2 _ _ q | exact q.elim
 ·cases x<;>first | exact q.elim | (cases y<;>exact q.elim)
theorem listF {o:Option AO} {f:List AV->Prop} (e:match o with | some (.list xs)=>f xs | J=>False):∃xs,o=some (.list xs)/\f xs:=by
 rcases o with _ | o
 ·exact e.elim
 ·cases o<;>first | exact ⟨_,rfl,e⟩ | exact e.elim
theorem dictF {o:Option AO} {f:List (Nat×AV)->Prop} (e:match o with | some (.sdict xs)=>f xs | J=>False):∃xs,o=some (.sdict xs)/\f xs:=by
 rcases o with _ | o
 ·exact e.elim
 ·cases o<;>first | exact ⟨_,rfl,e⟩ | exact e.elim
theorem iteI {c:Prop} [Decidable c] {P:Prop} (h:if c then P else False):c/\P:=by
 split at h
 ·exact ⟨‹c›,h⟩
 ·exact h.elim
theorem VRs.one {h:Heap} {rf gf:Rf} {x:AV} {vs:List Value} (k:VRs h rf gf [x] vs):∃v,vs=[v]/\VR h rf gf x v:=by
 obtain ⟨v,r,rfl,h1,h2⟩:=k
 exact ⟨v,by rw [show r=[] from h2],h1⟩
theorem VRs.two {h:Heap} {rf gf:Rf} {x y:AV} {vs:List Value} (k:VRs h rf gf [x,y] vs):∃v w,vs=[v,w]/\VR h rf gf x v/\VR h rf gf y w:=by
 obtain ⟨v,r,rfl,h1,h2⟩:=k
 obtain ⟨w,rfl,h3⟩:=VRs.one h2
 exact ⟨v,w,rfl,h1,h3⟩
section
variable {C:Cfg} {N:Nms} (W:CfgOK C) (M:NmsOK C N) {Γ:Blk} {σ:St} {d:Nat} {m:Lo} {Φ:AV->St->Prop}
include W
theorem p_extendT {ρ:Ro} {s:Shared} {A:Around} {Q:Value->Shared->Prop} (R:Rel C ρ σ s.heap) (L:Bas C s.heap) (k:aV C ρ s Φ Q) {i:Nat} {b:Addr} {O:Value} {xs ys:List AV} {items2:Array Value} (ho:VR s.heap (ab ρ) C.gf (.ref i) O) (hi:σ[i]?=some (.list xs))
  (hb:s.heap.IsTuple b items2) (hvs:VRs s.heap (ab ρ) C.gf ys items2.toList) (hz:xs.length+ys.length<=SZ) (p:Φ .none (σ.set i (.list (xs++ys)))):wpAny (model C.prog C.w) A (call (.builtin "list.extend") [O,.ref b]) Q (λJ J=>False) s:=by
 obtain ⟨q,a,items,e,h1,h2,rfl,⟨n,h3⟩,h4,h5⟩:=own_at W R ho (xs:=xs) (own_i hi)
 cases e
 have e1:=h4.size
 have e2:=hvs.size
 have hS:=SZ_le
 have hT:s.TypeIs (.ref a) "list":=⟨_,h3,rfl⟩
 have long:¬(!items.isEmpty&&Builtin.List.listTooLong (items.size+items2.size))=true:=by
  have:Builtin.List.listTooLong (items.size+items2.size)=false:=by
   unfold Builtin.List.listTooLong
   rw [e1,e2]
   exact decide_eq_false (by omega)
  rw [this];simp
 have fin:∀tk,Q .none { s with heap:=s.heap.update a (Obj.mapSeq λx=>x++items2),toks:=tk }:=λtk=>by
  refine k_setL W R L k (v:=.none) h1 h2 ⟨n,h3⟩ (Heap.SameBut.update ..) ⟨_,get?_update_seq (c:="list") h3 (λJ=>J++items2)⟩ (ys:=xs++ys) ?_ (by simpa using hz) rfl p
  rw [Array.toList_append];exact h4.append hvs
 obtain ⟨⟨c,od,dd,sl⟩,hb1,hb2,n2,hb3⟩:=hb
 simp only at hb2 hb3
 subst hb2;subst hb3
 exact call_meets PySem.F.slot_list_extend hT PySem.F.entry_list_extend (PySem.F.args_list_extend_2 _ _) (list_extend_tup a items n b items2 n2 od sl long (by omega) (by omega)) ⟨h3,hb1,fin _⟩
theorem p_getT {ρ:Ro} {s:Shared} {A:Around} {Q:Value->Shared->Prop} (hA:OKA A d) (R:Rel C ρ σ s.heap) (L:Bas C s.heap) (k:aV C ρ s Φ Q) {i:Nat} {O D T:Value} {dv:AV} {x y:Int} (ho:VR s.heap (ab ρ) C.gf (.ref i) O) (hi:σ[i]?=some (.sdict []))
  (ht:VR s.heap (ab ρ) C.gf (.tup [.int x,.int y]) T) (hd:VR s.heap (ab ρ) C.gf dv D) (p:Φ dv σ):wpAny (model C.prog C.w) A (call (.builtin "dict.get") [O,T,D]) Q (λJ J=>False) s:=by
 obtain ⟨ad,l,hr,rfl,hl,hkr,hz,hsy⟩:=dict_at W R ho hi
 obtain ⟨t,items,rfl,hT,hvs⟩:=ht
 obtain ⟨v1,v2,e1,⟨t1,e2⟩,⟨t2,e3⟩⟩:=VRs.two hvs
 obtain rfl:l=[]:=hkr
 have hD:s.heap.DictOfH (tupleKind (intKind C.prog C.w)) ad []:=let ⟨o',es,ep,ho',hc,hdd,hk,hp,hn⟩:=hl
  have:es=#[]:=by cases es;cases hp;rfl
  ⟨o',#[],ep,ho',hc,this▸hdd,rfl,λJ hx=>memN hx,List.nodup_nil⟩
 have hu:A.units+1<cLine:=Nat.lt_of_le_of_lt (Nat.le_trans (Nat.add_le_add_left (by decide:1<=64) A.units) (Nat.add_le_add_right (Nat.le_add_right A.units (8*d)) 64)) hA.units
 exact call_meetsIn PySem.F.slot_dict_get (hl.typeIs (s:=s)) PySem.F.entry_dict_get (PySem.F.args_dict_get_3 _ _ _) (meetsH_dict_get_default (tupleKind (intKind C.prog C.w)) ad t hsy D) ⟨hu,[x,y],[],hT.elim λo q=>q.2.2.elim λn z=>⟨o,items,n,q.1,q.2.1,z,by
  rw [e1,e2,e3];exact .cons (beq_self_eq_true x) (.cons (beq_self_eq_true y) .nil)⟩,hD,aW W R L k dv hd p⟩
theorem getM_list {i n:Nat} {xs:List AV} {V:Value} {A:Around} {s:Shared} {ρ:Ro} {pl:Sem Bool} {Q:Value×List Value->Shared->Prop} (R:Rel C ρ σ s.heap) (hv:VR s.heap (ab ρ) C.gf (.ref i) V) (hi:σ[i]?=some (.list xs)) (hn:n<3)
  (hQ:Q (.builtin (bL n),[V]) s):wpAny (model C.prog C.w) A (getMethod V (NM n) pl) Q (λJ J=>False) s:=by
 obtain ⟨q,a,items,e,h1,h2,rfl,⟨c,h3⟩,h4,h5⟩:=own_at W R hv (xs:=xs) (own_i hi)
 have hnd:∀b,Value.ref a=.ref b->∃o,s.heap.get? b=some o/\o.dict=none:=λb e=>by cases e;exact ⟨_,h3,rfl⟩
 have hT:s.TypeIs (.ref a) "list":=⟨_,h3,rfl⟩
 rcases n with _ | _ | _ | n
 ·exact getMethod_builtin (name:=Str.ofString "append") hT PySem.F.plainAttrs_list PySem.F.slot_list_append PySem.F.type_list_append hnd hQ
 ·exact getMethod_builtin (name:=Str.ofString "extend") hT PySem.F.plainAttrs_list PySem.F.slot_list_extend PySem.F.type_list_extend hnd hQ
 ·exact getMethod_builtin (name:=Str.ofString "pop") hT PySem.F.plainAttrs_list PySem.F.slot_list_pop PySem.F.type_list_pop hnd hQ
 ·exact absurd hn (Nat.not_lt.mpr (Nat.le_add_left 3 n))
theorem getM_dict {i:Nat} {kvs:List (Nat×AV)} {V:Value} {A:Around} {s:Shared} {ρ:Ro} {pl:Sem Bool} {Q:Value×List Value->Shared->Prop} (R:Rel C ρ σ s.heap) (hv:VR s.heap (ab ρ) C.gf (.ref i) V) (hi:σ[i]?=some (.sdict kvs))
  (hQ:Q (.builtin "dict.get",[V]) s):wpAny (model C.prog C.w) A (getMethod V (NM 3) pl) Q (λJ J=>False) s:=by
 obtain ⟨ad,l,hr,rfl,hl,hkr,hz,hsy⟩:=dict_at W R hv hi
 have hty:=hl.typeIs (s:=s)
 obtain ⟨o,es,ep,ho,hc,_⟩:=hl
 exact getMethod_builtin (name:=Str.ofString "get") hty PySem.F.plainAttrs_dict PySem.F.slot_dict_get PySem.F.type_dict_get (λb e=>by cases e;exact ⟨o,ho,hc.2.1⟩) hQ
theorem p_methL {ρ:Ro} {s:Shared} {A:Around} {Q:Value->Shared->Prop} (R:Rel C ρ σ s.heap) (L:Bas C s.heap) (k:aV C ρ s Φ Q) {i n:Nat} {O:Value} {xs vs:List AV} {Vs:List Value} (ho:VR s.heap (ab ρ) C.gf (.ref i) O) (hi:σ[i]?=some (.list xs))
  (hv:VRs s.heap (ab ρ) C.gf vs Vs) (p:methL (vcA C d) i xs n vs σ Φ):wpAny (model C.prog C.w) A (call (.builtin (bL n)) ([O]++Vs)) Q (λJ J=>False) s:=by
 rcases vs with _ | ⟨o,_ | ⟨c,r⟩⟩
 ·have p:=iteI p
  have h2:=p.2
  rw [show Vs=[] from hv,p.1]
  cases hl:xs.getLast? with
  | none=>rw [hl] at h2;exact h2.elim
  | some v=>rw [hl] at h2;exact p_pop W R L k ho hi hl h2
 ·obtain ⟨V,rfl,hV⟩:=VRs.one hv
  rcases n with _ | _ | _ | n
  ·exact p_append W R L k ho hV hi (odT (aJ p).1) (aJ p).2
  ·revert hV
   refine trF (P:=λo=>VR s.heap (ab ρ) C.gf o V->_) p (λys p hV=>?_) λj p hV=>?_
   ·obtain ⟨b,items,rfl,hb,hvs⟩:=hV
    exact p_extendT W R L k ho hi hb hvs (odT (aJ p).1) (aJ p).2
   ·refine (listF (f:=λys=>aL (vcA C d) (decide (i≠j/\xs.length+ys.length<=SZ)) (Φ .none (σ.set i (.list (xs++ys))))) p).elim λys z=>?_
    obtain ⟨_,b,items,e,_,_,rfl,h3,h4,_⟩:=own_at W R hV (xs:=ys) (own_i z.1)
    exact p_extend W R L k ho hi (.inl h3) h4 (odT (aJ z.2).1).2 (aJ z.2).2
  ·revert hV
   refine intF (P:=λo=>VR s.heap (ab ρ) C.gf o V->_) p λj p hV=>?_
   obtain ⟨rfl,p⟩:=iteI p
   cases xs with
   | nil=>exact p.elim
   | cons v r=>exact hV.elim λt z=>z▸p_pop0 W R L k ho hi p
  ·exact p.elim
 ·exact p.elim
theorem p_methD {ρ:Ro} {s:Shared} {A:Around} {Q:Value->Shared->Prop} (hA:OKA A d) (R:Rel C ρ σ s.heap) (L:Bas C s.heap) (k:aV C ρ s Φ Q) {i:Nat} {O:Value} {kvs:List (Nat×AV)} {vs:List AV} {Vs:List Value} (ho:VR s.heap (ab ρ) C.gf (.ref i) O) (hi:σ[i]?=some (.sdict kvs))
  (hv:VRs s.heap (ab ρ) C.gf vs Vs) (p:methD (vcA C d) kvs vs σ Φ):wpAny (model C.prog C.w) A (call (.builtin "dict.get") ([O]++Vs)) Q (λJ J=>False) s:=by
 rcases vs with _ | ⟨o,_ | ⟨c,_ | ⟨_,_⟩⟩⟩
 ·exact p.elim
 ·obtain ⟨V,rfl,hV⟩:=VRs.one hv
  revert hV
  exact strF (P:=λo=>VR s.heap (ab ρ) C.gf o V->_) p λx p hV=>hV.2.elim λt z=>z▸p_get1 W R L k ho hi hV.1 p
 ·obtain ⟨V,U,rfl,hV,hU⟩:=VRs.two hv
  revert hV
  refine st2F (P:=λo=>VR s.heap (ab ρ) C.gf o V->_) p (λx p hV=>hV.2.elim λt z=>z▸p_get W R L k ho hi hV.1 hU p) λx y p hV=>?_
  cases kvs with
  | nil=>exact p_getT W hA R L k ho hi hV hU p
  | cons J ζ=>exact p.elim
 ·exact p.elim
include M
theorem ev_meth (hd:d<=57) {e:E} {n:Nat} {es:Es} {x:Expr} {a:Str} {ap p:Pos} {xs:List Expr} (ie:IHE C d Γ e x) (ies:IHL C d Γ es xs) (ha:(a==NM n)=true) (hs:notSuper x=true) (hl:ap.endLine=p.line) (h20:xs.length<20):
  IHE C d Γ (.meth e n es) (.Call (.Attribute x a ap) xs [] p):=by
 have:=eq_of_beq ha
 subst this
 intro m σ Φ q env A s ρ Q e hA R L k
 rw [arm_eval_Call,base_at hs]
 refine wpAny_bind (ie q env A s ρ _ e hA R L λV s₁ ρ₁ o σ₁ a₁ R₁ L₁ hv q=>wpAny_bind (wpAny_standAt ?_))
 obtain ⟨mk,h1,q⟩:=az q
 have hpl:=ies.plain (env:=env) p
 have hform:methodCallForm (xs.length+([]:List Keyword).length) (backTo p (starEach xs env)) (backToKw p (keywordEach [] env))=true:=by
  unfold methodCallForm
  have:(backTo p (starEach xs env)).all (λx=>!x.1)=true:=by
   rw [List.all_eq_true]
   intro y hy
   have:=List.any_eq_false.mp hpl y hy
   simpa using this
  rw [this]
  show decide (xs.length+0+0<30)=true
  exact decide_eq_true (by omega)
 have hpos:methodCallPos true x env ap p=pure p:=by unfold methodCallPos;simp [hl]
 have e₁:=e.aft W.box R L a₁
 unfold methodCall
 rw [hform]
 refine wpAny_bind (wpAny_holding ?_)
 show wpAny _ _ (getMethod V (NM n) _) _ _ _
 have fn:∀f,mk=.fn f->f<57->wpAny (model C.prog C.w) A (callWith p (.ref (C.fa f)) [V] (backTo p (starEach xs env)) []) Q (λJ J=>False) s₁:=λf hm hf=>callW W (kpO_ref W (M.kf f hf)) ies q e₁ hA R₁ L₁ λVs s' ρ' vs σ' a' R' L' hvs q=>by
  have h2:(vcA C d).call f (o::vs) σ' Φ:=by rw [hm] at q;exact q
  have hall:VRs s'.heap (ab ρ') C.gf (o::vs) ([V]++Vs):=⟨V,Vs,rfl,VR.aft W.box R₁ L₁ a' hv,hvs⟩
  exact ⟨L'.kin W,p_call W M hd hA R' L' hall (padA_full h2.2.1) h2 (k.from (a₁.trans a'))⟩
 refine mkOf_inv h1 (λi xs ho hi hn hm=>?_) (λi kvs ho hi hn hm=>?_) (λi c fs f ho hi hc hf hm=>getM_inst W M R₁ L₁ (ho▸hv) hi hc hf λh=>wpAny_bind (wpAny_of_eq hpos (fn f hm h))) λi b f ho hi hc hf hm=>getM_box W M R₁ L₁ (ho▸hv) hi hc hf λh=>wpAny_bind (wpAny_of_eq hpos (fn f hm h))
 ·subst ho;subst hm
  refine getM_list W R₁ hv hi hn (wpAny_bind (wpAny_of_eq hpos ?_))
  refine callW W (kpO_blt W) ies q e₁ hA R₁ L₁ λVs s' ρ' vs σ' a' R' L' hvs q=>⟨trivial,?_⟩
  exact (listF (f:=λxs=>methL (vcA C d) i xs n vs σ' Φ) q).elim λxs z=>p_methL W R' L' (k.from (a₁.trans a')) (VR.aft W.box R₁ L₁ a' hv) z.1 hvs z.2
 ·subst ho;subst hm;subst hn
  refine getM_dict W R₁ hv hi (wpAny_bind (wpAny_of_eq hpos ?_))
  refine callW W (kpO_blt W) ies q e₁ hA R₁ L₁ λVs s' ρ' vs σ' a' R' L' hvs q=>⟨trivial,?_⟩
  exact (dictF (f:=λkvs=>methD (vcA C d) kvs vs σ' Φ) q).elim λxs z=>p_methD W hA R' L' (k.from (a₁.trans a')) (VR.aft W.box R₁ L₁ a' hv) z.1 hvs z.2
end
theorem tupG {a:AV} {f:List AV->Prop} {g:AV->Prop} {P:AV->Prop} (q:match a with | .tup i=>f i | o=>g o) (k:∀i,f i->P (.tup i)) (k2:∀o,g o->P o):P a:=by
 cases a<;>first | exact k _ q | exact k2 _ q
section
variable {C:Cfg} {N:Nms} (W:CfgOK C) (M:NmsOK C N) {Γ:Blk} {σ:St} {d:Nat} {m:Lo} {Φ:AV->St->Prop}
include W
theorem kpO_bltF {M:Model} (b:Nat):KpO M (λJ=>True) (bltF b):=by
 rcases b with _ | _ | _ | _ | _ | _ | b<;>first | exact kpO_blt W | exact kpO_type W
theorem p_blt {ρ:Ro} {s:Shared} {A:Around} {Q:Value->Shared->Prop} (hA:OKA A d) (R:Rel C ρ σ s.heap) (L:Bas C s.heap) (k:aV C ρ s Φ Q) {b:Nat} {vs:List AV} {Vs:List Value} (hb:b≠5) (hv:VRs s.heap (ab ρ) C.gf vs Vs) (p:bltK C.τ (vcA C d) b vs σ Φ):
  wpAny (model C.prog C.w) A (call (bltF b) Vs) Q (λJ J=>False) s:=by
 rcases vs with _ | ⟨o,_ | ⟨c,_ | ⟨_,_⟩⟩⟩
 ·exact p.elim
 ·obtain ⟨V,rfl,hV⟩:=VRs.one hv
  rcases b with _ | _ | _ | _ | _ | _ | b
  ·exact (az p).elim λxs z=>p_len W R L hV z.1 z.2 k
  ·revert hV
   exact intF (P:=λo=>VR s.heap (ab ρ) C.gf o V->_) p λx p hV=>hV.elim λt z=>z▸PySem.call_int_int (aW W R L k (.int _) ⟨_,rfl⟩ p)
  ·exact (az p).elim λxs z=>p_any W hA R L hV z.1 z.2 k
  ·exact (az p).elim λxs z=>p_sorted W hA R L k hV z.1 z.2
  ·revert hV
   refine tupG (P:=λo=>VR s.heap (ab ρ) C.gf o V->_) p (λxs p hV=>?_) λo p hV=>(az p).elim λxs z=>?_
   ·obtain ⟨a,items,rfl,ht,hvs⟩:=hV
    exact p_list W R L (.inr rfl) ht hvs (odT (aJ p).1) (aJ p).2 k
   ·obtain ⟨l,items,rfl,hl,hvs,hz⟩:=list_at W R L hV z.1
    exact p_list W R L (.inl rfl) hl hvs hz z.2 k
  ·exact absurd rfl hb
  ·exact p.elim
 ·obtain ⟨V,U,rfl,hV,hU⟩:=VRs.two hv
  revert hV hU
  refine intF (P:=λo=>VR s.heap (ab ρ) C.gf o V->VR s.heap (ab ρ) C.gf c U->_) p λx p hV=>intF (P:=λo=>VR s.heap (ab ρ) C.gf o U->_) p λy p hU=>?_
  obtain ⟨rfl,p⟩:=iteI p
  exact hV.elim λt z=>hU.elim λu z'=>z▸z'▸p_max W hA R L k p
 ·exact p.elim
include M
theorem ev_blt (hG:okB Γ=true) {b:Nat} {es:Es} {p pos:Pos} {xs:List Expr} (hb5:b≠5) (hx:isG Γ (bltN b)=true) (ie:IHL C d Γ es xs):IHE C d Γ (.blt b es) (.Call (.Name (bltN b) p) xs [] pos):=by
 intro m σ Φ q env A s ρ Q e hA R L k
 refine Call_Name rfl (name_blt W hG hx L e (M.b b).1 (M.b b).2 ?_)
 exact callW W (kpO_bltF W b) ie q e hA R L λVs s' ρ' vs σ' a R' L' hv q=>⟨trivial,p_blt W hA R' L' (k.from a) hb5 hv q⟩
theorem ev_isb (hG:okB Γ=true) {e:E} {p p2 pos:Pos} {a:Expr} (hx:isG Γ (bltN 5)=true) (hy:isG Γ "bool"=true) (ie:IHE C d Γ e a) (hs:notStar a=true):
  IHE C d Γ (.blt 5 (.cons e .nil)) (.Call (.Name (bltN 5) p) [a,.Name "bool" p2] [] pos):=by
 intro m σ Φ q env A s ρ Q e' hA R L k
 refine Call_Name rfl (name_blt W hG hx L e' (M.b 5).1 (M.b 5).2 ?_)
 rw [show starEach [a,.Name "bool" p2] env=[(false,eval a env),(false,eval (.Name "bool" p2) env)] from star_one hs]
 refine callWith_of (P:=λJ=>True) (by rfl) (kpO_bltF W 5) (evalArgs_gen W (by rfl) ?_)
 refine spliced_cons (ie (show evE C.τ (vcA C d) e m σ λv σ=>bltK C.τ (vcA C d) 5 [v] σ Φ from q) env A s ρ _ e' hA R L λV s₁ ρ₁ v σ₁ a₁ R₁ L₁ hv q=>?_)
 exact spliced_cons (name_blt W hG hy L₁ (e'.aft W.box R L a₁) M.bool.1 M.bool.2 (spliced_nil ⟨trivial,p_isb W R₁ L₁ hv q (k.from a₁)⟩))
omit M
omit W in
theorem evEs_len:∀{es:Es} {m:Lo} {σ:St} {k:List AV->St->Prop},evEs C.τ (vcA C d) es m σ k->evEs C.τ (vcA C d) es m σ λvs σ=>vs.length=lenEs es/\k vs σ:=@λω=>@λψ=>@λχ=>@λϕ=>@λϱ=>match ω,ψ,χ,ϕ,ϱ with
 | .nil,J,ζ,η,h=>⟨rfl,h⟩
 | .cons e es,m,σ,k,h=>aj vc_mono e (λv σ h=>evEs_rel vc_mono es (λvs σ h=>⟨congrArg Nat.succ h.1,h.2⟩) (evEs_len h)) h
omit W in
theorem IHL.len:∀{es:Es} {xs:List Expr},IHL C d Γ es xs->lenEs es=xs.length:=@λω=>@λψ=>@λχ=>match ω,ψ,χ with
 | .nil,[],J=>rfl
 | .nil,J::ζ,h=>h.elim
 | .cons J ζ,[],h=>h.elim
 | .cons e es,x::xs,h=>congrArg Nat.succ (IHL.len h.2.2)
theorem IHL.kw:∀{es:Es} {kws:List Keyword},IHL C d Γ es (kws.map (λJ=>J.value))->(∀kw∈kws,kw.arg.isSome)->∀(m:Lo) (σ:St) (Φ:List AV->St->Prop),evEs C.τ (vcA C d) es m σ Φ->∀env A s ρ pos (Q:List Value->Shared->Prop),EnvR C Γ env m ρ s.heap->OKA A d->Rel C ρ σ s.heap->Bas C s.heap->ContL C ρ s Φ Q ->
  wpAny (model C.prog C.w) A (evalAll ((backToKw pos (keywordEach kws env)).map (λJ=>J.2))) Q (λJ J=>False) s:=@λω=>@λψ=>@λχ=>@λϕ=>match ω,ψ,χ,ϕ with
 | .nil,[],J,ζ=>λm σ Φ q env A s ρ pos Q e hA R L k=>kwAll_nil (k [] s ρ [] σ (Aft.refl ρ s) R L rfl q)
 | .cons J ζ,⟨none,η,θ⟩::μ,ν,hs=>absurd (hs _ (.head _)) Bool.false_ne_true
 | .cons J ζ,⟨some η,θ,μ⟩::ν,h,hs=>λm σ Φ q env A s ρ pos Q e' hA R L k=>
  kwAll_cons (h.1 q env A s ρ _ e' hA R L λV s₁ ρ₁ v σ₁ a₁ R₁ L₁ hv q=>IHL.kw h.2.2 (λkw hkw=>hs kw (.tail _ hkw)) _ _ _ q env A s₁ ρ₁ pos _ (e'.aft W.box R L a₁) hA R₁ L₁ λVs s₂ ρ₂ vs σ₂ a₂ R₂ L₂ hvs q=>
   k (V::Vs) s₂ ρ₂ (v::vs) σ₂ (a₁.trans a₂) R₂ L₂ ⟨V,Vs,rfl,VR.aft W.box R₁ L₁ a₂ hv,hvs⟩ q)
 | .nil,J::ζ,h,η=>h.elim
 | .cons J ζ,[],h,η=>h.elim
omit W in
theorem kw_at:∀{ks:List Nat} {kws:List Keyword},ckKw ks kws=true->(∀kw∈kws,kw.arg.isSome)/\∀env pos,(backToKw pos (keywordEach kws env)).filterMap (λJ=>J.1)=ks.map NM/\(backToKw pos (keywordEach kws env)).all (λJ=>J.1.isSome)=true/\(backToKw pos (keywordEach kws env)).any (λJ=>J.1.isNone)=false/\ks.length=kws.length:=@λω=>@λψ=>@λχ=>match ω,ψ,χ with
 | [],[],J=>⟨λJ=>memN,λJ J=>⟨rfl,rfl,rfl,rfl⟩⟩
 | [],J::ζ,h=>ffT h
 | J::ζ,[],h=>ffT h
 | k::ks,⟨a,v,p⟩::kws,h=>by
  obtain rfl:a=some (NM k):=odT (an2 h).1
  have q:=kw_at (an2 h).2
  exact ⟨λkw hkw=>memE hkw (λz=>z▸rfl) (q.1 kw),λenv pos=>have g:=q.2 env pos;⟨congrArg (λJ=>NM k::J) g.1,g.2.1,g.2.2.1,congrArg Nat.succ g.2.2.2⟩⟩
include M
theorem ev_newK (hd:d<=57) (hG:okB Γ=true) {c:Nat} {kws:List Nat} {es:Es} {x:Str} {p pos:Pos} {kwl:List Keyword} (hc:c<4) (hx:isG Γ x=true) (hn:(x==N.c c)=true) (h2:2<=kwl.length/\kws=N.kwl c) (hk:ckKw kws kwl=true)
  (ie:IHL C d Γ es (kwl.map (λJ=>J.value))):IHE C d Γ (.newK c kws es) (.Call (.Name x p) [] kwl pos):=by
 intro m σ Φ q env A s ρ Q e hA R L k
 obtain ⟨hall,hk2⟩:=kw_at hk
 obtain ⟨g1,g2,g3,g4⟩:=hk2 env pos
 refine wpAny_Call_Name_kw (name_glob W hG hx L e (V:=.ref (C.ca c)) (by rw [eq_of_beq hn];exact M.c c hc) ?_)
 refine callWith_of (P:=λh=>C.K.In h) (by rw [g3];rfl) (kpO_ref W (M.kc c hc)) (evalArgs_kw2_nil g2 ?_)
 refine ie.kw W hall _ _ _ (evEs_len q) env A s ρ pos _ e hA R L λVs s' ρ' vs σ' a R' L' hv ⟨hl,q⟩=>⟨L'.kin W,?_⟩
 obtain ⟨f,h0,q⟩:=az q
 obtain ⟨args,h1,h3⟩:=az q
 show wpAny _ A (call (.ref (C.ca c)) [] _) _ _ s'
 rw [g1]
 have hlen:vs.length=Vs.length:=hv.length.symm
 have hf57:=M.ini c f h0
 have hkl:(N.kwl c).length=kwl.length:=by rw [<-h2.2,g4]
 have hnum:(N.kwl c).length=Vs.length:=hkl.trans ((List.length_map _).symm.trans (ie.len.symm.trans (hl.symm.trans hlen)))
 obtain ⟨o,fd,q1,q2,q3⟩:=fd_at W M hf57
 obtain ⟨h5,h6⟩:=M.kw c f fd Vs (.ref 0) s' h0 (by rw [hkl];exact h2.1) hnum q3
 have h7:=padA_full (τ:=C.τ) (f:=f) (vs:=.ref σ'.length::vs) ((congrArg Nat.succ (hlen.trans hnum.symm)).trans h5.symm)
 rw [h7] at h1
 cases h1
 rw [h2.2]
 refine p_new W M hd hA R' L' hv hc h0 (((N.kwl c).map NM).zip Vs) [] (λs₁ y fd' L₁ hfd=>⟨[],by rw [List.drop_eq_nil_of_le (by simp)];rfl,?_⟩) (by simp) h3 (k.from a)
 rw [List.append_nil]
 exact (M.kw c f fd' Vs y s₁ h0 (by rw [hkl];exact h2.1) hnum hfd).2 L₁
omit M
end
section
variable {C:Cfg} {N:Nms} (W:CfgOK C) (M:NmsOK C N) {Γ:Blk} {σ:St} {d:Nat} {m:Lo} {Φ:AV->St->Prop}
include W
theorem step_add {ρ₀ ρ:Ro} {s₀ s:Shared} {h':Heap} {tk:Nat} {as:List Addr} {o:AO} (a:Aft C ρ₀ s₀ s ρ) (R:Rel C ρ σ s.heap) (L:Bas C s.heap) (k:Kp as s.heap h')
  (ha:∀b∈as,(b∉ρ.flatten/\C.hb.get? b=none/\b≠C.P/\s₀.heap.get? b=none)/\∀ob,s.heap.get? b=some ob->plainO ob) (hn:as.Nodup) (x:OR C h' (ab (ρ++[as])) o as):
  Aft C ρ₀ s₀ { s with heap:=h',toks:=tk } (ρ++[as])/\Rel C (ρ++[as]) (σ++[o]) h'/\Bas C h':=by
 have q:=aft_out2 (tk:=tk) W a R L k (λb hb=>⟨(ha b hb).1.1,(ha b hb).1.2.1,(ha b hb).1.2.2.2,(ha b hb).2⟩)
 have hf:∀b,b∈(ρ++[as]).flatten->b∈ρ.flatten\/b∈as:=λb hb=>by rw [List.flatten_append,List.flatten_singleton,List.mem_append] at hb;exact hb
 refine ⟨⟨q.1.rest,a.ext.trans (.app _ _),λb hb=>(hf b hb).elim (q.1.fresh b) λz=>.inr ⟨(ha b z).1.2.2.2,(ha b z).1.2.2.1⟩,q.1.frm⟩,⟨by rw [List.length_append,List.length_append,R.len];rfl,λi o' as' h1 h2=>?_,?_,λb hb=>(hf b hb).elim (R.new b) λz=>⟨(ha b z).1.2.1,(ha b z).1.2.2.1⟩⟩,q.2.2.1⟩
 ·rcases Nat.lt_trichotomy i σ.length with q1 | q1 | q1
  ·rw [List.getElem?_append_left q1] at h1
   rw [List.getElem?_append_left (R.len▸q1)] at h2
   exact OR.mono (rfOf_append ρ [as]) (λJ J e J=>e) W.box o' (λJ J J e=>e) (q.2.1.obj i o' as' h1 h2)
  ·subst q1
   rw [List.getElem?_concat_length] at h1
   rw [<-R.len,List.getElem?_concat_length] at h2
   exact Option.some.inj h1▸Option.some.inj h2▸x
  ·rw [List.getElem?_eq_none (by rw [List.length_append];exact q1)] at h1;cases h1
 ·rw [List.flatten_append,List.flatten_singleton,List.nodup_append]
  exact ⟨R.nd,hn,λb hb c hc e=>(ha c hc).1.1 (e▸hb)⟩
noncomputable def prs (env:Env) (pos:Pos):List (Option Expr)->List Expr->List (Sem Value×Sem Value):=λω ψ=>match ω,ψ with
 | some key::keys,x::xs=>(eval key env,do let x <-eval x env;standAt pos;pure x)::prs env pos keys xs
 | J,ζ=>[]
omit W in
theorem prs_at {env:Env} {pos:Pos}:∀{ks:List Nat} {keys:List (Option Expr)} {xs:List Expr},ckKs ks keys=true->ks.length=xs.length ->
  (prs env pos keys xs).length=ks.length/\(evalEachOpt keys env).zip ((evalEach xs env).map λv=>do let x <-v;standAt pos;pure x)=(prs env pos keys xs).map (λp=>(some p.1,p.2)):=@λω=>@λψ=>@λχ=>@λϕ=>@λϱ=>match ω,ψ,χ,ϕ,ϱ with
 | [],[],xs,J,ζ=>⟨rfl,rfl⟩
 | [],J::ζ,η,h,θ=>ffT h
 | J::ζ,[],η,h,θ=>ffT h
 | J::ζ,η::θ,[],μ,h=>Nat.noConfusion h
 | J::ks,ζ::keys,x::xs,h,hl=>have q:=prs_at (env:=env) (pos:=pos) (an2 h).2 (Nat.succ.inj hl)
  e_oS (P:=λkey=>(prs env pos (key::keys) (x::xs)).length=_/\(evalEachOpt (key::keys) env).zip ((evalEach (x::xs) env).map λv=>do let x <-v;standAt pos;pure x)=(prs env pos (key::keys) (x::xs)).map (λp=>(some p.1,p.2))) (an2 (an2 h).1).2
   λkey J=>⟨congrArg Nat.succ q.1,congrArg (λJ=>_::J) q.2⟩
theorem dict_pairs:∀{ks:List Nat} {keys:List (Option Expr)} {xs:List Expr} {es:Es},ckKs ks keys=true->ks.length=xs.length->IHL C d Γ es xs->∀(m:Lo) (σ:St) (Φ:List AV->St->Prop),evEs C.τ (vcA C d) es m σ Φ->∀env A s ρ pos (Q:List (Value×Value)->Shared->Prop),EnvR C Γ env m ρ s.heap->OKA A d->Rel C ρ σ s.heap->Bas C s.heap ->
  (∀KVs Vs s' ρ' vs σ',Aft C ρ s s' ρ'->Rel C ρ' σ' s'.heap->Bas C s'.heap->VRs s'.heap (ab ρ') C.gf vs Vs->Carries (strKind C.prog C.w) KVs ((ks.map SS).zip Vs)->Φ vs σ'->Q KVs s') ->
   wpAny (model C.prog C.w) A (evalPairs (prs env pos keys xs)) Q (λJ J=>False) s:=@λω=>@λψ=>@λχ=>@λϕ=>@λϱ=>@λς=>@λϑ=>match ω,ψ,χ,ϕ,ϱ,ς,ϑ with
 | [],[],[],.nil,J,ζ,η=>λm σ Φ q env A s ρ pos Q e hA R L k=>evalPairs_nil (k [] [] s ρ [] σ (Aft.refl ρ s) R L rfl trivial q)
 | [],[],[],.cons J ζ,η,θ,h=>h.elim
 | [],[],J::ζ,η,θ,h,μ=>Nat.noConfusion h
 | [],J::ζ,η,θ,h,μ,ν=>ffT h
 | J::ζ,[],η,θ,h,μ,ν=>ffT h
 | J::ζ,η::θ,[],μ,ν,h,ξ=>Nat.noConfusion h
 | J::ζ,η::θ,μ::ν,.nil,ξ,π,h=>h.elim
 | ky::ks,J::keys,x::xs,.cons ee es,h,hl,ie=>λm σ Φ q env A s ρ pos Q e' hA R L k=>
  e_oS (P:=λkey=>wpAny (model C.prog C.w) A (evalPairs (prs env pos (key::keys) (x::xs))) Q (λJ J=>False) s) (an2 (an2 h).1).2 λkey hk=>
   e_Const (P:=λkey=>wpAny (model C.prog C.w) A (evalPairs (prs env pos (some key::keys) (x::xs))) Q (λJ J=>False) s) hk λc n p hc=>by
    obtain rfl:=odT hc
    have a₀:=aE (s:=s) (h':=s.heap) (tk:=s.toks+1) W.box R L (λJ J z=>z)
    refine evalPairs_cons (wpAny_Constant_str (wpAny_bind (ie.1 q env A { s with toks:=s.toks+1 } ρ _ e' hA a₀.2.1 a₀.2.2 λV s₁ ρ₁ v σ₁ a₁ R₁ L₁ hv q=>wpAny_bind (wpAny_standAt (wpAny_pure ?_)))))
    exact dict_pairs (an2 h).2 (Nat.succ.inj hl) ie.2.2 _ _ _ q env A s₁ ρ₁ pos _ (e'.aft (s':=s₁) W.box R L (a₀.1.trans a₁)) hA R₁ L₁ λKVs Vs s₂ ρ₂ vs σ₂ a₂ R₂ L₂ hvs hc q=>
     k _ (V::Vs) s₂ ρ₂ (v::vs) σ₂ (a₀.1.trans (a₁.trans a₂)) R₂ L₂ ⟨V,Vs,rfl,VR.aft W.box R₁ L₁ a₂ hv,hvs⟩ ⟨beq_self_eq_true (SS ky),rfl,hc⟩ q
omit W in
theorem KR.zip {h:Heap} {rf gf:Rf}:∀{ks:List Nat} {vs:List AV} {Vs:List Value},(∀k∈ks,k<NS)->vs.length=ks.length->VRs h rf gf vs Vs->KR h rf gf (ks.zip vs) ((ks.map SS).zip Vs):=@λω=>@λψ=>@λχ=>@λϕ=>@λϱ=>@λς=>match ω,ψ,χ,ϕ,ϱ,ς with
 | [],J,ζ,η,θ,μ=>rfl
 | J::ζ,[],η,θ,hl,μ=>Nat.noConfusion hl
 | k::ks,v::vs,J,hk,hl,⟨V,r,e,hv,hr⟩=>e▸⟨V,_,rfl,hk k (.head _),hv,KR.zip (λx hx=>hk x (.tail _ hx)) (Nat.succ.inj hl) hr⟩
omit W in
theorem ckKs_lt:∀{ks:List Nat} {keys:List (Option Expr)},ckKs ks keys=true->(∀k∈ks,k<NS)/\keys.length=ks.length:=@λω=>@λψ=>@λχ=>match ω,ψ,χ with
 | [],[],J=>⟨λJ=>memN,rfl⟩
 | [],J::ζ,h=>ffT h
 | J::ζ,[],h=>ffT h
 | k::ks,key::keys,h=>have q:=ckKs_lt (an2 h).2;⟨λx hx=>memE hx (λz=>z▸odT (an2 (an2 h).1).1) (q.1 x),congrArg Nat.succ q.2⟩
theorem dict_fin {ks:List Nat} {vs:List AV} {Vs:List Value} {s s₁:Shared} {ρ ρ₁:Ro} {σ₁:St} {h':Heap} {tk:Nat} {D:Addr} {Q:Value->Shared->Prop} (hlt:∀k∈ks,k<NS) (k:aV C ρ s Φ Q) (hD:(D==sysModules)=false) (hfr:C.hb.get? D=none/\D≠C.P/\s.heap.get? D=none)
  (a₁:Aft C ρ s s₁ ρ₁) (R₁:Rel C ρ₁ σ₁ s₁.heap) (L₁:Bas C s₁.heap) (hnot:D∉ρ₁.flatten) (hvs:VRs s₁.heap (ab ρ₁) C.gf vs Vs) (hDs:s₁.heap.get? D=some emptyDict) (hdict:h'.DictOf (strKind C.prog C.w) D (merged [] ((ks.map SS).zip Vs))) (sb:Heap.SameBut D s₁.heap h')
  (q:aL (vcA C d) (decide (vs.length=ks.length/\ks.length<=15/\ks.Nodup)) (newK (.sdict (ks.zip vs)) σ₁ Φ)):Q (.ref D) { s₁ with heap:=h',toks:=tk }:=by
 have g:=aJ q
 have g1:=odT g.1
 have hnd:(((ks.map SS).zip Vs).map (λJ=>J.1)).Nodup:=by
  rw [List.map_fst_zip (by rw [List.length_map,hvs.length,g1.1];exact Nat.le_refl _)]
  exact List.Pairwise.map (R:=λa b=>SS a≠SS b) _ (λa b hab=>hab) (List.Pairwise.imp_of_mem (λha hb hab z=>hab (SS_inj (hlt _ ha) (hlt _ hb) z)) g1.2.2)
 rw [merged_nil_of_nodup _ hnd] at hdict
 have pl:plainO emptyDict:=⟨λJ y=>(nomatch y),λy=>(nomatch y.2)⟩
 have ht:TupK s₁.heap h':=λb o z hc=>sb.extBut b o (λy=>pl.2 (getE (y▸z) hDs▸hc)) z
 have a2:=step_add (tk:=tk) (as:=[D]) (o:=.sdict (ks.zip vs)) W a₁ R₁ L₁ (Kp.of_same sb)
  (λb hb=>List.mem_singleton.mp hb▸⟨⟨hnot,hfr⟩,λob z=>getE hDs z▸pl⟩) (List.nodup_cons.mpr ⟨memN,.nil⟩)
  ⟨_,_,rfl,hdict,KR.zip hlt g1.1 (hvs.mono (rfOf_append ρ₁ _) ht _),Nat.le_trans (List.length_zip▸Nat.min_le_left _ _) (Nat.le_trans g1.2.1 (by decide)),hD⟩
 exact k _ _ _ (.ref σ₁.length) _ a2.1 a2.2.1 a2.2.2 ⟨D,mem_own (by rw [<-R₁.len];exact List.getElem?_concat_length),rfl⟩ g.2
theorem ev_dict {ks:List Nat} {es:Es} {keys:List (Option Expr)} {xs:List Expr} {p:Pos} (h15:ks.length<=15) (hk:ckKs ks keys=true) (ie:IHL C d Γ es xs) (hl:ks.length=xs.length):IHE C d Γ (.dict ks es) (.Dict keys xs p):=by
 intro m σ Φ q env A s ρ Q e hA R L k
 have kp:∀b o,s.heap.get? b=some o->(s.heap.push emptyDict).get? b=some o:=λb o z=>Heap.get?_push_of_some _ z
 have hD:(s.heap.push emptyDict).get? s.heap.objs.size=some emptyDict:=Heap.get?_push_size _ rfl
 have hlt:=ckKs_lt hk
 have hfr:=fresh_at W (Aft.refl ρ s) R L (Heap.get?_none_of_le (Nat.le_refl s.heap.objs.size))
 have hsys:(s.heap.objs.size==sysModules)=false:=let ⟨o,es,ep,ho,_⟩:=Bas.ns W L W.glob
  beq_eq_false_iff_ne.mpr λq=>absurd (q▸Heap.lt_size ho) (by decide)
 have a₀:=aE (s:=s) (h':=s.heap.push emptyDict) (tk:=s.toks) W.box R L kp
 cases keys with
 | nil=>
  obtain rfl:ks=[]:=List.length_eq_zero_iff.mp hlt.2.symm
  obtain rfl:xs=[]:=List.length_eq_zero_iff.mp hl.symm
  cases es with
  | cons J ζ=>exact ie.elim
  | nil=>
   rw [eval_Dict_empty]
   refine wpAny_bind (wpAny_standAt ?_)
   show wpAny _ _ (newObj (.type "dict") (.dict #[])) _ _ s
   refine wpAny_newObj_type ?_ (by size_fits)
   exact dict_fin (d:=d) (vs:=[]) (Vs:=[]) (s₁:={ s with heap:=s.heap.push emptyDict }) (tk:=s.toks) W hlt.1 k hsys hfr.2 a₀.1 a₀.2.1 a₀.2.2 hfr.1 rfl hD (Heap.DictOf.new (knd:=strKind C.prog C.w) s.heap) (Heap.SameBut.refl ..) q
 | cons key keys=>
  have:=dict_pairs W hk hl ie _ _ _ q env A { s with heap:=s.heap.push emptyDict } ρ p (λvs s₁=>∃kvs,Carries (strKind C.prog C.w) vs kvs/\s₁.heap.DictOf (strKind C.prog C.w) s.heap.objs.size [] /\
   ∀h',h'.DictOf (strKind C.prog C.w) s.heap.objs.size (merged [] kvs)->Heap.SameBut s.heap.objs.size s₁.heap h'->Q (.ref s.heap.objs.size) { s₁ with heap:=h',toks:=s₁.toks+vs.length })
   (e.aft W.box R L a₀.1) hA a₀.2.1 a₀.2.2 (λKVs Vs s₁ ρ₁ vs σ₁ a₁ R₁ L₁ hvs hc q=>
    have hD₁:s₁.heap.get? s.heap.objs.size=some emptyDict:=a₁.frm _ _ hD hfr.1 hfr.2.2.1
    ⟨_,hc,⟨emptyDict,#[],0,hD₁,⟨rfl,rfl,rfl⟩,rfl,λJ y=>memN (Array.mem_toList_iff.mpr y),Pairs.nil,List.nodup_nil⟩,λh' hdict sb=>
     dict_fin (d:=d) W hlt.1 k hsys hfr.2 (a₀.1.trans a₁) R₁ L₁ (λy=>(a₁.fresh _ y).elim hfr.1 λz=>noE z.1 hD) hvs hD₁ hdict sb q⟩)
  have h1:=prs_at (env:=env) (pos:=p) hk hl
  exact wpAny_Dict_pairs (knd:=strKind C.prog C.w) h1.2 (λz=>Nat.noConfusion (hlt.2.trans (h1.1.symm.trans (congrArg List.length z)))) (Nat.le_trans (Nat.le_of_eq h1.1) (Nat.le_trans h15 (by decide))) this
end
theorem refF {a:AV} {f:Nat->Prop} {P:AV->Prop} (q:match a with | .ref i=>f i | J=>False) (k:∀i,f i->P (.ref i)):P a:=by
 cases a<;>first | exact k _ q | exact q.elim
theorem int2F {a b:AV} {f:Int->Int->Prop} {P:AV->AV->Prop} (q:match a,b with | .int i,.int j=>f i j | J,ζ=>False) (k:∀i j,f i j->P (.int i) (.int j)):P a b:=by
 cases a<;>first | exact q.elim | (cases b<;>first | exact k _ _ q | exact q.elim)
section
variable {C:Cfg} {N:Nms} (W:CfgOK C) (M:NmsOK C N) {Γ:Blk} {σ:St} {d:Nat} {m:Lo} {Φ:AV->St->Prop}
include W
omit W in
theorem srcOf_inv {v:AV} {src:Src} {P:Prop} (h:srcOf C.τ σ v=some src) (kl:∀i xs,v=.ref i->σ[i]?=some (.list xs)->src=.list i->P) (kk:∀i,v=.ref i->σ[i]?=some (.sdict [])->src=.keys i->P)
  (kt:∀xs,v=.tup xs->src=.fix xs->P) (kg:∀g xs,v=.gl g->C.τ.γ g=.list xs->src=.fix xs->P):P:=by
 cases v with
 | ref i=>
  obtain ⟨o,hi,h⟩:=Option.bind_eq_some_iff.mp h
  match o,hi,h with
  | .list xs,hi,h=>exact kl i xs rfl hi (Option.some.inj h).symm
  | .sdict [],hi,h=>exact kk i rfl hi (Option.some.inj h).symm
  | .sdict (J::ζ),η,h=>exact ae h
  | .inst J ζ,η,h=>exact ae h
  | .box J,ζ,h=>exact ae h
 | tup xs=>exact kt xs rfl (Option.some.inj h).symm
 | gl g=>
  obtain ⟨xs,hg,h⟩:=Option.map_eq_some_iff.mp h
  exact kg g xs rfl (lstF_at hg) h.symm
 | _=>exact ae h
theorem it_plain {e:E} {x tg:Expr} (ie:IHE C d Γ e x):∀{m:Lo} {σ:St} {Φ:Src->St->Prop},evI C.τ (vcA C d) (.plain e) m σ Φ->ItT C d Γ tg x m σ Φ:=by
 intro m σ Φ q env A s ρ Q e' hA R L k
 refine ie q env A s ρ _ e' hA R L λV s₁ ρ₁ v σ₁ a₁ R₁ L₁ hv q=>(az q).elim λsrc z=>?_
 have hfr:=fresh_at W a₁ R₁ L₁ (Heap.get?_none_of_le (Nat.le_refl s₁.heap.objs.size))
 have fin:∀(o:Obj),(h:o.isFreed=false)->tgOK src tg->ItS C 0 ρ₁ (s₁.heap.push o) src (.ref s₁.heap.objs.size) [s₁.heap.objs.size]->Q (.ref s₁.heap.objs.size) { s₁ with heap:=s₁.heap.push o }:=λo ho ht hI=>
  have a₂:=aE (s:=s₁) (h':=s₁.heap.push o) (tk:=s₁.toks) W.box R₁ L₁ λb ob z=>Heap.get?_push_of_some _ z
  k _ [s₁.heap.objs.size] _ ρ₁ src σ₁ (a₁.trans a₂.1) a₂.2.1 a₂.2.2 hI (λa ha=>List.mem_singleton.mp ha▸⟨hfr.1,hfr.2.1,hfr.2.2.2,o,Heap.get?_push_size _ ho⟩) ht z.2
 refine srcOf_inv z.1 (λi xs hv' hi hs=>?_) (λi hv' hi hs=>?_) (λxs hv' hs=>?_) λg xs hv' hg hs=>?_
 ·subst hv';subst hs
  obtain ⟨a,ha,rfl⟩:=hv
  exact (own_rf R₁ hi ha).elim λitems y=>wpAny_pyIter_list y.2.1.isList (fin _ rfl trivial (.list ha ⟨_,Heap.get?_push_size _ rfl,rfl,rfl⟩))
 ·subst hv';subst hs
  obtain ⟨ad,l,hr,rfl,hl,hkr,hz,hsy⟩:=dict_at W R₁ hv hi
  obtain rfl:l=[]:=hkr
  exact hl.dictAt.elim λep hat=>wpAny_pyIter_dict (knd:=strKind C.prog C.w) hsy hat (fin _ rfl trivial (.keys rfl (mem_own hr) ⟨_,Heap.get?_push_size _ rfl,rfl,rfl⟩ (hat.imp λo y=>y.imp λes y=>⟨Heap.get?_push_of_some _ y.1,y.2⟩)))
 ·subst hv';subst hs
  obtain ⟨a,items,rfl,ht,hvs⟩:=hv
  exact wpAny_pyIter_tuple ht (fin _ rfl trivial (.tup ⟨_,Heap.get?_push_size _ rfl,rfl,rfl⟩ (ht.imp λo y=>⟨Heap.get?_push_of_some _ y.1,y.2⟩) (hvs.mono (λJ J z=>z) (λb o z J=>Heap.get?_push_of_some _ z) _)))
 ·subst hv';subst hs
  obtain ⟨a,ha,rfl⟩:=hv
  obtain ⟨b,items,hb,hl,hvs,hz⟩:=W.glist g _ hg
  obtain rfl:=getE hb ha
  exact wpAny_pyIter_list (let ⟨o,q1,q2,n,q3⟩:=hl;⟨o,Bas.old W L₁ q1 (λvs z=>nomatch q3.symm.trans z),q2,n,q3⟩) (fin _ rfl trivial (.glob ⟨_,Heap.get?_push_size _ rfl,rfl,rfl⟩ hl hvs))
include M
theorem it_rng {ρ:Ro} {s:Shared} {s₁:Shared} {ρ₁:Ro} {σ₁:St} {A:Around} {tg:Expr} {Q:Value->Shared->Prop} {Φ:Src->St->Prop} (a₁:Aft C ρ s s₁ ρ₁) (R₁:Rel C ρ₁ σ₁ s₁.heap) (L₁:Bas C s₁.heap) {x y:Int} {t u v:Tok} {tk:Nat} (hx:0<=x) (hx':x<=SZ) (hy:y<=SZ) (hy':-(2 ^ 62)<=y)
  (k:∀it own s' ρ' src σ',Aft C ρ s s' ρ'->Rel C ρ' σ' s'.heap->Bas C s'.heap->ItS C 0 ρ' s'.heap src it own->(∀a∈own,a∉ρ'.flatten/\C.hb.get? a=none/\s.heap.get? a=none/\∃ob,s'.heap.get? a=some ob)->tgOK src tg->Φ src σ'->Q it s')
  (q:Φ (.rng x (y-x).toNat) σ₁):
  wpAny (model C.prog C.w) A (pyIter (.ref s₁.heap.objs.size)) Q (λJ J=>False) { s₁ with heap:=s₁.heap.push { cls:=.type "range",data:=.fields #[.int x t,.int y u,.int 1 v] },toks:=tk }:=by
 let _:=M
 obtain ⟨a₂,R₂,L₂⟩:=aE (s:=s₁) (h':=s₁.heap.push { cls:=.type "range",data:=.fields #[.int x t,.int y u,.int 1 v] }) (tk:=tk) W.box R₁ L₁ λb ob z=>Heap.get?_push_of_some _ z
 have hDn:(s₁.heap.push { cls:=.type "range",data:=.fields #[.int x t,.int y u,.int 1 v] }).get? (s₁.heap.push { cls:=.type "range",data:=.fields #[.int x t,.int y u,.int 1 v] }).objs.size=none:=Heap.get?_none_of_le (Nat.le_refl _)
 have hfr:=fresh_at (s:={ s₁ with heap:=s₁.heap.push { cls:=.type "range",data:=.fields #[.int x t,.int y u,.int 1 v] },toks:=tk }) W (a₁.trans a₂) R₂ L₂ hDn
 have hSZ:(SZ:Int)=1048576:=rfl
 refine wpAny_pyIter_range (IsRange.new _ _ _ _ _ _ _) (small_one (by omega) (by omega) (by omega) (by omega)) ?_
 obtain ⟨a₃,R₃,L₃⟩:=aE (s:={ s₁ with heap:=s₁.heap.push { cls:=.type "range",data:=.fields #[.int x t,.int y u,.int 1 v] },toks:=tk }) (h':=(s₁.heap.push { cls:=.type "range",data:=.fields #[.int x t,.int y u,.int 1 v] }).push { cls:=.type "range_iterator",data:=.fields #[rawInt x,rawInt (Builtin.Range.rangeSize x y 1),rawInt 1] }) (tk:=tk) W.box R₂ L₂ λb ob z=>Heap.get?_push_of_some _ z
 refine k _ [(s₁.heap.push { cls:=.type "range",data:=.fields #[.int x t,.int y u,.int 1 v] }).objs.size] _ ρ₁ (.rng x (y-x).toNat) σ₁ (a₁.trans (a₂.trans a₃)) R₃ L₃ (.rng ?_) (λa ha=>?_) trivial q
 ·have e1:x+((0:Nat):Int)=x:=by simp
  have e2:(((y-x).toNat:Nat):Int)-((0:Nat):Int)=Builtin.Range.rangeSize x y 1:=by rw [rangeSize_one];split<;>omega
  rw [e1,e2]
  exact Heap.get?_push_size _ rfl
 ·rw [List.mem_singleton.mp ha]
  exact ⟨hfr.1,hfr.2.1,hfr.2.2.2,_,Heap.get?_push_size _ rfl⟩
theorem it_range1 (hG:okB Γ=true) {e:E} {x tg:Expr} {p pos:Pos} (hy:isG Γ "range"=true) (ie:IHE C d Γ e x) (hs:notStar x=true):∀{m:Lo} {σ:St} {Φ:Src->St->Prop},evI C.τ (vcA C d) (.range1 e) m σ Φ->ItT C d Γ tg (.Call (.Name "range" p) [x] [] pos) m σ Φ:=by
 intro m σ Φ q env A s ρ Q e' hA R L k
 refine Call_Name rfl (name_blt W hG hy L e' M.range.1 M.range.2 ?_)
 rw [show starEach [x] env=[(false,eval x env)] from star_one hs]
 refine callWith_of (P:=λJ=>True) (by rfl) (kpO_type W) (evalArgs_gen W (by rfl) ?_)
 refine spliced_cons (ie q env A s ρ _ e' hA R L λV s₁ ρ₁ v σ₁ a₁ R₁ L₁ hv q=>spliced_nil ⟨trivial,?_⟩)
 revert hv
 refine intF (P:=λv=>VR s₁.heap (ab ρ₁) C.gf v V->_) q λn q hv=>hv.elim λt z=>?_
 have h:=aJ q
 have h1:=odT h.1
 exact z▸call_range_1 (it_rng W M a₁ R₁ L₁ (Int.le_refl 0) (by decide) h1.2 (Int.le_trans (by decide) h1.1) k (by rw [Int.sub_zero];exact h.2))
theorem it_range2 (hG:okB Γ=true) {e f:E} {x z tg:Expr} {p pos:Pos} (hy:isG Γ "range"=true) (ie:IHE C d Γ e x) (hs:notStar x=true) (jf:IHE C d Γ f z) (hs2:notStar z=true):∀{m:Lo} {σ:St} {Φ:Src->St->Prop},evI C.τ (vcA C d) (.range2 e f) m σ Φ->ItT C d Γ tg (.Call (.Name "range" p) [x,z] [] pos) m σ Φ:=by
 intro m σ Φ q env A s ρ Q e' hA R L k
 refine Call_Name rfl (name_blt W hG hy L e' M.range.1 M.range.2 ?_)
 rw [show starEach [x,z] env=[(false,eval x env),(false,eval z env)] from (star_one hs).trans (congrArg (λJ=>_::J) (star_one hs2))]
 refine callWith_of (P:=λJ=>True) (by rfl) (kpO_type W) (evalArgs_gen W (by rfl) ?_)
 refine spliced_cons (ie q env A s ρ _ e' hA R L λV s₁ ρ₁ v σ₁ a₁ R₁ L₁ hv q=>spliced_cons (jf q env A s₁ ρ₁ _ (e'.aft W.box R L a₁) hA R₁ L₁ λU s₂ ρ₂ u σ₂ a₂ R₂ L₂ hu q=>spliced_nil ⟨trivial,?_⟩))
 revert hv hu
 refine int2F (P:=λv u=>VR s₁.heap (ab ρ₁) C.gf v V->VR s₂.heap (ab ρ₂) C.gf u U->_) q λn w q hv hu=>hv.elim λt z=>hu.elim λt' z'=>?_
 have h:=aJ q
 have h1:=odT h.1
 exact z▸z'▸call_range_2 (it_rng W M (a₁.trans a₂) R₂ L₂ h1.1 h1.2.1 h1.2.2.2 (Int.le_trans (by decide) h1.2.2.1) k h.2)
theorem it_enum (hG:okB Γ=true) {e:E} {x tg:Expr} {p pos:Pos} (hy:isG Γ "enumerate"=true) (ie:IHE C d Γ e x) (hs:notStar x=true) (htg:∃xs n q,tg=.Tuple xs n q):∀{m:Lo} {σ:St} {Φ:Src->St->Prop},evI C.τ (vcA C d) (.enum e) m σ Φ->ItT C d Γ tg (.Call (.Name "enumerate" p) [x] [] pos) m σ Φ:=by
 intro m σ Φ q env A s ρ Q e' hA R L k
 refine Call_Name rfl (name_blt W hG hy L e' M.enum.1 M.enum.2 ?_)
 rw [show starEach [x] env=[(false,eval x env)] from star_one hs]
 refine callWith_of (P:=λJ=>True) (by rfl) (kpO_type W) (evalArgs_gen W (by rfl) ?_)
 refine spliced_cons (ie q env A s ρ _ e' hA R L λV s₁ ρ₁ v σ₁ a₁ R₁ L₁ hv q=>spliced_nil ⟨trivial,?_⟩)
 revert hv
 refine refF (P:=λv=>VR s₁.heap (ab ρ₁) C.gf v V->_) q λi q hv=>hv.elim λa y=>(listF (f:=λJ=>Φ (.enum i) σ₁) q).elim λxs z=>(own_rf R₁ z.1 y.1).elim λitems g=>?_
 refine y.2▸call_enumerate_list g.2.1.isList λh' he hit hsz kp=>wpAny_pyIter_enum he ?_
 have a₂:=aE (s:=s₁) (h':=h') (tk:=s₁.toks) W.box R₁ L₁ kp
 have f1:=fresh_at W a₁ R₁ L₁ (Heap.get?_none_of_le (Nat.le_refl s₁.heap.objs.size))
 have f2:=fresh_at W a₁ R₁ L₁ (Heap.get?_none_of_le (Nat.le_succ s₁.heap.objs.size))
 exact k _ [s₁.heap.objs.size+1,s₁.heap.objs.size] { s₁ with heap:=h' } ρ₁ (.enum i) σ₁ (a₁.trans a₂.1) a₂.2.1 a₂.2.2 (.enum (Nat.succ_ne_self _) y.1 he hit)
  (λb hb=>memE hb (λz=>z▸⟨f2.1,f2.2.1,f2.2.2.2,_,he⟩) λz=>List.mem_singleton.mp z▸⟨f1.1,f1.2.1,f1.2.2.2,hit.elim λo ho=>⟨o,ho.1⟩⟩) htg z.2
omit M
noncomputable def IHLT (C:Cfg) (d:Nat) (Γ:Blk):Es->List Expr->Prop:=λω ψ=>match ω,ψ with
 | .nil,[]=>True
 | .cons e es,x::xs=>IHT C d Γ e x/\IHLT C d Γ es xs
 | J,ζ=>False
omit W in
theorem forIn_stop {env:Env}:∀(xs:List Expr),(forIn xs false λc r=>if r=true then do let ok <-isTrue c env (eval c env);pure (ForInStep.yield ok) else pure (ForInStep.yield r):Sem Bool)=pure false:=λω=>match ω with
 | []=>rfl
 | x::xs=>by rw [List.forIn_cons];simp only [Bool.false_eq_true,if_false,pure_bind];exact forIn_stop xs
theorem tests_of:∀{es:Es} {xs:List Expr},IHLT C d Γ es xs->∀(m:Lo) (σ:St) (Φ:Bool->St->Prop),evT C.τ (vcA C d) es m σ Φ->∀env A s ρ (Q:Bool->Shared->Prop),EnvR C Γ env m ρ s.heap->OKA A d->Rel C ρ σ s.heap->Bas C s.heap->ContB C ρ s Φ Q ->
  wpAny (model C.prog C.w) A (forIn xs true λc r=>if r=true then do let ok <-isTrue c env (eval c env);pure (ForInStep.yield ok) else pure (ForInStep.yield r)) Q (λJ J=>False) s:=@λω=>@λψ=>@λχ=>match ω,ψ,χ with
 | .nil,[],J=>λm σ Φ q env A s ρ Q e hA R L k=>by rw [List.forIn_nil];exact wpAny_pure (k true s ρ σ (Aft.refl ρ s) R L q)
 | .nil,J::ζ,h=>h.elim
 | .cons J ζ,[],h=>h.elim
 | .cons e es,x::xs,h=>λm σ Φ q env A s ρ Q e' hA R L k=>by
  rw [List.forIn_cons]
  refine wpAny_bind (wpAny_bind (h.1 (Φ:=λb σ=>ifK b (evT C.τ (vcA C d) es m σ Φ) (Φ false σ)) q env A s ρ _ e' hA R L λb s₁ ρ₁ σ₁ a₁ R₁ L₁ q=>wpAny_pure ?_))
  cases b with
  | true=>exact tests_of h.2 _ _ _ q env A s₁ ρ₁ Q (e'.aft W.box R L a₁) hA R₁ L₁ (k.from a₁)
  | false=>
   show wpAny _ _ (forIn xs false _) _ _ _
   rw [forIn_stop]
   exact wpAny_pure (k false s₁ ρ₁ σ₁ a₁ R₁ L₁ q)
theorem step_of {ifs:Es} {cs:List Expr} {elt:E} {x:Expr} (h1:IHLT C d Γ ifs cs) (h2:IHE C d Γ elt x):∀{m:Lo} {σ:St} {Φ:Option AV->St->Prop},(evT C.τ (vcA C d) ifs m σ λb σ=>ifK b (evE C.τ (vcA C d) elt m σ λv σ=>Φ (some v) σ) (Φ none σ))->StepT C d Γ cs x m σ Φ:=by
 intro m σ Φ q env A s ρ Q e hA R L k
 refine tests_of W h1 _ _ _ q env A s ρ _ e hA R L λb s₁ ρ₁ σ₁ a₁ R₁ L₁ q=>?_
 cases b with
 | true=>
  rw [if_pos rfl]
  exact h2 q env A s₁ ρ₁ _ (e.aft W.box R L a₁) hA R₁ L₁ λV s₂ ρ₂ v σ₂ a₂ R₂ L₂ hv q=>k (some V) s₂ ρ₂ (some v) σ₂ (a₁.trans a₂) R₂ L₂ hv q
 | false=>
  rw [if_neg (by simp)]
  exact k none s₁ ρ₁ none σ₁ a₁ R₁ L₁ trivial q
theorem ev_comp (hG:okB Γ=true) {elt:E} {t:T} {it:It} {ifs:Es} {vs:List Nat} {x tg iter:Expr} {cs:List Expr} {scope:Scope} {p:Pos} (hc:okComp Γ scope vs tg=true) (hT:ckT (inB Γ scope vs tg) t tg=true) (hset:notSet iter=true)
  (hI:∀{m:Lo} {σ:St} {Φ:Src->St->Prop},evI C.τ (vcA C d) it m σ Φ->ItT C d Γ tg iter m σ Φ) (h1:IHLT C d (inB Γ scope vs tg) ifs cs) (h2:IHE C d (inB Γ scope vs tg) elt x):
  IHE C d Γ (.comp elt t it ifs vs) (.ListComp x [⟨tg,iter,cs,0⟩] scope p):=by
 intro m σ Φ q env A s ρ Q e hA R L k
 show wpAny _ A (comprehension (.ListComp x [⟨tg,iter,cs,0⟩] scope p) scope env iter.pos (newList []) false (eval iter env)) Q _ s
 have q':evI C.τ (vcA C d) it m σ (λsrc σ'=>CompP src t (λm σ k=>evT C.τ (vcA C d) ifs m σ λb σ=>ifK b (evE C.τ (vcA C d) elt m σ λv σ=>k (some v) σ) (k none σ)) (clrs vs m) (σ'++[.list []]) σ'.length Φ):=q
 exact p_comp W hG (okComp_at hc) hT hset (hI q') (λm' σ' Φ' h=>step_of W h1 h2 h) e hA R L λV s' ρ' v σ' loc a R' L' hv hΦ l1 l2 l3 hN=>hN.elim λmc hN=>⟨mc,hN,λh' sb=>
  have a2:=aft_out2 (tk:=s'.toks) W a R' L' (Kp.of_same sb) λb hb=>List.mem_singleton.mp hb▸⟨l1,l2,l3,λob z=>plain_ns hN z⟩
  k V _ ρ' v σ' a2.1 a2.2.1 a2.2.2.1 (hv.mono (λJ J z=>z) a2.2.2.2 _) hΦ⟩
end
section
variable {prog:Program} {w:World} {A:Around} {E:Value->Shared->Prop} {s:Shared} {a kS:Addr} {vs:List Value} {kz:List Int} {keys:Array Value} {e e1:Nat} {P:PySem.Fin->Shared->Prop}
theorem srt_tail {st:SortSt} (hk:s.heap.get? kS=some (seqObj "list" keys e)) (ha:s.heap.get? a=some (seqObj "list" #[] e1)) (hka:kS≠a) (hz:keys.size<=64) (ho:(arrOf st).size<=64) (hfl:failedOf st=none)
  (h:∀h' c,Kp [kS,a] s.heap h'->h'.get? a=some (seqObj "list" ((arrOf st).map (λJ=>J.2)) c)->P (.done (.ret .none)) { s with heap:=h' }):
  wpAny (model prog w) A (ksk_tail a false e1 (.ref kS) st) P E s:=by
 have s1:=Heap.SameBut.update s.heap kS (Obj.mapSeq λJ=>(#[]:Array Value))
 have na1:(s.heap.update kS (Obj.mapSeq λJ=>(#[]:Array Value))).get? a=some (seqObj "list" #[] e1):=(s1.2 a hka.symm).trans ha
 have s2:=Heap.SameBut.update (s.heap.update kS (Obj.mapSeq λJ=>(#[]:Array Value))) a (Obj.mapSeq λJ=>(arrOf st).map (λJ=>J.2))
 have hc2:=get?_update_seq (c:="list") na1 (λJ=>(arrOf st).map (λJ=>J.2))
 unfold ksk_tail
 dsimp only
 refine wpAny_bind (listUpdate_at hk rfl ?_ (by rw [sizeLine_eq];omega) (Nat.zero_le _))
 refine wpAny_bind (wpAny_letGo ?_)
 refine wpAny_bind (seqEpoch_at na1 rfl ?_)
 refine wpAny_bind (listUpdate_at na1 rfl ?_ (Nat.zero_le _) (by simp only [Bool.false_eq_true,if_false,Array.size_map];rw [sizeLine_eq];omega))
 rw [hfl]
 simp only [bne_self_eq_false,Bool.false_eq_true,if_false]
 refine wpAny_pure (h _ _ (λb o z hb=>?_) hc2)
 have hb1:b≠kS:=λy=>hb (by simp [y])
 have hb2:b≠a:=λy=>hb (by simp [y])
 exact (s2.2 b hb2).trans ((s1.2 b hb1).trans z)
theorem srt_end (hk:s.heap.get? kS=some (seqObj "list" keys e)) (ha:s.heap.get? a=some (seqObj "list" #[] e1)) (hka:kS≠a) (hI:IntsAre keys.toList kz) (hlen:kz.length=vs.length) (h64:vs.length<64)
  (h:∀h' out c,Kp [kS,a] s.heap h'->h'.get? a=some (seqObj "list" out c)->KskOut false kz vs out.toList->P (.done (.ret .none)) { s with heap:=h' }):
  wpAny (model prog w) A (ksk_end a false vs.toArray e1 (.ref kS) keys) P E s:=by
 have hsz:keys.size=vs.length:=by
  have h1:=hI.length
  rw [Array.length_toList] at h1
  omega
 have hzs:(keys.zip vs.toArray).size=vs.length:=by rw [Array.size_zip,hsz,List.size_toArray,Nat.min_self]
 unfold ksk_end
 simp only [Bool.false_eq_true,if_false]
 by_cases h2:vs.toArray.size<2
 ·rw [if_pos h2,if_pos h2]
  refine wpAny_bind (wpAny_pure ?_)
  rw [StateT.run_pure]
  refine wpAny_bind (wpAny_pure ?_)
  refine srt_tail (st:=SortSt.mk' general' (keys.zip vs.toArray) #[] 7 none) hk ha hka (by omega) (by show (keys.zip vs.toArray).size<=64;omega) rfl λh' c kp g=>h h' _ c kp g ?_
  refine ksk_out (b:=false) hI (Array.Perm.refl _) λi j hij hj=>?_
  have hj2:j<(keys.zip vs.toArray).size:=hj
  rw [List.size_toArray] at h2
  have:i=j:=by omega
  subst this
  exact Int.le_refl _
 ·rw [if_neg h2,if_neg h2]
  rw [List.size_toArray] at h2
  rw [ksk_kind hI (by rw [hsz];omega)]
  refine wpAny_bind (wpAny_pure ?_)
  refine wpAny_bind (wpAny_mono (wpS_sortRuns (a₀:=keys.zip vs.toArray) (st:=SortSt.mk' oneType' (keys.zip vs.toArray) #[] 7 none)
   (Q:=λJ st'=>(arrOf st').Perm (keys.zip vs.toArray)/\failedOf st'=none/\SortedTo (arrOf st') (keys.zip vs.toArray).size)
   (ksk_intKeys hI) ⟨Array.Perm.refl _,rfl,rfl,rfl⟩ (by rw [hzs];omega) (by rw [hzs];exact h64) λst' a1 a2 a3=>⟨a1,a2,a3⟩) ?_ λJ J e=>e)
  rintro ⟨⟨⟩,st'⟩ s' ⟨rfl,hp,hf,hs⟩
  dsimp only
  refine srt_tail hk ha hka (by omega) (by rw [hp.size_eq];omega) hf λh' c kp g=>h h' _ c kp g ?_
  exact ksk_out (b:=false) hI hp (by rw [hp.size_eq];exact hs)
theorem srt_rest {f:Value} {e1:Nat} {kS:Addr} {g:Heap} (hlen:kz.length=vs.length) (h64:vs.length<64)
  (turn:∀(i:Nat) (v:Value) (k:Int),vs[i]?=some v->kz[i]?=some k->∀(h:Heap) (tk:Nat),Kp [a] s.heap h->∀Q:Value->Shared->Prop,(∀h' tk' t',(∀b o,h.get? b=some o->h'.get? b=some o)->Q (.int k t') { s with heap:=h',toks:=tk' }) ->
   wpAny (model prog w) A (call f [v]) Q (λJ J=>False) { s with heap:=h,toks:=tk })
  (h:∀h' tk out c,Kp [a] s.heap h'->h'.get? a=some (seqObj "list" out c)->KskOut false kz vs out.toList->P (.done (.ret .none)) { s with heap:=h',toks:=tk })
  (k0:Kp [a] s.heap g) (g0:g.get? a=some (seqObj "list" #[] e1)) (gk:g.get? kS=some (seqObj "list" #[] 0)) (hka:kS≠a) (hkn:s.heap.get? kS=none):
  wpAny (model prog w) A (ksk_rest a f false vs.toArray e1 (.ref kS)) P E { s with heap:=g }:=by
 unfold ksk_rest
 refine wpAny_bind (wpAny_rule ?_)
 first
  | rw [List.forIn_toArray]
  | (rw [<-Array.forIn_toList];simp only [List.toList_toArray])
 refine wpAny_bind (ksk_fold (λi s'=>∃h' tk kA e,s'={ s with heap:=h',toks:=tk }/\Kp [a] s.heap h'/\h'.get? a=some (seqObj "list" #[] e1)/\h'.get? kS=some (seqObj "list" kA e)/\IntsAre kA.toList (kz.take i)) vs 0 _
  ⟨g,s.toks,#[],0,rfl,k0,g0,gk,by simpa using IntsAre.nil⟩ ?step ?done)
 case step=>
  rintro j x s' hx ⟨h',tk,kA,e,rfl,k',ga,gk',hI⟩
  simp only [Nat.zero_add] at hI ⊢
  have hj:j<vs.length:=(List.getElem?_eq_some_iff.mp hx).1
  obtain ⟨k,hkj⟩:∃k,kz[j]?=some k:=⟨_,List.getElem?_eq_getElem (by omega)⟩
  have hz:kA.size<=vs.length:=by
   have h1:=hI.length
   rw [Array.length_toList,List.length_take] at h1
   omega
  refine wpAny_bind (wpAny_attempt (wpAny_mono (turn j x k hx hkj h' tk k' (λv s''=>∃h2 tk' t',(∀b o,h'.get? b=some o->h2.get? b=some o)/\v=.int k t'/\s''={ s with heap:=h2,toks:=tk' }) λh2 tk' t' kk=>⟨h2,tk',t',kk,rfl,rfl⟩) (λv s'' he=>?_) λJ J hF=>hF.elim))
  obtain ⟨h2,tk2,t2,kk,rfl,rfl⟩:=he
  have nk:=kk _ _ gk'
  have na:=kk _ _ ga
  have s3:=Heap.SameBut.update h2 kS (Obj.mapSeq (λJ=>J.push (.int k t2)))
  obtain ⟨c2,hc2⟩:∃c2,(h2.update kS (Obj.mapSeq (λJ=>J.push (.int k t2)))).get? kS=some (seqObj "list" (kA.push (.int k t2)) c2):=⟨_,get?_update_seq nk (λJ=>J.push (.int k t2))⟩
  have ek:kz.take (j+1)=kz.take j++[k]:=by rw [List.take_add_one,hkj];simp
  have ea:(kA.push (Value.int k t2)).toList=kA.toList++[Value.int k t2]:=by simp
  refine wpAny_bind (listUpdate_at nk rfl ?_ (by rw [sizeLine_eq];omega) (Nat.le_trans (Nat.le_of_eq (Array.size_push ..)) (by rw [sizeLine_eq];omega)))
  refine wpAny_pure ⟨rfl,_,_,kA.push (.int k t2),c2,rfl,λb o z hb=>?_,(s3.2 a hka.symm).trans na,hc2,by rw [ea,ek];exact ksk_snoc hI⟩
  exact (s3.2 b (λy=>by rw [y,hkn] at z;cases z)).trans (kk b o (k' b o z hb))
 case done=>
  rintro s' ⟨h',tk,kA,e,rfl,k',ga,gk',hI⟩
  have hI':IntsAre kA.toList kz:=by
   have e3:kz.take (0+vs.length)=kz:=List.take_of_length_le (by omega)
   rw [e3] at hI
   exact hI
  refine wpAny_bind (listItems_at gk' rfl ?_)
  refine srt_end gk' ga hka hI' hlen h64 λh2 out c kk g2 ho2=>h h2 tk out c (λb o z hb=>kk b o (k' b o z hb) λy=>?_) g2 ho2
  rcases List.mem_cons.mp y with y | y
  ·rw [y,hkn] at z;cases z
  ·exact hb y
theorem srt_tree {f:Value} {n:Nat} (ho:s.heap.get? a=some (seqObj "list" vs.toArray n)) (hlen:kz.length=vs.length) (h64:vs.length<64)
  (turn:∀(i:Nat) (v:Value) (k:Int),vs[i]?=some v->kz[i]?=some k->∀(h:Heap) (tk:Nat),Kp [a] s.heap h->∀Q:Value->Shared->Prop,(∀h' tk' t',(∀b o,h.get? b=some o->h'.get? b=some o)->Q (.int k t') { s with heap:=h',toks:=tk' }) ->
   wpAny (model prog w) A (call f [v]) Q (λJ J=>False) { s with heap:=h,toks:=tk })
  (h:∀h' tk out c,Kp [a] s.heap h'->h'.get? a=some (seqObj "list" out c)->KskOut false kz vs out.toList->P (.done (.ret .none)) { s with heap:=h',toks:=tk }):
  wpAny (model prog w) A (ksk_tree a f false) P E s:=by
 have halt:a<s.heap.objs.size:=Heap.lt_size ho
 have s1:=Heap.SameBut.update s.heap a (Obj.mapSeq λJ=>(#[]:Array Value))
 obtain ⟨e1,ho1⟩:∃e1,(s.heap.update a (Obj.mapSeq λJ=>(#[]:Array Value))).get? a=some (seqObj "list" #[] e1):=⟨_,get?_update_seq ho λJ=>#[]⟩
 unfold ksk_tree
 refine wpAny_bind (listItems_at ho rfl ?_)
 refine wpAny_bind (listUpdate_at ho rfl ?_ (by rw [List.size_toArray,sizeLine_eq];omega) (Nat.zero_le _))
 refine wpAny_bind (seqEpoch_at ho1 rfl ?_)
 refine wpAny_bind (wpAny_newTuple ?_ (by show vs.length<=_;rw [sizeLine_eq];omega))
 refine wpAny_bind (wpAny_newList ?_ (Nat.zero_le _))
 refine wpAny_holding ?_
 show wpAny _ _ (ksk_rest a f false vs.toArray e1 (.ref ((s.heap.update a (Obj.mapSeq λJ=>(#[]:Array Value))).push (seqObj "tuple" vs.toArray 0)).objs.size)) _ _
  { s with heap:=((s.heap.update a (Obj.mapSeq λJ=>(#[]:Array Value))).push (seqObj "tuple" vs.toArray 0)).push (seqObj "list" #[] 0) }
 have hkS:((s.heap.update a (Obj.mapSeq λJ=>(#[]:Array Value))).push (seqObj "tuple" vs.toArray 0)).objs.size=s.heap.objs.size+1:=by rw [Heap.size_push,Heap.size_update]
 have k0:Kp [a] s.heap (((s.heap.update a (Obj.mapSeq λJ=>(#[]:Array Value))).push (seqObj "tuple" vs.toArray 0)).push (seqObj "list" #[] 0)):=λb o z hb=>
  Heap.get?_push_of_some _ (Heap.get?_push_of_some _ ((s1.2 b (λy=>hb (by simp [y]))).trans z))
 have g0:(((s.heap.update a (Obj.mapSeq λJ=>(#[]:Array Value))).push (seqObj "tuple" vs.toArray 0)).push (seqObj "list" #[] 0)).get? a=some (seqObj "list" #[] e1):=Heap.get?_push_of_some _ (Heap.get?_push_of_some _ ho1)
 have gk:(((s.heap.update a (Obj.mapSeq λJ=>(#[]:Array Value))).push (seqObj "tuple" vs.toArray 0)).push (seqObj "list" #[] 0)).get? ((s.heap.update a (Obj.mapSeq λJ=>(#[]:Array Value))).push (seqObj "tuple" vs.toArray 0)).objs.size=some (seqObj "list" #[] 0):=Heap.get?_push_size _ rfl
 exact srt_rest hlen h64 turn h k0 g0 gk (by rw [hkS];exact Nat.ne_of_gt (Nat.lt_succ_of_lt halt)) (by rw [hkS];exact Heap.get?_none_of_le (Nat.le_succ _))
theorem srt_sorted {l f:Addr} {Q:Value->Shared->Prop} (hl:s.heap.IsList l vs.toArray) (hlen:kz.length=vs.length) (h64:vs.length<64)
  (turn:∀(i:Nat) (v:Value) (k:Int),vs[i]?=some v->kz[i]?=some k->∀(h:Heap) (tk:Nat),(∀b o,s.heap.get? b=some o->h.get? b=some o)->∀Q:Value->Shared->Prop,(∀h' tk' t',(∀b o,h.get? b=some o->h'.get? b=some o)->Q (.int k t') { s with heap:=h',toks:=tk' }) ->
   wpAny (model prog w) A.in1.in1 (call (.ref f) [v]) Q (λJ J=>False) { s with heap:=h,toks:=tk })
  (h:∀D h' tk out c,(∀b o,s.heap.get? b=some o->h'.get? b=some o)->s.heap.get? D=none->h'.get? D=some (seqObj "list" out c)->KskOut false kz vs out.toList->Q (.ref D) { s with heap:=h',toks:=tk }):
  wpAny (model prog w) A (call (.builtin "sorted") [.ref l] [(Str.ofString "key",.ref f)]) Q E s:=by
 refine call_function_entry_kw kind_sorted plain_sorted entry_sorted (ksk_s1 _ _) ?_
 unfold Builtin.«sorted»
 refine wpAny_bind (m:=checkCount "sorted" 1 1 _) (wpAny_pure ?_)
 refine wpAny_bind (collect_list hl ?_ (by rw [sizeLine_eq];omega))
 refine wpAny_bind (wpAny_newList ?_ (by rw [sizeLine_eq];omega))
 have hsz:((s.heap.push (seqObj "list" #[] 0)).update s.heap.objs.size (Obj.mapSeq (λJ=>J++vs.toArray))).objs.size=s.heap.objs.size+1:=by
  rw [Heap.size_update,Heap.size_push]
 have hoL:(((s.heap.push (seqObj "list" #[] 0)).update s.heap.objs.size (Obj.mapSeq (λJ=>J++vs.toArray))).push (seqObj "list" vs.toArray 0)).get? (s.heap.objs.size+1)=some (seqObj "list" vs.toArray 0):=by
  rw [<-hsz];exact Heap.get?_push_size _ rfl
 have keep:∀b o,s.heap.get? b=some o->(((s.heap.push (seqObj "list" #[] 0)).update s.heap.objs.size (Obj.mapSeq (λJ=>J++vs.toArray))).push (seqObj "list" vs.toArray 0)).get? b=some o:=λb o q=>by
  have hlt:b<s.heap.objs.size:=Heap.lt_size q
  rw [Heap.get?_push_ne _ _ _ (by rw [hsz];exact Nat.ne_of_lt (Nat.lt_succ_of_lt hlt)),Heap.get?_update_ne _ _ _ _ (Nat.ne_of_lt hlt),Heap.get?_push_ne _ _ _ (Nat.ne_of_lt hlt)]
  exact q
 have hn:s.heap.get? (s.heap.objs.size+1)=none:=Heap.get?_none_of_le (Nat.le_succ _)
 have ne:∀b o,s.heap.get? b=some o->b∉[s.heap.objs.size+1]:=λb o q y=>by rw [List.mem_singleton.mp y,hn] at q;cases q
 show wpAny _ _ _ _ _ { s with heap:=((s.heap.push (seqObj "list" #[] 0)).update s.heap.objs.size (Obj.mapSeq (λJ=>J++vs.toArray))).push (seqObj "list" vs.toArray 0) }
 rw [hsz]
 refine wpAny_bind (wpAny_holding (wpAny_call_entry_kw slot_list_sort ⟨_,hoL,rfl⟩ entry_list_sort ?body (ksk_l1 _ _)))
 case body=>
  show wpAny (model prog w) A.in1.in1 (Builtin.«list.sort» ⟨[.ref (s.heap.objs.size+1)],[(Str.ofString "key",.ref f)]⟩) _ _ _
  rw [ksk_t1]
  refine srt_tree (s:={ s with heap:=((s.heap.push (seqObj "list" #[] 0)).update s.heap.objs.size (Obj.mapSeq (λJ=>J++vs.toArray))).push (seqObj "list" vs.toArray 0) }) hoL hlen h64
   (λi v k h1 h2 h tk kp Q hQ=>turn i v k h1 h2 h tk (λb o q=>kp b o (keep b o q) (ne b o q)) Q hQ) λh' tk out c kp g ho=>⟨_,rfl,?_⟩
  exact wpAny_pure ⟨_,rfl,h _ h' tk out c (λb o q=>kp b o (keep b o q) (ne b o q)) hn g ho⟩
end
theorem insertW_perm (x:Int×Int):∀ys:List (Int×Int),(aR x ys).Perm (x::ys):=λω=>match ω with
 | []=>.refl _
 | y::ys=>by
  unfold aR
  split
  ·exact .refl _
  ·exact ((insertW_perm x ys).cons y).trans (.swap x y ys)
theorem sortW_perm:∀l,(aU l).Perm l:=λω=>match ω with
 | []=>.refl _
 | x::l=>(insertW_perm x _).trans ((sortW_perm l).cons x)
theorem insertW_sorted (x:Int×Int):∀ys:List (Int×Int),ys.Pairwise (λa b=>a.1<=b.1)->(aR x ys).Pairwise (λa b=>a.1<=b.1):=λω ψ=>match ω,ψ with
 | [],J=>List.pairwise_singleton ..
 | y::ys,h=>by
  have h':=List.pairwise_cons.mp h
  unfold aR
  split
  ·rename_i q
   exact List.pairwise_cons.mpr ⟨λz hz=>by rcases List.mem_cons.mp hz with e | e;exact e▸q;exact Int.le_trans q (h'.1 z e),h⟩
  ·rename_i q
   refine List.pairwise_cons.mpr ⟨λz hz=>?_,insertW_sorted x ys h'.2⟩
   rcases List.mem_cons.mp ((insertW_perm x ys).mem_iff.mp hz) with e | e
   ·rw [e];omega
   ·exact h'.1 z e
theorem sortW_sorted:∀l,(aU l).Pairwise (λa b=>a.1<=b.1):=λω=>match ω with
 | []=>.nil
 | x::l=>insertW_sorted x _ (sortW_sorted l)
noncomputable def rowA (r:Int×Int):AV:=.tup [.int r.1,.int r.2]
theorem intO_at:∀{v:AV} {i:Int},intO v=some i->v=.int i:=@λω=>@λψ=>@λχ=>match ω,ψ,χ with
 | .int J,ζ,e=>congrArg _ (Option.some.inj e)
 | .none,J,e=>ae e
 | .bool J,ζ,e=>ae e
 | .str J,ζ,e=>ae e
 | .tup J,ζ,e=>ae e
 | .ref J,ζ,e=>ae e
 | .gl J,ζ,e=>ae e
theorem pairO_at:∀{l:List AV} {p:Int×Int},pairO l=some p->AV.tup l=rowA p:=@λω=>@λψ=>@λχ=>match ω,ψ,χ with
 | [J,ζ],η,e=>(some2 (f:=Prod.mk) e).elim λJ q=>q.elim λJ q=>q.2.2▸intO_at q.1▸intO_at q.2.1▸rfl
 | [],J,e=>ae e
 | [J],ζ,e=>ae e
 | J::ζ::η::θ,μ,e=>ae e
theorem rowOf_at:∀{v:AV} {p:Int×Int},rowOf v=some p->v=rowA p:=@λω=>@λψ=>@λχ=>match ω,ψ,χ with
 | .tup J,ζ,e=>pairO_at e
 | .none,J,e=>ae e
 | .bool J,ζ,e=>ae e
 | .int J,ζ,e=>ae e
 | .str J,ζ,e=>ae e
 | .ref J,ζ,e=>ae e
 | .gl J,ζ,e=>ae e
theorem keyedOf_at:∀{xs:List AV} {rows:List (Int×Int)},keyedOf xs=some rows->xs=rows.map rowA:=@λω=>@λψ=>@λχ=>match ω,ψ,χ with
 | [],J,h=>Option.some.inj h▸rfl
 | J::ζ,η,h=>(some2 (f:=List.cons) h).elim λJ q=>q.elim λJ q=>q.2.2▸congr (congrArg List.cons (rowOf_at q.1)) (keyedOf_at q.2.1)
theorem oneRow_at {rows:List (Int×Int)} (h:oneRow rows=true):rows.length<64/\∀a∈rows,∀b∈rows,a.1=b.1->a=b:=by
 unfold oneRow at h
 simp only [Bool.and_eq_true,decide_eq_true_eq,List.all_eq_true,Bool.or_eq_true,bne_iff_ne,ne_eq,beq_iff_eq] at h
 refine ⟨h.1,λa ha b hb e=>?_⟩
 rcases h.2 a ha b hb with z | z
 ·exact absurd e z
 ·exact Prod.ext e z
theorem srt_rows {h:Heap} {rf gf:Rf} {rows:List (Int×Int)} {vs out:List Value} (h1:oneRow rows=true) (hv:VRs h rf gf (rows.map rowA) vs) (ho:KskOut false (rows.map (λJ=>J.1)) vs out):VRs h rf gf ((aU rows).map rowA) out:=by
 obtain ⟨_,huni⟩:=oneRow_at h1
 obtain ⟨ps,hp,rfl,hs⟩:=ho
 have hlen:=hv.length
 rw [List.length_map] at hlen
 let g:Int->Int:=λk=>((rows.find? λr=>r.1==k).map (λJ=>J.2)).getD 0
 have hg:∀r∈rows,g r.1=r.2:=λr hr=>by
  show ((rows.find? λr'=>r'.1==r.1).map (λJ=>J.2)).getD 0=r.2
  cases hf:rows.find? λr'=>r'.1==r.1 with
  | none=>exact absurd (List.find?_eq_none.mp hf r hr) (by simp)
  | some r'=>
   have e1:=List.find?_some hf
   have e2:=List.mem_of_find?_eq_some hf
   rw [huni r' e2 r hr (by simpa using e1)];rfl
 have hz:((rows.map (λJ=>J.1)).zip vs).map (λp=>(p.1,g p.1))=rows:=by
  have:((rows.map (λJ=>J.1)).zip vs).map (λp=>(p.1,g p.1))=(((rows.map (λJ=>J.1)).zip vs).map Prod.fst).map (λk=>(k,g k)):=by rw [List.map_map];rfl
  rw [this,List.map_fst_zip (by rw [List.length_map];omega),List.map_map]
  have:∀r∈rows,((λk=>(k,g k))∘(λJ=>J.1)) r=r:=λr hr=>by
   show (r.1,g r.1)=r
   rw [hg r hr]
  rw [List.map_congr_left this];simp
 have hperm:(ps.map λp=>(p.1,g p.1)).Perm rows:=by
  have:=hp.map (λp:Int×Value=>(p.1,g p.1))
  rwa [hz] at this
 have hsort:(ps.map λp=>(p.1,g p.1))=aU rows:=by
  refine one_sorted (r:=λa b=>a.1<=b.1) (λa ha b hb h1 h2=>?_) (hperm.trans (sortW_perm rows).symm) ?_ (sortW_sorted rows)
  ·exact huni a (hperm.mem_iff.mp ha) b (hperm.mem_iff.mp hb) (Int.le_antisymm h1 h2)
  ·refine List.Pairwise.map (R:=λp q:Int×Value=>p.1<=q.1) _ (λa b hab=>hab) ?_
   exact hs.imp λ{a b} hab=>by simpa using hab
 rw [<-hsort]
 have hmem:∀p∈ps,VR h rf gf (rowA (p.1,g p.1)) p.2:=λp hp'=>by
  have:=hp.mem_iff.mp hp'
  obtain ⟨i,hi,e⟩:=List.mem_iff_getElem.mp this
  rw [List.getElem_zip] at e
  have hi':i<rows.length:=by simp at hi;omega
  have hiv:i<vs.length:=by simp at hi;omega
  obtain ⟨v,h3,h4⟩:=hv.get (i:=i) (x:=rowA rows[i]) (by rw [List.getElem?_map,List.getElem?_eq_getElem hi'];rfl)
  rw [List.getElem?_eq_getElem hiv] at h3
  cases h3
  have e1:p.1=rows[i].1:=by rw [<-e];simp
  have e2:p.2=vs[i]:=by rw [<-e]
  rw [e2,e1,hg _ (List.getElem_mem hi')]
  exact h4
 clear hsort hperm hs hp
 induction ps with
 | nil=>rfl
 | cons p ps ih=>exact ⟨p.2,ps.map Prod.snd,rfl,hmem p (List.mem_cons_self ..),ih λq hq=>hmem q (List.mem_cons_of_mem _ hq)⟩
noncomputable abbrev lamP (a:Str) (ap:Pos):Arguments:=⟨[],[⟨a,none,ap⟩],none,[],[],none,[]⟩
noncomputable abbrev lamS:Scope:=⟨.function,[("pair",.local)],false,false,[]⟩
noncomputable abbrev lamBd (p1 p2 p3:Pos) (n:Nat):Expr:=.Subscript (.Name "pair" p1) (.Constant (.int 0) n p2) p3
section
variable {C:Cfg} {N:Nms} (W:CfgOK C) (M:NmsOK C N) {Γ:Blk} {σ:St} {d:Nat} {m:Lo} {Φ:AV->St->Prop}
include W
noncomputable def IsLam (C:Cfg) (h:Heap) (f:Addr) (ap p1 p2 p3:Pos) (n:Nat):Prop:=∃ctv pm c',h.get? f=some (kla_obj "<lambda>" C.lqual (lamP "pair" ap) (lamBd p1 p2 p3 n) lamS [] pm c' ctv)/\h.CodeRec (.ref c') C.lqual
theorem lam_call {A:Around} {s:Shared} {f:Addr} {ap p1 p2 p3:Pos} {n:Nat} {Q:Value->Shared->Prop} {a:Addr} {items:Array Value} {V:Value} (hroom:A.depth<recursionLimit) (hlim:s.heap.NoLimit) (hf:IsLam C s.heap f ap p1 p2 p3 n) (ht:s.heap.IsTuple a items) (h0:items[0]?=some V)
  (hQ:∀h' tk',(∀b o,s.heap.get? b=some o->h'.get? b=some o)->Q V { s with heap:=h',toks:=tk' }):wpAny (model C.prog C.w) A (call (.ref f) [.ref a]) Q (λJ J=>False) s:=by
 obtain ⟨ctv,pm,c',ho,hcd⟩:=hf
 refine wpAny_call (kla_callFunE hroom ho rfl rfl rfl rfl hcd ?_)
 rw [show bindArgs (kla_fn "<lambda>" C.lqual (lamP "pair" ap) (lamBd p1 p2 p3 n) lamS [] pm (.ref c') ctv) ⟨[Value.ref a],[]⟩=pure [(("pair":Str),Value.ref a)] from rfl]
 refine wpAny_pure (wpAny_newFunctionEnv (λx hx=>by simp at hx;subst hx;simp) (λx hx=>by simp at hx;subst hx;rfl) (λh₁ hns hsb=>⟨hlim.fresh _ hsb,?_⟩) rfl)
 have hk₁:∀b o,s.heap.get? b=some o->h₁.get? b=some o:=λb o e=>hsb.extBut b o (Nat.ne_of_lt (Heap.lt_size e)) (Heap.get?_push_of_some _ e)
 refine kla_codeExpr ?_
 refine Subscript_ (wpAny_Name (wpAny_loadName_local rfl rfl hns (v:=.ref a) rfl ?_))
 refine wpAny_Constant_int ?_
 have ht₁:h₁.IsTuple a items:=by
  obtain ⟨o,g1,g2⟩:=ht
  exact ⟨o,hk₁ _ _ g1,g2⟩
 have hlt:0<items.size:=(Array.getElem?_eq_some_iff.mp h0).1
 refine sub_tail ⟨"tuple",_,Slot.look F.slot_tuple_getitem,ht₁.typeIs,PyProof.Rows.getItem_tuple ht₁ (by decide) (by decide) (j:=0) (by simp [seqIndex?,hlt]) h0 ?_⟩ ⟨_,_,rfl⟩
 exact hQ h₁ _ hk₁
end
section
variable {C:Cfg} {N:Nms} (W:CfgOK C) (M:NmsOK C N) {Γ:Blk} {σ:St} {d:Nat} {m:Lo} {Φ:AV->St->Prop}
include W
theorem step_lam {ρ:Ro} {s:Shared} {h':Heap} {tk:Nat} (R:Rel C ρ σ s.heap) (L:Bas C s.heap) (k:∀b o,b≠C.P->s.heap.get? b=some o->h'.get? b=some o) (hl:LamOK C h'):
  Aft C ρ s { s with heap:=h',toks:=tk } ρ/\Rel C ρ σ h'/\Bas C h'/\(∀a o,s.heap.get? a=some o->(o.cls=.type "tuple"/\∃xs n,o.data=.seq xs n)->h'.get? a=some o):=by
 have ht:∀a o,s.heap.get? a=some o->(o.cls=.type "tuple"/\∃xs n,o.data=.seq xs n)->h'.get? a=some o:=λa o e hc=>k a o (λq=>by
  obtain ⟨ps,z⟩:=L.lam.ex
  rw [q,z] at e;cases e;simp at hc) e
 exact ⟨⟨rfl,.refl _,λa ha=>.inl ha,λb o e J hp=>k b o hp e⟩,R.out W.box (λb hb o e=>k b o (R.new b hb).2 e) ht,⟨λb o e hb=>k b o hb (L.keep b o e hb),hl⟩,ht⟩
include M
theorem ev_lam {ρ:Ro} {s:Shared} {A:Around} {env:Env} {Q:Value->Shared->Prop} {ap p1 p2 p3:Pos} {n:Nat} (hΓ:Γ.fn=7) (e:EnvR C Γ env m ρ s.heap) (R:Rel C ρ σ s.heap) (L:Bas C s.heap)
  (k:∀f h' tk,Aft C ρ s { s with heap:=h',toks:=tk } ρ->Rel C ρ σ h'->Bas C h'->(∀a o,s.heap.get? a=some o->(o.cls=.type "tuple"/\∃xs n,o.data=.seq xs n)->h'.get? a=some o)->IsLam C h' f ap p1 p2 p3 n->Q (.ref f) { s with heap:=h',toks:=tk }):
  wpAny (model C.prog C.w) A (eval (.Lambda (lamP "pair" ap) (lamBd p1 p2 p3 n) lamS N.lpos) env) Q (λJ J=>False) s:=by
 obtain ⟨fd,h1,h2,h3⟩:=e.cod
 rw [hΓ] at h1
 obtain ⟨c,g1,g2,g3⟩:=M.lamC fd h1
 rw [g1] at h2
 have hcl:closureFor lamS env=pure []:=closure_eq (scope:=lamS) (λx hx hf=>by simp at hx;subst hx;cases hf)
 have hC:CodeHd s.heap c C.P:=by
  obtain ⟨o,vs,file,tf,flags,tg,inF,text,tt,q1,q2,q3,q4,q5,q6,q7,q8,q9,q10⟩:=g2
  exact ⟨o,vs,file,tf,flags,tg,inF,text,tt,L.keep _ _ q1 q10,q2,q3,q4,q5,q6,q7,q8,q9,q10⟩
 have hB:s.heap.BuiltinsAt C.mg C.P:=by
  obtain ⟨bm,o,q1,q2,q3,q4,q5,q6⟩:=M.lamB
  exact ⟨bm,o,q1,q2,q3,q4,L.keep _ _ q5 q4,q6⟩
 have hns:=Bas.ns W L W.glob
 have hq:env.qual++("<lambda>":Str)=C.lqual:=by rw [h3];exact g3
 have hdef:defaultsOf (lamP "pair" ap) env=([],[]):=rfl
 refine kla_eval hdef ?_
 show wpAny _ _ (makeFunction "<lambda>" (env.qual++("<lambda>":Str)) _ _ _ _ _ _ _ _ _) _ _ _
 rw [hq,M.lpos]
 rcases L.lam with hP | ⟨c',hP,hrec,hc'⟩
 ·refine kla_makeFunction hcl e.glob hns h2 hC hP M.lamT M.lamN M.lamG hB λc' ctv h' tk hx hge hlt hrec hP'=>?_
  have kp:∀b o,b≠C.P->s.heap.get? b=some o->(h'.push (kla_obj "<lambda>" C.lqual (lamP "pair" ap) (lamBd p1 p2 p3 n) lamS [] ((C.mg "__name__").getD .none) c' ctv)).get? b=some o:=λb o hb q=>Heap.get?_push_of_some _ (hx b o hb q)
  have hnb:C.hb.get? c'=none:=by
   cases q:C.hb.get? c' with
   | none=>rfl
   | some o=>
    have hne:c'≠C.P:=λz=>by
     have:=Heap.lt_size hP
     rw [<-z] at this
     exact absurd hge (Nat.not_le.mpr this)
    have:=Heap.lt_size (L.keep c' o q hne)
    exact absurd hge (Nat.not_le.mpr this)
  obtain ⟨a,R',L',ht⟩:=step_lam (tk:=tk) W R L kp (.inr ⟨c',Heap.get?_push_of_some _ hP',hrec.push _,hnb⟩)
  exact k _ _ tk a R' L' ht ⟨ctv,_,c',Heap.get?_push_size _ rfl,hrec.push _⟩
 ·have hf:codeAmong C.lpos (C.ps++#[rawInt C.lpos.line,rawInt C.lpos.col,.ref c']).toList=some (.ref c'):=by
   rw [Array.toList_append];exact codeAmong_snoc _ M.lamT M.lamN
  have hT:TriplesOk (C.ps++#[rawInt C.lpos.line,rawInt C.lpos.col,.ref c']).toList:=by
   rw [Array.toList_append];exact TriplesOk_snoc _ _ _ _ M.lamT
  refine kla_makeFunctionHit hcl e.glob hns h2 hC hP hT hf hB λctv h' tk kk hsz=>?_
  have kp:∀b o,b≠C.P->s.heap.get? b=some o->(h'.push (kla_obj "<lambda>" C.lqual (lamP "pair" ap) (lamBd p1 p2 p3 n) lamS [] ((C.mg "__name__").getD .none) c' ctv)).get? b=some o:=λb o hb q=>Heap.get?_push_of_some _ (kk b o q)
  obtain ⟨a,R',L',ht⟩:=step_lam (tk:=tk) W R L kp (.inr ⟨c',Heap.get?_push_of_some _ (kk _ _ hP),(hrec.keeps kk).push _,hc'⟩)
  exact k _ _ tk a R' L' ht ⟨ctv,_,c',Heap.get?_push_size _ rfl,(hrec.keeps kk).push _⟩
omit W M in
theorem l0E {β:Type} {x:List β} {b:Bool} (h:l0 x b=true):x=[]/\b=true:=e_l0 (P:=λx=>x=[]/\b=true) h λh=>⟨rfl,h⟩
omit W M in
theorem lamA_at {a:Arguments} {P:Arguments->Prop} (h:lamA a=true) (k:∀ap,P (lamP "pair" ap)):P a:=by
 obtain ⟨pa,ar,va,ko,kd,kw,df⟩:=a
 have h1:=an3 h
 obtain ⟨rfl,h2⟩:=l0E h1.1.1
 obtain ⟨rfl,h3⟩:=l0E h1.2
 obtain ⟨rfl,h4⟩:=l0E h3
 obtain rfl:va=none:=Option.isNone_iff_eq_none.mp h1.1.2
 obtain rfl:kw=none:=Option.isNone_iff_eq_none.mp (an2 h4).1
 obtain rfl:df=[]:=List.isEmpty_iff.mp (an2 h4).2
 refine e_l1 (P:=λar=>P ⟨[],ar,none,[],[],none,[]⟩) h2 λa h=>?_
 obtain ⟨n,an,ap⟩:=a
 obtain rfl:n="pair":=eq_of_beq (an2 h).1
 obtain rfl:an=none:=Option.isNone_iff_eq_none.mp (an2 h).2
 exact k ap
omit W M in
theorem lamB_at {p:Pos} {x:Expr} {P:Expr->Prop} (h:lamB p x=true) (k:∀ap p1 p2 p3 n,P (.Lambda (lamP "pair" ap) (lamBd p1 p2 p3 n) lamS p)):P x:=
 e_Lam h λa b scope lp h=>by
  have h:=an4 h
  obtain rfl:=odT h.1.1.1
  obtain rfl:=odT h.1.1.2
  refine e_Sub (P:=λb=>P (.Lambda a b _ _)) h.2 λx i p3 g=>e_Name (P:=λx=>P (.Lambda a (.Subscript x i p3) _ _)) (an2 g).1 λy p1 g1=>e_Const (P:=λi=>P (.Lambda a (.Subscript (.Name y p1) i p3) _ _)) (an2 g).2 λc n p2 g2=>?_
  obtain rfl:y="pair":=eq_of_beq g1
  obtain rfl:=odT g2
  exact lamA_at (P:=λa=>P (.Lambda a _ _ _)) h.1.2 λap=>k ap p1 p2 p3 n
theorem ev_srtk (hG:okB Γ=true) {e:E} {a l:Expr} {p pos kp:Pos} (hx:isG Γ (bltN 3)=true) (hl:lamB N.lpos l=true) (hΓ:Γ.fn=7) (ie:IHE C d Γ e a) (hs:notStar a=true):
  IHE C d Γ (.srtk e) (.Call (.Name (bltN 3) p) [a] [⟨some "key",l,kp⟩] pos):=by
 intro m σ Φ q env A s ρ Q e' hA R L k
 have hstar:starEach [a] env=(false,eval a env)::starEach [] env:=star_one hs
 refine wpAny_Call_Name_kw (name_blt W hG hx L e' (M.b 3).1 (M.b 3).2 ?_)
 refine callWith_of (P:=λJ=>True) (by rw [hstar];rfl) (kpO_bltF W 3) (evalArgs_kw2 (by rfl) ?_ hstar)
 refine args_cons (ie q env A s ρ _ e' hA R L λV s₁ ρ₁ v σ₁ a₁ R₁ L₁ hv q=>args_nil ?_) hstar
 refine kwAll_cons ?_
 refine lamB_at (P:=λl=>wpAny (model C.prog C.w) A (eval l env) _ _ s₁) hl λap p1 p2 p3 n=>?_
 refine ev_lam W M hΓ (e'.aft W.box R L a₁) R₁ L₁ λf h₂ tk₂ a₂ R₂ L₂ ht₂ hlam=>kwAll_nil ⟨trivial,?_⟩
 show wpAny _ _ (call (.builtin "sorted") [V] [(Str.ofString "key",.ref f)]) _ _ _
 refine (az q).elim λrows g=>(Option.bind_eq_some_iff.mp g.1).elim λxs g5=>?_
 have g2:=aJ g.2
 obtain rfl:=keyedOf_at g5.2
 have h64:=(oneRow_at g2.1).1
 obtain ⟨ad,items,rfl,hlist,hvs,hz⟩:=list_at (s:={ s₁ with heap:=h₂,toks:=tk₂ }) W R₂ L₂ (hv.mono (λJ J z=>z) ht₂ _) g5.1
 have hlen:items.toList.length=rows.length:=hvs.length.trans (List.length_map _)
 have hsub:∀h tk,(∀b o,h₂.get? b=some o->h.get? b=some o)->Bas C h:=λh tk kk=>(aE (s:={ s₁ with heap:=h₂,toks:=tk₂ }) (tk:=tk) W.box R₂ L₂ kk).2.2
 refine srt_sorted (s:={ s₁ with heap:=h₂,toks:=tk₂ }) (vs:=items.toList) (kz:=rows.map (λJ=>J.1)) (by rw [Array.toArray_toList];exact hlist) ((List.length_map _).trans hlen.symm) (hlen▸h64) (λi w kz h1 h2 h tk kk Q' hQ'=>?_) λD h' tk out c kk hD ho hout=>?_
 ·rw [List.getElem?_map] at h2
  obtain ⟨r,z1,rfl⟩:=Option.map_eq_some_iff.mp h2
  obtain ⟨w',y1,y2⟩:=hvs.get (i:=i) (x:=rowA r) (by rw [List.getElem?_map,z1];rfl)
  obtain rfl:=getE h1 y1
  obtain ⟨t,its,rfl,ht,y3⟩:=y2
  obtain ⟨V1,V2,e1,⟨t1,rfl⟩,_⟩:=VRs.two y3
  obtain ⟨ctv,pm,c',f1,f2⟩:=hlam
  exact lam_call W (by show A.depth < _;exact Nat.lt_of_le_of_lt (Nat.le_add_right _ _) hA.depth) (Bas.lim W (hsub h tk kk)) (s:={ s₁ with heap:=h,toks:=tk }) ⟨ctv,pm,c',kk _ _ f1,f2.keeps kk⟩ (ht.imp λo z=>⟨kk _ _ z.1,z.2⟩) (by rw [<-Array.getElem?_toList,e1];rfl) λh' tk' k'=>hQ' h' tk' _ k'
 ·exact k_listAt (s:={ s₁ with heap:=h₂,toks:=tk₂ }) W R₂ L₂ (k.from (a₁.trans a₂)) kk hD ho (srt_rows g2.1 hvs hout) (by rw [List.length_map,(sortW_perm rows).length_eq];exact Nat.le_of_lt (Nat.lt_of_lt_of_le h64 (by decide))) g2.2
end
section
variable {C:Cfg} {N:Nms} (W:CfgOK C) (M:NmsOK C N) {d:Nat} (hd:d<=57)
structure IHI (C:Cfg) (d:Nat) (Γ:Blk) (it:It) (x:Expr):Prop where
 at_:∀{t:T} {Γ':Blk} {tg:Expr},tgB it t=true->ckT Γ' t tg=true->∀{m:Lo} {σ:St} {Φ:Src->St->Prop},evI C.τ (vcA C d) it m σ Φ->ItT C d Γ tg x m σ Φ
theorem tg_tuple {t:T} {Γ:Blk} {tg:Expr} {e:E} (h:tgB (.enum e) t=true) (hT:ckT Γ t tg=true):∃xs n q,tg=.Tuple xs n q:=by
 cases t with
 | v J=>exact ffT h
 | tup ks=>exact e_Tuple (P:=λtg=>∃xs n q,tg=.Tuple xs n q) hT λxs n q J=>⟨xs,n,q,rfl⟩
noncomputable def ET (C:Cfg) (d:Nat) (Γ:Blk) (e:E) (x:Expr):Prop:=IHE C d Γ e x/\IHT C d Γ e x
noncomputable def LT (C:Cfg) (d:Nat) (Γ:Blk) (es:Es) (xs:List Expr):Prop:=IHL C d Γ es xs/\IHLT C d Γ es xs/\∀an,IHB C d Γ an es xs/\IHBT C d Γ an es xs
noncomputable def CT (C:Cfg) (d:Nat) (Γ:Blk) (cs:Cs) (ops:List CmpOp) (xs:List Expr):Prop:=IHC C d Γ cs ops xs/\IHCT C d Γ cs ops xs
include W in
theorem both {Γ:Blk} {e:E} {x:Expr} (h:IHE C d Γ e x) (hx:∀env whole,isTrue x env whole=(do let v <-whole;standAt x.pos;holding [v] (truthy v))):ET C d Γ e x:=⟨h,tr_plain W h hx⟩
include W in
theorem lt_cons {Γ:Blk} {e:E} {x:Expr} {es:Es} {xs:List Expr} (he:ET C d Γ e x) (hs:LT C d Γ es xs) (an:Bool):IHB C d Γ an (.cons e es) (x::xs)/\IHBT C d Γ an (.cons e es) (x::xs):=
 match es,xs,hs with
 | .nil,[],J=>⟨b_one W he.1,bt_one W he.2⟩
 | .nil,J::ζ,hs=>hs.1.elim
 | .cons J ζ,[],hs=>hs.1.elim
 | .cons J ζ,η::θ,hs=>⟨b_more W he.1 (hs.2.2 an).1,bt_more W he.2 (hs.2.2 an).2⟩
include W in
theorem ct_cons {Γ:Blk} {o:CO} {e:E} {x:Expr} {cs:Cs} {ops:List CmpOp} {xs:List Expr} (he:IHE C d Γ e x) (h:ckCs N Γ cs ops xs=true) (hs:CT C d Γ cs ops xs):CT C d Γ (.cons o e cs) (coOf o::ops) (x::xs):=
 match cs,ops,xs,h,hs with
 | .nil,ops,xs,h,J=>e_l0 (P:=λops=>CT C d _ (.cons o e .nil) (coOf o::ops) (x::xs)) h λh=>e_l0 (P:=λxs=>CT C d _ (.cons o e .nil) [coOf o] (x::xs)) h λJ=>⟨c_one W he,ct_one W he⟩
 | .cons J ζ η,[],θ,h,μ=>ffT h
 | .cons J ζ η,θ::μ,[],h,ν=>ffT h
 | .cons o2 J ζ,op::η,θ::μ,h,hs=>by
  obtain rfl:coOf o2=op:=odT (an4 h).1.1.1
  exact ⟨c_more W he hs.1,ct_more W he hs.2⟩
include W M hd
mutual
theorem aM:∀(e:E) {Γ:Blk} {x:Expr},okB Γ=true->ckE N Γ e x=true->ET C d Γ e x:=@λω=>@λψ=>@λχ=>@λϕ=>@λϱ=>match ω,ψ,χ,ϕ,ϱ with
 | .bad,J,ζ,η,θ=>⟨λq=>False.elim q,λq=>False.elim q⟩
 | .lit J,ζ,η,θ,h=>e_Const h λJ J J h=>both W (ev_lit W h) λJ J=>rfl
 | .var J,ζ,η,hG,h=>e_Name h λJ J h=>both W (ev_var hG (odT h)) λJ J=>rfl
 | .glob J,ζ,η,hG,h=>e_Name h λJ J h=>both W (ev_glob W M hG (an2 h).1 (an2 h).2) λJ J=>rfl
 | .bin J l r,ζ,η,hG,h=>e_Bin h λJ J J J h=>have q:=an3 h;odT q.1.1▸both W (ev_bin W (aM l hG q.1.2).1 (aM r hG q.2).1) λJ J=>rfl
 | .neg e,J,ζ,hG,h=>e_Un h λJ J J h=>odT (an2 h).1▸both W (ev_neg W (aM e hG (an2 h).2).1) λJ J=>rfl
 | .not e,J,ζ,hG,h=>e_Un h λJ J J h=>have q:=aM e hG (an2 h).2;odT (an2 h).1▸⟨ev_not W q.1,tr_not W q.2⟩
 | .bop an es,J,ζ,hG,h=>e_Bool h λJ J J h=>have q:=(snd_L es hG (an2 h).2).2.2 an;odT (an2 h).1▸⟨ev_bop W q.1,tr_bop W q.2⟩
 | .cmp l cs,J,ζ,hG,h=>e_Cmp h λJ J J J h=>have q:=aM l hG (an2 h).1;have r:=snd_C cs hG (an2 h).2;⟨ev_cmp W (an2 h).2 q.1 r.1,tr_cmp W (an2 h).2 q.1 r.2⟩
 | .ite c t f,J,ζ,hG,h=>e_If h λJ J J J h=>have q:=an3 h;have q1:=aM c hG q.1.1;have q2:=aM t hG q.1.2;have q3:=aM f hG q.2;⟨ev_ite W q1.2 q2.1 q3.1,tr_ite W q1.2 q2.2 q3.2⟩
 | .attr e J,ζ,η,hG,h=>e_Attr h λJ J J h=>have q:=an3 h;both W (ev_attr W (aM e hG q.1.1).1 (eq_of_beq q.1.2) q.2) λJ J=>rfl
 | .idx e i,J,ζ,hG,h=>e_Sub h λJ J J h=>both W (ev_idx W (aM e hG (an2 h).1).1 (aM i hG (an2 h).2).1) λJ J=>rfl
 | .slc e lo hi st,J,ζ,hG,h=>e_Sub h λa J p h=>e_Slice (P:=λb=>ET C d _ _ (.Subscript a b p)) h λJ J J J h=>have q:=an4 h;
   both W (ev_slc W M (aM e hG q.1.1.1).1 (snd_O lo hG q.1.1.2) (snd_O hi hG q.1.2) (snd_O st hG q.2)) λJ J=>rfl
 | .list es,J,ζ,hG,h=>e_List h λJ J h=>both W (ev_list W ((snd_L es hG h).1.es W)) λJ J=>rfl
 | .tup es,J,ζ,hG,h=>e_Tuple h λJ J J h=>both W (ev_tup W ((snd_L es hG h).1.es W)) λJ J=>rfl
 | .dict J es,ζ,η,hG,h=>e_Dict h λJ J J h=>have q:=an3 h;have q1:=odT q.1.1;both W (ev_dict W q1.1 q.1.2 (snd_L es hG q.2).1 q1.2) λJ J=>rfl
 | .call J es,ζ,η,hG,h=>e_F (an2 h).2 λJ J J hx hs=>both W (ev_call W M hd hG (odT (an2 h).1) hx (snd_L es hG hs).1) λJ J=>rfl
 | .new J es,ζ,η,hG,h=>e_F (an2 h).2 λJ J J hx hs=>both W (ev_new W M hd hG (odT (an2 h).1) hx (snd_L es hG hs).1) λJ J=>rfl
 | .newK c kws es,J,ζ,hG,h=>e_Call (an2 h).2 λJ xs kwl p g=>e_Name (P:=λf=>ET C d _ _ (.Call f xs kwl p)) g λJ J g=>e_l0 (P:=λxs=>ET C d _ _ (.Call _ xs kwl p)) g λg=>have q:=an5 g;
   both W (ev_newK W M hd hG (odT (an2 h).1) q.1.1.1.1 q.1.1.1.2 (odT q.1.1.2) q.1.2 (snd_L es hG q.2).1) λJ J=>rfl
 | .meth e J es,ζ,η,hG,h=>e_Call h λJ xs kwl p g=>e_Attr (P:=λf=>ET C d _ _ (.Call f xs kwl p)) g λJ J J g=>e_l0 (P:=λkwl=>ET C d _ _ (.Call _ xs kwl p)) g λg=>have q:=an6 g;
   both W (ev_meth W M hd (aM e hG q.1.1.1.1.1).1 (snd_L es hG q.2).1 q.1.1.1.1.2 q.1.1.1.2 (odT q.1.1.2) (odT q.1.2)) λJ J=>rfl
 | .blt b es,Γ,J,hG,h=>e_F h λp J pos hx hs=>by
  by_cases hb:b=5
  ·subst hb
   refine e_l2 (P:=λxs=>ET C d Γ _ (.Call (.Name (bltN 5) p) xs [] pos)) hs λa y g=>e_Name (P:=λy=>ET C d Γ _ (.Call (.Name (bltN 5) p) [a,y] [] pos)) (an2 g).1 λy p2 hy=>?_
   have q:=(snd_L es hG (an2 g).2).1
   obtain rfl:=eq_of_beq (an2 hy).2
   cases es with
   | nil=>exact q.elim
   | cons e es=>cases es with
    | cons J ζ=>exact q.2.2.elim
    | nil=>exact both W (ev_isb W M hG hx (an2 hy).1 q.1 q.2.1) λJ J=>rfl
  ·exact both W (ev_blt W M hG hb hx (snd_L es hG (by rw [if_neg hb] at hs;exact hs)).1) λJ J=>rfl
 | .srtk e,J,ζ,hG,h=>e_Call h λJ xs kwl p g=>e_Name (P:=λf=>ET C d _ _ (.Call f xs kwl p)) g λJ J g=>have q:=an4 g;
   e_l1 (P:=λkwl=>ET C d _ _ (.Call _ xs kwl p)) q.1.2 λ⟨ar,ζ,η⟩ k=>have r:=an3 k;e_l1 (P:=λxs=>ET C d _ _ (.Call _ xs _ p)) q.2 λJ a=>
    eq_of_beq q.1.1.2▸(odT r.1.1:ar=some "key")▸both W (ev_srtk W M hG (eq_of_beq q.1.1.2▸q.1.1.1) r.1.2 (odT r.2) (aM e hG (an2 a).1).1 (an2 a).2) λJ J=>rfl
 | .comp elt t it ifs vs,J,ζ,hG,h=>e_Comp h λx gs scope p g=>e_l1 (P:=λgs=>ET C d _ _ (.ListComp x gs scope p)) g λ⟨ζ,η,θ,ay⟩ g=>have q:=an8 g;have hin:=(okComp_at q.1.1.1.1.2).ok;
   (odT q.1.1.1.1.1.1.1:ay=0)▸both W (ev_comp W hG q.1.1.1.1.2 q.1.1.1.2 q.2 ((snd_I it hG q.1.1.1.1.1.1.2).at_ q.1.1.1.1.1.2 q.1.1.1.2) (snd_L ifs hin q.1.1.2).2.1 (aM elt hin q.1.2).1) λJ J=>rfl
theorem snd_L:∀(es:Es) {Γ:Blk} {xs:List Expr},okB Γ=true->ckEs N Γ es xs=true->LT C d Γ es xs:=@λω=>@λψ=>@λχ=>@λϕ=>@λϱ=>match ω,ψ,χ,ϕ,ϱ with
 | .nil,J,ζ,η,h=>e_l0 (P:=λxs=>LT C d _ .nil xs) h λJ=>⟨trivial,trivial,λJ=>⟨λq=>False.elim q,λq=>False.elim q⟩⟩
 | .cons J ζ,η,[],θ,h=>ffT h
 | .cons e es,J,ζ::η,hG,h=>have q:=an3 h;have he:=aM e hG q.1.1;have hs:=snd_L es hG q.2;⟨⟨he.1,q.1.2,hs.1⟩,⟨he.2,hs.2.1⟩,λan=>lt_cons W he hs an⟩
theorem snd_C:∀(cs:Cs) {Γ:Blk} {ops:List CmpOp} {xs:List Expr},okB Γ=true->ckCs N Γ cs ops xs=true->CT C d Γ cs ops xs:=@λω=>@λψ=>@λχ=>@λϕ=>@λϱ=>@λς=>match ω,ψ,χ,ϕ,ϱ,ς with
 | .nil,J,ζ,η,θ,h=>e_l0 (P:=λops=>CT C d _ .nil ops _) h λh=>e_l0 (P:=λxs=>CT C d _ .nil [] xs) h λJ=>⟨λq=>False.elim q,λq=>False.elim q⟩
 | .cons J ζ η,θ,[],μ,ν,h=>ffT h
 | .cons J ζ η,θ,μ::ν,[],ξ,h=>ffT h
 | .cons o e cs,J,op::ops,x::xs,hG,h=>have q:=an4 h;odT q.1.1.1▸ct_cons W (aM e hG q.1.1.2).1 q.2 (snd_C cs hG q.2)
theorem snd_O:∀(o:Eo) {Γ:Blk} {x:Option Expr},okB Γ=true->ckO N Γ o x=true->IHO C d Γ o x:=@λω=>@λψ=>@λχ=>@λϕ=>@λϱ=>match ω,ψ,χ,ϕ,ϱ with
 | .none,J,none,ζ,η=>ev_none W
 | .none,J,some ζ,η,h=>ffT h
 | .some J,ζ,none,η,h=>ffT h
 | .some e,J,some ζ,hG,h=>ev_some W (aM e hG h).1
theorem snd_I:∀(it:It) {Γ:Blk} {x:Expr},okB Γ=true->ckI N Γ it x=true->IHI C d Γ it x:=@λω=>@λψ=>@λχ=>@λϕ=>@λϱ=>match ω,ψ,χ,ϕ,ϱ with
 | .plain e,J,ζ,hG,h=>⟨λJ J=>it_plain W (aM e hG h).1⟩
 | .range1 e,J,ζ,hG,h=>e_F h λp J pos hx hs=>e_l1 (P:=λxs=>IHI C d _ _ (.Call (.Name "range" p) xs [] pos)) hs λJ g=>⟨λJ J=>it_range1 W M hG hx (aM e hG (an2 g).1).1 (an2 g).2⟩
 | .range2 e f,J,ζ,hG,h=>e_F h λp J pos hx hs=>e_l2 (P:=λxs=>IHI C d _ _ (.Call (.Name "range" p) xs [] pos)) hs λJ J g=>have q:=an4 g;⟨λJ J=>it_range2 W M hG hx (aM e hG q.1.1.1).1 q.1.1.2 (aM f hG q.1.2).1 q.2⟩
 | .enum e,J,ζ,hG,h=>e_F h λp J pos hx hs=>e_l1 (P:=λxs=>IHI C d _ _ (.Call (.Name "enumerate" p) xs [] pos)) hs λJ g=>⟨λht hT=>it_enum W M hG hx (aM e hG (an2 g).1).1 (an2 g).2 (tg_tuple ht hT)⟩
end
end
noncomputable def ownE (env:Env) (b:Addr):Prop:=b=env.locals\/∃x,env.cells.lookup x=some b
structure AftE (C:Cfg) (p:Nat) (env:Env) (ρ:Ro) (s s':Shared) (ρ':Ro):Prop where
 rest:s'={ s with heap:=s'.heap,toks:=s'.toks }
 pin:∀(j:Nat) (as:List Addr),j<p->ρ[j]?=some as->∃more,ρ'[j]?=some (as++more)
 fresh:∀a∈ρ'.flatten,a∈ρ.flatten\/(s.heap.get? a=none/\a≠C.P)
 frm:∀b o,s.heap.get? b=some o->b∉ρ.flatten->b≠C.P->¬ownE env b->s'.heap.get? b=some o
 own:∀b,ownE env b->∃o,s'.heap.get? b=some o
theorem chg.own {Γ:Blk} {env:Env} {xs:List Str} {b:Addr} (q:chg Γ env xs b):ownE env b:=q.imp id λq=>q.elim λx q=>q.elim λc q=>⟨x,q.2.2.2▸q.2.2.1⟩
section
variable {C:Cfg} {Γ:Blk} {env:Env} {m:Lo} {ρ:Ro} {h:Heap}
theorem EnvR.there (e:EnvR C Γ env m ρ h) (b:Addr) (hb:ownE env b):∃o,h.get? b=some o:=
 hb.elim (λz=>e.loc.elim λmc q=>z▸(ns_data q.1).imp λJ q=>q.1) λz=>z.elim λx hx=>(e.sepC x b hx).2.2.2.elim λv q=>q.imp λJ q=>q.1
theorem EnvR.out (e:EnvR C Γ env m ρ h) (b:Addr) (hb:ownE env b):b∉ρ.flatten/\C.hb.get? b=none/\∀ob,h.get? b=some ob->plainO ob:=
 hb.elim (λz=>e.loc.elim λmc q=>z▸⟨e.sepL.1,e.sepL.2,λob y=>plain_ns q.1 y⟩) λz=>z.elim λx hx=>have y:=e.sepC x b hx;⟨y.1,y.2.1,λob z=>y.2.2.2.elim λv q=>plain_cell q z⟩
theorem EnvR.keep {h':Heap} (e:EnvR C Γ env m ρ h) (k:∀b o,ownE env b->h.get? b=some o->h'.get? b=some o) (ht:TupK h h'):EnvR C Γ env m ρ h':=
 ⟨e.sc,e.glob,e.bui,e.sepL,e.loc.imp λmc q=>⟨q.1.at' λo=>k _ o (.inl rfl),λi n v g1 g2 g3=>(q.2 i n v g1 g2 g3).imp λV z=>⟨z.1,z.2.mono (λJ J y=>y) ht _⟩⟩,
  λn c g=>have z:=e.sepC n c g;⟨z.1,z.2.1,z.2.2.1,z.2.2.2.imp λv y=>y.imp λo y=>⟨k _ o (.inr ⟨n,g⟩) y.1,y.2⟩⟩,
  λi n v g1 g2 g3=>(e.celv i n v g1 g2 g3).imp λc z=>z.imp λV z=>⟨z.1,z.2.1.imp λo y=>⟨k _ o (.inr ⟨n,z.1⟩) y.1,y.2⟩,z.2.2.mono (λJ J y=>y) ht _⟩,e.celd,e.celh,e.cod⟩
end
theorem AftE.refl {C:Cfg} {p:Nat} {env:Env} {Γ:Blk} {m:Lo} {ρ:Ro} {s:Shared} (e:EnvR C Γ env m ρ s.heap):AftE C p env ρ s s ρ:=⟨rfl,λj as J h=>Grw.refl ρ j as h,λJ h=>.inl h,λJ J e J J J=>e,e.there⟩
theorem AftE.of {C:Cfg} {p:Nat} {env:Env} {Γ:Blk} {m:Lo} {ρ ρ':Ro} {s s':Shared} (a:Aft C ρ s s' ρ') (e:EnvR C Γ env m ρ' s'.heap):AftE C p env ρ s s' ρ':=by
 exact ⟨a.rest,λj as J h=>a.ext j as h,a.fresh,λb o e hb hp J=>a.frm b o e hb hp,e.there⟩
theorem AftE.trans {C:Cfg} {p p':Nat} {env:Env} {ρ ρ₁ ρ₂:Ro} {s s₁ s₂:Shared} (a:AftE C p env ρ s s₁ ρ₁) (hp:p<=p') (b:AftE C p' env ρ₁ s₁ s₂ ρ₂):AftE C p env ρ s s₂ ρ₂:=by
 refine ⟨by rw [b.rest,a.rest],λj as hj h=>?_,λx hx=>(b.fresh x hx).elim (a.fresh x) λq=>?_,λx o e hx hP ho=>b.frm x o (a.frm x o e hx hP ho) (λq=>(a.fresh x q).elim hx λz=>noE z.1 e) hP ho,b.own⟩
 ·exact (a.pin j as hj h).elim λm1 h1=>(b.pin j _ (Nat.lt_of_lt_of_le hj hp) h1).elim λm2 h2=>⟨m1++m2,by rw [<-List.append_assoc];exact h2⟩
 ·by_cases hm:x∈ρ.flatten
  ·exact .inl hm
  ·refine .inr ⟨?_,q.2⟩
   cases hq:s.heap.get? x with
   | none=>rfl
   | some o=>
    by_cases ho:ownE env x
    ·exact (a.own x ho).elim λJ z=>noE q.1 z
    ·exact noE q.1 (a.frm x o hq hm q.2 ho)
noncomputable def FlR (h:Heap) (rf gf:Rf):Fl->Flow->Prop:=λω ψ=>match ω,ψ with
 | .next,f=>f=.next
 | .cont,f=>f=.cont
 | .ret v,f=>∃V,f=.ret V/\VR h rf gf v V
noncomputable def ContS (C:Cfg) (p:Nat) (Γ:Blk) (env:Env) (ρ:Ro) (s:Shared) (Φ:Fl->Lo->St->Prop) (Q:Flow->Shared->Prop):Prop:=
 ∀f s' ρ' fl m' σ',AftE C p env ρ s s' ρ'->EnvR C Γ env m' ρ' s'.heap->Rel C ρ' σ' s'.heap->Bas C s'.heap->FlR s'.heap (ab ρ') C.gf fl f->Φ fl m' σ'->Q f s'
theorem ContS.from {C:Cfg} {p p':Nat} {Γ:Blk} {env:Env} {ρ ρ₁:Ro} {s s₁:Shared} {Φ:Fl->Lo->St->Prop} {Q:Flow->Shared->Prop} (k:ContS C p Γ env ρ s Φ Q) (hp:p<=p') (a:AftE C p env ρ s s₁ ρ₁):ContS C p' Γ env ρ₁ s₁ Φ Q:=
 λf s' ρ' fl m' σ' b e R L hf q=>k f s' ρ' fl m' σ' (a.trans hp b) e R L hf q
noncomputable abbrev IHSt (C:Cfg) (d:Nat) (Γ:Blk) (t:S) (x:Stmt):Prop:=∀{p:Nat} {m:Lo} {σ:St} {Φ:Fl->Lo->St->Prop},evS C.τ (vcA C d) t p m σ Φ->∀env A s ρ (Q:Flow->Shared->Prop),EnvR C Γ env m ρ s.heap->OKA A d->Rel C ρ σ s.heap->Bas C s.heap->ContS C p Γ env ρ s Φ Q ->
 wpAny (model C.prog C.w) A (exec x env) Q (λJ J=>False) s
noncomputable abbrev IHSs (C:Cfg) (d:Nat) (Γ:Blk) (t:Ss) (xs:List Stmt):Prop:=∀{p:Nat} {m:Lo} {σ:St} {Φ:Fl->Lo->St->Prop},aA C.τ (vcA C d) t p m σ Φ->∀env A s ρ (Q:Flow->Shared->Prop),EnvR C Γ env m ρ s.heap->OKA A d->Rel C ρ σ s.heap->Bas C s.heap->ContS C p Γ env ρ s Φ Q ->
 wpAny (model C.prog C.w) A (execs xs env) Q (λJ J=>False) s
section
variable {C:Cfg} {N:Nms} (W:CfgOK C) (M:NmsOK C N) {Γ:Blk} {d:Nat}
include W
theorem inter_at {env:Env} {m:Lo} {ρ:Ro} {h:Heap} (hG:okB Γ=true) (e:EnvR C Γ env m ρ h):interactive env=false/\env.blockKind=.function:=by
 let _:=W
 unfold interactive Env.blockKind
 rw [e.fn hG]
 exact ⟨rfl,rfl⟩
noncomputable def notComp (x:Expr):Bool:=x.ctorIdx != 8&&x.ctorIdx != 9&&x.ctorIdx != 10
theorem st_nil:IHSs C d Γ .nil []:=by
 intro p m σ Φ q env A s ρ Q e hA R L k
 exact wpAny_execs_nil (k .next s ρ .next m σ (AftE.refl e) e R L rfl q)
theorem st_cons {t:S} {ts:Ss} {x:Stmt} {xs:List Stmt} (it:IHSt C d Γ t x) (its:IHSs C d Γ ts xs):IHSs C d Γ (.cons t ts) (x::xs):=by
 intro p m σ Φ q env A s ρ Q e hA R L k
 refine wpAny_execs_cons (it q env A s ρ _ e hA R L λf s₁ ρ₁ fl m₁ σ₁ a₁ e₁ R₁ L₁ hf q=>?_)
 cases fl with
 | next=>rw [show f=.next from hf];exact its q env A s₁ ρ₁ Q e₁ hA R₁ L₁ (k.from (Nat.le_refl _) a₁)
 | cont=>rw [show f=.cont from hf];exact k .cont s₁ ρ₁ .cont m₁ σ₁ a₁ e₁ R₁ L₁ rfl q
 | ret v=>obtain ⟨V,rfl,hv⟩:=hf;exact k (.ret V) s₁ ρ₁ (.ret v) m₁ σ₁ a₁ e₁ R₁ L₁ ⟨V,rfl,hv⟩ q
theorem st_cont {p:Pos}:IHSt C d Γ .cont (.Continue p):=by
 intro p m σ Φ q env A s ρ Q e hA R L k
 exact wpAny_Continue (k .cont s ρ .cont m σ (AftE.refl e) e R L rfl q)
theorem st_expr (hG:okB Γ=true) {e:E} {x:Expr} {p:Pos} (ie:IHE C d Γ e x) (hx:notComp x=true):IHSt C d Γ (.expr e) (.Expr x p):=by
 intro p m σ Φ q env A s ρ Q e' hA R L k
 refine wpAny_Expr_any (ie q env A s ρ _ e' hA R L λV s₁ ρ₁ v σ₁ a₁ R₁ L₁ hv q=>?_) (inter_at W hG e').1 (by cases x<;>first | rfl | exact ffT hx)
 have e₁:=e'.aft W.box R L a₁
 exact k .next s₁ ρ₁ .next m σ₁ (AftE.of a₁ e₁) e₁ R₁ L₁ rfl q
theorem st_ret {e:E} {x:Expr} {p:Pos} (ie:IHE C d Γ e x):IHSt C d Γ (.ret e) (.Return (some x) p):=by
 intro p m σ Φ q env A s ρ Q e' hA R L k
 refine wpAny_Return_some (ie q env A s ρ _ e' hA R L λV s₁ ρ₁ v σ₁ a₁ R₁ L₁ hv q=>?_)
 have e₁:=e'.aft W.box R L a₁
 exact k (.ret V) s₁ ρ₁ (.ret v) m σ₁ (AftE.of a₁ e₁) e₁ R₁ L₁ ⟨V,rfl,hv⟩ q
theorem st_ret0 {p:Pos}:IHSt C d Γ (.ret (.lit .none)) (.Return none p):=by
 intro p m σ Φ q env A s ρ Q e hA R L k
 exact wpAny_Return_none (k (.ret .none) s ρ (.ret .none) m σ (AftE.refl e) e R L ⟨_,rfl,rfl⟩ q)
theorem st_ite {c:E} {a b:Ss} {x:Expr} {xs ys:List Stmt} {p:Pos} (ic:IHT C d Γ c x) (ia:IHSs C d Γ a xs) (ib:IHSs C d Γ b ys):IHSt C d Γ (.ite c a b) (.If x xs ys p):=by
 intro p m σ Φ q env A s ρ Q e hA R L k
 refine wpAny_If (ic (Φ:=λt σ=>ifK t (aA C.τ (vcA C d) a p m σ Φ) (aA C.τ (vcA C d) b p m σ Φ)) q env A s ρ _ e hA R L λt s₁ ρ₁ σ₁ a₁ R₁ L₁ q=>?_)
 have e₁:=e.aft W.box R L a₁
 cases t with
 | true=>exact ia q env A s₁ ρ₁ Q e₁ hA R₁ L₁ (k.from (Nat.le_refl _) (AftE.of a₁ e₁))
 | false=>exact ib q env A s₁ ρ₁ Q e₁ hA R₁ L₁ (k.from (Nat.le_refl _) (AftE.of a₁ e₁))
theorem aftE_bind {p:Nat} {env:Env} {m':Lo} {ρ:Ro} {s:Shared} {h':Heap} {tk:Nat} {xs:List Str} (kp:∀b o,¬chg Γ env xs b->s.heap.get? b=some o->h'.get? b=some o) (e':EnvR C Γ env m' ρ h'):AftE C p env ρ s { s with heap:=h',toks:=tk } ρ:=
 ⟨rfl,λj as J h=>Grw.refl ρ j as h,λJ h=>.inl h,λb o ho J J hn=>kp b o (λz=>hn z.own) ho,e'.there⟩
theorem exec_asg {A:Around} {E:Value->Shared->Prop} {s:Shared} {env:Env} {tg value:Expr} {pos:Pos} {Q:Flow->Shared->Prop}
  (h:wpAny (model C.prog C.w) A (eval value env) (λv s₁=>wpAny (model C.prog C.w) A (assign tg env v) (λJ=>Q .next) E s₁) E s)
  (ht:∃b,assignEach [tg] env=[(b,assign tg env)]) (hs:swapsWith value (some tg) pos.line env=pure false) (hw:swappedStores [tg] value env=pure none):wpAny (model C.prog C.w) A (exec (.Assign [tg] value pos) env) Q E s:=by
 rw [exec_Assign]
 refine wpAny_bind (wpAny_standAt ?_)
 rw [show swapsWithSole [tg] value pos.line env=swapsWith value (some tg) pos.line env from rfl,hs]
 refine wpAny_bind (wpAny_pure ?_)
 rw [if_neg (by decide)]
 refine wpAny_bind (wpAny_mono h (λv s₁ h₁=>?_) λJ J x=>x)
 rw [hw]
 refine wpAny_bind (wpAny_pure ?_)
 obtain ⟨b,hb⟩:=ht
 rw [hb]
 show wpAny _ A (do assignAll v [assign tg env];pure .next) Q E s₁
 exact wpAny_bind (wpAny_mono h₁ (λJ J x=>wpAny_pure x) λJ J x=>x)
end
noncomputable def pureOf {α:Type} (t:Sem α):Option α:=dite (t.ctorIdx=0) (λh=>PySem.Sem.pure.elim t h some) λJ=>none
theorem pureOf_at {α:Type} {t:Sem α} {a:α} (h:pureOf t=some a):t=pure a:=by
 unfold pureOf at h
 by_cases hc:t.ctorIdx=0
 ·rw [dif_pos hc] at h
  exact PySem.Sem.pure.elim (motive:=λt=>∀hc:t.ctorIdx=0,PySem.Sem.pure.elim t hc some=some a->t=pure a) t hc (λb J h=>congrArg PySem.Sem.pure (Option.some.inj h)) hc h
 ·rw [dif_neg hc] at h;cases h
noncomputable def dmE (scp:Scope):Env:={ scope:=scp,locals:=0,globals:=0,cells:=[] }
theorem swapped_scope {env:Env} {scp:Scope} (h:env.scope=scp) (ts:List Expr) (v:Expr):swappedStores ts v env=swappedStores ts v (dmE scp):=by
 subst h
 unfold swappedStores Env.kindOf Env.blockKind dmE
 rfl
theorem swaps_scope {env:Env} {scp:Scope} (h:env.scope=scp) (v:Expr) (t:Option Expr) (l:Nat):swapsWith v t l env=swapsWith v t l (dmE scp):=by
 subst h
 unfold swapsWith Env.kindOf Env.blockKind dmE
 rfl
theorem go_len:∀{ks:List Nat} {vs:List AV} {m m':Lo},aw.go ks vs m=some m'->m'.length=m.length:=@λω=>@λψ=>@λχ=>@λϕ=>@λϱ=>match ω,ψ,χ,ϕ,ϱ with
 | [],J,ζ,η,h=>congrArg List.length (Option.some.inj h).symm
 | J::ζ,[],η,θ,h=>congrArg List.length (Option.some.inj h).symm
 | k::ks,v::vs,m,m',h=>(go_len (iteS h).2).trans List.length_set
theorem go_comm {k:Nat} {x:Option AV}:∀{ks:List Nat} {vs:List AV} {m:Lo},k∉ks->aw.go ks vs (m.set k x)=(aw.go ks vs m).map (λJ=>J.set k x):=@λω=>@λψ=>@λχ=>@λϕ=>match ω,ψ,χ,ϕ with
 | [],J,ζ,η=>rfl
 | J::ζ,[],η,θ=>rfl
 | j::ks,v::vs,m,h=>by
  show (if j<(m.set k x).length then aw.go ks vs ((m.set k x).set j (some v)) else none)=(if j<m.length then aw.go ks vs (m.set j (some v)) else none).map (λJ=>J.set k x)
  rw [List.length_set]
  split
  ·rw [List.set_comm _ _ (show k≠j from λq=>h (q▸List.mem_cons_self)),go_comm λq=>h (.tail _ q)]
  ·rfl
theorem go_app:∀{ks ks2:List Nat} {vs vs2:List AV} {m:Lo},ks.length=vs.length->aw.go (ks++ks2) (vs++vs2) m=(aw.go ks vs m).bind (aw.go ks2 vs2):=@λω=>@λψ=>@λχ=>@λϕ=>@λϱ=>@λς=>match ω,ψ,χ,ϕ,ϱ,ς with
 | [],J,[],ζ,η,θ=>rfl
 | [],J,ζ::η,θ,μ,h=>Nat.noConfusion h
 | J::ζ,η,[],θ,μ,h=>Nat.noConfusion h
 | k::ks,ks2,v::vs,vs2,m,h=>by
  show (if k<m.length then aw.go (ks++ks2) (vs++vs2) (m.set k (some v)) else none)=(if k<m.length then aw.go ks vs (m.set k (some v)) else none).bind (aw.go ks2 vs2)
  split
  ·exact go_app (Nat.succ.inj h)
  ·rfl
theorem go_rev:∀{ks:List Nat} {vs:List AV} {m m':Lo},ks.Nodup->ks.length=vs.length->aw.go ks vs m=some m'->aw.go ks.reverse vs.reverse m=some m':=@λω=>@λψ=>@λχ=>@λϕ=>@λϱ=>@λς=>@λϑ=>match ω,ψ,χ,ϕ,ϱ,ς,ϑ with
 | [],[],J,ζ,η,θ,h=>h
 | [],J::ζ,η,θ,μ,h,ν=>Nat.noConfusion h
 | J::ζ,[],η,θ,μ,h,ν=>Nat.noConfusion h
 | k::ks,v::vs,m,m',hn,hl,h=>by
  have hn:=List.nodup_cons.mp hn
  have h1:=iteS h
  rw [go_comm hn.1] at h1
  obtain ⟨m1,h2,rfl⟩:=Option.map_eq_some_iff.mp h1.2
  have hl:=Nat.succ.inj hl
  rw [List.reverse_cons,List.reverse_cons,go_app (by rw [List.length_reverse,List.length_reverse];exact hl),go_rev hn.2 hl h2]
  exact if_pos (go_len h2▸h1.1)
theorem distinctN_nodup:∀{l:List Nat},distinctN l=true->l.Nodup:=@λω=>@λψ=>match ω,ψ with
 | [],J=>List.nodup_nil
 | x::l,h=>List.nodup_cons.mpr ⟨λq=>Bool.false_ne_true ((notE (an2 h).1).symm.trans (List.contains_iff_mem.mpr q)),distinctN_nodup (an2 h).2⟩
section
variable {C:Cfg} {N:Nms} (W:CfgOK C) (M:NmsOK C N) {Γ:Blk} {d:Nat}
include W
theorem st_asgN (hG:okB Γ=true) {t:T} {e:E} {x tg:Expr} {pos:Pos} (hT:ckT Γ t tg=true) (ie:IHE C d Γ e x) (hs:pureOf (swapsWith x (some tg) pos.line (dmE Γ.scp))=some false) (hw:pureOf (swappedStores [tg] x (dmE Γ.scp))=some none):
  IHSt C d Γ (.asg (.nm t) e) (.Assign [tg] x pos):=by
 intro p m σ Φ q env A s ρ Q e' hA R L k
 refine exec_asg W (ie q env A s ρ _ e' hA R L λV s₁ ρ₁ v σ₁ a₁ R₁ L₁ hv q=>(az q).elim λm' h=>?_) ?_ (by rw [swaps_scope e'.sc];exact pureOf_at hs) (by rw [swapped_scope e'.sc];exact pureOf_at hw)
 ·have e₁:=e'.aft W.box R L a₁
  exact p_bind W hG hA.hd hT h.1 e₁ R₁ L₁ hv λh' tk kp J e₂ R₂ L₂=>k .next _ ρ₁ .next m' σ₁ ((AftE.of a₁ e₁).trans (Nat.le_refl _) (aftE_bind W kp e₂)) e₂ R₂ L₂ rfl h.2
 ·cases t with
  | v J=>exact e_Name (P:=λtg=>∃b,assignEach [tg] env=[(b,assign tg env)]) hT λJ J J=>⟨_,rfl⟩
  | tup J=>exact e_Tuple (P:=λtg=>∃b,assignEach [tg] env=[(b,assign tg env)]) hT λJ J J J=>⟨_,rfl⟩
theorem st_binds (hG:okB Γ=true) {ρ:Ro} {σ:St} {A:Around} {env:Env} {E:Value->Shared->Prop} {Q:Unit->Shared->Prop}:∀(ks:List Nat) (xs:List Str) (vs:List AV),ks.length=xs.length->vs.length=ks.length->(∀(i k:Nat) (x:Str),ks[i]?=some k->xs[i]?=some x->Γ.vis.lookup k=some x) ->
  ∀(Vs:List Value) (m m':Lo) (s:Shared),VRs s.heap (ab ρ) C.gf vs Vs->aw.go ks vs m=some m'->EnvR C Γ env m ρ s.heap->Rel C ρ σ s.heap->Bas C s.heap->AftB C Γ env xs m' ρ σ s Q ->
  wpAny (model C.prog C.w) A (assignInOrder (xs.map λx=>bindName env x) Vs) Q E s:=λω ψ χ ϕ ϱ ς=>match ω,ψ,χ,ϕ,ϱ,ς with
 | [],[],[],J,ζ,η=>λVs m m' s hv hb e R L K=>by
  obtain rfl:Vs=[]:=hv
  obtain rfl:m=m':=Option.some.inj hb
  exact wpAny_assignInOrder_none (K s.heap s.toks (λJ J J q=>q) (λJ J q J=>q) e R L)
 | [],J::ζ,η,h,θ,μ=>Nat.noConfusion h
 | J::ζ,[],η,h,θ,μ=>Nat.noConfusion h
 | [],[],J::ζ,η,h,θ=>Nat.noConfusion h
 | J::ζ,η::θ,[],μ,h,ν=>Nat.noConfusion h
 | k::ks,x::xs,v::vs,hkx,hl,hvis=>λVs m m' s hv hb e R L K=>by
  obtain ⟨V,r,rfl,hv1,hv2⟩:=hv
  refine wpAny_assignInOrder_more (wpAny_bindName (st_store W hG (hvis 0 k x rfl rfl) e R L hv1 λh₁ tk₁ kp ht e₁ R₁ L₁=>?_))
  exact st_binds hG ks xs vs (Nat.succ.inj hkx) (Nat.succ.inj hl) (λi k x h1 h2=>hvis (i+1) k x h1 h2) r _ m' { s with heap:=h₁,toks:=tk₁ } (hv2.mono (λJ J q=>q) ht _) (iteS hb).2 e₁ R₁ L₁ λh' tk kp' ht'=>K h' tk (λb o hb q=>
   kp' b o (λz=>hb (z.mono λy q=>.tail _ q)) (kp b o (λz=>hb (z.mono λy q=>List.mem_singleton.mp q▸.head _)) q)) λa o q c=>ht' a o (ht a o q c) c
omit W in
theorem ckT_vis:∀{ks:List Nat} {xs:List Expr},l22 (ckN Γ) ks xs=true->ks.length=(nmsOf xs).length/\∀(i k:Nat) (x:Str),ks[i]?=some k->(nmsOf xs)[i]?=some x->Γ.vis.lookup k=some x:=@λω=>@λψ=>@λχ=>match ω,ψ,χ with
 | [],[],J=>⟨rfl,λJ J J h=>nomatch h⟩
 | [],J::ζ,h=>ffT h
 | J::ζ,[],h=>ffT h
 | k::ks,J::xs,h=>have q:=ckT_vis (an2 h).2
  e_Name (P:=λx=>(k::ks).length=(nmsOf (x::xs)).length/\∀(i k':Nat) (y:Str),(k::ks)[i]?=some k'->(nmsOf (x::xs))[i]?=some y->Γ.vis.lookup k'=some y) (an2 h).1 λn p h=>
   ⟨congrArg Nat.succ q.1,λi k' x'=>match i with
    | 0=>λg1 g2=>Option.some.inj g1▸Option.some.inj g2▸odT h
    | i+1=>q.2 i k' x'⟩
set_option tactic.hygienic true in
theorem st_asgW (hG:okB Γ=true) {ks:List Nat} {e:E} {x:Expr} {xs:List Expr} {n:Nat} {tp pos:Pos} {names:List Str} (hT:ckT Γ (.tup ks) (.Tuple xs n tp)=true) (ie:IHE C d Γ e x) (hs:pureOf (swapsWith x (some (.Tuple xs n tp)) pos.line (dmE Γ.scp))=some false)
  (hw:pureOf (swappedStores [.Tuple xs n tp] x (dmE Γ.scp))=some (some names)) (hn:names=tgN (.Tuple xs n tp)) (hd:distinctN ks=true):
  IHSt C d Γ (.asg (.nm (.tup ks)) e) (.Assign [.Tuple xs n tp] x pos):=by
 intro p m σ Φ q env A s ρ Q e' hA R L k
 refine Assign_Tuple_swapped (names:=names) (ie q env A s ρ _ e' hA R L λV s₁ ρ₁ v σ₁ a₁ R₁ L₁ hv q=>?_) (by show swapsWith x (some (.Tuple xs n tp)) pos.line env=pure false;rw [swaps_scope e'.sc];exact pureOf_at hs) (by rw [swapped_scope e'.sc];exact pureOf_at hw)
 refine (az q).elim λm' h=>?_
 have e₁:=e'.aft W.box R L a₁
 have g:=ckT_vis (an2 hT).1
 cases v<;>first | exact ae h.1 | skip
 rename_i vs
 have hlen:=(iteS h.1).1
 obtain ⟨t,items,rfl,ht,hvs⟩:=hv
 have hl2:names.length=ks.length:=hn▸g.1.symm
 rw [hl2.trans (hlen.trans hvs.size.symm)]
 refine wpAny_unpackItems_tuple hA.hd ht λh' kx=>?_
 have kp:∀b o,s₁.heap.get? b=some o->h'.get? b=some o:=λb o q=>kx b o (Nat.ne_of_lt (Heap.lt_size q)) q
 have a2:=aE (s:=s₁) (tk:=s₁.toks) W.box R₁ L₁ kp
 have e₂:=e₁.aft W.box R₁ L₁ a2.1
 refine st_binds W hG ks.reverse names.reverse vs.reverse (by rw [List.length_reverse,List.length_reverse,hl2]) (by rw [List.length_reverse,List.length_reverse,hlen]) (λi k x q1 q2=>?_) items.toList.reverse m m' { s₁ with heap:=h' }
  (hvs.mono (λJ J q=>q) (λa o q J=>kp a o q) _).reverse (go_rev (distinctN_nodup hd) hlen (iteS h.1).2) e₂ a2.2.1 a2.2.2 λh₂ tk₂ kp₂ J e₃ R₃ L₃=>
   k .next _ ρ₁ .next m' σ₁ ((AftE.of (a₁.trans a2.1) e₂).trans (Nat.le_refl _) (aftE_bind W kp₂ e₃)) e₃ R₃ L₃ rfl h.2
 have hi:i<ks.length:=List.length_reverse▸(List.getElem?_eq_some_iff.mp q1).1
 rw [List.getElem?_reverse hi] at q1
 rw [List.getElem?_reverse (hl2▸hi),hl2] at q2
 exact g.2 _ k x q1 ((show names=nmsOf xs from hn)▸q2)
end
set_option tactic.hygienic true in
theorem tup2F {a:AV} {f:AV->AV->Prop} {P:AV->Prop} (q:match a with | .tup [x,y]=>f x y | J=>False) (k:∀x y,f x y->P (.tup [x,y])):P a:=by
 cases a<;>first | exact q.elim | skip
 rename_i l
 rcases l with _ | ⟨x,_ | ⟨y,_ | ⟨_,_⟩⟩⟩<;>first | exact k _ _ q | exact q.elim
section
variable {C:Cfg} {N:Nms} (W:CfgOK C) (M:NmsOK C N) {Γ:Blk} {d:Nat}
include W
theorem st_sub {o i e:E} {x a b:Expr} {sp pos:Pos} (ie:IHE C d Γ e x) (io:IHE C d Γ o a) (ii:IHE C d Γ i b):IHSt C d Γ (.asg (.sub o i) e) (.Assign [.Subscript a b sp] x pos):=by
 intro p m σ Φ q env A s ρ Q e' hA R L k
 refine wpAny_Assign_Subscript (ie q env A s ρ _ e' hA R L λV s₁ ρ₁ v σ₁ a₁ R₁ L₁ hv q=>?_) (by cases x<;>rfl)
 have e₁:=e'.aft W.box R L a₁
 refine io q env A s₁ ρ₁ _ e₁ hA R₁ L₁ λO s₂ ρ₂ ov σ₂ a₂ R₂ L₂ ho q=>?_
 have e₂:=e₁.aft W.box R₁ L₁ a₂
 refine ii q env A s₂ ρ₂ _ e₂ hA R₂ L₂ λI s₃ ρ₃ iv σ₃ a₃ R₃ L₃ hi q=>?_
 have e₃:=e₂.aft W.box R₂ L₂ a₃
 refine p_setI W R₃ L₃ (VR.aft W.box R₂ L₂ a₃ ho) hi (VR.aft W.box R₁ L₁ (a₂.trans a₃) hv) q λs₄ ρ₄ σ₄ a₄ R₄ L₄ q=>?_
 have e₄:=e₃.aft W.box R₃ L₃ a₄
 exact k .next s₄ ρ₄ .next m σ₄ (AftE.of (a₁.trans (a₂.trans (a₃.trans a₄))) e₄) e₄ R₄ L₄ rfl q
theorem st_attr {o e:E} {n:Nat} {x a:Expr} {y:Str} {sp pos:Pos} (ie:IHE C d Γ e x) (io:IHE C d Γ o a) (hn:(y==NM n)=true):IHSt C d Γ (.asg (.attr o n) e) (.Assign [.Attribute a y sp] x pos):=by
 obtain rfl:=eq_of_beq hn
 intro p m σ Φ q env A s ρ Q e' hA R L k
 refine plainObj_wpAny_Assign_Attribute (ie q env A s ρ _ e' hA R L λV s₁ ρ₁ v σ₁ a₁ R₁ L₁ hv q=>?_) (by cases x<;>rfl)
 have e₁:=e'.aft W.box R L a₁
 refine io q env A s₁ ρ₁ _ e₁ hA R₁ L₁ λO s₂ ρ₂ ov σ₂ a₂ R₂ L₂ ho q=>?_
 have e₂:=e₁.aft W.box R₁ L₁ a₂
 refine p_setA W R₂ L₂ ho (VR.aft W.box R₁ L₁ a₂ hv) q λs₄ ρ₄ σ₄ a₄ R₄ L₄ q=>?_
 have e₄:=e₂.aft W.box R₂ L₂ a₄
 exact k .next s₄ ρ₄ .next m σ₄ (AftE.of (a₁.trans (a₂.trans a₄)) e₄) e₄ R₄ L₄ rfl q
theorem asg_sub {o i:E} {a b:Expr} {sp:Pos} (io:IHE C d Γ o a) (ii:IHE C d Γ i b) {m:Lo} {σ:St} {v:AV} {Φ:St->Prop} (q:evE C.τ (vcA C d) o m σ λov σ=>evE C.τ (vcA C d) i m σ λiv σ=>setIK (vcA C d) ov iv v σ Φ) {env:Env} {A:Around} {s:Shared} {ρ:Ro} {V:Value} {Q:Unit->Shared->Prop}
  (e:EnvR C Γ env m ρ s.heap) (hA:OKA A d) (R:Rel C ρ σ s.heap) (L:Bas C s.heap) (hv:VR s.heap (ab ρ) C.gf v V) (k:ContU C ρ s Φ Q):wpAny (model C.prog C.w) A (assign (.Subscript a b sp) env V) Q (λJ J=>False) s:=by
 rw [arm_assign_Subscript]
 refine wpAny_bind (wpAny_holding (io q env A s ρ _ e hA R L λO s₂ ρ₂ ov σ₂ a₂ R₂ L₂ ho q=>?_))
 have e₂:=e.aft W.box R L a₂
 refine wpAny_bind (wpAny_holding (ii q env A s₂ ρ₂ _ e₂ hA R₂ L₂ λI s₃ ρ₃ iv σ₃ a₃ R₃ L₃ hi q=>?_))
 refine wpAny_bind (wpAny_standAt (wpAny_bind (wpAny_holding ?_)))
 refine p_setI W R₃ L₃ (VR.aft W.box R₂ L₂ a₃ ho) hi (VR.aft W.box R L (a₂.trans a₃) hv) q λs₄ ρ₄ σ₄ a₄ R₄ L₄ q=>release_of W ?_
 exact k s₄ ρ₄ σ₄ (a₂.trans (a₃.trans a₄)) R₄ L₄ q
theorem st_subs {o i o' i' e:E} {x a b a' b':Expr} {n:Nat} {sp sp' tp pos:Pos} (ie:IHE C d Γ e x) (io:IHE C d Γ o a) (ii:IHE C d Γ i b) (io':IHE C d Γ o' a') (ii':IHE C d Γ i' b')
  (hs:pureOf (swapsWith x (some (.Tuple [.Subscript a b sp,.Subscript a' b' sp'] n tp)) pos.line (dmE Γ.scp))=some false) (hw:pureOf (swappedStores [.Tuple [.Subscript a b sp,.Subscript a' b' sp'] n tp] x (dmE Γ.scp))=some none):
  IHSt C d Γ (.asg (.subs o i o' i') e) (.Assign [.Tuple [.Subscript a b sp,.Subscript a' b' sp'] n tp] x pos):=by
 intro p m σ Φ q env A s ρ Q e' hA R L k
 refine exec_asg W (ie q env A s ρ _ e' hA R L λV s₁ ρ₁ v σ₁ a₁ R₁ L₁ hv q=>?_) ⟨_,rfl⟩ (by rw [swaps_scope e'.sc];exact pureOf_at hs) (by rw [swapped_scope e'.sc];exact pureOf_at hw)
 have e₁:=e'.aft W.box R L a₁
 revert hv
 refine tup2F (P:=λv=>VR s₁.heap (ab ρ₁) C.gf v V->_) q λu w q hv=>?_
 obtain ⟨t,items,rfl,ht,hvs⟩:=hv
 obtain ⟨U,V',e2,hu,hw'⟩:=VRs.two hvs
 refine wpAny_assign_Tuple hA.hd ht (by rw [<-Array.length_toList,e2];rfl) rfl λh' kx=>?_
 have a2:=aE (s:=s₁) (tk:=s₁.toks) W.box R₁ L₁ λb o q=>kx b o (Nat.ne_of_lt (Heap.lt_size q)) q
 have e₂:=e₁.aft W.box R₁ L₁ a2.1
 rw [e2]
 refine wpAny_assignInOrder_more (asg_sub W io ii q e₂ hA a2.2.1 a2.2.2 (VR.aft W.box R₁ L₁ a2.1 hu) λs₃ ρ₃ σ₃ a₃ R₃ L₃ q=>?_)
 have e₃:=e₂.aft W.box a2.2.1 a2.2.2 a₃
 refine wpAny_assignInOrder_more (asg_sub W io' ii' q e₃ hA R₃ L₃ (VR.aft W.box R₁ L₁ (a2.1.trans a₃) hw') λs₄ ρ₄ σ₄ a₄ R₄ L₄ q=>wpAny_assignInOrder_none ?_)
 have e₄:=e₃.aft W.box R₃ L₃ a₄
 exact k .next s₄ ρ₄ .next m σ₄ (AftE.of (a₁.trans (a2.1.trans (a₃.trans a₄))) e₄) e₄ R₄ L₄ rfl q
theorem st_aug (hG:okB Γ=true) {j:Nat} {e:E} {x:Expr} {y:Str} {np pos:Pos} (hy:Γ.vis.lookup j=some y) (ie:IHE C d Γ e x):IHSt C d Γ (.aug j .add e) (.AugAssign (.Name y np) .Add x pos):=by
 intro p m σ Φ q env A s ρ Q e' hA R L k
 refine (az q).elim λu h=>wpAny_AugAssign_Name (name_load hG hy (getD_some h.1) e' λU hu=>?_)
 refine ie h.2 env A s ρ _ e' hA R L λV s₁ ρ₁ v σ₁ a₁ R₁ L₁ hv q=>?_
 have e₁:=e'.aft W.box R L a₁
 revert hu hv
 refine int2F (P:=λu v=>VR s.heap (ab ρ) C.gf u U->VR s₁.heap (ab ρ₁) C.gf v V->_) q λx y q hu hv=>hu.elim λt z=>hv.elim λt' z'=>z▸z'▸PySem.AutoIntOps.iadd_0 ?_
 have a₂:=aE (s:=s₁) (h':=s₁.heap) (tk:=s₁.toks+1) W.box R₁ L₁ (λJ J z=>z)
 have e₂:EnvR C Γ env m ρ₁ ({ s₁ with toks:=s₁.toks+1 }:Shared).heap:=e₁
 exact st_store (s:={ s₁ with toks:=s₁.toks+1 }) W hG hy e₂ a₂.2.1 a₂.2.2 (v:=.int (x+y)) ⟨_,rfl⟩ λh' tk kp J e₃ R₃ L₃=>
  k .next _ ρ₁ .next _ σ₁ ((AftE.of (a₁.trans a₂.1) e₂).trans (Nat.le_refl _) (aftE_bind W kp e₃)) e₃ R₃ L₃ rfl q
theorem st_comp (hG:okB Γ=true) {elt:E} {t:T} {it:It} {ifs:Es} {vs:List Nat} {x tg iter:Expr} {cs:List Expr} {scope:Scope} {cp np pos:Pos} {k:Nat} {y:Str} (hy:Γ.vis.lookup k=some y)
  (hs:pureOf (swapsWith (.ListComp x [⟨tg,iter,cs,0⟩] scope cp) (some (.Name y np)) pos.line (dmE Γ.scp))=some true)
  (hc:okComp Γ scope vs tg=true) (hT:ckT (inB Γ scope vs tg) t tg=true) (hset:notSet iter=true)
  (hI:∀{m:Lo} {σ:St} {Φ:Src->St->Prop},evI C.τ (vcA C d) it m σ Φ->ItT C d Γ tg iter m σ Φ) (h1:IHLT C d (inB Γ scope vs tg) ifs cs) (h2:IHE C d (inB Γ scope vs tg) elt x):
  IHSt C d Γ (.asg (.nm (.v k)) (.comp elt t it ifs vs)) (.Assign [.Name y np] (.ListComp x [⟨tg,iter,cs,0⟩] scope cp) pos):=by
 intro p m σ Φ q env A s ρ Q e hA R L kk
 rw [exec_Assign]
 refine wpAny_bind (wpAny_standAt ?_)
 rw [show swapsWithSole [.Name y np] (.ListComp x [⟨tg,iter,cs,0⟩] scope cp) pos.line env=swapsWith (.ListComp x [⟨tg,iter,cs,0⟩] scope cp) (some (.Name y np)) pos.line env from rfl,swaps_scope e.sc,pureOf_at hs]
 refine wpAny_bind (wpAny_pure ?_)
 rw [if_pos rfl]
 refine wpAny_bind ?_
 show wpAny _ A (do
  let _ <-comprehension (.ListComp x [⟨tg,iter,cs,0⟩] scope cp) scope env iter.pos (newList []) false (eval iter env) (some λv=>assign (.Name y np) env v)) _ _ s
 refine wpAny_bind ?_
 have q':evI C.τ (vcA C d) it m σ (λsrc σ'=>CompP src t (λm σ k=>evT C.τ (vcA C d) ifs m σ λb σ=>ifK b (evE C.τ (vcA C d) elt m σ λv σ=>k (some v) σ) (k none σ)) (clrs vs m) (σ'++[.list []]) σ'.length λv σ=>optK (vcA C d) (aw (.v k) v m) λm=>Φ .next m σ):=q
 refine p_comp W hG (okComp_at hc) hT hset (hI q') (λm' σ' Φ' h=>step_of W h1 h2 h) e hA R L λV s' ρ' v σ' loc a R' L' hv hΦ l1 l2 l3 hN=>hN.elim λmc hN=>(az hΦ).elim λm' g=>?_
 have hm:=Option.some.inj (iteS g.1).2
 have e₁:=e.aft W.box R L a
 show wpAny _ _ (assign (.Name y np) env V) _ _ _
 refine wpAny_assign_Name (st_store W hG hy e₁ R' L' hv λh₂ tk₂ kp ht e₂ R₂ L₂=>?_)
 have hne:∀b,ownE env b->b≠loc:=λb hb z=>(e.there b hb).elim λo ho=>noE l3 (z▸ho)
 have hN₂:h₂.Ns loc mc:=hN.at' λo ho=>kp loc o (λz=>hne loc z.own rfl) ho
 refine ⟨mc,hN₂,λh₃ sb=>wpAny_pure (wpAny_pure ?_)⟩
 have ht3:TupK h₂ h₃:=λb o z hc=>sb.extBut b o (λy=>(plain_ns hN₂ (y▸z)).2 hc) z
 have R₃:Rel C ρ' σ' h₃:=R₂.out W.box (λb hb o z=>sb.extBut b o (λy=>l1 (y▸hb)) z) ht3
 have L₃:Bas C h₃:=⟨λb o z hb=>sb.extBut b o (λy=>noE l2 (y▸z)) (L₂.keep b o z hb),L₂.lam.kp2 (Kp.of_same sb) (λz=>noE l2 (List.mem_singleton.mp z▸W.hP)) λb hb ob z=>plain_ns hN₂ (List.mem_singleton.mp hb▸z)⟩
 have e₃:EnvR C Γ env (m.set k (some v)) ρ' h₃:=e₂.keep (λb o hb z=>sb.extBut b o (hne b hb) z) ht3
 have b2:=(AftE.of (p:=p) a e₁).trans (Nat.le_refl p) (aftE_bind (tk:=tk₂) W kp e₂)
 exact kk .next { s' with heap:=h₃,toks:=tk₂ } ρ' .next _ σ' ⟨by rw [a.rest],b2.pin,b2.fresh,λb o z h1 h2 h3=>sb.extBut b o (λy=>noE l3 (y▸z)) (b2.frm b o z h1 h2 h3),e₃.there⟩ e₃ R₃ L₃ rfl (hm▸g.2)
end
theorem codeAny_for_any {prog:Program} {w:World} {A:Around} {R:Result->Shared->Prop} {s:Shared} {target:Expr} {body:List Stmt} {it:Value} {env:Env} (I:Nat->Shared->Prop)
  (turn:∀n s,I n s->wpAny (model prog w) A (pyNext it) (λr s₁=>match r with
   | none=>R (.ok .next) s₁
   | some v=>wpAny (model prog w) A (letOwnedTupleGo target it v) (λJ s₁'=>wpAny (model prog w) A (assign target env v) (λJ s₂=>wpAny (model prog w) A (execs body env) (λf s₃=>match f with
     | .next | .cont=>∃m,m<n/\I m s₃
     | .brk=>False
     | .ret v=>R (.ok (.ret v)) s₃) (λJ J=>False) s₂) (λJ J=>False) s₁') (λJ J=>False) s₁) (λJ J=>False) s)
  (n:Nat) (h:I n s):codeAny (model prog w) A (.forLoop target it body [] env) R s:=by
 refine codeAny_loop' rfl I (λn s hI=>?_) n h
 show wpAny _ A ((forTurn target it body [] env).onRaise (λx=>do noteFrame x env;theTreesLotGoes x)) _ _ s
 refine wpAny_noted ?_
 simp only [forTurn]
 refine wpAny_bind (wpAny_standAt (wpAny_bind (wpAny_onRaise (wpAny_mono (turn n s hI) (λr s₁ h₁=>?_) λJ J h'=>h'.elim))))
 cases r with
 | none=>exact wpAny_pure (.inr ⟨rfl,codeAny_block (wpAny_execs_nil h₁)⟩)
 | some v=>
  refine wpAny_bind (wpAny_mono h₁ (λJ s₁' h₁'=>?_) λJ J h'=>h'.elim)
  refine wpAny_bind (wpAny_mono h₁' (λJ s₂ h₂=>wpAny_bind (wpAny_mono h₂ (λf s₃ h₃=>?_) λJ J h'=>h'.elim)) λJ J h'=>h'.elim)
  cases f with
  | next=>exact wpAny_pure (.inl ⟨rfl,h₃⟩)
  | cont=>exact wpAny_pure (.inl ⟨rfl,h₃⟩)
  | brk=>exact h₃.elim
  | ret v=>exact wpAny_pure h₃
section
variable {C:Cfg} {N:Nms} (W:CfgOK C) (M:NmsOK C N) {Γ:Blk} {d:Nat}
include W
omit W in
theorem view_env {p p':Nat} {env:Env} {ρ₀ ρ:Ro} {s₀ s:Shared} {m m2:Lo} {σ σ2:St} (hp:p<=p') (R:Rel C ρ σ s.heap) (e:EnvR C Γ env m ρ s.heap) (V:Vw p' m σ m2 σ2) (a:AftE C p env ρ₀ s₀ s ρ):
  ∃ρ2,Rel C ρ2 σ2 s.heap/\AftE C p env ρ₀ s₀ s ρ2/\EnvR C Γ env m2 ρ2 s.heap/\(∀b∈ρ2.flatten,b∈ρ.flatten)/\(∀j:Nat,j<p'->ρ[j]?≠none->ρ2[j]?=ρ[j]?):=
 (view_rel R V).imp λρ2 q=>⟨q.1,⟨a.rest,λj as hj h=>(a.pin j as hj h).imp λmore h1=>(q.2.2.2 j (Nat.lt_of_lt_of_le hj hp) λz=>nomatch h1.symm.trans z).trans h1,λx hx=>a.fresh x (q.2.1 x hx),a.frm,a.own⟩,
  ⟨e.sc,e.glob,e.bui,⟨λz=>e.sepL.1 (q.2.1 _ z),e.sepL.2⟩,e.loc.imp λmc y=>⟨y.1,λi n v g1 g2 g3=>(q.2.2.1 i v g2).elim λv' g=>(y.2 i n v' g1 g.1 g3).imp λV' z=>⟨z.1,g.2 V' z.2⟩⟩,
   λn c g=>have z:=e.sepC n c g;⟨λy=>z.1 (q.2.1 _ y),z.2⟩,λi n v g1 g2 g3=>(q.2.2.1 i v g2).elim λv' g=>(e.celv i n v' g1 g.1 g3).imp λc z=>z.imp λV' z=>⟨z.1,z.2.1,g.2 V' z.2.2⟩,e.celd,e.celh,e.cod⟩,q.2.1,q.2.2.2⟩
structure FI (C:Cfg) (p:Nat) (Γ:Blk) (env:Env) (ρ:Ro) (s:Shared) (mj:Lo) (σj:St) (ρj:Ro) (s':Shared):Prop where
 a:AftE C p env ρ s s' ρj
 e:EnvR C Γ env mj ρj s'.heap
 R:Rel C ρj σj s'.heap
 L:Bas C s'.heap
variable {p p':Nat} {env:Env} {ρ ρj:Ro} {s s':Shared} {mj:Lo} {σj:St} {src:Src} {it:Value} {own:List Addr} {j:Nat} {A:Around}
omit W in
theorem FI.view {m2:Lo} {σ2:St} (hp:p<=p') (f:FI C p Γ env ρ s mj σj ρj s') (V:Vw p' mj σj m2 σ2):∃ρ2,FI C p Γ env ρ s m2 σ2 ρ2 s'/\(∀b∈ρ2.flatten,b∈ρj.flatten)/\(∀j:Nat,j<p'->ρj[j]?≠none->ρ2[j]?=ρj[j]?):=
 (view_env hp f.R f.e V f.a).imp λJ q=>⟨⟨q.2.1,q.2.2.1,q.1,f.L⟩,q.2.2.2⟩
omit W in
theorem FI.go {ρ₅:Ro} {m₅:Lo} {σ₅:St} {s₅:Shared} (hp:p<=p') (f:FI C p Γ env ρ s mj σj ρj s') (a:AftE C p' env ρj s' s₅ ρ₅) (e:EnvR C Γ env m₅ ρ₅ s₅.heap) (R:Rel C ρ₅ σ₅ s₅.heap) (L:Bas C s₅.heap):FI C p Γ env ρ s m₅ σ₅ ρ₅ s₅:=
 ⟨f.a.trans hp a,e,R,L⟩
theorem FI.step {h':Heap} {tk:Nat} (f:FI C p Γ env ρ s mj σj ρj s') (I:ItS C j ρj s'.heap src it own) (ow:∀a∈own,a∉ρj.flatten/\C.hb.get? a=none/\s.heap.get? a=none/\¬ownE env a) (k:OneK own s'.heap h'):FI C p Γ env ρ s mj σj ρj { s' with heap:=h',toks:=tk }/\TupK s'.heap h':=
 have ht:TupK s'.heap h':=I.tup' k
 have e2:EnvR C Γ env mj ρj h':=f.e.keep (λb o hb z=>k b o (λy=>(ow b y).2.2.2 hb) z) ht
 ⟨⟨⟨by rw [f.a.rest],f.a.pin,f.a.fresh,λb o z h1 h2 h3=>k b o (λy=>noE (ow b y).2.2.1 z) (f.a.frm b o z h1 h2 h3),e2.there⟩,e2,f.R.out W.box (λb hb o z=>k b o (λy=>(ow b y).1 hb) z) ht,
  ⟨λb o z hb=>k b o (λy=>noE (ow b y).2.1 z) (f.L.keep b o z hb),f.L.lam.kp2 (λb o z hb=>k b o hb z) (λz=>noE (ow _ z).2.1 W.hP) λb hb ob z=>I.plain b hb ob z⟩⟩,ht⟩
theorem FI.fin {ρ₅:Ro} {m₅ m6:Lo} {σ₅ σ6:St} {s₅:Shared} (hk:∀i,src≠.keys i) (hpin:pinS p' src) (hp:p<=p') (f:FI C p Γ env ρ s mj σj ρj s') (I:ItS C j ρj s'.heap src it own) (ow:∀a∈own,a∉ρj.flatten/\C.hb.get? a=none/\¬ownE env a)
  (a:AftE C p' env ρj s' s₅ ρ₅) (e:EnvR C Γ env m₅ ρ₅ s₅.heap) (R:Rel C ρ₅ σ₅ s₅.heap) (L:Bas C s₅.heap) (V:Vw p' m₅ σ₅ m6 σ6):
  ∃ρ6,FI C p Γ env ρ s m6 σ6 ρ6 s₅/\ItS C j ρ6 s₅.heap src it own/\∀a∈own,a∉ρ6.flatten:=
 ((f.go hp a e R L).view hp V).imp λρ6 q=>⟨q.1,I.mono hk hpin (λb hb o z=>a.frm b o z (ow b hb).1 (λy=>noE (ow b hb).2.1 (y▸W.hP)) (ow b hb).2.2)
   (λb o z hc=>a.frm b o z (λy=>(Rel.notTup W.box f.R y z).1 hc.1) (λy=>f.L.lam.ex.elim λps h=>by rw [y] at z;rw [<-getE h z] at hc;exact nomatch hc.1) λy=>((f.e.out b y).2.2 o z).2 hc)
   (λi b hi h=>pin_rf q.2.2 hi ((Option.bind_eq_some_iff.mp h).elim λas y=>(a.pin i as hi y.1).elim λmore h1=>Option.bind_eq_some_iff.mpr ⟨_,h1,List.head?_append.trans (by rw [y.2];rfl)⟩)),
  λb hb z=>(a.fresh b (q.2.1 b z)).elim (ow b hb).1 λy=>(I.own b hb).elim λJ g=>noE y.1 g.1⟩
omit W in
noncomputable def FInv (C:Cfg) (p:Nat) (Γ:Blk) (env:Env) (ρ:Ro) (s:Shared) (src:Src) (it:Value) (own:List Addr) (N:Nat) (I:Nat->Lo->St->Prop) (n:Nat) (s':Shared):Prop:=
 ∃j mj σj ρj,n+j=N+1/\I j mj σj/\FI C p Γ env ρ s mj σj ρj s'/\ItS C j ρj s'.heap src it own/\∀a∈own,a∉ρj.flatten
theorem for_turn {t:T} {b:Ss} {tg:Expr} {body:List Stmt} {N n:Nat} {I:Nat->Lo->St->Prop} {Φ:Fl->Lo->St->Prop} {Q:Flow->Shared->Prop} (hG:okB Γ=true) (hT:ckT Γ t tg=true) (ib:IHSs C d Γ b body) (hA:OKA A d) (hp:p<=p') (hpin:pinS p' src) (htg:tgOK src tg)
  (ow:∀a∈own,C.hb.get? a=none/\s.heap.get? a=none/\¬ownE env a) (k:ContS C p Γ env ρ s Φ Q)
  (turn:∀j m σ,I j m σ->j<=N/\(match itemAt σ src j with
   | none=>False
   | some none=>Φ .next m σ
   | some (some v)=>match aw t v m with
    | none=>False
    | some m'=>aA C.τ (vcA C d) b p' m' σ λfl m'' σ'=>match fl with
     | .ret v=>Φ (.ret v) m'' σ'
     | J=>∃m2 σ2,Vw p' m'' σ' m2 σ2/\I (j+1) m2 σ2))
  (hI:FInv C p Γ env ρ s src it own N I n s'):
  wpAny (model C.prog C.w) A (pyNext it) (λr s₁=>match r with
   | none=>Q .next s₁
   | some v=>wpAny (model C.prog C.w) A (letOwnedTupleGo tg it v) (λJ s₁'=>wpAny (model C.prog C.w) A (assign tg env v) (λJ s₂=>wpAny (model C.prog C.w) A (execs body env) (λf s₃=>match f with
     | .next | .cont=>∃m,m<n/\FInv C p Γ env ρ s src it own N I m s₃
     | .brk=>False
     | .ret v=>Q (.ret v) s₃) (λJ J=>False) s₂) (λJ J=>False) s₁') (λJ J=>False) s₁) (λJ J=>False) s':=by
 refine hI.elim λj q=>q.elim λmj q=>q.elim λσj q=>q.elim λρj q=>?_
 have g:=turn j mj σj q.2.1
 have f:=q.2.2.1
 have I₁:=q.2.2.2.1
 have no:=q.2.2.2.2
 cases hitem:itemAt σj src j with
 | none=>rw [hitem] at g;exact g.2.elim
 | some r=>
 rw [hitem] at g
 refine it_next W hA.hd f.R f.L I₁ (λa ha=>⟨no a ha,(ow a ha).1⟩) hitem htg (λhr h' tk kp=>?_) λv hr V h' tk kp hv It hk=>?_
 ·have f2:=(f.step W (tk:=tk) I₁ (λa ha=>⟨no a ha,ow a ha⟩) kp).1
  rw [hr] at g
  exact k .next _ ρj .next mj σj f2.a f2.e f2.R f2.L rfl g.2
 ·rw [hr] at g
  have f2:=f.step W (tk:=tk) I₁ (λa ha=>⟨no a ha,ow a ha⟩) kp
  have g2:=g.2
  simp only at g2
  cases hb:aw t v mj with
  | none=>rw [hb] at g2;exact g2.elim
  | some m'=>
  rw [hb] at g2
  refine p_bind W hG hA.hd hT hb f2.1.e (s:={ s' with heap:=h',toks:=tk }) f2.1.R f2.1.L hv λh₂ tk₂ kp₂ ht₂ e₂ R₂ L₂=>?_
  have f3:FI C p Γ env ρ s m' σj ρj { s' with heap:=h₂,toks:=tk₂ }:=f2.1.go (Nat.le_refl p) (aftE_bind (p:=p) (tk:=tk₂) W kp₂ e₂) e₂ R₂ L₂
  have It₂:ItS C (j+1) ρj h₂ src it own:=It.mono hk hpin (λa ha o z=>kp₂ a o (λy=>(ow a ha).2.2 y.own) z) ht₂ λJ J J z=>z
  have fin:∀s₅ ρ₅ m₅ σ₅,AftE C p' env ρj { s' with heap:=h₂,toks:=tk₂ } s₅ ρ₅->EnvR C Γ env m₅ ρ₅ s₅.heap->Rel C ρ₅ σ₅ s₅.heap->Bas C s₅.heap->(∃m2 σ2,Vw p' m₅ σ₅ m2 σ2/\I (j+1) m2 σ2)->∃m,m<n/\FInv C p Γ env ρ s src it own N I m s₅:=λs₅ ρ₅ m₅ σ₅ a₅ e₅ R₅ L₅ z=>
   z.elim λm6 z=>z.elim λσ6 z=>(FI.fin W hk hpin hp f3 It₂ (λa ha=>⟨no a ha,(ow a ha).1,(ow a ha).2.2⟩) a₅ e₅ R₅ L₅ z.1).elim λρ6 c6=>⟨n-1,(step_dn q.1 g.1).1,j+1,m6,σ6,ρ6,(step_dn q.1 g.1).2,z.2,c6⟩
  refine ib g2 env A { s' with heap:=h₂,toks:=tk₂ } ρj _ e₂ hA R₂ L₂ λf s₅ ρ₅ fl m₅ σ₅ a₅ e₅ R₅ L₅ hf hΦ=>?_
  cases fl with
  | next=>rw [show f=.next from hf];exact fin s₅ ρ₅ m₅ σ₅ a₅ e₅ R₅ L₅ hΦ
  | cont=>rw [show f=.cont from hf];exact fin s₅ ρ₅ m₅ σ₅ a₅ e₅ R₅ L₅ hΦ
  | ret v=>exact hf.elim λV' z=>z.1▸k (.ret V') s₅ ρ₅ (.ret v) m₅ σ₅ (f3.a.trans hp a₅) e₅ R₅ L₅ ⟨V',rfl,z.2⟩ hΦ
theorem st_for (hG:okB Γ=true) {t:T} {it:It} {b:Ss} {tg iter:Expr} {body:List Stmt} {pos:Pos} (hT:ckT Γ t tg=true) (hset:notSet iter=true)
  (hI:∀{m:Lo} {σ:St} {Φ:Src->St->Prop},evI C.τ (vcA C d) it m σ Φ->ItT C d Γ tg iter m σ Φ) (ib:IHSs C d Γ b body):IHSt C d Γ (.for_ t it b) (.For tg iter body [] pos):=by
 intro p m σ Φ q env A s ρ Q e hA R L k
 have q':evI C.τ (vcA C d) it m σ λsrc σ=>ForP p src t (λp m σ k=>aA C.τ (vcA C d) b p m σ k) m σ Φ:=q
 refine wpAny_For (hI q' env A s ρ _ e hA R L λitv own s₁ ρ₁ src σ₁ a₁ R₁ L₁ I₁ hown htg hF=>?_) (notSet_at hset env)
 refine hF.elim λp' hF=>hF.elim λN hF=>hF.elim λI hF=>?_
 have e₁:=e.aft W.box R L a₁
 exact codeAny_for_any (FInv C p Γ env ρ s src itv own N I) (λn s'=>for_turn W hG hT ib hA hF.1 hF.2.1 htg (λa ha=>⟨(hown a ha).2.1,(hown a ha).2.2.1,λz=>(e.there a z).elim λJ ho=>noE (hown a ha).2.2.1 ho⟩) k hF.2.2.2) (N+1)
  ⟨0,m,σ₁,ρ₁,rfl,hF.2.2.1,⟨AftE.of a₁ e₁,e₁,R₁,L₁⟩,I₁,λa ha=>(hown a ha).1⟩
noncomputable def WInv (C:Cfg) (p:Nat) (Γ:Blk) (env:Env) (ρ:Ro) (s:Shared) (N:Nat) (I:Nat->Lo->St->Prop) (n:Nat) (s':Shared):Prop:=∃j mj σj ρj,n+j=N+1/\I j mj σj/\FI C p Γ env ρ s mj σj ρj s'
theorem st_while {c:E} {b:Ss} {x:Expr} {body:List Stmt} {pos:Pos} (ic:IHT C d Γ c x) (ib:IHSs C d Γ b body):IHSt C d Γ (.while_ c b) (.While x body [] pos):=by
 intro p m σ Φ q env A s ρ Q e hA R L k
 have q':WhileP p (λm σ k=>evE C.τ (vcA C d) c m σ λv σ=>truK (vcA C d) v λt=>k t σ) (λp m σ k=>aA C.τ (vcA C d) b p m σ k) m σ Φ:=q
 refine q'.elim λp' q=>q.elim λN q=>q.elim λI q=>?_
 refine wpAny_While (codeAny_whileLoop (WInv C p Γ env ρ s N I) (λn s' z=>z.elim λj z=>z.elim λmj z=>z.elim λσj z=>z.elim λρj z=>?_) (N+1) ⟨0,m,σ,ρ,rfl,q.2.1,AftE.refl e,e,R,L⟩)
 have g:=q.2.2 j mj σj z.2.1
 have f:=z.2.2
 refine wpAny_mono (ic g.2 env A s' ρj _ f.e hA f.R f.L λt s₁ ρ₁ σ₁ a₁ R₁ L₁ h₁=>?_) (λJ J z=>z) λJ J z=>z.elim
 have e₁:=f.e.aft W.box f.R f.L a₁
 have f1:FI C p Γ env ρ s mj σ₁ ρ₁ s₁:=f.go (Nat.le_refl p) (AftE.of a₁ e₁) e₁ R₁ L₁
 cases t with
 | false=>exact wpAny_execs_nil (k .next s₁ ρ₁ .next mj σ₁ f1.a e₁ R₁ L₁ rfl h₁)
 | true=>
  have fin:∀s₅ ρ₅ m₅ σ₅,AftE C p' env ρ₁ s₁ s₅ ρ₅->EnvR C Γ env m₅ ρ₅ s₅.heap->Rel C ρ₅ σ₅ s₅.heap->Bas C s₅.heap->(∃m2 σ2,Vw p' m₅ σ₅ m2 σ2/\I (j+1) m2 σ2)->∃m,m<n/\WInv C p Γ env ρ s N I m s₅:=λs₅ ρ₅ m₅ σ₅ a₅ e₅ R₅ L₅ y=>
   y.elim λm6 y=>y.elim λσ6 y=>((f1.go q.1 a₅ e₅ R₅ L₅).view q.1 y.1).elim λρ6 c6=>⟨n-1,(step_dn z.1 g.1).1,j+1,m6,σ6,ρ6,(step_dn z.1 g.1).2,y.2,c6.1⟩
  refine wpAny_mono (ib h₁ env A s₁ ρ₁ (λf s₃=>match f with
      | .next | .cont=>∃m,m<n/\WInv C p Γ env ρ s N I m s₃
      | .brk=>False
      | .ret v=>Q (.ret v) s₃) e₁ hA R₁ L₁ λf s₅ ρ₅ fl m₅ σ₅ a₅ e₅ R₅ L₅ hf hΦ=>?_) (λf s₃ z=>by cases f<;>first | exact z | exact z.elim) λJ J z=>z.elim
  cases fl with
  | next=>rw [show f=.next from hf];exact fin s₅ ρ₅ m₅ σ₅ a₅ e₅ R₅ L₅ hΦ
  | cont=>rw [show f=.cont from hf];exact fin s₅ ρ₅ m₅ σ₅ a₅ e₅ R₅ L₅ hΦ
  | ret v=>exact hf.elim λV' y=>y.1▸k (.ret V') s₅ ρ₅ (.ret v) m₅ σ₅ (f1.a.trans q.1 a₅) e₅ R₅ L₅ ⟨V',rfl,y.2⟩ hΦ
end
noncomputable def sw (Γ:Blk) (x tg:Expr) (pos:Pos):Option Bool:=pureOf (swapsWith x (some tg) pos.line (dmE Γ.scp))
noncomputable def ss (Γ:Blk) (x tg:Expr):Option (Option (List Str)):=pureOf (swappedStores [tg] x (dmE Γ.scp))
noncomputable def isN (o:Option (Option (List Str))):Bool:=match o with
 | some none=>true
 | J=>false
noncomputable def isW (o:Option (Option (List Str))) (f:List Str->Bool):Bool:=match o with
 | some (some l)=>f l
 | J=>false
noncomputable def isF (o:Option Bool):Bool:=match o with
 | some false=>true
 | J=>false
noncomputable def isT (o:Option Bool):Bool:=match o with
 | some true=>true
 | J=>false
theorem isN_at {o:Option (Option (List Str))} (h:isN o=true):o=some none:=by
 rcases o with _ | _ | l<;>first | rfl | exact ffT h
theorem isW_at {o:Option (Option (List Str))} {f:List Str->Bool} (h:isW o f=true):∃l,o=some (some l)/\f l=true:=by
 rcases o with _ | _ | l<;>first | exact ⟨l,rfl,h⟩ | exact ffT h
theorem isF_at {o:Option Bool} (h:isF o=true):o=some false:=by
 rcases o with _ | _ | _<;>first | rfl | exact ffT h
theorem isT_at {o:Option Bool} (h:isT o=true):o=some true:=by
 rcases o with _ | _ | _<;>first | rfl | exact ffT h
noncomputable def ckA (N:Nms) (Γ:Blk) (t:Tg) (e:E) (tg x:Expr) (pos:Pos):Bool:=match t with
 | .sub o i=>onSub tg (λa b J=>ckE N Γ o a&&ckE N Γ i b) false
 | .attr o n=>onAttr tg (λa y J=>ckE N Γ o a&&y==NM n) false
 | .subs o i o' i'=>onTuple tg (λl J J=>l2 l λu v=>onSub u (λa b J=>onSub v (λa' b' J=>ckE N Γ o a&&ckE N Γ i b&&ckE N Γ o' a'&&ckE N Γ i' b'&&isF (sw Γ x tg pos)&&isN (ss Γ x tg)) false) false) false
 | .nm t=>ckT Γ t tg&&(isF (sw Γ x tg pos)&&(isN (ss Γ x tg)||isW (ss Γ x tg) λnames=>match t with
   | .tup ks=>onTuple tg (λJ J J=>decide (names=tgN tg)&&distinctN ks) false
   | J=>false)||isT (sw Γ x tg pos)&&match t,e with
    | .v J,.comp ..=>true
    | J,ζ=>false)
mutual
noncomputable def ckS (N:Nms) (Γ:Blk):S->Stmt->Bool:=λω ψ=>match ω,ψ with
 | .bad,J=>true
 | .expr e,x=>onSExpr x (λx J=>ckE N Γ e x&&notComp x) false
 | .ret e,x=>onSRet x (λx J=>match x with
  | some x=>ckE N Γ e x
  | none=>match e with
   | .lit .none=>true
   | J=>false) false
 | .asg t e,x=>onSAsg x (λtgs x pos=>l1 tgs λtg=>ckE N Γ e x&&ckA N Γ t e tg x pos) false
 | .aug k o e,x=>onSAug x (λtg o' x J=>onName tg (λy J=>decide (Γ.vis.lookup k=some y)&&decide (o=.add)&&decide (o'=.Add)&&ckE N Γ e x) false) false
 | .ite c a b,x=>onSIf x (λx xs ys J=>ckE N Γ c x&&ckSs N Γ a xs&&ckSs N Γ b ys) false
 | .for_ t it b,x=>onSFor x (λtg iter body els J=>ckI N Γ it iter&&tgB it t&&ckT Γ t tg&&notSet iter&&ckSs N Γ b body&&els.isEmpty) false
 | .while_ c b,x=>onSWhile x (λx body els J=>ckE N Γ c x&&ckSs N Γ b body&&els.isEmpty) false
 | .cont,x=>onSCont x (λJ=>true) false
noncomputable def ckSs (N:Nms) (Γ:Blk):Ss->List Stmt->Bool:=λω ψ=>match ω,ψ with
 | .nil,xs=>l0 xs true
 | .cons s ss,xs=>List.rec false (λx r J=>ckS N Γ s x&&ckSs N Γ ss r) xs
end
section
variable {C:Cfg} {N:Nms} (W:CfgOK C) (M:NmsOK C N) {d:Nat} (hd:d<=57)
structure ST (C:Cfg) (d:Nat) (Γ:Blk) (t:S) (x:Stmt):Prop where
 at_:IHSt C d Γ t x
structure SsT (C:Cfg) (d:Nat) (Γ:Blk) (t:Ss) (xs:List Stmt):Prop where
 at_:IHSs C d Γ t xs
noncomputable def GT (C:Cfg) (d:Nat) (Γ:Blk) (t:S) (x:Expr) (pos:Pos) (tg tg':Expr):Prop:=tg=tg'->ST C d Γ t (.Assign [tg'] x pos)
include W M hd
theorem snd_A {Γ:Blk} (hG:okB Γ=true) {t:Tg} {e:E} {tg x:Expr} {pos:Pos} (he:ckE N Γ e x=true) (h:ckA N Γ t e tg x pos=true):ST C d Γ (.asg t e) (.Assign [tg] x pos):=by
 have ie:IHE C d Γ e x:=(aM W M hd e hG he).1
 cases t with
 | sub o i=>exact e_Sub (P:=λtg=>ST C d Γ _ (.Assign [tg] x pos)) h λa b p h=>⟨st_sub W ie (aM W M hd _ hG (an2 h).1).1 (aM W M hd _ hG (an2 h).2).1⟩
 | attr o n=>exact e_Attr (P:=λtg=>ST C d Γ _ (.Assign [tg] x pos)) h λa b p h=>⟨st_attr W ie (aM W M hd _ hG (an2 h).1).1 (an2 h).2⟩
 | subs o i o' i'=>
  refine e_Tuple (P:=GT C d Γ (.asg (.subs o i o' i') e) x pos tg) h (λl n p h=>e_l2 (P:=λl=>GT C d Γ (.asg (.subs o i o' i') e) x pos tg (.Tuple l n p)) h λu v h=>e_Sub (P:=λu=>GT C d Γ (.asg (.subs o i o' i') e) x pos tg (.Tuple [u,v] n p)) h λa b p1 h=>
   e_Sub (P:=λv=>GT C d Γ (.asg (.subs o i o' i') e) x pos tg (.Tuple [.Subscript a b p1,v] n p)) h λa' b' p2 h htg=>?_) rfl
  subst htg
  have q:=an6 h
  exact ⟨st_subs W ie (aM W M hd _ hG q.1.1.1.1.1).1 (aM W M hd _ hG q.1.1.1.1.2).1 (aM W M hd _ hG q.1.1.1.2).1 (aM W M hd _ hG q.1.1.2).1 (isF_at q.1.2) (isN_at q.2)⟩
 | nm t=>
  have h1:=(an2 h).1
  rcases orE (an2 h).2 with h2 | h2
  ·have g1:=isF_at (an2 h2).1
   rcases orE (an2 h2).2 with h3 | h3
   ·exact ⟨st_asgN W hG h1 ie g1 (isN_at h3)⟩
   ·obtain ⟨names,g2,g3⟩:=isW_at h3
    cases t with
    | v J=>exact ffT g3
    | tup ks=>
     refine e_Tuple (P:=GT C d Γ (.asg (.nm (.tup ks)) e) x pos tg) g3 (λl n p g htg=>?_) rfl
     subst htg
     exact ⟨st_asgW W hG h1 ie g1 g2 (odT (an2 g).1) (an2 g).2⟩
  ·have g1:=isT_at (an2 h2).1
   have h2:=(an2 h2).2
   cases t with
   | tup J=>exact ffT h2
   | v k=>
    cases e with
    | comp elt t it ifs vs=>
     revert ie g1
     refine e_Name (P:=λtg=>sw Γ x tg pos=some true->IHE C d Γ _ x->ST C d Γ _ (.Assign [tg] x pos)) h1 λy np h1=>e_Comp (P:=λx=>sw Γ x (.Name y np) pos=some true->IHE C d Γ _ x->ST C d Γ _ (.Assign [_] x pos)) he λx gs scope cp he=>
      e_l1 (P:=λgs=>sw Γ (.ListComp x gs scope cp) (.Name y np) pos=some true->IHE C d Γ _ (.ListComp x gs scope cp)->ST C d Γ _ (.Assign [_] (.ListComp x gs scope cp) pos)) he λ⟨tg,iter,cs,n⟩ he=>λg1 J=>?_
     have q:=an8 he
     obtain rfl:n=0:=odT q.1.1.1.1.1.1.1
     have ok:=(okComp_at q.1.1.1.1.2).ok
     exact ⟨st_comp W hG (odT h1) g1 q.1.1.1.1.2 q.1.1.1.2 q.2 ((snd_I W M hd it hG q.1.1.1.1.1.1.2).at_ q.1.1.1.1.1.2 q.1.1.1.2) (snd_L W M hd ifs ok q.1.1.2).2.1 (aM W M hd elt ok q.1.2).1⟩
    | _=>exact ffT h2
mutual
theorem snd_S:∀(t:S) {Γ:Blk} {x:Stmt},okB Γ=true->ckS N Γ t x=true->ST C d Γ t x:=@λω=>@λψ=>@λχ=>@λϕ=>@λϱ=>match ω,ψ,χ,ϕ,ϱ with
 | .bad,J,ζ,η,θ=>⟨λq=>False.elim q⟩
 | .expr e,J,ζ,hG,h=>e_SExpr h λJ J h=>⟨st_expr W hG (aM W M hd e hG (an2 h).1).1 (an2 h).2⟩
 | .ret e,Γ,J,hG,h=>e_SRet h λy p h=>match y,h with
  | some J,h=>⟨st_ret W (aM W M hd e hG h).1⟩
  | none,h=>by
   cases e with
   | lit v=>cases v<;>first | exact ⟨st_ret0 W⟩ | exact ffT h
   | _=>exact ffT h
 | .asg t e,J,ζ,hG,h=>e_SAsg h λJ x pos h=>e_l1 (P:=λl=>ST C d _ _ (.Assign l x pos)) h λJ h=>snd_A W M hd hG (an2 h).1 (an2 h).2
 | .aug k o e,J,ζ,hG,h=>e_SAug h λJ o' x p h=>e_Name (P:=λtg=>ST C d _ _ (.AugAssign tg o' x p)) h λJ J h=>have q:=an4 h;
   odT q.1.1.2▸odT q.1.2▸⟨st_aug W hG (odT q.1.1.1) (aM W M hd e hG q.2).1⟩
 | .ite c a b,J,ζ,hG,h=>e_SIf h λJ J J J h=>have q:=an3 h;⟨st_ite W (aM W M hd c hG q.1.1).2 (snd_Ss a hG q.1.2).at_ (snd_Ss b hG q.2).at_⟩
 | .for_ t it b,J,ζ,hG,h=>e_SFor h λJ J J els J h=>have q:=an6 h;
   (List.isEmpty_iff.mp q.2:els=[])▸⟨st_for W hG q.1.1.1.2 q.1.1.2 ((snd_I W M hd it hG q.1.1.1.1.1).at_ q.1.1.1.1.2 q.1.1.1.2) (snd_Ss b hG q.1.2).at_⟩
 | .while_ c b,J,ζ,hG,h=>e_SWhile h λJ J els J h=>have q:=an3 h;(List.isEmpty_iff.mp q.2:els=[])▸⟨st_while W (aM W M hd c hG q.1.1).2 (snd_Ss b hG q.1.2).at_⟩
 | .cont,J,ζ,η,h=>e_SCont h λJ J=>⟨st_cont W⟩
theorem snd_Ss:∀(t:Ss) {Γ:Blk} {xs:List Stmt},okB Γ=true->ckSs N Γ t xs=true->SsT C d Γ t xs:=@λω=>@λψ=>@λχ=>@λϕ=>@λϱ=>match ω,ψ,χ,ϕ,ϱ with
 | .nil,J,ζ,η,h=>e_l0 h λJ=>⟨st_nil W⟩
 | .cons J ζ,η,[],θ,h=>ffT h
 | .cons t ts,J,ζ::η,hG,h=>⟨st_cons W (snd_S t hG (an2 h).1).at_ (snd_Ss ts hG (an2 h).2).at_⟩
end
end
theorem cellsFrom_some {n:Str}:∀(names:List (Str×NameKind)) (k:Nat) (acc:List (Str×Addr)),((n,NameKind.cell)∈names\/∃c,acc.lookup n=some c)->∃c,(cellsFrom k names acc).lookup n=some c:=λω ψ χ ϕ=>match ω,ψ,χ,ϕ with
 | [],k,acc,h=>by
  rcases h with h | h
  ·simp at h
  ·exact h
 | (x,kind)::r,k,acc,h=>by
  unfold cellsFrom
  have hk:∀c,∃c',((x,c)::acc).lookup n=some c'\/acc.lookup n=none:=λc=>by
   by_cases q:n=x
   ·subst q;exact ⟨c,.inl (by simp)⟩
   ·have q':(n==x)=false:=by simpa using q
    cases hq:acc.lookup n with
    | none=>exact ⟨c,.inr rfl⟩
    | some c'=>exact ⟨c',.inl (by simp only [List.lookup_cons,q'];exact hq)⟩
  split
  ·rename_i hc
   refine cellsFrom_some r (k+1) ((x,k)::acc) ?_
   by_cases q:n=x
   ·subst q;exact .inr ⟨k,by simp⟩
   ·have q':(n==x)=false:=by simpa using q
    rcases h with h | ⟨c,h⟩
    ·rcases List.mem_cons.mp h with e | e
     ·cases e;exact absurd rfl q
     ·exact .inl e
    ·exact .inr ⟨c,by simp only [List.lookup_cons,q'];exact h⟩
  ·rename_i hc
   refine cellsFrom_some r k acc ?_
   rcases h with h | h
   ·rcases List.mem_cons.mp h with e | e
    ·cases e;exact absurd rfl hc
    ·exact .inl e
   ·exact .inr h
theorem bindL_other {kd:Str->Option NameKind} {n:Str}:∀(binds:List (Str×Value)) (m:Str->Option Value),n∉binds.map (λJ=>J.1)->bindL kd binds m n=m n:=λω ψ χ=>match ω,ψ,χ with
 | [],J,ζ=>rfl
 | (x,v)::r,m,h=>by
  simp only [List.map_cons,List.mem_cons,not_or] at h
  unfold bindL
  rw [bindL_other r _ h.2]
  split
  ·simp only [if_neg h.1]
  ·rfl
theorem bindC_other {kd:Str->Option NameKind} {n:Str}:∀(binds:List (Str×Value)) (m:Str->Option Value),n∉binds.map (λJ=>J.1)->bindC kd binds m n=m n:=λω ψ χ=>match ω,ψ,χ with
 | [],J,ζ=>rfl
 | (x,v)::r,m,h=>by
  simp only [List.map_cons,List.mem_cons,not_or] at h
  unfold bindC
  rw [bindC_other r _ h.2]
  split
  ·rfl
  ·simp only [if_neg h.1]
theorem bindL_at {kd:Str->Option NameKind} {n:Str} {v:Value} (hk:kd n=some .local):∀(binds:List (Str×Value)) (m:Str->Option Value),(binds.map (λJ=>J.1)).Nodup->(n,v)∈binds->bindL kd binds m n=some v:=λω ψ χ ϕ=>match ω,ψ,χ,ϕ with
 | [],J,ζ,h=>by simp at h
 | (x,u)::r,m,hn,h=>by
  rw [List.map_cons,List.nodup_cons] at hn
  unfold bindL
  rcases List.mem_cons.mp h with e | e
  ·cases e
   rw [bindL_other r _ hn.1,if_pos hk];simp
  ·exact bindL_at hk r _ hn.2 e
theorem bindC_at {kd:Str->Option NameKind} {n:Str} {v:Value} (hk:kd n≠some .local):∀(binds:List (Str×Value)) (m:Str->Option Value),(binds.map (λJ=>J.1)).Nodup->(n,v)∈binds->bindC kd binds m n=some v:=λω ψ χ ϕ=>match ω,ψ,χ,ϕ with
 | [],J,ζ,h=>by simp at h
 | (x,u)::r,m,hn,h=>by
  rw [List.map_cons,List.nodup_cons] at hn
  unfold bindC
  rcases List.mem_cons.mp h with e | e
  ·cases e
   rw [bindC_other r _ hn.1,if_neg hk];simp
  ·exact bindC_at hk r _ hn.2 e
theorem distinct_nodup:∀{l:List Str},distinct l=true->l.Nodup:=@λω=>@λψ=>match ω,ψ with
 | [],J=>List.nodup_nil
 | x::l,h=>by
  simp only [distinct,Bool.and_eq_true,Bool.not_eq_true',List.contains_eq_mem,decide_eq_false_iff_not] at h
  exact List.nodup_cons.mpr ⟨h.1,distinct_nodup h.2⟩
noncomputable def ckP (vis:List (Nat×Str)):Nat->List Str->Bool:=λω ψ=>match ω,ψ with
 | J,[]=>true
 | i,x::xs=>decide (vis.lookup i=some x)&&ckP vis (i+1) xs
theorem ckP_at {vis:List (Nat×Str)}:∀{xs:List Str} {i:Nat},ckP vis i xs=true->∀{j:Nat} {x:Str},xs[j]?=some x->vis.lookup (i+j)=some x:=@λω=>@λψ=>@λχ=>@λϕ=>@λϱ=>@λς=>match ω,ψ,χ,ϕ,ϱ,ς with
 | [],J,ζ,j,x,h=>by simp at h
 | y::xs,i,h,0,x,e=>by
  simp only [ckP,Bool.and_eq_true,decide_eq_true_eq] at h
  simp at e;subst e;exact h.1
 | y::xs,i,h,j+1,x,e=>by
  simp only [ckP,Bool.and_eq_true] at h
  have:=ckP_at h.2 (j:=j) (x:=x) (by simpa using e)
  rw [show i+(j+1)=i+1+j by omega];exact this
noncomputable def fnB (K:Frag) (N:Nms) (a:Addr) (f:Nat) (fn:Fn) (vis:List (Nat×Str)):Bool:=match K.lookup a with
 | some ⟨J,ζ,.func fd,η⟩=>(match fd.body with
  | .stmts body=>fd.closure.isEmpty&&fd.globals==mainGlobals&&fd.builtins==builtinsNs&&!fd.scope.isCoroutine&&!fd.scope.isGenerator&&codeIn K fd.code fd.qualname &&
    okB ⟨fd.scope,vis,f⟩&&ckSs N ⟨fd.scope,vis,f⟩ fn.body body&&ckP vis 0 (fd.params.args.map (λJ=>J.arg))&&distinct (fd.params.args.map (λJ=>J.arg))&&decide (fn.n=fd.params.args.length)
  | J=>false)
 | J=>false
section
variable {C:Cfg} {N:Nms} (W:CfgOK C) (M:NmsOK C N)
include W M
set_option tactic.hygienic true in
theorem fn_ok {f:Nat} {fn:Fn} {vis:List (Nat×Str)} (hf:f<=57) (hB:fnB C.K N (C.fa f) f fn vis=true) {args:List AV} {σ:St} {Φ:AV->St->Prop} (hlen:args.length=fn.n)
  (h:aA C.τ (vcA C f) fn.body σ.length (startL fn args) σ λfl J σ'=>match fl with
   | .ret v=>Φ v σ'
   | .next=>Φ .none σ'
   | .cont=>False):aa C f args σ Φ:=by
 intro A s ρ Vs as fd Q hA R L hfd hv hbind k
 unfold fnB at hB
 split at hB
 case h_2=>cases hB
 rename_i oc od fd' sl ho
 have hfe:fd'=fd:=by
  unfold fdAt at hfd
  rw [ho] at hfd
  exact Option.some.inj hfd
 subst hfe
 split at hB
 case h_2=>cases hB
 rename_i body hbody
 simp only [Bool.and_eq_true,Bool.not_eq_true',decide_eq_true_eq,beq_iff_eq,List.isEmpty_iff] at hB
 obtain ⟨⟨⟨⟨⟨⟨⟨⟨⟨⟨b1,b2⟩,b3⟩,b4⟩,b5⟩,b6⟩,b7⟩,b8⟩,b9⟩,b10⟩,b11⟩:=hB
 have X:=L.kin W
 have hhk:fd'.scope.kind=.function:=by
  have:=b7
  unfold okB at this
  simp only [Bool.and_eq_true] at this
  simpa using this.1.1.1
 have hVs:=hv.length
 have hnames:(fd'.params.args.map (λJ=>J.arg)).length=Vs.length:=by rw [List.length_map,hVs,hlen,b11]
 have hnd:=distinct_nodup b10
 have hmap:(((fd'.params.args.map (λJ=>J.arg)).zip Vs).map (λJ=>J.1))=fd'.params.args.map (λJ=>J.arg):=List.map_fst_zip (Nat.le_of_eq hnames)
 have hall:=b7
 unfold okB at hall
 simp only [Bool.and_eq_true,List.all_eq_true] at hall
 have hkd:∀x∈(fd'.params.args.map (λJ=>J.arg)).zip Vs,fd'.scope.names.lookup x.1=some .local\/(fd'.scope.names.lookup x.1=some .cell/\((cellsFrom (s.heap.objs.size+1) fd'.scope.names []).lookup x.1).isSome=true):=by
  intro x hx
  have hx1:x.1∈fd'.params.args.map (λJ=>J.arg):=by rw [<-hmap];exact List.mem_map_of_mem hx
  obtain ⟨j,hj,e⟩:=List.mem_iff_getElem.mp hx1
  have h1:=ckP_at b9 (j:=j) (x:=x.1) (by rw [List.getElem?_eq_getElem hj,e])
  have h2:=hall.2 _ (aO h1)
  simp only [Bool.and_eq_true,Bool.or_eq_true,decide_eq_true_eq] at h2
  rcases h2.1 with z | z
  ·exact .inl z
  ·obtain ⟨c,hc⟩:=cellsFrom_some fd'.scope.names (s.heap.objs.size+1) [] (.inl (aO z))
   exact .inr ⟨z,by rw [hc];rfl⟩
 refine codeAny_call_function (body:=body) (by have:=hA.depth;omega) (X _ _ ho) rfl b4 b5 hbody (codeRec_of X b6) ?_
 refine hbind _ _ _ _ ?_
 rw [b1]
 refine wpAny_newFunctionEnv_cells hhk hkd λenv he s₁ x=>?_
 have hN:s.heap.get? s.heap.objs.size=none:=Heap.get?_none_of_le (Nat.le_refl _)
 obtain ⟨h₁,tk,hs₁,kp⟩:=x.done
 subst hs₁
 refine ⟨(Bas.lim W L).keeps kp,codeAny_func ?_⟩
 obtain ⟨a₁,R₁,L₁⟩:=aE (tk:=tk) W.box R L kp
 have hloc:env.locals=s.heap.objs.size:=by rw [he];rfl
 have hcells:env.cells=cellsFrom (s.heap.objs.size+1) fd'.scope.names []:=by rw [he];rfl
 have hkind:∀n,env.kindOf n=fd'.scope.names.lookup n:=λn=>by rw [he];rfl
 have ownN:∀b,ownE env b->s.heap.get? b=none:=by
  rintro b (rfl | ⟨n,hn⟩)
  ·rw [hloc];exact hN
  ·exact Heap.get?_none_of_le (Nat.le_of_succ_le (by have:=x.above n b (mem_of_lookup hn);rw [hloc] at this;exact this))
 have hfr:=λb (hb:ownE env b)=>fresh_at W (Aft.refl ρ s) R L (ownN b hb)
 have slot:∀{i:Nat} {n:Str} {v:AV},(⟨fd'.scope,vis,f⟩:Blk).vis.lookup i=some n->(startL fn args)[i]?=some (some v)->∃V,(n,V)∈(fd'.params.args.map (λJ=>J.arg)).zip Vs/\VR s.heap (ab ρ) C.gf v V:=by
  intro i n v h1 h2
  unfold startL at h2
  have hi:i<args.length:=by
   rcases Nat.lt_or_ge i args.length with z | z
   ·exact z
   ·rw [List.getElem?_append_right (by simpa using z)] at h2
    have:=List.mem_of_getElem? h2
    simp at this
  rw [List.getElem?_append_left (by simpa using hi),List.getElem?_map] at h2
  obtain ⟨v',g1,g2⟩:=Option.map_eq_some_iff.mp h2
  cases g2
  obtain ⟨V,g3,g4⟩:=hv.get g1
  have hi':i<(fd'.params.args.map (λJ=>J.arg)).length:=by omega
  have h3:=ckP_at b9 (j:=i) (List.getElem?_eq_getElem hi')
  rw [Nat.zero_add] at h3
  have h1':vis.lookup i=some n:=h1
  rw [h1'] at h3
  cases h3
  have hiV:i<Vs.length:=by omega
  rw [List.getElem?_eq_getElem hiV] at g3
  cases g3
  refine ⟨Vs[i],?_,g4⟩
  have:((fd'.params.args.map (λJ=>J.arg)).zip Vs)[i]'(by rw [List.length_zip];omega)=((fd'.params.args.map (λJ=>J.arg))[i],Vs[i]):=List.getElem_zip ..
  rw [<-this];exact List.getElem_mem _
 have e₁:EnvR C ⟨fd'.scope,vis,f⟩ env (startL fn args) ρ h₁:=by
  refine ⟨by rw [he];rfl,by rw [he];exact b2,by rw [he];exact b3,⟨(hfr _ (.inl rfl)).1,(hfr _ (.inl rfl)).2.1⟩,⟨_,x.toInCall.ns,λi n v h1 h2 h3=>?_⟩,λn c hc=>?_,λi n v h1 h2 h3=>?_,λn n' c h1 h2=>?_,λn hn=>?_,?_⟩
  ·obtain ⟨V,g1,g2⟩:=slot h1 h2
   refine ⟨V,bindL_at (by rw [hkind];exact h3) _ _ (by rw [hmap];exact hnd) g1,g2.mono (λJ J z=>z) (λa o z J=>kp a o z) _⟩
  ·have hne:c≠env.locals:=λz=>by
    have:=x.above n c (mem_of_lookup hc)
    rw [z] at this;exact Nat.not_succ_le_self _ this
   exact ⟨(hfr c (.inr ⟨n,hc⟩)).1,(hfr c (.inr ⟨n,hc⟩)).2.1,hne,_,x.cell n c hc⟩
  ·obtain ⟨V,g1,g2⟩:=slot h1 h2
   obtain ⟨c,hc⟩:=cellsFrom_some fd'.scope.names (s.heap.objs.size+1) [] (.inl (aO h3))
   have hc':env.cells.lookup n=some c:=by rw [hcells];exact hc
   refine ⟨c,V,hc',?_,g2.mono (λJ J z=>z) (λa o z J=>kp a o z) _⟩
   have:=x.cell n c hc'
   rw [bindC_at (by rw [hkind];rw [show fd'.scope.names.lookup n=some .cell from h3];simp) _ _ (by rw [hmap];exact hnd) g1] at this
   exact this
  ·exact name_of_addr x.apart (mem_of_lookup h1) (mem_of_lookup h2)
  ·obtain ⟨c,hc⟩:=cellsFrom_some fd'.scope.names (s.heap.objs.size+1) [] (.inl (aO hn))
   exact ⟨c,by rw [hcells];exact hc⟩
  ·exact ⟨fd',hfd,by rw [he];rfl,by rw [he];rfl⟩
 have hA':OKA (A.deeper env) f:=⟨hA.hd,by show A.depth+1+2*f < _;have:=hA.depth;omega,by show A.units+3+8*f+64 < _;have:=hA.units;omega⟩
 refine wpAny_mono ((snd_Ss W M hf fn.body b7 b8).at_ h env (A.deeper env) { s with heap:=h₁,toks:=tk } ρ _ e₁ hA' R₁ L₁ λfl s' ρ' afl m' σ' a' e' R' L' hfl hΦ=>?_) (λJ J z=>z) λJ J z=>z.elim
 have aft:Aft C ρ s s' ρ':=by
  refine ⟨?_,?_,λb hb=>?_,λb o z hb hp=>?_⟩
  ·have:=a'.rest
   rw [this]
  ·intro j as h
   exact a'.pin j as (by rw [<-R.len];exact (List.getElem?_eq_some_iff.mp h).1) h
  ·rcases a'.fresh b hb with z | ⟨z,z2⟩
   ·exact .inl z
   ·refine .inr ⟨?_,z2⟩
    cases q:s.heap.get? b with
    | none=>rfl
    | some o=>have:=kp b o q;rw [show h₁.get? b=none from z] at this;cases this
  ·exact a'.frm b o (kp b o z) hb hp λy=>by rw [ownN b y] at z;cases z
 cases afl with
 | next=>rw [show fl=.next from hfl];exact k .none s' ρ' .none σ' aft R' L' rfl hΦ
 | cont=>exact hΦ.elim
 | ret v=>obtain ⟨V,rfl,hV⟩:=hfl;exact k V s' ρ' v σ' aft R' L' hV hΦ
end
noncomputable def faT:List Nat:=[94,101,108,115,122,511,525,148,532,539,565,544,572,586,607,593,600,129,136,143,156,170,163,184,191,198,213,221,228,235,243,251,359,373,380,387,395,402,414,421,436,443,450,455,462,469,476,490,497,504,670,677,684,691,696,701,706]
noncomputable def caT:List Nat:=[554,610,201,362]
noncomputable def glT:List Nat:=[615,665,339]
noncomputable def topG:List (String×AV):=[("HYPHEN_idna",(.int 45)),("JOINER",(.int 8205)),("LEADS",(.int 19)),("LEAD_FIRST",(.int 4352)),("LEFT_CLASSES",(.tup [(.str 12),(.str 9),(.str 10),(.str 5),(.str 11),(.str 24),(.str 3),(.str 21)])),("MARKS",(.tup [(.str 19),(.str 17),(.str 18)])),("MAX_CODE",(.int 1114111)),("NON_JOINER",(.int 8204)),("PREFIX",.gl 2),("RIGHT_CLASSES",(.tup [(.str 30),(.str 1),(.str 2),(.str 9),(.str 10),(.str 5),(.str 11),(.str 24),(.str 3),(.str 21)])),("STOP",(.int 46)),("SYLLABLES",(.int 11172)),("SYLLABLE_FIRST",(.int 44032)),("TAILS",(.int 28)),("TAIL_NONE",(.int 4519)),("VIRAMA",(.int 9)),("VOWELS",(.int 21)),("VOWEL_FIRST",(.int 4449)),("_law_pool",.gl 1),("_law_rows",.gl 0)]
noncomputable def visT:List (List (Nat×String)):=[[(0,"firsts"),(1,"number"),(2,"low"),(3,"high"),(4,"middle")],
 [(0,"code")],
 [(0,"code"),(1,"number")],
 [(0,"code"),(1,"lead"),(2,"vowel"),(3,"tail")],
 [(0,"one"),(1,"other"),(2,"lead"),(3,"vowel")],
 [(0,"one"),(1,"other")],
 [(0,"self"),(1,"default")],
 [(0,"run")],
 [(0,"self"),(1,"code")],
 [(0,"self"),(1,"first"),(2,"last"),(3,"value"),(4,"low"),(5,"high"),(6,"behind"),(7,"starts"),(8,"values")],
 [(0,"range_map"),(1,"starts"),(2,"found"),(3,"at"),(4,"value"),(5,"last")],
 [(0,"self")],
 [(0,"found"),(1,"name")],
 [(0,"self")],
 [(0,"self"),(1,"name")],
 [(0,"self"),(1,"name"),(2,"first"),(3,"last"),(4,"value")],
 [(0,"self"),(1,"name"),(2,"code")],
 [(0,"code"),(1,"data"),(2,"is_compat"),(3,"parts"),(4,"told")],
 [(0,"code"),(1,"data"),(2,"is_compat"),(3,"found"),(4,"waiting"),(5,"open_codes"),(6,"here"),(7,"parts"),(8,"part")],
 [(0,"text"),(1,"data"),(2,"code"),(3,"found"),(4,"run"),(5,"weight")],
 [(0,"text"),(1,"data"),(2,"is_compat"),(3,"found"),(4,"code")],
 [(0,"code"),(1,"parts"),(2,"data")],
 [(0,"data"),(1,"found"),(2,"first"),(3,"last"),(4,"told"),(5,"code")],
 [(0,"self"),(1,"data"),(2,"one"),(3,"other")],
 [(0,"self"),(1,"one"),(2,"other"),(3,"found")],
 [(0,"self"),(1,"code"),(2,"is_vowel")],
 [(0,"text"),(1,"data"),(2,"composer"),(3,"code"),(4,"found"),(5,"starter"),(6,"most"),(7,"weight"),(8,"pair")],
 [(0,"text"),(1,"data"),(2,"word"),(3,"composer"),(4,"found")],
 [(0,"text"),(1,"data")],
 [(0,"code"),(1,"data"),(2,"word"),(3,"composer"),(4,"first")],
 [(0,"text"),(1,"data"),(2,"word"),(3,"composer"),(4,"code"),(5,"found"),(6,"ahead"),(7,"weight"),(8,"told")],
 [(0,"text"),(1,"data"),(2,"word"),(3,"composer"),(4,"told")],
 [(0,"self"),(1,"is_transitional"),(2,"only_letters"),(3,"hyphens"),(4,"joiners"),(5,"directions"),(6,"contexts"),(7,"lengths")],
 [(0,"code")],
 [(0,"code"),(1,"data"),(2,"only_letters"),(3,"status"),(4,"told")],
 [(0,"code"),(1,"data"),(2,"is_transitional"),(3,"only_letters"),(4,"found"),(5,"other"),(6,"status"),(7,"told"),(8,"further")],
 [(0,"text"),(1,"data"),(2,"is_transitional"),(3,"only_letters"),(4,"code"),(5,"found"),(6,"words"),(7,"told")],
 [(0,"text"),(1,"found"),(2,"code")],
 [(0,"label"),(1,"at"),(2,"step"),(3,"data"),(4,"asked"),(5,"joining")],
 [(0,"label"),(1,"at"),(2,"data")],
 [(0,"label"),(1,"data")],
 [(0,"labels"),(1,"data"),(2,"label"),(3,"word")],
 [(0,"classes"),(1,"word")],
 [(0,"label"),(1,"data"),(2,"classes"),(3,"last")],
 [(0,"label"),(1,"asks_hyphens"),(2,"is_bound")],
 [(0,"label"),(1,"data"),(2,"flags"),(3,"is_encoded"),(4,"code"),(5,"status"),(6,"may_deviate")],
 [(0,"label"),(1,"data"),(2,"flags"),(3,"is_encoded"),(4,"words"),(5,"at"),(6,"code")],
 [(0,"label"),(1,"data"),(2,"flags")],
 [(0,"words"),(1,"found"),(2,"word")],
 [(0,"domain"),(1,"data"),(2,"flags"),(3,"labels"),(4,"label"),(5,"mapped"),(6,"words"),(7,"shown"),(8,"more")],
 [(0,"script"),(1,"cell"),(2,"left"),(3,"mixed")],
 [(0,"deck"),(1,"many")],
 [(0,"code"),(1,"data"),(2,"usual"),(3,"kind"),(4,"status"),(5,"others"),(6,"order"),(7,"joining"),(8,"way"),(9,"name"),(10,"told")],
 [(0,"page"),(1,"is_transitional"),(2,"faults"),(3,"found"),(4,"code"),(5,"go"),(6,"k"),(7,"status"),(8,"others"),(9,"other"),(10,"is_more")],
 [(0,"kinds"),(1,"end"),(2,"near"),(3,"both")],
 [(0,"label"),(1,"at"),(2,"ahead"),(3,"behind"),(4,"near"),(5,"far")],
 [(0,"script"),(1,"page"),(2,"at"),(3,"label"),(4,"kinds"),(5,"has_mate"),(6,"flags"),(7,"deck"),(8,"faults"),(9,"is_transitional"),(10,"only"),(11,"hyphens"),(12,"joiners"),(13,"directions"),(14,"k"),(15,"code"),(16,"labels"),(17,"told")]]
noncomputable def nfT:List String:=["place_by_half","is_hangul_syllable","hangul_numbers","hangul_parts","hangul_pair","range_are_like","","form_sorted","","","range_rows","","data_defaults","","","","","form_mapping","form_expanded","ordered","decomposed","form_is_primary","primary_composites","","","","composed","form_of","nfc","form_quick","quick_check","is_form","","idna_is_plain","idna_status","idna_mapped","map_label","idna_labels","idna_joins","idna_may_join","idna_classes","idna_is_mixed","idna_last_class","idna_has_one_way","idna_hyphen_words","idna_code_words","idna_label_words","idna_shown","idna_settled","process","_law_deck","_law_draw","_law_data","_law_mapped","_law_two_way","_law_is_joined","law"]
noncomputable def ncT:List String:=["RangeMap","Data","Composer","IdnaFlags"]
noncomputable def kwT:List Nat:=[18,19,20,21,22,23,24]
noncomputable def nms:Nms:=⟨⟨102,53,102,73⟩,topG.map λp=>(Str.ofString p.1,p.2),λi=>Str.ofString (nfT.getD i ""),λi=>Str.ofString (ncT.getD i ""),λc=>if c=3 then kwT else []⟩
noncomputable def fnOK (K:Frag) (f:Nat):Bool:=match fnT[f]? with
 | some fn=>fnB K nms (faT.getD f 0) f fn ((visT.getD f []).map λp=>(p.1,Str.ofString p.2))
 | none=>false
theorem t_fns (P:Params):((List.range 57).all λf=>fnOK (Hd.Internal.K39 P) f)=true:=by kernel_rfl
section
variable {h:Heap} {rf rf' gf:Rf} {ι:List Nat} (hr:∀(j i:Nat),ι[j]?=some i->∀a,rf j=some a->rf' i=some a)
include hr
mutual
theorem VR.push:∀(v2:AV) {v:AV} {V:Value},rnA ι v2=some v->VR h rf gf v2 V->VR h rf' gf v V:=@λω=>@λψ=>@λχ=>@λϕ=>@λϱ=>match ω,ψ,χ,ϕ,ϱ with
 | .none,J,ζ,e,x=>Option.some.inj e▸(x:VR h rf' gf .none _)
 | .bool b,J,ζ,e,x=>Option.some.inj e▸(x:VR h rf' gf (.bool b) _)
 | .int b,J,ζ,e,x=>Option.some.inj e▸(x:VR h rf' gf (.int b) _)
 | .str b,J,ζ,e,x=>Option.some.inj e▸(x:VR h rf' gf (.str b) _)
 | .tup xs,J,ζ,e,x=>(mapS e).elim λys q=>q.2▸x.imp λa x=>x.imp λitems x=>⟨x.1,x.2.1,VRs.push xs q.1 x.2.2⟩
 | .ref j,J,ζ,e,x=>(mapS e).elim λi q=>q.2▸x.imp λa z=>⟨hr j i q.1 a z.1,z.2⟩
 | .gl b,J,ζ,e,x=>Option.some.inj e▸(x:VR h rf' gf (.gl b) _)
theorem VRs.push:∀(xs:List AV) {ys:List AV} {vs:List Value},rnAs ι xs=some ys->VRs h rf gf xs vs->VRs h rf' gf ys vs:=@λω=>@λψ=>@λχ=>@λϕ=>@λϱ=>match ω,ψ,χ,ϕ,ϱ with
 | [],J,ζ,e,x=>Option.some.inj e▸(x:VRs h rf' gf [] _)
 | y::xs,J,ζ,e,x=>(rnAs_cons e).elim λz q=>q.elim λzs q=>q.2.2▸x.imp λv x=>x.imp λr x=>⟨x.1,VR.push y q.1 x.2.1,VRs.push xs q.2.1 x.2.2⟩
end
theorem KR.push:∀(kvs:List (Nat×AV)) {kvs':List (Nat×AV)} {l:List (Str×Value)},rnK ι kvs=some kvs'->KR h rf gf kvs l->KR h rf' gf kvs' l:=@λω=>@λψ=>@λχ=>@λϕ=>@λϱ=>match ω,ψ,χ,ϕ,ϱ with
 | [],J,ζ,e,x=>Option.some.inj e▸(x:KR h rf' gf [] _)
 | (J,y)::xs,ζ,η,e,x=>(rnK_cons e).elim λz q=>q.elim λzs q=>q.2.2▸x.imp λv x=>x.imp λr x=>⟨x.1,x.2.1,VR.push hr y q.1 x.2.2.1,KR.push xs q.2.1 x.2.2.2⟩
theorem DR.push:∀(kvs:List (Nat×AV)) {kvs':List (Nat×AV)} {l:List DictEntry},rnK ι kvs=some kvs'->DR h rf gf kvs l->DR h rf' gf kvs' l:=@λω=>@λψ=>@λχ=>@λϕ=>@λϱ=>match ω,ψ,χ,ϕ,ϱ with
 | [],J,ζ,e,x=>Option.some.inj e▸(x:DR h rf' gf [] _)
 | (J,y)::xs,ζ,η,e,x=>(rnK_cons e).elim λz q=>q.elim λzs q=>q.2.2▸x.imp λv x=>x.imp λr x=>⟨x.1,x.2.1,x.2.2.1,VR.push hr y q.1 x.2.2.2.1,DR.push xs q.2.1 x.2.2.2.2⟩
omit hr in
theorem OR.push {C:Cfg} (hr:∀(j i:Nat),ι[j]?=some i->∀a,rf j=some a->rf' i=some a) {o2 o:AO} {as:List Addr} (e:rnO ι o2=some o) (x:OR C h rf o2 as):OR C h rf' o as:=by
 cases o2 with
 | list xs=>
  obtain ⟨ys,h1,rfl⟩:=mapS e
  exact x.imp λa x=>x.imp λitems x=>⟨x.1,x.2.1,VRs.push hr xs h1 x.2.2.1,(rnAs_len h1).symm▸x.2.2.2⟩
 | sdict xs=>
  obtain ⟨ys,h1,rfl⟩:=mapS e
  exact x.imp λa x=>x.imp λl x=>⟨x.1,x.2.1,KR.push hr xs h1 x.2.2.1,(rnK_len h1).symm▸x.2.2.2⟩
 | inst c fs=>
  obtain ⟨ys,h1,rfl⟩:=mapS e
  exact x.imp λa x=>x.imp λdx x=>x.imp λes x=>x.imp λn x=>⟨x.1,x.2.1,x.2.2.1,DR.push hr fs h1 x.2.2.2.1,(rnK_len h1).symm▸x.2.2.2.2⟩
 | box k=>exact Option.some.inj e▸(x:OR C h rf' (.box k) as)
end
noncomputable def over {α:Type}:List Nat->List α->List α->List α:=λω ψ χ=>match ω,ψ,χ with
 | i::ι,x::xs,l=>over ι xs (l.set i x)
 | J,ζ,l=>l
section
variable {α:Type}
theorem over_len:∀(ι:List Nat) (xs l:List α),(over ι xs l).length=l.length:=λω ψ χ=>match ω,ψ,χ with
 | [],J,ζ=>rfl
 | J::ζ,[],η=>rfl
 | i::ι,x::xs,l=>(over_len ι xs (l.set i x)).trans List.length_set
theorem over_out:∀(ι:List Nat) (xs l:List α) (k:Nat),k∉ι->(over ι xs l)[k]?=l[k]?:=λω ψ χ ϕ ϱ=>match ω,ψ,χ,ϕ,ϱ with
 | [],J,ζ,η,θ=>rfl
 | J::ζ,[],η,θ,μ=>rfl
 | i::ι,x::xs,l,k,h=>(over_out ι xs (l.set i x) k λq=>h (.tail _ q)).trans (List.getElem?_set_ne (show i≠k from λq=>h (q▸List.mem_cons_self)))
theorem over_at:∀(ι:List Nat) (xs l:List α) (j i:Nat),ι.Nodup->(∀k∈ι,k<l.length)->j<xs.length->ι[j]?=some i->(over ι xs l)[i]?=xs[j]?:=λω ψ χ ϕ ϱ ς ϑ ϖ ϐ=>match ω,ψ,χ,ϕ,ϱ,ς,ϑ,ϖ,ϐ with
 | [],J,ζ,η,θ,μ,ν,ξ,h=>nomatch h
 | J::ζ,[],η,θ,μ,ν,ξ,hj,π=>absurd hj (Nat.not_lt_zero _)
 | i₀::ι,x::xs,l,0,i,hn,hl,hj,h=>by
  obtain rfl:i₀=i:=Option.some.inj h
  exact (over_out ι xs _ _ (List.nodup_cons.mp hn).1).trans (List.getElem?_set_self (hl _ (.head _)))
 | i₀::ι,x::xs,l,j+1,i,hn,hl,hj,h=>over_at ι xs (l.set i₀ x) j i (List.nodup_cons.mp hn).2 (λk hk=>(List.length_set (as:=l) (i:=i₀) (a:=x)).symm▸hl k (.tail _ hk)) (Nat.lt_of_succ_lt_succ hj) h
noncomputable def jn (ι:List Nat) (xs l:List α):List α:=over ι (xs.take ι.length) l++xs.drop ι.length
noncomputable def renO (ι:List Nat) (n m:Nat):List Nat:=ι++List.range' n (m-ι.length)
variable {ι:List Nat} {xs l:List α}
theorem jn_len:(jn ι xs l).length=l.length+(xs.length-ι.length):=by rw [jn,List.length_append,over_len,List.length_drop]
theorem ren_at {n m j i:Nat} (h:(renO ι n m)[j]?=some i):(j < ι.length/\ι[j]?=some i)\/(ι.length<=j/\i=n+(j-ι.length)):=by
 rcases Nat.lt_or_ge j ι.length with q | q
 ·exact .inl ⟨q,(List.getElem?_append_left q).symm.trans h⟩
 ·have h:=List.getElem?_eq_some_iff.mp ((List.getElem?_append_right q).symm.trans h)
  exact h.elim λJ e=>.inr ⟨q,e.symm.trans (List.getElem_range' ..|>.trans (by rw [Nat.one_mul]))⟩
theorem jn_at (hn:ι.Nodup) (hlt:∀k∈ι,k<l.length) {j i m:Nat} (h:(renO ι l.length m)[j]?=some i) (hj:j<xs.length):(jn ι xs l)[i]?=xs[j]?:=by
 rcases ren_at h with q | q
 ·have hi:i<(over ι (xs.take ι.length) l).length:=over_len ι _ l▸hlt i (List.mem_of_getElem? q.2)
  rw [jn,List.getElem?_append_left hi,over_at ι _ _ j i hn hlt (List.length_take▸Nat.lt_min.mpr ⟨q.1,hj⟩) q.2,List.getElem?_take_of_lt q.1]
 ·rw [jn,List.getElem?_append_right (by rw [over_len,q.2];exact Nat.le_add_right _ _),over_len,List.getElem?_drop,q.2,Nat.add_sub_cancel_left,Nat.add_sub_cancel' q.1]
theorem jn_old {i:Nat} (hi:i<l.length) (hn:i∉ι):(jn ι xs l)[i]?=l[i]?:=by
 rw [jn,List.getElem?_append_left (by rw [over_len];exact hi),over_out _ _ _ _ hn]
theorem jn_kinds (hle:ι.length<=xs.length) {i:Nat} (hi:i<(jn ι xs l).length):(∃j,j<xs.length/\(renO ι l.length xs.length)[j]?=some i)\/(i<l.length/\i∉ι):=by
 by_cases hm:i∈ι
 ·obtain ⟨j,hj,e⟩:=List.mem_iff_getElem.mp hm
  exact .inl ⟨j,Nat.lt_of_lt_of_le hj hle,(List.getElem?_append_left hj).trans ((List.getElem?_eq_getElem hj).trans (congrArg some e))⟩
 ·rcases Nat.lt_or_ge i l.length with q | q
  ·exact .inr ⟨q,hm⟩
  ·have hd:i-l.length<xs.length-ι.length:=Nat.sub_lt_left_of_lt_add q (jn_len▸hi)
   refine .inl ⟨ι.length+(i-l.length),Nat.add_lt_of_lt_sub' hd,?_⟩
   rw [renO,List.getElem?_append_right (Nat.le_add_right _ _),Nat.add_sub_cancel_left,List.getElem?_range' hd,Nat.one_mul,Nat.add_sub_cancel' q]
end
noncomputable def mapM' (ι:List Nat):List AO->Option St:=λω=>match ω with
 | []=>some []
 | o::r=>(rnO ι o).bind λy=>(mapM' ι r).map (λJ=>y::J)
theorem mapM_at {ι:List Nat}:∀{l l':List AO},mapM' ι l=some l'->l'.length=l.length/\∀(j:Nat) (o:AO),l[j]?=some o->∃o',l'[j]?=some o'/\rnO ι o=some o':=@λω=>@λψ=>@λχ=>match ω,ψ,χ with
 | [],J,e=>Option.some.inj e▸⟨rfl,λJ J h=>nomatch h⟩
 | o::r,l',e=>(some2 (f:=List.cons) e).elim λy q=>q.elim λys q=>q.2.2▸have h:=mapM_at q.2.1
  ⟨congrArg Nat.succ h.1,λj o'=>match j with
   | 0=>λz=>⟨y,rfl,Option.some.inj z▸q.1⟩
   | j+1=>h.2 j o'⟩
noncomputable def back (ι:List Nat) (σ σ2:St) (v2:AV):Option (AV×St):=
 let ren:=ι++List.range' σ.length (σ2.length-ι.length)
 (rnA ren v2).bind λv=>(mapM' ren σ2).map λos=>(v,over ι (os.take ι.length) σ++os.drop ι.length)
theorem nodup_join:∀{ρ:Ro},(∀as∈ρ,as.Nodup)->(∀(i j:Nat) (as bs:List Addr),i≠j->ρ[i]?=some as->ρ[j]?=some bs->∀a∈as,a∉bs)->ρ.flatten.Nodup:=@λω=>@λψ=>@λχ=>match ω,ψ,χ with
 | [],J,ζ=>List.nodup_nil
 | x::r,h1,h2=>List.nodup_append.mpr ⟨h1 x (.head _),nodup_join (λas h=>h1 as (.tail _ h)) (λi j as bs hij=>h2 (i+1) (j+1) as bs λz=>hij (Nat.succ.inj z)),λa ha b hb e=>by
  obtain ⟨as,m1,m2⟩:=List.mem_flatten.mp hb
  obtain ⟨i,hi,z⟩:=List.mem_iff_getElem.mp m1
  exact h2 0 (i+1) x as (Nat.succ_ne_zero i).symm rfl (show r[i]?=some as from List.getElem?_eq_some_iff.mpr ⟨hi,z⟩) a ha (e▸m2)⟩
theorem nodup_part {ρ:Ro} (h:ρ.flatten.Nodup) {i:Nat} {as:List Addr} (e:ρ[i]?=some as):as.Nodup:=List.Sublist.nodup (List.sublist_flatten_of_mem (List.mem_of_getElem? e)) h
theorem mem_place {ρ:Ro} {b:Addr} (h:b∈ρ.flatten):∃(i:Nat) (as:List Addr),ρ[i]?=some as/\b∈as:=by
 obtain ⟨as,m1,m2⟩:=List.mem_flatten.mp h
 obtain ⟨i,hi,z⟩:=List.mem_iff_getElem.mp m1
 exact ⟨i,as,List.getElem?_eq_some_iff.mpr ⟨hi,z⟩,m2⟩
section
variable {C:Cfg} (B:BoxOK C)
include B
theorem back_rel {ι:List Nat} {ρ ρ2:Ro} {σ σ2 σb σ':St} {s s':Shared} {v2 v:AV} {m m2:Lo} (R:Rel C ρ σ s.heap) (L:Bas C s.heap) (V:VwI 0 ι m σ m2 σb) (a:Aft C (pick ρ ι) s s' ρ2) (R2:Rel C ρ2 σ2 s'.heap)
  (hb:back ι σ σ2 v2=some (v,σ')):∃ρ',Aft C ρ s s' ρ'/\Rel C ρ' σ' s'.heap/\∀V,VR s'.heap (ab ρ2) C.gf v2 V->VR s'.heap (ab ρ') C.gf v V:=by
 obtain ⟨v₀,os,e1,e2,e3⟩:=some2 (f:=λ(v:AV) (os:St)=>(v,over ι (os.take ι.length) σ++os.drop ι.length)) (show _=some (v,σ') from hb)
 obtain rfl:v₀=v:=congrArg Prod.fst e3
 obtain rfl:jn ι os σ=σ':=congrArg Prod.snd e3
 have ho:=mapM_at e2
 have hle:ι.length<=ρ2.length:=by have:=a.ext.len;rw [pick,List.length_map] at this;exact this
 have hl2:=R2.len
 have hltρ:∀k∈ι,k < ρ.length:=λk hk=>R.len▸V.lt k hk
 have ren:ι++List.range' σ.length (σ2.length-ι.length)=renO ι ρ.length ρ2.length:=by rw [renO,R.len,R2.len]
 rw [ren] at e1 e2 ho
 have at1:∀{j i:Nat},(renO ι ρ.length ρ2.length)[j]?=some i->j < ρ2.length->(jn ι ρ2 ρ)[i]?=ρ2[j]?:=λh hj=>jn_at V.nd hltρ h hj
 have st1:∀{j i:Nat},(renO ι ρ.length ρ2.length)[j]?=some i->j < ρ2.length->(jn ι os σ)[i]?=os[j]?:=λh hj=>jn_at V.nd V.lt (R.len▸h) (ho.1.symm▸hl2▸hj)
 have kinds:∀{i:Nat} {as:List Addr},(jn ι ρ2 ρ)[i]?=some as->(∃j,j < ρ2.length/\(renO ι ρ.length ρ2.length)[j]?=some i/\ρ2[j]?=some as)\/(i < ρ.length/\i∉ι/\ρ[i]?=some as):=λe=>
  (jn_kinds hle (List.getElem?_eq_some_iff.mp e).1).imp (λz=>z.imp λj z=>⟨z.1,z.2,(at1 z.2 z.1).symm.trans e⟩) λz=>⟨z.1,z.2,(jn_old z.1 z.2).symm.trans e⟩
 have grw:Grw ρ (jn ι ρ2 ρ):=λi as h=>by
  by_cases hm:i∈ι
  ·obtain ⟨j,hj,e⟩:=List.mem_iff_getElem.mp hm
   have e':ι[j]?=some i:=List.getElem?_eq_some_iff.mpr ⟨hj,e⟩
   refine (a.ext j as (by rw [pick,List.getElem?_map,e',Option.map_some,h];rfl)).imp λmore q=>(at1 ((List.getElem?_append_left hj).trans e') (Nat.lt_of_lt_of_le hj hle)).trans q
  ·exact ⟨[],by rw [List.append_nil,jn_old (List.getElem?_eq_some_iff.mp h).1 hm];exact h⟩
 have unseen:∀{i:Nat} {as:List Addr},ρ[i]?=some as->i∉ι->∀b∈as,b∉(pick ρ ι).flatten:=@λi as h hn b hb q=>by
  obtain ⟨bs,m1,m2⟩:=List.mem_flatten.mp q
  obtain ⟨k,hk,rfl⟩:=List.mem_map.mp m1
  exact (mem_getD m2).elim λcs z=>nodup_apart R.nd (show i≠k from λy=>hn (y▸hk)) h z.1 b hb z.2
 have apart2:∀{i:Nat} {as:List Addr},ρ[i]?=some as->i∉ι->∀b∈as,b∉ρ2.flatten:=λh hn b hb q=>(a.fresh b q).elim (unseen h hn b hb) λz=>
  (OR.there B _ (R.obj _ _ _ (List.getElem?_eq_getElem (R.len▸(List.getElem?_eq_some_iff.mp h).1)) h) b hb).elim λJ e=>nomatch z.1.symm.trans e
 have mem':∀b∈(jn ι ρ2 ρ).flatten,b∈ρ2.flatten\/b∈ρ.flatten:=λb hb=>(mem_place hb).elim λi z=>z.elim λas z=>(kinds z.1).imp (λy=>y.elim λj y=>mem_flat y.2.2 z.2) λy=>mem_flat y.2.2 z.2
 have frm:Frm C ρ.flatten s.heap s'.heap:=λb o e hb hp=>a.frm b o e (λq=>hb (mem_pick q)) hp
 have rfP:∀(j i:Nat),(renO ι ρ.length ρ2.length)[j]?=some i->∀a,ab ρ2 j=some a->ab (jn ι ρ2 ρ) i=some a:=λj i h b hb=>(Option.bind_eq_some_iff.mp hb).elim λas q=>
  Option.bind_eq_some_iff.mpr ⟨as,(at1 h (List.getElem?_eq_some_iff.mp q.1).1).trans q.1,q.2⟩
 refine ⟨jn ι ρ2 ρ,⟨a.rest,grw,λb hb=>(mem' b hb).elim (λq=>(a.fresh b q).imp mem_pick id) .inl,frm⟩,⟨by rw [jn_len,jn_len,R.len,ho.1,hl2],λi o as h1 h2=>?_,?_,λb hb=>(mem' b hb).elim (R2.new b) (R.new b)⟩,λV hV=>VR.push rfP v2 e1 hV⟩
 ·rcases kinds h2 with ⟨j,hj,e,h2⟩ | ⟨q1,q2,h2⟩
  ·rw [st1 e hj] at h1
   refine (ho.2 j (σ2[j]'(hl2▸hj)) (List.getElem?_eq_getElem _)).elim λo' z=>?_
   obtain rfl:o'=o:=Option.some.inj (z.1.symm.trans h1)
   exact OR.push rfP z.2 (R2.obj j _ as (List.getElem?_eq_getElem _) h2)
  ·rw [jn_old (R.len▸q1) q2] at h1
   exact OR.mono grw.rf (Rel.tup B R frm L) B o (λb hb ob e=>a.frm b ob e (unseen h2 q2 b hb) (R.new b (mem_flat h2 hb)).2) (R.obj i o as h1 h2)
 ·refine nodup_join (λas h=>?_) λi j as bs hij h1 h2 b hb hb2=>?_
  ·obtain ⟨i,hi,z⟩:=List.mem_iff_getElem.mp h
   exact (kinds (List.getElem?_eq_some_iff.mpr ⟨hi,z⟩)).elim (λz=>z.elim λj z=>nodup_part R2.nd z.2.2) λz=>nodup_part R.nd z.2.2
  ·rcases kinds h1 with ⟨i',hi',e,h1⟩ | ⟨q1,q2,h1⟩
   ·rcases kinds h2 with ⟨j',hj',e',h2⟩ | ⟨z1,z2,h2⟩
    ·exact nodup_apart R2.nd (λz:i'=j'=>hij (Option.some.inj (e.symm.trans (z▸e')))) h1 h2 b hb hb2
    ·exact apart2 h2 z2 b hb2 (mem_flat h1 hb)
   ·rcases kinds h2 with ⟨j',hj',e',h2⟩ | ⟨z1,z2,h2⟩
    ·exact apart2 h1 q2 b hb (mem_flat h2 hb2)
    ·exact nodup_apart R.nd hij h1 h2 b hb hb2
theorem aa.view {f:Nat} {args args2:List AV} {σ σb:St} {Φ Ψ:AV->St->Prop} (ι:List Nat) (hn:ι.Nodup) (hlt:∀i∈ι,i < σ.length) (ho:σb.map (rnO ι)=ι.map (λi=>σ[i]?)) (ha:rnAs ι args2=some args)
  (h:aa C f args2 σb Ψ) (k:∀v2 σ2,Ψ v2 σ2->∃p,back ι σ σ2 v2=some p/\Φ p.1 p.2):aa C f args σ Φ:=by
 intro A s ρ Vs as fd Q hA R L hfd hv hb hk
 have V:VwI 0 ι [] σ [] σb:=⟨hn,hlt,λj hj=>absurd hj (Nat.not_lt_zero _),ho,trivial⟩
 refine h A s (pick ρ ι) Vs as fd Q hA (Rel.pick R V) L hfd (VRs.pick args2 ha hv) hb λV s' ρ2 v2 σ2 a R2 L' hv2 hΨ=>?_
 obtain ⟨⟨v,σ'⟩,e,hΦ⟩:=k v2 σ2 hΨ
 obtain ⟨ρ',q1,q2,q3⟩:=back_rel B R L ‹VwI 0 ι [] σ [] σb› a R2 e
 exact hk V s' ρ' v σ' q1 q2 L' (q3 V hv2) hΦ
theorem aa.post {f:Nat} {args:List AV} {σ:St} {Φ Ψ:AV->St->Prop} (h:aa C f args σ Ψ) (k:∀v σ',Ψ v σ'->∃v2 σ2,Vw σ.length [some v] σ' [some v2] σ2/\Φ v2 σ2):aa C f args σ Φ:=by
 intro A s ρ Vs as fd Q hA R L hfd hv hb hk
 refine h A s ρ Vs as fd Q hA R L hfd hv hb λV s' ρ' v σ' a R' L' hv' hΨ=>?_
 obtain ⟨v2,σ2,hV,hΦ⟩:=k v σ' hΨ
 obtain ⟨ρ2,q1,q2,_,q3,_⟩:=view_ok R' hV (Nat.le_of_eq R.len) a
 obtain ⟨v₀,z1,z2⟩:=q3 0 v2 rfl
 cases z1
 exact hk V s' ρ2 v2 σ2 q2 q1 L' (z2 V hv') hΦ
theorem aa.mono {f:Nat} {args:List AV} {σ:St} {Φ Ψ:AV->St->Prop} (h:aa C f args σ Ψ) (k:∀v σ',Ψ v σ'->Φ v σ'):aa C f args σ Φ:=
 aa.post B h λv σ' q=>⟨v,σ',.inl ⟨rfl,rfl⟩,k v σ' q⟩
end
mutual
noncomputable def frV {R:Type}:AV->(AV->R)->R:=λω ψ=>match ω,ψ with
 | .none,k=>k .none
 | .bool true,k=>k (.bool true)
 | .bool false,k=>k (.bool false)
 | .int (.ofNat n),k=>(match n with
  | 0=>k (.int (.ofNat 0))
  | m+1=>k (.int (.ofNat (m+1))))
 | .int (.negSucc n),k=>(match n with
  | 0=>k (.int (.negSucc 0))
  | m+1=>k (.int (.negSucc (m+1))))
 | .str n,k=>k (.str n)
 | .tup xs,k=>frL xs λys=>k (.tup ys)
 | .ref n,k=>(match n with
  | 0=>k (.ref 0)
  | m+1=>k (.ref (m+1)))
 | .gl n,k=>k (.gl n)
noncomputable def frL {R:Type}:List AV->(List AV->R)->R:=λω ψ=>match ω,ψ with
 | [],k=>k []
 | x::xs,k=>frV x λy=>frL xs λys=>k (y::ys)
end
noncomputable def frD {R:Type}:List (Nat×AV)->(List (Nat×AV)->R)->R:=λω ψ=>match ω,ψ with
 | [],k=>k []
 | (n,x)::xs,k=>frV x λy=>frD xs λys=>k ((n,y)::ys)
noncomputable def frO {R:Type}:AO->(AO->R)->R:=λω ψ=>match ω,ψ with
 | .list xs,k=>frL xs λys=>k (.list ys)
 | .sdict xs,k=>frD xs λys=>k (.sdict ys)
 | .inst c xs,k=>frD xs λys=>k (.inst c ys)
 | .box n,k=>k (.box n)
noncomputable def frS {R:Type}:St->(St->R)->R:=λω ψ=>match ω,ψ with
 | [],k=>k []
 | x::xs,k=>frO x λy=>frS xs λys=>k (y::ys)
noncomputable def frM {R:Type}:Lo->(Lo->R)->R:=λω ψ=>match ω,ψ with
 | [],k=>k []
 | none::xs,k=>frM xs λys=>k (none::ys)
 | some x::xs,k=>frV x λy=>frM xs λys=>k (some y::ys)
mutual
theorem frV_eq {R:Type}:∀(x:AV) (k:AV->R),frV x k=k x:=λω ψ=>match ω,ψ with
 | .none,J=>rfl
 | .bool true,J=>rfl
 | .bool false,J=>rfl
 | .int (.ofNat 0),J=>rfl
 | .int (.ofNat (J+1)),ζ=>rfl
 | .int (.negSucc 0),J=>rfl
 | .int (.negSucc (J+1)),ζ=>rfl
 | .str J,ζ=>rfl
 | .tup xs,k=>frL_eq xs _
 | .ref 0,J=>rfl
 | .ref (J+1),ζ=>rfl
 | .gl J,ζ=>rfl
theorem frL_eq {R:Type}:∀(x:List AV) (k:List AV->R),frL x k=k x:=λω ψ=>match ω,ψ with
 | [],J=>rfl
 | x::xs,k=>(frV_eq x _).trans (frL_eq xs _)
end
theorem frD_eq {R:Type}:∀(x:List (Nat×AV)) (k:List (Nat×AV)->R),frD x k=k x:=λω ψ=>match ω,ψ with
 | [],J=>rfl
 | (J,x)::xs,k=>(frV_eq x _).trans (frD_eq xs _)
theorem frO_eq {R:Type} (x:AO) (k:AO->R):frO x k=k x:=by
 cases x<;>first | exact frL_eq _ _ | exact frD_eq _ _ | rfl
theorem frS_eq {R:Type}:∀(x:St) (k:St->R),frS x k=k x:=λω ψ=>match ω,ψ with
 | [],J=>rfl
 | x::xs,k=>(frO_eq x _).trans (frS_eq xs _)
theorem frM_eq {R:Type}:∀(x:Lo) (k:Lo->R),frM x k=k x:=λω ψ=>match ω,ψ with
 | [],J=>rfl
 | none::xs,k=>frM_eq xs _
 | some x::xs,k=>(frV_eq x _).trans (frM_eq xs _)
noncomputable def pinC (p:Nat):Src->Bool:=λω=>match ω with
 | .list i=>decide (i<p)
 | .enum i=>decide (i<p)
 | .keys i=>decide (i<p)
 | .fix xs=>(rnAs [] xs).isSome
 | .rng J ζ=>true
theorem pinC_at {p:Nat} {src:Src} (h:pinC p src=true):pinS p src:=by
 cases src with
 | fix xs=>exact Option.isSome_iff_exists.mp h
 | rng J ζ=>trivial
 | list i=>exact (odT h:i<p)
 | enum i=>exact (odT h:i<p)
 | keys i=>exact (odT h:i<p)
noncomputable def srcP (p:Nat):Src->Nat:=λω=>match ω with
 | .list i=>max p (i+1)
 | .enum i=>max p (i+1)
 | .keys i=>max p (i+1)
 | J=>p
theorem srcP_le (p:Nat) (src:Src):p<=srcP p src:=by cases src<;>first | exact Nat.le_max_left .. | exact Nat.le_refl p
mutual
noncomputable def refsV:AV->List Nat->List Nat:=λω ψ=>match ω,ψ with
 | .tup xs,acc=>refsL xs acc
 | .ref i,acc=>i::acc
 | J,acc=>acc
noncomputable def refsL:List AV->List Nat->List Nat:=λω ψ=>match ω,ψ with
 | [],acc=>acc
 | x::xs,acc=>refsV x (refsL xs acc)
end
noncomputable def refsD:List (Nat×AV)->List Nat->List Nat:=λω ψ=>match ω,ψ with
 | [],acc=>acc
 | (J,x)::xs,acc=>refsV x (refsD xs acc)
noncomputable def refsO:AO->List Nat->List Nat:=λω ψ=>match ω,ψ with
 | .list xs,acc=>refsL xs acc
 | .sdict xs,acc=>refsD xs acc
 | .inst J xs,acc=>refsD xs acc
 | .box J,acc=>acc
noncomputable def refsS:St->List Nat->List Nat:=λω ψ=>match ω,ψ with
 | [],acc=>acc
 | x::xs,acc=>refsO x (refsS xs acc)
noncomputable def refsM:Lo->List Nat->List Nat:=λω ψ=>match ω,ψ with
 | [],acc=>acc
 | none::xs,acc=>refsM xs acc
 | some x::xs,acc=>refsV x (refsM xs acc)
noncomputable def elemN (i:Nat):List Nat->Bool:=λω=>match ω with
 | []=>false
 | j::r=>match Nat.beq i j with
  | true=>true
  | false=>elemN i r
noncomputable def reach (σ:St):Nat->List Nat->List Nat->List Nat:=λω ψ χ=>match ω,ψ,χ with
 | 0,J,seen=>seen
 | J+1,[],seen=>seen
 | n+1,i::todo,seen=>match elemN i seen with
  | true=>reach σ n todo seen
  | false=>match σ[i]? with
   | none=>reach σ n todo seen
   | some o=>reach σ n (refsO o todo) (i::seen)
noncomputable def posIn (i:Nat):List Nat->Nat->Option Nat:=λω ψ=>match ω,ψ with
 | [],J=>none
 | j::r,n=>if i=j then some n else posIn i r (n+1)
mutual
noncomputable def invV (ι:List Nat):AV->Option AV:=λω=>match ω with
 | .none=>some .none
 | .bool b=>some (.bool b)
 | .int i=>some (.int i)
 | .str k=>some (.str k)
 | .tup xs=>(invVs ι xs).map .tup
 | .ref j=>(posIn j ι 0).map .ref
 | .gl k=>some (.gl k)
noncomputable def invVs (ι:List Nat):List AV->Option (List AV):=λω=>match ω with
 | []=>some []
 | x::xs=>(invV ι x).bind λy=>(invVs ι xs).map (λJ=>y::J)
end
noncomputable def invK (ι:List Nat):List (Nat×AV)->Option (List (Nat×AV)):=λω=>match ω with
 | []=>some []
 | (k,x)::xs=>(invV ι x).bind λy=>(invK ι xs).map (λJ=>(k,y)::J)
noncomputable def invO (ι:List Nat):AO->Option AO:=λω=>match ω with
 | .list xs=>(invVs ι xs).map .list
 | .sdict kvs=>(invK ι kvs).map .sdict
 | .inst c fs=>(invK ι fs).map (.inst c)
 | .box k=>some (.box k)
noncomputable def invS (ι:List Nat) (σ:St):List Nat->Option St:=λω=>match ω with
 | []=>some []
 | i::r=>(σ[i]?).bind λo=>(invO ι o).bind λy=>(invS ι σ r).map (λJ=>y::J)
noncomputable def invM (ι:List Nat):Lo->Lo:=λω=>match ω with
 | []=>[]
 | none::r=>none::invM ι r
 | some v::r=>invV ι v::invM ι r
theorem posIn_at {i:Nat}:∀{l:List Nat} {n j:Nat},posIn i l n=some j->∃k,j=n+k/\l[k]?=some i:=@λω=>@λψ=>@λχ=>@λϕ=>match ω,ψ,χ,ϕ with
 | [],J,ζ,h=>nomatch h
 | a::r,n,j,h=>by
  by_cases q:i=a
  ·exact ⟨0,(Option.some.inj ((if_pos q).symm.trans h)).symm,q▸rfl⟩
  ·exact (posIn_at ((if_neg q).symm.trans h)).elim λk z=>⟨k+1,z.1.trans (Nat.succ_add_eq_add_succ n k),z.2⟩
theorem ak {α β γ:Type} {a:Option α} {b:Option β} {f:α->β->γ} {y:α} {ys:β} (h1:a=some y) (h2:b=some ys):(a.bind λy=>b.map (f y))=some (f y ys):=by rw [h1,h2];rfl
mutual
theorem invV_rn {ι:List Nat}:∀{v v2:AV},invV ι v=some v2->rnA ι v2=some v:=@λω=>@λψ=>@λχ=>match ω,ψ,χ with
 | .none,J,h=>Option.some.inj h▸rfl
 | .bool J,ζ,h=>Option.some.inj h▸rfl
 | .int J,ζ,h=>Option.some.inj h▸rfl
 | .str J,ζ,h=>Option.some.inj h▸rfl
 | .gl J,ζ,h=>Option.some.inj h▸rfl
 | .tup J,ζ,h=>(mapS h).elim λJ q=>q.2▸congrArg (Option.map AV.tup) (invVs_rn q.1)
 | .ref j,J,h=>(mapS h).elim λi q=>q.2▸(posIn_at q.1).elim λk z=>congrArg (Option.map AV.ref) (show ι[i]?=some j from (z.1.trans (Nat.zero_add k)).symm▸z.2)
theorem invVs_rn {ι:List Nat}:∀{v v2:List AV},invVs ι v=some v2->rnAs ι v2=some v:=@λω=>@λψ=>@λχ=>match ω,ψ,χ with
 | [],J,h=>Option.some.inj h▸rfl
 | J::ζ,η,h=>(some2 (f:=List.cons) h).elim λJ q=>q.elim λJ q=>q.2.2▸ak (f:=List.cons) (invV_rn q.1) (invVs_rn q.2.1)
end
theorem invK_rn {ι:List Nat}:∀{v v2:List (Nat×AV)},invK ι v=some v2->rnK ι v2=some v:=@λω=>@λψ=>@λχ=>match ω,ψ,χ with
 | [],J,h=>Option.some.inj h▸rfl
 | (k,J)::ζ,η,h=>(some2 (f:=λy ys=>(k,y)::ys) h).elim λJ q=>q.elim λJ q=>q.2.2▸ak (f:=λy ys=>(k,y)::ys) (invV_rn q.1) (invK_rn q.2.1)
theorem invO_rn {ι:List Nat} {o o2:AO} (h:invO ι o=some o2):rnO ι o2=some o:=by
 cases o with
 | list xs=>exact (mapS h).elim λJ q=>q.2▸congrArg (Option.map AO.list) (invVs_rn q.1)
 | sdict xs=>exact (mapS h).elim λJ q=>q.2▸congrArg (Option.map AO.sdict) (invK_rn q.1)
 | inst c xs=>exact (mapS h).elim λJ q=>q.2▸congrArg (Option.map (AO.inst c)) (invK_rn q.1)
 | box k=>exact Option.some.inj h▸rfl
theorem invS_rn {ι:List Nat} {σ:St}:∀{l:List Nat} {σ2:St},invS ι σ l=some σ2->σ2.map (rnO ι)=l.map (λi=>σ[i]?):=@λω=>@λψ=>@λχ=>match ω,ψ,χ with
 | [],J,h=>Option.some.inj h▸rfl
 | i::r,σ2,h=>(Option.bind_eq_some_iff.mp h).elim λo z=>(some2 (f:=List.cons) z.2).elim λJ q=>q.elim λJ q=>q.2.2▸congr (congrArg List.cons ((invO_rn q.1).trans z.1.symm)) (invS_rn q.2.1)
theorem invM_rn {ι:List Nat}:∀(m:Lo),VwM ι (invM ι m) m:=λω=>match ω with
 | []=>trivial
 | none::r=>⟨trivial,invM_rn r⟩
 | some v::r=>by
  refine ⟨?_,invM_rn r⟩
  show match invV ι v,some v with | none,J=>True | some v2,some v=>rnA ι v2=some v | some J,none=>False
  cases h:invV ι v with
  | none=>trivial
  | some v2=>exact invV_rn h
noncomputable def keepJ (p:Nat) (m:Lo) (σ:St):List Nat:=
 let a:=reach σ 1000 (refsS (σ.take p) []) []
 let b:=reach σ 1000 (refsM m []) []
 List.range p++((List.range' p (σ.length-p)).filter (λi=>elemN i a)++(List.range' p (σ.length-p)).filter λi=>!elemN i a&&elemN i b)
noncomputable def gcJ (p:Nat) (m:Lo) (σ:St):Lo×St:=
 let ι:=keepJ p m σ
 match invS ι σ ι with
 | some σ2=>(invM ι m,σ2)
 | none=>(m,σ)
theorem range'_mem {p n i:Nat} {f:Nat->Bool} (h:i∈(List.range' p n).filter f):p<=i/\i<p+n:=List.mem_range'_1.mp (List.mem_filter.mp h).1
theorem gcJ_vw {p:Nat} {m:Lo} {σ:St} (hp:p<=σ.length):Vw p m σ (gcJ p m σ).1 (gcJ p m σ).2:=by
 unfold gcJ
 simp only
 cases h:invS (keepJ p m σ) σ (keepJ p m σ) with
 | none=>exact .inl ⟨rfl,rfl⟩
 | some σ2=>
  unfold keepJ at h ⊢
  simp only at h ⊢
  refine .inr ⟨_,?_,λi hi=>?_,λj hj=>?_,invS_rn h,invM_rn m⟩
  ·refine List.nodup_append.mpr ⟨List.nodup_range,List.nodup_append.mpr ⟨List.Nodup.sublist List.filter_sublist List.nodup_range',List.Nodup.sublist List.filter_sublist List.nodup_range',λa ha b hb e=>?_⟩,λa ha b hb e=>?_⟩
   ·have h1:=(List.mem_filter.mp ha).2
    have h2:=(List.mem_filter.mp hb).2
    rw [<-e,h1] at h2
    exact ffT h2
   ·exact absurd (List.mem_range.mp ha) (Nat.not_lt.mpr (e▸(List.mem_append.mp hb).elim (λq=>(range'_mem q).1) λq=>(range'_mem q).1))
  ·have e:=Nat.add_sub_cancel' hp
   exact (List.mem_append.mp hi).elim (λq=>Nat.lt_of_lt_of_le (List.mem_range.mp q) hp) λq=>(List.mem_append.mp q).elim (λq=>e▸(range'_mem q).2) λq=>e▸(range'_mem q).2
  ·rw [List.getElem?_append_left (List.length_range▸hj),List.getElem?_range hj]
section
variable (τ:Tb)
noncomputable def swK (p:Nat) (m:Lo) (σ:St) (k:Lo->St->Res):Res:=match decide (σ.length<=p+40) with
 | true=>k m σ
 | false=>match gcJ p m σ with
  | (m,σ)=>frM m λm=>frS σ λσ=>k m σ
noncomputable def nextR (p:Nat) (go:Lo->St->Res) (m:Lo) (σ:St):Res:=match decide (p<=σ.length) with
 | true=>swK p m σ λm σ=>frM m λm=>go m σ
 | false=>none
theorem nextR_at {p:Nat} {go:Lo->St->Res} {m:Lo} {σ:St} {x:AV×St} (h:nextR p go m σ=some x):∃m2 σ2,Vw p m σ m2 σ2/\go m2 σ2=some x:=by
 unfold nextR at h
 cases hd:decide (p<=σ.length) with
 | false=>rw [hd] at h;exact ae h
 | true=>
  rw [hd] at h
  have h:swK p m σ (λm σ=>frM m λm=>go m σ)=some x:=h
  unfold swK at h
  cases hz:decide (σ.length<=p+40) with
  | true=>rw [hz] at h;exact ⟨m,σ,.inl ⟨rfl,rfl⟩,(frM_eq m _).symm.trans h⟩
  | false=>
   rw [hz] at h
   exact ⟨_,_,gcJ_vw (m:=m) (odT hd),(frM_eq _ _).symm.trans ((frS_eq _ _).symm.trans ((frM_eq _ _).symm.trans h))⟩
noncomputable def forR (p:Nat) (src:Src) (t:T) (body:Lo->St->(Fl->Lo->St->Res)->Res) (k:Fl->Lo->St->Res):Nat->Nat->Lo->St->Res:=λω ψ χ ϕ=>match ω,ψ,χ,ϕ with
 | 0,J,ζ,η=>none
 | n+1,j,m,σ=>match itemAt σ src j with
  | none=>none
  | some none=>k .next m σ
  | some (some v)=>match aw t v m with
   | none=>none
   | some m=>body m σ λfl m σ=>match fl with
    | .ret v=>k (.ret v) m σ
    | J=>nextR p (forR p src t body k n (j+1)) m σ
noncomputable def whileR (test:Lo->St->(Bool->St->Res)->Res) (body:Lo->St->(Fl->Lo->St->Res)->Res) (k:Fl->Lo->St->Res):Nat->Lo->St->Res:=λω ψ χ=>match ω,ψ,χ with
 | 0,J,ζ=>none
 | n+1,m,σ=>test m σ λb σ=>match b with
  | false=>k .next m σ
  | true=>body m σ λfl m σ=>match fl with
   | .ret v=>k (.ret v) m σ
   | J=>frM m λm=>whileR test body k n m σ
noncomputable def compR (src:Src) (t:T) (step:Lo->St->(Option AV->St->Res)->Res) (m:Lo) (pos:Nat) (k:AV->St->Res):Nat->Nat->St->Res:=λω ψ χ=>match ω,ψ,χ with
 | 0,J,ζ=>none
 | n+1,j,σ=>match itemAt σ src j with
  | none=>none
  | some none=>k (.ref pos) σ
  | some (some v)=>match aw t v m with
   | none=>none
   | some m'=>step m' σ λo σ=>match o with
    | none=>compR src t step m pos k n (j+1) σ
    | some y=>match σ[pos]? with
     | some (.list xs)=>match decide (xs.length<SZ) with
      | true=>compR src t step m pos k n (j+1) (σ.set pos (.list (xs++[y])))
      | false=>none
     | J=>none
noncomputable def runA (S:Nat->List AV->St->Res):Nat->Nat->Alg Res:=λω ψ=>match ω,ψ with
 | 0,J=>⟨none,λJ J J J=>none,λJ J J J J J J=>none,λJ J J J J J=>none,λJ J J J J J J=>none⟩
 | n+1,d=>{
   fail:=none
   call:=λf args σ k=>match decide (f<d/\args.length=τ.arity f) with
    | true=>frL args λargs=>(match S f args σ with
     | some p=>k p.1 p.2
     | none=>(match fnT[f]? with
      | none=>none
      | some fn=>match decide (args.length=fn.n) with
       | true=>aA τ (runA S n f) fn.body σ.length (startL fn args) σ λfl J σ=>match fl with
        | .ret v=>k v σ
        | .next=>k .none σ
        | .cont=>none
       | false=>none))
    | false=>none
   forL:=λp src t body m σ k=>match pinC (srcP p src) src with
    | true=>forR (srcP p src) src t (body (srcP p src)) k 1000 0 m σ
    | false=>none
   whileL:=λp test body m σ k=>whileR test (body p) k 1000 m σ
   compL:=λsrc t step m σ pos k=>match pinC pos src with
    | true=>compR src t step m pos k 1000 0 σ
    | false=>none }
end
theorem bS {b:Bool} {r:Res} {x:AV×St} (h:(match b with | true=>r | false=>none)=some x):b=true/\r=some x:=by
 cases b with
 | true=>exact ⟨rfl,h⟩
 | false=>exact ae h
noncomputable def Snd (C:Cfg):Prop:=∀f fn args σ Φ,fnT[f]?=some fn->args.length=fn.n->(aA C.τ (vcA C f) fn.body σ.length (startL fn args) σ λfl J σ'=>match fl with
 | .ret v=>Φ v σ'
 | .next=>Φ .none σ'
 | .cont=>False)->aa C f args σ Φ
noncomputable def SumOK (C:Cfg) (S:Nat->List AV->St->Res):Prop:=∀f args σ p Φ,S f args σ=some p->Φ p.1 p.2->aa C f args σ Φ
section
variable {C:Cfg} {x:AV×St}
theorem r_for {p:Nat} {src:Src} {t:T} {b:Nat->Lo->St->(Fl->Lo->St->Res)->Res} {c':Nat->Lo->St->(Fl->Lo->St->Prop)->Prop} {m:Lo} {σ:St} {k:Fl->Lo->St->Res} {l:Fl->Lo->St->Prop}
  (hb:∀p m σ k l,(∀fl m σ,k fl m σ=some x->l fl m σ)->b p m σ k=some x->c' p m σ l) (hk:∀fl m σ,k fl m σ=some x->l fl m σ) (hs:pinC (srcP p src) src=true) (h:forR (srcP p src) src t (b (srcP p src)) k 1000 0 m σ=some x):ForP p src t c' m σ l:=by
 refine ⟨srcP p src,1000,λj m σ=>∃n,n+j=1000/\forR (srcP p src) src t (b (srcP p src)) k n j m σ=some x,srcP_le p src,pinC_at hs,⟨1000,rfl,h⟩,λj m σ hI=>hI.elim λn z=>⟨z.1▸Nat.le_add_left j n,?_⟩⟩
 cases n with
 | zero=>exact ae z.2
 | succ n=>
 have nx:∀{m:Lo} {σ:St},nextR (srcP p src) (forR (srcP p src) src t (b (srcP p src)) k n (j+1)) m σ=some x->∃m2 σ2,Vw (srcP p src) m σ m2 σ2/\∃n,n+(j+1)=1000/\forR (srcP p src) src t (b (srcP p src)) k n (j+1) m2 σ2=some x:=λhf=>
  (nextR_at hf).imp λm2 y=>y.imp λσ2 y=>⟨y.1,n,(Nat.succ_add_eq_add_succ n j).symm.trans z.1,y.2⟩
 have hI:=z.2
 revert hI
 show (match itemAt σ src j with
  | none=>none
  | some none=>k .next m σ
  | some (some v)=>match aw t v m with
   | none=>none
   | some m=>b (srcP p src) m σ λfl m σ=>match fl with
    | .ret v=>k (.ret v) m σ
    | J=>nextR (srcP p src) (forR (srcP p src) src t (b (srcP p src)) k n (j+1)) m σ)=some x->_
 cases itemAt σ src j with
 | none=>exact ae
 | some o=>
  cases o with
  | none=>exact hk _ _ _
  | some v=>
   simp only
   cases aw t v m with
   | none=>exact ae
   | some m'=>exact hb _ _ _ _ _ (λfl m σ hf=>by cases fl<;>first | exact hk _ _ _ hf | exact nx hf)
theorem r_while {q:Nat} {a:Lo->St->(Bool->St->Res)->Res} {a':Lo->St->(Bool->St->Prop)->Prop} {b:Nat->Lo->St->(Fl->Lo->St->Res)->Res} {c':Nat->Lo->St->(Fl->Lo->St->Prop)->Prop} {m:Lo} {σ:St} {k:Fl->Lo->St->Res} {l:Fl->Lo->St->Prop}
  (ha:∀m σ k l,(∀b σ,k b σ=some x->l b σ)->a m σ k=some x->a' m σ l)
  (hb:∀p m σ k l,(∀fl m σ,k fl m σ=some x->l fl m σ)->b p m σ k=some x->c' p m σ l) (hk:∀fl m σ,k fl m σ=some x->l fl m σ) (h:whileR a (b q) k 1000 m σ=some x):WhileP q a' c' m σ l:=by
 refine ⟨q,1000,λj m σ=>∃n,n+j=1000/\whileR a (b q) k n m σ=some x,Nat.le_refl _,⟨1000,rfl,h⟩,λj m σ hI=>hI.elim λn z=>⟨z.1▸Nat.le_add_left j n,?_⟩⟩
 cases n with
 | zero=>exact ae z.2
 | succ n=>
 have nx:∀{m:Lo} {σ:St},(frM m λm=>whileR a (b q) k n m σ)=some x->∃m2 σ2,Vw q m σ m2 σ2/\∃n,n+(j+1)=1000/\whileR a (b q) k n m2 σ2=some x:=@λm σ hf=>
  ⟨m,σ,.inl ⟨rfl,rfl⟩,n,(Nat.succ_add_eq_add_succ n j).symm.trans z.1,(frM_eq m _).symm.trans hf⟩
 refine ha _ _ _ _ (λt σ ht=>?_) z.2
 cases t with
 | false=>exact hk _ _ _ ht
 | true=>exact hb _ _ _ _ _ (λfl m σ hf=>by cases fl<;>first | exact hk _ _ _ hf | exact nx hf) ht
theorem r_comp {src:Src} {t:T} {a:Lo->St->(Option AV->St->Res)->Res} {a':Lo->St->(Option AV->St->Prop)->Prop} {m:Lo} {σ:St} {pos:Nat} {k:AV->St->Res} {l:AV->St->Prop}
  (ha:∀m σ k l,(∀o σ,k o σ=some x->l o σ)->a m σ k=some x->a' m σ l) (hk:∀v σ,k v σ=some x->l v σ) (hs:pinC pos src=true) (h:compR src t a m pos k 1000 0 σ=some x):CompP src t a' m σ pos l:=by
 refine ⟨1000,λj σ=>∃n,n+j=1000/\compR src t a m pos k n j σ=some x,pinC_at hs,⟨1000,rfl,h⟩,λj σ hI=>hI.elim λn z=>⟨z.1▸Nat.le_add_left j n,?_⟩⟩
 cases n with
 | zero=>exact ae z.2
 | succ n=>
 have nx:∀{σ:St},compR src t a m pos k n (j+1) σ=some x->∃σ2,Vw (pos+1) [] σ [] σ2/\∃n,n+(j+1)=1000/\compR src t a m pos k n (j+1) σ2=some x:=@λσ hf=>⟨σ,.inl ⟨rfl,rfl⟩,n,(Nat.succ_add_eq_add_succ n j).symm.trans z.1,hf⟩
 have hI:=z.2
 revert hI
 show (match itemAt σ src j with
  | none=>none
  | some none=>k (.ref pos) σ
  | some (some v)=>match aw t v m with
   | none=>none
   | some m'=>a m' σ λo σ=>match o with
    | none=>compR src t a m pos k n (j+1) σ
    | some y=>match σ[pos]? with
     | some (.list xs)=>match decide (xs.length<SZ) with
      | true=>compR src t a m pos k n (j+1) (σ.set pos (.list (xs++[y])))
      | false=>none
     | J=>none)=some x->_
 cases itemAt σ src j with
 | none=>exact ae
 | some o=>
  cases o with
  | none=>exact hk _ _
  | some v=>
   simp only
   cases aw t v m with
   | none=>exact ae
   | some m'=>
    refine ha _ _ _ _ λo σ hf=>?_
    cases o with
    | none=>exact nx hf
    | some y=>
     revert hf
     show (match σ[pos]? with
      | some (.list xs)=>match decide (xs.length<SZ) with
       | true=>compR src t a m pos k n (j+1) (σ.set pos (.list (xs++[y])))
       | false=>none
      | J=>none)=some x->_
     cases hp:σ[pos]? with
     | none=>exact ae
     | some ob=>
      cases ob with
      | list xs=>
       simp only
       cases hd:decide (xs.length<SZ) with
       | true=>exact λhf=>⟨xs,rfl,odT hd,nx hf⟩
       | false=>exact ae
      | sdict J=>exact ae
      | inst J ζ=>exact ae
      | box J=>exact ae
end
section
variable {C:Cfg} {S:Nat->List AV->St->Res} (hS:SumOK C S) (hF:Snd C) (x:AV×St)
include hS hF
theorem run_rel:∀(n d:Nat),AlgRel (runA C.τ S n d) (vcA C d) (λa P=>a=some x->P) Eq:=λω ψ=>match ω,ψ with
 | 0,d=>⟨(λh=>nomatch h),λJ J J J J J h=>(nomatch (show (none:Res)=some x from h)),λJ J J J J J J J J J J J J h=>(nomatch (show (none:Res)=some x from h)),λJ J J J J J J J J J J J J J h=>(nomatch (show (none:Res)=some x from h)),λJ J J J J J J J J J J J h=>nomatch (show (none:Res)=some x from h)⟩
 | n+1,d=>⟨(λh=>nomatch h),λf args σ k l hk h=>by
   have q1:=bS h
   have hc:=odT q1.1
   refine ⟨hc.1,hc.2,?_⟩
   have h:=(frL_eq args _).symm.trans q1.2
   revert h
   show (match S f args σ with
    | some p=>k p.1 p.2
    | none=>(match fnT[f]? with
     | none=>none
     | some fn=>match decide (args.length=fn.n) with
      | true=>aA C.τ (runA C.τ S n f) fn.body σ.length (startL fn args) σ λfl J σ=>match fl with
       | .ret v=>k v σ
       | .next=>k .none σ
       | .cont=>none
      | false=>none))=some x->_
   cases hp:S f args σ with
   | some p=>exact λh=>hS f args σ p l hp (hk _ _ h)
   | none=>
    simp only
    cases hfn:fnT[f]? with
    | none=>exact ae
    | some fn=>
     exact λh=>have q2:=bS h
      hF f fn args σ l hfn (odT q2.1) (evSs_rel (run_rel n f) fn.body rfl (λfl m σ hfl=>by cases fl<;>first | exact hk _ _ hfl | exact ae hfl) q2.2),
  λp p' src t b c m σ k l hp hb hk h=>have q:=bS h;hp▸r_for (b:=b) (λp m σ k l hk=>hb p p m σ k l rfl hk) hk q.1 q.2,
  λp p' a a' b c m σ k l hp ha hb hk h=>hp▸r_while ha (λp m σ k l hk=>hb p p m σ k l rfl hk) hk h,λsrc t a b m σ pos k l ha hk hp h=>have q:=bS h;r_comp ha hk q.1 q.2⟩
theorem run_call {n d f:Nat} {args:List AV} {σ:St} {Φ:AV->St->Prop} (h:(runA C.τ S n d).call f args σ (λv σ=>some (v,σ))=some x) (k:Φ x.1 x.2):aa C f args σ Φ:=
 ((run_rel hS hF x n d).call f args σ _ Φ (λv σ q=>by cases q;exact k) h).2.2
end
noncomputable def il (xs:List Int):List AV:=xs.map AV.int
section
variable {C:Cfg} {d:Nat}
end
theorem av (xs:List Int):(il xs).length=xs.length:=by simp [il]
theorem il_get (xs:List Int) (i:Nat):(il xs)[i]?=(xs[i]?).map AV.int:=by simp [il]
theorem il_app (xs ys:List Int):il (xs++ys)=il xs++il ys:=by simp [il]
section
variable {τ:Tb} {σ:St}
end
theorem x_at {xs:List AV} {i:Nat}:idxL xs (i:Int)=xs[i]?:=by simp [idxL]
theorem il_at {xs:List Int} {i:Nat} (h:i<xs.length):(il xs)[i]?=some (.int (xs.getD i 0)):=by
 rw [il_get,List.getElem?_eq_getElem h,List.getD_eq_getElem?_getD,List.getElem?_eq_getElem h];rfl
section
variable {sc:List Int} {σ:St} {α:Alg Prop} {k:AV->St->Prop} {ks:St->Prop}
theorem a_ref {i n:Nat}:attrA (tb sc) σ (.ref i) n=match σ[i]? with | some (.inst c fs)=>if c<4/\n<25/\(tb sc).mth c n=none then lookA n fs else none | J=>none:=rfl
end
theorem rnAs_il (ι:List Nat):∀xs:List Int,rnAs ι (il xs)=some (il xs):=λω=>match ω with
 | []=>rfl
 | x::xs=>congrArg (Option.map (λJ=>AV.int x::J)) (rnAs_il ι xs)
theorem ag (ι:List Nat) (xs:List Int):rnO ι (.list (il xs))=some (.list (il xs)):=congrArg (Option.map AO.list) (rnAs_il ι xs)
noncomputable def intsOf:List AV->Option (List Int):=λω=>match ω with
 | []=>some []
 | x::r=>onVInt x (λi=>(intsOf r).map (λJ=>i::J)) none
mutual
noncomputable def plainB:AV->Bool:=λω=>match ω with
 | .tup xs=>plainBs xs
 | .ref J=>false
 | .gl J=>false
 | J=>true
noncomputable def plainBs:List AV->Bool:=λω=>match ω with
 | []=>true
 | x::xs=>plainB x&&plainBs xs
end
theorem slice_lo {xs:List AV} {k:Nat} (h:k<=xs.length):ao xs (some (k:Int)) none=xs.drop k:=
 (congrArg (List.drop _) List.take_length).trans (congrArg xs.drop ((clipAt_nat xs.length k).trans (Nat.min_eq_left h)))
noncomputable def aS:Nat->Ss->Ss:=λω ψ=>match ω,ψ with
 | 0,s=>s
 | J+1,.nil=>.nil
 | n+1,.cons J ss=>aS n ss
mutual
theorem rnA_plain {ι:List Nat}:∀{v:AV},plainB v=true->rnA ι v=some v:=@λω=>@λψ=>match ω,ψ with
 | .none,J=>rfl
 | .bool J,ζ=>rfl
 | .int J,ζ=>rfl
 | .str J,ζ=>rfl
 | .tup xs,h=>congrArg (Option.map AV.tup) (rnAs_plain (v:=xs) h)
 | .ref J,h=>ffT h
 | .gl J,h=>ffT h
theorem rnAs_plain {ι:List Nat}:∀{v:List AV},plainBs v=true->rnAs ι v=some v:=@λω=>@λψ=>match ω,ψ with
 | [],J=>rfl
 | x::xs,h=>(congrArg (λJ=>Option.bind J _) (rnA_plain (v:=x) (an2 h).1)).trans (congrArg (Option.map (λJ=>x::J)) (rnAs_plain (v:=xs) (an2 h).2))
end
theorem set_same {α:Type} {l:List α} {i:Nat} {x:α} (h:l[i]?=some x):l.set i x=l:=
 List.ext_getElem? λj=>(Decidable.em (i=j)).elim (λq=>q▸(List.getElem?_set_self (List.getElem?_eq_some_iff.mp h).1).trans h.symm) λq=>List.getElem?_set_ne q
noncomputable def sum1 (_:Nat) (_:List AV) (_:St):Res:=none
theorem sum1_ok {C:Cfg} {sc:List Int} (_:C.τ=tb sc) (_:Snd C) (_:BoxOK C):SumOK C sum1:=λJ J J J J h=>ae h
noncomputable def data0:St:=[.inst 1 [(7,(.ref 1)),(8,(.ref 2)),(9,(.ref 3)),(10,(.ref 4))],
 .sdict [(57,(.str 7)),(41,(.int 0)),(36,(.str 12)),(68,(.str 33)),(53,(.str 20)),(89,(.str 34)),(67,(.str 32)),(65,(.str 23)),(58,(.str 25)),(98,(.str 25)),(88,(.str 25)),(55,(.bool false)),(91,(.bool false)),(40,(.bool false)),(43,(.bool false)),(54,(.bool false)),(47,(.bool false)),(62,(.bool false)),(60,(.bool false)),(100,(.bool false)),(99,(.bool false)),(84,(.bool false)),(85,(.bool false)),(63,(.bool false)),(51,.none),(96,.none),(69,.none),(95,.none),(42,.none),(38,.none),(39,.none),(90,.none),(82,.none),(83,.none),(75,.none),(44,.none),(79,.none),(94,(.tup [])),(92,(.tup [])),(93,(.tup [])),(35,(.tup [])),(61,(.tup [(.str 48),(.tup [])]))],
 .sdict [(61,(.ref 5)),(36,(.ref 6)),(67,(.ref 7)),(57,(.ref 8)),(41,(.ref 9))],
 .sdict [],
 .sdict [],
 .inst 0 [(4,(.tup [(.str 48),(.tup [])])),(5,(.ref 18)),(6,(.ref 19))],
 .inst 0 [(4,(.str 12)),(5,(.ref 14)),(6,(.ref 15))],
 .inst 0 [(4,(.str 32)),(5,(.ref 16)),(6,(.ref 17))],
 .inst 0 [(4,(.str 7)),(5,(.ref 10)),(6,(.ref 11))],
 .inst 0 [(4,(.int 0)),(5,(.ref 12)),(6,(.ref 13))],
 .list [(.int 0),(.int 769),(.int 770),(.int 2307),(.int 2308),(.int 2381),(.int 2382)],
 .list [(.str 7),(.str 19),(.str 7),(.str 17),(.str 7),(.str 19),(.str 7)],
 .list [(.int 0),(.int 769),(.int 770),(.int 2381),(.int 2382)],
 .list [(.int 0),(.int 230),(.int 0),(.int 9),(.int 0)],
 .list [(.int 0),(.int 37),(.int 38),(.int 44),(.int 45),(.int 46),(.int 49),(.int 50),(.int 95),(.int 96),(.int 173),(.int 174),(.int 183),(.int 184),(.int 769),(.int 770),(.int 1488),(.int 1489),(.int 1575),(.int 1577),(.int 1632),(.int 1633),(.int 2381),(.int 2382),(.int 8204),(.int 8206),(.int 8226),(.int 8227)],
 .list [(.str 12),(.str 11),(.str 12),(.str 5),(.str 10),(.str 12),(.str 9),(.str 12),(.str 24),(.str 12),(.str 3),(.str 12),(.str 24),(.str 12),(.str 21),(.str 12),(.str 30),(.str 12),(.str 1),(.str 12),(.str 2),(.str 12),(.str 21),(.str 12),(.str 3),(.str 12),(.str 24),(.str 12)],
 .list [(.int 0),(.int 173),(.int 174),(.int 769),(.int 770),(.int 1575),(.int 1576),(.int 1577),(.int 2381),(.int 2382),(.int 8205),(.int 8206),(.int 43122),(.int 43123)],
 .list [(.str 32),(.str 31),(.str 32),(.str 31),(.str 32),(.str 30),(.str 8),(.str 32),(.str 31),(.str 32),(.str 4),(.str 32),(.str 12),(.str 32)],
 .list [(.int 0),(.int 37),(.int 38),(.int 44),(.int 47),(.int 49),(.int 50),(.int 65),(.int 66),(.int 95),(.int 96),(.int 97),(.int 99),(.int 115),(.int 116),(.int 173),(.int 174),(.int 183),(.int 184),(.int 223),(.int 224),(.int 769),(.int 770),(.int 1488),(.int 1489),(.int 1575),(.int 1577),(.int 1632),(.int 1633),(.int 2307),(.int 2308),(.int 2381),(.int 2382),(.int 7838),(.int 7839),(.int 8204),(.int 8206),(.int 43122),(.int 43123)],
 .list [(.tup [(.str 48),(.tup [])]),(.tup [(.str 97),(.tup [])]),(.tup [(.str 48),(.tup [])]),(.tup [(.str 97),(.tup [])]),(.tup [(.str 48),(.tup [])]),(.tup [(.str 97),(.tup [])]),(.tup [(.str 48),(.tup [])]),(.tup [(.str 71),(.tup [(.int 97)])]),(.tup [(.str 48),(.tup [])]),(.tup [(.str 97),(.tup [])]),(.tup [(.str 48),(.tup [])]),(.tup [(.str 97),(.tup [])]),(.tup [(.str 48),(.tup [])]),(.tup [(.str 97),(.tup [])]),(.tup [(.str 48),(.tup [])]),(.tup [(.str 64),(.tup [])]),(.tup [(.str 48),(.tup [])]),(.tup [(.str 97),(.tup [])]),(.tup [(.str 48),(.tup [])]),(.tup [(.str 46),(.tup [(.int 115),(.int 115)])]),(.tup [(.str 48),(.tup [])]),(.tup [(.str 97),(.tup [])]),(.tup [(.str 48),(.tup [])]),(.tup [(.str 97),(.tup [])]),(.tup [(.str 48),(.tup [])]),(.tup [(.str 97),(.tup [])]),(.tup [(.str 48),(.tup [])]),(.tup [(.str 97),(.tup [])]),(.tup [(.str 48),(.tup [])]),(.tup [(.str 97),(.tup [])]),(.tup [(.str 48),(.tup [])]),(.tup [(.str 97),(.tup [])]),(.tup [(.str 48),(.tup [])]),(.tup [(.str 71),(.tup [(.int 223)])]),(.tup [(.str 48),(.tup [])]),(.tup [(.str 46),(.tup [])]),(.tup [(.str 48),(.tup [])]),(.tup [(.str 97),(.tup [])]),(.tup [(.str 48),(.tup [])])]]
noncomputable def data1:St:=data0.set 2 (.sdict [(61,(.ref 5)),(36,(.ref 6)),(67,(.ref 7)),(57,(.ref 8)),(41,(.ref 9)),(51,(.ref 20))])++[.inst 0 [(4,.none),(5,.ref 21),(6,.ref 22)],.list [.int 0],.list [.none]]
noncomputable def af (k:Nat):St:=if k=0 then data0 else data1
noncomputable def noB (C:Cfg):Cfg:={ C with BX:=λJ J J=>False }
noncomputable def isBx:AO->Bool:=λω=>match ω with
 | .box J=>true
 | J=>false
theorem OR.noB {C:Cfg} {h:Heap} {rf:Rf} {as:List Addr}:∀{o:AO},isBx o=false->(OR (Internal.noB C) h rf o as↔OR C h rf o as):=@λω=>@λψ=>match ω,ψ with
 | .list J,ζ=>Iff.rfl
 | .sdict J,ζ=>Iff.rfl
 | .inst J ζ,η=>Iff.rfl
 | .box J,e=>ffT e.symm
noncomputable def placesN:AO->Nat:=λω=>match ω with
 | .inst J ζ=>2
 | J=>1
noncomputable def BXof (C:Cfg) (k:Nat) (h:Heap) (as:List Addr):Prop:=k<2/\∃ρ:Ro,as=ρ.flatten/\ρ.length=(af k).length/\∀(i:Nat) (o:AO) (bs:List Addr),(af k)[i]?=some o->ρ[i]?=some bs->OR (noB C) h (ab ρ) o bs
theorem data_plain (k:Nat):(af k).all (λo=>!isBx o)=true:=by
 unfold af
 split<;>decide +kernel
theorem data_bx {k i:Nat} {o:AO} (h:(af k)[i]?=some o):isBx o=false:=by
 have:=List.all_eq_true.mp (data_plain k) o (List.mem_of_getElem? h)
 simpa using this
theorem data_head (k:Nat):(af k)[0]?=some (.inst 1 [(7,(.ref 1)),(8,(.ref 2)),(9,(.ref 3)),(10,(.ref 4))]):=by
 unfold af
 split<;>rfl
theorem data_len (k:Nat):(af k).length=if k=0 then 20 else 23:=by
 unfold af
 split<;>rfl
theorem data_closed (k:Nat):(af k).map (rnO (List.range (af k).length))=(af k).map some:=by
 unfold af
 split<;>rfl
theorem mth_small {sc:List Int} {j:Nat} (h:(tb sc).mth 1 j≠none):j<NN/\lookA j [(7,(.ref 1)),(8,(.ref 2)),(9,(.ref 3)),(10,(.ref 4))]=none:=by
 have a1:∀x∈mthT,x.2.1<25:=by decide
 have a2:∀j,j<25->(mthT.find? λx=>x.1==1&&x.2.1==j).isSome=true->j≠7/\j≠8/\j≠9/\j≠10:=by decide
 have h':(mthT.find? λx=>x.1==1&&x.2.1==j).isSome=true:=by
  cases q:mthT.find? λx=>x.1==1&&x.2.1==j with
  | none=>exact absurd (show (Option.map _ (mthT.find? λx=>x.1==1&&x.2.1==j))=none by rw [q];rfl) h
  | some J=>rfl
 obtain ⟨x,hx⟩:=Option.isSome_iff_exists.mp h'
 have hj:j<25:=by
  have h1:=List.mem_of_find?_eq_some hx
  have h2:=List.find?_some hx
  simp only [Bool.and_eq_true,beq_iff_eq] at h2
  rw [<-h2.2];exact a1 x h1
 refine ⟨hj,?_⟩
 obtain ⟨q1,q2,q3,q4⟩:=a2 j hj h'
 simp [lookA,Ne.symm q1,Ne.symm q2,Ne.symm q3,Ne.symm q4]
section
variable {C:Cfg} (hB:C.BX=BXof C) (hτ:∃sc,C.τ=tb sc)
include hB hτ
theorem ai:BoxOK C:=by
 have B0:BoxOK (noB C):=⟨λk h h' as x=>x.elim,λk h as x=>x.elim,λk h as x=>x.elim,λk h as x=>x.elim⟩
 obtain ⟨sc,hτ⟩:=hτ
 refine ⟨λk h h' as x hk ht=>?_,λk h as x=>?_,λk h as x=>?_,λk h as x=>?_⟩
 ·rw [hB] at x ⊢
  obtain ⟨h1,ρ,rfl,h2,h3⟩:=x
  exact ⟨h1,ρ,rfl,h2,λi o bs e1 e2=>OR.mono (λJ J e=>e) ht B0 o (λa ha ob e=>hk a (mem_flat e2 ha) ob e) (h3 i o bs e1 e2)⟩
 ·rw [hB] at x
  obtain ⟨h1,ρ,rfl,h2,h3⟩:=x
  intro a ha ob e
  obtain ⟨bs,m1,m2⟩:=List.mem_flatten.mp ha
  obtain ⟨i,hi,rfl⟩:=List.mem_iff_getElem.mp m1
  exact OR.notTup B0 _ (h3 i _ ρ[i] (List.getElem?_eq_getElem (h2▸hi)) (List.getElem?_eq_getElem hi)) a m2 ob e
 ·rw [hB] at x
  obtain ⟨h1,ρ,rfl,h2,h3⟩:=x
  intro a ha
  obtain ⟨bs,m1,m2⟩:=List.mem_flatten.mp ha
  obtain ⟨i,hi,rfl⟩:=List.mem_iff_getElem.mp m1
  exact OR.there B0 _ (h3 i _ ρ[i] (List.getElem?_eq_getElem (h2▸hi)) (List.getElem?_eq_getElem hi)) a m2
 ·rw [hB] at x
  obtain ⟨h1,ρ,rfl,h2,h3⟩:=x
  have hl:0 < ρ.length:=by rw [h2,data_len];split<;>omega
  obtain ⟨x,dx,es,n,q1,q2,q3,q4,q5⟩:=h3 0 _ ρ[0] (data_head k) (List.getElem?_eq_getElem hl)
  cases ρ with
  | nil=>simp at hl
  | cons r0 ρ=>
   have q1:r0=[x,dx]:=q1
   subst q1
   refine ⟨x,dx,dx::[]++ρ.flatten,es,n,rfl,?_,q3,λj hj=>?_⟩
   ·rw [hτ];exact q2
   ·rw [hτ] at hj
    obtain ⟨z1,z2⟩:=mth_small hj
    exact DR.look_none z1 q4 z2
theorem unbox {ρ:Ro} {h:Heap} {k:Nat} (R:Rel C ρ [.box k] h):∃as ρ',ρ=[as]/\as=ρ'.flatten/\Rel C ρ' (af k) h/\k<2:=by
 have hl:=R.len
 match ρ,hl with
 | [as],J=>
  have:=R.obj 0 _ as rfl rfl
  change C.BX k h as at this
  rw [hB] at this
  obtain ⟨h1,ρ',rfl,h2,h3⟩:=this
  have hn:=R.nd
  have hw:=R.new
  simp only [List.flatten_cons,List.flatten_nil,List.append_nil] at hn hw
  exact ⟨_,ρ',rfl,rfl,⟨h2,λi o bs e1 e2=>(OR.noB (data_bx e1)).mp (h3 i o bs e1 e2),hn,hw⟩,h1⟩
theorem OR.size {h:Heap} {rf:Rf} {o:AO} {as:List Addr} (e:isBx o=false) (x:OR C h rf o as):as.length=placesN o:=by
 cases o with
 | list xs=>obtain ⟨a,_,rfl,_⟩:=x;rfl
 | sdict xs=>obtain ⟨a,_,rfl,_⟩:=x;rfl
 | inst c xs=>obtain ⟨a,b,_,_,rfl,_⟩:=x;rfl
 | box k=>cases e
theorem rebox {ρ:Ro} {h:Heap} {k:Nat} {extra extra':St} (hk:k<2) (R:Rel C ρ (af k++extra) h) (e:extra'.map (rnO (0::List.range' (af k).length extra.length))=extra.map some):
  Rel C ((ρ.take (af k).length).flatten::ρ.drop (af k).length) (.box k::extra') h /\
  ∀(j i:Nat),(0::List.range' (af k).length extra.length)[j]?=some i->∀a,ab ρ i=some a->ab ((ρ.take (af k).length).flatten::ρ.drop (af k).length) j=some a:=by
 have hlen:=R.len
 rw [List.length_append] at hlen
 have hd:=data_len k
 have hpos:0<(af k).length:=by rw [hd];split<;>omega
 have hex:extra'.length=extra.length:=by have:=congrArg List.length e;simpa using this
 have hr:∀(j i:Nat),(0::List.range' (af k).length extra.length)[j]?=some i->∀a,ab ρ i=some a->ab ((ρ.take (af k).length).flatten::ρ.drop (af k).length) j=some a:=by
  intro j i h a ha
  cases j with
  | zero=>
   simp at h
   subst h
   unfold ab at ha ⊢
   have h0:=R.obj 0 (.inst 1 [(7,(.ref 1)),(8,(.ref 2)),(9,(.ref 3)),(10,(.ref 4))]) (ρ[0]'(by omega)) (by rw [List.getElem?_append_left hpos];exact data_head k) (List.getElem?_eq_getElem (by omega))
   obtain ⟨x,dx,es,n,q1,_⟩:=h0
   rw [List.getElem?_eq_getElem (by omega),q1] at ha
   have:(ρ.take (af k).length).flatten=x::dx::((ρ.drop 1).take ((af k).length-1)).flatten:=by
    obtain ⟨m,hm⟩:∃m,(af k).length=m+1:=⟨(af k).length-1,by omega⟩
    rw [hm]
    cases ρ with
    | nil=>simp at hlen;omega
    | cons r0 ρ=>
     have q1:r0=[x,dx]:=q1
     subst q1
     simp
   simp only [List.getElem?_cons_zero,this]
   exact ha
  | succ j=>
   rw [List.getElem?_cons_succ] at h
   obtain ⟨h1,h2⟩:=List.getElem?_eq_some_iff.mp h
   rw [List.length_range'] at h1
   rw [List.getElem_range'] at h2
   unfold ab at ha ⊢
   rw [List.getElem?_cons_succ,List.getElem?_drop]
   rw [<-h2] at ha
   rw [show (af k).length+j=(af k).length+1*j by omega];exact ha
 have hflat:((ρ.take (af k).length).flatten::ρ.drop (af k).length).flatten=ρ.flatten:=by
  rw [List.flatten_cons,<-List.flatten_append,List.take_append_drop]
 refine ⟨⟨?_,λi o as h1 h2=>?_,by rw [hflat];exact R.nd,λa ha=>R.new a (by rw [hflat] at ha;exact ha)⟩,hr⟩
 ·simp only [List.length_cons,List.length_drop];omega
 ·cases i with
  | zero=>
   simp at h1 h2
   subst h1;subst h2
   show C.BX k h _
   rw [hB]
   refine ⟨hk,_,rfl,by rw [List.length_take];omega,λi o bs e1 e2=>?_⟩
   have hi:=(List.getElem?_eq_some_iff.mp e1).1
   rw [List.getElem?_take_of_lt hi] at e2
   have:=R.obj i o bs (by rw [List.getElem?_append_left hi];exact e1) e2
   refine (OR.noB (data_bx e1)).mpr ?_
   have e3:=congrArg (λl=>l[i]?) (data_closed k)
   simp only [List.getElem?_map,e1,Option.map_some,Option.some.injEq] at e3
   refine OR.pull (λj i hj a ha=>?_) e3 this
   obtain ⟨h1,h2⟩:=List.getElem?_eq_some_iff.mp hj
   rw [List.length_range] at h1
   rw [List.getElem_range] at h2
   subst h2
   unfold ab at ha ⊢
   rw [List.getElem?_take_of_lt h1];exact ha
  | succ i=>
   rw [List.getElem?_cons_succ] at h1 h2
   rw [List.getElem?_drop] at h2
   have e1:=congrArg (λl=>l[i]?) e
   simp only [List.getElem?_map,h1,Option.map_some] at e1
   cases q:extra[i]? with
   | none=>rw [q] at e1;cases e1
   | some o2=>
    rw [q] at e1
    have e1:rnO (0::List.range' (af k).length extra.length) o=some o2:=Option.some.inj e1
    have:=R.obj ((af k).length+i) o2 as (by rw [List.getElem?_append_right (by omega)];rw [show (af k).length+i-(af k).length=i by omega];exact q) h2
    exact OR.pull hr e1 this
end
theorem data_kinds {k k':Nat} (hk:k<=k') (hk':k'<2):∀(i:Nat) (o:AO),(af k)[i]?=some o->∃o',(af k')[i]?=some o'/\placesN o=placesN o':=by
 have:(k=k')\/(k=0/\k'=1):=by omega
 rcases this with rfl | ⟨rfl,rfl⟩
 ·exact λi o h=>⟨o,h,rfl⟩
 ·have e:(af 0).map placesN=((af 1).map placesN).take 20:=by decide +kernel
  intro i o h
  have hi:i<20:=(List.getElem?_eq_some_iff.mp h).1
  have h1:=congrArg (λl=>l[i]?) e
  simp only [List.getElem?_map,h,Option.map_some] at h1
  rw [List.getElem?_take_of_lt hi,List.getElem?_map] at h1
  obtain ⟨o',q1,q2⟩:=Option.map_eq_some_iff.mp h1.symm
  exact ⟨o',q1,q2.symm⟩
theorem flat_pre:∀{ρ ρ':Ro} {n:Nat},(∀i:Nat,i<n->ρ'[i]?=ρ[i]?)->ρ.length=n->ρ'.take n=ρ:=@λω=>@λψ=>@λχ=>@λϕ=>@λϱ=>match ω,ψ,χ,ϕ,ϱ with
 | ρ,ρ',n,h,hn=>by
  apply List.ext_getElem?
  intro i
  rcases Nat.lt_or_ge i n with q | q
  ·rw [List.getElem?_take_of_lt q];exact h i q
  ·rw [List.getElem?_eq_none (by rw [List.length_take];omega),List.getElem?_eq_none (by omega)]
section
variable {C:Cfg} (hB:C.BX=BXof C) (hτ:∃sc,C.τ=tb sc)
include hB hτ
theorem box_back {ρ ρ':Ro} {s s':Shared} {k k':Nat} {extra extra':St} (R:Rel C ρ (af k) s.heap) (a:Aft C ρ s s' ρ') (hkk:k<=k') (hk:k'<2) (R':Rel C ρ' (af k'++extra) s'.heap)
  (e:extra'.map (rnO (0::List.range' (af k').length extra.length))=extra.map some):∃ρ2,Aft C [ρ.flatten] s s' ρ2/\Rel C ρ2 (.box k'::extra') s'.heap /\
   ∀(j i:Nat),(0::List.range' (af k').length extra.length)[j]?=some i->∀a,ab ρ' i=some a->ab ρ2 j=some a:=by
 obtain ⟨h1,h2⟩:=rebox hB hτ hk R' e
 refine ⟨_,⟨a.rest,?_,λb hb=>?_,by simpa using a.frm⟩,h1,h2⟩
 ·intro i as hi
  cases i with
  | succ i=>simp at hi
  | zero=>
   simp at hi
   subst hi
   have hl:=R.len
   have hl':=R'.len
   rw [List.length_append] at hl'
   have dk:=data_len k
   have dk':=data_len k'
   have hle:(af k).length<=(af k').length:=by
    rw [dk,dk'];split<;>split<;>omega
   have same:∀i:Nat,i<(af k).length->ρ'[i]?=ρ[i]?:=by
    intro i hi
    have hi':i < ρ.length:=by omega
    obtain ⟨more,q⟩:=a.ext i ρ[i] (List.getElem?_eq_getElem hi')
    obtain ⟨o',q1,q2⟩:=data_kinds hkk hk i _ (List.getElem?_eq_getElem hi)
    have o1:=R.obj i _ ρ[i] (List.getElem?_eq_getElem hi) (List.getElem?_eq_getElem hi')
    have o2:=R'.obj i o' _ (by rw [List.getElem?_append_left (by omega)];exact q1) q
    have s1:=OR.size hB hτ (data_bx (List.getElem?_eq_getElem hi)) o1
    have s2:=OR.size hB hτ (data_bx q1) o2
    have:more=[]:=by
     rw [List.length_append] at s2
     have:more.length=0:=by omega
     exact List.length_eq_zero_iff.mp this
    rw [q,this,List.append_nil,List.getElem?_eq_getElem hi']
   have:=flat_pre same hl
   refine ⟨((ρ'.take (af k').length).drop (af k).length).flatten,?_⟩
   have e2:=List.take_append_drop (af k).length (ρ'.take (af k').length)
   rw [List.take_take,Nat.min_eq_left hle,this] at e2
   simp only [List.getElem?_cons_zero,Option.some.injEq]
   rw [<-List.flatten_append,e2]
 ·have:((ρ'.take (af k').length).flatten::ρ'.drop (af k').length).flatten=ρ'.flatten:=by
   rw [List.flatten_cons,<-List.flatten_append,List.take_append_drop]
  rw [this] at hb
  simpa using a.fresh b hb
theorem aa.box {f k:Nat} {args:List AV} {Φ Ψ:AV->St->Prop} (ha:rnAs [0] args=some args) (h:aa C f args (af k) Ψ)
  (post:∀v σ',Ψ v σ'->∃k' extra extra' v',k<=k'/\k'<2/\σ'=af k'++extra/\extra'.map (rnO (0::List.range' (af k').length extra.length))=extra.map some /\
   rnA (0::List.range' (af k').length extra.length) v'=some v/\Φ v' (.box k'::extra')):aa C f args [.box k] Φ:=by
 intro A s ρ0 Vs as fd Q hA R L hfd hv hb hk
 obtain ⟨as0,ρ,rfl,rfl,R1,hk2⟩:=unbox hB hτ R
 have hpos:0 < ρ.length:=by rw [R1.len,data_len];split<;>omega
 have hv1:VRs s.heap (ab ρ) C.gf args Vs:=by
  refine VRs.push (ι:=[0]) (λj i hj a ha=>?_) args ha hv
  cases j with
  | succ j=>simp at hj
  | zero=>
   simp at hj
   subst hj
   obtain ⟨x,dx,es,n,q1,_⟩:=R1.obj 0 _ ρ[0] (data_head k) (List.getElem?_eq_getElem hpos)
   unfold ab at ha ⊢
   rw [List.getElem?_eq_getElem hpos,q1]
   cases ρ with
   | nil=>simp at hpos
   | cons r0 ρ=>
    have q1:r0=[x,dx]:=q1
    subst q1
    simpa using ha
 refine h A s ρ Vs as fd Q hA R1 L hfd hv1 hb λV s' ρ' v σ' a R' L' hv' hΨ=>?_
 obtain ⟨k',extra,extra',v',p1,p2,rfl,p3,p4,p5⟩:=post v σ' hΨ
 obtain ⟨ρ2,z1,z2,z3⟩:=box_back hB hτ R1 a p1 p2 R' p3
 exact hk V s' ρ2 v' _ z1 z2 L' (VR.pull z3 v' p4 hv') p5
end
noncomputable def dB:List (Nat×AV)->List (Nat×AV)->Bool:=λω ψ=>match ω,ψ with
 | [],ys=>l0 ys true
 | x::xs,ys=>List.rec false (λy r J=>decide (x.1=y.1)&&avB x.2 y.2&&dB xs r) ys
theorem dB_eq:∀{a b:List (Nat×AV)},dB a b=true->a=b:=@λω=>@λψ=>@λχ=>match ω,ψ,χ with
 | [],J,h=>e_l0 h λJ=>rfl
 | J::ζ,[],h=>ffT h
 | (J,ζ)::η,(θ,μ)::ν,h=>congr (congrArg List.cons (congr (congrArg Prod.mk (odT (an3 h).1.1)) (avB_eq (an3 h).1.2))) (dB_eq (an3 h).2)
noncomputable def onOList (x:AO) (f:List AV->Bool):Bool:=dite (x.ctorIdx=0) (λh=>AO.list.elim x h f) λJ=>false
noncomputable def onODict (x:AO) (f:List (Nat×AV)->Bool):Bool:=dite (x.ctorIdx=1) (λh=>AO.sdict.elim x h f) λJ=>false
noncomputable def onOInst (x:AO) (f:Nat->List (Nat×AV)->Bool):Bool:=dite (x.ctorIdx=2) (λh=>AO.inst.elim x h f) λJ=>false
noncomputable def onOBox (x:AO) (f:Nat->Bool):Bool:=dite (x.ctorIdx=3) (λh=>AO.box.elim x h f) λJ=>false
noncomputable def aoB:AO->AO->Bool:=λω ψ=>match ω,ψ with
 | .list a,y=>onOList y (avBs a)
 | .sdict a,y=>onODict y (dB a)
 | .inst c a,y=>onOInst y λd b=>decide (c=d)&&dB a b
 | .box a,y=>onOBox y λb=>decide (a=b)
theorem aoB_eq:∀{a b:AO},aoB a b=true->a=b:=@λω=>@λψ=>@λχ=>match ω,ψ,χ with
 | .list a,b,h=>aH h λhc=>@AO.list.elim (λx=>∀hc:x.ctorIdx=0,AO.list.elim x hc (avBs a)=true->AO.list a=x) b hc (λJ J h=>congrArg _ (avBs_eq h)) hc
 | .sdict a,b,h=>aH h λhc=>@AO.sdict.elim (λx=>∀hc:x.ctorIdx=1,AO.sdict.elim x hc (dB a)=true->AO.sdict a=x) b hc (λJ J h=>congrArg _ (dB_eq h)) hc
 | .inst c a,b,h=>aH h λhc=>@AO.inst.elim (λx=>∀hc:x.ctorIdx=2,AO.inst.elim x hc (λd b=>decide (c=d)&&dB a b)=true->AO.inst c a=x) b hc (λJ J J h=>congr (congrArg _ (odT (an2 h).1)) (dB_eq (an2 h).2)) hc
 | .box a,b,h=>aH h λhc=>@AO.box.elim (λx=>∀hc:x.ctorIdx=3,AO.box.elim x hc (λb=>decide (a=b))=true->AO.box a=x) b hc (λJ J h=>congrArg _ (odT h)) hc
noncomputable def stB:St->St->Bool:=l22 aoB
theorem stB_eq:∀{a b:St},stB a b=true->a=b:=@λω=>@λψ=>@λχ=>match ω,ψ,χ with
 | [],J,h=>e_l0 h λJ=>rfl
 | J::ζ,[],h=>ffT h
 | J::ζ,η::θ,h=>congr (congrArg List.cons (aoB_eq (an2 h).1)) (stB_eq (an2 h).2)
noncomputable def invL (ι:List Nat):St->Option St:=λω=>match ω with
 | []=>some []
 | o::r=>(invO ι o).bind λy=>(invL ι r).map (λJ=>y::J)
theorem invL_rn {ι:List Nat}:∀{l l2:St},invL ι l=some l2->l2.map (rnO ι)=l.map some:=@λω=>@λψ=>@λχ=>match ω,ψ,χ with
 | [],J,h=>Option.some.inj h▸rfl
 | J::ζ,η,h=>(Option.bind_eq_some_iff.mp h).elim λJ h=>(Option.map_eq_some_iff.mp h.2).elim λJ h2=>h2.2▸(congr (congrArg List.cons (invO_rn h.1)) (invL_rn h2.1) :)
noncomputable def chkB (k':Nat) (v:AV) (ex:St) (q:Lo×St):Bool:=l1 q.1 λo=>oS o λv2=>stB (q.2.take (af k').length) (af k')&&(oS (invV (0::List.range' (af k').length (q.2.drop (af k').length).length) v2) λv3=>avB v3 v) &&
 oS (invL (0::List.range' (af k').length (q.2.drop (af k').length).length) (q.2.drop (af k').length)) λe3=>stB e3 ex
noncomputable def BkE (k':Nat) (v:AV) (ex:St) (σ2:St) (m:Lo):Prop:=∃v2,m=[some v2]/\σ2.take (af k').length=af k'/\invV (0::List.range' (af k').length (σ2.drop (af k').length).length) v2=some v /\
  invL (0::List.range' (af k').length (σ2.drop (af k').length).length) (σ2.drop (af k').length)=some ex
theorem chkB_at {k':Nat} {v:AV} {ex:St} {m:Lo} {σ2:St} (h:chkB k' v ex (m,σ2)=true):BkE k' v ex σ2 m:=
 e_l1 (P:=BkE k' v ex σ2) h λJ h=>e_oS (P:=λo=>BkE k' v ex σ2 [o]) h λv2 h=>⟨v2,rfl,stB_eq (an3 h).1.1,e_oS (P:=λx=>x=some v) (an3 h).1.2 λJ h=>congrArg some (avB_eq h),e_oS (P:=λx=>x=some ex) (an3 h).2 λJ h=>congrArg some (stB_eq h)⟩
noncomputable def runOK (τ:Tb) (f:Nat) (args:List AV) (k k':Nat) (v:AV) (ex:St):Bool:=oS ((runA τ sum1 40 57).call f args (af k) (λv σ=>some (v,σ))) λp=>decide ((af k).length<=p.2.length)&&Prod.rec (λm σ2=>chkB k' v ex (m,σ2)) (gcJ (af k).length [some p.1] p.2)
section
variable {C:Cfg} {sc:List Int} (hτ:C.τ=tb sc) (hF:Snd C) (hB:C.BX=BXof C)
include hτ hF hB
theorem box_run {f k:Nat} {args:List AV} {p:AV×St} (h:(runA (tb sc) sum1 40 57).call f args (af k) (λv σ=>some (v,σ))=some p):aa C f args (af k) λv σ=>v=p.1/\σ=p.2:=
 run_call (sum1_ok hτ hF (ai hB ⟨sc,hτ⟩)) hF p (n:=40) (d:=57) (by rw [hτ];exact h) ⟨rfl,rfl⟩
theorem box_go {f k k':Nat} {args:List AV} {v:AV} {ex:St} {Φ:AV->St->Prop} {p:AV×St} (hr:(runA (tb sc) sum1 40 57).call f args (af k) (λv σ=>some (v,σ))=some p) (hl:(af k).length<=p.2.length) (hk:k<=k') (hk':k'<2) (ha:rnAs [0] args=some args) (hΦ:Φ v (.box k'::ex))
  {v2:AV} {q:Lo×St} (hg:gcJ (af k).length [some p.1] p.2=q) (e1:q.1=[some v2]) (e2:q.2.take (af k').length=af k') (e3:invV (0::List.range' (af k').length (q.2.drop (af k').length).length) v2=some v)
  (e4:invL (0::List.range' (af k').length (q.2.drop (af k').length).length) (q.2.drop (af k').length)=some ex):aa C f args [.box k] Φ:=
 aa.box hB ⟨sc,hτ⟩ ha (Ψ:=λv σ=>v=v2/\σ=q.2) (aa.post (ai hB ⟨sc,hτ⟩) (box_run hτ hF hB hr) λv σ' z=>⟨v2,q.2,by
  have:=gcJ_vw (m:=[some p.1]) hl
  rw [hg,e1] at this
  rw [z.1,z.2]
  exact this,rfl,rfl⟩) λv σ' z=>⟨k',q.2.drop (af k').length,ex,_,hk,hk',z.2.trans ((List.take_append_drop (af k').length q.2).symm.trans (congrArg (λJ=>J++_) e2)),invL_rn e4,z.1▸invV_rn e3,hΦ⟩
theorem box_call {f k k':Nat} {args:List AV} {v:AV} {ex:St} {Φ:AV->St->Prop} (h:runOK (tb sc) f args k k' v ex=true) (hk:k<=k') (hk':k'<2) (ha:rnAs [0] args=some args) (hΦ:Φ v (.box k'::ex)):aa C f args [.box k] Φ:=
 e_oS (P:=λx=>(runA (tb sc) sum1 40 57).call f args (af k) (λv σ=>some (v,σ))=x->aa C f args [.box k] Φ) h (λp h hr=>(chkB_at (m:=(gcJ (af k).length [some p.1] p.2).1) (σ2:=(gcJ (af k).length [some p.1] p.2).2) (an2 h).2).elim λJ z=>
  box_go hτ hF hB hr (odT (an2 h).1) hk hk' ha hΦ rfl z.1 z.2.1 z.2.2.1 z.2.2.2) rfl
noncomputable def runD (τ:Tb):Bool:=oS ((runA τ sum1 40 57).call 52 [] [] (λv σ=>some (v,σ))) λp=>Prod.rec (λm σ=>(l1 m λo=>oS o λv2=>avB v2 (.ref 0))&&stB σ (af 0)) (gcJ 0 [some p.1] p.2)
theorem runD_ok (sc:List Int):runD (tb sc)=true:=by kernel_rfl
end
noncomputable def ah:List Int:=[98,49,45,65,97,95,173,223,8226,769,2381,8204,8205,1576,1575,1488,1632,183,7838,2307,37,44,43122,115,46]
section
variable {C:Cfg} {sc:List Int} (hτ:C.τ=tb sc) (hF:Snd C) (hB:C.BX=BXof C)
include hτ hF hB
theorem call_data {Φ:AV->St->Prop} (h:Φ (.ref 0) [.box 0]):aa C 52 [] [] Φ:=by
 have B:=ai hB ⟨sc,hτ⟩
 have hc2:aa C 52 [] [] (λv σ=>v=.ref 0/\σ=af 0):=
  e_oS (P:=λx=>(runA (tb sc) sum1 40 57).call 52 [] [] (λv σ=>some (v,σ))=x->aa C 52 [] [] λv σ=>v=.ref 0/\σ=af 0) (runD_ok hτ hF hB sc) (λp h hr=>aa.post B (run_call (sum1_ok hτ hF B) hF p (n:=40) (d:=57) (Φ:=λv σ=>v=p.1/\σ=p.2) (by rw [hτ];exact hr) ⟨rfl,rfl⟩) λv σ' z=>⟨.ref 0,af 0,by
   have e1:(gcJ 0 [some p.1] p.2).1=[some (.ref 0)]:=e_l1 (P:=λm=>m=[some (AV.ref 0)]) (an2 h).1 λJ h=>e_oS (P:=λo=>[o]=[some (AV.ref 0)]) h λJ h=>congrArg (λx=>[some x]) (avB_eq h)
   have e2:(gcJ 0 [some p.1] p.2).2=af 0:=stB_eq (an2 h).2
   have:=gcJ_vw (p:=0) (m:=[some p.1]) (σ:=p.2) (Nat.zero_le _)
   rw [e1,e2] at this
   rw [z.1,z.2]
   exact this,rfl,rfl⟩) rfl
 intro A s ρ Vs as fd Q hA R L hfd hv hb hk
 refine hc2 A s ρ Vs as fd Q hA R L hfd hv hb λV s' ρ' v σ' a R' L' hv' hΨ=>?_
 obtain ⟨rfl,rfl⟩:=hΨ
 have R'':Rel C ρ' (af 0++[]) s'.heap:=by rw [List.append_nil];exact R'
 obtain ⟨h1,h2⟩:=rebox hB ⟨sc,hτ⟩ (k:=0) (extra:=[]) (extra':=[]) (by omega) R'' rfl
 have hρ:ρ=[]:=List.length_eq_zero_iff.mp R.len
 subst hρ
 have hfl:((ρ'.take (af 0).length).flatten::ρ'.drop (af 0).length).flatten=ρ'.flatten:=by
  rw [List.flatten_cons,<-List.flatten_append,List.take_append_drop]
 refine hk V s' _ (.ref 0) _ ⟨a.rest,λi as h=>by simp at h,λb hb=>a.fresh b (by rw [hfl] at hb;exact hb),a.frm⟩ h1 L' ?_ h
 exact VR.pull (ι:=[0]) h2 (.ref 0) rfl hv'
end
noncomputable def getF (name:Nat) (c:Int):AV:=match (rowsT++[((46:Int),AV.tup [.str 97,.tup [],.str 28,.int 0,.str 32,.str 12])]).find? (λr=>decide (r.1=c)) with
 | some (J,.tup [st,ot,ki,or,jo,wa])=>(match name with
  | 61=>.tup [st,ot]
  | 57=>(match ki with
   | .str 19=>ki
   | .str 17=>ki
   | J=>.str 7)
  | 41=>or
  | 67=>jo
  | 36=>wa
  | J=>.none)
 | J=>.none
theorem t_ccc (sc:List Int):((List.range 2).all λk=>ah.all λc=>runOK (tb sc) 16 [.ref 0,.str 41,.int c] k k (getF 41 c) [])=true:=by kernel_rfl
theorem t_get (sc:List Int):([57,67,36].all λn=>ah.all λc=>runOK (tb sc) 16 [.ref 0,.str n,.int c] 1 1 (getF n c) [])=true:=by kernel_rfl
theorem t_exp (sc:List Int):((List.range 2).all λk=>ah.all λc=>runOK (tb sc) 18 [.int c,.ref 0,.bool false] k k (.ref 1) [.list [.int c]])=true:=by kernel_rfl
theorem t_prim (sc:List Int):((List.range 2).all λk=>runOK (tb sc) 22 [.ref 0] k 1 (.ref 1) [.sdict []])=true:=by kernel_rfl
noncomputable def mapF (c:Int) (tr:Bool):Option (List Int):=
 let ot (c:Int):Nat×List Int:=match getF 61 c with
  | .tup [.str st,.tup ot]=>(st,(intsOf ot).getD [])
  | J=>(0,[])
 match ot c with
 | (97,J)=>some [c]
 | (64,J)=>some []
 | (46,l)=>if tr then some l else some [c]
 | (71,l)=>if tr then some (l.flatMap λd=>match ot d with
   | (46,l)=>l
   | J=>[d]) else some l
 | J=>none
theorem t_stat (sc:List Int):(ah.all λc=>runOK (tb sc) 34 [.int c,.ref 0,.bool false] 1 1 (getF 61 c) [])=true:=by kernel_rfl
theorem t_map (sc:List Int):([true,false].all λtr=>[true,false].all λonly=>ah.all λc=>match mapF c tr with
  | some l=>runOK (tb sc) 35 [.int c,.ref 0,.bool tr,.bool only] 0 0 (.ref 1) [.list (il l)]
  | none=>runOK (tb sc) 35 [.int c,.ref 0,.bool tr,.bool only] 0 0 .none [])=true:=by kernel_rfl
noncomputable def onWBool (v:Value) (f:Bool->Bool):Bool:=dite (v.ctorIdx=3) (λh=>Value.bool.elim v h f) λJ=>false
theorem e_WBool {x:Value} {f:Bool->Bool} {P:Value->Prop} (h:onWBool x f=true) (k:∀a,f a=true->P (.bool a)):P x:=
 aH h λhc=>@Value.bool.elim (λx=>∀hc:x.ctorIdx=3,Value.bool.elim x hc f=true->P x) x hc (λa J h=>k a h) hc
noncomputable def onWInt (v:Value) (f:Int->Tok->Bool):Bool:=dite (v.ctorIdx=4) (λh=>Value.int.elim v h f) λJ=>false
theorem e_WInt {x:Value} {f:Int->Tok->Bool} {P:Value->Prop} (h:onWInt x f=true) (k:∀a t,f a t=true->P (.int a t)):P x:=
 aH h λhc=>@Value.int.elim (λx=>∀hc:x.ctorIdx=4,Value.int.elim x hc f=true->P x) x hc (λa t J h=>k a t h) hc
noncomputable def onWStr (v:Value) (f:Str->Tok->Bool):Bool:=dite (v.ctorIdx=6) (λh=>Value.str.elim v h f) λJ=>false
theorem e_WStr {x:Value} {f:Str->Tok->Bool} {P:Value->Prop} (h:onWStr x f=true) (k:∀a t,f a t=true->P (.str a t)):P x:=
 aH h λhc=>@Value.str.elim (λx=>∀hc:x.ctorIdx=6,Value.str.elim x hc f=true->P x) x hc (λa t J h=>k a t h) hc
noncomputable def onWType (v:Value) (f:String->Bool):Bool:=dite (v.ctorIdx=8) (λh=>Value.type.elim v h f) λJ=>false
theorem e_WType {x:Value} {f:String->Bool} {P:Value->Prop} (h:onWType x f=true) (k:∀a,f a=true->P (.type a)):P x:=
 aH h λhc=>@Value.type.elim (λx=>∀hc:x.ctorIdx=8,Value.type.elim x hc f=true->P x) x hc (λa J h=>k a h) hc
noncomputable def onWRef (v:Value) (f:Addr->Bool):Bool:=dite (v.ctorIdx=10) (λh=>Value.ref.elim v h f) λJ=>false
theorem e_WRef {x:Value} {f:Addr->Bool} {P:Value->Prop} (h:onWRef x f=true) (k:∀a,f a=true->P (.ref a)):P x:=
 aH h λhc=>@Value.ref.elim (λx=>∀hc:x.ctorIdx=10,Value.ref.elim x hc f=true->P x) x hc (λa J h=>k a h) hc
noncomputable def onDSeq (v:Data) (f:Array Value->Nat->Bool):Bool:=dite (v.ctorIdx=2) (λh=>Data.seq.elim v h f) λJ=>false
theorem e_DSeq {x:Data} {f:Array Value->Nat->Bool} {P:Data->Prop} (h:onDSeq x f=true) (k:∀a n,f a n=true->P (.seq a n)):P x:=
 aH h λhc=>@Data.seq.elim (λx=>∀hc:x.ctorIdx=2,Data.seq.elim x hc f=true->P x) x hc (λa t J h=>k a t h) hc
noncomputable def onDDict (v:Data) (f:Array DictEntry->Nat->Bool):Bool:=dite (v.ctorIdx=3) (λh=>Data.dict.elim v h f) λJ=>false
theorem e_DDict {x:Data} {f:Array DictEntry->Nat->Bool} {P:Data->Prop} (h:onDDict x f=true) (k:∀a n,f a n=true->P (.dict a n)):P x:=
 aH h λhc=>@Data.dict.elim (λx=>∀hc:x.ctorIdx=3,Data.dict.elim x hc f=true->P x) x hc (λa t J h=>k a t h) hc
noncomputable def isTyp (c:Value) (n:String):Bool:=onWType c λm=>decide (m=n)
theorem isTyp_at {c:Value} {n:String} (h:isTyp c n=true):c=.type n:=e_WType (P:=λc=>c=.type n) h λJ h=>congrArg _ (odT h)
noncomputable def onSeq (K:Frag) (a:Addr) (n:String) (f:List Value->Bool):Bool:=oS (K.lookup a) λo=>isTyp o.cls n&&onDSeq o.data λxs J=>f xs.toList
theorem seq_at {K:Frag} {h:Heap} (X:K.In h) {a:Addr} {n:String} {f:List Value->Bool} (e:onSeq K a n f=true):∃items,(∃o,h.get? a=some o/\o.cls=.type n/\∃n,o.data=.seq items n)/\f items.toList=true:=
 e_oS (P:=λx=>K.lookup a=x->_) e (λo e q=>e_DSeq (P:=λd=>o.data=d->_) (an2 e).2 (λxs m e q2=>⟨xs,⟨o,X _ _ q,isTyp_at (an2 (by assumption)).1,m,q2⟩,e⟩) rfl) rfl
mutual
noncomputable def vrK (K:Frag) (gf:Rf):AV->Value->Bool:=λω ψ=>match ω,ψ with
 | .none,v=>decide (v.ctorIdx=0)
 | .bool b,v=>onWBool v λc=>decide (c=b)
 | .int i,v=>onWInt v λj J=>decide (j=i)
 | .str k,v=>onWStr v λs J=>decide (k<NS)&&decide (s=SS k)
 | .tup xs,v=>onWRef v λa=>onSeq K a "tuple" (vrKs K gf xs)
 | .gl k,v=>onWRef v λa=>decide (gf k=some a)
 | .ref J,ζ=>false
noncomputable def vrKs (K:Frag) (gf:Rf):List AV->List Value->Bool:=λω ψ=>match ω,ψ with
 | [],vs=>l0 vs true
 | x::xs,vs=>List.rec false (λv r J=>vrK K gf x v&&vrKs K gf xs r) vs
end
section
variable {K:Frag} {gf:Rf} {h:Heap} (X:K.In h)
include X
mutual
theorem vrK_at:∀{x:AV} {v:Value},vrK K gf x v=true->VR h noRf gf x v:=@λω=>@λψ=>@λχ=>match ω,ψ,χ with
 | .none,v,e=>@Value.none.elim (VR h noRf gf .none) v (odT e) rfl
 | .bool b,J,e=>e_WBool (P:=VR h noRf gf (.bool b)) e λJ e=>congrArg Value.bool (odT e)
 | .int i,J,e=>e_WInt (P:=VR h noRf gf (.int i)) e λJ t e=>⟨t,congrArg (λJ=>Value.int J t) (odT e)⟩
 | .str k,J,e=>e_WStr (P:=VR h noRf gf (.str k)) e λJ t e=>⟨odT (an2 e).1,t,congrArg (λJ=>Value.str J t) (odT (an2 e).2)⟩
 | .gl k,J,e=>e_WRef (P:=VR h noRf gf (.gl k)) e λa e=>⟨a,odT e,rfl⟩
 | .ref J,ζ,e=>ffT e
 | .tup xs,J,e=>e_WRef (P:=VR h noRf gf (.tup xs)) e λa e=>(seq_at X e).elim λitems q=>⟨a,items,rfl,q.1,vrKs_at q.2⟩
theorem vrKs_at:∀{xs:List AV} {vs:List Value},vrKs K gf xs vs=true->VRs h noRf gf xs vs:=@λω=>@λψ=>@λχ=>match ω,ψ,χ with
 | [],vs,e=>e_l0 (P:=VRs h noRf gf []) e λJ=>rfl
 | J::ζ,[],e=>ffT e
 | J::ζ,v::vs,e=>⟨v,vs,rfl,vrK_at (an2 e).1,vrKs_at (an2 e).2⟩
end
end
noncomputable def glB (K:Frag) (gf:Rf) (a:Addr) (xs:List AV):Bool:=onSeq K a "list" (vrKs K gf xs)
theorem glB_at {K:Frag} {gf:Rf} {h:Heap} (X:K.In h) {a:Addr} {xs:List AV} (e:glB K gf a xs=true):∃items,h.IsList a items/\VRs h noRf gf xs items.toList:=
 (seq_at X e).elim λitems q=>⟨items,q.1,vrKs_at X q.2⟩
noncomputable def rowsB (K:Frag) (gf:Rf):List (Int×AV)->List DictEntry->Bool:=λω ψ=>match ω,ψ with
 | [],es=>l0 es true
 | p::r,es=>List.rec false (λe q J=>Value.isInt p.1 e.key&&decide (e.hash=PySem.hashInt p.1)&&vrK K gf p.2 e.val&&rowsB K gf r q) es
noncomputable def gdB (K:Frag) (gf:Rf) (a:Addr) (kvs:List (Int×AV)):Bool:=oS (K.lookup a) λo=>isTyp o.cls "dict"&&o.dict.isNone&&o.slots.isEmpty&&decide ((kvs.map (λJ=>J.1)).Nodup)&&onDDict o.data λes J=>rowsB K gf kvs es.toList
theorem rowsB_at {K:Frag} {gf:Rf} {h:Heap} (X:K.In h) {prog:Program} {w:World}:∀{kvs:List (Int×AV)} {es:List DictEntry},rowsB K gf kvs es=true ->
  ∃l,IR h noRf gf kvs l/\Pairs (intKind prog w) es l/\l.map (λJ=>J.1)=kvs.map (λJ=>J.1)/\∀e∈es,∃k,(intKind prog w).is k e.key=true/\e.hash=(intKind prog w).hash k:=@λω=>@λψ=>@λχ=>match ω,ψ,χ with
 | [],[],J=>⟨[],rfl,.nil,rfl,λe h=>(List.not_mem_nil h).elim⟩
 | [],J::ζ,e=>ffT e
 | J::ζ,[],e=>ffT e
 | (i,J)::ζ,e::η,q=>(rowsB_at X (prog:=prog) (w:=w) (an4 q).2).elim λl y=>⟨(i,e.val)::l,⟨e.val,l,rfl,vrK_at X (an4 q).1.2,y.1⟩,.cons (an4 q).1.1.1 rfl y.2.1,congrArg (λJ=>i::J) y.2.2.1,
   λJ he=>(List.mem_cons.mp he).elim (λz=>z▸⟨i,(an4 q).1.1.1,odT (an4 q).1.1.2⟩) (y.2.2.2 _)⟩
theorem gdB_at {K:Frag} {gf:Rf} {h:Heap} (X:K.In h) {prog:Program} {w:World} {a:Addr} {kvs:List (Int×AV)} (e:gdB K gf a kvs=true):∃l,h.DictOf (intKind prog w) a l/\IR h noRf gf kvs l:=
 e_oS (P:=λx=>K.lookup a=x->_) e (λo e q=>e_DDict (P:=λd=>o.data=d->_) (an5 e).2 (λes m e2 q2=>(rowsB_at X (prog:=prog) (w:=w) e2).elim λl y=>
  ⟨l,⟨o,es,m,X _ _ q,⟨isTyp_at (an5 e).1.1.1.1,Option.isNone_iff_eq_none.mp (an5 e).1.1.1.2,Array.isEmpty_iff.mp (an5 e).1.1.2⟩,q2,λJ he=>y.2.2.2 _ (Array.mem_def.mp he),y.2.1,y.2.2.1▸odT (an5 e).1.2⟩,y.1⟩) rfl) rfl
noncomputable def gf0:Rf:=λk=>glT[k]?
noncomputable def gfS (sa:Addr):Rf:=λk=>if k=3 then some sa else glT[k]?
noncomputable def mkC (prog:Program) (w:World) (hb:Heap) (mg mb:Str->Option Value) (sa:Addr) (sc:List Int):Cfg:=
 let C0:Cfg:={ prog,w,K:=Hd.Internal.K39 w.params,hb,mg,mb,P:=145,ps:=#[],lpos:=nms.lpos,lqual:="form_sorted.<locals>.<lambda>",τ:=tb sc,gf:=gfS sa,fa:=λi=>faT.getD i 0,ca:=λi=>caT.getD i 0,BX:=λJ J J=>False }
 { C0 with BX:=BXof C0 }
noncomputable def fdK (K:Frag) (f:Nat):Option FuncData:=match K.lookup (faT.getD f 0) with
 | some ⟨J,ζ,.func fd,η⟩=>some fd
 | J=>none
set_option tactic.hygienic true in
theorem fdK_at {K:Frag} {f:Nat} (e:(fdK K f).isSome=true):∃o fd,K.lookup (faT.getD f 0)=some o/\o.data=.func fd:=by
 unfold fdK at e
 split at e
 ·rename_i c d fd sl hk;exact ⟨_,fd,hk,rfl⟩
 ·exact ffT e
noncomputable def clsB (K:Frag) (a:Addr):Bool:=
 findIn K (.ref a) "__getattribute__"==some (some (.builtin "object.__getattribute__"))&&findIn K (.ref a) "__getattr__"==some none&&findIn K (.ref a) "__setattr__"==some (some (.builtin "object.__setattr__")) &&
 plainOver K a&&hasDictIn K a&&makesIn K a&&keepIn K (.ref a)
noncomputable def cls2 (K:Frag) (a:Addr) (n:Str) (f:Nat):Bool:=findIn K (.ref a) n==some (some (.ref (faT.getD f 0)))&&isFn K (.ref (faT.getD f 0))
theorem t_cls (P:Params):((List.range 4).all λc=>clsB (Hd.Internal.K39 P) (caT.getD c 0))=true:=by kernel_rfl
theorem t_cls2 (P:Params):((List.range 4).all λc=>Option.rec false (λf=>cls2 (Hd.Internal.K39 P) (caT.getD c 0) "__init__" f) initT[c]?)=true:=by kernel_rfl
theorem t_cls3 (P:Params):((List.range 4).all λc=>(List.range 25).all λn=>Option.rec (findIn (Hd.Internal.K39 P) (.ref (caT.getD c 0)) (NM n)==some none) (λf=>cls2 (Hd.Internal.K39 P) (caT.getD c 0) (NM n) f) ((tb []).mth c n))=true:=by kernel_rfl
theorem t_glo (P:Params):(nms.g.all λp=>oS (nsIn (Hd.Internal.K39 P) mainGlobals p.1) λo=>oS o λv=>vrK (Hd.Internal.K39 P) gf0 p.2 v)=true:=by kernel_rfl
theorem t_gl1 (P:Params):glB (Hd.Internal.K39 P) gf0 665 (il poolT)=true:=by kernel_rfl
theorem t_gl2 (P:Params):glB (Hd.Internal.K39 P) gf0 339 [.int 120,.int 110,.int 45,.int 45]=true:=by kernel_rfl
theorem t_gd (P:Params):gdB (Hd.Internal.K39 P) gf0 615 rowsT=true:=by kernel_rfl
theorem t_n1 (P:Params):((List.range 57).all λi=>(decide (nms.f i=("":Str))||nsIn (Hd.Internal.K39 P) mainGlobals (nms.f i)==some (some (.ref (faT.getD i 0))))&&keepIn (Hd.Internal.K39 P) (.ref (faT.getD i 0))&&(fdK (Hd.Internal.K39 P) i).isSome)=true:=by kernel_rfl
theorem t_n2 (P:Params):((List.range 4).all λi=>nsIn (Hd.Internal.K39 P) mainGlobals (nms.c i)==some (some (.ref (caT.getD i 0))))=true:=by kernel_rfl
theorem t_n3 (P:Params):((List.range 7).all λi=>nsIn (Hd.Internal.K39 P) mainGlobals (bltN i)==some none)=true:=by kernel_rfl
theorem t_n4 (P:Params):(["bool","range","enumerate"]:List Str).all (λx=>nsIn (Hd.Internal.K39 P) mainGlobals x==some none)=true:=by kernel_rfl
theorem t_n5 (P:Params):noTabs (Hd.Internal.K39 P)=true:=by kernel_rfl
noncomputable def pkB (K:Frag) (S:Setting) (f:Nat) (Vs:List Value) (kw:List (Str×Value)):Option (List (Str×Value)):=(fdK K f).bind λfd=>peek K S (bindArgs fd ⟨Vs,kw⟩)
noncomputable def nmK (K:Frag) (f:Nat):List Str:=((fdK K f).map λfd=>fd.params.args.map (λJ=>J.arg)).getD []
noncomputable def Bd (sc:List Int) (P:Params) (f:Nat):Prop:=∀(vs args:List AV) (Vs:List Value),Vs.length=vs.length->padA (tb sc) f vs=some args ->
 ∃ds Ds,args=vs++ds/\(∀h gf,VRs h noRf gf ds Ds)/\∀S,pkB (Hd.Internal.K39 P) S f Vs []=some ((nmK (Hd.Internal.K39 P) f).zip (Vs++Ds))
theorem pk_at {K:Frag} {S:Setting} {f:Nat} {Vs:List Value} {kw:List (Str×Value)} {fd:FuncData} {X:List Value} (e:fdK K f=some fd) (h:pkB K S f Vs kw=some ((nmK K f).zip X)):peek K S (bindArgs fd ⟨Vs,kw⟩)=some ((fd.params.args.map (λJ=>J.arg)).zip X):=by
 unfold pkB nmK at h
 rw [e] at h
 exact h
noncomputable def dV:AV->Value:=λω=>match ω with
 | .bool b=>.bool b
 | J=>.none
noncomputable def dOK:AV->Bool:=λω=>match ω with
 | .bool J=>true
 | .none=>true
 | J=>false
theorem dV_at {h:Heap} {gf:Rf}:∀{l:List AV},l.all dOK=true->VRs h noRf gf l (l.map dV):=@λω=>@λψ=>match ω,ψ with
 | [],J=>rfl
 | x::l,q=>by
  have q:=List.all_eq_true.mp q
  refine ⟨_,_,rfl,?_,dV_at (List.all_eq_true.mpr λy hy=>q y (.tail _ hy))⟩
  have:=q x (.head _)
  cases x<;>first | rfl | exact ffT this
noncomputable def dfN (f:Nat):List AV:=dfltT.getD f []
noncomputable def arN (f:Nat):Nat:=arityT.getD f 0
theorem t_dfs:(dfltT.all λl=>l.all dOK)=true:=by decide
theorem t_bd (P:Params) (S:Setting) (g:Nat->Value):((List.range 57).map λf=>(List.range ((dfN f).length+1)).map λj=>pkB (Hd.Internal.K39 P) S f ((List.range (arN f-j)).map g) [])=
  (List.range 57).map λf=>(List.range ((dfN f).length+1)).map λj=>some ((nmK (Hd.Internal.K39 P) f).zip ((List.range (arN f-j)).map g++((dfN f).drop ((dfN f).length-j)).map dV)):=by kernel_rfl
theorem vs_map {α:Type} (d:α) (Vs:List α):(List.range Vs.length).map (λi=>Vs.getD i d)=Vs:=by
 refine List.ext_getElem (by simp) λi h1 h2=>?_
 simp [List.getD_eq_getElem?_getD,h2]
theorem bd_all {sc:List Int} {P:Params} (f:Nat) (hf:f<57):Bd sc P f:=by
 intro vs args Vs hl hp
 have hp:(if vs.length<=arN f/\arN f<=vs.length+(dfN f).length then some (vs++(dfN f).drop (vs.length+(dfN f).length-arN f)) else none)=some args:=hp
 by_cases q:vs.length<=arN f/\arN f<=vs.length+(dfN f).length
 ·rw [if_pos q] at hp
  have hd:(dfN f).all dOK=true:=by
   unfold dfN
   rw [List.getD_eq_getElem?_getD]
   cases e:dfltT[f]? with
   | none=>rfl
   | some l=>exact List.all_eq_true.mp t_dfs l (List.mem_of_getElem? e)
  have e:(dfN f).length-(arN f-vs.length)=vs.length+(dfN f).length-arN f:=by omega
  refine ⟨_,_,(Option.some.inj hp).symm,λh gf=>dV_at (List.all_eq_true.mpr λx hx=>List.all_eq_true.mp hd x (List.mem_of_mem_drop hx)),λS=>?_⟩
  have h:=List.map_inj_left.mp (List.map_inj_left.mp (t_bd P S λi=>Vs.getD i .none) f (List.mem_range.mpr hf)) (arN f-vs.length) (List.mem_range.mpr (by omega))
  rw [e,show arN f-(arN f-vs.length)=Vs.length by omega,vs_map] at h
  exact h
 ·rw [if_neg q] at hp;cases hp
theorem t_kw (P:Params) (S:Setting) (x:Value) (g:Nat->Value):pkB (Hd.Internal.K39 P) S 32 [x] ((kwT.map NM).zip ((List.range 7).map g))=some ((nmK (Hd.Internal.K39 P) 32).zip (x::(List.range 7).map g)):=by kernel_rfl
theorem kw_flags {P:Params} (S:Setting) (x:Value) (Vs:List Value) (h:Vs.length=7):pkB (Hd.Internal.K39 P) S 32 [x] ((kwT.map NM).zip Vs)=some ((nmK (Hd.Internal.K39 P) 32).zip (x::Vs)):=by
 have:=t_kw P S x λi=>Vs.getD i .none
 rw [<-h,vs_map] at this
 exact this
structure HdOK (w:World) (hb:Heap) (mg mb:Str->Option Value) (sa:Addr) (sc:List Int):Prop where
 X:(Hd.Internal.K39 w.params).In hb
 g:hb.Ns mainGlobals mg
 b:hb.Ns builtinsNs mb
 lim:hb.NoLimit
 bu:∀x:Str,x≠"__name__"->mb x=bootBuiltins x
 bmain:∃bm ob,mg "__builtins__"=some (.ref bm)/\bm≠builtinsNs/\hb.get? bm=some ob/\ob.cls=.type "module"/\ob.dict=some builtinsNs/\ob.data=.plain
 tab:hb.get? 145=some (tabObj #[])
 code:CodeHd hb 147 145
 lst:∃items:Array Value,hb.IsList sa items/\IntsAre items.toList sc
 len:sc.length<=63
mutual
theorem VR.gfm {h:Heap} {rf gf gf':Rf} (hg:∀k a,gf k=some a->gf' k=some a):∀(x:AV) {v:Value},VR h rf gf x v->VR h rf gf' x v:=@λω=>@λψ=>@λχ=>match ω,ψ,χ with
 | .none,J,e=>e
 | .bool J,ζ,e=>e
 | .int J,ζ,e=>e
 | .str J,ζ,e=>e
 | .ref J,ζ,e=>e
 | .gl k,J,⟨a,h1,h2⟩=>⟨a,hg k a h1,h2⟩
 | .tup xs,J,⟨a,items,h1,h2,h3⟩=>⟨a,items,h1,h2,VRs.gfm hg xs h3⟩
theorem VRs.gfm {h:Heap} {rf gf gf':Rf} (hg:∀k a,gf k=some a->gf' k=some a):∀(xs:List AV) {vs:List Value},VRs h rf gf xs vs->VRs h rf gf' xs vs:=@λω=>@λψ=>@λχ=>match ω,ψ,χ with
 | [],J,e=>e
 | x::xs,J,⟨v,r,h1,h2,h3⟩=>⟨v,r,h1,VR.gfm hg x h2,VRs.gfm hg xs h3⟩
end
theorem IR.gfm {h:Heap} {rf gf gf':Rf} (hg:∀k a,gf k=some a->gf' k=some a):∀(xs:List (Int×AV)) {vs:List (Int×Value)},IR h rf gf xs vs->IR h rf gf' xs vs:=@λω=>@λψ=>@λχ=>match ω,ψ,χ with
 | [],J,e=>e
 | (J,x)::xs,ζ,⟨v,r,h1,h2,h3⟩=>⟨v,r,h1,VR.gfm hg x h2,IR.gfm hg xs h3⟩
theorem gf0_S (sa:Addr):∀k a,gf0 k=some a->gfS sa k=some a:=λk a h=>(if_neg λq:k=3=>ae (q▸h:gf0 3=some a)).trans h
theorem t_bi (P:Params):nsIn (Hd.Internal.K39 P) mainGlobals "__builtins__"=some (some (.ref 4)):=by kernel_rfl
theorem t_lam (P:Params):oS (fdK (Hd.Internal.K39 P) 7) (λfd=>onWRef fd.code (λc=>decide (c=147))&&decide ((fd.qualname++".<locals>.":Str)++("<lambda>":Str)=("form_sorted.<locals>.<lambda>":Str)))=true:=by kernel_rfl
theorem t_no (P:Params):(fdK (Hd.Internal.K39 P) 57).isSome=false:=by kernel_rfl
theorem t_boot:((List.range 7).all λi=>decide (bootBuiltins (bltN i)=some (bltF i))&&decide (bltN i≠("__name__":Str)))=true:=by kernel_rfl
theorem t_boot2:((["bool","range","enumerate"]:List String).all λx=>decide (bootBuiltins (Str.ofString x)=some (.type x))&&decide (Str.ofString x≠("__name__":Str)))=true:=by kernel_rfl
theorem rng {n i:Nat} {p:Nat->Bool} (h:(List.range n).all p=true) (hi:i<n):p i=true:=List.all_eq_true.mp h i (List.mem_range.mpr hi)
theorem blt_all {R:Str->Value->Prop} (h:∀i,i<7->R (bltN i) (bltF i)) (n:Nat):R (bltN n) (bltF n):=
 (Nat.lt_or_ge n 6).elim (λq=>h n (Nat.lt_succ_of_lt q)) λq=>Nat.sub_add_cancel q▸(h 6 (by decide):R (bltN (n-6+6)) (bltF (n-6+6)))
theorem recS {α:Type} {o:Option α} {a:α} {z:Bool} {f:α->Bool} (e:o=some a) (h:(Option.rec z f o:Bool)=true):f a=true:=by subst e;exact h
theorem recN {α:Type} {o:Option α} {z:Bool} {f:α->Bool} (e:o=none) (h:(Option.rec z f o:Bool)=true):z=true:=by subst e;exact h
theorem t_init:∀x∈initT,x<57:=by decide
theorem t_mth:∀x∈mthT,x.2.1<25/\x.2.2<57:=by decide
theorem mth_in {sc:List Int} {c n f:Nat} (h:(tb sc).mth c n=some f):n<25/\f<57:=
 (Option.map_eq_some_iff.mp (h:(mthT.find? λx=>x.1==c&&x.2.1==n).map (λJ=>J.2.2)=some f)).elim λx hx=>
  have q:=an2 (List.find?_some (p:=λy:Nat×Nat×Nat=>y.1==c&&y.2.1==n) hx.1)
  ⟨eq_of_beq q.2▸(t_mth x (List.mem_of_find?_eq_some hx.1)).1,hx.2▸(t_mth x (List.mem_of_find?_eq_some hx.1)).2⟩
section
variable {prog:Program} {w:World} {hb:Heap} {mg mb:Str->Option Value} {sa:Addr} {sc:List Int} (H:HdOK w hb mg mb sa sc)
include H
theorem kin_ne:∀a o,(Hd.Internal.K39 w.params).lookup a=some o->hb.get? a=some o/\a≠145:=λa o e=>
 ⟨H.X a o e,λq=>by
  have h:=List.all_eq_true.mp (t_n5 w.params) (a,o) (mem_of_lookupK e)
  have h3:=Option.some.inj (H.tab.symm.trans (q▸H.X a o e))
  subst h3
  exact ffT h⟩
theorem cls2_at {a:Addr} {n:Str} {f:Nat} (e:cls2 (Hd.Internal.K39 w.params) a n f=true):findIn (Hd.Internal.K39 w.params) (.ref a) n=some (some (.ref (faT.getD f 0)))/\isFn (Hd.Internal.K39 w.params) (.ref (faT.getD f 0))=true:=⟨eq_of_beq (an2 e).1,(an2 e).2⟩
theorem cls_at {c:Nat} (hc:c<4):ClsOK (mkC prog w hb mg mb sa sc) c:=
 have h:=an7 (rng (t_cls w.params) hc)
 ⟨eq_of_beq h.1.1.1.1.1.1,eq_of_beq h.1.1.1.1.1.2,eq_of_beq h.1.1.1.1.2,h.1.1.1.2,h.1.1.2,h.1.2,
  λf hf=>cls2_at H (f:=f) (recS (hf:initT[c]?=some f) (rng (t_cls2 w.params) hc)),
  λn hn hm=>eq_of_beq (recN (hm:(tb []).mth c n=none) (rng (rng (t_cls3 w.params) hc) hn)),
  λn f hf=>⟨(mth_in hf).1,cls2_at H (f:=f) (recS (hf:(tb []).mth c n=some f) (rng (rng (t_cls3 w.params) hc) (mth_in hf).1))⟩⟩
theorem cfg_ok:CfgOK (mkC prog w hb mg mb sa sc) where
 box:=ai rfl ⟨sc,rfl⟩
 hP:=H.tab
 kin:=kin_ne H
 glist:=by
  intro k xs h
  have h:(tb sc).γ k=.list xs:=h
  match k,h with
  | 0,h=>cases h
  | 1,h=>
   cases h
   obtain ⟨items,h1,h2⟩:=glB_at H.X (t_gl1 w.params)
   exact ⟨665,items,rfl,h1,VRs.gfm (gf0_S sa) _ h2,by decide⟩
  | 2,h=>
   cases h
   obtain ⟨items,h1,h2⟩:=glB_at H.X (t_gl2 w.params)
   exact ⟨339,items,rfl,h1,VRs.gfm (gf0_S sa) _ h2,by decide⟩
  | 3,h=>
   cases h
   obtain ⟨items,h1,h2⟩:=H.lst
   refine ⟨sa,items,rfl,h1,vrs_ints h2,?_⟩
   have:=H.len
   rw [List.length_map];unfold SZ;omega
  | n+4,h=>cases h
 gdict:=by
  intro k kvs h
  have h:(tb sc).γ k=.idict kvs:=h
  match k,h with
  | 0,h=>
   cases h
   obtain ⟨l,h1,h2⟩:=gdB_at H.X (prog:=prog) (w:=w) (t_gd w.params)
   exact ⟨615,l,rfl,h1,IR.gfm (gf0_S sa) _ h2,by decide⟩
  | 1,h=>cases h
  | 2,h=>cases h
  | 3,h=>cases h
  | n+4,h=>cases h
 lim:=H.lim
 cls:=λc hc=>cls_at H hc
 gsys:=by
  intro k kvs a h ha
  have h:(tb sc).γ k=.idict kvs:=h
  match k,h,ha with
  | 0,h,ha=>cases ha;decide
  | 1,h,J=>cases h
  | 2,h,J=>cases h
  | 3,h,J=>cases h
  | n+4,h,J=>cases h
 glob:=H.g
 buil:=H.b
theorem fd_lt {f:Nat} {fd:FuncData} (e:fdK (Hd.Internal.K39 w.params) f=some fd):f<57:=
 (Nat.lt_or_ge f 57).elim id λq=>ffT (((congrArg Option.isSome e).symm.trans (by
  unfold fdK
  rw [List.getD_eq_getElem?_getD,List.getElem?_eq_none (show faT.length<=f from q)]
  exact t_no w.params)).symm)
theorem n_glo (p:Str×AV) (hp:p∈nms.g):∃V,mg p.1=some V/\VR hb noRf (gfS sa) p.2 V:=
 e_oS (P:=λx=>nsIn (Hd.Internal.K39 w.params) mainGlobals p.1=x->_) (List.all_eq_true.mp (t_glo w.params) p hp) (λo h=>e_oS (P:=λo=>nsIn (Hd.Internal.K39 w.params) mainGlobals p.1=some o->_) h λv h e=>⟨v,mg_of H.X H.g e,VR.gfm (gf0_S sa) _ (vrK_at H.X h)⟩) rfl
theorem n_f {i:Nat} (hi:i<57/\nms.f i≠("":Str)):mg (nms.f i)=some (.ref (faT.getD i 0)):=
 mg_of H.X H.g (eq_of_beq ((Bool.or_eq_true_iff.mp (an3 (rng (t_n1 w.params) hi.1)).1.1).resolve_left λq=>hi.2 (odT q)))
theorem n_blt (n:Nat):mg (bltN n)=none/\mb (bltN n)=some (bltF n):=
 blt_all (R:=λa b=>mg a=none/\mb a=some b) (λi hi=>⟨mg_none_of H.X H.g (eq_of_beq (rng (t_n3 w.params) hi)),(H.bu _ (odT (an2 (rng t_boot hi)).2)).trans (odT (an2 (rng t_boot hi)).1)⟩) n
theorem n_boot {x:String} (h:x∈(["bool","range","enumerate"]:List String)):mg (Str.ofString x)=none/\mb (Str.ofString x)=some (.type x):=
 have q:=an2 (List.all_eq_true.mp t_boot2 x h)
 ⟨mg_none_of H.X H.g (eq_of_beq (List.all_eq_true.mp (t_n4 w.params) _ (List.mem_map_of_mem (f:=Str.ofString) h))),(H.bu _ (odT q.2)).trans (odT q.1)⟩
theorem n_bm:hb.BuiltinsAt mg 145:=H.bmain.elim λbm y=>y.elim λob y=>by
 have e:=mg_of H.X H.g (t_bi w.params)
 have q:(4:Nat)=bm:=Value.ref.inj (Option.some.inj (e.symm.trans y.1))
 subst q
 exact ⟨4,ob,e,by decide,by decide,(by decide:(4:Nat)≠145),y.2.2⟩
omit H in
theorem lam_at {K:Frag} {fd:FuncData} (e:fdK K 7=some fd) (h:oS (fdK K 7) (λfd=>onWRef fd.code (λc=>decide (c=147))&&decide ((fd.qualname++".<locals>.":Str)++("<lambda>":Str)=("form_sorted.<locals>.<lambda>":Str)))=true):(onWRef fd.code (λc=>decide (c=147))&&decide ((fd.qualname++".<locals>.":Str)++("<lambda>":Str)=("form_sorted.<locals>.<lambda>":Str)))=true:=by
 rw [e] at h;exact h
theorem n_lam {fd:FuncData} (e:fdK (Hd.Internal.K39 w.params) 7=some fd):∃c,fd.code=.ref c/\CodeHd hb c 145/\(fd.qualname++".<locals>.":Str)++("<lambda>":Str)="form_sorted.<locals>.<lambda>":=
 have t:=lam_at e (t_lam w.params)
 ⟨147,e_WRef (P:=λv=>v=.ref 147) (an2 t).1 λJ h=>congrArg _ (odT h),H.code,odT (an2 t).2⟩
theorem n_bind {f:Nat} {fd:FuncData} {Vs:List Value} {s:Shared} {vs args:List AV} (e:fdK (Hd.Internal.K39 w.params) f=some fd) (L:Bas (mkC prog w hb mg mb sa sc) s.heap) (hl:vs.length=Vs.length) (hp:padA (tb sc) f vs=some args):∃ds Ds,args=vs++ds/\VRs hb noRf (gfS sa) ds Ds/\BindsTo s fd ⟨Vs,[]⟩ ((fd.params.args.map (λJ=>J.arg)).zip (Vs++Ds)):=
 (bd_all (sc:=sc) (P:=w.params) f (fd_lt H e) vs args Vs hl.symm hp).elim λds y=>y.elim λDs y=>⟨ds,Ds,y.1,y.2.1 _ _,kp_binds (Bas.kin (cfg_ok H) L) λS=>pk_at e (y.2.2 S)⟩
theorem n_kw {c f:Nat} {fd:FuncData} {Vs:List Value} {x:Value} {s:Shared} (hi:initT[c]?=some f) (h2:2<=(if c=3 then kwT else ([]:List Nat)).length) (hl:(if c=3 then kwT else ([]:List Nat)).length=Vs.length) (e:fdK (Hd.Internal.K39 w.params) f=some fd):(tb sc).arity f=(if c=3 then kwT else ([]:List Nat)).length+1/\(Bas (mkC prog w hb mg mb sa sc) s.heap->BindsTo s fd ⟨[x],((if c=3 then kwT else ([]:List Nat)).map NM).zip Vs⟩ ((fd.params.args.map (λJ=>J.arg)).zip (x::Vs))):=by
 have hc:c=3:=Decidable.byContradiction λq=>Nat.not_lt_zero 1 (Nat.le_trans h2 (Nat.le_of_eq (congrArg List.length (if_neg q))))
 subst hc
 have hf:32=f:=Option.some.inj hi
 subst hf
 exact ⟨rfl,λL=>kp_binds (Bas.kin (cfg_ok H) L) λS=>pk_at e (kw_flags S x Vs hl.symm)⟩
theorem nms_ok:NmsOK (mkC prog w hb mg mb sa sc) nms:=
 ⟨n_glo H,λJ hi=>n_f H hi,λJ hi=>mg_of H.X H.g (eq_of_beq (rng (t_n2 w.params) hi)),λJ hi=>fdK_at (an3 (rng (t_n1 w.params) hi)).2,λJ hi=>(an3 (rng (t_n1 w.params) hi)).1.2,λJ hi=>(an7 (rng (t_cls w.params) hi)).2,
  λJ f hf=>t_init f (List.mem_of_getElem? hf),λJ J J hf=>(mth_in hf).2,n_blt H,n_boot H (.head _),n_boot H (.tail _ (.head _)),n_boot H (.tail _ (.tail _ (.head _))),λJ=>rfl,rfl,trivial,rfl,(by decide:mainGlobals≠145),n_bm H,λJ=>n_lam H,λJ J J J J J e L hl hp=>n_bind H e L hl hp,λJ J J J J J h1 h2 h3 h4=>n_kw H h1 h2 h3 h4⟩
theorem snd_ok:Snd (mkC prog w hb mg mb sa sc):=by
 intro f fn args σ Φ hfn hlen h
 have hf:f<57:=(List.getElem?_eq_some_iff.mp hfn).1
 have hB:=rng (t_fns w.params) hf
 unfold fnOK at hB
 rw [hfn] at hB
 exact fn_ok (cfg_ok H) (nms_ok H) (Nat.le_of_lt hf) hB hlen h
end
theorem map1 {α β:Type} {f:α->β} {o:Option α} {a:α} (h:o=some a):o.map f=some (f a):=h▸rfl
theorem over_same {α:Type}:∀(ι:List Nat) (xs l:List α),(∀(j i:Nat),ι[j]?=some i->∀x,xs[j]?=some x->l[i]?=some x)->over ι xs l=l:=λω ψ χ ϕ=>match ω,ψ,χ,ϕ with
 | [],J,ζ,η=>rfl
 | J::ζ,[],η,θ=>rfl
 | J::ι,x::xs,l,h=>(congrArg (over ι xs) (set_same (h 0 _ rfl x rfl))).trans (over_same ι xs l λj i hj x hx=>h (j+1) i hj x hx)
theorem mapM_app {ι:List Nat}:∀{a b a' b':St},mapM' ι a=some a'->mapM' ι b=some b'->mapM' ι (a++b)=some (a'++b'):=@λω=>@λψ=>@λχ=>@λϕ=>@λϱ=>@λς=>match ω,ψ,χ,ϕ,ϱ,ς with
 | [],J,ζ,η,h1,h2=>Option.some.inj h1▸h2
 | J::ζ,η,θ,μ,h1,h2=>(Option.bind_eq_some_iff.mp h1).elim λJ h=>(Option.map_eq_some_iff.mp h.2).elim λJ h3=>h3.2▸ak h.1 (mapM_app h3.1 h2)
mutual
theorem rnA_app {ι τ:List Nat}:∀{v w:AV},rnA ι v=some w->rnA (ι++τ) v=some w:=@λω=>@λψ=>@λχ=>match ω,ψ,χ with
 | .none,J,h=>h
 | .bool J,ζ,h=>h
 | .int J,ζ,h=>h
 | .str J,ζ,h=>h
 | .gl J,ζ,h=>h
 | .tup J,ζ,h=>(Option.map_eq_some_iff.mp h).elim λJ h=>h.2▸map1 (rnAs_app h.1)
 | .ref J,ζ,h=>(Option.map_eq_some_iff.mp h).elim λJ h=>h.2▸map1 ((List.getElem?_append_left (List.getElem?_eq_some_iff.mp h.1).1).trans h.1)
theorem rnAs_app {ι τ:List Nat}:∀{v w:List AV},rnAs ι v=some w->rnAs (ι++τ) v=some w:=@λω=>@λψ=>@λχ=>match ω,ψ,χ with
 | [],J,h=>h
 | J::ζ,η,h=>(rnAs_cons h).elim λJ h=>h.elim λJ h=>h.2.2▸ak (rnA_app h.1) (rnAs_app h.2.1)
end
theorem rnK_app {κ:Type} {ι τ:List Nat}:∀{v w:List (κ×AV)},rnK ι v=some w->rnK (ι++τ) v=some w:=@λω=>@λψ=>@λχ=>match ω,ψ,χ with
 | [],J,h=>h
 | (J,ζ)::η,θ,h=>(rnK_cons h).elim λJ h=>h.elim λJ h=>h.2.2▸ak (rnA_app h.1) (rnK_app h.2.1)
theorem rnO_app {ι τ:List Nat}:∀{o o':AO},rnO ι o=some o'->rnO (ι++τ) o=some o':=@λω=>@λψ=>@λχ=>match ω,ψ,χ with
 | .list J,ζ,h=>(Option.map_eq_some_iff.mp h).elim λJ h=>h.2▸map1 (rnAs_app h.1)
 | .sdict J,ζ,h=>(Option.map_eq_some_iff.mp h).elim λJ h=>h.2▸map1 (rnK_app h.1)
 | .inst J ζ,η,h=>(Option.map_eq_some_iff.mp h).elim λJ h=>h.2▸map1 (rnK_app h.1)
 | .box J,ζ,h=>h
theorem mapM_of {ι τ:List Nat} {σ:St}:∀{σb:St} {is:List Nat},σb.map (rnO ι)=is.map (λi=>σ[i]?)->(∀i∈is,i < σ.length)->∃os,mapM' (ι++τ) σb=some os/\os.length=is.length/\∀(j i:Nat),is[j]?=some i->∀x,os[j]?=some x->σ[i]?=some x:=@λω=>@λψ=>@λχ=>@λϕ=>match ω,ψ,χ,ϕ with
 | [],[],J,ζ=>⟨[],rfl,rfl,λj i h=>by simp at h⟩
 | [],J::ζ,h,η=>by simp at h
 | J::ζ,[],h,η=>by simp at h
 | o::r,i::is,h,hl=>by
  simp only [List.map_cons,List.cons.injEq] at h
  obtain ⟨os,h1,h2,h3⟩:=mapM_of (τ:=τ) h.2 λi hi=>hl i (List.mem_cons_of_mem _ hi)
  have hi:=hl i (List.mem_cons_self ..)
  have h4:=h.1
  rw [List.getElem?_eq_getElem hi] at h4
  refine ⟨σ[i]::os,?_,by simp [h2],λj i' hj x hx=>?_⟩
  ·exact ak (rnO_app h4) h1
  ·cases j with
   | zero=>simp at hj hx;subst hj;subst hx;exact List.getElem?_eq_getElem hi
   | succ j=>exact h3 j i' (by simpa using hj) x (by simpa using hx)
theorem back_at {ι:List Nat} {σ σ2:St} {v2 v:AV} {os σ':St} (n:Nat) (hn:σ2.length-ι.length=n) (hv:rnA (ι++List.range' σ.length n) v2=some v) (hm:mapM' (ι++List.range' σ.length n) σ2=some os) (ho:over ι (os.take ι.length) σ++os.drop ι.length=σ'):back ι σ σ2 v2=some (v,σ'):=by
 subst hn;subst ho;exact ak (f:=λv os=>(v,over ι (os.take ι.length) σ++os.drop ι.length)) hv hm
theorem nd1 (i:Nat):[i].Nodup:=List.nodup_cons.mpr ⟨List.not_mem_nil,List.nodup_nil⟩
theorem nd2 {i j:Nat} (h:i≠j):[i,j].Nodup:=List.nodup_cons.mpr ⟨λq=>h (List.mem_singleton.mp q),nd1 j⟩
theorem nd3 {i j k:Nat} (h:i≠j) (h2:i≠k) (h3:j≠k):[i,j,k].Nodup:=List.nodup_cons.mpr ⟨λq=>(List.mem_cons.mp q).elim h λq=>h2 (List.mem_singleton.mp q),nd2 h3⟩
theorem lt0 {n:Nat}:∀j∈([]:List Nat),j<n:=λJ h=>(List.not_mem_nil h).elim
theorem ltc {σ:St} {i:Nat} {o:AO} {l:List Nat} (h:σ[i]?=some o) (H:∀j∈l,j < σ.length):∀j∈i::l,j < σ.length:=λj hj=>(List.mem_cons.mp hj).elim (λq=>q▸(List.getElem?_eq_some_iff.mp h).1) (H j)
theorem moc {ι is:List Nat} {σ os:St} {o o2:AO} {i:Nat} (h:σ[i]?=some o) (e:rnO ι o2=some o) (H:os.map (rnO ι)=is.map λi=>σ[i]?):(o2::os).map (rnO ι)=(i::is).map λi=>σ[i]?:=(congr (congrArg List.cons (e.trans h.symm)) H :)
section
variable {C:Cfg} (B:BoxOK C)
include B
theorem lift_val {f:Nat} {args args2:List AV} {σ σb:St} {v:AV} {Φ:AV->St->Prop} (ι:List Nat) (hn:ι.Nodup) (hlt:∀i∈ι,i < σ.length) (ho:σb.map (rnO ι)=ι.map (λi=>σ[i]?)) (ha:rnAs ι args2=some args) (hv:plainB v=true)
  (h:aa C f args2 σb λv' σ'=>v'=v/\σ'=σb) (k:Φ v σ):aa C f args σ Φ:=by
 refine aa.view B ι hn hlt ho ha h λv2 σ2 q=>?_
 obtain ⟨rfl,rfl⟩:=q
 refine ⟨(v2,σ),?_,k⟩
 have hl:σ2.length=ι.length:=by have:=congrArg List.length ho;simpa using this
 obtain ⟨os,h1,h2,h3⟩:=mapM_of (τ:=[]) ho hlt
 rw [List.append_nil] at h1
 have e:σ2.length-ι.length=0:=by omega
 simp only [back,e,List.range'_zero,List.append_nil,rnA_plain hv,h1,Option.bind_some,Option.map_some]
 rw [over_same ι _ _ λj i hj x hx=>?_,<-h2,List.drop_length,List.append_nil]
 rw [<-h2,List.take_length] at hx
 exact h3 j i hj x hx
theorem lift_new {f:Nat} {args args2:List AV} {σ σb:St} {o:AO} {Φ:AV->St->Prop} (ι:List Nat) (hn:ι.Nodup) (hlt:∀i∈ι,i < σ.length) (ho:σb.map (rnO ι)=ι.map (λi=>σ[i]?)) (ha:rnAs ι args2=some args) (hv:∀ι,rnO ι o=some o)
  (h:aa C f args2 σb λv' σ'=>v'=.ref σb.length/\σ'=σb++[o]) (k:Φ (.ref σ.length) (σ++[o])):aa C f args σ Φ:=by
 refine aa.view B ι hn hlt ho ha h λv2 σ2 q=>?_
 obtain ⟨rfl,rfl⟩:=q
 refine ⟨(.ref σ.length,σ++[o]),?_,k⟩
 have hl:σb.length=ι.length:=by have:=congrArg List.length ho;simpa using this
 obtain ⟨os,h1,h2,h3⟩:=mapM_of (τ:=[σ.length]) ho hlt
 have e:(σb++[o]).length-ι.length=1:=by simp;omega
 have e2:List.range' σ.length 1=[σ.length]:=rfl
 have h4:mapM' (ι++[σ.length]) [o]=some [o]:=ak (f:=List.cons) (hv _) rfl
 have h5:rnA (ι++[σ.length]) (.ref σb.length)=some (.ref σ.length):=by
  simp only [rnA]
  rw [List.getElem?_append_right (by omega),hl,Nat.sub_self];rfl
 simp only [back,e,e2,h5,mapM_app h1 h4,Option.bind_some,Option.map_some]
 rw [<-h2,List.take_left,List.drop_left,over_same ι _ _ h3]
end
theorem pl_get:([61,57,41,67,36].all λn=>ah.all λc=>plainB (getF n c))=true:=by decide +kernel
section
variable {C:Cfg} {sc:List Int} (hτ:C.τ=tb sc) (hF:Snd C) (hB:C.BX=BXof C)
include hτ hF hB
theorem call_get {σ:St} {b k n:Nat} {c:Int} {Φ:AV->St->Prop} (hb:σ[b]?=some (.box k)) (hk:k<2) (hn:n=41\/(k=1/\n∈[57,67,36])) (hc:c∈ah) (h:Φ (getF n c) σ):aa C 16 [.ref b,.str n,.int c] σ Φ:=by
 have B:=ai hB ⟨sc,hτ⟩
 have hpl:plainB (getF n c)=true:=List.all_eq_true.mp (List.all_eq_true.mp pl_get n (hn.elim (λq=>q▸(by decide:41∈[61,57,41,67,36])) λq=>(by decide:∀n∈[57,67,36],n∈[61,57,41,67,36]) n q.2)) c hc
 have ht:runOK (tb sc) 16 [.ref 0,.str n,.int c] k k (getF n c) []=true:=by
  rcases hn with rfl | ⟨rfl,hn⟩
  ·exact List.all_eq_true.mp (List.all_eq_true.mp (t_ccc sc) k (List.mem_range.mpr hk)) c hc
  ·exact List.all_eq_true.mp (List.all_eq_true.mp (t_get sc) n hn) c hc
 have hl:=(List.getElem?_eq_some_iff.mp hb).1
 exact lift_val B [b] (nd1 b) (ltc hb lt0) (σb:=[.box k]) (args2:=[.ref 0,.str n,.int c]) (moc hb rfl rfl) rfl hpl (box_call hτ hF hB ht (Nat.le_refl _) hk rfl ⟨rfl,rfl⟩) h
theorem call_stat {σ:St} {b:Nat} {c:Int} {Φ:AV->St->Prop} (hb:σ[b]?=some (.box 1)) (hc:c∈ah) (h:Φ (getF 61 c) σ):aa C 34 [.int c,.ref b,.bool false] σ Φ:=by
 have B:=ai hB ⟨sc,hτ⟩
 have hpl:plainB (getF 61 c)=true:=List.all_eq_true.mp (List.all_eq_true.mp pl_get 61 (by simp)) c hc
 have ht:=List.all_eq_true.mp (t_stat sc) c hc
 have hl:=(List.getElem?_eq_some_iff.mp hb).1
 exact lift_val B [b] (nd1 b) (ltc hb lt0) (σb:=[.box 1]) (args2:=[.int c,.ref 0,.bool false]) (moc hb rfl rfl) rfl hpl (box_call hτ hF hB ht (Nat.le_refl _) (by omega) rfl ⟨rfl,rfl⟩) h
theorem call_map {σ:St} {b:Nat} {c:Int} {tr only:Bool} {Φ:AV->St->Prop} (hb:σ[b]?=some (.box 0)) (hc:c∈ah) (h:match mapF c tr with
  | some l=>Φ (.ref σ.length) (σ++[.list (il l)])
  | none=>Φ .none σ):aa C 35 [.int c,.ref b,.bool tr,.bool only] σ Φ:=by
 have B:=ai hB ⟨sc,hτ⟩
 have ht:=List.all_eq_true.mp (List.all_eq_true.mp (List.all_eq_true.mp (t_map sc) tr (by cases tr<;>simp)) only (by cases only<;>simp)) c hc
 have hl:=(List.getElem?_eq_some_iff.mp hb).1
 cases hm:mapF c tr with
 | some l=>
  rw [hm] at ht h
  exact lift_new B [b] (nd1 b) (ltc hb lt0) (σb:=[.box 0]) (args2:=[.int c,.ref 0,.bool tr,.bool only]) (o:=.list (il l)) (moc hb rfl rfl) rfl (λι=>ag ι l) (box_call hτ hF hB ht (Nat.le_refl _) (by omega) rfl ⟨rfl,rfl⟩) h
 | none=>
  rw [hm] at ht h
  exact lift_val B [b] (nd1 b) (ltc hb lt0) (σb:=[.box 0]) (args2:=[.int c,.ref 0,.bool tr,.bool only]) (moc hb rfl rfl) rfl rfl (box_call hτ hF hB ht (Nat.le_refl _) (by omega) rfl ⟨rfl,rfl⟩) h
theorem call_exp {σ:St} {b k:Nat} {c:Int} {Φ:AV->St->Prop} (hb:σ[b]?=some (.box k)) (hk:k<2) (hc:c∈ah) (h:Φ (.ref σ.length) (σ++[.list [.int c]])):aa C 18 [.int c,.ref b,.bool false] σ Φ:=by
 have B:=ai hB ⟨sc,hτ⟩
 have ht:=List.all_eq_true.mp (List.all_eq_true.mp (t_exp sc) k (List.mem_range.mpr hk)) c hc
 have hl:=(List.getElem?_eq_some_iff.mp hb).1
 exact lift_new B [b] (nd1 b) (ltc hb lt0) (σb:=[.box k]) (args2:=[.int c,.ref 0,.bool false]) (o:=.list [.int c]) (moc hb rfl rfl) rfl (λι=>rfl) (box_call hτ hF hB ht (Nat.le_refl _) hk rfl ⟨rfl,rfl⟩) h
theorem call_prim {σ:St} {b k:Nat} {Φ:AV->St->Prop} (hb:σ[b]?=some (.box k)) (hk:k<2) (h:Φ (.ref σ.length) (σ.set b (.box 1)++[.sdict []])):aa C 22 [.ref b] σ Φ:=by
 have B:=ai hB ⟨sc,hτ⟩
 have ht:=List.all_eq_true.mp (t_prim sc) k (List.mem_range.mpr hk)
 have hl:=(List.getElem?_eq_some_iff.mp hb).1
 refine aa.view B [b] (nd1 b) (ltc hb lt0) (σb:=[.box k]) (args2:=[.ref 0]) (moc hb rfl rfl) rfl (box_call hτ hF hB (Φ:=λv σ=>v=.ref 1/\σ=[.box 1,.sdict []]) ht (by omega) (by omega) rfl ⟨rfl,rfl⟩) λv2 σ2 q=>?_
 obtain ⟨rfl,rfl⟩:=q
 exact ⟨(.ref σ.length,σ.set b (.box 1)++[.sdict []]),rfl,h⟩
end
section
variable {C:Cfg} {d:Nat} {τ:Tb}
theorem go {sc:List Int} {f:Nat} {fn:Fn} {args:List AV} {σ:St} {Φ:AV->St->Prop} (hτ:C.τ=tb sc) (hF:Snd C) (h1:fnT[f]?=some fn) (h2:args.length=fn.n) (h:aA (tb sc) (vcA C f) fn.body σ.length (startL fn args) σ λfl J σ'=>match fl with
  | .ret v=>Φ v σ'
  | .next=>Φ .none σ'
  | .cont=>False):aa C f args σ Φ:=hF f fn args σ Φ h1 h2 (by rw [hτ];exact h)
theorem vc {sc:List Int} {f:Nat} {args:List AV} {σ:St} {k:AV->St->Prop} (hτ:C.τ=tb sc) (h1:decide (f<d)=true) (h2:args.length=(tb sc).arity f) (h:aa C f args σ k):(vcA C d).call f args σ k:=⟨odT h1,by rw [hτ];exact h2,h⟩
theorem bE {e:E} {m:Lo} {σ σ1:St} {k:AV->St->Prop} {V:AV} (h:evE τ (vcA C d) e m σ λv σ'=>v=V/\σ'=σ1) (g:k V σ1):evE τ (vcA C d) e m σ k:=
 aj vc_mono e (λv σ q=>by obtain ⟨rfl,rfl⟩:=q;exact g) h
theorem bO {γ:Type} {o:Option γ} {a:γ} {k:γ->Prop} (h:o=some a) (g:k a):optK (vcA C d) o k:=by rw [h];exact g
theorem bG {c:Bool} {r:Prop} (h:c=true) (g:r):aL (vcA C d) c r:=by rw [h];exact g
theorem iT {b:Bool} {x y:Prop} (h:b=true) (g:x):ifK b x y:=by rw [h];exact g
theorem iF {b:Bool} {x y:Prop} (h:b=false) (g:y):ifK b x y:=by rw [h];exact g
theorem b1T {b:Bool} (h:b=true):(b==true)=true:=by rw [h];rfl
theorem b1F {b:Bool} (h:b=false):(b==true)=false:=by rw [h];rfl
theorem b0T {b:Bool} (h:b=true):(b==false)=false:=by rw [h];rfl
theorem b0F {b:Bool} (h:b=false):(b==false)=true:=by rw [h];rfl
theorem toC {src:Src} {t:T} {a:Lo->St->(Option AV->St->Prop)->Prop} {m:Lo} {σ:St} {pos:Nat} {k:AV->St->Prop} (h:CompP src t a m σ pos k):(vcA C d).compL src t a m σ pos k:=h
theorem toF {p:Nat} {src:Src} {t:T} {b:Nat->Lo->St->(Fl->Lo->St->Prop)->Prop} {m:Lo} {σ:St} {k:Fl->Lo->St->Prop} (h:ForP p src t b m σ k):(vcA C d).forL p src t b m σ k:=h
theorem toW {p:Nat} {a:Lo->St->(Bool->St->Prop)->Prop} {b:Nat->Lo->St->(Fl->Lo->St->Prop)->Prop} {m:Lo} {σ:St} {k:Fl->Lo->St->Prop} (h:WhileP p a b m σ k):(vcA C d).whileL p a b m σ k:=h
theorem toSs {α:Alg Prop} {ss:Ss} {p:Nat} {m:Lo} {σ:St} {K:Fl->Lo->St->Prop} (h:aA τ α ss p m σ K):aA τ α ss p m σ K:=h
theorem aC {c:E} {a b ss:Ss} {p:Nat} {m:Lo} {σ σ1:St} {K:Fl->Lo->St->Prop} {t:Bool} (h:evE τ (vcA C d) c m σ λv σ'=>v=.bool t/\σ'=σ1) (ht:t=true) (g:aA τ (vcA C d) a p m σ1 λfl m σ=>match fl with
  | .next=>aA τ (vcA C d) ss p m σ K
  | fl=>K fl m σ):aA τ (vcA C d) (.cons (.ite c a b) ss) p m σ K:=by
 subst ht;exact bE h g
theorem S_ifF {c:E} {a b ss:Ss} {p:Nat} {m:Lo} {σ σ1:St} {K:Fl->Lo->St->Prop} {t:Bool} (h:evE τ (vcA C d) c m σ λv σ'=>v=.bool t/\σ'=σ1) (ht:t=false) (g:aA τ (vcA C d) b p m σ1 λfl m σ=>match fl with
  | .next=>aA τ (vcA C d) ss p m σ K
  | fl=>K fl m σ):aA τ (vcA C d) (.cons (.ite c a b) ss) p m σ K:=by
 subst ht;exact bE h g
theorem al {c:E} {a ss:Ss} {p:Nat} {m:Lo} {σ σ1:St} {K:Fl->Lo->St->Prop} {t:Bool} (h:evE τ (vcA C d) c m σ λv σ'=>v=.bool t/\σ'=σ1) (ht:t=false) (g:aA τ (vcA C d) ss p m σ1 K):aA τ (vcA C d) (.cons (.ite c a .nil) ss) p m σ K:=by
 subst ht;exact bE h g
theorem wB {c:E} {m:Lo} {σ σ1:St} {k:Bool->St->Prop} {t b:Bool} (h:evE τ (vcA C d) c m σ λv σ'=>v=.bool t/\σ'=σ1) (ht:t=b) (g:k b σ1):evE τ (vcA C d) c m σ λv σ=>truK (vcA C d) v λt=>k t σ:=by
 subst ht;exact bE h g
theorem same {p:Nat} {m:Lo} {σ:St} {R:Lo->St->Prop} (h:R m σ):∃m2 σ2,Vw p m σ m2 σ2/\R m2 σ2:=⟨m,σ,.inl ⟨rfl,rfl⟩,h⟩
end
noncomputable def ndB:List Nat->Bool:=λω=>match ω with
 | []=>true
 | i::r=>!elemN i r&&ndB r
theorem elemN_mem {i:Nat}:∀{l:List Nat},i∈l->elemN i l=true:=@λω=>@λψ=>match ω,ψ with
 | j::r,h=>by
  unfold elemN
  cases q:Nat.beq i j with
  | true=>rfl
  | false=>
   rcases List.mem_cons.mp h with rfl | h
   ·rw [Nat.beq_refl] at q;cases q
   ·exact elemN_mem h
theorem ndB_nd:∀{l:List Nat},ndB l=true->l.Nodup:=@λω=>@λψ=>match ω,ψ with
 | [],J=>List.nodup_nil
 | i::r,h=>by
  have h:=Bool.and_eq_true_iff.mp h
  refine List.nodup_cons.mpr ⟨λq=>?_,ndB_nd h.2⟩
  rw [elemN_mem q] at h;cases h.1
noncomputable def vwc (ι:List Nat) (n:Nat):Bool:=ndB ι&&ι.all λi=>Nat.blt i n
theorem vwc_lt {ι:List Nat} {n:Nat} (h:vwc ι n=true):∀i∈ι,i<n:=λi hi=>Nat.blt_eq▸List.all_eq_true.mp (Bool.and_eq_true_iff.mp h).2 i hi
noncomputable def VoL (ι:List Nat) (σ:St):St->List Nat->Prop:=λω ψ=>match ω,ψ with
 | [],[]=>True
 | o::os,i::is=>rnO ι o=σ[i]?/\VoL ι σ os is
 | J,ζ=>False
theorem VoL.map {ι:List Nat} {σ:St}:∀{os:St} {is:List Nat},VoL ι σ os is->os.map (rnO ι)=is.map λi=>σ[i]?:=@λω=>@λψ=>@λχ=>match ω,ψ,χ with
 | [],[],J=>rfl
 | J::ζ,η::θ,h=>congr (congrArg List.cons h.1) h.2.map
theorem VoL.app {ι:List Nat} {σ g:St}:∀{os:St} {is:List Nat},(∀i∈is,i < σ.length)->VoL ι σ os is->VoL ι (σ++g) os is:=@λω=>@λψ=>@λχ=>@λϕ=>match ω,ψ,χ,ϕ with
 | [],[],J,ζ=>trivial
 | J::ζ,i::η,hl,h=>⟨h.1.trans (List.getElem?_append_left (hl i (List.mem_cons_self ..))).symm,h.2.app λi hi=>hl i (List.mem_cons_of_mem _ hi)⟩
theorem vw_q {p:Nat} {m m2:Lo} {σ σ2:St} (ι:List Nat) (hc:vwc ι σ.length=true) (hp:ι.take p=List.range p) (ho:VoL ι σ σ2 ι) (hm:VwM ι m2 m):Vw p m σ m2 σ2:=by
 refine .inr ⟨ι,ndB_nd (Bool.and_eq_true_iff.mp hc).1,vwc_lt hc,λj hj=>?_,ho.map,hm⟩
 have:(ι.take p)[j]?=(List.range p)[j]?:=by rw [hp]
 rw [List.getElem?_take_of_lt hj,List.getElem?_range hj] at this
 exact this
theorem post_g {C:Cfg} (B:BoxOK C) {f:Nat} {args:List AV} {σ S S2:St} {V V2:AV} (ι:List Nat) (hc:vwc ι S.length=true) (hp:ι.take σ.length=List.range σ.length) (ho:VoL ι S S2 ι) (hv:rnA ι V2=some V) (h:aa C f args σ λv σ'=>v=V/\∃g,σ'=S++g):aa C f args σ λv σ'=>v=V2/\σ'=S2:=by
 refine aa.post B h ?_
 rintro v σ' ⟨rfl,g,rfl⟩
 have hl:vwc ι (S++g).length=true:=Bool.and_eq_true_iff.mpr ⟨(Bool.and_eq_true_iff.mp hc).1,List.all_eq_true.mpr λi hi=>by
  have:=vwc_lt hc i hi
  rw [Nat.blt_eq,List.length_append];omega⟩
 exact ⟨V2,S2,vw_q ι hl hp (ho.app (vwc_lt hc)) ⟨hv,trivial⟩,rfl,rfl⟩
theorem pinL {p i:Nat} (h:Nat.blt i p=true):pinS p (.list i):=Nat.blt_eq.mp h
theorem for_l {C:Cfg} {d:Nat} {τ:Tb} {β γ:Type} {p:Nat} {src:Src} {t:T} {b:Ss} {m:Lo} {σ:St} {Φ:Fl->Lo->St->Prop} (mk:β->AV) (xs:List β) (p':Nat) (M:γ->Nat->Lo) (S:γ->Nat->St) (I:γ->Nat->Prop) (hpp:p<=p') (hpin:pinS p' src)
  (hs:∀g j,itemAt (S g j) src j=some (xs.map mk)[j]?) (g0:γ) (hm:m=M g0 0) (hσ:σ=S g0 0) (h0:I g0 0)
  (step:∀(j:Nat) (c:β) (g:γ),I g j->xs[j]?=some c->j<xs.length->match aw t (mk c) (M g j) with
   | none=>False
   | some m'=>aA τ (vcA C d) b p' m' (S g j) λfl m'' σ'=>match fl with
    | .ret v=>Φ (.ret v) m'' σ'
    | J=>∃g',I g' (j+1)/\Vw p' m'' σ' (M g' (j+1)) (S g' (j+1)))
  (hend:∀g,I g xs.length->Φ .next (M g xs.length) (S g xs.length)):ForP p src t (λp m σ k=>aA τ (vcA C d) b p m σ k) m σ Φ:=by
 refine ⟨p',xs.length,λj m σ=>∃g,m=M g j/\σ=S g j/\I g j/\j<=xs.length,hpp,hpin,⟨g0,hm,hσ,h0,Nat.zero_le _⟩,?_⟩
 rintro j m σ ⟨g,rfl,rfl,hI,hj⟩
 refine ⟨hj,?_⟩
 rw [hs,List.getElem?_map]
 cases hx:xs[j]? with
 | none=>
  obtain rfl:j=xs.length:=Nat.le_antisymm hj (List.getElem?_eq_none_iff.mp hx)
  exact hend g hI
 | some x=>
  have hlt:=(List.getElem?_eq_some_iff.mp hx).1
  have h:=step j x g hI hx hlt
  show match aw t (mk x) (M g j) with | none=>False | some m'=>_
  revert h
  cases aw t (mk x) (M g j) with
  | none=>exact id
  | some m'=>
   refine evSs_rel vc_mono b rfl λfl m σ h=>?_
   cases fl with
   | ret v=>exact h
   | _=>obtain ⟨g',h1,h2⟩:=h;exact ⟨_,_,h2,g',rfl,rfl,h1,hlt⟩
theorem for_il {C:Cfg} {d:Nat} {τ:Tb} {γ:Type} {p:Nat} {src:Src} {x:Nat} {b:Ss} {m:Lo} {σ:St} {Φ:Fl->Lo->St->Prop} (xs:List Int) (p':Nat) (M:γ->Nat->Lo) (S:γ->Nat->St) (I:γ->Nat->Prop) (hpp:p<=p') (hpin:pinS p' src)
  (hs:∀g j,itemAt (S g j) src j=some (il xs)[j]?) (g0:γ) (hm:m=M g0 0) (hσ:σ=S g0 0) (h0:I g0 0) (hl:∀g j,x<(M g j).length)
  (step:∀(j:Nat) (c:Int) (g:γ),I g j->xs[j]?=some c->j<xs.length->aA τ (vcA C d) b p' ((M g j).set x (some (.int c))) (S g j) λfl m'' σ'=>match fl with
    | .ret v=>Φ (.ret v) m'' σ'
    | J=>∃g',I g' (j+1)/\Vw p' m'' σ' (M g' (j+1)) (S g' (j+1)))
  (hend:∀g,I g xs.length->Φ .next (M g xs.length) (S g xs.length)):ForP p src (.v x) (λp m σ k=>aA τ (vcA C d) b p m σ k) m σ Φ:=by
 refine for_l AV.int xs p' M S I hpp hpin hs g0 hm hσ h0 (λj c g hI hc hj=>?_) hend
 rw [show aw (.v x) _ _=some _ from if_pos (hl g j)]
 exact step j c g hI hc hj
theorem for_en {C:Cfg} {d:Nat} {τ:Tb} {γ:Type} {p:Nat} {src:Src} {x y:Nat} {b:Ss} {m:Lo} {σ:St} {Φ:Fl->Lo->St->Prop} (xs:List Int) (p':Nat) (M:γ->Nat->Lo) (S:γ->Nat->St) (I:γ->Nat->Prop) (hpp:p<=p') (hpin:pinS p' src)
  (hs:∀g j,itemAt (S g j) src j=some ((il xs)[j]?.map λx=>.tup [.int j,x])) (g0:γ) (hm:m=M g0 0) (hσ:σ=S g0 0) (h0:I g0 0) (hl:∀g j,x<(M g j).length/\y<(M g j).length)
  (step:∀(j:Nat) (c:Int) (g:γ),I g j->xs[j]?=some c->j<xs.length->aA τ (vcA C d) b p' (((M g j).set x (some (.int j))).set y (some (.int c))) (S g j) λfl m'' σ'=>match fl with
    | .ret v=>Φ (.ret v) m'' σ'
    | J=>∃g',I g' (j+1)/\Vw p' m'' σ' (M g' (j+1)) (S g' (j+1)))
  (hend:∀g,I g xs.length->Φ .next (M g xs.length) (S g xs.length)):ForP p src (.tup [x,y]) (λp m σ k=>aA τ (vcA C d) b p m σ k) m σ Φ:=by
 refine for_l (λ(q:Int×Nat)=>AV.tup [.int q.2,.int q.1]) xs.zipIdx p' M S I hpp hpin (λg j=>?_) g0 hm hσ h0 (λj q g hI hc hj=>?_) λg hI=>?_
 ·rw [hs,il_get,List.getElem?_map,List.getElem?_zipIdx,Nat.zero_add]
  cases xs[j]?<;>rfl
 ·rw [List.getElem?_zipIdx,Nat.zero_add] at hc
  obtain ⟨c,hc',rfl⟩:=Option.map_eq_some_iff.mp hc
  rw [List.length_zipIdx] at hj
  have e:∀(a b:AV) (m:Lo),aw (.tup [x,y]) (.tup [a,b]) m=if x<m.length then (if y<(m.set x (some a)).length then some ((m.set x (some a)).set y (some b)) else none) else none:=λJ J J=>rfl
  rw [e,if_pos (hl g j).1,if_pos (by rw [List.length_set];exact (hl g j).2)]
  exact step j c g hI hc' hj
 ·rw [List.length_zipIdx] at hI ⊢;exact hend g hI
theorem comp_l {β:Type} {src:Src} {t:T} {step:Lo->St->(Option AV->St->Prop)->Prop} {m:Lo} {σ0:St} {Φ:AV->St->Prop} (mk:β->AV) (l:List β) (f:β->Option AV) (hp:pinS σ0.length src) (hs:∀acc j,itemAt (σ0++[.list acc]) src j=some (l.map mk)[j]?) (hlen:l.length<SZ)
  (hstep:∀(j:Nat) (c:β) (acc:List AV) (Ψ:Option AV->St->Prop),l[j]?=some c->Ψ (f c) (σ0++[.list acc])->match aw t (mk c) m with
   | none=>False
   | some m'=>step m' (σ0++[.list acc]) Ψ)
  (h:Φ (.ref σ0.length) (σ0++[.list (l.filterMap f)])):CompP src t step m (σ0++[.list []]) σ0.length Φ:=by
 refine ⟨l.length,λj σ=>j<=l.length/\σ=σ0++[.list ((l.take j).filterMap f)],hp,⟨Nat.zero_le _,rfl⟩,?_⟩
 rintro j σ ⟨hj,rfl⟩
 refine ⟨hj,?_⟩
 rw [hs,List.getElem?_map]
 cases hx:l[j]? with
 | none=>
  rw [List.take_of_length_le (List.getElem?_eq_none_iff.mp hx)]
  exact h
 | some x=>
  have hlt:=(List.getElem?_eq_some_iff.mp hx).1
  have htk:l.take (j+1)=l.take j++[x]:=by rw [List.take_add_one,hx];rfl
  have hle:((l.take j).filterMap f).length<SZ:=Nat.lt_of_le_of_lt (Nat.le_trans (List.length_filterMap_le _ _) (List.length_take_le' _ _)) hlen
  have q:=hstep j x ((l.take j).filterMap f) (λo σ'=>match o with
    | none=>∃σ2,Vw (σ0.length+1) [] σ' [] σ2/\(j+1<=l.length/\σ2=σ0++[.list ((l.take (j+1)).filterMap f)])
    | some y=>∃xs,σ'[σ0.length]?=some (.list xs)/\xs.length<SZ/\∃σ2,Vw (σ0.length+1) [] (σ'.set σ0.length (.list (xs++[y]))) [] σ2/\(j+1<=l.length/\σ2=σ0++[.list ((l.take (j+1)).filterMap f)])) hx (by
   rw [htk,List.filterMap_append]
   cases hf:f x with
   | none=>exact ⟨_,.inl ⟨rfl,rfl⟩,hlt,by simp [hf]⟩
   | some y=>exact ⟨_,List.getElem?_concat_length,hle,_,.inl ⟨rfl,rfl⟩,hlt,by simp [hf]⟩)
  show match aw t (mk x) m with | none=>False | some m'=>_
  revert q
  cases aw t (mk x) m with
  | none=>exact id
  | some m'=>exact id
section
variable {C:Cfg} (B:BoxOK C)
include B
theorem lift_newq {f:Nat} {args args2:List AV} {σ σb:St} {o:AO} {Φ:AV->St->Prop} (ι:List Nat) (hc:vwc ι σ.length=true) (ho:VoL ι σ σb ι) (ha:rnAs ι args2=some args) (hv:∀ι,rnO ι o=some o)
  (h:aa C f args2 σb λv' σ'=>v'=.ref σb.length/\σ'=σb++[o]) (k:Φ (.ref σ.length) (σ++[o])):aa C f args σ Φ:=
 lift_new B ι (ndB_nd (Bool.and_eq_true_iff.mp hc).1) (vwc_lt hc) ho.map ha hv h k
theorem lift_valq {f:Nat} {args args2:List AV} {σ σb:St} {v:AV} {Φ:AV->St->Prop} (ι:List Nat) (hc:vwc ι σ.length=true) (ho:VoL ι σ σb ι) (ha:rnAs ι args2=some args) (hv:plainB v=true)
  (h:aa C f args2 σb λv' σ'=>v'=v/\σ'=σb) (k:Φ v σ):aa C f args σ Φ:=
 lift_val B ι (ndB_nd (Bool.and_eq_true_iff.mp hc).1) (vwc_lt hc) ho.map ha hv h k
theorem view_ib {f i b k:Nat} {σ:St} {xs:List Int} {more:List AV} {Ψ Φ:AV->St->Prop} (hi:σ[i]?=some (.list (il xs))) (hb:σ[b]?=some (.box k)) (hm:∀ι,rnAs ι more=some more) (h:aa C f (.ref 0::.ref 1::more) [.list (il xs),.box k] Ψ)
  (post:∀v2 σ2,Ψ v2 σ2->∃p,back [i,b] σ σ2 v2=some p/\Φ p.1 p.2):aa C f (.ref i::.ref b::more) σ Φ:=by
 have hne:i≠b:=λq=>by rw [q,hb] at hi;cases hi
 exact aa.view B (args2:=.ref 0::.ref 1::more) [i,b] (nd2 hne) (ltc hi (ltc hb lt0)) (moc hi (ag _ _) (moc hb rfl rfl)) (ak (f:=List.cons) rfl (ak (f:=List.cons) rfl (hm _))) h post
theorem lift_ib1 {f i b k:Nat} {σ:St} {xs ys:List Int} {more:List AV} {Φ:AV->St->Prop} (hi:σ[i]?=some (.list (il xs))) (hb:σ[b]?=some (.box k)) (hm:∀ι,rnAs ι more=some more)
  (h:aa C f (.ref 0::.ref 1::more) [.list (il xs),.box k] λv σ=>v=.ref 2/\σ=[.list (il xs),.box 1,.list (il ys)]) (g:Φ (.ref σ.length) (σ.set b (.box 1)++[.list (il ys)])):aa C f (.ref i::.ref b::more) σ Φ:=by
 refine view_ib B hi hb hm h ?_
 rintro v2 σ2 ⟨rfl,rfl⟩
 refine ⟨(_,_),?_,g⟩
 exact back_at 1 rfl rfl (ak (f:=List.cons) (ag _ _) (ak (f:=List.cons) rfl (ak (f:=List.cons) (ag _ _) rfl))) (congrArg (λl=>l.set b (.box 1)++[.list (il ys)]) (set_same hi))
theorem lift_ibv {f i b k:Nat} {σ:St} {xs:List Int} {more:List AV} {v:AV} {Φ:AV->St->Prop} (hi:σ[i]?=some (.list (il xs))) (hb:σ[b]?=some (.box k)) (hm:∀ι,rnAs ι more=some more) (hv:plainB v=true)
  (h:aa C f (.ref 0::.ref 1::more) [.list (il xs),.box k] λv' σ=>v'=v/\σ=[.list (il xs),.box 1]) (g:Φ v (σ.set b (.box 1))):aa C f (.ref i::.ref b::more) σ Φ:=by
 refine view_ib B hi hb hm h ?_
 rintro v2 σ2 ⟨rfl,rfl⟩
 refine ⟨(_,_),?_,g⟩
 exact back_at 0 rfl (rnA_plain hv) (ak (f:=List.cons) (ag _ _) (ak (f:=List.cons) rfl rfl)) ((List.append_nil _).trans (congrArg (λl=>l.set b (.box 1)) (set_same hi)))
end
theorem comp_r {β:Type} {src:Src} {t:T} {step:Lo->St->(Option AV->St->Prop)->Prop} {m:Lo} {σ0:St} {Φ:AV->St->Prop} (mk:β->AV) (l:List β) (f:β->Option AV) {r:List AV} (hr:l.filterMap f=r) (hp:pinS σ0.length src) (hs:∀acc j,itemAt (σ0++[.list acc]) src j=some (l.map mk)[j]?) (hlen:l.length<SZ)
  (hstep:∀(j:Nat) (c:β) (acc:List AV) (Ψ:Option AV->St->Prop),l[j]?=some c->Ψ (f c) (σ0++[.list acc])->match aw t (mk c) m with
   | none=>False
   | some m'=>step m' (σ0++[.list acc]) Ψ)
  (h:Φ (.ref σ0.length) (σ0++[.list r])):CompP src t step m (σ0++[.list []]) σ0.length Φ:=comp_l mk l f hp hs hlen hstep (hr▸h)
theorem iQ {b:Bool} {Ψ:Option AV->St->Prop} {x y:Option AV} {σ:St} (h:Ψ (if b=true then x else y) σ):ifK b (Ψ x σ) (Ψ y σ):=by cases b<;>exact h
theorem fm_f {β:Type} (mk:β->AV) (p:β->Bool) (l:List β):(l.filterMap λk=>if p k=true then some (mk k) else none)=(l.filter p).map mk:=by
 rw [<-List.filterMap_eq_filter,List.map_filterMap]
 congr 1;funext x;cases h:p x<;>simp [Option.guard,h]
theorem fm_m {β:Type} (g:β->AV) (l:List β):(l.filterMap λc=>some (g c))=l.map g:=congrFun List.filterMap_eq_map l
theorem fm_z {β γ:Type} (g:β->Option γ) (l:List β):(l.zipIdx.filterMap λq=>g q.1)=l.filterMap g:=by
 have:=List.filterMap_map (f:=Prod.fst) (g:=g) (l:=l.zipIdx)
 rw [List.zipIdx_map_fst] at this;exact this.symm
theorem zi_at {β:Type} (mk:β->AV) (l:List β) (j:Nat):((l.map mk)[j]?.map λx=>AV.tup [.int j,x])=(l.zipIdx.map λq=>AV.tup [.int q.2,mk q.1])[j]?:=by
 rw [List.getElem?_map,List.getElem?_map,List.getElem?_zipIdx,Nat.zero_add]
 cases l[j]?<;>rfl
theorem idx_l {τ:Tb} {σ:St} {p:Nat} {xs:List AV} {k:Int} {a:AV} (h:σ[p]?=some (.list xs)) (e:idxL xs k=some a):idxA τ σ (.ref p) (.int k)=some a:=by
 have q:aT τ σ (.ref p)=some xs:=lst_i h
 exact (congrArg (λJ=>Option.bind J λxs=>idxL xs k) q).trans e
noncomputable def run0 (τ:Tb) (f:Nat) (args:List AV) (v:AV):Bool:=oS ((runA τ sum1 40 57).call f args [] (λv σ=>some (v,σ))) λr=>l0 r.2 (avB r.1 v)
set_option tactic.hygienic true in
theorem call_run0 {C:Cfg} {sc:List Int} (hτ:C.τ=tb sc) (hF:Snd C) (hB:C.BX=BXof C) {f:Nat} {args:List AV} {v:AV} {σ:St} {Φ:AV->St->Prop} (h:run0 (tb sc) f args v=true) (ha:rnAs [] args=some args) (hv:plainB v=true) (g:Φ v σ):aa C f args σ Φ:=by
 have B:=ai hB ⟨sc,hτ⟩
 revert h
 show oS ((runA (tb sc) sum1 40 57).call f args [] (λv σ=>some (v,σ))) (λr=>l0 r.2 (avB r.1 v))=true->_
 cases hr:(runA (tb sc) sum1 40 57).call f args [] (λv σ=>some (v,σ)) with
 | none=>exact ffT
 | some r=>
  obtain ⟨v',σ'⟩:=r
  cases σ' with
  | cons J ζ=>exact ffT
  | nil=>
   intro h
   obtain rfl:=avB_eq h
   refine lift_val B [] List.nodup_nil (λi hi=>(nomatch hi)) (σb:=[]) rfl ha hv ?_ g
   exact run_call (sum1_ok hτ hF B) hF (v',[]) (n:=40) (d:=57) (f:=f) (args:=args) (σ:=[]) (Φ:=λv σ=>v=v'/\σ=[]) (by rw [hτ];exact hr) ⟨rfl,rfl⟩
noncomputable def pl (l:List (Int×Int)):List AV:=l.map λr=>.tup [.int r.1,.int r.2]
theorem keyed_pl:∀l:List (Int×Int),keyedOf (pl l)=some l:=λω=>match ω with
 | []=>rfl
 | (a,b)::l=>by
  show (keyedOf (pl l)).map (λJ=>(a,b)::J)=_
  rw [keyed_pl l];rfl
theorem pl_len (l:List (Int×Int)):(pl l).length=l.length:=List.length_map ..
theorem pl_plain:∀l:List (Int×Int),plainBs (pl l)=true:=λω=>match ω with
 | []=>rfl
 | J::l=>pl_plain l
theorem rnAs_pl (ι:List Nat) (l:List (Int×Int)):rnAs ι (pl l)=some (pl l):=rnAs_plain (pl_plain l)
section
variable {C:Cfg} {sc:List Int} (hτ:C.τ=tb sc) (hF:Snd C) (hB:C.BX=BXof C)
include hτ hF hB
theorem call_srt {σ:St} {i:Nat} {l:List (Int×Int)} (hi:σ[i]?=some (.list (pl l))) (h1:oneRow l=true) {Φ:AV->St->Prop} (h:Φ (.ref σ.length) (σ++[.list (il ((aU l).map (λJ=>J.2)))])):aa C 7 [.ref i] σ Φ:=by
 have B:=ai hB ⟨sc,hτ⟩
 refine lift_new B [i] (nd1 i) (ltc hi lt0) (σb:=[.list (pl l)]) (args2:=[.ref 0]) (o:=.list (il ((aU l).map (λJ=>J.2)))) (moc hi (congrArg (Option.map AO.list) (rnAs_pl _ _)) rfl) rfl (λι=>ag ι _) ?_ h
 refine aa.post B (Ψ:=λv σ=>v=.ref 2/\σ=[AO.list (pl l),.list (pl (aU l)),.list (il ((aU l).map (λJ=>J.2)))]) ?_ λv σ' q=>?_
 ·refine go hτ hF rfl rfl ?_
  have h64:l.length<64:=odT (Bool.and_eq_true_iff.mp h1).1
  refine bO (a:=l) (keyed_pl l) ?_
  refine bG h1 ?_
  refine toC ?_
  refine comp_l (src:=.list 1) (σ0:=[.list (pl l),.list (pl (aU l))]) (λr:Int×Int=>.tup [.int r.1,.int r.2]) (aU l) (λr=>some (.int r.2)) (Nat.lt_succ_self 1) (λacc j=>rfl) (by rw [(sortW_perm l).length_eq];unfold SZ;omega) (λj x acc Ψ hx hΨ=>hΨ) (And.intro rfl ?_)
  rw [show (aU l).filterMap (λr=>some (AV.int r.2))=il ((aU l).map (λJ=>J.2)) by simp [il,List.filterMap_eq_map,Function.comp_def]];rfl
 ·obtain ⟨rfl,rfl⟩:=q
  exact ⟨.ref 1,_,.inr ⟨[0,2],by simp,by simp,λj hj=>by
   have:j=0:=Nat.lt_one_iff.mp hj
   subst this;rfl,by simp [rnO,rnAs_pl,rnAs_il],⟨rfl,trivial⟩⟩,rfl,rfl⟩
end
noncomputable def au (c:Int):Int:=match getF 41 c with
 | .int i=>i
 | J=>0
theorem get_ccc {c:Int} (h:c∈ah):getF 41 c=.int (au c):=by
 have:ah.all (λc=>match getF 41 c with | .int J=>true | J=>false)=true:=by decide +kernel
 have h2:=List.all_eq_true.mp this c h
 unfold au
 generalize getF 41 c=v at *
 cases v<;>first | rfl | cases h2
noncomputable def okRow (r:Int×Int):Bool:=decide (r=(230,769))||decide (r=(9,2381))
theorem ccc_row {c:Int} (h:c∈ah) (hp:0<au c):okRow (au c,c)=true:=by
 have:ah.all (λc=>!decide (0<au c)||okRow (au c,c))=true:=by decide +kernel
 have h2:=List.all_eq_true.mp this c h
 rw [decide_eq_true hp] at h2
 simpa using h2
theorem one_ok {R:List (Int×Int)} (h:∀r∈R,okRow r=true) (hl:R.length<64):oneRow R=true:=by
 unfold oneRow
 simp only [Bool.and_eq_true,decide_eq_true_eq,List.all_eq_true]
 refine ⟨hl,λa ha b hb=>?_⟩
 have h1:=h a ha
 have h2:=h b hb
 unfold okRow at h1 h2
 simp only [Bool.or_eq_true,decide_eq_true_eq] at h1 h2
 rcases h1 with rfl | rfl<;>rcases h2 with rfl | rfl<;>decide
noncomputable def aP (s:List Int×List (Int×Int)) (c:Int):List Int×List (Int×Int):=if 0<au c then (s.1,s.2++[(au c,c)]) else (s.1++(aU s.2).map (λJ=>J.2)++[c],[])
noncomputable def ordE (s:List Int×List (Int×Int)):List Int:=s.1++(aU s.2).map (λJ=>J.2)
noncomputable def ordF (xs:List Int):List Int:=ordE (xs.foldl aP ([],[]))
theorem take_succ_fold {α β:Type} {f:β->α->β} {b:β} {xs:List α} {j:Nat} {x:α} (h:xs[j]?=some x):(xs.take (j+1)).foldl f b=f ((xs.take j).foldl f b) x:=by
 rw [List.take_add_one,h];simp
theorem ordS_inv:∀(xs:List Int),(∀c∈xs,c∈ah)->∀s:List Int×List (Int×Int),(∀r∈s.2,okRow r=true)->(∀r∈(xs.foldl aP s).2,okRow r=true)/\(xs.foldl aP s).1.length+(xs.foldl aP s).2.length=s.1.length+s.2.length+xs.length:=λω ψ χ ϕ=>match ω,ψ,χ,ϕ with
 | [],J,s,h=>⟨h,by simp⟩
 | c::xs,hx,s,h=>by
  have ih:=ordS_inv xs (λc hc=>hx c (List.mem_cons_of_mem _ hc)) (aP s c) (λr hr=>by
   unfold aP at hr
   split at hr
   ·rename_i hp
    rcases List.mem_append.mp hr with q | q
    ·exact h r q
    ·rw [List.mem_singleton.mp q];exact ccc_row (hx c (List.mem_cons_self ..)) hp
   ·cases hr)
  refine ⟨ih.1,?_⟩
  rw [List.foldl_cons,ih.2]
  unfold aP
  split
  ·simp;omega
  ·simp [(sortW_perm s.2).length_eq];omega
section
variable {C:Cfg} {sc:List Int} (hτ:C.τ=tb sc) (hF:Snd C) (hB:C.BX=BXof C)
include hτ hF hB
theorem lift_ib {f i b k:Nat} {σ:St} {xs:List Int} {more:List AV} {o:AO} {Φ:AV->St->Prop} (hi:σ[i]?=some (.list (il xs))) (hb:σ[b]?=some (.box k)) (ho:∀ι,rnO ι o=some o) (hm:∀ι,rnAs ι more=some more)
  (h:aa C f (.ref 0::.ref 1::more) [.list (il xs),.box k] λv σ=>v=.ref 2/\σ=[.list (il xs),.box k,o]) (g:Φ (.ref σ.length) (σ++[o])):aa C f (.ref i::.ref b::more) σ Φ:=by
 have hne:i≠b:=λq=>by rw [q,hb] at hi;cases hi
 exact lift_new (ai hB ⟨sc,hτ⟩) [i,b] (nd2 hne) (ltc hi (ltc hb lt0)) (σb:=[.list (il xs),.box k]) (args2:=.ref 0::.ref 1::more) (moc hi (ag _ _) (moc hb rfl rfl)) (ak (f:=List.cons) rfl (ak (f:=List.cons) rfl (hm _))) ho h g
theorem call_ord {σ:St} {i b k:Nat} {xs:List Int} {Φ:AV->St->Prop} (hi:σ[i]?=some (.list (il xs))) (hb:σ[b]?=some (.box k)) (hk:k<2) (hx:∀c∈xs,c∈ah) (hl:xs.length<60)
  (h:Φ (.ref σ.length) (σ++[.list (il (ordF xs))])):aa C 19 [.ref i,.ref b] σ Φ:=by
 have B:=ai hB ⟨sc,hτ⟩
 refine lift_ib hτ hF hB hi hb (λι=>ag ι _) (λJ=>rfl) (post_g B (S:=[.list (il xs),.box k,.list (il (ordF xs))]) [0,1,2] rfl rfl ⟨ag _ _,rfl,ag _ _,trivial⟩ rfl (go hτ hF rfl rfl ?_)) h
 have inv:=λj=>ordS_inv (xs.take j) (λc hc=>hx c (List.mem_of_mem_take hc)) ([],[]) (λr hr=>nomatch hr)
 have e1:∀s:List Int×List (Int×Int),(il ((aU s.2).map (λJ=>J.2))).length=s.2.length:=λs=>by rw [av,List.length_map,(sortW_perm s.2).length_eq]
 have inv2:∀j,((xs.take j).foldl aP ([],[])).1.length+((xs.take j).foldl aP ([],[])).2.length<60:=λj=>by
  have:=(inv j).2;rw [List.length_take] at this;simp only [List.length_nil] at this;omega
 refine toF ?_
 refine for_il xs 2 (λ(g:Option AV×Option AV) J=>[some (.ref 0),some (.ref 1),g.1,some (.ref 2),some (.ref 3),g.2]) (λJ j=>[.list (il xs),.box k,.list (il ((xs.take j).foldl aP ([],[])).1),.list (pl ((xs.take j).foldl aP ([],[])).2)])
  (λJ J=>True) (Nat.le_refl _) Nat.two_pos (λJ J=>rfl) (none,none) rfl rfl trivial (λJ J=>odT rfl) (λj c g J hc hj=>?_) λg J=>?_
 ·have hcm:=hx c (List.mem_of_getElem? hc)
  refine vc hτ rfl rfl (call_get hτ hF hB rfl hk (.inl rfl) hcm ?_)
  rw [get_ccc hcm,take_succ_fold (f:=aP) (b:=([],[])) hc]
  have i1:=(inv j).1
  have i2:=inv2 j
  generalize (xs.take j).foldl aP ([],[])=s at i1 i2 ⊢
  refine toSs ?_
  by_cases hp:0<au c
  ·refine aC (t:=decide (0<au c)) ⟨rfl,rfl⟩ (decide_eq_true hp) ?_
   refine bG (decide_eq_true (by show (pl s.2).length<SZ;rw [pl_len];unfold SZ;omega)) ?_
   refine ⟨(some (.int c),some (.int (au c))),trivial,.inl ⟨rfl,?_⟩⟩
   rw [aP,if_pos hp]
   simp [pl]
  ·refine S_ifF (t:=decide (0<au c)) ⟨rfl,rfl⟩ (decide_eq_false hp) ?_
   refine vc hτ rfl rfl (call_srt hτ hF hB rfl (one_ok i1 (by omega)) ?_)
   refine bG (decide_eq_true ⟨Nat.ne_of_beq_eq_false rfl,by rw [av,e1];unfold SZ;omega⟩) ?_
   refine bG (decide_eq_true (by show (il s.1++il ((aU s.2).map (λJ=>J.2))).length<SZ;rw [List.length_append,av,e1];unfold SZ;omega)) ?_
   refine ⟨(none,none),trivial,vw_q [0,1,2,5] rfl rfl ⟨ag _ _,rfl,(ag _ _).trans ?_,?_,trivial⟩ ⟨rfl,rfl,trivial,rfl,rfl,trivial,trivial⟩⟩
   ·rw [aP,if_neg hp,il_app,il_app];rfl
   ·rw [aP,if_neg hp];rfl
 ·rw [List.take_length] at *
  have i1:=(inv xs.length).1
  have i2:=inv2 xs.length
  rw [List.take_length] at i1 i2
  unfold ordF
  generalize xs.foldl aP ([],[])=s at i1 i2 ⊢
  refine vc hτ rfl rfl (call_srt hτ hF hB rfl (one_ok i1 (by omega)) ?_)
  refine bG (decide_eq_true ⟨Nat.ne_of_beq_eq_false rfl,by rw [av,e1];unfold SZ;omega⟩) ?_
  refine And.intro rfl ⟨[.list (pl s.2),.list (il ((aU s.2).map (λJ=>J.2)))],?_⟩
  rw [ordE,il_app];rfl
theorem call_dec {σ:St} {i b k:Nat} {xs:List Int} {Φ:AV->St->Prop} (hi:σ[i]?=some (.list (il xs))) (hb:σ[b]?=some (.box k)) (hk:k<2) (hx:∀c∈xs,c∈ah) (hl:xs.length<60)
  (h:Φ (.ref σ.length) (σ++[.list (il (ordF xs))])):aa C 20 [.ref i,.ref b,.bool false] σ Φ:=by
 have B:=ai hB ⟨sc,hτ⟩
 refine lift_ib hτ hF hB hi hb (λι=>ag ι _) (λJ=>rfl) (post_g B (S:=[.list (il xs),.box k,.list (il xs),.list (il (ordF xs))]) [0,1,3] rfl rfl ⟨ag _ _,rfl,ag _ _,trivial⟩ rfl (go hτ hF rfl rfl ?_)) h
 refine toF ?_
 refine for_il xs 2 (λ(g:Option AV) J=>[some (.ref 0),some (.ref 1),some (.bool false),some (.ref 2),g]) (λJ j=>[.list (il xs),.box k,.list (il (xs.take j))])
  (λJ J=>True) (Nat.le_refl _) Nat.two_pos (λJ J=>rfl) none rfl rfl trivial (λJ J=>odT rfl) (λj c g J hc hj=>?_) λg J=>?_
 ·refine vc hτ rfl rfl (call_exp hτ hF hB rfl hk (hx c (List.mem_of_getElem? hc)) ?_)
  refine bG (decide_eq_true ⟨Nat.ne_of_beq_eq_false rfl,by rw [av,List.length_take];unfold SZ;show _+1<=_;omega⟩) ?_
  refine ⟨none,trivial,vw_q [0,1,2] rfl rfl ⟨ag _ _,rfl,(ag _ _).trans ?_,trivial⟩ ⟨rfl,rfl,rfl,rfl,trivial,trivial⟩⟩
  rw [List.take_add_one,hc,il_app];rfl
 ·rw [List.take_length]
  exact vc hτ rfl rfl (call_ord hτ hF hB rfl rfl hk hx hl ⟨rfl,[],rfl⟩)
end
noncomputable def nthS:Nat->Ss->S:=λω ψ=>match ω,ψ with
 | J,.nil=>.bad
 | 0,.cons s J=>s
 | n+1,.cons J ss=>nthS n ss
noncomputable def bodyOf:S->Ss:=λω=>match ω with
 | .for_ J ζ b=>b
 | .while_ J b=>b
 | J=>.nil
noncomputable def thenOf:S->Ss:=λω=>match ω with
 | .ite J a ζ=>a
 | J=>.nil
noncomputable def elseOf:S->Ss:=λω=>match ω with
 | .ite J ζ a=>a
 | J=>.nil
noncomputable def CompAt (σ:St) (q:Nat):Prop:=∃p s:Nat,σ[q]?=some (.inst 2 [(14,.ref p),(15,.ref s)])/\σ[p]?=some (.sdict [])/\σ[s]?=some (.sdict [])
theorem code_range {c:Int} (h:c∈ah):0<=c/\c<44032/\(c<4352\/4547<=c):=by
 have:ah.all (λc=>decide (0<=c/\c<44032/\(c<4352\/4547<=c)))=true:=by decide
 exact odT (List.all_eq_true.mp this c h)
section
variable {C:Cfg} {sc:List Int} (hτ:C.τ=tb sc) (hF:Snd C) (hB:C.BX=BXof C)
include hτ hF hB
theorem call_ini {σ:St} {q b k:Nat} {Φ:AV->St->Prop} (hq:σ[q]?=some (.inst 2 [])) (hb:σ[b]?=some (.box k)) (hk:k<2)
  (h:Φ .none ((σ.set q (.inst 2 [(14,.ref σ.length),(15,.ref (σ.length+1))])).set b (.box 1)++[.sdict [],.sdict []])):aa C 23 [.ref q,.ref b] σ Φ:=by
 have B:=ai hB ⟨sc,hτ⟩
 have hne:q≠b:=λz=>by rw [z,hb] at hq;cases hq
 refine aa.view B [q,b] (nd2 hne) (ltc hq (ltc hb lt0)) (σb:=[.inst 2 [],.box k]) (args2:=[.ref 0,.ref 1]) (moc hq rfl (moc hb rfl rfl)) rfl
  (Ψ:=λv σ=>v=.none/\σ=[.inst 2 [(14,.ref 2),(15,.ref 3)],.box 1,.sdict [],.sdict []]) (go hτ hF rfl rfl ?_) λv2 σ2 z=>?_
 ·refine vc hτ rfl rfl (call_prim hτ hF hB rfl hk ?_)
  refine toF ?_
  exact for_l AV.int [] 3 (λ(J:Unit) J=>_) (λJ J=>[.inst 2 [(14,.ref 2),(15,.ref 3)],.box 1,.sdict [],.sdict []]) (λJ J=>True) (Nat.le_succ 2) (Nat.lt_succ_self 2) (λJ J=>rfl) () rfl rfl trivial (λj c g J hx J=>nomatch hx) λJ J=>⟨rfl,rfl⟩
 ·obtain ⟨rfl,rfl⟩:=z
  refine ⟨(_,_),?_,h⟩
  exact back_at 2 rfl rfl (ak (f:=List.cons) rfl (ak (f:=List.cons) rfl (ak (f:=List.cons) rfl (ak (f:=List.cons) rfl rfl)))) rfl
theorem call_hp {σ:St} {a b:Int} {Φ:AV->St->Prop} (ha:a∈ah) (h:Φ .none σ):aa C 4 [.int a,.int b] σ Φ:=by
 have hr:=code_range ha
 refine go hτ hF rfl rfl ?_
 have one:∀{Ψ:AV->St->Prop},Ψ (.bool false) σ->aa C 1 [.int a] σ Ψ:=λhΨ=>
  go hτ hF rfl rfl (iF (decide_eq_false (by omega)) hΨ)
 have fin:aA (tb sc) (vcA C 4) (aS 3 f4.body) σ.length [some (.int a),some (.int b),some (.int (a-4352)),some (.int (b-4449))] σ λfl x σ'=>match fl with
   | .ret v=>Φ v σ'
   | .next=>Φ .none σ'
   | .cont=>False:=by
  refine al (t:=false) ?_ rfl h
  exact vc hτ rfl rfl (one ⟨rfl,rfl⟩)
 refine toSs ?_
 by_cases g:0<=a-4352
 ·have n:decide (a-4352<19)=false:=decide_eq_false (by omega)
  exact al (t:=decide (a-4352<19)) (iT (decide_eq_true g) (iF (by rw [n];rfl) ⟨rfl,rfl⟩)) n fin
 ·exact al (t:=false) (iF (decide_eq_false g) ⟨rfl,rfl⟩) rfl fin
theorem call_pair {σ:St} {q:Nat} {a b:Int} {Φ:AV->St->Prop} (hq:CompAt σ q) (ha:a∈ah) (h:Φ .none σ):aa C 24 [.ref q,.int a,.int b] σ Φ:=by
 obtain ⟨p,s,h1,h2,h3⟩:=hq
 refine go hτ hF rfl rfl (vc hτ rfl rfl (call_hp hτ hF hB ha ?_))
 refine bO (a:=.ref p) (by simp only [a_ref,h1];rfl) ?_
 refine bO (a:=.dict) (by simp only [mkOf,h2];rfl) ?_
 show (match σ[p]? with | some (.sdict kvs)=>_ | J=>_)
 rw [h2]
 exact h
theorem call_sec {σ:St} {q:Nat} {c:Int} {Φ:AV->St->Prop} (hq:CompAt σ q) (hc:c∈ah) (h:Φ (.bool false) σ):aa C 25 [.ref q,.int c] σ Φ:=by
 obtain ⟨p,s,h1,h2,h3⟩:=hq
 have hr:=code_range hc
 refine go hτ hF rfl rfl ?_
 have fin:∀{t:Bool},t=false->aA (tb sc) (vcA C 25) (aS 1 f25.body) σ.length [some (.ref q),some (.int c),some (.bool t)] σ λfl x σ'=>match fl with
   | .ret v=>Φ v σ'
   | .next=>Φ .none σ'
   | .cont=>False:=λht=>by
  refine bO (a:=.ref s) (by simp only [a_ref,h1];rfl) ?_
  refine bO (a:=false) (congrArg (λJ=>Option.bind J (containO (.int c))) h3) ?_
  refine iT (by rw [ht];rfl) ?_
  by_cases g:4519<c
  ·refine iT (decide_eq_true g) ?_
   have ph:∀{b:Bool},b=false->Φ (.bool b) σ:=λq=>q▸h
   exact ph (b:=decide (c<4519+28)) (decide_eq_false (by omega))
  ·exact iF (decide_eq_false g) h
 by_cases g:4449<=c
 ·exact iT (decide_eq_true g) (fin (t:=decide (c<4449+21)) (decide_eq_false (by omega)))
 ·exact iF (decide_eq_false g) (fin rfl)
theorem cmp_tail {xs:List Int} {k p:Nat} (hp:p<=5) (hk:k<2) (hx:∀c∈xs,c∈ah) (hl:xs.length<60) {K:Fl->Lo->St->Prop}
  (h:∀m,K (.ret (.ref 5)) m [.list (il xs),.box k,.inst 2 [(14,.ref 3),(15,.ref 4)],.sdict [],.sdict [],.list (il xs)]):
  aA (tb sc) (vcA C 26) (aS 1 f26.body) p [some (.ref 0),some (.ref 1),some (.ref 2),none,none,none,none,none,none]
   [.list (il xs),.box k,.inst 2 [(14,.ref 3),(15,.ref 4)],.sdict [],.sdict []] K:=by
 refine toF ?_
 refine for_il xs 5 (λ(g:Option AV×Int×Int×Option AV×Option AV) J=>[some (.ref 0),some (.ref 1),some (.ref 2),g.1,some (.ref 5),some (.int g.2.1),some (.int g.2.2.1),g.2.2.2.1,g.2.2.2.2])
  (λJ j=>[.list (il xs),.box k,.inst 2 [(14,.ref 3),(15,.ref 4)],.sdict [],.sdict [],.list (il (xs.take j))]) (λg j=>g.2.1<j) hp (by exact Nat.succ_pos 4) (λJ J=>rfl) (none,-1,-1,none,none) rfl rfl (by decide)
  (λJ J=>odT rfl) (λj c g hst hc hj=>?_) λg J=>?_
 ·have hcm:=hx c (List.mem_of_getElem? hc)
  have htk:(xs.take j).length=j:=by rw [List.length_take];omega
  refine vc hτ rfl rfl (call_get hτ hF hB rfl hk (.inl rfl) hcm ?_)
  rw [get_ccc hcm]
  obtain ⟨_,st,mo,_,pr⟩:=g
  have es:il (xs.take (j+1))=il (xs.take j)++[.int c]:=by rw [List.take_add_one,hc,il_app];rfl
  have tl:∀(pr:Option AV),aA (tb sc) (vcA C 26) (aS 2 (bodyOf (nthS 2 f26.body))) 5 [some (.ref 0),some (.ref 1),some (.ref 2),some (.int c),some (.ref 5),some (.int st),some (.int mo),some (.int (au c)),pr]
    [.list (il xs),.box k,.inst 2 [(14,.ref 3),(15,.ref 4)],.sdict [],.sdict [],.list (il (xs.take j))] λfl m'' σ'=>match fl with
     | .ret v=>K (.ret v) m'' σ'
     | J=>∃g:Option AV×Int×Int×Option AV×Option AV,g.2.1<((j+1:Nat):Int)/\Vw 5 m'' σ' [some (.ref 0),some (.ref 1),some (.ref 2),g.1,some (.ref 5),some (.int g.2.1),some (.int g.2.2.1),g.2.2.2.1,g.2.2.2.2]
      [.list (il xs),.box k,.inst 2 [(14,.ref 3),(15,.ref 4)],.sdict [],.sdict [],.list (il (xs.take (j+1)))]:=by
   intro pr
   rw [es]
   have sz:(il (xs.take j)).length<SZ:=by rw [av,htk];unfold SZ;omega
   by_cases hz:au c=0
   ·refine aC (t:=decide (au c=0)) ⟨rfl,rfl⟩ (decide_eq_true hz) (bG (decide_eq_true sz) ⟨(some (.int c),((il (xs.take j)).length:Int),-1,some (.int (au c)),pr),?_,.inl ⟨rfl,rfl⟩⟩)
    show ((il (xs.take j)).length:Int) < _
    rw [av,htk];omega
   ·exact S_ifF (t:=decide (au c=0)) ⟨rfl,rfl⟩ (decide_eq_false hz) (bG (decide_eq_true sz) ⟨(some (.int c),st,(if mo<au c then au c else mo),some (.int (au c)),pr),by show st < _;have:st<j:=hst;omega,.inl ⟨rfl,rfl⟩⟩)
  refine toSs ?_
  have hst:st<j:=hst
  by_cases h0:0<=st
  ·obtain ⟨n,rfl⟩:∃n:Nat,st=n:=⟨st.toNat,by omega⟩
   have hn:n<(xs.take j).length:=by omega
   have mid:∀{K2:Fl->Lo->St->Prop},K2 .next [some (.ref 0),some (.ref 1),some (.ref 2),some (.int c),some (.ref 5),some (.int n),some (.int mo),some (.int (au c)),some .none]
     [.list (il xs),.box k,.inst 2 [(14,.ref 3),(15,.ref 4)],.sdict [],.sdict [],.list (il (xs.take j))] ->
     aA (tb sc) (vcA C 26) (thenOf (nthS 1 (bodyOf (nthS 2 f26.body)))) 5 [some (.ref 0),some (.ref 1),some (.ref 2),some (.int c),some (.ref 5),some (.int n),some (.int mo),some (.int (au c)),pr]
     [.list (il xs),.box k,.inst 2 [(14,.ref 3),(15,.ref 4)],.sdict [],.sdict [],.list (il (xs.take j))] K2:=λq=>by
    refine bO (a:=.int ((xs.take j).getD n 0)) (x_at.trans (il_at hn)) ?_
    exact vc hτ rfl rfl (call_pair hτ hF hB ⟨3,4,rfl,rfl,rfl⟩ (hx _ (List.mem_of_mem_take (i:=j) (by rw [List.getD_eq_getElem?_getD,List.getElem?_eq_getElem hn];exact List.getElem_mem _))) q)
   by_cases h1:(n:Int)=((il (xs.take j)).length:Int)-1
   ·have d1:decide ((n:Int)=((il (xs.take j)).length:Int)-1)=true:=decide_eq_true h1
    exact aC (t:=decide ((n:Int)=((il (xs.take j)).length:Int)-1)) (iF (by rw [d1];rfl) ⟨rfl,rfl⟩) d1 (mid (tl _))
   ·have d1:decide ((n:Int)=((il (xs.take j)).length:Int)-1)=false:=decide_eq_false h1
    by_cases h2:mo<au c
    ·exact aC (t:=decide (mo<au c)) (iT (by rw [d1];rfl) ⟨rfl,rfl⟩) (decide_eq_true h2) (mid (tl _))
    ·exact al (t:=decide (mo<au c)) (iT (by rw [d1];rfl) ⟨rfl,rfl⟩) (decide_eq_false h2) (tl _)
  ·exact al (t:=false) (iF (by rw [decide_eq_false h0];rfl) ⟨by rw [decide_eq_false h0],rfl⟩) rfl (tl _)
 ·refine (List.take_length (l:=xs)).symm▸?_
  exact h _
theorem call_cmpN {σ:St} {i b k:Nat} {xs:List Int} {Φ:AV->St->Prop} (hi:σ[i]?=some (.list (il xs))) (hb:σ[b]?=some (.box k)) (hk:k<2) (hx:∀c∈xs,c∈ah) (hl:xs.length<60)
  (h:Φ (.ref σ.length) (σ.set b (.box 1)++[.list (il xs)])):aa C 26 [.ref i,.ref b,.none] σ Φ:=by
 have B:=ai hB ⟨sc,hτ⟩
 refine lift_ib1 B hi hb (λJ=>rfl) (post_g B (V:=.ref 5) (S:=[.list (il xs),.box 1,.inst 2 [(14,.ref 3),(15,.ref 4)],.sdict [],.sdict [],.list (il xs)]) [0,1,5] rfl rfl ⟨ag _ _,rfl,ag _ _,trivial⟩ rfl (go hτ hF rfl rfl ?_)) h
 exact vc hτ rfl rfl (call_ini hτ hF hB rfl rfl hk (cmp_tail hτ hF hB (odT rfl) (Nat.lt_succ_self 1) hx hl λm=>⟨rfl,[],rfl⟩))
theorem spec_cmpS {xs:List Int} {k:Nat} (hk:k<2) (hx:∀c∈xs,c∈ah) (hl:xs.length<60):aa C 26 [.ref 0,.ref 1,.ref 2] [.list (il xs),.box k,.inst 2 [(14,.ref 3),(15,.ref 4)],.sdict [],.sdict []]
  λv σ=>v=.ref 5/\σ=[.list (il xs),.box k,.inst 2 [(14,.ref 3),(15,.ref 4)],.sdict [],.sdict [],.list (il xs)]:=
 go hτ hF rfl rfl (toSs (cmp_tail hτ hF hB (Nat.le_refl 5) hk hx hl λm=>⟨rfl,rfl⟩))
end
theorem ordS_mem:∀(xs:List Int) (s:List Int×List (Int×Int)) (c:Int),(c∈(xs.foldl aP s).1\/c∈(xs.foldl aP s).2.map (λJ=>J.2))↔(c∈s.1\/c∈s.2.map (λJ=>J.2)\/c∈xs):=λω ψ χ=>match ω,ψ,χ with
 | [],s,c=>by simp
 | x::xs,s,c=>by
  rw [List.foldl_cons,ordS_mem xs]
  unfold aP
  split
  ·simp only [List.map_append,List.mem_append,List.map_cons,List.map_nil,List.mem_singleton,List.mem_cons]
   grind
  ·have:=(sortW_perm s.2).map (λJ=>J.2)
   simp only [List.map_append,List.mem_append,List.map_cons,List.map_nil,List.mem_singleton,List.mem_cons,this.mem_iff,List.not_mem_nil,false_or]
   grind
theorem ordF_mem {xs:List Int} {c:Int}:c∈ordF xs↔c∈xs:=by
 unfold ordF ordE
 have:=((sortW_perm (xs.foldl aP ([],[])).2).map (λJ=>J.2)).mem_iff (a:=c)
 rw [List.mem_append,this,ordS_mem];simp
theorem ordF_len {xs:List Int} (hx:∀c∈xs,c∈ah):(ordF xs).length=xs.length:=by
 have:=(ordS_inv xs hx ([],[]) (λr hr=>nomatch hr)).2
 unfold ordF ordE
 rw [List.length_append,List.length_map,(sortW_perm _).length_eq,this];simp
theorem ordF_one (c:Int):ordF [c]=[c]:=by
 unfold ordF ordE
 simp only [List.foldl_cons,List.foldl_nil,aP]
 split<;>simp [aU,aR]
theorem dec_cons {x y:Int} {xs ys:List Int}:(decide (x=y)&&decide (xs=ys))=decide (x::xs=y::ys):=
 (Bool.decide_and ..).symm.trans (decide_eq_decide.mpr ⟨λh=>h.1▸h.2▸rfl,λh=>⟨List.head_eq_of_cons_eq h,List.tail_eq_of_cons_eq h⟩⟩)
theorem eqSs_il {τ:Tb} {σ:St}:∀(n:Nat) (xs ys:List Int),xs.length=ys.length->xs.length+1<n->eqSs τ σ n (il xs) (il ys)=some (decide (xs=ys)):=λω ψ χ ϕ ϱ=>match ω,ψ,χ,ϕ,ϱ with
 | 0,J,ζ,η,h=>absurd h (Nat.not_lt_zero _)
 | J+1,[],[],ζ,η=>rfl
 | J+1,[],ζ::η,h,θ=>Nat.noConfusion h
 | J+1,ζ::η,[],h,θ=>Nat.noConfusion h
 | 1,J::ζ,η::θ,μ,h=>absurd (Nat.lt_of_succ_lt_succ h) (Nat.not_lt_zero _)
 | n+2,J::xs,ζ::ys,h,hn=>(ak (f:=and) rfl (eqSs_il (n+1) xs ys (Nat.succ.inj h) (Nat.lt_of_succ_lt_succ hn))).trans (congrArg some dec_cons)
theorem eq_il {τ:Tb} {σ:St} {n:Nat} {xs ys:List Int} (hl:xs.length+1<n):(if (il xs).length=(il ys).length then eqSs τ σ n (il xs) (il ys) else some false)=some (decide (xs=ys)):=by
 rw [av,av]
 exact (Decidable.em (xs.length=ys.length)).elim (λq=>(if_pos q).trans (eqSs_il n xs ys q hl)) λq=>(if_neg q).trans (congrArg some (decide_eq_false λz=>q (congrArg _ z)).symm)
theorem eq_ll {τ:Tb} {σ:St} {i j:Nat} {xs ys:List Int} (hi:σ[i]?=some (.list (il xs))) (hj:σ[j]?=some (.list (il ys))) (hl:xs.length<55):eqS τ σ EQ (.ref i) (.ref j)=some (decide (xs=ys)):=
 (eqS_l (n:=59) (own_i hi) (lst_i hj)).trans (eq_il (Nat.lt_trans (Nat.succ_lt_succ hl) (by decide)))
section
variable {C:Cfg} {sc:List Int} (hτ:C.τ=tb sc) (hF:Snd C) (hB:C.BX=BXof C)
include hτ hF hB
theorem call_formN {σ:St} {i b k:Nat} {xs:List Int} {Φ:AV->St->Prop} (hi:σ[i]?=some (.list (il xs))) (hb:σ[b]?=some (.box k)) (hk:k<2) (hx:∀c∈xs,c∈ah) (hl:xs.length<60)
  (h:Φ (.ref σ.length) (σ.set b (.box 1)++[.list (il (ordF xs))])):aa C 27 [.ref i,.ref b,.str 76,.none] σ Φ:=by
 have B:=ai hB ⟨sc,hτ⟩
 refine lift_ib1 B hi hb (λJ=>rfl) (post_g B (V:=.ref 3) (S:=[.list (il xs),.box 1,.list (il (ordF xs)),.list (il (ordF xs))]) [0,1,3] rfl rfl ⟨ag _ _,rfl,ag _ _,trivial⟩ rfl (go hτ hF rfl rfl ?_)) h
 refine vc hτ rfl rfl (call_dec hτ hF hB rfl rfl hk hx hl ?_)
 exact vc hτ rfl rfl (call_cmpN hτ hF hB rfl rfl hk (λc hc=>hx c (ordF_mem.mp hc)) (by rw [ordF_len hx];exact hl) ⟨rfl,[],rfl⟩)
theorem call_nfc {σ:St} {i b k:Nat} {xs:List Int} {Φ:AV->St->Prop} (hi:σ[i]?=some (.list (il xs))) (hb:σ[b]?=some (.box k)) (hk:k<2) (hx:∀c∈xs,c∈ah) (hl:xs.length<60)
  (h:Φ (.ref σ.length) (σ.set b (.box 1)++[.list (il (ordF xs))])):aa C 28 [.ref i,.ref b] σ Φ:=
 go hτ hF rfl rfl (vc hτ rfl rfl (call_formN hτ hF hB hi hb hk hx hl h))
theorem spec_formS {xs:List Int} {k:Nat} (hk:k<2) (hx:∀c∈xs,c∈ah) (hl:xs.length<60):aa C 27 [.ref 0,.ref 1,.str 76,.ref 2] [.list (il xs),.box k,.inst 2 [(14,.ref 3),(15,.ref 4)],.sdict [],.sdict []]
  λv σ=>v=.ref 5/\σ=[.list (il xs),.box k,.inst 2 [(14,.ref 3),(15,.ref 4)],.sdict [],.sdict [],.list (il (ordF xs))]:=by
 have B:=ai hB ⟨sc,hτ⟩
 refine post_g B (V:=.ref 6) (S:=[.list (il xs),.box k,.inst 2 [(14,.ref 3),(15,.ref 4)],.sdict [],.sdict [],.list (il (ordF xs)),.list (il (ordF xs))]) [0,1,2,3,4,6] rfl rfl ⟨ag _ _,rfl,rfl,rfl,rfl,ag _ _,trivial⟩ rfl (go hτ hF rfl rfl ?_)
 refine vc hτ rfl rfl (call_dec hτ hF hB rfl rfl hk hx hl ?_)
 exact vc hτ rfl rfl (lift_newq B (σb:=[.list (il (ordF xs)),.box k,.inst 2 [(14,.ref 3),(15,.ref 4)],.sdict [],.sdict []]) [5,1,2,3,4] rfl (args2:=[.ref 0,.ref 1,.ref 2]) ⟨ag _ _,rfl,rfl,rfl,rfl,trivial⟩ rfl (λι=>ag ι _) (spec_cmpS hτ hF hB hk (λc hc=>hx c (ordF_mem.mp hc)) (by rw [ordF_len hx];exact hl)) ⟨rfl,[],rfl⟩)
theorem spec_quick {c:Int} {k:Nat} (hk:k<2) (hc:c∈ah):aa C 29 [.int c,.ref 0,.str 76,.ref 1] [.box k,.inst 2 [(14,.ref 2),(15,.ref 3)],.sdict [],.sdict []]
  λv σ=>v=.str 101/\σ=[.box k,.inst 2 [(14,.ref 2),(15,.ref 3)],.sdict [],.sdict []]:=by
 have B:=ai hB ⟨sc,hτ⟩
 refine post_g B (V:=.str 101) (S:=[.box k,.inst 2 [(14,.ref 2),(15,.ref 3)],.sdict [],.sdict []]) [0,1,2,3] rfl rfl ⟨rfl,rfl,rfl,rfl,trivial⟩ rfl (go hτ hF rfl rfl ?_)
 have q:=spec_formS hτ hF hB (xs:=[c]) hk (λx hx=>by rw [List.mem_singleton.mp hx];exact hc) (odT rfl)
 rw [ordF_one] at q
 refine al (t:=!(decide (c=c)&&true)) (vc hτ rfl rfl (lift_newq B (σb:=[.list (il [c]),.box k,.inst 2 [(14,.ref 3),(15,.ref 4)],.sdict [],.sdict []]) [4,0,1,2,3] rfl (args2:=[.ref 0,.ref 1,.str 76,.ref 2]) ⟨rfl,rfl,rfl,rfl,rfl,trivial⟩ rfl (λι=>ag ι _) q ⟨rfl,rfl⟩)) (by simp) ?_
 refine vc hτ rfl rfl (call_exp hτ hF hB rfl hk hc ?_)
 exact vc hτ rfl rfl (call_sec hτ hF hB ⟨2,3,rfl,rfl,rfl⟩ hc ⟨rfl,_,rfl⟩)
theorem spec_qc {xs:List Int} {k:Nat} (hk:k<2) (hx:∀c∈xs,c∈ah) (hl:xs.length<60) (ho:∀(j:Nat) (a b:Int),xs[j]?=some a->xs[j+1]?=some b->¬(0<au b/\au b<au a)):
  aa C 30 [.ref 0,.ref 1,.str 76,.ref 2] [.list (il xs),.box k,.inst 2 [(14,.ref 3),(15,.ref 4)],.sdict [],.sdict []]
  λv σ=>v=.str 101/\σ=[.list (il xs),.box k,.inst 2 [(14,.ref 3),(15,.ref 4)],.sdict [],.sdict []]:=by
 have B:=ai hB ⟨sc,hτ⟩
 refine go hτ hF rfl rfl (toF ?_)
 refine for_il xs 5 (λ(g:Option AV×Option AV×Option AV×Int) J=>[some (.ref 0),some (.ref 1),some (.str 76),some (.ref 2),g.1,some (.str 101),some (.int g.2.2.2),g.2.1,g.2.2.1])
  (λJ J=>[.list (il xs),.box k,.inst 2 [(14,.ref 3),(15,.ref 4)],.sdict [],.sdict []]) (λg j=>(∀i x,j=i+1->xs[i]?=some x->g.2.2.2=au x)/\(j=0->g.2.2.2=0)) (Nat.le_refl 5) (Nat.succ_pos 4) (λJ J=>rfl) (none,none,none,0) rfl rfl ⟨λi x h=>(nomatch h),λJ=>rfl⟩
  (λJ J=>odT rfl) (λj c g hI hc hj=>?_) λg J=>⟨rfl,rfl⟩
 have hcm:=hx c (List.mem_of_getElem? hc)
 refine vc hτ rfl rfl (call_get hτ hF hB rfl hk (.inl rfl) hcm ?_)
 rw [get_ccc hcm]
 refine vc hτ rfl rfl (lift_valq B (σb:=[.box k,.inst 2 [(14,.ref 2),(15,.ref 3)],.sdict [],.sdict []]) [1,2,3,4] rfl (args2:=[.int c,.ref 0,.str 76,.ref 1]) ⟨rfl,rfl,rfl,rfl,trivial⟩ rfl rfl (spec_quick hτ hF hB hk hcm) ?_)
 have hno:¬(0<au c/\au c<g.2.2.2):=λ⟨g1,g2⟩=>by
  cases j with
  | zero=>rw [hI.2 rfl] at g2;omega
  | succ i=>
   have hi:xs[i]?=some xs[i]:=List.getElem?_eq_getElem (by omega)
   rw [hI.1 i _ rfl hi] at g2
   exact ho i _ c hi hc ⟨g1,g2⟩
 have fin:∀{K:Fl->Lo->St->Prop},K .next [some (.ref 0),some (.ref 1),some (.str 76),some (.ref 2),some (.int c),some (.str 101),some (.int (au c)),some (.int (au c)),some (.str 101)] [.list (il xs),.box k,.inst 2 [(14,.ref 3),(15,.ref 4)],.sdict [],.sdict []] ->
   aA (tb sc) (vcA C 30) (aS 3 (bodyOf (nthS 2 f30.body))) 5 [some (.ref 0),some (.ref 1),some (.str 76),some (.ref 2),some (.int c),some (.str 101),some (.int g.2.2.2),some (.int (au c)),some (.str 101)]
   [.list (il xs),.box k,.inst 2 [(14,.ref 3),(15,.ref 4)],.sdict [],.sdict []] K:=λh=>h
 have last:(∀i x,j+1=i+1->xs[i]?=some x->au c=au x)/\(j+1=0->au c=0):=⟨λi x hi hx=>by
  obtain rfl:j=i:=Nat.succ.inj hi
  rw [hc] at hx;cases hx;rfl,λh=>(nomatch h)⟩
 refine toSs ?_
 by_cases g0:0<au c
 ·have g2:decide (au c<g.2.2.2)=false:=decide_eq_false λz=>hno ⟨g0,z⟩
  exact al (t:=decide (au c<g.2.2.2)) (iT (decide_eq_true g0) ⟨rfl,rfl⟩) g2 (fin ⟨(some (.int c),some (.int (au c)),some (.str 101),au c),last,.inl ⟨rfl,rfl⟩⟩)
 ·exact al (t:=false) (iF (decide_eq_false g0) ⟨rfl,rfl⟩) rfl (fin ⟨(some (.int c),some (.int (au c)),some (.str 101),au c),last,.inl ⟨rfl,rfl⟩⟩)
theorem call_isf {σ:St} {i b k:Nat} {xs:List Int} {Φ:AV->St->Prop} (hi:σ[i]?=some (.list (il xs))) (hb:σ[b]?=some (.box k)) (hk:k<2) (hx:∀c∈xs,c∈ah) (hl:xs.length<60)
  (ho:∀(j:Nat) (a b:Int),xs[j]?=some a->xs[j+1]?=some b->¬(0<au b/\au b<au a)) (h:Φ (.bool true) (σ.set b (.box 1))):aa C 31 [.ref i,.ref b,.str 76,.none] σ Φ:=by
 have B:=ai hB ⟨sc,hτ⟩
 refine lift_ibv B hi hb (λJ=>rfl) rfl (post_g B (V:=.bool true) (S:=[.list (il xs),.box 1]) [0,1] rfl rfl ⟨ag _ _,rfl,trivial⟩ rfl (go hτ hF rfl rfl ?_)) h
 refine vc hτ rfl rfl (call_ini hτ hF hB rfl rfl hk ?_)
 refine vc hτ rfl rfl (aa.mono B (spec_qc hτ hF hB (Nat.lt_succ_self 1) hx hl ho) ?_)
 rintro v σ ⟨rfl,rfl⟩
 exact ⟨rfl,_,rfl⟩
end
noncomputable def mapL (xs:List Int) (tr:Bool):List Int:=xs.flatMap λc=>(mapF c tr).getD [c]
noncomputable def aF (xs:List Int) (tr:Bool):Bool:=xs.any λc=>(mapF c tr).isNone
theorem mapF_ok {c:Int} (h:c∈ah) (tr:Bool):((mapF c tr).getD [c]).length<=2/\∀d∈(mapF c tr).getD [c],d∈ah:=by
 have:[true,false].all (λtr=>ah.all λc=>decide (((mapF c tr).getD [c]).length<=2)&&((mapF c tr).getD [c]).all λd=>decide (d∈ah))=true:=by decide +kernel
 have h1:=List.all_eq_true.mp (List.all_eq_true.mp this tr (by cases tr<;>simp)) c h
 simp only [Bool.and_eq_true,decide_eq_true_eq,List.all_eq_true] at h1
 exact h1
theorem mapL_mem {xs:List Int} {tr:Bool} (hx:∀c∈xs,c∈ah):∀c∈mapL xs tr,c∈ah:=by
 intro c hc
 obtain ⟨d,h1,h2⟩:=List.mem_flatMap.mp hc
 exact (mapF_ok (hx d h1) tr).2 c h2
theorem mapL_len {tr:Bool}:∀{xs:List Int},(∀c∈xs,c∈ah)->(mapL xs tr).length<=2*xs.length:=@λω=>@λψ=>match ω,ψ with
 | [],J=>by simp [mapL]
 | c::xs,h=>by
  have h1:=(mapF_ok (h c (List.mem_cons_self ..)) tr).1
  have h2:=mapL_len (tr:=tr) λd hd=>h d (List.mem_cons_of_mem c hd)
  unfold mapL at *
  rw [List.flatMap_cons,List.length_append,List.length_cons];omega
theorem mapL_app (xs ys:List Int) (tr:Bool):mapL (xs++ys) tr=mapL xs tr++mapL ys tr:=by simp [mapL]
theorem badL_app (xs ys:List Int) (tr:Bool):aF (xs++ys) tr=(aF xs tr||aF ys tr):=by simp [aF]
noncomputable def wl (b:Bool):List AV:=if b then [.str 48] else []
noncomputable def plainF (c:Int):Bool:=decide (97<=c/\c<=122)||decide (48<=c/\c<=57)||decide (c=45)
theorem t_plain (sc:List Int):(ah.all λc=>run0 (tb sc) 33 [.int c] (.bool (plainF c)))=true:=by kernel_rfl
theorem rnAs_wl (b:Bool) (ι:List Nat):rnAs ι (wl b)=some (wl b):=by cases b<;>rfl
theorem rnO_wl (b:Bool) (ι:List Nat):rnO ι (.list (wl b))=some (.list (wl b)):=by rw [rnO,rnAs_wl];rfl
theorem il_take1 {xs:List Int} {j:Nat} {c:Int} (h:xs[j]?=some c):il (xs.take (j+1))=il (xs.take j)++[.int c]:=by rw [List.take_add_one,h,il_app];rfl
section
variable {C:Cfg} {sc:List Int} (hτ:C.τ=tb sc) (hF:Snd C) (hB:C.BX=BXof C)
include hτ hF hB
theorem call_plain {σ:St} {c:Int} {Φ:AV->St->Prop} (hc:c∈ah) (h:Φ (.bool (plainF c)) σ):aa C 33 [.int c] σ Φ:=
 call_run0 hτ hF hB (List.all_eq_true.mp (t_plain sc) c hc) rfl rfl h
theorem spec_mapl {xs:List Int} {tr only:Bool} (hx:∀c∈xs,c∈ah) (hl:xs.length<25):aa C 36 [.ref 0,.ref 1,.bool tr,.bool only] [.list (il xs),.box 0]
  λv σ=>v=.tup [.ref 2,.ref 3]/\σ=[.list (il xs),.box 1,.list (il (ordF (mapL xs tr))),.list (wl (aF xs tr))]:=by
 have B:=ai hB ⟨sc,hτ⟩
 refine post_g B (V:=.tup [.ref 4,.ref 3]) (S:=[.list (il xs),.box 1,.list (il (mapL xs tr)),.list (wl (aF xs tr)),.list (il (ordF (mapL xs tr)))]) [0,1,4,3] rfl rfl ⟨ag _ _,rfl,ag _ _,rnO_wl _ _,trivial⟩ rfl (go hτ hF rfl rfl (toF ?_))
 refine for_il xs 2 (λ(g:Option AV×Option AV) J=>[some (.ref 0),some (.ref 1),some (.bool tr),some (.bool only),g.1,some (.ref 2),some (.ref 3),g.2]) (λJ j=>[.list (il xs),.box 0,.list (il (mapL (xs.take j) tr)),.list (wl (aF (xs.take j) tr))])
  (λJ J=>True) (Nat.le_refl _) Nat.two_pos (λJ J=>rfl) (none,none) rfl rfl trivial (λJ J=>odT rfl) (λj c g J hc hj=>?_) λg J=>?_
 ·have hcm:=hx c (List.mem_of_getElem? hc)
  have htk:xs.take (j+1)=xs.take j++[c]:=by rw [List.take_add_one,hc];rfl
  have hlen:=mapL_len (tr:=tr) λd hd=>hx d (List.mem_of_mem_take (i:=j) hd)
  have htl:(xs.take j).length=j:=by rw [List.length_take];omega
  have hmo:=(mapF_ok hcm tr).1
  rw [htk,mapL_app,badL_app]
  generalize mapL (xs.take j) tr=L at hlen ⊢
  generalize aF (xs.take j) tr=b
  refine vc hτ rfl rfl (call_map hτ hF hB rfl hcm ?_)
  cases hm:mapF c tr with
  | some l=>
   rw [hm,Option.getD_some] at hmo
   have e1:mapL [c] tr=l:=by simp [mapL,hm]
   have e2:aF [c] tr=false:=by simp [aF,hm]
   rw [e1,e2,Bool.or_false]
   refine bG (decide_eq_true ⟨Nat.ne_of_beq_eq_false rfl,by rw [av,av];unfold SZ;omega⟩) ?_
   exact ⟨(none,none),trivial,vw_q [0,1,2,3] rfl rfl ⟨ag _ _,rfl,(ag _ _).trans (by rw [il_app];rfl),rnO_wl _ _,trivial⟩ ⟨rfl,rfl,rfl,rfl,trivial,rfl,rfl,trivial,trivial⟩⟩
  | none=>
   have e1:mapL [c] tr=[c]:=by simp [mapL,hm]
   have e2:aF [c] tr=true:=by simp [aF,hm]
   rw [e1,e2,Bool.or_true]
   refine bG (decide_eq_true ⟨Nat.ne_of_beq_eq_false rfl,by rw [av];unfold SZ;show _+1<=_;omega⟩) ?_
   exact ⟨(none,none),trivial,vw_q [0,1,2,4] rfl rfl ⟨ag _ _,rfl,(ag _ _).trans (by rw [il_app];rfl),rfl,trivial⟩ ⟨rfl,rfl,rfl,rfl,trivial,rfl,rfl,trivial,trivial⟩⟩
 ·rw [List.take_length]
  have hlen:=mapL_len (tr:=tr) hx
  exact vc hτ rfl rfl (call_nfc hτ hF hB rfl rfl Nat.two_pos (mapL_mem hx) (by omega) ⟨rfl,[],rfl⟩)
theorem spec_lab1 {xs:List Int} (hs:∀c∈xs,c≠46) (hl:xs.length<60):aa C 37 [.ref 0] [.list (il xs)] λv σ=>v=.ref 1/\σ=[.list (il xs),.list [.ref 2],.list (il xs)]:=by
 have B:=ai hB ⟨sc,hτ⟩
 refine post_g B (V:=.ref 2) (S:=[.list (il xs),.list (il xs),.list [.ref 1]]) [0,2,1] rfl rfl ⟨ag _ _,rfl,ag _ _,trivial⟩ rfl (go hτ hF rfl rfl (toF ?_))
 refine for_il xs 1 (λ(g:Option AV) J=>[some (.ref 0),some (.ref 2),g]) (λJ j=>[.list (il xs),.list (il (xs.take j)),.list [.ref 1]])
  (λJ J=>True) (Nat.le_refl _) Nat.one_pos (λJ J=>rfl) none rfl rfl trivial (λJ J=>odT rfl) (λj c g J hc hj=>?_) λg J=>?_
 ·refine S_ifF (t:=decide (c=46)) ⟨rfl,rfl⟩ (decide_eq_false (hs c (List.mem_of_getElem? hc))) ?_
  refine bG (decide_eq_true (by rw [av,List.length_take];unfold SZ;omega)) ?_
  exact ⟨some (.int c),trivial,.inl ⟨rfl,by rw [il_take1 hc];rfl⟩⟩
 ·rw [List.take_length]
  exact ⟨rfl,[],rfl⟩
theorem spec_lab2 {ys zs:List Int} (hs:∀c∈ys,c≠46) (hz:∀c∈zs,c≠46) (hl:ys.length+zs.length<60):aa C 37 [.ref 0] [.list (il (ys++46::zs))]
  λv σ=>v=.ref 1/\σ=[.list (il (ys++46::zs)),.list [.ref 2,.ref 3],.list (il ys),.list (il zs)]:=by
 have B:=ai hB ⟨sc,hτ⟩
 refine post_g B (V:=.ref 2) (S:=[.list (il (ys++46::zs)),.list (il ys),.list [.ref 1,.ref 3],.list (il zs)]) [0,2,1,3] rfl rfl ⟨ag _ _,rfl,ag _ _,ag _ _,trivial⟩ rfl (go hτ hF rfl rfl (toF ?_))
 refine for_il (ys++46::zs) 1 (λ(g:Option AV×Option Nat) J=>[some (.ref 0),some (.ref 2),g.1]) (λg j=>match g.2 with
  | none=>[.list (il (ys++46::zs)),.list (il (ys.take j)),.list [.ref 1]]
  | some i=>[.list (il (ys++46::zs)),.list (il ys),.list [.ref 1,.ref 3],.list (il (zs.take i))])
  (λg j=>match g.2 with | none=>j<=ys.length | some i=>j=ys.length+1+i) (Nat.le_refl _) Nat.one_pos (λg J=>by obtain ⟨_,_ | _⟩:=g<;>rfl) (none,none) rfl rfl (Nat.zero_le _) (λJ J=>odT rfl) (λj c g hI hc hj=>?_) λg hI=>?_
 ·obtain ⟨_,_ | i⟩:=g
  ·rcases Nat.lt_or_ge j ys.length with q | q
   ·rw [List.getElem?_append_left q] at hc
    refine S_ifF (t:=decide (c=46)) ⟨rfl,rfl⟩ (decide_eq_false (hs c (List.mem_of_getElem? hc))) ?_
    refine bG (decide_eq_true (by rw [av,List.length_take];unfold SZ;omega)) ?_
    exact ⟨(some (.int c),none),q,.inl ⟨rfl,by show [_,AO.list (il (ys.take (j+1))),_]=_;rw [il_take1 hc];rfl⟩⟩
   ·have hI:j<=ys.length:=hI
    obtain rfl:j=ys.length:=by omega
    rw [List.getElem?_append_right (Nat.le_refl _),Nat.sub_self] at hc
    cases hc
    exact aC (t:=decide ((46:Int)=46)) ⟨rfl,rfl⟩ rfl ⟨(some (.int 46),some 0),rfl,.inl ⟨rfl,by show _=[_,AO.list (il (ys.take ys.length)),_,_];rw [List.take_length];rfl⟩⟩
  ·have hI:j=ys.length+1+i:=hI
   subst hI
   rw [List.getElem?_append_right (by omega),show ys.length+1+i-ys.length=i+1 by omega,List.getElem?_cons_succ] at hc
   refine S_ifF (t:=decide (c=46)) ⟨rfl,rfl⟩ (decide_eq_false (hz c (List.mem_of_getElem? hc))) ?_
   refine bG (decide_eq_true (by rw [av,List.length_take];unfold SZ;omega)) ?_
   exact ⟨(some (.int c),some (i+1)),rfl,.inl ⟨rfl,by show [_,_,_,AO.list (il (zs.take (i+1)))]=_;rw [il_take1 hc];rfl⟩⟩
 ·obtain ⟨_,_ | i⟩:=g
  ·have hI:_<=_:=hI
   rw [List.length_append,List.length_cons] at hI;omega
  ·have hI:_=ys.length+1+i:=hI
   rw [List.length_append,List.length_cons] at hI
   obtain rfl:i=zs.length:=by omega
   show ((AV.ref 2:AV)=_/\∃g,[_,_,_,AO.list (il (zs.take zs.length))]=_)
   rw [List.take_length]
   exact ⟨rfl,[],rfl⟩
end
noncomputable def aN (n:Nat) (c:Int):Nat:=match getF n c with
 | .str k=>k
 | J=>0
theorem get_str {n:Nat} {c:Int} (hn:n∈[57,67,36]) (h:c∈ah):getF n c=.str (aN n c):=by
 have:[57,67,36].all (λn=>ah.all λc=>match getF n c with | .str J=>true | J=>false)=true:=by decide +kernel
 have h2:=List.all_eq_true.mp (List.all_eq_true.mp this n hn) c h
 unfold aN
 generalize getF n c=v at *
 cases v<;>first | rfl | cases h2
noncomputable def sl (l:List Nat):List AV:=l.map AV.str
theorem sl_plain (l:List Nat):plainBs (sl l)=true:=by
 induction l with
 | nil=>rfl
 | cons a l ih=>exact ih
theorem rnAs_sl (ι:List Nat) (l:List Nat):rnAs ι (sl l)=some (sl l):=rnAs_plain (sl_plain l)
theorem sl_len (l:List Nat):(sl l).length=l.length:=by simp [sl]
theorem memS_sl (x:Nat):∀l:List Nat,memS x (sl l)=some (decide (x∈l)):=λω=>match ω with
 | []=>rfl
 | y::l=>by
  show (memS x (sl l)).map (λJ=>decide (y=x)||J)=_
  rw [memS_sl x l]
  by_cases h:y=x
  ·subst h;simp
  ·have:¬x=y:=λq=>h q.symm
   simp [h,this]
noncomputable def bcL (xs:List Int):List Nat:=xs.map (aN 36)
noncomputable def isRtl (k:Nat):Bool:=decide (k=30)||decide (k=1)||decide (k=2)
noncomputable def lastF (ks:List Nat):Option Nat:=ks.reverse.find? λk=>decide (k≠21)
noncomputable def optS:Option Nat->AV:=λω=>match ω with
 | some k=>.str k
 | none=>.none
theorem aI (ι:List Nat) (l:List Nat):rnO ι (.list (sl l))=some (.list (sl l)):=by rw [rnO,rnAs_sl];rfl
theorem optS_plain (o:Option Nat):plainB (optS o)=true:=by cases o<;>rfl
section
variable {C:Cfg} {sc:List Int} (hτ:C.τ=tb sc) (hF:Snd C) (hB:C.BX=BXof C)
include hτ hF hB
theorem call_cls {σ:St} {i b:Nat} {xs:List Int} {Φ:AV->St->Prop} (hi:σ[i]?=some (.list (il xs))) (hb:σ[b]?=some (.box 1)) (hx:∀c∈xs,c∈ah) (hl:xs.length<60)
  (h:Φ (.ref σ.length) (σ++[.list (sl (bcL xs))])):aa C 40 [.ref i,.ref b] σ Φ:=by
 refine lift_ib hτ hF hB hi hb (λι=>aI ι _) (λJ=>rfl) (go hτ hF rfl rfl (toC ?_)) h
 refine comp_l (src:=.list 0) (σ0:=[.list (il xs),.box 1]) AV.int xs (λc=>some (.str (aN 36 c))) (by exact Nat.two_pos) (λacc j=>rfl) (by unfold SZ;omega) (λj c acc Ψ hc hΨ=>?_) ⟨rfl,?_⟩
 ·have hcm:=hx c (List.mem_of_getElem? hc)
  refine vc hτ rfl rfl (call_get hτ hF hB rfl Nat.one_lt_two (.inr ⟨rfl,by decide⟩) hcm ?_)
  rw [get_str (by decide) hcm]
  exact hΨ
 ·rw [show xs.filterMap (λc=>some (AV.str (aN 36 c)))=sl (bcL xs) by simp [sl,bcL,List.filterMap_eq_map,Function.comp_def]];rfl
theorem call_last {σ:St} {i:Nat} {ks:List Nat} {Φ:AV->St->Prop} (hi:σ[i]?=some (.list (sl ks))) (hl:ks.length<60) (h:Φ (optS (lastF ks)) σ):aa C 42 [.ref i] σ Φ:=by
 have B:=ai hB ⟨sc,hτ⟩
 refine lift_val B [i] (nd1 i) (ltc hi lt0) (σb:=[.list (sl ks)]) (args2:=[.ref 0]) (moc hi (aI _ _) rfl) rfl (optS_plain _) (post_g B (V:=optS (lastF ks)) (S:=[.list (sl ks)]) [0] rfl rfl ⟨aI _ _,trivial⟩ (rnA_plain (optS_plain _)) (go hτ hF rfl rfl (toF ?_))) h
 have e0:(sl ks).reverse=sl ks.reverse:=List.map_reverse.symm
 refine for_l AV.str ks.reverse 2 (λ(g:Option AV) J=>[some (.ref 0),g]) (λJ J=>[.list (sl ks),.list (sl ks.reverse)]) (λJ j=>ks.reverse.find? (λk=>decide (k≠21))=(ks.reverse.drop j).find? λk=>decide (k≠21)) (Nat.le_succ 1) (by exact Nat.one_lt_two) (λJ J=>rfl) none rfl (by rw [<-e0];rfl) rfl (λj c g hf hc hj=>?_) λg hf=>?_
 ·have hd:ks.reverse.drop j=c::ks.reverse.drop (j+1):=by
   rw [List.drop_eq_getElem_cons hj]
   rw [List.getElem?_eq_getElem hj] at hc
   cases hc;rfl
  rw [hd,List.find?_cons] at hf
  by_cases q:c=21
  ·subst q
   exact al (t:=false) ⟨rfl,rfl⟩ rfl ⟨some (.str 21),hf,.inl ⟨rfl,rfl⟩⟩
  ·have q2:decide (c≠21)=true:=decide_eq_true q
   rw [q2] at hf
   refine aC (t:=!decide (c=21)) ⟨rfl,rfl⟩ (by rw [decide_eq_false q];rfl) ⟨?_,_,rfl⟩
   unfold lastF;rw [hf];rfl
 ·refine ⟨?_,_,rfl⟩
  unfold lastF;rw [hf,List.drop_length];rfl
end
noncomputable def rightT:List Nat:=[30,1,2,9,10,5,11,24,3,21]
noncomputable def leftT:List Nat:=[12,9,10,5,11,24,3,21]
noncomputable def inO (o:Option Nat) (l:List Nat):Bool:=match o with
 | some k=>decide (k∈l)
 | none=>false
noncomputable def owF (ks:List Nat):Bool:=match ks with
 | []=>true
 | k::J=>if k=30\/k=1 then (if (ks.any λk=>!decide (k∈rightT))||(decide (9∈ks)&&decide (2∈ks)) then false else inO (lastF ks) [30,1,9,2])
  else if k=12 then !(ks.any λk=>!decide (k∈leftT))&&inO (lastF ks) [12,9] else false
noncomputable def nin (L ks:List Nat):List Bool:=ks.map λk=>!decide (k∈L)
theorem nin_any (L ks:List Nat):(nin L ks).any id=ks.any λk=>!decide (k∈L):=by simp [nin,List.any_map,Function.comp_def]
noncomputable def bl (l:List Bool):List AV:=l.map AV.bool
theorem boolsOf_bl:∀l:List Bool,boolsOf (bl l)=some l:=λω=>match ω with
 | []=>rfl
 | b::l=>by
  show (boolsOf (bl l)).map (λJ=>b::J)=_
  rw [boolsOf_bl l];rfl
theorem lastF_some {k:Nat} {ks:List Nat} (h:k∈ks) (hk:k≠21):∃l,lastF ks=some l:=by
 unfold lastF
 cases q:ks.reverse.find? λk=>decide (k≠21) with
 | some l=>exact ⟨l,rfl⟩
 | none=>
  have:=List.find?_eq_none.mp q k (by simpa using h)
  simp [hk] at this
noncomputable def mixF (ls:List (List Int)):Bool:=ls.any λl=>(bcL l).any isRtl
theorem cinS {σ:St} (k:Nat) (l:List Nat):containA σ (.str k) (.tup (sl l))=some (decide (k∈l)):=memS_sl k l
theorem cinL {sc:List Int} {σ:St} {i:Nat} {l:List Nat} (c:Nat) (h:σ[i]?=some (.list (sl l))):cmpA (tb sc) σ .isIn (.str c) (.ref i)=some (decide (c∈l)):=by
 show containA σ (.str c) (.ref i)=_
 exact (congrArg (λJ=>Option.bind J (containO (.str c))) h).trans (memS_sl c l)
section
variable {C:Cfg} {d:Nat} {sc:List Int}
theorem any_nin {σ:St} {i x y:Nat} {ks L:List Nat} {m:Lo} {K:AV->St->Prop} (hk:ks.length<60) (hy:m.getD y none=some (.ref i)) (hi:σ[i]?=some (.list (sl ks))) (hm:x<m.length)
  (g:K (.bool (ks.any λk=>!decide (k∈L))) (σ++[.list (bl (nin L ks))])):
  evE (tb sc) (vcA C d) (.blt 2 (.cons (.comp (.cmp (.var x) (.cons .notIn (.glob (.tup (sl L))) .nil)) (.v x) (.plain (.var y)) .nil [x]) .nil)) m σ K:=by
 have hi':=(List.getElem?_eq_some_iff.mp hi).1
 have hm:x<(clrs [x] m).length:=by show x<(m.set x none).length;rw [List.length_set];exact hm
 refine bO (a:=.ref i) hy ?_
 refine bO (a:=.list i) (congrArg (λo=>o.bind (srcO i)) hi) ?_
 refine toC ?_
 refine comp_l (src:=.list i) (σ0:=σ) AV.str ks (λc=>some (.bool (!decide (c∈L)))) hi' (λacc j=>congrArg (λo=>(o.bind lstO).map λxs=>xs[j]?) ((List.getElem?_append_left hi').trans hi)) (by unfold SZ;omega) (λj c acc Ψ hc hΨ=>?_) ?_
 ·rw [show aw (.v x) _ _=some _ from if_pos hm]
  refine bO (a:=.str c) (by rw [List.getD_eq_getElem?_getD,List.getElem?_set_self hm];rfl) ?_
  exact bO (a:=!decide (c∈L)) (by show (containA _ _ _).map _=_;rw [cinS];rfl) hΨ
 ·rw [show ks.filterMap (λc=>some (AV.bool (!decide (c∈L))))=bl (nin L ks) by simp [bl,nin,List.filterMap_eq_map,Function.comp_def]]
  refine bO (a:=nin L ks) ((congrArg (λo=>(o.bind lstO).bind boolsOf) List.getElem?_concat_length).trans (boolsOf_bl _)) ?_
  rw [nin_any]
  exact g
end
section
variable {C:Cfg} {sc:List Int} (hτ:C.τ=tb sc) (hF:Snd C) (hB:C.BX=BXof C)
include hτ hF hB
theorem spec_ow {xs:List Int} (hx:∀c∈xs,c∈ah) (hl:xs.length<60):aa C 43 [.ref 0,.ref 1] [.list (il xs),.box 1] λv σ=>v=.bool (owF (bcL xs))/\σ=[.list (il xs),.box 1]:=by
 have B:=ai hB ⟨sc,hτ⟩
 refine post_g B (V:=.bool (owF (bcL xs))) (S:=[.list (il xs),.box 1]) [0,1] rfl rfl ⟨ag _ _,rfl,trivial⟩ rfl (go hτ hF rfl rfl ?_)
 refine vc hτ rfl rfl (call_cls hτ hF hB (xs:=xs) rfl rfl hx hl ?_)
 have hkl:(bcL xs).length<60:=by simp [bcL];omega
 generalize bcL xs=ks at hkl ⊢
 cases ks with
 | nil=>exact ⟨rfl,_,rfl⟩
 | cons k ks=>
 refine vc hτ rfl rfl (call_last hτ hF hB rfl hkl ?_)
 refine toSs ?_
 have fin:∀{b:Bool} {g:St},b=owF (k::ks)->(AV.bool b=.bool (owF (k::ks))/\∃g',[AO.list (il xs),AO.box 1]++g=[AO.list (il xs),AO.box 1]++g'):=λh=>⟨congrArg _ h,_,rfl⟩
 by_cases hk:k=30\/k=1
 ·have hd:((decide (30=k))||((decide (1=k))||false))=true:=by rcases hk with rfl | rfl<;>rfl
  refine aC ⟨rfl,rfl⟩ hd ?_
  obtain ⟨la,hla⟩:=lastF_some (k:=k) (ks:=k::ks) (List.mem_cons_self ..) (by omega)
  have ow:owF (k::ks)=if ((k::ks).any λk=>!decide (k∈rightT))||(decide (9∈k::ks)&&decide (2∈k::ks)) then false else decide (la∈[30,1,9,2]):=by
   simp only [owF,if_pos hk,hla,inO]
  have e1:(decide (30=la)||(decide (1=la)||(decide (9=la)||(decide (2=la)||false))))=decide (la∈[30,1,9,2]):=Option.some.inj (memS_sl la [30,1,9,2])
  rw [hla]
  have any:=λK=>@any_nin C 43 sc [AO.list (il xs),.box 1,.list (sl (k::ks)),.list []] 2 4 2 (k::ks) rightT [some (.ref 0),some (.ref 1),some (.ref 2),some (.str la),none,none] K hkl rfl rfl (odT rfl)
  have c9:=λg:St=>cinL (sc:=sc) (σ:=[AO.list (il xs),.box 1,.list (sl (k::ks)),.list []]++g) (i:=2) 9 rfl
  have c2:=λg:St=>cinL (sc:=sc) (σ:=[AO.list (il xs),.box 1,.list (sl (k::ks)),.list []]++g) (i:=2) 2 rfl
  generalize ((k::ks).any λk=>!decide (k∈rightT))=A at any ow
  generalize decide (9∈k::ks)=n9 at c9 ow
  generalize decide (2∈k::ks)=n2 at c2 ow
  cases A with
  | true=>exact aC (t:=true) (any _ ⟨rfl,rfl⟩) rfl (fin ow.symm)
  | false=>
   cases n9 with
   | true=>
    cases n2 with
    | true=>exact aC (t:=true) (any _ (bO (c9 _) (bO (c2 _) ⟨rfl,rfl⟩))) rfl (fin ow.symm)
    | false=>exact al (t:=false) (any _ (bO (c9 _) (bO (c2 _) ⟨rfl,rfl⟩))) rfl (fin (e1.trans ow.symm))
   | false=>exact al (t:=false) (any _ (bO (c9 _) ⟨rfl,rfl⟩)) rfl (fin (e1.trans ow.symm))
 ·have ne30:decide (30=k)=false:=decide_eq_false λq=>hk (.inl q.symm)
  have ne1:decide (1=k)=false:=decide_eq_false λq=>hk (.inr q.symm)
  refine al (t:=(decide (30=k))||((decide (1=k))||false)) ⟨rfl,rfl⟩ (by rw [ne30,ne1];rfl) ?_
  by_cases h12:k=12
  ·refine aC ⟨rfl,rfl⟩ (t:=decide (k=12)) (decide_eq_true h12) ?_
   obtain ⟨la,hla⟩:=lastF_some (k:=k) (ks:=k::ks) (List.mem_cons_self ..) (by omega)
   have ow:owF (k::ks)=(!((k::ks).any λk=>!decide (k∈leftT))&&decide (la∈[12,9])):=by
    simp only [owF,if_neg hk,if_pos h12,hla,inO]
   have e1:(decide (12=la)||(decide (9=la)||false))=decide (la∈[12,9]):=Option.some.inj (memS_sl la [12,9])
   rw [hla]
   have any:=λK=>@any_nin C 43 sc [AO.list (il xs),.box 1,.list (sl (k::ks)),.list []] 2 5 2 (k::ks) leftT [some (.ref 0),some (.ref 1),some (.ref 2),some (.str la),none,none] K hkl rfl rfl (odT rfl)
   generalize ((k::ks).any λk=>!decide (k∈leftT))=A at any ow
   cases A with
   | true=>exact any _ (fin ow.symm)
   | false=>exact any _ (fin (e1.trans ow.symm))
  ·have ow:owF (k::ks)=false:=by
    simp only [owF,if_neg hk,if_neg h12]
   exact al ⟨rfl,rfl⟩ (t:=decide (k=12)) (decide_eq_false h12) (fin ow.symm)
theorem call_ow {σ:St} {i b:Nat} {xs:List Int} {Φ:AV->St->Prop} (hi:σ[i]?=some (.list (il xs))) (hb:σ[b]?=some (.box 1)) (hx:∀c∈xs,c∈ah) (hl:xs.length<60)
  (h:Φ (.bool (owF (bcL xs))) σ):aa C 43 [.ref i,.ref b] σ Φ:=by
 have hne:i≠b:=λq=>by rw [q,hb] at hi;cases hi
 exact lift_val (ai hB ⟨sc,hτ⟩) [i,b] (nd2 hne) (ltc hi (ltc hb lt0)) (σb:=[.list (il xs),.box 1]) (args2:=[.ref 0,.ref 1]) (moc hi (ag _ _) (moc hb rfl rfl)) rfl rfl (spec_ow hτ hF hB hx hl) h
theorem mix_in {p n:Nat} {ks:List Nat} {a b c x:Option AV} {σ:St} {Φ:Fl->Lo->St->Prop} (hn:σ[n]?=some (.list (sl ks))) (hp:p<=n+1) (h1:ks.any isRtl=true->∀m,Φ (.ret (.bool true)) m σ) (h0:ks.any isRtl=false->∀x,Φ .next [a,b,c,x] σ):
  ForP p (.list n) (.v 3) (λp m σ k=>aA (tb sc) (vcA C 41) (.cons (.ite (.cmp (.var 3) (.cons .isIn (.tup (.cons (.lit (.str 30)) (.cons (.lit (.str 1)) (.cons (.lit (.str 2)) .nil)))) .nil)) (.cons (.ret (.lit (.bool true))) .nil) .nil) .nil) p m σ k) [a,b,c,x] σ Φ:=by
 refine for_l AV.str ks (n+1) (λ(g:Option AV) J=>[a,b,c,g]) (λJ J=>σ) (λJ j=>(ks.take j).any isRtl=false) hp (Nat.lt_succ_self n) (λJ j=>congrArg (λo=>(o.bind lstO).map λxs=>xs[j]?) hn) x rfl rfl rfl (λj k g hI hk hj=>?_) λg hI=>?_
 ·have e:isRtl k=(decide (30=k)||(decide (1=k)||(decide (2=k)||false))):=by
   unfold isRtl
   rw [Bool.or_false,Bool.or_assoc,decide_eq_decide.mpr (eq_comm (a:=k) (b:=30)),decide_eq_decide.mpr (eq_comm (a:=k) (b:=1)),decide_eq_decide.mpr (eq_comm (a:=k) (b:=2))]
  have htk:(ks.take (j+1)).any isRtl=isRtl k:=by rw [List.take_add_one,hk,List.any_append,hI];simp
  cases hr:isRtl k with
  | true=>exact aC (t:=decide (30=k)||(decide (1=k)||(decide (2=k)||false))) ⟨rfl,rfl⟩ (e▸hr) (h1 (List.any_eq_true.mpr ⟨k,List.mem_of_getElem? hk,hr⟩) _)
  | false=>exact al (t:=decide (30=k)||(decide (1=k)||(decide (2=k)||false))) ⟨rfl,rfl⟩ (e▸hr) ⟨some (.str k),htk.trans hr,.inl ⟨rfl,rfl⟩⟩
 ·rw [List.take_length] at hI;exact h0 hI _
theorem spec_mix1 {xs:List Int} (hx:∀c∈xs,c∈ah) (hl:xs.length<60):aa C 41 [.ref 0,.ref 1] [.list [.ref 2],.box 1,.list (il xs)] λv σ=>v=.bool (mixF [xs])/\σ=[.list [.ref 2],.box 1,.list (il xs)]:=by
 have B:=ai hB ⟨sc,hτ⟩
 refine post_g B (V:=.bool (mixF [xs])) (S:=[.list [.ref 2],.box 1,.list (il xs)]) [0,1,2] rfl rfl ⟨rfl,rfl,ag _ _,trivial⟩ rfl (go hτ hF rfl rfl (toF ?_))
 have e:mixF [xs]=(bcL xs).any isRtl:=Bool.or_false _
 rw [e]
 refine for_l (λ(i:Nat)=>AV.ref i) [2] 3 (λ(g:Option AV×Option AV) J=>[some (.ref 0),some (.ref 1),g.1,g.2]) (λJ j=>match j with
  | 0=>[.list [.ref 2],.box 1,.list (il xs)]
  | J=>[.list [.ref 2],.box 1,.list (il xs),.list (sl (bcL xs))]) (λJ j=>0<j->(bcL xs).any isRtl=false) (Nat.le_refl 3) (by exact Nat.succ_pos 2) (λg j=>by cases j<;>rfl) (none,none) rfl rfl (λh=>nomatch h) (λj c g hI hc hj=>?_) λg hI=>?_
 ·match j,hc with
  | 0,hc=>
   cases hc
   refine vc hτ rfl rfl (call_cls hτ hF hB rfl rfl hx hl (toF ?_))
   refine mix_in hτ hF hB rfl (Nat.le_succ 3) (λh m=>⟨congrArg _ h.symm,_,rfl⟩) (λh x=>⟨(some (.ref 2),x),λJ=>h,.inl ⟨rfl,rfl⟩⟩)
 ·exact ⟨congrArg _ (hI Nat.one_pos).symm,_,rfl⟩
theorem spec_mix2 {xs ys:List Int} (hx:∀c∈xs,c∈ah) (hl:xs.length<60) (hy:∀c∈ys,c∈ah) (hl2:ys.length<60):aa C 41 [.ref 0,.ref 1] [.list [.ref 2,.ref 3],.box 1,.list (il xs),.list (il ys)]
  λv σ=>v=.bool (mixF [xs,ys])/\σ=[.list [.ref 2,.ref 3],.box 1,.list (il xs),.list (il ys)]:=by
 have B:=ai hB ⟨sc,hτ⟩
 refine post_g B (V:=.bool (mixF [xs,ys])) (S:=[.list [.ref 2,.ref 3],.box 1,.list (il xs),.list (il ys)]) [0,1,2,3] rfl rfl ⟨rfl,rfl,ag _ _,ag _ _,trivial⟩ rfl (go hτ hF rfl rfl (toF ?_))
 have e:mixF [xs,ys]=((bcL xs).any isRtl||(bcL ys).any isRtl):=congrArg _ (Bool.or_false _)
 rw [e]
 refine for_l (λ(i:Nat)=>AV.ref i) [2,3] 4 (λ(g:Option AV×Option AV) J=>[some (.ref 0),some (.ref 1),g.1,g.2]) (λJ j=>match j with
  | 0=>[.list [.ref 2,.ref 3],.box 1,.list (il xs),.list (il ys)]
  | 1=>[.list [.ref 2,.ref 3],.box 1,.list (il xs),.list (il ys),.list (sl (bcL xs))]
  | J=>[.list [.ref 2,.ref 3],.box 1,.list (il xs),.list (il ys),.list (sl (bcL xs)),.list (sl (bcL ys))]) (λJ j=>(0<j->(bcL xs).any isRtl=false)/\(1<j->(bcL ys).any isRtl=false)) (Nat.le_refl 4) (by exact Nat.succ_pos 3) (λg j=>by match j with | 0=>rfl | 1=>rfl | J+2=>rfl) (none,none) rfl rfl ⟨λh=>(nomatch h),λh=>(nomatch h)⟩ (λj c g hI hc hj=>?_) λg hI=>?_
 ·match j,hc with
  | 0,hc=>
   cases hc
   refine vc hτ rfl rfl (call_cls hτ hF hB rfl rfl hx hl (toF ?_))
   exact mix_in hτ hF hB rfl (Nat.le_succ 4) (λh m=>⟨by rw [h];rfl,_,rfl⟩) (λh x=>⟨(some (.ref 2),x),⟨λJ=>h,λq=>absurd q (Nat.lt_irrefl 1)⟩,.inl ⟨rfl,rfl⟩⟩)
  | 1,hc=>
   cases hc
   refine vc hτ rfl rfl (call_cls hτ hF hB rfl rfl hy hl2 (toF ?_))
   exact mix_in hτ hF hB rfl (Nat.le_add_left 4 2) (λh m=>⟨by rw [h,Bool.or_true],_,rfl⟩) (λh x=>⟨(some (.ref 3),x),⟨λJ=>hI.1 Nat.one_pos,λJ=>h⟩,.inl ⟨rfl,rfl⟩⟩)
 ·exact ⟨by rw [hI.1 Nat.two_pos,hI.2 Nat.one_lt_two];rfl,_,rfl⟩
theorem call_mix1 {σ:St} {i b a:Nat} {l:List Int} {Φ:AV->St->Prop} (hi:σ[i]?=some (.list [.ref a])) (hb:σ[b]?=some (.box 1)) (ha:σ[a]?=some (.list (il l))) (hn:ndB [i,b,a]=true) (hx:∀c∈l,c∈ah) (hl:l.length<60) (h:Φ (.bool (mixF [l])) σ):aa C 41 [.ref i,.ref b] σ Φ:=
 lift_val (ai hB ⟨sc,hτ⟩) [i,b,a] (ndB_nd hn) (ltc hi (ltc hb (ltc ha lt0))) (σb:=[.list [.ref 2],.box 1,.list (il l)]) (args2:=[.ref 0,.ref 1])
  (moc hi rfl (moc hb rfl (moc ha (ag _ _) rfl))) rfl rfl (spec_mix1 hτ hF hB hx hl) h
theorem call_mix2 {σ:St} {i b a a2:Nat} {l l2:List Int} {Φ:AV->St->Prop} (hi:σ[i]?=some (.list [.ref a,.ref a2])) (hb:σ[b]?=some (.box 1)) (ha:σ[a]?=some (.list (il l))) (ha2:σ[a2]?=some (.list (il l2))) (hn:ndB [i,b,a,a2]=true)
  (hx:∀c∈l,c∈ah) (hl:l.length<60) (hx2:∀c∈l2,c∈ah) (hl2:l2.length<60) (h:Φ (.bool (mixF [l,l2])) σ):aa C 41 [.ref i,.ref b] σ Φ:=
 lift_val (ai hB ⟨sc,hτ⟩) [i,b,a,a2] (ndB_nd hn) (ltc hi (ltc hb (ltc ha (ltc ha2 lt0)))) (σb:=[.list [.ref 2,.ref 3],.box 1,.list (il l),.list (il l2)]) (args2:=[.ref 0,.ref 1])
  (moc hi rfl (moc hb rfl (moc ha (ag _ _) (moc ha2 (ag _ _) rfl)))) rfl rfl (spec_mix2 hτ hF hB hx hl hx2 hl2) h
end
noncomputable def joinS (l:List Nat) (asked:List Nat):Bool:=inO (l.find? λk=>decide (k≠31)) asked
noncomputable def mayF (xs:List Int) (at':Nat):Bool:=
 (decide (0<at')&&decide (au (xs.getD (at'-1) 0)=9))||(!decide (xs.getD at' 0=8205)&&(joinS ((xs.take at').reverse.map (aN 67)) [12,8]&&joinS ((xs.drop (at'+1)).map (aN 67)) [30,8]))
section
variable {C:Cfg} {sc:List Int} (hτ:C.τ=tb sc) (hF:Snd C) (hB:C.BX=BXof C)
include hτ hF hB
theorem spec_join {xs path:List Int} {at' step:Int} {asked:List Nat} (hx:∀c∈xs,c∈ah) (hl:xs.length<60)
  (h1:∀j:Nat,j<path.length->0<=at'+step*j/\at'+step*j<xs.length/\xs[(at'+step*j).toNat]?=path[j]?) (h2:¬(0<=at'+step*path.length/\at'+step*path.length<xs.length)):
  aa C 38 [.ref 0,.int at',.int step,.ref 1,.tup (sl asked)] [.list (il xs),.box 1] λv σ=>v=.bool (joinS (path.map (aN 67)) asked)/\σ=[.list (il xs),.box 1]:=by
 refine go hτ hF rfl rfl (toW ⟨2,path.length,λj m σ=>∃a,m=[some (.ref 0),some (.int (at'+step*j)),some (.int step),some (.ref 1),some (.tup (sl asked)),a]/\σ=[.list (il xs),.box 1]/\j<=path.length /\
  joinS (path.map (aN 67)) asked=joinS ((path.drop j).map (aN 67)) asked,Nat.le_refl _,⟨none,by simp [startL];rfl,rfl,Nat.zero_le _,rfl⟩,?_⟩)
 rintro j m σ ⟨a,rfl,rfl,hj,hI⟩
 refine ⟨hj,?_⟩
 rcases Nat.lt_or_ge j path.length with q | q
 ·obtain ⟨g1,g2,g3⟩:=h1 j q
  have hpj:path[j]?=some path[j]:=List.getElem?_eq_getElem q
  rw [hpj] at g3
  have hcm:=hx _ (List.mem_of_getElem? g3)
  have e1:idxL (il xs) (at'+step*j)=some (.int path[j]):=by
   have:at'+step*j=((at'+step*j).toNat:Int):=by omega
   rw [this,x_at,il_get,g3];rfl
  rw [List.drop_eq_getElem_cons q,List.map_cons] at hI
  refine wB (t:=decide (at'+step*j<(il xs).length)) (iT (decide_eq_true g1) ⟨rfl,rfl⟩) (decide_eq_true (by rw [av];exact g2)) ?_
  refine bO (a:=.int path[j]) (idx_l rfl e1) ?_
  refine vc hτ rfl rfl (call_get hτ hF hB rfl Nat.one_lt_two (.inr ⟨rfl,by decide⟩) hcm ?_)
  rw [get_str (by decide) hcm]
  refine toSs ?_
  by_cases hk:aN 67 path[j]=31
  ·refine al (t:=!decide (aN 67 path[j]=31)) ⟨rfl,rfl⟩ (by rw [decide_eq_true hk];rfl) ?_
   refine ⟨_,_,.inl ⟨rfl,rfl⟩,some (.str (aN 67 path[j])),?_,rfl,q,?_⟩
   ·rw [Int.natCast_add,Int.mul_add,<-Int.add_assoc];exact congrArg (λz:Int=>[_,some (AV.int z),_,_,_,_]) (by omega)
   ·rw [hI];simp [joinS,hk]
  ·refine aC (t:=!decide (aN 67 path[j]=31)) ⟨rfl,rfl⟩ (by rw [decide_eq_false hk];rfl) ?_
   refine bO (a:=decide (aN 67 path[j]∈asked)) (cinS (σ:=[]) _ _) ⟨congrArg _ ?_,rfl⟩
   rw [hI];simp [joinS,hk,inO]
 ·have e:j=path.length:=by omega
  have f:joinS (path.map (aN 67)) asked=false:=by rw [hI,e,List.drop_length];rfl
  by_cases g1:0<=at'+step*j
  ·exact wB (t:=decide (at'+step*j<(il xs).length)) (iT (decide_eq_true g1) ⟨rfl,rfl⟩) (decide_eq_false λz=>h2 (by rw [av] at z;rw [<-e];exact ⟨g1,z⟩)) ⟨congrArg AV.bool f.symm,rfl⟩
  ·exact wB (t:=false) (iF (decide_eq_false g1) ⟨rfl,rfl⟩) rfl ⟨congrArg AV.bool f.symm,rfl⟩
theorem spec_may {xs:List Int} {at':Nat} (hx:∀c∈xs,c∈ah) (hl:xs.length<60) (ha:at'<xs.length):aa C 39 [.ref 0,.int at',.ref 1] [.list (il xs),.box 1] λv σ=>v=.bool (mayF xs at')/\σ=[.list (il xs),.box 1]:=by
 have B:=ai hB ⟨sc,hτ⟩
 refine go hτ hF rfl rfl ?_
 have cat:∀n,n<xs.length->xs.getD n 0∈ah:=λn hn=>by
  rw [List.getD_eq_getElem?_getD,List.getElem?_eq_getElem hn]
  exact hx _ (List.getElem_mem hn)
 have at_:∀n:Nat,n<xs.length->idxA (tb sc) [.list (il xs),.box 1] (.ref 0) (.int n)=some (.int (xs.getD n 0)):=λn hn=>idx_l rfl (x_at.trans (il_at hn))
 have fin:(decide (0<at')&&decide (au (xs.getD (at'-1) 0)=9))=false->aA (tb sc) (vcA C 39) (aS 1 f39.body) 2 [some (.ref 0),some (.int at'),some (.ref 1)] [.list (il xs),.box 1] λfl x σ'=>match fl with
   | .ret v=>v=.bool (mayF xs at')/\σ'=[.list (il xs),.box 1]
   | .next=>AV.none=.bool (mayF xs at')/\σ'=[.list (il xs),.box 1]
   | .cont=>False:=by
  intro hno
  have mf:mayF xs at'=(!decide (xs.getD at' 0=8205)&&(joinS ((xs.take at').reverse.map (aN 67)) [12,8]&&joinS ((xs.drop (at'+1)).map (aN 67)) [30,8])):=by
   unfold mayF;rw [hno,Bool.false_or]
  rw [mf]
  by_cases h8:xs.getD at' 0=8205
  ·refine aC (t:=decide (xs.getD at' 0=8205)) (bO (at_ _ ha) ⟨rfl,rfl⟩) (decide_eq_true h8) ?_
   rw [decide_eq_true h8];exact ⟨rfl,rfl⟩
  ·refine al (t:=decide (xs.getD at' 0=8205)) (bO (at_ _ ha) ⟨rfl,rfl⟩) (decide_eq_false h8) ?_
   rw [decide_eq_false h8]
   have j1:=spec_join hτ hF hB (xs:=xs) (path:=(xs.take at').reverse) (at':=(at':Int)-1) (step:=-1) (asked:=[12,8]) hx hl (λj hj=>by
    rw [List.length_reverse,List.length_take] at hj
    have e1:(at':Int)-1+-1*j=((at'-1-j:Nat):Int):=by omega
    refine ⟨by omega,by omega,?_⟩
    rw [e1,Int.toNat_natCast,List.getElem?_reverse (by rw [List.length_take];omega),List.length_take,List.getElem?_take_of_lt (by omega)]
    congr 1;omega) (by rw [List.length_reverse,List.length_take];omega)
   have j2:=spec_join hτ hF hB (xs:=xs) (path:=xs.drop (at'+1)) (at':=(at':Int)+1) (step:=1) (asked:=[30,8]) hx hl (λj hj=>by
    rw [List.length_drop] at hj
    have e1:(at':Int)+1+1*j=((at'+1+j:Nat):Int):=by omega
    refine ⟨by omega,by omega,?_⟩
    rw [e1,Int.toNat_natCast,List.getElem?_drop]) (by rw [List.length_drop];omega)
   generalize joinS ((xs.take at').reverse.map (aN 67)) [12,8]=A at j1 ⊢
   refine vc hτ rfl rfl (aa.mono B j1 ?_)
   rintro v σ ⟨rfl,rfl⟩
   cases A with
   | false=>exact ⟨rfl,rfl⟩
   | true=>exact vc hτ rfl rfl j2
 refine toSs ?_
 by_cases h0:0<at'
 ·have h0':(decide ((0:Int)<at')==true)=true:=by rw [decide_eq_true (Int.natCast_pos.mpr h0)];rfl
  have e1:(at':Int)-1=((at'-1:Nat):Int):=by omega
  have q:∀{k:AV->St->Prop},k (.bool (decide (au (xs.getD (at'-1) 0)=9))) [.list (il xs),.box 1]->evE (tb sc) (vcA C 39) (.bop true (.cons (.cmp (.var 1) (.cons .gt (.lit (.int 0)) .nil)) (.cons (.cmp (.meth (.var 2) 3 (.cons (.lit (.str 41)) (.cons (.idx (.var 0) (.bin .sub (.var 1) (.lit (.int 1)))) .nil))) (.cons .eq (.glob (.int 9)) .nil)) .nil))) [some (.ref 0),some (.int at'),some (.ref 1)] [.list (il xs),.box 1] k:=λh=>by
   refine iT h0' (bO (a:=.int (xs.getD (at'-1) 0)) (by rw [e1];exact at_ _ (by omega)) ?_)
   refine vc hτ rfl rfl (call_get hτ hF hB rfl Nat.one_lt_two (.inl rfl) (cat _ (by omega)) ?_)
   rw [get_ccc (cat _ (by omega))]
   exact h
  by_cases h9:au (xs.getD (at'-1) 0)=9
  ·refine aC (q ⟨rfl,rfl⟩) (decide_eq_true h9) ⟨congrArg AV.bool ?_,rfl⟩
   unfold mayF;rw [decide_eq_true h0,decide_eq_true h9];rfl
  ·exact al (q ⟨rfl,rfl⟩) (decide_eq_false h9) (fin (by rw [decide_eq_false h9,Bool.and_false]))
 ·have h0':(decide ((0:Int)<at')==true)=false:=by rw [decide_eq_false (by omega)];rfl
  exact al (t:=decide ((0:Int)<at')) (iF h0' ⟨rfl,rfl⟩) (decide_eq_false (by omega)) (fin (by rw [decide_eq_false h0];rfl))
theorem call_may {σ:St} {i b:Nat} {xs:List Int} {at':Nat} {Φ:AV->St->Prop} (hi:σ[i]?=some (.list (il xs))) (hb:σ[b]?=some (.box 1)) (hx:∀c∈xs,c∈ah) (hl:xs.length<60) (ha:at'<xs.length)
  (h:Φ (.bool (mayF xs at')) σ):aa C 39 [.ref i,.int at',.ref b] σ Φ:=by
 have hne:i≠b:=λq=>by rw [q,hb] at hi;cases hi
 exact lift_val (ai hB ⟨sc,hτ⟩) [i,b] (nd2 hne) (ltc hi (ltc hb lt0)) (σb:=[.list (il xs),.box 1]) (args2:=[.ref 0,.int at',.ref 1]) (moc hi (ag _ _) (moc hb rfl rfl)) rfl rfl (spec_may hτ hF hB hx hl ha) h
end
noncomputable def flS (tr only hy jo di:Bool):AO:=.inst 3 [(18,.bool tr),(19,.bool only),(20,.bool hy),(21,.bool jo),(22,.bool di),(23,.bool false),(24,.bool true)]
theorem vwc2:∀{n l:Nat},1<=n->n<l->vwc [0,n] l=true:=@λω=>@λψ=>@λχ=>@λϕ=>match ω,ψ,χ,ϕ with
 | n+1,l,J,hl=>Bool.and_eq_true_iff.mpr ⟨rfl,Bool.and_eq_true_iff.mpr ⟨Nat.blt_eq.mpr (by omega),Bool.and_eq_true_iff.mpr ⟨Nat.blt_eq.mpr hl,rfl⟩⟩⟩
theorem take_cl {xs:List Int} (k:Nat):(il xs).take (clipAt (il xs).length (k:Int))=il (xs.take k):=
 (congrArg (il xs).take (clipAt_nat _ k)).trans (List.take_eq_take_min.symm.trans List.map_take.symm)
theorem slice_to {xs:List Int} (k:Nat):ao (il xs) none (some (k:Int))=il (xs.take k):=take_cl k
theorem clip_last:∀n:Nat,clipAt n (-1)=n-1:=λω=>match ω with
 | 0=>rfl
 | n+1=>by
  have e:(-1:Int)+((n+1:Nat):Int)=(n:Int):=by omega
  unfold clipAt
  rw [if_pos (by decide),e,Int.min_eq_left (Int.ofNat_le.mpr (Nat.le_succ n)),Int.max_eq_right (Int.natCast_nonneg n)]
  rfl
theorem slice_last {xs:List Int}:ao (il xs) (some (-1)) none=il (xs.drop (xs.length-1)):=
 (congrArg (List.drop _) List.take_length).trans ((congrArg (il xs).drop ((clip_last _).trans (congrArg (λJ=>J-1) (av xs)))).trans List.map_drop.symm)
theorem slice_24 {xs:List Int}:ao (il xs) (some 2) (some 4)=il ((xs.take 4).drop 2):=by
 refine (congrArg (List.drop (clipAt (il xs).length 2)) (take_cl 4)).trans (.trans ?_ List.map_drop.symm)
 rw [show clipAt (il xs).length 2=min 2 (il xs).length from clipAt_nat _ 2,av]
 rcases Nat.le_total 2 xs.length with q | q
 ·rw [Nat.min_eq_left q];rfl
 ·have h:(il (xs.take 4)).length<=xs.length:=Nat.le_trans (Nat.le_of_eq (av _)) (List.length_take_le' ..)
  rw [Nat.min_eq_right q,List.drop_of_length_le h]
  exact (List.drop_of_length_le (Nat.le_trans h q)).symm
theorem eq_lg {sc:List Int} {σ:St} {i:Nat} {xs:List Int} (hi:σ[i]?=some (.list (il xs))) (hl:xs.length<55):eqS (tb sc) σ EQ (.ref i) (.gl 2)=some (decide (xs=[120,110,45,45])):=
 (eqS_l (n:=59) (ys:=il [120,110,45,45]) (own_i hi) rfl).trans (eq_il (ys:=[120,110,45,45]) (Nat.lt_trans (Nat.succ_lt_succ hl) (by decide)))
noncomputable def hyB (xs:List Int):Bool:=decide (xs.take 1=[45])||decide (xs.drop (xs.length-1)=[45])||decide ((xs.take 4).drop 2=[45,45])
noncomputable def hyF (xs:List Int) (hy:Bool):List Nat:=if hy then (if hyB xs then [59] else []) else (if xs.take 4=[120,110,45,45] then [86] else [])
noncomputable def statF (c:Int):Nat:=match getF 61 c with
 | .tup (.str k::J)=>k
 | J=>0
noncomputable def sndF (c:Int):AV:=match getF 61 c with
 | .tup (J::x::ζ)=>x
 | J=>.none
theorem t_st2:(ah.all λc=>avB (getF 61 c) (.tup [.str (statF c),sndF c]))=true:=by kernel_rfl
theorem get_stat {c:Int} (h:c∈ah):∃x,getF 61 c=.tup [.str (statF c),x]:=⟨_,avB_eq (List.all_eq_true.mp t_st2 c h)⟩
noncomputable def cwB (tr only:Bool) (c:Int):Bool:=(!decide (statF c=97)&&!(decide (statF c=46)&&!tr))||(only&&decide (c<=127)&&!plainF c)
noncomputable def cwF (xs:List Int) (tr only:Bool):List Nat:=if xs.any (cwB tr only) then [48] else []
section
variable {C:Cfg} {sc:List Int} (hτ:C.τ=tb sc) (hF:Snd C) (hB:C.BX=BXof C)
include hτ hF hB
theorem spec_hy {xs:List Int} {hy:Bool} (hl:xs.length<55):aa C 44 [.ref 0,.bool hy] [.list (il xs)] λv σ=>v=.ref 1/\σ=[.list (il xs),.list (sl (hyF xs hy))]:=by
 have B:=ai hB ⟨sc,hτ⟩
 refine aa.post B (Ψ:=λv σ=>∃n,v=.ref n/\1<=n/\σ[0]?=some (.list (il xs))/\σ[n]?=some (.list (sl (hyF xs hy)))) (go hτ hF rfl rfl (toSs ?_)) ?_
 ·cases hy with
  | false=>
   have c0:∀{σ:St} {i:Nat},σ[i]?=some (.list (ao (il xs) none (some 4)))->cmpA (tb sc) σ .eq (.ref i) (.gl 2)=some (decide (xs.take 4=[120,110,45,45])):=
    λh=>eq_lg (h.trans (congrArg (λl=>some (AO.list l)) (slice_to 4))) (by rw [List.length_take];omega)
   have hf:hyF xs false=if decide (xs.take 4=[120,110,45,45]) then [86] else []:=by simp [hyF]
   rw [hf]
   generalize decide (xs.take 4=[120,110,45,45])=P at c0 ⊢
   refine al (t:=false) ⟨rfl,rfl⟩ rfl ?_
   refine bO (c0 rfl) ?_
   cases P<;>exact ⟨_,rfl,odT rfl,rfl,rfl⟩
  | true=>
   have c1:∀{σ:St} {i j:Nat},σ[i]?=some (.list (ao (il xs) none (some 1)))->σ[j]?=some (.list [.int 45])->cmpA (tb sc) σ .eq (.ref i) (.ref j)=some (decide (xs.take 1=[45])):=
    λh1 h2=>eq_ll (h1.trans (congrArg (λl=>some (AO.list l)) (slice_to 1))) h2 (by rw [List.length_take];omega)
   have c2:∀{σ:St} {i j:Nat},σ[i]?=some (.list (ao (il xs) (some (-1)) none))->σ[j]?=some (.list [.int 45])->cmpA (tb sc) σ .eq (.ref i) (.ref j)=some (decide (xs.drop (xs.length-1)=[45])):=
    λh1 h2=>eq_ll (h1.trans (congrArg (λl=>some (AO.list l)) slice_last)) h2 (by rw [List.length_drop];omega)
   have c3:∀{σ:St} {i j:Nat},σ[i]?=some (.list (ao (il xs) (some 2) (some 4)))->σ[j]?=some (.list [.int 45,.int 45])->cmpA (tb sc) σ .eq (.ref i) (.ref j)=some (decide ((xs.take 4).drop 2=[45,45])):=
    λh1 h2=>eq_ll (h1.trans (congrArg (λl=>some (AO.list l)) slice_24)) h2 (by rw [List.length_drop,List.length_take];omega)
   have hf:hyF xs true=if hyB xs then [59] else []:=rfl
   rw [hf]
   unfold hyB
   generalize decide (xs.take 1=[45])=P1 at c1 ⊢
   generalize decide (xs.drop (xs.length-1)=[45])=P2 at c2 ⊢
   generalize decide ((xs.take 4).drop 2=[45,45])=P3 at c3 ⊢
   refine bO (c1 rfl rfl) ?_
   cases P1 with
   | true=>exact ⟨_,rfl,odT rfl,rfl,rfl⟩
   | false=>
    refine bO (c2 rfl rfl) ?_
    cases P2 with
    | true=>exact ⟨_,rfl,odT rfl,rfl,rfl⟩
    | false=>
     refine bO (c3 rfl rfl) ?_
     cases P3<;>exact ⟨_,rfl,odT rfl,rfl,rfl⟩
 ·rintro v σ ⟨n,rfl,hn,h0,h1⟩
  exact ⟨.ref 1,[.list (il xs),.list (sl (hyF xs hy))],vw_q [0,n] (vwc2 hn (List.getElem?_eq_some_iff.mp h1).1) rfl ⟨(ag _ _).trans h0.symm,(aI _ _).trans h1.symm,trivial⟩ ⟨rfl,trivial⟩,rfl,rfl⟩
theorem call_hy {σ:St} {i:Nat} {xs:List Int} {hy:Bool} {Φ:AV->St->Prop} (hi:σ[i]?=some (.list (il xs))) (hl:xs.length<55) (h:Φ (.ref σ.length) (σ++[.list (sl (hyF xs hy))])):aa C 44 [.ref i,.bool hy] σ Φ:=
 lift_new (ai hB ⟨sc,hτ⟩) [i] (nd1 i) (ltc hi lt0) (σb:=[.list (il xs)]) (args2:=[.ref 0,.bool hy]) (moc hi (ag _ _) rfl) rfl (λι=>aI ι _) (spec_hy hτ hF hB hl) h
theorem spec_cw {xs:List Int} {tr only hy jo di:Bool} (hx:∀c∈xs,c∈ah) (hl:xs.length<55):aa C 45 [.ref 0,.ref 1,.ref 2,.bool false] [.list (il xs),.box 1,flS tr only hy jo di]
  λv σ=>v=.ref 3/\σ=[.list (il xs),.box 1,flS tr only hy jo di,.list (sl (cwF xs tr only))]:=by
 refine go hτ hF rfl rfl (toF ?_)
 refine for_il xs 3 (λ(g:Option AV×Option AV×Option AV) J=>[some (.ref 0),some (.ref 1),some (.ref 2),some (.bool false),g.1,g.2.1,g.2.2]) (λJ J=>[.list (il xs),.box 1,flS tr only hy jo di])
  (λJ j=>(xs.take j).any (cwB tr only)=false) (Nat.le_refl 3) (Nat.succ_pos 2) (λJ J=>rfl) (none,none,none) rfl rfl rfl (λJ J=>odT rfl) (λj c g hI hc hj=>?_) λg hI=>?_
 ·have hcm:=hx c (List.mem_of_getElem? hc)
  obtain ⟨ot,hot⟩:=get_stat hcm
  refine vc hτ rfl rfl (call_stat hτ hF hB rfl hcm ?_)
  rw [hot]
  have good:∀{b:Bool},cwB tr only c=b->b=false->(xs.take (j+1)).any (cwB tr only)=false:=λh1 h2=>by
   rw [List.take_add_one,hc,List.any_append,hI];simp [h1.trans h2]
  have bad:∀{b:Bool},cwB tr only c=b->b=true->sl [48]=sl (cwF xs tr only):=λh1 h2=>by
   unfold cwF
   rw [if_pos (List.any_eq_true.mpr ⟨c,List.mem_of_getElem? hc,h1.trans h2⟩)]
  have e0:cwB tr only c=((!decide (statF c=97)&&!(decide (statF c=46)&&!tr))||(only&&decide (c<=127)&&!plainF c)):=rfl
  generalize hN:(only&&decide (c<=127)&&!plainF c)=N2 at e0
  have fin:cwB tr only c=N2->aA (tb sc) (vcA C 45) (aS 3 (bodyOf (nthS 0 f45.body))) 3 [some (.ref 0),some (.ref 1),some (.ref 2),some (.bool false),some (.int c),some (.str (statF c)),some (.bool (!tr))]
    [.list (il xs),.box 1,flS tr only hy jo di] λfl m'' σ'=>match fl with
     | .ret v=>v=.ref 3/\σ'=[.list (il xs),.box 1,flS tr only hy jo di,.list (sl (cwF xs tr only))]
     | J=>∃g:Option AV×Option AV×Option AV,(xs.take (j+1)).any (cwB tr only)=false/\Vw 3 m'' σ' [some (.ref 0),some (.ref 1),some (.ref 2),some (.bool false),g.1,g.2.1,g.2.2] [.list (il xs),.box 1,flS tr only hy jo di]:=by
   intro h0
   have gd:N2=false->∃g:Option AV×Option AV×Option AV,(xs.take (j+1)).any (cwB tr only)=false/\Vw 3 [some (.ref 0),some (.ref 1),some (.ref 2),some (.bool false),some (.int c),some (.str (statF c)),some (.bool (!tr))] [.list (il xs),.box 1,flS tr only hy jo di] [some (.ref 0),some (.ref 1),some (.ref 2),some (.bool false),g.1,g.2.1,g.2.2] [.list (il xs),.box 1,flS tr only hy jo di]:=
    λh=>⟨(some (.int c),some (.str (statF c)),some (.bool (!tr))),good h0 h,.inl ⟨rfl,rfl⟩⟩
   subst hN
   cases only with
   | false=>exact al (t:=false) ⟨rfl,rfl⟩ rfl (gd rfl)
   | true=>
    by_cases h127:c<=127
    ·have d:decide (c<=127)=true:=decide_eq_true h127
     have q:evE (tb sc) (vcA C 45) (.bop true (.cons (.attr (.var 2) 19) (.cons (.cmp (.var 4) (.cons .le (.lit (.int 127)) .nil)) (.cons (.not (.call 33 (.cons (.var 4) .nil))) .nil)))) [some (.ref 0),some (.ref 1),some (.ref 2),some (.bool false),some (.int c),some (.str (statF c)),some (.bool (!tr))]
       [.list (il xs),.box 1,flS tr true hy jo di] λv σ'=>v=.bool (!plainF c)/\σ'=[.list (il xs),.box 1,flS tr true hy jo di]:=iT (by rw [d];rfl) (vc hτ rfl rfl (call_plain hτ hF hB hcm ⟨rfl,rfl⟩))
     rw [d] at h0 gd
     cases hp:plainF c with
     | true=>exact al q (by rw [hp];rfl) (gd (by rw [hp];rfl))
     | false=>exact aC q (by rw [hp];rfl) ⟨rfl,by rw [<-bad h0 (by rw [hp];rfl)];rfl⟩
    ·have d:decide (c<=127)=false:=decide_eq_false h127
     rw [d] at gd
     exact al (t:=decide (c<=127)) (iF (by rw [d];rfl) ⟨rfl,rfl⟩) d (gd rfl)
  have bd:∀{m:Lo},(!decide (statF c=97)&&!(decide (statF c=46)&&!tr))=true->((AV.ref 3=.ref 3)/\[AO.list (il xs),.box 1,flS tr only hy jo di,.list [.str 48]]=[.list (il xs),.box 1,flS tr only hy jo di,.list (sl (cwF xs tr only))]):=λz=>⟨rfl,by rw [<-bad e0 (by rw [z];rfl)];rfl⟩
  refine toSs ?_
  by_cases h97:statF c=97
  ·have d:decide (statF c=97)=true:=decide_eq_true h97
   exact al (t:=!decide (statF c=97)) (iF (by rw [d];rfl) ⟨rfl,rfl⟩) (by rw [d];rfl) (fin (e0.trans (by rw [d];rfl)))
  ·have d:decide (statF c=97)=false:=decide_eq_false h97
   by_cases h46:statF c=46
   ·have d2:decide (statF c=46)=true:=decide_eq_true h46
    rw [d,d2] at e0 bd
    cases tr with
    | false=>exact al (t:=false) (iT (by rw [d];rfl) (iT (by rw [d2];rfl) ⟨rfl,rfl⟩)) rfl (fin e0)
    | true=>exact aC (t:=true) (iT (by rw [d];rfl) (iT (by rw [d2];rfl) ⟨rfl,rfl⟩)) rfl (bd (m:=[]) rfl)
   ·have d2:decide (statF c=46)=false:=decide_eq_false h46
    exact aC (t:=!decide (statF c=46)) (iT (by rw [d];rfl) (iF (by rw [d2];rfl) ⟨rfl,rfl⟩)) (by rw [d2];rfl) (bd (m:=[]) (by rw [d,d2];rfl))
 ·rw [List.take_length] at hI
  exact ⟨rfl,by rw [cwF,hI];rfl⟩
theorem call_cw {σ:St} {i b f:Nat} {xs:List Int} {tr only hy jo di:Bool} {Φ:AV->St->Prop} (hi:σ[i]?=some (.list (il xs))) (hb:σ[b]?=some (.box 1)) (hf:σ[f]?=some (flS tr only hy jo di)) (hx:∀c∈xs,c∈ah) (hl:xs.length<55)
  (h:Φ (.ref σ.length) (σ++[.list (sl (cwF xs tr only))])):aa C 45 [.ref i,.ref b,.ref f,.bool false] σ Φ:=by
 have n1:i≠b:=λq=>by rw [q,hb] at hi;cases hi
 have n2:i≠f:=λq=>by rw [q,hf] at hi;cases hi
 have n3:b≠f:=λq=>by rw [q,hf] at hb;cases hb
 exact lift_new (ai hB ⟨sc,hτ⟩) [i,b,f] (nd3 n1 n2 n3) (ltc hi (ltc hb (ltc hf lt0))) (σb:=[.list (il xs),.box 1,flS tr only hy jo di]) (args2:=[.ref 0,.ref 1,.ref 2,.bool false])
  (moc hi (ag _ _) (moc hb rfl (moc hf rfl rfl))) rfl (λι=>aI ι _) (spec_cw hτ hF hB hx hl) h
end
theorem memI_il (x:Int):∀l:List Int,memI x (il l)=some (decide (x∈l)):=λω=>match ω with
 | []=>rfl
 | y::l=>by
  show (memI x (il l)).map (λJ=>decide (y=x)||J)=_
  rw [memI_il x l]
  by_cases h:y=x
  ·subst h;simp
  ·have:¬x=y:=λq=>h q.symm
   simp [h,this]
noncomputable def mkF (xs:List Int):List Nat:=match xs with
 | c::J=>if aN 57 c∈[19,17,18] then [72] else []
 | []=>[]
noncomputable def jwB (xs:List Int) (jo:Bool) (n:Nat):Bool:=jo&&((decide (xs.getD n 0=8205)||decide (xs.getD n 0=8204))&&!mayF xs n)
noncomputable def jwF (xs:List Int) (jo:Bool) (n:Nat):List Nat:=(List.range n).flatMap λi=>if jwB xs jo i then [66] else []
theorem jwF_succ (xs:List Int) (jo:Bool) (n:Nat):jwF xs jo (n+1)=jwF xs jo n++if jwB xs jo n then [66] else []:=by
 simp [jwF,List.range_succ]
theorem jwF_len (xs:List Int) (jo:Bool):∀n,(jwF xs jo n).length<=n:=λω=>match ω with
 | 0=>by simp [jwF]
 | n+1=>by
  rw [jwF_succ,List.length_append]
  have:=jwF_len xs jo n
  split<;>simp<;>omega
noncomputable def lwF (xs:List Int) (tr only hy jo:Bool):List Nat:=hyF xs hy++mkF xs++cwF xs tr only++jwF xs jo xs.length
theorem hyF_len (xs:List Int) (hy:Bool):(hyF xs hy).length<=1:=by
 unfold hyF;split<;>split<;>simp
theorem mkF_len (xs:List Int):(mkF xs).length<=1:=by
 unfold mkF
 split
 ·split<;>simp
 ·simp
theorem cwF_len (xs:List Int) (tr only:Bool):(cwF xs tr only).length<=1:=by
 unfold cwF;split<;>simp
theorem sl_app (a b:List Nat):sl (a++b)=sl a++sl b:=by simp [sl]
noncomputable def Steady (xs:List Int):Prop:=∀(j:Nat) (a b:Int),xs[j]?=some a->xs[j+1]?=some b->¬(0<au b/\au b<au a)
section
variable {C:Cfg} {sc:List Int} (hτ:C.τ=tb sc) (hF:Snd C) (hB:C.BX=BXof C)
include hτ hF hB
theorem lw_tail {xs:List Int} {tr only hy jo di:Bool} {W:List Nat} {g:St} (hx:∀c∈xs,c∈ah) (hl:xs.length<55) (hW:W.length<100) {K:Fl->Lo->St->Prop}
  (h:∀m,K (.ret (.ref 3)) m (.list (il xs)::.box 1::flS tr only hy jo di::.list (sl (W++jwF xs jo xs.length))::g)):
  aA (tb sc) (vcA C 46) (aS 6 f46.body) 3 [some (.ref 0),some (.ref 1),some (.ref 2),some (.bool false),some (.ref 3),none,none] (.list (il xs)::.box 1::flS tr only hy jo di::.list (sl W)::g) K:=by
 refine toF ?_
 refine for_en xs 3 (λ(g:Option AV×Option AV) J=>[some (.ref 0),some (.ref 1),some (.ref 2),some (.bool false),some (.ref 3),g.1,g.2]) (λJ j=>.list (il xs)::.box 1::flS tr only hy jo di::.list (sl (W++jwF xs jo j))::g)
  (λJ J=>True) (Nat.le_refl 3) (Nat.succ_pos 2) (λJ J=>rfl) (none,none) rfl (by simp [jwF]) trivial (λJ J=>⟨odT rfl,odT rfl⟩) (λj c g2 J hc hj=>?_) λg2 J=>h _
 have hjl:=jwF_len xs jo j
 have ed:xs.getD j 0=c:=by rw [List.getD_eq_getElem?_getD,hc];rfl
 have fin:∀{b:Bool} {K':Fl->Lo->St->Prop},jwB xs jo j=b->b=false->∃g':Option AV×Option AV,True/\Vw 3 [some (.ref 0),some (.ref 1),some (.ref 2),some (.bool false),some (.ref 3),some (.int j),some (.int c)] (.list (il xs)::.box 1::flS tr only hy jo di::.list (sl (W++jwF xs jo j))::g)
   [some (.ref 0),some (.ref 1),some (.ref 2),some (.bool false),some (.ref 3),g'.1,g'.2] (.list (il xs)::.box 1::flS tr only hy jo di::.list (sl (W++jwF xs jo (j+1)))::g):=λh1 h2=>by
  rw [jwF_succ,h1,h2]
  exact ⟨(some (.int j),some (.int c)),trivial,.inl ⟨rfl,by simp⟩⟩
 have eA:(decide (8205=c)||(decide (8204=c)||false))=(decide (c=8205)||decide (c=8204)):=by
  rw [Bool.or_false,decide_eq_decide.mpr (eq_comm (a:=c) (b:=8205)),decide_eq_decide.mpr (eq_comm (a:=c) (b:=8204))]
 have jb:jwB xs jo j=(jo&&((decide (8205=c)||(decide (8204=c)||false))&&!mayF xs j)):=by rw [eA,<-ed];rfl
 cases jo with
 | false=>exact al (t:=false) ⟨rfl,rfl⟩ rfl (fin (K':=K) jb rfl)
 | true=>
  cases hA:(decide (8205=c)||(decide (8204=c)||false)) with
  | false=>exact al (t:=decide (8205=c)||(decide (8204=c)||false)) (iF (b1F hA) ⟨rfl,rfl⟩) hA (fin (K':=K) (jb.trans (by rw [hA];rfl)) rfl)
  | true=>
   have q:evE (tb sc) (vcA C 46) (.bop true (.cons (.attr (.var 2) 21) (.cons (.cmp (.var 6) (.cons .isIn (.tup (.cons (.glob (.int 8205)) (.cons (.glob (.int 8204)) .nil))) .nil)) (.cons (.not (.call 39 (.cons (.var 0) (.cons (.var 5) (.cons (.var 1) .nil))))) .nil)))) [some (.ref 0),some (.ref 1),some (.ref 2),some (.bool false),some (.ref 3),some (.int j),some (.int c)]
     (.list (il xs)::.box 1::flS tr only hy true di::.list (sl (W++jwF xs true j))::g) λv σ'=>v=.bool (!mayF xs j)/\σ'=.list (il xs)::.box 1::flS tr only hy true di::.list (sl (W++jwF xs true j))::g:=
    iT (b1T hA) (vc hτ rfl rfl (call_may hτ hF hB rfl rfl hx (by omega) hj ⟨rfl,rfl⟩))
   rw [hA] at jb
   cases hM:mayF xs j with
   | true=>exact al q (by rw [hM];rfl) (fin (K':=K) (jb.trans (by rw [hM];rfl)) rfl)
   | false=>
    refine aC q (by rw [hM];rfl) (bG (decide_eq_true (by rw [sl_len,List.length_append];unfold SZ;omega)) ⟨(some (.int j),some (.int c)),trivial,.inl ⟨rfl,?_⟩⟩)
    rw [jwF_succ,jb,hM,<-List.append_assoc,sl_app];rfl
theorem spec_lw {xs:List Int} {k:Nat} {tr only hy jo di:Bool} (hne:xs≠[]) (hk:k<2) (hx:∀c∈xs,c∈ah) (hl:xs.length<55) (h46:(46:Int)∉xs) (ho:Steady xs):
  aa C 46 [.ref 0,.ref 1,.ref 2,.bool false] [.list (il xs),.box k,flS tr only hy jo di] λv σ=>v=.ref 3/\σ=[.list (il xs),.box 1,flS tr only hy jo di,.list (sl (lwF xs tr only hy jo))]:=by
 have B:=ai hB ⟨sc,hτ⟩
 refine post_g B (V:=.ref 3) (S:=[.list (il xs),.box 1,flS tr only hy jo di,.list (sl (lwF xs tr only hy jo))]) [0,1,2,3] rfl rfl ⟨ag _ _,rfl,rfl,aI _ _,trivial⟩ rfl (go hτ hF rfl rfl (toSs ?_))
 refine al (t:=!true) (vc hτ rfl rfl (call_isf hτ hF hB rfl rfl hk hx (by omega) ho ⟨rfl,rfl⟩)) rfl ?_
 refine vc hτ rfl rfl (call_hy hτ hF hB rfl hl ?_)
 have n1:=hyF_len xs hy
 have n2:=mkF_len xs
 have n3:=cwF_len xs tr only
 refine bG (decide_eq_true ⟨Nat.ne_of_beq_eq_false rfl,by rw [sl_len];unfold SZ;show 0+_<=_;omega⟩) ?_
 refine toSs ?_
 refine al (t:=decide ((46:Int)∈xs)) (bO (memI_il 46 xs) ⟨rfl,rfl⟩) (decide_eq_false h46) ?_
 obtain ⟨c,r,rfl⟩:∃c r,xs=c::r:=List.exists_cons_of_ne_nil hne
 have hcm:c∈ah:=hx c (List.mem_cons_self ..)
 have fin:∀{M:List Nat},M=hyF (c::r) hy++mkF (c::r)->aA (tb sc) (vcA C 46) (aS 5 f46.body) 3 [some (.ref 0),some (.ref 1),some (.ref 2),some (.bool false),some (.ref 3),none,none]
   [.list (il (c::r)),.box 1,flS tr only hy jo di,.list (sl M),.list (sl (hyF (c::r) hy)),.list []] λfl x σ'=>match fl with
    | .ret v=>v=.ref 3/\∃g,σ'=[.list (il (c::r)),.box 1,flS tr only hy jo di,.list (sl (lwF (c::r) tr only hy jo))]++g
    | .next=>AV.none=.ref 3/\∃g,σ'=[.list (il (c::r)),.box 1,flS tr only hy jo di,.list (sl (lwF (c::r) tr only hy jo))]++g
    | .cont=>False:=by
  rintro M rfl
  refine vc hτ rfl rfl (call_cw hτ hF hB (tr:=tr) (only:=only) (hy:=hy) (jo:=jo) (di:=di) rfl rfl rfl hx hl ?_)
  refine bG (decide_eq_true ⟨Nat.ne_of_beq_eq_false rfl,by rw [sl_len,sl_len,List.length_append];unfold SZ;omega⟩) ?_
  have e:=lw_tail hτ hF hB (tr:=tr) (only:=only) (hy:=hy) (jo:=jo) (di:=di) (W:=hyF (c::r) hy++mkF (c::r)++cwF (c::r) tr only) (g:=[.list (sl (hyF (c::r) hy)),.list [],.list (sl (cwF (c::r) tr only))]) hx hl (by simp only [List.length_append];omega) (K:=λfl x σ'=>match fl with
    | .ret v=>v=.ref 3/\∃g,σ'=[.list (il (c::r)),.box 1,flS tr only hy jo di,.list (sl (lwF (c::r) tr only hy jo))]++g
    | .next=>AV.none=.ref 3/\∃g,σ'=[.list (il (c::r)),.box 1,flS tr only hy jo di,.list (sl (lwF (c::r) tr only hy jo))]++g
    | .cont=>False) λm=>⟨rfl,_,rfl⟩
  rw [sl_app] at e
  exact e
 have hmk:mkF (c::r)=if aN 57 c∈[19,17,18] then [72] else []:=rfl
 have eM:(decide (19=aN 57 c)||(decide (17=aN 57 c)||(decide (18=aN 57 c)||false)))=decide (aN 57 c∈[19,17,18]):=Option.some.inj (memS_sl (aN 57 c) [19,17,18])
 refine toSs ?_
 have q:∀{k:AV->St->Prop},k (.bool (decide (19=aN 57 c)||(decide (17=aN 57 c)||(decide (18=aN 57 c)||false)))) [.list (il (c::r)),.box 1,flS tr only hy jo di,.list (sl (hyF (c::r) hy)),.list (sl (hyF (c::r) hy)),.list []] ->
   evE (tb sc) (vcA C 46) (.bop true (.cons (.cmp (.var 0) (.cons .ne (.list .nil) .nil)) (.cons (.cmp (.meth (.var 1) 3 (.cons (.lit (.str 57)) (.cons (.idx (.var 0) (.lit (.int 0))) .nil))) (.cons .isIn (.glob (.tup [(.str 19),(.str 17),(.str 18)])) .nil)) .nil))) [some (.ref 0),some (.ref 1),some (.ref 2),some (.bool false),some (.ref 3),none,none]
   [.list (il (c::r)),.box 1,flS tr only hy jo di,.list (sl (hyF (c::r) hy)),.list (sl (hyF (c::r) hy))] k:=λh=>by
  refine vc hτ rfl rfl (call_get hτ hF hB rfl Nat.one_lt_two (.inr ⟨rfl,by decide⟩) hcm ?_)
  rw [get_str (by decide) hcm]
  exact h
 by_cases hM:aN 57 c∈[19,17,18]
 ·refine aC (q ⟨rfl,rfl⟩) (eM.trans (decide_eq_true hM)) (bG (decide_eq_true (by rw [sl_len];unfold SZ;omega)) ?_)
  have f:=fin rfl
  rw [hmk,if_pos hM,sl_app] at f
  exact f
 ·refine al (q ⟨rfl,rfl⟩) (eM.trans (decide_eq_false hM)) ?_
  have f:=fin rfl
  rw [hmk,if_neg hM,List.append_nil] at f
  exact f
end
noncomputable def ddF (l:List Nat):List Nat:=l.foldl (λa w=>if a=[]\/a.getLast?≠some w then a++[w] else a) []
theorem ddF_len (l:List Nat):(ddF l).length<=l.length:=by
 have:∀(l:List Nat) (a:List Nat),(l.foldl (λa w=>if a=[]\/a.getLast?≠some w then a++[w] else a) a).length<=a.length+l.length:=by
  intro l
  induction l with
  | nil=>intro a;simp
  | cons w l ih=>
   intro a
   simp only [List.foldl_cons,List.length_cons]
   refine Nat.le_trans (ih _) ?_
   split<;>simp<;>omega
 have:=this l []
 rw [List.length_nil,Nat.zero_add] at this
 exact this
noncomputable def setF (ws:List Nat):List Nat:=ddF (aD ws)
theorem strsOf_sl:∀l:List Nat,strsOf (sl l)=some l:=λω=>match ω with
 | []=>rfl
 | k::l=>by
  show (strsOf (sl l)).map (λJ=>k::J)=_
  rw [strsOf_sl l];rfl
theorem idx_last_sl {l:List Nat} {w:Nat} (h:l.getLast?=some w):idxL (sl l) (-1)=some (.str w):=by
 have hne:l≠[]:=by intro q;rw [q] at h;cases h
 have hl:0<l.length:=List.length_pos_iff.mpr hne
 rw [List.getLast?_eq_getElem?] at h
 have h1:((-1:Int)+(l.length:Int)).toNat=l.length-1:=by omega
 have h2:((-1:Int)+(l.length:Int))=((l.length-1:Nat):Int):=by omega
 simp [idxL,sl_len,h2,sl,h];omega
section
variable {C:Cfg} {sc:List Int} (hτ:C.τ=tb sc) (hF:Snd C) (hB:C.BX=BXof C)
include hτ hF hB
theorem lift_ibf {fn i b f k:Nat} {σ:St} {xs:List Int} {tr only hy jo di:Bool} {more:List AV} {o:AO} {v2 v:AV} {Φ:AV->St->Prop} (hi:σ[i]?=some (.list (il xs))) (hb:σ[b]?=some (.box k)) (hf:σ[f]?=some (flS tr only hy jo di)) (hm:∀ι,rnAs ι more=some more) (ho:∀ι,rnO ι o=some o) (hv:rnA [i,b,f,σ.length] v2=some v)
  (h:aa C fn (.ref 0::.ref 1::.ref 2::more) [.list (il xs),.box k,flS tr only hy jo di] λv σ=>v=v2/\σ=[.list (il xs),.box 1,flS tr only hy jo di,o]) (g:Φ v (σ.set b (.box 1)++[o])):aa C fn (.ref i::.ref b::.ref f::more) σ Φ:=by
 have n1:i≠b:=λq=>by rw [q,hb] at hi;cases hi
 have n2:i≠f:=λq=>by rw [q,hf] at hi;cases hi
 have n3:b≠f:=λq=>by rw [q,hf] at hb;cases hb
 have e2:∀ι,rnO ι (flS tr only hy jo di)=some (flS tr only hy jo di):=λι=>rfl
 refine aa.view (ai hB ⟨sc,hτ⟩) (args2:=.ref 0::.ref 1::.ref 2::more) [i,b,f] (nd3 n1 n2 n3) (ltc hi (ltc hb (ltc hf lt0))) (σb:=[.list (il xs),.box k,flS tr only hy jo di])
  (moc hi (ag _ _) (moc hb rfl (moc hf rfl rfl))) (ak (f:=List.cons) rfl (ak (f:=List.cons) rfl (ak (f:=List.cons) rfl (hm _)))) h ?_
 rintro _ _ ⟨rfl,rfl⟩
 refine ⟨(_,_),?_,g⟩
 have e1:(σ.set b (.box 1)).set f (flS tr only hy jo di)=σ.set b (.box 1):=set_same (by rw [List.getElem?_set_ne n3,hf])
 exact back_at 1 rfl hv (ak (f:=List.cons) (ag _ _) (ak (f:=List.cons) rfl (ak (f:=List.cons) rfl (ak (f:=List.cons) (ho _) rfl)))) (congrArg (λJ=>J++[o]) ((congrArg (λl=>(l.set b (.box 1)).set f (flS tr only hy jo di)) (set_same hi)).trans e1))
theorem ne_prefix {xs:List Int} (hx:∀c∈xs,c∈ah):xs.take 4≠[120,110,45,45]:=by
 intro q
 have:(120:Int)∈xs:=List.mem_of_mem_take (by rw [q];simp)
 exact absurd (hx _ this) (by decide)
theorem spec_shown {xs:List Int} {k:Nat} {tr only hy jo di:Bool} (hne:xs≠[]) (hk:k<2) (hx:∀c∈xs,c∈ah) (hl:xs.length<55) (h46:(46:Int)∉xs) (ho:Steady xs):
  aa C 47 [.ref 0,.ref 1,.ref 2] [.list (il xs),.box k,flS tr only hy jo di] λv σ=>v=.tup [.ref 0,.ref 3]/\σ=[.list (il xs),.box 1,flS tr only hy jo di,.list (sl (lwF xs tr only hy jo))]:=by
 have B:=ai hB ⟨sc,hτ⟩
 refine post_g B (V:=.tup [.ref 0,.ref 4]) (S:=[.list (il xs),.box 1,flS tr only hy jo di,.list (ao (il xs) none (some 4)),.list (sl (lwF xs tr only hy jo))]) [0,1,2,4] rfl rfl ⟨ag _ _,rfl,rfl,aI _ _,trivial⟩ rfl (go hτ hF rfl rfl (toSs ?_))
 have c0:∀{σ:St} {i:Nat},σ[i]?=some (.list (ao (il xs) none (some 4)))->cmpA (tb sc) σ .ne (.ref i) (.gl 2)=some (!decide (xs.take 4=[120,110,45,45])):=
  λh=>by
   show (eqS (tb sc) _ EQ _ _).map _=_
   rw [eq_lg (h.trans (congrArg (λl=>some (AO.list l)) (slice_to 4))) (by rw [List.length_take];omega)];rfl
 refine aC (t:=!decide (xs.take 4=[120,110,45,45])) (bO (c0 rfl) ⟨rfl,rfl⟩) (by rw [decide_eq_false (ne_prefix hτ hF hB hx)];rfl) ?_
 exact vc hτ rfl rfl (lift_ibf hτ hF hB (more:=[.bool false]) rfl rfl rfl (λJ=>rfl) (λι=>aI ι _) rfl (spec_lw hτ hF hB hne hk hx hl h46 ho) ⟨rfl,[],rfl⟩)
theorem call_shown {σ:St} {i b f k:Nat} {xs:List Int} {tr only hy jo di:Bool} {Φ:AV->St->Prop} (hi:σ[i]?=some (.list (il xs))) (hb:σ[b]?=some (.box k)) (hf:σ[f]?=some (flS tr only hy jo di)) (hne:xs≠[]) (hk:k<2) (hx:∀c∈xs,c∈ah) (hl:xs.length<55)
  (h46:(46:Int)∉xs) (ho:Steady xs) (h:Φ (.tup [.ref i,.ref σ.length]) (σ.set b (.box 1)++[.list (sl (lwF xs tr only hy jo))])):aa C 47 [.ref i,.ref b,.ref f] σ Φ:=
 lift_ibf hτ hF hB (more:=[]) hi hb hf (λJ=>rfl) (λι=>aI ι _) rfl (spec_shown hτ hF hB hne hk hx hl h46 ho) h
theorem call_set {σ:St} {i:Nat} {ws:List Nat} {Φ:AV->St->Prop} (hi:σ[i]?=some (.list (sl ws))) (hl:ws.length<60) (h:Φ (.ref σ.length) (σ++[.list (sl (setF ws))])):aa C 48 [.ref i] σ Φ:=by
 have B:=ai hB ⟨sc,hτ⟩
 refine lift_new B [i] (nd1 i) (ltc hi lt0) (σb:=[.list (sl ws)]) (args2:=[.ref 0]) (moc hi (aI _ _) rfl) rfl (λι=>aI ι _)
  (post_g B (V:=.ref 1) (S:=[.list (sl ws),.list (sl (setF ws))]) [0,1] rfl rfl ⟨aI _ _,aI _ _,trivial⟩ rfl (go hτ hF rfl rfl ?_)) h
 have hs:sortedA (tb sc) [.list (sl ws),.list []] (.ref 0)=some (sl (aD ws)):=by
  show (if (sl ws).length<64 then (strsOf (sl ws)).map λl=>(aD l).map AV.str else none)=_
  rw [if_pos (by rw [sl_len];omega),strsOf_sl];rfl
 have hsl:(aD ws).length=ws.length:=(sortN_perm ws).length_eq
 refine bO hs (toF ?_)
 refine for_l AV.str (aD ws) 3 (λ(g:Option AV) J=>[some (.ref 0),some (.ref 1),g]) (λJ j=>[.list (sl ws),.list (sl (ddF ((aD ws).take j))),.list (sl (aD ws))]) (λJ J=>True) (Nat.le_add_left 1 2) (by exact Nat.lt_succ_self 2) (λJ J=>rfl) none rfl rfl trivial (λj w g J hw hj=>?_) λg J=>?_
 ·have hdd:ddF ((aD ws).take (j+1))=if ddF ((aD ws).take j)=[]\/(ddF ((aD ws).take j)).getLast?≠some w then ddF ((aD ws).take j)++[w] else ddF ((aD ws).take j):=by
   rw [List.take_add_one,hw];unfold ddF;rw [List.foldl_append];rfl
  have hdl:(ddF ((aD ws).take j)).length<=j:=Nat.le_trans (ddF_len _) (by rw [List.length_take];omega)
  rw [hdd]
  generalize ddF ((aD ws).take j)=d at hdl ⊢
  generalize hX:(if d=[]\/d.getLast?≠some w then d++[w] else d)=X
  have e0:cmpA (tb sc) [AO.list (sl ws),AO.list (sl d),AO.list (sl (aD ws)),AO.list []] .eq (AV.ref 1) (AV.ref 3)=some (decide (d=[])):=by
   cases d<;>rfl
  have last:∀{d':List Nat},X=d'->∃g':Option AV,True/\Vw 3 [some (.ref 0),some (.ref 1),some (.str w)] [.list (sl ws),.list (sl d'),.list (sl (aD ws)),.list []] [some (.ref 0),some (.ref 1),g'] [.list (sl ws),.list (sl X),.list (sl (aD ws))]:=λh=>by
   rw [h]
   exact ⟨none,trivial,vw_q [0,1,2] rfl rfl ⟨aI _ _,aI _ _,aI _ _,trivial⟩ ⟨rfl,rfl,trivial,trivial⟩⟩
  have sz:(sl d).length<SZ:=by rw [sl_len];unfold SZ;omega
  cases hd:d.getLast? with
  | none=>
   obtain rfl:d=[]:=List.getLast?_eq_none_iff.mp hd
   exact aC (t:=true) ⟨rfl,rfl⟩ rfl (last (d':=[w]) (hX.symm.trans (if_pos (.inl rfl))))
  | some y=>
   have hne:d≠[]:=by intro q;rw [q] at hd;cases hd
   have hne':decide (d=[])=false:=decide_eq_false hne
   by_cases hy:y=w
   ·refine al (t:=!decide (y=w)) (bO e0 (iT (b0F hne') (bO (idx_l rfl (idx_last_sl hd)) ⟨rfl,rfl⟩))) (by rw [decide_eq_true hy];rfl) (last (d':=d) (hX.symm.trans (if_neg ?_)))
    rintro (q | q)
    ·exact hne q
    ·exact q (by rw [hd,hy])
   ·refine aC (t:=!decide (y=w)) (bO e0 (iT (b0F hne') (bO (idx_l rfl (idx_last_sl hd)) ⟨rfl,rfl⟩))) (by rw [decide_eq_false hy];rfl) (bG (decide_eq_true sz) ?_)
    have l:=last (d':=d++[w]) (hX.symm.trans (if_pos (.inr λq=>by rw [hd] at q;cases q;exact hy rfl)))
    rw [sl_app] at l
    exact l
 ·rw [List.take_length];exact ⟨rfl,_,rfl⟩
theorem call_flg {σ:St} {i:Nat} {tr only hy jo di:Bool} {Φ:AV->St->Prop} (hi:σ[i]?=some (.inst 3 [])) (h:Φ .none (σ.set i (flS tr only hy jo di))):aa C 32 [.ref i,.bool tr,.bool only,.bool hy,.bool jo,.bool di,.bool false,.bool true] σ Φ:=by
 refine aa.view (ai hB ⟨sc,hτ⟩) [i] (nd1 i) (ltc hi lt0) (σb:=[.inst 3 []]) (args2:=[.ref 0,.bool tr,.bool only,.bool hy,.bool jo,.bool di,.bool false,.bool true]) (moc hi rfl rfl) rfl
  (Ψ:=λv σ=>v=.none/\σ=[flS tr only hy jo di]) (go hτ hF rfl rfl ⟨rfl,rfl⟩) λv2 σ2 z=>?_
 obtain ⟨rfl,rfl⟩:=z
 refine ⟨(_,_),?_,h⟩
 exact back_at 0 rfl rfl (ak (f:=List.cons) rfl rfl) (List.append_nil _)
end
noncomputable def wb (b:Bool):List Nat:=if b then [48] else []
theorem wl_sl (b:Bool):wl b=sl (wb b):=by cases b<;>rfl
noncomputable def biL (Ls:List (List Int)):List Nat:=Ls.flatMap λl=>if owF (bcL l) then [] else [37]
noncomputable def aQ (page:List Int) (tr only hy jo di:Bool) (Ls:List (List Int)):List Nat:=wb (aF page tr)++Ls.flatMap (λl=>lwF l tr only hy jo)++if di&&mixF Ls then biL Ls else []
theorem lwF_len (xs:List Int) (tr only hy jo:Bool):(lwF xs tr only hy jo).length<=xs.length+3:=by
 have n1:=hyF_len xs hy
 have n2:=mkF_len xs
 have n3:=cwF_len xs tr only
 have n4:=jwF_len xs jo xs.length
 unfold lwF
 simp only [List.length_append]
 omega
theorem wb_len (b:Bool):(wb b).length<=1:=by cases b<;>decide
theorem p_one (page L:List Int) (tr only hy jo di:Bool):aQ page tr only hy jo di [L]=wb (aF page tr)++lwF L tr only hy jo++if di&&mixF [L] then (if owF (bcL L) then [] else [37]) else []:=by simp [aQ,biL]
theorem p_two (page Y Z:List Int) (tr only hy jo di:Bool):aQ page tr only hy jo di [Y,Z]=wb (aF page tr)++lwF Y tr only hy jo++lwF Z tr only hy jo++if di&&mixF [Y,Z] then (if owF (bcL Y) then [] else [37])++(if owF (bcL Z) then [] else [37]) else []:=by simp [aQ,biL]
section
variable {C:Cfg} {sc:List Int} (hτ:C.τ=tb sc) (hF:Snd C) (hB:C.BX=BXof C)
include hτ hF hB
theorem call_mapl {σ:St} {i b:Nat} {xs:List Int} {tr only:Bool} {Φ:AV->St->Prop} (hi:σ[i]?=some (.list (il xs))) (hb:σ[b]?=some (.box 0)) (hx:∀c∈xs,c∈ah) (hl:xs.length<25)
  (h:Φ (.tup [.ref σ.length,.ref (σ.length+1)]) (σ.set b (.box 1)++[.list (il (ordF (mapL xs tr))),.list (wl (aF xs tr))])):aa C 36 [.ref i,.ref b,.bool tr,.bool only] σ Φ:=by
 refine view_ib (ai hB ⟨sc,hτ⟩) (more:=[.bool tr,.bool only]) hi hb (λJ=>rfl) (spec_mapl hτ hF hB hx hl) ?_
 rintro _ _ ⟨rfl,rfl⟩
 refine ⟨(_,_),?_,h⟩
 exact back_at 2 rfl rfl (ak (f:=List.cons) (ag _ _) (ak (f:=List.cons) rfl (ak (f:=List.cons) (ag _ _) (ak (f:=List.cons) (rnO_wl _ _) rfl)))) (congrArg (λl=>l.set b (.box 1)++_) (set_same hi))
theorem call_lab1 {σ:St} {i:Nat} {xs:List Int} {Φ:AV->St->Prop} (hi:σ[i]?=some (.list (il xs))) (hs:∀c∈xs,c≠46) (hl:xs.length<60) (h:Φ (.ref σ.length) (σ++[.list [.ref (σ.length+1)],.list (il xs)])):aa C 37 [.ref i] σ Φ:=by
 refine aa.view (ai hB ⟨sc,hτ⟩) [i] (nd1 i) (ltc hi lt0) (σb:=[.list (il xs)]) (args2:=[.ref 0]) (moc hi (ag _ _) rfl) rfl (spec_lab1 hτ hF hB hs hl) ?_
 rintro _ _ ⟨rfl,rfl⟩
 refine ⟨(_,_),?_,h⟩
 exact back_at 2 rfl rfl (ak (f:=List.cons) (ag _ _) (ak (f:=List.cons) rfl (ak (f:=List.cons) (ag _ _) rfl))) (congrArg (λJ=>J++_) (set_same hi))
theorem call_lab2 {σ:St} {i:Nat} {ys zs:List Int} {Φ:AV->St->Prop} (hi:σ[i]?=some (.list (il (ys++46::zs)))) (hs:∀c∈ys,c≠46) (hz:∀c∈zs,c≠46) (hl:ys.length+zs.length<60) (h:Φ (.ref σ.length) (σ++[.list [.ref (σ.length+1),.ref (σ.length+2)],.list (il ys),.list (il zs)])):aa C 37 [.ref i] σ Φ:=by
 refine aa.view (ai hB ⟨sc,hτ⟩) [i] (nd1 i) (ltc hi lt0) (σb:=[.list (il (ys++46::zs))]) (args2:=[.ref 0]) (moc hi (ag _ _) rfl) rfl (spec_lab2 hτ hF hB hs hz hl) ?_
 rintro _ _ ⟨rfl,rfl⟩
 refine ⟨(_,_),?_,h⟩
 exact back_at 3 rfl rfl (ak (f:=List.cons) (ag _ _) (ak (f:=List.cons) rfl (ak (f:=List.cons) (ag _ _) (ak (f:=List.cons) (ag _ _) rfl)))) (congrArg (λJ=>J++_) (set_same hi))
theorem spec_p1 {page L:List Int} {tr only hy jo di:Bool} (hx:∀c∈page,c∈ah) (hl:page.length<12) (hL:ordF (mapL page tr)=L) (hne:L≠[]) (h46:(46:Int)∉L) (ho:Steady L):
  aa C 49 [.ref 0,.ref 1,.ref 2] [.list (il page),.box 0,flS tr only hy jo di] λv σ=>v=.tup [.ref 3,.ref 4]/\σ=[.list (il page),.box 1,flS tr only hy jo di,.list [.ref 5],.list (sl (setF (aQ page tr only hy jo di [L]))),.list (il L)]:=by
 have B:=ai hB ⟨sc,hτ⟩
 have hm:=mapL_mem (tr:=tr) hx
 have hml:=mapL_len (tr:=tr) hx
 have hLx:∀c∈L,c∈ah:=by intro c hc;rw [<-hL,ordF_mem] at hc;exact hm c hc
 have hLl:L.length<24:=by rw [<-hL,ordF_len hm];omega
 have hpl:=lwF_len L tr only hy jo
 have hwb:=wb_len (aF page tr)
 refine post_g B (V:=.tup [.ref 5,.ref 10]) (S:=[.list (il page),.box 1,flS tr only hy jo di,.list (il L),.list (sl (wb (aF page tr))),.list [.ref 7],.list [.ref 7],.list (il L),.list (sl (lwF L tr only hy jo)),.list (sl (aQ page tr only hy jo di [L])),.list (sl (setF (aQ page tr only hy jo di [L])))])
  [0,1,2,5,10,7] rfl rfl ⟨ag _ _,rfl,rfl,rfl,aI _ _,ag _ _,trivial⟩ rfl (go hτ hF rfl rfl ?_)
 refine vc hτ rfl rfl (call_mapl hτ hF hB rfl rfl hx (by omega) ?_)
 rw [hL,wl_sl]
 refine vc hτ rfl rfl (call_lab1 hτ hF hB rfl (λc hc q=>h46 (q▸hc)) (by omega) (toF ?_))
 refine for_l (λ(i:Nat)=>AV.ref i) [7] 8 (λ(J:Unit) j=>match j with
  | 0=>[some (.ref 0),some (.ref 1),some (.ref 2),some (.ref 5),none,some (.ref 3),some (.ref 4),none,none]
  | J=>[some (.ref 0),some (.ref 1),some (.ref 2),some (.ref 5),some (.ref 7),some (.ref 3),some (.ref 9),some (.ref 7),some (.ref 8)]) (λJ j=>match j with
  | 0=>[.list (il page),.box 1,flS tr only hy jo di,.list (il L),.list (sl (wb (aF page tr))),.list [],.list [.ref 7],.list (il L)]
  | J=>[.list (il page),.box 1,flS tr only hy jo di,.list (il L),.list (sl (wb (aF page tr))),.list [.ref 7],.list [.ref 7],.list (il L),.list (sl (lwF L tr only hy jo)),.list (sl (wb (aF page tr)++lwF L tr only hy jo))]) (λJ J=>True)
  (odT rfl) (pinL rfl) (λg j=>by cases j<;>rfl) () rfl rfl trivial (λj c g J hc hj=>?_) λg J=>?_
 ·match j,hc with
  | 0,hc=>
   cases hc
   refine vc hτ rfl rfl (call_shown hτ hF hB (tr:=tr) (only:=only) (hy:=hy) (jo:=jo) (di:=di) rfl rfl rfl hne Nat.one_lt_two hLx (by omega) h46 ho ?_)
   refine bG (decide_eq_true (by rw [sl_len,sl_len];unfold SZ;omega)) ?_
   exact ⟨(),trivial,.inl ⟨rfl,by rw [sl_app];rfl⟩⟩
 ·have fin:∀{x7:Option AV} {W:List Nat},aQ page tr only hy jo di [L]=W->W.length<60 ->
    aA (tb sc) (vcA C 49) (aS 4 f49.body) 3 [some (.ref 0),some (.ref 1),some (.ref 2),some (.ref 5),x7,some (.ref 3),some (.ref 9),some (.ref 7),some (.ref 8)]
     [.list (il page),.box 1,flS tr only hy jo di,.list (il L),.list (sl (wb (aF page tr))),.list [.ref 7],.list [.ref 7],.list (il L),.list (sl (lwF L tr only hy jo)),.list (sl W)]
     λfl x σ'=>match fl with
     | .ret v=>v=.tup [.ref 5,.ref 10]/\∃g,σ'=[.list (il page),.box 1,flS tr only hy jo di,.list (il L),.list (sl (wb (aF page tr))),.list [.ref 7],.list [.ref 7],.list (il L),.list (sl (lwF L tr only hy jo)),.list (sl (aQ page tr only hy jo di [L])),.list (sl (setF (aQ page tr only hy jo di [L])))]++g
     | .next=>AV.none=.tup [.ref 5,.ref 10]/\∃g,σ'=[.list (il page),.box 1,flS tr only hy jo di,.list (il L),.list (sl (wb (aF page tr))),.list [.ref 7],.list [.ref 7],.list (il L),.list (sl (lwF L tr only hy jo)),.list (sl (aQ page tr only hy jo di [L])),.list (sl (setF (aQ page tr only hy jo di [L])))]++g
     | .cont=>False:=by
   rintro x7 W rfl hW
   exact vc hτ rfl rfl (call_set hτ hF hB rfl hW ⟨rfl,[],rfl⟩)
  have p0:=p_one page L tr only hy jo di
  have wl1:(wb (aF page tr)++lwF L tr only hy jo).length<40:=by rw [List.length_append];omega
  refine toSs ?_
  cases di with
  | false=>exact al (t:=false) ⟨rfl,rfl⟩ rfl (fin (p0.trans (List.append_nil _)) (by omega))
  | true=>
   cases hmx:mixF [L] with
   | false=>
    rw [hmx] at p0
    refine al (t:=false) (vc hτ rfl rfl (call_mix1 hτ hF hB rfl rfl rfl rfl hLx (by omega) ⟨by rw [hmx],rfl⟩)) rfl (fin (p0.trans (List.append_nil _)) (by omega))
   | true=>
    rw [hmx] at p0
    refine aC (t:=true) (vc hτ rfl rfl (call_mix1 hτ hF hB rfl rfl rfl rfl hLx (by omega) ⟨by rw [hmx],rfl⟩)) rfl (toF ?_)
    refine for_l (λ(i:Nat)=>AV.ref i) [7] 10 (λ(J:Unit) j=>[some (.ref 0),some (.ref 1),some (.ref 2),some (.ref 5),some (.ref 7),some (.ref 3),some (.ref 9),some (.ref 7),some (.ref 8)]) (λJ j=>match j with
     | 0=>[.list (il page),.box 1,flS tr only hy jo true,.list (il L),.list (sl (wb (aF page tr))),.list [.ref 7],.list [.ref 7],.list (il L),.list (sl (lwF L tr only hy jo)),.list (sl (wb (aF page tr)++lwF L tr only hy jo))]
     | J=>[.list (il page),.box 1,flS tr only hy jo true,.list (il L),.list (sl (wb (aF page tr))),.list [.ref 7],.list [.ref 7],.list (il L),.list (sl (lwF L tr only hy jo)),.list (sl (wb (aF page tr)++lwF L tr only hy jo++if owF (bcL L) then [] else [37]))]) (λJ J=>True)
     (odT rfl) (pinL rfl) (λg j=>by cases j<;>rfl) () rfl rfl trivial (λj c g J hc hj=>?_) λg J=>fin p0 ?_
    ·match j,hc with
     | 0,hc=>
      cases hc
      cases how:owF (bcL L) with
      | true=>exact al (t:=!true) (vc hτ rfl rfl (call_ow hτ hF hB rfl rfl hLx (by omega) ⟨by rw [how],rfl⟩)) rfl ⟨(),trivial,.inl ⟨rfl,by rw [if_pos rfl,List.append_nil];rfl⟩⟩
      | false=>
       refine aC (t:=!false) (vc hτ rfl rfl (call_ow hτ hF hB rfl rfl hLx (by omega) ⟨by rw [how],rfl⟩)) rfl (bG (decide_eq_true (by rw [sl_len];unfold SZ;omega)) ⟨(),trivial,.inl ⟨rfl,?_⟩⟩)
       rw [if_neg (by decide),sl_app (wb (aF page tr)++lwF L tr only hy jo) [37]];rfl
    ·rw [List.length_append];split<;>simp only [List.length_cons,List.length_nil]<;>omega
end
section
variable {C:Cfg} {sc:List Int} (hτ:C.τ=tb sc) (hF:Snd C) (hB:C.BX=BXof C)
include hτ hF hB
theorem spec_p2 {page Y Z:List Int} {tr only hy jo di:Bool} (hx:∀c∈page,c∈ah) (hl:page.length<12) (hL:ordF (mapL page tr)=Y++46::Z) (hne:Y≠[]) (h46:(46:Int)∉Y) (ho:Steady Y) (hneZ:Z≠[]) (h46Z:(46:Int)∉Z) (hoZ:Steady Z):
  aa C 49 [.ref 0,.ref 1,.ref 2] [.list (il page),.box 0,flS tr only hy jo di] λv σ=>v=.tup [.ref 3,.ref 4]/\σ=[.list (il page),.box 1,flS tr only hy jo di,.list [.ref 5,.ref 6],.list (sl (setF (aQ page tr only hy jo di [Y,Z]))),.list (il Y),.list (il Z)]:=by
 have B:=ai hB ⟨sc,hτ⟩
 have hm:=mapL_mem (tr:=tr) hx
 have hml:=mapL_len (tr:=tr) hx
 have hMx:∀c∈Y++46::Z,c∈ah:=by intro c hc;rw [<-hL,ordF_mem] at hc;exact hm c hc
 have hYx:∀c∈Y,c∈ah:=λc hc=>hMx c (List.mem_append_left _ hc)
 have hZx:∀c∈Z,c∈ah:=λc hc=>hMx c (List.mem_append_right _ (List.mem_cons_of_mem _ hc))
 have hLl:Y.length+Z.length<24:=by
  have q:=ordF_len hm
  rw [hL,List.length_append,List.length_cons] at q
  omega
 have hpY:=lwF_len Y tr only hy jo
 have hpZ:=lwF_len Z tr only hy jo
 have hwb:=wb_len (aF page tr)
 refine post_g B (V:=.tup [.ref 5,.ref 13]) (S:=[.list (il page),.box 1,flS tr only hy jo di,.list (il (Y++46::Z)),.list (sl (wb (aF page tr))),.list [.ref 7,.ref 8],.list [.ref 7,.ref 8],.list (il Y),.list (il Z),.list (sl (lwF Y tr only hy jo)),.list (sl (wb (aF page tr)++lwF Y tr only hy jo)),.list (sl (lwF Z tr only hy jo)),.list (sl (aQ page tr only hy jo di [Y,Z])),.list (sl (setF (aQ page tr only hy jo di [Y,Z])))])
  [0,1,2,5,13,7,8] rfl rfl ⟨ag _ _,rfl,rfl,rfl,aI _ _,ag _ _,ag _ _,trivial⟩ rfl (go hτ hF rfl rfl ?_)
 refine vc hτ rfl rfl (call_mapl hτ hF hB rfl rfl hx (by omega) ?_)
 rw [hL,wl_sl]
 refine vc hτ rfl rfl (call_lab2 hτ hF hB rfl (λc hc q=>h46 (q▸hc)) (λc hc q=>h46Z (q▸hc)) (by omega) (toF ?_))
 refine for_l (λ(i:Nat)=>AV.ref i) [7,8] 9 (λ(J:Unit) j=>match j with
  | 0=>[some (.ref 0),some (.ref 1),some (.ref 2),some (.ref 5),none,some (.ref 3),some (.ref 4),none,none]
  | 1=>[some (.ref 0),some (.ref 1),some (.ref 2),some (.ref 5),some (.ref 7),some (.ref 3),some (.ref 10),some (.ref 7),some (.ref 9)]
  | J=>[some (.ref 0),some (.ref 1),some (.ref 2),some (.ref 5),some (.ref 8),some (.ref 3),some (.ref 12),some (.ref 8),some (.ref 11)]) (λJ j=>match j with
  | 0=>[.list (il page),.box 1,flS tr only hy jo di,.list (il (Y++46::Z)),.list (sl (wb (aF page tr))),.list [],.list [.ref 7,.ref 8],.list (il Y),.list (il Z)]
  | 1=>[.list (il page),.box 1,flS tr only hy jo di,.list (il (Y++46::Z)),.list (sl (wb (aF page tr))),.list [.ref 7],.list [.ref 7,.ref 8],.list (il Y),.list (il Z),.list (sl (lwF Y tr only hy jo)),.list (sl (wb (aF page tr)++lwF Y tr only hy jo))]
  | J=>[.list (il page),.box 1,flS tr only hy jo di,.list (il (Y++46::Z)),.list (sl (wb (aF page tr))),.list [.ref 7,.ref 8],.list [.ref 7,.ref 8],.list (il Y),.list (il Z),.list (sl (lwF Y tr only hy jo)),.list (sl (wb (aF page tr)++lwF Y tr only hy jo)),.list (sl (lwF Z tr only hy jo)),.list (sl (wb (aF page tr)++lwF Y tr only hy jo++lwF Z tr only hy jo))]) (λJ J=>True)
  (odT rfl) (pinL rfl) (λg j=>by match j with | 0=>rfl | 1=>rfl | J+2=>rfl) () rfl rfl trivial (λj c g J hc hj=>?_) λg J=>?_
 ·match j,hc with
  | 0,hc=>
   cases hc
   refine vc hτ rfl rfl (call_shown hτ hF hB (tr:=tr) (only:=only) (hy:=hy) (jo:=jo) (di:=di) rfl rfl rfl hne Nat.one_lt_two hYx (by omega) h46 ho ?_)
   refine bG (decide_eq_true (by rw [sl_len,sl_len];unfold SZ;omega)) ?_
   exact ⟨(),trivial,.inl ⟨rfl,by rw [sl_app];rfl⟩⟩
  | 1,hc=>
   cases hc
   refine vc hτ rfl rfl (call_shown hτ hF hB (tr:=tr) (only:=only) (hy:=hy) (jo:=jo) (di:=di) rfl rfl rfl hneZ Nat.one_lt_two hZx (by omega) h46Z hoZ ?_)
   refine bG (decide_eq_true (by rw [sl_len,sl_len,List.length_append];unfold SZ;omega)) ?_
   exact ⟨(),trivial,.inl ⟨rfl,by rw [sl_app (wb (aF page tr)++lwF Y tr only hy jo)];rfl⟩⟩
 ·have fin:∀{x4:Option AV} {W:List Nat},aQ page tr only hy jo di [Y,Z]=W->W.length<60 ->
    aA (tb sc) (vcA C 49) (aS 4 f49.body) 3 [some (.ref 0),some (.ref 1),some (.ref 2),some (.ref 5),x4,some (.ref 3),some (.ref 12),some (.ref 8),some (.ref 11)]
     [.list (il page),.box 1,flS tr only hy jo di,.list (il (Y++46::Z)),.list (sl (wb (aF page tr))),.list [.ref 7,.ref 8],.list [.ref 7,.ref 8],.list (il Y),.list (il Z),.list (sl (lwF Y tr only hy jo)),.list (sl (wb (aF page tr)++lwF Y tr only hy jo)),.list (sl (lwF Z tr only hy jo)),.list (sl (W))]
     λfl x σ'=>match fl with
     | .ret v=>v=.tup [.ref 5,.ref 13]/\∃g,σ'=[.list (il page),.box 1,flS tr only hy jo di,.list (il (Y++46::Z)),.list (sl (wb (aF page tr))),.list [.ref 7,.ref 8],.list [.ref 7,.ref 8],.list (il Y),.list (il Z),.list (sl (lwF Y tr only hy jo)),.list (sl (wb (aF page tr)++lwF Y tr only hy jo)),.list (sl (lwF Z tr only hy jo)),.list (sl (aQ page tr only hy jo di [Y,Z])),.list (sl (setF (aQ page tr only hy jo di [Y,Z])))]++g
     | .next=>AV.none=.tup [.ref 5,.ref 13]/\∃g,σ'=[.list (il page),.box 1,flS tr only hy jo di,.list (il (Y++46::Z)),.list (sl (wb (aF page tr))),.list [.ref 7,.ref 8],.list [.ref 7,.ref 8],.list (il Y),.list (il Z),.list (sl (lwF Y tr only hy jo)),.list (sl (wb (aF page tr)++lwF Y tr only hy jo)),.list (sl (lwF Z tr only hy jo)),.list (sl (aQ page tr only hy jo di [Y,Z])),.list (sl (setF (aQ page tr only hy jo di [Y,Z])))]++g
     | .cont=>False:=by
   rintro x4 W rfl hW
   exact vc hτ rfl rfl (call_set hτ hF hB rfl hW ⟨rfl,[],rfl⟩)
  have p0:=p_two page Y Z tr only hy jo di
  have wl1:(wb (aF page tr)++lwF Y tr only hy jo++lwF Z tr only hy jo).length<40:=by rw [List.length_append,List.length_append];omega
  refine toSs ?_
  cases di with
  | false=>exact al (t:=false) ⟨rfl,rfl⟩ rfl (fin (p0.trans (List.append_nil _)) (by omega))
  | true=>
   cases hmx:mixF [Y,Z] with
   | false=>
    rw [hmx] at p0
    exact al (t:=false) (vc hτ rfl rfl (call_mix2 hτ hF hB rfl rfl rfl rfl rfl hYx (by omega) hZx (by omega) ⟨by rw [hmx],rfl⟩)) rfl (fin (p0.trans (List.append_nil _)) (by omega))
   | true=>
    rw [hmx] at p0
    refine aC (t:=true) (vc hτ rfl rfl (call_mix2 hτ hF hB rfl rfl rfl rfl rfl hYx (by omega) hZx (by omega) ⟨by rw [hmx],rfl⟩)) rfl (toF ?_)
    have l1:∀b:Bool,(if b=true then ([]:List Nat) else [37]).length<=1:=λb=>by cases b<;>decide
    have p1:=p0.trans (List.append_assoc _ _ _).symm
    have lY:=l1 (owF (bcL Y))
    have lZ:=l1 (owF (bcL Z))
    refine for_l (λ(i:Nat)=>AV.ref i) [7,8] 13 (λ(J:Unit) j=>match j with
     | 0=>[some (.ref 0),some (.ref 1),some (.ref 2),some (.ref 5),some (.ref 8),some (.ref 3),some (.ref 12),some (.ref 8),some (.ref 11)]
     | 1=>[some (.ref 0),some (.ref 1),some (.ref 2),some (.ref 5),some (.ref 7),some (.ref 3),some (.ref 12),some (.ref 8),some (.ref 11)]
     | J=>[some (.ref 0),some (.ref 1),some (.ref 2),some (.ref 5),some (.ref 8),some (.ref 3),some (.ref 12),some (.ref 8),some (.ref 11)]) (λJ j=>match j with
     | 0=>[.list (il page),.box 1,flS tr only hy jo true,.list (il (Y++46::Z)),.list (sl (wb (aF page tr))),.list [.ref 7,.ref 8],.list [.ref 7,.ref 8],.list (il Y),.list (il Z),.list (sl (lwF Y tr only hy jo)),.list (sl (wb (aF page tr)++lwF Y tr only hy jo)),.list (sl (lwF Z tr only hy jo)),.list (sl (wb (aF page tr)++lwF Y tr only hy jo++lwF Z tr only hy jo))]
     | 1=>[.list (il page),.box 1,flS tr only hy jo true,.list (il (Y++46::Z)),.list (sl (wb (aF page tr))),.list [.ref 7,.ref 8],.list [.ref 7,.ref 8],.list (il Y),.list (il Z),.list (sl (lwF Y tr only hy jo)),.list (sl (wb (aF page tr)++lwF Y tr only hy jo)),.list (sl (lwF Z tr only hy jo)),.list (sl (wb (aF page tr)++lwF Y tr only hy jo++lwF Z tr only hy jo++(if owF (bcL Y) then [] else [37])))]
     | J=>[.list (il page),.box 1,flS tr only hy jo true,.list (il (Y++46::Z)),.list (sl (wb (aF page tr))),.list [.ref 7,.ref 8],.list [.ref 7,.ref 8],.list (il Y),.list (il Z),.list (sl (lwF Y tr only hy jo)),.list (sl (wb (aF page tr)++lwF Y tr only hy jo)),.list (sl (lwF Z tr only hy jo)),.list (sl (wb (aF page tr)++lwF Y tr only hy jo++lwF Z tr only hy jo++(if owF (bcL Y) then [] else [37])++(if owF (bcL Z) then [] else [37])))]) (λJ J=>True)
     (odT rfl) (pinL rfl) (λg j=>by match j with | 0=>rfl | 1=>rfl | J+2=>rfl) () rfl rfl trivial (λj c g J hc hj=>?_) λg J=>fin p1 ?_
    ·match j,hc with
     | 0,hc=>
      cases hc
      cases how:owF (bcL Y) with
      | true=>exact al (t:=!true) (vc hτ rfl rfl (call_ow hτ hF hB rfl rfl hYx (by omega) ⟨by rw [how],rfl⟩)) rfl ⟨(),trivial,.inl ⟨rfl,by rw [if_pos rfl,List.append_nil];rfl⟩⟩
      | false=>
       refine aC (t:=!false) (vc hτ rfl rfl (call_ow hτ hF hB rfl rfl hYx (by omega) ⟨by rw [how],rfl⟩)) rfl (bG (decide_eq_true (by rw [sl_len];unfold SZ;omega)) ⟨(),trivial,.inl ⟨rfl,?_⟩⟩)
       rw [if_neg (by decide),sl_app (wb (aF page tr)++lwF Y tr only hy jo++lwF Z tr only hy jo) [37]];rfl
     | 1,hc=>
      cases hc
      generalize (if owF (bcL Y) then [] else [37])=EY at lY ⊢
      have wl2:(wb (aF page tr)++lwF Y tr only hy jo++lwF Z tr only hy jo++EY).length<50:=by rw [List.length_append];omega
      cases how:owF (bcL Z) with
      | true=>exact al (t:=!true) (vc hτ rfl rfl (call_ow hτ hF hB rfl rfl hZx (by omega) ⟨by rw [how],rfl⟩)) rfl ⟨(),trivial,.inl ⟨rfl,by rw [if_pos rfl,List.append_nil];rfl⟩⟩
      | false=>
       refine aC (t:=!false) (vc hτ rfl rfl (call_ow hτ hF hB rfl rfl hZx (by omega) ⟨by rw [how],rfl⟩)) rfl (bG (decide_eq_true (by rw [sl_len];unfold SZ;omega)) ⟨(),trivial,.inl ⟨rfl,?_⟩⟩)
       rw [if_neg (by decide),sl_app (wb (aF page tr)++lwF Y tr only hy jo++lwF Z tr only hy jo++EY) [37]];rfl
    ·rw [List.length_append,List.length_append];omega
end
noncomputable def dkS (l:Nat) (mx:Int):AO:=.sdict [(70,.ref l),(74,.int mx)]
section
variable {C:Cfg} {sc:List Int} (hτ:C.τ=tb sc) (hF:Snd C) (hB:C.BX=BXof C)
include hτ hF hB
theorem spec_draw {xs:List Int} {mx many:Int} (hm:0<many) (hx:0<=mx/\mx<1000003):aa C 51 [.ref 0,.int many] [dkS 1 mx,.list (il xs)] λv σ=>∃n xs' mx' g,v=.int n/\((0<=n/\n<many)/\0<=mx'/\mx'<1000003)/\σ=[dkS 1 mx',.list (il xs')]++g:=by
 refine go hτ hF rfl rfl (toSs ?_)
 have hne:¬many=0:=by omega
 have hb:∀a:Int,0<=Int.fmod a many/\Int.fmod a many<many:=λa=>⟨Int.fmod_nonneg_of_pos a hm,Int.fmod_lt_of_pos a hm⟩
 cases xs with
 | cons c xs=>exact aC (t:=true) ⟨rfl,rfl⟩ rfl (bO (if_neg hne) ⟨_,xs,mx,_,rfl,⟨hb c,hx⟩,rfl⟩)
 | nil=>
  refine al (t:=false) ⟨rfl,rfl⟩ rfl (bO (if_pos ⟨by omega,by decide⟩) (bO (if_neg hne) ⟨_,[],_,_,rfl,⟨hb _,?_⟩,rfl⟩))
  exact ⟨Int.fmod_nonneg_of_pos (mx*4801+97) (by decide),Int.fmod_lt_of_pos _ (by decide)⟩
theorem call_draw {σ:St} {d l:Nat} {xs:List Int} {mx many:Int} {Φ:AV->St->Prop} (hd:σ[d]?=some (dkS l mx)) (hl:σ[l]?=some (.list (il xs))) (hm:0<many) (hx:0<=mx/\mx<1000003)
  (h:∀n xs' mx',(0<=n/\n<many)->(0<=mx'/\mx'<1000003)->Φ (.int n) ((σ.set d (dkS l mx')).set l (.list (il xs')))):aa C 51 [.ref d,.int many] σ Φ:=by
 have B:=ai hB ⟨sc,hτ⟩
 have n1:d≠l:=λq=>by rw [<-q,hd] at hl;cases hl
 refine aa.view B [d,l] (nd2 n1) (ltc hd (ltc hl lt0)) (σb:=[dkS 1 mx,.list (il xs)]) (args2:=[.ref 0,.int many]) (moc hd rfl (moc hl (ag _ _) rfl)) rfl
  (aa.post B (Ψ:=λv σ=>∃n xs' mx' g,v=.int n/\((0<=n/\n<many)/\0<=mx'/\mx'<1000003)/\σ=[dkS 1 mx',.list (il xs')]++g) (Φ:=λv σ=>∃n xs' mx',v=.int n/\((0<=n/\n<many)/\0<=mx'/\mx'<1000003)/\σ=[dkS 1 mx',.list (il xs')]) (spec_draw hτ hF hB hm hx) ?_) ?_
 ·rintro v σ ⟨n,xs',mx',g,rfl,h,rfl⟩
  exact ⟨.int n,[dkS 1 mx',.list (il xs')],vw_q [0,1] (Bool.and_eq_true_iff.mpr ⟨rfl,rfl⟩) rfl ⟨rfl,ag _ _,trivial⟩ ⟨rfl,trivial⟩,n,xs',mx',rfl,h,rfl⟩
 ·rintro _ _ ⟨n,xs',mx',rfl,⟨h1,h2⟩,rfl⟩
  refine ⟨(_,_),?_,h n xs' mx' h1 h2⟩
  exact back_at 0 rfl rfl (ak (f:=List.cons) rfl (ak (f:=List.cons) (ag _ _) rfl)) (List.append_nil _)
theorem spec_deck:aa C 50 [.gl 3] [] λv σ=>∃xs mx,v=.ref 0/\(0<=mx/\mx<1000003)/\σ=[dkS 1 mx,.list (il xs)]:=by
 have B:=ai hB ⟨sc,hτ⟩
 refine aa.post B (Ψ:=λv σ=>∃xs mx a,v=.ref 2/\(0<=mx/\mx<1000003)/\σ=[a,.list (il xs),dkS 1 mx]) (go hτ hF rfl rfl (toC ?_)) ?_
 ·have e1:ao (il sc) none (some 24)=il (sc.take 24):=slice_to 24
  refine comp_l (src:=.list 0) (σ0:=[.list (ao (il sc) none (some 24))]) AV.int (sc.take 24) (λc=>some (.int (Int.fmod c 1000003))) (by exact Nat.one_pos) (λacc j=>congrArg (λl:List AV=>some l[j]?) e1) (by rw [List.length_take];unfold SZ;omega) (λj c acc Ψ hc hΨ=>hΨ) ?_
  rw [show (sc.take 24).filterMap (λc=>some (AV.int (Int.fmod c 1000003)))=il ((sc.take 24).map λc=>Int.fmod c 1000003) by simp [il,List.filterMap_eq_map,Function.comp_def]]
  have hlen:((sc.take 24).map λc=>Int.fmod c 1000003).length<25:=by rw [List.length_map,List.length_take];omega
  generalize ((sc.take 24).map λc=>Int.fmod c 1000003)=xs at hlen ⊢
  refine toF ?_
  refine for_il xs 2 (λ(g:Option AV×Int) J=>[some (.gl 3),g.1,some (.ref 1),some (.int g.2),none]) (λJ J=>[.list (ao (il sc) none (some 24)),.list (il xs)]) (λg J=>0<=g.2/\g.2<1000003)
   (Nat.zero_le 2) (pinL rfl) (λJ J=>rfl) (none,3407) rfl rfl (by decide) (λJ J=>odT rfl) (λj c g hg hc hj=>?_) λg hg=>⟨xs,g.2,_,rfl,hg,rfl⟩
  refine bO (if_pos ⟨by omega,by decide⟩) ⟨(some (.int c),_),?_,.inl ⟨rfl,rfl⟩⟩
  exact ⟨Int.fmod_nonneg_of_pos (g.2*31+c+1) (by decide),Int.fmod_lt_of_pos _ (by decide)⟩
 ·rintro v σ ⟨xs,mx,a,rfl,h,rfl⟩
  exact ⟨.ref 0,[dkS 1 mx,.list (il xs)],vw_q [2,1] rfl rfl ⟨rfl,ag _ _,trivial⟩ ⟨rfl,trivial⟩,xs,mx,rfl,h,rfl⟩
end
structure RowL where
 st:Nat
 ot:List Int
 gc:Nat
 cc:Int
 jt:Nat
 bc:Nat
noncomputable def am (c:Int):RowL:=match lookI c rowsT with
 | some (.tup [.str a,.tup b,.str g,.int o,.str j,.str w])=>⟨a,(intsOf b).getD [],g,o,j,w⟩
 | J=>⟨0,[],0,0,0,0⟩
noncomputable def aB:List Int:=[98,49,45,65,97,95,173,223,8226,769,2381,8204,8205,1576,1575,1488,1632,183,7838,2307,37,44,43122,115]
noncomputable def rowA' (c:Int):AV:=.tup [.str (am c).st,.tup (il (am c).ot),.str (am c).gc,.int (am c).cc,.str (am c).jt,.str (am c).bc]
theorem row_ok {c:Int} (h:c∈aB):lookI c rowsT=some (rowA' c):=by
 simp only [aB,List.mem_cons,List.not_mem_nil,or_false] at h
 rcases h with rfl | rfl | rfl | rfl | rfl | rfl | rfl | rfl | rfl | rfl | rfl | rfl | rfl | rfl | rfl | rfl | rfl | rfl | rfl | rfl | rfl | rfl | rfl | rfl<;>rfl
noncomputable def nearF (ks:List Nat):List Nat:=(ks.filter (λJ=>J != 31)).take 1
noncomputable def jnF (xs:List Int) (k:Nat):Bool:=
 (decide (0<k)&&decide ((am (xs.getD (k-1) 0)).cc=9)) ||
 (decide (xs.getD k 0=8204)&&((nearF ((xs.take k).map λc=>(am c).jt).reverse).any λj=>decide (j∈[12,8]))&&((nearF ((xs.drop (k+1)).map λc=>(am c).jt)).any λj=>decide (j∈[30,8])))
theorem near_one (ks:List Nat):nearF ks=[]\/∃k,nearF ks=[k]:=by
 unfold nearF
 cases ks.filter (λJ=>J != 31) with
 | nil=>exact .inl rfl
 | cons k l=>exact .inr ⟨k,rfl⟩
theorem near_s (ks:List Nat):ao (sl (ks.filter (λJ=>J != 31))) none (some 1)=sl (nearF ks):=by
 unfold nearF
 rcases ks.filter (λJ=>J != 31) with _ | ⟨a,l⟩
 ·rfl
 ·show ao (sl (a::l)) none (some ((1:Nat):Int))=[AV.str a]
  unfold ao
  simp only [Option.elim,show (1:Int)=((1:Nat):Int) from rfl,clipAt_nat,sl_len,List.drop_zero]
  rw [show min 1 (a::l).length=1 from Nat.min_eq_left (Nat.le_add_left 1 l.length)];rfl
theorem near_0 {sc:List Int} {σ:St} {i j:Nat} {ks:List Nat} (hi:σ[i]?=some (.list (ao (sl (ks.filter (λJ=>J != 31))) none (some 1)))) (hj:σ[j]?=some (.list [])):cmpA (tb sc) σ .ne (.ref i) (.ref j)=some (!(nearF ks).isEmpty):=by
 rw [near_s] at hi
 refine (congrArg (Option.map (λJ=>!J)) (eqS_l (n:=59) (own_i hi) (lst_i hj))).trans ?_
 cases nearF ks<;>rfl
theorem near_1 {sc:List Int} {σ:St} {i a:Nat} {ks l:List Nat} (hi:σ[i]?=some (.list (ao (sl (ks.filter (λJ=>J != 31))) none (some 1)))) (h:nearF ks=a::l):idxA (tb sc) σ (.ref i) (.int 0)=some (.str a):=
 idx_l hi (by rw [near_s,h];rfl)
theorem jt_sl (xs:List Int):(xs.filterMap λc=>some (AV.str (am c).jt))=sl (xs.map λc=>(am c).jt):=(fm_m _ _).trans List.map_map.symm
theorem in2 {a x y:Nat}:(decide (x=a)||(decide (y=a)||false))=decide (a∈[x,y]):=by
 rw [<-Option.some_inj,<-memS_sl a [x,y]];rfl
theorem any_one {p:Nat->Bool} {a:Nat} {l:List Nat} (h:l=[a]):l.any p=p a:=by rw [h];exact Bool.or_false _
section
variable {C:Cfg} {sc:List Int} (hτ:C.τ=tb sc) (hF:Snd C) (hB:C.BX=BXof C)
include hτ hF hB
theorem jn_tail {xs:List Int} {k:Nat} {R:Bool} (hx:∀c∈xs,c∈aB) (hl:xs.length<55) (hk:k<xs.length) (hR:(decide (xs.getD k 0=8204)&&((nearF ((xs.take k).map λc=>(am c).jt).reverse).any λj=>decide (j∈[12,8]))&&((nearF ((xs.drop (k+1)).map λc=>(am c).jt)).any λj=>decide (j∈[30,8])))=R):
  aA (tb sc) (vcA C 55) (aS 1 f55.body) 1 [some (.ref 0),some (.int k),none,none,none,none,none,none,none,none,none] [.list (il xs)] λfl J σ'=>match fl with
  | .ret v=>v=.bool R/\∃g,σ'=[.list (il xs)]++g
  | .next=>AV.none=.bool R/\∃g,σ'=[.list (il xs)]++g
  | .cont=>False:=by
 refine toC (comp_r (src:=.list 1) (σ0:=[.list (il xs),.list (ao (il xs) none (some k))]) AV.int (xs.take k) (λc=>some (.str (am c).jt)) (jt_sl _) (by exact Nat.one_lt_two) (λacc j=>congrArg (λl:List AV=>some l[j]?) (slice_to k)) (by rw [List.length_take];unfold SZ;omega) (λj c acc Ψ hc hΨ=>?_) ?_)
 ·exact bO (row_ok (hx c (List.mem_of_mem_take (List.mem_of_getElem? hc)))) hΨ
 have l1:((xs.take k).map λc=>(am c).jt).length<55:=by rw [List.length_map,List.length_take];omega
 generalize ((xs.take k).map λc=>(am c).jt)=P at l1 hR ⊢
 have s3:ao (il xs) (some ((k:Int)+1)) none=il (xs.drop (k+1)):=(slice_lo (k:=k+1) (by rw [av];omega)).trans List.map_drop.symm
 refine toC (comp_r (src:=.list 4) (σ0:=[.list (il xs),.list (ao (il xs) none (some k)),.list (sl P),.list (sl P).reverse,.list (ao (il xs) (some ((k:Int)+1)) none)]) AV.int (xs.drop (k+1)) (λc=>some (.str (am c).jt)) (jt_sl _) (by exact Nat.lt_succ_self 4) (λacc j=>congrArg (λl:List AV=>some l[j]?) s3) (by rw [List.length_drop];unfold SZ;omega) (λj c acc Ψ hc hΨ=>?_) ?_)
 ·exact bO (row_ok (hx c (List.mem_of_mem_drop (List.mem_of_getElem? hc)))) hΨ
 have l2:((xs.drop (k+1)).map λc=>(am c).jt).length<55:=by rw [List.length_map,List.length_drop];omega
 generalize ((xs.drop (k+1)).map λc=>(am c).jt)=N at l2 hR ⊢
 refine toC (comp_r (src:=.enum 3) (σ0:=[.list (il xs),.list (ao (il xs) none (some k)),.list (sl P),.list (sl P).reverse,.list (ao (il xs) (some ((k:Int)+1)) none),.list (sl N)]) (λq:Nat×Nat=>AV.tup [.int q.2,.str q.1]) P.reverse.zipIdx (λq=>if (q.1 != 31)=true then some (.str q.1) else none) (r:=sl (P.reverse.filter (λJ=>J != 31))) ((fm_z (λk=>if (k != 31)=true then some (AV.str k) else none) _).trans (fm_f AV.str _ _)) (by show (3:Nat)<6;decide)
  (λacc j=>congrArg some ((congrArg (λl:List AV=>l[j]?.map λx=>AV.tup [.int j,x]) List.map_reverse.symm).trans (zi_at AV.str P.reverse j))) (by rw [List.length_zipIdx,List.length_reverse];unfold SZ;omega) (λj c acc Ψ hc hΨ=>?_) ?_)
 ·exact iQ hΨ
 refine toC (comp_r (src:=.list 5) (σ0:=[.list (il xs),.list (ao (il xs) none (some k)),.list (sl P),.list (sl P).reverse,.list (ao (il xs) (some ((k:Int)+1)) none),.list (sl N),.list (sl (P.reverse.filter (λJ=>J != 31))),.list (ao (sl (P.reverse.filter (λJ=>J != 31))) none (some 1))]) AV.str N (λk=>if (k != 31)=true then some (.str k) else none) (fm_f AV.str _ _) (by show (5:Nat)<8;decide) (λacc j=>rfl) (by unfold SZ;omega) (λj c acc Ψ hc hΨ=>?_) ?_)
 ·exact iQ hΨ
 refine bO (idx_l rfl (x_at.trans (il_at hk))) ?_
 have fin:∀{b:Bool} {g:St},b=R->(AV.bool b=.bool R/\∃g',[.list (il xs)]++g=[.list (il xs)]++g'):=λh=>⟨congrArg AV.bool h,_,rfl⟩
 cases h4:decide (xs.getD k 0=8204) with
 | false=>rw [h4] at hR;exact iF (b1F h4) (fin (h4.trans hR))
 | true=>
  refine iT (b1T h4) (bO (near_0 rfl rfl) ?_)
  rw [h4] at hR
  rcases near_one P.reverse with hP | ⟨a,hP⟩
  ·rw [hP] at hR ⊢;exact fin hR
  ·rw [any_one hP] at hR
   rw [hP]
   refine bO (near_1 rfl hP) ?_
   cases ha:decide (a∈[12,8]) with
   | false=>rw [ha] at hR;exact iF (b1F (in2.trans ha)) (fin ((in2.trans ha).trans hR))
   | true=>
    rw [ha] at hR
    refine iT (b1T (in2.trans ha)) (bO (near_0 rfl rfl) ?_)
    rcases near_one N with hN | ⟨b,hN⟩
    ·rw [hN] at hR ⊢;exact fin hR
    ·rw [any_one hN] at hR
     rw [hN]
     exact bO (near_1 rfl hN) (fin (in2.trans hR))
theorem spec_jn {xs:List Int} {k:Nat} (hx:∀c∈xs,c∈aB) (hl:xs.length<55) (hk:k<xs.length):aa C 55 [.ref 0,.int k] [.list (il xs)] λv σ=>v=.bool (jnF xs k)/\∃g,σ=[.list (il xs)]++g:=by
 refine go hτ hF rfl rfl (toSs ?_)
 have e0:=jn_tail hτ hF hB hx hl hk rfl
 by_cases h0:0<k
 ·have e1:((k:Int)-1)=((k-1:Nat):Int):=by omega
  have hc:xs.getD (k-1) 0∈aB:=by
   rw [List.getD_eq_getElem?_getD,List.getElem?_eq_getElem (by omega)]
   exact hx _ (List.getElem_mem _)
  have ix:idxA (tb sc) [.list (il xs)] (.ref 0) (.int ((k:Int)-1))=some (.int (xs.getD (k-1) 0)):=idx_l rfl (by rw [e1];exact x_at.trans (il_at (by omega)))
  cases h9:decide ((am (xs.getD (k-1) 0)).cc=9) with
  | true=>exact aC (t:=decide ((am (xs.getD (k-1) 0)).cc=9)) (iT (b1T (decide_eq_true (Int.natCast_pos.mpr h0))) (bO ix (bO (row_ok hc) ⟨rfl,rfl⟩))) h9 ⟨congrArg AV.bool (show true=(decide (0<k)&&decide ((am (xs.getD (k-1) 0)).cc=9)||_) by rw [h9,decide_eq_true h0];rfl),_,rfl⟩
  | false=>
   refine al (t:=decide ((am (xs.getD (k-1) 0)).cc=9)) (iT (b1T (decide_eq_true (Int.natCast_pos.mpr h0))) (bO ix (bO (row_ok hc) ⟨rfl,rfl⟩))) h9 ?_
   exact jn_tail hτ hF hB hx hl hk (show _=(decide (0<k)&&decide ((am (xs.getD (k-1) 0)).cc=9)||_) by rw [h9,Bool.and_false];rfl)
 ·have h0':decide ((0:Int)<k)=false:=decide_eq_false λq=>h0 (Int.natCast_pos.mp q)
  refine al (t:=decide ((0:Int)<k)) (iF (b1F h0') ⟨rfl,rfl⟩) h0' ?_
  exact jn_tail hτ hF hB hx hl hk (show _=(decide (0<k)&&decide ((am (xs.getD (k-1) 0)).cc=9)||_) by rw [decide_eq_false h0];rfl)
theorem call_jn {σ:St} {i k:Nat} {xs:List Int} {Φ:AV->St->Prop} (hi:σ[i]?=some (.list (il xs))) (hx:∀c∈xs,c∈aB) (hl:xs.length<55) (hk:k<xs.length) (h:Φ (.bool (jnF xs k)) σ):aa C 55 [.ref i,.int k] σ Φ:=by
 have B:=ai hB ⟨sc,hτ⟩
 refine lift_valq B (σb:=[.list (il xs)]) [i] ?_ ⟨(ag _ _).trans hi.symm,trivial⟩ (args2:=[.ref 0,.int k]) rfl rfl (aa.post B (spec_jn hτ hF hB hx hl hk) ?_) h
 ·exact Bool.and_eq_true_iff.mpr ⟨rfl,Bool.and_eq_true_iff.mpr ⟨Nat.blt_eq.mpr (List.getElem?_eq_some_iff.mp hi).1,rfl⟩⟩
 ·rintro v σ ⟨rfl,g,rfl⟩
  exact ⟨.bool (jnF xs k),[.list (il xs)],vw_q [0] (Bool.and_eq_true_iff.mpr ⟨rfl,rfl⟩) rfl ⟨ag _ _,trivial⟩ ⟨rfl,trivial⟩,rfl,rfl⟩
end
theorem comp_g {β:Type} {src:Src} {t:T} {step:Lo->St->(Option AV->St->Prop)->Prop} {m:Lo} {σ0:St} {Φ:AV->St->Prop} (mk:β->AV) (nm:β->Nat) (p:β->Bool) (l:List β) {r:List Nat} (hr:(l.filter p).map nm=r) (hp:pinS σ0.length src) (hs:∀acc j,itemAt (σ0++[.list acc]) src j=some (l.map mk)[j]?) (hlen:l.length<SZ)
  (hcl:∀(a:List Nat) (g:St),Vw (σ0.length+1) [] (σ0++.list (sl a)::g) [] (σ0++[.list (sl a)]))
  (hstep:∀(j:Nat) (c:β) (a:List Nat) (Ψ:Option AV->St->Prop),l[j]?=some c->(∀b g,p c=b->Ψ (cond b (some (.str (nm c))) none) (σ0++.list (sl a)::g))->match aw t (mk c) m with
   | none=>False
   | some m'=>step m' (σ0++[.list (sl a)]) Ψ)
  (h:Φ (.ref σ0.length) (σ0++[.list (sl r)])):CompP src t step m (σ0++[.list []]) σ0.length Φ:=by
 subst hr
 refine ⟨l.length,λj σ=>j<=l.length/\σ=σ0++[.list (sl (((l.take j).filter p).map nm))],hp,⟨Nat.zero_le _,rfl⟩,?_⟩
 rintro j σ ⟨hj,rfl⟩
 refine ⟨hj,?_⟩
 rw [hs,List.getElem?_map]
 cases hx:l[j]? with
 | none=>
  rw [List.take_of_length_le (List.getElem?_eq_none_iff.mp hx)]
  exact h
 | some x=>
  have hlt:=(List.getElem?_eq_some_iff.mp hx).1
  have htk:l.take (j+1)=l.take j++[x]:=by rw [List.take_add_one,hx];rfl
  have hle:(sl (((l.take j).filter p).map nm)).length<SZ:=by
   rw [sl_len,List.length_map]
   exact Nat.lt_of_le_of_lt (Nat.le_trans (List.length_filter_le _ _) (List.length_take_le' _ _)) hlen
  have q:=hstep j x (((l.take j).filter p).map nm) (λo σ'=>match o with
    | none=>∃σ2,Vw (σ0.length+1) [] σ' [] σ2/\(j+1<=l.length/\σ2=σ0++[.list (sl (((l.take (j+1)).filter p).map nm))])
    | some y=>∃xs,σ'[σ0.length]?=some (.list xs)/\xs.length<SZ/\∃σ2,Vw (σ0.length+1) [] (σ'.set σ0.length (.list (xs++[y]))) [] σ2/\(j+1<=l.length/\σ2=σ0++[.list (sl (((l.take (j+1)).filter p).map nm))])) hx (λb g hb=>by
   rw [htk,List.filter_append,List.map_append]
   cases b with
   | false=>exact ⟨_,hcl _ g,hlt,by simp [hb]⟩
   | true=>exact ⟨_,by simp,hle,_,(by rw [List.set_append_right _ _ (Nat.le_refl _),Nat.sub_self,List.set_cons_zero,<-show sl (((l.take j).filter p).map nm++[nm x])=_++[AV.str (nm x)] from sl_app _ _];exact hcl _ g),hlt,by simp [hb]⟩)
  show match aw t (mk x) m with | none=>False | some m'=>_
  revert q
  cases aw t (mk x) m with
  | none=>exact id
  | some m'=>exact id
theorem iG {b:Bool} {Ψ:Option AV->St->Prop} {x y:Option AV} {σ:St} (h:∀b',b=b'->Ψ (cond b' x y) σ):ifK b (Ψ x σ) (Ψ y σ):=by cases b<;>exact h _ rfl
theorem eq_nil {sc:List Int} {σ:St} {i j:Nat} {xs:List AV} (hi:σ[i]?=some (.list xs)) (hj:σ[j]?=some (.list [])):cmpA (tb sc) σ .eq (.ref i) (.ref j)=some xs.isEmpty:=by
 refine (eqS_l (n:=59) (own_i hi) (lst_i hj)).trans ?_
 cases xs<;>rfl
theorem ne_nil {sc:List Int} {σ:St} {i j:Nat} {xs:List AV} (hi:σ[i]?=some (.list xs)) (hj:σ[j]?=some (.list [])):cmpA (tb sc) σ .ne (.ref i) (.ref j)=some (!xs.isEmpty):=congrArg (Option.map (λJ=>!J)) (eq_nil (sc:=sc) hi hj)
theorem any_ne {β:Type} (f:Nat->β) (p:Nat->Bool):∀l:List Nat,(!((l.filter p).map f).isEmpty)=l.any p:=λω=>match ω with
 | []=>rfl
 | k::l=>by
  rw [List.filter_cons,List.any_cons,<-any_ne f p l]
  cases p k<;>rfl
noncomputable def keepF:List Nat->List Nat:=λω=>match ω with
 | []=>[]
 | k::r=>if (k != 21)||r.any (λJ=>J != 21) then k::keepF r else keepF r
noncomputable def nearS:List Nat:=[9,10,5,11,24,3,21]
noncomputable def outF (ok:List Nat) (ks:List Nat):List Nat:=ks.filter λk=>!decide (k∈nearS++ok)
noncomputable def twF (ks:List Nat):Bool:=
 if ks.headD 0=12 then decide (outF [12] ks=[])&&decide ((keepF ks).getLastD 0∈[12,9])
 else if ks.headD 0∉[30,1]\/([9,2].filter λk=>decide (k∈ks)).length=2 then false
 else decide (outF [30,1,2] ks=[])&&decide ((keepF ks).getLastD 0∈[30,1,9,2])
theorem keepF_ne {k:Nat} {r:List Nat} (h:k≠21):∃w,(keepF (k::r)).getLast?=some w/\(keepF (k::r)).getLastD 0=w:=by
 unfold keepF
 rw [if_pos (by simp [h])]
 refine ⟨(keepF r).getLastD k,?_,?_⟩
 ·rw [List.getLast?_cons]
  cases keepF r<;>simp
 ·cases h:keepF r<;>simp [List.getLast?_eq_some_getLast]
theorem fm_keep (ks:List Nat):∀(r:List Nat) (j:Nat),ks.drop j=r->((r.zipIdx j).filter λq=>(q.1 != 21)||(ks.drop q.2).any (λJ=>J != 21)).map Prod.fst=keepF r:=λω ψ χ=>match ω,ψ,χ with
 | [],J,ζ=>rfl
 | k::r,j,h=>by
  have h1:ks.drop (j+1)=r:=by rw [<-List.drop_drop,h];rfl
  have e:((k != 21)||(ks.drop j).any (λJ=>J != 21))=((k != 21)||r.any (λJ=>J != 21)):=by
   rw [h,List.any_cons];cases (k != 21)<;>rfl
  rw [List.zipIdx_cons,List.filter_cons,e]
  unfold keepF
  cases (k != 21)||r.any (λJ=>J != 21) with
  | true=>exact congrArg (λJ=>k::J) (fm_keep ks r (j+1) h1)
  | false=>exact fm_keep ks r (j+1) h1
noncomputable def nokB (ok:List Nat) (k:Nat):Bool:=!((memS k (sl (nearS++ok))).getD false)
theorem out_nok (ok ks:List Nat):(ks.filter (nokB ok)).map id=outF ok ks:=by
 rw [List.map_id];unfold outF
 congr 1;funext k;exact congrArg (λo=>!(Option.getD o false)) (memS_sl k _)
theorem in4 {a x y z w:Nat}:(decide (x=a)||(decide (y=a)||(decide (z=a)||(decide (w=a)||false))))=decide (a∈[x,y,z,w]):=by
 rw [<-Option.some_inj,<-memS_sl a [x,y,z,w]];rfl
theorem emp_eq {l:List Nat}:(sl l).isEmpty=decide (l=[]):=by cases l<;>rfl
section
variable {C:Cfg} {sc:List Int} (hτ:C.τ=tb sc) (hF:Snd C) (hB:C.BX=BXof C)
include hτ hF hB
theorem tw_keep {ks:List Nat} (hl:ks.length<55) {j c:Nat} (hj:j<ks.length) {a:List Nat} {Ψ:Option AV->St->Prop} (hΨ:∀b g,((c != 21)||(ks.drop j).any (λJ=>J != 21))=b->Ψ (cond b (some (.str c)) none) (.list (sl ks)::.list (sl a)::g)):
  evE (tb sc) (vcA C 54) (.bop false (.cons (.cmp (.var 5) (.cons .ne (.lit (.str 21)) .nil)) (.cons (.cmp (.comp (.lit (.int 1)) (.v 6) (.plain (.slc (.var 0) (.some (.var 4)) .none .none)) (.cons (.cmp (.var 6) (.cons .ne (.lit (.str 21)) .nil)) .nil) [6]) (.cons .ne (.list .nil) .nil)) .nil)))
   [some (.ref 0),none,none,none,some (.int j),some (.str c),none,none,none,none] [.list (sl ks),.list (sl a)] λv σ=>truK (vcA C 54) v λb=>ifK b (Ψ (some (.str c)) σ) (Ψ none σ):=by
 have s3:ao (sl ks) (some (j:Int)) none=sl (ks.drop j):=(slice_lo (by rw [sl_len];omega)).trans List.map_drop.symm
 cases h21:(c != 21) with
 | true=>exact iF (b0T h21) (iT h21 (hΨ true [] (by rw [h21];rfl)))
 | false=>
  refine iT (b0F h21) (toC (comp_r (src:=.list 2) (σ0:=[.list (sl ks),.list (sl a),.list (ao (sl ks) (some (j:Int)) none)]) AV.str (ks.drop j) (λk=>if (k != 21)=true then some (.int 1) else none) (fm_f (λJ=>AV.int 1) _ _) (by show (2:Nat)<3;decide) (λacc i=>congrArg (λl:List AV=>some l[i]?) s3) (by rw [List.length_drop];unfold SZ;omega) (λj c acc Ψ hc hΨ=>iQ hΨ) (bO (ne_nil rfl rfl) ?_)))
  rw [any_ne]
  exact iG λb hb=>hΨ b _ (by rw [h21];exact hb)
theorem spec_tw {k0:Nat} {r:List Nat} (hl:(k0::r).length<55):aa C 54 [.ref 0] [.list (sl (k0::r))] λv σ=>v=.bool (twF (k0::r))/\∃g,σ=[.list (sl (k0::r))]++g:=by
 refine go hτ hF rfl rfl (toC (comp_g (src:=.enum 0) (σ0:=[.list (sl (k0::r))]) (λq:Nat×Nat=>AV.tup [.int q.2,.str q.1]) Prod.fst (λq=>(q.1 != 21)||((k0::r).drop q.2).any (λJ=>J != 21)) (k0::r).zipIdx (fm_keep (k0::r) (k0::r) 0 rfl) (by show (0:Nat)<1;decide)
  (λacc j=>congrArg some (zi_at AV.str (k0::r) j)) (by rw [List.length_zipIdx];unfold SZ;omega) (λa g=>vw_q [0,1] rfl rfl ⟨aI _ _,aI _ _,trivial⟩ trivial) (λj c a Ψ hc hΨ=>?_) ?_))
 ·rw [List.getElem?_zipIdx,Nat.zero_add] at hc
  obtain ⟨c,hc',rfl⟩:=Option.map_eq_some_iff.mp hc
  exact tw_keep hτ hF hB hl (List.getElem?_eq_some_iff.mp hc').1 hΨ
 have e0:twF (k0::r)=if k0=12 then decide (outF [12] (k0::r)=[])&&decide ((keepF (k0::r)).getLastD 0∈[12,9]) else if k0∉[30,1]\/([9,2].filter λk=>decide (k∈k0::r)).length=2 then false
  else decide (outF [30,1,2] (k0::r)=[])&&decide ((keepF (k0::r)).getLastD 0∈[30,1,9,2]):=rfl
 have hne:k0≠21->∃w,(keepF (k0::r)).getLast?=some w/\(keepF (k0::r)).getLastD 0=w:=keepF_ne
 generalize twF (k0::r)=R at e0
 generalize keepF (k0::r)=KP at e0 hne ⊢
 refine toC (comp_r (src:=.fix (sl [9,2])) (σ0:=[.list (sl (k0::r)),.list (sl KP),.list (sl nearS)]) AV.str [9,2] (λk=>if decide (k∈k0::r)=true then some (.str k) else none) (fm_f AV.str _ _) ⟨_,rnAs_sl [] [9,2]⟩ (λacc j=>rfl) (by decide) (λj c acc Ψ hc hΨ=>?_) ?_)
 ·exact bO (memS_sl c (k0::r)) (iQ hΨ)
 generalize ([9,2].filter λk=>decide (k∈k0::r))=BB at e0 ⊢
 have fin:∀{b:Bool} {g:St},b=R->(AV.bool b=.bool R/\∃g',[.list (sl (k0::r))]++g=[.list (sl (k0::r))]++g'):=λh=>⟨congrArg AV.bool h,_,rfl⟩
 have cl:∀(a:List Nat) (g:St),Vw 5 [] ([.list (sl (k0::r)),.list (sl KP),.list (sl nearS),.list (sl BB)]++.list (sl a)::g) [] ([.list (sl (k0::r)),.list (sl KP),.list (sl nearS),.list (sl BB)]++[.list (sl a)]):=
  λa g=>vw_q [0,1,2,3,4] rfl rfl ⟨aI _ _,aI _ _,aI _ _,aI _ _,aI _ _,trivial⟩ trivial
 by_cases h12:k0=12
 ·rw [if_pos h12] at e0
  obtain ⟨w,hw1,hw2⟩:=hne λq=>by rw [h12] at q;cases q
  rw [hw2] at e0
  refine aC (t:=decide (k0=12)) ⟨rfl,rfl⟩ (decide_eq_true h12) (toC (comp_g (src:=.list 0) AV.str id (nokB [12]) (k0::r) (out_nok _ _) (by show (0:Nat)<4;decide) (λacc j=>rfl) (by unfold SZ;omega) cl (λj c a Ψ hc hΨ=>iG λb hb=>hΨ b _ hb) (bO (eq_nil rfl rfl) ?_)))
  rw [emp_eq]
  cases hO:decide (outF [12] (k0::r)=[]) with
  | false=>rw [hO] at e0;exact fin e0.symm
  | true=>rw [hO] at e0;exact (bO (idx_l rfl (idx_last_sl hw1)) (fin (in2.trans e0.symm)))
 ·rw [if_neg h12] at e0
  refine al (t:=decide (k0=12)) ⟨rfl,rfl⟩ (decide_eq_false h12) ?_
  by_cases h30:k0∈[30,1]
  ·have hq:=in2.trans (decide_eq_true h30)
   obtain ⟨w,hw1,hw2⟩:=hne λq=>by rw [q] at h30;revert h30;decide
   rw [hw2] at e0
   by_cases h2:BB.length=2
   ·refine aC (t:=decide (((sl BB).length:Int)=2)) (iT (b0F (congrArg (λJ=>!J) hq)) ⟨rfl,rfl⟩) (decide_eq_true (by rw [sl_len,h2];rfl)) (fin (e0.trans (if_pos (.inr h2))).symm)
   ·rw [if_neg (by rintro (q | q);exact q h30;exact h2 q)] at e0
    refine al (t:=decide (((sl BB).length:Int)=2)) (iT (b0F (congrArg (λJ=>!J) hq)) ⟨rfl,rfl⟩) (decide_eq_false (by rw [sl_len];omega)) (toC (comp_g (src:=.list 0) AV.str id (nokB [30,1,2]) (k0::r) (out_nok _ _) (by show (0:Nat)<4;decide) (λacc j=>rfl) (by unfold SZ;omega) cl (λj c a Ψ hc hΨ=>iG λb hb=>hΨ b _ hb) (bO (eq_nil rfl rfl) ?_)))
    rw [emp_eq]
    cases hO:decide (outF [30,1,2] (k0::r)=[]) with
    | false=>rw [hO] at e0;exact fin e0.symm
    | true=>rw [hO] at e0;exact (bO (idx_l rfl (idx_last_sl hw1)) (fin (in4.trans e0.symm)))
  ·have hq:=in2.trans (decide_eq_false h30)
   refine aC (iF (b0T (congrArg (λJ=>!J) hq)) ⟨rfl,rfl⟩) (congrArg (λJ=>!J) hq) (fin (e0.trans (if_pos (.inl h30))).symm)
theorem call_tw {σ:St} {i:Nat} {ks:List Nat} {Φ:AV->St->Prop} (hi:σ[i]?=some (.list (sl ks))) (hne:ks≠[]) (hl:ks.length<55) (h:Φ (.bool (twF ks)) σ):aa C 54 [.ref i] σ Φ:=by
 have B:=ai hB ⟨sc,hτ⟩
 obtain _ | ⟨k0,r⟩:=ks
 ·exact absurd rfl hne
 refine lift_valq B (σb:=[.list (sl (k0::r))]) [i] ?_ ⟨(aI _ _).trans hi.symm,trivial⟩ (args2:=[.ref 0]) rfl rfl (aa.post B (spec_tw hτ hF hB hl) ?_) h
 ·exact Bool.and_eq_true_iff.mpr ⟨rfl,Bool.and_eq_true_iff.mpr ⟨Nat.blt_eq.mpr (List.getElem?_eq_some_iff.mp hi).1,rfl⟩⟩
 ·rintro v σ ⟨rfl,g,rfl⟩
  exact ⟨.bool (twF (k0::r)),[.list (sl (k0::r))],vw_q [0] rfl rfl ⟨aI _ _,trivial⟩ ⟨rfl,trivial⟩,rfl,rfl⟩
end
noncomputable def subW (tr:Bool) (o:Int):List Int:=if tr&&decide ((am o).st=46) then (am o).ot else [o]
noncomputable def mapW (tr:Bool) (c:Int):List Int:=
 if (am c).st=71\/((am c).st=46/\tr=true) then (am c).ot.flatMap (subW tr) else if (am c).st≠64 then [c] else []
noncomputable def lawL (page:List Int) (tr:Bool):List Int:=page.flatMap (mapW tr)
noncomputable def disF (page:List Int):Bool:=page.any λc=>decide ((am c).st=48)
noncomputable abbrev invF (x y:Int):Prop:=0<(am y).cc/\(am y).cc<(am x).cc
noncomputable def goF (x:Int):List Int->List Int:=λω=>match ω with
 | []=>[x]
 | y::r=>if invF x y then y::goF x r else x::goF y r
noncomputable def pasF:List Int->List Int:=λω=>match ω with
 | []=>[]
 | x::r=>goF x r
noncomputable def itF:Nat->List Int->List Int:=λω ψ=>match ω,ψ with
 | 0,l=>l
 | n+1,l=>pasF (itF n l)
noncomputable def bubF (l:List Int):List Int:=itF l.length l
theorem goF_len:∀(r:List Int) (x:Int),(goF x r).length=r.length+1:=λω ψ=>match ω,ψ with
 | [],x=>rfl
 | y::r,x=>by
  unfold goF
  split<;>simp [goF_len r]
theorem pasF_len (l:List Int):(pasF l).length=l.length:=by
 cases l with
 | nil=>rfl
 | cons x r=>exact goF_len r x
theorem itF_len (n:Nat) (l:List Int):(itF n l).length=l.length:=by
 induction n with
 | zero=>rfl
 | succ n ih=>rw [itF,pasF_len,ih]
theorem goF_mem:∀(r:List Int) (x c:Int),c∈goF x r↔c∈x::r:=λω ψ χ=>match ω,ψ,χ with
 | [],x,c=>Iff.rfl
 | y::r,x,c=>by
  unfold goF
  split
  ·rw [List.mem_cons,goF_mem r x c];simp only [List.mem_cons];constructor
   ·rintro (h | h | h)<;>simp [h]
   ·rintro (h | h | h)<;>simp [h]
  ·rw [List.mem_cons,goF_mem r y c];simp only [List.mem_cons]
theorem pasF_mem (l:List Int) (c:Int):c∈pasF l↔c∈l:=by
 cases l with
 | nil=>exact Iff.rfl
 | cons x r=>exact goF_mem r x c
theorem itF_mem (n:Nat) (l:List Int) (c:Int):c∈itF n l↔c∈l:=by
 induction n with
 | zero=>exact Iff.rfl
 | succ n ih=>rw [itF,pasF_mem,ih]
theorem ot_ok {c:Int} (h:c∈aB):(am c).ot.length<=2/\∀o∈(am c).ot,o∈aB/\(am o).ot.length<=2/\∀q∈(am o).ot,q∈aB:=by
 have:aB.all (λc=>decide ((am c).ot.length<=2)&&(am c).ot.all λo=>decide (o∈aB)&&decide ((am o).ot.length<=2)&&(am o).ot.all λq=>decide (q∈aB))=true:=by decide +kernel
 have h1:=List.all_eq_true.mp this c h
 simp only [Bool.and_eq_true,decide_eq_true_eq,List.all_eq_true] at h1
 exact ⟨h1.1,λo ho=>⟨(h1.2 o ho).1.1,(h1.2 o ho).1.2,(h1.2 o ho).2⟩⟩
theorem mapW_ok {c:Int} (h:c∈aB) (tr:Bool):(mapW tr c).length<=2/\∀d∈mapW tr c,d∈aB:=by
 have:[true,false].all (λtr=>aB.all λc=>decide ((mapW tr c).length<=2)&&(mapW tr c).all λd=>decide (d∈aB))=true:=by decide +kernel
 have h1:=List.all_eq_true.mp (List.all_eq_true.mp this tr (by cases tr<;>simp)) c h
 simp only [Bool.and_eq_true,decide_eq_true_eq,List.all_eq_true] at h1
 exact h1
theorem lawL_mem {xs:List Int} {tr:Bool} (hx:∀c∈xs,c∈aB):∀c∈lawL xs tr,c∈aB:=by
 intro c hc
 obtain ⟨d,h1,h2⟩:=List.mem_flatMap.mp hc
 exact (mapW_ok (hx d h1) tr).2 c h2
theorem lawL_len {tr:Bool}:∀{xs:List Int},(∀c∈xs,c∈aB)->(lawL xs tr).length<=2*xs.length:=@λω=>@λψ=>match ω,ψ with
 | [],J=>by simp [lawL]
 | c::xs,h=>by
  have h1:=(mapW_ok (h c (List.mem_cons_self ..)) tr).1
  have h2:=lawL_len (tr:=tr) λd hd=>h d (List.mem_cons_of_mem c hd)
  simp only [lawL,List.flatMap_cons,List.length_append,List.length_cons] at h2 ⊢
  omega
noncomputable def rgA (a:Int) (n:Nat):List AV:=(List.range n).map λ(i:Nat)=>AV.int (a+(i:Int))
theorem rgA_at (a:Int) (n j:Nat):(if j<n then some (AV.int (a+j)) else none)=(rgA a n)[j]?:=by
 unfold rgA
 split
 ·rename_i h;simp [h]
 ·rename_i h;simp [h]
noncomputable def wd (b:Bool):List (Nat×AV):=if b then [(48,.bool true)] else []
theorem put_wd (b:Bool):putA 48 (.bool true) (wd b)=wd true:=by cases b<;>rfl
theorem for_r {C:Cfg} {d:Nat} {τ:Tb} {γ:Type} {p:Nat} {a:Int} {n x:Nat} {b:Ss} {m:Lo} {σ:St} {Φ:Fl->Lo->St->Prop} (p':Nat) (M:γ->Nat->Lo) (S:γ->Nat->St) (I:γ->Nat->Prop) (hpp:p<=p') (g0:γ) (hm:m=M g0 0) (hσ:σ=S g0 0) (h0:I g0 0) (hl:∀g j,x<(M g j).length)
  (step:∀(j:Nat) (g:γ),I g j->j<n->aA τ (vcA C d) b p' ((M g j).set x (some (.int (a+j)))) (S g j) λfl m'' σ'=>match fl with
    | .ret v=>Φ (.ret v) m'' σ'
    | J=>∃g',I g' (j+1)/\Vw p' m'' σ' (M g' (j+1)) (S g' (j+1)))
  (hend:∀g,I g n->Φ .next (M g n) (S g n)):ForP p (.rng a n) (.v x) (λp m σ k=>aA τ (vcA C d) b p m σ k) m σ Φ:=by
 refine for_l (λi:Nat=>AV.int (a+i)) (List.range n) p' M S I hpp trivial (λg j=>congrArg some (rgA_at a n j)) g0 hm hσ h0 (λj c g hI hc hj=>?_) λg hI=>?_
 ·rw [List.length_range] at hj
  rw [List.getElem?_range hj] at hc
  cases hc
  rw [show aw (.v x) _ _=some _ from if_pos (hl g j)]
  exact step j g hI hj
 ·rw [List.length_range] at hI ⊢;exact hend g hI
theorem sub_len {tr:Bool}:∀{l:List Int},(∀q∈l,(am q).ot.length<=2)->(l.flatMap (subW tr)).length<=2*l.length:=@λω=>@λψ=>match ω,ψ with
 | [],J=>Nat.zero_le _
 | a::l,h=>by
  have h2:=sub_len (tr:=tr) λq hq=>h q (List.mem_cons_of_mem a hq)
  have h1:(subW tr a).length<=2:=by
   unfold subW
   split
   ·exact h a (List.mem_cons_self ..)
   ·exact Nat.le_succ 1
  rw [List.flatMap_cons,List.length_append,List.length_cons]
  omega
section
variable {C:Cfg} {sc:List Int} (hτ:C.τ=tb sc) (hF:Snd C) (hB:C.BX=BXof C)
include hτ hF hB
theorem lm_loop {page:List Int} {tr:Bool} {c:Int} {a9 a10:Option AV} {fs:List (Nat×AV)} {L:List Int} {K:Fl->Lo->St->Prop} {st:Nat} {ot:List Int} (o1:ot.length<=2) (o2:∀o∈ot,o∈aB/\(am o).ot.length<=2) (hL:L.length<60)
  (hK:∀d e,K .next [some (.ref 0),some (.bool tr),some (.ref 1),some (.ref 2),some (.int c),none,none,some (.str st),some (.tup (il ot)),d,e] [.list (il page),.sdict fs,.list (il (L++ot.flatMap (subW tr)))]):
  aA (tb sc) (vcA C 53) (thenOf (nthS 2 (bodyOf (nthS 1 f53.body)))) 3 [some (.ref 0),some (.bool tr),some (.ref 1),some (.ref 2),some (.int c),none,none,some (.str st),some (.tup (il ot)),a9,a10] [.list (il page),.sdict fs,.list (il L)] K:=by
 refine toF (for_il ot 3 (λ(g:Option AV×Option AV) J=>[some (.ref 0),some (.bool tr),some (.ref 1),some (.ref 2),some (.int c),none,none,some (.str st),some (.tup (il ot)),g.1,g.2]) (λJ j=>[.list (il page),.sdict fs,.list (il (L++(ot.take j).flatMap (subW tr)))]) (λJ J=>True)
  (Nat.le_refl 3) ⟨_,rnAs_il [] ot⟩ (λJ J=>rfl) (a9,a10) rfl (by rw [List.take_zero,List.flatMap_nil,List.append_nil]) trivial (λJ J=>odT rfl) (λj o g J ho hj=>?_) λg J=>?_)
 ·obtain ⟨p1,p2⟩:=o2 o (List.mem_of_getElem? ho)
  have hll:((ot.take j).flatMap (subW tr)).length<=2*j:=Nat.le_trans (sub_len λq hq=>(o2 q (List.mem_of_mem_take hq)).2) (by rw [List.length_take];omega)
  have htk:L++(ot.take (j+1)).flatMap (subW tr)=(L++(ot.take j).flatMap (subW tr))++subW tr o:=by
   rw [List.take_add_one,ho,List.flatMap_append,List.append_assoc];exact congrArg (λl=>L++(_++l)) (List.append_nil _)
  rw [htk]
  have hlen:(L++(ot.take j).flatMap (subW tr)).length<70:=by rw [List.length_append];omega
  generalize L++(ot.take j).flatMap (subW tr)=M at hlen ⊢
  have last:∀{d:Option AV} {W:List Int},W=subW tr o->∃g':Option AV×Option AV,True/\Vw 3 [some (.ref 0),some (.bool tr),some (.ref 1),some (.ref 2),some (.int c),none,none,some (.str st),some (.tup (il ot)),some (.int o),d] [.list (il page),.sdict fs,.list (il M++il W)]
    [some (.ref 0),some (.bool tr),some (.ref 1),some (.ref 2),some (.int c),none,none,some (.str st),some (.tup (il ot)),g'.1,g'.2] [.list (il page),.sdict fs,.list (il (M++subW tr o))]:=by
   rintro d W rfl
   exact ⟨(_,_),trivial,.inl ⟨rfl,by rw [il_app]⟩⟩
  have sz:∀{W:List Int},W.length<=2->decide ((il M).length+(il W).length<=SZ)=true:=λh=>decide_eq_true (by rw [av,av];unfold SZ;omega)
  cases tr with
  | false=>exact bG (sz (W:=[o]) (Nat.le_succ 1)) (last (W:=[o]) rfl)
  | true=>
   refine bO (row_ok p1) ?_
   cases h46:decide ((am o).st=46) with
   | false=>exact iF h46 (bG (sz (W:=[o]) (Nat.le_succ 1)) (last (W:=[o]) (show _=if (true&&_)=true then _ else _ by rw [h46];rfl)))
   | true=>exact iT h46 (bO (row_ok p1) (bG (sz p2) (last (show _=if (true&&_)=true then _ else _ by rw [h46];rfl))))
 ·rw [List.take_length];exact hK _ _
theorem lm_tail {page:List Int} {tr:Bool} {c:Int} {a9 a10:Option AV} {fs:List (Nat×AV)} {L:List Int} {K:Fl->Lo->St->Prop} (hc:c∈aB) (hL:L.length<60)
  (hK:∀d e W,W=il (L++mapW tr c)->K .next [some (.ref 0),some (.bool tr),some (.ref 1),some (.ref 2),some (.int c),none,none,some (.str (am c).st),some (.tup (il (am c).ot)),d,e] [.list (il page),.sdict fs,.list W]):
  aA (tb sc) (vcA C 53) (aS 2 (bodyOf (nthS 1 f53.body))) 3 [some (.ref 0),some (.bool tr),some (.ref 1),some (.ref 2),some (.int c),none,none,some (.str (am c).st),some (.tup (il (am c).ot)),a9,a10] [.list (il page),.sdict fs,.list (il L)] K:=by
 obtain ⟨o1,o2⟩:=ot_ok hc
 have e0:mapW tr c=if (am c).st=71\/((am c).st=46/\tr=true) then (am c).ot.flatMap (subW tr) else if (am c).st≠64 then [c] else []:=rfl
 generalize (am c).st=st at *
 generalize (am c).ot=ot at *
 by_cases hd:st=71\/(st=46/\tr=true)
 ·rw [if_pos hd] at e0
  have lp:=lm_loop (C:=C) hτ hF hB (page:=page) (tr:=tr) (c:=c) (a9:=a9) (a10:=a10) (fs:=fs) (K:=λfl m σ=>match fl with
   | .next=>aA (tb sc) (vcA C 53) .nil 3 m σ K
   | fl=>K fl m σ) (st:=st) o1 (λo ho=>⟨(o2 o ho).1,(o2 o ho).2.1⟩) hL λd e=>hK d e _ (by rw [e0])
  by_cases h71:st=71
  ·exact aC (t:=decide (st=71)) (iF (b0T (decide_eq_true h71)) ⟨rfl,rfl⟩) (decide_eq_true h71) lp
  ·obtain ⟨h46,rfl⟩:=hd.resolve_left h71
   exact aC (t:=true) (iT (b0F (decide_eq_false h71)) (iT (b1T (decide_eq_true h46)) ⟨rfl,rfl⟩)) rfl lp
 ·rw [if_neg hd] at e0
  have h71:=decide_eq_false λq=>hd (.inl q)
  have els:aA (tb sc) (vcA C 53) (elseOf (nthS 2 (bodyOf (nthS 1 f53.body)))) 3 [some (.ref 0),some (.bool tr),some (.ref 1),some (.ref 2),some (.int c),none,none,some (.str st),some (.tup (il ot)),a9,a10] [.list (il page),.sdict fs,.list (il L)] λfl m σ=>match fl with
   | .next=>aA (tb sc) (vcA C 53) .nil 3 m σ K
   | fl=>K fl m σ:=by
   by_cases h64:st=64
   ·exact al (t:=!decide (st=64)) ⟨rfl,rfl⟩ (by rw [decide_eq_true h64];rfl) (hK _ _ _ (by rw [e0,if_neg λq=>q h64,List.append_nil]))
   ·exact aC (t:=!decide (st=64)) ⟨rfl,rfl⟩ (by rw [decide_eq_false h64];rfl) (bG (decide_eq_true (by rw [av];unfold SZ;omega)) (hK _ _ _ (by rw [e0,if_pos h64,il_app];rfl)))
  by_cases h46:st=46
  ·obtain rfl:tr=false:=by
    cases tr with
    | false=>rfl
    | true=>exact absurd (.inr ⟨h46,rfl⟩) hd
   exact S_ifF (t:=false) (iT (b0F h71) (iT (b1T (decide_eq_true h46)) ⟨rfl,rfl⟩)) rfl els
  ·exact S_ifF (t:=decide (st=46)) (iT (b0F h71) (iF (b1F (decide_eq_false h46)) ⟨rfl,rfl⟩)) (decide_eq_false h46) els
omit hτ hF hB in
theorem il_mid {E:List Int} {x:Int} {r:List Int} {k:Int} (hk:k=E.length):idxL (il (E++x::r)) k=some (.int x):=by
 rw [hk,x_at,il_get,List.getElem?_append_right (Nat.le_refl _),Nat.sub_self];rfl
omit hτ hF hB in
theorem il_mid2 {E:List Int} {x y:Int} {r:List Int} {k:Int} (hk:k=E.length+1):idxL (il (E++x::y::r)) k=some (.int y):=by
 rw [List.append_cons]
 exact il_mid (hk.trans (congrArg Int.ofNat (List.length_append (as:=E) (bs:=[x])).symm))
omit hτ hF hB in
theorem swap_il {E:List Int} {x y:Int} {r:List Int} {i j:Nat} (hi:i=E.length) (hj:j=E.length+1):((il (E++x::y::r)).set i (.int y)).set j (.int x)=il (E++y::x::r):=by
 subst hi hj
 rw [il_app,il_app,<-av E,List.set_append_right _ _ (Nat.le_refl _),Nat.sub_self,List.set_append_right _ _ (Nat.le_succ _),show (il E).length.succ-(il E).length=1 from Nat.add_sub_cancel_left (n:=(il E).length) (m:=1)]
 rfl
omit hτ hF hB in
theorem n1 (n:Nat):(1+(n:Int)-1)=n:=by omega
omit hτ hF hB in
theorem n2 (n:Nat):(1+(n:Int)).toNat=n+1:=by omega
omit hτ hF hB in
theorem n3 (n m:Nat):(0<=1+(n:Int)-1/\1+(n:Int)-1<((n+(m+1+1):Nat):Int))/\0<=1+(n:Int)/\1+(n:Int)<((n+(m+1+1):Nat):Int):=by omega
omit hτ hF hB in
theorem goF_nil {E R:List Int} {x:Int} {n:Nat} (h:n+R.length=n):E++goF x R=E++x::R:=by
 cases R with
 | nil=>rfl
 | cons y R=>exact absurd h (Nat.ne_of_gt (Nat.lt_add_of_pos_right (Nat.succ_pos _)))
omit hτ hF hB in
theorem swap_mem {E:List Int} {x y:Int} {r:List Int} {c:Int} (h:c∈E++y::x::r):c∈E++x::y::r:=(List.Perm.append_left E (List.Perm.swap x y r)).mem_iff.mp h
omit hτ hF hB in
theorem len_mid (E:List Int) (x y:Int) (r:List Int):(il (E++x::y::r)).length=E.length+(r.length+1+1):=(av _).trans List.length_append
noncomputable def lmM (tr:Bool) (v4 v5 k v7 v8 v9 v10:Option AV):Lo:=[some (.ref 0),some (.bool tr),some (.ref 1),some (.ref 2),v4,v5,k,v7,v8,v9,v10]
noncomputable def lmS (page:List Int) (D:Bool) (l:List AV):St:=[.list (il page),.sdict (wd D),.list l]
theorem lm_pass {page:List Int} {tr:Bool} {D:Bool} {v4 v5 v7 v8 v9 v10 k0:Option AV} {L:List Int} {x0:Int} {R0:List Int} {Φ:Fl->Lo->St->Prop} (hL:L=x0::R0) (hM:∀c∈x0::R0,c∈aB) (hl:R0.length<1000)
  (h:∀k,Φ .next (lmM tr v4 v5 (k) v7 v8 v9 v10) (lmS page D (il (goF x0 R0)))):
  aA (tb sc) (vcA C 53) (bodyOf (nthS 2 f53.body)) 3 (lmM tr v4 v5 (k0) v7 v8 v9 v10) (lmS page D (il L)) Φ:=by
 have hn:((il L).length:Int)=R0.length+1:=by rw [av,hL];rfl
 refine bG (decide_eq_true (by unfold SZ;omega)) (toF ?_)
 have en:(((il L).length:Int)-1).toNat=R0.length:=by omega
 rw [en]
 refine for_r 3 (λ(g:Option AV×List Int×Int×List Int) J=>(lmM tr v4 v5 (g.1) v7 v8 v9 v10)) (λg J=>(lmS page D (il (g.2.1++g.2.2.1::g.2.2.2))))
  (λg i=>g.2.1.length=i/\i+g.2.2.2.length=R0.length/\(∀c∈g.2.1++g.2.2.1::g.2.2.2,c∈aB)/\g.2.1++goF g.2.2.1 g.2.2.2=goF x0 R0) (Nat.le_refl 3) (k0,[],x0,R0) rfl (by rw [hL];rfl) ⟨rfl,Nat.zero_add _,hM,rfl⟩ (λJ J=>odT rfl) ?_ ?_
 ·rintro i ⟨k,E,x,R⟩ ⟨hE,hER,hmem,hgo⟩ hi
  dsimp only at hE hER hmem hgo
  subst hE
  obtain _ | ⟨y,R⟩:=R
  ·exact absurd hER (by rw [List.length_nil];omega)
  have g1:idxL (il (E++x::y::R)) (1+(E.length:Int))=some (.int y):=il_mid2 (Int.add_comm ..)
  have g0:idxL (il (E++x::y::R)) (1+(E.length:Int)-1)=some (.int x):=il_mid (n1 _)
  have ry:=row_ok (hmem y (List.mem_append_right _ (List.mem_cons_of_mem _ (List.mem_cons_self ..))))
  have rx:=row_ok (hmem x (List.mem_append_right _ (List.mem_cons_self ..)))
  have hR:E.length+1+R.length=R0.length:=(Nat.succ_add_eq_add_succ E.length R.length).trans hER
  have ends:∀{a b:Int} {W:List AV},W=il (E++a::b::R)->(∀c∈E++a::b::R,c∈aB)->goF x (y::R)=a::goF b R->∃g':Option AV×List Int×Int×List Int,(g'.2.1.length=E.length+1/\E.length+1+g'.2.2.2.length=R0.length/\(∀c∈g'.2.1++g'.2.2.1::g'.2.2.2,c∈aB)/\g'.2.1++goF g'.2.2.1 g'.2.2.2=goF x0 R0) /\
    Vw 3 (lmM tr v4 v5 (some (.int (1+(E.length:Int)))) v7 v8 v9 v10) (lmS page D W) (lmM tr v4 v5 (g'.1) v7 v8 v9 v10) (lmS page D (il (g'.2.1++g'.2.2.1::g'.2.2.2))):=by
   intro a b W hW hm hg
   have e:∀r:List Int,(E++[a])++r=E++a::r:=λr=>by rw [List.append_assoc];rfl
   exact ⟨(some (.int (1+(E.length:Int))),E++[a],b,R),⟨List.length_append,hR,by dsimp only;rw [e];exact hm,by dsimp only;rw [e,<-hg];exact hgo⟩,.inl ⟨rfl,by dsimp only;rw [hW,e]⟩⟩
  by_cases p1:0<(am y).cc
  ·by_cases p2:(am y).cc<(am x).cc
   ·refine aC (t:=decide ((am y).cc<(am x).cc)) (bO (idx_l rfl g1) (bO ry (iT (decide_eq_true p1) (bO (idx_l rfl g0) (bO rx ⟨rfl,rfl⟩))))) (decide_eq_true p2) (bO (idx_l rfl g1) (bO (idx_l rfl g0) (bG ?_ (bG ?_ ?_))))
    ·exact decide_eq_true (len_mid E x y R▸(n3 _ _).1)
    ·exact decide_eq_true (by dsimp only;rw [List.length_set,len_mid];exact (n3 _ _).2)
    ·exact ends (swap_il (congrArg Int.toNat (n1 _)) (n2 _)) (λc hc=>hmem c (swap_mem hc)) (if_pos ⟨p1,p2⟩)
   ·exact al (t:=decide ((am y).cc<(am x).cc)) (bO (idx_l rfl g1) (bO ry (iT (decide_eq_true p1) (bO (idx_l rfl g0) (bO rx ⟨rfl,rfl⟩))))) (decide_eq_false p2) (ends rfl hmem (if_neg λq=>p2 q.2))
  ·exact al (t:=false) (bO (idx_l rfl g1) (bO ry (iF (decide_eq_false p1) ⟨rfl,rfl⟩))) rfl (ends rfl hmem (if_neg λq=>p1 q.1))
 ·rintro ⟨k,E,x,R⟩ ⟨hE,hER,hmem,hgo⟩
  dsimp only at hE hER hmem hgo ⊢
  rw [(goF_nil hER).symm.trans hgo]
  exact h k
theorem lm_bub {page:List Int} {tr:Bool} {D:Bool} {v4 v7 v8 v9 v10:Option AV} {M:List Int} {Φ:Fl->Lo->St->Prop} (hM:∀c∈M,c∈aB) (hl:M.length<1000)
  (h:∀m,Φ (.ret (.ref 2)) m [.list (il page),.sdict (wd D),.list (il (bubF M))]):
  aA (tb sc) (vcA C 53) (aS 2 f53.body) 2 [some (.ref 0),some (.bool tr),some (.ref 1),some (.ref 2),v4,none,none,v7,v8,v9,v10] [.list (il page),.sdict (wd D),.list (il M)] Φ:=by
 unfold bubF at h
 refine bG (decide_eq_true (by rw [av];unfold SZ;omega)) (toF ?_)
 rw [av,Int.toNat_natCast]
 refine for_r 3 (λ(g:Option AV×Option AV) J=>[some (.ref 0),some (.bool tr),some (.ref 1),some (.ref 2),v4,g.1,g.2,v7,v8,v9,v10]) (λJ j=>[.list (il page),.sdict (wd D),.list (il (itF j M))])
  (λJ J=>True) (Nat.le_succ 2) (none,none) rfl rfl trivial (λJ J=>odT rfl) (λj g J hj=>?_) λg J=>h _
 have him:∀c∈itF j M,c∈aB:=λc hc=>hM c ((itF_mem j M c).mp hc)
 have hil:=itF_len j M
 have hp:itF (j+1) M=pasF (itF j M):=rfl
 rw [hp]
 generalize hL:itF j M=L at him hil ⊢
 obtain ⟨x,R,hxR⟩:∃x R,L=x::R:=by
  cases L with
  | nil=>rw [List.length_nil] at hil;omega
  | cons x R=>exact ⟨x,R,rfl⟩
 refine lm_pass hτ hF hB hxR (by rw [<-hxR];exact him) (by rw [hxR,List.length_cons] at hil;omega) λk=>⟨(_,k),trivial,.inl ⟨rfl,?_⟩⟩
 rw [hxR];rfl
theorem spec_lm {page:List Int} {tr:Bool} (hx:∀c∈page,c∈aB) (hl:page.length<25):aa C 53 [.ref 0,.bool tr,.ref 1] [.list (il page),.sdict []]
  λv σ=>v=.ref 2/\σ=[.list (il page),.sdict (wd (disF page)),.list (il (bubF (lawL page tr)))]:=by
 refine go hτ hF rfl rfl (toF ?_)
 refine for_il page 3 (λ(g:Option AV×Option AV×Option AV×Option AV×Option AV) J=>[some (.ref 0),some (.bool tr),some (.ref 1),some (.ref 2),g.1,none,none,g.2.1,g.2.2.1,g.2.2.2.1,g.2.2.2.2])
  (λJ j=>[.list (il page),.sdict (wd (disF (page.take j))),.list (il (lawL (page.take j) tr))]) (λJ J=>True) (Nat.le_succ 2) (pinL rfl) (λJ J=>rfl) (none,none,none,none,none) rfl rfl trivial (λJ J=>odT rfl) (λj c g J hc hj=>?_) λg J=>?_
 ·have hcm:=hx c (List.mem_of_getElem? hc)
  have htk:page.take (j+1)=page.take j++[c]:=by rw [List.take_add_one,hc];rfl
  have e1:lawL (page.take (j+1)) tr=lawL (page.take j) tr++mapW tr c:=by
   rw [htk];unfold lawL;rw [List.flatMap_append];exact congrArg (λJ=>_++J) (List.append_nil _)
  have e2:disF (page.take (j+1))=(disF (page.take j)||decide ((am c).st=48)):=by
   rw [htk];unfold disF;rw [List.any_append];exact congrArg (λJ=>_||J) (Bool.or_false _)
  have hll:(lawL (page.take j) tr).length<60:=by
   have:=lawL_len (tr:=tr) λq hq=>hx q (List.mem_of_mem_take (i:=j) hq)
   rw [List.length_take] at this
   omega
  rw [e1,e2]
  generalize lawL (page.take j) tr=L at hll ⊢
  generalize disF (page.take j)=D
  refine bO (row_ok hcm) ?_
  by_cases h48:(am c).st=48
  ·refine aC (t:=decide ((am c).st=48)) ⟨rfl,rfl⟩ (decide_eq_true h48) (bG (by cases D<;>rfl) (lm_tail hτ hF hB hcm hll λd e W hW=>⟨(_,_,_,d,e),trivial,.inl ⟨rfl,?_⟩⟩))
   rw [hW,decide_eq_true h48,Bool.or_true,put_wd]
  ·refine al (t:=decide ((am c).st=48)) ⟨rfl,rfl⟩ (decide_eq_false h48) (lm_tail hτ hF hB hcm hll λd e W hW=>⟨(_,_,_,d,e),trivial,.inl ⟨rfl,?_⟩⟩)
   rw [hW,decide_eq_false h48,Bool.or_false]
 ·rw [List.take_length]
  have hMl:=lawL_len (tr:=tr) hx
  exact lm_bub hτ hF hB (lawL_mem hx) (by omega) λm=>⟨rfl,rfl⟩
theorem call_lm {σ:St} {i d:Nat} {page:List Int} {tr:Bool} {Φ:AV->St->Prop} (hi:σ[i]?=some (.list (il page))) (hd:σ[d]?=some (.sdict [])) (hx:∀c∈page,c∈aB) (hl:page.length<25)
  (h:Φ (.ref σ.length) (σ.set d (.sdict (wd (disF page)))++[.list (il (bubF (lawL page tr)))])):aa C 53 [.ref i,.bool tr,.ref d] σ Φ:=by
 have B:=ai hB ⟨sc,hτ⟩
 have n1:i≠d:=λq=>by rw [q,hd] at hi;cases hi
 refine aa.view B [i,d] (nd2 n1) (ltc hi (ltc hd lt0)) (σb:=[.list (il page),.sdict []]) (args2:=[.ref 0,.bool tr,.ref 1])
  (moc hi (ag _ _) (moc hd rfl rfl)) rfl (spec_lm hτ hF hB hx hl) λv2 σ2 z=>?_
 obtain ⟨rfl,rfl⟩:=z
 refine ⟨(_,_),?_,h⟩
 have e2:∀ι b,rnO ι (.sdict (wd b))=some (.sdict (wd b)):=by intro ι b;cases b<;>rfl
 exact back_at 1 rfl rfl (ak (f:=List.cons) (ag _ _) (ak (f:=List.cons) (e2 _ _) (ak (f:=List.cons) (ag _ _) rfl))) (congrArg (λl=>l.set d (.sdict (wd (disF page)))++[.list (il (bubF (lawL page tr)))]) (set_same hi))
end
noncomputable def lM (v4 v5:Option AV) (tr only hy jo di:Bool) (x2 x14 x15:Option AV):Lo:=[some (.gl 3),some (.ref 8),x2,some (.ref 9),v4,v5,none,some (.ref 0),some (.ref 2),some (.bool tr),some (.bool only),some (.bool hy),some (.bool jo),some (.bool di),x14,x15,none,none,none,none,none,none,none]
noncomputable def lS (mx:Int) (xs:List Int) (fs:List (Nat×AV)) (Q:List Int×List Int×List Int×List Int×List Int) (page L:List Int) (g:St):St:=
 dkS 1 mx::.list (il xs)::.sdict fs::.list (il Q.1)::.list (il Q.2.1)::.list (il Q.2.2.1)::.list (il Q.2.2.2.1)::.list (il Q.2.2.2.2)::.list (il page)::.list (il L)::g
theorem eq_len {τ:Tb} {σ:St} {i j n:Nat} {xs ys:List AV} (hi:σ[i]?=some (.list xs)) (hj:σ[j]?=some (.list ys)) (hl:xs.length=ys.length):eqS τ σ (n+1) (.ref i) (.ref j)=eqSs τ σ n xs ys:=(eqS_l (own_i hi) (lst_i hj)).trans (if_pos hl)
theorem eq_lf {τ:Tb} {σ:St} {i j n:Nat} {xs:List Int} (hi:σ[i]?=some (.list (il xs))) (hj:σ[j]?=some (.list (il xs))) (hl:xs.length+1<n):eqS τ σ (n+1) (.ref i) (.ref j)=some true:=
 (eq_len hi hj rfl).trans ((eqSs_il n xs xs rfl hl).trans (congrArg some (decide_eq_true rfl)))
theorem eqSs_sl {τ:Tb} {σ:St}:∀(n:Nat) (xs:List Nat),xs.length+1<n->eqSs τ σ n (sl xs) (sl xs)=some true:=λω ψ χ=>match ω,ψ,χ with
 | 0,J,h=>absurd h (Nat.not_lt_zero _)
 | n+1,[],J=>rfl
 | 1,J::ζ,h=>absurd h (by rw [List.length_cons];omega)
 | n+2,J::xs,h=>ak (f:=and) (congrArg some (decide_eq_true rfl)) (eqSs_sl (n+1) xs (Nat.lt_of_succ_lt_succ h))
theorem eq_sl {τ:Tb} {σ:St} {i j:Nat} {xs:List Nat} (hi:σ[i]?=some (.list (sl xs))) (hj:σ[j]?=some (.list (sl xs))) (hl:xs.length<55):cmpA τ σ .eq (.ref i) (.ref j)=some true:=
 (eq_len (n:=59) hi hj rfl).trans (eqSs_sl 59 xs (by omega))
theorem eq_one {τ:Tb} {σ:St} {i j a c:Nat} {L:List Int} (hi:σ[i]?=some (.list [.ref a])) (hj:σ[j]?=some (.list [.ref c])) (ha:σ[a]?=some (.list (il L))) (hc:σ[c]?=some (.list (il L))) (hl:L.length<50):cmpA τ σ .eq (.ref i) (.ref j)=some true:=
 (eq_len (n:=59) hi hj rfl).trans (ak (f:=and) (eq_lf ha hc (Nat.lt_trans (Nat.succ_lt_succ hl) (by decide))) rfl)
theorem eq_two {τ:Tb} {σ:St} {i j a b c d:Nat} {L Z:List Int} (hi:σ[i]?=some (.list [.ref a,.ref b])) (hj:σ[j]?=some (.list [.ref c,.ref d])) (ha:σ[a]?=some (.list (il L))) (hc:σ[c]?=some (.list (il L))) (hb:σ[b]?=some (.list (il Z))) (hd:σ[d]?=some (.list (il Z))) (hl:L.length<50) (hl2:Z.length<50):cmpA τ σ .eq (.ref i) (.ref j)=some true:=
 (eq_len (n:=59) hi hj rfl).trans (ak (f:=and) (eq_lf ha hc (Nat.lt_trans (Nat.succ_lt_succ hl) (by decide))) (ak (f:=and) (eq_lf hb hd (Nat.lt_trans (Nat.succ_lt_succ hl2) (by decide))) rfl))
theorem sz2 {page:List Int} {ys:List AV} (h:page.length<100) (h2:ys.length<100):decide ((il page).length+ys.length<=SZ)=true:=decide_eq_true (by rw [av];unfold SZ;omega)
theorem sorted_d {sc:List Int} {σ:St} {i:Nat} {fs:List (Nat×AV)} (h:σ[i]?=some (.sdict fs)) (hl:fs.length<50):sortedA (tb sc) σ (.ref i)=some (sl (aD (fs.map (λJ=>J.1)))):=by
 simp only [sortedA,h]
 exact if_pos (by omega)
section
variable {C:Cfg} {sc:List Int} (hτ:C.τ=tb sc) (hF:Snd C) (hB:C.BX=BXof C)
include hτ hF hB
theorem call_dt {σ:St} {Φ:AV->St->Prop} (h:Φ (.ref σ.length) (σ++[.box 0])):aa C 52 [] σ Φ:=
 lift_newq (ai hB ⟨sc,hτ⟩) (σb:=[]) (args2:=[]) [] rfl trivial rfl (λJ=>rfl) (call_data hτ hF hB ⟨rfl,rfl⟩) h
theorem lift_ibn {fn i b f k:Nat} {σ:St} {xs:List Int} {tr only hy jo di:Bool} {os os':St} {v2 v:AV} {Φ:AV->St->Prop} (hi:σ[i]?=some (.list (il xs))) (hb:σ[b]?=some (.box k)) (hf:σ[f]?=some (flS tr only hy jo di)) (ho:mapM' (i::b::f::List.range' σ.length os.length) os=some os') (hv:rnA (i::b::f::List.range' σ.length os.length) v2=some v)
  (h:aa C fn [.ref 0,.ref 1,.ref 2] [.list (il xs),.box k,flS tr only hy jo di] λv σ=>v=v2/\σ=[.list (il xs),.box 1,flS tr only hy jo di]++os) (g:Φ v (σ.set b (.box 1)++os')):aa C fn [.ref i,.ref b,.ref f] σ Φ:=by
 have n1:i≠b:=λq=>by rw [q,hb] at hi;cases hi
 have n2:i≠f:=λq=>by rw [q,hf] at hi;cases hi
 have n3:b≠f:=λq=>by rw [q,hf] at hb;cases hb
 have e2:∀ι,rnO ι (flS tr only hy jo di)=some (flS tr only hy jo di):=λι=>rfl
 refine aa.view (ai hB ⟨sc,hτ⟩) [i,b,f] (nd3 n1 n2 n3) (ltc hi (ltc hb (ltc hf lt0))) (σb:=[.list (il xs),.box k,flS tr only hy jo di])
  (moc hi (ag _ _) (moc hb rfl (moc hf rfl rfl))) rfl h ?_
 rintro w _ ⟨hw,rfl⟩
 rw [<-hw] at hv
 refine ⟨(_,_),?_,g⟩
 have e1:(σ.set b (.box 1)).set f (flS tr only hy jo di)=σ.set b (.box 1):=set_same (by rw [List.getElem?_set_ne n3,hf])
 exact (ak (f:=λv os=>(v,over [i,b,f] (os.take 3) σ++os.drop 3)) hv (ak (f:=List.cons) (ag _ _) (ak (f:=List.cons) rfl (ak (f:=List.cons) (e2 _) ho)))).trans (congrArg (λl=>some (v,l++os')) ((congrArg (λl=>(l.set b (.box 1)).set f (flS tr only hy jo di)) (set_same hi)).trans e1))
theorem call_p1 {σ:St} {i b f:Nat} {page L:List Int} {tr only hy jo di:Bool} {Φ:AV->St->Prop} (hi:σ[i]?=some (.list (il page))) (hb:σ[b]?=some (.box 0)) (hf:σ[f]?=some (flS tr only hy jo di)) (hx:∀c∈page,c∈ah) (hl:page.length<12) (hL:ordF (mapL page tr)=L) (hne:L≠[]) (h46:(46:Int)∉L) (ho:Steady L)
  (h:Φ (.tup [.ref σ.length,.ref (σ.length+1)]) (σ.set b (.box 1)++[.list [.ref (σ.length+2)],.list (sl (setF (aQ page tr only hy jo di [L]))),.list (il L)])):aa C 49 [.ref i,.ref b,.ref f] σ Φ:=
 lift_ibn hτ hF hB (os:=[.list [.ref 5],.list (sl (setF (aQ page tr only hy jo di [L]))),.list (il L)]) hi hb hf (ak (f:=List.cons) rfl (ak (f:=List.cons) (aI _ _) (ak (f:=List.cons) (ag _ _) rfl))) rfl (spec_p1 hτ hF hB hx hl hL hne h46 ho) h
theorem call_p2 {σ:St} {i b f:Nat} {page L Z:List Int} {tr only hy jo di:Bool} {Φ:AV->St->Prop} (hi:σ[i]?=some (.list (il page))) (hb:σ[b]?=some (.box 0)) (hf:σ[f]?=some (flS tr only hy jo di)) (hx:∀c∈page,c∈ah) (hl:page.length<12) (hL:ordF (mapL page tr)=L++46::Z) (hne:L≠[]) (h46:(46:Int)∉L) (ho:Steady L) (hneZ:Z≠[]) (h46Z:(46:Int)∉Z) (hoZ:Steady Z)
  (h:Φ (.tup [.ref σ.length,.ref (σ.length+1)]) (σ.set b (.box 1)++[.list [.ref (σ.length+2),.ref (σ.length+3)],.list (sl (setF (aQ page tr only hy jo di [L,Z]))),.list (il L),.list (il Z)])):aa C 49 [.ref i,.ref b,.ref f] σ Φ:=
 lift_ibn hτ hF hB (os:=[.list [.ref 5,.ref 6],.list (sl (setF (aQ page tr only hy jo di [L,Z]))),.list (il L),.list (il Z)]) hi hb hf (ak (f:=List.cons) rfl (ak (f:=List.cons) (aI _ _) (ak (f:=List.cons) (ag _ _) (ak (f:=List.cons) (ag _ _) rfl)))) rfl (spec_p2 hτ hF hB hx hl hL hne h46 ho hneZ h46Z hoZ) h
theorem end_a {mx:Int} {xs:List Int} {Q:List Int×List Int×List Int×List Int×List Int} {page L:List Int} {kd:List Nat} {fs:List (Nat×AV)} {tr only hy jo di:Bool} {x2 x14 x15:Option AV} {b:Bool} (hb:b=true) (hx:∀c∈page,c∈ah) (hl:page.length<9) (hL:ordF (mapL (page++[46,1488]) tr)=L++46::[1488]) (hLx:L.length<20) (hne:L≠[]) (h46:(46:Int)∉L) (ho:Steady L)
  (hfs:fs.length<50) (hw:setF (aQ (page++[46,1488]) tr only hy jo di [L,[1488]])=aD (fs.map (λJ=>J.1))) {K:Fl->Lo->St->Prop} (hK:∀m σ,K (.ret (.bool true)) m σ):
  aA (tb sc) (vcA C 56) (aS 14 f56.body) 0 (lM (some (.ref 10)) (some (.bool b)) tr only hy jo di x2 x14 x15) (lS mx xs fs Q page L [.list (sl kd)]) K:=by
 subst hb
 refine vc hτ rfl rfl (call_flg hτ hF hB rfl (bG (sz2 (ys:=[.int 46,.int 1488]) (by omega) (by decide)) (vc hτ rfl rfl (call_dt hτ hF hB (vc hτ rfl rfl (call_p2 hτ hF hB (page:=(page++[46,1488])) (tr:=tr) (only:=only) (hy:=hy) (jo:=jo) (di:=di) (i:=13) ?_ rfl rfl ?_ ?_ hL hne h46 ho ?_ ?_ ?_ ?_))))))
 ·exact congrArg (λl=>some (AO.list l)) ((il_app page [46,1488]).symm)
 ·intro c hc
  rcases List.mem_append.mp hc with h | h
  ·exact hx c h
  ·exact (by decide:∀c∈[(46:Int),1488],c∈ah) c h
 ·rw [List.length_append];exact Nat.add_lt_add_right (Nat.lt_of_lt_of_le hl (Nat.le_succ 9)) 2
 ·exact List.cons_ne_nil _ _
 ·decide
 ·intro j a b h1 h2
  rcases j with _ | _ | j<;>cases h2
 refine toC ⟨2,λj σ=>j<=2/\σ=[dkS 1 mx,.list (il xs),.sdict fs,.list (il Q.1),.list (il Q.2.1),.list (il Q.2.2.1),.list (il Q.2.2.2.1),.list (il Q.2.2.2.2),.list (il page),.list (il L),.list (sl kd),flS tr only hy jo di,.list [.int 46,.int 1488],.list (il page++[.int 46,.int 1488]),.box 1,.list [.ref 17,.ref 18],.list (sl (setF (aQ (page++[46,1488]) tr only hy jo di [L,[1488]]))),.list (il L),.list (il [1488])]++(.list (([.ref 20,.ref 21]:List AV).take j)::([.list (il L),.list (il [1488])]:St).take j),by show 15<19;decide,⟨Nat.zero_le _,rfl⟩,?_⟩
 rintro j σ ⟨hj,rfl⟩
 refine ⟨hj,?_⟩
 rcases j with _ | _ | _ | j
 ·exact ⟨_,rfl,odT rfl,_,.inl ⟨rfl,rfl⟩,odT rfl,rfl⟩
 ·exact ⟨_,rfl,odT rfl,_,.inl ⟨rfl,rfl⟩,odT rfl,rfl⟩
 ·refine bO (o:=cmpA (tb sc) _ .eq (.ref 19) (.ref 25)) (a:=true) ?_ ?_
  ·exact eq_two (L:=L) (Z:=[1488]) rfl rfl rfl rfl rfl rfl (by omega) (by decide)
  refine bO (o:=sortedA (tb sc) _ (.ref 2)) (a:=sl (aD (fs.map (λJ=>J.1)))) ?_ ?_
  ·exact sorted_d rfl hfs
  refine bO (o:=cmpA (tb sc) _ .eq (.ref 26) (.ref 27)) (a:=true) ?_ (hK _ _)
  ·refine eq_sl (xs:=aD (fs.map (λJ=>J.1))) ?_ rfl ?_
   ·exact congrArg (λl=>some (AO.list (sl l))) hw
   ·rw [(sortN_perm _).length_eq,List.length_map];omega
 ·exact absurd hj (by omega)
theorem end_b {mx:Int} {xs:List Int} {Q:List Int×List Int×List Int×List Int×List Int} {page L:List Int} {kd:List Nat} {fs:List (Nat×AV)} {tr only hy jo di:Bool} {x2 x14 x15:Option AV} {b:Bool} (hb:b=false) (hx:∀c∈page,c∈ah) (hl:page.length<9) (hL:ordF (mapL page tr)=L) (hLx:L.length<20) (hne:L≠[]) (h46:(46:Int)∉L) (ho:Steady L)
  (hfs:fs.length<50) (hw:setF (aQ page tr only hy jo di [L])=aD (fs.map (λJ=>J.1))) {K:Fl->Lo->St->Prop} (hK:∀m σ,K (.ret (.bool true)) m σ):
  aA (tb sc) (vcA C 56) (aS 14 f56.body) 0 (lM (some (.ref 10)) (some (.bool b)) tr only hy jo di x2 x14 x15) (lS mx xs fs Q page L [.list (sl kd)]) K:=by
 subst hb
 refine vc hτ rfl rfl (call_flg hτ hF hB rfl (bG (sz2 (ys:=[]) (by omega) (by decide)) (vc hτ rfl rfl (call_dt hτ hF hB (vc hτ rfl rfl (call_p1 hτ hF hB (page:=page) (tr:=tr) (only:=only) (hy:=hy) (jo:=jo) (di:=di) (i:=13) ?_ rfl rfl ?_ ?_ hL hne h46 ho ?_))))))
 ·exact congrArg (λl=>some (AO.list l)) (List.append_nil _)
 ·exact hx
 ·omega
 refine toC ⟨1,λj σ=>j<=1/\σ=[dkS 1 mx,.list (il xs),.sdict fs,.list (il Q.1),.list (il Q.2.1),.list (il Q.2.2.1),.list (il Q.2.2.2.1),.list (il Q.2.2.2.2),.list (il page),.list (il L),.list (sl kd),flS tr only hy jo di,.list [],.list (il page++[]),.box 1,.list [.ref 17],.list (sl (setF (aQ page tr only hy jo di [L]))),.list (il L)]++(.list (([.ref 19]:List AV).take j)::([.list (il L)]:St).take j),by show 15<18;decide,⟨Nat.zero_le _,rfl⟩,?_⟩
 rintro j σ ⟨hj,rfl⟩
 refine ⟨hj,?_⟩
 rcases j with _ | _ | j
 ·exact ⟨_,rfl,odT rfl,_,.inl ⟨rfl,rfl⟩,odT rfl,rfl⟩
 ·refine bO (o:=cmpA (tb sc) _ .eq (.ref 18) (.ref 22)) (a:=true) ?_ ?_
  ·exact eq_one (L:=L) rfl rfl rfl rfl (by omega)
  refine bO (o:=sortedA (tb sc) _ (.ref 2)) (a:=sl (aD (fs.map (λJ=>J.1)))) ?_ ?_
  ·exact sorted_d rfl hfs
  refine bO (o:=cmpA (tb sc) _ .eq (.ref 23) (.ref 24)) (a:=true) ?_ (hK _ _)
  ·refine eq_sl (xs:=aD (fs.map (λJ=>J.1))) ?_ rfl ?_
   ·exact congrArg (λl=>some (AO.list (sl l))) hw
   ·rw [(sortN_perm _).length_eq,List.length_map];omega
 ·exact absurd hj (by omega)
theorem end_c {mx:Int} {xs:List Int} {Q:List Int×List Int×List Int×List Int×List Int} {page L:List Int} {kd:List Nat} {x11 x12:List AV} {fs:List (Nat×AV)} {tr only hy jo di:Bool} {x2 x14 x15:Option AV} {b:Bool} (hb:b=false) (hx:∀c∈page,c∈ah) (hl:page.length<9) (hL:ordF (mapL page tr)=L) (hLx:L.length<20) (hne:L≠[]) (h46:(46:Int)∉L) (ho:Steady L)
  (hfs:fs.length<50) (hw:setF (aQ page tr only hy jo di [L])=aD (fs.map (λJ=>J.1))) {K:Fl->Lo->St->Prop} (hK:∀m σ,K (.ret (.bool true)) m σ):
  aA (tb sc) (vcA C 56) (aS 14 f56.body) 0 (lM (some (.ref 10)) (some (.bool b)) tr only hy jo di x2 x14 x15) (lS mx xs fs Q page L [.list (sl kd),.list x11,.list x12]) K:=by
 subst hb
 refine vc hτ rfl rfl (call_flg hτ hF hB rfl (bG (sz2 (ys:=[]) (by omega) (by decide)) (vc hτ rfl rfl (call_dt hτ hF hB (vc hτ rfl rfl (call_p1 hτ hF hB (page:=page) (tr:=tr) (only:=only) (hy:=hy) (jo:=jo) (di:=di) (i:=15) ?_ rfl rfl ?_ ?_ hL hne h46 ho ?_))))))
 ·exact congrArg (λl=>some (AO.list l)) (List.append_nil _)
 ·exact hx
 ·omega
 refine toC ⟨1,λj σ=>j<=1/\σ=[dkS 1 mx,.list (il xs),.sdict fs,.list (il Q.1),.list (il Q.2.1),.list (il Q.2.2.1),.list (il Q.2.2.2.1),.list (il Q.2.2.2.2),.list (il page),.list (il L),.list (sl kd),.list x11,.list x12,flS tr only hy jo di,.list [],.list (il page++[]),.box 1,.list [.ref 19],.list (sl (setF (aQ page tr only hy jo di [L]))),.list (il L)]++(.list (([.ref 21]:List AV).take j)::([.list (il L)]:St).take j),by show 17<20;decide,⟨Nat.zero_le _,rfl⟩,?_⟩
 rintro j σ ⟨hj,rfl⟩
 refine ⟨hj,?_⟩
 rcases j with _ | _ | j
 ·exact ⟨_,rfl,odT rfl,_,.inl ⟨rfl,rfl⟩,odT rfl,rfl⟩
 ·refine bO (o:=cmpA (tb sc) _ .eq (.ref 20) (.ref 24)) (a:=true) ?_ ?_
  ·exact eq_one (L:=L) rfl rfl rfl rfl (by omega)
  refine bO (o:=sortedA (tb sc) _ (.ref 2)) (a:=sl (aD (fs.map (λJ=>J.1)))) ?_ ?_
  ·exact sorted_d rfl hfs
  refine bO (o:=cmpA (tb sc) _ .eq (.ref 25) (.ref 26)) (a:=true) ?_ (hK _ _)
  ·refine eq_sl (xs:=aD (fs.map (λJ=>J.1))) ?_ rfl ?_
   ·exact congrArg (λl=>some (AO.list (sl l))) hw
   ·rw [(sortN_perm _).length_eq,List.length_map];omega
 ·exact absurd hj (by omega)
end
noncomputable def aG (L:List Int):List Nat:=L.map λc=>(am c).bc
noncomputable def fput (b:Bool) (k:Nat) (fs:List (Nat×AV)):List (Nat×AV):=if b then putA k (.bool true) fs else fs
theorem putA_le (k:Nat) (v:AV):∀fs:List (Nat×AV),(putA k v fs).length<=fs.length+1:=λω=>match ω with
 | []=>by simp [putA]
 | (a,b)::fs=>by
  have:=putA_le k v fs
  unfold putA
  split<;>simp<;>omega
noncomputable def bidiB (L:List Int) (di mate:Bool):Bool:=di&&((mate||(aG L).any λk=>decide (k∈[30,1,2]))&&!twF (aG L))
noncomputable def WordsOK (page L:List Int) (tr only hy jo di:Bool) (fs:List (Nat×AV)):Prop:=
 ∀mate:Bool,setF (aQ (if mate then page++[46,1488] else page) tr only hy jo di (if mate then [L,[1488]] else [L]))=aD ((fput (bidiB L di mate) 37 fs).map (λJ=>J.1))
structure LawOK (page L:List Int) (tr only hy jo di:Bool):Prop where
 hx:∀c∈page,c∈ah
 hl:page.length<9
 h1:ordF (mapL page tr)=L
 h2:ordF (mapL (page++[46,1488]) tr)=L++46::[1488]
 hLx:∀c∈L,c∈aB
 hLl:L.length<20
 hne:L≠[]
 ho:Steady L
theorem LawOK.h46 {page L:List Int} {tr only hy jo di:Bool} (H:LawOK page L tr only hy jo di):(46:Int)∉L:=λq=>absurd (H.hLx _ q) (by decide)
theorem kinds_sl (L:List Int):(L.filterMap λc=>some (AV.str (am c).bc))=sl (aG L):=(fm_m _ _).trans List.map_map.symm
theorem in3 {a x y z:Nat}:(decide (x=a)||(decide (y=a)||(decide (z=a)||false)))=decide (a∈[x,y,z]):=by
 rw [<-Option.some_inj,<-memS_sl a [x,y,z]];rfl
section
variable {C:Cfg} {sc:List Int} (hτ:C.τ=tb sc) (hF:Snd C) (hB:C.BX=BXof C)
include hτ hF hB
theorem mid_end {mx:Int} {xs:List Int} {Q:List Int×List Int×List Int×List Int×List Int} {page L:List Int} {fs:List (Nat×AV)} {tr only hy jo di:Bool} {x2 x14 x15:Option AV} (H:LawOK page L tr only hy jo di) (hmx:0<=mx/\mx<1000003)
  (hfs:fs.length<40) (hw:WordsOK page L tr only hy jo di fs) {K:Fl->Lo->St->Prop} (hK:∀m σ,K (.ret (.bool true)) m σ):
  aA (tb sc) (vcA C 56) (aS 11 f56.body) 0 (lM none none tr only hy jo di x2 x14 x15) (lS mx xs fs Q page L []) K:=by
 refine toC (comp_r (src:=.list 9) AV.int L (λc=>some (.str (am c).bc)) (kinds_sl L) (by show (9:Nat)<10;decide) (λacc j=>rfl) (Nat.lt_trans H.hLl (by unfold SZ;decide)) (λj c acc Ψ hc hΨ=>bO (row_ok (H.hLx c (List.mem_of_getElem? hc))) hΨ) ?_)
 have hkne:aG L≠[]:=λq=>H.hne (List.map_eq_nil_iff.mp q)
 have hkl:(aG L).length<55:=by have:=H.hLl;unfold aG;rw [List.length_map];omega
 refine vc hτ rfl rfl (call_draw hτ hF hB rfl rfl (by decide) hmx λn xs' mx' hn hmx'=>?_)
 have hwt:setF (aQ (page++[46,1488]) tr only hy jo di [L,[1488]])=aD ((fput (bidiB L di true) 37 fs).map (λJ=>J.1)):=hw true
 have hwf:setF (aQ page tr only hy jo di [L])=aD ((fput (bidiB L di false) 37 fs).map (λJ=>J.1)):=hw false
 have lt:decide (fs.length<1000)=true:=decide_eq_true (by omega)
 have lt1:fs.length<50:=by omega
 have lt2:(putA 37 (.bool true) fs).length<50:=Nat.lt_of_le_of_lt (putA_le ..) (by omega)
 cases di with
 | false=>
  cases hm:decide (n=3) with
  | true=>exact al (t:=false) ⟨rfl,rfl⟩ rfl (end_a hτ hF hB hm H.hx H.hl H.h2 H.hLl H.hne H.h46 H.ho lt1 hwt hK)
  | false=>exact al (t:=false) ⟨rfl,rfl⟩ rfl (end_b hτ hF hB hm H.hx H.hl H.h1 H.hLl H.hne H.h46 H.ho lt1 hwf hK)
 | true=>
  cases hm:decide (n=3) with
  | true=>
   replace hwt:setF (aQ (page++[46,1488]) tr only hy jo true [L,[1488]])=aD ((fput (!twF (aG L)) 37 fs).map (λJ=>J.1)):=hwt
   cases htw:twF (aG L) with
   | true=>
    rw [htw] at hwt
    exact al (t:=!twF (aG L)) (iF (b0T hm) (iT (b1T hm) (vc hτ rfl rfl (call_tw hτ hF hB rfl hkne hkl ⟨rfl,rfl⟩)))) (congrArg (λJ=>!J) htw) (end_a hτ hF hB hm H.hx H.hl H.h2 H.hLl H.hne H.h46 H.ho lt1 hwt hK)
   | false=>
    rw [htw] at hwt
    exact aC (t:=!twF (aG L)) (iF (b0T hm) (iT (b1T hm) (vc hτ rfl rfl (call_tw hτ hF hB rfl hkne hkl ⟨rfl,rfl⟩)))) (congrArg (λJ=>!J) htw) (bG lt (end_a hτ hF hB hm H.hx H.hl H.h2 H.hLl H.hne H.h46 H.ho lt2 hwt hK))
  | false=>
   replace hwf:setF (aQ page tr only hy jo true [L])=aD ((fput (((aG L).any λk=>decide (k∈[30,1,2]))&&!twF (aG L)) 37 fs).map (λJ=>J.1)):=hwf
   have cmp:∀{Φ:AV->St->Prop},Φ (.bool ((aG L).any λk=>decide (k∈[30,1,2]))) (lS mx' xs' fs Q page L [.list (sl (aG L)),.list (sl ((aG L).filter λk=>decide (k∈[30,1,2]))),.list []]) ->
     evE (tb sc) (vcA C 56) (.cmp (.comp (.var 21) (.v 21) (.plain (.var 4)) (.cons (.cmp (.var 21) (.cons .isIn (.tup (.cons (.lit (.str 30)) (.cons (.lit (.str 1)) (.cons (.lit (.str 2)) .nil)))) .nil)) .nil) [21]) (.cons .ne (.list .nil) .nil)) (lM (some (.ref 10)) (some (.bool (decide (n=3)))) tr only hy jo true x2 x14 x15) (lS mx' xs' fs Q page L [.list (sl (aG L))]) Φ:=λh=>by
    refine toC (comp_r (src:=.list 10) (σ0:=lS mx' xs' fs Q page L [.list (sl (aG L))]) AV.str (aG L) (λk=>if decide (k∈[30,1,2])=true then some (.str k) else none) (fm_f AV.str _ _) (by show (10:Nat)<11;decide) (λacc j=>rfl) (Nat.lt_trans hkl (by unfold SZ;decide)) (λj c acc Ψ hc hΨ=>?_) (bO (ne_nil rfl rfl) ?_))
    ·rw [<-in3] at hΨ;exact iQ hΨ
    ·rw [any_ne];exact h
   cases ha:(aG L).any λk=>decide (k∈[30,1,2]) with
   | false=>
    rw [ha] at hwf
    exact al (t:=(aG L).any λk=>decide (k∈[30,1,2])) (iT (b0F hm) (cmp (iF (b1F ha) ⟨rfl,rfl⟩))) ha (end_c hτ hF hB hm H.hx H.hl H.h1 H.hLl H.hne H.h46 H.ho lt1 hwf hK)
   | true=>
    rw [ha] at hwf
    cases htw:twF (aG L) with
    | true=>
     rw [htw] at hwf
     exact al (t:=!twF (aG L)) (iT (b0F hm) (cmp (iT (b1T ha) (vc hτ rfl rfl (call_tw hτ hF hB rfl hkne hkl ⟨rfl,rfl⟩))))) (congrArg (λJ=>!J) htw) (end_c hτ hF hB hm H.hx H.hl H.h1 H.hLl H.hne H.h46 H.ho lt1 hwf hK)
    | false=>
     rw [htw] at hwf
     exact aC (t:=!twF (aG L)) (iT (b0F hm) (cmp (iT (b1T ha) (vc hτ rfl rfl (call_tw hτ hF hB rfl hkne hkl ⟨rfl,rfl⟩))))) (congrArg (λJ=>!J) htw) (bG lt (end_c hτ hF hB hm H.hx H.hl H.h1 H.hLl H.hne H.h46 H.ho lt2 hwf hK))
end
noncomputable def fstG (g:Nat):Nat:=(fstT.getD g none).getD 0
theorem fst_ok {sc:List Int} {c:Int} (h:c∈aB):(tb sc).fst (am c).gc=some (fstG (am c).gc):=by
 have:aB.all (λc=>(fstT.getD (am c).gc none).isSome)=true:=by decide +kernel
 have h1:=List.all_eq_true.mp this c h
 show fstT.getD (am c).gc none=_
 unfold fstG
 cases hq:fstT.getD (am c).gc none with
 | none=>rw [hq] at h1;cases h1
 | some x=>rfl
noncomputable def markB (L:List Int):Bool:=decide (fstG (am (L.headD 0)).gc=16)
noncomputable def hyL (L:List Int):Bool:=decide (L.headD 0=45)||(decide (L.getLastD 0=45)||decide ((L.take 4).drop 2=[45,45]))
noncomputable def offP (c:Int):Bool:=decide (c<128)&&!decide (c∈[45,49,97,98,115])
noncomputable def offB (L:List Int):Bool:=L.any offP
noncomputable def jnP (L:List Int) (jo:Bool) (i:Nat):Bool:=jo&&((decide (L.getD i 0=8204)||decide (L.getD i 0=8205))&&!jnF L i)
noncomputable def jnA (L:List Int) (jo:Bool) (n:Nat):Bool:=(List.range n).any (jnP L jo)
theorem jnA_succ (L:List Int) (jo:Bool) (n:Nat):jnA L jo (n+1)=(jnA L jo n||jnP L jo n):=by simp [jnA,List.range_succ]
noncomputable def fF (d m h o:Bool):List (Nat×AV):=fput o 48 (fput h 59 (fput m 72 (wd d)))
noncomputable def fJ (d m h o j:Bool):List (Nat×AV):=fput j 66 (fF d m h o)
theorem fJ_rn (d m h o j:Bool) (ι:List Nat):rnO ι (.sdict (fJ d m h o j))=some (.sdict (fJ d m h o j)):=by
 cases d<;>cases m<;>cases h<;>cases o<;>cases j<;>rfl
theorem fJ_put (d m h o j:Bool):putA 66 (.bool true) (fJ d m h o j)=fJ d m h o true:=by
 cases d<;>cases m<;>cases h<;>cases o<;>cases j<;>rfl
theorem fJ_len (d m h o j:Bool):(fJ d m h o j).length<20:=by
 cases d<;>cases m<;>cases h<;>cases o<;>cases j<;>decide
theorem fF_len (d m h o:Bool):(fF d m h o).length<20:=fJ_len d m h o false
theorem idx_last_il {l:List Int} (h:l≠[]):idxL (il l) (-1)=some (.int (l.getLastD 0)):=by
 have hl:0<l.length:=List.length_pos_iff.mpr h
 have h2:((-1:Int)+(l.length:Int))=((l.length-1:Nat):Int):=by omega
 have h3:l[l.length-1]?=some (l.getLastD 0):=by
  rw [<-List.getLast?_eq_getElem?,List.getLast?_eq_some_getLast h]
  cases l with
  | nil=>exact absurd rfl h
  | cons a l=>simp [List.getLastD]
 simp [idxL,av,h2,il,h3];omega
theorem inI2 {a x y:Int}:(decide (x=a)||(decide (y=a)||false))=(decide (a=x)||decide (a=y)):=by
 rw [Bool.or_false,decide_eq_decide.mpr (eq_comm (a:=x)),decide_eq_decide.mpr (eq_comm (a:=y))]
theorem inI5 {a x y z u v:Int}:(decide (x=a)||(decide (y=a)||(decide (z=a)||(decide (u=a)||(decide (v=a)||false)))))=decide (a∈[x,y,z,u,v]):=by
 rw [<-Option.some_inj,<-memI_il a [x,y,z,u,v]];rfl
theorem at_mid {σ:St} {o o2:AO}:(σ++[o]++[o2])[σ.length]?=some o:=by
 rw [List.append_assoc,List.getElem?_append_right (Nat.le_refl _),Nat.sub_self];rfl
theorem any_neI (p:Int->Bool):∀l:List Int,(!((l.filter p).map AV.int).isEmpty)=l.any p:=λω=>match ω with
 | []=>rfl
 | k::l=>by
  rw [List.filter_cons,List.any_cons,<-any_neI p l]
  cases p k<;>rfl
theorem fmI (p:Int->Bool) (l:List Int):(l.filterMap λk=>if p k=true then some (AV.int k) else none)=(l.filter p).map AV.int:=fm_f AV.int p l
theorem hd_il {L:List Int} (h:L≠[]):idxL (il L) 0=some (.int (L.headD 0)):=by
 rcases L with _ | ⟨c,r⟩
 ·exact absurd rfl h
 ·rfl
section
variable {C:Cfg} {sc:List Int} (hτ:C.τ=tb sc) (hF:Snd C) (hB:C.BX=BXof C)
include hτ hF hB
theorem mid_for {mx:Int} {xs:List Int} {Q:List Int×List Int×List Int×List Int×List Int} {page L:List Int} {d m0 h0 o0:Bool} {g:St} {tr only hy jo di:Bool} {x2:Option AV} (H:LawOK page L tr only hy jo di) (hmx:0<=mx/\mx<1000003)
  (hw:WordsOK page L tr only hy jo di (fJ d m0 h0 o0 (jnA L jo L.length))) {K:Fl->Lo->St->Prop} (hK:∀m σ,K (.ret (.bool true)) m σ):
  aA (tb sc) (vcA C 56) (aS 10 f56.body) 0 (lM none none tr only hy jo di x2 none none) (lS mx xs (fF d m0 h0 o0) Q page L g) K:=by
 have hpos:0<L.length:=List.length_pos_iff.mpr H.hne
 refine toF (for_en L 10 (λ(G:Option AV×Option AV×Option AV×St) J=>lM none none tr only hy jo di G.1 G.2.1 G.2.2.1) (λG j=>lS mx xs (fJ d m0 h0 o0 (jnA L jo j)) Q page L G.2.2.2) (λG j=>0<j->G.2.2.2=[]) (Nat.zero_le 10) (by show (9:Nat)<10;decide) (λJ J=>rfl) (x2,none,none,g) rfl rfl (λq=>absurd q (Nat.lt_irrefl 0)) (λJ J=>⟨odT rfl,odT rfl⟩) (λj c G J hc hj=>?_) λG hG=>?_)
 ·have last:∀{fs:List (Nat×AV)},fs=fJ d m0 h0 o0 (jnA L jo j||jnP L jo j)->∃G':Option AV×Option AV×Option AV×St,(0<j+1->G'.2.2.2=[])/\Vw 10 (lM none none tr only hy jo di G.1 (some (.int j)) (some (.int c))) (lS mx xs fs Q page L G.2.2.2) (lM none none tr only hy jo di G'.1 G'.2.1 G'.2.2.1) (lS mx xs (fJ d m0 h0 o0 (jnA L jo (j+1))) Q page L G'.2.2.2):=by
   rintro fs rfl
   rw [jnA_succ]
   exact ⟨(none,none,none,[]),λJ=>rfl,vw_q [0,1,2,3,4,5,6,7,8,9] (Bool.and_eq_true_iff.mpr ⟨rfl,rfl⟩) rfl ⟨rfl,ag _ _,fJ_rn ..,ag _ _,ag _ _,ag _ _,ag _ _,ag _ _,ag _ _,ag _ _,trivial⟩
    ⟨rfl,rfl,trivial,rfl,trivial,trivial,trivial,rfl,rfl,rfl,rfl,rfl,rfl,rfl,trivial,trivial,trivial,trivial,trivial,trivial,trivial,trivial,trivial,trivial⟩⟩
  have hcj:L.getD j 0=c:=by rw [List.getD_eq_getElem?_getD,hc];rfl
  have e0:jnP L jo j=(jo&&((decide (c=8204)||decide (c=8205))&&!jnF L j)):=by unfold jnP;rw [hcj]
  rw [e0] at last
  cases jo with
  | false=>exact al (t:=false) ⟨rfl,rfl⟩ rfl (last (by rw [Bool.false_and,Bool.or_false]))
  | true=>
   have hq:=inI2 (a:=c) (x:=8204) (y:=8205)
   cases hA:(decide (c=8204)||decide (c=8205)) with
   | false=>exact al (iF (b1F (hq.trans hA)) ⟨rfl,rfl⟩) (hq.trans hA) (last (by rw [hA,Bool.false_and,Bool.and_false,Bool.or_false]))
   | true=>
    have hcall:∀{k:AV->St->Prop},k (.bool (jnF L j)) (lS mx xs (fJ d m0 h0 o0 (jnA L true j)) Q page L G.2.2.2)->aa C 55 [.ref 9,.int j] (lS mx xs (fJ d m0 h0 o0 (jnA L true j)) Q page L G.2.2.2) k:=λh=>call_jn hτ hF hB rfl H.hLx (Nat.lt_trans H.hLl (by decide)) hj h
    cases hM:jnF L j with
    | true=>exact al (t:=!jnF L j) (iT (b1T (hq.trans hA)) (vc hτ rfl rfl (hcall ⟨rfl,rfl⟩))) (congrArg (λJ=>!J) hM) (last (by rw [hA,hM];exact congrArg _ (Bool.or_false _).symm))
    | false=>
     refine aC (t:=!jnF L j) (iT (b1T (hq.trans hA)) (vc hτ rfl rfl (hcall ⟨rfl,rfl⟩))) (congrArg (λJ=>!J) hM) (bG (decide_eq_true (Nat.lt_trans (fJ_len ..) (by decide))) (last ?_))
     rw [hA,hM,fJ_put];exact congrArg _ (Bool.or_true _).symm
 ·obtain ⟨a,b,e,G⟩:=G
  obtain rfl:G=[]:=hG hpos
  exact mid_end hτ hF hB H hmx (Nat.lt_trans (fJ_len ..) (by decide)) hw hK
theorem only_a {mx:Int} {xs:List Int} {Q:List Int×List Int×List Int×List Int×List Int} {page L:List Int} {d m0 h0:Bool} {g:St} {tr only hy jo di:Bool} {x2:Option AV} (H:LawOK page L tr only hy jo di) (hmx:0<=mx/\mx<1000003)
  (hw:WordsOK page L tr only hy jo di (fJ d m0 h0 (only&&offB L) (jnA L jo L.length))) {K:Fl->Lo->St->Prop} (hK:∀m σ,K (.ret (.bool true)) m σ):
  aA (tb sc) (vcA C 56) (aS 9 f56.body) 0 (lM none none tr only hy jo di x2 none none) (lS mx xs (fF d m0 h0 false) Q page L g) K:=by
 have put:putA 48 (.bool true) (fF d m0 h0 false)=fF d m0 h0 true:=by cases d<;>cases m0<;>cases h0<;>rfl
 cases only with
 | false=>exact al (t:=false) ⟨rfl,rfl⟩ rfl (mid_for hτ hF hB H hmx hw hK)
 | true=>
  have cmp:∀{Φ:AV->St->Prop},Φ (.bool (offB L)) (lS mx xs (fF d m0 h0 false) Q page L (g++[.list ((L.filter offP).map AV.int)]++[.list []])) ->
    evE (tb sc) (vcA C 56) (.cmp (.comp (.var 19) (.v 19) (.plain (.var 3)) (.cons (.bop true (.cons (.cmp (.var 19) (.cons .lt (.lit (.int 128)) .nil)) (.cons (.cmp (.var 19) (.cons .notIn (.tup (.cons (.lit (.int 45)) (.cons (.lit (.int 49)) (.cons (.lit (.int 97)) (.cons (.lit (.int 98)) (.cons (.lit (.int 115)) .nil)))))) .nil)) .nil))) .nil) [19]) (.cons .ne (.list .nil) .nil)) (lM none none tr true hy jo di x2 none none) (lS mx xs (fF d m0 h0 false) Q page L g) Φ:=λh=>by
   refine toC (comp_r (src:=.list 9) (σ0:=lS mx xs (fF d m0 h0 false) Q page L g) AV.int L (λk=>if offP k=true then some (.int k) else none) (fmI _ _) (by show (9:Nat) < _+10;omega) (λacc j=>rfl) (Nat.lt_trans H.hLl (by unfold SZ;decide)) (λj c acc Ψ hc hΨ=>?_) (bO (ne_nil at_mid List.getElem?_concat_length) ?_))
   ·cases hq:decide (c<128) with
    | false=>
     rw [show offP c=false by unfold offP;rw [hq];rfl] at hΨ
     exact iF (b1F hq) (iF hq hΨ)
    | true=>
     rw [show offP c=!_ by unfold offP;rw [hq,<-inI5];rfl] at hΨ
     exact iT (b1T hq) (iQ hΨ)
   ·rw [any_neI];exact h
  cases ha:offB L with
  | false=>
   rw [ha] at hw
   exact al (t:=offB L) (cmp ⟨rfl,rfl⟩) ha (mid_for hτ hF hB H hmx hw hK)
  | true=>
   rw [ha] at hw
   refine aC (t:=offB L) (cmp ⟨rfl,rfl⟩) ha (bG (decide_eq_true (Nat.lt_trans (fF_len ..) (by decide))) ?_)
   have q:=mid_for hτ hF hB (o0:=true) (g:=g++[.list ((L.filter offP).map AV.int)]++[.list []]) (x2:=x2) (Q:=Q) (xs:=xs) H hmx hw hK
   rw [<-put] at q
   exact q
theorem mid_hyp {mx:Int} {xs:List Int} {Q:List Int×List Int×List Int×List Int×List Int} {page L:List Int} {d m0:Bool} {tr only hy jo di:Bool} {x2:Option AV} (H:LawOK page L tr only hy jo di) (hmx:0<=mx/\mx<1000003)
  (hw:WordsOK page L tr only hy jo di (fJ d m0 (hy&&hyL L) (only&&offB L) (jnA L jo L.length))) {K:Fl->Lo->St->Prop} (hK:∀m σ,K (.ret (.bool true)) m σ):
  aA (tb sc) (vcA C 56) (aS 8 f56.body) 0 (lM none none tr only hy jo di x2 none none) (lS mx xs (fF d m0 false false) Q page L []) K:=by
 cases hy with
 | false=>exact al (t:=false) ⟨rfl,rfl⟩ rfl (only_a hτ hF hB H hmx hw hK)
 | true=>
  have put:putA 59 (.bool true) (fF d m0 false false)=fF d m0 true false:=by cases d<;>cases m0<;>rfl
  have e0:=hd_il H.hne
  have e1:=idx_last_il H.hne
  have c3:∀{σ:St} {i j:Nat},σ[i]?=some (.list (ao (il L) (some 2) (some 4)))->σ[j]?=some (.list [.int 45,.int 45])->cmpA (tb sc) σ .eq (.ref i) (.ref j)=some (decide ((L.take 4).drop 2=[45,45])):=
   λh1 h2=>eq_ll (h1.trans (congrArg (λl=>some (AO.list l)) slice_24)) h2 (by rw [List.length_drop,List.length_take];omega)
  have yes:∀{g:St},hyL L=true->aA (tb sc) (vcA C 56) (aS 9 f56.body) 0 (lM none none tr only true jo di x2 none none) (lS mx xs (putA 59 (.bool true) (fF d m0 false false)) Q page L g) K:=λh=>by
   rw [h] at hw
   rw [put]
   exact only_a hτ hF hB H hmx hw hK
  have ln:decide ((fF d m0 false false).length<1000)=true:=decide_eq_true (Nat.lt_trans (fF_len ..) (by decide))
  cases h1:decide (L.headD 0=45) with
  | true=>exact aC (bO (idx_l rfl e0) (iF (b0T h1) ⟨rfl,rfl⟩)) h1 (bG ln (yes (by unfold hyL;rw [h1];rfl)))
  | false=>
   cases h2:decide (L.getLastD 0=45) with
   | true=>exact aC (bO (idx_l rfl e0) (iT (b0F h1) (bO (idx_l rfl e1) (iF (b0T h2) ⟨rfl,rfl⟩)))) h2 (bG ln (yes (by unfold hyL;rw [h1,h2];rfl)))
   | false=>
    cases h3:decide ((L.take 4).drop 2=[45,45]) with
    | true=>exact aC (bO (idx_l rfl e0) (iT (b0F h1) (bO (idx_l rfl e1) (iT (b0F h2) (bO (c3 rfl rfl) ⟨rfl,rfl⟩))))) h3 (bG ln (yes (by unfold hyL;rw [h1,h2,h3];rfl)))
    | false=>
     have hf:hyL L=false:=by unfold hyL;rw [h1,h2,h3];rfl
     rw [hf] at hw
     exact al (bO (idx_l rfl e0) (iT (b0F h1) (bO (idx_l rfl e1) (iT (b0F h2) (bO (c3 rfl rfl) ⟨rfl,rfl⟩))))) h3 (only_a hτ hF hB (h0:=false) H hmx hw hK)
theorem mid_mark {mx:Int} {xs:List Int} {Q:List Int×List Int×List Int×List Int×List Int} {page L:List Int} {d:Bool} {tr only hy jo di:Bool} {x2:Option AV} (H:LawOK page L tr only hy jo di) (hmx:0<=mx/\mx<1000003)
  (hw:WordsOK page L tr only hy jo di (fJ d (markB L) (hy&&hyL L) (only&&offB L) (jnA L jo L.length))) {K:Fl->Lo->St->Prop} (hK:∀m σ,K (.ret (.bool true)) m σ):
  aA (tb sc) (vcA C 56) (aS 7 f56.body) 0 (lM none none tr only hy jo di x2 none none) (lS mx xs (wd d) Q page L []) K:=by
 have hm:L.headD 0∈aB:=by
  rcases hL:L with _ | ⟨c,r⟩
  ·exact absurd hL H.hne
  ·exact H.hLx c (hL▸List.mem_cons_self ..)
 have e0:=hd_il H.hne
 have e2:markB L=decide (fstG (am (L.headD 0)).gc=16):=rfl
 cases h1:decide (fstG (am (L.headD 0)).gc=16) with
 | true=>
  rw [e2.trans h1] at hw
  exact aC (bO (idx_l rfl e0) (bO (row_ok hm) (bO (fst_ok hm) ⟨rfl,rfl⟩))) h1 (bG (by cases d<;>rfl) (mid_hyp hτ hF hB H hmx hw hK))
 | false=>
  rw [e2.trans h1] at hw
  exact al (bO (idx_l rfl e0) (bO (row_ok hm) (bO (fst_ok hm) ⟨rfl,rfl⟩))) h1 (mid_hyp hτ hF hB H hmx hw hK)
end
noncomputable def PageOK:Prop:=∀(page:List Int),(∀c∈page,c∈aB)->(98:Int)∈page->page.length<=7->∀(tr only hy jo di:Bool),
 LawOK page (bubF (lawL page tr)) tr only hy jo di/\WordsOK page (bubF (lawL page tr)) tr only hy jo di
  (fJ (disF page) (markB (bubF (lawL page tr))) (hy&&hyL (bubF (lawL page tr))) (only&&offB (bubF (lawL page tr))) (jnA (bubF (lawL page tr)) jo (bubF (lawL page tr)).length))
theorem pool_row:∀c∈poolT,c∈aB:=by decide
theorem pool_at {n:Int} (h:0<=n/\n<23):∃c,idxL (il poolT) n=some (.int c)/\c∈aB:=by
 obtain ⟨k,rfl⟩:∃k:Nat,n=k:=⟨n.toNat,by omega⟩
 have hk:k<poolT.length:=by have:poolT.length=23:=rfl;omega
 refine ⟨poolT[k],?_,pool_row _ (List.getElem_mem _)⟩
 rw [x_at,il_get,List.getElem?_eq_getElem hk];rfl
theorem eS {τ:Tb} {α:Alg Prop} {ss:Ss} {p:Nat} {m:Lo} {σ σ':St} {K:Fl->Lo->St->Prop} (h:σ=σ') (g:aA τ α ss p m σ' K):aA τ α ss p m σ K:=h▸g
section
variable {C:Cfg} {sc:List Int} (hτ:C.τ=tb sc) (hF:Snd C) (hB:C.BX=BXof C)
include hτ hF hB
theorem law_4 (HP:PageOK) {mx:Int} {xs p q4 q5 q6 q7 page:List Int} {at':AV} (hmx:0<=mx/\mx<1000003) (pg1:∀c∈page,c∈aB) (pg2:(98:Int)∈page) (pg3:page.length<=7) {K:Fl->Lo->St->Prop} (hK:∀m σ,K (.ret (.bool true)) m σ):
  aA (tb sc) (vcA C 56) (aS 4 f56.body) 0 [some (.gl 3),some (.ref 8),some at',none,none,none,none,some (.ref 0),some (.ref 2),none,none,none,none,none,none,none,none,none,none,none,none,none,none]
   [dkS 1 mx,.list (il xs),.sdict [],.list (il p),.list (il q4),.list (il q5),.list (il q6),.list (il q7),.list (il page)] K:=by
 refine vc hτ rfl rfl (call_draw hτ hF hB rfl rfl (by decide) hmx λn1 xs1 mx1 hn1 hmx=>?_)
 refine vc hτ rfl rfl (call_draw hτ hF hB rfl rfl (by decide) hmx λn2 xs2 mx2 hn2 hmx=>?_)
 refine vc hτ rfl rfl (call_draw hτ hF hB rfl rfl (by decide) hmx λn3 xs3 mx3 hn3 hmx=>?_)
 refine vc hτ rfl rfl (call_draw hτ hF hB rfl rfl (by decide) hmx λn4 xs4 mx4 hn4 hmx=>?_)
 refine vc hτ rfl rfl (call_draw hτ hF hB rfl rfl (by decide) hmx λn5 xs5 mx5 hn5 hmx=>?_)
 obtain ⟨h1,h2⟩:=HP page pg1 pg2 pg3 (decide (n1=3)) (!decide (n2=3)) (!decide (n3=3)) (!decide (n4=3)) (!decide (n5=3))
 exact vc hτ rfl rfl (call_lm hτ hF hB rfl rfl pg1 (by omega) (mid_mark hτ hF hB (Q:=(p,q4,q5,q6,q7)) (x2:=some at') h1 hmx h2 hK))
theorem spec_law (HP:PageOK):aa C 56 [.gl 3] [] λv J=>v=.bool true:=by
 have B:=ai hB ⟨sc,hτ⟩
 refine go hτ hF rfl rfl (vc hτ rfl rfl (aa.mono B (spec_deck hτ hF hB) λv σ hv=>?_))
 obtain ⟨xs,mx,rfl,hmx,rfl⟩:=hv
 refine vc hτ rfl rfl (call_draw hτ hF hB rfl rfl (by decide) hmx λn xs mx hn hmx=>?_)
 refine bG (decide_eq_true (by unfold SZ;omega)) (toC ⟨n.toNat,λj σ=>∃mx xs p,σ=[dkS 1 mx,.list (il xs),.sdict [],.list (il p)]/\(0<=mx/\mx<1000003)/\p.length=j/\j<=n.toNat/\∀c∈p,c∈aB,trivial,⟨mx,xs,[],rfl,hmx,rfl,Nat.zero_le _,λc hc=>nomatch hc⟩,?_⟩)
 rintro j σ ⟨mx,xs,p,rfl,hmx,rfl,hj,hpc⟩
 refine ⟨hj,?_⟩
 have hi:itemAt [dkS 1 mx,.list (il xs),.sdict [],.list (il p)] (.rng 0 n.toNat) p.length=some (if p.length<n.toNat then some (.int (0+(p.length:Int))) else none):=rfl
 rw [hi]
 by_cases hlt:p.length<n.toNat
 ·rw [if_pos hlt]
  refine vc hτ rfl rfl (call_draw hτ hF hB rfl rfl (by decide) hmx λn2 xs mx hn2 hmx=>?_)
  obtain ⟨c,hc1,hc2⟩:=pool_at hn2
  refine bO hc1 ⟨_,rfl,by rw [av];unfold SZ;omega,_,.inl ⟨rfl,rfl⟩,mx,xs,p++[c],?_,hmx,List.length_append,hlt,λc' hc'=>?_⟩
  ·rw [il_app];rfl
  ·rcases List.mem_append.mp hc' with h | h
   ·exact hpc c' h
   ·rw [List.mem_singleton.mp h];exact hc2
 rw [if_neg hlt]
 have hp6:p.length<=6:=by omega
 refine vc hτ rfl rfl (call_draw hτ hF hB rfl rfl ?_ hmx λat' xs mx hat hmx=>?_)
 ·rw [av];omega
 obtain ⟨a,rfl⟩:∃a:Nat,at'=a:=⟨at'.toNat,by omega⟩
 have s1:ao (il p) none (some (a:Int))=il (p.take a):=slice_to a
 rw [av] at hat
 have s2:ao (il p) (some (a:Int)) none=il (p.drop a):=(slice_lo (by rw [av];omega)).trans List.map_drop.symm
 have h1:(p.take a).length<=6:=Nat.le_trans (List.length_take_le' _ _) hp6
 have h2:(p.drop a).length<=6:=by rw [List.length_drop];omega
 refine bG (decide_eq_true ?_) (bG (decide_eq_true ?_) (toSs (eS (σ:=[dkS 1 mx,.list (il xs),.sdict [],.list (il p),.list (ao (il p) none (some (a:Int))),.list [AV.int 98],.list (ao (il p) none (some (a:Int))++[AV.int 98]),.list (ao (il p) (some (a:Int)) none),.list (ao (il p) none (some (a:Int))++[AV.int 98]++ao (il p) (some (a:Int)) none)]) (σ':=[dkS 1 mx,.list (il xs),.sdict [],.list (il p),.list (il (p.take a)),.list (il [98]),.list (il (p.take a++[98])),.list (il (p.drop a)),.list (il (p.take a++[98]++p.drop a))]) ?_ (law_4 hτ hF hB HP hmx ?_ ?_ ?_ λm σ=>rfl))))
 ·show (ao (il p) none (some (a:Int))).length+1<=SZ
  rw [s1,av];unfold SZ;omega
 ·show (ao (il p) none (some (a:Int))++[AV.int 98]).length+(ao (il p) (some (a:Int)) none).length<=SZ
  rw [s1,s2,List.length_append,av,av,List.length_singleton];unfold SZ;omega
 ·rw [s1,s2,il_app,il_app,il_app];rfl
 ·intro c hc
  rcases List.mem_append.mp hc with h | h
  ·rcases List.mem_append.mp h with h | h
   ·exact hpc c (List.mem_of_mem_take h)
   ·rw [List.mem_singleton.mp h];decide
  ·exact hpc c (List.mem_of_mem_drop h)
 ·exact List.mem_append_left _ (List.mem_append_right _ (List.mem_singleton.mpr rfl))
 ·simp only [List.length_append,List.length_take,List.length_drop,List.length_cons,List.length_nil];omega
end
noncomputable def wF (c:Int):Int:=(am c).cc
theorem ccc_w:∀c∈aB,au c=wF c:=by decide +kernel
theorem row_codes:∀c∈aB,c∈ah:=by decide
noncomputable def cnt (S:List Int) (y:Int):Nat:=S.countP λs=>decide (wF y<wF s)
noncomputable def prof:List Int->List Int->Nat:=λω ψ=>match ω,ψ with
 | J,[]=>0
 | S,y::r=>if 0<wF y then max (cnt S y) (prof (y::S) r) else prof [] r
theorem prof_p {S:List Int} {y:Int} {r:List Int} (h:0<wF y):prof S (y::r)=max (cnt S y) (prof (y::S) r):=if_pos h
theorem prof_n {S:List Int} {y:Int} {r:List Int} (h:¬0<wF y):prof S (y::r)=prof [] r:=if_neg h
theorem cnt_c (s:Int) (S:List Int) (y:Int):cnt (s::S) y=cnt S y+if decide (wF y<wF s)=true then 1 else 0:=List.countP_cons
theorem prof_congr:∀(l:List Int) (S T:List Int),(∀y,cnt S y=cnt T y)->prof S l=prof T l:=λω ψ χ ϕ=>match ω,ψ,χ,ϕ with
 | [],J,ζ,η=>rfl
 | y::r,S,T,h=>(Decidable.em (0<wF y)).elim (λq=>by
   rw [prof_p q,prof_p q,h y,prof_congr r (y::S) (y::T) λz=>by rw [cnt_c,cnt_c,h z]]) λq=>(prof_n q).trans (prof_n q).symm
theorem cnt_zero {S:List Int} {y:Int} (h:∀s∈S,wF s<=wF y):cnt S y=0:=List.countP_eq_zero.mpr λs hs q=>Int.not_lt.mpr (h s hs) (odT q)
theorem cnt_one {S:List Int} {x y:Int} (h:wF y<wF x):cnt (x::S) y=cnt S y+1:=by rw [cnt_c,decide_eq_true h];rfl
theorem cnt_swap (S:List Int) (x y z:Int):cnt (x::y::S) z=cnt (y::x::S) z:=by rw [cnt_c,cnt_c,cnt_c,cnt_c,Nat.add_right_comm]
theorem le_cons {S:List Int} {x y:Int} (h:wF y<=wF x) (hS:∀s∈S,wF s<=wF x):∀s∈y::S,wF s<=wF x:=λs hs=>(List.mem_cons.mp hs).elim (λq=>q▸h) (hS s)
theorem nil_le {y:Int}:∀s∈([]:List Int),wF s<=wF y:=λJ h=>(List.not_mem_nil h).elim
theorem prof_go:∀(R:List Int) (n:Nat),(∀(x:Int) (S:List Int),0<wF x->(∀s∈S,wF s<=wF x)->prof (x::S) R<=n+1->prof S (goF x R)<=n)/\(∀(x:Int) (S:List Int),¬0<wF x->prof [] R<=n+1->prof S (goF x R)<=n):=λω ψ=>match ω,ψ with
 | [],n=>⟨λx S hx hS J=>prof_p hx▸(Nat.max_le.mpr ⟨cnt_zero hS▸Nat.zero_le n,Nat.zero_le n⟩),λx S hx J=>prof_n hx▸(Nat.zero_le n)⟩
 | y::r,n=>⟨λx S hx hS h=>(Decidable.em (invF x y)).elim (λhi=>by
   rw [prof_p hi.1] at h
   rw [goF,if_pos hi,prof_p hi.1]
   have q:=Nat.max_le.mp h
   rw [cnt_one hi.2,prof_congr r _ _ (cnt_swap S y x)] at q
   exact Nat.max_le.mpr ⟨Nat.le_of_succ_le_succ q.1,(prof_go r n).1 x (y::S) hx (le_cons (Int.le_of_lt hi.2) hS) q.2⟩) λhi=>by
   rw [goF,if_neg hi,prof_p hx,cnt_zero hS,Nat.zero_max]
   exact (Decidable.em (0<wF y)).elim (λhy=>(prof_go r n).1 y (x::S) hy (have z:=Int.not_lt.mp λq=>hi ⟨hy,q⟩;le_cons z λs hs=>Int.le_trans (hS s hs) z) (Nat.max_le.mp (prof_p hy▸h)).2) λhy=>(prof_go r n).2 y (x::S) hy (prof_n hy▸h),
  λx S hx h=>by
   rw [goF,if_neg λq:invF x y=>hx (Int.lt_trans q.1 q.2),prof_n hx]
   exact (Decidable.em (0<wF y)).elim (λhy=>(prof_go r n).1 y [] hy nil_le (Nat.max_le.mp (prof_p hy▸h)).2) λhy=>(prof_go r n).2 y [] hy (prof_n hy▸h)⟩
theorem prof_pas (n:Nat):∀l:List Int,prof [] l<=n+1->prof [] (pasF l)<=n:=λω ψ=>match ω,ψ with
 | [],J=>Nat.zero_le n
 | x::r,h=>(Decidable.em (0<wF x)).elim (λhx=>(prof_go r n).1 x [] hx nil_le (Nat.max_le.mp (prof_p hx▸h)).2) λhx=>(prof_go r n).2 x [] hx (prof_n hx▸h)
theorem prof_it (l:List Int):∀n k,prof [] l<=n+k->prof [] (itF n l)<=k:=λω ψ χ=>match ω,ψ,χ with
 | 0,k,h=>Nat.zero_add k▸h
 | n+1,k,h=>prof_pas k _ (prof_it l n (k+1) (Nat.succ_add_eq_add_succ n k▸h))
theorem prof_le:∀(l S:List Int),prof S l<=S.length+l.length:=λω ψ=>match ω,ψ with
 | [],J=>Nat.zero_le _
 | y::r,S=>(Decidable.em (0<wF y)).elim (λq=>prof_p q▸Nat.max_le.mpr ⟨Nat.le_trans List.countP_le_length (Nat.le_add_right ..),Nat.succ_add_eq_add_succ S.length r.length▸prof_le r (y::S)⟩) λq=>
   prof_n q▸Nat.le_trans (prof_le r []) (Nat.add_le_add (Nat.zero_le S.length) (Nat.le_succ r.length))
noncomputable def StdR:List Int->Prop:=λω=>match ω with
 | []=>True
 | [J]=>True
 | x::y::r=>¬invF x y/\StdR (y::r)
theorem std_of:∀(l S:List Int),prof S l<=0->StdR l:=λω ψ χ=>match ω,ψ,χ with
 | [],J,ζ=>trivial
 | [J],ζ,η=>trivial
 | x::y::r,S,h=>⟨λq=>by
   rw [prof_p (Int.lt_trans q.1 q.2),prof_p q.1,cnt_one q.2] at h
   exact Nat.not_succ_le_zero _ (Nat.max_le.mp (Nat.max_le.mp h).2).1,
  (Decidable.em (0<wF x)).elim (λhx=>std_of (y::r) (x::S) (Nat.max_le.mp (prof_p hx▸h)).2) λhx=>std_of (y::r) [] (prof_n hx▸h)⟩
theorem std_bub (l:List Int):StdR (bubF l):=std_of _ [] (prof_it l l.length 0 (Nat.zero_add l.length▸prof_le l []))
theorem steady_of:∀l:List Int,(∀c∈l,c∈aB)->StdR l->Steady l:=λω ψ χ=>match ω,ψ,χ with
 | [],J,ζ=>λJ J J h1=>ae h1
 | [J],ζ,η=>λJ J J J h2=>ae h2
 | x::y::r,hm,h=>λj=>match j with
  | 0=>λa b h1 h2=>by
   cases Option.some.inj h1;cases Option.some.inj h2
   rw [ccc_w x (hm x (.head _)),ccc_w y (hm y (.tail _ (.head _)))]
   exact h.1
  | j+1=>λa b h1 h2=>steady_of (y::r) (λc hc=>hm c (.tail _ hc)) h.2 j a b h1 h2
theorem ins_comm {a b:Int×Int} (h:a.1≠b.1):∀m:List (Int×Int),aR a (aR b m)=aR b (aR a m):=λω=>match ω with
 | []=>by
  simp only [aR]
  by_cases q:a.1<=b.1
  ·rw [if_pos q,if_neg (by omega)]
  ·rw [if_neg q,if_pos (by omega)]
 | y::ys=>by
  have ih:=ins_comm h ys
  simp only [aR]
  by_cases qb:b.1<=y.1<;>by_cases qa:a.1<=y.1
  ·rw [if_pos qb,if_pos qa]
   simp only [aR]
   by_cases q:a.1<=b.1
   ·rw [if_pos q,if_neg (by omega),if_pos qb]
   ·rw [if_neg q,if_pos qa,if_pos (show b.1<=a.1 by omega)]
  ·rw [if_pos qb,if_neg qa]
   simp only [aR]
   rw [if_neg (by omega),if_neg qa,if_pos qb]
  ·rw [if_neg qb,if_pos qa]
   simp only [aR]
   rw [if_pos qa,if_neg (by omega),if_neg qb]
  ·rw [if_neg qb,if_neg qa]
   simp only [aR]
   rw [if_neg qa,if_neg qb,ih]
noncomputable def SameS (s t:List Int×List (Int×Int)):Prop:=s.1=t.1/\∀u,aU (s.2++u)=aU (t.2++u)
theorem same_step {s t:List Int×List (Int×Int)} (h:SameS s t) (c:Int):SameS (aP s c) (aP t c):=by
 unfold aP
 split
 ·refine ⟨h.1,λu=>?_⟩
  simp only [List.append_assoc]
  exact h.2 _
 ·have:=h.2 []
  rw [List.append_nil,List.append_nil] at this
  exact ⟨by rw [h.1,this],λu=>rfl⟩
theorem same_fold:∀(l:List Int) {s t:List Int×List (Int×Int)},SameS s t->SameS (l.foldl aP s) (l.foldl aP t):=@λω=>@λψ=>@λχ=>@λϕ=>match ω,ψ,χ,ϕ with
 | [],J,ζ,h=>h
 | c::l,J,ζ,h=>same_fold l (same_step h c)
theorem same_end {s t:List Int×List (Int×Int)} (h:SameS s t):ordE s=ordE t:=by
 have:=h.2 []
 rw [List.append_nil,List.append_nil] at this
 unfold ordE
 rw [h.1,this]
theorem sort_foldr:∀(l u:List (Int×Int)),aU (l++u)=l.foldr aR (aU u):=λω ψ=>match ω,ψ with
 | [],J=>rfl
 | a::l,u=>by
  show aR a (aU (l++u))=_
  rw [sort_foldr l u];rfl
theorem same_swap {x y:Int} (hx:x∈aB) (hy:y∈aB) (h:invF x y) (s:List Int×List (Int×Int)):SameS (aP (aP s y) x) (aP (aP s x) y):=by
 have h1:0<au y:=by rw [ccc_w y hy];exact h.1
 have h2:au y<au x:=by rw [ccc_w y hy,ccc_w x hx];exact h.2
 have h3:0<au x:=by omega
 unfold aP
 simp only [if_pos h1,if_pos h3]
 refine ⟨rfl,λu=>?_⟩
 simp only [List.append_assoc,List.cons_append,List.nil_append]
 rw [sort_foldr,sort_foldr]
 congr 1
 exact ins_comm (a:=(au y,y)) (b:=(au x,x)) (by show au y≠au x;omega) (aU u)
theorem ord_go:∀(R:List Int) (x:Int) (s:List Int×List (Int×Int)),(∀c∈x::R,c∈aB)->ordE ((goF x R).foldl aP s)=ordE ((x::R).foldl aP s):=λω ψ χ ϕ=>match ω,ψ,χ,ϕ with
 | [],J,ζ,η=>rfl
 | y::r,x,s,hm=>by
  by_cases hi:invF x y
  ·rw [goF,if_pos hi]
   show ordE ((goF x r).foldl aP (aP s y))=_
   rw [ord_go r x (aP s y) (λc hc=>hm c (by simp only [List.mem_cons] at hc ⊢;rcases hc with h | h<;>simp [h]))]
   exact same_end (same_fold r (same_swap (hm x (by simp)) (hm y (by simp)) hi s))
  ·rw [goF,if_neg hi]
   show ordE ((goF y r).foldl aP (aP s x))=_
   rw [ord_go r y (aP s x) (λc hc=>hm c (List.mem_cons_of_mem _ hc))]
   rfl
theorem ord_pas (l:List Int) (hm:∀c∈l,c∈aB):ordF (pasF l)=ordF l:=by
 cases l with
 | nil=>rfl
 | cons x r=>exact ord_go r x ([],[]) hm
theorem ord_it (l:List Int) (hm:∀c∈l,c∈aB):∀n,ordF (itF n l)=ordF l:=λω=>match ω with
 | 0=>rfl
 | n+1=>by
  show ordF (pasF (itF n l))=_
  rw [ord_pas _ λc hc=>hm c ((itF_mem n l c).mp hc),ord_it l hm n]
theorem sort_id:∀Q:List (Int×Int),Q.Pairwise (λa b=>a.1<=b.1)->aU Q=Q:=λω ψ=>match ω,ψ with
 | [],J=>rfl
 | a::Q,h=>by
  show aR a (aU Q)=_
  rw [List.pairwise_cons] at h
  rw [sort_id Q h.2]
  cases Q with
  | nil=>rfl
  | cons b Q=>
   simp only [aR]
   rw [if_pos (h.1 b (by simp))]
theorem std_tail {x:Int} {l:List Int} (h:StdR (x::l)):StdR l:=by
 cases l with
 | nil=>trivial
 | cons y r=>exact h.2
theorem ord_std:∀(l:List Int),(∀c∈l,c∈aB) ->
  (∀(x:Int) (P:List Int) (Q:List (Int×Int)),x∈aB->0<au x->Q.Pairwise (λa b=>a.1<=b.1)->(∀q∈Q,q.1<=au x)->StdR (x::l)->ordE (l.foldl aP (P,Q++[(au x,x)]))=P++Q.map (λJ=>J.2)++x::l) /\
  (∀P:List Int,StdR l->ordE (l.foldl aP (P,[]))=P++l):=λω ψ=>match ω,ψ with
 | [],J=>by
  constructor
  ·intro x P Q hxm hx hQ hb _
   have hs:(Q++[(au x,x)]).Pairwise (λa b=>a.1<=b.1):=by
    rw [List.pairwise_append]
    exact ⟨hQ,List.pairwise_singleton _ _,λa ha b hb'=>by simp at hb';subst hb';exact hb a ha⟩
   simp only [List.foldl_nil,ordE,sort_id _ hs]
   simp
  ·intro P _
   simp [ordE,aU]
 | y::l,hm=>by
  obtain ⟨A,B⟩:=ord_std l λc hc=>hm c (List.mem_cons_of_mem _ hc)
  have hy:=hm y (List.mem_cons_self ..)
  constructor
  ·intro x P Q hxm hx hQ hb hs
   have hs':(Q++[(au x,x)]).Pairwise (λa b=>a.1<=b.1):=by
    rw [List.pairwise_append]
    exact ⟨hQ,List.pairwise_singleton _ _,λa ha b hb'=>by simp at hb';subst hb';exact hb a ha⟩
   rw [List.foldl_cons]
   by_cases h0:0<au y
   ·have e:aP (P,Q++[(au x,x)]) y=(P,(Q++[(au x,x)])++[(au y,y)]):=by unfold aP;rw [if_pos h0]
    have hle:au x<=au y:=by
     apply Classical.byContradiction
     intro q
     refine hs.1 ⟨?_,?_⟩
     ·show 0<wF y;rw [<-ccc_w y hy];exact h0
     ·show wF y<wF x;rw [<-ccc_w y hy,<-ccc_w x hxm];omega
    rw [e,A y P (Q++[(au x,x)]) hy h0 hs' (by
     intro q hq
     rcases List.mem_append.mp hq with h | h
     ·have:=hb q h;omega
     ·simp at h;subst h;exact hle) hs.2]
    simp
   ·have e:aP (P,Q++[(au x,x)]) y=(P++(Q++[(au x,x)]).map (λJ=>J.2)++[y],[]):=by unfold aP;rw [if_neg h0];simp only [sort_id _ hs']
    rw [e,B _ (std_tail hs.2)]
    simp
  ·intro P hs
   rw [List.foldl_cons]
   by_cases h0:0<au y
   ·have e:aP (P,[]) y=(P,[]++[(au y,y)]):=by unfold aP;rw [if_pos h0]
    rw [e,A y P [] hy h0 List.Pairwise.nil (by intro q hq;cases hq) hs]
    simp
   ·have e:aP (P,[]) y=(P++[y],[]):=by unfold aP;rw [if_neg h0];simp [aU]
    rw [e,B _ (std_tail hs)]
    simp
theorem ord_bub (l:List Int) (hm:∀c∈l,c∈aB):ordF l=bubF l:=by
 rw [<-ord_it l hm l.length]
 show ordF (bubF l)=_
 have hb:∀c∈bubF l,c∈aB:=λc hc=>hm c ((itF_mem l.length l c).mp hc)
 have:=(ord_std (bubF l) hb).2 [] (std_bub l)
 simpa [ordF] using this
theorem ord_mate (l:List Int):ordF (l++[46,1488])=ordF l++[46,1488]:=by
 have h1:¬0<au 46:=by decide +kernel
 have h2:¬0<au 1488:=by decide +kernel
 unfold ordF
 rw [List.foldl_append]
 generalize l.foldl aP ([],[])=s
 simp only [List.foldl_cons,List.foldl_nil]
 have e1:aP s 46=(s.1++(aU s.2).map (λJ=>J.2)++[46],[]):=by unfold aP;rw [if_neg h1]
 rw [e1]
 have e2:∀P,aP (P,[]) 1488=(P++[1488],[]):=by intro P;unfold aP;rw [if_neg h2];simp [aU]
 rw [e2]
 simp [ordE,aU]
theorem map_law:∀c∈aB,∀tr:Bool,(mapF c tr).getD [c]=mapW tr c:=by decide +kernel
theorem bad_law:∀c∈aB,∀tr:Bool,(mapF c tr).isNone=decide ((am c).st=48):=by decide +kernel
theorem mapL_law {page:List Int} (hm:∀c∈page,c∈aB) (tr:Bool):mapL page tr=lawL page tr:=by
 induction page with
 | nil=>rfl
 | cons c page ih=>
  simp only [mapL,lawL,List.flatMap_cons] at ih ⊢
  rw [map_law c (hm c (by simp)) tr,ih λd hd=>hm d (List.mem_cons_of_mem _ hd)]
theorem badL_law {page:List Int} (hm:∀c∈page,c∈aB) (tr:Bool):aF page tr=disF page:=by
 induction page with
 | nil=>rfl
 | cons c page ih=>
  simp only [aF,disF,List.any_cons] at ih ⊢
  rw [bad_law c (hm c (by simp)) tr,ih λd hd=>hm d (List.mem_cons_of_mem _ hd)]
theorem mate_map (tr:Bool):mapL [46,1488] tr=[46,1488]/\aF [46,1488] tr=false:=by cases tr<;>decide +kernel
theorem law_ok {page:List Int} (hx:∀c∈page,c∈aB) (h98:(98:Int)∈page) (hl:page.length<=7) (tr only hy jo di:Bool):LawOK page (bubF (lawL page tr)) tr only hy jo di:=by
 have hM:=lawL_mem (tr:=tr) hx
 have hMl:=lawL_len (tr:=tr) hx
 have hb:∀c∈bubF (lawL page tr),c∈aB:=λc hc=>hM c ((itF_mem _ _ c).mp hc)
 refine ⟨λc hc=>row_codes c (hx c hc),by omega,?_,?_,hb,?_,?_,steady_of _ hb (std_bub _)⟩
 ·rw [mapL_law hx,ord_bub _ hM]
 ·rw [mapL_app,(mate_map tr).1,mapL_law hx,ord_mate,ord_bub _ hM]
 ·unfold bubF;rw [itF_len];omega
 ·have:(98:Int)∈bubF (lawL page tr):=by
   refine (itF_mem _ _ _).mpr (List.mem_flatMap.mpr ⟨98,h98,?_⟩)
   cases tr<;>decide
  intro q
  rw [q] at this;cases this
theorem dd_inv:∀(l a:List Nat),a.Pairwise (λJ ζ=>J < ζ)->(∀x∈a,∀y∈l,x<=y)->l.Pairwise (λJ ζ=>J<=ζ) ->
  (l.foldl (λa w=>if a=[]\/a.getLast?≠some w then a++[w] else a) a).Pairwise (λJ ζ=>J < ζ)/\∀k,k∈l.foldl (λa w=>if a=[]\/a.getLast?≠some w then a++[w] else a) a↔k∈a\/k∈l:=λω ψ χ ϕ ϱ=>match ω,ψ,χ,ϕ,ϱ with
 | [],a,h,J,ζ=>⟨h,λk=>by simp⟩
 | w::l,a,h,hb,hl=>by
  rw [List.pairwise_cons] at hl
  rw [List.foldl_cons]
  by_cases hc:a=[]\/a.getLast?≠some w
  ·rw [if_pos hc]
   have hlt:∀x∈a,x<w:=by
    intro x hx
    rcases hc with rfl | hc
    ·cases hx
    ·have hne:a≠[]:=by intro q;rw [q] at hx;cases hx
     obtain ⟨b,y,rfl⟩:∃b y,a=b++[y]:=⟨a.dropLast,a.getLast hne,(List.dropLast_concat_getLast hne).symm⟩
     have hyw:y<=w:=hb y (by simp) w (by simp)
     have hyn:y≠w:=by intro q;apply hc;rw [q];simp
     rw [List.pairwise_append] at h
     rcases List.mem_append.mp hx with hx | hx
     ·have:=h.2.2 x hx y (by simp);omega
     ·simp at hx;omega
   have r:=dd_inv l (a++[w]) (by
     rw [List.pairwise_append]
     exact ⟨h,List.pairwise_singleton _ _,λx hx y hy=>by simp at hy;subst hy;exact hlt x hx⟩) (by
     intro x hx y hy
     rcases List.mem_append.mp hx with hx | hx
     ·exact hb x hx y (List.mem_cons_of_mem _ hy)
     ·simp at hx;subst hx;exact hl.1 y hy) hl.2
   refine ⟨r.1,λk=>?_⟩
   rw [r.2 k]
   simp only [List.mem_append,List.mem_cons,List.not_mem_nil,or_false]
   constructor
   ·rintro ((q | q) | q)
    ·exact .inl q
    ·exact .inr (.inl q)
    ·exact .inr (.inr q)
   ·rintro (q | q | q)
    ·exact .inl (.inl q)
    ·exact .inl (.inr q)
    ·exact .inr q
  ·rw [if_neg hc]
   have hw:w∈a:=by
    have:a.getLast?=some w:=by
     apply Classical.byContradiction
     intro q
     exact hc (.inr q)
    exact List.mem_of_getLast? this
   have r:=dd_inv l a h (λx hx y hy=>hb x hx y (List.mem_cons_of_mem _ hy)) hl.2
   refine ⟨r.1,λk=>?_⟩
   rw [r.2 k,List.mem_cons]
   constructor
   ·rintro (q | q)
    ·exact .inl q
    ·exact .inr (.inr q)
   ·rintro (q | rfl | q)
    ·exact .inl q
    ·exact .inl hw
    ·exact .inr q
theorem set_eq {ws ks:List Nat} (hk:ks.Nodup) (h:∀k,k∈ws↔k∈ks):setF ws=aD ks:=by
 have r:=dd_inv (aD ws) [] List.Pairwise.nil (by intro x hx;cases hx) (sortN_sorted ws)
 have hm:∀k,k∈setF ws↔k∈aD ks:=by
  intro k
  show k∈ddF (aD ws)↔_
  unfold ddF
  rw [r.2 k,(sortN_perm ks).mem_iff,<-h k,(sortN_perm ws).mem_iff]
  simp
 have hs:(setF ws).Pairwise (λJ ζ=>J < ζ):=r.1
 have hn1:(setF ws).Nodup:=hs.imp λh=>Nat.ne_of_lt h
 have hn2:(aD ks).Nodup:=(sortN_perm ks).nodup_iff.mpr hk
 exact one_sorted (λa J b J h1 h2=>Nat.le_antisymm h1 h2) ((List.perm_ext_iff_of_nodup hn1 hn2).mpr hm) (hs.imp λh=>Nat.le_of_lt h) (sortN_sorted ks)
theorem join_near (asked:List Nat):∀l:List Nat,joinS l asked=(nearF l).any λj=>decide (j∈asked):=λω=>match ω with
 | []=>rfl
 | k::l=>by
  have ih:=join_near asked l
  unfold joinS nearF at ih ⊢
  by_cases h:k=31
  ·subst h
   simpa using ih
  ·simp [h,inO]
theorem jt_tab:∀c∈aB,aN 67 c=(am c).jt:=by decide +kernel
theorem bc_tab:∀c∈aB,aN 36 c=(am c).bc:=by decide +kernel
theorem may_jn {L:List Int} (hL:∀c∈L,c∈aB) {i:Nat} (hi:i<L.length) (h:L.getD i 0=8204\/L.getD i 0=8205):mayF L i=jnF L i:=by
 unfold mayF jnF
 have e1:(L.take i).reverse.map (aN 67)=((L.take i).map λc=>(am c).jt).reverse:=by
  rw [<-List.map_reverse]
  apply List.map_congr_left
  intro c hc
  exact jt_tab c (hL c (List.mem_of_mem_take (List.mem_reverse.mp hc)))
 have e2:(L.drop (i+1)).map (aN 67)=(L.drop (i+1)).map λc=>(am c).jt:=by
  apply List.map_congr_left
  intro c hc
  exact jt_tab c (hL c (List.mem_of_mem_drop hc))
 rw [e1,e2,join_near,join_near]
 have e3:(!decide (L.getD i 0=8205))=decide (L.getD i 0=8204):=by
  rcases h with h | h<;>rw [h]<;>rfl
 rw [e3]
 have e4:(decide (0<i)&&decide (au (L.getD (i-1) 0)=9))=(decide (0<i)&&decide ((am (L.getD (i-1) 0)).cc=9)):=by
  by_cases h0:0<i
  ·have hc:L.getD (i-1) 0∈aB:=by
    rw [List.getD_eq_getElem?_getD,List.getElem?_eq_getElem (by omega)]
    exact hL _ (List.getElem_mem _)
   rw [ccc_w _ hc];rfl
  ·rw [decide_eq_false h0];rfl
 rw [e4,Bool.and_assoc]
theorem jw_jn {L:List Int} (hL:∀c∈L,c∈aB) {jo:Bool} {i:Nat} (hi:i<L.length):jwB L jo i=jnP L jo i:=by
 unfold jwB jnP
 cases jo with
 | false=>rfl
 | true=>
  rw [Bool.true_and,Bool.true_and,Bool.or_comm (decide (L.getD i 0=8205))]
  cases hA:(decide (L.getD i 0=8204)||decide (L.getD i 0=8205)) with
  | false=>rfl
  | true=>
   rw [may_jn hL hi (by simpa using hA)]
theorem jw_mem {L:List Int} (hL:∀c∈L,c∈aB) {jo:Bool} {k:Nat}:k∈jwF L jo L.length↔jnA L jo L.length=true/\k=66:=by
 unfold jwF jnA
 rw [List.mem_flatMap,List.any_eq_true]
 constructor
 ·rintro ⟨i,hi,hk⟩
  split at hk
  ·rename_i hb
   rw [jw_jn hL (List.mem_range.mp hi)] at hb
   exact ⟨⟨i,hi,hb⟩,by simpa using hk⟩
  ·cases hk
 ·rintro ⟨⟨i,hi,hb⟩,rfl⟩
  refine ⟨i,hi,?_⟩
  rw [jw_jn hL (List.mem_range.mp hi),if_pos hb]
  simp
theorem keep_last:∀ks:List Nat,(keepF ks).getLast?=lastF ks:=λω=>match ω with
 | []=>rfl
 | k::r=>by
  have ih:=keep_last r
  unfold lastF at ih ⊢
  rw [List.reverse_cons,List.find?_append,<-ih,show keepF (k::r)=if (k != 21)||r.any (λJ=>J != 21) then k::keepF r else keepF r from rfl]
  cases hr:r.any (λJ=>J != 21) with
  | true=>
   rw [Bool.or_true,if_pos rfl]
   obtain ⟨z,hz1,hz2⟩:=List.any_eq_true.mp hr
   have hs:(r.reverse.find? λk=>decide (k≠21)).isSome:=by
    rw [List.find?_isSome]
    exact ⟨z,List.mem_reverse.mpr hz1,by simpa using hz2⟩
   rw [<-ih] at hs
   obtain ⟨w,hw⟩:=Option.isSome_iff_exists.mp hs
   rw [List.getLast?_cons,hw];rfl
  | false=>
   have hn:(r.reverse.find? λk=>decide (k≠21))=none:=by
    rw [List.find?_eq_none]
    intro z hz
    have:=List.any_eq_false.mp hr z (List.mem_reverse.mp hz)
    simpa using this
   rw [<-ih] at hn
   have hk:keepF r=[]:=List.getLast?_eq_none_iff.mp hn
   rw [hk]
   by_cases h:k=21
   ·subst h;rfl
   ·simp [h]
theorem last_in {ks:List Nat} {l:List Nat} (h0:0∉l):inO (lastF ks) l=decide ((keepF ks).getLastD 0∈l):=by
 rw [<-keep_last,List.getLastD_eq_getLast?]
 cases (keepF ks).getLast? with
 | none=>simp [inO,h0]
 | some w=>simp [inO]
theorem out_any (ok ks:List Nat) (T:List Nat) (h:∀k,k∈T↔k∈nearS++ok):decide (outF ok ks=[])=!(ks.any λk=>!decide (k∈T)):=by
 have e:(ks.any λk=>!decide (k∈T))=ks.any λk=>!decide (k∈nearS++ok):=by
  congr 1
  funext k
  rw [decide_eq_decide.mpr (h k)]
 rw [e]
 unfold outF
 cases ha:ks.any λk=>!decide (k∈nearS++ok) with
 | true=>
  obtain ⟨z,hz1,hz2⟩:=List.any_eq_true.mp ha
  rw [decide_eq_false]
  ·rfl
  ·intro q
   have:z∈ks.filter λk=>!decide (k∈nearS++ok):=List.mem_filter.mpr ⟨hz1,hz2⟩
   rw [q] at this;cases this
 | false=>
  rw [decide_eq_true]
  ·rfl
  ·rw [List.filter_eq_nil_iff]
   intro z hz
   exact List.any_eq_false.mp ha z hz
theorem both_two (ks:List Nat):decide (([9,2].filter λk=>decide (k∈ks)).length=2)=(decide (9∈ks)&&decide (2∈ks)):=by
 by_cases h9:9∈ks<;>by_cases h2:2∈ks<;>simp [h9,h2]
theorem ow_tw {ks:List Nat} (hne:ks≠[]):owF ks=twF ks:=by
 cases ks with
 | nil=>exact absurd rfl hne
 | cons k r=>
  have sub:∀{A B:List Nat},(A.all λq=>decide (q∈B))=true->(B.all λq=>decide (q∈A))=true->∀q,q∈A↔q∈B:=by
   intro A B h1 h2 q
   exact ⟨λh=>odT (List.all_eq_true.mp h1 q h),λh=>odT (List.all_eq_true.mp h2 q h)⟩
  have hl:∀q,q∈leftT↔q∈nearS++[12]:=sub (by decide) (by decide)
  have hr:∀q,q∈rightT↔q∈nearS++[30,1,2]:=sub (by decide) (by decide)
  unfold owF twF
  rw [out_any [12] (k::r) leftT hl,out_any [30,1,2] (k::r) rightT hr]
  rw [last_in (ks:=k::r) (l:=[30,1,9,2]) (by decide),last_in (ks:=k::r) (l:=[12,9]) (by decide)]
  have hb:=both_two (k::r)
  generalize decide ((keepF (k::r)).getLastD 0∈[12,9])=A
  generalize decide ((keepF (k::r)).getLastD 0∈[30,1,9,2])=B
  generalize ((k::r).any λk=>!decide (k∈leftT))=E
  generalize ((k::r).any λk=>!decide (k∈rightT))=D
  rw [<-hb]
  generalize ([9,2].filter λq=>decide (q∈k::r)).length=n
  show (if k=30\/k=1 then (if (D||decide (n=2))=true then false else B) else if k=12 then !E&&A else false)=if k=12 then !E&&A else if k∉[30,1]\/n=2 then false else !D&&B
  by_cases h12:k=12
  ·subst h12
   rfl
  ·simp only [if_neg h12]
   by_cases h30:k=30\/k=1
   ·rw [if_pos h30]
    have hm:¬(k∉[30,1]):=by
     intro q;apply q
     rcases h30 with h | h<;>simp [h]
    by_cases hn:n=2
    ·rw [if_pos (show ¬k∈[30,1]\/n=2 from .inr hn),if_pos (by rw [decide_eq_true hn];simp)]
    ·rw [if_neg (show ¬(¬k∈[30,1]\/n=2) by rintro (q | q);exact hm q;exact hn q),decide_eq_false hn,Bool.or_false]
     cases D<;>rfl
   ·rw [if_neg h30]
    have hm:k∉[30,1]:=by
     intro q
     simp at q
     exact h30 q
    rw [if_pos (show ¬k∈[30,1]\/n=2 from .inl hm)]
theorem bc_kinds {L:List Int} (hL:∀c∈L,c∈aB):bcL L=aG L:=List.map_congr_left λc hc=>bc_tab c (hL c hc)
theorem cw_tab:∀c∈aB,∀tr only:Bool,∀d∈mapW tr c,cwB tr only d=(decide ((am c).st=48)||(only&&offP d)):=by decide +kernel
theorem mk_tab:∀c∈aB,decide (aN 57 c∈[19,17,18])=decide (fstG (am c).gc=16):=by decide +kernel
theorem lw_mate:∀tr only hy jo:Bool,lwF [1488] tr only hy jo=[]:=by decide +kernel
theorem ow_mate:owF (bcL [1488])=true:=by decide +kernel
theorem rtl_mate:(bcL [1488]).any isRtl=true:=by decide +kernel
theorem cw_law {page:List Int} (hx:∀c∈page,c∈aB) (tr only:Bool) {L:List Int} (hL:∀c,c∈L↔c∈lawL page tr):(L.any (cwB tr only)=true\/disF page=true)↔((only&&offB L)=true\/disF page=true):=by
 constructor
 ·rintro (h | h)
  ·obtain ⟨d,hd,hb⟩:=List.any_eq_true.mp h
   obtain ⟨c,hc,hdc⟩:=List.mem_flatMap.mp ((hL d).mp hd)
   rw [cw_tab c (hx c hc) tr only d hdc,Bool.or_eq_true] at hb
   rcases hb with hb | hb
   ·exact .inr (List.any_eq_true.mpr ⟨c,hc,hb⟩)
   ·rw [Bool.and_eq_true] at hb
    refine .inl ?_
    rw [Bool.and_eq_true]
    exact ⟨hb.1,List.any_eq_true.mpr ⟨d,hd,hb.2⟩⟩
  ·exact .inr h
 ·rintro (h | h)
  ·rw [Bool.and_eq_true] at h
   obtain ⟨d,hd,hb⟩:=List.any_eq_true.mp h.2
   obtain ⟨c,hc,hdc⟩:=List.mem_flatMap.mp ((hL d).mp hd)
   refine .inl (List.any_eq_true.mpr ⟨d,hd,?_⟩)
   rw [cw_tab c (hx c hc) tr only d hdc,h.1,hb]
   simp
  ·exact .inr h
theorem hy_law {L:List Int} (hne:L≠[]):hyB L=hyL L:=by
 unfold hyB hyL
 have e1:decide (L.take 1=[45])=decide (L.headD 0=45):=by
  cases L with
  | nil=>exact absurd rfl hne
  | cons c r=>simp
 have e2:decide (L.drop (L.length-1)=[45])=decide (L.getLastD 0=45):=by
  obtain ⟨b,y,rfl⟩:∃b y,L=b++[y]:=⟨L.dropLast,L.getLast hne,(List.dropLast_concat_getLast hne).symm⟩
  have h1:(b++[y]).drop ((b++[y]).length-1)=[y]:=by
   rw [List.length_append,List.length_cons,List.length_nil,Nat.zero_add,Nat.add_sub_cancel,List.drop_append_of_le_length (Nat.le_refl _),List.drop_length,List.nil_append]
  rw [h1,List.getLastD_eq_getLast?,List.getLast?_append]
  refine decide_eq_decide.mpr ?_
  simp
 rw [e1,e2,Bool.or_assoc]
theorem hy_mem {L:List Int} (hx:∀c∈L,c∈aB) (hne:L≠[]) {hy:Bool} {k:Nat}:k∈hyF L hy↔(hy&&hyL L)=true/\k=59:=by
 unfold hyF
 have hp:¬L.take 4=[120,110,45,45]:=by
  intro q
  have:(120:Int)∈L:=List.mem_of_mem_take (by rw [q];simp)
  exact absurd (hx _ this) (by decide)
 rw [hy_law hne,if_neg hp]
 cases hy<;>cases hyL L<;>simp
theorem mk_mem {L:List Int} (hx:∀c∈L,c∈aB) (hne:L≠[]) {k:Nat}:k∈mkF L↔markB L=true/\k=72:=by
 cases L with
 | nil=>exact absurd rfl hne
 | cons c r=>
  have h:=mk_tab c (hx c (by simp))
  show k∈(if aN 57 c∈[19,17,18] then [72] else [])↔decide (fstG (am c).gc=16)=true/\k=72
  rw [<-h]
  by_cases q:aN 57 c∈[19,17,18]
  ·rw [if_pos q,decide_eq_true q];simp
  ·rw [if_neg q,decide_eq_false q];simp
theorem cw_mem {L:List Int} {tr only:Bool} {k:Nat}:k∈cwF L tr only↔L.any (cwB tr only)=true/\k=48:=by
 unfold cwF
 cases L.any (cwB tr only)<;>simp
theorem put_mem (k:Nat) (v:AV) (q:Nat):∀fs:List (Nat×AV),q∈(putA k v fs).map (λJ=>J.1)↔q=k\/q∈fs.map (λJ=>J.1):=λω=>match ω with
 | []=>by simp [putA]
 | (a,b)::fs=>by
  have ih:=put_mem k v q fs
  unfold putA
  split
  ·rename_i h;subst h;simp
  ·simp only [List.map_cons,List.mem_cons,ih]
   constructor
   ·rintro (h | h | h)
    ·exact .inr (.inl h)
    ·exact .inl h
    ·exact .inr (.inr h)
   ·rintro (h | h | h)
    ·exact .inr (.inl h)
    ·exact .inl h
    ·exact .inr (.inr h)
theorem fput_mem (b:Bool) (k q:Nat) (fs:List (Nat×AV)):q∈(fput b k fs).map (λJ=>J.1)↔(b=true/\q=k)\/q∈fs.map (λJ=>J.1):=by
 unfold fput
 cases b with
 | true=>rw [if_pos rfl,put_mem];simp
 | false=>simp
theorem wd_mem (b:Bool) (q:Nat):q∈(wd b).map (λJ=>J.1)↔b=true/\q=48:=by cases b<;>simp [wd]
theorem fJ_nodup (d m h o j x:Bool):((fput x 37 (fJ d m h o j)).map (λJ=>J.1)).Nodup:=by
 cases d<;>cases m<;>cases h<;>cases o<;>cases j<;>cases x<;>decide
theorem wb_mem (b:Bool) (q:Nat):q∈wb b↔b=true/\q=48:=by cases b<;>simp [wb]
theorem words_ok {page:List Int} (hx:∀c∈page,c∈aB) (h98:(98:Int)∈page) (hl:page.length<=7) (tr only hy jo di:Bool):
  WordsOK page (bubF (lawL page tr)) tr only hy jo di (fJ (disF page) (markB (bubF (lawL page tr))) (hy&&hyL (bubF (lawL page tr))) (only&&offB (bubF (lawL page tr))) (jnA (bubF (lawL page tr)) jo (bubF (lawL page tr)).length)):=by
 have H:=law_ok hx h98 hl tr only hy jo di
 have hL:∀c,c∈bubF (lawL page tr)↔c∈lawL page tr:=λc=>itF_mem _ _ c
 generalize bubF (lawL page tr)=L at H hL ⊢
 intro mate
 refine set_eq (fJ_nodup ..) λk=>?_
 have hcw:=cw_law hx tr only hL
 have hkn:aG L≠[]:=λq=>H.hne (List.map_eq_nil_iff.mp q)
 have hlw:k∈lwF L tr only hy jo↔((hy&&hyL L)=true/\k=59)\/(markB L=true/\k=72)\/(L.any (cwB tr only)=true/\k=48)\/(jnA L jo L.length=true/\k=66):=by
  unfold lwF
  simp only [List.mem_append,hy_mem H.hLx H.hne,mk_mem H.hLx H.hne,cw_mem,jw_mem H.hLx]
  constructor
  ·rintro (((h | h) | h) | h)
   ·exact .inl h
   ·exact .inr (.inl h)
   ·exact .inr (.inr (.inl h))
   ·exact .inr (.inr (.inr h))
  ·rintro (h | h | h | h)
   ·exact .inl (.inl (.inl h))
   ·exact .inl (.inl (.inr h))
   ·exact .inl (.inr h)
   ·exact .inr h
 have hbad:aF (if mate then page++[46,1488] else page) tr=disF page:=by
  cases mate with
  | true=>rw [if_pos rfl,badL_app,(mate_map tr).2,badL_law hx,Bool.or_false]
  | false=>exact badL_law hx tr
 have hfl:(if mate then [L,[1488]] else [L]).flatMap (λl=>lwF l tr only hy jo)=lwF L tr only hy jo:=by
  cases mate with
  | true=>simp [lw_mate]
  | false=>simp
 have hmx:mixF (if mate then [L,[1488]] else [L])=(mate||(aG L).any λk=>decide (k∈[30,1,2])):=by
  have e:((bcL L).any isRtl)=(aG L).any λk=>decide (k∈[30,1,2]):=by
   rw [bc_kinds H.hLx]
   congr 1
   funext q
   simp [isRtl,Bool.decide_or,Bool.or_assoc]
  cases mate with
  | true=>simp [mixF,rtl_mate]
  | false=>simp [mixF,e]
 have hbi:∀q,q∈biL (if mate then [L,[1488]] else [L])↔(!twF (aG L))=true/\q=37:=by
  intro q
  have e:owF (bcL L)=twF (aG L):=by rw [bc_kinds H.hLx];exact ow_tw hkn
  cases mate<;>simp only [biL,List.flatMap_cons,List.flatMap_nil,List.append_nil,if_true,Bool.false_eq_true,if_false,ow_mate,e]<;>cases twF (aG L)<;>simp
 have hbx:k∈(if di&&mixF (if mate then [L,[1488]] else [L]) then biL (if mate then [L,[1488]] else [L]) else [])↔bidiB L di mate=true/\k=37:=by
  rw [hmx]
  unfold bidiB
  cases di with
  | false=>simp
  | true=>
   cases (mate||(aG L).any λk=>decide (k∈[30,1,2])) with
   | false=>simp
   | true=>
    simp only [Bool.and_true,if_true,Bool.true_and]
    exact hbi k
 have hkeys:k∈((fput (bidiB L di mate) 37 (fJ (disF page) (markB L) (hy&&hyL L) (only&&offB L) (jnA L jo L.length))).map (λJ=>J.1)) ↔
   (bidiB L di mate=true/\k=37)\/(jnA L jo L.length=true/\k=66)\/((only&&offB L)=true/\k=48)\/((hy&&hyL L)=true/\k=59)\/(markB L=true/\k=72)\/(disF page=true/\k=48):=by
  unfold fJ fF
  rw [fput_mem,fput_mem,fput_mem,fput_mem,fput_mem,wd_mem]
 rw [hkeys]
 unfold aQ
 rw [hbad,hfl,List.mem_append,List.mem_append,hbx,hlw,wb_mem]
 constructor
 ·rintro ((⟨h,rfl⟩ | h | h | ⟨h,rfl⟩ | h) | h)
  ·exact .inr (.inr (.inr (.inr (.inr ⟨h,rfl⟩))))
  ·exact .inr (.inr (.inr (.inl h)))
  ·exact .inr (.inr (.inr (.inr (.inl h))))
  ·rcases hcw.mp (.inl h) with h | h
   ·exact .inr (.inr (.inl ⟨h,rfl⟩))
   ·exact .inr (.inr (.inr (.inr (.inr ⟨h,rfl⟩))))
  ·exact .inr (.inl h)
  ·exact .inl h
 ·rintro (h | h | ⟨h,rfl⟩ | h | h | h)
  ·exact .inr h
  ·exact .inl (.inr (.inr (.inr (.inr h))))
  ·rcases hcw.mpr (.inl h) with h | h
   ·exact .inl (.inr (.inr (.inr (.inl ⟨h,rfl⟩))))
   ·exact .inl (.inl ⟨h,rfl⟩)
  ·exact .inl (.inr (.inl h))
  ·exact .inl (.inr (.inr (.inl h)))
  ·exact .inl (.inl h)
theorem page_ok:PageOK:=λpage hx h98 hl tr only hy jo di=>⟨law_ok hx h98 hl tr only hy jo di,words_ok hx h98 hl tr only hy jo di⟩
set_option tactic.hygienic true in
theorem t_law (P:Params):nsIn (Hd.Internal.K39 P) mainGlobals "law"=some (some (.ref 706)):=by kernel_rfl
theorem t_fd (P:Params):(fdK (Hd.Internal.K39 P) 56).isSome=true:=by kernel_rfl
theorem of_ghost {h:Heap} {b:Addr} {o:Obj} {tabs:List (Addr×Addr)} (e:(ghostOf h tabs).get? b=some o):b∉tabs.map (λJ=>J.2)/\h.get? b=some o:=by
 refine ⟨λq=>?_,of_hideAll _ e⟩
 have e2:(hideAll h (tabs.map (λJ=>J.2))).get? b=none:=hideAll_none _ q
 have e3:(hideAll h (tabs.map (λJ=>J.2))).get? b=some o:=e
 rw [e2] at e3;cases e3
theorem law_call {prog:Program} {w:World} {s:Shared} {mg mb:Str->Option Value} {sa:Addr} {sc:List Int} (H:HdOK w s.heap mg mb sa sc) {R:Result->Shared->Prop}
  (hR:∀s',s'={ s with heap:=s'.heap,toks:=s'.toks }->(∀b o,s.heap.get? b=some o->b≠145->s'.heap.get? b=some o)->GrownAt 145 s'.heap->R (.ok (.ret (.bool true))) s'):
  codeAny (model prog w) callerA (.call (.ref 706) { pos:=[.ref sa] }) R s:=by
 have h:=spec_law (C:=mkC prog w s.heap mg mb sa sc) (sc:=sc) rfl (snd_ok H) rfl page_ok
 obtain ⟨fd,hfd⟩:=Option.isSome_iff_exists.mp (t_fd w.params)
 have hfd':fdAt (mkC prog w s.heap mg mb sa sc) 56=some fd:=hfd
 have L:Bas (mkC prog w s.heap mg mb sa sc) s.heap:=⟨λb o e J=>e,.inl H.tab⟩
 have hRel:Rel (mkC prog w s.heap mg mb sa sc) [] [] s.heap:=⟨rfl,λi o as h=>by simp at h,List.nodup_nil,λa h=>by cases h⟩
 have hv:VRs s.heap (ab []) (mkC prog w s.heap mg mb sa sc).gf [.gl 3] [.ref sa]:=⟨.ref sa,[],rfl,⟨sa,rfl,rfl⟩,rfl⟩
 obtain ⟨ds,Ds,q1,q2,q3⟩:=bd_all (sc:=sc) (P:=w.params) 56 (by decide) [.gl 3] [.gl 3] [.ref sa] rfl rfl
 have hds:ds=[]:=by
  have:=congrArg List.length q1
  simp at this
  exact this
 subst hds
 have hDs:Ds=[]:=q2 s.heap noRf
 subst hDs
 have hb:BindsTo s fd { pos:=[.ref sa] } ((fd.params.args.map (λJ=>J.arg)).zip [.ref sa]):=kp_binds (Bas.kin (cfg_ok H) L) λS=>pk_at hfd (q3 S)
 refine codeAny_mono (h callerA s [] [.ref sa] { pos:=[.ref sa] } fd (λV s'=>R (.ok (.ret V)) s') ⟨by decide,by decide,by decide⟩ hRel L hfd' hv hb ?_) ?_
 ·intro V s' ρ' v σ' hA hRel' L' hv' hΦ
  subst hΦ
  have hV:V=.bool true:=hv'
  subst hV
  refine hR s' hA.rest (λb o e hne=>hA.frm b o e (by simp) hne) ?_
  rcases L'.lam with e | ⟨c,e,_,_⟩
  ·exact ⟨_,e⟩
  ·exact ⟨_,e⟩
 ·intro r s' q
  revert q
  cases r with
  | ok v=>
   cases v with
   | ret v=>exact λq=>q
   | _=>exact λq=>q.elim
  | error e=>exact λq=>q.elim
end Mine.Internal
open PySem PySem.W PySem.Calls PyProof.Rows
set_option tactic.hygienic true in
theorem PySem.Challenge.cw_nt0070_01_holds : PySem.Challenge.rw_nt0070_01.Holds :=
 Hd.Internal.hd (by
 k_fill
 intro w s₀ s₁ mg mb G Y fa o pm cd doc dV kV ho hd' hcd hD hmg hg args vals as hpre hlay hrd hwl hlo
 have KX:(Hd.Internal.K39 w.params).In s₁.heap:=km_in_of (K:=Hd.Internal.K39) Y
 have hT8:s₁.heap.get? 145=some (tabObj #[]):=km_tabs_of (K:=Hd.Internal.K39) Y 145 (.head _)
 have hc8:CodeHd s₁.heap 147 145:=codeHd_of_K (c:=147) (P:=145) KX (by kernel_rfl)
 have hT9:TabsAt [(147,145)] _:=List.forall_mem_cons.mpr ⟨⟨hc8,hT8⟩,λJ h=>nomatch h⟩
 refine Ground.open G ?_
 intro T B D TE TW
 wrow_args hpre hlay hrd hwl hlo
 all_goals (
  first | refine callC_kw (enter_call ?_) | refine enter_call ?_
  kn_posts)
 rename_i sc hs hlay0 hL1 hr1 hl2 w4 w3 sa items w0 hL ra w1 r0 hI hr hc1 hc2
 have hfa:fa=706:=by
  have e:=mg_of KX T.g (Mine.Internal.t_law w.params)
  have e2:mg "law"=some (.ref fa):=hmg
  rw [e] at e2
  cases e2;rfl
 subst hfa
 have H:Mine.Internal.HdOK w s₁.heap mg mb sa sc:=⟨KX,T.g,T.b,T.nolimit,T.builtins,T.bmain,hT8,hc8,⟨_,hL,by simpa using hI⟩,by omega⟩
 refine Mine.Internal.law_call H λs' hrest hkeep hgrown=>?_
 refine ⟨⟨.inl ⟨_,.bool true,[],rfl,λJ=>rfl,.bool true,?_,unshared_nil⟩,λb o e=>?_,?_,?_⟩,hgrown,trivial⟩
 ·first | wrow_post | kc_post
 ·obtain ⟨h1,h2⟩:=Mine.Internal.of_ghost e
  exact hkeep b o h2 (by simpa using h1)
 ·rw [hrest]
 ·rw [hrest];exact hg)

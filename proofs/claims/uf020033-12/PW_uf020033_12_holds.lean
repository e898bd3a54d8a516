import PyProof.Rows.All
import Wide.All
import OpenK.AllK
import Wide.FinOn
import PySem.Challenge.RW_uf020033_12
set_option Elab.async false
set_option maxHeartbeats 4000000
set_option linter.all false
set_option genSizeOf false
set_option genSizeOfSpec false
set_option genInjectivity false
set_option bootstrap.genMatcherCode false
namespace Mine.Internal.Cl
open PySem PySem.W PyProof.Rows
set_option maxRecDepth 100000
set_option maxHeartbeats 8000000
noncomputable def Au(i:Nat):Stmt:=PySem.Challenge.pw_uf020033_12.main.body.getD i (.Pass default)
noncomputable def Ic(i j:Nat):Stmt:=match Au i with
 | .ClassDef _ _ _ b .. =>b.getD j (.Pass default)
 | s=>s
noncomputable def Cn(st:Stmt)(q:Str)(md:Value)(cd:Addr):Obj:=match st with
 | .FunctionDef name args body _ _ _ scope _ _ _=>{cls:= .type "function",data:= .func {name:=name,qualname:=q,params:=args,body:= .stmts body,scope:=scope,globals:=3,closure:=[],defaults:= .none,kwdefaults:= .none,pyModule:=md,code:= .ref cd}}
 | _=>default
noncomputable def Ln(st:Stmt)(q:Str):Obj:=match st with
 | .FunctionDef name args body _ _ _ scope _ _ _=>{cls:= .none,data:= .func {name:=name,qualname:=q,params:=args,body:= .stmts body,scope:=scope,globals:=0,closure:=[],defaults:= .none,kwdefaults:= .none}}
 | _=>default
noncomputable def vs(s:String)(n:Nat):Value:= .str (Str.ofString s) n
noncomputable def rf(n:Nat):Value:= .ref n
noncomputable def vi(n:Int):Value:= .int n 0
noncomputable def dE(P:Params)(s:String)(n:Nat)(v:Value):DictEntry:={hash:=PyData.keyHash P (Str.ofString s),key:= .str (Str.ofString s) n,val:=v}
noncomputable def tO(c:String)(a:Array Value):Obj:={cls:= .type c,data:= .seq a}
noncomputable def cO(c:String)(a:Array Value):Obj:={cls:= .type c,data:= .fields a}
noncomputable def dO(c:String)(a:Array DictEntry):Obj:={cls:= .type c,data:= .dict a}
noncomputable def fO(a:Array (Option Value)):Obj:={cls:= .type "frame",slots:=a}
noncomputable def kk(P:Params):Frag:=[
 (2,{cls:=Value.none,data:=Data.dict #[]}),
 (3,{cls:=Value.type "dict",data:=Data.dict #[dE P "__name__" 165 (vs "law_uf020033_12" 588),dE P "__doc__" 166 (Value.none),dE P "__package__" 167 (Value.none),dE P "__loader__" 168 (Value.builtin "__main__.__loader__#opaque"),dE P "__spec__" 169 (Value.none),dE P "__annotations__" 170 (rf 6),dE P "__builtins__" 171 (rf 4),dE P "__file__" 173 (vs "/claim/cut.py" 172),dE P "__cached__" 174 (Value.none),dE P "WebError" 206 (rf 24),dE P "BadWeb" 222 (rf 37),dE P "NoPoint" 238 (rf 49),dE P "BadOrder" 254 (rf 61),dE P "HasGap" 270 (rf 73),dE P "is_order" 280 (rf 82),dE P "need_order" 288 (rf 89),dE P "those_behind" 294 (rf 94),dE P "first_untied" 305 (rf 101),dE P "gap" 315 (rf 108),dE P "least_to_go" 321 (rf 113),dE P "taken" 331 (rf 120),dE P "is_crowd" 339 (rf 125),dE P "need_whole" 347 (rf 132),dE P "crowd_at" 356 (rf 139),dE P "is_full" 362 (rf 144),dE P "full_crowds" 373 (rf 151),dE P "least_free" 381 (rf 158),dE P "coloured" 387 (rf 163),dE P "steps_from" 403 (rf 170),dE P "way" 415 (rf 177),dE P "is_ring" 421 (rf 182),dE P "pieces" 432 (rf 189),dE P "ring_at" 438 (rf 194),dE P "long_ring" 447 (rf 201),dE P "Verdict" 486 (rf 218),dE P "judged" 497 (rf 229),dE P "are_colours" 503 (rf 234),dE P "holds" 511 (rf 241),dE P "MOST" 515 (Value.int 60 514),dE P "Web" 581 (rf 286),dE P "web_of" 587 (rf 295),dE P "_law_cell_at" 597 (rf 302),dE P "_law_mixed" 605 (rf 309),dE P "_law_earlier" 621 (rf 316),dE P "_law_any_rows" 627 (rf 321),dE P "_law_many" 635 (rf 328),dE P "_law_banded" 641 (rf 333),dE P "_law_ringed" 647 (rf 338),dE P "_law_hubbed" 653 (rf 343),dE P "_law_rows" 663 (rf 350),dE P "_law_name" 673 (rf 357),dE P "_law_ties" 679 (rf 362),dE P "_law_near" 685 (rf 367),dE P "_law_keyed" 691 (rf 372),dE P "_law_behind" 697 (rf 377),dE P "_law_untied" 707 (rf 384),dE P "_law_free" 713 (rf 389),dE P "_law_order" 725 (rf 396),dE P "_law_made" 731 (rf 401),dE P "_law_list_anew" 746 (rf 408),dE P "_law_crowd" 756 (rf 415),dE P "_law_ring" 762 (rf 420),dE P "_law_colours" 768 (rf 425),dE P "_law_good" 778 (rf 432),dE P "_law_copy" 785 (rf 439),dE P "_law_asked" 791 (rf 444),dE P "law" 797 (rf 449)] 67}),
 (23,{cls:=Value.type "dict",data:=Data.dict #[dE P "__module__" 196 (vs "shortring.errors" 187),dE P "__firstlineno__" 200 (Value.int 2 199),dE P "__static_attributes__" 201 (rf 22),dE P "__weakref__" 203 (rf 25),dE P "__doc__" 204 (Value.none)] 3}),
 (24,{cls:=Value.type "type",data:=Data.cls {name:=Str.ofString "WebError",bases:=[Value.type "ValueError"],mro:=[rf 24,Value.type "ValueError",Value.type "Exception",Value.type "BaseException",Value.type "object"],ns:=23,qualname:=Str.ofString "WebError",subclasses:=[rf 37,rf 49,rf 61,rf 73]},slots:= #[some (rf 15),none,some (vs "WebError" 189),some (vs "WebError" 197),some (Value.builtin "ValueError.__new__"),some (Value.bool true)]}),
 (36,{cls:=Value.type "dict",data:=Data.dict #[dE P "__module__" 214 (vs "shortring.errors" 187),dE P "__firstlineno__" 218 (Value.int 4 217),dE P "__static_attributes__" 219 (rf 35),dE P "__doc__" 220 (Value.none)] 2}),
 (37,{cls:=Value.type "type",data:=Data.cls {name:=Str.ofString "BadWeb",bases:=[rf 24],mro:=[rf 37,rf 24,Value.type "ValueError",Value.type "Exception",Value.type "BaseException",Value.type "object"],ns:=36,qualname:=Str.ofString "BadWeb"},slots:= #[some (rf 28),none,some (vs "BadWeb" 207),some (vs "BadWeb" 215),some (Value.builtin "ValueError.__new__"),some (Value.bool true)]}),
 (48,{cls:=Value.type "dict",data:=Data.dict #[dE P "__module__" 230 (vs "shortring.errors" 187),dE P "__firstlineno__" 234 (Value.int 6 233),dE P "__static_attributes__" 235 (rf 47),dE P "__doc__" 236 (Value.none)] 2}),
 (49,{cls:=Value.type "type",data:=Data.cls {name:=Str.ofString "NoPoint",bases:=[rf 24],mro:=[rf 49,rf 24,Value.type "ValueError",Value.type "Exception",Value.type "BaseException",Value.type "object"],ns:=48,qualname:=Str.ofString "NoPoint"},slots:= #[some (rf 40),none,some (vs "NoPoint" 223),some (vs "NoPoint" 231),some (Value.builtin "ValueError.__new__"),some (Value.bool true)]}),
 (60,{cls:=Value.type "dict",data:=Data.dict #[dE P "__module__" 246 (vs "shortring.errors" 187),dE P "__firstlineno__" 250 (Value.int 8 249),dE P "__static_attributes__" 251 (rf 59),dE P "__doc__" 252 (Value.none)] 2}),
 (61,{cls:=Value.type "type",data:=Data.cls {name:=Str.ofString "BadOrder",bases:=[rf 24],mro:=[rf 61,rf 24,Value.type "ValueError",Value.type "Exception",Value.type "BaseException",Value.type "object"],ns:=60,qualname:=Str.ofString "BadOrder"},slots:= #[some (rf 52),none,some (vs "BadOrder" 239),some (vs "BadOrder" 247),some (Value.builtin "ValueError.__new__"),some (Value.bool true)]}),
 (72,{cls:=Value.type "dict",data:=Data.dict #[dE P "__module__" 262 (vs "shortring.errors" 187),dE P "__firstlineno__" 266 (Value.int 10 265),dE P "__static_attributes__" 267 (rf 71),dE P "__doc__" 268 (Value.none)] 2}),
 (73,{cls:=Value.type "type",data:=Data.cls {name:=Str.ofString "HasGap",bases:=[rf 24],mro:=[rf 73,rf 24,Value.type "ValueError",Value.type "Exception",Value.type "BaseException",Value.type "object"],ns:=72,qualname:=Str.ofString "HasGap"},slots:= #[some (rf 64),none,some (vs "HasGap" 255),some (vs "HasGap" 263),some (Value.builtin "ValueError.__new__"),some (Value.bool true)]}),
 (81,cO "code" #[vs "is_order" 273,vs "is_order" 274,vs "/claim/cut.py" 275,vi 13,vi 2,vi 0,vi 0,vi 3,rf 76,Value.bool true,vi 181,rf 77,Value.none,rf 78,rf 79,rf 80,vi 278,vi 13,vs "/claim/cut.py" 279]),
 (82,Cn (Au 7) (Str.ofString "is_order") (vs "shortring.orders" 271) 81),
 (88,cO "code" #[vs "need_order" 281,vs "need_order" 282,vs "/claim/cut.py" 283,vi 15,vi 2,vi 0,vi 0,vi 3,rf 83,Value.bool true,vi 181,rf 84,Value.none,rf 85,rf 86,rf 87,vi 286,vi 15,vs "/claim/cut.py" 287]),
 (89,Cn (Au 8) (Str.ofString "need_order") (vs "shortring.orders" 271) 88),
 (93,cO "code" #[vs "those_behind" 289,vs "those_behind" 290,vs "/claim/cut.py" 291,vi 18,vi 3,vi 0,vi 0,vi 3,rf 90,Value.bool true,vi 181,rf 91,Value.none,Value.none,Value.none,rf 92,vi 292,vi 18,vs "/claim/cut.py" 293]),
 (94,Cn (Au 9) (Str.ofString "those_behind") (vs "shortring.orders" 271) 93),
 (100,cO "code" #[vs "first_untied" 295,vs "first_untied" 296,vs "/claim/cut.py" 297,vi 21,vi 2,vi 0,vi 0,vi 3,rf 95,Value.bool true,vi 181,rf 96,Value.none,rf 97,rf 98,rf 99,vi 303,vi 21,vs "/claim/cut.py" 304]),
 (101,Cn (Au 10) (Str.ofString "first_untied") (vs "shortring.orders" 271) 100),
 (107,cO "code" #[vs "gap" 306,vs "gap" 307,vs "/claim/cut.py" 308,vi 27,vi 2,vi 0,vi 0,vi 3,rf 102,Value.bool true,vi 181,rf 103,Value.none,rf 104,rf 105,rf 106,vi 313,vi 27,vs "/claim/cut.py" 314]),
 (108,Cn (Au 11) (Str.ofString "gap") (vs "shortring.orders" 271) 107),
 (112,cO "code" #[vs "least_to_go" 316,vs "least_to_go" 317,vs "/claim/cut.py" 318,vi 34,vi 2,vi 0,vi 0,vi 3,rf 109,Value.bool true,vi 181,rf 110,Value.none,Value.none,Value.none,rf 111,vi 319,vi 34,vs "/claim/cut.py" 320]),
 (113,Cn (Au 12) (Str.ofString "least_to_go") (vs "shortring.orders" 271) 112),
 (119,cO "code" #[vs "taken" 322,vs "taken" 323,vs "/claim/cut.py" 324,vi 39,vi 1,vi 0,vi 0,vi 3,rf 114,Value.bool true,vi 181,rf 115,Value.none,rf 116,rf 117,rf 118,vi 329,vi 39,vs "/claim/cut.py" 330]),
 (120,Cn (Au 13) (Str.ofString "taken") (vs "shortring.orders" 271) 119),
 (124,cO "code" #[vs "is_crowd" 334,vs "is_crowd" 335,vs "/claim/cut.py" 336,vi 49,vi 2,vi 0,vi 0,vi 3,rf 121,Value.bool true,vi 181,rf 122,Value.none,Value.none,Value.none,rf 123,vi 337,vi 49,vs "/claim/cut.py" 338]),
 (125,Cn (Au 15) (Str.ofString "is_crowd") (vs "shortring.crowds" 332) 124),
 (131,cO "code" #[vs "need_whole" 340,vs "need_whole" 341,vs "/claim/cut.py" 342,vi 55,vi 2,vi 0,vi 0,vi 3,rf 126,Value.bool true,vi 181,rf 127,Value.none,rf 128,rf 129,rf 130,vi 345,vi 55,vs "/claim/cut.py" 346]),
 (132,Cn (Au 16) (Str.ofString "need_whole") (vs "shortring.crowds" 332) 131),
 (138,cO "code" #[vs "crowd_at" 348,vs "crowd_at" 349,vs "/claim/cut.py" 350,vi 58,vi 3,vi 0,vi 0,vi 3,rf 133,Value.bool true,vi 181,rf 134,Value.none,rf 135,rf 136,rf 137,vi 354,vi 58,vs "/claim/cut.py" 355]),
 (139,Cn (Au 17) (Str.ofString "crowd_at") (vs "shortring.crowds" 332) 138),
 (143,cO "code" #[vs "is_full" 357,vs "is_full" 358,vs "/claim/cut.py" 359,vi 60,vi 2,vi 0,vi 0,vi 3,rf 140,Value.bool true,vi 181,rf 141,Value.none,Value.none,Value.none,rf 142,vi 360,vi 60,vs "/claim/cut.py" 361]),
 (144,Cn (Au 18) (Str.ofString "is_full") (vs "shortring.crowds" 332) 143),
 (150,cO "code" #[vs "full_crowds" 363,vs "full_crowds" 364,vs "/claim/cut.py" 365,vi 65,vi 2,vi 0,vi 0,vi 3,rf 145,Value.bool true,vi 181,rf 146,Value.none,rf 147,rf 148,rf 149,vi 371,vi 65,vs "/claim/cut.py" 372]),
 (151,Cn (Au 19) (Str.ofString "full_crowds") (vs "shortring.crowds" 332) 150),
 (157,cO "code" #[vs "least_free" 374,vs "least_free" 375,vs "/claim/cut.py" 376,vi 73,vi 1,vi 0,vi 0,vi 3,rf 152,Value.bool true,vi 181,rf 153,Value.none,rf 154,rf 155,rf 156,vi 379,vi 73,vs "/claim/cut.py" 380]),
 (158,Cn (Au 20) (Str.ofString "least_free") (vs "shortring.crowds" 332) 157),
 (162,cO "code" #[vs "coloured" 382,vs "coloured" 383,vs "/claim/cut.py" 384,vi 78,vi 2,vi 0,vi 0,vi 3,rf 159,Value.bool true,vi 181,rf 160,Value.none,Value.none,Value.none,rf 161,vi 385,vi 78,vs "/claim/cut.py" 386]),
 (163,Cn (Au 21) (Str.ofString "coloured") (vs "shortring.crowds" 332) 162),
 (169,cO "code" #[vs "steps_from" 390,vs "steps_from" 391,vs "/claim/cut.py" 392,vi 85,vi 3,vi 0,vi 0,vi 3,rf 164,Value.bool true,vi 181,rf 165,Value.none,rf 166,rf 167,rf 168,vi 401,vi 85,vs "/claim/cut.py" 402]),
 (170,Cn (Au 23) (Str.ofString "steps_from") (vs "shortring.rings" 388) 169),
 (176,cO "code" #[vs "way" 404,vs "way" 405,vs "/claim/cut.py" 406,vi 97,vi 4,vi 0,vi 0,vi 3,rf 171,Value.bool true,vi 181,rf 172,Value.none,rf 173,rf 174,rf 175,vi 413,vi 97,vs "/claim/cut.py" 414]),
 (177,Cn (Au 24) (Str.ofString "way") (vs "shortring.rings" 388) 176),
 (181,cO "code" #[vs "is_ring" 416,vs "is_ring" 417,vs "/claim/cut.py" 418,vi 110,vi 2,vi 0,vi 0,vi 3,rf 178,Value.bool true,vi 181,rf 179,Value.none,Value.none,Value.none,rf 180,vi 419,vi 110,vs "/claim/cut.py" 420]),
 (182,Cn (Au 25) (Str.ofString "is_ring") (vs "shortring.rings" 388) 181),
 (188,cO "code" #[vs "pieces" 422,vs "pieces" 423,vs "/claim/cut.py" 424,vi 122,vi 2,vi 0,vi 0,vi 3,rf 183,Value.bool true,vi 181,rf 184,Value.none,rf 185,rf 186,rf 187,vi 430,vi 122,vs "/claim/cut.py" 431]),
 (189,Cn (Au 26) (Str.ofString "pieces") (vs "shortring.rings" 388) 188),
 (193,cO "code" #[vs "ring_at" 433,vs "ring_at" 434,vs "/claim/cut.py" 435,vi 129,vi 2,vi 0,vi 0,vi 3,rf 190,Value.bool true,vi 181,rf 191,Value.none,Value.none,Value.none,rf 192,vi 436,vi 129,vs "/claim/cut.py" 437]),
 (194,Cn (Au 27) (Str.ofString "ring_at") (vs "shortring.rings" 388) 193),
 (200,cO "code" #[vs "long_ring" 439,vs "long_ring" 440,vs "/claim/cut.py" 441,vi 145,vi 1,vi 0,vi 0,vi 3,rf 195,Value.bool true,vi 181,rf 196,Value.none,rf 197,rf 198,rf 199,vi 445,vi 145,vs "/claim/cut.py" 446]),
 (201,Cn (Au 28) (Str.ofString "long_ring") (vs "shortring.rings" 388) 200),
 (214,cO "code" #[vs "__init__" 462,vs "Verdict.__init__" 463,vs "/claim/cut.py" 464,vi 154,vi 6,vi 0,vi 0,vi 3,rf 209,Value.bool true,vi 181,rf 210,Value.none,rf 211,rf 212,rf 213,vi 471,vi 154,vs "/claim/cut.py" 472]),
 (215,Cn (Ic 30 0) (Str.ofString "Verdict.__init__") (vs "shortring.verdicts" 448) 214),
 (217,{cls:=Value.type "dict",data:=Data.dict #[dE P "__module__" 457 (vs "shortring.verdicts" 448),dE P "__firstlineno__" 461 (Value.int 152 460),dE P "__init__" 473 (rf 215),dE P "__static_attributes__" 479 (rf 216),dE P "__dict__" 481 (rf 219),dE P "__weakref__" 483 (rf 220),dE P "__doc__" 484 (Value.none)] 4}),
 (218,{cls:=Value.type "type",data:=Data.cls {name:=Str.ofString "Verdict",bases:=[Value.type "object"],mro:=[rf 218,Value.type "object"],ns:=217,qualname:=Str.ofString "Verdict"},slots:= #[none,none,some (vs "Verdict" 450),some (vs "Verdict" 458),some (Value.builtin "object.__new__"),some (Value.bool true)]}),
 (228,cO "code" #[vs "judged" 487,vs "judged" 488,vs "/claim/cut.py" 489,vi 160,vi 1,vi 0,vi 0,vi 3,rf 223,Value.bool true,vi 181,rf 224,Value.none,rf 225,rf 226,rf 227,vi 495,vi 160,vs "/claim/cut.py" 496]),
 (229,Cn (Au 31) (Str.ofString "judged") (vs "shortring.verdicts" 448) 228),
 (233,cO "code" #[vs "are_colours" 498,vs "are_colours" 499,vs "/claim/cut.py" 500,vi 170,vi 3,vi 0,vi 0,vi 3,rf 230,Value.bool true,vi 181,rf 231,Value.none,Value.none,Value.none,rf 232,vi 501,vi 170,vs "/claim/cut.py" 502]),
 (234,Cn (Au 32) (Str.ofString "are_colours") (vs "shortring.verdicts" 448) 233),
 (240,cO "code" #[vs "holds" 504,vs "holds" 505,vs "/claim/cut.py" 506,vi 176,vi 2,vi 0,vi 0,vi 3,rf 235,Value.bool true,vi 181,rf 236,Value.none,rf 237,rf 238,rf 239,vi 509,vi 176,vs "/claim/cut.py" 510]),
 (241,Cn (Au 33) (Str.ofString "holds") (vs "shortring.verdicts" 448) 240),
 (254,cO "code" #[vs "__init__" 528,vs "Web.__init__" 529,vs "/claim/cut.py" 530,vi 192,vi 3,vi 0,vi 0,vi 3,rf 249,Value.bool true,vi 181,rf 250,Value.none,rf 251,rf 252,rf 253,vi 534,vi 192,vs "/claim/cut.py" 535]),
 (255,Cn (Ic 36 0) (Str.ofString "Web.__init__") (vs "shortring.webs" 512) 254),
 (261,cO "code" #[vs "need" 537,vs "Web.need" 538,vs "/claim/cut.py" 539,vi 196,vi 2,vi 0,vi 0,vi 3,rf 256,Value.bool true,vi 181,rf 257,Value.none,rf 258,rf 259,rf 260,vi 542,vi 196,vs "/claim/cut.py" 543]),
 (262,Cn (Ic 36 1) (Str.ofString "Web.need") (vs "shortring.webs" 512) 261),
 (268,cO "code" #[vs "beside" 545,vs "Web.beside" 546,vs "/claim/cut.py" 547,vi 200,vi 2,vi 0,vi 0,vi 3,rf 263,Value.bool true,vi 181,rf 264,Value.none,rf 265,rf 266,rf 267,vi 550,vi 200,vs "/claim/cut.py" 551]),
 (269,Cn (Ic 36 2) (Str.ofString "Web.beside") (vs "shortring.webs" 512) 268),
 (275,cO "code" #[vs "tied" 553,vs "Web.tied" 554,vs "/claim/cut.py" 555,vi 204,vi 3,vi 0,vi 0,vi 3,rf 270,Value.bool true,vi 181,rf 271,Value.none,rf 272,rf 273,rf 274,vi 559,vi 204,vs "/claim/cut.py" 560]),
 (276,Cn (Ic 36 3) (Str.ofString "Web.tied") (vs "shortring.webs" 512) 275),
 (282,cO "code" #[vs "ties" 562,vs "Web.ties" 563,vs "/claim/cut.py" 564,vi 209,vi 1,vi 0,vi 0,vi 3,rf 277,Value.bool true,vi 181,rf 278,Value.none,rf 279,rf 280,rf 281,vi 569,vi 209,vs "/claim/cut.py" 570]),
 (283,Cn (Ic 36 4) (Str.ofString "Web.ties") (vs "shortring.webs" 512) 282),
 (285,{cls:=Value.type "dict",data:=Data.dict #[dE P "__module__" 523 (vs "shortring.webs" 512),dE P "__firstlineno__" 527 (Value.int 190 526),dE P "__init__" 536 (rf 255),dE P "need" 544 (rf 262),dE P "beside" 552 (rf 269),dE P "tied" 561 (rf 276),dE P "ties" 571 (rf 283),dE P "__static_attributes__" 574 (rf 284),dE P "__dict__" 576 (rf 287),dE P "__weakref__" 578 (rf 288),dE P "__doc__" 579 (Value.none)] 4}),
 (286,{cls:=Value.type "type",data:=Data.cls {name:=Str.ofString "Web",bases:=[Value.type "object"],mro:=[rf 286,Value.type "object"],ns:=285,qualname:=Str.ofString "Web"},slots:= #[none,none,some (vs "Web" 516),some (vs "Web" 524),some (Value.builtin "object.__new__"),some (Value.bool true)]}),
 (294,cO "code" #[vs "web_of" 582,vs "web_of" 583,vs "/claim/cut.py" 584,vi 216,vi 2,vi 0,vi 0,vi 3,rf 291,Value.bool true,vi 181,rf 292,Value.none,Value.none,Value.none,rf 293,vi 585,vi 216,vs "/claim/cut.py" 586]),
 (295,Cn (Au 37) (Str.ofString "web_of") (vs "shortring.webs" 512) 294),
 (301,cO "code" #[vs "_law_cell_at" 590,vs "_law_cell_at" 591,vs "/claim/cut.py" 592,vi 228,vi 2,vi 0,vi 0,vi 3,rf 296,Value.bool true,vi 181,rf 297,Value.none,rf 298,rf 299,rf 300,vi 595,vi 228,vs "/claim/cut.py" 596]),
 (302,Cn (Au 39) (Str.ofString "_law_cell_at") (vs "law_uf020033_12" 588) 301),
 (308,cO "code" #[vs "_law_mixed" 598,vs "_law_mixed" 599,vs "/claim/cut.py" 600,vi 232,vi 2,vi 0,vi 0,vi 3,rf 303,Value.bool true,vi 181,rf 304,Value.none,rf 305,rf 306,rf 307,vi 603,vi 232,vs "/claim/cut.py" 604]),
 (309,Cn (Au 40) (Str.ofString "_law_mixed") (vs "law_uf020033_12" 588) 308),
 (315,cO "code" #[vs "_law_earlier" 606,vs "_law_earlier" 607,vs "/claim/cut.py" 608,vi 234,vi 3,vi 0,vi 0,vi 3,rf 310,Value.bool true,vi 181,rf 311,Value.none,rf 312,rf 313,rf 314,vi 619,vi 234,vs "/claim/cut.py" 620]),
 (316,Cn (Au 41) (Str.ofString "_law_earlier") (vs "law_uf020033_12" 588) 315),
 (320,cO "code" #[vs "_law_any_rows" 622,vs "_law_any_rows" 623,vs "/claim/cut.py" 624,vi 253,vi 2,vi 0,vi 0,vi 3,rf 317,Value.bool true,vi 181,rf 318,Value.none,Value.none,Value.none,rf 319,vi 625,vi 253,vs "/claim/cut.py" 626]),
 (321,Cn (Au 42) (Str.ofString "_law_any_rows") (vs "law_uf020033_12" 588) 320),
 (327,cO "code" #[vs "_law_many" 628,vs "_law_many" 629,vs "/claim/cut.py" 630,vi 263,vi 1,vi 0,vi 0,vi 3,rf 322,Value.bool true,vi 181,rf 323,Value.none,rf 324,rf 325,rf 326,vi 633,vi 263,vs "/claim/cut.py" 634]),
 (328,Cn (Au 43) (Str.ofString "_law_many") (vs "law_uf020033_12" 588) 327),
 (332,cO "code" #[vs "_law_banded" 636,vs "_law_banded" 637,vs "/claim/cut.py" 638,vi 270,vi 2,vi 0,vi 0,vi 3,rf 329,Value.bool true,vi 181,rf 330,Value.none,Value.none,Value.none,rf 331,vi 639,vi 270,vs "/claim/cut.py" 640]),
 (333,Cn (Au 44) (Str.ofString "_law_banded") (vs "law_uf020033_12" 588) 332),
 (337,cO "code" #[vs "_law_ringed" 642,vs "_law_ringed" 643,vs "/claim/cut.py" 644,vi 275,vi 2,vi 0,vi 0,vi 3,rf 334,Value.bool true,vi 181,rf 335,Value.none,Value.none,Value.none,rf 336,vi 645,vi 275,vs "/claim/cut.py" 646]),
 (338,Cn (Au 45) (Str.ofString "_law_ringed") (vs "law_uf020033_12" 588) 337),
 (342,cO "code" #[vs "_law_hubbed" 648,vs "_law_hubbed" 649,vs "/claim/cut.py" 650,vi 283,vi 2,vi 0,vi 0,vi 3,rf 339,Value.bool true,vi 181,rf 340,Value.none,Value.none,Value.none,rf 341,vi 651,vi 283,vs "/claim/cut.py" 652]),
 (343,Cn (Au 46) (Str.ofString "_law_hubbed") (vs "law_uf020033_12" 588) 342),
 (349,cO "code" #[vs "_law_rows" 654,vs "_law_rows" 655,vs "/claim/cut.py" 656,vi 288,vi 2,vi 0,vi 0,vi 3,rf 344,Value.bool true,vi 181,rf 345,Value.none,rf 346,rf 347,rf 348,vi 661,vi 288,vs "/claim/cut.py" 662]),
 (350,Cn (Au 47) (Str.ofString "_law_rows") (vs "law_uf020033_12" 588) 349),
 (356,cO "code" #[vs "_law_name" 664,vs "_law_name" 665,vs "/claim/cut.py" 666,vi 302,vi 3,vi 0,vi 0,vi 3,rf 351,Value.bool true,vi 181,rf 352,Value.none,rf 353,rf 354,rf 355,vi 671,vi 302,vs "/claim/cut.py" 672]),
 (357,Cn (Au 48) (Str.ofString "_law_name") (vs "law_uf020033_12" 588) 356),
 (361,cO "code" #[vs "_law_ties" 674,vs "_law_ties" 675,vs "/claim/cut.py" 676,vi 307,vi 3,vi 0,vi 0,vi 3,rf 358,Value.bool true,vi 181,rf 359,Value.none,Value.none,Value.none,rf 360,vi 677,vi 307,vs "/claim/cut.py" 678]),
 (362,Cn (Au 49) (Str.ofString "_law_ties") (vs "law_uf020033_12" 588) 361),
 (366,cO "code" #[vs "_law_near" 680,vs "_law_near" 681,vs "/claim/cut.py" 682,vi 316,vi 2,vi 0,vi 0,vi 3,rf 363,Value.bool true,vi 181,rf 364,Value.none,Value.none,Value.none,rf 365,vi 683,vi 316,vs "/claim/cut.py" 684]),
 (367,Cn (Au 50) (Str.ofString "_law_near") (vs "law_uf020033_12" 588) 366),
 (371,cO "code" #[vs "_law_keyed" 686,vs "_law_keyed" 687,vs "/claim/cut.py" 688,vi 323,vi 2,vi 0,vi 0,vi 3,rf 368,Value.bool true,vi 181,rf 369,Value.none,Value.none,Value.none,rf 370,vi 689,vi 323,vs "/claim/cut.py" 690]),
 (372,Cn (Au 51) (Str.ofString "_law_keyed") (vs "law_uf020033_12" 588) 371),
 (376,cO "code" #[vs "_law_behind" 692,vs "_law_behind" 693,vs "/claim/cut.py" 694,vi 326,vi 3,vi 0,vi 0,vi 3,rf 373,Value.bool true,vi 181,rf 374,Value.none,Value.none,Value.none,rf 375,vi 695,vi 326,vs "/claim/cut.py" 696]),
 (377,Cn (Au 52) (Str.ofString "_law_behind") (vs "law_uf020033_12" 588) 376),
 (383,cO "code" #[vs "_law_untied" 698,vs "_law_untied" 699,vs "/claim/cut.py" 700,vi 328,vi 2,vi 0,vi 0,vi 3,rf 378,Value.bool true,vi 181,rf 379,Value.none,rf 380,rf 381,rf 382,vi 705,vi 328,vs "/claim/cut.py" 706]),
 (384,Cn (Au 53) (Str.ofString "_law_untied") (vs "law_uf020033_12" 588) 383),
 (388,cO "code" #[vs "_law_free" 708,vs "_law_free" 709,vs "/claim/cut.py" 710,vi 334,vi 2,vi 0,vi 0,vi 3,rf 385,Value.bool true,vi 181,rf 386,Value.none,Value.none,Value.none,rf 387,vi 711,vi 334,vs "/claim/cut.py" 712]),
 (389,Cn (Au 54) (Str.ofString "_law_free") (vs "law_uf020033_12" 588) 388),
 (395,cO "code" #[vs "_law_order" 714,vs "_law_order" 715,vs "/claim/cut.py" 716,vi 339,vi 2,vi 0,vi 0,vi 3,rf 390,Value.bool true,vi 181,rf 391,Value.none,rf 392,rf 393,rf 394,vi 723,vi 339,vs "/claim/cut.py" 724]),
 (396,Cn (Au 55) (Str.ofString "_law_order") (vs "law_uf020033_12" 588) 395),
 (400,cO "code" #[vs "_law_made" 726,vs "_law_made" 727,vs "/claim/cut.py" 728,vi 349,vi 2,vi 0,vi 0,vi 3,rf 397,Value.bool true,vi 181,rf 398,Value.none,Value.none,Value.none,rf 399,vi 729,vi 349,vs "/claim/cut.py" 730]),
 (401,Cn (Au 56) (Str.ofString "_law_made") (vs "law_uf020033_12" 588) 400),
 (407,cO "code" #[vs "_law_list_anew" 732,vs "_law_list_anew" 733,vs "/claim/cut.py" 734,vi 360,vi 4,vi 0,vi 0,vi 3,rf 402,Value.bool true,vi 181,rf 403,Value.none,rf 404,rf 405,rf 406,vi 744,vi 360,vs "/claim/cut.py" 745]),
 (408,Cn (Au 57) (Str.ofString "_law_list_anew") (vs "law_uf020033_12" 588) 407),
 (414,cO "code" #[vs "_law_crowd" 747,vs "_law_crowd" 748,vs "/claim/cut.py" 749,vi 383,vi 2,vi 0,vi 0,vi 3,rf 409,Value.bool true,vi 181,rf 410,Value.none,rf 411,rf 412,rf 413,vi 754,vi 383,vs "/claim/cut.py" 755]),
 (415,Cn (Au 58) (Str.ofString "_law_crowd") (vs "law_uf020033_12" 588) 414),
 (419,cO "code" #[vs "_law_ring" 757,vs "_law_ring" 758,vs "/claim/cut.py" 759,vi 391,vi 2,vi 0,vi 0,vi 3,rf 416,Value.bool true,vi 181,rf 417,Value.none,Value.none,Value.none,rf 418,vi 760,vi 391,vs "/claim/cut.py" 761]),
 (420,Cn (Au 59) (Str.ofString "_law_ring") (vs "law_uf020033_12" 588) 419),
 (424,cO "code" #[vs "_law_colours" 763,vs "_law_colours" 764,vs "/claim/cut.py" 765,vi 403,vi 3,vi 0,vi 0,vi 3,rf 421,Value.bool true,vi 181,rf 422,Value.none,Value.none,Value.none,rf 423,vi 766,vi 403,vs "/claim/cut.py" 767]),
 (425,Cn (Au 60) (Str.ofString "_law_colours") (vs "law_uf020033_12" 588) 424),
 (431,cO "code" #[vs "_law_good" 769,vs "_law_good" 770,vs "/claim/cut.py" 771,vi 412,vi 2,vi 0,vi 0,vi 3,rf 426,Value.bool true,vi 181,rf 427,Value.none,rf 428,rf 429,rf 430,vi 776,vi 412,vs "/claim/cut.py" 777]),
 (432,Cn (Au 61) (Str.ofString "_law_good") (vs "law_uf020033_12" 588) 431),
 (438,cO "code" #[vs "_law_copy" 779,vs "_law_copy" 780,vs "/claim/cut.py" 781,vi 428,vi 1,vi 0,vi 0,vi 3,rf 433,Value.bool true,vi 181,rf 434,Value.none,rf 435,rf 436,rf 437,vi 783,vi 428,vs "/claim/cut.py" 784]),
 (439,Cn (Au 62) (Str.ofString "_law_copy") (vs "law_uf020033_12" 588) 438),
 (443,cO "code" #[vs "_law_asked" 786,vs "_law_asked" 787,vs "/claim/cut.py" 788,vi 432,vi 3,vi 0,vi 0,vi 3,rf 440,Value.bool true,vi 181,rf 441,Value.none,Value.none,Value.none,rf 442,vi 789,vi 432,vs "/claim/cut.py" 790]),
 (444,Cn (Au 63) (Str.ofString "_law_asked") (vs "law_uf020033_12" 588) 443),
 (448,cO "code" #[vs "law" 792,vs "law" 793,vs "/claim/cut.py" 794,vi 442,vi 1,vi 0,vi 0,vi 3,rf 445,Value.bool true,vi 181,rf 446,Value.none,Value.none,Value.none,rf 447,vi 795,vi 442,vs "/claim/cut.py" 796]),
 (449,Cn (Au 64) (Str.ofString "law") (vs "law_uf020033_12" 588) 448)]
noncomputable def kas:List Addr:=[2,3,23,24,36,37,48,49,60,61,72,73,81,82,88,89,93,94,100,101,107,108,112,113,119,120,124,125,131,132,138,139,143,144,150,151,157,158,162,163,169,170,176,177,181,182,188,189,193,194,200,201,214,215,217,218,228,229,233,234,240,241,254,255,261,262,268,269,275,276,282,283,285,286,294,295,301,302,308,309,315,316,320,321,327,328,332,333,337,338,342,343,349,350,356,357,361,362,366,367,371,372,376,377,383,384,388,389,395,396,400,401,407,408,414,415,419,420,424,425,431,432,438,439,443,444,448,449]
noncomputable def kq:Program:={PySem.Challenge.pw_uf020033_12 with main:={PySem.Challenge.pw_uf020033_12.main with body:=[1,2,3,4,5,7,8,9,10,11,12,13,15,16,17,18,19,20,21,23,24,25,26,27,28,30,31,32,33,35,36,37,39,40,41,42,43,44,45,46,47,48,49,50,51,52,53,54,55,56,57,58,59,60,61,62,63,64].filterMap fun i=>PySem.Challenge.pw_uf020033_12.main.body[i]?}}
theorem Aen(P:Params):kas=(kk P).map (·.1):=by kernel_rfl
noncomputable def kH:Hook:=kHook kk kas Aen
noncomputable def Ab8:Env:={scope:=PySem.Challenge.pw_uf020033_12.main.scope,locals:=mainNs,globals:=mainNs,cells:=[],code:=Value.ref 13,frame:=some 14}
noncomputable abbrev hB:List Stmt:=behindTheImports PySem.Challenge.pw_uf020033_12
noncomputable abbrev hC:Code:= .body hB Ab8
noncomputable abbrev hF:List Frame:=[topFrame {line:=0,col:=0,endLine:=0,endCol:=0}]
noncomputable def s_a(P:Params)(os:OsState):Shared:=⟨⟨Array.mk [
 boot_o_0 P,
 boot_o_1 P,
 boot_o_2 P,
 boot_o_3 P,
 boot_o_4 P,
 boot_o_5 P,
 boot_o_6 P,
 boot_o_7 P,
 boot_o_8 P,
 boot_o_9 P,
 boot_o_10 P,
 tO "tuple" #[],
 {cls:=Value.none,data:=Data.fields #[]},
 cO "code" #[vs "<module>" 182,vs "<module>" 183,vs "/claim/cut.py" 184,vi 1,vi 0,vi 0,vi 0,vi 0,rf 11,Value.bool false,vi 181,rf 12,Value.none,Value.none,Value.none,Value.none,vi 185,vi 1,vs "/claim/cut.py" 186],
 fO #[some (rf 13),some (rf 3),some (rf 3),none,some (vs "__main__" 164),none,some (rf 0)]],{}⟩,Array.mk [],{},187,os⟩
noncomputable def s_b(P:Params)(os:OsState):Shared:=⟨⟨Array.mk [
 boot_o_0 P,
 boot_o_1 P,
 boot_o_2 P,
 boot_o_3 P,
 boot_o_4 P,
 boot_o_5 P,
 boot_o_6 P,
 boot_o_7 P,
 boot_o_8 P,
 boot_o_9 P,
 boot_o_10 P,
 tO "tuple" #[],
 {cls:=Value.none,data:=Data.fields #[]},
 cO "code" #[vs "<module>" 182,vs "<module>" 183,vs "/claim/cut.py" 184,vi 1,vi 0,vi 0,vi 0,vi 0,rf 11,Value.bool false,vi 181,rf 12,Value.none,Value.none,Value.none,Value.none,vi 185,vi 1,vs "/claim/cut.py" 186],
 fO #[some (rf 13),some (rf 3),some (rf 3),none,some (vs "__main__" 164),none,some (rf 0)]],{}⟩,Array.mk [],{},187,os⟩
noncomputable def Aea(P:Params)(os:OsState):Shared:=⟨⟨Array.mk [
 boot_o_0 P,
 boot_o_1 P,
 boot_o_2 P,
 {cls:=Value.type "dict",data:=Data.dict #[dE P "__name__" 165 (vs "shortring.webs" 512),dE P "__doc__" 166 (Value.none),dE P "__package__" 167 (Value.none),dE P "__loader__" 168 (Value.builtin "__main__.__loader__#opaque"),dE P "__spec__" 169 (Value.none),dE P "__annotations__" 170 (rf 6),dE P "__builtins__" 171 (rf 4),dE P "__file__" 173 (vs "/claim/cut.py" 172),dE P "__cached__" 174 (Value.none),dE P "WebError" 206 (rf 24),dE P "BadWeb" 222 (rf 37),dE P "NoPoint" 238 (rf 49),dE P "BadOrder" 254 (rf 61),dE P "HasGap" 270 (rf 73),dE P "is_order" 280 (rf 82),dE P "need_order" 288 (rf 89),dE P "those_behind" 294 (rf 94),dE P "first_untied" 305 (rf 101),dE P "gap" 315 (rf 108),dE P "least_to_go" 321 (rf 113),dE P "taken" 331 (rf 120),dE P "is_crowd" 339 (rf 125),dE P "need_whole" 347 (rf 132),dE P "crowd_at" 356 (rf 139),dE P "is_full" 362 (rf 144),dE P "full_crowds" 373 (rf 151),dE P "least_free" 381 (rf 158),dE P "coloured" 387 (rf 163),dE P "steps_from" 403 (rf 170),dE P "way" 415 (rf 177),dE P "is_ring" 421 (rf 182),dE P "pieces" 432 (rf 189),dE P "ring_at" 438 (rf 194),dE P "long_ring" 447 (rf 201),dE P "Verdict" 486 (rf 218),dE P "judged" 497 (rf 229),dE P "are_colours" 503 (rf 234),dE P "holds" 511 (rf 241),dE P "MOST" 515 (Value.int 60 514),dE P "Web" 581 (rf 286)] 40},
 boot_o_4 P,
 boot_o_5 P,
 boot_o_6 P,
 boot_o_7 P,
 boot_o_8 P,
 boot_o_9 P,
 boot_o_10 P,
 tO "tuple" #[],
 {cls:=Value.none,data:=Data.fields #[vi 2,vi 0,rf 20,vi 4,vi 0,rf 33,vi 6,vi 0,rf 45,vi 8,vi 0,rf 57,vi 10,vi 0,rf 69,vi 13,vi 0,rf 81,vi 15,vi 0,rf 88,vi 18,vi 0,rf 93,vi 21,vi 0,rf 100,vi 27,vi 0,rf 107,vi 34,vi 0,rf 112,vi 39,vi 0,rf 119,vi 49,vi 0,rf 124,vi 55,vi 0,rf 131,vi 58,vi 0,rf 138,vi 60,vi 0,rf 143,vi 65,vi 0,rf 150,vi 73,vi 0,rf 157,vi 78,vi 0,rf 162,vi 85,vi 0,rf 169,vi 97,vi 0,rf 176,vi 110,vi 0,rf 181,vi 122,vi 0,rf 188,vi 129,vi 0,rf 193,vi 145,vi 0,rf 200,vi 152,vi 0,rf 207,vi 160,vi 0,rf 228,vi 170,vi 0,rf 233,vi 176,vi 0,rf 240,vi 190,vi 0,rf 247]},
 cO "code" #[vs "<module>" 182,vs "<module>" 183,vs "/claim/cut.py" 184,vi 1,vi 0,vi 0,vi 0,vi 0,rf 11,Value.bool false,vi 181,rf 12,Value.none,Value.none,Value.none,Value.none,vi 185,vi 1,vs "/claim/cut.py" 186],
 fO #[some (rf 13),some (rf 3),some (rf 3),none,some (vs "__main__" 164),none,some (rf 0)],
 tO "tuple" #[Value.type "ValueError"],
 cO "builtin_function_or_method" #[Value.builtin "type.__prepare__",Value.type "type"],
 {cls:=Value.type "dict",data:=Data.dict #[dE P "__module__" 196 (vs "shortring.errors" 187),dE P "__qualname__" 198 (vs "WebError" 197),dE P "__firstlineno__" 200 (Value.int 2 199),dE P "__static_attributes__" 201 (rf 22)] 4},
 tO "tuple" #[],
 {cls:=Value.none,data:=Data.fields #[]},
 cO "code" #[vs "WebError" 191,vs "WebError" 192,vs "/claim/cut.py" 193,vi 2,vi 0,vi 0,vi 0,vi 0,rf 18,Value.bool false,vi 181,rf 19,Value.none,Value.none,Value.none,Value.none,vi 194,vi 2,vs "/claim/cut.py" 195],
 fO #[some (rf 20),some (rf 3),some (rf 17),none,some (vs "shortring.errors" 187),none,some (rf 0)],
 tO "tuple" #[],
 {cls:=Value.type "dict",data:=Data.dict #[dE P "__module__" 196 (vs "shortring.errors" 187),dE P "__firstlineno__" 200 (Value.int 2 199),dE P "__static_attributes__" 201 (rf 22),dE P "__weakref__" 203 (rf 25),dE P "__doc__" 204 (Value.none)] 3},
 {cls:=Value.type "type",data:=Data.cls {name:=Str.ofString "WebError",bases:=[Value.type "ValueError"],mro:=[rf 24,Value.type "ValueError",Value.type "Exception",Value.type "BaseException",Value.type "object"],ns:=23,qualname:=Str.ofString "WebError",subclasses:=[rf 37,rf 49,rf 61,rf 73]},slots:= #[some (rf 15),none,some (vs "WebError" 189),some (vs "WebError" 197),some (Value.builtin "ValueError.__new__"),some (Value.bool true)]},
 cO "getset_descriptor" #[vs "__weakref__" 202,rf 24,Value.builtin "ExceptionGroup.__weakref__",Value.none],
 cO "super" #[rf 24,rf 24,rf 24],
 cO "builtin_function_or_method" #[Value.builtin "object.__init_subclass__",rf 24],
 tO "tuple" #[rf 24],
 cO "builtin_function_or_method" #[Value.builtin "type.__prepare__",Value.type "type"],
 {cls:=Value.type "dict",data:=Data.dict #[dE P "__module__" 214 (vs "shortring.errors" 187),dE P "__qualname__" 216 (vs "BadWeb" 215),dE P "__firstlineno__" 218 (Value.int 4 217),dE P "__static_attributes__" 219 (rf 35)] 4},
 tO "tuple" #[],
 {cls:=Value.none,data:=Data.fields #[]},
 cO "code" #[vs "BadWeb" 209,vs "BadWeb" 210,vs "/claim/cut.py" 211,vi 4,vi 0,vi 0,vi 0,vi 0,rf 31,Value.bool false,vi 181,rf 32,Value.none,Value.none,Value.none,Value.none,vi 212,vi 4,vs "/claim/cut.py" 213],
 fO #[some (rf 33),some (rf 3),some (rf 30),none,some (vs "shortring.errors" 187),none,some (rf 0)],
 tO "tuple" #[],
 {cls:=Value.type "dict",data:=Data.dict #[dE P "__module__" 214 (vs "shortring.errors" 187),dE P "__firstlineno__" 218 (Value.int 4 217),dE P "__static_attributes__" 219 (rf 35),dE P "__doc__" 220 (Value.none)] 2},
 {cls:=Value.type "type",data:=Data.cls {name:=Str.ofString "BadWeb",bases:=[rf 24],mro:=[rf 37,rf 24,Value.type "ValueError",Value.type "Exception",Value.type "BaseException",Value.type "object"],ns:=36,qualname:=Str.ofString "BadWeb"},slots:= #[some (rf 28),none,some (vs "BadWeb" 207),some (vs "BadWeb" 215),some (Value.builtin "ValueError.__new__"),some (Value.bool true)]},
 cO "super" #[rf 37,rf 37,rf 37],
 cO "builtin_function_or_method" #[Value.builtin "object.__init_subclass__",rf 37],
 tO "tuple" #[rf 24],
 cO "builtin_function_or_method" #[Value.builtin "type.__prepare__",Value.type "type"],
 {cls:=Value.type "dict",data:=Data.dict #[dE P "__module__" 230 (vs "shortring.errors" 187),dE P "__qualname__" 232 (vs "NoPoint" 231),dE P "__firstlineno__" 234 (Value.int 6 233),dE P "__static_attributes__" 235 (rf 47)] 4},
 tO "tuple" #[],
 {cls:=Value.none,data:=Data.fields #[]},
 cO "code" #[vs "NoPoint" 225,vs "NoPoint" 226,vs "/claim/cut.py" 227,vi 6,vi 0,vi 0,vi 0,vi 0,rf 43,Value.bool false,vi 181,rf 44,Value.none,Value.none,Value.none,Value.none,vi 228,vi 6,vs "/claim/cut.py" 229],
 fO #[some (rf 45),some (rf 3),some (rf 42),none,some (vs "shortring.errors" 187),none,some (rf 0)],
 tO "tuple" #[],
 {cls:=Value.type "dict",data:=Data.dict #[dE P "__module__" 230 (vs "shortring.errors" 187),dE P "__firstlineno__" 234 (Value.int 6 233),dE P "__static_attributes__" 235 (rf 47),dE P "__doc__" 236 (Value.none)] 2},
 {cls:=Value.type "type",data:=Data.cls {name:=Str.ofString "NoPoint",bases:=[rf 24],mro:=[rf 49,rf 24,Value.type "ValueError",Value.type "Exception",Value.type "BaseException",Value.type "object"],ns:=48,qualname:=Str.ofString "NoPoint"},slots:= #[some (rf 40),none,some (vs "NoPoint" 223),some (vs "NoPoint" 231),some (Value.builtin "ValueError.__new__"),some (Value.bool true)]},
 cO "super" #[rf 49,rf 49,rf 49],
 cO "builtin_function_or_method" #[Value.builtin "object.__init_subclass__",rf 49],
 tO "tuple" #[rf 24],
 cO "builtin_function_or_method" #[Value.builtin "type.__prepare__",Value.type "type"],
 {cls:=Value.type "dict",data:=Data.dict #[dE P "__module__" 246 (vs "shortring.errors" 187),dE P "__qualname__" 248 (vs "BadOrder" 247),dE P "__firstlineno__" 250 (Value.int 8 249),dE P "__static_attributes__" 251 (rf 59)] 4},
 tO "tuple" #[],
 {cls:=Value.none,data:=Data.fields #[]},
 cO "code" #[vs "BadOrder" 241,vs "BadOrder" 242,vs "/claim/cut.py" 243,vi 8,vi 0,vi 0,vi 0,vi 0,rf 55,Value.bool false,vi 181,rf 56,Value.none,Value.none,Value.none,Value.none,vi 244,vi 8,vs "/claim/cut.py" 245],
 fO #[some (rf 57),some (rf 3),some (rf 54),none,some (vs "shortring.errors" 187),none,some (rf 0)],
 tO "tuple" #[],
 {cls:=Value.type "dict",data:=Data.dict #[dE P "__module__" 246 (vs "shortring.errors" 187),dE P "__firstlineno__" 250 (Value.int 8 249),dE P "__static_attributes__" 251 (rf 59),dE P "__doc__" 252 (Value.none)] 2},
 {cls:=Value.type "type",data:=Data.cls {name:=Str.ofString "BadOrder",bases:=[rf 24],mro:=[rf 61,rf 24,Value.type "ValueError",Value.type "Exception",Value.type "BaseException",Value.type "object"],ns:=60,qualname:=Str.ofString "BadOrder"},slots:= #[some (rf 52),none,some (vs "BadOrder" 239),some (vs "BadOrder" 247),some (Value.builtin "ValueError.__new__"),some (Value.bool true)]},
 cO "super" #[rf 61,rf 61,rf 61],
 cO "builtin_function_or_method" #[Value.builtin "object.__init_subclass__",rf 61],
 tO "tuple" #[rf 24],
 cO "builtin_function_or_method" #[Value.builtin "type.__prepare__",Value.type "type"],
 {cls:=Value.type "dict",data:=Data.dict #[dE P "__module__" 262 (vs "shortring.errors" 187),dE P "__qualname__" 264 (vs "HasGap" 263),dE P "__firstlineno__" 266 (Value.int 10 265),dE P "__static_attributes__" 267 (rf 71)] 4},
 tO "tuple" #[],
 {cls:=Value.none,data:=Data.fields #[]},
 cO "code" #[vs "HasGap" 257,vs "HasGap" 258,vs "/claim/cut.py" 259,vi 10,vi 0,vi 0,vi 0,vi 0,rf 67,Value.bool false,vi 181,rf 68,Value.none,Value.none,Value.none,Value.none,vi 260,vi 10,vs "/claim/cut.py" 261],
 fO #[some (rf 69),some (rf 3),some (rf 66),none,some (vs "shortring.errors" 187),none,some (rf 0)],
 tO "tuple" #[],
 {cls:=Value.type "dict",data:=Data.dict #[dE P "__module__" 262 (vs "shortring.errors" 187),dE P "__firstlineno__" 266 (Value.int 10 265),dE P "__static_attributes__" 267 (rf 71),dE P "__doc__" 268 (Value.none)] 2},
 {cls:=Value.type "type",data:=Data.cls {name:=Str.ofString "HasGap",bases:=[rf 24],mro:=[rf 73,rf 24,Value.type "ValueError",Value.type "Exception",Value.type "BaseException",Value.type "object"],ns:=72,qualname:=Str.ofString "HasGap"},slots:= #[some (rf 64),none,some (vs "HasGap" 255),some (vs "HasGap" 263),some (Value.builtin "ValueError.__new__"),some (Value.bool true)]},
 cO "super" #[rf 73,rf 73,rf 73],
 cO "builtin_function_or_method" #[Value.builtin "object.__init_subclass__",rf 73],
 tO "tuple" #[],
 {cls:=Value.none,data:=Data.fields #[]},
 tO "tuple" #[vs "web" 276,vs "order" 277],
 tO "tuple" #[],
 Ln (Au 7) (Str.ofString "is_order"),
 cO "code" #[vs "is_order" 273,vs "is_order" 274,vs "/claim/cut.py" 275,vi 13,vi 2,vi 0,vi 0,vi 3,rf 76,Value.bool true,vi 181,rf 77,Value.none,rf 78,rf 79,rf 80,vi 278,vi 13,vs "/claim/cut.py" 279],
 Cn (Au 7) (Str.ofString "is_order") (vs "shortring.orders" 271) 81,
 tO "tuple" #[],
 {cls:=Value.none,data:=Data.fields #[]},
 tO "tuple" #[vs "web" 284,vs "order" 285],
 tO "tuple" #[],
 Ln (Au 8) (Str.ofString "need_order"),
 cO "code" #[vs "need_order" 281,vs "need_order" 282,vs "/claim/cut.py" 283,vi 15,vi 2,vi 0,vi 0,vi 3,rf 83,Value.bool true,vi 181,rf 84,Value.none,rf 85,rf 86,rf 87,vi 286,vi 15,vs "/claim/cut.py" 287],
 Cn (Au 8) (Str.ofString "need_order") (vs "shortring.orders" 271) 88,
 tO "tuple" #[],
 {cls:=Value.none,data:=Data.fields #[]},
 Ln (Au 9) (Str.ofString "those_behind"),
 cO "code" #[vs "those_behind" 289,vs "those_behind" 290,vs "/claim/cut.py" 291,vi 18,vi 3,vi 0,vi 0,vi 3,rf 90,Value.bool true,vi 181,rf 91,Value.none,Value.none,Value.none,rf 92,vi 292,vi 18,vs "/claim/cut.py" 293],
 Cn (Au 9) (Str.ofString "those_behind") (vs "shortring.orders" 271) 93,
 tO "tuple" #[],
 {cls:=Value.none,data:=Data.fields #[]},
 tO "tuple" #[vs "web" 298,vs "row" 299,vs "k" 300,vs "one" 301,vs "other" 302],
 tO "tuple" #[],
 Ln (Au 10) (Str.ofString "first_untied"),
 cO "code" #[vs "first_untied" 295,vs "first_untied" 296,vs "/claim/cut.py" 297,vi 21,vi 2,vi 0,vi 0,vi 3,rf 95,Value.bool true,vi 181,rf 96,Value.none,rf 97,rf 98,rf 99,vi 303,vi 21,vs "/claim/cut.py" 304],
 Cn (Au 10) (Str.ofString "first_untied") (vs "shortring.orders" 271) 100,
 tO "tuple" #[],
 {cls:=Value.none,data:=Data.fields #[]},
 tO "tuple" #[vs "web" 309,vs "order" 310,vs "point" 311,vs "pair" 312],
 tO "tuple" #[],
 Ln (Au 11) (Str.ofString "gap"),
 cO "code" #[vs "gap" 306,vs "gap" 307,vs "/claim/cut.py" 308,vi 27,vi 2,vi 0,vi 0,vi 3,rf 102,Value.bool true,vi 181,rf 103,Value.none,rf 104,rf 105,rf 106,vi 313,vi 27,vs "/claim/cut.py" 314],
 Cn (Au 11) (Str.ofString "gap") (vs "shortring.orders" 271) 107,
 tO "tuple" #[],
 {cls:=Value.none,data:=Data.fields #[]},
 Ln (Au 12) (Str.ofString "least_to_go"),
 cO "code" #[vs "least_to_go" 316,vs "least_to_go" 317,vs "/claim/cut.py" 318,vi 34,vi 2,vi 0,vi 0,vi 3,rf 109,Value.bool true,vi 181,rf 110,Value.none,Value.none,Value.none,rf 111,vi 319,vi 34,vs "/claim/cut.py" 320],
 Cn (Au 12) (Str.ofString "least_to_go") (vs "shortring.orders" 271) 112,
 tO "tuple" #[],
 {cls:=Value.none,data:=Data.fields #[]},
 tO "tuple" #[vs "web" 325,vs "there" 326,vs "gone" 327,vs "point" 328],
 tO "tuple" #[],
 Ln (Au 13) (Str.ofString "taken"),
 cO "code" #[vs "taken" 322,vs "taken" 323,vs "/claim/cut.py" 324,vi 39,vi 1,vi 0,vi 0,vi 3,rf 114,Value.bool true,vi 181,rf 115,Value.none,rf 116,rf 117,rf 118,vi 329,vi 39,vs "/claim/cut.py" 330],
 Cn (Au 13) (Str.ofString "taken") (vs "shortring.orders" 271) 119,
 tO "tuple" #[],
 {cls:=Value.none,data:=Data.fields #[]},
 Ln (Au 15) (Str.ofString "is_crowd"),
 cO "code" #[vs "is_crowd" 334,vs "is_crowd" 335,vs "/claim/cut.py" 336,vi 49,vi 2,vi 0,vi 0,vi 3,rf 121,Value.bool true,vi 181,rf 122,Value.none,Value.none,Value.none,rf 123,vi 337,vi 49,vs "/claim/cut.py" 338],
 Cn (Au 15) (Str.ofString "is_crowd") (vs "shortring.crowds" 332) 124,
 tO "tuple" #[],
 {cls:=Value.none,data:=Data.fields #[]},
 tO "tuple" #[vs "web" 343,vs "order" 344],
 tO "tuple" #[],
 Ln (Au 16) (Str.ofString "need_whole"),
 cO "code" #[vs "need_whole" 340,vs "need_whole" 341,vs "/claim/cut.py" 342,vi 55,vi 2,vi 0,vi 0,vi 3,rf 126,Value.bool true,vi 181,rf 127,Value.none,rf 128,rf 129,rf 130,vi 345,vi 55,vs "/claim/cut.py" 346],
 Cn (Au 16) (Str.ofString "need_whole") (vs "shortring.crowds" 332) 131,
 tO "tuple" #[],
 {cls:=Value.none,data:=Data.fields #[]},
 tO "tuple" #[vs "web" 351,vs "order" 352,vs "point" 353],
 tO "tuple" #[],
 Ln (Au 17) (Str.ofString "crowd_at"),
 cO "code" #[vs "crowd_at" 348,vs "crowd_at" 349,vs "/claim/cut.py" 350,vi 58,vi 3,vi 0,vi 0,vi 3,rf 133,Value.bool true,vi 181,rf 134,Value.none,rf 135,rf 136,rf 137,vi 354,vi 58,vs "/claim/cut.py" 355],
 Cn (Au 17) (Str.ofString "crowd_at") (vs "shortring.crowds" 332) 138,
 tO "tuple" #[],
 {cls:=Value.none,data:=Data.fields #[]},
 Ln (Au 18) (Str.ofString "is_full"),
 cO "code" #[vs "is_full" 357,vs "is_full" 358,vs "/claim/cut.py" 359,vi 60,vi 2,vi 0,vi 0,vi 3,rf 140,Value.bool true,vi 181,rf 141,Value.none,Value.none,Value.none,rf 142,vi 360,vi 60,vs "/claim/cut.py" 361],
 Cn (Au 18) (Str.ofString "is_full") (vs "shortring.crowds" 332) 143,
 tO "tuple" #[],
 {cls:=Value.none,data:=Data.fields #[]},
 tO "tuple" #[vs "web" 366,vs "order" 367,vs "found" 368,vs "point" 369,vs "crowd" 370],
 tO "tuple" #[],
 Ln (Au 19) (Str.ofString "full_crowds"),
 cO "code" #[vs "full_crowds" 363,vs "full_crowds" 364,vs "/claim/cut.py" 365,vi 65,vi 2,vi 0,vi 0,vi 3,rf 145,Value.bool true,vi 181,rf 146,Value.none,rf 147,rf 148,rf 149,vi 371,vi 65,vs "/claim/cut.py" 372],
 Cn (Au 19) (Str.ofString "full_crowds") (vs "shortring.crowds" 332) 150,
 tO "tuple" #[],
 {cls:=Value.none,data:=Data.fields #[]},
 tO "tuple" #[vs "used" 377,vs "colour" 378],
 tO "tuple" #[],
 Ln (Au 20) (Str.ofString "least_free"),
 cO "code" #[vs "least_free" 374,vs "least_free" 375,vs "/claim/cut.py" 376,vi 73,vi 1,vi 0,vi 0,vi 3,rf 152,Value.bool true,vi 181,rf 153,Value.none,rf 154,rf 155,rf 156,vi 379,vi 73,vs "/claim/cut.py" 380],
 Cn (Au 20) (Str.ofString "least_free") (vs "shortring.crowds" 332) 157,
 tO "tuple" #[],
 {cls:=Value.none,data:=Data.fields #[]},
 Ln (Au 21) (Str.ofString "coloured"),
 cO "code" #[vs "coloured" 382,vs "coloured" 383,vs "/claim/cut.py" 384,vi 78,vi 2,vi 0,vi 0,vi 3,rf 159,Value.bool true,vi 181,rf 160,Value.none,Value.none,Value.none,rf 161,vi 385,vi 78,vs "/claim/cut.py" 386],
 Cn (Au 21) (Str.ofString "coloured") (vs "shortring.crowds" 332) 162,
 tO "tuple" #[],
 {cls:=Value.none,data:=Data.fields #[]},
 tO "tuple" #[vs "web" 393,vs "start" 394,vs "shut" 395,vs "came" 396,vs "waiting" 397,vs "k" 398,vs "point" 399,vs "other" 400],
 tO "tuple" #[],
 Ln (Au 23) (Str.ofString "steps_from"),
 cO "code" #[vs "steps_from" 390,vs "steps_from" 391,vs "/claim/cut.py" 392,vi 85,vi 3,vi 0,vi 0,vi 3,rf 164,Value.bool true,vi 181,rf 165,Value.none,rf 166,rf 167,rf 168,vi 401,vi 85,vs "/claim/cut.py" 402],
 Cn (Au 23) (Str.ofString "steps_from") (vs "shortring.rings" 388) 169,
 tO "tuple" #[],
 {cls:=Value.none,data:=Data.fields #[]},
 tO "tuple" #[vs "web" 407,vs "start" 408,vs "goal" 409,vs "shut" 410,vs "came" 411,vs "found" 412],
 tO "tuple" #[],
 Ln (Au 24) (Str.ofString "way"),
 cO "code" #[vs "way" 404,vs "way" 405,vs "/claim/cut.py" 406,vi 97,vi 4,vi 0,vi 0,vi 3,rf 171,Value.bool true,vi 181,rf 172,Value.none,rf 173,rf 174,rf 175,vi 413,vi 97,vs "/claim/cut.py" 414],
 Cn (Au 24) (Str.ofString "way") (vs "shortring.rings" 388) 176,
 tO "tuple" #[],
 {cls:=Value.none,data:=Data.fields #[]},
 Ln (Au 25) (Str.ofString "is_ring"),
 cO "code" #[vs "is_ring" 416,vs "is_ring" 417,vs "/claim/cut.py" 418,vi 110,vi 2,vi 0,vi 0,vi 3,rf 178,Value.bool true,vi 181,rf 179,Value.none,Value.none,Value.none,rf 180,vi 419,vi 110,vs "/claim/cut.py" 420],
 Cn (Au 25) (Str.ofString "is_ring") (vs "shortring.rings" 388) 181,
 tO "tuple" #[],
 {cls:=Value.none,data:=Data.fields #[]},
 tO "tuple" #[vs "web" 425,vs "shut" 426,vs "piece" 427,vs "start" 428,vs "point" 429],
 tO "tuple" #[],
 Ln (Au 26) (Str.ofString "pieces"),
 cO "code" #[vs "pieces" 422,vs "pieces" 423,vs "/claim/cut.py" 424,vi 122,vi 2,vi 0,vi 0,vi 3,rf 183,Value.bool true,vi 181,rf 184,Value.none,rf 185,rf 186,rf 187,vi 430,vi 122,vs "/claim/cut.py" 431],
 Cn (Au 26) (Str.ofString "pieces") (vs "shortring.rings" 388) 188,
 tO "tuple" #[],
 {cls:=Value.none,data:=Data.fields #[]},
 Ln (Au 27) (Str.ofString "ring_at"),
 cO "code" #[vs "ring_at" 433,vs "ring_at" 434,vs "/claim/cut.py" 435,vi 129,vi 2,vi 0,vi 0,vi 3,rf 190,Value.bool true,vi 181,rf 191,Value.none,Value.none,Value.none,rf 192,vi 436,vi 129,vs "/claim/cut.py" 437],
 Cn (Au 27) (Str.ofString "ring_at") (vs "shortring.rings" 388) 193,
 tO "tuple" #[],
 {cls:=Value.none,data:=Data.fields #[]},
 tO "tuple" #[vs "web" 442,vs "point" 443,vs "found" 444],
 tO "tuple" #[],
 Ln (Au 28) (Str.ofString "long_ring"),
 cO "code" #[vs "long_ring" 439,vs "long_ring" 440,vs "/claim/cut.py" 441,vi 145,vi 1,vi 0,vi 0,vi 3,rf 195,Value.bool true,vi 181,rf 196,Value.none,rf 197,rf 198,rf 199,vi 445,vi 145,vs "/claim/cut.py" 446],
 Cn (Au 28) (Str.ofString "long_ring") (vs "shortring.rings" 388) 200,
 tO "tuple" #[],
 cO "builtin_function_or_method" #[Value.builtin "type.__prepare__",Value.type "type"],
 {cls:=Value.type "dict",data:=Data.dict #[dE P "__module__" 457 (vs "shortring.verdicts" 448),dE P "__qualname__" 459 (vs "Verdict" 458),dE P "__firstlineno__" 461 (Value.int 152 460),dE P "__init__" 473 (rf 215),dE P "__static_attributes__" 479 (rf 216)] 5},
 tO "tuple" #[],
 {cls:=Value.none,data:=Data.fields #[vi 154,vi 4,rf 214]},
 cO "code" #[vs "Verdict" 452,vs "Verdict" 453,vs "/claim/cut.py" 454,vi 152,vi 0,vi 0,vi 0,vi 0,rf 205,Value.bool false,vi 181,rf 206,Value.none,Value.none,Value.none,Value.none,vi 455,vi 152,vs "/claim/cut.py" 456],
 fO #[some (rf 207),some (rf 3),some (rf 204),none,some (vs "shortring.verdicts" 448),none,some (rf 0)],
 tO "tuple" #[],
 {cls:=Value.none,data:=Data.fields #[]},
 tO "tuple" #[vs "self" 465,vs "order" 466,vs "ring" 467,vs "crowd" 468,vs "colours" 469,vs "many" 470],
 tO "tuple" #[],
 Ln (Ic 30 0) (Str.ofString "Verdict.__init__"),
 cO "code" #[vs "__init__" 462,vs "Verdict.__init__" 463,vs "/claim/cut.py" 464,vi 154,vi 6,vi 0,vi 0,vi 3,rf 209,Value.bool true,vi 181,rf 210,Value.none,rf 211,rf 212,rf 213,vi 471,vi 154,vs "/claim/cut.py" 472],
 Cn (Ic 30 0) (Str.ofString "Verdict.__init__") (vs "shortring.verdicts" 448) 214,
 tO "tuple" #[vs "colours" 474,vs "crowd" 475,vs "many" 476,vs "order" 477,vs "ring" 478],
 {cls:=Value.type "dict",data:=Data.dict #[dE P "__module__" 457 (vs "shortring.verdicts" 448),dE P "__firstlineno__" 461 (Value.int 152 460),dE P "__init__" 473 (rf 215),dE P "__static_attributes__" 479 (rf 216),dE P "__dict__" 481 (rf 219),dE P "__weakref__" 483 (rf 220),dE P "__doc__" 484 (Value.none)] 4},
 {cls:=Value.type "type",data:=Data.cls {name:=Str.ofString "Verdict",bases:=[Value.type "object"],mro:=[rf 218,Value.type "object"],ns:=217,qualname:=Str.ofString "Verdict"},slots:= #[none,none,some (vs "Verdict" 450),some (vs "Verdict" 458),some (Value.builtin "object.__new__"),some (Value.bool true)]},
 cO "getset_descriptor" #[vs "__dict__" 480,rf 218,Value.builtin "function.__dict__",Value.builtin "function.__dict__#set"],
 cO "getset_descriptor" #[vs "__weakref__" 482,rf 218,Value.builtin "ExceptionGroup.__weakref__",Value.none],
 cO "super" #[rf 218,rf 218,rf 218],
 cO "builtin_function_or_method" #[Value.builtin "object.__init_subclass__",rf 218],
 tO "tuple" #[],
 {cls:=Value.none,data:=Data.fields #[]},
 tO "tuple" #[vs "web" 490,vs "ring" 491,vs "order" 492,vs "greatest" 493,vs "crowd" 494],
 tO "tuple" #[],
 Ln (Au 31) (Str.ofString "judged"),
 cO "code" #[vs "judged" 487,vs "judged" 488,vs "/claim/cut.py" 489,vi 160,vi 1,vi 0,vi 0,vi 3,rf 223,Value.bool true,vi 181,rf 224,Value.none,rf 225,rf 226,rf 227,vi 495,vi 160,vs "/claim/cut.py" 496],
 Cn (Au 31) (Str.ofString "judged") (vs "shortring.verdicts" 448) 228,
 tO "tuple" #[],
 {cls:=Value.none,data:=Data.fields #[]},
 Ln (Au 32) (Str.ofString "are_colours"),
 cO "code" #[vs "are_colours" 498,vs "are_colours" 499,vs "/claim/cut.py" 500,vi 170,vi 3,vi 0,vi 0,vi 3,rf 230,Value.bool true,vi 181,rf 231,Value.none,Value.none,Value.none,rf 232,vi 501,vi 170,vs "/claim/cut.py" 502],
 Cn (Au 32) (Str.ofString "are_colours") (vs "shortring.verdicts" 448) 233,
 tO "tuple" #[],
 {cls:=Value.none,data:=Data.fields #[]},
 tO "tuple" #[vs "web" 507,vs "verdict" 508],
 tO "tuple" #[],
 Ln (Au 33) (Str.ofString "holds"),
 cO "code" #[vs "holds" 504,vs "holds" 505,vs "/claim/cut.py" 506,vi 176,vi 2,vi 0,vi 0,vi 3,rf 235,Value.bool true,vi 181,rf 236,Value.none,rf 237,rf 238,rf 239,vi 509,vi 176,vs "/claim/cut.py" 510],
 Cn (Au 33) (Str.ofString "holds") (vs "shortring.verdicts" 448) 240,
 tO "tuple" #[],
 cO "builtin_function_or_method" #[Value.builtin "type.__prepare__",Value.type "type"],
 {cls:=Value.type "dict",data:=Data.dict #[dE P "__module__" 523 (vs "shortring.webs" 512),dE P "__qualname__" 525 (vs "Web" 524),dE P "__firstlineno__" 527 (Value.int 190 526),dE P "__init__" 536 (rf 255),dE P "need" 544 (rf 262),dE P "beside" 552 (rf 269),dE P "tied" 561 (rf 276),dE P "ties" 571 (rf 283),dE P "__static_attributes__" 574 (rf 284)] 9},
 tO "tuple" #[],
 {cls:=Value.none,data:=Data.fields #[vi 192,vi 4,rf 254,vi 196,vi 4,rf 261,vi 200,vi 4,rf 268,vi 204,vi 4,rf 275,vi 209,vi 4,rf 282]},
 cO "code" #[vs "Web" 518,vs "Web" 519,vs "/claim/cut.py" 520,vi 190,vi 0,vi 0,vi 0,vi 0,rf 245,Value.bool false,vi 181,rf 246,Value.none,Value.none,Value.none,Value.none,vi 521,vi 190,vs "/claim/cut.py" 522],
 fO #[some (rf 247),some (rf 3),some (rf 244),none,some (vs "shortring.webs" 512),none,some (rf 0)],
 tO "tuple" #[],
 {cls:=Value.none,data:=Data.fields #[]},
 tO "tuple" #[vs "self" 531,vs "many" 532,vs "rows" 533],
 tO "tuple" #[],
 Ln (Ic 36 0) (Str.ofString "Web.__init__"),
 cO "code" #[vs "__init__" 528,vs "Web.__init__" 529,vs "/claim/cut.py" 530,vi 192,vi 3,vi 0,vi 0,vi 3,rf 249,Value.bool true,vi 181,rf 250,Value.none,rf 251,rf 252,rf 253,vi 534,vi 192,vs "/claim/cut.py" 535],
 Cn (Ic 36 0) (Str.ofString "Web.__init__") (vs "shortring.webs" 512) 254,
 tO "tuple" #[],
 {cls:=Value.none,data:=Data.fields #[]},
 tO "tuple" #[vs "self" 540,vs "point" 541],
 tO "tuple" #[],
 Ln (Ic 36 1) (Str.ofString "Web.need"),
 cO "code" #[vs "need" 537,vs "Web.need" 538,vs "/claim/cut.py" 539,vi 196,vi 2,vi 0,vi 0,vi 3,rf 256,Value.bool true,vi 181,rf 257,Value.none,rf 258,rf 259,rf 260,vi 542,vi 196,vs "/claim/cut.py" 543],
 Cn (Ic 36 1) (Str.ofString "Web.need") (vs "shortring.webs" 512) 261,
 tO "tuple" #[],
 {cls:=Value.none,data:=Data.fields #[]},
 tO "tuple" #[vs "self" 548,vs "point" 549],
 tO "tuple" #[],
 Ln (Ic 36 2) (Str.ofString "Web.beside"),
 cO "code" #[vs "beside" 545,vs "Web.beside" 546,vs "/claim/cut.py" 547,vi 200,vi 2,vi 0,vi 0,vi 3,rf 263,Value.bool true,vi 181,rf 264,Value.none,rf 265,rf 266,rf 267,vi 550,vi 200,vs "/claim/cut.py" 551],
 Cn (Ic 36 2) (Str.ofString "Web.beside") (vs "shortring.webs" 512) 268,
 tO "tuple" #[],
 {cls:=Value.none,data:=Data.fields #[]},
 tO "tuple" #[vs "self" 556,vs "one" 557,vs "other" 558],
 tO "tuple" #[],
 Ln (Ic 36 3) (Str.ofString "Web.tied"),
 cO "code" #[vs "tied" 553,vs "Web.tied" 554,vs "/claim/cut.py" 555,vi 204,vi 3,vi 0,vi 0,vi 3,rf 270,Value.bool true,vi 181,rf 271,Value.none,rf 272,rf 273,rf 274,vi 559,vi 204,vs "/claim/cut.py" 560],
 Cn (Ic 36 3) (Str.ofString "Web.tied") (vs "shortring.webs" 512) 275,
 tO "tuple" #[],
 {cls:=Value.none,data:=Data.fields #[]},
 tO "tuple" #[vs "self" 565,vs "found" 566,vs "one" 567,vs "other" 568],
 tO "tuple" #[],
 Ln (Ic 36 4) (Str.ofString "Web.ties"),
 cO "code" #[vs "ties" 562,vs "Web.ties" 563,vs "/claim/cut.py" 564,vi 209,vi 1,vi 0,vi 0,vi 3,rf 277,Value.bool true,vi 181,rf 278,Value.none,rf 279,rf 280,rf 281,vi 569,vi 209,vs "/claim/cut.py" 570],
 Cn (Ic 36 4) (Str.ofString "Web.ties") (vs "shortring.webs" 512) 282,
 tO "tuple" #[vs "many" 572,vs "rows" 573],
 {cls:=Value.type "dict",data:=Data.dict #[dE P "__module__" 523 (vs "shortring.webs" 512),dE P "__firstlineno__" 527 (Value.int 190 526),dE P "__init__" 536 (rf 255),dE P "need" 544 (rf 262),dE P "beside" 552 (rf 269),dE P "tied" 561 (rf 276),dE P "ties" 571 (rf 283),dE P "__static_attributes__" 574 (rf 284),dE P "__dict__" 576 (rf 287),dE P "__weakref__" 578 (rf 288),dE P "__doc__" 579 (Value.none)] 4},
 {cls:=Value.type "type",data:=Data.cls {name:=Str.ofString "Web",bases:=[Value.type "object"],mro:=[rf 286,Value.type "object"],ns:=285,qualname:=Str.ofString "Web"},slots:= #[none,none,some (vs "Web" 516),some (vs "Web" 524),some (Value.builtin "object.__new__"),some (Value.bool true)]},
 cO "getset_descriptor" #[vs "__dict__" 575,rf 286,Value.builtin "function.__dict__",Value.builtin "function.__dict__#set"],
 cO "getset_descriptor" #[vs "__weakref__" 577,rf 286,Value.builtin "ExceptionGroup.__weakref__",Value.none],
 cO "super" #[rf 286,rf 286,rf 286],
 cO "builtin_function_or_method" #[Value.builtin "object.__init_subclass__",rf 286]],{}⟩,Array.mk [],{},582,os⟩
theorem Agh:∀w:World,(fun os=>topGo treeTable PySem.Challenge.pw_uf020033_12 w 11 (some (Value.ref 6)) 12 ⟨boot_heap w.params,Array.mk [],boot_drawn,boot_toks,os⟩ (topStub PySem.Challenge.pw_uf020033_12))=fun os=>some (s_a w.params os,⟨denote treeTable hC,hC,{line:=0,col:=0,endLine:=0,endCol:=0},hF⟩):=by
 intro w
 kernel_rfl
theorem Agi:∀w:World,(fun os=>segRun treeTable PySem.Challenge.pw_uf020033_12 w 11 (some (Value.ref 6)) 1 1 (s_a w.params os) (blockOf hB Ab8 hC {line:=0,col:=0,endLine:=0,endCol:=0} hF))=fun os=>some (Flow.next,s_b w.params os,hC,{line:=0,col:=0,endLine:=0,endCol:=0}):=by
 intro w
 kernel_rfl
theorem Xx{p:Program}{w:World}{n₀:Nat}{ann:Option Value}{env:Env}{q:Pos}(k:Nat){n N:Nat}{s s' r:Shared}{b:List Stmt}{c:Code}{pos p':Pos}(h:segRun treeTable p w n₀ ann 1 n s (piecesOf (b.take k) env c pos [topFrame q])=some (.next,s',c,p'))
 (t:topRun treeTable p w n₀ ann N s' (restOf (b.drop k) env c p' [topFrame q])=some r):topRun treeTable p w n₀ ann (n+N) s (restOf b env c pos [topFrame q])=some r:=by
 have:=piece_app h t
 rwa[List.take_append_drop]at this
theorem Agj:∀w:World,(fun os=>segRun treeTable PySem.Challenge.pw_uf020033_12 w 11 (some (Value.ref 6)) 1 2414 (s_b w.params os) (piecesOf ((hB).take 37) Ab8 hC {line:=0,col:=0,endLine:=0,endCol:=0} hF))=fun os=>some (Flow.next,Aea w.params os,hC,{line:=190,col:=0,endLine:=215,endCol:=20}):=by
 intro w
 kernel_rfl
theorem Agk:∀w:World,(fun os=>(topRun treeTable PySem.Challenge.pw_uf020033_12 w 11 (some (Value.ref 6)) 866 (Aea w.params os) (restOf ((hB).drop 37) Ab8 hC {line:=190,col:=0,endLine:=215,endCol:=20} hF)).map (fun s=>(staticsOk (importedModules PySem.Challenge.pw_uf020033_12.main.body) (boot_heap w.params) s.heap&&namesBound PySem.Challenge.pw_uf020033_12 s.heap&&gensDone s&&laidKept (boot_heap w.params) s.heap,openSeen kq [] (importedModules PySem.Challenge.pw_uf020033_12.main.body) (fun s=>xlAt kq [] s&&recOk (RowW.records PySem.Challenge.rw_uf020033_12.row.toRowW) s) true s,Hook.obs kH s)))=fun os=>some (true,openGood kq [],Hook.val kH w):=by
 intro w
 kernel_rfl
theorem Zk{p q:Program}{loose:List Str}{Xt:Shared->Bool}{α:Type}{Yf:Shared->α}{Ya:World->α}{N:Nat}{H₀:Params->Heap}{gs₀:Array GenState}{d₀:Drawn}{k₀:Nat}{m₀:Nat}{ann:Option Value}{M:Nat}
 (op:∀w:World,(fencedOpening treeTable p w N).map (fun s=>(s.heap,s.gens,s.drawn,s.toks))=some (H₀ w.params,gs₀,d₀,k₀))
 (size:∀w:World,((H₀ w.params).isNs mainGlobals&&gs₀.size==0,(H₀ w.params).objs.size,(H₀ w.params).nsMap mainGlobals "__annotations__")=(true,m₀,ann))
 (run:∀(w:World) (os:OsState),∃r,topRun treeTable p w m₀ ann M ⟨H₀ w.params,gs₀,d₀,k₀,os⟩ (topStub p)=some r/\(staticsOk (importedModules p.main.body) (H₀ w.params) r.heap&&namesBound p r.heap&&gensDone r&&laidKept (H₀ w.params) r.heap)=true/\openSeen q loose (importedModules p.main.body) Xt true r=openGood q loose/\Yf r=Ya w)
 (le:Nat.ble M N=true):LeftO p q loose Xt Yf Ya N:=fun w=>by
 obtain⟨⟨h,gs,d,k,os⟩,e,e'⟩:=Option.map_eq_some_iff.mp (op w)
 obtain⟨rfl,rfl,rfl,rfl⟩:h=H₀ w.params/\gs=gs₀/\d=d₀/\k=k₀:=by simpa using e'
 obtain⟨z1,z2,z3⟩:_/\_/\_:=by simpa only[Prod.mk.injEq]using size w
 obtain⟨r,hr,l1,l2,l3⟩:=run w os
 have r':=topRun_mono (N-M) _ _ _ _ hr
 rw[show M+(N-M)=N by have:=Nat.le_of_ble_eq_true le;omega]at r'
 have t:topFrom treeTable p w N ⟨H₀ w.params,gs,d,k,os⟩=some r:=by
  unfold topFrom
  dsimp only
  rw[z1,z2,z3,r']
  show (match staticsOk (importedModules p.main.body) (H₀ w.params) r.heap&&namesBound p r.heap&&gensDone r&&laidKept (H₀ w.params) r.heap with|true=>_|false=>_)=_
  rw[l1]
 unfold openEnds
 rw[e]
 show (topFrom treeTable p w N _).map _=_
 rw[t]
 exact congrArg some (Prod.ext l2 l3)
theorem b_e:opening PySem.Challenge.pw_uf020033_12=plainProg PySem.Challenge.pw_uf020033_12.main.scope.names:=by kernel_rfl
theorem b_f(s:Shared):fenceModules? PySem.Challenge.pw_uf020033_12 s=some s:=by kernel_rfl
theorem Aeo(w:World):((boot_heap w.params).isNs mainGlobals&&(Array.mk ([]:List GenState)).size==0,(boot_heap w.params).objs.size,(boot_heap w.params).nsMap mainGlobals "__annotations__")=(true,11,some (Value.ref 6)):=by kernel_rfl
theorem Aio:LeftO PySem.Challenge.pw_uf020033_12 kq [] (fun s=>xlAt kq [] s&&recOk (RowW.records PySem.Challenge.rw_uf020033_12.row.toRowW) s) (Hook.obs kH) (Hook.val kH) 6444:=
 Zk (M:=12+(1+(2414+(866)))) (boot_open b_e (by decide) b_f) Aeo (fun w os=>by
  obtain⟨r,hr,ho⟩:=Option.map_eq_some_iff.mp (congrFun (Agk w) os)
  obtain⟨o1,ho⟩:=Prod.mk.inj ho
  obtain⟨o2,o3⟩:=Prod.mk.inj ho
  exact⟨r,go_top (congrFun (Agh w) os) (piece_block (congrFun (Agi w) os) (Xx 37 (congrFun (Agj w) os) (hr))),o1,o2,o3⟩) (by decide)
end Mine.Internal.Cl
namespace Mine.Internal
open PySem
theorem Aa{p:Prop}(h:¬p->False):p:=Classical.byContradiction h
inductive Q9{α0:Type}(p:α0->Prop):Prop
 | mk (x0:α0) (h:p x0)
inductive Ii{α0 α1:Type}(p:α0->α1->Prop):Prop
 | mk (x0:α0) (x1:α1) (h:p x0 x1)
inductive Ex3{α0 α1 α2:Type}(p:α0->α1->α2->Prop):Prop
 | mk (x0:α0) (x1:α1) (x2:α2) (h:p x0 x1 x2)
inductive Ex4{α0 α1 α2 α3:Type}(p:α0->α1->α2->α3->Prop):Prop
 | mk (x0:α0) (x1:α1) (x2:α2) (x3:α3) (h:p x0 x1 x2 x3)
inductive Ex5{α0 α1 α2 α3 α4:Type}(p:α0->α1->α2->α3->α4->Prop):Prop
 | mk (x0:α0) (x1:α1) (x2:α2) (x3:α3) (x4:α4) (h:p x0 x1 x2 x3 x4)
inductive Ex6{α0 α1 α2 α3 α4 α5:Type}(p:α0->α1->α2->α3->α4->α5->Prop):Prop
 | mk (x0:α0) (x1:α1) (x2:α2) (x3:α3) (x4:α4) (x5:α5) (h:p x0 x1 x2 x3 x4 x5)
inductive Ex7{α0 α1 α2 α3 α4 α5 α6:Type}(p:α0->α1->α2->α3->α4->α5->α6->Prop):Prop
 | mk (x0:α0) (x1:α1) (x2:α2) (x3:α3) (x4:α4) (x5:α5) (x6:α6) (h:p x0 x1 x2 x3 x4 x5 x6)
inductive E6(a0 a1 a2:Prop):Prop
 | mk (h0:a0) (h1:a1) (h2:a2)
inductive Td(a0 a1 a2 a3:Prop):Prop
 | mk (h0:a0) (h1:a1) (h2:a2) (h3:a3)
inductive U1(a0 a1 a2 a3 a4:Prop):Prop
 | mk (h0:a0) (h1:a1) (h2:a2) (h3:a3) (h4:a4)
inductive An6(a0 a1 a2 a3 a4 a5:Prop):Prop
 | mk (h0:a0) (h1:a1) (h2:a2) (h3:a3) (h4:a4) (h5:a5)
inductive An7(a0 a1 a2 a3 a4 a5 a6:Prop):Prop
 | mk (h0:a0) (h1:a1) (h2:a2) (h3:a3) (h4:a4) (h5:a5) (h6:a6)
inductive An8(a0 a1 a2 a3 a4 a5 a6 a7:Prop):Prop
 | mk (h0:a0) (h1:a1) (h2:a2) (h3:a3) (h4:a4) (h5:a5) (h6:a6) (h7:a7)
inductive Aip(a0 a1 a2 a3 a4 a5 a6 a7 a8 a9 a10:Prop):Prop
 | mk (h0:a0) (h1:a1) (h2:a2) (h3:a3) (h4:a4) (h5:a5) (h6:a6) (h7:a7) (h8:a8) (h9:a9) (h10:a10)
inductive Agl(a0 a1 a2 a3 a4 a5 a6 a7 a8 a9 a10 a11 a12:Prop):Prop
 | mk (h0:a0) (h1:a1) (h2:a2) (h3:a3) (h4:a4) (h5:a5) (h6:a6) (h7:a7) (h8:a8) (h9:a9) (h10:a10) (h11:a11) (h12:a12)
inductive V where
 | none|bool (b:Bool)|int (i:Int)|str (s:Str)|ref (a:Nat)|fn (f:Str)|script (ns:List Int)
inductive Kb where
 | web|verdict|webError|badWeb|noPoint|badText|badOrder|hasGap
 deriving DecidableEq
inductive Ct where
 | many|rows|order|ring|crowd|colours
 deriving DecidableEq
inductive Ty where
 | int|bool|list
 deriving DecidableEq
inductive BI where
 | len|list|listRange|sorted|max|min|minL|all|any|lenSet|sortedSet|isinst (t:Ty)|str|int
 deriving DecidableEq
inductive LM where
 | append|clear|count|extend|index|remove|reverse|setdefault|split|join
 deriving DecidableEq
inductive O where
 | list (xs:List V)|tuple (xs:List V)|dict (es:List (Int×V))|inst (c:Kb) (d:Nat)|ns (fs:List (Ct×V))|exc (c:Kb)
noncomputable abbrev AH:=Nat->Option O
noncomputable def upd(h:AH)(a:Nat)(o:O):AH:=fun b=>if b=a then some o else h b
noncomputable abbrev Ak:=List (Option V)
set_option genCtorIdx false in
inductive X where
 | omit
 | cnone|cbool (b:Bool)|cint (i:Int)|cstr (s:Str)
 | var (i:Nat)
 | glob (g:Str)
 | fnv (f:Str)
 | not (e:X)|neg (e:X)
 | and (l r:X)|or (l r:X)
 | bin (op:Operator) (l r:X)
 | cmp (op:CmpOp) (l r:X)
 | chain (l:X) (op1:CmpOp) (m:X) (op2:CmpOp) (r:X)
 | ite (t a b:X)
 | call (f:Str) (args:List X)
 | callv (f:X) (args:List X)
 | mk (c:Kb) (args:List X)
 | meth (m:Str) (o:X) (args:List X)
 | bi (b:BI) (args:List X)
 | isVE (e:X)
 | lm (m:LM) (o:X) (args:List X)
 | attr (o:X) (a:Ct)
 | sub (o i:X)
 | slice (o l u s:X)
 | list (es:List X)|tuple (es:List X)|dict (ks vs:List X)
 | range (args:List X)|enum (e:X)|rev (e:X)|val (e:X)
 | comp (k:Nat) (src elt:X)
 | compIf (k:Nat) (src cond elt:X)
set_option genCtorIdx false in
inductive Tg where
 | one (i:Nat)|two (i j:Nat)
set_option genCtorIdx false in
inductive S where
 | assign (i:Nat) (e:X)
 | setattr (o:X) (a:Ct) (e:X)
 | setitem (o i e:X)
 | expr (e:X)
 | ite (t:X) (a b:List S)
 | for (t:Tg) (src:X) (body:List S)
 | while (t:X) (body:List S)
 | ret (e:X)
 | pass
 | raise (c:Kb)
 | try1 (body:List S) (c:Kb) (as:Option Nat) (h:List S)
 | try2 (body:List S) (c:Kb) (as:Option Nat) (h:List S) (c':Kb) (h':List S)
set_option genCtorIdx false in
structure Fn where
 slots:Nat
 arity:Nat
 body:List S
set_option genCtorIdx false in
structure Aw where
 fn:Str->Option Fn
 const:Str->Option V
 exc:Kb->Bool
noncomputable abbrev Ah:=V->AH->Prop
noncomputable abbrev EP:=V->AH->Prop
noncomputable abbrev EF:EP:=fun _ _=>False
noncomputable abbrev CS:=Str->List V->AH->Ah->EP->Prop
noncomputable def Bq:Nat:=1048576
noncomputable def Ay(o:O)(H:AH)(Q:Ah):Prop:=∀a,H a=none->Q (.ref a) (upd H a o)
noncomputable def A2(v:V)(P:Nat->Prop):Prop:=match v with | .ref a=>P a|_=>False
noncomputable def Ax(v:V)(P:Int->Prop):Prop:=match v with | .int i=>P i|_=>False
noncomputable def F8(o:Option O)(P:List V->Prop):Prop:=match o with|some (.list xs)=>P xs|_=>False
noncomputable def U2(o:Option O)(P:List (Int×V)->Prop):Prop:=match o with|some (.dict es)=>P es|_=>False
noncomputable def Ow(o:Option O)(P:Kb->Nat->Prop):Prop:=match o with|some (.inst c d)=>P c d|_=>False
noncomputable def Wn(o:Option O)(P:Nat->Prop):Prop:=match o with|some (.inst .web d)=>P d|_=>False
noncomputable def Th(o:Option O)(P:List (Ct×V)->Prop):Prop:=match o with|some (.ns fs)=>P fs|_=>False
noncomputable def Ey{α:Type}(o:Option α)(P:α->Prop):Prop:=match o with|some x=>P x|none=>False
noncomputable def U3(vs:List V)(P:Prop):Prop:=match vs with | []=>P|_=>False
noncomputable def Na(vs:List V)(P:V->Prop):Prop:=match vs with | [v]=>P v|_=>False
noncomputable def Ti(vs:List V)(P:V->V->Prop):Prop:=match vs with | [v,w]=>P v w|_=>False
noncomputable def ints? :List V->Option (List Int)
 | []=>some []
 | .int i::r=>(ints? r).map (i :: ·)
 | _=>none
noncomputable def bools? :List V->Option (List Bool)
 | []=>some []
 | .bool b::r=>(bools? r).map (b :: ·)
 | _=>none
noncomputable def N8(x:Int):List Int->List Int
 | []=>[x]
 | y::r=>if x<=y then x::y::r else y::N8 x r
noncomputable def Bd:List Int->List Int
 | []=>[]
 | x::r=>N8 x (Bd r)
noncomputable def G5(l:List Int):List Int:=l.foldl (fun d k=>if d.any (· == k)then d else d ++ [k]) []
noncomputable def Dd(k:Int)(n:Nat):Option Nat:=
 if 0<=k then(if k<n then some k.toNat else none)else(if 0<=k+n then some (k+n).toNat else none)
noncomputable def D9(k:Int)(n:Nat):Nat:=if k<0 then(k+n).toNat else min k.toNat n
noncomputable def dget(es:List (Int×V))(k:Int):Option V:=es.lookup k
noncomputable def Di(es:List (Int×V))(k:Int)(v:V):List (Int×V):=
 match es with
 | []=>[(k,v)]
 | (k',v')::r=>if k=k' then(k,v)::r else(k',v')::Di r k v
noncomputable def Ds(fs:List (Ct×V))(a:Ct):Option V:=fs.lookup a
noncomputable def Ij(fs:List (Ct×V))(k:Ct)(v:V):List (Ct×V):=
 match fs with
 | []=>[(k,v)]
 | (k',v')::r=>if k=k' then(k,v)::r else(k',v')::Ij r k v
noncomputable def Zh:V->V->Option Bool
 | .int i,.int j=>some (decide (i=j))
 | .bool a,.bool b=>some (a==b)
 | .none,.none=>some true
 | .none,.int _=>some false
 | .int _,.none=>some false
 | .none,.bool _=>some false
 | .bool _,.none=>some false
 | .str x,.str y=>some (decide (x=y))
 | _,_=>none
noncomputable def F9:List (Option Bool)->Option Bool
 | []=>some true
 | none::_=>none
 | some r::t=>(F9 t).map (r && ·)
noncomputable def U4:List (Option Bool)->Option Bool
 | []=>some false
 | none::_=>none
 | some r::t=>(U4 t).map (r || ·)
noncomputable def K9:Nat->AH->V->V->Option Bool
 | 0,_,a,b=>Zh a b
 | n+1,H,a,b=>match a,b with
   | .ref x,.ref y=>(match H x,H y with
     | some (.list xs),some (.list ys)=>if xs.length=ys.length then F9 (List.zipWith (K9 n H) xs ys)else some false
     | some (.tuple xs),some (.tuple ys)=>if xs.length=ys.length then F9 (List.zipWith (K9 n H) xs ys)else none
     | _,_=>none)
   | .ref x,.none=>(match H x with|some (.list _)=>some false|some (.tuple _)=>some false|_=>none)
   | .none,.ref x=>(match H x with|some (.list _)=>some false|some (.tuple _)=>some false|_=>none)
   | a,b=>Zh a b
noncomputable def U5(v:V)(xs:List V):Option Bool:=U4 (xs.map fun x=>Zh x v)
noncomputable def Eg:Nat:=5
noncomputable def Agm(a b:V)(H:AH)(Q:Ah):Prop:=Ax a fun i=>Ax b fun j=>Q (.bool (decide (i<j))) H
noncomputable def Agn(a b:V)(H:AH)(Q:Ah):Prop:=Ax a fun i=>Ax b fun j=>Q (.bool (decide (i<=j))) H
noncomputable def Ago(a b:V)(H:AH)(Q:Ah):Prop:=Ax a fun i=>Ax b fun j=>Q (.bool (decide (j<i))) H
noncomputable def Agp(a b:V)(H:AH)(Q:Ah):Prop:=Ax a fun i=>Ax b fun j=>Q (.bool (decide (j<=i))) H
noncomputable def isB:V->V->Option Bool
 | .none,.none=>some true
 | .bool x,.bool y=>some (x==y)
 | .ref _,.none=>some false
 | .int _,.none=>some false
 | .bool _,.none=>some false
 | .str _,.none=>some false
 | _,_=>none
noncomputable def Agq(a b:V)(H:AH)(Q:Ah):Prop:=Ey (isB a b) fun r=>Q (.bool r) H
noncomputable def Aeb(a b:V)(H:AH)(Q:Ah):Prop:=Ey (isB a b) fun r=>Q (.bool (!r)) H
noncomputable def Se(v b:V)(H:AH)(Q:Ah):Prop:=A2 b fun a=>match H a with
 | some (.list xs)=>Ey (U5 v xs) fun r=>Q (.bool r) H
 | some (.tuple xs)=>Ey (U5 v xs) fun r=>Q (.bool r) H
 | some (.dict es)=>Ax v fun k=>Q (.bool (dget es k).isSome) H
 | _=>False
noncomputable def Bg(op:CmpOp)(a b:V)(H:AH)(Q:Ah):Prop:=
 match op with
 | .Lt=>Agm a b H Q
 | .LtE=>Agn a b H Q
 | .Gt=>Ago a b H Q
 | .GtE=>Agp a b H Q
 | .Eq=>Ey (K9 Eg H a b) fun r=>Q (.bool r) H
 | .NotEq=>Ey (K9 Eg H a b) fun r=>Q (.bool (!r)) H
 | .Is=>Agq a b H Q
 | .IsNot=>Aeb a b H Q
 | .In=>Se a b H Q
 | .NotIn=>Se a b H (fun v H=>match v with | .bool r=>Q (.bool (!r)) H|_=>False)
noncomputable def Wo(a b:V)(H:AH)(Q:Ah):Prop:=match a with
 | .int i=>Ax b fun j=>Q (.int (i+j)) H
 | .ref a=>A2 b fun b=>F8 (H a) fun xs=>F8 (H b) fun ys=>xs.length+ys.length<=Bq/\Ay (.list (xs++ys)) H Q
 | _=>False
noncomputable def Wp(a b:V)(H:AH)(Q:Ah):Prop:=Ax b fun k=>match a with
 | .int i=>(i.natAbs<2 ^ 64\/k.natAbs<2 ^ 64)/\Q (.int (i*k)) H
 | .ref a=>F8 (H a) fun xs=>(0<=k/\k<=1000/\xs.length*k.toNat<=Bq)/\Ay (.list (List.replicate k.toNat xs).flatten) H Q
 | _=>False
noncomputable def Zl(a b:V)(H:AH)(Q:Ah):Prop:=Ax a fun i=>Ax b fun j=>Q (.int (i-j)) H
noncomputable def Zm(a b:V)(H:AH)(Q:Ah):Prop:=Ax a fun i=>Ax b fun j=>(j≠0/\j.natAbs<=10 ^ 30)/\Q (.int (i.fdiv j)) H
noncomputable def Zn(a b:V)(H:AH)(Q:Ah):Prop:=Ax a fun i=>Ax b fun j=>(j≠0/\j.natAbs<=10 ^ 30)/\Q (.int (i.fmod j)) H
noncomputable def Aec(a b:V)(H:AH)(Q:Ah):Prop:=Ax a fun i=>Ax b fun j=>(0<=j/\j<=1000/\i.natAbs<2 ^ 64)/\Q (.int (i ^ j.toNat)) H
noncomputable def Et(op:Operator)(a b:V)(H:AH)(Q:Ah):Prop:=
 match op with
 | .Add=>Wo a b H Q
 | .Sub=>Zl a b H Q
 | .Mult=>Wp a b H Q
 | .FloorDiv=>Zm a b H Q
 | .Mod=>Zn a b H Q
 | .Pow=>Aec a b H Q
 | _=>False
noncomputable def B9(o i:V)(H:AH)(Q:Ah):Prop:=Ax i fun k=>match o with
 | .ref a=>(match H a with
   | some (.list xs)=>Ey (Dd k xs.length) fun j=>Ey xs[j]? fun v=>Q v H
   | some (.tuple xs)=>Ey (Dd k xs.length) fun j=>Ey xs[j]? fun v=>Q v H
   | some (.dict es)=>Ey (dget es k) fun v=>Q v H
   | _=>False)
 | .script ns=>Ey (Dd k ns.length) fun j=>Ey ns[j]? fun i=>Q (.int i) H
 | _=>False
noncomputable def bound? :V->Option (Option Int)
 | .none=>some none
 | .int k=>some (some k)
 | _=>none
noncomputable def cut(xs:List V)(l u:Option Int):List V:=
 ((xs.take (match u with|some k=>D9 k xs.length|none=>xs.length)).drop (match l with|some k=>D9 k xs.length|none=>0))
noncomputable def Dh(o l u s:V)(H:AH)(Q:Ah):Prop:=A2 o fun a=>Ey (bound? l) fun l'=>Ey (bound? u) fun u'=>F8 (H a) fun xs=>match s with
 | .none=>Ay (.list (cut xs l' u')) H Q
 | .int k=>l'=none/\u'=none/\k = -1/\Ay (.list xs.reverse) H Q
 | _=>False
noncomputable def Lo(o:O)(t:Ty):Option Bool:=match o with
 | .list _=>(match t with | .list=>some true|_=>some false)
 | .tuple _=>some false
 | .exc _=>none
 | .dict _=>none
 | .inst _ _=>none
 | .ns _=>none
noncomputable def Ox(t:Ty)(v:V)(H:AH):Option Bool:=
 match v with
 | .ref a=>(match H a with|some o=>Lo o t|none=>none)
 | .int _=>(match t with | .int=>some true|_=>some false)
 | .bool _=>(match t with | .int=>some true | .bool=>some true|_=>some false)
 | .str _=>some false
 | .none=>some false
 | .fn _=>none
 | .script _=>none
noncomputable def G6(_:Ty):Bool:=true
noncomputable def Nb(args:List V)(H:AH)(Q:Ah):Prop:=Na args fun v=>match v with
 | .script ns=>Q (.int ns.length) H
 | .ref a=>(match H a with
   | some (.list xs)=>Q (.int xs.length) H
   | some (.tuple xs)=>Q (.int xs.length) H
   | some (.dict es)=>Q (.int es.length) H
   | _=>False)
 | _=>False
noncomputable def Ik(args:List V)(H:AH)(Q:Ah):Prop:=Na args fun v=>A2 v fun a=>match H a with
 | some (.list xs)=>Ay (.list xs) H Q
 | some (.tuple xs)=>Ay (.list xs) H Q
 | _=>False
noncomputable def Agr(args:List V)(H:AH)(Q:Ah):Prop:=match args with
 | [v]=>Ax v fun n=>(-Bq<=n/\n<=Bq)/\Ay (.list ((List.range n.toNat).map fun(i:Nat)=>V.int i)) H Q
 | [v,w]=>Ax v fun m=>Ax w fun n=>(0<=m/\m<=Bq/\ -Bq<=n/\n<=Bq)/\Ay (.list ((List.range (n-m).toNat).map fun(i:Nat)=>V.int (m+i))) H Q
 | _=>False
noncomputable def Ags(H:AH):V->Bool
 | .ref t=>(match H t with|some (.tuple [.int _,.int _])=>true|_=>false)
 | _=>false
noncomputable def Wq(xs:List V)(H:AH)(Q:Ah):Prop:=xs.length<64/\xs.all (Ags H)=true/\∀xs':List V,xs'.Perm xs->Ay (.list xs') H Q
noncomputable def G7(args:List V)(H:AH)(Q:Ah):Prop:=Na args fun v=>A2 v fun a=>match H a with
 | some (.list xs)=>(match ints? xs with|some ns=>ns.length<64/\Ay (.list ((Bd ns).map V.int)) H Q|none=>Wq xs H Q)
 | some (.dict es)=>es.length<64/\Ay (.list ((Bd (es.map (·.1))).map V.int)) H Q
 | _=>False
noncomputable def Aed(args:List V)(H:AH)(Q:Ah):Prop:=Ti args fun v w=>Ax v fun i=>Ax w fun j=>Q (.int (max i j)) H
noncomputable def Aee(args:List V)(H:AH)(Q:Ah):Prop:=Ti args fun v w=>Ax v fun i=>Ax w fun j=>Q (.int (min i j)) H
noncomputable def G8(args:List V)(H:AH)(Q:Ah):Prop:=Na args fun v=>A2 v fun a=>F8 (H a) fun xs=>(match ints? xs with|some (n::ns)=>Q (.int (ns.foldl min n)) H|_=>False)
noncomputable def Nc(args:List V)(H:AH)(Q:Ah):Prop:=Na args fun v=>A2 v fun a=>F8 (H a) fun xs=>Ey (bools? xs) fun bs=>Q (.bool (bs.all id)) H
noncomputable def U6(args:List V)(H:AH)(Q:Ah):Prop:=Na args fun v=>A2 v fun a=>F8 (H a) fun xs=>Ey (ints? xs) fun ns=>ns.length<=4000/\Q (.int (G5 ns).length) H
noncomputable def Air(t:Ty)(args:List V)(H:AH)(Q:Ah):Prop:=match args with
 | [v]=>G6 t=true/\(match Ox t v H with|some r=>Q (.bool r) H|none=>False)
 | _=>False
noncomputable def C9(b:BI)(args:List V)(H:AH)(Q:Ah):Prop:=
 match b with
 | .len=>Nb args H Q
 | .list=>Ik args H Q
 | .listRange=>Agr args H Q
 | .sorted=>G7 args H Q
 | .max=>Aed args H Q
 | .min=>Aee args H Q
 | .minL=>G8 args H Q
 | .all=>Nc args H Q
 | .any=>False
 | .lenSet=>U6 args H Q
 | .sortedSet=>False
 | .isinst t=>Air t args H Q
 | .str=>False
 | .int=>False
noncomputable def Ez(o:V)(args:List V)(H:AH)(Q:Ah):Prop:=A2 o fun a=>Na args fun v=>F8 (H a) fun xs=>xs.length<Bq/\Q .none (upd H a (.list (xs ++ [v])))
noncomputable def Dt(o:V)(args:List V)(H:AH)(Q:Ah):Prop:=A2 o fun a=>U3 args (F8 (H a) fun xs=>Q .none (upd H a (.list xs.reverse)))
noncomputable def G9(o:V)(args:List V)(H:AH)(Q:Ah):Prop:=A2 o fun a=>Na args fun v=>Ax v fun k=>F8 (H a) fun xs=>Ey (ints? xs) fun ns=>Q (.int (ns.count k)) H
noncomputable def Ha(o:V)(args:List V)(H:AH)(Q:Ah):Prop:=A2 o fun a=>Na args fun v=>F8 (H a) fun xs=>match v with
 | .int k=>Ey (ints? xs) fun ns=>k∈ns/\Q (.int (ns.idxOf k)) H
 | _=>False
noncomputable def E0(o:V)(args:List V)(H:AH)(Q:Ah):Prop:=A2 o fun a=>Na args fun v=>Ax v fun k=>F8 (H a) fun xs=>Ey (ints? xs) fun ns=>k∈ns/\Q .none (upd H a (.list ((ns.erase k).map V.int)))
noncomputable def Ce(o:V)(args:List V)(H:AH)(Q:Ah):Prop:=A2 o fun a=>Ti args fun i v=>Ax i fun k=>U2 (H a) fun es=>match dget es k with
 | some w=>Q w H
 | none=>es.length<Bq/\Q v (upd H a (.dict (Di es k v)))
noncomputable def Gk(m:LM)(o:V)(args:List V)(H:AH)(Q:Ah):Prop:=
 match m with
 | .append=>Ez o args H Q
 | .clear=>False
 | .count=>G9 o args H Q
 | .extend=>False
 | .index=>Ha o args H Q
 | .remove=>E0 o args H Q
 | .reverse=>Dt o args H Q
 | .setdefault=>Ce o args H Q
 | .split=>False
 | .join=>False
noncomputable def lmL:LM->Prop
 | .setdefault=>False
 | .split=>False
 | .join=>False
 | _=>True
noncomputable def La(m:LM)(o:V)(H:AH):Prop:=A2 o fun a=>match H a with
 | some (.list _)=>lmL m
 | some (.dict _)=>m = .setdefault
 | _=>False
noncomputable def setAttr(o:V)(t:Ct)(v:V)(H:AH)(N:AH->Prop):Prop:=A2 o fun a=>Ow (H a) fun _ d=>Th (H d) fun fs=>fs.length<10/\N (upd H d (.ns (Ij fs t v)))
noncomputable def getAttr(o:V)(t:Ct)(H:AH)(Q:Ah):Prop:=A2 o fun a=>Ow (H a) fun _ d=>Th (H d) fun fs=>Ey (Ds fs t) fun v=>Q v H
noncomputable def setItem(o i v:V)(H:AH)(N:AH->Prop):Prop:=A2 o fun a=>Ax i fun k=>match H a with
 | some (.list xs)=>Ey (Dd k xs.length) fun j=>N (upd H a (.list (xs.set j v)))
 | some (.dict es)=>es.length<Bq/\N (upd H a (.dict (Di es k v)))
 | _=>False
set_option genCtorIdx false in
inductive It where
 | v (x:V)|pair (a b:V)
noncomputable def Fm(v:V)(H:AH)(K:List It->(AH->Prop)->AH->Prop):Prop:=A2 v fun a=>match H a with
 | some (.list xs)=>K (xs.map .v) (fun H'=>H' a=some (.list xs)) H
 | some (.tuple xs)=>K (xs.map .v) (fun H'=>H' a=some (.tuple xs)) H
 | some (.dict es)=>K (es.map fun e=> .v (.int e.1)) (fun _=>True) (fun b=>if b=a then none else H b)
 | _=>False
noncomputable def Mt(v:V)(H:AH)(K:List It->(AH->Prop)->AH->Prop):Prop:=A2 v fun a=>F8 (H a) fun xs=>K (xs.mapIdx fun i x=> .pair (.int i) x) (fun H'=>H' a=some (.list xs)) H
noncomputable def Ra(v:V)(H:AH)(K:List It->(AH->Prop)->AH->Prop):Prop:=A2 v fun a=>F8 (H a) fun xs=>K (xs.reverse.map .v) (fun H'=>H' a=some (.list xs)) H
noncomputable def E1(vs:List V)(H:AH)(K:List It->(AH->Prop)->AH->Prop):Prop:=
 match vs with
 | [v]=>Ax v fun n=>(-Bq<=n/\n<=Bq)/\K ((List.range n.toNat).map fun(i:Nat)=> .v (.int i)) (fun _=>True) H
 | [v,w]=>Ax v fun m=>Ax w fun n=>(0<=m/\m<=Bq/\ -Bq<=n/\n<=Bq)/\K ((List.range (n-m).toNat).map fun(i:Nat)=> .v (.int (m+i))) (fun _=>True) H
 | _=>False
noncomputable def Kh(t:Tg)(i:It)(ρ:Ak)(H:AH)(N:Ak->Prop):Prop:=
 match t,i with
 | .one k,.v x=>N (ρ.set k (some x))
 | .two k l,.pair a b=>N ((ρ.set k (some a)).set l (some b))
 | .two k l,.v (.ref a)=>(match H a with
   | some (.tuple [x,y])=>N ((ρ.set k (some x)).set l (some y))
   | _=>False)
 | _,_=>False
noncomputable def Df(g:AH->Prop)(t:Tg)(body:Ak->AH->(Ak->AH->Prop)->Prop)(N:Ak->AH->Prop):List It->Ak->AH->Prop
 | [],ρ,H=>g H/\N ρ H
 | i::r,ρ,H=>g H/\Kh t i ρ H fun ρ'=>body ρ' H fun ρ'' H''=>Df g t body N r ρ'' H''
noncomputable def Bm(g:AH->Prop)(t:Tg)(elt:Ak->AH->(Option V->AH->Prop)->Prop)(Q:List V->AH->Prop):List It->List V->Ak->AH->Prop
 | [],acc,_,H=>g H/\Q acc H
 | i::r,acc,ρ,H=>g H/\Kh t i ρ H fun ρ'=>elt ρ' H fun o H''=>Bm g t elt Q r (match o with|some v=>acc ++ [v]|none=>acc) ρ' H''
noncomputable def truthy(v:V)(Q:Bool->Prop):Prop:=match v with | .bool b=>Q b|_=>False
noncomputable def Du:Kb->Str
 | .web=> "Web.__init__"
 | _=> "Verdict.__init__"
noncomputable def Dg(k:Nat):Tg:=if k=1 then .one 0 else .two 0 1
mutual
noncomputable def Av(G:Aw)(C:CS):X->Ak->AH->Ah->EP->Prop
 | .omit,_,H,Q,_=>Q .none H
 | .cnone,_,H,Q,_=>Q .none H
 | .cbool b,_,H,Q,_=>Q (.bool b) H
 | .cint i,_,H,Q,_=>Q (.int i) H
 | .cstr s,_,H,Q,_=>Q (.str s) H
 | .var i,ρ,H,Q,_=>(match ρ[i]? with|some (some v)=>Q v H|_=>False)
 | .glob g,_,H,Q,_=>(match G.const g with|some v=>Q v H|none=>False)
 | .fnv f,_,H,Q,_=>(G.fn f).isSome=true/\Q (.fn f) H
 | .not e,ρ,H,Q,E=>Av G C e ρ H (fun v H=>truthy v fun b=>Q (.bool (!b)) H) E
 | .neg e,ρ,H,Q,E=>Av G C e ρ H (fun v H=>match v with | .int i=>Q (.int (-i)) H|_=>False) E
 | .and l r,ρ,H,Q,E=>Av G C l ρ H (fun v H=>truthy v fun b=>if b then Av G C r ρ H Q E else Q (.bool false) H) E
 | .or l r,ρ,H,Q,E=>Av G C l ρ H (fun v H=>truthy v fun b=>if b then Q (.bool true) H else Av G C r ρ H Q E) E
 | .bin op l r,ρ,H,Q,E=>Av G C l ρ H (fun a H=>Av G C r ρ H (fun b H=>Et op a b H Q) E) E
 | .cmp op l r,ρ,H,Q,E=>Av G C l ρ H (fun a H=>Av G C r ρ H (fun b H=>Bg op a b H Q) E) E
 | .chain l o1 m o2 r,ρ,H,Q,E=>Av G C l ρ H (fun a H=>Av G C m ρ H (fun b H=>Bg o1 a b H fun c H=>truthy c fun t=>
    if t then Av G C r ρ H (fun d H=>Bg o2 b d H Q) E else Q (.bool false) H) E) E
 | .ite t a b,ρ,H,Q,E=>Av G C t ρ H (fun v H=>truthy v fun c=>if c then Av G C a ρ H Q E else Av G C b ρ H Q E) E
 | .call f args,ρ,H,Q,E=>(G.fn f).isSome=true/\C2 G C args ρ H (fun vs H=>C f vs H Q E) E
 | .callv f args,ρ,H,Q,E=>Av G C f ρ H (fun v H=>match v with | .fn g=>C2 G C args ρ H (fun vs H=>C g vs H Q E) E|_=>False) E
 | .mk c args,ρ,H,Q,E=>(G.fn (Du c)).isSome=true/\C2 G C args ρ H (fun vs H=>∀a d,H a=none->H d=none->a≠d->
    C (Du c) (.ref a::vs) (upd (upd H d (.ns [])) a (.inst c d)) (fun r H'=>r = .none/\Q (.ref a) H') E) E
 | .meth m o args,ρ,H,Q,E=>Av G C o ρ H (fun v H=>A2 v fun a=>Wn (H a) fun d=>Th (H d) fun _=>(G.fn m).isSome=true/\C2 G C args ρ H (fun vs H=>C m (.ref a::vs) H Q E) E) E
 | .bi b args,ρ,H,Q,E=>C2 G C args ρ H (fun vs H=>C9 b vs H Q) E
 | .lm m o args,ρ,H,Q,E=>Av G C o ρ H (fun v H=>La m v H/\C2 G C args ρ H (fun vs H=>Gk m v vs H Q) E) E
 | .isVE _,_,_,_,_=>False
 | .attr o a,ρ,H,Q,E=>Av G C o ρ H (fun v H=>getAttr v a H Q) E
 | .sub o i,ρ,H,Q,E=>Av G C o ρ H (fun a H=>Av G C i ρ H (fun b H=>B9 a b H Q) E) E
 | .slice o l u s,ρ,H,Q,E=>Av G C o ρ H (fun a H=>Av G C l ρ H (fun x H=>Av G C u ρ H (fun y H=>Av G C s ρ H (fun z H=>Dh a x y z H Q) E) E) E) E
 | .list es,ρ,H,Q,E=>C2 G C es ρ H (fun vs H=>Ay (.list vs) H Q) E
 | .tuple es,ρ,H,Q,E=>C2 G C es ρ H (fun vs H=>Ay (.tuple vs) H Q) E
 | .dict ks vs,ρ,H,Q,E=>C2 G C ks ρ H (fun as H=>C2 G C vs ρ H (fun bs H=>match as,bs with
    | [],[]=>Ay (.dict []) H Q
    | [.int k],[v]=>Ay (.dict [(k,v)]) H Q
    | _,_=>False) E) E
 | .range _,_,_,_,_=>False
 | .enum _,_,_,_,_=>False
 | .rev _,_,_,_,_=>False
 | .val _,_,_,_,_=>False
 | .comp k src elt,ρ,H,Q,E=>Ea G C src ρ H (fun its g H=>its.length<=Bq/\
    Bm g (Dg k) (fun ρ H K=>Av G C elt ρ H (fun v H=>K (some v) H) EF) (fun vs H=>Ay (.list vs) H Q) its [] (List.replicate k none++ρ) H) E
 | .compIf k src cond elt,ρ,H,Q,E=>Ea G C src ρ H (fun its g H=>its.length<=Bq/\
    Bm g (Dg k) (fun ρ H K=>Av G C cond ρ H (fun c H=>truthy c fun b=>if b then Av G C elt ρ H (fun v H=>K (some v) H) EF else K none H) EF)
     (fun vs H=>Ay (.list vs) H Q) its [] (List.replicate k none++ρ) H) E
noncomputable def C2(G:Aw)(C:CS):List X->Ak->AH->(List V->AH->Prop)->EP->Prop
 | [],_,H,Q,_=>Q [] H
 | e::r,ρ,H,Q,E=>Av G C e ρ H (fun v H=>C2 G C r ρ H (fun vs H=>Q (v::vs) H) E) E
noncomputable def Ea(G:Aw)(C:CS):X->Ak->AH->(List It->(AH->Prop)->AH->Prop)->EP->Prop
 | .range args,ρ,H,K,E=>C2 G C args ρ H (fun vs H=>E1 vs H K) E
 | .enum e,ρ,H,K,E=>Av G C e ρ H (fun v H=>Mt v H K) E
 | .rev e,ρ,H,K,E=>Av G C e ρ H (fun v H=>Ra v H K) E
 | .val e,ρ,H,K,E=>Av G C e ρ H (fun v H=>Fm v H K) E
 | _,_,_,_,_=>False
end
mutual
noncomputable def Ki(G:Aw)(C:CS):S->Ak->AH->(Ak->AH->Prop)->Ah->EP->Prop
 | .assign i e,ρ,H,N,_,E=>Av G C e ρ H (fun v H=>N (ρ.set i (some v)) H) E
 | .setattr o a e,ρ,H,N,_,E=>Av G C e ρ H (fun v H=>Av G C o ρ H (fun ov H=>setAttr ov a v H fun H=>N ρ H) E) E
 | .setitem o i e,ρ,H,N,_,E=>Av G C e ρ H (fun v H=>Av G C o ρ H (fun ov H=>Av G C i ρ H (fun iv H=>setItem ov iv v H fun H=>N ρ H) E) E) E
 | .expr e,ρ,H,N,_,E=>Av G C e ρ H (fun _ H=>N ρ H) E
 | .ite t a b,ρ,H,N,R,E=>Av G C t ρ H (fun v H=>truthy v fun c=>if c then Br G C a ρ H N R E else Br G C b ρ H N R E) E
 | .for t src body,ρ,H,N,R,E=>Ea G C src ρ H (fun its g H=>Df g t (fun ρ H K=>Br G C body ρ H K R E) N its ρ H) E
 | .while t body,ρ,H,N,R,E=>∃I:Nat->Ak->AH->Prop,(∃n,I n ρ H)/\∀n ρ H,I n ρ H->
    Av G C t ρ H (fun v H=>truthy v fun c=>if c then Br G C body ρ H (fun ρ H=>∃m,m<n/\I m ρ H) R E else N ρ H) E
 | .ret e,ρ,H,_,R,E=>Av G C e ρ H R E
 | .pass,ρ,H,N,_,_=>N ρ H
 | .raise _,_,_,_,_,_=>False
 | .try1 _ _ _ _,_,_,_,_,_=>False
 | .try2 _ _ _ _ _ _,_,_,_,_,_=>False
noncomputable def Br(G:Aw)(C:CS):List S->Ak->AH->(Ak->AH->Prop)->Ah->EP->Prop
 | [],ρ,H,N,_,_=>N ρ H
 | s::r,ρ,H,N,R,E=>Ki G C s ρ H (fun ρ H=>Br G C r ρ H N R E) R E
end
noncomputable def Af(G:Aw):Nat->CS
 | 0=>fun _ _ _ _ _=>False
 | n+1=>fun f args H Q E=>match G.fn f with
   | some d=>d.arity=args.length/\Br G (Af G n) d.body (args.map some++List.replicate (d.slots-d.arity) none) H (fun _ H=>Q .none H) Q E
   | none=>False
section
variable {G:Aw} {n:Nat} {H:AH} {Q:Ah} {E:EP} {C:CS} {ρ:Ak} {N:Ak->AH->Prop} {R:Ah}
/-! the running of the abstract machine,as rules -/
theorem Jb:Av G C .cnone ρ H Q E=Q .none H:=rfl
theorem Jc:Av G C .omit ρ H Q E=Q .none H:=rfl
theorem Jd{b}:Av G C (.cbool b) ρ H Q E=Q (.bool b) H:=rfl
theorem Je{i}:Av G C (.cint i) ρ H Q E=Q (.int i) H:=rfl
theorem Jf{i}:Av G C (.cstr i) ρ H Q E=Q (.str i) H:=rfl
theorem Jg{i}:Av G C (.var i) ρ H Q E=(match ρ[i]? with|some (some v)=>Q v H|_=>False):=rfl
theorem Jh{e}:Av G C (.not e) ρ H Q E=Av G C e ρ H (fun v H=>truthy v fun b=>Q (.bool (!b)) H) E:=rfl
theorem Ji{e}:Av G C (.neg e) ρ H Q E=Av G C e ρ H (fun v H=>match v with | .int i=>Q (.int (-i)) H|_=>False) E:=rfl
theorem Jj{l r}:Av G C (.and l r) ρ H Q E=Av G C l ρ H (fun v H=>truthy v fun b=>if b then Av G C r ρ H Q E else Q (.bool false) H) E:=rfl
theorem Jk{l r}:Av G C (.or l r) ρ H Q E=Av G C l ρ H (fun v H=>truthy v fun b=>if b then Q (.bool true) H else Av G C r ρ H Q E) E:=rfl
theorem Jl{op l r}:Av G C (.bin op l r) ρ H Q E=Av G C l ρ H (fun a H=>Av G C r ρ H (fun b H=>Et op a b H Q) E) E:=rfl
theorem Jm{op l r}:Av G C (.cmp op l r) ρ H Q E=Av G C l ρ H (fun a H=>Av G C r ρ H (fun b H=>Bg op a b H Q) E) E:=rfl
theorem Jn{l o1 m o2 r}:Av G C (.chain l o1 m o2 r) ρ H Q E=Av G C l ρ H (fun a H=>Av G C m ρ H (fun b H=>Bg o1 a b H fun c H=>truthy c fun t=>
 if t then Av G C r ρ H (fun d H=>Bg o2 b d H Q) E else Q (.bool false) H) E) E:=rfl
theorem Jo{t a b}:Av G C (.ite t a b) ρ H Q E=Av G C t ρ H (fun v H=>truthy v fun c=>if c then Av G C a ρ H Q E else Av G C b ρ H Q E) E:=rfl
theorem Jp{f as}:Av G C (.call f as) ρ H Q E=((G.fn f).isSome=true/\C2 G C as ρ H (fun vs H=>C f vs H Q E) E):=rfl
theorem Jq{b as}:Av G C (.bi b as) ρ H Q E=C2 G C as ρ H (fun vs H=>C9 b vs H Q) E:=rfl
theorem B0{m o as}:Av G C (.lm m o as) ρ H Q E=Av G C o ρ H (fun v H=>La m v H/\C2 G C as ρ H (fun vs H=>Gk m v vs H Q) E) E:=rfl
theorem Jr{o a}:Av G C (.attr o a) ρ H Q E=Av G C o ρ H (fun v H=>getAttr v a H Q) E:=rfl
theorem Js{o i}:Av G C (.sub o i) ρ H Q E=Av G C o ρ H (fun a H=>Av G C i ρ H (fun b H=>B9 a b H Q) E) E:=rfl
theorem Jt{o l u s}:Av G C (.slice o l u s) ρ H Q E=Av G C o ρ H (fun a H=>Av G C l ρ H (fun x H=>Av G C u ρ H (fun y H=>Av G C s ρ H (fun z H=>Dh a x y z H Q) E) E) E) E:=rfl
theorem Ju{es}:Av G C (.list es) ρ H Q E=C2 G C es ρ H (fun vs H=>Ay (.list vs) H Q) E:=rfl
theorem Jv{es}:Av G C (.tuple es) ρ H Q E=C2 G C es ρ H (fun vs H=>Ay (.tuple vs) H Q) E:=rfl
theorem Aca:Av G C (.dict [] []) ρ H Q E=Ay (.dict []) H Q:=rfl
theorem Dv{a:Nat}{P:Nat->Prop}:A2 (.ref a) P=P a:=rfl
theorem Dw{d:Nat}{P:Nat->Prop}:Wn (some (.inst .web d)) P=P d:=rfl
theorem Fo{fs:List (Ct×V)}{P:List (Ct×V)->Prop}:Th (some (.ns fs)) P=P fs:=rfl
theorem A4{m o as}:Av G C (.meth m o as) ρ H Q E=Av G C o ρ H (fun v H=>A2 v fun a=>Wn (H a) fun d=>Th (H d) fun _=>(G.fn m).isSome=true/\C2 G C as ρ H (fun vs H=>C m (.ref a::vs) H Q E) E) E:=rfl
theorem Dr{c as}:Av G C (.mk c as) ρ H Q E=((G.fn (Du c)).isSome=true/\C2 G C as ρ H (fun vs H=>∀a d,H a=none->H d=none->a≠d->
 C (Du c) (.ref a::vs) (upd (upd H d (.ns [])) a (.inst c d)) (fun r H'=>r = .none/\Q (.ref a) H') E) E):=rfl
theorem Bi{k s e}:Av G C (.comp k s e) ρ H Q E=Ea G C s ρ H (fun its g H=>its.length<=Bq/\
 Bm g (Dg k) (fun ρ H K=>Av G C e ρ H (fun v H=>K (some v) H) EF) (fun vs H=>Ay (.list vs) H Q) its [] (List.replicate k none++ρ) H) E:=rfl
theorem A0{k s c e}:Av G C (.compIf k s c e) ρ H Q E=Ea G C s ρ H (fun its g H=>its.length<=Bq/\
 Bm g (Dg k) (fun ρ H K=>Av G C c ρ H (fun c H=>truthy c fun b=>if b then Av G C e ρ H (fun v H=>K (some v) H) EF else K none H) EF)
  (fun vs H=>Ay (.list vs) H Q) its [] (List.replicate k none++ρ) H) E:=rfl
theorem Jw{Q:List V->AH->Prop}:C2 G C [] ρ H Q E=Q [] H:=rfl
theorem Jx{e r}{Q:List V->AH->Prop}:C2 G C (e::r) ρ H Q E=Av G C e ρ H (fun v H=>C2 G C r ρ H (fun vs H=>Q (v::vs) H) E) E:=rfl
theorem Og{as}{K:List It->(AH->Prop)->AH->Prop}:Ea G C (.range as) ρ H K E=C2 G C as ρ H (fun vs H=>E1 vs H K) E:=rfl
theorem Sf{e}{K:List It->(AH->Prop)->AH->Prop}:Ea G C (.enum e) ρ H K E=Av G C e ρ H (fun v H=>Mt v H K) E:=rfl
theorem Wr{e}{K:List It->(AH->Prop)->AH->Prop}:Ea G C (.rev e) ρ H K E=Av G C e ρ H (fun v H=>Ra v H K) E:=rfl
theorem Ws{e}{K:List It->(AH->Prop)->AH->Prop}:Ea G C (.val e) ρ H K E=Av G C e ρ H (fun v H=>Fm v H K) E:=rfl
theorem Jy{i e}:Ki G C (.assign i e) ρ H N R E=Av G C e ρ H (fun v H=>N (ρ.set i (some v)) H) E:=rfl
theorem Cb{o a e}:Ki G C (.setattr o a e) ρ H N R E=Av G C e ρ H (fun v H=>Av G C o ρ H (fun ov H=>setAttr ov a v H fun H=>N ρ H) E) E:=rfl
theorem Bs{o i e}:Ki G C (.setitem o i e) ρ H N R E=Av G C e ρ H (fun v H=>Av G C o ρ H (fun ov H=>Av G C i ρ H (fun iv H=>setItem ov iv v H fun H=>N ρ H) E) E) E:=rfl
theorem Jz{e}:Ki G C (.expr e) ρ H N R E=Av G C e ρ H (fun _ H=>N ρ H) E:=rfl
theorem Ja{t a b}:Ki G C (.ite t a b) ρ H N R E=Av G C t ρ H (fun v H=>truthy v fun c=>if c then Br G C a ρ H N R E else Br G C b ρ H N R E) E:=rfl
theorem J0{e}:Ki G C (.ret e) ρ H N R E=Av G C e ρ H R E:=rfl
theorem J1:Ki G C .pass ρ H N R E=N ρ H:=rfl
theorem Kj{t s b}:Ki G C (.for t s b) ρ H N R E=Ea G C s ρ H (fun its g H=>Df g t (fun ρ H K=>Br G C b ρ H K R E) N its ρ H) E:=rfl
theorem Eh{t b}:Ki G C (.while t b) ρ H N R E = ∃I:Nat->Ak->AH->Prop,(∃n,I n ρ H)/\∀n ρ H,I n ρ H->
 Av G C t ρ H (fun v H=>truthy v fun c=>if c then Br G C b ρ H (fun ρ H=>∃m,m<n/\I m ρ H) R E else N ρ H) E:=rfl
theorem J2:Br G C [] ρ H N R E=N ρ H:=rfl
theorem J3{s r}:Br G C (s::r) ρ H N R E=Ki G C s ρ H (fun ρ H=>Br G C r ρ H N R E) R E:=rfl
theorem A6{g}:Av G C (.glob g) ρ H Q E=(match G.const g with|some v=>Q v H|none=>False):=rfl
theorem Ca{f}:Av G C (.fnv f) ρ H Q E=((G.fn f).isSome=true/\Q (.fn f) H):=rfl
theorem A7{f as}:Av G C (.callv f as) ρ H Q E=Av G C f ρ H (fun v H=>match v with | .fn g=>C2 G C as ρ H (fun vs H=>C g vs H Q E) E|_=>False) E:=rfl
theorem Bf{ks vs}:Av G C (.dict ks vs) ρ H Q E=C2 G C ks ρ H (fun as H=>C2 G C vs ρ H (fun bs H=>match as,bs with
 | [],[]=>Ay (.dict []) H Q
 | [.int k],[v]=>Ay (.dict [(k,v)]) H Q
 | _,_=>False) E) E:=rfl
theorem Dx{c}:Ki G C (.raise c) ρ H N R E=False:=rfl
theorem Aeq{e}:Av G C (.isVE e) ρ H Q E=False:=rfl
end
end Mine.Internal
namespace Mine.Internal
section
variable {a b c d e f g i j k l m n:Nat} {x y z u v w r s t:Int}
theorem Q0(h0:0<x):0<=x:=Int.le_of_lt h0
theorem Q2(h0:0<x)(h1:x<=10 ^ 30):x.natAbs<=10 ^ 30:=by lia -abstractProof
theorem Q3(h0:x.toNat<a):x<(a:Int):=Int.lt_of_le_of_lt (Int.self_le_toNat x) (Int.ofNat_lt.mpr h0)
theorem Q5:a+(b+1)=a+1+b:=Nat.add_right_comm a b 1
theorem Q6:a+1+b+1=a+(b+1)+1:=congrArg (·+1) (Nat.add_right_comm a 1 b)
theorem Q7(h0:c=0+b)(h1:a≥c)(h2:a-c=0):a=b:=(Nat.le_antisymm (Nat.sub_eq_zero_iff_le.mp h2) h1).trans (h0.trans (Nat.zero_add b))
theorem Q10(h0:0<=x)(h1:x<(a:Int)):x.toNat<a:=(Int.toNat_lt h0).mpr h1
theorem Q15(h0:0<=x):(x.toNat:Int)=x:=Int.toNat_of_nonneg h0
theorem Q19:9+x/72%12<=60:=by lia -abstractProof
theorem Q23(h0:y-z<x)(h1:z-y<x):0<=x:=by lia -abstractProof
theorem Q24(h0:y-z<u)(h1:z-y=u*x)(h2:u*x<=u * -1):x=0:=by lia -abstractProof
theorem Q26(h0:y-z<u)(h1:y-z=u*x)(h2:u*1<=u*x):x=0:=by lia -abstractProof
theorem Q28(h0:0<=y)(h1:z<u):x/2-y-(x/2-z)<u:=by lia -abstractProof
theorem Q29(h0:z<u)(h1:0<=y):x/2-y-(x/2-z)<u:=by lia -abstractProof
theorem Q30(h0:z/2-x=z/2-y):x=y:=by lia -abstractProof
theorem Q31(h0:y<u)(h1:0<=z):x/2+y-(x/2+z)<u:=by lia -abstractProof
theorem Wt(h0:a<=60):a<=1048576:=Nat.le_trans h0 (by decide)
theorem Q36(h0:0<=x):max 0 ((a:Int)-x)+(((a:Int)-max 0 ((a:Int)-x)).toNat:Int)<=(a:Int):=Int.le_of_eq ((congrArg (max 0 ((a:Int)-x) + ·) (Int.toNat_of_nonneg (Int.sub_nonneg_of_le (Int.max_le.mpr ⟨Int.natCast_nonneg _,Int.sub_le_self _ h0⟩)))).trans ((Int.add_comm _ _).trans (Int.sub_add_cancel _ _)))
theorem Q45:x%4=0\/x%4=1\/x%4=2\/x%4=3:=by lia -abstractProof
theorem Q55(h0:b<=60)(h1:a=c)(h2:c<b):a<1048576:=Nat.lt_of_le_of_lt (Nat.le_of_eq h1) (Nat.lt_of_lt_of_le h2 (Nat.le_trans h0 (by decide)))
theorem Q57(h0:x=0\/4<=x)(h1:(a:Int)=x-1):2<=a:=by lia -abstractProof
theorem Q62(h0:a=b)(h1:0<=x)(h2:x<(b:Int)):x.toNat<a:=Nat.lt_of_lt_of_eq ((Int.toNat_lt h1).mpr h2) h0.symm
theorem Q75(h0:4+z%5=x)(h1:x+z/5%4=y):x<=y/\y<100:=by subst h0;lia -abstractProof
theorem Wu:0<=(a:Int):=Int.natCast_nonneg _
theorem Xy(h0:a<b):(a:Int)<(b:Int):=Int.ofNat_lt.mpr h0
theorem Q82(h0:4<=x)(h1:(a:Int)%y=x-1)(h2:(a:Int)%y<=(a:Int)):2<=a:=by lia -abstractProof
theorem Q83(h0:4<=x)(h1:(a:Int)%y=x-1)(h2:(a:Int)%y<=(a:Int)):(x<=(a:Int)+1/\(a:Int)+1-x<(a:Int))/\1<=(a:Int)/\(a:Int)-1<(a:Int):=⟨⟨by lia -abstractProof,by lia -abstractProof⟩,by lia -abstractProof,Int.sub_lt_self _ (by decide)⟩
theorem Q86(h0:0<=x):¬x<0:=Int.not_lt_of_ge h0
theorem Q89(h0:b<a):0<(a:Int):=Int.ofNat_lt.mpr (Nat.zero_lt_of_lt h0)
theorem Q90(h0:a<=60):(a:Int)<=60:=Int.ofNat_le.mpr h0
theorem Q94(h0:a<b+1)(h1:¬a=b):a<b:=Nat.lt_of_le_of_ne (Nat.le_of_lt_succ h0) h1
theorem Ais(h0:c<=3600)(h1:b<=3)(h2:c=a):a+b+(min 4 a-1)+(min 1 a+min 1 a)<=4000:=by subst h2;exact Nat.le_trans (Nat.add_le_add (Nat.add_le_add (Nat.add_le_add h0 h1) (Nat.le_trans (Nat.sub_le _ _) (Nat.min_le_left _ _))) (Nat.add_le_add (Nat.min_le_left _ _) (Nat.min_le_left _ _))) (by decide)
theorem Aer(h0:¬y<=x):x<=y:=Int.le_of_lt (Int.not_le.mp h0)
theorem Zo(h0:x<(a:Int))(h1:0<=y)(h2:y<(a:Int)):x.toNat<a:=by lia -abstractProof
theorem Xz(h0:b<=60)(h1:a<=b):a<1048576:=Nat.lt_of_le_of_lt (Nat.le_trans h1 h0) (by decide)
theorem X0(h0:x<(a:Int))(h1:(x.toNat:Int)=x):x.toNat<a:=Int.ofNat_lt.mp (Int.lt_of_le_of_lt (Int.le_of_eq h1) h0)
theorem Agt(h0:y≠x)(h1:(y.toNat:Int)=y)(h2:(x.toNat:Int)=x):¬x.toNat=y.toNat:=fun q=>h0 (h1.symm.trans ((congrArg Int.ofNat q.symm).trans h2))
theorem Agu(h0:¬a=y.toNat)(h1:a=x.toNat):¬x.toNat=y.toNat:=fun q=>h0 (h1.trans q)
theorem Acc(h0:¬a=x.toNat)(h1:(a:Int)=x):False:=by subst h1;exact h0 rfl
theorem Acd(h0:b<=60)(h1:a<=b):a<64:=Nat.lt_of_le_of_lt (Nat.le_trans h1 h0) (by decide)
theorem U7:0<=(a:Int)+1:=Int.natCast_nonneg _
theorem Zp:((a:Int)+1).toNat=a+1:=Nat.succ_sub_one _
theorem Ait:¬a+1=0:=by lia -abstractProof
theorem Aiu(h0:¬(a:Int)=(b:Int)+1)(h1:¬(b:Int)=0):¬(a=b+1\/b=0/\a=c-1):=by lia -abstractProof
theorem Aiv(h0:¬(a:Int)<4):4<=a:=Nat.le_of_not_lt (fun q=>h0 (Int.ofNat_lt.mpr q))
theorem Aiw(h0:0<=x)(h1:x<(a:Int))(h2:b<=1)(h3:(x<0\/(a:Int)<=x)\/1<(b:Int)):False:=h3.elim (fun q=>q.elim (Int.not_lt.mpr h0) (Int.not_le.mpr h1)) (Int.not_lt.mpr (Int.ofNat_le.mpr h2))
theorem Aix(h0:a=0):(a:Int)-1<0:=by subst h0;decide
theorem Aiy(h0:c<b):0<=(a:Int)-1+(b:Int):=by lia -abstractProof
theorem Aiz(h0:a=0):((a:Int)-1+(b:Int)).toNat=b-1:=by subst h0;exact(congrArg Int.toNat (Int.add_comm _ _)).trans (Int.toNat_sub b 1)
theorem Ai0(h0:b=a)(h1:0<b):a=a-1+1:=by subst h0;exact(Nat.sub_add_cancel h1).symm
theorem Ai1(h0:a=c-1)(h1:c=b+1):a=b:=by subst h1;exact h0
theorem Ai2(h0:a+c<=60)(h1:b=c-1)(h2:c=d+1):a+1+b<=60:=by subst h1;lia -abstractProof
theorem Agv(h0:a<=60):a<=1048576+(b+1):=Nat.le_trans h0 (Nat.le_trans (by decide) (Nat.le_add_right 1048576 _))
theorem Zq(h0:a<=60):a<64:=Nat.lt_of_le_of_lt h0 (by decide)
theorem Ai3(h0:0<=x)(h1:x<(y.toNat:Int)):x<y:=by lia -abstractProof
theorem Ai4(h0:x+1<=(a:Int)):((a:Int)+1-(x+1)).toNat<((a:Int)+1-x).toNat:=by lia -abstractProof
theorem Ai5(h0:0<=x)(h1:0<=y)(h2:y≠x):x.toNat≠y.toNat:=fun q=>h2 ((Int.toNat_of_nonneg h1).symm.trans ((congrArg Int.ofNat q.symm).trans (Int.toNat_of_nonneg h0)))
theorem Agw(h0:b<=60)(h1:a<=b-1):a<=1048576:=Nat.le_trans h1 (Nat.le_trans (Nat.sub_le _ _) (Nat.le_trans h0 (by decide)))
theorem Ai6(h0:¬a<b):¬(a:Int)<(b:Int):=fun q=>h0 (Int.ofNat_lt.mp q)
theorem Agx(h0:0<a):0<= -1+(a:Int):=by lia -abstractProof
theorem Agy:(-1+(a:Int)).toNat=a-1:=(congrArg Int.toNat (Int.add_comm _ _)).trans (Int.toNat_sub a 1)
theorem Agz(h0:0<a):a-1<a:=Nat.sub_lt h0 (by decide)
theorem Ai7:a-1-(a-1)=0:=by lia -abstractProof
theorem Ai8(h0:¬(0:Int)<(a:Int)):a=0:=Nat.eq_zero_of_not_pos (fun q=>h0 (Int.ofNat_lt.mpr q))
theorem Ai9(h0:¬(b:Int)<(a:Int)):a<=b:=Nat.le_of_not_lt (fun q=>h0 (Int.ofNat_lt.mpr q))
theorem Aja(h0:b=0+a):a-b=0:=by subst h0;exact Nat.sub_eq_zero_of_le (Nat.le_of_eq (Nat.zero_add a).symm)
theorem Ajb(h0:a+d=c)(h1:b=d-1)(h2:0<d):a+1+b=c:=by subst h0 h1;exact(Nat.add_assoc a 1 (d-1)).trans (congrArg (a + ·) (Nat.add_sub_of_le h2))
theorem Ajc(h0:b=c)(h1:b+a=c):a=0:=by subst h0;exact Nat.add_left_cancel (h1.trans (Nat.add_zero _).symm)
theorem Ag0(h0:¬a=b):¬(a:Int)=(b:Int):=fun q=>h0 (Int.ofNat_inj.mp q)
theorem Aes(h0:b=c)(h1:a<c):a<b:=Nat.lt_of_lt_of_eq h1 h0.symm
theorem Aet(h0:a<64):a<=4000:=Nat.le_trans (Nat.le_of_lt h0) (by decide)
theorem Ajd(h0:a<=60):(a:Int)+1<=10 ^ 30:=by omega
theorem Aje:x/732%7=0\/x/732%7=1\/x/732%7=2\/x/732%7=3\/x/732%7=4\/x/732%7=5\/x/732%7=6:=by lia -abstractProof
theorem Ag1(h0:b<a):a-1-b<a:=Nat.lt_of_le_of_lt (Nat.sub_le _ _) (Nat.sub_lt (Nat.zero_lt_of_lt h0) Nat.one_pos)
theorem Ag2(h0:b<a):(a:Int)-1-(b:Int)=((a-1-b:Nat):Int):=((Int.ofNat_sub (Nat.le_sub_one_of_lt h0)).trans (congrArg (· - (b:Int)) (Int.ofNat_sub (Nat.zero_lt_of_lt h0)))).symm
theorem Ag3(h0:x/8%8=(a:Int)):a<8:=Int.ofNat_lt.mp (Int.lt_of_le_of_lt (Int.le_of_eq h0.symm) (Int.emod_lt_of_pos _ (by decide)))
theorem Ajf:x%2=0\/x%2=1:=by lia -abstractProof
end
end Mine.Internal
namespace Mine.Internal
section
open PySem PySem.W PyProof.Rows
variable {a b c d e f g i j k l m n:Nat} {x y z u v w r s t:Int}
theorem Ajg(h0:x.natAbs<2 ^ 64):-2 ^ 64<x:=by omega
theorem Ajh(h0:x.natAbs<2 ^ 64):x<2 ^ 64:=by omega
theorem Ag4(h0:a+30*b+60<cLine):a+5<cLine:=Nat.lt_of_le_of_lt (Nat.add_le_add (Nat.le_add_right a _) (by decide:5<=60)) h0
theorem Ace(h0:0<=x+(a:Int)):-(a:Int)<=x:=by lia -abstractProof
theorem Aji(h0:¬0<=x)(h1:0<=x+(a:Int)):(x+(a:Int)).toNat<a:=by lia -abstractProof
theorem Ajj(h0:a<=Bq)(h1:(Bq:Int)<2 ^ 63)(h2:0<=x+(a:Int)):-2 ^ 63<=x:=by lia -abstractProof
theorem Ajk(h0:(Bq:Int)<2 ^ 63)(h1:b<=Bq)(h2:a=b):(a:Int)<2 ^ 63:=by omega
theorem Acf(h0:(Bq:Int)<2 ^ 63)(h1:a<=Bq):(a:Int)<2 ^ 63:=by omega
theorem Ajl(h0:(b:Int)<2 ^ 63)(h1:a<c)(h2:c=b):(a:Int)<2 ^ 63-1:=by omega
theorem Aeu(h0:a+4*b+4<recursionLimit):a+4*b+2<recursionLimit:=Nat.lt_of_le_of_lt (Nat.add_le_add_left (by decide:2<=4) _) h0
theorem Aev(h0:a+30*b+60<cLine):a+30*b+40<cLine:=Nat.lt_of_le_of_lt (Nat.add_le_add_left (by decide:40<=60) _) h0
theorem Ajm(h0:a+4*b+4<recursionLimit):a+1+4*b+2<recursionLimit:=by lia -abstractProof
theorem Ajn(h0:a+30*b+60<cLine):a+1+30*b+40<cLine:=by lia -abstractProof
theorem Ajo(h0:b<=4000)(h1:b=c)(h2:c=a):a+1<4096:=by subst h1 h2;exact Nat.lt_of_le_of_lt (Nat.succ_le_succ h0) (by decide)
theorem Ajp(h0:a<4096):(a:Int)<2 ^ 63:=by omega
theorem Ag5(h0:b<100)(h1:a=b):a<=1048576:=Nat.le_trans (Nat.le_of_eq h1) (Nat.le_trans (Nat.le_of_lt h0) (by decide))
theorem Ag6(h0:b<100)(h1:a=b):a<=2 ^ 24:=Nat.le_trans (Nat.le_of_eq h1) (Nat.le_trans (Nat.le_of_lt h0) (by decide))
theorem Ag7(h0:x<=(Bq:Int))(h1:Bq=1048576):x<2 ^ 62:=by lia -abstractProof
theorem Ajq(h0:-(Bq:Int)<=x)(h1:Bq=1048576):-2 ^ 62<=x:=by lia -abstractProof
theorem Ajr(h0:0<=y)(h1:x<=(Bq:Int))(h2:Bq=1048576):(x-y).toNat<=2 ^ 24:=by lia -abstractProof
theorem Ajs:x+((a+1:Nat):Int)=x+(a:Int)+1:=by lia -abstractProof
theorem Ajt:(a:Int)-((b+1:Nat):Int)=(a:Int)-(b:Int)-1:=by lia -abstractProof
theorem Aju(h0:b<a):((a-1-b:Nat):Int)-1=(a:Int)-1-((b+1:Nat):Int):=by lia -abstractProof
theorem Ajv:(a:Int)-1-(a:Int) = -1:=by lia -abstractProof
theorem Ag8(h0:Bq=1048576)(h1:x<=(Bq:Int)):x<2 ^ 62:=by lia -abstractProof
theorem Ajw(h0:Bq=1048576)(h1:-(Bq:Int)<=x):-2 ^ 62<=x:=by lia -abstractProof
theorem Aew(h0:b<a):a-(b+1)+1<a-b+1:=Nat.succ_lt_succ (Nat.sub_lt_sub_left h0 (Nat.lt_succ_self b))
theorem Ag9(h0:a=c):a<=b+c:=Nat.le_trans (Nat.le_of_eq h0) (Nat.le_add_left _ _)
theorem Aha(h0:c=b):a+b-c=a:=by subst h0;lia -abstractProof
theorem Ajx(h0:a=1):0<a:=by subst h0;decide
theorem Ajy(h0:a=2):0<a:=by subst h0;decide
theorem Ajz(h0:a=2):1<a:=by subst h0;decide
theorem Aj0(h0:a+4*(b+1)+2<recursionLimit):a+1+4*b+4<recursionLimit:=by lia -abstractProof
theorem Aj1(h0:a+30*(b+1)+40<cLine):a+3+30*b+60<cLine:=by lia -abstractProof
theorem Aj2(h0:0<=x):-(a:Int)<=x:=by lia -abstractProof
theorem Aj3(h0:¬0<=x):x<(a:Int):=by lia -abstractProof
theorem Aj4(h0:(Bq:Int)<2 ^ 63)(h1:a<=Bq)(h2:x<(a:Int)):x<2 ^ 63:=by lia -abstractProof
theorem Aj5(h0:(Bq:Int)<2 ^ 63)(h1:a<=Bq)(h2:0<=x+(a:Int)):-2 ^ 63<=x:=by lia -abstractProof
theorem Aj6(h0:a<=Bq)(h1:(Bq:Int)<2 ^ 63)(h2:-(a:Int)<=x):-2 ^ 63<=x:=by lia -abstractProof
theorem Ahb(h0:0<=x):-1048576<=x:=by lia -abstractProof
end
end Mine.Internal
namespace Mine.Internal
open PySem
variable {G:Aw} {n:Nat} {H:AH} {Q:Ah} {E:EP} {C:CS} {ρ:Ak} {N:Ak->AH->Prop} {R:Ah}
theorem Acg(kk:Q .none H):Av G C .cnone ρ H Q E:=kk
theorem Aex{i}(kk:Q (.int i) H):Av G C (.cint i) ρ H Q E:=kk
theorem Zr{i}(kk:(match ρ[i]? with|some (some v)=>Q v H|_=>False)):Av G C (.var i) ρ H Q E:=kk
theorem U8{e}(kk:Av G C e ρ H (fun v H=>truthy v fun b=>Q (.bool (!b)) H) E):Av G C (.not e) ρ H Q E:=kk
theorem Aey{l r}(kk:Av G C l ρ H (fun v H=>truthy v fun b=>if b then Av G C r ρ H Q E else Q (.bool false) H) E):Av G C (.and l r) ρ H Q E:=kk
theorem Ahc{l r}(kk:Av G C l ρ H (fun v H=>truthy v fun b=>if b then Q (.bool true) H else Av G C r ρ H Q E) E):Av G C (.or l r) ρ H Q E:=kk
theorem Oy{op l r}(kk:Av G C l ρ H (fun a H=>Av G C r ρ H (fun b H=>Bg op a b H Q) E) E):Av G C (.cmp op l r) ρ H Q E:=kk
theorem Oh{f as}(kk:((G.fn f).isSome=true/\C2 G C as ρ H (fun vs H=>C f vs H Q E) E)):Av G C (.call f as) ρ H Q E:=kk
theorem Rb{b as}(kk:C2 G C as ρ H (fun vs H=>C9 b vs H Q) E):Av G C (.bi b as) ρ H Q E:=kk
theorem Ach{es}(kk:C2 G C es ρ H (fun vs H=>Ay (.list vs) H Q) E):Av G C (.list es) ρ H Q E:=kk
theorem Tj(kk:Ay (.dict []) H Q):Av G C (.dict [] []) ρ H Q E:=kk
theorem Wv{c as}(kk:((G.fn (Du c)).isSome=true/\C2 G C as ρ H (fun vs H=>∀a d,H a=none->H d=none->a≠d->
 C (Du c) (.ref a::vs) (upd (upd H d (.ns [])) a (.inst c d)) (fun r H'=>r = .none/\Q (.ref a) H') E) E)):Av G C (.mk c as) ρ H Q E:=kk
theorem Co{e r}{Q:List V->AH->Prop}(kk:Av G C e ρ H (fun v H=>C2 G C r ρ H (fun vs H=>Q (v::vs) H) E) E):C2 G C (e::r) ρ H Q E:=kk
theorem Aci{e}{K:List It->(AH->Prop)->AH->Prop}(kk:Av G C e ρ H (fun v H=>Mt v H K) E):Ea G C (.enum e) ρ H K E:=kk
theorem Aez{e}{K:List It->(AH->Prop)->AH->Prop}(kk:Av G C e ρ H (fun v H=>Ra v H K) E):Ea G C (.rev e) ρ H K E:=kk
theorem Bw{i e}(kk:Av G C e ρ H (fun v H=>N (ρ.set i (some v)) H) E):Ki G C (.assign i e) ρ H N R E:=kk
theorem E7{o i e}(kk:Av G C e ρ H (fun v H=>Av G C o ρ H (fun ov H=>Av G C i ρ H (fun iv H=>setItem ov iv v H fun H=>N ρ H) E) E) E):Ki G C (.setitem o i e) ρ H N R E:=kk
theorem A5{t a b}(kk:Av G C t ρ H (fun v H=>truthy v fun c=>if c then Br G C a ρ H N R E else Br G C b ρ H N R E) E):Ki G C (.ite t a b) ρ H N R E:=kk
theorem Il{e}(kk:Av G C e ρ H R E):Ki G C (.ret e) ρ H N R E:=kk
theorem Zs{t s b}(kk:Ea G C s ρ H (fun its g H=>Df g t (fun ρ H K=>Br G C b ρ H K R E) N its ρ H) E):Ki G C (.for t s b) ρ H N R E:=kk
theorem Lp{t b}(kk:∃I:Nat->Ak->AH->Prop,(∃n,I n ρ H)/\∀n ρ H,I n ρ H->
 Av G C t ρ H (fun v H=>truthy v fun c=>if c then Br G C b ρ H (fun ρ H=>∃m,m<n/\I m ρ H) R E else N ρ H) E):Ki G C (.while t b) ρ H N R E:=kk
theorem Sg(kk:N ρ H):Br G C [] ρ H N R E:=kk
theorem Ae{s r}(kk:Ki G C s ρ H (fun ρ H=>Br G C r ρ H N R E) R E):Br G C (s::r) ρ H N R E:=kk
theorem Oz{t e b}(kk:Av G C e ρ H (fun v H=>Fm v H fun its g H=>Df g t (fun ρ H K=>Br G C b ρ H K R E) N its ρ H) E):Ki G C (.for t (.val e) b) ρ H N R E:=kk
theorem Uy{t as b}(kk:C2 G C as ρ H (fun vs H=>E1 vs H fun its g H=>Df g t (fun ρ H K=>Br G C b ρ H K R E) N its ρ H) E):Ki G C (.for t (.range as) b) ρ H N R E:=kk
theorem Ww{k s e}(kk:Av G C s ρ H (fun v H=>Fm v H fun its g H=>its.length<=Bq/\Bm g (Dg k) (fun ρ H K=>Av G C e ρ H (fun v H=>K (some v) H) EF) (fun vs H=>Ay (.list vs) H Q) its [] (List.replicate k none++ρ) H) E):Av G C (.comp k (.val s) e) ρ H Q E:=kk
theorem grK{k as e}(kk:C2 G C as ρ H (fun vs H=>E1 vs H fun its g H=>its.length<=Bq/\Bm g (Dg k) (fun ρ H K=>Av G C e ρ H (fun v H=>K (some v) H) EF) (fun vs H=>Ay (.list vs) H Q) its [] (List.replicate k none++ρ) H) E):Av G C (.comp k (.range as) e) ρ H Q E:=kk
theorem hvK{k s c e}(kk:Av G C s ρ H (fun v H=>Fm v H fun its g H=>its.length<=Bq/\Bm g (Dg k) (fun ρ H K=>Av G C c ρ H (fun c H=>truthy c fun b=>if b then Av G C e ρ H (fun v H=>K (some v) H) EF else K none H) EF) (fun vs H=>Ay (.list vs) H Q) its [] (List.replicate k none++ρ) H) E):Av G C (.compIf k (.val s) c e) ρ H Q E:=kk
theorem hrK{k as c e}(kk:C2 G C as ρ H (fun vs H=>E1 vs H fun its g H=>its.length<=Bq/\Bm g (Dg k) (fun ρ H K=>Av G C c ρ H (fun c H=>truthy c fun b=>if b then Av G C e ρ H (fun v H=>K (some v) H) EF else K none H) EF) (fun vs H=>Ay (.list vs) H Q) its [] (List.replicate k none++ρ) H) E):Av G C (.compIf k (.range as) c e) ρ H Q E:=kk
end Mine.Internal
namespace Mine.Internal
open PySem
noncomputable def Lq:Fn:=⟨3,3,[.setattr (.var 0) .many (.var 1),.setattr (.var 0) .rows (.var 2)]⟩
noncomputable def O0:Fn:=⟨2,2,[.ite (.not (.chain (.cint 0) .LtE (.var 1) .Lt (.attr (.var 0) .many))) [.raise .noPoint] []]⟩
noncomputable def En:Fn:=⟨2,2,[.expr (.meth "Web.need" (.var 0) [(.var 1)]),.ret (.bi .list [(.sub (.attr (.var 0) .rows) (.var 1))])]⟩
noncomputable def O1:Fn:=⟨3,3,[.expr (.meth "Web.need" (.var 0) [(.var 1)]),.expr (.meth "Web.need" (.var 0) [(.var 2)]),.ret (.cmp .In (.var 2) (.sub (.attr (.var 0) .rows) (.var 1)))]⟩
noncomputable def Kl:List S:=[.ite (.cmp .Lt (.var 2) (.var 3)) [.expr (.lm .append (.var 1) [(.tuple [(.var 2),(.var 3)])])] []]
noncomputable def Km:List S:=[.for (.one 3) (.val (.sub (.attr (.var 0) .rows) (.var 2))) Kl]
noncomputable def O2:Fn:=⟨4,1,[.assign 1 (.list []),.for (.one 2) (.range [(.attr (.var 0) .many)]) Km,.ret (.var 1)]⟩
noncomputable def Nd:List S:=[.ite (.or (.not (.chain (.cint 0) .LtE (.var 2) .Lt (.var 0))) (.or (.not (.chain (.cint 0) .LtE (.var 3) .Lt (.var 0))) (.cmp .Eq (.var 2) (.var 3)))) [.raise .badWeb] []]
noncomputable def Nf:X:=(.dict [] [])
noncomputable def Ng:List S:=[.setitem (.sub (.var 4) (.var 2)) (.var 3) (.cbool true),.setitem (.sub (.var 4) (.var 3)) (.var 2) (.cbool true)]
noncomputable def Nh:X:=(.bi .sorted [(.var 0)])
noncomputable def Tk:Fn:=⟨5,2,[.ite (.not (.chain (.cint 0) .LtE (.var 0) .LtE (.glob "MOST"))) [.raise .badWeb] [],.for (.two 2 3) (.val (.var 1)) Nd,.assign 4 (.comp 1 (.range [(.var 0)]) Nf),.for (.two 2 3) (.val (.var 1)) Ng,.ret (.mk .web [(.var 0),(.comp 1 (.val (.var 4)) Nh)])]⟩
noncomputable def Ci:Fn:=⟨2,2,[.ite (.cmp .Lt (.var 1) (.bi .len [(.var 0)])) [.ret (.sub (.var 0) (.var 1))] [],.ret (.cint 0)]⟩
noncomputable def El:Fn:=⟨2,2,[.ret (.bin .Mod (.bin .Mult (.bin .Add (.var 0) (.bin .Mult (.cint 101) (.var 1))) (.cint 48271)) (.cint 1000003))]⟩
noncomputable def Gl:List S:=[.ite (.and (.cmp .Gt (.bin .Mod (.var 8) (.cint 3)) (.cint 0)) (.or (.cmp .GtE (.var 7) (.var 2)) (.cmp .Lt (.bi .len [(.var 6)]) (.cint 2)))) [.expr (.lm .append (.var 6) [(.var 9)])] [],.assign 8 (.bin .FloorDiv (.var 8) (.cint 3))]
noncomputable def Gm:List S:=[.assign 5 (.call "_law_mixed" [(.call "_law_cell_at" [(.var 0),(.bin .Add (.cint 3) (.var 4))]),(.var 4)]),.assign 6 (.list []),.ite (.chain (.cint 0) .Lt (.var 4) .Lt (.var 2)) [.assign 6 (.list [(.bin .Sub (.var 4) (.cint 1))]),.ite (.cmp .Eq (.var 4) (.bin .Sub (.var 2) (.cint 1))) [.assign 6 (.list [(.cint 0),(.bin .Sub (.var 4) (.cint 1))])] []] [.ite (.and (.cmp .Gt (.var 4) (.cint 0)) (.cmp .NotEq (.bin .Mod (.var 5) (.cint 9)) (.cint 8))) [.assign 7 (.bin .Mod (.bin .FloorDiv (.var 5) (.cint 9)) (.var 4)),.assign 6 (.list [(.var 7)]),.assign 8 (.bin .FloorDiv (.bin .FloorDiv (.var 5) (.cint 9)) (.var 4)),.for (.one 9) (.val (.sub (.var 3) (.var 7))) Gl] []],.expr (.lm .append (.var 3) [(.var 6)])]
noncomputable def Ga:Fn:=⟨10,3,[.assign 3 (.list []),.for (.one 4) (.range [(.var 1)]) Gm,.ret (.var 3)]⟩
noncomputable def Fp:X:=(.call "_law_mixed" [(.call "_law_cell_at" [(.var 1),(.bin .Add (.cint 3) (.bin .Mod (.bin .Add (.bin .Mult (.cint 7) (.var 6)) (.bin .Mult (.cint 13) (.var 0))) (.cint 60)))]),(.bin .Add (.bin .Mult (.cint 60) (.var 6)) (.var 0))])
noncomputable def Fq:X:=(.cmp .Lt (.bin .Mod (.sub (.var 7) (.var 0)) (.var 4)) (.var 3))
noncomputable def Dy:List S:=[.assign 6 (.comp 1 (.range [(.var 5)]) Fp),.expr (.lm .append (.var 4) [(.compIf 1 (.range [(.var 5)]) Fq (.var 0))])]
noncomputable def E8:Fn:=⟨7,2,[.assign 2 (.bin .Add (.cint 1) (.bin .Mod (.bin .FloorDiv (.call "_law_cell_at" [(.var 0),(.cint 2)]) (.cint 8)) (.cint 4))),.assign 3 (.cint 5),.ite (.cmp .Gt (.var 1) (.cint 20)) [.assign 3 (.cint 40)] [],.assign 4 (.list []),.for (.one 5) (.range [(.var 1)]) Dy,.ret (.var 4)]⟩
noncomputable def Eo:X:=(.bi .listRange [(.bi .max [(.cint 0),(.bin .Sub (.var 0) (.var 3))]),(.var 0)])
noncomputable def Hb:Fn:=⟨3,2,[.assign 2 (.bin .Mod (.var 1) (.cint 20)),.ite (.cmp .Gt (.var 0) (.cint 20)) [.assign 2 (.bin .Mod (.var 1) (.cint 6))] [],.ret (.comp 1 (.range [(.var 0)]) Eo)]⟩
noncomputable def Hz:X:=(.bi .listRange [(.bi .max [(.cint 0),(.bin .Sub (.var 0) (.cint 1))]),(.var 0)])
noncomputable def H0:List S:=[.ite (.cmp .Eq (.bin .Mod (.var 4) (.var 3)) (.bin .Sub (.var 2) (.cint 1))) [.setitem (.var 5) (.var 4) (.list [(.bin .Sub (.bin .Add (.var 4) (.cint 1)) (.var 2)),(.bin .Sub (.var 4) (.cint 1))])] []]
noncomputable def Hc:Fn:=⟨6,2,[.assign 2 (.bin .Add (.cint 4) (.bin .Mod (.var 1) (.cint 5))),.assign 3 (.bin .Add (.var 2) (.bin .Mod (.bin .FloorDiv (.var 1) (.cint 5)) (.cint 4))),.assign 5 (.comp 1 (.range [(.var 0)]) Hz),.for (.one 4) (.range [(.var 0)]) H0,.ret (.var 5)]⟩
noncomputable def Cz:X:=(.bi .listRange [(.bi .min [(.var 0),(.var 3)])])
noncomputable def Hd:Fn:=⟨3,2,[.assign 2 (.sub (.list [(.cint 1),(.cint 2),(.cint 3),(.bin .Mod (.bin .FloorDiv (.var 1) (.cint 4)) (.cint 30))]) (.bin .Mod (.var 1) (.cint 4))),.ite (.cmp .Gt (.var 0) (.cint 30)) [.assign 2 (.bin .Mod (.var 2) (.cint 8))] [],.ret (.comp 1 (.range [(.var 0)]) Cz)]⟩
noncomputable def O3:Fn:=⟨4,2,[.assign 2 (.bin .Mod (.call "_law_cell_at" [(.var 0),(.cint 2)]) (.cint 8)),.assign 3 (.bin .FloorDiv (.call "_law_cell_at" [(.var 0),(.cint 2)]) (.cint 8)),.ite (.and (.cmp .Eq (.var 2) (.cint 1)) (.cmp .Gt (.var 1) (.cint 3))) [.ret (.call "_law_earlier" [(.var 0),(.var 1),(.bin .Add (.cint 4) (.bin .Mod (.var 3) (.bin .Sub (.var 1) (.cint 3))))])] [],.ite (.and (.chain (.cint 1) .Lt (.var 2) .Lt (.cint 5)) (.cmp .Lt (.var 1) (.cint 41))) [.ret (.call "_law_any_rows" [(.var 0),(.var 1)])] [],.ite (.cmp .Eq (.var 2) (.cint 5)) [.ret (.call "_law_banded" [(.var 1),(.var 3)])] [],.ite (.cmp .Eq (.var 2) (.cint 6)) [.ret (.call "_law_ringed" [(.var 1),(.var 3)])] [],.ite (.cmp .Eq (.var 2) (.cint 7)) [.ret (.call "_law_hubbed" [(.var 1),(.var 3)])] [],.ret (.call "_law_earlier" [(.var 0),(.var 1),(.cint 0)])]⟩
noncomputable def Lb:Fn:=⟨4,3,[.assign 3 (.call "_law_cell_at" [(.var 0),(.cint 1)]),.ite (.cmp .Eq (.bin .Mod (.var 3) (.cint 2)) (.cint 1)) [.ret (.bin .Mod (.bin .Sub (.bin .FloorDiv (.var 3) (.cint 2)) (.var 2)) (.var 1))] [],.ret (.bin .Mod (.bin .Add (.bin .FloorDiv (.var 3) (.cint 2)) (.var 2)) (.var 1))]⟩
noncomputable def Kn:List S:=[.assign 6 (.tuple [(.call "_law_name" [(.var 0),(.var 1),(.var 4)]),(.call "_law_name" [(.var 0),(.var 1),(.var 5)])]),.ite (.cmp .Eq (.bin .Mod (.bin .Add (.var 4) (.var 5)) (.cint 2)) (.cint 1)) [.assign 6 (.tuple [(.sub (.var 6) (.cint 1)),(.sub (.var 6) (.cint 0))])] [],.expr (.lm .append (.var 3) [(.var 6)])]
noncomputable def Ko:List S:=[.for (.one 5) (.val (.sub (.var 2) (.var 4))) Kn]
noncomputable def Kp:X:=(.tuple [(.sub (.var 0) (.cint 1)),(.sub (.var 0) (.cint 0))])
noncomputable def O4:Fn:=⟨7,3,[.assign 3 (.list []),.for (.one 4) (.range [(.var 1)]) Ko,.ret (.bin .Add (.bin .Add (.bin .Add (.var 3) (.comp 1 (.val (.slice (.var 3) .omit (.cint 3) .omit)) Kp)) (.slice (.var 3) (.cint 1) (.cint 4) .omit)) (.bin .Mult (.slice (.var 3) .omit (.cint 1) .omit) (.cint 2)))]⟩
noncomputable def Kq:List S:=[.ite (.cmp .NotIn (.var 4) (.sub (.var 2) (.var 3))) [.expr (.lm .append (.sub (.var 2) (.var 3)) [(.var 4)]),.expr (.lm .append (.sub (.var 2) (.var 4)) [(.var 3)])] []]
noncomputable def Kr:X:=(.bi .sorted [(.var 0)])
noncomputable def O5:Fn:=⟨5,2,[.assign 2 (.comp 1 (.range [(.var 0)]) (.list [])),.for (.two 3 4) (.val (.var 1)) Kq,.ret (.comp 1 (.val (.var 2)) Kr)]⟩
noncomputable def Gb:Fn:=⟨2,1,[.assign 1 (.call "_law_cell_at" [(.var 0),(.cint 0)]),.ite (.cmp .Eq (.bin .Mod (.bin .FloorDiv (.var 1) (.cint 9)) (.cint 16)) (.cint 3)) [.ret (.bin .Mod (.bin .FloorDiv (.var 1) (.cint 144)) (.cint 61))] [],.ite (.cmp .Eq (.bin .Mod (.bin .FloorDiv (.var 1) (.cint 9)) (.cint 8)) (.cint 5)) [.ret (.bin .Add (.cint 9) (.bin .Mod (.bin .FloorDiv (.var 1) (.cint 72)) (.cint 12)))] [],.ret (.bin .Mod (.var 1) (.cint 9))]⟩
noncomputable def O6:Fn:=⟨2,2,[.ret (.cmp .Eq (.bi .sorted [(.var 1)]) (.bi .listRange [(.attr (.var 0) .many)]))]⟩
noncomputable def Lr:Fn:=⟨2,2,[.ite (.not (.call "is_order" [(.var 0),(.var 1)])) [.raise .badOrder] []]⟩
noncomputable def Dz:X:=(.meth "Web.tied" (.var 1) [(.var 3),(.var 0)])
noncomputable def Im:Fn:=⟨4,3,[.assign 3 (.lm .index (.var 1) [(.var 2)]),.ret (.compIf 1 (.val (.slice (.var 1) (.bin .Add (.var 3) (.cint 1)) .omit .omit)) Dz (.var 0))]⟩
noncomputable def Fs:List S:=[.ite (.not (.meth "Web.tied" (.var 0) [(.var 3),(.var 4)])) [.ret (.tuple [(.var 3),(.var 4)])] []]
noncomputable def Ft:List S:=[.for (.one 4) (.val (.slice (.var 1) (.bin .Add (.var 2) (.cint 1)) .omit .omit)) Fs]
noncomputable def C5:Fn:=⟨5,2,[.for (.two 2 3) (.enum (.var 1)) Ft,.ret .cnone]⟩
noncomputable def Tl:List S:=[.assign 3 (.call "first_untied" [(.var 0),(.call "those_behind" [(.var 0),(.var 1),(.var 2)])]),.ite (.cmp .IsNot (.var 3) .cnone) [.ret (.tuple [(.var 2),(.sub (.var 3) (.cint 0)),(.sub (.var 3) (.cint 1))])] []]
noncomputable def Aeh:Fn:=⟨4,2,[.expr (.call "need_order" [(.var 0),(.var 1)]),.for (.one 2) (.val (.var 1)) Tl,.ret .cnone]⟩
noncomputable def Ec:X:=(.meth "Web.tied" (.var 1) [(.var 3),(.var 0)])
noncomputable def Gn:List S:=[.ite (.cmp .Is (.call "first_untied" [(.var 0),(.compIf 1 (.val (.var 1)) Ec (.var 0))]) .cnone) [.ret (.var 2)] []]
noncomputable def Gc:Fn:=⟨3,2,[.for (.one 2) (.val (.var 1)) Gn,.ret .cnone]⟩
noncomputable def O7:List S:=[.expr (.lm .remove (.var 1) [(.var 3)]),.expr (.lm .append (.var 2) [(.var 3)]),.assign 3 (.call "least_to_go" [(.var 0),(.var 1)])]
noncomputable def Wx:Fn:=⟨4,1,[.assign 1 (.bi .listRange [(.attr (.var 0) .many)]),.assign 2 (.list []),.assign 3 (.call "least_to_go" [(.var 0),(.var 1)]),.while (.cmp .IsNot (.var 3) .cnone) O7,.ret (.tuple [(.var 2),(.var 1)])]⟩
noncomputable def Ls:Fn:=⟨2,2,[.ite (.cmp .IsNot (.call "gap" [(.var 0),(.var 1)]) .cnone) [.raise .hasGap] []]⟩
noncomputable def O8:Fn:=⟨3,3,[.ret (.bi .sorted [(.bin .Add (.list [(.var 2)]) (.call "those_behind" [(.var 0),(.var 1),(.var 2)]))])]⟩
noncomputable def Lu:X:=(.meth "Web.tied" (.var 1) [(.var 3),(.var 0)])
noncomputable def Lv:List S:=[.ite (.and (.cmp .NotIn (.var 2) (.var 1)) (.bi .all [(.comp 1 (.val (.var 1)) Lu)])) [.ret (.cbool false)] []]
noncomputable def Rc:Fn:=⟨3,2,[.for (.one 2) (.range [(.attr (.var 0) .many)]) Lv,.ret (.cbool true)]⟩
noncomputable def Go:List S:=[.assign 4 (.call "crowd_at" [(.var 0),(.var 1),(.var 3)]),.ite (.call "is_full" [(.var 0),(.var 4)]) [.expr (.lm .append (.var 2) [(.var 4)])] []]
noncomputable def Ks:Fn:=⟨5,2,[.expr (.call "need_whole" [(.var 0),(.var 1)]),.assign 2 (.list []),.for (.one 3) (.val (.var 1)) Go,.ret (.var 2)]⟩
noncomputable def H5:List S:=[.assign 1 (.bin .Add (.var 1) (.cint 1))]
noncomputable def Lw:Fn:=⟨2,1,[.assign 1 (.cint 0),.while (.cmp .In (.var 1) (.var 0)) H5,.ret (.var 1)]⟩
noncomputable def Kt:X:=(.sub (.var 4) (.var 0))
noncomputable def Ku:List S:=[.setitem (.var 3) (.var 2) (.call "least_free" [(.comp 1 (.val (.call "those_behind" [(.var 0),(.var 1),(.var 2)])) Kt)])]
noncomputable def O9:Fn:=⟨4,2,[.expr (.call "need_whole" [(.var 0),(.var 1)]),.assign 3 (.comp 1 (.val (.var 1)) (.cint 0)),.for (.one 2) (.rev (.var 1)) Ku,.ret (.var 3)]⟩
noncomputable def H6:List S:=[.ite (.and (.cmp .NotIn (.var 7) (.var 2)) (.cmp .NotIn (.var 7) (.var 3))) [.setitem (.var 3) (.var 7) (.var 6),.expr (.lm .append (.var 4) [(.var 7)])] []]
noncomputable def H7:List S:=[.assign 6 (.sub (.var 4) (.var 5)),.assign 5 (.bin .Add (.var 5) (.cint 1)),.for (.one 7) (.val (.meth "Web.beside" (.var 0) [(.var 6)])) H6]
noncomputable def E2:Fn:=⟨8,3,[.assign 3 (.dict [(.var 1)] [(.var 1)]),.assign 4 (.list [(.var 1)]),.assign 5 (.cint 0),.while (.cmp .Lt (.var 5) (.bi .len [(.var 4)])) H7,.ret (.var 3)]⟩
noncomputable def Tm:List S:=[.expr (.lm .append (.var 5) [(.sub (.var 4) (.sub (.var 5) (.neg (.cint 1))))])]
noncomputable def Zt:Fn:=⟨6,4,[.expr (.meth "Web.need" (.var 0) [(.var 1)]),.expr (.meth "Web.need" (.var 0) [(.var 2)]),.ite (.or (.cmp .In (.var 1) (.var 3)) (.cmp .In (.var 2) (.var 3))) [.ret .cnone] [],.assign 4 (.call "steps_from" [(.var 0),(.var 1),(.var 3)]),.ite (.cmp .NotIn (.var 2) (.var 4)) [.ret .cnone] [],.assign 5 (.list [(.var 2)]),.while (.cmp .NotEq (.sub (.var 5) (.neg (.cint 1))) (.var 1)) Tm,.expr (.lm .reverse (.var 5) []),.ret (.var 5)]⟩
noncomputable def Ni:List S:=[.setitem (.var 2) (.var 4) (.var 3)]
noncomputable def Nj:List S:=[.ite (.and (.cmp .NotIn (.var 3) (.var 1)) (.cmp .NotIn (.var 3) (.var 2))) [.for (.one 4) (.val (.call "steps_from" [(.var 0),(.var 3),(.var 1)])) Ni] []]
noncomputable def Tn:Fn:=⟨5,2,[.assign 2 (.dict [] []),.for (.one 3) (.range [(.attr (.var 0) .many)]) Nj,.ret (.var 2)]⟩
noncomputable def He:List S:=[.ite (.cmp .In (.var 6) (.var 3)) [.assign 7 (.lm .setdefault (.var 4) [(.sub (.var 3) (.var 6)),(.list [])]),.ite (.or (.cmp .Eq (.var 7) (.list [])) (.cmp .NotEq (.sub (.var 7) (.neg (.cint 1))) (.var 5))) [.expr (.lm .append (.var 7) [(.var 5)])] []] []]
noncomputable def Lx:List S:=[.for (.one 6) (.val (.meth "Web.beside" (.var 0) [(.var 5)])) He]
noncomputable def Ly:X:=(.cmp .NotIn (.var 0) (.var 10))
noncomputable def Lz:List S:=[.assign 9 (.call "first_untied" [(.var 0),(.sub (.var 4) (.var 8))]),.ite (.cmp .IsNot (.var 9) .cnone) [.assign 10 (.compIf 1 (.val (.var 2)) Ly (.var 0)),.ret (.bin .Add (.list [(.var 1)]) (.call "way" [(.var 0),(.sub (.var 9) (.cint 0)),(.sub (.var 9) (.cint 1)),(.bin .Add (.var 10) (.list [(.var 1)]))]))] []]
noncomputable def Rd:Fn:=⟨11,2,[.assign 2 (.meth "Web.beside" (.var 0) [(.var 1)]),.assign 3 (.call "pieces" [(.var 0),(.bin .Add (.var 2) (.list [(.var 1)]))]),.assign 4 (.dict [] []),.for (.one 5) (.val (.var 2)) Lx,.for (.one 8) (.val (.bi .sorted [(.var 4)])) Lz,.ret .cnone]⟩
noncomputable def Io:List S:=[.assign 2 (.call "ring_at" [(.var 0),(.var 1)]),.ite (.cmp .IsNot (.var 2) .cnone) [.ret (.var 2)] []]
noncomputable def Nk:Fn:=⟨3,1,[.for (.one 1) (.val (.sub (.call "taken" [(.var 0)]) (.cint 1))) Io,.ret .cnone]⟩
noncomputable def Ed:Fn:=⟨6,6,[.setattr (.var 0) .order (.var 1),.setattr (.var 0) .ring (.var 2),.setattr (.var 0) .crowd (.var 3),.setattr (.var 0) .colours (.var 4),.setattr (.var 0) .many (.var 5)]⟩
noncomputable def Nl:List S:=[.ite (.cmp .Gt (.bi .len [(.var 4)]) (.bi .len [(.var 3)])) [.assign 3 (.var 4)] []]
noncomputable def To:Fn:=⟨5,1,[.assign 1 (.call "long_ring" [(.var 0)]),.ite (.cmp .IsNot (.var 1) .cnone) [.ret (.mk .verdict [.cnone,(.var 1),.cnone,.cnone,(.cint 0)])] [],.assign 2 (.sub (.call "taken" [(.var 0)]) (.cint 0)),.assign 3 (.list []),.for (.one 4) (.val (.call "full_crowds" [(.var 0),(.var 2)])) Nl,.ret (.mk .verdict [(.var 2),.cnone,(.var 3),(.call "coloured" [(.var 0),(.var 2)]),(.bi .len [(.var 3)])])]⟩
noncomputable def Ip:X:=(.tuple [(.call "_law_mixed" [(.call "_law_cell_at" [(.var 1),(.bin .Add (.cint 2) (.bin .Mod (.bin .Mult (.cint 11) (.var 0)) (.cint 61)))]),(.bin .Add (.bin .Mult (.cint 7) (.var 0)) (.cint 1))]),(.var 0)])
noncomputable def Iq:X:=(.sub (.var 0) (.cint 1))
noncomputable def Fu:Fn:=⟨3,2,[.assign 2 (.comp 1 (.range [(.var 1)]) Ip),.ret (.comp 1 (.val (.bi .sorted [(.var 2)])) Iq)]⟩
noncomputable def H8:X:=(.cmp .In (.var 0) (.sub (.var 1) (.sub (.var 2) (.var 3))))
noncomputable def E3:Fn:=⟨3,3,[.ret (.compIf 1 (.val (.slice (.var 1) (.bin .Add (.var 2) (.cint 1)) .omit .omit)) H8 (.var 0))]⟩
noncomputable def H9:List S:=[.ite (.cmp .NotIn (.var 3) (.sub (.var 0) (.sub (.var 1) (.var 2)))) [.ret (.tuple [(.sub (.var 1) (.var 2)),(.var 3)])] []]
noncomputable def Ia:List S:=[.for (.one 3) (.val (.slice (.var 1) (.bin .Add (.var 2) (.cint 1)) .omit .omit)) H9]
noncomputable def D0:Fn:=⟨4,2,[.for (.one 2) (.range [(.bi .len [(.var 1)])]) Ia,.ret .cnone]⟩
noncomputable def Kv:X:=(.cmp .In (.var 0) (.sub (.var 1) (.var 3)))
noncomputable def Kw:List S:=[.ite (.cmp .Is (.call "_law_untied" [(.var 0),(.compIf 1 (.val (.var 1)) Kv (.var 0))]) .cnone) [.ret (.var 2)] []]
noncomputable def Hf:Fn:=⟨3,2,[.for (.one 2) (.val (.var 1)) Kw,.ret (.neg (.cint 1))]⟩
noncomputable def L0:X:=(.chain (.cint 0) .LtE (.var 0) .Lt (.attr (.var 1) .many))
noncomputable def L1:List S:=[.assign 5 (.or (.cmp .Eq (.var 4) (.bin .Add (.var 3) (.cint 1))) (.and (.cmp .Eq (.var 3) (.cint 0)) (.cmp .Eq (.var 4) (.bin .Sub (.var 2) (.cint 1))))),.ite (.cmp .NotEq (.meth "Web.tied" (.var 0) [(.sub (.var 1) (.var 3)),(.sub (.var 1) (.var 4))]) (.var 5)) [.ret (.cbool false)] []]
noncomputable def L2:List S:=[.for (.one 4) (.range [(.bin .Add (.var 3) (.cint 1)),(.var 2)]) L1]
noncomputable def Mu:Fn:=⟨6,2,[.assign 2 (.bi .len [(.var 1)]),.ite (.or (.cmp .Lt (.var 2) (.cint 4)) (.cmp .NotEq (.bi .lenSet [(.var 1)]) (.var 2))) [.ret (.cbool false)] [],.ite (.not (.bi .all [(.comp 1 (.val (.var 1)) L0)])) [.ret (.cbool false)] [],.for (.one 3) (.range [(.var 2)]) L2,.ret (.cbool true)]⟩
noncomputable def Kx:X:=(.chain (.cint 0) .LtE (.var 0) .Lt (.attr (.var 1) .many))
noncomputable def Lc:Fn:=⟨2,2,[.ite (.cmp .NotEq (.bi .lenSet [(.var 1)]) (.bi .len [(.var 1)])) [.ret (.cbool false)] [],.ite (.not (.bi .all [(.comp 1 (.val (.var 1)) Kx)])) [.ret (.cbool false)] [],.ret (.cmp .Is (.call "first_untied" [(.var 0),(.var 1)]) .cnone)]⟩
noncomputable def Ir:List S:=[.ite (.cmp .NotIn (.var 3) (.sub (.var 0) (.sub (.var 1) (.var 2)))) [.ret (.cbool false)] []]
noncomputable def Iu:List S:=[.ite (.not (.chain (.cint 0) .LtE (.sub (.var 1) (.var 2)) .Lt (.bi .len [(.var 0)]))) [.ret (.cbool false)] [],.for (.one 3) (.val (.slice (.var 1) (.bin .Add (.var 2) (.cint 1)) .omit .omit)) Ir]
noncomputable def Iv:Fn:=⟨4,2,[.for (.one 2) (.range [(.bi .len [(.var 1)])]) Iu,.ret (.cbool true)]⟩
noncomputable def Gp:List S:=[.ite (.or (.not (.chain (.cint 0) .LtE (.var 3) .Lt (.bi .len [(.var 0)]))) (.cmp .Gt (.lm .count (.var 1) [(.var 3)]) (.cint 1))) [.ret (.cbool false)] []]
noncomputable def Gq:X:=(.cmp .In (.var 0) (.sub (.var 1) (.sub (.var 2) (.var 5))))
noncomputable def Gs:List S:=[.assign 5 (.list [(.sub (.var 1) (.bin .Sub (.var 4) (.cint 1))),(.sub (.var 1) (.bin .Mod (.bin .Add (.var 4) (.cint 1)) (.var 2)))]),.ite (.cmp .NotEq (.bi .sorted [(.compIf 1 (.val (.var 1)) Gq (.var 0))]) (.bi .sorted [(.var 5)])) [.ret (.cbool false)] []]
noncomputable def Gd:Fn:=⟨6,2,[.assign 2 (.bi .len [(.var 1)]),.ite (.cmp .Lt (.var 2) (.cint 4)) [.ret (.cbool false)] [],.for (.one 3) (.val (.var 1)) Gp,.for (.one 4) (.range [(.var 2)]) Gs,.ret (.cbool true)]⟩
noncomputable def Fv:List S:=[.assign 5 (.call "_law_free" [(.var 1),(.var 2)]),.ite (.cmp .Lt (.var 5) (.cint 0)) [.ret .cnone] [],.expr (.lm .append (.var 3) [(.var 5)]),.expr (.lm .remove (.var 2) [(.var 5)])]
noncomputable def E9:Fn:=⟨6,2,[.assign 2 (.call "_law_keyed" [(.var 0),(.bi .len [(.var 1)])]),.assign 3 (.list []),.for (.one 4) (.range [(.bi .len [(.var 1)])]) Fv,.ret (.var 3)]⟩
noncomputable def Ee:X:=(.chain (.cint 0) .LtE (.var 0) .Lt (.var 3))
noncomputable def Gu:X:=(.cmp .NotEq (.sub (.var 3) (.var 0)) (.sub (.var 3) (.var 1)))
noncomputable def Ge:Fn:=⟨3,3,[.ite (.cmp .NotEq (.bi .len [(.var 1)]) (.attr (.var 0) .many)) [.ret (.cbool false)] [],.ite (.not (.bi .all [(.comp 1 (.val (.var 1)) Ee)])) [.ret (.cbool false)] [],.ret (.bi .all [(.comp 2 (.val (.meth "Web.ties" (.var 0) [])) Gu)])]⟩
noncomputable def Wy:Fn:=⟨2,2,[.ite (.cmp .IsNot (.attr (.var 1) .ring) .cnone) [.ite (.or (.cmp .IsNot (.attr (.var 1) .order) .cnone) (.or (.cmp .IsNot (.attr (.var 1) .crowd) .cnone) (.cmp .IsNot (.attr (.var 1) .colours) .cnone))) [.ret (.cbool false)] [],.ret (.and (.cmp .Eq (.attr (.var 1) .many) (.cint 0)) (.call "is_ring" [(.var 0),(.attr (.var 1) .ring)]))] [],.ite (.or (.cmp .Is (.attr (.var 1) .order) .cnone) (.or (.cmp .Is (.attr (.var 1) .crowd) .cnone) (.cmp .Is (.attr (.var 1) .colours) .cnone))) [.ret (.cbool false)] [],.ite (.or (.not (.call "is_order" [(.var 0),(.attr (.var 1) .order)])) (.cmp .IsNot (.call "gap" [(.var 0),(.attr (.var 1) .order)]) .cnone)) [.ret (.cbool false)] [],.ite (.or (.not (.call "is_crowd" [(.var 0),(.attr (.var 1) .crowd)])) (.cmp .NotEq (.bi .len [(.attr (.var 1) .crowd)]) (.attr (.var 1) .many))) [.ret (.cbool false)] [],.ret (.call "are_colours" [(.var 0),(.attr (.var 1) .colours),(.attr (.var 1) .many)])]⟩
noncomputable def Ky:X:=(.sub (.var 4) (.var 0))
noncomputable def Kz:X:=(.cmp .NotIn (.var 0) (.var 8))
noncomputable def K0:List S:=[.assign 5 (.bin .Sub (.bin .Sub (.bi .len [(.var 0)]) (.cint 1)) (.var 4)),.assign 6 (.call "_law_behind" [(.var 0),(.var 1),(.var 5)]),.ite (.cmp .GtE (.bi .len [(.var 6)]) (.bi .len [(.var 2)])) [.assign 2 (.bin .Add (.var 6) (.list [(.sub (.var 1) (.var 5))]))] [],.assign 7 (.comp 1 (.val (.var 6)) Ky),.setitem (.var 3) (.sub (.var 1) (.var 5)) (.bi .minL [(.compIf 1 (.range [(.bi .len [(.var 0)])]) Kz (.var 0))])]
noncomputable def Ld:Fn:=⟨8,2,[.assign 2 (.list []),.assign 3 (.comp 1 (.range [(.bi .len [(.var 0)])]) (.cint 0)),.for (.one 4) (.range [(.bi .len [(.var 0)])]) K0,.ret (.list [(.var 1),.cnone,(.var 2),(.var 3),(.bi .len [(.var 2)])])]⟩
noncomputable def Ep:Fn:=⟨9,4,[.ite (.cmp .Is (.var 0) .cnone) [.ret (.sub (.list [.cnone,(.list []),(.list [(.cint 0),(.cint 1),(.cint 2),(.cint 3)]),(.list [(.cint 0)])]) (.bin .Mod (.var 1) (.cint 4)))] [],.assign 4 (.bin .Mod (.var 1) (.cint 12)),.assign 5 (.bin .Mod (.bin .FloorDiv (.var 1) (.cint 12)) (.bin .Add (.bi .len [(.var 0)]) (.cint 1))),.ite (.cmp .Eq (.var 4) (.cint 0)) [.ret .cnone] [],.ite (.cmp .Eq (.var 4) (.cint 1)) [.ret (.bin .Add (.slice (.var 0) .omit (.var 5) .omit) (.slice (.var 0) (.bin .Add (.var 5) (.cint 1)) .omit .omit))] [],.ite (.and (.cmp .Lt (.var 4) (.cint 6)) (.cmp .Lt (.var 5) (.bi .len [(.var 0)]))) [.assign 6 (.list [(.var 3),(.neg (.cint 1)),(.cint 0),(.bi .len [(.var 0)]),(.bin .Add (.sub (.var 0) (.var 5)) (.cint 1)),(.var 2),(.bin .Sub (.var 3) (.cint 1))]),.ret (.bin .Add (.bin .Add (.slice (.var 0) .omit (.var 5) .omit) (.list [(.sub (.var 6) (.bin .Mod (.bin .FloorDiv (.var 1) (.cint 732)) (.cint 7)))])) (.slice (.var 0) (.bin .Add (.var 5) (.cint 1)) .omit .omit))] [],.ite (.or (.cmp .Eq (.var 4) (.cint 6)) (.cmp .Eq (.var 4) (.cint 7))) [.ret (.slice (.var 0) .omit .omit (.neg (.cint 1)))] [],.ite (.or (.cmp .Eq (.var 4) (.cint 8)) (.cmp .Eq (.var 4) (.cint 9))) [.ret (.bin .Add (.slice (.var 0) (.var 5) .omit .omit) (.slice (.var 0) .omit (.var 5) .omit))] [],.ite (.and (.cmp .Eq (.var 4) (.cint 10)) (.cmp .Lt (.var 5) (.bi .len [(.var 0)]))) [.assign 7 (.bin .Mod (.bin .FloorDiv (.var 1) (.cint 732)) (.bi .len [(.var 0)])),.assign 8 (.bi .list [(.var 0)]),.setitem (.var 8) (.var 5) (.sub (.var 0) (.var 7)),.setitem (.var 8) (.var 7) (.sub (.var 0) (.var 5)),.ret (.var 8)] [],.ret (.bin .Add (.bin .Add (.slice (.var 0) .omit (.var 5) .omit) (.list [(.bin .Mod (.bin .FloorDiv (.var 1) (.cint 732)) (.cint 61))])) (.slice (.var 0) (.var 5) .omit .omit))]⟩
noncomputable def Gv:X:=(.cmp .Eq (.sub (.var 2) (.var 0)) (.sub (.var 2) (.var 4)))
noncomputable def Gw:List S:=[.ite (.not (.chain (.cint 0) .LtE (.sub (.var 1) (.var 3)) .Lt (.var 2))) [.ret (.cbool false)] [],.ite (.cmp .NotEq (.compIf 1 (.val (.sub (.var 0) (.var 3))) Gv (.var 0)) (.list [])) [.ret (.cbool false)] []]
noncomputable def Gf:Fn:=⟨4,3,[.ite (.cmp .NotEq (.bi .len [(.var 1)]) (.bi .len [(.var 0)])) [.ret (.cbool false)] [],.for (.one 3) (.range [(.bi .len [(.var 0)])]) Gw,.ret (.cbool true)]⟩
noncomputable def K1:List S:=[.ite (.cmp .IsNot (.call "_law_untied" [(.var 0),(.call "_law_behind" [(.var 0),(.var 2),(.var 3)])]) .cnone) [.ret (.cbool false)] []]
noncomputable def Pa:Fn:=⟨4,2,[.assign 2 (.sub (.var 1) (.cint 0)),.ite (.cmp .IsNot (.sub (.var 1) (.cint 1)) .cnone) [.ite (.or (.cmp .IsNot (.var 2) .cnone) (.cmp .IsNot (.sub (.var 1) (.cint 2)) .cnone)) [.ret (.cbool false)] [],.ret (.and (.cmp .Is (.sub (.var 1) (.cint 3)) .cnone) (.and (.cmp .Eq (.sub (.var 1) (.cint 4)) (.cint 0)) (.call "_law_ring" [(.var 0),(.sub (.var 1) (.cint 1))])))] [],.ite (.or (.cmp .Is (.var 2) .cnone) (.or (.cmp .Is (.sub (.var 1) (.cint 2)) .cnone) (.cmp .Is (.sub (.var 1) (.cint 3)) .cnone))) [.ret (.cbool false)] [],.ite (.cmp .NotEq (.bi .sorted [(.var 2)]) (.bi .listRange [(.bi .len [(.var 0)])])) [.ret (.cbool false)] [],.for (.one 3) (.range [(.bi .len [(.var 2)])]) K1,.ite (.or (.cmp .NotEq (.bi .len [(.sub (.var 1) (.cint 2))]) (.sub (.var 1) (.cint 4))) (.not (.call "_law_crowd" [(.var 0),(.sub (.var 1) (.cint 2))]))) [.ret (.cbool false)] [],.ret (.call "_law_colours" [(.var 0),(.sub (.var 1) (.cint 3)),(.sub (.var 1) (.cint 4))])]⟩
noncomputable def Hg:Fn:=⟨1,1,[.ite (.bi (.isinst .list) [(.var 0)]) [.ret (.bi .list [(.var 0)])] [],.ret (.var 0)]⟩
noncomputable def L3:X:=(.call "_law_copy" [(.var 0)])
noncomputable def Fw:List S:=[.assign 6 (.call "holds" [(.sub (.var 0) (.var 5)),(.var 4)]),.ite (.or (.not (.bi (.isinst .bool) [(.var 6)])) (.or (.cmp .NotEq (.var 6) (.call "_law_good" [(.sub (.var 1) (.var 5)),(.var 2)])) (.cmp .NotEq (.var 3) (.var 2)))) [.ret (.cbool false)] []]
noncomputable def Iw:Fn:=⟨7,3,[.assign 3 (.comp 1 (.val (.var 2)) L3),.assign 4 (.mk .verdict [(.sub (.var 3) (.cint 0)),(.sub (.var 3) (.cint 1)),(.sub (.var 3) (.cint 2)),(.sub (.var 3) (.cint 3)),(.sub (.var 3) (.cint 4))]),.ite (.cmp .NotEq (.list [(.attr (.var 4) .order),(.attr (.var 4) .ring),(.attr (.var 4) .crowd),(.attr (.var 4) .colours),(.attr (.var 4) .many)]) (.var 2)) [.ret (.cbool false)] [],.for (.one 5) (.val (.tuple [(.cint 0),(.cint 1),(.cint 0)])) Fw,.ret (.cbool true)]⟩
noncomputable def Nm:X:=(.call "_law_name" [(.var 1),(.var 2),(.var 0)])
noncomputable def Tp:X:=(.call "_law_copy" [(.var 0)])
noncomputable def Nn:List S:=[.ite (.not (.call "_law_asked" [(.var 15),(.var 16),(.var 17)])) [.ret (.cbool false)] [],.expr (.call "judged" [(.var 13)])]
noncomputable def Np:X:=(.cmp .NotEq (.call "holds" [(.sub (.var 16) (.var 0)),(.var 19)]) (.call "_law_good" [(.sub (.var 17) (.var 0)),(.var 20)]))
noncomputable def Tq:Fn:=⟨20,1,[.assign 1 (.call "_law_many" [(.var 0)]),.assign 2 (.call "_law_rows" [(.var 0),(.var 1)]),.assign 3 (.call "_law_ties" [(.var 0),(.var 1),(.var 2)]),.assign 4 (.call "_law_near" [(.var 1),(.var 3)]),.assign 5 (.call "_law_mixed" [(.call "_law_cell_at" [(.var 0),(.cint 1)]),(.cint 5)]),.assign 6 (.bin .Add (.cint 61) (.bin .Mod (.call "_law_cell_at" [(.var 0),(.cint 2)]) (.bin .Pow (.cint 10) (.cint 20)))),.assign 7 (.call "_law_order" [(.var 0),(.var 4)]),.assign 8 (.bin .Add (.cint 4) (.bin .Mod (.bin .FloorDiv (.call "_law_cell_at" [(.var 0),(.cint 2)]) (.cint 8)) (.bi .max [(.cint 1),(.bin .Sub (.var 1) (.cint 3))]))),.ite (.cmp .Eq (.bin .Mod (.call "_law_cell_at" [(.var 0),(.cint 2)]) (.cint 8)) (.cint 6)) [.assign 8 (.bin .Add (.cint 4) (.bin .Mod (.bin .FloorDiv (.call "_law_cell_at" [(.var 0),(.cint 2)]) (.cint 8)) (.cint 5)))] [],.assign 8 (.bi .min [(.var 1),(.var 8)]),.assign 9 (.list [.cnone,(.comp 1 (.range [(.var 8)]) Nm),.cnone,.cnone,(.cint 0)]),.ite (.and (.cmp .IsNot (.var 7) .cnone) (.cmp .Gt (.bin .Mod (.var 5) (.cint 4)) (.cint 0))) [.assign 9 (.call "_law_made" [(.var 4),(.var 7)]),.ite (.cmp .Eq (.bin .Mod (.bin .FloorDiv (.var 5) (.cint 4)) (.cint 2)) (.cint 1)) [.setitem (.var 9) (.cint 2) (.slice (.sub (.var 9) (.cint 2)) .omit .omit (.neg (.cint 1)))] []] [],.assign 10 (.comp 1 (.val (.var 9)) Tp),.assign 11 (.sub (.list [(.cint 1),(.cint 1),(.cint 4),(.cint 4),(.cint 4),(.cint 0),(.cint 2),(.cint 3)]) (.bin .Mod (.bin .FloorDiv (.var 5) (.cint 8)) (.cint 8))),.ite (.cmp .Is (.sub (.var 9) (.cint 1)) .cnone) [.assign 11 (.sub (.list [(.cint 0),(.cint 0),(.cint 0),(.cint 1),(.cint 2),(.cint 3),(.cint 3),(.cint 4)]) (.bin .Mod (.bin .FloorDiv (.var 5) (.cint 8)) (.cint 8)))] [],.ite (.and (.cmp .Gt (.bin .Mod (.bin .FloorDiv (.var 5) (.cint 64)) (.cint 5)) (.cint 0)) (.cmp .Lt (.var 11) (.cint 4))) [.assign 12 (.call "_law_mixed" [(.call "_law_cell_at" [(.var 0),(.cint 0)]),(.cint 6)]),.setitem (.var 9) (.var 11) (.call "_law_list_anew" [(.sub (.var 9) (.var 11)),(.var 12),(.var 6),(.sub (.var 9) (.cint 4))])] [.ite (.cmp .Gt (.bin .Mod (.bin .FloorDiv (.var 5) (.cint 64)) (.cint 5)) (.cint 0)) [.setitem (.var 9) (.cint 4) (.sub (.list [(.bin .Add (.sub (.var 9) (.cint 4)) (.cint 1)),(.bin .Sub (.sub (.var 9) (.cint 4)) (.cint 1)),(.var 6),(.cint 0)]) (.bin .Mod (.bin .FloorDiv (.var 5) (.cint 320)) (.cint 4)))] []],.assign 13 (.call "web_of" [(.var 1),(.bi .list [(.var 3)])]),.assign 14 (.slice (.var 3) (.cint 1) (.bin .Sub (.bi .len [(.var 3)]) (.cint 9)) .omit),.assign 15 (.list [(.var 13),(.call "web_of" [(.var 1),(.bi .list [(.var 14)])])]),.assign 16 (.list [(.var 4),(.call "_law_near" [(.var 1),(.var 14)])]),.for (.one 17) (.val (.list [(.var 9),(.var 10),(.var 9)])) Nn,.assign 18 (.call "judged" [(.sub (.var 15) (.bin .Mod (.var 5) (.cint 2)))]),.assign 19 (.list [(.attr (.var 18) .order),(.attr (.var 18) .ring),(.attr (.var 18) .crowd),(.attr (.var 18) .colours),(.attr (.var 18) .many)]),.ret (.cmp .Eq (.compIf 1 (.val (.tuple [(.cint 0),(.cint 1),(.cint 0)])) Np (.var 0)) (.list []))]⟩
end Mine.Internal
namespace Mine.Internal
open PySem
set_option genCtorIdx false in
structure Cx where
 names:List Str
 sc:Scope
 hnd:Bool
 cmp:Bool
noncomputable def Ahd:Option NameKind->Bool
 | some .local=>true
 | some .cell=>true
 | some .free=>true
 | _=>false
noncomputable def Cx.slot(c:Cx)(x:Str):Option Nat:=if Ahd (c.sc.names.lookup x)then c.names.idxOf? x else none
noncomputable def Wz:Option NameKind->Bool
 | some .local=>true
 | some .cell=>true
 | _=>false
noncomputable def Cx.own(c:Cx)(x:Str):Option Nat:=if Wz (c.sc.names.lookup x)then c.names.idxOf? x else none
noncomputable def Cx.global(c:Cx)(x:Str):Bool:=c.sc.names.lookup x==some .globalImplicit
theorem nn{α:Type}{P:Prop}{x:α}(h:(none:Option α)=some x):P:=by cases h
inductive B1{α β:Type}(o:Option α)(k:α->β)(y:β):Prop
 | mk (a:α) (h:o=some a) (e:k a=y)
inductive B2{α α' β:Type}(o:Option α)(o':Option α')(k:α->α'->β)(y:β):Prop
 | mk (a:α) (h:o=some a) (a':α') (h':o'=some a') (e:k a a'=y)
inductive B3{α α' γ β:Type}(o:Option α)(o':Option α')(p:Option γ)(k:α->α'->γ->β)(y:β):Prop
 | mk (a:α) (h:o=some a) (a':α') (h':o'=some a') (d:γ) (h3:p=some d) (e:k a a' d=y)
inductive B4{α α' γ δ β:Type}(o:Option α)(o':Option α')(p:Option γ)(p':Option δ)(k:α->α'->γ->δ->β)(y:β):Prop
 | mk (a:α) (h:o=some a) (a':α') (h':o'=some a') (d:γ) (h3:p=some d) (d':δ) (h4:p'=some d') (e:k a a' d d'=y)
theorem b1{α β:Type}{o:Option α}{k:α->β}{y:β}(h:(o >>= fun a=>pure (k a))=some y):B1 o k y:=by
 cases o with
 | none=>cases h
 | some a=>exact⟨a,rfl,Option.some.inj h⟩
theorem b2{α α' β:Type}{o:Option α}{o':Option α'}{k:α->α'->β}{y:β}(h:(o >>= fun a=>o' >>= fun b=>pure (k a b))=some y):B2 o o' k y:=by
 cases o with
 | none=>cases h
 | some a=>obtain⟨b,hb,e⟩:=b1 (show (o' >>= fun b=>pure (k a b))=some y from h);exact⟨a,rfl,b,hb,e⟩
theorem b3{α α' γ β:Type}{o:Option α}{o':Option α'}{p:Option γ}{k:α->α'->γ->β}{y:β}(h:(o >>= fun a=>o' >>= fun b=>p >>= fun d=>pure (k a b d))=some y):B3 o o' p k y:=by
 cases o with
 | none=>cases h
 | some a=>obtain⟨b,hb,d,hd,e⟩:=b2 (show (o' >>= fun b=>p >>= fun d=>pure (k a b d))=some y from h);exact⟨a,rfl,b,hb,d,hd,e⟩
theorem b4{α α' γ δ β:Type}{o:Option α}{o':Option α'}{p:Option γ}{p':Option δ}{k:α->α'->γ->δ->β}{y:β}(h:(o >>= fun a=>o' >>= fun b=>p >>= fun d=>p' >>= fun d'=>pure (k a b d d'))=some y):B4 o o' p p' k y:=by
 cases o with
 | none=>cases h
 | some a=>obtain⟨b,hb,d,hd,d',hd',e⟩:=b3 (show (o' >>= fun b=>p >>= fun d=>p' >>= fun d'=>pure (k a b d d'))=some y from h);exact⟨a,rfl,b,hb,d,hd,d',hd',e⟩
noncomputable def tab{α:Type}:List (Str×α)->Str->Option α
 | [],_=>none
 | p::r,x=>if x==p.1 then some p.2 else tab r x
theorem Sh{α:Type}{x:Str}{a:α}{t:List (Str×α)}(h:tab t x=some a):(x,a)∈t:=by
 induction t with
 | nil=>cases h
 | cons p r ih=>
   replace h:(if (x==p.1)=true then some p.2 else tab r x)=some a:=h
   by_cases q:(x==p.1)=true
   ·rw[if_pos q]at h
    cases h
    rw[beq_iff_eq.mp q]
    exact .head _
   ·rw[if_neg q]at h
    exact .tail _ (ih h)
noncomputable def W0:List (Str×Ty):=[("int",.int),("bool",.bool),("list",.list)]
noncomputable def Zu(x:Str):Option Ty:=tab W0 x
noncomputable def Ae1:List (Str×Kb):=[("WebError",.webError),("BadWeb",.badWeb),("NoPoint",.noPoint),("BadText",.badText),("BadOrder",.badOrder),("HasGap",.hasGap)]
noncomputable def Ahe(x:Str):Option Kb:=tab Ae1 x
noncomputable def Nq(x:Str):Option Ct:=
 if x==("many" :Str)then some .many else if x==("rows" :Str)then some .rows else if x==("order" :Str)then some .order else if x==("ring" :Str)then some .ring
 else if x==("crowd" :Str)then some .crowd else if x==("colours" :Str)then some .colours else none
noncomputable def W1:List (Str×LM):=[("append",.append),("clear",.clear),("count",.count),("extend",.extend),("index",.index),("remove",.remove),("reverse",.reverse),("setdefault",.setdefault),("split",.split),("join",.join)]
noncomputable def Ack(x:Str):Option LM:=tab W1 x
noncomputable def Oi(x:Str):Option Str:=
 if x==("need" :Str)then some "Web.need" else if x==("beside" :Str)then some "Web.beside" else if x==("tied" :Str)then some "Web.tied" else if x==("ties" :Str)then some "Web.ties" else none
noncomputable def W2:List (Str×(Nat×BI)):=[("len",(1,.len)),("list",(1,.list)),("sorted",(1,.sorted)),("max",(2,.max)),("min",(2,.min)),("min",(1,.minL)),("all",(1,.all)),("any",(1,.any)),("str",(1,.str)),("int",(1,.int))]
noncomputable def Acl:List (Str×(Nat×BI))->Str->Nat->Option BI
 | [],_,_=>none
 | p::r,x,n=>if x==p.1&&n==p.2.1 then some p.2.2 else Acl r x n
theorem Pb{x:Str}{n:Nat}{b:BI}{t:List (Str×(Nat×BI))}(h:Acl t x n=some b):(x,(n,b))∈t:=by
 induction t with
 | nil=>cases h
 | cons p r ih=>
   replace h:(if (x==p.1&&n==p.2.1)=true then some p.2.2 else Acl r x n)=some b:=h
   by_cases q:(x==p.1&&n==p.2.1)=true
   ·rw[if_pos q]at h
    cases h
    have z:=Bool.and_eq_true_iff.mp q
    rw[beq_iff_eq.mp z.1,beq_iff_eq.mp z.2]
    exact .head _
   ·rw[if_neg q]at h
    exact .tail _ (ih h)
noncomputable def Zv(x:Str)(n:Nat):Option BI:=Acl W2 x n
noncomputable def Eu(f:Str):Option (Kb×Str):=
 if f==("Web.__init__" :Str)then some (.web,"__init__")else if f==("Verdict.__init__" :Str)then some (.verdict,"__init__")else if f==("Web.need" :Str)then some (.web,"need")
 else if f==("Web.beside" :Str)then some (.web,"beside")else if f==("Web.tied" :Str)then some (.web,"tied")else if f==("Web.ties" :Str)then some (.web,"ties")else none
noncomputable def Ae2:List Str:=["isinstance","range","enumerate","reversed","set","len","list","sorted","max","min","all","any","str","int","super","type"]
noncomputable def Acm(x:Str):Bool:=x==("MOST" :Str)||x==("FIGURES" :Str)
noncomputable def U9(names:List Str)(out sc:Scope)(ts:List Str):Bool:=
 (match ts with | [x,y]=>x != y|_=>true)&&sc.kind == .function&&sc.names.all (fun p=>p.2 != .local||ts.contains p.1 || !names.contains p.1)&&sc.names.all (fun p=>p.2 != .cell&&(p.2 != .local||sc.names.lookup p.1==some .local)&&(p.2 != .free||(out.names.lookup p.1==some .cell&&sc.names.lookup p.1==some .free)))
   && ts.all fun t=>sc.names.lookup t==some .local
noncomputable def Ib:Expr->Option Str
 | .Name x _=>some x
 | _=>none
noncomputable def Aei:List Expr->Option (List Str)
 | [a,b]=>(match Ib a with
   | some x=>(match Ib b with
     | some y=>some [x,y]
     | none=>none)
   | none=>none)
 | _=>none
set_option backward.match.sparseCases false in
noncomputable def C6:Expr->Option (List Str)
 | .Name x _=>some [x]
 | .Tuple es _ _=>Aei es
 | _=>none
theorem L4{e:Expr}{x:Str}(h:Ib e=some x):∃p,e = .Name x p:=by
 refine Aa fun nY=>?_
 cases e<;>try exact @nn _ _ _ h
 case Name y p=>(refine nY ?_;clear nY;cases h;exact⟨p,rfl⟩)
theorem Zw{es:List Expr}{ts:List Str}(h:Aei es=some ts):∃x p y q,es = [.Name x p,.Name y q]/\ts = [x,y]:=by
 rcases es with _ | ⟨a,_ | ⟨b,_ | ⟨d,es⟩⟩⟩<;>try exact @nn _ _ _ h
 replace h:(match Ib a with|some x=>(match Ib b with|some y=>some [x,y]|none=>none)|none=>none)=some ts:=h
 cases ha:Ib a with
 | none=>rw[ha]at h;cases h
 | some x=>
   cases hb:Ib b with
   | none=>rw[ha,hb]at h;cases h
   | some y=>
     rw[ha,hb]at h
     cases h
     obtain⟨p,rfl⟩:=L4 ha
     obtain⟨q,rfl⟩:=L4 hb
     exact⟨x,p,y,q,rfl,rfl⟩
theorem Ix{e:Expr}{ts:List Str}(h:C6 e=some ts):(∃x p,e = .Name x p/\ts = [x])\/(∃x p y q k r,e = .Tuple [.Name x p,.Name y q] k r/\ts = [x,y]):=by
 refine Aa fun no=>?_
 cases e<;>try exact @nn _ _ _ h
 case Name x p=>exact no (.inl ⟨x,p,rfl,(Option.some.inj h).symm⟩)
 case Tuple es k r=>
  obtain⟨x,p,y,q,rfl,e⟩:=Zw h
  exact no (.inr ⟨x,p,y,q,k,r,rfl,e⟩)
set_option backward.match.sparseCases false in
noncomputable def Va:Expr->Option (Expr×List Expr×Bool)
 | .Call g as kw _=>some (g,as,kw.isEmpty)
 | _=>none
theorem X1{e g:Expr}{as:List Expr}(h:Va e=some (g,as,true)):∃p,e = .Call g as [] p:=by
 cases e<;>try exact @nn _ _ _ h
 case Call g' as' kw p=>
  have h':=Option.some.inj h
  cases kw with
  | nil=>cases h';exact⟨p,rfl⟩
  | cons a b=>cases h'
noncomputable def Fa(e:Expr):Option (Str×List Expr):=match Va e with
 | some (g,as,true)=>(match Ib g with
   | some x=>some (x,as)
   | none=>none)
 | _=>none
theorem Nr{e:Expr}{x:Str}{as:List Expr}(h:Fa e=some (x,as)):∃p p',e = .Call (.Name x p) as [] p':=by
 unfold Fa at h
 cases q:Va e with
 | none=>rw[q]at h;cases h
 | some r=>
   refine Aa fun nY=>?_
   obtain⟨g,as',k⟩:=r
   rw[q]at h
   cases k with
   | false=>cases h
   | true=>
     obtain⟨p',rfl⟩:=X1 q
     cases q':Ib g with
     | none=>simp only[q']at h;cases h
     | some y=>
       simp only[q']at h
       cases h
       obtain⟨p,rfl⟩:=L4 q'
       refine nY ?_;clear nY
       exact⟨p,p',rfl⟩
noncomputable def Gg(f:Expr->Option X):List Expr->Option (List X)
 | []=>some []
 | e::r=>do return (<-f e)::(<-Gg f r)
noncomputable def Vb(f:Expr->Option X):Option Expr->Option X
 | none=>some .omit
 | some e=>f e
noncomputable def Pc(f:Expr->Option X)(op:BoolOp):List Expr->Option X
 | []=>none
 | e::r=>(match r with
   | []=>f e
   | _=>(match op with
     | .And=>do return .and (<-f e) (<-Pc f op r)
     | .Or=>do return .or (<-f e) (<-Pc f op r)))
set_option backward.match.sparseCases false in
noncomputable def L5:Expr->Bool
 | .Tuple .. =>true
 | _=>false
noncomputable def Zx(f:Expr->Option X)(c:Cx)(two:Bool)(e:Expr):Option X:=
 match Fa e with
 | some (x,args)=>
   if c.global x&&x==("range" :Str)then(if args.length==1||args.length==2 then do return .range (<-Gg f args)else none)
   else if c.global x&&x==("enumerate" :Str)then(match args with | [a]=>if two then do return .enum (<-f a)else none|_=>none)
   else if c.global x&&x==("reversed" :Str)then(match args with | [a]=>do return .rev (<-f a)|_=>none)
   else do return .val (<-f e)
 | none=>do return .val (<-f e)
noncomputable def Mv(c:Cx)(nm:Str)(args:List Expr):Option (List Expr):=match args with
 | [e]=>(match Fa e with
   | some (s,as)=>if c.global s&&s==nm then some as else none
   | none=>none)
 | _=>none
theorem L6{c:Cx}{nm:Str}{args as:List Expr}(h:Mv c nm args=some as):∃sp sp',args = [.Call (.Name nm sp) as [] sp']/\c.global nm=true:=by
 refine Aa fun nY=>?_
 rcases args with _ | ⟨e,_ | ⟨e',r⟩⟩<;>try exact @nn _ _ _ h
 replace h:(match Fa e with|some (s,as)=>if c.global s&&s==nm then some as else none|none=>none)=some as:=h
 refine nY ?_;clear nY
 cases q:Fa e with
 | none=>rw[q]at h;cases h
 | some r=>
   refine Aa fun nY=>?_
   obtain⟨s,bs⟩:=r
   rw[q]at h
   replace h:(if (c.global s&&s==nm)=true then some bs else none)=some as:=h
   by_cases z:(c.global s&&s==nm)=true
   ·rw[if_pos z]at h
    cases h
    have z:c.global s=true/\s=nm:=by simpa using z
    obtain⟨sp,sp',rfl⟩:=Nr q
    refine nY ?_;clear nY
    rw[<-z.2]
    exact⟨sp,sp',rfl,z.1⟩
   ·rw[if_neg z]at h;cases h
noncomputable def Ahf:List (Str×Str):=[("_law_others","!_law_others")]
noncomputable def hOf(x:Str):Option Str:=tab Ahf x
noncomputable def L7(f:Str):Bool:=f==("!_law_others" :Str)
noncomputable def Iy(f:Str):Str:=if f==("!_law_others" :Str)then "_law_others" else f
theorem Re{x:Str}(h:L7 x=false):Iy x=x:=by
 unfold Iy
 unfold L7 at h
 rw[h];rfl
theorem Ae3{x y:Str}(h:hOf x=some y):L7 y=true/\Iy y=x/\Eu y=none/\(x==("__debug__" :Str))=false:=
 (by decide:∀p∈Ahf,L7 p.2=true/\Iy p.2=p.1/\Eu p.2=none/\(p.1==("__debug__" :Str))=false) (x,y) (Sh h)
noncomputable def W3:List Expr->Option (Expr×Str)
 | [e,t]=>(match Ib t with
   | some x=>some (e,x)
   | none=>none)
 | _=>none
theorem Vc{args:List Expr}{e:Expr}{x:Str}(h:W3 args=some (e,x)):∃p,args = [e,.Name x p]:=by
 rcases args with _ | ⟨a,_ | ⟨b,_ | ⟨d,es⟩⟩⟩<;>try exact @nn _ _ _ h
 replace h:(match Ib b with|some x=>some (a,x)|none=>none)=some (e,x):=h
 cases q:Ib b with
 | none=>rw[q]at h;cases h
 | some y=>
   rw[q]at h
   cases h
   obtain⟨p,rfl⟩:=L4 q
   exact⟨p,rfl⟩
noncomputable def W4(f:Expr->Option X)(c:Cx)(x:Str)(args:List Expr):Option X:=
 if x==("isinstance" :Str)then(match W3 args with
  | some (e,t)=>if c.global t then(match Zu t with
    | some ty=>do return .bi (.isinst ty) [<-f e]
    | none=>if t==("ValueError" :Str)then do return .isVE (<-f e)else none)else none
  | none=>none)
 else if c.hnd then(match hOf x with
  | some y=>do return .call y (<-Gg f args)
  | none=>none)
 else match Zv x args.length with
  | some b=>(match b with
    | .len=>(match Mv c "set" args with
      | some [a]=>do return .bi .lenSet [<-f a]
      | _=>do return .bi b (<-Gg f args))
    | .list=>(match Mv c "range" args with
      | some as=>if as.length==1||as.length==2 then do return .bi .listRange (<-Gg f as)else none
      | none=>do return .bi b (<-Gg f args))
    | _=>do return .bi b (<-Gg f args))
  | none=>if Ae2.contains x||(Eu x).isSome||x==("__debug__" :Str)||L7 x then none else if x==("Web" :Str)then do return .mk .web (<-Gg f args)else if x==("Verdict" :Str)then do return .mk .verdict (<-Gg f args)
    else do return .call x (<-Gg f args)
noncomputable def Iz:Expr->Bool
 | .Call (.Name _ _) [] [] _=>false
 | _=>true
noncomputable def Gh(r:Cx->Expr->Option X)(c:Cx)(e:Expr):Option X:=
 match e with
 | .Constant k _ _=>(match k with
   | .none=>some .cnone | .bool b=>some (.cbool b) | .int i=>some (.cint i) | .str s=>some (.cstr s)|_=>none)
 | .Name x _=>if x==("__debug__" :Str)||x==("__classdict__" :Str)then none else(match c.slot x with
   | some i=>some (.var i)
   | none=>if c.global x then(if Acm x then some (.glob x)else none)else none)
 | .UnaryOp .Not e _=>do return .not (<-r c e)
 | .UnaryOp .USub e _=>do return .neg (<-r c e)
 | .BoolOp op es _=>Pc (r c) op es
 | .BinOp l op e _=>do return .bin op (<-r c l) (<-r c e)
 | .Compare l [o] [e] _=>do return .cmp o (<-r c l) (<-r c e)
 | .Compare l [o,o'] [m,e] _=>do return .chain (<-r c l) o (<-r c m) o' (<-r c e)
 | .Call (.Name x _) args [] _=>if c.global x then W4 (r c) c x args else none
 | .Call (.Attribute o m ap) args [] p=>if ap.endLine==p.line&&decide (args.length<3)&&Iz o then(match Oi m with
   | some g=>do return .meth g (<-r c o) (<-Gg (r c) args)
   | none=>do return .lm (<-Ack m) (<-r c o) (<-Gg (r c) args))else none
 | .Attribute o a _=>if Iz o then do return .attr (<-r c o) (<-Nq a)else none
 | .Subscript o (.Slice l u st _) _=>do return .slice (<-r c o) (<-Vb (r c) l) (<-Vb (r c) u) (<-Vb (r c) st)
 | .Subscript o s _=>do return .sub (<-r c o) (<-r c s)
 | .List es _=>if es.length<100 then do return .list (<-Gg (r c) es)else none
 | .Tuple es _ _=>if es.length<100 then do return .tuple (<-Gg (r c) es)else none
 | .Dict [] [] _=>some (.dict [] [])
 | .Dict [some k] [v] _=>do return .dict [<-r c k] [<-r c v]
 | .ListComp elt [⟨t,it,ifs,a⟩] sc _=>(match C6 t with
   | some ts=>if a==0&&U9 c.names c.sc sc ts then(match ifs with
      | []=>do return .comp ts.length (<-Zx (r c) c (L5 t) it) (<-r ⟨ts++c.names,sc,false,true⟩ elt)
      | [cond]=>do return .compIf ts.length (<-Zx (r c) c (L5 t) it) (<-r ⟨ts++c.names,sc,false,true⟩ cond) (<-r ⟨ts++c.names,sc,false,true⟩ elt)
      | _=>none)
     else none
   | none=>none)
 | _=>none
set_option backward.match.sparseCases false in
noncomputable def Tr:Expr->Bool
 | .Constant .. =>true
 | .Name .. =>true
 | .UnaryOp .. =>true
 | .BoolOp .. =>true
 | .Compare .. =>true
 | .Call (.Name _ _) _ _ _=>true
 | _=>false
noncomputable def Ts:Nat->Cx->Expr->Option X
 | 0=>fun _ _=>none
 | n+1=>fun c e=>if c.hnd && !Tr e then none else Gh (Ts n) c e
noncomputable def Qi(f:Stmt->Option S):List Stmt->Option (List S)
 | []=>some []
 | e::r=>do return (<-f e)::(<-Qi f r)
noncomputable def Ahg(c:Cx):List Str->Option Tg
 | []=>none
 | x::r=>(match r with
   | []=>(c.own x).map .one
   | y::r'=>(match r' with
     | []=>do return .two (<-c.own x) (<-c.own y)
     | _::_=>none))
noncomputable def Zy(c:Cx)(e:Expr):Option Tg:=match C6 e with
 | some ts=>Ahg c ts
 | none=>none
theorem Acn{c:Cx}{e:Expr}{t:Tg}(h:Zy c e=some t):(∃x p,e = .Name x p/\B1 (c.own x) Tg.one t)\/(∃x p y q k r,e = .Tuple [.Name x p,.Name y q] k r/\B2 (c.own x) (c.own y) Tg.two t):=by
 replace h:(match C6 e with|some ts=>Ahg c ts|none=>none)=some t:=h
 cases q:C6 e with
 | none=>rw[q]at h;cases h
 | some ts=>
   refine Aa fun nY=>?_
   rcases Ix q with⟨x,p,rfl,rfl⟩ | ⟨x,p,y,p',k,r,rfl,rfl⟩
   ·refine nY ?_;clear nY
    refine .inl ⟨x,p,rfl,?_⟩
    refine Aa fun nY=>?_
    obtain⟨i,hi,e⟩:=Option.map_eq_some_iff.mp (show (c.own x).map Tg.one=some t from h)
    refine nY ?_;clear nY
    exact⟨i,hi,e⟩
   ·refine nY ?_;clear nY
    exact .inr ⟨x,p,y,p',k,r,rfl,b2 (show ((c.own x) >>= fun i=>(c.own y) >>= fun j=>pure (Tg.two i j))=some t from h)⟩
noncomputable def Tt:S->Bool
 | .expr _=>true
 | .assign _ _=>true
 | .ite _ [a] [b]=>Tt a&&Tt b
 | _=>false
noncomputable def Ae4:List S->Bool
 | [a]=>Tt a
 | _=>false
set_option backward.match.sparseCases false in
noncomputable def L8:Expr->Bool
 | .ListComp .. =>false
 | .SetComp .. =>false
 | .DictComp .. =>false
 | _=>true
noncomputable def Tu(n:Nat)(c:Cx)(t e:Expr):Option S:=
 match t with
 | .Name x _=>do return .assign (<-c.own x) (<-Ts n c e)
 | .Attribute o a _=>do return .setattr (<-Ts n c o) (<-Nq a) (<-Ts n c e)
 | .Subscript o i _=>(match i with
   | .Slice .. =>none
   | i=>do return .setitem (<-Ts n c o) (<-Ts n c i) (<-Ts n c e))
 | _=>none
set_option backward.match.sparseCases false in
noncomputable def Aj8:Expr->Bool
 | .Constant (.str _) _ _=>true
 | _=>false
noncomputable def Tv(c:Cx)(e:Option Expr):Option Kb:=
 match e with
 | some e=>(match Fa e with
   | some (x,args)=>(match args with
     | [a]=>if Aj8 a&&c.global x then Ahe x else none
     | _=>none)
   | none=>none)
 | none=>none
set_option backward.match.sparseCases false in
noncomputable def Ei(n:Nat)(r:Cx->Stmt->Option S)(c:Cx)(s:Stmt):Option S:=
 match s with
 | .Assign ts e _=>(match ts with
   | [t]=>Tu n c t e
   | _=>none)
 | .Expr e _=>if L8 e then do return .expr (<-Ts n c e)else none
 | .If t a b _=>do return .ite (<-Ts n c t) (<-Qi (r c) a) (<-Qi (r c) b)
 | .For t it body els _=>(match els with
   | []=>do return .for (<-Zy c t) (<-Zx (Ts n c) c (L5 t) it) (<-Qi (r c) body)
   | _=>none)
 | .While t body els _=>(match els with
   | []=>do return .while (<-Ts n c t) (<-Qi (r c) body)
   | _=>none)
 | .Return e _=>(match e with
   | some e=>do return .ret (<-Ts n c e)
   | none=>none)
 | .Pass _=>some .pass
 | .Raise e z _=>(match z with
   | none=>do return .raise (<-Tv c e)
   | some _=>none)
 | _=>none
set_option backward.match.sparseCases false in
noncomputable def W6:Stmt->Bool
 | .Return .. =>true
 | .If .. =>true
 | _=>false
noncomputable def erS:Nat->Cx->Stmt->Option S
 | 0=>fun _ _=>none
 | n+1=>fun c s=>if (c.hnd && !W6 s)||c.cmp then none else Ei (n+1) (erS n) c s
noncomputable def Cc(params:Arguments)(sc:Scope):List Str:=
 params.args.map (·.arg)++(sc.names.filter fun p=>(p.2 == .local||p.2 == .cell) && !(params.args.any fun a=>a.arg==p.1)).map (·.1)
noncomputable def Fx(p:Arguments):Bool:=p.posonlyargs.isEmpty&&p.vararg.isNone&&p.kwonlyargs.isEmpty&&p.kw_defaults.isEmpty&&p.kwarg.isNone&&p.defaults.isEmpty
noncomputable def Aco(h:Bool)(params:Arguments)(body:List Stmt)(sc:Scope):Option Fn:=
 if Fx params&&sc.kind == .function && !sc.isGenerator && !sc.isCoroutine then do
  let ns:=Cc params sc
  return ⟨ns.length,params.args.length,<-Qi (erS 40 ⟨ns,sc,h,false⟩) body⟩
 else none
end Mine.Internal
namespace Mine.Internal
open PySem PySem.W PyProof.Rows
set_option genCtorIdx false in
structure Wd where
 prog:Program
 w:World
 K:Frag
 cl:Kb->Addr
 b₀:Heap
 os:OsState
 sa:Addr
 sn:List Int
 hsc:(Q9 fun items=>E6 (b₀.IsList sa items.toArray) (PyProof.Rows.IntsAre items sn) (items.length<=Bq))
variable {W:Wd}
noncomputable abbrev Wd.M(W:Wd):Model:=model W.prog W.w
inductive VR(W:Wd):V->Value->Prop
 | none:VR W .none .none
 | bool (b):VR W (.bool b) (.bool b)
 | int (i t):VR W (.int i) (.int i t)
 | str (s t):VR W (.str s) (.str s t)
 | ref (a):VR W (.ref a) (.ref a)
 | fn {f a}:Eu f=none->nsIn W.K mainGlobals (Iy f)=some (some (.ref a))->VR W (.fn f) (.ref a)
 | script:VR W (.script W.sn) (.ref W.sa)
inductive Dj(W:Wd):List V->List Value->Prop
 | nil:Dj W [] []
 | cons {v c vs cs}:VR W v c->Dj W vs cs->Dj W (v::vs) (c::cs)
theorem Dj.length:∀ {vs cs},Dj W vs cs->vs.length=cs.length
 | _,_,.nil=>rfl
 | _,_,.cons _ t=>by simp[t.length]
theorem Dj.append:∀ {vs cs vs' cs'},Dj W vs cs->Dj W vs' cs'->Dj W (vs++vs') (cs++cs')
 | _,_,_,_,.nil,h=>h
 | _,_,_,_,.cons h t,h'=> .cons h (t.append h')
theorem Dj.get:∀ {vs cs} (i:Nat) {v},Dj W vs cs->vs[i]? = some v->∃c,cs[i]? = some c/\VR W v c
 | _,_,0,_,.cons h _,e=>by simp at e;subst e;exact⟨_,rfl,h⟩
 | _,_,i+1,_,.cons _ t,e=>by simp at e;simpa using t.get i e
theorem Dj.get':∀ {vs cs} (i:Nat) {c},Dj W vs cs->cs[i]? = some c->∃v,vs[i]? = some v/\VR W v c
 | _,_,0,_,.cons h _,e=>by simp at e;subst e;exact⟨_,rfl,h⟩
 | _,_,i+1,_,.cons _ t,e=>by simp at e;simpa using t.get' i e
theorem Dj.set:∀ {vs cs} (i:Nat) {v c},Dj W vs cs->VR W v c->Dj W (vs.set i v) (cs.set i c)
 | _,_,_,_,_,.nil,_=> .nil
 | _,_,0,_,_,.cons _ t,h=> .cons h t
 | _,_,i+1,_,_,.cons h' t,h=> .cons h' (t.set i h)
theorem Dj.take:∀ {vs cs} (n:Nat),Dj W vs cs->Dj W (vs.take n) (cs.take n)
 | _,_,0,_=>by simpa using Dj.nil
 | _,_,_+1,.nil=> .nil
 | _,_,n+1,.cons h t=> .cons h (t.take n)
theorem Dj.drop:∀ {vs cs} (n:Nat),Dj W vs cs->Dj W (vs.drop n) (cs.drop n)
 | _,_,0,h=>h
 | _,_,_+1,.nil=> .nil
 | _,_,n+1,.cons _ t=>t.drop n
theorem Dj.reverse:∀ {vs cs},Dj W vs cs->Dj W vs.reverse cs.reverse
 | _,_,.nil=> .nil
 | _,_,.cons h t=>by simp only[List.reverse_cons];exact t.reverse.append (.cons h .nil)
theorem Dj.replicate{vs cs}(h:Dj W vs cs):∀n,Dj W (List.replicate n vs).flatten (List.replicate n cs).flatten
 | 0=> .nil
 | n+1=>by simp only[List.replicate_succ,List.flatten_cons];exact h.append (h.replicate n)
noncomputable def A9:Ct->Str
 | .many=> "many" | .rows=> "rows" | .order=> "order" | .ring=> "ring" | .crowd=> "crowd" | .colours=> "colours"
inductive X2(W:Wd):List (Ct×V)->List DictEntry->Prop
 | nil:X2 W [] []
 | cons {a v fs e es}:e.key.isStr (A9 a)=true->(∃t,e.key = .str (A9 a) t)->VR W v e.val->X2 W fs es->X2 W ((a,v)::fs) (e::es)
inductive Uz(W:Wd):List (Int×V)->List (Int×Value)->Prop
 | nil:Uz W [] []
 | cons {k v c es kvs}:VR W v c->Uz W es kvs->Uz W ((k,v)::es) ((k,c)::kvs)
noncomputable def VE:List Value:=[.type "ValueError",.type "Exception",.type "BaseException",.type "object"]
noncomputable def Si:Kb->Str
 | .webError=> "WebError" | .badWeb=> "BadWeb" | .noPoint=> "NoPoint" | .badText=> "BadText" | .badOrder=> "BadOrder" | .hasGap=> "HasGap" | _=> ""
noncomputable def W7(K:Frag)(C:Addr):List Value:=match K.lookup C with
 | some ⟨_,_,.cls cd,_⟩=>cd.mro
 | _=>[]
noncomputable def Ae5:List Str:=["__getattribute__","__getattr__","__class__"]
noncomputable def Sj(K:Frag):List Value->Bool
 | []=>false
 | v::r=>(v::r)==VE||(match v with
   | .ref A=>(match K.lookup A with
     | some ⟨_,_,.cls cd,_⟩=>nsOkIn K cd.ns&&Ae5.all (fun n=>nsIn K cd.ns n==some none)&&Sj K r
     | _=>false)
   | _=>false)
structure Tw(W:Wd)(c:Kb):Prop where
 name:nsIn W.K mainGlobals (Si c)=some (some (.ref (W.cl c)))
 own:excIn W.K (W.cl c) VE "ValueError.__new__" = true
 quiet:Sj W.K (W7 W.K (W.cl c))=true
inductive OR(W:Wd):O->Obj->Prop
 | list {xs items n}:Dj W xs items->xs.length<=Bq->OR W (.list xs) {cls:= .type "list",data:= .seq items.toArray n}
 | tuple {xs items n}:Dj W xs items->xs.length<=Bq->OR W (.tuple xs) {cls:= .type "tuple",data:= .seq items.toArray n}
 | dict {es kvs ob}:Uz W es kvs->es.length<=Bq->ob.IsDictOf (intKind W.prog W.w) kvs->OR W (.dict es) ob
 | inst {c d}:(c = .web\/c = .verdict)->OR W (.inst c d) (instObj (W.cl c) d)
 | ns {fs es n}:X2 W fs es->fs.length<=10->OR W (.ns fs) (dictOf es n)
 | exc {c ob vs}:Tw W c->ob.cls = .ref (W.cl c)->ob.data = .fields vs->OR W (.exc c) ob
set_option genCtorIdx false in
structure HB where
 h:Heap
 fs:List Addr
noncomputable def HB.get? (x:HB)(a:Addr):Option Obj:=x.h.get? a
noncomputable def Vd(W:Wd)(fs:List Addr)(b:Addr)(o o':Obj):Prop:=o'=o\/((b∈fs/\W.b₀.get? b=none)/\∃sl,o' = {o with slots:=sl})
theorem Vd.refl{fs:List Addr}{b:Addr}{o:Obj}:Vd W fs b o o:= .inl rfl
theorem Vd.trans{fs:List Addr}{b:Addr}{o o' o'':Obj}(h:Vd W fs b o o')(h':Vd W fs b o' o''):Vd W fs b o o'':=by
 rcases h with rfl | ⟨d,sl,rfl⟩
 ·exact h'
 ·rcases h' with rfl | ⟨_,sl',rfl⟩
  ·exact .inr ⟨d,sl,rfl⟩
  ·exact .inr ⟨d,sl',rfl⟩
noncomputable def Gx(W:Wd)(h:HB)(h':Heap):Prop:=∀b o,h.get? b=some o->∃o',h'.get? b=some o'/\Vd W h.fs b o o'
theorem Gx.of{h:HB}{h':Heap}(k:∀b o,h.get? b=some o->h'.get? b=some o):Gx W h h':=fun b o e=>⟨o,k b o e,.refl⟩
theorem Gx.more{h:HB}{h' h'':Heap}(k:Gx W h h')(k':∀b o,h'.get? b=some o->h''.get? b=some o):Gx W h h'':=fun b o e=>
 let ⟨o',e1,s1⟩:=k b o e;⟨o',k' b o' e1,s1⟩
theorem Gx.trans{h h₁:HB}{h'':Heap}(k:Gx W h h₁.h)(hf:∀b o,h.get? b=some o->b∈h₁.fs->b∈h.fs)(k':Gx W h₁ h''):Gx W h h'':=fun b o e=>
 let ⟨_,e1,s1⟩:=k b o e;let ⟨_,e2,s2⟩:=k' b _ e1;⟨_,e2,s1.trans (s2.imp id fun⟨⟨m,n⟩,z⟩=>⟨⟨hf b o e m,n⟩,z⟩)⟩
theorem Gx.exact{h:HB}{h':Heap}(k:Gx W h h'){b:Addr}{o:Obj}(e:h.get? b=some o)(hx:b∉h.fs\/W.b₀.get? b≠none):h'.get? b=some o:=by
 refine Aa fun nY=>?_
 obtain⟨o',e1,s | ⟨⟨d,n⟩,_⟩⟩:=k b o e
 ·refine nY ?_;clear nY
  rw[e1,s]
 ·rcases hx with hx|hx
  ·exact absurd d hx
  ·exact absurd n hx
theorem Gx.ns{h:HB}{h':Heap}(k:Gx W h h'){a:Addr}{m:Str->Option Value}(x:h.h.Ns a m):h'.Ns a m:=by
 refine Aa fun nY=>?_
 obtain⟨o,es,ep,ho,hd,r⟩:=x
 obtain⟨o',e1,s⟩:=k a o ho
 refine nY ?_;clear nY
 refine⟨o',es,ep,e1,?_,r⟩
 rcases s with rfl | ⟨_,_,rfl⟩<;>exact hd
theorem Gx.none{h:HB}{h':Heap}(k:Gx W h h'){b:Addr}(e:h'.get? b=none):h.get? b=none:=by
 cases q:h.get? b with
 | none=>rfl
 | some o=>obtain⟨_,e1,_⟩:=k b o q;rw[e]at e1;cases e1
structure A1(W:Wd)(h₀:HB)(env:Env)(names:List Str)(H:AH)(ρ:Ak)(s:Shared):Prop where
 ns:∃m,s.heap.Ns env.locals m/\∀x i v,names.idxOf? x=some i->env.kindOf x=some .local->ρ[i]? = some (some v)->∃c,m x=some c/\VR W v c
 cell:∀x a,env.cells.lookup x=some a->∃w,s.heap.IsCell a w/\∀i v,names.idxOf? x=some i->(env.kindOf x=some .cell\/env.kindOf x=some .free)->ρ[i]? = some (some v)->∃c,w=some c/\VR W v c
 keep:Gx W h₀ s.heap
 objs:∀a o,H a=some o->∃ob,s.heap.get? a=some ob/\OR W o ob
 sep:∀a o,H a=some o->h₀.get? a=none/\a≠env.locals/\∀x,env.cells.lookup x≠some a
 gens:s.gens = #[]
 os:s.os=W.os
 above:W.b₀.objs.size<=env.locals
 low:∀a es,H a=some (.dict es)->W.b₀.objs.size<=a
structure An(W:Wd)(env:Env)(c:Cx)(h₀:HB):Prop where
 kind:env.scope.kind = .function
 globals:env.globals=mainGlobals
 builtins:env.builtins=builtinsNs
 kinds:∀x k,c.sc.names.lookup x=some k->k≠ .free->env.kindOf x=some k
 frees:∀x,c.sc.names.lookup x=some .free->env.kindOf x=some .cell\/env.kindOf x=some .free
 cells:∀x,env.kindOf x=some .cell\/env.kindOf x=some .free->∃a,env.cells.lookup x=some a
 apart:∀x a,env.cells.lookup x=some a->a≠env.locals
 inj:∀x y a,env.cells.lookup x=some a->env.cells.lookup y=some a->x=y
 base:∀b o,W.b₀.get? b=some o->h₀.get? b=some o
 new:h₀.get? env.locals=none
 fsok:∀L∈h₀.fs,h₀.get? L≠none
 fsd:∀L∈h₀.fs,W.b₀.get? L=none/\∀o,h₀.get? L=some o->∀vs,o.data≠ .fields vs
 newc:∀p∈env.cells,h₀.get? p.2=none
 look:∀p∈env.cells,env.cells.lookup p.1=some p.2
 lo:sysModules<W.b₀.objs.size
section
variable {h₀:HB} {env:Env} {names:List Str} {H:AH} {ρ:Ak} {s:Shared}
theorem A1.toks(R:A1 W h₀ env names H ρ s)(t:Nat):A1 W h₀ env names H ρ {s with toks:=t}:=⟨R.ns,R.cell,R.keep,R.objs,R.sep,R.gens,R.os,R.above,R.low⟩
theorem A1.move(R:A1 W h₀ env names H ρ s){h':Heap}(t:Nat)(k:∀b o,s.heap.get? b=some o->h'.get? b=some o):A1 W h₀ env names H ρ {s with heap:=h',toks:=t} where
 ns:=let ⟨m,a,b⟩:=R.ns;⟨m,a.keeps k,b⟩
 cell:=fun x a e=>let ⟨w,⟨o,ho,hd⟩,r⟩:=R.cell x a e;⟨w,⟨o,k _ _ ho,hd⟩,r⟩
 keep:=R.keep.more k
 objs:=fun a o e=>let ⟨ob,h1,h2⟩:=R.objs a o e;⟨ob,k _ _ h1,h2⟩
 sep:=R.sep
 gens:=R.gens
 os:=R.os
 above:=R.above
 low:=R.low
theorem Sk{h h₀:Heap}(k:∀b o,h₀.get? b=some o->h.get? b=some o):h₀.get? h.objs.size=none:=by
 cases q:h₀.get? h.objs.size with
 | none=>rfl
 | some o=>exact absurd (Heap.lt_size (k _ _ q)) (Nat.lt_irrefl _)
theorem A1.fresh(R:A1 W h₀ env names H ρ s):H s.heap.objs.size=none:=by
 cases q:H s.heap.objs.size with
 | none=>rfl
 | some o=>obtain⟨ob,h1,_⟩:=R.objs _ _ q;exact absurd (Heap.lt_size h1) (Nat.lt_irrefl _)
theorem Rf{a:Addr}{h:Heap}(ha:h.objs.size<=a):h.get? a=none:=by
 cases q:h.get? a with
 | none=>rfl
 | some o=>exact absurd (Heap.lt_size q) (Nat.not_lt.mpr ha)
theorem A1.up(R:A1 W h₀ env names H ρ s):W.b₀.objs.size<=s.heap.objs.size:=by
 obtain⟨m,h,_⟩:=R.ns;exact Nat.le_trans R.above (Nat.le_of_lt h.lt)
theorem A1.put(R:A1 W h₀ env names H ρ s){h':Heap}{a:Addr}{o:O}{ob:Obj}(t:Nat)(k:∀b o,s.heap.get? b=some o->h'.get? b=some o)
 (ho:h'.get? a=some ob) (r:OR W o ob) (hn:s.heap.get? a=none) (hb:∀es,o = .dict es->W.b₀.objs.size<=a):A1 W h₀ env names (upd H a o) ρ {s with heap:=h',toks:=t} where
 ns:=let ⟨m,x,b⟩:=R.ns;⟨m,x.keeps k,b⟩
 cell:=fun x a e=>let ⟨w,⟨o,ho,hd⟩,r⟩:=R.cell x a e;⟨w,⟨o,k _ _ ho,hd⟩,r⟩
 keep:=R.keep.more k
 objs:=fun b o' e=>by
  unfold upd at e
  split at e
  ·rename_i q;subst q;cases e;exact⟨ob,ho,r⟩
  ·obtain⟨ob',h1,h2⟩:=R.objs b o' e;exact⟨ob',k _ _ h1,h2⟩
 sep:=fun b o' e=>by
  unfold upd at e
  split at e
  ·rename_i q;subst q
   refine⟨?_,?_,?_⟩
   ·exact R.keep.none hn
   ·rintro rfl;obtain⟨m,⟨o,_,_,h,_⟩,_⟩:=R.ns;rw[h]at hn;cases hn
   ·intro x q;obtain⟨w,⟨o,h,_⟩,_⟩:=R.cell x b q;rw[h]at hn;cases hn
  ·exact R.sep b o' e
 gens:=R.gens
 os:=R.os
 above:=R.above
 low:=fun b o' e=>by
  unfold upd at e
  split at e
  ·rename_i q;subst q;exact hb _ (Option.some.inj e)
  ·exact R.low b o' e
theorem Cd(h:Heap):h.get? h.objs.size=none:=by
 cases q:h.get? h.objs.size with
 | none=>rfl
 | some o=>exact absurd (Heap.lt_size q) (Nat.lt_irrefl _)
theorem A1.change(R:A1 W h₀ env names H ρ s){h':Heap}{a:Addr}{o o':O}{ob:Obj}(t:Nat)(he:H a=some o')(k:Heap.SameBut a s.heap h')
 (ho:h'.get? a=some ob) (r:OR W o ob) (hl:∀es,o = .dict es->∃es',o' = .dict es'):A1 W h₀ env names (upd H a o) ρ {s with heap:=h',toks:=t}:=by
 refine Aa fun nY=>?_
 obtain⟨s1,s2,s3⟩:=R.sep a o' he
 refine nY ?_;clear nY
 refine⟨?_,?_,?_,?_,?_,R.gens,R.os,R.above,?_⟩
 ·obtain⟨m,x,b⟩:=R.ns;exact⟨m,x.sameBut k (Ne.symm s2),b⟩
 ·intro x c e
  refine Aa fun nY=>?_
  obtain⟨w,⟨oc,hc,hd⟩,r⟩:=R.cell x c e
  refine nY ?_;clear nY
  exact⟨w,⟨oc,(k.2 c (fun q=>s3 x (q▸e))).trans hc,hd⟩,r⟩
 ·intro b x e
  refine Aa fun nY=>?_
  obtain⟨x',e1,z⟩:=R.keep b x e
  refine nY ?_;clear nY
  exact⟨x',(k.2 b (fun q=>by rw[q,s1]at e;cases e)).trans e1,z⟩
 ·intro b x e
  unfold upd at e
  refine Aa fun nY=>?_
  split at e
  ·refine nY ?_;clear nY
   rename_i q;subst q;cases e;exact⟨ob,ho,r⟩
  ·refine nY ?_;clear nY
   rename_i q;obtain⟨ob',h1,h2⟩:=R.objs b x e;exact⟨ob',(k.2 b q).trans h1,h2⟩
 ·intro b x e
  unfold upd at e
  refine Aa fun nY=>?_
  split at e
  ·refine nY ?_;clear nY
   rename_i q;subst q;exact⟨s1,s2,s3⟩
  ·refine nY ?_;clear nY
   exact R.sep b x e
 ·intro b x e
  unfold upd at e
  refine Aa fun nY=>?_
  split at e
  ·refine nY ?_;clear nY
   rename_i q;subst q;obtain⟨es',rfl⟩:=hl _ (Option.some.inj e);exact R.low b _ he
  ·refine nY ?_;clear nY
   exact R.low b x e
theorem A1.keepB{c:Cx}(R:A1 W h₀ env names H ρ s)(Y:An W env c h₀):∀b o,W.b₀.get? b=some o->s.heap.get? b=some o:=fun b o e=>
 R.keep.exact (Y.base b o e) (.inr (by rw[e];nofun))
theorem A1.fsd{c:Cx}(R:A1 W h₀ env names H ρ s)(Y:An W env c h₀){L:Addr}(m:L∈h₀.fs):∃o,s.heap.get? L=some o/\∀vs,o.data≠ .fields vs:=by
 cases q:h₀.get? L with
 | none=>exact absurd q (Y.fsok L m)
 | some o=>
   obtain⟨o',e1,z⟩:=R.keep L o q
   refine⟨o',e1,?_⟩
   rcases z with z | ⟨_,sl,z⟩<;>rw[z]<;>exact(Y.fsd L m).2 o q
theorem A1.script{c:Cx}(Y:An W env c h₀)(R:A1 W h₀ env names H ρ s):(Q9 fun items=>E6 (s.heap.IsList W.sa items.toArray) (IntsAre items W.sn) (items.length<=Bq)):=by
 refine Aa fun nY=>?_
 obtain⟨items,⟨o,h1,h2⟩,h3,h4⟩:=W.hsc
 refine nY ?_;clear nY
 exact⟨items,⟨o,R.keepB Y _ _ h1,h2⟩,h3,h4⟩
end
end Mine.Internal
namespace Mine.Internal
open PySem PySem.W PyProof.Rows
variable {W:Wd} {A:Around} {h₀:HB} {env:Env} {c:Cx} {names:List Str} {H:AH} {ρ:Ak} {s:Shared} {E:Value->Shared->Prop} {n:Nat} {Er:EP}
noncomputable def Bv(W:Wd)(h₀:HB)(env:Env)(names:List Str)(ρ:Ak)(Q:Ah)(v:Value)(s':Shared):Prop:=(Ii fun a H'=>E6 (VR W a v) (A1 W h₀ env names H' ρ s') (Q a H'))
noncomputable def Stk(A:Around)(fs:List Addr):Prop:=∃l,A.frames=some l/\∀x∈l,x.scope.kind≠ .module/\∃L,x.frame=some L/\L∈fs
theorem Stk.more{A:Around}{fs fs':List Addr}(x:Stk A fs)(h:∀L∈fs,L∈fs'):Stk A fs':=let ⟨l,e,z⟩:=x;⟨l,e,fun y m=>let ⟨k,L,f,g⟩:=z y m;⟨k,L,f,h L g⟩⟩
structure Rg(A:Around)(c:Cx)(h₀:HB)(env:Env)(E:EP)(n:Nat):Prop where
 handled:c.hnd=false->A.handled=none
 room:A.depth+4*n+4<recursionLimit
 units:A.units+30*n+60<cLine
 stk:Stk A (env.locals::h₀.fs)
 top:c.cmp=false->∃outer,A.frames=some (env::outer)/\env.frame=some env.locals
 noE:c.cmp=true->∀v H,¬E v H
noncomputable def Ih(h₀:HB)(env:Env)(H:AH)(hs:List Addr):Prop:=∀b∈hs,H b=none/\h₀.get? b=none/\b≠env.locals/\∀p∈env.cells,p.2≠b
noncomputable def EM(_:Wd)(_:HB)(_:Env)(_:List Str)(_:Ak)(_:EP)(_:Value)(_:Shared):Prop:=False
theorem EM.no{P:Prop}{v:Value}{s:Shared}(x:EM W h₀ env names ρ Er v s)(h:∀v H,¬Er v H):P:=False.elim x
theorem EM.ef{P:Prop}{v:Value}{s:Shared}(x:EM W h₀ env names ρ EF v s):P:=False.elim x
noncomputable def Hh(b₀:Heap)(L:Addr)(h:Heap):List (Addr×Obj):=(List.range h.objs.size).filterMap fun a=>if a=L\/(b₀.get? a).isSome=true then none else(h.get? a).map fun o=>(a,o)
/-! what an operation wants,told apart once -/
theorem Bh{P:Nat->Prop}{g:V->Value->Prop}{v:V}{u:Value}(h:VR W v u)(q:A2 v P)(k:∀a,P a->g (.ref a) (.ref a)):g v u:=by
 induction h with
 | ref a=>exact k a q
 | _=>exact False.elim q
theorem A3{P:Int->Prop}{g:V->Value->Prop}{v:V}{u:Value}(h:VR W v u)(q:Ax v P)(k:∀i t,P i->g (.int i) (.int i t)):g v u:=by
 induction h with
 | int i t=>exact k i t q
 | _=>exact False.elim q
theorem Zz{P:Int->Prop}{g:Prop}{v:V}(q:Ax v P)(k:∀i,P i->g):g:=by
 cases v<;>first|exact k _ q|exact False.elim q
theorem Ahi{P:Prop}{g:List V->List Value->Prop}{vs:List V}{us:List Value}(h:Dj W vs us)(q:U3 vs P)(k:P->g [] []):g vs us:=by
 cases h with
 | nil=>exact k q
 | cons=>exact False.elim q
theorem L9{P:V->Prop}{g:List V->List Value->Prop}{vs:List V}{us:List Value}(h:Dj W vs us)(q:Na vs P)(k:∀v u,VR W v u->P v->g [v] [u]):g vs us:=by
 cases h with
 | nil=>exact False.elim q
 | cons h t=>cases t with
   | nil=>exact k _ _ h q
   | cons=>exact False.elim q
theorem Z0{P:V->V->Prop}{g:List V->List Value->Prop}{vs:List V}{us:List Value}(h:Dj W vs us)(q:Ti vs P)(k:∀v w u x,VR W v u->VR W w x->P v w->g [v,w] [u,x]):g vs us:=by
 cases h with
 | nil=>exact False.elim q
 | cons h t=>cases t with
   | nil=>exact False.elim q
   | cons h' t=>cases t with
     | nil=>exact k _ _ _ _ h h' q
     | cons=>exact False.elim q
theorem Fb{o:Option O}{P:List V->Prop}{g:Prop}(q:F8 o P)(k:∀xs,o=some (.list xs)->P xs->g):g:=by
 cases o with
 | none=>exact False.elim q
 | some x=>cases x<;>first|exact k _ rfl q|exact False.elim q
theorem Ahj{o:Option O}{P:List (Int×V)->Prop}{g:Prop}(q:U2 o P)(k:∀xs,o=some (.dict xs)->P xs->g):g:=by
 cases o with
 | none=>exact False.elim q
 | some x=>cases x<;>first|exact k _ rfl q|exact False.elim q
theorem Tx{o:Option O}{P:Kb->Nat->Prop}{g:Prop}(q:Ow o P)(k:∀c d,o=some (.inst c d)->P c d->g):g:=by
 cases o with
 | none=>exact False.elim q
 | some x=>cases x<;>first|exact k _ _ rfl q|exact False.elim q
theorem Acp{o:Option O}{P:Nat->Prop}{g:Prop}(q:Wn o P)(k:∀d,o=some (.inst .web d)->P d->g):g:=by
 cases o with
 | none=>exact False.elim q
 | some x=>cases x with
   | inst c d=>cases c<;>first|exact k _ rfl q|exact False.elim q
   | _=>exact False.elim q
theorem Ve{o:Option O}{P:List (Ct×V)->Prop}{g:Prop}(q:Th o P)(k:∀fs,o=some (.ns fs)->P fs->g):g:=by
 cases o with
 | none=>exact False.elim q
 | some x=>cases x<;>first|exact k _ rfl q|exact False.elim q
theorem Cv{α:Type}{o:Option α}{P:α->Prop}{g:Prop}(q:Ey o P)(k:∀x,o=some x->P x->g):g:=by
 cases o with
 | none=>exact False.elim q
 | some x=>exact k x rfl q
theorem Hi{b₀:Heap}{L:Addr}{h:Heap}{a:Addr}{o:Obj}:(a,o)∈Hh b₀ L h↔a≠L/\b₀.get? a=none/\h.get? a=some o:=by
 unfold Hh
 rw[List.mem_filterMap]
 constructor
 ·rintro hP1
  refine Aa fun nY=>?_
  obtain⟨b,hb,e⟩:=hP1
  split at e
  ·cases e
  ·rename_i q
   obtain⟨o',h1,h2⟩:=Option.map_eq_some_iff.mp e
   cases h2
   simp only[not_or,Bool.not_eq_true,Option.isSome_eq_false_iff,Option.isNone_iff_eq_none]at q
   refine nY ?_;clear nY
   exact⟨q.1,q.2,h1⟩
 ·rintro hP2
  refine Aa fun nY=>?_
  obtain⟨h1,h2,h3⟩:=hP2
  refine nY ?_;clear nY
  refine⟨a,List.mem_range.mpr (Heap.lt_size h3),?_⟩
  rw[if_neg (by simp[h1,h2]),h3];rfl
theorem A1.kitF(R:A1 W h₀ env names H ρ s)(Y:An W env c h₀):∃m,Fr W.b₀ env.locals s.heap m:=
 let ⟨m,hm,_⟩:=R.ns;⟨m,hm,R.keepB Y,R.above⟩
theorem X3:News W.b₀ env.locals s.heap (Hh W.b₀ env.locals s.heap):=fun p hp=>by
 obtain⟨a,o⟩:=p
 obtain⟨h1,h2,h3⟩:=Hi.mp hp
 exact⟨h3,h1,h2⟩
theorem Sl(R:A1 W h₀ env names H ρ s)(Y:An W env c h₀){m:Str->Option Value}{h':Heap}{news':List (Addr×Obj)}(F':Fr W.b₀ env.locals h' m)(N':News W.b₀ env.locals h' news')
 (sub:∀p∈Hh W.b₀ env.locals s.heap,p∈news'):∀b o,b≠env.locals->s.heap.get? b=some o->h'.get? b=some o:=fun b o hb e=>by
 cases q:W.b₀.get? b with
 | some o'=>have e1:=R.keepB Y b o' q;rw[e]at e1;cases e1;exact F'.keep b _ q
 | none=>exact(N' (b,o) (sub _ (Hi.mpr ⟨hb,q,e⟩))).1
theorem A1.moveL(R:A1 W h₀ env names H ρ s)(Y:An W env c h₀){h':Heap}(t:Nat){m:Str->Option Value}(hm:s.heap.Ns env.locals m)(hm':h'.Ns env.locals m)
 (k:∀b o,b≠env.locals->s.heap.get? b=some o->h'.get? b=some o):A1 W h₀ env names H ρ {s with heap:=h',toks:=t} where
 ns:=by
  refine Aa fun nY=>?_
  obtain⟨m₁,h1,h2⟩:=R.ns
  refine nY ?_;clear nY
  refine⟨m,hm',fun x i v e1 e2 e3=>?_⟩
  refine Aa fun nY=>?_
  obtain⟨c,h3,h4⟩:=h2 x i v e1 e2 e3
  refine nY ?_;clear nY
  refine⟨c,?_,h4⟩
  refine Aa fun nY=>?_
  obtain⟨o,es,ep,a1,a2,a3,a4⟩:=h1
  obtain⟨o',es',ep',b1,b2,b3,b4⟩:=hm
  rw[a1]at b1;cases b1
  rw[a2]at b2;cases b2
  refine nY ?_;clear nY
  rw[<-b4,a4];exact h3
 cell:=fun x a e=>let ⟨w,⟨o,ho,hd⟩,r⟩:=R.cell x a e;⟨w,⟨o,k _ _ (Y.apart x a e) ho,hd⟩,r⟩
 keep:=fun b o e=>let ⟨o',e1,z⟩:=R.keep b o e;⟨o',k _ _ (fun q=>by rw[q,Y.new]at e;cases e) e1,z⟩
 objs:=fun a o e=>let ⟨ob,h1,h2⟩:=R.objs a o e;⟨ob,k _ _ (R.sep a o e).2.1 h1,h2⟩
 sep:=R.sep
 gens:=R.gens
 os:=R.os
 above:=R.above
 low:=R.low
theorem A1.add(R:A1 W h₀ env names H ρ s){a:Addr}{o:O}{ob:Obj}(ho:s.heap.get? a=some ob)(r:OR W o ob)(hn:H a=none)(hh:h₀.get? a=none)(hl:a≠env.locals)(hc:∀x,env.cells.lookup x≠some a)(hb:W.b₀.objs.size<=a) :
 A1 W h₀ env names (upd H a o) ρ s where
 ns:=R.ns
 cell:=R.cell
 keep:=R.keep
 objs:=fun b o' e=>by
  unfold upd at e
  split at e
  ·rename_i q;subst q;cases e;exact⟨ob,ho,r⟩
  ·exact R.objs b o' e
 sep:=fun b o' e=>by
  unfold upd at e
  split at e
  ·rename_i q;subst q;exact⟨hh,hl,hc⟩
  ·exact R.sep b o' e
 gens:=R.gens
 os:=R.os
 above:=R.above
 low:=fun b o' e=>by
  unfold upd at e
  split at e
  ·rename_i q;subst q;exact hb
  ·exact R.low b o' e
theorem A1.new_sep(R:A1 W h₀ env names H ρ s){a:Addr}(hn:s.heap.get? a=none)(hb:W.b₀.objs.size<=a):H a=none/\h₀.get? a=none/\a≠env.locals/\(∀x,env.cells.lookup x≠some a)/\W.b₀.objs.size<=a:=by
 refine⟨?_,?_,?_,?_,hb⟩
 ·cases q:H a with
  | none=>rfl
  | some o=>obtain⟨ob,h1,_⟩:=R.objs _ _ q;rw[hn]at h1;cases h1
 ·exact R.keep.none hn
 ·rintro rfl;obtain⟨m,⟨o,_,_,h,_⟩,_⟩:=R.ns;rw[h]at hn;cases hn
 ·intro x q;obtain⟨w,⟨o,h,_⟩,_⟩:=R.cell x a q;rw[h]at hn;cases hn
theorem Oj(R:A1 W h₀ env names H ρ s)(Y:An W env c h₀){m:Str->Option Value}{h':Heap}{a:Addr}{ob:Obj}{o:O}{t:Nat}(F:Fr W.b₀ env.locals s.heap m)(F':Fr W.b₀ env.locals h' m)
 (N':News W.b₀ env.locals h' ((a,ob)::Hh W.b₀ env.locals s.heap)) (hn:s.heap.objs.size<=a) (r:OR W o ob):H a=none/\A1 W h₀ env names (upd H a o) ρ {s with heap:=h',toks:=t}:=by
 refine Aa fun nY=>?_
 obtain⟨q1,q2,q3,q4,q5⟩:=R.new_sep (Rf hn) (Nat.le_trans R.up hn)
 have R':=R.moveL Y t F.ns F'.ns (Sl R Y F' N' fun p hp=> .tail _ hp)
 refine nY ?_;clear nY
 exact⟨q1,R'.add (N' (a,ob) (.head _)).1 r q1 q2 q3 q4 q5⟩
theorem Pd(R:A1 W h₀ env names H ρ s)(Y:An W env c h₀){m:Str->Option Value}{h':Heap}{t:Nat}(F:Fr W.b₀ env.locals s.heap m)(F':Fr W.b₀ env.locals h' m)
 (N':News W.b₀ env.locals h' (Hh W.b₀ env.locals s.heap)):A1 W h₀ env names H ρ {s with heap:=h',toks:=t}:=R.moveL Y t F.ns F'.ns (Sl R Y F' N' fun _ hp=>hp)
theorem C0:Bq<=sizeLine:=by decide
theorem E4{xs:List V}{items:List Value}(h:Dj W xs items)(hz:xs.length<=Bq){n:Nat}:OR W (.list xs) {cls:= .type "list",data:= .seq items.toArray n}:= .list h hz
theorem A1.push(R:A1 W h₀ env names H ρ s){o:O}{ob:Obj}(r:OR W o ob)(hf:ob.isFreed=false)(t:Nat):A1 W h₀ env names (upd H s.heap.objs.size o) ρ {s with heap:=s.heap.push ob,toks:=t}:=
 R.put t (fun _ _ e=>Heap.get?_push_of_some _ e) (Heap.get?_push_size _ hf) r (Cd _) fun _ _=>R.up
theorem A1.pushHid(R:A1 W h₀ env names H ρ s)(ob:Obj)(t:Nat):A1 W h₀ env names H ρ {s with heap:=s.heap.push ob,toks:=t}:=R.move t fun _ _ e=>Heap.get?_push_of_some _ e
theorem A1.isList(R:A1 W h₀ env names H ρ s){a:Addr}{xs:List V}(e:H a=some (.list xs)):(Q9 fun items=>E6 (s.heap.IsList a items.toArray) (Dj W xs items) (xs.length<=Bq)):=by
 refine Aa fun nY=>?_
 obtain⟨ob,h1,h2⟩:=R.objs a _ e
 cases h2 with
 | list r z=>(refine nY ?_;clear nY;exact⟨_,⟨_,h1,rfl,_,rfl⟩,r,z⟩)
theorem A1.isTup(R:A1 W h₀ env names H ρ s){a:Addr}{xs:List V}(e:H a=some (.tuple xs)):(Q9 fun items=>E6 (IsTup s.heap a items.toArray) (Dj W xs items) (xs.length<=Bq)):=by
 refine Aa fun nY=>?_
 obtain⟨ob,h1,h2⟩:=R.objs a _ e
 cases h2 with
 | tuple r z=>(refine nY ?_;clear nY;exact⟨_,⟨_,h1,rfl,_,rfl⟩,r,z⟩)
theorem A1.lst(R:A1 W h₀ env names H ρ s){a:Addr}{xs:List V}(e:H a=some (.list xs)):(Ii fun items n=>E6 (s.heap.get? a=some {cls:= .type "list",data:= .seq items.toArray n}) (Dj W xs items) (xs.length<=Bq)):=by
 refine Aa fun nY=>?_
 obtain⟨ob,h1,h2⟩:=R.objs a _ e
 cases h2 with
 | list r z=>(refine nY ?_;clear nY;exact⟨_,_,h1,r,z⟩)
theorem A1.changeL(R:A1 W h₀ env names H ρ s){a:Addr}{xs xs':List V}{items:List Value}{n:Nat}(e:H a=some (.list xs))(ho:s.heap.get? a=some {cls:= .type "list",data:= .seq items.toArray n})
 (f:Array Value->Array Value) {items':List Value} (hf:f items.toArray=items'.toArray) (r:Dj W xs' items') (z:xs'.length<=Bq) (t:Nat) :
 A1 W h₀ env names (upd H a (.list xs')) ρ {s with heap:=s.heap.update a (Obj.mapSeq f),toks:=t}:=by
 refine R.change t e (Heap.SameBut.update ..) (Heap.get?_update_self _ ho rfl) ?_ (fun _ q=>by cases q)
 simp only[Obj.mapSeq,hf]
 exact .list r z
theorem A1.isDict(R:A1 W h₀ env names H ρ s){a:Addr}{es:List (Int×V)}(e:H a=some (.dict es)):(Q9 fun kvs=>E6 (s.heap.DictOf (intKind W.prog W.w) a kvs) (Uz W es kvs) (es.length<=Bq)):=by
 refine Aa fun nY=>?_
 obtain⟨ob,h1,h2⟩:=R.objs a _ e
 cases h2 with
 | dict r z d=>(refine nY ?_;clear nY;obtain⟨es,ep,h3⟩:=d;exact⟨_,⟨ob,es,ep,h1,h3⟩,r,z⟩)
theorem Gy{xs:List V}{items:List Value}{ns:List Int}(h:Dj W xs items)(e:ints? xs=some ns):IntsAre items ns:=by
 induction h generalizing ns with
 | nil=>cases e;exact .nil
 | cons h _ ih=>
   induction h with
   | int i u=>
     obtain⟨l,h1,h2⟩:=Option.map_eq_some_iff.mp (show (ints? _).map (i :: ·)=some ns from e)
     subst h2
     exact .cons i u (ih h1)
   | _=>cases e
theorem Gz{items:List Value}{ns:List Int}(h:IntsAre items ns):Dj W (ns.map V.int) items:=by
 induction h with
 | nil=>exact .nil
 | cons i u _ ih=>exact .cons (.int i u) ih
theorem ints?_length{xs:List V}{ns:List Int}(e:ints? xs=some ns):ns.length=xs.length:=by
 induction xs generalizing ns with
 | nil=>cases e;rfl
 | cons v r ih=>
   cases v<;>first|(cases e;done)|skip
   obtain⟨l,h1,h2⟩:=Option.map_eq_some_iff.mp (show (ints? r).map _=some ns from e)
   subst h2
   exact congrArg Nat.succ (ih h1)
theorem E5(x:Int):∀l:List Int,(N8 x l).Perm (x::l)
 | []=> .refl _
 | y::r=>by
   unfold N8
   split
   ·exact .refl _
   ·exact((E5 x r).cons y).trans (.swap x y r)
theorem Cj:∀l:List Int,(Bd l).Perm l
 | []=> .refl _
 | x::r=>(E5 x (Bd r)).trans ((Cj r).cons x)
theorem Fy(x:Int):∀ {l:List Int},l.Pairwise (· <= ·)->(N8 x l).Pairwise (· <= ·)
 | [],_=>by simp[N8]
 | y::r,h=>by
   unfold N8
   obtain⟨h1,h2⟩:=List.pairwise_cons.mp h
   split
   ·rename_i q
    refine List.pairwise_cons.mpr ⟨fun z hz=>?_,h⟩
    rcases List.mem_cons.mp hz with rfl|hz
    ·exact q
    ·exact Int.le_trans q (h1 z hz)
   ·rename_i q
    refine List.pairwise_cons.mpr ⟨fun z hz=>?_,Fy x h2⟩
    rcases List.mem_cons.mp ((E5 x r).mem_iff.mp hz)with rfl|hz
    ·exact Aer q
    ·exact h1 z hz
theorem D1:∀l:List Int,(Bd l).Pairwise (· <= ·)
 | []=>by simp[Bd]
 | x::r=>Fy x (D1 r)
theorem K2{a b:List Int}(p:a.Perm b)(ha:a.Pairwise (· <= ·))(hb:b.Pairwise (· <= ·)):a=b:=
 p.eq_of_pairwise (fun _ _ _ _ h1 h2=>Int.le_antisymm h1 h2) ha hb
end Mine.Internal
namespace Mine.Internal
open PySem PySem.W PyProof.Rows
variable {W:Wd} {A:Around} {h₀:HB} {env:Env} {c:Cx} {names:List Str} {H:AH} {ρ:Ak} {s:Shared} {E:Value->Shared->Prop} {n:Nat} {Q:Ah} {Er:EP}
theorem Bv.mk{a:V}{v:Value}(h:VR W a v)(R:A1 W h₀ env names H ρ s)(q:Q a H):Bv W h₀ env names ρ Q v s:=⟨a,H,h,R,q⟩
theorem Vf{x y:Int}(h:y.natAbs<=10 ^ 30):Builtin.divisionGoesByPylong x y=false:=by
 refine PyProof.noPylong_of_log2 (Nat.lt_of_le_of_lt (m:=100) ?_ (by decide))
 by_cases h0:y.natAbs=0
 ·rw[h0];decide
 ·exact Nat.le_of_lt ((Nat.log2_lt h0).mpr (Nat.lt_of_le_of_lt h (by decide)))
theorem Z1{k:Int}(h:k.natAbs<2 ^ 64):Builtin.Int.intBits k<=64:=intBits_le_64 (Ajg h) (Ajh h)
theorem Tz{α:Type}(n:Nat)(xs:List α):(List.replicate n xs).flatten.length=n*xs.length:=by simp
theorem Acq{l:Addr}{items:List Value}{k:Int}{u:Tok}{Q:Value->Shared->Prop}(h1:s.heap.IsList l items.toArray)(k0:0<=k)(k1:k<=1000)(k2:items.length*k.toNat<=Bq)
 (h:Q (.ref s.heap.objs.size) {s with heap:=s.heap.push {cls:= .type "list",data:= .seq (List.replicate k.toNat items).flatten.toArray}}) :
 wpAny W.M A (binaryOp .Mult (.ref l) (.int k u)) Q E s:=by
 refine Aa fun nY=>?_
 obtain⟨⟨cls,d,data,sl⟩,ho,hcl,kk,hd⟩:=id h1
 simp only at hcl hd
 subst hcl hd
 have hz:items.length*k.toNat<=1048576:=k2
 refine nY ?_;clear nY
 have hz':items.toArray.size*k.toNat<=1048576:=by rw[List.size_toArray];exact k2
 refine wpAny_binaryOp_repeat_ref (T:= "list") (U:= "int") (by decide) ⟨_,ho,rfl⟩ (fun s'=>typeIs_int s' k u) noFill_list_mul F.fills_int_mul F.slot_int_rmul repeat_list F.slot_int_index.lookup
  (call_meets F.slot_int_rmul (typeIs_int s k u) F.entry_int_rmul (F.args_int_rmul_2 _ _) (lm_int_rmul_list_any k u l items.toArray kk d sl)
    ⟨ho,rfl,⟨_,ho,rfl⟩,call_meets F.slot_list_mul ⟨_,ho,rfl⟩ F.entry_list_mul (F.args_list_mul_2 _ _)
     (lm_list_mul_any l items.toArray kk d sl k u (by simp[Builtin.List.listFitsIndex];exact(⟨Int.le_trans (by decide) k0,Int.lt_of_le_of_lt k1 (by decide)⟩)) (Nat.not_lt.mpr (Nat.le_trans hz' (by decide))) (by simp[Builtin.List.listTooLong,sizeLine];exact(Nat.le_trans hz (by decide))))
     ⟨ho,?_⟩⟩)
 rw[listMul_foldl_if]
 exact h
theorem T0(Y:An W env c h₀)(R:A1 W h₀ env names H ρ s){op:Operator}{a b:V}{u v:Value}(ha:VR W a u)(hb:VR W b v)(q:Et op a b H Q) :
 wpAny W.M A (binaryOp op u v) (Bv W h₀ env names ρ Q) E s:=by
 refine Aa fun nY=>?_
 obtain⟨m,F⟩:=R.kitF Y
 have N:News W.b₀ env.locals s.heap _:=X3
 cases op<;>try exact q.elim
 case Add=>
  replace q:Wo a b H Q:=q
  refine nY ?_;clear nY
  induction ha with
  | int i t=>apply A3 hb q;intro j t' q;exact add_int (Bv.mk (.int _ _) (R.toks _) q)
  | ref a=>
    apply Bh hb q;intro b q;refine Fb q fun xs e1 q=>?_;refine Fb q fun ys e2 q=>?_
    refine Aa fun nY=>?_
    obtain⟨l1,h1,r1,z1⟩:=R.isList e1
    obtain⟨l2,h2,r2,z2⟩:=R.isList e2
    refine nY ?_;clear nY
    have hz:l1.toArray.size+l2.toArray.size<=sizeLine:=by simp[<-r1.length,<-r2.length];exact Nat.le_trans q.1 C0
    refine add_arrays (hsz:=hz) F N h1 h2 fun h' F' N'=>?_
    obtain⟨e,R'⟩:=Oj (t:=s.toks) R Y F F' N' (Nat.le_refl _) (E4 (r1.append r2) (by simpa using q.1))
    exact Bv.mk (.ref _) R' (q.2 _ e)
  | _=>exact False.elim q
 case Sub=>
  replace q:Zl a b H Q:=q
  refine nY ?_;clear nY
  apply A3 ha q;intro i t q;apply A3 hb q;intro j t' q
  exact sub_int (Bv.mk (.int _ _) (R.toks _) q)
 case Mult=>
  replace q:Wp a b H Q:=q
  refine nY ?_;clear nY
  apply A3 hb q;intro k t q
  induction ha with
  | int i t=>exact mul_int (Bv.mk (.int _ _) (R.toks _) q.2) (q.1.elim (fun h=>IntMulOk.of_left (Z1 h)) fun h=>IntMulOk.of_right (Z1 h))
  | ref a=>
    refine Fb q fun xs e1 q=>?_
    refine Aa fun nY=>?_
    obtain⟨l1,h1,r1,z1⟩:=R.isList e1
    obtain⟨⟨k0,k1,k2⟩,q⟩:=q
    refine nY ?_;clear nY
    refine Acq h1 k0 k1 (by rw[<-r1.length];exact k2) ?_
    have R':=R.push (E4 (r1.replicate _) (by rw[Tz,Nat.mul_comm];exact k2) (n:=0)) rfl s.toks
    exact Bv.mk (.ref _) R' (q _ R.fresh)
  | _=>exact False.elim q
 case FloorDiv=>
  replace q:Zm a b H Q:=q
  refine nY ?_;clear nY
  apply A3 ha q;intro i t q;apply A3 hb q;intro j t' q
  exact floordiv_int q.1.1 (Bv.mk (.int _ _) (R.toks _) q.2) (.inl (Vf q.1.2))
 case Mod=>
  replace q:Zn a b H Q:=q
  refine nY ?_;clear nY
  apply A3 ha q;intro i t q;apply A3 hb q;intro j t' q
  exact mod_int' q.1.1 (Bv.mk (.int _ _) (R.toks _) q.2)
 case Pow=>
  replace q:Aec a b H Q:=q
  refine nY ?_;clear nY
  apply A3 ha q;intro i t q;apply A3 hb q;intro j t' q
  exact pow_int_small q.1.1 (by have:=q.1.2.1;exact(Int.le_trans this (by decide))) q.1.2.2 (Bv.mk (.int _ _) (R.toks _) q.2)
open PySem.SeqAt in
theorem Mw{a b:V}{u v:Value}{r:Bool}(ha:VR W a u)(hb:VR W b v)(e:Zh a b=some r):EqAt A s u v r/\RcAt A s u v r/\RcNeAt A s u v (!r):=by
 refine Aa fun no=>?_
 induction ha<;>induction hb<;>first|exact @nn _ _ _ e|(obtain rfl:=Option.some.inj e;refine no ?_;clear no)
 ·exact⟨.same _,.none_none,.none_none⟩
 ·exact⟨.none_bool _,.none_bool _,.none_bool _⟩
 ·exact⟨.none_int _ _,.none_int _ _,.none_int _ _⟩
 ·exact⟨.bool_none _,.bool_none _,.bool_none _⟩
 ·exact⟨.bool_bool _ _,.bool_bool _ _,.bool_bool _ _⟩
 ·exact⟨.int_none _ _,.int_none _ _,.int_none _ _⟩
 ·rename_i i t j t'
  have:decide (i=j)=(i==j):=by rw[Bool.eq_iff_iff];simp
  rw[this];exact⟨.int_int _ _ _ _,.int_int _ _ _ _,.int_int _ _ _ _⟩
 ·rename_i x t y t'
  have:decide (x=y)=(x==y):=by rw[Bool.eq_iff_iff];simp
  rw[this];exact⟨.str_str _ _ _ _,.str_str _ _ _ _,.str_str _ _ _ _⟩
theorem T1{a:V}{r:Bool}(e:Zh a a=some r):r=true:=by
 cases a<;>first|exact @nn _ _ _ e|(obtain rfl:=Option.some.inj e)<;>first|rfl|exact decide_eq_true rfl|exact beq_self_eq_true _
theorem Rh{l:List (Option Bool)}{r:Bool}(h:F9 l=some r):∃e:Nat->Bool,(∀j x,l[j]? = some x->x=some (e j))/\(List.range l.length).all e=r:=by
 induction l generalizing r with
 | nil=>simp only[F9,Option.some.injEq]at h;subst h;exact⟨fun _=>true,by simp,by simp⟩
 | cons x t ih=>
   refine Aa fun nY=>?_
   cases x with
   | none=>simp[F9]at h
   | some b=>
     simp only[F9,Option.map_eq_some_iff]at h
     obtain⟨r',h1,h2⟩:=h
     obtain⟨e,h3,h4⟩:=ih h1
     refine nY ?_;clear nY
     refine⟨fun j=>match j with|0=>b|j+1=>e j,fun j y hj=>?_,?_⟩
     ·refine Aa fun nY=>?_
      cases j with
      | zero=>(refine nY ?_;clear nY;simp at hj;exact hj.symm)
      | succ j=>(refine nY ?_;clear nY;simp at hj;exact h3 j y hj)
     ·rw[List.length_cons,List.range_succ_eq_map,List.all_cons,List.all_map]
      subst h2;subst h4;rfl
theorem Mx{f:V->V->Option Bool}(hf:∀a r,f a a=some r->r=true):∀ {xs:List V} {r:Bool},F9 (List.zipWith f xs xs)=some r->r=true
 | [],r,h=>by simp[F9]at h;exact h
 | x::t,r,h=>by
   simp only[List.zipWith_cons_cons]at h
   cases q:f x x with
   | none=>rw[q]at h;simp[F9]at h
   | some b=>
     rw[q]at h
     simp only[F9,Option.map_eq_some_iff]at h
     obtain⟨r',h1,h2⟩:=h
     rw[hf x b q,Mx hf h1]at h2
     exact h2.symm
theorem T2{P:Prop}(n:Nat)(a b:V)(k1:∀x y,a = .ref x->b = .ref y->P)(k2:∀x,a = .ref x->b = .none->P)(k3:∀x,a = .none->b = .ref x->P)(k4:K9 (n+1) H a b=Zh a b->P):P:=by
 cases a<;>first|exact k4 rfl|(cases b<;>first|exact k4 rfl|exact k1 _ _ rfl rfl|exact k2 _ rfl rfl|exact k3 _ rfl rfl)
theorem Z2{P:Prop}{n:Nat}{x y:Addr}{r:Bool}(e:K9 (n+1) H (.ref x) (.ref y)=some r)
 (k1:∀xs ys,H x=some (.list xs)->H y=some (.list ys)->(if xs.length=ys.length then F9 (List.zipWith (K9 n H) xs ys)else some false)=some r->P)
 (k2:∀xs ys,H x=some (.tuple xs)->H y=some (.tuple ys)->(if xs.length=ys.length then F9 (List.zipWith (K9 n H) xs ys)else none)=some r->P):P:=by
 replace e:(match H x,H y with
  | some (.list xs),some (.list ys)=>if xs.length=ys.length then F9 (List.zipWith (K9 n H) xs ys)else some false
  | some (.tuple xs),some (.tuple ys)=>if xs.length=ys.length then F9 (List.zipWith (K9 n H) xs ys)else none
  | _,_=>none)=some r:=e
 generalize H x=ox at *
 generalize H y=oy at *
 cases ox with
 | none=>cases e
 | some o=>
   cases o<;>first|(cases e;done)|skip
   all_goals
    cases oy with
    | none=>cases e
    | some o'=>cases o'<;>first|(cases e;done)|exact k1 _ _ rfl rfl e|exact k2 _ _ rfl rfl e
theorem Z3{P:Prop}{n:Nat}{x:Addr}{r:Bool}(e:K9 (n+1) H (.ref x) .none=some r\/K9 (n+1) H .none (.ref x)=some r)(k1:∀xs,r=false->H x=some (.list xs)->P)(k2:∀xs,r=false->H x=some (.tuple xs)->P):P:=by
 replace e:(match H x with|some (.list _)=>some false|some (.tuple _)=>some false|_=>none)=some r:=e.elim (fun e=>e) fun e=>e
 generalize H x=ox at *
 cases ox with
 | none=>cases e
 | some o=>cases o<;>first|(cases e;done)|(cases e;first|exact k1 _ rfl rfl|exact k2 _ rfl rfl)
theorem Z4(n:Nat):∀ {a:V} {r:Bool},K9 n H a a=some r->r=true:=by
 induction n with
 | zero=>exact fun e=>T1 e
 | succ n ih=>
   intro a r e
   refine T2 (H:=H) n a a (fun x y q _=>?_) (fun x q q'=>?_) (fun x q q'=>?_) fun q=>?_
   ·subst q
    refine Z2 e (fun xs ys h1 h2 e=>?_) fun xs ys h1 h2 e=>?_
    ·rw[h1]at h2;cases h2
     rw[if_pos rfl]at e;exact Mx (fun a r h=>ih h) e
    ·rw[h1]at h2;cases h2
     rw[if_pos rfl]at e;exact Mx (fun a r h=>ih h) e
   ·rw[q]at q';cases q'
   ·rw[q]at q';cases q'
   ·rw[q]at e;exact T1 e
open PySem.SeqAt in
theorem Kc{n:Nat}{A:Around}{xs ys:List V}{l1 l2:List Value}{f:Nat->Bool}(ih:∀ {a b:V} {u v:Value} {r:Bool},VR W a u->VR W b v->K9 n H a b=some r->EqAt A s u v r)(r1:Dj W xs l1)(r2:Dj W ys l2)
 (f1:∀j x',(List.zipWith (K9 n H) xs ys)[j]? = some x'->x'=some (f j)) (j:Nat) (j1:j<l1.toArray.size) (j2:j<l2.toArray.size):EqAt A s l1.toArray[j] l2.toArray[j] (f j):=by
 refine Aa fun nY=>?_
 obtain⟨x',x1,x2⟩:=r1.get' j (c:=l1.toArray[j]) (by simp)
 obtain⟨y',y1,y2⟩:=r2.get' j (c:=l2.toArray[j]) (by simp)
 refine nY ?_;clear nY
 exact ih x2 y2 (f1 j (K9 n H x' y') (by rw[List.getElem?_zipWith,x1,y1]))
open PySem.SeqAt in
theorem Ri(R:A1 W h₀ env names H ρ s)(n:Nat):∀(A:Around) {a b:V} {u v:Value} {r:Bool},A.units+n<cLine->VR W a u->VR W b v->K9 n H a b=some r->
 EqAt A s u v r/\RcAt A s u v r/\RcNeAt A s u v (!r):=by
 induction n with
 | zero=>exact fun A a b u v r _ ha hb e=>Mw ha hb e
 | succ n ih=>
   intro A a b u v r hu ha hb e
   have hA:A.units<cLine:=(Nat.lt_of_le_of_lt (Nat.le_add_right _ _) hu)
   have hA1:A.in1.units+n<cLine:=by show A.units+1+n<cLine;exact Nat.lt_of_le_of_lt (Nat.le_of_eq (Nat.add_right_comm _ 1 _)) hu
   have it:=fun {a b:V} {u v:Value} {r:Bool} (ha:VR W a u) (hb:VR W b v) (e:K9 n H a b=some r)=>(ih A.in1 hA1 ha hb e).1
   refine T2 (H:=H) n a b (fun x y p q=>?_) (fun x p q=>?_) (fun x p q=>?_) fun q=>?_
   ·refine Aa fun nY=>?_
    subst p q;cases ha;cases hb
    have fin:∀ {k:Bool},k=r->RcAt A s (.ref x) (.ref y) k->RcNeAt A s (.ref x) (.ref y) (!k)->EqAt A s (.ref x) (.ref y) r/\RcAt A s (.ref x) (.ref y) r/\RcNeAt A s (.ref x) (.ref y) (!r):=by
     rintro k rfl h1 h2
     refine⟨?_,h1,h2⟩
     refine Aa fun nY=>?_
     by_cases q:x=y
     ·refine nY ?_;clear nY
      subst q;rw[Z4 _ e];exact .same _
     ·refine nY ?_;clear nY
      exact .of_refs q h1
    refine nY ?_;clear nY
    refine Z2 e (fun xs ys e1 e2 e'=>?_) fun xs ys e1 e2 e'=>?_
    ·refine Aa fun nY=>?_
     obtain⟨l1,h1,r1,z1⟩:=R.isList e1
     obtain⟨l2,h2,r2,z2⟩:=R.isList e2
     by_cases hl:xs.length=ys.length
     ·rw[if_pos hl]at e'
      obtain⟨f,f1,f2⟩:=Rh e'
      have hsz:l1.toArray.size=l2.toArray.size:=by rw[List.size_toArray,List.size_toArray,<-r1.length,<-r2.length,hl]
      refine nY ?_;clear nY
      refine fin ?_ (RcAt.lists h1 h2 hsz hA (Kc it r1 r2 f1)) (RcNeAt.lists h1 h2 hsz hA (Kc it r1 r2 f1))
      rw[<-f2];congr 2;simp[<-r1.length,hl]
     ·rw[if_neg hl]at e'
      cases e'
      have hsz:(l1.toArray.size != l2.toArray.size)=true:=by simpa[<-r1.length,<-r2.length]using hl
      refine nY ?_;clear nY
      exact fin rfl (RcAt.lists_lengths h1 h2 hsz hA) (RcNeAt.lists_lengths h1 h2 hsz hA)
    ·refine Aa fun nY=>?_
     obtain⟨l1,h1,r1,z1⟩:=R.isTup e1
     obtain⟨l2,h2,r2,z2⟩:=R.isTup e2
     by_cases hl:xs.length=ys.length
     ·rw[if_pos hl]at e'
      obtain⟨f,f1,f2⟩:=Rh e'
      refine nY ?_;clear nY
      refine fin ?_ (RcAt.tuples h1 h2 hA (Kc it r1 r2 f1)) (RcNeAt.tuples h1 h2 hA (Kc it r1 r2 f1))
      rw[<-f2];simp[<-r1.length,<-r2.length,hl]
     ·rw[if_neg hl]at e';cases e'
   ·refine Aa fun nY=>?_
    subst p q;cases ha;cases hb
    refine nY ?_;clear nY
    refine Z3 (.inl e) (fun xs q e1=>?_) fun xs q e1=>?_<;>subst q
    ·refine Aa fun nY=>?_
     obtain⟨l1,h1,r1,z1⟩:=R.isList e1
     refine nY ?_;clear nY
     exact⟨.list_none h1 hA,.list_none h1 hA,.list_none h1 hA⟩
    ·refine Aa fun nY=>?_
     obtain⟨l1,h1,r1,z1⟩:=R.isTup e1
     refine nY ?_;clear nY
     exact⟨.tuple_none h1 hA,.tuple_none h1 hA,.tuple_none h1 hA⟩
   ·refine Aa fun nY=>?_
    subst p q;cases ha;cases hb
    refine nY ?_;clear nY
    refine Z3 (.inr e) (fun xs q e1=>?_) fun xs q e1=>?_<;>subst q
    ·refine Aa fun nY=>?_
     obtain⟨l1,h1,r1,z1⟩:=R.isList e1
     refine nY ?_;clear nY
     exact⟨.none_list h1 hA,.none_list h1 hA,.none_list h1 hA⟩
    ·refine Aa fun nY=>?_
     obtain⟨l1,h1,r1,z1⟩:=R.isTup e1
     refine nY ?_;clear nY
     exact⟨.none_tuple h1 hA,.none_tuple h1 hA,.none_tuple h1 hA⟩
   ·rw[q]at e;exact Mw ha hb e
theorem X4{l:List (Option Bool)}{r:Bool}(h:U4 l=some r):(∀x∈l,∃b,x=some b)/\r=l.any (· == some true):=by
 induction l generalizing r with
 | nil=>simp only[U4,Option.some.injEq]at h;subst h;simp
 | cons x t ih=>
   cases x with
   | none=>simp[U4]at h
   | some b=>
     simp only[U4,Option.map_eq_some_iff]at h
     obtain⟨r',h1,h2⟩:=h
     obtain⟨h3,h4⟩:=ih h1
     refine⟨fun x hx=>?_,?_⟩
     ·rcases List.mem_cons.mp hx with rfl|hx
      ·exact⟨b,rfl⟩
      ·exact h3 x hx
     ·subst h2;subst h4;cases b<;>simp
noncomputable def T3(W:Wd)(v:V)(c:Value):Bool:=by classical exact if ∃x,VR W x c/\Zh x v=some true then true else false
theorem Ae6{x y:V}{c:Value}(h1:VR W x c)(h2:VR W y c)(hx:Zh x v=some r)(hy:Zh y v=some r'):r=r':=by
 induction h1<;>first|exact @nn _ _ _ hx|(cases h2;exact Option.some.inj (hx.symm.trans hy))
theorem W8{x v:V}{c:Value}{r:Bool}(h:VR W x c)(e:Zh x v=some r):T3 W v c=r:=by
 unfold T3
 cases r with
 | true=>rw[if_pos ⟨x,h,e⟩]
 | false=>
   rw[if_neg]
   rintro⟨y,h1,h2⟩
   have:=Ae6 h h1 e h2
   cases this
open PySem.SeqAt in
theorem Hj{v:V}{u:Value}{xs:List V}{items:List Value}{r:Bool}(hu:VR W v u)(hr:Dj W xs items)(e:U5 v xs=some r) :
 (∀y,y∈items.toArray->EqAt A s y u (T3 W v y))/\items.toArray.any (T3 W v)=r:=by
 obtain⟨h1,h2⟩:=X4 e
 constructor
 ·intro y hy
  refine Aa fun nY=>?_
  obtain⟨j,hj⟩:=List.mem_iff_getElem?.mp (by simpa using hy)
  obtain⟨x,x1,x2⟩:=hr.get' j hj
  obtain⟨b,hb⟩:=h1 (Zh x v) (List.mem_map_of_mem (List.mem_iff_getElem?.mpr ⟨j,x1⟩))
  refine nY ?_;clear nY
  rw[W8 x2 hb]
  exact(Mw x2 hu hb).1
 ·rw[h2]
  clear h2 e
  induction hr with
  | nil=>simp
  | cons h t ih=>
    simp only[List.map_cons,List.mem_cons,forall_eq_or_imp]at h1
    refine Aa fun nY=>?_
    obtain⟨⟨b,hb⟩,h1⟩:=h1
    have:=ih h1
    refine nY ?_;clear nY
    simp only[List.any_toArray,List.map_cons,List.any_cons]at this ⊢
    rw[this,W8 h hb,hb]
    cases b<;>simp
theorem A1.dget(hk:Uz W es kvs)(k:Int):(dget es k).isSome=(kvs.lookup k).isSome/\∀v,dget es k=some v->∃c,kvs.lookup k=some c/\VR W v c:=by
 induction hk with
 | nil=>simp[Mine.Internal.dget]
 | @cons k' v' c' es kvs h t ih=>
   unfold Mine.Internal.dget at ih ⊢
   simp only[List.lookup_cons]
   cases k==k' with
   | true=>simp;exact h
   | false=>simpa using ih
theorem A1.noSys(R:A1 W h₀ env names H ρ s)(Y:An W env c h₀){a:Addr}{es:List (Int×V)}(e:H a=some (.dict es)):(a==sysModules)=false:=by
 have h1:=R.low a es e
 have h2:=Y.lo
 have h3:a≠sysModules:=Nat.ne_of_gt (Nat.lt_of_lt_of_le h2 h1)
 simpa using h3
theorem Fc(kvs:List (Int×Value))(k:Int):valueAt kvs k=kvs.lookup k:=by
 unfold valueAt
 induction kvs with
 | nil=>rfl
 | cons p t ih=>
   obtain⟨a,b⟩:=p
   rw[List.find?_cons,List.lookup_cons]
   by_cases q:a=k
   ·subst q;simp
   ·have:(k==a)=false:=by simpa using fun h:k=a=>q h.symm
    simpa[q,this]using ih
open PySem.SeqAt in
open PySem.SeqAt in
theorem Rj{a b:V}{u v:Value}{r:Bool}(ha:VR W a u)(hb:VR W b v)(e:isB a b=some r) :
 (∀Q E,Q (.bool r) s->wpAny W.M A (compareOp .Is u v) Q E s)/\(∀Q E,Q (.bool (!r)) s->wpAny W.M A (compareOp .IsNot u v) Q E s):=by
 refine Aa fun no=>?_
 induction ha<;>induction hb<;>first|exact @nn _ _ _ e|(obtain rfl:=Option.some.inj e;refine no ?_;clear no)
 ·exact⟨fun _ _ q=>is_none_none q,fun _ _ q=>isnot_none_none q⟩
 ·exact⟨fun _ _ q=>is_none_ne nofun q,fun _ _ q=>isnot_none_ne nofun q⟩
 ·exact⟨fun _ _ q=>is_bool q,fun _ _ q=>isnot_bool q⟩
 ·exact⟨fun _ _ q=>is_none_ne nofun q,fun _ _ q=>isnot_none_ne nofun q⟩
 ·exact⟨fun _ _ q=>is_none_ne nofun q,fun _ _ q=>isnot_none_ne nofun q⟩
 ·exact⟨fun _ _ q=>is_none_ne nofun q,fun _ _ q=>isnot_none_ne nofun q⟩
open PySem.SeqAt in
theorem Dm(ok:Rg A c h₀ env Er n)(Y:An W env c h₀)(R:A1 W h₀ env names H ρ s){op:CmpOp}{a b:V}{u v:Value}(ha:VR W a u)(hb:VR W b v)(q:Bg op a b H Q) :
 wpAny W.M A (compareOp op u v) (Bv W h₀ env names ρ Q) E s:=by
 have hu:=ok.units
 cases op
 case Eq=>
  refine Cv q fun r e q=>?_
  exact(Ri R Eg A (by unfold Eg;exact Ag4 hu) ha hb e).2.1 _ _ _ _ (Bv.mk (.bool _) R q)
 case NotEq=>
  refine Cv q fun r e q=>?_
  exact(Ri R Eg A (by unfold Eg;exact Ag4 hu) ha hb e).2.2 _ _ _ _ (Bv.mk (.bool _) R q)
 case Lt=>
  replace q:Agm a b H Q:=q
  apply A3 ha q;intro i t q;apply A3 hb q;intro j t' q
  exact lt_int (Bv.mk (.bool _) R q)
 case LtE=>
  replace q:Agn a b H Q:=q
  apply A3 ha q;intro i t q;apply A3 hb q;intro j t' q
  exact le_int (Bv.mk (.bool _) R q)
 case Gt=>
  replace q:Ago a b H Q:=q
  apply A3 ha q;intro i t q;apply A3 hb q;intro j t' q
  exact gt_int (Bv.mk (.bool _) R q)
 case GtE=>
  replace q:Agp a b H Q:=q
  apply A3 ha q;intro i t q;apply A3 hb q;intro j t' q
  exact ge_int (Bv.mk (.bool _) R q)
 case Is=>
  replace q:Agq a b H Q:=q
  refine Cv q fun r e q=>?_
  exact(Rj ha hb e).1 _ _ (Bv.mk (.bool _) R q)
 case IsNot=>
  replace q:Aeb a b H Q:=q
  refine Cv q fun r e q=>?_
  exact(Rj ha hb e).2 _ _ (Bv.mk (.bool _) R q)
 case In=>
  replace q:Se a b H Q:=q
  apply Bh hb q
  intro x q
  refine Aa fun nY=>?_
  split at q
  ·rename_i xs e1
   refine nY ?_;clear nY
   refine Cv q fun r e q=>?_
   refine Aa fun nY=>?_
   obtain⟨l1,h1,r1,z1⟩:=R.isList e1
   obtain⟨m1,m2⟩:=Hj (A:=A.in1) (s:=s) ha r1 e
   refine nY ?_;clear nY
   exact in_listAt (T3 W a) h1 m1 (by rw[m2];exact Bv.mk (.bool _) R q)
  ·rename_i xs e1
   refine nY ?_;clear nY
   refine Cv q fun r e q=>?_
   refine Aa fun nY=>?_
   obtain⟨l1,h1,r1,z1⟩:=R.isTup e1
   obtain⟨m1,m2⟩:=Hj (A:=A.in1) (s:=s) ha r1 e
   refine nY ?_;clear nY
   exact in_tupleAt (T3 W a) h1 m1 (by rw[m2];exact Bv.mk (.bool _) R q)
  ·rename_i es e1
   refine nY ?_;clear nY
   apply A3 ha q
   intro k t q
   refine Aa fun nY=>?_
   obtain⟨kvs,h1,r1,z1⟩:=R.isDict e1
   refine nY ?_;clear nY
   refine wpAny_in_of (intKind_is _ _ _ _) (R.noSys Y e1) h1.mapOf ?_
   rw[Fc,<-(A1.dget r1 _).1]
   exact Bv.mk (.bool _) (R.toks _) q
  ·exact q.elim
 case NotIn=>
  replace q:Se a b H (fun v H=>match v with | .bool r=>Q (.bool (!r)) H|_=>False):=q
  apply Bh hb q
  intro x q
  refine Aa fun nY=>?_
  split at q
  ·rename_i xs e1
   refine nY ?_;clear nY
   refine Cv q fun r e q=>?_
   refine Aa fun nY=>?_
   obtain⟨l1,h1,r1,z1⟩:=R.isList e1
   obtain⟨m1,m2⟩:=Hj (A:=A.in1) (s:=s) ha r1 e
   refine nY ?_;clear nY
   exact notIn_listAt (T3 W a) h1 m1 (by rw[m2];exact Bv.mk (.bool _) R q)
  ·rename_i xs e1
   refine nY ?_;clear nY
   refine Cv q fun r e q=>?_
   refine Aa fun nY=>?_
   obtain⟨l1,h1,r1,z1⟩:=R.isTup e1
   obtain⟨m1,m2⟩:=Hj (A:=A.in1) (s:=s) ha r1 e
   refine nY ?_;clear nY
   exact notIn_tupleAt (T3 W a) h1 m1 (by rw[m2];exact Bv.mk (.bool _) R q)
  ·rename_i es e1
   refine nY ?_;clear nY
   apply A3 ha q
   intro k t q
   refine Aa fun nY=>?_
   obtain⟨kvs,h1,r1,z1⟩:=R.isDict e1
   refine nY ?_;clear nY
   refine wpAny_notIn_of (intKind_is _ _ _ _) (R.noSys Y e1) h1.mapOf ?_
   rw[Fc,<-(A1.dget r1 _).1]
   exact Bv.mk (.bool _) (R.toks _) q
  ·exact q.elim
end Mine.Internal
namespace Mine.Internal
open PySem PySem.W PyProof.Rows
variable {W:Wd} {A:Around} {h₀:HB} {env:Env} {c:Cx} {names:List Str} {H:AH} {ρ:Ak} {s:Shared} {E:Value->Shared->Prop} {n:Nat} {Q:Ah} {Er:EP}
theorem Pe{k:Int}{n j:Nat}(h:Dd k n=some j):seqIndex? k n=some j/\j<n:=by
 delta Dd at h
 refine Aa fun nY=>?_
 split at h
 ·rename_i h0
  split at h
  ·refine nY ?_;clear nY
   rename_i h1;cases h;exact⟨seqIndex_of h0 h1,(Q10 h0 h1)⟩
  ·cases h
 ·rename_i h0
  split at h
  ·refine nY ?_;clear nY
   rename_i h1;cases h;exact⟨seqIndex_neg (Int.not_le.mp h0) (Ace h1),(Aji h0 h1)⟩
  ·cases h
theorem Rk{k:Int}{n j:Nat}(h:Dd k n=some j): -(n:Int)<=k/\k<n:=by
 delta Dd at h
 refine Aa fun nY=>?_
 split at h
 ·rename_i h0
  split at h
  ·refine nY ?_;clear nY
   rename_i h1;exact⟨(Aj2 h0),h1⟩
  ·cases h
 ·rename_i h0
  split at h
  ·refine nY ?_;clear nY
   rename_i h1;exact⟨(Ace h1),(Aj3 h0)⟩
  ·cases h
theorem T4:(Bq:Int)<2 ^ 63:=by decide
theorem T5{a:Addr}{l1:List Value}{k:Int}{t:Nat}{n j:Nat}{cv:Value}{Qm:Value->Shared->Prop}(h1:s.heap.IsList a l1.toArray)(hn:n=l1.length)(z:n<=Bq)(e:Dd k n=some j)(x:l1[j]? = some cv)(q:Qm cv s) :
 wpAny W.M A (getItem (.ref a) (.int k t)) Qm E s:=by
 have b63:=T4
 refine Aa fun nY=>?_
 subst hn
 delta Dd at e
 split at e
 ·rename_i h0
  split at e
  ·rename_i h2;cases e
   refine nY ?_;clear nY
   exact wpAny_getItem_list h1 h0 (Aj4 b63 z h2) (by simpa using x) q
  ·cases e
 ·rename_i h0
  split at e
  ·rename_i h2;cases e
   refine nY ?_;clear nY
   exact wpAny_getItem_list_neg h1 (Int.not_le.mp h0) (by rw[List.size_toArray];exact Ace h2) (Aj5 b63 z h2) (by simpa using x) q
  ·cases e
theorem T6(Y:An W env c h₀)(R:A1 W h₀ env names H ρ s){a b:V}{u v:Value}(ha:VR W a u)(hb:VR W b v)(q:B9 a b H Q) :
 wpAny W.M A (getItem u v) (Bv W h₀ env names ρ Q) E s:=by
 apply A3 hb q
 intro k t q
 induction ha with
 | ref a=>
   dsimp only at q
   refine Aa fun nY=>?_
   split at q
   ·rename_i xs e1
    obtain⟨l1,h1,r1,z1⟩:=R.isList e1
    refine nY ?_;clear nY
    refine Cv q fun j e2 q=>?_
    refine Cv q fun v' e3 q=>?_
    refine Aa fun nY=>?_
    obtain⟨cv,x1,x2⟩:=r1.get j e3
    refine nY ?_;clear nY
    exact T5 h1 r1.length z1 e2 x1 (Bv.mk x2 R q)
   ·rename_i xs e1
    obtain⟨l1,h1,r1,z1⟩:=R.isTup e1
    refine nY ?_;clear nY
    refine Cv q fun j e2 q=>?_
    refine Cv q fun v' e3 q=>?_
    refine Aa fun nY=>?_
    obtain⟨cv,x1,x2⟩:=r1.get j e3
    have b63:=T4
    obtain⟨i1,i2⟩:=Pe e2
    refine nY ?_;clear nY
    refine getItem_tuple h1 ?_ ?_ (by simpa[<-r1.length]using i1) (by simpa using x1) (Bv.mk x2 R q)
    ·have:=Rk e2;exact Aj6 z1 b63 this.1
    ·have:=Rk e2;exact Int.lt_trans (Int.lt_of_lt_of_le this.2 (Int.ofNat_le.mpr z1)) b63
   ·rename_i es e1
    obtain⟨kvs,h1,r1,z1⟩:=R.isDict e1
    refine nY ?_;clear nY
    refine Cv q fun v' e2 q=>?_
    refine Aa fun nY=>?_
    obtain⟨cv,x1,x2⟩:=(A1.dget r1 _).2 _ e2
    refine nY ?_;clear nY
    exact wpAny_getItem_of (intKind_is _ _ _ _) h1.mapOf (by rw[Fc];exact x1) (Bv.mk x2 (R.toks _) q)
   ·exact q.elim
 | script=>
   refine Aa fun nY=>?_
   obtain⟨l1,h1,r1,z1⟩:=R.script Y
   have r2:Dj W (W.sn.map V.int) l1:=Gz r1
   refine nY ?_;clear nY
   have hl:W.sn.length=l1.length:=by have:=r2.length;simpa using this
   dsimp only at q
   refine Cv q fun j e2 q=>?_
   refine Cv q fun v' e3 q=>?_
   refine Aa fun nY=>?_
   obtain⟨cv,x1,x2⟩:=r2.get j (by rw[List.getElem?_map,e3];rfl)
   refine nY ?_;clear nY
   exact T5 h1 hl (by rw[hl];exact z1) e2 x1 (Bv.mk x2 R q)
 | _=>exact False.elim q
theorem X5(items:List Value)(lo hi:Option Int):(slicePick items.toArray lo hi none).toList =
 ((items.take (match hi with|some k=>D9 k items.length|none=>items.length)).drop (match lo with|some k=>D9 k items.length|none=>0)):=by
 have key:∀(a b:Nat),a<=items.length->b<=items.length->sliceBounds lo hi none items.length=((a:Int),(b:Int),1)->(slicePick items.toArray lo hi none).toList=(items.take b).drop a:=by
  intro a b ha hb e
  unfold slicePick
  rw[List.size_toArray,e]
  simp only
  rw[sliceRange_one,pick_run]
  simp only[List.drop_take]
 have cl:∀k:Int,(max 0 (min (if k<0 then k+(items.length:Int)else k) items.length))=((D9 k items.length:Nat):Int)/\D9 k items.length<=items.length:=by
  intro k
  delta D9
  split<;>constructor<;>(first|lia|omega)
 cases lo with
 | none=>cases hi with
   | none=>exact key 0 items.length (Nat.zero_le _) (Nat.le_refl _) rfl
   | some u=>exact key 0 (D9 u items.length) (Nat.zero_le _) (cl u).2 (by unfold sliceBounds;simp only[Option.getD_none];simp[(cl u).1])
 | some l=>cases hi with
   | none=>exact key (D9 l items.length) items.length (cl l).2 (Nat.le_refl _) (by unfold sliceBounds;simp only[Option.getD_none];simp[(cl l).1])
   | some u=>exact key (D9 l items.length) (D9 u items.length) (cl l).2 (cl u).2 (by unfold sliceBounds;simp only[Option.getD_none];simp[(cl l).1,(cl u).1])
theorem Hk{v:V}{u:Value}{k:Option Int}(h:VR W v u)(e:bound? v=some k):IsPart u k:=by
 induction h<;>first|(cases e;first|exact .none|exact .int _ _)|(cases e;done)
theorem Acr(xs:List V)(l u:Option Int):(cut xs l u).length<=xs.length:=by
 delta cut
 simp only[List.length_drop,List.length_take]
 exact Nat.le_trans (Nat.sub_le _ _) (Nat.min_le_right _ _)
theorem Qj(Y:An W env c h₀)(R:A1 W h₀ env names H ρ s){a l u st:V}{va vl vu vs:Value}{sl:Addr}(ha:VR W a va)(hl:VR W l vl)(hu:VR W u vu)(hs:VR W st vs)(hsl:s.heap.IsSliceOf sl vl vu vs)(q:Dh a l u st H Q) :
 wpAny W.M A (getItem va (.ref sl)) (Bv W h₀ env names ρ Q) E s:=by
 apply Bh ha q
 intro a' q
 refine Cv q fun l' e1 q=>?_
 refine Cv q fun u' e2 q=>?_
 refine Fb q fun xs e3 qq=>?_
 clear q
 obtain⟨l1,h1,r1,z1⟩:=R.isList e3
 induction hs with
 | none=>
   refine wpAny_getItem_list_slice h1 hsl (Hk hl e1) (Hk hu e2) .none (by simp) ?_ (by simp[<-r1.length];exact Nat.le_trans z1 C0)
   have e:slicePick l1.toArray l' u' none=(slicePick l1.toArray l' u' none).toList.toArray:=by simp
   rw[e,X5]
   have R':=R.push (o:= .list (cut xs l' u')) (E4 (n:=0) (by
    delta cut
    rw[r1.length]
    exact(r1.take _).drop _) (Nat.le_trans (Acr _ _ _) z1)) rfl s.toks
   exact Bv.mk (.ref _) R' (qq _ R.fresh)
 | int k t=>
   obtain⟨rfl,rfl,rfl,qq⟩:=qq
   refine wpAny_getItem_list_slice h1 hsl (Hk hl e1) (Hk hu e2) (.int _ _) (by decide) ?_ (by simp[<-r1.length];exact Nat.le_trans z1 C0)
   rw[krv_pick]
   have R':=R.push (o:= .list xs.reverse) (E4 (n:=0) r1.reverse (by simpa using z1)) rfl s.toks
   exact Bv.mk (.ref _) R' (qq _ R.fresh)
 | _=>exact False.elim qq
theorem Uz.put{es:List (Int×V)}{kvs:List (Int×Value)}(h:Uz W es kvs){k:Int}{v:V}{u:Value}(hv:VR W v u)(hn:(kvs.map (·.1)).Nodup):Uz W (Di es k v) (stored kvs k u):=by
 have none_eq:∀l:List (Int×Value),l.any (fun kv=>kv.1=k)=false->l.map (fun kv=>if kv.1=k then(kv.1,u)else kv)=l:=by
  intro l hl
  induction l with
  | nil=>rfl
  | cons p t ih=>
    simp only[List.any_cons,Bool.or_eq_false_iff,decide_eq_false_iff_not]at hl
    simp only[List.map_cons,if_neg hl.1,ih hl.2]
 induction h with
 | nil=>exact .cons hv .nil
 | @cons k' v' c' es kvs h t ih=>
   simp only[List.map_cons,List.nodup_cons]at hn
   unfold Di
   by_cases q:k=k'
   ·subst q
    rw[if_pos rfl]
    unfold stored
    rw[if_pos (by simp)]
    simp only[List.map_cons,if_true]
    rw[none_eq kvs (by
     rw[List.any_eq_false]
     intro p hp he
     exact hn.1 (List.mem_map.mpr ⟨p,hp,by simpa using he⟩))]
    exact .cons hv t
   ·rw[if_neg q]
    have:=ih hn.2
    unfold stored at this ⊢
    have q':¬k'=k:=fun e=>q e.symm
    simp only[List.any_cons,q',decide_false,Bool.false_or,List.map_cons,if_false]
    split
    ·rename_i hh;rw[if_pos hh]at this;exact .cons h this
    ·rename_i hh;rw[if_neg hh]at this;exact .cons h this
theorem Uz.length{es:List (Int×V)}{kvs:List (Int×Value)}(h:Uz W es kvs):es.length=kvs.length:=by
 induction h with
 | nil=>rfl
 | cons _ _ ih=>simp[ih]
theorem Ma(es:List (Int×V))(k:Int)(v:V):(Di es k v).length<=es.length+1:=by
 induction es with
 | nil=>simp[Di]
 | cons p t ih=>
   obtain⟨a,b⟩:=p
   unfold Di
   split
   ·simp
   ·simp only[List.length_cons];exact Nat.succ_le_succ ih
theorem Nt{h:Heap}{a:Addr}{kvs:List (Int×Value)}(x:h.DictOf (intKind W.prog W.w) a kvs):∃ob,h.get? a=some ob/\ob.IsDictOf (intKind W.prog W.w) kvs:=
 let ⟨o,es,ep,h1,h2⟩:=x;⟨o,h1,es,ep,h2⟩
theorem Mb{h:Heap}{a:Addr}{kvs:List (Int×Value)}(x:h.DictOf (intKind W.prog W.w) a kvs):(kvs.map (·.1)).Nodup:=by
 obtain⟨_,_,_,_,_,_,_,_,h⟩:=x
 exact h
noncomputable def Ahk(W:Wd)(h₀:HB)(env:Env)(names:List Str)(ρ:Ak)(N:AH->Prop)(s':Shared):Prop:=∃H',A1 W h₀ env names H' ρ s'/\N H'
theorem Qk(Y:An W env c h₀)(R:A1 W h₀ env names H ρ s){o i v:V}{uo ui uv:Value}(ho:VR W o uo)(hi:VR W i ui)(hv:VR W v uv){N:AH->Prop}(q:setItem o i v H N) :
 wpAny W.M A (PySem.setItem uo ui uv) (fun _ s'=>Ahk W h₀ env names ρ N s') E s:=by
 delta Mine.Internal.setItem at q
 apply Bh ho q
 intro a q
 apply A3 hi q
 intro k t q
 refine Aa fun nY=>?_
 split at q
 ·rename_i xs e1
  obtain⟨l1,nn,h1,r1,z1⟩:=R.lst e1
  refine nY ?_;clear nY
  refine Cv q fun j e2 q=>?_
  have b63:=T4
  replace e2:Dd k xs.length=some j:=e2
  delta Dd at e2
  refine Aa fun nY=>?_
  split at e2
  ·rename_i h0
   split at e2
   ·rename_i h2;cases e2
    refine nY ?_;clear nY
    refine ki_setAt (n:=nn) h1 h0 (Int.lt_trans (Int.lt_of_lt_of_le h2 (Int.ofNat_le.mpr z1)) b63) (by simp[<-r1.length];exact h2) ?_
    exact⟨_,R.changeL e1 h1 (·.setIfInBounds _ uv) (by simp) (r1.set _ hv) (by simpa using z1) s.toks,q⟩
   ·cases e2
  ·rename_i h0
   split at e2
   ·rename_i h2;cases e2
    have hs:l1.toArray.size=xs.length:=by simp[r1.length]
    refine nY ?_;clear nY
    refine ki_setBack (n:=nn) h1 (Int.not_le.mp h0) (by rw[hs];exact Ace h2) (Ajj z1 b63 h2) ?_
    exact⟨_,R.changeL e1 h1 (·.setIfInBounds _ uv) (by simp[r1.length]) (r1.set _ hv) (by simpa using z1) s.toks,q⟩
   ·cases e2
 ·rename_i es e1
  obtain⟨kvs,h1,r1,z1⟩:=R.isDict e1
  refine nY ?_;clear nY
  refine wpAny_setItem_pairs (intKind_is _ _ _ _) h1 (fun h' h2 h3=>?_) (by rw[<-r1.length];exact Nat.le_trans z1 C0)
  refine Aa fun nY=>?_
  obtain⟨ob,h4,h5⟩:=Nt h2
  refine nY ?_;clear nY
  exact⟨_,R.change _ e1 h3 h4 (.dict (r1.put hv (Mb h1)) (Nat.le_trans (Ma _ _ _) q.1) h5) fun _ _=>⟨_,rfl⟩,q.2⟩
 ·exact q.elim
end Mine.Internal
namespace Mine.Internal
open PySem PySem.W PyProof.Rows
variable {W:Wd} {A:Around} {h₀:HB} {env:Env} {c:Cx} {names:List Str} {H:AH} {ρ:Ak} {s:Shared} {E:Value->Shared->Prop} {n:Nat} {Q:Ah} {Er:EP}
noncomputable def Z5(_:Wd):Ty->Value
 | .int=> .type "int" | .bool=> .type "bool" | .list=> .type "list"
theorem Sm(R:A1 W h₀ env names H ρ s){t:Ty}{v:V}{u:Value}(hp:G6 t=true)(hv:VR W v u){r:Bool}(e:Ox t v H=some r)(q:Q (.bool r) H) :
 wpAny W.M A (call (.builtin "isinstance") [u,Z5 W t]) (Bv W h₀ env names ρ Q) E s:=by
 induction hv with
 | none=>cases t<;>first|(cases hp;done)|(obtain rfl:=Option.some.inj e)
         ·exact IsiPair.NoneType_int (Bv.mk (.bool _) (R.toks _) q)
         ·exact IsiPair.NoneType_bool (Bv.mk (.bool _) (R.toks _) q)
         ·exact IsiPair.NoneType_list (Bv.mk (.bool _) (R.toks _) q)
 | bool b=>cases t<;>first|(cases hp;done)|(obtain rfl:=Option.some.inj e)
           ·exact IsiPair.bool_int (Bv.mk (.bool _) R q)
           ·exact IsiPair.bool_bool (Bv.mk (.bool _) R q)
           ·exact IsiPair.bool_list (Bv.mk (.bool _) (R.toks _) q)
 | int i t'=>cases t<;>first|(cases hp;done)|(obtain rfl:=Option.some.inj e)
             ·exact IsiPair.int_int (Bv.mk (.bool _) R q)
             ·exact IsiPair.int_bool (Bv.mk (.bool _) (R.toks _) q)
             ·exact IsiPair.int_list (Bv.mk (.bool _) (R.toks _) q)
 | str x t'=>cases t<;>first|(cases hp;done)|(obtain rfl:=Option.some.inj e)
             ·exact IsiPair.str_int (Bv.mk (.bool _) (R.toks _) q)
             ·exact IsiPair.str_bool (Bv.mk (.bool _) (R.toks _) q)
             ·exact IsiPair.str_list (Bv.mk (.bool _) (R.toks _) q)
 | script=>exact @nn _ _ _ e
 | fn _=>exact @nn _ _ _ e
 | ref a=>
   cases ha:H a with
   | none=>rw[show Ox t (.ref a) H=none from(by show (match H a with|some o=>Lo o t|none=>none)=_;rw[ha])]at e;cases e
   | some o=>
     replace e:Lo o t=some r:=by rw[<-e];show _=(match H a with|some o=>Lo o t|none=>none);rw[ha]
     cases o with
     | list xs=>
       obtain⟨l1,h1,r1,z1⟩:=R.isList ha
       cases t<;>first|(cases hp;done)|(obtain rfl:=Option.some.inj e)
       ·exact IsiPair.isList_int h1 (fun _ _ e=>e) (Bv.mk (.bool _) (R.toks _) q)
       ·exact IsiPair.isList_bool h1 (fun _ _ e=>e) (Bv.mk (.bool _) (R.toks _) q)
       ·exact IsiPair.isList_list h1 (fun _ _ e=>e) (Bv.mk (.bool _) R q)
     | tuple xs=>
       obtain⟨l1,h1,r1,z1⟩:=R.isTup ha
       cases t<;>first|(cases hp;done)|(obtain rfl:=Option.some.inj e)
       ·exact IsiPair.isTuple_int h1 (fun _ _ e=>e) (Bv.mk (.bool _) (R.toks _) q)
       ·exact IsiPair.isTuple_bool h1 (fun _ _ e=>e) (Bv.mk (.bool _) (R.toks _) q)
       ·exact IsiPair.isTuple_list h1 (fun _ _ e=>e) (Bv.mk (.bool _) (R.toks _) q)
     | _=>cases t<;>first|(cases hp;done)|exact @nn _ _ _ e
noncomputable def Aej:BI->Value
 | .len=> .builtin "len" | .list=> .type "list" | .sorted=> .builtin "sorted" | .max=> .builtin "max" | .min=> .builtin "min" | .minL=> .builtin "min"
 | .all=> .builtin "all" | .any=> .builtin "any" | .str=> .type "str" | .int=> .type "int" | _=> .none
noncomputable def Pf:BI->Bool
 | .len | .list | .sorted | .max | .min | .minL | .all | .any=>true
 | _=>false
theorem Z6{xs:List V}{items:List Value}{bs:List Bool}(h:Dj W xs items)(e:bools? xs=some bs):items=bs.map Value.bool:=by
 induction h generalizing bs with
 | nil=>cases e;rfl
 | cons h _ ih=>
   induction h with
   | bool b=>
     obtain⟨l,h1,h2⟩:=Option.map_eq_some_iff.mp (show (bools? _).map _=some bs from e)
     subst h2
     rw[ih h1];rfl
   | _=>cases e
theorem X6(bs:List Bool):(List.range bs.length).all (fun i=>bs.getD i false)=bs.all id:=by
 induction bs with
 | nil=>rfl
 | cons b r ih=>rw[List.length_cons,List.range_succ_eq_map,List.all_cons,List.all_map,List.all_cons];congr 1
theorem Sn(ns:List Int):∀n,ns.foldl min n∈n::ns/\∀a∈n::ns,ns.foldl min n<=a:=by
 induction ns with
 | nil=>intro n;simp
 | cons x r ih=>
   intro n
   obtain⟨h1,h2⟩:=ih (min n x)
   simp only[List.foldl_cons]
   constructor
   ·rcases List.mem_cons.mp h1 with h|h
    ·rw[h]
     by_cases q:n<=x
     ·rw[Int.min_eq_left q];exact .head _
     ·rw[Int.min_eq_right (Aer q)];exact .tail _ (.head _)
    ·exact .tail _ (.tail _ h)
   ·intro a ha
    have h3:=h2 (min n x) (.head _)
    rcases List.mem_cons.mp ha with rfl|ha
    ·exact Int.le_trans h3 (Int.min_le_left _ _)
    ·rcases List.mem_cons.mp ha with rfl|ha
     ·exact Int.le_trans h3 (Int.min_le_right _ _)
     ·exact h2 a (.tail _ ha)
theorem Z7{es:List (Int×V)}{kvs:List (Int×Value)}{vs:List Value}(h:Uz W es kvs):vs.length=kvs.length->
 (∀(j:Nat) (v:Value),vs[j]? = some v->∃k x,kvs[j]? = some (k,x)/\(intKind W.prog W.w).is k v=true)->IntsAre vs (es.map (·.1)):=by
 induction h generalizing vs with
 | nil=>
   intro hl _
   refine Aa fun nY=>?_
   cases vs with
   | nil=>(refine nY ?_;clear nY;exact .nil)
   | cons v vs=>cases hl
 | @cons k _ _ _ _ h t ih=>
   intro hl hv
   refine Aa fun nY=>?_
   cases vs with
   | nil=>cases hl
   | cons v vs=>
     obtain⟨k',x,e1,e2⟩:=hv 0 v rfl
     cases e1
     obtain⟨t',rfl⟩:=Value.isInt_shape (show Value.isInt k v=true from e2)
     refine nY ?_;clear nY
     exact .cons k t' (ih (Nat.succ.inj hl) fun j v hj=>hv (j+1) v hj)
theorem Vg{T:String}{r d:Addr}{n:Nat}{P:Nat->Value->Prop}{OK:Heap->Prop}{ks:List Int}{Q:Value->Shared->Prop}(K:KdlSrc W.prog W.w T r d n P OK)(hh:A.handled=none)(hok:OK s.heap)(hn:n<=sizeLine)(h64:n<64)
 (hI:∀acc:Array Value,ItemsOf P acc n->∃ks',IntsAre acc.toList ks'/\ks'.Perm ks)
 (h:∀(D:Addr) (h':Heap) (tk ee:Nat) (vs:List Value),s.heap.get? D=none->(∀b,s.heap.get? b≠none->b<D)->(∀b o,s.heap.get? b=some o->h'.get? b=some o)->h'.get? D=some {cls:= .type "list",data:= .seq vs.toArray ee} ->
   IntsAre vs (Bd ks)->Q (.ref D) {s with heap:=h',toks:=tk}) :
 wpAny W.M A (call (.builtin "sorted") [.ref r]) Q E s:=by
 refine Calls.call_function_entry kind_sorted plain_sorted entry_sorted (args_sorted1 _) ?_
 unfold Builtin.«sorted»
 refine wpAny_bind (m:=checkCount "sorted" 1 1 _) (wpAny_pure ?_)
 refine wpAny_bind (kdu_collect (A:=A.in1) K hh hok hn fun h' tk acc hk hacc=>?_)
 have hl:acc.toList.length=n:=by rw[Array.length_toList];exact hacc.1
 refine wpAny_bind (wpAny_newList ?_ (by rw[hl];exact hn))
 refine Aa fun nY=>?_
 obtain⟨ks',hI,hpk⟩:=hI acc hacc
 have hD:s.heap.get? h'.objs.size=none:=Sk hk
 have hlt:∀b,s.heap.get? b≠none->b<h'.objs.size:=fun b hb=>by
  cases q:s.heap.get? b with
  | none=>exact absurd q hb
  | some o=>exact Heap.lt_size (hk b o q)
 have ho:(h'.push (seqObj "list" acc.toList.toArray 0)).get? h'.objs.size=some (seqObj "list" acc.toList.toArray 0):=Heap.get?_push_size _ rfl
 refine nY ?_;clear nY
 refine wpAny_bind (wpAny_holding (wpAny_call_entry slot_list_sort ⟨_,ho,rfl⟩ entry_list_sort (list_sort_tree (n:=0) ho hI (by rw[hl];exact h64) fun out ns' a1 a2 a3=>⟨_,rfl,?_⟩) (args_list_sort _)))
 have en:ns'=Bd ks:=K2 ((a2.trans hpk).trans (Cj _).symm) a3 (D1 _)
 subst en
 obtain⟨ee,he⟩:=sortedHeap_at (out:=out) ho
 refine wpAny_pure ⟨_,rfl,h h'.objs.size _ tk ee out.toList hD hlt (fun b o e=>?_) he a1⟩
 have hb:=Heap.lt_size (hk b o e)
 rw[sortedHeap_old (Nat.ne_of_lt hb) (by rw[Heap.size_push];exact Nat.lt_succ_of_lt hb)]
 exact Heap.get?_push_of_some _ (hk b o e)
theorem T7{d:Addr}{es:List (Int×V)}{kvs:List (Int×Value)}{ep:Nat}{Q:Value->Shared->Prop}(lo:(d==sysModules)=false)(hh:A.handled=none)(hat:s.heap.DictAt (intKind W.prog W.w) d kvs ep)
 (hn:kvs.length<=sizeLine) (r1:Uz W es kvs) (h64:kvs.length<64)
 (h:∀(D:Addr) (h':Heap) (tk ee:Nat) (vs:List Value),s.heap.get? D=none->(∀b,s.heap.get? b≠none->b<D)->(∀b o,s.heap.get? b=some o->h'.get? b=some o)->h'.get? D=some {cls:= .type "list",data:= .seq vs.toArray ee} ->
   IntsAre vs (Bd (es.map (·.1)))->Q (.ref D) {s with heap:=h',toks:=tk}) :
 wpAny W.M A (call (.builtin "sorted") [.ref d]) Q E s:=
 Vg (kdl_dict (knd:=intKind W.prog W.w) (kvs:=kvs) (ep:=ep) lo) hh hat hn h64 (fun acc hacc=>⟨_,Z7 r1 (by rw[Array.length_toList];exact hacc.1) fun j v hj=>hacc.2 j v (by rw[<-Array.getElem?_toList];exact hj),.rfl⟩) h
theorem Ald{v:V}{us:List Value}(h:Dj W [v] us):∃u,us = [u]/\VR W v u:=by
 cases h with|cons h t=>cases t;exact⟨_,rfl,h⟩
theorem Aj9{v v':V}{us:List Value}(h:Dj W [v,v'] us):(Ii fun u u'=>E6 (us = [u,u']) (VR W v u) (VR W v' u')):=by
 cases h with|cons h t=>cases t with|cons h' t=>cases t;exact⟨_,_,rfl,h,h'⟩
/-! sorted of pairs:some order of them -/
noncomputable def Ok{α:Type}(n:Nat)(P:α->Prop):KasT α->Prop
 | .ret a=>P a
 | .ask i j k=>i<n/\j<n/\∀b,Ok n P (k b)
theorem Ok.bind{α β:Type}{n:Nat}{P:α->Prop}{P':β->Prop}{f:α->KasT β}:∀t:KasT α,Ok n P t->(∀a,P a->Ok n P' (f a))->Ok n P' (t.bind f)
 | .ret a,h,hf=>hf a h
 | .ask _ _ k,h,hf=>⟨h.1,h.2.1,fun b=>Ok.bind (k b) (h.2.2 b) hf⟩
theorem Ok.wp{α:Type}{n:Nat}{P:α->Prop}{ask:Nat->Nat->(Bool->Shared->Prop)->Shared->Prop}{Q:α->Shared->Prop}{s:Shared}(ha:∀i j C,i<n->j<n->(∀b,C b s)->ask i j C s)(hQ:∀a,P a->Q a s) :
 ∀t:KasT α,Ok n P t->t.kasWp ask Q s
 | .ret a,h=>hQ a h
 | .ask i j k,h=>ha i j _ h.1 h.2.1 fun b=>Ok.wp ha hQ (k b) (h.2.2 b)
noncomputable def De(n:Nat)(p:Array Nat):Prop:=p.toList.Perm (List.range n)
theorem De.lt{n:Nat}{p:Array Nat}(h:De n p)(hn:0<n)(i:Nat):p.getD i 0<n:=by
 rw[Array.getD_eq_getD_getElem?]
 cases q:p[i]? with
 | none=>exact hn
 | some x=>exact List.mem_range.mp (h.mem_iff.mp (List.mem_of_getElem? (by rw[Array.getElem?_toList];exact q)))
theorem De.rev{n:Nat}{p:Array Nat}(h:De n p){i j:Nat}:De n (kas_rev p i j):=(Array.perm_iff_toList_perm.mp (mirror_perm p i j _)).trans h
theorem De.bub{n:Nat}{p:Array Nat}(h:De n p){i j:Nat}:De n (bubble p i j):=(Array.perm_iff_toList_perm.mp (bubble_perm p i j)).trans h
theorem Vh{n:Nat}{p:Array Nat}(h:De n p)(hn:0<n):∀f k,Ok n (fun _=>True) (kas_asc p f k)
 | 0,_=>trivial
 | f+1,k=>⟨h.lt hn _,h.lt hn _,fun b=>match b with|true=>trivial|false=>Vh h hn f (k+1)⟩
theorem Ol{n:Nat}(hn:0<n):∀f {p:Array Nat} k q,De n p->Ok n (fun r:Array Nat×Nat×Nat=>De n r.1) (kas_desc f p k q)
 | 0,_,_,_,h=>h
 | f+1,p,k,q,h=>by
   refine⟨h.lt hn _,h.lt hn _,fun b=>?_⟩
   cases b with
   | true=>
     show Ok n _ (if q>0 then _ else _)
     split
     ·exact Ol hn f _ _ h.rev
     ·exact Ol hn f _ _ h
   | false=>exact⟨h.lt hn _,h.lt hn _,fun b=>match b with|true=>h|false=>Ol hn f _ _ h⟩
theorem T8{n:Nat}{p:Array Nat}(h:De n p)(hn:0<n)(k r:Nat):Ok n (fun x:Nat×Array Nat=>De n x.2) (kas_tail3 k r p):=
 Ok.bind _ (Vh h.rev hn _ _) fun _ _=>h.rev
theorem Nu{n:Nat}{p:Array Nat}(h:De n p)(hn:0<n)(k r:Nat):Ok n (fun x:Nat×Array Nat=>De n x.2) (kas_descPart k r p):=by
 refine Ok.bind _ (Ol hn _ _ _ h) fun x hx=>?_
 split
 ·exact T8 hx.rev hn _ _
 ·exact T8 hx hn _ _
theorem Z8{n:Nat}{p:Array Nat}(h:De n p)(hn:0<n)(r:Nat):Ok n (fun x:Nat×Array Nat=>De n x.2) (kas_count r p):=by
 refine Ok.bind _ (Vh h hn _ _) fun k _=>?_
 split
 ·exact h
 ·split
  ·exact⟨h.lt hn _,h.lt hn _,fun b=>match b with|true=>h|false=>Nu h.rev hn _ _⟩
  ·exact Nu h hn _ _
theorem Pg{n:Nat}{p:Array Nat}(h:De n p)(hn:0<n)(k:Nat):∀f l r,Ok n (fun _=>True) (kas_place p k f l r)
 | 0,_,_=>trivial
 | f+1,l,r=>by
   unfold kas_place
   split
   ·trivial
   ·exact⟨h.lt hn _,h.lt hn _,fun b=>match b with|true=>Pg h hn k f _ _|false=>Pg h hn k f _ _⟩
theorem Z9{n:Nat}(hn:0<n):∀f {p:Array Nat} k,De n p->Ok n (De n) (kas_bin f p k)
 | 0,_,_,h=>h
 | f+1,_,k,h=>Ok.bind _ (Pg h hn k _ _ _) fun _ _=>Z9 hn f _ h.bub
theorem Acs{n:Nat}(hn:0<n):Ok n (De n) (kas_sort n):=by
 refine Ok.bind _ (Z8 (List.Perm.refl _) hn n) fun x hx=>?_
 split
 ·exact Z9 hn _ _ hx
 ·exact hx
theorem Aaa{n:Nat}{p:Array Nat}{vs:List Value}(h:De n p)(hn:n=vs.length):(p.toList.map fun i=>vs.getD i Value.none).Perm vs:=by
 have h1:=h.map fun i=>vs.getD i Value.none
 have e:(List.range n).map (fun i=>vs.getD i Value.none)=vs:=by
  subst hn
  refine List.ext_getElem (by simp) fun i h1 h2=>?_
  simp[h2]
 rw[e]at h1
 exact h1
theorem Aab{out vs:List Value}(h:out.Perm vs):∀ {xs:List V},Dj W xs vs->∃xs',xs'.Perm xs/\Dj W xs' out:=by
 induction h with
 | nil=>intro xs r;exact⟨xs,.refl _,r⟩
 | cons x h ih=>
   intro xs r
   refine Aa fun nY=>?_
   cases r with
   | cons r t=>
     obtain⟨ys,h1,h2⟩:=ih t
     refine nY ?_;clear nY
     exact⟨_,h1.cons _,.cons r h2⟩
 | swap x y l=>
   intro xs r
   refine Aa fun nY=>?_
   cases r with
   | cons r t=>
     cases t with
     | cons r' t=>(refine nY ?_;clear nY;exact⟨_,.swap _ _ _,.cons r' (.cons r t)⟩)
 | trans _ _ ih1 ih2=>
   intro xs r
   refine Aa fun nY=>?_
   obtain⟨ys,h1,h2⟩:=ih2 r
   obtain⟨zs,h3,h4⟩:=ih1 h2
   refine nY ?_;clear nY
   exact⟨zs,h3.trans h1,h4⟩
noncomputable def Act(h:Heap)(v:Value):Prop:=∃a o i j t u n,v = .ref a/\h.get? a=some o/\o.cls = .type "tuple" /\o.data = .seq #[.int i t,.int j u] n
theorem Ahl{i j:Int}{x y:Value}{Q:Bool->Shared->Prop}(hx:Act s.heap x)(hy:Act s.heap y)(hq:∀b,Q b s):wpAny (model W.prog W.w) A (keyLt' (tuples' true) x y) Q E s:=by
 refine Aa fun nY=>?_
 obtain⟨a,o,i,j,t,u,n,rfl,h1,_,h3⟩:=hx
 obtain⟨a',o',i',j',t',u',n',rfl,h1',_,h3'⟩:=hy
 refine nY ?_;clear nY
 refine kat_lt h1 h3 h1' h3' ?_
 refine kat_cons (wpAny_eqBool_int (kat_go (fun _=>kat_yes ?_) fun _=>kat_no (oneLt_int (hq _))))
 refine kat_cons (wpAny_eqBool_int (kat_go (fun _=>kat_yes (kat_nil (hq _))) fun _=>kat_no ?_))
 exact kat_one _ _ (lt_int (hq _))
theorem W9{h:Heap}:∀ {vs:List Value},(∀v∈vs,Act h v)->∃fs,KatTups h vs fs/\fs.length=vs.length/\∀f∈fs,∃i t,f = .int i t
 | [],_=>⟨[],.nil,rfl,fun _ h=>absurd h List.not_mem_nil⟩
 | v::vs,hv=>by
   obtain⟨fs,h1,h2,h3⟩:=W9 (vs:=vs) fun v hm=>hv v (.tail _ hm)
   obtain⟨a,o,i,j,t,u,n,rfl,q1,q2,q3⟩:=hv v (.head _)
   refine⟨.int i t::fs,.cons q1 q2 q3 rfl h1,by simp[h2],fun f hf=>?_⟩
   rcases List.mem_cons.mp hf with rfl|hf
   ·exact⟨_,_,rfl⟩
   ·exact h3 f hf
theorem N9{a:Addr}{vs:List Value}{n:Nat}{P:PySem.Fin->Shared->Prop}(ho:s.heap.get? a=some (seqObj "list" vs.toArray n))(h2:vs.length<2)
 (h:P (.done (.ret .none)) {s with heap:=sortedHeap s.heap a vs ((vs.toArray.zip vs.toArray).map (·.2))}):wpAny (model W.prog W.w) A (Builtin.«list.sort» ⟨[.ref a],[]⟩) P E s:=by
 rw[list_sort_plain]
 have ha:a<s.heap.objs.size:=Heap.lt_size ho
 refine wpAny_bind (listItems_at ho rfl ?_)
 refine wpAny_bind (listUpdate_at ho rfl ?_ (by rw[List.size_toArray,sizeLine_eq];exact(Nat.le_trans (Nat.le_of_lt h2) (by decide))) (Nat.zero_le _))
 obtain⟨e1,ho1⟩:∃e1,(s.heap.update a (Obj.mapSeq fun _=> #[])).get? a=some (seqObj "list" #[] e1):=⟨_,get?_update_seq ho (fun _=> #[])⟩
 refine wpAny_bind (seqEpoch_at ho1 rfl ?_)
 refine wpAny_bind (wpAny_newTuple ?_ (by show vs.length<=_;rw[sizeLine_eq];exact(Nat.le_trans (Nat.le_of_lt h2) (by decide))))
 refine wpAny_bind (wpAny_newList ?_ (Nat.zero_le _))
 refine wpAny_holding ?_
 have ho6:(((s.heap.update a (Obj.mapSeq fun _=> #[])).push (seqObj "tuple" vs.toArray 0)).push (seqObj "list" #[] 0)).get? a=some (seqObj "list" #[] e1):=by
  rw[Heap.get?_push_ne _ _ _ (by rw[size_push',Heap.size_update];exact Nat.ne_of_lt (Nat.lt_succ_of_lt ha)),Heap.get?_push_ne _ _ _ (by rw[Heap.size_update];exact Nat.ne_of_lt ha)]
  exact ho1
 show wpAny (model W.prog W.w) A _ P E {s with heap:=((s.heap.update a (Obj.mapSeq fun _=> #[])).push (seqObj "tuple" vs.toArray 0)).push (seqObj "list" #[] 0)}
 dsimp only
 have h2':vs.toArray.size<2:=by rw[List.size_toArray];exact h2
 rw[if_pos h2',if_pos h2']
 refine wpAny_bind (wpAny_pure ?_)
 rw[StateT.run_pure]
 refine wpAny_bind (wpAny_pure ?_)
 dsimp only
 refine wpAny_bind (seqEpoch_at ho6 rfl ?_)
 refine wpAny_bind (listUpdate_at ho6 rfl ?_ (Nat.zero_le _) (by rw[Array.size_map];show (pairsOf vs).size<=_;rw[pairsOf_size,sizeLine_eq];exact(Nat.le_trans (Nat.le_of_lt h2) (by decide))))
 simp only[bne_self_eq_false,Bool.false_eq_true,if_false]
 exact wpAny_pure h
theorem Vi{l:Addr}{vs:List Value}{L:Addr}{m:Str->Option Value}{b₀:Heap}{news:List (Addr×Obj)}{Q:Value->Shared->Prop}(F:Fr b₀ L s.heap m)(N:News b₀ L s.heap news)(hl:s.heap.IsList l vs.toArray)(h64:vs.length<64)
 (hp:∀h',Fr b₀ L h' m->(∃ob,News b₀ L h' ((s.heap.objs.size+1,ob)::news))->∀v∈vs,Act h' v)
 (h:∀(h':Heap) (vs':List Value) (e:Nat),Fr b₀ L h' m->News b₀ L h' ((s.heap.objs.size+1,seqObj "list" vs'.toArray e)::news)->vs'.Perm vs->Q (.ref (s.heap.objs.size+1)) {s with heap:=h'}) :
 wpAny (model W.prog W.w) A (call (.builtin "sorted") [.ref l]) Q E s:=by
 refine Calls.call_function_entry kind_sorted plain_sorted entry_sorted (args_sorted1 _) ?_
 unfold Builtin.«sorted»
 refine wpAny_bind (m:=checkCount "sorted" 1 1 _) (wpAny_pure ?_)
 refine wpAny_bind (collect_list hl ?_ (by rw[sizeLine_eq];exact(Nat.le_trans (Nat.le_of_lt h64) (by decide))))
 refine wpAny_bind (wpAny_newList ?_ (by rw[sizeLine_eq];exact(Nat.le_trans (Nat.le_of_lt h64) (by decide))))
 have hsz:((s.heap.push (seqObj "list" #[] 0)).update s.heap.objs.size (Obj.mapSeq (· ++ vs.toArray))).objs.size=s.heap.objs.size+1:=by
  rw[Heap.size_update,size_push']
 have hoL:(((s.heap.push (seqObj "list" #[] 0)).update s.heap.objs.size (Obj.mapSeq (· ++ vs.toArray))).push (seqObj "list" vs.toArray 0)).get? (s.heap.objs.size+1)=some (seqObj "list" vs.toArray 0):=by
  rw[<-hsz];exact Heap.get?_push_size _ rfl
 have keep:∀b o,s.heap.get? b=some o->(((s.heap.push (seqObj "list" #[] 0)).update s.heap.objs.size (Obj.mapSeq (· ++ vs.toArray))).push (seqObj "list" vs.toArray 0)).get? b=some o:=fun b o q=>by
  have hlt:b<s.heap.objs.size:=Heap.lt_size q
  rw[Heap.get?_push_ne _ _ _ (by rw[hsz];exact Nat.ne_of_lt (Nat.lt_succ_of_lt hlt)),Heap.get?_update_ne _ _ _ _ (Nat.ne_of_lt hlt),Heap.get?_push_ne _ _ _ (Nat.ne_of_lt hlt)]
  exact q
 have hL:L<s.heap.objs.size:=F.ns.lt
 show wpAny _ _ _ _ _ {s with heap:=((s.heap.push (seqObj "list" #[] 0)).update s.heap.objs.size (Obj.mapSeq (· ++ vs.toArray))).push (seqObj "list" vs.toArray 0)}
 rw[hsz]
 have F1:=F.kept keep
 have N1:=N.grown keep
 generalize ((s.heap.push (seqObj "list" #[] 0)).update s.heap.objs.size (Obj.mapSeq (· ++ vs.toArray))).push (seqObj "list" vs.toArray 0)=H1 at *
 have haL:=Nat.ne_of_gt (Nat.lt_succ_of_lt hL)
 have ha0:b₀.get? (s.heap.objs.size+1)=none:=Heap.get?_none_of_le (Nat.le_trans F.above (Nat.le_succ_of_le (Nat.le_of_lt hL)))
 have hna:∀p∈news,p.1≠s.heap.objs.size+1:=fun p hp=>Nat.ne_of_lt (Nat.lt_succ_of_lt (Heap.lt_size (N p hp).1))
 refine wpAny_bind (wpAny_holding (wpAny_call_entry slot_list_sort ⟨_,hoL,rfl⟩ entry_list_sort ?body (args_list_sort _)))
 case body=>
  refine Aa fun nY=>?_
  by_cases h2:2<=vs.length
  ·refine nY ?_;clear nY
   refine kat_list_sort (s:={s with heap:=H1}) F1 N1 hoL haL ha0 hna h2 h64 fun e1 h' F' N'=>?_
   have hpr:=hp h' F' ⟨_,N'⟩
   refine Aa fun nY=>?_
   obtain⟨fs,t1,t2,t3⟩:=W9 hpr
   refine nY ?_;clear nY
   refine kat_kind t1 (t2▸Nat.lt_of_lt_of_le (by decide) h2) (T:= .type "int") (fun v hv=>?_) rfl ?_
   ·obtain⟨i,t,rfl⟩:=t3 v hv
    exact Looks.of_pure rfl
   refine Ok.wp (fun i j C hi hj hC=>?_) (fun p hpm=>?_) _ (Acs (n:=vs.length) (Nat.lt_of_succ_lt h2))
   ·have at_:∀k,k<vs.length->vs.getD k Value.none∈vs:=fun k hk=>by
     rw[List.getD_eq_getElem?_getD,List.getElem?_eq_getElem hk];exact List.getElem_mem _
    exact Ahl (i:=0) (j:=0) (hpr _ (at_ i hi)) (hpr _ (at_ j hj)) hC
   ·exact KasFin.intro F' N' (.head hna) fun h2 c F2 N2=>⟨_,rfl,wpAny_pure ⟨_,rfl,h h2 _ c F2 N2 (Aaa hpm rfl)⟩⟩
  ·have eo:((vs.toArray.zip vs.toArray).map (·.2)).toList=vs:=by
    rw[Array.toList_map,Array.toList_zip]
    exact List.map_snd_zip (Nat.le_refl _)
   refine nY ?_;clear nY
   refine N9 (s:={s with heap:=H1}) hoL (Nat.not_le.mp h2) ⟨_,rfl,?_⟩
   obtain⟨ee,he⟩:=sortedHeap_at (out:=(vs.toArray.zip vs.toArray).map (·.2)) hoL
   have keep2:∀b o,s.heap.get? b=some o->(sortedHeap H1 (s.heap.objs.size+1) vs ((vs.toArray.zip vs.toArray).map (·.2))).get? b=some o:=fun b o e=>by
    have hb:=Heap.lt_size e
    rw[sortedHeap_old (Nat.ne_of_lt (Nat.lt_succ_of_lt hb)) (Heap.lt_size (keep b o e))]
    exact keep b o e
   have hw:=h _ ((vs.toArray.zip vs.toArray).map (·.2)).toList ee (F.kept keep2) (N.kept_cons F keep2 (Nat.le_succ _) he) (by rw[eo])
   exact wpAny_pure ⟨_,rfl,hw⟩
theorem Acu{x:V}(h:Ags H x=true):∃t i j,x = .ref t/\H t=some (.tuple [.int i,.int j]):=by
 refine Aa fun no=>?_
 cases x<;>try (cases h;done)
 rename_i t
 replace h:(match H t with|some (.tuple [.int _,.int _])=>true|_=>false)=true:=h
 cases q:H t with
 | none=>rw[q]at h;cases h
 | some o=>
   rw[q]at h
   cases o<;>try (cases h;done)
   rename_i xs
   rcases xs with _ | ⟨a,_ | ⟨b,_ | ⟨c',r'⟩⟩⟩<;>try (cases h;done)
   all_goals cases a<;>try (cases h;done)
   all_goals cases b<;>try (cases h;done)
   exact no ⟨_,_,_,rfl,q⟩
theorem T9(Y:An W env c h₀)(R:A1 W h₀ env names H ρ s){m:Str->Option Value}(F:Fr W.b₀ env.locals s.heap m){l:Addr}{l1:List Value}{xs:List V}(h1:s.heap.IsList l l1.toArray)(r1:Dj W xs l1)(z1:xs.length<=Bq)(q:Wq xs H Q) :
 wpAny W.M A (call (.builtin "sorted") [.ref l]) (Bv W h₀ env names ρ Q) E s:=by
 refine Vi (W:=W) F X3 h1 (by rw[<-r1.length];exact q.1) (fun h' F' ⟨_,N'⟩ v hv=>?_) fun h' vs' e F' N' hpm=>?_
 ·refine Aa fun nY=>?_
  obtain⟨i,hi⟩:=List.mem_iff_getElem?.mp hv
  obtain⟨x,hx,rx⟩:=Dj.get' i r1 hi
  obtain⟨t,i',j',rfl,ht⟩:=Acu (List.all_eq_true.mp q.2.1 x (List.mem_of_getElem? hx))
  cases rx
  obtain⟨l2,⟨o,ho,hc,nn,hdd⟩,r2,z2⟩:=R.isTup ht
  cases r2 with
  | cons ra rb=>
    cases rb with
    | cons rb rc=>
      cases rc;cases ra;cases rb
      refine nY ?_;clear nY
      exact⟨_,o,_,_,_,_,nn,rfl,Sl R Y F' N' (fun p hp=> .tail _ hp) _ _ (R.sep _ _ ht).2.1 ho,hc,hdd⟩
 ·refine Aa fun nY=>?_
  obtain⟨xs',hx1,hx2⟩:=Aab hpm r1
  obtain⟨e',R'⟩:=Oj (t:=s.toks) R Y F F' N' (Nat.le_succ _) (E4 hx2 (by rw[hx1.length_eq];exact z1))
  refine nY ?_;clear nY
  exact Bv.mk (.ref _) R' (q.2.2 xs' hx1 _ e')
theorem Vj(ok:Rg A c h₀ env Er n)(hf:c.hnd=false)(Y:An W env c h₀)(R:A1 W h₀ env names H ρ s){b:BI}{vs:List V}{us:List Value}(hd:Pf b=true)(hv:Dj W vs us)(q:C9 b vs H Q) :
 wpAny W.M A (call (Aej b) us) (Bv W h₀ env names ρ Q) E s:=by
 refine Aa fun nY=>?_
 obtain⟨m,F⟩:=R.kitF Y
 have N:News W.b₀ env.locals s.heap _:=X3
 have hh:=ok.handled hf
 have b63:=T4
 cases b<;>first|(cases hd;done)|exact False.elim q|skip
 case len=>
  replace q:Nb vs H Q:=q
  refine nY ?_;clear nY
  apply L9 hv q;intro v u h q
  induction h with
  | script=>
    refine Aa fun nY=>?_
    obtain⟨l1,h1,r1,z1⟩:=R.script Y
    have r2:Dj W (W.sn.map V.int) l1:=Gz r1
    refine nY ?_;clear nY
    have hl:W.sn.length=l1.length:=by have:=r2.length;simpa using this
    have hs:((l1.toArray.size:Nat):Int)=W.sn.length:=by simp[hl]
    exact len_list h1 (by rw[hs];exact Ajk b63 z1 hl) (by rw[hs];exact Bv.mk (.int _ _) (R.toks _) q)
  | ref a=>
    dsimp only at q
    refine Aa fun nY=>?_
    split at q
    ·rename_i xs e
     obtain⟨l1,h1,r1,z1⟩:=R.isList e
     have hs:((l1.toArray.size:Nat):Int)=xs.length:=by simp[r1.length]
     refine nY ?_;clear nY
     exact len_list h1 (by rw[hs];exact Acf b63 z1) (by rw[hs];exact Bv.mk (.int _ _) (R.toks _) q)
    ·rename_i xs e
     obtain⟨l1,h1,r1,z1⟩:=R.isTup e
     have hs:((l1.toArray.size:Nat):Int)=xs.length:=by simp[r1.length]
     refine nY ?_;clear nY
     exact PyProof.Rows.len_tuple h1 (by rw[hs];exact Acf b63 z1) (by rw[hs];exact Bv.mk (.int _ _) (R.toks _) q)
    ·rename_i es e
     obtain⟨kvs,h1,r1,z1⟩:=R.isDict e
     have hs:(kvs.length:Int)=es.length:=by rw[r1.length]
     refine nY ?_;clear nY
     exact call_len_dict (R.noSys Y e) h1 (by rw[hs];exact Acf b63 z1) (by rw[hs];exact Bv.mk (.int _ _) (R.toks _) q)
    ·exact q.elim
  | _=>exact False.elim q
 case list=>
  replace q:Ik vs H Q:=q
  refine nY ?_;clear nY
  apply L9 hv q;intro v u h q;apply Bh h q;intro a q
  refine Aa fun nY=>?_
  split at q
  ·rename_i xs e
   obtain⟨l1,⟨o,ho,hc,nn,hdd⟩,r1,z1⟩:=R.isList e
   refine nY ?_;clear nY
   refine call_list_seq (hsz:=by simp[<-r1.length];exact Nat.le_trans z1 C0) _ (.inl rfl) ho hc hdd fun h' c' hk hD=>?_
   exact Bv.mk (.ref _) (R.put s.toks hk hD (E4 r1 z1) (Cd _) fun _ _=>R.up) (q _ R.fresh)
  ·rename_i xs e
   obtain⟨l1,⟨o,ho,hc,nn,hdd⟩,r1,z1⟩:=R.isTup e
   refine nY ?_;clear nY
   refine call_list_seq (hsz:=by simp[<-r1.length];exact Nat.le_trans z1 C0) _ (.inr rfl) ho hc hdd fun h' c' hk hD=>?_
   exact Bv.mk (.ref _) (R.put s.toks hk hD (E4 r1 z1) (Cd _) fun _ _=>R.up) (q _ R.fresh)
  ·exact q.elim
 case sorted=>
  replace q:G7 vs H Q:=q
  refine nY ?_;clear nY
  apply L9 hv q;intro v u h q;apply Bh h q;intro a q
  refine Aa fun nY=>?_
  split at q
  ·rename_i xs e
   obtain⟨l1,h1,r1,z1⟩:=R.isList e
   split at q
   ·rename_i ns e2
    have hI:=Gy r1 e2
    refine nY ?_;clear nY
    refine sorted_N F N h1 hI (by rw[<-r1.length,<-ints?_length e2];exact q.1) fun h' vs' ns' ee F' N' a1 a2 a3=>?_
    have en:ns'=Bd ns:=K2 (a2.trans (Cj ns).symm) a3 (D1 ns)
    subst en
    have hz:((Bd ns).map V.int).length<=Bq:=by
     rw[List.length_map,(Cj ns).length_eq,ints?_length e2];exact z1
    obtain⟨e,R'⟩:=Oj (t:=s.toks) R Y F F' N' (Nat.le_succ _) (E4 (Gz a1) hz)
    exact Bv.mk (.ref _) R' (q.2 _ e)
   ·refine nY ?_;clear nY
    exact T9 Y R F h1 r1 z1 q
  ·rename_i es e
   obtain⟨kvs,h1,r1,z1⟩:=R.isDict e
   obtain⟨ep,hat⟩:=h1.dictAt
   refine nY ?_;clear nY
   refine T7 (R.noSys Y e) hh hat (by rw[<-r1.length];exact Nat.le_trans z1 C0) r1 (by rw[<-r1.length];exact q.1) fun D h' tk ee vs hn hlt hk ho hI=>?_
   have hb:W.b₀.objs.size<=D:=by
    refine Aa fun nY=>?_
    obtain⟨m,⟨o,_,_,h,_⟩,_⟩:=R.ns
    refine nY ?_;clear nY
    exact Nat.le_trans R.above (Nat.le_of_lt (hlt _ (by rw[h];simp)))
   exact Bv.mk (.ref _) (R.put tk hk ho (E4 (Gz hI) (by rw[List.length_map,(Cj _).length_eq,List.length_map];exact z1)) hn fun _ _=>hb) (q.2 _ (R.new_sep hn hb).1)
  ·exact q.elim
 case max=>
  replace q:Aed vs H Q:=q
  refine nY ?_;clear nY
  apply Z0 hv q;intro v w u u' h h' q;apply A3 h q;intro i t q;apply A3 h' q;intro j t' q
  refine max_two_N hh F N fun h' tk F' N'=>?_
  have e:∀i j:Int,(if j>i then j else i)=max i j:=by intro i j;split<;>(first|lia|omega)
  rw[e]
  exact Bv.mk (.int _ _) (Pd R Y F F' N') q
 case min=>
  replace q:Aee vs H Q:=q
  refine nY ?_;clear nY
  apply Z0 hv q;intro v w u u' h h' q;apply A3 h q;intro i t q;apply A3 h' q;intro j t' q
  refine min_two_N hh F N fun h' tk F' N'=>?_
  have e:∀i j:Int,(if j<i then j else i)=min i j:=by intro i j;split<;>(first|lia|omega)
  rw[e]
  exact Bv.mk (.int _ _) (Pd R Y F F' N') q
 case minL=>
  replace q:G8 vs H Q:=q
  refine nY ?_;clear nY
  apply L9 hv q;intro v u h q;apply Bh h q;intro a q;refine Fb q fun xs e q=>?_
  refine Aa fun nY=>?_
  obtain⟨l1,h1,r1,z1⟩:=R.isList e
  split at q
  ·rename_i x ns e2
   have hI:=Gy r1 e2
   refine nY ?_;clear nY
   refine min_list_N hh F N h1 hI (by simp) fun h' M t tk F' N' m1 m2=>?_
   obtain⟨f1,f2⟩:=Sn ns x
   have e:M=ns.foldl min x:=Int.le_antisymm (m2 _ f1) (f2 _ m1)
   subst e
   exact Bv.mk (.int _ _) (Pd R Y F F' N') q
  ·exact q.elim
 case all=>
  replace q:Nc vs H Q:=q
  refine nY ?_;clear nY
  apply L9 hv q;intro v u h q;apply Bh h q;intro a q;refine Fb q fun xs e q=>?_;refine Cv q fun bs e2 q=>?_
  refine Aa fun nY=>?_
  obtain⟨l1,h1,r1,z1⟩:=R.isList e
  have hb:=Z6 r1 e2
  subst hb
  refine nY ?_;clear nY
  refine call_all_walk (wpAny_pyIter_list h1 ?_)
  refine⟨_,_,_,_,_,_,fun i=>bs.getD i false,rfl,Walks.list (A:=A.in1) hh s.heap.objs.size _ (Nat.ne_of_lt (Heap.lt_size h1.choose_spec.1)) _,⟨⟨_,Heap.get?_push_size _ rfl,rfl,rfl⟩,h1.at fun o e=>Heap.get?_push_of_some _ e⟩,?_,?_⟩
  ·intro i v s' Q' E' hP hq
   have hP':bs[i]?.map Value.bool=some v:=by simpa using hP
   obtain⟨b,b1,rfl⟩:=Option.map_eq_some_iff.mp hP'
   refine wpAny_truthy_bool ?_
   have:bs.getD i false=b:=by simp[b1]
   exact this▸hq
  ·intro h' tk hk
   have:(bs.map Value.bool).toArray.size=bs.length:=by simp
   rw[this,X6]
   refine Bv.mk (.bool _) (R.move tk fun b o e=>hk b o ?_ (Heap.get?_push_of_some _ e)) q
   intro hm;rw[List.mem_singleton.mp hm]at e;exact absurd (Heap.lt_size e) (Nat.lt_irrefl _)
end Mine.Internal
namespace Mine.Internal
open PySem PySem.W PyProof.Rows
variable {W:Wd} {A:Around} {h₀:HB} {env:Env} {c:Cx} {names:List Str} {H:AH} {ρ:Ak} {s:Shared} {E:Value->Shared->Prop} {n:Nat} {Q:Ah} {Er:EP}
noncomputable def Ae7:LM->String
 | .append=> "list.append" | .clear=> "list.clear" | .count=> "list.count" | .extend=> "list.extend" | .index=> "list.index" | .remove=> "list.remove" | .reverse=> "list.reverse"
 | .setdefault=> "dict.setdefault" | .split=> "str.split" | .join=> "str.join"
theorem My{vs:List Value}{ns:List Int}(h:IntsAre vs ns):∀j,IntsAre (vs.eraseIdx j) (ns.eraseIdx j):=by
 induction h with
 | nil=>exact fun _=> .nil
 | cons n t h ih=>
   intro j
   cases j with
   | zero=>exact h
   | succ j=>exact .cons n t (ih j)
theorem X7{k:Int}{ns:List Int}(h:k∈ns):ns.erase k=ns.eraseIdx (ns.idxOf k):=by
 induction ns with
 | nil=>cases h
 | cons x r ih=>
   refine Aa fun nY=>?_
   by_cases e:x=k
   ·refine nY ?_;clear nY
    subst e;simp
   ·have:(x==k)=false:=by simpa using e
    refine nY ?_;clear nY
    rw[List.erase_cons,List.idxOf_cons,this]
    simp only[Bool.false_eq_true,if_false,cond_false,List.eraseIdx_cons_succ]
    rw[ih ((List.mem_cons.mp h).resolve_left fun q=>e q.symm)]
theorem Rl{k:Int}{l1:List Value}{ns:List Int}(hI:IntsAre l1 ns)(hk:k∈ns):∃h:ns.idxOf k<l1.toArray.size,isInt k l1.toArray[ns.idxOf k]=true/\∀m (hm:m<l1.toArray.size),m<ns.idxOf k->isInt k l1.toArray[m]=false:=by
 have hj:=List.idxOf_lt_length_of_mem hk
 have hl:ns.length=l1.length:=hI.length.symm
 have hj':ns.idxOf k<l1.length:=hl▸hj
 refine⟨by simpa using hj',?_,fun m hm hlt=>?_⟩
 ·have:=isInt_at k hI _ hj' hj
  simp only[List.getElem_toArray]
  rw[this]
  simp
 ·have hm':m<l1.length:=by simpa using hm
  have:=isInt_at k hI m hm' (hl▸hm')
  simp only[List.getElem_toArray]
  rw[this]
  exact ne_of_lt_idxOf hlt _
theorem X8{l:Addr}{k:Int}{t:Tok}{l1:List Value}{ns:List Int}{nn:Nat}{Q:Value->Shared->Prop}(h1:s.heap.get? l=some {cls:= .type "list",data:= .seq l1.toArray nn})(hI:IntsAre l1 ns)(hk:k∈ns)
 (hz:(l1.length:Int)<2 ^ 63) (h:Q (.int (ns.idxOf k:Nat) s.toks) {s with toks:=s.toks+1}):wpAny W.M A (call (.builtin "list.index") [.ref l,.int k t]) Q E s:=by
 refine Aa fun nY=>?_
 obtain⟨a1,a2,a3⟩:=Rl hI hk
 refine nY ?_;clear nY
 refine call_meets F.slot_list_index ⟨_,h1,rfl⟩ F.entry_list_index (F.args_list_index_2 _ _) (SeqAt.list_indexAt l l1.toArray nn none #[] (.int k t) (isInt k) (ns.idxOf k) a1
  (by have:l1.toArray.size=l1.length:=by simp
      exact Ajl hz a1 this) a2 a3) ⟨h1,fun y hy=>(eq_isInt k t hI y (by simpa using hy)).at _ _,h⟩
theorem Vk{l:Addr}{k:Int}{t:Tok}{l1:List Value}{ns:List Int}{nn:Nat}{Q:Value->Shared->Prop}(h1:s.heap.get? l=some {cls:= .type "list",data:= .seq l1.toArray nn})(hI:IntsAre l1 ns)(hk:k∈ns)
 (hz:l1.length<=sizeLine) (h:Q .none {s with heap:=s.heap.update l (Obj.mapSeq fun xs=>xs.eraseIdxIfInBounds (ns.idxOf k))}):wpAny W.M A (call (.builtin "list.remove") [.ref l,.int k t]) Q E s:=by
 refine Aa fun nY=>?_
 obtain⟨a1,a2,a3⟩:=Rl hI hk
 refine nY ?_;clear nY
 exact call_meets F.slot_list_remove ⟨_,h1,rfl⟩ F.entry_list_remove (F.args_list_remove_2 _ _) (MeetsSeq.list_remove l l1.toArray nn (.int k t) (isInt k) (fun y hy=>eq_isInt k t hI y (by simpa using hy)) (ns.idxOf k) a1 a2 a3
  (by simpa using hz)) ⟨h1,h⟩
theorem Vl(ok:Rg A c h₀ env Er n)(Y:An W env c h₀)(R:A1 W h₀ env names H ρ s){m:LM}{o:V}{vs:List V}{uo:Value}{us:List Value}(ho:VR W o uo)(hv:Dj W vs us)(q:Gk m o vs H Q) :
 wpAny W.M A (call (.builtin (Ae7 m)) (uo::us)) (Bv W h₀ env names ρ Q) E s:=by
 have b63:=T4
 cases m<;>try exact q.elim
 case append=>
  replace q:Ez o vs H Q:=q
  apply Bh ho q;intro a q;apply L9 hv q;intro v u h q;refine Fb q fun xs e q=>?_
  obtain⟨l1,nn,h1,r1,z1⟩:=R.lst e
  refine call_meets F.slot_list_append ⟨_,h1,rfl⟩ F.entry_list_append (F.args_list_append_2 _ _) (list_append _ l1.toArray nn u (by simp[<-r1.length];exact Nat.le_trans z1 C0)) ⟨h1,?_⟩
  exact Bv.mk .none (R.changeL e h1 (·.push u) (items':=l1 ++ [u]) (by simp) (r1.append (.cons h .nil)) (by simp;exact q.1) s.toks) q.2
 case count=>
  replace q:G9 o vs H Q:=q
  apply Bh ho q;intro a q;apply L9 hv q;intro v u h q;apply A3 h q;intro k t q;refine Fb q fun xs e q=>?_;refine Cv q fun ns e2 q=>?_
  obtain⟨l1,h1,r1,z1⟩:=R.isList e
  exact count_list_ints h1 (Gy r1 e2) (Bv.mk (.int _ _) (R.toks _) q)
 case index=>
  replace q:Ha o vs H Q:=q
  apply Bh ho q;intro a q;apply L9 hv q;intro v u h q;refine Fb q fun xs e q=>?_
  induction h with
  | int k t=>
    refine Cv q fun ns e2 q=>?_
    obtain⟨l1,nn,h1,r1,z1⟩:=R.lst e
    exact X8 h1 (Gy r1 e2) q.1 (by rw[<-r1.length];exact Acf b63 z1) (Bv.mk (.int _ _) (R.toks _) q.2)
  | _=>exact False.elim q
 case remove=>
  replace q:E0 o vs H Q:=q
  apply Bh ho q;intro a q;apply L9 hv q;intro v u h q;apply A3 h q;intro k t q;refine Fb q fun xs e q=>?_;refine Cv q fun ns e2 q=>?_
  obtain⟨l1,nn,h1,r1,z1⟩:=R.lst e
  have hI:=Gy r1 e2
  refine Vk h1 hI q.1 (by rw[<-r1.length];exact Nat.le_trans z1 C0) ?_
  refine Bv.mk .none (R.changeL e h1 (fun xs=>xs.eraseIdxIfInBounds _) (items':=l1.eraseIdx _) (by simp;rfl) ?_ ?_ s.toks) q.2
  ·rw[X7 q.1];exact Gz (My hI _)
  ·rw[List.length_map,List.length_erase_of_mem q.1,ints?_length e2];exact Nat.le_trans (Nat.sub_le _ _) z1
 case reverse=>
  replace q:Dt o vs H Q:=q
  apply Bh ho q;intro a q;apply Ahi hv q;intro q;refine Fb q fun xs e q=>?_
  obtain⟨l1,nn,h1,r1,z1⟩:=R.lst e
  refine call_meets F.slot_list_reverse ⟨_,h1,rfl⟩ F.entry_list_reverse (F.args_list_reverse_1 _) (AutoSeq1.list_reverse_list_0 _ l1.toArray nn (by simp[<-r1.length];exact Nat.le_trans z1 C0)) ⟨h1,?_⟩
  exact Bv.mk .none (R.changeL e h1 (·.reverse) (items':=l1.reverse) (by simp) r1.reverse (by simpa using z1) s.toks) q
 case setdefault=>
  replace q:Ce o vs H Q:=q
  apply Bh ho q;intro a q;apply Z0 hv q;intro i v u u' h h' q;apply A3 h q;intro k t q;refine Ahj q fun es e q=>?_
  obtain⟨kvs,h1,r1,z1⟩:=R.isDict e
  refine call_meetsIn F.slot_dict_setdefault h1.typeIs F.entry_dict_setdefault (F.args_dict_setdefault_3 _ _ _) (kt_meets_setdefault (intKind W.prog W.w) _ (intKind_is _ _ _ _) (R.noSys Y e) u')
   ⟨kvs,h1,by rw[<-r1.length];exact Nat.le_trans z1 C0,fun v hv=>?_,fun hn h2 h3 h4=>?_⟩
  ·rw[Fc]at hv
   obtain⟨d1,d2⟩:=A1.dget r1 _
   rw[hv]at d1
   cases hg:dget es _ with
   | none=>rw[hg]at d1;cases d1
   | some w=>
     rw[hg]at q
     obtain⟨c',c1,c2⟩:=d2 w hg
     rw[hv]at c1;cases c1
     exact Bv.mk c2 (R.toks _) q
  ·rw[Fc]at hn
   obtain⟨d1,d2⟩:=A1.dget r1 _
   rw[hn]at d1
   cases hg:dget es _ with
   | some w=>rw[hg]at d1;cases d1
   | none=>
     rw[hg]at q
     obtain⟨ob,h5,h6⟩:=Nt h3
     exact Bv.mk h' (R.change _ e h4 h5 (.dict (r1.put h' (Mb h1)) (Nat.le_trans (Ma _ _ _) q.1) h6) fun _ _=>⟨_,rfl⟩) q.2
end Mine.Internal
namespace Mine.Internal
open PySem PySem.W PyProof.Rows
variable {W:Wd} {A:Around} {h₀:HB} {env:Env} {c:Cx} {names:List Str} {H:AH} {ρ:Ak} {s:Shared} {E:Value->Shared->Prop} {n:Nat} {Q:Ah} {Er:EP}
theorem So{b₀:Heap}{L:Addr}{h:Heap}:(Hh b₀ L h).Pairwise fun p q=>p.1≠q.1:=by
 unfold Hh
 rw[List.pairwise_filterMap]
 refine List.nodup_range.imp ?_
 intro a b hab p hp q hq
 split at hp
 ·cases hp
 ·split at hq
  ·cases hq
  ·obtain⟨o1,_,rfl⟩:=Option.map_eq_some_iff.mp hp
   obtain⟨o2,_,rfl⟩:=Option.map_eq_some_iff.mp hq
   exact hab
theorem Ph{d:Addr}{o o':Obj}:∀ {l:List (Addr×Obj)},l.Pairwise (fun p q=>p.1≠q.1)->(d,o)∈l->(Q9 fun l'=>E6 (Upd d o o' l l') ((d,o')∈l') (∀p∈l,p.1≠d->p∈l'))
 | [],_,h=>nomatch h
 | p::r,hp,hm=>by
   obtain⟨h1,h2⟩:=List.pairwise_cons.mp hp
   rcases List.mem_cons.mp hm with rfl|hm
   ·exact⟨_,.head fun q hq=>(h1 q hq).symm,.head _,fun q hq hne=>by
     rcases List.mem_cons.mp hq with rfl|hq
     ·exact absurd rfl hne
     ·exact .tail _ hq⟩
   ·obtain⟨l',u,m,k⟩:=Ph h2 hm
    exact⟨_,.tail (h1 _ hm) u,.tail _ m,fun q hq hne=>by
     rcases List.mem_cons.mp hq with rfl|hq
     ·exact .head _
     ·exact .tail _ (k q hq hne)⟩
theorem A1.changeK(R:A1 W h₀ env names H ρ s)(Y:An W env c h₀){h':Heap}{a:Addr}{o o':O}{ob:Obj}{m:Str->Option Value}(t:Nat)(he:H a=some o')(hm:s.heap.Ns env.locals m)(hm':h'.Ns env.locals m)
 (k:∀b o,b≠a->b≠env.locals->s.heap.get? b=some o->h'.get? b=some o) (ho:h'.get? a=some ob) (r:OR W o ob) (hl:∀es,o = .dict es->∃es',o' = .dict es'):A1 W h₀ env names (upd H a o) ρ {s with heap:=h',toks:=t}:=by
 refine Aa fun nY=>?_
 obtain⟨s1,s2,s3⟩:=R.sep a o' he
 refine nY ?_;clear nY
 refine⟨?_,?_,?_,?_,?_,R.gens,R.os,R.above,?_⟩
 ·refine Aa fun nY=>?_
  obtain⟨m₁,h1,h2⟩:=R.ns
  refine nY ?_;clear nY
  refine⟨m,hm',fun x i v e1 e2 e3=>?_⟩
  refine Aa fun nY=>?_
  obtain⟨c,h3,h4⟩:=h2 x i v e1 e2 e3
  refine nY ?_;clear nY
  refine⟨c,?_,h4⟩
  refine Aa fun nY=>?_
  obtain⟨o,es,ep,a1,a2,a3,a4⟩:=h1
  obtain⟨o',es',ep',b1,b2,b3,b4⟩:=hm
  rw[a1]at b1;cases b1
  rw[a2]at b2;cases b2
  refine nY ?_;clear nY
  rw[<-b4,a4];exact h3
 ·intro x c e
  refine Aa fun nY=>?_
  obtain⟨w,⟨oc,hc,hd⟩,r⟩:=R.cell x c e
  refine nY ?_;clear nY
  exact⟨w,⟨oc,k _ _ (fun q=>s3 x (q▸e)) (Y.apart x c e) hc,hd⟩,r⟩
 ·intro b x e
  refine Aa fun nY=>?_
  obtain⟨x',e1,z⟩:=R.keep b x e
  refine nY ?_;clear nY
  exact⟨x',k b x' (fun q=>by rw[q,s1]at e;cases e) (fun q=>by rw[q,Y.new]at e;cases e) e1,z⟩
 ·intro b x e
  unfold upd at e
  refine Aa fun nY=>?_
  split at e
  ·refine nY ?_;clear nY
   rename_i q;subst q;cases e;exact⟨ob,ho,r⟩
  ·refine nY ?_;clear nY
   rename_i q;obtain⟨ob',h1,h2⟩:=R.objs b x e;exact⟨ob',k _ _ q (R.sep b x e).2.1 h1,h2⟩
 ·intro b x e
  unfold upd at e
  refine Aa fun nY=>?_
  split at e
  ·refine nY ?_;clear nY
   rename_i q;subst q;exact⟨s1,s2,s3⟩
  ·refine nY ?_;clear nY
   exact R.sep b x e
 ·intro b x e
  unfold upd at e
  refine Aa fun nY=>?_
  split at e
  ·refine nY ?_;clear nY
   rename_i q;subst q;obtain⟨es',rfl⟩:=hl _ (Option.some.inj e);exact R.low b _ he
  ·refine nY ?_;clear nY
   exact R.low b x e
noncomputable def Xa:List Ct:=[.many,.rows,.order,.ring,.crowd,.colours]
theorem Pi(a:Ct):a∈Xa:=by cases a<;>decide
theorem Nv{a b:Ct}(h:A9 a=A9 b):a=b:=by
 cases a<;>cases b<;>first|rfl|(revert h;decide)
noncomputable def Sp(K:Frag)(C:Addr):Bool:=
 hasDictIn K C&&plainOver K C&&findIn K (.ref C) "__setattr__" == some (some (.builtin "object.__setattr__")) &&
 Xa.all fun a=>plainGet K C (A9 a)&&findIn K (.ref C) (A9 a)==some none&&takerIn K C (A9 a)==some none
structure Sq(K:Frag)(C:Addr):Prop where
 dict:hasDictIn K C=true
 over:plainOver K C=true
 set:findIn K (.ref C) "__setattr__" = some (some (.builtin "object.__setattr__"))
 get:∀a,plainGet K C (A9 a)=true
 noc:∀a,findIn K (.ref C) (A9 a)=some none
 take:∀a,takerIn K C (A9 a)=some none
theorem Mz{K:Frag}{C:Addr}(h:Sp K C=true):Sq K C:=by
 unfold Sp at h
 simp only[Bool.and_eq_true,beq_iff_eq,List.all_eq_true]at h
 obtain⟨⟨⟨h1,h2⟩,h3⟩,h4⟩:=h
 exact⟨h1,h2,h3,fun a=>(h4 a (Pi a)).1.1,fun a=>(h4 a (Pi a)).1.2,fun a=>(h4 a (Pi a)).2⟩
theorem Vm(x:Str)(t:Tok):(Value.str x t).isStr x=true:=by simp[Value.isStr]
theorem I0{x y:Str}(h:x≠y)(t:Tok):(Value.str x t).isStr y=false:=by simpa[Value.isStr]using h
theorem X2.get{fs:List (Ct×V)}{es:List DictEntry}(h:X2 W fs es)(a:Ct):match Ds fs a with
 | some v=>∃c,getL (A9 a) es=some (some c)/\VR W v c
 | none=>getL (A9 a) es=some none:=by
 have noref:es.any (·.refKey)=false:=by
  induction h with
  | nil=>rfl
  | cons h1 h2 _ _ ih=>obtain⟨t,h2⟩:=h2;simp only[List.any_cons,ih,Bool.or_false];simp[DictEntry.refKey,h2]
 have key:match Ds fs a with
  | some v=>∃e,es.find? (·.key.isStr (A9 a))=some e/\VR W v e.val
  | none=>es.find? (·.key.isStr (A9 a))=none:=by
  clear noref
  induction h with
  | nil=>rfl
  | @cons b v fs e es h1 h2 h3 _ ih=>
    obtain⟨t,h2⟩:=h2
    unfold Ds at ih ⊢
    rw[List.lookup_cons,List.find?_cons]
    by_cases q:a=b
    ·subst q;simp only[beq_self_eq_true,h1];exact⟨e,rfl,h3⟩
    ·have q1:(a==b)=false:=by simpa using q
     have q2:e.key.isStr (A9 a)=false:=by rw[h2];exact I0 (fun z=>q (Nv z.symm)) t
     simp only[q1,q2];exact ih
 unfold getL
 cases hg:Ds fs a with
 | some v=>rw[hg]at key;obtain⟨e,e1,e2⟩:=key;exact⟨_,by rw[e1],e2⟩
 | none=>rw[hg]at key;simp only at key ⊢;rw[key,noref];rfl
theorem X2.put{fs:List (Ct×V)}{es:List DictEntry}(h:X2 W fs es)(a:Ct){v:V}{c:Value}(hv:VR W v c)(hsh:Int)(t:Tok):X2 W (Ij fs a v) (putL (A9 a) hsh (.str (A9 a) t) c es):=by
 induction h with
 | nil=>exact .cons (Vm _ _) ⟨t,rfl⟩ hv .nil
 | @cons b v' fs e es h1 h2 h3 h4 ih=>
   obtain⟨t',h2⟩:=h2
   unfold Ij putL
   by_cases q:a=b
   ·subst q;rw[if_pos rfl,h1];exact .cons h1 ⟨t',h2⟩ hv h4
   ·have q2:e.key.isStr (A9 a)=false:=by rw[h2];exact I0 (fun z=>q (Nv z.symm)) t'
    rw[if_neg q,q2];exact .cons h1 ⟨t',h2⟩ h3 ih
theorem X2.length{fs:List (Ct×V)}{es:List DictEntry}(h:X2 W fs es):fs.length=es.length:=by
 induction h with
 | nil=>rfl
 | cons _ _ _ _ ih=>simp[ih]
theorem Ua(fs:List (Ct×V))(a:Ct)(v:V):(Ij fs a v).length<=fs.length+1:=by
 induction fs with
 | nil=>simp[Ij]
 | cons p t ih=>
   obtain⟨b,w⟩:=p
   unfold Ij
   split
   ·simp
   ·simp only[List.length_cons];exact Nat.succ_le_succ ih
theorem A1.inst(R:A1 W h₀ env names H ρ s){a d:Addr}{cc:Kb}{fs:List (Ct×V)}(h1:H a=some (.inst cc d))(h2:H d=some (.ns fs)) :
 (cc = .web\/cc = .verdict)/\(Ii fun es n=>Td (InstAt s.heap a (instObj (W.cl cc) d) (W.cl cc) (some (dictOf es n))) (X2 W fs es) (fs.length<=10) (s.heap.get? d=some (dictOf es n))):=by
 refine Aa fun nY=>?_
 obtain⟨o1,a1,a2⟩:=R.objs _ _ h1
 obtain⟨o2,b1,b2⟩:=R.objs _ _ h2
 cases a2 with
 | inst hcc=>
   cases b2 with
   | ns r z=>(refine nY ?_;clear nY;exact⟨hcc,_,_,⟨a1,rfl,rfl,b1⟩,r,z,b1⟩)
theorem Ae8{v:V}{c:Value}(h:VR W v c):handedIn c=true:=by induction h<;>rfl
theorem Ql(Y:An W env c h₀)(X:W.K.In W.b₀)(I:∀cc,cc = .web\/cc = .verdict->Sq W.K (W.cl cc))(R:A1 W h₀ env names H ρ s){o:V}{u:Value}{a:Ct}{b:Bool}(ho:VR W o u)(q:getAttr o a H Q) :
 wpAny W.M A (PySem.getAttr u (A9 a) b) (Bv W h₀ env names ρ Q) E s:=by
 obtain⟨m,F⟩:=R.kitF Y
 delta Mine.Internal.getAttr at q
 apply Bh ho q
 intro x q
 refine Tx q fun cc d e1 q=>?_
 refine Ve q fun fs e2 q=>?_
 refine Cv q fun v e3 q=>?_
 refine Aa fun nY=>?_
 obtain⟨hcc,es,nn,i1,r1,z1,_⟩:=R.inst e1 e2
 have K:=I cc hcc
 have:=r1.get a
 rw[e3]at this
 obtain⟨cv,g1,g2⟩:=this
 refine nY ?_;clear nY
 exact get_own F X i1 (K.get a) K.dict (K.noc a) rfl g1 (Ae8 g2) (Bv.mk g2 (R.toks _) q)
theorem Qn(Y:An W env c h₀)(X:W.K.In W.b₀)(I:∀cc,cc = .web\/cc = .verdict->Sq W.K (W.cl cc))(R:A1 W h₀ env names H ρ s){o v:V}{u uv:Value}{a:Ct}(ho:VR W o u)(hv:VR W v uv){N:AH->Prop}(q:setAttr o a v H N) :
 wpAny W.M A (PySem.setAttr u (A9 a) uv) (fun _ s'=>Ahk W h₀ env names ρ N s') E s:=by
 obtain⟨m,F⟩:=R.kitF Y
 delta Mine.Internal.setAttr at q
 apply Bh ho q
 intro x q
 refine Tx q fun cc d e1 q=>?_
 refine Ve q fun fs e2 q=>?_
 refine Aa fun nY=>?_
 obtain⟨hcc,es,nn,i1,r1,z1,hd⟩:=R.inst e1 e2
 have K:=I cc hcc
 obtain⟨s1,s2,s3⟩:=R.sep _ _ e2
 have hbn:W.b₀.get? d=none:=by
  cases q:W.b₀.get? d with
  | none=>rfl
  | some o=>have:=Y.base _ _ q;rw[s1]at this;cases this
 have hmem:(d,dictOf es nn)∈Hh W.b₀ env.locals s.heap:=Hi.mpr ⟨s2,hbn,hd⟩
 obtain⟨news',U,m1,m2⟩:=Ph (o':=dictOf (putL (A9 a) (PyData.keyHash W.w.params (A9 a)) (.str (A9 a) (s.toks+1)) uv es) (putN (A9 a) es nn)) So hmem
 have r2:=r1.put a hv (PyData.keyHash W.w.params (A9 a)) (s.toks+1)
 refine nY ?_;clear nY
 refine set_dict F X X3 i1 rfl K.set K.over (K.take a) K.dict ?_ rfl U ?_ fun h' F' N'=>?_
 ·have:=r1.get a
  refine Aa fun nY=>?_
  split at this
  ·refine nY ?_;clear nY
   obtain⟨c,g1,_⟩:=this;rw[g1];rfl
  ·refine nY ?_;clear nY
   rw[this];rfl
 ·rw[<-r2.length];exact Nat.le_trans (Ua _ _ _) (Nat.lt_of_le_of_lt z1 (by decide))
 ·have k:∀b o,b≠d->b≠env.locals->s.heap.get? b=some o->h'.get? b=some o:=fun b o hb hl e=>by
   cases q:W.b₀.get? b with
   | some o'=>have e1:=R.keepB Y b o' q;rw[e]at e1;cases e1;exact F'.keep b _ q
   | none=>exact(N' (b,o) (m2 _ (Hi.mpr ⟨hl,q,e⟩) hb)).1
  exact⟨_,R.changeK Y _ e2 F.ns F'.ns k (N' _ m1).1 (.ns r2 (Nat.le_trans (Ua _ _ _) q.1)) (fun _ q=>by cases q),q.2⟩
end Mine.Internal
namespace Mine.Internal
open PySem PySem.W PyProof.Rows
variable {W:Wd} {G:Aw} {A:Around} {h₀:HB} {env:Env} {c:Cx} {names:List Str} {H:AH} {ρ:Ak} {s:Shared} {E:Value->Shared->Prop} {n:Nat} {Q:Ah} {Er:EP}
noncomputable def Kd:List Str:=["len","list","sorted","max","min","all","any","isinstance","range","enumerate","reversed","set","str","int","bool","tuple","ValueError"]
noncomputable def Fd(W:Wd)(f:Str):Option Addr:=
 match Eu f with
 | some (cc,m)=>(match findIn W.K (.ref (W.cl cc)) m with|some (some (.ref a))=>some a|_=>none)
 | none=>(match nsIn W.K mainGlobals (Iy f)with|some (some (.ref a))=>some a|_=>none)
structure Acv(W:Wd)(hb:Bool)(fa:Addr)(d:Fn)(name qual:Str)(params:Arguments)(body:List Stmt)(scope:Scope)(doc pm cdv ct oc:Value)(an od:Option Addr)(osl:Array (Option Value)):Prop where
 at_:W.K.lookup fa=some ⟨oc,od,.func (fnOf name qual params body scope .none .none doc pm an cdv ct),osl⟩
 typ:oc = .type "function"
 code:codeIn W.K cdv qual=true
 er:Aco hb params body scope=some d
 nodup:(params.args.map (·.arg)).Nodup
 kinds:∀x∈params.args.map (·.arg),scope.names.lookup x=some .local\/scope.names.lookup x=some .cell
 cells:((cellsFrom 0 scope.names []).map (·.1)).Nodup
 names:(Cc params scope).Nodup
 nofree:∀p∈scope.names,p.2≠ .free
structure Ie(W:Wd)(G:Aw):Prop where
 X:W.K.In W.b₀
 top:(Ex4 fun p loose mg mb=>TopRead p loose mg mb W.b₀)
 inst:∀cc,cc = .web\/cc = .verdict->Sq W.K (W.cl cc)
 bi:∀x∈Kd,nsIn W.K mainGlobals x=some none
 const:∀g v,G.const g=some v->∃c,nsIn W.K mainGlobals g=some (some c)/\VR W v c
 fn:∀f d,G.fn f=some d->∃fa,Fd W f=some fa/\∃name qual params body scope doc pm cdv ct oc an od osl,Acv W (L7 f) fa d name qual params body scope doc pm cdv ct oc an od osl
 make:∀cc,cc = .web\/cc = .verdict->(G.fn (Du cc)).isSome=true->nsIn W.K mainGlobals (match cc with | .web=> "Web" | _=> "Verdict")=some (some (.ref (W.cl cc)))/\makesIn W.K (W.cl cc)=true
 exc:∀cc,G.exc cc=true->Tw W cc
 sub:∀cc cc',Tw W cc->Tw W cc'->(W7 W.K (W.cl cc)).contains (.ref (W.cl cc'))=(cc==cc'||cc' == .webError)
 meth:∀f m fa,Eu f=some (.web,m)->Fd W f=some fa->plainGet W.K (W.cl .web) m=true/\(∀a,A9 a≠m)
noncomputable def SE(W:Wd)(G:Aw)(n:Nat)(c:Cx)(e:Expr)(x:X):Prop:=
 ∀ {A:Around} {env:Env} {h₀:HB} {H:AH} {ρ:Ak} {s:Shared} {Q:Ah} {E:EP},Rg A c h₀ env E n->An W env c h₀->A1 W h₀ env c.names H ρ s->Av G (Af G n) x ρ H Q E->
  wpAny W.M A (eval e env) (Bv W h₀ env c.names ρ Q) (EM W h₀ env c.names ρ E) s
noncomputable def ST(W:Wd)(G:Aw)(n:Nat)(c:Cx)(e:Expr)(x:X):Prop:=
 ∀ {A:Around} {env:Env} {h₀:HB} {H:AH} {ρ:Ak} {s:Shared} {Q:Bool->AH->Prop} {E:EP},Rg A c h₀ env E n->An W env c h₀->A1 W h₀ env c.names H ρ s->
  Av G (Af G n) x ρ H (fun v H=>truthy v fun b=>Q b H) E->
  wpAny W.M A (isTrue e env (eval e env)) (fun b s'=>∃H',A1 W h₀ env c.names H' ρ s'/\Q b H') (EM W h₀ env c.names ρ E) s
noncomputable def Vn(W:Wd)(G:Aw)(n:Nat)(c:Cx)(es:List Expr)(xs:List X):Prop:=
 ∀ {A:Around} {env:Env} {h₀:HB} {H:AH} {ρ:Ak} {s:Shared} {Q:List V->AH->Prop} {E:EP} {pos:Pos},Rg A c h₀ env E n->An W env c h₀->A1 W h₀ env c.names H ρ s->C2 G (Af G n) xs ρ H Q E->
  wpAny W.M A (spliced (backTo pos (starEach es env))) (fun vs s'=>(Ii fun as H'=>Td (Dj W as vs) (as.length=es.length) (A1 W h₀ env c.names H' ρ s') (Q as H'))) (EM W h₀ env c.names ρ E) s
noncomputable def SC(W:Wd)(G:Aw)(n:Nat):Prop:=
 ∀ {A:Around} {env:Env} {c:Cx} {h₀:HB} {H:AH} {ρ:Ak} {s:Shared} {Q:Ah} {E:EP} {f:Str} {fa:Addr} {vs:List V} {us:List Value},
  (L7 f=false->A.handled=none)->A.depth+4*n+2<recursionLimit->A.units+30*n+40<cLine->Stk A (env.locals::h₀.fs)->An W env c h₀->A1 W h₀ env c.names H ρ s->Fd W f=some fa->Dj W vs us->Af G n f vs H Q E->
  codeAny W.M A (.call (.ref fa) ⟨us,[]⟩) (fun r s'=>match r with | .ok (.ret v)=>Bv W h₀ env c.names ρ Q v s' | .ok _=>False | .error e=>EM W h₀ env c.names ρ E e s') s
theorem SE.toST(h:SE W G n c e x)(hp:∀env whole,isTrue e env whole=(do let v <-whole;standAt e.pos;holding [v] (PySem.truthy v))):ST W G n c e x:=by
 intro A env h₀ H ρ s Q E ok Y R q
 refine isTrue_plain (wpAny_mono (h ok Y R q) (fun v s' r=>?_) fun _ _ e=>e) (hp _ _)
 refine Aa fun nY=>?_
 obtain⟨a,H',hv,R',q'⟩:=r
 delta truthy at q'
 split at q'
 ·refine nY ?_;clear nY
  cases hv;exact wpAny_truthy_bool ⟨H',R',q'⟩
 ·exact q'.elim
theorem Bu{e:Expr}(h:∀v p,e≠ .Starred v p)(rest:List Expr)(env:Env):starEach (e::rest) env=(false,eval e env)::starEach rest env:=by
 cases e<;>first|rfl|exact absurd rfl (h _ _)
theorem Acw:Vn W G n c [] []:=by
 intro A env h₀ H ρ s Q E pos ok Y R q
 exact Calls.spliced_nil ⟨[],H,.nil,rfl,R,q⟩
theorem Aac{e:Expr}{es:List Expr}{x:X}{xs:List X}(h:SE W G n c e x)(hs:Vn W G n c es xs)(hn:∀v p,e≠ .Starred v p):Vn W G n c (e::es) (x::xs):=by
 intro A env h₀ H ρ s Q E pos ok Y R q
 rw[Bu hn]
 refine Calls.spliced_cons (wpAny_mono (h ok Y R q) (fun v s' r=>?_) fun _ _ e=>e)
 refine Aa fun nY=>?_
 obtain⟨a,H',hv,R',q'⟩:=r
 refine nY ?_;clear nY
 refine wpAny_mono (hs ok Y R' q') (fun vs s'' r=>?_) fun _ _ e=>e
 refine Aa fun nY=>?_
 obtain⟨as,H'',hvs,hl,R'',q''⟩:=r
 refine nY ?_;clear nY
 exact⟨a::as,H'',.cons hv hvs,by simp[hl],R'',q''⟩
theorem Aad{x:Str}{p:Pos}{i:Nat}(hs:c.slot x=some i)(hd:(x==("__debug__" :Str))=false)(hc:(x==("__classdict__" :Str))=false):SE W G n c (.Name x p) (.var i):=by
 intro A env h₀ H ρ s Q E ok Y R q
 simp only[Jb,Jc,Jd,Je,Jf,Jg,Jh,Ji,Jj,Jk,Jl,Jm,Jn,Jo,Jp,Jq,B0,Jr,Js,Jt,Ju,Jv,A4,Dr,Bi,A0,Jw,Jx,A6,Ca,A7,Bf]at q
 refine Aa fun nY=>?_
 split at q
 ·rename_i v e
  unfold Cx.slot at hs
  split at hs
  ·rename_i hv
   refine nY ?_;clear nY
   refine wpAny_Name ?_ hd
   have key:env.kindOf x=some .local\/env.kindOf x=some .cell\/env.kindOf x=some .free:=by
    cases hk:c.sc.names.lookup x with
    | none=>rw[hk]at hv;cases hv
    | some k=>
      refine Aa fun nY=>?_
      cases k with
      | «local» =>(refine nY ?_;clear nY;exact .inl (Y.kinds x _ hk (by simp)))
      | cell=>(refine nY ?_;clear nY;exact .inr (.inl (Y.kinds x _ hk (by simp))))
      | free=>(refine nY ?_;clear nY;rcases Y.frees x hk with h|h<;>simp[h])
      | _=>rw[hk]at hv;cases hv
   refine Aa fun nY=>?_
   rcases key with h|h|h
   ·obtain⟨m,h1,h2⟩:=R.ns
    obtain⟨cv,h3,h4⟩:=h2 x i v hs h e
    refine nY ?_;clear nY
    exact wpAny_loadName_local Y.kind h h1 h3 (Bv.mk h4 R q)
   ·obtain⟨a,ha⟩:=Y.cells x (.inl h)
    obtain⟨w,h1,h2⟩:=R.cell x a ha
    obtain⟨cv,rfl,h4⟩:=h2 i v hs (.inl h) e
    refine nY ?_;clear nY
    exact wpAny_loadName_cell Y.kind h ha h1 (Bv.mk h4 R q)
   ·obtain⟨a,ha⟩:=Y.cells x (.inr h)
    obtain⟨w,h1,h2⟩:=R.cell x a ha
    obtain⟨cv,rfl,h4⟩:=h2 i v hs (.inr h) e
    refine nY ?_;clear nY
    exact wpAny_loadName_free Y.kind h ha h1 (Bv.mk h4 R q) hc
  ·cases hs
 ·exact q.elim
theorem Ke(g:Ie W G)(Y:An W env c h₀)(R:A1 W h₀ env names H ρ s){x:Str}{p:Pos}{v:Value}{Q:Value->Shared->Prop}(hg:c.global x=true)(hd:(x==("__debug__" :Str))=false)(e:nsIn W.K mainGlobals x=some (some v))(h:Q v s) :
 wpAny W.M A (eval (.Name x p) env) Q E s:=by
 obtain⟨pp,loose,mg,mb,T⟩:=g.top
 have hx:env.kindOf x=some .globalImplicit:=Y.kinds x _ (by simpa[Cx.global]using hg) (by simp)
 have k:∀b o,W.b₀.get? b=some o->s.heap.get? b=some o:=R.keepB Y
 exact Calls.Name_function_global Y.kind hx (Calls.loadGlobal_global (by rw[Y.globals];exact T.g.keeps k) (mg_of g.X T.g e) h) hd
theorem Pj(g:Ie W G)(Y:An W env c h₀)(R:A1 W h₀ env names H ρ s){x:Str}{p:Pos}{v:Value}{Q:Value->Shared->Prop}(hg:c.global x=true)(hd:(x==("__debug__" :Str))=false)(hx':x∈Kd)
 (hv:bootBuiltins x=some v) (hn:x≠ "__name__") (h:Q v s):wpAny W.M A (eval (.Name x p) env) Q E s:=by
 obtain⟨pp,loose,mg,mb,T⟩:=g.top
 have hx:env.kindOf x=some .globalImplicit:=Y.kinds x _ (by simpa[Cx.global]using hg) (by simp)
 have k:∀b o,W.b₀.get? b=some o->s.heap.get? b=some o:=R.keepB Y
 exact Calls.Name_function_global Y.kind hx (Calls.loadGlobal_builtin (by rw[Y.globals];exact T.g.keeps k) (mg_none_of g.X T.g (g.bi x hx')) (by rw[Y.builtins];exact T.b.keeps k) ((T.builtins x hn).trans hv) h) hd
theorem Acx(g:Ie W G){x:Str}{p:Pos}(hg:c.global x=true)(hd:(x==("__debug__" :Str))=false):SE W G n c (.Name x p) (.glob x):=by
 intro A env h₀ H ρ s Q E ok Y R q
 simp only[Jb,Jc,Jd,Je,Jf,Jg,Jh,Ji,Jj,Jk,Jl,Jm,Jn,Jo,Jp,Jq,B0,Jr,Js,Jt,Ju,Jv,A4,Dr,Bi,A0,Jw,Jx,A6,Ca,A7,Bf]at q
 refine Aa fun nY=>?_
 split at q
 ·rename_i v e
  obtain⟨cv,h1,h2⟩:=g.const x v e
  refine nY ?_;clear nY
  exact Ke g Y R hg hd h1 (Bv.mk h2 R q)
 ·exact q.elim
theorem Mc{f:Str}{fa:Addr}(ho:Eu f=none)(h:Fd W f=some fa):nsIn W.K mainGlobals (Iy f)=some (some (.ref fa)):=by
 delta Fd at h
 rw[ho]at h
 simp only at h
 split at h
 ·rename_i e;cases h;exact e
 ·cases h
theorem Acy{k:Nat}{p:Pos}:SE W G n c (.Constant .none k p) .cnone:=by
 intro A env h₀ H ρ s Q E ok Y R q
 exact fun _ _ _=>Bv.mk .none R q
theorem Aae{b:Bool}{k:Nat}{p:Pos}:SE W G n c (.Constant (.bool b) k p) (.cbool b):=by
 intro A env h₀ H ρ s Q E ok Y R q
 exact fun _ _ _=>Bv.mk (.bool b) R q
theorem Acz{i:Int}{k:Nat}{p:Pos}:SE W G n c (.Constant (.int i) k p) (.cint i):=by
 intro A env h₀ H ρ s Q E ok Y R q
 exact fun _ _ _=>Bv.mk (.int i _) (R.toks _) q
theorem Ac0{x:Str}{k:Nat}{p:Pos}:SE W G n c (.Constant (.str x) k p) (.cstr x):=by
 intro A env h₀ H ρ s Q E ok Y R q
 exact fun _ _ _=>Bv.mk (.str x _) (R.toks _) q
theorem Ae9{e:Expr}{x:X}{p:Pos}(h:SE W G n c e x):SE W G n c (.UnaryOp .Not e p) (.not x):=by
 intro A env h₀ H ρ s Q E ok Y R q
 simp only[Jb,Jc,Jd,Je,Jf,Jg,Jh,Ji,Jj,Jk,Jl,Jm,Jn,Jo,Jp,Jq,B0,Jr,Js,Jt,Ju,Jv,A4,Dr,Bi,A0,Jw,Jx,A6,Ca,A7,Bf]at q
 refine UnaryOp_ (wpAny_mono (h ok Y R q) (fun v s' r=>?_) fun _ _ e=>e)
 refine Aa fun nY=>?_
 obtain⟨a,H',hv,R',q'⟩:=r
 delta truthy at q'
 split at q'
 ·refine nY ?_;clear nY
  cases hv;exact not_of (wpAny_truthy_bool (Bv.mk (.bool _) R' q'))
 ·exact q'.elim
theorem Afa{e:Expr}{x:X}{p:Pos}(h:ST W G n c e x):ST W G n c (.UnaryOp .Not e p) (.not x):=by
 intro A env h₀ H ρ s Q E ok Y R q
 refine isTrue_not (wpAny_mono (h (Q:=fun b H=>Q (!b) H) ok Y R ?_) (fun b s' r=>r) fun _ _ e=>e)
 exact q
theorem Afb{e:Expr}{x:X}{p:Pos}(h:SE W G n c e x):SE W G n c (.UnaryOp .USub e p) (.neg x):=by
 intro A env h₀ H ρ s Q E ok Y R q
 simp only[Jb,Jc,Jd,Je,Jf,Jg,Jh,Ji,Jj,Jk,Jl,Jm,Jn,Jo,Jp,Jq,B0,Jr,Js,Jt,Ju,Jv,A4,Dr,Bi,A0,Jw,Jx,A6,Ca,A7,Bf]at q
 refine UnaryOp_ (wpAny_mono (h ok Y R q) (fun v s' r=>?_) fun _ _ e=>e)
 obtain⟨a,H',hv,R',q'⟩:=r
 revert q';intro q'
 split at q'
 ·cases hv;exact neg_int (Bv.mk (.int _ _) (R'.toks _) q')
 ·exact q'.elim
theorem Afc{e e2:Expr}{rest:List Expr}{x y:X}{p:Pos}(h:SE W G n c e x)(h2:SE W G n c (.BoolOp .And (e2::rest) p) y):SE W G n c (.BoolOp .And (e::e2::rest) p) (.and x y):=by
 intro A env h₀ H ρ s Q E ok Y R q
 simp only[Jb,Jc,Jd,Je,Jf,Jg,Jh,Ji,Jj,Jk,Jl,Jm,Jn,Jo,Jp,Jq,B0,Jr,Js,Jt,Ju,Jv,A4,Dr,Bi,A0,Jw,Jx,A6,Ca,A7,Bf]at q
 refine BoolOp_and (wpAny_mono (h ok Y R q) (fun v s' r=>?_) fun _ _ e=>e)
 refine Aa fun nY=>?_
 obtain⟨a,H',hv,R',q'⟩:=r
 delta truthy at q'
 split at q'
 ·rename_i b
  cases hv
  refine nY ?_;clear nY
  refine wpAny_truthy_bool ?_
  cases b
  ·exact Bv.mk (.bool _) R' (by simpa using q')
  ·exact h2 ok Y R' (by simpa using q')
 ·exact q'.elim
theorem Ahm{e e2:Expr}{rest:List Expr}{x y:X}{p:Pos}(h:SE W G n c e x)(h2:SE W G n c (.BoolOp .Or (e2::rest) p) y):SE W G n c (.BoolOp .Or (e::e2::rest) p) (.or x y):=by
 intro A env h₀ H ρ s Q E ok Y R q
 simp only[Jb,Jc,Jd,Je,Jf,Jg,Jh,Ji,Jj,Jk,Jl,Jm,Jn,Jo,Jp,Jq,B0,Jr,Js,Jt,Ju,Jv,A4,Dr,Bi,A0,Jw,Jx,A6,Ca,A7,Bf]at q
 refine BoolOp_or (wpAny_mono (h ok Y R q) (fun v s' r=>?_) fun _ _ e=>e)
 refine Aa fun nY=>?_
 obtain⟨a,H',hv,R',q'⟩:=r
 delta truthy at q'
 split at q'
 ·rename_i b
  cases hv
  refine nY ?_;clear nY
  refine wpAny_truthy_bool ?_
  cases b
  ·exact h2 ok Y R' (by simpa using q')
  ·exact Bv.mk (.bool _) R' (by simpa using q')
 ·exact q'.elim
theorem Afd{e:Expr}{rest:List Expr}{x y:X}{p:Pos}(h:ST W G n c e x)(h2:ST W G n c (.BoolOp .And rest p) y):ST W G n c (.BoolOp .And (e::rest) p) (.and x y):=by
 intro A env h₀ H ρ s Q E ok Y R q
 simp only[Jb,Jc,Jd,Je,Jf,Jg,Jh,Ji,Jj,Jk,Jl,Jm,Jn,Jo,Jp,Jq,B0,Jr,Js,Jt,Ju,Jv,A4,Dr,Bi,A0,Jw,Jx,A6,Ca,A7,Bf]at q
 refine isTrue_and (wpAny_mono (h (Q:=fun b H=>if b then Av G (Af G n) y ρ H (fun v H=>truthy v fun b=>Q b H) E else Q false H) ok Y R ?_) (fun b s' r=>?_) fun _ _ e=>e)
 ·refine cast ?_ q;congr 1
 ·refine Aa fun nY=>?_
  obtain⟨H',R',q'⟩:=r
  cases b
  ·refine nY ?_;clear nY
   exact⟨H',R',by simpa using q'⟩
  ·refine nY ?_;clear nY
   exact h2 ok Y R' (by simpa using q')
theorem Rm{M:Model}{x:Expr}{rest:List Expr}{pos:Pos}{whole:Sem Value}{Q:Bool->Shared->Prop}
 (h:wpAny M A (isTrue x env (eval x env)) (fun c s'=>if c then Q true s' else wpAny M A (isTrue (.BoolOp .Or rest pos) env whole) Q E s') E s) :
 wpAny M A (isTrue (.BoolOp .Or (x::rest) pos) env whole) Q E s:=by
 show wpAny M A (do
  match BoolOp.Or,<-isTrue x env (eval x env)with
  | .And,false=>pure false
  | .Or,true=>pure true
  | _,_=>allTrue .Or rest env) Q E s
 refine wpAny_bind (wpAny_mono h (fun b s' r=>?_) fun _ _ e=>e)
 cases b
 ·exact r
 ·exact wpAny_pure r
theorem Ahn{e:Expr}{rest:List Expr}{x y:X}{p:Pos}(h:ST W G n c e x)(h2:ST W G n c (.BoolOp .Or rest p) y):ST W G n c (.BoolOp .Or (e::rest) p) (.or x y):=by
 intro A env h₀ H ρ s Q E ok Y R q
 simp only[Jb,Jc,Jd,Je,Jf,Jg,Jh,Ji,Jj,Jk,Jl,Jm,Jn,Jo,Jp,Jq,B0,Jr,Js,Jt,Ju,Jv,A4,Dr,Bi,A0,Jw,Jx,A6,Ca,A7,Bf]at q
 refine Rm (wpAny_mono (h (Q:=fun b H=>if b then Q true H else Av G (Af G n) y ρ H (fun v H=>truthy v fun b=>Q b H) E) ok Y R ?_) (fun b s' r=>?_) fun _ _ e=>e)
 ·refine cast ?_ q;congr 1
 ·obtain⟨H',R',q'⟩:=r
  cases b
  ·exact h2 ok Y R' (by simpa using q')
  ·exact⟨H',R',by simpa using q'⟩
theorem Afe{op:BoolOp}{e:Expr}{x:X}{p:Pos}(h:ST W G n c e x):ST W G n c (.BoolOp op [e] p) x:=by
 intro A env h₀ H ρ s Q E ok Y R q
 cases op
 ·refine isTrue_and (wpAny_mono (h ok Y R q) (fun b s' r=>?_) fun _ _ e=>e)
  refine Aa fun nY=>?_
  obtain⟨H',R',q'⟩:=r
  cases b
  ·refine nY ?_;clear nY
   exact⟨H',R',q'⟩
  ·refine nY ?_;clear nY
   exact isTrue_and_nil ⟨H',R',q'⟩
 ·refine Rm (wpAny_mono (h ok Y R q) (fun b s' r=>?_) fun _ _ e=>e)
  refine Aa fun nY=>?_
  obtain⟨H',R',q'⟩:=r
  cases b
  ·refine nY ?_;clear nY
   exact wpAny_pure (a:=false) ⟨H',R',q'⟩
  ·refine nY ?_;clear nY
   exact⟨H',R',q'⟩
theorem Aff{l r:Expr}{op:Operator}{x y:X}{p:Pos}(h:SE W G n c l x)(h2:SE W G n c r y):SE W G n c (.BinOp l op r p) (.bin op x y):=by
 intro A env h₀ H ρ s Q E ok Y R q
 simp only[Jb,Jc,Jd,Je,Jf,Jg,Jh,Ji,Jj,Jk,Jl,Jm,Jn,Jo,Jp,Jq,B0,Jr,Js,Jt,Ju,Jv,A4,Dr,Bi,A0,Jw,Jx,A6,Ca,A7,Bf]at q
 refine wpAny_BinOp (wpAny_mono (h ok Y R q) (fun v s' r=>?_) fun _ _ e=>e)
 refine Aa fun nY=>?_
 obtain⟨a,H',hv,R',q'⟩:=r
 refine nY ?_;clear nY
 refine wpAny_mono (h2 ok Y R' q') (fun v2 s2 r=>?_) fun _ _ e=>e
 refine Aa fun nY=>?_
 obtain⟨b,H2,hv2,R2,q2⟩:=r
 refine nY ?_;clear nY
 exact T0 Y R2 hv hv2 q2
theorem Afg{l r:Expr}{op:CmpOp}{x y:X}{p:Pos}(h:SE W G n c l x)(h2:SE W G n c r y)(hm:behindInMarks op r=false):SE W G n c (.Compare l [op] [r] p) (.cmp op x y):=by
 intro A env h₀ H ρ s Q E ok Y R q
 simp only[Jb,Jc,Jd,Je,Jf,Jg,Jh,Ji,Jj,Jk,Jl,Jm,Jn,Jo,Jp,Jq,B0,Jr,Js,Jt,Ju,Jv,A4,Dr,Bi,A0,Jw,Jx,A6,Ca,A7,Bf]at q
 refine wpAny_Compare1 (wpAny_mono (h ok Y R q) (fun v s' r=>?_) fun _ _ e=>e) hm
 refine Aa fun nY=>?_
 obtain⟨a,H',hv,R',q'⟩:=r
 refine nY ?_;clear nY
 refine wpAny_mono (h2 ok Y R' q') (fun v2 s2 r=>?_) fun _ _ e=>e
 refine Aa fun nY=>?_
 obtain⟨b,H2,hv2,R2,q2⟩:=r
 refine nY ?_;clear nY
 exact Dm ok Y R2 hv hv2 q2
theorem Pk{v:Value}{Q:Bool->AH->Prop}(r:Bv W h₀ env names ρ (fun v H=>truthy v fun b=>Q b H) v s):wpAny W.M A (PySem.truthy v) (fun b s'=>∃H',A1 W h₀ env names H' ρ s'/\Q b H') E s:=by
 refine Aa fun nY=>?_
 obtain⟨a,H',hv,R',q'⟩:=r
 delta truthy at q'
 split at q'
 ·refine nY ?_;clear nY
  cases hv;exact wpAny_truthy_bool ⟨H',R',q'⟩
 ·exact q'.elim
theorem Afh{l r:Expr}{op:CmpOp}{x y:X}{p:Pos}(h:SE W G n c l x)(h2:SE W G n c r y)(hm:behindInMarks op r=false):ST W G n c (.Compare l [op] [r] p) (.cmp op x y):=by
 intro A env h₀ H ρ s Q E ok Y R q
 simp only[Jb,Jc,Jd,Je,Jf,Jg,Jh,Ji,Jj,Jk,Jl,Jm,Jn,Jo,Jp,Jq,B0,Jr,Js,Jt,Ju,Jv,A4,Dr,Bi,A0,Jw,Jx,A6,Ca,A7,Bf]at q
 refine wpAny_isTrue_Compare1 (wpAny_mono (h ok Y R q) (fun v s' r=>?_) fun _ _ e=>e) hm
 refine Aa fun nY=>?_
 obtain⟨a,H',hv,R',q'⟩:=r
 refine nY ?_;clear nY
 refine wpAny_mono (h2 ok Y R' q') (fun v2 s2 r=>?_) fun _ _ e=>e
 refine Aa fun nY=>?_
 obtain⟨b,H2,hv2,R2,q2⟩:=r
 refine nY ?_;clear nY
 exact wpAny_mono (Dm ok Y R2 hv hv2 q2) (fun v s' r=>Pk r) fun _ _ e=>e
theorem Aaf{l m r:Expr}{o1 o2:CmpOp}{x y z:X}{p:Pos}(h:SE W G n c l x)(h2:SE W G n c m y)(h3:SE W G n c r z)(hm:lastMarks [o1,o2] [m,r]=false):SE W G n c (.Compare l [o1,o2] [m,r] p) (.chain x o1 y o2 z):=by
 intro A env h₀ H ρ s Q E ok Y R q
 simp only[Jb,Jc,Jd,Je,Jf,Jg,Jh,Ji,Jj,Jk,Jl,Jm,Jn,Jo,Jp,Jq,B0,Jr,Js,Jt,Ju,Jv,A4,Dr,Bi,A0,Jw,Jx,A6,Ca,A7,Bf]at q
 refine Compare_chain (wpAny_mono (h ok Y R q) (fun v s' r=>?_) fun _ _ e=>e) hm
 refine Aa fun nY=>?_
 obtain⟨a,H',hv,R',q'⟩:=r
 refine nY ?_;clear nY
 refine chain_link (wpAny_mono (h2 ok Y R' q') (fun v2 s2 r=>?_) fun _ _ e=>e)
 refine Aa fun nY=>?_
 obtain⟨b,H2,hv2,R2,q2⟩:=r
 refine nY ?_;clear nY
 refine wpAny_mono (Dm ok Y R2 hv hv2 q2) (fun v3 s3 r=>?_) fun _ _ e=>e
 refine Aa fun nY=>?_
 obtain⟨d,H3,hv3,R3,q3⟩:=r
 delta truthy at q3
 split at q3
 ·rename_i t
  cases hv3
  refine nY ?_;clear nY
  refine wpAny_truthy_bool ?_
  cases t
  ·exact Bv.mk (.bool _) R3 (by simpa using q3)
  ·refine chain_last (wpAny_mono (h3 ok Y R3 (by simpa using q3)) (fun v4 s4 r=>?_) fun _ _ e=>e)
   refine Aa fun nY=>?_
   obtain⟨d,H4,hv4,R4,q4⟩:=r
   refine nY ?_;clear nY
   exact Dm ok Y R4 hv2 hv4 q4
 ·exact q3.elim
theorem Aag{l m r:Expr}{o1 o2:CmpOp}{x y z:X}{p:Pos}(h:SE W G n c l x)(h2:SE W G n c m y)(h3:SE W G n c r z)(hm:lastMarks [o1,o2] [m,r]=false):ST W G n c (.Compare l [o1,o2] [m,r] p) (.chain x o1 y o2 z):=by
 intro A env h₀ H ρ s Q E ok Y R q
 simp only[Jb,Jc,Jd,Je,Jf,Jg,Jh,Ji,Jj,Jk,Jl,Jm,Jn,Jo,Jp,Jq,B0,Jr,Js,Jt,Ju,Jv,A4,Dr,Bi,A0,Jw,Jx,A6,Ca,A7,Bf]at q
 refine isTrue_chain (wpAny_mono (h ok Y R q) (fun v s' r=>?_) fun _ _ e=>e) hm
 refine Aa fun nY=>?_
 obtain⟨a,H',hv,R',q'⟩:=r
 refine nY ?_;clear nY
 refine test_link (wpAny_mono (h2 ok Y R' q') (fun v2 s2 r=>?_) fun _ _ e=>e)
 refine Aa fun nY=>?_
 obtain⟨b,H2,hv2,R2,q2⟩:=r
 refine nY ?_;clear nY
 refine wpAny_mono (Dm ok Y R2 hv hv2 q2) (fun v3 s3 r=>?_) fun _ _ e=>e
 refine Aa fun nY=>?_
 obtain⟨d,H3,hv3,R3,q3⟩:=r
 delta truthy at q3
 split at q3
 ·rename_i t
  cases hv3
  refine nY ?_;clear nY
  refine wpAny_truthy_bool ?_
  cases t
  ·exact⟨H3,R3,by simpa[truthy]using q3⟩
  ·refine test_last (wpAny_mono (h3 ok Y R3 (by simpa using q3)) (fun v4 s4 r=>?_) fun _ _ e=>e)
   refine Aa fun nY=>?_
   obtain⟨d,H4,hv4,R4,q4⟩:=r
   refine nY ?_;clear nY
   exact wpAny_mono (Dm ok Y R4 hv2 hv4 q4) (fun v s' r=>Pk r) fun _ _ e=>e
 ·exact q3.elim
end Mine.Internal
namespace Mine.Internal
open PySem PySem.W PyProof.Rows
variable {W:Wd} {G:Aw} {A:Around} {h₀:HB} {env:Env} {c:Cx} {names:List Str} {H:AH} {ρ:Ak} {s:Shared} {E:Value->Shared->Prop} {n:Nat} {Q:Ah} {Er:EP}
theorem Oa{ns:List Str}{vs:List Value}(hl:ns.length=vs.length)(n:Str)(h:n∈ns):((ns.zip vs).lookup n).isSome=true:=by
 induction ns generalizing vs with
 | nil=>cases h
 | cons a ns ih=>
   refine Aa fun nY=>?_
   cases vs with
   | nil=>cases hl
   | cons v vs=>
     refine nY ?_;clear nY
     rw[List.zip_cons_cons,List.lookup_cons]
     cases q:n==a with
     | true=>rfl
     | false=>
       refine Aa fun nY=>?_
       rcases List.mem_cons.mp h with rfl|h
       ·rw[beq_self_eq_true]at q;cases q
       ·refine nY ?_;clear nY
        exact ih (Nat.succ.inj hl) h
theorem Ub{α β:Type}{f g:α->Option β}:∀ {l:List α},(∀x∈l,f x=g x)->l.filterMap f=l.filterMap g
 | [],_=>rfl
 | a::l,h=>by rw[List.filterMap_cons,List.filterMap_cons,h a (.head _),Ub fun x hx=>h x (.tail _ hx)]
theorem Qo{ns:List Str}{vs:List Value}(hl:ns.length=vs.length)(hn:ns.Nodup):ns.filterMap (fun n=>((ns.zip vs).lookup n).map (n,·))=ns.zip vs:=by
 induction ns generalizing vs with
 | nil=>rfl
 | cons a ns ih=>
   cases vs with
   | nil=>cases hl
   | cons v vs=>
     obtain⟨h1,h2⟩:=List.nodup_cons.mp hn
     simp only[List.zip_cons_cons,List.filterMap_cons,List.lookup_cons,beq_self_eq_true,Option.map_some]
     congr 1
     refine Eq.trans (Ub fun n hn=>?_) (ih (Nat.succ.inj hl) h2)
     have:(n==a)=false:=by simpa using fun q:n=a=>h1 (q▸hn)
     rw[this]
theorem Vo{fd:FuncData}{vs:List Value}(hp:Fx fd.params=true)(hd:fd.defaults = .none)(hl:fd.params.args.length=vs.length)(hn:(fd.params.args.map (·.arg)).Nodup) :
 bindArgs fd ⟨vs,[]⟩=pure ((fd.params.args.map (·.arg)).zip vs):=by
 unfold Fx at hp
 simp only[Bool.and_eq_true,List.isEmpty_iff,Option.isNone_iff_eq_none]at hp
 refine Aa fun nY=>?_
 obtain⟨⟨⟨⟨⟨h1,h2⟩,h3⟩,h4⟩,h5⟩,h6⟩:=hp
 have hl':(fd.params.args.map (·.arg)).length=vs.length:=by simpa using hl
 have e2:=Qo hl' hn
 have e1:∀k,((fd.params.args.map (·.arg)).take k).filter (fun n=>(((fd.params.args.map (·.arg)).zip vs).lookup n).isNone) = []:=by
  intro k
  rw[List.filter_eq_nil_iff];intro n h
  have:=Oa hl' n (List.mem_of_mem_take h)
  cases q:((fd.params.args.map (·.arg)).zip vs).lookup n with
  | none=>rw[q]at this;cases this
  | some _=>simp
 refine nY ?_;clear nY
 have e3:¬(decide (vs.length>(fd.params.args.map (·.arg)).length)&&true)=true:=by simp;exact Nat.le_of_eq hl.symm
 clear hl hl' hn
 cases fd with|mk nm qn ps bd sc gl cl df kd pm cd=>
 cases ps with|mk a1 a2 a3 a4 a5 a6 a7=>
 dsimp only at h1 h2 h3 h4 h5 h6 hd e1 e2 e3 ⊢
 subst h1 h2 h3 h5 hd
 generalize hN:a2.map Arg.arg=N at *
 subst hN
 have e4:∀k,¬(!(((a2.map Arg.arg).take k).filter (fun n=>(((a2.map Arg.arg).zip vs).lookup n).isNone)).isEmpty)=true:=fun k=>by rw[e1 k];decide
 refine(if_neg (c:=(decide (vs.length>([]++a2.map Arg.arg).length)&&Option.isNone (none:Option Arg))=true) e3).trans ((if_neg (e4 _)).trans ?_)
 dsimp only[List.map_nil,List.nil_append,List.toList_toArray,Option.getD_none,List.length_nil]
 rw[List.drop_nil,List.zip_nil_right]
 show (pure:List (Str×Value)->Sem (List (Str×Value))) (List.filterMap (fun n=>(((a2.map Arg.arg).zip vs).lookup n).map (n,·)) (a2.map Arg.arg ++ []))=_
 rw[List.append_nil,e2]
noncomputable def NS(es:List Expr):Prop:=∀e∈es,∀v p,e≠ .Starred v p
theorem NS.plain{es:List Expr}(h:NS es){pos:Pos}{env:Env}:(backTo pos (starEach es env)).any (·.1)=false:=by
 induction es with
 | nil=>rfl
 | cons e r ih=>
   rw[Bu (h e (.head _))]
   show (false||(backTo pos (starEach r env)).any (·.1))=false
   rw[ih fun e he=>h e (.tail _ he)];rfl
theorem Fz{es:List Expr}{xs:List X}(h:Vn W G n c es xs)(hn:NS es)(ok:Rg A c h₀ env Er n)(Y:An W env c h₀)(R:A1 W h₀ env c.names H ρ s){f:Value}{pos:Pos}{Q:List V->AH->Prop}(q:C2 G (Af G n) xs ρ H Q Er)
 {Q':Args->Shared->Prop} (hq:∀as us H' s',Dj W as us->A1 W h₀ env c.names H' ρ s'->Q as H'->Q' ⟨us,[]⟩ s'):wpAny W.M A (evalArgs f true (backTo pos (starEach es env)) []) Q' (EM W h₀ env c.names ρ Er) s:=by
 have z:=h (pos:=pos) ok Y R q
 have z':wpAny W.M A (spliced (backTo pos (starEach es env))) (fun us s'=>Q' ⟨us,[]⟩ s') (EM W h₀ env c.names ρ Er) s:=
  wpAny_mono z (fun us s' r=>by obtain⟨as,H',h1,_,h2,h3⟩:=r;exact hq as us H' s' h1 h2 h3) fun _ _ e=>e
 cases es with
 | nil=>
   unfold evalArgs
   show wpAny W.M A (spliced [] >>= _) Q' (EM W h₀ env c.names ρ Er) s
   refine wpAny_bind (wpAny_mono z' (fun vs s' h'=>?_) fun _ _ e=>e)
   refine wpAny_holding ?_
   exact wpAny_bind (wpAny_pure (wpAny_bind (wpAny_pure (wpAny_pure h'))))
 | cons e r=>
   rw[Bu (hn e (.head _))]at z' ⊢
   exact Calls.evalArgs_plain z'
theorem Ie.keep(g:Ie W G)(Y:An W env c h₀)(R:A1 W h₀ env names H ρ s):W.K.In s.heap:=fun a o e=>R.keepB Y a o (g.X a o e)
theorem Ac1(g:Ie W G)(hf:c.hnd=false)(sc:SC W G n){f:Str}{p pos:Pos}{es:List Expr}{xs:List X}(hg:c.global f=true)(hd:(f==("__debug__" :Str))=false)(hbx:L7 f=false)(ho:Eu f=none)(hs:Vn W G n c es xs)(hn:NS es):SE W G n c (.Call (.Name f p) es [] pos) (.call f xs):=by
 intro A env h₀ H ρ s Q E ok Y R q
 simp only[Jb,Jc,Jd,Je,Jf,Jg,Jh,Ji,Jj,Jk,Jl,Jm,Jn,Jo,Jp,Jq,B0,Jr,Js,Jt,Ju,Jv,A4,Dr,Bi,A0,Jw,Jx,A6,Ca,A7,Bf]at q
 refine Aa fun nY=>?_
 obtain⟨d,hd'⟩:=Option.isSome_iff_exists.mp q.1
 obtain⟨fa,h1,name,qual,params,body,scope,doc,pm,cdv,ct,oc,an,od,osl,F⟩:=g.fn f d hd'
 refine nY ?_;clear nY
 refine Call_ (Ke g Y R hg hd (Re hbx▸Mc ho h1) ?_)
 refine Calls.callWith_function (Fz hs hn ok Y R q.2 fun as us H' s' hv R' q'=>⟨⟨g.keep Y R' _ _ F.at_,rfl⟩,?_⟩)
 exact wpAny_call (sc (fun _=>ok.handled hf) (by have:=ok.room;exact Aeu this) (by have:=ok.units;exact Aev this) ok.stk Y R' h1 hv q')
theorem Aah(g:Ie W G)(sc:SC W G n){f y:Str}{p pos:Pos}{es:List Expr}{xs:List X}(hg:c.global f=true)(hy:hOf f=some y)(hs:Vn W G n c es xs)(hn:NS es):SE W G n c (.Call (.Name f p) es [] pos) (.call y xs):=by
 obtain⟨y1,y2,y3,y4⟩:=Ae3 hy
 intro A env h₀ H ρ s Q E ok Y R q
 rw[Jp]at q
 obtain⟨d,hd'⟩:=Option.isSome_iff_exists.mp q.1
 obtain⟨fa,h1,name,qual,params,body,scope,doc,pm,cdv,ct,oc,an,od,osl,F⟩:=g.fn y d hd'
 refine Call_ (Ke g Y R hg y4 (y2▸Mc y3 h1) ?_)
 refine Calls.callWith_function (Fz hs hn ok Y R q.2 fun as us H' s' hv R' q'=>⟨⟨g.keep Y R' _ _ F.at_,rfl⟩,?_⟩)
 exact wpAny_call (sc (fun h=>by rw[y1]at h;cases h) (by have:=ok.room;exact Aeu this) (by have:=ok.units;exact Aev this) ok.stk Y R' h1 hv q')
theorem Sr{o:Expr}{a:Str}{whole:Sem Value}(h:Iz o=true):attributeBase o a env whole=whole:=by
 cases o<;>try rfl
 case Call f args kw p=>
  cases f<;>try rfl
  case Name x q=>
   cases args with
   | cons _ _=>rfl
   | nil=>
     cases kw with
     | cons _ _=>rfl
     | nil=>cases h
theorem X9{fs:List (Ct×V)}{es:List DictEntry}(h:X2 W fs es){m:Str}(hm:∀a,A9 a≠m):getL m es=some none:=by
 have h1:es.find? (·.key.isStr m)=none/\es.any (·.refKey)=false:=by
  induction h with
  | nil=>exact⟨rfl,rfl⟩
  | cons h1 h2 h3 h4 ih=>
    obtain⟨t,ht⟩:=h2
    refine⟨?_,?_⟩
    ·rw[List.find?_cons,ht,I0 (hm _)];exact ih.1
    ·rw[List.any_cons,ih.2]
     simp[DictEntry.refKey,ht]
 unfold getL
 rw[h1.1,h1.2];rfl
theorem Xb{cc:Kb}(h:cc = .web\/cc = .verdict):Eu (Du cc)=some (cc,("__init__" :Str)):=by rcases h with rfl|rfl<;>decide
theorem Pl{f m:Str}{cc:Kb}{fa:Addr}(ho:Eu f=some (cc,m))(h:Fd W f=some fa):findIn W.K (.ref (W.cl cc)) m=some (some (.ref fa)):=by
 delta Fd at h
 rw[ho]at h
 simp only at h
 refine Aa fun nY=>?_
 split at h
 ·refine nY ?_;clear nY
  rename_i e;cases h;exact e
 ·cases h
theorem Acv.isFn{hb:Bool}{fa:Addr}{d name qual params body scope doc pm cdv ct oc an od osl}(F:Acv W hb fa d name qual params body scope doc pm cdv ct oc an od osl):isFn W.K (.ref fa)=true:=by
 have:=F.at_
 rw[F.typ]at this
 unfold PySem.W.isFn typeIn
 simp only[this];rfl
theorem Ac2(g:Ie W G)(hf:c.hnd=false)(sc:SC W G n){o:Expr}{m f:Str}{ap pos:Pos}{y:X}{es:List Expr}{xs:List X}(hb:Iz o=true)(hl:(ap.endLine==pos.line)=true)(hfew:es.length<3)(ho:Eu f=some (.web,m))(h:SE W G n c o y)(hs:Vn W G n c es xs)(hn:NS es) :
 SE W G n c (.Call (.Attribute o m ap) es [] pos) (.meth f y xs):=by
 intro A env h₀ H ρ s Q E ok Y R q
 simp only[Jb,Jc,Jd,Je,Jf,Jg,Jh,Ji,Jj,Jk,Jl,Jm,Jn,Jo,Jp,Jq,B0,Jr,Js,Jt,Ju,Jv,A4,Dr,Bi,A0,Jw,Jx,A6,Ca,A7,Bf]at q
 rw[arm_eval_Call,Sr hb]
 refine wpAny_bind (wpAny_mono (h ok Y R q) (fun ov s₁ r=>wpAny_bind (wpAny_standAt ?_)) fun _ _ e=>e)
 refine Aa fun nY=>?_
 obtain⟨a,H',hv,R',q'⟩:=r
 refine nY ?_;clear nY
 apply Bh hv q';intro x q';refine Acp q' fun dd e1 q'=>?_;refine Ve q' fun fs e2 q'=>?_
 refine Aa fun nY=>?_
 obtain⟨hsome,q'⟩:=q'
 obtain⟨d,hd'⟩:=Option.isSome_iff_exists.mp hsome
 obtain⟨fa,h1,name,qual,params,body,scope,doc,pm,cdv,ct,oc,an,od,osl,F⟩:=g.fn f d hd'
 obtain⟨hp,hat⟩:=g.meth f m fa ho h1
 have hform:methodCallForm (es.length+([]:List Keyword).length) (backTo pos (starEach es env)) (backToKw pos (keywordEach [] env))=true:=by
  unfold methodCallForm
  have:(backTo pos (starEach es env)).all (fun x=> !x.1)=true:=by
   have:=hn.plain (pos:=pos) (env:=env)
   rw[List.any_eq_false]at this
   rw[List.all_eq_true];intro x hx;simpa using this x hx
  rw[this]
  have:es.length+0+0<30:=(Nat.lt_trans hfew (by decide))
  simpa[show backToKw pos (keywordEach [] env) = []from rfl]using this
 refine nY ?_;clear nY
 have hpos:methodCallPos true o env ap pos=pure pos:=by unfold methodCallPos;simp[hl]
 unfold methodCall
 rw[hform]
 refine Aa fun nY=>?_
 obtain⟨mm,FF⟩:=R'.kitF Y
 obtain⟨ob1,o1,o2⟩:=R'.objs _ _ e1
 obtain⟨ob2,o3,o4⟩:=R'.objs _ _ e2
 cases o2
 cases o4 with
 | ns hns hz=>
 have I:PySem.W.InstAt s₁.heap x (instObj (W.cl .web) dd) (W.cl .web) (some (dictOf _ _)):=⟨o1,rfl,rfl,o3⟩
 refine nY ?_;clear nY
 refine wpAny_bind (wpAny_holding (method_inst FF g.X I hp (Pl ho h1) F.isFn (X9 hns hat) ?_))
 refine wpAny_bind (wpAny_of_eq hpos ?_)
 refine Calls.callWith_function (Fz hs hn ok Y R' q' fun as us H' s' hv R' q'=>⟨⟨g.keep Y R' _ _ F.at_,rfl⟩,?_⟩)
 exact wpAny_call (sc (fun _=>ok.handled hf) (by have:=ok.room;exact Aeu this) (by have:=ok.units;exact Aev this) ok.stk Y R' h1 (.cons (.ref _) hv) q')
theorem Ss(C:Addr)(rest:List Value):(Code.builtin "type.__call__" ⟨.ref C::rest,[]⟩).weight<=1:=by
 first|exact(show (0:Nat)<=1 by decide)|exact(show (1:Nat)<=1 by decide)
theorem Uc(a:Args):(Code.builtin "type.__call__" a).cUnits=1:=by kernel_rfl
theorem Aek(g:Ie W G)(hf:c.hnd=false)(sc:SC W G n){cc:Kb}{x:Str}{p pos:Pos}{es:List Expr}{xs:List X}(hcc:(cc = .web/\x = "Web")\/(cc = .verdict/\x = "Verdict"))(hg:c.global x=true)(hs:Vn W G n c es xs)(hn:NS es) :
 SE W G n c (.Call (.Name x p) es [] pos) (.mk cc xs):=by
 intro A env h₀ H ρ s Q E ok Y R q
 simp only[Jb,Jc,Jd,Je,Jf,Jg,Jh,Ji,Jj,Jk,Jl,Jm,Jn,Jo,Jp,Jq,B0,Jr,Js,Jt,Ju,Jv,A4,Dr,Bi,A0,Jw,Jx,A6,Ca,A7,Bf]at q
 have hc':cc = .web\/cc = .verdict:=hcc.elim (fun h=> .inl h.1) fun h=> .inr h.1
 refine Aa fun nY=>?_
 obtain⟨d,hd'⟩:=Option.isSome_iff_exists.mp q.1
 obtain⟨fa,h1,name,qual,params,body,scope,doc,pm,cdv,ct,oc,an,od,osl,F⟩:=g.fn _ d hd'
 obtain⟨hm1,hm2⟩:=g.make cc hc' q.1
 refine nY ?_;clear nY
 have hns:nsIn W.K mainGlobals x=some (some (.ref (W.cl cc))):=by rcases hcc with⟨rfl,rfl⟩ | ⟨rfl,rfl⟩<;>exact hm1
 have hk:keepIn W.K (.ref (W.cl cc))=true:=by
  unfold makesIn at hm2
  refine Aa fun nY=>?_
  split at hm2
  ·rename_i e
   refine nY ?_;clear nY
   simp only[keepIn,e]
   simp only[Bool.and_eq_true]at hm2
   exact hm2.1.2
  ·cases hm2
 refine Call_ (Ke g Y R hg (by rcases hcc with⟨rfl,rfl⟩ | ⟨rfl,rfl⟩<;>decide) hns ?_)
 refine callWith_of (P:=W.K.In) (by simp[hn.plain]) (keeps_K hk) (Fz hs hn ok Y R q.2 fun as us H' s' hv R' q'=>⟨g.keep Y R',?_⟩)
 refine wpAny_call ?_
 have X:=g.keep Y R'
 refine Aa fun nY=>?_
 obtain⟨hh,gg,dd,tt,oo⟩:=s'
 refine nY ?_;clear nY
 refine make_core (makes_of X hm2) (looks_findIn X (Pl (Xb hc') h1)) (fun self=>bind_fn X self (beq_iff_eq.mp F.isFn)) (.inl rfl) ?_
 have hn1:=R'.fresh
 have R1:=R'.push (o:= .ns []) (ob:=emptyDict) (OR.ns (es:=[]) .nil (by simp)) rfl tt
 have hn2:=R1.fresh
 simp only[Heap.size_push]at hn1 hn2
 have hn3:H' (hh.objs.size+1)=none:=by
  unfold upd at hn2
  simp at hn2
  exact hn2
 have R2:=R1.push (o:= .inst cc hh.objs.size) (ob:=instObj (W.cl cc) hh.objs.size) (.inst hc') rfl tt
 simp only[Heap.size_push]at R2
 have q2:=q' (hh.objs.size+1) hh.objs.size hn3 hn1 (Nat.succ_ne_self _)
 refine codeAny_mono (sc (Q:=fun r H'=>r = .none/\Q (.ref (hh.objs.size+1)) H') (E:=E) ?_ ?_ ?_ ok.stk Y R2 h1 (.cons (.ref _) hv) q2) fun r s' z=>?_
 ·exact fun _=>ok.handled hf
 ·have:=ok.room;show A.depth+Code.weight _+_+_<_;refine Nat.lt_of_le_of_lt (Nat.add_le_add_right (Nat.add_le_add_right (Nat.add_le_add_left (Ss _ _) _) _) _) ?_;exact Ajm this
 ·have:=ok.units;show A.units+Code.cUnits _+_+_<_;rw[Uc];exact Ajn this
 ·rcases r with e|(v|_|_|_)<;>first|exact z|exact z.elim|skip
  refine Aa fun nY=>?_
  obtain⟨a,H3,hv3,R3,e3,q3⟩:=z
  subst e3
  cases hv3
  refine nY ?_;clear nY
  exact⟨rfl,Bv.mk (.ref _) R3 q3⟩
end Mine.Internal
namespace Mine.Internal
open PySem PySem.W PyProof.Rows
variable {W:Wd} {G:Aw} {A:Around} {h₀:HB} {env:Env} {c:Cx} {names:List Str} {H:AH} {ρ:Ak} {s:Shared} {E:Value->Shared->Prop} {n:Nat} {Q:Ah} {Er:EP}
noncomputable def Aho(x:Str)(b:BI):Prop:=x∈Kd/\bootBuiltins x=some (Aej b)/\x≠ "__name__" /\(x==("__debug__" :Str))=false
theorem Afi:∀p∈W2,Aho p.1 p.2.2/\(Pf p.2.2=true\/p.2.2 = .str\/p.2.2 = .int):=
 List.forall_mem_cons.mpr ⟨⟨⟨by decide,by kernel_rfl,by decide,by decide⟩,by decide⟩,List.forall_mem_cons.mpr ⟨⟨⟨by decide,by kernel_rfl,by decide,by decide⟩,by decide⟩,List.forall_mem_cons.mpr ⟨⟨⟨by decide,by kernel_rfl,by decide,by decide⟩,by decide⟩,List.forall_mem_cons.mpr ⟨⟨⟨by decide,by kernel_rfl,by decide,by decide⟩,by decide⟩,List.forall_mem_cons.mpr ⟨⟨⟨by decide,by kernel_rfl,by decide,by decide⟩,by decide⟩,List.forall_mem_cons.mpr ⟨⟨⟨by decide,by kernel_rfl,by decide,by decide⟩,by decide⟩,List.forall_mem_cons.mpr ⟨⟨⟨by decide,by kernel_rfl,by decide,by decide⟩,by decide⟩,List.forall_mem_cons.mpr ⟨⟨⟨by decide,by kernel_rfl,by decide,by decide⟩,by decide⟩,List.forall_mem_cons.mpr ⟨⟨⟨by decide,by kernel_rfl,by decide,by decide⟩,by decide⟩,List.forall_mem_cons.mpr ⟨⟨⟨by decide,by kernel_rfl,by decide,by decide⟩,by decide⟩,nofun⟩⟩⟩⟩⟩⟩⟩⟩⟩⟩
theorem Aai{x:Str}{k:Nat}{b:BI}(h:Zv x k=some b):Aho x b/\(Pf b=true\/b = .str\/b = .int):=Afi (x,(k,b)) (Pb h)
theorem Md(g:Ie W G)(Y:An W env c h₀)(R:A1 W h₀ env names H ρ s){x:Str}{p pos:Pos}{v:Value}{es:List Expr}{Q:Value->Shared->Prop}(hv:(∃i,v = .builtin i)\/∃i,v = .type i)(hg:c.global x=true)(hd:(x==("__debug__" :Str))=false)(hx:x∈Kd)
 (hb:bootBuiltins x=some v) (hnm:x≠ "__name__") (hn:NS es) (h:wpAny W.M A (evalArgs v true (backTo pos (starEach es env)) []) (fun a s₁=>wpAny W.M A (call v a.pos a.kw) Q E s₁) E s) :
 wpAny W.M A (eval (.Call (.Name x p) es [] pos) env) Q E s:=by
 refine Call_ (Pj g Y R hg hd hx hb hnm ?_)
 rcases hv with⟨i,rfl⟩ | ⟨i,rfl⟩
 ·exact Calls.callWith_builtin hn.plain h
 ·exact PySem.callWith_type hn.plain h
theorem Ahp(g:Ie W G)(hf:c.hnd=false){b:BI}{x:Str}{p pos:Pos}{es:List Expr}{xs:List X}(hb:Zv x es.length=some b)(hg:c.global x=true)(hs:Vn W G n c es xs)(hn:NS es) :
 SE W G n c (.Call (.Name x p) es [] pos) (.bi b xs):=by
 intro A env h₀ H ρ s Q E ok Y R q
 simp only[Jb,Jc,Jd,Je,Jf,Jg,Jh,Ji,Jj,Jk,Jl,Jm,Jn,Jo,Jp,Jq,B0,Jr,Js,Jt,Ju,Jv,A4,Dr,Bi,A0,Jw,Jx,A6,Ca,A7,Bf]at q
 refine Aa fun nY=>?_
 obtain⟨⟨h1,h2,h3,h4⟩,hd⟩:=Aai hb
 refine nY ?_;clear nY
 refine Md g Y R ?_ hg h4 h1 h2 h3 hn (Fz hs hn ok Y R q fun as us H' s' hv R' q'=>?_)
 ·cases b<;>first|exact .inl ⟨_,rfl⟩|exact .inr ⟨_,rfl⟩|(rcases hd with hd|hd|hd<;>cases hd)
 ·refine Aa fun nY=>?_
  rcases hd with hd|rfl|rfl
  ·refine nY ?_;clear nY
   exact Vj ok hf Y R' hd hv q'
  ·exact q'.elim
  ·exact q'.elim
theorem Aaj{x:Str}{t:Ty}(h:Zu x=some t)(hp:G6 t=true):(x = "int" /\t = .int)\/(x = "bool" /\t = .bool)\/(x = "list" /\t = .list):=
 (by decide:∀p∈W0,G6 p.2=true->(p.1 = "int" /\p.2 = .int)\/(p.1 = "bool" /\p.2 = .bool)\/(p.1 = "list" /\p.2 = .list)) (x,t) (Sh h) hp
theorem Aak{x:Str}{t:Ty}(h:Zu x=some t)(hp:G6 t=true):x∈Kd/\bootBuiltins x=some (Z5 W t)/\x≠ "__name__" /\(x==("__debug__" :Str))=false:=by
 rcases Aaj h hp with⟨rfl,rfl⟩ | ⟨rfl,rfl⟩ | ⟨rfl,rfl⟩<;>exact⟨by decide,by kernel_rfl,by decide,by decide⟩
theorem Ahq(g:Ie W G)(Y:An W env c h₀)(R:A1 W h₀ env names H ρ s){t:Ty}{tn:Str}{tp:Pos}(ht:Zu tn=some t)(hp:G6 t=true)(hgt:c.global tn=true){Q:Value->Shared->Prop}(h:Q (Z5 W t) s):wpAny W.M A (eval (.Name tn tp) env) Q E s:=by
 obtain⟨t1,t2,t3,t4⟩:=Aak (W:=W) ht hp
 exact Pj g Y R hgt t4 t1 t2 t3 h
theorem Yb(g:Ie W G){t:Ty}{tn:Str}{p tp pos:Pos}{e:Expr}{x:X}(ht:Zu tn=some t)(hg:c.global "isinstance" = true)(hgt:c.global tn=true)(h:SE W G n c e x)(hn:∀v p,e≠ .Starred v p) :
 SE W G n c (.Call (.Name "isinstance" p) [e,.Name tn tp] [] pos) (.bi (.isinst t) [x]):=by
 intro A env h₀ H ρ s Q E ok Y R q
 simp only[Jb,Jc,Jd,Je,Jf,Jg,Jh,Ji,Jj,Jk,Jl,Jm,Jn,Jo,Jp,Jq,B0,Jr,Js,Jt,Ju,Jv,A4,Dr,Bi,A0,Jw,Jx,A6,Ca,A7,Bf]at q
 refine Md g Y R (.inl ⟨"isinstance",rfl⟩) hg (by decide) (by decide) (by kernel_rfl) (by decide) ?_ ?_
 ·intro e' he' v p' q'
  refine Aa fun nY=>?_
  rcases List.mem_cons.mp he' with rfl|he'
  ·refine nY ?_;clear nY
   exact hn _ _ q'
  ·rcases List.mem_cons.mp he' with rfl|he'
   ·cases q'
   ·cases he'
 ·rw[Bu hn,Bu (fun _ _ q=>by cases q)]
  refine Calls.evalArgs_plain (Calls.spliced_cons (wpAny_mono (h ok Y R q) (fun u s' r=>?_) fun _ _ e=>e))
  refine Aa fun nY=>?_
  obtain⟨a,H',hv,R',q'⟩:=r
  obtain⟨hp,q'⟩:=q'
  refine nY ?_;clear nY
  refine Calls.spliced_cons (Ahq g Y R' ht hp hgt (Calls.spliced_nil ?_))
  refine Aa fun nY=>?_
  split at q'
  ·rename_i r e
   refine nY ?_;clear nY
   exact Sm R' hp hv e q'
  ·exact q'.elim
theorem Ac3(g:Ie W G){p tp pos:Pos}{e:Expr}{x:X}(hg:c.global "isinstance" = true)(hgt:c.global "ValueError" = true)(h:SE W G n c e x)(hn:∀v p,e≠ .Starred v p) :
 SE W G n c (.Call (.Name "isinstance" p) [e,.Name "ValueError" tp] [] pos) (.isVE x):=by
 intro A env h₀ H ρ s Q E ok Y R q
 rw[Aeq]at q
 exact False.elim q
theorem Pm:∀(l:List Int),(List.range l.length).map (fun i=>l.getD i 0)=l:=fun l=>by
 apply List.ext_getElem
 ·simp
 ·intro i h1 h2
  simp at h1 h2
  simp[h2]
theorem St{l:List Int}{k:Nat}(h:k=l.length):firstMet (fun i=>l.getD i 0) k=G5 l:=by
 subst h
 unfold firstMet G5
 rw[Pm];rfl
theorem Yc(g:Ie W G)(hf:c.hnd=false){p sp pos pos':Pos}{e:Expr}{x:X}(hg:c.global "len" = true)(hgs:c.global "set" = true)(h:SE W G n c e x)(hn:∀v p,e≠ .Starred v p) :
 SE W G n c (.Call (.Name "len" p) [.Call (.Name "set" sp) [e] [] pos'] [] pos) (.bi .lenSet [x]):=by
 intro A env h₀ H ρ s Q E ok Y R q
 simp only[Jb,Jc,Jd,Je,Jf,Jg,Jh,Ji,Jj,Jk,Jl,Jm,Jn,Jo,Jp,Jq,B0,Jr,Js,Jt,Ju,Jv,A4,Dr,Bi,A0,Jw,Jx,A6,Ca,A7,Bf]at q
 refine Md g Y R (.inl ⟨"len",rfl⟩) hg (by decide) (by decide) (by kernel_rfl) (by decide) (fun e' he' v p' q'=>?_) ?_
 ·refine Aa fun nY=>?_
  rcases List.mem_cons.mp he' with rfl|he'
  ·cases q'
  ·cases he'
 ·rw[Bu (fun _ _ q=>by cases q)]
  refine Calls.evalArgs_plain (Calls.spliced_cons ?_)
  refine Md g Y R (.inr ⟨"set",rfl⟩) hgs (by decide) (by decide) (by kernel_rfl) (by decide) (fun e' he' v p' q'=>?_) ?_
  ·refine Aa fun nY=>?_
   rcases List.mem_cons.mp he' with rfl|he'
   ·refine nY ?_;clear nY
    exact hn _ _ q'
   ·cases he'
  ·rw[Bu hn]
   refine Calls.evalArgs_plain (Calls.spliced_cons (wpAny_mono (h ok Y R q) (fun u s' r=>Calls.spliced_nil ?_) fun _ _ e=>e))
   refine Aa fun nY=>?_
   obtain⟨a,H',hv,R',q'⟩:=r
   replace q':A2 a fun l=>F8 (H' l) fun xs=>Ey (ints? xs) fun ns=>ns.length<=4000/\Q (.int (G5 ns).length) H':=q'
   refine nY ?_;clear nY
   apply Bh hv q'
   intro l q'
   refine Fb q' fun xs e1 q'=>?_
   refine Cv q' fun ns e2 q'=>?_
   refine Aa fun nY=>?_
   obtain⟨hz,q2⟩:=q'
   obtain⟨l1,h1,r1,z1⟩:=R'.isList e1
   have hlen:=ints?_length e2
   have hl1:=r1.length
   refine nY ?_;clear nY
   refine call_set_list (ok.handled hf) h1 (by simpa using Gy r1 e2) (by simp only[List.size_toArray,scanBound];exact Ajo hz hlen hl1) fun h' tk hS hk=>?_
   rw[St (by simp;exact((hlen.trans hl1).symm))]at hS
   refine Aa fun nY=>?_
   obtain⟨o,es,ep,t,o1,o2,o3,o4,o5,o6,o7,o8⟩:=hS
   refine nY ?_;clear nY
   refine Calls.spliced_nil ?_
   refine call_len_set o1 o2 o3 o7 (by simp only[scanBound]at o6;exact Ajp o6) ?_
   rw[o8]
   exact Bv.mk (.int _ _) (R'.move _ fun b o e=>hk b o (Heap.lt_size e) e) q2
theorem Yd{a:Int}{k:Nat}{ys:List Value}(h:CarriedAll ys ((rangeInts a 1 k).map .int)):Dj W ((List.range k).map fun(i:Nat)=>V.int (a+i)) ys:=by
 have:(List.range k).map (fun(i:Nat)=>V.int (a+i))=(rangeInts a 1 k).map V.int:=by
  simp[rangeInts,Function.comp_def]
 rw[this]
 generalize rangeInts a 1 k=l at h
 induction l generalizing ys with
 | nil=>cases h;exact .nil
 | cons i l ih=>
   cases h with
   | cons h t=>cases h;exact .cons (.int _ _) (ih t)
end Mine.Internal
namespace Mine.Internal
open PySem PySem.W PyProof.Rows
variable {W:Wd} {G:Aw} {A:Around} {h₀:HB} {env:Env} {c:Cx} {names:List Str} {H H':AH} {ρ ρ':Ak} {s s':Shared} {E:Value->Shared->Prop} {n:Nat} {Q:Ah} {Er:EP}
noncomputable def Xc(env:Env)(H:AH)(k:Nat):List Addr:=(List.range k).filter fun a=>(H a).isSome||a==env.locals||env.cells.any fun p=>p.2==a
noncomputable def prot(env:Env)(fs:List Addr)(H:AH)(h:Heap):HB:=⟨hideAll h (Xc env H h.objs.size),fs⟩
theorem Rn{k:Nat}{a:Addr}:a∈Xc env H k↔a<k/\((∃o,H a=some o)\/a=env.locals\/∃p∈env.cells,p.2=a):=by
 unfold Xc
 rw[List.mem_filter,List.mem_range]
 simp only[Bool.or_eq_true,beq_iff_eq,List.any_eq_true,or_assoc,Option.isSome_iff_exists]
theorem C1{fs:List Addr}{h:Heap}{a:Addr}{o:Obj}(e:h.get? a=some o)(h1:H a=none)(h2:a≠env.locals)(h3:∀p∈env.cells,p.2≠a):(prot env fs H h).get? a=some o:=
 hideAll_get _ e fun q=>by
  rcases(Rn.mp q).2 with⟨o,e⟩|e | ⟨p,hp,e⟩
  ·rw[h1]at e;cases e
  ·exact h2 e
  ·exact h3 p hp e
theorem F0{fs:List Addr}{h:Heap}{a:Addr}{o:Obj}(e:(prot env fs H h).get? a=some o):h.get? a=some o:=of_hideAll _ e
theorem Da{fs:List Addr}{h:Heap}{a:Addr}(hx:(∃o,H a=some o)\/a=env.locals\/∃p∈env.cells,p.2=a):(prot env fs H h).get? a=none:=by
 cases q:(prot env fs H h).get? a with
 | none=>rfl
 | some o=>
   have:=hideAll_none (h:=h) _ (Rn.mpr ⟨Heap.lt_size (F0 q),hx⟩)
   replace q:(hideAll h (Xc env H h.objs.size)).get? a=some o:=q
   rw[this]at q;cases q
theorem Bk{cs:List (Str×Addr)}{x:Str}{a:Addr}(h:cs.lookup x=some a):∃p∈cs,p.2=a:=by
 induction cs with
 | nil=>cases h
 | cons p r ih=>
   obtain⟨y,b⟩:=p
   rw[List.lookup_cons]at h
   split at h
   ·cases h;exact⟨_,.head _,rfl⟩
   ·obtain⟨p,h1,h2⟩:=ih h;exact⟨p,.tail _ h1,h2⟩
theorem A1.prot(R:A1 W h₀ env names H ρ s):A1 W (prot env h₀.fs H s.heap) env names H ρ s where
 ns:=R.ns
 cell:=R.cell
 keep:= .of fun _ _ e=>F0 e
 objs:=R.objs
 sep:=fun a o e=>⟨Da (.inl ⟨o,e⟩),(R.sep a o e).2⟩
 gens:=R.gens
 os:=R.os
 above:=R.above
 low:=R.low
theorem A1.in_prot(R:A1 W h₀ env names H ρ s)(Y:An W env c h₀):Gx W h₀ (Mine.Internal.prot env h₀.fs H s.heap).h:=fun b o e=>
 let ⟨o',e1,z⟩:=R.keep b o e;⟨o',C1 e1 (by cases q:H b with
  | none=>rfl
  | some x=>rw[(R.sep b x q).1]at e;cases e) (fun q=>by rw[q,Y.new]at e;cases e) (fun p hp q=>by have:=Y.newc p hp;rw[q,e]at this;cases this),z⟩
theorem An.prot(Y:An W env c h₀)(R:A1 W h₀ env names H ρ s):An W env c (Mine.Internal.prot env h₀.fs H s.heap) where
 kind:=Y.kind
 globals:=Y.globals
 builtins:=Y.builtins
 kinds:=Y.kinds
 frees:=Y.frees
 cells:=Y.cells
 apart:=Y.apart
 inj:=Y.inj
 base:=fun b o e=>C1 (R.keepB Y b o e)
  (by cases q:H b with
      | none=>rfl
      | some x=>have:=(R.sep b x q).1;rw[Y.base b o e]at this;cases this)
  (fun q=>absurd (Heap.lt_size e) (Nat.not_lt.mpr (q▸R.above)))
  (fun p hp q=>by have:=Y.newc p hp;rw[q,Y.base b o e]at this;cases this)
 new:=Da (.inr (.inl rfl))
 fsok:=fun L m q=>Y.fsok L m ((R.in_prot Y).none q)
 fsd:=fun L m=>⟨(Y.fsd L m).1,fun o e=>by obtain⟨o',e1,z⟩:=R.fsd Y m;rw[F0 e]at e1;cases e1;exact z⟩
 newc:=fun p hp=>Da (.inr (.inr ⟨p,hp,rfl⟩))
 look:=Y.look
 lo:=Y.lo
theorem A1.sub(R:A1 W h₀ env names H ρ s){h₁:HB}(k:Gx W h₁ h₀.h)(hf:∀b o,h₁.get? b=some o->b∈h₀.fs->b∈h₁.fs):A1 W h₁ env names H ρ s where
 ns:=R.ns
 cell:=R.cell
 keep:=k.trans hf R.keep
 objs:=R.objs
 sep:=fun a o e=>by
  exact⟨k.none (R.sep a o e).1,(R.sep a o e).2⟩
 gens:=R.gens
 os:=R.os
 above:=R.above
 low:=R.low
theorem A1.unprot(R:A1 W h₀ env names H ρ s)(Y:An W env c h₀){names':List Str}(R':A1 W (Mine.Internal.prot env h₀.fs H s.heap) env names' H' ρ' s'):A1 W h₀ env names' H' ρ' s':=R'.sub (R.in_prot Y) fun _ _ _ m=>m
theorem Rg.prot(ok:Rg A c h₀ env Er n):Rg A c (Mine.Internal.prot env h₀.fs H s.heap) env Er n:=⟨ok.handled,ok.room,ok.units,ok.stk,ok.top,ok.noE⟩
theorem EM.unprot(R:A1 W h₀ env names H ρ s)(Y:An W env c h₀){names':List Str}{v:Value}(x:EM W (Mine.Internal.prot env h₀.fs H s.heap) env names' ρ' Er v s'):EM W h₀ env names' ρ' Er v s':=False.elim x
theorem stays{a:Addr}{o:Obj}(e:s.heap.get? a=some o)(h1:H a=none)(h2:a≠env.locals)(h3:∀p∈env.cells,p.2≠a)(hx:a∉h₀.fs){names':List Str}(R':A1 W (Mine.Internal.prot env h₀.fs H s.heap) env names' H' ρ' s'):s'.heap.get? a=some o:=
 R'.keep.exact (C1 e h1 h2 h3) (.inl hx)
/-! objects made by displays -/
theorem Ac4{es:List Expr}{xs:List X}{p:Pos}(hs:Vn W G n c es xs)(hl:es.length<100):SE W G n c (.List es p) (.list xs):=by
 intro A env h₀ H ρ s Q E ok Y R q
 simp only[Jb,Jc,Jd,Je,Jf,Jg,Jh,Ji,Jj,Jk,Jl,Jm,Jn,Jo,Jp,Jq,B0,Jr,Js,Jt,Ju,Jv,A4,Dr,Bi,A0,Jw,Jx,A6,Ca,A7,Bf]at q
 refine List_ (wpAny_mono (hs ok Y R q) (fun us s' r=>?_) fun _ _ e=>e)
 obtain⟨as,H',hv,hl',R',q'⟩:=r
 exact wpAny_newList (Bv.mk (.ref _) (R'.push (.list hv (by simp only[Bq];exact Ag5 hl hl')) rfl _) (q' _ R'.fresh)) (hsz:=by rw[<-hv.length];simp only[sizeLine];exact Ag6 hl hl')
theorem Aal{es:List Expr}{xs:List X}{k:Nat}{p:Pos}(hs:Vn W G n c es xs)(hl:es.length<100):SE W G n c (.Tuple es k p) (.tuple xs):=by
 intro A env h₀ H ρ s Q E ok Y R q
 simp only[Jb,Jc,Jd,Je,Jf,Jg,Jh,Ji,Jj,Jk,Jl,Jm,Jn,Jo,Jp,Jq,B0,Jr,Js,Jt,Ju,Jv,A4,Dr,Bi,A0,Jw,Jx,A6,Ca,A7,Bf]at q
 refine Tuple_ (wpAny_mono (hs ok Y R q) (fun us s' r=>?_) fun _ _ e=>e)
 refine Aa fun nY=>?_
 obtain⟨as,H',hv,hl',R',q'⟩:=r
 refine nY ?_;clear nY
 exact wpAny_newTuple (Bv.mk (.ref _) (R'.push (.tuple hv (by simp only[Bq];exact Ag5 hl hl')) rfl _) (q' _ R'.fresh)) (hsz:=by rw[<-hv.length];simp only[sizeLine];exact Ag6 hl hl')
theorem Ac5(g:Ie W G){o:Expr}{x:X}{a:Ct}{an:Str}{p:Pos}(hb:Iz o=true)(ha:Nq an=some a)(h:SE W G n c o x):SE W G n c (.Attribute o an p) (.attr x a):=by
 intro A env h₀ H ρ s Q E ok Y R q
 simp only[Jb,Jc,Jd,Je,Jf,Jg,Jh,Ji,Jj,Jk,Jl,Jm,Jn,Jo,Jp,Jq,B0,Jr,Js,Jt,Ju,Jv,A4,Dr,Bi,A0,Jw,Jx,A6,Ca,A7,Bf]at q
 have hname:an=A9 a:=by
  delta Nq at ha
  repeat' split at ha
  all_goals first
   | (rename_i z;simp only[beq_iff_eq]at z;cases ha;exact z)
   | cases ha
 subst hname
 refine Attribute_any_ (wpAny_mono (h ok Y R q) (fun v s' r=>?_) fun _ _ e=>e) (by rw[arm_eval_Attribute,Sr hb])
 refine Aa fun nY=>?_
 obtain⟨ov,H',hv,R',q'⟩:=r
 refine nY ?_;clear nY
 exact Ql Y g.X g.inst R' hv q'
theorem Aam(Y:An W env c h₀)(R:A1 W h₀ env names H ρ s){a b:V}{u:Value}(hu:VR W a u)(q:B9 a b H Q):(Ii fun T id=>s.TypeIs u T/\typeLookup (.type T) "__getitem__" = pure (some (.builtin id))):=by
 apply Zz q
 intro k q
 induction hu with
 | ref a=>
   dsimp only at q
   refine Aa fun nY=>?_
   split at q
   ·rename_i xs e
    obtain⟨l,h,_⟩:=R.isList e
    refine nY ?_;clear nY
    exact⟨_,_,h.typeIs,slot_list_getitem.lookup⟩
   ·rename_i xs e
    obtain⟨l,h,_⟩:=R.isTup e
    refine nY ?_;clear nY
    exact⟨_,_,h.typeIs,slot_tuple_getitem.lookup⟩
   ·rename_i xs e
    obtain⟨l,h,_⟩:=R.isDict e
    refine nY ?_;clear nY
    exact⟨_,_,h.typeIs,slot_dict_getitem.lookup⟩
   ·exact q.elim
 | script=>
   refine Aa fun nY=>?_
   obtain⟨l,h,_⟩:=R.script Y
   refine nY ?_;clear nY
   exact⟨_,_,h.typeIs,slot_list_getitem.lookup⟩
 | _=>exact False.elim q
noncomputable def Pn:Expr->Bool
 | .Slice .. =>false
 | _=>true
theorem Me{e:Expr}(h:Pn e=true)(o i:Value):subscripted e false o i=operate [o,i] (getItem o i):=by
 cases e<;>first|rfl|cases h
theorem Afj{o i:Expr}{x y:X}{p:Pos}(hi:Pn i=true)(h:SE W G n c o x)(h2:SE W G n c i y):SE W G n c (.Subscript o i p) (.sub x y):=by
 intro A env h₀ H ρ s Q E ok Y R q
 simp only[Jb,Jc,Jd,Je,Jf,Jg,Jh,Ji,Jj,Jk,Jl,Jm,Jn,Jo,Jp,Jq,B0,Jr,Js,Jt,Ju,Jv,A4,Dr,Bi,A0,Jw,Jx,A6,Ca,A7,Bf]at q
 refine Subscript_ (wpAny_mono (h ok Y R q) (fun v s' r=>?_) fun _ _ e=>e)
 refine Aa fun nY=>?_
 obtain⟨a,H',hv,R',q'⟩:=r
 refine nY ?_;clear nY
 refine wpAny_mono (h2 ok Y R' q') (fun v2 s2 r=>?_) fun _ _ e=>e
 refine Aa fun nY=>?_
 obtain⟨b,H2,hv2,R2,q2⟩:=r
 obtain⟨T,id,t1,t2⟩:=Aam Y R2 hv q2
 refine nY ?_;clear nY
 exact tail_any t1 t2 (T6 Y R2 hv hv2 q2) (Me hi _ _)
noncomputable def SO(W:Wd)(G:Aw)(n:Nat)(c:Cx)(e:Option Expr)(x:X):Prop:=
 ∀ {A:Around} {env:Env} {h₀:HB} {H:AH} {ρ:Ak} {s:Shared} {Q:Ah} {E:EP},Rg A c h₀ env E n->An W env c h₀->A1 W h₀ env c.names H ρ s->Av G (Af G n) x ρ H Q E->
  wpAny W.M A (valueOrNone (evalOpt e env)) (Bv W h₀ env c.names ρ Q) (EM W h₀ env c.names ρ E) s
theorem Ac6:SO W G n c none .omit:=by
 intro A env h₀ H ρ s Q E ok Y R q
 exact wpAny_pure (Bv.mk .none R q)
theorem Ac7{e:Expr}{x:X}(h:SE W G n c e x):SO W G n c (some e) x:=by
 intro A env h₀ H ρ s Q E ok Y R q
 exact h ok Y R q
theorem Vp(R:A1 W h₀ env names H ρ s){a l u st:V}{v:Value}(hu:VR W a v)(q:Dh a l u st H Q):s.TypeIs v "list" :=by
 apply Bh hu q
 intro a q
 refine Cv q fun _ _ q=>?_
 refine Cv q fun _ _ q=>?_
 refine Fb q fun xs e q=>?_
 obtain⟨l,h,_⟩:=R.isList e
 exact h.typeIs
theorem Mf(l u st:Option Expr)(p:Pos)(o i:Value):∃ops,subscripted (.Slice l u st p) false o i=operate ops (getItem o i):=by
 cases st
 ·exact⟨[i,o],rfl⟩
 ·exact⟨[o,i],rfl⟩
theorem Aan{o:Expr}{l u st:Option Expr}{x xl xu xs:X}{p p2:Pos}(h:SE W G n c o x)(hl:SO W G n c l xl)(hu:SO W G n c u xu)(hs:SO W G n c st xs):SE W G n c (.Subscript o (.Slice l u st p2) p) (.slice x xl xu xs):=by
 intro A env h₀ H ρ s Q E ok Y R q
 simp only[Jb,Jc,Jd,Je,Jf,Jg,Jh,Ji,Jj,Jk,Jl,Jm,Jn,Jo,Jp,Jq,B0,Jr,Js,Jt,Ju,Jv,A4,Dr,Bi,A0,Jw,Jx,A6,Ca,A7,Bf]at q
 refine Subscript_ (wpAny_mono (h ok Y R q) (fun v s' r=>?_) fun _ _ e=>e)
 refine Aa fun nY=>?_
 obtain⟨a,H',hv,R',q'⟩:=r
 refine nY ?_;clear nY
 rw[arm_eval_Slice]
 refine wpAny_bind (wpAny_mono (hl ok Y R' q') (fun v2 s2 r=>?_) fun _ _ e=>e)
 refine Aa fun nY=>?_
 obtain⟨b,H2,hv2,R2,q2⟩:=r
 refine nY ?_;clear nY
 refine wpAny_bind (wpAny_holding (wpAny_mono (hu ok Y R2 q2) (fun v3 s3 r=>?_) fun _ _ e=>e))
 refine Aa fun nY=>?_
 obtain⟨d,H3,hv3,R3,q3⟩:=r
 refine nY ?_;clear nY
 refine wpAny_bind (wpAny_holding (wpAny_mono (hs ok Y R3 q3) (fun v4 s4 r=>?_) fun _ _ e=>e))
 refine Aa fun nY=>?_
 obtain⟨f,H4,hv4,R4,q4⟩:=r
 refine nY ?_;clear nY
 refine fun _ _ _=>?_
 have R5:=R4.pushHid {cls:= .type "slice",data:= .fields #[v2,v3,v4]} s4.toks
 obtain⟨ops,e⟩:=Mf l u st p2 v (.ref s4.heap.objs.size)
 exact tail_any (E:=EM W h₀ env c.names ρ E) (Vp R5 hv q4) slot_list_getitem.lookup (Qj Y R5 hv hv2 hv3 hv4 ⟨_,Heap.get?_push_size _ rfl,rfl,rfl⟩ q4) e
theorem Aao{p:Pos}:SE W G n c (.Dict [] [] p) (.dict [] []):=by
 intro A env h₀ H ρ s Q E ok Y R q
 simp only[Jb,Jc,Jd,Je,Jf,Jg,Jh,Ji,Jj,Jk,Jl,Jm,Jn,Jo,Jp,Jq,B0,Jr,Js,Jt,Ju,Jv,A4,Dr,Bi,A0,Jw,Jx,A6,Ca,A7,Bf]at q
 obtain⟨m,F⟩:=R.kitF Y
 refine Dict_empty_made (intKind W.prog W.w) PyData.int F X3 Y.lo fun h' o F' N' hm hd hf hne=>?_
 have z:=Oj (t:=s.toks) R Y F F' N' (Nat.le_refl _) (OR.dict (W:=W) .nil (by simp) hd)
 exact Bv.mk (.ref _) z.2 (q _ z.1)
theorem Ro(Y:An W env c h₀)(R:A1 W h₀ env names H ρ s){a:Addr}(hn:s.heap.get? a=none):∀p∈env.cells,p.2≠a:=fun p hp q=>by
 obtain⟨w,⟨o,h,_⟩,_⟩:=R.cell p.1 p.2 (Y.look p hp)
 rw[q,hn]at h;cases h
theorem A1.swap(R:A1 W h₀ env names H ρ s){h':Heap}{a:Addr}(t:Nat)(k:Heap.SameBut a s.heap h')(h1:H a=none)(h2:h₀.get? a=none)(h3:a≠env.locals)(h4:∀x,env.cells.lookup x≠some a):A1 W h₀ env names H ρ {s with heap:=h',toks:=t} where
 ns:=let ⟨m,x,b⟩:=R.ns;⟨m,x.sameBut k (Ne.symm h3),b⟩
 cell:=fun x b e=>let ⟨w,⟨o,ho,hd⟩,r⟩:=R.cell x b e;⟨w,⟨o,(k.2 b fun q=>h4 x (q▸e)).trans ho,hd⟩,r⟩
 keep:=fun b o e=>let ⟨o',e1,z⟩:=R.keep b o e;⟨o',(k.2 b fun q=>by rw[q,h2]at e;cases e).trans e1,z⟩
 objs:=fun b o e=>let ⟨ob,g1,g2⟩:=R.objs b o e;⟨ob,(k.2 b fun q=>by rw[q,h1]at e;cases e).trans g1,g2⟩
 sep:=R.sep
 gens:=R.gens
 os:=R.os
 above:=R.above
 low:=R.low
theorem Aap{k v:Expr}{x y:X}{p:Pos}(h:SE W G n c k x)(h2:SE W G n c v y):SE W G n c (.Dict [some k] [v] p) (.dict [x] [y]):=by
 intro A env h₀ H ρ s Q E ok Y R q
 simp only[Jb,Jc,Jd,Je,Jf,Jg,Jh,Ji,Jj,Jk,Jl,Jm,Jn,Jo,Jp,Jq,B0,Jr,Js,Jt,Ju,Jv,A4,Dr,Bi,A0,Jw,Jx,A6,Ca,A7,Bf]at q
 have R0:=R.pushHid {cls:= .type "dict",data:= .dict #[]} s.toks
 refine Aa fun nY=>?_
 obtain⟨f1,f2,f3,f4,f5⟩:=R.new_sep (Cd _) R.up
 have f6:=Ro Y R (Cd _)
 have hget:(s.heap.push {cls:= .type "dict",data:= .dict #[]}).get? s.heap.objs.size=some {cls:= .type "dict",data:= .dict #[]}:=Heap.get?_push_size _ rfl
 have RP:=R0.prot
 have YP:=Y.prot R0
 refine nY ?_;clear nY
 refine wpAny_Dict_walk (knd:=intKind W.prog W.w) rfl rfl (by simp) (by simp) ?_
 show wpAny W.M A (evalPairs [(eval k env,do let x <-eval v env;standAt p;pure x)]) _ _ _
 unfold evalPairs
 refine wpAny_bind (wpAny_mono (h ok.prot YP RP q) (fun u1 s1 r=>?_) fun _ _ e=>EM.unprot R0 Y e)
 refine Aa fun nY=>?_
 obtain⟨a,H1,hv1,R1,q1⟩:=r
 refine nY ?_;clear nY
 refine wpAny_bind (wpAny_holding (wpAny_bind (wpAny_mono (h2 ok.prot YP R1 q1) (fun u2 s2 r=>wpAny_bind (wpAny_standAt (wpAny_pure ?_))) fun _ _ e=>EM.unprot R0 Y e)))
 refine Aa fun nY=>?_
 obtain⟨b,H2,hv2,R2,q2⟩:=r
 refine nY ?_;clear nY
 refine wpAny_bind (wpAny_holding ?_)
 unfold evalPairs
 refine wpAny_pure (wpAny_pure ?_)
 have hd:s2.heap.get? s.heap.objs.size=some {cls:= .type "dict",data:= .dict #[]}:=stays hget f1 f3 f6 (fun m=>Y.fsok _ m f2) R2
 induction hv1 with
 | @int i t=>
   refine⟨[(i,u2)],⟨by simp[intKind,Value.isInt],rfl,trivial⟩,?_,fun h' hd' hk=>?_⟩
   ·refine Aa fun nY=>?_
    obtain⟨o,es,ep,z1,z2⟩:=Heap.DictOf.new (knd:=intKind W.prog W.w) s.heap
    rw[hget]at z1
    cases z1
    refine nY ?_;clear nY
    exact⟨_,es,ep,hd,z2⟩
   ·have R3:=R0.unprot Y R2
    refine Aa fun nY=>?_
    obtain⟨ob,es,ep,g1,g2⟩:=hd'
    have s1:H2 s.heap.objs.size=none:=by
     cases q:H2 s.heap.objs.size with
     | none=>rfl
     | some o=>have:=(R2.sep _ _ q).1;rw[C1 hget f1 f3 f6]at this;cases this
    have R4:=(R3.swap (s2.toks+1) hk s1 f2 f3 f4).add g1 (.dict (es:=[(i,b)]) (.cons hv2 .nil) (by simp[Bq]) ⟨es,ep,g2⟩) s1 f2 f3 f4 f5
    refine nY ?_;clear nY
    exact Bv.mk (.ref _) R4 (q2 _ s1)
 | _=>exact False.elim q2
end Mine.Internal
namespace Mine.Internal
open PySem PySem.W PyProof.Rows
variable {W:Wd} {G:Aw} {A:Around} {h₀:HB} {env:Env} {c:Cx} {names:List Str} {H H':AH} {ρ ρ':Ak} {s s':Shared} {E:Value->Shared->Prop} {n:Nat} {Q:Ah} {Er:EP}
theorem ns1{e:Expr}(h:∀v p,e≠ .Starred v p):NS [e]:=fun e' he' v p' q'=>by
 rcases List.mem_cons.mp he' with rfl|he'
 ·exact h _ _ q'
 ·cases he'
theorem K4(ok:Rg A c h₀ env Er n)(hf:c.hnd=false)(Y:An W env c h₀)(R:A1 W h₀ env names H ρ s){r:Addr}{a b:Int}{t u v:Tok}(hr:IsRange s.heap r a b 1 t u v)(h1:0<=a)(h2:a<=Bq)(h3: -(Bq:Int)<=b)(h4:b<=Bq)
 (q:Ay (.list ((List.range (b-a).toNat).map fun(i:Nat)=>V.int (a+i))) H Q):wpAny W.M A (call (.type "list") [.ref r]) (Bv W h₀ env names ρ Q) E s:=by
 obtain⟨m,F⟩:=R.kitF Y
 have b1:Bq=1048576:=rfl
 refine list_rangeD (ok.handled hf) F X3 hr (small_one (Int.le_trans (by decide) h1) (Ag7 h2 b1) (Ajq h3 b1) (Ag7 h4 b1)) (rangeSize_nat a b) (Ajr h1 h4 b1) fun h' tk ys F' N' hk hn hl hp hc=>?_
 obtain⟨⟨k,e⟩,_⟩:=hp
 have R':=R.put (h':=h') (a:=s.heap.objs.size) (o:= .list ((List.range (b-a).toNat).map fun(i:Nat)=>V.int (a+i))) tk hk e (.list (Yd hc) (by simp;exact(Int.le_trans (Int.sub_le_self _ h1) h4))) (Cd _) fun _ _=>R.up
 exact Bv.mk (.ref _) R' (q _ R.fresh)
theorem Su(g:Ie W G)(hf:c.hnd=false){p rp pos pos':Pos}{es:List Expr}{xs:List X}(hg:c.global "list" = true)(hgr:c.global "range" = true)(hs:Vn W G n c es xs)(hn:NS es) :
 SE W G n c (.Call (.Name "list" p) [.Call (.Name "range" rp) es [] pos'] [] pos) (.bi .listRange xs):=by
 intro A env h₀ H ρ s Q E ok Y R q
 simp only[Jb,Jc,Jd,Je,Jf,Jg,Jh,Ji,Jj,Jk,Jl,Jm,Jn,Jo,Jp,Jq,B0,Jr,Js,Jt,Ju,Jv,A4,Dr,Bi,A0,Jw,Jx,A6,Ca,A7,Bf]at q
 refine Md g Y R (.inr ⟨"list",rfl⟩) hg (by decide) (by decide) (by kernel_rfl) (by decide) (ns1 fun _ _ q=>by cases q) ?_
 rw[Bu (fun _ _ q=>by cases q)]
 refine Calls.evalArgs_plain (Calls.spliced_cons ?_)
 refine Md g Y R (.inr ⟨"range",rfl⟩) hgr (by decide) (by decide) (by kernel_rfl) (by decide) hn (Fz hs hn ok Y R q fun as us H' s' hv R' q'=>?_)
 replace q':Agr as H' Q:=q'
 have b1:Bq=1048576:=rfl
 cases hv with
 | nil=>exact False.elim q'
 | cons hu t=>cases t with
   | nil=>
     apply A3 hu q';intro k t q'
     refine call_range_1 (Calls.spliced_nil ?_)
     have R2:=R'.pushHid {cls:= .type "range",data:= .fields #[.int 0 s'.toks,.int k t,.int 1 (s'.toks+1)]} (s'.toks+1+1)
     refine K4 (a:=0) (b:=k) ok hf Y R2 (Heap.get?_push_size _ rfl) (by(first|lia|omega)) (by(first|lia|omega)) q'.1.1 q'.1.2 ?_
     simpa using q'.2
   | cons hu2 t=>cases t with
     | nil=>
       apply A3 hu q';intro m t q';apply A3 hu2 q';intro k t2 q'
       refine call_range_2 (Calls.spliced_nil ?_)
       have R2:=R'.pushHid {cls:= .type "range",data:= .fields #[.int m t,.int k t2,.int 1 s'.toks]} (s'.toks+1)
       have:=q'.1
       exact K4 (a:=m) (b:=k) ok hf Y R2 (Heap.get?_push_size _ rfl) this.1 this.2.1 this.2.2.1 this.2.2.2 q'.2
     | cons=>exact False.elim q'
noncomputable def Vq:LM->Str
 | .append=> "append" | .clear=> "clear" | .count=> "count" | .extend=> "extend" | .index=> "index" | .remove=> "remove" | .reverse=> "reverse" | .setdefault=> "setdefault" | .split=> "split" | .join=> "join"
theorem Ac8{x:Str}{m:LM}(h:Ack x=some m):x=Vq m:=
 (by decide:∀p∈W1,p.1=Vq p.2) (x,m) (Sh h)
theorem Ac9(R:A1 W h₀ env names H ρ s){m:LM}{o:V}{u:Value}(hv:VR W o u)(hk:La m o H) :
 (Q9 fun T=>U1 (PlainAttrs T) (Slot T (Vq m) (Ae7 m)) (typeOf (.builtin (Ae7 m))=pure (.type "method_descriptor")) (s.TypeIs u T) ((∀a,u = .ref a->∃ob,s.heap.get? a=some ob/\ob.dict=none))):=by
 apply Bh hv hk
 intro a hk
 refine Aa fun nY=>?_
 split at hk
 ·rename_i xs e
  obtain⟨l,nn,g1,_⟩:=R.lst e
  refine nY ?_;clear nY
  have hd:∀b,Value.ref a = .ref b->∃ob,s.heap.get? b=some ob/\ob.dict=none:=fun b q=>by cases q;exact⟨_,g1,rfl⟩
  have ht:s.TypeIs (.ref a) "list" :=by obtain⟨l,h,_⟩:=R.isList e;exact h.typeIs
  refine Aa fun nY=>?_
  cases m with
  | append=>(refine nY ?_;clear nY;exact⟨"list",F.plainAttrs_list,F.slot_list_append,F.type_list_append,ht,hd⟩)
  | clear=>(refine nY ?_;clear nY;exact⟨"list",F.plainAttrs_list,F.slot_list_clear,F.type_list_clear,ht,hd⟩)
  | count=>(refine nY ?_;clear nY;exact⟨"list",F.plainAttrs_list,F.slot_list_count,F.type_list_count,ht,hd⟩)
  | extend=>(refine nY ?_;clear nY;exact⟨"list",F.plainAttrs_list,F.slot_list_extend,F.type_list_extend,ht,hd⟩)
  | index=>(refine nY ?_;clear nY;exact⟨"list",F.plainAttrs_list,F.slot_list_index,F.type_list_index,ht,hd⟩)
  | remove=>(refine nY ?_;clear nY;exact⟨"list",F.plainAttrs_list,F.slot_list_remove,F.type_list_remove,ht,hd⟩)
  | reverse=>(refine nY ?_;clear nY;exact⟨"list",F.plainAttrs_list,F.slot_list_reverse,F.type_list_reverse,ht,hd⟩)
  | setdefault=>exact hk.elim
  | split=>exact hk.elim
  | join=>exact hk.elim
 ·rename_i es e
  cases hk
  obtain⟨kvs,g1,_⟩:=R.isDict e
  have ht:=g1.typeIs
  obtain⟨o,es,ep,g2,g3,_⟩:=g1
  refine nY ?_;clear nY
  exact⟨"dict",F.plainAttrs_dict,F.slot_dict_setdefault,F.type_dict_setdefault,ht,fun b q=>by cases q;exact⟨_,g2,g3.2.1⟩⟩
 ·exact hk.elim
theorem Ahr{o:Expr}{m:LM}{x:Str}{ap pos:Pos}{y:X}{es:List Expr}{xs:List X}(hb:Iz o=true)(hl:(ap.endLine==pos.line)=true)(hfew:es.length<3)(hm:Ack x=some m)(h:SE W G n c o y)(hs:Vn W G n c es xs)(hn:NS es) :
 SE W G n c (.Call (.Attribute o x ap) es [] pos) (.lm m y xs):=by
 intro A env h₀ H ρ s Q E ok Y R q
 simp only[Jb,Jc,Jd,Je,Jf,Jg,Jh,Ji,Jj,Jk,Jl,Jm,Jn,Jo,Jp,Jq,B0,Jr,Js,Jt,Ju,Jv,A4,Dr,Bi,A0,Jw,Jx,A6,Ca,A7,Bf]at q
 have hx:=Ac8 hm
 subst hx
 have hplain:(backTo pos (starEach es env)).all (fun x=> !x.1)=true:=by
  have:=hn.plain (pos:=pos) (env:=env)
  rw[List.any_eq_false]at this
  rw[List.all_eq_true];intro x hx;simpa using this x hx
 have hform:((backTo pos (starEach es env)).all (fun x=> !x.1)&&(backToKw pos (keywordEach [] env)).all (fun x=>x.1.isSome)
  && decide (es.length+([]:List Keyword).length+(if ([]:List Keyword).isEmpty then 0 else 1)<30))=true:=by
  rw[hplain]
  have:es.length+0+0<30:=(Nat.lt_trans hfew (by decide))
  simpa[show backToKw pos (keywordEach [] env) = []from rfl]using this
 refine wpAny_Call_method_late (Sr hb) hform hl rfl (wpAny_mono (h ok Y R q) (fun ov s' r=>?_) fun _ _ e=>e)
 refine Aa fun nY=>?_
 obtain⟨a,H',hv,R',hk,q'⟩:=r
 obtain⟨T,t1,t2,t3,t4,t5⟩:=Ac9 R' hv hk
 refine nY ?_;clear nY
 refine⟨T,_,t1,t2,t3,t4,t5,Calls.callWith_builtin hn.plain (Fz hs hn ok Y R' q' fun as us H' s' hv' R'' q''=>?_)⟩
 exact Vl ok Y R'' hv hv' q''
end Mine.Internal
namespace Mine.Internal
open PySem PySem.W PyProof.Rows
variable {W:Wd} {G:Aw} {A:Around} {h₀:HB} {env:Env} {c:Cx} {names:List Str} {H H':AH} {ρ ρ':Ak} {s s':Shared} {E:Value->Shared->Prop} {n:Nat} {Q:Ah} {Er:EP}
inductive ItR(W:Wd)(h:Heap):It->Value->Prop
 | v {a u}:VR W a u->ItR W h (.v a) u
 | pair {a b u1 u2 T}:h.IsTuple T #[u1,u2]->VR W a u1->VR W b u2->ItR W h (.pair a b) (.ref T)
theorem A1.moveBut(R:A1 W h₀ env names H ρ s){wr:List Addr}(hid:Ih h₀ env H wr){h':Heap}(t:Nat)(k:∀b o,b∉wr->s.heap.get? b=some o->h'.get? b=some o):A1 W h₀ env names H ρ {s with heap:=h',toks:=t} where
 ns:=by
  refine Aa fun nY=>?_
  obtain⟨m,⟨o,es,ep,h1,h2⟩,b⟩:=R.ns
  refine nY ?_;clear nY
  exact⟨m,⟨o,es,ep,k _ _ (fun q=>(hid _ q).2.2.1 rfl) h1,h2⟩,b⟩
 cell:=fun x a e=>by
  refine Aa fun nY=>?_
  obtain⟨w,⟨o,ho,hd⟩,r⟩:=R.cell x a e
  obtain⟨p,hp,hp2⟩:=Bk e
  refine nY ?_;clear nY
  exact⟨w,⟨o,k _ _ (fun q=>(hid _ q).2.2.2 p hp hp2) ho,hd⟩,r⟩
 keep:=fun b o e=>let ⟨o',e1,z⟩:=R.keep b o e;⟨o',k _ _ (fun q=>by have:=(hid _ q).2.1;rw[e]at this;cases this) e1,z⟩
 objs:=fun b o e=>by
  refine Aa fun nY=>?_
  obtain⟨ob,g1,g2⟩:=R.objs b o e
  refine nY ?_;clear nY
  exact⟨ob,k _ _ (fun q=>by have:=(hid _ q).1;rw[e]at this;cases this) g1,g2⟩
 sep:=R.sep
 gens:=R.gens
 os:=R.os
 above:=R.above
 low:=R.low
structure Src(W:Wd)(A:Around)(target:Expr)(I:Addr)(hs:List Addr)(its:List It)(g:AH->Prop)(Obs:Nat->Heap->Prop):Prop where
 frame:∀i h h',Obs i h->(∀b∈hs,∀o,h.get? b=some o->h'.get? b=some o)->Obs i h'
 live:∀i h,Obs i h->∀b∈hs,∃o,h.get? b=some o
 self:∀ {s:Shared} {Q:Value->Shared->Prop} {E:Value->Shared->Prop},Obs 0 s.heap->Q (.ref I) s->wpAny W.M A (pyIter (.ref I)) Q E s
 turn:∀ {h₀:HB} {env:Env} {c:Cx} {names:List Str} {H:AH} {ρ:Ak} {s:Shared} {i:Nat} {x:It} {E E':Value->Shared->Prop},An W env c h₀->A1 W h₀ env names H ρ s->Ih h₀ env H hs->g H->Obs i s.heap->its[i]? = some x->
  wpAny W.M A (pyNext (.ref I)) (fun r s₁=>∃v,r=some v/\wpAny W.M A (letOwnedTupleGo target (.ref I) v) (fun _ s₂=>A1 W h₀ env names H ρ s₂/\Obs (i+1) s₂.heap/\ItR W s₂.heap x v/\∀b o,b∉hs->s.heap.get? b=some o->s₂.heap.get? b=some o) E' s₁) E s
 done:∀ {h₀:HB} {env:Env} {c:Cx} {names:List Str} {H:AH} {ρ:Ak} {s:Shared} {E:Value->Shared->Prop},An W env c h₀->A1 W h₀ env names H ρ s->Ih h₀ env H hs->g H->Obs its.length s.heap->
   wpAny W.M A (pyNext (.ref I)) (fun r s₁=>r=none/\A1 W h₀ env names H ρ s₁/\∀b o,b∉hs->s.heap.get? b=some o->s₁.heap.get? b=some o) E s
noncomputable def Po:List String:=["enumerate","zip","dict_itemiterator","dict_reverseitemiterator","odict_iterator","itertools.zip_longest","itertools.pairwise"]
theorem I1{target:Expr}{I:Addr}{v:Value}{o:Obj}{nm:String}{vs:Array Value}{Q:Unit->Shared->Prop}(ho:s.heap.get? I=some o)(hc:o.cls = .type nm)(hd:o.data = .fields vs)(hn:Po.contains nm=false)(hQ:Q () s) :
 wpAny W.M A (letOwnedTupleGo target (.ref I) v) Q E s:=by
 have key:∀a:Addr,wpAny W.M A (do
  let o <-load I
  match o.cls,o.data with
  | .type n,.fields vs=>if Po.contains n&&vs[0]? == some (rawInt a)then do rule "for.unpacks-the-owned-tuple";updateField I 0 .none
  | _,_=>pure ()) Q E s:=by
  intro a
  refine wpAny_bind (wpAny_load ho ?_)
  rw[hc,hd]
  simp only[hn,Bool.false_and,Bool.false_eq_true,if_false]
  exact wpAny_pure hQ
 cases target<;>first|exact wpAny_pure hQ|(cases v<;>first|exact wpAny_pure hQ|exact key _)
theorem Ih.one(Y:An W env c h₀)(R:A1 W h₀ env names H ρ s){a:Addr}(hn:s.heap.get? a=none)(hb:W.b₀.objs.size<=a):Ih h₀ env H [a]:=fun b hb'=>by
 rcases List.mem_cons.mp hb' with rfl|h
 ·obtain⟨q1,q2,q3,q4,q5⟩:=R.new_sep hn hb
  exact⟨q1,q2,q3,Ro Y R hn⟩
 ·cases h
theorem Om{xs:List V}{items:List Value}(h:Dj W xs items){i:Nat}{x:V}(e:xs[i]? = some x):∃u,items[i]? = some u/\VR W x u:=h.get i e
theorem Aaq(hh:A.handled=none)(target:Expr){a I:Addr}{xs:List V}:Src W A target I [I] (xs.map .v) (fun H'=>H' a=some (.list xs)) (fun i h=>h.IsListIter I a i) where
 frame:=fun i h h' st hk=>st.at fun o e=>hk I (.head _) o e
 live:=fun i h st b hb=>by
  rcases List.mem_cons.mp hb with rfl|hb
  ·obtain⟨o,e,_⟩:=st;exact⟨o,e⟩
  ·cases hb
 self:=fun st hQ=>wpAny_pyIter_listiter st hQ
 turn:=fun {h₀ env c names H ρ s i x E E'} Y R hid g st hx=>by
  obtain⟨items,h1,r1,z1⟩:=R.isList g
  rw[List.getElem?_map]at hx
  obtain⟨x',hx',rfl⟩:=Option.map_eq_some_iff.mp hx
  obtain⟨u,hu,hv⟩:=Om r1 hx'
  refine wpAny_pyNext_list_item st h1 (x:=u) (by simpa using hu) fun h' st' hs'=>⟨u,rfl,?_⟩
  have R':=R.moveBut (h':=h') hid s.toks fun b o hb e=>hs'.extBut b o (fun q=>hb (by simp[q])) e
  obtain⟨o,o1,o2,o3⟩:=st'
  exact I1 o1 o2 o3 (by decide) ⟨R',⟨o,o1,o2,o3⟩,.v hv,fun b o hb e=>hs'.extBut b o (fun q=>hb (by simp[q])) e⟩
 done:=fun {h₀ env c names H ρ s E} Y R hid g st=>by
   obtain⟨items,h1,r1,z1⟩:=R.isList g
   refine wpAny_pyNext_list_end hh st h1 (by simp[r1.length]) fun h' he'=>⟨rfl,R.moveBut (h':=h') hid s.toks (fun b o hb e=>he' b o (fun q=>hb (by simp[q])) e),fun b o hb e=>he' b o (fun q=>hb (by simp[q])) e⟩
theorem Ye(hh:A.handled=none)(target:Expr){a I:Addr}{xs:List V}:Src W A target I [I] (xs.map .v) (fun H'=>H' a=some (.tuple xs)) (fun i h=>h.IsTupleIter I a i) where
 frame:=fun i h h' st hk=>st.at fun o e=>hk I (.head _) o e
 live:=fun i h st b hb=>by
  rcases List.mem_cons.mp hb with rfl|hb
  ·obtain⟨o,e,_⟩:=st;exact⟨o,e⟩
  ·cases hb
 self:=fun st hQ=>wpAny_pyIter_tupleiter st hQ
 turn:=fun {h₀ env c names H ρ s i x E E'} Y R hid g st hx=>by
  obtain⟨items,h1,r1,z1⟩:=R.isTup g
  rw[List.getElem?_map]at hx
  obtain⟨x',hx',rfl⟩:=Option.map_eq_some_iff.mp hx
  obtain⟨u,hu,hv⟩:=Om r1 hx'
  refine wpAny_pyNext_tuple_item st h1 (x:=u) (by simpa using hu) fun h' st' hs'=>⟨u,rfl,?_⟩
  have R':=R.moveBut (h':=h') hid s.toks fun b o hb e=>hs'.extBut b o (fun q=>hb (by simp[q])) e
  obtain⟨o,o1,o2,o3⟩:=st'
  exact I1 o1 o2 o3 (by decide) ⟨R',⟨o,o1,o2,o3⟩,.v hv,fun b o hb e=>hs'.extBut b o (fun q=>hb (by simp[q])) e⟩
 done:=fun {h₀ env c names H ρ s E} Y R hid g st=>by
   obtain⟨items,h1,r1,z1⟩:=R.isTup g
   refine wpAny_pyNext_tuple_end hh st h1 (by simp[r1.length]) fun h' he'=>⟨rfl,R.moveBut (h':=h') hid s.toks (fun b o hb e=>he' b o (fun q=>hb (by simp[q])) e),fun b o hb e=>he' b o (fun q=>hb (by simp[q])) e⟩
theorem Yg(hh:A.handled=none)(target:Expr){I:Addr}{a:Int}{k:Nat}:Src W A target I [I] ((List.range k).map fun(i:Nat)=> .v (.int (a+i))) (fun _=>True) (fun i h=>IsRangeIter h I (a+(i:Nat)) ((k:Int)-(i:Nat)) 1) where
 frame:=fun i h h' st hk=>hk I (.head _) _ st
 live:=fun i h st b hb=>by
  rcases List.mem_cons.mp hb with rfl|hb
  ·exact⟨_,st⟩
  ·cases hb
 self:=fun st hQ=>wpAny_pyIter_rangeiter st hQ
 turn:=fun {h₀ env c names H ρ s i x E E'} Y R hid g st hx=>by
  rw[List.getElem?_map]at hx
  obtain⟨j,hj,rfl⟩:=Option.map_eq_some_iff.mp hx
  obtain⟨hlt,he⟩:=List.getElem?_eq_some_iff.mp hj
  simp at hlt he
  subst he
  refine wpAny_pyNext_range_item st (Int.sub_pos_of_lt (Int.ofNat_lt.mpr hlt)) fun h' st' hs'=>⟨_,rfl,?_⟩
  have R':=R.moveBut (h':=h') hid (s.toks+1) fun b o hb e=>hs'.extBut b o (fun q=>hb (by simp[q])) e
  refine I1 st' rfl rfl (by decide) ⟨R',?_,.v (.int _ _),fun b o hb e=>hs'.extBut b o (fun q=>hb (by simp[q])) e⟩
  have e1:a+((i+1:Nat):Int)=a+(i:Int)+1:=Ajs
  have e2:(k:Int)-((i+1:Nat):Int)=(k:Int)-(i:Int)-1:=Ajt
  rw[e1,e2];exact st'
 done:=fun {h₀ env c names H ρ s E} Y R hid g st=>by
   simp only[List.length_map,List.length_range]at st
   refine wpAny_pyNext_range_end hh st (Int.le_of_eq (Int.sub_self _)) fun h' he'=>⟨rfl,R.moveBut (h':=h') hid s.toks (fun b o hb e=>he' b o (fun q=>hb (by simp[q])) e),fun b o hb e=>he' b o (fun q=>hb (by simp[q])) e⟩
theorem Uz.at{es:List (Int×V)}{kvs:List (Int×Value)}(h:Uz W es kvs):∀ {i:Nat} {e:Int×V},es[i]? = some e->∃u,kvs[i]? = some (e.1,u):=by
 induction h with
 | nil=>intro i e h;simp at h
 | cons hv t ih=>
   intro i e h
   cases i with
   | zero=>simp at h;subst h;exact⟨_,rfl⟩
   | succ i=>simp at h;simpa using ih h
theorem Aar(hh:A.handled=none)(target:Expr){d I:Addr}{es:List (Int×V)}{kvs:List (Int×Value)}{ep:Nat}(hk:Uz W es kvs)(hne:d≠I) :
 Src W A target I [I,d] (es.map fun e=> .v (.int e.1)) (fun _=>True) (fun i h=>h.IsKeyIter I d i kvs.length ep/\h.DictAt (intKind W.prog W.w) d kvs ep) where
 frame:=fun i h h' st hk=>⟨st.1.at fun o e=>hk I (by simp) o e,st.2.at' fun o e=>hk d (by simp) o e⟩
 live:=fun i h st b hb=>by
  rcases List.mem_cons.mp hb with rfl|hb
  ·obtain⟨o,e,_⟩:=st.1;exact⟨o,e⟩
  ·rcases List.mem_cons.mp hb with rfl|hb
   ·obtain⟨o,_,e,_⟩:=st.2;exact⟨o,e⟩
   ·cases hb
 self:=fun st hQ=>wpAny_pyIter_keyiter st.1 hQ
 turn:=fun {h₀ env c names H ρ s i x E E'} Y R hid g st hx=>by
  rw[List.getElem?_map]at hx
  obtain⟨e,he,rfl⟩:=Option.map_eq_some_iff.mp hx
  obtain⟨u,hu⟩:=hk.at he
  have hid1:Ih h₀ env H [I]:=fun b hb=>hid b (by simp at hb;simp[hb])
  refine wpAny_pyNext_dict_item st.1 st.2 hu fun key h' hkey st' hs'=>⟨key,rfl,?_⟩
  have R':=R.moveBut (h':=h') hid1 s.toks fun b o hb e=>hs'.extBut b o (fun q=>hb (by simp[q])) e
  have hk':∃t,key = .int e.1 t:=by
   refine Aa fun nY=>?_
   cases key<;>simp[intKind,Value.isInt]at hkey
   refine nY ?_;clear nY
   subst hkey;exact⟨_,rfl⟩
  refine Aa fun nY=>?_
  obtain⟨t,rfl⟩:=hk'
  have st2:=st.2.extBut hs'.extBut hne
  obtain⟨o,o1,o2,o3⟩:=st'
  refine nY ?_;clear nY
  exact I1 o1 o2 o3 (by decide) ⟨R',⟨⟨o,o1,o2,o3⟩,st2⟩,.v (.int _ _),fun b o hb e=>hs'.extBut b o (fun q=>hb (by simp[q])) e⟩
 done:=fun {h₀ env c names H ρ s E} Y R hid g st=>by
   have hid1:Ih h₀ env H [I]:=fun b hb=>hid b (by simp at hb;simp[hb])
   refine wpAny_pyNext_dict_end hh st.1 st.2 (by simp[hk.length]) fun h' he'=>⟨rfl,R.moveBut (h':=h') hid1 s.toks (fun b o hb e=>he' b o (fun q=>hb (by simp[q])) e),fun b o hb e=>he' b o (fun q=>hb (by simp[q])) e⟩
theorem Ada(hh:A.handled=none)(target:Expr){a I:Addr}{xs:List V}:Src W A target I [I] (xs.reverse.map .v) (fun H'=>H' a=some (.list xs)) (fun i h=>i<=xs.length/\h.IsRevIter I a ((xs.length:Int)-1-(i:Int))) where
 frame:=fun i h h' st hk=>⟨st.1,st.2.at fun o e=>hk I (.head _) o e⟩
 live:=fun i h st b hb=>by
  rcases List.mem_cons.mp hb with rfl|hb
  ·obtain⟨o,e,_⟩:=st.2;exact⟨o,e⟩
  ·cases hb
 self:=fun st hQ=>wpAny_pyIter_revIter st.2 hQ
 turn:=fun {h₀ env c names H ρ s i x E E'} Y R hid g st hx=>by
  obtain⟨items,h1,r1,z1⟩:=R.isList g
  rw[List.getElem?_map]at hx
  obtain⟨x',hx',rfl⟩:=Option.map_eq_some_iff.mp hx
  obtain⟨hlt,he⟩:=List.getElem?_eq_some_iff.mp hx'
  have hlt':i<xs.length:=by simpa using hlt
  have hx2:xs[xs.length-1-i]? = some x':=by rw[<-hx',List.getElem?_reverse hlt']
  obtain⟨u,hu,hv⟩:=Om r1 hx2
  have st2:=st.2
  rw[show (xs.length:Int)-1-(i:Int)=((xs.length-1-i:Nat):Int) by exact Ag2 hlt']at st2
  refine wpAny_pyNext_rev_item st2 h1 (x:=u) (by simpa using hu) fun h' st' hs'=>⟨u,rfl,?_⟩
  have R':=R.moveBut (h':=h') hid s.toks fun b o hb e=>hs'.extBut b o (fun q=>hb (by simp[q])) e
  rw[show ((xs.length-1-i:Nat):Int)-1=(xs.length:Int)-1-((i+1:Nat):Int) by exact Aju hlt']at st'
  obtain⟨o,o1,o2,o3⟩:=st'
  exact I1 o1 o2 o3 (by decide) ⟨R',⟨hlt',⟨o,o1,o2,o3⟩⟩,.v hv,fun b o hb e=>hs'.extBut b o (fun q=>hb (by simp[q])) e⟩
 done:=fun {h₀ env c names H ρ s E} Y R hid g st=>by
   have st2:=st.2
   simp only[List.length_map,List.length_reverse]at st2
   rw[show (xs.length:Int)-1-(xs.length:Int) = -1 by exact Ajv]at st2
   refine wpAny_pyNext_rev_end hh st2 fun h' he'=>⟨rfl,R.moveBut (h':=h') hid s.toks (fun b o hb e=>he' b o (fun q=>hb (by simp[q])) e),fun b o hb e=>he' b o (fun q=>hb (by simp[q])) e⟩
theorem Aas(hh:A.handled=none)(elts:List Expr)(k:Nat)(pos:Pos){a e it:Addr}{xs:List V}(hne:e≠it)(hae:a≠e)(hai:a≠it) :
 Src W A (.Tuple elts k pos) e [e,it] (xs.mapIdx fun i x=> .pair (.int i) x) (fun H'=>H' a=some (.list xs)) (fun i h=>(∃old,IsEnum h e it i old)/\h.IsListIter it a i) where
 frame:=fun i h h' st hk=>⟨let ⟨old,q⟩:=st.1;⟨old,hk e (by simp) _ q⟩,st.2.at fun o q=>hk it (by simp) o q⟩
 live:=fun i h st b hb=>by
  rcases List.mem_cons.mp hb with rfl|hb
  ·obtain⟨old,e⟩:=st.1;exact⟨_,e⟩
  ·rcases List.mem_cons.mp hb with rfl|hb
   ·obtain⟨o,e,_⟩:=st.2;exact⟨o,e⟩
   ·cases hb
 self:=fun st hQ=>by
  obtain⟨⟨old,q⟩,_⟩:=st
  exact wpAny_pyIter_enum q hQ
 turn:=fun {h₀ env c names H ρ s i x E E'} Y R hid g st hx=>by
  obtain⟨items,h1,r1,z1⟩:=R.isList g
  rw[List.getElem?_mapIdx]at hx
  obtain⟨x',hx',rfl⟩:=Option.map_eq_some_iff.mp hx
  obtain⟨u,hu,hv⟩:=Om r1 hx'
  have WE:=WalksT.enumerate (prog:=W.prog) (w:=W.w) hh e it a hne hae hai items.toArray
  have hlt:i<items.toArray.size:=by
   obtain⟨q,_⟩:=List.getElem?_eq_some_iff.mp hu
   simpa using q
  refine WE.item i s _ E hlt ⟨st.1,st.2,h1⟩ fun T vals h' tk hP hT hTup hmid hk=>⟨_,rfl,?_⟩
  have R':=R.moveBut (h':=h') hid tk fun b o hb q=>hk b o hb q
  refine WE.go elts k pos i T {s with heap:=h',toks:=tk} _ E' hmid fun h2 st2 hk2=>?_
  have R2:=R'.moveBut (h':=h2) hid tk fun b o hb q=>hk2 b o hb q
  obtain⟨t,u',hu',rfl⟩:=hP
  have:u'=u:=by
   have h3:items.toArray[i]? = some u:=by simpa using hu
   rw[h3]at hu';cases hu';rfl
  subst this
  exact⟨R2,⟨st2.1,st2.2.1⟩,.pair (hTup.at fun o q=>hk2 T o (WE.apart i T _ hmid) q) (.int _ _) hv,fun b o hb q=>hk2 b o hb (hk b o hb q)⟩
 done:=fun {h₀ env c names H ρ s E} Y R hid g st=>by
   obtain⟨items,h1,r1,z1⟩:=R.isList g
   have WE:=WalksT.enumerate (prog:=W.prog) (w:=W.w) hh e it a hne hae hai items.toArray
   simp only[List.length_mapIdx]at st
   refine WE.done s _ E ?_ fun h' tk hk=>⟨rfl,R.moveBut (h':=h') hid tk (fun b o hb q=>hk b o hb q),hk⟩
   have:items.toArray.size=xs.length:=by simp[r1.length]
   rw[this]
   exact⟨st.1,st.2,h1⟩
end Mine.Internal
namespace Mine.Internal
open PySem PySem.W PyProof.Rows
variable {W:Wd} {G:Aw} {A:Around} {h₀:HB} {env:Env} {c:Cx} {names:List Str} {H H':AH} {ρ ρ':Ak} {s s':Shared} {E:Value->Shared->Prop} {n:Nat} {Q:Ah} {Er:EP}
noncomputable def SS(W:Wd)(G:Aw)(n:Nat)(c:Cx)(e:Expr)(x:X)(two:Bool):Prop:=
 ∀ {A:Around} {env:Env} {h₀:HB} {H:AH} {ρ:Ak} {s:Shared} {K:List It->(AH->Prop)->AH->Prop} {target:Expr} {Q:Value->Shared->Prop} {E:EP} {Em:Value->Shared->Prop},
  L5 target=two->Rg A c h₀ env E n->An W env c h₀->A1 W h₀ env c.names H ρ s->Ea G (Af G n) x ρ H K E->(∀v s',EM W h₀ env c.names ρ E v s'->Em v s')->
  (∀I hs its g Obs H' s',Src W A target I hs its g Obs->Ih h₀ env H' hs->Obs 0 s'.heap->A1 W h₀ env c.names H' ρ s'->K its g H'->Q (.ref I) s')->
  wpAny W.M A (eval e env) (fun v s₁=>wpAny W.M A (pyIter v) Q Em s₁) Em s
theorem A1.drop(R:A1 W h₀ env names H ρ s)(a:Addr):A1 W h₀ env names (fun b=>if b=a then none else H b) ρ s where
 ns:=R.ns
 cell:=R.cell
 keep:=R.keep
 objs:=fun b o e=>by
  split at e
  ·cases e
  ·exact R.objs b o e
 sep:=fun b o e=>by
  split at e
  ·cases e
  ·exact R.sep b o e
 gens:=R.gens
 os:=R.os
 above:=R.above
 low:=fun b o e=>by
  split at e
  ·cases e
  ·exact R.low b o e
theorem A1.cells_ne(R:A1 W h₀ env names H ρ s)(Y:An W env c h₀){a:Addr}{o:O}(e:H a=some o):∀p∈env.cells,p.2≠a:=fun p hp q=>(R.sep a o e).2.2 p.1 (by rw[Y.look p hp,q])
theorem Afk(hf:c.hnd=false){e:Expr}{x:X}{two:Bool}(h:SE W G n c e x):SS W G n c e (.val x) two:=by
 intro A env h₀ H ρ s K target Q E Em ht ok Y R q hE hQ
 simp only[Og,Sf,Wr,Ws]at q
 refine wpAny_mono (h ok Y R q) (fun v s' r=>?_) hE
 refine Aa fun nY=>?_
 obtain⟨a,H',hv,R',q'⟩:=r
 refine nY ?_;clear nY
 apply Bh hv q';intro a q'
 refine Aa fun nY=>?_
 split at q'
 ·rename_i xs e
  obtain⟨items,h1,r1,z1⟩:=R'.isList e
  refine nY ?_;clear nY
  refine wpAny_pyIter_list h1 ?_
  refine hQ s'.heap.objs.size [s'.heap.objs.size] _ _ _ H' _ (Aaq (ok.handled hf) target) (Ih.one Y R' (Cd _) R'.up) ?_ (R'.pushHid _ _) q'
  exact⟨_,Heap.get?_push_size _ rfl,rfl,rfl⟩
 ·rename_i xs e
  obtain⟨items,h1,r1,z1⟩:=R'.isTup e
  refine nY ?_;clear nY
  refine wpAny_pyIter_tuple h1 ?_
  refine hQ s'.heap.objs.size [s'.heap.objs.size] _ _ _ H' _ (Ye (ok.handled hf) target) (Ih.one Y R' (Cd _) R'.up) ?_ (R'.pushHid _ _) q'
  exact⟨_,Heap.get?_push_size _ rfl,rfl,rfl⟩
 ·rename_i es e
  obtain⟨kvs,⟨o,es',ep,g1,g2,g3,g4,g5,g6⟩,r1,z1⟩:=R'.isDict e
  have hd:(a==sysModules)=false:=beq_eq_false_iff_ne.mpr (Nat.ne_of_gt (Nat.lt_of_lt_of_le Y.lo (R'.low a _ e)))
  refine nY ?_;clear nY
  refine wpAny_pyIter_dict (knd:=intKind W.prog W.w) (kvs:=kvs) (ep:=ep) hd ⟨o,es',g1,g2,g3,g4,g5,g6⟩ ?_
  have hne:a≠s'.heap.objs.size:=Nat.ne_of_lt (Heap.lt_size g1)
  have R2:=(R'.drop a).pushHid {cls:= .type "dict_keyiterator",data:= .fields #[.ref a,.int 0 0,.int kvs.length 0,.int ep 0]} s'.toks
  refine hQ s'.heap.objs.size [s'.heap.objs.size,a] _ _ _ _ _ (Aar (ok.handled hf) target (kvs:=kvs) (ep:=ep) r1 hne) ?_ ?_ R2 q'
  ·intro b hb
   refine Aa fun nY=>?_
   rcases List.mem_cons.mp hb with rfl|hb
   ·refine nY ?_;clear nY
    exact Ih.one Y (R'.drop a) (Cd _) R'.up _ (.head _)
   ·simp at hb
    subst hb
    refine nY ?_;clear nY
    exact⟨by simp,(R'.sep _ _ e).1,(R'.sep _ _ e).2.1,R'.cells_ne Y e⟩
  ·exact⟨⟨_,Heap.get?_push_size _ rfl,rfl,rfl⟩,⟨o,es',Heap.get?_push_of_some _ g1,g2,g3,g4,g5,g6⟩⟩
 ·exact q'.elim
theorem Aat(g:Ie W G)(hf:c.hnd=false){p pos:Pos}{es:List Expr}{xs:List X}{two:Bool}(hg:c.global "range" = true)(hs:Vn W G n c es xs)(hn:NS es):SS W G n c (.Call (.Name "range" p) es [] pos) (.range xs) two:=by
 intro A env h₀ H ρ s K target Q E Em ht ok Y R q hE hQ
 simp only[Og,Sf,Wr,Ws]at q
 refine Md g Y R (.inr ⟨"range",rfl⟩) hg (by decide) (by decide) (by kernel_rfl) (by decide) hn (wpAny_mono (Fz (Q':=fun us s'=>(Ii fun as H'=>Td (Dj W as us.pos) (us.kw = []) (A1 W h₀ env c.names H' ρ s') (E1 as H' K))) hs hn ok Y R q fun as us H' s' hv R' q'=>⟨as,H',hv,rfl,R',q'⟩) (fun us s' r=>?_) hE)
 obtain⟨as,H',hv,hkw,R',q'⟩:=r
 obtain⟨us,kw⟩:=us
 simp only at hv hkw
 subst hkw
 have b1:Bq=1048576:=rfl
 have core:∀(r:Addr) (a b:Int) (t u v:Tok) (s2:Shared),A1 W h₀ env c.names H' ρ s2->IsRange s2.heap r a b 1 t u v->0<=a->a<=Bq-> -(Bq:Int)<=b->b<=Bq->
  K ((List.range (b-a).toNat).map fun(i:Nat)=> .v (.int (a+i))) (fun _=>True) H'->wpAny W.M A (pyIter (.ref r)) Q Em s2:=by
  intro r a b t u v s2 R2 hr h1 h2 h3 h4 hk
  refine wpAny_pyIter_range hr (small_one (Int.le_trans (by decide) h1) (Ag8 b1 h2) (Ajw b1 h3) (Ag8 b1 h4)) ?_
  refine hQ s2.heap.objs.size [s2.heap.objs.size] _ _ _ H' _ (Yg (ok.handled hf) target (a:=a) (k:=(b-a).toNat)) (Ih.one Y R2 (Cd _) R2.up) ?_ (R2.pushHid _ _) hk
  rw[rangeSize_nat]
  simp only[Int.natCast_zero,Int.add_zero,Int.sub_zero]
  exact Heap.get?_push_size _ rfl
 cases hv with
 | nil=>exact False.elim q'
 | cons hu t=>cases t with
   | nil=>
     apply A3 hu q';intro k t q'
     refine call_range_1 ?_
     have R2:=R'.pushHid {cls:= .type "range",data:= .fields #[.int 0 s'.toks,.int k t,.int 1 (s'.toks+1)]} (s'.toks+1+1)
     refine core _ 0 k _ _ _ _ R2 (Heap.get?_push_size _ rfl) (by(first|lia|omega)) (by(first|lia|omega)) q'.1.1 q'.1.2 ?_
     simpa using q'.2
   | cons hu2 t=>cases t with
     | nil=>
       apply A3 hu q';intro m t q';apply A3 hu2 q';intro k t2 q'
       refine call_range_2 ?_
       have R2:=R'.pushHid {cls:= .type "range",data:= .fields #[.int m t,.int k t2,.int 1 s'.toks]} (s'.toks+1)
       have:=q'.1
       exact core _ m k _ _ _ _ R2 (Heap.get?_push_size _ rfl) this.1 this.2.1 this.2.2.1 this.2.2.2 q'.2
     | cons=>exact False.elim q'
theorem Adb(g:Ie W G)(hf:c.hnd=false){p pos:Pos}{e:Expr}{x:X}(hg:c.global "enumerate" = true)(h:SE W G n c e x)(hn:∀v p,e≠ .Starred v p):SS W G n c (.Call (.Name "enumerate" p) [e] [] pos) (.enum x) true:=by
 intro A env h₀ H ρ s K target Q E Em ht ok Y R q hE hQ
 simp only[Og,Sf,Wr,Ws]at q
 refine Md g Y R (.inr ⟨"enumerate",rfl⟩) hg (by decide) (by decide) (by kernel_rfl) (by decide) (ns1 hn) ?_
 rw[Bu hn]
 refine Calls.evalArgs_plain (Calls.spliced_cons (wpAny_mono (h ok Y R q) (fun v s' r=>Calls.spliced_nil ?_) hE))
 refine Aa fun nY=>?_
 obtain⟨a,H',hv,R',q'⟩:=r
 refine nY ?_;clear nY
 apply Bh hv q';intro a q';refine Fb q' fun xs e q'=>?_
 refine Aa fun nY=>?_
 obtain⟨items,h1,r1,z1⟩:=R'.isList e
 refine nY ?_;clear nY
 refine call_enumerate_list h1 fun h' hE hI hsz hk=>?_
 refine wpAny_pyIter_enum hE ?_
 have hlt:a<s'.heap.objs.size:=by obtain⟨_,q,_⟩:=h1;exact Heap.lt_size q
 refine Aa fun nY=>?_
 cases target with
 | Tuple elts k tp=>
   refine nY ?_;clear nY
   refine hQ _ [s'.heap.objs.size+1,s'.heap.objs.size] _ _ _ H' _ (Aas (ok.handled hf) elts k tp (a:=a) (e:=s'.heap.objs.size+1) (it:=s'.heap.objs.size) (xs:=xs) (Nat.succ_ne_self _) (Nat.ne_of_lt (Nat.lt_succ_of_lt hlt)) (Nat.ne_of_lt hlt)) ?_ ⟨⟨_,hE⟩,hI⟩ (R'.move s'.toks hk) q'
   intro b hb
   have hb':s'.heap.objs.size<=b:=by
    refine Aa fun nY=>?_
    rcases List.mem_cons.mp hb with rfl|hb
    ·refine nY ?_;clear nY
     exact Nat.le_succ _
    ·rcases List.mem_cons.mp hb with rfl|hb
     ·refine nY ?_;clear nY
      exact Nat.le_refl _
     ·cases hb
   exact Ih.one Y R' (Rf hb') (Nat.le_trans R'.up hb') b (.head _)
 | _=>cases ht
theorem Afl(g:Ie W G)(hf:c.hnd=false){p pos:Pos}{e:Expr}{x:X}{two:Bool}(hg:c.global "reversed" = true)(h:SE W G n c e x)(hn:∀v p,e≠ .Starred v p):SS W G n c (.Call (.Name "reversed" p) [e] [] pos) (.rev x) two:=by
 intro A env h₀ H ρ s K target Q E Em ht ok Y R q hE hQ
 simp only[Og,Sf,Wr,Ws]at q
 refine Md g Y R (.inr ⟨"reversed",rfl⟩) hg (by decide) (by decide) (by kernel_rfl) (by decide) (ns1 hn) ?_
 rw[Bu hn]
 refine Calls.evalArgs_plain (Calls.spliced_cons (wpAny_mono (h ok Y R q) (fun v s' r=>Calls.spliced_nil ?_) hE))
 refine Aa fun nY=>?_
 obtain⟨a,H',hv,R',q'⟩:=r
 refine nY ?_;clear nY
 apply Bh hv q';intro a q';refine Fb q' fun xs e q'=>?_
 refine Aa fun nY=>?_
 obtain⟨items,h1,r1,z1⟩:=R'.isList e
 refine nY ?_;clear nY
 refine call_reversed_list h1 ?_
 have hI:(s'.heap.push (revObj a ((items.toArray.size:Int)-1))).IsRevIter s'.heap.objs.size a ((xs.length:Int)-1-((0:Nat):Int)):=⟨_,Heap.get?_push_size _ rfl,rfl,by simp[revObj,r1.length]⟩
 refine wpAny_pyIter_revIter hI ?_
 exact hQ s'.heap.objs.size [s'.heap.objs.size] _ _ _ H' _ (Ada (ok.handled hf) target (a:=a) (xs:=xs)) (Ih.one Y R' (Cd _) R'.up) ⟨Nat.zero_le _,hI⟩ (R'.pushHid _ _) q'
end Mine.Internal
namespace Mine.Internal
open PySem PySem.W PyProof.Rows
variable {W:Wd} {G:Aw} {A:Around} {h₀:HB} {env:Env} {c:Cx} {names:List Str} {H H':AH} {ρ ρ':Ak} {s s':Shared} {E:Value->Shared->Prop} {n:Nat} {Q:Ah} {Er:EP}
theorem Rp:∀ {l:List Str} {x y:Str} {i:Nat},l.idxOf? x=some i->l.idxOf? y=some i->x=y
 | [],_,_,_,h,_=>by simp at h
 | a::l,x,y,i,h1,h2=>by
   rw[List.idxOf?_cons]at h1 h2
   split at h1
   ·rename_i q1
    cases h1
    split at h2
    ·rename_i q2
     exact(beq_iff_eq.mp q1).symm.trans (beq_iff_eq.mp q2)
    ·simp at h2
   ·split at h2
    ·cases h2;simp at h1
    ·obtain⟨j,h3,h4⟩:=Option.map_eq_some_iff.mp h1
     obtain⟨k,h5,h6⟩:=Option.map_eq_some_iff.mp h2
     have:j=k:=(Nat.succ.inj (h4.trans h6.symm))
     subst this
     exact Rp h3 h5
theorem Yh{x:Str}{i:Nat}(h:c.own x=some i):c.names.idxOf? x=some i/\(c.sc.names.lookup x=some .local\/c.sc.names.lookup x=some .cell):=by
 unfold Cx.own at h
 refine Aa fun nY=>?_
 split at h
 ·rename_i q
  refine nY ?_;clear nY
  refine⟨h,?_⟩
  unfold Wz at q
  split at q<;>first|(rename_i e;simp[e])|cases q
 ·cases h
theorem Rq(Y:An W env c h₀)(R:A1 W h₀ env c.names H ρ s){x:Str}{i:Nat}{a:V}{u:Value}(hs:c.own x=some i)(hv:VR W a u) :
 wpAny W.M A (storeName env x u) (fun _ s'=>A1 W h₀ env c.names H (ρ.set i (some a)) s') E s:=by
 refine Aa fun nY=>?_
 obtain⟨hi,hk⟩:=Yh hs
 have other:∀ {y:Str} {j:Nat} {v:V},c.names.idxOf? y=some j->y≠x->(ρ.set i (some a))[j]? = some (some v)->ρ[j]? = some (some v):=by
  intro y j v h1 h2 h3
  have:i≠j:=fun q=>h2 (Rp h1 (q▸hi))
  rwa[List.getElem?_set_ne this]at h3
 have same:∀ {j:Nat} {v:V},c.names.idxOf? x=some j->(ρ.set i (some a))[j]? = some (some v)->v=a:=by
  intro j v h1 h3
  rw[hi]at h1;cases h1
  rw[List.getElem?_set_self']at h3
  cases q:ρ[i]? with
  | none=>rw[q]at h3;cases h3
  | some z=>rw[q]at h3;simp at h3;exact h3.symm
 rcases hk with hk|hk
 ·have hx:env.kindOf x=some .local:=Y.kinds x _ hk (by simp)
  obtain⟨m,h1,h2⟩:=R.ns
  refine nY ?_;clear nY
  refine wpAny_storeName_local hx h1 (fun h' hn hb=>?_) (by simp[Y.kind])
  refine⟨⟨_,hn,fun y j v e1 e2 e3=>?_⟩,?_,?_,?_,R.sep,R.gens,R.os,R.above,R.low⟩
  ·refine Aa fun nY=>?_
   by_cases q:y=x
   ·subst q
    refine nY ?_;clear nY
    rw[same e1 e3]
    exact⟨u,by simp,hv⟩
   ·refine nY ?_;clear nY
    simp only[q,if_false]
    exact h2 y j v e1 e2 (other e1 q e3)
  ·intro y b e
   refine Aa fun nY=>?_
   obtain⟨w,⟨o,ho,hd⟩,r⟩:=R.cell y b e
   refine nY ?_;clear nY
   refine⟨w,⟨o,(hb.2 b (Y.apart y b e)).trans ho,hd⟩,fun j v e1 e2 e3=>r j v e1 e2 (other e1 (fun q=>?_) e3)⟩
   refine Aa fun nY=>?_
   subst q
   rw[hx]at e2
   rcases e2 with e2|e2<;>cases e2
  ·intro b o e
   refine Aa fun nY=>?_
   obtain⟨o',e1,z⟩:=R.keep b o e
   refine nY ?_;clear nY
   exact⟨o',(hb.2 b (fun q=>by rw[q,Y.new]at e;cases e)).trans e1,z⟩
  ·intro b o e
   refine Aa fun nY=>?_
   obtain⟨ob,g1,g2⟩:=R.objs b o e
   refine nY ?_;clear nY
   exact⟨ob,(hb.2 b (R.sep b o e).2.1).trans g1,g2⟩
 ·have hx:env.kindOf x=some .cell:=Y.kinds x _ hk (by simp)
  obtain⟨ca,hca⟩:=Y.cells x (.inl hx)
  obtain⟨w,hw,hr⟩:=R.cell x ca hca
  refine nY ?_;clear nY
  refine wpAny_storeName_cell Y.kind hx hca hw fun h' hn hb=>?_
  refine⟨?_,?_,?_,?_,R.sep,R.gens,R.os,R.above,R.low⟩
  ·refine Aa fun nY=>?_
   obtain⟨m,h1,h2⟩:=R.ns
   refine nY ?_;clear nY
   refine⟨m,h1.sameBut hb (fun q=>Y.apart x ca hca q.symm),fun y j v e1 e2 e3=>h2 y j v e1 e2 (other e1 (fun q=>?_) e3)⟩
   subst q
   rw[hx]at e2;cases e2
  ·intro y b e
   refine Aa fun nY=>?_
   by_cases q:y=x
   ·subst q
    rw[hca]at e;cases e
    refine nY ?_;clear nY
    exact⟨some u,hn,fun j v e1 e2 e3=>⟨u,rfl,by rw[same e1 e3];exact hv⟩⟩
   ·obtain⟨w,⟨o,ho,hd⟩,r⟩:=R.cell y b e
    refine nY ?_;clear nY
    exact⟨w,⟨o,(hb.2 b (fun z=>q (Y.inj y x b e (z▸hca)))).trans ho,hd⟩,fun j v e1 e2 e3=>r j v e1 e2 (other e1 q e3)⟩
  ·intro b o e
   refine Aa fun nY=>?_
   obtain⟨o',e1,z⟩:=R.keep b o e
   refine nY ?_;clear nY
   refine⟨o',(hb.2 b (fun q=>?_)).trans e1,z⟩
   refine Aa fun nY=>?_
   obtain⟨p,hp,hp2⟩:=Bk hca
   have:=Y.newc p hp
   rw[hp2,<-q,e]at this;cases this
  ·intro b o e
   refine Aa fun nY=>?_
   obtain⟨ob,g1,g2⟩:=R.objs b o e
   refine nY ?_;clear nY
   exact⟨ob,(hb.2 b (fun q=>(R.sep b o e).2.2 x (q▸hca))).trans g1,g2⟩
theorem Pp(Y:An W env c h₀)(R:A1 W h₀ env c.names H ρ s)(hh:A.handled=none){x y:Str}{px py tp:Pos}{k i j:Nat}{T:Addr}{a b:V}{u1 u2:Value}(hx:c.own x=some i)(hy:c.own y=some j)(ht:s.heap.IsTuple T #[u1,u2])(h1:VR W a u1)(h2:VR W b u2) :
 wpAny W.M A (assign (.Tuple [.Name x px,.Name y py] k tp) env (.ref T)) (fun _ s'=>A1 W h₀ env c.names H ((ρ.set i (some a)).set j (some b)) s') E s:=by
 refine wpAny_assign_Tuple hh ht rfl rfl fun h' hk=>?_
 have R':A1 W h₀ env c.names H ρ {s with heap:=h'}:=R.move s.toks fun b o e=>hk b o (fun q=>by rw[q,Cd]at e;cases e) e
 refine wpAny_assignInOrder_more ?_
 refine wpAny_assign_Name (wpAny_mono (Rq Y R' hx h1) (fun _ s1 R1=>?_) fun _ _ e=>e)
 refine wpAny_assignInOrder_more ?_
 exact wpAny_assign_Name (wpAny_mono (Rq Y R1 hy h2) (fun _ s2 R2=>wpAny_assignInOrder_none R2) fun _ _ e=>e)
theorem Pq(Y:An W env c h₀)(R:A1 W h₀ env c.names H ρ s)(hh:A.handled=none){target:Expr}{t:Tg}{it:It}{v:Value}{N:Ak->Prop}(ht:Zy c target=some t)(hi:ItR W s.heap it v)(q:Kh t it ρ H N) :
 wpAny W.M A (assign target env v) (fun _ s'=>∃ρ',A1 W h₀ env c.names H ρ' s'/\N ρ') E s:=by
 refine Aa fun nY=>?_
 rcases Acn ht with⟨x,p,rfl,i,h1,rfl⟩ | ⟨x,px,y,py,k,tp,rfl,i,h1,j,h2,rfl⟩
 ·clear ht
  delta Kh at q
  cases hi with
  | v hv=>(refine nY ?_;clear nY;exact wpAny_assign_Name (wpAny_mono (Rq Y R h1 hv) (fun _ s' R'=>⟨_,R',q⟩) fun _ _ e=>e))
  | pair _ _ _=>exact q.elim
 ·clear ht
  delta Kh at q
  cases hi with
  | v hv=>
    rename_i va
    cases va with
    | ref a=>
      cases hv
      simp only at q
      split at q
      ·rename_i a1 a2 e
       obtain⟨items,g1,r1,z1⟩:=R.isTup e
       obtain⟨u1,u2,rfl,v1,v2⟩:=Aj9 r1
       refine nY ?_;clear nY
       exact wpAny_mono (Pp Y R hh h1 h2 g1 v1 v2) (fun _ s' R'=>⟨_,R',q⟩) fun _ _ e=>e
      ·exact q.elim
    | _=>exact q.elim
  | pair ht v1 v2=>(refine nY ?_;clear nY;exact wpAny_mono (Pp Y R hh h1 h2 ht v1 v2) (fun _ s' R'=>⟨_,R',q⟩) fun _ _ e=>e)
end Mine.Internal
namespace Mine.Internal
open PySem PySem.W PyProof.Rows
variable {W:Wd} {G:Aw} {A:Around} {h₀:HB} {env:Env} {c:Cx} {names:List Str} {H H':AH} {ρ ρ':Ak} {s s':Shared} {E:Value->Shared->Prop} {n:Nat} {Q:Ah} {Er:EP}
noncomputable def Xd(W:Wd)(h₀:HB)(env:Env)(names:List Str)(N:Ak->AH->Prop)(Rt:Ah)(f:Flow)(s':Shared):Prop:=match f with
 | .next=>(Ii fun ρ' H'=>A1 W h₀ env names H' ρ' s'/\N ρ' H')
 | .ret v=>(Ex3 fun a H' ρ'=>E6 (VR W a v) (A1 W h₀ env names H' ρ' s') (Rt a H'))
 | _=>False
noncomputable def EMs(_:Wd)(_:HB)(_:Env)(_:List Str)(_:Bool)(_:Ak)(_:EP)(_:Value)(_:Shared):Prop:=False
theorem EM.st{b:Bool}{v:Value}(x:EM W h₀ env names ρ Er v s):EMs W h₀ env names b ρ Er v s:=False.elim x
noncomputable def Te(W:Wd)(G:Aw)(n:Nat)(c:Cx)(st:Stmt)(x:S):Prop:=
 ∀ {A:Around} {env:Env} {h₀:HB} {H:AH} {ρ:Ak} {s:Shared} {N:Ak->AH->Prop} {Rt:Ah} {E:EP},Rg A c h₀ env E n->An W env c h₀->A1 W h₀ env c.names H ρ s->Ki G (Af G n) x ρ H N Rt E->
  wpAny W.M A (exec st env) (Xd W h₀ env c.names N Rt) (EMs W h₀ env c.names (Tt x) ρ E) s
noncomputable def Qp(W:Wd)(G:Aw)(n:Nat)(c:Cx)(sts:List Stmt)(xs:List S):Prop:=
 ∀ {A:Around} {env:Env} {h₀:HB} {H:AH} {ρ:Ak} {s:Shared} {N:Ak->AH->Prop} {Rt:Ah} {E:EP},Rg A c h₀ env E n->An W env c h₀->A1 W h₀ env c.names H ρ s->Br G (Af G n) xs ρ H N Rt E->
  wpAny W.M A (execs sts env) (Xd W h₀ env c.names N Rt) (EMs W h₀ env c.names (Ae4 xs) ρ E) s
theorem Aau:Qp W G n c [] []:=by
 intro A env h₀ H ρ s N Rt E ok Y R q
 exact wpAny_pure ⟨ρ,H,R,q⟩
theorem Aav{st:Stmt}{x:S}(h:Te W G n c st x):Qp W G n c [st] [x]:=by
 intro A env h₀ H ρ s N Rt E ok Y R q
 simp only[J2,J3]at q
 refine wpAny_execs_cons (wpAny_mono (h ok Y R q) (fun f s' r=>?_) fun _ _ e=>e)
 cases f with
 | next=>exact wpAny_pure r
 | ret v=>exact r
 | brk=>exact r.elim
 | cont=>exact r.elim
theorem Yi{st:Stmt}{sts:List Stmt}{x y:S}{xs:List S}(h:Te W G n c st x)(hs:Qp W G n c sts (y::xs)):Qp W G n c (st::sts) (x::y::xs):=by
 intro A env h₀ H ρ s N Rt E ok Y R q
 rw[J3]at q
 refine wpAny_execs_cons (wpAny_mono (h ok Y R q) (fun f s' r=>?_) fun _ _ e=>False.elim e)
 cases f with
 | next=>
   obtain⟨ρ',H',R',q'⟩:=r
   exact wpAny_mono (hs ok Y R' q') (fun _ _ r=>r) fun _ _ e=>False.elim e
 | ret v=>exact r
 | brk=>exact r.elim
 | cont=>exact r.elim
/-! the stations of a raise -/
theorem Aaw(ok:Rg A c h₀ env Er n)(Y:An W env c h₀){v:Value}(x:EM W h₀ env names ρ' Er v s):notedBy W.M A env (fun e s'=>cameBackBy W.M A env (EMs W h₀ env names false ρ Er) e s') v s:=False.elim x
theorem Src.stays{target:Expr}{I:Addr}{hs:List Addr}{its:List It}{g:AH->Prop}{Obs:Nat->Heap->Prop}(S:Src W A target I hs its g Obs){i:Nat}(Y:An W env c h₀)(hid:Ih h₀ env H hs)(st:Obs i s.heap){names':List Str}(R':A1 W (Mine.Internal.prot env h₀.fs H s.heap) env names' H' ρ' s') :
 Obs i s'.heap/\Ih h₀ env H' hs:=by
 refine⟨S.frame i _ _ st fun b hb o e=>Mine.Internal.stays e (hid b hb).1 (hid b hb).2.2.1 (hid b hb).2.2.2 (fun m=>Y.fsok b m (hid b hb).2.1) R',fun b hb=>⟨?_,(hid b hb).2⟩⟩
 obtain⟨o,e⟩:=S.live i _ st b hb
 cases q:H' b with
 | none=>rfl
 | some z=>
   have:=(R'.sep b z q).1
   rw[C1 e (hid b hb).1 (hid b hb).2.2.1 (hid b hb).2.2.2]at this
   cases this
theorem Cp{α:Type}{l:List α}{i:Nat}{x:α}{r:List α}(h:l.drop i=x::r):l[i]? = some x/\l.drop (i+1)=r:=by
 constructor
 ·have:=congrArg List.head? h
  simpa using this
 ·have:=congrArg List.tail h
  simpa using this
noncomputable abbrev Akb(W:Wd)(h₀:HB)(env:Env)(names:List Str)(hs:List Addr)(Obs:Nat->Heap->Prop)(its:List It)(lp:List It->Ak->AH->Prop)(k:Nat)(s:Shared):Prop:=
 (Ex3 fun i H ρ=>An6 (A1 W h₀ env names H ρ s) (Ih h₀ env H hs) (Obs i s.heap) (lp (its.drop i) ρ H) (i<=its.length) (k=its.length-i+1))
theorem Afm(hf:c.hnd=false){target iter:Expr}{body:List Stmt}{pos:Pos}{t:Tg}{x:X}{xs:List S}(hs:SS W G n c iter x (L5 target))(ht:Zy c target=some t)(hb:Qp W G n c body xs)(hset:∀env v,foldedSetIterable iter env v=pure v) :
 Te W G n c (.For target iter body [] pos) (.for t x xs):=by
 intro A env h₀ H ρ₀ s N Rt E ok Y R q
 simp only[Jy,Cb,Bs,Jz,Ja,J0,J1,Kj,Eh,J2,J3,Dx]at q
 refine wpAny_For (hs rfl ok Y R q (fun _ _ e=>e.st) fun I hss its g Obs H' s' S hid st R' q'=>?_) (hset env)
 refine codeAny_forLoop_any (Akb W h₀ env c.names hss Obs its (Df g t (fun ρ H K=>Br G (Af G n) xs ρ H K Rt E) N)) ?_ (its.length+1)
  ⟨0,H',ρ₀,R',hid,st,q',Nat.zero_le _,by simp⟩
 rintro k s hP3
 refine Aa fun nY=>?_
 obtain⟨i,H,ρ,R,hid,st,q,hi,rfl⟩:=hP3
 refine nY ?_;clear nY
 cases hd:its.drop i with
 | nil=>
   rw[hd]at q
   obtain⟨g1,q⟩:=q
   have:i=its.length:=by
    have:=congrArg List.length hd
    simp at this;exact Nat.le_antisymm hi (Nat.sub_eq_zero_iff_le.mp this)
   subst this
   refine wpAny_mono (S.done Y R hid g1 st) (fun r s₁ h₁=>?_) fun _ _ e=>e
   obtain⟨rfl,R1,_⟩:=h₁
   exact wpAny_pure ⟨ρ,H,R1,q⟩
 | cons y r=>
   rw[hd]at q
   refine Aa fun nY=>?_
   obtain⟨g1,q⟩:=q
   obtain⟨hx,hd'⟩:=Cp hd
   have hlt:i<its.length:=(List.getElem?_eq_some_iff.mp hx).1
   refine nY ?_;clear nY
   refine wpAny_mono (S.turn (E':=notedBy W.M A env fun e s'=>cameBackBy W.M A env (EMs W h₀ env c.names (Tt (.for t x xs)) ρ₀ E) e s') Y R hid g1 st hx) (fun r s₁ h₁=>?_) fun _ _ e=>e
   obtain⟨v,rfl,h₁⟩:=h₁
   refine wpAny_mono h₁ (fun _ s₂ h₂=>?_) fun _ _ e=>e
   refine Aa fun nY=>?_
   obtain⟨R2,st2,hit,_⟩:=h₂
   have YP:=Y.prot R2
   refine nY ?_;clear nY
   refine wpAny_mono (Pq YP R2.prot (ok.handled hf) ht hit q) (fun _ s₃ h₃=>?_) fun _ _ e=>e
   refine Aa fun nY=>?_
   obtain⟨ρ3,R3,q3⟩:=h₃
   refine nY ?_;clear nY
   refine wpAny_mono (hb ok.prot YP R3 q3) (fun f s₄ h₄=>?_) fun _ _ e=>False.elim e
   refine Aa fun nY=>?_
   cases f with
   | next=>
     obtain⟨ρ4,H4,R4,q4⟩:=h₄
     obtain⟨st4,hid4⟩:=S.stays Y hid st2 R4
     refine nY ?_;clear nY
     refine⟨its.length-(i+1)+1,(Aew hlt),i+1,H4,ρ4,R2.unprot Y R4,hid4,st4,?_,hlt,rfl⟩
     rw[hd'];exact q4
   | ret v=>
     obtain⟨a,H4,ρ4,hv,R4,q4⟩:=h₄
     refine nY ?_;clear nY
     exact⟨a,H4,ρ4,hv,R2.unprot Y R4,q4⟩
   | brk=>exact h₄.elim
   | cont=>exact h₄.elim
theorem Aax{test:Expr}{body:List Stmt}{pos:Pos}{x:X}{xs:List S}(h:ST W G n c test x)(hb:Qp W G n c body xs):Te W G n c (.While test body [] pos) (.while x xs):=by
 intro A env h₀ H ρ s N Rt E ok Y R q
 simp only[Jy,Cb,Bs,Jz,Ja,J0,J1,Kj,Eh,J2,J3,Dx]at q
 refine Aa fun nY=>?_
 obtain⟨I,⟨k,hk⟩,step⟩:=q
 refine nY ?_;clear nY
 refine wpAny_While (codeAny_whileLoop (fun k s=>(Ii fun H ρ=>A1 W h₀ env c.names H ρ s/\I k ρ H)) ?_ k ⟨H,ρ,R,hk⟩)
 rintro k s hP4
 refine Aa fun nY=>?_
 obtain⟨H,ρ,R,hk⟩:=hP4
 refine nY ?_;clear nY
 refine wpAny_mono (h (Q:=fun b H=>if b then Br G (Af G n) xs ρ H (fun ρ H=>∃m,m<k/\I m ρ H) Rt E else N ρ H) ok Y R (step k ρ H hk)) (fun b s₂ r=>?_) fun _ _ e=>Aaw ok Y e
 refine Aa fun nY=>?_
 obtain⟨H2,R2,q2⟩:=r
 cases b with
 | false=>
   refine nY ?_;clear nY
   simp only[Bool.false_eq_true,if_false]at q2 ⊢
   exact wpAny_pure ⟨ρ,H2,R2,q2⟩
 | true=>
   refine nY ?_;clear nY
   simp only[if_true]at q2 ⊢
   refine wpAny_mono (hb ok Y R2 q2) (fun f s₃ r=>?_) fun _ _ e=>False.elim e
   refine Aa fun nY=>?_
   cases f with
   | next=>
     obtain⟨ρ3,H3,R3,m,hm,hI⟩:=r
     refine nY ?_;clear nY
     exact⟨m,hm,H3,ρ3,R3,hI⟩
   | ret v=>(refine nY ?_;clear nY;exact r)
   | brk=>exact r.elim
   | cont=>exact r.elim
end Mine.Internal
namespace Mine.Internal
open PySem PySem.W PyProof.Rows
variable {W:Wd} {G:Aw} {A:Around} {h₀:HB} {env:Env} {c:Cx} {names:List Str} {H H':AH} {ρ ρ':Ak} {s s':Shared} {E:Value->Shared->Prop} {n:Nat} {Q:Ah} {Er:EP}
/-! the cells of a comprehension -/
noncomputable def G0(env:Env):List (Str×NameKind)->List (Str×Addr)->List (Str×Addr)
 | [],acc=>acc
 | (nm,k)::r,acc=>if k == .free then G0 env r ((nm,(env.cells.lookup nm).getD 0)::acc)else G0 env r acc
theorem Pr(env:Env):∀(l:List (Str×NameKind)) (acc:List (Str×Addr)),(∀p∈l,p.2 = .free->(env.cells.lookup p.1).isSome=true)->
 (forIn l acc fun(x:Str×NameKind) cs=>(match x with|(name,kind)=>if (kind == .free)=true then do let a <-cellOf env name;pure (ForInStep.yield ((name,a)::cs))else pure (ForInStep.yield cs):Sem (ForInStep (List (Str×Addr)))))=pure (G0 env l acc)
 | [],acc,_=>rfl
 | (nm,k)::r,acc,h=>by
   rw[List.forIn_cons]
   have ih:=fun acc=>Pr env r acc fun p hp=>h p (.tail _ hp)
   unfold G0
   by_cases q:(k==NameKind.free)=true
   ·simp only[q,if_true]
    have hk:=beq_iff_eq.mp q
    obtain⟨a,ha⟩:=Option.isSome_iff_exists.mp (h (nm,k) (.head _) hk)
    simp only at ha
    unfold cellOf
    rw[ha]
    exact ih _
   ·simp only[q,if_false]
    exact ih _
theorem Ob{sc:Scope}(h:∀p∈sc.names,p.2 = .free->(env.cells.lookup p.1).isSome=true):closureFor sc env=pure (G0 env sc.names []):=by
 have:=Pr env sc.names [] h
 unfold closureFor
 first
  | (rw[this];rfl)
  | (simp only[bind_pure];exact this)
  | (show (forIn sc.names [] _ >>= _)=_
     erw [this];rfl)
theorem Ps:∀ {l:List (Str×NameKind)} {acc:List (Str×Addr)} {p:Str×Addr},p∈G0 env l acc->p∈acc\/((p.1,NameKind.free)∈l/\p.2=(env.cells.lookup p.1).getD 0)
 | [],acc,p,h=> .inl h
 | (nm,k)::r,acc,p,h=>by
   unfold G0 at h
   split at h
   ·rename_i q
    have hk:=beq_iff_eq.mp q
    subst hk
    rcases Ps h with h | ⟨h1,h2⟩
    ·rcases List.mem_cons.mp h with rfl|h
     ·exact .inr ⟨.head _,rfl⟩
     ·exact .inl h
    ·exact .inr ⟨.tail _ h1,h2⟩
   ·rcases Ps h with h | ⟨h1,h2⟩
    ·exact .inl h
    ·exact .inr ⟨.tail _ h1,h2⟩
theorem Pu:∀ {l:List (Str×NameKind)} {acc:List (Str×Addr)} {p:Str×Addr},p∈acc->p∈G0 env l acc
 | [],acc,p,h=>h
 | (nm,k)::r,acc,p,h=>by
   unfold G0
   split
   ·exact Pu (.tail _ h)
   ·exact Pu h
theorem Pv:∀ {l:List (Str×NameKind)} {acc:List (Str×Addr)} {x:Str},(x,NameKind.free)∈l->(x,(env.cells.lookup x).getD 0)∈G0 env l acc
 | (nm,k)::r,acc,x,h=>by
   unfold G0
   rcases List.mem_cons.mp h with e|h
   ·cases e
    exact Pu (.head _)
   ·split
    ·exact Pv h
    ·exact Pv h
theorem Bc{β:Type}{l:List (Str×β)}{x:Str}{b:β}(h:l.lookup x=some b):(x,b)∈l:=by
 induction l with
 | nil=>cases h
 | cons p r ih=>
   obtain⟨y,z⟩:=p
   rw[List.lookup_cons]at h
   split at h
   ·rename_i q
    cases h
    rw[beq_iff_eq.mp q];exact .head _
   ·exact .tail _ (ih h)
theorem Le{β:Type}{l:List (Str×β)}{x:Str}{b:β}(h:(x,b)∈l):∃b',l.lookup x=some b':=by
 induction l with
 | nil=>cases h
 | cons p r ih=>
   obtain⟨y,z⟩:=p
   rw[List.lookup_cons]
   split
   ·exact⟨_,rfl⟩
   ·rename_i q
    refine Aa fun nY=>?_
    rcases List.mem_cons.mp h with e|h
    ·cases e;simp at q
    ·refine nY ?_;clear nY
     exact ih h
structure C7(c:Cx)(sc:Scope)(ts:List Str):Prop where
 kind:sc.kind = .function
 nocell:∀p∈sc.names,p.2≠ .cell
 locals:∀p∈sc.names,p.2 = .local->sc.names.lookup p.1=some .local
 own:∀p∈sc.names,p.2 = .local->p.1∈ts\/p.1∉c.names
 frees:∀p∈sc.names,p.2 = .free->c.sc.names.lookup p.1=some .cell/\sc.names.lookup p.1=some .free
 tsl:∀t∈ts,sc.names.lookup t=some .local
 shape:(∃x,ts = [x])\/(Ii fun x y=>ts = [x,y]/\x≠y)
theorem Yj{sc:Scope}{ts:List Str}(h:U9 c.names c.sc sc ts=true)(hl:(∃x,ts = [x])\/(Ii fun x y=>ts = [x,y])):C7 c sc ts:=by
 delta U9 at h
 simp only[Bool.and_eq_true,List.all_eq_true,beq_iff_eq,bne_iff_ne,Bool.or_eq_true]at h
 obtain⟨⟨⟨⟨h1,h2⟩,h3⟩,h4⟩,h5⟩:=h
 refine⟨h2,fun p hp=>(h4 p hp).1.1,fun p hp q=>?_,fun p hp q=>?_,fun p hp q=>?_,fun t ht=>h5 t ht,?_⟩
 ·rcases(h4 p hp).1.2 with z|z
  ·exact absurd q z
  ·exact z
 ·rcases h3 p hp with(z|z)|z
  ·exact absurd q z
  ·exact .inl (by simpa using z)
  ·exact .inr (by simpa using z)
 ·rcases(h4 p hp).2 with z|z
  ·exact absurd q z
  ·exact z
 ·rcases hl with⟨x,rfl⟩ | ⟨x,y,rfl⟩
  ·exact .inl ⟨x,rfl⟩
  ·exact .inr ⟨x,y,rfl,by simpa using h1⟩
noncomputable def rl(env:Env)(p:Str×NameKind):Str×NameKind:=if (p.2 == .free&&env.scope.kind == .function&&env.kindOf p.1==some .cell)then(p.1,.cell)else p
theorem Afn(p:Str×NameKind):(rl env p).1=p.1:=by unfold rl;split<;>rfl
theorem K5{sc:Scope}:(relabel sc env).names=sc.names.map (rl env):=by
 unfold relabel
 simp only
 congr 1
theorem M0{x:Str}:∀ {l:List (Str×NameKind)},(l.map (rl env)).lookup x=(l.lookup x).map fun k=>(rl env (x,k)).2
 | []=>rfl
 | (y,z)::r=>by
   rw[List.map_cons,show rl env (y,z)=(y,(rl env (y,z)).2)from Prod.ext (Afn _) rfl,List.lookup_cons,List.lookup_cons]
   cases hx:x==y with
   | true=>rw[beq_iff_eq.mp hx];rfl
   | false=>exact M0
theorem D2{sc:Scope}{x:Str}{k:NameKind}(h:sc.names.lookup x=some k) :
 (k≠ .free->(relabel sc env).names.lookup x=some k)/\(k = .free->(relabel sc env).names.lookup x=some .cell\/(relabel sc env).names.lookup x=some .free):=by
 rw[K5,M0,h]
 simp only[Option.map_some,Option.some.injEq,rl]
 constructor
 ·intro hk
  rw[if_neg (by simp[hk])]
 ·rintro rfl
  split
  ·exact .inl rfl
  ·exact .inr rfl
theorem Lf{sc:Scope}{x:Str}{k:NameKind}(h:(relabel sc env).names.lookup x=some k):sc.names.lookup x=some k\/(k = .cell/\sc.names.lookup x=some .free):=by
 rw[K5,M0]at h
 refine Aa fun nY=>?_
 obtain⟨z,h1,h2⟩:=Option.map_eq_some_iff.mp h
 unfold rl at h2
 split at h2
 ·rename_i q
  simp only[Bool.and_eq_true,beq_iff_eq]at q
  refine nY ?_;clear nY
  exact .inr ⟨h2.symm,by rw[h1,q.1.1]⟩
 ·refine nY ?_;clear nY
  exact .inl (by rw[h1];exact congrArg some h2)
noncomputable abbrev Ev(c:Cx)(sc:Scope)(ts:List Str):Cx:=⟨ts++c.names,sc,false,true⟩
noncomputable abbrev I2(sc:Scope)(env:Env)(C:Addr):Env:=compEnvC sc (G0 env sc.names []) C env
section
variable {sc:Scope} {ts:List Str} {C:Addr}
theorem Rr(K:C7 c sc ts)(Y:An W env c h₀){p:Str×NameKind}(hp:p∈sc.names)(hf:p.2 = .free):∃a,env.cells.lookup p.1=some a:=
 Y.cells p.1 (.inl (Y.kinds _ _ (K.frees p hp hf).1 (by simp)))
theorem Hl(K:C7 c sc ts)(Y:An W env c h₀){p:Str×Addr}(h:p∈G0 env sc.names []):env.cells.lookup p.1=some p.2/\sc.names.lookup p.1=some .free:=by
 refine Aa fun nY=>?_
 rcases Ps h with h | ⟨h1,h2⟩
 ·cases h
 ·obtain⟨a,ha⟩:=Rr K Y h1 rfl
  simp only at ha
  rw[ha]at h2
  refine nY ?_;clear nY
  exact⟨by rw[ha,h2];rfl,(K.frees _ h1 rfl).2⟩
theorem Cw(K:C7 c sc ts)(Y:An W env c h₀){x:Str}{a:Addr}(h:(G0 env sc.names []).lookup x=some a):env.cells.lookup x=some a/\sc.names.lookup x=some .free:=Hl K Y (Bc h)
theorem A1.in_comp(K:C7 c sc ts)(Y:An W env c h₀)(R:A1 W h₀ env names H ρ s)(hC:Ih h₀ env H [C]):Gx W h₀ (Mine.Internal.prot (I2 sc env C) (env.locals::h₀.fs) H s.heap).h:=fun b o e=>
 let ⟨o',e1,z⟩:=R.keep b o e;⟨o',C1 e1 (by cases q:H b with
  | none=>rfl
  | some x=>rw[(R.sep b x q).1]at e;cases e) (fun q=>by have h1:=(hC C (.head _)).2.1;have h2:b=C:=q;rw[<-h2,e]at h1;cases h1)
  (fun p hp q=>by
    obtain⟨p',hp',hp2⟩:=Bk (Hl K Y hp).1
    have:=Y.newc p' hp'
    rw[hp2,q,e]at this;cases this),z⟩
theorem Nw(K:C7 c sc ts)(Y:An W env c h₀)(R:A1 W h₀ env names H ρ s)(hC:Ih h₀ env H [C]):∃o,(Mine.Internal.prot (I2 sc env C) (env.locals::h₀.fs) H s.heap).get? env.locals=some o/\s.heap.get? env.locals=some o:=by
 refine Aa fun nY=>?_
 obtain⟨m,⟨o,es,ep,h1,h2⟩,_⟩:=R.ns
 refine nY ?_;clear nY
 refine⟨o,C1 h1 ?_ (fun q=>(hC C (.head _)).2.2.1 (q:env.locals=C).symm) (fun p hp q=>Y.apart p.1 p.2 (Hl K Y hp).1 q),h1⟩
 cases q:H env.locals with
 | none=>rfl
 | some x=>exact absurd rfl (R.sep _ _ q).2.1
theorem An.comp(K:C7 c sc ts)(Y:An W env c h₀)(R:A1 W h₀ env names H ρ s)(hC:Ih h₀ env H [C])(hC':W.b₀.objs.size<=C):An W (I2 sc env C) (Ev c sc ts) (Mine.Internal.prot (I2 sc env C) (env.locals::h₀.fs) H s.heap) where
 kind:=K.kind
 globals:=Y.globals
 builtins:=Y.builtins
 kinds:=fun x k e hk=>(D2 (env:=env) e).1 hk
 frees:=fun x e=>(D2 (env:=env) e).2 rfl
 cells:=fun x e=>by
  have key:sc.names.lookup x=some .free:=by
   rcases e with e|e
   ·rcases Lf (env:=env) e with h | ⟨_,h⟩
    ·exact absurd rfl (K.nocell _ (Bc h))
    ·exact h
   ·rcases Lf (env:=env) e with h | ⟨h,_⟩
    ·exact h
    ·cases h
  exact Le (Pv (acc:=[]) (Bc key))
 apart:=fun x a e=>by
  obtain⟨h1,_⟩:=Cw K Y e
  obtain⟨p,hp,hp2⟩:=Bk h1
  intro q
  exact(hC C (.head _)).2.2.2 p hp (hp2.trans q)
 inj:=fun x y a e1 e2=>Y.inj x y a (Cw K Y e1).1 (Cw K Y e2).1
 base:=fun b o e=>C1 (R.keepB Y b o e)
  (by cases q:H b with
      | none=>rfl
      | some x=>have:=(R.sep b x q).1;rw[Y.base b o e]at this;cases this)
  (fun q=>absurd (Heap.lt_size e) (Nat.not_lt.mpr (by rw[q];exact hC')))
  (fun p hp q=>by
    obtain⟨p',hp',hp2⟩:=Bk (Hl K Y hp).1
    have:=Y.newc p' hp'
    rw[hp2,q,Y.base b o e]at this;cases this)
 fsok:=fun L m q=>by
  rcases List.mem_cons.mp m with rfl|m
  ·obtain⟨o,h1,_⟩:=Nw K Y R hC
   rw[h1]at q;cases q
  ·exact Y.fsok L m ((A1.in_comp K Y R hC).none q)
 fsd:=fun L m=>by
  rcases List.mem_cons.mp m with rfl|m
  ·refine⟨Rf R.above,fun o e vs q=>?_⟩
   obtain⟨m,⟨o',es,ep,h1,h2,_⟩,_⟩:=R.ns
   rw[F0 e]at h1;cases h1
   rw[h2]at q;cases q
  ·exact⟨(Y.fsd L m).1,fun o e=>by obtain⟨o',e1,z⟩:=R.fsd Y m;rw[F0 e]at e1;cases e1;exact z⟩
 new:=Da (.inr (.inl rfl))
 newc:=fun p hp=>Da (.inr (.inr ⟨p,hp,rfl⟩))
 look:=fun p hp=>by
  obtain⟨a,ha⟩:=Le hp
  have h1:=(Cw K Y ha).1
  have h2:=(Hl K Y hp).1
  rw[h1]at h2;cases h2
  exact ha
 lo:=Y.lo
end
end Mine.Internal
namespace Mine.Internal
open PySem PySem.W PyProof.Rows
variable {W:Wd} {G:Aw} {A:Around} {h₀:HB} {env:Env} {c:Cx} {names:List Str} {H H':AH} {ρ ρ' ρt:Ak} {s s':Shared} {E:Value->Shared->Prop} {n:Nat} {Q:Ah} {sc:Scope} {ts:List Str} {C:Addr} {Er:EP}
theorem Hm{l l':List Str}{x:Str}:x∉l->(l++l').idxOf? x=(l'.idxOf? x).map (· + l.length):=by
 induction l with
 | nil=>intro _;simp
 | cons a l ih=>
   intro h
   rw[List.cons_append,List.idxOf?_cons]
   have:(a==x)=false:=by simpa using fun q:a=x=>h (by simp[q])
   rw[this,ih (fun q=>h (.tail _ q))]
   cases l'.idxOf? x with
   | none=>rfl
   | some k=>simp;exact Nat.add_assoc _ _ 1
theorem Ef{l l':List Str}{x:Str}:x∈l->(l++l').idxOf? x=l.idxOf? x/\∃i,l.idxOf? x=some i/\i<l.length:=by
 induction l with
 | nil=>intro h;cases h
 | cons a l ih=>
   intro h
   rw[List.cons_append,List.idxOf?_cons,List.idxOf?_cons]
   cases q:a==x with
   | true=>exact⟨rfl,0,rfl,by simp⟩
   | false=>
     have:x∈l:=by
      refine Aa fun nY=>?_
      rcases List.mem_cons.mp h with rfl|h
      ·simp at q
      ·refine nY ?_;clear nY
       exact h
     refine Aa fun nY=>?_
     obtain⟨h1,i,h2,h3⟩:=ih this
     refine nY ?_;clear nY
     simp only[Bool.false_eq_true,if_false]
     rw[h1]
     exact⟨rfl,i+1,by rw[h2];rfl,by simp;exact h3⟩
theorem Mg{l:List Str}{x:Str}{i:Nat}(h:l.idxOf? x=some i):x∈l:=by
 cases Classical.em (x∈l)with
 | inl h=>exact h
 | inr q=>rw[List.idxOf?_eq_none_iff.mpr q]at h;cases h
noncomputable def Lg(W:Wd)(ts:List Str)(C:Addr)(ρt:Ak)(h:Heap):Prop:=∃m,h.Ns C m/\∀x i v,ts.idxOf? x=some i->ρt[i]? = some (some v)->∃u,m x=some u/\VR W v u
theorem A1.toComp(K:C7 c sc ts)(Y:An W env c h₀)(R:A1 W h₀ env c.names H ρ s)(hC:Ih h₀ env H [C])(hC':W.b₀.objs.size<=C)(hl:ρt.length=ts.length)(hn:Lg W ts C ρt s.heap) :
 A1 W (Mine.Internal.prot (I2 sc env C) (env.locals::h₀.fs) H s.heap) (I2 sc env C) (Ev c sc ts).names H (ρt++ρ) s where
 ns:=by
  refine Aa fun nY=>?_
  obtain⟨m,h1,h2⟩:=hn
  refine nY ?_;clear nY
  refine⟨m,h1,fun x i v e1 e2 e3=>?_⟩
  have hx:sc.names.lookup x=some .local:=by
   refine Aa fun nY=>?_
   rcases Lf (env:=env) e2 with h | ⟨h,_⟩
   ·refine nY ?_;clear nY
    exact h
   ·cases h
  have hmem:x∈ts:=by
   refine Aa fun nY=>?_
   rcases K.own _ (Bc hx) rfl with h|h
   ·refine nY ?_;clear nY
    exact h
   ·have:x∈ts++c.names:=Mg e1
    rcases List.mem_append.mp this with h'|h'
    ·refine nY ?_;clear nY
     exact h'
    ·exact absurd h' h
  refine Aa fun nY=>?_
  obtain⟨h3,j,h4,h5⟩:=Ef (l':=c.names) hmem
  have e1':(ts++c.names).idxOf? x=some i:=e1
  rw[h3,h4]at e1'
  cases e1'
  refine nY ?_;clear nY
  refine h2 x _ v h4 ?_
  rwa[List.getElem?_append_left (Aes hl h5)]at e3
 cell:=fun x a e=>by
  refine Aa fun nY=>?_
  obtain⟨e1,e2⟩:=Cw K Y e
  obtain⟨w,hw,hr⟩:=R.cell x a e1
  refine nY ?_;clear nY
  refine⟨w,hw,fun i v f1 f2 f3=>?_⟩
  refine Aa fun nY=>?_
  have hx:x∉ts:=fun q=>by have:=K.tsl x q;rw[e2]at this;cases this
  have f1':(ts++c.names).idxOf? x=some i:=f1
  rw[Hm hx]at f1'
  obtain⟨j,h1,h2⟩:=Option.map_eq_some_iff.mp f1'
  subst h2
  refine nY ?_;clear nY
  refine hr j v h1 (.inl (Y.kinds x _ (K.frees _ (Bc e2) rfl).1 (by simp))) ?_
  rw[List.getElem?_append_right (Ag9 hl)]at f3
  rwa[show j+ts.length-ρt.length=j by exact Aha hl]at f3
 keep:= .of fun _ _ e=>F0 e
 objs:=R.objs
 sep:=fun a o e=>by
  refine⟨Da (.inl ⟨o,e⟩),fun q=>?_,fun x q=>(R.sep a o e).2.2 x (Cw K Y q).1⟩
  have h1:=(hC C (.head _)).1
  have h2:a=C:=q
  rw[<-h2,e]at h1;cases h1
 gens:=R.gens
 os:=R.os
 above:=hC'
 low:=R.low
theorem A1.ofComp(K:C7 c sc ts)(Y:An W env c h₀)(R:A1 W h₀ env c.names H ρ s)(hC:Ih h₀ env H [C])(hl:ρt.length=ts.length)
 (R':A1 W (Mine.Internal.prot (I2 sc env C) (env.locals::h₀.fs) H s.heap) (I2 sc env C) (Ev c sc ts).names H' (ρt++ρ) s'):A1 W h₀ env c.names H' ρ s':=by
 have hCC:=hC C (.head _)
 have hsub:Gx W h₀ (Mine.Internal.prot (I2 sc env C) (env.locals::h₀.fs) H s.heap).h:=A1.in_comp K Y R hC
 have hcl:∀x a,env.cells.lookup x=some a->(∃p∈G0 env sc.names [],p.2=a)->(G0 env sc.names []).lookup x=some a:=by
  rintro x a e hP5
  refine Aa fun nY=>?_
  obtain⟨p,hp,rfl⟩:=hP5
  have h1:=(Hl K Y hp).1
  have h2:=Y.inj x p.1 p.2 e h1
  subst h2
  obtain⟨a',ha'⟩:=Le hp
  rw[(Cw K Y ha').1]at h1;cases h1
  refine nY ?_;clear nY
  exact ha'
 have hloc:=Nw K Y R hC
 have hcell:∀x a,env.cells.lookup x=some a->(¬∃p∈G0 env sc.names [],p.2=a)->∀o,s.heap.get? a=some o->(Mine.Internal.prot (I2 sc env C) (env.locals::h₀.fs) H s.heap).get? a=some o:=by
  intro x a e hno o ho
  refine Aa fun nY=>?_
  obtain⟨p,hp,hp2⟩:=Bk e
  refine nY ?_;clear nY
  refine C1 ho ?_ (fun q=>hCC.2.2.2 p hp (hp2.trans q)) (fun p' hp' q=>hno ⟨p',hp',q⟩)
  cases q:H a with
  | none=>rfl
  | some z=>exact absurd e ((R.sep _ _ q).2.2 x)
 refine⟨?_,?_,hsub.trans (fun b o e m=>(List.mem_cons.mp m).resolve_left fun q=>by rw[q,Y.new]at e;cases e) R'.keep,R'.objs,?_,R'.gens,R'.os,R.above,R'.low⟩
 ·refine Aa fun nY=>?_
  obtain⟨m,⟨o,es,ep,h1,h2⟩,h3⟩:=R.ns
  obtain⟨o',g1,g2⟩:=hloc
  rw[h1]at g2;cases g2
  refine nY ?_;clear nY
  exact⟨m,R'.keep.ns ⟨o,es,ep,g1,h2⟩,h3⟩
 ·intro x a e
  refine Aa fun nY=>?_
  cases Classical.em (∃p∈G0 env sc.names [],p.2=a)with
  | inl q=>
    have hx:=hcl x a e q
    obtain⟨e1,e2⟩:=Cw K Y hx
    obtain⟨w,hw,hr⟩:=R'.cell x a hx
    refine nY ?_;clear nY
    refine⟨w,hw,fun i v f1 f2 f3=>hr (i+ts.length) v ?_ ((D2 (env:=env) e2).2 rfl) ?_⟩
    ·have hx':x∉ts:=fun q=>by have:=K.tsl x q;rw[e2]at this;cases this
     show (ts++c.names).idxOf? x=_
     rw[Hm hx',f1];rfl
    ·rw[List.getElem?_append_right (Ag9 hl)]
     rwa[show i+ts.length-ρt.length=i by exact Aha hl]
  | inr q=>
    obtain⟨w,⟨o,ho,hd⟩,hr⟩:=R.cell x a e
    refine nY ?_;clear nY
    exact⟨w,⟨o,R'.keep.exact (hcell x a e q o ho) (.inl fun m=>(by obtain⟨p,hp,hp2⟩:=Bk e;exact Y.fsok a ((List.mem_cons.mp m).resolve_left (Y.apart x a e)) (hp2▸Y.newc p hp))),hd⟩,hr⟩
 ·intro a o e
  refine Aa fun nY=>?_
  obtain⟨q1,q2,q3⟩:=R'.sep a o e
  refine nY ?_;clear nY
  refine⟨?_,?_,?_⟩
  ·exact hsub.none q1
  ·rintro rfl
   refine Aa fun nY=>?_
   obtain⟨o',g1,_⟩:=hloc
   rw[q1]at g1;cases g1
  ·intro x hx
   refine Aa fun nY=>?_
   cases Classical.em (∃p∈G0 env sc.names [],p.2=a)with
   | inl q=>(refine nY ?_;clear nY;exact q3 x (hcl x a hx q))
   | inr q=>
     obtain⟨w,⟨o,ho,hd⟩,hr⟩:=R.cell x a hx
     have:=hcell x a hx q o ho
     rw[q1]at this;cases this
theorem Hn(K:C7 c sc ts)(Y:An W env c h₀){hs:List Addr}(hid:Ih h₀ env H hs)(hCn:C∉hs){b:Addr}(hb:b∈hs){o:Obj}(e:s.heap.get? b=some o):(Mine.Internal.prot (I2 sc env C) (env.locals::h₀.fs) H s.heap).get? b=some o:=by
 refine Aa fun nY=>?_
 obtain⟨h1,h2,h3,h4⟩:=hid b hb
 refine nY ?_;clear nY
 refine C1 e h1 (fun q=>hCn (by have h2:b=C:=q;rw[<-h2];exact hb)) fun p hp q=>?_
 refine Aa fun nY=>?_
 obtain⟨p',hp',hp2⟩:=Bk (Hl K Y hp).1
 refine nY ?_;clear nY
 exact h4 p' hp' (hp2.trans q)
theorem Yk(K:C7 c sc ts){target:Expr}(ht:C6 target=some ts):Zy (Ev c sc ts) target=some (Dg ts.length):=by
 rcases Ix ht with⟨x,p,rfl,rfl⟩ | ⟨x,p,y,p',k,tp,rfl,rfl⟩
 ·clear ht
  have h1:=K.tsl x (.head _)
  show (Cx.own (Ev c sc [x]) x).map Tg.one=_
  simp only[Cx.own,h1,Wz,if_true,Ev,List.cons_append,List.nil_append,List.idxOf?_cons,beq_self_eq_true]
  rfl
 ·clear ht
  have h1:=K.tsl x (.head _)
  have h2:=K.tsl y (.tail _ (.head _))
  have hne:x≠y:=by
   rcases K.shape with⟨z,hz⟩ | ⟨a,b,hz,hne⟩
   ·cases hz
   ·cases hz;exact hne
  have hb:(x==y)=false:=by simpa using hne
  show ((Cx.own (Ev c sc [x,y]) x) >>= fun i=>(Cx.own (Ev c sc [x,y]) y) >>= fun j=>pure (Tg.two i j))=_
  simp only[Cx.own,h1,h2,Wz,if_true,Ev,List.cons_append,List.nil_append,List.idxOf?_cons,beq_self_eq_true,hb]
  rfl
end Mine.Internal
namespace Mine.Internal
open PySem PySem.W PyProof.Rows
variable {W:Wd} {G:Aw} {A:Around} {h₀:HB} {env:Env} {c:Cx} {names:List Str} {H H':AH} {ρ ρ' ρt:Ak} {s s':Shared} {E:Value->Shared->Prop} {n:Nat} {Q:Ah} {sc:Scope} {ts:List Str} {C:Addr} {Er:EP}
theorem Ud{R:Result->Shared->Prop}{elt target iter:Expr}{ifs:List Expr}{scope:Scope}{pos:Pos}{it acc:Value}{env:Env}(I:Nat->Shared->Prop)
 (turn:∀n s,I n s->wpAny W.M A (pyNext it) (fun r s₁=>match r with
   | none=>R (.ok .next) s₁
   | some v=>wpAny W.M A (letOwnedTupleGo target it v) (fun _ s₁'=>wpAny W.M A (assign target env v) (fun _ s₂=>
      wpAny W.M A (forIn ifs true fun c r=>if r=true then do let ok <-isTrue c env (eval c env);pure (ForInStep.yield ok)else pure (ForInStep.yield r)) (fun ok s₃=>
       if ok=true then wpAny W.M A (eval elt env) (fun x s₄=>
        wpAny W.M A (call (.builtin "list.append") [acc,x]) (fun _ s₅=>∃m,m<n/\I m s₅) (notedBy W.M A env fun e s'=>R (.error e) s') s₄) (notedBy W.M A env fun e s'=>R (.error e) s') s₃
       else ∃m,m<n/\I m s₃) (notedBy W.M A env fun e s'=>R (.error e) s') s₂) (notedBy W.M A env fun e s'=>R (.error e) s') s₁') (notedBy W.M A env fun e s'=>R (.error e) s') s₁) (notedBy W.M A env fun e s'=>R (.error e) s') s)
 (n:Nat) (h:I n s):codeAny W.M A (.compLoop (.ListComp elt [⟨target,iter,ifs,0⟩] scope pos) 0 it acc env) R s:=by
 refine codeAny_loop rfl I (fun n s hI=>?_) n h
 show wpAny _ A ((compTurn (.ListComp elt [⟨target,iter,ifs,0⟩] scope pos) 0 it acc env).onRaise (fun x=>do noteFrame x env;theTreesLotGoes x)) _ _ s
 refine wpAny_noted ?_
 rw[compTurn_list]
 refine wpAny_bind (wpAny_standAt (wpAny_bind (wpAny_mono (turn n s hI) (fun r s₁ h₁=>?_) fun _ _ h'=>h')))
 cases r with
 | none=>exact wpAny_pure h₁
 | some v=>
   refine wpAny_bind (wpAny_mono h₁ (fun _ s₁' h₁'=>?_) fun _ _ h'=>h')
   refine wpAny_bind (wpAny_mono h₁' (fun _ s₂ h₂=>wpAny_bind (wpAny_mono h₂ (fun ok s₃ h₃=>?_) fun _ _ h'=>h')) fun _ _ h'=>h')
   cases ok with
   | false=>exact wpAny_pure ⟨rfl,h₃⟩
   | true=>
     exact wpAny_bind (wpAny_bind (wpAny_mono h₃ (fun x s₄ h₄=>wpAny_bind (wpAny_mono h₄ (fun _ s₅ h₅=>wpAny_pure (wpAny_pure ⟨rfl,h₅⟩)) fun _ _ h'=>h')) fun _ _ h'=>h'))
theorem Vr{it:It}{k:Nat}{N:Ak->Prop}(hk:ρt.length=k)(hk':k=1\/k=2)(h:Kh (Dg k) it (ρt++ρ) H N):Kh (Dg k) it (ρt++ρ) H (fun ρ'=>(∃ρt':Ak,ρ'=ρt'++ρ/\ρt'.length=k)/\N ρ'):=by
 rcases hk' with rfl|rfl
 ·simp only[Dg,if_true]at h ⊢
  delta Kh at h ⊢
  cases it with
  | v x=>exact⟨⟨ρt.set 0 (some x),by rw[List.set_append_left _ _ (Ajx hk)],by simp[hk]⟩,h⟩
  | pair a b=>exact h.elim
 ·have e2:Dg 2 = .two 0 1:=rfl
  rw[e2]at h ⊢
  have key:∀x y:V,∃ρt':Ak,((ρt++ρ).set 0 (some x)).set 1 (some y)=ρt'++ρ/\ρt'.length=2:=fun x y=>
   ⟨(ρt.set 0 (some x)).set 1 (some y),by rw[List.set_append_left _ _ (Ajy hk),List.set_append_left _ _ (by simp;exact Ajz hk)],by simp[hk]⟩
  cases it with
  | v x=>
    cases x with
    | ref a=>
      have h':(match H a with|some (.tuple [x,y])=>N (((ρt++ρ).set 0 (some x)).set 1 (some y))|_=>False):=h
      show (match H a with|some (.tuple [x,y])=>(∃ρt':Ak,((ρt++ρ).set 0 (some x)).set 1 (some y)=ρt'++ρ/\ρt'.length=2)/\N (((ρt++ρ).set 0 (some x)).set 1 (some y))|_=>False)
      clear h
      split at h'
      ·rename_i x y e
       exact⟨key _ _,h'⟩
      ·exact h'.elim
    | _=>exact h.elim
  | pair a b=>exact⟨key _ _,h⟩
noncomputable def SB(W:Wd)(G:Aw)(n:Nat)(c:Cx)(ifs:List Expr)(elt:Expr)(body:Ak->AH->(Option V->AH->Prop)->Prop):Prop:=
 ∀ {A:Around} {env:Env} {h₀:HB} {H:AH} {ρ:Ak} {s:Shared} {Kk:Option V->AH->Prop} {E:Value->Shared->Prop},Rg A c h₀ env EF n->An W env c h₀->A1 W h₀ env c.names H ρ s->body ρ H Kk->
  wpAny W.M A (forIn ifs true fun c r=>if r=true then do let ok <-isTrue c env (eval c env);pure (ForInStep.yield ok)else pure (ForInStep.yield r)) (fun ok s₃=>
   if ok=true then wpAny W.M A (eval elt env) (fun x s₄=>(Ii fun a H4=>E6 (VR W a x) (A1 W h₀ env c.names H4 ρ s₄) (Kk (some a) H4))) E s₃
   else ∃H4,A1 W h₀ env c.names H4 ρ s₃/\Kk none H4) E s
theorem Aay{elt:Expr}{x:X}(h:SE W G n c elt x):SB W G n c [] elt (fun ρ H K=>Av G (Af G n) x ρ H (fun v H=>K (some v) H) EF):=by
 intro A env h₀ H ρ s Kk E ok Y R q
 refine wpAny_pure ?_
 simp only[if_true]
 exact wpAny_mono (h ok Y R q) (fun v s' r=>r) fun _ _ e=>e.ef
theorem Adc{cond elt:Expr}{x y:X}(hc:ST W G n c cond y)(h:SE W G n c elt x) :
 SB W G n c [cond] elt (fun ρ H K=>Av G (Af G n) y ρ H (fun v H=>truthy v fun b=>if b then Av G (Af G n) x ρ H (fun v H=>K (some v) H) EF else K none H) EF):=by
 intro A env h₀ H ρ s Kk E ok Y R q
 rw[List.forIn_cons]
 refine wpAny_bind ?_
 simp only[if_true]
 refine wpAny_bind (wpAny_mono (hc (Q:=fun b H=>if b then Av G (Af G n) x ρ H (fun v H=>Kk (some v) H) EF else Kk none H) ok Y R q) (fun b s' r=>wpAny_pure ?_) fun _ _ e=>e.ef)
 obtain⟨H',R',q'⟩:=r
 refine wpAny_pure ?_
 cases b with
 | true=>
   simp only[if_true]at q' ⊢
   exact wpAny_mono (h ok Y R' q') (fun v s' r=>r) fun _ _ e=>e.ef
 | false=>
   simp only[Bool.false_eq_true,if_false]at q' ⊢
   exact⟨H',R',q'⟩
theorem Yl(K:C7 c sc ts){hP:HB}(R:A1 W hP (I2 sc env C) (Ev c sc ts).names H (ρt++ρ) s)(hl:ρt.length=ts.length):Lg W ts C ρt s.heap:=by
 refine Aa fun nY=>?_
 obtain⟨m,h1,h2⟩:=R.ns
 refine nY ?_;clear nY
 refine⟨m,h1,fun x i v e1 e2=>?_⟩
 have hx:=Mg e1
 refine Aa fun nY=>?_
 obtain⟨h3,j,h4,h5⟩:=Ef (l':=c.names) hx
 rw[h4]at e1;cases e1
 refine nY ?_;clear nY
 refine h2 x _ v (h3.trans h4) ((D2 (env:=env) (K.tsl x hx)).1 (by simp)) ?_
 rw[List.getElem?_append_left (Aes hl h5)];exact e2
theorem Lg.at{h h':Heap}(x:Lg W ts C ρt h)(k:∀o,h.get? C=some o->h'.get? C=some o):Lg W ts C ρt h':=by
 refine Aa fun nY=>?_
 obtain⟨m,⟨o,es,ep,h1,h2⟩,h3⟩:=x
 refine nY ?_;clear nY
 exact⟨m,⟨o,es,ep,k _ h1,h2⟩,h3⟩
noncomputable abbrev Akc(W:Wd)(h₀:HB)(env:Env)(names:List Str)(ρ:Ak)(hs:List Addr)(ts:List Str)(C D:Addr)(Obs:Nat->Heap->Prop)(its:List It)(gt:List It->List V->Ak->AH->Prop)(k:Nat)(s:Shared):Prop:=
 (Ex6 fun i H acc items ρt nn=>Agl (A1 W h₀ env names H ρ s) (Ih h₀ env H hs) (Ih h₀ env H [C]) (Ih h₀ env H [D]) (Obs i s.heap) (s.heap.get? D=some {cls:= .type "list",data:= .seq (items:List Value).toArray nn}) (Dj W acc items) (acc.length<=i) (Lg W ts C ρt s.heap) (ρt.length=ts.length) (gt (its.drop i) acc (ρt++ρ) H) (i<=its.length) (k=its.length-i+1))
theorem Vs(K:C7 c sc ts)(hf:c.hnd=false)(ok:Rg A c h₀ env Er n)(Y:An W env c h₀)(R:A1 W h₀ env c.names H ρ s){elt target iter:Expr}{ifs:List Expr}{pos:Pos}{I:Addr}{hs:List Addr}{its:List It}{g:AH->Prop}{Obs:Nat->Heap->Prop}
 (S:Src W A target I hs its g Obs) (hid:Ih h₀ env H hs) (st:Obs 0 s.heap) (ht:C6 target=some ts) (hz:its.length<=Bq) {body:Ak->AH->(Option V->AH->Prop)->Prop} (hb:SB W G n (Ev c sc ts) ifs elt body)
 (q:Bm g (Dg ts.length) body (fun vs H=>Ay (.list vs) H Q) its [] (List.replicate ts.length none++ρ) H) {RR:Value->Addr->Result->Shared->Prop}
 (hfin:∀D C H' s',A1 W h₀ env c.names H' ρ s'->Ih h₀ env H' [C]->(∃m,s'.heap.Ns C m)->Q (.ref D) H'->RR (.ref D) C (.ok .next) s') :
 wpAny W.M A (newList []) (fun acc s₃=>wpAny W.M A (newFunctionEnv sc env.globals (G0 env sc.names []) [] env.qual none .none (some env)) (fun cenv s₄=>
  codeAny W.M A (.compStart (.ListComp elt [⟨target,iter,ifs,0⟩] sc pos) 0 (.ref I) acc {cenv with scope:=relabel sc env}) (RR acc cenv.locals) s₄) E s₃) E s:=by
 have hk12:ts.length=1\/ts.length=2:=by rcases K.shape with⟨x,rfl⟩ | ⟨x,y,rfl,_⟩<;>simp
 refine wpAny_newObj_type (wpAny_newFunctionEnv K.nocell (by intro y hy;simp at hy) (fun h₁ hns₁ hsb₁=>?_) K.kind)
 dsimp only at hns₁ hsb₁ ⊢
 generalize hH2:s.heap.push {cls:= .type "list",dict:=none,data:= .seq ([]:List Value).toArray} = H2 at hns₁ hsb₁ ⊢
 have hCs:H2.objs.size=s.heap.objs.size+1:=by rw[<-hH2,Heap.size_push]
 generalize hCd:H2.objs.size=C at *
 generalize hDd:s.heap.objs.size=D at *
 have hDC:D≠C:=by rw[hCs];exact(Nat.succ_ne_self _).symm
 have old:∀b o,s.heap.get? b=some o->h₁.get? b=some o:=fun b o e=>by
  have hlt:=Heap.lt_size e
  rw[hDd]at hlt
  exact hsb₁.extBut b o (by rw[hCs];exact Nat.ne_of_lt (Nat.lt_succ_of_lt hlt)) (Heap.get?_push_of_some _ (hH2▸Heap.get?_push_of_some _ e))
 have hD1:h₁.get? D=some {cls:= .type "list",dict:=none,data:= .seq ([]:List Value).toArray}:=
  hsb₁.extBut _ _ hDC (Heap.get?_push_of_some _ (by rw[<-hH2,<-hDd];exact Heap.get?_push_size _ rfl))
 have hb0:W.b₀.objs.size<=D:=by rw[<-hDd];exact R.up
 have hb0C:W.b₀.objs.size<=C:=by rw[hCs];exact Nat.le_succ_of_le hb0
 have hidD:Ih h₀ env H [D]:=Ih.one Y R (Rf (by rw[hDd];exact Nat.le_refl _)) hb0
 have hidC:Ih h₀ env H [C]:=Ih.one Y R (Rf (by rw[hDd,hCs];exact Nat.le_succ _)) hb0C
 have hslt:∀b∈hs,b<D:=fun b hb=>by obtain⟨o,e⟩:=S.live 0 _ st b hb;rw[<-hDd];exact Heap.lt_size e
 have hDhs:D∉hs:=fun h=>Nat.lt_irrefl _ (hslt D h)
 have hChs:C∉hs:=fun h=>by have:=hslt C h;rw[hCs]at this;exact Nat.lt_irrefl _ (Nat.lt_of_succ_lt this)
 have Df:∀s₃:Shared,s₃ = {s with heap:=h₁,toks:=s.toks+([]:List (Str×Value)).length} ->
  codeAny W.M A (.compLoop (.ListComp elt [⟨target,iter,ifs,0⟩] sc pos) 0 (.ref I) (.ref D) (I2 sc env C)) (RR (.ref D) C) s₃:=by
  rintro s₃ rfl
  refine Ud (Akc W h₀ env c.names ρ hs ts C D Obs its (Bm g (Dg ts.length) body fun vs H=>Ay (.list vs) H Q)) ?_ (its.length+1)
   ⟨0,H,[],[],List.replicate ts.length none,_,R.move _ old,hid,hidC,hidD,S.frame 0 _ _ st fun b _ o e=>old b o e,hD1,.nil,Nat.le_refl _,⟨_,hns₁,fun x i v e1 e2=>?_⟩,by simp,q,Nat.zero_le _,by simp⟩
  ·rintro k s hP6
   refine Aa fun nY=>?_
   obtain⟨i,H,acc,items,ρt,nn,R,hid,hidC,hidD,st,hD,hacc,hai,hn,hl,q,hi,rfl⟩:=hP6
   have hclean:its.length<=1048576:=hz
   refine nY ?_;clear nY
   cases hd:its.drop i with
   | nil=>
     rw[hd]at q
     obtain⟨g1,q⟩:=q
     have:i=its.length:=by
      have:=congrArg List.length hd
      simp at this;exact Nat.le_antisymm hi (Nat.sub_eq_zero_iff_le.mp this)
     subst this
     refine wpAny_mono (S.done Y R hid g1 st) (fun r s₁ h₁=>?_) fun _ _ e=>e
     refine Aa fun nY=>?_
     obtain⟨rfl,R1,hk1⟩:=h₁
     obtain⟨d1,d2,d3,d4⟩:=hidD D (.head _)
     have R2:=R1.add (a:=D) (o:= .list acc) (hk1 _ _ hDhs hD) (.list hacc (Nat.le_trans hai hz)) d1 d2 d3 (fun x e=>by obtain⟨p,hp,hp2⟩:=Bk e;exact d4 p hp hp2) hb0
     refine nY ?_;clear nY
     refine hfin D C _ _ R2 (fun b hb=>?_) ?_ (q D d1)
     ·obtain⟨c1,c2⟩:=hidC b hb
      refine⟨?_,c2⟩
      have:b=C:=by simpa using hb
      subst this
      simp[upd,Ne.symm hDC,c1]
     ·refine Aa fun nY=>?_
      obtain⟨m,hm,_⟩:=hn.at fun o e=>hk1 C o hChs e
      refine nY ?_;clear nY
      exact⟨m,hm⟩
   | cons y r=>
     rw[hd]at q
     refine Aa fun nY=>?_
     obtain⟨g1,q⟩:=q
     obtain⟨hx,hd'⟩:=Cp hd
     have hlt:i<its.length:=(List.getElem?_eq_some_iff.mp hx).1
     refine nY ?_;clear nY
     refine wpAny_mono (S.turn (E':=notedBy W.M A (I2 sc env C) fun e s'=>RR (.ref D) C (.error e) s') Y R hid g1 st hx) (fun r s₁ h₁=>?_) fun _ _ e=>e
     obtain⟨v,rfl,h₁⟩:=h₁
     refine wpAny_mono h₁ (fun _ s₂ h₂=>?_) fun _ _ e=>e
     refine Aa fun nY=>?_
     obtain⟨R2,st2,hit,hk2⟩:=h₂
     have hn2:=hn.at fun o e=>hk2 C o hChs e
     have hD2:=hk2 _ _ hDhs hD
     have YP:=Y.comp K R2 hidC hb0C
     have RP:=R2.toComp K Y hidC hb0C hl hn2
     refine nY ?_;clear nY
     refine wpAny_mono (Pq YP RP (ok.handled hf) (Yk K ht) hit (Vr hl hk12 q)) (fun _ s₃ h₃=>?_) fun _ _ e=>e
     refine Aa fun nY=>?_
     obtain⟨ρ3,R3,⟨ρt',rfl,hl'⟩,q3⟩:=h₃
     have fin:∀ {s₄:Shared} {H4:AH},A1 W (Mine.Internal.prot (I2 sc env C) (env.locals::h₀.fs) H s₂.heap) (I2 sc env C) (Ev c sc ts).names H4 (ρt'++ρ) s₄->
      A1 W h₀ env c.names H4 ρ s₄/\Ih h₀ env H4 hs/\Ih h₀ env H4 [C]/\Ih h₀ env H4 [D]/\Obs (i+1) s₄.heap/\s₄.heap.get? D=some {cls:= .type "list",data:= .seq (items:List Value).toArray nn} /\Lg W ts C ρt' s₄.heap:=by
      intro s₄ H4 R4
      have none_at:∀b o,(Mine.Internal.prot (I2 sc env C) (env.locals::h₀.fs) H s₂.heap).get? b=some o->H4 b=none:=fun b o e=>by
       cases z:H4 b with
       | none=>rfl
       | some w=>have:=(R4.sep b w z).1;rw[e]at this;cases this
      refine⟨R2.ofComp K Y hidC hl' R4,fun b hb=>⟨?_,(hid b hb).2⟩,fun b hb=>⟨?_,(hidC b hb).2⟩,fun b hb=>⟨?_,(hidD b hb).2⟩,?_,?_,Yl K R4 hl'⟩
      ·obtain⟨o,e⟩:=S.live _ _ st2 b hb
       exact none_at b o (Hn K Y hid hChs hb e)
      ·have:b=C:=by simpa using hb
       subst this
       cases z:H4 b with
       | none=>rfl
       | some w=>exact absurd rfl (R4.sep b w z).2.1
      ·have:b=D:=by simpa using hb
       subst this
       exact none_at b _ (Hn K Y hidD (by simpa using Ne.symm hDC) hb hD2)
      ·exact S.frame _ _ _ st2 fun b hb o e=>R4.keep.exact (Hn K Y hid hChs hb e) (.inl fun m=>Y.fsok b ((List.mem_cons.mp m).resolve_left (hid b hb).2.2.1) (hid b hb).2.1)
      ·exact R4.keep.exact (Hn K Y hidD (by simpa using Ne.symm hDC) (.head _) hD2) (.inl fun m=>Y.fsok D ((List.mem_cons.mp m).resolve_left (hidD D (.head _)).2.2.1) (hidD D (.head _)).2.1)
     refine nY ?_;clear nY
     refine wpAny_mono (hb ⟨fun _=>ok.handled hf,ok.room,ok.units,ok.stk.more fun L m=> .tail _ m,nofun,fun _ _ _ q=>q⟩ YP R3 q3) (fun okb s₄ h₄=>?_) fun _ _ e=>e
     refine Aa fun nY=>?_
     cases okb with
     | false=>
       refine nY ?_;clear nY
       simp only[Bool.false_eq_true,if_false]at h₄ ⊢
       refine Aa fun nY=>?_
       obtain⟨H4,R4,q4⟩:=h₄
       obtain⟨f1,f2,f3,f4,f5,f6,f7⟩:=fin R4
       refine nY ?_;clear nY
       exact⟨its.length-(i+1)+1,(Aew hlt),i+1,H4,acc,items,ρt',nn,f1,f2,f3,f4,f5,f6,hacc,(Nat.le_succ_of_le hai),f7,hl',by rw[hd'];exact q4,hlt,rfl⟩
     | true=>
       refine nY ?_;clear nY
       simp only[if_true]at h₄ ⊢
       refine wpAny_mono h₄ (fun u s₅ h₅=>?_) fun _ _ e=>e
       refine Aa fun nY=>?_
       obtain⟨a,H4,hv,R4,q4⟩:=h₅
       obtain⟨f1,f2,f3,f4,f5,f6,f7⟩:=fin R4
       refine nY ?_;clear nY
       have hsz:items.length<=sizeLine:=by rw[<-hacc.length];exact Nat.le_trans hai (Nat.le_trans hi (Nat.le_trans hz C0))
       refine call_meets F.slot_list_append ⟨_,f6,rfl⟩ F.entry_list_append (F.args_list_append_2 _ _) (list_append _ items.toArray nn u (by simpa using hsz)) ⟨f6,?_⟩
       have hsame:Heap.SameBut D s₅.heap (s₅.heap.update D (Obj.mapSeq (·.push u))):=Heap.SameBut.update ..
       refine Aa fun nY=>?_
       obtain⟨d1,d2,d3,d4⟩:=f4 D (.head _)
       refine nY ?_;clear nY
       have R6:=f1.swap s₅.toks hsame d1 d2 d3 fun x e=>by obtain⟨p,hp,hp2⟩:=Bk e;exact d4 p hp hp2
       have hD6:∃n',(s₅.heap.update D (Obj.mapSeq (·.push u))).get? D=some {cls:= .type "list",data:= .seq (items ++ [u]).toArray n'}:=
        ⟨_,(Heap.get?_update_self _ f6 rfl).trans (by simp only[Obj.mapSeq,List.push_toArray];rfl)⟩
       obtain⟨n',hD6⟩:=hD6
       refine⟨its.length-(i+1)+1,(Aew hlt),i+1,H4,acc ++ [a],items ++ [u],ρt',n',R6,f2,f3,f4,?_,hD6,hacc.append (.cons hv .nil),by simp;exact hai,?_,hl',by rw[hd'];exact q4,hlt,rfl⟩
       ·exact S.frame _ _ _ f5 fun b hb o e=>(hsame.2 b (fun z=>hDhs (z▸hb))).trans e
       ·exact f7.at fun o e=>(hsame.2 C (Ne.symm hDC)).trans e
  ·simp[List.getElem?_replicate]at e2
 exact codeAny_compStart_list (Df _ rfl) (S.self (S.frame 0 _ _ st fun b _ o e=>old b o e) (Df _ rfl))
end Mine.Internal
namespace Mine.Internal
open PySem PySem.W PyProof.Rows
variable {W:Wd} {G:Aw} {A:Around} {h₀:HB} {env:Env} {c:Cx} {names:List Str} {H H':AH} {ρ ρ' ρt:Ak} {s s':Shared} {E:Value->Shared->Prop} {n:Nat} {Q:Ah} {sc:Scope} {ts:List Str} {C:Addr} {Er:EP}
theorem Rs(K:C7 c sc ts)(hf:c.hnd=false){elt target iter:Expr}{ifs:List Expr}{pos pos':Pos}{x:X}{body:Ak->AH->(Option V->AH->Prop)->Prop}(ht:C6 target=some ts)(hsrc:SS W G n c iter x (L5 target))(hb:SB W G n (Ev c sc ts) ifs elt body)
 (hset:∀env v,foldedSetIterable iter env v=pure v) (ok:Rg A c h₀ env Er n) (Y:An W env c h₀) (R:A1 W h₀ env c.names H ρ s)
 (q:Ea G (Af G n) x ρ H (fun its g H=>its.length<=Bq/\Bm g (Dg ts.length) body (fun vs H=>Ay (.list vs) H Q) its [] (List.replicate ts.length none++ρ) H) Er) {use:Option (Value->Sem Unit)} {Q':Value->Shared->Prop}
 (hE:∀v s',EM W h₀ env c.names ρ Er v s'->E v s') (hfin:∀D C H' s',A1 W h₀ env c.names H' ρ s'->Ih h₀ env H' [C]->(∃m,s'.heap.Ns C m)->Q (.ref D) H'->compPost W.M A E use Q' (.ref D) C (.ok .next) s') :
 wpAny W.M A (comprehension (.ListComp elt [⟨target,iter,ifs,0⟩] sc pos) sc env pos' (newList []) false (eval iter env) use) Q' E s:=by
 refine wpAny_comprehension_free (g:=⟨target,iter,ifs,0⟩) (gs:=[]) rfl (hset env) (Ob fun p hp hq=>?_) K.kind K.locals ?_
 ·obtain⟨a,ha⟩:=Rr K Y hp hq
  rw[ha];rfl
 ·exact hsrc (target:=target) rfl ok Y R q hE fun I hs its g Obs H' s' S hid st R' q'=>Vs (G:=G) K hf ok Y R' S hid st ht q'.1 hb q'.2 (RR:=fun acc C=>compPost W.M A E use Q' acc C) hfin
theorem Nx(K:C7 c sc ts)(hf:c.hnd=false){elt target iter:Expr}{ifs:List Expr}{pos:Pos}{x:X}{body:Ak->AH->(Option V->AH->Prop)->Prop}(ht:C6 target=some ts)(hsrc:SS W G n c iter x (L5 target))(hb:SB W G n (Ev c sc ts) ifs elt body)
 (hset:∀env v,foldedSetIterable iter env v=pure v) {e:X}
 (he:∀ρ H Q E,Av G (Af G n) e ρ H Q E->Ea G (Af G n) x ρ H (fun its g H=>its.length<=Bq/\Bm g (Dg ts.length) body (fun vs H=>Ay (.list vs) H Q) its [] (List.replicate ts.length none++ρ) H) E) :
 SE W G n c (.ListComp elt [⟨target,iter,ifs,0⟩] sc pos) e:=by
 intro A env h₀ H ρ s Q E ok Y R q
 rw[eval_ListComp]
 refine Rs (use:=none) K hf ht hsrc hb hset ok Y R (he ρ H Q E q) (fun _ _ e=>e) fun D C H' s' R' hid hm q'=>?_
 refine Aa fun nY=>?_
 obtain⟨m,hm⟩:=hm
 obtain⟨c1,c2,c3,c4⟩:=hid C (.head _)
 refine nY ?_;clear nY
 exact⟨m,hm,fun h' hk=>Bv.mk (.ref D) (R'.swap s'.toks hk c1 c2 c3 fun x e=>by obtain⟨p,hp,hp2⟩:=Bk e;exact c4 p hp hp2) q'⟩
theorem Pw(K:C7 c sc ts)(hf:c.hnd=false){elt target iter:Expr}{ifs:List Expr}{pos spos py:Pos}{x:X}{y:Str}{i:Nat}{body:Ak->AH->(Option V->AH->Prop)->Prop}(ht:C6 target=some ts)(hsrc:SS W G n c iter x (L5 target))(hb:SB W G n (Ev c sc ts) ifs elt body)
 (hset:∀env v,foldedSetIterable iter env v=pure v) {e:X}
 (he:∀ρ H Q E,Av G (Af G n) e ρ H Q E->Ea G (Af G n) x ρ H (fun its g H=>its.length<=Bq/\Bm g (Dg ts.length) body (fun vs H=>Ay (.list vs) H Q) its [] (List.replicate ts.length none++ρ) H) E)
 (hi:c.own y=some i):Te W G n c (.Assign [.Name y py] (.ListComp elt [⟨target,iter,ifs,0⟩] sc pos) spos) (.assign i e):=by
 intro A env h₀ H ρ s N Rt E ok Y R q
 simp only[Jy,Cb,Bs,Jz,Ja,J0,J1,Kj,Eh,J2,J3,Dx]at q
 have hsw:∃b,swapsWith (.ListComp elt [⟨target,iter,ifs,0⟩] sc pos) (some (.Name y py)) spos.line env=pure b:=⟨_,rfl⟩
 refine Aa fun nY=>?_
 obtain⟨b,hsw⟩:=hsw
 cases b with
 | false=>
   refine nY ?_;clear nY
   refine wpAny_Assign_Name (wpAny_mono (Nx K hf ht hsrc hb hset he ok Y R q) (fun v s' r=>?_) fun _ _ e=>e.st) hsw
   refine Aa fun nY=>?_
   obtain⟨a,H',hv,R',q'⟩:=r
   refine nY ?_;clear nY
   exact wpAny_mono (Rq Y R' hi hv) (fun _ s2 R2=>⟨_,_,R2,q'⟩) fun _ _ e=>e
 | true=>
   refine nY ?_;clear nY
   rw[exec_Assign_Name_used _ _ _ _ hsw]
   refine wpAny_bind (wpAny_standAt (wpAny_bind ?_))
   refine wpAny_bind ?_
   refine wpAny_mono (Q:=fun _ s'=>Xd W h₀ env c.names N Rt .next s') ?_ (fun _ s' r=>wpAny_pure (wpAny_pure r)) fun _ _ e=>e
   refine Rs (use:=some (assign (.Name y py) env)) (Q':=fun _ s'=>Xd W h₀ env c.names N Rt .next s') K hf ht hsrc hb hset ok Y R (he ρ H _ E q) (fun _ _ e=>e.st) fun D C H' s' R' hid hm q'=>?_
   refine Aa fun nY=>?_
   obtain⟨m,hm⟩:=hm
   obtain⟨c1,c2,c3,c4⟩:=hid C (.head _)
   refine nY ?_;clear nY
   show wpAny _ A (assign (.Name y py) env (.ref D)) _ _ _
   refine wpAny_assign_Name (wpAny_mono (Rq (Y.prot R') R'.prot hi (.ref D)) (fun _ s2 R2=>?_) fun _ _ e=>e)
   refine Aa fun nY=>?_
   obtain⟨o,es,ep,h1,h2⟩:=hm
   refine nY ?_;clear nY
   refine⟨m,R2.keep.ns ⟨o,es,ep,C1 h1 c1 c3 c4,h2⟩,fun h' hk=>?_⟩
   have R3:=R'.unprot Y R2
   exact⟨_,_,R3.swap s2.toks hk c1 c2 c3 fun x e=>by obtain⟨p,hp,hp2⟩:=Bk e;exact c4 p hp hp2,q'⟩
theorem Ny{e:Expr}{t:Option Expr}{l:Nat}(h:L8 e=true):swapsWith e t l env=pure false:=by
 cases e<;>first|rfl|cases h
theorem Ym{e:Expr}{x:X}{y:Str}{i:Nat}{py pos:Pos}(h:SE W G n c e x)(hp:L8 e=true)(hi:c.own y=some i):Te W G n c (.Assign [.Name y py] e pos) (.assign i x):=by
 intro A env h₀ H ρ s N Rt E ok Y R q
 simp only[Jy,Cb,Bs,Jz,Ja,J0,J1,Kj,Eh,J2,J3,Dx]at q
 refine wpAny_Assign_Name (wpAny_mono (h ok Y R q) (fun v s' r=>?_) fun _ _ e=>e.st) (Ny hp)
 refine Aa fun nY=>?_
 obtain⟨a,H',hv,R',q'⟩:=r
 refine nY ?_;clear nY
 exact wpAny_mono (Rq Y R' hi hv) (fun _ s2 R2=>⟨_,_,R2,q'⟩) fun _ _ e=>e
theorem Yn{e o:Expr}{x:Str}{p:Pos}{l:Nat}:swapsWith e (some (.Attribute o x p)) l env=pure false:=by
 unfold swapsWith
 cases e<;>rfl
theorem Yo{e o i:Expr}{p:Pos}{l:Nat}:swapsWith e (some (.Subscript o i p)) l env=pure false:=by
 unfold swapsWith
 cases e<;>rfl
theorem Aaz{an:Str}{a:Ct}(ha:Nq an=some a):an=A9 a:=by
 delta Nq at ha
 repeat' split at ha
 all_goals first
  | (rename_i z;simp only[beq_iff_eq]at z;cases ha;exact z)
  | cases ha
theorem Vt(g:Ie W G){o e:Expr}{x y:X}{an:Str}{a:Ct}{pa pos:Pos}(h:SE W G n c e x)(ho:SE W G n c o y)(ha:Nq an=some a):Te W G n c (.Assign [.Attribute o an pa] e pos) (.setattr y a x):=by
 intro A env h₀ H ρ s N Rt E ok Y R q
 simp only[Jy,Cb,Bs,Jz,Ja,J0,J1,Kj,Eh,J2,J3,Dx]at q
 have:=Aaz ha
 subst this
 refine plainObj_wpAny_Assign_Attribute (wpAny_mono (h ok Y R q) (fun v s' r=>?_) fun _ _ e=>e.st) Yn
 refine Aa fun nY=>?_
 obtain⟨av,H',hv,R',q'⟩:=r
 refine nY ?_;clear nY
 refine wpAny_mono (ho ok Y R' q') (fun v2 s2 r=>?_) fun _ _ e=>e.st
 refine Aa fun nY=>?_
 obtain⟨ao,H2,hv2,R2,q2⟩:=r
 refine nY ?_;clear nY
 refine wpAny_mono (Qn Y g.X g.inst R2 hv2 hv q2) (fun _ s3 r=>?_) fun _ _ e=>e
 refine Aa fun nY=>?_
 obtain⟨H3,R3,q3⟩:=r
 refine nY ?_;clear nY
 exact⟨_,_,R3,q3⟩
theorem Vu{o i e:Expr}{x y z:X}{pa pos:Pos}(h:SE W G n c e x)(ho:SE W G n c o y)(hi:SE W G n c i z):Te W G n c (.Assign [.Subscript o i pa] e pos) (.setitem y z x):=by
 intro A env h₀ H ρ s N Rt E ok Y R q
 simp only[Jy,Cb,Bs,Jz,Ja,J0,J1,Kj,Eh,J2,J3,Dx]at q
 refine wpAny_Assign_Subscript (wpAny_mono (h ok Y R q) (fun v s' r=>?_) fun _ _ e=>e.st) Yo
 refine Aa fun nY=>?_
 obtain⟨av,H',hv,R',q'⟩:=r
 refine nY ?_;clear nY
 refine wpAny_mono (ho ok Y R' q') (fun v2 s2 r=>?_) fun _ _ e=>e.st
 refine Aa fun nY=>?_
 obtain⟨ao,H2,hv2,R2,q2⟩:=r
 refine nY ?_;clear nY
 refine wpAny_mono (hi ok Y R2 q2) (fun v3 s3 r=>?_) fun _ _ e=>e.st
 refine Aa fun nY=>?_
 obtain⟨ai,H3,hv3,R3,q3⟩:=r
 refine nY ?_;clear nY
 refine wpAny_mono (Qk Y R3 hv2 hv3 hv q3) (fun _ s4 r=>?_) fun _ _ e=>e
 refine Aa fun nY=>?_
 obtain⟨H4,R4,q4⟩:=r
 refine nY ?_;clear nY
 exact⟨_,_,R4,q4⟩
theorem Ade{e:Expr}{x:X}{pos:Pos}(h:SE W G n c e x)(hp:L8 e=true):Te W G n c (.Expr e pos) (.expr x):=by
 intro A env h₀ H ρ s N Rt E ok Y R q
 simp only[Jy,Cb,Bs,Jz,Ja,J0,J1,Kj,Eh,J2,J3,Dx]at q
 rw[arm_exec_Expr]
 have hi:interactive env=false:=by unfold interactive;rw[Y.kind];rfl
 refine wpAny_bind (wpAny_standAt ?_)
 simp only[hi,Bool.false_eq_true,if_false]
 refine wpAny_bind (wpAny_of_eq (Ny hp) ?_)
 simp only[Bool.false_eq_true,if_false]
 refine wpAny_bind (wpAny_mono (h ok Y R q) (fun v s' r=>?_) fun _ _ e=>e.st)
 refine Aa fun nY=>?_
 obtain⟨a,H',hv,R',q'⟩:=r
 refine nY ?_;clear nY
 exact wpAny_dropValue ⟨_,_,R',q'⟩
theorem Aht{t:Expr}{a b:List Stmt}{x:X}{xa xb:List S}{pos:Pos}(h:ST W G n c t x)(ha:Qp W G n c a xa)(hb:Qp W G n c b xb):Te W G n c (.If t a b pos) (.ite x xa xb):=by
 intro A env h₀ H ρ s N Rt E ok Y R q
 simp only[Jy,Cb,Bs,Jz,Ja,J0,J1,Kj,Eh,J2,J3,Dx]at q
 refine wpAny_If (wpAny_mono (h (Q:=fun d H=>if d then Br G (Af G n) xa ρ H N Rt E else Br G (Af G n) xb ρ H N Rt E) ok Y R q) (fun d s' r=>?_) fun _ _ e=>e.st)
 obtain⟨H',R',q'⟩:=r
 cases d with
 | true=>simp only[if_true]at q' ⊢;exact wpAny_mono (ha ok Y R' q') (fun _ _ r=>r) fun _ _ e=>False.elim e
 | false=>simp only[Bool.false_eq_true,if_false]at q' ⊢;exact wpAny_mono (hb ok Y R' q') (fun _ _ r=>r) fun _ _ e=>False.elim e
theorem Afo{e:Expr}{x:X}{pos:Pos}(h:SE W G n c e x):Te W G n c (.Return (some e) pos) (.ret x):=by
 intro A env h₀ H ρ s N Rt E ok Y R q
 simp only[Jy,Cb,Bs,Jz,Ja,J0,J1,Kj,Eh,J2,J3,Dx]at q
 refine wpAny_Return_some (wpAny_mono (h ok Y R q) (fun v s' r=>?_) fun _ _ e=>e.st)
 refine Aa fun nY=>?_
 obtain⟨a,H',hv,R',q'⟩:=r
 refine nY ?_;clear nY
 exact⟨a,H',ρ,hv,R',q'⟩
theorem Adf{pos:Pos}:Te W G n c (.Pass pos) .pass:=by
 intro A env h₀ H ρ s N Rt E ok Y R q
 simp only[Jy,Cb,Bs,Jz,Ja,J0,J1,Kj,Eh,J2,J3,Dx]at q
 exact wpAny_Pass ⟨_,_,R,q⟩
end Mine.Internal
namespace Mine.Internal
open PySem PySem.W PyProof.Rows
variable {W:Wd} {G:Aw} {c:Cx} {n:Nat} {Er:EP}
set_option backward.match.sparseCases false in
noncomputable def M1:Expr->Bool
 | .Starred .. =>false
 | .Set .. =>false
 | _=>true
structure Es(W:Wd)(G:Aw)(n:Nat)(c:Cx)(e:Expr)(x:X):Prop where
 se:SE W G n c e x
 st:ST W G n c e x
 px:M1 e=true
theorem Ho{e:Expr}(h:M1 e=true):∀v p,e≠ .Starred v p:=fun v p q=>by subst q;cases h
theorem Afp{e:Expr}(h:M1 e=true):∀env v,foldedSetIterable e env v=pure v:=fun env v=>by
 cases e<;>first|rfl|cases h
theorem Sv{e:Expr}(h:M1 e=true)(op:CmpOp):behindInMarks op e=false:=by
 cases e<;>first|rfl|cases h
theorem B5{f:Expr->Option X}(ih:∀e x,f e=some x->Es W G n c e x){es:List Expr}:∀ {xs:List X},Gg f es=some xs->Vn W G n c es xs/\NS es:=by
 induction es with
 | nil=>intro xs h;cases h;exact⟨Acw,fun e he=>by cases he⟩
 | cons e es ih2=>
   intro xs h
   obtain⟨x,hx,ys,hy,rfl⟩:=b2 (o:=f e) (o':=Gg f es) (k:=List.cons) h
   have g:=ih e x hx
   obtain⟨h1,h2⟩:=ih2 hy
   refine⟨Aac g.se h1 (Ho g.px),fun e' he'=>?_⟩
   rcases List.mem_cons.mp he' with rfl|he'
   ·exact Ho g.px
   ·exact h2 e' he'
theorem I3{f:Expr->Option X}(ih:∀e x,f e=some x->Es W G n c e x){op:BoolOp}{p:Pos}:∀ {es:List Expr} {x:X},Pc f op es=some x->SE W G n c (.BoolOp op es p) x/\ST W G n c (.BoolOp op es p) x
 | [],x,h=>by cases h
 | [e],x,h=>by
   simp only[Pc]at h
   have g:=ih e x h
   refine⟨?_,Afe g.st⟩
   intro A env h₀ H ρ s Q E ok Y R q
   exact BoolOp_one (g.se ok Y R q)
 | e::e2::es,x,h=>by
   unfold Pc at h
   cases op with
   | And=>
     obtain⟨y,hy,z,hz,rfl⟩:=b2 h
     have g:=ih e y hy
     obtain⟨h1,h2⟩:=I3 ih (p:=p) hz
     exact⟨Afc g.se h1,Afd g.st h2⟩
   | Or=>
     obtain⟨y,hy,z,hz,rfl⟩:=b2 h
     have g:=ih e y hy
     obtain⟨h1,h2⟩:=I3 ih (p:=p) hz
     exact⟨Ahm g.se h1,Ahn g.st h2⟩
theorem Lh(gd:Ie W G)(hf:c.hnd=false){f:Expr->Option X}(ih:∀e x,f e=some x->Es W G n c e x){two:Bool}{e:Expr}{x:X}(h:Zx f c two e=some x):SS W G n c e x two/\∀env v,foldedSetIterable e env v=pure v:=by
 have val:∀ {x},(do return X.val (<-f e):Option X)=some x->SS W G n c e x two/\∀env v,foldedSetIterable e env v=pure v:=by
  intro x h
  obtain⟨y,hy,rfl⟩:=b1 h
  have g:=ih e y hy
  exact⟨Afk hf g.se,Afp g.px⟩
 delta Zx at h
 refine Aa fun nY=>?_
 split at h
 ·rename_i x' args hcn
  obtain⟨p,pos,rfl⟩:=Nr hcn
  split at h
  ·rename_i q
   simp only[Bool.and_eq_true,beq_iff_eq]at q
   obtain⟨hg,rfl⟩:=q
   split at h
   ·obtain⟨ys,hy,rfl⟩:=b1 h
    obtain⟨h1,h2⟩:=B5 ih hy
    refine nY ?_;clear nY
    exact⟨Aat gd hf hg h1 h2,fun _ _=>rfl⟩
   ·cases h
  ·split at h
   ·rename_i q
    simp only[Bool.and_eq_true,beq_iff_eq]at q
    obtain⟨hg,rfl⟩:=q
    split at h
    ·rename_i a
     split at h
     ·rename_i ht
      subst ht
      obtain⟨y,hy,rfl⟩:=b1 h
      have g:=ih a y hy
      refine nY ?_;clear nY
      exact⟨Adb gd hf hg g.se (Ho g.px),fun _ _=>rfl⟩
     ·cases h
    ·cases h
   ·split at h
    ·rename_i q
     simp only[Bool.and_eq_true,beq_iff_eq]at q
     obtain⟨hg,rfl⟩:=q
     split at h
     ·rename_i a
      obtain⟨y,hy,rfl⟩:=b1 h
      have g:=ih a y hy
      refine nY ?_;clear nY
      exact⟨Afl gd hf hg g.se (Ho g.px),fun _ _=>rfl⟩
     ·cases h
    ·refine nY ?_;clear nY
     exact val h
 ·refine nY ?_;clear nY
  exact val h
theorem Li{f:Expr->Option X}(ih:∀e x,f e=some x->Es W G n c e x):∀ {e:Option Expr} {x:X},Vb f e=some x->SO W G n c e x
 | none,x,h=>by cases h;exact Ac6
 | some e,x,h=>Ac7 (ih e x h).se
theorem Aa0{x:Str}{k:Nat}(hb:Zv x k=some .len):x = "len" :=(by decide:∀p∈W2,p.2.2 = .len->p.1 = "len") (x,(k,.len)) (Pb hb) rfl
theorem Yp{x:Str}{k:Nat}(hb:Zv x k=some .list):x = "list" :=(by decide:∀p∈W2,p.2.2 = .list->p.1 = "list") (x,(k,.list)) (Pb hb) rfl
theorem Ue(gd:Ie W G)(hc:SC W G n){x:Str}{f:Expr->Option X}(ih:∀e x,f e=some x->Es W G n c e x){p pos:Pos}{args:List Expr}{y:X}(hg:c.global x=true)(h:W4 f c x args=some y):SE W G n c (.Call (.Name x p) args [] pos) y:=by
 delta W4 at h
 split at h
 ·rename_i q
  have hx:=beq_iff_eq.mp q
  subst hx
  split at h
  ·rename_i e t hta
   obtain⟨tp,rfl⟩:=Vc hta
   split at h
   ·rename_i hgt
    split at h
    ·rename_i ty ht
     obtain⟨z,hz,rfl⟩:=b1 h
     have g:=ih e z hz
     exact @Yb W G c n gd ty t p tp pos e z ht hg hgt g.se (Ho g.px)
    ·split at h
     ·rename_i ht
      have ht:=beq_iff_eq.mp ht
      subst ht
      obtain⟨z,hz,rfl⟩:=b1 h
      have g:=ih e z hz
      exact @Ac3 W G c n gd p tp pos e z hg hgt g.se (Ho g.px)
     ·cases h
   ·cases h
  ·cases h
 ·split at h
  ·split at h
   ·rename_i y hy
    obtain⟨ys,hys,rfl⟩:=b1 h
    obtain⟨h1,h2⟩:=B5 ih hys
    exact @Aah W G c n gd hc x y p pos args ys hg hy h1 h2
   ·cases h
  rename_i hnf
  have hf:c.hnd=false:=by simpa using hnf
  split at h
  ·rename_i b hb
   have plain:∀ {y},(do return X.bi b (<-Gg f args):Option X)=some y->SE W G n c (.Call (.Name x p) args [] pos) y:=by
    intro y h
    obtain⟨ys,hy,rfl⟩:=b1 h
    obtain⟨h1,h2⟩:=B5 ih hy
    exact @Ahp W G c n gd hf b x p pos args ys hb hg h1 h2
   split at h
   ·split at h
    ·rename_i a hi
     obtain⟨sp,sp',rfl,hgs⟩:=L6 hi
     obtain⟨z,hz,rfl⟩:=b1 h
     have g:=ih a z hz
     have hx:=Aa0 hb
     subst hx
     exact @Yc W G c n gd hf p sp pos sp' a z hg hgs g.se (Ho g.px)
    ·exact @plain _ h
   ·split at h
    ·rename_i as hi
     obtain⟨sp,sp',rfl,hgs⟩:=L6 hi
     split at h
     ·obtain⟨zs,hz,rfl⟩:=b1 h
      obtain⟨h1,h2⟩:=B5 ih hz
      have hx:=Yp hb
      subst hx
      exact @Su W G c n gd hf p sp pos sp' as zs hg hgs h1 h2
     ·cases h
    ·exact @plain _ h
   ·exact @plain _ h
  ·split at h
   ·cases h
   ·rename_i q
    simp only[Bool.or_eq_true,not_or,Bool.not_eq_true]at q
    obtain⟨⟨⟨q1,q2⟩,q3⟩,q4⟩:=q
    have q2':Eu x=none:=by simpa using q2
    split at h
    ·rename_i z
     have hx:=beq_iff_eq.mp z
     obtain⟨ys,hy,rfl⟩:=b1 h
     obtain⟨h1,h2⟩:=B5 ih hy
     exact @Aek W G c n gd hf hc .web x p pos args ys (.inl ⟨rfl,hx⟩) hg h1 h2
    ·split at h
     ·rename_i z
      have hx:=beq_iff_eq.mp z
      obtain⟨ys,hy,rfl⟩:=b1 h
      obtain⟨h1,h2⟩:=B5 ih hy
      exact @Aek W G c n gd hf hc .verdict x p pos args ys (.inr ⟨rfl,hx⟩) hg h1 h2
     ·obtain⟨ys,hy,rfl⟩:=b1 h
      obtain⟨h1,h2⟩:=B5 ih hy
      exact @Ac1 W G c n gd hf hc x p pos args ys hg q3 q4 q2' h1 h2
theorem Aa1{m f:Str}(h:Oi m=some f):Eu f=some (.web,m):=by
 unfold Oi at h
 repeat' split at h
 all_goals first
  | (rename_i q;have hx:=beq_iff_eq.mp q;subst hx;cases h;decide)
  | (cases h;done)
theorem Px(gd:Ie W G)(hf:c.hnd=false){r:Cx->Expr->Option X}(ih:∀c e x,r c e=some x->Es W G n c e x){elt t it:Expr}{ifs:List Expr}{a:Int}{sc:Scope}{p:Pos}{x:X}(h:Gh r c (.ListComp elt [⟨t,it,ifs,a⟩] sc p)=some x) :
 ∃(x':X) (ts:List Str) (K:C7 c sc ts) (src:X) (body:Ak->AH->(Option V->AH->Prop)->Prop),C6 t=some ts/\SS W G n c it src (L5 t)/\(∀env v,foldedSetIterable it env v=pure v)/\SB W G n (Ev c sc ts) ifs elt body/\
  (∀ρ H Q E,Av G (Af G n) x' ρ H Q E->Ea G (Af G n) src ρ H (fun its g H=>its.length<=Bq/\Bm g (Dg ts.length) body (fun vs H=>Ay (.list vs) H Q) its [] (List.replicate ts.length none++ρ) H) E)/\x=x'/\a=0:=by
 (delta Gh at h;dsimp only at h)
 refine Aa fun nY=>?_
 split at h
 ·rename_i ts hts
  split at h
  ·rename_i q
   simp only[Bool.and_eq_true,beq_iff_eq]at q
   obtain⟨rfl,hok⟩:=q
   have hsh:(∃x,ts = [x])\/(Ii fun x y=>ts = [x,y]):=by
    refine Aa fun nY=>?_
    rcases Ix hts with⟨x,_,_,rfl⟩ | ⟨x,_,y,_,_,_,_,rfl⟩
    ·refine nY ?_;clear nY
     exact .inl ⟨x,rfl⟩
    ·refine nY ?_;clear nY
     exact .inr ⟨x,y,rfl⟩
   have K:=Yj hok hsh
   split at h
   ·obtain⟨y,hy,z,hz,rfl⟩:=b2 h
    obtain⟨h1,h2⟩:=Lh gd hf (ih c) hy
    refine nY ?_;clear nY
    exact⟨_,ts,K,y,_,hts,h1,h2,Aay (ih _ _ _ hz).se,fun ρ H Q E q=>by simp only[Jb,Jc,Jd,Je,Jf,Jg,Jh,Ji,Jj,Jk,Jl,Jm,Jn,Jo,Jp,Jq,B0,Jr,Js,Jt,Ju,Jv,A4,Dr,Bi,A0,Jw,Jx,A6,Ca,A7,Bf]at q;exact q,rfl,rfl⟩
   ·obtain⟨y,hy,w,hw,z,hz,rfl⟩:=b3 h
    obtain⟨h1,h2⟩:=Lh gd hf (ih c) hy
    refine nY ?_;clear nY
    exact⟨_,ts,K,y,_,hts,h1,h2,Adc (ih _ _ _ hw).st (ih _ _ _ hz).se,fun ρ H Q E q=>by simp only[Jb,Jc,Jd,Je,Jf,Jg,Jh,Ji,Jj,Jk,Jl,Jm,Jn,Jo,Jp,Jq,B0,Jr,Js,Jt,Ju,Jv,A4,Dr,Bi,A0,Jw,Jx,A6,Ca,A7,Bf]at q;exact q,rfl,rfl⟩
   ·cases h
  ·cases h
 ·cases h
theorem Oc(gd:Ie W G)(hc:SC W G n){r:Cx->Expr->Option X}(ih:∀c e x,r c e=some x->Es W G n c e x){f:Expr}{args:List Expr}{kws:List Keyword}{p:Pos}{x:X}(hm:c.hnd=false\/Tr (.Call f args kws p)=true)(h:Gh r c (.Call f args kws p)=some x):Es W G n c (.Call f args kws p) x:=by
 have toGood:∀ {e x},M1 e=true->SE W G n c e x->(∀env whole,isTrue e env whole=(do let v <-whole;standAt e.pos;holding [v] (PySem.truthy v)))->Es W G n c e x:=fun hp hse hi=>⟨hse,hse.toST hi,hp⟩
 refine Aa fun no=>?_
 rcases kws with _ | ⟨kw,kws⟩
 ·cases f with
  | Name y p'=>
    replace h:(if c.global y=true then W4 (r c) c y args else none)=some x:=h
    split at h
    ·rename_i hg
     exact no<|toGood rfl (Ue gd hc (ih c) hg h) fun _ _=>rfl
    ·cases h
  | Attribute o m ap=>
    replace h:(if (ap.endLine==p.line&&decide (args.length<3)&&Iz o)=true then(match Oi m with
     | some g=>(r c o >>= fun y=>Gg (r c) args >>= fun z=>pure (X.meth g y z))
     | none=>(Ack m >>= fun l=>r c o >>= fun y=>Gg (r c) args >>= fun z=>pure (X.lm l y z)))else none)=some x:=h
    split at h
    ·rename_i q
     simp only[Bool.and_eq_true,decide_eq_true_eq]at q
     obtain⟨⟨q1,q2⟩,q3⟩:=q
     split at h
     ·rename_i f hfm
      obtain⟨y,hy,zs,hz,rfl⟩:=b2 h
      obtain⟨h1,h2⟩:=B5 (ih c) hz
      exact no<|toGood rfl (Ac2 gd (hm.resolve_right nofun) hc q3 q1 q2 (Aa1 hfm) (ih c _ _ hy).se h1 h2) fun _ _=>rfl
     ·obtain⟨lm,hlm,y,hy,zs,hz,rfl⟩:=b3 h
      obtain⟨h1,h2⟩:=B5 (ih c) hz
      exact no<|toGood rfl (Ahr q3 q1 q2 hlm (ih c _ _ hy).se h1 h2) fun _ _=>rfl
    ·cases h
  | _=>exact @nn _ _ _ h
 ·cases f<;>exact @nn _ _ _ h
theorem Vv(gd:Ie W G)(hc:SC W G n){r:Cx->Expr->Option X}(ih:∀c e x,r c e=some x->Es W G n c e x){e:Expr}{x:X}(hm:c.hnd=false\/Tr e=true)(h:Gh r c e=some x):Es W G n c e x:=by
 have toGood:∀ {e x},M1 e=true->SE W G n c e x->(∀env whole,isTrue e env whole=(do let v <-whole;standAt e.pos;holding [v] (PySem.truthy v)))->Es W G n c e x:=fun hp hse hi=>⟨hse,hse.toST hi,hp⟩
 cases e with
 | Constant k u p=>
   cases k<;>first|exact @nn _ _ _ h|(obtain rfl:=Option.some.inj h)
   ·exact toGood rfl Acy fun _ _=>rfl
   ·exact toGood rfl Aae fun _ _=>rfl
   ·exact toGood rfl Acz fun _ _=>rfl
   ·exact toGood rfl Ac0 fun _ _=>rfl
 | Name y p=>
   (delta Gh at h;dsimp only at h)
   split at h
   ·cases h
   ·rename_i q
    simp only[Bool.or_eq_true,not_or,Bool.not_eq_true]at q
    split at h
    ·rename_i i hs
     cases h
     exact toGood rfl (Aad hs q.1 q.2) fun _ _=>rfl
    ·split at h
     ·rename_i hg
      split at h
      ·cases h;exact toGood rfl (Acx gd hg q.1) fun _ _=>rfl
      ·cases h
     ·cases h
 | UnaryOp op e p=>
   cases op<;>first|exact @nn _ _ _ h|skip
   ·obtain⟨y,hy,rfl⟩:=b1 (o:=r c e) (k:=X.not) h
    have g:=ih c e y hy
    exact⟨Ae9 g.se,Afa g.st,rfl⟩
   ·obtain⟨y,hy,rfl⟩:=b1 (o:=r c e) (k:=X.neg) h
    have g:=ih c e y hy
    exact toGood rfl (Afb g.se) fun _ _=>rfl
 | BoolOp op es p=>
   obtain⟨h1,h2⟩:=I3 (ih c) (p:=p) (show Pc (r c) op es=some x from h)
   exact⟨h1,h2,rfl⟩
 | BinOp l op e p=>
   obtain⟨y,hy,z,hz,rfl⟩:=b2 (o:=r c l) (o':=r c e) (k:=X.bin op) h
   exact toGood rfl (Aff (ih c _ _ hy).se (ih c _ _ hz).se) fun _ _=>rfl
 | Compare l ops es p=>
   rcases ops with _ | ⟨o,_ | ⟨o',_ | ⟨o3,ops⟩⟩⟩
   ·exact @nn _ _ _ h
   ·rcases es with _ | ⟨e,_ | ⟨e',es⟩⟩
    ·exact @nn _ _ _ h
    ·obtain⟨y,hy,z,hz,rfl⟩:=b2 (o:=r c l) (o':=r c e) (k:=X.cmp o) h
     have g1:=ih c _ _ hy
     have g2:=ih c _ _ hz
     exact⟨Afg g1.se g2.se (Sv g2.px _),Afh g1.se g2.se (Sv g2.px _),rfl⟩
    ·exact @nn _ _ _ h
   ·rcases es with _ | ⟨m,_ | ⟨e,_ | ⟨e',es⟩⟩⟩
    ·exact @nn _ _ _ h
    ·exact @nn _ _ _ h
    ·obtain⟨y,hy,z,hz,w,hw,rfl⟩:=b3 (o:=r c l) (o':=r c m) (p:=r c e) (k:=fun a b d=>X.chain a o b o' d) h
     have g1:=ih c _ _ hy
     have g2:=ih c _ _ hz
     have g3:=ih c _ _ hw
     have hm:lastMarks [o,o'] [m,e]=false:=Sv g3.px o'
     exact⟨Aaf g1.se g2.se g3.se hm,Aag g1.se g2.se g3.se hm,rfl⟩
    ·exact @nn _ _ _ h
   ·exact @nn _ _ _ h
 | Attribute o a p=>
   replace h:(if Iz o=true then(r c o >>= fun y=>Nq a >>= fun z=>pure (X.attr y z))else none)=some x:=h
   split at h
   ·rename_i hb
    obtain⟨y,hy,at',ha,rfl⟩:=b2 h
    exact toGood rfl (Ac5 gd hb ha (ih c _ _ hy).se) fun _ _=>rfl
   ·cases h
 | List es p=>
   replace h:(if es.length<100 then(Gg (r c) es >>= fun y=>pure (X.list y))else none)=some x:=h
   split at h
   ·rename_i hl
    obtain⟨ys,hy,rfl⟩:=b1 h
    exact toGood rfl (Ac4 (B5 (ih c) hy).1 hl) fun _ _=>rfl
   ·cases h
 | Tuple es k p=>
   replace h:(if es.length<100 then(Gg (r c) es >>= fun y=>pure (X.tuple y))else none)=some x:=h
   split at h
   ·rename_i hl
    obtain⟨ys,hy,rfl⟩:=b1 h
    exact toGood rfl (Aal (B5 (ih c) hy).1 hl) fun _ _=>rfl
   ·cases h
 | Dict ks vs p=>
   rcases ks with _ | ⟨k,_ | ⟨k',ks⟩⟩
   ·rcases vs with _ | ⟨v,vs⟩
    ·obtain rfl:=Option.some.inj (show some (X.dict [] [])=some x from h)
     exact toGood rfl Aao fun _ _=>rfl
    ·exact @nn _ _ _ h
   ·rcases k with _|k
    ·exact @nn _ _ _ h
    ·rcases vs with _ | ⟨v,_ | ⟨v',vs⟩⟩
     ·exact @nn _ _ _ h
     ·obtain⟨y,hy,z,hz,rfl⟩:=b2 (o:=r c k) (o':=r c v) (k:=fun a b=>X.dict [a] [b]) h
      exact toGood rfl (Aap (ih c _ _ hy).se (ih c _ _ hz).se) fun _ _=>rfl
     ·exact @nn _ _ _ h
   ·rcases k with _|k<;>exact @nn _ _ _ h
 | Subscript o i p=>
   cases hi:Pn i with
   | true=>
     have e:Gh r c (.Subscript o i p)=(do return .sub (<-r c o) (<-r c i)):=by cases i<;>first|rfl|cases hi
     rw[e]at h
     obtain⟨y,hy,z,hz,rfl⟩:=b2 h
     exact toGood rfl (Afj hi (ih c _ _ hy).se (ih c _ _ hz).se) fun _ _=>rfl
   | false=>
     cases i with
     | Slice l u st p2=>
       obtain⟨y,hy,a,ha,b,hb,d,hd,rfl⟩:=b4 (o:=r c o) (o':=Vb (r c) l) (p:=Vb (r c) u) (p':=Vb (r c) st) (k:=X.slice) h
       exact toGood rfl (Aan (ih c _ _ hy).se (Li (ih c) ha) (Li (ih c) hb) (Li (ih c) hd)) fun _ _=>rfl
     | _=>cases hi
 | Call f args kws p=>exact Oc gd hc (fun c e x h=>ih c e x h) hm h
 | ListComp elt gens sc p=>
   rcases gens with _ | ⟨⟨t,it,ifs,a⟩,_ | ⟨g2,gs⟩⟩
   ·exact @nn _ _ _ h
   ·obtain⟨x',ts,K,src,body,ht,hsrc,hset,hb,he,rfl,rfl⟩:=Px gd (hm.resolve_right nofun) ih h
    exact toGood rfl (Nx K (hm.resolve_right nofun) ht hsrc hb hset he) fun _ _=>rfl
   ·exact @nn _ _ _ h
 | _=>exact @nn _ _ _ h
theorem Xe{a b:Bool}(q:¬(a && !b)=true):a=false\/b=true:=by cases a<;>cases b<;>simp_all
theorem On(gd:Ie W G)(hc:SC W G n):∀(k:Nat) (c:Cx) (e:Expr) (x:X),Ts k c e=some x->Es W G n c e x
 | 0,_,_,_,h=>by cases h
 | k+1,c,e,x,h=>by
   replace h:(if (c.hnd && !Tr e)=true then none else Gh (Ts k) c e)=some x:=h
   split at h
   ·cases h
   ·rename_i q
    exact Vv gd hc (On gd hc k) (Xe q) h
theorem Fe{f:Stmt->Option S}(ih:∀e x,f e=some x->Te W G n c e x){es:List Stmt}:∀ {xs:List S},Qi f es=some xs->Qp W G n c es xs:=by
 induction es with
 | nil=>intro xs h;cases h;exact Aau
 | cons e es ih2=>
   intro xs h
   cases es with
   | nil=>
     obtain⟨x,hx,rfl⟩:=b1 (o:=f e) (k:=fun x=>[x]) h
     exact Aav (ih e x hx)
   | cons e' es=>
     obtain⟨x,hx,ys,hy,rfl⟩:=b2 (o:=f e) (o':=Qi f (e'::es)) (k:=List.cons) h
     cases ys with
     | nil=>obtain⟨_,_,_,_,q⟩:=b2 (o:=f e') (o':=Qi f es) (k:=List.cons) hy;cases q
     | cons y ys=>exact Yi (ih e x hx) (ih2 hy)
end Mine.Internal
namespace Mine.Internal
open PySem PySem.W PyProof.Rows
variable {W:Wd} {G:Aw} {c:Cx} {n:Nat} {Er:EP}
theorem Sw(gd:Ie W G)(hf:c.hnd=false)(hc:SC W G n){k:Nat}{y:Str}{py pos:Pos}{e:Expr}{i:Nat}{x:X}(hi:c.own y=some i)(h:Ts k c e=some x):Te W G n c (.Assign [.Name y py] e pos) (.assign i x):=by
 cases hn:L8 e with
 | true=>intro A env h₀ H ρ s N Rt E ok Y R q;exact Ym (On gd hc k c e x h).se hn hi ok Y R q
 | false=>
   cases k with
   | zero=>cases h
   | succ k=>
     have h':Gh (Ts k) c e=some x:=by
      have z:(if (c.hnd && !Tr e)=true then none else Gh (Ts k) c e)=some x:=h
      rw[if_neg (by rw[hf];exact nofun)]at z
      exact z
     cases e with
     | ListComp elt gens sc p=>
       rcases gens with _ | ⟨⟨t,it,ifs,a⟩,_ | ⟨g2,gs⟩⟩
       ·exact @nn _ _ _ h'
       ·obtain⟨x',ts,K,src,body,ht,hsrc,hset,hb,he,rfl,rfl⟩:=Px gd hf (On gd hc k) h'
        intro A env h₀ H ρ s N Rt E ok Y R q;exact Pw K hf ht hsrc hb hset he hi ok Y R q
       ·exact @nn _ _ _ h'
     | SetComp _ _ _ _=>exact @nn _ _ _ h'
     | DictComp _ _ _ _ _=>exact @nn _ _ _ h'
     | _=>cases hn
/-! raise and try -/
theorem Aa2(gd:Ie W G)(hf:c.hnd=false){e:Option Expr}{cc:Kb}{pos:Pos}(h:Tv c e=some cc):Te W G n c (.Raise e none pos) (.raise cc):=by
 intro A env h₀ H ρ s N Rt E ok Y R q
 rw[Dx]at q
 exact False.elim q
theorem Uf(gd:Ie W G)(hc:SC W G n){k:Nat}{r:Cx->Stmt->Option S}(ih:∀c s x,r c s=some x->Te W G n c s x){s:Stmt}{x:S}(hm:c.hnd=false\/W6 s=true)(hcm:c.cmp=false)(h:Ei k r c s=some x):Te W G n c s x:=by
 have sE:=On gd hc k c
 cases s<;>try exact @nn _ _ _ h
 case Return e p=>
  cases e with
  | none=>exact @nn _ _ _ h
  | some e=>
    delta Ei at h
    (try dsimp only at h)
    obtain⟨y,hy,rfl⟩:=b1 h
    intro A env h₀ H ρ s N Rt E ok Y R q;exact Afo (sE _ _ hy).se ok Y R q
 case Assign ts e p=>
  cases ts with
  | nil=>exact @nn _ _ _ h
  | cons t ts=>
    cases ts with
    | cons t' ts=>exact @nn _ _ _ h
    | nil=>
      delta Ei at h
      dsimp only at h
      delta Tu at h
      cases t<;>try exact @nn _ _ _ h
      case Attribute o a p=>
       (try dsimp only at h)
       obtain⟨y,hy,a,ha,z,hz,rfl⟩:=b3 h
       intro A env h₀ H ρ s N Rt E ok Y R q;exact Vt gd (sE _ _ hz).se (sE _ _ hy).se ha ok Y R q
      case Subscript o i p=>
       dsimp only at h
       split at h
       ·cases h
       ·obtain⟨y,hy,a,ha,z,hz,rfl⟩:=b3 h
        intro A env h₀ H ρ s N Rt E ok Y R q;exact Vu (sE _ _ hz).se (sE _ _ hy).se (sE _ _ ha).se ok Y R q
      case Name y p=>
       (try dsimp only at h)
       obtain⟨i,hi,y,hy,rfl⟩:=b2 h
       intro A env h₀ H ρ s N Rt E ok Y R q;exact Sw gd (hm.resolve_right nofun) hc hi hy ok Y R q
 case For t it body els p=>
  cases els with
  | cons a b=>exact @nn _ _ _ h
  | nil=>
    delta Ei at h
    (try dsimp only at h)
    obtain⟨t,ht,y,hy,z,hz,rfl⟩:=b3 h
    obtain⟨h1,h2⟩:=Lh gd (hm.resolve_right nofun) sE hy
    intro A env h₀ H ρ s N Rt E ok Y R q;exact Afm (hm.resolve_right nofun) h1 ht (Fe (ih c) hz) h2 ok Y R q
 case While t body els p=>
  cases els with
  | cons a b=>exact @nn _ _ _ h
  | nil=>
    delta Ei at h
    (try dsimp only at h)
    obtain⟨y,hy,z,hz,rfl⟩:=b2 h
    intro A env h₀ H ρ s N Rt E ok Y R q;exact Aax (sE _ _ hy).st (Fe (ih c) hz) ok Y R q
 case If t a b p=>
  delta Ei at h
  (try dsimp only at h)
  obtain⟨y,hy,a,ha,z,hz,rfl⟩:=b3 h
  intro A env h₀ H ρ s N Rt E ok Y R q;exact Aht (sE _ _ hy).st (Fe (ih c) ha) (Fe (ih c) hz) ok Y R q
 case Raise e z p=>
  cases z with
  | some z=>exact @nn _ _ _ h
  | none=>
    delta Ei at h
    (try dsimp only at h)
    obtain⟨y,hy,rfl⟩:=b1 h
    intro A env h₀ H ρ s N Rt E ok Y R q;exact Aa2 gd (hm.resolve_right nofun) hy ok Y R q
 case Expr e p=>
  delta Ei at h
  dsimp only at h
  split at h
  ·rename_i hn
   obtain⟨y,hy,rfl⟩:=b1 h
   intro A env h₀ H ρ s N Rt E ok Y R q;exact Ade (sE _ _ hy).se hn ok Y R q
  ·cases h
 case Pass p=>
  cases h;intro A env h₀ H ρ s N Rt E ok Y R q;exact Adf ok Y R q
theorem Xf(gd:Ie W G)(hc:SC W G n):∀(k:Nat) (c:Cx) (s:Stmt) (x:S),erS k c s=some x->Te W G n c s x
 | 0,_,_,_,h=>by cases h
 | k+1,c,s,x,h=>by
   replace h:(if ((c.hnd && !W6 s)||c.cmp)=true then none else Ei (k+1) (erS k) c s)=some x:=h
   split at h
   ·cases h
   ·rename_i q
    have q2:¬(c.hnd && !W6 s)=true/\c.cmp=false:=by simpa using q
    exact Uf (k:=k+1) gd hc (Xf gd hc k) (Xe q2.1) q2.2 h
/-! calls of functions -/
theorem Ru{kindOf:Str->Option NameKind}{x:Str}:∀ {ns:List Str} {vs:List Value} {m:Str->Option Value},x∉ns->bindL kindOf (ns.zip vs) m x=m x
 | [],_,_,_=>rfl
 | a::ns,[],_,_=>rfl
 | a::ns,u::vs,m,h=>by
   rw[List.zip_cons_cons]
   unfold bindL
   rw[Ru (fun q=>h (.tail _ q))]
   split
   ·simp only[show x≠a from fun q=>h (by simp[q]),if_false]
   ·rfl
theorem Rv{kindOf:Str->Option NameKind}{x:Str}:∀ {ns:List Str} {vs:List Value} {m:Str->Option Value},x∉ns->bindC kindOf (ns.zip vs) m x=m x
 | [],_,_,_=>rfl
 | a::ns,[],_,_=>rfl
 | a::ns,u::vs,m,h=>by
   rw[List.zip_cons_cons]
   unfold bindC
   rw[Rv (fun q=>h (.tail _ q))]
   split
   ·rfl
   ·simp only[show x≠a from fun q=>h (by simp[q]),if_false]
theorem Yq{kindOf:Str->Option NameKind}{x:Str}{v:Value}:∀ {ns:List Str} {vs:List Value} {m:Str->Option Value},ns.Nodup->kindOf x=some .local->
 (∀i,ns.idxOf? x=some i->vs[i]? = some v->bindL kindOf (ns.zip vs) m x=some v):=by
 intro ns
 induction ns with
 | nil=>intro vs m hn hk i h;simp at h
 | cons a ns ih=>
   intro vs m hn hk i h1 h2
   obtain⟨hn1,hn2⟩:=List.nodup_cons.mp hn
   cases vs with
   | nil=>simp at h2
   | cons u vs=>
     rw[List.zip_cons_cons]
     unfold bindL
     rw[List.idxOf?_cons]at h1
     cases q:a==x with
     | true=>
       rw[q]at h1
       simp only[if_true,Option.some.injEq]at h1
       subst h1
       have hx:=beq_iff_eq.mp q
       subst hx
       simp only[List.getElem?_cons_zero,Option.some.injEq]at h2
       subst h2
       rw[if_pos hk,Ru hn1]
       simp
     | false=>
       rw[q]at h1
       simp only[Bool.false_eq_true,if_false]at h1
       obtain⟨j,hj,rfl⟩:=Option.map_eq_some_iff.mp h1
       simp only[List.getElem?_cons_succ]at h2
       exact ih hn2 hk j hj h2
theorem Yr{kindOf:Str->Option NameKind}{x:Str}{v:Value}:∀ {ns:List Str} {vs:List Value} {m:Str->Option Value},ns.Nodup->kindOf x≠some .local->
 (∀i,ns.idxOf? x=some i->vs[i]? = some v->bindC kindOf (ns.zip vs) m x=some v):=by
 intro ns
 induction ns with
 | nil=>intro vs m hn hk i h;simp at h
 | cons a ns ih=>
   intro vs m hn hk i h1 h2
   obtain⟨hn1,hn2⟩:=List.nodup_cons.mp hn
   cases vs with
   | nil=>simp at h2
   | cons u vs=>
     rw[List.zip_cons_cons]
     unfold bindC
     rw[List.idxOf?_cons]at h1
     cases q:a==x with
     | true=>
       rw[q]at h1
       simp only[if_true,Option.some.injEq]at h1
       subst h1
       have hx:=beq_iff_eq.mp q
       subst hx
       simp only[List.getElem?_cons_zero,Option.some.injEq]at h2
       subst h2
       rw[if_neg hk,Rv hn1]
       simp
     | false=>
       rw[q]at h1
       simp only[Bool.false_eq_true,if_false]at h1
       obtain⟨j,hj,rfl⟩:=Option.map_eq_some_iff.mp h1
       simp only[List.getElem?_cons_succ]at h2
       exact ih hn2 hk j hj h2
theorem Mh{β:Type}:∀ {l:List (Str×β)},(l.map (·.1)).Nodup->∀p∈l,l.lookup p.1=some p.2
 | [],_,p,hp=>by cases hp
 | (y,z)::r,h,p,hp=>by
   rw[List.map_cons,List.nodup_cons]at h
   rw[List.lookup_cons]
   rcases List.mem_cons.mp hp with rfl|hp'
   ·simp
   ·have:(p.1==y)=false:=by
     simpa using fun q:p.1=y=>h.1 (by rw[<-q];exact List.mem_map.mpr ⟨p,hp',rfl⟩)
    rw[this]
    exact Mh h.2 p hp'
theorem Sx{l:List (Str×Addr)}(h:l.Pairwise fun x y=>x.2≠y.2){p q:Str×Addr}(hp:p∈l)(hq:q∈l)(e:p.2=q.2):p=q:=by
 induction l with
 | nil=>cases hp
 | cons a l ih=>
   obtain⟨h1,h2⟩:=List.pairwise_cons.mp h
   rcases List.mem_cons.mp hp with e1|hp'
   ·rcases List.mem_cons.mp hq with e2|hq'
    ·rw[e1,e2]
    ·exact absurd (e1▸e) (h1 q hq')
   ·rcases List.mem_cons.mp hq with e2|hq'
    ·exact absurd (e2▸e).symm (h1 p hp')
    ·exact ih h2 hp' hq'
theorem Aa3{hb:Bool}{params:Arguments}{body:List Stmt}{sc:Scope}{d:Fn}(h:Aco hb params body sc=some d):Fx params=true/\sc.kind = .function/\sc.isGenerator=false/\sc.isCoroutine=false/\d.slots=(Cc params sc).length/\d.arity=params.args.length/\Qi (erS 40 ⟨Cc params sc,sc,hb,false⟩) body=some d.body:=by
 unfold Aco at h
 refine Aa fun nY=>?_
 split at h
 ·rename_i q
  simp only[Bool.and_eq_true,beq_iff_eq,Bool.not_eq_true']at q
  obtain⟨b,hb,rfl⟩:=b1 h
  refine nY ?_;clear nY
  exact⟨q.1.1.1,q.1.1.2,q.1.2,q.2,rfl,rfl,hb⟩
 ·cases h
theorem A1.back{h₀:HB}{env env':Env}{c:Cx}{names':List Str}{H H':AH}{ρ ρ':Ak}{s s':Shared}(Y:An W env c h₀)(R:A1 W h₀ env c.names H ρ s){h₁:HB}(hk:∀b o,s.heap.get? b=some o->H b=none->h₁.get? b=some o)(hf:∀b∈h₁.fs,b≠env.locals->b∈h₀.fs)(R':A1 W h₁ env' names' H' ρ' s'):A1 W h₀ env c.names H' ρ s':=by
 have noneL:H env.locals=none:=by
  cases q:H env.locals with
  | none=>rfl
  | some x=>exact absurd rfl (R.sep _ _ q).2.1
 have noneC:∀x a,env.cells.lookup x=some a->H a=none:=fun x a e=>by
  cases q:H a with
  | none=>rfl
  | some z=>exact absurd e ((R.sep _ _ q).2.2 x)
 have none0:∀b o,h₀.get? b=some o->H b=none:=fun b o e=>by
  cases q:H b with
  | none=>rfl
  | some z=>have:=(R.sep b z q).1;rw[e]at this;cases this
 refine⟨?_,?_,fun b o e=>(let ⟨o1,e1,z1⟩:=R.keep b o e;let ⟨o2,e2,z2⟩:=R'.keep b o1 (hk b o1 e1 (none0 b o e));⟨o2,e2,z1.trans (z2.imp id fun⟨⟨m,n⟩,z⟩=>⟨⟨hf b m (fun q=>by rw[q,Y.new]at e;cases e),n⟩,z⟩)⟩),R'.objs,?_,R'.gens,R'.os,R.above,R'.low⟩
 ·refine Aa fun nY=>?_
  obtain⟨m,⟨o,es,ep,h1,h2⟩,h3⟩:=R.ns
  refine nY ?_;clear nY
  exact⟨m,R'.keep.ns ⟨o,es,ep,hk _ _ h1 noneL,h2⟩,h3⟩
 ·intro x a e
  refine Aa fun nY=>?_
  obtain⟨w,⟨o,ho,hd⟩,hr⟩:=R.cell x a e
  refine nY ?_;clear nY
  exact⟨w,⟨o,R'.keep.exact (hk _ _ ho (noneC x a e)) (.inl fun m=>(by obtain⟨p,hp,hp2⟩:=Bk e;exact Y.fsok a (hf a m (Y.apart x a e)) (hp2▸Y.newc p hp))),hd⟩,hr⟩
 ·intro a o e
  refine Aa fun nY=>?_
  obtain⟨q1,q2,q3⟩:=R'.sep a o e
  refine nY ?_;clear nY
  refine⟨?_,?_,?_⟩
  ·cases q:h₀.get? a with
   | none=>rfl
   | some z=>obtain⟨z',e1,_⟩:=R.keep a z q;have:=hk a z' e1 (none0 a z q);rw[q1]at this;cases this
  ·rintro rfl
   refine Aa fun nY=>?_
   obtain⟨m,⟨o,es,ep,h1,h2⟩,h3⟩:=R.ns
   have:=hk _ _ h1 noneL;rw[q1]at this;cases this
  ·intro x hx
   refine Aa fun nY=>?_
   obtain⟨w,⟨o,ho,hd⟩,hr⟩:=R.cell x a hx
   have:=hk _ _ ho (noneC x a hx);rw[q1]at this;cases this
end Mine.Internal
namespace Mine.Internal
open PySem PySem.W PyProof.Rows
variable {W:Wd} {G:Aw} {n:Nat} {Er:EP}
theorem Vw{params:Arguments}{sc:Scope}{x:Str}{i:Nat}(h:(Cc params sc).idxOf? x=some i)(hi:i<params.args.length):(params.args.map (·.arg)).idxOf? x=some i:=by
 unfold Cc at h
 cases Classical.em (x∈params.args.map (·.arg))with
 | inl q=>rw[(Ef q).1]at h;exact h
 | inr q=>
   rw[Hm q]at h
   obtain⟨j,_,rfl⟩:=Option.map_eq_some_iff.mp h
   simp at hi
   exact(Nat.not_lt.mpr (Nat.le_add_left _ _) hi).elim
structure G1(W:Wd)(H:AH)(s:Shared):Prop where
 base:∀b o,W.b₀.get? b=some o->s.heap.get? b=some o
 objs:∀a o,H a=some o->∃ob,s.heap.get? a=some ob/\OR W o ob
 low:∀a es,H a=some (.dict es)->W.b₀.objs.size<=a
 bn:∀a o,H a=some o->W.b₀.get? a=none
 gens:s.gens = #[]
 os:s.os=W.os
 up:W.b₀.objs.size<=s.heap.objs.size
 lo:sysModules<W.b₀.objs.size
noncomputable def Ahu(W:Wd)(FS:List Addr)(H:AH)(s:Shared)(Q:Ah)(v:Value)(s':Shared):Prop:=
 (Ex6 fun(a:V) (H':AH) (env':Env) (names':List Str) (ρ':Ak) (h₁:HB)=>U1 (h₁.fs=FS) (VR W a v) (A1 W h₁ env' names' H' ρ' s') (Q a H') (∀b o,s.heap.get? b=some o->H b=none->h₁.get? b=some o))
noncomputable def Ahv(_:Wd)(_:List Addr)(_:AH)(_:Shared)(_:EP)(_:Value)(_:Shared):Prop:=False
theorem Rw(g:Ie W G)(hc:SC W G n){A:Around}{H:AH}{s:Shared}{Q:Ah}{E:EP}{f:Str}{fa:Addr}{vs:List V}{us:List Value}(hh:L7 f=false->A.handled=none)(hroom:A.depth+4*(n+1)+2<recursionLimit)(hunits:A.units+30*(n+1)+40<cLine)
 (FS:List Addr) (hFS:∀L∈FS,H L=none/\W.b₀.get? L=none/\∃o,s.heap.get? L=some o/\∀vs,o.data≠ .fields vs) (stk:Stk A FS) (B:G1 W H s) (hfa:Fd W f=some fa) (hv:Dj W vs us) (q:Af G (n+1) f vs H Q E) :
 codeAny W.M A (.call (.ref fa) ⟨us,[]⟩) (fun r s'=>match r with | .ok (.ret v)=>Ahu W FS H s Q v s' | .ok _=>False | .error e=>Ahv W FS H s E e s') s:=by
 unfold Af at q
 refine Aa fun nY=>?_
 split at q
 ·rename_i d hd
  obtain⟨fa',h1,name,qual,params,body,scope,doc,pm,cdv,ct,oc,an,od,osl,F⟩:=g.fn f d hd
  rw[hfa]at h1
  cases h1
  obtain⟨p1,p2,p3,p4,p5,p6,p7⟩:=Aa3 F.er
  obtain⟨har,q⟩:=q
  have X:W.K.In s.heap:=fun a o e=>B.base a o (g.X a o e)
  have hlen:params.args.length=us.length:=by rw[<-p6,har,hv.length]
  refine nY ?_;clear nY
  refine codeAny_call_function (fd:=fnOf name qual params body scope .none .none doc pm an cdv ct) (body:=body) (Nat.lt_of_le_of_lt (Nat.le_trans (Nat.le_add_right _ _) (Nat.le_add_right _ _)) hroom) (X _ _ F.at_) rfl p4 p3 rfl (codeRec_of X F.code) ?_
  rw[Vo (fd:=fnOf name qual params body scope .none .none doc pm an cdv ct) p1 rfl hlen F.nodup]
  refine wpAny_pure ?_
  refine wpAny_newFunctionEnv_cells p2 (fun x hx=>?_) fun env' he' s₂ I=>?_
  ·have hx':x.1∈params.args.map (·.arg):=(List.of_mem_zip (a:=x.1) (b:=x.2) hx).1
   refine Aa fun nY=>?_
   rcases F.kinds x.1 hx' with h|h
   ·refine nY ?_;clear nY
    exact .inl h
   ·refine nY ?_;clear nY
    exact .inr ⟨h,cellsFrom_some _ _ _ (.inl h)⟩
  ·refine Aa fun nY=>?_
   obtain⟨pp,loose,mg,mb,T⟩:=g.top
   obtain⟨h2,tk2,es2⟩:=I.toInCall.same
   have keep2:=I.toInCall.keep
   refine nY ?_;clear nY
   have hL:env'.locals=s.heap.objs.size:=by rw[he'];rfl
   have hcells:env'.cells=cellsFrom (s.heap.objs.size+1) scope.names []:=by rw[he'];rfl
   have hkindOf:∀x,env'.kindOf x=scope.names.lookup x:=fun x=>by rw[he'];rfl
   have hkeysnd:(env'.cells.map (·.1)).Nodup:=by
    rw[hcells,cellsFrom_names scope.names (s.heap.objs.size+1) 0 [] [] rfl];exact F.cells
   refine⟨T.nolimit.keeps fun b o e=>keep2 b o (B.base b o e),codeAny_func ?_⟩
   have hlow:∀b o,s.heap.get? b=some o->b≠env'.locals/\∀p∈env'.cells,p.2≠b:=fun b o e=>by
    have hlt:=Heap.lt_size e
    refine⟨by rw[hL];exact Nat.ne_of_lt hlt,fun p hp q=>?_⟩
    have:=I.above p.1 p.2 hp
    rw[hL,q]at this
    exact Nat.lt_asymm this hlt
   have hprot:∀b o,s.heap.get? b=some o->H b=none->(Mine.Internal.prot env' FS H s₂.heap).get? b=some o:=fun b o e hb=>C1 (keep2 b o e) hb (hlow b o e).1 (hlow b o e).2
   have Y':An W env' ⟨Cc params scope,scope,L7 f,false⟩ (Mine.Internal.prot env' FS H s₂.heap):=by
    refine⟨by rw[he'];exact p2,by rw[he'];rfl,by rw[he'];rfl,fun x k e _=>(hkindOf x).trans e,fun x e=>absurd rfl (F.nofree _ (Bc e)),?_,?_,?_,?_,Da (.inr (.inl rfl)),(fun L m q=>by obtain⟨z,_,o,e,_⟩:=hFS L m;rw[hprot L o e z]at q;cases q),(fun L m=>by obtain⟨z,z2,o,e,z3⟩:=hFS L m;refine⟨z2,fun o' e'=>?_⟩;have e2:=F0 e';rw[keep2 L o e]at e2;cases e2;exact z3),fun p hp=>Da (.inr (.inr ⟨p,hp,rfl⟩)),Mh hkeysnd,B.lo⟩
    ·intro x e
     rw[hkindOf]at e
     refine Aa fun nY=>?_
     rcases e with e|e
     ·have:=cellsFrom_some (x:=x) scope.names (s.heap.objs.size+1) [] (.inl e)
      rw[<-hcells]at this
      refine nY ?_;clear nY
      exact Option.isSome_iff_exists.mp this
     ·exact absurd rfl (F.nofree _ (Bc e))
    ·intro x a e q
     have:=I.above x a (Bc e)
     rw[q]at this
     exact Nat.lt_irrefl _ this
    ·intro x y a e1 e2
     have:=Sx I.apart (Bc e1) (Bc e2) rfl
     exact congrArg Prod.fst this
    ·intro b o e
     refine hprot b o (B.base b o e) ?_
     cases q:H b with
     | none=>rfl
     | some z=>have:=B.bn b z q;rw[e]at this;cases this
   have R':A1 W (Mine.Internal.prot env' FS H s₂.heap) env' (Cc params scope) H (vs.map some++List.replicate (d.slots-d.arity) none) s₂:=by
    have key:∀x i v,(Cc params scope).idxOf? x=some i->(vs.map some++List.replicate (d.slots-d.arity) none)[i]? = some (some v)->(Q9 fun u=>E6 ((params.args.map (·.arg)).idxOf? x=some i) (us[i]? = some u) (VR W v u)):=by
     intro x i v e1 e2
     have hi:i<vs.length:=by
      refine Aa fun nY=>?_
      cases Nat.lt_or_ge i vs.length with
      | inl h=>(refine nY ?_;clear nY;exact h)
      | inr h=>
        rw[List.getElem?_append_right (by simpa using h)]at e2
        obtain⟨_,z⟩:=List.getElem?_eq_some_iff.mp e2
        simp at z
     rw[List.getElem?_append_left (by simpa using hi),List.getElem?_map]at e2
     refine Aa fun nY=>?_
     obtain⟨v',h1,h2⟩:=Option.map_eq_some_iff.mp e2
     cases h2
     obtain⟨u,h3,h4⟩:=hv.get i h1
     refine nY ?_;clear nY
     exact⟨u,Vw e1 (Nat.lt_of_lt_of_eq hi (har.symm.trans p6)),h3,h4⟩
    refine⟨⟨_,I.toInCall.ns,?_⟩,?_,.of fun _ _ e=>F0 e,?_,?_,?_,?_,by rw[hL];exact B.up,B.low⟩
    ·intro x i v e1 e2 e3
     refine Aa fun nY=>?_
     obtain⟨u,h1,h2,h3⟩:=key x i v e1 e3
     refine nY ?_;clear nY
     exact⟨u,Yq F.nodup e2 i h1 h2,h3⟩
    ·intro x a e
     refine⟨_,I.cell x a e,fun i v e1 e2 e3=>?_⟩
     refine Aa fun nY=>?_
     obtain⟨u,h1,h2,h3⟩:=key x i v e1 e3
     refine nY ?_;clear nY
     exact⟨u,Yr F.nodup (by rcases e2 with e2|e2<;>rw[e2]<;>simp) i h1 h2,h3⟩
    ·intro a o e
     refine Aa fun nY=>?_
     obtain⟨ob,g1,g2⟩:=B.objs a o e
     refine nY ?_;clear nY
     exact⟨ob,keep2 _ _ g1,g2⟩
    ·intro a o e
     refine Aa fun nY=>?_
     obtain⟨ob,g1,g2⟩:=B.objs a o e
     refine nY ?_;clear nY
     exact⟨Da (.inl ⟨o,e⟩),(hlow a ob g1).1,fun x q=>by obtain⟨p,hp,hp2⟩:=Bk q;exact(hlow a ob g1).2 p hp hp2⟩
    ·rw[es2];exact B.gens
    ·rw[es2];exact B.os
   have hframe:env'.frame=some env'.locals:=by rw[he'];rfl
   have hkind:env'.scope.kind≠ .module:=by rw[he'];show scope.kind≠_;rw[p2];nofun
   have ok':Rg (A.deeper env') ⟨Cc params scope,scope,L7 f,false⟩ (Mine.Internal.prot env' FS H s₂.heap) env' E n:=by
    refine Aa fun nY=>?_
    obtain⟨l,hl,hl2⟩:=stk
    refine nY ?_;clear nY
    refine⟨hh,by show A.depth+1+4*n+4<_;exact Aj0 hroom,by show A.units+3+30*n+60<_;exact Aj1 hunits,⟨env'::l,Around.frames_deeper hl,fun x m=>?_⟩,fun _=>⟨l,Around.frames_deeper hl,hframe⟩,nofun⟩
    refine Aa fun nY=>?_
    rcases List.mem_cons.mp m with rfl|m
    ·refine nY ?_;clear nY
     exact⟨hkind,_,hframe,.head _⟩
    ·obtain⟨a,L,b,d⟩:=hl2 x m
     refine nY ?_;clear nY
     exact⟨a,L,b,.tail _ d⟩
   have hb:Qp W G n ⟨Cc params scope,scope,L7 f,false⟩ body d.body:=Fe (fun s x h=>Xf g hc 40 _ s x h) p7
   refine wpAny_mono (hb ok' Y' R' q) (fun fl s' r=>?_) fun v s' x=>?_
   rotate_left
   ·exact False.elim x
   refine Aa fun nY=>?_
   cases fl with
   | next=>
     obtain⟨ρ',H',R3,q3⟩:=r
     refine nY ?_;clear nY
     exact⟨.none,H',env',_,ρ',_,rfl,.none,R3,q3,hprot⟩
   | ret v=>
     obtain⟨a,H',ρ',hv',R3,q3⟩:=r
     refine nY ?_;clear nY
     exact⟨a,H',env',_,ρ',_,rfl,hv',R3,q3,hprot⟩
   | brk=>exact r.elim
   | cont=>exact r.elim
 ·exact q.elim
theorem A1.frames{env:Env}{c:Cx}{h₀:HB}{names:List Str}{H:AH}{ρ:Ak}{s:Shared}(R:A1 W h₀ env names H ρ s)(Y:An W env c h₀):∀L∈env.locals::h₀.fs,H L=none/\W.b₀.get? L=none/\∃o,s.heap.get? L=some o/\∀vs,o.data≠ .fields vs:=fun L m=>by
 rcases List.mem_cons.mp m with rfl|m
 ·refine⟨?_,Rf R.above,?_⟩
  ·cases q:H env.locals with
   | none=>rfl
   | some x=>exact absurd rfl (R.sep _ _ q).2.1
  ·obtain⟨_,⟨o,_,_,h,h2,_⟩,_⟩:=R.ns
   exact⟨o,h,fun vs q=>by rw[h2]at q;cases q⟩
 ·refine⟨?_,(Y.fsd L m).1,R.fsd Y m⟩
  cases z:H L with
  | none=>rfl
  | some x=>exact absurd (R.sep L x z).1 (Y.fsok L m)
theorem Vx(g:Ie W G)(hc:SC W G n):SC W G (n+1):=by
 intro A env c h₀ H ρ s Q E f fa vs us hh hroom hunits stk Y R hfa hv q
 refine codeAny_mono (Rw (E:=E) g hc hh hroom hunits (env.locals::h₀.fs) (R.frames Y) stk ⟨R.keepB Y,R.objs,R.low,(fun a o e=>by cases z:W.b₀.get? a with|none=>rfl|some y=>have:=(R.sep a o e).1;rw[Y.base a y z]at this;cases this),R.gens,R.os,R.up,Y.lo⟩ hfa hv q) fun r s' z=>?_
 have hff:∀ {h₁:HB},h₁.fs=env.locals::h₀.fs->∀b∈h₁.fs,b≠env.locals->b∈h₀.fs:=fun hfs b m hb=>by rw[hfs]at m;exact(List.mem_cons.mp m).resolve_left hb
 rcases r with e|(v|_|_|_)<;>first|exact False.elim z|skip
 obtain⟨a,H',env',names',ρ',h₁,hfs,hv',R3,q3,hp⟩:=z
 exact⟨a,H',hv',R.back Y hp (hff hfs) R3,q3⟩
theorem Adg(g:Ie W G):∀n,SC W G n:=by
 intro n
 induction n with
 | zero=>
   intro A env c h₀ H ρ s Q E f fa vs us hh hroom hunits stk Y R hfa hv q
   exact False.elim q
 | succ n ih=>exact Vx g ih
theorem Adh(g:Ie W G){A:Around}{s:Shared}{Q:Ah}{E:Value->Shared->Prop}{f:Str}{fa:Addr}(hh:A.handled=none)(hfr:A.frames=some [])(hroom:A.depth+4*(n+1)+2<recursionLimit)(hunits:A.units+30*(n+1)+40<cLine)
 (hb:s.heap=W.b₀) (hg:s.gens = #[]) (ho:s.os=W.os) (lo:sysModules<W.b₀.objs.size) (hfa:Fd W f=some fa) (q:Af G (n+1) f [.script W.sn] (fun _=>none) Q EF) :
 codeAny W.M A (.call (.ref fa) ⟨[.ref W.sa],[]⟩) (fun r s'=>match r with
  | .ok (.ret v)=>((Ii fun a H'=>VR W a v/\Q a H'))/\(∀b o,s.heap.get? b=some o->s'.heap.get? b=some o)/\s'.os=s.os/\s'.gens = #[]
  | .ok _=>False | .error e=>E e s') s:=by
 refine codeAny_mono (Rw (E:=EF) (H:=fun _=>none) (vs:=[.script W.sn]) (us:=[.ref W.sa]) g (Adg g n) (fun _=>hh) hroom hunits [] (fun _ m=>nomatch m) ⟨[],hfr,fun _ m=>absurd m List.not_mem_nil⟩ ⟨fun b o e=>hb▸e,(fun _ _ e=>nomatch e),(fun _ _ e=>nomatch e),(fun _ _ e=>nomatch e),hg,ho,(by rw[hb];exact Nat.le_refl _),lo⟩ hfa (.cons .script .nil) q) fun r s' z=>?_
 refine Aa fun nY=>?_
 rcases r with e|(v|_|_|_)<;>first|exact False.elim z|skip
 obtain⟨a,H',env',names',ρ',h₁,hfs,hv',R3,q3,hp⟩:=z
 refine nY ?_;clear nY
 exact⟨⟨a,H',hv',q3⟩,fun b o e=>R3.keep.exact (hp b o e rfl) (.inr (by rw[<-hb,e];nofun)),R3.os.trans ho.symm,R3.gens⟩
end Mine.Internal
namespace Mine.Internal
open PySem PySem.W PyProof.Rows
/-! the ground of a program,by a check -/
noncomputable def Xg:Kb->Str
 | .web=> "Web"
 | .verdict=> "Verdict"
 | c=>Si c
noncomputable def Ig(K:Frag)(cc:Kb):Addr:=match nsIn K mainGlobals (Xg cc)with
 | some (some (.ref a))=>a
 | _=>(match nsIn K mainGlobals "Web" with|some (some (.ref a))=>a|_=>0)
noncomputable def Afq(K:Frag)(hb:Bool)(fa:Addr):Option Fn:=match K.lookup fa with
 | some ⟨.type "function",_,.func fd,_⟩=>(match fd.body with
   | .stmts body=>if codeIn K fd.code fd.qualname&&decide ((fd.params.args.map (·.arg)).Nodup)&&(fd.params.args.map (·.arg)).all (fun x=>fd.scope.names.lookup x==some .local||fd.scope.names.lookup x==some .cell)
      && decide (((cellsFrom 0 fd.scope.names []).map (·.1)).Nodup)&&decide ((Cc fd.params fd.scope).Nodup)&&fd.scope.names.all (fun p=>p.2 != .free)&&fd.globals==mainGlobals&&fd.closure.isEmpty
      && fd.defaults == .none&&fd.kwdefaults == .none&&fd.builtins==builtinsNs then Aco hb fd.params body fd.scope else none
   | _=>none)
 | _=>none
noncomputable def Mi(K:Frag)(cl:Kb->Addr)(f:Str):Option Addr:=
 match Eu f with
 | some (cc,m)=>if nsIn K mainGlobals (Xg cc)==some (some (.ref (cl cc)))&&makesIn K (cl cc)then(match findIn K (.ref (cl cc)) m with|some (some (.ref a))=>some a|_=>none)else none
 | none=>(match nsIn K mainGlobals (Iy f)with|some (some (.ref a))=>some a|_=>none)
noncomputable def gFn(K:Frag)(cl:Kb->Addr)(f:Str):Option Fn:=(Mi K cl f).bind (Afq K (L7 f))
noncomputable def Vy(K:Frag)(x:Str):Option V:=match nsIn K mainGlobals x with
 | some (some (.int i _))=>some (.int i)
 | some (some (.str s _))=>some (.str s)
 | _=>none
noncomputable def Aa4(K:Frag)(cc:Kb):Bool:=nsIn K mainGlobals (Si cc)==some (some (.ref (Ig K cc)))&&excIn K (Ig K cc) VE "ValueError.__new__" && Sj K (W7 K (Ig K cc))
noncomputable def Od(K:Frag):Aw:=⟨gFn K (Ig K),Vy K,Aa4 K⟩
noncomputable def Vz:List Kb:=[.web,.verdict,.webError,.badWeb,.noPoint,.badText,.badOrder,.hasGap]
noncomputable def Aa5(K:Frag):Bool:=Vz.all fun a=> !Aa4 K a||Vz.all fun b=> !Aa4 K b||(W7 K (Ig K a)).contains (.ref (Ig K b))==(a==b||b == .webError)
theorem Adi{W:Wd}{hb:Bool}{fa:Addr}{d:Fn}(h:Afq W.K hb fa=some d):∃name qual params body scope doc pm cdv ct oc an od osl,Acv W hb fa d name qual params body scope doc pm cdv ct oc an od osl:=by
 delta Afq at h
 refine Aa fun nY=>?_
 split at h
 ·rename_i od fd osl e
  split at h
  ·rename_i body hb
   split at h
   ·rename_i q
    simp only[Bool.and_eq_true,decide_eq_true_eq,List.all_eq_true,Bool.or_eq_true,beq_iff_eq,bne_iff_ne,List.isEmpty_iff]at q
    obtain⟨⟨⟨⟨⟨⟨⟨⟨⟨⟨q1,q2⟩,q3⟩,q4⟩,q5⟩,q6⟩,q7⟩,q8⟩,q9⟩,q10⟩,q11⟩:=q
    obtain⟨f1,f2,f3,f4,f5,f6,f7,f8,f9,f10,f11,f12,f13,f14,f15⟩:=fd
    simp only at hb q1 q2 q3 q4 q5 q6 q7 q8 q9 q10 q11 h
    subst hb q7 q8 q9 q10 q11
    refine nY ?_;clear nY
    exact⟨f1,f2,f3,body,f5,_,_,_,_,_,_,_,_,⟨e,rfl,q1,h,q2,q3,q4,q5,q6⟩⟩
   ·cases h
  ·cases h
 ·cases h
theorem Ug{W:Wd}(hcl:W.cl=Ig W.K){f:Str}{fa:Addr}(h:Mi W.K (Ig W.K) f=some fa):Fd W f=some fa:=by
 delta Mi at h
 delta Fd
 rw[hcl]
 split at h
 ·rename_i cc m e
  try rw[e]
  split at h
  ·exact h
  ·cases h
 ·rename_i e
  try rw[e]
  exact h
noncomputable def Mj(K:Frag):Bool:=
 Sp K (Ig K .web)&&Sp K (Ig K .verdict)&&Kd.all (fun x=>nsIn K mainGlobals x==some none)&&Aa5 K
theorem Afr{W:Wd}(hcl:W.cl=Ig W.K)(hX:W.K.In W.b₀)(hT:(Ex4 fun p loose mg mb=>TopRead p loose mg mb W.b₀))(hg:Mj W.K=true):Ie W (Od W.K):=by
 unfold Mj at hg
 simp only[Bool.and_eq_true,List.all_eq_true,beq_iff_eq]at hg
 refine Aa fun nY=>?_
 obtain⟨⟨⟨h1,h2⟩,h3⟩,h4⟩:=hg
 have exq:∀cc,Aa4 W.K cc=true↔Tw W cc:=fun cc=>by
  unfold Aa4
  rw[Bool.and_eq_true,Bool.and_eq_true,beq_iff_eq,<-hcl]
  exact⟨fun h=>⟨h.1.1,h.1.2,h.2⟩,fun h=>⟨⟨h.1,h.2⟩,h.3⟩⟩
 refine nY ?_;clear nY
 have mem:∀cc:Kb,cc∈Vz:=fun cc=>by cases cc<;>decide
 refine⟨hX,hT,?_,h3,?_,?_,?_,fun cc h=>(exq cc).mp h,fun cc cc' x y=>?_,?_⟩
 rotate_left 4
 ·unfold Aa5 at h4
  have z1:=List.all_eq_true.mp h4 cc (mem cc)
  rw[(exq cc).mpr x]at z1
  have z2:=List.all_eq_true.mp z1 cc' (mem cc')
  rw[(exq cc').mpr y]at z2
  rw[hcl]
  simpa using z2
 rotate_right 4
 ·rintro cc (rfl|rfl)
  ·rw[hcl];exact Mz h1
  ·rw[hcl];exact Mz h2
 ·intro x v e
  have e':Vy W.K x=some v:=e
  delta Vy at e'
  refine Aa fun nY=>?_
  split at e'
  ·refine nY ?_;clear nY
   rename_i i t q;cases e';exact⟨_,q,.int _ _⟩
  ·refine nY ?_;clear nY
   rename_i i t q;cases e';exact⟨_,q,.str _ _⟩
  ·cases e'
 ·intro f d e
  have e':gFn W.K (Ig W.K) f=some d:=e
  unfold gFn at e'
  refine Aa fun nY=>?_
  obtain⟨fa,h4,h5⟩:=Option.bind_eq_some_iff.mp e'
  refine nY ?_;clear nY
  exact⟨fa,Ug hcl h4,Adi h5⟩
 ·intro cc hcc hs
  have hs':(gFn W.K (Ig W.K) (Du cc)).isSome=true:=hs
  refine Aa fun nY=>?_
  obtain⟨d,hd⟩:=Option.isSome_iff_exists.mp hs'
  unfold gFn at hd
  obtain⟨fa,h4,h5⟩:=Option.bind_eq_some_iff.mp hd
  delta Mi at h4
  rw[Xb hcc]at h4
  simp only at h4
  split at h4
  ·rename_i q
   simp only[Bool.and_eq_true,beq_iff_eq]at q
   refine nY ?_;clear nY
   rw[hcl]
   refine Aa fun nY=>?_
   rcases hcc with rfl|rfl
   ·refine nY ?_;clear nY
    exact⟨q.1,q.2⟩
   ·refine nY ?_;clear nY
    exact⟨q.1,q.2⟩
  ·cases h4
 ·intro f m fa ho hfa
  refine⟨?_,?_⟩
  ·have:=(Mz h1).get .many
   rw[hcl]
   exact this
  ·intro a q
   have:m∈(["__init__","need","beside","tied","ties"]:List Str):=by
    delta Eu at ho
    repeat' split at ho
    all_goals first
     | (cases ho;decide)
     | (cases ho;done)
   subst q
   cases a<;>revert this<;>decide
theorem Ys{K:Frag}{cl:Kb->Addr}{f:Str}(ho:Eu f=none)(hb:L7 f=false)(h:(Mi K cl f).isSome=true):∃a,Mi K cl f=some a/\nsIn K mainGlobals f=some (some (.ref a)):=by
 obtain⟨a,ha⟩:=Option.isSome_iff_exists.mp h
 refine⟨a,ha,?_⟩
 delta Mi at ha
 rw[ho]at ha
 simp only[Re hb]at ha
 split at ha
 ·rename_i e;cases ha;exact e
 ·cases ha
theorem Adk{prog:Program}{w:World}{K:Frag}{s₁:Shared}{p:Program}{loose:List Str}{mg mb:Str->Option Value}{fa L:Addr}{items:List Value}{nsL:List Int}{c:ClaimW}{cl:Str->Option Addr}{mean:ExcName->Option Value}{args:List WData}
 (KX:K.In s₁.heap) (T:TopRead p loose mg mb s₁.heap) (hgr:Mj K=true) (hf:(Mi K (Ig K) "law").isSome=true) (hmg:mg "law" = some (.ref fa)) (hg:s₁.gens = #[])
 (hL:s₁.heap.IsList L items.toArray) (hI:IntsAre items nsL) (hn:nsL.length<=63) (main:Af (Od K) 40 "law" [.script nsL] (fun _=>none) (fun v _=>v = .bool true) EF)
 (hr:∀cls,c.raises args cls=false) (hp:c.post args (.bool true) args=true) :
 wpAny (model prog w) callerA (call (.ref fa) [.ref L]) (fun v s'=>GoodWG c cl mean args s₁ (.ok (.ret v)) s') (fun e s'=>GoodWG c cl mean args s₁ (.error e) s') s₁:=by
 have hlen:items.length<=Bq:=by
  have:=(Gz (W:=⟨prog,w,K,Ig K,s₁.heap,s₁.os,L,nsL,⟨items,hL,hI,by
   have:∀ {vs:List Value} {ns:List Int},IntsAre vs ns->vs.length=ns.length:=by
    intro vs ns h;induction h with
    | nil=>rfl
    | cons _ _ _ ih=>simp[ih]
   rw[this hI];simp only[Bq];exact(Nat.le_trans hn (by decide))⟩⟩) hI).length
  simp only[List.length_map]at this
  rw[<-this];simp only[Bq];exact Nat.le_trans hn (by decide)
 let W:Wd:=⟨prog,w,K,Ig K,s₁.heap,s₁.os,L,nsL,⟨items,hL,hI,hlen⟩⟩
 refine Aa fun nY=>?_
 obtain⟨a,h1,h2⟩:=Ys (K:=K) (cl:=Ig K) (f:= "law") (by decide) (by decide) hf
 have h3:=mg_of KX T.g h2
 rw[hmg]at h3
 cases h3
 have gd:Ie W (Od K):=Afr (W:=W) rfl KX ⟨p,loose,mg,mb,T⟩ hgr
 refine nY ?_;clear nY
 refine wpAny_call (codeAny_mono (Adh (W:=W) (G:=Od K) (n:=39) (E:=fun _ _=>False) (f:= "law") gd rfl rfl (by decide) (by decide) rfl hg rfl (modules_low T.nolimit) (Ug (W:=W) rfl h1) main) fun r s' z=>?_)
 refine Aa fun nY=>?_
 rcases r with e|(v|_|_|_)<;>first|exact z.elim|skip
 obtain⟨⟨av,H',hv,q⟩,hk,ho,hgn⟩:=z
 subst q
 cases hv
 refine nY ?_;clear nY
 exact GoodW.toG ⟨.inl ⟨.bool true,.bool true,[],rfl,hr,.bool true,hp,fun _=>⟨List.nodup_nil,fun _ h=>by cases h⟩⟩,hk,ho,hgn⟩
end Mine.Internal
namespace Mine.Internal.Cl
open PySem
set_option linter.all false
variable {G:Aw} {n:Nat} {H:AH} {Q:Ah} {E:EP} {C:CS} {ρ:Ak} {N:Ak->AH->Prop} {R:Ah}
theorem Bl{b:Bool}{Q:Bool->Prop}:truthy (.bool b) Q=Q b:=rfl
theorem Qg{i j:Int}:Bg .Lt (.int i) (.int j) H Q=Q (.bool (decide (i<j))) H:=rfl
theorem Jbb{i j:Int}:Bg .LtE (.int i) (.int j) H Q=Q (.bool (decide (i<=j))) H:=rfl
theorem Zi{i j:Int}:Bg .Gt (.int i) (.int j) H Q=Q (.bool (decide (j<i))) H:=rfl
theorem Jbd{i j:Int}:Bg .GtE (.int i) (.int j) H Q=Q (.bool (decide (j<=i))) H:=rfl
theorem Qq{i j:Int}:Bg .Eq (.int i) (.int j) H Q=Q (.bool (decide (i=j))) H:=rfl
theorem Zj{i j:Int}:Bg .NotEq (.int i) (.int j) H Q=Q (.bool (!decide (i=j))) H:=rfl
theorem Jbh{i j:Bool}:Bg .NotEq (.bool i) (.bool j) H Q=Q (.bool (!(i==j))) H:=rfl
theorem Jbi:Bg .Is .none .none H Q=Q (.bool true) H:=rfl
theorem Jbj{a}:Bg .Is (.ref a) .none H Q=Q (.bool false) H:=rfl
theorem Jbk:Bg .IsNot .none .none H Q=Q (.bool false) H:=rfl
theorem Jbl{a}:Bg .IsNot (.ref a) .none H Q=Q (.bool true) H:=rfl
theorem J8{i j:Int}:Et .Add (.int i) (.int j) H Q=Q (.int (i+j)) H:=rfl
theorem J9{i j:Int}:Et .Sub (.int i) (.int j) H Q=Q (.int (i-j)) H:=rfl
theorem Aa7{i j:Int}:Et .Mult (.int i) (.int j) H Q=((i.natAbs<2 ^ 64\/j.natAbs<2 ^ 64)/\Q (.int (i*j)) H):=rfl
theorem J6{i j:Int}(h:0<j)(h':j<=10 ^ 30):Et .Mod (.int i) (.int j) H Q=Q (.int (i%j)) H:=by
 show ((j≠0/\j.natAbs<=10 ^ 30)/\Q (.int (i.fmod j)) H)=_
 rw[Int.fmod_eq_emod_of_nonneg _ (Q0 h)]
 exact propext ⟨fun h=>h.2,fun q=>⟨⟨(Int.ne_of_gt h),(Q2 h h')⟩,q⟩⟩
theorem V0{i j:Int}(h:0<j)(h':j<=10 ^ 30)(kk:Q (.int (i%j)) H):Et .Mod (.int i) (.int j) H Q:=Eq.mpr (J6 h h') kk
theorem J7{i j:Int}(h:0<j)(h':j<=10 ^ 30):Et .FloorDiv (.int i) (.int j) H Q=Q (.int (i/j)) H:=by
 show ((j≠0/\j.natAbs<=10 ^ 30)/\Q (.int (i.fdiv j)) H)=_
 rw[Int.fdiv_eq_ediv_of_nonneg _ (Q0 h)]
 exact propext ⟨fun h=>h.2,fun q=>⟨⟨(Int.ne_of_gt h),(Q2 h h')⟩,q⟩⟩
theorem Ahx{i j:Int}:Et .Pow (.int i) (.int j) H Q=((0<=j/\j<=1000/\i.natAbs<2 ^ 64)/\Q (.int (i ^ j.toNat)) H):=rfl
theorem Jbp{ns:List Int}:C9 .len [.script ns] H Q=Q (.int ns.length) H:=rfl
theorem Jbn{i j:Int}:C9 .max [.int i,.int j] H Q=Q (.int (max i j)) H:=rfl
theorem Jbo{i j:Int}:C9 .min [.int i,.int j] H Q=Q (.int (min i j)) H:=rfl
theorem J4:Dg 1 = .one 0:=rfl
theorem J5:Dg 2 = .two 0 1:=rfl
theorem Jbs{i:Int}(h0: -1048576<=i)(h1:i<=1048576):C9 .listRange [.int i] H Q=Ay (.list ((List.range i.toNat).map fun(i:Nat)=>V.int i)) H Q:=
 propext ⟨fun h=>h.2,fun h=>⟨⟨h0,h1⟩,h⟩⟩
theorem Qr{i:Int}(h0: -1048576<=i)(h1:i<=1048576)(kk:Ay (.list ((List.range i.toNat).map fun(i:Nat)=>V.int i)) H Q):C9 .listRange [.int i] H Q:=Eq.mpr (Jbs h0 h1) kk
theorem Jbt{i j:Int}(h0:0<=i)(h1:i<=1048576)(h2: -1048576<=j)(h3:j<=1048576):C9 .listRange [.int i,.int j] H Q=Ay (.list ((List.range (j-i).toNat).map fun(k:Nat)=>V.int (i+k))) H Q:=
 propext ⟨fun h=>h.2,fun h=>⟨⟨h0,h1,h2,h3⟩,h⟩⟩
theorem Oo{i:Int}{K:List It->(AH->Prop)->AH->Prop}(h0: -1048576<=i)(h1:i<=1048576):E1 [.int i] H K=K ((List.range i.toNat).map fun(i:Nat)=> .v (.int i)) (fun _=>True) H:=
 propext ⟨fun h=>h.2,fun h=>⟨⟨h0,h1⟩,h⟩⟩
theorem Db{i:Int}{K:List It->(AH->Prop)->AH->Prop}(h0: -1048576<=i)(h1:i<=1048576)(kk:K ((List.range i.toNat).map fun(i:Nat)=> .v (.int i)) (fun _=>True) H):E1 [.int i] H K:=Eq.mpr (Oo h0 h1) kk
theorem Jbr{i j:Int}{K:List It->(AH->Prop)->AH->Prop}(h0:0<=i)(h1:i<=1048576)(h2: -1048576<=j)(h3:j<=1048576):E1 [.int i,.int j] H K=K ((List.range (j-i).toNat).map fun(k:Nat)=> .v (.int (i+k))) (fun _=>True) H:=
 propext ⟨fun h=>h.2,fun h=>⟨⟨h0,h1,h2,h3⟩,h⟩⟩
theorem A8{a:Nat}{xs:List V}(h:H a=some (.list xs)):C9 .len [.ref a] H Q=Q (.int xs.length) H:=by delta C9;dsimp only;(first|delta Nb|delta Ik|delta G7|delta Nc|delta U6|delta G8);(try dsimp only[A2,Ax,U3,Na,Ti]);rw[h];(try dsimp only[F8,U2])
theorem Xh{a:Nat}{xs:List V}(h:H a=some (.list xs))(kk:Q (.int xs.length) H):C9 .len [.ref a] H Q:=Eq.mpr (A8 h) kk
theorem Al{a:Nat}{xs:List V}{k:Int}{x:V}(h:H a=some (.list xs))(h0:0<=k)(hx:xs[k.toNat]? = some x):B9 (.ref a) (.int k) H Q=Q x H:=by
 have hlt:=(List.getElem?_eq_some_iff.mp hx).1
 have:Dd k xs.length=some k.toNat:=by delta Dd;rw[if_pos h0,if_pos (Q3 hlt)]
 delta B9;(try dsimp only[Ax]);rw[h];(try dsimp only);rw[this];(try dsimp only[Ey]);rw[hx]
theorem Cy{a:Nat}{xs:List V}{k:Int}{x:V}(h:H a=some (.list xs))(h0:0<=k)(hx:xs[k.toNat]? = some x)(kk:Q x H):B9 (.ref a) (.int k) H Q:=Eq.mpr (Al h h0 hx) kk
theorem Sy{a:Nat}{xs:List V}{k:Int}{x:V}(h:H a=some (.tuple xs))(h0:0<=k)(hx:xs[k.toNat]? = some x):B9 (.ref a) (.int k) H Q=Q x H:=by
 have hlt:=(List.getElem?_eq_some_iff.mp hx).1
 have:Dd k xs.length=some k.toNat:=by delta Dd;rw[if_pos h0,if_pos (Q3 hlt)]
 delta B9;(try dsimp only[Ax]);rw[h];(try dsimp only);rw[this];(try dsimp only[Ey]);rw[hx]
theorem F4{a:Nat}{xs:List V}{k:Int}{x:V}(h:H a=some (.tuple xs))(h0:0<=k)(hx:xs[k.toNat]? = some x)(kk:Q x H):B9 (.ref a) (.int k) H Q:=Eq.mpr (Sy h h0 hx) kk
theorem Cq{a:Nat}{xs:List V}{v:V}(h:H a=some (.list xs))(hl:xs.length<1048576):Gk .append (.ref a) [v] H Q=Q .none (upd H a (.list (xs ++ [v]))):=by
 delta Gk;dsimp only;(first|delta Ez|delta G9|delta Ha|delta E0|delta Dt|delta Ce);(try dsimp only[A2,Ax,U3,Na,Ti]);rw[h];(try dsimp only[F8,U2]);exact propext ⟨fun h=>h.2,fun q=>⟨hl,q⟩⟩
theorem Yt{a:Nat}{xs:List V}{v:V}(h:H a=some (.list xs))(hl:xs.length<1048576)(kk:Q .none (upd H a (.list (xs ++ [v])))):Gk .append (.ref a) [v] H Q:=Eq.mpr (Cq h hl) kk
theorem B8{a:Nat}{xs:List V}{m:LM}(h:H a=some (.list xs))(hm:m≠ .setdefault/\m≠ .split/\m≠ .join):La m (.ref a) H=True:=by
 cases m<;>first|exact absurd rfl hm.1|exact absurd rfl hm.2.1|exact absurd rfl hm.2.2|(delta La;dsimp only[A2];rw[h];exact propext ⟨fun _=>trivial,fun _=>trivial⟩)
theorem Aa8{a:Nat}{xs:List V}{K:List It->(AH->Prop)->AH->Prop}(h:H a=some (.list xs)):Fm (.ref a) H K=K (xs.map .v) (fun H'=>H' a=some (.list xs)) H:=by delta Fm;(try dsimp only[A2]);rw[h]
theorem Ao{a:Nat}{xs:List V}{K:List It->(AH->Prop)->AH->Prop}(h:H a=some (.list xs))(kk:K (xs.map .v) (fun H'=>H' a=some (.list xs)) H):Fm (.ref a) H K:=Eq.mpr (Aa8 h) kk
theorem Afs{a:Nat}{xs:List V}{K:List It->(AH->Prop)->AH->Prop}(h:H a=some (.tuple xs)):Fm (.ref a) H K=K (xs.map .v) (fun H'=>H' a=some (.tuple xs)) H:=by delta Fm;(try dsimp only[A2]);rw[h]
theorem Xi{a:Nat}{xs:List V}{K:List It->(AH->Prop)->AH->Prop}(h:H a=some (.tuple xs))(kk:K (xs.map .v) (fun H'=>H' a=some (.tuple xs)) H):Fm (.ref a) H K:=Eq.mpr (Afs h) kk
theorem Adn{a:Nat}{xs:List V}{K:List It->(AH->Prop)->AH->Prop}(h:H a=some (.list xs)):Mt (.ref a) H K=K (xs.mapIdx fun i x=> .pair (.int i) x) (fun H'=>H' a=some (.list xs)) H:=by delta Mt;(try dsimp only[A2]);rw[h];rfl
theorem Aa9{a:Nat}{xs:List V}{K:List It->(AH->Prop)->AH->Prop}(h:H a=some (.list xs))(kk:K (xs.mapIdx fun i x=> .pair (.int i) x) (fun H'=>H' a=some (.list xs)) H):Mt (.ref a) H K:=Eq.mpr (Adn h) kk
theorem Aft{a:Nat}{xs:List V}{K:List It->(AH->Prop)->AH->Prop}(h:H a=some (.list xs)):Ra (.ref a) H K=K (xs.reverse.map .v) (fun H'=>H' a=some (.list xs)) H:=by delta Ra;(try dsimp only[A2]);rw[h];rfl
theorem Ado{a:Nat}{xs:List V}{K:List It->(AH->Prop)->AH->Prop}(h:H a=some (.list xs))(kk:K (xs.reverse.map .v) (fun H'=>H' a=some (.list xs)) H):Ra (.ref a) H K:=Eq.mpr (Aft h) kk
theorem Ag{α:Type}{a:α}{l:List α}:(a::l)[0]? = some a:=rfl
theorem Ai{α:Type}{a:α}{l:List α}{i:Nat}:(a::l)[i+1]? = l[i]?:=rfl
theorem Dn{α:Type}{a:α}{l m:List α}:(a::l)++m=a::(l++m):=rfl
theorem Dp{α:Type}{l:List α}:[]++l=l:=rfl
theorem Bo{α:Type}{a b:α}{l:List α}{i:Nat}:(a::l).set (i+1) b=a::l.set i b:=rfl
theorem Bp{α:Type}{a b:α}{l:List α}:(a::l).set 0 b=b::l:=rfl
theorem Cu{α:Type}{a:α}:(some a).isSome=true:=rfl
theorem Aj{f:Str}{d:Fn}{args:List V}(h:G.fn f=some d)(ha:d.arity=args.length)
 (q:Br G (Af G n) d.body (args.map some++List.replicate (d.slots-d.arity) none) H (fun _ H=>Q .none H) Q E):Af G (n+1) f args H Q E:=by
 show (match G.fn f with|some d=>_|none=>False)
 rw[h]
 exact⟨ha,q⟩
theorem Ba{t:X}{a b:List S}(c:Bool)(h:∀Q':Ah,Q' (.bool c) H->Av G C t ρ H Q' E)(q:if c then Br G C a ρ H N R E else Br G C b ρ H N R E):Ki G C (.ite t a b) ρ H N R E:=by
 refine A5 ?_
 exact h _ q
set_option linter.all false
variable {G:Aw} {n:Nat} {H H':AH} {Q:Ah} {E:EP} {C:CS} {ρ:Ak}
noncomputable def Ad(H H':AH):Prop:=∀a o,H a=some o->H' a=some o
theorem Ad.refl:Ad H H:=fun _ _ e=>e
theorem Ad.trans{H'':AH}(h:Ad H H')(h':Ad H' H''):Ad H H'':=fun a o e=>h' a o (h a o e)
theorem Ac{a:Nat}{o:O}:upd H a o a=some o:=by simp[upd]
theorem upd_ne{a b:Nat}{o:O}(h:b≠a):upd H a o b=H b:=if_neg h
theorem Ad.upd{a:Nat}{o:O}(h:H a=none):Ad H (upd H a o):=fun b o' e=>by
 rw[upd_ne];exact e
 rintro rfl;rw[h]at e;cases e
theorem Ad.isNone(h:Ad H H'){a:Nat}(e:H' a=none):H a=none:=by
 cases q:H a with
 | none=>rfl
 | some o=>rw[h a o q]at e;cases e
theorem Ad.upd'{a:Nat}{o:O}(h:Ad H H')(e:H a=none):Ad H (Mine.Internal.upd H' a o):=fun b o' q=>by
 rw[upd_ne];exact h b o' q
 rintro rfl;rw[e]at q;cases q
noncomputable def LI(H:AH)(a:Nat)(l:List Int):Prop:=H a=some (.list (l.map V.int))
theorem LI.ext{a:Nat}{l:List Int}(h:LI H a l)(e:Ad H H'):LI H' a l:=e _ _ h
noncomputable def D3(H:AH)(as:List Nat)(rows:List (List Int)):Prop:=as.length=rows.length/\∀(i x:Nat) (r:List Int),as[i]? = some x->rows[i]? = some r->LI H x r
theorem D3.ext{as:List Nat}{rows:List (List Int)}(h:D3 H as rows)(e:Ad H H'):D3 H' as rows:=⟨h.1,fun i x r h1 h2=>(h.2 i x r h1 h2).ext e⟩
theorem D3.snoc{as:List Nat}{rows:List (List Int)}{x:Nat}{r:List Int}(h:D3 H as rows)(hx:LI H x r):D3 H (as ++ [x]) (rows ++ [r]):=by
 refine⟨by simp[h.1],fun i y r' h1 h2=>?_⟩
 cases Nat.lt_or_ge i as.length with
 | inl q=>
   rw[List.getElem?_append_left q]at h1
   rw[List.getElem?_append_left (by rw[<-h.1];exact q)]at h2
   exact h.2 i y r' h1 h2
 | inr q=>
   rw[List.getElem?_append_right q]at h1
   rw[List.getElem?_append_right (by rw[<-h.1];exact q)]at h2
   have:i-as.length=0:=by
    obtain⟨z,_⟩:=List.getElem?_eq_some_iff.mp h1
    simp at z;exact z
   rw[this]at h1
   rw[<-h.1,this]at h2
   simp at h1 h2
   subst h1 h2
   exact hx
theorem I4{g:AH->Prop}{t:Tg}{body:Ak->AH->(Ak->AH->Prop)->Prop}{N:Ak->AH->Prop}(I:Nat->Ak->AH->Prop):∀ {its:List It} {k:Nat} {ρ:Ak} {H:AH},I k ρ H->
 (∀i x ρ H K,its[i]? = some x->I (k+i) ρ H->(∀ρ'' H'',I (k+i+1) ρ'' H''->K ρ'' H'')->g H/\Kh t x ρ H fun ρ'=>body ρ' H K)->(∀ρ H,I (k+its.length) ρ H->g H/\N ρ H)->Df g t body N its ρ H:=by
 intro its
 induction its with
 | nil=>intro k ρ H h0 _ fin;exact fin ρ H h0
 | cons x r ih=>
   intro k ρ H h0 step fin
   refine step 0 x ρ H _ rfl h0 fun ρ'' H'' h1=>?_
   refine ih (k:=k+1) h1 (fun i y ρ H K hy hI hK=>?_) fun ρ H hI=>?_
   ·refine step (i+1) y ρ H K hy (by rwa[show k+(i+1)=k+1+i by exact Q5]) fun ρ'' H'' h=>hK ρ'' H'' ?_
    rwa[show k+1+i+1=k+(i+1)+1 by exact Q6]
   ·exact fin ρ H (by rwa[List.length_cons,show k+(r.length+1)=k+1+r.length by exact Q5])
theorem Py{m:Nat}{a:Int}{t:Nat}{body:Ak->AH->(Ak->AH->Prop)->Prop}{N:Ak->AH->Prop}(I:Nat->Ak->AH->Prop)(h0:I 0 ρ H)
 (step:∀i ρ H K,i<m->I i ρ H->(∀ρ'' H'',I (i+1) ρ'' H''->K ρ'' H'')->body (ρ.set t (some (.int (a+i)))) H K) (fin:∀ρ H,I m ρ H->N ρ H) :
 Df (fun _=>True) (.one t) body N ((List.range m).map fun(i:Nat)=> .v (.int (a+i))) ρ H:=by
 refine I4 (k:=0) I h0 (fun i x ρ H K hx hI hK=>⟨trivial,?_⟩) fun ρ H hI=>⟨trivial,fin ρ H (by simpa using hI)⟩
 rw[List.getElem?_map]at hx
 obtain⟨j,hj,rfl⟩:=Option.map_eq_some_iff.mp hx
 obtain⟨hlt,he⟩:=List.getElem?_eq_some_iff.mp hj
 simp at hlt he
 subst he
 exact step i ρ H K hlt (by simpa using hI) fun ρ'' H'' h=>hK ρ'' H'' (by simpa using h)
theorem F5{m:Nat}{t:Nat}{body:Ak->AH->(Ak->AH->Prop)->Prop}{N:Ak->AH->Prop}(I:Nat->Ak->AH->Prop)(h0:I 0 ρ H)
 (step:∀i ρ H K,i<m->I i ρ H->(∀ρ'' H'',I (i+1) ρ'' H''->K ρ'' H'')->body (ρ.set t (some (.int i))) H K) (fin:∀ρ H,I m ρ H->N ρ H) :
 Df (fun _=>True) (.one t) body N ((List.range m).map fun(i:Nat)=> .v (.int i)) ρ H:=by
 have:=Py (a:=0) (t:=t) (body:=body) (N:=N) I h0 (fun i ρ H K hi hI hK=>by simpa using step i ρ H K hi hI hK) fin
 simpa using this
theorem Bz{α0:Type}{m:Nat}{t:Nat}{body:Ak->AH->(Ak->AH->Prop)->Prop}{N:Ak->AH->Prop}(f:Nat->α0->Ak)(T:Nat->α0->AH->Prop)(x0:α0)(hρ:ρ=f 0 x0)(h0:T 0 x0 H)(step:∀i y0 H K,i<m->T i y0 H->(∀z0 H'',T (i+1) z0 H''->K (f (i+1) z0) H'')->body ((f i y0).set t (some (.int i))) H K)(fin:∀x0 H,T m x0 H->N (f m x0) H):Df (fun _=>True) (.one t) body N ((List.range m).map fun(i:Nat)=> .v (.int i)) ρ H:=by
 refine F5 (fun i ρ H=>∃x0,ρ=f i x0/\T i x0 H) ⟨x0,hρ,h0⟩ (fun i _ H K hx h hK=>?_) fun _ H h=>?_
 ·obtain⟨y0,rfl,h⟩:=h;exact step i y0 H K hx h fun z0 H'' h'=>hK _ _ ⟨z0,rfl,h'⟩
 ·obtain⟨x0,rfl,h⟩:=h;exact fin _ _ h
theorem K6{α0 α1:Type}{m:Nat}{t:Nat}{body:Ak->AH->(Ak->AH->Prop)->Prop}{N:Ak->AH->Prop}(f:Nat->α0->α1->Ak)(T:Nat->α0->α1->AH->Prop)(x0:α0)(x1:α1)(hρ:ρ=f 0 x0 x1)(h0:T 0 x0 x1 H)(step:∀i y0 y1 H K,i<m->T i y0 y1 H->(∀z0 z1 H'',T (i+1) z0 z1 H''->K (f (i+1) z0 z1) H'')->body ((f i y0 y1).set t (some (.int i))) H K)(fin:∀x0 x1 H,T m x0 x1 H->N (f m x0 x1) H):Df (fun _=>True) (.one t) body N ((List.range m).map fun(i:Nat)=> .v (.int i)) ρ H:=
 Bz (fun i p=>f i p.1 p.2) (fun i p=>T i p.1 p.2) (x0,x1) hρ h0 (fun i p H K hx h hK=>step i p.1 p.2 H K hx h fun z0 z1 H' h'=>hK (z0,z1) H' h') fun p=>fin p.1 p.2
theorem Gi{α0 α1 α2:Type}{m:Nat}{t:Nat}{body:Ak->AH->(Ak->AH->Prop)->Prop}{N:Ak->AH->Prop}(f:Nat->α0->α1->α2->Ak)(T:Nat->α0->α1->α2->AH->Prop)(x0:α0)(x1:α1)(x2:α2)(hρ:ρ=f 0 x0 x1 x2)(h0:T 0 x0 x1 x2 H)(step:∀i y0 y1 y2 H K,i<m->T i y0 y1 y2 H->(∀z0 z1 z2 H'',T (i+1) z0 z1 z2 H''->K (f (i+1) z0 z1 z2) H'')->body ((f i y0 y1 y2).set t (some (.int i))) H K)(fin:∀x0 x1 x2 H,T m x0 x1 x2 H->N (f m x0 x1 x2) H):Df (fun _=>True) (.one t) body N ((List.range m).map fun(i:Nat)=> .v (.int i)) ρ H:=
 Bz (fun i p=>f i p.1 p.2.1 p.2.2) (fun i p=>T i p.1 p.2.1 p.2.2) (x0,x1,x2) hρ h0 (fun i p H K hx h hK=>step i p.1 p.2.1 p.2.2 H K hx h fun z0 z1 z2 H' h'=>hK (z0,z1,z2) H' h') fun p=>fin p.1 p.2.1 p.2.2
theorem Qs{α0 α1 α2 α3:Type}{m:Nat}{t:Nat}{body:Ak->AH->(Ak->AH->Prop)->Prop}{N:Ak->AH->Prop}(f:Nat->α0->α1->α2->α3->Ak)(T:Nat->α0->α1->α2->α3->AH->Prop)(x0:α0)(x1:α1)(x2:α2)(x3:α3)(hρ:ρ=f 0 x0 x1 x2 x3)(h0:T 0 x0 x1 x2 x3 H)(step:∀i y0 y1 y2 y3 H K,i<m->T i y0 y1 y2 y3 H->(∀z0 z1 z2 z3 H'',T (i+1) z0 z1 z2 z3 H''->K (f (i+1) z0 z1 z2 z3) H'')->body ((f i y0 y1 y2 y3).set t (some (.int i))) H K)(fin:∀x0 x1 x2 x3 H,T m x0 x1 x2 x3 H->N (f m x0 x1 x2 x3) H):Df (fun _=>True) (.one t) body N ((List.range m).map fun(i:Nat)=> .v (.int i)) ρ H:=
 Bz (fun i p=>f i p.1 p.2.1 p.2.2.1 p.2.2.2) (fun i p=>T i p.1 p.2.1 p.2.2.1 p.2.2.2) (x0,x1,x2,x3) hρ h0 (fun i p H K hx h hK=>step i p.1 p.2.1 p.2.2.1 p.2.2.2 H K hx h fun z0 z1 z2 z3 H' h'=>hK (z0,z1,z2,z3) H' h') fun p=>fin p.1 p.2.1 p.2.2.1 p.2.2.2
theorem Qt{α0 α1 α2 α3 α4:Type}{m:Nat}{t:Nat}{body:Ak->AH->(Ak->AH->Prop)->Prop}{N:Ak->AH->Prop}(f:Nat->α0->α1->α2->α3->α4->Ak)(T:Nat->α0->α1->α2->α3->α4->AH->Prop)(x0:α0)(x1:α1)(x2:α2)(x3:α3)(x4:α4)(hρ:ρ=f 0 x0 x1 x2 x3 x4)(h0:T 0 x0 x1 x2 x3 x4 H)(step:∀i y0 y1 y2 y3 y4 H K,i<m->T i y0 y1 y2 y3 y4 H->(∀z0 z1 z2 z3 z4 H'',T (i+1) z0 z1 z2 z3 z4 H''->K (f (i+1) z0 z1 z2 z3 z4) H'')->body ((f i y0 y1 y2 y3 y4).set t (some (.int i))) H K)(fin:∀x0 x1 x2 x3 x4 H,T m x0 x1 x2 x3 x4 H->N (f m x0 x1 x2 x3 x4) H):Df (fun _=>True) (.one t) body N ((List.range m).map fun(i:Nat)=> .v (.int i)) ρ H:=
 Bz (fun i p=>f i p.1 p.2.1 p.2.2.1 p.2.2.2.1 p.2.2.2.2) (fun i p=>T i p.1 p.2.1 p.2.2.1 p.2.2.2.1 p.2.2.2.2) (x0,x1,x2,x3,x4) hρ h0 (fun i p H K hx h hK=>step i p.1 p.2.1 p.2.2.1 p.2.2.2.1 p.2.2.2.2 H K hx h fun z0 z1 z2 z3 z4 H' h'=>hK (z0,z1,z2,z3,z4) H' h') fun p=>fin p.1 p.2.1 p.2.2.1 p.2.2.2.1 p.2.2.2.2
theorem Qu{α0 α1 α2 α3 α4 α5 α6:Type}{m:Nat}{t:Nat}{body:Ak->AH->(Ak->AH->Prop)->Prop}{N:Ak->AH->Prop}(f:Nat->α0->α1->α2->α3->α4->α5->α6->Ak)(T:Nat->α0->α1->α2->α3->α4->α5->α6->AH->Prop)(x0:α0)(x1:α1)(x2:α2)(x3:α3)(x4:α4)(x5:α5)(x6:α6)(hρ:ρ=f 0 x0 x1 x2 x3 x4 x5 x6)(h0:T 0 x0 x1 x2 x3 x4 x5 x6 H)(step:∀i y0 y1 y2 y3 y4 y5 y6 H K,i<m->T i y0 y1 y2 y3 y4 y5 y6 H->(∀z0 z1 z2 z3 z4 z5 z6 H'',T (i+1) z0 z1 z2 z3 z4 z5 z6 H''->K (f (i+1) z0 z1 z2 z3 z4 z5 z6) H'')->body ((f i y0 y1 y2 y3 y4 y5 y6).set t (some (.int i))) H K)(fin:∀x0 x1 x2 x3 x4 x5 x6 H,T m x0 x1 x2 x3 x4 x5 x6 H->N (f m x0 x1 x2 x3 x4 x5 x6) H):Df (fun _=>True) (.one t) body N ((List.range m).map fun(i:Nat)=> .v (.int i)) ρ H:=
 Bz (fun i p=>f i p.1 p.2.1 p.2.2.1 p.2.2.2.1 p.2.2.2.2.1 p.2.2.2.2.2.1 p.2.2.2.2.2.2) (fun i p=>T i p.1 p.2.1 p.2.2.1 p.2.2.2.1 p.2.2.2.2.1 p.2.2.2.2.2.1 p.2.2.2.2.2.2) (x0,x1,x2,x3,x4,x5,x6) hρ h0 (fun i p H K hx h hK=>step i p.1 p.2.1 p.2.2.1 p.2.2.2.1 p.2.2.2.2.1 p.2.2.2.2.2.1 p.2.2.2.2.2.2 H K hx h fun z0 z1 z2 z3 z4 z5 z6 H' h'=>hK (z0,z1,z2,z3,z4,z5,z6) H' h') fun p=>fin p.1 p.2.1 p.2.2.1 p.2.2.2.1 p.2.2.2.2.1 p.2.2.2.2.2.1 p.2.2.2.2.2.2
theorem Qv{α0 α1 α2 α3 α4 α5 α6 α7:Type}{m:Nat}{t:Nat}{body:Ak->AH->(Ak->AH->Prop)->Prop}{N:Ak->AH->Prop}(f:Nat->α0->α1->α2->α3->α4->α5->α6->α7->Ak)(T:Nat->α0->α1->α2->α3->α4->α5->α6->α7->AH->Prop)(x0:α0)(x1:α1)(x2:α2)(x3:α3)(x4:α4)(x5:α5)(x6:α6)(x7:α7)(hρ:ρ=f 0 x0 x1 x2 x3 x4 x5 x6 x7)(h0:T 0 x0 x1 x2 x3 x4 x5 x6 x7 H)(step:∀i y0 y1 y2 y3 y4 y5 y6 y7 H K,i<m->T i y0 y1 y2 y3 y4 y5 y6 y7 H->(∀z0 z1 z2 z3 z4 z5 z6 z7 H'',T (i+1) z0 z1 z2 z3 z4 z5 z6 z7 H''->K (f (i+1) z0 z1 z2 z3 z4 z5 z6 z7) H'')->body ((f i y0 y1 y2 y3 y4 y5 y6 y7).set t (some (.int i))) H K)(fin:∀x0 x1 x2 x3 x4 x5 x6 x7 H,T m x0 x1 x2 x3 x4 x5 x6 x7 H->N (f m x0 x1 x2 x3 x4 x5 x6 x7) H):Df (fun _=>True) (.one t) body N ((List.range m).map fun(i:Nat)=> .v (.int i)) ρ H:=
 Bz (fun i p=>f i p.1 p.2.1 p.2.2.1 p.2.2.2.1 p.2.2.2.2.1 p.2.2.2.2.2.1 p.2.2.2.2.2.2.1 p.2.2.2.2.2.2.2) (fun i p=>T i p.1 p.2.1 p.2.2.1 p.2.2.2.1 p.2.2.2.2.1 p.2.2.2.2.2.1 p.2.2.2.2.2.2.1 p.2.2.2.2.2.2.2) (x0,x1,x2,x3,x4,x5,x6,x7) hρ h0 (fun i p H K hx h hK=>step i p.1 p.2.1 p.2.2.1 p.2.2.2.1 p.2.2.2.2.1 p.2.2.2.2.2.1 p.2.2.2.2.2.2.1 p.2.2.2.2.2.2.2 H K hx h fun z0 z1 z2 z3 z4 z5 z6 z7 H' h'=>hK (z0,z1,z2,z3,z4,z5,z6,z7) H' h') fun p=>fin p.1 p.2.1 p.2.2.1 p.2.2.2.1 p.2.2.2.2.1 p.2.2.2.2.2.1 p.2.2.2.2.2.2.1 p.2.2.2.2.2.2.2
theorem M2{a:Nat}{xs:List V}{t:Nat}{body:Ak->AH->(Ak->AH->Prop)->Prop}{N:Ak->AH->Prop}(I:Nat->Ak->AH->Prop)(h0:I 0 ρ H)(hg:∀i ρ H,I i ρ H->H a=some (.list xs))
 (step:∀i x ρ H K,xs[i]? = some x->I i ρ H->(∀ρ'' H'',I (i+1) ρ'' H''->K ρ'' H'')->body (ρ.set t (some x)) H K) (fin:∀ρ H,I xs.length ρ H->N ρ H) :
 Df (fun H=>H a=some (.list xs)) (.one t) body N (xs.map .v) ρ H:=by
 refine I4 (k:=0) I h0 (fun i x ρ H K hx hI hK=>⟨hg _ _ _ hI,?_⟩) fun ρ H hI=>⟨hg _ _ _ hI,fin ρ H (by simpa using hI)⟩
 rw[List.getElem?_map]at hx
 obtain⟨j,hj,rfl⟩:=Option.map_eq_some_iff.mp hx
 exact step i j ρ H K hj (by simpa using hI) fun ρ'' H'' h=>hK ρ'' H'' (by simpa using h)
theorem B6{α0:Type}{a:Nat}{xs:List V}{t:Nat}{body:Ak->AH->(Ak->AH->Prop)->Prop}{N:Ak->AH->Prop}(f:Nat->α0->Ak)(T:Nat->α0->AH->Prop)(x0:α0)(hρ:ρ=f 0 x0)(h0:T 0 x0 H)(hg:∀i x0 H,T i x0 H->H a=some (.list xs))(step:∀i x y0 H K,xs[i]? = some x->T i y0 H->(∀z0 H'',T (i+1) z0 H''->K (f (i+1) z0) H'')->body ((f i y0).set t (some x)) H K)(fin:∀x0 H,T xs.length x0 H->N (f xs.length x0) H):Df (fun H=>H a=some (.list xs)) (.one t) body N (xs.map .v) ρ H:=by
 refine M2 (fun i ρ H=>∃x0,ρ=f i x0/\T i x0 H) ⟨x0,hρ,h0⟩ (fun i _ H h=>?_) (fun i x _ H K hx h hK=>?_) fun _ H h=>?_
 ·obtain⟨x0,_,h⟩:=h;exact hg _ _ _ h
 ·obtain⟨y0,rfl,h⟩:=h;exact step i x y0 H K hx h fun z0 H'' h'=>hK _ _ ⟨z0,rfl,h'⟩
 ·obtain⟨x0,rfl,h⟩:=h;exact fin _ _ h
theorem I5{α0 α1:Type}{a:Nat}{xs:List V}{t:Nat}{body:Ak->AH->(Ak->AH->Prop)->Prop}{N:Ak->AH->Prop}(f:Nat->α0->α1->Ak)(T:Nat->α0->α1->AH->Prop)(x0:α0)(x1:α1)(hρ:ρ=f 0 x0 x1)(h0:T 0 x0 x1 H)(hg:∀i x0 x1 H,T i x0 x1 H->H a=some (.list xs))(step:∀i x y0 y1 H K,xs[i]? = some x->T i y0 y1 H->(∀z0 z1 H'',T (i+1) z0 z1 H''->K (f (i+1) z0 z1) H'')->body ((f i y0 y1).set t (some x)) H K)(fin:∀x0 x1 H,T xs.length x0 x1 H->N (f xs.length x0 x1) H):Df (fun H=>H a=some (.list xs)) (.one t) body N (xs.map .v) ρ H:=
 B6 (fun i p=>f i p.1 p.2) (fun i p=>T i p.1 p.2) (x0,x1) hρ h0 (fun i p=>hg i p.1 p.2) (fun i x p H K hx h hK=>step i x p.1 p.2 H K hx h fun z0 z1 H' h'=>hK (z0,z1) H' h') fun p=>fin p.1 p.2
theorem F6{α0 α1 α2:Type}{a:Nat}{xs:List V}{t:Nat}{body:Ak->AH->(Ak->AH->Prop)->Prop}{N:Ak->AH->Prop}(f:Nat->α0->α1->α2->Ak)(T:Nat->α0->α1->α2->AH->Prop)(x0:α0)(x1:α1)(x2:α2)(hρ:ρ=f 0 x0 x1 x2)(h0:T 0 x0 x1 x2 H)(hg:∀i x0 x1 x2 H,T i x0 x1 x2 H->H a=some (.list xs))(step:∀i x y0 y1 y2 H K,xs[i]? = some x->T i y0 y1 y2 H->(∀z0 z1 z2 H'',T (i+1) z0 z1 z2 H''->K (f (i+1) z0 z1 z2) H'')->body ((f i y0 y1 y2).set t (some x)) H K)(fin:∀x0 x1 x2 H,T xs.length x0 x1 x2 H->N (f xs.length x0 x1 x2) H):Df (fun H=>H a=some (.list xs)) (.one t) body N (xs.map .v) ρ H:=
 B6 (fun i p=>f i p.1 p.2.1 p.2.2) (fun i p=>T i p.1 p.2.1 p.2.2) (x0,x1,x2) hρ h0 (fun i p=>hg i p.1 p.2.1 p.2.2) (fun i x p H K hx h hK=>step i x p.1 p.2.1 p.2.2 H K hx h fun z0 z1 z2 H' h'=>hK (z0,z1,z2) H' h') fun p=>fin p.1 p.2.1 p.2.2
theorem Uh{α0 α1 α2 α3:Type}{a:Nat}{xs:List V}{t:Nat}{body:Ak->AH->(Ak->AH->Prop)->Prop}{N:Ak->AH->Prop}(f:Nat->α0->α1->α2->α3->Ak)(T:Nat->α0->α1->α2->α3->AH->Prop)(x0:α0)(x1:α1)(x2:α2)(x3:α3)(hρ:ρ=f 0 x0 x1 x2 x3)(h0:T 0 x0 x1 x2 x3 H)(hg:∀i x0 x1 x2 x3 H,T i x0 x1 x2 x3 H->H a=some (.list xs))(step:∀i x y0 y1 y2 y3 H K,xs[i]? = some x->T i y0 y1 y2 y3 H->(∀z0 z1 z2 z3 H'',T (i+1) z0 z1 z2 z3 H''->K (f (i+1) z0 z1 z2 z3) H'')->body ((f i y0 y1 y2 y3).set t (some x)) H K)(fin:∀x0 x1 x2 x3 H,T xs.length x0 x1 x2 x3 H->N (f xs.length x0 x1 x2 x3) H):Df (fun H=>H a=some (.list xs)) (.one t) body N (xs.map .v) ρ H:=
 B6 (fun i p=>f i p.1 p.2.1 p.2.2.1 p.2.2.2) (fun i p=>T i p.1 p.2.1 p.2.2.1 p.2.2.2) (x0,x1,x2,x3) hρ h0 (fun i p=>hg i p.1 p.2.1 p.2.2.1 p.2.2.2) (fun i x p H K hx h hK=>step i x p.1 p.2.1 p.2.2.1 p.2.2.2 H K hx h fun z0 z1 z2 z3 H' h'=>hK (z0,z1,z2,z3) H' h') fun p=>fin p.1 p.2.1 p.2.2.1 p.2.2.2
theorem Ui{α0 α1 α2 α3 α4:Type}{a:Nat}{xs:List V}{t:Nat}{body:Ak->AH->(Ak->AH->Prop)->Prop}{N:Ak->AH->Prop}(f:Nat->α0->α1->α2->α3->α4->Ak)(T:Nat->α0->α1->α2->α3->α4->AH->Prop)(x0:α0)(x1:α1)(x2:α2)(x3:α3)(x4:α4)(hρ:ρ=f 0 x0 x1 x2 x3 x4)(h0:T 0 x0 x1 x2 x3 x4 H)(hg:∀i x0 x1 x2 x3 x4 H,T i x0 x1 x2 x3 x4 H->H a=some (.list xs))(step:∀i x y0 y1 y2 y3 y4 H K,xs[i]? = some x->T i y0 y1 y2 y3 y4 H->(∀z0 z1 z2 z3 z4 H'',T (i+1) z0 z1 z2 z3 z4 H''->K (f (i+1) z0 z1 z2 z3 z4) H'')->body ((f i y0 y1 y2 y3 y4).set t (some x)) H K)(fin:∀x0 x1 x2 x3 x4 H,T xs.length x0 x1 x2 x3 x4 H->N (f xs.length x0 x1 x2 x3 x4) H):Df (fun H=>H a=some (.list xs)) (.one t) body N (xs.map .v) ρ H:=
 B6 (fun i p=>f i p.1 p.2.1 p.2.2.1 p.2.2.2.1 p.2.2.2.2) (fun i p=>T i p.1 p.2.1 p.2.2.1 p.2.2.2.1 p.2.2.2.2) (x0,x1,x2,x3,x4) hρ h0 (fun i p=>hg i p.1 p.2.1 p.2.2.1 p.2.2.2.1 p.2.2.2.2) (fun i x p H K hx h hK=>step i x p.1 p.2.1 p.2.2.1 p.2.2.2.1 p.2.2.2.2 H K hx h fun z0 z1 z2 z3 z4 H' h'=>hK (z0,z1,z2,z3,z4) H' h') fun p=>fin p.1 p.2.1 p.2.2.1 p.2.2.2.1 p.2.2.2.2
theorem Ck{g:AH->Prop}{elt:Ak->AH->(Option V->AH->Prop)->Prop}{Q:List V->AH->Prop}(I:Nat->List V->AH->Prop):∀ {its:List It} {k:Nat} {acc:List V} {y:Option V} {H:AH},I k acc H->
 (∀i x acc H K,its[i]? = some x->I (k+i) acc H->(∀o H'',I (k+i+1) (match o with|some v=>acc ++ [v]|none=>acc) H''->K o H'')->g H/\∃v,x = .v v/\elt (some v::ρ) H K)->
 (∀acc H,I (k+its.length) acc H->g H/\Q acc H)->Bm g (.one 0) elt Q its acc (y::ρ) H:=by
 intro its
 induction its with
 | nil=>intro k acc y H h0 _ fin;exact fin acc H h0
 | cons x r ih=>
   intro k acc y H h0 step fin
   obtain⟨g1,v,rfl,h⟩:=step 0 x acc H (fun o H''=>Bm g (.one 0) elt Q r (match o with|some v=>acc ++ [v]|none=>acc) (some (match x with | .v v=>v|_=> .none)::ρ) H'') rfl h0 fun o H'' h1=>by
    refine ih (k:=k+1) h1 (fun i y acc H K hy hI hK=>?_) fun acc H hI=>?_
    ·refine step (i+1) y acc H K hy (by rwa[show k+(i+1)=k+1+i by exact Q5]) fun o H'' h=>hK o H'' ?_
     rwa[show k+1+i+1=k+(i+1)+1 by exact Q6]
    ·exact fin acc H (by rwa[List.length_cons,show k+(r.length+1)=k+1+r.length by exact Q5])
   exact⟨g1,h⟩
theorem I6{m:Nat}{elt:Ak->AH->(Option V->AH->Prop)->Prop}{P:Nat->List Int->Prop}{Q:List V->AH->Prop}{y:Option V}
 (step:∀i H' K,i<m->Ad H H'->(∀x r H'',Ad H' H''->LI H'' x r->P i r->K (some (.ref x)) H'')->elt (some (.int i)::ρ) H' K)
 (fin:∀as rows H',Ad H H'->D3 H' as rows->rows.length=m->(∀(i:Nat) r,rows[i]? = some r->P i r)->Q (as.map V.ref) H') :
 Bm (fun _=>True) (.one 0) elt Q ((List.range m).map fun(i:Nat)=> .v (.int i)) [] (y::ρ) H:=by
 refine Ck (k:=0) (fun i acc H'=>(Ii fun as rows=>U1 (acc=as.map V.ref) (Ad H H') (D3 H' as rows) (rows.length=i) (∀(i:Nat) r,rows[i]? = some r->P i r))) ⟨[],[],rfl,Ad.refl,⟨rfl,fun i x r h=>by simp at h⟩,rfl,fun i r h=>by simp at h⟩ ?_ ?_
 ·rintro i x acc H' K hx ⟨as,rows,rfl,h1,h2,h3,h4⟩ hK
  rw[List.getElem?_map]at hx
  obtain⟨j,hj,rfl⟩:=Option.map_eq_some_iff.mp hx
  obtain⟨hlt,he⟩:=List.getElem?_eq_some_iff.mp hj
  simp at hlt he
  subst he
  refine⟨trivial,_,rfl,step i H' K hlt h1 fun x r H'' e1 e2 e3=>hK _ _ ⟨as ++ [x],rows ++ [r],by simp,h1.trans e1,(h2.ext e1).snoc e2,by simp[h3],fun k r' hr=>?_⟩⟩
  cases Nat.lt_or_ge k rows.length with
  | inl q=>rw[List.getElem?_append_left q]at hr;exact h4 k r' hr
  | inr q=>
    rw[List.getElem?_append_right q]at hr
    have:k-rows.length=0:=by
     obtain⟨z,_⟩:=List.getElem?_eq_some_iff.mp hr
     simp at z;exact z
    rw[this]at hr
    simp at hr
    subst hr
    have:k=i:=(Q7 h3 q this)
    subst this
    exact e3
 ·rintro acc H' ⟨as,rows,rfl,h1,h2,h3,h4⟩
  exact⟨trivial,fin as rows H' h1 h2 (by simpa using h3) h4⟩
noncomputable def Nz(k:Nat)(r:List Int):Prop:=r.length<=k/\∀x∈r,0<=x/\x<k
noncomputable def Wf(m:Nat)(rows:List (List Int)):Prop:=rows.length=m/\∀(k:Nat) r,rows[k]? = some r->Nz k r
noncomputable def Mk(H:AH)(m:Nat)(Q:Ah):Prop:=∀a as rows H',Ad H H'->H a=none->H' a=some (.list (as.map V.ref))->D3 H' as rows->Wf m rows->Q (.ref a) H'
theorem I7{k:Nat}{a:Int}{c:Nat}(h0:0<=a)(h:a+c<=k):Nz k ((List.range c).map fun(i:Nat)=>a+i):=by
 refine⟨by simp;exact(Int.ofNat_le.mp (Int.le_trans (Int.le_add_of_nonneg_left h0) h)),fun x hx=>?_⟩
 obtain⟨i,hi,rfl⟩:=List.mem_map.mp hx
 simp at hi
 exact⟨Int.add_nonneg h0 (Int.natCast_nonneg _),Int.lt_of_lt_of_le (Int.add_lt_add_left (Int.ofNat_lt.mpr hi) _) h⟩
theorem Yu(c:Nat):(List.range c).map (fun(i:Nat)=>V.int i)=((List.range c).map fun(i:Nat)=>(0:Int)+i).map V.int:=by simp
theorem Pz(a:Int)(c:Nat):(List.range c).map (fun(i:Nat)=>V.int (a+i))=((List.range c).map fun(i:Nat)=>a+i).map V.int:=(List.map_map).symm
noncomputable def cell(ns:List Int)(k:Nat):Int:=ns.getD k 0
theorem Cf(hG:G.fn "_law_cell_at" = some Ci){ns:List Int}{k:Int}(hk:0<=k)(q:Q (.int (cell ns k.toNat)) H):Af G (n+1) "_law_cell_at" [.script ns,.int k] H Q E:=by
 refine Aj hG rfl ?_
 simp (disch:=first|decide|omega) only[Ja,Je,Jg,Jm,Jq,Js,Jw,Jx,J0,J2,J3,Qg,Bl,Jbp,List.map,Dn,Dp,Ag,Ai,Ci]
 split
 ·rename_i h
  simp only[decide_eq_true_eq]at h
  have hlt:k.toNat<ns.length:=(Q10 hk h)
  have h1:Dd k ns.length=some k.toNat:=by delta Dd;rw[if_pos hk,if_pos h]
  have h2:ns[k.toNat]? = some (cell ns k.toNat):=by
   unfold cell;rw[List.getD_eq_getElem?_getD,List.getElem?_eq_getElem hlt];rfl
  delta B9;(try dsimp only[Ax]);rw[h1];(try dsimp only[Ey]);rw[h2]
  exact q
 ·rename_i h
  simp only[decide_eq_true_eq]at h
  have:cell ns k.toNat=0:=by
   unfold cell;rw[List.getD_eq_getElem?_getD,List.getElem?_eq_none (Int.ofNat_le.mp (Int.le_trans (Int.not_lt.mp h) (Int.self_le_toNat _)))];rfl
  rw[this]at q
  exact q
theorem Ml(hG:G.fn "_law_mixed" = some El){c k:Int}(q:∀m,0<=m->m<1000003->Q (.int m) H):Af G (n+1) "_law_mixed" [.int c,.int k] H Q E:=by
 refine Aj hG rfl ?_
 simp (disch:=first|decide|omega) only[Je,Jg,Jl,J0,J2,J3,J6,J8,List.map,Dn,Dp,Ag,Ai,El,Aa7]
 refine⟨.inl (by decide),.inr (by decide),?_⟩
 exact q _ (Int.emod_nonneg _ (by decide)) (by exact(Int.emod_lt_of_pos _ (by decide)))
theorem Afu(hc:G.fn "_law_cell_at" = some Ci)(hG:G.fn "_law_many" = some Gb){ns:List Int}(q:∀m:Nat,m<=60->Q (.int m) H):Af G (n+2) "_law_many" [.script ns] H Q E:=by
 refine Aj hG rfl ?_
 have q':∀m:Int,0<=m->m<=60->Q (.int m) H:=fun m h1 h2=>by
  have:=q m.toNat (Int.toNat_le.mpr h2)
  rwa[show ((m.toNat:Nat):Int)=m by exact Q15 h1]at this
 simp (disch:=first|decide|omega) only[Ja,Je,Jg,Jl,Jm,Jp,Jw,Jx,Jy,J0,J2,J3,List.map,Dn,Dp,Ag,Ai,List.replicate,Bo,Bp,Cu,true_and,Gb,hc]
 refine Cf hc (by decide) ?_
 simp (disch:=first|decide|omega) only[J6,J7,J8,Qq,Bl]
 split
 ·exact q' _ (Int.emod_nonneg _ (by decide)) (Int.le_of_lt_add_one (Int.emod_lt_of_pos _ (by decide)))
 ·split
  ·exact q' _ (Int.add_nonneg (by decide) (Int.emod_nonneg _ (by decide))) Q19
  ·exact q' _ (Int.emod_nonneg _ (by decide)) (Int.le_trans (Int.le_of_lt (Int.emod_lt_of_pos _ (by decide:(0:Int)<9))) (by decide))
noncomputable def Be(ns:List Int)(m k:Int):Int:=if cell ns 1%2=1 then(cell ns 1/2-k)%m else(cell ns 1/2+k)%m
theorem Rx{ns:List Int}{m k:Int}(h:0<m):0<=Be ns m k/\Be ns m k<m:=by
 unfold Be
 split
 ·exact⟨Int.emod_nonneg _ (Int.ne_of_gt h),Int.emod_lt_of_pos _ h⟩
 ·exact⟨Int.emod_nonneg _ (Int.ne_of_gt h),Int.emod_lt_of_pos _ h⟩
theorem Uj{x y m:Int}(hm:0<m)(h:x%m=y%m)(h1:x-y<m)(h2:y-x<m):x=y:=by
 have e:=Int.emod_emod_of_dvd x (Int.dvd_refl m)
 have h3:(x-y)%m=0:=by rw[Int.sub_emod,h,Int.sub_self,Int.zero_emod]
 obtain⟨k,hk⟩:=Int.dvd_of_emod_eq_zero h3
 have:k=0:=by
  rcases Int.lt_trichotomy k 0 with q|q|q
  ·have:m*k<=m*(-1):=Int.mul_le_mul_of_nonneg_left (Int.le_of_lt_add_one q) (Q23 h1 h2)
   exact Q24 h2 hk this
  ·exact q
  ·have:m*1<=m*k:=Int.mul_le_mul_of_nonneg_left (q) (Q23 h1 h2)
   exact Q26 h1 hk this
 subst this
 exact Int.eq_of_sub_eq_zero (hk.trans (Int.mul_zero _))
theorem V1{ns:List Int}{m j k:Int}(hm:0<m)(hj:0<=j/\j<m)(hk:0<=k/\k<m)(h:Be ns m j=Be ns m k):j=k:=by
 unfold Be at h
 split at h
 ·have:=Uj hm h (Q28 hj.1 hk.2) (Q29 hj.2 hk.1);exact Q30 this
 ·have:=Uj hm h (Q31 hj.2 hk.1) (Q31 hk.2 hj.1);exact Int.add_left_cancel this
theorem V2(hc:G.fn "_law_cell_at" = some Ci)(hG:G.fn "_law_name" = some Lb){ns:List Int}{m k:Int}(hm:0<m)(hm':m<=60)(q:Q (.int (Be ns m k)) H):Af G (n+2) "_law_name" [.script ns,.int m,.int k] H Q E:=by
 refine Aj hG rfl ?_
 simp (disch:=first|decide|omega) only[Ja,Je,Jg,Jl,Jm,Jp,Jw,Jx,Jy,J0,J2,J3,List.map,Dn,Dp,Ag,Ai,List.replicate,Bo,Bp,Cu,true_and,Lb,hc]
 refine Cf hc (by decide) ?_
 simp (disch:=first|decide|omega) only[J6,J7,J8,J9,Qq,Bl]
 unfold Be at q
 split
 ·rename_i h
  simp only[decide_eq_true_eq]at h
  have h':cell ns 1%2=1:=h
  rw[if_pos h']at q
  exact q
 ·rename_i h
  simp only[decide_eq_true_eq]at h
  have h':¬cell ns 1%2=1:=h
  rw[if_neg h']at q
  exact q
theorem Aba(hG:G.fn "_law_banded" = some Hb){m:Nat}{c:Int}(hm:m<=60)(q:Mk H m Q):Af G (n+1) "_law_banded" [.int m,.int c] H Q E:=by
 refine Aj hG rfl ?_
 have core:∀z:Int,0<=z->Av G (Af G n) (.comp 1 (.range [(.var 0)]) Eo) [some (.int m),some (.int c),some (.int z)] H Q E:=by
  intro z hz
  refine grK ?_
  simp (disch:=first|decide|omega) only[Jg,Jw,Jx,J4,Oo,Dn,Dp,Ag,List.replicate]
  refine⟨by simp[Bq];exact Wt hm,I6 (P:=Nz) (fun i H' K hi e1 hK=>?_) fun as rows H' e1 h1 h2 h3=>?_⟩
  ·simp (disch:=first|decide|omega) only[Je,Jg,Jl,Jq,Jw,Jx,J9,Jbn,Jbt,Ag,Ai,Eo]
   intro a ha
   rw[Pz]
   exact hK a _ _ (Ad.upd ha) Ac (I7 (Int.le_max_left _ _) (Q36 hz))
  ·intro a ha
   exact q a as rows _ (e1.trans (Ad.upd ha)) (e1.isNone ha) Ac (h1.ext (Ad.upd ha)) ⟨h2,h3⟩
 simp (disch:=first|decide|omega) only[Ja,Je,Jg,Jl,Jm,Jy,J0,J2,J3,J6,Zi,Bl,List.map,Dn,Dp,Ag,Ai,List.replicate,Bo,Bp,Hb]
 split
 ·exact core _ (Int.emod_nonneg _ (by decide))
 ·exact core _ (Int.emod_nonneg _ (by decide))
set_option linter.all false
variable {G:Aw} {n:Nat} {H H':AH} {Q:Ah} {E:EP} {C:CS} {ρ:Ak}
theorem Mk.mono{m:Nat}(q:Mk H m Q)(e:Ad H H'):Mk H' m Q:=fun a as rows H'' e1 h1 h2 h3 h4=>q a as rows H'' (e.trans e1) (e.isNone h1) h2 h3 h4
theorem Abb(hG:G.fn "_law_hubbed" = some Hd){m:Nat}{c:Int}(hm:m<=60)(q:Mk H m Q):Af G (n+1) "_law_hubbed" [.int m,.int c] H Q E:=by
 refine Aj hG rfl ?_
 have core:∀(z:Int) (H':AH),0<=z->z<=1000->Ad H H'->Av G (Af G n) (.comp 1 (.range [(.var 0)]) Cz) [some (.int m),some (.int c),some (.int z)] H' Q E:=by
  intro z H' hz hz' e
  refine grK ?_
  simp (disch:=first|decide|omega) only[Jg,Jw,Jx,J4,Oo,Dn,Dp,Ag,List.replicate]
  refine⟨by simp[Bq];exact Wt hm,I6 (P:=Nz) (fun i H' K hi e1 hK=>?_) fun as rows H' e1 h1 h2 h3=>?_⟩
  ·simp (disch:=first|decide|omega) only[Jg,Jq,Jw,Jx,Jbo,Jbs,Ag,Ai,Cz]
   intro a ha
   rw[Yu]
   exact hK a _ _ (Ad.upd ha) Ac (I7 (by(first|lia|omega)) (by(first|lia|omega)))
  ·intro a ha
   exact q.mono e a as rows _ (e1.trans (Ad.upd ha)) (e1.isNone ha) Ac (h1.ext (Ad.upd ha)) ⟨h2,h3⟩
 simp (disch:=first|decide|omega) only[Ja,Je,Jg,Jl,Jm,Js,Ju,Jw,Jx,Jy,J0,J2,J3,J6,J7,Zi,Bl,List.map,Dn,Dp,Ag,Ai,List.replicate,Bo,Bp,Hd]
 intro a ha
 have key:∀z:Int,0<=z->z<=1000->(if decide (30<(m:Int))=true then Av G (Af G n) (.comp 1 (.range [(.var 0)]) Cz) [some (.int m),some (.int c),some (.int (z%8))] (upd H a (.list [.int 1,.int 2,.int 3,.int (c/4%30)])) Q E
  else Av G (Af G n) (.comp 1 (.range [(.var 0)]) Cz) [some (.int m),some (.int c),some (.int z)] (upd H a (.list [.int 1,.int 2,.int 3,.int (c/4%30)])) Q E):=by
  intro z h1 h2
  split
  ·exact core _ _ (Int.emod_nonneg _ (by decide)) (Int.le_trans (Int.le_of_lt (Int.emod_lt_of_pos _ (by decide:(0:Int)<8))) (by decide)) (Ad.upd ha)
  ·exact core _ _ h1 h2 (Ad.upd ha)
 have h4:c%4=0\/c%4=1\/c%4=2\/c%4=3:=Q45
 rcases h4 with h|h|h|h<;>rw[h]
 ·refine Cy (x:= .int 1) Ac (by decide) rfl ?_;simp (disch:=first|decide|omega) only[J6];exact key _ (by(first|lia|omega)) (by(first|lia|omega))
 ·refine Cy (x:= .int 2) Ac (by decide) rfl ?_;simp (disch:=first|decide|omega) only[J6];exact key _ (by(first|lia|omega)) (by(first|lia|omega))
 ·refine Cy (x:= .int 3) Ac (by decide) rfl ?_;simp (disch:=first|decide|omega) only[J6];exact key _ (by(first|lia|omega)) (by(first|lia|omega))
 ·refine Cy (x:= .int (c/4%30)) Ac (by decide) rfl ?_;simp (disch:=first|decide|omega) only[J6];exact key _ (Int.emod_nonneg _ (by decide)) (Int.le_trans (Int.le_of_lt (Int.emod_lt_of_pos _ (by decide:(0:Int)<30))) (by decide))
structure Mm(H H':AH)(a:Nat)(as:List Nat)(rows:List (List Int)):Prop where
 ext:Ad H H'
 new:H a=none
 at_:H' a=some (.list (as.map V.ref))
 lists:D3 H' as rows
 ne:∀x∈as,x≠a
 ok:∀(k:Nat) r,rows[k]? = some r->Nz k r
theorem Mm.start{a:Nat}(h:H a=none):Mm H (upd H a (.list [])) a [] []:=⟨Ad.upd h,h,Ac,⟨rfl,fun i x r q=>by simp at q⟩,fun x hx=>by simp at hx,fun k r q=>by simp at q⟩
theorem D3.upd{as:List Nat}{rows:List (List Int)}{a:Nat}{o:O}(h:D3 H as rows)(hn:∀x∈as,x≠a):D3 (Mine.Internal.upd H a o) as rows:=⟨h.1,fun i x r h1 h2=>by
 unfold LI
 rw[upd_ne (hn x (List.mem_of_getElem? h1))];exact h.2 i x r h1 h2⟩
theorem Mm.snoc{H₁:AH}{a x:Nat}{as:List Nat}{rows:List (List Int)}{r:List Int}(b:Mm H H' a as rows)(hx:H' x=none)(e:∀y o,y≠x->H' y=some o->H₁ y=some o)(h:LI H₁ x r)(hr:Nz rows.length r) :
 Mm H (upd H₁ a (.list ((as.map V.ref) ++ [.ref x]))) a (as ++ [x]) (rows ++ [r]):=by
 have hxa:x≠a:=fun q=>by rw[q,b.at_]at hx;cases hx
 have hxs:∀y∈as,y≠x:=fun y hy q=>by
  obtain⟨i,hi⟩:=List.mem_iff_getElem?.mp hy
  have hlt:=(List.getElem?_eq_some_iff.mp hi).1
  have:LI H' y (rows[i]'(by rw[<-b.lists.1];exact hlt)):=b.lists.2 i y _ hi (List.getElem?_eq_getElem _)
  rw[q]at this
  unfold LI at this
  rw[hx]at this;cases this
 have hHx:H x=none:=b.ext.isNone hx
 have e1:Ad H H₁:=fun y o q=>e y o (fun z=>by rw[z,hHx]at q;cases q) (b.ext y o q)
 have hr1:D3 H₁ as rows:=⟨b.lists.1,fun i y r' h1 h2=>e y _ (hxs y (List.mem_of_getElem? h1)) (b.lists.2 i y r' h1 h2)⟩
 refine⟨e1.upd' b.new,b.new,by rw[Ac];simp,?_,?_,?_⟩
 ·refine(hr1.snoc h).upd fun y hy=>?_
  rcases List.mem_append.mp hy with hy|hy
  ·exact b.ne y hy
  ·simp at hy;rw[hy];exact hxa
 ·intro y hy
  rcases List.mem_append.mp hy with hy|hy
  ·exact b.ne y hy
  ·simp at hy;rw[hy];exact hxa
 ·intro k r' hk
  cases Nat.lt_or_ge k rows.length with
  | inl q=>rw[List.getElem?_append_left q]at hk;exact b.ok k r' hk
  | inr q=>
    rw[List.getElem?_append_right q]at hk
    have:k-rows.length=0:=by
     obtain⟨z,_⟩:=List.getElem?_eq_some_iff.mp hk
     simp at z;exact z
    rw[this]at hk
    simp at hk
    subst hk
    have:k=rows.length:=(Nat.le_antisymm (Nat.sub_eq_zero_iff_le.mp this) q)
    rw[this];exact hr
theorem Ry(hc:G.fn "_law_cell_at" = some Ci)(hx:G.fn "_law_mixed" = some El)(hG:G.fn "_law_earlier" = some Ga){ns:List Int}{m:Nat}{ring:Int}(hm:m<=60)(hr:ring=0\/4<=ring)(q:Mk H m Q) :
 Af G (n+2) "_law_earlier" [.script ns,.int m,.int ring] H Q E:=by
 refine Aj hG rfl ?_
 simp (disch:=first|decide|omega) only[Jg,Ju,Jw,Jy,J0,J2,J3,List.map,Dn,Dp,List.replicate,Bo,Bp,Ga]
 intro a ha
 refine Uy ?_
 simp (disch:=first|decide|omega) only[Jg,Jw,Jx,Oo,Ag,Ai]
 refine Qv (fun i r4 r5 r6 r7 r8 r9 as rows=>[some (.script ns),some (.int m),some (.int ring),some (.ref a),r4,r5,r6,r7,r8,r9]) (fun i r4 r5 r6 r7 r8 r9 as rows H'=>(Mm H H' a as rows)/\(rows.length=i)) none none none none none none [] [] rfl ⟨Mm.start ha,rfl⟩ ?_ ?_
 ·rintro i r4 r5 r6 r7 r8 r9 as rows H' K hi ⟨b,hlen⟩ hK
  have hi':i<m:=hi
  have fin:∀(c:Int) (x:Nat) (r:List Int) (H₁:AH) (r7 r8 r9:Option V),H' x=none->(∀y o,y≠x->H' y=some o->H₁ y=some o)->LI H₁ x r->Nz i r->
   Br G (Af G (n+1)) [.expr (.lm .append (.var 3) [(.var 6)])] [some (.script ns),some (.int m),some (.int ring),some (.ref a),some (.int i),some (.int c),some (.ref x),r7,r8,r9] H₁ K Q E:=by
   intro c x r H₁ r7 r8 r9 h1 h2 h3 h4
   have hxa:x≠a:=fun q=>by rw[q,b.at_]at h1;cases h1
   have ha1:H₁ a=some (.list (as.map V.ref)):=h2 a _ (Ne.symm hxa) b.at_
   have hal:(as.map V.ref).length<1048576:=by rw[List.length_map,b.lists.1];exact Q55 hm hlen hi'
   simp (disch:=first|decide|omega) only[Jg,Jw,Jx,Jz,J2,J3,Ag,Ai,true_and,B0,B8 ha1,Cq ha1 hal]
   exact hK _ _ _ _ _ _ _ _ _ ⟨b.snoc h1 h2 h3 (by rw[hlen];exact h4),by simp[hlen]⟩
  simp (disch:=first|decide|omega) only[Je,Jg,Jl,Jp,Ju,Jw,Jx,Jy,Jz,J2,J3,J8,Ag,Ai,Bo,Bp,Cu,true_and,Gm,hc,hx]
  refine Cf hc (Int.natCast_nonneg _) ?_
  refine Ml hx fun c c0 c1=>?_
  intro x hx0
  have e0:∀y o,y≠x->H' y=some o->upd H' x (.list []) y=some o:=fun y o h1 h2=>by rw[upd_ne h1];exact h2
  refine Ba (decide ((0:Int)<i)&&decide ((i:Int)<ring)) (fun Q' h'=>?_) ?_
  ·simp (disch:=first|decide|omega) only[Je,Jg,Jn,Qg,Bl,Ag,Ai];split<;>simp_all
  ·split
   ·rename_i hh
    simp only[Bool.and_eq_true,decide_eq_true_eq]at hh
    simp (disch:=first|decide|omega) only[Je,Jg,Jl,Ju,Jw,Jx,Jy,J2,J3,J9,Ag,Ai,Bo,Bp]
    intro x1 hx1
    refine Ba (decide ((i:Int)=ring-1)) (fun Q' h'=>?_) ?_
    ·simp (disch:=first|decide|omega) only[Je,Jg,Jl,Jm,J9,Qq,Ag,Ai];exact h'
    have hx1':H' x1=none:=(Ad.upd hx0).isNone hx1
    have e1:Ad H' (upd H' x (.list [])):=Ad.upd hx0
    split
    ·rename_i h3
     simp only[decide_eq_true_eq]at h3
     simp (disch:=first|decide|omega) only[Je,Jg,Jl,Ju,Jw,Jx,Jy,J2,J3,J9,Ag,Ai,Bo,Bp]
     intro x2 hx2
     have hx2':H' x2=none:=(Ad.upd hx0).isNone ((Ad.upd hx1).isNone hx2)
     refine fin c x2 [0,(i:Int)-1] _ _ _ _ hx2' (fun y o h1 h2=>?_) Ac ⟨by simp;exact Q57 hr h3,by simp;exact(⟨Int.natCast_pos.mp hh.1,hh.1,Int.sub_lt_self _ (by decide)⟩)⟩
     exact(Ad.upd hx2) y o ((Ad.upd hx1) y o (e1 y o h2))
    ·simp (disch:=first|decide|omega) only[J2]
     refine fin c x1 [(i:Int)-1] _ _ _ _ hx1' (fun y o h1 h2=>?_) Ac ⟨by simp;exact(Int.ofNat_lt.mp hh.1),by simp;exact(⟨hh.1,Int.sub_lt_self _ (by decide)⟩)⟩
     exact(Ad.upd hx1) y o (e1 y o h2)
   ·rename_i hh
    simp (disch:=first|decide|omega) only[J2,J3]
    refine Ba (decide ((0:Int)<i) && !decide (c%9=8)) (fun Q' h'=>?_) ?_
    ·simp (disch:=first|decide|omega) only[Je,Jg,Jj,Jl,Jm,J6,Zi,Zj,Bl,Ag,Ai];split<;>simp_all
    split
    ·rename_i h2
     simp only[Bool.and_eq_true,decide_eq_true_eq]at h2
     have hi0:0<(i:Int):=h2.1
     have hmate:0<=c/9%(i:Int)/\c/9%(i:Int)<i:=⟨Int.emod_nonneg _ (Int.ne_of_gt hi0),Int.emod_lt_of_pos _ hi0⟩
     generalize hmt:c/9%(i:Int)=mate at hmate
     simp (disch:=first|decide|omega) only[Je,Jg,Jl,Ju,Jw,Jx,Jy,J2,J3,J6,J7,Ag,Ai,Bo,Bp,hmt]
     intro x1 hx1
     have hx1':H' x1=none:=(Ad.upd hx0).isNone hx1
     have e1:Ad H' (upd H' x (.list [])):=Ad.upd hx0
     have e2:Ad H' (upd (upd H' x (.list [])) x1 (.list [.int mate])):=e1.trans (Ad.upd hx1)
     have hml:mate.toNat<rows.length:=(Q62 hlen hmate.1 hmate.2)
     have hml':mate.toNat<as.length:=by rw[b.lists.1];exact hml
     have hxm:as[mate.toNat]? = some (as[mate.toNat]):=List.getElem?_eq_getElem hml'
     have hrm:rows[mate.toNat]? = some (rows[mate.toNat]):=List.getElem?_eq_getElem hml
     generalize as[mate.toNat]=xm at hxm
     generalize rows[mate.toNat]=rm at hrm
     have hrok:=b.ok _ _ hrm
     have hLm:LI H' xm rm:=b.lists.2 _ _ _ hxm hrm
     have hsub:(as.map V.ref)[mate.toNat]? = some (.ref xm):=by rw[List.getElem?_map,hxm];rfl
     refine Oz ?_
     simp (disch:=first|decide|omega) only[Jg,Js,Ag,Ai]
     refine Cy (e2 _ _ b.at_) hmate.1 hsub (Ao (e2 _ _ hLm) ?_)
     have hxm1:xm≠x1:=fun q=>by rw[q]at hLm;unfold LI at hLm;rw[hx1']at hLm;cases hLm
     refine M2 (fun j ρ H₁=>(Ex3 fun l9 lf r=>U1 (ρ = [some (.script ns),some (.int m),some (.int ring),some (.ref a),some (.int i),some (.int c),some (.ref x1),some (.int mate),some (.int lf),l9]) ((∀y o,y≠x1->H' y=some o->H₁ y=some o)) (LI H₁ x1 r) (r.length<=1+j) (∀z∈r,0<=z/\z<(i:Int)))) ?_ ?_ ?_ ?_
     ·exact⟨_,_,[mate],rfl,fun y o _ h=>e2 y o h,Ac,Nat.le_refl _,by simpa using hmate⟩
     ·rintro j ρ H₁ hP7
      refine Aa fun nY=>?_
      obtain⟨l9,lf,r,rfl,h1,h2,h3,h4⟩:=hP7
      refine nY ?_;clear nY
      exact h1 _ _ hxm1 hLm
     ·rintro j v ρ H₁ K' hv hP8 hK'
      refine Aa fun nY=>?_
      obtain⟨l9,lf,r,rfl,h1,h2,h3,h4⟩:=hP8
      rw[List.getElem?_map]at hv
      obtain⟨z,hz,rfl⟩:=Option.map_eq_some_iff.mp hv
      have hzr:=hrok.2 z (List.mem_of_getElem? hz)
      have hjl:=(List.getElem?_eq_some_iff.mp hz).1
      refine nY ?_;clear nY
      have hlen2:rm.length<=60:=by have:=hrok.1;exact Nat.le_trans this (Nat.le_trans (Int.toNat_le.mpr (Int.le_of_lt hmate.2)) (Nat.le_trans (Nat.le_of_lt hi') hm))
      simp (disch:=first|decide|omega) only[Je,Jg,Jl,Jy,J2,J3,Bo,Bp,Gl]
      have step2:∀r',r'.length<=1+(j+1)->(∀z∈r',0<=z/\z<(i:Int))->∀H₂,(∀y o,y≠x1->H' y=some o->H₂ y=some o)->LI H₂ x1 r'->
       K' [some (.script ns),some (.int m),some (.int ring),some (.ref a),some (.int i),some (.int c),some (.ref x1),some (.int mate),some (.int (lf/3)),some (.int z)] H₂:=
       fun r' a1 a2 H₂ a3 a4=>hK' _ _ ⟨_,_,r',rfl,a3,a4,a1,a2⟩
      have hlen:(r.map V.int).length<1048576:=by rw[List.length_map];exact Nat.lt_of_le_of_lt (Nat.le_trans h3 (Nat.add_le_add_left (Nat.le_trans (Nat.le_of_lt hjl) hlen2) 1)) (by decide)
      have key:∃cc:Bool,∀Q':Ah,Q' (.bool cc) H₁->Av G (Af G (n+1)) (.and (.cmp .Gt (.bin .Mod (.var 8) (.cint 3)) (.cint 0)) (.or (.cmp .GtE (.var 7) (.var 2)) (.cmp .Lt (.bi .len [(.var 6)]) (.cint 2)))) [some (.script ns),some (.int m),some (.int ring),some (.ref a),some (.int i),some (.int c),some (.ref x1),some (.int mate),some (.int lf),some (.int z)] H₁ Q' E:=by
       refine⟨decide (0<lf%3)&&(decide (ring<=mate)||decide (((r.map V.int).length:Int)<2)),fun Q' h'=>?_⟩
       simp (disch:=first|decide|omega) only[Je,Jg,Jj,Jk,Jl,Jm,Jq,Jw,Jx,J6,Qg,Zi,Jbd,Bl,Ag,Ai,A8 h2]
       split
       ·split<;>simp_all
       ·simp_all
      obtain⟨cc,hcc⟩:=key
      refine Ba cc hcc ?_
      split
      ·simp (disch:=first|decide|omega) only[Jg,Jw,Jx,Jz,J2,J3,J7,Ag,Ai,Bo,Bp,true_and,B0,B8 h2,Cq h2 hlen]
       refine step2 (r ++ [z]) (by simp;exact(Nat.succ_le_succ h3)) (fun w hw=>?_) _ (fun y o a1 a2=>by rw[upd_ne a1];exact h1 y o a1 a2) (by unfold LI;rw[Ac];simp)
       refine Aa fun nY=>?_
       rcases List.mem_append.mp hw with hw|hw
       ·refine nY ?_;clear nY
        exact h4 w hw
       ·refine nY ?_;clear nY
        simp at hw;subst hw;exact⟨hzr.1,Int.lt_of_lt_of_le hzr.2 (Int.ofNat_le.mpr (Int.toNat_le.mpr (Int.le_of_lt hmate.2)))⟩
      ·simp (disch:=first|decide|omega) only[J2,J7,Ag,Ai,Bo,Bp]
       exact step2 r (Nat.le_succ_of_le h3) h4 _ h1 h2
     ·rintro ρ H₁ hP9
      refine Aa fun nY=>?_
      obtain⟨l9,lf,r,rfl,h1,h2,h3,h4⟩:=hP9
      refine nY ?_;clear nY
      refine fin c x1 r H₁ _ _ _ hx1' h1 h2 ⟨?_,h4⟩
      rw[List.length_map]at h3
      have:=hrok.1
      exact Nat.le_trans h3 (Nat.le_trans (Nat.add_le_add_left this 1) (Nat.le_trans (Nat.le_of_eq (Nat.add_comm 1 _)) ((Int.toNat_lt hmate.1).mpr hmate.2)))
    ·simp (disch:=first|decide|omega) only[J2]
     exact fin c x [] _ _ _ _ hx0 e0 Ac ⟨Nat.zero_le _,fun _ h=>absurd h List.not_mem_nil⟩
 ·rintro r4 r5 r6 r7 r8 r9 as rows H' ⟨b,hlen⟩
  simp (disch:=first|decide|omega) only[Ag,Ai]
  exact q a as rows H' b.ext b.new b.at_ b.lists ⟨hlen,b.ok⟩
set_option linter.all false
variable {G:Aw} {n:Nat} {H H':AH} {Q:Ah} {E:EP} {C:CS} {ρ:Ak}
theorem Hp{g:AH->Prop}{elt:Ak->AH->(Option V->AH->Prop)->Prop}{Q:List V->AH->Prop}{xs:List V}{f:V->Option V}{y:Option V}(hg:g H)
 (step:∀x∈xs,∀K:Option V->AH->Prop,K (f x) H->elt (some x::ρ) H K) (fin:Q (xs.filterMap f) H):Bm g (.one 0) elt Q (xs.map .v) [] (y::ρ) H:=by
 refine Ck (k:=0) (fun i acc H'=>H'=H/\acc=(xs.take i).filterMap f) ⟨rfl,rfl⟩ ?_ ?_
 ·rintro i x acc H' K hx ⟨rfl,rfl⟩ hK
  rw[List.getElem?_map]at hx
  obtain⟨j,hj,rfl⟩:=Option.map_eq_some_iff.mp hx
  refine⟨hg,_,rfl,step j (List.mem_of_getElem? hj) K (hK _ _ ⟨rfl,?_⟩)⟩
  have hlt:=(List.getElem?_eq_some_iff.mp hj).1
  rw[Nat.zero_add,List.take_add_one,hj]
  simp only[Option.toList_some,List.filterMap_append]
  rw[List.filterMap_cons]
  cases hfj:f j<;>simp
 ·rintro acc H' ⟨rfl,rfl⟩
  refine⟨hg,?_⟩
  rw[Nat.zero_add,List.take_of_length_le (Nat.le_of_eq (List.length_map _).symm)]
  exact fin
theorem I8(m:Nat):((List.range m).map fun(i:Nat)=>It.v (.int i))=((List.range m).map fun(i:Nat)=>V.int i).map It.v:=(List.map_map).symm
theorem Sz(m:Nat)(p:Nat->Bool):((List.range m).map fun(i:Nat)=>V.int i).filterMap (fun v=>match v with | .int i=>if p i.toNat then some (.int i)else none|_=>none)=(((List.range m).filter p).map fun(i:Nat)=>(i:Int)).map V.int:=by
 rw[List.filterMap_map]
 induction m with
 | zero=>rfl
 | succ m ih=>
   rw[List.range_succ,List.filterMap_append,ih,List.filter_append]
   simp only[List.map_append,List.filterMap_cons,Function.comp,List.filterMap_nil,Int.toNat_natCast,List.filter_cons,List.filter_nil]
   by_cases hp:p m=true<;>simp[hp]
noncomputable def Lj(l:List Nat):List Int:=l.map fun(i:Nat)=>(i:Int)
theorem K7{m:Nat}{p:Nat->Bool}{elt:Ak->AH->(Option V->AH->Prop)->Prop}{Q:List V->AH->Prop}{y:Option V}
 (step:∀j,j<m->∀K:Option V->AH->Prop,K (if p j then some (.int j)else none) H->elt (some (.int j)::ρ) H K) (fin:Q ((Lj ((List.range m).filter p)).map V.int) H) :
 Bm (fun _=>True) (.one 0) elt Q ((List.range m).map fun(i:Nat)=> .v (.int i)) [] (y::ρ) H:=by
 rw[I8]
 refine Hp (f:=fun v=>match v with | .int i=>if p i.toNat then some (.int i)else none|_=>none) trivial (fun v hv K hK=>?_) ?_
 ·obtain⟨j,hj,rfl⟩:=List.mem_map.mp hv
  exact step j (List.mem_range.mp hj) K hK
 ·rw[Sz];exact fin
theorem V3(hc:G.fn "_law_cell_at" = some Ci)(hx:G.fn "_law_mixed" = some El)(hG:G.fn "_law_any_rows" = some E8){ns:List Int}{m:Nat}(hm:m<=60)(q:Mk H m Q) :
 Af G (n+2) "_law_any_rows" [.script ns,.int m] H Q E:=by
 refine Aj hG rfl ?_
 simp (disch:=first|decide|omega) only[Je,Jg,Jl,Jp,Ju,Jw,Jx,Jy,J0,J2,J3,List.map,Dn,Dp,Ag,List.replicate,Bo,Bp,Cu,true_and,E8,hc]
 refine Cf hc (by decide) ?_
 try simp (disch:=first|decide|omega) only[J6,J7,J8]
 generalize hsh:1+cell ns (2:Int).toNat/8%4=share
 have core:∀parts:Int,0<parts->parts<=40->Br G (Af G (n+1)) [.assign 4 (.list []),.for (.one 5) (.range [(.var 1)]) Dy,.ret (.var 4)] [some (.script ns),some (.int m),some (.int share),some (.int parts),none,none,none] H (fun _ H=>Q .none H) Q E:=by
  intro parts hp0 hp1
  simp (disch:=first|decide|omega) only[Jg,Ju,Jw,Jy,J0,J2,J3,Bo,Bp]
  intro a ha
  refine Uy ?_
  simp (disch:=first|decide|omega) only[Jg,Jw,Jx,Oo,Ag,Ai]
  refine Qs (fun i r5 r6 as rows=>[some (.script ns),some (.int m),some (.int share),some (.int parts),some (.ref a),r5,r6]) (fun i r5 r6 as rows H'=>(Mm H H' a as rows)/\(rows.length=i)) none none [] [] rfl ⟨Mm.start ha,rfl⟩ ?_ ?_
  ·rintro i r5 r6 as rows H' K hi ⟨b,hlen⟩ hK
   have hi':i<m:=hi
   simp (disch:=first|decide|omega) only[Jy,Jz,J2,J3,Bo,Bp,Dy]
   refine grK ?_
   simp (disch:=first|decide|omega) only[Jg,Jw,Jx,J4,Oo,Dn,Dp,Ag,Ai,List.replicate]
   refine⟨by simp[Bq];exact(Nat.le_of_lt (Nat.lt_of_lt_of_le hi' (Nat.le_trans hm (by decide)))),?_⟩
   refine Ck (k:=0) (fun j acc H₁=>H₁=H'/\∃l:List Int,acc=l.map V.int/\l.length=j) ⟨rfl,[],rfl,rfl⟩ ?_ ?_
   ·rintro j x acc H₁ K' hx' hP10 hK'
    refine Aa fun nY=>?_
    obtain⟨rfl,l,rfl,hl⟩:=hP10
    rw[List.getElem?_map]at hx'
    obtain⟨j',hj,rfl⟩:=Option.map_eq_some_iff.mp hx'
    obtain⟨hlt,he⟩:=List.getElem?_eq_some_iff.mp hj
    simp at hlt he
    subst he
    refine nY ?_;clear nY
    refine⟨trivial,_,rfl,?_⟩
    simp (disch:=first|decide|omega) only[Je,Jg,Jl,Jp,Jw,Jx,J6,J8,Ag,Ai,Cu,true_and,Fp,Aa7,hc,hx]
    refine⟨.inl (by decide),.inl (by decide),?_⟩
    refine Cf hc (Int.natCast_nonneg _) ?_
    refine⟨.inl (by decide),?_⟩
    refine Ml hx fun c c0 c1=>?_
    exact hK' _ _ ⟨rfl,l ++ [c],by simp,by simp[hl]⟩
   ·rintro acc H₁ hP11
    refine Aa fun nY=>?_
    obtain⟨rfl,cells,rfl,hl⟩:=hP11
    refine nY ?_;clear nY
    refine⟨trivial,fun x hx0=>?_⟩
    have hcl:cells.length=i:=by simpa using hl
    have hal:(as.map V.ref).length<1048576:=by rw[List.length_map,b.lists.1];exact Q55 hm hlen hi'
    have ha1:upd H₁ x (.list (cells.map V.int)) a=some (.list (as.map V.ref)):=(Ad.upd hx0) _ _ b.at_
    simp (disch:=first|decide|omega) only[Jg,Jw,Jx,Ag,Ai,true_and,B0,B8 ha1]
    refine hrK ?_
    simp (disch:=first|decide|omega) only[Jg,Jw,Jx,J4,Oo,Dn,Dp,Ag,Ai,List.replicate]
    refine⟨by simp[Bq];exact(Nat.le_of_lt (Nat.lt_of_lt_of_le hi' (Nat.le_trans hm (by decide)))),?_⟩
    refine K7 (p:=fun k=>decide (cells.getD k 0%parts<share)) (fun j hj K' hK'=>?_) ?_
    ·have hj':j<cells.length:=(Nat.lt_of_lt_of_eq hj hcl.symm)
     have hsub:(cells.map V.int)[(j:Int).toNat]? = some (.int (cells.getD j 0)):=by
      rw[Int.toNat_natCast,List.getElem?_map,List.getElem?_eq_getElem hj',List.getD_eq_getElem?_getD,List.getElem?_eq_getElem hj'];rfl
     simp (disch:=first|decide|omega) only[Jg,Jl,Jm,Js,J6,Qg,Bl,Ag,Ai,Fq,Al (Ac) (Int.natCast_nonneg j) hsub]
     split
     ·rename_i h;rw[if_pos h]at hK';exact hK'
     ·rename_i h;rw[if_neg h]at hK';exact hK'
    ·generalize hR:(List.range ((i:Int)).toNat).filter (fun k=>decide (cells.getD k 0%parts<share))=R
     intro x1 hx1
     have hx1':H₁ x1=none:=(Ad.upd hx0).isNone hx1
     have ha2:=(Ad.upd (o:= .list ((Lj R).map V.int)) hx1) _ _ ha1
     simp (disch:=first|decide|omega) only[Cq ha2 hal]
     refine hK _ _ _ _ _ ⟨b.snoc hx1' (fun y o _ h=>(Ad.upd hx1) y o ((Ad.upd hx0) y o h)) Ac ⟨?_,?_⟩,by simp[hlen]⟩
     ·unfold Lj
      rw[List.length_map,<-hR]
      have:=List.length_filter_le (fun k=>decide (cells.getD k 0%parts<share)) (List.range ((i:Int)).toNat)
      rw[List.length_range]at this
      exact hlen▸this
     ·intro z hz
      obtain⟨k,hk,rfl⟩:=List.mem_map.mp hz
      rw[<-hR]at hk
      have:=List.mem_range.mp (List.mem_filter.mp hk).1
      exact⟨Int.natCast_nonneg _,Int.ofNat_lt.mpr (Nat.lt_of_lt_of_eq this hlen.symm)⟩
  ·rintro r5 r6 as rows H' ⟨b,hlen⟩
   simp (disch:=first|decide|omega) only[Ag,Ai]
   exact q a as rows H' b.ext b.new b.at_ b.lists ⟨hlen,b.ok⟩
 refine Ba (decide ((20:Int)<m)) (fun Q' h'=>?_) ?_
 ·simp (disch:=first|decide|omega) only[Je,Jg,Jm,Zi,Ag,Ai];exact h'
 ·split
  ·refine Ae (Bw (Aex (Sg ?_)));exact core 40 (by decide) (by decide)
  ·refine Sg ?_;exact core 5 (by decide) (by decide)
set_option linter.all false
variable {G:Aw} {n:Nat} {H H':AH} {Q:Ah} {E:EP} {C:CS} {ρ:Ak}
theorem Abc{a:Nat}{xs:List V}{k:Int}{v:V}{N:AH->Prop}(h:H a=some (.list xs))(h0:0<=k)(hk:k<xs.length):setItem (.ref a) (.int k) v H N=N (upd H a (.list (xs.set k.toNat v))):=by
 have:Dd k xs.length=some k.toNat:=by delta Dd;rw[if_pos h0,if_pos hk]
 delta setItem;(try dsimp only[A2,Ax]);rw[h];(try dsimp only);rw[this];(try dsimp only[Ey])
theorem Hq{a:Nat}{xs:List V}{k:Int}{v:V}{N:AH->Prop}(h:H a=some (.list xs))(h0:0<=k)(hk:k<xs.length)(kk:N (upd H a (.list (xs.set k.toNat v)))):setItem (.ref a) (.int k) v H N:=Eq.mpr (Abc h h0 hk) kk
theorem Abd(hG:G.fn "_law_ringed" = some Hc){m:Nat}{c:Int}(hm:m<=60)(q:Mk H m Q):Af G (n+1) "_law_ringed" [.int m,.int c] H Q E:=by
 refine Aj hG rfl ?_
 simp (disch:=first|decide|omega) only[Je,Jg,Jl,Jy,J0,J2,J3,J6,J7,J8,List.map,Dn,Dp,Ag,Ai,List.replicate,Bo,Bp,Hc]
 generalize hsz:4+c%5=size
 generalize hst:size+c/5%4=step
 have hsize:4<=size:=(Int.le_trans (Int.le_add_of_nonneg_right (Int.emod_nonneg _ (by decide))) (Int.le_of_eq hsz))
 have hstep:size<=step/\step<100:=(Q75 hsz hst)
 refine grK ?_
 simp (disch:=first|decide|omega) only[Jg,Jw,Jx,J4,Oo,Dn,Dp,Ag,List.replicate]
 refine⟨by simp[Bq];exact Wt hm,I6 (P:=Nz) (fun i H' K hi e1 hK=>?_) fun as rows H' e1 h1 h2 h3=>?_⟩
 ·simp (disch:=first|decide|omega) only[Je,Jg,Jl,Jq,Jw,Jx,J9,Jbn,Jbt,Ag,Hz]
  intro a ha
  rw[Pz]
  exact hK a _ _ (Ad.upd ha) Ac (I7 (Int.le_max_left _ _) (Q36 (by decide)))
 ·intro a ha
  refine Uy ?_
  simp (disch:=first|decide|omega) only[Jg,Jw,Jx,Oo,Ag]
  refine F5 (fun i ρ H₁=>(Ex3 fun r4 as rows=>An6 (ρ = [some (.int m),some (.int c),some (.int size),some (.int step),r4,some (.ref a)]) (Ad H H₁) (H₁ a=some (.list (as.map V.ref))) (D3 H₁ as rows) ((∀x∈as,x≠a)) (Wf m rows))) ?_ ?_ ?_
  ·refine⟨none,as,rows,rfl,e1.trans (Ad.upd ha),Ac,h1.ext (Ad.upd ha),fun x hx hxa=>?_,⟨h2,h3⟩⟩
   subst hxa
   obtain⟨i,hi⟩:=List.mem_iff_getElem?.mp hx
   have hlt:=(List.getElem?_eq_some_iff.mp hi).1
   have:=h1.2 i x _ hi (List.getElem?_eq_getElem (by rw[<-h1.1];exact hlt))
   unfold LI at this
   rw[ha]at this;cases this
  ·rintro i ρ H₁ K hi ⟨r4,as,rows,rfl,e,hA,hR,hne,hW⟩ hK
   have hi':i<m:=hi
   simp (disch:=first|decide|omega) only[J2,J3,Bo,Bp,H0]
   refine Ba (decide ((i:Int)%step=size-1)) (fun Q' h'=>?_) ?_
   ·simp (disch:=first|decide|omega) only[Je,Jg,Jl,Jm,J6,J9,Qq,Ag,Ai];exact h'
   ·split
    ·rename_i hh
     simp only[decide_eq_true_eq]at hh
     have hle:(i:Int)%step<=i:=by
      have h1:=Int.mul_ediv_add_emod (i:Int) step
      have h2:0<=step*((i:Int)/step):=Int.mul_nonneg (Int.le_trans (Int.le_trans (by decide) hsize) hstep.1) (Int.ediv_nonneg Wu (Int.le_trans (Int.le_trans (by decide) hsize) hstep.1))
      exact Int.le_trans (Int.le_add_of_nonneg_left h2) (Int.le_of_eq h1)
     simp (disch:=first|decide|omega) only[Je,Jg,Jl,Ju,Jw,Jx,J2,J3,J8,J9,Ag,Ai,Bs]
     intro x hx
     have hA':=(Ad.upd (o:= .list [.int ((i:Int)+1-size),.int ((i:Int)-1)]) hx) _ _ hA
     have hL:i<(as.map V.ref).length:=by rw[List.length_map,hR.1,hW.1];exact hi'
     refine Hq hA' Wu (Xy hL) ?_
     have hxa:x≠a:=fun z=>by rw[z,hA]at hx;cases hx
     have hHa:H a=none:=e1.isNone ha
     refine hK _ _ ⟨_,as.set i x,rows.set i [(i:Int)+1-size,(i:Int)-1],rfl,(e.trans (Ad.upd hx)).upd' hHa,?_,?_,?_,?_⟩
     ·rw[Ac,Int.toNat_natCast,List.map_set]
     ·refine D3.upd ?_ ?_
      ·refine⟨by simp[hR.1],fun k y r h1 h2=>?_⟩
       rw[List.getElem?_set]at h1 h2
       by_cases hki:i=k
       ·subst hki
        rw[if_pos rfl]at h1 h2
        rw[if_pos (by rw[<-hR.1];simpa using hL)]at h2
        rw[if_pos (by simpa using hL)]at h1
        cases h1;cases h2
        exact Ac
       ·rw[if_neg hki]at h1 h2
        exact(hR.2 k y r h1 h2).ext (Ad.upd hx)
      ·intro y hy
       rcases List.mem_or_eq_of_mem_set hy with hy|hy
       ·exact hne y hy
       ·rw[hy];exact hxa
     ·intro y hy
      rcases List.mem_or_eq_of_mem_set hy with hy|hy
      ·exact hne y hy
      ·rw[hy];exact hxa
     ·refine⟨List.length_set.trans hW.1,fun k r h2=>?_⟩
      rw[List.getElem?_set]at h2
      by_cases hki:i=k
      ·subst hki
       rw[if_pos rfl,if_pos (by rw[hW.1];exact hi')]at h2
       cases h2
       exact⟨by simp;exact Q82 hsize hh hle,by simp;exact Q83 hsize hh hle⟩
      ·rw[if_neg hki]at h2
       exact hW.2 k r h2
    ·simp (disch:=first|decide|omega) only[J2]
     exact hK _ _ ⟨_,as,rows,rfl,e,hA,hR,hne,hW⟩
  ·rintro ρ H₁ ⟨r4,as,rows,rfl,e,hA,hR,hne,hW⟩
   simp (disch:=first|decide|omega) only[Ag,Ai]
   exact q a as rows H₁ e (e1.isNone ha) hA hR hW
structure G1(G:Aw):Prop where
 cellAt:G.fn "_law_cell_at" = some Ci
 mixed:G.fn "_law_mixed" = some El
 earlier:G.fn "_law_earlier" = some Ga
 anyRows:G.fn "_law_any_rows" = some E8
 banded:G.fn "_law_banded" = some Hb
 ringed:G.fn "_law_ringed" = some Hc
 hubbed:G.fn "_law_hubbed" = some Hd
 rows:G.fn "_law_rows" = some O3
 name:G.fn "_law_name" = some Lb
 ties:G.fn "_law_ties" = some O4
 near:G.fn "_law_near" = some O5
 init:G.fn "Web.__init__" = some Lq
 need:G.fn "Web.need" = some O0
 tied:G.fn "Web.tied" = some O1
 wties:G.fn "Web.ties" = some O2
 webOf:G.fn "web_of" = some Tk
 most:G.const "MOST" = some (.int 60)
theorem Afv(B:G1 G){ns:List Int}{m:Nat}(hm:m<=60)(q:Mk H m Q):Af G (n+3) "_law_rows" [.script ns,.int m] H Q E:=by
 refine Aj B.rows rfl ?_
 simp (disch:=first|decide|omega) only[Je,Jg,Jl,Jp,Jw,Jx,Jy,J0,J2,J3,List.map,Dn,Dp,Ag,List.replicate,Bo,Bp,Cu,true_and,O3,B.cellAt,B.earlier]
 refine Cf B.cellAt (by decide) ?_
 try simp (disch:=first|decide|omega) only[J6]
 refine Cf B.cellAt (by decide) ?_
 try simp (disch:=first|decide|omega) only[J7]
 generalize hk:cell ns (2:Int).toNat%8=kind
 generalize hc:cell ns (2:Int).toNat/8=c
 refine Ba (decide (kind=1)&&decide (3<(m:Int))) (fun Q' h'=>?_) ?_
 ·simp (disch:=first|decide|omega) only[Je,Jg,Jj,Jm,Zi,Qq,Bl,Ag,Ai];split<;>simp_all
 split
 ·rename_i hh
  simp only[Bool.and_eq_true,decide_eq_true_eq]at hh
  simp (disch:=first|decide|omega) only[Je,Jg,Jl,Jp,Jw,Jx,J0,J2,J3,J6,J8,J9,Ag,Ai]
  refine⟨by rw[B.earlier];rfl,?_⟩
  have hc1:0<=c%((m:Int)-3):=Int.emod_nonneg _ (Int.ne_of_gt (Int.sub_pos_of_lt hh.2))
  exact Ry B.cellAt B.mixed B.earlier hm (.inr (Int.le_add_of_nonneg_right hc1)) q
 simp (disch:=first|decide|omega) only[J2]
 refine Ba ((decide (1<kind)&&decide (kind<5))&&decide ((m:Int)<41)) (fun Q' h'=>?_) ?_
 ·simp (disch:=first|decide|omega) only[Je,Jg,Jj,Jm,Jn,Qg,Bl,Ag,Ai]
  split<;>(try split)<;>simp_all
 split
 ·simp (disch:=first|decide|omega) only[Jg,Jp,Jw,Jx,J0,J2,J3,Ag,Ai,Cu,true_and,B.anyRows]
  exact V3 B.cellAt B.mixed B.anyRows hm q
 simp (disch:=first|decide|omega) only[J2]
 refine Ba (decide (kind=5)) (fun Q' h'=>?_) ?_
 ·simp (disch:=first|decide|omega) only[Je,Jg,Jm,Qq,Ag,Ai];exact h'
 split
 ·simp (disch:=first|decide|omega) only[Jg,Jp,Jw,Jx,J0,J2,J3,Ag,Ai,Cu,true_and,B.banded]
  exact Aba B.banded hm q
 simp (disch:=first|decide|omega) only[J2]
 refine Ba (decide (kind=6)) (fun Q' h'=>?_) ?_
 ·simp (disch:=first|decide|omega) only[Je,Jg,Jm,Qq,Ag,Ai];exact h'
 split
 ·simp (disch:=first|decide|omega) only[Jg,Jp,Jw,Jx,J0,J2,J3,Ag,Ai,Cu,true_and,B.ringed]
  exact Abd B.ringed hm q
 simp (disch:=first|decide|omega) only[J2]
 refine Ba (decide (kind=7)) (fun Q' h'=>?_) ?_
 ·simp (disch:=first|decide|omega) only[Je,Jg,Jm,Qq,Ag,Ai];exact h'
 split
 ·simp (disch:=first|decide|omega) only[Jg,Jp,Jw,Jx,J0,J2,J3,Ag,Ai,Cu,true_and,B.hubbed]
  exact Abb B.hubbed hm q
 simp (disch:=first|decide|omega) only[J2,Ag,Ai]
 exact Ry B.cellAt B.mixed B.earlier hm (.inl rfl) q
set_option linter.all false
variable {G:Aw} {n:Nat} {H H':AH} {Q:Ah} {E:EP} {C:CS} {ρ:Ak}
theorem Ab{o:O}(q:∀a H',Ad H H'->H a=none->H' a=some o->Q (.ref a) H'):Ay o H Q:=fun a ha=>q a _ (Ad.upd ha) ha Ac
noncomputable def Rz(p:Int×Int):O:= .tuple [.int p.1,.int p.2]
noncomputable def Az(H:AH)(as:List Nat)(ps:List (Int×Int)):Prop:=as.map H=ps.map fun p=>some (Rz p)
theorem Az.len{as:List Nat}{ps:List (Int×Int)}(h:Az H as ps):as.length=ps.length:=by
 have:=congrArg List.length h
 simpa using this
theorem Az.at_{as:List Nat}{ps:List (Int×Int)}{i x:Nat}{p:Int×Int}(h:Az H as ps)(h1:as[i]? = some x)(h2:ps[i]? = some p):H x=some (Rz p):=by
 have:=congrArg (fun l=>l[i]?) h
 simpa[h1,h2]using this
theorem Az.ex{as:List Nat}{ps:List (Int×Int)}{i x:Nat}(h:Az H as ps)(h1:as[i]? = some x):∃p,ps[i]? = some p/\H x=some (Rz p):=by
 have hl:=(List.getElem?_eq_some_iff.mp h1).1
 rw[h.len]at hl
 exact⟨_,List.getElem?_eq_getElem hl,h.at_ h1 (List.getElem?_eq_getElem hl)⟩
theorem Az.ext'{as:List Nat}{ps:List (Int×Int)}(h:Az H as ps)(e:∀x∈as,∀o,H x=some o->H' x=some o):Az H' as ps:=by
 unfold Az at *
 rw[<-h]
 refine List.map_congr_left fun x hx=>?_
 obtain⟨i,hi⟩:=List.mem_iff_getElem?.mp hx
 obtain⟨p,_,hp⟩:=Az.ex (H:=H) (ps:=ps) h hi
 rw[hp]
 exact e x hx _ hp
theorem Az.ext{as:List Nat}{ps:List (Int×Int)}(h:Az H as ps)(e:Ad H H'):Az H' as ps:=h.ext' fun x _ o q=>e x o q
theorem Az.app{as bs:List Nat}{ps qs:List (Int×Int)}(h:Az H as ps)(h':Az H bs qs):Az H (as++bs) (ps++qs):=by
 unfold Az at *
 rw[List.map_append,List.map_append,h,h']
theorem Az.take{as:List Nat}{ps:List (Int×Int)}(k:Nat)(h:Az H as ps):Az H (as.take k) (ps.take k):=by
 unfold Az at *
 rw[List.map_take,List.map_take,h]
theorem Az.drop{as:List Nat}{ps:List (Int×Int)}(k:Nat)(h:Az H as ps):Az H (as.drop k) (ps.drop k):=by
 unfold Az at *
 rw[List.map_drop,List.map_drop,h]
theorem Az.one{x:Nat}{p:Int×Int}(h:H x=some (Rz p)):Az H [x] [p]:=by
 unfold Az;simp[h]
theorem Op{a:Nat}{xs:List V}{l u:V}{l' u':Option Int}(h:H a=some (.list xs))(hl:bound? l=some l')(hu:bound? u=some u'):Dh (.ref a) l u .none H Q=Ay (.list (cut xs l' u')) H Q:=by
 delta Dh;(try dsimp only[A2]);rw[hl];(try dsimp only[Ey]);rw[hu];(try dsimp only[Ey]);rw[h];(try dsimp only[F8])
theorem D4{a:Nat}{xs:List V}{l u:V}{l' u':Option Int}(h:H a=some (.list xs))(hl:bound? l=some l')(hu:bound? u=some u')(kk:Ay (.list (cut xs l' u')) H Q):Dh (.ref a) l u .none H Q:=Eq.mpr (Op h hl hu) kk
theorem Gj:bound? .none=some none:=rfl
theorem F7{k:Int}:bound? (.int k)=some (some k):=rfl
theorem V4{xs:List V}{k:Int}(h:0<=k):cut xs none (some k)=xs.take k.toNat:=by
 unfold cut D9
 simp only[if_neg (show ¬k<0 by exact Q86 h),List.drop_zero]
 rcases Nat.le_total k.toNat xs.length with q|q
 ·rw[Nat.min_eq_left q]
 ·rw[Nat.min_eq_right q,List.take_of_length_le q,List.take_of_length_le (Nat.le_refl _)]
theorem Lk{xs:List V}{k:Int}(h:0<=k):cut xs (some k) none=xs.drop k.toNat:=by
 unfold cut D9
 simp only[if_neg (show ¬k<0 by exact Q86 h),List.take_length]
 rcases Nat.le_total k.toNat xs.length with q|q
 ·rw[Nat.min_eq_left q]
 ·rw[Nat.min_eq_right q,List.drop_of_length_le q,List.drop_of_length_le (Nat.le_refl _)]
theorem Adp{xs:List V}{k l:Int}(h:0<=k)(h':0<=l):cut xs (some k) (some l)=(xs.take l.toNat).drop k.toNat:=by
 unfold cut D9
 simp only[if_neg (show ¬k<0 by exact Q86 h),if_neg (show ¬l<0 by exact Q86 h')]
 have e:xs.take (min l.toNat xs.length)=xs.take l.toNat:=by
  rcases Nat.le_total l.toNat xs.length with q|q
  ·rw[Nat.min_eq_left q]
  ·rw[Nat.min_eq_right q,List.take_of_length_le q,List.take_of_length_le (Nat.le_refl _)]
 rw[e]
 rcases Nat.le_total k.toNat xs.length with q|q
 ·rw[Nat.min_eq_left q]
 ·rw[Nat.min_eq_right q,List.drop_of_length_le (by simp;exact(Nat.min_le_right _ _)),List.drop_of_length_le (by simp;exact(Nat.le_trans (Nat.min_le_right _ _) q))]
theorem Afw{a b:Nat}{xs ys:List V}(h:H a=some (.list xs))(h':H b=some (.list ys))(hl:xs.length+ys.length<=1048576):Et .Add (.ref a) (.ref b) H Q=Ay (.list (xs++ys)) H Q:=by
 delta Et;(try dsimp only);(first|delta Wo|delta Wp|skip);(try dsimp only[A2,Ax]);rw[h];(try dsimp only[F8]);rw[h'];(try dsimp only[F8])
 exact propext ⟨fun h=>h.2,fun q=>⟨hl,q⟩⟩
theorem C4{a b:Nat}{xs ys:List V}(h:H a=some (.list xs))(h':H b=some (.list ys))(hl:xs.length+ys.length<=1048576)(kk:Ay (.list (xs++ys)) H Q):Et .Add (.ref a) (.ref b) H Q:=Eq.mpr (Afw h h' hl) kk
theorem Afx{a:Nat}{xs:List V}{k:Int}(h:H a=some (.list xs))(h0:0<=k)(h1:k<=1000)(hl:xs.length*k.toNat<=1048576):Et .Mult (.ref a) (.int k) H Q=Ay (.list (List.replicate k.toNat xs).flatten) H Q:=by
 delta Et;(try dsimp only);(first|delta Wo|delta Wp|skip);(try dsimp only[A2,Ax]);rw[h];(try dsimp only[F8])
 exact propext ⟨fun h=>h.2,fun q=>⟨⟨h0,h1,hl⟩,q⟩⟩
theorem Adq{a:Nat}{xs:List V}{k:Int}(h:H a=some (.list xs))(h0:0<=k)(h1:k<=1000)(hl:xs.length*k.toNat<=1048576)(kk:Ay (.list (List.replicate k.toNat xs).flatten) H Q):Et .Mult (.ref a) (.int k) H Q:=Eq.mpr (Afx h h0 h1 hl) kk
noncomputable def Xj(ns:List Int)(m:Nat)(rows:List (List Int))(p:Int×Int):Prop:=
 (Ex3 fun(k:Nat) (r:List Int) (one:Int)=>E6 (rows[k]? = some r) (one∈r) ((p=(Be ns m k,Be ns m one)\/p=(Be ns m one,Be ns m k))))
noncomputable def Abe(ns:List Int)(m:Nat)(rows:List (List Int))(ps:List (Int×Int)):Prop:=
 (∀p∈ps,Xj ns m rows p)/\∀(k:Nat) (r:List Int) (one:Int),rows[k]? = some r->one∈r->(Be ns m k,Be ns m one)∈ps\/(Be ns m one,Be ns m k)∈ps
structure TB(H H':AH)(t:Nat)(as:List Nat)(ps:List (Int×Int)):Prop where
 ext:Ad H H'
 new:H t=none
 at_:H' t=some (.list (as.map V.ref))
 prs:Az H' as ps
 ne:∀x∈as,x≠t
theorem TB.snoc{t x:Nat}{as:List Nat}{ps:List (Int×Int)}{p:Int×Int}{H₁:AH}(b:TB H H' t as ps)(e:Ad H' H₁)(hn:H' x=none)(hx:H₁ x=some (Rz p)):TB H (upd H₁ t (.list (as.map V.ref ++ [.ref x]))) t (as ++ [x]) (ps ++ [p]):=by
 have hxt:x≠t:=fun q=>by rw[q,b.at_]at hn;cases hn
 have hne:∀y∈as ++ [x],y≠t:=fun y hy=>by
  rcases List.mem_append.mp hy with hy|hy
  ·exact b.ne y hy
  ·simp at hy;rw[hy];exact hxt
 refine⟨(b.ext.trans e).upd' b.new,b.new,by rw[Ac];simp,((b.prs.ext e).app (Az.one hx)).ext' fun y hy o q=>by rw[upd_ne (hne y hy)];exact q,hne⟩
theorem Afy(B:G1 G){ns:List Int}{m a:Nat}{as:List Nat}{rows:List (List Int)}(hm:m<=60)(hA:H a=some (.list (as.map V.ref)))(hR:D3 H as rows)(hW:Wf m rows)
 (q:∀t ts ps H',Ad H H'->H t=none->H' t=some (.list (ts.map V.ref))->Az H' ts ps->Abe ns m rows ps->ps.length<=4000->Q (.ref t) H') :
 Af G (n+3) "_law_ties" [.script ns,.int m,.ref a] H Q E:=by
 refine Aj B.ties rfl ?_
 simp (disch:=first|decide|omega) only[Jc,Je,Jg,Jl,Jt,Ju,Jw,Jy,J0,J2,J3,List.map,Dn,Dp,List.replicate,Bo,Bp,O4]
 intro t ht
 refine Uy ?_
 simp (disch:=first|decide|omega) only[Jg,Jw,Jx,Oo,Ag,Ai]
 refine Qt (fun i r4 r5 r6 ts ps=>[some (.script ns),some (.int m),some (.ref a),some (.ref t),r4,r5,r6]) (fun i r4 r5 r6 ts ps H'=>Td (TB H H' t ts ps) (ps.length<=60*i) ((∀p∈ps,Xj ns m rows p)) (∀(k:Nat) (r:List Int) (one:Int),k<i->rows[k]? = some r->one∈r->(Be ns m k,Be ns m one)∈ps\/(Be ns m one,Be ns m k)∈ps)) none none none [] [] rfl ⟨⟨Ad.upd ht,ht,Ac,rfl,fun _ h=>absurd h List.not_mem_nil⟩,Nat.le_refl _,fun _ h=>absurd h List.not_mem_nil,by(first|lia|omega)⟩ ?_ ?_
 ·rintro i r4 r5 r6 ts ps H' K hi hP12 hK
  refine Aa fun nY=>?_
  obtain⟨b,hlen,htie,hall⟩:=hP12
  have hi':i<m:=hi
  refine nY ?_;clear nY
  have hil:i<rows.length:=by rw[hW.1];exact hi'
  have hial:i<as.length:=by rw[hR.1];exact hil
  have hxi:as[i]? = some (as[i]):=List.getElem?_eq_getElem hial
  have hri:rows[i]? = some (rows[i]):=List.getElem?_eq_getElem hil
  generalize as[i]=xi at hxi
  generalize rows[i]=ri at hri
  have hok:=hW.2 i ri hri
  have hLi:LI H xi ri:=hR.2 i xi ri hxi hri
  have hsub:(as.map V.ref)[(i:Int).toNat]? = some (.ref xi):=by rw[Int.toNat_natCast,List.getElem?_map,hxi];rfl
  simp (disch:=first|decide|omega) only[J2,J3,Bo,Bp,Ko]
  refine Oz ?_
  simp (disch:=first|decide|omega) only[Jg,Js,Ag,Ai]
  refine Cy (b.ext _ _ hA) Wu hsub (Ao (b.ext _ _ hLi) ?_)
  refine Uh (fun j r5 r6 ts ps=>[some (.script ns),some (.int m),some (.ref a),some (.ref t),some (.int i),r5,r6]) (fun j r5 r6 ts ps H'=>U1 (TB H H' t ts ps) (ps.length<=60*i+j) ((∀p∈ps,Xj ns m rows p)) ((∀(k:Nat) (r:List Int) (one:Int),k<i->rows[k]? = some r->one∈r->(Be ns m k,Be ns m one)∈ps\/(Be ns m one,Be ns m k)∈ps)) (∀one∈ri.take j,(Be ns m i,Be ns m one)∈ps\/(Be ns m one,Be ns m i)∈ps)) _ _ ts ps rfl ⟨b,hlen,htie,hall,fun _ h=>absurd h List.not_mem_nil⟩ ?_ ?_ ?_
  ·rintro j r5 r6 ts ps H' ⟨b,_⟩
   exact b.ext _ _ hLi
  ·rintro j v r5 r6 ts ps H' K' hv hP13 hK'
   refine Aa fun nY=>?_
   obtain⟨b,hlen,htie,hall,hj⟩:=hP13
   rw[List.getElem?_map]at hv
   obtain⟨one,hone,rfl⟩:=Option.map_eq_some_iff.mp hv
   have hmem:=List.mem_of_getElem? hone
   have hone2:=hok.2 one hmem
   have hjl:=(List.getElem?_eq_some_iff.mp hone).1
   have hrl:=hok.1
   refine nY ?_;clear nY
   simp (disch:=first|decide|omega) only[Jg,Jp,Jv,Jw,Jx,Jy,Jz,J2,J3,Ag,Ai,Bo,Bp,Cu,true_and,Kn,B.name]
   refine V2 B.cellAt B.name (Q89 hi') (Q90 hm) ?_
   refine V2 B.cellAt B.name (Q89 hi') (Q90 hm) ?_
   generalize hnk:Be ns m i=nk
   generalize hno:Be ns m one=no
   intro x hx
   have done:∀(y:Nat) (p:Int×Int) (H₁:AH),Ad H' H₁->H' y=none->H₁ y=some (Rz p)->(p=(nk,no)\/p=(no,nk))->
    Br G (Af G (n+2)) [.expr (.lm .append (.var 3) [(.var 6)])] [some (.script ns),some (.int m),some (.ref a),some (.ref t),some (.int i),some (.int one),some (.ref y)] H₁ K' Q E:=by
    intro y p H₁ e hy hp hpp
    have ht1:=e _ _ b.at_
    have hl:(ts.map V.ref).length<1048576:=by rw[List.length_map,b.prs.len];exact Nat.lt_of_le_of_lt (Nat.le_trans hlen (Nat.add_le_add (Nat.mul_le_mul_left 60 (Nat.le_trans (Nat.le_of_lt hi') hm)) (Nat.le_trans (Nat.le_of_lt hjl) (Nat.le_trans hrl (Nat.le_trans (Nat.le_of_lt hi') hm))))) (by decide)
    simp (disch:=first|decide|omega) only[Jg,Jw,Jx,Jz,J2,J3,Ag,Ai,true_and,B0,B8 ht1,Cq ht1 hl]
    refine hK' _ _ _ _ _ ⟨b.snoc e hy hp,by simp;exact(Nat.succ_le_succ hlen),?_,?_,?_⟩
    ·intro p' hp'
     refine Aa fun nY=>?_
     rcases List.mem_append.mp hp' with h|h
     ·refine nY ?_;clear nY
      exact htie p' h
     ·simp at h;subst h
      refine nY ?_;clear nY
      refine⟨i,ri,one,hri,hmem,?_⟩
      rw[hnk,hno];exact hpp
    ·intro k r o h1 h2 h3
     refine Aa fun nY=>?_
     rcases hall k r o h1 h2 h3 with h|h
     ·refine nY ?_;clear nY
      exact .inl (List.mem_append_left _ h)
     ·refine nY ?_;clear nY
      exact .inr (List.mem_append_left _ h)
    ·intro o ho
     rw[List.take_add_one,hone]at ho
     refine Aa fun nY=>?_
     rcases List.mem_append.mp ho with h|h
     ·rcases hj o h with h|h
      ·refine nY ?_;clear nY
       exact .inl (List.mem_append_left _ h)
      ·refine nY ?_;clear nY
       exact .inr (List.mem_append_left _ h)
     ·simp at h;subst h
      refine nY ?_;clear nY
      rw[hnk,hno]
      refine Aa fun nY=>?_
      rcases hpp with rfl|rfl
      ·refine nY ?_;clear nY
       exact .inl (List.mem_append_right _ List.mem_cons_self)
      ·refine nY ?_;clear nY
       exact .inr (List.mem_append_right _ List.mem_cons_self)
   refine Ba (decide (((i:Int)+one)%2=1)) (fun Q' h'=>?_) ?_
   ·simp (disch:=first|decide|omega) only[Je,Jg,Jl,Jm,J6,J8,Qq,Ag,Ai];exact h'
   split
   ·simp (disch:=first|decide|omega) only[Je,Jg,Js,Jv,Jw,Jx,Jy,J2,J3,Ag,Ai,Bo,Bp]
    refine F4 (x:= .int no) Ac (by decide) rfl ?_
    refine F4 (x:= .int nk) Ac (by decide) rfl ?_
    intro y hy
    exact done y (no,nk) _ ((Ad.upd hx).trans (Ad.upd hy)) ((Ad.upd hx).isNone hy) Ac (.inr rfl)
   ·simp (disch:=first|decide|omega) only[J2]
    exact done x (nk,no) _ (Ad.upd hx) hx Ac (.inl rfl)
  ·rintro r5 r6 ts ps H' hP14
   refine Aa fun nY=>?_
   obtain⟨b,hlen,htie,hall,hj⟩:=hP14
   refine nY ?_;clear nY
   refine hK _ _ _ ts ps _ ⟨b,?_,htie,?_⟩
   ·rw[List.length_map]at hlen
    have:=hok.1
    exact Nat.le_trans hlen (Nat.add_le_add_left (Nat.le_trans this (Nat.le_trans (Nat.le_of_lt hi') hm)) _)
   ·intro k r one h1 h2 h3
    refine Aa fun nY=>?_
    by_cases hki:k=i
    ·subst hki
     rw[hri]at h2
     cases h2
     refine nY ?_;clear nY
     refine hj one ?_
     rw[List.length_map,List.take_of_length_le (Nat.le_refl _)];exact h3
    ·refine nY ?_;clear nY
     exact hall k r one (Q94 h1 hki) h2 h3
 ·rintro r4 r5 r6 ts ps H' hP15
  refine Aa fun nY=>?_
  obtain⟨b,hlen,htie,hall⟩:=hP15
  refine nY ?_;clear nY
  simp (disch:=first|decide|omega) only[Ag,Ai]
  have hlen2:ts.length<=3600:=by
   rw[b.prs.len]
   simp only[Int.toNat_natCast]at hlen
   exact Nat.le_trans hlen (Nat.mul_le_mul_left 60 hm)
  refine Ww ?_
  simp (disch:=first|decide|omega) only[Jc,Je,Jg,Jt,J4,Dn,Dp,Ag,Ai,List.replicate]
  (refine D4 b.at_ Gj F7 ?_;rw[V4 (by decide)])
  refine Ab fun s1 H₁ ets1 _ hs1v=>?_
  (try dsimp only)
  refine Ao hs1v ?_
  have p1:=(b.prs.take 3).ext ets1
  refine⟨by simp[Bq];exact(Nat.le_trans (Nat.min_le_left _ _) (by decide)),?_⟩
  have hat1:=ets1 _ _ b.at_
  refine Ck (k:=0) (fun j acc H₂=>(Q9 fun us=>E6 (acc=us.map V.ref) (Ad H₁ H₂) (Az H₂ us (((ps.take 3).take j).map fun p=>(p.2,p.1))))) ⟨[],rfl,Ad.refl,rfl⟩ ?_ ?_
  ·rintro j x acc H₂ K hx hP16 hK
   refine Aa fun nY=>?_
   obtain⟨us,rfl,e,hp⟩:=hP16
   rw[List.getElem?_map]at hx
   obtain⟨v,hv,rfl⟩:=Option.map_eq_some_iff.mp hx
   rw[<-List.map_take,List.getElem?_map]at hv
   obtain⟨y,hy,rfl⟩:=Option.map_eq_some_iff.mp hv
   obtain⟨p,hpj,hpy⟩:=p1.ex hy
   refine nY ?_;clear nY
   refine⟨e _ _ hs1v,_,rfl,?_⟩
   simp (disch:=first|decide|omega) only[Je,Jg,Js,Jv,Jw,Jx,Ag,Kp]
   refine F4 (x:= .int p.2) (e _ _ hpy) (by decide) rfl ?_
   refine F4 (x:= .int p.1) (e _ _ hpy) (by decide) rfl ?_
   refine Ab fun z H₃ e3 _ v3=>?_
   refine hK _ _ ⟨us ++ [z],by simp,e.trans e3,?_⟩
   rw[Nat.zero_add,List.take_add_one,hpj,Option.toList_some,List.map_append]
   rw[Nat.zero_add]at hp
   exact(hp.ext e3).app (Az.one (p:=(p.2,p.1)) v3)
  ·rintro acc H₂ hP17
   refine Aa fun nY=>?_
   obtain⟨us,rfl,e,hp⟩:=hP17
   refine nY ?_;clear nY
   refine⟨e _ _ hs1v,?_⟩
   have hul:us.length<=3:=by
    rw[hp.len];simp;exact Nat.min_le_left _ _
   have eA:=ets1.trans e
   refine Ab fun u Hu eu _ vu=>?_
   (try dsimp only)
   refine C4 ((eA.trans eu) _ _ b.at_) vu (by simp;exact(Nat.le_trans (Nat.add_le_add hlen2 hul) (by decide))) ?_
   refine Ab fun s2 H₃ e2 _ v2=>?_
   (try dsimp only)
   have e3:=(eA.trans eu).trans e2
   (refine D4 (e3 _ _ b.at_) F7 F7 ?_;rw[Adp (by decide) (by decide)])
   refine Ab fun s3 H₄ e4 _ v4=>?_
   (try dsimp only)
   refine C4 (e4 _ _ v2) v4 (by simp;exact(Nat.le_trans (Nat.add_le_add (Nat.add_le_add hlen2 hul) (Nat.le_trans (Nat.sub_le _ _) (Nat.min_le_left _ _))) (by decide))) ?_
   refine Ab fun s4 H₅ e5 _ v5=>?_
   (try dsimp only)
   have e35:=(e3.trans e4).trans e5
   (refine D4 (e35 _ _ b.at_) Gj F7 ?_;rw[V4 (by decide)])
   refine Ab fun s5 H₆ e6 _ v6=>?_
   (try dsimp only)
   refine Adq v6 (by decide) (by decide) (by simp;exact(Nat.le_trans (Nat.mul_le_mul_right 2 (Nat.min_le_left _ _)) (by decide))) ?_
   refine Ab fun s6 H₇ e7 _ v7=>?_
   (try dsimp only)
   refine C4 ((e6.trans e7) _ _ v5) v7 (by simp;exact(Nat.le_trans (Nat.add_le_add (Nat.add_le_add hlen2 (Nat.add_le_add hul (Nat.le_trans (Nat.sub_le _ _) (Nat.min_le_left _ _)))) (Nat.add_le_add (Nat.min_le_left _ _) (Nat.min_le_left _ _))) (by decide))) ?_
   refine Ab fun s7 H₈ e8 n8 v8=>?_
   have e7a:=(e35.trans e6).trans e7
   have eAll:=e7a.trans e8
   have hn7:H s7=none:=b.ext.isNone (e7a.isNone n8)
   have P:=b.prs.ext eAll
   have P':=hp.ext ((((((eu.trans e2).trans e4).trans e5).trans e6).trans e7).trans e8)
   refine q s7 (ts++us++(ts.take 4).drop 1++(ts.take 1++ts.take 1)) (ps++_++(ps.take 4).drop 1++(ps.take 1++ps.take 1)) _ (b.ext.trans eAll) hn7 ?_ (((P.app P').app ((P.take 4).drop 1)).app ((P.take 1).app (P.take 1))) ⟨?_,?_⟩ ?_
   ·rw[v8]
    simp[List.replicate,List.map_take]
   ·intro p hp
    have sub:∀p,p∈ps->Xj ns m rows p:=htie
    simp only[List.mem_append]at hp
    refine Aa fun nY=>?_
    rcases hp with((h|h)|h)|(h|h)
    ·refine nY ?_;clear nY
     exact htie p h
    ·obtain⟨p',h',rfl⟩:=List.mem_map.mp h
     obtain⟨k,r,one,h1,h2,h3⟩:=htie p' (List.mem_of_mem_take (List.mem_of_mem_take h'))
     refine nY ?_;clear nY
     refine⟨k,r,one,h1,h2,?_⟩
     refine Aa fun nY=>?_
     rcases h3 with rfl|rfl
     ·refine nY ?_;clear nY
      exact .inr rfl
     ·refine nY ?_;clear nY
      exact .inl rfl
    ·refine nY ?_;clear nY
     exact htie p (List.mem_of_mem_take (List.mem_of_mem_drop h))
    ·refine nY ?_;clear nY
     exact htie p (List.mem_of_mem_take h)
    ·refine nY ?_;clear nY
     exact htie p (List.mem_of_mem_take h)
   ·intro k r one h1 h2
    have hk:k<rows.length:=(List.getElem?_eq_some_iff.mp h1).1
    rw[hW.1]at hk
    refine Aa fun nY=>?_
    rcases hall k r one hk h1 h2 with h|h
    ·refine nY ?_;clear nY
     exact .inl (by simp[h])
    ·refine nY ?_;clear nY
     exact .inr (by simp[h])
   ·have:=b.prs.len
    have h8:=hp.len
    simp only[List.length_append,List.length_take,List.length_drop,<-h8]
    exact Ais hlen2 hul this
set_option linter.all false
/-! sorting -/
theorem E5(x:Int)(l:List Int):(N8 x l).Perm (x::l):=by
 induction l with
 | nil=>exact List.Perm.refl _
 | cons y r ih=>
   unfold N8
   split
   ·exact List.Perm.refl _
   ·exact(ih.cons y).trans (List.Perm.swap x y r)
theorem Cj(l:List Int):(Bd l).Perm l:=by
 induction l with
 | nil=>exact List.Perm.refl _
 | cons x r ih=>exact(E5 x (Bd r)).trans (ih.cons x)
theorem Dc{x:Int}{l:List Int}:x∈Bd l↔x∈l:=(Cj l).mem_iff
theorem Mn(l:List Int):(Bd l).length=l.length:=(Cj l).length_eq
theorem Fy{x:Int}{l:List Int}(h:l.Pairwise (· <= ·)):(N8 x l).Pairwise (· <= ·):=by
 induction l with
 | nil=>simp[N8]
 | cons y r ih=>
   unfold N8
   split
   ·rename_i q
    refine List.pairwise_cons.mpr ⟨fun z hz=>?_,h⟩
    rcases List.mem_cons.mp hz with rfl|hz
    ·exact q
    ·have:=(List.pairwise_cons.mp h).1 z hz;exact Int.le_trans q this
   ·rename_i q
    refine List.pairwise_cons.mpr ⟨fun z hz=>?_,ih (List.pairwise_cons.mp h).2⟩
    rcases List.mem_cons.mp ((E5 x r).mem_iff.mp hz)with rfl|hz
    ·exact Aer q
    ·exact(List.pairwise_cons.mp h).1 z hz
theorem D1(l:List Int):(Bd l).Pairwise (· <= ·):=by
 induction l with
 | nil=>exact List.Pairwise.nil
 | cons x r ih=>exact Fy ih
theorem Mo{l:List Int}(h:l.Nodup):(Bd l).Pairwise (· < ·):=by
 have h1:=D1 l
 have h2:(Bd l).Nodup:=(Cj l).nodup_iff.mpr h
 have:=List.Pairwise.and h1 h2
 exact this.imp fun⟨a,b⟩=>(Int.lt_iff_le_and_ne.mpr ⟨a,b⟩)
theorem V5:∀ {l l':List Int},l.Pairwise (· < ·)->l'.Pairwise (· < ·)->(∀x,x∈l↔x∈l')->l=l':=by
 intro l
 induction l with
 | nil=>exact fun {l'} _ _ h=>by cases l' with
   | nil=>rfl
   | cons y _=>exact absurd ((h y).mpr List.mem_cons_self) List.not_mem_nil
 | cons x r ih=>exact fun {l'} h1 h2 h=>by cases l' with
   | nil=>exact absurd ((h x).mp List.mem_cons_self) List.not_mem_nil
   | cons y s=>
     have a1:=List.pairwise_cons.mp h1
     have a2:=List.pairwise_cons.mp h2
     have hxy:x=y:=(List.mem_cons.mp ((h x).mp List.mem_cons_self)).elim id fun q=>(List.mem_cons.mp ((h y).mpr List.mem_cons_self)).elim Eq.symm fun q'=>absurd (a2.1 x q) (Int.lt_asymm (a1.1 y q'))
     subst hxy
     exact congrArg _ (ih a1.2 a2.2 fun z=>⟨fun hz=>(List.mem_cons.mp ((h z).mp (List.mem_cons_of_mem _ hz))).elim (fun q=>absurd (q▸a1.1 z hz) (Int.lt_irrefl _)) id,fun hz=>(List.mem_cons.mp ((h z).mpr (List.mem_cons_of_mem _ hz))).elim (fun q=>absurd (q▸a2.1 z hz) (Int.lt_irrefl _)) id⟩)
theorem P0{x:Int}{l:List Nat}:x∈Lj l↔0<=x/\x.toNat∈l:=by
 unfold Lj
 rw[List.mem_map]
 constructor
 ·rintro⟨a,h,rfl⟩;simpa using h
 ·rintro⟨h,h'⟩;exact⟨x.toNat,h',(Q15 h)⟩
theorem S0{m:Nat}(p:Nat->Bool):(Lj ((List.range m).filter p)).Pairwise (· < ·):=by
 unfold Lj
 rw[List.pairwise_map]
 exact(List.pairwise_lt_range.filter p).imp fun h=>(Xy h)
noncomputable def Am(m:Nat)(A:Nat->Nat->Bool)(i:Nat):List Int:=Lj ((List.range m).filter (A i))
theorem Ar{m:Nat}{A:Nat->Nat->Bool}{i:Nat}{x:Int}:x∈Am m A i↔0<=x/\x<m/\A i x.toNat=true:=by
 unfold Am
 rw[P0,List.mem_filter,List.mem_range]
 constructor
 ·rintro⟨h1,h2,h3⟩;exact⟨h1,(Q3 h2),h3⟩
 ·rintro⟨h1,h2,h3⟩;exact⟨h1,(Q10 h1 h2),h3⟩
theorem Ff{m:Nat}{A:Nat->Nat->Bool}{i:Nat}:(Am m A i).length<=m:=by
 unfold Am Lj
 rw[List.length_map]
 exact Nat.le_trans (List.length_filter_le _ _) (by simp)
theorem Uk{m:Nat}{A:Nat->Nat->Bool}{i:Nat}{l:List Int}(h:l.Nodup)(hm:∀x,x∈l↔0<=x/\x<m/\A i x.toNat=true):Bd l=Am m A i:=
 V5 (Mo h) (S0 _) fun x=>by rw[Dc,hm];exact Ar.symm
variable {G:Aw} {n:Nat} {H H':AH} {Q:Ah} {E:EP} {C:CS} {ρ:Ak}
structure I9(H H':AH)(a:Nat)(as:List Nat)(m:Nat)(f:Nat->O):Prop where
 ext:Ad H H'
 new:H a=none
 at_:H' a=some (.list (as.map V.ref))
 len:as.length=m
 nodup:as.Nodup
 na:a∉as
 fr:∀x∈as,H x=none
 obj:∀(i x:Nat),as[i]? = some x->H' x=some (f i)
theorem Yv{as:List Nat}{i j x:Nat}(h:as.Nodup)(h1:as[i]? = some x)(h2:as[j]? = some x):i=j:=by
 obtain⟨a1,a2⟩:=List.getElem?_eq_some_iff.mp h1
 obtain⟨b1,b2⟩:=List.getElem?_eq_some_iff.mp h2
 have h':=List.pairwise_iff_getElem.mp h
 rcases Nat.lt_trichotomy i j with q|q|q
 ·exact absurd (a2.trans b2.symm) (h' i j a1 b1 q)
 ·exact q
 ·exact absurd (b2.trans a2.symm) (h' j i b1 a1 q)
theorem I9.set{a m i x:Nat}{as:List Nat}{f:Nat->O}(c:I9 H H' a as m f)(hx:as[i]? = some x)(o:O):I9 H (upd H' x o) a as m (fun j=>if j=i then o else f j):=by
 have hxm:=List.mem_of_getElem? hx
 have hxa:a≠x:=fun q=>c.na (q▸hxm)
 refine⟨c.ext.upd' (c.fr x hxm),c.new,by rw[upd_ne hxa];exact c.at_,c.len,c.nodup,c.na,c.fr,fun j y hy=>?_⟩
 by_cases hj:j=i
 ·subst hj
  rw[hx]at hy;cases hy
  rw[if_pos rfl,Ac]
 ·rw[if_neg hj,upd_ne (fun q=>hj (Yv c.nodup hy (by rw[q];exact hx)))]
  exact c.obj j y hy
theorem I9.get{a m i:Nat}{as:List Nat}{f:Nat->O}(c:I9 H H' a as m f)(hi:i<m):(Q9 fun x=>E6 (as[i]? = some x) ((as.map V.ref)[i]? = some (.ref x)) (H' x=some (f i))):=by
 have h:i<as.length:=by rw[c.len];exact hi
 refine⟨as[i],List.getElem?_eq_getElem h,?_,c.obj i _ (List.getElem?_eq_getElem h)⟩
 rw[List.getElem?_map,List.getElem?_eq_getElem h];rfl
theorem I9.congr{a m:Nat}{as:List Nat}{f f':Nat->O}(c:I9 H H' a as m f)(h:∀i,i<m->f i=f' i):I9 H H' a as m f':=
 ⟨c.ext,c.new,c.at_,c.len,c.nodup,c.na,c.fr,fun i x hx=>by
  have:=(List.getElem?_eq_some_iff.mp hx).1
  rw[<-h i (by rw[<-c.len];exact this)];exact c.obj i x hx⟩
theorem Mp{m:Nat}{elt:Ak->AH->(Option V->AH->Prop)->Prop}{o:O}{K:Ah}{y:Option V}
 (step:∀i H' K,i<m->(∀x,H' x=none->K (some (.ref x)) (upd H' x o))->elt (some (.int i)::ρ) H' K)
 (fin:∀as H' a,H' a=none->I9 H (upd H' a (.list (as.map V.ref))) a as m (fun _=>o)->K (.ref a) (upd H' a (.list (as.map V.ref)))) :
 Bm (fun _=>True) (.one 0) elt (fun vs H=>Ay (.list vs) H K) ((List.range m).map fun(i:Nat)=> .v (.int i)) [] (y::ρ) H:=by
 refine Ck (k:=0) (fun i acc H'=>(Q9 fun as=>An6 (acc=as.map V.ref) (Ad H H') (as.length=i) (as.Nodup) ((∀x∈as,H x=none)) (∀x∈as,H' x=some o))) ⟨[],rfl,Ad.refl,rfl,List.nodup_nil,fun _ h=>absurd h List.not_mem_nil,fun _ h=>absurd h List.not_mem_nil⟩ ?_ ?_
 ·rintro i x acc H' K' hx ⟨as,rfl,h1,h2,h3,h4,h5⟩ hK
  rw[List.getElem?_map]at hx
  obtain⟨j,hj,rfl⟩:=Option.map_eq_some_iff.mp hx
  obtain⟨hlt,he⟩:=List.getElem?_eq_some_iff.mp hj
  simp at hlt he
  subst he
  refine⟨trivial,_,rfl,step i H' K' hlt fun x hx0=>hK _ _ ⟨as ++ [x],by simp,h1.trans (Ad.upd hx0),by simp[h2],?_,?_,?_⟩⟩
  ·rw[List.nodup_append]
   refine⟨h3,List.pairwise_singleton _ _,fun a ha b hb q=>?_⟩
   simp at hb
   subst hb q
   rw[h5 a ha]at hx0;cases hx0
  ·intro y hy
   rcases List.mem_append.mp hy with hy|hy
   ·exact h4 y hy
   ·simp at hy;subst hy;exact h1.isNone hx0
  ·intro y hy
   rcases List.mem_append.mp hy with hy|hy
   ·exact(Ad.upd hx0) _ _ (h5 y hy)
   ·simp at hy;subst hy;exact Ac
 ·rintro acc H' ⟨as,rfl,h1,h2,h3,h4,h5⟩
  refine⟨trivial,fun a ha=>fin as H' a ha ?_⟩
  have hna:a∉as:=fun q=>by rw[h5 a q]at ha;cases ha
  exact⟨h1.trans (Ad.upd ha),h1.isNone ha,Ac,by simpa using h2,h3,hna,h4,fun i x hx=>(Ad.upd ha) _ _ (h5 x (List.mem_of_getElem? hx))⟩
theorem Ll{a:Nat}{as:List Nat}{ps:List (Int×Int)}{t u:Nat}{body:Ak->AH->(Ak->AH->Prop)->Prop}{N:Ak->AH->Prop}(I:Nat->Ak->AH->Prop)(h0:I 0 ρ H)(hg:∀i ρ H,I i ρ H->H a=some (.list (as.map V.ref))/\Az H as ps)
 (step:∀i p ρ H K,ps[i]? = some p->I i ρ H->(∀ρ'' H'',I (i+1) ρ'' H''->K ρ'' H'')->body ((ρ.set t (some (.int p.1))).set u (some (.int p.2))) H K) (fin:∀ρ H,I ps.length ρ H->N ρ H) :
 Df (fun H=>H a=some (.list (as.map V.ref))) (.two t u) body N ((as.map V.ref).map .v) ρ H:=by
 have hl:as.length=ps.length:=(hg _ _ _ h0).2.len
 refine I4 (k:=0) I h0 (fun i x ρ H K hx hI hK=>⟨(hg _ _ _ hI).1,?_⟩) fun ρ H hI=>⟨(hg _ _ _ hI).1,fin ρ H (by simpa[hl]using hI)⟩
 rw[List.getElem?_map,List.getElem?_map]at hx
 refine Aa fun nY=>?_
 obtain⟨v,hv,rfl⟩:=Option.map_eq_some_iff.mp hx
 obtain⟨x,hx',rfl⟩:=Option.map_eq_some_iff.mp hv
 obtain⟨p,hp,hpx⟩:=(hg _ _ _ hI).2.ex hx'
 refine nY ?_;clear nY
 show (match H x with|some (.tuple [x,y])=>body ((ρ.set t (some x)).set u (some y)) H K|_=>False)
 rw[hpx]
 exact step i p ρ H K hp (by simpa using hI) fun ρ'' H'' h=>hK ρ'' H'' (by simpa using h)
set_option linter.all false
variable {G:Aw} {n:Nat} {H H':AH} {Q:Ah} {E:EP} {C:CS} {ρ:Ak}
theorem Afz{g:Str}{v:V}(h:G.const g=some v):Av G C (.glob g) ρ H Q E=Q v H:=by rw[A6,h]
theorem P1(y:Int)(l:List Int):U5 (.int y) (l.map V.int)=some (decide (y∈l)):=by
 unfold U5
 induction l with
 | nil=>rfl
 | cons x r ih=>
   show (U4 ((r.map V.int).map fun z=>Zh z (.int y))).map (decide (x=y) || ·)=_
   rw[ih]
   simp only[Option.map_some,List.mem_cons]
   congr 1
   rw[show decide (x=y)=decide (y=x)from decide_eq_decide.mpr eq_comm]
   by_cases h:y=x<;>by_cases h':y∈r<;>simp[h,h']
theorem Yw{y:Int}{a:Nat}{l:List Int}(h:LI H a l):Bg .In (.int y) (.ref a) H Q=Q (.bool (decide (y∈l))) H:=by
 unfold LI at h
 delta Bg;(try dsimp only);(try delta Se);(try dsimp only[A2]);rw[h];(try dsimp only[Ax]);rw[P1];(try dsimp only[Ey])
theorem Hr{y:Int}{a:Nat}{l:List Int}(h:LI H a l):Bg .NotIn (.int y) (.ref a) H Q=Q (.bool (!decide (y∈l))) H:=by
 unfold LI at h
 delta Bg;(try dsimp only);(try delta Se);(try dsimp only[A2]);rw[h];(try dsimp only[Ax]);rw[P1];(try dsimp only[Ey])
theorem G2(l:List Int):ints? (l.map V.int)=some l:=by
 induction l with
 | nil=>rfl
 | cons x r ih=>exact(show ints? ((x::r).map V.int)=(ints? (r.map V.int)).map (x :: ·)from rfl).trans (by rw[ih];rfl)
theorem Oq{a:Nat}{l:List Int}(h:LI H a l)(hl:l.length<64):C9 .sorted [.ref a] H Q=Ay (.list ((Bd l).map V.int)) H Q:=by
 unfold LI at h
 delta C9;dsimp only;(first|delta Nb|delta Ik|delta G7|delta Nc|delta U6|delta G8);(try dsimp only[A2,Ax,U3,Na,Ti]);rw[h];(try dsimp only[F8,U2]);rw[G2];(try dsimp only[F8,Ey])
 exact propext ⟨fun h=>h.2,fun q=>⟨hl,q⟩⟩
theorem P2{a:Nat}{l:List Int}(h:LI H a l)(hl:l.length<64)(kk:Ay (.list ((Bd l).map V.int)) H Q):C9 .sorted [.ref a] H Q:=Eq.mpr (Oq h hl) kk
theorem Xk{a:Nat}{es:List (Int×V)}(h:H a=some (.dict es))(hl:es.length<64):C9 .sorted [.ref a] H Q=Ay (.list ((Bd (es.map (·.1))).map V.int)) H Q:=by
 delta C9;dsimp only;(first|delta Nb|delta Ik|delta G7|delta Nc|delta U6|delta G8);(try dsimp only[A2,Ax,U3,Na,Ti]);rw[h];(try dsimp only[F8,U2])
 exact propext ⟨fun h=>h.2,fun q=>⟨hl,q⟩⟩
theorem S1{a:Nat}{es:List (Int×V)}{k:Int}{v:V}{N:AH->Prop}(h:H a=some (.dict es))(hl:es.length<1048576):setItem (.ref a) (.int k) v H N=N (upd H a (.dict (Di es k v))):=by
 delta setItem;(try dsimp only[A2,Ax]);rw[h];(try dsimp only)
 exact propext ⟨fun h=>h.2,fun q=>⟨hl,q⟩⟩
theorem Kf(es:List (Int×V))(k:Int)(v:V):(Di es k v).map (·.1)=if k∈es.map (·.1)then es.map (·.1)else es.map (·.1) ++ [k]:=by
 induction es with
 | nil=>simp[Di]
 | cons e r ih=>
   obtain⟨k',v'⟩:=e
   unfold Di
   by_cases h:k=k'
   ·subst h;simp
   ·rw[if_neg h,List.map_cons,ih]
    by_cases h':k∈r.map (·.1)
    ·rw[if_pos h',if_pos (by simp only[List.map_cons];exact List.mem_cons_of_mem _ h')];rfl
    ·rw[if_neg h',if_neg (by simp only[List.map_cons,List.mem_cons];rintro(q|q);exact h q;exact h' q)];rfl
noncomputable abbrev Tf(ps:List (Int×Int))(x y:Int):Prop:=(x,y)∈ps\/(y,x)∈ps
noncomputable def Hs(ps:List (Int×Int))(i j:Nat):Bool:=decide (Tf ps i j)
noncomputable def Es(m:Nat)(ps:List (Int×Int)):Prop:=∀p∈ps,(0<=p.1/\p.1<m)/\(0<=p.2/\p.2<m)/\p.1≠p.2
theorem Tf.in_{m:Nat}{ps:List (Int×Int)}{x y:Int}(g:Es m ps)(h:Tf ps x y):(0<=x/\x<m)/\(0<=y/\y<m)/\x≠y:=by
 rcases h with h|h
 ·exact g _ h
 ·have:=g _ h;exact⟨this.2.1,this.1,Ne.symm this.2.2⟩
theorem Tf.symm{ps:List (Int×Int)}{x y:Int}(h:Tf ps x y):Tf ps y x:=Or.symm h
theorem Fg{ps:List (Int×Int)}{t:Nat}{p:Int×Int}(h:ps[t]? = some p)(x y:Int):Tf (ps.take (t+1)) x y↔Tf (ps.take t) x y\/(x=p.1/\y=p.2)\/(x=p.2/\y=p.1):=by
 obtain⟨a,b⟩:=p
 unfold Tf
 rw[List.take_add_one,h]
 simp only[Option.toList_some,List.mem_append,List.mem_singleton,Prod.mk.injEq]
 constructor
 ·rintro((h|h)|(h | ⟨h1,h2⟩))
  ·exact .inl (.inl h)
  ·exact .inr (.inl h)
  ·exact .inl (.inr h)
  ·exact .inr (.inr ⟨h2,h1⟩)
 ·rintro((h|h)|(h | ⟨h1,h2⟩))
  ·exact .inl (.inl h)
  ·exact .inr (.inl h)
  ·exact .inl (.inr h)
  ·exact .inr (.inr ⟨h2,h1⟩)
theorem Es.take{m t:Nat}{ps:List (Int×Int)}(g:Es m ps):Es m (ps.take t):=fun p hp=>g p (List.mem_of_mem_take hp)
noncomputable def Cr(H:AH)(a m:Nat)(A:Nat->Nat->Bool):Prop:=(Q9 fun(as:List Nat)=>E6 (H a=some (.list (as.map V.ref))) (as.length=m) (∀(i x:Nat),as[i]? = some x->LI H x (Am m A i)))
theorem Cr.ext{a m:Nat}{A:Nat->Nat->Bool}(h:Cr H a m A)(e:Ad H H'):Cr H' a m A:=by
 obtain⟨as,h1,h2,h3⟩:=h
 exact⟨as,e _ _ h1,h2,fun i x q=>(h3 i x q).ext e⟩
noncomputable def Cs(H:AH)(w m:Nat)(A:Nat->Nat->Bool):Prop:=(Ii fun(d rs:Nat)=>E6 (H w=some (.inst .web d)) (H d=some (.ns [(.many,.int m),(.rows,.ref rs)])) (Cr H rs m A))
theorem Cs.ext{w m:Nat}{A:Nat->Nat->Bool}(h:Cs H w m A)(e:Ad H H'):Cs H' w m A:=by
 refine Aa fun nY=>?_
 obtain⟨d,rs,h1,h2,h3⟩:=h
 refine nY ?_;clear nY
 exact⟨d,rs,e _ _ h1,e _ _ h2,h3.ext e⟩
theorem Mq{a:Nat}{as:List Nat}{row:Nat->List Int}{elt:Ak->AH->(Option V->AH->Prop)->Prop}{Q:List V->AH->Prop}{y:Option V}(hA:H a=some (.list (as.map V.ref)))
 (step:∀i x H₁ (K:Option V->AH->Prop),as[i]? = some x->Ad H H₁->(∀b,H₁ b=none->K (some (.ref b)) (upd H₁ b (.list ((row i).map V.int))))->elt (some (.ref x)::ρ) H₁ K)
 (fin:∀(bs:List Nat) H₁,Ad H H₁->bs.length=as.length->(∀(i x:Nat),bs[i]? = some x->LI H₁ x (row i))->Q (bs.map V.ref) H₁) :
 Bm (fun H'=>H' a=some (.list (as.map V.ref))) (.one 0) elt Q ((as.map V.ref).map .v) [] (y::ρ) H:=by
 refine Ck (k:=0) (fun j acc H₁=>(Q9 fun bs=>Td (acc=bs.map V.ref) (Ad H H₁) (bs.length=j) (∀(i x:Nat),bs[i]? = some x->LI H₁ x (row i)))) ⟨[],rfl,Ad.refl,rfl,fun _ _ h=>absurd h.symm (Option.some_ne_none _)⟩ ?_ ?_
 ·rintro j x acc H₁ K hx ⟨bs,rfl,e,hl,hb⟩ hK
  rw[List.getElem?_map,List.getElem?_map]at hx
  obtain⟨v,hv,rfl⟩:=Option.map_eq_some_iff.mp hx
  obtain⟨x,hx',rfl⟩:=Option.map_eq_some_iff.mp hv
  refine⟨e _ _ hA,_,rfl,step j x H₁ K hx' e fun b hb0=>hK _ _ ⟨bs ++ [b],by simp,e.trans (Ad.upd hb0),by simp[hl],fun i y hy=>?_⟩⟩
  cases Nat.lt_or_ge i bs.length with
  | inl q=>rw[List.getElem?_append_left q]at hy;exact(hb i y hy).ext (Ad.upd hb0)
  | inr q=>
    rw[List.getElem?_append_right q]at hy
    have:i-bs.length=0:=by
     obtain⟨z,_⟩:=List.getElem?_eq_some_iff.mp hy
     simp at z;exact z
    rw[this]at hy
    simp at hy
    subst hy
    have:i=j:=(Q7 hl q this)
    subst this
    exact Ac
 ·rintro acc H₁ ⟨bs,rfl,e,hl,hb⟩
  exact⟨e _ _ hA,fin bs H₁ e (by simpa using hl) hb⟩
theorem Fh{m:Nat}{l:List Int}(h:l.Nodup)(hin:∀x∈l,0<=x/\x<m):l.length<=m:=by
 have:=Uk (A:=fun _ j=>decide ((j:Int)∈l)) (i:=0) (m:=m) h fun x=>by
  constructor
  ·intro hx
   have:=hin x hx
   exact⟨this.1,this.2,by simp only[decide_eq_true_eq];rwa[Int.toNat_of_nonneg this.1]⟩
  ·rintro⟨h1,h2,h3⟩
   simp only[decide_eq_true_eq]at h3
   rwa[Int.toNat_of_nonneg h1]at h3
 have h1:=Mn l
 have h2:= @Ff m (fun _ j=>decide ((j:Int)∈l)) 0
 rw[this]at h1
 exact h1▸h2
theorem Xl{m i:Nat}{ps:List (Int×Int)}{l:List Int}(g:Es m ps)(h:l.Nodup)(hl:∀y,y∈l↔Tf ps i y):Bd l=Am m (Hs ps) i:=
 Uk h fun x=>by
  rw[hl]
  constructor
  ·intro h
   have:=h.in_ g
   refine⟨this.2.1.1,this.2.1.2,?_⟩
   unfold Hs
   rw[decide_eq_true_eq,Int.toNat_of_nonneg this.2.1.1];exact h
  ·rintro⟨h1,h2,h3⟩
   unfold Hs at h3
   rwa[decide_eq_true_eq,Int.toNat_of_nonneg h1]at h3
theorem Abf(B:G1 G){m t:Nat}{ts:List Nat}{ps:List (Int×Int)}(hm:m<=60)(hT:H t=some (.list (ts.map V.ref)))(hP:Az H ts ps)(g:Es m ps)
 (q:∀a H',Ad H H'->H a=none->Cr H' a m (Hs ps)->Q (.ref a) H'):Af G (n+1) "_law_near" [.int m,.ref t] H Q E:=by
 refine Aj B.near rfl ?_
 simp (disch:=first|decide|omega) only[Jy,J0,J2,J3,List.map,Dn,Dp,List.replicate,Bo,Bp,O5]
 refine grK ?_
 simp (disch:=first|decide|omega) only[Jg,Ju,Jw,Jx,J4,Oo,Dn,Dp,Ag,List.replicate]
 refine⟨by simp[Bq];exact Wt hm,Mp (o:= .list []) (fun i H' K hi hK=>?_) fun as H' a ha c=>?_⟩
 ·skip
  exact fun x hx=>hK x hx
 refine Oz ?_
 simp (disch:=first|decide|omega) only[Jg,Ag,Ai]
 refine Ao (c.ext _ _ hT) ?_
 refine Ll (ps:=ps) (fun j ρ H₁=>(Ex3 fun(r3 r4:Option V) (L:Nat->List Int)=>E6 (ρ = [some (.int m),some (.ref t),some (.ref a),r3,r4]) (I9 H H₁ a as m (fun i=> .list ((L i).map V.int))) (∀i,i<m->(L i).Nodup/\∀y,y∈L i↔Tf (ps.take j) i y))) ?_ ?_ ?_ ?_
 ·exact⟨none,none,fun _=>[],rfl,c,fun i hi=>⟨List.nodup_nil,fun y=>by simp[Tf]⟩⟩
 ·rintro i ρ H₁ ⟨r3,r4,L,rfl,c,hL⟩
  exact⟨c.ext _ _ hT,hP.ext c.ext⟩
 ·rintro j p ρ H₁ K hp ⟨r3,r4,L,rfl,c,hL⟩ hK
  have gp:=g p (List.mem_of_getElem? hp)
  obtain⟨x,y⟩:=p
  simp only at gp ⊢
  obtain⟨x1,hx1,hx2,hx3⟩:=c.get (i:=x.toNat) (Zo gp.1.2 gp.2.1.1 gp.2.1.2)
  have hLx:=hL x.toNat (Zo gp.1.2 gp.2.1.1 gp.2.1.2)
  have hLy:=hL y.toNat (Q10 gp.2.1.1 gp.2.1.2)
  have ex:((x.toNat:Nat):Int)=x:=(Q15 gp.1.1)
  have ey:((y.toNat:Nat):Int)=y:=(Q15 gp.2.1.1)
  simp (disch:=first|decide|omega) only[J2,J3,Bo,Bp,Kq]
  refine Ba (!decide (y∈L x.toNat)) (fun Q' h'=>?_) ?_
  ·simp (disch:=first|decide|omega) only[Jg,Jm,Js,Ag,Ai,Al c.at_ gp.1.1 hx2,Hr (show LI H₁ x1 (L x.toNat)from hx3)]
   exact h'
  split
  ·rename_i hh
   simp only[Bool.not_eq_true',decide_eq_false_iff_not]at hh
   have hnA:¬Tf (ps.take j) x y:=fun q=>hh ((hLx.2 y).mpr (by rw[ex];exact q))
   have hnx:x∉L y.toNat:=fun q=>hnA (by have:=(hLy.2 x).mp q;rw[ey]at this;exact this.symm)
   have hll:∀i,i<m->((L i).map V.int).length<1048576:=fun i hi=>by
    rw[List.length_map]
    have:=Fh (m:=m) (hL i hi).1 fun z hz=>((((hL i hi).2 z).mp hz).in_ g.take).2.1
    exact Xz hm this
   simp (disch:=first|decide|omega) only[Jg,Js,Jw,Jx,Jz,J2,J3,Ag,Ai,true_and,B0,Al c.at_ gp.1.1 hx2,B8 hx3,Cq hx3 (hll _ (X0 gp.1.2 ex))]
   have c1:=c.set hx1 (.list ((L x.toNat).map V.int ++ [.int y]))
   obtain⟨y1,hy1,hy2,hy3⟩:=c1.get (i:=y.toNat) (X0 gp.2.1.2 ey)
   rw[if_neg (show ¬y.toNat=x.toNat by exact Agt gp.2.2 ex ey)]at hy3
   simp (disch:=first|decide|omega) only[true_and,Al c1.at_ gp.2.1.1 hy2,B8 hy3,Cq hy3 (hll _ (X0 gp.2.1.2 ey))]
   have c2:=c1.set hy1 (.list ((L y.toNat).map V.int ++ [.int x]))
   refine hK _ _ ⟨_,_,fun i=>if i=y.toNat then L y.toNat ++ [x]else if i=x.toNat then L x.toNat ++ [y]else L i,rfl,c2.congr fun i hi=>?_,fun i hi=>?_⟩
   ·by_cases h1:i=y.toNat
    ·simp[h1]
    ·by_cases h2:i=x.toNat
     ·have:¬x.toNat=y.toNat:=(Agu h1 h2)
      simp[h2,this]
     ·simp[h1,h2]
   ·have nd:∀(l:List Int) (z:Int),l.Nodup->z∉l->(l ++ [z]).Nodup:=fun l z h1 h2=>by
     rw[List.nodup_append]
     exact⟨h1,List.pairwise_singleton _ _,fun a ha b hb e=>h2 (by simp at hb;rw[<-hb,<-e];exact ha)⟩
    dsimp only
    by_cases h1:i=y.toNat
    ·subst h1
     rw[if_pos rfl]
     refine⟨nd _ _ hLy.1 hnx,fun z=>?_⟩
     rw[List.mem_append,hLy.2 z,Fg hp,ey]
     simp only[List.mem_singleton]
     constructor
     ·rintro(h|rfl)
      ·exact .inl h
      ·exact .inr (.inr (⟨trivial,rfl⟩))
     ·rintro(h | ⟨h1,h2⟩ | ⟨h1,h2⟩)
      ·exact .inl h
      ·exact absurd h1.symm gp.2.2
      ·exact .inr h2
    ·rw[if_neg h1]
     by_cases h2:i=x.toNat
     ·subst h2
      rw[if_pos rfl]
      refine⟨nd _ _ hLx.1 hh,fun z=>?_⟩
      rw[List.mem_append,hLx.2 z,Fg hp,ex]
      simp only[List.mem_singleton]
      constructor
      ·rintro(h|rfl)
       ·exact .inl h
       ·exact .inr (.inl (⟨trivial,rfl⟩))
      ·rintro(h | ⟨h1,h2⟩ | ⟨h1,h2⟩)
       ·exact .inl h
       ·exact .inr h2
       ·exact absurd h1 gp.2.2
     ·rw[if_neg h2]
      refine⟨(hL i hi).1,fun z=>?_⟩
      rw[(hL i hi).2 z,Fg hp]
      constructor
      ·exact .inl
      ·rintro(h | ⟨h3,h4⟩ | ⟨h3,h4⟩)
       ·exact h
       ·simp only at h3;exact(Acc h2 h3).elim
       ·simp only at h3;exact(Acc h1 h3).elim
  ·rename_i hh
   simp only[Bool.not_eq_true',decide_eq_false_iff_not,Classical.not_not]at hh
   simp (disch:=first|decide|omega) only[J2]
   have hA:Tf (ps.take j) x y:=by have:=(hLx.2 y).mp hh;rwa[ex]at this
   refine hK _ _ ⟨_,_,L,rfl,c,fun i hi=>⟨(hL i hi).1,fun z=>?_⟩⟩
   rw[(hL i hi).2 z,Fg hp]
   constructor
   ·exact .inl
   ·rintro(h | ⟨h3,h4⟩ | ⟨h3,h4⟩)
    ·exact h
    ·rw[h3,h4];exact hA
    ·rw[h3,h4];exact hA.symm
 ·rintro ρ H₁ ⟨r3,r4,L,rfl,c,hL⟩
  rw[List.take_of_length_le (Nat.le_refl _)]at hL
  refine Ww ?_
  simp (disch:=first|decide|omega) only[Jg,J4,Dn,Dp,Ag,Ai,List.replicate]
  refine Ao c.at_ ?_
  refine⟨by simp[Bq,c.len];exact Wt hm,Mq (row:=Am m (Hs ps)) c.at_ (fun i x H₂ K hx e hK=>?_) fun bs H₂ e hbl hb b hb0=>?_⟩
  ·have hi:i<m:=by rw[<-c.len];exact(List.getElem?_eq_some_iff.mp hx).1
   have hxL:LI H₂ x (L i):=e _ _ (c.obj i x hx)
   have hlen:(L i).length<64:=by
    have:=Fh (m:=m) (hL i hi).1 fun z hz=>((((hL i hi).2 z).mp hz).in_ g).2.1
    exact Acd hm this
   simp (disch:=first|decide|omega) only[Jg,Jq,Jw,Jx,Ag,Kr,Oq hxL hlen]
   intro b hb
   have:=hK b hb
   rwa[<-Xl g (hL i hi).1 (hL i hi).2]at this
  ·exact q b _ ((c.ext.trans e).trans (Ad.upd hb0)) ((c.ext.trans e).isNone hb0) ⟨bs,Ac,by rw[hbl,c.len],fun i x hx=>(hb i x hx).ext (Ad.upd hb0)⟩
set_option linter.all false
variable {G:Aw} {n:Nat} {H H':AH} {Q:Ah} {E:EP} {C:CS} {ρ:Ak}
theorem Bn{a d:Nat}{c:Kb}{fs:List (Ct×V)}{t:Ct}{v:V}(h:H a=some (.inst c d))(h':H d=some (.ns fs))(hv:Ds fs t=some v):getAttr (.ref a) t H Q=Q v H:=by
 delta getAttr;(try dsimp only[A2]);rw[h];(try dsimp only[Ow]);rw[h'];(try dsimp only[Th]);rw[hv];(try dsimp only[Ey])
theorem M3{a d:Nat}{c:Kb}{fs:List (Ct×V)}{t:Ct}{v:V}{N:AH->Prop}(h:H a=some (.inst c d))(h':H d=some (.ns fs))(hl:fs.length<10):setAttr (.ref a) t v H N=N (upd H d (.ns (Ij fs t v))):=by
 delta setAttr;(try dsimp only[A2]);rw[h];(try dsimp only[Ow]);rw[h'];(try dsimp only[Th])
 exact propext ⟨fun h=>h.2,fun q=>⟨hl,q⟩⟩
theorem Fi{a d:Nat}{c:Kb}{fs:List (Ct×V)}{t:Ct}{v:V}{N:AH->Prop}(h:H a=some (.inst c d))(h':H d=some (.ns fs))(hl:fs.length<10)(kk:N (upd H d (.ns (Ij fs t v)))):setAttr (.ref a) t v H N:=Eq.mpr (M3 h h' hl) kk
theorem Xm(B:G1 G){m t:Nat}{ts:List Nat}{ps:List (Int×Int)}(hm:m<=60)(hT:H t=some (.list (ts.map V.ref)))(hP:Az H ts ps)(g:Es m ps)
 (q:∀w H',Ad H H'->H w=none->Cs H' w m (Hs ps)->Q (.ref w) H'):Af G (n+2) "web_of" [.int m,.ref t] H Q E:=by
 refine Aj B.webOf rfl ?_
 simp (disch:=first|decide|omega) only[Jy,J0,J2,J3,List.map,Dn,Dp,List.replicate,Tk]
 refine Ba false (fun Q' h'=>?_) ?_
 ·simp (disch:=first|decide|omega) only[Je,Jg,Jh,Jn,Jbb,Bl,Ag,Afz B.most]
  simp only[show decide ((0:Int)<=m)=true from rfl,show decide ((m:Int)<=60)=true by simp;exact Q90 hm,if_pos]
  exact h'
 rw[if_neg (by decide)]
 simp (disch:=first|decide|omega) only[J2]
 refine Oz ?_
 simp (disch:=first|decide|omega) only[Jg,Ag,Ai]
 refine Ao hT ?_
 refine Ll (ps:=ps) (fun j ρ H₁=>(Ii fun(r3 r4:Option V)=>ρ = [some (.int m),some (.ref t),r3,r4,none]/\H₁=H)) ⟨_,_,rfl,rfl⟩ ?_ ?_ ?_
 ·rintro i ρ H₁ hP18
  refine Aa fun nY=>?_
  obtain⟨r3,r4,rfl,rfl⟩:=hP18
  refine nY ?_;clear nY
  exact⟨hT,hP⟩
 ·rintro j hP19 ρ H₁ K hp hP20 hK
  refine Aa fun nY=>?_
  obtain⟨x,y⟩:=hP19
  obtain⟨r3,r4,rfl,rfl⟩:=hP20
  have gp:=g _ (List.mem_of_getElem? hp)
  refine nY ?_;clear nY
  simp only at gp ⊢
  simp (disch:=first|decide|omega) only[J2,J3,Bo,Bp,Nd]
  refine Ba false (fun Q' h'=>?_) ?_
  ·simp (disch:=first|decide|omega) only[Je,Jg,Jh,Jk,Jm,Jn,Qg,Jbb,Qq,Bl,Ag,Ai]
   simp only[show decide ((0:Int)<=x)=true by simp;exact gp.1.1,show decide (x<(m:Int))=true by simp;exact gp.1.2,show decide ((0:Int)<=y)=true by simp;exact gp.2.1.1,show decide (y<(m:Int))=true by simp;exact gp.2.1.2,show decide (x=y)=false by simp;exact gp.2.2,if_pos,Bool.not_true,Bool.false_eq_true,if_false]
   exact h'
  rw[if_neg (by decide)]
  simp (disch:=first|decide|omega) only[J2]
  exact hK _ _ ⟨_,_,rfl,rfl⟩
 rintro ρ H₁ hP21
 refine Aa fun nY=>?_
 obtain⟨r3,r4,rfl,rfl⟩:=hP21
 refine nY ?_;clear nY
 try simp (disch:=first|decide|omega) only[Bo,Bp]
 refine grK ?_
 simp (disch:=first|decide|omega) only[Jg,Jw,Jx,J4,Oo,Dn,Dp,Ag,List.replicate]
 refine⟨by simp[Bq];exact Wt hm,Mp (o:= .dict []) (fun i H' K hi hK=>?_) fun as H' a ha c=>?_⟩
 ·simp only[Nf,Aca]
  exact fun x hx=>hK x hx
 refine Oz ?_
 simp (disch:=first|decide|omega) only[Jg,Ag,Ai]
 refine Ao (c.ext _ _ hT) ?_
 refine Ll (ps:=ps) (fun j ρ H₂=>(Ex3 fun(r3 r4:Option V) (L:Nat->List (Int×V))=>E6 (ρ = [some (.int m),some (.ref t),r3,r4,some (.ref a)]) (I9 H₁ H₂ a as m (fun i=> .dict (L i))) (∀i,i<m->((L i).map (·.1)).Nodup/\∀y,y∈(L i).map (·.1)↔Tf (ps.take j) i y))) ?_ ?_ ?_ ?_
 ·exact⟨_,_,fun _=>[],rfl,c,fun i hi=>⟨List.nodup_nil,fun y=>by simp[Tf]⟩⟩
 ·rintro i ρ H₂ hP22
  refine Aa fun nY=>?_
  obtain⟨r3,r4,L,rfl,c,hL⟩:=hP22
  refine nY ?_;clear nY
  exact⟨c.ext _ _ hT,hP.ext c.ext⟩
 ·rintro j p ρ H₂ K hp hP23 hK
  refine Aa fun nY=>?_
  obtain⟨r3,r4,L,rfl,c,hL⟩:=hP23
  have gp:=g p (List.mem_of_getElem? hp)
  obtain⟨x,y⟩:=p
  refine nY ?_;clear nY
  simp only at gp ⊢
  refine Aa fun nY=>?_
  obtain⟨x1,hx1,hx2,hx3⟩:=c.get (i:=x.toNat) (Zo gp.1.2 gp.2.1.1 gp.2.1.2)
  have hLx:=hL x.toNat (Zo gp.1.2 gp.2.1.1 gp.2.1.2)
  have hLy:=hL y.toNat (Q10 gp.2.1.1 gp.2.1.2)
  have ex:((x.toNat:Nat):Int)=x:=(Q15 gp.1.1)
  have ey:((y.toNat:Nat):Int)=y:=(Q15 gp.2.1.1)
  have hll:∀i,i<m->(L i).length<1048576:=fun i hi=>by
   have:=Fh (m:=m) (hL i hi).1 fun z hz=>((((hL i hi).2 z).mp hz).in_ g.take).2.1
   rw[List.length_map]at this
   exact Xz hm this
  refine nY ?_;clear nY
  simp (disch:=first|decide|omega) only[Jd,Jg,Js,J2,J3,Ag,Ai,Bo,Bp,Ng,Bs,Al c.at_ gp.1.1 hx2,S1 hx3 (hll _ (show x.toNat<m by exact X0 gp.1.2 ex))]
  have c1:=c.set hx1 (.dict (Di (L x.toNat) y (.bool true)))
  refine Aa fun nY=>?_
  obtain⟨y1,hy1,hy2,hy3⟩:=c1.get (i:=y.toNat) (X0 gp.2.1.2 ey)
  rw[if_neg (show ¬y.toNat=x.toNat by exact Agt gp.2.2 ex ey)]at hy3
  refine nY ?_;clear nY
  simp (disch:=first|decide|omega) only[Al c1.at_ gp.2.1.1 hy2,S1 hy3 (hll _ (show y.toNat<m by exact X0 gp.2.1.2 ey))]
  have c2:=c1.set hy1 (.dict (Di (L y.toNat) x (.bool true)))
  refine hK _ _ ⟨_,_,fun i=>if i=y.toNat then Di (L y.toNat) x (.bool true)else if i=x.toNat then Di (L x.toNat) y (.bool true)else L i,rfl,c2.congr fun i hi=>?_,fun i hi=>?_⟩
  ·refine Aa fun nY=>?_
   by_cases h1:i=y.toNat
   ·refine nY ?_;clear nY
    simp[h1]
   ·by_cases h2:i=x.toNat
    ·have:¬x.toNat=y.toNat:=(Agu h1 h2)
     refine nY ?_;clear nY
     simp[h2,this]
    ·refine nY ?_;clear nY
     simp[h1,h2]
  ·have nd:∀(l:List Int) (z:Int),l.Nodup->z∉l->(l ++ [z]).Nodup:=fun l z h1 h2=>by
    rw[List.nodup_append]
    exact⟨h1,List.pairwise_singleton _ _,fun a ha b hb e=>h2 (by simp at hb;rw[<-hb,<-e];exact ha)⟩
   have nd2:∀(es:List (Int×V)) (k:Int) (v:V),(es.map (·.1)).Nodup->((Di es k v).map (·.1)).Nodup:=fun es k v h=>by
    rw[Kf]
    split
    ·exact h
    ·exact nd _ _ h (by assumption)
   have mm:∀(es:List (Int×V)) (k:Int) (v:V) (z:Int),z∈(Di es k v).map (·.1)↔z∈es.map (·.1)\/z=k:=fun es k v z=>by
    rw[Kf]
    split
    ·rename_i hk
     exact⟨.inl,fun h=>h.elim id fun e=>e▸hk⟩
    ·rw[List.mem_append,List.mem_singleton]
   dsimp only
   refine Aa fun nY=>?_
   by_cases h1:i=y.toNat
   ·subst h1
    refine nY ?_;clear nY
    rw[if_pos rfl]
    refine⟨nd2 _ _ _ hLy.1,fun z=>?_⟩
    rw[mm,hLy.2 z,Fg hp,ey]
    constructor
    ·rintro(h|rfl)
     ·exact .inl h
     ·exact .inr (.inr (⟨rfl,rfl⟩))
    ·rintro(h | ⟨h1,h2⟩ | ⟨h1,h2⟩)
     ·exact .inl h
     ·exact absurd h1.symm gp.2.2
     ·exact .inr h2
   ·refine nY ?_;clear nY
    rw[if_neg h1]
    refine Aa fun nY=>?_
    by_cases h2:i=x.toNat
    ·subst h2
     refine nY ?_;clear nY
     rw[if_pos rfl]
     refine⟨nd2 _ _ _ hLx.1,fun z=>?_⟩
     rw[mm,hLx.2 z,Fg hp,ex]
     constructor
     ·rintro(h|rfl)
      ·exact .inl h
      ·exact .inr (.inl (⟨rfl,rfl⟩))
     ·rintro(h | ⟨h1,h2⟩ | ⟨h1,h2⟩)
      ·exact .inl h
      ·exact .inr h2
      ·exact absurd h1 gp.2.2
    ·refine nY ?_;clear nY
     rw[if_neg h2]
     refine⟨(hL i hi).1,fun z=>?_⟩
     rw[(hL i hi).2 z,Fg hp]
     constructor
     ·exact .inl
     ·rintro(h | ⟨h3,h4⟩ | ⟨h3,h4⟩)
      ·exact h
      ·simp only at h3;exact(Acc h2 h3).elim
      ·simp only at h3;exact(Acc h1 h3).elim
 ·rintro ρ H₂ hP24
  refine Aa fun nY=>?_
  obtain⟨r3,r4,L,rfl,c,hL⟩:=hP24
  rw[List.take_of_length_le (Nat.le_refl _)]at hL
  refine nY ?_;clear nY
  refine Wv ?_
  refine⟨by rw[show Du .web=Str.ofString "Web.__init__" from rfl,B.init];rfl,?_⟩
  simp (disch:=first|decide|omega) only[Jg,Jw,Jx,Ag]
  refine Ww ?_
  simp (disch:=first|decide|omega) only[Jg,J4,Dn,Dp,Ag,Ai,List.replicate]
  refine Ao c.at_ ?_
  refine⟨by simp[Bq,c.len];exact Wt hm,Mq (row:=Am m (Hs ps)) c.at_ (fun i x H₂ K hx e hK=>?_) fun bs H₂ e hbl hb b hb0=>?_⟩
  ·have hi:i<m:=by rw[<-c.len];exact(List.getElem?_eq_some_iff.mp hx).1
   have hxL:H₂ x=some (.dict (L i)):=e _ _ (c.obj i x hx)
   have hlen:(L i).length<64:=by
    have:=Fh (m:=m) (hL i hi).1 fun z hz=>((((hL i hi).2 z).mp hz).in_ g).2.1
    rw[List.length_map]at this
    exact Acd hm this
   simp (disch:=first|decide|omega) only[Jg,Jq,Jw,Jx,Ag,Nh,Xk hxL hlen]
   intro b hb
   have:=hK b hb
   rwa[<-Xl g (hL i hi).1 (hL i hi).2]at this
  ·intro w d hw hd hwd
   have eb:Ad H₂ (upd H₂ b (.list (bs.map V.ref))):=Ad.upd hb0
   have hnb:Cr (upd H₂ b (.list (bs.map V.ref))) b m (Hs ps):=⟨bs,Ac,by rw[hbl,c.len],fun i x hx=>(hb i x hx).ext eb⟩
   have eH:=(c.ext.trans e).trans eb
   generalize upd H₂ b (.list (bs.map V.ref))=H₃ at *
   refine Aj B.init rfl ?_
   have hw1:upd (upd H₃ d (.ns [])) w (.inst .web d) w=some (.inst .web d):=Ac
   have hd1:upd (upd H₃ d (.ns [])) w (.inst .web d) d=some (.ns []):=by rw[upd_ne (Ne.symm hwd),Ac]
   have hw2:upd (upd (upd H₃ d (.ns [])) w (.inst .web d)) d (.ns (Ij [] .many (.int m))) w=some (.inst .web d):=by rw[upd_ne hwd];exact hw1
   have hd2:upd (upd (upd H₃ d (.ns [])) w (.inst .web d)) d (.ns (Ij [] .many (.int m))) d=some (.ns (Ij [] .many (.int m))):=Ac
   simp (disch:=first|decide|omega) only[Jg,J2,J3,List.map,Dn,Dp,Ag,Ai,true_and,Lq,Cb,M3 hw1 hd1 (by decide),M3 hw2 hd2 (show (Ij [] Ct.many (V.int m)).length<10 from(by decide:(1:Nat)<10))]
   refine q w _ ?_ (eH.isNone hw) ⟨d,b,?_,Ac,hnb.ext ?_⟩
   ·exact(((eH.trans (Ad.upd hd)).upd' (eH.isNone hw)).upd' (eH.isNone hd)).upd' (eH.isNone hd)
   ·rw[upd_ne hwd];exact hw2
   ·exact(((Ad.upd hd).upd' hw).upd' hd).upd' hd
theorem P3(B:G1 G){w m:Nat}{A:Nat->Nat->Bool}{x:Int}(hW:Cs H w m A)(h0:0<=x)(h1:x<m)(q:Q .none H):Af G (n+1) "Web.need" [.ref w,.int x] H Q E:=by
 refine Aa fun nY=>?_
 obtain⟨d,rs,h2,h3,h4⟩:=hW
 refine nY ?_;clear nY
 refine Aj B.need rfl ?_
 simp (disch:=first|decide|omega) only[J2,J3,List.map,Dn,Dp,O0]
 refine Ba false (fun Q' h'=>?_) ?_
 ·simp (disch:=first|decide|omega) only[Je,Jg,Jh,Jn,Jr,Qg,Jbb,Bl,Ag,Ai,Bn h2 h3 (show Ds [(Ct.many,V.int m),(Ct.rows,V.ref rs)] .many=some (.int m)from rfl)]
  simp only[show decide ((0:Int)<=x)=true by simp;exact h0,show decide (x<(m:Int))=true by simp;exact h1,if_pos]
  exact h'
 rw[if_neg (by decide)]
 simp (disch:=first|decide|omega) only[J2]
 exact q
theorem Cr.row{a m:Nat}{A:Nat->Nat->Bool}(h:Cr H a m A){x:Int}(h0:0<=x)(h1:x<m):(Ii fun(as:List Nat) (y:Nat)=>Td (H a=some (.list (as.map V.ref))) (as.length=m) ((as.map V.ref)[x.toNat]? = some (.ref y)) (LI H y (Am m A x.toNat))):=by
 refine Aa fun nY=>?_
 obtain⟨as,a1,a2,a3⟩:=h
 have hl:x.toNat<as.length:=(Nat.lt_of_lt_of_eq ((Int.toNat_lt h0).mpr h1) a2.symm)
 refine nY ?_;clear nY
 exact⟨as,as[x.toNat],a1,a2,by rw[List.getElem?_map,List.getElem?_eq_getElem hl];rfl,a3 _ _ (List.getElem?_eq_getElem hl)⟩
theorem Os{m:Nat}{A:Nat->Nat->Bool}{x y:Int}(h0:0<=y)(h1:y<m):decide (y∈Am m A x.toNat)=A x.toNat y.toNat:=by
 by_cases h:A x.toNat y.toNat=true
 ·rw[h,decide_eq_true_eq,Ar];exact⟨h0,h1,h⟩
 ·rw[Bool.not_eq_true]at h
  rw[h,decide_eq_false_iff_not,Ar]
  rintro⟨_,_,q⟩;rw[h]at q;cases q
theorem P4(B:G1 G){w m:Nat}{A:Nat->Nat->Bool}{x y:Int}(hW:Cs H w m A)(h0:0<=x)(h1:x<m)(h2:0<=y)(h3:y<m)(q:Q (.bool (A x.toNat y.toNat)) H):Af G (n+2) "Web.tied" [.ref w,.int x,.int y] H Q E:=by
 have hW':=hW
 refine Aa fun nY=>?_
 obtain⟨d,rs,w1,w2,w3⟩:=hW'
 obtain⟨as,z,a1,a2,a3,a4⟩:=w3.row h0 h1
 refine nY ?_;clear nY
 refine Aj B.tied rfl ?_
 simp (disch:=first|decide|omega) only[Jg,Jm,Jr,Js,Jw,Jx,Jz,J0,J2,J3,List.map,Dn,Dp,Ag,Ai,Cu,true_and,O1,A4,Dv,Dw,Fo,w1,w2,B.need]
 refine P3 B hW h0 h1 ?_
 (try dsimp only)
 simp only[Dv,w1,Dw,w2,Fo]
 refine P3 B hW h2 h3 ?_
 simp (disch:=first|decide|omega) only[Bn w1 w2 (show Ds [(Ct.many,V.int m),(Ct.rows,V.ref rs)] .rows=some (.ref rs)from rfl),Al a1 h0 a3,Yw a4,Os h2 h3]
 exact q
set_option linter.all false
variable {G:Aw} {n:Nat} {H H':AH} {Q:Ah} {E:EP} {C:CS} {ρ:Ak}
theorem C8{g:AH->Prop}{l:List Int}{h:Int->V}{elt:Ak->AH->(Option V->AH->Prop)->Prop}{Q:List V->AH->Prop}{y:Option V}(hg:g H)
 (step:∀x∈l,∀K:Option V->AH->Prop,K (some (h x)) H->elt (some (.int x)::ρ) H K) (fin:Q (l.map h) H):Bm g (.one 0) elt Q ((l.map V.int).map .v) [] (y::ρ) H:=by
 refine Hp (f:=fun v=>match v with | .int x=>some (h x)|_=>none) hg (fun v hv K hK=>?_) ?_
 ·obtain⟨x,hx,rfl⟩:=List.mem_map.mp hv
  exact step x hx K hK
 ·rw[List.filterMap_map]
  have:l.filterMap ((fun v=>match v with | .int x=>some (h x)|_=>none)∘V.int)=l.map h:=by
   rw[<-List.filterMap_eq_map];rfl
  rw[this];exact fin
theorem Dq{g:AH->Prop}{l:List Int}{p:Int->Bool}{elt:Ak->AH->(Option V->AH->Prop)->Prop}{Q:List V->AH->Prop}{y:Option V}(hg:g H)
 (step:∀x∈l,∀K:Option V->AH->Prop,K (if p x then some (.int x)else none) H->elt (some (.int x)::ρ) H K) (fin:Q ((l.filter p).map V.int) H):Bm g (.one 0) elt Q ((l.map V.int).map .v) [] (y::ρ) H:=by
 refine Hp (f:=fun v=>match v with | .int x=>if p x then some (.int x)else none|_=>none) hg (fun v hv K hK=>?_) ?_
 ·obtain⟨x,hx,rfl⟩:=List.mem_map.mp hv
  exact step x hx K hK
 ·rw[List.filterMap_map]
  have:l.filterMap ((fun v=>match v with | .int x=>if p x then some (.int x)else none|_=>none)∘V.int)=(l.filter p).map V.int:=by
   clear fin step
   induction l with
   | nil=>rfl
   | cons x r ih=>
     rw[List.filterMap_cons,ih,List.filter_cons]
     by_cases hp:p x=true<;>simp[hp,Function.comp]
  rw[this];exact fin
theorem Yx{a:Nat}{xs:List V}{t u:Nat}{body:Ak->AH->(Ak->AH->Prop)->Prop}{N:Ak->AH->Prop}(I:Nat->Ak->AH->Prop)(h0:I 0 ρ H)(hg:∀i ρ H,I i ρ H->H a=some (.list xs))
 (step:∀i x ρ H K,xs[i]? = some x->I i ρ H->(∀ρ'' H'',I (i+1) ρ'' H''->K ρ'' H'')->body ((ρ.set t (some (.int i))).set u (some x)) H K) (fin:∀ρ H,I xs.length ρ H->N ρ H) :
 Df (fun H=>H a=some (.list xs)) (.two t u) body N (xs.mapIdx fun i x=> .pair (.int i) x) ρ H:=by
 refine I4 (k:=0) I h0 (fun i x ρ H K hx hI hK=>⟨hg _ _ _ hI,?_⟩) fun ρ H hI=>⟨hg _ _ _ hI,fin ρ H (by simpa using hI)⟩
 rw[List.getElem?_mapIdx]at hx
 obtain⟨j,hj,rfl⟩:=Option.map_eq_some_iff.mp hx
 exact step i j ρ H K hj (by simpa using hI) fun ρ'' H'' h=>hK ρ'' H'' (by simpa using h)
theorem V6{α0:Type}{a:Nat}{xs:List V}{t u:Nat}{body:Ak->AH->(Ak->AH->Prop)->Prop}{N:Ak->AH->Prop}(f:Nat->α0->Ak)(T:Nat->α0->AH->Prop)(x0:α0)(hρ:ρ=f 0 x0)(h0:T 0 x0 H)(hg:∀i x0 H,T i x0 H->H a=some (.list xs))(step:∀i x y0 H K,xs[i]? = some x->T i y0 H->(∀z0 H'',T (i+1) z0 H''->K (f (i+1) z0) H'')->body (((f i y0).set t (some (.int i))).set u (some x)) H K)(fin:∀x0 H,T xs.length x0 H->N (f xs.length x0) H):Df (fun H=>H a=some (.list xs)) (.two t u) body N (xs.mapIdx fun i x=> .pair (.int i) x) ρ H:=by
 refine Yx (fun i ρ H=>∃x0,ρ=f i x0/\T i x0 H) ⟨x0,hρ,h0⟩ (fun i _ H h=>?_) (fun i x _ H K hx h hK=>?_) fun _ H h=>?_
 ·obtain⟨x0,_,h⟩:=h;exact hg _ _ _ h
 ·obtain⟨y0,rfl,h⟩:=h;exact step i x y0 H K hx h fun z0 H'' h'=>hK _ _ ⟨z0,rfl,h'⟩
 ·obtain⟨x0,rfl,h⟩:=h;exact fin _ _ h
theorem Ul{α0 α1 α2:Type}{a:Nat}{xs:List V}{t u:Nat}{body:Ak->AH->(Ak->AH->Prop)->Prop}{N:Ak->AH->Prop}(f:Nat->α0->α1->α2->Ak)(T:Nat->α0->α1->α2->AH->Prop)(x0:α0)(x1:α1)(x2:α2)(hρ:ρ=f 0 x0 x1 x2)(h0:T 0 x0 x1 x2 H)(hg:∀i x0 x1 x2 H,T i x0 x1 x2 H->H a=some (.list xs))(step:∀i x y0 y1 y2 H K,xs[i]? = some x->T i y0 y1 y2 H->(∀z0 z1 z2 H'',T (i+1) z0 z1 z2 H''->K (f (i+1) z0 z1 z2) H'')->body (((f i y0 y1 y2).set t (some (.int i))).set u (some x)) H K)(fin:∀x0 x1 x2 H,T xs.length x0 x1 x2 H->N (f xs.length x0 x1 x2) H):Df (fun H=>H a=some (.list xs)) (.two t u) body N (xs.mapIdx fun i x=> .pair (.int i) x) ρ H:=
 V6 (fun i p=>f i p.1 p.2.1 p.2.2) (fun i p=>T i p.1 p.2.1 p.2.2) (x0,x1,x2) hρ h0 (fun i p=>hg i p.1 p.2.1 p.2.2) (fun i x p H K hx h hK=>step i x p.1 p.2.1 p.2.2 H K hx h fun z0 z1 z2 H' h'=>hK (z0,z1,z2) H' h') fun p=>fin p.1 p.2.1 p.2.2
theorem Yy(l:List Bool):bools? (l.map V.bool)=some l:=by
 induction l with
 | nil=>rfl
 | cons x r ih=>exact(show bools? ((x::r).map V.bool)=(bools? (r.map V.bool)).map (x :: ·)from rfl).trans (by rw[ih];rfl)
theorem Ahy{a:Nat}{l:List Bool}(h:H a=some (.list (l.map V.bool))):C9 .all [.ref a] H Q=Q (.bool (l.all id)) H:=by delta C9;dsimp only;(first|delta Nb|delta Ik|delta G7|delta Nc|delta U6|delta G8);(try dsimp only[A2,Ax,U3,Na,Ti]);rw[h];(try dsimp only[F8,U2]);rw[Yy];(try dsimp only[F8,Ey])
theorem P5{a:Nat}{l:List Bool}(h:H a=some (.list (l.map V.bool)))(kk:Q (.bool (l.all id)) H):C9 .all [.ref a] H Q:=Eq.mpr (Ahy h) kk
theorem Abg:∀(l d:List Int),((l.foldl (fun d k=>if d.any (· == k)then d else d ++ [k]) d).length=d.length+l.length↔l.Nodup/\∀x∈l,x∉d)/\(l.foldl (fun d k=>if d.any (· == k)then d else d ++ [k]) d).length<=d.length+l.length:=by
 intro l
 induction l with
 | nil=>exact fun d=>⟨⟨fun _=>⟨.nil,fun _ h=>absurd h List.not_mem_nil⟩,fun _=>rfl⟩,Nat.le_refl _⟩
 | cons x r ih=>
   intro d
   rw[List.foldl_cons]
   by_cases hx:x∈d
   ·have:d.any (· == x)=true:=List.any_eq_true.mpr ⟨x,hx,beq_self_eq_true x⟩
    rw[if_pos this]
    have ih:=(ih d).2
    exact⟨⟨fun h=>absurd (Nat.le_trans (Nat.le_of_eq h.symm) ih) (Nat.not_succ_le_self _),fun h=>absurd hx (h.2 x List.mem_cons_self)⟩,Nat.le_trans ih (Nat.le_succ _)⟩
   ·have:¬d.any (· == x)=true:=fun q=>let ⟨y,h1,h2⟩:=List.any_eq_true.mp q;hx (eq_of_beq h2▸h1)
    rw[if_neg this]
    have ih:=ih (d ++ [x])
    rw[List.length_append,Nat.add_assoc,show [x].length+r.length=(x::r).length from Nat.add_comm _ _]at ih
    refine⟨ih.1.trans ⟨fun h=>⟨List.nodup_cons.mpr ⟨fun q=>h.2 x q (List.mem_append_right _ List.mem_cons_self),h.1⟩,fun y hy=>?_⟩,fun h=>?_⟩,ih.2⟩
    ·exact(List.mem_cons.mp hy).elim (fun e=>e▸hx) fun hy q=>h.2 y hy (List.mem_append_left _ q)
    ·have:=List.nodup_cons.mp h.1
     exact⟨this.2,fun y hy q=>(List.mem_append.mp q).elim (h.2 y (List.mem_cons_of_mem _ hy)) fun q=>this.1 (List.mem_singleton.mp q▸hy)⟩
theorem Kg(l:List Int):(G5 l).length=l.length↔l.Nodup:=by
 have:=(Abg l []).1
 simpa[G5]using this
theorem Um{a:Nat}{l:List Int}(h:LI H a l)(hl:l.length<=4000):C9 .lenSet [.ref a] H Q=Q (.int (G5 l).length) H:=by
 unfold LI at h
 delta C9;dsimp only;(first|delta Nb|delta Ik|delta G7|delta Nc|delta U6|delta G8);(try dsimp only[A2,Ax,U3,Na,Ti]);rw[h];(try dsimp only[F8,U2]);rw[G2];(try dsimp only[F8,Ey])
 exact propext ⟨fun h=>h.2,fun q=>⟨hl,q⟩⟩
noncomputable def fu(A:Nat->Nat->Bool):List Int->Option (Int×Int)
 | []=>none
 | x::r=>match r.find? (fun y=> !A x.toNat y.toNat)with
   | some y=>some (x,y)
   | none=>fu A r
theorem Ot{A:Nat->Nat->Bool}{x:Int}{r:List Int}:fu A (x::r)=match r.find? (fun y=> !A x.toNat y.toNat)with
 | some y=>some (x,y)
 | none=>fu A r:=rfl
theorem Ou{A:Nat->Nat->Bool}:∀ {l:List Int},fu A l=none↔l.Pairwise (fun x y=>A x.toNat y.toNat=true):=by
 intro l
 induction l with
 | nil=>exact⟨fun _=> .nil,fun _=>rfl⟩
 | cons x r ih=>
   rw[Ot,List.pairwise_cons]
   cases h:r.find? (fun y=> !A x.toNat y.toNat)with
   | some y=>exact⟨fun q=>absurd q (Option.some_ne_none _),fun q=>absurd (q.1 y (List.mem_of_find?_eq_some h)) (Bool.eq_false_iff.mp ((Bool.not_eq_true' _).mp (List.find?_some (p:=fun y:Int=> !A x.toNat y.toNat) h)))⟩
   | none=>exact ih.trans ⟨fun q=>⟨fun y hy=>(Bool.not_eq_false' _).mp (Bool.eq_false_iff.mpr (List.find?_eq_none.mp h y hy)),q⟩,fun q=>q.2⟩
theorem LI.at_{a:Nat}{l:List Int}{i:Nat}{v:V}(hv:(l.map V.int)[i]? = some v):∃x,l[i]? = some x/\v = .int x:=by
 rw[List.getElem?_map]at hv
 obtain⟨x,hx,rfl⟩:=Option.map_eq_some_iff.mp hv
 exact⟨x,hx,rfl⟩
theorem Cp{l:List Int}{i:Nat}{x:Int}(h:l[i]? = some x):l.drop i=x::l.drop (i+1):=by
 obtain⟨h1,h2⟩:=List.getElem?_eq_some_iff.mp h
 rw[List.drop_eq_getElem_cons h1,h2]
theorem Ej(B:G1 G)(hG:G.fn "first_untied" = some C5){w m r:Nat}{A:Nat->Nat->Bool}{l:List Int}(hW:Cs H w m A)(hL:LI H r l)(hin:∀x∈l,0<=x/\x<m)
 (q:∀H',Ad H H'->match fu A l with|none=>Q .none H'|some (x,y)=>∀a,H' a=none->Q (.ref a) (upd H' a (.tuple [.int x,.int y]))):Af G (n+3) "first_untied" [.ref w,.ref r] H Q E:=by
 refine Aj hG rfl ?_
 simp (disch:=first|decide|omega) only[Jb,J0,J2,J3,List.map,Dn,Dp,List.replicate,C5]
 refine Zs (Aci ?_)
 simp (disch:=first|decide|omega) only[Jg,Ag,Ai]
 refine Aa9 hL ?_
 refine Ul (fun i r2 r3 r4=>[some (.ref w),some (.ref r),r2,r3,r4]) (fun i r2 r3 r4 H₁=>(Ad H H₁)/\(fu A l=fu A (l.drop i))) none none none rfl ⟨Ad.refl,rfl⟩ ?_ ?_ ?_
 ·rintro i r2 r3 r4 H₁ ⟨e,hf⟩
  exact e _ _ hL
 ·rintro i v r2 r3 r4 H₁ K hv ⟨e,hf⟩ hK
  obtain⟨x,hx,rfl⟩:=LI.at_ (a:=r) hv
  have hxr:=hin x (List.mem_of_getElem? hx)
  rw[Cp hx,Ot]at hf
  simp (disch:=first|decide|omega) only[J2,J3,Bo,Bp,Ft]
  refine Oz ?_
  simp (disch:=first|decide|omega) only[Jc,Je,Jg,Jl,Jt,J8,Ag,Ai]
  (refine D4 (e _ _ hL) F7 Gj ?_;rw[Lk U7])
  intro s hs
  rw[show ((i:Int)+1).toNat=i+1 by exact Zp,<-List.map_drop]
  refine Ao Ac ?_
  have eW:=e.trans (Ad.upd (o:= .list ((l.drop (i+1)).map V.int)) hs)
  have hsv:upd H₁ s (.list ((l.drop (i+1)).map V.int)) s=some (.list ((l.drop (i+1)).map V.int)):=Ac
  generalize upd H₁ s (.list ((l.drop (i+1)).map V.int))=H₂ at *
  refine B6 (fun j r4=>[some (.ref w),some (.ref r),some (.int i),some (.int x),r4]) (fun j r4 H₃=>(H₃=H₂)/\((l.drop (i+1)).find? (fun y=> !A x.toNat y.toNat)=((l.drop (i+1)).drop j).find? (fun y=> !A x.toNat y.toNat))) _ rfl ⟨rfl,rfl⟩ ?_ ?_ ?_
  ·rintro j r4 H₃ ⟨rfl,hj⟩;exact hsv
  ·rintro j v r4 H₃ K' hv ⟨rfl,hj⟩ hK'
   obtain⟨y,hy,rfl⟩:=LI.at_ (a:=r) hv
   have hyr:=hin y (List.mem_of_mem_drop (List.mem_of_getElem? hy))
   rw[Cp hy,List.find?_cons]at hj
   obtain⟨d,rs,w1,w2,w3⟩:=hW.ext eW
   simp (disch:=first|decide|omega) only[J2,J3,Bo,Bp,Fs]
   refine Ba (!A x.toNat y.toNat) (fun Q' h'=>?_) ?_
   ·simp (disch:=first|decide|omega) only[Jg,Jh,Jw,Jx,Ag,Ai,Cu,true_and,A4,Dv,Dw,Fo,w1,w2,B.tied]
    exact P4 B (hW.ext eW) hxr.1 hxr.2 hyr.1 hyr.2 h'
   split
   ·rename_i hh
    simp (disch:=first|decide|omega) only[Jg,Jv,Jw,Jx,J0,J2,J3,Ag,Ai]
    rw[hh]at hj
    simp only at hj
    rw[hj]at hf
    have:=q _ eW
    rw[hf]at this
    exact this
   ·rename_i hh
    simp (disch:=first|decide|omega) only[J2]
    rw[Bool.not_eq_true]at hh
    rw[hh]at hj
    exact hK' _ _ ⟨rfl,hj⟩
  ·rintro r4 H₃ ⟨rfl,hj⟩
   rw[List.length_map,List.drop_of_length_le (Nat.le_refl _),List.find?_nil]at hj
   rw[hj]at hf
   exact hK _ _ _ _ ⟨eW,hf⟩
 ·rintro r2 r3 r4 H₁ ⟨e,hf⟩
  rw[List.length_map,List.drop_of_length_le (Nat.le_refl _)]at hf
  have:=q H₁ e
  rw[hf]at this
  exact this
noncomputable def Ek(m:Nat)(A:Nat->Nat->Bool)(l:List Int):Prop:=l.Nodup/\(∀x∈l,0<=x/\x<(m:Int))/\l.Pairwise (fun x y=>A x.toNat y.toNat=true)
theorem S2{m:Nat}{l:List Int}:(l.map fun x=>decide (0<=x)&&decide (x<(m:Int))).all id=true↔∀x∈l,0<=x/\x<(m:Int):=by
 simp[List.all_eq_true]
theorem Yz(B:G1 G)(hF:G.fn "first_untied" = some C5)(hG:G.fn "is_crowd" = some Lc){w m r:Nat}{A:Nat->Nat->Bool}{l:List Int}(hW:Cs H w m A)(hL:LI H r l)(hl:l.length<=4000)
 (q:∀b H',Ad H H'->(b=true↔Ek m A l)->Q (.bool b) H'):Af G (n+4) "is_crowd" [.ref w,.ref r] H Q E:=by
 refine Aj hG rfl ?_
 simp (disch:=first|decide|omega) only[Jb,Jg,Jm,Jp,Jw,Jx,J0,J2,J3,List.map,Dn,Dp,Lc]
 refine Ba (!decide (((G5 l).length:Int)=(l.map V.int).length)) (fun Q' h'=>?_) ?_
 ·simp (disch:=first|decide|omega) only[Jg,Jm,Jq,Jw,Jx,Zj,Ag,Ai,Um hL hl,A8 hL];exact h'
 split
 ·rename_i hh
  simp (disch:=first|decide|omega) only[Jd,J0,J2,J3]
  refine q false H Ad.refl ⟨nofun,fun h=>?_⟩
  have:=(Kg l).mpr h.1
  rw[List.length_map,this]at hh
  simp at hh
 rename_i hh
 have hnd:l.Nodup:=(Kg l).mp (by rw[List.length_map]at hh;simp at hh;exact(Int.ofNat_inj.mp hh))
 simp (disch:=first|decide|omega) only[J2]
 refine Aa fun nY=>?_
 obtain⟨d,rs,w1,w2,w3⟩:=hW
 have hW:Cs H w m A:=⟨d,rs,w1,w2,w3⟩
 refine nY ?_;clear nY
 refine A5 (U8 (Rb (Co (Ww ?_))))
 simp (disch:=first|decide|omega) only[Jd,Jg,Jw,J0,J2,J3,J4,Bl,Dn,Dp,Ag,Ai,List.replicate]
 refine Ao hL ?_
 refine⟨by simp[Bq];exact(Nat.le_trans hl (by decide)),?_⟩
 refine C8 (h:=fun x=>V.bool (decide (0<=x)&&decide (x<(m:Int)))) hL (fun x hx K hK=>?_) ?_
 ·simp (disch:=first|decide|omega) only[Je,Jg,Jn,Jr,Qg,Jbb,Bl,Ag,Ai,Kx,Bn w1 w2 (show Ds [(Ct.many,V.int m),(Ct.rows,V.ref rs)] .many=some (.int m)from rfl)]
  split
  ·rename_i h;rw[h,Bool.true_and]at hK;exact hK
  ·rename_i h;rw[Bool.not_eq_true]at h;rw[h,Bool.false_and]at hK;exact hK
 intro c hc
 have hcv:upd H c (.list (l.map fun x=>V.bool (decide (0<=x)&&decide (x<(m:Int))))) c=some (.list ((l.map fun x=>decide (0<=x)&&decide (x<(m:Int))).map V.bool)):=by rw[Ac,List.map_map];rfl
 have e1:Ad H (upd H c (.list (l.map fun x=>V.bool (decide (0<=x)&&decide (x<(m:Int)))))):=Ad.upd hc
 generalize upd H c (.list (l.map fun x=>V.bool (decide (0<=x)&&decide (x<(m:Int)))))=H₁ at *
 (try dsimp only)
 refine P5 hcv ?_
 (try dsimp only);(try simp (disch:=first|decide|omega) only[Bl])
 split
 ·rename_i hh
  (try dsimp only)
  refine q false _ e1 ⟨nofun,fun h=>?_⟩
  rw[S2.mpr h.2.1]at hh
  simp at hh
 ·rename_i hh
  have hin:=S2.mp (by simpa using hh)
  (try dsimp only)
  refine⟨by rw[hF];rfl,?_⟩
  refine Ej B hF (hW.ext e1) (hL.ext e1) hin fun H₂ e2=>?_
  cases hfu:fu A l with
  | none=>
    (try dsimp only);(try simp (disch:=first|decide|omega) only[Jbi])
    exact q true H₂ (e1.trans e2) ⟨fun _=>⟨hnd,hin,Ou.mp hfu⟩,fun _=>rfl⟩
  | some p=>
    obtain⟨x,y⟩:=p
    intro a ha
    (try dsimp only);(try simp (disch:=first|decide|omega) only[Jbj])
    refine q false _ ((e1.trans e2).trans (Ad.upd ha)) ⟨nofun,fun h=>?_⟩
    rw[Ou.mpr h.2.2]at hfu;cases hfu
set_option linter.all false
structure Gr(A:Nat->Nat->Bool):Prop where
 irr:∀i,A i i=false
 symm:∀i j,A i j=A j i
noncomputable def Ew(s k:Nat):Nat:=if k=0 then s-1 else k-1
noncomputable def Eb(s k:Nat):Nat:=if k+1=s then 0 else k+1
noncomputable def D5(s k j:Nat):Prop:=j=k+1\/(k=0/\j=s-1)
noncomputable def Abh(A:Nat->Nat->Bool)(l:List Int):Prop:=∀(k j:Nat) (x y:Int),k<j->l[k]? = some x->l[j]? = some y->(A x.toNat y.toNat=true↔D5 l.length k j)
noncomputable def Abi(m:Nat)(A:Nat->Nat->Bool)(l:List Int):Prop:=∀(k:Nat) (x p q:Int),l[k]? = some x->l[Ew l.length k]? = some p->l[Eb l.length k]? = some q->
 Bd (l.filter fun o=>decide (o∈Am m A x.toNat))=Bd [p,q]
theorem Dk{l:List Int}{i j:Nat}{x:Int}(h:l.Nodup)(h1:l[i]? = some x)(h2:l[j]? = some x):i=j:=by
 obtain⟨a1,a2⟩:=List.getElem?_eq_some_iff.mp h1
 obtain⟨b1,b2⟩:=List.getElem?_eq_some_iff.mp h2
 have h':=List.pairwise_iff_getElem.mp h
 rcases Nat.lt_trichotomy i j with q|q|q
 ·exact absurd (a2.trans b2.symm) (h' i j a1 b1 q)
 ·exact q
 ·exact absurd (b2.trans a2.symm) (h' j i b1 a1 q)
theorem cyc{s k j:Nat}(h4:4<=s)(h:k<j)(hj:j<s):(D5 s k j↔(j=Ew s k\/j=Eb s k))/\(D5 s k j↔(k=Ew s j\/k=Eb s j)):=by
 unfold D5 Ew Eb
 constructor
 ·constructor
  ·rintro(rfl | ⟨rfl,rfl⟩)
   ·exact .inr (by rw[if_neg (Nat.ne_of_lt hj)])
   ·exact .inl (by rw[if_pos rfl])
  ·rintro(q|q)
   ·split at q
    ·exact .inr ⟨by assumption,q⟩
    ·exact(Nat.lt_irrefl _ (Nat.lt_of_le_of_lt (Nat.le_trans (Nat.le_of_eq q) (Nat.sub_le _ _)) h)).elim
   ·split at q<;>omega
 ·constructor
  ·rintro(rfl | ⟨rfl,rfl⟩)
   ·exact .inl (by rw[if_neg Ait];rfl)
   ·exact .inr (by rw[if_pos (Nat.sub_add_cancel (Nat.le_of_lt (Nat.lt_of_sub_pos h)))])
  ·rintro(q|q)
   ·split at q<;>omega
   ·split at q<;>omega
theorem Xn{A:Nat->Nat->Bool}{l:List Int}(g:Gr A)(h4:4<=l.length)(h:Abh A l){k j:Nat}{x z:Int}(hx:l[k]? = some x)(hj:l[j]? = some z):A x.toNat z.toNat=true↔(j=Ew l.length k\/j=Eb l.length k):=by
 have hk:=(List.getElem?_eq_some_iff.mp hx).1
 have hjl:=(List.getElem?_eq_some_iff.mp hj).1
 rcases Nat.lt_trichotomy k j with c|c|c
 ·exact(h k j x z c hx hj).trans (cyc h4 c hjl).1
 ·subst c
  rw[hx]at hj;cases hj
  rw[g.irr]
  refine⟨nofun,fun q=>?_⟩
  unfold Ew Eb at q
  exfalso
  rcases q with q|q<;>split at q<;>omega
 ·rw[g.symm]
  exact(h j k z x c hj hx).trans (cyc h4 c hk).2
theorem R7{m:Nat}{A:Nat->Nat->Bool}{l:List Int}(g:Gr A)(h4:4<=l.length)(hnd:l.Nodup)(hin:∀x∈l,0<=x/\x<(m:Int)):Abh A l↔Abi m A l:=by
 constructor
 ·intro h k x p q hx hp hq
  refine V5 (Mo (hnd.filter _)) (Mo ?_) fun z=>?_
  ·refine List.nodup_cons.mpr ⟨fun e=>?_,List.pairwise_singleton _ _⟩
   simp at e
   subst e
   have:=Dk hnd hp hq
   have hk:=(List.getElem?_eq_some_iff.mp hx).1
   unfold Ew Eb at this
   split at this<;>split at this<;>omega
  ·rw[Dc,Dc,List.mem_filter,decide_eq_true_eq,Ar]
   constructor
   ·rintro hP25
    refine Aa fun nY=>?_
    obtain⟨hz,h0,h1,hA⟩:=hP25
    obtain⟨j,hj⟩:=List.mem_iff_getElem?.mp hz
    rcases(Xn g h4 h hx hj).mp hA with rfl|rfl
    ·refine nY ?_;clear nY
     rw[hp]at hj;cases hj;simp
    ·refine nY ?_;clear nY
     rw[hq]at hj;cases hj;simp
   ·intro hz
    have key:∃j,l[j]? = some z/\(j=Ew l.length k\/j=Eb l.length k):=by
     refine Aa fun nY=>?_
     rcases List.mem_cons.mp hz with rfl|hz
     ·refine nY ?_;clear nY
      exact⟨_,hp,.inl rfl⟩
     ·refine nY ?_;clear nY
      simp at hz;subst hz;exact⟨_,hq,.inr rfl⟩
    refine Aa fun nY=>?_
    obtain⟨j,hj,hjk⟩:=key
    have hzm:=List.mem_of_getElem? hj
    refine nY ?_;clear nY
    exact⟨hzm,(hin z hzm).1,(hin z hzm).2,(Xn g h4 h hx hj).mpr hjk⟩
 ·intro h k j x y c hx hy
  have hk:=(List.getElem?_eq_some_iff.mp hx).1
  have hj:=(List.getElem?_eq_some_iff.mp hy).1
  have hpl:Ew l.length k<l.length:=by unfold Ew;split<;>omega
  have hnl:Eb l.length k<l.length:=by unfold Eb;split<;>omega
  have hp:=List.getElem?_eq_getElem hpl
  have hq:=List.getElem?_eq_getElem hnl
  have e:=h k x _ _ hx hp hq
  have hym:=List.mem_of_getElem? hy
  have h1:A x.toNat y.toNat=true↔y∈Bd (l.filter fun o=>decide (o∈Am m A x.toNat)):=by
   rw[Dc,List.mem_filter,decide_eq_true_eq,Ar]
   exact⟨fun h=>⟨hym,(hin y hym).1,(hin y hym).2,h⟩,fun h=>h.2.2.2⟩
  rw[h1,e,Dc,(cyc h4 c hj).1]
  constructor
  ·intro hz
   refine Aa fun nY=>?_
   rcases List.mem_cons.mp hz with hz|hz
   ·refine nY ?_;clear nY
    exact .inl (Dk hnd hy (by rw[hp,<-hz]))
   ·refine nY ?_;clear nY
    simp at hz;exact .inr (Dk hnd hy (by rw[hq,<-hz]))
  ·rintro(q|q)
   ·have:y=l[Ew l.length k]:=by rw[q,hp]at hy;cases hy;rfl
    rw[<-this];simp
   ·have:y=l[Eb l.length k]:=by rw[q,hq]at hy;cases hy;rfl
    rw[<-this];simp
noncomputable def P6(m:Nat)(A:Nat->Nat->Bool)(l:List Int):Prop:=4<=l.length/\l.Nodup/\(∀x∈l,0<=x/\x<(m:Int))/\Abh A l
variable {G:Aw} {n:Nat} {H H':AH} {Q:Ah} {E:EP} {C:CS} {ρ:Ak}
theorem Abj{i:Nat}{e:X}{N:Ak->AH->Prop}{R:Ah}(c:V)(h:∀Q':Ah,Q' c H->Av G C e ρ H Q' E)(q:N (ρ.set i (some c)) H):Ki G C (.assign i e) ρ H N R E:=by
 refine Bw ?_;exact h _ q
theorem V7{a:Nat}{xs:List V}{k:Int}{x:V}(h:H a=some (.list xs))(h0:k<0)(h1:0<=k+xs.length)(hx:xs[(k+xs.length).toNat]? = some x):B9 (.ref a) (.int k) H Q=Q x H:=by
 have:Dd k xs.length=some (k+xs.length).toNat:=by delta Dd;rw[if_neg (Int.not_le.mpr h0),if_pos h1]
 delta B9;(try dsimp only[Ax]);rw[h];(try dsimp only);rw[this];(try dsimp only[Ey]);rw[hx]
theorem Adr{a:Nat}{xs:List V}{k:Int}{x:V}(h:H a=some (.list xs))(h0:k<0)(h1:0<=k+xs.length)(hx:xs[(k+xs.length).toNat]? = some x)(kk:Q x H):B9 (.ref a) (.int k) H Q:=Eq.mpr (V7 h h0 h1 hx) kk
theorem Ads{a:Nat}{l:List Int}{k:Int}(h:LI H a l):Gk .count (.ref a) [.int k] H Q=Q (.int (l.count k)) H:=by
 unfold LI at h
 delta Gk;dsimp only;(first|delta Ez|delta G9|delta Ha|delta E0|delta Dt|delta Ce);(try dsimp only[A2,Ax,U3,Na,Ti]);rw[h];(try dsimp only[F8,U2]);rw[G2];(try dsimp only[F8,Ey])
theorem Adt{n:Nat}{x y:Int}:K9 n H (.int x) (.int y)=some (decide (x=y)):=by cases n<;>rfl
theorem Abk(n:Nat):∀l l':List Int,l.length=l'.length->F9 (List.zipWith (K9 n H) (l.map V.int) (l'.map V.int))=some (decide (l=l')):=by
 intro l
 induction l with
 | nil=>exact fun l' h=>by cases l' with
   | nil=>rfl
   | cons _ _=>cases h
 | cons x r ih=>exact fun l' h=>by cases l' with
   | nil=>cases h
   | cons y s=>
     show F9 (K9 n H (.int x) (.int y)::List.zipWith (K9 n H) (r.map V.int) (s.map V.int))=_
     rw[Adt]
     show (F9 _).map _=_
     rw[ih s (Nat.succ.inj h)]
     show some (decide (x=y)&&decide (r=s))=_
     rw[<-Bool.decide_and]
     exact congrArg some (decide_eq_decide.mpr List.cons_eq_cons.symm)
theorem Abl{n a b:Nat}{xs ys:List V}(h:H a=some (.list xs))(h':H b=some (.list ys)):K9 (n+1) H (.ref a) (.ref b)=if xs.length=ys.length then F9 (List.zipWith (K9 n H) xs ys)else some false:=by
 conv=>lhs;whnf
 rw[h,h']
theorem V8{n a b:Nat}{l l':List Int}(h:LI H a l)(h':LI H b l'):K9 (n+1) H (.ref a) (.ref b)=some (decide (l=l')):=by
 rw[Abl h h',List.length_map,List.length_map]
 split
 ·rename_i q;exact Abk n l l' q
 ·rename_i q
  rw[decide_eq_false (fun e=>q (by rw[e]))]
theorem Ahz{a b:Nat}{l l':List Int}(h:LI H a l)(h':LI H b l'):Bg .Eq (.ref a) (.ref b) H Q=Q (.bool (decide (l=l'))) H:=by
 have:K9 Eg H (.ref a) (.ref b)=some (decide (l=l')):=V8 h h'
 delta Bg;(try dsimp only);rw[this];(try dsimp only[Ey])
theorem V9{a b:Nat}{l l':List Int}(h:LI H a l)(h':LI H b l')(kk:Q (.bool (decide (l=l'))) H):Bg .Eq (.ref a) (.ref b) H Q:=Eq.mpr (Ahz h h') kk
theorem Ah0{a b:Nat}{l l':List Int}(h:LI H a l)(h':LI H b l'):Bg .NotEq (.ref a) (.ref b) H Q=Q (.bool (!decide (l=l'))) H:=by
 have:K9 Eg H (.ref a) (.ref b)=some (decide (l=l')):=V8 h h'
 delta Bg;(try dsimp only);rw[this];(try dsimp only[Ey])
theorem Wa{a b:Nat}{l l':List Int}(h:LI H a l)(h':LI H b l')(kk:Q (.bool (!decide (l=l'))) H):Bg .NotEq (.ref a) (.ref b) H Q:=Eq.mpr (Ah0 h h') kk
theorem LI.sub{a:Nat}{l:List Int}{x:Int}{i:Nat}(hx:l[i]? = some x):(l.map V.int)[(i:Int).toNat]? = some (.int x):=by
 rw[Int.toNat_natCast,List.getElem?_map,hx];rfl
theorem Abm(B:G1 G)(hG:G.fn "is_ring" = some Mu){w m r:Nat}{A:Nat->Nat->Bool}{l:List Int}(hW:Cs H w m A)(hL:LI H r l)(hl:l.length<=4000)
 (q:∀b H',Ad H H'->(b=true↔P6 m A l)->Q (.bool b) H'):Af G (n+3) "is_ring" [.ref w,.ref r] H Q E:=by
 refine Aj hG rfl ?_
 simp (disch:=first|decide|omega) only[Jd,Jg,Jq,Jw,Jx,Jy,J0,J2,J3,List.map,Dn,Dp,Ag,Ai,List.replicate,Bo,Bp,Mu,A8 hL]
 rw[List.length_map]
 refine Ba (decide ((l.length:Int)<4) || !decide (((G5 l).length:Int)=l.length)) (fun Q' h'=>?_) ?_
 ·simp (disch:=first|decide|omega) only[Je,Jg,Jk,Jm,Jq,Jw,Jx,Qg,Zj,Bl,Ag,Ai,Um hL hl]
  split
  ·rename_i h;rw[h,Bool.true_or]at h';exact h'
  ·rename_i h;rw[Bool.not_eq_true]at h;rw[h,Bool.false_or]at h';exact h'
 split
 ·rename_i hh
  simp (disch:=first|decide|omega) only[Jd,J0,J2,J3]
  refine q false H Ad.refl ⟨nofun,fun h=>?_⟩
  have h1:=(Kg l).mpr h.2.1
  have h2:=h.1
  rw[h1]at hh
  simp at hh
  exact(Int.not_lt.mpr (Int.ofNat_le.mpr h2) hh).elim
 rename_i hh
 simp only[Bool.or_eq_true,decide_eq_true_eq,Bool.not_eq_true',decide_eq_false_iff_not,not_or,Classical.not_not]at hh
 have hnd:l.Nodup:=(Kg l).mp (Int.ofNat_inj.mp hh.2)
 simp (disch:=first|decide|omega) only[J2]
 refine Aa fun nY=>?_
 obtain⟨d,rs,w1,w2,w3⟩:=hW
 have hW:Cs H w m A:=⟨d,rs,w1,w2,w3⟩
 refine nY ?_;clear nY
 refine A5 (U8 (Rb (Co (Ww ?_))))
 simp (disch:=first|decide|omega) only[Jd,Jg,Jw,J0,J2,J3,J4,Bl,Dn,Dp,Ag,Ai,List.replicate]
 refine Ao hL ?_
 refine⟨by simp[Bq];exact(Nat.le_trans hl (by decide)),?_⟩
 refine C8 (h:=fun x=>V.bool (decide (0<=x)&&decide (x<(m:Int)))) hL (fun x hx K hK=>?_) ?_
 ·simp (disch:=first|decide|omega) only[Je,Jg,Jn,Jr,Qg,Jbb,Bl,Ag,Ai,L0,Bn w1 w2 (show Ds [(Ct.many,V.int m),(Ct.rows,V.ref rs)] .many=some (.int m)from rfl)]
  split
  ·rename_i h;rw[h,Bool.true_and]at hK;exact hK
  ·rename_i h;rw[Bool.not_eq_true]at h;rw[h,Bool.false_and]at hK;exact hK
 intro c hc
 have hcv:upd H c (.list (l.map fun x=>V.bool (decide (0<=x)&&decide (x<(m:Int))))) c=some (.list ((l.map fun x=>decide (0<=x)&&decide (x<(m:Int))).map V.bool)):=by rw[Ac,List.map_map];rfl
 have e1:Ad H (upd H c (.list (l.map fun x=>V.bool (decide (0<=x)&&decide (x<(m:Int)))))):=Ad.upd hc
 generalize upd H c (.list (l.map fun x=>V.bool (decide (0<=x)&&decide (x<(m:Int)))))=H₁ at *
 (try dsimp only)
 refine P5 hcv ?_
 (try dsimp only);(try simp (disch:=first|decide|omega) only[Bl])
 split
 ·rename_i hh
  (try dsimp only)
  refine q false _ e1 ⟨nofun,fun h=>?_⟩
  rw[S2.mpr h.2.2.1]at hh
  simp at hh
 rename_i hh2
 have hin:=S2.mp (by simpa using hh2)
 have hW1:=hW.ext e1
 have hL1:=hL.ext e1
 refine Aa fun nY=>?_
 obtain⟨d,rs,w1,w2,w3⟩:=hW1
 refine nY ?_;clear nY
 (try dsimp only)
 refine Uy ?_
 simp (disch:=first|decide|omega) only[Jg,Jw,Jx,Oo,Ag,Ai]
 refine Gi (fun k r3 r4 r5=>[some (.ref w),some (.ref r),some (.int l.length),r3,r4,r5]) (fun k r3 r4 r5 H₂=>(H₂=H₁)/\(∀(k' j:Nat) (x y:Int),k'<k->k'<j->l[k']? = some x->l[j]? = some y->(A x.toNat y.toNat=true↔D5 l.length k' j))) _ _ _ rfl ⟨rfl,by omega⟩ ?_ ?_
 ·rintro k r3 r4 r5 H₂ K hk ⟨rfl,hR⟩ hK
  have hk':k<l.length:=hk
  have hx:=List.getElem?_eq_getElem hk'
  generalize l[k]=x at hx
  have hxr:=hin x (List.mem_of_getElem? hx)
  simp (disch:=first|decide|omega) only[J2,J3,Bo,Bp,L2]
  refine Uy ?_
  simp (disch:=first|decide|omega) only[Je,Jg,Jl,Jw,Jx,J8,Jbr,Ag,Ai]
  refine Py (a:=(k:Int)+1) (fun i ρ H₃=>(Ii fun r4 r5=>E6 (ρ = [some (.ref w),some (.ref r),some (.int l.length),some (.int k),r4,r5]) (H₃=H₂) (∀(j:Nat) (y:Int),k<j->j<k+1+i->l[j]? = some y->(A x.toNat y.toNat=true↔D5 l.length k j))))
   ⟨_,_,rfl,rfl,by omega⟩ ?_ ?_
  ·rintro i ρ H₃ K' hi hP26 hK'
   refine Aa fun nY=>?_
   obtain⟨r4,r5,rfl,rfl,hS⟩:=hP26
   have hj':k+1+i<l.length:=(Nat.add_lt_of_lt_sub' (Nat.lt_of_lt_of_eq hi (Int.toNat_sub _ (_+1))))
   have ej:(k:Int)+1+i=((k+1+i:Nat):Int):=rfl
   refine nY ?_;clear nY
   rw[ej]
   have hy:=List.getElem?_eq_getElem hj'
   generalize hjj:k+1+i=j at *
   generalize l[j]=y at hy
   have hyr:=hin y (List.mem_of_getElem? hy)
   simp only[L1,J3,J2,List.set_cons_succ,List.set_cons_zero]
   have hdec:Decidable (D5 l.length k j):=inferInstanceAs (Decidable (_\/_))
   refine Abj (.bool (decide (D5 l.length k j))) (fun Q' h'=>?_) ?_
   ·simp (disch:=first|decide|omega) only[Je,Jg,Jj,Jk,Jl,Jm,J8,J9,Qq,Bl,Ag,Ai]
    split
    ·rename_i h
     rw[decide_eq_true_eq]at h
     rw[decide_eq_true (show D5 l.length k j from .inl (Int.ofNat_inj.mp h))]at h'
     exact h'
    ·rename_i h
     rw[decide_eq_true_eq]at h
     split
     ·rename_i h2
      rw[decide_eq_true_eq]at h2
      rw[decide_eq_decide.mpr (show D5 l.length k j↔(j:Int)=l.length-1 by unfold D5;constructor<;>(intro;omega))]at h'
      exact h'
     ·rename_i h2
      rw[decide_eq_true_eq]at h2
      rw[decide_eq_false (show ¬D5 l.length k j by unfold D5;exact Aiu h h2)]at h'
      exact h'
   simp (disch:=first|decide|omega) only[Bo,Bp]
   refine Ba (!(A x.toNat y.toNat==decide (D5 l.length k j))) (fun Q' h'=>?_) ?_
   ·simp (disch:=first|decide|omega) only[Jg,Jm,Js,Jw,Jx,Ag,Ai,Cu,true_and,A4,Dv,Dw,Fo,w1,w2,B.tied,Al hL1 (Int.natCast_nonneg k) (LI.sub (a:=r) hx),Al hL1 (Int.natCast_nonneg j) (LI.sub (a:=r) hy)]
    refine P4 B ⟨d,rs,w1,w2,w3⟩ hxr.1 hxr.2 hyr.1 hyr.2 ?_
    (try dsimp only);(try simp (disch:=first|decide|omega) only[Jbh])
    exact h'
   split
   ·rename_i h3
    simp (disch:=first|decide|omega) only[Jd,J0,J2,J3]
    refine q false _ e1 ⟨nofun,fun h=>?_⟩
    have:=h.2.2.2 k j x y (Nat.lt_of_lt_of_eq (Nat.lt_of_lt_of_le (Nat.lt_succ_self _) (Nat.le_add_right _ _)) (Int.ofNat_inj.mp ej)) hx hy
    rw[Bool.not_eq_true',beq_eq_false_iff_ne]at h3
    exact absurd (Bool.eq_iff_iff.mpr (by rw[decide_eq_true_eq];exact this)) h3
   ·rename_i h3
    rw[Bool.not_eq_true,Bool.not_eq_false',beq_iff_eq]at h3
    simp (disch:=first|decide|omega) only[J2]
    refine hK' _ _ ⟨_,_,rfl,rfl,fun j' y' h1 h2 hy'=>?_⟩
    refine Aa fun nY=>?_
    by_cases hj2:j'=j
    ·subst hj2
     rw[hy]at hy';cases hy'
     refine nY ?_;clear nY
     rw[h3,decide_eq_true_eq]
    ·refine nY ?_;clear nY
     exact hS j' y' h1 (Nat.lt_of_le_of_ne (Nat.le_of_lt_succ (Nat.lt_of_lt_of_eq h2 (congrArg (·+1) (show _+1+_=_ from Int.ofNat_inj.mp ej)))) hj2) hy'
  ·rintro ρ H₃ hP27
   refine Aa fun nY=>?_
   obtain⟨r4,r5,rfl,rfl,hS⟩:=hP27
   refine nY ?_;clear nY
   refine hK _ _ _ _ ⟨rfl,fun k' j x' y h1 h2 h3 h4=>?_⟩
   refine Aa fun nY=>?_
   by_cases hk2:k'=k
   ·subst hk2
    rw[hx]at h3;cases h3
    have hj:=(List.getElem?_eq_some_iff.mp h4).1
    refine nY ?_;clear nY
    exact hS j y h2 (Nat.lt_of_lt_of_le hj (Nat.sub_le_iff_le_add'.mp (Nat.le_of_eq (Int.toNat_sub _ (_+1)).symm))) h4
   ·refine nY ?_;clear nY
    exact hR k' j x' y (Q94 h1 hk2) h2 h3 h4
 ·rintro r3 r4 r5 H₂ ⟨rfl,hR⟩
  refine q true _ e1 ⟨fun _=>⟨(Aiv hh.1),hnd,hin,fun k j x y h1 h2 h3=>?_⟩,fun _=>rfl⟩
  exact hR k j x y (by have:=(List.getElem?_eq_some_iff.mp h2).1;simpa using this) h1 h2 h3
set_option linter.all false
variable {G:Aw} {n:Nat} {H H':AH} {Q:Ah} {E:EP} {C:CS} {ρ:Ak}
noncomputable def Fj(m:Nat)(A:Nat->Nat->Bool):List Int->Prop
 | []=>True
 | x::r=>(0<=x/\x<(m:Int))/\(∀y∈r,y∈Am m A x.toNat)/\Fj m A r
theorem Ht{m:Nat}{A:Nat->Nat->Bool}(g:Gr A):∀ {l:List Int},Fj m A l↔Ek m A l:=by
 intro l
 induction l with
 | nil=>simp[Fj,Ek]
 | cons x r ih=>
   unfold Fj
   rw[ih]
   unfold Ek
   rw[List.nodup_cons,List.pairwise_cons]
   constructor
   ·rintro⟨h1,h2,h3,h4,h5⟩
    exact⟨⟨fun hx=>absurd ((g.irr _).symm.trans (Ar.mp (h2 x hx)).2.2) Bool.false_ne_true,h3⟩,fun y hy=>(List.mem_cons.mp hy).elim (fun e=>e▸h1) (h4 y),fun y hy=>(Ar.mp (h2 y hy)).2.2,h5⟩
   ·rintro⟨⟨h1,h2⟩,h3,h4,h5⟩
    have k:=fun y hy=>h3 y (List.mem_cons_of_mem x hy)
    exact⟨h3 x List.mem_cons_self,fun y hy=>Ar.mpr ⟨(k y hy).1,(k y hy).2,h4 y hy⟩,h2,k,h5⟩
theorem Wb(hG:G.fn "_law_crowd" = some Iv){a m r:Nat}{A:Nat->Nat->Bool}{l:List Int}(g:Gr A)(hN:Cr H a m A)(hL:LI H r l)(hl:l.length<=4000)
 (q:∀b H',Ad H H'->(b=true↔Ek m A l)->Q (.bool b) H'):Af G (n+1) "_law_crowd" [.ref a,.ref r] H Q E:=by
 refine Aj hG rfl ?_
 simp (disch:=first|decide|omega) only[Jd,J0,J2,J3,List.map,Dn,Dp,List.replicate,Iv]
 refine Uy ?_
 simp (disch:=first|decide|omega) only[Jg,Jq,Jw,Jx,Ag,Ai,A8 hL]
 refine Db (Int.natCast_nonneg _) (by rw[List.length_map];exact(Int.ofNat_le.mpr (Nat.le_trans hl (by decide)))) ?_
 refine K6 (fun i r2 r3=>[some (.ref a),some (.ref r),r2,r3]) (fun i r2 r3 H₁=>(Ad H H₁)/\((Fj m A l↔Fj m A (l.drop i)))) _ _ rfl ⟨Ad.refl,Iff.rfl⟩ ?_ ?_
 ·rintro i r2 r3 H₁ K hi ⟨e,hC⟩ hK
  have hi':i<l.length:=by simpa using hi
  have hx:=List.getElem?_eq_getElem hi'
  generalize l[i]=x at hx
  rw[Cp hx]at hC
  have hL1:=hL.ext e
  obtain⟨as,n1,n2,n3⟩:=hN.ext e
  simp (disch:=first|decide|omega) only[J2,J3,Bo,Bp,Iu]
  refine Ba (!(decide (0<=x)&&decide (x<(m:Int)))) (fun Q' h'=>?_) ?_
  ·simp (disch:=first|decide|omega) only[Je,Jg,Jh,Jn,Jq,Js,Jw,Jx,Qg,Jbb,Bl,Ag,Ai,Al hL1 (Int.natCast_nonneg i) (LI.sub (a:=r) hx),A8 n1]
   rw[List.length_map,n2]
   split
   ·rename_i h;rw[h,Bool.true_and]at h';exact h'
   ·rename_i h;rw[Bool.not_eq_true]at h;rw[h,Bool.false_and]at h';exact h'
  split
  ·rename_i hh
   simp (disch:=first|decide|omega) only[Jd,J0,J2,J3]
   refine q false H₁ e ⟨nofun,fun h=>?_⟩
   rw[<-Ht g,hC]at h
   have:=h.1
   simp at hh
   exact(hh.elim (Int.not_lt.mpr this.1) (Int.not_le.mpr this.2)).elim
  rename_i hh
  have hxr:0<=x/\x<(m:Int):=by simp at hh;exact⟨hh.1,hh.2⟩
  simp (disch:=first|decide|omega) only[J2]
  refine Oz ?_
  simp (disch:=first|decide|omega) only[Jc,Je,Jg,Jl,Jt,J8,Ag,Ai]
  (refine D4 hL1 F7 Gj ?_;rw[Lk (by exact U7)])
  intro s hs
  rw[show ((i:Int)+1).toNat=i+1 by omega,<-List.map_drop,Aa8 Ac]
  have eW:=e.trans (Ad.upd (o:= .list ((l.drop (i+1)).map V.int)) hs)
  have hsv:upd H₁ s (.list ((l.drop (i+1)).map V.int)) s=some (.list ((l.drop (i+1)).map V.int)):=Ac
  generalize upd H₁ s (.list ((l.drop (i+1)).map V.int))=H₂ at *
  have hL2:=hL.ext eW
  obtain⟨as,z,a1,a2,a3,a4⟩:=(hN.ext eW).row hxr.1 hxr.2
  refine B6 (fun j r3=>[some (.ref a),some (.ref r),some (.int i),r3]) (fun j r3 H₃=>(H₃=H₂)/\(∀y∈(l.drop (i+1)).take j,y∈Am m A x.toNat)) _ rfl ⟨rfl,fun _ h=>absurd h List.not_mem_nil⟩ ?_ ?_ ?_
  ·rintro j r3 H₃ ⟨rfl,hj⟩;exact hsv
  ·rintro j v r3 H₃ K' hv ⟨rfl,hj⟩ hK'
   obtain⟨y,hy,rfl⟩:=LI.at_ (a:=r) hv
   simp (disch:=first|decide|omega) only[J2,J3,Bo,Bp,Ir]
   refine Ba (!decide (y∈Am m A x.toNat)) (fun Q' h'=>?_) ?_
   ·simp (disch:=first|decide|omega) only[Jg,Jm,Js,Ag,Ai,Al hL2 (Int.natCast_nonneg i) (LI.sub (a:=r) hx),Al a1 hxr.1 a3,Hr a4]
    exact h'
   split
   ·rename_i h3
    simp (disch:=first|decide|omega) only[Jd,J0,J2,J3]
    refine q false _ eW ⟨nofun,fun h=>?_⟩
    rw[<-Ht g,hC]at h
    have:=h.2.1 y (List.mem_of_getElem? hy)
    simp[this]at h3
   ·rename_i h3
    simp (disch:=first|decide|omega) only[J2]
    refine hK' _ _ ⟨rfl,fun z hz=>?_⟩
    rw[List.take_add_one,hy]at hz
    rcases List.mem_append.mp hz with hz|hz
    ·exact hj z hz
    ·simp at hz;subst hz;simpa using h3
  ·rintro r3 H₃ ⟨rfl,hj⟩
   rw[List.length_map,List.take_of_length_le (Nat.le_refl _)]at hj
   refine hK _ _ _ ⟨eW,hC.trans ⟨fun h=>h.2.2,fun h=>⟨hxr,hj,h⟩⟩⟩
 ·rintro r2 r3 H₁ ⟨e,hC⟩
  refine q true H₁ e ⟨fun _=>?_,fun _=>rfl⟩
  rw[<-Ht g,hC]
  simp[Fj]
theorem Y0(hG:G.fn "_law_ring" = some Gd){a m r:Nat}{A:Nat->Nat->Bool}{l:List Int}(g:Gr A)(hN:Cr H a m A)(hL:LI H r l)(hl:l.length<64)
 (q:∀b H',Ad H H'->(b=true↔P6 m A l)->Q (.bool b) H'):Af G (n+1) "_law_ring" [.ref a,.ref r] H Q E:=by
 refine Aj hG rfl ?_
 simp (disch:=first|decide|omega) only[Jd,Jg,Jq,Jw,Jx,Jy,J0,J2,J3,List.map,Dn,Dp,Ag,Ai,List.replicate,Bo,Bp,Gd,A8 hL]
 rw[List.length_map]
 refine Ba (decide ((l.length:Int)<4)) (fun Q' h'=>?_) ?_
 ·simp (disch:=first|decide|omega) only[Je,Jg,Jm,Qg,Ag,Ai];exact h'
 split
 ·rename_i hh
  simp (disch:=first|decide|omega) only[Jd,J0,J2,J3]
  refine q false H Ad.refl ⟨nofun,fun h=>?_⟩
  have:=h.1
  simp at hh;exact(Int.not_lt.mpr (Int.ofNat_le.mpr this) hh).elim
 rename_i hh
 have h4:4<=l.length:=by simp at hh;exact Int.ofNat_lt.mp hh
 simp (disch:=first|decide|omega) only[J2]
 refine Oz ?_
 simp (disch:=first|decide|omega) only[Jg,Ag,Ai]
 refine Ao hL ?_
 refine Aa fun nY=>?_
 obtain⟨as,n1,n2,n3⟩:=hN
 have hN:Cr H a m A:=⟨as,n1,n2,n3⟩
 refine nY ?_;clear nY
 refine B6 (fun j r3=>[some (.ref a),some (.ref r),some (.int l.length),r3,none,none]) (fun j r3 H₃=>(H₃=H)/\(∀y∈l.take j,(0<=y/\y<(m:Int))/\l.count y<=1)) _ rfl ⟨rfl,fun _ h=>absurd h List.not_mem_nil⟩ ?_ ?_ ?_
 ·rintro j r3 H₃ ⟨rfl,hj⟩;exact hL
 ·rintro j v r3 H₃ K' hv ⟨rfl,hj⟩ hK'
  obtain⟨y,hy,rfl⟩:=LI.at_ (a:=r) hv
  simp (disch:=first|decide|omega) only[J2,J3,Bo,Bp,Gp]
  refine Ba (!(decide (0<=y)&&decide (y<(m:Int)))||decide ((1:Int)<l.count y)) (fun Q' h'=>?_) ?_
  ·simp (disch:=first|decide|omega) only[Je,Jg,Jh,Jk,Jm,Jn,Jq,Jw,Jx,Qg,Jbb,Zi,Bl,Ag,Ai,true_and,A8 n1,B0,B8 hL,Ads hL]
   rw[List.length_map,n2]
   split
   ·rename_i h
    rw[h,Bool.true_and]at h'
    split
    ·rename_i h2;rw[h2,Bool.true_or]at h';exact h'
    ·rename_i h2;rw[Bool.not_eq_true]at h2;rw[h2,Bool.false_or]at h';exact h'
   ·rename_i h;rw[Bool.not_eq_true]at h;rw[h,Bool.false_and]at h';exact h'
  split
  ·rename_i h3
   simp (disch:=first|decide|omega) only[Jd,J0,J2,J3]
   refine q false _ Ad.refl ⟨nofun,fun h=>?_⟩
   have h5:=h.2.2.1 y (List.mem_of_getElem? hy)
   have h6:=List.nodup_iff_count.mp h.2.1 y
   simp at h3
   exact(Aiw h5.1 h5.2 h6 h3).elim
  ·rename_i h3
   simp (disch:=first|decide|omega) only[J2]
   refine hK' _ _ ⟨rfl,fun z hz=>?_⟩
   rw[List.take_add_one,hy]at hz
   refine Aa fun nY=>?_
   rcases List.mem_append.mp hz with hz|hz
   ·refine nY ?_;clear nY
    exact hj z hz
   ·simp at hz;subst hz
    simp at h3
    refine nY ?_;clear nY
    exact⟨⟨h3.1.1,h3.1.2⟩,Int.ofNat_le.mp h3.2⟩
 rintro r3 H₃ ⟨rfl,hj⟩
 rw[List.length_map,List.take_of_length_le (Nat.le_refl _)]at hj
 have hin:∀y∈l,0<=y/\y<(m:Int):=fun y hy=>(hj y hy).1
 have hnd:l.Nodup:=List.nodup_iff_count.mpr fun y=>by
  refine Aa fun nY=>?_
  by_cases hy:y∈l
  ·refine nY ?_;clear nY
   exact(hj y hy).2
  ·refine nY ?_;clear nY
   rw[List.count_eq_zero.mpr hy];omega
 have done:Abi m A l->P6 m A l:=fun h=>⟨h4,hnd,hin,(R7 g h4 hnd hin).mpr h⟩
 have back:P6 m A l->Abi m A l:=fun h=>(R7 g h4 hnd hin).mp h.2.2.2
 refine Uy ?_
 simp (disch:=first|decide|omega) only[Jg,Jw,Jx,Oo,Ag,Ai]
 refine F5 (fun i ρ H₁=>(Ii fun r4 r5=>E6 (ρ = [some (.ref a),some (.ref r),some (.int l.length),r3,r4,r5]) (Ad H₃ H₁) (∀(k:Nat) (x p q:Int),k<i->l[k]? = some x->l[Ew l.length k]? = some p->l[Eb l.length k]? = some q->
  Bd (l.filter fun o=>decide (o∈Am m A x.toNat))=Bd [p,q]))) ⟨_,_,rfl,Ad.refl,by omega⟩ ?_ ?_
 ·rintro i ρ H₁ K hi hP28 hK
  refine Aa fun nY=>?_
  obtain⟨r4,r5,rfl,e,hS⟩:=hP28
  have hi':i<l.length:=hi
  have hx:=List.getElem?_eq_getElem hi'
  refine nY ?_;clear nY
  generalize l[i]=x at hx
  have hxr:=hin x (List.mem_of_getElem? hx)
  have hpl:Ew l.length i<l.length:=by unfold Ew;split<;>omega
  have hnl:Eb l.length i<l.length:=by unfold Eb;split<;>omega
  have hp:=List.getElem?_eq_getElem hpl
  have hq:=List.getElem?_eq_getElem hnl
  generalize l[Ew l.length i]=p at hp
  generalize l[Eb l.length i]=nx at hq
  have hL1:=hL.ext e
  have hsub1:∀Q':Ah,B9 (.ref r) (.int ((i:Int)-1)) H₁ Q'=Q' (.int p) H₁:=fun Q'=>by
   unfold Ew at hp
   refine Aa fun nY=>?_
   by_cases h0:i=0
   ·rw[if_pos h0]at hp
    refine nY ?_;clear nY
    refine V7 hL1 (Aix h0) (by rw[List.length_map];exact Aiy hnl) ?_
    rw[List.length_map,show ((i:Int)-1+l.length).toNat=l.length-1 by exact Aiz h0,List.getElem?_map,hp];rfl
   ·rw[if_neg h0]at hp
    refine nY ?_;clear nY
    refine Al hL1 (Int.sub_nonneg_of_le (Int.natCast_pos.mpr (Nat.pos_of_ne_zero h0))) ?_
    rw[show ((i:Int)-1).toNat=i-1 by omega,List.getElem?_map,hp];rfl
  have hmod:((i:Int)+1)%l.length=(Eb l.length i:Nat):=by
   unfold Eb
   split
   ·rename_i h;rw[show (i:Int)+1=l.length by exact(congrArg Int.ofNat h),Int.emod_self];rfl
   ·rw[Int.emod_eq_of_lt U7 (by omega)];rfl
  simp only[Gs,J3,J2,List.set_cons_succ,List.set_cons_zero]
  simp (disch:=first|decide|omega) only[Je,Jg,Jl,Js,Ju,Jw,Jx,Jy,J6,J8,J9,Ag,Ai,Bo,Bp,hsub1,hmod,Al hL1 (Int.natCast_nonneg (Eb l.length i)) (LI.sub (a:=r) hq)]
  intro c hc
  have e1:=e.trans (Ad.upd (o:= .list [.int p,.int nx]) hc)
  have hcv:LI (upd H₁ c (.list [.int p,.int nx])) c [p,nx]:=Ac
  generalize upd H₁ c (.list [.int p,.int nx])=H₂ at *
  have hL2:=hL.ext e1
  refine Aa fun nY=>?_
  obtain⟨as',z,a1,a2,a3,a4⟩:=(hN.ext e1).row hxr.1 hxr.2
  refine nY ?_;clear nY
  refine A5 (Oy (Rb (Co (hvK ?_))))
  simp (disch:=first|decide|omega) only[Jd,Jg,Jq,Jw,Jx,J0,J2,J3,J4,Dn,Dp,Ag,Ai,List.replicate]
  refine Ao hL2 ?_
  refine⟨by simp[Bq];exact(Nat.le_trans (Nat.le_of_lt hl) (by decide)),?_⟩
  refine Dq (p:=fun o=>decide (o∈Am m A x.toNat)) hL2 (fun o ho K hK=>?_) ?_
  ·simp (disch:=first|decide|omega) only[Jg,Jm,Js,Bl,Ag,Ai,Gq,Al hL2 (Int.natCast_nonneg i) (LI.sub (a:=r) hx),Al a1 hxr.1 a3,Yw a4]
   split
   ·rename_i h;rw[if_pos h]at hK;exact hK
   ·rename_i h;rw[if_neg h]at hK;exact hK
  generalize hR:(l.filter fun o=>decide (o∈Am m A x.toNat))=R
  have hRl:R.length<64:=by
   rw[<-hR];exact Nat.lt_of_le_of_lt (List.length_filter_le _ _) hl
  intro f hf
  (try dsimp only)
  refine P2 (l:=R) Ac hRl ?_
  intro s1 hs1
  (try dsimp only)
  have e2:=(Ad.upd (o:= .list (R.map V.int)) hf).trans (Ad.upd (o:= .list ((Bd R).map V.int)) hs1)
  refine P2 (hcv.ext e2) (by simp) ?_
  intro s2 hs2
  (try dsimp only)
  have e3:=Ad.upd (o:= .list ((Bd [p,nx]).map V.int)) hs2
  refine Wa (l:=Bd R) (l':=Bd [p,nx]) (e3 _ _ Ac) Ac ?_
  (try dsimp only);(try simp (disch:=first|decide|omega) only[Bl])
  split
  ·rename_i h3
   (try dsimp only)
   refine q false _ (e1.trans (e2.trans e3)) ⟨nofun,fun h=>?_⟩
   have:=back h i x p nx hx hp hq
   rw[hR]at this
   simp[this]at h3
  ·rename_i h3
   (try dsimp only)
   refine hK _ _ ⟨_,_,rfl,e1.trans (e2.trans e3),fun k x' p' q' h1 h2 h5 h6=>?_⟩
   refine Aa fun nY=>?_
   by_cases hk:k=i
   ·subst hk
    rw[hx]at h2;rw[hp]at h5;rw[hq]at h6
    cases h2;cases h5;cases h6
    refine nY ?_;clear nY
    rw[hR]
    simpa using h3
   ·refine nY ?_;clear nY
    exact hS k x' p' q' (Q94 h1 hk) h2 h5 h6
 ·rintro ρ H₁ hP29
  refine Aa fun nY=>?_
  obtain⟨r4,r5,rfl,e,hS⟩:=hP29
  refine nY ?_;clear nY
  refine q true H₁ e ⟨fun _=>done fun k x p q h1 h2 h3=>hS k x p q ?_ h1 h2 h3,fun _=>rfl⟩
  have:=(List.getElem?_eq_some_iff.mp h1).1
  simpa using this
set_option linter.all false
variable {G:Aw} {n:Nat} {H H':AH} {Q:Ah} {E:EP} {C:CS} {ρ:Ak}
theorem Ah1{a:Nat}{xs:List V}(h:H a=some (.list xs)):Dh (.ref a) .none .none (.int (-1)) H Q=Ay (.list xs.reverse) H Q:=by
 show F8 (H a) (fun xs=>none=(none:Option Int)/\none=(none:Option Int)/\(-1:Int) = -1/\Ay (.list xs.reverse) H Q)=_
 rw[h];exact propext ⟨fun q=>q.2.2.2,fun q=>⟨rfl,rfl,rfl,q⟩⟩
theorem Abn{a:Nat}{xs:List V}(h:H a=some (.list xs))(kk:Ay (.list xs.reverse) H Q):Dh (.ref a) .none .none (.int (-1)) H Q:=Eq.mpr (Ah1 h) kk
theorem Mr{a:Nat}{xs:List V}(h:H a=some (.list xs)):C9 .list [.ref a] H Q=Ay (.list xs) H Q:=by
 delta C9;dsimp only;(first|delta Nb|delta Ik|delta G7|delta Nc|delta U6|delta G8);(try dsimp only[A2,Ax,U3,Na,Ti]);rw[h];(try dsimp only[F8,U2])
theorem seq{s:S}{rest:List S}{N:Ak->AH->Prop}{R:Ah}(T:Ak->AH->Prop)(h1:∀N:Ak->AH->Prop,(∀ρ H,T ρ H->N ρ H)->Ki G C s ρ H N R E)(h2:∀ρ H,T ρ H->Br G C rest ρ H N R E):Br G C (s::rest) ρ H N R E:=by
 refine Ae ?_;exact h1 _ h2
theorem Dl{s:S}{rest:List S}{N:Ak->AH->Prop}{R:Ah}(f:Ak)(T:AH->Prop)(h1:∀N:Ak->AH->Prop,(∀H,T H->N f H)->Ki G C s ρ H N R E)(h2:∀H,T H->Br G C rest f H N R E):Br G C (s::rest) ρ H N R E:=
 Ae (h1 _ h2)
theorem C3{α0:Type}{s:S}{rest:List S}{N:Ak->AH->Prop}{R:Ah}(f:α0->Ak)(T:α0->AH->Prop)(h1:∀N:Ak->AH->Prop,(∀x0 H,T x0 H->N (f x0) H)->Ki G C s ρ H N R E)(h2:∀x0 H,T x0 H->Br G C rest (f x0) H N R E):Br G C (s::rest) ρ H N R E:=
 Ae (h1 _ h2)
theorem Qw{α0 α1:Type}{s:S}{rest:List S}{N:Ak->AH->Prop}{R:Ah}(f:α0->α1->Ak)(T:α0->α1->AH->Prop)(h1:∀N:Ak->AH->Prop,(∀x0 x1 H,T x0 x1 H->N (f x0 x1) H)->Ki G C s ρ H N R E)(h2:∀x0 x1 H,T x0 x1 H->Br G C rest (f x0 x1) H N R E):Br G C (s::rest) ρ H N R E:=
 Ae (h1 _ h2)
theorem Af0{α0 α1 α2:Type}{s:S}{rest:List S}{N:Ak->AH->Prop}{R:Ah}(f:α0->α1->α2->Ak)(T:α0->α1->α2->AH->Prop)(h1:∀N:Ak->AH->Prop,(∀x0 x1 x2 H,T x0 x1 x2 H->N (f x0 x1 x2) H)->Ki G C s ρ H N R E)(h2:∀x0 x1 x2 H,T x0 x1 x2 H->Br G C rest (f x0 x1 x2) H N R E):Br G C (s::rest) ρ H N R E:=
 Ae (h1 _ h2)
theorem Ah2{α0 α1 α2 α3 α4:Type}{s:S}{rest:List S}{N:Ak->AH->Prop}{R:Ah}(f:α0->α1->α2->α3->α4->Ak)(T:α0->α1->α2->α3->α4->AH->Prop)(h1:∀N:Ak->AH->Prop,(∀x0 x1 x2 x3 x4 H,T x0 x1 x2 x3 x4 H->N (f x0 x1 x2 x3 x4) H)->Ki G C s ρ H N R E)(h2:∀x0 x1 x2 x3 x4 H,T x0 x1 x2 x3 x4 H->Br G C rest (f x0 x1 x2 x3 x4) H N R E):Br G C (s::rest) ρ H N R E:=
 Ae (h1 _ h2)
theorem Ah3{α0 α1 α2 α3 α4 α5:Type}{s:S}{rest:List S}{N:Ak->AH->Prop}{R:Ah}(f:α0->α1->α2->α3->α4->α5->Ak)(T:α0->α1->α2->α3->α4->α5->AH->Prop)(h1:∀N:Ak->AH->Prop,(∀x0 x1 x2 x3 x4 x5 H,T x0 x1 x2 x3 x4 x5 H->N (f x0 x1 x2 x3 x4 x5) H)->Ki G C s ρ H N R E)(h2:∀x0 x1 x2 x3 x4 x5 H,T x0 x1 x2 x3 x4 x5 H->Br G C rest (f x0 x1 x2 x3 x4 x5) H N R E):Br G C (s::rest) ρ H N R E:=
 Ae (h1 _ h2)
theorem Un{g:AH->Prop}{xs:List V}{elt:Ak->AH->(Option V->AH->Prop)->Prop}{Q:List V->AH->Prop}{y:Option V}(hg:g H)
 (step:∀x∈xs,∀K:Option V->AH->Prop,(∀i,K (some (.int i)) H)->K none H->elt (some x::ρ) H K) (fin:∀l:List Int,l.length<=xs.length->Q (l.map V.int) H):Bm g (.one 0) elt Q (xs.map .v) [] (y::ρ) H:=by
 refine Ck (k:=0) (fun i acc H'=>H'=H/\∃l:List Int,acc=l.map V.int/\l.length<=i) ⟨rfl,[],rfl,Nat.le_refl _⟩ ?_ ?_
 ·rintro i x acc H' K hx ⟨rfl,l,rfl,hl⟩ hK
  rw[List.getElem?_map]at hx
  obtain⟨j,hj,rfl⟩:=Option.map_eq_some_iff.mp hx
  refine⟨hg,_,rfl,step j (List.mem_of_getElem? hj) K (fun z=>hK _ _ ⟨rfl,l ++ [z],by simp,by simp;exact(Nat.le_trans hl (Nat.le_of_eq (Nat.zero_add _)))⟩) (hK _ _ ⟨rfl,l,rfl,(Nat.le_succ_of_le hl)⟩)⟩
 ·rintro acc H' ⟨rfl,l,rfl,hl⟩
  exact⟨hg,fin l (by simpa using hl)⟩
set_option linter.all false
variable {G:Aw} {n:Nat} {H H':AH} {Q:Ah} {E:EP} {C:CS} {ρ:Ak}
theorem Xo{a:Nat}{l:List Int}{k v:Int}{N:AH->Prop}(h:LI H a l)(h0:0<=k)(hk:k<l.length):setItem (.ref a) (.int k) (.int v) H N=N (upd H a (.list ((l.set k.toNat v).map V.int))):=by
 rw[Abc h h0 (by rw[List.length_map];exact hk),List.map_set]
theorem P7{a:Nat}{l:List Int}{k v:Int}{N:AH->Prop}(h:LI H a l)(h0:0<=k)(hk:k<l.length)(kk:N (upd H a (.list ((l.set k.toNat v).map V.int)))):setItem (.ref a) (.int k) (.int v) H N:=Eq.mpr (Xo h h0 hk) kk
theorem Adu{ns:List Int}{m:Nat}{rows:List (List Int)}{ps:List (Int×Int)}(hW:Wf m rows)(hT:Abe ns m rows ps):Es m ps:=by
 intro p hp
 obtain⟨k,r,one,h1,h2,h3⟩:=hT.1 p hp
 have hk:=(List.getElem?_eq_some_iff.mp h1).1
 rw[hW.1]at hk
 have hr:=(hW.2 k r h1).2 one h2
 have n1:=Rx (ns:=ns) (m:=m) (k:=k) (Q89 hk)
 have n2:=Rx (ns:=ns) (m:=m) (k:=one) (Int.lt_of_le_of_lt n1.1 n1.2)
 have n3:Be ns m k≠Be ns m one:=fun e=>by
  have:=V1 (ns:=ns) (m:=m) (j:=k) (k:=one) (Int.lt_of_le_of_lt n2.1 n2.2) (⟨Int.natCast_nonneg _,Int.ofNat_lt.mpr hk⟩) (⟨hr.1,Int.lt_trans hr.2 (Int.ofNat_lt.mpr hk)⟩) e
  exact Int.lt_irrefl _ (Int.lt_of_lt_of_le hr.2 (Int.le_of_eq this))
 rcases h3 with rfl|rfl
 ·exact⟨n1,n2,n3⟩
 ·exact⟨n2,n1,Ne.symm n3⟩
theorem Ael{m:Nat}{ps:List (Int×Int)}(g:Es m ps):Gr (Hs ps):=by
 refine⟨fun i=>?_,fun i j=>?_⟩
 ·unfold Hs
  rw[decide_eq_false_iff_not]
  exact fun h=>(h.in_ g).2.2 rfl
 ·unfold Hs
  exact decide_eq_decide.mpr ⟨Tf.symm,Tf.symm⟩
noncomputable def del(H:AH)(h:Nat):AH:=fun b=>if b=h then none else H b
theorem Adv{h:Nat}(e:Ad H H')(hn:H h=none):Ad H (del H' h):=fun a o q=>by
 unfold del
 rw[if_neg (fun z=>by rw[z,hn]at q;cases q)]
 exact e a o q
set_option linter.all false
variable {G:Aw} {n:Nat} {H H':AH} {Q:Ah} {E:EP} {C:CS} {ρ:Ak}
theorem Abo{v:V}{a:Nat}{xs:List V}{r:Bool}(h:H a=some (.tuple xs))(hm:U5 v xs=some r):Bg .NotIn v (.ref a) H Q=Q (.bool (!r)) H:=by
 delta Bg;(try dsimp only);(try delta Se);(try dsimp only[A2]);rw[h];(try dsimp only[Ax]);rw[hm];(try dsimp only[Ey])
theorem Abp{b:Bool}:C9 (.isinst .bool) [.bool b] H Q=Q (.bool true) H:=propext ⟨fun h=>h.2,fun h=>⟨rfl,h⟩⟩
set_option linter.all false
noncomputable def Oe(A:Nat->Nat->Bool)(l:List Int)(p:Int):List Int:=l.filter fun o=>A p.toNat o.toNat
noncomputable def Fk(A:Nat->Nat->Bool)(l:List Int)(p:Int):Bool:=(fu A (Oe A l p)).isNone
noncomputable def ltg(A:Nat->Nat->Bool)(l:List Int):Option Int:=l.find? (Fk A l)
noncomputable def Ap(A:Nat->Nat->Bool):Nat->List Int->List Int->List Int×List Int
 | 0,g,t=>(g,t)
 | k+1,g,t=>match ltg A t with
   | none=>(g,t)
   | some p=>Ap A k (g ++ [p]) (t.erase p)
theorem S3{A:Nat->Nat->Bool}{l:List Int}{p:Int}(h:ltg A l=some p):p∈l:=List.mem_of_find?_eq_some h
noncomputable def Abq:Option Int->V
 | none=> .none
 | some p=> .int p
theorem Y1:Abq none = .none:=rfl
theorem Y2{p:Int}:Abq (some p) = .int p:=rfl
noncomputable def Aq(m:Nat):List Int:=Lj (List.range m)
theorem B7{m:Nat}{x:Int}:x∈Aq m↔0<=x/\x<m:=by
 unfold Aq
 rw[P0,List.mem_range]
 constructor<;>(rintro⟨h1,h2⟩;exact⟨h1,by(first|lia|omega)⟩)
theorem Bt{m:Nat}:(Aq m).length=m:=by simp[Aq,Lj]
theorem R8{m:Nat}:(Aq m).Pairwise (· < ·):=by
 have:=S0 (m:=m) (fun _=>true)
 rwa[List.filter_eq_self.mpr (fun _ _=>rfl)]at this
theorem Cg{m:Nat}:(Aq m).Nodup:=R8.imp fun h=>(Int.ne_of_lt h)
variable {G:Aw} {n:Nat} {H H':AH} {Q:Ah} {E:EP} {C:CS} {ρ:Ak}
theorem Adw{i:Int}:Bg .IsNot (.int i) .none H Q=Q (.bool true) H:=rfl
theorem Uo{a:Nat}{l:List Int}{k:Int}(h:LI H a l)(hk:k∈l):Gk .remove (.ref a) [.int k] H Q=Q .none (upd H a (.list ((l.erase k).map V.int))):=by
 unfold LI at h
 delta Gk;dsimp only;(first|delta Ez|delta G9|delta Ha|delta E0|delta Dt|delta Ce);(try dsimp only[A2,Ax,U3,Na,Ti]);rw[h];(try dsimp only[F8,U2]);rw[G2];(try dsimp only[F8,Ey])
 exact propext ⟨fun h=>h.2,fun q=>⟨hk,q⟩⟩
theorem Hv{m:Nat}:((List.range m).map fun(i:Nat)=>V.int i)=(Aq m).map V.int:=(List.map_map).symm
theorem P8(B:G1 G)(hG:G.fn "Web.beside" = some En){w m:Nat}{A:Nat->Nat->Bool}{x:Int}(hW:Cs H w m A)(h0:0<=x)(h1:x<m)
 (q:∀a H',Ad H H'->H a=none->LI H' a (Am m A x.toNat)->Q (.ref a) H'):Af G (n+2) "Web.beside" [.ref w,.int x] H Q E:=by
 have hW':=hW
 refine Aa fun nY=>?_
 obtain⟨d,rs,w1,w2,w3⟩:=hW'
 obtain⟨as,z,a1,a2,a3,a4⟩:=w3.row h0 h1
 refine nY ?_;clear nY
 refine Aj hG rfl ?_
 simp (disch:=first|decide|omega) only[Jg,Jq,Jr,Js,Jw,Jx,Jz,J0,J2,J3,List.map,Dn,Dp,Ag,Ai,Cu,true_and,En,A4,Dv,Dw,Fo,w1,w2,B.need]
 refine P3 B hW h0 h1 ?_
 (try dsimp only)
 simp (disch:=first|decide|omega) only[Bn w1 w2 (show Ds [(Ct.many,V.int m),(Ct.rows,V.ref rs)] .rows=some (.ref rs)from rfl),Al a1 h0 a3,Mr a4]
 exact Ab fun a H' e n v=>q a H' e n v
theorem Abr(B:G1 G){w m r:Nat}{A:Nat->Nat->Bool}{l:List Int}{p:Int}{c:X}{Q:Ah}(hW:Cs H w m A)(hL:LI H r l)(hin:∀x∈l,0<=x/\x<m)(hp:0<=p/\p<m)(hl:l.length<=4000)
 (hc:∀(x:Int) K,0<=x->x<m->K (.bool (A p.toNat x.toNat)) H->Av G C c (some (.int x)::ρ) H K EF)
 (q:∀a H',Ad H H'->H a=none->LI H' a (Oe A l p)->Q (.ref a) H') :
 l.length<=4000/\Bm (fun H'=>H' r=some (.list (l.map V.int))) (.one 0) (fun ρ H K=>Av G C c ρ H (fun c H=>truthy c fun b=>if b then Av G C (.var 0) ρ H (fun v H=>K (some v) H) EF else K none H) EF)
  (fun vs H=>Ay (.list vs) H Q) ((l.map V.int).map .v) [] (none::ρ) H:=by
 refine⟨hl,Dq (p:=fun o=>A p.toNat o.toNat) hL (fun x hx K hK=>?_) ?_⟩
 ·have hxr:=hin x hx
  refine hc x _ hxr.1 hxr.2 ?_
  (try dsimp only);(try simp (disch:=first|decide|omega) only[Jg,Bl,Ag])
  split
  ·rename_i h;rw[if_pos h]at hK;exact hK
  ·rename_i h;rw[if_neg h]at hK;exact hK
 ·exact Ab fun a H' e n v=>q a H' e n v
theorem N0(B:G1 G)(hF:G.fn "first_untied" = some C5)(hG:G.fn "least_to_go" = some Gc){w m r:Nat}{A:Nat->Nat->Bool}{l:List Int}(hW:Cs H w m A)(hL:LI H r l)(hin:∀x∈l,0<=x/\x<m)(hl:l.length<=60)
 (q:∀H',Ad H H'->Q (Abq (ltg A l)) H'):Af G (n+4) "least_to_go" [.ref w,.ref r] H Q E:=by
 refine Aj hG rfl ?_
 simp (disch:=first|decide|omega) only[Jb,J0,J2,J3,List.map,Dn,Dp,List.replicate,Gc]
 refine Oz ?_
 simp (disch:=first|decide|omega) only[Jg,Ag,Ai]
 refine Ao hL ?_
 refine B6 (fun i r2=>[some (.ref w),some (.ref r),r2]) (fun i r2 H₁=>(Ad H H₁)/\(l.find? (Fk A l)=(l.drop i).find? (Fk A l))) _ rfl ⟨Ad.refl,rfl⟩ ?_ ?_ ?_
 ·rintro i r2 H₁ ⟨e,hf⟩;exact hL.ext e
 ·rintro i v r2 H₁ K hv ⟨e,hf⟩ hK
  refine Aa fun nY=>?_
  obtain⟨x,hx,rfl⟩:=LI.at_ (a:=r) hv
  have hxr:=hin x (List.mem_of_getElem? hx)
  rw[Cp hx,List.find?_cons]at hf
  have hW1:=hW.ext e
  have hL1:=hL.ext e
  obtain⟨d,rs,w1,w2,w3⟩:=hW1
  refine nY ?_;clear nY
  simp only[Gn,J3,J2,List.set_cons_succ,List.set_cons_zero]
  refine A5 (Oy (Oh ?_))
  refine⟨by rw[hF];rfl,?_⟩
  refine Co (Zr ?_)
  simp only[List.getElem?_cons_zero]
  refine Co (hvK ?_)
  simp (disch:=first|decide|omega) only[Jb,Jg,Jw,J0,J2,J3,J4,Dn,Dp,Ag,Ai,List.replicate]
  refine Ao hL1 ?_
  have:=Abr (C:=Af G (n+3)) (ρ:=[some (.ref w),some (.ref r),some (.int x)]) (c:=Ec) (Q:=fun v H=>Af G (n+3) "first_untied" [.ref w,v] H (fun a H=>Bg CmpOp.Is a V.none H fun v H=>truthy v fun c=>if c=true then Q (V.int x) H else K [some (.ref w),some (.ref r),some (.int x)] H) E) B ⟨d,rs,w1,w2,w3⟩ hL1 hin hxr (Nat.le_trans hl (by decide)) (fun y K' h0 h1 hK'=>by
   simp (disch:=first|decide|omega) only[Jg,Jw,Jx,Ag,Ai,Cu,true_and,Ec,A4,Dv,Dw,Fo,w1,w2,B.tied]
   exact P4 B ⟨d,rs,w1,w2,w3⟩ hxr.1 hxr.2 h0 h1 hK') (fun a H₂ e2 _ hL2=>by
   refine Ej B hF (hW.ext (e.trans e2)) hL2 (fun y hy=>hin y (List.mem_filter.mp hy).1) fun H₃ e3=>?_
   have e13:=(e.trans e2).trans e3
   cases hfu:fu A (Oe A l x)with
   | none=>
     (try dsimp only);(try simp (disch:=first|decide|omega) only[Jbi,Bl])
     simp only[if_true]
     have:Fk A l x=true:=by unfold Fk;rw[hfu];rfl
     rw[this]at hf
     have hq:=q H₃ e13
     unfold ltg at hq
     rw[hf]at hq
     exact hq
   | some pr=>
     obtain⟨y,z⟩:=pr
     intro a' ha'
     (try dsimp only);(try simp (disch:=first|decide|omega) only[Jbj,Bl])
     simp only[Bool.false_eq_true,if_false]
     have:Fk A l x=false:=by unfold Fk;rw[hfu];rfl
     rw[this]at hf
     exact hK _ _ ⟨e13.trans (Ad.upd ha'),hf⟩)
  exact⟨by simp[Bq];exact(Nat.le_trans this.1 (by decide)),this.2⟩
 ·rintro r2 H₁ ⟨e,hf⟩
  rw[List.length_map,List.drop_of_length_le (Nat.le_refl _),List.find?_nil]at hf
  have hq:=q H₁ e
  unfold ltg at hq
  rw[hf]at hq
  exact hq
set_option linter.all false
variable {G:Aw} {n:Nat} {H H':AH} {Q:Ah} {E:EP} {C:CS} {ρ:Ak}
theorem LI.upd_ne{a b:Nat}{l:List Int}{o:O}(h:LI H a l)(hn:a≠b):LI (upd H b o) a l:=by
 unfold LI at *;rw[Mine.Internal.Cl.upd_ne hn];exact h
theorem LI.ne_none{a b:Nat}{l:List Int}(h:LI H a l)(hn:H b=none):a≠b:=fun z=>by
 unfold LI at h;rw[z,hn]at h;cases h
theorem D6{A:Nat->Nat->Bool}{k:Nat}{g t:List Int}{p:Int}(h:ltg A t=some p):Ap A (k+1) g t=Ap A k (g ++ [p]) (t.erase p):=by
 show (match ltg A t with
  | none=>(g,t)
  | some p=>Ap A k (g ++ [p]) (t.erase p))=_
 rw[h]
theorem D7{A:Nat->Nat->Bool}{k:Nat}{g t:List Int}(h:ltg A t=none):Ap A k g t=(g,t):=by
 cases k with
 | zero=>rfl
 | succ k=>
   show (match ltg A t with
    | none=>(g,t)
    | some p=>Ap A k (g ++ [p]) (t.erase p))=_
   rw[h]
structure Fns(G:Aw):Prop where
 base:G1 G
 untied:G.fn "first_untied" = some C5
 ltg:G.fn "least_to_go" = some Gc
 taken:G.fn "taken" = some Wx
 beside:G.fn "Web.beside" = some En
theorem Xp(F:Fns G){w m:Nat}{A:Nat->Nat->Bool}(hW:Cs H w m A)(hm:m<=60)
 (q:∀r a b H',Ad H H'->H r=none->H a=none->H b=none->a≠b->H' r=some (.tuple [.ref b,.ref a])->LI H' b (Ap A m [] (Aq m)).1->LI H' a (Ap A m [] (Aq m)).2->Q (.ref r) H') :
 Af G (n+5) "taken" [.ref w] H Q E:=by
 have B:=F.base
 refine Aj F.taken rfl ?_
 simp only[Wx,List.map,List.replicate,List.cons_append,List.nil_append]
 refine C3 (fun a=>[some (.ref w),some (.ref a),none,none]) (fun a H₁=>E6 (Ad H H₁) (H a=none) (LI H₁ a (Aq m))) (fun N hN=>?_) ?_
 ·obtain⟨d,rs,w1,w2,w3⟩:=hW
  simp (disch:=first|decide|omega) only[Jg,Jq,Jr,Jw,Jx,Jy,Jbs,Ag,Bo,Bp,Bn w1 w2 (show Ds [(Ct.many,V.int m),(Ct.rows,V.ref rs)] .many=some (.int m)from rfl)]
  refine Ab fun a H₁ e n v=>hN a _ ⟨e,n,?_⟩
  unfold LI;rw[v,Int.toNat_natCast,Hv]
 rintro a H₁ ⟨e1,na,ha⟩
 refine C3 (fun b=>[some (.ref w),some (.ref a),some (.ref b),none]) (fun b H₂=>E6 (Ad H₁ H₂) (H₁ b=none) (LI H₂ b [])) (fun N hN=>?_) ?_
 ·simp (disch:=first|decide|omega) only[Ju,Jw,Jy,Bo,Bp]
  exact Ab fun b H₂ e n v=>hN b _ ⟨e,n,v⟩
 rintro b H₂ ⟨e2,nb1,hb⟩
 have nb:H b=none:=e1.isNone nb1
 have hab:a≠b:=ha.ne_none nb1
 have ha2:=ha.ext e2
 have hin:∀x∈Aq m,0<=x/\x<(m:Int):=fun x hx=>B7.mp hx
 refine Dl ([some (.ref w),some (.ref a),some (.ref b),some (Abq (ltg A (Aq m)))]) (fun H₃=>Ad H₂ H₃) (fun N hN=>?_) ?_
 ·simp (disch:=first|decide|omega) only[Jg,Jp,Jw,Jx,Jy,Ag,Ai,Bo,Bp,Cu,true_and,F.ltg]
  refine N0 B F.untied F.ltg (hW.ext (e1.trans e2)) ha2 hin (by rw[Bt];exact hm) fun H₃ e3=>?_
  exact hN _ e3
 rintro H₃ e3
 refine Dl ([some (.ref w),some (.ref a),some (.ref b),some .none]) (fun H₄=>Ad H H₄/\LI H₄ b (Ap A m [] (Aq m)).1/\LI H₄ a (Ap A m [] (Aq m)).2) (fun N hN=>?_) ?_
 ·refine Lp ?_
  refine⟨fun k ρ H₄=>(Ii fun t g=>An8 (t.length=k) (ρ = [some (.ref w),some (.ref a),some (.ref b),some (Abq (ltg A t))]) (Ad H H₄) (LI H₄ a t) (LI H₄ b g) (g.length+t.length<=60) (Ap A k g t=Ap A m [] (Aq m)) (∀x∈t,0<=x/\x<(m:Int))),
   ⟨_,Aq m,[],rfl,rfl,(e1.trans e2).trans e3,ha2.ext e3,hb.ext e3,by rw[Bt];simpa using hm,by rw[Bt],hin⟩,?_⟩
  rintro k ρ H₄ ⟨t,g,hk,rfl,e,hat,hbg,hlen,htk,hint⟩
  cases hlt:ltg A t with
  | none=>
    simp (disch:=first|decide|omega) only[Jb,Jg,Jm,Jbk,Bl,Ag,Ai,Y1]
    simp only[Bool.false_eq_true,if_false]
    rw[D7 hlt]at htk
    refine hN _ ⟨e,?_,?_⟩
    ·rw[<-htk];exact hbg
    ·rw[<-htk];exact hat
  | some p=>
    have hp:=S3 hlt
    have hpl:=List.length_pos_of_mem hp
    have hel:=List.length_erase_of_mem hp
    simp (disch:=first|decide|omega) only[Jb,Jg,Jm,Bl,Ag,Ai,Y2,Adw]
    simp only[if_true]
    simp (disch:=first|decide|omega) only[Jg,Jp,Jw,Jx,Jy,Jz,J2,J3,Ag,Ai,Bo,Bp,true_and,O7,B0,B8 hat,Uo hat hp]
    have hb1:LI (upd H₄ a (.list ((t.erase p).map V.int))) b g:=hbg.upd_ne (Ne.symm hab)
    have hbl:(g.map V.int).length<1048576:=by rw[List.length_map];exact Nat.lt_of_le_of_lt (Nat.le_trans (Nat.le_add_right _ _) hlen) (by decide)
    simp (disch:=first|decide|omega) only[true_and,B8 hb1,Cq hb1 hbl]
    have ha3:LI (upd (upd H₄ a (.list ((t.erase p).map V.int))) b (.list (g.map V.int ++ [.int p]))) a (t.erase p):=LI.upd_ne Ac hab
    have hb3:LI (upd (upd H₄ a (.list ((t.erase p).map V.int))) b (.list (g.map V.int ++ [.int p]))) b (g ++ [p]):=by unfold LI;rw[Ac];simp
    have e5:Ad H (upd (upd H₄ a (.list ((t.erase p).map V.int))) b (.list (g.map V.int ++ [.int p]))):=(e.upd' na).upd' nb
    generalize upd (upd H₄ a (.list ((t.erase p).map V.int))) b (.list (g.map V.int ++ [.int p]))=H₅ at *
    have hin5:∀x∈t.erase p,0<=x/\x<(m:Int):=fun x hx=>hint x (List.mem_of_mem_erase hx)
    refine⟨by rw[F.ltg];rfl,?_⟩
    refine N0 B F.untied F.ltg (hW.ext e5) ha3 hin5 (Nat.le_trans (Nat.le_of_eq hel) (Nat.le_trans (Nat.sub_le _ _) (Nat.le_trans (Nat.le_add_left _ _) hlen))) fun H₆ e6=>?_
    obtain⟨k',rfl⟩:∃k',k=k'+1:=⟨k-1,(Ai0 hk hpl)⟩
    refine⟨k',(Nat.le_refl _),t.erase p,g ++ [p],(Ai1 hel hk),rfl,e5.trans e6,ha3.ext e6,hb3.ext e6,by simp;exact Ai2 hlen hel hk,?_,hin5⟩
    rw[<-D6 hlt];exact htk
 rintro H₄ ⟨e4,hb4,ha4⟩
 simp (disch:=first|decide|omega) only[Jg,Jv,Jw,Jx,J0,J2,J3,Ag,Ai]
 exact Ab fun r H₅ e5 n5 v5=>q r a b H₅ (e4.trans e5) (e4.isNone n5) na nb hab v5 (hb4.ext e5) (ha4.ext e5)
set_option linter.all false
variable {G:Aw} {n:Nat} {H H':AH} {Q:Ah} {E:EP} {C:CS} {ρ:Ak}
theorem N3(hG:G.fn "_law_untied" = some D0){a m r:Nat}{A:Nat->Nat->Bool}{l:List Int}(hN:Cr H a m A)(hL:LI H r l)(hl:l.length<=4000)(hin:∀x∈l,0<=x/\x<m)
 (q:∀H',Ad H H'->match fu A l with|none=>Q .none H'|some (x,y)=>∀a,H' a=none->Q (.ref a) (upd H' a (.tuple [.int x,.int y]))):Af G (n+1) "_law_untied" [.ref a,.ref r] H Q E:=by
 refine Aj hG rfl ?_
 simp (disch:=first|decide|omega) only[Jb,J0,J2,J3,List.map,Dn,Dp,List.replicate,D0]
 refine Uy ?_
 simp (disch:=first|decide|omega) only[Jg,Jq,Jw,Jx,Ag,Ai,A8 hL]
 refine Db (Int.natCast_nonneg _) (by rw[List.length_map];exact(Int.ofNat_le.mpr (Nat.le_trans hl (by decide)))) ?_
 refine K6 (fun i r2 r3=>[some (.ref a),some (.ref r),r2,r3]) (fun i r2 r3 H₁=>(Ad H H₁)/\(fu A l=fu A (l.drop i))) _ _ rfl ⟨Ad.refl,rfl⟩ ?_ ?_
 ·rintro i r2 r3 H₁ K hi ⟨e,hf⟩ hK
  have hi':i<l.length:=by simpa using hi
  have hx:=List.getElem?_eq_getElem hi'
  generalize l[i]=x at hx
  have hxr:=hin x (List.mem_of_getElem? hx)
  rw[Cp hx,Ot]at hf
  have hL1:=hL.ext e
  simp (disch:=first|decide|omega) only[J2,J3,Bo,Bp,Ia]
  refine Oz ?_
  simp (disch:=first|decide|omega) only[Jc,Je,Jg,Jl,Jt,J8,Ag,Ai]
  (refine D4 hL1 F7 Gj ?_;rw[Lk U7])
  refine Ab fun s H₂ e2 _ hsv=>?_
  rw[show ((i:Int)+1).toNat=i+1 by exact Zp,<-List.map_drop]at hsv
  refine Ao hsv ?_
  have eW:=e.trans e2
  have hL2:=hL.ext eW
  obtain⟨as,z,a1,a2,a3,a4⟩:=(hN.ext eW).row hxr.1 hxr.2
  refine B6 (fun j r3=>[some (.ref a),some (.ref r),some (.int i),r3]) (fun j r3 H₃=>(H₃=H₂)/\((l.drop (i+1)).find? (fun y=> !A x.toNat y.toNat)=((l.drop (i+1)).drop j).find? (fun y=> !A x.toNat y.toNat))) _ rfl ⟨rfl,rfl⟩ ?_ ?_ ?_
  ·rintro j r3 H₃ ⟨rfl,hj⟩;exact hsv
  ·rintro j v r3 H₃ K' hv ⟨rfl,hj⟩ hK'
   obtain⟨y,hy,rfl⟩:=LI.at_ (a:=r) hv
   have hyr:=hin y (List.mem_of_mem_drop (List.mem_of_getElem? hy))
   rw[Cp hy,List.find?_cons]at hj
   simp (disch:=first|decide|omega) only[J2,J3,Bo,Bp,H9]
   refine Ba (!A x.toNat y.toNat) (fun Q' h'=>?_) ?_
   ·simp (disch:=first|decide|omega) only[Jg,Jm,Js,Ag,Ai,Al hL2 (Int.natCast_nonneg i) (LI.sub (a:=r) hx),Al a1 hxr.1 a3,Hr a4,Os hyr.1 hyr.2]
    exact h'
   split
   ·rename_i hh
    simp (disch:=first|decide|omega) only[Jg,Js,Jv,Jw,Jx,J0,J2,J3,Ag,Ai,Al hL2 (Int.natCast_nonneg i) (LI.sub (a:=r) hx)]
    rw[hh]at hj
    simp only at hj
    rw[hj]at hf
    have:=q _ eW
    rw[hf]at this
    exact this
   ·rename_i hh
    simp (disch:=first|decide|omega) only[J2]
    rw[Bool.not_eq_true]at hh
    rw[hh]at hj
    exact hK' _ _ ⟨rfl,hj⟩
  ·rintro r3 H₃ ⟨rfl,hj⟩
   rw[List.length_map,List.drop_of_length_le (Nat.le_refl _),List.find?_nil]at hj
   rw[hj]at hf
   exact hK _ _ _ ⟨eW,hf⟩
 ·rintro r2 r3 H₁ ⟨e,hf⟩
  rw[Int.toNat_natCast,List.length_map,List.drop_of_length_le (Nat.le_refl _)]at hf
  have:=q H₁ e
  rw[hf]at this
  exact this
theorem Y3(hU:G.fn "_law_untied" = some D0)(hG:G.fn "_law_free" = some Hf){a m r:Nat}{A:Nat->Nat->Bool}{l:List Int}(hN:Cr H a m A)(hL:LI H r l)(hin:∀x∈l,0<=x/\x<m)(hl:l.length<=60)
 (q:∀H',Ad H H'->Q (.int ((ltg A l).getD (-1))) H'):Af G (n+2) "_law_free" [.ref a,.ref r] H Q E:=by
 refine Aj hG rfl ?_
 simp (disch:=first|decide|omega) only[Je,Ji,J0,J2,J3,List.map,Dn,Dp,List.replicate,Hf]
 refine Oz ?_
 simp (disch:=first|decide|omega) only[Jg,Ag,Ai]
 refine Ao hL ?_
 refine B6 (fun i r2=>[some (.ref a),some (.ref r),r2]) (fun i r2 H₁=>(Ad H H₁)/\(l.find? (Fk A l)=(l.drop i).find? (Fk A l))) _ rfl ⟨Ad.refl,rfl⟩ ?_ ?_ ?_
 ·rintro i r2 H₁ ⟨e,hf⟩;exact hL.ext e
 ·rintro i v r2 H₁ K hv ⟨e,hf⟩ hK
  refine Aa fun nY=>?_
  obtain⟨x,hx,rfl⟩:=LI.at_ (a:=r) hv
  have hxr:=hin x (List.mem_of_getElem? hx)
  rw[Cp hx,List.find?_cons]at hf
  have hL1:=hL.ext e
  obtain⟨as,z,a1,a2,a3,a4⟩:=(hN.ext e).row hxr.1 hxr.2
  refine nY ?_;clear nY
  simp only[Kw,J3,J2,List.set_cons_succ,List.set_cons_zero]
  refine A5 (Oy (Oh ?_))
  refine⟨by rw[hU];rfl,?_⟩
  refine Co (Zr ?_)
  simp only[List.getElem?_cons_zero]
  refine Co (hvK ?_)
  simp (disch:=first|decide|omega) only[Jb,Jg,Jw,J0,J2,J3,J4,Dn,Dp,Ag,Ai,List.replicate]
  refine Ao hL1 ?_
  refine⟨by simp[Bq];exact Wt hl,Dq (p:=fun o=>A x.toNat o.toNat) hL1 (fun y hy K' hK'=>?_) ?_⟩
  ·have hyr:=hin y hy
   simp (disch:=first|decide|omega) only[Jg,Jm,Js,Bl,Ag,Ai,Kv,Al a1 hxr.1 a3,Yw a4,Os hyr.1 hyr.2]
   split
   ·rename_i h;rw[if_pos h]at hK';exact hK'
   ·rename_i h;rw[if_neg h]at hK';exact hK'
  refine Ab fun s H₂ e2 _ hL2=>?_
  (try dsimp only)
  refine N3 hU (hN.ext (e.trans e2)) (l:=Oe A l x) hL2 (Nat.le_trans (List.length_filter_le _ _) (Nat.le_trans hl (by decide))) (fun y hy=>hin y (List.mem_filter.mp hy).1) fun H₃ e3=>?_
  have e13:=(e.trans e2).trans e3
  cases hfu:fu A (Oe A l x)with
  | none=>
    (try dsimp only);(try simp (disch:=first|decide|omega) only[Jbi,Bl])
    simp only[if_true]
    have:Fk A l x=true:=by unfold Fk;rw[hfu];rfl
    rw[this]at hf
    have hq:=q H₃ e13
    unfold ltg at hq
    rw[hf]at hq
    exact hq
  | some pr=>
    obtain⟨y,z⟩:=pr
    intro a' ha'
    (try dsimp only);(try simp (disch:=first|decide|omega) only[Jbj,Bl])
    simp only[Bool.false_eq_true,if_false]
    have:Fk A l x=false:=by unfold Fk;rw[hfu];rfl
    rw[this]at hf
    exact hK _ _ ⟨e13.trans (Ad.upd ha'),hf⟩
 ·rintro r2 H₁ ⟨e,hf⟩
  rw[List.length_map,List.drop_of_length_le (Nat.le_refl _),List.find?_nil]at hf
  have hq:=q H₁ e
  unfold ltg at hq
  rw[hf]at hq
  exact hq
theorem Abs{a:Nat}{xs:List V}(h:H a=some (.list xs)):C9 (.isinst .list) [.ref a] H Q=Q (.bool true) H:=by
 have e:Ox .list (.ref a) H=some true:=by show (match H a with|some o=>Lo o .list|none=>none)=_;rw[h];rfl
 show (G6 .list=true/\(match Ox .list (.ref a) H with|some r=>Q (.bool r) H|none=>False))=_
 rw[e]
 exact propext ⟨fun h=>h.2,fun h=>⟨rfl,h⟩⟩
set_option linter.all false
noncomputable def bh(A:Nat->Nat->Bool)(o:List Int)(p:Int):List Int:=Oe A (o.drop (o.idxOf p+1)) p
noncomputable def Bx(m:Nat)(o:List Int):Prop:=Bd o=Aq m
theorem Bx.perm{m:Nat}{o:List Int}(h:Bx m o):o.Perm (Aq m):=by
 have:=Cj o
 rw[h]at this
 exact this.symm
theorem Bx.len{m:Nat}{o:List Int}(h:Bx m o):o.length=m:=by rw[h.perm.length_eq,Bt]
theorem Bx.mem{m:Nat}{o:List Int}(h:Bx m o){x:Int}:x∈o↔0<=x/\x<m:=by rw[h.perm.mem_iff,B7]
theorem Bx.nodup{m:Nat}{o:List Int}(h:Bx m o):o.Nodup:=h.perm.nodup_iff.mpr Cg
theorem Up{m:Nat}{o:List Int}(h1:o.Nodup)(h2:∀x,x∈o↔0<=x/\x<m):Bx m o:=
 V5 (Mo h1) R8 fun x=>by rw[Dc,h2,B7]
theorem Af1{o:List Int}{j:Nat}{p:Int}(h:o.Nodup)(hj:o[j]? = some p):o.idxOf p=j:=by
 have hm:=List.mem_of_getElem? hj
 have hlt:=List.idxOf_lt_length_of_mem hm
 refine Dk h (x:=p) ?_ hj
 rw[List.getElem?_eq_getElem hlt,List.getElem_idxOf]
theorem Xq{A:Nat->Nat->Bool}{o:List Int}{j:Nat}{p:Int}(h:o.Nodup)(hj:o[j]? = some p):bh A o p=Oe A (o.drop (j+1)) p:=by
 unfold bh;rw[Af1 h hj]
theorem M4{A:Nat->Nat->Bool}{o:List Int}{p x:Int}(h:x∈bh A o p):x∈o:=List.mem_of_mem_drop (List.mem_filter.mp h).1
theorem P9{A:Nat->Nat->Bool}{o:List Int}{p:Int}:(bh A o p).length<=o.length-1:=by
 unfold bh Oe
 refine Nat.le_trans (List.length_filter_le _ _) ?_
 rw[List.length_drop];exact Nat.sub_le_sub_left (Nat.le_add_left 1 _) _
noncomputable def Xr(A:Nat->Nat->Bool)(o:List Int):Prop:=∀p∈o,fu A (bh A o p)=none
noncomputable def gp(A:Nat->Nat->Bool)(o:List Int):Option (Int×Int×Int):=o.findSome? fun p=>(fu A (bh A o p)).map fun q=>(p,q.1,q.2)
theorem S4{A:Nat->Nat->Bool}{o:List Int}:gp A o=none↔Xr A o:=by
 unfold gp Xr
 rw[List.findSome?_eq_none_iff]
 simp
variable {G:Aw} {n:Nat} {H H':AH} {Q:Ah} {E:EP} {C:CS} {ρ:Ak}
theorem Qa{g:AH->Prop}{ys:List V}{t:Nat}{body:Ak->AH->(Ak->AH->Prop)->Prop}{N:Ak->AH->Prop}(I:Nat->Ak->AH->Prop)(h0:I 0 ρ H)(hg:∀i ρ H,I i ρ H->g H)
 (step:∀i x ρ H K,ys[i]? = some x->I i ρ H->(∀ρ'' H'',I (i+1) ρ'' H''->K ρ'' H'')->body (ρ.set t (some x)) H K) (fin:∀ρ H,I ys.length ρ H->N ρ H) :
 Df g (.one t) body N (ys.map .v) ρ H:=by
 refine I4 (k:=0) I h0 (fun i x ρ H K hx hI hK=>⟨hg _ _ _ hI,?_⟩) fun ρ H hI=>⟨hg _ _ _ hI,fin ρ H (by simpa using hI)⟩
 rw[List.getElem?_map]at hx
 obtain⟨j,hj,rfl⟩:=Option.map_eq_some_iff.mp hx
 exact step i j ρ H K hj (by simpa using hI) fun ρ'' H'' h=>hK ρ'' H'' (by simpa using h)
theorem Y4{α0:Type}{g:AH->Prop}{xs:List V}{t:Nat}{body:Ak->AH->(Ak->AH->Prop)->Prop}{N:Ak->AH->Prop}(f:Nat->α0->Ak)(T:Nat->α0->AH->Prop)(x0:α0)(hρ:ρ=f 0 x0)(h0:T 0 x0 H)(hg:∀i x0 H,T i x0 H->g H)(step:∀i x y0 H K,xs[i]? = some x->T i y0 H->(∀z0 H'',T (i+1) z0 H''->K (f (i+1) z0) H'')->body ((f i y0).set t (some x)) H K)(fin:∀x0 H,T xs.length x0 H->N (f xs.length x0) H):Df g (.one t) body N (xs.map .v) ρ H:=by
 refine Qa (fun i ρ H=>∃x0,ρ=f i x0/\T i x0 H) ⟨x0,hρ,h0⟩ (fun i _ H h=>?_) (fun i x _ H K hx h hK=>?_) fun _ H h=>?_
 ·obtain⟨x0,_,h⟩:=h;exact hg _ _ _ h
 ·obtain⟨y0,rfl,h⟩:=h;exact step i x y0 H K hx h fun z0 H'' h'=>hK _ _ ⟨z0,rfl,h'⟩
 ·obtain⟨x0,rfl,h⟩:=h;exact fin _ _ h
theorem Wc{α0 α1:Type}{g:AH->Prop}{xs:List V}{t:Nat}{body:Ak->AH->(Ak->AH->Prop)->Prop}{N:Ak->AH->Prop}(f:Nat->α0->α1->Ak)(T:Nat->α0->α1->AH->Prop)(x0:α0)(x1:α1)(hρ:ρ=f 0 x0 x1)(h0:T 0 x0 x1 H)(hg:∀i x0 x1 H,T i x0 x1 H->g H)(step:∀i x y0 y1 H K,xs[i]? = some x->T i y0 y1 H->(∀z0 z1 H'',T (i+1) z0 z1 H''->K (f (i+1) z0 z1) H'')->body ((f i y0 y1).set t (some x)) H K)(fin:∀x0 x1 H,T xs.length x0 x1 H->N (f xs.length x0 x1) H):Df g (.one t) body N (xs.map .v) ρ H:=
 Y4 (fun i p=>f i p.1 p.2) (fun i p=>T i p.1 p.2) (x0,x1) hρ h0 (fun i p=>hg i p.1 p.2) (fun i x p H K hx h hK=>step i x p.1 p.2 H K hx h fun z0 z1 H' h'=>hK (z0,z1) H' h') fun p=>fin p.1 p.2
theorem Adx{a:Nat}{l:List Int}{k:Int}(h:LI H a l)(hk:k∈l):Gk .index (.ref a) [.int k] H Q=Q (.int (l.idxOf k)) H:=by
 unfold LI at h
 delta Gk;dsimp only;(first|delta Ez|delta G9|delta Ha|delta E0|delta Dt|delta Ce);(try dsimp only[A2,Ax,U3,Na,Ti]);rw[h];(try dsimp only[F8,U2]);rw[G2];(try dsimp only[F8,Ey])
 exact propext ⟨fun h=>h.2,fun q=>⟨hk,q⟩⟩
structure M5(G:Aw):Prop where
 fns:Fns G
 isOrder:G.fn "is_order" = some O6
 needOrder:G.fn "need_order" = some Lr
 behind:G.fn "those_behind" = some Im
 gap:G.fn "gap" = some Aeh
 needWhole:G.fn "need_whole" = some Ls
 crowdAt:G.fn "crowd_at" = some O8
 isFull:G.fn "is_full" = some Rc
 fullCrowds:G.fn "full_crowds" = some Ks
 leastFree:G.fn "least_free" = some Lw
 coloured:G.fn "coloured" = some O9
theorem Qb(F:M5 G){w m r:Nat}{A:Nat->Nat->Bool}{o:List Int}{p:Int}(hm:m<=60)(hW:Cs H w m A)(hL:LI H r o)(ho:Bx m o)(hp:p∈o)
 (q:∀a H',Ad H H'->H a=none->LI H' a (bh A o p)->Q (.ref a) H'):Af G (n+3) "those_behind" [.ref w,.ref r,.int p] H Q E:=by
 have B:=F.fns.base
 have hpr:=ho.mem.mp hp
 refine Aj F.behind rfl ?_
 simp (disch:=first|decide|omega) only[Jg,Jw,Jx,Jy,J0,J2,J3,List.map,Dn,Dp,Ag,Ai,List.replicate,Bo,Bp,true_and,Im,B0,B8 hL,Adx hL hp]
 refine hvK ?_
 simp (disch:=first|decide|omega) only[Jc,Je,Jg,Jl,Jt,J4,J8,Dn,Dp,Ag,Ai,List.replicate]
 (refine D4 hL F7 Gj ?_;rw[Lk U7])
 refine Ab fun s H₁ e1 _ v1=>?_
 rw[show ((o.idxOf p:Int)+1).toNat=o.idxOf p+1 by exact Zp,<-List.map_drop]at v1
 refine Ao v1 ?_
 refine Aa fun nY=>?_
 obtain⟨d,rs,w1,w2,w3⟩:=hW.ext e1
 refine nY ?_;clear nY
 refine⟨by simp[Bq,ho.len];exact Agv hm,?_⟩
 refine(Abr (c:=Dz) B ⟨d,rs,w1,w2,w3⟩ (show LI H₁ s (o.drop (o.idxOf p+1))from v1) (fun x hx=>ho.mem.mp (List.mem_of_mem_drop hx)) hpr (by rw[List.length_drop,ho.len];exact(Nat.le_trans (Nat.sub_le _ _) (Nat.le_trans hm (by decide)))) (fun y K' h0 h1 hK'=>?_) (fun a H₂ e2 n2 hL2=>?_)).2
 ·simp (disch:=first|decide|omega) only[Jg,Jw,Jx,Ag,Ai,Cu,true_and,Dz,A4,Dv,Dw,Fo,w1,w2,B.tied]
  exact P4 B ⟨d,rs,w1,w2,w3⟩ hpr.1 hpr.2 h0 h1 hK'
 ·exact q a H₂ (e1.trans e2) (e1.isNone n2) hL2
theorem R9(F:M5 G){w m r:Nat}{A:Nat->Nat->Bool}{o:List Int}(hm:m<=60)(hW:Cs H w m A)(hL:LI H r o)(hl:o.length<64)
 (q:∀H',Ad H H'->Q (.bool (decide (Bd o=Aq m))) H'):Af G (n+1) "is_order" [.ref w,.ref r] H Q E:=by
 refine Aj F.isOrder rfl ?_
 simp (disch:=first|decide|omega) only[Jg,Jm,Jq,Jr,Jw,Jx,J0,J2,J3,List.map,Dn,Dp,Ag,Ai,O6,Oq hL hl]
 refine Ab fun s H₁ e1 _ v1=>?_
 refine Aa fun nY=>?_
 obtain⟨d,rs,w1,w2,w3⟩:=hW.ext e1
 refine nY ?_;clear nY
 (try dsimp only)
 simp (disch:=(first|lia|omega)) only[Bn w1 w2 (show Ds [(Ct.many,V.int m),(Ct.rows,V.ref rs)] .many=some (.int m)from rfl),Jbs]
 refine Ab fun s2 H₂ e2 _ v2=>?_
 rw[Int.toNat_natCast,Hv]at v2
 (try dsimp only)
 refine V9 (l:=Bd o) (l':=Aq m) (e2 _ _ v1) v2 ?_
 exact q H₂ (e1.trans e2)
theorem Uq(F:M5 G){w m r:Nat}{A:Nat->Nat->Bool}{o:List Int}(hm:m<=60)(hW:Cs H w m A)(hL:LI H r o)(ho:Bx m o)
 (q:∀H',Ad H H'->Q .none H'):Af G (n+2) "need_order" [.ref w,.ref r] H Q E:=by
 refine Aj F.needOrder rfl ?_
 simp only[Lr,List.map,List.cons_append,List.nil_append]
 refine Ae (A5 ?_)
 simp (disch:=first|decide|omega) only[Jg,Jh,Jp,Jw,Jx,J2,J3,Bl,Ag,Ai,Cu,true_and,F.isOrder]
 refine R9 F hm hW hL (by rw[ho.len];exact Zq hm) fun H₁ e1=>?_
 rw[decide_eq_true (show Bd o=Aq m from ho)]
 (try dsimp only);(try simp (disch:=first|decide|omega) only[Bl])
 simp only[Bool.not_true,Bool.false_eq_true,if_false]
 exact q H₁ e1
theorem Aem(F:M5 G){w m r:Nat}{A:Nat->Nat->Bool}{o:List Int}(hm:m<=60)(hW:Cs H w m A)(hL:LI H r o)(ho:Bx m o)
 (q:∀H',Ad H H'->match gp A o with|none=>Q .none H'|some (p,x,y)=>∀a,H' a=none->Q (.ref a) (upd H' a (.tuple [.int p,.int x,.int y]))):Af G (n+4) "gap" [.ref w,.ref r] H Q E:=by
 refine Aj F.gap rfl ?_
 simp only[Aeh,List.map,List.replicate,List.cons_append,List.nil_append]
 refine Dl ([some (.ref w),some (.ref r),none,none]) (fun H₁=>Ad H H₁) (fun N hN=>?_) ?_
 ·simp (disch:=first|decide|omega) only[Jg,Jp,Jw,Jx,Jz,Ag,Ai,Cu,true_and,F.needOrder]
  exact Uq F hm hW hL ho fun H₁ e1=>hN _ e1
 rintro H₀ e0
 refine Ae (Oz ?_)
 simp (disch:=first|decide|omega) only[Jb,Jg,J0,J2,J3,Ag,Ai]
 refine Ao (hL.ext e0) ?_
 refine I5 (fun i r2 r3=>[some (.ref w),some (.ref r),r2,r3]) (fun i r2 r3 H₁=>Ad H H₁/\gp A o=(o.drop i).findSome? fun p=>(fu A (bh A o p)).map fun q=>(p,q.1,q.2)) _ _ rfl ⟨e0,by rw[List.drop_zero];rfl⟩ ?_ ?_ ?_
 ·rintro i r2 r3 H₁ ⟨e,hf⟩;exact hL.ext e
 ·rintro i v r2 r3 H₁ K hv ⟨e,hf⟩ hK
  obtain⟨x,hx,rfl⟩:=LI.at_ (a:=r) hv
  have hxo:=List.mem_of_getElem? hx
  rw[Cp hx,List.findSome?_cons]at hf
  simp only[Tl,List.set_cons_succ,List.set_cons_zero]
  refine C3 (fun v3=>[some (.ref w),some (.ref r),some (.int x),some v3]) (fun v3 H₂=>Ad H H₂/\match fu A (bh A o x)with|none=>v3 = .none|some (y,z)=>∃t,v3 = .ref t/\H₂ t=some (.tuple [.int y,.int z])) (fun N hN=>?_) ?_
  ·simp (disch:=first|decide|omega) only[Jg,Jp,Jw,Jx,Jy,Ag,Ai,Bo,Bp,Cu,true_and,F.fns.untied,F.behind]
   refine Qb F hm (hW.ext e) (hL.ext e) ho hxo fun s H₂ e2 _ hL2=>?_
   refine Ej F.fns.base F.fns.untied (hW.ext (e.trans e2)) hL2 (fun y hy=>ho.mem.mp (M4 hy)) fun H₃ e3=>?_
   cases hfu:fu A (bh A o x)with
   | none=>
     refine hN _ _ ⟨(e.trans e2).trans e3,?_⟩
     rw[hfu]
   | some pr=>
     obtain⟨y,z⟩:=pr
     intro t ht
     refine hN _ _ ⟨((e.trans e2).trans e3).trans (Ad.upd ht),?_⟩
     rw[hfu]
     exact⟨t,rfl,Ac⟩
  rintro v3 H₂ ⟨e2,h3⟩
  refine Ae (A5 ?_)
  cases hfu:fu A (bh A o x)with
  | none=>
    rw[hfu]at h3 hf
    simp only at h3
    subst h3
    simp (disch:=first|decide|omega) only[Jb,Je,Jg,Jm,Js,Jv,Jw,Jx,J0,J2,J3,Jbk,Bl,Ag,Ai]
    simp only[Bool.false_eq_true,if_false]
    exact hK _ _ _ ⟨e2,hf⟩
  | some pr=>
    refine Aa fun nY=>?_
    obtain⟨y,z⟩:=pr
    rw[hfu]at h3 hf
    obtain⟨t,rfl,ht⟩:=h3
    refine nY ?_;clear nY
    simp (disch:=first|decide|omega) only[Jb,Je,Jg,Jm,Js,Jv,Jw,Jx,J0,J2,J3,Jbl,Bl,Ag,Ai]
    simp only[if_true]
    simp (disch:=first|decide|omega) only[Sy (x:= .int y) (k:=0) ht (by decide) rfl,Sy (x:= .int z) (k:=1) ht (by decide) rfl]
    have hq:=q H₂ e2
    simp only[Option.map_some]at hf
    rw[hf]at hq
    exact hq
 ·rintro r2 r3 H₁ ⟨e,hf⟩
  rw[List.length_map,List.drop_of_length_le (Nat.le_refl _),List.findSome?_nil]at hf
  have hq:=q H₁ e
  rw[hf]at hq
  exact hq
theorem N4(F:M5 G){w m r:Nat}{A:Nat->Nat->Bool}{o:List Int}(hm:m<=60)(hW:Cs H w m A)(hL:LI H r o)(ho:Bx m o)(hp:Xr A o)
 (q:∀H',Ad H H'->Q .none H'):Af G (n+5) "need_whole" [.ref w,.ref r] H Q E:=by
 refine Aj F.needWhole rfl ?_
 simp only[Ls,List.map,List.cons_append,List.nil_append]
 refine Ae (A5 ?_)
 simp (disch:=first|decide|omega) only[Jb,Jg,Jm,Jp,Jw,Jx,J2,J3,Ag,Ai,Cu,true_and,F.gap]
 refine Aem F hm hW hL ho fun H₁ e1=>?_
 rw[S4.mpr hp]
 (try dsimp only);(try simp (disch:=first|decide|omega) only[Jbk,Bl])
 simp only[Bool.false_eq_true,if_false]
 exact q H₁ e1
noncomputable def crowd(A:Nat->Nat->Bool)(o:List Int)(p:Int):List Int:=Bd (p::bh A o p)
theorem Y5(F:M5 G){w m r:Nat}{A:Nat->Nat->Bool}{o:List Int}{p:Int}(hm:m<=60)(hW:Cs H w m A)(hL:LI H r o)(ho:Bx m o)(hp:p∈o)
 (q:∀a H',Ad H H'->H a=none->LI H' a (crowd A o p)->Q (.ref a) H'):Af G (n+4) "crowd_at" [.ref w,.ref r,.int p] H Q E:=by
 refine Aj F.crowdAt rfl ?_
 have hbl:=P9 (A:=A) (o:=o) (p:=p)
 rw[ho.len]at hbl
 simp (disch:=first|decide|omega) only[Jg,Jl,Jp,Jq,Ju,Jw,Jx,J0,J2,J3,List.map,Dn,Dp,Ag,Ai,O8]
 refine Ab fun s H₁ e1 _ v1=>?_
 (try dsimp only)
 refine⟨by rw[F.behind];rfl,?_⟩
 refine Qb F hm (hW.ext e1) (hL.ext e1) ho hp fun s2 H₂ e2 _ v2=>?_
 (try dsimp only)
 refine C4 (e2 _ _ v1) v2 (by simp;exact(Nat.le_trans (Nat.add_le_add_left (Nat.le_trans hbl (Nat.le_trans (Nat.sub_le _ _) hm)) 1) (by decide))) ?_
 refine Ab fun s3 H₃ e3 _ v3=>?_
 (try dsimp only)
 have v3':LI H₃ s3 (p::bh A o p):=by unfold LI;rw[v3];rfl
 refine P2 v3' (by simp;exact(Nat.lt_of_le_of_lt (Nat.succ_le_succ (Nat.le_trans hbl (Nat.le_trans (Nat.sub_le _ _) hm))) (by decide))) ?_
 exact Ab fun a H₄ e4 n4 v4=>q a H₄ (((e1.trans e2).trans e3).trans e4) (((e1.trans e2).trans e3).isNone n4) v4
noncomputable def isFull(m:Nat)(A:Nat->Nat->Bool)(c:List Int):Bool:=(Aq m).all fun p=>decide (p∈c) || !(c.all fun o=>A p.toNat o.toNat)
theorem Abt(F:M5 G){w m r:Nat}{A:Nat->Nat->Bool}{c:List Int}(hm:m<=60)(hW:Cs H w m A)(hL:LI H r c)(hl:c.length<=4000)(hin:∀x∈c,0<=x/\x<m)
 (q:∀H',Ad H H'->Q (.bool (isFull m A c)) H'):Af G (n+3) "is_full" [.ref w,.ref r] H Q E:=by
 have B:=F.fns.base
 refine Aj F.isFull rfl ?_
 obtain⟨d,rs,w1,w2,w3⟩:=hW
 have hW:Cs H w m A:=⟨d,rs,w1,w2,w3⟩
 simp (disch:=first|decide|omega) only[Jd,J0,J2,J3,List.map,Dn,Dp,List.replicate,Rc]
 refine Uy ?_
 simp (disch:=first|decide|omega) only[Jg,Jr,Jw,Jx,Oo,Ag,Bn w1 w2 (show Ds [(Ct.many,V.int m),(Ct.rows,V.ref rs)] .many=some (.int m)from rfl)]
 refine Bz (fun i r2=>[some (.ref w),some (.ref r),r2]) (fun i r2 H₁=>(Ad H H₁)/\(∀j:Nat,j<i->(decide ((j:Int)∈c) || !(c.all fun o=>A j o.toNat))=true)) _ rfl ⟨Ad.refl,by(first|lia|omega)⟩ ?_ ?_
 ·rintro i r2 H₁ K hi ⟨e,hall⟩ hK
  have hi':i<m:=hi
  have hL1:=hL.ext e
  obtain⟨d,rs,w1,w2,w3⟩:=hW.ext e
  simp only[Lv,J3,J2,List.set_cons_succ,List.set_cons_zero]
  refine A5 (Aey ?_)
  simp (disch:=first|decide|omega) only[Jd,Jg,Jm,Jq,Jw,Jx,J0,J2,J3,Bl,Ag,Ai,Hr hL1]
  by_cases hic:(i:Int)∈c
  ·rw[decide_eq_true hic]
   simp only[Bool.not_true,Bool.false_eq_true,if_false]
   refine hK _ _ ⟨e,fun j hj=>?_⟩
   by_cases hji:j=i
   ·subst hji;simp[hic]
   ·exact hall j (Q94 hj hji)
  ·rw[decide_eq_false hic]
   simp only[Bool.not_false,if_true]
   refine Ww ?_
   simp (disch:=first|decide|omega) only[Jg,J4,Dn,Dp,Ag,Ai,List.replicate]
   refine Ao hL1 ?_
   refine⟨by simp[Bq];exact(Nat.le_trans hl (by decide)),C8 (h:=fun o=>V.bool (A i o.toNat)) hL1 (fun x hx K' hK'=>?_) ?_⟩
   ·have hxr:=hin x hx
    simp (disch:=first|decide|omega) only[Jg,Jw,Jx,Ag,Ai,Cu,true_and,Lu,A4,Dv,Dw,Fo,w1,w2,B.tied]
    exact P4 B ⟨d,rs,w1,w2,w3⟩ Wu (Xy hi') hxr.1 hxr.2 (by rw[Int.toNat_natCast];exact hK')
   ·refine Ab fun s H₂ e2 _ v2=>?_
    (try dsimp only)
    refine P5 (l:=c.map fun o=>A i o.toNat) (by rw[v2,List.map_map];rfl) ?_
    (try dsimp only);(try simp (disch:=first|decide|omega) only[Bl])
    have hal:(c.map fun o=>A i o.toNat).all id=c.all fun o=>A i o.toNat:=by rw[List.all_map];rfl
    rw[hal]
    split
    ·rename_i h
     (try dsimp only)
     have hf:isFull m A c=false:=by
      unfold isFull
      rw[List.all_eq_false]
      refine⟨i,B7.mpr ⟨Wu,(Xy hi')⟩,?_⟩
      rw[decide_eq_false hic,Int.toNat_natCast,h];simp
     have:=q H₂ (e.trans e2)
     rw[hf]at this
     exact this
    ·rename_i h
     (try dsimp only)
     refine hK _ _ ⟨e.trans e2,fun j hj=>?_⟩
     by_cases hji:j=i
     ·subst hji;rw[Bool.not_eq_true]at h;rw[h];simp
     ·exact hall j (by exact Q94 hj hji)
 ·rintro r2 H₁ ⟨e,hall⟩
  have hf:isFull m A c=true:=by
   unfold isFull
   rw[List.all_eq_true]
   intro x hx
   have:=B7.mp hx
   have h2:=hall x.toNat ((Int.toNat_lt this.1).mpr this.2)
   rwa[show ((x.toNat:Nat):Int)=x by exact Q15 this.1]at h2
  have:=q H₁ e
  rw[hf]at this
  exact this
set_option linter.all false
variable {G:Aw} {n:Nat} {H H':AH} {Q:Ah} {E:EP} {C:CS} {ρ:Ak}
noncomputable def Ch(m:Nat)(A:Nat->Nat->Bool)(o:List Int):List (List Int):=(o.map (crowd A o)).filter (isFull m A)
theorem Y6{A:Nat->Nat->Bool}{o:List Int}{p x:Int}:x∈crowd A o p↔x=p\/x∈bh A o p:=by
 unfold crowd;rw[Dc,List.mem_cons]
theorem Sa{A:Nat->Nat->Bool}{o:List Int}{p:Int}(hp:p∈o):(crowd A o p).length<=o.length:=by
 unfold crowd;rw[Mn,List.length_cons]
 have:=P9 (A:=A) (o:=o) (p:=p)
 have:=List.length_pos_of_mem hp
 (first|lia|omega)
structure S5(H H':AH)(a:Nat)(as:List Nat)(rows:List (List Int)):Prop where
 ext:Ad H H'
 new:H a=none
 at_:H' a=some (.list (as.map V.ref))
 lists:D3 H' as rows
 fr:∀x∈as,x≠a/\H x=none
theorem S5.snoc{H₁:AH}{a x:Nat}{as:List Nat}{rows:List (List Int)}{r:List Int}(b:S5 H H' a as rows)(e:Ad H' H₁)(hx:H' x=none)(h:LI H₁ x r) :
 S5 H (upd H₁ a (.list ((as.map V.ref) ++ [.ref x]))) a (as ++ [x]) (rows ++ [r]):=by
 have hxa:x≠a:=fun q=>by rw[q,b.at_]at hx;cases hx
 have hfr:∀y∈as ++ [x],y≠a/\H y=none:=fun y hy=>by
  rcases List.mem_append.mp hy with hy|hy
  ·exact b.fr y hy
  ·simp at hy;rw[hy];exact⟨hxa,b.ext.isNone hx⟩
 exact⟨(b.ext.trans e).upd' b.new,b.new,by rw[Ac];simp,((b.lists.ext e).snoc h).upd fun y hy=>(hfr y hy).1,hfr⟩
theorem S5.mono{H₁:AH}{a:Nat}{as:List Nat}{rows:List (List Int)}(b:S5 H H' a as rows)(e:Ad H' H₁):S5 H H₁ a as rows:=⟨b.ext.trans e,b.new,e _ _ b.at_,b.lists.ext e,b.fr⟩
theorem S6(F:M5 G){w m r:Nat}{A:Nat->Nat->Bool}{o:List Int}(hm:m<=60)(hW:Cs H w m A)(hL:LI H r o)(ho:Bx m o)(hp:Xr A o)
 (q:∀a as H',S5 H H' a as (Ch m A o)->Q (.ref a) H'):Af G (n+6) "full_crowds" [.ref w,.ref r] H Q E:=by
 refine Aj F.fullCrowds rfl ?_
 simp only[Ks,List.map,List.replicate,List.cons_append,List.nil_append]
 refine Dl ([some (.ref w),some (.ref r),none,none,none]) (fun H₁=>Ad H H₁) (fun N hN=>?_) ?_
 ·simp (disch:=first|decide|omega) only[Jg,Jp,Jw,Jx,Jz,Ag,Ai,Cu,true_and,F.needWhole]
  exact N4 F hm hW hL ho hp fun H₁ e1=>hN _ e1
 rintro H₀ e0
 refine C3 (fun a=>[some (.ref w),some (.ref r),some (.ref a),none,none]) (fun a H₁=>S5 H H₁ a [] []) (fun N hN=>?_) ?_
 ·simp (disch:=first|decide|omega) only[Ju,Jw,Jy,Bo,Bp]
  exact Ab fun a H₁ e1 n1 v1=>hN a _ ⟨e0.trans e1,e0.isNone n1,v1,⟨rfl,fun _ _ _ h=>absurd h.symm (Option.some_ne_none _)⟩,fun _ h=>absurd h List.not_mem_nil⟩
 rintro a H₁ b
 refine Ae (Oz ?_)
 simp (disch:=first|decide|omega) only[Jg,J0,J2,J3,Ag,Ai]
 refine Ao (hL.ext b.ext) ?_
 refine F6 (fun i r3 r4 as=>[some (.ref w),some (.ref r),some (.ref a),r3,r4]) (fun i r3 r4 as H₁=>S5 H H₁ a as (((o.take i).map (crowd A o)).filter (isFull m A))) _ _ [] rfl b ?_ ?_ ?_
 ·rintro i r3 r4 as H₁ b;exact hL.ext b.ext
 ·rintro i v r3 r4 as H₁ K hv b hK
  obtain⟨x,hx,rfl⟩:=LI.at_ (a:=r) hv
  have hxo:=List.mem_of_getElem? hx
  have hi:=(List.getElem?_eq_some_iff.mp hx).1
  rw[ho.len]at hi
  simp only[Go,List.set_cons_succ,List.set_cons_zero]
  refine C3 (fun c=>[some (.ref w),some (.ref r),some (.ref a),some (.int x),some (.ref c)]) (fun c H₂=>E6 (Ad H₁ H₂) (H₁ c=none) (LI H₂ c (crowd A o x))) (fun N hN=>?_) ?_
  ·simp (disch:=first|decide|omega) only[Jg,Jp,Jw,Jx,Jy,Ag,Ai,Bo,Bp,Cu,true_and,F.crowdAt]
   exact Y5 F hm (hW.ext b.ext) (hL.ext b.ext) ho hxo fun c H₂ e2 n2 v2=>hN c _ ⟨e2,n2,v2⟩
  rintro c H₂ hP30
  refine Aa fun nY=>?_
  obtain⟨e2,n2,v2⟩:=hP30
  refine nY ?_;clear nY
  refine Ae (A5 ?_)
  simp (disch:=first|decide|omega) only[Jg,Jp,Jw,Jx,Jz,J2,J3,Ag,Ai,Cu,true_and,F.isFull]
  refine Abt F hm (hW.ext (b.ext.trans e2)) v2 (by have:=Sa (A:=A) hxo;rw[ho.len]at this;exact(Nat.le_trans (Nat.le_trans this hm) (by decide))) (fun y hy=>?_) fun H₃ e3=>?_
  ·refine Aa fun nY=>?_
   rcases Y6.mp hy with rfl|h
   ·refine nY ?_;clear nY
    exact ho.mem.mp hxo
   ·refine nY ?_;clear nY
    exact ho.mem.mp (M4 h)
  have e23:=e2.trans e3
  (try dsimp only);(try simp (disch:=first|decide|omega) only[Bl])
  have htk:((o.take (i+1)).map (crowd A o)).filter (isFull m A)=((o.take i).map (crowd A o)).filter (isFull m A)++(if isFull m A (crowd A o x)then [crowd A o x]else []):=by
   rw[List.take_add_one,hx,List.map_append,List.filter_append]
   simp only[Option.toList_some,List.map_cons,List.map_nil,List.filter_cons,List.filter_nil]
  split
  ·rename_i hf
   rw[if_pos hf]at htk
   have hal:(as.map V.ref).length<1048576:=by
    rw[List.length_map,b.lists.1]
    refine Nat.lt_of_le_of_lt (List.length_filter_le _ _) ?_
    rw[List.length_map,List.length_take];exact Nat.lt_of_le_of_lt (Nat.min_le_left _ _) (Nat.lt_of_lt_of_le hi (Nat.le_trans hm (by decide)))
   have ha1:=e23 _ _ b.at_
   simp (disch:=first|decide|omega) only[Jg,Jw,Jx,Ag,Ai,true_and,B0,B8 ha1,Cq ha1 hal]
   refine hK _ _ (as ++ [c]) _ ?_
   rw[htk]
   exact b.snoc e23 n2 (v2.ext e3)
  ·rename_i hf
   rw[if_neg hf,List.append_nil]at htk
   (try dsimp only)
   refine hK _ _ as _ ?_
   rw[htk]
   exact b.mono e23
 ·rintro r3 r4 as H₁ b
  rw[List.length_map,List.take_of_length_le (Nat.le_refl _)]at b
  try simp (disch:=first|decide|omega) only[Ag,Ai]
  exact q a as H₁ b
noncomputable def Xs(c:Int)(l:List Int):Prop:=0<=c/\c∉l/\∀j,0<=j->j<c->j∈l
theorem K8:∀ {l l':List Int},l.Nodup->(∀x∈l,x∈l')->l.length<=l'.length:=by
 intro l
 induction l with
 | nil=>exact fun _ _=>Nat.zero_le _
 | cons x r ih=>
   intro l' h hs
   have hx:=hs x List.mem_cons_self
   have hn:=List.nodup_cons.mp h
   have:=ih (l':=l'.erase x) hn.2 fun y hy=>(List.mem_erase_of_ne (fun(z:y=x)=>hn.1 (z▸hy))).mpr (hs y (List.mem_cons_of_mem _ hy))
   rw[List.length_erase_of_mem hx]at this
   exact Nat.le_trans (Nat.succ_le_succ this) (Nat.le_of_eq (Nat.sub_add_cancel (List.length_pos_of_mem hx)))
theorem Ady{c:Int}{l:List Int}(h:∀j,0<=j->j<c->j∈l):c<=l.length:=by
 have h2:(Aq c.toNat).length<=l.length:=K8 Cg fun x hx=>by
  have:=B7.mp hx
  exact h x this.1 (Ai3 this.1 this.2)
 rw[Bt]at h2
 exact Int.toNat_le.mp h2
theorem Ur(F:M5 G){u:Nat}{l:List Int}(hL:LI H u l)(q:∀c,Xs c l->Q (.int c) H):Af G (n+1) "least_free" [.ref u] H Q E:=by
 refine Aj F.leastFree rfl ?_
 simp only[Lw,List.map,List.replicate,List.cons_append,List.nil_append]
 refine Dl ([some (.ref u),some (.int 0)]) (fun H₁=>H=H₁) (fun N hN=>?_) ?_
 ·simp (disch:=first|decide|omega) only[Je,Jy,Bo,Bp];exact hN _ rfl
 rintro _ rfl
 refine Ae (Lp ?_)
 refine⟨fun k ρ H₁=>(Q9 fun(c:Int)=>An6 (k=(l.length+1-c).toNat) (c<=l.length) (ρ = [some (.ref u),some (.int c)]) (H₁=H) (0<=c) (∀j,0<=j->j<c->j∈l)),⟨_,0,rfl,by(first|lia|omega),rfl,rfl,by(first|lia|omega),by intros;(first|lia|omega)⟩,?_⟩
 rintro k ρ H₁ ⟨c,rfl,hcl,rfl,rfl,h0,hall⟩
 simp (disch:=first|decide|omega) only[Jg,Jm,J0,J2,J3,Bl,Ag,Ai,Yw hL]
 by_cases hc:c∈l
 ·rw[decide_eq_true hc]
  simp only[if_true]
  simp (disch:=first|decide|omega) only[Je,Jg,Jl,Jy,J2,J3,J8,Ag,Ai,Bo,Bp,H5]
  have hall':∀j,0<=j->j<c+1->j∈l:=fun j h1 h2=>by
   by_cases hj:j=c
   ·subst hj;exact hc
   ·exact hall j h1 (Int.lt_iff_le_and_ne.mpr ⟨Int.le_of_lt_add_one h2,hj⟩)
  have hle:c+1<=l.length:=Ady hall'
  exact⟨(l.length+1-(c+1)).toNat,(Ai4 hle),c+1,rfl,hle,rfl,by first|rfl|trivial,(Int.add_nonneg h0 (by decide)),hall'⟩
 ·rw[decide_eq_false hc]
  simp only[Bool.false_eq_true,if_false]
  exact q c ⟨h0,hc,hall⟩
noncomputable def We(A:Nat->Nat->Bool)(o cols:List Int):Prop:=cols.length=o.length/\∀p∈o,Xs (cols.getD p.toNat 0) ((bh A o p).map fun x=>cols.getD x.toNat 0)
noncomputable def S7(A:Nat->Nat->Bool)(o cols:List Int)(k:Nat):Prop:=∀j p,o[j]? = some p->k<=j->Xs (cols.getD p.toNat 0) ((bh A o p).map fun x=>cols.getD x.toNat 0)
theorem S7.all{A:Nat->Nat->Bool}{o cols:List Int}(h:S7 A o cols 0)(hl:cols.length=o.length):We A o cols:=⟨hl,fun p hp=>by
 obtain⟨j,hj⟩:=List.mem_iff_getElem?.mp hp
 exact h j p hj (Nat.zero_le _)⟩
theorem S7.none{A:Nat->Nat->Bool}{o cols:List Int}:S7 A o cols o.length:=fun j p hj hk=>absurd (List.getElem?_eq_some_iff.mp hj).1 (Nat.not_lt.mpr hk)
theorem S7.step{m k:Nat}{A:Nat->Nat->Bool}{o cols:List Int}{p c:Int}(ho:Bx m o)(hl:cols.length=m)(h:S7 A o cols (k+1))(hp:o[k]? = some p)(hmex:Xs c ((bh A o p).map fun x=>cols.getD x.toNat 0)):S7 A o (cols.set p.toNat c) k:=by
 intro j p' hj hmj
 have hpr:=ho.mem.mp (List.mem_of_getElem? hp)
 have gset:∀x:Int,0<=x->x≠p->(cols.set p.toNat c).getD x.toNat 0=cols.getD x.toNat 0:=fun x h0 hx=>by
  rw[List.getD_eq_getElem?_getD,List.getD_eq_getElem?_getD,List.getElem?_set_ne (Ai5 hpr.1 h0 hx)]
 have hbp:(bh A o p').map (fun x=>(cols.set p.toNat c).getD x.toNat 0)=(bh A o p').map (fun x=>cols.getD x.toNat 0):=by
  refine List.map_congr_left fun x hx=>gset x (ho.mem.mp (M4 hx)).1 fun hxp=>?_
  subst hxp
  rw[Xq ho.nodup hj]at hx
  obtain⟨z,hz⟩:=List.mem_iff_getElem?.mp (List.mem_filter.mp hx).1
  rw[List.getElem?_drop]at hz
  have:=Dk ho.nodup hz hp
  exact Nat.lt_irrefl _ (Nat.lt_of_lt_of_le (Nat.lt_of_lt_of_le (Nat.lt_succ_self _) (Nat.le_add_right _ _)) (Nat.le_trans (Nat.le_of_eq this) hmj))
 rw[hbp]
 by_cases hpp:p'=p
 ·subst hpp
  have:(cols.set p'.toNat c).getD p'.toNat 0=c:=by
   rw[List.getD_eq_getElem?_getD,List.getElem?_set_self (Q62 hl hpr.1 hpr.2)];rfl
  rw[this];exact hmex
 ·rw[gset p' (ho.mem.mp (List.mem_of_getElem? hj)).1 hpp]
  refine h j p' hj ?_
  have:j≠k:=fun hz=>by
   rw[hz,hp]at hj;cases hj;exact hpp rfl
  exact Nat.lt_of_le_of_ne hmj (Ne.symm this)
theorem Wg(F:M5 G){w m r:Nat}{A:Nat->Nat->Bool}{o:List Int}(hm:m<=60)(hW:Cs H w m A)(hL:LI H r o)(ho:Bx m o)(hp:Xr A o)
 (q:∀a cols H',Ad H H'->H a=none->LI H' a cols->We A o cols->Q (.ref a) H'):Af G (n+6) "coloured" [.ref w,.ref r] H Q E:=by
 refine Aj F.coloured rfl ?_
 simp only[O9,List.map,List.replicate,List.cons_append,List.nil_append]
 refine Dl ([some (.ref w),some (.ref r),none,none]) (fun H₁=>Ad H H₁) (fun N hN=>?_) ?_
 ·simp (disch:=first|decide|omega) only[Jg,Jp,Jw,Jx,Jz,Ag,Ai,Cu,true_and,F.needWhole]
  exact N4 F hm hW hL ho hp fun H₁ e1=>hN _ e1
 rintro H₀ e0
 refine C3 (fun a=>[some (.ref w),some (.ref r),none,some (.ref a)]) (fun a H₁=>E6 (Ad H H₁) (H a=none) (LI H₁ a (o.map fun _=>0))) (fun N hN=>?_) ?_
 ·refine Bw (Ww ?_)
  simp (disch:=first|decide|omega) only[Je,Jg,J4,Dn,Dp,Ag,Ai,List.replicate,Bo,Bp]
  refine Ao (hL.ext e0) ?_
  refine⟨by simp[Bq,ho.len];exact Wt hm,C8 (h:=fun _=>V.int 0) (hL.ext e0) (fun x hx K' hK'=>?_) ?_⟩
  ·skip
   exact hK'
  ·refine Ab fun a H₁ e1 n1 v1=>hN a _ ⟨e0.trans e1,e0.isNone n1,?_⟩
   unfold LI;rw[v1,List.map_map];rfl
 rintro a H₁ hP31
 refine Aa fun nY=>?_
 obtain⟨e1,n1,v1⟩:=hP31
 refine nY ?_;clear nY
 refine Ae (Zs (Aez ?_))
 simp (disch:=first|decide|omega) only[Jg,J0,J2,J3,Ag,Ai]
 refine Ado (hL.ext e1) ?_
 refine Qa (fun i ρ H₂=>(Ii fun r2 cols=>U1 (ρ = [some (.ref w),some (.ref r),r2,some (.ref a)]) (Ad H H₂) (LI H₂ a cols) (cols.length=m) (S7 A o cols (m-i)))) ?_ ?_ ?_ ?_
 ·exact⟨_,_,rfl,e1,v1,by rw[List.length_map,ho.len],by rw[Nat.sub_zero,<-ho.len];exact S7.none⟩
 ·rintro i ρ H₂ ⟨r2,cols,rfl,e,hc,hl,hall⟩;exact hL.ext e
 ·rintro i v ρ H₂ K hv hP32 hK
  refine Aa fun nY=>?_
  obtain⟨r2,cols,rfl,e,hc,hl,hall⟩:=hP32
  rw[<-List.map_reverse]at hv
  obtain⟨p,hp',rfl⟩:=LI.at_ (a:=r) hv
  have hi:i<m:=by
   have:=(List.getElem?_eq_some_iff.mp hp').1
   rwa[List.length_reverse,ho.len]at this
  rw[List.getElem?_reverse (by rw[ho.len];exact hi),ho.len]at hp'
  have hpo:=List.mem_of_getElem? hp'
  have hpr:=ho.mem.mp hpo
  refine nY ?_;clear nY
  simp only[Ku,J3,J2,List.set_cons_succ,List.set_cons_zero]
  refine E7 (Oh ?_)
  refine⟨by rw[F.leastFree];rfl,?_⟩
  refine Co (Ww ?_)
  simp (disch:=first|decide|omega) only[Jg,Jp,Jw,Jx,J4,Dn,Dp,Ag,Ai,List.replicate,Cu,true_and,F.behind]
  refine Qb F hm (hW.ext e) (hL.ext e) ho hpo fun s H₃ e3 _ v3=>?_
  refine Ao v3 ?_
  have hbl:=P9 (A:=A) (o:=o) (p:=p)
  rw[ho.len]at hbl
  refine⟨by simp[Bq];exact Agw hm hbl,C8 (h:=fun x=>V.int (cols.getD x.toNat 0)) v3 (fun x hx K' hK'=>?_) ?_⟩
  ·have hxr:=ho.mem.mp (M4 hx)
   have hxl:x.toNat<cols.length:=(Q62 hl hxr.1 hxr.2)
   have hsub:(cols.map V.int)[x.toNat]? = some (.int (cols.getD x.toNat 0)):=by
    rw[List.getElem?_map,List.getElem?_eq_getElem hxl,List.getD_eq_getElem?_getD,List.getElem?_eq_getElem hxl];rfl
   simp (disch:=first|decide|omega) only[Jg,Js,Ag,Ai,Kt,Al (hc.ext e3) hxr.1 hsub]
   exact hK'
  refine Ab fun u H₄ e4 _ v4=>?_
  have v4':LI H₄ u ((bh A o p).map fun x=>cols.getD x.toNat 0):=by unfold LI;rw[v4,List.map_map];rfl
  (try dsimp only)
  refine Ur F v4' fun c hmex=>?_
  (try dsimp only)
  have hc4:=(hc.ext e3).ext e4
  refine P7 hc4 hpr.1 (by rw[hl];exact hpr.2) ?_
  refine hK _ _ ⟨_,cols.set p.toNat c,rfl,((e.trans e3).trans e4).upd' n1,Ac,by rw[List.length_set];exact hl,?_⟩
  rw[show m-i=m-1-i+1 by exact((Nat.sub_add_cancel (Nat.sub_pos_of_lt hi)).symm.trans (congrArg (·+1) (Nat.sub_right_comm _ _ 1)))]at hall
  rw[show m-(i+1)=m-1-i by exact(Nat.sub_right_comm _ _ 1)]
  exact hall.step ho hl hp' hmex
 ·rintro ρ H₂ hP33
  refine Aa fun nY=>?_
  obtain⟨r2,cols,rfl,e,hc,hl,hall⟩:=hP33
  refine nY ?_;clear nY
  try simp (disch:=first|decide|omega) only[Ag,Ai]
  rw[List.length_reverse,List.length_map,ho.len,Nat.sub_self]at hall
  exact q a cols H₂ e n1 hc (hall.all (by rw[hl,ho.len]))
set_option linter.all false
theorem Fl{es:List (Int×V)}{k:Int}:(dget es k).isSome=decide (k∈es.map (·.1)):=by
 unfold dget
 induction es with
 | nil=>rfl
 | cons e r ih=>
   obtain⟨k',v'⟩:=e
   rw[List.lookup_cons]
   by_cases h:k=k'
   ·subst h;simp
   ·rw[show (k==k')=false from decide_eq_false h]
    rw[ih]
    simp[h]
theorem Abu{es:List (Int×V)}{k:Int}{v:V}(h:k∉es.map (·.1)):Di es k v=es ++ [(k,v)]:=by
 induction es with
 | nil=>rfl
 | cons e r ih=>
   obtain⟨k',v'⟩:=e
   unfold Di
   have h1:k≠k':=fun z=>h (List.mem_cons.mpr (Or.inl z))
   rw[if_neg h1,ih (fun z=>h (by simp only[List.map_cons];exact List.mem_cons_of_mem _ z))];rfl
theorem Abv{es fs:List (Int×V)}{k:Int}(h:k∈es.map (·.1)):dget (es++fs) k=dget es k:=by
 unfold dget
 induction es with
 | nil=>simp at h
 | cons e r ih=>
   obtain⟨k',v'⟩:=e
   rw[List.cons_append,List.lookup_cons,List.lookup_cons]
   by_cases h1:k=k'
   ·subst h1;simp
   ·rw[show (k==k')=false from decide_eq_false h1]
    exact ih (by simpa[h1]using h)
theorem Abw{es:List (Int×V)}{k:Int}{v:V}(h:k∉es.map (·.1)):dget (es ++ [(k,v)]) k=some v:=by
 unfold dget
 induction es with
 | nil=>simp
 | cons e r ih=>
   obtain⟨k',v'⟩:=e
   rw[List.cons_append,List.lookup_cons]
   have h1:k≠k':=fun z=>h (List.mem_cons.mpr (Or.inl z))
   rw[show (k==k')=false from decide_eq_false h1]
   exact ih (fun z=>h (by simp only[List.map_cons];exact List.mem_cons_of_mem _ z))
inductive Of(m:Nat)(A:Nat->Nat->Bool)(shut:List Int):Int->Int->Prop where
 | refl (x:Int):Of m A shut x x
 | step {x y z:Int}:Of m A shut x y->A y.toNat z.toNat=true->z∉shut->0<=z->z<m->Of m A shut x z
structure Ka(m:Nat)(A:Nat->Nat->Bool)(shut:List Int)(start:Int)(es:List (Int×V)):Prop where
 nodup:(es.map (·.1)).Nodup
 head:(es.map (·.1))[0]? = some start
 in_:∀x∈es.map (·.1),0<=x/\x<(m:Int)
 out:∀x∈es.map (·.1),x=start\/x∉shut
 rch:∀x∈es.map (·.1),Of m A shut start x
 par:∀(i:Nat) (x:Int),0<i->(es.map (·.1))[i]? = some x->(Ii fun(j:Nat) (y:Int)=>Td (j<i) ((es.map (·.1))[j]? = some y) (dget es x=some (.int y)) (A y.toNat x.toNat=true))
structure Ov(m:Nat)(A:Nat->Nat->Bool)(shut:List Int)(start:Int)(es:List (Int×V)):Prop extends Ka m A shut start es where
 closed:∀x∈es.map (·.1),∀z,0<=z->z<(m:Int)->A x.toNat z.toNat=true->z∉shut->z∈es.map (·.1)
theorem Ov.iff{m:Nat}{A:Nat->Nat->Bool}{shut:List Int}{start:Int}{es:List (Int×V)}(h:Ov m A shut start es){x:Int}:x∈es.map (·.1)↔Of m A shut start x:=by
 refine⟨h.rch x,fun r=>?_⟩
 induction r with
 | refl=>exact List.mem_of_getElem? h.head
 | step _ a s z0 z1 ih=>exact h.closed _ ih _ z0 z1 a s
theorem Ka.snoc{m:Nat}{A:Nat->Nat->Bool}{shut:List Int}{start:Int}{es:List (Int×V)}(h:Ka m A shut start es){j:Nat}{y z:Int}(hy:(es.map (·.1))[j]? = some y)(ha:A y.toNat z.toNat=true)(hz:z∉shut)(hz':z∉es.map (·.1))(h0:0<=z)(h1:z<m) :
 Ka m A shut start (es ++ [(z,.int y)]):=by
 have hlen:0<(es.map (·.1)).length:=(List.getElem?_eq_some_iff.mp h.head).1
 have hm:(es ++ [(z,V.int y)]).map (·.1)=es.map (·.1) ++ [z]:=List.map_append
 refine⟨?_,?_,?_,?_,?_,?_⟩
 ·rw[hm,List.nodup_append]
  exact⟨h.nodup,List.pairwise_singleton _ _,fun a ha b hb e=>hz' (by simp at hb;rw[<-hb,<-e];exact ha)⟩
 ·rw[hm,List.getElem?_append_left hlen];exact h.head
 ·intro x hx
  rw[hm]at hx
  refine Aa fun nY=>?_
  rcases List.mem_append.mp hx with hx|hx
  ·refine nY ?_;clear nY
   exact h.in_ x hx
  ·refine nY ?_;clear nY
   simp at hx;subst hx;exact⟨h0,h1⟩
 ·intro x hx
  rw[hm]at hx
  refine Aa fun nY=>?_
  rcases List.mem_append.mp hx with hx|hx
  ·refine nY ?_;clear nY
   exact h.out x hx
  ·refine nY ?_;clear nY
   simp at hx;subst hx;exact .inr hz
 ·intro x hx
  rw[hm]at hx
  refine Aa fun nY=>?_
  rcases List.mem_append.mp hx with hx|hx
  ·refine nY ?_;clear nY
   exact h.rch x hx
  ·simp at hx;subst hx
   refine nY ?_;clear nY
   exact .step (h.rch y (List.mem_of_getElem? hy)) ha hz h0 h1
 ·intro i x hi hx
  rw[hm]at hx ⊢
  refine Aa fun nY=>?_
  cases Nat.lt_or_ge i (es.map (·.1)).length with
  | inl q=>
    rw[List.getElem?_append_left q]at hx
    obtain⟨j',y',h1,h2,h3,h4⟩:=h.par i x hi hx
    refine nY ?_;clear nY
    exact⟨j',y',h1,by rw[List.getElem?_append_left (Nat.lt_trans h1 q)];exact h2,by rw[Abv (List.mem_of_getElem? hx)];exact h3,h4⟩
  | inr q=>
    rw[List.getElem?_append_right q]at hx
    have hj:=(List.getElem?_eq_some_iff.mp hy).1
    have:i-(es.map (·.1)).length=0:=by
     obtain⟨z,_⟩:=List.getElem?_eq_some_iff.mp hx
     simp at z;simp;exact z
    rw[this]at hx
    simp at hx
    subst hx
    refine nY ?_;clear nY
    exact⟨j,y,(Nat.lt_of_lt_of_le hj q),by rw[List.getElem?_append_left hj];exact hy,Abw hz',ha⟩
variable {G:Aw} {n:Nat} {H H':AH} {Q:Ah} {E:EP} {C:CS} {ρ:Ak}
theorem Adz{k v:X}:Av G C (.dict [k] [v]) ρ H Q E=Av G C k ρ H (fun a H=>Av G C v ρ H (fun b H=>match a with | .int i=>Ay (.dict [(i,b)]) H Q|_=>False) E) E:=by
 rw[Bf]
 exact congrArg (fun F=>Av G C k ρ H F E) (funext fun a=>funext fun H=>congrArg (fun F=>Av G C v ρ H F E) (funext fun b=>funext fun H=>by cases a<;>rfl))
theorem Abx{k v:X}(kk:Av G C k ρ H (fun a H=>Av G C v ρ H (fun b H=>match a with | .int i=>Ay (.dict [(i,b)]) H Q|_=>False) E) E):Av G C (.dict [k] [v]) ρ H Q E:=Eq.mpr (Adz) kk
theorem Ah6{k:Int}{a:Nat}{es:List (Int×V)}(h:H a=some (.dict es)):Bg .In (.int k) (.ref a) H Q=Q (.bool (decide (k∈es.map (·.1)))) H:=by
 delta Bg;(try dsimp only);(try delta Se);(try dsimp only[A2]);rw[h];(try dsimp only[Ax]);rw[Fl];(try dsimp only[Ey])
theorem Qc{k:Int}{a:Nat}{es:List (Int×V)}(h:H a=some (.dict es)):Bg .NotIn (.int k) (.ref a) H Q=Q (.bool (!decide (k∈es.map (·.1)))) H:=by
 delta Bg;(try dsimp only);(try delta Se);(try dsimp only[A2]);rw[h];(try dsimp only[Ax]);rw[Fl];(try dsimp only[Ey])
theorem Wh{a:Nat}{es:List (Int×V)}{k:Int}{v:V}(h:H a=some (.dict es))(hv:dget es k=some v):B9 (.ref a) (.int k) H Q=Q v H:=by
 delta B9;(try dsimp only[Ax]);rw[h];(try dsimp only);rw[hv];(try dsimp only[Ey])
theorem Y7{a:Nat}{xs:List V}(h:H a=some (.list xs)):Gk .reverse (.ref a) [] H Q=Q .none (upd H a (.list xs.reverse)):=by
 delta Gk;dsimp only;(first|delta Ez|delta G9|delta Ha|delta E0|delta Dt|delta Ce);(try dsimp only[A2,Ax,U3,Na,Ti]);rw[h];(try dsimp only[F8,U2])
structure Y8(G:Aw):Prop where
 fns2:M5 G
 steps:G.fn "steps_from" = some E2
 way:G.fn "way" = some Zt
 pieces:G.fn "pieces" = some Tn
 ringAt:G.fn "ring_at" = some Rd
 longRing:G.fn "long_ring" = some Nk
 init:G.fn "Verdict.__init__" = some Ed
 judged:G.fn "judged" = some To
theorem Xu(F:Fns G)(hG:G.fn "steps_from" = some E2){w m s:Nat}{A:Nat->Nat->Bool}{shut:List Int}{start:Int}(hm:m<=60)(hW:Cs H w m A)(hS:LI H s shut)(h0:0<=start)(h1:start<m)
 (q:∀c es H',Ad H H'->H c=none->H' c=some (.dict es)->Ov m A shut start es->Q (.ref c) H'):Af G (n+3) "steps_from" [.ref w,.int start,.ref s] H Q E:=by
 refine Aj hG rfl ?_
 simp only[E2,List.map,List.replicate,List.cons_append,List.nil_append]
 refine C3 (fun c=>[some (.ref w),some (.int start),some (.ref s),some (.ref c),none,none,none,none]) (fun c H₁=>E6 (Ad H H₁) (H c=none) (H₁ c=some (.dict [(start,.int start)]))) (fun N hN=>?_) ?_
 ·refine Bw (Abx ?_)
  simp (disch:=first|decide|omega) only[Jg,Ag,Ai,Bo,Bp]
  exact Ab fun c H₁ e1 n1 v1=>hN c _ ⟨e1,n1,v1⟩
 rintro c H₁ hP34
 refine Aa fun nY=>?_
 obtain⟨e1,n1,v1⟩:=hP34
 refine nY ?_;clear nY
 refine C3 (fun wt=>[some (.ref w),some (.int start),some (.ref s),some (.ref c),some (.ref wt),none,none,none]) (fun wt H₂=>E6 (Ad H₁ H₂) (H₁ wt=none) (LI H₂ wt [start])) (fun N hN=>?_) ?_
 ·simp (disch:=first|decide|omega) only[Jg,Ju,Jw,Jx,Jy,Ag,Ai,Bo,Bp]
  exact Ab fun c H₁ e1 n1 v1=>hN c _ ⟨e1,n1,v1⟩
 rintro wt H₂ hP35
 refine Aa fun nY=>?_
 obtain⟨e2,n2,v2⟩:=hP35
 have hcw:c≠wt:=fun z=>by rw[<-z,v1]at n2;cases n2
 have nwt:H wt=none:=e1.isNone n2
 refine nY ?_;clear nY
 refine Dl ([some (.ref w),some (.int start),some (.ref s),some (.ref c),some (.ref wt),some (.int 0),none,none]) (fun H₃=>H₂=H₃) (fun N hN=>?_) ?_
 ·simp (disch:=first|decide|omega) only[Je,Jy,Bo,Bp];exact hN _ rfl
 rintro _ rfl
 have w0:Ka m A shut start [(start,.int start)]:=⟨List.pairwise_singleton _ _,rfl,by simp;exact(⟨h0,h1⟩),by simp,by simp;exact .refl _,fun i x hi hx=>by
  obtain⟨z,_⟩:=List.getElem?_eq_some_iff.mp hx
  simp at z;exact(Nat.lt_irrefl 0 (Nat.lt_of_lt_of_eq hi z)).elim⟩
 have wlen:∀es,Ka m A shut start es->es.length<=m:=fun es h=>by
  have:=Fh h.nodup h.in_
  rwa[List.length_map]at this
 refine Ae (Lp ?_)
 refine⟨fun κ ρ H₃=>(Ex4 fun(es:List (Int×V)) (k:Nat) (r6 r7:Option V)=>An8 (κ=m-k) (k<=es.length) (ρ = [some (.ref w),some (.int start),some (.ref s),some (.ref c),some (.ref wt),some (.int k),r6,r7]) (Ad H H₃) (H₃ c=some (.dict es)) (LI H₃ wt (es.map (fun e:Int×V=>e.1))) (Ka m A shut start es) (∀(i:Nat) (x:Int),i<k->(es.map (fun e:Int×V=>e.1))[i]? = some x->∀z,0<=z->z<(m:Int)->A x.toNat z.toNat=true->z∉shut->z∈es.map (fun e:Int×V=>e.1))),
  ⟨_,_,0,_,_,rfl,(Nat.zero_le _),rfl,e1.trans e2,e2 _ _ v1,v2,w0,by(first|lia|omega)⟩,?_⟩
 rintro κ ρ H₃ hP36
 refine Aa fun nY=>?_
 obtain⟨es,k,r6,r7,rfl,hk,rfl,e3,hc3,hw3,W,hcl⟩:=hP36
 refine nY ?_;clear nY
 simp (disch:=first|decide|omega) only[Jg,Jm,Jq,Jw,Jx,J0,J2,J3,Qg,Bl,Ag,Ai,A8 hw3]
 rw[List.length_map,List.length_map]
 have hel:=wlen es W
 refine Aa fun nY=>?_
 by_cases hlt:k<es.length
 ·refine nY ?_;clear nY
  rw[decide_eq_true (show (k:Int)<es.length by(first|lia|omega))]
  simp only[if_true]
  have hxl:k<(es.map (·.1)).length:=by rw[List.length_map];exact hlt
  have hx:=List.getElem?_eq_getElem hxl
  generalize (es.map (·.1))[k]=x at hx
  have hxr:=W.in_ x (List.mem_of_getElem? hx)
  simp only[H7]
  refine Dl ([some (.ref w),some (.int start),some (.ref s),some (.ref c),some (.ref wt),some (.int k),some (.int x),r7]) (fun H₄=>H₃=H₄) (fun N hN=>?_) ?_
  ·simp (disch:=first|decide|omega) only[Jg,Js,Jy,Ag,Ai,Bo,Bp,Al hw3 (Int.natCast_nonneg k) (LI.sub (a:=wt) hx)]
   exact hN _ rfl
  rintro _ rfl
  refine Dl ([some (.ref w),some (.int start),some (.ref s),some (.ref c),some (.ref wt),some (.int ((k+1:Nat):Int)),some (.int x),r7]) (fun H₄=>H₃=H₄) (fun N hN=>?_) ?_
  ·simp (disch:=first|decide|omega) only[Je,Jg,Jl,Jy,J8,Ag,Ai,Bo,Bp]
   exact hN _ rfl
  rintro _ rfl
  refine Ae (Oz ?_)
  refine Aa fun nY=>?_
  obtain⟨d,rs,w1,w2,w3⟩:=hW.ext e3
  refine nY ?_;clear nY
  simp (disch:=first|decide|omega) only[Jg,Jw,Jx,J2,Ag,Ai,Cu,true_and,A4,Dv,Dw,Fo,w1,w2,F.beside]
  refine P8 F.base F.beside ⟨d,rs,w1,w2,w3⟩ hxr.1 hxr.2 fun b H₄ e4 nb hb=>?_
  refine Aa fun nY=>?_
  have hbc:b≠c:=fun z=>by rw[z,hc3]at nb;cases nb
  have hbw:b≠wt:=fun z=>by unfold LI at hw3;rw[z,hw3]at nb;cases nb
  refine nY ?_;clear nY
  refine Ao hb ?_
  refine F6 (fun j (es':List (Int×V)) (fs:List (Int×V)) (r7:Option V)=>[some (.ref w),some (.int start),some (.ref s),some (.ref c),some (.ref wt),some (.int ((k+1:Nat):Int)),some (.int x),r7]) (fun j (es':List (Int×V)) (fs:List (Int×V)) (r7:Option V) H₅=>An7 (es'=es++fs) (Ad H H₅) (LI H₅ b (Am m A x.toNat)) (H₅ c=some (.dict es')) (LI H₅ wt (es'.map (·.1))) (Ka m A shut start es') (∀z∈(Am m A x.toNat).take j,z∉shut->z∈es'.map (·.1))) es [] _ rfl ⟨(List.append_nil _).symm,e3.trans e4,hb,e4 _ _ hc3,hw3.ext e4,W,fun _ h=>absurd h List.not_mem_nil⟩ ?_ ?_ ?_
  ·rintro j es' fs r7 H₅ ⟨_,_,hb5,_⟩;exact hb5
  ·rintro j v es' fs r7 H₅ K hv hP37 hK
   refine Aa fun nY=>?_
   obtain⟨hes,e5,hb5,hc5,hw5,W5,hz5⟩:=hP37
   obtain⟨z,hz,rfl⟩:=LI.at_ (a:=b) hv
   have hzm:=Ar.mp (List.mem_of_getElem? hz)
   have hS5:=hS.ext e5
   refine nY ?_;clear nY
   have hx5:(es'.map (·.1))[k]? = some x:=by rw[hes,List.map_append,List.getElem?_append_left hxl];exact hx
   simp (disch:=first|decide|omega) only[J2,J3,Bo,Bp,H6]
   refine Ba (!decide (z∈shut) && !decide (z∈es'.map (·.1))) (fun Q' h'=>?_) ?_
   ·simp (disch:=first|decide|omega) only[Jg,Jj,Jm,Bl,Ag,Ai,Hr hS5,Qc hc5]
    split
    ·rename_i h;rw[h,Bool.true_and]at h';exact h'
    ·rename_i h;rw[Bool.not_eq_true]at h;rw[h,Bool.false_and]at h';exact h'
   split
   ·rename_i hh
    simp only[Bool.and_eq_true,Bool.not_eq_true',decide_eq_false_iff_not]at hh
    have hel5:=wlen es' W5
    simp (disch:=first|decide|omega) only[Jg,Jz,J2,J3,Ag,Ai,Bs,S1 hc5 (show es'.length<1048576 by exact Xz hm hel5)]
    rw[Abu hh.2]
    have hw6:LI (upd H₅ c (.dict (es' ++ [(z,.int x)]))) wt (es'.map (·.1)):=hw5.upd_ne (Ne.symm hcw)
    have hwl:((es'.map (·.1)).map V.int).length<1048576:=by rw[List.length_map,List.length_map];exact Xz hm hel5
    simp (disch:=first|decide|omega) only[Jg,Jw,Jx,Ag,Ai,true_and,B0,B8 hw6,Cq hw6 hwl]
    refine hK (es' ++ [(z,.int x)]) (fs ++ [(z,.int x)]) _ _ ⟨by rw[hes,List.append_assoc],(e5.upd' n1).upd' nwt,(hb5.upd_ne hbc).upd_ne hbw,?_,?_,W5.snoc hx5 hzm.2.2 hh.1 hh.2 hzm.1 hzm.2.1,?_⟩
    ·rw[upd_ne hcw,Ac]
    ·unfold LI;rw[Ac];simp
    ·intro y hy hys
     rw[List.take_add_one,hz]at hy
     rw[List.map_append]
     refine Aa fun nY=>?_
     rcases List.mem_append.mp hy with hy|hy
     ·refine nY ?_;clear nY
      exact List.mem_append_left _ (hz5 y hy hys)
     ·refine nY ?_;clear nY
      simp at hy;subst hy;simp
   ·rename_i hh
    simp only[Bool.and_eq_true,Bool.not_eq_true',decide_eq_false_iff_not,not_and,Classical.not_not]at hh
    simp (disch:=first|decide|omega) only[J2]
    refine hK es' fs _ _ ⟨hes,e5,hb5,hc5,hw5,W5,fun y hy hys=>?_⟩
    rw[List.take_add_one,hz]at hy
    refine Aa fun nY=>?_
    rcases List.mem_append.mp hy with hy|hy
    ·refine nY ?_;clear nY
     exact hz5 y hy hys
    ·refine nY ?_;clear nY
     simp at hy;subst hy;exact hh hys
  ·rintro es' fs r7 H₅ hP38
   refine Aa fun nY=>?_
   obtain⟨hes,e5,hb5,hc5,hw5,W5,hz5⟩:=hP38
   rw[List.length_map,List.take_of_length_le (Nat.le_refl _)]at hz5
   have hel5:=wlen es' W5
   refine nY ?_;clear nY
   refine⟨m-(k+1),(Nat.sub_lt_sub_left (Nat.lt_of_lt_of_le hlt hel) (Nat.lt_succ_self _)),es',k+1,_,_,rfl,by rw[hes,List.length_append];exact(Nat.le_trans hlt (Nat.le_add_right _ _)),rfl,e5,hc5,hw5,W5,fun i y hi hy z h0 h1 ha hs=>?_⟩
   refine Aa fun nY=>?_
   by_cases hik:i=k
   ·subst hik
    refine nY ?_;clear nY
    have hx5:(es'.map (·.1))[i]? = some x:=by rw[hes,List.map_append,List.getElem?_append_left hxl];exact hx
    rw[hx5]at hy;cases hy
    exact hz5 z (Ar.mpr ⟨h0,h1,ha⟩) hs
   ·have hy':(es.map (·.1))[i]? = some y:=by
     rw[hes,List.map_append,List.getElem?_append_left (by rw[List.length_map];exact(Nat.lt_of_lt_of_le hi hlt))]at hy;exact hy
    have:=hcl i y (Q94 hi hik) hy' z h0 h1 ha hs
    refine nY ?_;clear nY
    rw[hes,List.map_append]
    exact List.mem_append_left _ this
 ·refine nY ?_;clear nY
  rw[decide_eq_false (show ¬(k:Int)<es.length by exact Ai6 hlt)]
  simp only[Bool.false_eq_true,if_false]
  refine q c es H₃ e3 n1 hc3 {W with closed:=fun x hx z z0 z1 ha hs=>?_}
  obtain⟨i,hi⟩:=List.mem_iff_getElem?.mp hx
  have:=(List.getElem?_eq_some_iff.mp hi).1
  rw[List.length_map]at this
  exact hcl i x (Nat.lt_of_lt_of_le this (Nat.not_lt.mp hlt)) hi z z0 z1 ha hs
set_option linter.all false
variable {G:Aw} {n:Nat} {H H':AH} {Q:Ah} {E:EP} {C:CS} {ρ:Ak}
structure Ah7(m:Nat)(A:Nat->Nat->Bool)(shut:List Int)(start goal:Int)(p:List Int):Prop where
 fst:p[0]? = some start
 lst:p[p.length-1]? = some goal
 in_:∀x∈p,0<=x/\x<(m:Int)
 out:∀x∈p,x∉shut
 nodup:p.Nodup
 adj:∀(k:Nat) (x y:Int),p[k]? = some x->p[k+1]? = some y->A x.toNat y.toNat=true
theorem Ah8(F:Fns G)(hS':G.fn "steps_from" = some E2)(hG:G.fn "way" = some Zt){w m s:Nat}{A:Nat->Nat->Bool}{shut:List Int}{start goal:Int}(g:Gr A)(hm:m<=60)(hW:Cs H w m A)(hS:LI H s shut)(h0:0<=start/\start<m)(h1:0<=goal/\goal<m)
 (qn:∀H',Ad H H'->(start∈shut\/goal∈shut\/¬Of m A shut start goal)->Q .none H')
 (qs:∀a p H',Ad H H'->H a=none->LI H' a p->start∉shut->goal∉shut->Ah7 m A shut start goal p->Q (.ref a) H'):Af G (n+4) "way" [.ref w,.int start,.int goal,.ref s] H Q E:=by
 have B:=F.base
 refine Aj hG rfl ?_
 simp only[Zt,List.map,List.replicate,List.cons_append,List.nil_append]
 obtain⟨d,rs,w1,w2,w3⟩:=hW
 have hW:Cs H w m A:=⟨d,rs,w1,w2,w3⟩
 refine Dl ([some (.ref w),some (.int start),some (.int goal),some (.ref s),none,none]) (fun H₁=>H=H₁) (fun N hN=>?_) ?_
 ·simp (disch:=first|decide|omega) only[Jg,Jw,Jx,Jz,Ag,Ai,Cu,true_and,A4,Dv,Dw,Fo,w1,w2,B.need]
  exact P3 B hW h0.1 h0.2 (hN _ rfl)
 rintro _ rfl
 refine Dl ([some (.ref w),some (.int start),some (.int goal),some (.ref s),none,none]) (fun H₁=>H=H₁) (fun N hN=>?_) ?_
 ·simp (disch:=first|decide|omega) only[Jg,Jw,Jx,Jz,Ag,Ai,Cu,true_and,A4,Dv,Dw,Fo,w1,w2,B.need]
  exact P3 B hW h1.1 h1.2 (hN _ rfl)
 rintro _ rfl
 refine Ae ?_
 refine Ba (decide (start∈shut)||decide (goal∈shut)) (fun Q' h'=>?_) ?_
 ·simp (disch:=first|decide|omega) only[Jg,Jk,Jm,Bl,Ag,Ai,Yw hS]
  split
  ·rename_i h;rw[h,Bool.true_or]at h';exact h'
  ·rename_i h;rw[Bool.not_eq_true]at h;rw[h,Bool.false_or]at h';exact h'
 split
 ·rename_i hh
  simp only[Bool.or_eq_true,decide_eq_true_eq]at hh
  simp (disch:=first|decide|omega) only[Jb,Jg,Jp,Ju,Jw,Jx,Jy,Jz,J0,J2,J3]
  exact qn H Ad.refl (hh.elim .inl fun h=> .inr (.inl h))
 rename_i hh
 simp only[Bool.or_eq_true,decide_eq_true_eq,not_or]at hh
 refine Sg ?_
 refine Qw (fun c es=>[some (.ref w),some (.int start),some (.int goal),some (.ref s),some (.ref c),none]) (fun c es H₁=>Td (Ad H H₁) (H c=none) (H₁ c=some (.dict es)) (Ov m A shut start es)) (fun N hN=>?_) ?_
 ·simp (disch:=first|decide|omega) only[Jg,Jp,Jw,Jx,Jy,Ag,Ai,Bo,Bp,Cu,true_and,hS']
  exact Xu F hS' hm hW hS h0.1 h0.2 fun c es H₁ e1 n1 v1 ok=>hN c es _ ⟨e1,n1,v1,ok⟩
 rintro c es H₁ ⟨e1,n1,v1,ok⟩
 refine Ae (A5 ?_)
 simp (disch:=first|decide|omega) only[Jb,Jg,Jm,Ju,Jw,Jx,Jy,Jz,J0,J2,J3,Bl,Ag,Ai,Bo,Bp,Qc v1]
 by_cases hg:goal∈es.map (·.1)
 rotate_left
 ·rw[decide_eq_false hg]
  simp only[Bool.not_false,if_true]
  (try dsimp only)
  exact qn H₁ e1 (.inr (.inr fun r=>hg (ok.iff.mpr r)))
 rw[decide_eq_true hg]
 simp only[Bool.not_true,Bool.false_eq_true,if_false]
 refine Ab fun a H₂ e2 n2 v2=>?_
 (try dsimp only)
 have na:H a=none:=e1.isNone n2
 have hca:c≠a:=fun z=>by rw[<-z,v1]at n2;cases n2
 have hc2:=e2 _ _ v1
 have wlen:(es.map (·.1)).length<=m:=Fh ok.nodup ok.in_
 refine Lp ?_
 refine⟨fun κ ρ H₃=>(Ii fun(f:List Int) (x:Int)=>Aip (ρ = [some (.ref w),some (.int start),some (.int goal),some (.ref s),some (.ref c),some (.ref a)]) (Ad H H₃) (H₃ c=some (.dict es)) (LI H₃ a f) (f.length+κ<=m) (f[0]? = some goal) (f[f.length-1]? = some x) ((es.map (fun e:Int×V=>e.1))[κ]? = some x) ((∀y∈f,∃i:Nat,κ<=i/\(es.map (fun e:Int×V=>e.1))[i]? = some y)) (f.Nodup) (∀(k:Nat) (y z:Int),f[k]? = some y->f[k+1]? = some z->A z.toNat y.toNat=true)),?_,?_⟩
 ·obtain⟨i,hi⟩:=List.mem_iff_getElem?.mp hg
  have hil:=(List.getElem?_eq_some_iff.mp hi).1
  refine⟨i,[goal],goal,rfl,e1.trans e2,hc2,v2,by simp;exact(Nat.le_trans (Nat.le_of_eq (Nat.add_comm 1 _)) (Nat.le_trans hil wlen)),rfl,rfl,hi,by simp;exact⟨i,by exact(Nat.le_refl _),by simpa using hi⟩,List.pairwise_singleton _ _,fun k y z h1 h2=>?_⟩
  simp at h2
 rintro κ ρ H₃ ⟨f,x,rfl,e3,hc3,hf3,hlen,hf0,hfl,hxk,hix,hnd,hadj⟩
 have hfpos:0<f.length:=(List.getElem?_eq_some_iff.mp hf0).1
 have hlast:∀Q':Ah,B9 (.ref a) (.int (-1)) H₃ Q'=Q' (.int x) H₃:=fun Q'=>by
  refine V7 hf3 (Int.natCast_nonneg _) (by rw[List.length_map];exact Agx hfpos) ?_
  rw[List.length_map,show ((-1:Int)+f.length).toNat=f.length-1 by exact Agy,List.getElem?_map,hfl];rfl
 simp (disch:=first|decide|omega) only[Je,Jg,Ji,Jm,Js,Zj,Bl,Ag,Ai,hlast]
 by_cases hxs:x=start
 ·rw[decide_eq_true hxs]
  simp only[Bool.not_true,Bool.false_eq_true,if_false]
  simp (disch:=first|decide|omega) only[Jg,Jw,Ag,Ai,true_and,B0,B8 hf3,Y7 hf3]
  rw[<-List.map_reverse]
  subst hxs
  refine qs a f.reverse _ (e3.upd' na) na Ac hh.1 hh.2 ⟨?_,?_,?_,?_,?_,?_⟩
  ·rw[List.getElem?_reverse hfpos];simpa using hfl
  ·rw[List.length_reverse,List.getElem?_reverse (by exact Agz hfpos)]
   rw[show f.length-1-(f.length-1)=0 by exact Ai7];exact hf0
  ·intro y hy
   obtain⟨i,_,hi⟩:=hix y (List.mem_reverse.mp hy)
   exact ok.in_ y (List.mem_of_getElem? hi)
  ·intro y hy
   obtain⟨i,_,hi⟩:=hix y (List.mem_reverse.mp hy)
   rcases ok.out y (List.mem_of_getElem? hi)with rfl|h
   ·exact hh.1
   ·exact h
  ·exact(List.reverse_perm f).nodup_iff.mpr hnd
  ·intro k y z hy hz
   have h1:=(List.getElem?_eq_some_iff.mp hz).1
   rw[List.length_reverse]at h1
   rw[List.getElem?_reverse (by(first|lia|omega))]at hy hz
   have:=hadj (f.length-1-(k+1)) z y hz (by rw[show f.length-1-(k+1)+1=f.length-1-k by exact(Nat.sub_add_cancel (Nat.sub_pos_of_lt (Nat.lt_sub_of_add_lt h1)))];exact hy)
   exact this
 ·rw[decide_eq_false hxs]
  simp only[Bool.not_false,if_true]
  have hk0:0<κ:=by
   rcases Nat.eq_zero_or_pos κ with z|z
   ·subst z;rw[ok.head]at hxk;cases hxk;exact absurd rfl hxs
   ·exact z
  obtain⟨j,y,hjk,hy,hdy,hay⟩:=ok.par κ x hk0 hxk
  have hfl2:(f.map V.int).length<1048576:=by rw[List.length_map];exact Nat.lt_of_le_of_lt (Nat.le_trans (Nat.le_add_right _ _) (Nat.le_trans hlen hm)) (by decide)
  simp only[Tm,J3,J2]
  simp (disch:=first|decide|omega) only[Je,Jg,Ji,Js,Jw,Jx,Jz,Ag,Ai,true_and,B0,B8 hf3,hlast,Wh hc3 hdy,Cq hf3 hfl2]
  refine⟨j,hjk,f ++ [y],y,trivial,e3.upd' na,by rw[upd_ne hca];exact hc3,by unfold LI;rw[Ac];simp,by simp;exact(Nat.le_trans (Nat.le_of_eq (Nat.add_right_comm _ 1 _)) (Nat.le_trans (Nat.add_le_add_left hjk _) hlen)),by rw[List.getElem?_append_left hfpos];exact hf0,by simp,hy,?_,?_,?_⟩
  ·intro z hz
   rcases List.mem_append.mp hz with hz|hz
   ·obtain⟨i,hi1,hi2⟩:=hix z hz;exact⟨i,(Nat.le_of_lt (Nat.lt_of_lt_of_le hjk hi1)),hi2⟩
   ·simp at hz;subst hz;exact⟨j,(Nat.le_refl _),hy⟩
  ·rw[List.nodup_append]
   refine⟨hnd,List.pairwise_singleton _ _,fun u hu v hv e=>?_⟩
   simp at hv
   subst hv e
   obtain⟨i,hi1,hi2⟩:=hix _ hu
   have:=Dk ok.nodup hi2 hy
   exact Nat.lt_irrefl _ (Nat.lt_of_lt_of_le hjk (Nat.le_trans hi1 (Nat.le_of_eq this)))
  ·intro k u v hu hv
   cases Nat.lt_or_ge (k+1) f.length with
   | inl q=>
     rw[List.getElem?_append_left q]at hv
     rw[List.getElem?_append_left (Nat.lt_of_succ_lt q)]at hu
     exact hadj k u v hu hv
   | inr q=>
     have hk:=(List.getElem?_eq_some_iff.mp hv).1
     rw[List.length_append]at hk
     simp at hk
     have:k=f.length-1:=(Nat.le_antisymm (Nat.le_sub_one_of_lt hk) (Nat.sub_le_of_le_add q))
     subst this
     rw[List.getElem?_append_left hk,hfl]at hu
     cases hu
     rw[List.getElem?_append_right (by exact(Nat.sub_le_iff_le_add.mp (Nat.le_refl _))),show f.length-1+1-f.length=0 by exact(Nat.sub_eq_zero_of_le hk)]at hv
     simp at hv
     subst hv
     exact hay
theorem Of.in_{m:Nat}{A:Nat->Nat->Bool}{shut:List Int}{x y:Int}(h:Of m A shut x y)(hx:x∉shut/\0<=x/\x<(m:Int)):y∉shut/\0<=y/\y<(m:Int):=by
 induction h with
 | refl=>exact hx
 | step _ _ s z0 z1 _=>exact⟨s,z0,z1⟩
theorem Of.trans{m:Nat}{A:Nat->Nat->Bool}{shut:List Int}{x y z:Int}(h:Of m A shut x y)(h':Of m A shut y z):Of m A shut x z:=by
 induction h' with
 | refl=>exact h
 | step _ a s z0 z1 ih=>exact .step ih a s z0 z1
theorem Of.symm{m:Nat}{A:Nat->Nat->Bool}{shut:List Int}{x y:Int}(g:Gr A)(h:Of m A shut x y)(hx:x∉shut/\0<=x/\x<(m:Int)):Of m A shut y x:=by
 induction h with
 | refl=>exact .refl _
 | step r a s z0 z1 ih=>
   have hy:=r.in_ hx
   exact(Of.step (.refl _) (by rw[g.symm];exact a) hy.1 hy.2.1 hy.2.2).trans ih
theorem Of.mono{m:Nat}{A:Nat->Nat->Bool}{shut shut':List Int}{x y:Int}(hs:∀z∈shut',z∈shut)(h:Of m A shut x y):Of m A shut' x y:=by
 induction h with
 | refl=>exact .refl _
 | step _ a s z0 z1 ih=>exact .step ih a (fun q=>s (hs _ q)) z0 z1
structure Us(m:Nat)(A:Nat->Nat->Bool)(shut:List Int)(es:List (Int×V)):Prop where
 lab:∀x,x∉shut->0<=x->x<(m:Int)->∃l:Int,dget es x=some (.int l)
 key:∀x v,dget es x=some v->(x∉shut/\0<=x/\x<(m:Int))/\(Q9 fun(l:Int)=>E6 (v = .int l) ((l∉shut/\0<=l/\l<(m:Int))) (Of m A shut l x))
 same:∀x y,x∉shut->0<=x->x<(m:Int)->y∉shut->0<=y->y<(m:Int)->A x.toNat y.toNat=true->dget es x=dget es y
theorem G3{es:List (Int×V)}{k x:Int}{v:V}:dget (Di es k v) x=if x=k then some v else dget es x:=by
 unfold dget
 induction es with
 | nil=>
   simp only[Di,List.lookup_cons,List.lookup_nil]
   by_cases h:x=k
   ·subst h;simp
   ·rw[show (x==k)=false from decide_eq_false h,if_neg h]
 | cons e r ih=>
   obtain⟨k',v'⟩:=e
   unfold Di
   by_cases h:k=k'
   ·subst h
    rw[if_pos rfl,List.lookup_cons,List.lookup_cons]
    by_cases h':x=k
    ·subst h';simp
    ·rw[show (x==k)=false from decide_eq_false h',if_neg h']
   ·rw[if_neg h,List.lookup_cons,List.lookup_cons,ih]
    by_cases h':x=k'
    ·subst h'
     simp;exact fun z=>absurd z.symm h
    ·rw[show (x==k')=false from decide_eq_false h']
theorem Ma{es:List (Int×V)}{k:Int}{v:V}:(Di es k v).length<=es.length+1:=by
 induction es with
 | nil=>simp[Di]
 | cons e r ih=>
   obtain⟨k',v'⟩:=e
   unfold Di
   split
   ·simp
   ·simp;exact ih
set_option linter.all false
variable {G:Aw} {n:Nat} {H H':AH} {Q:Ah} {E:EP} {C:CS} {ρ:Ak}
theorem Af2{a:Nat}{es:List (Int×V)}{K:List It->(AH->Prop)->AH->Prop}(h:H a=some (.dict es)):Fm (.ref a) H K=K ((es.map fun e=>V.int e.1).map .v) (fun _=>True) (del H a):=by
 delta Fm;(try dsimp only[A2]);rw[h];(try dsimp only);(try rw[List.map_map]);rfl
theorem Ad0{a:Nat}{es:List (Int×V)}{K:List It->(AH->Prop)->AH->Prop}(h:H a=some (.dict es))(kk:K ((es.map fun e=>V.int e.1).map .v) (fun _=>True) (del H a)):Fm (.ref a) H K:=Eq.mpr (Af2 h) kk
theorem Aby(F:Y8 G){w m s:Nat}{A:Nat->Nat->Bool}{shut:List Int}(g:Gr A)(hm:m<=60)(hW:Cs H w m A)(hS:LI H s shut)
 (q:∀a es H',Ad H H'->H a=none->H' a=some (.dict es)->Us m A shut es->Q (.ref a) H'):Af G (n+4) "pieces" [.ref w,.ref s] H Q E:=by
 have F1:=F.fns2.fns
 refine Aj F.pieces rfl ?_
 simp only[Tn,List.map,List.replicate,List.cons_append,List.nil_append]
 refine C3 (fun a=>[some (.ref w),some (.ref s),some (.ref a),none,none]) (fun a H₁=>E6 (Ad H H₁) (H a=none) (H₁ a=some (.dict []))) (fun N hN=>?_) ?_
 ·refine Bw (Tj ?_)
  exact Ab fun a H₁ e1 n1 v1=>hN a _ ⟨e1,n1,v1⟩
 rintro a H₁ ⟨e1,na,v1⟩
 obtain⟨d,rs,w1,w2,w3⟩:=hW.ext e1
 refine Ae (Uy ?_)
 simp (disch:=first|decide|omega) only[Jg,Jr,Jw,Jx,J0,J2,J3,Oo,Ag,Bn w1 w2 (show Ds [(Ct.many,V.int m),(Ct.rows,V.ref rs)] .many=some (.int m)from rfl)]
 refine Gi (fun i (es:List (Int×V)) (r3:Option V) (r4:Option V)=>[some (.ref w),some (.ref s),some (.ref a),r3,r4]) (fun i (es:List (Int×V)) (r3:Option V) (r4:Option V) H₂=>An6 (Ad H H₂) (H₂ a=some (.dict es)) (es.length<=60*i) ((∀x:Int,x∉shut->0<=x->x<(i:Int)->∃v,dget es x=some v)) ((∀x v,dget es x=some v->(x∉shut/\0<=x/\x<(m:Int))/\(Q9 fun(l:Int)=>E6 (v = .int l) ((l∉shut/\0<=l/\l<(m:Int))) (Of m A shut l x)))) (∀x y v,x∉shut->0<=x->x<(m:Int)->y∉shut->0<=y->y<(m:Int)->A x.toNat y.toNat=true->dget es x=some v->dget es y=some v)) [] _ _ rfl ⟨e1,v1,Nat.le_refl _,by intros;(first|lia|omega),fun _ _ h=>absurd h.symm (Option.some_ne_none _),by simp[dget]⟩ ?_ ?_
 ·rintro i es r3 r4 H₂ K hi ⟨e2,hd2,hlen,hL,hK',hC⟩ hK
  have hi':i<m:=hi
  have hS2:=hS.ext e2
  simp only[Nj,J3,J2,List.set_cons_succ,List.set_cons_zero]
  refine Ba (!decide ((i:Int)∈shut) && !decide ((i:Int)∈es.map (·.1))) (fun Q' h'=>?_) ?_
  ·simp (disch:=first|decide|omega) only[Jg,Jj,Jm,Bl,Ag,Ai,Hr hS2,Qc hd2]
   split
   ·rename_i h;rw[h,Bool.true_and]at h';exact h'
   ·rename_i h;rw[Bool.not_eq_true]at h;rw[h,Bool.false_and]at h';exact h'
  split
  ·rename_i hh
   simp only[Bool.and_eq_true,Bool.not_eq_true',decide_eq_false_iff_not]at hh
   refine Ae (Oz ?_)
   simp (disch:=first|decide|omega) only[Jg,Jp,Jw,Jx,J2,Ag,Ai,Cu,true_and,F.steps]
   refine Xu F1 F.steps hm (hW.ext e2) hS2 Wu (Xy hi') fun c ec H₃ e3 n3 v3 ok=>?_
   refine Ad0 v3 ?_
   have e23:Ad H₂ (del H₃ c):=Adv e3 n3
   have hcl:ec.length<=m:=by
    have:=Fh ok.nodup ok.in_
    rwa[List.length_map]at this
   refine Qa (fun j ρ H₄=>(Ii fun(es':List (Int×V)) (r4:Option V)=>U1 (ρ = [some (.ref w),some (.ref s),some (.ref a),some (.int i),r4]) (Ad H H₄) (H₄ a=some (.dict es')) (es'.length<=60*i+j) (∀x,dget es' x=if x∈(ec.map (fun e:Int×V=>e.1)).take j then some (.int i)else dget es x)))
    ⟨es,_,rfl,e2.trans e23,e23 _ _ hd2,by exact hlen,by simp⟩ ?_ ?_ ?_
   ·intros;trivial
   ·rintro j v ρ H₄ K' hv ⟨es',r4,rfl,e4,hd4,hl4,hx4⟩ hK''
    have hv':((ec.map (·.1)).map V.int)[j]? = some v:=by rw[List.map_map];exact hv
    obtain⟨x,hx,rfl⟩:=LI.at_ (a:=c) hv'
    have hjl:=(List.getElem?_eq_some_iff.mp hx).1
    rw[List.length_map]at hjl
    simp (disch:=first|decide|omega) only[Jg,J2,J3,Ag,Ai,Bo,Bp,Ni,Bs,S1 hd4 (show es'.length<1048576 by exact(Nat.lt_of_le_of_lt (Nat.le_trans hl4 (Nat.add_le_add (Nat.mul_le_mul_left 60 (Nat.le_trans (Nat.le_of_lt hi') hm)) (Nat.le_trans (Nat.le_of_lt hjl) (Nat.le_trans hcl hm)))) (by decide)))]
    refine hK'' _ _ ⟨Di es' x (.int i),_,rfl,e4.upd' na,Ac,?_,fun y=>?_⟩
    ·have:=Ma (es:=es') (k:=x) (v:= .int i);exact Nat.le_trans this (Nat.succ_le_succ hl4)
    ·rw[G3,hx4 y,List.take_add_one,hx]
     simp only[Option.toList_some,List.mem_append,List.mem_singleton]
     by_cases h1:y=x
     ·simp[h1]
     ·simp[h1]
   ·rintro ρ H₄ ⟨es',r4,rfl,e4,hd4,hl4,hx4⟩
    have hlk:(ec.map fun e=>V.int e.1).length=ec.length:=List.length_map _
    rw[hlk]at hx4 hl4
    rw[List.take_of_length_le (Nat.le_of_eq (List.length_map _))]at hx4
    have hout:((i:Int)∉shut/\0<=(i:Int)/\(i:Int)<m):=⟨hh.1,Wu,(Xy hi')⟩
    refine hK es' _ _ _ ⟨e4,hd4,(Nat.le_trans hl4 (Nat.add_le_add_left (Nat.le_trans hcl hm) _)),fun x h1 h2 h3=>?_,fun x v hv=>?_,fun x y v x1 x2 x3 y1 y2 y3 ha hv=>?_⟩
    ·rw[hx4]
     split
     ·exact⟨_,rfl⟩
     ·rename_i hn
      refine hL x h1 h2 ?_
      have:x≠i:=fun z=>hn (by rw[z];exact ok.iff.mpr (.refl _))
      exact Int.lt_iff_le_and_ne.mpr ⟨Int.le_of_lt_add_one h3,this⟩
    ·rw[hx4]at hv
     split at hv
     ·rename_i hin
      cases hv
      exact⟨(ok.rch x hin).in_ hout,i,rfl,hout,ok.rch x hin⟩
     ·exact hK' x v hv
    ·rw[hx4]at hv ⊢
     split at hv
     ·rename_i hin
      rw[if_pos (ok.closed x hin y y2 y3 ha y1)];exact hv
     ·rename_i hin
      rw[if_neg (fun hy=>hin (ok.closed y hy x x2 x3 (by rw[g.symm];exact ha) x1))]
      exact hC x y v x1 x2 x3 y1 y2 y3 ha hv
  ·rename_i hh
   simp (disch:=first|decide|omega) only[J2]
   refine hK es _ _ _ ⟨e2,hd2,(Nat.le_trans hlen (Nat.le_add_right _ _)),fun x h1 h2 h3=>?_,hK',hC⟩
   by_cases hxi:x=i
   ·subst hxi
    simp only[Bool.and_eq_true,Bool.not_eq_true',decide_eq_false_iff_not,not_and,Classical.not_not]at hh
    have hmem:=hh h1
    have:(dget es (i:Int)).isSome=true:=by rw[Fl];simpa using hmem
    exact Option.isSome_iff_exists.mp this
   ·exact hL x h1 h2 (Int.lt_iff_le_and_ne.mpr ⟨Int.le_of_lt_add_one h3,hxi⟩)
 ·rintro es r3 r4 H₂ ⟨e2,hd2,hlen,hL,hK',hC⟩
  try simp (disch:=first|decide|omega) only[Ag,Ai]
  refine q a es H₂ e2 na hd2 ⟨fun x h1 h2 h3=>?_,hK',fun x y x1 x2 x3 y1 y2 y3 ha=>?_⟩
  ·obtain⟨v,hv⟩:=hL x h1 h2 h3
   obtain⟨_,l,rfl,_⟩:=hK' x v hv
   exact⟨l,hv⟩
  ·obtain⟨v,hv⟩:=hL x x1 x2 x3
   rw[hv,hC x y v x1 x2 x3 y1 y2 y3 ha hv]
structure U0(H₂ H':AH)(tt:Nat)(es:List (Int×V))(T:Int->List Int):Prop where
 ext:Ad H₂ H'
 ntt:H₂ tt=none
 at_:H' tt=some (.dict es)
 nodup:(es.map (·.1)).Nodup
 val:∀L v,dget es L=some v->(Q9 fun x=>Td (v = .ref x) (x≠tt) (H₂ x=none) (LI H' x (T L)))
 inj:∀L L' x,dget es L=some (.ref x)->dget es L'=some (.ref x)->L=L'
 non:∀L,dget es L=none->T L = []
theorem U0.mono{H₂ H'':AH}{tt:Nat}{es:List (Int×V)}{T:Int->List Int}(h:U0 H₂ H' tt es T)(e:Ad H' H''):U0 H₂ H'' tt es T:=
 ⟨h.ext.trans e,h.ntt,e _ _ h.at_,h.nodup,fun L v hv=>by
  obtain⟨x,a,b,c,d⟩:=h.val L v hv
  exact⟨x,a,b,c,d.ext e⟩,h.inj,h.non⟩
theorem U0.set{H₂:AH}{tt x:Nat}{es:List (Int×V)}{T:Int->List Int}{L:Int}(h:U0 H₂ H' tt es T)(hx:dget es L=some (.ref x))(l:List Int):U0 H₂ (upd H' x (.list (l.map V.int))) tt es (fun K=>if K=L then l else T K):=by
 refine Aa fun nY=>?_
 obtain⟨x',hx',h1,h2,h3⟩:=h.val L _ hx
 cases hx'
 refine nY ?_;clear nY
 refine⟨h.ext.upd' h2,h.ntt,by rw[upd_ne (Ne.symm h1)];exact h.at_,h.nodup,fun K v hv=>?_,h.inj,fun K hK=>?_⟩
 ·refine Aa fun nY=>?_
  obtain⟨y,rfl,a1,a2,a3⟩:=h.val K v hv
  refine nY ?_;clear nY
  refine⟨y,rfl,a1,a2,?_⟩
  refine Aa fun nY=>?_
  by_cases hKL:K=L
  ·subst hKL
   rw[hx]at hv;cases hv
   refine nY ?_;clear nY
   rw[if_pos rfl];exact Ac
  ·refine nY ?_;clear nY
   rw[if_neg hKL]
   exact a3.upd_ne fun z=>hKL (h.inj K L x (by rw[<-z];exact hv) hx)
 ·have:K≠L:=fun z=>by rw[z,hx]at hK;cases hK
  rw[if_neg this];exact h.non K hK
theorem U0.new{H₂ H'':AH}{tt z:Nat}{es:List (Int×V)}{T:Int->List Int}{L:Int}(h:U0 H₂ H' tt es T)(e:Ad H' H'')(hz:H' z=none)(hv:LI H'' z [])(hn:dget es L=none):U0 H₂ (upd H'' tt (.dict (Di es L (.ref z)))) tt (Di es L (.ref z)) T:=by
 have hztt:z≠tt:=fun q=>by rw[q,h.at_]at hz;cases hz
 have h':=h.mono e
 refine⟨h'.ext.upd' h.ntt,h.ntt,Ac,?_,fun K v hK=>?_,fun K K' x h1 h2=>?_,fun K hK=>?_⟩
 ·rw[Kf]
  split
  ·exact h.nodup
  ·rename_i hh
   rw[List.nodup_append]
   exact⟨h.nodup,List.pairwise_singleton _ _,fun a ha b hb e=>hh (by simp at hb;rw[<-hb,<-e];exact ha)⟩
 ·rw[G3]at hK
  split at hK
  ·rename_i hKL
   cases hK
   refine⟨z,rfl,hztt,h.ext.isNone hz,?_⟩
   rw[hKL,h.non L hn]
   exact hv.upd_ne hztt
  ·obtain⟨y,rfl,a1,a2,a3⟩:=h'.val K v hK
   exact⟨y,rfl,a1,a2,a3.upd_ne a1⟩
 ·have key:∀K,dget es K=some (.ref x)->x≠z:=fun K hK q=>by
   obtain⟨y,hy,_,_,a3⟩:=h.val K _ hK
   cases hy
   unfold LI at a3
   rw[q,hz]at a3;cases a3
  rw[G3]at h1 h2
  split at h1<;>split at h2
  ·(first|lia|omega)
  ·cases h1;exact absurd rfl (key K' h2)
  ·cases h2;exact absurd rfl (key K h1)
  ·exact h.inj K K' x h1 h2
 ·rw[G3]at hK
  split at hK
  ·cases hK
  ·exact h.non K hK
theorem S8{a:Nat}{es:List (Int×V)}{k:Int}{v w:V}(h:H a=some (.dict es))(hk:dget es k=some w):Gk .setdefault (.ref a) [.int k,v] H Q=Q w H:=by
 delta Gk;dsimp only;(first|delta Ez|delta G9|delta Ha|delta E0|delta Dt|delta Ce);(try dsimp only[A2,Ax,U3,Na,Ti]);rw[h];(try dsimp only[F8,U2]);rw[hk];(try dsimp only[F8,Ey])
theorem Qx{a:Nat}{es:List (Int×V)}{k:Int}{v w:V}(h:H a=some (.dict es))(hk:dget es k=some w)(kk:Q w H):Gk .setdefault (.ref a) [.int k,v] H Q:=Eq.mpr (S8 h hk) kk
theorem S9{a:Nat}{es:List (Int×V)}{k:Int}{v:V}(h:H a=some (.dict es))(hk:dget es k=none)(hl:es.length<1048576):Gk .setdefault (.ref a) [.int k,v] H Q=Q v (upd H a (.dict (Di es k v))):=by
 delta Gk;dsimp only;(first|delta Ez|delta G9|delta Ha|delta E0|delta Dt|delta Ce);(try dsimp only[A2,Ax,U3,Na,Ti]);rw[h];(try dsimp only[F8,U2]);rw[hk];(try dsimp only[F8,Ey])
 exact propext ⟨fun h=>h.2,fun q=>⟨hl,q⟩⟩
theorem Qy{a:Nat}{es:List (Int×V)}{k:Int}{v:V}(h:H a=some (.dict es))(hk:dget es k=none)(hl:es.length<1048576)(kk:Q v (upd H a (.dict (Di es k v)))):Gk .setdefault (.ref a) [.int k,v] H Q:=Eq.mpr (S9 h hk hl) kk
theorem Ad1{a:Nat}{es:List (Int×V)}(h:H a=some (.dict es)):La .setdefault (.ref a) H=True:=by
 delta La;dsimp only[A2];rw[h];exact propext ⟨fun _=>trivial,fun _=>rfl⟩
set_option linter.all false
noncomputable def Hw(m:Nat)(A:Nat->Nat->Bool)(p:Int):Prop:=(Ex4 fun(a b u v:Int)=>Agl ((0<=a/\a<m)) ((0<=b/\b<m)) ((0<=u/\u<m)) ((0<=v/\v<m)) (A p.toNat a.toNat=true) (A p.toNat b.toNat=true) (a≠b) (A a.toNat b.toNat=false) (A a.toNat u.toNat=true) (A b.toNat v.toNat=true) (u∉Am m A p.toNat ++ [p]) (v∉Am m A p.toNat ++ [p]) (Of m A (Am m A p.toNat ++ [p]) u v))
structure Abz(m:Nat)(A:Nat->Nat->Bool)(ep:List (Int×V))(T:Int->List Int)(done:Int->Int->Prop)(seen:List Int):Prop where
 src:∀L x,x∈T L->(0<=x/\x<(m:Int))/\∃o:Int,A x.toNat o.toNat=true/\dget ep o=some (.int L)
 asc:∀L,(T L).Pairwise (· < ·)
 sub:∀L x,x∈T L->x∈seen
 all:∀x o L,done x o->dget ep o=some (.int L)->x∈T L
theorem Ab0{l:List Int}(h:l≠[]):(Q9 fun x=>E6 (l[l.length-1]? = some x) (x∈l) ((l.Pairwise (· < ·)->∀y∈l,y<=x))):=by
 have hl:l.length-1<l.length:=by
  have:0<l.length:=List.length_pos_iff.mpr h
  exact Agz this
 refine⟨l[l.length-1],List.getElem?_eq_getElem hl,List.getElem_mem _,fun hp y hy=>?_⟩
 obtain⟨i,hi,rfl⟩:=List.mem_iff_getElem.mp hy
 by_cases hz:i=l.length-1
 ·subst hz;exact Int.le_refl _
 ·exact Int.le_of_lt (List.pairwise_iff_getElem.mp hp i (l.length-1) hi hl (Nat.lt_of_le_of_ne (Nat.le_sub_one_of_lt hi) hz))
variable {G:Aw} {n:Nat} {H H':AH} {Q:Ah} {E:EP} {C:CS} {ρ:Ak}
theorem Y9{m:Nat}{A:Nat->Nat->Bool}{H₂:AH}{w nr pc tt b:Nat}{ep es:List (Int×V)}{T:Int->List Int}{done:Int->Int->Prop}{seen:List Int}{p one o:Int}{r7:Option V}{K:Ak->AH->Prop}
 (hp2:H₂ pc=some (.dict ep)) (hepl:∀x v,dget ep x=some v->∃l:Int,v = .int l/\(0<=l/\l<(m:Int))) (t:U0 H₂ H tt es T) (hkeys:∀L∈es.map (·.1),0<=L/\L<(m:Int)) (hm:m<=60) (lg:Abz m A ep T done (seen ++ [one])) (hlt:∀x∈seen,x<one) (h1:0<=one/\one<m) (ha:A one.toNat o.toNat=true)
 (hb:∀l,LI H b l->(tt≠b/\∀L x,dget es L=some (.ref x)->x≠b)) {lb:List Int} (hbl:LI H b lb)
 (hK:∀r7 es' T' H',U0 H₂ H' tt es' T'->(∀L∈es'.map (·.1),0<=L/\L<(m:Int))->Abz m A ep T' (fun x y=>done x y\/(x=one/\y=o)) (seen ++ [one])->LI H' b lb->(tt≠b/\∀L x,dget es' L=some (.ref x)->x≠b)->
   K [some (.ref w),some (.int p),some (.ref nr),some (.ref pc),some (.ref tt),some (.int one),some (.int o),r7,none,none,none] H') :
 Br G (Af G n) He [some (.ref w),some (.int p),some (.ref nr),some (.ref pc),some (.ref tt),some (.int one),some (.int o),r7,none,none,none] H K Q E:=by
 have hp:=t.ext _ _ hp2
 have hesl:es.length<=m:=by
  have:=Fh t.nodup hkeys
  rwa[List.length_map]at this
 simp only[He,J3,J2]
 refine Ba (decide (o∈ep.map (·.1))) (fun Q' h'=>?_) ?_
 ·simp (disch:=first|decide|omega) only[Jg,Jm,Ag,Ai,Ah6 hp];exact h'
 split
 rotate_left
 ·rename_i hh
  simp (disch:=first|decide|omega) only[J2]
  refine hK _ _ _ _ t hkeys ⟨lg.src,lg.asc,lg.sub,fun x y L hd hy=>?_⟩ hbl (hb _ hbl)
  refine Aa fun nY=>?_
  rcases hd with hd | ⟨rfl,rfl⟩
  ·refine nY ?_;clear nY
   exact lg.all x y L hd hy
  ·refine nY ?_;clear nY
   exfalso
   have:(dget ep y).isSome=true:=by rw[hy];rfl
   rw[Fl]at this
   exact hh this
 rename_i hh
 have:(dget ep o).isSome=true:=by rw[Fl];exact hh
 refine Aa fun nY=>?_
 obtain⟨v,hv⟩:=Option.isSome_iff_exists.mp this
 obtain⟨L,rfl,hL⟩:=hepl o v hv
 refine nY ?_;clear nY
 refine Qw (fun x es'=>[some (.ref w),some (.int p),some (.ref nr),some (.ref pc),some (.ref tt),some (.int one),some (.int o),some (.ref x),none,none,none]) (fun x es' H₃=>U1 (U0 H₂ H₃ tt es' T) ((∀L∈es'.map (fun e:Int×V=>e.1),0<=L/\L<(m:Int))) (dget es' L=some (.ref x)) (LI H₃ b lb) (∀L x,dget es' L=some (.ref x)->x≠b)) (fun N hN=>?_) ?_
 ·simp (disch:=first|decide|omega) only[Jg,Js,Ju,Jw,Jx,Jy,Ag,Ai,Bo,Bp,true_and,B0,Ad1 t.at_,Wh hp hv]
  refine Ab fun z H₃ e3 n3 v3=>?_
  (try dsimp only)
  cases hd:dget es L with
  | some u=>
    obtain⟨x,rfl,_⟩:=t.val L u hd
    refine Qx (e3 _ _ t.at_) hd ?_
    exact hN x es _ ⟨t.mono e3,hkeys,hd,hbl.ext e3,(hb _ hbl).2⟩
  | none=>
    refine Qy (e3 _ _ t.at_) hd (Xz hm hesl) ?_
    refine hN z _ _ ⟨t.new e3 n3 v3 hd,fun K hK=>?_,by rw[G3,if_pos rfl],(hbl.ext e3).upd_ne (Ne.symm (hb _ hbl).1),fun K x hK q=>?_⟩
    ·rw[Kf]at hK
     refine Aa fun nY=>?_
     split at hK
     ·refine nY ?_;clear nY
      exact hkeys K hK
     ·rcases List.mem_append.mp hK with hK|hK
      ·refine nY ?_;clear nY
       exact hkeys K hK
      ·refine nY ?_;clear nY
       simp at hK;rw[hK];exact hL
    ·rw[G3]at hK
     refine Aa fun nY=>?_
     split at hK
     ·cases hK
      unfold LI at hbl
      rw[<-q,n3]at hbl;cases hbl
     ·refine nY ?_;clear nY
      exact(hb _ hbl).2 K x hK q
 rintro x es' H₃ hP39
 refine Aa fun nY=>?_
 obtain⟨t3,hk3,hd3,hb3,hnb⟩:=hP39
 obtain⟨x',hx',hxt,hx2,hx3⟩:=t3.val L _ hd3
 cases hx'
 refine nY ?_;clear nY
 refine Ae (A5 (Ahc ?_))
 simp (disch:=first|decide|omega) only[Je,Jg,Ji,Jm,Js,Ju,Jw,Jz,J2,J3,Bl,Ag,Ai]
 refine Ab fun z H₄ e4 n4 v4=>?_
 (try dsimp only)
 have t4:=t3.mono e4
 have hx4:=hx3.ext e4
 have hb4:=hb3.ext e4
 have httb:=(hb _ hbl).1
 refine V9 (l:=T L) (l':=[]) hx4 v4 ?_
 (try dsimp only);(try simp (disch:=first|decide|omega) only[Bl])
 have app:T L = []\/(∀y∈T L,y<one)->Br G (Af G n) [.expr (.lm .append (.var 7) [(.var 5)])] [some (.ref w),some (.int p),some (.ref nr),some (.ref pc),some (.ref tt),some (.int one),some (.int o),some (.ref x),none,none,none] H₄ K Q E:=by
  intro hc
  have hlt':∀y∈T L,y<one:=by
   refine Aa fun nY=>?_
   rcases hc with hc|hc
   ·refine nY ?_;clear nY
    rw[hc];simp
   ·refine nY ?_;clear nY
    exact hc
  have hln:(T L).length<=m:=Fh ((lg.asc L).imp fun h=>(Int.ne_of_lt h)) fun y hy=>(lg.src L y hy).1
  have hl2:((T L).map V.int).length<1048576:=by rw[List.length_map];exact Xz hm hln
  simp (disch:=first|decide|omega) only[Jg,Jw,Jx,Jz,J2,J3,Ag,Ai,true_and,B0,B8 hx4,Cq hx4 hl2]
  have:=t4.set hd3 (T L ++ [one])
  rw[List.map_append]at this
  refine hK _ _ _ _ this hk3 ⟨fun K y hy=>?_,fun K=>?_,fun K y hy=>?_,fun y o' K hdn hyo=>?_⟩ (hb4.upd_ne (Ne.symm (hnb L x hd3))) ⟨httb,hnb⟩
  ·refine Aa fun nY=>?_
   split at hy
   ·rename_i hKL
    subst hKL
    rcases List.mem_append.mp hy with hy|hy
    ·refine nY ?_;clear nY
     exact lg.src K y hy
    ·refine nY ?_;clear nY
     simp at hy;subst hy;exact⟨h1,o,ha,hv⟩
   ·refine nY ?_;clear nY
    exact lg.src K y hy
  ·split
   ·rw[List.pairwise_append]
    refine⟨lg.asc L,List.pairwise_singleton _ _,fun y hy z hz=>?_⟩
    simp at hz;subst hz;exact hlt' y hy
   ·exact lg.asc K
  ·refine Aa fun nY=>?_
   split at hy
   ·rcases List.mem_append.mp hy with hy|hy
    ·refine nY ?_;clear nY
     exact lg.sub L y hy
    ·refine nY ?_;clear nY
     simp at hy;subst hy;simp
   ·refine nY ?_;clear nY
    exact lg.sub K y hy
  ·split
   ·rename_i hKL
    refine Aa fun nY=>?_
    subst hKL
    rcases hdn with hdn | ⟨rfl,rfl⟩
    ·refine nY ?_;clear nY
     exact List.mem_append_left _ (lg.all y o' K hdn hyo)
    ·refine nY ?_;clear nY
     simp
   ·rename_i hKL
    refine Aa fun nY=>?_
    rcases hdn with hdn | ⟨rfl,rfl⟩
    ·refine nY ?_;clear nY
     exact lg.all y o' K hdn hyo
    ·rw[hv]at hyo;cases hyo;exact absurd rfl hKL
 refine Aa fun nY=>?_
 by_cases hTe:T L = []
 ·refine nY ?_;clear nY
  rw[decide_eq_true hTe]
  simp only[if_true]
  have:=app (.inl hTe)
  (try dsimp only)
  simpa only[J3,J2,Jz,B0,Jg,List.getElem?_cons_zero,List.getElem?_cons_succ,Jx,Jw]using this
 ·refine nY ?_;clear nY
  rw[decide_eq_false hTe]
  simp only[Bool.false_eq_true,if_false]
  refine Aa fun nY=>?_
  obtain⟨y,hy1,hy2,hy3⟩:=Ab0 hTe
  have hlp:0<(T L).length:=List.length_pos_iff.mpr hTe
  refine nY ?_;clear nY
  refine Adr (x:= .int y) hx4 (by exact(Int.natCast_nonneg _)) (by rw[List.length_map];exact Agx hlp) (by rw[List.length_map,show ((-1:Int)+(T L).length).toNat=(T L).length-1 by exact Agy,List.getElem?_map,hy1];rfl) ?_
  (try dsimp only);(try simp (disch:=first|decide|omega) only[Zj,Bl])
  refine Aa fun nY=>?_
  by_cases hyo:y=one
  ·refine nY ?_;clear nY
   rw[decide_eq_true hyo]
   simp only[Bool.not_true,Bool.false_eq_true,if_false]
   refine hK _ _ _ _ t4 hk3 ⟨lg.src,lg.asc,lg.sub,fun x' o' K hdn hyo'=>?_⟩ hb4 ⟨httb,hnb⟩
   refine Aa fun nY=>?_
   rcases hdn with hdn | ⟨rfl,rfl⟩
   ·refine nY ?_;clear nY
    exact lg.all x' o' K hdn hyo'
   ·rw[hv]at hyo';cases hyo'
    refine nY ?_;clear nY
    rw[<-hyo];exact hy2
  ·refine nY ?_;clear nY
   rw[decide_eq_false hyo]
   simp only[Bool.not_false,if_true]
   have hyl:y<one:=by
    refine Aa fun nY=>?_
    rcases List.mem_append.mp (lg.sub L y hy2)with h|h
    ·refine nY ?_;clear nY
     exact hlt y h
    ·simp at h;exact absurd h hyo
   have:=app (.inr fun z hz=>by have:=hy3 (lg.asc L) z hz;exact(Int.lt_of_le_of_lt this hyl))
   (try dsimp only)
   simpa only[J3,J2,Jz,B0,Jg,List.getElem?_cons_zero,List.getElem?_cons_succ,Jx,Jw]using this
set_option linter.all false
variable {G:Aw} {n:Nat} {H H':AH} {Q:Ah} {E:EP} {C:CS} {ρ:Ak}
theorem Ad2{A:Nat->Nat->Bool}:∀ {l:List Int} {x y:Int},fu A l=some (x,y)->(Ii fun(i j:Nat)=>Td (i<j) (l[i]? = some x) (l[j]? = some y) (A x.toNat y.toNat=false)):=by
 intro l
 induction l with
 | nil=>exact fun h=>absurd h.symm (Option.some_ne_none _)
 | cons z r ih=>
   intro x y h
   rw[Ot]at h
   cases e:r.find? (fun y=> !A z.toNat y.toNat)with
   | some u=>
     rw[e]at h
     cases h
     obtain⟨j,hj⟩:=List.mem_iff_getElem?.mp (List.mem_of_find?_eq_some e)
     exact⟨0,j+1,Nat.succ_pos _,rfl,hj,(Bool.not_eq_true' _).mp (List.find?_some (p:=fun y:Int=> !A z.toNat y.toNat) e)⟩
   | none=>
     rw[e]at h
     obtain⟨i,j,h1,h2,h3,h4⟩:=ih h
     exact⟨i+1,j+1,Nat.succ_lt_succ h1,h2,h3,h4⟩
theorem Wi{m:Nat}{A:Nat->Nat->Bool}{i:Nat}:(Am m A i).Pairwise (· < ·):=S0 _
theorem Ab1(F:Y8 G){w m:Nat}{A:Nat->Nat->Bool}{p:Int}(g:Gr A)(hm:m<=60)(hW:Cs H w m A)(h0:0<=p/\p<m)
 (qn:∀H',Ad H H'->¬Hw m A p->Q .none H')
 (qs:∀a l H',Ad H H'->H a=none->LI H' a l->Hw m A p->l.length<=61->(∀x∈l,0<=x/\x<(m:Int))->Q (.ref a) H'):Af G (n+5) "ring_at" [.ref w,.int p] H Q E:=by
 have F1:=F.fns2.fns
 have B:=F1.base
 refine Aj F.ringAt rfl ?_
 simp only[Rd,List.map,List.replicate,List.cons_append,List.nil_append]
 refine C3 (fun nr=>[some (.ref w),some (.int p),some (.ref nr),none,none,none,none,none,none,none,none]) (fun nr H₁=>(Ad H H₁)/\(LI H₁ nr (Am m A p.toNat))) (fun N hN=>?_) ?_
 ·refine Aa fun nY=>?_
  obtain⟨d,rs,w1,w2,w3⟩:=hW
  refine nY ?_;clear nY
  simp (disch:=first|decide|omega) only[Jg,Jw,Jx,Jy,Ag,Ai,Bo,Bp,Cu,true_and,A4,Dv,Dw,Fo,w1,w2,F1.beside]
  exact P8 B F1.beside ⟨d,rs,w1,w2,w3⟩ h0.1 h0.2 fun a H₁ e1 _ h=>hN a _ ⟨e1,h⟩
 rintro nr H₁ ⟨e1,hnr⟩
 have hnl:(Am m A p.toNat).length<=m:=Ff
 refine Qw (fun pc ep=>[some (.ref w),some (.int p),some (.ref nr),some (.ref pc),none,none,none,none,none,none,none]) (fun pc ep H₂=>E6 (Ad H₁ H₂) (H₂ pc=some (.dict ep)) (Us m A (Am m A p.toNat ++ [p]) ep)) (fun N hN=>?_) ?_
 ·simp (disch:=first|decide|omega) only[Jg,Jl,Jp,Ju,Jw,Jx,Jy,Ag,Ai,Bo,Bp,Cu,true_and,F.pieces]
  refine Ab fun s1 H₂ e2 _ v2=>?_
  (try dsimp only)
  refine C4 (hnr.ext e2) v2 (by simp;exact(Nat.le_trans (Nat.le_trans hnl hm) (by decide))) ?_
  refine Ab fun s2 H₃ e3 _ v3=>?_
  (try dsimp only)
  have v3':LI H₃ s2 (Am m A p.toNat ++ [p]):=by unfold LI;rw[v3];simp
  exact Aby F g hm (hW.ext ((e1.trans e2).trans e3)) v3' fun a es H₄ e4 _ h1 h2=>hN a es _ ⟨(e2.trans e3).trans e4,h1,h2⟩
 rintro pc ep H₂ hP40
 refine Aa fun nY=>?_
 obtain⟨e2,hpc,pk⟩:=hP40
 have hnr2:=hnr.ext e2
 have hepl:∀x v,dget ep x=some v->∃l:Int,v = .int l/\(0<=l/\l<(m:Int)):=fun x v h=>by
  refine Aa fun nY=>?_
  obtain⟨_,l,rfl,hl,_⟩:=pk.key x v h
  refine nY ?_;clear nY
  exact⟨l,rfl,hl.2⟩
 refine nY ?_;clear nY
 refine C3 (fun tt=>[some (.ref w),some (.int p),some (.ref nr),some (.ref pc),some (.ref tt),none,none,none,none,none,none]) (fun tt H₃=>U0 H₂ H₃ tt [] (fun _=>[])) (fun N hN=>?_) ?_
 ·refine Bw (Tj ?_)
  exact Ab fun tt H₃ e3 n3 v3=>hN tt _ ⟨e3,n3,v3,List.Pairwise.nil,fun _ _ h=>absurd h.symm (Option.some_ne_none _),fun _ _ _ h=>absurd h.symm (Option.some_ne_none _),fun _ _=>rfl⟩
 rintro tt H₃ t3
 refine Ah2 (fun es T r5 r6 r7=>[some (.ref w),some (.int p),some (.ref nr),some (.ref pc),some (.ref tt),r5,r6,r7,none,none,none]) (fun es T r5 r6 r7 H₄=>E6 (U0 H₂ H₄ tt es T) ((∀L∈es.map (fun e:Int×V=>e.1),0<=L/\L<(m:Int))) (Abz m A ep T (fun x o=>x∈Am m A p.toNat/\o∈Am m A x.toNat) (Am m A p.toNat))) (fun N hN=>?_) ?_
 ·refine Oz ?_
  simp (disch:=first|decide|omega) only[Jg,Ag,Ai]
  refine Ao (t3.ext _ _ hnr2) ?_
  refine Ui (fun i es T r5 r6 r7=>[some (.ref w),some (.int p),some (.ref nr),some (.ref pc),some (.ref tt),r5,r6,r7,none,none,none]) (fun i es T r5 r6 r7 H₄=>E6 (U0 H₂ H₄ tt es T) ((∀L∈es.map (fun e:Int×V=>e.1),0<=L/\L<(m:Int))) (Abz m A ep T (fun x o=>x∈(Am m A p.toNat).take i/\o∈Am m A x.toNat) ((Am m A p.toNat).take i))) [] _ _ _ _ rfl ⟨t3,fun _ h=>absurd h List.not_mem_nil,⟨fun _ _ h=>absurd h List.not_mem_nil,fun _=>List.Pairwise.nil,fun _ _ h=>absurd h List.not_mem_nil,fun _ _ _ h=>absurd h.1 List.not_mem_nil⟩⟩ ?_ ?_ ?_
  ·rintro i es T r5 r6 r7 H₄ ⟨t,_⟩;exact t.ext _ _ hnr2
  ·rintro i v es T r5 r6 r7 H₄ K hv hP41 hK
   refine Aa fun nY=>?_
   obtain⟨t,hk,lg⟩:=hP41
   obtain⟨one,hone,rfl⟩:=LI.at_ (a:=nr) hv
   have h1m:=Ar.mp (List.mem_of_getElem? hone)
   have hlt:∀x∈(Am m A p.toNat).take i,x<one:=fun x hx=>by
    refine Aa fun nY=>?_
    obtain⟨j,hj,rfl⟩:=List.mem_take_iff_getElem.mp hx
    obtain⟨hi,rfl⟩:=List.getElem?_eq_some_iff.mp hone
    refine nY ?_;clear nY
    exact List.pairwise_iff_getElem.mp Wi j i (Nat.lt_of_lt_of_le hj (Nat.min_le_right _ _)) hi (Nat.lt_of_lt_of_le hj (Nat.min_le_left _ _))
   refine nY ?_;clear nY
   have htk:(Am m A p.toNat).take (i+1)=(Am m A p.toNat).take i ++ [one]:=by rw[List.take_add_one,hone];rfl
   refine Aa fun nY=>?_
   obtain⟨d,rs,w1,w2,w3⟩:=(hW.ext (e1.trans e2)).ext t.ext
   refine nY ?_;clear nY
   simp only[Lx,J3,J2,List.set_cons_succ,List.set_cons_zero]
   refine Oz ?_
   simp (disch:=first|decide|omega) only[Jg,Jw,Jx,Ag,Ai,Cu,true_and,A4,Dv,Dw,Fo,w1,w2,F1.beside]
   refine P8 B F1.beside ⟨d,rs,w1,w2,w3⟩ h1m.1 h1m.2.1 fun b H₅ e5 nb hb=>?_
   refine Ao hb ?_
   have htb:tt≠b:=fun z=>by rw[<-z,t.at_]at nb;cases nb
   have hxb:∀L x,dget es L=some (.ref x)->x≠b:=fun L x hL z=>by
    refine Aa fun nY=>?_
    obtain⟨y,hy,_,_,hy4⟩:=t.val L _ hL
    cases hy
    unfold LI at hy4
    rw[z,nb]at hy4;cases hy4
   refine M2 (fun j ρ H₆=>(Ex4 fun es T r6 r7=>An6 (ρ = [some (.ref w),some (.int p),some (.ref nr),some (.ref pc),some (.ref tt),some (.int one),r6,r7,none,none,none]) (U0 H₂ H₆ tt es T) ((∀L∈es.map (fun e:Int×V=>e.1),0<=L/\L<(m:Int))) (Abz m A ep T (fun x o=>(x∈(Am m A p.toNat).take i/\o∈Am m A x.toNat)\/(x=one/\o∈(Am m A one.toNat).take j)) ((Am m A p.toNat).take i ++ [one])) (LI H₆ b (Am m A one.toNat)) (∀L x,dget es L=some (.ref x)->x≠b)))
    ⟨es,T,_,_,rfl,t.mono e5,hk,⟨lg.src,lg.asc,fun L x hx=>List.mem_append_left _ (lg.sub L x hx),fun x o L hd ho=>?_⟩,hb,hxb⟩ ?_ ?_ ?_
   ·refine Aa fun nY=>?_
    rcases hd with hd|hd
    ·refine nY ?_;clear nY
     exact lg.all x o L hd ho
    ·simp at hd
   ·rintro j ρ H₆ ⟨es,T,r6,r7,rfl,t,_,_,hb6,_⟩;exact hb6
   ·rintro j v ρ H₆ K' hv hP42 hK'
    refine Aa fun nY=>?_
    obtain⟨es,T,r6,r7,rfl,t,hk,lg,hb6,hxb⟩:=hP42
    obtain⟨o,ho,rfl⟩:=LI.at_ (a:=b) hv
    have hom:=Ar.mp (List.mem_of_getElem? ho)
    refine nY ?_;clear nY
    simp only[List.set_cons_succ,List.set_cons_zero]
    refine Y9 hpc hepl t hk hm lg hlt ⟨h1m.1,h1m.2.1⟩ hom.2.2 (fun _ _=>⟨htb,hxb⟩) hb6 fun r7 es' T' H₇ t7 hk7 lg7 hb7 hxb7=>?_
    refine hK' _ _ ⟨es',T',_,_,rfl,t7,hk7,⟨lg7.src,lg7.asc,lg7.sub,fun x y L hd hy=>lg7.all x y L ?_ hy⟩,hb7,hxb7.2⟩
    refine Aa fun nY=>?_
    rcases hd with hd | ⟨rfl,hd⟩
    ·refine nY ?_;clear nY
     exact .inl (.inl hd)
    ·rw[List.take_add_one,ho]at hd
     rcases List.mem_append.mp hd with hd|hd
     ·refine nY ?_;clear nY
      exact .inl (.inr ⟨rfl,hd⟩)
     ·refine nY ?_;clear nY
      simp at hd;exact .inr ⟨rfl,hd⟩
   ·rintro ρ H₆ hP43
    refine Aa fun nY=>?_
    obtain⟨es,T,r6,r7,rfl,t,hk,lg,hb6,hxb⟩:=hP43
    rw[List.length_map,List.take_of_length_le (Nat.le_refl _)]at lg
    refine nY ?_;clear nY
    refine hK es T _ _ _ _ ⟨t,hk,⟨lg.src,lg.asc,?_,fun x o L hd ho=>lg.all x o L ?_ ho⟩⟩
    ·rw[htk];exact lg.sub
    ·rw[htk]at hd
     refine Aa fun nY=>?_
     rcases List.mem_append.mp hd.1 with h|h
     ·refine nY ?_;clear nY
      exact .inl ⟨h,hd.2⟩
     ·refine nY ?_;clear nY
      simp at h;subst h;exact .inr ⟨rfl,hd.2⟩
  ·rintro es T r5 r6 r7 H₄ hP44
   refine Aa fun nY=>?_
   obtain⟨t,hk,lg⟩:=hP44
   rw[List.length_map,List.take_of_length_le (Nat.le_refl _)]at lg
   refine nY ?_;clear nY
   exact hN es T _ _ _ _ ⟨t,hk,lg⟩
 rintro es T r5 r6 r7 H₄ hP45
 refine Aa fun nY=>?_
 obtain⟨t,hk,lg⟩:=hP45
 have hesl:es.length<64:=by
  have:=Fh t.nodup hk
  rw[List.length_map]at this
  exact Acd hm this
 refine nY ?_;clear nY
 refine Ae (Oz ?_)
 simp (disch:=first|decide|omega) only[Jb,Jg,Jq,Jw,Jx,J0,J2,J3,Ag,Ai,Xk t.at_ hesl]
 refine Ab fun sl H₅ e5 n5 v5=>?_
 (try dsimp only)
 refine Ao v5 ?_
 have tin:∀L x,x∈T L->0<=x/\x<(m:Int):=fun L x hx=>(lg.src L x hx).1
 refine F6 (fun i r8 r9 r10=>[some (.ref w),some (.int p),some (.ref nr),some (.ref pc),some (.ref tt),r5,r6,r7,r8,r9,r10]) (fun i r8 r9 r10 H₆=>(Ad H₅ H₆)/\(∀L∈(Bd (es.map (fun e:Int×V=>e.1))).take i,fu A (T L)=none)) _ _ _ rfl ⟨Ad.refl,fun _ h=>absurd h List.not_mem_nil⟩ ?_ ?_ ?_
 ·rintro i r8 r9 r10 H₆ ⟨e6,_⟩;exact e6 _ _ v5
 ·rintro i v r8 r9 r10 H₆ K hv ⟨e6,hno⟩ hK
  obtain⟨L,hL,rfl⟩:=LI.at_ (a:=sl) hv
  have hLm:L∈es.map (·.1):=Dc.mp (List.mem_of_getElem? hL)
  have:(dget es L).isSome=true:=by rw[Fl];simpa using hLm
  refine Aa fun nY=>?_
  obtain⟨v,hv⟩:=Option.isSome_iff_exists.mp this
  obtain⟨x,rfl,hx1,hx2,hx3⟩:=t.val L v hv
  have e46:=e5.trans e6
  have eH:Ad H H₆:=((e1.trans e2).trans t.ext).trans e46
  refine nY ?_;clear nY
  simp only[Lz,List.set_cons_succ,List.set_cons_zero]
  refine C3 (fun v9=>[some (.ref w),some (.int p),some (.ref nr),some (.ref pc),some (.ref tt),r5,r6,r7,some (.int L),some v9,r10]) (fun v9 H₇=>Ad H₆ H₇/\match fu A (T L)with|none=>v9 = .none|some (y,z)=>∃a,v9 = .ref a/\H₇ a=some (.tuple [.int y,.int z])) (fun N hN=>?_) ?_
  ·simp (disch:=first|decide|omega) only[Jg,Jp,Js,Jw,Jx,Jy,Ag,Ai,Bo,Bp,Cu,true_and,F1.untied,Wh (e46 _ _ t.at_) hv]
   refine Ej B F1.untied (hW.ext eH) (hx3.ext e46) (tin L) fun H₇ e7=>?_
   cases hfu:fu A (T L)with
   | none=>
     refine hN _ _ ⟨e7,?_⟩
     rw[hfu]
   | some pr=>
     obtain⟨y,z⟩:=pr
     intro a ha
     refine hN _ _ ⟨e7.trans (Ad.upd ha),?_⟩
     rw[hfu]
     exact⟨a,rfl,Ac⟩
  rintro v9 H₇ ⟨e7,h9⟩
  refine Ae (A5 ?_)
  cases hfu:fu A (T L)with
  | none=>
    rw[hfu]at h9
    simp only at h9
    subst h9
    simp (disch:=first|decide|omega) only[Jb,Je,Jg,Jl,Jm,Jp,Js,Ju,Jw,Jx,Jy,J0,J2,J3,Jbk,Bl,Ag,Ai,Bo,Bp]
    simp only[Bool.false_eq_true,if_false]
    refine hK _ _ _ _ ⟨e6.trans e7,fun L' hL'=>?_⟩
    rw[List.take_add_one,hL]at hL'
    refine Aa fun nY=>?_
    rcases List.mem_append.mp hL' with h|h
    ·refine nY ?_;clear nY
     exact hno L' h
    ·refine nY ?_;clear nY
     simp at h;rw[h];exact hfu
  | some pr=>
    refine Aa fun nY=>?_
    obtain⟨y,z⟩:=pr
    rw[hfu]at h9
    obtain⟨a9,rfl,h9⟩:=h9
    have e47:=e46.trans e7
    have eH7:=eH.trans e7
    have hnr7:=(hnr2.ext t.ext).ext e47
    obtain⟨i1,i2,hi12,hy,hz,hyz⟩:=Ad2 hfu
    have hym:=List.mem_of_getElem? hy
    have hzm:=List.mem_of_getElem? hz
    have hyn:=Ar.mp (lg.sub L y hym)
    have hzn:=Ar.mp (lg.sub L z hzm)
    have hyz':y≠z:=fun q=>by
     subst q
     have:=Dk ((lg.asc L).imp fun h=>(Int.ne_of_lt h)) hy hz
     exact Nat.lt_irrefl _ (Nat.lt_of_lt_of_eq hi12 this.symm)
    obtain⟨_,u,hu1,hu2⟩:=lg.src L y hym
    obtain⟨_,v,hv1,hv2⟩:=lg.src L z hzm
    obtain⟨hu3,l1,hl1,hl2,hl3⟩:=pk.key u _ hu2
    obtain⟨hv3,l2,hl4,hl5,hl6⟩:=pk.key v _ hv2
    cases hl1;cases hl4
    have hring:Hw m A p:=⟨y,z,u,v,⟨hyn.1,hyn.2.1⟩,⟨hzn.1,hzn.2.1⟩,hu3.2,hv3.2,hyn.2.2,hzn.2.2,hyz',hyz,hu1,hv1,hu3.1,hv3.1,(hl3.symm g hl2).trans hl6⟩
    refine nY ?_;clear nY
    simp (disch:=first|decide|omega) only[Jb,Je,Jg,Jl,Jm,Jp,Js,Ju,Jw,Jx,Jy,J0,J2,J3,Jbl,Bl,Ag,Ai,Bo,Bp]
    simp only[if_true]
    refine hvK ?_
    simp (disch:=first|decide|omega) only[Jg,J4,Dn,Dp,Ag,Ai,List.replicate]
    refine Ao hnr7 ?_
    refine⟨by simp[Bq];exact(Nat.le_trans (Nat.le_trans hnl hm) (by decide)),Dq (p:=fun o=> !decide (o=y\/o=z)) hnr7 (fun o ho K' hK'=>?_) ?_⟩
    ·have hmd:U5 (.int o) [.int y,.int z]=some (decide (o=y\/o=z)):=by
      have:=P1 o [y,z]
      simpa using this
     simp (disch:=first|decide|omega) only[Jg,Jm,Bl,Ag,Ai,Ly,Abo h9 hmd]
     split
     ·rename_i h;rw[if_pos h]at hK';exact hK'
     ·rename_i h;rw[if_neg h]at hK';exact hK'
    refine Ab fun s1 H₈ e8 _ v8=>?_
    (try dsimp only)
    generalize hsh:(Am m A p.toNat).filter (fun o=> !decide (o=y\/o=z))=shut at v8
    have hshl:shut.length<=m:=by rw[<-hsh];exact Nat.le_trans (List.length_filter_le _ _) hnl
    refine Ab fun s2 H₉ e9 n9 v9=>?_
    (try dsimp only)
    refine⟨by rw[F.way];rfl,?_⟩
    refine F4 (x:= .int y) ((e8.trans e9) _ _ h9) (by decide) rfl ?_
    (try dsimp only)
    refine F4 (x:= .int z) ((e8.trans e9) _ _ h9) (by decide) rfl ?_
    (try dsimp only)
    refine Ab fun s3 H₁₀ e10 _ v10=>?_
    (try dsimp only)
    refine C4 ((e9.trans e10) _ _ v8) v10 (by simp;exact(Nat.le_trans (Nat.le_trans hshl hm) (by decide))) ?_
    refine Ab fun s4 H₁₁ e11 _ v11=>?_
    (try dsimp only)
    have e711:=((e8.trans e9).trans e10).trans e11
    have v11':LI H₁₁ s4 (shut ++ [p]):=by unfold LI;rw[v11];simp
    refine Aa fun nY=>?_
    have hyp:y≠p:=fun q=>by rw[q,g.irr]at hyn;cases hyn.2.2
    have hzp:z≠p:=fun q=>by rw[q,g.irr]at hzn;cases hzn.2.2
    have hys:y∉shut ++ [p]:=fun q=>by
     refine Aa fun nY=>?_
     rcases List.mem_append.mp q with q|q
     ·rw[<-hsh,List.mem_filter]at q;simp at q
     ·refine nY ?_;clear nY
      simp at q;exact hyp q
    have hzs:z∉shut ++ [p]:=fun q=>by
     refine Aa fun nY=>?_
     rcases List.mem_append.mp q with q|q
     ·rw[<-hsh,List.mem_filter]at q;simp at q
     ·refine nY ?_;clear nY
      simp at q;exact hzp q
    have hsub:∀o∈shut ++ [p],o∈Am m A p.toNat ++ [p]:=fun o ho=>by
     refine Aa fun nY=>?_
     rcases List.mem_append.mp ho with ho|ho
     ·refine nY ?_;clear nY
      rw[<-hsh,List.mem_filter]at ho;exact List.mem_append_left _ ho.1
     ·refine nY ?_;clear nY
      exact List.mem_append_right _ ho
    have hrch:Of m A (shut ++ [p]) y z:=by
     have r1:Of m A (shut ++ [p]) y u:= .step (.refl _) hu1 (fun q=>hu3.1 (hsub u q)) hu3.2.1 hu3.2.2
     have r2:Of m A (shut ++ [p]) u v:=((hl3.symm g hl2).trans hl6).mono hsub
     exact .step (r1.trans r2) (by rw[g.symm];exact hv1) hzs hzn.1 hzn.2.1
    refine nY ?_;clear nY
    refine Ah8 F1 F.steps F.way g hm (hW.ext (eH7.trans e711)) v11' ⟨hyn.1,hyn.2.1⟩ ⟨hzn.1,hzn.2.1⟩ (fun H₁₂ e12 hbad=>?_) (fun a path H₁₂ e12 n12 v12 _ _ way=>?_)
    ·exfalso
     refine Aa fun nY=>?_
     rcases hbad with h|h|h
     ·refine nY ?_;clear nY
      exact hys h
     ·refine nY ?_;clear nY
      exact hzs h
     ·refine nY ?_;clear nY
      exact h hrch
    ·have hpl:path.length<=m:=Fh way.nodup way.in_
     have v9':LI H₁₂ s2 [p]:=((e10.trans e11).trans e12) _ _ v9
     (try dsimp only)
     (refine C4 v9' v12 (by simp;exact(Nat.le_trans (Nat.add_le_add_left (Nat.le_trans hpl hm) 1) (by decide))) ?_;rw[<-List.map_append])
     refine Ab fun rr H₁₃ e13 n13 v13=>qs rr ([p]++path) H₁₃ ((eH7.trans e711).trans (e12.trans e13)) ?_ v13 hring (by simp;exact(Nat.le_trans hpl hm)) fun o ho=>?_
     ·exact((eH7.trans e711).trans e12).isNone n13
     ·refine Aa fun nY=>?_
      rcases List.mem_append.mp ho with ho|ho
      ·refine nY ?_;clear nY
       simp at ho;rw[ho];exact h0
      ·refine nY ?_;clear nY
       exact way.in_ o ho
 ·rintro r8 r9 r10 H₆ ⟨e6,hno⟩
  rw[List.length_map,List.take_of_length_le (Nat.le_refl _)]at hno
  refine qn H₆ ((((e1.trans e2).trans t.ext).trans e5).trans e6) ?_
  rintro hP46
  refine Aa fun nY=>?_
  obtain⟨a,b,u,v,ha,hb,hu,hv,hpa,hpb,hab,hnab,hau,hbv,hus,hvs,hr⟩:=hP46
  have hpa':a∈Am m A p.toNat:=Ar.mpr ⟨ha.1,ha.2,hpa⟩
  have hpb':b∈Am m A p.toNat:=Ar.mpr ⟨hb.1,hb.2,hpb⟩
  obtain⟨L,hL⟩:=pk.lab u hus hu.1 hu.2
  have hLv:dget ep v=some (.int L):=by
   clear hbv hvs hv
   induction hr with
   | refl=>exact hL
   | step r ad s z0 z1 ih=>
     have hy:=r.in_ ⟨hus,hu⟩
     rw[<-pk.same _ _ hy.1 hy.2.1 hy.2.2 s z0 z1 ad];exact ih
  have haT:=lg.all a u L ⟨hpa',Ar.mpr ⟨hu.1,hu.2,hau⟩⟩ hL
  have hbT:=lg.all b v L ⟨hpb',Ar.mpr ⟨hv.1,hv.2,hbv⟩⟩ hLv
  have hLk:L∈es.map (·.1):=by
   cases hd:dget es L with
   | none=>rw[t.non L hd]at haT;simp at haT
   | some v=>
     have:(dget es L).isSome=true:=by rw[hd];rfl
     rw[Fl]at this
     simpa using this
  have hfn:=Ou.mp (hno L (Dc.mpr hLk))
  obtain⟨i,hi⟩:=List.mem_iff_getElem?.mp haT
  obtain⟨j,hj⟩:=List.mem_iff_getElem?.mp hbT
  obtain⟨hil,hi'⟩:=List.getElem?_eq_some_iff.mp hi
  obtain⟨hjl,hj'⟩:=List.getElem?_eq_some_iff.mp hj
  rcases Nat.lt_trichotomy i j with q|q|q
  ·have:=List.pairwise_iff_getElem.mp hfn i j hil hjl q
   rw[hi',hj',hnab]at this;cases this
  ·refine nY ?_;clear nY
   subst q;exact hab (hi'.symm.trans hj')
  ·have:=List.pairwise_iff_getElem.mp hfn j i hjl hil q
   rw[hi',hj',g.symm,hnab]at this;cases this
set_option linter.all false
noncomputable def Wj(A:Nat->Nat->Bool)(l:List Int):Prop:=∀a∈l,∀b∈l,a≠b->A a.toNat b.toNat=true
theorem M6{A:Nat->Nat->Bool}{l:List Int}(g:Gr A)(hn:l.Nodup):fu A l=none↔Wj A l:=by
 rw[Ou]
 constructor
 ·intro h a ha b hb hab
  obtain⟨i,hi,rfl⟩:=List.mem_iff_getElem.mp ha
  obtain⟨j,hj,rfl⟩:=List.mem_iff_getElem.mp hb
  rcases Nat.lt_trichotomy i j with q|q|q
  ·exact List.pairwise_iff_getElem.mp h i j hi hj q
  ·subst q;exact absurd rfl hab
  ·rw[g.symm];exact List.pairwise_iff_getElem.mp h j i hj hi q
 ·intro h
  rw[List.pairwise_iff_getElem]
  intro i j hi hj hij
  exact h _ (List.getElem_mem _) _ (List.getElem_mem _) (List.pairwise_iff_getElem.mp hn i j hi hj hij)
noncomputable def Sim(A:Nat->Nat->Bool)(U:List Int)(p:Int):Prop:=∀a∈U,∀b∈U,A p.toNat a.toNat=true->A p.toNat b.toNat=true->a≠b->A a.toNat b.toNat=true
theorem Sb{A:Nat->Nat->Bool}{U:List Int}{p:Int}(g:Gr A)(hn:U.Nodup):Fk A U p=true↔Sim A U p:=by
 unfold Fk Oe
 rw[Option.isNone_iff_eq_none,M6 g (hn.filter _)]
 unfold Wj Sim
 constructor
 ·intro h a ha b hb h1 h2 hab
  exact h a (List.mem_filter.mpr ⟨ha,h1⟩) b (List.mem_filter.mpr ⟨hb,h2⟩) hab
 ·intro h a ha b hb hab
  have h1:=List.mem_filter.mp ha
  have h2:=List.mem_filter.mp hb
  exact h a h1.1 b h2.1 h1.2 h2.2 hab
inductive CU(A:Nat->Nat->Bool)(U:List Int)(p:Int):Int->Int->Prop where
 | refl (x:Int):CU A U p x x
 | step {x y z:Int}:CU A U p x y->A y.toNat z.toNat=true->z∈U->z≠p->A p.toNat z.toNat=false->CU A U p x z
theorem CU.trans{A:Nat->Nat->Bool}{U:List Int}{p x y z:Int}(h:CU A U p x y)(h':CU A U p y z):CU A U p x z:=by
 induction h' with
 | refl=>exact h
 | step _ a b c d ih=>exact .step ih a b c d
theorem CU.away{A:Nat->Nat->Bool}{U:List Int}{p x y:Int}(h:CU A U p x y)(hx:x∈U/\x≠p/\A p.toNat x.toNat=false):y∈U/\y≠p/\A p.toNat y.toNat=false:=by
 induction h with
 | refl=>exact hx
 | step _ a b c d _=>exact⟨b,c,d⟩
theorem CU.symm{A:Nat->Nat->Bool}{U:List Int}{p x y:Int}(g:Gr A)(h:CU A U p x y)(hx:x∈U/\x≠p/\A p.toNat x.toNat=false):CU A U p y x:=by
 induction h with
 | refl=>exact .refl _
 | step r a b c d ih=>
   have:=r.away hx
   exact(CU.step (.refl _) (by rw[g.symm];exact a) this.1 this.2.1 this.2.2).trans ih
theorem CU.mono{A:Nat->Nat->Bool}{U W:List Int}{p x y:Int}(hs:∀z∈U,z∈W)(h:CU A U p x y):CU A W p x y:=by
 induction h with
 | refl=>exact .refl _
 | step _ a b c d ih=>exact .step ih a (hs _ b) c d
noncomputable def NoR(A:Nat->Nat->Bool)(U:List Int):Prop:=∀p∈U,∀a∈U,∀b∈U,A p.toNat a.toNat=true->A p.toNat b.toNat=true->a≠b->A a.toNat b.toNat=false->∀u∈U,∀v∈U,
 A a.toNat u.toNat=true->A b.toNat v.toNat=true->u≠p->v≠p->A p.toNat u.toNat=false->A p.toNat v.toNat=false->¬CU A U p u v
theorem NoR.mono{A:Nat->Nat->Bool}{U W:List Int}(hs:∀z∈U,z∈W)(h:NoR A W):NoR A U:=
 fun p hp a ha b hb h1 h2 h3 h4 u hu v hv h5 h6 h7 h8 h9 h10 hc=>h p (hs p hp) a (hs a ha) b (hs b hb) h1 h2 h3 h4 u (hs u hu) v (hs v hv) h5 h6 h7 h8 h9 h10 (hc.mono hs)
theorem Ab2{A:Nat->Nat->Bool}{U:List Int}(hne:U≠[])(T:∀v∈U,(∃x∈U,x≠v/\A v.toNat x.toNat=false)->∃z∈U,z≠v/\A v.toNat z.toNat=false/\Sim A U z):∃z∈U,Sim A U z:=by
 refine Aa fun nY=>?_
 by_cases h:∃v∈U,∃x∈U,x≠v/\A v.toNat x.toNat=false
 ·obtain⟨v,hv,hx⟩:=h
  obtain⟨z,hz,_,_,hs⟩:=T v hv hx
  refine nY ?_;clear nY
  exact⟨z,hz,hs⟩
 ·obtain⟨z,hz⟩:=List.exists_mem_of_ne_nil U hne
  refine nY ?_;clear nY
  refine⟨z,hz,fun a ha b hb _ _ hab=>?_⟩
  cases hA:A a.toNat b.toNat with
  | true=>rfl
  | false=>exact absurd ⟨a,ha,b,hb,Ne.symm hab,hA⟩ h
theorem Za{A:Nat->Nat->Bool}(g:Gr A):∀(n:Nat) (U:List Int),U.length<=n->NoR A U->∀v∈U,(∃x∈U,x≠v/\A v.toNat x.toNat=false)->∃z∈U,z≠v/\A v.toNat z.toNat=false/\Sim A U z:=by
 intro n
 induction n with
 | zero=>
   intro U hl _ v hv
   have:U = []:=List.length_eq_zero_iff.mp (Nat.eq_zero_of_le_zero hl)
   rw[this]at hv;cases hv
 | succ n ih=>
   rintro U hl hN v hv hP47
   refine Aa fun nY=>?_
   obtain⟨x,hx,hxv,hxa⟩:=hP47
   have hx0:x∈U/\x≠v/\A v.toNat x.toNat=false:=⟨hx,hxv,hxa⟩
   let inC:Int->Prop:=fun z=>CU A U v x z
   let inS:Int->Prop:=fun s=>A v.toNat s.toNat=true/\∃c,inC c/\A s.toNat c.toNat=true
   have cC:∀c,inC c->c∈U/\c≠v/\A v.toNat c.toNat=false:=fun c hc=>CU.away hc hx0
   let W:=U.filter fun z=> @decide (inC z\/inS z) (Classical.propDecidable _)
   let CC:=U.filter fun z=> @decide (inC z) (Classical.propDecidable _)
   have hWm:∀z,z∈W↔z∈U/\(inC z\/inS z):=fun z=>by simp[W]
   have hCm:∀z,z∈CC↔inC z:=fun z=>by
    simp only[CC,List.mem_filter,decide_eq_true_eq]
    exact⟨fun h=>h.2,fun h=>⟨(cC z h).1,h⟩⟩
   have hvW:¬(inC v\/inS v):=by
    rintro(h|h)
    ·exact(cC v h).2.1 rfl
    ·have:=h.1;rw[g.irr]at this;cases this
   have hWl:W.length<=n:=by
    have:W.length<U.length:=List.length_filter_lt_length_iff_exists.mpr ⟨v,hv,by simpa using hvW⟩
    exact Nat.le_of_lt_succ (Nat.lt_of_lt_of_le this hl)
   have hCl:CC.length<=n:=by
    have:CC.length<U.length:=List.length_filter_lt_length_iff_exists.mpr ⟨v,hv,by simpa using fun h=>hvW (.inl h)⟩
    exact Nat.le_of_lt_succ (Nat.lt_of_lt_of_le this hl)
   have hWN:NoR A W:=hN.mono fun z hz=>((hWm z).mp hz).1
   have hCN:NoR A CC:=hN.mono fun z hz=>(cC z ((hCm z).mp hz)).1
   have hSc:∀s∈U,∀s'∈U,inS s->inS s'->s≠s'->A s.toNat s'.toNat=true:=by
    rintro s hs s' hs' hP48 hP49 hne
    refine Aa fun nY=>?_
    obtain⟨h1,c,hc,h2⟩:=hP48
    obtain⟨h1',c',hc',h2'⟩:=hP49
    refine nY ?_;clear nY
    cases hA:A s.toNat s'.toNat with
    | true=>rfl
    | false=>
      exfalso
      have k:=cC c hc
      have k':=cC c' hc'
      exact hN v hv s hs s' hs' h1 h1' hne hA c k.1 c' k'.1 h2 h2' k.2.1 k'.2.1 k.2.2 k'.2.2 ((CU.symm g hc hx0).trans hc')
   have hcl:∀c,inC c->∀y∈U,A c.toNat y.toNat=true->y∈W:=by
    intro c hc y hy ha
    rw[hWm]
    refine⟨hy,?_⟩
    have k:=cC c hc
    refine Aa fun nY=>?_
    by_cases hyv:y=v
    ·subst hyv;rw[g.symm,k.2.2]at ha;cases ha
    ·refine nY ?_;clear nY
     cases hA:A v.toNat y.toNat with
     | true=>exact .inr ⟨hA,c,hc,by rw[g.symm];exact ha⟩
     | false=>exact .inl (CU.step hc ha hy hyv hA)
   have key:∃z,inC z/\Sim A W z:=by
    refine Aa fun nY=>?_
    by_cases h:∃s∈U,inS s/\∃y∈W,y≠s/\A s.toNat y.toNat=false
    ·obtain⟨s,hs,hsS,y,hy,hys,hya⟩:=h
     obtain⟨z,hz,hzs,hza,hsim⟩:=ih W hWl hWN s ((hWm s).mpr ⟨hs,.inr hsS⟩) ⟨y,hy,hys,hya⟩
     have hzW:=(hWm z).mp hz
     rcases hzW.2 with hc|hS
     ·refine nY ?_;clear nY
      exact⟨z,hc,hsim⟩
     ·have:=hSc s hs z hzW.1 hsS hS (Ne.symm hzs)
      rw[hza]at this;cases this
    ·have hcn:CC≠[]:=List.ne_nil_of_mem ((hCm x).mpr (.refl _))
     obtain⟨z,hz,hsim⟩:=Ab2 hcn (ih CC hCl hCN)
     have hzC:=(hCm z).mp hz
     have univ:∀s∈W,inS s->∀y∈W,y≠s->A s.toNat y.toNat=true:=fun s hs hsS y hy hys=>by
      cases hA:A s.toNat y.toNat with
      | true=>rfl
      | false=>exact absurd ⟨s,((hWm s).mp hs).1,hsS,y,hy,hys,hA⟩ h
     refine nY ?_;clear nY
     refine⟨z,hzC,fun a ha b hb h1 h2 hab=>?_⟩
     refine Aa fun nY=>?_
     rcases((hWm a).mp ha).2 with hac|haS
     ·rcases((hWm b).mp hb).2 with hbc|hbS
      ·refine nY ?_;clear nY
       exact hsim a ((hCm a).mpr hac) b ((hCm b).mpr hbc) h1 h2 hab
      ·refine nY ?_;clear nY
       rw[g.symm];exact univ b hb hbS a ha hab
     ·refine nY ?_;clear nY
      exact univ a ha haS b hb (Ne.symm hab)
   obtain⟨z,hzC,hsim⟩:=key
   have k:=cC z hzC
   refine nY ?_;clear nY
   refine⟨z,k.1,k.2.1,k.2.2,fun a ha b hb h1 h2 hab=>?_⟩
   exact hsim a (hcl z hzC a ha h1) b (hcl z hzC b hb h2) h1 h2 hab
theorem Ah9{m:Nat}{A:Nat->Nat->Bool}(g:Gr A){t:List Int}(hn:t.Nodup)(hin:∀x∈t,0<=x/\x<(m:Int))(hno:∀p∈t,¬Hw m A p)(hst:ltg A t=none):t = []:=by
 refine Classical.byContradiction fun hne=>?_
 have hN:NoR A t:=by
  intro p hp a ha b hb h1 h2 h3 h4 u hu v hv h5 h6 h7 h8 h9 h10 hc
  have out:∀z,z∈t->z≠p->A p.toNat z.toNat=false->z∉Am m A p.toNat ++ [p]:=fun z hz hzp hza q=>by
   rcases List.mem_append.mp q with q|q
   ·have:=Ar.mp q;rw[hza]at this;cases this.2.2
   ·simp at q;exact hzp q
  refine hno p hp ⟨a,b,u,v,hin a ha,hin b hb,hin u hu,hin v hv,h1,h2,h3,h4,h5,h6,out u hu h7 h9,out v hv h8 h10,?_⟩
  clear h6 h8 h10 hv
  induction hc with
  | refl=>exact .refl _
  | step _ a1 a2 a3 a4 ih=>exact .step ih a1 (out _ a2 a3 a4) (hin _ a2).1 (hin _ a2).2
 obtain⟨z,hz,hs⟩:=Ab2 hne (Za g t.length t (Nat.le_refl _) hN)
 have:=List.find?_eq_none.mp hst z hz
 rw[(Sb g hn).mpr hs]at this
 exact this rfl
theorem Hx{A:Nat->Nat->Bool}(g:Gr A):∀(k:Nat) (gn t:List Int),t.Nodup->t.length<=k->(Ii fun g2 t'=>U1 (Ap A k gn t=(gn++g2,t')) ((g2++t').Perm t) (ltg A t'=none) (t'.Nodup) (∀(j:Nat) (p:Int),g2[j]? = some p->Wj A (Oe A (g2.drop (j+1)++t') p))):=by
 intro k
 induction k with
 | zero=>
   intro gn t hn hl
   cases List.length_eq_zero_iff.mp (Nat.eq_zero_of_le_zero hl)
   exact⟨[],[],congrArg (·,[]) (List.append_nil gn).symm,.refl _,rfl,hn,fun _ _ h=>absurd h.symm (Option.some_ne_none _)⟩
 | succ k ih=>
   intro gn t hn hl
   cases e:ltg A t with
   | none=>exact⟨[],t,(D7 e).trans (congrArg (·,t) (List.append_nil gn).symm),.refl _,e,hn,fun _ _ h=>absurd h.symm (Option.some_ne_none _)⟩
   | some p=>
     have hp:=S3 e
     refine Aa fun nY=>?_
     obtain⟨g2,t',h1,h2,h3,h4,h5⟩:=ih (gn ++ [p]) (t.erase p) (hn.erase p) (Nat.le_trans (Nat.le_of_eq (List.length_erase_of_mem hp)) (Nat.sub_le_sub_right hl 1))
     refine nY ?_;clear nY
     refine⟨p::g2,t',(D6 e).trans (h1.trans (congrArg (·,t') (List.append_assoc gn [p] g2))),(h2.cons p).trans (List.perm_cons_erase hp).symm,h3,h4,fun j q hq=>?_⟩
     refine Aa fun nY=>?_
     cases j with
     | succ j=>(refine nY ?_;clear nY;exact h5 j q hq)
     | zero=>
       cases hq
       have hs:Sim A t p:=(Sb g hn).mp (List.find?_some e)
       refine nY ?_;clear nY
       intro a ha b hb hab
       have ha':=List.mem_filter.mp ha
       have hb':=List.mem_filter.mp hb
       exact hs a (List.mem_of_mem_erase (h2.mem_iff.mp ha'.1)) b (List.mem_of_mem_erase (h2.mem_iff.mp hb'.1)) ha'.2 hb'.2 hab
theorem Zb{m:Nat}{A:Nat->Nat->Bool}(g:Gr A)(h:(Ap A m [] (Aq m)).2 = []):Bx m (Ap A m [] (Aq m)).1/\Xr A (Ap A m [] (Aq m)).1:=by
 refine Aa fun nY=>?_
 obtain⟨g2,t',h1,h2,h3,h4,h5⟩:=Hx g m [] (Aq m) Cg (by rw[Bt];exact Nat.le_refl _)
 refine nY ?_;clear nY
 rw[h1]at h ⊢
 simp only[List.nil_append]at h h1 ⊢
 subst h
 rw[List.append_nil]at h2
 have hord:Bx m g2:=Up (h2.nodup_iff.mpr Cg) fun x=>by rw[h2.mem_iff,B7]
 refine⟨hord,fun p hp=>?_⟩
 obtain⟨j,hj⟩:=List.mem_iff_getElem?.mp hp
 rw[Xq hord.nodup hj]
 unfold Oe
 rw[M6 g ((hord.nodup.sublist (List.drop_sublist _ _)).filter _)]
 have:=h5 j p hj
 rwa[List.append_nil]at this
set_option linter.all false
variable {G:Aw} {n:Nat} {H H':AH} {Q:Ah} {E:EP} {C:CS} {ρ:Ak}
theorem Qz{m:Nat}{A:Nat->Nat->Bool}(g:Gr A):(Ap A m [] (Aq m)).2.Nodup/\(∀x∈(Ap A m [] (Aq m)).2,0<=x/\x<(m:Int))/\ltg A (Ap A m [] (Aq m)).2=none/\
 (Ap A m [] (Aq m)).1.length+(Ap A m [] (Aq m)).2.length=m:=by
 refine Aa fun nY=>?_
 obtain⟨g2,t',h1,h2,h3,h4,_⟩:=Hx g m [] (Aq m) Cg (by rw[Bt];exact Nat.le_refl _)
 refine nY ?_;clear nY
 rw[h1]
 refine⟨h4,fun x hx=>B7.mp (h2.mem_iff.mp (List.mem_append_right _ hx)),h3,?_⟩
 have:=h2.length_eq
 rw[Bt,List.length_append]at this
 simpa using this
theorem Wk(F:Y8 G){w m:Nat}{A:Nat->Nat->Bool}(g:Gr A)(hm:m<=60)(hW:Cs H w m A)
 (qn:∀H',Ad H H'->(Ap A m [] (Aq m)).2 = []->Q .none H')
 (qs:∀a l p H',Ad H H'->H a=none->LI H' a l->Hw m A p->l.length<=61->(∀x∈l,0<=x/\x<(m:Int))->Q (.ref a) H'):Af G (n+6) "long_ring" [.ref w] H Q E:=by
 have F1:=F.fns2.fns
 refine Aj F.longRing rfl ?_
 simp only[Nk,List.map,List.replicate,List.cons_append,List.nil_append]
 refine Ae (Oz ?_)
 simp (disch:=first|decide|omega) only[Jb,Je,Jg,Jp,Js,Jw,Jx,J0,J2,J3,Ag,Cu,true_and,F1.taken]
 refine Xp F1 hW hm fun r a b H₁ e1 nr na nb hab hr hb ha=>?_
 (try dsimp only)
 refine F4 (x:= .ref a) hr (by decide) rfl (Ao ha ?_)
 refine Aa fun nY=>?_
 obtain⟨f1,f2,f3,f4⟩:=Qz (m:=m) g
 refine nY ?_;clear nY
 generalize (Ap A m [] (Aq m)).2=t at *
 refine I5 (fun i r1 r2=>[some (.ref w),r1,r2]) (fun i r1 r2 H₂=>(Ad H₁ H₂)/\(∀p∈t.take i,¬Hw m A p)) _ _ rfl ⟨Ad.refl,fun _ h=>absurd h List.not_mem_nil⟩ ?_ ?_ ?_
 ·rintro i r1 r2 H₂ ⟨e,_⟩;exact ha.ext e
 ·rintro i v r1 r2 H₂ K hv ⟨e,hno⟩ hK
  obtain⟨p,hp,rfl⟩:=LI.at_ (a:=a) hv
  have hpr:=f2 p (List.mem_of_getElem? hp)
  have eH:=e1.trans e
  simp (disch:=first|decide|omega) only[Jg,Jp,Jw,Jx,Jy,J2,J3,Ag,Ai,Bo,Bp,Cu,true_and,Io,F.ringAt]
  refine Ab1 F g hm (hW.ext eH) hpr (fun H₃ e3 hn=>?_) (fun x l H₃ e3 nx hx hr hl hin=>?_)
  ·refine A5 ?_
   simp (disch:=first|decide|omega) only[Jb,Jg,Jm,J0,J2,J3,Jbk,Bl,Ag,Ai]
   simp only[Bool.false_eq_true,if_false]
   refine hK _ _ _ ⟨e.trans e3,fun z hz=>?_⟩
   rw[List.take_add_one,hp]at hz
   refine Aa fun nY=>?_
   rcases List.mem_append.mp hz with hz|hz
   ·refine nY ?_;clear nY
    exact hno z hz
   ·refine nY ?_;clear nY
    simp at hz;rw[hz];exact hn
  ·refine A5 ?_
   simp (disch:=first|decide|omega) only[Jb,Jg,Jm,J0,J2,J3,Jbl,Bl,Ag,Ai]
   simp only[if_true]
   exact qs x l p H₃ (eH.trans e3) (eH.isNone nx) hx hr hl hin
 ·rintro r1 r2 H₂ ⟨e,hno⟩
  rw[List.length_map,List.take_of_length_le (Nat.le_refl _)]at hno
  exact qn H₂ (e1.trans e) (Ah9 g f1 f2 hno f3)
noncomputable def Ta(H:AH)(v:Nat)(o r c k:V)(many:Int):Prop:=∃d:Nat,H v=some (.inst .verdict d)/\H d=some (.ns [(.order,o),(.ring,r),(.crowd,c),(.colours,k),(.many,.int many)])
theorem Ta.ext{v:Nat}{o r c k:V}{many:Int}(h:Ta H v o r c k many)(e:Ad H H'):Ta H' v o r c k many:=by
 refine Aa fun nY=>?_
 obtain⟨d,h1,h2⟩:=h
 refine nY ?_;clear nY
 exact⟨d,e _ _ h1,e _ _ h2⟩
theorem M7(hI:G.fn "Verdict.__init__" = some Ed){o r c k:V}{many:Int}(q:∀v H',Ad H H'->H v=none->Ta H' v o r c k many->Q (.ref v) H') :
 ∀a d,H a=none->H d=none->a≠d->Af G (n+1) (Du .verdict) [.ref a,o,r,c,k,.int many] (upd (upd H d (.ns [])) a (.inst .verdict d)) (fun r H'=>r = .none/\Q (.ref a) H') E:=by
 intro a d ha hd had
 refine Aj hI rfl ?_
 simp only[Ed,List.map,List.cons_append,List.nil_append]
 have h0:∀(H₁:AH) (fs:List (Ct×V)) (t:Ct) (x:V),(Ad H H₁/\H₁ a=some (.inst .verdict d)/\H₁ d=some (.ns fs))->Ad H (upd H₁ d (.ns (Ij fs t x)))/\upd H₁ d (.ns (Ij fs t x)) a=some (.inst .verdict d)/\upd H₁ d (.ns (Ij fs t x)) d=some (.ns (Ij fs t x)):=
  fun H₁ fs t x h=>⟨h.1.upd' hd,by rw[upd_ne had];exact h.2.1,Ac⟩
 have s0:Ad H (upd (upd H d (.ns [])) a (.inst .verdict d))/\upd (upd H d (.ns [])) a (.inst .verdict d) a=some (.inst .verdict d)/\upd (upd H d (.ns [])) a (.inst .verdict d) d=some (.ns []):=
  ⟨(Ad.upd hd).upd' ha,Ac,by rw[upd_ne (Ne.symm had),Ac]⟩
 generalize upd (upd H d (.ns [])) a (.inst .verdict d)=H₀ at *
 have s1:=h0 _ _ .order o s0
 have s2:=h0 _ _ .ring r s1
 have s3:=h0 _ _ .crowd c s2
 have s4:=h0 _ _ .colours k s3
 have s5:=h0 _ _ .many (.int many) s4
 simp only[J3,J2,Cb,Jg,List.getElem?_cons_zero,List.getElem?_cons_succ]
 refine Fi s0.2.1 s0.2.2 (show (0:Nat)<10 by decide) ?_
 refine Fi s1.2.1 s1.2.2 (show (1:Nat)<10 by decide) ?_
 refine Fi s2.2.1 s2.2.2 (show (2:Nat)<10 by decide) ?_
 refine Fi s3.2.1 s3.2.2 (show (3:Nat)<10 by decide) ?_
 refine Fi s4.2.1 s4.2.2 (show (4:Nat)<10 by decide) ?_
 exact⟨trivial,q a _ s5.1 ha ⟨d,s5.2.1,s5.2.2⟩⟩
theorem Ut(F:Y8 G){w m:Nat}{A:Nat->Nat->Bool}(g:Gr A)(hm:m<=60)(hW:Cs H w m A)
 (q1:∀v x l p H',Ad H H'->H v=none->Ta H' v .none (.ref x) .none .none 0->H x=none->LI H' x l->Hw m A p->l.length<=61->(∀y∈l,0<=y/\y<(m:Int))->Q (.ref v) H')
 (q2:∀v o c k lo lc lk H',Ad H H'->H v=none->Ta H' v (.ref o) .none (.ref c) (.ref k) (lc.length:Nat)->H o=none->H c=none->H k=none->o≠c->o≠k->c≠k->LI H' o lo->LI H' c lc->LI H' k lk->
   lo=(Ap A m [] (Aq m)).1->(Ap A m [] (Aq m)).2 = []->Bx m lo->Xr A lo->(lc∈Ch m A lo\/(lc = []/\Ch m A lo = []))->(∀r∈Ch m A lo,r.length<=lc.length)->We A lo lk->Q (.ref v) H') :
 Af G (n+7) "judged" [.ref w] H Q E:=by
 have F2:=F.fns2
 have F1:=F2.fns
 refine Aj F.judged rfl ?_
 simp only[To,List.map,List.replicate,List.cons_append,List.nil_append]
 have hmk:(G.fn (Du .verdict)).isSome=true:=by rw[show Du .verdict=Str.ofString "Verdict.__init__" from rfl,F.init];rfl
 refine Ae (Bw (Oh ?_))
 refine⟨by rw[F.longRing];rfl,?_⟩
 simp (disch:=first|decide|omega) only[Je,Jg,Jp,Js,Ju,Jw,Jx,Jy,J0,J2,J3,Ag,Bo,Bp]
 refine Wk F g hm hW (fun H₁ e1 hnil=>?_) (fun x l p H₁ e1 nx hx hr hl hin=>?_)
 rotate_left
 ·(try dsimp only)
  refine A5 ?_
  simp (disch:=first|decide|omega) only[Jb,Jg,Jm,J0,J2,J3,Jbl,Bl,Ag,Ai,Bo,Bp]
  simp only[if_true]
  refine Wv ?_
  refine⟨hmk,?_⟩
  simp (disch:=first|decide|omega) only[Jb,Je,Jg,Jw,Jx,Ag,Ai]
  refine M7 F.init fun v H₂ e2 nv hv=>?_
  exact q1 v x l p H₂ (e1.trans e2) (e1.isNone nv) hv nx (hx.ext e2) hr hl hin
 (try dsimp only)
 obtain⟨ho,hp⟩:=Zb g hnil
 refine A5 ?_
 simp (disch:=first|decide|omega) only[Jb,Jg,Jm,J0,J2,J3,Jbk,Bl,Ag,Ai,Bo,Bp]
 simp only[Bool.false_eq_true,if_false]
 refine⟨by rw[F1.taken];rfl,?_⟩
 refine Xp F1 (hW.ext e1) hm fun r a b H₂ e2 nr na nb hab hr hb ha=>?_
 (try dsimp only)
 refine F4 (x:= .ref b) hr (by decide) rfl ?_
 (try dsimp only)
 refine Ab fun gr H₃ e3 ngr vgr=>?_
 (try dsimp only)
 have hbg:b≠gr:=hb.ne_none ngr
 have hb3:=hb.ext e3
 have e13:=(e1.trans e2).trans e3
 generalize hlo:(Ap A m [] (Aq m)).1=lo at *
 refine Oz ?_
 simp (disch:=first|decide|omega) only[Jg,Jp,Jw,Jx,Ag,Ai,Cu,true_and,F2.fullCrowds]
 refine S6 F2 hm (hW.ext e13) hb3 ho hp fun fa as H₄ md=>?_
 (try dsimp only)
 refine Ao md.at_ ?_
 have e14:=e13.trans md.ext
 have hb4:=hb3.ext md.ext
 have hlen:as.length=(Ch m A lo).length:=md.lists.1
 refine F6 (fun i r4 c lc=>[some (.ref w),some .none,some (.ref b),some (.ref c),r4]) (fun i r4 c lc H₅=>U1 (Ad H₄ H₅) (LI H₅ c lc) (H₂ c=none) ((lc∈(Ch m A lo).take i\/(lc = []/\(Ch m A lo).take i = []))) (∀r∈(Ch m A lo).take i,r.length<=lc.length)) _ gr [] rfl ⟨Ad.refl,md.ext _ _ vgr,ngr,.inr ⟨rfl,rfl⟩,fun _ h=>absurd h List.not_mem_nil⟩ ?_ ?_ ?_
 ·rintro i r4 c lc H₅ ⟨e5,_⟩;exact e5 _ _ md.at_
 ·rintro i v r4 c lc H₅ K hv ⟨e5,hc5,nc,hor,hle⟩ hK
  rw[List.getElem?_map]at hv
  obtain⟨x,hx,rfl⟩:=Option.map_eq_some_iff.mp hv
  have hxl:=(List.getElem?_eq_some_iff.mp hx).1
  have hri:(Ch m A lo)[i]? = some ((Ch m A lo)[i]'(by rw[<-hlen];exact hxl)):=List.getElem?_eq_getElem _
  generalize (Ch m A lo)[i]'(by rw[<-hlen];exact hxl)=ri at hri
  have hxr:LI H₅ x ri:=(md.lists.2 i x ri hx hri).ext e5
  have hx3:H₂ x=none:=e3.isNone (md.fr x (List.mem_of_getElem? hx)).2
  have htk:(Ch m A lo).take (i+1)=(Ch m A lo).take i ++ [ri]:=by rw[List.take_add_one,hri];rfl
  simp only[Nl,J3,J2,List.set_cons_succ,List.set_cons_zero]
  refine Ba (decide ((lc.length:Int)<ri.length)) (fun Q' h'=>?_) ?_
  ·simp (disch:=first|decide|omega) only[Jg,Jm,Jq,Jw,Jx,Zi,Ag,Ai,A8 hxr,A8 hc5]
   rw[List.length_map,List.length_map];exact h'
  split
  ·rename_i hh
   simp only[decide_eq_true_eq]at hh
   simp (disch:=first|decide|omega) only[Jg,Jy,J2,J3,Ag,Ai,Bo,Bp]
   refine hK _ x ri _ ⟨e5,hxr,hx3,.inl (by rw[htk];simp),fun r hr=>?_⟩
   rw[htk]at hr
   rcases List.mem_append.mp hr with hr|hr
   ·have:=hle r hr;exact Nat.le_trans this (Nat.le_of_lt (Int.ofNat_lt.mp hh))
   ·simp at hr;rw[hr];exact Nat.le_refl _
  ·rename_i hh
   simp only[decide_eq_true_eq]at hh
   simp (disch:=first|decide|omega) only[J2]
   refine hK _ c lc _ ⟨e5,hc5,nc,?_,fun r hr=>?_⟩
   ·rcases hor with hor | ⟨rfl,hor⟩
    ·exact .inl (by rw[htk];exact List.mem_append_left _ hor)
    ·have hz:ri = []:=List.length_eq_zero_iff.mp (by have h9:=hh;rw[List.length_nil]at h9;exact Ai8 h9)
     exact .inl (by rw[htk,hz];simp)
   ·rw[htk]at hr
    rcases List.mem_append.mp hr with hr|hr
    ·exact hle r hr
    ·simp at hr;rw[hr];exact Ai9 hh
 ·rintro r4 c lc H₅ ⟨e5,hc5,nc,hor,hle⟩
  rw[List.length_map,hlen,List.take_of_length_le (Nat.le_refl _)]at hor hle
  refine Wv ?_
  refine⟨hmk,?_⟩
  simp (disch:=first|decide|omega) only[Jb,Jg,Jp,Jq,Jw,Jx,Ag,Ai,Cu,true_and,F2.coloured]
  have e15:=e14.trans e5
  have hb5:=hb4.ext e5
  refine Wg F2 hm (hW.ext e15) hb5 ho hp fun k lk H₆ e6 nk hk hgr=>?_
  (try dsimp only)
  (refine Xh (hc5.ext e6) ?_;rw[List.length_map])
  refine M7 F.init fun v H₇ e7 nv hv=>?_
  have e12:=e1.trans e2
  exact q2 v b c k lo lc lk H₇ ((e15.trans e6).trans e7) ((e15.trans e6).isNone nv) hv (e1.isNone nb) (e12.isNone nc) (e15.isNone nk)
   (hb.ne_none nc) (hb5.ne_none nk) (hc5.ne_none nk) ((hb5.ext e6).ext e7) ((hc5.ext e6).ext e7) (hk.ext e7) rfl hnil ho hp hor hle hgr
set_option linter.all false
noncomputable def Lm(A:Nat->Nat->Bool)(s:List Int×List Int):List Int×List Int:=match ltg A s.2 with
 | none=>s
 | some p=>(s.1 ++ [p],s.2.erase p)
theorem Tb{A:Nat->Nat->Bool}:∀ {k:Nat} {g t:List Int},Ap A (k+1) g t=Lm A (Ap A k g t):=by
 have n0:∀s:List Int×List Int,ltg A s.2=none->Lm A s=s:=fun s h=>by delta Lm;rw[h]
 have n1:∀(s:List Int×List Int) (p:Int),ltg A s.2=some p->Lm A s=(s.1 ++ [p],s.2.erase p):=fun s p h=>by delta Lm;rw[h]
 intro k
 induction k with
 | zero=>
   intro g t
   cases h:ltg A t with
   | none=>exact(D7 h).trans (n0 (g,t) h).symm
   | some p=>exact(D6 h).trans (n1 (g,t) p h).symm
 | succ k ih=>
   intro g t
   cases h:ltg A t with
   | none=>rw[D7 h,D7 h];exact(n0 (g,t) h).symm
   | some p=>rw[D6 h,D6 h,ih]
variable {G:Aw} {n:Nat} {H H':AH} {Q:Ah} {E:EP} {C:CS} {ρ:Ak}
set_option linter.all false
variable {G:Aw} {n:Nat} {H H':AH} {Q:Ah} {E:EP} {C:CS} {ρ:Ak} {m:Nat} {A:Nat->Nat->Bool}
/-! the ties of a web -/
noncomputable def M8(m:Nat)(A:Nat->Nat->Bool)(i:Nat):List (Int×Int):=((Am m A i).filter fun y=>decide ((i:Int)<y)).map fun y=>((i:Int),y)
noncomputable def G4(m:Nat)(A:Nat->Nat->Bool)(k:Nat):List (Int×Int):=(List.range k).flatMap (M8 m A)
theorem Qd{k:Nat}:G4 m A (k+1)=G4 m A k++M8 m A k:=by simp[G4,List.range_succ]
theorem Wl{i:Nat}:(M8 m A i).length<=m:=by
 unfold M8
 rw[List.length_map]
 exact Nat.le_trans (List.length_filter_le _ _) Ff
theorem Sc:∀ {k:Nat},(G4 m A k).length<=m*k:=by
 intro k
 induction k with
 | zero=>exact Nat.le_refl _
 | succ k ih=>
   rw[Qd,List.length_append,Nat.mul_succ]
   exact Nat.add_le_add ih Wl
theorem Ad3(B:G1 G){w:Nat}(hm:m<=60)(hW:Cs H w m A)(q:∀a as H',TB H H' a as (G4 m A m)->Q (.ref a) H'):Af G (n+1) "Web.ties" [.ref w] H Q E:=by
 refine Aa fun nY=>?_
 obtain⟨d,rs,w1,w2,w3⟩:=hW
 refine nY ?_;clear nY
 refine Aj B.wties rfl ?_
 simp only[O2,List.map,List.replicate,List.cons_append,List.nil_append]
 refine C3 (fun fd=>[some (.ref w),some (.ref fd),none,none]) (fun fd H₁=>TB H H₁ fd [] []) (fun N hN=>?_) ?_
 ·simp (disch:=first|decide|omega) only[Ju,Jw,Jy,Bo,Bp]
  exact Ab fun a H₁ e n v=>hN a _ ⟨e,n,v,rfl,fun _ h=>absurd h List.not_mem_nil⟩
 rintro fd H₁ b1
 have at1:∀ {X:AH},Ad H X->X w=some (.inst .web d)/\X d=some (.ns [(Ct.many,V.int m),(Ct.rows,V.ref rs)]):=fun e=>⟨e _ _ w1,e _ _ w2⟩
 refine Ae (Uy ?_)
 simp (disch:=first|decide|omega) only[Jg,Jr,Jw,Jx,J0,J2,J3,Oo,Ag,Bn (at1 b1.ext).1 (at1 b1.ext).2 (show Ds [(Ct.many,V.int m),(Ct.rows,V.ref rs)] .many=some (.int m)from rfl)]
 refine Gi (fun i (r2:Option V) (r3:Option V) (as:List Nat)=>[some (.ref w),some (.ref fd),r2,r3]) (fun i (r2:Option V) (r3:Option V) (as:List Nat) H₂=>TB H H₂ fd as (G4 m A i)) _ _ [] rfl b1 ?_ ?_
 ·rintro i r2 r3 as H₂ K hi b hK
  have hi':i<m:=hi
  refine Aa fun nY=>?_
  obtain⟨as',z,a1,a2,a3,a4⟩:=(w3.ext b.ext).row (x:=i) Wu (Xy hi')
  have hzf:z≠fd:=fun h=>by
   refine Aa fun nY=>?_
   obtain⟨as0,z0,c1,c2,c3,c4⟩:=w3.row (x:=i) Wu (Xy hi')
   have e:H₂ rs=some (.list (as0.map V.ref)):=b.ext _ _ c1
   rw[a1]at e
   have e':as'.map V.ref=as0.map V.ref:=(by injection e with e;injection e)
   rw[e',c3]at a3
   cases a3
   unfold LI at c4
   rw[h,b.new]at c4;cases c4
  refine nY ?_;clear nY
  simp only[Km,J3,J2,List.set_cons_succ,List.set_cons_zero]
  refine Oz ?_
  simp (disch:=first|decide|omega) only[Jg,Jr,Js,Ag,Ai,Bn (at1 b.ext).1 (at1 b.ext).2 (show Ds [(Ct.many,V.int m),(Ct.rows,V.ref rs)] .rows=some (.ref rs)from rfl),Al a1 (Int.natCast_nonneg i) a3]
  rw[Int.toNat_natCast]at a4
  refine Ao a4 ?_
  refine I5 (fun j (r3:Option V) (as:List Nat)=>[some (.ref w),some (.ref fd),some (.int i),r3]) (fun j (r3:Option V) (as:List Nat) H₃=>(LI H₃ z (Am m A i))/\(TB H H₃ fd as (G4 m A i++(((Am m A i).take j).filter fun y=>decide ((i:Int)<y)).map fun y=>((i:Int),y)))) _ as rfl ⟨a4,by simpa using b⟩ ?_ ?_ ?_
  ·rintro j r3 as H₃ ⟨h,_⟩;exact h
  ·rintro j v r3 as H₃ K3 hv ⟨hz3,b3⟩ hK3
   obtain⟨y,hy,rfl⟩:=LI.at_ (a:=z) hv
   have hjl:=(List.getElem?_eq_some_iff.mp hy).1
   have hal:(Am m A i).length<=m:=Ff
   simp only[Kl,J3,J2,List.set_cons_succ,List.set_cons_zero]
   refine Ba (decide ((i:Int)<y)) (fun Q' h'=>?_) ?_
   ·simp (disch:=first|decide|omega) only[Jg,Jm,Qg,Ag,Ai];exact h'
   split
   ·rename_i hlt
    have hasl:as.length<1048576:=by
     rw[b3.prs.len,List.length_append,List.length_map]
     have h1:=Sc (m:=m) (A:=A) (k:=i)
     have h2:=List.length_filter_le (fun y=>decide ((i:Int)<y)) ((Am m A i).take j)
     have h3:((Am m A i).take j).length<=m:=Nat.le_trans (by simp;exact(Nat.min_le_right _ _)) hal
     have h4:m*i<=60*60:=Nat.mul_le_mul hm (Nat.le_trans (Nat.le_of_lt hi') hm)
     exact Nat.lt_of_le_of_lt (Nat.add_le_add (Nat.le_trans h1 h4) (Nat.le_trans h2 (Nat.le_trans h3 hm))) (by decide)
    simp (disch:=first|decide|omega) only[Jg,Jv,Jw,Jx,Jz,J2,J3,Ag,Ai,true_and,B0,B8 b3.at_]
    refine Ab fun tp H₄ e4 n4 v4=>?_
    (try dsimp only)
    refine Yt (e4 _ _ b3.at_) (by rw[List.length_map];exact hasl) ?_
    refine hK3 _ (as ++ [tp]) _ ⟨(hz3.ext e4).upd_ne hzf,?_⟩
    have:=b3.snoc (p:=((i:Int),y)) e4 n4 v4
    rw[List.take_add_one,hy]
    simpa[hlt]using this
   ·rename_i hlt
    simp (disch:=first|decide|omega) only[J2]
    refine hK3 _ as _ ⟨hz3,?_⟩
    rw[List.take_add_one,hy]
    simpa[hlt]using b3
  ·rintro r3 as H₃ ⟨hz3,b3⟩
   rw[List.length_map,List.take_of_length_le (Nat.le_refl _)]at b3
   exact hK _ _ as _ (by rw[Qd];exact b3)
 ·rintro r2 r3 as H₂ b
  try simp (disch:=first|decide|omega) only[Ag,Ai]
  exact q fd as H₂ b
set_option linter.all false
theorem Wm{m:Nat}{A:Nat->Nat->Bool}{t:List Int}(g:Gr A)(ht:t.Perm (Aq m))(h:(Ap A m [] t).2 = []):Bx m (Ap A m [] t).1/\Xr A (Ap A m [] t).1:=by
 refine Aa fun nY=>?_
 obtain⟨g2,t',h1,h2,h3,h4,h5⟩:=Hx g m [] t (ht.nodup_iff.mpr Cg) (by rw[ht.length_eq,Bt];exact Nat.le_refl _)
 refine nY ?_;clear nY
 rw[h1]at h ⊢
 simp only[List.nil_append]at h h1 ⊢
 subst h
 rw[List.append_nil]at h2
 have h2':=h2.trans ht
 have hord:Bx m g2:=Up (h2'.nodup_iff.mpr Cg) fun x=>by rw[h2'.mem_iff,B7]
 refine⟨hord,fun p hp=>?_⟩
 obtain⟨j,hj⟩:=List.mem_iff_getElem?.mp hp
 rw[Xq hord.nodup hj]
 unfold Oe
 rw[M6 g ((hord.nodup.sublist (List.drop_sublist _ _)).filter _)]
 have:=h5 j p hj
 rwa[List.append_nil]at this
variable {G:Aw} {n:Nat} {H H':AH} {Q:Ah} {E:EP} {C:CS} {ρ:Ak}
set_option linter.all false
variable {G:Aw} {n:Nat} {H H':AH} {Q:Ah} {E:EP} {C:CS} {ρ:Ak}
noncomputable def Uu:V->Nat
 | .ref a=>a
 | _=>0
theorem Zc:∀ {xs:List V},(∀x∈xs,∃a,x = .ref a)->(xs.map Uu).map V.ref=xs:=by
 intro xs
 induction xs with
 | nil=>exact fun _=>rfl
 | cons x r ih=>
   intro h
   obtain⟨a,rfl⟩:=h x List.mem_cons_self
   exact congrArg _ (ih fun y hy=>h y (List.mem_cons_of_mem _ hy))
theorem Zd{xs:List V}{ks:List Nat}(h:xs.Perm (ks.map V.ref)):∃ks':List Nat,xs=ks'.map V.ref/\ks'.Perm ks:=by
 have h1:=Zc (xs:=xs) fun x hx=>by
  obtain⟨a,_,rfl⟩:=List.mem_map.mp (h.mem_iff.mp hx)
  exact⟨a,rfl⟩
 refine⟨xs.map Uu,h1.symm,?_⟩
 have h2:=h.map Uu
 rw[List.map_map]at h2
 have:ks.map (Uu∘V.ref)=ks:=by
  have e:(Uu∘V.ref)=id:=by funext x;rfl
  rw[e,List.map_id]
 rwa[this]at h2
theorem Ad4{a:Nat}{ks:List Nat}(h:H a=some (.list (ks.map V.ref)))(hl:ks.length<64)(hp:∀x∈ks,(Ii fun(c i:Int)=>H x=some (.tuple [.int c,.int i])))
 (q:∀ks':List Nat,ks'.Perm ks->Ay (.list (ks'.map V.ref)) H Q):C9 .sorted [.ref a] H Q:=by
 delta C9;dsimp only;delta G7;dsimp only[Na,A2];rw[h];dsimp only
 cases ks with
 | nil=>exact⟨by decide,q [] (.refl _)⟩
 | cons x r=>
   refine⟨by simpa using hl,?_,fun xs' hx'=>?_⟩
   ·rw[List.all_eq_true]
    intro v hv
    obtain⟨y,hy,rfl⟩:=List.mem_map.mp hv
    obtain⟨c,i,e⟩:=hp y hy
    show (match H y with|some (.tuple [.int _,.int _])=>true|_=>false)=true
    rw[e]
   ·obtain⟨ks',rfl,h2⟩:=Zd hx'
    exact q ks' h2
noncomputable def Qe(H:AH)(x:Nat):Int:=match H x with
 | some (.tuple [_,.int i])=>i
 | _=>0
theorem Uv{x:Nat}{c i:Int}(h:H x=some (.tuple [.int c,.int i])):Qe H x=i:=by unfold Qe;rw[h]
theorem Ad5(B:G1 G)(hG:G.fn "_law_keyed" = some Fu){ns:List Int}{m:Nat}(hm:m<=60)(q:∀a l H',Ad H H'->H a=none->LI H' a l->l.Perm (Aq m)->Q (.ref a) H') :
 Af G (n+2) "_law_keyed" [.script ns,.int m] H Q E:=by
 refine Aj hG rfl ?_
 simp only[Fu,List.map,List.replicate,List.cons_append,List.nil_append]
 refine Qw (fun(k:Nat) (ks:List Nat)=>[some (.script ns),some (.int m),some (.ref k)]) (fun(k:Nat) (ks:List Nat) H₁=>Td (Ad H H₁) (H₁ k=some (.list (ks.map V.ref))) (ks.length=m) (∀(i x:Nat),ks[i]? = some x->∃c:Int,H₁ x=some (.tuple [.int c,.int (i:Int)]))) (fun N hN=>?_) ?_
 ·refine Bw (grK ?_)
  simp (disch:=first|decide|omega) only[Jg,Jw,Jx,J4,Oo,Dn,Dp,Ag,Ai,List.replicate,Bo,Bp]
  refine⟨by simp[Bq];exact Wt hm,?_⟩
  refine Ck (k:=0) (fun j acc H₁=>(Q9 fun(ks:List Nat)=>Td (acc=ks.map V.ref) (Ad H H₁) (ks.length=j) (∀(i x:Nat),ks[i]? = some x->∃c:Int,H₁ x=some (.tuple [.int c,.int (i:Int)])))) ⟨[],rfl,Ad.refl,rfl,fun _ _ h=>absurd h.symm (Option.some_ne_none _)⟩ ?_ ?_
  ·rintro j x acc H₁ K' hx' hP50 hK'
   refine Aa fun nY=>?_
   obtain⟨ks,rfl,e,hl,hall⟩:=hP50
   rw[List.getElem?_map]at hx'
   obtain⟨j',hj,rfl⟩:=Option.map_eq_some_iff.mp hx'
   obtain⟨hlt,he⟩:=List.getElem?_eq_some_iff.mp hj
   simp at hlt he
   subst he
   refine nY ?_;clear nY
   refine⟨trivial,_,rfl,?_⟩
   simp (disch:=first|decide|omega) only[Je,Jg,Jl,Jp,Jv,Jw,Jx,J6,J8,Ag,Ai,Cu,true_and,Ip,Aa7,B.cellAt,B.mixed]
   refine⟨.inl (by decide),?_⟩
   refine Cf B.cellAt (Int.natCast_nonneg _) ?_
   refine⟨.inl (by decide),?_⟩
   refine Ml B.mixed fun c c0 c1=>?_
   refine Ab fun y H₂ e2 n2 v2=>hK' _ _ ⟨ks ++ [y],by simp,e.trans e2,by simp[hl],fun i z hz=>?_⟩
   refine Aa fun nY=>?_
   rcases Nat.lt_or_ge i ks.length with hlt'|hge
   ·rw[List.getElem?_append_left hlt']at hz
    obtain⟨c',hc'⟩:=hall i z hz
    refine nY ?_;clear nY
    exact⟨c',e2 _ _ hc'⟩
   ·have hi:=(List.getElem?_eq_some_iff.mp hz).1
    simp at hi
    have hij:i=j:=((Nat.le_antisymm (Nat.le_of_lt_succ hi) hge).trans (hl.trans (Nat.zero_add _)))
    subst hij
    rw[List.getElem?_append_right hge,show i-ks.length=0 by exact Aja hl]at hz
    simp at hz
    subst hz
    refine nY ?_;clear nY
    exact⟨c,v2⟩
  ·rintro acc H₁ hP51
   refine Aa fun nY=>?_
   obtain⟨ks,rfl,e,hl,hall⟩:=hP51
   refine nY ?_;clear nY
   refine⟨trivial,?_⟩
   refine Ab fun k H₂ e2 n2 v2=>hN k ks _ ⟨e.trans e2,v2,by simpa using hl,fun i x hx=>?_⟩
   obtain⟨c,hc⟩:=hall i x hx
   exact⟨c,e2 _ _ hc⟩
 rintro k ks H₁ hP52
 refine Aa fun nY=>?_
 obtain⟨e,hk,hl,hall⟩:=hP52
 refine nY ?_;clear nY
 refine Ae (Il (Ww ?_))
 simp (disch:=first|decide|omega) only[Jg,Jq,Jw,Jx,J4,Dn,Dp,Ag,Ai,List.replicate]
 refine Ad4 hk (Nat.lt_of_le_of_lt (Nat.le_trans (Nat.le_of_eq hl) hm) (by decide)) (fun x hx=>?_) fun ks' hperm=>?_
 ·refine Aa fun nY=>?_
  obtain⟨i,hi⟩:=List.mem_iff_getElem?.mp hx
  obtain⟨c,hc⟩:=hall i x hi
  refine nY ?_;clear nY
  exact⟨c,i,hc⟩
 refine Ab fun s H₂ e2 n2 v2=>?_
 (try dsimp only)
 refine Ao v2 ?_
 have hall2:∀(i x:Nat),ks[i]? = some x->∃c:Int,H₂ x=some (.tuple [.int c,.int (i:Int)]):=fun i x hx=>by
  obtain⟨c,hc⟩:=hall i x hx
  exact⟨c,e2 _ _ hc⟩
 refine⟨by simp[Bq,hperm.length_eq,hl];exact Wt hm,Hp (f:=fun v=>match v with | .ref x=>some (.int (Qe H₂ x))|_=>none) v2 (fun v hv K hK=>?_) ?_⟩
 ·refine Aa fun nY=>?_
  obtain⟨x,hx,rfl⟩:=List.mem_map.mp hv
  obtain⟨i,hi⟩:=List.mem_iff_getElem?.mp (hperm.mem_iff.mp hx)
  obtain⟨c,hc⟩:=hall2 i x hi
  have hK:K (some (.int (Qe H₂ x))) H₂:=hK
  rw[Uv hc]at hK
  refine nY ?_;clear nY
  simp (disch:=first|decide|omega) only[Je,Jg,Js,Ag,Iq,Sy (x:= .int i) (k:=1) hc (by decide) rfl]
  exact hK
 ·have e1:(ks'.map V.ref).filterMap (fun v=>match v with | .ref x=>some (V.int (Qe H₂ x))|_=>none)=(ks'.map (Qe H₂)).map V.int:=by
   rw[List.filterMap_map,List.map_map,<-List.filterMap_eq_map]
   rfl
  rw[e1]
  refine Ab fun a H₃ e3 n3 v3=>q a _ H₃ ((e.trans e2).trans e3) ((e.trans e2).isNone n3) v3 ?_
  have e4:ks.map (Qe H₂)=Aq m:=by
   unfold Aq Lj
   refine List.ext_getElem (by simp[hl]) fun i h1 h2=>?_
   have hi:i<ks.length:=by simpa using h1
   obtain⟨c,hc⟩:=hall2 i ks[i] (List.getElem?_eq_getElem hi)
   simp[Uv hc]
  rw[<-e4]
  exact hperm.map _
theorem Ad6(B:G1 G)(hK:G.fn "_law_keyed" = some Fu)(hU:G.fn "_law_untied" = some D0)(hF:G.fn "_law_free" = some Hf)(hG:G.fn "_law_order" = some E9){ns:List Int}{a m:Nat}{A:Nat->Nat->Bool}(g:Gr A)(hm:m<=60)(hN:Cr H a m A)
 (q0:∀H',Ad H H'->Q .none H') (q1:∀b o H',Ad H H'->H b=none->LI H' b o->Bx m o->Xr A o->Q (.ref b) H'):Af G (n+3) "_law_order" [.script ns,.ref a] H Q E:=by
 refine Aa fun nY=>?_
 obtain⟨as,n1,n2,n3⟩:=hN
 have hN:Cr H a m A:=⟨as,n1,n2,n3⟩
 have hlen:(as.map V.ref).length=m:=by rw[List.length_map,n2]
 refine nY ?_;clear nY
 refine Aj hG rfl ?_
 simp only[E9,List.map,List.replicate,List.cons_append,List.nil_append]
 refine Qw (fun th t=>[some (.script ns),some (.ref a),some (.ref th),none,none,none]) (fun th t H₁=>Td (Ad H H₁) (H th=none) (LI H₁ th t) (t.Perm (Aq m))) (fun N hN'=>?_) ?_
 ·simp (disch:=first|decide|omega) only[Jg,Jp,Jq,Jw,Jx,Jy,Ag,Ai,Bo,Bp,Cu,true_and,hK,A8 n1]
  rw[hlen]
  exact Ad5 B hK hm fun th t H₁ e1 n1 v1 hp=>hN' th t _ ⟨e1,n1,v1,hp⟩
 rintro th t H₁ hP53
 refine Aa fun nY=>?_
 obtain⟨e1,nt,vt,hperm⟩:=hP53
 refine nY ?_;clear nY
 refine C3 (fun od=>[some (.script ns),some (.ref a),some (.ref th),some (.ref od),none,none]) (fun od H₂=>U1 (Ad H H₂) (H od=none) (th≠od) (LI H₂ th t) (LI H₂ od [])) (fun N hN'=>?_) ?_
 ·simp (disch:=first|decide|omega) only[Ju,Jw,Jy,Bo,Bp]
  exact Ab fun od H₂ e2 n2 v2=>hN' od _ ⟨e1.trans e2,e1.isNone n2,vt.ne_none n2,vt.ext e2,v2⟩
 rintro od H₂ hP54
 refine Aa fun nY=>?_
 obtain⟨e2,no,hto,vt2,vo2⟩:=hP54
 have htl:t.length=m:=by rw[hperm.length_eq,Bt]
 refine nY ?_;clear nY
 refine Ae (Uy ?_)
 simp (disch:=first|decide|omega) only[Jg,Jq,Jw,Jx,J0,J2,J3,Oo,Ag,Ai,A8 (e2 _ _ n1)]
 (try refine Db (by(first|lia|omega)) (by rw[hlen];(first|lia|omega)) ?_)
 rw[hlen]
 refine F5 (fun i ρ H₃=>(Ii fun r4 r5=>An7 (ρ = [some (.script ns),some (.ref a),some (.ref th),some (.ref od),r4,r5]) (Ad H H₃) (LI H₃ od (Ap A i [] t).1) (LI H₃ th (Ap A i [] t).2) ((Ap A i [] t).1.length=i) ((Ap A i [] t).1.length+(Ap A i [] t).2.length=m) (∀x∈(Ap A i [] t).2,0<=x/\x<(m:Int)))) ?_ ?_ ?_
 ·exact⟨_,_,rfl,e2,vo2,vt2,rfl,by show 0+t.length=m;exact((Nat.zero_add _).trans htl),fun x hx=>B7.mp (hperm.mem_iff.mp hx)⟩
 ·rintro i ρ H₃ K hi hP55 hK'
  refine Aa fun nY=>?_
  obtain⟨r4,r5,rfl,e3,ho,ht,hgl,htl',hin⟩:=hP55
  have hi':i<m:=hi
  have hlast:Ap A (i+1) [] t=Lm A (Ap A i [] t):=Tb
  refine nY ?_;clear nY
  generalize Ap A i [] t=st at *
  obtain⟨gn,tt⟩:=st
  simp only at ho ht hgl htl' hin
  simp (disch:=first|decide|omega) only[Jg,Jp,Jw,Jx,Jy,Jz,J2,J3,Ag,Ai,Bo,Bp,Cu,true_and,Fv,hF]
  refine Y3 hU hF (hN.ext e3) ht hin (Nat.le_trans (Nat.le_add_left _ _) (Nat.le_trans (Nat.le_of_eq htl') hm)) fun H₄ e4=>?_
  have ho4:=ho.ext e4
  have ht4:=ht.ext e4
  (try dsimp only)
  unfold Lm at hlast
  cases hl:ltg A tt with
  | none=>
    refine A5 ?_
    simp (disch:=first|decide|omega) only[Jb,Je,Jg,Jm,J0,J2,J3,Qg,Bl,Ag,Ai,Option.getD_none]
    simp only[show decide ((-1:Int)<0)=true by decide,if_true]
    exact q0 _ (e3.trans e4)
  | some p=>
    simp only[hl]at hlast
    have hpm:=S3 hl
    have hpr:=hin p hpm
    have hel:=List.length_erase_of_mem hpm
    have hpos:=List.length_pos_of_mem hpm
    refine A5 ?_
    simp (disch:=first|decide|omega) only[Jb,Je,Jg,Jm,J0,J2,J3,Qg,Bl,Ag,Ai,Option.getD_some]
    simp only[show decide (p<(0:Int))=false by simp;exact hpr.1,Bool.false_eq_true,if_false]
    have hbl:(gn.map V.int).length<1048576:=by rw[List.length_map];exact Nat.lt_of_le_of_lt (Nat.le_trans (Nat.le_add_right _ _) (Nat.le_trans (Nat.le_of_eq htl') hm)) (by decide)
    have ht5:LI (upd H₄ od (.list (gn.map V.int ++ [.int p]))) th tt:=ht4.upd_ne hto
    simp (disch:=first|decide|omega) only[Jg,Jw,Jx,Ag,Ai,true_and,B0,B8 ho4,Cq ho4 hbl,B8 ht5,Uo ht5 hpm]
    refine hK' _ _ ?_
    rw[hlast]
    exact⟨_,_,rfl,((e3.trans e4).upd' no).upd' nt,LI.upd_ne (by unfold LI;rw[Ac];simp) (Ne.symm hto),Ac,by simp[hgl],by simp;exact Ajb htl' hel hpos,fun x hx=>hin x (List.mem_of_mem_erase hx)⟩
 ·rintro ρ H₃ hP56
  refine Aa fun nY=>?_
  obtain⟨r4,r5,rfl,e3,ho,ht,hgl,htl',hin⟩:=hP56
  rw[Int.toNat_natCast]at ho ht hgl htl'
  obtain⟨h1,h2⟩:=Wm g hperm (List.length_eq_zero_iff.mp (Ajc hgl htl'))
  refine nY ?_;clear nY
  try simp (disch:=first|decide|omega) only[Ag,Ai]
  exact q1 od _ H₃ e3 no ho h1 h2
set_option linter.all false
variable {G:Aw} {n:Nat} {H H':AH} {Q:Ah} {E:EP} {C:CS} {ρ:Ak}
set_option linter.all false
theorem Af5{m:Nat}{used:List Int}(h:used.length<m):(Ii fun x l=>Lj ((List.range m).filter fun j=> !decide ((j:Int)∈used))=x::l):=by
 cases hl:Lj ((List.range m).filter fun j=> !decide ((j:Int)∈used))with
 | cons x l=>exact⟨x,l,rfl⟩
 | nil=>
   exfalso
   have:=K8 (l:=Aq m) (l':=used) Cg fun y hy=>by
    have hy':=B7.mp hy
    refine Classical.byContradiction fun hn=>?_
    have:y∈Lj ((List.range m).filter fun j=> !decide ((j:Int)∈used)):=by
     rw[P0,List.mem_filter,List.mem_range]
     refine⟨hy'.1,(Q10 hy'.1 hy'.2),?_⟩
     rw[show ((y.toNat:Nat):Int)=y by exact Q15 hy'.1];simpa using hn
    rw[hl]at this;cases this
   rw[Bt]at this
   exact(Nat.lt_irrefl _ (Nat.lt_of_lt_of_le h this)).elim
variable {G:Aw} {n:Nat} {H H':AH} {Q:Ah} {E:EP} {C:CS} {ρ:Ak}
theorem Af6{a:Nat}{x:Int}{l:List Int}(h:LI H a (x::l)):C9 .minL [.ref a] H Q=Q (.int (l.foldl min x)) H:=by
 unfold LI at h
 delta C9;dsimp only;delta G8;(try dsimp only[A2,Na]);rw[h];(try dsimp only[F8]);rw[G2]
theorem Ad7{a:Nat}{x:Int}{l:List Int}(h:LI H a (x::l))(kk:Q (.int (l.foldl min x)) H):C9 .minL [.ref a] H Q:=Eq.mpr (Af6 h) kk
theorem N5(hG:G.fn "_law_behind" = some E3){a m r i:Nat}{A:Nat->Nat->Bool}{o:List Int}{p:Int}(hm:m<=60)(hN:Cr H a m A)(hL:LI H r o)(ho:Bx m o)(hi:o[i]? = some p)
 (q:∀s H',Ad H H'->H s=none->LI H' s (bh A o p)->Q (.ref s) H'):Af G (n+1) "_law_behind" [.ref a,.ref r,.int (i:Int)] H Q E:=by
 refine Aj hG rfl ?_
 have hpr:=ho.mem.mp (List.mem_of_getElem? hi)
 simp only[E3,List.map,List.cons_append,List.nil_append]
 refine Ae (Il (hvK ?_))
 simp (disch:=first|decide|omega) only[Jc,Je,Jg,Jl,Jt,J4,J8,Dn,Dp,Ag,Ai,List.replicate]
 (refine D4 hL F7 Gj ?_;rw[Lk U7])
 refine Ab fun s H₁ e1 _ v1=>?_
 rw[show ((i:Int)+1).toNat=i+1 by exact Zp,<-List.map_drop]at v1
 refine Ao v1 ?_
 have hL1:=hL.ext e1
 refine Aa fun nY=>?_
 obtain⟨as,z,a1,a2,a3,a4⟩:=(hN.ext e1).row hpr.1 hpr.2
 refine nY ?_;clear nY
 refine⟨by simp[Bq,ho.len];exact Agv hm,Dq (p:=fun y=>A p.toNat y.toNat) v1 (fun y hy K' hK'=>?_) ?_⟩
 ·have hyr:=ho.mem.mp (List.mem_of_mem_drop hy)
  simp (disch:=first|decide|omega) only[Jg,Jm,Js,Bl,Ag,Ai,H8,Al hL1 (Int.natCast_nonneg i) (LI.sub (a:=r) hi),Al a1 hpr.1 a3,Yw a4,Os hyr.1 hyr.2]
  split
  ·rename_i h;rw[if_pos h]at hK';exact hK'
  ·rename_i h;rw[if_neg h]at hK';exact hK'
 refine Ab fun s2 H₂ e2 n2 v2=>q s2 H₂ (e1.trans e2) (e1.isNone n2) ?_
 rw[Xq ho.nodup hi]
 exact v2
set_option linter.all false
variable {G:Aw} {n:Nat} {H H':AH} {Q:Ah} {E:EP} {C:CS} {ρ:Ak}
set_option linter.all false
variable {G:Aw} {n:Nat} {H H':AH} {Q:Ah} {E:EP} {C:CS} {ρ:Ak}
set_option linter.all false
/-! what full_crowds gives,in plain words -/
theorem Ze{m i:Nat}{A:Nat->Nat->Bool}{o:List Int}{r:List Int}(h:(Ch m A o)[i]? = some r):∃p∈o,r=crowd A o p/\isFull m A r=true:=by
 have:=List.mem_filter.mp (List.mem_of_getElem? h)
 obtain⟨p,hp,rfl⟩:=List.mem_map.mp this.1
 exact⟨p,hp,rfl,this.2⟩
variable {G:Aw} {n:Nat} {H H':AH} {Q:Ah} {E:EP} {C:CS} {ρ:Ak}
set_option linter.all false
variable {G:Aw} {n:Nat} {H H':AH} {Q:Ah} {E:EP} {C:CS} {ρ:Ak}
set_option linter.all false
variable {G:Aw} {n:Nat} {H H':AH} {Q:Ah} {E:EP} {C:CS} {ρ:Ak}
theorem Ab3:∀ {l:List (Option Bool)},(∀x∈l,x=some true)->F9 l=some true
 | [],_=>rfl
 | x::r,h=>by
   rw[h x List.mem_cons_self]
   show (F9 r).map (true && ·)=some true
   rw[Ab3 fun y hy=>h y (List.mem_cons_of_mem _ hy)]
   rfl
set_option linter.all false
variable {G:Aw} {n:Nat} {H H':AH} {Q:Ah} {E:EP} {C:CS} {ρ:Ak}
set_option linter.all false
variable {G:Aw} {n:Nat} {H H':AH} {Q:Ah} {E:EP} {C:CS} {ρ:Ak} {m:Nat} {A:Nat->Nat->Bool}
theorem Ms{g:AH->Prop}{elt:Ak->AH->(Option V->AH->Prop)->Prop}{Q:List V->AH->Prop}{f:Int×Int->V}(hg:g H):∀ {as:List Nat} {ps:List (Int×Int)} {acc:List V} {y z:Option V},Az H as ps->
 (∀p∈ps,∀K:Option V->AH->Prop,K (some (f p)) H->elt (some (.int p.1)::some (.int p.2)::ρ) H K)->Q (acc++ps.map f) H->Bm g (.two 0 1) elt Q ((as.map V.ref).map .v) acc (y::z::ρ) H
 | [],[],acc,y,z,_,_,fin=>⟨hg,by simpa using fin⟩
 | [],p::ps,_,_,_,hP,_,_=>by unfold Az at hP;cases hP
 | a::as,[],_,_,_,hP,_,_=>by unfold Az at hP;cases hP
 | a::as,p::ps,acc,y,z,hP,step,fin=>by
   unfold Az at hP
   rw[List.map_cons,List.map_cons]at hP
   obtain⟨h1,h2⟩:=List.cons_eq_cons.mp hP
   refine⟨hg,?_⟩
   have hb:∀N:Ak->Prop,N (some (.int p.1)::some (.int p.2)::ρ)->Kh (.two 0 1) (.v (.ref a)) (y::z::ρ) H N:=fun N hN=>by
    show (match H a with|some (.tuple [x,y'])=>N (((y::z::ρ).set 0 (some x)).set 1 (some y'))|_=>False)
    rw[h1]
    exact hN
   refine hb _ (step p List.mem_cons_self _ ?_)
   exact Ms hg (as:=as) (ps:=ps) h2 (fun q hq=>step q (List.mem_cons_of_mem _ hq)) (by simpa using fin)
noncomputable def D8(m:Nat)(A:Nat->Nat->Bool)(many:Int)(k:List Int):Prop:=k.length=m/\(∀c∈k,0<=c/\c<many)/\∀x y:Int,0<=x->x<m->0<=y->y<m->A x.toNat y.toNat=true->k.getD x.toNat 0≠k.getD y.toNat 0
theorem Uw{k:Nat}{p:Int×Int}(h:p∈G4 m A k)(hk:k<=m):(0<=p.1/\p.1<m)/\(0<=p.2/\p.2<m)/\A p.1.toNat p.2.toNat=true:=by
 unfold G4 at h
 refine Aa fun nY=>?_
 obtain⟨i,hi,hp⟩:=List.mem_flatMap.mp h
 have hi':=List.mem_range.mp hi
 unfold M8 at hp
 obtain⟨j,hj,rfl⟩:=List.mem_map.mp hp
 have hj':=Ar.mp (List.mem_filter.mp hj).1
 refine nY ?_;clear nY
 refine⟨⟨Int.natCast_nonneg _,by simp;exact(Nat.lt_of_lt_of_le hi' hk)⟩,⟨hj'.1,hj'.2.1⟩,?_⟩
 simpa using hj'.2.2
set_option linter.all false
variable {G:Aw} {n:Nat} {H H':AH} {Q:Ah} {E:EP} {C:CS} {ρ:Ak} {m:Nat} {A:Nat->Nat->Bool}
set_option linter.all false
theorem Sd{m:Nat}{A:Nat->Nat->Bool}{x y:Int}(hx:0<=x)(hx':x<m)(hy':y<m)(hxy:x<y)(h:A x.toNat y.toNat=true):(x,y)∈G4 m A m:=by
 unfold G4
 refine List.mem_flatMap.mpr ⟨x.toNat,List.mem_range.mpr ((Int.toNat_lt hx).mpr (Int.lt_trans hxy hy')),?_⟩
 unfold M8
 have ex:((x.toNat:Nat):Int)=x:=(Q15 hx)
 rw[ex]
 exact List.mem_map.mpr ⟨y,List.mem_filter.mpr ⟨Ar.mpr ⟨(Int.le_trans (Int.le_trans (Int.natCast_nonneg _) (Int.le_of_eq ex)) (Int.le_of_lt hxy)),hy',h⟩,decide_eq_true hxy⟩,rfl⟩
theorem Tc{m:Nat}{A:Nat->Nat->Bool}{many:Int}{k:List Int}(g:Gr A):D8 m A many k↔k.length=m/\(∀c∈k,0<=c/\c<many)/\∀p∈G4 m A m,k.getD p.1.toNat 0≠k.getD p.2.toNat 0:=by
 unfold D8
 refine⟨fun⟨h1,h2,h3⟩=>⟨h1,h2,fun p hp=>?_⟩,fun⟨h1,h2,h3⟩=>⟨h1,h2,fun x y hx hx' hy hy' h=>?_⟩⟩
 ·obtain⟨a1,a2,a3⟩:=Uw hp (Nat.le_refl _)
  exact h3 _ _ a1.1 a1.2 a2.1 a2.2 a3
 ·rcases Int.lt_trichotomy x y with q|q|q
  ·exact h3 _ (Sd hx hx' hy' q h)
  ·subst q;rw[g.irr]at h;cases h
  ·rw[g.symm]at h
   exact fun e=>h3 _ (Sd hy hy' hx' q h) e.symm
variable {G:Aw} {n:Nat} {H H':AH} {Q:Ah} {E:EP} {C:CS} {ρ:Ak} {m:Nat} {A:Nat->Nat->Bool}
theorem Q1(B:G1 G)(hG:G.fn "are_colours" = some Ge){w r:Nat}{k:List Int}{many:Int}(g:Gr A)(hm:m<=60)(hW:Cs H w m A)(hL:LI H r k)
 (q:∀b H',Ad H H'->(b=true↔D8 m A many k)->Q (.bool b) H'):Af G (n+2) "are_colours" [.ref w,.ref r,.int many] H Q E:=by
 refine Aa fun nY=>?_
 obtain⟨d,rs,w1,w2,w3⟩:=hW
 have hW:Cs H w m A:=⟨d,rs,w1,w2,w3⟩
 refine nY ?_;clear nY
 refine Aj hG rfl ?_
 simp only[Ge,List.map,List.cons_append,List.nil_append]
 refine Aa fun nY=>?_
 by_cases hk:k.length=m
 case neg=>
  refine nY ?_;clear nY
  refine Ae (A5 ?_)
  simp (disch:=first|decide|omega) only[Jd,Jg,Jm,Jq,Jr,Jw,Jx,J0,J2,J3,Zj,Bl,Ag,Ai,A8 hL,Bn w1 w2 (show Ds [(Ct.many,V.int m),(Ct.rows,V.ref rs)] .many=some (.int m)from rfl)]
  rw[List.length_map,decide_eq_false (Ag0 hk)]
  simp only[Bool.not_false,if_true]
  exact q false H Ad.refl ⟨fun h=>Bool.noConfusion h,fun h=>absurd h.1 hk⟩
 refine nY ?_;clear nY
 refine Dl ([some (.ref w),some (.ref r),some (.int many)]) (fun H₁=>H=H₁) (fun N hN=>?_) ?_
 ·refine A5 ?_
  simp (disch:=first|decide|omega) only[Jd,Jg,Jm,Jq,Jr,Jw,Jx,J0,J2,J3,Zj,Bl,Ag,Ai,A8 hL,Bn w1 w2 (show Ds [(Ct.many,V.int m),(Ct.rows,V.ref rs)] .many=some (.int m)from rfl)]
  rw[List.length_map,hk]
  simp only[decide_true,Bool.not_true,Bool.false_eq_true,if_false]
  exact hN _ rfl
 rintro _ rfl
 have key:∀(R:Prop) (N:Ak->AH->Prop),(∀H₁,Ad H H₁->(k.all fun c=>decide (0<=c)&&decide (c<many))=false->Q (.bool false) H₁)->(∀H₁,Ad H H₁->(k.all fun c=>decide (0<=c)&&decide (c<many))=true->N [some (.ref w),some (.ref r),some (.int many)] H₁)->
  Ki G (Af G (n+1)) (.ite (.not (.bi .all [(.comp 1 (.val (.var 1)) Ee)])) [.ret (.cbool false)] []) [some (.ref w),some (.ref r),some (.int many)] H N Q E:=by
  intro _ N h0 h1
  refine A5 (U8 (Rb (Co (Ww ?_))))
  simp (disch:=first|decide|omega) only[Jd,Jg,Jw,J0,J2,J3,J4,Bl,Dn,Dp,Ag,Ai,List.replicate]
  refine Ao hL ?_
  refine⟨by simp[Bq,hk];exact Wt hm,C8 (h:=fun c=>V.bool (decide (0<=c)&&decide (c<many))) hL (fun c hc K' hK'=>?_) ?_⟩
  ·simp (disch:=first|decide|omega) only[Je,Jg,Jn,Qg,Jbb,Bl,Ag,Ai,Ee]
   cases h1:decide (0<=c)<;>rw[h1]at hK'<;>simpa using hK'
  refine Ab fun s H₁ e1 _ v1=>?_
  (try dsimp only)
  refine P5 (l:=k.map fun c=>decide (0<=c)&&decide (c<many)) (by rw[v1,List.map_map];rfl) ?_
  (try dsimp only);(try simp (disch:=first|decide|omega) only[Bl])
  rw[List.all_map]
  cases hb:k.all (id∘fun c=>decide (0<=c)&&decide (c<many))with
  | true=>
    simp only[Bool.not_true,Bool.false_eq_true,if_false]
    exact h1 _ e1 hb
  | false=>
    simp only[Bool.not_false,if_true]
    exact h0 _ e1 hb
 refine Ae ?_
 refine key True _ (fun H₁ e1 hb=>q false H₁ e1 ⟨fun h=>Bool.noConfusion h,fun h=>?_⟩) fun H₁ e1 hb=>?_
 ·rw[show (k.all fun c=>decide (0<=c)&&decide (c<many))=true from List.all_eq_true.mpr fun c hc=>by have:=h.2.1 c hc;simp[this]]at hb
  cases hb
 have hk2:∀c∈k,0<=c/\c<many:=fun c hc=>by simpa using List.all_eq_true.mp hb c hc
 refine Aa fun nY=>?_
 obtain⟨d,rs,w1,w2,w3⟩:=hW.ext e1
 refine nY ?_;clear nY
 refine Ae (Il (Rb (Co (Ww ?_))))
 simp (disch:=first|decide|omega) only[Jg,Jw,J5,Dn,Dp,Ag,List.replicate,Cu,true_and,A4,Dv,Dw,Fo,w1,w2,B.wties]
 refine Ad3 B hm ⟨d,rs,w1,w2,w3⟩ fun a as H₂ tb=>?_
 (try dsimp only)
 refine Ao tb.at_ ?_
 have hL2:=(hL.ext e1).ext tb.ext
 refine⟨by rw[List.length_map,List.length_map,tb.prs.len];exact Nat.le_trans Sc (Nat.le_trans (Nat.mul_le_mul hm hm) (by decide)),Ms (f:=fun p=>V.bool (!decide (k.getD p.1.toNat 0=k.getD p.2.toNat 0))) tb.at_ tb.prs (fun p hp K' hK'=>?_) ?_⟩
 ·have hp':=Uw hp (Nat.le_refl _)
  have at_:∀x:Int,0<=x->x<m->(k.map V.int)[x.toNat]? = some (.int (k.getD x.toNat 0)):=fun x h0 h1=>by
   have hxl:x.toNat<k.length:=by rw[hk];exact Q10 h0 h1
   rw[List.getElem?_map,List.getElem?_eq_getElem hxl,List.getD_eq_getElem?_getD,List.getElem?_eq_getElem hxl];rfl
  simp (disch:=first|decide|omega) only[Jg,Jm,Js,Zj,Ag,Ai,Gu,Al hL2 hp'.1.1 (at_ _ hp'.1.1 hp'.1.2),Al hL2 hp'.2.1.1 (at_ _ hp'.2.1.1 hp'.2.1.2)]
  exact hK'
 ·refine Ab fun s H₃ e3 _ v3=>?_
  (try dsimp only)
  refine P5 (l:=(G4 m A m).map fun p=> !decide (k.getD p.1.toNat 0=k.getD p.2.toNat 0)) (by rw[v3,List.map_map];rfl) ?_
  refine q _ _ ((e1.trans tb.ext).trans e3) ?_
  rw[Tc g,List.all_map,List.all_eq_true]
  exact⟨fun h=>⟨hk,hk2,fun p hp=>by simpa using h p hp⟩,fun h p hp=>by simpa using h.2.2 p hp⟩
set_option linter.all false
noncomputable def Xv(m:Nat)(A:Nat->Nat->Bool)(many:Int)(k:List Int)(i:Nat):Prop:=(0<=k.getD i 0/\k.getD i 0<many)/\∀y∈Am m A i,k.getD y.toNat 0≠k.getD i 0
theorem N6{m:Nat}{A:Nat->Nat->Bool}{many:Int}{k:List Int}(hk:k.length=m):D8 m A many k↔∀i,i<m->Xv m A many k i:=by
 unfold D8 Xv
 constructor
 ·rintro⟨h1,h2,h3⟩ i hi
  refine⟨h2 _ (by rw[List.getD_eq_getElem?_getD,List.getElem?_eq_getElem (Aes h1 hi)];exact List.getElem_mem _),fun y hy=>?_⟩
  have hy':=Ar.mp hy
  have:=h3 i y Wu (Xy hi) hy'.1 hy'.2.1 hy'.2.2
  simpa using fun e=>this e.symm
 ·intro h
  refine⟨hk,fun c hc=>?_,fun x y hx hx' hy hy' ha=>?_⟩
  ·obtain⟨i,hi,rfl⟩:=List.mem_iff_getElem.mp hc
   have:=(h i (Nat.lt_of_lt_of_eq hi hk)).1
   rwa[List.getD_eq_getElem?_getD,List.getElem?_eq_getElem hi]at this
  ·exact fun e=>(h x.toNat (Zo hx' hy hy')).2 y (Ar.mpr ⟨hy,hy',ha⟩) e.symm
variable {G:Aw} {n:Nat} {H H':AH} {Q:Ah} {E:EP} {C:CS} {ρ:Ak} {m:Nat} {A:Nat->Nat->Bool}
theorem Q4(hG:G.fn "_law_colours" = some Gf){a r:Nat}{k:List Int}{many:Int}(hm:m<=60)(hN:Cr H a m A)(hL:LI H r k)
 (q:∀b H',Ad H H'->(b=true↔D8 m A many k)->Q (.bool b) H'):Af G (n+1) "_law_colours" [.ref a,.ref r,.int many] H Q E:=by
 obtain⟨as,n1,n2,n3⟩:=hN
 have hN:Cr H a m A:=⟨as,n1,n2,n3⟩
 have hlen:(as.map V.ref).length=m:=by rw[List.length_map,n2]
 refine Aj hG rfl ?_
 simp only[Gf,List.map,List.replicate,List.cons_append,List.nil_append]
 by_cases hk:k.length=m
 case neg=>
  refine Ae (A5 ?_)
  simp (disch:=first|decide|omega) only[Jd,Jg,Jm,Jq,Jw,Jx,J0,J2,J3,Zj,Bl,Ag,Ai,A8 hL,A8 n1]
  rw[hlen,List.length_map,decide_eq_false (Ag0 hk)]
  simp only[Bool.not_false,if_true]
  exact q false H Ad.refl ⟨fun h=>Bool.noConfusion h,fun h=>absurd h.1 hk⟩
 have at_:∀x:Int,0<=x->x<m->(k.map V.int)[x.toNat]? = some (.int (k.getD x.toNat 0)):=fun x h0 h1=>by
  have hxl:x.toNat<k.length:=by rw[hk];exact Q10 h0 h1
  rw[List.getElem?_map,List.getElem?_eq_getElem hxl,List.getD_eq_getElem?_getD,List.getElem?_eq_getElem hxl];rfl
 refine Dl ([some (.ref a),some (.ref r),some (.int many),none]) (fun H₁=>H=H₁) (fun N hN'=>?_) ?_
 ·refine A5 ?_
  simp (disch:=first|decide|omega) only[Jd,Jg,Jm,Jq,Jw,Jx,J0,J2,J3,Zj,Bl,Ag,Ai,A8 hL,A8 n1]
  rw[hlen,List.length_map,hk]
  simp only[decide_true,Bool.not_true,Bool.false_eq_true,if_false]
  exact hN' _ rfl
 rintro _ rfl
 refine Ae (Uy ?_)
 simp (disch:=first|decide|omega) only[Jd,Jg,Jq,Jw,Jx,J0,J2,J3,Oo,Ag,A8 n1]
 (try refine Db (by omega) (by rw[hlen];omega) ?_)
 rw[hlen]
 refine Bz (fun i r3=>[some (.ref a),some (.ref r),some (.int many),r3]) (fun i r3 H₁=>(Ad H H₁)/\(∀j,j<i->Xv m A many k j)) _ rfl ⟨Ad.refl,fun j hj=>absurd hj (Nat.not_lt_zero _)⟩ ?_ ?_
 ·rintro i r3 H₁ K hi ⟨e,hC⟩ hK
  have hi':i<m:=hi
  have hL1:=hL.ext e
  have hs:=at_ i Wu (Xy hi')
  rw[Int.toNat_natCast]at hs
  have no:¬Xv m A many k i->∀H₂,Ad H H₂->Q (.bool false) H₂:=fun hn H₂ e2=>q false H₂ e2 ⟨fun h=>Bool.noConfusion h,fun h=>absurd ((N6 hk).mp h i hi') hn⟩
  simp only[Gw,List.set_cons_succ,List.set_cons_zero]
  have hs':(k.map V.int)[(i:Int).toNat]? = some (.int (k.getD i 0)):=by rw[Int.toNat_natCast];exact hs
  generalize hci:k.getD i 0=ci at *
  refine Dl ([some (.ref a),some (.ref r),some (.int many),some (.int (i:Int))]) (fun H₂=>H₁=H₂/\0<=ci/\ci<many) (fun N hN'=>?_) ?_
  ·refine Ba (!(decide (0<=ci)&&decide (ci<many))) (fun Q' h'=>?_) ?_
   ·simp (disch:=first|decide|omega) only[Je,Jg,Jh,Jn,Js,Qg,Jbb,Bl,Ag,Ai,Al hL1 (Int.natCast_nonneg i) hs']
    cases h1:decide (0<=ci)<;>rw[h1]at h'<;>simpa using h'
   by_cases hc:0<=ci/\ci<many
   ·rw[decide_eq_true hc.1,decide_eq_true hc.2]
    simp only[Bool.and_self,Bool.not_true,Bool.false_eq_true,if_false]
    try simp (disch:=first|decide|omega) only[J2]
    exact hN' _ ⟨rfl,hc.1,hc.2⟩
   ·rw[if_pos (by simp only[Bool.not_eq_true',Bool.and_eq_false_iff,decide_eq_false_iff_not];exact(Decidable.not_and_iff_not_or_not.mp hc))]
    simp (disch:=first|decide|omega) only[Jd,J0,J2,J3]
    exact no (fun h=>hc (by have:=h.1;rw[hci]at this;exact this)) _ e
  rintro _ ⟨rfl,c0,c1⟩
  obtain⟨as',z,a1,a2,a3,a4⟩:=(hN.ext e).row (x:=i) Wu (Xy hi')
  refine Ae (A5 (Oy (hvK ?_)))
  simp (disch:=first|decide|omega) only[Jd,Jg,Js,Ju,Jw,J0,J2,J3,J4,Dn,Dp,Ag,Ai,List.replicate,Al a1 (Int.natCast_nonneg i) a3]
  refine Ao a4 ?_
  have hal:(Am m A (i:Int).toNat).length<=m:=Ff
  refine⟨by simp only[List.length_map];exact Nat.le_trans hal (Nat.le_trans hm (by decide)),Dq (p:=fun y=>decide (k.getD y.toNat 0=ci)) a4 (fun y hy K' hK'=>?_) ?_⟩
  ·have hy':=Ar.mp hy
   simp (disch:=first|decide|omega) only[Jg,Jm,Js,Qq,Bl,Ag,Ai,Gv,Al hL1 hy'.1 (at_ y hy'.1 hy'.2.1),Al hL1 (Int.natCast_nonneg i) hs']
   split
   ·rename_i h;rw[if_pos h]at hK';exact hK'
   ·rename_i h;rw[if_neg h]at hK';exact hK'
  refine Ab fun s1 H₂ e2 _ v2=>?_
  (try dsimp only)
  refine Ab fun s2 H₃ e3 _ v3=>?_
  (try dsimp only)
  refine Wa (l:=(Am m A (i:Int).toNat).filter fun y=>decide (k.getD y.toNat 0=ci)) (l':=[]) (show LI _ _ _ from e3 _ _ v2) v3 ?_
  (try dsimp only);(try simp (disch:=first|decide|omega) only[Bl])
  rw[Int.toNat_natCast]
  by_cases hf:(Am m A i).filter (fun y=>decide (k.getD y.toNat 0=ci)) = []
  ·rw[decide_eq_true hf]
   simp only[Bool.not_true,Bool.false_eq_true,if_false]
   refine hK _ _ ⟨(e.trans e2).trans e3,fun j hj=>?_⟩
   rcases Nat.lt_or_eq_of_le (Nat.le_of_lt_succ hj)with q'|q'
   ·exact hC j q'
   ·subst q'
    refine⟨by rw[hci];exact⟨c0,c1⟩,fun y hy h=>?_⟩
    rw[hci]at h
    have:y∈(Am m A j).filter fun y=>decide (k.getD y.toNat 0=ci):=List.mem_filter.mpr ⟨hy,decide_eq_true h⟩
    rw[hf]at this
    cases this
  ·rw[decide_eq_false hf]
   simp only[Bool.not_false,if_true]
   refine no (fun h=>hf (List.filter_eq_nil_iff.mpr fun y hy=>?_)) _ ((e.trans e2).trans e3)
   have:=h.2 y hy
   rw[hci]at this
   simpa using this
 ·rintro r3 H₁ ⟨e,hC⟩
  exact q true _ e ⟨fun _=>(N6 hk).mpr hC,fun _=>rfl⟩
set_option linter.all false
noncomputable def Bj(H:AH)(v:V)(p:Option (List Int)):Prop:=match p with
 | none=>v = .none
 | some l=>∃a:Nat,v = .ref a/\LI H a l
noncomputable def Qf(m:Nat)(A:Nat->Nat->Bool)(o r c k:Option (List Int))(many:Int):Prop:=match r with
 | some l=>(o=none/\c=none)/\k=none/\many=0/\P6 m A l
 | none=>(Ex3 fun lo lc lk=>Td ((o=some lo/\c=some lc/\k=some lk)) ((Bx m lo/\Xr A lo)) ((Ek m A lc/\(lc.length:Int)=many)) (D8 m A many lk))
variable {G:Aw} {n:Nat} {H H':AH} {Q:Ah} {E:EP} {C:CS} {ρ:Ak} {m:Nat} {A:Nat->Nat->Bool}
theorem Bj.ext{v:V}{p:Option (List Int)}(h:Bj H v p)(e:Ad H H'):Bj H' v p:=by
 cases p with
 | none=>exact h
 | some l=>obtain⟨a,h1,h2⟩:=h;exact⟨a,h1,h2.ext e⟩
theorem Bj.isN{v:V}{p:Option (List Int)}(h:Bj H v p):Bg .IsNot v .none H Q=Q (.bool p.isSome) H:=by
 cases p with
 | none=>rw[show v = .none from h];rfl
 | some l=>obtain⟨a,rfl,h2⟩:=h;rfl
theorem Bj.is{v:V}{p:Option (List Int)}(h:Bj H v p):Bg .Is v .none H Q=Q (.bool p.isNone) H:=by
 cases p with
 | none=>rw[show v = .none from h];rfl
 | some l=>obtain⟨a,rfl,h2⟩:=h;rfl
structure Af7(G:Aw):Prop where
 fns2:M5 G
 isCrowd:G.fn "is_crowd" = some Lc
 isRing:G.fn "is_ring" = some Mu
 areColours:G.fn "are_colours" = some Ge
 holds:G.fn "holds" = some Wy
noncomputable def Bb(p:Option (List Int)):Prop:=∀l,p=some l->l.length<64
theorem Ux(F:Af7 G){w v:Nat}{vo vr vc vk:V}{o r c k:Option (List Int)}{many:Int}(g:Gr A)(hm:m<=60)(hW:Cs H w m A)(hV:Ta H v vo vr vc vk many)
 (ho:Bj H vo o) (hr:Bj H vr r) (hc:Bj H vc c) (hk:Bj H vk k) (so:Bb o) (sr:Bb r) (sc:Bb c)
 (q:∀b H',Ad H H'->(b=true↔Qf m A o r c k many)->Q (.bool b) H'):Af G (n+5) "holds" [.ref w,.ref v] H Q E:=by
 have F2:=F.fns2
 refine Aj F.holds rfl ?_
 have att:∀ {H':AH},Ad H H'->∃d:Nat,H' v=some (.inst .verdict d)/\H' d=some (.ns [(.order,vo),(.ring,vr),(.crowd,vc),(.colours,vk),(.many,.int many)]):=fun e=>hV.ext e
 have aO:∀ {H':AH} {Q':Ah},Ad H H'->getAttr (.ref v) .order H' Q'=Q' vo H':=fun e=>by obtain⟨d,a1,a2⟩:=att e;exact Bn a1 a2 rfl
 have aR:∀ {H':AH} {Q':Ah},Ad H H'->getAttr (.ref v) .ring H' Q'=Q' vr H':=fun e=>by obtain⟨d,a1,a2⟩:=att e;exact Bn a1 a2 rfl
 have aC:∀ {H':AH} {Q':Ah},Ad H H'->getAttr (.ref v) .crowd H' Q'=Q' vc H':=fun e=>by obtain⟨d,a1,a2⟩:=att e;exact Bn a1 a2 rfl
 have aK:∀ {H':AH} {Q':Ah},Ad H H'->getAttr (.ref v) .colours H' Q'=Q' vk H':=fun e=>by obtain⟨d,a1,a2⟩:=att e;exact Bn a1 a2 rfl
 have aM:∀ {H':AH} {Q':Ah},Ad H H'->getAttr (.ref v) .many H' Q'=Q' (.int many) H':=fun e=>by obtain⟨d,a1,a2⟩:=att e;exact Bn a1 a2 rfl
 have no:∀H₁,Ad H H₁->¬Qf m A o r c k many->Q (.bool false) H₁:=fun H₁ e1 hn=>q false H₁ e1 ⟨fun h=>Bool.noConfusion h,fun h=>absurd h hn⟩
 simp only[Wy,List.map,List.cons_append,List.nil_append]
 show Br G (Af G (n+4)) _ [some (.ref w),some (.ref v)] H _ Q E
 cases r with
 | some l=>
   obtain⟨x,rfl,hx⟩:=hr
   refine Ae (A5 ?_)
   simp (disch:=first|decide|omega) only[Jb,Je,Jg,Jj,Jm,Jp,Jr,Jw,Jx,J0,J2,J3,Jbl,Bl,Ag,Ai,aR Ad.refl]
   simp only[if_true]
   refine Ba (o.isSome||(c.isSome||k.isSome)) (fun Q' h'=>?_) ?_
   ·simp (disch:=first|decide|omega) only[Jb,Jg,Jk,Jm,Jr,Bl,Ag,Ai,aO Ad.refl,aC Ad.refl,aK Ad.refl,ho.isN,hc.isN,hk.isN]
    cases h1:o.isSome<;>cases h2:c.isSome<;>rw[h1,h2]at h'<;>simpa using h'
   cases o with
   | some lo=>simp only[Option.isSome_some,Bool.true_or,if_true];simp (disch:=first|decide|omega) only[Jd,J0,J2,J3];exact no _ Ad.refl fun h=>by obtain⟨⟨h1,_⟩,_⟩:=h;cases h1
   | none=>
     cases c with
     | some lc=>simp only[Option.isSome_none,Option.isSome_some,Bool.true_or,Bool.or_true,if_true];simp (disch:=first|decide|omega) only[Jd,J0,J2,J3];exact no _ Ad.refl fun h=>by obtain⟨⟨_,h1⟩,_⟩:=h;cases h1
     | none=>
       cases k with
       | some lk=>simp only[Option.isSome_none,Option.isSome_some,Bool.or_true,if_true];simp (disch:=first|decide|omega) only[Jd,J0,J2,J3];exact no _ Ad.refl fun h=>by obtain⟨_,h1,_⟩:=h;cases h1
       | none=>
         simp only[Option.isSome_none,Bool.or_self,Bool.false_eq_true,if_false]
         simp (disch:=first|decide|omega) only[J2,Qq,Bl,Ag,Ai,aM Ad.refl]
         by_cases hz:many=0
         ·rw[decide_eq_true hz]
          simp only[if_true]
          simp (disch:=first|decide|omega) only[Cu,true_and,aR Ad.refl,F.isRing]
          exact Abm F2.fns.base F.isRing hW hx (by have:=sr l rfl;exact Aet this) fun b H₁ e1 hb=>q b H₁ e1 (by rw[hb];exact⟨fun h=>⟨⟨rfl,rfl⟩,rfl,hz,h⟩,fun h=>h.2.2.2⟩)
         ·rw[decide_eq_false hz]
          simp only[Bool.false_eq_true,if_false]
          exact no _ Ad.refl fun h=>hz h.2.2.1
 | none=>
   have hr':vr = .none:=hr
   subst hr'
   refine Dl ([some (.ref w),some (.ref v)]) (fun H₁=>H=H₁) (fun N hN=>?_) ?_
   ·refine A5 ?_
    simp (disch:=first|decide|omega) only[Jb,Je,Jg,Jj,Jm,Jp,Jr,Jw,Jx,J0,J2,J3,Jbk,Bl,Ag,Ai,aR Ad.refl]
    simp only[Bool.false_eq_true,if_false]
    exact hN _ rfl
   rintro _ rfl
   refine Ae ?_
   refine Ba (o.isNone||(c.isNone||k.isNone)) (fun Q' h'=>?_) ?_
   ·simp (disch:=first|decide|omega) only[Jb,Jg,Jk,Jm,Jr,Bl,Ag,Ai,aO Ad.refl,aC Ad.refl,aK Ad.refl,ho.is,hc.is,hk.is]
    cases h1:o.isNone<;>cases h2:c.isNone<;>rw[h1,h2]at h'<;>simpa using h'
   cases o with
   | none=>simp only[Option.isNone_none,Bool.true_or,if_true];simp (disch:=first|decide|omega) only[Jd,Jg,Jp,Jr,Jw,Jx,J0,J2,J3];exact no _ Ad.refl fun h=>by obtain⟨_,_,_,⟨h1,_⟩,_⟩:=h;cases h1
   | some lo=>
     cases c with
     | none=>simp only[Option.isNone_some,Option.isNone_none,Bool.true_or,Bool.or_true,if_true];simp (disch:=first|decide|omega) only[Jd,Jg,Jp,Jr,Jw,Jx,J0,J2,J3];exact no _ Ad.refl fun h=>by obtain⟨_,_,_,⟨_,h1,_⟩,_⟩:=h;cases h1
     | some lc=>
       cases k with
       | none=>simp only[Option.isNone_some,Option.isNone_none,Bool.or_true,if_true];simp (disch:=first|decide|omega) only[Jd,Jg,Jp,Jr,Jw,Jx,J0,J2,J3];exact no _ Ad.refl fun h=>by obtain⟨_,_,_,⟨_,_,h1⟩,_⟩:=h;cases h1
       | some lk=>
         simp only[Option.isNone_some,Bool.or_self,Bool.false_eq_true,if_false]
         obtain⟨xo,rfl,hxo⟩:=ho
         obtain⟨xc,rfl,hxc⟩:=hc
         obtain⟨xk,rfl,hxk⟩:=hk
         have slo:=so lo rfl
         have slc:=sc lc rfl
         have iff:Qf m A (some lo) none (some lc) (some lk) many↔(Bx m lo/\Xr A lo)/\(Ek m A lc/\(lc.length:Int)=many)/\D8 m A many lk:=
          ⟨fun h=>by obtain⟨_,_,_,⟨h1,h2,h3⟩,h4,h5,h6⟩:=h;cases h1;cases h2;cases h3;exact⟨h4,h5,h6⟩,fun h=>⟨lo,lc,lk,⟨rfl,rfl,rfl⟩,h.1,h.2.1,h.2.2⟩⟩
         rw[iff]at no
         rw[iff]at q
         refine Dl ([some (.ref w),some (.ref v)]) (fun H₁=>Ad H H₁/\Bx m lo/\Xr A lo) (fun N hN=>?_) ?_
         ·refine A5 ?_
          simp (disch:=first|decide|omega) only[Jb,Jd,Jg,Jh,Jk,Jm,Jp,Jr,Jw,Jx,J0,J2,J3,Bl,Ag,Ai,Cu,true_and,aO Ad.refl,F2.isOrder,F2.gap]
          refine R9 F2 hm hW hxo slo fun H₁ e1=>?_
          by_cases h1:Bx m lo
          ·rw[decide_eq_true (show Bd lo=Aq m from h1)]
           (try dsimp only);(try simp (disch:=first|decide|omega) only[Bl])
           simp only[Bool.not_true,Bool.false_eq_true,if_false]
           rw[aO e1]
           (try dsimp only)
           refine Aem F2 hm (hW.ext e1) (hxo.ext e1) h1 fun H₂ e2=>?_
           cases hg:gp A lo with
           | none=>
             (try dsimp only);(try simp (disch:=first|decide|omega) only[Jbk,Bl])
             simp only[Bool.false_eq_true,if_false]
             exact hN _ ⟨e1.trans e2,h1,S4.mp hg⟩
           | some t=>
             obtain⟨p,x,y⟩:=t
             intro z hz
             (try dsimp only);(try simp (disch:=first|decide|omega) only[Jbl,Bl])
             simp only[if_true]
             refine no _ ((e1.trans e2).trans (Ad.upd hz)) fun h=>?_
             rw[S4.mpr h.1.2]at hg
             cases hg
          ·rw[decide_eq_false (show ¬Bd lo=Aq m from h1)]
           (try dsimp only);(try simp (disch:=first|decide|omega) only[Bl])
           simp only[Bool.not_false,if_true]
           exact no _ e1 fun h=>h1 h.1.1
         rintro H₁ ⟨e1,hio,hpo⟩
         refine Dl ([some (.ref w),some (.ref v)]) (fun H₂=>Ad H H₂/\Ek m A lc/\(lc.length:Int)=many) (fun N hN=>?_) ?_
         ·refine A5 ?_
          simp (disch:=first|decide|omega) only[Jd,Jg,Jh,Jk,Jm,Jp,Jq,Jr,Jw,Jx,J0,J2,J3,Bl,Ag,Ai,Cu,true_and,aC e1,F.isCrowd]
          refine Yz F2.fns.base F2.fns.untied F.isCrowd (hW.ext e1) (hxc.ext e1) (Aet slc) fun b H₂ e2 hb=>?_
          have e12:=e1.trans e2
          cases b with
          | false=>
            (try dsimp only);(try simp (disch:=first|decide|omega) only[Bl])
            simp only[Bool.not_false,if_true]
            exact no _ e12 fun h=>by have:=hb.mpr h.2.1.1;cases this
          | true=>
            (try dsimp only);(try simp (disch:=first|decide|omega) only[Bl])
            simp only[Bool.not_true,Bool.false_eq_true,if_false]
            rw[aC e12,A8 (hxc.ext e12),aM e12]
            (try dsimp only);(try simp (disch:=first|decide|omega) only[Zj,Bl])
            rw[List.length_map]
            by_cases hl:(lc.length:Int)=many
            ·rw[decide_eq_true hl]
             simp only[Bool.not_true,Bool.false_eq_true,if_false]
             exact hN _ ⟨e12,hb.mp rfl,hl⟩
            ·rw[decide_eq_false hl]
             simp only[Bool.not_false,if_true]
             exact no _ e12 fun h=>hl h.2.1.2
         rintro H₂ ⟨e2,hcr,hl⟩
         refine Ae (Il ?_)
         simp (disch:=first|decide|omega) only[Jg,Jp,Jr,Jw,Jx,Ag,Ai,Cu,true_and,aK e2,aM e2,F.areColours]
         exact Q1 F2.fns.base F.areColours g hm (hW.ext e2) (hxk.ext e2) fun b H₃ e3 hb=>q b H₃ (e2.trans e3) (by rw[hb];exact⟨fun h=>⟨⟨hio,hpo⟩,⟨hcr,hl⟩,h⟩,fun h=>h.2.2⟩)
set_option linter.all false
variable {G:Aw} {n:Nat} {H H':AH} {Q:Ah} {E:EP} {C:CS} {ρ:Ak} {m:Nat} {A:Nat->Nat->Bool}
structure Af8(G:Aw):Prop where
 behind:G.fn "_law_behind" = some E3
 untied:G.fn "_law_untied" = some D0
 ring:G.fn "_law_ring" = some Gd
 crowd:G.fn "_law_crowd" = some Iv
 colours:G.fn "_law_colours" = some Gf
 good:G.fn "_law_good" = some Pa
theorem Xw(F:Af8 G){a ps:Nat}{vo vr vc vk:V}{o r c k:Option (List Int)}{many:Int}(g:Gr A)(hm:m<=60)(hN:Cr H a m A)(hP:H ps=some (.list [vo,vr,vc,vk,.int many]))
 (ho:Bj H vo o) (hr:Bj H vr r) (hc:Bj H vc c) (hk:Bj H vk k) (so:Bb o) (sr:Bb r) (sc:Bb c)
 (q:∀b H',Ad H H'->(b=true↔Qf m A o r c k many)->Q (.bool b) H'):Af G (n+2) "_law_good" [.ref a,.ref ps] H Q E:=by
 obtain⟨as,n1,n2,n3⟩:=hN
 have hN:Cr H a m A:=⟨as,n1,n2,n3⟩
 have hlen:(as.map V.ref).length=m:=by rw[List.length_map,n2]
 refine Aj F.good rfl ?_
 have s0:∀ {H':AH} {Q':Ah},Ad H H'->B9 (.ref ps) (.int 0) H' Q'=Q' vo H':=fun e=>Al (e _ _ hP) (by decide) rfl
 have s1:∀ {H':AH} {Q':Ah},Ad H H'->B9 (.ref ps) (.int 1) H' Q'=Q' vr H':=fun e=>Al (e _ _ hP) (by decide) rfl
 have s2:∀ {H':AH} {Q':Ah},Ad H H'->B9 (.ref ps) (.int 2) H' Q'=Q' vc H':=fun e=>Al (e _ _ hP) (by decide) rfl
 have s3:∀ {H':AH} {Q':Ah},Ad H H'->B9 (.ref ps) (.int 3) H' Q'=Q' vk H':=fun e=>Al (e _ _ hP) (by decide) rfl
 have s4:∀ {H':AH} {Q':Ah},Ad H H'->B9 (.ref ps) (.int 4) H' Q'=Q' (.int many) H':=fun e=>Al (e _ _ hP) (by decide) rfl
 have no:∀H₁,Ad H H₁->¬Qf m A o r c k many->Q (.bool false) H₁:=fun H₁ e1 hn=>q false H₁ e1 ⟨fun h=>Bool.noConfusion h,fun h=>absurd h hn⟩
 simp only[Pa,List.map,List.replicate,List.cons_append,List.nil_append]
 refine Dl ([some (.ref a),some (.ref ps),some vo,none]) (fun H₁=>H=H₁) (fun N hN'=>?_) ?_
 ·simp (disch:=first|decide|omega) only[Je,Jg,Js,Jy,Ag,Ai,Bo,Bp,s0 Ad.refl]
  exact hN' _ rfl
 rintro _ rfl
 cases r with
 | some l=>
   obtain⟨x,rfl,hx⟩:=hr
   refine Ae (A5 ?_)
   simp (disch:=first|decide|omega) only[Jb,Je,Jg,Jj,Jm,Jp,Js,Jw,Jx,J0,J2,J3,Jbl,Bl,Ag,Ai,s1 Ad.refl]
   simp only[if_true]
   refine Ba (o.isSome||c.isSome) (fun Q' h'=>?_) ?_
   ·simp (disch:=first|decide|omega) only[Jb,Je,Jg,Jk,Jm,Js,Bl,Ag,Ai,s2 Ad.refl,ho.isN,hc.isN]
    cases h1:o.isSome<;>rw[h1]at h'<;>simpa using h'
   cases o with
   | some lo=>simp only[Option.isSome_some,Bool.true_or,if_true];simp (disch:=first|decide|omega) only[Jd,J0,J2,J3];exact no _ Ad.refl fun h=>by obtain⟨⟨h1,_⟩,_⟩:=h;cases h1
   | none=>
     cases c with
     | some lc=>simp only[Option.isSome_none,Option.isSome_some,Bool.or_true,if_true];simp (disch:=first|decide|omega) only[Jd,J0,J2,J3];exact no _ Ad.refl fun h=>by obtain⟨⟨_,h1⟩,_⟩:=h;cases h1
     | none=>
       simp only[Option.isSome_none,Bool.or_self,Bool.false_eq_true,if_false]
       simp (disch:=first|decide|omega) only[J2,Bl,Ag,Ai,s3 Ad.refl,hk.is]
       cases k with
       | some lk=>
         simp only[Option.isNone_some,Bool.false_eq_true,if_false]
         exact no _ Ad.refl fun h=>by obtain⟨_,h1,_⟩:=h;cases h1
       | none=>
         simp only[Option.isNone_none,if_true]
         simp (disch:=first|decide|omega) only[Qq,Bl,s4 Ad.refl]
         by_cases hz:many=0
         ·rw[decide_eq_true hz]
          simp only[if_true]
          simp (disch:=first|decide|omega) only[Cu,true_and,s1 Ad.refl,F.ring]
          exact Y0 F.ring g hN hx (sr l rfl) fun b H₁ e1 hb=>q b H₁ e1 (by rw[hb];exact⟨fun h=>⟨⟨rfl,rfl⟩,rfl,hz,h⟩,fun h=>h.2.2.2⟩)
         ·rw[decide_eq_false hz]
          simp only[Bool.false_eq_true,if_false]
          exact no _ Ad.refl fun h=>hz h.2.2.1
 | none=>
   have hr':vr = .none:=hr
   subst hr'
   refine Dl ([some (.ref a),some (.ref ps),some vo,none]) (fun H₁=>H=H₁) (fun N hN'=>?_) ?_
   ·refine A5 ?_
    simp (disch:=first|decide|omega) only[Jb,Je,Jg,Jj,Jm,Jp,Js,Jw,Jx,J0,J2,J3,Jbk,Bl,Ag,Ai,s1 Ad.refl]
    simp only[Bool.false_eq_true,if_false]
    exact hN' _ rfl
   rintro _ rfl
   refine Ae ?_
   refine Ba (o.isNone||(c.isNone||k.isNone)) (fun Q' h'=>?_) ?_
   ·simp (disch:=first|decide|omega) only[Jb,Je,Jg,Jk,Jm,Js,Bl,Ag,Ai,s2 Ad.refl,s3 Ad.refl,ho.is,hc.is,hk.is]
    cases h1:o.isNone<;>cases h2:c.isNone<;>rw[h1,h2]at h'<;>simpa using h'
   cases o with
   | none=>simp only[Option.isNone_none,Bool.true_or,if_true];simp (disch:=first|decide|omega) only[Jd,Je,Jg,Jp,Js,Jw,Jx,J0,J2,J3];exact no _ Ad.refl fun h=>by obtain⟨_,_,_,⟨h1,_⟩,_⟩:=h;cases h1
   | some lo=>
     cases c with
     | none=>simp only[Option.isNone_some,Option.isNone_none,Bool.true_or,Bool.or_true,if_true];simp (disch:=first|decide|omega) only[Jd,Je,Jg,Jp,Js,Jw,Jx,J0,J2,J3];exact no _ Ad.refl fun h=>by obtain⟨_,_,_,⟨_,h1,_⟩,_⟩:=h;cases h1
     | some lc=>
       cases k with
       | none=>simp only[Option.isNone_some,Option.isNone_none,Bool.or_true,if_true];simp (disch:=first|decide|omega) only[Jd,Je,Jg,Jp,Js,Jw,Jx,J0,J2,J3];exact no _ Ad.refl fun h=>by obtain⟨_,_,_,⟨_,_,h1⟩,_⟩:=h;cases h1
       | some lk=>
         simp only[Option.isNone_some,Bool.or_self,Bool.false_eq_true,if_false]
         obtain⟨xo,rfl,hxo⟩:=ho
         obtain⟨xc,rfl,hxc⟩:=hc
         obtain⟨xk,rfl,hxk⟩:=hk
         have slo:=so lo rfl
         have slc:=sc lc rfl
         have iff:Qf m A (some lo) none (some lc) (some lk) many↔(Bx m lo/\Xr A lo)/\(Ek m A lc/\(lc.length:Int)=many)/\D8 m A many lk:=
          ⟨fun h=>by obtain⟨_,_,_,⟨h1,h2,h3⟩,h4,h5,h6⟩:=h;cases h1;cases h2;cases h3;exact⟨h4,h5,h6⟩,fun h=>⟨lo,lc,lk,⟨rfl,rfl,rfl⟩,h.1,h.2.1,h.2.2⟩⟩
         rw[iff]at no
         rw[iff]at q
         refine Dl ([some (.ref a),some (.ref ps),some (.ref xo),none]) (fun H₁=>Ad H H₁/\Bx m lo) (fun N hN'=>?_) ?_
         ·refine A5 ?_
          simp (disch:=first|decide|omega) only[Jd,Jg,Jm,Jq,Jw,Jx,J0,J2,J3,Ag,Ai,Oq hxo slo]
          refine Ab fun t1 H₁ e1 _ v1=>?_
          (try dsimp only)
          (refine Xh (e1 _ _ n1) ?_;rw[hlen])
          (try dsimp only)
          refine Qr (Int.natCast_nonneg _) (Int.ofNat_le.mpr (Nat.le_trans hm (by decide))) ?_
          refine Ab fun t2 H₂ e2 _ v2=>?_
          (try dsimp only)
          have v2':LI H₂ t2 (Aq m):=by unfold LI;rw[v2,Int.toNat_natCast,Hv]
          refine Wa (l:=Bd lo) (e2 _ _ v1) v2' ?_
          (try dsimp only);(try simp (disch:=first|decide|omega) only[Bl])
          by_cases h1:Bx m lo
          ·rw[decide_eq_true (show Bd lo=Aq m from h1)]
           simp only[Bool.not_true,Bool.false_eq_true,if_false]
           exact hN' _ ⟨e1.trans e2,h1⟩
          ·rw[decide_eq_false (show ¬Bd lo=Aq m from h1)]
           simp only[Bool.not_false,if_true]
           exact no _ (e1.trans e2) fun h=>h1 h.1.1
         rintro H₁ ⟨e1,hio⟩
         refine C3 (fun r3=>[some (.ref a),some (.ref ps),some (.ref xo),r3]) (fun r3 H₂=>(Ad H H₂)/\(Xr A lo)) (fun N hN'=>?_) ?_
         ·refine Uy ?_
          simp (disch:=first|decide|omega) only[Jg,Jq,Jw,Jx,Ag,Ai,A8 (hxo.ext e1)]
          (try refine Db (Int.natCast_nonneg _) (by rw[List.length_map];exact(Int.ofNat_le.mpr (Nat.le_trans (Nat.le_of_lt slo) (by decide)))) ?_)
          refine Bz (fun i r3=>[some (.ref a),some (.ref ps),some (.ref xo),r3]) (fun i r3 H₂=>(Ad H H₂)/\(∀(j:Nat) (p:Int),j<i->lo[j]? = some p->fu A (bh A lo p)=none)) _ rfl ⟨e1,fun j p hj=>absurd hj (Nat.not_lt_zero _)⟩ ?_ ?_
          ·rintro i r3 H₂ K hi ⟨e2,hC⟩ hK
           have hi':i<lo.length:=by simpa using hi
           have hx:=List.getElem?_eq_getElem hi'
           generalize lo[i]=p at hx
           have hbl:=P9 (A:=A) (o:=lo) (p:=p)
           rw[hio.len]at hbl
           simp only[K1,List.set_cons_succ,List.set_cons_zero,J3,J2]
           refine A5 ?_
           simp (disch:=first|decide|omega) only[Jb,Jd,Jg,Jm,Jp,Jw,Jx,J0,J2,J3,Ag,Ai,Cu,true_and,F.untied,F.behind]
           refine N5 F.behind hm (hN.ext e2) (hxo.ext e2) hio hx fun t1 H₃ e3 _ v3=>?_
           (try dsimp only)
           refine N3 F.untied ((hN.ext e2).ext e3) v3 (Nat.le_trans hbl (Nat.le_trans (Nat.sub_le _ _) (Nat.le_trans hm (by decide)))) (fun y hy=>hio.mem.mp (M4 hy)) fun H₄ e4=>?_
           have e04:=(e2.trans e3).trans e4
           cases hf:fu A (bh A lo p)with
           | none=>
             (try dsimp only);(try simp (disch:=first|decide|omega) only[Jbk,Bl])
             simp only[Bool.false_eq_true,if_false]
             refine hK _ _ ⟨e04,fun j p' hj hp'=>?_⟩
             rcases Nat.lt_or_eq_of_le (Nat.le_of_lt_succ hj)with w|w
             ·exact hC j p' w hp'
             ·subst w;rw[hx]at hp';cases hp';exact hf
           | some t=>
             obtain⟨x,y⟩:=t
             intro z hz
             (try dsimp only);(try simp (disch:=first|decide|omega) only[Jbl,Bl])
             simp only[if_true]
             refine no _ (e04.trans (Ad.upd hz)) fun h=>?_
             have:=h.1.2 p (List.mem_of_getElem? hx)
             rw[this]at hf
             cases hf
          ·rintro r3 H₂ ⟨e2,hC⟩
           refine hN' _ _ ⟨e2,fun p hp=>?_⟩
           obtain⟨j,hj⟩:=List.mem_iff_getElem?.mp hp
           exact hC j p (by have:=(List.getElem?_eq_some_iff.mp hj).1;simpa using this) hj
         rintro r3 H₂ ⟨e2,hpo⟩
         refine Dl ([some (.ref a),some (.ref ps),some (.ref xo),r3]) (fun H₃=>Ad H H₃/\Ek m A lc/\(lc.length:Int)=many) (fun N hN'=>?_) ?_
         ·refine A5 ?_
          simp (disch:=first|decide|omega) only[Jd,Je,Jg,Jh,Jk,Jm,Jp,Jq,Js,Jw,Jx,J0,J2,J3,Zj,Bl,Ag,Ai,s2 e2,s4 e2,A8 (hxc.ext e2)]
          rw[List.length_map]
          by_cases hl:(lc.length:Int)=many
          ·rw[decide_eq_true hl]
           simp only[Bool.not_true,Bool.false_eq_true,if_false]
           simp (disch:=first|decide|omega) only[Cu,true_and,F.crowd]
           refine Wb F.crowd g (hN.ext e2) (hxc.ext e2) (Aet slc) fun b H₃ e3 hb=>?_
           cases b with
           | false=>
             (try dsimp only);(try simp (disch:=first|decide|omega) only[Bl])
             simp only[Bool.not_false,if_true]
             exact no _ (e2.trans e3) fun h=>by have:=hb.mpr h.2.1.1;cases this
           | true=>
             (try dsimp only);(try simp (disch:=first|decide|omega) only[Bl])
             simp only[Bool.not_true,Bool.false_eq_true,if_false]
             exact hN' _ ⟨e2.trans e3,hb.mp rfl,hl⟩
          ·rw[decide_eq_false hl]
           simp only[Bool.not_false,if_true]
           exact no _ e2 fun h=>hl h.2.1.2
         rintro H₃ ⟨e3,hcr,hl⟩
         refine Ae (Il ?_)
         simp (disch:=first|decide|omega) only[Je,Jg,Jp,Js,Jw,Jx,Ag,Ai,Cu,true_and,s3 e3,s4 e3,F.colours]
         exact Q4 F.colours hm (hN.ext e3) (hxk.ext e3) fun b H₄ e4 hb=>q b H₄ (e3.trans e4) (by rw[hb];exact⟨fun h=>⟨⟨hio,hpo⟩,⟨hcr,hl⟩,h⟩,fun h=>h.2.2⟩)
set_option linter.all false
variable {G:Aw} {n:Nat} {H H':AH} {Q:Ah} {E:EP} {C:CS} {ρ:Ak} {m:Nat} {A:Nat->Nat->Bool}
inductive Pt where
 | p (x:Option (List Int))|i (x:Int)
noncomputable def M9(H:AH)(v:V)(x:Pt):Prop:=match x with
 | .p x=>Bj H v x
 | .i k=>v = .int k
theorem M9.ext{v:V}{x:Pt}(h:M9 H v x)(e:Ad H H'):M9 H' v x:=by
 cases x with
 | p x=>exact Bj.ext h e
 | i k=>exact h
noncomputable def Cm(H:AH)(vs:List V)(xs:List Pt):Prop:=vs.length=xs.length/\∀(j:Nat) (v:V) (x:Pt),vs[j]? = some v->xs[j]? = some x->M9 H v x
theorem Cm.ext{vs:List V}{xs:List Pt}(h:Cm H vs xs)(e:Ad H H'):Cm H' vs xs:=⟨h.1,fun j v x h1 h2=>(h.2 j v x h1 h2).ext e⟩
theorem Cm.five{vs:List V}{o r c k:Option (List Int)}{many:Int}(h:Cm H vs [.p o,.p r,.p c,.p k,.i many]):(Ex4 fun vo vr vc vk=>U1 (vs = [vo,vr,vc,vk,.int many]) (Bj H vo o) (Bj H vr r) (Bj H vc c) (Bj H vk k)):=by
 refine Aa fun nY=>?_
 obtain⟨hl,h⟩:=h
 rcases vs with _ | ⟨v0,_ | ⟨v1,_ | ⟨v2,_ | ⟨v3,_ | ⟨v4,_ | ⟨v5,r'⟩⟩⟩⟩⟩⟩<;>first|(cases hl;done)|skip
 have h4:v4 = .int many:=h 4 v4 _ rfl rfl
 refine nY ?_;clear nY
 exact⟨v0,v1,v2,v3,by rw[h4],h 0 v0 _ rfl rfl,h 1 v1 _ rfl rfl,h 2 v2 _ rfl rfl,h 3 v3 _ rfl rfl⟩
theorem Cm.mk5{vo vr vc vk:V}{o r c k:Option (List Int)}{many:Int}(h0:Bj H vo o)(h1:Bj H vr r)(h2:Bj H vc c)(h3:Bj H vk k):Cm H [vo,vr,vc,vk,.int many] [.p o,.p r,.p c,.p k,.i many]:=by
 refine⟨rfl,fun j v x e1 e2=>?_⟩
 refine Aa fun nY=>?_
 rcases j with _|_|_|_|_|j
 ·refine nY ?_;clear nY
  cases e1;cases e2;exact h0
 ·refine nY ?_;clear nY
  cases e1;cases e2;exact h1
 ·refine nY ?_;clear nY
  cases e1;cases e2;exact h2
 ·refine nY ?_;clear nY
  cases e1;cases e2;exact h3
 ·refine nY ?_;clear nY
  cases e1;cases e2;exact rfl
 ·cases e1
theorem Zf:C9 (.isinst .list) [.none] H Q=Q (.bool false) H:=propext ⟨fun h=>h.2,fun h=>⟨rfl,h⟩⟩
theorem Zg{i:Int}:C9 (.isinst .list) [.int i] H Q=Q (.bool false) H:=propext ⟨fun h=>h.2,fun h=>⟨rfl,h⟩⟩
theorem Af9(hG:G.fn "_law_copy" = some Hg){v:V}{x:Pt}(h:M9 H v x)(q:∀v' H',Ad H H'->M9 H' v' x->Q v' H'):Af G (n+1) "_law_copy" [v] H Q E:=by
 refine Aj hG rfl ?_
 simp only[Hg,List.map,List.cons_append,List.nil_append]
 show Br G (Af G n) _ [some v] H _ Q E
 refine Ae (A5 ?_)
 have no:v = .none\/(∃i,v = .int i)->M9 H v x->Av G (Af G n) (.bi (.isinst .list) [(.var 0)]) [some v] H (fun c H=>truthy c fun b=>if b=true then Br G (Af G n) [.ret (.bi .list [(.var 0)])] [some v] H (fun ρ H=>Br G (Af G n) [.ret (.var 0)] ρ H (fun _ H=>Q .none H) Q E) Q E else Br G (Af G n) [] [some v] H (fun ρ H=>Br G (Af G n) [.ret (.var 0)] ρ H (fun _ H=>Q .none H) Q E) Q E) E:=by
  rintro(rfl | ⟨i,rfl⟩) hx
  ·simp (disch:=first|decide|omega) only[Jg,Jq,Jw,Jx,J0,J2,J3,Bl,Ag,Zf]
   simp only[Bool.false_eq_true,if_false]
   exact q _ _ Ad.refl hx
  ·simp (disch:=first|decide|omega) only[Jg,Jq,Jw,Jx,J0,J2,J3,Bl,Ag,Zg]
   simp only[Bool.false_eq_true,if_false]
   exact q _ _ Ad.refl hx
 cases x with
 | i k=>exact no (.inr ⟨k,h⟩) h
 | p x=>
   cases x with
   | none=>exact no (.inl h) h
   | some l=>
     obtain⟨a,rfl,ha⟩:=h
     simp (disch:=first|decide|omega) only[Jg,Jq,Jw,Jx,J0,J2,J3,Bl,Ag,Abs ha]
     simp only[if_true]
     try simp (disch:=first|decide|omega) only[Mr ha]
     exact Ab fun b H₁ e1 _ v1=>q _ _ e1 ⟨b,rfl,v1⟩
theorem N7(hG:G.fn "_law_copy" = some Hg){ps:Nat}{vs:List V}{xs:List Pt}{Q:List V->AH->Prop}{y:Option V}(hP:H ps=some (.list vs))(hA:Cm H vs xs)
 (fin:∀vs' H₁,Ad H H₁->Cm H₁ vs' xs->Q vs' H₁) :
 Bm (fun H'=>H' ps=some (.list vs)) (.one 0) (fun ρ H K=>Av G (Af G (n+1)) (.call "_law_copy" [(.var 0)]) ρ H (fun v H=>K (some v) H) EF) Q (vs.map .v) [] (y::ρ) H:=by
 refine Ck (k:=0) (fun j acc H₁=>Ad H H₁/\Cm H₁ acc (xs.take j)) ⟨Ad.refl,rfl,fun j v x h1=>by cases h1⟩ ?_ ?_
 ·rintro j x acc H₁ K hx ⟨e,ha⟩ hK
  rw[List.getElem?_map]at hx
  obtain⟨v,hv,rfl⟩:=Option.map_eq_some_iff.mp hx
  have hj:=(List.getElem?_eq_some_iff.mp hv).1
  have hxi:=List.getElem?_eq_getElem (l:=xs) (i:=j) (by rw[<-hA.1];exact hj)
  generalize xs[j]'(by rw[<-hA.1];exact hj)=x at hxi
  refine⟨e _ _ hP,_,rfl,?_⟩
  simp (disch:=first|decide|omega) only[Jg,Jp,Jw,Jx,Ag,Cu,true_and,hG]
  refine Af9 hG ((hA.2 j v x hv hxi).ext e) fun v' H₂ e2 h2=>hK _ _ ⟨e.trans e2,?_⟩
  rw[Nat.zero_add]at ha ⊢
  rw[List.take_add_one,hxi]
  have ha2:=ha.ext e2
  refine⟨by simp[ha2.1],fun i w z h3 h4=>?_⟩
  rcases Nat.lt_trichotomy i acc.length with q|q|q
  ·rw[List.getElem?_append_left q]at h3
   rw[List.getElem?_append_left (by rw[<-ha2.1];exact q)]at h4
   exact ha2.2 i w z h3 h4
  ·subst q
   rw[List.getElem?_append_right (Nat.le_refl _),Nat.sub_self]at h3
   rw[ha2.1,List.getElem?_append_right (Nat.le_refl _),Nat.sub_self]at h4
   cases h3;cases h4
   exact h2
  ·rw[List.getElem?_eq_none (by simp;exact q)]at h3;cases h3
 ·rintro acc H₁ ⟨e,ha⟩
  rw[List.length_map,Nat.zero_add,List.take_of_length_le (by rw[hA.1];exact Nat.le_refl _)]at ha
  exact⟨e _ _ hP,fin acc H₁ e ha⟩
set_option linter.all false
variable {G:Aw} {n:Nat} {H H':AH} {Q:Ah} {E:EP} {C:CS} {ρ:Ak} {m:Nat} {A:Nat->Nat->Bool}
theorem Bb.some{l:List Int}(h:l.length<64):Bb (some l):=fun l' e=>by cases e;exact h
theorem Bb.none:Bb none:=fun l' e=>by cases e
theorem Hy(hG:G.fn "_law_list_anew" = some Ep){v:V}{p:Option (List Int)}{cell far most:Int}(h:Bj H v p)(hl:∀l,p=some l->l.length<=60)(hc0:0<=cell)
 (q:∀v' p' H',Ad H H'->Bj H' v' p'->Bb p'->Q v' H'):Af G (n+1) "_law_list_anew" [v,.int cell,.int far,.int most] H Q E:=by
 refine Aj hG rfl ?_
 simp only[Ep,List.map,List.replicate,List.cons_append,List.nil_append]
 cases p with
 | none=>
   have hv:v = .none:=h
   subst hv
   refine Ae (A5 ?_)
   simp (disch:=first|decide|omega) only[Jb,Jc,Je,Jg,Jl,Jm,Jq,Js,Jt,Ju,Jw,Jx,Jy,J0,J2,J3,J6,J7,Jbi,Bl,Ag,Ai,Bo,Bp]
   simp only[if_true]
   refine Ab fun a1 H₁ e1 _ v1=>?_
   (try dsimp only)
   refine Ab fun a2 H₂ e2 _ v2=>?_
   (try dsimp only)
   refine Ab fun a3 H₃ e3 _ v3=>?_
   (try dsimp only)
   refine Ab fun a4 H₄ e4 _ v4=>?_
   (try dsimp only)
   have e14:=((e1.trans e2).trans e3).trans e4
   have hx:cell%4=0\/cell%4=1\/cell%4=2\/cell%4=3:=Q45
   rcases hx with z|z|z|z<;>rw[z]
   ·refine Cy (x:= .none) v4 (by decide) rfl ?_
    exact q _ none _ e14 rfl Bb.none
   ·refine Cy (x:= .ref a1) v4 (by decide) rfl ?_
    exact q _ (some []) _ e14 ⟨a1,rfl,((e2.trans e3).trans e4) _ _ v1⟩ (Bb.some (by decide))
   ·refine Cy (x:= .ref a2) v4 (by decide) rfl ?_
    exact q _ (some [0,1,2,3]) _ e14 ⟨a2,rfl,(e3.trans e4) _ _ v2⟩ (Bb.some (by decide))
   ·refine Cy (x:= .ref a3) v4 (by decide) rfl ?_
    exact q _ (some [0]) _ e14 ⟨a3,rfl,e4 _ _ v3⟩ (Bb.some (by decide))
 | some l=>
   obtain⟨a,rfl,ha⟩:=h
   have hll:=hl l rfl
   refine Dl ([some (.ref a),some (.int cell),some (.int far),some (.int most),none,none,none,none,none]) (fun H₁=>H=H₁) (fun N hN=>?_) ?_
   ·refine A5 ?_
    simp (disch:=first|decide|omega) only[Jb,Je,Jg,Jl,Jm,Js,Ju,Jw,Jx,J0,J2,J3,J6,Jbj,Bl,Ag,Ai]
    simp only[Bool.false_eq_true,if_false]
    exact hN _ rfl
   rintro _ rfl
   refine C3 (fun(kd:Int)=>[some (.ref a),some (.int cell),some (.int far),some (.int most),some (.int kd),none,none,none,none]) (fun(kd:Int) H₁=>H=H₁) (fun N hN=>?_) ?_
   ·simp (disch:=first|decide|omega) only[Je,Jg,Jl,Jy,J6,Ag,Ai,Bo,Bp]
    exact hN _ _ rfl
   rintro kd _ rfl
   refine seq (fun ρ H₁=>(Q9 fun(pl:Nat)=>E6 (ρ = [some (.ref a),some (.int cell),some (.int far),some (.int most),some (.int kd),some (.int (pl:Int)),none,none,none]) (H=H₁) (pl<=l.length))) (fun N hN=>?_) ?_
   ·simp (disch:=first|decide|omega) only[Je,Jg,Jl,Jq,Jw,Jx,Jy,J7,J8,Ag,Ai,Bo,Bp,A8 ha]
    rw[List.length_map]
    have h1:0<=cell/12%((l.length:Int)+1):=Int.emod_nonneg _ (Int.ne_of_gt (Int.natCast_pos.mpr (Nat.succ_pos _)))
    have h2:cell/12%((l.length:Int)+1)<(l.length:Int)+1:=Int.emod_lt_of_pos _ (Int.ofNat_lt.mpr (Nat.succ_pos _))
    first
     | exact hN _ _ ⟨(cell/12%((l.length:Int)+1)).toNat,by rw[Int.toNat_of_nonneg h1],rfl,(Int.toNat_le.mpr (Int.le_of_lt_add_one h2))⟩
     | (refine V0 (Int.ofNat_lt.mpr (Nat.succ_pos _)) (Ajd hll) ?_;exact hN _ _ ⟨(cell/12%((l.length:Int)+1)).toNat,by rw[Int.toNat_of_nonneg h1],rfl,(Int.toNat_le.mpr (Int.le_of_lt_add_one h2))⟩)
   rintro _ _ ⟨pl,rfl,rfl,hpl⟩
   have tk:∀ {H':AH} {Q':Ah},Ad H H'->Dh (.ref a) .none (.int (pl:Int)) .none H' Q'=Ay (.list ((l.take pl).map V.int)) H' Q':=fun e=>by
    rw[Op (ha.ext e) Gj F7,V4 Wu,Int.toNat_natCast,List.map_take]
   have dp:∀ {H':AH} {Q':Ah},Ad H H'->Dh (.ref a) (.int (pl:Int)) .none .none H' Q'=Ay (.list ((l.drop pl).map V.int)) H' Q':=fun e=>by
    rw[Op (ha.ext e) F7 Gj,Lk (by exact Wu),Int.toNat_natCast,List.map_drop]
   have dp1:∀ {H':AH} {Q':Ah},Ad H H'->Dh (.ref a) (.int ((pl:Int)+1)) .none .none H' Q'=Ay (.list ((l.drop (pl+1)).map V.int)) H' Q':=fun e=>by
    rw[Op (ha.ext e) F7 Gj,Lk (by exact U7),show ((pl:Int)+1).toNat=pl+1 by exact Zp,List.map_drop]
   have fin:∀ {H₁:AH} {x:Nat} {l':List Int},Ad H H₁->LI H₁ x l'->l'.length<64->Q (.ref x) H₁:=fun e hx hs=>q _ (some _) _ e ⟨_,rfl,hx⟩ (Bb.some hs)
   have lt:(l.take pl).length=pl:=by rw[List.length_take];exact Nat.min_eq_left hpl
   refine Dl ([some (.ref a),some (.int cell),some (.int far),some (.int most),some (.int kd),some (.int (pl:Int)),none,none,none]) (fun H₁=>H=H₁) (fun N hN=>?_) ?_
   ·refine Ba (decide (kd=0)) (fun Q' h'=>?_) ?_
    ·simp (disch:=first|decide|omega) only[Je,Jg,Jm,Qq,Ag,Ai];exact h'
    split
    ·simp (disch:=first|decide|omega) only[Jb,J0,J2,J3]
     exact q _ none _ Ad.refl rfl Bb.none
    ·simp (disch:=first|decide|omega) only[J2]
     exact hN _ rfl
   rintro _ rfl
   refine Dl ([some (.ref a),some (.int cell),some (.int far),some (.int most),some (.int kd),some (.int (pl:Int)),none,none,none]) (fun H₁=>H=H₁) (fun N hN=>?_) ?_
   ·refine Ba (decide (kd=1)) (fun Q' h'=>?_) ?_
    ·simp (disch:=first|decide|omega) only[Je,Jg,Jm,Qq,Ag,Ai];exact h'
    split
    ·simp (disch:=first|decide|omega) only[Jc,Je,Jg,Jl,Jt,J0,J2,J3,J8,Ag,Ai,tk Ad.refl]
     refine Ab fun b1 H₁ e1 _ v1=>?_
     (try dsimp only)
     rw[dp1 e1]
     refine Ab fun b2 H₂ e2 _ v2=>?_
     (try dsimp only)
     refine C4 (e2 _ _ v1) v2 (by simp;exact(Nat.le_trans (Nat.add_le_add (Nat.le_trans (Nat.min_le_right _ _) hll) (Nat.le_trans (Nat.sub_le _ _) hll)) (by decide))) ?_
     refine Ab fun b3 H₃ e3 _ v3=>fin ((e1.trans e2).trans e3) (l':=l.take pl++l.drop (pl+1)) (by unfold LI;rw[v3,List.map_append]) ?_
     rw[List.length_append,lt,List.length_drop];exact Nat.lt_of_le_of_lt (Nat.le_trans (Nat.add_le_add_left (Nat.sub_le_sub_left (Nat.le_succ _) _) _) (Nat.le_of_eq (Nat.add_sub_of_le hpl))) (Nat.lt_of_le_of_lt hll (by decide))
    ·simp (disch:=first|decide|omega) only[J2]
     exact hN _ rfl
   rintro _ rfl
   refine Dl ([some (.ref a),some (.int cell),some (.int far),some (.int most),some (.int kd),some (.int (pl:Int)),none,none,none]) (fun H₁=>H=H₁) (fun N hN=>?_) ?_
   ·refine Ba (decide (kd<6)&&decide ((pl:Int)<l.length)) (fun Q' h'=>?_) ?_
    ·simp (disch:=first|decide|omega) only[Je,Jg,Jj,Jm,Jq,Jw,Jx,Qg,Bl,Ag,Ai,A8 ha]
     rw[List.length_map]
     cases h1:decide (kd<6)<;>rw[h1]at h'<;>simpa using h'
    split
    ·rename_i hh
     have hlt:pl<l.length:=by simp at hh;exact hh.2
     have hx:=List.getElem?_eq_getElem hlt
     generalize l[pl]=x0 at hx
     simp (disch:=first|decide|omega) only[Jc,Je,Jg,Ji,Jl,Jq,Js,Jt,Ju,Jw,Jx,Jy,J0,J2,J3,J6,J7,J8,J9,Ag,Ai,Bo,Bp,A8 ha,Al ha (Int.natCast_nonneg pl) (LI.sub (a:=a) hx),Ji]
     rw[List.length_map]
     refine Ab fun b0 H₀ e0 _ v0=>?_
     (try dsimp only)
     rw[tk e0]
     refine Ab fun b1 H₁ e1 _ v1=>?_
     (try dsimp only)
     have hj:(Ii fun(j:Nat) (y:Int)=>cell/732%7=(j:Int)/\[V.int most,V.int (-1),V.int 0,V.int (l.length:Int),V.int (x0+1),V.int far,V.int (most-1)][j]? = some (.int y)):=by
      have hx7:cell/732%7=0\/cell/732%7=1\/cell/732%7=2\/cell/732%7=3\/cell/732%7=4\/cell/732%7=5\/cell/732%7=6:=Aje
      rcases hx7 with z|z|z|z|z|z|z
      ·exact⟨0,_,z,rfl⟩
      ·exact⟨1,_,z,rfl⟩
      ·exact⟨2,_,z,rfl⟩
      ·exact⟨3,_,z,rfl⟩
      ·exact⟨4,_,z,rfl⟩
      ·exact⟨5,_,z,rfl⟩
      ·exact⟨6,_,z,rfl⟩
     obtain⟨j,y,hj1,hj2⟩:=hj
     rw[hj1,Al (x:= .int y) (e1 _ _ v0) (Int.natCast_nonneg j) (by rw[Int.toNat_natCast];exact hj2)]
     (try dsimp only)
     refine Ab fun b2 H₂ e2 _ v2=>?_
     (try dsimp only)
     refine C4 (e2 _ _ v1) v2 (by simp;exact(Nat.le_trans (Nat.min_le_right _ _) (Nat.le_trans hll (by decide)))) ?_
     refine Ab fun b3 H₃ e3 _ v3=>?_
     (try dsimp only)
     rw[dp1 (((e0.trans e1).trans e2).trans e3)]
     refine Ab fun b4 H₄ e4 _ v4=>?_
     (try dsimp only)
     refine C4 (e4 _ _ v3) v4 (by simp;exact(Nat.le_trans (Nat.add_le_add (Nat.add_le_add_right (Nat.le_trans (Nat.min_le_right _ _) hll) 1) (Nat.le_trans (Nat.sub_le _ _) hll)) (by decide))) ?_
     refine Ab fun b5 H₅ e5 _ v5=>fin (((((e0.trans e1).trans e2).trans e3).trans e4).trans e5) (l':=(l.take pl ++ [y])++l.drop (pl+1)) (by unfold LI;rw[v5,List.map_append,List.map_append];rfl) ?_
     simp only[List.length_append,lt,List.length_drop,List.length_singleton];exact Nat.lt_of_le_of_lt (Nat.le_of_eq (Nat.add_sub_of_le hlt)) (Nat.lt_of_le_of_lt hll (by decide))
    ·simp (disch:=first|decide|omega) only[J2]
     exact hN _ rfl
   rintro _ rfl
   refine Dl ([some (.ref a),some (.int cell),some (.int far),some (.int most),some (.int kd),some (.int (pl:Int)),none,none,none]) (fun H₁=>H=H₁) (fun N hN=>?_) ?_
   ·refine Ba (decide (kd=6)||decide (kd=7)) (fun Q' h'=>?_) ?_
    ·simp (disch:=first|decide|omega) only[Je,Jg,Jk,Jm,Qq,Bl,Ag,Ai]
     cases h1:decide (kd=6)<;>rw[h1]at h'<;>simpa using h'
    split
    ·simp (disch:=first|decide|omega) only[Jc,Je,Jg,Ji,Jt,J0,J2,J3,Ag,Ji]
     refine Abn ha ?_
     refine Ab fun b1 H₁ e1 _ v1=>fin e1 (l':=l.reverse) (by unfold LI;rw[v1,List.map_reverse]) (by rw[List.length_reverse];exact Zq hll)
    ·simp (disch:=first|decide|omega) only[J2]
     exact hN _ rfl
   rintro _ rfl
   refine Dl ([some (.ref a),some (.int cell),some (.int far),some (.int most),some (.int kd),some (.int (pl:Int)),none,none,none]) (fun H₁=>H=H₁) (fun N hN=>?_) ?_
   ·refine Ba (decide (kd=8)||decide (kd=9)) (fun Q' h'=>?_) ?_
    ·simp (disch:=first|decide|omega) only[Je,Jg,Jk,Jm,Qq,Bl,Ag,Ai]
     cases h1:decide (kd=8)<;>rw[h1]at h'<;>simpa using h'
    split
    ·simp (disch:=first|decide|omega) only[Jc,Jg,Jl,Jt,J0,J2,J3,Ag,Ai,dp Ad.refl]
     refine Ab fun b1 H₁ e1 _ v1=>?_
     (try dsimp only)
     rw[tk e1]
     refine Ab fun b2 H₂ e2 _ v2=>?_
     (try dsimp only)
     refine C4 (e2 _ _ v1) v2 (by simp;exact(Nat.le_trans (Nat.add_le_add (Nat.le_trans (Nat.sub_le _ _) hll) (Nat.le_trans (Nat.min_le_right _ _) hll)) (by decide))) ?_
     refine Ab fun b3 H₃ e3 _ v3=>fin ((e1.trans e2).trans e3) (l':=l.drop pl++l.take pl) (by unfold LI;rw[v3,List.map_append]) ?_
     rw[List.length_append,lt,List.length_drop];exact Nat.lt_of_le_of_lt (Nat.le_of_eq (Nat.sub_add_cancel hpl)) (Nat.lt_of_le_of_lt hll (by decide))
    ·simp (disch:=first|decide|omega) only[J2]
     exact hN _ rfl
   rintro _ rfl
   refine Dl ([some (.ref a),some (.int cell),some (.int far),some (.int most),some (.int kd),some (.int (pl:Int)),none,none,none]) (fun H₁=>H=H₁) (fun N hN=>?_) ?_
   ·refine Ba (decide (kd=10)&&decide ((pl:Int)<l.length)) (fun Q' h'=>?_) ?_
    ·simp (disch:=first|decide|omega) only[Je,Jg,Jj,Jm,Jq,Jw,Jx,Qg,Qq,Bl,Ag,Ai,A8 ha]
     rw[List.length_map]
     cases h1:decide (kd=10)<;>rw[h1]at h'<;>simpa using h'
    split
    ·rename_i hh
     have hlt:pl<l.length:=by simp at hh;exact hh.2
     have hx:=List.getElem?_eq_getElem hlt
     generalize l[pl]=x0 at hx
     obtain⟨ot,hot⟩:∃ot:Nat,cell/732%(l.length:Int)=(ot:Int):=⟨(cell/732%(l.length:Int)).toNat,(Int.toNat_of_nonneg (Int.emod_nonneg _ (Int.ne_of_gt (Int.natCast_pos.mpr (Nat.zero_lt_of_lt hlt))))).symm⟩
     have hot2:ot<l.length:=by have:=Int.emod_lt_of_pos (cell/732) (show 0<(l.length:Int) by exact Q89 hlt);exact Int.ofNat_lt.mp (Int.lt_of_le_of_lt (Int.le_of_eq hot.symm) this)
     have hy:=List.getElem?_eq_getElem hot2
     generalize l[ot]=y0 at hy
     simp (disch:=first|decide|omega) only[Je,Jg,Jl,Jq,Jw,Jx,Jy,J0,J2,J3,J6,J7,Ag,Ai,Bo,Bp,A8 ha,List.length_map]
     (try refine V0 (by omega) (by omega) ?_)
     rw[hot]
     simp (disch:=first|decide|omega) only[Mr ha]
     refine Ab fun b1 H₁ e1 _ v1=>?_
     have ha1:=ha.ext e1
     have v1':LI H₁ b1 l:=v1
     have hab:a≠b1:=by
      intro w;rename_i nb
      unfold LI at ha;rw[w,nb]at ha;cases ha
     simp (disch:=first|decide|omega) only[Jg,Js,Ag,Ai,Bs,Al ha1 (Int.natCast_nonneg ot) (LI.sub (a:=a) hy),Xo v1' (Int.natCast_nonneg pl) (show ((pl:Nat):Int)<l.length by exact Xy hlt)]
     rw[Int.toNat_natCast]
     have ha2:LI (upd H₁ b1 (.list ((l.set pl y0).map V.int))) a l:=ha1.upd_ne hab
     have v2:LI (upd H₁ b1 (.list ((l.set pl y0).map V.int))) b1 (l.set pl y0):=Ac
     refine Cy ha2 (Int.natCast_nonneg pl) (LI.sub (a:=a) hx) ?_
     (try dsimp only)
     refine P7 v2 (Int.natCast_nonneg ot) (by rw[List.length_set];exact Xy hot2) ?_
     (try dsimp only)
     refine fin ((e1.upd' ?_).upd' ?_) (l':=(l.set pl y0).set ot x0) (by unfold LI;rw[Ac,Int.toNat_natCast]) (by simp;exact Zq hll)
     all_goals assumption
    ·simp (disch:=first|decide|omega) only[J2]
     exact hN _ rfl
   rintro _ rfl
   refine Ae (Il ?_)
   simp (disch:=first|decide|omega) only[Jc,Je,Jg,Jl,Jt,Ju,Jw,Jx,J6,J7,Ag,Ai,tk Ad.refl]
   refine Ab fun b1 H₁ e1 _ v1=>?_
   (try dsimp only)
   refine Ab fun b2 H₂ e2 _ v2=>?_
   (try dsimp only)
   refine C4 (e2 _ _ v1) v2 (by simp;exact(Nat.le_trans (Nat.min_le_right _ _) (Nat.le_trans hll (by decide)))) ?_
   refine Ab fun b3 H₃ e3 _ v3=>?_
   (try dsimp only)
   rw[dp ((e1.trans e2).trans e3)]
   refine Ab fun b4 H₄ e4 _ v4=>?_
   (try dsimp only)
   refine C4 (e4 _ _ v3) v4 (by simp;exact(Nat.le_trans (Nat.add_le_add (Nat.add_le_add_right (Nat.le_trans (Nat.min_le_right _ _) hll) 1) (Nat.le_trans (Nat.sub_le _ _) hll)) (by decide))) ?_
   refine Ab fun b5 H₅ e5 _ v5=>fin ((((e1.trans e2).trans e3).trans e4).trans e5) (l':=(l.take pl ++ [cell/732%61])++l.drop pl) (by unfold LI;rw[v5,List.map_append,List.map_append];rfl) ?_
   simp only[List.length_append,lt,List.length_drop,List.length_singleton];exact Nat.lt_of_le_of_lt (Nat.le_of_eq ((Nat.add_right_comm _ 1 (_-_)).trans (congrArg (·+1) (Nat.add_sub_of_le hpl)))) (Nat.lt_of_le_of_lt (Nat.succ_le_succ hll) (by decide))
set_option linter.all false
variable {G:Aw} {n:Nat} {H H':AH} {Q:Ah} {E:EP} {C:CS} {ρ:Ak} {m:Nat} {A:Nat->Nat->Bool}
theorem Aga(hB:G.fn "_law_behind" = some E3)(hG:G.fn "_law_made" = some Ld){a r:Nat}{o:List Int}(hm:m<=60)(hN:Cr H a m A)(hL:LI H r o)(ho:Bx m o)
 (q:∀ps c k lc lk H',Ad H H'->H ps=none->H c=none->H k=none->H' ps=some (.list [.ref r,.none,.ref c,.ref k,.int (lc.length:Nat)])->LI H' c lc->LI H' k lk->lc.length<=60->lk.length=m->Q (.ref ps) H'):Af G (n+2) "_law_made" [.ref a,.ref r] H Q E:=by
 obtain⟨as,n1,n2,n3⟩:=hN
 have hN:Cr H a m A:=⟨as,n1,n2,n3⟩
 have hlen:(as.map V.ref).length=m:=by rw[List.length_map,n2]
 refine Aj hG rfl ?_
 simp only[Ld,List.map,List.replicate,List.cons_append,List.nil_append]
 refine C3 (fun c=>[some (.ref a),some (.ref r),some (.ref c),none,none,none,none,none]) (fun c H₁=>E6 (Ad H H₁) (H c=none) (LI H₁ c [])) (fun N hN'=>?_) ?_
 ·simp (disch:=first|decide|omega) only[Ju,Jw,Jy,Bo,Bp]
  exact Ab fun c H₁ e1 n1 v1=>hN' c _ ⟨e1,n1,v1⟩
 rintro c0 H₀ ⟨e0,nc0,vc0⟩
 refine C3 (fun d=>[some (.ref a),some (.ref r),some (.ref c0),some (.ref d),none,none,none,none]) (fun d H₁=>U1 (Ad H H₁) (H d=none) (LI H₁ d ((Aq m).map fun _=>0)) (LI H₁ c0 []) (c0≠d)) (fun N hN'=>?_) ?_
 ·refine Bw (grK ?_)
  simp (disch:=first|decide|omega) only[Je,Jg,Jq,Jw,Jx,J4,Oo,Dn,Dp,Ag,List.replicate,Bo,Bp,A8 (e0 _ _ n1)]
  (try refine Db (by omega) (by rw[hlen];omega) ?_)
  rw[hlen,Int.toNat_natCast,I8,Hv]
  refine⟨by simp[Bq,Bt];exact Wt hm,C8 (h:=fun _=>V.int 0) trivial (fun x hx K' hK'=>?_) ?_⟩
  ·skip
   exact hK'
  ·refine Ab fun d H₁ e1 nd v1=>hN' d _ ⟨e0.trans e1,e0.isNone nd,?_,vc0.ext e1,vc0.ne_none nd⟩
   unfold LI;rw[v1,List.map_map];rfl
 rintro d H₁ ⟨e1,nd,vd,vc1,hcd⟩
 refine seq (fun ρ H₂=>(Ex7 fun(r4 r5 r6 r7:Option V) (c:Nat) (lc cols:List Int)=>An7 (ρ = [some (.ref a),some (.ref r),some (.ref c),some (.ref d),r4,r5,r6,r7]) (Ad H H₂) (LI H₂ d cols) (cols.length=m) (H c=none) (LI H₂ c lc) (lc.length<=m))) (fun N hN'=>?_) ?_
 ·refine Uy ?_
  simp (disch:=first|decide|omega) only[Jg,Jq,Jw,Jx,Oo,Ag,A8 (e1 _ _ n1)]
  (try refine Db (by omega) (by rw[hlen];omega) ?_)
  rw[hlen]
  refine Qu (fun i (r4:Option V) (r5:Option V) (r6:Option V) (r7:Option V) (c:Nat) (lc:List Int) (cols:List Int)=>[some (.ref a),some (.ref r),some (.ref c),some (.ref d),r4,r5,r6,r7]) (fun i (r4:Option V) (r5:Option V) (r6:Option V) (r7:Option V) (c:Nat) (lc:List Int) (cols:List Int) H₂=>An7 (Ad H H₂) (LI H₂ d cols) (cols.length=m) (H c=none) (LI H₂ c lc) (lc.length<=m) (c≠d)) _ _ _ _ c0 [] _ rfl ⟨e1,vd,by rw[List.length_map,Bt],nc0,vc1,Nat.zero_le _,hcd⟩ ?_ ?_
  ·rintro i r4 r5 r6 r7 c lc cols H₂ K hi ⟨e2,vc,hl,nc,vcr,hlc,hcd2⟩ hK
   have hi':i<m:=hi
   have hx:=List.getElem?_eq_getElem (l:=o) (i:=m-1-i) (by rw[ho.len];exact Ag1 hi')
   generalize o[m-1-i]'(by rw[ho.len];exact Ag1 hi')=p at hx
   have hpo:=List.mem_of_getElem? hx
   have hpr:=ho.mem.mp hpo
   have hbl:=P9 (A:=A) (o:=o) (p:=p)
   rw[ho.len]at hbl
   simp only[K0,List.set_cons_succ,List.set_cons_zero]
   refine Dl ([some (.ref a),some (.ref r),some (.ref c),some (.ref d),some (.int i),some (.int ((m-1-i:Nat):Int)),r6,r7]) (fun H₃=>H₂=H₃) (fun N hN'=>?_) ?_
   ·simp (disch:=first|decide|omega) only[Je,Jg,Jl,Jq,Jw,Jx,Jy,J9,Ag,Ai,Bo,Bp,A8 (e2 _ _ n1)]
    rw[hlen,show (m:Int)-1-i=((m-1-i:Nat):Int) by exact Ag2 hi']
    exact hN' _ rfl
   rintro _ rfl
   refine C3 (fun l=>[some (.ref a),some (.ref r),some (.ref c),some (.ref d),some (.int i),some (.int ((m-1-i:Nat):Int)),some (.ref l),r7]) (fun l H₃=>(Ad H₂ H₃)/\(LI H₃ l (bh A o p))) (fun N hN'=>?_) ?_
   ·simp (disch:=first|decide|omega) only[Jg,Jp,Jw,Jx,Jy,Ag,Ai,Bo,Bp,Cu,true_and,hB]
    exact N5 hB hm (hN.ext e2) (hL.ext e2) ho hx fun l H₃ e3 _ v3=>hN' l _ ⟨e3,v3⟩
   rintro l H₃ ⟨e3,v3⟩
   refine Qw (fun(c':Nat) (lc':List Int)=>[some (.ref a),some (.ref r),some (.ref c'),some (.ref d),some (.int i),some (.int ((m-1-i:Nat):Int)),some (.ref l),r7]) (fun(c':Nat) (lc':List Int) H₄=>U1 (Ad H₃ H₄) (H c'=none) (LI H₄ c' lc') (lc'.length<=m) (c'≠d)) (fun N hN'=>?_) ?_
   ·refine Ba (decide ((lc.length:Int)<=(bh A o p).length)) (fun Q' h'=>?_) ?_
    ·simp (disch:=first|decide|omega) only[Jg,Jm,Jq,Jw,Jx,Jbd,Ag,Ai,A8 v3,A8 (vcr.ext e3)]
     rw[List.length_map,List.length_map]
     exact h'
    split
    ·simp (disch:=first|decide|omega) only[Jg,Jl,Js,Ju,Jw,Jx,Jy,J2,J3,Ag,Ai,Bo,Bp,Al ((hL.ext e2).ext e3) (Int.natCast_nonneg _) (LI.sub (a:=r) hx)]
     refine Ab fun b1 H₄ e4 _ v4=>?_
     (try dsimp only)
     refine C4 (e4 _ _ v3) v4 (by simp;exact(Nat.le_trans hbl (Nat.le_trans (Nat.sub_le _ _) (Nat.le_trans hm (by decide))))) ?_
     refine Ab fun b2 H₅ e5 n5 v5=>?_
     (try dsimp only)
     refine hN' b2 (bh A o p ++ [p]) _ ⟨e4.trans e5,e2.isNone (e3.isNone (e4.isNone n5)),by unfold LI;rw[v5,List.map_append];rfl,by rw[List.length_append,List.length_singleton];exact(Nat.lt_of_le_of_lt hbl (Nat.sub_lt (Int.natCast_pos.mp (Int.lt_of_le_of_lt hpr.1 hpr.2)) Nat.one_pos)),Ne.symm (((vc.ext e3).ext e4).ne_none n5)⟩
    ·simp (disch:=first|decide|omega) only[J2]
     exact hN' c lc _ ⟨Ad.refl,nc,vcr.ext e3,hlc,hcd2⟩
   rintro c' lc' H₄ ⟨e4,nc',vc',hlc',hcd'⟩
   have vc4:=(vc.ext e3).ext e4
   have v34:=v3.ext e4
   refine C3 (fun u=>[some (.ref a),some (.ref r),some (.ref c'),some (.ref d),some (.int i),some (.int ((m-1-i:Nat):Int)),some (.ref l),some (.ref u)]) (fun u H₅=>(Ad H₄ H₅)/\(LI H₅ u ((bh A o p).map fun x=>cols.getD x.toNat 0))) (fun N hN'=>?_) ?_
   ·refine Bw (Ww ?_)
    simp (disch:=first|decide|omega) only[Jg,J4,Dn,Dp,Ag,Ai,List.replicate,Bo,Bp]
    refine Ao v34 ?_
    refine⟨by simp[Bq];exact Agw hm hbl,C8 (h:=fun x=>V.int (cols.getD x.toNat 0)) v34 (fun x hx K' hK'=>?_) ?_⟩
    ·have hxr:=ho.mem.mp (M4 hx)
     have hxl:x.toNat<cols.length:=(Q62 hl hxr.1 hxr.2)
     have hsub:(cols.map V.int)[x.toNat]? = some (.int (cols.getD x.toNat 0)):=by
      rw[List.getElem?_map,List.getElem?_eq_getElem hxl,List.getD_eq_getElem?_getD,List.getElem?_eq_getElem hxl];rfl
     simp (disch:=first|decide|omega) only[Jg,Js,Ag,Ai,Ky,Al vc4 hxr.1 hsub]
     exact hK'
    ·refine Ab fun u H₅ e5 _ v5=>hN' u _ ⟨e5,?_⟩
     unfold LI;rw[v5,List.map_map];rfl
   rintro u H₅ ⟨e5,vu⟩
   have e25:=(e3.trans e4).trans e5
   have hL5:=(hL.ext e2).ext e25
   have vc5:=vc4.ext e5
   refine Ae (E7 ?_)
   refine Rb (Co (hrK ?_))
   simp (disch:=first|decide|omega) only[Jg,Jq,Js,Jw,Jx,J2,J4,Oo,Dn,Dp,Ag,Ai,List.replicate,A8 (e25 _ _ (e2 _ _ n1))]
   (try refine Db (Ahb hpr.1) (by rw[hlen];omega) ?_)
   rw[hlen]
   refine⟨by simp[Bq];exact Wt hm,K7 (p:=fun j=> !decide ((j:Int)∈(bh A o p).map fun x=>cols.getD x.toNat 0)) (fun j hj K' hK'=>?_) ?_⟩
   ·simp (disch:=first|decide|omega) only[Jg,Jm,Bl,Ag,Ai,Kz,Hr vu]
    split
    ·rename_i h;rw[if_pos h]at hK';exact hK'
    ·rename_i h;rw[if_neg h]at hK';exact hK'
   rw[Int.toNat_natCast]
   obtain⟨x0,l0,hx0⟩:=Af5 (m:=m) (used:=(bh A o p).map fun x=>cols.getD x.toNat 0) (by rw[List.length_map];exact(Nat.lt_of_le_of_lt hbl (Nat.sub_lt (Int.natCast_pos.mp (Int.lt_of_le_of_lt hpr.1 hpr.2)) Nat.one_pos)))
   rw[hx0]
   refine Ab fun u2 H₆ e6 _ v6=>?_
   (try dsimp only)
   refine Ad7 v6 ?_
   have hL6:=hL5.ext e6
   have vc6:=vc5.ext e6
   (try dsimp only)
   refine Cy hL6 (Int.natCast_nonneg _) (LI.sub (a:=r) hx) ?_
   refine P7 vc6 hpr.1 (by rw[hl];exact hpr.2) ?_
   exact hK _ _ _ _ c' lc' (cols.set p.toNat (l0.foldl min x0)) _ ⟨((e2.trans e25).trans e6).upd' nd,Ac,by rw[List.length_set];exact hl,nc',((vc'.ext e5).ext e6).upd_ne hcd',hlc',hcd'⟩
  ·rintro r4 r5 r6 r7 c lc cols H₂ ⟨e2,vc,hl,nc,vcr,hlc,_⟩
   exact hN' _ _ ⟨_,_,_,_,c,lc,cols,rfl,e2,vc,hl,nc,vcr,hlc⟩
 rintro _ H₂ ⟨r4,r5,r6,r7,c,lc,cols,rfl,e2,vc,hl,nc,vcr,hlc⟩
 refine Ae (Il ?_)
 simp (disch:=first|decide|omega) only[Jb,Jg,Jq,Ju,Jw,Jx,Ag,Ai,A8 vcr]
 rw[List.length_map]
 exact Ab fun ps H₃ e3 n3 v3=>q ps c d lc cols H₃ (e2.trans e3) (e2.isNone n3) nc nd v3 (vcr.ext e3) (vc.ext e3) (Nat.le_trans hlc hm) hl
set_option linter.all false
variable {G:Aw} {n:Nat} {H H':AH} {Q:Ah} {E:EP} {C:CS} {ρ:Ak} {m:Nat} {A:Nat->Nat->Bool}
theorem Ad8{k:Nat}{v w:V}{x:Pt}(h:M9 H v x)(h':M9 H w x):K9 (k+1) H v w=some true:=by
 refine Aa fun nY=>?_
 cases x with
 | i z=>(refine nY ?_;clear nY;rw[show v = .int z from h,show w = .int z from h'];exact congrArg some (decide_eq_true rfl))
 | p y=>
   cases y with
   | none=>(refine nY ?_;clear nY;rw[show v = .none from h,show w = .none from h'];rfl)
   | some l=>
     obtain⟨a,rfl,ha⟩:=h
     obtain⟨b,rfl,hb⟩:=h'
     refine nY ?_;clear nY
     rw[V8 ha hb,decide_eq_true rfl]
theorem Ab4{k a b:Nat}{vs ws:List V}{xs:List Pt}(ha:H a=some (.list vs))(hb:H b=some (.list ws))(h:Cm H vs xs)(h':Cm H ws xs):K9 (k+1+1) H (.ref a) (.ref b)=some true:=by
 rw[Abl ha hb,if_pos (h.1.trans h'.1.symm)]
 refine Ab3 fun y hy=>?_
 obtain⟨i,hi,rfl⟩:=List.mem_iff_getElem.mp hy
 rw[List.length_zipWith]at hi
 have h1:i<vs.length:=(Nat.lt_of_lt_of_le hi (Nat.min_le_left _ _))
 have h2:i<ws.length:=(Nat.lt_of_lt_of_le hi (Nat.min_le_right _ _))
 have h3:i<xs.length:=by rw[<-h.1];exact h1
 rw[List.getElem_zipWith]
 exact Ad8 (h.2 i _ _ (List.getElem?_eq_getElem h1) (List.getElem?_eq_getElem h3)) (h'.2 i _ _ (List.getElem?_eq_getElem h2) (List.getElem?_eq_getElem h3))
theorem Aia{a b:Nat}{vs ws:List V}{xs:List Pt}(ha:H a=some (.list vs))(hb:H b=some (.list ws))(h:Cm H vs xs)(h':Cm H ws xs):Bg .NotEq (.ref a) (.ref b) H Q=Q (.bool false) H:=by
 have e:K9 Eg H (.ref a) (.ref b)=some true:=Ab4 ha hb h h'
 show Ey (K9 Eg H (.ref a) (.ref b)) (fun r=>Q (.bool (!r)) H)=_
 rw[e]
 rfl
theorem Ab5{a b:Nat}{vs ws:List V}{xs:List Pt}(ha:H a=some (.list vs))(hb:H b=some (.list ws))(h:Cm H vs xs)(h':Cm H ws xs)(kk:Q (.bool false) H):Bg .NotEq (.ref a) (.ref b) H Q:=Eq.mpr (Aia ha hb h h') kk
structure F12(G:Aw):Prop where
 fns3:Y8 G
 v:Af7 G
 g:Af8 G
 copy:G.fn "_law_copy" = some Hg
 asked:G.fn "_law_asked" = some Iw
structure Two(H:AH)(ws ns:Nat)(m:Nat)(A B:Nat->Nat->Bool):Prop where
 webs:(Ii fun(w1 w2:Nat)=>E6 (H ws=some (.list [.ref w1,.ref w2])) (Cs H w1 m A) (Cs H w2 m B))
 nears:(Ii fun(n1 n2:Nat)=>E6 (H ns=some (.list [.ref n1,.ref n2])) (Cr H n1 m A) (Cr H n2 m B))
 gA:Gr A
 gB:Gr B
theorem Two.ext{ws ns:Nat}{A B:Nat->Nat->Bool}(h:Two H ws ns m A B)(e:Ad H H'):Two H' ws ns m A B:=by
 refine Aa fun nY=>?_
 obtain⟨w1,w2,h1,h2,h3⟩:=h.webs
 obtain⟨n1,n2,h4,h5,h6⟩:=h.nears
 refine nY ?_;clear nY
 exact⟨⟨w1,w2,e _ _ h1,h2.ext e,h3.ext e⟩,⟨n1,n2,e _ _ h4,h5.ext e,h6.ext e⟩,h.gA,h.gB⟩
theorem Two.at_{ws ns:Nat}{A B:Nat->Nat->Bool}(h:Two H ws ns m A B){k:Int}(hk:k=0\/k=1):(Ex3 fun(w a:Nat) (D:Nat->Nat->Bool)=>U1 (Gr D) (Cs H w m D) (Cr H a m D) ((∀Q:Ah,B9 (.ref ws) (.int k) H Q=Q (.ref w) H)) (∀(H':AH) (Q:Ah),Ad H H'->B9 (.ref ns) (.int k) H' Q=Q (.ref a) H')):=by
 refine Aa fun nY=>?_
 obtain⟨w1,w2,h1,h2,h3⟩:=h.webs
 obtain⟨n1,n2,h4,h5,h6⟩:=h.nears
 rcases hk with rfl|rfl
 ·refine nY ?_;clear nY
  exact⟨w1,n1,A,h.gA,h2,h5,fun Q=>Al (x:= .ref w1) h1 (by decide) rfl,fun H' Q e=>Al (x:= .ref n1) (e _ _ h4) (by decide) rfl⟩
 ·refine nY ?_;clear nY
  exact⟨w2,n2,B,h.gB,h3,h6,fun Q=>Al (x:= .ref w2) h1 (by decide) rfl,fun H' Q e=>Al (x:= .ref n2) (e _ _ h4) (by decide) rfl⟩
theorem Ad9(F:F12 G){ws ns ps:Nat}{A B:Nat->Nat->Bool}{vs:List V}{o r c k:Option (List Int)}{many:Int}(hm:m<=60)(hT:Two H ws ns m A B)(hP:H ps=some (.list vs))(hA:Cm H vs [.p o,.p r,.p c,.p k,.i many])
 (so:Bb o) (sr:Bb r) (sc:Bb c) (q:∀H',Ad H H'->Q (.bool true) H'):Af G (n+6) "_law_asked" [.ref ws,.ref ns,.ref ps] H Q E:=by
 refine Aj F.asked rfl ?_
 simp only[Iw,List.map,List.replicate,List.cons_append,List.nil_append]
 refine Qw (fun(hd:Nat) (ws':List V)=>[some (.ref ws),some (.ref ns),some (.ref ps),some (.ref hd),none,none,none]) (fun(hd:Nat) (ws':List V) H₁=>E6 (Ad H H₁) (H₁ hd=some (.list ws')) (Cm H₁ ws' [.p o,.p r,.p c,.p k,.i many])) (fun N hN=>?_) ?_
 ·refine Bw (Ww ?_)
  simp (disch:=first|decide|omega) only[Jg,J4,Dn,Dp,Ag,Ai,List.replicate,Bo,Bp]
  refine Ao hP ?_
  refine⟨by rw[List.length_map,hA.1];show 5<=Bq;decide,N7 (n:=n+4) F.copy hP hA fun ws' H₁ e1 h1=>?_⟩
  exact Ab fun hd H₂ e2 _ v2=>hN hd ws' _ ⟨e1.trans e2,v2,h1.ext e2⟩
 rintro hd ws' H₁ ⟨e1,vhd,hA1⟩
 obtain⟨vo,vr,vc,vk,rfl,ho,hr,hc,hk⟩:=hA1.five
 refine C3 (fun v=>[some (.ref ws),some (.ref ns),some (.ref ps),some (.ref hd),some (.ref v),none,none]) (fun v H₂=>(Ad H₁ H₂)/\(Ta H₂ v vo vr vc vk many)) (fun N hN=>?_) ?_
 ·refine Bw (Wv ?_)
  refine⟨by rw[show Du .verdict=("Verdict.__init__" :Str)from rfl,F.fns3.init];rfl,?_⟩
  have s0:∀ {Q':Ah},B9 (.ref hd) (.int 0) H₁ Q'=Q' vo H₁:=Al vhd (by decide) rfl
  have s1:∀ {Q':Ah},B9 (.ref hd) (.int 1) H₁ Q'=Q' vr H₁:=Al vhd (by decide) rfl
  have s2:∀ {Q':Ah},B9 (.ref hd) (.int 2) H₁ Q'=Q' vc H₁:=Al vhd (by decide) rfl
  have s3:∀ {Q':Ah},B9 (.ref hd) (.int 3) H₁ Q'=Q' vk H₁:=Al vhd (by decide) rfl
  have s4:∀ {Q':Ah},B9 (.ref hd) (.int 4) H₁ Q'=Q' (.int many) H₁:=Al vhd (by decide) rfl
  simp (disch:=first|decide|omega) only[Je,Jg,Js,Jw,Jx,Ag,Ai,Bo,Bp,s0,s1,s2,s3,s4]
  refine M7 (Q:=fun v H'=>N [some (.ref ws),some (.ref ns),some (.ref ps),some (.ref hd),some v,none,none] H') F.fns3.init fun v H₂ e2 _ hv=>?_
  exact hN v _ ⟨e2,hv⟩
 rintro v H₂ ⟨e2,hv⟩
 have e02:=e1.trans e2
 have hA2:Cm H₂ [vo,vr,vc,vk,.int many] [.p o,.p r,.p c,.p k,.i many]:=hA1.ext e2
 refine Dl ([some (.ref ws),some (.ref ns),some (.ref ps),some (.ref hd),some (.ref v),none,none]) (fun H₃=>Ad H₂ H₃) (fun N hN=>?_) ?_
 ·obtain⟨d,a1,a2⟩:=hv
  refine A5 ?_
  simp (disch:=first|decide|omega) only[Jd,Jg,Jm,Jr,Ju,Jw,Jx,J0,J2,J3,Ag,Ai,Bn a1 a2 (show Ds _ Ct.order=some vo from rfl),Bn a1 a2 (show Ds _ Ct.ring=some vr from rfl),Bn a1 a2 (show Ds _ Ct.crowd=some vc from rfl),Bn a1 a2 (show Ds _ Ct.colours=some vk from rfl),Bn a1 a2 (show Ds _ Ct.many=some (V.int many)from rfl)]
  refine Ab fun t H₃ e3 _ v3=>?_
  (try dsimp only)
  refine Ab5 v3 (e3 _ _ (e02 _ _ hP)) (hA2.ext e3) ((hA.ext e02).ext e3) ?_
  (try dsimp only);(try simp (disch:=first|decide|omega) only[Bl])
  simp only[Bool.false_eq_true,if_false]
  exact hN _ e3
 rintro H₃ e3
 have e03:=e02.trans e3
 refine Ae (Oz ?_)
 simp (disch:=first|decide|omega) only[Jd,Je,Jv,Jw,Jx,J0,J2,J3]
 refine Ab fun tp H₄ e4 _ v4=>?_
 (try dsimp only)
 refine Xi v4 ?_
 have e04:=e03.trans e4
 refine Wc (fun i r5 r6=>[some (.ref ws),some (.ref ns),some (.ref ps),some (.ref hd),some (.ref v),r5,r6]) (fun i r5 r6 H₅=>Ad H₄ H₅) _ _ rfl Ad.refl ?_ ?_ ?_
 ·rintro i r5 r6 H₅ e5;exact e5 _ _ v4
 ·rintro i x r5 r6 H₅ K hx e5 hK
  obtain⟨kk,rfl,hkk⟩:∃kk:Int,x = .int kk/\(kk=0\/kk=1):=by
   rcases i with _|_|_|i
   ·cases hx;exact⟨0,rfl,.inl rfl⟩
   ·cases hx;exact⟨1,rfl,.inr rfl⟩
   ·cases hx;exact⟨0,rfl,.inl rfl⟩
   ·cases hx
  have e05:=e04.trans e5
  have e25:=(e3.trans e4).trans e5
  obtain⟨w,a,D,gD,hw,ha,sw,sn⟩:=(hT.ext e05).at_ hkk
  obtain⟨vo',vr',vc',vk',hvs,ho',hr',hc',hk'⟩:=(hA.ext e05).five
  simp only[Fw,List.set_cons_succ,List.set_cons_zero]
  refine C3 (fun b=>[some (.ref ws),some (.ref ns),some (.ref ps),some (.ref hd),some (.ref v),some (.int kk),some (.bool b)]) (fun b H₆=>(Ad H₅ H₆)/\((b=true↔Qf m D o r c k many))) (fun N hN=>?_) ?_
  ·simp (disch:=first|decide|omega) only[Jg,Jp,Js,Jw,Jx,Jy,Ag,Ai,Bo,Bp,Cu,true_and,sw,F.v.holds]
   exact Ux F.v gD hm hw (hv.ext e25) ((ho.ext e2).ext e25) ((hr.ext e2).ext e25) ((hc.ext e2).ext e25) ((hk.ext e2).ext e25) so sr sc fun b H₆ e6 hb=>hN b _ ⟨e6,hb⟩
  rintro b H₆ ⟨e6,hb⟩
  refine Ae (A5 ?_)
  simp (disch:=first|decide|omega) only[Jd,Jg,Jh,Jk,Jm,Jp,Jq,Js,Jw,Jx,J0,J2,J3,Bl,Ag,Ai,Abp]
  simp only[Bool.not_true,Bool.false_eq_true,if_false]
  simp (disch:=first|decide|omega) only[Cu,true_and,F.g.good]
  rw[sn H₆ _ e6]
  (try dsimp only)
  refine Xw (n:=n+3) F.g gD hm (ha.ext e6) (by rw[e6 _ _ (e05 _ _ hP),hvs]) (ho'.ext e6) (hr'.ext e6) (hc'.ext e6) (hk'.ext e6) so sr sc fun b' H₇ e7 hb'=>?_
  have hbb:b=b':=by rw[Bool.eq_iff_iff,hb,hb']
  subst hbb
  (try dsimp only);(try simp (disch:=first|decide|omega) only[Jbh,Bl])
  rw[show (b==b)=true from beq_self_eq_true b]
  simp only[Bool.not_true,Bool.false_eq_true,if_false]
  have e57:=e6.trans e7
  refine Ab5 (e57 _ _ (e25 _ _ (e2 _ _ vhd))) (e57 _ _ (e05 _ _ hP)) ((hA2.ext e25).ext e57) ((hA.ext e05).ext e57) ?_
  (try dsimp only);(try simp (disch:=first|decide|omega) only[Bl])
  simp only[Bool.false_eq_true,if_false]
  exact hK _ _ _ (e5.trans e57)
 ·rintro r5 r6 H₅ e5
  exact q _ (e04.trans e5)
set_option linter.all false
variable {G:Aw} {n:Nat} {H H':AH} {Q:Ah} {E:EP} {C:CS} {ρ:Ak} {m:Nat} {A:Nat->Nat->Bool}
noncomputable def Ex(H:AH)(pl:Nat)(o r c k:Option (List Int))(many:Int):Prop:=∃vs,H pl=some (.list vs)/\Cm H vs [.p o,.p r,.p c,.p k,.i many]
theorem Ex.ext{pl:Nat}{o r c k:Option (List Int)}{many:Int}(h:Ex H pl o r c k many)(e:Ad H H'):Ex H' pl o r c k many:=by
 obtain⟨vs,h1,h2⟩:=h
 exact⟨vs,e _ _ h1,h2.ext e⟩
theorem Ex.no{pl:Nat}{o r c k:Option (List Int)}{many:Int}{l:List Int}(h:Ex H pl o r c k many):¬LI H pl l:=by
 refine Aa fun nY=>?_
 obtain⟨vs,h1,h2⟩:=h
 obtain⟨vo,vr,vc,vk,rfl,h3,_⟩:=h2.five
 refine nY ?_;clear nY
 intro hl
 unfold LI at hl
 rw[h1]at hl
 refine Aa fun nY=>?_
 injection hl with hl
 injection hl with hl
 rcases l with _ | ⟨x,l⟩
 ·cases hl
 ·have:vo = .int x:=(List.cons.inj hl).1
  subst this
  cases o with
  | none=>cases h3
  | some l'=>obtain⟨a,ha,_⟩:=h3;cases ha
theorem Bj.upd{pl:Nat}{ob:O}{v:V}{p:Option (List Int)}(h:Bj H v p)(hp:∀l,¬LI H pl l):Bj (upd H pl ob) v p:=by
 cases p with
 | none=>exact h
 | some l=>obtain⟨a,rfl,ha⟩:=h;exact⟨a,rfl,ha.upd_ne fun e=>hp l (by rw[<-e];exact ha)⟩
theorem M9.upd{pl:Nat}{ob:O}{v:V}{x:Pt}(h:M9 H v x)(hp:∀l,¬LI H pl l):M9 (upd H pl ob) v x:=by
 cases x with
 | p x=>exact Bj.upd h hp
 | i k=>exact h
theorem Cm.upd{pl:Nat}{ob:O}{vs:List V}{xs:List Pt}(h:Cm H vs xs)(hp:∀l,¬LI H pl l):Cm (upd H pl ob) vs xs:=⟨h.1,fun j v x h1 h2=>(h.2 j v x h1 h2).upd hp⟩
theorem Cm.set{vs:List V}{xs:List Pt}{j:Nat}{v:V}{x:Pt}(h:Cm H vs xs)(hv:M9 H v x):Cm H (vs.set j v) (xs.set j x):=by
 refine⟨by rw[List.length_set,List.length_set];exact h.1,fun i w y h1 h2=>?_⟩
 refine Aa fun nY=>?_
 by_cases e:j=i
 ·subst e
  rw[List.getElem?_set]at h1 h2
  simp only[if_true]at h1 h2
  split at h1
  ·split at h2
   ·refine nY ?_;clear nY
    cases h1;cases h2;exact hv
   ·cases h2
  ·cases h1
 ·rw[List.getElem?_set_ne e]at h1 h2
  refine nY ?_;clear nY
  exact h.2 i w y h1 h2
theorem Ex.upd{pl wl:Nat}{ob:O}{o r c k:Option (List Int)}{many:Int}(h:Ex H wl o r c k many)(hne:wl≠pl)(no:∀l,¬LI H pl l):Ex (upd H pl ob) wl o r c k many:=by
 refine Aa fun nY=>?_
 obtain⟨vs,h1,h2⟩:=h
 refine nY ?_;clear nY
 exact⟨vs,by rw[upd_ne hne];exact h1,h2.upd no⟩
noncomputable def Qh(p:Option (List Int)):Prop:=∀l,p=some l->l.length<=60
theorem Qh.short{p:Option (List Int)}(h:Qh p):Bb p:=fun l e=>by have:=h l e;exact Zq this
theorem Qh.none:Qh none:=fun l e=>by cases e
theorem Qh.some{l:List Int}(h:l.length<=60):Qh (some l):=fun l' e=>by cases e;exact h
theorem Ab6{as:List Nat}{ps:List (Int×Int)}{a b:Int}(h:Az H as ps):(Ii fun(as':List Nat) (ps':List (Int×Int))=>E6 (cut (as.map V.ref) (some a) (some b)=as'.map V.ref) (Az H as' ps') (∀p∈ps',p∈ps)):=by
 delta cut
 rw[List.length_map]
 refine⟨(as.take (D9 b as.length)).drop (D9 a as.length),(ps.take (D9 b as.length)).drop (D9 a as.length),?_,(h.take _).drop _,fun p hp=>List.mem_of_mem_take (List.mem_of_mem_drop hp)⟩
 rw[List.map_drop,List.map_take]
set_option linter.all false
variable {G:Aw} {n:Nat} {H H':AH} {Q:Ah} {E:EP} {C:CS} {ρ:Ak} {m:Nat} {A:Nat->Nat->Bool}
structure Agc(G:Aw):Prop where
 f:F12 G
 many:G.fn "_law_many" = some Gb
 keyed:G.fn "_law_keyed" = some Fu
 free:G.fn "_law_free" = some Hf
 order:G.fn "_law_order" = some E9
 made:G.fn "_law_made" = some Ld
 anew:G.fn "_law_list_anew" = some Ep
 law:G.fn "law" = some Tq
theorem Agd(F:Agc G)(H:AH){ns:List Int}:Af G (n+8) "law" [.script ns] H (fun v _=>v = .bool true) EF:=by
 have F3:=F.f.fns3
 have F1:=F3.fns2.fns
 have B:=F1.base
 refine Aj F.law rfl ?_
 delta Tq;simp only[List.map,List.replicate,List.cons_append,List.nil_append]
 refine C3 (fun(m:Nat)=>[some (.script ns),some (.int m),none,none,none,none,none,none,none,none,none,none,none,none,none,none,none,none,none,none]) (fun(m:Nat) H₁=>(m<=60)/\(H=H₁)) (fun N hN=>?_) ?_
 ·simp (disch:=first|decide|omega) only[Jg,Jp,Jw,Jx,Jy,Ag,Bo,Bp,Cu,true_and,F.many]
  exact Afu B.cellAt F.many fun m hm=>hN m _ ⟨hm,rfl⟩
 rintro m _ ⟨hm,rfl⟩
 refine Af0 (fun(a:Nat) (as:List Nat) (rows:List (List Int))=>[some (.script ns),some (.int m),some (.ref a),none,none,none,none,none,none,none,none,none,none,none,none,none,none,none,none,none]) (fun(a:Nat) (as:List Nat) (rows:List (List Int)) H₂=>E6 (H₂ a=some (.list (as.map V.ref))) (D3 H₂ as rows) (Wf m rows)) (fun N hN=>?_) ?_
 ·simp (disch:=first|decide|omega) only[Jg,Jp,Jw,Jx,Jy,Ag,Ai,Bo,Bp,Cu,true_and,B.rows]
  exact Afv B hm fun a as rows H₁ e _ h1 h2 h3=>hN a as rows _ ⟨h1,h2,h3⟩
 rintro a as rows H₁ ⟨h1,h2,h3⟩
 refine Af0 (fun(t:Nat) (ts:List Nat) (ps:List (Int×Int))=>[some (.script ns),some (.int m),some (.ref a),some (.ref t),none,none,none,none,none,none,none,none,none,none,none,none,none,none,none,none]) (fun(t:Nat) (ts:List Nat) (ps:List (Int×Int)) H₂=>Td (H₂ t=some (.list (ts.map V.ref))) (Az H₂ ts ps) (Es m ps) (ps.length<=4000)) (fun N hN=>?_) ?_
 ·simp (disch:=first|decide|omega) only[Jg,Jp,Jw,Jx,Jy,Ag,Ai,Bo,Bp,Cu,true_and,B.ties]
  exact Afy B hm h1 h2 h3 fun t ts ps H₂ e _ h1 h2 h4 h5=>hN t ts ps _ ⟨h1,h2,Adu h3 h4,h5⟩
 rintro t ts ps H₂ ⟨hT,hP,hgood,hpl⟩
 have g:=Ael hgood
 refine C3 (fun(nr:Nat)=>[some (.script ns),some (.int m),some (.ref a),some (.ref t),some (.ref nr),none,none,none,none,none,none,none,none,none,none,none,none,none,none,none]) (fun(nr:Nat) H₃=>(Ad H₂ H₃)/\(Cr H₃ nr m (Hs ps))) (fun N hN=>?_) ?_
 ·simp (disch:=first|decide|omega) only[Jg,Jp,Jw,Jx,Jy,Ag,Ai,Bo,Bp,Cu,true_and,B.near]
  exact Abf B hm hT hP hgood fun x H₃ e _ h=>hN x _ ⟨e,h⟩
 rintro nr H₃ ⟨e3,hNear⟩
 replace hT:=e3 _ _ hT
 replace hP:=hP.ext e3
 refine C3 (fun(cl:Int)=>[some (.script ns),some (.int m),some (.ref a),some (.ref t),some (.ref nr),some (.int cl),none,none,none,none,none,none,none,none,none,none,none,none,none,none]) (fun(cl:Int) H₄=>(0<=cl)/\(H₃=H₄)) (fun N hN=>?_) ?_
 ·simp (disch:=first|decide|omega) only[Je,Jg,Jp,Jw,Jx,Jy,Ag,Bo,Bp,Cu,true_and,B.mixed,B.cellAt]
  refine Cf B.cellAt (by decide) ?_
  (try dsimp only)
  refine Ml B.mixed fun c c0 c1=>?_
  exact hN c _ ⟨c0,rfl⟩
 rintro cl _ ⟨hcl,rfl⟩
 refine C3 (fun(far:Int)=>[some (.script ns),some (.int m),some (.ref a),some (.ref t),some (.ref nr),some (.int cl),some (.int far),none,none,none,none,none,none,none,none,none,none,none,none,none]) (fun(far:Int) H₄=>H₃=H₄) (fun N hN=>?_) ?_
 ·simp (disch:=first|decide|omega) only[Je,Jg,Jl,Jp,Jw,Jx,Jy,Ag,Bo,Bp,Cu,true_and,B.cellAt]
  refine Cf B.cellAt (by decide) ?_
  simp only[Ahx]
  refine⟨by decide,?_⟩
  rw[show (10:Int) ^ (20:Int).toNat=100000000000000000000 from rfl]
  (try dsimp only);(try simp (disch:=first|decide|omega) only[J6,J8])
  exact hN _ _ rfl
 rintro far _ rfl
 refine C3 (fun v7=>[some (.script ns),some (.int m),some (.ref a),some (.ref t),some (.ref nr),some (.int cl),some (.int far),some v7,none,none,none,none,none,none,none,none,none,none,none,none]) (fun v7 H₄=>(Ad H₃ H₄)/\((v7 = .none\/(Ii fun(od:Nat) (o:List Int)=>E6 (v7 = .ref od) (LI H₄ od o) (Bx m o))))) (fun N hN=>?_) ?_
 ·simp (disch:=first|decide|omega) only[Jg,Jp,Jw,Jx,Jy,Ag,Ai,Bo,Bp,Cu,true_and,F.order]
  exact Ad6 B F.keyed F.f.g.untied F.free F.order g hm hNear (fun H₄ e4=>hN _ _ ⟨e4,.inl rfl⟩) fun b o H₄ e4 _ v4 h1 h2=>hN _ _ ⟨e4,.inr ⟨b,o,rfl,v4,h1⟩⟩
 rintro v7 H₄ ⟨e4,h7⟩
 replace hT:=e4 _ _ hT
 replace hP:=hP.ext e4
 replace hNear:=hNear.ext e4
 refine C3 (fun(sz:Int)=>[some (.script ns),some (.int m),some (.ref a),some (.ref t),some (.ref nr),some (.int cl),some (.int far),some v7,some (.int sz),none,none,none,none,none,none,none,none,none,none,none]) (fun(sz:Int) H₅=>(H₄=H₅)/\(0<=sz)) (fun N hN=>?_) ?_
 ·simp (disch:=first|decide|omega) only[Je,Jg,Jl,Jp,Jq,Jw,Jx,Jy,J9,Jbn,Ag,Ai,Bo,Bp,Cu,true_and,B.cellAt]
  refine Cf B.cellAt (by decide) ?_
  (try dsimp only);(try simp (disch:=first|decide|omega) only[J6,J7,J8])
  (try refine V0 (by omega) (by omega) ?_)
  (try dsimp only)
  have hx:=Int.emod_nonneg (cell ns (2:Int).toNat/8) (show max 1 ((m:Int)-3)≠0 by exact(Int.ne_of_gt (Int.lt_of_lt_of_le (by decide) (Int.le_max_left _ _))))
  exact hN _ _ ⟨rfl,(Int.add_nonneg (by decide) hx)⟩
 rintro sz _ ⟨rfl,hs0⟩
 refine C3 (fun(sz:Int)=>[some (.script ns),some (.int m),some (.ref a),some (.ref t),some (.ref nr),some (.int cl),some (.int far),some v7,some (.int sz),none,none,none,none,none,none,none,none,none,none,none]) (fun(sz:Int) H₅=>(H₄=H₅)/\(0<=sz)) (fun N hN=>?_) ?_
 ·refine Ba (decide (cell ns (2:Int).toNat%8=6)) (fun Q' h'=>?_) ?_
  ·simp (disch:=first|decide|omega) only[Je,Jg,Jl,Jm,Jp,Jw,Jx,Ag,Cu,true_and,B.cellAt]
   refine Cf B.cellAt (by decide) ?_
   (try dsimp only);(try simp (disch:=first|decide|omega) only[J6,Qq])
   exact h'
  split
  ·simp (disch:=first|decide|omega) only[Je,Jg,Jl,Jp,Jw,Jx,Jy,J2,J3,Ag,Bo,Bp,Cu,true_and,B.cellAt]
   refine Cf B.cellAt (by decide) ?_
   (try dsimp only);(try simp (disch:=first|decide|omega) only[J6,J7,J8])
   exact hN _ _ ⟨rfl,(Int.add_nonneg (by decide) (Int.emod_nonneg _ (by decide)))⟩
  ·simp (disch:=first|decide|omega) only[J2]
   exact hN sz _ ⟨rfl,hs0⟩
 rintro sz _ ⟨rfl,hs0⟩
 refine C3 (fun(sz:Int)=>[some (.script ns),some (.int m),some (.ref a),some (.ref t),some (.ref nr),some (.int cl),some (.int far),some v7,some (.int sz),none,none,none,none,none,none,none,none,none,none,none]) (fun(sz:Int) H₅=>E6 (H₄=H₅) (sz<=m) (0<=sz)) (fun N hN=>?_) ?_
 ·simp (disch:=first|decide|omega) only[Jg,Jq,Jw,Jx,Jy,Jbo,Ag,Ai,Bo,Bp]
  exact hN _ _ ⟨rfl,(Int.min_le_left _ _),(Int.le_min.mpr ⟨Int.natCast_nonneg _,hs0⟩)⟩
 rintro sz _ ⟨rfl,hsz,hs0⟩
 refine Qw (fun(pl:Nat) (r:List Int)=>[some (.script ns),some (.int m),some (.ref a),some (.ref t),some (.ref nr),some (.int cl),some (.int far),some v7,some (.int sz),some (.ref pl),none,none,none,none,none,none,none,none,none,none]) (fun(pl:Nat) (r:List Int) H₅=>Td (Ad H₄ H₅) (H₄ pl=none) (Ex H₅ pl none (some r) none none 0) (r.length<=60)) (fun N hN=>?_) ?_
 ·refine Bw (Ach (Co (Acg (Co (grK ?_)))))
  simp (disch:=first|decide|omega) only[Jb,Je,Jg,Jw,Jx,J4,Oo,Dn,Dp,Ag,Ai,List.replicate,Bo,Bp]
  (try refine Db (Ahb hcl) (by omega) ?_)
  rw[I8]
  refine⟨by simp[Bq];exact(Int.le_trans hsz (Int.ofNat_le.mpr (Nat.le_trans hm (by decide)))),Un trivial (fun x hx K' hK' _=>?_) fun l hl=>?_⟩
  ·obtain⟨i,hi,rfl⟩:=List.mem_map.mp hx
   have:=List.mem_range.mp hi
   simp (disch:=first|decide|omega) only[Jg,Jp,Jw,Jx,Ag,Ai,Cu,true_and,Nm,B.name]
   exact V2 B.cellAt B.name (Int.natCast_pos.mpr (Nat.lt_of_lt_of_le (Nat.zero_lt_of_lt this) (Int.toNat_le.mpr hsz))) (Q90 hm) (hK' _)
  rw[List.length_map,List.length_range]at hl
  refine Ab fun b1 H₅ e5 n5 v5=>?_
  (try dsimp only)
  refine Ab fun b2 H₆ e6 n6 v6=>?_
  exact hN b2 l _ ⟨e5.trans e6,e5.isNone n6,⟨_,v6,Cm.mk5 rfl ⟨b1,rfl,e6 _ _ v5⟩ rfl rfl⟩,(Nat.le_trans hl (Nat.le_trans (Int.toNat_le.mpr hsz) hm))⟩
 rintro pl r0 H₅ ⟨e5,npl,hPa,hr0⟩
 replace hT:=hT
 refine Ah3 (fun(pl:Nat) (o:Option (List Int)) (r:Option (List Int)) (c:Option (List Int)) (k:Option (List Int)) (many:Int)=>[some (.script ns),some (.int m),some (.ref a),some (.ref t),some (.ref nr),some (.int cl),some (.int far),some v7,some (.int sz),some (.ref pl),none,none,none,none,none,none,none,none,none,none]) (fun(pl:Nat) (o:Option (List Int)) (r:Option (List Int)) (c:Option (List Int)) (k:Option (List Int)) (many:Int) H₆=>Td (Ad H₄ H₆) (H₄ pl=none) (Ex H₆ pl o r c k many) ((Qh o/\Qh r/\Qh c/\Qh k))) (fun N hN=>?_) ?_
 ·have old:N [some (.script ns),some (.int m),some (.ref a),some (.ref t),some (.ref nr),some (.int cl),some (.int far),some v7,some (.int sz),some (.ref pl),none,none,none,none,none,none,none,none,none,none] H₅:=hN pl none (some r0) none none 0 _ ⟨e5,npl,hPa,Qh.none,Qh.some hr0,Qh.none,Qh.none⟩
  rcases h7 with rfl | ⟨od,o,rfl,vo,hio⟩
  ·refine A5 ?_
   simp (disch:=first|decide|omega) only[Jb,Je,Jg,Jj,Jl,Jm,Jp,Jw,Jx,Jy,J2,J3,J6,Zi,Jbk,Bl,Ag,Ai,Bo,Bp]
   simp only[Bool.false_eq_true,if_false]
   exact old
  ·refine Ba (decide (0<cl%4)) (fun Q' h'=>?_) ?_
   ·simp (disch:=first|decide|omega) only[Jb,Je,Jg,Jj,Jl,Jm,J6,Zi,Jbl,Bl,Ag,Ai]
    simp only[if_true]
    exact h'
   split
   ·refine Ah2 (fun(pl:Nat) (c:Nat) (k:Nat) (lc:List Int) (lk:List Int)=>[some (.script ns),some (.int m),some (.ref a),some (.ref t),some (.ref nr),some (.int cl),some (.int far),some (.ref od),some (.int sz),some (.ref pl),none,none,none,none,none,none,none,none,none,none]) (fun(pl:Nat) (c:Nat) (k:Nat) (lc:List Int) (lk:List Int) H₆=>An8 (Ad H₄ H₆) (H₄ pl=none) (H₆ pl=some (.list [.ref od,.none,.ref c,.ref k,.int (lc.length:Nat)])) (LI H₆ od o) (LI H₆ c lc) (LI H₆ k lk) (lc.length<=60) (lk.length=m)) (fun N' hN'=>?_) ?_
    ·simp (disch:=first|decide|omega) only[Jg,Jp,Jw,Jx,Jy,Ag,Ai,Bo,Bp,Cu,true_and,F.made]
     exact Aga (n:=n+5) F.f.g.behind F.made hm (hNear.ext e5) (vo.ext e5) hio fun ps' c k lc lk H₆ e6 n1 n2 n3 v6 v7 v8 h9 h10=>hN' ps' c k lc lk _ ⟨e5.trans e6,e5.isNone n1,v6,(vo.ext e5).ext e6,v7,v8,h9,h10⟩
    rintro pl' c k lc lk H₆ ⟨e6,npl',vpl,vo6,vc6,vk6,hlc,hlk⟩
    have hPa6:Ex H₆ pl' (some o) none (some lc) (some lk) (lc.length:Nat):=⟨_,vpl,Cm.mk5 ⟨od,rfl,vo6⟩ rfl ⟨c,rfl,vc6⟩ ⟨k,rfl,vk6⟩⟩
    have ol:o.length<=60:=by rw[hio.len];exact hm
    refine Ae ?_
    refine Ba (decide (cl/4%2=1)) (fun Q' h'=>?_) ?_
    ·simp (disch:=first|decide|omega) only[Je,Jg,Jl,Jm,J6,J7,Qq,Ag,Ai];exact h'
    split
    ·refine Ae (E7 ?_)
     simp (disch:=first|decide|omega) only[Jc,Je,Jg,Ji,Js,Jt,J2,Ag,Ai,Al vpl (show (0:Int)<=2 by decide) (show [V.ref od,V.none,V.ref c,V.ref k,V.int ((lc.length:Nat):Int)][(2:Int).toNat]? = some (.ref c)from rfl),Ji]
     refine Abn vc6 ?_
     refine Ab fun b1 H₇ e7 n7 v7=>?_
     (try dsimp only)
     refine Hq (e7 _ _ vpl) (by decide) (show (2:Int)<((5:Nat):Int) by decide) ?_
     have hP7:=hPa6.ext e7
     have v7':LI H₇ b1 lc.reverse:=by unfold LI;rw[v7,List.map_reverse]
     refine hN pl' (some o) none (some lc.reverse) (some lk) (lc.length:Nat) _ ⟨(e6.trans e7).upd' npl',npl',⟨_,Ac,?_⟩,Qh.some ol,Qh.none,Qh.some (by rw[List.length_reverse];exact hlc),Qh.some (Nat.le_trans (Nat.le_of_eq hlk) hm)⟩
     obtain⟨vs,w1,w2⟩:=hP7
     rw[e7 _ _ vpl]at w1
     have:vs = [.ref od,.none,.ref c,.ref k,.int (lc.length:Nat)]:=by injection w1 with w1;injection w1 with w1;exact w1.symm
     subst this
     exact(w2.upd fun l=>(hPa6.ext e7).no).set (j:=2) (x:= .p (some lc.reverse)) (Bj.upd (p:=some lc.reverse) ⟨b1,rfl,v7'⟩ fun l=>(hPa6.ext e7).no)
    ·simp (disch:=first|decide|omega) only[J2]
     exact hN pl' (some o) none (some lc) (some lk) (lc.length:Nat) _ ⟨e6,npl',hPa6,Qh.some ol,Qh.none,Qh.some hlc,Qh.some (Nat.le_trans (Nat.le_of_eq hlk) hm)⟩
   ·simp (disch:=first|decide|omega) only[J2]
    exact old
 rintro pl o r c k many H₆ ⟨e6,npl,hPa,ho,hr,hc,hk⟩
 refine C3 (fun wl=>[some (.script ns),some (.int m),some (.ref a),some (.ref t),some (.ref nr),some (.int cl),some (.int far),some v7,some (.int sz),some (.ref pl),some (.ref wl),none,none,none,none,none,none,none,none,none]) (fun wl H₇=>E6 (Ad H₆ H₇) (H₆ wl=none) (Ex H₇ wl o r c k many)) (fun N hN=>?_) ?_
 ·obtain⟨vs,w1,w2⟩:=hPa
  refine Bw (Ww ?_)
  simp (disch:=first|decide|omega) only[Jg,J4,Dn,Dp,Ag,Ai,List.replicate,Bo,Bp]
  refine Ao w1 ?_
  refine⟨by rw[List.length_map,w2.1];show 5<=Bq;decide,N7 (n:=n+6) F.f.copy w1 w2 fun ws' H₇ e7 h7=>?_⟩
  exact Ab fun wl H₈ e8 n8 v8=>hN wl _ ⟨e7.trans e8,e7.isNone n8,⟨ws',v8,h7.ext e8⟩⟩
 rintro wl H₇ ⟨e7,nwl,hWa⟩
 have hwp:wl≠pl:=fun w=>by obtain⟨vs,w1,_⟩:=hPa;rw[w,w1]at nwl;cases nwl
 replace hPa:=hPa.ext e7
 replace e6:=e6.trans e7
 refine C3 (fun(pc:Nat)=>[some (.script ns),some (.int m),some (.ref a),some (.ref t),some (.ref nr),some (.int cl),some (.int far),some v7,some (.int sz),some (.ref pl),some (.ref wl),some (.int (pc:Int)),none,none,none,none,none,none,none,none]) (fun(pc:Nat) H₈=>(Ad H₇ H₈)/\(pc<=4)) (fun N hN=>?_) ?_
 ·simp (disch:=first|decide|omega) only[Je,Jg,Jl,Js,Ju,Jw,Jx,Jy,J6,J7,Ag,Ai,Bo,Bp]
  refine Ab fun b1 H₈ e8 _ v8=>?_
  (try dsimp only)
  obtain⟨j,hj⟩:∃j:Nat,cl/8%8=(j:Int):=⟨(cl/8%8).toNat,((Int.toNat_of_nonneg (Int.emod_nonneg _ (by decide))).symm)⟩
  have hj8:j<8:=(Ag3 hj)
  rw[hj]
  have:∃pc:Nat,pc<=4/\[V.int 1,V.int 1,V.int 4,V.int 4,V.int 4,V.int 0,V.int 2,V.int 3][j]? = some (.int (pc:Int)):=by
   rcases j with _|_|_|_|_|_|_|_|j
   ·exact⟨1,by decide,rfl⟩
   ·exact⟨1,by decide,rfl⟩
   ·exact⟨4,by decide,rfl⟩
   ·exact⟨4,by decide,rfl⟩
   ·exact⟨4,by decide,rfl⟩
   ·exact⟨0,by decide,rfl⟩
   ·exact⟨2,by decide,rfl⟩
   ·exact⟨3,by decide,rfl⟩
   ·exact(Nat.not_lt.mpr (Nat.le_add_left 8 _) hj8).elim
  obtain⟨pc,hpc,hx⟩:=this
  refine Cy (x:= .int (pc:Int)) v8 (Int.natCast_nonneg j) (by rw[Int.toNat_natCast];exact hx) ?_
  exact hN pc _ ⟨e8,hpc⟩
 rintro pc H₈ ⟨e8,hpc⟩
 replace hPa:=hPa.ext e8
 replace hWa:=hWa.ext e8
 replace e6:=e6.trans e8
 refine C3 (fun(pc:Nat)=>[some (.script ns),some (.int m),some (.ref a),some (.ref t),some (.ref nr),some (.int cl),some (.int far),some v7,some (.int sz),some (.ref pl),some (.ref wl),some (.int (pc:Int)),none,none,none,none,none,none,none,none]) (fun(pc:Nat) H₉=>(Ad H₈ H₉)/\(pc<=4)) (fun N hN=>?_) ?_
 ·obtain⟨vs,w1,w2⟩:=hPa
  obtain⟨vo,vr,vc,vk,rfl,x1,x2,_⟩:=w2.five
  refine Ba r.isNone (fun Q' h'=>?_) ?_
  ·simp (disch:=first|decide|omega) only[Jb,Je,Jg,Jm,Js,Ag,Ai,Al w1 (show (0:Int)<=1 by decide) (show [vo,vr,vc,vk,V.int many][(1:Int).toNat]? = some vr from rfl),x2.is]
   exact h'
  split
  ·simp (disch:=first|decide|omega) only[Je,Jg,Jl,Js,Ju,Jw,Jx,Jy,J2,J3,J6,J7,Ag,Ai,Bo,Bp]
   refine Ab fun b1 H₉ e9 _ v9=>?_
   (try dsimp only)
   obtain⟨j,hj⟩:∃j:Nat,cl/8%8=(j:Int):=⟨(cl/8%8).toNat,((Int.toNat_of_nonneg (Int.emod_nonneg _ (by decide))).symm)⟩
   have hj8:j<8:=(Ag3 hj)
   rw[hj]
   have:∃pc:Nat,pc<=4/\[V.int 0,V.int 0,V.int 0,V.int 1,V.int 2,V.int 3,V.int 3,V.int 4][j]? = some (.int (pc:Int)):=by
    rcases j with _|_|_|_|_|_|_|_|j
    ·exact⟨0,by decide,rfl⟩
    ·exact⟨0,by decide,rfl⟩
    ·exact⟨0,by decide,rfl⟩
    ·exact⟨1,by decide,rfl⟩
    ·exact⟨2,by decide,rfl⟩
    ·exact⟨3,by decide,rfl⟩
    ·exact⟨3,by decide,rfl⟩
    ·exact⟨4,by decide,rfl⟩
    ·exact(Nat.not_lt.mpr (Nat.le_add_left 8 _) hj8).elim
   obtain⟨pc',hpc',hx⟩:=this
   refine Cy (x:= .int (pc':Int)) v9 (Int.natCast_nonneg j) (by rw[Int.toNat_natCast];exact hx) ?_
   exact hN pc' _ ⟨e9,hpc'⟩
  ·simp (disch:=first|decide|omega) only[J2]
   exact hN pc _ ⟨Ad.refl,hpc⟩
 rintro pc H₉ ⟨e9,hpc⟩
 replace hPa:=hPa.ext e9
 replace hWa:=hWa.ext e9
 replace e6:=e6.trans e9
 have sO:=ho.short
 have sR:=hr.short
 have sC:=hc.short
 refine Ah3 (fun(r12:Option V) (o':Option (List Int)) (r':Option (List Int)) (c':Option (List Int)) (k':Option (List Int)) (many':Int)=>[some (.script ns),some (.int m),some (.ref a),some (.ref t),some (.ref nr),some (.int cl),some (.int far),some v7,some (.int sz),some (.ref pl),some (.ref wl),some (.int (pc:Int)),r12,none,none,none,none,none,none,none]) (fun(r12:Option V) (o':Option (List Int)) (r':Option (List Int)) (c':Option (List Int)) (k':Option (List Int)) (many':Int) H₁₀=>An6 (Ad H₄ H₁₀) (Ex H₁₀ pl o' r' c' k' many') (Ex H₁₀ wl o r c k many) (Bb o') (Bb r') (Bb c')) (fun N hN=>?_) ?_
 ·have old:N [some (.script ns),some (.int m),some (.ref a),some (.ref t),some (.ref nr),some (.int cl),some (.int far),some v7,some (.int sz),some (.ref pl),some (.ref wl),some (.int (pc:Int)),none,none,none,none,none,none,none,none] H₉:=hN none o r c k many _ ⟨e6,hPa,hWa,sO,sR,sC⟩
  obtain⟨vs,w1,w2⟩:=hPa
  have hPa:Ex H₉ pl o r c k many:=⟨vs,w1,w2⟩
  obtain⟨vo,vr,vc,vk,rfl,x1,x2,x3,x4⟩:=w2.five
  refine Ba (decide (0<cl/64%5)&&decide ((pc:Int)<4)) (fun Q' h'=>?_) ?_
  ·simp (disch:=first|decide|omega) only[Je,Jg,Jj,Jl,Jm,J6,J7,Qg,Zi,Bl,Ag,Ai]
   cases h1:decide (0<cl/64%5)<;>rw[h1]at h'<;>simpa using h'
  split
  ·rename_i hh
   have hp4:pc<4:=by simp at hh;exact Int.ofNat_lt.mp hh.2
   refine C3 (fun(an:Int)=>[some (.script ns),some (.int m),some (.ref a),some (.ref t),some (.ref nr),some (.int cl),some (.int far),some v7,some (.int sz),some (.ref pl),some (.ref wl),some (.int (pc:Int)),some (.int an),none,none,none,none,none,none,none]) (fun(an:Int) H₁₀=>(H₉=H₁₀)/\(0<=an)) (fun N' hN'=>?_) ?_
   ·simp (disch:=first|decide|omega) only[Je,Jg,Jp,Jw,Jx,Jy,Ag,Bo,Bp,Cu,true_and,B.mixed,B.cellAt]
    refine Cf B.cellAt (by decide) ?_
    (try dsimp only)
    refine Ml B.mixed fun c c0 c1=>?_
    exact hN' c _ ⟨rfl,c0⟩
   rintro an _ ⟨rfl,han⟩
   refine Ae (E7 ?_)
   rcases pc with _|_|_|_|pc
   ·simp (disch:=first|decide|omega) only[Je,Jg,Jp,Js,Jw,Jx,J2,Ag,Ai,Cu,true_and,Al (k:=((0:Nat):Int)) (x:=vo) w1 (Int.natCast_nonneg _) rfl,Al (k:=4) (x:=V.int many) w1 (by decide) rfl,F.anew]
    refine Hy F.anew x1 ho han fun v' p' H' e' h' hs=>?_
    (try dsimp only)
    refine Hq (e' _ _ w1) (Int.natCast_nonneg _) (show ((0:Nat):Int)<((5:Nat):Int) by decide) ?_
    have no:=fun l=>(hPa.ext e').no (l:=l)
    exact hN _ p' r c k many _ ⟨(e6.trans e').upd' npl,⟨_,Ac,((w2.ext e').upd no).set (j:=0) (x:= .p p') (Bj.upd h' no)⟩,(hWa.ext e').upd hwp no,hs,sR,sC⟩
   ·simp (disch:=first|decide|omega) only[Je,Jg,Jp,Js,Jw,Jx,J2,Ag,Ai,Cu,true_and,Al (k:=((1:Nat):Int)) (x:=vr) w1 (Int.natCast_nonneg _) rfl,Al (k:=4) (x:=V.int many) w1 (by decide) rfl,F.anew]
    refine Hy F.anew x2 hr han fun v' p' H' e' h' hs=>?_
    (try dsimp only)
    refine Hq (e' _ _ w1) (Int.natCast_nonneg _) (show ((1:Nat):Int)<((5:Nat):Int) by decide) ?_
    have no:=fun l=>(hPa.ext e').no (l:=l)
    exact hN _ o p' c k many _ ⟨(e6.trans e').upd' npl,⟨_,Ac,((w2.ext e').upd no).set (j:=1) (x:= .p p') (Bj.upd h' no)⟩,(hWa.ext e').upd hwp no,sO,hs,sC⟩
   ·simp (disch:=first|decide|omega) only[Je,Jg,Jp,Js,Jw,Jx,J2,Ag,Ai,Cu,true_and,Al (k:=((2:Nat):Int)) (x:=vc) w1 (Int.natCast_nonneg _) rfl,Al (k:=4) (x:=V.int many) w1 (by decide) rfl,F.anew]
    refine Hy F.anew x3 hc han fun v' p' H' e' h' hs=>?_
    (try dsimp only)
    refine Hq (e' _ _ w1) (Int.natCast_nonneg _) (show ((2:Nat):Int)<((5:Nat):Int) by decide) ?_
    have no:=fun l=>(hPa.ext e').no (l:=l)
    exact hN _ o r p' k many _ ⟨(e6.trans e').upd' npl,⟨_,Ac,((w2.ext e').upd no).set (j:=2) (x:= .p p') (Bj.upd h' no)⟩,(hWa.ext e').upd hwp no,sO,sR,hs⟩
   ·simp (disch:=first|decide|omega) only[Je,Jg,Jp,Js,Jw,Jx,J2,Ag,Ai,Cu,true_and,Al (k:=((3:Nat):Int)) (x:=vk) w1 (Int.natCast_nonneg _) rfl,Al (k:=4) (x:=V.int many) w1 (by decide) rfl,F.anew]
    refine Hy F.anew x4 hk han fun v' p' H' e' h' hs=>?_
    (try dsimp only)
    refine Hq (e' _ _ w1) (Int.natCast_nonneg _) (show ((3:Nat):Int)<((5:Nat):Int) by decide) ?_
    have no:=fun l=>(hPa.ext e').no (l:=l)
    exact hN _ o r c p' many _ ⟨(e6.trans e').upd' npl,⟨_,Ac,((w2.ext e').upd no).set (j:=3) (x:= .p p') (Bj.upd h' no)⟩,(hWa.ext e').upd hwp no,sO,sR,sC⟩
   ·exact(Nat.not_lt.mpr (Nat.le_add_left 4 _) hp4).elim
  ·refine Ba (decide (0<cl/64%5)) (fun Q' h'=>?_) ?_
   ·simp (disch:=first|decide|omega) only[Je,Jg,Jl,Jm,J6,J7,Zi,Ag,Ai];exact h'
   split
   ·refine Ae (E7 ?_)
    simp (disch:=first|decide|omega) only[Je,Jg,Jl,Js,Ju,Jw,Jx,J2,J6,J7,J8,J9,Ag,Ai,Al (k:=4) (x:=V.int many) w1 (by decide) rfl]
    refine Ab fun b1 H' e' _ v'=>?_
    (try dsimp only)
    obtain⟨j,hj⟩:∃j:Nat,cl/320%4=(j:Int):=⟨(cl/320%4).toNat,((Int.toNat_of_nonneg (Int.emod_nonneg _ (by decide))).symm)⟩
    have hj4:j<4:=(Int.ofNat_lt.mp (Int.lt_of_le_of_lt (Int.le_of_eq hj.symm) (Int.emod_lt_of_pos _ (by decide))))
    rw[hj]
    have:∃y:Int,[V.int (many+1),V.int (many-1),V.int far,V.int 0][j]? = some (.int y):=by
     rcases j with _|_|_|_|j
     ·exact⟨_,rfl⟩
     ·exact⟨_,rfl⟩
     ·exact⟨_,rfl⟩
     ·exact⟨_,rfl⟩
     ·exact(Nat.not_lt.mpr (Nat.le_add_left 4 _) hj4).elim
    obtain⟨y,hy⟩:=this
    refine Cy (x:= .int y) v' (Int.natCast_nonneg j) (by rw[Int.toNat_natCast];exact hy) ?_
    (try dsimp only)
    refine Hq (e' _ _ w1) (by decide) (show (4:Int)<((5:Nat):Int) by decide) ?_
    have no:=fun l=>(hPa.ext e').no (l:=l)
    exact hN _ o r c k y _ ⟨(e6.trans e').upd' npl,⟨_,Ac,((w2.ext e').upd no).set (j:=4) (x:= .i y) rfl⟩,(hWa.ext e').upd hwp no,sO,sR,sC⟩
   ·simp (disch:=first|decide|omega) only[J2]
    exact old
 rintro r12 o' r' c' k' many' H₁₀ ⟨e10,hPa,hWa,sO',sR',sC'⟩
 have hT10:=e10 _ _ hT
 have hP10:=hP.ext e10
 refine C3 (fun w=>[some (.script ns),some (.int m),some (.ref a),some (.ref t),some (.ref nr),some (.int cl),some (.int far),some v7,some (.int sz),some (.ref pl),some (.ref wl),some (.int (pc:Int)),r12,some (.ref w),none,none,none,none,none,none]) (fun w H₁₁=>(Ad H₁₀ H₁₁)/\(Cs H₁₁ w m (Hs ps))) (fun N hN=>?_) ?_
 ·simp (disch:=first|decide|omega) only[Jg,Jp,Jq,Jw,Jx,Jy,Ag,Ai,Bo,Bp,Cu,true_and,B.webOf,Mr hT10]
  refine Ab fun t' H₁₁ e11 _ v11=>?_
  exact Xm B hm v11 (hP10.ext e11) hgood fun w H₁₂ e12 _ h=>hN w _ ⟨e11.trans e12,h⟩
 rintro w H₁₁ ⟨e11,hWeb⟩
 refine Af0 (fun(ot:Nat) (us:List Nat) (qs:List (Int×Int))=>[some (.script ns),some (.int m),some (.ref a),some (.ref t),some (.ref nr),some (.int cl),some (.int far),some v7,some (.int sz),some (.ref pl),some (.ref wl),some (.int (pc:Int)),r12,some (.ref w),some (.ref ot),none,none,none,none,none]) (fun(ot:Nat) (us:List Nat) (qs:List (Int×Int)) H₁₂=>Td (Ad H₁₁ H₁₂) (H₁₂ ot=some (.list (us.map V.ref))) (Az H₁₂ us qs) (Es m qs)) (fun N hN=>?_) ?_
 ·simp (disch:=first|decide|omega) only[Jc,Je,Jg,Jl,Jq,Jt,Jw,Jx,Jy,J9,Ag,Ai,Bo,Bp,A8 (e11 _ _ hT10)]
  refine D4 (e11 _ _ hT10) F7 F7 ?_
  obtain⟨us,qs,hc1,hc2,hc3⟩:=Ab6 (a:=1) (b:=((ts.map V.ref).length:Int)-9) (hP10.ext e11)
  rw[hc1]
  exact Ab fun ot H₁₂ e12 _ v12=>hN ot us qs _ ⟨e12,v12,hc2.ext e12,fun p hp=>hgood p (hc3 p hp)⟩
 rintro ot us qs H₁₂ ⟨e12,hU,hV,hg2⟩
 refine Qw (fun(ws:Nat) (w2:Nat)=>[some (.script ns),some (.int m),some (.ref a),some (.ref t),some (.ref nr),some (.int cl),some (.int far),some v7,some (.int sz),some (.ref pl),some (.ref wl),some (.int (pc:Int)),r12,some (.ref w),some (.ref ot),some (.ref ws),none,none,none,none]) (fun(ws:Nat) (w2:Nat) H₁₃=>E6 (Ad H₁₂ H₁₃) (H₁₃ ws=some (.list [.ref w,.ref w2])) (Cs H₁₃ w2 m (Hs qs))) (fun N hN=>?_) ?_
 ·simp (disch:=first|decide|omega) only[Jg,Jp,Jq,Ju,Jw,Jx,Jy,Ag,Ai,Bo,Bp,Cu,true_and,B.webOf,Mr hU]
  refine Ab fun t' H₁₃ e13 _ v13=>?_
  refine Xm B hm v13 (hV.ext e13) hg2 fun w2 H₁₄ e14 _ h=>?_
  (try dsimp only)
  exact Ab fun ws H₁₅ e15 _ v15=>hN ws w2 _ ⟨(e13.trans e14).trans e15,v15,h.ext e15⟩
 rintro ws w2 H₁₃ ⟨e13,hws,hWeb2⟩
 refine Qw (fun(nns:Nat) (n2:Nat)=>[some (.script ns),some (.int m),some (.ref a),some (.ref t),some (.ref nr),some (.int cl),some (.int far),some v7,some (.int sz),some (.ref pl),some (.ref wl),some (.int (pc:Int)),r12,some (.ref w),some (.ref ot),some (.ref ws),some (.ref nns),none,none,none]) (fun(nns:Nat) (n2:Nat) H₁₄=>E6 (Ad H₁₃ H₁₄) (H₁₄ nns=some (.list [.ref nr,.ref n2])) (Cr H₁₄ n2 m (Hs qs))) (fun N hN=>?_) ?_
 ·simp (disch:=first|decide|omega) only[Jg,Jp,Ju,Jw,Jx,Jy,Ag,Ai,Bo,Bp,Cu,true_and,B.near]
  refine Abf B hm (e13 _ _ hU) (hV.ext e13) hg2 fun n2 H₁₄ e14 _ h=>?_
  (try dsimp only)
  exact Ab fun nns H₁₅ e15 _ v15=>hN nns n2 _ ⟨e14.trans e15,v15,h.ext e15⟩
 rintro nns n2 H₁₄ ⟨e14,hnn,hNear2⟩
 have e1014:=((e11.trans e12).trans e13).trans e14
 have two:Two H₁₄ ws nns m (Hs ps) (Hs qs):=⟨⟨w,w2,e14 _ _ hws,hWeb.ext ((e12.trans e13).trans e14),hWeb2.ext e14⟩,⟨nr,n2,hnn,(hNear.ext e10).ext e1014,hNear2⟩,g,Ael hg2⟩
 replace hWeb:=hWeb.ext ((e12.trans e13).trans e14)
 replace hPa:=hPa.ext e1014
 replace hWa:=hWa.ext e1014
 generalize Hs ps=A at *
 generalize Hs qs=D at *
 refine C3 (fun r17=>[some (.script ns),some (.int m),some (.ref a),some (.ref t),some (.ref nr),some (.int cl),some (.int far),some v7,some (.int sz),some (.ref pl),some (.ref wl),some (.int (pc:Int)),r12,some (.ref w),some (.ref ot),some (.ref ws),some (.ref nns),r17,none,none]) (fun r17 H₁₅=>Ad H₁₄ H₁₅) (fun N hN=>?_) ?_
 ·refine Oz ?_
  simp (disch:=first|decide|omega) only[Jg,Ju,Jw,Jx,Ag,Ai]
  refine Ab fun rl H₁₅ e15 _ v15=>?_
  (try dsimp only)
  refine Ao v15 ?_
  refine B6 (fun i r17=>[some (.script ns),some (.int m),some (.ref a),some (.ref t),some (.ref nr),some (.int cl),some (.int far),some v7,some (.int sz),some (.ref pl),some (.ref wl),some (.int (pc:Int)),r12,some (.ref w),some (.ref ot),some (.ref ws),some (.ref nns),r17,none,none]) (fun i r17 H₁₆=>Ad H₁₅ H₁₆) _ rfl Ad.refl ?_ ?_ ?_
  ·rintro i r17 H₁₆ e16;exact e16 _ _ v15
  ·rintro i x r17 H₁₆ K hx e16 hK
   have e1416:=e15.trans e16
   obtain⟨z,rfl,o₁,r₁,c₁,k₁,many₁,hz,z1,z2,z3⟩:∃z,x = .ref z/\∃o₁ r₁ c₁ k₁ many₁,Ex H₁₆ z o₁ r₁ c₁ k₁ many₁/\Bb o₁/\Bb r₁/\Bb c₁:=by
    rcases i with _|_|_|i
    ·cases hx;exact⟨pl,rfl,_,_,_,_,_,hPa.ext e1416,sO',sR',sC'⟩
    ·cases hx;exact⟨wl,rfl,_,_,_,_,_,hWa.ext e1416,sO,sR,sC⟩
    ·cases hx;exact⟨pl,rfl,_,_,_,_,_,hPa.ext e1416,sO',sR',sC'⟩
    ·cases hx
   obtain⟨vs,w1,w2⟩:=hz
   simp only[Nn,List.set_cons_succ,List.set_cons_zero]
   refine Dl ([some (.script ns),some (.int m),some (.ref a),some (.ref t),some (.ref nr),some (.int cl),some (.int far),some v7,some (.int sz),some (.ref pl),some (.ref wl),some (.int (pc:Int)),r12,some (.ref w),some (.ref ot),some (.ref ws),some (.ref nns),some (.ref z),none,none]) (fun H₁₇=>Ad H₁₆ H₁₇) (fun N' hN'=>?_) ?_
   ·refine A5 ?_
    simp (disch:=first|decide|omega) only[Jd,Jg,Jh,Jp,Jw,Jx,J0,J2,J3,Bl,Ag,Ai,Cu,true_and,F.f.asked]
    refine Ad9 (n:=n+1) F.f hm (two.ext e1416) w1 w2 z1 z2 z3 fun H₁₇ e17=>?_
    (try dsimp only);(try simp (disch:=first|decide|omega) only[Bl])
    simp only[Bool.not_true,Bool.false_eq_true,if_false]
    exact hN' _ e17
   rintro H₁₇ e17
   have e1417:=e1416.trans e17
   simp (disch:=first|decide|omega) only[Jg,Jp,Jw,Jx,Jz,J2,J3,Ag,Ai,Cu,true_and,F3.judged]
   exact Ut F3 g hm (hWeb.ext e1417) (fun _ _ _ _ H₁₈ e18 _ _ _ _ _ _ _=>hK _ _ ((e16.trans e17).trans e18)) fun _ _ _ _ _ _ _ H₁₈ e18 _ _ _ _ _ _ _ _ _ _ _ _ _ _ _ _ _ _=>hK _ _ ((e16.trans e17).trans e18)
  ·rintro r17 H₁₆ e16
   exact hN _ _ (e15.trans e16)
 rintro r17 H₁₅ e15
 replace two:=two.ext e15
 refine seq (fun ρ H₁₆=>(Ex5 fun(ow:Nat) (vo vr vc vk:V)=>E6 (ρ = [some (.script ns),some (.int m),some (.ref a),some (.ref t),some (.ref nr),some (.int cl),some (.int far),some v7,some (.int sz),some (.ref pl),some (.ref wl),some (.int (pc:Int)),r12,some (.ref w),some (.ref ot),some (.ref ws),some (.ref nns),r17,some (.ref ow),none]) (Ad H₁₅ H₁₆) (((Ex5 fun(o₁ r₁ c₁ k₁:Option (List Int)) (many₁:Int)=>An8 (Ta H₁₆ ow vo vr vc vk many₁) (Bj H₁₆ vo o₁) (Bj H₁₆ vr r₁) (Bj H₁₆ vc c₁) (Bj H₁₆ vk k₁) (Bb o₁) (Bb r₁) (Bb c₁)))))) (fun N hN=>?_) ?_
 ·obtain⟨w',a',D',gD,hw,_,sw,_⟩:=two.at_ (k:=cl%2) Ajf
  simp (disch:=first|decide|omega) only[Je,Jg,Jl,Jp,Js,Jw,Jx,Jy,J6,Ag,Ai,Bo,Bp,Cu,true_and,F3.judged]
  rw[sw]
  (try dsimp only)
  exact Ut F3 gD hm hw (fun v x l p H₁₆ e16 _ hv _ hx _ hl _=>hN _ _ ⟨v,_,_,_,_,rfl,e16,none,some l,none,none,0,hv,rfl,⟨x,rfl,hx⟩,rfl,rfl,Bb.none,Bb.some (Nat.lt_of_le_of_lt hl (by decide)),Bb.none⟩)
   fun v o c k lo lc lk H₁₆ e16 _ hv _ _ _ _ _ _ h1 h2 h3 _ _ h4 h5 h6 _ _=>hN _ _ ⟨v,_,_,_,_,rfl,e16,some lo,none,some lc,some lk,_,hv,⟨o,rfl,h1⟩,rfl,⟨c,rfl,h2⟩,⟨k,rfl,h3⟩,Bb.some (by rw[h4.len];exact Zq hm),Bb.none,Bb.some (by
    rcases h6 with h6 | ⟨h6,_⟩
    ·obtain⟨j,hj⟩:=List.mem_iff_getElem?.mp h6
     obtain⟨p,hp,rfl,_⟩:=Ze hj
     have:=Sa (A:=D') hp
     rw[h4.len]at this
     exact Acd hm this
    ·rw[h6];decide)⟩
 rintro _ H₁₆ ⟨ow,vo,vr,vc,vk,rfl,e16,o₁,r₁,c₁,k₁,many₁,hv,p1,p2,p3,p4,z1,z2,z3⟩
 replace two:=two.ext e16
 refine C3 (fun tl=>[some (.script ns),some (.int m),some (.ref a),some (.ref t),some (.ref nr),some (.int cl),some (.int far),some v7,some (.int sz),some (.ref pl),some (.ref wl),some (.int (pc:Int)),r12,some (.ref w),some (.ref ot),some (.ref ws),some (.ref nns),r17,some (.ref ow),some (.ref tl)]) (fun tl H₁₇=>(Ad H₁₆ H₁₇)/\(H₁₇ tl=some (.list [vo,vr,vc,vk,.int many₁]))) (fun N hN=>?_) ?_
 ·obtain⟨d,a1,a2⟩:=hv
  simp (disch:=first|decide|omega) only[Jg,Jr,Ju,Jw,Jx,Jy,Ag,Ai,Bo,Bp,Bn a1 a2 (show Ds _ Ct.order=some vo from rfl),Bn a1 a2 (show Ds _ Ct.ring=some vr from rfl),Bn a1 a2 (show Ds _ Ct.crowd=some vc from rfl),Bn a1 a2 (show Ds _ Ct.colours=some vk from rfl),Bn a1 a2 (show Ds _ Ct.many=some (V.int many₁)from rfl)]
  exact Ab fun tl H₁₇ e17 _ v17=>hN tl _ ⟨e17,v17⟩
 rintro tl H₁₇ ⟨e17,vtl⟩
 replace two:=two.ext e17
 replace hv:=hv.ext e17
 replace p1:=p1.ext e17
 replace p2:=p2.ext e17
 replace p3:=p3.ext e17
 replace p4:=p4.ext e17
 refine Ae (Il (Oy (hvK ?_)))
 simp (disch:=first|decide|omega) only[Je,Jg,Ju,Jv,Jw,Jx,J4,Dn,Dp,List.replicate]
 refine Ab fun tp H₁₈ e18 _ v18=>?_
 (try dsimp only)
 refine Xi v18 ?_
 refine⟨by decide,Ck (k:=0) (fun j acc H₁₉=>acc = []/\Ad H₁₈ H₁₉) ⟨rfl,Ad.refl⟩ ?_ ?_⟩
 ·rintro j x acc H₁₉ K hx ⟨rfl,e19⟩ hK
  obtain⟨kk,rfl,hkk⟩:∃kk:Int,x = .v (.int kk)/\(kk=0\/kk=1):=by
   rcases j with _|_|_|j
   ·cases hx;exact⟨0,rfl,.inl rfl⟩
   ·cases hx;exact⟨1,rfl,.inr rfl⟩
   ·cases hx;exact⟨0,rfl,.inl rfl⟩
   ·cases hx
  refine⟨e19 _ _ v18,_,rfl,?_⟩
  have e1719:=e18.trans e19
  obtain⟨w',a',D',gD,hw,ha,sw,sn⟩:=(two.ext e1719).at_ hkk
  simp (disch:=first|decide|omega) only[Jg,Jm,Jp,Js,Jw,Jx,Ag,Ai,Cu,true_and,Np,sw,F.f.v.holds]
  refine Ux (n:=n+2) F.f.v gD hm hw (hv.ext e1719) (p1.ext e1719) (p2.ext e1719) (p3.ext e1719) (p4.ext e1719) z1 z2 z3 fun b H₂₀ e20 hb=>?_
  (try dsimp only)
  refine⟨by rw[F.f.g.good];rfl,?_⟩
  rw[sn H₂₀ _ e20]
  (try dsimp only)
  have e1720:=e1719.trans e20
  refine Xw (n:=n+5) F.f.g gD hm (ha.ext e20) (e1720 _ _ vtl) (p1.ext e1720) (p2.ext e1720) (p3.ext e1720) (p4.ext e1720) z1 z2 z3 fun b' H₂₁ e21 hb'=>?_
  have hbb:b=b':=by rw[Bool.eq_iff_iff,hb,hb']
  subst hbb
  (try dsimp only);(try simp (disch:=first|decide|omega) only[Jbh,Bl])
  rw[show (b==b)=true from beq_self_eq_true b]
  simp only[Bool.not_true,Bool.false_eq_true,if_false]
  exact hK none _ ⟨rfl,(e19.trans e20).trans e21⟩
 ·rintro acc H₁₉ ⟨rfl,e19⟩
  refine⟨e19 _ _ v18,?_⟩
  refine Ab fun s1 H₂₀ e20 _ v20=>?_
  (try dsimp only)
  refine Ab fun s2 H₂₁ e21 _ v21=>?_
  (try dsimp only)
  refine V9 (l:=[]) (l':=[]) (e21 _ _ v20) v21 ?_
  simp
end Mine.Internal.Cl
namespace Mine.Internal.Cl
open PySem PySem.W PyProof.Rows
set_option maxRecDepth 100000
set_option maxHeartbeats 8000000
theorem grd(P:Params):Mj (kk P)=true:=by kernel_rfl
theorem Aib(P:Params):(Mi (kk P) (Ig (kk P)) "law").isSome=true:=by kernel_rfl
theorem bas(P:Params):G1 (Od (kk P)):=by
 constructor<;>kernel_rfl
theorem fn1(P:Params):Fns (Od (kk P)):=by
 refine⟨bas P,?_,?_,?_,?_⟩<;>kernel_rfl
theorem fn2(P:Params):M5 (Od (kk P)):=by
 refine⟨fn1 P,?_,?_,?_,?_,?_,?_,?_,?_,?_,?_⟩<;>kernel_rfl
theorem fn3(P:Params):Y8 (Od (kk P)):=by
 refine⟨fn2 P,?_,?_,?_,?_,?_,?_,?_⟩<;>kernel_rfl
theorem fvv(P:Params):Af7 (Od (kk P)):=by
 refine⟨fn2 P,?_,?_,?_,?_⟩<;>kernel_rfl
theorem fgg(P:Params):Af8 (Od (kk P)):=by
 constructor<;>kernel_rfl
theorem f12(P:Params):F12 (Od (kk P)):=by
 refine⟨fn3 P,fvv P,fgg P,?_,?_⟩<;>kernel_rfl
theorem fns(P:Params):Agc (Od (kk P)):=by
 refine⟨f12 P,?_,?_,?_,?_,?_,?_,?_⟩<;>kernel_rfl
theorem main{G:Aw}(F:Agc G)(H:AH){ns:List Int}:Af G 40 "law" [.script ns] H (fun v _=>v = .bool true) EF:=Agd (n:=32) F H
theorem Akh:PySem.Challenge.rw_uf020033_12.wellSaid=true:=by
 delta OpenLaw.wellSaid
 iterate 18 (refine look_both ?_ (by decide +kernel))
 decide +kernel
noncomputable def Q8:DefRec×List (Str×Expr):=(defOf kq PySem.Challenge.rw_uf020033_12.row.name).get (by kernel_rfl)
theorem hD1:defOf kq PySem.Challenge.rw_uf020033_12.row.name=some (Q8.1,Q8.2):=by kernel_rfl
theorem hD2:PySem.Challenge.pw_uf020033_12.theDef PySem.Challenge.rw_uf020033_12.row.name=some (Q8.1.params,Q8.1.body,Q8.1.scope):=by kernel_rfl
theorem hD3:kwWritten? Q8.1.params.kwonlyargs Q8.1.params.kw_defaults=some Q8.2:=by kernel_rfl
theorem Aic:PySem.Challenge.rw_uf020033_12.row.prog.bare:=⟨rfl,rfl,rfl,rfl,rfl,by decide +kernel⟩
theorem fin:PySem.Challenge.rw_uf020033_12.Holds:=by
 w_on
 refine holds_law Akh fun said=>?_
 refine holds_open (q:=kq) (loose:=[]) (Xt:=fun s=>xlAt kq [] s&&recOk (RowW.records PySem.Challenge.rw_uf020033_12.row.toRowW) s) (XP:=XL kq []) (Yf:=Hook.obs kH) (Ya:=Hook.val kH) (YP:=Hook.says kH) (d:=Q8.1) (kwd:=Q8.2) (N:=6444) Aio (Hook.of kH) (Hook.keeps kH) (fun s e=>xl_of s (Bool.and_eq_true_iff.mp e).1) XL.keeps hD1 hD2 hD3 (fun s e=>recFacts_of (Bool.and_eq_true_iff.mp e).2) (by rfl) (by first|assumption|decide +kernel) (by decide +kernel) Aic ?hw ?hc
 case hw=>w_witness2
 case hc=>
  intro w s₀ s₁ mg mb G Y fa o pm cd doc dV kV ho hd hcd hD hmg hg args vals as hpre hlay hrd hwl hlo
  have KX:(kk w.params).In s₁.heap:=kIn_of Y
  refine Ground.open G ?_
  intro T B D TE TW
  wrow_args hpre hlay hrd hwl hlo
  clear hcd hd hD ho Y G B TE TW D
  rename_i nsL _ _ _ _ _ _ _ la items _ hL _ _ _ hI _ hlen _
  exact Adk KX (topRead_of T) (grd _) (Aib _) hmg hg hL hI (by omega) (main (fns _) _) (fun _=>rfl) (by first|kernel_rfl|decide +kernel|exact postW_of (X:=true) (by kernel_rfl) (by kernel_rfl) rfl)
end Mine.Internal.Cl
theorem PySem.Challenge.cw_uf020033_12_holds : PySem.Challenge.rw_uf020033_12.Holds :=
 Mine.Internal.Cl.fin

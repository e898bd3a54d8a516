import PyProof.Rows.All
import Wide.All
import OpenK.AllK
import Wide.FinOn
import PySem.Challenge.RW_uf020033_08
set_option Elab.async false
set_option maxHeartbeats 4000000
set_option linter.all false
set_option genSizeOf false
set_option genSizeOfSpec false
set_option genInjectivity false
set_option bootstrap.genMatcherCode false
namespace Mine.Internal.Cl
open PySem PySem.W PyProof.Rows
set_option maxRecDepth 100000
set_option maxHeartbeats 8000000
noncomputable def Ah(i:Nat):Stmt:=PySem.Challenge.pw_uf020033_08.main.body.getD i (.Pass default)
noncomputable def Gg(i j:Nat):Stmt:=match Ah i with
 | .ClassDef _ _ _ b .. =>b.getD j (.Pass default)
 | s=>s
noncomputable def Br(st:Stmt)(q:Str)(md:Value)(cd:Addr):Obj:=match st with
 | .FunctionDef name args body _ _ _ scope _ _ _=>{cls:= .type "function",data:= .func {name:=name,qualname:=q,params:=args,body:= .stmts body,scope:=scope,globals:=3,closure:=[],defaults:= .none,kwdefaults:= .none,pyModule:=md,code:= .ref cd}}
 | _=>default
noncomputable def Ej(st:Stmt)(q:Str):Obj:=match st with
 | .FunctionDef name args body _ _ _ scope _ _ _=>{cls:= .none,data:= .func {name:=name,qualname:=q,params:=args,body:= .stmts body,scope:=scope,globals:=0,closure:=[],defaults:= .none,kwdefaults:= .none}}
 | _=>default
noncomputable def vs(s:String)(n:Nat):Value:= .str (Str.ofString s) n
noncomputable def rf(n:Nat):Value:= .ref n
noncomputable def vi(n:Int):Value:= .int n 0
noncomputable def dE(P:Params)(s:String)(n:Nat)(v:Value):DictEntry:={hash:=PyData.keyHash P (Str.ofString s),key:= .str (Str.ofString s) n,val:=v}
noncomputable def tO(c:String)(a:Array Value):Obj:={cls:= .type c,data:= .seq a}
noncomputable def cO(c:String)(a:Array Value):Obj:={cls:= .type c,data:= .fields a}
noncomputable def dO(c:String)(a:Array DictEntry):Obj:={cls:= .type c,data:= .dict a}
noncomputable def fO(a:Array (Option Value)):Obj:={cls:= .type "frame",slots:=a}
noncomputable def kk(P:Params):Frag:=[
 (2,{cls:=Value.none,data:=Data.dict #[]}),
 (3,{cls:=Value.type "dict",data:=Data.dict #[dE P "__name__" 165 (vs "law_uf020033_08" 568),dE P "__doc__" 166 (Value.none),dE P "__package__" 167 (Value.none),dE P "__loader__" 168 (Value.builtin "__main__.__loader__#opaque"),dE P "__spec__" 169 (Value.none),dE P "__annotations__" 170 (rf 6),dE P "__builtins__" 171 (rf 4),dE P "__file__" 173 (vs "/claim/cut.py" 172),dE P "__cached__" 174 (Value.none),dE P "WebError" 206 (rf 24),dE P "BadWeb" 222 (rf 37),dE P "NoPoint" 238 (rf 49),dE P "BadOrder" 254 (rf 61),dE P "HasGap" 270 (rf 73),dE P "is_order" 280 (rf 82),dE P "need_order" 288 (rf 89),dE P "those_behind" 294 (rf 94),dE P "first_untied" 305 (rf 101),dE P "gap" 315 (rf 108),dE P "least_to_go" 321 (rf 113),dE P "taken" 331 (rf 120),dE P "filled" 337 (rf 125),dE P "need_whole" 347 (rf 132),dE P "crowd_at" 356 (rf 139),dE P "is_full" 362 (rf 144),dE P "full_crowds" 373 (rf 151),dE P "least_free" 381 (rf 158),dE P "coloured" 387 (rf 163),dE P "steps_from" 403 (rf 170),dE P "way" 415 (rf 177),dE P "pieces" 426 (rf 184),dE P "ring_at" 432 (rf 189),dE P "long_ring" 441 (rf 196),dE P "Verdict" 480 (rf 213),dE P "judged" 491 (rf 224),dE P "MOST" 495 (Value.int 60 494),dE P "Web" 561 (rf 269),dE P "web_of" 567 (rf 278),dE P "_law_cell_at" 577 (rf 285),dE P "_law_whole" 584 (rf 292),dE P "_law_numbers" 593 (rf 299),dE P "_law_pairs" 602 (rf 306),dE P "_law_mixed" 610 (rf 313),dE P "_law_earlier" 626 (rf 320),dE P "_law_any_rows" 632 (rf 325),dE P "_law_many" 640 (rf 332),dE P "_law_banded" 646 (rf 337),dE P "_law_ringed" 652 (rf 342),dE P "_law_hubbed" 658 (rf 347),dE P "_law_rows" 668 (rf 354),dE P "_law_name" 678 (rf 361),dE P "_law_ties" 684 (rf 366),dE P "_law_near" 690 (rf 371),dE P "_law_keyed" 696 (rf 376),dE P "_law_behind" 702 (rf 381),dE P "_law_untied" 712 (rf 388),dE P "_law_free" 718 (rf 393),dE P "_law_order" 730 (rf 400),dE P "_law_due" 736 (rf 405),dE P "_law_within" 747 (rf 412),dE P "law" 753 (rf 417)] 61}),
 (23,{cls:=Value.type "dict",data:=Data.dict #[dE P "__module__" 196 (vs "shortring.errors" 187),dE P "__firstlineno__" 200 (Value.int 2 199),dE P "__static_attributes__" 201 (rf 22),dE P "__weakref__" 203 (rf 25),dE P "__doc__" 204 (Value.none)] 3}),
 (24,{cls:=Value.type "type",data:=Data.cls {name:=Str.ofString "WebError",bases:=[Value.type "ValueError"],mro:=[rf 24,Value.type "ValueError",Value.type "Exception",Value.type "BaseException",Value.type "object"],ns:=23,qualname:=Str.ofString "WebError",subclasses:=[rf 37,rf 49,rf 61,rf 73]},slots:= #[some (rf 15),none,some (vs "WebError" 189),some (vs "WebError" 197),some (Value.builtin "ValueError.__new__"),some (Value.bool true)]}),
 (36,{cls:=Value.type "dict",data:=Data.dict #[dE P "__module__" 214 (vs "shortring.errors" 187),dE P "__firstlineno__" 218 (Value.int 4 217),dE P "__static_attributes__" 219 (rf 35),dE P "__doc__" 220 (Value.none)] 2}),
 (37,{cls:=Value.type "type",data:=Data.cls {name:=Str.ofString "BadWeb",bases:=[rf 24],mro:=[rf 37,rf 24,Value.type "ValueError",Value.type "Exception",Value.type "BaseException",Value.type "object"],ns:=36,qualname:=Str.ofString "BadWeb"},slots:= #[some (rf 28),none,some (vs "BadWeb" 207),some (vs "BadWeb" 215),some (Value.builtin "ValueError.__new__"),some (Value.bool true)]}),
 (48,{cls:=Value.type "dict",data:=Data.dict #[dE P "__module__" 230 (vs "shortring.errors" 187),dE P "__firstlineno__" 234 (Value.int 6 233),dE P "__static_attributes__" 235 (rf 47),dE P "__doc__" 236 (Value.none)] 2}),
 (49,{cls:=Value.type "type",data:=Data.cls {name:=Str.ofString "NoPoint",bases:=[rf 24],mro:=[rf 49,rf 24,Value.type "ValueError",Value.type "Exception",Value.type "BaseException",Value.type "object"],ns:=48,qualname:=Str.ofString "NoPoint"},slots:= #[some (rf 40),none,some (vs "NoPoint" 223),some (vs "NoPoint" 231),some (Value.builtin "ValueError.__new__"),some (Value.bool true)]}),
 (60,{cls:=Value.type "dict",data:=Data.dict #[dE P "__module__" 246 (vs "shortring.errors" 187),dE P "__firstlineno__" 250 (Value.int 8 249),dE P "__static_attributes__" 251 (rf 59),dE P "__doc__" 252 (Value.none)] 2}),
 (61,{cls:=Value.type "type",data:=Data.cls {name:=Str.ofString "BadOrder",bases:=[rf 24],mro:=[rf 61,rf 24,Value.type "ValueError",Value.type "Exception",Value.type "BaseException",Value.type "object"],ns:=60,qualname:=Str.ofString "BadOrder"},slots:= #[some (rf 52),none,some (vs "BadOrder" 239),some (vs "BadOrder" 247),some (Value.builtin "ValueError.__new__"),some (Value.bool true)]}),
 (72,{cls:=Value.type "dict",data:=Data.dict #[dE P "__module__" 262 (vs "shortring.errors" 187),dE P "__firstlineno__" 266 (Value.int 10 265),dE P "__static_attributes__" 267 (rf 71),dE P "__doc__" 268 (Value.none)] 2}),
 (73,{cls:=Value.type "type",data:=Data.cls {name:=Str.ofString "HasGap",bases:=[rf 24],mro:=[rf 73,rf 24,Value.type "ValueError",Value.type "Exception",Value.type "BaseException",Value.type "object"],ns:=72,qualname:=Str.ofString "HasGap"},slots:= #[some (rf 64),none,some (vs "HasGap" 255),some (vs "HasGap" 263),some (Value.builtin "ValueError.__new__"),some (Value.bool true)]}),
 (81,cO "code" #[vs "is_order" 273,vs "is_order" 274,vs "/claim/cut.py" 275,vi 13,vi 2,vi 0,vi 0,vi 3,rf 76,Value.bool true,vi 181,rf 77,Value.none,rf 78,rf 79,rf 80,vi 278,vi 13,vs "/claim/cut.py" 279]),
 (82,Br (Ah 7) (Str.ofString "is_order") (vs "shortring.orders" 271) 81),
 (88,cO "code" #[vs "need_order" 281,vs "need_order" 282,vs "/claim/cut.py" 283,vi 15,vi 2,vi 0,vi 0,vi 3,rf 83,Value.bool true,vi 181,rf 84,Value.none,rf 85,rf 86,rf 87,vi 286,vi 15,vs "/claim/cut.py" 287]),
 (89,Br (Ah 8) (Str.ofString "need_order") (vs "shortring.orders" 271) 88),
 (93,cO "code" #[vs "those_behind" 289,vs "those_behind" 290,vs "/claim/cut.py" 291,vi 18,vi 3,vi 0,vi 0,vi 3,rf 90,Value.bool true,vi 181,rf 91,Value.none,Value.none,Value.none,rf 92,vi 292,vi 18,vs "/claim/cut.py" 293]),
 (94,Br (Ah 9) (Str.ofString "those_behind") (vs "shortring.orders" 271) 93),
 (100,cO "code" #[vs "first_untied" 295,vs "first_untied" 296,vs "/claim/cut.py" 297,vi 21,vi 2,vi 0,vi 0,vi 3,rf 95,Value.bool true,vi 181,rf 96,Value.none,rf 97,rf 98,rf 99,vi 303,vi 21,vs "/claim/cut.py" 304]),
 (101,Br (Ah 10) (Str.ofString "first_untied") (vs "shortring.orders" 271) 100),
 (107,cO "code" #[vs "gap" 306,vs "gap" 307,vs "/claim/cut.py" 308,vi 27,vi 2,vi 0,vi 0,vi 3,rf 102,Value.bool true,vi 181,rf 103,Value.none,rf 104,rf 105,rf 106,vi 313,vi 27,vs "/claim/cut.py" 314]),
 (108,Br (Ah 11) (Str.ofString "gap") (vs "shortring.orders" 271) 107),
 (112,cO "code" #[vs "least_to_go" 316,vs "least_to_go" 317,vs "/claim/cut.py" 318,vi 34,vi 2,vi 0,vi 0,vi 3,rf 109,Value.bool true,vi 181,rf 110,Value.none,Value.none,Value.none,rf 111,vi 319,vi 34,vs "/claim/cut.py" 320]),
 (113,Br (Ah 12) (Str.ofString "least_to_go") (vs "shortring.orders" 271) 112),
 (119,cO "code" #[vs "taken" 322,vs "taken" 323,vs "/claim/cut.py" 324,vi 39,vi 1,vi 0,vi 0,vi 3,rf 114,Value.bool true,vi 181,rf 115,Value.none,rf 116,rf 117,rf 118,vi 329,vi 39,vs "/claim/cut.py" 330]),
 (120,Br (Ah 13) (Str.ofString "taken") (vs "shortring.orders" 271) 119),
 (124,cO "code" #[vs "filled" 332,vs "filled" 333,vs "/claim/cut.py" 334,vi 48,vi 2,vi 0,vi 0,vi 3,rf 121,Value.bool true,vi 181,rf 122,Value.none,Value.none,Value.none,rf 123,vi 335,vi 48,vs "/claim/cut.py" 336]),
 (125,Br (Ah 14) (Str.ofString "filled") (vs "shortring.orders" 271) 124),
 (131,cO "code" #[vs "need_whole" 340,vs "need_whole" 341,vs "/claim/cut.py" 342,vi 67,vi 2,vi 0,vi 0,vi 3,rf 126,Value.bool true,vi 181,rf 127,Value.none,rf 128,rf 129,rf 130,vi 345,vi 67,vs "/claim/cut.py" 346]),
 (132,Br (Ah 16) (Str.ofString "need_whole") (vs "shortring.crowds" 338) 131),
 (138,cO "code" #[vs "crowd_at" 348,vs "crowd_at" 349,vs "/claim/cut.py" 350,vi 70,vi 3,vi 0,vi 0,vi 3,rf 133,Value.bool true,vi 181,rf 134,Value.none,rf 135,rf 136,rf 137,vi 354,vi 70,vs "/claim/cut.py" 355]),
 (139,Br (Ah 17) (Str.ofString "crowd_at") (vs "shortring.crowds" 338) 138),
 (143,cO "code" #[vs "is_full" 357,vs "is_full" 358,vs "/claim/cut.py" 359,vi 72,vi 2,vi 0,vi 0,vi 3,rf 140,Value.bool true,vi 181,rf 141,Value.none,Value.none,Value.none,rf 142,vi 360,vi 72,vs "/claim/cut.py" 361]),
 (144,Br (Ah 18) (Str.ofString "is_full") (vs "shortring.crowds" 338) 143),
 (150,cO "code" #[vs "full_crowds" 363,vs "full_crowds" 364,vs "/claim/cut.py" 365,vi 77,vi 2,vi 0,vi 0,vi 3,rf 145,Value.bool true,vi 181,rf 146,Value.none,rf 147,rf 148,rf 149,vi 371,vi 77,vs "/claim/cut.py" 372]),
 (151,Br (Ah 19) (Str.ofString "full_crowds") (vs "shortring.crowds" 338) 150),
 (157,cO "code" #[vs "least_free" 374,vs "least_free" 375,vs "/claim/cut.py" 376,vi 85,vi 1,vi 0,vi 0,vi 3,rf 152,Value.bool true,vi 181,rf 153,Value.none,rf 154,rf 155,rf 156,vi 379,vi 85,vs "/claim/cut.py" 380]),
 (158,Br (Ah 20) (Str.ofString "least_free") (vs "shortring.crowds" 338) 157),
 (162,cO "code" #[vs "coloured" 382,vs "coloured" 383,vs "/claim/cut.py" 384,vi 90,vi 2,vi 0,vi 0,vi 3,rf 159,Value.bool true,vi 181,rf 160,Value.none,Value.none,Value.none,rf 161,vi 385,vi 90,vs "/claim/cut.py" 386]),
 (163,Br (Ah 21) (Str.ofString "coloured") (vs "shortring.crowds" 338) 162),
 (169,cO "code" #[vs "steps_from" 390,vs "steps_from" 391,vs "/claim/cut.py" 392,vi 97,vi 3,vi 0,vi 0,vi 3,rf 164,Value.bool true,vi 181,rf 165,Value.none,rf 166,rf 167,rf 168,vi 401,vi 97,vs "/claim/cut.py" 402]),
 (170,Br (Ah 23) (Str.ofString "steps_from") (vs "shortring.rings" 388) 169),
 (176,cO "code" #[vs "way" 404,vs "way" 405,vs "/claim/cut.py" 406,vi 109,vi 4,vi 0,vi 0,vi 3,rf 171,Value.bool true,vi 181,rf 172,Value.none,rf 173,rf 174,rf 175,vi 413,vi 109,vs "/claim/cut.py" 414]),
 (177,Br (Ah 24) (Str.ofString "way") (vs "shortring.rings" 388) 176),
 (183,cO "code" #[vs "pieces" 416,vs "pieces" 417,vs "/claim/cut.py" 418,vi 122,vi 2,vi 0,vi 0,vi 3,rf 178,Value.bool true,vi 181,rf 179,Value.none,rf 180,rf 181,rf 182,vi 424,vi 122,vs "/claim/cut.py" 425]),
 (184,Br (Ah 25) (Str.ofString "pieces") (vs "shortring.rings" 388) 183),
 (188,cO "code" #[vs "ring_at" 427,vs "ring_at" 428,vs "/claim/cut.py" 429,vi 129,vi 2,vi 0,vi 0,vi 3,rf 185,Value.bool true,vi 181,rf 186,Value.none,Value.none,Value.none,rf 187,vi 430,vi 129,vs "/claim/cut.py" 431]),
 (189,Br (Ah 26) (Str.ofString "ring_at") (vs "shortring.rings" 388) 188),
 (195,cO "code" #[vs "long_ring" 433,vs "long_ring" 434,vs "/claim/cut.py" 435,vi 145,vi 1,vi 0,vi 0,vi 3,rf 190,Value.bool true,vi 181,rf 191,Value.none,rf 192,rf 193,rf 194,vi 439,vi 145,vs "/claim/cut.py" 440]),
 (196,Br (Ah 27) (Str.ofString "long_ring") (vs "shortring.rings" 388) 195),
 (209,cO "code" #[vs "__init__" 456,vs "Verdict.__init__" 457,vs "/claim/cut.py" 458,vi 154,vi 6,vi 0,vi 0,vi 3,rf 204,Value.bool true,vi 181,rf 205,Value.none,rf 206,rf 207,rf 208,vi 465,vi 154,vs "/claim/cut.py" 466]),
 (210,Br (Gg 29 0) (Str.ofString "Verdict.__init__") (vs "shortring.verdicts" 442) 209),
 (212,{cls:=Value.type "dict",data:=Data.dict #[dE P "__module__" 451 (vs "shortring.verdicts" 442),dE P "__firstlineno__" 455 (Value.int 152 454),dE P "__init__" 467 (rf 210),dE P "__static_attributes__" 473 (rf 211),dE P "__dict__" 475 (rf 214),dE P "__weakref__" 477 (rf 215),dE P "__doc__" 478 (Value.none)] 4}),
 (213,{cls:=Value.type "type",data:=Data.cls {name:=Str.ofString "Verdict",bases:=[Value.type "object"],mro:=[rf 213,Value.type "object"],ns:=212,qualname:=Str.ofString "Verdict"},slots:= #[none,none,some (vs "Verdict" 444),some (vs "Verdict" 452),some (Value.builtin "object.__new__"),some (Value.bool true)]}),
 (223,cO "code" #[vs "judged" 481,vs "judged" 482,vs "/claim/cut.py" 483,vi 160,vi 1,vi 0,vi 0,vi 3,rf 218,Value.bool true,vi 181,rf 219,Value.none,rf 220,rf 221,rf 222,vi 489,vi 160,vs "/claim/cut.py" 490]),
 (224,Br (Ah 30) (Str.ofString "judged") (vs "shortring.verdicts" 442) 223),
 (237,cO "code" #[vs "__init__" 508,vs "Web.__init__" 509,vs "/claim/cut.py" 510,vi 174,vi 3,vi 0,vi 0,vi 3,rf 232,Value.bool true,vi 181,rf 233,Value.none,rf 234,rf 235,rf 236,vi 514,vi 174,vs "/claim/cut.py" 515]),
 (238,Br (Gg 33 0) (Str.ofString "Web.__init__") (vs "shortring.webs" 492) 237),
 (244,cO "code" #[vs "need" 517,vs "Web.need" 518,vs "/claim/cut.py" 519,vi 178,vi 2,vi 0,vi 0,vi 3,rf 239,Value.bool true,vi 181,rf 240,Value.none,rf 241,rf 242,rf 243,vi 522,vi 178,vs "/claim/cut.py" 523]),
 (245,Br (Gg 33 1) (Str.ofString "Web.need") (vs "shortring.webs" 492) 244),
 (251,cO "code" #[vs "beside" 525,vs "Web.beside" 526,vs "/claim/cut.py" 527,vi 182,vi 2,vi 0,vi 0,vi 3,rf 246,Value.bool true,vi 181,rf 247,Value.none,rf 248,rf 249,rf 250,vi 530,vi 182,vs "/claim/cut.py" 531]),
 (252,Br (Gg 33 2) (Str.ofString "Web.beside") (vs "shortring.webs" 492) 251),
 (258,cO "code" #[vs "tied" 533,vs "Web.tied" 534,vs "/claim/cut.py" 535,vi 186,vi 3,vi 0,vi 0,vi 3,rf 253,Value.bool true,vi 181,rf 254,Value.none,rf 255,rf 256,rf 257,vi 539,vi 186,vs "/claim/cut.py" 540]),
 (259,Br (Gg 33 3) (Str.ofString "Web.tied") (vs "shortring.webs" 492) 258),
 (265,cO "code" #[vs "ties" 542,vs "Web.ties" 543,vs "/claim/cut.py" 544,vi 191,vi 1,vi 0,vi 0,vi 3,rf 260,Value.bool true,vi 181,rf 261,Value.none,rf 262,rf 263,rf 264,vi 549,vi 191,vs "/claim/cut.py" 550]),
 (266,Br (Gg 33 4) (Str.ofString "Web.ties") (vs "shortring.webs" 492) 265),
 (268,{cls:=Value.type "dict",data:=Data.dict #[dE P "__module__" 503 (vs "shortring.webs" 492),dE P "__firstlineno__" 507 (Value.int 172 506),dE P "__init__" 516 (rf 238),dE P "need" 524 (rf 245),dE P "beside" 532 (rf 252),dE P "tied" 541 (rf 259),dE P "ties" 551 (rf 266),dE P "__static_attributes__" 554 (rf 267),dE P "__dict__" 556 (rf 270),dE P "__weakref__" 558 (rf 271),dE P "__doc__" 559 (Value.none)] 4}),
 (269,{cls:=Value.type "type",data:=Data.cls {name:=Str.ofString "Web",bases:=[Value.type "object"],mro:=[rf 269,Value.type "object"],ns:=268,qualname:=Str.ofString "Web"},slots:= #[none,none,some (vs "Web" 496),some (vs "Web" 504),some (Value.builtin "object.__new__"),some (Value.bool true)]}),
 (277,cO "code" #[vs "web_of" 562,vs "web_of" 563,vs "/claim/cut.py" 564,vi 198,vi 2,vi 0,vi 0,vi 3,rf 274,Value.bool true,vi 181,rf 275,Value.none,Value.none,Value.none,rf 276,vi 565,vi 198,vs "/claim/cut.py" 566]),
 (278,Br (Ah 34) (Str.ofString "web_of") (vs "shortring.webs" 492) 277),
 (284,cO "code" #[vs "_law_cell_at" 570,vs "_law_cell_at" 571,vs "/claim/cut.py" 572,vi 210,vi 2,vi 0,vi 0,vi 3,rf 279,Value.bool true,vi 181,rf 280,Value.none,rf 281,rf 282,rf 283,vi 575,vi 210,vs "/claim/cut.py" 576]),
 (285,Br (Ah 36) (Str.ofString "_law_cell_at") (vs "law_uf020033_08" 568) 284),
 (291,cO "code" #[vs "_law_whole" 578,vs "_law_whole" 579,vs "/claim/cut.py" 580,vi 214,vi 1,vi 0,vi 0,vi 3,rf 286,Value.bool true,vi 181,rf 287,Value.none,rf 288,rf 289,rf 290,vi 582,vi 214,vs "/claim/cut.py" 583]),
 (292,Br (Ah 37) (Str.ofString "_law_whole") (vs "law_uf020033_08" 568) 291),
 (298,cO "code" #[vs "_law_numbers" 585,vs "_law_numbers" 586,vs "/claim/cut.py" 587,vi 216,vi 2,vi 0,vi 0,vi 3,rf 293,Value.bool true,vi 181,rf 294,Value.none,rf 295,rf 296,rf 297,vi 591,vi 216,vs "/claim/cut.py" 592]),
 (299,Br (Ah 38) (Str.ofString "_law_numbers") (vs "law_uf020033_08" 568) 298),
 (305,cO "code" #[vs "_law_pairs" 594,vs "_law_pairs" 595,vs "/claim/cut.py" 596,vi 223,vi 2,vi 0,vi 0,vi 3,rf 300,Value.bool true,vi 181,rf 301,Value.none,rf 302,rf 303,rf 304,vi 600,vi 223,vs "/claim/cut.py" 601]),
 (306,Br (Ah 39) (Str.ofString "_law_pairs") (vs "law_uf020033_08" 568) 305),
 (312,cO "code" #[vs "_law_mixed" 603,vs "_law_mixed" 604,vs "/claim/cut.py" 605,vi 232,vi 2,vi 0,vi 0,vi 3,rf 307,Value.bool true,vi 181,rf 308,Value.none,rf 309,rf 310,rf 311,vi 608,vi 232,vs "/claim/cut.py" 609]),
 (313,Br (Ah 40) (Str.ofString "_law_mixed") (vs "law_uf020033_08" 568) 312),
 (319,cO "code" #[vs "_law_earlier" 611,vs "_law_earlier" 612,vs "/claim/cut.py" 613,vi 234,vi 3,vi 0,vi 0,vi 3,rf 314,Value.bool true,vi 181,rf 315,Value.none,rf 316,rf 317,rf 318,vi 624,vi 234,vs "/claim/cut.py" 625]),
 (320,Br (Ah 41) (Str.ofString "_law_earlier") (vs "law_uf020033_08" 568) 319),
 (324,cO "code" #[vs "_law_any_rows" 627,vs "_law_any_rows" 628,vs "/claim/cut.py" 629,vi 253,vi 2,vi 0,vi 0,vi 3,rf 321,Value.bool true,vi 181,rf 322,Value.none,Value.none,Value.none,rf 323,vi 630,vi 253,vs "/claim/cut.py" 631]),
 (325,Br (Ah 42) (Str.ofString "_law_any_rows") (vs "law_uf020033_08" 568) 324),
 (331,cO "code" #[vs "_law_many" 633,vs "_law_many" 634,vs "/claim/cut.py" 635,vi 263,vi 1,vi 0,vi 0,vi 3,rf 326,Value.bool true,vi 181,rf 327,Value.none,rf 328,rf 329,rf 330,vi 638,vi 263,vs "/claim/cut.py" 639]),
 (332,Br (Ah 43) (Str.ofString "_law_many") (vs "law_uf020033_08" 568) 331),
 (336,cO "code" #[vs "_law_banded" 641,vs "_law_banded" 642,vs "/claim/cut.py" 643,vi 270,vi 2,vi 0,vi 0,vi 3,rf 333,Value.bool true,vi 181,rf 334,Value.none,Value.none,Value.none,rf 335,vi 644,vi 270,vs "/claim/cut.py" 645]),
 (337,Br (Ah 44) (Str.ofString "_law_banded") (vs "law_uf020033_08" 568) 336),
 (341,cO "code" #[vs "_law_ringed" 647,vs "_law_ringed" 648,vs "/claim/cut.py" 649,vi 275,vi 2,vi 0,vi 0,vi 3,rf 338,Value.bool true,vi 181,rf 339,Value.none,Value.none,Value.none,rf 340,vi 650,vi 275,vs "/claim/cut.py" 651]),
 (342,Br (Ah 45) (Str.ofString "_law_ringed") (vs "law_uf020033_08" 568) 341),
 (346,cO "code" #[vs "_law_hubbed" 653,vs "_law_hubbed" 654,vs "/claim/cut.py" 655,vi 283,vi 2,vi 0,vi 0,vi 3,rf 343,Value.bool true,vi 181,rf 344,Value.none,Value.none,Value.none,rf 345,vi 656,vi 283,vs "/claim/cut.py" 657]),
 (347,Br (Ah 46) (Str.ofString "_law_hubbed") (vs "law_uf020033_08" 568) 346),
 (353,cO "code" #[vs "_law_rows" 659,vs "_law_rows" 660,vs "/claim/cut.py" 661,vi 288,vi 2,vi 0,vi 0,vi 3,rf 348,Value.bool true,vi 181,rf 349,Value.none,rf 350,rf 351,rf 352,vi 666,vi 288,vs "/claim/cut.py" 667]),
 (354,Br (Ah 47) (Str.ofString "_law_rows") (vs "law_uf020033_08" 568) 353),
 (360,cO "code" #[vs "_law_name" 669,vs "_law_name" 670,vs "/claim/cut.py" 671,vi 302,vi 3,vi 0,vi 0,vi 3,rf 355,Value.bool true,vi 181,rf 356,Value.none,rf 357,rf 358,rf 359,vi 676,vi 302,vs "/claim/cut.py" 677]),
 (361,Br (Ah 48) (Str.ofString "_law_name") (vs "law_uf020033_08" 568) 360),
 (365,cO "code" #[vs "_law_ties" 679,vs "_law_ties" 680,vs "/claim/cut.py" 681,vi 307,vi 3,vi 0,vi 0,vi 3,rf 362,Value.bool true,vi 181,rf 363,Value.none,Value.none,Value.none,rf 364,vi 682,vi 307,vs "/claim/cut.py" 683]),
 (366,Br (Ah 49) (Str.ofString "_law_ties") (vs "law_uf020033_08" 568) 365),
 (370,cO "code" #[vs "_law_near" 685,vs "_law_near" 686,vs "/claim/cut.py" 687,vi 316,vi 2,vi 0,vi 0,vi 3,rf 367,Value.bool true,vi 181,rf 368,Value.none,Value.none,Value.none,rf 369,vi 688,vi 316,vs "/claim/cut.py" 689]),
 (371,Br (Ah 50) (Str.ofString "_law_near") (vs "law_uf020033_08" 568) 370),
 (375,cO "code" #[vs "_law_keyed" 691,vs "_law_keyed" 692,vs "/claim/cut.py" 693,vi 323,vi 2,vi 0,vi 0,vi 3,rf 372,Value.bool true,vi 181,rf 373,Value.none,Value.none,Value.none,rf 374,vi 694,vi 323,vs "/claim/cut.py" 695]),
 (376,Br (Ah 51) (Str.ofString "_law_keyed") (vs "law_uf020033_08" 568) 375),
 (380,cO "code" #[vs "_law_behind" 697,vs "_law_behind" 698,vs "/claim/cut.py" 699,vi 326,vi 3,vi 0,vi 0,vi 3,rf 377,Value.bool true,vi 181,rf 378,Value.none,Value.none,Value.none,rf 379,vi 700,vi 326,vs "/claim/cut.py" 701]),
 (381,Br (Ah 52) (Str.ofString "_law_behind") (vs "law_uf020033_08" 568) 380),
 (387,cO "code" #[vs "_law_untied" 703,vs "_law_untied" 704,vs "/claim/cut.py" 705,vi 328,vi 2,vi 0,vi 0,vi 3,rf 382,Value.bool true,vi 181,rf 383,Value.none,rf 384,rf 385,rf 386,vi 710,vi 328,vs "/claim/cut.py" 711]),
 (388,Br (Ah 53) (Str.ofString "_law_untied") (vs "law_uf020033_08" 568) 387),
 (392,cO "code" #[vs "_law_free" 713,vs "_law_free" 714,vs "/claim/cut.py" 715,vi 334,vi 2,vi 0,vi 0,vi 3,rf 389,Value.bool true,vi 181,rf 390,Value.none,Value.none,Value.none,rf 391,vi 716,vi 334,vs "/claim/cut.py" 717]),
 (393,Br (Ah 54) (Str.ofString "_law_free") (vs "law_uf020033_08" 568) 392),
 (399,cO "code" #[vs "_law_order" 719,vs "_law_order" 720,vs "/claim/cut.py" 721,vi 339,vi 2,vi 0,vi 0,vi 3,rf 394,Value.bool true,vi 181,rf 395,Value.none,rf 396,rf 397,rf 398,vi 728,vi 339,vs "/claim/cut.py" 729]),
 (400,Br (Ah 55) (Str.ofString "_law_order") (vs "law_uf020033_08" 568) 399),
 (404,cO "code" #[vs "_law_due" 731,vs "_law_due" 732,vs "/claim/cut.py" 733,vi 349,vi 2,vi 0,vi 0,vi 3,rf 401,Value.bool true,vi 181,rf 402,Value.none,Value.none,Value.none,rf 403,vi 734,vi 349,vs "/claim/cut.py" 735]),
 (405,Br (Ah 56) (Str.ofString "_law_due") (vs "law_uf020033_08" 568) 404),
 (411,cO "code" #[vs "_law_within" 737,vs "_law_within" 738,vs "/claim/cut.py" 739,vi 361,vi 2,vi 0,vi 0,vi 3,rf 406,Value.bool true,vi 181,rf 407,Value.none,rf 408,rf 409,rf 410,vi 745,vi 361,vs "/claim/cut.py" 746]),
 (412,Br (Ah 57) (Str.ofString "_law_within") (vs "law_uf020033_08" 568) 411),
 (416,cO "code" #[vs "law" 748,vs "law" 749,vs "/claim/cut.py" 750,vi 370,vi 1,vi 0,vi 0,vi 3,rf 413,Value.bool true,vi 181,rf 414,Value.none,Value.none,Value.none,rf 415,vi 751,vi 370,vs "/claim/cut.py" 752]),
 (417,Br (Ah 58) (Str.ofString "law") (vs "law_uf020033_08" 568) 416)]
noncomputable def kas:List Addr:=[2,3,23,24,36,37,48,49,60,61,72,73,81,82,88,89,93,94,100,101,107,108,112,113,119,120,124,125,131,132,138,139,143,144,150,151,157,158,162,163,169,170,176,177,183,184,188,189,195,196,209,210,212,213,223,224,237,238,244,245,251,252,258,259,265,266,268,269,277,278,284,285,291,292,298,299,305,306,312,313,319,320,324,325,331,332,336,337,341,342,346,347,353,354,360,361,365,366,370,371,375,376,380,381,387,388,392,393,399,400,404,405,411,412,416,417]
noncomputable def kq:Program:={PySem.Challenge.pw_uf020033_08 with main:={PySem.Challenge.pw_uf020033_08.main with body:=[1,2,3,4,5,7,8,9,10,11,12,13,14,16,17,18,19,20,21,23,24,25,26,27,29,30,32,33,34,36,37,38,39,40,41,42,43,44,45,46,47,48,49,50,51,52,53,54,55,56,57,58].filterMap fun i=>PySem.Challenge.pw_uf020033_08.main.body[i]?}}
theorem Afd(P:Params):kas=(kk P).map (·.1):=by kernel_rfl
noncomputable def kH:Hook:=kHook kk kas Afd
noncomputable def Yu:Env:={scope:=PySem.Challenge.pw_uf020033_08.main.scope,locals:=mainNs,globals:=mainNs,cells:=[],code:=Value.ref 13,frame:=some 14}
noncomputable abbrev hB:List Stmt:=behindTheImports PySem.Challenge.pw_uf020033_08
noncomputable abbrev hC:Code:= .body hB Yu
noncomputable abbrev hF:List Frame:=[topFrame {line:=0,col:=0,endLine:=0,endCol:=0}]
noncomputable def s_a(P:Params)(os:OsState):Shared:=⟨⟨Array.mk [
 boot_o_0 P,
 boot_o_1 P,
 boot_o_2 P,
 boot_o_3 P,
 boot_o_4 P,
 boot_o_5 P,
 boot_o_6 P,
 boot_o_7 P,
 boot_o_8 P,
 boot_o_9 P,
 boot_o_10 P,
 tO "tuple" #[],
 {cls:=Value.none,data:=Data.fields #[]},
 cO "code" #[vs "<module>" 182,vs "<module>" 183,vs "/claim/cut.py" 184,vi 1,vi 0,vi 0,vi 0,vi 0,rf 11,Value.bool false,vi 181,rf 12,Value.none,Value.none,Value.none,Value.none,vi 185,vi 1,vs "/claim/cut.py" 186],
 fO #[some (rf 13),some (rf 3),some (rf 3),none,some (vs "__main__" 164),none,some (rf 0)]],{}⟩,Array.mk [],{},187,os⟩
noncomputable def s_b(P:Params)(os:OsState):Shared:=⟨⟨Array.mk [
 boot_o_0 P,
 boot_o_1 P,
 boot_o_2 P,
 boot_o_3 P,
 boot_o_4 P,
 boot_o_5 P,
 boot_o_6 P,
 boot_o_7 P,
 boot_o_8 P,
 boot_o_9 P,
 boot_o_10 P,
 tO "tuple" #[],
 {cls:=Value.none,data:=Data.fields #[]},
 cO "code" #[vs "<module>" 182,vs "<module>" 183,vs "/claim/cut.py" 184,vi 1,vi 0,vi 0,vi 0,vi 0,rf 11,Value.bool false,vi 181,rf 12,Value.none,Value.none,Value.none,Value.none,vi 185,vi 1,vs "/claim/cut.py" 186],
 fO #[some (rf 13),some (rf 3),some (rf 3),none,some (vs "__main__" 164),none,some (rf 0)]],{}⟩,Array.mk [],{},187,os⟩
noncomputable def Aex(P:Params)(os:OsState):Shared:=⟨⟨Array.mk [
 boot_o_0 P,
 boot_o_1 P,
 boot_o_2 P,
 {cls:=Value.type "dict",data:=Data.dict #[dE P "__name__" 165 (vs "shortring.verdicts" 442),dE P "__doc__" 166 (Value.none),dE P "__package__" 167 (Value.none),dE P "__loader__" 168 (Value.builtin "__main__.__loader__#opaque"),dE P "__spec__" 169 (Value.none),dE P "__annotations__" 170 (rf 6),dE P "__builtins__" 171 (rf 4),dE P "__file__" 173 (vs "/claim/cut.py" 172),dE P "__cached__" 174 (Value.none),dE P "WebError" 206 (rf 24),dE P "BadWeb" 222 (rf 37),dE P "NoPoint" 238 (rf 49),dE P "BadOrder" 254 (rf 61),dE P "HasGap" 270 (rf 73),dE P "is_order" 280 (rf 82),dE P "need_order" 288 (rf 89),dE P "those_behind" 294 (rf 94),dE P "first_untied" 305 (rf 101),dE P "gap" 315 (rf 108),dE P "least_to_go" 321 (rf 113),dE P "taken" 331 (rf 120),dE P "filled" 337 (rf 125),dE P "need_whole" 347 (rf 132),dE P "crowd_at" 356 (rf 139),dE P "is_full" 362 (rf 144),dE P "full_crowds" 373 (rf 151),dE P "least_free" 381 (rf 158),dE P "coloured" 387 (rf 163),dE P "steps_from" 403 (rf 170),dE P "way" 415 (rf 177),dE P "pieces" 426 (rf 184),dE P "ring_at" 432 (rf 189),dE P "long_ring" 441 (rf 196),dE P "Verdict" 480 (rf 213)] 34},
 boot_o_4 P,
 boot_o_5 P,
 boot_o_6 P,
 boot_o_7 P,
 boot_o_8 P,
 boot_o_9 P,
 boot_o_10 P,
 tO "tuple" #[],
 {cls:=Value.none,data:=Data.fields #[vi 2,vi 0,rf 20,vi 4,vi 0,rf 33,vi 6,vi 0,rf 45,vi 8,vi 0,rf 57,vi 10,vi 0,rf 69,vi 13,vi 0,rf 81,vi 15,vi 0,rf 88,vi 18,vi 0,rf 93,vi 21,vi 0,rf 100,vi 27,vi 0,rf 107,vi 34,vi 0,rf 112,vi 39,vi 0,rf 119,vi 48,vi 0,rf 124,vi 67,vi 0,rf 131,vi 70,vi 0,rf 138,vi 72,vi 0,rf 143,vi 77,vi 0,rf 150,vi 85,vi 0,rf 157,vi 90,vi 0,rf 162,vi 97,vi 0,rf 169,vi 109,vi 0,rf 176,vi 122,vi 0,rf 183,vi 129,vi 0,rf 188,vi 145,vi 0,rf 195,vi 152,vi 0,rf 202]},
 cO "code" #[vs "<module>" 182,vs "<module>" 183,vs "/claim/cut.py" 184,vi 1,vi 0,vi 0,vi 0,vi 0,rf 11,Value.bool false,vi 181,rf 12,Value.none,Value.none,Value.none,Value.none,vi 185,vi 1,vs "/claim/cut.py" 186],
 fO #[some (rf 13),some (rf 3),some (rf 3),none,some (vs "__main__" 164),none,some (rf 0)],
 tO "tuple" #[Value.type "ValueError"],
 cO "builtin_function_or_method" #[Value.builtin "type.__prepare__",Value.type "type"],
 {cls:=Value.type "dict",data:=Data.dict #[dE P "__module__" 196 (vs "shortring.errors" 187),dE P "__qualname__" 198 (vs "WebError" 197),dE P "__firstlineno__" 200 (Value.int 2 199),dE P "__static_attributes__" 201 (rf 22)] 4},
 tO "tuple" #[],
 {cls:=Value.none,data:=Data.fields #[]},
 cO "code" #[vs "WebError" 191,vs "WebError" 192,vs "/claim/cut.py" 193,vi 2,vi 0,vi 0,vi 0,vi 0,rf 18,Value.bool false,vi 181,rf 19,Value.none,Value.none,Value.none,Value.none,vi 194,vi 2,vs "/claim/cut.py" 195],
 fO #[some (rf 20),some (rf 3),some (rf 17),none,some (vs "shortring.errors" 187),none,some (rf 0)],
 tO "tuple" #[],
 {cls:=Value.type "dict",data:=Data.dict #[dE P "__module__" 196 (vs "shortring.errors" 187),dE P "__firstlineno__" 200 (Value.int 2 199),dE P "__static_attributes__" 201 (rf 22),dE P "__weakref__" 203 (rf 25),dE P "__doc__" 204 (Value.none)] 3},
 {cls:=Value.type "type",data:=Data.cls {name:=Str.ofString "WebError",bases:=[Value.type "ValueError"],mro:=[rf 24,Value.type "ValueError",Value.type "Exception",Value.type "BaseException",Value.type "object"],ns:=23,qualname:=Str.ofString "WebError",subclasses:=[rf 37,rf 49,rf 61,rf 73]},slots:= #[some (rf 15),none,some (vs "WebError" 189),some (vs "WebError" 197),some (Value.builtin "ValueError.__new__"),some (Value.bool true)]},
 cO "getset_descriptor" #[vs "__weakref__" 202,rf 24,Value.builtin "ExceptionGroup.__weakref__",Value.none],
 cO "super" #[rf 24,rf 24,rf 24],
 cO "builtin_function_or_method" #[Value.builtin "object.__init_subclass__",rf 24],
 tO "tuple" #[rf 24],
 cO "builtin_function_or_method" #[Value.builtin "type.__prepare__",Value.type "type"],
 {cls:=Value.type "dict",data:=Data.dict #[dE P "__module__" 214 (vs "shortring.errors" 187),dE P "__qualname__" 216 (vs "BadWeb" 215),dE P "__firstlineno__" 218 (Value.int 4 217),dE P "__static_attributes__" 219 (rf 35)] 4},
 tO "tuple" #[],
 {cls:=Value.none,data:=Data.fields #[]},
 cO "code" #[vs "BadWeb" 209,vs "BadWeb" 210,vs "/claim/cut.py" 211,vi 4,vi 0,vi 0,vi 0,vi 0,rf 31,Value.bool false,vi 181,rf 32,Value.none,Value.none,Value.none,Value.none,vi 212,vi 4,vs "/claim/cut.py" 213],
 fO #[some (rf 33),some (rf 3),some (rf 30),none,some (vs "shortring.errors" 187),none,some (rf 0)],
 tO "tuple" #[],
 {cls:=Value.type "dict",data:=Data.dict #[dE P "__module__" 214 (vs "shortring.errors" 187),dE P "__firstlineno__" 218 (Value.int 4 217),dE P "__static_attributes__" 219 (rf 35),dE P "__doc__" 220 (Value.none)] 2},
 {cls:=Value.type "type",data:=Data.cls {name:=Str.ofString "BadWeb",bases:=[rf 24],mro:=[rf 37,rf 24,Value.type "ValueError",Value.type "Exception",Value.type "BaseException",Value.type "object"],ns:=36,qualname:=Str.ofString "BadWeb"},slots:= #[some (rf 28),none,some (vs "BadWeb" 207),some (vs "BadWeb" 215),some (Value.builtin "ValueError.__new__"),some (Value.bool true)]},
 cO "super" #[rf 37,rf 37,rf 37],
 cO "builtin_function_or_method" #[Value.builtin "object.__init_subclass__",rf 37],
 tO "tuple" #[rf 24],
 cO "builtin_function_or_method" #[Value.builtin "type.__prepare__",Value.type "type"],
 {cls:=Value.type "dict",data:=Data.dict #[dE P "__module__" 230 (vs "shortring.errors" 187),dE P "__qualname__" 232 (vs "NoPoint" 231),dE P "__firstlineno__" 234 (Value.int 6 233),dE P "__static_attributes__" 235 (rf 47)] 4},
 tO "tuple" #[],
 {cls:=Value.none,data:=Data.fields #[]},
 cO "code" #[vs "NoPoint" 225,vs "NoPoint" 226,vs "/claim/cut.py" 227,vi 6,vi 0,vi 0,vi 0,vi 0,rf 43,Value.bool false,vi 181,rf 44,Value.none,Value.none,Value.none,Value.none,vi 228,vi 6,vs "/claim/cut.py" 229],
 fO #[some (rf 45),some (rf 3),some (rf 42),none,some (vs "shortring.errors" 187),none,some (rf 0)],
 tO "tuple" #[],
 {cls:=Value.type "dict",data:=Data.dict #[dE P "__module__" 230 (vs "shortring.errors" 187),dE P "__firstlineno__" 234 (Value.int 6 233),dE P "__static_attributes__" 235 (rf 47),dE P "__doc__" 236 (Value.none)] 2},
 {cls:=Value.type "type",data:=Data.cls {name:=Str.ofString "NoPoint",bases:=[rf 24],mro:=[rf 49,rf 24,Value.type "ValueError",Value.type "Exception",Value.type "BaseException",Value.type "object"],ns:=48,qualname:=Str.ofString "NoPoint"},slots:= #[some (rf 40),none,some (vs "NoPoint" 223),some (vs "NoPoint" 231),some (Value.builtin "ValueError.__new__"),some (Value.bool true)]},
 cO "super" #[rf 49,rf 49,rf 49],
 cO "builtin_function_or_method" #[Value.builtin "object.__init_subclass__",rf 49],
 tO "tuple" #[rf 24],
 cO "builtin_function_or_method" #[Value.builtin "type.__prepare__",Value.type "type"],
 {cls:=Value.type "dict",data:=Data.dict #[dE P "__module__" 246 (vs "shortring.errors" 187),dE P "__qualname__" 248 (vs "BadOrder" 247),dE P "__firstlineno__" 250 (Value.int 8 249),dE P "__static_attributes__" 251 (rf 59)] 4},
 tO "tuple" #[],
 {cls:=Value.none,data:=Data.fields #[]},
 cO "code" #[vs "BadOrder" 241,vs "BadOrder" 242,vs "/claim/cut.py" 243,vi 8,vi 0,vi 0,vi 0,vi 0,rf 55,Value.bool false,vi 181,rf 56,Value.none,Value.none,Value.none,Value.none,vi 244,vi 8,vs "/claim/cut.py" 245],
 fO #[some (rf 57),some (rf 3),some (rf 54),none,some (vs "shortring.errors" 187),none,some (rf 0)],
 tO "tuple" #[],
 {cls:=Value.type "dict",data:=Data.dict #[dE P "__module__" 246 (vs "shortring.errors" 187),dE P "__firstlineno__" 250 (Value.int 8 249),dE P "__static_attributes__" 251 (rf 59),dE P "__doc__" 252 (Value.none)] 2},
 {cls:=Value.type "type",data:=Data.cls {name:=Str.ofString "BadOrder",bases:=[rf 24],mro:=[rf 61,rf 24,Value.type "ValueError",Value.type "Exception",Value.type "BaseException",Value.type "object"],ns:=60,qualname:=Str.ofString "BadOrder"},slots:= #[some (rf 52),none,some (vs "BadOrder" 239),some (vs "BadOrder" 247),some (Value.builtin "ValueError.__new__"),some (Value.bool true)]},
 cO "super" #[rf 61,rf 61,rf 61],
 cO "builtin_function_or_method" #[Value.builtin "object.__init_subclass__",rf 61],
 tO "tuple" #[rf 24],
 cO "builtin_function_or_method" #[Value.builtin "type.__prepare__",Value.type "type"],
 {cls:=Value.type "dict",data:=Data.dict #[dE P "__module__" 262 (vs "shortring.errors" 187),dE P "__qualname__" 264 (vs "HasGap" 263),dE P "__firstlineno__" 266 (Value.int 10 265),dE P "__static_attributes__" 267 (rf 71)] 4},
 tO "tuple" #[],
 {cls:=Value.none,data:=Data.fields #[]},
 cO "code" #[vs "HasGap" 257,vs "HasGap" 258,vs "/claim/cut.py" 259,vi 10,vi 0,vi 0,vi 0,vi 0,rf 67,Value.bool false,vi 181,rf 68,Value.none,Value.none,Value.none,Value.none,vi 260,vi 10,vs "/claim/cut.py" 261],
 fO #[some (rf 69),some (rf 3),some (rf 66),none,some (vs "shortring.errors" 187),none,some (rf 0)],
 tO "tuple" #[],
 {cls:=Value.type "dict",data:=Data.dict #[dE P "__module__" 262 (vs "shortring.errors" 187),dE P "__firstlineno__" 266 (Value.int 10 265),dE P "__static_attributes__" 267 (rf 71),dE P "__doc__" 268 (Value.none)] 2},
 {cls:=Value.type "type",data:=Data.cls {name:=Str.ofString "HasGap",bases:=[rf 24],mro:=[rf 73,rf 24,Value.type "ValueError",Value.type "Exception",Value.type "BaseException",Value.type "object"],ns:=72,qualname:=Str.ofString "HasGap"},slots:= #[some (rf 64),none,some (vs "HasGap" 255),some (vs "HasGap" 263),some (Value.builtin "ValueError.__new__"),some (Value.bool true)]},
 cO "super" #[rf 73,rf 73,rf 73],
 cO "builtin_function_or_method" #[Value.builtin "object.__init_subclass__",rf 73],
 tO "tuple" #[],
 {cls:=Value.none,data:=Data.fields #[]},
 tO "tuple" #[vs "web" 276,vs "order" 277],
 tO "tuple" #[],
 Ej (Ah 7) (Str.ofString "is_order"),
 cO "code" #[vs "is_order" 273,vs "is_order" 274,vs "/claim/cut.py" 275,vi 13,vi 2,vi 0,vi 0,vi 3,rf 76,Value.bool true,vi 181,rf 77,Value.none,rf 78,rf 79,rf 80,vi 278,vi 13,vs "/claim/cut.py" 279],
 Br (Ah 7) (Str.ofString "is_order") (vs "shortring.orders" 271) 81,
 tO "tuple" #[],
 {cls:=Value.none,data:=Data.fields #[]},
 tO "tuple" #[vs "web" 284,vs "order" 285],
 tO "tuple" #[],
 Ej (Ah 8) (Str.ofString "need_order"),
 cO "code" #[vs "need_order" 281,vs "need_order" 282,vs "/claim/cut.py" 283,vi 15,vi 2,vi 0,vi 0,vi 3,rf 83,Value.bool true,vi 181,rf 84,Value.none,rf 85,rf 86,rf 87,vi 286,vi 15,vs "/claim/cut.py" 287],
 Br (Ah 8) (Str.ofString "need_order") (vs "shortring.orders" 271) 88,
 tO "tuple" #[],
 {cls:=Value.none,data:=Data.fields #[]},
 Ej (Ah 9) (Str.ofString "those_behind"),
 cO "code" #[vs "those_behind" 289,vs "those_behind" 290,vs "/claim/cut.py" 291,vi 18,vi 3,vi 0,vi 0,vi 3,rf 90,Value.bool true,vi 181,rf 91,Value.none,Value.none,Value.none,rf 92,vi 292,vi 18,vs "/claim/cut.py" 293],
 Br (Ah 9) (Str.ofString "those_behind") (vs "shortring.orders" 271) 93,
 tO "tuple" #[],
 {cls:=Value.none,data:=Data.fields #[]},
 tO "tuple" #[vs "web" 298,vs "row" 299,vs "k" 300,vs "one" 301,vs "other" 302],
 tO "tuple" #[],
 Ej (Ah 10) (Str.ofString "first_untied"),
 cO "code" #[vs "first_untied" 295,vs "first_untied" 296,vs "/claim/cut.py" 297,vi 21,vi 2,vi 0,vi 0,vi 3,rf 95,Value.bool true,vi 181,rf 96,Value.none,rf 97,rf 98,rf 99,vi 303,vi 21,vs "/claim/cut.py" 304],
 Br (Ah 10) (Str.ofString "first_untied") (vs "shortring.orders" 271) 100,
 tO "tuple" #[],
 {cls:=Value.none,data:=Data.fields #[]},
 tO "tuple" #[vs "web" 309,vs "order" 310,vs "point" 311,vs "pair" 312],
 tO "tuple" #[],
 Ej (Ah 11) (Str.ofString "gap"),
 cO "code" #[vs "gap" 306,vs "gap" 307,vs "/claim/cut.py" 308,vi 27,vi 2,vi 0,vi 0,vi 3,rf 102,Value.bool true,vi 181,rf 103,Value.none,rf 104,rf 105,rf 106,vi 313,vi 27,vs "/claim/cut.py" 314],
 Br (Ah 11) (Str.ofString "gap") (vs "shortring.orders" 271) 107,
 tO "tuple" #[],
 {cls:=Value.none,data:=Data.fields #[]},
 Ej (Ah 12) (Str.ofString "least_to_go"),
 cO "code" #[vs "least_to_go" 316,vs "least_to_go" 317,vs "/claim/cut.py" 318,vi 34,vi 2,vi 0,vi 0,vi 3,rf 109,Value.bool true,vi 181,rf 110,Value.none,Value.none,Value.none,rf 111,vi 319,vi 34,vs "/claim/cut.py" 320],
 Br (Ah 12) (Str.ofString "least_to_go") (vs "shortring.orders" 271) 112,
 tO "tuple" #[],
 {cls:=Value.none,data:=Data.fields #[]},
 tO "tuple" #[vs "web" 325,vs "there" 326,vs "gone" 327,vs "point" 328],
 tO "tuple" #[],
 Ej (Ah 13) (Str.ofString "taken"),
 cO "code" #[vs "taken" 322,vs "taken" 323,vs "/claim/cut.py" 324,vi 39,vi 1,vi 0,vi 0,vi 3,rf 114,Value.bool true,vi 181,rf 115,Value.none,rf 116,rf 117,rf 118,vi 329,vi 39,vs "/claim/cut.py" 330],
 Br (Ah 13) (Str.ofString "taken") (vs "shortring.orders" 271) 119,
 tO "tuple" #[],
 {cls:=Value.none,data:=Data.fields #[]},
 Ej (Ah 14) (Str.ofString "filled"),
 cO "code" #[vs "filled" 332,vs "filled" 333,vs "/claim/cut.py" 334,vi 48,vi 2,vi 0,vi 0,vi 3,rf 121,Value.bool true,vi 181,rf 122,Value.none,Value.none,Value.none,rf 123,vi 335,vi 48,vs "/claim/cut.py" 336],
 Br (Ah 14) (Str.ofString "filled") (vs "shortring.orders" 271) 124,
 tO "tuple" #[],
 {cls:=Value.none,data:=Data.fields #[]},
 tO "tuple" #[vs "web" 343,vs "order" 344],
 tO "tuple" #[],
 Ej (Ah 16) (Str.ofString "need_whole"),
 cO "code" #[vs "need_whole" 340,vs "need_whole" 341,vs "/claim/cut.py" 342,vi 67,vi 2,vi 0,vi 0,vi 3,rf 126,Value.bool true,vi 181,rf 127,Value.none,rf 128,rf 129,rf 130,vi 345,vi 67,vs "/claim/cut.py" 346],
 Br (Ah 16) (Str.ofString "need_whole") (vs "shortring.crowds" 338) 131,
 tO "tuple" #[],
 {cls:=Value.none,data:=Data.fields #[]},
 tO "tuple" #[vs "web" 351,vs "order" 352,vs "point" 353],
 tO "tuple" #[],
 Ej (Ah 17) (Str.ofString "crowd_at"),
 cO "code" #[vs "crowd_at" 348,vs "crowd_at" 349,vs "/claim/cut.py" 350,vi 70,vi 3,vi 0,vi 0,vi 3,rf 133,Value.bool true,vi 181,rf 134,Value.none,rf 135,rf 136,rf 137,vi 354,vi 70,vs "/claim/cut.py" 355],
 Br (Ah 17) (Str.ofString "crowd_at") (vs "shortring.crowds" 338) 138,
 tO "tuple" #[],
 {cls:=Value.none,data:=Data.fields #[]},
 Ej (Ah 18) (Str.ofString "is_full"),
 cO "code" #[vs "is_full" 357,vs "is_full" 358,vs "/claim/cut.py" 359,vi 72,vi 2,vi 0,vi 0,vi 3,rf 140,Value.bool true,vi 181,rf 141,Value.none,Value.none,Value.none,rf 142,vi 360,vi 72,vs "/claim/cut.py" 361],
 Br (Ah 18) (Str.ofString "is_full") (vs "shortring.crowds" 338) 143,
 tO "tuple" #[],
 {cls:=Value.none,data:=Data.fields #[]},
 tO "tuple" #[vs "web" 366,vs "order" 367,vs "found" 368,vs "point" 369,vs "crowd" 370],
 tO "tuple" #[],
 Ej (Ah 19) (Str.ofString "full_crowds"),
 cO "code" #[vs "full_crowds" 363,vs "full_crowds" 364,vs "/claim/cut.py" 365,vi 77,vi 2,vi 0,vi 0,vi 3,rf 145,Value.bool true,vi 181,rf 146,Value.none,rf 147,rf 148,rf 149,vi 371,vi 77,vs "/claim/cut.py" 372],
 Br (Ah 19) (Str.ofString "full_crowds") (vs "shortring.crowds" 338) 150,
 tO "tuple" #[],
 {cls:=Value.none,data:=Data.fields #[]},
 tO "tuple" #[vs "used" 377,vs "colour" 378],
 tO "tuple" #[],
 Ej (Ah 20) (Str.ofString "least_free"),
 cO "code" #[vs "least_free" 374,vs "least_free" 375,vs "/claim/cut.py" 376,vi 85,vi 1,vi 0,vi 0,vi 3,rf 152,Value.bool true,vi 181,rf 153,Value.none,rf 154,rf 155,rf 156,vi 379,vi 85,vs "/claim/cut.py" 380],
 Br (Ah 20) (Str.ofString "least_free") (vs "shortring.crowds" 338) 157,
 tO "tuple" #[],
 {cls:=Value.none,data:=Data.fields #[]},
 Ej (Ah 21) (Str.ofString "coloured"),
 cO "code" #[vs "coloured" 382,vs "coloured" 383,vs "/claim/cut.py" 384,vi 90,vi 2,vi 0,vi 0,vi 3,rf 159,Value.bool true,vi 181,rf 160,Value.none,Value.none,Value.none,rf 161,vi 385,vi 90,vs "/claim/cut.py" 386],
 Br (Ah 21) (Str.ofString "coloured") (vs "shortring.crowds" 338) 162,
 tO "tuple" #[],
 {cls:=Value.none,data:=Data.fields #[]},
 tO "tuple" #[vs "web" 393,vs "start" 394,vs "shut" 395,vs "came" 396,vs "waiting" 397,vs "k" 398,vs "point" 399,vs "other" 400],
 tO "tuple" #[],
 Ej (Ah 23) (Str.ofString "steps_from"),
 cO "code" #[vs "steps_from" 390,vs "steps_from" 391,vs "/claim/cut.py" 392,vi 97,vi 3,vi 0,vi 0,vi 3,rf 164,Value.bool true,vi 181,rf 165,Value.none,rf 166,rf 167,rf 168,vi 401,vi 97,vs "/claim/cut.py" 402],
 Br (Ah 23) (Str.ofString "steps_from") (vs "shortring.rings" 388) 169,
 tO "tuple" #[],
 {cls:=Value.none,data:=Data.fields #[]},
 tO "tuple" #[vs "web" 407,vs "start" 408,vs "goal" 409,vs "shut" 410,vs "came" 411,vs "found" 412],
 tO "tuple" #[],
 Ej (Ah 24) (Str.ofString "way"),
 cO "code" #[vs "way" 404,vs "way" 405,vs "/claim/cut.py" 406,vi 109,vi 4,vi 0,vi 0,vi 3,rf 171,Value.bool true,vi 181,rf 172,Value.none,rf 173,rf 174,rf 175,vi 413,vi 109,vs "/claim/cut.py" 414],
 Br (Ah 24) (Str.ofString "way") (vs "shortring.rings" 388) 176,
 tO "tuple" #[],
 {cls:=Value.none,data:=Data.fields #[]},
 tO "tuple" #[vs "web" 419,vs "shut" 420,vs "piece" 421,vs "start" 422,vs "point" 423],
 tO "tuple" #[],
 Ej (Ah 25) (Str.ofString "pieces"),
 cO "code" #[vs "pieces" 416,vs "pieces" 417,vs "/claim/cut.py" 418,vi 122,vi 2,vi 0,vi 0,vi 3,rf 178,Value.bool true,vi 181,rf 179,Value.none,rf 180,rf 181,rf 182,vi 424,vi 122,vs "/claim/cut.py" 425],
 Br (Ah 25) (Str.ofString "pieces") (vs "shortring.rings" 388) 183,
 tO "tuple" #[],
 {cls:=Value.none,data:=Data.fields #[]},
 Ej (Ah 26) (Str.ofString "ring_at"),
 cO "code" #[vs "ring_at" 427,vs "ring_at" 428,vs "/claim/cut.py" 429,vi 129,vi 2,vi 0,vi 0,vi 3,rf 185,Value.bool true,vi 181,rf 186,Value.none,Value.none,Value.none,rf 187,vi 430,vi 129,vs "/claim/cut.py" 431],
 Br (Ah 26) (Str.ofString "ring_at") (vs "shortring.rings" 388) 188,
 tO "tuple" #[],
 {cls:=Value.none,data:=Data.fields #[]},
 tO "tuple" #[vs "web" 436,vs "point" 437,vs "found" 438],
 tO "tuple" #[],
 Ej (Ah 27) (Str.ofString "long_ring"),
 cO "code" #[vs "long_ring" 433,vs "long_ring" 434,vs "/claim/cut.py" 435,vi 145,vi 1,vi 0,vi 0,vi 3,rf 190,Value.bool true,vi 181,rf 191,Value.none,rf 192,rf 193,rf 194,vi 439,vi 145,vs "/claim/cut.py" 440],
 Br (Ah 27) (Str.ofString "long_ring") (vs "shortring.rings" 388) 195,
 tO "tuple" #[],
 cO "builtin_function_or_method" #[Value.builtin "type.__prepare__",Value.type "type"],
 {cls:=Value.type "dict",data:=Data.dict #[dE P "__module__" 451 (vs "shortring.verdicts" 442),dE P "__qualname__" 453 (vs "Verdict" 452),dE P "__firstlineno__" 455 (Value.int 152 454),dE P "__init__" 467 (rf 210),dE P "__static_attributes__" 473 (rf 211)] 5},
 tO "tuple" #[],
 {cls:=Value.none,data:=Data.fields #[vi 154,vi 4,rf 209]},
 cO "code" #[vs "Verdict" 446,vs "Verdict" 447,vs "/claim/cut.py" 448,vi 152,vi 0,vi 0,vi 0,vi 0,rf 200,Value.bool false,vi 181,rf 201,Value.none,Value.none,Value.none,Value.none,vi 449,vi 152,vs "/claim/cut.py" 450],
 fO #[some (rf 202),some (rf 3),some (rf 199),none,some (vs "shortring.verdicts" 442),none,some (rf 0)],
 tO "tuple" #[],
 {cls:=Value.none,data:=Data.fields #[]},
 tO "tuple" #[vs "self" 459,vs "order" 460,vs "ring" 461,vs "crowd" 462,vs "colours" 463,vs "many" 464],
 tO "tuple" #[],
 Ej (Gg 29 0) (Str.ofString "Verdict.__init__"),
 cO "code" #[vs "__init__" 456,vs "Verdict.__init__" 457,vs "/claim/cut.py" 458,vi 154,vi 6,vi 0,vi 0,vi 3,rf 204,Value.bool true,vi 181,rf 205,Value.none,rf 206,rf 207,rf 208,vi 465,vi 154,vs "/claim/cut.py" 466],
 Br (Gg 29 0) (Str.ofString "Verdict.__init__") (vs "shortring.verdicts" 442) 209,
 tO "tuple" #[vs "colours" 468,vs "crowd" 469,vs "many" 470,vs "order" 471,vs "ring" 472],
 {cls:=Value.type "dict",data:=Data.dict #[dE P "__module__" 451 (vs "shortring.verdicts" 442),dE P "__firstlineno__" 455 (Value.int 152 454),dE P "__init__" 467 (rf 210),dE P "__static_attributes__" 473 (rf 211),dE P "__dict__" 475 (rf 214),dE P "__weakref__" 477 (rf 215),dE P "__doc__" 478 (Value.none)] 4},
 {cls:=Value.type "type",data:=Data.cls {name:=Str.ofString "Verdict",bases:=[Value.type "object"],mro:=[rf 213,Value.type "object"],ns:=212,qualname:=Str.ofString "Verdict"},slots:= #[none,none,some (vs "Verdict" 444),some (vs "Verdict" 452),some (Value.builtin "object.__new__"),some (Value.bool true)]},
 cO "getset_descriptor" #[vs "__dict__" 474,rf 213,Value.builtin "function.__dict__",Value.builtin "function.__dict__#set"],
 cO "getset_descriptor" #[vs "__weakref__" 476,rf 213,Value.builtin "ExceptionGroup.__weakref__",Value.none],
 cO "super" #[rf 213,rf 213,rf 213],
 cO "builtin_function_or_method" #[Value.builtin "object.__init_subclass__",rf 213]],{}⟩,Array.mk [],{},481,os⟩
noncomputable def Aey(P:Params)(os:OsState):Shared:=⟨⟨Array.mk [
 boot_o_0 P,
 boot_o_1 P,
 boot_o_2 P,
 {cls:=Value.type "dict",data:=Data.dict #[dE P "__name__" 165 (vs "law_uf020033_08" 568),dE P "__doc__" 166 (Value.none),dE P "__package__" 167 (Value.none),dE P "__loader__" 168 (Value.builtin "__main__.__loader__#opaque"),dE P "__spec__" 169 (Value.none),dE P "__annotations__" 170 (rf 6),dE P "__builtins__" 171 (rf 4),dE P "__file__" 173 (vs "/claim/cut.py" 172),dE P "__cached__" 174 (Value.none),dE P "WebError" 206 (rf 24),dE P "BadWeb" 222 (rf 37),dE P "NoPoint" 238 (rf 49),dE P "BadOrder" 254 (rf 61),dE P "HasGap" 270 (rf 73),dE P "is_order" 280 (rf 82),dE P "need_order" 288 (rf 89),dE P "those_behind" 294 (rf 94),dE P "first_untied" 305 (rf 101),dE P "gap" 315 (rf 108),dE P "least_to_go" 321 (rf 113),dE P "taken" 331 (rf 120),dE P "filled" 337 (rf 125),dE P "need_whole" 347 (rf 132),dE P "crowd_at" 356 (rf 139),dE P "is_full" 362 (rf 144),dE P "full_crowds" 373 (rf 151),dE P "least_free" 381 (rf 158),dE P "coloured" 387 (rf 163),dE P "steps_from" 403 (rf 170),dE P "way" 415 (rf 177),dE P "pieces" 426 (rf 184),dE P "ring_at" 432 (rf 189),dE P "long_ring" 441 (rf 196),dE P "Verdict" 480 (rf 213),dE P "judged" 491 (rf 224),dE P "MOST" 495 (Value.int 60 494),dE P "Web" 561 (rf 269),dE P "web_of" 567 (rf 278),dE P "_law_cell_at" 577 (rf 285),dE P "_law_whole" 584 (rf 292),dE P "_law_numbers" 593 (rf 299)] 41},
 boot_o_4 P,
 boot_o_5 P,
 boot_o_6 P,
 boot_o_7 P,
 boot_o_8 P,
 boot_o_9 P,
 boot_o_10 P,
 tO "tuple" #[],
 {cls:=Value.none,data:=Data.fields #[vi 2,vi 0,rf 20,vi 4,vi 0,rf 33,vi 6,vi 0,rf 45,vi 8,vi 0,rf 57,vi 10,vi 0,rf 69,vi 13,vi 0,rf 81,vi 15,vi 0,rf 88,vi 18,vi 0,rf 93,vi 21,vi 0,rf 100,vi 27,vi 0,rf 107,vi 34,vi 0,rf 112,vi 39,vi 0,rf 119,vi 48,vi 0,rf 124,vi 67,vi 0,rf 131,vi 70,vi 0,rf 138,vi 72,vi 0,rf 143,vi 77,vi 0,rf 150,vi 85,vi 0,rf 157,vi 90,vi 0,rf 162,vi 97,vi 0,rf 169,vi 109,vi 0,rf 176,vi 122,vi 0,rf 183,vi 129,vi 0,rf 188,vi 145,vi 0,rf 195,vi 152,vi 0,rf 202,vi 160,vi 0,rf 223,vi 172,vi 0,rf 230,vi 198,vi 0,rf 277,vi 210,vi 0,rf 284,vi 214,vi 0,rf 291,vi 216,vi 0,rf 298]},
 cO "code" #[vs "<module>" 182,vs "<module>" 183,vs "/claim/cut.py" 184,vi 1,vi 0,vi 0,vi 0,vi 0,rf 11,Value.bool false,vi 181,rf 12,Value.none,Value.none,Value.none,Value.none,vi 185,vi 1,vs "/claim/cut.py" 186],
 fO #[some (rf 13),some (rf 3),some (rf 3),none,some (vs "__main__" 164),none,some (rf 0)],
 tO "tuple" #[Value.type "ValueError"],
 cO "builtin_function_or_method" #[Value.builtin "type.__prepare__",Value.type "type"],
 {cls:=Value.type "dict",data:=Data.dict #[dE P "__module__" 196 (vs "shortring.errors" 187),dE P "__qualname__" 198 (vs "WebError" 197),dE P "__firstlineno__" 200 (Value.int 2 199),dE P "__static_attributes__" 201 (rf 22)] 4},
 tO "tuple" #[],
 {cls:=Value.none,data:=Data.fields #[]},
 cO "code" #[vs "WebError" 191,vs "WebError" 192,vs "/claim/cut.py" 193,vi 2,vi 0,vi 0,vi 0,vi 0,rf 18,Value.bool false,vi 181,rf 19,Value.none,Value.none,Value.none,Value.none,vi 194,vi 2,vs "/claim/cut.py" 195],
 fO #[some (rf 20),some (rf 3),some (rf 17),none,some (vs "shortring.errors" 187),none,some (rf 0)],
 tO "tuple" #[],
 {cls:=Value.type "dict",data:=Data.dict #[dE P "__module__" 196 (vs "shortring.errors" 187),dE P "__firstlineno__" 200 (Value.int 2 199),dE P "__static_attributes__" 201 (rf 22),dE P "__weakref__" 203 (rf 25),dE P "__doc__" 204 (Value.none)] 3},
 {cls:=Value.type "type",data:=Data.cls {name:=Str.ofString "WebError",bases:=[Value.type "ValueError"],mro:=[rf 24,Value.type "ValueError",Value.type "Exception",Value.type "BaseException",Value.type "object"],ns:=23,qualname:=Str.ofString "WebError",subclasses:=[rf 37,rf 49,rf 61,rf 73]},slots:= #[some (rf 15),none,some (vs "WebError" 189),some (vs "WebError" 197),some (Value.builtin "ValueError.__new__"),some (Value.bool true)]},
 cO "getset_descriptor" #[vs "__weakref__" 202,rf 24,Value.builtin "ExceptionGroup.__weakref__",Value.none],
 cO "super" #[rf 24,rf 24,rf 24],
 cO "builtin_function_or_method" #[Value.builtin "object.__init_subclass__",rf 24],
 tO "tuple" #[rf 24],
 cO "builtin_function_or_method" #[Value.builtin "type.__prepare__",Value.type "type"],
 {cls:=Value.type "dict",data:=Data.dict #[dE P "__module__" 214 (vs "shortring.errors" 187),dE P "__qualname__" 216 (vs "BadWeb" 215),dE P "__firstlineno__" 218 (Value.int 4 217),dE P "__static_attributes__" 219 (rf 35)] 4},
 tO "tuple" #[],
 {cls:=Value.none,data:=Data.fields #[]},
 cO "code" #[vs "BadWeb" 209,vs "BadWeb" 210,vs "/claim/cut.py" 211,vi 4,vi 0,vi 0,vi 0,vi 0,rf 31,Value.bool false,vi 181,rf 32,Value.none,Value.none,Value.none,Value.none,vi 212,vi 4,vs "/claim/cut.py" 213],
 fO #[some (rf 33),some (rf 3),some (rf 30),none,some (vs "shortring.errors" 187),none,some (rf 0)],
 tO "tuple" #[],
 {cls:=Value.type "dict",data:=Data.dict #[dE P "__module__" 214 (vs "shortring.errors" 187),dE P "__firstlineno__" 218 (Value.int 4 217),dE P "__static_attributes__" 219 (rf 35),dE P "__doc__" 220 (Value.none)] 2},
 {cls:=Value.type "type",data:=Data.cls {name:=Str.ofString "BadWeb",bases:=[rf 24],mro:=[rf 37,rf 24,Value.type "ValueError",Value.type "Exception",Value.type "BaseException",Value.type "object"],ns:=36,qualname:=Str.ofString "BadWeb"},slots:= #[some (rf 28),none,some (vs "BadWeb" 207),some (vs "BadWeb" 215),some (Value.builtin "ValueError.__new__"),some (Value.bool true)]},
 cO "super" #[rf 37,rf 37,rf 37],
 cO "builtin_function_or_method" #[Value.builtin "object.__init_subclass__",rf 37],
 tO "tuple" #[rf 24],
 cO "builtin_function_or_method" #[Value.builtin "type.__prepare__",Value.type "type"],
 {cls:=Value.type "dict",data:=Data.dict #[dE P "__module__" 230 (vs "shortring.errors" 187),dE P "__qualname__" 232 (vs "NoPoint" 231),dE P "__firstlineno__" 234 (Value.int 6 233),dE P "__static_attributes__" 235 (rf 47)] 4},
 tO "tuple" #[],
 {cls:=Value.none,data:=Data.fields #[]},
 cO "code" #[vs "NoPoint" 225,vs "NoPoint" 226,vs "/claim/cut.py" 227,vi 6,vi 0,vi 0,vi 0,vi 0,rf 43,Value.bool false,vi 181,rf 44,Value.none,Value.none,Value.none,Value.none,vi 228,vi 6,vs "/claim/cut.py" 229],
 fO #[some (rf 45),some (rf 3),some (rf 42),none,some (vs "shortring.errors" 187),none,some (rf 0)],
 tO "tuple" #[],
 {cls:=Value.type "dict",data:=Data.dict #[dE P "__module__" 230 (vs "shortring.errors" 187),dE P "__firstlineno__" 234 (Value.int 6 233),dE P "__static_attributes__" 235 (rf 47),dE P "__doc__" 236 (Value.none)] 2},
 {cls:=Value.type "type",data:=Data.cls {name:=Str.ofString "NoPoint",bases:=[rf 24],mro:=[rf 49,rf 24,Value.type "ValueError",Value.type "Exception",Value.type "BaseException",Value.type "object"],ns:=48,qualname:=Str.ofString "NoPoint"},slots:= #[some (rf 40),none,some (vs "NoPoint" 223),some (vs "NoPoint" 231),some (Value.builtin "ValueError.__new__"),some (Value.bool true)]},
 cO "super" #[rf 49,rf 49,rf 49],
 cO "builtin_function_or_method" #[Value.builtin "object.__init_subclass__",rf 49],
 tO "tuple" #[rf 24],
 cO "builtin_function_or_method" #[Value.builtin "type.__prepare__",Value.type "type"],
 {cls:=Value.type "dict",data:=Data.dict #[dE P "__module__" 246 (vs "shortring.errors" 187),dE P "__qualname__" 248 (vs "BadOrder" 247),dE P "__firstlineno__" 250 (Value.int 8 249),dE P "__static_attributes__" 251 (rf 59)] 4},
 tO "tuple" #[],
 {cls:=Value.none,data:=Data.fields #[]},
 cO "code" #[vs "BadOrder" 241,vs "BadOrder" 242,vs "/claim/cut.py" 243,vi 8,vi 0,vi 0,vi 0,vi 0,rf 55,Value.bool false,vi 181,rf 56,Value.none,Value.none,Value.none,Value.none,vi 244,vi 8,vs "/claim/cut.py" 245],
 fO #[some (rf 57),some (rf 3),some (rf 54),none,some (vs "shortring.errors" 187),none,some (rf 0)],
 tO "tuple" #[],
 {cls:=Value.type "dict",data:=Data.dict #[dE P "__module__" 246 (vs "shortring.errors" 187),dE P "__firstlineno__" 250 (Value.int 8 249),dE P "__static_attributes__" 251 (rf 59),dE P "__doc__" 252 (Value.none)] 2},
 {cls:=Value.type "type",data:=Data.cls {name:=Str.ofString "BadOrder",bases:=[rf 24],mro:=[rf 61,rf 24,Value.type "ValueError",Value.type "Exception",Value.type "BaseException",Value.type "object"],ns:=60,qualname:=Str.ofString "BadOrder"},slots:= #[some (rf 52),none,some (vs "BadOrder" 239),some (vs "BadOrder" 247),some (Value.builtin "ValueError.__new__"),some (Value.bool true)]},
 cO "super" #[rf 61,rf 61,rf 61],
 cO "builtin_function_or_method" #[Value.builtin "object.__init_subclass__",rf 61],
 tO "tuple" #[rf 24],
 cO "builtin_function_or_method" #[Value.builtin "type.__prepare__",Value.type "type"],
 {cls:=Value.type "dict",data:=Data.dict #[dE P "__module__" 262 (vs "shortring.errors" 187),dE P "__qualname__" 264 (vs "HasGap" 263),dE P "__firstlineno__" 266 (Value.int 10 265),dE P "__static_attributes__" 267 (rf 71)] 4},
 tO "tuple" #[],
 {cls:=Value.none,data:=Data.fields #[]},
 cO "code" #[vs "HasGap" 257,vs "HasGap" 258,vs "/claim/cut.py" 259,vi 10,vi 0,vi 0,vi 0,vi 0,rf 67,Value.bool false,vi 181,rf 68,Value.none,Value.none,Value.none,Value.none,vi 260,vi 10,vs "/claim/cut.py" 261],
 fO #[some (rf 69),some (rf 3),some (rf 66),none,some (vs "shortring.errors" 187),none,some (rf 0)],
 tO "tuple" #[],
 {cls:=Value.type "dict",data:=Data.dict #[dE P "__module__" 262 (vs "shortring.errors" 187),dE P "__firstlineno__" 266 (Value.int 10 265),dE P "__static_attributes__" 267 (rf 71),dE P "__doc__" 268 (Value.none)] 2},
 {cls:=Value.type "type",data:=Data.cls {name:=Str.ofString "HasGap",bases:=[rf 24],mro:=[rf 73,rf 24,Value.type "ValueError",Value.type "Exception",Value.type "BaseException",Value.type "object"],ns:=72,qualname:=Str.ofString "HasGap"},slots:= #[some (rf 64),none,some (vs "HasGap" 255),some (vs "HasGap" 263),some (Value.builtin "ValueError.__new__"),some (Value.bool true)]},
 cO "super" #[rf 73,rf 73,rf 73],
 cO "builtin_function_or_method" #[Value.builtin "object.__init_subclass__",rf 73],
 tO "tuple" #[],
 {cls:=Value.none,data:=Data.fields #[]},
 tO "tuple" #[vs "web" 276,vs "order" 277],
 tO "tuple" #[],
 Ej (Ah 7) (Str.ofString "is_order"),
 cO "code" #[vs "is_order" 273,vs "is_order" 274,vs "/claim/cut.py" 275,vi 13,vi 2,vi 0,vi 0,vi 3,rf 76,Value.bool true,vi 181,rf 77,Value.none,rf 78,rf 79,rf 80,vi 278,vi 13,vs "/claim/cut.py" 279],
 Br (Ah 7) (Str.ofString "is_order") (vs "shortring.orders" 271) 81,
 tO "tuple" #[],
 {cls:=Value.none,data:=Data.fields #[]},
 tO "tuple" #[vs "web" 284,vs "order" 285],
 tO "tuple" #[],
 Ej (Ah 8) (Str.ofString "need_order"),
 cO "code" #[vs "need_order" 281,vs "need_order" 282,vs "/claim/cut.py" 283,vi 15,vi 2,vi 0,vi 0,vi 3,rf 83,Value.bool true,vi 181,rf 84,Value.none,rf 85,rf 86,rf 87,vi 286,vi 15,vs "/claim/cut.py" 287],
 Br (Ah 8) (Str.ofString "need_order") (vs "shortring.orders" 271) 88,
 tO "tuple" #[],
 {cls:=Value.none,data:=Data.fields #[]},
 Ej (Ah 9) (Str.ofString "those_behind"),
 cO "code" #[vs "those_behind" 289,vs "those_behind" 290,vs "/claim/cut.py" 291,vi 18,vi 3,vi 0,vi 0,vi 3,rf 90,Value.bool true,vi 181,rf 91,Value.none,Value.none,Value.none,rf 92,vi 292,vi 18,vs "/claim/cut.py" 293],
 Br (Ah 9) (Str.ofString "those_behind") (vs "shortring.orders" 271) 93,
 tO "tuple" #[],
 {cls:=Value.none,data:=Data.fields #[]},
 tO "tuple" #[vs "web" 298,vs "row" 299,vs "k" 300,vs "one" 301,vs "other" 302],
 tO "tuple" #[],
 Ej (Ah 10) (Str.ofString "first_untied"),
 cO "code" #[vs "first_untied" 295,vs "first_untied" 296,vs "/claim/cut.py" 297,vi 21,vi 2,vi 0,vi 0,vi 3,rf 95,Value.bool true,vi 181,rf 96,Value.none,rf 97,rf 98,rf 99,vi 303,vi 21,vs "/claim/cut.py" 304],
 Br (Ah 10) (Str.ofString "first_untied") (vs "shortring.orders" 271) 100,
 tO "tuple" #[],
 {cls:=Value.none,data:=Data.fields #[]},
 tO "tuple" #[vs "web" 309,vs "order" 310,vs "point" 311,vs "pair" 312],
 tO "tuple" #[],
 Ej (Ah 11) (Str.ofString "gap"),
 cO "code" #[vs "gap" 306,vs "gap" 307,vs "/claim/cut.py" 308,vi 27,vi 2,vi 0,vi 0,vi 3,rf 102,Value.bool true,vi 181,rf 103,Value.none,rf 104,rf 105,rf 106,vi 313,vi 27,vs "/claim/cut.py" 314],
 Br (Ah 11) (Str.ofString "gap") (vs "shortring.orders" 271) 107,
 tO "tuple" #[],
 {cls:=Value.none,data:=Data.fields #[]},
 Ej (Ah 12) (Str.ofString "least_to_go"),
 cO "code" #[vs "least_to_go" 316,vs "least_to_go" 317,vs "/claim/cut.py" 318,vi 34,vi 2,vi 0,vi 0,vi 3,rf 109,Value.bool true,vi 181,rf 110,Value.none,Value.none,Value.none,rf 111,vi 319,vi 34,vs "/claim/cut.py" 320],
 Br (Ah 12) (Str.ofString "least_to_go") (vs "shortring.orders" 271) 112,
 tO "tuple" #[],
 {cls:=Value.none,data:=Data.fields #[]},
 tO "tuple" #[vs "web" 325,vs "there" 326,vs "gone" 327,vs "point" 328],
 tO "tuple" #[],
 Ej (Ah 13) (Str.ofString "taken"),
 cO "code" #[vs "taken" 322,vs "taken" 323,vs "/claim/cut.py" 324,vi 39,vi 1,vi 0,vi 0,vi 3,rf 114,Value.bool true,vi 181,rf 115,Value.none,rf 116,rf 117,rf 118,vi 329,vi 39,vs "/claim/cut.py" 330],
 Br (Ah 13) (Str.ofString "taken") (vs "shortring.orders" 271) 119,
 tO "tuple" #[],
 {cls:=Value.none,data:=Data.fields #[]},
 Ej (Ah 14) (Str.ofString "filled"),
 cO "code" #[vs "filled" 332,vs "filled" 333,vs "/claim/cut.py" 334,vi 48,vi 2,vi 0,vi 0,vi 3,rf 121,Value.bool true,vi 181,rf 122,Value.none,Value.none,Value.none,rf 123,vi 335,vi 48,vs "/claim/cut.py" 336],
 Br (Ah 14) (Str.ofString "filled") (vs "shortring.orders" 271) 124,
 tO "tuple" #[],
 {cls:=Value.none,data:=Data.fields #[]},
 tO "tuple" #[vs "web" 343,vs "order" 344],
 tO "tuple" #[],
 Ej (Ah 16) (Str.ofString "need_whole"),
 cO "code" #[vs "need_whole" 340,vs "need_whole" 341,vs "/claim/cut.py" 342,vi 67,vi 2,vi 0,vi 0,vi 3,rf 126,Value.bool true,vi 181,rf 127,Value.none,rf 128,rf 129,rf 130,vi 345,vi 67,vs "/claim/cut.py" 346],
 Br (Ah 16) (Str.ofString "need_whole") (vs "shortring.crowds" 338) 131,
 tO "tuple" #[],
 {cls:=Value.none,data:=Data.fields #[]},
 tO "tuple" #[vs "web" 351,vs "order" 352,vs "point" 353],
 tO "tuple" #[],
 Ej (Ah 17) (Str.ofString "crowd_at"),
 cO "code" #[vs "crowd_at" 348,vs "crowd_at" 349,vs "/claim/cut.py" 350,vi 70,vi 3,vi 0,vi 0,vi 3,rf 133,Value.bool true,vi 181,rf 134,Value.none,rf 135,rf 136,rf 137,vi 354,vi 70,vs "/claim/cut.py" 355],
 Br (Ah 17) (Str.ofString "crowd_at") (vs "shortring.crowds" 338) 138,
 tO "tuple" #[],
 {cls:=Value.none,data:=Data.fields #[]},
 Ej (Ah 18) (Str.ofString "is_full"),
 cO "code" #[vs "is_full" 357,vs "is_full" 358,vs "/claim/cut.py" 359,vi 72,vi 2,vi 0,vi 0,vi 3,rf 140,Value.bool true,vi 181,rf 141,Value.none,Value.none,Value.none,rf 142,vi 360,vi 72,vs "/claim/cut.py" 361],
 Br (Ah 18) (Str.ofString "is_full") (vs "shortring.crowds" 338) 143,
 tO "tuple" #[],
 {cls:=Value.none,data:=Data.fields #[]},
 tO "tuple" #[vs "web" 366,vs "order" 367,vs "found" 368,vs "point" 369,vs "crowd" 370],
 tO "tuple" #[],
 Ej (Ah 19) (Str.ofString "full_crowds"),
 cO "code" #[vs "full_crowds" 363,vs "full_crowds" 364,vs "/claim/cut.py" 365,vi 77,vi 2,vi 0,vi 0,vi 3,rf 145,Value.bool true,vi 181,rf 146,Value.none,rf 147,rf 148,rf 149,vi 371,vi 77,vs "/claim/cut.py" 372],
 Br (Ah 19) (Str.ofString "full_crowds") (vs "shortring.crowds" 338) 150,
 tO "tuple" #[],
 {cls:=Value.none,data:=Data.fields #[]},
 tO "tuple" #[vs "used" 377,vs "colour" 378],
 tO "tuple" #[],
 Ej (Ah 20) (Str.ofString "least_free"),
 cO "code" #[vs "least_free" 374,vs "least_free" 375,vs "/claim/cut.py" 376,vi 85,vi 1,vi 0,vi 0,vi 3,rf 152,Value.bool true,vi 181,rf 153,Value.none,rf 154,rf 155,rf 156,vi 379,vi 85,vs "/claim/cut.py" 380],
 Br (Ah 20) (Str.ofString "least_free") (vs "shortring.crowds" 338) 157,
 tO "tuple" #[],
 {cls:=Value.none,data:=Data.fields #[]},
 Ej (Ah 21) (Str.ofString "coloured"),
 cO "code" #[vs "coloured" 382,vs "coloured" 383,vs "/claim/cut.py" 384,vi 90,vi 2,vi 0,vi 0,vi 3,rf 159,Value.bool true,vi 181,rf 160,Value.none,Value.none,Value.none,rf 161,vi 385,vi 90,vs "/claim/cut.py" 386],
 Br (Ah 21) (Str.ofString "coloured") (vs "shortring.crowds" 338) 162,
 tO "tuple" #[],
 {cls:=Value.none,data:=Data.fields #[]},
 tO "tuple" #[vs "web" 393,vs "start" 394,vs "shut" 395,vs "came" 396,vs "waiting" 397,vs "k" 398,vs "point" 399,vs "other" 400],
 tO "tuple" #[],
 Ej (Ah 23) (Str.ofString "steps_from"),
 cO "code" #[vs "steps_from" 390,vs "steps_from" 391,vs "/claim/cut.py" 392,vi 97,vi 3,vi 0,vi 0,vi 3,rf 164,Value.bool true,vi 181,rf 165,Value.none,rf 166,rf 167,rf 168,vi 401,vi 97,vs "/claim/cut.py" 402],
 Br (Ah 23) (Str.ofString "steps_from") (vs "shortring.rings" 388) 169,
 tO "tuple" #[],
 {cls:=Value.none,data:=Data.fields #[]},
 tO "tuple" #[vs "web" 407,vs "start" 408,vs "goal" 409,vs "shut" 410,vs "came" 411,vs "found" 412],
 tO "tuple" #[],
 Ej (Ah 24) (Str.ofString "way"),
 cO "code" #[vs "way" 404,vs "way" 405,vs "/claim/cut.py" 406,vi 109,vi 4,vi 0,vi 0,vi 3,rf 171,Value.bool true,vi 181,rf 172,Value.none,rf 173,rf 174,rf 175,vi 413,vi 109,vs "/claim/cut.py" 414],
 Br (Ah 24) (Str.ofString "way") (vs "shortring.rings" 388) 176,
 tO "tuple" #[],
 {cls:=Value.none,data:=Data.fields #[]},
 tO "tuple" #[vs "web" 419,vs "shut" 420,vs "piece" 421,vs "start" 422,vs "point" 423],
 tO "tuple" #[],
 Ej (Ah 25) (Str.ofString "pieces"),
 cO "code" #[vs "pieces" 416,vs "pieces" 417,vs "/claim/cut.py" 418,vi 122,vi 2,vi 0,vi 0,vi 3,rf 178,Value.bool true,vi 181,rf 179,Value.none,rf 180,rf 181,rf 182,vi 424,vi 122,vs "/claim/cut.py" 425],
 Br (Ah 25) (Str.ofString "pieces") (vs "shortring.rings" 388) 183,
 tO "tuple" #[],
 {cls:=Value.none,data:=Data.fields #[]},
 Ej (Ah 26) (Str.ofString "ring_at"),
 cO "code" #[vs "ring_at" 427,vs "ring_at" 428,vs "/claim/cut.py" 429,vi 129,vi 2,vi 0,vi 0,vi 3,rf 185,Value.bool true,vi 181,rf 186,Value.none,Value.none,Value.none,rf 187,vi 430,vi 129,vs "/claim/cut.py" 431],
 Br (Ah 26) (Str.ofString "ring_at") (vs "shortring.rings" 388) 188,
 tO "tuple" #[],
 {cls:=Value.none,data:=Data.fields #[]},
 tO "tuple" #[vs "web" 436,vs "point" 437,vs "found" 438],
 tO "tuple" #[],
 Ej (Ah 27) (Str.ofString "long_ring"),
 cO "code" #[vs "long_ring" 433,vs "long_ring" 434,vs "/claim/cut.py" 435,vi 145,vi 1,vi 0,vi 0,vi 3,rf 190,Value.bool true,vi 181,rf 191,Value.none,rf 192,rf 193,rf 194,vi 439,vi 145,vs "/claim/cut.py" 440],
 Br (Ah 27) (Str.ofString "long_ring") (vs "shortring.rings" 388) 195,
 tO "tuple" #[],
 cO "builtin_function_or_method" #[Value.builtin "type.__prepare__",Value.type "type"],
 {cls:=Value.type "dict",data:=Data.dict #[dE P "__module__" 451 (vs "shortring.verdicts" 442),dE P "__qualname__" 453 (vs "Verdict" 452),dE P "__firstlineno__" 455 (Value.int 152 454),dE P "__init__" 467 (rf 210),dE P "__static_attributes__" 473 (rf 211)] 5},
 tO "tuple" #[],
 {cls:=Value.none,data:=Data.fields #[vi 154,vi 4,rf 209]},
 cO "code" #[vs "Verdict" 446,vs "Verdict" 447,vs "/claim/cut.py" 448,vi 152,vi 0,vi 0,vi 0,vi 0,rf 200,Value.bool false,vi 181,rf 201,Value.none,Value.none,Value.none,Value.none,vi 449,vi 152,vs "/claim/cut.py" 450],
 fO #[some (rf 202),some (rf 3),some (rf 199),none,some (vs "shortring.verdicts" 442),none,some (rf 0)],
 tO "tuple" #[],
 {cls:=Value.none,data:=Data.fields #[]},
 tO "tuple" #[vs "self" 459,vs "order" 460,vs "ring" 461,vs "crowd" 462,vs "colours" 463,vs "many" 464],
 tO "tuple" #[],
 Ej (Gg 29 0) (Str.ofString "Verdict.__init__"),
 cO "code" #[vs "__init__" 456,vs "Verdict.__init__" 457,vs "/claim/cut.py" 458,vi 154,vi 6,vi 0,vi 0,vi 3,rf 204,Value.bool true,vi 181,rf 205,Value.none,rf 206,rf 207,rf 208,vi 465,vi 154,vs "/claim/cut.py" 466],
 Br (Gg 29 0) (Str.ofString "Verdict.__init__") (vs "shortring.verdicts" 442) 209,
 tO "tuple" #[vs "colours" 468,vs "crowd" 469,vs "many" 470,vs "order" 471,vs "ring" 472],
 {cls:=Value.type "dict",data:=Data.dict #[dE P "__module__" 451 (vs "shortring.verdicts" 442),dE P "__firstlineno__" 455 (Value.int 152 454),dE P "__init__" 467 (rf 210),dE P "__static_attributes__" 473 (rf 211),dE P "__dict__" 475 (rf 214),dE P "__weakref__" 477 (rf 215),dE P "__doc__" 478 (Value.none)] 4},
 {cls:=Value.type "type",data:=Data.cls {name:=Str.ofString "Verdict",bases:=[Value.type "object"],mro:=[rf 213,Value.type "object"],ns:=212,qualname:=Str.ofString "Verdict"},slots:= #[none,none,some (vs "Verdict" 444),some (vs "Verdict" 452),some (Value.builtin "object.__new__"),some (Value.bool true)]},
 cO "getset_descriptor" #[vs "__dict__" 474,rf 213,Value.builtin "function.__dict__",Value.builtin "function.__dict__#set"],
 cO "getset_descriptor" #[vs "__weakref__" 476,rf 213,Value.builtin "ExceptionGroup.__weakref__",Value.none],
 cO "super" #[rf 213,rf 213,rf 213],
 cO "builtin_function_or_method" #[Value.builtin "object.__init_subclass__",rf 213],
 tO "tuple" #[],
 {cls:=Value.none,data:=Data.fields #[]},
 tO "tuple" #[vs "web" 484,vs "ring" 485,vs "order" 486,vs "greatest" 487,vs "crowd" 488],
 tO "tuple" #[],
 Ej (Ah 30) (Str.ofString "judged"),
 cO "code" #[vs "judged" 481,vs "judged" 482,vs "/claim/cut.py" 483,vi 160,vi 1,vi 0,vi 0,vi 3,rf 218,Value.bool true,vi 181,rf 219,Value.none,rf 220,rf 221,rf 222,vi 489,vi 160,vs "/claim/cut.py" 490],
 Br (Ah 30) (Str.ofString "judged") (vs "shortring.verdicts" 442) 223,
 tO "tuple" #[],
 cO "builtin_function_or_method" #[Value.builtin "type.__prepare__",Value.type "type"],
 {cls:=Value.type "dict",data:=Data.dict #[dE P "__module__" 503 (vs "shortring.webs" 492),dE P "__qualname__" 505 (vs "Web" 504),dE P "__firstlineno__" 507 (Value.int 172 506),dE P "__init__" 516 (rf 238),dE P "need" 524 (rf 245),dE P "beside" 532 (rf 252),dE P "tied" 541 (rf 259),dE P "ties" 551 (rf 266),dE P "__static_attributes__" 554 (rf 267)] 9},
 tO "tuple" #[],
 {cls:=Value.none,data:=Data.fields #[vi 174,vi 4,rf 237,vi 178,vi 4,rf 244,vi 182,vi 4,rf 251,vi 186,vi 4,rf 258,vi 191,vi 4,rf 265]},
 cO "code" #[vs "Web" 498,vs "Web" 499,vs "/claim/cut.py" 500,vi 172,vi 0,vi 0,vi 0,vi 0,rf 228,Value.bool false,vi 181,rf 229,Value.none,Value.none,Value.none,Value.none,vi 501,vi 172,vs "/claim/cut.py" 502],
 fO #[some (rf 230),some (rf 3),some (rf 227),none,some (vs "shortring.webs" 492),none,some (rf 0)],
 tO "tuple" #[],
 {cls:=Value.none,data:=Data.fields #[]},
 tO "tuple" #[vs "self" 511,vs "many" 512,vs "rows" 513],
 tO "tuple" #[],
 Ej (Gg 33 0) (Str.ofString "Web.__init__"),
 cO "code" #[vs "__init__" 508,vs "Web.__init__" 509,vs "/claim/cut.py" 510,vi 174,vi 3,vi 0,vi 0,vi 3,rf 232,Value.bool true,vi 181,rf 233,Value.none,rf 234,rf 235,rf 236,vi 514,vi 174,vs "/claim/cut.py" 515],
 Br (Gg 33 0) (Str.ofString "Web.__init__") (vs "shortring.webs" 492) 237,
 tO "tuple" #[],
 {cls:=Value.none,data:=Data.fields #[]},
 tO "tuple" #[vs "self" 520,vs "point" 521],
 tO "tuple" #[],
 Ej (Gg 33 1) (Str.ofString "Web.need"),
 cO "code" #[vs "need" 517,vs "Web.need" 518,vs "/claim/cut.py" 519,vi 178,vi 2,vi 0,vi 0,vi 3,rf 239,Value.bool true,vi 181,rf 240,Value.none,rf 241,rf 242,rf 243,vi 522,vi 178,vs "/claim/cut.py" 523],
 Br (Gg 33 1) (Str.ofString "Web.need") (vs "shortring.webs" 492) 244,
 tO "tuple" #[],
 {cls:=Value.none,data:=Data.fields #[]},
 tO "tuple" #[vs "self" 528,vs "point" 529],
 tO "tuple" #[],
 Ej (Gg 33 2) (Str.ofString "Web.beside"),
 cO "code" #[vs "beside" 525,vs "Web.beside" 526,vs "/claim/cut.py" 527,vi 182,vi 2,vi 0,vi 0,vi 3,rf 246,Value.bool true,vi 181,rf 247,Value.none,rf 248,rf 249,rf 250,vi 530,vi 182,vs "/claim/cut.py" 531],
 Br (Gg 33 2) (Str.ofString "Web.beside") (vs "shortring.webs" 492) 251,
 tO "tuple" #[],
 {cls:=Value.none,data:=Data.fields #[]},
 tO "tuple" #[vs "self" 536,vs "one" 537,vs "other" 538],
 tO "tuple" #[],
 Ej (Gg 33 3) (Str.ofString "Web.tied"),
 cO "code" #[vs "tied" 533,vs "Web.tied" 534,vs "/claim/cut.py" 535,vi 186,vi 3,vi 0,vi 0,vi 3,rf 253,Value.bool true,vi 181,rf 254,Value.none,rf 255,rf 256,rf 257,vi 539,vi 186,vs "/claim/cut.py" 540],
 Br (Gg 33 3) (Str.ofString "Web.tied") (vs "shortring.webs" 492) 258,
 tO "tuple" #[],
 {cls:=Value.none,data:=Data.fields #[]},
 tO "tuple" #[vs "self" 545,vs "found" 546,vs "one" 547,vs "other" 548],
 tO "tuple" #[],
 Ej (Gg 33 4) (Str.ofString "Web.ties"),
 cO "code" #[vs "ties" 542,vs "Web.ties" 543,vs "/claim/cut.py" 544,vi 191,vi 1,vi 0,vi 0,vi 3,rf 260,Value.bool true,vi 181,rf 261,Value.none,rf 262,rf 263,rf 264,vi 549,vi 191,vs "/claim/cut.py" 550],
 Br (Gg 33 4) (Str.ofString "Web.ties") (vs "shortring.webs" 492) 265,
 tO "tuple" #[vs "many" 552,vs "rows" 553],
 {cls:=Value.type "dict",data:=Data.dict #[dE P "__module__" 503 (vs "shortring.webs" 492),dE P "__firstlineno__" 507 (Value.int 172 506),dE P "__init__" 516 (rf 238),dE P "need" 524 (rf 245),dE P "beside" 532 (rf 252),dE P "tied" 541 (rf 259),dE P "ties" 551 (rf 266),dE P "__static_attributes__" 554 (rf 267),dE P "__dict__" 556 (rf 270),dE P "__weakref__" 558 (rf 271),dE P "__doc__" 559 (Value.none)] 4},
 {cls:=Value.type "type",data:=Data.cls {name:=Str.ofString "Web",bases:=[Value.type "object"],mro:=[rf 269,Value.type "object"],ns:=268,qualname:=Str.ofString "Web"},slots:= #[none,none,some (vs "Web" 496),some (vs "Web" 504),some (Value.builtin "object.__new__"),some (Value.bool true)]},
 cO "getset_descriptor" #[vs "__dict__" 555,rf 269,Value.builtin "function.__dict__",Value.builtin "function.__dict__#set"],
 cO "getset_descriptor" #[vs "__weakref__" 557,rf 269,Value.builtin "ExceptionGroup.__weakref__",Value.none],
 cO "super" #[rf 269,rf 269,rf 269],
 cO "builtin_function_or_method" #[Value.builtin "object.__init_subclass__",rf 269],
 tO "tuple" #[],
 {cls:=Value.none,data:=Data.fields #[]},
 Ej (Ah 34) (Str.ofString "web_of"),
 cO "code" #[vs "web_of" 562,vs "web_of" 563,vs "/claim/cut.py" 564,vi 198,vi 2,vi 0,vi 0,vi 3,rf 274,Value.bool true,vi 181,rf 275,Value.none,Value.none,Value.none,rf 276,vi 565,vi 198,vs "/claim/cut.py" 566],
 Br (Ah 34) (Str.ofString "web_of") (vs "shortring.webs" 492) 277,
 tO "tuple" #[],
 {cls:=Value.none,data:=Data.fields #[]},
 tO "tuple" #[vs "_law_script" 573,vs "_law_k" 574],
 tO "tuple" #[],
 Ej (Ah 36) (Str.ofString "_law_cell_at"),
 cO "code" #[vs "_law_cell_at" 570,vs "_law_cell_at" 571,vs "/claim/cut.py" 572,vi 210,vi 2,vi 0,vi 0,vi 3,rf 279,Value.bool true,vi 181,rf 280,Value.none,rf 281,rf 282,rf 283,vi 575,vi 210,vs "/claim/cut.py" 576],
 Br (Ah 36) (Str.ofString "_law_cell_at") (vs "law_uf020033_08" 568) 284,
 tO "tuple" #[],
 {cls:=Value.none,data:=Data.fields #[]},
 tO "tuple" #[vs "_law_found" 581],
 tO "tuple" #[],
 Ej (Ah 37) (Str.ofString "_law_whole"),
 cO "code" #[vs "_law_whole" 578,vs "_law_whole" 579,vs "/claim/cut.py" 580,vi 214,vi 1,vi 0,vi 0,vi 3,rf 286,Value.bool true,vi 181,rf 287,Value.none,rf 288,rf 289,rf 290,vi 582,vi 214,vs "/claim/cut.py" 583],
 Br (Ah 37) (Str.ofString "_law_whole") (vs "law_uf020033_08" 568) 291,
 tO "tuple" #[],
 {cls:=Value.none,data:=Data.fields #[]},
 tO "tuple" #[vs "_law_found" 588,vs "_law_due_here" 589,vs "_law_k" 590],
 tO "tuple" #[],
 Ej (Ah 38) (Str.ofString "_law_numbers"),
 cO "code" #[vs "_law_numbers" 585,vs "_law_numbers" 586,vs "/claim/cut.py" 587,vi 216,vi 2,vi 0,vi 0,vi 3,rf 293,Value.bool true,vi 181,rf 294,Value.none,rf 295,rf 296,rf 297,vi 591,vi 216,vs "/claim/cut.py" 592],
 Br (Ah 38) (Str.ofString "_law_numbers") (vs "law_uf020033_08" 568) 298],{}⟩,Array.mk [],{},594,os⟩
theorem Ag7:∀w:World,(fun os=>topGo treeTable PySem.Challenge.pw_uf020033_08 w 11 (some (Value.ref 6)) 12 ⟨boot_heap w.params,Array.mk [],boot_drawn,boot_toks,os⟩ (topStub PySem.Challenge.pw_uf020033_08))=fun os=>some (s_a w.params os,⟨denote treeTable hC,hC,{line:=0,col:=0,endLine:=0,endCol:=0},hF⟩):=by
 intro w
 kernel_rfl
theorem Ag8:∀w:World,(fun os=>segRun treeTable PySem.Challenge.pw_uf020033_08 w 11 (some (Value.ref 6)) 1 1 (s_a w.params os) (blockOf hB Yu hC {line:=0,col:=0,endLine:=0,endCol:=0} hF))=fun os=>some (Flow.next,s_b w.params os,hC,{line:=0,col:=0,endLine:=0,endCol:=0}):=by
 intro w
 kernel_rfl
theorem Po{p:Program}{w:World}{aM:Nat}{ann:Option Value}{env:Env}{q:Pos}(k:Nat){n N:Nat}{s s' r:Shared}{b:List Stmt}{c:Code}{pos p':Pos}(h:segRun treeTable p w aM ann 1 n s (piecesOf (b.take k) env c pos [topFrame q])=some (.next,s',c,p'))
 (t:topRun treeTable p w aM ann N s' (restOf (b.drop k) env c p' [topFrame q])=some r):topRun treeTable p w aM ann (n+N) s (restOf b env c pos [topFrame q])=some r:=by
 have:=piece_app h t
 rwa[List.take_append_drop]at this
theorem Ag9:∀w:World,(fun os=>segRun treeTable PySem.Challenge.pw_uf020033_08 w 11 (some (Value.ref 6)) 1 1919 (s_b w.params os) (piecesOf ((hB).take 30) Yu hC {line:=0,col:=0,endLine:=0,endCol:=0} hF))=fun os=>some (Flow.next,Aex w.params os,hC,{line:=152,col:=0,endLine:=159,endCol:=24}):=by
 intro w
 kernel_rfl
theorem Aha:∀w:World,(fun os=>segRun treeTable PySem.Challenge.pw_uf020033_08 w 11 (some (Value.ref 6)) 1 545 (Aex w.params os) (piecesOf (((hB).drop 30).take 9) Yu hC {line:=152,col:=0,endLine:=159,endCol:=24} hF))=fun os=>some (Flow.next,Aey w.params os,hC,{line:=216,col:=0,endLine:=222,endCol:=15}):=by
 intro w
 kernel_rfl
theorem Ahb:∀w:World,(fun os=>(topRun treeTable PySem.Challenge.pw_uf020033_08 w 11 (some (Value.ref 6)) 649 (Aey w.params os) (restOf (((hB).drop 30).drop 9) Yu hC {line:=216,col:=0,endLine:=222,endCol:=15} hF)).map (fun s=>(staticsOk (importedModules PySem.Challenge.pw_uf020033_08.main.body) (boot_heap w.params) s.heap&&namesBound PySem.Challenge.pw_uf020033_08 s.heap&&gensDone s&&laidKept (boot_heap w.params) s.heap,openSeen kq [] (importedModules PySem.Challenge.pw_uf020033_08.main.body) (fun s=>xlAt kq [] s&&recOk (RowW.records PySem.Challenge.rw_uf020033_08.row.toRowW) s) true s,Hook.obs kH s)))=fun os=>some (true,openGood kq [],Hook.val kH w):=by
 intro w
 kernel_rfl
theorem Yv{p q:Program}{loose:List Str}{Xt:Shared->Bool}{α:Type}{Yf:Shared->α}{Ya:World->α}{N:Nat}{az:Params->Heap}{aK:Array GenState}{aN:Drawn}{aO:Nat}{aS:Nat}{ann:Option Value}{M:Nat}
 (op:∀w:World,(fencedOpening treeTable p w N).map (fun s=>(s.heap,s.gens,s.drawn,s.toks))=some (az w.params,aK,aN,aO))
 (size:∀w:World,((az w.params).isNs mainGlobals&&aK.size==0,(az w.params).objs.size,(az w.params).nsMap mainGlobals "__annotations__")=(true,aS,ann))
 (run:∀(w:World) (os:OsState),∃r,topRun treeTable p w aS ann M ⟨az w.params,aK,aN,aO,os⟩ (topStub p)=some r/\(staticsOk (importedModules p.main.body) (az w.params) r.heap&&namesBound p r.heap&&gensDone r&&laidKept (az w.params) r.heap)=true/\openSeen q loose (importedModules p.main.body) Xt true r=openGood q loose/\Yf r=Ya w)
 (le:Nat.ble M N=true):LeftO p q loose Xt Yf Ya N:=fun w=>by
 obtain⟨⟨h,gs,d,k,os⟩,e,e'⟩:=Option.map_eq_some_iff.mp (op w)
 obtain⟨rfl,rfl,rfl,rfl⟩:h=az w.params/\gs=aK/\d=aN/\k=aO:=by simpa using e'
 obtain⟨z1,z2,z3⟩:_/\_/\_:=by simpa only[Prod.mk.injEq]using size w
 obtain⟨r,hr,l1,l2,l3⟩:=run w os
 have r':=topRun_mono (N-M) _ _ _ _ hr
 rw[show M+(N-M)=N by have:=Nat.le_of_ble_eq_true le;omega]at r'
 have t:topFrom treeTable p w N ⟨az w.params,gs,d,k,os⟩=some r:=by
  unfold topFrom
  dsimp only
  rw[z1,z2,z3,r']
  show (match staticsOk (importedModules p.main.body) (az w.params) r.heap&&namesBound p r.heap&&gensDone r&&laidKept (az w.params) r.heap with|true=>_|false=>_)=_
  rw[l1]
 unfold openEnds
 rw[e]
 show (topFrom treeTable p w N _).map _=_
 rw[t]
 exact congrArg some (Prod.ext l2 l3)
theorem b_e:opening PySem.Challenge.pw_uf020033_08=plainProg PySem.Challenge.pw_uf020033_08.main.scope.names:=by kernel_rfl
theorem b_f(s:Shared):fenceModules? PySem.Challenge.pw_uf020033_08 s=some s:=by kernel_rfl
theorem Afe(w:World):((boot_heap w.params).isNs mainGlobals&&(Array.mk ([]:List GenState)).size==0,(boot_heap w.params).objs.size,(boot_heap w.params).nsMap mainGlobals "__annotations__")=(true,11,some (Value.ref 6)):=by kernel_rfl
theorem Ez:LeftO PySem.Challenge.pw_uf020033_08 kq [] (fun s=>xlAt kq [] s&&recOk (RowW.records PySem.Challenge.rw_uf020033_08.row.toRowW) s) (Hook.obs kH) (Hook.val kH) 6112:=
 Yv (M:=12+(1+(1919+(545+(649))))) (boot_open b_e (by decide) b_f) Afe (fun w os=>by
  obtain⟨r,hr,ho⟩:=Option.map_eq_some_iff.mp (congrFun (Ahb w) os)
  obtain⟨o1,ho⟩:=Prod.mk.inj ho
  obtain⟨o2,o3⟩:=Prod.mk.inj ho
  exact⟨r,go_top (congrFun (Ag7 w) os) (piece_block (congrFun (Ag8 w) os) (Po 30 (congrFun (Ag9 w) os) (Po 9 (congrFun (Aha w) os) (hr)))),o1,o2,o3⟩) (by decide)
end Mine.Internal.Cl
namespace Mine.Internal
open PySem
theorem Af{a b c:Nat}(h:a<=b)(k:b<=c):a<=c:=Nat.le_trans h k
theorem Da{α:Type}{l:List α}{i:Nat}{a:α}(h:l[i]? = some a):∃h:i<l.length,l[i]=a:=List.getElem?_eq_some_iff.mp h
theorem Bk{α β:Type}{l:List α}(f:α->β):(l.map f).length=l.length:=List.length_map f
theorem Aa{p:Prop}(h:¬p->False):p:=Classical.byContradiction h
inductive O2{α0:Type}(p:α0->Prop):Prop
 | mk (x0:α0) (h:p x0)
inductive Jy{α0 α1:Type}(p:α0->α1->Prop):Prop
 | mk (x0:α0) (x1:α1) (h:p x0 x1)
inductive Ex3{α0 α1 α2:Type}(p:α0->α1->α2->Prop):Prop
 | mk (x0:α0) (x1:α1) (x2:α2) (h:p x0 x1 x2)
inductive Ex4{α0 α1 α2 α3:Type}(p:α0->α1->α2->α3->Prop):Prop
 | mk (x0:α0) (x1:α1) (x2:α2) (x3:α3) (h:p x0 x1 x2 x3)
inductive Ex6{α0 α1 α2 α3 α4 α5:Type}(p:α0->α1->α2->α3->α4->α5->Prop):Prop
 | mk (x0:α0) (x1:α1) (x2:α2) (x3:α3) (x4:α4) (x5:α5) (h:p x0 x1 x2 x3 x4 x5)
inductive Fe(a0 a1 a2:Prop):Prop
 | mk (h0:a0) (h1:a1) (h2:a2)
inductive O4(a0 a1 a2 a3:Prop):Prop
 | mk (h0:a0) (h1:a1) (h2:a2) (h3:a3)
inductive Vh(a0 a1 a2 a3 a4:Prop):Prop
 | mk (h0:a0) (h1:a1) (h2:a2) (h3:a3) (h4:a4)
inductive An6(a0 a1 a2 a3 a4 a5:Prop):Prop
 | mk (h0:a0) (h1:a1) (h2:a2) (h3:a3) (h4:a4) (h5:a5)
inductive An7(a0 a1 a2 a3 a4 a5 a6:Prop):Prop
 | mk (h0:a0) (h1:a1) (h2:a2) (h3:a3) (h4:a4) (h5:a5) (h6:a6)
inductive An8(a0 a1 a2 a3 a4 a5 a6 a7:Prop):Prop
 | mk (h0:a0) (h1:a1) (h2:a2) (h3:a3) (h4:a4) (h5:a5) (h6:a6) (h7:a7)
inductive Ahd(a0 a1 a2 a3 a4 a5 a6 a7 a8 a9 a10 a11 a12:Prop):Prop
 | mk (h0:a0) (h1:a1) (h2:a2) (h3:a3) (h4:a4) (h5:a5) (h6:a6) (h7:a7) (h8:a8) (h9:a9) (h10:a10) (h11:a11) (h12:a12)
inductive V where
 | none|bool (b:Bool)|int (i:Int)|ref (a:Nat)|script (ns:List Int)
inductive Qn where
 | web|verdict
 deriving DecidableEq
inductive C2 where
 | many|rows|order|ring|crowd|colours
 deriving DecidableEq
inductive Ty where
 | int|bool|list|tuple
 deriving DecidableEq
inductive BI where
 | len|list|listRange|sorted|max|min|all|isinst (t:Ty)
 deriving DecidableEq
inductive LM where
 | append|clear|count|extend|index|remove|reverse|setdefault
 deriving DecidableEq
inductive O where
 | list (xs:List V)|tuple (xs:List V)|dict (es:List (Int×V))|inst (c:Qn) (d:Nat)|ns (fs:List (C2×V))
noncomputable abbrev AH:=Nat->Option O
noncomputable def upd(h:AH)(a:Nat)(o:O):AH:=fun b=>if b=a then some o else h b
noncomputable abbrev Ak:=List (Option V)
set_option genCtorIdx false in
inductive X where
 | omit
 | cnone|cbool (b:Bool)|cint (i:Int)
 | var (i:Nat)
 | glob (g:Str)
 | not (e:X)|neg (e:X)
 | and (l r:X)|or (l r:X)
 | bin (op:Operator) (l r:X)
 | cmp (op:CmpOp) (l r:X)
 | chain (l:X) (op1:CmpOp) (m:X) (op2:CmpOp) (r:X)
 | call (f:Str) (args:List X)
 | mk (c:Qn) (args:List X)
 | meth (m:Str) (o:X) (args:List X)
 | bi (b:BI) (args:List X)
 | lm (m:LM) (o:X) (args:List X)
 | attr (o:X) (a:C2)
 | sub (o i:X)
 | slice (o l u s:X)
 | list (es:List X)|tuple (es:List X)|dict (ks vs:List X)
 | range (args:List X)|enum (e:X)|rev (e:X)|val (e:X)
 | comp (k:Nat) (src elt:X)
 | compIf (k:Nat) (src cond elt:X)
set_option genCtorIdx false in
inductive Rw where
 | one (i:Nat)|two (i j:Nat)
set_option genCtorIdx false in
inductive S where
 | assign (i:Nat) (e:X)
 | setattr (o:X) (a:C2) (e:X)
 | setitem (o i e:X)
 | expr (e:X)
 | ite (t:X) (a b:List S)
 | for (t:Rw) (src:X) (body:List S)
 | while (t:X) (body:List S)
 | ret (e:X)
 | pass
 | raise
set_option genCtorIdx false in
structure Fn where
 slots:Nat
 arity:Nat
 body:List S
set_option genCtorIdx false in
structure A2 where
 fn:Str->Option Fn
 const:Str->Option V
noncomputable abbrev Ag:=V->AH->Prop
noncomputable abbrev EP:=V->AH->Prop
noncomputable abbrev EF:EP:=fun _ _=>False
noncomputable abbrev CS:=Str->List V->AH->Ag->EP->Prop
noncomputable def Bp:Nat:=1048576
noncomputable def Au(o:O)(H:AH)(Q:Ag):Prop:=∀a,H a=none->Q (.ref a) (upd H a o)
noncomputable def A1(v:V)(P:Nat->Prop):Prop:=match v with | .ref a=>P a|_=>False
noncomputable def Ar(v:V)(P:Int->Prop):Prop:=match v with | .int i=>P i|_=>False
noncomputable def Gh(o:Option O)(P:List V->Prop):Prop:=match o with|some (.list xs)=>P xs|_=>False
noncomputable def Tx(o:Option O)(P:List (Int×V)->Prop):Prop:=match o with|some (.dict es)=>P es|_=>False
noncomputable def Ng(o:Option O)(P:Qn->Nat->Prop):Prop:=match o with|some (.inst c d)=>P c d|_=>False
noncomputable def Vi(o:Option O)(P:Nat->Prop):Prop:=match o with|some (.inst .web d)=>P d|_=>False
noncomputable def Rx(o:Option O)(P:List (C2×V)->Prop):Prop:=match o with|some (.ns fs)=>P fs|_=>False
noncomputable def Ff{α:Type}(o:Option α)(P:α->Prop):Prop:=match o with|some x=>P x|none=>False
noncomputable def Ry(vs:List V)(P:Prop):Prop:=match vs with | []=>P|_=>False
noncomputable def M4(vs:List V)(P:V->Prop):Prop:=match vs with | [v]=>P v|_=>False
noncomputable def Rr(vs:List V)(P:V->V->Prop):Prop:=match vs with | [v,w]=>P v w|_=>False
noncomputable def ints? :List V->Option (List Int)
 | []=>some []
 | .int i::r=>(ints? r).map (i :: ·)
 | _=>none
noncomputable def bools? :List V->Option (List Bool)
 | []=>some []
 | .bool b::r=>(bools? r).map (b :: ·)
 | _=>none
noncomputable def Mx(x:Int):List Int->List Int
 | []=>[x]
 | y::r=>if x<=y then x::y::r else y::Mx x r
noncomputable def Bu:List Int->List Int
 | []=>[]
 | x::r=>Mx x (Bu r)
noncomputable def C0(k:Int)(n:Nat):Option Nat:=
 if 0<=k then(if k<n then some k.toNat else none)else(if 0<=k+n then some (k+n).toNat else none)
noncomputable def Fi(k:Int)(n:Nat):Nat:=if k<0 then(k+n).toNat else min k.toNat n
noncomputable def dget(es:List (Int×V))(k:Int):Option V:=es.lookup k
noncomputable def Cc(es:List (Int×V))(k:Int)(v:V):List (Int×V):=
 match es with
 | []=>[(k,v)]
 | (k',v')::r=>if k=k' then(k,v)::r else(k',v')::Cc r k v
noncomputable def Jc(fs:List (C2×V))(a:C2):Option V:=fs.lookup a
noncomputable def H0(fs:List (C2×V))(k:C2)(v:V):List (C2×V):=
 match fs with
 | []=>[(k,v)]
 | (k',v')::r=>if k=k' then(k,v)::r else(k',v')::H0 r k v
noncomputable def W2:V->V->Option Bool
 | .int i,.int j=>some (decide (i=j))
 | .bool a,.bool b=>some (a==b)
 | .none,.none=>some true
 | .none,.int _=>some false
 | .int _,.none=>some false
 | .none,.bool _=>some false
 | .bool _,.none=>some false
 | _,_=>none
noncomputable def Fg:List (Option Bool)->Option Bool
 | []=>some true
 | none::_=>none
 | some r::t=>(Fg t).map (r && ·)
noncomputable def T2:List (Option Bool)->Option Bool
 | []=>some false
 | none::_=>none
 | some r::t=>(T2 t).map (r || ·)
noncomputable def Hx:Nat->AH->V->V->Option Bool
 | 0,_,a,b=>W2 a b
 | n+1,H,a,b=>match a,b with
   | .ref x,.ref y=>(match H x,H y with
     | some (.list xs),some (.list ys)=>if xs.length=ys.length then Fg (List.zipWith (Hx n H) xs ys)else some false
     | some (.tuple xs),some (.tuple ys)=>if xs.length=ys.length then Fg (List.zipWith (Hx n H) xs ys)else none
     | _,_=>none)
   | .ref x,.none=>(match H x with|some (.list _)=>some false|some (.tuple _)=>some false|_=>none)
   | .none,.ref x=>(match H x with|some (.list _)=>some false|some (.tuple _)=>some false|_=>none)
   | a,b=>W2 a b
noncomputable def T3(v:V)(xs:List V):Option Bool:=T2 (xs.map fun x=>W2 x v)
noncomputable def C7:Nat:=5
noncomputable def Ahe(a b:V)(H:AH)(Q:Ag):Prop:=Ar a fun i=>Ar b fun j=>Q (.bool (decide (i<j))) H
noncomputable def Ahf(a b:V)(H:AH)(Q:Ag):Prop:=Ar a fun i=>Ar b fun j=>Q (.bool (decide (i<=j))) H
noncomputable def Ahg(a b:V)(H:AH)(Q:Ag):Prop:=Ar a fun i=>Ar b fun j=>Q (.bool (decide (j<i))) H
noncomputable def Ahh(a b:V)(H:AH)(Q:Ag):Prop:=Ar a fun i=>Ar b fun j=>Q (.bool (decide (j<=i))) H
noncomputable def isB:V->V->Option Bool
 | .none,.none=>some true
 | .bool x,.bool y=>some (x==y)
 | .ref _,.none=>some false
 | .int _,.none=>some false
 | .bool _,.none=>some false
 | _,_=>none
noncomputable def Ahi(a b:V)(H:AH)(Q:Ag):Prop:=Ff (isB a b) fun r=>Q (.bool r) H
noncomputable def Aez(a b:V)(H:AH)(Q:Ag):Prop:=Ff (isB a b) fun r=>Q (.bool (!r)) H
noncomputable def Nh(v b:V)(H:AH)(Q:Ag):Prop:=match b with
 | .ref a=>(match H a with
   | some (.list xs)=>Ff (T3 v xs) fun r=>Q (.bool r) H
   | some (.tuple xs)=>Ff (T3 v xs) fun r=>Q (.bool r) H
   | some (.dict es)=>Ar v fun k=>Q (.bool (dget es k).isSome) H
   | _=>False)
 | _=>False
noncomputable def Bd(op:CmpOp)(a b:V)(H:AH)(Q:Ag):Prop:=
 match op with
 | .Lt=>Ahe a b H Q
 | .LtE=>Ahf a b H Q
 | .Gt=>Ahg a b H Q
 | .GtE=>Ahh a b H Q
 | .Eq=>Ff (Hx C7 H a b) fun r=>Q (.bool r) H
 | .NotEq=>Ff (Hx C7 H a b) fun r=>Q (.bool (!r)) H
 | .Is=>Ahi a b H Q
 | .IsNot=>Aez a b H Q
 | .In=>Nh a b H Q
 | .NotIn=>Nh a b H (fun v H=>match v with | .bool r=>Q (.bool (!r)) H|_=>False)
noncomputable def Vj(a b:V)(H:AH)(Q:Ag):Prop:=match a with
 | .int i=>Ar b fun j=>Q (.int (i+j)) H
 | .ref a=>A1 b fun b=>Gh (H a) fun xs=>Gh (H b) fun ys=>xs.length+ys.length<=Bp/\Au (.list (xs++ys)) H Q
 | _=>False
noncomputable def Vk(a b:V)(H:AH)(Q:Ag):Prop:=Ar b fun k=>match a with
 | .int i=>(i.natAbs<2 ^ 64\/k.natAbs<2 ^ 64)/\Q (.int (i*k)) H
 | .ref a=>Gh (H a) fun xs=>(0<=k/\k<=1000/\xs.length*k.toNat<=Bp)/\Au (.list (List.replicate k.toNat xs).flatten) H Q
 | _=>False
noncomputable def Yw(a b:V)(H:AH)(Q:Ag):Prop:=Ar a fun i=>Ar b fun j=>Q (.int (i-j)) H
noncomputable def Yx(a b:V)(H:AH)(Q:Ag):Prop:=Ar a fun i=>Ar b fun j=>(j≠0/\j.natAbs<=10 ^ 30)/\Q (.int (i.fdiv j)) H
noncomputable def Yy(a b:V)(H:AH)(Q:Ag):Prop:=Ar a fun i=>Ar b fun j=>(j≠0/\j.natAbs<=10 ^ 30)/\Q (.int (i.fmod j)) H
noncomputable def Ae0(a b:V)(H:AH)(Q:Ag):Prop:=Ar a fun i=>Ar b fun j=>(0<=j/\j<=1000/\i.natAbs<2 ^ 64)/\Q (.int (i ^ j.toNat)) H
noncomputable def Ek(op:Operator)(a b:V)(H:AH)(Q:Ag):Prop:=
 match op with
 | .Add=>Vj a b H Q
 | .Sub=>Yw a b H Q
 | .Mult=>Vk a b H Q
 | .FloorDiv=>Yx a b H Q
 | .Mod=>Yy a b H Q
 | .Pow=>Ae0 a b H Q
 | _=>False
noncomputable def C3(o i:V)(H:AH)(Q:Ag):Prop:=Ar i fun k=>match o with
 | .ref a=>(match H a with
   | some (.list xs)=>Ff (C0 k xs.length) fun j=>Ff xs[j]? fun v=>Q v H
   | some (.tuple xs)=>Ff (C0 k xs.length) fun j=>Ff xs[j]? fun v=>Q v H
   | some (.dict es)=>Ff (dget es k) fun v=>Q v H
   | _=>False)
 | .script ns=>Ff (C0 k ns.length) fun j=>Ff ns[j]? fun i=>Q (.int i) H
 | _=>False
noncomputable def bound? :V->Option (Option Int)
 | .none=>some none
 | .int k=>some (some k)
 | _=>none
noncomputable def cut{α:Type}(xs:List α)(l u:Option Int):List α:=
 ((xs.take (match u with|some k=>Fi k xs.length|none=>xs.length)).drop (match l with|some k=>Fi k xs.length|none=>0))
noncomputable def Yz(xs:List V)(l' u':Option Int)(s:V)(H:AH)(Q:Ag):Prop:=match s with
 | .none=>Au (.list (cut xs l' u')) H Q
 | .int k=>l'=none/\k = -1/\(match u' with
   | none=>Au (.list xs.reverse) H Q
   | some j=>j=0/\Au (.list (xs.drop 1).reverse) H Q)
 | _=>False
noncomputable def Qo(a:Nat)(l u s:V)(H:AH)(Q:Ag):Prop:=Ff (bound? l) fun l'=>Ff (bound? u) fun u'=>Gh (H a) fun xs=>Yz xs l' u' s H Q
noncomputable def C8(o l u s:V)(H:AH)(Q:Ag):Prop:=match o with
 | .ref a=>Qo a l u s H Q
 | _=>False
noncomputable def I5(o:O)(t:Ty):Option Bool:=match o with
 | .list _=>(match t with | .list=>some true|_=>some false)
 | .tuple _=>(match t with | .tuple=>some true|_=>some false)
 | .dict _=>none
 | .inst _ _=>none
 | .ns _=>none
noncomputable def Jz(t:Ty)(v:V)(H:AH):Option Bool:=
 match v with
 | .ref a=>(match H a with|some o=>I5 o t|none=>none)
 | .int _=>(match t with | .int=>some true|_=>some false)
 | .bool _=>(match t with | .int=>some true | .bool=>some true|_=>some false)
 | .none=>some false
 | .script _=>none
noncomputable def Fj(_:Ty):Bool:=true
noncomputable def L1(args:List V)(H:AH)(Q:Ag):Prop:=M4 args fun v=>match v with
 | .script ns=>Q (.int ns.length) H
 | .ref a=>(match H a with
   | some (.list xs)=>Q (.int xs.length) H
   | some (.tuple xs)=>Q (.int xs.length) H
   | some (.dict es)=>Q (.int es.length) H
   | _=>False)
 | _=>False
noncomputable def H5(args:List V)(H:AH)(Q:Ag):Prop:=M4 args fun v=>A1 v fun a=>match H a with
 | some (.list xs)=>Au (.list xs) H Q
 | some (.tuple xs)=>Au (.list xs) H Q
 | _=>False
noncomputable def Ahj(args:List V)(H:AH)(Q:Ag):Prop:=match args with
 | [v]=>Ar v fun n=>(-Bp<=n/\n<=Bp)/\Au (.list ((List.range n.toNat).map fun(i:Nat)=>V.int i)) H Q
 | [v,w]=>Ar v fun m=>Ar w fun n=>(0<=m/\m<=Bp/\ -Bp<=n/\n<=Bp)/\Au (.list ((List.range (n-m).toNat).map fun(i:Nat)=>V.int (m+i))) H Q
 | _=>False
noncomputable def Vl(xs:List V)(H:AH)(Q:Ag):Prop:=∃(ks:List Nat) (r:Nat->Nat),xs=ks.map V.ref/\(∀a∈ks,∃(i j:Nat),H a=some (.tuple [.int i,.int j])/\j<100/\r a=100*i+j)/\(ks.map r).Nodup/\
 ∀ks':List Nat,ks'.Perm ks->ks'.Pairwise (fun x y=>r x<r y)->Au (.list (ks'.map V.ref)) H Q
noncomputable def G1(args:List V)(H:AH)(Q:Ag):Prop:=M4 args fun v=>A1 v fun a=>match H a with
 | some (.list xs)=>(match ints? xs with|some ns=>ns.length<64/\Au (.list ((Bu ns).map V.int)) H Q|none=>Vl xs H Q)
 | some (.dict es)=>es.length<64/\Au (.list ((Bu (es.map (·.1))).map V.int)) H Q
 | _=>False
noncomputable def Ae1(args:List V)(H:AH)(Q:Ag):Prop:=Rr args fun v w=>Ar v fun i=>Ar w fun j=>Q (.int (max i j)) H
noncomputable def Ae2(args:List V)(H:AH)(Q:Ag):Prop:=Rr args fun v w=>Ar v fun i=>Ar w fun j=>Q (.int (min i j)) H
noncomputable def L3(args:List V)(H:AH)(Q:Ag):Prop:=M4 args fun v=>A1 v fun a=>Gh (H a) fun xs=>Ff (bools? xs) fun bs=>Q (.bool (bs.all id)) H
noncomputable def Ajm(t:Ty)(args:List V)(H:AH)(Q:Ag):Prop:=match args with
 | [v]=>Fj t=true/\(match Jz t v H with|some r=>Q (.bool r) H|none=>False)
 | _=>False
noncomputable def Db(b:BI)(args:List V)(H:AH)(Q:Ag):Prop:=
 match b with
 | .len=>L1 args H Q
 | .list=>H5 args H Q
 | .listRange=>Ahj args H Q
 | .sorted=>G1 args H Q
 | .max=>Ae1 args H Q
 | .min=>Ae2 args H Q
 | .all=>L3 args H Q
 | .isinst t=>Ajm t args H Q
noncomputable def Dx(o:V)(args:List V)(H:AH)(Q:Ag):Prop:=A1 o fun a=>M4 args fun v=>Gh (H a) fun xs=>xs.length<Bp/\Q .none (upd H a (.list (xs ++ [v])))
noncomputable def F3(o:V)(args:List V)(H:AH)(Q:Ag):Prop:=A1 o fun a=>Ry args (Gh (H a) fun _=>Q .none (upd H a (.list [])))
noncomputable def Dy(o:V)(args:List V)(H:AH)(Q:Ag):Prop:=A1 o fun a=>M4 args fun v=>A1 v fun b=>Gh (H a) fun xs=>Gh (H b) fun ys=>(a≠b/\xs.length+ys.length<=Bp)/\Q .none (upd H a (.list (xs++ys)))
noncomputable def C4(o:V)(args:List V)(H:AH)(Q:Ag):Prop:=A1 o fun a=>Ry args (Gh (H a) fun xs=>Q .none (upd H a (.list xs.reverse)))
noncomputable def F4(o:V)(args:List V)(H:AH)(Q:Ag):Prop:=A1 o fun a=>M4 args fun v=>Gh (H a) fun xs=>match v with
 | .int k=>Ff (ints? xs) fun ns=>k∈ns/\Q (.int (ns.idxOf k)) H
 | _=>False
noncomputable def Dz(o:V)(args:List V)(H:AH)(Q:Ag):Prop:=A1 o fun a=>M4 args fun v=>Ar v fun k=>Gh (H a) fun xs=>Ff (ints? xs) fun ns=>k∈ns/\Q .none (upd H a (.list ((ns.erase k).map V.int)))
noncomputable def Bt(o:V)(args:List V)(H:AH)(Q:Ag):Prop:=A1 o fun a=>Rr args fun i v=>Ar i fun k=>Tx (H a) fun es=>match dget es k with
 | some w=>Q w H
 | none=>es.length<Bp/\Q v (upd H a (.dict (Cc es k v)))
noncomputable def E0(m:LM)(o:V)(args:List V)(H:AH)(Q:Ag):Prop:=
 match m with
 | .append=>Dx o args H Q
 | .clear=>F3 o args H Q
 | .count=>False
 | .extend=>Dy o args H Q
 | .index=>F4 o args H Q
 | .remove=>Dz o args H Q
 | .reverse=>C4 o args H Q
 | .setdefault=>Bt o args H Q
noncomputable def lmL:LM->Prop
 | .setdefault=>False
 | _=>True
noncomputable def F5(m:LM)(o:V)(H:AH):Prop:=match o with
 | .ref a=>(match H a with
   | some (.list _)=>lmL m
   | some (.dict _)=>m = .setdefault
   | _=>False)
 | _=>False
noncomputable def setAttr(o:V)(t:C2)(v:V)(H:AH)(N:AH->Prop):Prop:=A1 o fun a=>Ng (H a) fun _ d=>Rx (H d) fun fs=>fs.length<10/\N (upd H d (.ns (H0 fs t v)))
noncomputable def getAttr(o:V)(t:C2)(H:AH)(Q:Ag):Prop:=A1 o fun a=>Ng (H a) fun _ d=>Rx (H d) fun fs=>Ff (Jc fs t) fun v=>Q v H
noncomputable def setItem(o i v:V)(H:AH)(N:AH->Prop):Prop:=A1 o fun a=>Ar i fun k=>match H a with
 | some (.list xs)=>Ff (C0 k xs.length) fun j=>N (upd H a (.list (xs.set j v)))
 | some (.dict es)=>es.length<Bp/\N (upd H a (.dict (Cc es k v)))
 | _=>False
set_option genCtorIdx false in
inductive It where
 | v (x:V)|pair (a b:V)
noncomputable def Gi(v:V)(H:AH)(K:List It->(AH->Prop)->AH->Prop):Prop:=match v with
 | .ref a=>(match H a with
   | some (.list xs)=>K (xs.map .v) (fun H'=>H' a=some (.list xs)) H
   | some (.tuple xs)=>K (xs.map .v) (fun H'=>H' a=some (.tuple xs)) H
   | some (.dict es)=>K (es.map fun e=> .v (.int e.1)) (fun _=>True) (fun b=>if b=a then none else H b)
   | _=>False)
 | _=>False
noncomputable def Lk(v:V)(H:AH)(K:List It->(AH->Prop)->AH->Prop):Prop:=A1 v fun a=>Gh (H a) fun xs=>K (xs.mapIdx fun i x=> .pair (.int i) x) (fun H'=>H' a=some (.list xs)) H
noncomputable def Pp(v:V)(H:AH)(K:List It->(AH->Prop)->AH->Prop):Prop:=A1 v fun a=>Gh (H a) fun xs=>K (xs.reverse.map .v) (fun H'=>H' a=some (.list xs)) H
noncomputable def Fk(vs:List V)(H:AH)(K:List It->(AH->Prop)->AH->Prop):Prop:=
 match vs with
 | [v]=>Ar v fun n=>(-Bp<=n/\n<=Bp)/\K ((List.range n.toNat).map fun(i:Nat)=> .v (.int i)) (fun _=>True) H
 | [v,w]=>Ar v fun m=>Ar w fun n=>(0<=m/\m<=Bp/\ -Bp<=n/\n<=Bp)/\K ((List.range (n-m).toNat).map fun(i:Nat)=> .v (.int (m+i))) (fun _=>True) H
 | _=>False
noncomputable def Kb(t:Rw)(i:It)(ρ:Ak)(H:AH)(N:Ak->Prop):Prop:=
 match t,i with
 | .one k,.v x=>N (ρ.set k (some x))
 | .two k l,.pair a b=>N ((ρ.set k (some a)).set l (some b))
 | .two k l,.v (.ref a)=>(match H a with
   | some (.tuple [x,y])=>N ((ρ.set k (some x)).set l (some y))
   | _=>False)
 | _,_=>False
noncomputable def Cv(g:AH->Prop)(t:Rw)(body:Ak->AH->(Ak->AH->Prop)->Prop)(N:Ak->AH->Prop):List It->Ak->AH->Prop
 | [],ρ,H=>g H/\N ρ H
 | i::r,ρ,H=>g H/\Kb t i ρ H fun ρ'=>body ρ' H fun ρ'' H''=>Cv g t body N r ρ'' H''
noncomputable def Bn(g:AH->Prop)(t:Rw)(elt:Ak->AH->(Option V->AH->Prop)->Prop)(Q:List V->AH->Prop):List It->List V->Ak->AH->Prop
 | [],acc,_,H=>g H/\Q acc H
 | i::r,acc,ρ,H=>g H/\Kb t i ρ H fun ρ'=>elt ρ' H fun o H''=>Bn g t elt Q r (match o with|some v=>acc ++ [v]|none=>acc) ρ' H''
noncomputable def truthy(v:V)(Q:Bool->Prop):Prop:=match v with | .bool b=>Q b|_=>False
noncomputable def Dr:Qn->Str
 | .web=> "Web.__init__"
 | _=> "Verdict.__init__"
noncomputable def Dc(k:Nat):Rw:=if k=1 then .one 0 else .two 0 1
mutual
noncomputable def Aw(G:A2)(C:CS):X->Ak->AH->Ag->EP->Prop
 | .omit,_,H,Q,_=>Q .none H
 | .cnone,_,H,Q,_=>Q .none H
 | .cbool b,_,H,Q,_=>Q (.bool b) H
 | .cint i,_,H,Q,_=>Q (.int i) H
 | .var i,ρ,H,Q,_=>(match ρ[i]? with|some (some v)=>Q v H|_=>False)
 | .glob g,_,H,Q,_=>(match G.const g with|some v=>Q v H|none=>False)
 | .not e,ρ,H,Q,E=>Aw G C e ρ H (fun v H=>truthy v fun b=>Q (.bool (!b)) H) E
 | .neg e,ρ,H,Q,E=>Aw G C e ρ H (fun v H=>match v with | .int i=>Q (.int (-i)) H|_=>False) E
 | .and l r,ρ,H,Q,E=>Aw G C l ρ H (fun v H=>truthy v fun b=>if b then Aw G C r ρ H Q E else Q (.bool false) H) E
 | .or l r,ρ,H,Q,E=>Aw G C l ρ H (fun v H=>truthy v fun b=>if b then Q (.bool true) H else Aw G C r ρ H Q E) E
 | .bin op l r,ρ,H,Q,E=>Aw G C l ρ H (fun a H=>Aw G C r ρ H (fun b H=>Ek op a b H Q) E) E
 | .cmp op l r,ρ,H,Q,E=>Aw G C l ρ H (fun a H=>Aw G C r ρ H (fun b H=>Bd op a b H Q) E) E
 | .chain l o1 m o2 r,ρ,H,Q,E=>Aw G C l ρ H (fun a H=>Aw G C m ρ H (fun b H=>Bd o1 a b H fun c H=>truthy c fun t=>
    if t then Aw G C r ρ H (fun d H=>Bd o2 b d H Q) E else Q (.bool false) H) E) E
 | .call f args,ρ,H,Q,E=>(G.fn f).isSome=true/\Cw G C args ρ H (fun vs H=>C f vs H Q E) E
 | .mk c args,ρ,H,Q,E=>(G.fn (Dr c)).isSome=true/\Cw G C args ρ H (fun vs H=>∀a d,H a=none->H d=none->a≠d->
    C (Dr c) (.ref a::vs) (upd (upd H d (.ns [])) a (.inst c d)) (fun r H'=>r = .none/\Q (.ref a) H') E) E
 | .meth m o args,ρ,H,Q,E=>Aw G C o ρ H (fun v H=>A1 v fun a=>Vi (H a) fun d=>Rx (H d) fun _=>(G.fn m).isSome=true/\Cw G C args ρ H (fun vs H=>C m (.ref a::vs) H Q E) E) E
 | .bi b args,ρ,H,Q,E=>Cw G C args ρ H (fun vs H=>Db b vs H Q) E
 | .lm m o args,ρ,H,Q,E=>Aw G C o ρ H (fun v H=>F5 m v H/\Cw G C args ρ H (fun vs H=>E0 m v vs H Q) E) E
 | .attr o a,ρ,H,Q,E=>Aw G C o ρ H (fun v H=>getAttr v a H Q) E
 | .sub o i,ρ,H,Q,E=>Aw G C o ρ H (fun a H=>Aw G C i ρ H (fun b H=>C3 a b H Q) E) E
 | .slice o l u s,ρ,H,Q,E=>Aw G C o ρ H (fun a H=>Aw G C l ρ H (fun x H=>Aw G C u ρ H (fun y H=>Aw G C s ρ H (fun z H=>C8 a x y z H Q) E) E) E) E
 | .list es,ρ,H,Q,E=>Cw G C es ρ H (fun vs H=>Au (.list vs) H Q) E
 | .tuple es,ρ,H,Q,E=>Cw G C es ρ H (fun vs H=>Au (.tuple vs) H Q) E
 | .dict ks vs,ρ,H,Q,E=>Cw G C ks ρ H (fun as H=>Cw G C vs ρ H (fun bs H=>match as,bs with
    | [],[]=>Au (.dict []) H Q
    | [.int k],[v]=>Au (.dict [(k,v)]) H Q
    | _,_=>False) E) E
 | .range _,_,_,_,_=>False
 | .enum _,_,_,_,_=>False
 | .rev _,_,_,_,_=>False
 | .val _,_,_,_,_=>False
 | .comp k src elt,ρ,H,Q,E=>Dq G C src ρ H (fun its g H=>its.length<=Bp/\
    Bn g (Dc k) (fun ρ H K=>Aw G C elt ρ H (fun v H=>K (some v) H) EF) (fun vs H=>Au (.list vs) H Q) its [] (List.replicate k none++ρ) H) E
 | .compIf k src cond elt,ρ,H,Q,E=>Dq G C src ρ H (fun its g H=>its.length<=Bp/\
    Bn g (Dc k) (fun ρ H K=>Aw G C cond ρ H (fun c H=>truthy c fun b=>if b then Aw G C elt ρ H (fun v H=>K (some v) H) EF else K none H) EF)
     (fun vs H=>Au (.list vs) H Q) its [] (List.replicate k none++ρ) H) E
noncomputable def Cw(G:A2)(C:CS):List X->Ak->AH->(List V->AH->Prop)->EP->Prop
 | [],_,H,Q,_=>Q [] H
 | e::r,ρ,H,Q,E=>Aw G C e ρ H (fun v H=>Cw G C r ρ H (fun vs H=>Q (v::vs) H) E) E
noncomputable def Dq(G:A2)(C:CS):X->Ak->AH->(List It->(AH->Prop)->AH->Prop)->EP->Prop
 | .range args,ρ,H,K,E=>Cw G C args ρ H (fun vs H=>Fk vs H K) E
 | .enum e,ρ,H,K,E=>Aw G C e ρ H (fun v H=>Lk v H K) E
 | .rev e,ρ,H,K,E=>Aw G C e ρ H (fun v H=>Pp v H K) E
 | .val e,ρ,H,K,E=>Aw G C e ρ H (fun v H=>Gi v H K) E
 | _,_,_,_,_=>False
end
mutual
noncomputable def wpS(G:A2)(C:CS):S->Ak->AH->(Ak->AH->Prop)->Ag->EP->Prop
 | .assign i e,ρ,H,N,_,E=>Aw G C e ρ H (fun v H=>N (ρ.set i (some v)) H) E
 | .setattr o a e,ρ,H,N,_,E=>Aw G C e ρ H (fun v H=>Aw G C o ρ H (fun ov H=>setAttr ov a v H fun H=>N ρ H) E) E
 | .setitem o i e,ρ,H,N,_,E=>Aw G C e ρ H (fun v H=>Aw G C o ρ H (fun ov H=>Aw G C i ρ H (fun iv H=>setItem ov iv v H fun H=>N ρ H) E) E) E
 | .expr e,ρ,H,N,_,E=>Aw G C e ρ H (fun _ H=>N ρ H) E
 | .ite t a b,ρ,H,N,R,E=>Aw G C t ρ H (fun v H=>truthy v fun c=>if c then Bh G C a ρ H N R E else Bh G C b ρ H N R E) E
 | .for t src body,ρ,H,N,R,E=>Dq G C src ρ H (fun its g H=>Cv g t (fun ρ H K=>Bh G C body ρ H K R E) N its ρ H) E
 | .while t body,ρ,H,N,R,E=>∃I:Nat->Ak->AH->Prop,(∃n,I n ρ H)/\∀n ρ H,I n ρ H->
    Aw G C t ρ H (fun v H=>truthy v fun c=>if c then Bh G C body ρ H (fun ρ H=>∃m,m<n/\I m ρ H) R E else N ρ H) E
 | .ret e,ρ,H,_,R,E=>Aw G C e ρ H R E
 | .pass,ρ,H,N,_,_=>N ρ H
 | .raise,_,_,_,_,_=>False
noncomputable def Bh(G:A2)(C:CS):List S->Ak->AH->(Ak->AH->Prop)->Ag->EP->Prop
 | [],ρ,H,N,_,_=>N ρ H
 | s::r,ρ,H,N,R,E=>wpS G C s ρ H (fun ρ H=>Bh G C r ρ H N R E) R E
end
noncomputable def Ae(G:A2):Nat->CS
 | 0=>fun _ _ _ _ _=>False
 | n+1=>fun f args H Q E=>match G.fn f with
   | some d=>d.arity=args.length/\Bh G (Ae G n) d.body (args.map some++List.replicate (d.slots-d.arity) none) H (fun _ H=>Q .none H) Q E
   | none=>False
section
variable {G:A2} {n:Nat} {H:AH} {Q:Ag} {E:EP} {C:CS} {ρ:Ak} {N:Ak->AH->Prop} {R:Ag}
/-! the running of the abstract machine,as rules -/
theorem Zb:Aw G C .cnone ρ H Q E=Q .none H:=rfl
theorem Zc:Aw G C .omit ρ H Q E=Q .none H:=rfl
theorem Zd{b}:Aw G C (.cbool b) ρ H Q E=Q (.bool b) H:=rfl
theorem Ze{i}:Aw G C (.cint i) ρ H Q E=Q (.int i) H:=rfl
theorem Zf{i}:Aw G C (.var i) ρ H Q E=(match ρ[i]? with|some (some v)=>Q v H|_=>False):=rfl
theorem Zg{e}:Aw G C (.not e) ρ H Q E=Aw G C e ρ H (fun v H=>truthy v fun b=>Q (.bool (!b)) H) E:=rfl
theorem Zh{e}:Aw G C (.neg e) ρ H Q E=Aw G C e ρ H (fun v H=>match v with | .int i=>Q (.int (-i)) H|_=>False) E:=rfl
theorem Zi{l r}:Aw G C (.and l r) ρ H Q E=Aw G C l ρ H (fun v H=>truthy v fun b=>if b then Aw G C r ρ H Q E else Q (.bool false) H) E:=rfl
theorem Zj{l r}:Aw G C (.or l r) ρ H Q E=Aw G C l ρ H (fun v H=>truthy v fun b=>if b then Q (.bool true) H else Aw G C r ρ H Q E) E:=rfl
theorem Zk{op l r}:Aw G C (.bin op l r) ρ H Q E=Aw G C l ρ H (fun a H=>Aw G C r ρ H (fun b H=>Ek op a b H Q) E) E:=rfl
theorem Zl{op l r}:Aw G C (.cmp op l r) ρ H Q E=Aw G C l ρ H (fun a H=>Aw G C r ρ H (fun b H=>Bd op a b H Q) E) E:=rfl
theorem Zm{l o1 m o2 r}:Aw G C (.chain l o1 m o2 r) ρ H Q E=Aw G C l ρ H (fun a H=>Aw G C m ρ H (fun b H=>Bd o1 a b H fun c H=>truthy c fun t=>
 if t then Aw G C r ρ H (fun d H=>Bd o2 b d H Q) E else Q (.bool false) H) E) E:=rfl
theorem Zn{f as}:Aw G C (.call f as) ρ H Q E=((G.fn f).isSome=true/\Cw G C as ρ H (fun vs H=>C f vs H Q E) E):=rfl
theorem Zo{b as}:Aw G C (.bi b as) ρ H Q E=Cw G C as ρ H (fun vs H=>Db b vs H Q) E:=rfl
theorem Bo{m o as}:Aw G C (.lm m o as) ρ H Q E=Aw G C o ρ H (fun v H=>F5 m v H/\Cw G C as ρ H (fun vs H=>E0 m v vs H Q) E) E:=rfl
theorem Zp{o a}:Aw G C (.attr o a) ρ H Q E=Aw G C o ρ H (fun v H=>getAttr v a H Q) E:=rfl
theorem Zq{o i}:Aw G C (.sub o i) ρ H Q E=Aw G C o ρ H (fun a H=>Aw G C i ρ H (fun b H=>C3 a b H Q) E) E:=rfl
theorem Zr{o l u s}:Aw G C (.slice o l u s) ρ H Q E=Aw G C o ρ H (fun a H=>Aw G C l ρ H (fun x H=>Aw G C u ρ H (fun y H=>Aw G C s ρ H (fun z H=>C8 a x y z H Q) E) E) E) E:=rfl
theorem Zs{es}:Aw G C (.list es) ρ H Q E=Cw G C es ρ H (fun vs H=>Au (.list vs) H Q) E:=rfl
theorem Zt{es}:Aw G C (.tuple es) ρ H Q E=Cw G C es ρ H (fun vs H=>Au (.tuple vs) H Q) E:=rfl
theorem Acl:Aw G C (.dict [] []) ρ H Q E=Au (.dict []) H Q:=rfl
theorem Co{a:Nat}{P:Nat->Prop}:A1 (.ref a) P=P a:=rfl
theorem Cp{d:Nat}{P:Nat->Prop}:Vi (some (.inst .web d)) P=P d:=rfl
theorem D4{fs:List (C2×V)}{P:List (C2×V)->Prop}:Rx (some (.ns fs)) P=P fs:=rfl
theorem Ax{m o as}:Aw G C (.meth m o as) ρ H Q E=Aw G C o ρ H (fun v H=>A1 v fun a=>Vi (H a) fun d=>Rx (H d) fun _=>(G.fn m).isSome=true/\Cw G C as ρ H (fun vs H=>C m (.ref a::vs) H Q E) E) E:=rfl
theorem Dg{c as}:Aw G C (.mk c as) ρ H Q E=((G.fn (Dr c)).isSome=true/\Cw G C as ρ H (fun vs H=>∀a d,H a=none->H d=none->a≠d->
 C (Dr c) (.ref a::vs) (upd (upd H d (.ns [])) a (.inst c d)) (fun r H'=>r = .none/\Q (.ref a) H') E) E):=rfl
theorem Be{k s e}:Aw G C (.comp k s e) ρ H Q E=Dq G C s ρ H (fun its g H=>its.length<=Bp/\
 Bn g (Dc k) (fun ρ H K=>Aw G C e ρ H (fun v H=>K (some v) H) EF) (fun vs H=>Au (.list vs) H Q) its [] (List.replicate k none++ρ) H) E:=rfl
theorem Ay{k s c e}:Aw G C (.compIf k s c e) ρ H Q E=Dq G C s ρ H (fun its g H=>its.length<=Bp/\
 Bn g (Dc k) (fun ρ H K=>Aw G C c ρ H (fun c H=>truthy c fun b=>if b then Aw G C e ρ H (fun v H=>K (some v) H) EF else K none H) EF)
  (fun vs H=>Au (.list vs) H Q) its [] (List.replicate k none++ρ) H) E:=rfl
theorem Zu{Q:List V->AH->Prop}:Cw G C [] ρ H Q E=Q [] H:=rfl
theorem Zv{e r}{Q:List V->AH->Prop}:Cw G C (e::r) ρ H Q E=Aw G C e ρ H (fun v H=>Cw G C r ρ H (fun vs H=>Q (v::vs) H) E) E:=rfl
theorem M5{as}{K:List It->(AH->Prop)->AH->Prop}:Dq G C (.range as) ρ H K E=Cw G C as ρ H (fun vs H=>Fk vs H K) E:=rfl
theorem Qp{e}{K:List It->(AH->Prop)->AH->Prop}:Dq G C (.enum e) ρ H K E=Aw G C e ρ H (fun v H=>Lk v H K) E:=rfl
theorem Vm{e}{K:List It->(AH->Prop)->AH->Prop}:Dq G C (.rev e) ρ H K E=Aw G C e ρ H (fun v H=>Pp v H K) E:=rfl
theorem Vn{e}{K:List It->(AH->Prop)->AH->Prop}:Dq G C (.val e) ρ H K E=Aw G C e ρ H (fun v H=>Gi v H K) E:=rfl
theorem Zw{i e}:wpS G C (.assign i e) ρ H N R E=Aw G C e ρ H (fun v H=>N (ρ.set i (some v)) H) E:=rfl
theorem Bz{o a e}:wpS G C (.setattr o a e) ρ H N R E=Aw G C e ρ H (fun v H=>Aw G C o ρ H (fun ov H=>setAttr ov a v H fun H=>N ρ H) E) E:=rfl
theorem Bl{o i e}:wpS G C (.setitem o i e) ρ H N R E=Aw G C e ρ H (fun v H=>Aw G C o ρ H (fun ov H=>Aw G C i ρ H (fun iv H=>setItem ov iv v H fun H=>N ρ H) E) E) E:=rfl
theorem Zx{e}:wpS G C (.expr e) ρ H N R E=Aw G C e ρ H (fun _ H=>N ρ H) E:=rfl
theorem Za{t a b}:wpS G C (.ite t a b) ρ H N R E=Aw G C t ρ H (fun v H=>truthy v fun c=>if c then Bh G C a ρ H N R E else Bh G C b ρ H N R E) E:=rfl
theorem Zy{e}:wpS G C (.ret e) ρ H N R E=Aw G C e ρ H R E:=rfl
theorem Zz:wpS G C .pass ρ H N R E=N ρ H:=rfl
theorem Je{t s b}:wpS G C (.for t s b) ρ H N R E=Dq G C s ρ H (fun its g H=>Cv g t (fun ρ H K=>Bh G C b ρ H K R E) N its ρ H) E:=rfl
theorem D0{t b}:wpS G C (.while t b) ρ H N R E = ∃I:Nat->Ak->AH->Prop,(∃n,I n ρ H)/\∀n ρ H,I n ρ H->
 Aw G C t ρ H (fun v H=>truthy v fun c=>if c then Bh G C b ρ H (fun ρ H=>∃m,m<n/\I m ρ H) R E else N ρ H) E:=rfl
theorem Z0:Bh G C [] ρ H N R E=N ρ H:=rfl
theorem Z1{s r}:Bh G C (s::r) ρ H N R E=wpS G C s ρ H (fun ρ H=>Bh G C r ρ H N R E) R E:=rfl
theorem A3{g}:Aw G C (.glob g) ρ H Q E=(match G.const g with|some v=>Q v H|none=>False):=rfl
theorem Bb{ks vs}:Aw G C (.dict ks vs) ρ H Q E=Cw G C ks ρ H (fun as H=>Cw G C vs ρ H (fun bs H=>match as,bs with
 | [],[]=>Au (.dict []) H Q
 | [.int k],[v]=>Au (.dict [(k,v)]) H Q
 | _,_=>False) E) E:=rfl
theorem D1:wpS G C .raise ρ H N R E=False:=rfl
end
end Mine.Internal
namespace Mine.Internal
section
theorem qa2{x:Int}:1+(x-2)<=x:=by omega
theorem qh(n:Nat):n/2<=n-1:=by cases n with|zero=>exact Nat.le_refl _|succ k=>exact Nat.le_of_lt_succ (Nat.div_lt_self (Nat.succ_pos _) (by decide))
theorem qd(d:Nat):d-max 0 d=0:=Nat.sub_eq_zero_of_le (Nat.le_max_right 0 d)
theorem qe{b c f g:Nat}(h:c<=f):b+c+(f-c+g)=b+f+g:=by rw[Nat.add_assoc b c,<-Nat.add_assoc c,Nat.add_sub_cancel' h,Nat.add_assoc]
theorem qf{b c f g:Nat}:b+f+g<=b+c+(f-c+g):=by rw[Nat.add_assoc b c,<-Nat.add_assoc c,Nat.add_assoc b f];exact Nat.add_le_add_left (Nat.add_le_add_right (Nat.sub_le_iff_le_add'.mp (Nat.le_refl _)) g) b
theorem q2{b c:Nat}(h:b<c):(b+c)/2<c:=Nat.div_lt_of_lt_mul (Nat.lt_of_lt_of_eq (Nat.add_lt_add_right h c) (Nat.two_mul c).symm)
theorem q3{a b:Nat}:(a+b)/2-a<=b-a-1:=(Nat.lt_or_ge a b).elim (fun h=>Af (Nat.sub_le_sub_right (Nat.le_sub_one_of_lt (q2 h)) a) (Nat.le_of_eq (Nat.sub_right_comm ..))) fun h=>Af (Nat.le_of_eq (Nat.sub_eq_zero_of_le (Nat.div_le_of_le_mul (Af (Nat.add_le_add_left h a) (Nat.le_of_eq (Nat.two_mul a).symm))))) (Nat.zero_le _)
theorem q4{a b:Nat}:a-((b+a)/2+1)<=a-b-1:=(Nat.le_total b a).elim (fun h=>Nat.sub_le_sub_left (Nat.succ_le_succ ((Nat.le_div_iff_mul_le (by decide)).mpr (Af (Nat.le_of_eq (Nat.mul_two b)) (Nat.add_le_add_left h b)))) a) fun h=>Af (Nat.le_of_eq (Nat.sub_eq_zero_of_le (Nat.le_succ_of_le ((Nat.le_div_iff_mul_le (by decide)).mpr (Af (Nat.le_of_eq (Nat.mul_two a)) (Nat.add_le_add_right h a)))))) (Nat.zero_le _)
theorem q7{a b c d:Nat}(hb:b<100)(h:a<c):100*a+b<100*c+d:=Nat.lt_of_lt_of_le (Nat.add_lt_add_left hb _) (Af (Nat.le_of_eq (Nat.mul_succ 100 a).symm) (Af (Nat.mul_le_mul_left 100 h) (Nat.le_add_right _ _)))
variable {a b c d e f g i j k l m n:Nat} {x y z u v w r s t:Int}
theorem Q0(h0:0<x):0<=x:=Int.le_of_lt h0
theorem Q2(h0:0<x)(h1:x<=10 ^ 30):x.natAbs<=10 ^ 30:=by lia -abstractProof
theorem Q3(h0:x.toNat<a):x<(a:Int):=Int.lt_of_le_of_lt (Int.self_le_toNat x) (Int.ofNat_lt.mpr h0)
theorem Q5:a+(b+1)=a+1+b:=Nat.add_right_comm a b 1
theorem Q6:a+1+b+1=a+(b+1)+1:=congrArg (·+1) (Nat.add_right_comm a 1 b)
theorem Q7(h0:c=0+b)(h1:a≥c)(h2:a-c=0):a=b:=(Nat.le_antisymm (Nat.sub_eq_zero_iff_le.mp h2) h1).trans (h0.trans (Nat.zero_add b))
theorem Q10(h0:0<=x)(h1:x<(a:Int)):x.toNat<a:=(Int.toNat_lt h0).mpr h1
theorem Q15(h0:0<=x):(x.toNat:Int)=x:=Int.toNat_of_nonneg h0
theorem Q19:9+x/72%12<=60:=by lia -abstractProof
theorem Q23(h0:y-z<x)(h1:z-y<x):0<=x:=by lia -abstractProof
theorem Q24(h0:y-z<u)(h1:z-y=u*x)(h2:u*x<=u * -1):x=0:=by lia -abstractProof
theorem Q26(h0:y-z<u)(h1:y-z=u*x)(h2:u*1<=u*x):x=0:=by lia -abstractProof
theorem Q28(h0:0<=y)(h1:z<u):x/2-y-(x/2-z)<u:=by lia -abstractProof
theorem Q29(h0:z<u)(h1:0<=y):x/2-y-(x/2-z)<u:=by lia -abstractProof
theorem Q30(h0:z/2-x=z/2-y):x=y:=by lia -abstractProof
theorem Q31(h0:y<u)(h1:0<=z):x/2+y-(x/2+z)<u:=by lia -abstractProof
theorem W3(h0:a<=60):a<=1048576:=Af h0 (by decide)
theorem Q36(h0:0<=x):max 0 ((a:Int)-x)+(((a:Int)-max 0 ((a:Int)-x)).toNat:Int)<=(a:Int):=Int.le_of_eq ((congrArg (max 0 ((a:Int)-x) + ·) (Int.toNat_of_nonneg (Int.sub_nonneg_of_le (Int.max_le.mpr ⟨Int.natCast_nonneg _,Int.sub_le_self _ h0⟩)))).trans ((Int.add_comm _ _).trans (Int.sub_add_cancel _ _)))
theorem Q45:x%4=0\/x%4=1\/x%4=2\/x%4=3:=by lia -abstractProof
theorem Q55(h0:b<=60)(h1:a=c)(h2:c<b):a<1048576:=Nat.lt_of_le_of_lt (Nat.le_of_eq h1) (Nat.lt_of_lt_of_le h2 (Af h0 (by decide)))
theorem Q57(h0:x=0\/4<=x)(h1:(a:Int)=x-1):2<=a:=by lia -abstractProof
theorem Q62(h0:a=b)(h1:0<=x)(h2:x<(b:Int)):x.toNat<a:=Nat.lt_of_lt_of_eq ((Int.toNat_lt h1).mpr h2) h0.symm
theorem Q75(h0:4+z%5=x)(h1:x+z/5%4=y):x<=y/\y<100:=by subst h0;lia -abstractProof
theorem T4:0<=(a:Int):=Int.natCast_nonneg _
theorem W4(h0:a<b):(a:Int)<(b:Int):=Int.ofNat_lt.mpr h0
theorem Q82(h0:4<=x)(h1:(a:Int)%y=x-1)(h2:(a:Int)%y<=(a:Int)):2<=a:=by lia -abstractProof
theorem Q83(h0:4<=x)(h1:(a:Int)%y=x-1)(h2:(a:Int)%y<=(a:Int)):(x<=(a:Int)+1/\(a:Int)+1-x<(a:Int))/\1<=(a:Int)/\(a:Int)-1<(a:Int):=⟨⟨by lia -abstractProof,by lia -abstractProof⟩,by lia -abstractProof,Int.sub_lt_self _ (by decide)⟩
theorem Q86(h0:0<=x):¬x<0:=Int.not_lt_of_ge h0
theorem Q89(h0:b<a):0<(a:Int):=Int.ofNat_lt.mpr (Nat.zero_lt_of_lt h0)
theorem Q90(h0:a<=60):(a:Int)<=60:=Int.ofNat_le.mpr h0
theorem Ajr(h0:c<=3600)(h1:b<=3)(h2:c=a):a+b+(min 4 a-1)+(min 1 a+min 1 a)<=4000:=by subst h2;exact Af (Nat.add_le_add (Nat.add_le_add (Nat.add_le_add h0 h1) (Af (Nat.sub_le _ _) (Nat.min_le_left _ _))) (Nat.add_le_add (Nat.min_le_left _ _) (Nat.min_le_left _ _))) (by decide)
theorem W6(h0:x<(a:Int))(h1:0<=y)(h2:y<(a:Int)):x.toNat<a:=by lia -abstractProof
theorem O5(h0:b<=60)(h1:a<=b):a<1048576:=Nat.lt_of_le_of_lt (Af h1 h0) (by decide)
theorem W7(h0:x<(a:Int))(h1:(x.toNat:Int)=x):x.toNat<a:=Int.ofNat_lt.mp (Int.lt_of_le_of_lt (Int.le_of_eq h1) h0)
theorem Ahk(h0:y≠x)(h1:(y.toNat:Int)=y)(h2:(x.toNat:Int)=x):¬x.toNat=y.toNat:=fun q=>h0 (h1.symm.trans ((congrArg Int.ofNat q.symm).trans h2))
theorem Ahl(h0:¬a=y.toNat)(h1:a=x.toNat):¬x.toNat=y.toNat:=fun q=>h0 (h1.trans q)
theorem Acm(h0:¬a=x.toNat)(h1:(a:Int)=x):False:=by subst h1;exact h0 rfl
theorem Afg(h0:b<=60)(h1:a<=b):a<64:=Nat.lt_of_le_of_lt (Af h1 h0) (by decide)
theorem W8:0<=(a:Int)+1:=Int.natCast_nonneg _
theorem W9:((a:Int)+1).toNat=a+1:=Nat.succ_sub_one _
theorem Ajs(h0:b=a)(h1:0<b):a=a-1+1:=by subst h0;exact(Nat.sub_add_cancel h1).symm
theorem Ajt(h0:a=c-1)(h1:c=b+1):a=b:=by subst h1;exact h0
theorem Aju(h0:a+c<=60)(h1:b=c-1)(h2:c=d+1):a+1+b<=60:=by subst h1;lia -abstractProof
theorem Ahm(h0:a<=60):a<=1048576+(b+1):=Af h0 (Af (by decide) (Nat.le_add_right 1048576 _))
theorem Ajv(h0:0<=x)(h1:x<(y.toNat:Int)):x<y:=by lia -abstractProof
theorem Ajw(h0:x+1<=(a:Int)):((a:Int)+1-(x+1)).toNat<((a:Int)+1-x).toNat:=by lia -abstractProof
theorem Ajx(h0:¬a<b):¬(a:Int)<(b:Int):=fun q=>h0 (Int.ofNat_lt.mp q)
theorem Ahn(h0:0<a):0<= -1+(a:Int):=by lia -abstractProof
theorem Aho:(-1+(a:Int)).toNat=a-1:=(congrArg Int.toNat (Int.add_comm _ _)).trans (Int.toNat_sub a 1)
theorem Ajy(h0:b=0+a):a-b=0:=by subst h0;exact Nat.sub_eq_zero_of_le (Nat.le_of_eq (Nat.zero_add a).symm)
theorem Ajz(h0:b=c)(h1:b+a=c):a=0:=by subst h0;exact Nat.add_left_cancel (h1.trans (Nat.add_zero _).symm)
theorem Acn(h0:b=c)(h1:a<c):a<b:=Nat.lt_of_lt_of_eq h1 h0.symm
theorem Aj0(h0:x.natAbs<2 ^ 64):-2 ^ 64<x:=by omega
theorem Aj1(h0:x.natAbs<2 ^ 64):x<2 ^ 64:=by omega
theorem Aco(h0:0<=x+(a:Int)):-(a:Int)<=x:=by lia -abstractProof
theorem Aj2(h0:¬0<=x)(h1:0<=x+(a:Int)):(x+(a:Int)).toNat<a:=by lia -abstractProof
theorem Aj3(h0:(b:Int)<2 ^ 63)(h1:a<c)(h2:c=b):(a:Int)<2 ^ 63-1:=by omega
theorem Ahp(h0:b<100)(h1:a=b):a<=1048576:=Af (Nat.le_of_eq h1) (Af (Nat.le_of_lt h0) (by decide))
theorem Ahq(h0:b<100)(h1:a=b):a<=2 ^ 24:=Af (Nat.le_of_eq h1) (Af (Nat.le_of_lt h0) (by decide))
theorem Aj4:x+((a+1:Nat):Int)=x+(a:Int)+1:=by lia -abstractProof
theorem Aj5:(a:Int)-((b+1:Nat):Int)=(a:Int)-(b:Int)-1:=by lia -abstractProof
theorem Aj6(h0:b<a):((a-1-b:Nat):Int)-1=(a:Int)-1-((b+1:Nat):Int):=by lia -abstractProof
theorem Aj7:(a:Int)-1-(a:Int) = -1:=by lia -abstractProof
theorem Afh(h0:b<a):a-(b+1)+1<a-b+1:=Nat.succ_lt_succ (Nat.sub_lt_sub_left h0 (Nat.lt_succ_self b))
theorem Ahr(h0:a=c):a<=b+c:=Af (Nat.le_of_eq h0) (Nat.le_add_left _ _)
theorem Ahs(h0:c=b):a+b-c=a:=by subst h0;lia -abstractProof
theorem Aj8(h0:a=1):0<a:=by subst h0;decide
theorem Aj9(h0:a=2):0<a:=by subst h0;decide
theorem Aka(h0:a=2):1<a:=by subst h0;decide
theorem Akb(h0:0<=x):-(a:Int)<=x:=by lia -abstractProof
theorem Akc(h0:¬0<=x):x<(a:Int):=by lia -abstractProof
theorem T5(h0:a+c<=b):a<=b:=Af (Nat.le_add_right _ _) h0
theorem Akd(h0:b<a):((a:Int) + -1*(b:Int)).toNat=a-1-b+1:=by rw[Int.neg_one_mul,<-Int.sub_eq_add_neg,<-Int.ofNat_sub (Nat.le_of_lt h0),Int.toNat_natCast,Nat.sub_right_comm,Nat.sub_add_cancel (Nat.sub_pos_of_lt h0)]
theorem Aht(h0:((a:Int) + -1*(b:Int)).toNat=a-1-b+1):a-1-b<a:=by lia -abstractProof
theorem Ahu(h0:a+1<=b):a+1+1<=2*b+1:=Nat.succ_le_succ (Af h0 (Nat.le_mul_of_pos_left b (by decide)))
theorem Ake(h0:a<c)(h1:max 0 c+1<=b):a+min b (c-a)=c:=(congrArg (fun t=>a+t) (Nat.min_eq_right (Af (Nat.sub_le c a) (Af (Nat.le_max_right 0 c) (Nat.le_of_succ_le h1))))).trans (Nat.add_sub_cancel' (Nat.le_of_lt h0))
theorem Akf(h0:a≥b+1)(h1:c<b+1-min a (b+1)):False:=Nat.not_lt_zero c (Nat.lt_of_lt_of_eq h1 ((congrArg (fun t=>b+1-t) (Nat.min_eq_right h0)).trans (Nat.sub_self _)))
theorem Akg(h0:a<b+1-min c (b+1)):a<b-c+1:=(Nat.lt_or_ge b c).elim (fun h=>absurd (Nat.lt_of_lt_of_eq h0 ((congrArg (fun t=>b+1-t) (Nat.min_eq_right h)).trans (Nat.sub_self _))) (Nat.not_lt_zero a)) fun h=>Nat.lt_of_lt_of_eq h0 ((congrArg (fun t=>b+1-t) (Nat.min_eq_left (Nat.le_succ_of_le h))).trans (Nat.succ_sub h))
theorem Akh(h0:a<b)(h1:max 0 b+1<=c)(h2:d<a+1-min c (a+1)):False:=Nat.not_lt_zero d (Nat.lt_of_lt_of_eq h2 ((congrArg (fun t=>a+1-t) (Nat.min_eq_right (Af h0 (Af (Nat.le_max_right 0 b) (Nat.le_of_succ_le h1))))).trans (Nat.sub_self _)))
theorem T6(h0:a+d<=c)(h1:b<d):a+b<c:=Nat.lt_of_lt_of_le (Nat.add_lt_add_left h1 a) h0
theorem Y0(h0:b<c):a+b<a+c:=Nat.add_lt_add_left h0 a
theorem Aki(h0:c<=a)(h1:a<c+(b-c)):a<b:=(Nat.le_total c b).elim (fun h=>Nat.lt_of_lt_of_eq h1 (Nat.add_sub_cancel' h)) fun h=>absurd h0 (Nat.not_le_of_lt (Nat.lt_of_lt_of_eq h1 (congrArg (fun t=>c+t) (Nat.sub_eq_zero_of_le h))))
theorem Akj:a+b<a+b+1+c:=Nat.le_add_right (a+b+1) c
theorem Afi(h0:a<b):a<b+c:=Nat.lt_of_lt_of_le h0 (Nat.le_add_right b c)
theorem Akk(h0:e=b+f)(h1:c<f)(h2:d=f-c+g)(h3:e+g<=a):¬a<b+c+d:=Nat.not_lt_of_le (Af (Nat.le_of_eq ((congrArg (fun t=>b+c+t) h2).trans ((qe (Nat.le_of_lt h1)).trans (congrArg (fun t=>t+g) h0.symm)))) h3)
theorem Akl(h0:e=b+f)(h1:d=f-c+g)(h2:a<e+g):a<b+c+d:=Nat.lt_of_lt_of_le h2 (Af (Nat.le_of_eq (congrArg (fun t=>t+g) h0)) (Af qf (Nat.le_of_eq (congrArg (fun t=>b+c+t) h1.symm))))
theorem Acp(h0:b<a):a-1<a:=Nat.sub_lt (Nat.zero_lt_of_lt h0) (by decide)
theorem Akm(h0:b+c+(d-c)=e)(h1:d-c=0)(h2:a<e):a<b+c:=Nat.lt_of_lt_of_eq h2 (h0.symm.trans (congrArg (fun t=>b+c+t) h1))
theorem Akn(h0:a+b<=c)(h1:d=b)(h2:1<=d):0<min (a+b) c-a:=Nat.lt_of_lt_of_eq h2 (h1.trans ((Nat.add_sub_cancel_left ..).symm.trans (congrArg (fun t=>t-a) (Nat.min_eq_left h0).symm)))
theorem Ako(h0:e+b+(a-b)=c)(h1:c+f<=d)(h2:g=a-b)(h3:1<=g):a-b-1<min c d-(e+b):=Nat.lt_of_lt_of_eq (Nat.sub_lt (Nat.lt_of_lt_of_eq h3 h2) (by decide)) ((Nat.add_sub_cancel_left ..).symm.trans (congrArg (fun t=>t-(e+b)) (h0.trans (Nat.min_eq_left (Af (Nat.le_add_right c f) h1)).symm)))
theorem Akp(h0:a+b+(c-b)=d)(h1:e=c-b)(h2:1<=e):a+b+(c-b-1)=d-1:=(Nat.add_sub_assoc (Af h2 (Nat.le_of_eq h1)) (a+b)).symm.trans (congrArg (fun t=>t-1) h0)
theorem Akq(h0:a<=c)(h1:d<b):a+b-1-c<b:=Nat.lt_of_le_of_lt (Af (Nat.sub_le_sub_left h0 (a+b-1)) (Nat.le_of_eq ((Nat.sub_right_comm ..).trans (congrArg (fun t=>t-1) (Nat.add_sub_cancel_left ..))))) (Nat.sub_lt (Nat.zero_lt_of_lt h1) (by decide))
theorem Akr(h0:b<a\/c<=b):¬(a<=b/\b<c):=fun q=>h0.elim (Nat.not_lt_of_le q.1) (Nat.not_le_of_lt q.2)
theorem Aks(h0:d<=b)(h1:c<=e)(h2:a<d\/e<=a):a<b\/c<=a:=h2.imp (fun q=>Nat.lt_of_lt_of_le q h0) (Af h1)
theorem Acq(h0:a+d<=c)(h1:b<d):a+b-1<c:=Nat.lt_of_le_of_lt (Nat.sub_le _ _) (Nat.lt_of_lt_of_le (Nat.add_lt_add_left h1 a) h0)
theorem Akt(h0:c<e)(h1:e=a+b):¬(a+b<c/\c<=a+d):=fun q=>Nat.lt_asymm q.1 (Nat.lt_of_lt_of_eq h0 h1)
theorem Ahv(h0:d<a)(h1:a<b+(c+1)):a-1<b+c:=Nat.lt_of_lt_of_le (Nat.sub_lt (Nat.zero_lt_of_lt h0) (by decide)) (Nat.le_of_lt_succ h1)
theorem Ahw(h0:¬a+b<c):¬(a+b<c/\c<=a+d):=fun q=>h0 q.1
theorem Aku(h0:c<=d)(h1:a<b\/b+(d+1)<=a):¬a=b+c:=fun q=>h1.elim (fun r=>Nat.not_lt_of_le (Af (Nat.le_add_right b c) (Nat.le_of_eq q.symm)) r) fun r=>Nat.not_le_of_lt (Nat.lt_of_le_of_lt (Af (Nat.le_of_eq q) (Nat.add_le_add_left h0 b)) (Nat.lt_succ_self _)) r
theorem Akv(h0:c<a\/a+(d+1)<=c):¬(a+b<c/\c<=a+d):=fun q=>h0.elim (fun r=>Nat.lt_asymm (Nat.lt_of_le_of_lt (Nat.le_add_right a b) q.1) r) fun r=>Nat.not_le_of_lt (Nat.lt_succ_of_le q.2) r
theorem Ahx(h0:1<=d)(h1:d<=b-a):a+min (b-a) c<=b:=Af (Nat.add_le_add_left (Nat.min_le_left _ _) a) (Nat.le_of_eq (Nat.add_sub_cancel' (Nat.le_of_lt (Nat.lt_of_sub_pos (Af h0 h1)))))
theorem Akw(h0:d+b<=c)(h1:a+1=d):a+(b+1)<=c:=Af (Nat.le_of_eq ((Nat.succ_add a b).symm.trans (congrArg (fun t=>t+b) h1))) h0
theorem Akx(h0:(a:Int)=(c:Int))(h1:(b:Int)=(d:Int)):¬100*a+b<100*c+d:=by cases Int.ofNat_inj.mp h0;cases Int.ofNat_inj.mp h1;exact Nat.lt_irrefl _
theorem Aky(h0:(a:Int)=(c:Int)):100*a+b<100*c+d↔(b:Int)<(d:Int):=by cases Int.ofNat_inj.mp h0;exact Nat.add_lt_add_iff_left.trans Int.ofNat_lt.symm
theorem Akz(h0:b<100)(h1:d<100)(h2:¬(a:Int)=(c:Int)):100*a+b<100*c+d↔(a:Int)<(c:Int):=⟨fun q=>Int.ofNat_lt.mpr (Nat.lt_of_not_le fun r=>Nat.lt_asymm q (q7 h1 (Nat.lt_of_le_of_ne r fun e=>h2 (congrArg Int.ofNat e.symm)))),fun q=>q7 h0 (Int.ofNat_lt.mp q)⟩
theorem Ahy:x+((a+1:Nat):Int)=x+1+(a:Int):=(congrArg (fun t=>x+t) (Int.add_comm (a:Int) 1)).trans (Int.add_assoc x 1 a).symm
end
end Mine.Internal
namespace Mine.Internal
section
open PySem PySem.W PyProof.Rows
variable {a b c d e f g i j k l m n:Nat} {x y z u v w r s t:Int}
theorem Ahz(h0:a+30*b+60<cLine):a+5<cLine:=Nat.lt_of_le_of_lt (Nat.add_le_add (Nat.le_add_right a _) (by decide:5<=60)) h0
theorem Ak0(h0:a<=Bp)(h1:(Bp:Int)<2 ^ 63)(h2:0<=x+(a:Int)):-2 ^ 63<=x:=by lia -abstractProof
theorem Ak1(h0:a+4*b+4<recursionLimit):a+1+4*b+2<recursionLimit:=by lia -abstractProof
theorem Ak2(h0:a+30*b+60<cLine):a+1+30*b+40<cLine:=by lia -abstractProof
theorem Ah0(h0:Bp=1048576)(h1:x<=(Bp:Int)):x<2 ^ 62:=by lia -abstractProof
theorem Ak3(h0:Bp=1048576)(h1:-(Bp:Int)<=x):-2 ^ 62<=x:=by lia -abstractProof
theorem Ak4(h0:a+4*(b+1)+2<recursionLimit):a+1+4*b+4<recursionLimit:=by lia -abstractProof
theorem Ak5(h0:a+30*(b+1)+40<cLine):a+3+30*b+60<cLine:=by lia -abstractProof
theorem Ak6(h0:(Bp:Int)<2 ^ 63)(h1:a<=Bp)(h2:x<(a:Int)):x<2 ^ 63:=by lia -abstractProof
theorem Ak7(h0:(Bp:Int)<2 ^ 63)(h1:a<=Bp)(h2:0<=x+(a:Int)):-2 ^ 63<=x:=by lia -abstractProof
theorem Ak8(h0:a<=Bp)(h1:(Bp:Int)<2 ^ 63)(h2:-(a:Int)<=x):-2 ^ 63<=x:=by lia -abstractProof
end
end Mine.Internal
namespace Mine.Internal
open PySem
variable {G:A2} {n:Nat} {H:AH} {Q:Ag} {E:EP} {C:CS} {ρ:Ak} {N:Ak->AH->Prop} {R:Ag}
theorem Afj{i}(kk:Q (.int i) H):Aw G C (.cint i) ρ H Q E:=kk
theorem Ni{i}(kk:(match ρ[i]? with|some (some v)=>Q v H|_=>False)):Aw G C (.var i) ρ H Q E:=kk
theorem Afk{l r}(kk:Aw G C l ρ H (fun v H=>truthy v fun b=>if b then Aw G C r ρ H Q E else Q (.bool false) H) E):Aw G C (.and l r) ρ H Q E:=kk
theorem Vo{l r}(kk:Aw G C l ρ H (fun v H=>truthy v fun b=>if b then Q (.bool true) H else Aw G C r ρ H Q E) E):Aw G C (.or l r) ρ H Q E:=kk
theorem Afl{op l r}(kk:Aw G C l ρ H (fun a H=>Aw G C r ρ H (fun b H=>Ek op a b H Q) E) E):Aw G C (.bin op l r) ρ H Q E:=kk
theorem T7{op l r}(kk:Aw G C l ρ H (fun a H=>Aw G C r ρ H (fun b H=>Bd op a b H Q) E) E):Aw G C (.cmp op l r) ρ H Q E:=kk
theorem M6{f as}(kk:((G.fn f).isSome=true/\Cw G C as ρ H (fun vs H=>C f vs H Q E) E)):Aw G C (.call f as) ρ H Q E:=kk
theorem Ae3{m o as}(kk:Aw G C o ρ H (fun v H=>F5 m v H/\Cw G C as ρ H (fun vs H=>E0 m v vs H Q) E) E):Aw G C (.lm m o as) ρ H Q E:=kk
theorem Nj(kk:Au (.dict []) H Q):Aw G C (.dict [] []) ρ H Q E:=kk
theorem Y1{c as}(kk:((G.fn (Dr c)).isSome=true/\Cw G C as ρ H (fun vs H=>∀a d,H a=none->H d=none->a≠d->
 C (Dr c) (.ref a::vs) (upd (upd H d (.ns [])) a (.inst c d)) (fun r H'=>r = .none/\Q (.ref a) H') E) E)):Aw G C (.mk c as) ρ H Q E:=kk
theorem H6{e r}{Q:List V->AH->Prop}(kk:Aw G C e ρ H (fun v H=>Cw G C r ρ H (fun vs H=>Q (v::vs) H) E) E):Cw G C (e::r) ρ H Q E:=kk
theorem M7{e}{K:List It->(AH->Prop)->AH->Prop}(kk:Aw G C e ρ H (fun v H=>Lk v H K) E):Dq G C (.enum e) ρ H K E:=kk
theorem Afm{e}{K:List It->(AH->Prop)->AH->Prop}(kk:Aw G C e ρ H (fun v H=>Pp v H K) E):Dq G C (.rev e) ρ H K E:=kk
theorem Cd{i e}(kk:Aw G C e ρ H (fun v H=>N (ρ.set i (some v)) H) E):wpS G C (.assign i e) ρ H N R E:=kk
theorem Ds{o i e}(kk:Aw G C e ρ H (fun v H=>Aw G C o ρ H (fun ov H=>Aw G C i ρ H (fun iv H=>setItem ov iv v H fun H=>N ρ H) E) E) E):wpS G C (.setitem o i e) ρ H N R E:=kk
theorem Vp{e}(kk:Aw G C e ρ H (fun _ H=>N ρ H) E):wpS G C (.expr e) ρ H N R E:=kk
theorem Bv{t a b}(kk:Aw G C t ρ H (fun v H=>truthy v fun c=>if c then Bh G C a ρ H N R E else Bh G C b ρ H N R E) E):wpS G C (.ite t a b) ρ H N R E:=kk
theorem Nk{e}(kk:Aw G C e ρ H R E):wpS G C (.ret e) ρ H N R E:=kk
theorem Nl{t s b}(kk:Dq G C s ρ H (fun its g H=>Cv g t (fun ρ H K=>Bh G C b ρ H K R E) N its ρ H) E):wpS G C (.for t s b) ρ H N R E:=kk
theorem Kc{t b}(kk:∃I:Nat->Ak->AH->Prop,(∃n,I n ρ H)/\∀n ρ H,I n ρ H->
 Aw G C t ρ H (fun v H=>truthy v fun c=>if c then Bh G C b ρ H (fun ρ H=>∃m,m<n/\I m ρ H) R E else N ρ H) E):wpS G C (.while t b) ρ H N R E:=kk
theorem I6(kk:N ρ H):Bh G C [] ρ H N R E:=kk
theorem Ad{s r}(kk:wpS G C s ρ H (fun ρ H=>Bh G C r ρ H N R E) R E):Bh G C (s::r) ρ H N R E:=kk
theorem M8{t e b}(kk:Aw G C e ρ H (fun v H=>Gi v H fun its g H=>Cv g t (fun ρ H K=>Bh G C b ρ H K R E) N its ρ H) E):wpS G C (.for t (.val e) b) ρ H N R E:=kk
theorem T8{t as b}(kk:Cw G C as ρ H (fun vs H=>Fk vs H fun its g H=>Cv g t (fun ρ H K=>Bh G C b ρ H K R E) N its ρ H) E):wpS G C (.for t (.range as) b) ρ H N R E:=kk
theorem gvK{k s e}(kk:Aw G C s ρ H (fun v H=>Gi v H fun its g H=>its.length<=Bp/\Bn g (Dc k) (fun ρ H K=>Aw G C e ρ H (fun v H=>K (some v) H) EF) (fun vs H=>Au (.list vs) H Q) its [] (List.replicate k none++ρ) H) E):Aw G C (.comp k (.val s) e) ρ H Q E:=kk
theorem grK{k as e}(kk:Cw G C as ρ H (fun vs H=>Fk vs H fun its g H=>its.length<=Bp/\Bn g (Dc k) (fun ρ H K=>Aw G C e ρ H (fun v H=>K (some v) H) EF) (fun vs H=>Au (.list vs) H Q) its [] (List.replicate k none++ρ) H) E):Aw G C (.comp k (.range as) e) ρ H Q E:=kk
theorem hvK{k s c e}(kk:Aw G C s ρ H (fun v H=>Gi v H fun its g H=>its.length<=Bp/\Bn g (Dc k) (fun ρ H K=>Aw G C c ρ H (fun c H=>truthy c fun b=>if b then Aw G C e ρ H (fun v H=>K (some v) H) EF else K none H) EF) (fun vs H=>Au (.list vs) H Q) its [] (List.replicate k none++ρ) H) E):Aw G C (.compIf k (.val s) c e) ρ H Q E:=kk
theorem hrK{k as c e}(kk:Cw G C as ρ H (fun vs H=>Fk vs H fun its g H=>its.length<=Bp/\Bn g (Dc k) (fun ρ H K=>Aw G C c ρ H (fun c H=>truthy c fun b=>if b then Aw G C e ρ H (fun v H=>K (some v) H) EF else K none H) EF) (fun vs H=>Au (.list vs) H Q) its [] (List.replicate k none++ρ) H) E):Aw G C (.compIf k (.range as) c e) ρ H Q E:=kk
end Mine.Internal
namespace Mine.Internal
open PySem
noncomputable def Kd:Fn:=⟨3,3,[.setattr (.var 0) .many (.var 1),.setattr (.var 0) .rows (.var 2)]⟩
noncomputable def Nm:Fn:=⟨2,2,[.ite (.not (.chain (.cint 0) .LtE (.var 1) .Lt (.attr (.var 0) .many))) [.raise] []]⟩
noncomputable def Ec:Fn:=⟨2,2,[.expr (.meth "Web.need" (.var 0) [(.var 1)]),.ret (.bi .list [(.sub (.attr (.var 0) .rows) (.var 1))])]⟩
noncomputable def Nn:Fn:=⟨3,3,[.expr (.meth "Web.need" (.var 0) [(.var 1)]),.expr (.meth "Web.need" (.var 0) [(.var 2)]),.ret (.cmp .In (.var 2) (.sub (.attr (.var 0) .rows) (.var 1)))]⟩
noncomputable def Jf:List S:=[.ite (.cmp .Lt (.var 2) (.var 3)) [.expr (.lm .append (.var 1) [(.tuple [(.var 2),(.var 3)])])] []]
noncomputable def Jg:List S:=[.for (.one 3) (.val (.sub (.attr (.var 0) .rows) (.var 2))) Jf]
noncomputable def Np:Fn:=⟨4,1,[.assign 1 (.list []),.for (.one 2) (.range [(.attr (.var 0) .many)]) Jg,.ret (.var 1)]⟩
noncomputable def L4:List S:=[.ite (.or (.not (.chain (.cint 0) .LtE (.var 2) .Lt (.var 0))) (.or (.not (.chain (.cint 0) .LtE (.var 3) .Lt (.var 0))) (.cmp .Eq (.var 2) (.var 3)))) [.raise] []]
noncomputable def L5:X:=(.dict [] [])
noncomputable def L6:List S:=[.setitem (.sub (.var 4) (.var 2)) (.var 3) (.cbool true),.setitem (.sub (.var 4) (.var 3)) (.var 2) (.cbool true)]
noncomputable def L7:X:=(.bi .sorted [(.var 0)])
noncomputable def Rz:Fn:=⟨5,2,[.ite (.not (.chain (.cint 0) .LtE (.var 0) .LtE (.glob "MOST"))) [.raise] [],.for (.two 2 3) (.val (.var 1)) L4,.assign 4 (.comp 1 (.range [(.var 0)]) L5),.for (.two 2 3) (.val (.var 1)) L6,.ret (.mk .web [(.var 0),(.comp 1 (.val (.var 4)) L7)])]⟩
noncomputable def B9:Fn:=⟨2,2,[.ite (.cmp .Lt (.var 1) (.bi .len [(.var 0)])) [.ret (.sub (.var 0) (.var 1))] [],.ret (.cint 0)]⟩
noncomputable def D5:Fn:=⟨1,1,[.ret (.and (.bi (.isinst .int) [(.var 0)]) (.not (.bi (.isinst .bool) [(.var 0)])))]⟩
noncomputable def Gj:List S:=[.ite (.or (.not (.call "_law_whole" [(.sub (.var 0) (.var 2))])) (.cmp .NotEq (.sub (.var 0) (.var 2)) (.sub (.var 1) (.var 2)))) [.ret (.cbool false)] []]
noncomputable def F6:Fn:=⟨3,2,[.ite (.or (.not (.bi (.isinst .list) [(.var 0)])) (.cmp .NotEq (.bi .len [(.var 0)]) (.bi .len [(.var 1)]))) [.ret (.cbool false)] [],.for (.one 2) (.range [(.bi .len [(.var 1)])]) Gj,.ret (.cbool true)]⟩
noncomputable def H7:List S:=[.ite (.or (.not (.bi (.isinst .tuple) [(.sub (.var 0) (.var 2))])) (.cmp .NotEq (.bi .len [(.sub (.var 0) (.var 2))]) (.cint 2))) [.ret (.cbool false)] [],.ite (.or (.not (.call "_law_whole" [(.sub (.sub (.var 0) (.var 2)) (.cint 0))])) (.or (.not (.call "_law_whole" [(.sub (.sub (.var 0) (.var 2)) (.cint 1))])) (.cmp .NotEq (.sub (.var 0) (.var 2)) (.sub (.var 1) (.var 2))))) [.ret (.cbool false)] []]
noncomputable def H8:Fn:=⟨3,2,[.ite (.or (.not (.bi (.isinst .list) [(.var 0)])) (.cmp .NotEq (.bi .len [(.var 0)]) (.bi .len [(.var 1)]))) [.ret (.cbool false)] [],.for (.one 2) (.range [(.bi .len [(.var 1)])]) H7,.ret (.cbool true)]⟩
noncomputable def D6:Fn:=⟨2,2,[.ret (.bin .Mod (.bin .Mult (.bin .Add (.var 0) (.bin .Mult (.cint 101) (.var 1))) (.cint 48271)) (.cint 1000003))]⟩
noncomputable def Gk:List S:=[.ite (.and (.cmp .Gt (.bin .Mod (.var 8) (.cint 3)) (.cint 0)) (.or (.cmp .GtE (.var 7) (.var 2)) (.cmp .Lt (.bi .len [(.var 6)]) (.cint 2)))) [.expr (.lm .append (.var 6) [(.var 9)])] [],.assign 8 (.bin .FloorDiv (.var 8) (.cint 3))]
noncomputable def Gl:List S:=[.assign 5 (.call "_law_mixed" [(.call "_law_cell_at" [(.var 0),(.bin .Add (.cint 3) (.var 4))]),(.var 4)]),.assign 6 (.list []),.ite (.chain (.cint 0) .Lt (.var 4) .Lt (.var 2)) [.assign 6 (.list [(.bin .Sub (.var 4) (.cint 1))]),.ite (.cmp .Eq (.var 4) (.bin .Sub (.var 2) (.cint 1))) [.assign 6 (.list [(.cint 0),(.bin .Sub (.var 4) (.cint 1))])] []] [.ite (.and (.cmp .Gt (.var 4) (.cint 0)) (.cmp .NotEq (.bin .Mod (.var 5) (.cint 9)) (.cint 8))) [.assign 7 (.bin .Mod (.bin .FloorDiv (.var 5) (.cint 9)) (.var 4)),.assign 6 (.list [(.var 7)]),.assign 8 (.bin .FloorDiv (.bin .FloorDiv (.var 5) (.cint 9)) (.var 4)),.for (.one 9) (.val (.sub (.var 3) (.var 7))) Gk] []],.expr (.lm .append (.var 3) [(.var 6)])]
noncomputable def F7:Fn:=⟨10,3,[.assign 3 (.list []),.for (.one 4) (.range [(.var 1)]) Gl,.ret (.var 3)]⟩
noncomputable def Fl:X:=(.call "_law_mixed" [(.call "_law_cell_at" [(.var 1),(.bin .Add (.cint 3) (.bin .Mod (.bin .Add (.bin .Mult (.cint 7) (.var 6)) (.bin .Mult (.cint 13) (.var 0))) (.cint 60)))]),(.bin .Add (.bin .Mult (.cint 60) (.var 6)) (.var 0))])
noncomputable def Fm:X:=(.cmp .Lt (.bin .Mod (.sub (.var 7) (.var 0)) (.var 4)) (.var 3))
noncomputable def Dh:List S:=[.assign 6 (.comp 1 (.range [(.var 5)]) Fl),.expr (.lm .append (.var 4) [(.compIf 1 (.range [(.var 5)]) Fm (.var 0))])]
noncomputable def E1:Fn:=⟨7,2,[.assign 2 (.bin .Add (.cint 1) (.bin .Mod (.bin .FloorDiv (.call "_law_cell_at" [(.var 0),(.cint 2)]) (.cint 8)) (.cint 4))),.assign 3 (.cint 5),.ite (.cmp .Gt (.var 1) (.cint 20)) [.assign 3 (.cint 40)] [],.assign 4 (.list []),.for (.one 5) (.range [(.var 1)]) Dh,.ret (.var 4)]⟩
noncomputable def Ed:X:=(.bi .listRange [(.bi .max [(.cint 0),(.bin .Sub (.var 0) (.var 3))]),(.var 0)])
noncomputable def G2:Fn:=⟨3,2,[.assign 2 (.bin .Mod (.var 1) (.cint 20)),.ite (.cmp .Gt (.var 0) (.cint 20)) [.assign 2 (.bin .Mod (.var 1) (.cint 6))] [],.ret (.comp 1 (.range [(.var 0)]) Ed)]⟩
noncomputable def Hm:X:=(.bi .listRange [(.bi .max [(.cint 0),(.bin .Sub (.var 0) (.cint 1))]),(.var 0)])
noncomputable def Hn:List S:=[.ite (.cmp .Eq (.bin .Mod (.var 4) (.var 3)) (.bin .Sub (.var 2) (.cint 1))) [.setitem (.var 5) (.var 4) (.list [(.bin .Sub (.bin .Add (.var 4) (.cint 1)) (.var 2)),(.bin .Sub (.var 4) (.cint 1))])] []]
noncomputable def G3:Fn:=⟨6,2,[.assign 2 (.bin .Add (.cint 4) (.bin .Mod (.var 1) (.cint 5))),.assign 3 (.bin .Add (.var 2) (.bin .Mod (.bin .FloorDiv (.var 1) (.cint 5)) (.cint 4))),.assign 5 (.comp 1 (.range [(.var 0)]) Hm),.for (.one 4) (.range [(.var 0)]) Hn,.ret (.var 5)]⟩
noncomputable def Ci:X:=(.bi .listRange [(.bi .min [(.var 0),(.var 3)])])
noncomputable def G4:Fn:=⟨3,2,[.assign 2 (.sub (.list [(.cint 1),(.cint 2),(.cint 3),(.bin .Mod (.bin .FloorDiv (.var 1) (.cint 4)) (.cint 30))]) (.bin .Mod (.var 1) (.cint 4))),.ite (.cmp .Gt (.var 0) (.cint 30)) [.assign 2 (.bin .Mod (.var 2) (.cint 8))] [],.ret (.comp 1 (.range [(.var 0)]) Ci)]⟩
noncomputable def Nq:Fn:=⟨4,2,[.assign 2 (.bin .Mod (.call "_law_cell_at" [(.var 0),(.cint 2)]) (.cint 8)),.assign 3 (.bin .FloorDiv (.call "_law_cell_at" [(.var 0),(.cint 2)]) (.cint 8)),.ite (.and (.cmp .Eq (.var 2) (.cint 1)) (.cmp .Gt (.var 1) (.cint 3))) [.ret (.call "_law_earlier" [(.var 0),(.var 1),(.bin .Add (.cint 4) (.bin .Mod (.var 3) (.bin .Sub (.var 1) (.cint 3))))])] [],.ite (.and (.chain (.cint 1) .Lt (.var 2) .Lt (.cint 5)) (.cmp .Lt (.var 1) (.cint 41))) [.ret (.call "_law_any_rows" [(.var 0),(.var 1)])] [],.ite (.cmp .Eq (.var 2) (.cint 5)) [.ret (.call "_law_banded" [(.var 1),(.var 3)])] [],.ite (.cmp .Eq (.var 2) (.cint 6)) [.ret (.call "_law_ringed" [(.var 1),(.var 3)])] [],.ite (.cmp .Eq (.var 2) (.cint 7)) [.ret (.call "_law_hubbed" [(.var 1),(.var 3)])] [],.ret (.call "_law_earlier" [(.var 0),(.var 1),(.cint 0)])]⟩
noncomputable def J0:Fn:=⟨4,3,[.assign 3 (.call "_law_cell_at" [(.var 0),(.cint 1)]),.ite (.cmp .Eq (.bin .Mod (.var 3) (.cint 2)) (.cint 1)) [.ret (.bin .Mod (.bin .Sub (.bin .FloorDiv (.var 3) (.cint 2)) (.var 2)) (.var 1))] [],.ret (.bin .Mod (.bin .Add (.bin .FloorDiv (.var 3) (.cint 2)) (.var 2)) (.var 1))]⟩
noncomputable def Jh:List S:=[.assign 6 (.tuple [(.call "_law_name" [(.var 0),(.var 1),(.var 4)]),(.call "_law_name" [(.var 0),(.var 1),(.var 5)])]),.ite (.cmp .Eq (.bin .Mod (.bin .Add (.var 4) (.var 5)) (.cint 2)) (.cint 1)) [.assign 6 (.tuple [(.sub (.var 6) (.cint 1)),(.sub (.var 6) (.cint 0))])] [],.expr (.lm .append (.var 3) [(.var 6)])]
noncomputable def Ji:List S:=[.for (.one 5) (.val (.sub (.var 2) (.var 4))) Jh]
noncomputable def Jj:X:=(.tuple [(.sub (.var 0) (.cint 1)),(.sub (.var 0) (.cint 0))])
noncomputable def Nr:Fn:=⟨7,3,[.assign 3 (.list []),.for (.one 4) (.range [(.var 1)]) Ji,.ret (.bin .Add (.bin .Add (.bin .Add (.var 3) (.comp 1 (.val (.slice (.var 3) .omit (.cint 3) .omit)) Jj)) (.slice (.var 3) (.cint 1) (.cint 4) .omit)) (.bin .Mult (.slice (.var 3) .omit (.cint 1) .omit) (.cint 2)))]⟩
noncomputable def Jk:List S:=[.ite (.cmp .NotIn (.var 4) (.sub (.var 2) (.var 3))) [.expr (.lm .append (.sub (.var 2) (.var 3)) [(.var 4)]),.expr (.lm .append (.sub (.var 2) (.var 4)) [(.var 3)])] []]
noncomputable def Jl:X:=(.bi .sorted [(.var 0)])
noncomputable def Nt:Fn:=⟨5,2,[.assign 2 (.comp 1 (.range [(.var 0)]) (.list [])),.for (.two 3 4) (.val (.var 1)) Jk,.ret (.comp 1 (.val (.var 2)) Jl)]⟩
noncomputable def F8:Fn:=⟨2,1,[.assign 1 (.call "_law_cell_at" [(.var 0),(.cint 0)]),.ite (.cmp .Eq (.bin .Mod (.bin .FloorDiv (.var 1) (.cint 9)) (.cint 16)) (.cint 3)) [.ret (.bin .Mod (.bin .FloorDiv (.var 1) (.cint 144)) (.cint 61))] [],.ite (.cmp .Eq (.bin .Mod (.bin .FloorDiv (.var 1) (.cint 9)) (.cint 8)) (.cint 5)) [.ret (.bin .Add (.cint 9) (.bin .Mod (.bin .FloorDiv (.var 1) (.cint 72)) (.cint 12)))] [],.ret (.bin .Mod (.var 1) (.cint 9))]⟩
noncomputable def Nu:Fn:=⟨2,2,[.ret (.cmp .Eq (.bi .sorted [(.var 1)]) (.bi .listRange [(.attr (.var 0) .many)]))]⟩
noncomputable def Ke:Fn:=⟨2,2,[.ite (.not (.call "is_order" [(.var 0),(.var 1)])) [.raise] []]⟩
noncomputable def Di:X:=(.meth "Web.tied" (.var 1) [(.var 3),(.var 0)])
noncomputable def H9:Fn:=⟨4,3,[.assign 3 (.lm .index (.var 1) [(.var 2)]),.ret (.compIf 1 (.val (.slice (.var 1) (.bin .Add (.var 3) (.cint 1)) .omit .omit)) Di (.var 0))]⟩
noncomputable def Fo:List S:=[.ite (.not (.meth "Web.tied" (.var 0) [(.var 3),(.var 4)])) [.ret (.tuple [(.var 3),(.var 4)])] []]
noncomputable def Fp:List S:=[.for (.one 4) (.val (.slice (.var 1) (.bin .Add (.var 2) (.cint 1)) .omit .omit)) Fo]
noncomputable def Dj:Fn:=⟨5,2,[.for (.two 2 3) (.enum (.var 1)) Fp,.ret .cnone]⟩
noncomputable def R7:List S:=[.assign 3 (.call "first_untied" [(.var 0),(.call "those_behind" [(.var 0),(.var 1),(.var 2)])]),.ite (.cmp .IsNot (.var 3) .cnone) [.ret (.tuple [(.var 2),(.sub (.var 3) (.cint 0)),(.sub (.var 3) (.cint 1))])] []]
noncomputable def Ae6:Fn:=⟨4,2,[.expr (.call "need_order" [(.var 0),(.var 1)]),.for (.one 2) (.val (.var 1)) R7,.ret .cnone]⟩
noncomputable def Dt:X:=(.meth "Web.tied" (.var 1) [(.var 3),(.var 0)])
noncomputable def Gm:List S:=[.ite (.cmp .Is (.call "first_untied" [(.var 0),(.compIf 1 (.val (.var 1)) Dt (.var 0))]) .cnone) [.ret (.var 2)] []]
noncomputable def F9:Fn:=⟨3,2,[.for (.one 2) (.val (.var 1)) Gm,.ret .cnone]⟩
noncomputable def Nv:List S:=[.expr (.lm .remove (.var 1) [(.var 3)]),.expr (.lm .append (.var 2) [(.var 3)]),.assign 3 (.call "least_to_go" [(.var 0),(.var 1)])]
noncomputable def Vq:Fn:=⟨4,1,[.assign 1 (.bi .listRange [(.attr (.var 0) .many)]),.assign 2 (.list []),.assign 3 (.call "least_to_go" [(.var 0),(.var 1)]),.while (.cmp .IsNot (.var 3) .cnone) Nv,.ret (.tuple [(.var 2),(.var 1)])]⟩
noncomputable def Kf:Fn:=⟨2,2,[.ite (.cmp .IsNot (.call "gap" [(.var 0),(.var 1)]) .cnone) [.raise] []]⟩
noncomputable def Nw:Fn:=⟨3,3,[.ret (.bi .sorted [(.bin .Add (.list [(.var 2)]) (.call "those_behind" [(.var 0),(.var 1),(.var 2)]))])]⟩
noncomputable def Kg:X:=(.meth "Web.tied" (.var 1) [(.var 3),(.var 0)])
noncomputable def Kh:List S:=[.ite (.and (.cmp .NotIn (.var 2) (.var 1)) (.bi .all [(.comp 1 (.val (.var 1)) Kg)])) [.ret (.cbool false)] []]
noncomputable def Pq:Fn:=⟨3,2,[.for (.one 2) (.range [(.attr (.var 0) .many)]) Kh,.ret (.cbool true)]⟩
noncomputable def Gn:List S:=[.assign 4 (.call "crowd_at" [(.var 0),(.var 1),(.var 3)]),.ite (.call "is_full" [(.var 0),(.var 4)]) [.expr (.lm .append (.var 2) [(.var 4)])] []]
noncomputable def Jm:Fn:=⟨5,2,[.expr (.call "need_whole" [(.var 0),(.var 1)]),.assign 2 (.list []),.for (.one 3) (.val (.var 1)) Gn,.ret (.var 2)]⟩
noncomputable def Ho:List S:=[.assign 1 (.bin .Add (.var 1) (.cint 1))]
noncomputable def Ki:Fn:=⟨2,1,[.assign 1 (.cint 0),.while (.cmp .In (.var 1) (.var 0)) Ho,.ret (.var 1)]⟩
noncomputable def Jn:X:=(.sub (.var 4) (.var 0))
noncomputable def Jo:List S:=[.setitem (.var 3) (.var 2) (.call "least_free" [(.comp 1 (.val (.call "those_behind" [(.var 0),(.var 1),(.var 2)])) Jn)])]
noncomputable def Nx:Fn:=⟨4,2,[.expr (.call "need_whole" [(.var 0),(.var 1)]),.assign 3 (.comp 1 (.val (.var 1)) (.cint 0)),.for (.one 2) (.rev (.var 1)) Jo,.ret (.var 3)]⟩
noncomputable def Hp:List S:=[.ite (.and (.cmp .NotIn (.var 7) (.var 2)) (.cmp .NotIn (.var 7) (.var 3))) [.setitem (.var 3) (.var 7) (.var 6),.expr (.lm .append (.var 4) [(.var 7)])] []]
noncomputable def Hq:List S:=[.assign 6 (.sub (.var 4) (.var 5)),.assign 5 (.bin .Add (.var 5) (.cint 1)),.for (.one 7) (.val (.meth "Web.beside" (.var 0) [(.var 6)])) Hp]
noncomputable def Eo:Fn:=⟨8,3,[.assign 3 (.dict [(.var 1)] [(.var 1)]),.assign 4 (.list [(.var 1)]),.assign 5 (.cint 0),.while (.cmp .Lt (.var 5) (.bi .len [(.var 4)])) Hq,.ret (.var 3)]⟩
noncomputable def R8:List S:=[.expr (.lm .append (.var 5) [(.sub (.var 4) (.sub (.var 5) (.neg (.cint 1))))])]
noncomputable def Y2:Fn:=⟨6,4,[.expr (.meth "Web.need" (.var 0) [(.var 1)]),.expr (.meth "Web.need" (.var 0) [(.var 2)]),.ite (.or (.cmp .In (.var 1) (.var 3)) (.cmp .In (.var 2) (.var 3))) [.ret .cnone] [],.assign 4 (.call "steps_from" [(.var 0),(.var 1),(.var 3)]),.ite (.cmp .NotIn (.var 2) (.var 4)) [.ret .cnone] [],.assign 5 (.list [(.var 2)]),.while (.cmp .NotEq (.sub (.var 5) (.neg (.cint 1))) (.var 1)) R8,.expr (.lm .reverse (.var 5) []),.ret (.var 5)]⟩
noncomputable def L8:List S:=[.setitem (.var 2) (.var 4) (.var 3)]
noncomputable def L9:List S:=[.ite (.and (.cmp .NotIn (.var 3) (.var 1)) (.cmp .NotIn (.var 3) (.var 2))) [.for (.one 4) (.val (.call "steps_from" [(.var 0),(.var 3),(.var 1)])) L8] []]
noncomputable def R9:Fn:=⟨5,2,[.assign 2 (.dict [] []),.for (.one 3) (.range [(.attr (.var 0) .many)]) L9,.ret (.var 2)]⟩
noncomputable def G5:List S:=[.ite (.cmp .In (.var 6) (.var 3)) [.assign 7 (.lm .setdefault (.var 4) [(.sub (.var 3) (.var 6)),(.list [])]),.ite (.or (.cmp .Eq (.var 7) (.list [])) (.cmp .NotEq (.sub (.var 7) (.neg (.cint 1))) (.var 5))) [.expr (.lm .append (.var 7) [(.var 5)])] []] []]
noncomputable def Kj:List S:=[.for (.one 6) (.val (.meth "Web.beside" (.var 0) [(.var 5)])) G5]
noncomputable def Kl:X:=(.cmp .NotIn (.var 0) (.var 10))
noncomputable def Km:List S:=[.assign 9 (.call "first_untied" [(.var 0),(.sub (.var 4) (.var 8))]),.ite (.cmp .IsNot (.var 9) .cnone) [.assign 10 (.compIf 1 (.val (.var 2)) Kl (.var 0)),.ret (.bin .Add (.list [(.var 1)]) (.call "way" [(.var 0),(.sub (.var 9) (.cint 0)),(.sub (.var 9) (.cint 1)),(.bin .Add (.var 10) (.list [(.var 1)]))]))] []]
noncomputable def Pr:Fn:=⟨11,2,[.assign 2 (.meth "Web.beside" (.var 0) [(.var 1)]),.assign 3 (.call "pieces" [(.var 0),(.bin .Add (.var 2) (.list [(.var 1)]))]),.assign 4 (.dict [] []),.for (.one 5) (.val (.var 2)) Kj,.for (.one 8) (.val (.bi .sorted [(.var 4)])) Km,.ret .cnone]⟩
noncomputable def Ia:List S:=[.assign 2 (.call "ring_at" [(.var 0),(.var 1)]),.ite (.cmp .IsNot (.var 2) .cnone) [.ret (.var 2)] []]
noncomputable def Ma:Fn:=⟨3,1,[.for (.one 1) (.val (.sub (.call "taken" [(.var 0)]) (.cint 1))) Ia,.ret .cnone]⟩
noncomputable def Du:Fn:=⟨6,6,[.setattr (.var 0) .order (.var 1),.setattr (.var 0) .ring (.var 2),.setattr (.var 0) .crowd (.var 3),.setattr (.var 0) .colours (.var 4),.setattr (.var 0) .many (.var 5)]⟩
noncomputable def Mb:List S:=[.ite (.cmp .Gt (.bi .len [(.var 4)]) (.bi .len [(.var 3)])) [.assign 3 (.var 4)] []]
noncomputable def Sa:Fn:=⟨5,1,[.assign 1 (.call "long_ring" [(.var 0)]),.ite (.cmp .IsNot (.var 1) .cnone) [.ret (.mk .verdict [.cnone,(.var 1),.cnone,.cnone,(.cint 0)])] [],.assign 2 (.sub (.call "taken" [(.var 0)]) (.cint 0)),.assign 3 (.list []),.for (.one 4) (.val (.call "full_crowds" [(.var 0),(.var 2)])) Mb,.ret (.mk .verdict [(.var 2),.cnone,(.var 3),(.call "coloured" [(.var 0),(.var 2)]),(.bi .len [(.var 3)])])]⟩
noncomputable def Ib:X:=(.tuple [(.call "_law_mixed" [(.call "_law_cell_at" [(.var 1),(.bin .Add (.cint 2) (.bin .Mod (.bin .Mult (.cint 11) (.var 0)) (.cint 61)))]),(.bin .Add (.bin .Mult (.cint 7) (.var 0)) (.cint 1))]),(.var 0)])
noncomputable def Ic:X:=(.sub (.var 0) (.cint 1))
noncomputable def Fq:Fn:=⟨3,2,[.assign 2 (.comp 1 (.range [(.var 1)]) Ib),.ret (.comp 1 (.val (.bi .sorted [(.var 2)])) Ic)]⟩
noncomputable def Hr:X:=(.cmp .In (.var 0) (.sub (.var 1) (.sub (.var 2) (.var 3))))
noncomputable def Ep:Fn:=⟨3,3,[.ret (.compIf 1 (.val (.slice (.var 1) (.bin .Add (.var 2) (.cint 1)) .omit .omit)) Hr (.var 0))]⟩
noncomputable def Hs:List S:=[.ite (.cmp .NotIn (.var 3) (.sub (.var 0) (.sub (.var 1) (.var 2)))) [.ret (.tuple [(.sub (.var 1) (.var 2)),(.var 3)])] []]
noncomputable def Ht:List S:=[.for (.one 3) (.val (.slice (.var 1) (.bin .Add (.var 2) (.cint 1)) .omit .omit)) Hs]
noncomputable def Dk:Fn:=⟨4,2,[.for (.one 2) (.range [(.bi .len [(.var 1)])]) Ht,.ret .cnone]⟩
noncomputable def G6:Fn:=⟨5,2,[.ite (.or (.cmp .Eq (.bin .Mod (.var 1) (.cint 2)) (.cint 0)) (.cmp .Lt (.bi .len [(.var 0)]) (.cint 4))) [.ret (.slice (.var 0) .omit .omit (.neg (.cint 1)))] [],.assign 2 (.bi .list [(.var 0)]),.assign 3 (.bin .Add (.cint 1) (.bin .Mod (.bin .FloorDiv (.var 1) (.cint 2)) (.bin .Sub (.bi .len [(.var 0)]) (.cint 2)))),.assign 4 (.bin .Add (.cint 1) (.bin .Mod (.bin .FloorDiv (.var 1) (.cint 122)) (.bin .Sub (.bi .len [(.var 0)]) (.cint 2)))),.setitem (.var 2) (.var 3) (.sub (.var 0) (.var 4)),.setitem (.var 2) (.var 4) (.sub (.var 0) (.var 3)),.ret (.var 2)]⟩
noncomputable def Jp:X:=(.cmp .In (.var 0) (.sub (.var 1) (.var 3)))
noncomputable def Jq:List S:=[.ite (.cmp .Is (.call "_law_untied" [(.var 0),(.compIf 1 (.val (.var 1)) Jp (.var 0))]) .cnone) [.ret (.var 2)] []]
noncomputable def G7:Fn:=⟨3,2,[.for (.one 2) (.val (.var 1)) Jq,.ret (.neg (.cint 1))]⟩
noncomputable def Mc:List S:=[.setitem (.var 4) (.var 5) (.cbool true)]
noncomputable def Md:List S:=[.assign 4 (.dict [] []),.for (.one 5) (.val (.meth "Web.beside" (.var 0) [(.var 3)])) Mc,.expr (.lm .append (.var 2) [(.var 4)])]
noncomputable def Me:X:=(.cmp .In (.var 0) (.sub (.var 3) (.var 4)))
noncomputable def Mf:List S:=[.ite (.cmp .NotIn (.var 5) (.sub (.var 2) (.var 10))) [.setitem (.sub (.var 2) (.var 10)) (.var 5) (.cbool true),.setitem (.sub (.var 2) (.var 5)) (.var 10) (.cbool true),.expr (.lm .append (.var 6) [(.tuple [(.bi .min [(.var 10),(.var 5)]),(.bi .max [(.var 10),(.var 5)])])])] []]
noncomputable def Mg:List S:=[.for (.one 5) (.val (.slice (.var 8) (.bin .Add (.var 9) (.cint 1)) .omit .omit)) Mf]
noncomputable def Mh:List S:=[.assign 8 (.compIf 1 (.val (.slice (.var 1) (.bin .Add (.var 7) (.cint 1)) .omit .omit)) Me (.var 0)),.for (.two 9 10) (.enum (.var 8)) Mg]
noncomputable def Ny:Fn:=⟨11,2,[.expr (.call "need_order" [(.var 0),(.var 1)]),.assign 2 (.list []),.for (.one 3) (.range [(.attr (.var 0) .many)]) Md,.assign 6 (.list []),.for (.two 7 3) (.enum (.var 1)) Mh,.ret (.bi .sorted [(.var 6)])]⟩
noncomputable def Fs:List S:=[.assign 5 (.call "_law_free" [(.var 1),(.var 2)]),.ite (.cmp .Lt (.var 5) (.cint 0)) [.ret .cnone] [],.expr (.lm .append (.var 3) [(.var 5)]),.expr (.lm .remove (.var 2) [(.var 5)])]
noncomputable def E2:Fn:=⟨6,2,[.assign 2 (.call "_law_keyed" [(.var 0),(.bi .len [(.var 1)])]),.assign 3 (.list []),.for (.one 4) (.range [(.bi .len [(.var 1)])]) Fs,.ret (.var 3)]⟩
noncomputable def Kn:X:=(.bi .list [(.var 0)])
noncomputable def Ko:List S:=[.ite (.and (.cmp .Lt (.var 6) (.var 7)) (.cmp .NotIn (.var 7) (.sub (.var 2) (.var 6)))) [.expr (.lm .append (.sub (.var 2) (.var 6)) [(.var 7)]),.expr (.lm .append (.sub (.var 2) (.var 7)) [(.var 6)]),.expr (.lm .append (.var 3) [(.tuple [(.var 6),(.var 7)])])] []]
noncomputable def Kq:List S:=[.for (.one 7) (.val (.var 5)) Ko]
noncomputable def Kr:List S:=[.assign 5 (.call "_law_behind" [(.var 2),(.var 1),(.var 4)]),.for (.one 6) (.val (.var 5)) Kq]
noncomputable def Ll:Fn:=⟨8,2,[.assign 2 (.comp 1 (.val (.var 0)) Kn),.assign 3 (.list []),.for (.one 4) (.range [(.bi .len [(.var 1)])]) Kr,.ret (.bi .sorted [(.var 3)])]⟩
noncomputable def Mi:List S:=[.ite (.not (.call "_law_numbers" [(.meth "Web.beside" (.var 5) [(.var 12)]),(.sub (.var 3) (.var 12))])) [.ret (.cbool false)] []]
noncomputable def Ie:List S:=[.ite (.cmp .Eq (.var 9) (.cint 1)) [.expr (.call "judged" [(.var 5)])] [],.ite (.cmp .Gt (.var 9) (.cint 0)) [.expr (.call "gap" [(.var 5),(.slice (.var 4) .omit .omit (.neg (.cint 1)))])] [],.expr (.lm .clear (.var 6) []),.expr (.lm .extend (.var 6) [(.var 10)]),.assign 11 (.call "filled" [(.var 5),(.var 6)]),.ite (.or (.cmp .NotEq (.var 6) (.var 10)) (.not (.call "_law_pairs" [(.var 11),(.call "_law_due" [(.var 3),(.var 10)])]))) [.ret (.cbool false)] [],.expr (.lm .append (.var 11) [(.tuple [(.cint 0),(.cint 0)])]),.expr (.lm .append (.var 7) [(.tuple [(.var 11),(.bi .list [(.var 11)])])]),.for (.one 12) (.range [(.var 1)]) Mi]
noncomputable def Ig:X:=(.cmp .Gt (.var 0) (.var 13))
noncomputable def Ih:X:=(.tuple [(.var 13),(.var 0)])
noncomputable def Ii:List S:=[.assign 13 (.bin .Add (.var 13) (.compIf 1 (.val (.sub (.var 3) (.var 12))) Ig Ih))]
noncomputable def Ij:List S:=[.ite (.or (.meth "Web.tied" (.var 5) [(.var 15),(.var 14)]) (.meth "Web.tied" (.var 5) [(.var 14),(.var 15)])) [.ret (.cbool false)] []]
noncomputable def Ik:X:=(.cmp .NotEq (.sub (.var 0) (.cint 0)) (.sub (.var 0) (.cint 1)))
noncomputable def Sb:Fn:=⟨16,1,[.assign 1 (.call "_law_many" [(.var 0)]),.assign 2 (.call "_law_ties" [(.var 0),(.var 1),(.call "_law_rows" [(.var 0),(.var 1)])]),.assign 3 (.call "_law_near" [(.var 1),(.var 2)]),.assign 4 (.call "_law_order" [(.var 0),(.var 3)]),.ite (.or (.cmp .Is (.var 4) .cnone) (.cmp .Eq (.bin .Mod (.call "_law_mixed" [(.call "_law_cell_at" [(.var 0),(.cint 1)]),(.cint 5)]) (.cint 2)) (.cint 1))) [.assign 4 (.call "_law_keyed" [(.var 0),(.var 1)])] [],.assign 5 (.call "web_of" [(.var 1),(.bi .list [(.var 2)])]),.assign 6 (.list []),.assign 7 (.list []),.assign 8 (.call "_law_mixed" [(.call "_law_cell_at" [(.var 0),(.cint 1)]),(.cint 7)]),.for (.two 9 10) (.enum (.list [(.var 4),(.call "_law_within" [(.var 4),(.var 8)]),(.bin .Add (.slice (.var 4) .omit (.cint 1) .omit) (.slice (.var 4) .omit (.cint 0) (.neg (.cint 1)))),(.var 4)])) Ie,.assign 13 (.list []),.for (.one 12) (.range [(.var 1)]) Ii,.ite (.not (.call "_law_pairs" [(.meth "Web.ties" (.var 5) []),(.var 13)])) [.ret (.cbool false)] [],.for (.two 15 14) (.val (.slice (.call "_law_due" [(.var 3),(.var 4)]) .omit (.cint 5) .omit)) Ij,.ret (.cmp .Eq (.compIf 1 (.val (.var 7)) Ik (.var 0)) (.list []))]⟩
end Mine.Internal
namespace Mine.Internal
open PySem
set_option genCtorIdx false in
structure Cx where
 names:List Str
 sc:Scope
 cmp:Bool
noncomputable def Ah1:Option NameKind->Bool
 | some .local=>true
 | some .cell=>true
 | some .free=>true
 | _=>false
noncomputable def Cx.slot(c:Cx)(x:Str):Option Nat:=if Ah1 (c.sc.names.lookup x)then c.names.idxOf? x else none
noncomputable def Vr:Option NameKind->Bool
 | some .local=>true
 | some .cell=>true
 | _=>false
noncomputable def Cx.own(c:Cx)(x:Str):Option Nat:=if Vr (c.sc.names.lookup x)then c.names.idxOf? x else none
noncomputable def Cx.global(c:Cx)(x:Str):Bool:=c.sc.names.lookup x==some .globalImplicit
theorem nn{α:Type}{P:Prop}{x:α}(h:(none:Option α)=some x):P:=by cases h
inductive B1{α β:Type}(o:Option α)(k:α->β)(y:β):Prop
 | mk (a:α) (h:o=some a) (e:k a=y)
inductive B2{α α' β:Type}(o:Option α)(o':Option α')(k:α->α'->β)(y:β):Prop
 | mk (a:α) (h:o=some a) (a':α') (h':o'=some a') (e:k a a'=y)
inductive B3{α α' γ β:Type}(o:Option α)(o':Option α')(p:Option γ)(k:α->α'->γ->β)(y:β):Prop
 | mk (a:α) (h:o=some a) (a':α') (h':o'=some a') (d:γ) (h3:p=some d) (e:k a a' d=y)
inductive B4{α α' γ δ β:Type}(o:Option α)(o':Option α')(p:Option γ)(p':Option δ)(k:α->α'->γ->δ->β)(y:β):Prop
 | mk (a:α) (h:o=some a) (a':α') (h':o'=some a') (d:γ) (h3:p=some d) (d':δ) (h4:p'=some d') (e:k a a' d d'=y)
theorem b1{α β:Type}{o:Option α}{k:α->β}{y:β}(h:(o >>= fun a=>pure (k a))=some y):B1 o k y:=by
 cases o with
 | none=>cases h
 | some a=>exact⟨a,rfl,Option.some.inj h⟩
theorem b2{α α' β:Type}{o:Option α}{o':Option α'}{k:α->α'->β}{y:β}(h:(o >>= fun a=>o' >>= fun b=>pure (k a b))=some y):B2 o o' k y:=by
 cases o with
 | none=>cases h
 | some a=>obtain⟨b,hb,e⟩:=b1 (show (o' >>= fun b=>pure (k a b))=some y from h);exact⟨a,rfl,b,hb,e⟩
theorem b3{α α' γ β:Type}{o:Option α}{o':Option α'}{p:Option γ}{k:α->α'->γ->β}{y:β}(h:(o >>= fun a=>o' >>= fun b=>p >>= fun d=>pure (k a b d))=some y):B3 o o' p k y:=by
 cases o with
 | none=>cases h
 | some a=>obtain⟨b,hb,d,hd,e⟩:=b2 (show (o' >>= fun b=>p >>= fun d=>pure (k a b d))=some y from h);exact⟨a,rfl,b,hb,d,hd,e⟩
theorem b4{α α' γ δ β:Type}{o:Option α}{o':Option α'}{p:Option γ}{p':Option δ}{k:α->α'->γ->δ->β}{y:β}(h:(o >>= fun a=>o' >>= fun b=>p >>= fun d=>p' >>= fun d'=>pure (k a b d d'))=some y):B4 o o' p p' k y:=by
 cases o with
 | none=>cases h
 | some a=>obtain⟨b,hb,d,hd,d',hd',e⟩:=b3 (show (o' >>= fun b=>p >>= fun d=>p' >>= fun d'=>pure (k a b d d'))=some y from h);exact⟨a,rfl,b,hb,d,hd,d',hd',e⟩
noncomputable def tab{α:Type}:List (Str×α)->Str->Option α
 | [],_=>none
 | p::r,x=>if x==p.1 then some p.2 else tab r x
theorem Vs{α:Type}{x:Str}{a:α}{t:List (Str×α)}(h:tab t x=some a):(x,a)∈t:=by
 induction t with
 | nil=>cases h
 | cons p r ih=>
   replace h:(if (x==p.1)=true then some p.2 else tab r x)=some a:=h
   by_cases q:(x==p.1)=true
   ·rw[if_pos q]at h
    cases h
    rw[beq_iff_eq.mp q]
    exact .head _
   ·rw[if_neg q]at h
    exact .tail _ (ih h)
noncomputable def Vt:List (Str×Ty):=[("int",.int),("bool",.bool),("list",.list),("tuple",.tuple)]
noncomputable def Y3(x:Str):Option Ty:=tab Vt x
noncomputable def Mj(x:Str):Option C2:=
 if x==("many" :Str)then some .many else if x==("rows" :Str)then some .rows else if x==("order" :Str)then some .order else if x==("ring" :Str)then some .ring
 else if x==("crowd" :Str)then some .crowd else if x==("colours" :Str)then some .colours else none
noncomputable def Vu:List (Str×LM):=[("append",.append),("clear",.clear),("count",.count),("extend",.extend),("index",.index),("remove",.remove),("reverse",.reverse),("setdefault",.setdefault)]
noncomputable def Acr(x:Str):Option LM:=tab Vu x
noncomputable def M9(x:Str):Option Str:=
 if x==("need" :Str)then some "Web.need" else if x==("beside" :Str)then some "Web.beside" else if x==("tied" :Str)then some "Web.tied" else if x==("ties" :Str)then some "Web.ties" else none
noncomputable def Y4:List (Str×(Nat×BI)):=[("len",(1,.len)),("list",(1,.list)),("sorted",(1,.sorted)),("max",(2,.max)),("min",(2,.min)),("all",(1,.all))]
noncomputable def Acs:List (Str×(Nat×BI))->Str->Nat->Option BI
 | [],_,_=>none
 | p::r,x,n=>if x==p.1&&n==p.2.1 then some p.2.2 else Acs r x n
theorem Sc{x:Str}{n:Nat}{b:BI}{t:List (Str×(Nat×BI))}(h:Acs t x n=some b):(x,(n,b))∈t:=by
 induction t with
 | nil=>cases h
 | cons p r ih=>
   replace h:(if (x==p.1&&n==p.2.1)=true then some p.2.2 else Acs r x n)=some b:=h
   by_cases q:(x==p.1&&n==p.2.1)=true
   ·rw[if_pos q]at h
    cases h
    have z:=Bool.and_eq_true_iff.mp q
    rw[beq_iff_eq.mp z.1,beq_iff_eq.mp z.2]
    exact .head _
   ·rw[if_neg q]at h
    exact .tail _ (ih h)
noncomputable def Act(x:Str)(n:Nat):Option BI:=Acs Y4 x n
noncomputable def Go(f:Str):Option (Qn×Str):=
 if f==("Web.__init__" :Str)then some (.web,"__init__")else if f==("Verdict.__init__" :Str)then some (.verdict,"__init__")else if f==("Web.need" :Str)then some (.web,"need")
 else if f==("Web.beside" :Str)then some (.web,"beside")else if f==("Web.tied" :Str)then some (.web,"tied")else if f==("Web.ties" :Str)then some (.web,"ties")else none
noncomputable def Afo:List Str:=["isinstance","range","enumerate","reversed","set","len","list","sorted","max","min","all","any","str","int","super","type"]
noncomputable def Acu(x:Str):Bool:=x==("MOST" :Str)||x==("FIGURES" :Str)
noncomputable def T9(names:List Str)(out sc:Scope)(ts:List Str):Bool:=
 (match ts with | [x,y]=>x != y|_=>true)&&sc.kind == .function&&sc.names.all (fun p=>p.2 != .local||ts.contains p.1 || !names.contains p.1)&&sc.names.all (fun p=>p.2 != .cell&&(p.2 != .local||sc.names.lookup p.1==some .local)&&(p.2 != .free||(out.names.lookup p.1==some .cell&&sc.names.lookup p.1==some .free)))
   && ts.all fun t=>sc.names.lookup t==some .local
noncomputable def Hv:Expr->Option Str
 | .Name x _=>some x
 | _=>none
noncomputable def Ae7:List Expr->Option (List Str)
 | [a,b]=>(match Hv a with
   | some x=>(match Hv b with
     | some y=>some [x,y]
     | none=>none)
   | none=>none)
 | _=>none
set_option backward.match.sparseCases false in
noncomputable def Cq:Expr->Option (List Str)
 | .Name x _=>some [x]
 | .Tuple es _ _=>Ae7 es
 | _=>none
theorem Ks{e:Expr}{x:Str}(h:Hv e=some x):∃p,e = .Name x p:=by
 refine Aa fun nY=>?_
 cases e<;>try exact @nn _ _ _ h
 case Name y p=>(refine nY ?_;clear nY;cases h;exact⟨p,rfl⟩)
theorem Y5{es:List Expr}{ts:List Str}(h:Ae7 es=some ts):∃x p y q,es = [.Name x p,.Name y q]/\ts = [x,y]:=by
 rcases es with _ | ⟨a,_ | ⟨b,_ | ⟨d,es⟩⟩⟩<;>try exact @nn _ _ _ h
 replace h:(match Hv a with|some x=>(match Hv b with|some y=>some [x,y]|none=>none)|none=>none)=some ts:=h
 cases ha:Hv a with
 | none=>rw[ha]at h;cases h
 | some x=>
   cases hb:Hv b with
   | none=>rw[ha,hb]at h;cases h
   | some y=>
     rw[ha,hb]at h
     cases h
     obtain⟨p,rfl⟩:=Ks ha
     obtain⟨q,rfl⟩:=Ks hb
     exact⟨x,p,y,q,rfl,rfl⟩
theorem Il{e:Expr}{ts:List Str}(h:Cq e=some ts):(∃x p,e = .Name x p/\ts = [x])\/(∃x p y q k r,e = .Tuple [.Name x p,.Name y q] k r/\ts = [x,y]):=by
 refine Aa fun no=>?_
 cases e<;>try exact @nn _ _ _ h
 case Name x p=>exact no (.inl ⟨x,p,rfl,(Option.some.inj h).symm⟩)
 case Tuple es k r=>
  obtain⟨x,p,y,q,rfl,e⟩:=Y5 h
  exact no (.inr ⟨x,p,y,q,k,r,rfl,e⟩)
set_option backward.match.sparseCases false in
noncomputable def Ua:Expr->Option (Expr×List Expr×Bool)
 | .Call g as kw _=>some (g,as,kw.isEmpty)
 | _=>none
theorem Xa{e g:Expr}{as:List Expr}(h:Ua e=some (g,as,true)):∃p,e = .Call g as [] p:=by
 cases e<;>try exact @nn _ _ _ h
 case Call g' as' kw p=>
  have h':=Option.some.inj h
  cases kw with
  | nil=>cases h';exact⟨p,rfl⟩
  | cons a b=>cases h'
noncomputable def Gp(e:Expr):Option (Str×List Expr):=match Ua e with
 | some (g,as,true)=>(match Hv g with
   | some x=>some (x,as)
   | none=>none)
 | _=>none
theorem Mk{e:Expr}{x:Str}{as:List Expr}(h:Gp e=some (x,as)):∃p p',e = .Call (.Name x p) as [] p':=by
 unfold Gp at h
 cases q:Ua e with
 | none=>rw[q]at h;cases h
 | some r=>
   refine Aa fun nY=>?_
   obtain⟨g,as',k⟩:=r
   rw[q]at h
   cases k with
   | false=>cases h
   | true=>
     obtain⟨p',rfl⟩:=Xa q
     cases q':Hv g with
     | none=>simp only[q']at h;cases h
     | some y=>
       simp only[q']at h
       cases h
       obtain⟨p,rfl⟩:=Ks q'
       refine nY ?_;clear nY
       exact⟨p,p',rfl⟩
noncomputable def G8(f:Expr->Option X):List Expr->Option (List X)
 | []=>some []
 | e::r=>do return (<-f e)::(<-G8 f r)
noncomputable def Ub(f:Expr->Option X):Option Expr->Option X
 | none=>some .omit
 | some e=>f e
noncomputable def Nz(f:Expr->Option X)(op:BoolOp):List Expr->Option X
 | []=>none
 | e::r=>(match r with
   | []=>f e
   | _=>(match op with
     | .And=>do return .and (<-f e) (<-Nz f op r)
     | .Or=>do return .or (<-f e) (<-Nz f op r)))
set_option backward.match.sparseCases false in
noncomputable def Kt:Expr->Bool
 | .Tuple .. =>true
 | _=>false
noncomputable def Y6(f:Expr->Option X)(c:Cx)(two:Bool)(e:Expr):Option X:=
 match Gp e with
 | some (x,args)=>
   if c.global x&&x==("range" :Str)then(if args.length==1||args.length==2 then do return .range (<-G8 f args)else none)
   else if c.global x&&x==("enumerate" :Str)then(match args with | [a]=>if two then do return .enum (<-f a)else none|_=>none)
   else if c.global x&&x==("reversed" :Str)then(match args with | [a]=>do return .rev (<-f a)|_=>none)
   else do return .val (<-f e)
 | none=>do return .val (<-f e)
noncomputable def Ps(c:Cx)(nm:Str)(args:List Expr):Option (List Expr):=match args with
 | [e]=>(match Gp e with
   | some (s,as)=>if c.global s&&s==nm then some as else none
   | none=>none)
 | _=>none
theorem Qq{c:Cx}{nm:Str}{args as:List Expr}(h:Ps c nm args=some as):∃sp sp',args = [.Call (.Name nm sp) as [] sp']/\c.global nm=true:=by
 refine Aa fun nY=>?_
 rcases args with _ | ⟨e,_ | ⟨e',r⟩⟩<;>try exact @nn _ _ _ h
 replace h:(match Gp e with|some (s,as)=>if c.global s&&s==nm then some as else none|none=>none)=some as:=h
 refine nY ?_;clear nY
 cases q:Gp e with
 | none=>rw[q]at h;cases h
 | some r=>
   refine Aa fun nY=>?_
   obtain⟨s,bs⟩:=r
   rw[q]at h
   replace h:(if (c.global s&&s==nm)=true then some bs else none)=some as:=h
   by_cases z:(c.global s&&s==nm)=true
   ·rw[if_pos z]at h
    cases h
    have z:c.global s=true/\s=nm:=by simpa using z
    obtain⟨sp,sp',rfl⟩:=Mk q
    refine nY ?_;clear nY
    rw[<-z.2]
    exact⟨sp,sp',rfl,z.1⟩
   ·rw[if_neg z]at h;cases h
noncomputable def Vv:List Expr->Option (Expr×Str)
 | [e,t]=>(match Hv t with
   | some x=>some (e,x)
   | none=>none)
 | _=>none
theorem Uc{args:List Expr}{e:Expr}{x:Str}(h:Vv args=some (e,x)):∃p,args = [e,.Name x p]:=by
 rcases args with _ | ⟨a,_ | ⟨b,_ | ⟨d,es⟩⟩⟩<;>try exact @nn _ _ _ h
 replace h:(match Hv b with|some x=>some (a,x)|none=>none)=some (e,x):=h
 cases q:Hv b with
 | none=>rw[q]at h;cases h
 | some y=>
   rw[q]at h
   cases h
   obtain⟨p,rfl⟩:=Ks q
   exact⟨p,rfl⟩
noncomputable def Vw(f:Expr->Option X)(c:Cx)(x:Str)(args:List Expr):Option X:=
 if x==("isinstance" :Str)then(match Vv args with
  | some (e,t)=>if c.global t then(match Y3 t with
    | some ty=>do return .bi (.isinst ty) [<-f e]
    | none=>none)else none
  | none=>none)
 else match Act x args.length with
  | some b=>(match b with
    | .list=>(match Ps c "range" args with
      | some as=>if as.length==1||as.length==2 then do return .bi .listRange (<-G8 f as)else none
      | none=>do return .bi b (<-G8 f args))
    | _=>do return .bi b (<-G8 f args))
  | none=>if Afo.contains x||(Go x).isSome||x==("__debug__" :Str)then none else if x==("Web" :Str)then do return .mk .web (<-G8 f args)else if x==("Verdict" :Str)then do return .mk .verdict (<-G8 f args)
    else do return .call x (<-G8 f args)
noncomputable def Im:Expr->Bool
 | .Call (.Name _ _) [] [] _=>false
 | _=>true
noncomputable def Io(r:Cx->Expr->Option X)(c:Cx)(e:Expr):Option X:=
 match e with
 | .Constant k _ _=>(match k with
   | .none=>some .cnone | .bool b=>some (.cbool b) | .int i=>some (.cint i)|_=>none)
 | .Name x _=>if x==("__debug__" :Str)||x==("__classdict__" :Str)then none else(match c.slot x with
   | some i=>some (.var i)
   | none=>if c.global x then(if Acu x then some (.glob x)else none)else none)
 | .UnaryOp .Not e _=>do return .not (<-r c e)
 | .UnaryOp .USub e _=>do return .neg (<-r c e)
 | .BoolOp op es _=>Nz (r c) op es
 | .BinOp l op e _=>do return .bin op (<-r c l) (<-r c e)
 | .Compare l [o] [e] _=>do return .cmp o (<-r c l) (<-r c e)
 | .Compare l [o,o'] [m,e] _=>do return .chain (<-r c l) o (<-r c m) o' (<-r c e)
 | .Call (.Name x _) args [] _=>if c.global x then Vw (r c) c x args else none
 | .Call (.Attribute o m ap) args [] p=>if ap.endLine==p.line&&decide (args.length<3)&&Im o then(match M9 m with
   | some g=>do return .meth g (<-r c o) (<-G8 (r c) args)
   | none=>do return .lm (<-Acr m) (<-r c o) (<-G8 (r c) args))else none
 | .Attribute o a _=>if Im o then do return .attr (<-r c o) (<-Mj a)else none
 | .Subscript o (.Slice l u st _) _=>do return .slice (<-r c o) (<-Ub (r c) l) (<-Ub (r c) u) (<-Ub (r c) st)
 | .Subscript o s _=>do return .sub (<-r c o) (<-r c s)
 | .List es _=>if es.length<100 then do return .list (<-G8 (r c) es)else none
 | .Tuple es _ _=>if es.length<100 then do return .tuple (<-G8 (r c) es)else none
 | .Dict [] [] _=>some (.dict [] [])
 | .Dict [some k] [v] _=>do return .dict [<-r c k] [<-r c v]
 | .ListComp elt [⟨t,it,ifs,a⟩] sc _=>(match Cq t with
   | some ts=>if a==0&&T9 c.names c.sc sc ts && !c.cmp then(match ifs with
      | []=>do return .comp ts.length (<-Y6 (r c) c (Kt t) it) (<-r ⟨ts++c.names,sc,true⟩ elt)
      | [cond]=>do return .compIf ts.length (<-Y6 (r c) c (Kt t) it) (<-r ⟨ts++c.names,sc,true⟩ cond) (<-r ⟨ts++c.names,sc,true⟩ elt)
      | _=>none)
     else none
   | none=>none)
 | _=>none
noncomputable def Ud:Nat->Cx->Expr->Option X
 | 0=>fun _ _=>none
 | n+1=>fun c e=>Io (Ud n) c e
noncomputable def O6(f:Stmt->Option S):List Stmt->Option (List S)
 | []=>some []
 | e::r=>do return (<-f e)::(<-O6 f r)
noncomputable def Ah3(c:Cx):List Str->Option Rw
 | []=>none
 | x::r=>(match r with
   | []=>(c.own x).map .one
   | y::r'=>(match r' with
     | []=>do return .two (<-c.own x) (<-c.own y)
     | _::_=>none))
noncomputable def Y7(c:Cx)(e:Expr):Option Rw:=match Cq e with
 | some ts=>Ah3 c ts
 | none=>none
theorem Acv{c:Cx}{e:Expr}{t:Rw}(h:Y7 c e=some t):(∃x p,e = .Name x p/\B1 (c.own x) Rw.one t)\/(∃x p y q k r,e = .Tuple [.Name x p,.Name y q] k r/\B2 (c.own x) (c.own y) Rw.two t):=by
 replace h:(match Cq e with|some ts=>Ah3 c ts|none=>none)=some t:=h
 cases q:Cq e with
 | none=>rw[q]at h;cases h
 | some ts=>
   refine Aa fun nY=>?_
   rcases Il q with⟨x,p,rfl,rfl⟩ | ⟨x,p,y,p',k,r,rfl,rfl⟩
   ·refine nY ?_;clear nY
    refine .inl ⟨x,p,rfl,?_⟩
    refine Aa fun nY=>?_
    obtain⟨i,hi,e⟩:=Option.map_eq_some_iff.mp (show (c.own x).map Rw.one=some t from h)
    refine nY ?_;clear nY
    exact⟨i,hi,e⟩
   ·refine nY ?_;clear nY
    exact .inr ⟨x,p,y,p',k,r,rfl,b2 (show ((c.own x) >>= fun i=>(c.own y) >>= fun j=>pure (Rw.two i j))=some t from h)⟩
set_option backward.match.sparseCases false in
noncomputable def Ku:Expr->Bool
 | .ListComp .. =>false
 | .SetComp .. =>false
 | .DictComp .. =>false
 | _=>true
noncomputable def Sd(n:Nat)(c:Cx)(t e:Expr):Option S:=
 match t with
 | .Name x _=>do return .assign (<-c.own x) (<-Ud n c e)
 | .Attribute o a _=>do return .setattr (<-Ud n c o) (<-Mj a) (<-Ud n c e)
 | .Subscript o i _=>(match i with
   | .Slice .. =>none
   | i=>do return .setitem (<-Ud n c o) (<-Ud n c i) (<-Ud n c e))
 | _=>none
set_option backward.match.sparseCases false in
noncomputable def Es(n:Nat)(r:Cx->Stmt->Option S)(c:Cx)(s:Stmt):Option S:=
 match s with
 | .Assign ts e _=>(match ts with
   | [t]=>Sd n c t e
   | _=>none)
 | .Expr e _=>if Ku e then do return .expr (<-Ud n c e)else none
 | .If t a b _=>do return .ite (<-Ud n c t) (<-O6 (r c) a) (<-O6 (r c) b)
 | .For t it body els _=>(match els with
   | []=>do return .for (<-Y7 c t) (<-Y6 (Ud n c) c (Kt t) it) (<-O6 (r c) body)
   | _=>none)
 | .While t body els _=>(match els with
   | []=>do return .while (<-Ud n c t) (<-O6 (r c) body)
   | _=>none)
 | .Return e _=>(match e with
   | some e=>do return .ret (<-Ud n c e)
   | none=>none)
 | .Pass _=>some .pass
 | .Raise _ _ _=>some .raise
 | _=>none
noncomputable def erS:Nat->Cx->Stmt->Option S
 | 0=>fun _ _=>none
 | n+1=>fun c s=>if c.cmp then none else Es (n+1) (erS n) c s
noncomputable def B0(params:Arguments)(sc:Scope):List Str:=
 params.args.map (·.arg)++(sc.names.filter fun p=>(p.2 == .local||p.2 == .cell) && !(params.args.any fun a=>a.arg==p.1)).map (·.1)
noncomputable def Ft(p:Arguments):Bool:=p.posonlyargs.isEmpty&&p.vararg.isNone&&p.kwonlyargs.isEmpty&&p.kw_defaults.isEmpty&&p.kwarg.isNone&&p.defaults.isEmpty
noncomputable def Acw(params:Arguments)(body:List Stmt)(sc:Scope):Option Fn:=
 if Ft params&&sc.kind == .function && !sc.isGenerator && !sc.isCoroutine then do
  let ns:=B0 params sc
  return ⟨ns.length,params.args.length,<-O6 (erS 40 ⟨ns,sc,false⟩) body⟩
 else none
end Mine.Internal
namespace Mine.Internal
open PySem PySem.W PyProof.Rows
set_option genCtorIdx false in
structure Wd where
 prog:Program
 w:World
 K:Frag
 cl:Qn->Addr
 aj:Heap
 os:OsState
 sa:Addr
 sn:List Int
 hsc:(O2 fun items=>Fe (aj.IsList sa items.toArray) (PyProof.Rows.IntsAre items sn) (items.length<=Bp))
variable {W:Wd}
noncomputable abbrev Wd.M(W:Wd):Model:=model W.prog W.w
inductive VR(W:Wd):V->Value->Prop
 | none:VR W .none .none
 | bool (b):VR W (.bool b) (.bool b)
 | int (i t):VR W (.int i) (.int i t)
 | ref (a):VR W (.ref a) (.ref a)
 | script:VR W (.script W.sn) (.ref W.sa)
inductive C5(W:Wd):List V->List Value->Prop
 | nil:C5 W [] []
 | cons {v c vs cs}:VR W v c->C5 W vs cs->C5 W (v::vs) (c::cs)
theorem C5.length:∀ {vs cs},C5 W vs cs->vs.length=cs.length
 | _,_,.nil=>rfl
 | _,_,.cons _ t=>by simp[t.length]
theorem C5.append:∀ {vs cs vs' cs'},C5 W vs cs->C5 W vs' cs'->C5 W (vs++vs') (cs++cs')
 | _,_,_,_,.nil,h=>h
 | _,_,_,_,.cons h t,h'=> .cons h (t.append h')
theorem C5.get:∀ {vs cs} (i:Nat) {v},C5 W vs cs->vs[i]? = some v->∃c,cs[i]? = some c/\VR W v c
 | _,_,0,_,.cons h _,e=>by simp at e;subst e;exact⟨_,rfl,h⟩
 | _,_,i+1,_,.cons _ t,e=>by simp at e;simpa using t.get i e
theorem C5.get':∀ {vs cs} (i:Nat) {c},C5 W vs cs->cs[i]? = some c->∃v,vs[i]? = some v/\VR W v c
 | _,_,0,_,.cons h _,e=>by simp at e;subst e;exact⟨_,rfl,h⟩
 | _,_,i+1,_,.cons _ t,e=>by simp at e;simpa using t.get' i e
theorem C5.set:∀ {vs cs} (i:Nat) {v c},C5 W vs cs->VR W v c->C5 W (vs.set i v) (cs.set i c)
 | _,_,_,_,_,.nil,_=> .nil
 | _,_,0,_,_,.cons _ t,h=> .cons h t
 | _,_,i+1,_,_,.cons h' t,h=> .cons h' (t.set i h)
theorem C5.take:∀ {vs cs} (n:Nat),C5 W vs cs->C5 W (vs.take n) (cs.take n)
 | _,_,0,_=>by simpa using C5.nil
 | _,_,_+1,.nil=> .nil
 | _,_,n+1,.cons h t=> .cons h (t.take n)
theorem C5.drop:∀ {vs cs} (n:Nat),C5 W vs cs->C5 W (vs.drop n) (cs.drop n)
 | _,_,0,h=>h
 | _,_,_+1,.nil=> .nil
 | _,_,n+1,.cons _ t=>t.drop n
theorem C5.reverse:∀ {vs cs},C5 W vs cs->C5 W vs.reverse cs.reverse
 | _,_,.nil=> .nil
 | _,_,.cons h t=>by simp only[List.reverse_cons];exact t.reverse.append (.cons h .nil)
theorem C5.replicate{vs cs}(h:C5 W vs cs):∀n,C5 W (List.replicate n vs).flatten (List.replicate n cs).flatten
 | 0=> .nil
 | n+1=>by simp only[List.replicate_succ,List.flatten_cons];exact h.append (h.replicate n)
noncomputable def A4:C2->Str
 | .many=> "many" | .rows=> "rows" | .order=> "order" | .ring=> "ring" | .crowd=> "crowd" | .colours=> "colours"
inductive Xb(W:Wd):List (C2×V)->List DictEntry->Prop
 | nil:Xb W [] []
 | cons {a v fs e es}:e.key.isStr (A4 a)=true->(∃t,e.key = .str (A4 a) t)->VR W v e.val->Xb W fs es->Xb W ((a,v)::fs) (e::es)
inductive Tz(W:Wd):List (Int×V)->List (Int×Value)->Prop
 | nil:Tz W [] []
 | cons {k v c es kvs}:VR W v c->Tz W es kvs->Tz W ((k,v)::es) ((k,c)::kvs)
inductive OR(W:Wd):O->Obj->Prop
 | list {xs items n}:C5 W xs items->xs.length<=Bp->OR W (.list xs) {cls:= .type "list",data:= .seq items.toArray n}
 | tuple {xs items n}:C5 W xs items->xs.length<=Bp->OR W (.tuple xs) {cls:= .type "tuple",data:= .seq items.toArray n}
 | dict {es kvs ob}:Tz W es kvs->es.length<=Bp->ob.IsDictOf (intKind W.prog W.w) kvs->OR W (.dict es) ob
 | inst {c d}:(c = .web\/c = .verdict)->OR W (.inst c d) (instObj (W.cl c) d)
 | ns {fs es n}:Xb W fs es->fs.length<=10->OR W (.ns fs) (dictOf es n)
set_option genCtorIdx false in
structure HB where
 h:Heap
 fs:List Addr
noncomputable def HB.get? (x:HB)(a:Addr):Option Obj:=x.h.get? a
noncomputable def Ue(W:Wd)(fs:List Addr)(b:Addr)(o o':Obj):Prop:=o'=o\/((b∈fs/\W.aj.get? b=none)/\∃sl,o' = {o with slots:=sl})
theorem Ue.refl{fs:List Addr}{b:Addr}{o:Obj}:Ue W fs b o o:= .inl rfl
theorem Ue.trans{fs:List Addr}{b:Addr}{o o' o'':Obj}(h:Ue W fs b o o')(h':Ue W fs b o' o''):Ue W fs b o o'':=by
 rcases h with rfl | ⟨d,sl,rfl⟩
 ·exact h'
 ·rcases h' with rfl | ⟨_,sl',rfl⟩
  ·exact .inr ⟨d,sl,rfl⟩
  ·exact .inr ⟨d,sl',rfl⟩
noncomputable def Gq(W:Wd)(h:HB)(h':Heap):Prop:=∀b o,h.get? b=some o->∃o',h'.get? b=some o'/\Ue W h.fs b o o'
theorem Gq.of{h:HB}{h':Heap}(k:∀b o,h.get? b=some o->h'.get? b=some o):Gq W h h':=fun b o e=>⟨o,k b o e,.refl⟩
theorem Gq.more{h:HB}{h' h'':Heap}(k:Gq W h h')(k':∀b o,h'.get? b=some o->h''.get? b=some o):Gq W h h'':=fun b o e=>
 let ⟨o',e1,s1⟩:=k b o e;⟨o',k' b o' e1,s1⟩
theorem Gq.trans{h am:HB}{h'':Heap}(k:Gq W h am.h)(hf:∀b o,h.get? b=some o->b∈am.fs->b∈h.fs)(k':Gq W am h''):Gq W h h'':=fun b o e=>
 let ⟨_,e1,s1⟩:=k b o e;let ⟨_,e2,s2⟩:=k' b _ e1;⟨_,e2,s1.trans (s2.imp id fun⟨⟨m,n⟩,z⟩=>⟨⟨hf b o e m,n⟩,z⟩)⟩
theorem Gq.exact{h:HB}{h':Heap}(k:Gq W h h'){b:Addr}{o:Obj}(e:h.get? b=some o)(hx:b∉h.fs\/W.aj.get? b≠none):h'.get? b=some o:=by
 refine Aa fun nY=>?_
 obtain⟨o',e1,s | ⟨⟨d,n⟩,_⟩⟩:=k b o e
 ·refine nY ?_;clear nY
  rw[e1,s]
 ·rcases hx with hx|hx
  ·exact absurd d hx
  ·exact absurd n hx
theorem Gq.ns{h:HB}{h':Heap}(k:Gq W h h'){a:Addr}{m:Str->Option Value}(x:h.h.Ns a m):h'.Ns a m:=by
 refine Aa fun nY=>?_
 obtain⟨o,es,ep,ho,hd,r⟩:=x
 obtain⟨o',e1,s⟩:=k a o ho
 refine nY ?_;clear nY
 refine⟨o',es,ep,e1,?_,r⟩
 rcases s with rfl | ⟨_,_,rfl⟩<;>exact hd
theorem Gq.none{h:HB}{h':Heap}(k:Gq W h h'){b:Addr}(e:h'.get? b=none):h.get? b=none:=by
 cases q:h.get? b with
 | none=>rfl
 | some o=>obtain⟨_,e1,_⟩:=k b o q;rw[e]at e1;cases e1
structure Av(W:Wd)(aa:HB)(env:Env)(names:List Str)(H:AH)(ρ:Ak)(s:Shared):Prop where
 ns:∃m,s.heap.Ns env.locals m/\∀x i v,names.idxOf? x=some i->env.kindOf x=some .local->ρ[i]? = some (some v)->∃c,m x=some c/\VR W v c
 cell:∀x a,env.cells.lookup x=some a->∃w,s.heap.IsCell a w/\∀i v,names.idxOf? x=some i->(env.kindOf x=some .cell\/env.kindOf x=some .free)->ρ[i]? = some (some v)->∃c,w=some c/\VR W v c
 keep:Gq W aa s.heap
 objs:∀a o,H a=some o->∃ob,s.heap.get? a=some ob/\OR W o ob
 sep:∀a o,H a=some o->aa.get? a=none/\a≠env.locals/\∀x,env.cells.lookup x≠some a
 gens:s.gens = #[]
 os:s.os=W.os
 above:W.aj.objs.size<=env.locals
 low:∀a es,H a=some (.dict es)->W.aj.objs.size<=a
structure Ap(W:Wd)(env:Env)(c:Cx)(aa:HB):Prop where
 kind:env.scope.kind = .function
 globals:env.globals=mainGlobals
 builtins:env.builtins=builtinsNs
 kinds:∀x k,c.sc.names.lookup x=some k->k≠ .free->env.kindOf x=some k
 frees:∀x,c.sc.names.lookup x=some .free->env.kindOf x=some .cell\/env.kindOf x=some .free
 cells:∀x,env.kindOf x=some .cell\/env.kindOf x=some .free->∃a,env.cells.lookup x=some a
 apart:∀x a,env.cells.lookup x=some a->a≠env.locals
 inj:∀x y a,env.cells.lookup x=some a->env.cells.lookup y=some a->x=y
 base:∀b o,W.aj.get? b=some o->aa.get? b=some o
 new:aa.get? env.locals=none
 fsok:∀L∈aa.fs,aa.get? L≠none
 fsd:∀L∈aa.fs,W.aj.get? L=none/\∀o,aa.get? L=some o->∀vs,o.data≠ .fields vs
 newc:∀p∈env.cells,aa.get? p.2=none
 look:∀p∈env.cells,env.cells.lookup p.1=some p.2
 lo:sysModules<W.aj.objs.size
section
variable {aa:HB} {env:Env} {names:List Str} {H:AH} {ρ:Ak} {s:Shared}
theorem Av.toks(R:Av W aa env names H ρ s)(t:Nat):Av W aa env names H ρ {s with toks:=t}:=⟨R.ns,R.cell,R.keep,R.objs,R.sep,R.gens,R.os,R.above,R.low⟩
theorem Av.move(R:Av W aa env names H ρ s){h':Heap}(t:Nat)(k:∀b o,s.heap.get? b=some o->h'.get? b=some o):Av W aa env names H ρ {s with heap:=h',toks:=t} where
 ns:=let ⟨m,a,b⟩:=R.ns;⟨m,a.keeps k,b⟩
 cell:=fun x a e=>let ⟨w,⟨o,ho,hd⟩,r⟩:=R.cell x a e;⟨w,⟨o,k _ _ ho,hd⟩,r⟩
 keep:=R.keep.more k
 objs:=fun a o e=>let ⟨ob,h1,h2⟩:=R.objs a o e;⟨ob,k _ _ h1,h2⟩
 sep:=R.sep
 gens:=R.gens
 os:=R.os
 above:=R.above
 low:=R.low
theorem Qr{h aa:Heap}(k:∀b o,aa.get? b=some o->h.get? b=some o):aa.get? h.objs.size=none:=by
 cases q:aa.get? h.objs.size with
 | none=>rfl
 | some o=>exact absurd (Heap.lt_size (k _ _ q)) (Nat.lt_irrefl _)
theorem Av.fresh(R:Av W aa env names H ρ s):H s.heap.objs.size=none:=by
 cases q:H s.heap.objs.size with
 | none=>rfl
 | some o=>obtain⟨ob,h1,_⟩:=R.objs _ _ q;exact absurd (Heap.lt_size h1) (Nat.lt_irrefl _)
theorem Pt{a:Addr}{h:Heap}(ha:h.objs.size<=a):h.get? a=none:=by
 cases q:h.get? a with
 | none=>rfl
 | some o=>exact absurd (Heap.lt_size q) (Nat.not_lt.mpr ha)
theorem Av.up(R:Av W aa env names H ρ s):W.aj.objs.size<=s.heap.objs.size:=by
 obtain⟨m,h,_⟩:=R.ns;exact Af R.above (Nat.le_of_lt h.lt)
theorem Av.put(R:Av W aa env names H ρ s){h':Heap}{a:Addr}{o:O}{ob:Obj}(t:Nat)(k:∀b o,s.heap.get? b=some o->h'.get? b=some o)
 (ho:h'.get? a=some ob) (r:OR W o ob) (hn:s.heap.get? a=none) (hb:∀es,o = .dict es->W.aj.objs.size<=a):Av W aa env names (upd H a o) ρ {s with heap:=h',toks:=t} where
 ns:=let ⟨m,x,b⟩:=R.ns;⟨m,x.keeps k,b⟩
 cell:=fun x a e=>let ⟨w,⟨o,ho,hd⟩,r⟩:=R.cell x a e;⟨w,⟨o,k _ _ ho,hd⟩,r⟩
 keep:=R.keep.more k
 objs:=fun b o' e=>by
  unfold upd at e
  split at e
  ·rename_i q;subst q;cases e;exact⟨ob,ho,r⟩
  ·obtain⟨ob',h1,h2⟩:=R.objs b o' e;exact⟨ob',k _ _ h1,h2⟩
 sep:=fun b o' e=>by
  unfold upd at e
  split at e
  ·rename_i q;subst q
   refine⟨?_,?_,?_⟩
   ·exact R.keep.none hn
   ·rintro rfl;obtain⟨m,⟨o,_,_,h,_⟩,_⟩:=R.ns;rw[h]at hn;cases hn
   ·intro x q;obtain⟨w,⟨o,h,_⟩,_⟩:=R.cell x b q;rw[h]at hn;cases hn
  ·exact R.sep b o' e
 gens:=R.gens
 os:=R.os
 above:=R.above
 low:=fun b o' e=>by
  unfold upd at e
  split at e
  ·rename_i q;subst q;exact hb _ (Option.some.inj e)
  ·exact R.low b o' e
theorem B5(h:Heap):h.get? h.objs.size=none:=by
 cases q:h.get? h.objs.size with
 | none=>rfl
 | some o=>exact absurd (Heap.lt_size q) (Nat.lt_irrefl _)
theorem Av.change(R:Av W aa env names H ρ s){h':Heap}{a:Addr}{o o':O}{ob:Obj}(t:Nat)(he:H a=some o')(k:Heap.SameBut a s.heap h')
 (ho:h'.get? a=some ob) (r:OR W o ob) (hl:∀es,o = .dict es->∃es',o' = .dict es'):Av W aa env names (upd H a o) ρ {s with heap:=h',toks:=t}:=by
 refine Aa fun nY=>?_
 obtain⟨s1,s2,s3⟩:=R.sep a o' he
 refine nY ?_;clear nY
 refine⟨?_,?_,?_,?_,?_,R.gens,R.os,R.above,?_⟩
 ·obtain⟨m,x,b⟩:=R.ns;exact⟨m,x.sameBut k (Ne.symm s2),b⟩
 ·intro x c e
  refine Aa fun nY=>?_
  obtain⟨w,⟨oc,hc,hd⟩,r⟩:=R.cell x c e
  refine nY ?_;clear nY
  exact⟨w,⟨oc,(k.2 c (fun q=>s3 x (q▸e))).trans hc,hd⟩,r⟩
 ·intro b x e
  refine Aa fun nY=>?_
  obtain⟨x',e1,z⟩:=R.keep b x e
  refine nY ?_;clear nY
  exact⟨x',(k.2 b (fun q=>by rw[q,s1]at e;cases e)).trans e1,z⟩
 ·intro b x e
  unfold upd at e
  refine Aa fun nY=>?_
  split at e
  ·refine nY ?_;clear nY
   rename_i q;subst q;cases e;exact⟨ob,ho,r⟩
  ·refine nY ?_;clear nY
   rename_i q;obtain⟨ob',h1,h2⟩:=R.objs b x e;exact⟨ob',(k.2 b q).trans h1,h2⟩
 ·intro b x e
  unfold upd at e
  refine Aa fun nY=>?_
  split at e
  ·refine nY ?_;clear nY
   rename_i q;subst q;exact⟨s1,s2,s3⟩
  ·refine nY ?_;clear nY
   exact R.sep b x e
 ·intro b x e
  unfold upd at e
  refine Aa fun nY=>?_
  split at e
  ·refine nY ?_;clear nY
   rename_i q;subst q;obtain⟨es',rfl⟩:=hl _ (Option.some.inj e);exact R.low b _ he
  ·refine nY ?_;clear nY
   exact R.low b x e
theorem Av.keepB{c:Cx}(R:Av W aa env names H ρ s)(Y:Ap W env c aa):∀b o,W.aj.get? b=some o->s.heap.get? b=some o:=fun b o e=>
 R.keep.exact (Y.base b o e) (.inr (by rw[e];nofun))
theorem Av.fsd{c:Cx}(R:Av W aa env names H ρ s)(Y:Ap W env c aa){L:Addr}(m:L∈aa.fs):∃o,s.heap.get? L=some o/\∀vs,o.data≠ .fields vs:=by
 cases q:aa.get? L with
 | none=>exact absurd q (Y.fsok L m)
 | some o=>
   obtain⟨o',e1,z⟩:=R.keep L o q
   refine⟨o',e1,?_⟩
   rcases z with z | ⟨_,sl,z⟩<;>rw[z]<;>exact(Y.fsd L m).2 o q
theorem Av.script{c:Cx}(Y:Ap W env c aa)(R:Av W aa env names H ρ s):(O2 fun items=>Fe (s.heap.IsList W.sa items.toArray) (IntsAre items W.sn) (items.length<=Bp)):=by
 refine Aa fun nY=>?_
 obtain⟨items,⟨o,h1,h2⟩,h3,h4⟩:=W.hsc
 refine nY ?_;clear nY
 exact⟨items,⟨o,R.keepB Y _ _ h1,h2⟩,h3,h4⟩
end
end Mine.Internal
namespace Mine.Internal
open PySem PySem.W PyProof.Rows
variable {W:Wd} {A:Around} {aa:HB} {env:Env} {c:Cx} {names:List Str} {H:AH} {ρ:Ak} {s:Shared} {E:Value->Shared->Prop} {n:Nat} {Er:EP}
noncomputable def Bi(W:Wd)(aa:HB)(env:Env)(names:List Str)(ρ:Ak)(Q:Ag)(v:Value)(s':Shared):Prop:=(Jy fun a H'=>Fe (VR W a v) (Av W aa env names H' ρ s') (Q a H'))
structure Pu(A:Around)(c:Cx)(aa:HB)(env:Env)(n:Nat):Prop where
 handled:A.handled=none
 room:A.depth+4*n+4<recursionLimit
 units:A.units+30*n+60<cLine
noncomputable def Hy(aa:HB)(env:Env)(H:AH)(hs:List Addr):Prop:=∀b∈hs,H b=none/\aa.get? b=none/\b≠env.locals/\∀p∈env.cells,p.2≠b
noncomputable def EM(_:Value)(_:Shared):Prop:=False
theorem EM.ef{P:Prop}{v:Value}{s:Shared}(x:EM v s):P:=False.elim x
noncomputable def G9(aj:Heap)(L:Addr)(h:Heap):List (Addr×Obj):=(List.range h.objs.size).filterMap fun a=>if a=L\/(aj.get? a).isSome=true then none else(h.get? a).map fun o=>(a,o)
/-! what an operation wants,told apart once -/
theorem Bx{P:Nat->Prop}{g:V->Value->Prop}{v:V}{u:Value}(h:VR W v u)(q:A1 v P)(k:∀a,P a->g (.ref a) (.ref a)):g v u:=by
 induction h with
 | ref a=>exact k a q
 | _=>exact False.elim q
theorem Az{P:Int->Prop}{g:V->Value->Prop}{v:V}{u:Value}(h:VR W v u)(q:Ar v P)(k:∀i t,P i->g (.int i) (.int i t)):g v u:=by
 induction h with
 | int i t=>exact k i t q
 | _=>exact False.elim q
theorem Y8{P:Int->Prop}{g:Prop}{v:V}(q:Ar v P)(k:∀i,P i->g):g:=by
 cases v<;>first|exact k _ q|exact False.elim q
theorem Ae8{P:Prop}{g:List V->List Value->Prop}{vs:List V}{us:List Value}(h:C5 W vs us)(q:Ry vs P)(k:P->g [] []):g vs us:=by
 cases h with
 | nil=>exact k q
 | cons=>exact False.elim q
theorem Ml{P:V->Prop}{g:List V->List Value->Prop}{vs:List V}{us:List Value}(h:C5 W vs us)(q:M4 vs P)(k:∀v u,VR W v u->P v->g [v] [u]):g vs us:=by
 cases h with
 | nil=>exact False.elim q
 | cons h t=>cases t with
   | nil=>exact k _ _ h q
   | cons=>exact False.elim q
theorem Y9{P:V->V->Prop}{g:List V->List Value->Prop}{vs:List V}{us:List Value}(h:C5 W vs us)(q:Rr vs P)(k:∀v w u x,VR W v u->VR W w x->P v w->g [v,w] [u,x]):g vs us:=by
 cases h with
 | nil=>exact False.elim q
 | cons h t=>cases t with
   | nil=>exact False.elim q
   | cons h' t=>cases t with
     | nil=>exact k _ _ _ _ h h' q
     | cons=>exact False.elim q
theorem E3{o:Option O}{P:List V->Prop}{g:Prop}(q:Gh o P)(k:∀xs,o=some (.list xs)->P xs->g):g:=by
 cases o with
 | none=>exact False.elim q
 | some x=>cases x<;>first|exact k _ rfl q|exact False.elim q
theorem Ah5{o:Option O}{P:List (Int×V)->Prop}{g:Prop}(q:Tx o P)(k:∀xs,o=some (.dict xs)->P xs->g):g:=by
 cases o with
 | none=>exact False.elim q
 | some x=>cases x<;>first|exact k _ rfl q|exact False.elim q
theorem Se{o:Option O}{P:Qn->Nat->Prop}{g:Prop}(q:Ng o P)(k:∀c d,o=some (.inst c d)->P c d->g):g:=by
 cases o with
 | none=>exact False.elim q
 | some x=>cases x<;>first|exact k _ _ rfl q|exact False.elim q
theorem Acx{o:Option O}{P:Nat->Prop}{g:Prop}(q:Vi o P)(k:∀d,o=some (.inst .web d)->P d->g):g:=by
 cases o with
 | none=>exact False.elim q
 | some x=>cases x with
   | inst c d=>cases c<;>first|exact k _ rfl q|exact False.elim q
   | _=>exact False.elim q
theorem Uf{o:Option O}{P:List (C2×V)->Prop}{g:Prop}(q:Rx o P)(k:∀fs,o=some (.ns fs)->P fs->g):g:=by
 cases o with
 | none=>exact False.elim q
 | some x=>cases x<;>first|exact k _ rfl q|exact False.elim q
theorem Cn{α:Type}{o:Option α}{P:α->Prop}{g:Prop}(q:Ff o P)(k:∀x,o=some x->P x->g):g:=by
 cases o with
 | none=>exact False.elim q
 | some x=>exact k x rfl q
theorem Ha{aj:Heap}{L:Addr}{h:Heap}{a:Addr}{o:Obj}:(a,o)∈G9 aj L h↔a≠L/\aj.get? a=none/\h.get? a=some o:=by
 unfold G9
 rw[List.mem_filterMap]
 constructor
 ·rintro hP1
  refine Aa fun nY=>?_
  obtain⟨b,hb,e⟩:=hP1
  split at e
  ·cases e
  ·rename_i q
   obtain⟨o',h1,h2⟩:=Option.map_eq_some_iff.mp e
   cases h2
   simp only[not_or,Bool.not_eq_true,Option.isSome_eq_false_iff,Option.isNone_iff_eq_none]at q
   refine nY ?_;clear nY
   exact⟨q.1,q.2,h1⟩
 ·rintro hP2
  refine Aa fun nY=>?_
  obtain⟨h1,h2,h3⟩:=hP2
  refine nY ?_;clear nY
  refine⟨a,List.mem_range.mpr (Heap.lt_size h3),?_⟩
  rw[if_neg (by simp[h1,h2]),h3];rfl
theorem Av.kitF(R:Av W aa env names H ρ s)(Y:Ap W env c aa):∃m,Fr W.aj env.locals s.heap m:=
 let ⟨m,hm,_⟩:=R.ns;⟨m,hm,R.keepB Y,R.above⟩
theorem Xc:News W.aj env.locals s.heap (G9 W.aj env.locals s.heap):=fun p hp=>by
 obtain⟨a,o⟩:=p
 obtain⟨h1,h2,h3⟩:=Ha.mp hp
 exact⟨h3,h1,h2⟩
theorem Vx(R:Av W aa env names H ρ s)(Y:Ap W env c aa){m:Str->Option Value}{h':Heap}{news':List (Addr×Obj)}(F':Fr W.aj env.locals h' m)(N':News W.aj env.locals h' news')
 (sub:∀p∈G9 W.aj env.locals s.heap,p∈news'):∀b o,b≠env.locals->s.heap.get? b=some o->h'.get? b=some o:=fun b o hb e=>by
 cases q:W.aj.get? b with
 | some o'=>have e1:=R.keepB Y b o' q;rw[e]at e1;cases e1;exact F'.keep b _ q
 | none=>exact(N' (b,o) (sub _ (Ha.mpr ⟨hb,q,e⟩))).1
theorem Av.moveL(R:Av W aa env names H ρ s)(Y:Ap W env c aa){h':Heap}(t:Nat){m:Str->Option Value}(hm:s.heap.Ns env.locals m)(hm':h'.Ns env.locals m)
 (k:∀b o,b≠env.locals->s.heap.get? b=some o->h'.get? b=some o):Av W aa env names H ρ {s with heap:=h',toks:=t} where
 ns:=by
  refine Aa fun nY=>?_
  obtain⟨aV,h1,h2⟩:=R.ns
  refine nY ?_;clear nY
  refine⟨m,hm',fun x i v e1 e2 e3=>?_⟩
  refine Aa fun nY=>?_
  obtain⟨c,h3,h4⟩:=h2 x i v e1 e2 e3
  refine nY ?_;clear nY
  refine⟨c,?_,h4⟩
  refine Aa fun nY=>?_
  obtain⟨o,es,ep,a1,a2,a3,a4⟩:=h1
  obtain⟨o',es',ep',b1,b2,b3,b4⟩:=hm
  rw[a1]at b1;cases b1
  rw[a2]at b2;cases b2
  refine nY ?_;clear nY
  rw[<-b4,a4];exact h3
 cell:=fun x a e=>let ⟨w,⟨o,ho,hd⟩,r⟩:=R.cell x a e;⟨w,⟨o,k _ _ (Y.apart x a e) ho,hd⟩,r⟩
 keep:=fun b o e=>let ⟨o',e1,z⟩:=R.keep b o e;⟨o',k _ _ (fun q=>by rw[q,Y.new]at e;cases e) e1,z⟩
 objs:=fun a o e=>let ⟨ob,h1,h2⟩:=R.objs a o e;⟨ob,k _ _ (R.sep a o e).2.1 h1,h2⟩
 sep:=R.sep
 gens:=R.gens
 os:=R.os
 above:=R.above
 low:=R.low
theorem Av.add(R:Av W aa env names H ρ s){a:Addr}{o:O}{ob:Obj}(ho:s.heap.get? a=some ob)(r:OR W o ob)(hn:H a=none)(hh:aa.get? a=none)(hl:a≠env.locals)(hc:∀x,env.cells.lookup x≠some a)(hb:W.aj.objs.size<=a) :
 Av W aa env names (upd H a o) ρ s where
 ns:=R.ns
 cell:=R.cell
 keep:=R.keep
 objs:=fun b o' e=>by
  unfold upd at e
  split at e
  ·rename_i q;subst q;cases e;exact⟨ob,ho,r⟩
  ·exact R.objs b o' e
 sep:=fun b o' e=>by
  unfold upd at e
  split at e
  ·rename_i q;subst q;exact⟨hh,hl,hc⟩
  ·exact R.sep b o' e
 gens:=R.gens
 os:=R.os
 above:=R.above
 low:=fun b o' e=>by
  unfold upd at e
  split at e
  ·rename_i q;subst q;exact hb
  ·exact R.low b o' e
theorem Av.new_sep(R:Av W aa env names H ρ s){a:Addr}(hn:s.heap.get? a=none)(hb:W.aj.objs.size<=a):H a=none/\aa.get? a=none/\a≠env.locals/\(∀x,env.cells.lookup x≠some a)/\W.aj.objs.size<=a:=by
 refine⟨?_,?_,?_,?_,hb⟩
 ·cases q:H a with
  | none=>rfl
  | some o=>obtain⟨ob,h1,_⟩:=R.objs _ _ q;rw[hn]at h1;cases h1
 ·exact R.keep.none hn
 ·rintro rfl;obtain⟨m,⟨o,_,_,h,_⟩,_⟩:=R.ns;rw[h]at hn;cases hn
 ·intro x q;obtain⟨w,⟨o,h,_⟩,_⟩:=R.cell x a q;rw[h]at hn;cases hn
theorem Na(R:Av W aa env names H ρ s)(Y:Ap W env c aa){m:Str->Option Value}{h':Heap}{a:Addr}{ob:Obj}{o:O}{t:Nat}(F:Fr W.aj env.locals s.heap m)(F':Fr W.aj env.locals h' m)
 (N':News W.aj env.locals h' ((a,ob)::G9 W.aj env.locals s.heap)) (hn:s.heap.objs.size<=a) (r:OR W o ob):H a=none/\Av W aa env names (upd H a o) ρ {s with heap:=h',toks:=t}:=by
 refine Aa fun nY=>?_
 obtain⟨q1,q2,q3,q4,q5⟩:=R.new_sep (Pt hn) (Af R.up hn)
 have R':=R.moveL Y t F.ns F'.ns (Vx R Y F' N' fun p hp=> .tail _ hp)
 refine nY ?_;clear nY
 exact⟨q1,R'.add (N' (a,ob) (.head _)).1 r q1 q2 q3 q4 q5⟩
theorem Sf(R:Av W aa env names H ρ s)(Y:Ap W env c aa){m:Str->Option Value}{h':Heap}{t:Nat}(F:Fr W.aj env.locals s.heap m)(F':Fr W.aj env.locals h' m)
 (N':News W.aj env.locals h' (G9 W.aj env.locals s.heap)):Av W aa env names H ρ {s with heap:=h',toks:=t}:=R.moveL Y t F.ns F'.ns (Vx R Y F' N' fun _ hp=>hp)
theorem Bw:Bp<=sizeLine:=by decide
theorem D2{xs:List V}{items:List Value}(h:C5 W xs items)(hz:xs.length<=Bp){n:Nat}:OR W (.list xs) {cls:= .type "list",data:= .seq items.toArray n}:= .list h hz
theorem Av.push(R:Av W aa env names H ρ s){o:O}{ob:Obj}(r:OR W o ob)(hf:ob.isFreed=false)(t:Nat):Av W aa env names (upd H s.heap.objs.size o) ρ {s with heap:=s.heap.push ob,toks:=t}:=
 R.put t (fun _ _ e=>Heap.get?_push_of_some _ e) (Heap.get?_push_size _ hf) r (B5 _) fun _ _=>R.up
theorem Av.pushHid(R:Av W aa env names H ρ s)(ob:Obj)(t:Nat):Av W aa env names H ρ {s with heap:=s.heap.push ob,toks:=t}:=R.move t fun _ _ e=>Heap.get?_push_of_some _ e
theorem Av.isList(R:Av W aa env names H ρ s){a:Addr}{xs:List V}(e:H a=some (.list xs)):(O2 fun items=>Fe (s.heap.IsList a items.toArray) (C5 W xs items) (xs.length<=Bp)):=by
 refine Aa fun nY=>?_
 obtain⟨ob,h1,h2⟩:=R.objs a _ e
 cases h2 with
 | list r z=>(refine nY ?_;clear nY;exact⟨_,⟨_,h1,rfl,_,rfl⟩,r,z⟩)
theorem Av.isTup(R:Av W aa env names H ρ s){a:Addr}{xs:List V}(e:H a=some (.tuple xs)):(O2 fun items=>Fe (IsTup s.heap a items.toArray) (C5 W xs items) (xs.length<=Bp)):=by
 refine Aa fun nY=>?_
 obtain⟨ob,h1,h2⟩:=R.objs a _ e
 cases h2 with
 | tuple r z=>(refine nY ?_;clear nY;exact⟨_,⟨_,h1,rfl,_,rfl⟩,r,z⟩)
theorem Av.lst(R:Av W aa env names H ρ s){a:Addr}{xs:List V}(e:H a=some (.list xs)):(Jy fun items n=>Fe (s.heap.get? a=some {cls:= .type "list",data:= .seq items.toArray n}) (C5 W xs items) (xs.length<=Bp)):=by
 refine Aa fun nY=>?_
 obtain⟨ob,h1,h2⟩:=R.objs a _ e
 cases h2 with
 | list r z=>(refine nY ?_;clear nY;exact⟨_,_,h1,r,z⟩)
theorem Av.changeL(R:Av W aa env names H ρ s){a:Addr}{xs xs':List V}{items:List Value}{n:Nat}(e:H a=some (.list xs))(ho:s.heap.get? a=some {cls:= .type "list",data:= .seq items.toArray n})
 (f:Array Value->Array Value) {items':List Value} (hf:f items.toArray=items'.toArray) (r:C5 W xs' items') (z:xs'.length<=Bp) (t:Nat) :
 Av W aa env names (upd H a (.list xs')) ρ {s with heap:=s.heap.update a (Obj.mapSeq f),toks:=t}:=by
 refine R.change t e (Heap.SameBut.update ..) (Heap.get?_update_self _ ho rfl) ?_ (fun _ q=>by cases q)
 simp only[Obj.mapSeq,hf]
 exact .list r z
theorem Av.isDict(R:Av W aa env names H ρ s){a:Addr}{es:List (Int×V)}(e:H a=some (.dict es)):(O2 fun kvs=>Fe (s.heap.DictOf (intKind W.prog W.w) a kvs) (Tz W es kvs) (es.length<=Bp)):=by
 refine Aa fun nY=>?_
 obtain⟨ob,h1,h2⟩:=R.objs a _ e
 cases h2 with
 | dict r z d=>(refine nY ?_;clear nY;obtain⟨es,ep,h3⟩:=d;exact⟨_,⟨ob,es,ep,h1,h3⟩,r,z⟩)
theorem N0{xs:List V}{items:List Value}{ns:List Int}(h:C5 W xs items)(e:ints? xs=some ns):IntsAre items ns:=by
 induction h generalizing ns with
 | nil=>cases e;exact .nil
 | cons h _ ih=>
   induction h with
   | int i u=>
     obtain⟨l,h1,h2⟩:=Option.map_eq_some_iff.mp (show (ints? _).map (i :: ·)=some ns from e)
     subst h2
     exact .cons i u (ih h1)
   | _=>cases e
theorem Gs{items:List Value}{ns:List Int}(h:IntsAre items ns):C5 W (ns.map V.int) items:=by
 induction h with
 | nil=>exact .nil
 | cons i u _ ih=>exact .cons (.int i u) ih
theorem ints?_length{xs:List V}{ns:List Int}(e:ints? xs=some ns):ns.length=xs.length:=by
 induction xs generalizing ns with
 | nil=>cases e;rfl
 | cons v r ih=>
   cases v<;>first|(cases e;done)|skip
   obtain⟨l,h1,h2⟩:=Option.map_eq_some_iff.mp (show (ints? r).map _=some ns from e)
   subst h2
   exact congrArg Nat.succ (ih h1)
theorem Ey(x:Int):∀l:List Int,(Mx x l).Perm (x::l)
 | []=> .refl _
 | y::r=>by
   unfold Mx
   split
   ·exact .refl _
   ·exact((Ey x r).cons y).trans (.swap x y r)
theorem Ca:∀l:List Int,(Bu l).Perm l
 | []=> .refl _
 | x::r=>(Ey x (Bu r)).trans ((Ca r).cons x)
theorem Fu(x:Int):∀ {l:List Int},l.Pairwise (· <= ·)->(Mx x l).Pairwise (· <= ·)
 | [],_=>by simp[Mx]
 | y::r,h=>by
   unfold Mx
   obtain⟨h1,h2⟩:=List.pairwise_cons.mp h
   split
   ·rename_i q
    refine List.pairwise_cons.mpr ⟨fun z hz=>?_,h⟩
    rcases List.mem_cons.mp hz with rfl|hz
    ·exact q
    ·exact Int.le_trans q (h1 z hz)
   ·rename_i q
    refine List.pairwise_cons.mpr ⟨fun z hz=>?_,Fu x h2⟩
    rcases List.mem_cons.mp ((Ey x r).mem_iff.mp hz)with rfl|hz
    ·exact Int.le_of_lt (Int.not_le.mp q)
    ·exact h1 z hz
theorem Dl:∀l:List Int,(Bu l).Pairwise (· <= ·)
 | []=>by simp[Bu]
 | x::r=>Fu x (Dl r)
theorem Jr{a b:List Int}(p:a.Perm b)(ha:a.Pairwise (· <= ·))(hb:b.Pairwise (· <= ·)):a=b:=
 p.eq_of_pairwise (fun _ _ _ _ h1 h2=>Int.le_antisymm h1 h2) ha hb
end Mine.Internal
namespace Mine.Internal
open PySem PySem.W PyProof.Rows
variable {W:Wd} {A:Around} {aa:HB} {env:Env} {c:Cx} {names:List Str} {H:AH} {ρ:Ak} {s:Shared} {E:Value->Shared->Prop} {n:Nat} {Q:Ag} {Er:EP}
theorem Bi.mk{a:V}{v:Value}(h:VR W a v)(R:Av W aa env names H ρ s)(q:Q a H):Bi W aa env names ρ Q v s:=⟨a,H,h,R,q⟩
theorem Ug{x y:Int}(h:y.natAbs<=10 ^ 30):Builtin.divisionGoesByPylong x y=false:=by
 refine PyProof.noPylong_of_log2 (Nat.lt_of_le_of_lt (m:=100) ?_ (by decide))
 by_cases h0:y.natAbs=0
 ·rw[h0];decide
 ·exact Nat.le_of_lt ((Nat.log2_lt h0).mpr (Nat.lt_of_le_of_lt h (by decide)))
theorem Z3{k:Int}(h:k.natAbs<2 ^ 64):Builtin.Int.intBits k<=64:=intBits_le_64 (Aj0 h) (Aj1 h)
theorem Sg{α:Type}(n:Nat)(xs:List α):(List.replicate n xs).flatten.length=n*xs.length:=by simp
theorem Acy{l:Addr}{items:List Value}{k:Int}{u:Tok}{Q:Value->Shared->Prop}(h1:s.heap.IsList l items.toArray)(k0:0<=k)(k1:k<=1000)(k2:items.length*k.toNat<=Bp)
 (h:Q (.ref s.heap.objs.size) {s with heap:=s.heap.push {cls:= .type "list",data:= .seq (List.replicate k.toNat items).flatten.toArray}}) :
 wpAny W.M A (binaryOp .Mult (.ref l) (.int k u)) Q E s:=by
 refine Aa fun nY=>?_
 obtain⟨⟨cls,d,data,sl⟩,ho,hcl,kk,hd⟩:=id h1
 simp only at hcl hd
 subst hcl hd
 have hz:items.length*k.toNat<=1048576:=k2
 refine nY ?_;clear nY
 have hz':items.toArray.size*k.toNat<=1048576:=by rw[List.size_toArray];exact k2
 refine wpAny_binaryOp_repeat_ref (T:= "list") (U:= "int") (by decide) ⟨_,ho,rfl⟩ (fun s'=>typeIs_int s' k u) noFill_list_mul F.fills_int_mul F.slot_int_rmul repeat_list F.slot_int_index.lookup
  (call_meets F.slot_int_rmul (typeIs_int s k u) F.entry_int_rmul (F.args_int_rmul_2 _ _) (lm_int_rmul_list_any k u l items.toArray kk d sl)
    ⟨ho,rfl,⟨_,ho,rfl⟩,call_meets F.slot_list_mul ⟨_,ho,rfl⟩ F.entry_list_mul (F.args_list_mul_2 _ _)
     (lm_list_mul_any l items.toArray kk d sl k u (by simp[Builtin.List.listFitsIndex];exact(⟨Int.le_trans (by decide) k0,Int.lt_of_le_of_lt k1 (by decide)⟩)) (Nat.not_lt.mpr (Af hz' (by decide))) (by simp[Builtin.List.listTooLong,sizeLine];exact(Af hz (by decide))))
     ⟨ho,?_⟩⟩)
 rw[listMul_foldl_if]
 exact h
theorem Sh(Y:Ap W env c aa)(R:Av W aa env names H ρ s){op:Operator}{a b:V}{u v:Value}(ha:VR W a u)(hb:VR W b v)(q:Ek op a b H Q) :
 wpAny W.M A (binaryOp op u v) (Bi W aa env names ρ Q) E s:=by
 refine Aa fun nY=>?_
 obtain⟨m,F⟩:=R.kitF Y
 have N:News W.aj env.locals s.heap _:=Xc
 cases op<;>try exact q.elim
 case Add=>
  replace q:Vj a b H Q:=q
  refine nY ?_;clear nY
  induction ha with
  | int i t=>apply Az hb q;intro j t' q;exact add_int (Bi.mk (.int _ _) (R.toks _) q)
  | ref a=>
    apply Bx hb q;intro b q;refine E3 q fun xs e1 q=>?_;refine E3 q fun ys e2 q=>?_
    refine Aa fun nY=>?_
    obtain⟨l1,h1,r1,z1⟩:=R.isList e1
    obtain⟨l2,h2,r2,z2⟩:=R.isList e2
    refine nY ?_;clear nY
    have hz:l1.toArray.size+l2.toArray.size<=sizeLine:=by simp[<-r1.length,<-r2.length];exact Af q.1 Bw
    refine add_arrays (hsz:=hz) F N h1 h2 fun h' F' N'=>?_
    obtain⟨e,R'⟩:=Na (t:=s.toks) R Y F F' N' (Nat.le_refl _) (D2 (r1.append r2) (by simpa using q.1))
    exact Bi.mk (.ref _) R' (q.2 _ e)
  | _=>exact False.elim q
 case Sub=>
  replace q:Yw a b H Q:=q
  refine nY ?_;clear nY
  apply Az ha q;intro i t q;apply Az hb q;intro j t' q
  exact sub_int (Bi.mk (.int _ _) (R.toks _) q)
 case Mult=>
  replace q:Vk a b H Q:=q
  refine nY ?_;clear nY
  apply Az hb q;intro k t q
  induction ha with
  | int i t=>exact mul_int (Bi.mk (.int _ _) (R.toks _) q.2) (q.1.elim (fun h=>IntMulOk.of_left (Z3 h)) fun h=>IntMulOk.of_right (Z3 h))
  | ref a=>
    refine E3 q fun xs e1 q=>?_
    refine Aa fun nY=>?_
    obtain⟨l1,h1,r1,z1⟩:=R.isList e1
    obtain⟨⟨k0,k1,k2⟩,q⟩:=q
    refine nY ?_;clear nY
    refine Acy h1 k0 k1 (by rw[<-r1.length];exact k2) ?_
    have R':=R.push (D2 (r1.replicate _) (by rw[Sg,Nat.mul_comm];exact k2) (n:=0)) rfl s.toks
    exact Bi.mk (.ref _) R' (q _ R.fresh)
  | _=>exact False.elim q
 case FloorDiv=>
  replace q:Yx a b H Q:=q
  refine nY ?_;clear nY
  apply Az ha q;intro i t q;apply Az hb q;intro j t' q
  exact floordiv_int q.1.1 (Bi.mk (.int _ _) (R.toks _) q.2) (.inl (Ug q.1.2))
 case Mod=>
  replace q:Yy a b H Q:=q
  refine nY ?_;clear nY
  apply Az ha q;intro i t q;apply Az hb q;intro j t' q
  exact mod_int' q.1.1 (Bi.mk (.int _ _) (R.toks _) q.2)
 case Pow=>
  replace q:Ae0 a b H Q:=q
  refine nY ?_;clear nY
  apply Az ha q;intro i t q;apply Az hb q;intro j t' q
  exact pow_int_small q.1.1 (by have:=q.1.2.1;exact(Int.le_trans this (by decide))) q.1.2.2 (Bi.mk (.int _ _) (R.toks _) q.2)
open PySem.SeqAt in
theorem Lm{a b:V}{u v:Value}{r:Bool}(ha:VR W a u)(hb:VR W b v)(e:W2 a b=some r):EqAt A s u v r/\RcAt A s u v r/\RcNeAt A s u v (!r):=by
 refine Aa fun no=>?_
 induction ha<;>induction hb<;>first|exact @nn _ _ _ e|(obtain rfl:=Option.some.inj e;refine no ?_;clear no)
 ·exact⟨.same _,.none_none,.none_none⟩
 ·exact⟨.none_bool _,.none_bool _,.none_bool _⟩
 ·exact⟨.none_int _ _,.none_int _ _,.none_int _ _⟩
 ·exact⟨.bool_none _,.bool_none _,.bool_none _⟩
 ·exact⟨.bool_bool _ _,.bool_bool _ _,.bool_bool _ _⟩
 ·exact⟨.int_none _ _,.int_none _ _,.int_none _ _⟩
 ·rename_i i t j t'
  have:decide (i=j)=(i==j):=by rw[Bool.eq_iff_iff];simp
  rw[this];exact⟨.int_int _ _ _ _,.int_int _ _ _ _,.int_int _ _ _ _⟩
theorem Si{a:V}{r:Bool}(e:W2 a a=some r):r=true:=by
 cases a<;>first|exact @nn _ _ _ e|(obtain rfl:=Option.some.inj e)<;>first|rfl|exact decide_eq_true rfl|exact beq_self_eq_true _
theorem Pv{l:List (Option Bool)}{r:Bool}(h:Fg l=some r):∃e:Nat->Bool,(∀j x,l[j]? = some x->x=some (e j))/\(List.range l.length).all e=r:=by
 induction l generalizing r with
 | nil=>simp only[Fg,Option.some.injEq]at h;subst h;exact⟨fun _=>true,by simp,by simp⟩
 | cons x t ih=>
   refine Aa fun nY=>?_
   cases x with
   | none=>simp[Fg]at h
   | some b=>
     simp only[Fg,Option.map_eq_some_iff]at h
     obtain⟨r',h1,h2⟩:=h
     obtain⟨e,h3,h4⟩:=ih h1
     refine nY ?_;clear nY
     refine⟨fun j=>match j with|0=>b|j+1=>e j,fun j y hj=>?_,?_⟩
     ·refine Aa fun nY=>?_
      cases j with
      | zero=>(refine nY ?_;clear nY;simp at hj;exact hj.symm)
      | succ j=>(refine nY ?_;clear nY;simp at hj;exact h3 j y hj)
     ·rw[List.length_cons,List.range_succ_eq_map,List.all_cons,List.all_map]
      subst h2;subst h4;rfl
theorem Ln{f:V->V->Option Bool}(hf:∀a r,f a a=some r->r=true):∀ {xs:List V} {r:Bool},Fg (List.zipWith f xs xs)=some r->r=true
 | [],r,h=>by simp[Fg]at h;exact h
 | x::t,r,h=>by
   simp only[List.zipWith_cons_cons]at h
   cases q:f x x with
   | none=>rw[q]at h;simp[Fg]at h
   | some b=>
     rw[q]at h
     simp only[Fg,Option.map_eq_some_iff]at h
     obtain⟨r',h1,h2⟩:=h
     rw[hf x b q,Ln hf h1]at h2
     exact h2.symm
theorem Sj{P:Prop}(n:Nat)(a b:V)(k1:∀x y,a = .ref x->b = .ref y->P)(k2:∀x,a = .ref x->b = .none->P)(k3:∀x,a = .none->b = .ref x->P)(k4:Hx (n+1) H a b=W2 a b->P):P:=by
 cases a<;>first|exact k4 rfl|(cases b<;>first|exact k4 rfl|exact k1 _ _ rfl rfl|exact k2 _ rfl rfl|exact k3 _ rfl rfl)
theorem Aaa{P:Prop}{n:Nat}{x y:Addr}{r:Bool}(e:Hx (n+1) H (.ref x) (.ref y)=some r)
 (k1:∀xs ys,H x=some (.list xs)->H y=some (.list ys)->(if xs.length=ys.length then Fg (List.zipWith (Hx n H) xs ys)else some false)=some r->P)
 (k2:∀xs ys,H x=some (.tuple xs)->H y=some (.tuple ys)->(if xs.length=ys.length then Fg (List.zipWith (Hx n H) xs ys)else none)=some r->P):P:=by
 replace e:(match H x,H y with
  | some (.list xs),some (.list ys)=>if xs.length=ys.length then Fg (List.zipWith (Hx n H) xs ys)else some false
  | some (.tuple xs),some (.tuple ys)=>if xs.length=ys.length then Fg (List.zipWith (Hx n H) xs ys)else none
  | _,_=>none)=some r:=e
 generalize H x=ox at *
 generalize H y=oy at *
 cases ox with
 | none=>cases e
 | some o=>
   cases o<;>first|(cases e;done)|skip
   all_goals
    cases oy with
    | none=>cases e
    | some o'=>cases o'<;>first|(cases e;done)|exact k1 _ _ rfl rfl e|exact k2 _ _ rfl rfl e
theorem Aab{P:Prop}{n:Nat}{x:Addr}{r:Bool}(e:Hx (n+1) H (.ref x) .none=some r\/Hx (n+1) H .none (.ref x)=some r)(k1:∀xs,r=false->H x=some (.list xs)->P)(k2:∀xs,r=false->H x=some (.tuple xs)->P):P:=by
 replace e:(match H x with|some (.list _)=>some false|some (.tuple _)=>some false|_=>none)=some r:=e.elim (fun e=>e) fun e=>e
 generalize H x=ox at *
 cases ox with
 | none=>cases e
 | some o=>cases o<;>first|(cases e;done)|(cases e;first|exact k1 _ rfl rfl|exact k2 _ rfl rfl)
theorem Aac(n:Nat):∀ {a:V} {r:Bool},Hx n H a a=some r->r=true:=by
 induction n with
 | zero=>exact fun e=>Si e
 | succ n ih=>
   intro a r e
   refine Sj (H:=H) n a a (fun x y q _=>?_) (fun x q q'=>?_) (fun x q q'=>?_) fun q=>?_
   ·subst q
    refine Aaa e (fun xs ys h1 h2 e=>?_) fun xs ys h1 h2 e=>?_
    ·rw[h1]at h2;cases h2
     rw[if_pos rfl]at e;exact Ln (fun a r h=>ih h) e
    ·rw[h1]at h2;cases h2
     rw[if_pos rfl]at e;exact Ln (fun a r h=>ih h) e
   ·rw[q]at q';cases q'
   ·rw[q]at q';cases q'
   ·rw[q]at e;exact Si e
open PySem.SeqAt in
theorem I7{n:Nat}{A:Around}{xs ys:List V}{l1 l2:List Value}{f:Nat->Bool}(ih:∀ {a b:V} {u v:Value} {r:Bool},VR W a u->VR W b v->Hx n H a b=some r->EqAt A s u v r)(r1:C5 W xs l1)(r2:C5 W ys l2)
 (f1:∀j x',(List.zipWith (Hx n H) xs ys)[j]? = some x'->x'=some (f j)) (j:Nat) (j1:j<l1.toArray.size) (j2:j<l2.toArray.size):EqAt A s l1.toArray[j] l2.toArray[j] (f j):=by
 refine Aa fun nY=>?_
 obtain⟨x',x1,x2⟩:=r1.get' j (c:=l1.toArray[j]) (by simp)
 obtain⟨y',y1,y2⟩:=r2.get' j (c:=l2.toArray[j]) (by simp)
 refine nY ?_;clear nY
 exact ih x2 y2 (f1 j (Hx n H x' y') (by rw[List.getElem?_zipWith,x1,y1]))
open PySem.SeqAt in
theorem Pw(R:Av W aa env names H ρ s)(n:Nat):∀(A:Around) {a b:V} {u v:Value} {r:Bool},A.units+n<cLine->VR W a u->VR W b v->Hx n H a b=some r->
 EqAt A s u v r/\RcAt A s u v r/\RcNeAt A s u v (!r):=by
 induction n with
 | zero=>exact fun A a b u v r _ ha hb e=>Lm ha hb e
 | succ n ih=>
   intro A a b u v r hu ha hb e
   have hA:A.units<cLine:=(Nat.lt_of_le_of_lt (Nat.le_add_right _ _) hu)
   have hA1:A.in1.units+n<cLine:=by show A.units+1+n<cLine;exact Nat.lt_of_le_of_lt (Nat.le_of_eq (Nat.add_right_comm _ 1 _)) hu
   have it:=fun {a b:V} {u v:Value} {r:Bool} (ha:VR W a u) (hb:VR W b v) (e:Hx n H a b=some r)=>(ih A.in1 hA1 ha hb e).1
   refine Sj (H:=H) n a b (fun x y p q=>?_) (fun x p q=>?_) (fun x p q=>?_) fun q=>?_
   ·refine Aa fun nY=>?_
    subst p q;cases ha;cases hb
    have fin:∀ {k:Bool},k=r->RcAt A s (.ref x) (.ref y) k->RcNeAt A s (.ref x) (.ref y) (!k)->EqAt A s (.ref x) (.ref y) r/\RcAt A s (.ref x) (.ref y) r/\RcNeAt A s (.ref x) (.ref y) (!r):=by
     rintro k rfl h1 h2
     refine⟨?_,h1,h2⟩
     refine Aa fun nY=>?_
     by_cases q:x=y
     ·refine nY ?_;clear nY
      subst q;rw[Aac _ e];exact .same _
     ·refine nY ?_;clear nY
      exact .of_refs q h1
    refine nY ?_;clear nY
    refine Aaa e (fun xs ys e1 e2 e'=>?_) fun xs ys e1 e2 e'=>?_
    ·refine Aa fun nY=>?_
     obtain⟨l1,h1,r1,z1⟩:=R.isList e1
     obtain⟨l2,h2,r2,z2⟩:=R.isList e2
     by_cases hl:xs.length=ys.length
     ·rw[if_pos hl]at e'
      obtain⟨f,f1,f2⟩:=Pv e'
      have hsz:l1.toArray.size=l2.toArray.size:=by rw[List.size_toArray,List.size_toArray,<-r1.length,<-r2.length,hl]
      refine nY ?_;clear nY
      refine fin ?_ (RcAt.lists h1 h2 hsz hA (I7 it r1 r2 f1)) (RcNeAt.lists h1 h2 hsz hA (I7 it r1 r2 f1))
      rw[<-f2];congr 2;simp[<-r1.length,hl]
     ·rw[if_neg hl]at e'
      cases e'
      have hsz:(l1.toArray.size != l2.toArray.size)=true:=by simpa[<-r1.length,<-r2.length]using hl
      refine nY ?_;clear nY
      exact fin rfl (RcAt.lists_lengths h1 h2 hsz hA) (RcNeAt.lists_lengths h1 h2 hsz hA)
    ·refine Aa fun nY=>?_
     obtain⟨l1,h1,r1,z1⟩:=R.isTup e1
     obtain⟨l2,h2,r2,z2⟩:=R.isTup e2
     by_cases hl:xs.length=ys.length
     ·rw[if_pos hl]at e'
      obtain⟨f,f1,f2⟩:=Pv e'
      refine nY ?_;clear nY
      refine fin ?_ (RcAt.tuples h1 h2 hA (I7 it r1 r2 f1)) (RcNeAt.tuples h1 h2 hA (I7 it r1 r2 f1))
      rw[<-f2];simp[<-r1.length,<-r2.length,hl]
     ·rw[if_neg hl]at e';cases e'
   ·refine Aa fun nY=>?_
    subst p q;cases ha;cases hb
    refine nY ?_;clear nY
    refine Aab (.inl e) (fun xs q e1=>?_) fun xs q e1=>?_<;>subst q
    ·refine Aa fun nY=>?_
     obtain⟨l1,h1,r1,z1⟩:=R.isList e1
     refine nY ?_;clear nY
     exact⟨.list_none h1 hA,.list_none h1 hA,.list_none h1 hA⟩
    ·refine Aa fun nY=>?_
     obtain⟨l1,h1,r1,z1⟩:=R.isTup e1
     refine nY ?_;clear nY
     exact⟨.tuple_none h1 hA,.tuple_none h1 hA,.tuple_none h1 hA⟩
   ·refine Aa fun nY=>?_
    subst p q;cases ha;cases hb
    refine nY ?_;clear nY
    refine Aab (.inr e) (fun xs q e1=>?_) fun xs q e1=>?_<;>subst q
    ·refine Aa fun nY=>?_
     obtain⟨l1,h1,r1,z1⟩:=R.isList e1
     refine nY ?_;clear nY
     exact⟨.none_list h1 hA,.none_list h1 hA,.none_list h1 hA⟩
    ·refine Aa fun nY=>?_
     obtain⟨l1,h1,r1,z1⟩:=R.isTup e1
     refine nY ?_;clear nY
     exact⟨.none_tuple h1 hA,.none_tuple h1 hA,.none_tuple h1 hA⟩
   ·rw[q]at e;exact Lm ha hb e
theorem Xd{l:List (Option Bool)}{r:Bool}(h:T2 l=some r):(∀x∈l,∃b,x=some b)/\r=l.any (· == some true):=by
 induction l generalizing r with
 | nil=>simp only[T2,Option.some.injEq]at h;subst h;simp
 | cons x t ih=>
   cases x with
   | none=>simp[T2]at h
   | some b=>
     simp only[T2,Option.map_eq_some_iff]at h
     obtain⟨r',h1,h2⟩:=h
     obtain⟨h3,h4⟩:=ih h1
     refine⟨fun x hx=>?_,?_⟩
     ·rcases List.mem_cons.mp hx with rfl|hx
      ·exact⟨b,rfl⟩
      ·exact h3 x hx
     ·subst h2;subst h4;cases b<;>simp
noncomputable def Sk(W:Wd)(v:V)(c:Value):Bool:=by classical exact if ∃x,VR W x c/\W2 x v=some true then true else false
theorem Afp{x y:V}{c:Value}(h1:VR W x c)(h2:VR W y c)(hx:W2 x v=some r)(hy:W2 y v=some r'):r=r':=by
 induction h1<;>first|exact @nn _ _ _ hx|(cases h2;exact Option.some.inj (hx.symm.trans hy))
theorem Vy{x v:V}{c:Value}{r:Bool}(h:VR W x c)(e:W2 x v=some r):Sk W v c=r:=by
 unfold Sk
 cases r with
 | true=>rw[if_pos ⟨x,h,e⟩]
 | false=>
   rw[if_neg]
   rintro⟨y,h1,h2⟩
   have:=Afp h h1 e h2
   cases this
open PySem.SeqAt in
theorem Hb{v:V}{u:Value}{xs:List V}{items:List Value}{r:Bool}(hu:VR W v u)(hr:C5 W xs items)(e:T3 v xs=some r) :
 (∀y,y∈items.toArray->EqAt A s y u (Sk W v y))/\items.toArray.any (Sk W v)=r:=by
 obtain⟨h1,h2⟩:=Xd e
 constructor
 ·intro y hy
  refine Aa fun nY=>?_
  obtain⟨j,hj⟩:=List.mem_iff_getElem?.mp (by simpa using hy)
  obtain⟨x,x1,x2⟩:=hr.get' j hj
  obtain⟨b,hb⟩:=h1 (W2 x v) (List.mem_map_of_mem (List.mem_iff_getElem?.mpr ⟨j,x1⟩))
  refine nY ?_;clear nY
  rw[Vy x2 hb]
  exact(Lm x2 hu hb).1
 ·rw[h2]
  clear h2 e
  induction hr with
  | nil=>simp
  | cons h t ih=>
    simp only[List.map_cons,List.mem_cons,forall_eq_or_imp]at h1
    refine Aa fun nY=>?_
    obtain⟨⟨b,hb⟩,h1⟩:=h1
    have:=ih h1
    refine nY ?_;clear nY
    simp only[List.any_toArray,List.map_cons,List.any_cons]at this ⊢
    rw[this,Vy h hb,hb]
    cases b<;>simp
theorem Av.dget(hk:Tz W es kvs)(k:Int):(dget es k).isSome=(kvs.lookup k).isSome/\∀v,dget es k=some v->∃c,kvs.lookup k=some c/\VR W v c:=by
 induction hk with
 | nil=>simp[Mine.Internal.dget]
 | @cons k' v' c' es kvs h t ih=>
   unfold Mine.Internal.dget at ih ⊢
   simp only[List.lookup_cons]
   cases k==k' with
   | true=>simp;exact h
   | false=>simpa using ih
theorem Av.noSys(R:Av W aa env names H ρ s)(Y:Ap W env c aa){a:Addr}{es:List (Int×V)}(e:H a=some (.dict es)):(a==sysModules)=false:=by
 have h1:=R.low a es e
 have h2:=Y.lo
 have h3:a≠sysModules:=Nat.ne_of_gt (Nat.lt_of_lt_of_le h2 h1)
 simpa using h3
theorem E4(kvs:List (Int×Value))(k:Int):valueAt kvs k=kvs.lookup k:=by
 unfold valueAt
 induction kvs with
 | nil=>rfl
 | cons p t ih=>
   obtain⟨a,b⟩:=p
   rw[List.find?_cons,List.lookup_cons]
   by_cases q:a=k
   ·subst q;simp
   ·have:(k==a)=false:=by simpa using fun h:k=a=>q h.symm
    simpa[q,this]using ih
open PySem.SeqAt in
open PySem.SeqAt in
theorem Px{a b:V}{u v:Value}{r:Bool}(ha:VR W a u)(hb:VR W b v)(e:isB a b=some r) :
 (∀Q E,Q (.bool r) s->wpAny W.M A (compareOp .Is u v) Q E s)/\(∀Q E,Q (.bool (!r)) s->wpAny W.M A (compareOp .IsNot u v) Q E s):=by
 refine Aa fun no=>?_
 induction ha<;>induction hb<;>first|exact @nn _ _ _ e|(obtain rfl:=Option.some.inj e;refine no ?_;clear no)
 ·exact⟨fun _ _ q=>is_none_none q,fun _ _ q=>isnot_none_none q⟩
 ·exact⟨fun _ _ q=>is_none_ne nofun q,fun _ _ q=>isnot_none_ne nofun q⟩
 ·exact⟨fun _ _ q=>is_bool q,fun _ _ q=>isnot_bool q⟩
 ·exact⟨fun _ _ q=>is_none_ne nofun q,fun _ _ q=>isnot_none_ne nofun q⟩
 ·exact⟨fun _ _ q=>is_none_ne nofun q,fun _ _ q=>isnot_none_ne nofun q⟩
open PySem.SeqAt in
theorem Dd(ok:Pu A c aa env n)(Y:Ap W env c aa)(R:Av W aa env names H ρ s){op:CmpOp}{a b:V}{u v:Value}(ha:VR W a u)(hb:VR W b v)(q:Bd op a b H Q) :
 wpAny W.M A (compareOp op u v) (Bi W aa env names ρ Q) E s:=by
 have hu:=ok.units
 cases op
 case Eq=>
  refine Cn q fun r e q=>?_
  exact(Pw R C7 A (by unfold C7;exact Ahz hu) ha hb e).2.1 _ _ _ _ (Bi.mk (.bool _) R q)
 case NotEq=>
  refine Cn q fun r e q=>?_
  exact(Pw R C7 A (by unfold C7;exact Ahz hu) ha hb e).2.2 _ _ _ _ (Bi.mk (.bool _) R q)
 case Lt=>
  replace q:Ahe a b H Q:=q
  apply Az ha q;intro i t q;apply Az hb q;intro j t' q
  exact lt_int (Bi.mk (.bool _) R q)
 case LtE=>
  replace q:Ahf a b H Q:=q
  apply Az ha q;intro i t q;apply Az hb q;intro j t' q
  exact le_int (Bi.mk (.bool _) R q)
 case Gt=>
  replace q:Ahg a b H Q:=q
  apply Az ha q;intro i t q;apply Az hb q;intro j t' q
  exact gt_int (Bi.mk (.bool _) R q)
 case GtE=>
  replace q:Ahh a b H Q:=q
  apply Az ha q;intro i t q;apply Az hb q;intro j t' q
  exact ge_int (Bi.mk (.bool _) R q)
 case Is=>
  replace q:Ahi a b H Q:=q
  refine Cn q fun r e q=>?_
  exact(Px ha hb e).1 _ _ (Bi.mk (.bool _) R q)
 case IsNot=>
  replace q:Aez a b H Q:=q
  refine Cn q fun r e q=>?_
  exact(Px ha hb e).2 _ _ (Bi.mk (.bool _) R q)
 case In=>
  replace q:Nh a b H Q:=q
  induction hb with
  | ref x=>
    dsimp only[Nh]at q
    refine Aa fun nY=>?_
    split at q
    ·rename_i xs e1
     refine nY ?_;clear nY
     refine Cn q fun r e q=>?_
     refine Aa fun nY=>?_
     obtain⟨l1,h1,r1,z1⟩:=R.isList e1
     obtain⟨m1,m2⟩:=Hb (A:=A.in1) (s:=s) ha r1 e
     refine nY ?_;clear nY
     exact in_listAt (Sk W a) h1 m1 (by rw[m2];exact Bi.mk (.bool _) R q)
    ·rename_i xs e1
     refine nY ?_;clear nY
     refine Cn q fun r e q=>?_
     refine Aa fun nY=>?_
     obtain⟨l1,h1,r1,z1⟩:=R.isTup e1
     obtain⟨m1,m2⟩:=Hb (A:=A.in1) (s:=s) ha r1 e
     refine nY ?_;clear nY
     exact in_tupleAt (Sk W a) h1 m1 (by rw[m2];exact Bi.mk (.bool _) R q)
    ·rename_i es e1
     refine nY ?_;clear nY
     apply Az ha q
     intro k t q
     refine Aa fun nY=>?_
     obtain⟨kvs,h1,r1,z1⟩:=R.isDict e1
     refine nY ?_;clear nY
     refine wpAny_in_of (intKind_is _ _ _ _) (R.noSys Y e1) h1.mapOf ?_
     rw[E4,<-(Av.dget r1 _).1]
     exact Bi.mk (.bool _) (R.toks _) q
    ·exact q.elim
  | _=>exact False.elim q
 case NotIn=>
  replace q:Nh a b H (fun v H=>match v with | .bool r=>Q (.bool (!r)) H|_=>False):=q
  induction hb with
  | ref x=>
    dsimp only[Nh]at q
    refine Aa fun nY=>?_
    split at q
    ·rename_i xs e1
     refine nY ?_;clear nY
     refine Cn q fun r e q=>?_
     refine Aa fun nY=>?_
     obtain⟨l1,h1,r1,z1⟩:=R.isList e1
     obtain⟨m1,m2⟩:=Hb (A:=A.in1) (s:=s) ha r1 e
     refine nY ?_;clear nY
     exact notIn_listAt (Sk W a) h1 m1 (by rw[m2];exact Bi.mk (.bool _) R q)
    ·rename_i xs e1
     refine nY ?_;clear nY
     refine Cn q fun r e q=>?_
     refine Aa fun nY=>?_
     obtain⟨l1,h1,r1,z1⟩:=R.isTup e1
     obtain⟨m1,m2⟩:=Hb (A:=A.in1) (s:=s) ha r1 e
     refine nY ?_;clear nY
     exact notIn_tupleAt (Sk W a) h1 m1 (by rw[m2];exact Bi.mk (.bool _) R q)
    ·rename_i es e1
     refine nY ?_;clear nY
     apply Az ha q
     intro k t q
     refine Aa fun nY=>?_
     obtain⟨kvs,h1,r1,z1⟩:=R.isDict e1
     refine nY ?_;clear nY
     refine wpAny_notIn_of (intKind_is _ _ _ _) (R.noSys Y e1) h1.mapOf ?_
     rw[E4,<-(Av.dget r1 _).1]
     exact Bi.mk (.bool _) (R.toks _) q
    ·exact q.elim
  | _=>exact False.elim q
end Mine.Internal
namespace Mine.Internal
open PySem PySem.W PyProof.Rows
variable {W:Wd} {A:Around} {aa:HB} {env:Env} {c:Cx} {names:List Str} {H:AH} {ρ:Ak} {s:Shared} {E:Value->Shared->Prop} {n:Nat} {Q:Ag} {Er:EP}
theorem N2{k:Int}{n j:Nat}(h:C0 k n=some j):seqIndex? k n=some j/\j<n:=by
 delta C0 at h
 refine Aa fun nY=>?_
 split at h
 ·rename_i h0
  split at h
  ·refine nY ?_;clear nY
   rename_i h1;cases h;exact⟨seqIndex_of h0 h1,(Q10 h0 h1)⟩
  ·cases h
 ·rename_i h0
  split at h
  ·refine nY ?_;clear nY
   rename_i h1;cases h;exact⟨seqIndex_neg (Int.not_le.mp h0) (Aco h1),(Aj2 h0 h1)⟩
  ·cases h
theorem Py{k:Int}{n j:Nat}(h:C0 k n=some j): -(n:Int)<=k/\k<n:=by
 delta C0 at h
 refine Aa fun nY=>?_
 split at h
 ·rename_i h0
  split at h
  ·refine nY ?_;clear nY
   rename_i h1;exact⟨(Akb h0),h1⟩
  ·cases h
 ·rename_i h0
  split at h
  ·refine nY ?_;clear nY
   rename_i h1;exact⟨(Aco h1),(Akc h0)⟩
  ·cases h
theorem Sl:(Bp:Int)<2 ^ 63:=by decide
theorem Sm{a:Addr}{l1:List Value}{k:Int}{t:Nat}{n j:Nat}{cv:Value}{Qm:Value->Shared->Prop}(h1:s.heap.IsList a l1.toArray)(hn:n=l1.length)(z:n<=Bp)(e:C0 k n=some j)(x:l1[j]? = some cv)(q:Qm cv s) :
 wpAny W.M A (getItem (.ref a) (.int k t)) Qm E s:=by
 have b63:=Sl
 refine Aa fun nY=>?_
 subst hn
 delta C0 at e
 split at e
 ·rename_i h0
  split at e
  ·rename_i h2;cases e
   refine nY ?_;clear nY
   exact wpAny_getItem_list h1 h0 (Ak6 b63 z h2) (by simpa using x) q
  ·cases e
 ·rename_i h0
  split at e
  ·rename_i h2;cases e
   refine nY ?_;clear nY
   exact wpAny_getItem_list_neg h1 (Int.not_le.mp h0) (by rw[List.size_toArray];exact Aco h2) (Ak7 b63 z h2) (by simpa using x) q
  ·cases e
theorem Sn(Y:Ap W env c aa)(R:Av W aa env names H ρ s){a b:V}{u v:Value}(ha:VR W a u)(hb:VR W b v)(q:C3 a b H Q) :
 wpAny W.M A (getItem u v) (Bi W aa env names ρ Q) E s:=by
 apply Az hb q
 intro k t q
 induction ha with
 | ref a=>
   dsimp only at q
   refine Aa fun nY=>?_
   split at q
   ·rename_i xs e1
    obtain⟨l1,h1,r1,z1⟩:=R.isList e1
    refine nY ?_;clear nY
    refine Cn q fun j e2 q=>?_
    refine Cn q fun v' e3 q=>?_
    refine Aa fun nY=>?_
    obtain⟨cv,x1,x2⟩:=r1.get j e3
    refine nY ?_;clear nY
    exact Sm h1 r1.length z1 e2 x1 (Bi.mk x2 R q)
   ·rename_i xs e1
    obtain⟨l1,h1,r1,z1⟩:=R.isTup e1
    refine nY ?_;clear nY
    refine Cn q fun j e2 q=>?_
    refine Cn q fun v' e3 q=>?_
    refine Aa fun nY=>?_
    obtain⟨cv,x1,x2⟩:=r1.get j e3
    have b63:=Sl
    obtain⟨i1,i2⟩:=N2 e2
    refine nY ?_;clear nY
    refine getItem_tuple h1 ?_ ?_ (by simpa[<-r1.length]using i1) (by simpa using x1) (Bi.mk x2 R q)
    ·have:=Py e2;exact Ak8 z1 b63 this.1
    ·have:=Py e2;exact Int.lt_trans (Int.lt_of_lt_of_le this.2 (Int.ofNat_le.mpr z1)) b63
   ·rename_i es e1
    obtain⟨kvs,h1,r1,z1⟩:=R.isDict e1
    refine nY ?_;clear nY
    refine Cn q fun v' e2 q=>?_
    refine Aa fun nY=>?_
    obtain⟨cv,x1,x2⟩:=(Av.dget r1 _).2 _ e2
    refine nY ?_;clear nY
    exact wpAny_getItem_of (intKind_is _ _ _ _) h1.mapOf (by rw[E4];exact x1) (Bi.mk x2 (R.toks _) q)
   ·exact q.elim
 | script=>
   refine Aa fun nY=>?_
   obtain⟨l1,h1,r1,z1⟩:=R.script Y
   have r2:C5 W (W.sn.map V.int) l1:=Gs r1
   refine nY ?_;clear nY
   have hl:W.sn.length=l1.length:=by have:=r2.length;simpa using this
   dsimp only at q
   refine Cn q fun j e2 q=>?_
   refine Cn q fun v' e3 q=>?_
   refine Aa fun nY=>?_
   obtain⟨cv,x1,x2⟩:=r2.get j (by rw[List.getElem?_map,e3];rfl)
   refine nY ?_;clear nY
   exact Sm h1 hl (by rw[hl];exact z1) e2 x1 (Bi.mk x2 R q)
 | _=>exact False.elim q
theorem Xe(items:List Value)(lo hi:Option Int):(slicePick items.toArray lo hi none).toList =
 ((items.take (match hi with|some k=>Fi k items.length|none=>items.length)).drop (match lo with|some k=>Fi k items.length|none=>0)):=by
 have key:∀(a b:Nat),a<=items.length->b<=items.length->sliceBounds lo hi none items.length=((a:Int),(b:Int),1)->(slicePick items.toArray lo hi none).toList=(items.take b).drop a:=by
  intro a b ha hb e
  unfold slicePick
  rw[List.size_toArray,e]
  simp only
  rw[sliceRange_one,pick_run]
  simp only[List.drop_take]
 have cl:∀k:Int,(max 0 (min (if k<0 then k+(items.length:Int)else k) items.length))=((Fi k items.length:Nat):Int)/\Fi k items.length<=items.length:=by
  intro k
  delta Fi
  split<;>constructor<;>(first|lia|omega)
 cases lo with
 | none=>cases hi with
   | none=>exact key 0 items.length (Nat.zero_le _) (Nat.le_refl _) rfl
   | some u=>exact key 0 (Fi u items.length) (Nat.zero_le _) (cl u).2 (by unfold sliceBounds;simp only[Option.getD_none];simp[(cl u).1])
 | some l=>cases hi with
   | none=>exact key (Fi l items.length) items.length (cl l).2 (Nat.le_refl _) (by unfold sliceBounds;simp only[Option.getD_none];simp[(cl l).1])
   | some u=>exact key (Fi l items.length) (Fi u items.length) (cl l).2 (cl u).2 (by unfold sliceBounds;simp only[Option.getD_none];simp[(cl l).1,(cl u).1])
theorem Hc{v:V}{u:Value}{k:Option Int}(h:VR W v u)(e:bound? v=some k):IsPart u k:=by
 induction h<;>first|(cases e;first|exact .none|exact .int _ _)|(cases e;done)
theorem Acz{α:Type}(xs:List α)(l u:Option Int):(cut xs l u).length<=xs.length:=by
 delta cut
 simp only[List.length_drop,List.length_take]
 exact Af (Nat.sub_le _ _) (Nat.min_le_right _ _)
theorem Ac0{α β:Type}{f:α->Option β}{g:α->β}:∀ {l:List α},(∀k∈l,f k=some (g k))->l.filterMap f=l.map g:=by
 intro l
 induction l with
 | nil=>exact fun _=>rfl
 | cons x r ih=>
   intro h
   rw[List.filterMap_cons,h x List.mem_cons_self,List.map_cons,ih fun k hk=>h k (List.mem_cons_of_mem _ hk)]
theorem Xf(items:List Value):slicePick items.toArray none (some 0) (some (-1))=(items.drop 1).reverse.toArray:=by
 refine Aa fun nY=>?_
 cases items with
 | nil=>(refine nY ?_;clear nY;rfl)
 | cons x r=>
   refine nY ?_;clear nY
   unfold slicePick
   have e:sliceBounds none (some 0) (some (-1)) (x::r).toArray.size=((r.length:Int),0,-1):=by
    unfold sliceBounds
    simp
    exact rfl
   rw[e]
   congr 1
   unfold sliceRange
   dsimp only
   have hc:(if (-1:Int)>0 then(if (r.length:Int)<0 then(0-(r.length:Int) + -1-1) / -1 else 0)else(if (r.length:Int)>0 then((r.length:Int)-0 - -1-1)/(- -1)else 0)).toNat=r.length:=by
    rw[if_neg (by decide),show -(-1:Int)=1 from rfl,Int.ediv_one]
    split<;>omega
   rw[hc,List.filterMap_map]
   have:∀k∈List.range r.length,(fun k:Nat=>(x::r).toArray[((r.length:Int) + -1*(k:Int)).toNat]?) k=some (r.reverse.getD k .none):=fun k hk=>by
    have hk:=List.mem_range.mp hk
    have e2:((r.length:Int) + -1*(k:Int)).toNat=r.length-1-k+1:=(Akd hk)
    show (x::r).toArray[((r.length:Int) + -1*(k:Int)).toNat]? = _
    rw[e2,List.getElem?_toArray,List.getElem?_cons_succ,List.getElem?_eq_getElem (Aht e2),List.getD_eq_getElem?_getD,List.getElem?_reverse hk,List.getElem?_eq_getElem (Aht e2)]
    rfl
   have h2:(List.range r.length).filterMap (fun k:Nat=>(x::r).toArray[((r.length:Int) + -1*(k:Int)).toNat]?)=(List.range r.length).map fun k=>r.reverse.getD k .none:=by
    exact Ac0 this
   refine h2.trans (List.ext_getElem (by simp) fun i h1 h3=>?_)
   simp at h1 h3
   simp[h1]
theorem Uh(Y:Ap W env c aa)(R:Av W aa env names H ρ s){l u st:V}{vl vu vs:Value}{sl a':Addr}{xs:List V}{l1:List Value}{l' u':Option Int}(hl:VR W l vl)(hu:VR W u vu)(hs:VR W st vs)(hsl:s.heap.IsSliceOf sl vl vu vs)(e1:bound? l=some l')(e2:bound? u=some u')(e3:H a'=some (.list xs))(h1:s.heap.IsList a' l1.toArray)(r1:C5 W xs l1)(z1:xs.length<=Bp)
 (qq:Yz xs l' u' st H Q):wpAny W.M A (getItem (.ref a') (.ref sl)) (Bi W aa env names ρ Q) E s:=by
 induction hs with
 | none=>
   refine wpAny_getItem_list_slice h1 hsl (Hc hl e1) (Hc hu e2) .none (by simp) ?_ (by simp[<-r1.length];exact Af z1 Bw)
   have e:slicePick l1.toArray l' u' none=(slicePick l1.toArray l' u' none).toList.toArray:=by simp
   rw[e,Xe]
   have R':=R.push (o:= .list (cut xs l' u')) (D2 (n:=0) (by
    delta cut
    rw[r1.length]
    exact(r1.take _).drop _) (Af (Acz _ _ _) z1)) rfl s.toks
   exact Bi.mk (.ref _) R' (qq _ R.fresh)
 | int k t=>
   obtain⟨rfl,rfl,qq⟩:=qq
   refine wpAny_getItem_list_slice h1 hsl (Hc hl e1) (Hc hu e2) (.int _ _) (by decide) ?_ (by simp[<-r1.length];exact Af z1 Bw)
   cases u' with
   | none=>
     rw[krv_pick]
     have R':=R.push (o:= .list xs.reverse) (D2 (n:=0) r1.reverse (by simpa using z1)) rfl s.toks
     exact Bi.mk (.ref _) R' (qq _ R.fresh)
   | some j=>
     obtain⟨rfl,qq⟩:=qq
     rw[Xf]
     have R':=R.push (o:= .list (xs.drop 1).reverse) (D2 (n:=0) (r1.drop 1).reverse (by rw[List.length_reverse,List.length_drop];exact Af (Nat.sub_le _ _) z1)) rfl s.toks
     exact Bi.mk (.ref _) R' (qq _ R.fresh)
 | _=>exact False.elim qq
theorem O7(Y:Ap W env c aa)(R:Av W aa env names H ρ s){a l u st:V}{va vl vu vs:Value}{sl:Addr}(ha:VR W a va)(hl:VR W l vl)(hu:VR W u vu)(hs:VR W st vs)(hsl:s.heap.IsSliceOf sl vl vu vs)(q:C8 a l u st H Q) :
 wpAny W.M A (getItem va (.ref sl)) (Bi W aa env names ρ Q) E s:=by
 have hL:∀a':Addr,Qo a' l u st H Q->wpAny W.M A (getItem (.ref a') (.ref sl)) (Bi W aa env names ρ Q) E s:=fun a' q=>by
  refine Cn q fun l' e1 q=>?_
  refine Cn q fun u' e2 q=>?_
  refine E3 q fun xs e3 qq=>?_
  clear q
  obtain⟨l1,h1,r1,z1⟩:=R.isList e3
  exact Uh Y R hl hu hs hsl e1 e2 e3 h1 r1 z1 qq
 induction ha with
 | ref a'=>exact hL a' q
 | _=>exact False.elim q
theorem Tz.put{es:List (Int×V)}{kvs:List (Int×Value)}(h:Tz W es kvs){k:Int}{v:V}{u:Value}(hv:VR W v u)(hn:(kvs.map (·.1)).Nodup):Tz W (Cc es k v) (stored kvs k u):=by
 have none_eq:∀l:List (Int×Value),l.any (fun kv=>kv.1=k)=false->l.map (fun kv=>if kv.1=k then(kv.1,u)else kv)=l:=by
  intro l hl
  induction l with
  | nil=>rfl
  | cons p t ih=>
    simp only[List.any_cons,Bool.or_eq_false_iff,decide_eq_false_iff_not]at hl
    simp only[List.map_cons,if_neg hl.1,ih hl.2]
 induction h with
 | nil=>exact .cons hv .nil
 | @cons k' v' c' es kvs h t ih=>
   simp only[List.map_cons,List.nodup_cons]at hn
   unfold Cc
   by_cases q:k=k'
   ·subst q
    rw[if_pos rfl]
    unfold stored
    rw[if_pos (by simp)]
    simp only[List.map_cons,if_true]
    rw[none_eq kvs (by
     rw[List.any_eq_false]
     intro p hp he
     exact hn.1 (List.mem_map.mpr ⟨p,hp,by simpa using he⟩))]
    exact .cons hv t
   ·rw[if_neg q]
    have:=ih hn.2
    unfold stored at this ⊢
    have q':¬k'=k:=fun e=>q e.symm
    simp only[List.any_cons,q',decide_false,Bool.false_or,List.map_cons,if_false]
    split
    ·rename_i hh;rw[if_pos hh]at this;exact .cons h this
    ·rename_i hh;rw[if_neg hh]at this;exact .cons h this
theorem Tz.length{es:List (Int×V)}{kvs:List (Int×Value)}(h:Tz W es kvs):es.length=kvs.length:=by
 induction h with
 | nil=>rfl
 | cons _ _ ih=>simp[ih]
theorem Kv(es:List (Int×V))(k:Int)(v:V):(Cc es k v).length<=es.length+1:=by
 induction es with
 | nil=>simp[Cc]
 | cons p t ih=>
   obtain⟨a,b⟩:=p
   unfold Cc
   split
   ·simp
   ·simp only[List.length_cons];exact Nat.succ_le_succ ih
theorem Mm{h:Heap}{a:Addr}{kvs:List (Int×Value)}(x:h.DictOf (intKind W.prog W.w) a kvs):∃ob,h.get? a=some ob/\ob.IsDictOf (intKind W.prog W.w) kvs:=
 let ⟨o,es,ep,h1,h2⟩:=x;⟨o,h1,es,ep,h2⟩
theorem Kw{h:Heap}{a:Addr}{kvs:List (Int×Value)}(x:h.DictOf (intKind W.prog W.w) a kvs):(kvs.map (·.1)).Nodup:=by
 obtain⟨_,_,_,_,_,_,_,_,h⟩:=x
 exact h
noncomputable def Ah6(W:Wd)(aa:HB)(env:Env)(names:List Str)(ρ:Ak)(N:AH->Prop)(s':Shared):Prop:=∃H',Av W aa env names H' ρ s'/\N H'
theorem O8(Y:Ap W env c aa)(R:Av W aa env names H ρ s){o i v:V}{uo ui uv:Value}(ho:VR W o uo)(hi:VR W i ui)(hv:VR W v uv){N:AH->Prop}(q:setItem o i v H N) :
 wpAny W.M A (PySem.setItem uo ui uv) (fun _ s'=>Ah6 W aa env names ρ N s') E s:=by
 delta Mine.Internal.setItem at q
 apply Bx ho q
 intro a q
 apply Az hi q
 intro k t q
 refine Aa fun nY=>?_
 split at q
 ·rename_i xs e1
  obtain⟨l1,nn,h1,r1,z1⟩:=R.lst e1
  refine nY ?_;clear nY
  refine Cn q fun j e2 q=>?_
  have b63:=Sl
  replace e2:C0 k xs.length=some j:=e2
  delta C0 at e2
  refine Aa fun nY=>?_
  split at e2
  ·rename_i h0
   split at e2
   ·rename_i h2;cases e2
    refine nY ?_;clear nY
    refine ki_setAt (n:=nn) h1 h0 (Int.lt_trans (Int.lt_of_lt_of_le h2 (Int.ofNat_le.mpr z1)) b63) (by simp[<-r1.length];exact h2) ?_
    exact⟨_,R.changeL e1 h1 (·.setIfInBounds _ uv) (by simp) (r1.set _ hv) (by simpa using z1) s.toks,q⟩
   ·cases e2
  ·rename_i h0
   split at e2
   ·rename_i h2;cases e2
    have hs:l1.toArray.size=xs.length:=by simp[r1.length]
    refine nY ?_;clear nY
    refine ki_setBack (n:=nn) h1 (Int.not_le.mp h0) (by rw[hs];exact Aco h2) (Ak0 z1 b63 h2) ?_
    exact⟨_,R.changeL e1 h1 (·.setIfInBounds _ uv) (by simp[r1.length]) (r1.set _ hv) (by simpa using z1) s.toks,q⟩
   ·cases e2
 ·rename_i es e1
  obtain⟨kvs,h1,r1,z1⟩:=R.isDict e1
  refine nY ?_;clear nY
  refine wpAny_setItem_pairs (intKind_is _ _ _ _) h1 (fun h' h2 h3=>?_) (by rw[<-r1.length];exact Af z1 Bw)
  refine Aa fun nY=>?_
  obtain⟨ob,h4,h5⟩:=Mm h2
  refine nY ?_;clear nY
  exact⟨_,R.change _ e1 h3 h4 (.dict (r1.put hv (Kw h1)) (Af (Kv _ _ _) q.1) h5) fun _ _=>⟨_,rfl⟩,q.2⟩
 ·exact q.elim
end Mine.Internal
namespace Mine.Internal
open PySem PySem.W PyProof.Rows
noncomputable def Et:Bool->Keyed->Array Keyed->Nat->Nat->Nat->StateT SortSt Sem (Option Nat):=sortPriv% PySem.Builtin.gallop
noncomputable def N3:Array Keyed->Array Keyed->StateT SortSt Sem (Array Keyed):=sortPriv% PySem.Builtin.mergeLo
noncomputable def N4:Array Keyed->Array Keyed->StateT SortSt Sem (Array Keyed):=sortPriv% PySem.Builtin.mergeHi
noncomputable abbrev Bc(st:SortSt)(g:Nat):SortSt:=SortSt.mk' (kindOf st) (arrOf st) (pendingOf st) g (failedOf st)
noncomputable def Fv(Ez:Bool)(key:Keyed)(arr:Array Keyed)(base i:Nat):StateT SortSt Sem (Option Bool):=do
 let x <-elem' arr (base+i)
 if Ez then lt' x key else return (<-lt' key x).map (!·)
noncomputable def Ac1(Ez:Bool)(key:Keyed)(arr:Array Keyed)(base n lo hi:Nat):StateT SortSt Sem (Option Nat):=do
 let mut lo:=lo
 let mut hi:=hi
 for _ in [0:n] do
  if lo≥hi then break
  let m:=lo+(hi-lo)/2
  let some more <-Fv Ez key arr base m|return none
  if more then lo:=m+1 else hi:=m
 return some hi
theorem Ui(Ez:Bool)(key:Keyed)(arr:Array Keyed)(base n hint:Nat):Et Ez key arr base n hint=(do
 let mut lastofs:=0
 let mut ofs:=1
 let some right <-Fv Ez key arr base hint|return none
 if right then
  let maxofs:=n-hint
  for _ in [0:n] do
   if ofs≥maxofs then break
   let some more <-Fv Ez key arr base (hint+ofs)|return none
   if !more then break
   lastofs:=ofs
   ofs:=2*ofs+1
  Ac1 Ez key arr base n (hint+lastofs+1) (hint+min ofs maxofs)
 else
  let maxofs:=hint+1
  for _ in [0:n] do
   if ofs≥maxofs then break
   let some found <-Fv Ez key arr base (hint-ofs)|return none
   if found then break
   lastofs:=ofs
   ofs:=2*ofs+1
  Ac1 Ez key arr base n (hint+1-min ofs maxofs) (hint-lastofs)):=rfl
noncomputable abbrev Ee(a b out:(Array Keyed))(ia ib:Nat):(Array Keyed):=out++a.extract ia a.size++b.extract ib b.size
noncomputable abbrev J1(a b out:(Array Keyed))(ia ib:Nat):(Array Keyed):=out++b.extract ib b.size++a.extract ia a.size
noncomputable def lo1(a b:(Array Keyed))(mg:Nat)(c:(Option (Array Keyed)×Array Keyed×Nat×Nat×Nat×Nat)):StateT SortSt Sem (ForInStep (Option (Array Keyed)×Array Keyed×Nat×Nat×Nat×Nat)):=do
 let x <-elem' b c.2.2.2.1
 let y <-elem' a c.2.2.1
 let r <-lt' x y
 match r with
 | some bWins=>
   if bWins then do
    let x <-elem' b c.2.2.2.1
    if (c.2.2.2.1+1==b.size)=true then pure (.done (some (Ee a b (c.2.1.push x) c.2.2.1 (c.2.2.2.1+1)),c.2.1.push x,c.2.2.1,c.2.2.2.1+1,0,c.2.2.2.2.2+1))
    else if c.2.2.2.2.2+1≥mg then pure (.done (none,c.2.1.push x,c.2.2.1,c.2.2.2.1+1,0,c.2.2.2.2.2+1))
    else pure (.yield (none,c.2.1.push x,c.2.2.1,c.2.2.2.1+1,0,c.2.2.2.2.2+1))
   else do
    let x <-elem' a c.2.2.1
    if (c.2.2.1+1+1==a.size)=true then pure (.done (some (J1 a b (c.2.1.push x) (c.2.2.1+1) c.2.2.2.1),c.2.1.push x,c.2.2.1+1,c.2.2.2.1,c.2.2.2.2.1+1,0))
    else if c.2.2.2.2.1+1≥mg then pure (.done (none,c.2.1.push x,c.2.2.1+1,c.2.2.2.1,c.2.2.2.2.1+1,0))
    else pure (.yield (none,c.2.1.push x,c.2.2.1+1,c.2.2.2.1,c.2.2.2.2.1+1,0))
 | _=>pure (.done (some (Ee a b c.2.1 c.2.2.1 c.2.2.2.1),c.2.1,c.2.2.1,c.2.2.2.1,c.2.2.2.2.1,c.2.2.2.2.2))
noncomputable def lo5(a b out:(Array Keyed))(ia ib mg ac bc:Nat):StateT SortSt Sem (ForInStep (Option (Array Keyed)×Array Keyed×Nat×Nat×Nat×Nat×Nat)):=do
 let x <-elem' a ia
 if (ia+1+1==a.size)=true then pure (.done (some (J1 a b (out.push x) (ia+1) ib),out.push x,ia+1,ib,mg,ac,bc))
 else if (decide (ac<7)&&decide (bc<7))=true then pure (.done (none,out.push x,ia+1,ib,mg,ac,bc))
 else pure (.yield (none,out.push x,ia+1,ib,mg,ac,bc))
noncomputable def lo4(a b out:(Array Keyed))(ia ib mg ac bc:Nat):StateT SortSt Sem (ForInStep (Option (Array Keyed)×Array Keyed×Nat×Nat×Nat×Nat×Nat)):=do
 let x <-elem' b ib
 if (ib+1==b.size)=true then pure (.done (some (Ee a b (out.push x) ia (ib+1)),out.push x,ia,ib+1,mg,ac,bc))
 else do
  let y <-elem' a ia
  let r <-Et true y b (ib+1) (b.size-(ib+1)) 0
  match r with
  | some k=>
    if k>0 then
     if (ib+1+k==b.size)=true then pure (.done (some (Ee a b (out.push x++b.extract (ib+1) (ib+1+k)) ia (ib+1+k)),out.push x++b.extract (ib+1) (ib+1+k),ia,ib+1+k,mg,ac,k))
     else lo5 a b (out.push x++b.extract (ib+1) (ib+1+k)) ia (ib+1+k) mg ac k
    else lo5 a b (out.push x) ia (ib+1) mg ac k
  | _=>pure (.done (some (Ee a b (out.push x) ia (ib+1)),out.push x,ia,ib+1,mg,ac,bc))
noncomputable def lo3(a b out:(Array Keyed))(ia ib mg ac bc:Nat):StateT SortSt Sem (ForInStep (Option (Array Keyed)×Array Keyed×Nat×Nat×Nat×Nat×Nat)):=do
 modify fun s=>Bc s mg
 let y <-elem' b ib
 let r <-Et false y a ia (a.size-ia) 0
 match r with
 | some k=>
   if k>0 then
    if (ia+k+1==a.size)=true then pure (.done (some (J1 a b (out++a.extract ia (ia+k)) (ia+k) ib),out++a.extract ia (ia+k),ia+k,ib,mg,k,bc))
    else if (ia+k==a.size)=true then pure (.done (some (Ee a b (out++a.extract ia (ia+k)) (ia+k) ib),out++a.extract ia (ia+k),ia+k,ib,mg,k,bc))
    else lo4 a b (out++a.extract ia (ia+k)) (ia+k) ib mg k bc
   else lo4 a b out ia ib mg k bc
 | _=>pure (.done (some (Ee a b out ia ib),out,ia,ib,mg,ac,bc))
noncomputable def lo2(a b:(Array Keyed))(c:(Option (Array Keyed)×Array Keyed×Nat×Nat×Nat×Nat×Nat)):StateT SortSt Sem (ForInStep (Option (Array Keyed)×Array Keyed×Nat×Nat×Nat×Nat×Nat)):=
 if c.2.2.2.2.1>1 then lo3 a b c.2.1 c.2.2.1 c.2.2.2.1 (c.2.2.2.2.1-1) c.2.2.2.2.2.1 c.2.2.2.2.2.2
 else lo3 a b c.2.1 c.2.2.1 c.2.2.2.1 c.2.2.2.2.1 c.2.2.2.2.2.1 c.2.2.2.2.2.2
noncomputable abbrev My{α β:Type}(x:Option α)(f:α->StateT SortSt Sem β)(g:Unit->StateT SortSt Sem β):StateT SortSt Sem β:= @Break.runK.match_1 α (fun _=>StateT SortSt Sem β) x f g
noncomputable def lo0(a b:Array Keyed)(c:Option (Array Keyed)×Array Keyed×Nat×Nat×Nat):StateT SortSt Sem (ForInStep (Option (Array Keyed)×Array Keyed×Nat×Nat×Nat)):=do
 let r <-forIn [0:a.size+b.size] ((none,c.2.1,c.2.2.1,c.2.2.2.1,0,0):Option (Array Keyed)×Array Keyed×Nat×Nat×Nat×Nat) fun _ d=>lo1 a b c.2.2.2.2 d
 My r.1 (fun x=>pure (.done (some x,r.2.1,r.2.2.1,r.2.2.2.1,c.2.2.2.2))) fun _=>do
  rule "list.sort.gallop"
  let q <-forIn [0:a.size+b.size] ((none,r.2.1,r.2.2.1,r.2.2.2.1,c.2.2.2.2+1,r.2.2.2.2.1,r.2.2.2.2.2):Option (Array Keyed)×Array Keyed×Nat×Nat×Nat×Nat×Nat) fun _ d=>lo2 a b d
  My q.1 (fun x=>pure (.done (some x,q.2.1,q.2.2.1,q.2.2.2.1,q.2.2.2.2.1))) fun _=>do
   modify fun s=>Bc s (q.2.2.2.2.1+1)
   pure (.yield (none,q.2.1,q.2.2.1,q.2.2.2.1,q.2.2.2.2.1+1))
theorem So(a b:Array Keyed):N3 a b=(do
 rule "list.sort.merge-lo"
 let x <-elem' b 0
 if (1==b.size)=true then pure (Ee a b #[x] 0 1)
 else if (0+1==a.size)=true then pure (J1 a b #[x] 0 1)
 else do
  let g <-get
  let r <-forIn [0:a.size+b.size] ((none,#[x],0,1,gallopOf g):Option (Array Keyed)×Array Keyed×Nat×Nat×Nat) fun _ c=>lo0 a b c
  My r.1 (fun x=>pure x) fun _=>unsupported "internal:list.sort.merge-bound"):=rfl
noncomputable abbrev Ef(a b out:Array Keyed)(na nb:Nat):Array Keyed:=a.extract 0 na++b.extract 0 nb++out.reverse
noncomputable abbrev Hd(a b out:Array Keyed)(na nb:Nat):Array Keyed:=b.extract 0 nb++a.extract 0 na++out.reverse
noncomputable def hi1(a b:Array Keyed)(mg:Nat)(c:Option (Array Keyed)×Nat×Nat×Array Keyed×Nat×Nat):StateT SortSt Sem (ForInStep (Option (Array Keyed)×Nat×Nat×Array Keyed×Nat×Nat)):=do
 let x <-elem' b (c.2.2.1-1)
 let y <-elem' a (c.2.1-1)
 let r <-lt' x y
 match r with
 | some aWins=>
   if aWins then do
    let x <-elem' a (c.2.1-1)
    if (c.2.1-1==0)=true then pure (.done (some (Ef a b (c.2.2.2.1.push x) (c.2.1-1) c.2.2.1),c.2.1-1,c.2.2.1,c.2.2.2.1.push x,c.2.2.2.2.1+1,0))
    else if c.2.2.2.2.1+1≥mg then pure (.done (none,c.2.1-1,c.2.2.1,c.2.2.2.1.push x,c.2.2.2.2.1+1,0))
    else pure (.yield (none,c.2.1-1,c.2.2.1,c.2.2.2.1.push x,c.2.2.2.2.1+1,0))
   else do
    let x <-elem' b (c.2.2.1-1)
    if (c.2.2.1-1==1)=true then pure (.done (some (Hd a b (c.2.2.2.1.push x) c.2.1 (c.2.2.1-1)),c.2.1,c.2.2.1-1,c.2.2.2.1.push x,0,c.2.2.2.2.2+1))
    else if c.2.2.2.2.2+1≥mg then pure (.done (none,c.2.1,c.2.2.1-1,c.2.2.2.1.push x,0,c.2.2.2.2.2+1))
    else pure (.yield (none,c.2.1,c.2.2.1-1,c.2.2.2.1.push x,0,c.2.2.2.2.2+1))
 | _=>pure (.done (some (Ef a b c.2.2.2.1 c.2.1 c.2.2.1),c.2.1,c.2.2.1,c.2.2.2.1,c.2.2.2.2.1,c.2.2.2.2.2))
noncomputable def hi5(a b out:Array Keyed)(na nb mg ac bc:Nat):StateT SortSt Sem (ForInStep (Option (Array Keyed)×Nat×Nat×Array Keyed×Nat×Nat×Nat)):=do
 let x <-elem' a (na-1)
 if (na-1==0)=true then pure (.done (some (Ef a b (out.push x) (na-1) nb),na-1,nb,out.push x,mg,ac,bc))
 else if (decide (ac<7)&&decide (bc<7))=true then pure (.done (none,na-1,nb,out.push x,mg,ac,bc))
 else pure (.yield (none,na-1,nb,out.push x,mg,ac,bc))
noncomputable def hi4(a b out:Array Keyed)(na nb mg ac bc:Nat):StateT SortSt Sem (ForInStep (Option (Array Keyed)×Nat×Nat×Array Keyed×Nat×Nat×Nat)):=do
 let x <-elem' b (nb-1)
 if (nb-1==1)=true then pure (.done (some (Hd a b (out.push x) na (nb-1)),na,nb-1,out.push x,mg,ac,bc))
 else do
  let y <-elem' a (na-1)
  let r <-Et true y b 0 (nb-1) (nb-1-1)
  match r with
  | some k=>
    if nb-1-k>0 then
     if (k==1)=true then pure (.done (some (Hd a b (out.push x++(b.extract k (nb-1)).reverse) na k),na,k,out.push x++(b.extract k (nb-1)).reverse,mg,ac,nb-1-k))
     else if (k==0)=true then pure (.done (some (Ef a b (out.push x++(b.extract k (nb-1)).reverse) na k),na,k,out.push x++(b.extract k (nb-1)).reverse,mg,ac,nb-1-k))
     else hi5 a b (out.push x++(b.extract k (nb-1)).reverse) na k mg ac (nb-1-k)
    else hi5 a b (out.push x) na (nb-1) mg ac (nb-1-k)
  | _=>pure (.done (some (Ef a b (out.push x) na (nb-1)),na,nb-1,out.push x,mg,ac,bc))
noncomputable def hi3(a b out:Array Keyed)(na nb mg ac bc:Nat):StateT SortSt Sem (ForInStep (Option (Array Keyed)×Nat×Nat×Array Keyed×Nat×Nat×Nat)):=do
 modify fun s=>Bc s mg
 let y <-elem' b (nb-1)
 let r <-Et false y a 0 na (na-1)
 match r with
 | some k=>
   if na-k>0 then
    if (k==0)=true then pure (.done (some (Ef a b (out++(a.extract k na).reverse) k nb),k,nb,out++(a.extract k na).reverse,mg,na-k,bc))
    else hi4 a b (out++(a.extract k na).reverse) k nb mg (na-k) bc
   else hi4 a b out na nb mg (na-k) bc
 | _=>pure (.done (some (Ef a b out na nb),na,nb,out,mg,ac,bc))
noncomputable def hi2(a b:Array Keyed)(c:Option (Array Keyed)×Nat×Nat×Array Keyed×Nat×Nat×Nat):StateT SortSt Sem (ForInStep (Option (Array Keyed)×Nat×Nat×Array Keyed×Nat×Nat×Nat)):=
 if c.2.2.2.2.1>1 then hi3 a b c.2.2.2.1 c.2.1 c.2.2.1 (c.2.2.2.2.1-1) c.2.2.2.2.2.1 c.2.2.2.2.2.2
 else hi3 a b c.2.2.2.1 c.2.1 c.2.2.1 c.2.2.2.2.1 c.2.2.2.2.2.1 c.2.2.2.2.2.2
noncomputable def hi0(a b:Array Keyed)(c:Option (Array Keyed)×Nat×Nat×Array Keyed×Nat):StateT SortSt Sem (ForInStep (Option (Array Keyed)×Nat×Nat×Array Keyed×Nat)):=do
 let r <-forIn [0:a.size+b.size] ((none,c.2.1,c.2.2.1,c.2.2.2.1,0,0):Option (Array Keyed)×Nat×Nat×Array Keyed×Nat×Nat) fun _ d=>hi1 a b c.2.2.2.2 d
 My r.1 (fun x=>pure (.done (some x,r.2.1,r.2.2.1,r.2.2.2.1,c.2.2.2.2))) fun _=>do
  rule "list.sort.gallop"
  let q <-forIn [0:a.size+b.size] ((none,r.2.1,r.2.2.1,r.2.2.2.1,c.2.2.2.2+1,r.2.2.2.2.1,r.2.2.2.2.2):Option (Array Keyed)×Nat×Nat×Array Keyed×Nat×Nat×Nat) fun _ d=>hi2 a b d
  My q.1 (fun x=>pure (.done (some x,q.2.1,q.2.2.1,q.2.2.2.1,q.2.2.2.2.1))) fun _=>do
   modify fun s=>Bc s (q.2.2.2.2.1+1)
   pure (.yield (none,q.2.1,q.2.2.1,q.2.2.2.1,q.2.2.2.2.1+1))
theorem Sp(a b:Array Keyed):N4 a b=(do
 rule "list.sort.merge-hi"
 let x <-elem' a (a.size-1)
 if (a.size-1==0)=true then pure (Ef a b #[x] (a.size-1) b.size)
 else if (b.size==1)=true then pure (Hd a b #[x] (a.size-1) b.size)
 else do
  let g <-get
  let r <-forIn [0:a.size+b.size] ((none,a.size-1,b.size,#[x],gallopOf g):Option (Array Keyed)×Nat×Nat×Array Keyed×Nat) fun _ c=>hi0 a b c
  My r.1 (fun x=>pure x) fun _=>unsupported "internal:list.sort.merge-bound"):=rfl
theorem Sq(i:Nat):mergeAt' i=(do
 let s <-get
 let (some (sa,na,power),some (sb,nb,_)):=((pendingOf s)[i]?,(pendingOf s)[i+1]?)|unsupported "internal:list.sort.pending"
 set (setPending s (((pendingOf s).setIfInBounds i (sa,na+nb,power)).eraseIdxIfInBounds (i+1)))
 let some k <-Et false (<-elem' (arrOf s) sb) (arrOf s) sa na 0|return false
 let (sa,na):=(sa+k,na-k)
 if na==0 then return true
 let some nb <-Et true (<-elem' (arrOf s) (sa+na-1)) (arrOf s) sb nb (nb-1)|return false
 if nb==0 then return true
 let x:=(arrOf s).extract sa sb
 let y:=(arrOf s).extract sb (sb+nb)
 let Um <-if na<=nb then N3 x y else N4 x y
 modify fun s=>setArr s (Um.toList.zipIdx.foldl (fun a (p,j)=>a.setIfInBounds (sa+j) p) (arrOf s))
 return (failedOf (<-get)).isNone):=rfl
end Mine.Internal
namespace Mine.Internal
open PySem PySem.W PyProof PyProof.Rows
section
variable {prog:Program} {w:World} {A:Around} {E:Value->Shared->Prop} {s:Shared} {κ:SortKind} {af:Array Keyed} {rk:Keyed->Nat}
structure Rs(prog:Program)(w:World)(A:Around)(s:Shared)(κ:SortKind)(af:Array Keyed)(rk:Keyed->Nat):Prop where
 cmp:∀x∈af.toList,∀y∈af.toList,∀(Q:Bool->Shared->Prop) (E:Value->Shared->Prop),Q (decide (rk x<rk y)) s->wpAny (model prog w) A (keyLt' κ x.1 y.1) Q E s
 nd:(af.toList.map rk).Nodup
theorem Rs.ne(hc:Rs prog w A s κ af rk){arr:Array Keyed}(hp:arr.Perm af){i j:Nat}{x y:Keyed}(hi:arr[i]? = some x)(hj:arr[j]? = some y)(h:i≠j):rk x≠rk y:=fun e=>by
 have nd:=((Array.perm_iff_toList_perm.mp hp).map rk).nodup_iff.mpr hc.nd
 have h1:(arr.toList.map rk)[i]? = some (rk x):=by rw[List.getElem?_map,Array.getElem?_toList,hi];rfl
 have h2:(arr.toList.map rk)[j]? = some (rk x):=by rw[List.getElem?_map,Array.getElem?_toList,hj,e];rfl
 obtain⟨l1,g1⟩:=Da h1
 obtain⟨l2,g2⟩:=Da h2
 have pw:=List.pairwise_iff_getElem.mp nd
 rcases Nat.lt_or_gt_of_ne h with q|q
 ·exact pw i j l1 l2 q (g1.trans g2.symm)
 ·exact pw j i l2 l1 q (g2.trans g1.symm)
theorem E5(hc:Rs prog w A s κ af rk){x y:Keyed}(hx:x∈af.toList)(hy:y∈af.toList){st:SortSt}(hk:kindOf st=κ){Q:Option Bool->SortSt->Prop}(h:Q (some (decide (rk x<rk y))) st) :
 Rows.wpS (model prog w) A E s (lt' x y) Q st:=by
 rw[lt'_eq]
 refine wpS_bind (wpS_get ?_)
 rw[hk]
 refine wpS_bind (wpS_lift (wpAny_attempt (hc.cmp x hx y hy _ _ ⟨rfl,?_⟩)))
 exact wpS_pure h
theorem A5{M:Model}{arr:Array Keyed}{i:Nat}(hi:i<arr.size){st:SortSt}{Q:Keyed->SortSt->Prop}(h:∀p∈arr.toList,arr[i]? = some p->Q p st):Rows.wpS M A E s (elem' arr i) Q st:=by
 rw[elem'_eq,Array.getElem?_eq_getElem hi]
 exact wpS_pure (h _ (Array.getElem_mem_toList hi) (Array.getElem?_eq_getElem hi))
noncomputable def pAt(rk:Keyed->Nat)(key:Keyed)(arr:Array Keyed)(i:Nat):Bool:=match arr[i]? with|some x=>decide (rk x<rk key)|none=>false
theorem N5{key x:Keyed}{arr:Array Keyed}{i:Nat}(h:arr[i]? = some x):pAt rk key arr i=decide (rk x<rk key):=by unfold pAt;rw[h]
theorem Uj(hc:Rs prog w A s κ af rk){Ez:Bool}{key:Keyed}{arr:Array Keyed}{base i:Nat}(hkey:key∈af.toList)(harr:∀p∈arr.toList,p∈af.toList){st:SortSt}(hk:kindOf st=κ)(hi:base+i<arr.size)
 (ne:∀x,arr[base+i]? = some x->rk x≠rk key) {Q:Option Bool->SortSt->Prop} (h:Q (some (pAt rk key arr (base+i))) st):Rows.wpS (model prog w) A E s (Fv Ez key arr base i) Q st:=by
 unfold Fv
 refine wpS_bind (A5 hi fun p hp e=>?_)
 rw[N5 e]at h
 cases Ez with
 | true=>exact E5 hc (harr p hp) hkey hk h
 | false=>
   refine wpS_bind (E5 hc hkey (harr p hp) hk (wpS_pure ?_))
   have:(!decide (rk key<rk p))=decide (rk p<rk key):=by
    have:=ne p e
    by_cases q:rk p<rk key
    ·rw[decide_eq_true q,decide_eq_false (Nat.lt_asymm q)];rfl
    ·rw[decide_eq_false q,decide_eq_true (Nat.lt_of_le_of_ne (Nat.le_of_not_lt q) (Ne.symm this))];rfl
   rw[<-this]at h
   exact h
theorem Afq{l r:Nat}(h:¬l≥r):l+(r-l)/2<r:=(Nat.lt_of_lt_of_eq (Nat.add_lt_add_left (Nat.div_lt_self (Nat.sub_pos_of_lt (Nat.lt_of_not_le h)) (by decide)) _) (Nat.add_sub_cancel' (Nat.le_of_lt (Nat.lt_of_not_le h))))
structure Gal(p:Nat->Bool)(n k:Nat):Prop where
 le:k<=n
 t:∀i,i<k->p i=true
 f:∀i,k<=i->i<n->p i=false
noncomputable abbrev Xg(p:Nat->Bool)(n:Nat):Prop:=∀i j,i<=j->j<n->p j=true->p i=true
theorem Xg.t{p:Nat->Bool}{n m:Nat}(an:Xg p n)(hm:m<n)(h:p m=true):∀i,i<m+1->p i=true:=fun i hi=>an i m (Nat.le_of_lt_succ hi) hm h
theorem Xg.f{p:Nat->Bool}{n m:Nat}(an:Xg p n)(h:p m=false):∀i,m<=i->i<n->p i=false:=fun i hi hn=>by
 cases q:p i with
 | false=>rfl
 | true=>rw[an m i hi hn q]at h;cases h
theorem Gu{p:Nat->Bool}{Ez:Bool}{key:Keyed}{arr:Array Keyed}{base n lo hi:Nat}{st:SortSt}(an:Xg p n)
 (bey:∀i,i<n->∀ {Q':Option Bool->SortSt->Prop},Q' (some (p i)) st->Rows.wpS (model prog w) A E s (Fv Ez key arr base i) Q' st) (hlo:∀i,i<lo->p i=true) (hhi:hi<=n) (hf:∀i,hi<=i->i<n->p i=false)
 {Q:Option Nat->SortSt->Prop} (h:∀k,Gal p n k->Q (some k) st):Rows.wpS (model prog w) A E s (Ac1 Ez key arr base n lo hi) Q st:=by
 unfold Ac1
 dsimp only
 refine wpS_bind (wpS_mono (wpS_forRange (I:=fun t c st'=>st'=st/\c.1=none/\(∀i,i<c.2.1->p i=true)/\c.2.2<=n/\(∀i,c.2.2<=i->i<n->p i=false)/\c.2.2-c.2.1<=n-t) (Q:=fun c st'=>st'=st/\c.1=none/\Gal p n c.2.2) ?_ ?_ ⟨rfl,rfl,hlo,hhi,hf,Af (Nat.sub_le _ _) hhi⟩) ?_)
 ·rintro t ⟨c,l,r⟩ st' _ ht ⟨rfl,rfl,h1,h2,h3,h4⟩
  dsimp only at h1 h2 h3 h4 ht ⊢
  split
  ·rename_i q
   exact wpS_pure ⟨rfl,rfl,h2,fun i hi=>h1 i (Nat.lt_of_lt_of_le hi q),h3⟩
  ·rename_i hlr
   have hmid:=Nat.lt_of_lt_of_le (Afq hlr) h2
   refine wpS_bind (bey _ hmid ?_)
   cases q:p (l+(r-l)/2)with
   | true=>exact wpS_pure ⟨rfl,rfl,an.t hmid q,h2,h3,by show r-(l+(r-l)/2+1)<=n-(t+1);exact(Af (Nat.sub_le_sub_left (Nat.succ_le_succ (Nat.le_add_right _ _)) _) (Nat.sub_le_sub_right h4 1))⟩
   | false=>exact wpS_pure ⟨rfl,rfl,h1,Nat.le_of_lt hmid,an.f q,by show l+(r-l)/2-l<=n-(t+1);exact(Af (Nat.le_of_eq (Nat.add_sub_cancel_left ..)) (Af (qh _) (Nat.sub_le_sub_right h4 1)))⟩
 ·rintro⟨c,l,r⟩ st' ⟨rfl,h0,h1,h2,h3,h4⟩
  dsimp only at h0 h1 h2 h3 h4 ⊢
  exact⟨rfl,h0,h2,fun i hi=>h1 i (Nat.lt_of_lt_of_le hi (Nat.sub_eq_zero_iff_le.mp (Nat.eq_zero_of_le_zero (Af h4 (Nat.le_of_eq (qd _)))))),h3⟩
 ·rintro⟨c,l,r⟩ st' ⟨rfl,rfl,g⟩
  exact wpS_pure (h _ g)
theorem Uk{p:Nat->Bool}{Ez:Bool}{key:Keyed}{arr:Array Keyed}{base n hint:Nat}{st:SortSt}(an:Xg p n)
 (bey:∀i,i<n->∀ {Q':Option Bool->SortSt->Prop},Q' (some (p i)) st->Rows.wpS (model prog w) A E s (Fv Ez key arr base i) Q' st) (hh:hint<n)
 {Q:Option Nat->SortSt->Prop} (h:∀k,Gal p n k->Q (some k) st):Rows.wpS (model prog w) A E s (Et Ez key arr base n hint) Q st:=by
 rw[Ui]
 dsimp only
 refine wpS_bind (bey hint hh ?_)
 cases q0:p hint with
 | true=>
   refine wpS_bind (wpS_forRange (I:=fun t c st'=>st'=st/\c.1=none/\(∀i,i<hint+c.2.1+1->p i=true)/\t+1<=c.2.2) ?_ ?_ ⟨rfl,rfl,an.t hh q0,Nat.le_refl _⟩)
   ·rintro t ⟨c,l,r⟩ st' _ _ ⟨rfl,h1,h2,h3⟩
    dsimp only at h1 h2 h3 ⊢
    subst h1
    split
    ·rename_i q
     refine wpS_pure (Gu an bey h2 (Nat.le_of_eq ?_) (fun i hi hn=>?_) h)
     ·rw[Nat.min_eq_right q];exact Nat.add_sub_cancel' (Nat.le_of_lt hh)
     ·rw[Nat.min_eq_right q]at hi;exact(Nat.not_le_of_lt hn (Af (Nat.sub_le_iff_le_add'.mp (Nat.le_refl _)) hi)).elim
    ·rename_i q
     have hb:hint+r<n:=(Nat.add_lt_of_lt_sub' (Nat.lt_of_not_le q))
     refine wpS_bind (bey _ hb ?_)
     cases q1:p (hint+r)
     ·refine wpS_pure (Gu an bey h2 ?_ ?_ h)
      ·show hint+min r (n-hint)<=n;exact Af (Nat.add_le_add_left (Nat.min_le_left _ _) _) (Nat.le_of_lt hb)
      ·show ∀i,hint+min r (n-hint)<=i->_
       rw[Nat.min_eq_left (Nat.le_sub_of_add_le' (Nat.le_of_lt hb))];exact an.f q1
     ·exact wpS_pure ⟨rfl,rfl,an.t hb q1,by show t+1+1<=2*r+1;exact Ahu h3⟩
   ·rintro⟨c,l,r⟩ st' ⟨rfl,h1,h2,h3⟩
    dsimp only at h1 h2 h3 ⊢
    subst h1
    have e:hint+min r (n-hint)=n:=(Ake hh h3)
    exact Gu an bey h2 (Nat.le_of_eq e) (fun i hi hn=>by rw[e]at hi;exact(Nat.not_lt_of_le hi hn).elim) h
 | false=>
   refine wpS_bind (wpS_forRange (I:=fun t c st'=>st'=st/\c.1=none/\(∀i,hint-c.2.1<=i->i<n->p i=false)/\t+1<=c.2.2) ?_ ?_ ⟨rfl,rfl,an.f q0,Nat.le_refl _⟩)
   ·rintro t ⟨c,l,r⟩ st' _ _ ⟨rfl,h1,h2,h3⟩
    dsimp only at h1 h2 h3 ⊢
    subst h1
    have le:hint-l<=n:=Af (Nat.sub_le _ _) (Nat.le_of_lt hh)
    split
    ·rename_i q
     refine wpS_pure (Gu an bey (fun i (hi:i<hint+1-min r (hint+1))=>?_) le h2 h)
     exact(Akf q hi).elim
    ·rename_i q
     have hb:hint-r<n:=Nat.lt_of_le_of_lt (Nat.sub_le _ _) hh
     refine wpS_bind (bey _ hb ?_)
     cases q1:p (hint-r)
     ·exact wpS_pure ⟨rfl,rfl,an.f q1,by show t+1+1<=2*r+1;exact Ahu h3⟩
     ·refine wpS_pure (Gu an bey (fun i (hi:i<hint+1-min r (hint+1))=>an.t hb q1 i ?_) le h2 h)
      exact Akg hi
   ·rintro⟨c,l,r⟩ st' ⟨rfl,h1,h2,h3⟩
    dsimp only at h1 h2 h3 ⊢
    subst h1
    refine Gu an bey (fun i (hi:i<hint+1-min r (hint+1))=>?_) (Af (Nat.sub_le _ _) (Nat.le_of_lt hh)) h2 h
    exact(Akh hh h3 hi).elim
noncomputable def Dm(rk:Keyed->Nat)(arr:Array Keyed)(f t:Nat):Prop:=∀i j x y,f<=i->i<j->j<t->arr[i]? = some x->arr[j]? = some y->rk x<rk y
theorem De(hc:Rs prog w A s κ af rk){Ez:Bool}{key:Keyed}{arr:Array Keyed}{base n hint:Nat}(hkey:key∈af.toList)(harr:∀p∈arr.toList,p∈af.toList){st:SortSt}(hk:kindOf st=κ)(hb:base+n<=arr.size)(hh:hint<n)
 (inc:Dm rk arr base (base+n)) (ne:∀i x,base<=i->i<base+n->arr[i]? = some x->rk x≠rk key)
 {Q:Option Nat->SortSt->Prop} (h:∀k,k<=n->(∀i x,base<=i->i<base+k->arr[i]? = some x->rk x<rk key)->(∀i x,base+k<=i->i<base+n->arr[i]? = some x->rk key<rk x)->Q (some k) st):Rows.wpS (model prog w) A E s (Et Ez key arr base n hint) Q st:=by
 refine Uk (p:=fun i=>pAt rk key arr (base+i)) (fun i j hi hj q=>?_) (fun i hi Q' h'=>Uj hc hkey harr hk (T6 hb hi) (fun x=>ne _ x (Nat.le_add_right _ _) (Y0 hi)) h') hh fun k g=>h k g.le (fun i x h1 h2 e=>?_) fun i x h1 h2 e=>?_
 ·have ei:=Array.getElem?_eq_getElem (xs:=arr) (i:=base+i) (Nat.lt_of_lt_of_le (Nat.add_lt_add_left (Nat.lt_of_le_of_lt hi hj) _) hb)
  have ej:=Array.getElem?_eq_getElem (xs:=arr) (i:=base+j) (T6 hb hj)
  dsimp only at q ⊢
  rw[N5 ej]at q
  rw[N5 ei]
  have q:=of_decide_eq_true q
  refine decide_eq_true ?_
  rcases Nat.lt_or_eq_of_le hi with lt|rfl
  ·exact Nat.lt_trans (inc _ _ _ _ (Nat.le_add_right _ _) (Y0 lt) (Y0 hj) ei ej) q
  ·exact q
 ·have:=g.t (i-base) (Nat.sub_lt_left_of_lt_add h1 h2)
  rw[Nat.add_sub_of_le h1,N5 e]at this
  exact of_decide_eq_true this
 ·have:=g.f (i-base) (Nat.le_sub_of_add_le' h1) (Nat.sub_lt_left_of_lt_add (Af (Nat.le_add_right _ _) h1) h2)
  rw[Nat.add_sub_of_le (T5 h1),N5 e]at this
  have:=of_decide_eq_false this
  have:=ne i x (T5 h1) h2 e
  omega
end
section
variable {a b out:Array Keyed} {ia ib k:Nat} {x:Keyed}
theorem Ga:(a.extract ia a.size).toList=a.toList.drop ia:=by simp;exact List.take_of_length_le (by simp)
theorem Pz:(a.extract ia (ia+k)).toList=(a.toList.drop ia).take k:=by simp[List.extract_eq_take_drop]
theorem Gb:(a.extract 0 ia).toList=a.toList.take ia:=by simp
theorem Qs(_:k<=ia):(a.extract k ia).toList=(a.toList.take ia).drop k:=by simp[List.extract_eq_take_drop,List.drop_take]
theorem D3(h:a[ia]? = some x):a.toList.drop ia=x::a.toList.drop (ia+1):=by
 obtain⟨h1,h2⟩:=Array.getElem?_eq_some_iff.mp h
 rw[List.drop_eq_getElem_cons (by simpa using h1)]
 simp[h2]
theorem Eu(h:a[ia]? = some x):a.toList.take (ia+1)=a.toList.take ia ++ [x]:=by
 obtain⟨h1,h2⟩:=Array.getElem?_eq_some_iff.mp h
 rw[List.take_add_one]
 simp[h]
structure PM(a b out:Array Keyed)(ia ib:Nat):Prop where
 la:ia<=a.size
 lb:ib<=b.size
 pm:(out.toList++(a.toList.drop ia++b.toList.drop ib)).Perm (a.toList++b.toList)
theorem PM.size(h:PM a b out ia ib):out.size=ia+ib:=by
 have:=h.pm.length_eq
 have:=h.la
 have:=h.lb
 simp at *
 omega
theorem PM.done(h:PM a b out ia ib):(Ee a b out ia ib).toList.Perm (a.toList++b.toList):=by
 rw[Array.toList_append,Array.toList_append,Ga,Ga,List.append_assoc]
 exact h.pm
theorem PM.last(h:PM a b out ia ib):(J1 a b out ia ib).toList.Perm (a.toList++b.toList):=by
 rw[Array.toList_append,Array.toList_append,Ga,Ga,List.append_assoc]
 exact(List.Perm.append_left _ List.perm_append_comm).trans h.pm
theorem PM.pushB(h:PM a b out ia ib)(e:b[ib]? = some x):PM a b (out.push x) ia (ib+1):=by
 refine⟨h.la,(Array.getElem?_eq_some_iff.mp e).1,?_⟩
 have:=h.pm
 rw[D3 e]at this
 rw[Array.toList_push,List.append_assoc]
 show (out.toList++(x::(a.toList.drop ia++b.toList.drop (ib+1)))).Perm _
 exact(List.Perm.append_left _ (List.perm_middle (l₁:=a.toList.drop ia)).symm).trans this
theorem PM.pushA(h:PM a b out ia ib)(e:a[ia]? = some x):PM a b (out.push x) (ia+1) ib:=by
 refine⟨(Array.getElem?_eq_some_iff.mp e).1,h.lb,?_⟩
 have:=h.pm
 rw[D3 e]at this
 rw[Array.toList_push,List.append_assoc]
 exact this
theorem PM.appA(h:PM a b out ia ib)(hk:ia+k<=a.size):PM a b (out++a.extract ia (ia+k)) (ia+k) ib:=by
 refine⟨hk,h.lb,?_⟩
 have:=h.pm
 rw[<-List.take_append_drop k (a.toList.drop ia),List.drop_drop,List.append_assoc]at this
 rw[Array.toList_append,Pz,List.append_assoc]
 exact this
theorem PM.appB(h:PM a b out ia ib)(hk:ib+k<=b.size):PM a b (out++b.extract ib (ib+k)) ia (ib+k):=by
 refine⟨h.la,hk,?_⟩
 have:=h.pm
 rw[<-List.take_append_drop k (b.toList.drop ib),List.drop_drop]at this
 rw[Array.toList_append,Pz,List.append_assoc]
 refine List.Perm.trans (List.Perm.append_left _ ?_) this
 rw[<-List.append_assoc,<-List.append_assoc]
 exact List.Perm.append_right _ List.perm_append_comm
structure PH(a b out:Array Keyed)(na nb:Nat):Prop where
 la:na<=a.size
 lb:nb<=b.size
 pm:(a.toList.take na++b.toList.take nb++out.toList.reverse).Perm (a.toList++b.toList)
theorem PH.size(h:PH a b out ia ib):out.size+ia+ib=a.size+b.size:=by
 have:=h.pm.length_eq
 have:=h.la
 have:=h.lb
 simp at *
 omega
theorem PH.done(h:PH a b out ia ib):(Ef a b out ia ib).toList.Perm (a.toList++b.toList):=by
 rw[Array.toList_append,Array.toList_append,Gb,Gb,Array.toList_reverse]
 exact h.pm
theorem PH.first(h:PH a b out ia ib):(Hd a b out ia ib).toList.Perm (a.toList++b.toList):=by
 rw[Array.toList_append,Array.toList_append,Gb,Gb,Array.toList_reverse]
 exact(List.Perm.append_right _ List.perm_append_comm).trans h.pm
theorem PH.pushB(h:PH a b out ia (ib+1))(e:b[ib]? = some x):PH a b (out.push x) ia ib:=by
 refine⟨h.la,Nat.le_of_succ_le h.lb,?_⟩
 have:=h.pm
 rw[Eu e]at this
 rw[Array.toList_push,List.reverse_append]
 simpa[List.append_assoc]using this
theorem PH.pushA(h:PH a b out (ia+1) ib)(e:a[ia]? = some x):PH a b (out.push x) ia ib:=by
 refine⟨Nat.le_of_succ_le h.la,h.lb,?_⟩
 have:=h.pm
 rw[Eu e]at this
 rw[Array.toList_push,List.reverse_append]
 refine List.Perm.trans ?_ this
 simp only[List.append_assoc,List.reverse_cons,List.reverse_nil,List.nil_append,List.cons_append]
 exact List.Perm.append_left _ List.perm_middle
theorem PH.appA(h:PH a b out ia ib)(hk:k<=ia):PH a b (out++(a.extract k ia).reverse) k ib:=by
 refine⟨Af hk h.la,h.lb,?_⟩
 have:=h.pm
 rw[<-List.take_append_drop k (a.toList.take ia),List.take_take,Nat.min_eq_left hk]at this
 rw[Array.toList_append,Array.toList_reverse,Qs hk,List.reverse_append,List.reverse_reverse]
 refine List.Perm.trans ?_ this
 simp only[List.append_assoc]
 refine List.Perm.append_left _ ?_
 rw[<-List.append_assoc,<-List.append_assoc]
 exact List.Perm.append_right _ List.perm_append_comm
theorem PH.appB(h:PH a b out ia ib)(hk:k<=ib):PH a b (out++(b.extract k ib).reverse) ia k:=by
 refine⟨h.la,Af hk h.lb,?_⟩
 have:=h.pm
 rw[<-List.take_append_drop k (b.toList.take ib),List.take_take,Nat.min_eq_left hk]at this
 rw[Array.toList_append,Array.toList_reverse,Qs hk,List.reverse_append,List.reverse_reverse]
 simpa only[List.append_assoc]using this
end
section
variable {rk:Keyed->Nat} {a b out:Array Keyed} {ia ib k:Nat} {x y:Keyed}
noncomputable abbrev O3(rk:Keyed->Nat)(l:List Keyed):Prop:=l.Pairwise fun x y=>rk x<rk y
theorem O3.mv{o u v z:List Keyed}(h1:O3 rk (o++(u++v)))(h2:O3 rk (o++(y::z)))(hu:∀x∈u,rk x<rk y):O3 rk ((o++u)++(y::z)):=by
 obtain⟨a1,a2,a3⟩:=List.pairwise_append.mp h1
 obtain⟨b1,b2,b3⟩:=List.pairwise_append.mp h2
 refine List.pairwise_append.mpr ⟨List.pairwise_append.mpr ⟨a1,(List.pairwise_append.mp a2).1,fun x hx y hy=>a3 x hx y (List.mem_append_left _ hy)⟩,b2,fun x hx w hw=>?_⟩
 rcases List.mem_append.mp hx with q|q
 ·exact b3 x q w hw
 ·rcases List.mem_cons.mp hw with rfl|r
  ·exact hu x q
  ·exact Nat.lt_trans (hu x q) ((List.pairwise_cons.mp b2).1 w r)
theorem O3.mvR{o u v z:List Keyed}(h1:O3 rk ((u++v)++o))(h2:O3 rk ((z ++ [y])++o))(hv:∀x∈v,rk y<rk x):O3 rk ((z ++ [y])++(v++o)):=by
 obtain⟨a1,a2,a3⟩:=List.pairwise_append.mp h1
 obtain⟨b1,b2,b3⟩:=List.pairwise_append.mp h2
 refine List.pairwise_append.mpr ⟨b1,List.pairwise_append.mpr ⟨(List.pairwise_append.mp a1).2.1,a2,fun x hx y hy=>a3 x (List.mem_append_right _ hx) y hy⟩,fun x hx w hw=>?_⟩
 rcases List.mem_append.mp hw with q|q
 ·rcases List.mem_append.mp hx with r|r
  ·exact Nat.lt_trans ((List.pairwise_append.mp b1).2.2 x r y (.head _)) (hv w q)
  ·cases List.mem_singleton.mp r
   exact hv w q
 ·exact b3 x hx w q
theorem Lo{i:Nat}(h:a[i]? = some x):x∈a.toList:=by
 rw[<-Array.getElem?_toList]at h
 exact List.mem_of_getElem? h
theorem Aad(h:x∈(a.toList.drop ia).take k):∃i,ia<=i/\i<ia+k/\a[i]? = some x:=by
 obtain⟨i,hi⟩:=List.mem_iff_getElem?.mp h
 rw[List.getElem?_take,List.getElem?_drop,Array.getElem?_toList]at hi
 split at hi
 ·exact⟨_,Nat.le_add_right _ _,Nat.add_lt_add_left (by assumption) _,hi⟩
 ·cases hi
theorem Vz(hk:k<=ia)(h:x∈(a.toList.take ia).drop k):∃i,k<=i/\i<ia/\a[i]? = some x:=by
 rw[List.drop_take]at h
 obtain⟨i,h1,h2,h3⟩:=Aad h
 exact⟨i,h1,(Aki h1 h2),h3⟩
structure MS(rk:Keyed->Nat)(a b:Array Keyed):Prop where
 sa:O3 rk a.toList
 sb:O3 rk b.toList
 ne:∀x∈a.toList,∀y∈b.toList,rk x≠rk y
 first:∀x∈a.toList,∀y,b[0]? = some y->rk y<rk x
 last:∀y∈b.toList,∀x,a[a.size-1]? = some x->rk y<rk x
theorem O3.inc{f t:Nat}(h:O3 rk a.toList):Dm rk a f t:=fun i j x y _ hij _ ei ej=>by
 rw[<-Array.getElem?_toList]at ei ej
 obtain⟨l1,g1⟩:=Da ei
 obtain⟨l2,g2⟩:=Da ej
 have:=List.pairwise_iff_getElem.mp h i j l1 l2 hij
 rw[g1,g2]at this
 exact this
structure LS(rk:Keyed->Nat)(a b out:Array Keyed)(ia ib:Nat):Prop where
 s1:O3 rk (out.toList++a.toList.drop ia)
 s2:O3 rk (out.toList++b.toList.drop ib)
theorem LS.symm(h:LS rk a b out ia ib):LS rk b a out ib ia:=⟨h.s2,h.s1⟩
theorem LS.pushB(h:LS rk a b out ia ib)(e:b[ib]? = some x)(e':a[ia]? = some y)(q:rk x<rk y):LS rk a b (out.push x) ia (ib+1):=by
 have h1:=h.s1
 have h2:=h.s2
 rw[D3 e']at h1
 rw[D3 e]at h2
 refine⟨?_,?_⟩
 ·rw[Array.toList_push,D3 e']
  exact O3.mv (u:=[x]) h2 h1 fun z hz=>by cases List.mem_singleton.mp hz;exact q
 ·rw[Array.toList_push,List.append_assoc]
  exact h2
theorem LS.pushA(h:LS rk a b out ia ib)(e:a[ia]? = some x)(e':b[ib]? = some y)(q:rk x<rk y):LS rk a b (out.push x) (ia+1) ib:=(h.symm.pushB e e' q).symm
theorem LS.appA(h:LS rk a b out ia ib)(e:b[ib]? = some y)(q:∀i x,ia<=i->i<ia+k->a[i]? = some x->rk x<rk y):LS rk a b (out++a.extract ia (ia+k)) (ia+k) ib:=by
 have h1:=h.s1
 have h2:=h.s2
 rw[D3 e]at h2
 rw[<-List.take_append_drop k (a.toList.drop ia),List.drop_drop]at h1
 refine⟨?_,?_⟩
 ·rw[Array.toList_append,Pz,List.append_assoc]
  exact h1
 ·rw[Array.toList_append,Pz,D3 e]
  refine O3.mv h1 h2 fun z hz=>?_
  obtain⟨i,i1,i2,i3⟩:=Aad hz
  exact q i z i1 i2 i3
theorem LS.appB(h:LS rk a b out ia ib)(e:a[ia]? = some y)(q:∀i x,ib<=i->i<ib+k->b[i]? = some x->rk x<rk y):LS rk a b (out++b.extract ib (ib+k)) ia (ib+k):=(h.symm.appA e q).symm
noncomputable abbrev Fh(rk:Keyed->Nat)(a b r:Array Keyed):Prop:=r.toList.Perm (a.toList++b.toList)/\O3 rk r.toList
theorem Kx(h:a.size<=ia):a.toList.drop ia = []:=List.drop_eq_nil_of_le (by rw[Array.length_toList];exact h)
theorem LS.doneB(h:LS rk a b out ia ib)(p:PM a b out ia ib)(q:b.size<=ib):Fh rk a b (Ee a b out ia ib):=⟨p.done,by
 rw[Array.toList_append,Array.toList_append,Ga,Ga,Kx q,List.append_nil]
 exact h.s1⟩
theorem LS.doneA(h:LS rk a b out ia ib)(p:PM a b out ia ib)(q:a.size<=ia):Fh rk a b (Ee a b out ia ib):=⟨p.done,by
 rw[Array.toList_append,Array.toList_append,Ga,Ga,Kx q,List.append_nil]
 exact h.s2⟩
theorem LS.last(M:MS rk a b)(h:LS rk a b out ia ib)(p:PM a b out ia ib)(q:ia+1=a.size):Fh rk a b (J1 a b out ia ib):=⟨p.last,by
 obtain⟨z,e⟩:∃z,a[ia]? = some z:=⟨_,Array.getElem?_eq_getElem (Nat.le_of_eq q)⟩
 have h1:=h.s1
 rw[D3 e,Kx (Nat.le_of_eq q.symm)]at h1
 rw[Array.toList_append,Array.toList_append,Ga,Ga,D3 e,Kx (Nat.le_of_eq q.symm)]
 refine List.pairwise_append.mpr ⟨h.s2,List.pairwise_singleton _ _,fun u hu w hw=>?_⟩
 cases List.mem_singleton.mp hw
 rcases List.mem_append.mp hu with r|r
 ·exact(List.pairwise_append.mp h1).2.2 u r _ (.head _)
 ·exact M.last u (List.mem_of_mem_drop r) _ (by rw[<-q];exact e)⟩
structure HS(rk:Keyed->Nat)(a b out:Array Keyed)(na nb:Nat):Prop where
 s1:O3 rk (a.toList.take na++out.toList.reverse)
 s2:O3 rk (b.toList.take nb++out.toList.reverse)
theorem HS.symm(h:HS rk a b out ia ib):HS rk b a out ib ia:=⟨h.s2,h.s1⟩
theorem Sr:(out.push x).toList.reverse = [x]++out.toList.reverse:=by rw[Array.toList_push,List.reverse_append];rfl
theorem HS.pushA(h:HS rk a b out (ia+1) (ib+1))(e:a[ia]? = some x)(e':b[ib]? = some y)(q:rk y<rk x):HS rk a b (out.push x) ia (ib+1):=by
 have h1:=h.s1
 have h2:=h.s2
 rw[Eu e]at h1
 rw[Eu e']at h2
 refine⟨?_,?_⟩
 ·rw[Sr,<-List.append_assoc]
  exact h1
 ·rw[Sr,Eu e']
  exact O3.mvR h1 h2 fun z hz=>by cases List.mem_singleton.mp hz;exact q
theorem HS.pushB(h:HS rk a b out (ia+1) (ib+1))(e:b[ib]? = some x)(e':a[ia]? = some y)(q:rk y<rk x):HS rk a b (out.push x) (ia+1) ib:=(h.symm.pushA e e' q).symm
theorem HS.appA(h:HS rk a b out ia (ib+1))(hk:k<=ia)(e:b[ib]? = some y)(q:∀i x,k<=i->i<ia->a[i]? = some x->rk y<rk x):HS rk a b (out++(a.extract k ia).reverse) k (ib+1):=by
 have h1:=h.s1
 have h2:=h.s2
 rw[Eu e]at h2
 rw[<-List.take_append_drop k (a.toList.take ia),List.take_take,Nat.min_eq_left hk]at h1
 have er:(out++(a.extract k ia).reverse).toList.reverse=(a.toList.take ia).drop k++out.toList.reverse:=by
  rw[Array.toList_append,Array.toList_reverse,Qs hk,List.reverse_append,List.reverse_reverse]
 refine⟨?_,?_⟩
 ·rw[er,<-List.append_assoc]
  exact h1
 ·rw[er,Eu e]
  refine O3.mvR h1 h2 fun z hz=>?_
  obtain⟨i,i1,i2,i3⟩:=Vz hk hz
  exact q i z i1 i2 i3
theorem HS.appB(h:HS rk a b out (ia+1) ib)(hk:k<=ib)(e:a[ia]? = some y)(q:∀i x,k<=i->i<ib->b[i]? = some x->rk y<rk x):HS rk a b (out++(b.extract k ib).reverse) (ia+1) k:=(h.symm.appA hk e q).symm
theorem HS.doneA(h:HS rk a b out ia ib)(p:PH a b out ia ib)(q:ia=0):Fh rk a b (Ef a b out ia ib):=⟨p.done,by
 subst q
 rw[Array.toList_append,Array.toList_append,Gb,Gb,Array.toList_reverse,List.take_zero,List.nil_append]
 exact h.s2⟩
theorem HS.doneB(h:HS rk a b out ia ib)(p:PH a b out ia ib)(q:ib=0):Fh rk a b (Ef a b out ia ib):=⟨p.done,by
 subst q
 rw[Array.toList_append,Array.toList_append,Gb,Gb,Array.toList_reverse,List.take_zero,List.append_nil]
 exact h.s1⟩
theorem HS.first(M:MS rk a b)(h:HS rk a b out ia ib)(p:PH a b out ia ib)(q:ib=1):Fh rk a b (Hd a b out ia ib):=⟨p.first,by
 subst q
 obtain⟨z,e⟩:∃z,b[0]? = some z:=⟨_,Array.getElem?_eq_getElem p.lb⟩
 have h2:=h.s2
 have et:b.toList.take 1 = [z]:=(Eu e).trans rfl
 rw[et]at h2
 rw[Array.toList_append,Array.toList_append,Gb,Gb,Array.toList_reverse,et,List.append_assoc]
 refine List.pairwise_append.mpr ⟨List.pairwise_singleton _ _,h.s1,fun u hu w hw=>?_⟩
 cases List.mem_singleton.mp hu
 rcases List.mem_append.mp hw with r|r
 ·exact M.first w (List.mem_of_mem_take r) _ e
 ·exact(List.pairwise_append.mp h2).2.2 _ (.head _) w r⟩
end
end Mine.Internal
namespace Mine.Internal
open PySem PySem.W PyProof PyProof.Rows
section
variable {prog:Program} {w:World} {A:Around} {E:Value->Shared->Prop} {s:Shared} {κ:SortKind} {rk:Keyed->Nat} {af a b out:Array Keyed} {ia ib mg ac bc n:Nat} {st:SortSt}
structure MG(prog:Program)(w:World)(A:Around)(s:Shared)(κ:SortKind)(af:Array Keyed)(rk:Keyed->Nat)(a b:Array Keyed):Prop where
 hc:Rs prog w A s κ af rk
 ha:∀p∈a.toList,p∈af.toList
 hb:∀p∈b.toList,p∈af.toList
 ms:MS rk a b
structure Js(rk:Keyed->Nat)(a b:Array Keyed)(n:Nat)(o:Array Keyed)(x y:Nat):Prop where
 pm:PM a b o x y
 ls:LS rk a b o x y
 l1:x+1<a.size
 l2:y<b.size
 sz:n<=o.size
theorem Js.more{n':Nat}(J:Js rk a b n out ia ib)(h:n'<=n):Js rk a b n' out ia ib:=⟨J.pm,J.ls,J.l1,J.l2,Af h J.sz⟩
noncomputable def LoR(rk:Keyed->Nat)(a b:Array Keyed)(n:Nat)(c:Option (Array Keyed))(o:Array Keyed)(x y:Nat):Prop:=(c=none/\Js rk a b n o x y)\/∃r,c=some r/\Fh rk a b r
theorem D7{x y:Nat}(h:¬(x==y)=true):x≠y:=fun e=>h (beq_iff_eq.mpr e)
theorem V0{x y:Nat}(h:(x==y)=true):y<=x:=Nat.le_of_eq (beq_iff_eq.mp h).symm
theorem szp{x:Keyed}(h:n<=out.size):n+1<=(out.push x).size:=by rw[Array.size_push];exact Nat.succ_le_succ h
theorem sza{x:Array Keyed}(h:n<=out.size):n<=(out++x).size:=by rw[Array.size_append];exact Af h (Nat.le_add_right _ _)
theorem Ss{x y:Nat}(h:¬x<y)(q:y≠x):y<x:=Nat.lt_of_le_of_ne (Nat.le_of_not_lt h) q
theorem Js.pushB{x y:Keyed}(J:Js rk a b n out ia ib)(e:b[ib]? = some x)(e':a[ia]? = some y)(lt:rk x<rk y)(q:¬(ib+1==b.size)=true):Js rk a b (n+1) (out.push x) ia (ib+1):=⟨J.pm.pushB e,J.ls.pushB e e' lt,J.l1,Nat.lt_of_le_of_ne J.l2 (D7 q),szp J.sz⟩
theorem Js.pushA{x y:Keyed}(J:Js rk a b n out ia ib)(e:a[ia]? = some x)(e':b[ib]? = some y)(lt:rk x<rk y)(q:¬(ia+1+1==a.size)=true):Js rk a b (n+1) (out.push x) (ia+1) ib:=⟨J.pm.pushA e,J.ls.pushA e e' lt,Nat.lt_of_le_of_ne J.l1 (D7 q),J.l2,szp J.sz⟩
theorem Js.endB{x y:Keyed}(J:Js rk a b n out ia ib)(e:b[ib]? = some x)(e':a[ia]? = some y)(lt:rk x<rk y)(q:(ib+1==b.size)=true):Fh rk a b (Ee a b (out.push x) ia (ib+1)):=(J.ls.pushB e e' lt).doneB (J.pm.pushB e) (V0 q)
theorem Js.endA{x y:Keyed}(M:MS rk a b)(J:Js rk a b n out ia ib)(e:a[ia]? = some x)(e':b[ib]? = some y)(lt:rk x<rk y)(q:(ia+1+1==a.size)=true):Fh rk a b (J1 a b (out.push x) (ia+1) ib):=(J.ls.pushA e e' lt).last M (J.pm.pushA e) (beq_iff_eq.mp q)
theorem Js.gb(J:Js rk a b n out ia ib):∃y,b[ib]? = some y:=⟨_,Array.getElem?_eq_getElem J.l2⟩
theorem Js.ga(J:Js rk a b n out ia ib):∃y,a[ia]? = some y:=⟨_,Array.getElem?_eq_getElem (Nat.lt_of_succ_lt J.l1)⟩
theorem Ac2(G:MG prog w A s κ af rk a b)(hk:kindOf st=κ){c:Option (Array Keyed)×Array Keyed×Nat×Nat×Nat×Nat}(J:Js rk a b n c.2.1 c.2.2.1 c.2.2.2.1)
 {Q:ForInStep (Option (Array Keyed)×Array Keyed×Nat×Nat×Nat×Nat)->SortSt->Prop} (hd:∀r d,Fh rk a b r->Q (.done (some r,d)) st)
 (hn:∀d:Array Keyed×Nat×Nat×Nat×Nat,Js rk a b (n+1) d.1 d.2.1 d.2.2.1->Q (.done (none,d)) st/\Q (.yield (none,d)) st) :
 Rows.wpS (model prog w) A E s (lo1 a b mg c) Q st:=by
 unfold lo1
 refine wpS_bind (A5 J.l2 fun x hx ex=>wpS_bind (A5 (Nat.lt_of_succ_lt J.l1) fun y hy ey=>wpS_bind (E5 G.hc (G.hb x hx) (G.ha y hy) hk ?_)))
 by_cases lt:rk x<rk y
 ·rw[decide_eq_true lt]
  refine wpS_bind (A5 J.l2 fun x hx ex'=>?_)
  cases ex.symm.trans ex'
  split
  ·rename_i q
   exact wpS_pure (hd _ _ (J.endB ex ey lt q))
  ·rename_i q
   split
   ·exact wpS_pure (hn _ (J.pushB ex ey lt q)).1
   ·exact wpS_pure (hn _ (J.pushB ex ey lt q)).2
 ·rw[decide_eq_false lt]
  have lt:=Ss lt (G.ms.ne y hy x hx)
  refine wpS_bind (A5 (Nat.lt_of_succ_lt J.l1) fun x hx ey'=>?_)
  cases ey.symm.trans ey'
  split
  ·rename_i q
   exact wpS_pure (hd _ _ (J.endA G.ms ey ex lt q))
  ·rename_i q
   split
   ·exact wpS_pure (hn _ (J.pushA ey ex lt q)).1
   ·exact wpS_pure (hn _ (J.pushA ey ex lt q)).2
structure LoQ(rk:Keyed->Nat)(a b:Array Keyed)(n:Nat)(st:SortSt)(Q:ForInStep (Option (Array Keyed)×Array Keyed×Nat×Nat×Nat×Nat×Nat)->SortSt->Prop):Prop where
 hd:∀r d,Fh rk a b r->Q (.done (some r,d)) st
 hn:∀d:Array Keyed×Nat×Nat×Nat×Nat×Nat,Js rk a b n d.1 d.2.1 d.2.2.1->Q (.done (none,d)) st/\Q (.yield (none,d)) st
noncomputable abbrev Lt2(rk:Keyed->Nat)(a:Array Keyed)(i:Nat)(b:Array Keyed)(j:Nat):Prop:=∀x y,a[i]? = some x->b[j]? = some y->rk x<rk y
theorem V1(M:MS rk a b)(J:Js rk a b n out ia ib)(lt:Lt2 rk a ia b ib){Q:ForInStep (Option (Array Keyed)×Array Keyed×Nat×Nat×Nat×Nat×Nat)->SortSt->Prop}(h:LoQ rk a b n st Q):Rows.wpS (model prog w) A E s (lo5 a b out ia ib mg ac bc) Q st:=by
 unfold lo5
 obtain⟨y,ey⟩:=J.gb
 refine wpS_bind (A5 (Nat.lt_of_succ_lt J.l1) fun x hx ex=>?_)
 split
 ·rename_i q
  exact wpS_pure (h.hd _ _ (J.endA M ex ey (lt x y ex ey) q))
 ·rename_i q
  have J':=(J.pushA ex ey (lt x y ex ey) q).more (Nat.le_succ n)
  split
  ·exact wpS_pure (h.hn _ J').1
  ·exact wpS_pure (h.hn _ J').2
theorem V2(G:MG prog w A s κ af rk a b)(hk:kindOf st=κ)(J:Js rk a b n out ia ib)(lt:Lt2 rk b ib a ia)
 {Q:ForInStep (Option (Array Keyed)×Array Keyed×Nat×Nat×Nat×Nat×Nat)->SortSt->Prop} (h:LoQ rk a b n st Q):Rows.wpS (model prog w) A E s (lo4 a b out ia ib mg ac bc) Q st:=by
 unfold lo4
 obtain⟨y,ey⟩:=J.ga
 refine wpS_bind (A5 J.l2 fun x hx ex=>?_)
 split
 ·rename_i q
  exact wpS_pure (h.hd _ _ (J.endB ex ey (lt x y ex ey) q))
 ·rename_i q
  have J':=(J.pushB ex ey (lt x y ex ey) q).more (Nat.le_succ n)
  have hz:=J'.l2
  refine wpS_bind (A5 (Nat.lt_of_succ_lt J.l1) fun y' hy ey'=>?_)
  cases ey.symm.trans ey'
  have es:=Nat.add_sub_of_le (Nat.le_of_lt hz)
  refine wpS_bind (De G.hc (G.ha y hy) G.hb hk (Nat.le_of_eq es) (Nat.sub_pos_of_lt hz) G.ms.sb.inc (fun i x _ _ e=>(G.ms.ne y hy x (Lo e)).symm) fun k hkk g1 g2=>?_)
  rw[es]at g2
  have lt2:ib+1+k<b.size->Lt2 rk a ia b (ib+1+k):=fun q3 u v eu ev=>by
   cases ey.symm.trans eu
   exact g2 _ v (Nat.le_refl _) q3 ev
  show Rows.wpS _ _ _ _ (if k>0 then _ else _) _ _
  split
  ·have P2:=J'.pm.appB (Nat.add_le_of_le_sub' (Nat.le_of_lt hz) hkk)
   have L2:=J'.ls.appB ey g1
   split
   ·rename_i q2
    exact wpS_pure (h.hd _ _ (L2.doneB P2 (V0 q2)))
   ·rename_i q2
    have q3:=Nat.lt_of_le_of_ne P2.lb (D7 q2)
    exact V1 G.ms ⟨P2,L2,J.l1,q3,sza J'.sz⟩ (lt2 q3) h
  ·rename_i q2
   cases Nat.eq_zero_of_not_pos q2
   exact V1 G.ms J' (lt2 hz) h
theorem V3(G:MG prog w A s κ af rk a b)(hk:kindOf st=κ)(J:Js rk a b n out ia ib)
 {Q:ForInStep (Option (Array Keyed)×Array Keyed×Nat×Nat×Nat×Nat×Nat)->SortSt->Prop} (h:LoQ rk a b n (Bc st mg) Q):Rows.wpS (model prog w) A E s (lo3 a b out ia ib mg ac bc) Q st:=by
 unfold lo3
 have hz:=Nat.lt_of_succ_lt J.l1
 have es:=Nat.add_sub_of_le (Nat.le_of_lt hz)
 refine wpS_bind (wpS_modify (wpS_bind (A5 J.l2 fun y hy ey=>wpS_bind (De (st:=Bc st mg) G.hc (G.hb y hy) G.ha hk (Nat.le_of_eq es) (Nat.sub_pos_of_lt hz) G.ms.sa.inc (fun i x _ _ e=>G.ms.ne x (Lo e) y hy) fun k hkk g1 g2=>?_))))
 rw[es]at g2
 have lt2:ia+k<a.size->Lt2 rk b ib a (ia+k):=fun q3 u v eu ev=>by
  cases ey.symm.trans eu
  exact g2 _ v (Nat.le_refl _) q3 ev
 show Rows.wpS _ _ _ _ (if k>0 then _ else _) _ _
 split
 ·have P2:=J.pm.appA (Nat.add_le_of_le_sub' (Nat.le_of_lt hz) hkk)
  have L2:=J.ls.appA ey g1
  split
  ·rename_i q1
   exact wpS_pure (h.hd _ _ (L2.last G.ms P2 (beq_iff_eq.mp q1)))
  ·rename_i q1
   split
   ·rename_i q2
    exact wpS_pure (h.hd _ _ (L2.doneA P2 (V0 q2)))
   ·rename_i q2
    have q3:=Nat.lt_of_le_of_ne P2.la (D7 q2)
    exact V2 (st:=Bc st mg) G hk ⟨P2,L2,Nat.lt_of_le_of_ne q3 (D7 q1),J.l2,sza J.sz⟩ (lt2 q3) h
 ·rename_i q2
  cases Nat.eq_zero_of_not_pos q2
  exact V2 (st:=Bc st mg) G hk J (lt2 hz) h
theorem Ac3(G:MG prog w A s κ af rk a b)(hk:kindOf st=κ){c:Option (Array Keyed)×Array Keyed×Nat×Nat×Nat×Nat×Nat}(J:Js rk a b n c.2.1 c.2.2.1 c.2.2.2.1)
 {Q:ForInStep (Option (Array Keyed)×Array Keyed×Nat×Nat×Nat×Nat×Nat)->SortSt->Prop} (h:∀g,LoQ rk a b n (Bc st g) Q):Rows.wpS (model prog w) A E s (lo2 a b c) Q st:=by
 unfold lo2
 split
 ·exact V3 G hk J (h _)
 ·exact V3 G hk J (h _)
theorem Ac4(G:MG prog w A s κ af rk a b)(hk:kindOf st=κ)(J:Js rk a b n out ia ib)
 {Q:Option (Array Keyed)×Array Keyed×Nat×Nat×Nat×Nat->SortSt->Prop} (h:∀c:Option (Array Keyed)×Array Keyed×Nat×Nat×Nat×Nat,LoR rk a b (n+1) c.1 c.2.1 c.2.2.1 c.2.2.2.1->Q c st) :
 Rows.wpS (model prog w) A E s (forIn [0:a.size+b.size] ((none,out,ia,ib,0,0):Option (Array Keyed)×Array Keyed×Nat×Nat×Nat×Nat) fun _ d=>lo1 a b mg d) Q st:=by
 refine wpS_forRange (I:=fun i c st'=>st'=st/\c.1=none/\Js rk a b (n+i) c.2.1 c.2.2.1 c.2.2.2.1) ?_ ?_ ⟨rfl,rfl,J⟩
 ·rintro i c st' _ _ ⟨rfl,_,J'⟩
  exact Ac2 G hk J' (fun r d p=>h (some r,d) (.inr ⟨r,rfl,p⟩)) fun d J2=>⟨h (none,d) (.inl ⟨rfl,J2.more (Nat.succ_le_succ (Nat.le_add_right _ _))⟩),rfl,rfl,J2⟩
 ·rintro c st' ⟨rfl,h1,J'⟩
  exact h c (.inl ⟨h1,J'.more (Nat.add_le_add_left (by rw[Nat.max_eq_right (Nat.zero_le _)];exact Af (Nat.lt_of_le_of_lt (Nat.zero_le _) J.l1) (Nat.le_add_right _ _)) n)⟩)
theorem Ac5(G:MG prog w A s κ af rk a b)(hk:kindOf st=κ)(J:Js rk a b n out ia ib)
 {Q:Option (Array Keyed)×Array Keyed×Nat×Nat×Nat×Nat×Nat->SortSt->Prop} (h:∀(c:Option (Array Keyed)×Array Keyed×Nat×Nat×Nat×Nat×Nat) g,LoR rk a b n c.1 c.2.1 c.2.2.1 c.2.2.2.1->Q c (Bc st g)) :
 Rows.wpS (model prog w) A E s (forIn [0:a.size+b.size] ((none,out,ia,ib,mg,ac,bc):Option (Array Keyed)×Array Keyed×Nat×Nat×Nat×Nat×Nat) fun _ d=>lo2 a b d) Q st:=by
 refine wpS_forRange (I:=fun _ c st'=>∃g,st'=Bc st g/\c.1=none/\Js rk a b n c.2.1 c.2.2.1 c.2.2.2.1) ?_ ?_ ⟨gallopOf st,rfl,rfl,J⟩
 ·rintro i c st' _ _ ⟨g,rfl,_,J'⟩
  exact Ac3 (st:=Bc st g) G hk J' fun g'=>⟨fun r d p=>h (some r,d) g' (.inr ⟨r,rfl,p⟩),fun d J2=>⟨h (none,d) g' (.inl ⟨rfl,J2⟩),g',rfl,rfl,J2⟩⟩
 ·rintro c st' ⟨g,rfl,h1,J'⟩
  exact h c g (.inl ⟨h1,J'⟩)
theorem Ac6(G:MG prog w A s κ af rk a b)(hk:kindOf st=κ){c:Option (Array Keyed)×Array Keyed×Nat×Nat×Nat}(J:Js rk a b n c.2.1 c.2.2.1 c.2.2.2.1)
 {Q:ForInStep (Option (Array Keyed)×Array Keyed×Nat×Nat×Nat)->SortSt->Prop} (hd:∀r d g,Fh rk a b r->Q (.done (some r,d)) (Bc st g))
 (hn:∀(d:Array Keyed×Nat×Nat×Nat) g,Js rk a b (n+1) d.1 d.2.1 d.2.2.1->Q (.yield (none,d)) (Bc st g)) :
 Rows.wpS (model prog w) A E s (lo0 a b c) Q st:=by
 unfold lo0
 refine wpS_bind (Ac4 G hk J fun d h=>?_)
 rcases h with⟨h1,J'⟩ | ⟨r,h1,p⟩
 ·rw[h1]
  refine wpS_bind (wpS_lift (wpAny_rule ⟨rfl,wpS_bind (Ac5 G hk J' fun e g h=>?_)⟩))
  rcases h with⟨h2,J2⟩ | ⟨r,h2,p⟩
  ·rw[h2]
   exact wpS_bind (wpS_modify (wpS_pure (hn _ _ J2)))
  ·rw[h2]
   exact wpS_pure (hd r _ g p)
 ·rw[h1]
  exact wpS_pure (hd r _ (gallopOf st) p)
theorem St(G:MG prog w A s κ af rk a b)(hk:kindOf st=κ)(ha1:1<=a.size)(hb1:1<=b.size)
 {Q:Array Keyed->SortSt->Prop} (h:∀r g,Fh rk a b r->Q r (Bc st g)):Rows.wpS (model prog w) A E s (N3 a b) Q st:=by
 rw[So]
 refine wpS_bind (wpS_lift (wpAny_rule ⟨rfl,wpS_bind (A5 hb1 fun x hx ex=>?_)⟩))
 have P:PM a b #[x] 0 1:=PM.pushB (out:= #[]) ⟨Nat.zero_le _,Nat.zero_le _,.refl _⟩ ex
 have L:LS rk a b #[x] 0 1:=⟨List.pairwise_append.mpr ⟨List.pairwise_singleton _ _,G.ms.sa,fun u hu v hv=>by cases List.mem_singleton.mp hu;exact G.ms.first v hv x ex⟩,by
  have:=G.ms.sb
  rw[<-List.drop_zero (l:=b.toList),D3 ex]at this
  exact this⟩
 split
 ·rename_i q1
  exact wpS_pure (h _ (gallopOf st) (L.doneB P (V0 q1)))
 ·rename_i q1
  split
  ·rename_i q2
   exact wpS_pure (h _ (gallopOf st) (L.last G.ms P (beq_iff_eq.mp q2)))
  ·rename_i q2
   refine wpS_bind (wpS_get (wpS_bind (wpS_forRange (I:=fun i c st'=>∃g,st'=Bc st g/\c.1=none/\Js rk a b (1+i) c.2.1 c.2.2.1 c.2.2.2.1) ?_ ?_ ⟨gallopOf st,rfl,rfl,P,L,Nat.lt_of_le_of_ne ha1 (D7 q2),Nat.lt_of_le_of_ne hb1 (D7 q1),Nat.le_refl _⟩)))
   ·rintro i c st' _ _ ⟨g,rfl,_,J⟩
    exact Ac6 (st:=Bc st g) G hk J (fun r d g' p=>wpS_pure (h r g' p)) fun d g' J'=>⟨g',rfl,rfl,J'⟩
   ·rintro c st' ⟨g,_,_,J⟩
    have h1:=J.pm.size
    have h2:=J.l1
    have h3:=J.l2
    have h4:=J.sz
    exact(Nat.lt_irrefl _ (Nat.lt_of_le_of_lt (Nat.le_of_eq h1) (Nat.lt_of_lt_of_le (Nat.add_lt_add (Nat.lt_of_succ_lt h2) h3) (Af (Nat.le_max_right 0 _) (Af (Nat.le_add_left _ 1) h4))))).elim
end
end Mine.Internal
namespace Mine.Internal
open PySem PySem.W PyProof PyProof.Rows
section
variable {prog:Program} {w:World} {A:Around} {E:Value->Shared->Prop} {s:Shared} {κ:SortKind} {rk:Keyed->Nat} {af a b out:Array Keyed} {x y mg ac bc n:Nat} {st:SortSt}
structure El(rk:Keyed->Nat)(a b:Array Keyed)(n x y:Nat)(o:Array Keyed):Prop where
 pm:PH a b o x y
 hs:HS rk a b o x y
 l1:1<=x
 l2:2<=y
 sz:n<=o.size
theorem El.more{n':Nat}(J:El rk a b n x y out)(h:n'<=n):El rk a b n' x y out:=⟨J.pm,J.hs,J.l1,J.l2,Af h J.sz⟩
theorem El.la(J:El rk a b n x y out):x-1<a.size:=Nat.lt_of_lt_of_le (Nat.sub_lt J.l1 Nat.one_pos) J.pm.la
theorem El.lb(J:El rk a b n x y out):y-1<b.size:=Nat.lt_of_lt_of_le (Nat.sub_lt (Nat.lt_of_succ_lt J.l2) Nat.one_pos) J.pm.lb
noncomputable def HiR(rk:Keyed->Nat)(a b:Array Keyed)(n:Nat)(c:Option (Array Keyed))(x y:Nat)(o:Array Keyed):Prop:=(c=none/\El rk a b n x y o)\/∃r,c=some r/\Fh rk a b r
theorem El.pA{z:Keyed}(J:El rk a b n x y out)(e:a[x-1]? = some z):PH a b (out.push z) (x-1) y:=PH.pushA (by rw[Nat.sub_add_cancel J.l1];exact J.pm) e
theorem El.pB{z:Keyed}(J:El rk a b n x y out)(e:b[y-1]? = some z):PH a b (out.push z) x (y-1):=PH.pushB (by rw[Nat.sub_add_cancel (Nat.le_of_succ_le J.l2)];exact J.pm) e
theorem El.up(J:El rk a b n x y out):HS rk a b out (x-1+1) (y-1+1):=by rw[Nat.sub_add_cancel J.l1,Nat.sub_add_cancel (Nat.le_of_succ_le J.l2)];exact J.hs
theorem El.hA{z u:Keyed}(J:El rk a b n x y out)(e:a[x-1]? = some z)(e':b[y-1]? = some u)(lt:rk u<rk z):HS rk a b (out.push z) (x-1) y:=by
 have:=J.up.pushA e e' lt
 rwa[Nat.sub_add_cancel (Nat.le_of_succ_le J.l2)]at this
theorem El.hB{z u:Keyed}(J:El rk a b n x y out)(e:b[y-1]? = some z)(e':a[x-1]? = some u)(lt:rk u<rk z):HS rk a b (out.push z) x (y-1):=by
 have:=J.up.pushB e e' lt
 rwa[Nat.sub_add_cancel J.l1]at this
theorem El.aA{k:Nat}{u:Keyed}(J:El rk a b n x y out)(hk:k<=x)(e:b[y-1]? = some u)(q:∀i z,k<=i->i<x->a[i]? = some z->rk u<rk z):HS rk a b (out++(a.extract k x).reverse) k y:=by
 have h:=J.hs
 rw[<-Nat.sub_add_cancel (Nat.le_of_succ_le J.l2)]at h
 have:=h.appA hk e q
 rwa[Nat.sub_add_cancel (Nat.le_of_succ_le J.l2)]at this
theorem El.aB{k:Nat}{u:Keyed}(J:El rk a b n x y out)(hk:k<=y)(e:a[x-1]? = some u)(q:∀i z,k<=i->i<y->b[i]? = some z->rk u<rk z):HS rk a b (out++(b.extract k y).reverse) x k:=by
 have h:=J.hs
 rw[<-Nat.sub_add_cancel J.l1]at h
 have:=h.appB hk e q
 rwa[Nat.sub_add_cancel J.l1]at this
theorem El.pushA{z u:Keyed}(J:El rk a b n x y out)(e:a[x-1]? = some z)(e':b[y-1]? = some u)(lt:rk u<rk z)(q:¬(x-1==0)=true):El rk a b (n+1) (x-1) y (out.push z):=⟨J.pA e,J.hA e e' lt,Nat.pos_of_ne_zero (D7 q),J.l2,szp J.sz⟩
theorem El.pushB{z u:Keyed}(J:El rk a b n x y out)(e:b[y-1]? = some z)(e':a[x-1]? = some u)(lt:rk u<rk z)(q:¬(y-1==1)=true):El rk a b (n+1) x (y-1) (out.push z):=⟨J.pB e,J.hB e e' lt,J.l1,Nat.lt_of_le_of_ne (Nat.le_sub_one_of_lt J.l2) (Ne.symm (D7 q)),szp J.sz⟩
theorem El.endA{z u:Keyed}(J:El rk a b n x y out)(e:a[x-1]? = some z)(e':b[y-1]? = some u)(lt:rk u<rk z)(q:(x-1==0)=true):Fh rk a b (Ef a b (out.push z) (x-1) y):=(J.hA e e' lt).doneA (J.pA e) (beq_iff_eq.mp q)
theorem El.endB{z u:Keyed}(M:MS rk a b)(J:El rk a b n x y out)(e:b[y-1]? = some z)(e':a[x-1]? = some u)(lt:rk u<rk z)(q:(y-1==1)=true):Fh rk a b (Hd a b (out.push z) x (y-1)):=(J.hB e e' lt).first M (J.pB e) (beq_iff_eq.mp q)
theorem El.gb(J:El rk a b n x y out):∃z,b[y-1]? = some z:=⟨_,Array.getElem?_eq_getElem J.lb⟩
theorem El.ga(J:El rk a b n x y out):∃z,a[x-1]? = some z:=⟨_,Array.getElem?_eq_getElem J.la⟩
theorem Ac7(G:MG prog w A s κ af rk a b)(hk:kindOf st=κ){c:Option (Array Keyed)×Nat×Nat×Array Keyed×Nat×Nat}(J:El rk a b n c.2.1 c.2.2.1 c.2.2.2.1)
 {Q:ForInStep (Option (Array Keyed)×Nat×Nat×Array Keyed×Nat×Nat)->SortSt->Prop} (hd:∀r d,Fh rk a b r->Q (.done (some r,d)) st)
 (hn:∀d:Nat×Nat×Array Keyed×Nat×Nat,El rk a b (n+1) d.1 d.2.1 d.2.2.1->Q (.done (none,d)) st/\Q (.yield (none,d)) st) :
 Rows.wpS (model prog w) A E s (hi1 a b mg c) Q st:=by
 unfold hi1
 refine wpS_bind (A5 J.lb fun x hx ex=>wpS_bind (A5 J.la fun y hy ey=>wpS_bind (E5 G.hc (G.hb x hx) (G.ha y hy) hk ?_)))
 by_cases lt:rk x<rk y
 ·rw[decide_eq_true lt]
  refine wpS_bind (A5 J.la fun x hx ey'=>?_)
  cases ey.symm.trans ey'
  split
  ·rename_i q
   exact wpS_pure (hd _ _ (J.endA ey ex lt q))
  ·rename_i q
   split
   ·exact wpS_pure (hn _ (J.pushA ey ex lt q)).1
   ·exact wpS_pure (hn _ (J.pushA ey ex lt q)).2
 ·rw[decide_eq_false lt]
  have lt:=Ss lt (G.ms.ne y hy x hx)
  refine wpS_bind (A5 J.lb fun x hx ex'=>?_)
  cases ex.symm.trans ex'
  split
  ·rename_i q
   exact wpS_pure (hd _ _ (J.endB G.ms ex ey lt q))
  ·rename_i q
   split
   ·exact wpS_pure (hn _ (J.pushB ex ey lt q)).1
   ·exact wpS_pure (hn _ (J.pushB ex ey lt q)).2
structure HiQ(rk:Keyed->Nat)(a b:Array Keyed)(n:Nat)(st:SortSt)(Q:ForInStep (Option (Array Keyed)×Nat×Nat×Array Keyed×Nat×Nat×Nat)->SortSt->Prop):Prop where
 hd:∀r d,Fh rk a b r->Q (.done (some r,d)) st
 hn:∀d:Nat×Nat×Array Keyed×Nat×Nat×Nat,El rk a b n d.1 d.2.1 d.2.2.1->Q (.done (none,d)) st/\Q (.yield (none,d)) st
theorem V4(J:El rk a b n x y out)(lt:Lt2 rk b (y-1) a (x-1)){Q:ForInStep (Option (Array Keyed)×Nat×Nat×Array Keyed×Nat×Nat×Nat)->SortSt->Prop}(h:HiQ rk a b n st Q):Rows.wpS (model prog w) A E s (hi5 a b out x y mg ac bc) Q st:=by
 unfold hi5
 obtain⟨u,eu⟩:=J.gb
 refine wpS_bind (A5 J.la fun z hz ez=>?_)
 split
 ·rename_i q
  exact wpS_pure (h.hd _ _ (J.endA ez eu (lt u z eu ez) q))
 ·rename_i q
  have J':=(J.pushA ez eu (lt u z eu ez) q).more (Nat.le_succ n)
  split
  ·exact wpS_pure (h.hn _ J').1
  ·exact wpS_pure (h.hn _ J').2
theorem V5(G:MG prog w A s κ af rk a b)(hk:kindOf st=κ)(J:El rk a b n x y out)(lt:Lt2 rk a (x-1) b (y-1))
 {Q:ForInStep (Option (Array Keyed)×Nat×Nat×Array Keyed×Nat×Nat×Nat)->SortSt->Prop} (h:HiQ rk a b n st Q):Rows.wpS (model prog w) A E s (hi4 a b out x y mg ac bc) Q st:=by
 unfold hi4
 obtain⟨u,eu⟩:=J.ga
 refine wpS_bind (A5 J.lb fun z hx ez=>?_)
 split
 ·rename_i q
  exact wpS_pure (h.hd _ _ (J.endB G.ms ez eu (lt u z eu ez) q))
 ·rename_i q
  have J':=(J.pushB ez eu (lt u z eu ez) q).more (Nat.le_succ n)
  refine wpS_bind (A5 J.la fun u' hu eu'=>?_)
  cases eu.symm.trans eu'
  refine wpS_bind (De (base:=0) G.hc (G.ha u hu) G.hb hk (by rw[Nat.zero_add];exact J'.pm.lb) (Nat.sub_lt (Nat.lt_of_succ_lt J'.l2) Nat.one_pos) G.ms.sb.inc (fun i x _ _ e=>(G.ms.ne u hu x (Lo e)).symm) fun k hkk g1 g2=>?_)
  rw[Nat.zero_add]at g1 g2
  rw[Nat.zero_add]at g2
  have lt2:1<=k->Lt2 rk b (k-1) a (x-1):=fun q3 v t ev et=>by
   cases eu.symm.trans et
   exact g1 _ v (Nat.zero_le _) (Nat.sub_lt q3 Nat.one_pos) ev
  show Rows.wpS _ _ _ _ (if y-1-k>0 then _ else _) _ _
  split
  ·have P2:=J'.pm.appB hkk
   have H2:=J'.aB hkk eu g2
   split
   ·rename_i q2
    exact wpS_pure (h.hd _ _ (H2.first G.ms P2 (beq_iff_eq.mp q2)))
   ·rename_i q2
    split
    ·rename_i q3
     exact wpS_pure (h.hd _ _ (H2.doneB P2 (beq_iff_eq.mp q3)))
    ·rename_i q3
     have q4:=Nat.pos_of_ne_zero (D7 q3)
     exact V4 ⟨P2,H2,J.l1,Nat.lt_of_le_of_ne q4 (Ne.symm (D7 q2)),sza J'.sz⟩ (lt2 q4) h
  ·rename_i q2
   cases Nat.le_antisymm hkk (Nat.le_of_sub_eq_zero (Nat.eq_zero_of_not_pos q2))
   exact V4 J' (lt2 (Nat.le_of_succ_le J'.l2)) h
theorem V6(G:MG prog w A s κ af rk a b)(hk:kindOf st=κ)(J:El rk a b n x y out)
 {Q:ForInStep (Option (Array Keyed)×Nat×Nat×Array Keyed×Nat×Nat×Nat)->SortSt->Prop} (h:HiQ rk a b n (Bc st mg) Q):Rows.wpS (model prog w) A E s (hi3 a b out x y mg ac bc) Q st:=by
 unfold hi3
 refine wpS_bind (wpS_modify (wpS_bind (A5 J.lb fun u hu eu=>wpS_bind (De (st:=Bc st mg) (base:=0) G.hc (G.hb u hu) G.ha hk (by rw[Nat.zero_add];exact J.pm.la) (Nat.sub_lt J.l1 Nat.one_pos) G.ms.sa.inc (fun i x _ _ e=>G.ms.ne x (Lo e) u hu) fun k hkk g1 g2=>?_))))
 rw[Nat.zero_add]at g1 g2
 rw[Nat.zero_add]at g2
 have lt2:1<=k->Lt2 rk a (k-1) b (y-1):=fun q3 v t ev et=>by
  cases eu.symm.trans et
  exact g1 _ v (Nat.zero_le _) (Nat.sub_lt q3 Nat.one_pos) ev
 show Rows.wpS _ _ _ _ (if x-k>0 then _ else _) _ _
 split
 ·have P2:=J.pm.appA hkk
  have H2:=J.aA hkk eu g2
  split
  ·rename_i q1
   exact wpS_pure (h.hd _ _ (H2.doneA P2 (beq_iff_eq.mp q1)))
  ·rename_i q1
   have q4:=Nat.pos_of_ne_zero (D7 q1)
   exact V5 (st:=Bc st mg) G hk ⟨P2,H2,q4,J.l2,sza J.sz⟩ (lt2 q4) h
 ·rename_i q2
  cases Nat.le_antisymm hkk (Nat.le_of_sub_eq_zero (Nat.eq_zero_of_not_pos q2))
  exact V5 (st:=Bc st mg) G hk J (lt2 J.l1) h
theorem Ac8(G:MG prog w A s κ af rk a b)(hk:kindOf st=κ){c:Option (Array Keyed)×Nat×Nat×Array Keyed×Nat×Nat×Nat}(J:El rk a b n c.2.1 c.2.2.1 c.2.2.2.1)
 {Q:ForInStep (Option (Array Keyed)×Nat×Nat×Array Keyed×Nat×Nat×Nat)->SortSt->Prop} (h:∀g,HiQ rk a b n (Bc st g) Q):Rows.wpS (model prog w) A E s (hi2 a b c) Q st:=by
 unfold hi2
 split
 ·exact V6 G hk J (h _)
 ·exact V6 G hk J (h _)
theorem Ac9(G:MG prog w A s κ af rk a b)(hk:kindOf st=κ)(J:El rk a b n x y out)
 {Q:Option (Array Keyed)×Nat×Nat×Array Keyed×Nat×Nat->SortSt->Prop} (h:∀c:Option (Array Keyed)×Nat×Nat×Array Keyed×Nat×Nat,HiR rk a b (n+1) c.1 c.2.1 c.2.2.1 c.2.2.2.1->Q c st) :
 Rows.wpS (model prog w) A E s (forIn [0:a.size+b.size] ((none,x,y,out,0,0):Option (Array Keyed)×Nat×Nat×Array Keyed×Nat×Nat) fun _ d=>hi1 a b mg d) Q st:=by
 refine wpS_forRange (I:=fun i c st'=>st'=st/\c.1=none/\El rk a b (n+i) c.2.1 c.2.2.1 c.2.2.2.1) ?_ ?_ ⟨rfl,rfl,J⟩
 ·rintro i c st' _ _ ⟨rfl,_,J'⟩
  exact Ac7 G hk J' (fun r d p=>h (some r,d) (.inr ⟨r,rfl,p⟩)) fun d J2=>⟨h (none,d) (.inl ⟨rfl,J2.more (Nat.succ_le_succ (Nat.le_add_right _ _))⟩),rfl,rfl,J2⟩
 ·rintro c st' ⟨rfl,h1,J'⟩
  exact h c (.inl ⟨h1,J'.more (Nat.add_le_add_left (by rw[Nat.max_eq_right (Nat.zero_le _)];exact Af (Af J.l1 J.pm.la) (Nat.le_add_right _ _)) n)⟩)
theorem Ada(G:MG prog w A s κ af rk a b)(hk:kindOf st=κ)(J:El rk a b n x y out)
 {Q:Option (Array Keyed)×Nat×Nat×Array Keyed×Nat×Nat×Nat->SortSt->Prop} (h:∀(c:Option (Array Keyed)×Nat×Nat×Array Keyed×Nat×Nat×Nat) g,HiR rk a b n c.1 c.2.1 c.2.2.1 c.2.2.2.1->Q c (Bc st g)) :
 Rows.wpS (model prog w) A E s (forIn [0:a.size+b.size] ((none,x,y,out,mg,ac,bc):Option (Array Keyed)×Nat×Nat×Array Keyed×Nat×Nat×Nat) fun _ d=>hi2 a b d) Q st:=by
 refine wpS_forRange (I:=fun _ c st'=>∃g,st'=Bc st g/\c.1=none/\El rk a b n c.2.1 c.2.2.1 c.2.2.2.1) ?_ ?_ ⟨gallopOf st,rfl,rfl,J⟩
 ·rintro i c st' _ _ ⟨g,rfl,_,J'⟩
  exact Ac8 (st:=Bc st g) G hk J' fun g'=>⟨fun r d p=>h (some r,d) g' (.inr ⟨r,rfl,p⟩),fun d J2=>⟨h (none,d) g' (.inl ⟨rfl,J2⟩),g',rfl,rfl,J2⟩⟩
 ·rintro c st' ⟨g,rfl,h1,J'⟩
  exact h c g (.inl ⟨h1,J'⟩)
theorem Adb(G:MG prog w A s κ af rk a b)(hk:kindOf st=κ){c:Option (Array Keyed)×Nat×Nat×Array Keyed×Nat}(J:El rk a b n c.2.1 c.2.2.1 c.2.2.2.1)
 {Q:ForInStep (Option (Array Keyed)×Nat×Nat×Array Keyed×Nat)->SortSt->Prop} (hd:∀r d g,Fh rk a b r->Q (.done (some r,d)) (Bc st g))
 (hn:∀(d:Nat×Nat×Array Keyed×Nat) g,El rk a b (n+1) d.1 d.2.1 d.2.2.1->Q (.yield (none,d)) (Bc st g)) :
 Rows.wpS (model prog w) A E s (hi0 a b c) Q st:=by
 unfold hi0
 refine wpS_bind (Ac9 G hk J fun d h=>?_)
 rcases h with⟨h1,J'⟩ | ⟨r,h1,p⟩
 ·rw[h1]
  refine wpS_bind (wpS_lift (wpAny_rule ⟨rfl,wpS_bind (Ada G hk J' fun e g h=>?_)⟩))
  rcases h with⟨h2,J2⟩ | ⟨r,h2,p⟩
  ·rw[h2]
   exact wpS_bind (wpS_modify (wpS_pure (hn _ _ J2)))
  ·rw[h2]
   exact wpS_pure (hd r _ g p)
 ·rw[h1]
  exact wpS_pure (hd r _ (gallopOf st) p)
theorem Su(G:MG prog w A s κ af rk a b)(hk:kindOf st=κ)(ha1:1<=a.size)(hb1:1<=b.size)
 {Q:Array Keyed->SortSt->Prop} (h:∀r g,Fh rk a b r->Q r (Bc st g)):Rows.wpS (model prog w) A E s (N4 a b) Q st:=by
 rw[Sp]
 refine wpS_bind (wpS_lift (wpAny_rule ⟨rfl,wpS_bind (A5 (Nat.sub_lt ha1 Nat.one_pos) fun x hx ex=>?_)⟩))
 have P0:PH a b #[] (a.size-1+1) b.size:=⟨by rw[Nat.sub_add_cancel ha1];exact Nat.le_refl _,Nat.le_refl _,by
  rw[Nat.sub_add_cancel ha1,List.take_of_length_le (Nat.le_of_eq Array.length_toList),List.take_of_length_le (Nat.le_of_eq Array.length_toList)]
  show (a.toList++b.toList ++ []).Perm _
  rw[List.append_nil]⟩
 have P:PH a b #[x] (a.size-1) b.size:=P0.pushA ex
 have L:HS rk a b #[x] (a.size-1) b.size:=⟨by
  have:=G.ms.sa
  rw[<-List.take_of_length_le (Nat.le_of_eq (Array.length_toList (xs:=a))),<-Nat.sub_add_cancel ha1,Eu ex]at this
  exact this,by
  rw[List.take_of_length_le (Nat.le_of_eq Array.length_toList)]
  exact List.pairwise_append.mpr ⟨G.ms.sb,List.pairwise_singleton _ _,fun u hu v hv=>by cases List.mem_singleton.mp hv;exact G.ms.last u hu x ex⟩⟩
 split
 ·rename_i q1
  exact wpS_pure (h _ (gallopOf st) (L.doneA P (beq_iff_eq.mp q1)))
 ·rename_i q1
  split
  ·rename_i q2
   exact wpS_pure (h _ (gallopOf st) (L.first G.ms P (beq_iff_eq.mp q2)))
  ·rename_i q2
   refine wpS_bind (wpS_get (wpS_bind (wpS_forRange (I:=fun i c st'=>∃g,st'=Bc st g/\c.1=none/\El rk a b (1+i) c.2.1 c.2.2.1 c.2.2.2.1) ?_ ?_ ⟨gallopOf st,rfl,rfl,P,L,Nat.pos_of_ne_zero (D7 q1),Nat.lt_of_le_of_ne hb1 (Ne.symm (D7 q2)),Nat.le_refl _⟩)))
   ·rintro i c st' _ _ ⟨g,rfl,_,J⟩
    exact Adb (st:=Bc st g) G hk J (fun r d g' p=>wpS_pure (h r g' p)) fun d g' J'=>⟨g',rfl,rfl,J'⟩
   ·rintro c st' ⟨g,_,_,J⟩
    have h1:=J.pm.size
    have h2:=J.l1
    have h3:=J.l2
    have h4:=J.sz
    exact(Nat.lt_irrefl _ (Nat.lt_of_le_of_lt (Af (Nat.le_add_right _ (_+_)) (Nat.le_of_eq ((Nat.add_assoc _ _ _).symm.trans h1))) (Nat.lt_of_lt_of_le (Nat.lt_of_le_of_lt (Nat.le_max_right 0 (_+_)) (Nat.lt_of_lt_of_eq (Nat.lt_succ_self _) (Nat.add_comm _ 1))) h4))).elim
end
end Mine.Internal
namespace Mine.Internal
open PySem PySem.W PyProof PyProof.Rows
section
theorem Adc{M:Model}{A:Around}{E:Value->Shared->Prop}{s:Shared}{σ:Type}{x:σ}{Q:PUnit->σ->Prop}{st:σ}(h:Q ⟨⟩ x):Rows.wpS M A E s (set x:StateT σ Sem PUnit) Q st:=by
 unfold Rows.wpS;rw[StateT.run_set];exact wpAny_pure ⟨rfl,h⟩
theorem Aae:∀(m:List Keyed) (k sa:Nat) (arr:Array Keyed),sa+k+m.length<=arr.size->
 ((m.zipIdx k).foldl (fun a (p,j)=>a.setIfInBounds (sa+j) p) arr).toList=arr.toList.take (sa+k)++m++arr.toList.drop (sa+k+m.length):=by
 intro m
 induction m with
 | nil=>intro k sa arr h;simp
 | cons x m ih=>
   intro k sa arr h
   rw[List.length_cons]at h
   rw[List.zipIdx_cons,List.foldl_cons]
   dsimp only
   rw[ih (k+1) sa (arr.setIfInBounds (sa+k) x) (by rw[Array.size_setIfInBounds];exact(Af (Nat.le_of_eq (Nat.succ_add (_+_) _)) h))]
   rw[Array.toList_setIfInBounds,<-Nat.add_assoc,List.length_cons,List.take_add_one,List.take_set,List.drop_set]
   have hl:sa+k<arr.toList.length:=by rw[Array.length_toList];exact Nat.lt_of_lt_of_le (Nat.lt_add_of_pos_right (Nat.succ_pos _)) h
   rw[if_pos Akj,List.getElem?_set_self hl,List.set_eq_of_length_le (by rw[List.length_take];exact(Nat.min_le_left _ _)),show sa+k+1+m.length=sa+k+(m.length+1) by exact(Nat.add_right_comm _ _ _)]
   simp
theorem Sv{m:List Keyed}{sa:Nat}{arr:Array Keyed}(h:sa+m.length<=arr.size)(hp:m.Perm ((arr.toList.drop sa).take m.length)) :
 (m.zipIdx.foldl (fun a (p,j)=>a.setIfInBounds (sa+j) p) arr).Perm arr:=by
 refine Array.perm_iff_toList_perm.mpr ?_
 have e:=Aae m 0 sa arr (h)
 rw[Nat.add_zero]at e
 rw[e]
 have e2:arr.toList=arr.toList.take sa++((arr.toList.drop sa).take m.length++arr.toList.drop (sa+m.length)):=by
  rw[<-List.drop_drop,List.take_append_drop,List.take_append_drop]
 conv=>rhs;rw[e2]
 rw[List.append_assoc]
 exact List.Perm.append_left _ (List.Perm.append_right _ hp)
theorem Ul{m:List Keyed}{sa:Nat}{arr:Array Keyed}(h:sa+m.length<=arr.size)(i:Nat) :
 (m.zipIdx.foldl (fun a (p,j)=>a.setIfInBounds (sa+j) p) arr)[i]? = if i<sa then arr[i]? else if i<sa+m.length then m[i-sa]? else arr[i]?:=by
 have e:=Aae m 0 sa arr (h)
 rw[Nat.add_zero]at e
 have ht:(arr.toList.take sa).length=sa:=by rw[List.length_take,Array.length_toList,Nat.min_eq_left (T5 h)]
 rw[<-Array.getElem?_toList,e,List.getElem?_append,List.length_append,ht,List.getElem?_append,ht]
 by_cases h1:i<sa
 ·rw[if_pos (Afi h1),if_pos h1,if_pos h1,List.getElem?_take,if_pos h1,Array.getElem?_toList]
 ·rw[if_neg h1,if_neg h1]
  by_cases h2:i<sa+m.length
  ·rw[if_pos h2,if_pos h2]
  ·rw[if_neg h2,if_neg h2,List.getElem?_drop,Array.getElem?_toList,Nat.add_sub_of_le (Nat.le_of_not_lt h2)]
variable {prog:Program} {w:World} {A:Around} {E:Value->Shared->Prop} {s:Shared} {κ:SortKind} {rk:Keyed->Nat} {af arr arr':Array Keyed} {st:SortSt}
theorem Dm.le{f t i j:Nat}{x y:Keyed}(h:Dm rk arr f t)(hi:f<=i)(hij:i<=j)(hj:j<t)(ei:arr[i]? = some x)(ej:arr[j]? = some y):rk x<=rk y:=by
 rcases Nat.lt_or_eq_of_le hij with q|rfl
 ·exact Nat.le_of_lt (h i j x y hi q hj ei ej)
 ·cases ei.symm.trans ej
  exact Nat.le_refl _
theorem Dm.join{f m t:Nat}(h1:Dm rk arr f m)(h2:Dm rk arr m t)(h3:∀i j x y,f<=i->i<m->m<=j->j<t->arr[i]? = some x->arr[j]? = some y->rk x<rk y):Dm rk arr f t:=fun i j x y a1 a2 a3 ei ej=>by
 by_cases q1:j<m
 ·exact h1 i j x y a1 a2 q1 ei ej
 ·by_cases q2:i<m
  ·exact h3 i j x y a1 q2 (Nat.le_of_not_lt q1) a3 ei ej
  ·exact h2 i j x y (Nat.le_of_not_lt q2) a2 a3 ei ej
theorem Dm.same{f t:Nat}(h:Dm rk arr f t)(e:∀i,f<=i->i<t->arr'[i]? = arr[i]?):Dm rk arr' f t:=fun i j x y a1 a2 a3 ei ej=>h i j x y a1 a2 a3 (by rw[<-e i a1 (Nat.lt_trans a2 a3)];exact ei) (by rw[<-e j (Af a1 (Nat.le_of_lt a2)) a3];exact ej)
theorem Dm.part{f t f' t':Nat}(h:Dm rk arr f t)(h1:f<=f')(h2:t'<=t):Dm rk arr f' t':=fun i j x y a1 a2 a3=>h i j x y (Af h1 a1) a2 (Nat.lt_of_lt_of_le a3 h2)
theorem Dm.srt{f t:Nat}(h:Dm rk arr f t)(ht:t<=arr.size):O3 rk (arr.extract f t).toList:=by
 refine List.pairwise_iff_getElem.mpr fun i j hi hj hij=>?_
 rw[Array.length_toList,Array.size_extract,Nat.min_eq_left ht]at hi hj
 rw[Array.getElem_toList,Array.getElem_toList,Array.getElem_extract,Array.getElem_extract]
 exact h (f+i) (f+j) _ _ (Nat.le_add_right _ _) (Y0 hij) (Nat.add_lt_of_lt_sub' hj) (Array.getElem?_eq_getElem _) (Array.getElem?_eq_getElem _)
theorem Fw{f t:Nat}{x:Keyed}(h:x∈(arr.extract f t).toList):∃i,f<=i/\i<t/\arr[i]? = some x:=by
 by_cases q:f<=t
 ·rw[Qs q]at h
  exact Vz q h
 ·rw[Array.toList_extract,List.extract_eq_take_drop,Nat.sub_eq_zero_of_le (Nat.le_of_lt (Nat.lt_of_not_le q)),List.take_zero]at h
  cases h
noncomputable abbrev V7(arr arr':Array Keyed)(f t:Nat):Prop:=∀i,i<f\/t<=i->arr'[i]? = arr[i]?
theorem Um{sa sb k na nb j:Nat}{r:Array Keyed}{y z:Keyed}(hs:sb=sa+na)(hk:k<na)(hj:j<=nb)(h3:sb+nb<=arr.size)(ey:arr[sb]? = some y)(ez:arr[sb-1]? = some z)(iA:Dm rk arr sa sb)(iB:Dm rk arr sb (sb+nb))(hj0:0<nb)
 (g1:∀i x,sa<=i->i<sa+k->arr[i]? = some x->rk x<rk y) (g4:∀i x,sb+j<=i->i<sb+nb->arr[i]? = some x->rk z<rk x)
 (hr:Fh rk (arr.extract (sa+k) sb) (arr.extract sb (sb+j)) r) (hl:r.toList.length=na-k+j) (e:∀i,arr'[i]? = if i<sa+k then arr[i]? else if i<sa+k+r.toList.length then r.toList[i-(sa+k)]? else arr[i]?) :
 Dm rk arr' sa (sb+nb)/\V7 arr arr' sa (sb+nb):=by
 have eL:∀i,i<sa+k->arr'[i]? = arr[i]?:=fun i q=>by rw[e,if_pos q]
 have eR:∀i,sb+j<=i->arr'[i]? = arr[i]?:=fun i q=>by rw[e,if_neg (Nat.not_lt_of_le (Nat.le_of_lt (Nat.lt_of_lt_of_le (Nat.add_lt_add_left hk _) (Af (Nat.le_of_eq hs.symm) (Af (Nat.le_add_right _ _) q))))),if_neg (Akk hs hk hl q)]
 have eM:∀i,sa+k<=i->i<sb+j->arr'[i]? = r.toList[i-(sa+k)]?:=fun i q1 q2=>by rw[e,if_neg (Nat.not_lt_of_le q1),if_pos (Akl hs hl q2)]
 have mM:∀i x,sa+k<=i->i<sb+j->arr'[i]? = some x->∃i',sa+k<=i'/\i'<sb+j/\arr[i']? = some x:=fun i x q1 q2 q3=>by
  rw[eM i q1 q2]at q3
  rcases List.mem_append.mp (hr.1.mem_iff.mp (List.mem_of_getElem? q3))with q|q
  ·obtain⟨i',a1,a2,a3⟩:=Fw q
   exact⟨i',a1,(Afi a2),a3⟩
  ·obtain⟨i',a1,a2,a3⟩:=Fw q
   exact⟨i',(Af (Nat.add_le_add_left (Nat.le_of_lt hk) _) (Af (Nat.le_of_eq hs.symm) a1)),a2,a3⟩
 have low:∀i i' x v,sa<=i->i<sa+k->sa+k<=i'->i'<sb+nb->arr[i]? = some x->arr[i']? = some v->rk x<rk v:=fun i i' x v a1 a2 a3 a4 ex ev=>by
  by_cases q:i'<sb
  ·exact iA i i' x v a1 (Nat.lt_of_lt_of_le a2 a3) q ex ev
  ·exact Nat.lt_of_lt_of_le (g1 i x a1 a2 ex) (iB.le (Nat.le_refl _) (Nat.le_of_not_lt q) a4 ey ev)
 have high:∀i i' x v,sa+k<=i->i<sb+j->sb+j<=i'->i'<sb+nb->arr[i]? = some x->arr[i']? = some v->rk x<rk v:=fun i i' x v a1 a2 a3 a4 ex ev=>by
  by_cases q:i<sb
  ·exact Nat.lt_of_le_of_lt (iA.le (T5 a1) (Nat.le_sub_one_of_lt q) (Acp q) ex ez) (g4 i' v a3 a4 ev)
  ·exact iB i i' x v (Nat.le_of_not_lt q) (Nat.lt_of_lt_of_le a2 a3) a4 ex ev
 refine⟨Dm.join (m:=sa+k) ((iA.part (Nat.le_refl _) (Af (Nat.add_le_add_left (Nat.le_of_lt hk) _) (Nat.le_of_eq hs.symm))).same fun i _ q=>eL i q) (Dm.join (m:=sb+j) (fun i j' x v a1 a2 a3 ei ej=>?_) ((iB.part (Nat.le_add_right _ _) (Nat.le_refl _)).same fun i q _=>eR i q) fun i i' x v a1 a2 a3 a4 ei ej=>?_) fun i i' x v a1 a2 a3 a4 ei ej=>?_,fun i q=>?_⟩
 ·rw[eM _ a1 (Nat.lt_trans a2 a3)]at ei
  rw[eM _ (Af a1 (Nat.le_of_lt a2)) a3]at ej
  rw[Array.getElem?_toList]at ei ej
  exact hr.2.inc (f:=0) (t:=r.size) _ _ x v (Nat.zero_le _) (Nat.sub_lt_sub_right a1 a2) ((Array.getElem?_eq_some_iff.mp ej).1) ei ej
 ·obtain⟨i2,b1,b2,b3⟩:=mM i x a1 a2 ei
  rw[eR i' a3]at ej
  exact high i2 i' x v b1 b2 a3 a4 b3 ej
 ·rw[eL i a2]at ei
  by_cases q:i'<sb+j
  ·obtain⟨i2,b1,b2,b3⟩:=mM i' v a3 q ej
   exact low i i2 x v a1 a2 b1 (Nat.lt_of_lt_of_le b2 (Nat.add_le_add_left hj _)) ei b3
  ·rw[eR i' (Nat.le_of_not_lt q)]at ej
   exact low i i' x v a1 a2 a3 a4 ei ej
 ·rcases q with q|q
  ·exact eL i (Afi q)
  ·exact eR i (Af (Nat.add_le_add_left hj _) q)
noncomputable abbrev Aaf(st:SortSt)(i sa n pw:Nat):SortSt:=setPending st (((pendingOf st).setIfInBounds i (sa,n,pw)).eraseIdxIfInBounds (i+1))
theorem Sw(hc:Rs prog w A s κ af rk)(hk:kindOf st=κ)(hp:(arrOf st).Perm af)(hf:failedOf st=none){i sa na pw sb nb pw2:Nat}(e1:(pendingOf st)[i]? = some (sa,na,pw))(e2:(pendingOf st)[i+1]? = some (sb,nb,pw2))
 (hs:sb=sa+na) (h1:1<=na) (h2:1<=nb) (h3:sb+nb<=(arrOf st).size) (iA:Dm rk (arrOf st) sa sb) (iB:Dm rk (arrOf st) sb (sb+nb)) {Q:Bool->SortSt->Prop}
 (h:∀arr g,arr.Perm af->Dm rk arr sa (sb+nb)->V7 (arrOf st) arr sa (sb+nb)->Q true (SortSt.mk' κ arr (((pendingOf st).setIfInBounds i (sa,na+nb,pw)).eraseIdxIfInBounds (i+1)) g none)):Rows.wpS (model prog w) A E s (mergeAt' i) Q st:=by
 rw[Sq]
 refine wpS_bind (wpS_get ?_)
 rw[e1,e2]
 dsimp only
 have hm:∀p∈(arrOf st).toList,p∈af.toList:=fun p q=>(Array.perm_iff_toList_perm.mp hp).mem_iff.mp q
 have hsb:sb<(arrOf st).size:=Nat.lt_of_lt_of_le (Nat.lt_add_of_pos_right h2) h3
 subst hk
 refine wpS_bind (Adc (wpS_bind (A5 hsb fun y hy ey=>wpS_bind (De (st:=Aaf st i sa (na+nb) pw) (af:=af) (base:=sa) (n:=na) (hint:=0) hc (hm y hy) hm rfl (Af (Nat.le_of_eq hs.symm) (Nat.le_of_lt hsb)) h1 (by rw[<-hs];exact iA) (fun i x _ q e=>hc.ne hp e ey (Nat.ne_of_lt (Nat.lt_of_lt_of_eq q hs.symm))) fun k hkk g1 g2=>?_))))
 rw[<-hs]at g2
 have ee:sa+k+(na-k)=sb:=by rw[Nat.add_assoc,Nat.add_sub_of_le hkk,hs]
 have same:Dm rk (arrOf st) sa (sb+nb)->Q true (Aaf st i sa (na+nb) pw):=fun q=>by
  have:=h (arrOf st) (gallopOf st) hp q fun _ _=>rfl
  rw[<-hf]at this
  exact this
 show Rows.wpS _ _ _ _ (if (na-k==0)=true then _ else _) _ _
 split
 ·rename_i q
  have q:=beq_iff_eq.mp q
  exact wpS_pure (same (iA.join iB fun i j x v a1 a2 a3 a4 ei ej=>Nat.lt_of_lt_of_le (g1 i x a1 (Akm ee q a2) ei) (iB.le (Nat.le_refl _) a3 a4 ey ej)))
 ·rename_i q
  have q:=D7 q
  rw[ee]
  refine wpS_bind (A5 (Nat.lt_of_le_of_lt (Nat.sub_le _ 1) hsb) fun z hz ez=>wpS_bind (De (st:=Aaf st i sa (na+nb) pw) (af:=af) (base:=sb) (n:=nb) (hint:=nb-1) hc (hm z hz) hm rfl h3 (Nat.sub_lt h2 Nat.one_pos) iB (fun i x _ _ e=>hc.ne hp e ez (by omega)) fun j hj g3 g4=>?_))
  show Rows.wpS _ _ _ _ (if (j==0)=true then _ else _) _ _
  split
  ·rename_i q2
   cases beq_iff_eq.mp q2
   exact wpS_pure (same (iA.join iB fun i j x v a1 a2 a3 a4 ei ej=>Nat.lt_of_le_of_lt (iA.le a1 (Nat.le_sub_one_of_lt a2) (Acp a2) ei ez) (g4 j v a3 a4 ej)))
  ·rename_i q2
   have hjl:sb+j<=(arrOf st).size:=Af (Nat.add_le_add_left hj _) h3
   have sx:((arrOf st).extract (sa+k) sb).size=na-k:=by rw[Array.size_extract,Nat.min_eq_left (Nat.le_of_lt hsb),hs,Nat.add_sub_add_left]
   have sy:((arrOf st).extract sb (sb+j)).size=j:=by rw[Array.size_extract,Nat.min_eq_left hjl,Nat.add_sub_cancel_left]
   have px:1<=((arrOf st).extract (sa+k) sb).size:=by rw[sx];exact Nat.pos_of_ne_zero q
   have py:1<=((arrOf st).extract sb (sb+j)).size:=by rw[sy];exact Nat.pos_of_ne_zero (D7 q2)
   have G:MG prog w A s (kindOf st) af rk ((arrOf st).extract (sa+k) sb) ((arrOf st).extract sb (sb+j)):=⟨hc,fun p q=>by
    obtain⟨_,_,_,e⟩:=Fw q
    exact hm p (Lo e),fun p q=>by
    obtain⟨_,_,_,e⟩:=Fw q
    exact hm p (Lo e),(iA.part (Nat.le_add_right _ _) (Nat.le_refl _)).srt (Nat.le_of_lt hsb),(iB.part (Nat.le_refl _) (Nat.add_le_add_left hj _)).srt hjl,fun x hx v hv=>by
    obtain⟨i1,a1,a2,a3⟩:=Fw hx
    obtain⟨i2,b1,b2,b3⟩:=Fw hv
    exact hc.ne hp a3 b3 (Nat.ne_of_lt (Nat.lt_of_lt_of_le a2 b1)),fun x hx v hv=>by
    obtain⟨i1,a1,a2,a3⟩:=Fw hx
    rw[Array.getElem?_extract,if_pos (Akn hjl sy py)]at hv
    cases ey.symm.trans hv
    exact g2 i1 x a1 a2 a3,fun v hv x hx=>by
    obtain⟨i2,b1,b2,b3⟩:=Fw hv
    rw[sx,Array.getElem?_extract,if_pos (Ako ee hjl sx px),show sa+k+(na-k-1)=sb-1 by exact Akp ee sx px]at hx
    cases ez.symm.trans hx
    exact g3 i2 v b1 b2 b3⟩
   have fin:∀(r:Array Keyed) (g:Nat),Fh rk ((arrOf st).extract (sa+k) sb) ((arrOf st).extract sb (sb+j)) r->Q (failedOf st).isNone (SortSt.mk' (kindOf st) (r.toList.zipIdx.foldl (fun a (p,j)=>a.setIfInBounds (sa+k+j) p) (arrOf st)) (((pendingOf st).setIfInBounds i (sa,na+nb,pw)).eraseIdxIfInBounds (i+1)) g (failedOf st)):=fun r g hr=>by
    rw[hf]
    have hl:r.toList.length=na-k+j:=hr.1.length_eq.trans (by rw[List.length_append,Array.length_toList,Array.length_toList,sx,sy])
    have hle:sa+k+r.toList.length<=(arrOf st).size:=by rw[hl,<-Nat.add_assoc,ee];exact hjl
    have mm:=Um hs (Nat.lt_of_sub_pos (Nat.lt_of_lt_of_eq px sx)) hj h3 ey ez iA iB h2 g1 g4 hr hl (Ul hle)
    refine h _ g ((Sv hle ?_).trans hp) mm.1 mm.2
    refine hr.1.trans ?_
    have:((arrOf st).extract (sa+k) sb).toList++((arrOf st).extract sb (sb+j)).toList=(List.drop (sa+k) (arrOf st).toList).take r.toList.length:=by
     rw[hl,Pz,<-ee,Pz,List.take_add,List.drop_drop]
    rw[this]
   split
   ·exact wpS_bind (St (st:=Aaf st i sa (na+nb) pw) (af:=af) G rfl px py fun r g hr=>wpS_bind (wpS_modify (wpS_bind (wpS_get (wpS_pure (fin r g hr))))))
   ·exact wpS_bind (Su (st:=Aaf st i sa (na+nb) pw) (af:=af) G rfl px py fun r g hr=>wpS_bind (wpS_modify (wpS_bind (wpS_get (wpS_pure (fin r g hr))))))
end
end Mine.Internal
namespace Mine.Internal
open PySem PySem.W PyProof PyProof.Rows
section
variable {prog:Program} {w:World} {A:Around} {E:Value->Shared->Prop} {s:Shared} {κ:SortKind} {rk:Keyed->Nat} {af arr arr':Array Keyed} {st:SortSt}
theorem Dn(hc:Rs prog w A s κ af rk)(hk:kindOf st=κ)(hp:(arrOf st).Perm af){i j:Nat}(hi:i<af.size)(hj:j<af.size){Q:Option Bool->SortSt->Prop}(h:∀x y,(arrOf st)[i]? = some x->(arrOf st)[j]? = some y->Q (some (decide (rk x<rk y))) st) :
 Rows.wpS (model prog w) A E s (ltAt' i j) Q st:=by
 rw[ltAt'_eq]
 have hm:∀p∈(arrOf st).toList,p∈af.toList:=fun p q=>(Array.perm_iff_toList_perm.mp hp).mem_iff.mp q
 exact wpS_bind (wpS_get (wpS_bind (A5 (by rw[hp.size_eq];exact hi) fun x hx ex=>wpS_bind (A5 (by rw[hp.size_eq];exact hj) fun y hy ey=>E5 hc (hm x hx) (hm y hy) hk (h x y ex ey)))))
theorem Dm.snoc{f m:Nat}{x y:Keyed}(h:Dm rk arr f m)(hm:f<m)(ex:arr[m-1]? = some x)(ey:arr[m]? = some y)(lt:rk x<rk y):Dm rk arr f (m+1):=fun i j u v a1 a2 a3 ei ej=>by
 by_cases q:j<m
 ·exact h i j u v a1 a2 q ei ej
 ·cases (show j=m by exact(Nat.le_antisymm (Nat.le_of_lt_succ a3) (Nat.le_of_not_lt q)))
  cases ey.symm.trans ej
  exact Nat.lt_of_le_of_lt (h.le a1 (Nat.le_sub_one_of_lt a2) (Acp a2) ei ex) lt
theorem Dm.one{f:Nat}:Dm rk arr f (f+1):=fun i j u v a1 a2 a3 _ _=>(absurd (Nat.lt_of_le_of_lt a1 a2) (Nat.not_lt_of_le (Nat.le_of_lt_succ a3)))
noncomputable def Dec(rk:Keyed->Nat)(arr:Array Keyed)(f t:Nat):Prop:=∀i j x y,f<=i->i<j->j<t->arr[i]? = some x->arr[j]? = some y->rk y<rk x
theorem Dec.le{f t i j:Nat}{x y:Keyed}(h:Dec rk arr f t)(hi:f<=i)(hij:i<=j)(hj:j<t)(ei:arr[i]? = some x)(ej:arr[j]? = some y):rk y<=rk x:=by
 rcases Nat.lt_or_eq_of_le hij with q|rfl
 ·exact Nat.le_of_lt (h i j x y hi q hj ei ej)
 ·cases ei.symm.trans ej
  exact Nat.le_refl _
theorem Dec.snoc{f m:Nat}{x y:Keyed}(h:Dec rk arr f m)(hm:f<m)(ex:arr[m-1]? = some x)(ey:arr[m]? = some y)(lt:rk y<rk x):Dec rk arr f (m+1):=fun i j u v a1 a2 a3 ei ej=>by
 by_cases q:j<m
 ·exact h i j u v a1 a2 q ei ej
 ·cases (show j=m by exact(Nat.le_antisymm (Nat.le_of_lt_succ a3) (Nat.le_of_not_lt q)))
  cases ey.symm.trans ej
  exact Nat.lt_of_lt_of_le lt (h.le a1 (Nat.le_sub_one_of_lt a2) (Acp a2) ei ex)
theorem Dec.rev{f t:Nat}(h:Dec rk arr f t)(ht:t<=arr.size):Dm rk (mirror arr f t ((t-f)/2)) f t:=fun i j x y a1 a2 a3 ei ej=>by
 rw[getElem?_mirror_all ht,if_pos (by omega)]at ei ej
 exact h (f+t-1-j) (f+t-1-i) y x (Nat.le_sub_of_add_le (Nat.le_sub_one_of_lt (Nat.add_lt_add_left a3 _))) (Nat.sub_lt_sub_left (Nat.lt_of_lt_of_le a2 (Nat.le_sub_one_of_lt (Nat.lt_of_lt_of_le a3 (Nat.le_add_left _ _)))) a2) (Akq a1 a3) ej ei
theorem Un{f t:Nat}(ht:t<=arr.size):V7 arr (mirror arr f t ((t-f)/2)) f t:=fun i q=>by rw[getElem?_mirror_all ht,if_neg (Akr q)]
theorem V7.more{f t f' t':Nat}(h:V7 arr arr' f t)(h1:f'<=f)(h2:t<=t'):V7 arr arr' f' t':=fun i q=>h i (Aks h1 h2 q)
noncomputable def crS(lo:Nat)(c:Option (Option Nat)×Nat):StateT SortSt Sem (ForInStep (Option (Option Nat)×Nat)):=do
 let x <-ltAt' (lo+c.2) (lo+c.2-1)
 match x with
 | some smaller=>if smaller then pure (.done (none,c.2))else pure (.yield (none,c.2+1))
 | _=>pure (.done (some none,c.2))
noncomputable def cr3(lo nrem n:Nat):StateT SortSt Sem (Option Nat):=do
 reverseSlice' lo (lo+n)
 let r <-forIn [n:nrem] ((none,n):Option (Option Nat)×Nat) fun _ c=>crS lo c
 My r.1 (fun x=>pure x) fun _=>pure (some r.2)
noncomputable def crD(lo:Nat)(c:Option (Option Nat)×Nat×Nat):StateT SortSt Sem (ForInStep (Option (Option Nat)×Nat×Nat)):=do
 let x <-ltAt' (lo+c.2.1) (lo+c.2.1-1)
 match x with
 | some smaller=>
   if smaller then
    if c.2.2>0 then do
     reverseSlice' (lo+c.2.1-(c.2.2+1)) (lo+c.2.1)
     pure (.yield (none,c.2.1+1,0))
    else pure (.yield (none,c.2.1+1,0))
   else do
    let y <-ltAt' (lo+c.2.1-1) (lo+c.2.1)
    match y with
    | some larger=>if larger then pure (.done (none,c.2.1,c.2.2))else pure (.yield (none,c.2.1+1,c.2.2+1))
    | _=>pure (.done (some none,c.2.1,c.2.2))
 | _=>pure (.done (some none,c.2.1,c.2.2))
noncomputable def cr2(lo nrem n:Nat):StateT SortSt Sem (Option Nat):=do
 rule "list.sort.descending-run"
 let r <-forIn [n+1:nrem] ((none,n+1,0):Option (Option Nat)×Nat×Nat) fun _ c=>crD lo c
 My r.1 (fun x=>pure x) fun _=>
  if r.2.2>0 then do
   reverseSlice' (lo+r.2.1-(r.2.2+1)) (lo+r.2.1)
   cr3 lo nrem r.2.1
  else cr3 lo nrem r.2.1
theorem Sx(lo nrem:Nat):countRun' lo nrem=(do
 let r <-forIn [1:nrem] ((none,1):Option (Option Nat)×Nat) fun _ c=>crS lo c
 My r.1 (fun x=>pure x) fun _=>
  if (r.2==nrem)=true then pure (some r.2)
  else if r.2>1 then do
   let x <-ltAt' lo (lo+r.2-1)
   match x with
   | some rose=>if rose then pure (some r.2)else do
     reverseSlice' lo (lo+r.2)
     cr2 lo nrem r.2
   | _=>pure none
  else cr2 lo nrem r.2):=rfl
theorem V8(hc:Rs prog w A s κ af rk)(hk:kindOf st=κ)(hp:(arrOf st).Perm af){lo nrem n:Nat}(h1:1<=n)(hn:n<=nrem)(h2:lo+nrem<=af.size)(hi:Dm rk (arrOf st) lo (lo+n)){Q:Option (Option Nat)×Nat->SortSt->Prop}
 (h:∀k,n<=k->k<=nrem->Dm rk (arrOf st) lo (lo+k)->(k<nrem->Lt2 rk (arrOf st) (lo+k) (arrOf st) (lo+k-1))->Q (none,k) st):Rows.wpS (model prog w) A E s (forIn [n:nrem] ((none,n):Option (Option Nat)×Nat) fun _ c=>crS lo c) Q st:=by
 refine wpS_forRange (I:=fun i c st'=>st'=st/\c=(none,i)/\Dm rk (arrOf st) lo (lo+i)) ?_ ?_ ⟨rfl,rfl,hi⟩
 ·rintro i c st' h3 h4 ⟨rfl,rfl,h5⟩
  unfold crS
  refine wpS_bind (Dn hc hk hp (by show lo+i<_;exact T6 h2 h4) (by show lo+i-1<_;exact Acq h2 h4) fun x y ex ey=>?_)
  by_cases lt:rk x<rk y
  ·rw[decide_eq_true lt]
   refine wpS_pure (h i h3 (Nat.le_of_lt h4) h5 fun _ u v eu ev=>?_)
   cases ex.symm.trans eu
   cases ey.symm.trans ev
   exact lt
  ·rw[decide_eq_false lt]
   exact wpS_pure ⟨rfl,rfl,h5.snoc (Nat.lt_add_of_pos_right (Af h1 h3)) ey ex (Ss lt (hc.ne hp ey ex (by show lo+i-1≠lo+i;exact(Nat.ne_of_lt (Nat.sub_lt (Nat.lt_of_lt_of_le (Af h1 h3) (Nat.le_add_left _ _)) (by decide))))))⟩
 ·rintro c st' ⟨rfl,rfl,h5⟩
  rw[Nat.max_eq_right hn]at h5 ⊢
  exact h nrem hn (Nat.le_refl _) h5 fun q=>absurd q (Nat.lt_irrefl _)
theorem Ade(hc:Rs prog w A s κ af rk)(hk:kindOf st=κ)(hp:(arrOf st).Perm af){lo nrem n:Nat}(h1:1<=n)(hn:n<=nrem)(h2:lo+nrem<=af.size)(hd:Dec rk (arrOf st) lo (lo+n)){Q:Option Nat->SortSt->Prop}
 (h:∀n arr,1<=n->n<=nrem->arr.Perm af->Dm rk arr lo (lo+n)->V7 (arrOf st) arr lo (lo+nrem)->Q (some n) (setArr st arr)):Rows.wpS (model prog w) A E s (cr3 lo nrem n) Q st:=by
 unfold cr3
 rw[reverseSlice'_eq]
 have sz:lo+n<=(arrOf st).size:=by rw[hp.size_eq];exact Af (Nat.add_le_add_left hn _) h2
 have ha:=(mirror_perm (arrOf st) lo (lo+n) ((lo+n-lo)/2)).trans hp
 refine wpS_bind (wpS_modify (wpS_bind (V8 (st:=setArr st (mirror (arrOf st) lo (lo+n) ((lo+n-lo)/2))) hc hk ha h1 hn h2 (hd.rev sz) fun k q1 q2 q3 _=>?_)))
 exact wpS_pure (h k _ (Af h1 q1) q2 ha q3 ((Un sz).more (Nat.le_refl _) (Nat.add_le_add_left (Af q1 q2) _)))
theorem Adf(hc:Rs prog w A s κ af rk)(hk:kindOf st=κ)(hp:(arrOf st).Perm af){lo nrem:Nat}(hn:1<nrem)(h2:lo+nrem<=af.size)(lt:Lt2 rk (arrOf st) (lo+1) (arrOf st) lo){Q:Option Nat->SortSt->Prop}
 (h:∀n arr,1<=n->n<=nrem->arr.Perm af->Dm rk arr lo (lo+n)->V7 (arrOf st) arr lo (lo+nrem)->Q (some n) (setArr st arr)):Rows.wpS (model prog w) A E s (cr2 lo nrem 1) Q st:=by
 unfold cr2
 refine wpS_bind (wpS_lift (wpAny_rule ⟨rfl,?_⟩))
 have d0:Dec rk (arrOf st) lo (lo+2):=fun i j x y a1 a2 a3 ei ej=>by
  cases (show i=lo by exact(Nat.le_antisymm (Nat.le_of_lt_succ (Nat.lt_of_lt_of_le a2 (Nat.le_of_lt_succ a3))) a1))
  cases (show j=lo+1 by exact(Nat.le_antisymm (Nat.le_of_lt_succ a3) a2))
  exact lt y x ej ei
 refine wpS_bind (wpS_mono (wpS_forRange (I:=fun i c st'=>st'=st/\c=(none,i,0)/\Dec rk (arrOf st) lo (lo+i)) (Q:=fun c st'=>st'=st/\∃i,c=(none,i,0)/\1<=i/\i<=nrem/\Dec rk (arrOf st) lo (lo+i)) ?_ ?_ ⟨rfl,rfl,d0⟩) ?_)
 ·rintro i c st' h3 h4 ⟨rfl,rfl,d⟩
  unfold crD
  refine wpS_bind (Dn hc hk hp (by show lo+i<_;exact T6 h2 h4) (by show lo+i-1<_;exact Acq h2 h4) fun x y ex ey=>?_)
  by_cases lt:rk x<rk y
  ·rw[decide_eq_true lt]
   dsimp only
   rw[if_pos rfl,if_neg (Nat.lt_irrefl _)]
   exact wpS_pure ⟨rfl,rfl,d.snoc (Nat.lt_add_of_pos_right (Af (by decide) h3)) ey ex lt⟩
  ·rw[decide_eq_false lt]
   dsimp only
   rw[if_neg Bool.false_ne_true]
   refine wpS_bind (Dn hc hk hp (by show lo+i-1<_;exact Acq h2 h4) (by show lo+i<_;exact T6 h2 h4) fun u v eu ev=>?_)
   cases ey.symm.trans eu
   cases ex.symm.trans ev
   rw[decide_eq_true (Ss lt (hc.ne hp ey ex (by show lo+i-1≠lo+i;exact(Nat.ne_of_lt (Nat.sub_lt (Nat.lt_of_lt_of_le (Af (by decide) h3) (Nat.le_add_left _ _)) (by decide))))))]
   exact wpS_pure ⟨rfl,i,rfl,(Nat.le_of_lt h3),Nat.le_of_lt h4,d⟩
 ·rintro c st' ⟨rfl,rfl,d⟩
  rw[Nat.max_eq_right hn]at d ⊢
  exact⟨rfl,_,rfl,Nat.le_of_lt hn,Nat.le_refl _,d⟩
 ·rintro c st' ⟨rfl,i,rfl,q1,q2,d⟩
  show Rows.wpS _ _ _ _ (if 0>0 then _ else _) _ _
  rw[if_neg (Nat.lt_irrefl _)]
  exact Ade hc hk hp q1 q2 h2 d h
theorem Xh(hc:Rs prog w A s κ af rk)(hk:kindOf st=κ)(hp:(arrOf st).Perm af){lo nrem:Nat}(h1:1<=nrem)(h2:lo+nrem<=af.size){Q:Option Nat->SortSt->Prop}
 (h:∀n arr,1<=n->n<=nrem->arr.Perm af->Dm rk arr lo (lo+n)->V7 (arrOf st) arr lo (lo+nrem)->Q (some n) (setArr st arr)):Rows.wpS (model prog w) A E s (countRun' lo nrem) Q st:=by
 rw[Sx]
 refine wpS_bind (V8 hc hk hp (Nat.le_refl _) h1 h2 Dm.one fun n q1 q2 q5 q6=>?_)
 have fin:=h n _ q1 q2 hp q5 fun _ _=>rfl
 show Rows.wpS _ _ _ _ (if (n==nrem)=true then _ else _) _ _
 split
 ·exact wpS_pure fin
 ·rename_i q3
  have q4:n<nrem:=Nat.lt_of_le_of_ne q2 (D7 q3)
  split
  ·refine wpS_bind (Dn hc hk hp (Nat.lt_of_lt_of_le (Nat.lt_add_of_pos_right (Nat.zero_lt_of_lt q4)) h2) (by show lo+n-1<_;exact Acq h2 q4) fun x y ex ey=>?_)
   rw[decide_eq_true (q5 lo (lo+n-1) x y (Nat.le_refl _) (by omega) (by omega) ex ey)]
   exact wpS_pure fin
  ·cases (show n=1 by omega)
   exact Adf hc hk hp q4 h2 (q6 q4) h
theorem Dm.ins{f k l:Nat}{p:Keyed}(h:Dm rk arr f (f+k))(hs:f+k<arr.size)(hl:l<=k)(ep:arr[f+k]? = some p)(h1:∀m x,m<l->arr[f+m]? = some x->rk x<rk p)(h2:∀m x,l<=m->m<k->arr[f+m]? = some x->rk p<rk x) :
 Dm rk (bubble arr (f+k) (f+k-(f+l))) f (f+(k+1))/\V7 arr (bubble arr (f+k) (f+k-(f+l))) f (f+(k+1)):=by
 have e:=getElem?_bubble hs (f+k-(f+l)) (Nat.sub_le _ _)
 rw[show f+k-(f+k-(f+l))=f+l by exact(Nat.sub_sub_self (Nat.add_le_add_left hl _))]at e
 refine⟨fun i j x y a1 a2 a3 ei ej=>?_,fun i q=>?_⟩
 ·rw[e]at ei ej
  have lo':∀m x,f<=m->m<f+l->arr[m]? = some x->rk x<rk p:=fun m x q1 q2 q3=>h1 (m-f) x (Nat.sub_lt_left_of_lt_add q1 q2) (by rw[Nat.add_sub_of_le q1];exact q3)
  have hi':∀m x,f+l<=m->m<f+k->arr[m]? = some x->rk p<rk x:=fun m x q1 q2 q3=>h2 (m-f) x (Nat.le_sub_of_add_le' q1) (Nat.sub_lt_left_of_lt_add (Af (Nat.le_add_right _ _) q1) q2) (by rw[Nat.add_sub_of_le (T5 q1)];exact q3)
  by_cases c1:j=f+l
  ·rw[if_pos c1]at ej
   rw[if_neg (Nat.ne_of_lt (Nat.lt_of_lt_of_eq a2 c1)),if_neg (Akt a2 c1)]at ei
   cases ep.symm.trans ej
   exact lo' i x a1 (Nat.lt_of_lt_of_eq a2 c1) ei
  ·rw[if_neg c1]at ej
   by_cases c2:i=f+l
   ·rw[if_pos c2]at ei
    rw[if_pos (⟨Nat.lt_of_le_of_lt (Nat.le_of_eq c2.symm) a2,Nat.le_of_lt_succ a3⟩)]at ej
    cases ep.symm.trans ei
    exact hi' (j-1) y (Nat.le_sub_one_of_lt (Nat.lt_of_le_of_lt (Nat.le_of_eq c2.symm) a2)) (Ahv a2 a3) ej
   ·rw[if_neg c2]at ei
    by_cases c3:f+l<i
    ·rw[if_pos (by omega)]at ei ej
     exact h (i-1) (j-1) x y (Nat.le_sub_one_of_lt (Nat.lt_of_le_of_lt (Nat.le_add_right _ _) c3)) (Nat.sub_lt_sub_right (Nat.zero_lt_of_lt c3) a2) (Ahv a2 a3) ei ej
    ·rw[if_neg (Ahw c3)]at ei
     by_cases c4:f+l<j
     ·rw[if_pos (⟨c4,Nat.le_of_lt_succ a3⟩)]at ej
      exact Nat.lt_trans (lo' i x a1 (Nat.lt_of_le_of_ne (Nat.le_of_not_lt c3) c2) ei) (hi' (j-1) y (Nat.le_sub_one_of_lt c4) (Nat.lt_of_lt_of_le (Nat.sub_lt (Nat.zero_lt_of_lt c4) (by decide)) (Nat.le_of_lt_succ a3)) ej)
     ·rw[if_neg (Ahw c4)]at ej
      exact h i j x y a1 a2 (Nat.lt_of_lt_of_le (Nat.lt_of_le_of_ne (Nat.le_of_not_lt c4) c1) (Nat.add_le_add_left hl _)) ei ej
 ·rw[e,if_neg (Aku hl q),if_neg (Akv q)]
theorem Adg(hc:Rs prog w A s κ af rk)(hk:kindOf st=κ)(hp:(arrOf st).Perm af){lo n ok:Nat}(h1:1<=ok)(hn:ok<=n)(h2:lo+n<=af.size)(hi:Dm rk (arrOf st) lo (lo+ok)){Q:Bool->SortSt->Prop}
 (h:∀arr,arr.Perm af->Dm rk arr lo (lo+n)->V7 (arrOf st) arr lo (lo+n)->Q true (setArr st arr)):Rows.wpS (model prog w) A E s (binarySort' lo n ok) Q st:=by
 rw[binarySort'_eq]
 dsimp only
 rw[Nat.max_eq_left h1]
 refine wpS_bind (wpS_mono (wpS_forRange (I:=fun k c st'=>∃arr,st'=setArr st arr/\arr.Perm af/\c.1=none/\Dm rk arr lo (lo+k)/\V7 (arrOf st) arr lo (lo+n)) (Q:=fun c st'=>∃arr,st'=setArr st arr/\arr.Perm af/\c.1=none/\Dm rk arr lo (lo+n)/\V7 (arrOf st) arr lo (lo+n)) ?_ (fun c st' q=>by rw[Nat.max_eq_right hn]at q;exact q) ⟨arrOf st,rfl,hp,rfl,hi,fun _ _=>rfl⟩) ?_)
 ·rintro k c st' h3 h4 ⟨arr,rfl,ha,hcn,i1,o1⟩
  have sz:lo+k<arr.size:=by rw[ha.size_eq];exact T6 h2 h4
  obtain⟨p,ep⟩:∃p,arr[lo+k]? = some p:=⟨_,Array.getElem?_eq_getElem sz⟩
  refine wpS_bind (wpS_mono (wpS_forRange (I:=fun t c st'=>st'=setArr st arr/\∃l r,c=(none,l,r)/\l<=k/\r<=k/\(∀m x,m<l->arr[lo+m]? = some x->rk x<rk p)/\(∀m x,r<=m->m<k->arr[lo+m]? = some x->rk p<rk x)/\r-l<=k-t) (Q:=fun c st'=>st'=setArr st arr/\∃l r,c=(none,l,r)/\l<=k/\(∀m x,m<l->arr[lo+m]? = some x->rk x<rk p)/\(∀m x,l<=m->m<k->arr[lo+m]? = some x->rk p<rk x)) ?_ ?_ ⟨rfl,_,_,rfl,Nat.zero_le _,Nat.le_refl _,fun m x q=>absurd q (Nat.not_lt_zero _),fun m x q1 q2=>absurd q2 (Nat.not_lt.mpr q1),Nat.sub_le _ _⟩) ?_)
  ·rintro t c st' _ ht ⟨rfl,l,r,rfl,b1,b2,b3,b4,b5⟩
   dsimp only
   split
   ·rename_i q
    exact wpS_pure ⟨rfl,_,_,rfl,b1,b3,fun m x q1=>b4 m x (Af q q1)⟩
   ·rename_i q
    refine wpS_bind (Dn (st:=setArr st arr) hc hk ha (T6 h2 h4) (Nat.lt_of_lt_of_le (Nat.add_lt_add_left (Nat.lt_trans (Nat.lt_of_lt_of_le (q2 (Nat.lt_of_not_le q)) b2) h4) _) h2) fun x y ex ey=>?_)
    cases ep.symm.trans ex
    have inc:∀m m' u v,m<=m'->m'<k->arr[lo+m]? = some u->arr[lo+m']? = some v->rk u<=rk v:=fun m m' u v q1 q2 eu ev=>i1.le (Nat.le_add_right _ _) (Nat.add_le_add_left q1 _) (Y0 q2) eu ev
    by_cases lt:rk p<rk y
    ·rw[decide_eq_true lt]
     exact wpS_pure ⟨rfl,_,_,rfl,b1,(Af (Nat.le_of_lt (q2 (Nat.lt_of_not_le q))) b2),b3,fun m x q1 q2 e=>Nat.lt_of_lt_of_le lt (inc _ _ y x q1 q2 ey e),(Af q3 (Nat.sub_le_sub_right b5 1))⟩
    ·rw[decide_eq_false lt]
     have lt':=Ss lt (hc.ne ha ey ep (Nat.ne_of_lt (Nat.add_lt_add_left (Nat.lt_of_lt_of_le (q2 (Nat.lt_of_not_le q)) b2) _)))
     exact wpS_pure ⟨rfl,_,_,rfl,(Nat.lt_of_lt_of_le (q2 (Nat.lt_of_not_le q)) b2),b2,fun m x q1 e=>Nat.lt_of_le_of_lt (inc _ _ x y (Nat.le_of_lt_succ q1) (Nat.lt_of_lt_of_le (q2 (Nat.lt_of_not_le q)) b2) e ey) lt',b4,(Af q4 (Nat.sub_le_sub_right b5 1))⟩
  ·rintro c st' ⟨rfl,l,r,rfl,b1,b2,b3,b4,b5⟩
   exact⟨rfl,_,_,rfl,b1,b3,fun m x q1=>b4 m x (Af (Nat.sub_eq_zero_iff_le.mp (Nat.eq_zero_of_le_zero (Af b5 (Nat.le_of_eq (qd _))))) q1)⟩
  ·rintro c st' ⟨rfl,l,r,rfl,b1,b2,b3⟩
   show Rows.wpS _ _ _ _ (do moveDown' (lo+k) (lo+l);_) _ _
   rw[moveDown'_eq]
   have ins:=i1.ins sz b1 ep b2 b3
   exact wpS_bind (wpS_modify (wpS_pure ⟨_,rfl,(bubble_perm _ _ _).trans ha,rfl,ins.1,fun i q=>(ins.2 i (q.imp_right (Af (Nat.add_le_add_left h4 _)))).trans (o1 i q)⟩))
 ·rintro⟨c,d⟩ st' ⟨arr,rfl,ha,rfl,i1,o1⟩
  exact wpS_pure (h arr ha i1 o1)
end
end Mine.Internal
namespace Mine.Internal
open PySem PySem.W PyProof PyProof.Rows
section
variable {rk:Keyed->Nat} {arr arr':Array Keyed}
noncomputable def Ev(rk:Keyed->Nat)(arr:Array Keyed):List (Nat×Nat×Nat)->Nat->Nat->Prop
 | [],f,t=>f=t
 | x::r,f,t=>x.1=f/\1<=x.2.1/\Dm rk arr f (f+x.2.1)/\Ev rk arr r (f+x.2.1) t
theorem Ev.len:∀ {l:List (Nat×Nat×Nat)} {f t:Nat},Ev rk arr l f t->f+l.length<=t:=by
 intro l
 induction l with
 | nil=>intro f t h;exact Nat.le_of_eq h
 | cons x r ih=>
   intro f t h
   have:=ih h.2.2.2
   have:=h.2.1
   rw[List.length_cons]
   omega
theorem Ev.same:∀ {l:List (Nat×Nat×Nat)} {f t:Nat},Ev rk arr l f t->(∀i,f<=i->i<t->arr'[i]? = arr[i]?)->Ev rk arr' l f t:=by
 intro l
 induction l with
 | nil=>intro f t h _;exact h
 | cons x r ih=>
   intro f t h e
   have:=h.2.2.2.len
   exact⟨h.1,h.2.1,h.2.2.1.same fun i h1 h2=>e i h1 (Nat.lt_of_lt_of_le h2 (Af (Nat.le_add_right _ _) this)),ih h.2.2.2 fun i h1 h2=>e i (T5 h1) h2⟩
theorem Ev.snoc{n pw:Nat}(hn:1<=n):∀ {l:List (Nat×Nat×Nat)} {f t:Nat},Ev rk arr l f t->Dm rk arr t (t+n)->Ev rk arr (l ++ [(t,n,pw)]) f (t+n):=by
 intro l
 induction l with
 | nil=>intro f t h i;cases h;exact⟨rfl,hn,i,rfl⟩
 | cons x r ih=>intro f t h i;exact⟨h.1,h.2.1,h.2.2.1,ih h.2.2.2 i⟩
theorem Ev.two{sa na pa sb nb pb:Nat}:∀ {l:List (Nat×Nat×Nat)} {i f t:Nat},Ev rk arr l f t->l[i]? = some (sa,na,pa)->l[i+1]? = some (sb,nb,pb)->sb=sa+na/\1<=na/\1<=nb/\sb+nb<=t/\f<=sa/\Dm rk arr sa sb/\Dm rk arr sb (sb+nb):=by
 intro l
 induction l with
 | nil=>intro i f t h h1;cases h1
 | cons x r ih=>
   intro i f t h h1 h2
   refine Aa fun nY=>?_
   cases i with
   | succ i=>
     obtain⟨a1,a2,a3,a4,a5,a6⟩:=ih h.2.2.2 h1 h2
     refine nY ?_;clear nY
     exact⟨a1,a2,a3,a4,Nat.le_of_add_right_le a5,a6⟩
   | zero=>
     cases h1
     cases r with
     | nil=>cases h2
     | cons y r=>
       cases h2
       obtain⟨a1,a2,a3,b1,b2,b3,b4⟩:=h
       dsimp only at a1 a2 a3 b1 b2 b3 b4
       subst a1
       subst b1
       refine nY ?_;clear nY
       exact⟨rfl,a2,b2,Nat.le_of_add_right_le b4.len,Nat.le_refl _,a3,b3⟩
theorem Ev.merge{sa na pa sb nb pb pw:Nat}(iM:Dm rk arr' sa (sb+nb))(o:V7 arr arr' sa (sb+nb)):∀ {l:List (Nat×Nat×Nat)} {i f t:Nat},Ev rk arr l f t->l[i]? = some (sa,na,pa)->l[i+1]? = some (sb,nb,pb)->Ev rk arr' ((l.set i (sa,na+nb,pw)).eraseIdx (i+1)) f t:=by
 intro l
 induction l with
 | nil=>intro i f t h h1;cases h1
 | cons x r ih=>
   intro i f t h h1 h2
   cases i with
   | succ i=>
     have:=(h.2.2.2.two h1 h2).2.2.2.2.1
     exact⟨h.1,h.2.1,h.2.2.1.same fun i _ q=>o i (.inl (Nat.lt_of_lt_of_le q this)),ih h.2.2.2 h1 h2⟩
   | zero=>
     cases h1
     cases r with
     | nil=>cases h2
     | cons y r=>
       cases h2
       obtain⟨a1,a2,a3,b1,b2,b3,b4⟩:=h
       dsimp only at a1 a2 a3 b1 b2 b3 b4
       subst a1
       subst b1
       rw[Nat.add_assoc]at iM o b4
       exact⟨rfl,Af a2 (Nat.le_add_right _ _),iM,b4.same fun i q _=>o i (.inr q)⟩
theorem Ev.mod{g:Nat×Nat×Nat->Nat×Nat×Nat}(hg:∀x,(g x).1=x.1/\(g x).2.1=x.2.1):∀ {l:List (Nat×Nat×Nat)} {i f t:Nat},Ev rk arr l f t->Ev rk arr (l.modify i g) f t:=by
 intro l
 induction l with
 | nil=>intro i f t h;cases i<;>exact h
 | cons x r ih=>
   intro i f t h
   cases i with
   | zero=>exact⟨(hg x).1.trans h.1,(hg x).2▸h.2.1,(hg x).2▸h.2.2.1,(hg x).2▸h.2.2.2⟩
   | succ i=>exact⟨h.1,h.2.1,h.2.2.1,ih h.2.2.2⟩
theorem Ev.whole:∀ {l:List (Nat×Nat×Nat)} {t:Nat},Ev rk arr l 0 t->l.length<=1->Dm rk arr 0 t
 | [],_,h,_=>by cases h;exact fun i j _ _ _ _ q=>absurd q (Nat.not_lt_zero _)
 | [x],t,h,_=>by
   obtain⟨h1,h2,h3,h4⟩:=h
   cases h4
   exact h3
variable {prog:Program} {w:World} {A:Around} {E:Value->Shared->Prop} {s:Shared} {κ:SortKind} {af:Array Keyed} {st:SortSt}
structure T0(κ:SortKind)(af:Array Keyed)(rk:Keyed->Nat)(lo:Nat)(st:SortSt):Prop where
 kind:kindOf st=κ
 perm:(arrOf st).Perm af
 fail:failedOf st=none
 cont:Ev rk (arrOf st) (pendingOf st).toList 0 lo
theorem Mn(hc:Rs prog w A s κ af rk){lo i:Nat}(h:T0 κ af rk lo st)(hl:lo<=af.size)(hi:i+1<(pendingOf st).size){Q:Bool->SortSt->Prop}(hq:∀st',T0 κ af rk lo st'->(pendingOf st').size+1=(pendingOf st).size->(∀i,lo<=i->(arrOf st')[i]? = (arrOf st)[i]?)->Q true st') :
 Rows.wpS (model prog w) A E s (mergeAt' i) Q st:=by
 have e1:=Array.getElem?_eq_getElem (Nat.lt_of_succ_lt hi)
 have e2:=Array.getElem?_eq_getElem hi
 have l1:(pendingOf st).toList[i]? = some (pendingOf st)[i]:=by rw[Array.getElem?_toList];exact e1
 have l2:(pendingOf st).toList[i+1]? = some (pendingOf st)[i+1]:=by rw[Array.getElem?_toList];exact e2
 refine Aa fun nY=>?_
 obtain⟨h1,h2,h3,h4,h5,h6,h7⟩:=h.cont.two l1 l2
 refine nY ?_;clear nY
 refine Sw hc h.kind h.perm h.fail e1 e2 h1 h2 h3 (by rw[h.perm.size_eq];exact(Af h4 hl)) h6 h7 fun arr g ha iM o=>hq _ ⟨rfl,ha,rfl,?_⟩ ?_ fun i q=>o i (.inr (Af h4 q))
 ·have:=h.cont.merge (pw:=(pendingOf st)[i].2.2) iM o l1 l2
  show Ev rk arr (((pendingOf st).setIfInBounds i _).eraseIdxIfInBounds (i+1)).toList 0 lo
  rw[Array.toList_eraseIdxIfInBounds,Array.toList_setIfInBounds]
  exact this
 ·show (((pendingOf st).setIfInBounds i _).eraseIdxIfInBounds (i+1)).size+1=_
  rw[<-Array.length_toList,Array.toList_eraseIdxIfInBounds,List.length_eraseIdx,Array.toList_setIfInBounds,List.length_set,Array.length_toList,if_pos hi]
  exact Nat.sub_add_cancel (Nat.zero_lt_of_lt hi)
noncomputable def srM(pw:Nat)(_:Option Unit×Unit):StateT SortSt Sem (ForInStep (Option Unit×Unit)):=do
 let g <-get
 match (if (pendingOf g).size>1 then(pendingOf g)[(pendingOf g).size-2]? else none)with
 | some (_,_,older)=>if older<=pw then pure (.done (none,()))else do
    let r <-mergeAt' ((pendingOf g).size-2)
    if (!r)=true then pure (.done (some (),()))else pure (.yield (none,()))
 | _=>pure (.done (none,()))
noncomputable def srP(size lo n:Nat):StateT SortSt Sem (ForInStep (Option Unit×Nat)):=do
 let g <-get
 match (pendingOf g).back? with
 | some (s1,n1,_)=>do
   let r <-forIn [0:size] ((none,()):Option Unit×Unit) fun _ c=>srM (power' size (2*s1+n1) (2*s1+n1+n1+n) size) c
   My r.1 (fun x=>pure (.done (some x,lo))) fun _=>do
    modify fun s=>setPending s ((pendingOf s).modify ((pendingOf s).size-1) fun x=>(x.1,x.2.1,power' size (2*s1+n1) (2*s1+n1+n1+n) size))
    modify fun s=>setPending s ((pendingOf s).push (lo,n,0))
    pure (.yield (none,lo+n))
 | _=>do
   modify fun s=>setPending s ((pendingOf s).push (lo,n,0))
   pure (.yield (none,lo+n))
noncomputable def srB(size:Nat)(c:Option Unit×Nat):StateT SortSt Sem (ForInStep (Option Unit×Nat)):=
 if c.2≥size then pure (.done (none,c.2))else do
  let x <-countRun' c.2 (size-c.2)
  match x with
  | some found=>if found<minRun' size size 0 then(do
     rule "list.sort.binary-insertion"
     let r <-binarySort' c.2 (min (size-c.2) (minRun' size size 0)) found
     if (!r)=true then pure (.done (some (),c.2))else srP size c.2 (min (size-c.2) (minRun' size size 0)))else srP size c.2 found
  | _=>pure (.done (some (),c.2))
noncomputable def srI(p:Array (Nat×Nat×Nat)):Nat:=if (if p.size-2>0 then p[p.size-2-1]?.map (·.2.1)else none).any (· < (p[p.size-2+1]?.elim 0 (·.2.1)))then p.size-2-1 else p.size-2
noncomputable def srE(_:Option Unit×Unit):StateT SortSt Sem (ForInStep (Option Unit×Unit)):=do
 let g <-get
 if (pendingOf g).size<=1 then pure (.done (none,()))else do
  let r <-mergeAt' (srI (pendingOf g))
  if (!r)=true then pure (.done (some (),()))else pure (.yield (none,()))
theorem Sy:sortRuns'=(do
 let g <-get
 let r <-forIn [0:(arrOf g).size] ((none,0):Option Unit×Nat) fun _ c=>srB (arrOf g).size c
 My r.1 (fun x=>pure x) fun _=>do
  let q <-forIn [0:(arrOf g).size] ((none,()):Option Unit×Unit) fun _ c=>srE c
  My q.1 (fun x=>pure x) fun _=>pure ()):=rfl
theorem Adh(hc:Rs prog w A s κ af rk){lo n pw size:Nat}(h:T0 κ af rk lo st)(hl:lo<=af.size)(hi:Dm rk (arrOf st) lo (lo+n)){Q:Option Unit×Unit->SortSt->Prop}(hq:∀st',T0 κ af rk lo st'->Dm rk (arrOf st') lo (lo+n)->Q (none,()) st') :
 Rows.wpS (model prog w) A E s (forIn [0:size] ((none,()):Option Unit×Unit) fun _ c=>srM pw c) Q st:=by
 refine wpS_mono (wpS_forRange (I:=fun _ c st'=>c.1=none/\T0 κ af rk lo st'/\Dm rk (arrOf st') lo (lo+n)) (Q:=fun c st'=>c.1=none/\T0 κ af rk lo st'/\Dm rk (arrOf st') lo (lo+n)) ?_ (fun _ _ x=>x) ⟨rfl,h,hi⟩) ?_
 ·rintro _ c st' _ _ ⟨_,q,i1⟩
  unfold srM
  refine wpS_bind (wpS_get ?_)
  split
  ·rename_i x y older e
   split
   ·exact wpS_pure ⟨rfl,q,i1⟩
   ·have hi:(pendingOf st').size>1:=Decidable.byContradiction fun n=>by rw[if_neg n]at e;cases e
    exact wpS_bind (Mn hc q hl (Nat.le_of_eq (Nat.sub_add_cancel hi)) fun st'' q' _ o=>wpS_pure ⟨rfl,q',i1.same fun i h _=>o i h⟩)
  ·exact wpS_pure ⟨rfl,q,i1⟩
 ·rintro⟨c,d⟩ st' ⟨rfl,q,i1⟩
  exact hq st' q i1
theorem V9(hc:Rs prog w A s κ af rk){lo n size:Nat}(h:T0 κ af rk lo st)(hn:1<=n)(hl:lo+n<=af.size)(hi:Dm rk (arrOf st) lo (lo+n)){Q:ForInStep (Option Unit×Nat)->SortSt->Prop}(hq:∀st',T0 κ af rk (lo+n) st'->Q (.yield (none,lo+n)) st') :
 Rows.wpS (model prog w) A E s (srP size lo n) Q st:=by
 have psh:∀ {st':SortSt},T0 κ af rk lo st'->Dm rk (arrOf st') lo (lo+n)->T0 κ af rk (lo+n) (setPending st' ((pendingOf st').push (lo,n,0))):=fun q i=>⟨q.kind,q.perm,q.fail,by
  show Ev rk _ ((pendingOf _).push _).toList _ _
  rw[Array.toList_push];exact q.cont.snoc hn i⟩
 unfold srP
 refine wpS_bind (wpS_get ?_)
 split
 ·refine wpS_bind (Adh hc h (Nat.le_of_add_right_le hl) hi fun st' q i1=>?_)
  refine wpS_bind (wpS_modify (wpS_bind (wpS_modify (wpS_pure (hq _ (psh ⟨q.kind,q.perm,q.fail,?_⟩ i1))))))
  show Ev rk (arrOf st') ((pendingOf st').modify _ _).toList 0 lo
  rw[Array.toList_modify]
  refine Ev.mod ?_ q.cont
  exact fun _=>⟨rfl,rfl⟩
 ·exact wpS_bind (wpS_modify (wpS_pure (hq _ (psh h hi))))
theorem Uo:∀(f n r:Nat),1<=n->1<=minRun' f n r:=by
 intro f
 induction f with
 | zero=>intro n r h;exact Af h (Nat.le_add_right _ _)
 | succ f ih=>
   intro n r h
   rw[minRun'_succ]
   split
   ·exact Af h (Nat.le_add_right _ _)
   ·exact ih _ _ (by omega)
theorem Aah(hc:Rs prog w A s κ af rk)(h:T0 κ af rk 0 st){Q:Unit->SortSt->Prop}(hq:∀st',(arrOf st').Perm af->Dm rk (arrOf st') 0 af.size->failedOf st'=none->Q () st'):Rows.wpS (model prog w) A E s sortRuns' Q st:=by
 rw[Sy]
 refine wpS_bind (wpS_get ?_)
 rw[h.perm.size_eq]
 refine wpS_bind (wpS_mono (wpS_forRange (I:=fun t c st'=>c.1=none/\T0 κ af rk c.2 st'/\c.2<=af.size/\t<=c.2) (Q:=fun c st'=>c.1=none/\T0 κ af rk c.2 st'/\c.2=af.size) ?_ ?_ ⟨rfl,h,Nat.zero_le _,Nat.le_refl _⟩) ?_)
 ·rintro t ⟨c,lo⟩ st' _ _ ⟨rfl,q,hl,ht⟩
  unfold srB
  dsimp only at q hl ht ⊢
  split
  ·exact wpS_pure ⟨rfl,q,by show lo=_;omega⟩
  ·rename_i q1
   refine wpS_bind (Xh hc q.kind q.perm (Nat.sub_pos_of_lt (Nat.lt_of_not_le q1)) (Nat.le_of_eq (Nat.add_sub_cancel' (Nat.le_of_lt (Nat.lt_of_not_le q1)))) fun n arr h1 h2 ha iN o=>?_)
   have q':T0 κ af rk lo (setArr st' arr):=⟨q.kind,ha,q.fail,q.cont.same fun i _ h=>o i (.inl h)⟩
   dsimp only
   split
   ·refine wpS_bind (wpS_lift (wpAny_rule ⟨rfl,?_⟩))
    have hm:=Uo af.size af.size 0 (Af h1 (Af h2 (Nat.sub_le _ _)))
    refine wpS_bind (Adg (st:=setArr st' arr) hc q'.kind ha h1 (by omega) (Ahx h1 h2) iN fun arr' ha' iN' o'=>?_)
    refine V9 (st:=setArr st' arr') hc ⟨q.kind,ha',q.fail,q'.cont.same fun i _ h=>o' i (.inl h)⟩ (Nat.le_min.mpr ⟨Af h1 h2,hm⟩) (Ahx h1 h2) iN' fun st'' q''=>?_
    exact⟨rfl,q'',by show _<=_;omega,by show _<=lo+_;exact(Nat.add_le_add ht (Nat.le_min.mpr ⟨Af h1 h2,hm⟩))⟩
   ·refine V9 hc q' h1 (Af (Nat.add_le_add_left h2 _) (Nat.le_of_eq (Nat.add_sub_cancel' (Nat.le_of_lt (Nat.lt_of_sub_pos (Af h1 h2)))))) iN fun st'' q''=>?_
    exact⟨rfl,q'',by show _<=_;omega,by show _<=lo+_;exact(Nat.add_le_add ht h1)⟩
 ·rintro⟨c,lo⟩ st' ⟨h0,q,hl,ht⟩
  exact⟨h0,q,by dsimp only at hl ht ⊢;exact(Nat.le_antisymm hl (Af (Nat.le_max_right 0 _) ht))⟩
 ·rintro⟨c,lo⟩ st' ⟨rfl,q,hl⟩
  dsimp only at hl q
  subst hl
  refine wpS_bind (wpS_mono (wpS_forRange (I:=fun t c st'=>c.1=none/\T0 κ af rk af.size st'/\(pendingOf st').size+t<=af.size) (Q:=fun c st'=>c.1=none/\T0 κ af rk af.size st'/\(pendingOf st').size<=1) ?_ ?_ ⟨rfl,q,?_⟩) ?_)
  ·rintro t c st'' _ _ ⟨_,q,hs⟩
   unfold srE
   refine wpS_bind (wpS_get ?_)
   split
   ·rename_i q1
    exact wpS_pure ⟨rfl,q,q1⟩
   ·rename_i q1
    refine wpS_bind (Mn hc q (Nat.le_refl _) ?_ fun st'' q' e _=>wpS_pure ⟨rfl,q',(Akw hs e)⟩)
    have:∀(c:Prop) [Decidable c] (n:Nat),1<n->(if c then n-2-1 else n-2)+1<n:=fun c _ n h=>by split<;>omega
    exact this _ _ (Nat.lt_of_not_le q1)
  ·rintro c st'' ⟨h0,q,hs⟩
   exact⟨h0,q,(Nat.le_succ_of_le (Nat.le_of_add_le_add_right (Af hs (Af (Nat.le_max_right 0 _) (Nat.le_of_eq (Nat.zero_add _).symm)))))⟩
  ·have:=q.cont.len
   rw[Array.length_toList]at this
   show (pendingOf st').size+0<=af.size
   exact Af (Nat.le_of_eq (Nat.zero_add _).symm) this
  ·rintro⟨c,d⟩ st'' ⟨rfl,q,hs⟩
   exact wpS_pure (hq _ q.perm (q.cont.whole (by rw[Array.length_toList];exact hs)) q.fail)
end
end Mine.Internal
namespace Mine.Internal
open PySem PySem.W PyProof.Rows
variable {W:Wd} {A:Around} {aa:HB} {env:Env} {c:Cx} {names:List Str} {H:AH} {ρ:Ak} {s:Shared} {E:Value->Shared->Prop} {n:Nat} {Q:Ag} {Er:EP}
noncomputable def Aai(_:Wd):Ty->Value
 | .int=> .type "int" | .bool=> .type "bool" | .list=> .type "list" | .tuple=> .type "tuple"
theorem Qt(R:Av W aa env names H ρ s){t:Ty}{v:V}{u:Value}(hp:Fj t=true)(hv:VR W v u){r:Bool}(e:Jz t v H=some r)(q:Q (.bool r) H) :
 wpAny W.M A (call (.builtin "isinstance") [u,Aai W t]) (Bi W aa env names ρ Q) E s:=by
 induction hv with
 | none=>cases t<;>first|(cases hp;done)|(obtain rfl:=Option.some.inj e)
         ·exact IsiPair.NoneType_int (Bi.mk (.bool _) (R.toks _) q)
         ·exact IsiPair.NoneType_bool (Bi.mk (.bool _) (R.toks _) q)
         ·exact IsiPair.NoneType_list (Bi.mk (.bool _) (R.toks _) q)
         ·exact IsiPair.NoneType_tuple (Bi.mk (.bool _) (R.toks _) q)
 | bool b=>cases t<;>first|(cases hp;done)|(obtain rfl:=Option.some.inj e)
           ·exact IsiPair.bool_int (Bi.mk (.bool _) R q)
           ·exact IsiPair.bool_bool (Bi.mk (.bool _) R q)
           ·exact IsiPair.bool_list (Bi.mk (.bool _) (R.toks _) q)
           ·exact IsiPair.bool_tuple (Bi.mk (.bool _) (R.toks _) q)
 | int i t'=>cases t<;>first|(cases hp;done)|(obtain rfl:=Option.some.inj e)
             ·exact IsiPair.int_int (Bi.mk (.bool _) R q)
             ·exact IsiPair.int_bool (Bi.mk (.bool _) (R.toks _) q)
             ·exact IsiPair.int_list (Bi.mk (.bool _) (R.toks _) q)
             ·exact IsiPair.int_tuple (Bi.mk (.bool _) (R.toks _) q)
 | script=>exact @nn _ _ _ e
 | ref a=>
   cases ha:H a with
   | none=>rw[show Jz t (.ref a) H=none from(by show (match H a with|some o=>I5 o t|none=>none)=_;rw[ha])]at e;cases e
   | some o=>
     replace e:I5 o t=some r:=by rw[<-e];show _=(match H a with|some o=>I5 o t|none=>none);rw[ha]
     cases o with
     | list xs=>
       obtain⟨l1,h1,r1,z1⟩:=R.isList ha
       cases t<;>first|(cases hp;done)|(obtain rfl:=Option.some.inj e)
       ·exact IsiPair.isList_int h1 (fun _ _ e=>e) (Bi.mk (.bool _) (R.toks _) q)
       ·exact IsiPair.isList_bool h1 (fun _ _ e=>e) (Bi.mk (.bool _) (R.toks _) q)
       ·exact IsiPair.isList_list h1 (fun _ _ e=>e) (Bi.mk (.bool _) R q)
       ·exact IsiPair.isList_tuple h1 (fun _ _ e=>e) (Bi.mk (.bool _) (R.toks _) q)
     | tuple xs=>
       obtain⟨l1,h1,r1,z1⟩:=R.isTup ha
       cases t<;>first|(cases hp;done)|(obtain rfl:=Option.some.inj e)
       ·exact IsiPair.isTuple_int h1 (fun _ _ e=>e) (Bi.mk (.bool _) (R.toks _) q)
       ·exact IsiPair.isTuple_bool h1 (fun _ _ e=>e) (Bi.mk (.bool _) (R.toks _) q)
       ·exact IsiPair.isTuple_list h1 (fun _ _ e=>e) (Bi.mk (.bool _) (R.toks _) q)
       ·exact IsiPair.isTuple_tuple h1 (fun _ _ e=>e) (Bi.mk (.bool _) R q)
     | _=>cases t<;>first|(cases hp;done)|exact @nn _ _ _ e
noncomputable def Ae9:BI->Value
 | .len=> .builtin "len" | .list=> .type "list" | .sorted=> .builtin "sorted" | .max=> .builtin "max" | .min=> .builtin "min"
 | .all=> .builtin "all" | _=> .none
noncomputable def N6:BI->Bool
 | .len | .list | .sorted | .max | .min | .all=>true
 | _=>false
theorem Aaj{xs:List V}{items:List Value}{bs:List Bool}(h:C5 W xs items)(e:bools? xs=some bs):items=bs.map Value.bool:=by
 induction h generalizing bs with
 | nil=>cases e;rfl
 | cons h _ ih=>
   induction h with
   | bool b=>
     obtain⟨l,h1,h2⟩:=Option.map_eq_some_iff.mp (show (bools? _).map _=some bs from e)
     subst h2
     rw[ih h1];rfl
   | _=>cases e
theorem Xi(bs:List Bool):(List.range bs.length).all (fun i=>bs.getD i false)=bs.all id:=by
 induction bs with
 | nil=>rfl
 | cons b r ih=>rw[List.length_cons,List.range_succ_eq_map,List.all_cons,List.all_map,List.all_cons];congr 1
theorem Aak{es:List (Int×V)}{kvs:List (Int×Value)}{vs:List Value}(h:Tz W es kvs):vs.length=kvs.length->
 (∀(j:Nat) (v:Value),vs[j]? = some v->∃k x,kvs[j]? = some (k,x)/\(intKind W.prog W.w).is k v=true)->IntsAre vs (es.map (·.1)):=by
 induction h generalizing vs with
 | nil=>
   intro hl _
   refine Aa fun nY=>?_
   cases vs with
   | nil=>(refine nY ?_;clear nY;exact .nil)
   | cons v vs=>cases hl
 | @cons k _ _ _ _ h t ih=>
   intro hl hv
   refine Aa fun nY=>?_
   cases vs with
   | nil=>cases hl
   | cons v vs=>
     obtain⟨k',x,e1,e2⟩:=hv 0 v rfl
     cases e1
     obtain⟨t',rfl⟩:=Value.isInt_shape (show Value.isInt k v=true from e2)
     refine nY ?_;clear nY
     exact .cons k t' (ih (Nat.succ.inj hl) fun j v hj=>hv (j+1) v hj)
theorem Up{T:String}{r d:Addr}{n:Nat}{P:Nat->Value->Prop}{OK:Heap->Prop}{ks:List Int}{Q:Value->Shared->Prop}(K:KdlSrc W.prog W.w T r d n P OK)(hh:A.handled=none)(hok:OK s.heap)(hn:n<=sizeLine)(h64:n<64)
 (hI:∀acc:Array Value,ItemsOf P acc n->∃ks',IntsAre acc.toList ks'/\ks'.Perm ks)
 (h:∀(D:Addr) (h':Heap) (tk ee:Nat) (vs:List Value),s.heap.get? D=none->(∀b,s.heap.get? b≠none->b<D)->(∀b o,s.heap.get? b=some o->h'.get? b=some o)->h'.get? D=some {cls:= .type "list",data:= .seq vs.toArray ee} ->
   IntsAre vs (Bu ks)->Q (.ref D) {s with heap:=h',toks:=tk}) :
 wpAny W.M A (call (.builtin "sorted") [.ref r]) Q E s:=by
 refine Calls.call_function_entry kind_sorted plain_sorted entry_sorted (args_sorted1 _) ?_
 unfold Builtin.«sorted»
 refine wpAny_bind (m:=checkCount "sorted" 1 1 _) (wpAny_pure ?_)
 refine wpAny_bind (kdu_collect (A:=A.in1) K hh hok hn fun h' tk acc hk hacc=>?_)
 have hl:acc.toList.length=n:=by rw[Array.length_toList];exact hacc.1
 refine wpAny_bind (wpAny_newList ?_ (by rw[hl];exact hn))
 refine Aa fun nY=>?_
 obtain⟨ks',hI,hpk⟩:=hI acc hacc
 have hD:s.heap.get? h'.objs.size=none:=Qr hk
 have hlt:∀b,s.heap.get? b≠none->b<h'.objs.size:=fun b hb=>by
  cases q:s.heap.get? b with
  | none=>exact absurd q hb
  | some o=>exact Heap.lt_size (hk b o q)
 have ho:(h'.push (seqObj "list" acc.toList.toArray 0)).get? h'.objs.size=some (seqObj "list" acc.toList.toArray 0):=Heap.get?_push_size _ rfl
 refine nY ?_;clear nY
 refine wpAny_bind (wpAny_holding (wpAny_call_entry slot_list_sort ⟨_,ho,rfl⟩ entry_list_sort (list_sort_tree (n:=0) ho hI (by rw[hl];exact h64) fun out ns' a1 a2 a3=>⟨_,rfl,?_⟩) (args_list_sort _)))
 have en:ns'=Bu ks:=Jr ((a2.trans hpk).trans (Ca _).symm) a3 (Dl _)
 subst en
 obtain⟨ee,he⟩:=sortedHeap_at (out:=out) ho
 refine wpAny_pure ⟨_,rfl,h h'.objs.size _ tk ee out.toList hD hlt (fun b o e=>?_) he a1⟩
 have hb:=Heap.lt_size (hk b o e)
 rw[sortedHeap_old (Nat.ne_of_lt hb) (by rw[Heap.size_push];exact Nat.lt_succ_of_lt hb)]
 exact Heap.get?_push_of_some _ (hk b o e)
theorem Sz{d:Addr}{es:List (Int×V)}{kvs:List (Int×Value)}{ep:Nat}{Q:Value->Shared->Prop}(lo:(d==sysModules)=false)(hh:A.handled=none)(hat:s.heap.DictAt (intKind W.prog W.w) d kvs ep)
 (hn:kvs.length<=sizeLine) (r1:Tz W es kvs) (h64:kvs.length<64)
 (h:∀(D:Addr) (h':Heap) (tk ee:Nat) (vs:List Value),s.heap.get? D=none->(∀b,s.heap.get? b≠none->b<D)->(∀b o,s.heap.get? b=some o->h'.get? b=some o)->h'.get? D=some {cls:= .type "list",data:= .seq vs.toArray ee} ->
   IntsAre vs (Bu (es.map (·.1)))->Q (.ref D) {s with heap:=h',toks:=tk}) :
 wpAny W.M A (call (.builtin "sorted") [.ref d]) Q E s:=
 Up (kdl_dict (knd:=intKind W.prog W.w) (kvs:=kvs) (ep:=ep) lo) hh hat hn h64 (fun acc hacc=>⟨_,Aak r1 (by rw[Array.length_toList];exact hacc.1) fun j v hj=>hacc.2 j v (by rw[<-Array.getElem?_toList];exact hj),.rfl⟩) h
theorem Alc{v v':V}{us:List Value}(h:C5 W [v,v'] us):(Jy fun u u'=>Fe (us = [u,u']) (VR W v u) (VR W v' u')):=by
 cases h with|cons h t=>cases t with|cons h' t=>cases t;exact⟨_,_,rfl,h,h'⟩
/-! sorted of pairs:in their order -/
theorem Aal{α β:Type}{f:α->β}{l m:List β}(h:l.Perm m):∀ {ks:List α},m=ks.map f->∃ks':List α,l=ks'.map f/\ks'.Perm ks:=by
 induction h with
 | nil=>intro ks e;exact⟨ks,e,.refl _⟩
 | cons x h ih=>
   intro ks e
   cases ks with
   | nil=>cases e
   | cons k ks=>
     injection e with e1 e2
     obtain⟨ks',e3,p⟩:=ih e2
     exact⟨k::ks',by rw[List.map_cons,<-e3,e1],p.cons _⟩
 | swap x y l=>
   intro ks e
   cases ks with
   | nil=>cases e
   | cons k ks=>
     injection e with e1 e2
     cases ks with
     | nil=>cases e2
     | cons k' ks=>
       injection e2 with e2 e3
       exact⟨k'::k::ks,by rw[List.map_cons,List.map_cons,<-e1,<-e2,<-e3],.swap _ _ _⟩
 | trans _ _ ih1 ih2=>
   intro ks e
   obtain⟨ys,h1,h2⟩:=ih2 e
   obtain⟨zs,h3,h4⟩:=ih1 h1
   exact⟨zs,h3,h4.trans h2⟩
noncomputable def Aam(h:Heap)(a k:Nat):Prop:=∃o t u n,(Jy fun(i j:Nat)=>Vh (h.get? a=some o) (o.cls = .type "tuple") (o.data = .seq #[.int i t,.int j u] n) (j<100) (k=100*i+j))
theorem Ah7{x y k k':Nat}{Q:Bool->Shared->Prop}(hx:Aam s.heap x k)(hy:Aam s.heap y k')(hq:Q (decide (k<k')) s):wpAny (model W.prog W.w) A (keyLt' (tuples' true) (.ref x) (.ref y)) Q E s:=by
 refine Aa fun nY=>?_
 obtain⟨o,t,u,n,i,j,h1,_,h3,h4,rfl⟩:=hx
 obtain⟨o',t',u',n',i',j',h1',_,h3',h4',rfl⟩:=hy
 refine nY ?_;clear nY
 refine kat_lt h1 h3 h1' h3' ?_
 refine kat_cons (wpAny_eqBool_int (kat_go (fun e=>kat_yes ?_) fun e=>kat_no (oneLt_int ?_)))
 ·have e:=eq_of_beq e
  refine kat_cons (wpAny_eqBool_int (kat_go (fun e'=>kat_yes (kat_nil ?_)) fun e'=>kat_no (kat_one _ _ (lt_int ?_))))
  ·have e':=eq_of_beq e'
   rw[decide_eq_false (Akx e e')]at hq
   exact hq
  ·have:decide (100*i+j<100*i'+j')=decide ((j:Int)<(j':Int)):=decide_eq_decide.mpr (Aky e)
   rw[this]at hq
   exact hq
 ·have e:¬(i:Int)=i':=fun q=>by rw[q,beq_self_eq_true]at e;cases e
  have:decide (100*i+j<100*i'+j')=decide ((i:Int)<(i':Int)):=decide_eq_decide.mpr (Akz h4 h4' e)
  rw[this]at hq
  exact hq
theorem Wa{h:Heap}{r:Nat->Nat}:∀ {ks:List Nat},(∀a∈ks,Aam h a (r a))->∃fs,KatTups h (ks.map Value.ref) fs/\fs.length=ks.length/\∀f∈fs,∃i t,f = .int i t
 | [],_=>⟨[],.nil,rfl,fun _ h=>absurd h List.not_mem_nil⟩
 | v::vs,hv=>by
   obtain⟨fs,h1,h2,h3⟩:=Wa (ks:=vs) fun v hm=>hv v (.tail _ hm)
   obtain⟨o,t,u,n,i,j,q1,q2,q3,_⟩:=hv v (.head _)
   refine⟨.int i t::fs,.cons q1 q2 q3 rfl h1,by simp[h2],fun f hf=>?_⟩
   rcases List.mem_cons.mp hf with rfl|hf
   ·exact⟨_,_,rfl⟩
   ·exact h3 f hf
noncomputable def Ys(r:Nat->Nat)(v:Value):Nat:=match v with | .ref a=>r a|_=>0
theorem Aan{α:Type}{R:α->α->Prop}:∀ {l:List α},l.length<2->l.Pairwise R
 | [],_=> .nil
 | [_],_=>List.pairwise_singleton _ _
 | _::_::_,h=>absurd h (Nat.not_lt.mpr (Nat.le_add_left _ _))
theorem Wb{ks:List Nat}{z:Keyed}(h:z∈((ks.map Value.ref).toArray.zip (ks.map Value.ref).toArray).toList):∃a∈ks,z=(.ref a,.ref a):=by
 rw[Array.toList_zip]at h
 obtain⟨h1,h2⟩:=mem_zip_self h
 obtain⟨a,ha,e⟩:=List.mem_map.mp h2
 exact⟨a,ha,Prod.ext e.symm (h1.symm.trans e.symm)⟩
theorem O9{a:Addr}{ks:List Nat}{r:Nat->Nat}{vs:List Value}{n:Nat}{P:PySem.Fin->Shared->Prop}(ev:vs=ks.map Value.ref)(nd:(ks.map r).Nodup)(ho:s.heap.get? a=some (seqObj "list" vs.toArray n))(hz:vs.length<=Bp)(hp:∀v∈ks,Aam (((s.heap.update a (Obj.mapSeq fun _=> #[])).push (seqObj "tuple" vs.toArray 0)).push (seqObj "list" #[] 0)) v (r v))
 (h:∀out:Array Value,out.toList.Perm vs->out.toList.Pairwise (fun x y=>Ys r x<Ys r y)->P (.done (.ret .none)) {s with heap:=sortedHeap s.heap a vs out}):wpAny (model W.prog W.w) A (Builtin.«list.sort» ⟨[.ref a],[]⟩) P E s:=by
 rw[list_sort_plain]
 have hl:=Af hz Bw
 have ha:a<s.heap.objs.size:=Heap.lt_size ho
 have eo:((vs.toArray.zip vs.toArray).map (·.2)).toList=vs:=by
  rw[Array.toList_map,Array.toList_zip]
  exact List.map_snd_zip (Nat.le_refl _)
 refine wpAny_bind (listItems_at ho rfl ?_)
 refine wpAny_bind (listUpdate_at ho rfl ?_ (by rw[List.size_toArray];exact hl) (Nat.zero_le _))
 obtain⟨e1,ho1⟩:∃e1,(s.heap.update a (Obj.mapSeq fun _=> #[])).get? a=some (seqObj "list" #[] e1):=⟨_,get?_update_seq ho (fun _=> #[])⟩
 refine wpAny_bind (seqEpoch_at ho1 rfl ?_)
 refine wpAny_bind (wpAny_newTuple ?_ hl)
 refine wpAny_bind (wpAny_newList ?_ (Nat.zero_le _))
 refine wpAny_holding ?_
 have ho6:(((s.heap.update a (Obj.mapSeq fun _=> #[])).push (seqObj "tuple" vs.toArray 0)).push (seqObj "list" #[] 0)).get? a=some (seqObj "list" #[] e1):=by
  rw[Heap.get?_push_ne _ _ _ (by rw[size_push',Heap.size_update];exact Nat.ne_of_lt (Nat.lt_succ_of_lt ha)),Heap.get?_push_ne _ _ _ (by rw[Heap.size_update];exact Nat.ne_of_lt ha)]
  exact ho1
 show wpAny (model W.prog W.w) A _ P E {s with heap:=((s.heap.update a (Obj.mapSeq fun _=> #[])).push (seqObj "tuple" vs.toArray 0)).push (seqObj "list" #[] 0)}
 dsimp only
 have fin:∀st':SortSt,((arrOf st').map (·.2)).toList.Perm vs->((arrOf st').map (·.2)).toList.Pairwise (fun x y=>Ys r x<Ys r y)->failedOf st'=none->wpAny (model W.prog W.w) A (do
  let touched:=(<-seqEpoch a) != e1
  Builtin.List.listUpdate (.ref a) fun _=>(arrOf st').map (·.2)
  if let some e:=failedOf st' then rule "list.sort.comparison-raised";throw e
  if touched then rule "list.sort.modified";raiseError "ValueError" "list modified during sort"
  ret .none) P E {s with heap:=((s.heap.update a (Obj.mapSeq fun _=> #[])).push (seqObj "tuple" vs.toArray 0)).push (seqObj "list" #[] 0)}:=fun st' hpm hpw hf=>by
  refine wpAny_bind (seqEpoch_at ho6 rfl ?_)
  refine wpAny_bind (listUpdate_at ho6 rfl ?_ (Nat.zero_le _) (by rw[<-Array.length_toList,hpm.length_eq];exact Nat.le_succ_of_le hl))
  rw[hf]
  simp only[bne_self_eq_false,Bool.false_eq_true,if_false]
  exact wpAny_pure (h _ hpm hpw)
 by_cases h2:vs.length<2
 ·have h2':vs.toArray.size<2:=by rw[List.size_toArray];exact h2
  rw[if_pos h2',if_pos h2']
  refine wpAny_bind (wpAny_pure ?_)
  rw[StateT.run_pure]
  exact wpAny_bind (wpAny_pure (fin _ (by show ((vs.toArray.zip vs.toArray).map (·.2)).toList.Perm vs;rw[eo]) (by show ((vs.toArray.zip vs.toArray).map (·.2)).toList.Pairwise _;rw[eo];exact Aan h2) rfl))
 ·have h2':¬vs.toArray.size<2:=by rw[List.size_toArray];exact h2
  rw[if_neg h2',if_neg h2']
  subst ev
  obtain⟨fs,t1,t2,t3⟩:=Wa hp
  refine wpAny_bind (kat_kind t1 (by rw[Bk]at h2;exact(Nat.lt_of_lt_of_le (by decide) (Af (Nat.le_of_not_lt h2) (Nat.le_of_eq t2.symm)))) (T:= .type "int") (fun v hv=>?_) rfl ?_)
  ·obtain⟨i,t,rfl⟩:=t3 v hv
   exact Looks.of_pure rfl
  have hc:Rs W.prog W.w A {s with heap:=((s.heap.update a (Obj.mapSeq fun _=> #[])).push (seqObj "tuple" (ks.map Value.ref).toArray 0)).push (seqObj "list" #[] 0)} (tuples' true) ((ks.map Value.ref).toArray.zip (ks.map Value.ref).toArray) (fun x=>Ys r x.2):=⟨fun x hx y hy Q E hq=>by
   obtain⟨i,hi,rfl⟩:=Wb hx
   obtain⟨j,hj,rfl⟩:=Wb hy
   exact Ah7 (hp i hi) (hp j hj) hq,by
   have:((ks.map Value.ref).toArray.zip (ks.map Value.ref).toArray).toList.map (fun x=>Ys r x.2)=ks.map r:=by
    show _root_.List.map (Ys r∘fun x:Keyed=>x.2) _=_
    have eo':=eo
    rw[Array.toList_map]at eo'
    rw[<-List.map_map,eo',List.map_map]
    rfl
   rw[this]
   exact nd⟩
  refine wpAny_bind (wpAny_mono (Aah (E:=E) (Q:=fun _ st'=>(arrOf st').Perm ((ks.map Value.ref).toArray.zip (ks.map Value.ref).toArray)/\Dm (fun x=>Ys r x.2) (arrOf st') 0 ((ks.map Value.ref).toArray.zip (ks.map Value.ref).toArray).size/\failedOf st'=none) (st:=SortSt.mk' (tuples' true) ((ks.map Value.ref).toArray.zip (ks.map Value.ref).toArray) #[] 7 none) hc ⟨rfl,.refl _,rfl,rfl⟩ fun st' p i f=>⟨p,i,f⟩) ?_ fun _ _ e=>e)
  rintro⟨⟨⟩,st'⟩ s' ⟨rfl,hpm,hin,hf⟩
  refine fin st' ?_ ?_ hf
  ·have:=(Array.perm_iff_toList_perm.mp hpm).map (·.2)
   rw[<-Array.toList_map,<-Array.toList_map,eo]at this
   exact this
  ·rw[<-hpm.size_eq]at hin
   have:=hin.srt (Nat.le_refl _)
   rw[Array.extract_size]at this
   rw[Array.toList_map,List.pairwise_map]
   exact this
theorem Uq{l:Addr}{ks:List Nat}{r:Nat->Nat}{vs:List Value}{L:Addr}{m:Str->Option Value}{aj:Heap}{news:List (Addr×Obj)}{Q:Value->Shared->Prop}(F:Fr aj L s.heap m)(N:News aj L s.heap news)(hl:s.heap.IsList l vs.toArray)(hz:vs.length<=Bp)
 (ev:vs=ks.map Value.ref) (nd:(ks.map r).Nodup) (hp:∀v∈ks,Aam s.heap v (r v))
 (h:∀(h':Heap) (vs':List Value) (e:Nat),Fr aj L h' m->News aj L h' ((s.heap.objs.size+1,seqObj "list" vs'.toArray e)::news)->vs'.Perm vs->vs'.Pairwise (fun x y=>Ys r x<Ys r y)->Q (.ref (s.heap.objs.size+1)) {s with heap:=h'}) :
 wpAny (model W.prog W.w) A (call (.builtin "sorted") [.ref l]) Q E s:=by
 have hln:=Af hz Bw
 refine Calls.call_function_entry kind_sorted plain_sorted entry_sorted (args_sorted1 _) ?_
 unfold Builtin.«sorted»
 refine wpAny_bind (m:=checkCount "sorted" 1 1 _) (wpAny_pure ?_)
 refine wpAny_bind (collect_list hl ?_ hln)
 refine wpAny_bind (wpAny_newList ?_ hln)
 have hsz:((s.heap.push (seqObj "list" #[] 0)).update s.heap.objs.size (Obj.mapSeq (· ++ vs.toArray))).objs.size=s.heap.objs.size+1:=by
  rw[Heap.size_update,size_push']
 have hoL:(((s.heap.push (seqObj "list" #[] 0)).update s.heap.objs.size (Obj.mapSeq (· ++ vs.toArray))).push (seqObj "list" vs.toArray 0)).get? (s.heap.objs.size+1)=some (seqObj "list" vs.toArray 0):=by
  rw[<-hsz];exact Heap.get?_push_size _ rfl
 have keep:∀b o,s.heap.get? b=some o->(((s.heap.push (seqObj "list" #[] 0)).update s.heap.objs.size (Obj.mapSeq (· ++ vs.toArray))).push (seqObj "list" vs.toArray 0)).get? b=some o:=fun b o q=>by
  have hlt:b<s.heap.objs.size:=Heap.lt_size q
  rw[Heap.get?_push_ne _ _ _ (by rw[hsz];exact Nat.ne_of_lt (Nat.lt_succ_of_lt hlt)),Heap.get?_update_ne _ _ _ _ (Nat.ne_of_lt hlt),Heap.get?_push_ne _ _ _ (Nat.ne_of_lt hlt)]
  exact q
 show wpAny _ _ _ _ _ {s with heap:=((s.heap.push (seqObj "list" #[] 0)).update s.heap.objs.size (Obj.mapSeq (· ++ vs.toArray))).push (seqObj "list" vs.toArray 0)}
 rw[hsz]
 generalize ((s.heap.push (seqObj "list" #[] 0)).update s.heap.objs.size (Obj.mapSeq (· ++ vs.toArray))).push (seqObj "list" vs.toArray 0)=H1 at *
 refine wpAny_bind (wpAny_holding (wpAny_call_entry slot_list_sort ⟨_,hoL,rfl⟩ entry_list_sort ?body (args_list_sort _)))
 case body=>
  refine O9 (s:={s with heap:=H1}) ev nd hoL hz (fun b hv=>?_) fun out hout hpw=>⟨_,rfl,?_⟩
  ·refine Aa fun nY=>?_
   obtain⟨o,t,u,k,i,j,q1,q2,q3,q4,q5⟩:=hp b hv
   have hb:=Heap.lt_size q1
   have hb1:=Heap.lt_size (keep b o q1)
   refine nY ?_;clear nY
   refine⟨o,t,u,k,i,j,?_,q2,q3,q4,q5⟩
   show (((H1.update (s.heap.objs.size+1) _).push _).push _).get? b=some o
   rw[Heap.get?_push_ne _ _ _ (by rw[size_push',Heap.size_update];exact Nat.ne_of_lt (Nat.lt_succ_of_lt hb1)),Heap.get?_push_ne _ _ _ (by rw[Heap.size_update];exact Nat.ne_of_lt hb1),Heap.get?_update_ne _ _ _ _ (Nat.ne_of_lt (Nat.lt_succ_of_lt hb))]
   exact keep b o q1
  ·obtain⟨ee,he⟩:=sortedHeap_at (out:=out) hoL
   have keep2:∀b o,s.heap.get? b=some o->(sortedHeap H1 (s.heap.objs.size+1) vs out).get? b=some o:=fun b o e=>by
    have hb:=Heap.lt_size e
    rw[sortedHeap_old (Nat.ne_of_lt (Nat.lt_succ_of_lt hb)) (Heap.lt_size (keep b o e))]
    exact keep b o e
   exact wpAny_pure ⟨_,rfl,h _ out.toList ee (F.kept keep2) (N.kept_cons F keep2 (Nat.le_succ _) he) hout hpw⟩
theorem Adi{ks:List Nat}:∀ {l:List Value},C5 W (ks.map V.ref) l->l=ks.map Value.ref:=by
 induction ks with
 | nil=>intro l h;cases h;rfl
 | cons k ks ih=>
   intro l h
   cases h with
   | cons h t=>cases h;rw[ih t];rfl
theorem Wc:∀ {ks:List Nat},C5 W (ks.map V.ref) (ks.map Value.ref)
 | []=> .nil
 | _::_=> .cons (.ref _) Wc
theorem S0(Y:Ap W env c aa)(R:Av W aa env names H ρ s){m:Str->Option Value}(F:Fr W.aj env.locals s.heap m){l:Addr}{l1:List Value}{xs:List V}(h1:s.heap.IsList l l1.toArray)(r1:C5 W xs l1)(z1:xs.length<=Bp)(q:Vl xs H Q) :
 wpAny W.M A (call (.builtin "sorted") [.ref l]) (Bi W aa env names ρ Q) E s:=by
 refine Aa fun nY=>?_
 obtain⟨ks,r,rfl,q1,q2,q3⟩:=q
 refine nY ?_;clear nY
 cases Adi r1
 refine Uq (W:=W) (r:=r) F Xc h1 (by rw[<-r1.length];exact z1) rfl q2 (fun a ha=>?_) fun h' vs' e F' N' hpm hpw=>?_
 ·refine Aa fun nY=>?_
  obtain⟨i,j,ht,hj,hr⟩:=q1 a ha
  obtain⟨l2,⟨o,ho,hc,nn,hdd⟩,r2,z2⟩:=R.isTup ht
  cases r2 with
  | cons ra rb=>
    cases rb with
    | cons rb rc=>
      cases rc;cases ra;cases rb
      refine nY ?_;clear nY
      exact⟨o,_,_,nn,i,j,ho,hc,hdd,hj,hr⟩
 ·refine Aa fun nY=>?_
  obtain⟨ks',rfl,hx1⟩:=Aal hpm rfl
  obtain⟨e',R'⟩:=Na (t:=s.toks) R Y F F' N' (Nat.le_succ _) (D2 Wc (by rw[Bk,hx1.length_eq];rw[Bk]at z1;exact z1))
  refine nY ?_;clear nY
  exact Bi.mk (.ref _) R' (q3 ks' hx1 ((List.pairwise_map (f:=Value.ref) (R:=fun x y=>Ys r x<Ys r y)).mp hpw) _ e')
theorem S1(Y:Ap W env c aa)(R:Av W aa env names H ρ s){m:Str->Option Value}(F:Fr W.aj env.locals s.heap m){l:Addr}{l1:List Value}{xs:List V}{ns:List Int}(h1:s.heap.IsList l l1.toArray)(r1:C5 W xs l1)(z1:xs.length<=Bp)(e2:ints? xs=some ns)(q:ns.length<64/\Au (.list ((Bu ns).map V.int)) H Q) :
 wpAny W.M A (call (.builtin "sorted") [.ref l]) (Bi W aa env names ρ Q) E s:=by
 have hI:=N0 r1 e2
 refine sorted_N F Xc h1 hI (by rw[<-r1.length,<-ints?_length e2];exact q.1) fun h' vs' ns' ee F' N' a1 a2 a3=>?_
 have en:ns'=Bu ns:=Jr (a2.trans (Ca ns).symm) a3 (Dl ns)
 subst en
 have hz:((Bu ns).map V.int).length<=Bp:=by
  rw[Bk,(Ca ns).length_eq,ints?_length e2];exact z1
 obtain⟨e,R'⟩:=Na (t:=s.toks) R Y F F' N' (Nat.le_succ _) (D2 (Gs a1) hz)
 exact Bi.mk (.ref _) R' (q.2 _ e)
theorem Ur(ok:Pu A c aa env n)(Y:Ap W env c aa)(R:Av W aa env names H ρ s){b:BI}{vs:List V}{us:List Value}(hd:N6 b=true)(hv:C5 W vs us)(q:Db b vs H Q) :
 wpAny W.M A (call (Ae9 b) us) (Bi W aa env names ρ Q) E s:=by
 refine Aa fun nY=>?_
 obtain⟨m,F⟩:=R.kitF Y
 have N:News W.aj env.locals s.heap _:=Xc
 have hh:=ok.handled
 have b63:=Sl
 cases b<;>first|(cases hd;done)|exact False.elim q|skip
 case len=>
  replace q:L1 vs H Q:=q
  refine nY ?_;clear nY
  apply Ml hv q;intro v u h q
  induction h with
  | script=>
    refine Aa fun nY=>?_
    obtain⟨l1,h1,r1,z1⟩:=R.script Y
    have r2:C5 W (W.sn.map V.int) l1:=Gs r1
    refine nY ?_;clear nY
    have hl:W.sn.length=l1.length:=by have:=r2.length;simpa using this
    have hs:((l1.toArray.size:Nat):Int)=W.sn.length:=by simp[hl]
    exact len_list h1 (by rw[hs];(first|lia|omega)) (by rw[hs];exact Bi.mk (.int _ _) (R.toks _) q)
  | ref a=>
    dsimp only at q
    refine Aa fun nY=>?_
    split at q
    ·rename_i xs e
     obtain⟨l1,h1,r1,z1⟩:=R.isList e
     have hs:((l1.toArray.size:Nat):Int)=xs.length:=by simp[r1.length]
     refine nY ?_;clear nY
     exact len_list h1 (by rw[hs];(first|lia|omega)) (by rw[hs];exact Bi.mk (.int _ _) (R.toks _) q)
    ·rename_i xs e
     obtain⟨l1,h1,r1,z1⟩:=R.isTup e
     have hs:((l1.toArray.size:Nat):Int)=xs.length:=by simp[r1.length]
     refine nY ?_;clear nY
     exact PyProof.Rows.len_tuple h1 (by rw[hs];(first|lia|omega)) (by rw[hs];exact Bi.mk (.int _ _) (R.toks _) q)
    ·rename_i es e
     obtain⟨kvs,h1,r1,z1⟩:=R.isDict e
     have hs:(kvs.length:Int)=es.length:=by rw[r1.length]
     refine nY ?_;clear nY
     exact call_len_dict (R.noSys Y e) h1 (by rw[hs];(first|lia|omega)) (by rw[hs];exact Bi.mk (.int _ _) (R.toks _) q)
    ·exact q.elim
  | _=>exact False.elim q
 case list=>
  replace q:H5 vs H Q:=q
  refine nY ?_;clear nY
  apply Ml hv q;intro v u h q;apply Bx h q;intro a q
  refine Aa fun nY=>?_
  split at q
  ·rename_i xs e
   obtain⟨l1,⟨o,ho,hc,nn,hdd⟩,r1,z1⟩:=R.isList e
   refine nY ?_;clear nY
   refine call_list_seq (hsz:=by simp[<-r1.length];exact Af z1 Bw) _ (.inl rfl) ho hc hdd fun h' c' hk hD=>?_
   exact Bi.mk (.ref _) (R.put s.toks hk hD (D2 r1 z1) (B5 _) fun _ _=>R.up) (q _ R.fresh)
  ·rename_i xs e
   obtain⟨l1,⟨o,ho,hc,nn,hdd⟩,r1,z1⟩:=R.isTup e
   refine nY ?_;clear nY
   refine call_list_seq (hsz:=by simp[<-r1.length];exact Af z1 Bw) _ (.inr rfl) ho hc hdd fun h' c' hk hD=>?_
   exact Bi.mk (.ref _) (R.put s.toks hk hD (D2 r1 z1) (B5 _) fun _ _=>R.up) (q _ R.fresh)
  ·exact q.elim
 case sorted=>
  replace q:G1 vs H Q:=q
  refine nY ?_;clear nY
  apply Ml hv q;intro v u h q;apply Bx h q;intro a q
  refine Aa fun nY=>?_
  split at q
  ·rename_i xs e
   obtain⟨l1,h1,r1,z1⟩:=R.isList e
   split at q
   ·rename_i ns e2
    refine nY ?_;clear nY
    exact S1 Y R F h1 r1 z1 e2 q
   ·refine nY ?_;clear nY
    exact S0 Y R F h1 r1 z1 q
  ·rename_i es e
   obtain⟨kvs,h1,r1,z1⟩:=R.isDict e
   obtain⟨ep,hat⟩:=h1.dictAt
   refine nY ?_;clear nY
   refine Sz (R.noSys Y e) hh hat (by rw[<-r1.length];exact Af z1 Bw) r1 (by rw[<-r1.length];exact q.1) fun D h' tk ee vs hn hlt hk ho hI=>?_
   have hb:W.aj.objs.size<=D:=by
    refine Aa fun nY=>?_
    obtain⟨m,⟨o,_,_,h,_⟩,_⟩:=R.ns
    refine nY ?_;clear nY
    exact Af R.above (Nat.le_of_lt (hlt _ (by rw[h];simp)))
   exact Bi.mk (.ref _) (R.put tk hk ho (D2 (Gs hI) (by rw[Bk,(Ca _).length_eq,Bk];exact z1)) hn fun _ _=>hb) (q.2 _ (R.new_sep hn hb).1)
  ·exact q.elim
 case max=>
  replace q:Ae1 vs H Q:=q
  refine nY ?_;clear nY
  apply Y9 hv q;intro v w u u' h h' q;apply Az h q;intro i t q;apply Az h' q;intro j t' q
  refine max_two_N hh F N fun h' tk F' N'=>?_
  have e:∀i j:Int,(if j>i then j else i)=max i j:=by intro i j;split<;>(first|lia|omega)
  rw[e]
  exact Bi.mk (.int _ _) (Sf R Y F F' N') q
 case min=>
  replace q:Ae2 vs H Q:=q
  refine nY ?_;clear nY
  apply Y9 hv q;intro v w u u' h h' q;apply Az h q;intro i t q;apply Az h' q;intro j t' q
  refine min_two_N hh F N fun h' tk F' N'=>?_
  have e:∀i j:Int,(if j<i then j else i)=min i j:=by intro i j;split<;>(first|lia|omega)
  rw[e]
  exact Bi.mk (.int _ _) (Sf R Y F F' N') q
 case all=>
  replace q:L3 vs H Q:=q
  refine nY ?_;clear nY
  apply Ml hv q;intro v u h q;apply Bx h q;intro a q;refine E3 q fun xs e q=>?_;refine Cn q fun bs e2 q=>?_
  refine Aa fun nY=>?_
  obtain⟨l1,h1,r1,z1⟩:=R.isList e
  have hb:=Aaj r1 e2
  subst hb
  refine nY ?_;clear nY
  refine call_all_walk (wpAny_pyIter_list h1 ?_)
  refine⟨_,_,_,_,_,_,fun i=>bs.getD i false,rfl,Walks.list (A:=A.in1) hh s.heap.objs.size _ (Nat.ne_of_lt (Heap.lt_size h1.choose_spec.1)) _,⟨⟨_,Heap.get?_push_size _ rfl,rfl,rfl⟩,h1.at fun o e=>Heap.get?_push_of_some _ e⟩,?_,?_⟩
  ·intro i v s' Q' E' hP hq
   have hP':bs[i]?.map Value.bool=some v:=by simpa using hP
   obtain⟨b,b1,rfl⟩:=Option.map_eq_some_iff.mp hP'
   refine wpAny_truthy_bool ?_
   have:bs.getD i false=b:=by simp[b1]
   exact this▸hq
  ·intro h' tk hk
   have:(bs.map Value.bool).toArray.size=bs.length:=by simp
   rw[this,Xi]
   refine Bi.mk (.bool _) (R.move tk fun b o e=>hk b o ?_ (Heap.get?_push_of_some _ e)) q
   intro hm;rw[List.mem_singleton.mp hm]at e;exact absurd (Heap.lt_size e) (Nat.lt_irrefl _)
end Mine.Internal
namespace Mine.Internal
open PySem PySem.W PyProof.Rows
variable {W:Wd} {A:Around} {aa:HB} {env:Env} {c:Cx} {names:List Str} {H:AH} {ρ:Ak} {s:Shared} {E:Value->Shared->Prop} {n:Nat} {Q:Ag} {Er:EP}
noncomputable def Aao:LM->String
 | .append=> "list.append" | .clear=> "list.clear" | .count=> "list.count" | .extend=> "list.extend" | .index=> "list.index" | .remove=> "list.remove" | .reverse=> "list.reverse"
 | .setdefault=> "dict.setdefault"
theorem Lp{vs:List Value}{ns:List Int}(h:IntsAre vs ns):∀j,IntsAre (vs.eraseIdx j) (ns.eraseIdx j):=by
 induction h with
 | nil=>exact fun _=> .nil
 | cons n t h ih=>
   intro j
   cases j with
   | zero=>exact h
   | succ j=>exact .cons n t (ih j)
theorem Xj{k:Int}{ns:List Int}(h:k∈ns):ns.erase k=ns.eraseIdx (ns.idxOf k):=by
 induction ns with
 | nil=>cases h
 | cons x r ih=>
   refine Aa fun nY=>?_
   by_cases e:x=k
   ·refine nY ?_;clear nY
    subst e;simp
   ·have:(x==k)=false:=by simpa using e
    refine nY ?_;clear nY
    rw[List.erase_cons,List.idxOf_cons,this]
    simp only[Bool.false_eq_true,if_false,cond_false,List.eraseIdx_cons_succ]
    rw[ih ((List.mem_cons.mp h).resolve_left fun q=>e q.symm)]
theorem P1{k:Int}{l1:List Value}{ns:List Int}(hI:IntsAre l1 ns)(hk:k∈ns):∃h:ns.idxOf k<l1.toArray.size,isInt k l1.toArray[ns.idxOf k]=true/\∀m (hm:m<l1.toArray.size),m<ns.idxOf k->isInt k l1.toArray[m]=false:=by
 have hj:=List.idxOf_lt_length_of_mem hk
 have hl:ns.length=l1.length:=hI.length.symm
 have hj':ns.idxOf k<l1.length:=hl▸hj
 refine⟨by simpa using hj',?_,fun m hm hlt=>?_⟩
 ·have:=isInt_at k hI _ hj' hj
  simp only[List.getElem_toArray]
  rw[this]
  simp
 ·have hm':m<l1.length:=by simpa using hm
  have:=isInt_at k hI m hm' (hl▸hm')
  simp only[List.getElem_toArray]
  rw[this]
  exact ne_of_lt_idxOf hlt _
theorem Xk{l:Addr}{k:Int}{t:Tok}{l1:List Value}{ns:List Int}{nn:Nat}{Q:Value->Shared->Prop}(h1:s.heap.get? l=some {cls:= .type "list",data:= .seq l1.toArray nn})(hI:IntsAre l1 ns)(hk:k∈ns)
 (hz:(l1.length:Int)<2 ^ 63) (h:Q (.int (ns.idxOf k:Nat) s.toks) {s with toks:=s.toks+1}):wpAny W.M A (call (.builtin "list.index") [.ref l,.int k t]) Q E s:=by
 refine Aa fun nY=>?_
 obtain⟨a1,a2,a3⟩:=P1 hI hk
 refine nY ?_;clear nY
 refine call_meets F.slot_list_index ⟨_,h1,rfl⟩ F.entry_list_index (F.args_list_index_2 _ _) (SeqAt.list_indexAt l l1.toArray nn none #[] (.int k t) (isInt k) (ns.idxOf k) a1
  (by have:l1.toArray.size=l1.length:=by simp
      exact Aj3 hz a1 this) a2 a3) ⟨h1,fun y hy=>(eq_isInt k t hI y (by simpa using hy)).at _ _,h⟩
theorem Us{l:Addr}{k:Int}{t:Tok}{l1:List Value}{ns:List Int}{nn:Nat}{Q:Value->Shared->Prop}(h1:s.heap.get? l=some {cls:= .type "list",data:= .seq l1.toArray nn})(hI:IntsAre l1 ns)(hk:k∈ns)
 (hz:l1.length<=sizeLine) (h:Q .none {s with heap:=s.heap.update l (Obj.mapSeq fun xs=>xs.eraseIdxIfInBounds (ns.idxOf k))}):wpAny W.M A (call (.builtin "list.remove") [.ref l,.int k t]) Q E s:=by
 refine Aa fun nY=>?_
 obtain⟨a1,a2,a3⟩:=P1 hI hk
 refine nY ?_;clear nY
 exact call_meets F.slot_list_remove ⟨_,h1,rfl⟩ F.entry_list_remove (F.args_list_remove_2 _ _) (MeetsSeq.list_remove l l1.toArray nn (.int k t) (isInt k) (fun y hy=>eq_isInt k t hI y (by simpa using hy)) (ns.idxOf k) a1 a2 a3
  (by simpa using hz)) ⟨h1,h⟩
theorem Ut(ok:Pu A c aa env n)(Y:Ap W env c aa)(R:Av W aa env names H ρ s){m:LM}{o:V}{vs:List V}{uo:Value}{us:List Value}(ho:VR W o uo)(hv:C5 W vs us)(q:E0 m o vs H Q) :
 wpAny W.M A (call (.builtin (Aao m)) (uo::us)) (Bi W aa env names ρ Q) E s:=by
 have b63:=Sl
 cases m<;>try exact q.elim
 case append=>
  replace q:Dx o vs H Q:=q
  apply Bx ho q;intro a q;apply Ml hv q;intro v u h q;refine E3 q fun xs e q=>?_
  obtain⟨l1,nn,h1,r1,z1⟩:=R.lst e
  refine call_meets F.slot_list_append ⟨_,h1,rfl⟩ F.entry_list_append (F.args_list_append_2 _ _) (list_append _ l1.toArray nn u (by simp[<-r1.length];exact Af z1 Bw)) ⟨h1,?_⟩
  exact Bi.mk .none (R.changeL e h1 (·.push u) (items':=l1 ++ [u]) (by simp) (r1.append (.cons h .nil)) (by simp;(first|lia|omega)) s.toks) q.2
 case clear=>
  replace q:F3 o vs H Q:=q
  apply Bx ho q;intro a q;apply Ae8 hv q;intro q;refine E3 q fun xs e q=>?_
  obtain⟨l1,nn,h1,r1,z1⟩:=R.lst e
  refine call_meets F.slot_list_clear ⟨_,h1,rfl⟩ F.entry_list_clear (F.args_list_clear_1 _) (AutoSeq1.list_clear_list_0 _ l1.toArray nn (by simp[<-r1.length];exact Af z1 Bw)) ⟨h1,?_⟩
  exact Bi.mk .none (R.changeL e h1 (fun _=> #[]) (items':=[]) (by simp) .nil (by simp) s.toks) q
 case extend=>
  replace q:Dy o vs H Q:=q
  apply Bx ho q;intro a q;apply Ml hv q;intro v u h q;apply Bx h q;intro b q;refine E3 q fun xs e1 q=>?_;refine E3 q fun ys e2 q=>?_
  obtain⟨l1,nn,h1,r1,z1⟩:=R.lst e1
  obtain⟨l2,n2,h2,r2,z2⟩:=R.lst e2
  have hz:l1.length+l2.length<=1048576:=by rw[<-r1.length,<-r2.length];exact q.1.2
  refine call_meets F.slot_list_extend ⟨_,h1,rfl⟩ F.entry_list_extend (F.args_list_extend_2 _ _)
   (AutoSeq1.list_extend_list_list_0 _ l1.toArray nn _ l2.toArray n2 (by simp[Builtin.List.listTooLong,sizeLine];(first|lia|omega)) (by simp[sizeLine];(first|lia|omega)) (by simp[sizeLine];(first|lia|omega))) ⟨h1,h2,?_⟩
  exact Bi.mk .none (R.changeL e1 h1 (· ++ l2.toArray) (items':=l1++l2) (by simp) (r1.append r2) (by simpa using q.1.2) s.toks) q.2
 case index=>
  replace q:F4 o vs H Q:=q
  apply Bx ho q;intro a q;apply Ml hv q;intro v u h q;refine E3 q fun xs e q=>?_
  induction h with
  | int k t=>
    refine Cn q fun ns e2 q=>?_
    obtain⟨l1,nn,h1,r1,z1⟩:=R.lst e
    exact Xk h1 (N0 r1 e2) q.1 (by rw[<-r1.length];(first|lia|omega)) (Bi.mk (.int _ _) (R.toks _) q.2)
  | _=>exact False.elim q
 case remove=>
  replace q:Dz o vs H Q:=q
  apply Bx ho q;intro a q;apply Ml hv q;intro v u h q;apply Az h q;intro k t q;refine E3 q fun xs e q=>?_;refine Cn q fun ns e2 q=>?_
  obtain⟨l1,nn,h1,r1,z1⟩:=R.lst e
  have hI:=N0 r1 e2
  refine Us h1 hI q.1 (by rw[<-r1.length];exact Af z1 Bw) ?_
  refine Bi.mk .none (R.changeL e h1 (fun xs=>xs.eraseIdxIfInBounds _) (items':=l1.eraseIdx _) (by simp;rfl) ?_ ?_ s.toks) q.2
  ·rw[Xj q.1];exact Gs (Lp hI _)
  ·rw[Bk,List.length_erase_of_mem q.1,ints?_length e2];(first|lia|omega)
 case reverse=>
  replace q:C4 o vs H Q:=q
  apply Bx ho q;intro a q;apply Ae8 hv q;intro q;refine E3 q fun xs e q=>?_
  obtain⟨l1,nn,h1,r1,z1⟩:=R.lst e
  refine call_meets F.slot_list_reverse ⟨_,h1,rfl⟩ F.entry_list_reverse (F.args_list_reverse_1 _) (AutoSeq1.list_reverse_list_0 _ l1.toArray nn (by simp[<-r1.length];exact Af z1 Bw)) ⟨h1,?_⟩
  exact Bi.mk .none (R.changeL e h1 (·.reverse) (items':=l1.reverse) (by simp) r1.reverse (by simpa using z1) s.toks) q
 case setdefault=>
  replace q:Bt o vs H Q:=q
  apply Bx ho q;intro a q;apply Y9 hv q;intro i v u u' h h' q;apply Az h q;intro k t q;refine Ah5 q fun es e q=>?_
  obtain⟨kvs,h1,r1,z1⟩:=R.isDict e
  refine call_meetsIn F.slot_dict_setdefault h1.typeIs F.entry_dict_setdefault (F.args_dict_setdefault_3 _ _ _) (kt_meets_setdefault (intKind W.prog W.w) _ (intKind_is _ _ _ _) (R.noSys Y e) u')
   ⟨kvs,h1,by rw[<-r1.length];exact Af z1 Bw,fun v hv=>?_,fun hn h2 h3 h4=>?_⟩
  ·rw[E4]at hv
   obtain⟨d1,d2⟩:=Av.dget r1 _
   rw[hv]at d1
   cases hg:dget es _ with
   | none=>rw[hg]at d1;cases d1
   | some w=>
     rw[hg]at q
     obtain⟨c',c1,c2⟩:=d2 w hg
     rw[hv]at c1;cases c1
     exact Bi.mk c2 (R.toks _) q
  ·rw[E4]at hn
   obtain⟨d1,d2⟩:=Av.dget r1 _
   rw[hn]at d1
   cases hg:dget es _ with
   | some w=>rw[hg]at d1;cases d1
   | none=>
     rw[hg]at q
     obtain⟨ob,h5,h6⟩:=Mm h3
     exact Bi.mk h' (R.change _ e h4 h5 (.dict (r1.put h' (Kw h1)) (Af (Kv _ _ _) q.1) h6) fun _ _=>⟨_,rfl⟩) q.2
end Mine.Internal
namespace Mine.Internal
open PySem PySem.W PyProof.Rows
variable {W:Wd} {A:Around} {aa:HB} {env:Env} {c:Cx} {names:List Str} {H:AH} {ρ:Ak} {s:Shared} {E:Value->Shared->Prop} {n:Nat} {Q:Ag} {Er:EP}
theorem Qu{aj:Heap}{L:Addr}{h:Heap}:(G9 aj L h).Pairwise fun p q=>p.1≠q.1:=by
 unfold G9
 rw[List.pairwise_filterMap]
 refine List.nodup_range.imp ?_
 intro a b hab p hp q hq
 split at hp
 ·cases hp
 ·split at hq
  ·cases hq
  ·obtain⟨o1,_,rfl⟩:=Option.map_eq_some_iff.mp hp
   obtain⟨o2,_,rfl⟩:=Option.map_eq_some_iff.mp hq
   exact hab
theorem N7{d:Addr}{o o':Obj}:∀ {l:List (Addr×Obj)},l.Pairwise (fun p q=>p.1≠q.1)->(d,o)∈l->(O2 fun l'=>Fe (Upd d o o' l l') ((d,o')∈l') (∀p∈l,p.1≠d->p∈l'))
 | [],_,h=>nomatch h
 | p::r,hp,hm=>by
   obtain⟨h1,h2⟩:=List.pairwise_cons.mp hp
   rcases List.mem_cons.mp hm with rfl|hm
   ·exact⟨_,.head fun q hq=>(h1 q hq).symm,.head _,fun q hq hne=>by
     rcases List.mem_cons.mp hq with rfl|hq
     ·exact absurd rfl hne
     ·exact .tail _ hq⟩
   ·obtain⟨l',u,m,k⟩:=N7 h2 hm
    exact⟨_,.tail (h1 _ hm) u,.tail _ m,fun q hq hne=>by
     rcases List.mem_cons.mp hq with rfl|hq
     ·exact .head _
     ·exact .tail _ (k q hq hne)⟩
theorem Av.changeK(R:Av W aa env names H ρ s)(Y:Ap W env c aa){h':Heap}{a:Addr}{o o':O}{ob:Obj}{m:Str->Option Value}(t:Nat)(he:H a=some o')(hm:s.heap.Ns env.locals m)(hm':h'.Ns env.locals m)
 (k:∀b o,b≠a->b≠env.locals->s.heap.get? b=some o->h'.get? b=some o) (ho:h'.get? a=some ob) (r:OR W o ob) (hl:∀es,o = .dict es->∃es',o' = .dict es'):Av W aa env names (upd H a o) ρ {s with heap:=h',toks:=t}:=by
 refine Aa fun nY=>?_
 obtain⟨s1,s2,s3⟩:=R.sep a o' he
 refine nY ?_;clear nY
 refine⟨?_,?_,?_,?_,?_,R.gens,R.os,R.above,?_⟩
 ·refine Aa fun nY=>?_
  obtain⟨aV,h1,h2⟩:=R.ns
  refine nY ?_;clear nY
  refine⟨m,hm',fun x i v e1 e2 e3=>?_⟩
  refine Aa fun nY=>?_
  obtain⟨c,h3,h4⟩:=h2 x i v e1 e2 e3
  refine nY ?_;clear nY
  refine⟨c,?_,h4⟩
  refine Aa fun nY=>?_
  obtain⟨o,es,ep,a1,a2,a3,a4⟩:=h1
  obtain⟨o',es',ep',b1,b2,b3,b4⟩:=hm
  rw[a1]at b1;cases b1
  rw[a2]at b2;cases b2
  refine nY ?_;clear nY
  rw[<-b4,a4];exact h3
 ·intro x c e
  refine Aa fun nY=>?_
  obtain⟨w,⟨oc,hc,hd⟩,r⟩:=R.cell x c e
  refine nY ?_;clear nY
  exact⟨w,⟨oc,k _ _ (fun q=>s3 x (q▸e)) (Y.apart x c e) hc,hd⟩,r⟩
 ·intro b x e
  refine Aa fun nY=>?_
  obtain⟨x',e1,z⟩:=R.keep b x e
  refine nY ?_;clear nY
  exact⟨x',k b x' (fun q=>by rw[q,s1]at e;cases e) (fun q=>by rw[q,Y.new]at e;cases e) e1,z⟩
 ·intro b x e
  unfold upd at e
  refine Aa fun nY=>?_
  split at e
  ·refine nY ?_;clear nY
   rename_i q;subst q;cases e;exact⟨ob,ho,r⟩
  ·refine nY ?_;clear nY
   rename_i q;obtain⟨ob',h1,h2⟩:=R.objs b x e;exact⟨ob',k _ _ q (R.sep b x e).2.1 h1,h2⟩
 ·intro b x e
  unfold upd at e
  refine Aa fun nY=>?_
  split at e
  ·refine nY ?_;clear nY
   rename_i q;subst q;exact⟨s1,s2,s3⟩
  ·refine nY ?_;clear nY
   exact R.sep b x e
 ·intro b x e
  unfold upd at e
  refine Aa fun nY=>?_
  split at e
  ·refine nY ?_;clear nY
   rename_i q;subst q;obtain⟨es',rfl⟩:=hl _ (Option.some.inj e);exact R.low b _ he
  ·refine nY ?_;clear nY
   exact R.low b x e
noncomputable def We:List C2:=[.many,.rows,.order,.ring,.crowd,.colours]
theorem N8(a:C2):a∈We:=by cases a<;>decide
theorem Mo{a b:C2}(h:A4 a=A4 b):a=b:=by
 cases a<;>cases b<;>first|rfl|(revert h;decide)
noncomputable def Qv(K:Frag)(C:Addr):Bool:=
 hasDictIn K C&&plainOver K C&&findIn K (.ref C) "__setattr__" == some (some (.builtin "object.__setattr__")) &&
 We.all fun a=>plainGet K C (A4 a)&&findIn K (.ref C) (A4 a)==some none&&takerIn K C (A4 a)==some none
structure Qw(K:Frag)(C:Addr):Prop where
 dict:hasDictIn K C=true
 over:plainOver K C=true
 set:findIn K (.ref C) "__setattr__" = some (some (.builtin "object.__setattr__"))
 get:∀a,plainGet K C (A4 a)=true
 noc:∀a,findIn K (.ref C) (A4 a)=some none
 take:∀a,takerIn K C (A4 a)=some none
theorem Lq{K:Frag}{C:Addr}(h:Qv K C=true):Qw K C:=by
 unfold Qv at h
 simp only[Bool.and_eq_true,beq_iff_eq,List.all_eq_true]at h
 obtain⟨⟨⟨h1,h2⟩,h3⟩,h4⟩:=h
 exact⟨h1,h2,h3,fun a=>(h4 a (N8 a)).1.1,fun a=>(h4 a (N8 a)).1.2,fun a=>(h4 a (N8 a)).2⟩
theorem Uu(x:Str)(t:Tok):(Value.str x t).isStr x=true:=by simp[Value.isStr]
theorem Ip{x y:Str}(h:x≠y)(t:Tok):(Value.str x t).isStr y=false:=by simpa[Value.isStr]using h
theorem Xb.get{fs:List (C2×V)}{es:List DictEntry}(h:Xb W fs es)(a:C2):match Jc fs a with
 | some v=>∃c,getL (A4 a) es=some (some c)/\VR W v c
 | none=>getL (A4 a) es=some none:=by
 have noref:es.any (·.refKey)=false:=by
  induction h with
  | nil=>rfl
  | cons h1 h2 _ _ ih=>obtain⟨t,h2⟩:=h2;simp only[List.any_cons,ih,Bool.or_false];simp[DictEntry.refKey,h2]
 have key:match Jc fs a with
  | some v=>∃e,es.find? (·.key.isStr (A4 a))=some e/\VR W v e.val
  | none=>es.find? (·.key.isStr (A4 a))=none:=by
  clear noref
  induction h with
  | nil=>rfl
  | @cons b v fs e es h1 h2 h3 _ ih=>
    obtain⟨t,h2⟩:=h2
    unfold Jc at ih ⊢
    rw[List.lookup_cons,List.find?_cons]
    by_cases q:a=b
    ·subst q;simp only[beq_self_eq_true,h1];exact⟨e,rfl,h3⟩
    ·have q1:(a==b)=false:=by simpa using q
     have q2:e.key.isStr (A4 a)=false:=by rw[h2];exact Ip (fun z=>q (Mo z.symm)) t
     simp only[q1,q2];exact ih
 unfold getL
 cases hg:Jc fs a with
 | some v=>rw[hg]at key;obtain⟨e,e1,e2⟩:=key;exact⟨_,by rw[e1],e2⟩
 | none=>rw[hg]at key;simp only at key ⊢;rw[key,noref];rfl
theorem Xb.put{fs:List (C2×V)}{es:List DictEntry}(h:Xb W fs es)(a:C2){v:V}{c:Value}(hv:VR W v c)(hsh:Int)(t:Tok):Xb W (H0 fs a v) (putL (A4 a) hsh (.str (A4 a) t) c es):=by
 induction h with
 | nil=>exact .cons (Uu _ _) ⟨t,rfl⟩ hv .nil
 | @cons b v' fs e es h1 h2 h3 h4 ih=>
   obtain⟨t',h2⟩:=h2
   unfold H0 putL
   by_cases q:a=b
   ·subst q;rw[if_pos rfl,h1];exact .cons h1 ⟨t',h2⟩ hv h4
   ·have q2:e.key.isStr (A4 a)=false:=by rw[h2];exact Ip (fun z=>q (Mo z.symm)) t'
    rw[if_neg q,q2];exact .cons h1 ⟨t',h2⟩ h3 ih
theorem Xb.length{fs:List (C2×V)}{es:List DictEntry}(h:Xb W fs es):fs.length=es.length:=by
 induction h with
 | nil=>rfl
 | cons _ _ _ _ ih=>simp[ih]
theorem S2(fs:List (C2×V))(a:C2)(v:V):(H0 fs a v).length<=fs.length+1:=by
 induction fs with
 | nil=>simp[H0]
 | cons p t ih=>
   obtain⟨b,w⟩:=p
   unfold H0
   split
   ·simp
   ·simp only[List.length_cons];exact Nat.succ_le_succ ih
theorem Av.inst(R:Av W aa env names H ρ s){a d:Addr}{cc:Qn}{fs:List (C2×V)}(h1:H a=some (.inst cc d))(h2:H d=some (.ns fs)) :
 (cc = .web\/cc = .verdict)/\(Jy fun es n=>O4 (InstAt s.heap a (instObj (W.cl cc) d) (W.cl cc) (some (dictOf es n))) (Xb W fs es) (fs.length<=10) (s.heap.get? d=some (dictOf es n))):=by
 refine Aa fun nY=>?_
 obtain⟨o1,a1,a2⟩:=R.objs _ _ h1
 obtain⟨o2,b1,b2⟩:=R.objs _ _ h2
 cases a2 with
 | inst hcc=>
   cases b2 with
   | ns r z=>(refine nY ?_;clear nY;exact⟨hcc,_,_,⟨a1,rfl,rfl,b1⟩,r,z,b1⟩)
theorem Afr{v:V}{c:Value}(h:VR W v c):handedIn c=true:=by induction h<;>rfl
theorem Pa(Y:Ap W env c aa)(X:W.K.In W.aj)(I:∀cc,cc = .web\/cc = .verdict->Qw W.K (W.cl cc))(R:Av W aa env names H ρ s){o:V}{u:Value}{a:C2}{b:Bool}(ho:VR W o u)(q:getAttr o a H Q) :
 wpAny W.M A (PySem.getAttr u (A4 a) b) (Bi W aa env names ρ Q) E s:=by
 obtain⟨m,F⟩:=R.kitF Y
 delta Mine.Internal.getAttr at q
 apply Bx ho q
 intro x q
 refine Se q fun cc d e1 q=>?_
 refine Uf q fun fs e2 q=>?_
 refine Cn q fun v e3 q=>?_
 refine Aa fun nY=>?_
 obtain⟨hcc,es,nn,i1,r1,z1,_⟩:=R.inst e1 e2
 have K:=I cc hcc
 have:=r1.get a
 rw[e3]at this
 obtain⟨cv,g1,g2⟩:=this
 refine nY ?_;clear nY
 exact get_own F X i1 (K.get a) K.dict (K.noc a) rfl g1 (Afr g2) (Bi.mk g2 (R.toks _) q)
theorem Pb(Y:Ap W env c aa)(X:W.K.In W.aj)(I:∀cc,cc = .web\/cc = .verdict->Qw W.K (W.cl cc))(R:Av W aa env names H ρ s){o v:V}{u uv:Value}{a:C2}(ho:VR W o u)(hv:VR W v uv){N:AH->Prop}(q:setAttr o a v H N) :
 wpAny W.M A (PySem.setAttr u (A4 a) uv) (fun _ s'=>Ah6 W aa env names ρ N s') E s:=by
 obtain⟨m,F⟩:=R.kitF Y
 delta Mine.Internal.setAttr at q
 apply Bx ho q
 intro x q
 refine Se q fun cc d e1 q=>?_
 refine Uf q fun fs e2 q=>?_
 refine Aa fun nY=>?_
 obtain⟨hcc,es,nn,i1,r1,z1,hd⟩:=R.inst e1 e2
 have K:=I cc hcc
 obtain⟨s1,s2,s3⟩:=R.sep _ _ e2
 have hbn:W.aj.get? d=none:=by
  cases q:W.aj.get? d with
  | none=>rfl
  | some o=>have:=Y.base _ _ q;rw[s1]at this;cases this
 have hmem:(d,dictOf es nn)∈G9 W.aj env.locals s.heap:=Ha.mpr ⟨s2,hbn,hd⟩
 obtain⟨news',U,m1,m2⟩:=N7 (o':=dictOf (putL (A4 a) (PyData.keyHash W.w.params (A4 a)) (.str (A4 a) (s.toks+1)) uv es) (putN (A4 a) es nn)) Qu hmem
 have r2:=r1.put a hv (PyData.keyHash W.w.params (A4 a)) (s.toks+1)
 refine nY ?_;clear nY
 refine set_dict F X Xc i1 rfl K.set K.over (K.take a) K.dict ?_ rfl U ?_ fun h' F' N'=>?_
 ·have:=r1.get a
  refine Aa fun nY=>?_
  split at this
  ·refine nY ?_;clear nY
   obtain⟨c,g1,_⟩:=this;rw[g1];rfl
  ·refine nY ?_;clear nY
   rw[this];rfl
 ·rw[<-r2.length];exact Af (S2 _ _ _) (Nat.lt_of_le_of_lt z1 (by decide))
 ·have k:∀b o,b≠d->b≠env.locals->s.heap.get? b=some o->h'.get? b=some o:=fun b o hb hl e=>by
   cases q:W.aj.get? b with
   | some o'=>have e1:=R.keepB Y b o' q;rw[e]at e1;cases e1;exact F'.keep b _ q
   | none=>exact(N' (b,o) (m2 _ (Ha.mpr ⟨hl,q,e⟩) hb)).1
  exact⟨_,R.changeK Y _ e2 F.ns F'.ns k (N' _ m1).1 (.ns r2 (Af (S2 _ _ _) q.1)) (fun _ q=>by cases q),q.2⟩
end Mine.Internal
namespace Mine.Internal
open PySem PySem.W PyProof.Rows
variable {W:Wd} {G:A2} {A:Around} {aa:HB} {env:Env} {c:Cx} {names:List Str} {H:AH} {ρ:Ak} {s:Shared} {E:Value->Shared->Prop} {n:Nat} {Q:Ag} {Er:EP}
noncomputable def I8:List Str:=["len","list","sorted","max","min","all","isinstance","range","enumerate","reversed","int","bool","tuple"]
noncomputable def E6(W:Wd)(f:Str):Option Addr:=
 match Go f with
 | some (cc,m)=>(match findIn W.K (.ref (W.cl cc)) m with|some (some (.ref a))=>some a|_=>none)
 | none=>(match nsIn W.K mainGlobals f with|some (some (.ref a))=>some a|_=>none)
structure Adk(W:Wd)(fa:Addr)(d:Fn)(name qual:Str)(params:Arguments)(body:List Stmt)(scope:Scope)(doc pm cdv ct oc:Value)(an od:Option Addr)(osl:Array (Option Value)):Prop where
 at_:W.K.lookup fa=some ⟨oc,od,.func (fnOf name qual params body scope .none .none doc pm an cdv ct),osl⟩
 typ:oc = .type "function"
 code:codeIn W.K cdv qual=true
 er:Acw params body scope=some d
 nodup:(params.args.map (·.arg)).Nodup
 kinds:∀x∈params.args.map (·.arg),scope.names.lookup x=some .local\/scope.names.lookup x=some .cell
 cells:((cellsFrom 0 scope.names []).map (·.1)).Nodup
 names:(B0 params scope).Nodup
 nofree:∀p∈scope.names,p.2≠ .free
structure Jd(W:Wd)(G:A2):Prop where
 X:W.K.In W.aj
 top:(Ex4 fun p loose mg mb=>TopRead p loose mg mb W.aj)
 inst:∀cc,cc = .web\/cc = .verdict->Qw W.K (W.cl cc)
 bi:∀x∈I8,nsIn W.K mainGlobals x=some none
 const:∀g v,G.const g=some v->∃c,nsIn W.K mainGlobals g=some (some c)/\VR W v c
 fn:∀f d,G.fn f=some d->∃fa,E6 W f=some fa/\∃name qual params body scope doc pm cdv ct oc an od osl,Adk W fa d name qual params body scope doc pm cdv ct oc an od osl
 make:∀cc,cc = .web\/cc = .verdict->(G.fn (Dr cc)).isSome=true->nsIn W.K mainGlobals (match cc with | .web=> "Web" | _=> "Verdict")=some (some (.ref (W.cl cc)))/\makesIn W.K (W.cl cc)=true
 meth:∀f m fa,Go f=some (.web,m)->E6 W f=some fa->plainGet W.K (W.cl .web) m=true/\(∀a,A4 a≠m)
noncomputable def SE(W:Wd)(G:A2)(n:Nat)(c:Cx)(e:Expr)(x:X):Prop:=
 ∀ {A:Around} {env:Env} {aa:HB} {H:AH} {ρ:Ak} {s:Shared} {Q:Ag} {E:EP},Pu A c aa env n->Ap W env c aa->Av W aa env c.names H ρ s->Aw G (Ae G n) x ρ H Q E->
  wpAny W.M A (eval e env) (Bi W aa env c.names ρ Q) EM s
noncomputable def ST(W:Wd)(G:A2)(n:Nat)(c:Cx)(e:Expr)(x:X):Prop:=
 ∀ {A:Around} {env:Env} {aa:HB} {H:AH} {ρ:Ak} {s:Shared} {Q:Bool->AH->Prop} {E:EP},Pu A c aa env n->Ap W env c aa->Av W aa env c.names H ρ s->
  Aw G (Ae G n) x ρ H (fun v H=>truthy v fun b=>Q b H) E->
  wpAny W.M A (isTrue e env (eval e env)) (fun b s'=>∃H',Av W aa env c.names H' ρ s'/\Q b H') EM s
noncomputable def Wg(W:Wd)(G:A2)(n:Nat)(c:Cx)(es:List Expr)(xs:List X):Prop:=
 ∀ {A:Around} {env:Env} {aa:HB} {H:AH} {ρ:Ak} {s:Shared} {Q:List V->AH->Prop} {E:EP} {pos:Pos},Pu A c aa env n->Ap W env c aa->Av W aa env c.names H ρ s->Cw G (Ae G n) xs ρ H Q E->
  wpAny W.M A (spliced (backTo pos (starEach es env))) (fun vs s'=>(Jy fun as H'=>O4 (C5 W as vs) (as.length=es.length) (Av W aa env c.names H' ρ s') (Q as H'))) EM s
noncomputable def SC(W:Wd)(G:A2)(n:Nat):Prop:=
 ∀ {A:Around} {env:Env} {c:Cx} {aa:HB} {H:AH} {ρ:Ak} {s:Shared} {Q:Ag} {E:EP} {f:Str} {fa:Addr} {vs:List V} {us:List Value},
  A.handled=none->A.depth+4*n+2<recursionLimit->A.units+30*n+40<cLine->Ap W env c aa->Av W aa env c.names H ρ s->E6 W f=some fa->C5 W vs us->Ae G n f vs H Q E->
  codeAny W.M A (.call (.ref fa) ⟨us,[]⟩) (fun r s'=>match r with | .ok (.ret v)=>Bi W aa env c.names ρ Q v s' | .ok _=>False | .error e=>EM e s') s
theorem SE.toST(h:SE W G n c e x)(hp:∀env whole,isTrue e env whole=(do let v <-whole;standAt e.pos;holding [v] (PySem.truthy v))):ST W G n c e x:=by
 intro A env aa H ρ s Q E ok Y R q
 refine isTrue_plain (wpAny_mono (h ok Y R q) (fun v s' r=>?_) fun _ _ e=>e) (hp _ _)
 refine Aa fun nY=>?_
 obtain⟨a,H',hv,R',q'⟩:=r
 delta truthy at q'
 split at q'
 ·refine nY ?_;clear nY
  cases hv;exact wpAny_truthy_bool ⟨H',R',q'⟩
 ·exact q'.elim
theorem B8{e:Expr}(h:∀v p,e≠ .Starred v p)(rest:List Expr)(env:Env):starEach (e::rest) env=(false,eval e env)::starEach rest env:=by
 cases e<;>first|rfl|exact absurd rfl (h _ _)
theorem Adl:Wg W G n c [] []:=by
 intro A env aa H ρ s Q E pos ok Y R q
 exact Calls.spliced_nil ⟨[],H,.nil,rfl,R,q⟩
theorem Aap{e:Expr}{es:List Expr}{x:X}{xs:List X}(h:SE W G n c e x)(hs:Wg W G n c es xs)(hn:∀v p,e≠ .Starred v p):Wg W G n c (e::es) (x::xs):=by
 intro A env aa H ρ s Q E pos ok Y R q
 rw[B8 hn]
 refine Calls.spliced_cons (wpAny_mono (h ok Y R q) (fun v s' r=>?_) fun _ _ e=>e)
 refine Aa fun nY=>?_
 obtain⟨a,H',hv,R',q'⟩:=r
 refine nY ?_;clear nY
 refine wpAny_mono (hs ok Y R' q') (fun vs s'' r=>?_) fun _ _ e=>e
 refine Aa fun nY=>?_
 obtain⟨as,H'',hvs,hl,R'',q''⟩:=r
 refine nY ?_;clear nY
 exact⟨a::as,H'',.cons hv hvs,by simp[hl],R'',q''⟩
theorem Aaq{x:Str}{p:Pos}{i:Nat}(hs:c.slot x=some i)(hd:(x==("__debug__" :Str))=false)(hc:(x==("__classdict__" :Str))=false):SE W G n c (.Name x p) (.var i):=by
 intro A env aa H ρ s Q E ok Y R q
 simp only[Zb,Zc,Zd,Ze,Zf,Zg,Zh,Zi,Zj,Zk,Zl,Zm,Zn,Zo,Bo,Zp,Zq,Zr,Zs,Zt,Ax,Dg,Be,Ay,Zu,Zv,A3,Bb]at q
 refine Aa fun nY=>?_
 split at q
 ·rename_i v e
  unfold Cx.slot at hs
  split at hs
  ·rename_i hv
   refine nY ?_;clear nY
   refine wpAny_Name ?_ hd
   have key:env.kindOf x=some .local\/env.kindOf x=some .cell\/env.kindOf x=some .free:=by
    cases hk:c.sc.names.lookup x with
    | none=>rw[hk]at hv;cases hv
    | some k=>
      refine Aa fun nY=>?_
      cases k with
      | «local» =>(refine nY ?_;clear nY;exact .inl (Y.kinds x _ hk (by simp)))
      | cell=>(refine nY ?_;clear nY;exact .inr (.inl (Y.kinds x _ hk (by simp))))
      | free=>(refine nY ?_;clear nY;rcases Y.frees x hk with h|h<;>simp[h])
      | _=>rw[hk]at hv;cases hv
   refine Aa fun nY=>?_
   rcases key with h|h|h
   ·obtain⟨m,h1,h2⟩:=R.ns
    obtain⟨cv,h3,h4⟩:=h2 x i v hs h e
    refine nY ?_;clear nY
    exact wpAny_loadName_local Y.kind h h1 h3 (Bi.mk h4 R q)
   ·obtain⟨a,ha⟩:=Y.cells x (.inl h)
    obtain⟨w,h1,h2⟩:=R.cell x a ha
    obtain⟨cv,rfl,h4⟩:=h2 i v hs (.inl h) e
    refine nY ?_;clear nY
    exact wpAny_loadName_cell Y.kind h ha h1 (Bi.mk h4 R q)
   ·obtain⟨a,ha⟩:=Y.cells x (.inr h)
    obtain⟨w,h1,h2⟩:=R.cell x a ha
    obtain⟨cv,rfl,h4⟩:=h2 i v hs (.inr h) e
    refine nY ?_;clear nY
    exact wpAny_loadName_free Y.kind h ha h1 (Bi.mk h4 R q) hc
  ·cases hs
 ·exact q.elim
theorem Lr(g:Jd W G)(Y:Ap W env c aa)(R:Av W aa env names H ρ s){x:Str}{p:Pos}{v:Value}{Q:Value->Shared->Prop}(hg:c.global x=true)(hd:(x==("__debug__" :Str))=false)(e:nsIn W.K mainGlobals x=some (some v))(h:Q v s) :
 wpAny W.M A (eval (.Name x p) env) Q E s:=by
 obtain⟨pp,loose,mg,mb,T⟩:=g.top
 have hx:env.kindOf x=some .globalImplicit:=Y.kinds x _ (by simpa[Cx.global]using hg) (by simp)
 have k:∀b o,W.aj.get? b=some o->s.heap.get? b=some o:=R.keepB Y
 exact Calls.Name_function_global Y.kind hx (Calls.loadGlobal_global (by rw[Y.globals];exact T.g.keeps k) (mg_of g.X T.g e) h) hd
theorem N9(g:Jd W G)(Y:Ap W env c aa)(R:Av W aa env names H ρ s){x:Str}{p:Pos}{v:Value}{Q:Value->Shared->Prop}(hg:c.global x=true)(hd:(x==("__debug__" :Str))=false)(hx':x∈I8)
 (hv:bootBuiltins x=some v) (hn:x≠ "__name__") (h:Q v s):wpAny W.M A (eval (.Name x p) env) Q E s:=by
 obtain⟨pp,loose,mg,mb,T⟩:=g.top
 have hx:env.kindOf x=some .globalImplicit:=Y.kinds x _ (by simpa[Cx.global]using hg) (by simp)
 have k:∀b o,W.aj.get? b=some o->s.heap.get? b=some o:=R.keepB Y
 exact Calls.Name_function_global Y.kind hx (Calls.loadGlobal_builtin (by rw[Y.globals];exact T.g.keeps k) (mg_none_of g.X T.g (g.bi x hx')) (by rw[Y.builtins];exact T.b.keeps k) ((T.builtins x hn).trans hv) h) hd
theorem Adm(g:Jd W G){x:Str}{p:Pos}(hg:c.global x=true)(hd:(x==("__debug__" :Str))=false):SE W G n c (.Name x p) (.glob x):=by
 intro A env aa H ρ s Q E ok Y R q
 simp only[Zb,Zc,Zd,Ze,Zf,Zg,Zh,Zi,Zj,Zk,Zl,Zm,Zn,Zo,Bo,Zp,Zq,Zr,Zs,Zt,Ax,Dg,Be,Ay,Zu,Zv,A3,Bb]at q
 refine Aa fun nY=>?_
 split at q
 ·rename_i v e
  obtain⟨cv,h1,h2⟩:=g.const x v e
  refine nY ?_;clear nY
  exact Lr g Y R hg hd h1 (Bi.mk h2 R q)
 ·exact q.elim
theorem Qx{f:Str}{fa:Addr}(ho:Go f=none)(h:E6 W f=some fa):nsIn W.K mainGlobals f=some (some (.ref fa)):=by
 delta E6 at h
 rw[ho]at h
 simp only at h
 split at h
 ·rename_i e;cases h;exact e
 ·cases h
theorem Adn{k:Nat}{p:Pos}:SE W G n c (.Constant .none k p) .cnone:=by
 intro A env aa H ρ s Q E ok Y R q
 exact fun _ _ _=>Bi.mk .none R q
theorem Aar{b:Bool}{k:Nat}{p:Pos}:SE W G n c (.Constant (.bool b) k p) (.cbool b):=by
 intro A env aa H ρ s Q E ok Y R q
 exact fun _ _ _=>Bi.mk (.bool b) R q
theorem Ado{i:Int}{k:Nat}{p:Pos}:SE W G n c (.Constant (.int i) k p) (.cint i):=by
 intro A env aa H ρ s Q E ok Y R q
 exact fun _ _ _=>Bi.mk (.int i _) (R.toks _) q
theorem Afs{e:Expr}{x:X}{p:Pos}(h:SE W G n c e x):SE W G n c (.UnaryOp .Not e p) (.not x):=by
 intro A env aa H ρ s Q E ok Y R q
 simp only[Zb,Zc,Zd,Ze,Zf,Zg,Zh,Zi,Zj,Zk,Zl,Zm,Zn,Zo,Bo,Zp,Zq,Zr,Zs,Zt,Ax,Dg,Be,Ay,Zu,Zv,A3,Bb]at q
 refine UnaryOp_ (wpAny_mono (h ok Y R q) (fun v s' r=>?_) fun _ _ e=>e)
 refine Aa fun nY=>?_
 obtain⟨a,H',hv,R',q'⟩:=r
 delta truthy at q'
 split at q'
 ·refine nY ?_;clear nY
  cases hv;exact not_of (wpAny_truthy_bool (Bi.mk (.bool _) R' q'))
 ·exact q'.elim
theorem Aft{e:Expr}{x:X}{p:Pos}(h:ST W G n c e x):ST W G n c (.UnaryOp .Not e p) (.not x):=by
 intro A env aa H ρ s Q E ok Y R q
 refine isTrue_not (wpAny_mono (h (E:=E) (Q:=fun b H=>Q (!b) H) ok Y R ?_) (fun b s' r=>r) fun _ _ e=>e)
 exact q
theorem Afu{e:Expr}{x:X}{p:Pos}(h:SE W G n c e x):SE W G n c (.UnaryOp .USub e p) (.neg x):=by
 intro A env aa H ρ s Q E ok Y R q
 simp only[Zb,Zc,Zd,Ze,Zf,Zg,Zh,Zi,Zj,Zk,Zl,Zm,Zn,Zo,Bo,Zp,Zq,Zr,Zs,Zt,Ax,Dg,Be,Ay,Zu,Zv,A3,Bb]at q
 refine UnaryOp_ (wpAny_mono (h ok Y R q) (fun v s' r=>?_) fun _ _ e=>e)
 obtain⟨a,H',hv,R',q'⟩:=r
 revert q';intro q'
 split at q'
 ·cases hv;exact neg_int (Bi.mk (.int _ _) (R'.toks _) q')
 ·exact q'.elim
theorem Afv{e e2:Expr}{rest:List Expr}{x y:X}{p:Pos}(h:SE W G n c e x)(h2:SE W G n c (.BoolOp .And (e2::rest) p) y):SE W G n c (.BoolOp .And (e::e2::rest) p) (.and x y):=by
 intro A env aa H ρ s Q E ok Y R q
 simp only[Zb,Zc,Zd,Ze,Zf,Zg,Zh,Zi,Zj,Zk,Zl,Zm,Zn,Zo,Bo,Zp,Zq,Zr,Zs,Zt,Ax,Dg,Be,Ay,Zu,Zv,A3,Bb]at q
 refine BoolOp_and (wpAny_mono (h ok Y R q) (fun v s' r=>?_) fun _ _ e=>e)
 refine Aa fun nY=>?_
 obtain⟨a,H',hv,R',q'⟩:=r
 delta truthy at q'
 split at q'
 ·rename_i b
  cases hv
  refine nY ?_;clear nY
  refine wpAny_truthy_bool ?_
  cases b
  ·exact Bi.mk (.bool _) R' (by simpa using q')
  ·exact h2 ok Y R' (by simpa using q')
 ·exact q'.elim
theorem Ah8{e e2:Expr}{rest:List Expr}{x y:X}{p:Pos}(h:SE W G n c e x)(h2:SE W G n c (.BoolOp .Or (e2::rest) p) y):SE W G n c (.BoolOp .Or (e::e2::rest) p) (.or x y):=by
 intro A env aa H ρ s Q E ok Y R q
 simp only[Zb,Zc,Zd,Ze,Zf,Zg,Zh,Zi,Zj,Zk,Zl,Zm,Zn,Zo,Bo,Zp,Zq,Zr,Zs,Zt,Ax,Dg,Be,Ay,Zu,Zv,A3,Bb]at q
 refine BoolOp_or (wpAny_mono (h ok Y R q) (fun v s' r=>?_) fun _ _ e=>e)
 refine Aa fun nY=>?_
 obtain⟨a,H',hv,R',q'⟩:=r
 delta truthy at q'
 split at q'
 ·rename_i b
  cases hv
  refine nY ?_;clear nY
  refine wpAny_truthy_bool ?_
  cases b
  ·exact h2 ok Y R' (by simpa using q')
  ·exact Bi.mk (.bool _) R' (by simpa using q')
 ·exact q'.elim
theorem Afw{e:Expr}{rest:List Expr}{x y:X}{p:Pos}(h:ST W G n c e x)(h2:ST W G n c (.BoolOp .And rest p) y):ST W G n c (.BoolOp .And (e::rest) p) (.and x y):=by
 intro A env aa H ρ s Q E ok Y R q
 simp only[Zb,Zc,Zd,Ze,Zf,Zg,Zh,Zi,Zj,Zk,Zl,Zm,Zn,Zo,Bo,Zp,Zq,Zr,Zs,Zt,Ax,Dg,Be,Ay,Zu,Zv,A3,Bb]at q
 refine isTrue_and (wpAny_mono (h (E:=E) (Q:=fun b H=>if b then Aw G (Ae G n) y ρ H (fun v H=>truthy v fun b=>Q b H) E else Q false H) ok Y R ?_) (fun b s' r=>?_) fun _ _ e=>e)
 ·refine cast ?_ q;congr 1
 ·refine Aa fun nY=>?_
  obtain⟨H',R',q'⟩:=r
  cases b
  ·refine nY ?_;clear nY
   exact⟨H',R',by simpa using q'⟩
  ·refine nY ?_;clear nY
   exact h2 ok Y R' (by simpa using q')
theorem P3{M:Model}{x:Expr}{rest:List Expr}{pos:Pos}{whole:Sem Value}{Q:Bool->Shared->Prop}
 (h:wpAny M A (isTrue x env (eval x env)) (fun c s'=>if c then Q true s' else wpAny M A (isTrue (.BoolOp .Or rest pos) env whole) Q E s') E s) :
 wpAny M A (isTrue (.BoolOp .Or (x::rest) pos) env whole) Q E s:=by
 show wpAny M A (do
  match BoolOp.Or,<-isTrue x env (eval x env)with
  | .And,false=>pure false
  | .Or,true=>pure true
  | _,_=>allTrue .Or rest env) Q E s
 refine wpAny_bind (wpAny_mono h (fun b s' r=>?_) fun _ _ e=>e)
 cases b
 ·exact r
 ·exact wpAny_pure r
theorem Ah9{e:Expr}{rest:List Expr}{x y:X}{p:Pos}(h:ST W G n c e x)(h2:ST W G n c (.BoolOp .Or rest p) y):ST W G n c (.BoolOp .Or (e::rest) p) (.or x y):=by
 intro A env aa H ρ s Q E ok Y R q
 simp only[Zb,Zc,Zd,Ze,Zf,Zg,Zh,Zi,Zj,Zk,Zl,Zm,Zn,Zo,Bo,Zp,Zq,Zr,Zs,Zt,Ax,Dg,Be,Ay,Zu,Zv,A3,Bb]at q
 refine P3 (wpAny_mono (h (E:=E) (Q:=fun b H=>if b then Q true H else Aw G (Ae G n) y ρ H (fun v H=>truthy v fun b=>Q b H) E) ok Y R ?_) (fun b s' r=>?_) fun _ _ e=>e)
 ·refine cast ?_ q;congr 1
 ·obtain⟨H',R',q'⟩:=r
  cases b
  ·exact h2 ok Y R' (by simpa using q')
  ·exact⟨H',R',by simpa using q'⟩
theorem Afx{op:BoolOp}{e:Expr}{x:X}{p:Pos}(h:ST W G n c e x):ST W G n c (.BoolOp op [e] p) x:=by
 intro A env aa H ρ s Q E ok Y R q
 cases op
 ·refine isTrue_and (wpAny_mono (h ok Y R q) (fun b s' r=>?_) fun _ _ e=>e)
  refine Aa fun nY=>?_
  obtain⟨H',R',q'⟩:=r
  cases b
  ·refine nY ?_;clear nY
   exact⟨H',R',q'⟩
  ·refine nY ?_;clear nY
   exact isTrue_and_nil ⟨H',R',q'⟩
 ·refine P3 (wpAny_mono (h ok Y R q) (fun b s' r=>?_) fun _ _ e=>e)
  refine Aa fun nY=>?_
  obtain⟨H',R',q'⟩:=r
  cases b
  ·refine nY ?_;clear nY
   exact wpAny_pure (a:=false) ⟨H',R',q'⟩
  ·refine nY ?_;clear nY
   exact⟨H',R',q'⟩
theorem Afy{l r:Expr}{op:Operator}{x y:X}{p:Pos}(h:SE W G n c l x)(h2:SE W G n c r y):SE W G n c (.BinOp l op r p) (.bin op x y):=by
 intro A env aa H ρ s Q E ok Y R q
 simp only[Zb,Zc,Zd,Ze,Zf,Zg,Zh,Zi,Zj,Zk,Zl,Zm,Zn,Zo,Bo,Zp,Zq,Zr,Zs,Zt,Ax,Dg,Be,Ay,Zu,Zv,A3,Bb]at q
 refine wpAny_BinOp (wpAny_mono (h ok Y R q) (fun v s' r=>?_) fun _ _ e=>e)
 refine Aa fun nY=>?_
 obtain⟨a,H',hv,R',q'⟩:=r
 refine nY ?_;clear nY
 refine wpAny_mono (h2 ok Y R' q') (fun v2 s2 r=>?_) fun _ _ e=>e
 refine Aa fun nY=>?_
 obtain⟨b,H2,hv2,R2,q2⟩:=r
 refine nY ?_;clear nY
 exact Sh Y R2 hv hv2 q2
theorem Afz{l r:Expr}{op:CmpOp}{x y:X}{p:Pos}(h:SE W G n c l x)(h2:SE W G n c r y)(hm:behindInMarks op r=false):SE W G n c (.Compare l [op] [r] p) (.cmp op x y):=by
 intro A env aa H ρ s Q E ok Y R q
 simp only[Zb,Zc,Zd,Ze,Zf,Zg,Zh,Zi,Zj,Zk,Zl,Zm,Zn,Zo,Bo,Zp,Zq,Zr,Zs,Zt,Ax,Dg,Be,Ay,Zu,Zv,A3,Bb]at q
 refine wpAny_Compare1 (wpAny_mono (h ok Y R q) (fun v s' r=>?_) fun _ _ e=>e) hm
 refine Aa fun nY=>?_
 obtain⟨a,H',hv,R',q'⟩:=r
 refine nY ?_;clear nY
 refine wpAny_mono (h2 ok Y R' q') (fun v2 s2 r=>?_) fun _ _ e=>e
 refine Aa fun nY=>?_
 obtain⟨b,H2,hv2,R2,q2⟩:=r
 refine nY ?_;clear nY
 exact Dd ok Y R2 hv hv2 q2
theorem Oa{v:Value}{Q:Bool->AH->Prop}(r:Bi W aa env names ρ (fun v H=>truthy v fun b=>Q b H) v s):wpAny W.M A (PySem.truthy v) (fun b s'=>∃H',Av W aa env names H' ρ s'/\Q b H') E s:=by
 refine Aa fun nY=>?_
 obtain⟨a,H',hv,R',q'⟩:=r
 delta truthy at q'
 split at q'
 ·refine nY ?_;clear nY
  cases hv;exact wpAny_truthy_bool ⟨H',R',q'⟩
 ·exact q'.elim
theorem Af0{l r:Expr}{op:CmpOp}{x y:X}{p:Pos}(h:SE W G n c l x)(h2:SE W G n c r y)(hm:behindInMarks op r=false):ST W G n c (.Compare l [op] [r] p) (.cmp op x y):=by
 intro A env aa H ρ s Q E ok Y R q
 simp only[Zb,Zc,Zd,Ze,Zf,Zg,Zh,Zi,Zj,Zk,Zl,Zm,Zn,Zo,Bo,Zp,Zq,Zr,Zs,Zt,Ax,Dg,Be,Ay,Zu,Zv,A3,Bb]at q
 refine wpAny_isTrue_Compare1 (wpAny_mono (h ok Y R q) (fun v s' r=>?_) fun _ _ e=>e) hm
 refine Aa fun nY=>?_
 obtain⟨a,H',hv,R',q'⟩:=r
 refine nY ?_;clear nY
 refine wpAny_mono (h2 ok Y R' q') (fun v2 s2 r=>?_) fun _ _ e=>e
 refine Aa fun nY=>?_
 obtain⟨b,H2,hv2,R2,q2⟩:=r
 refine nY ?_;clear nY
 exact wpAny_mono (Dd ok Y R2 hv hv2 q2) (fun v s' r=>Oa r) fun _ _ e=>e
theorem Aas{l m r:Expr}{o1 o2:CmpOp}{x y z:X}{p:Pos}(h:SE W G n c l x)(h2:SE W G n c m y)(h3:SE W G n c r z)(hm:lastMarks [o1,o2] [m,r]=false):SE W G n c (.Compare l [o1,o2] [m,r] p) (.chain x o1 y o2 z):=by
 intro A env aa H ρ s Q E ok Y R q
 simp only[Zb,Zc,Zd,Ze,Zf,Zg,Zh,Zi,Zj,Zk,Zl,Zm,Zn,Zo,Bo,Zp,Zq,Zr,Zs,Zt,Ax,Dg,Be,Ay,Zu,Zv,A3,Bb]at q
 refine Compare_chain (wpAny_mono (h ok Y R q) (fun v s' r=>?_) fun _ _ e=>e) hm
 refine Aa fun nY=>?_
 obtain⟨a,H',hv,R',q'⟩:=r
 refine nY ?_;clear nY
 refine chain_link (wpAny_mono (h2 ok Y R' q') (fun v2 s2 r=>?_) fun _ _ e=>e)
 refine Aa fun nY=>?_
 obtain⟨b,H2,hv2,R2,q2⟩:=r
 refine nY ?_;clear nY
 refine wpAny_mono (Dd ok Y R2 hv hv2 q2) (fun v3 s3 r=>?_) fun _ _ e=>e
 refine Aa fun nY=>?_
 obtain⟨d,H3,hv3,R3,q3⟩:=r
 delta truthy at q3
 split at q3
 ·rename_i t
  cases hv3
  refine nY ?_;clear nY
  refine wpAny_truthy_bool ?_
  cases t
  ·exact Bi.mk (.bool _) R3 (by simpa using q3)
  ·refine chain_last (wpAny_mono (h3 ok Y R3 (by simpa using q3)) (fun v4 s4 r=>?_) fun _ _ e=>e)
   refine Aa fun nY=>?_
   obtain⟨d,H4,hv4,R4,q4⟩:=r
   refine nY ?_;clear nY
   exact Dd ok Y R4 hv2 hv4 q4
 ·exact q3.elim
theorem Aat{l m r:Expr}{o1 o2:CmpOp}{x y z:X}{p:Pos}(h:SE W G n c l x)(h2:SE W G n c m y)(h3:SE W G n c r z)(hm:lastMarks [o1,o2] [m,r]=false):ST W G n c (.Compare l [o1,o2] [m,r] p) (.chain x o1 y o2 z):=by
 intro A env aa H ρ s Q E ok Y R q
 simp only[Zb,Zc,Zd,Ze,Zf,Zg,Zh,Zi,Zj,Zk,Zl,Zm,Zn,Zo,Bo,Zp,Zq,Zr,Zs,Zt,Ax,Dg,Be,Ay,Zu,Zv,A3,Bb]at q
 refine isTrue_chain (wpAny_mono (h ok Y R q) (fun v s' r=>?_) fun _ _ e=>e) hm
 refine Aa fun nY=>?_
 obtain⟨a,H',hv,R',q'⟩:=r
 refine nY ?_;clear nY
 refine test_link (wpAny_mono (h2 ok Y R' q') (fun v2 s2 r=>?_) fun _ _ e=>e)
 refine Aa fun nY=>?_
 obtain⟨b,H2,hv2,R2,q2⟩:=r
 refine nY ?_;clear nY
 refine wpAny_mono (Dd ok Y R2 hv hv2 q2) (fun v3 s3 r=>?_) fun _ _ e=>e
 refine Aa fun nY=>?_
 obtain⟨d,H3,hv3,R3,q3⟩:=r
 delta truthy at q3
 split at q3
 ·rename_i t
  cases hv3
  refine nY ?_;clear nY
  refine wpAny_truthy_bool ?_
  cases t
  ·exact⟨H3,R3,by simpa[truthy]using q3⟩
  ·refine test_last (wpAny_mono (h3 ok Y R3 (by simpa using q3)) (fun v4 s4 r=>?_) fun _ _ e=>e)
   refine Aa fun nY=>?_
   obtain⟨d,H4,hv4,R4,q4⟩:=r
   refine nY ?_;clear nY
   exact wpAny_mono (Dd ok Y R4 hv2 hv4 q4) (fun v s' r=>Oa r) fun _ _ e=>e
 ·exact q3.elim
end Mine.Internal
namespace Mine.Internal
open PySem PySem.W PyProof.Rows
variable {W:Wd} {G:A2} {A:Around} {aa:HB} {env:Env} {c:Cx} {names:List Str} {H:AH} {ρ:Ak} {s:Shared} {E:Value->Shared->Prop} {n:Nat} {Q:Ag} {Er:EP}
theorem Mz{ns:List Str}{vs:List Value}(hl:ns.length=vs.length)(n:Str)(h:n∈ns):((ns.zip vs).lookup n).isSome=true:=by
 induction ns generalizing vs with
 | nil=>cases h
 | cons a ns ih=>
   refine Aa fun nY=>?_
   cases vs with
   | nil=>cases hl
   | cons v vs=>
     refine nY ?_;clear nY
     rw[List.zip_cons_cons,List.lookup_cons]
     cases q:n==a with
     | true=>rfl
     | false=>
       refine Aa fun nY=>?_
       rcases List.mem_cons.mp h with rfl|h
       ·rw[beq_self_eq_true]at q;cases q
       ·refine nY ?_;clear nY
        exact ih (Nat.succ.inj hl) h
theorem S3{α β:Type}{f g:α->Option β}:∀ {l:List α},(∀x∈l,f x=g x)->l.filterMap f=l.filterMap g
 | [],_=>rfl
 | a::l,h=>by rw[List.filterMap_cons,List.filterMap_cons,h a (.head _),S3 fun x hx=>h x (.tail _ hx)]
theorem Pc{ns:List Str}{vs:List Value}(hl:ns.length=vs.length)(hn:ns.Nodup):ns.filterMap (fun n=>((ns.zip vs).lookup n).map (n,·))=ns.zip vs:=by
 induction ns generalizing vs with
 | nil=>rfl
 | cons a ns ih=>
   cases vs with
   | nil=>cases hl
   | cons v vs=>
     obtain⟨h1,h2⟩:=List.nodup_cons.mp hn
     simp only[List.zip_cons_cons,List.filterMap_cons,List.lookup_cons,beq_self_eq_true,Option.map_some]
     congr 1
     refine Eq.trans (S3 fun n hn=>?_) (ih (Nat.succ.inj hl) h2)
     have:(n==a)=false:=by simpa using fun q:n=a=>h1 (q▸hn)
     rw[this]
theorem Uv{fd:FuncData}{vs:List Value}(hp:Ft fd.params=true)(hd:fd.defaults = .none)(hl:fd.params.args.length=vs.length)(hn:(fd.params.args.map (·.arg)).Nodup) :
 bindArgs fd ⟨vs,[]⟩=pure ((fd.params.args.map (·.arg)).zip vs):=by
 unfold Ft at hp
 simp only[Bool.and_eq_true,List.isEmpty_iff,Option.isNone_iff_eq_none]at hp
 refine Aa fun nY=>?_
 obtain⟨⟨⟨⟨⟨h1,h2⟩,h3⟩,h4⟩,h5⟩,h6⟩:=hp
 have hl':(fd.params.args.map (·.arg)).length=vs.length:=by simpa using hl
 have e2:=Pc hl' hn
 have e1:∀k,((fd.params.args.map (·.arg)).take k).filter (fun n=>(((fd.params.args.map (·.arg)).zip vs).lookup n).isNone) = []:=by
  intro k
  rw[List.filter_eq_nil_iff];intro n h
  have:=Mz hl' n (List.mem_of_mem_take h)
  cases q:((fd.params.args.map (·.arg)).zip vs).lookup n with
  | none=>rw[q]at this;cases this
  | some _=>simp
 refine nY ?_;clear nY
 have e3:¬(decide (vs.length>(fd.params.args.map (·.arg)).length)&&true)=true:=by simp;exact Nat.le_of_eq hl.symm
 clear hl hl' hn
 cases fd with|mk nm qn ps bd sc gl cl df kd pm cd=>
 cases ps with|mk a1 a2 a3 a4 a5 a6 a7=>
 dsimp only at h1 h2 h3 h4 h5 h6 hd e1 e2 e3 ⊢
 subst h1 h2 h3 h5 hd
 generalize hN:a2.map Arg.arg=N at *
 subst hN
 have e4:∀k,¬(!(((a2.map Arg.arg).take k).filter (fun n=>(((a2.map Arg.arg).zip vs).lookup n).isNone)).isEmpty)=true:=fun k=>by rw[e1 k];decide
 refine(if_neg (c:=(decide (vs.length>([]++a2.map Arg.arg).length)&&Option.isNone (none:Option Arg))=true) e3).trans ((if_neg (e4 _)).trans ?_)
 dsimp only[List.map_nil,List.nil_append,List.toList_toArray,Option.getD_none,List.length_nil]
 rw[List.drop_nil,List.zip_nil_right]
 show (pure:List (Str×Value)->Sem (List (Str×Value))) (List.filterMap (fun n=>(((a2.map Arg.arg).zip vs).lookup n).map (n,·)) (a2.map Arg.arg ++ []))=_
 rw[List.append_nil,e2]
noncomputable def NS(es:List Expr):Prop:=∀e∈es,∀v p,e≠ .Starred v p
theorem NS.plain{es:List Expr}(h:NS es){pos:Pos}{env:Env}:(backTo pos (starEach es env)).any (·.1)=false:=by
 induction es with
 | nil=>rfl
 | cons e r ih=>
   rw[B8 (h e (.head _))]
   show (false||(backTo pos (starEach r env)).any (·.1))=false
   rw[ih fun e he=>h e (.tail _ he)];rfl
theorem He{es:List Expr}{xs:List X}(h:Wg W G n c es xs)(hn:NS es)(ok:Pu A c aa env n)(Y:Ap W env c aa)(R:Av W aa env c.names H ρ s){f:Value}{pos:Pos}{Q:List V->AH->Prop}(q:Cw G (Ae G n) xs ρ H Q Er)
 {Q':Args->Shared->Prop} (hq:∀as us H' s',C5 W as us->Av W aa env c.names H' ρ s'->Q as H'->Q' ⟨us,[]⟩ s'):wpAny W.M A (evalArgs f true (backTo pos (starEach es env)) []) Q' EM s:=by
 have z:=h (pos:=pos) ok Y R q
 have z':wpAny W.M A (spliced (backTo pos (starEach es env))) (fun us s'=>Q' ⟨us,[]⟩ s') EM s:=
  wpAny_mono z (fun us s' r=>by obtain⟨as,H',h1,_,h2,h3⟩:=r;exact hq as us H' s' h1 h2 h3) fun _ _ e=>e
 cases es with
 | nil=>
   unfold evalArgs
   show wpAny W.M A (spliced [] >>= _) Q' EM s
   refine wpAny_bind (wpAny_mono z' (fun vs s' h'=>?_) fun _ _ e=>e)
   refine wpAny_holding ?_
   exact wpAny_bind (wpAny_pure (wpAny_bind (wpAny_pure (wpAny_pure h'))))
 | cons e r=>
   rw[B8 (hn e (.head _))]at z' ⊢
   exact Calls.evalArgs_plain z'
theorem Jd.keep(g:Jd W G)(Y:Ap W env c aa)(R:Av W aa env names H ρ s):W.K.In s.heap:=fun a o e=>R.keepB Y a o (g.X a o e)
theorem Adp(g:Jd W G)(sc:SC W G n){f:Str}{p pos:Pos}{es:List Expr}{xs:List X}(hg:c.global f=true)(hd:(f==("__debug__" :Str))=false)(ho:Go f=none)(hs:Wg W G n c es xs)(hn:NS es):SE W G n c (.Call (.Name f p) es [] pos) (.call f xs):=by
 intro A env aa H ρ s Q E ok Y R q
 simp only[Zb,Zc,Zd,Ze,Zf,Zg,Zh,Zi,Zj,Zk,Zl,Zm,Zn,Zo,Bo,Zp,Zq,Zr,Zs,Zt,Ax,Dg,Be,Ay,Zu,Zv,A3,Bb]at q
 refine Aa fun nY=>?_
 obtain⟨d,hd'⟩:=Option.isSome_iff_exists.mp q.1
 obtain⟨fa,h1,name,qual,params,body,scope,doc,pm,cdv,ct,oc,an,od,osl,F⟩:=g.fn f d hd'
 refine nY ?_;clear nY
 refine Call_ (Lr g Y R hg hd (Qx ho h1) ?_)
 refine Calls.callWith_function (He hs hn ok Y R q.2 fun as us H' s' hv R' q'=>⟨⟨g.keep Y R' _ _ F.at_,rfl⟩,?_⟩)
 exact wpAny_call (sc ok.handled (by have:=ok.room;exact(Nat.lt_of_le_of_lt (Nat.add_le_add_left (by decide:2<=4) _) this)) (by have:=ok.units;exact(Nat.lt_of_le_of_lt (Nat.add_le_add_left (by decide:40<=60) _) this)) Y R' h1 hv q')
theorem Qy{o:Expr}{a:Str}{whole:Sem Value}(h:Im o=true):attributeBase o a env whole=whole:=by
 cases o<;>try rfl
 case Call f args kw p=>
  cases f<;>try rfl
  case Name x q=>
   cases args with
   | cons _ _=>rfl
   | nil=>
     cases kw with
     | cons _ _=>rfl
     | nil=>cases h
theorem Xl{fs:List (C2×V)}{es:List DictEntry}(h:Xb W fs es){m:Str}(hm:∀a,A4 a≠m):getL m es=some none:=by
 have h1:es.find? (·.key.isStr m)=none/\es.any (·.refKey)=false:=by
  induction h with
  | nil=>exact⟨rfl,rfl⟩
  | cons h1 h2 h3 h4 ih=>
    obtain⟨t,ht⟩:=h2
    refine⟨?_,?_⟩
    ·rw[List.find?_cons,ht,Ip (hm _)];exact ih.1
    ·rw[List.any_cons,ih.2]
     simp[DictEntry.refKey,ht]
 unfold getL
 rw[h1.1,h1.2];rfl
theorem Wh{cc:Qn}(h:cc = .web\/cc = .verdict):Go (Dr cc)=some (cc,("__init__" :Str)):=by rcases h with rfl|rfl<;>decide
theorem Ob{f m:Str}{cc:Qn}{fa:Addr}(ho:Go f=some (cc,m))(h:E6 W f=some fa):findIn W.K (.ref (W.cl cc)) m=some (some (.ref fa)):=by
 delta E6 at h
 rw[ho]at h
 simp only at h
 refine Aa fun nY=>?_
 split at h
 ·refine nY ?_;clear nY
  rename_i e;cases h;exact e
 ·cases h
theorem Adk.isFn{fa:Addr}{d name qual params body scope doc pm cdv ct oc an od osl}(F:Adk W fa d name qual params body scope doc pm cdv ct oc an od osl):isFn W.K (.ref fa)=true:=by
 have:=F.at_
 rw[F.typ]at this
 unfold PySem.W.isFn typeIn
 simp only[this];rfl
theorem Adq(g:Jd W G)(sc:SC W G n){o:Expr}{m f:Str}{ap pos:Pos}{y:X}{es:List Expr}{xs:List X}(hb:Im o=true)(hl:(ap.endLine==pos.line)=true)(hfew:es.length<3)(ho:Go f=some (.web,m))(h:SE W G n c o y)(hs:Wg W G n c es xs)(hn:NS es) :
 SE W G n c (.Call (.Attribute o m ap) es [] pos) (.meth f y xs):=by
 intro A env aa H ρ s Q E ok Y R q
 simp only[Zb,Zc,Zd,Ze,Zf,Zg,Zh,Zi,Zj,Zk,Zl,Zm,Zn,Zo,Bo,Zp,Zq,Zr,Zs,Zt,Ax,Dg,Be,Ay,Zu,Zv,A3,Bb]at q
 rw[arm_eval_Call,Qy hb]
 refine wpAny_bind (wpAny_mono (h ok Y R q) (fun ov ar r=>wpAny_bind (wpAny_standAt ?_)) fun _ _ e=>e)
 refine Aa fun nY=>?_
 obtain⟨a,H',hv,R',q'⟩:=r
 refine nY ?_;clear nY
 apply Bx hv q';intro x q';refine Acx q' fun dd e1 q'=>?_;refine Uf q' fun fs e2 q'=>?_
 refine Aa fun nY=>?_
 obtain⟨hsome,q'⟩:=q'
 obtain⟨d,hd'⟩:=Option.isSome_iff_exists.mp hsome
 obtain⟨fa,h1,name,qual,params,body,scope,doc,pm,cdv,ct,oc,an,od,osl,F⟩:=g.fn f d hd'
 obtain⟨hp,hat⟩:=g.meth f m fa ho h1
 have hform:methodCallForm (es.length+([]:List Keyword).length) (backTo pos (starEach es env)) (backToKw pos (keywordEach [] env))=true:=by
  unfold methodCallForm
  have:(backTo pos (starEach es env)).all (fun x=> !x.1)=true:=by
   have:=hn.plain (pos:=pos) (env:=env)
   rw[List.any_eq_false]at this
   rw[List.all_eq_true];intro x hx;simpa using this x hx
  rw[this]
  have:es.length+0+0<30:=(Nat.lt_trans hfew (by decide))
  simpa[show backToKw pos (keywordEach [] env) = []from rfl]using this
 refine nY ?_;clear nY
 have hpos:methodCallPos true o env ap pos=pure pos:=by unfold methodCallPos;simp[hl]
 unfold methodCall
 rw[hform]
 refine Aa fun nY=>?_
 obtain⟨mm,FF⟩:=R'.kitF Y
 obtain⟨ob1,o1,o2⟩:=R'.objs _ _ e1
 obtain⟨ob2,o3,o4⟩:=R'.objs _ _ e2
 cases o2
 cases o4 with
 | ns hns hz=>
 have I:PySem.W.InstAt ar.heap x (instObj (W.cl .web) dd) (W.cl .web) (some (dictOf _ _)):=⟨o1,rfl,rfl,o3⟩
 refine nY ?_;clear nY
 refine wpAny_bind (wpAny_holding (method_inst FF g.X I hp (Ob ho h1) F.isFn (Xl hns hat) ?_))
 refine wpAny_bind (wpAny_of_eq hpos ?_)
 refine Calls.callWith_function (He hs hn ok Y R' q' fun as us H' s' hv R' q'=>⟨⟨g.keep Y R' _ _ F.at_,rfl⟩,?_⟩)
 exact wpAny_call (sc ok.handled (by have:=ok.room;exact(Nat.lt_of_le_of_lt (Nat.add_le_add_left (by decide:2<=4) _) this)) (by have:=ok.units;exact(Nat.lt_of_le_of_lt (Nat.add_le_add_left (by decide:40<=60) _) this)) Y R' h1 (.cons (.ref _) hv) q')
theorem Qz(C:Addr)(rest:List Value):(Code.builtin "type.__call__" ⟨.ref C::rest,[]⟩).weight<=1:=by
 first|exact(show (0:Nat)<=1 by decide)|exact(show (1:Nat)<=1 by decide)
theorem S4(a:Args):(Code.builtin "type.__call__" a).cUnits=1:=by kernel_rfl
theorem Afa(g:Jd W G)(sc:SC W G n){cc:Qn}{x:Str}{p pos:Pos}{es:List Expr}{xs:List X}(hcc:(cc = .web/\x = "Web")\/(cc = .verdict/\x = "Verdict"))(hg:c.global x=true)(hs:Wg W G n c es xs)(hn:NS es) :
 SE W G n c (.Call (.Name x p) es [] pos) (.mk cc xs):=by
 intro A env aa H ρ s Q E ok Y R q
 simp only[Zb,Zc,Zd,Ze,Zf,Zg,Zh,Zi,Zj,Zk,Zl,Zm,Zn,Zo,Bo,Zp,Zq,Zr,Zs,Zt,Ax,Dg,Be,Ay,Zu,Zv,A3,Bb]at q
 have hc':cc = .web\/cc = .verdict:=hcc.elim (fun h=> .inl h.1) fun h=> .inr h.1
 refine Aa fun nY=>?_
 obtain⟨d,hd'⟩:=Option.isSome_iff_exists.mp q.1
 obtain⟨fa,h1,name,qual,params,body,scope,doc,pm,cdv,ct,oc,an,od,osl,F⟩:=g.fn _ d hd'
 obtain⟨hm1,hm2⟩:=g.make cc hc' q.1
 refine nY ?_;clear nY
 have hns:nsIn W.K mainGlobals x=some (some (.ref (W.cl cc))):=by rcases hcc with⟨rfl,rfl⟩ | ⟨rfl,rfl⟩<;>exact hm1
 have hk:keepIn W.K (.ref (W.cl cc))=true:=by
  unfold makesIn at hm2
  refine Aa fun nY=>?_
  split at hm2
  ·rename_i e
   refine nY ?_;clear nY
   simp only[keepIn,e]
   simp only[Bool.and_eq_true]at hm2
   exact hm2.1.2
  ·cases hm2
 refine Call_ (Lr g Y R hg (by rcases hcc with⟨rfl,rfl⟩ | ⟨rfl,rfl⟩<;>decide) hns ?_)
 refine callWith_of (P:=W.K.In) (by simp[hn.plain]) (keeps_K hk) (He hs hn ok Y R q.2 fun as us H' s' hv R' q'=>⟨g.keep Y R',?_⟩)
 refine wpAny_call ?_
 have X:=g.keep Y R'
 refine Aa fun nY=>?_
 obtain⟨hh,gg,dd,tt,oo⟩:=s'
 refine nY ?_;clear nY
 refine make_core (makes_of X hm2) (looks_findIn X (Ob (Wh hc') h1)) (fun self=>bind_fn X self (beq_iff_eq.mp F.isFn)) (.inl rfl) ?_
 have hn1:=R'.fresh
 have R1:=R'.push (o:= .ns []) (ob:=emptyDict) (OR.ns (es:=[]) .nil (by simp)) rfl tt
 have hn2:=R1.fresh
 simp only[Heap.size_push]at hn1 hn2
 have hn3:H' (hh.objs.size+1)=none:=by
  unfold upd at hn2
  simp at hn2
  exact hn2
 have R2:=R1.push (o:= .inst cc hh.objs.size) (ob:=instObj (W.cl cc) hh.objs.size) (.inst hc') rfl tt
 simp only[Heap.size_push]at R2
 have q2:=q' (hh.objs.size+1) hh.objs.size hn3 hn1 (Nat.succ_ne_self _)
 refine codeAny_mono (sc (Q:=fun r H'=>r = .none/\Q (.ref (hh.objs.size+1)) H') (E:=E) ok.handled ?_ ?_ Y R2 h1 (.cons (.ref _) hv) q2) fun r s' z=>?_
 ·have:=ok.room;show A.depth+Code.weight _+_+_<_;refine Nat.lt_of_le_of_lt (Nat.add_le_add_right (Nat.add_le_add_right (Nat.add_le_add_left (Qz _ _) _) _) _) ?_;exact Ak1 this
 ·have:=ok.units;show A.units+Code.cUnits _+_+_<_;rw[S4];exact Ak2 this
 ·rcases r with e|(v|_|_|_)<;>first|exact z|exact z.elim|skip
  refine Aa fun nY=>?_
  obtain⟨a,H3,hv3,R3,e3,q3⟩:=z
  subst e3
  cases hv3
  refine nY ?_;clear nY
  exact⟨rfl,Bi.mk (.ref _) R3 q3⟩
end Mine.Internal
namespace Mine.Internal
open PySem PySem.W PyProof.Rows
variable {W:Wd} {G:A2} {A:Around} {aa:HB} {env:Env} {c:Cx} {names:List Str} {H:AH} {ρ:Ak} {s:Shared} {E:Value->Shared->Prop} {n:Nat} {Q:Ag} {Er:EP}
noncomputable def Aia(x:Str)(b:BI):Prop:=x∈I8/\bootBuiltins x=some (Ae9 b)/\x≠ "__name__" /\(x==("__debug__" :Str))=false
theorem Af1:∀p∈Y4,Aia p.1 p.2.2/\N6 p.2.2=true:=
 List.forall_mem_cons.mpr ⟨⟨⟨by decide,by kernel_rfl,by decide,by decide⟩,by decide⟩,List.forall_mem_cons.mpr ⟨⟨⟨by decide,by kernel_rfl,by decide,by decide⟩,by decide⟩,List.forall_mem_cons.mpr ⟨⟨⟨by decide,by kernel_rfl,by decide,by decide⟩,by decide⟩,List.forall_mem_cons.mpr ⟨⟨⟨by decide,by kernel_rfl,by decide,by decide⟩,by decide⟩,List.forall_mem_cons.mpr ⟨⟨⟨by decide,by kernel_rfl,by decide,by decide⟩,by decide⟩,List.forall_mem_cons.mpr ⟨⟨⟨by decide,by kernel_rfl,by decide,by decide⟩,by decide⟩,List.forall_mem_nil _⟩⟩⟩⟩⟩⟩
theorem Aau{x:Str}{k:Nat}{b:BI}(h:Act x k=some b):Aia x b/\N6 b=true:=Af1 (x,(k,b)) (Sc h)
theorem Oc(g:Jd W G)(Y:Ap W env c aa)(R:Av W aa env names H ρ s){x:Str}{p pos:Pos}{v:Value}{es:List Expr}{Q:Value->Shared->Prop}(hv:(∃i,v = .builtin i)\/∃i,v = .type i)(hg:c.global x=true)(hd:(x==("__debug__" :Str))=false)(hx:x∈I8)
 (hb:bootBuiltins x=some v) (hnm:x≠ "__name__") (hn:NS es) (h:wpAny W.M A (evalArgs v true (backTo pos (starEach es env)) []) (fun a ar=>wpAny W.M A (call v a.pos a.kw) Q E ar) E s) :
 wpAny W.M A (eval (.Call (.Name x p) es [] pos) env) Q E s:=by
 refine Call_ (N9 g Y R hg hd hx hb hnm ?_)
 rcases hv with⟨i,rfl⟩ | ⟨i,rfl⟩
 ·exact Calls.callWith_builtin hn.plain h
 ·exact PySem.callWith_type hn.plain h
theorem Aib(g:Jd W G){b:BI}{x:Str}{p pos:Pos}{es:List Expr}{xs:List X}(hb:Act x es.length=some b)(hg:c.global x=true)(hs:Wg W G n c es xs)(hn:NS es) :
 SE W G n c (.Call (.Name x p) es [] pos) (.bi b xs):=by
 intro A env aa H ρ s Q E ok Y R q
 simp only[Zb,Zc,Zd,Ze,Zf,Zg,Zh,Zi,Zj,Zk,Zl,Zm,Zn,Zo,Bo,Zp,Zq,Zr,Zs,Zt,Ax,Dg,Be,Ay,Zu,Zv,A3,Bb]at q
 refine Aa fun nY=>?_
 obtain⟨⟨h1,h2,h3,h4⟩,hd⟩:=Aau hb
 refine nY ?_;clear nY
 refine Oc g Y R ?_ hg h4 h1 h2 h3 hn (He hs hn ok Y R q fun as us H' s' hv R' q'=>?_)
 ·cases b<;>first|exact .inl ⟨_,rfl⟩|exact .inr ⟨_,rfl⟩|cases hd
 ·exact Ur ok Y R' hd hv q'
theorem Aav{x:Str}{t:Ty}(h:Y3 x=some t)(hp:Fj t=true):(x = "int" /\t = .int)\/(x = "bool" /\t = .bool)\/(x = "list" /\t = .list)\/(x = "tuple" /\t = .tuple):=
 (by decide:∀p∈Vt,Fj p.2=true->(p.1 = "int" /\p.2 = .int)\/(p.1 = "bool" /\p.2 = .bool)\/(p.1 = "list" /\p.2 = .list)\/(p.1 = "tuple" /\p.2 = .tuple)) (x,t) (Vs h) hp
theorem Aaw{x:Str}{t:Ty}(h:Y3 x=some t)(hp:Fj t=true):x∈I8/\bootBuiltins x=some (Aai W t)/\x≠ "__name__" /\(x==("__debug__" :Str))=false:=by
 rcases Aav h hp with⟨rfl,rfl⟩ | ⟨rfl,rfl⟩ | ⟨rfl,rfl⟩ | ⟨rfl,rfl⟩<;>exact⟨by decide,by kernel_rfl,by decide,by decide⟩
theorem Aic(g:Jd W G)(Y:Ap W env c aa)(R:Av W aa env names H ρ s){t:Ty}{tn:Str}{tp:Pos}(ht:Y3 tn=some t)(hp:Fj t=true)(hgt:c.global tn=true){Q:Value->Shared->Prop}(h:Q (Aai W t) s):wpAny W.M A (eval (.Name tn tp) env) Q E s:=by
 obtain⟨t1,t2,t3,t4⟩:=Aaw (W:=W) ht hp
 exact N9 g Y R hgt t4 t1 t2 t3 h
theorem Xm(g:Jd W G){t:Ty}{tn:Str}{p tp pos:Pos}{e:Expr}{x:X}(ht:Y3 tn=some t)(hg:c.global "isinstance" = true)(hgt:c.global tn=true)(h:SE W G n c e x)(hn:∀v p,e≠ .Starred v p) :
 SE W G n c (.Call (.Name "isinstance" p) [e,.Name tn tp] [] pos) (.bi (.isinst t) [x]):=by
 intro A env aa H ρ s Q E ok Y R q
 simp only[Zb,Zc,Zd,Ze,Zf,Zg,Zh,Zi,Zj,Zk,Zl,Zm,Zn,Zo,Bo,Zp,Zq,Zr,Zs,Zt,Ax,Dg,Be,Ay,Zu,Zv,A3,Bb]at q
 refine Oc g Y R (.inl ⟨"isinstance",rfl⟩) hg (by decide) (by decide) (by kernel_rfl) (by decide) ?_ ?_
 ·intro e' he' v p' q'
  refine Aa fun nY=>?_
  rcases List.mem_cons.mp he' with rfl|he'
  ·refine nY ?_;clear nY
   exact hn _ _ q'
  ·rcases List.mem_cons.mp he' with rfl|he'
   ·cases q'
   ·cases he'
 ·rw[B8 hn,B8 (fun _ _ q=>by cases q)]
  refine Calls.evalArgs_plain (Calls.spliced_cons (wpAny_mono (h ok Y R q) (fun u s' r=>?_) fun _ _ e=>e))
  refine Aa fun nY=>?_
  obtain⟨a,H',hv,R',q'⟩:=r
  obtain⟨hp,q'⟩:=q'
  refine nY ?_;clear nY
  refine Calls.spliced_cons (Aic g Y R' ht hp hgt (Calls.spliced_nil ?_))
  refine Aa fun nY=>?_
  split at q'
  ·rename_i r e
   refine nY ?_;clear nY
   exact Qt R' hp hv e q'
  ·exact q'.elim
theorem Af2{l:List Value}:∀ {a:Int},(∀(j:Nat) v,l[j]? = some v->∃t,v = .int (a+j) t)->C5 W ((List.range l.length).map fun(i:Nat)=>V.int (a+i)) l:=by
 induction l with
 | nil=>intro a h;exact .nil
 | cons x l ih=>
   intro a h
   obtain⟨t,rfl⟩:=h 0 x rfl
   rw[List.length_cons,List.range_succ_eq_map,List.map_cons,List.map_map]
   refine .cons (.int _ _) ?_
   rw[show ((fun(i:Nat)=>V.int (a+i))∘Nat.succ)=fun(i:Nat)=>V.int (a+1+i)from funext fun i=>congrArg V.int (by show a+((i+1:Nat):Int)=a+1+(i:Int);exact Ahy)]
   exact ih fun j v hj=>by
    obtain⟨t,e⟩:=h (j+1) v hj
    exact⟨t,by rw[e];congr 1;exact Ahy⟩
theorem Uw{a:Int}{k:Nat}{acc:Array Value}(h:ItemsOf (fun i v=>∃t,v = .int (a+i*1) t) acc k):C5 W ((List.range k).map fun(i:Nat)=>V.int (a+i)) acc.toList:=by
 have:=Af2 (W:=W) (l:=acc.toList) (a:=a) fun j v hj=>by
  obtain⟨t,e⟩:=h.2 j v (by rw[<-Array.getElem?_toList];exact hj)
  exact⟨t,by rw[e,Int.mul_one]⟩
 rw[Array.length_toList,h.1]at this
 exact this
end Mine.Internal
namespace Mine.Internal
open PySem PySem.W PyProof.Rows
variable {W:Wd} {G:A2} {A:Around} {aa:HB} {env:Env} {c:Cx} {names:List Str} {H H':AH} {ρ ρ':Ak} {s s':Shared} {E:Value->Shared->Prop} {n:Nat} {Q:Ag} {Er:EP}
noncomputable def Wi(env:Env)(H:AH)(k:Nat):List Addr:=(List.range k).filter fun a=>(H a).isSome||a==env.locals||env.cells.any fun p=>p.2==a
noncomputable def prot(env:Env)(fs:List Addr)(H:AH)(h:Heap):HB:=⟨hideAll h (Wi env H h.objs.size),fs⟩
theorem P4{k:Nat}{a:Addr}:a∈Wi env H k↔a<k/\((∃o,H a=some o)\/a=env.locals\/∃p∈env.cells,p.2=a):=by
 unfold Wi
 rw[List.mem_filter,List.mem_range]
 simp only[Bool.or_eq_true,beq_iff_eq,List.any_eq_true,or_assoc,Option.isSome_iff_exists]
theorem Cj{fs:List Addr}{h:Heap}{a:Addr}{o:Obj}(e:h.get? a=some o)(h1:H a=none)(h2:a≠env.locals)(h3:∀p∈env.cells,p.2≠a):(prot env fs H h).get? a=some o:=
 hideAll_get _ e fun q=>by
  rcases(P4.mp q).2 with⟨o,e⟩|e | ⟨p,hp,e⟩
  ·rw[h1]at e;cases e
  ·exact h2 e
  ·exact h3 p hp e
theorem Fx{fs:List Addr}{h:Heap}{a:Addr}{o:Obj}(e:(prot env fs H h).get? a=some o):h.get? a=some o:=of_hideAll _ e
theorem Cy{fs:List Addr}{h:Heap}{a:Addr}(hx:(∃o,H a=some o)\/a=env.locals\/∃p∈env.cells,p.2=a):(prot env fs H h).get? a=none:=by
 cases q:(prot env fs H h).get? a with
 | none=>rfl
 | some o=>
   have:=hideAll_none (h:=h) _ (P4.mpr ⟨Heap.lt_size (Fx q),hx⟩)
   replace q:(hideAll h (Wi env H h.objs.size)).get? a=some o:=q
   rw[this]at q;cases q
theorem Bf{cs:List (Str×Addr)}{x:Str}{a:Addr}(h:cs.lookup x=some a):∃p∈cs,p.2=a:=by
 induction cs with
 | nil=>cases h
 | cons p r ih=>
   obtain⟨y,b⟩:=p
   rw[List.lookup_cons]at h
   split at h
   ·cases h;exact⟨_,.head _,rfl⟩
   ·obtain⟨p,h1,h2⟩:=ih h;exact⟨p,.tail _ h1,h2⟩
theorem Av.prot(R:Av W aa env names H ρ s):Av W (prot env aa.fs H s.heap) env names H ρ s where
 ns:=R.ns
 cell:=R.cell
 keep:= .of fun _ _ e=>Fx e
 objs:=R.objs
 sep:=fun a o e=>⟨Cy (.inl ⟨o,e⟩),(R.sep a o e).2⟩
 gens:=R.gens
 os:=R.os
 above:=R.above
 low:=R.low
theorem Av.in_prot(R:Av W aa env names H ρ s)(Y:Ap W env c aa):Gq W aa (Mine.Internal.prot env aa.fs H s.heap).h:=fun b o e=>
 let ⟨o',e1,z⟩:=R.keep b o e;⟨o',Cj e1 (by cases q:H b with
  | none=>rfl
  | some x=>rw[(R.sep b x q).1]at e;cases e) (fun q=>by rw[q,Y.new]at e;cases e) (fun p hp q=>by have:=Y.newc p hp;rw[q,e]at this;cases this),z⟩
theorem Ap.prot(Y:Ap W env c aa)(R:Av W aa env names H ρ s):Ap W env c (Mine.Internal.prot env aa.fs H s.heap) where
 kind:=Y.kind
 globals:=Y.globals
 builtins:=Y.builtins
 kinds:=Y.kinds
 frees:=Y.frees
 cells:=Y.cells
 apart:=Y.apart
 inj:=Y.inj
 base:=fun b o e=>Cj (R.keepB Y b o e)
  (by cases q:H b with
      | none=>rfl
      | some x=>have:=(R.sep b x q).1;rw[Y.base b o e]at this;cases this)
  (fun q=>absurd (Heap.lt_size e) (Nat.not_lt.mpr (q▸R.above)))
  (fun p hp q=>by have:=Y.newc p hp;rw[q,Y.base b o e]at this;cases this)
 new:=Cy (.inr (.inl rfl))
 fsok:=fun L m q=>Y.fsok L m ((R.in_prot Y).none q)
 fsd:=fun L m=>⟨(Y.fsd L m).1,fun o e=>by obtain⟨o',e1,z⟩:=R.fsd Y m;rw[Fx e]at e1;cases e1;exact z⟩
 newc:=fun p hp=>Cy (.inr (.inr ⟨p,hp,rfl⟩))
 look:=Y.look
 lo:=Y.lo
theorem Av.sub(R:Av W aa env names H ρ s){am:HB}(k:Gq W am aa.h)(hf:∀b o,am.get? b=some o->b∈aa.fs->b∈am.fs):Av W am env names H ρ s where
 ns:=R.ns
 cell:=R.cell
 keep:=k.trans hf R.keep
 objs:=R.objs
 sep:=fun a o e=>by
  exact⟨k.none (R.sep a o e).1,(R.sep a o e).2⟩
 gens:=R.gens
 os:=R.os
 above:=R.above
 low:=R.low
theorem Av.unprot(R:Av W aa env names H ρ s)(Y:Ap W env c aa){names':List Str}(R':Av W (Mine.Internal.prot env aa.fs H s.heap) env names' H' ρ' s'):Av W aa env names' H' ρ' s':=R'.sub (R.in_prot Y) fun _ _ _ m=>m
theorem Pu.prot(ok:Pu A c aa env n)(Y:Ap W env c aa)(R:Av W aa env names H ρ s):Pu A c (Mine.Internal.prot env aa.fs H s.heap) env n:=⟨ok.handled,ok.room,ok.units⟩
theorem stays{a:Addr}{o:Obj}(e:s.heap.get? a=some o)(h1:H a=none)(h2:a≠env.locals)(h3:∀p∈env.cells,p.2≠a)(hx:a∉aa.fs){names':List Str}(R':Av W (Mine.Internal.prot env aa.fs H s.heap) env names' H' ρ' s'):s'.heap.get? a=some o:=
 R'.keep.exact (Cj e h1 h2 h3) (.inl hx)
/-! objects made by displays -/
theorem Adr{es:List Expr}{xs:List X}{p:Pos}(hs:Wg W G n c es xs)(hl:es.length<100):SE W G n c (.List es p) (.list xs):=by
 intro A env aa H ρ s Q E ok Y R q
 simp only[Zb,Zc,Zd,Ze,Zf,Zg,Zh,Zi,Zj,Zk,Zl,Zm,Zn,Zo,Bo,Zp,Zq,Zr,Zs,Zt,Ax,Dg,Be,Ay,Zu,Zv,A3,Bb]at q
 refine List_ (wpAny_mono (hs ok Y R q) (fun us s' r=>?_) fun _ _ e=>e)
 obtain⟨as,H',hv,hl',R',q'⟩:=r
 exact wpAny_newList (Bi.mk (.ref _) (R'.push (.list hv (by simp only[Bp];exact Ahp hl hl')) rfl _) (q' _ R'.fresh)) (hsz:=by rw[<-hv.length];simp only[sizeLine];exact Ahq hl hl')
theorem Aax{es:List Expr}{xs:List X}{k:Nat}{p:Pos}(hs:Wg W G n c es xs)(hl:es.length<100):SE W G n c (.Tuple es k p) (.tuple xs):=by
 intro A env aa H ρ s Q E ok Y R q
 simp only[Zb,Zc,Zd,Ze,Zf,Zg,Zh,Zi,Zj,Zk,Zl,Zm,Zn,Zo,Bo,Zp,Zq,Zr,Zs,Zt,Ax,Dg,Be,Ay,Zu,Zv,A3,Bb]at q
 refine Tuple_ (wpAny_mono (hs ok Y R q) (fun us s' r=>?_) fun _ _ e=>e)
 refine Aa fun nY=>?_
 obtain⟨as,H',hv,hl',R',q'⟩:=r
 refine nY ?_;clear nY
 exact wpAny_newTuple (Bi.mk (.ref _) (R'.push (.tuple hv (by simp only[Bp];exact Ahp hl hl')) rfl _) (q' _ R'.fresh)) (hsz:=by rw[<-hv.length];simp only[sizeLine];exact Ahq hl hl')
theorem Ads(g:Jd W G){o:Expr}{x:X}{a:C2}{an:Str}{p:Pos}(hb:Im o=true)(ha:Mj an=some a)(h:SE W G n c o x):SE W G n c (.Attribute o an p) (.attr x a):=by
 intro A env aa H ρ s Q E ok Y R q
 simp only[Zb,Zc,Zd,Ze,Zf,Zg,Zh,Zi,Zj,Zk,Zl,Zm,Zn,Zo,Bo,Zp,Zq,Zr,Zs,Zt,Ax,Dg,Be,Ay,Zu,Zv,A3,Bb]at q
 have hname:an=A4 a:=by
  delta Mj at ha
  repeat' split at ha
  all_goals first
   | (rename_i z;simp only[beq_iff_eq]at z;cases ha;exact z)
   | cases ha
 subst hname
 refine Attribute_any_ (wpAny_mono (h ok Y R q) (fun v s' r=>?_) fun _ _ e=>e) (by rw[arm_eval_Attribute,Qy hb])
 refine Aa fun nY=>?_
 obtain⟨ov,H',hv,R',q'⟩:=r
 refine nY ?_;clear nY
 exact Pa Y g.X g.inst R' hv q'
theorem Aay(Y:Ap W env c aa)(R:Av W aa env names H ρ s){a b:V}{u:Value}(hu:VR W a u)(q:C3 a b H Q):(Jy fun T id=>s.TypeIs u T/\typeLookup (.type T) "__getitem__" = pure (some (.builtin id))):=by
 apply Y8 q
 intro k q
 induction hu with
 | ref a=>
   dsimp only at q
   refine Aa fun nY=>?_
   split at q
   ·rename_i xs e
    obtain⟨l,h,_⟩:=R.isList e
    refine nY ?_;clear nY
    exact⟨_,_,h.typeIs,slot_list_getitem.lookup⟩
   ·rename_i xs e
    obtain⟨l,h,_⟩:=R.isTup e
    refine nY ?_;clear nY
    exact⟨_,_,h.typeIs,slot_tuple_getitem.lookup⟩
   ·rename_i xs e
    obtain⟨l,h,_⟩:=R.isDict e
    refine nY ?_;clear nY
    exact⟨_,_,h.typeIs,slot_dict_getitem.lookup⟩
   ·exact q.elim
 | script=>
   refine Aa fun nY=>?_
   obtain⟨l,h,_⟩:=R.script Y
   refine nY ?_;clear nY
   exact⟨_,_,h.typeIs,slot_list_getitem.lookup⟩
 | _=>exact False.elim q
noncomputable def Od:Expr->Bool
 | .Slice .. =>false
 | _=>true
theorem Ky{e:Expr}(h:Od e=true)(o i:Value):subscripted e false o i=operate [o,i] (getItem o i):=by
 cases e<;>first|rfl|cases h
theorem Af3{o i:Expr}{x y:X}{p:Pos}(hi:Od i=true)(h:SE W G n c o x)(h2:SE W G n c i y):SE W G n c (.Subscript o i p) (.sub x y):=by
 intro A env aa H ρ s Q E ok Y R q
 simp only[Zb,Zc,Zd,Ze,Zf,Zg,Zh,Zi,Zj,Zk,Zl,Zm,Zn,Zo,Bo,Zp,Zq,Zr,Zs,Zt,Ax,Dg,Be,Ay,Zu,Zv,A3,Bb]at q
 refine Subscript_ (wpAny_mono (h ok Y R q) (fun v s' r=>?_) fun _ _ e=>e)
 refine Aa fun nY=>?_
 obtain⟨a,H',hv,R',q'⟩:=r
 refine nY ?_;clear nY
 refine wpAny_mono (h2 ok Y R' q') (fun v2 s2 r=>?_) fun _ _ e=>e
 refine Aa fun nY=>?_
 obtain⟨b,H2,hv2,R2,q2⟩:=r
 obtain⟨T,id,t1,t2⟩:=Aay Y R2 hv q2
 refine nY ?_;clear nY
 exact tail_any t1 t2 (Sn Y R2 hv hv2 q2) (Ky hi _ _)
noncomputable def SO(W:Wd)(G:A2)(n:Nat)(c:Cx)(e:Option Expr)(x:X):Prop:=
 ∀ {A:Around} {env:Env} {aa:HB} {H:AH} {ρ:Ak} {s:Shared} {Q:Ag} {E:EP},Pu A c aa env n->Ap W env c aa->Av W aa env c.names H ρ s->Aw G (Ae G n) x ρ H Q E->
  wpAny W.M A (valueOrNone (evalOpt e env)) (Bi W aa env c.names ρ Q) EM s
theorem Adt:SO W G n c none .omit:=by
 intro A env aa H ρ s Q E ok Y R q
 exact wpAny_pure (Bi.mk .none R q)
theorem Adu{e:Expr}{x:X}(h:SE W G n c e x):SO W G n c (some e) x:=by
 intro A env aa H ρ s Q E ok Y R q
 exact h ok Y R q
theorem Ux(R:Av W aa env names H ρ s){a l u st:V}{v:Value}(hu:VR W a v)(q:C8 a l u st H Q):(Jy fun T id=>s.TypeIs v T/\typeLookup (.type T) "__getitem__" = pure (some (.builtin id))):=by
 induction hu with
 | ref a=>
   replace q:Qo a l u st H Q:=q
   refine Cn q fun _ _ q=>?_
   refine Cn q fun _ _ q=>?_
   refine E3 q fun xs e q=>?_
   obtain⟨l,h,_⟩:=R.isList e
   exact⟨_,_,h.typeIs,slot_list_getitem.lookup⟩
 | _=>exact False.elim q
theorem Kz(l u st:Option Expr)(p:Pos)(o i:Value):∃ops,subscripted (.Slice l u st p) false o i=operate ops (getItem o i):=by
 cases st
 ·exact⟨[i,o],rfl⟩
 ·exact⟨[o,i],rfl⟩
theorem Aaz{o:Expr}{l u st:Option Expr}{x xl xu xs:X}{p p2:Pos}(h:SE W G n c o x)(hl:SO W G n c l xl)(hu:SO W G n c u xu)(hs:SO W G n c st xs):SE W G n c (.Subscript o (.Slice l u st p2) p) (.slice x xl xu xs):=by
 intro A env aa H ρ s Q E ok Y R q
 simp only[Zb,Zc,Zd,Ze,Zf,Zg,Zh,Zi,Zj,Zk,Zl,Zm,Zn,Zo,Bo,Zp,Zq,Zr,Zs,Zt,Ax,Dg,Be,Ay,Zu,Zv,A3,Bb]at q
 refine Subscript_ (wpAny_mono (h ok Y R q) (fun v s' r=>?_) fun _ _ e=>e)
 refine Aa fun nY=>?_
 obtain⟨a,H',hv,R',q'⟩:=r
 refine nY ?_;clear nY
 rw[arm_eval_Slice]
 refine wpAny_bind (wpAny_mono (hl ok Y R' q') (fun v2 s2 r=>?_) fun _ _ e=>e)
 refine Aa fun nY=>?_
 obtain⟨b,H2,hv2,R2,q2⟩:=r
 refine nY ?_;clear nY
 refine wpAny_bind (wpAny_holding (wpAny_mono (hu ok Y R2 q2) (fun v3 s3 r=>?_) fun _ _ e=>e))
 refine Aa fun nY=>?_
 obtain⟨d,H3,hv3,R3,q3⟩:=r
 refine nY ?_;clear nY
 refine wpAny_bind (wpAny_holding (wpAny_mono (hs ok Y R3 q3) (fun v4 s4 r=>?_) fun _ _ e=>e))
 refine Aa fun nY=>?_
 obtain⟨f,H4,hv4,R4,q4⟩:=r
 refine nY ?_;clear nY
 refine fun _ _ _=>?_
 have R5:=R4.pushHid {cls:= .type "slice",data:= .fields #[v2,v3,v4]} s4.toks
 refine Aa fun nY=>?_
 obtain⟨ops,e⟩:=Kz l u st p2 v (.ref s4.heap.objs.size)
 obtain⟨T,id,t1,t2⟩:=Ux R5 hv q4
 refine nY ?_;clear nY
 exact tail_any (E:=EM) t1 t2 (O7 Y R5 hv hv2 hv3 hv4 ⟨_,Heap.get?_push_size _ rfl,rfl,rfl⟩ q4) e
theorem Aa0{p:Pos}:SE W G n c (.Dict [] [] p) (.dict [] []):=by
 intro A env aa H ρ s Q E ok Y R q
 simp only[Zb,Zc,Zd,Ze,Zf,Zg,Zh,Zi,Zj,Zk,Zl,Zm,Zn,Zo,Bo,Zp,Zq,Zr,Zs,Zt,Ax,Dg,Be,Ay,Zu,Zv,A3,Bb]at q
 obtain⟨m,F⟩:=R.kitF Y
 refine Dict_empty_made (intKind W.prog W.w) PyData.int F Xc Y.lo fun h' o F' N' hm hd hf hne=>?_
 have z:=Na (t:=s.toks) R Y F F' N' (Nat.le_refl _) (OR.dict (W:=W) .nil (by simp) hd)
 exact Bi.mk (.ref _) z.2 (q _ z.1)
theorem P5(Y:Ap W env c aa)(R:Av W aa env names H ρ s){a:Addr}(hn:s.heap.get? a=none):∀p∈env.cells,p.2≠a:=fun p hp q=>by
 obtain⟨w,⟨o,h,_⟩,_⟩:=R.cell p.1 p.2 (Y.look p hp)
 rw[q,hn]at h;cases h
theorem Av.swap(R:Av W aa env names H ρ s){h':Heap}{a:Addr}(t:Nat)(k:Heap.SameBut a s.heap h')(h1:H a=none)(h2:aa.get? a=none)(h3:a≠env.locals)(h4:∀x,env.cells.lookup x≠some a):Av W aa env names H ρ {s with heap:=h',toks:=t} where
 ns:=let ⟨m,x,b⟩:=R.ns;⟨m,x.sameBut k (Ne.symm h3),b⟩
 cell:=fun x b e=>let ⟨w,⟨o,ho,hd⟩,r⟩:=R.cell x b e;⟨w,⟨o,(k.2 b fun q=>h4 x (q▸e)).trans ho,hd⟩,r⟩
 keep:=fun b o e=>let ⟨o',e1,z⟩:=R.keep b o e;⟨o',(k.2 b fun q=>by rw[q,h2]at e;cases e).trans e1,z⟩
 objs:=fun b o e=>let ⟨ob,g1,g2⟩:=R.objs b o e;⟨ob,(k.2 b fun q=>by rw[q,h1]at e;cases e).trans g1,g2⟩
 sep:=R.sep
 gens:=R.gens
 os:=R.os
 above:=R.above
 low:=R.low
theorem Aa1{k v:Expr}{x y:X}{p:Pos}(h:SE W G n c k x)(h2:SE W G n c v y):SE W G n c (.Dict [some k] [v] p) (.dict [x] [y]):=by
 intro A env aa H ρ s Q E ok Y R q
 simp only[Zb,Zc,Zd,Ze,Zf,Zg,Zh,Zi,Zj,Zk,Zl,Zm,Zn,Zo,Bo,Zp,Zq,Zr,Zs,Zt,Ax,Dg,Be,Ay,Zu,Zv,A3,Bb]at q
 have R0:=R.pushHid {cls:= .type "dict",data:= .dict #[]} s.toks
 refine Aa fun nY=>?_
 obtain⟨f1,f2,f3,f4,f5⟩:=R.new_sep (B5 _) R.up
 have f6:=P5 Y R (B5 _)
 have hget:(s.heap.push {cls:= .type "dict",data:= .dict #[]}).get? s.heap.objs.size=some {cls:= .type "dict",data:= .dict #[]}:=Heap.get?_push_size _ rfl
 have RP:=R0.prot
 have YP:=Y.prot R0
 refine nY ?_;clear nY
 refine wpAny_Dict_walk (knd:=intKind W.prog W.w) rfl rfl (by simp) (by simp) ?_
 show wpAny W.M A (evalPairs [(eval k env,do let x <-eval v env;standAt p;pure x)]) _ _ _
 unfold evalPairs
 refine wpAny_bind (wpAny_mono (h (ok.prot Y R0) YP RP q) (fun u1 s1 r=>?_) fun _ _ e=>e)
 refine Aa fun nY=>?_
 obtain⟨a,H1,hv1,R1,q1⟩:=r
 refine nY ?_;clear nY
 refine wpAny_bind (wpAny_holding (wpAny_bind (wpAny_mono (h2 (ok.prot Y R0) YP R1 q1) (fun u2 s2 r=>wpAny_bind (wpAny_standAt (wpAny_pure ?_))) fun _ _ e=>e)))
 refine Aa fun nY=>?_
 obtain⟨b,H2,hv2,R2,q2⟩:=r
 refine nY ?_;clear nY
 refine wpAny_bind (wpAny_holding ?_)
 unfold evalPairs
 refine wpAny_pure (wpAny_pure ?_)
 have hd:s2.heap.get? s.heap.objs.size=some {cls:= .type "dict",data:= .dict #[]}:=stays hget f1 f3 f6 (fun m=>Y.fsok _ m f2) R2
 induction hv1 with
 | @int i t=>
   refine⟨[(i,u2)],⟨by simp[intKind,Value.isInt],rfl,trivial⟩,?_,fun h' hd' hk=>?_⟩
   ·refine Aa fun nY=>?_
    obtain⟨o,es,ep,z1,z2⟩:=Heap.DictOf.new (knd:=intKind W.prog W.w) s.heap
    rw[hget]at z1
    cases z1
    refine nY ?_;clear nY
    exact⟨_,es,ep,hd,z2⟩
   ·have R3:=R0.unprot Y R2
    refine Aa fun nY=>?_
    obtain⟨ob,es,ep,g1,g2⟩:=hd'
    have s1:H2 s.heap.objs.size=none:=by
     cases q:H2 s.heap.objs.size with
     | none=>rfl
     | some o=>have:=(R2.sep _ _ q).1;rw[Cj hget f1 f3 f6]at this;cases this
    have R4:=(R3.swap (s2.toks+1) hk s1 f2 f3 f4).add g1 (.dict (es:=[(i,b)]) (.cons hv2 .nil) (by simp[Bp]) ⟨es,ep,g2⟩) s1 f2 f3 f4 f5
    refine nY ?_;clear nY
    exact Bi.mk (.ref _) R4 (q2 _ s1)
 | _=>exact False.elim q2
end Mine.Internal
namespace Mine.Internal
open PySem PySem.W PyProof.Rows
variable {W:Wd} {G:A2} {A:Around} {aa:HB} {env:Env} {c:Cx} {names:List Str} {H H':AH} {ρ ρ':Ak} {s s':Shared} {E:Value->Shared->Prop} {n:Nat} {Q:Ag} {Er:EP}
theorem ns1{e:Expr}(h:∀v p,e≠ .Starred v p):NS [e]:=fun e' he' v p' q'=>by
 rcases List.mem_cons.mp he' with rfl|he'
 ·exact h _ _ q'
 ·cases he'
theorem Jt(ok:Pu A c aa env n)(Y:Ap W env c aa)(R:Av W aa env names H ρ s){r:Addr}{a b:Int}{t u v:Tok}(hr:IsRange s.heap r a b 1 t u v)(h1:0<=a)(h2:a<=Bp)(h3: -(Bp:Int)<=b)(h4:b<=Bp)
 (q:Au (.list ((List.range (b-a).toNat).map fun(i:Nat)=>V.int (a+i))) H Q):wpAny W.M A (call (.type "list") [.ref r]) (Bi W aa env names ρ Q) E s:=by
 have b1:Bp=1048576:=rfl
 have fin:∀h' tk acc' c',(∀b o,s.heap.get? b=some o->h'.get? b=some o)->h'.get? s.heap.objs.size=some {cls:= .type "list",dict:=none,data:= .seq acc' c',slots:= #[]} ->
  ItemsOf (fun i v=>∃t,v = .int (a+i*1) t) acc' (b-a).toNat->Bi W aa env names ρ Q (.ref s.heap.objs.size) {s with heap:=h',toks:=tk}:=fun h' tk acc' c' hk e hacc=>by
  have hc:C5 W ((List.range (b-a).toNat).map fun(i:Nat)=>V.int (a+i)) acc'.toList:=Uw hacc
  have R':=R.put (h':=h') (a:=s.heap.objs.size) (o:= .list ((List.range (b-a).toNat).map fun(i:Nat)=>V.int (a+i))) tk hk e (.list hc (by simp;(first|lia|omega))) (B5 _) fun _ _=>R.up
  exact Bi.mk (.ref _) R' (q _ R.fresh)
 have hs:=small_one (a:=a) (b:=b) (by(first|lia|omega)) (by(first|lia|omega)) (by(first|lia|omega)) (by(first|lia|omega))
 exact call_list_range ok.handled hr hs (rangeSize_nat a b) (by(first|lia|omega)) fin
theorem Q1(g:Jd W G){p rp pos pos':Pos}{es:List Expr}{xs:List X}(hg:c.global "list" = true)(hgr:c.global "range" = true)(hs:Wg W G n c es xs)(hn:NS es) :
 SE W G n c (.Call (.Name "list" p) [.Call (.Name "range" rp) es [] pos'] [] pos) (.bi .listRange xs):=by
 intro A env aa H ρ s Q E ok Y R q
 simp only[Zb,Zc,Zd,Ze,Zf,Zg,Zh,Zi,Zj,Zk,Zl,Zm,Zn,Zo,Bo,Zp,Zq,Zr,Zs,Zt,Ax,Dg,Be,Ay,Zu,Zv,A3,Bb]at q
 refine Oc g Y R (.inr ⟨"list",rfl⟩) hg (by decide) (by decide) (by kernel_rfl) (by decide) (ns1 fun _ _ q=>by cases q) ?_
 rw[B8 (fun _ _ q=>by cases q)]
 refine Calls.evalArgs_plain (Calls.spliced_cons ?_)
 refine Oc g Y R (.inr ⟨"range",rfl⟩) hgr (by decide) (by decide) (by kernel_rfl) (by decide) hn (He hs hn ok Y R q fun as us H' s' hv R' q'=>?_)
 replace q':Ahj as H' Q:=q'
 have b1:Bp=1048576:=rfl
 cases hv with
 | nil=>exact False.elim q'
 | cons hu t=>cases t with
   | nil=>
     apply Az hu q';intro k t q'
     refine call_range_1 (Calls.spliced_nil ?_)
     have R2:=R'.pushHid {cls:= .type "range",data:= .fields #[.int 0 s'.toks,.int k t,.int 1 (s'.toks+1)]} (s'.toks+1+1)
     refine Jt (a:=0) (b:=k) ok Y R2 (Heap.get?_push_size _ rfl) (by(first|lia|omega)) (by(first|lia|omega)) q'.1.1 q'.1.2 ?_
     simpa using q'.2
   | cons hu2 t=>cases t with
     | nil=>
       apply Az hu q';intro m t q';apply Az hu2 q';intro k t2 q'
       refine call_range_2 (Calls.spliced_nil ?_)
       have R2:=R'.pushHid {cls:= .type "range",data:= .fields #[.int m t,.int k t2,.int 1 s'.toks]} (s'.toks+1)
       have:=q'.1
       exact Jt (a:=m) (b:=k) ok Y R2 (Heap.get?_push_size _ rfl) this.1 this.2.1 this.2.2.1 this.2.2.2 q'.2
     | cons=>exact False.elim q'
noncomputable def Q4:LM->Str
 | .append=> "append" | .clear=> "clear" | .count=> "count" | .extend=> "extend" | .index=> "index" | .remove=> "remove" | .reverse=> "reverse" | .setdefault=> "setdefault"
theorem Adv{x:Str}{m:LM}(h:Acr x=some m):x=Q4 m:=
 (by decide:∀p∈Vu,p.1=Q4 p.2) (x,m) (Vs h)
theorem Aa2(R:Av W aa env names H ρ s){m:LM}{a:Addr}(hk:F5 m (.ref a) H) :
 (O2 fun T=>Vh (PlainAttrs T) (Slot T (Q4 m) (Aao m)) (typeOf (.builtin (Aao m))=pure (.type "method_descriptor")) (s.TypeIs (.ref a) T) ((∀b,Value.ref a = .ref b->∃ob,s.heap.get? b=some ob/\ob.dict=none))):=by
 delta F5 at hk
 dsimp only at hk
 split at hk
 ·rename_i xs e
  obtain⟨l,nn,g1,_⟩:=R.lst e
  have hd:∀b,Value.ref a = .ref b->∃ob,s.heap.get? b=some ob/\ob.dict=none:=fun b q=>by cases q;exact⟨_,g1,rfl⟩
  have ht:s.TypeIs (.ref a) "list" :=by obtain⟨l,h,_⟩:=R.isList e;exact h.typeIs
  cases m with
  | append=>exact⟨"list",F.plainAttrs_list,F.slot_list_append,F.type_list_append,ht,hd⟩
  | clear=>exact⟨"list",F.plainAttrs_list,F.slot_list_clear,F.type_list_clear,ht,hd⟩
  | count=>exact⟨"list",F.plainAttrs_list,F.slot_list_count,F.type_list_count,ht,hd⟩
  | extend=>exact⟨"list",F.plainAttrs_list,F.slot_list_extend,F.type_list_extend,ht,hd⟩
  | index=>exact⟨"list",F.plainAttrs_list,F.slot_list_index,F.type_list_index,ht,hd⟩
  | remove=>exact⟨"list",F.plainAttrs_list,F.slot_list_remove,F.type_list_remove,ht,hd⟩
  | reverse=>exact⟨"list",F.plainAttrs_list,F.slot_list_reverse,F.type_list_reverse,ht,hd⟩
  | setdefault=>exact hk.elim
 ·rename_i es e
  cases hk
  obtain⟨kvs,g1,_⟩:=R.isDict e
  have ht:=g1.typeIs
  obtain⟨o,es,ep,g2,g3,_⟩:=g1
  exact⟨"dict",F.plainAttrs_dict,F.slot_dict_setdefault,F.type_dict_setdefault,ht,fun b q=>by cases q;exact⟨_,g2,g3.2.1⟩⟩
 ·exact hk.elim
theorem Adw(R:Av W aa env names H ρ s){m:LM}{o:V}{u:Value}(hv:VR W o u)(hk:F5 m o H) :
 (O2 fun T=>Vh (PlainAttrs T) (Slot T (Q4 m) (Aao m)) (typeOf (.builtin (Aao m))=pure (.type "method_descriptor")) (s.TypeIs u T) ((∀a,u = .ref a->∃ob,s.heap.get? a=some ob/\ob.dict=none))):=by
 induction hv with
 | ref a=>exact Aa2 R hk
 | _=>exact False.elim hk
theorem Aid{o:Expr}{m:LM}{x:Str}{ap pos:Pos}{y:X}{es:List Expr}{xs:List X}(hb:Im o=true)(hl:(ap.endLine==pos.line)=true)(hfew:es.length<3)(hm:Acr x=some m)(h:SE W G n c o y)(hs:Wg W G n c es xs)(hn:NS es) :
 SE W G n c (.Call (.Attribute o x ap) es [] pos) (.lm m y xs):=by
 intro A env aa H ρ s Q E ok Y R q
 simp only[Zb,Zc,Zd,Ze,Zf,Zg,Zh,Zi,Zj,Zk,Zl,Zm,Zn,Zo,Bo,Zp,Zq,Zr,Zs,Zt,Ax,Dg,Be,Ay,Zu,Zv,A3,Bb]at q
 have hx:=Adv hm
 subst hx
 have hplain:(backTo pos (starEach es env)).all (fun x=> !x.1)=true:=by
  have:=hn.plain (pos:=pos) (env:=env)
  rw[List.any_eq_false]at this
  rw[List.all_eq_true];intro x hx;simpa using this x hx
 have hform:((backTo pos (starEach es env)).all (fun x=> !x.1)&&(backToKw pos (keywordEach [] env)).all (fun x=>x.1.isSome)
  && decide (es.length+([]:List Keyword).length+(if ([]:List Keyword).isEmpty then 0 else 1)<30))=true:=by
  rw[hplain]
  have:es.length+0+0<30:=(Nat.lt_trans hfew (by decide))
  simpa[show backToKw pos (keywordEach [] env) = []from rfl]using this
 refine wpAny_Call_method_late (Qy hb) hform hl rfl (wpAny_mono (h ok Y R q) (fun ov s' r=>?_) fun _ _ e=>e)
 refine Aa fun nY=>?_
 obtain⟨a,H',hv,R',hk,q'⟩:=r
 obtain⟨T,t1,t2,t3,t4,t5⟩:=Adw R' hv hk
 refine nY ?_;clear nY
 refine⟨T,_,t1,t2,t3,t4,t5,Calls.callWith_builtin hn.plain (He hs hn ok Y R' q' fun as us H' s' hv' R'' q''=>?_)⟩
 exact Ut ok Y R'' hv hv' q''
end Mine.Internal
namespace Mine.Internal
open PySem PySem.W PyProof.Rows
variable {W:Wd} {G:A2} {A:Around} {aa:HB} {env:Env} {c:Cx} {names:List Str} {H H':AH} {ρ ρ':Ak} {s s':Shared} {E:Value->Shared->Prop} {n:Nat} {Q:Ag} {Er:EP}
inductive ItR(W:Wd)(h:Heap):It->Value->Prop
 | v {a u}:VR W a u->ItR W h (.v a) u
 | pair {a b u1 u2 T}:h.IsTuple T #[u1,u2]->VR W a u1->VR W b u2->ItR W h (.pair a b) (.ref T)
theorem Av.moveBut(R:Av W aa env names H ρ s){wr:List Addr}(hid:Hy aa env H wr){h':Heap}(t:Nat)(k:∀b o,b∉wr->s.heap.get? b=some o->h'.get? b=some o):Av W aa env names H ρ {s with heap:=h',toks:=t} where
 ns:=by
  refine Aa fun nY=>?_
  obtain⟨m,⟨o,es,ep,h1,h2⟩,b⟩:=R.ns
  refine nY ?_;clear nY
  exact⟨m,⟨o,es,ep,k _ _ (fun q=>(hid _ q).2.2.1 rfl) h1,h2⟩,b⟩
 cell:=fun x a e=>by
  refine Aa fun nY=>?_
  obtain⟨w,⟨o,ho,hd⟩,r⟩:=R.cell x a e
  obtain⟨p,hp,hp2⟩:=Bf e
  refine nY ?_;clear nY
  exact⟨w,⟨o,k _ _ (fun q=>(hid _ q).2.2.2 p hp hp2) ho,hd⟩,r⟩
 keep:=fun b o e=>let ⟨o',e1,z⟩:=R.keep b o e;⟨o',k _ _ (fun q=>by have:=(hid _ q).2.1;rw[e]at this;cases this) e1,z⟩
 objs:=fun b o e=>by
  refine Aa fun nY=>?_
  obtain⟨ob,g1,g2⟩:=R.objs b o e
  refine nY ?_;clear nY
  exact⟨ob,k _ _ (fun q=>by have:=(hid _ q).1;rw[e]at this;cases this) g1,g2⟩
 sep:=R.sep
 gens:=R.gens
 os:=R.os
 above:=R.above
 low:=R.low
structure Src(W:Wd)(A:Around)(target:Expr)(I:Addr)(hs:List Addr)(its:List It)(g:AH->Prop)(Obs:Nat->Heap->Prop):Prop where
 frame:∀i h h',Obs i h->(∀b∈hs,∀o,h.get? b=some o->h'.get? b=some o)->Obs i h'
 live:∀i h,Obs i h->∀b∈hs,∃o,h.get? b=some o
 self:∀ {s:Shared} {Q:Value->Shared->Prop} {E:Value->Shared->Prop},Obs 0 s.heap->Q (.ref I) s->wpAny W.M A (pyIter (.ref I)) Q E s
 turn:∀ {aa:HB} {env:Env} {c:Cx} {names:List Str} {H:AH} {ρ:Ak} {s:Shared} {i:Nat} {x:It} {E E':Value->Shared->Prop},Ap W env c aa->Av W aa env names H ρ s->Hy aa env H hs->g H->Obs i s.heap->its[i]? = some x->
  wpAny W.M A (pyNext (.ref I)) (fun r ar=>∃v,r=some v/\wpAny W.M A (letOwnedTupleGo target (.ref I) v) (fun _ ay=>Av W aa env names H ρ ay/\Obs (i+1) ay.heap/\ItR W ay.heap x v/\∀b o,b∉hs->s.heap.get? b=some o->ay.heap.get? b=some o) E' ar) E s
 done:∀ {aa:HB} {env:Env} {c:Cx} {names:List Str} {H:AH} {ρ:Ak} {s:Shared} {E:Value->Shared->Prop},Ap W env c aa->Av W aa env names H ρ s->Hy aa env H hs->g H->Obs its.length s.heap->
   wpAny W.M A (pyNext (.ref I)) (fun r ar=>r=none/\Av W aa env names H ρ ar/\∀b o,b∉hs->s.heap.get? b=some o->ar.heap.get? b=some o) E s
noncomputable def Oe:List String:=["enumerate","zip","dict_itemiterator","dict_reverseitemiterator","odict_iterator","itertools.zip_longest","itertools.pairwise"]
theorem Iq{target:Expr}{I:Addr}{v:Value}{o:Obj}{nm:String}{vs:Array Value}{Q:Unit->Shared->Prop}(ho:s.heap.get? I=some o)(hc:o.cls = .type nm)(hd:o.data = .fields vs)(hn:Oe.contains nm=false)(hQ:Q () s) :
 wpAny W.M A (letOwnedTupleGo target (.ref I) v) Q E s:=by
 have key:∀a:Addr,wpAny W.M A (do
  let o <-load I
  match o.cls,o.data with
  | .type n,.fields vs=>if Oe.contains n&&vs[0]? == some (rawInt a)then do rule "for.unpacks-the-owned-tuple";updateField I 0 .none
  | _,_=>pure ()) Q E s:=by
  intro a
  refine wpAny_bind (wpAny_load ho ?_)
  rw[hc,hd]
  simp only[hn,Bool.false_and,Bool.false_eq_true,if_false]
  exact wpAny_pure hQ
 cases target<;>first|exact wpAny_pure hQ|(cases v<;>first|exact wpAny_pure hQ|exact key _)
theorem Hy.one(Y:Ap W env c aa)(R:Av W aa env names H ρ s){a:Addr}(hn:s.heap.get? a=none)(hb:W.aj.objs.size<=a):Hy aa env H [a]:=fun b hb'=>by
 rcases List.mem_cons.mp hb' with rfl|h
 ·obtain⟨q1,q2,q3,q4,q5⟩:=R.new_sep hn hb
  exact⟨q1,q2,q3,P5 Y R hn⟩
 ·cases h
theorem Nb{xs:List V}{items:List Value}(h:C5 W xs items){i:Nat}{x:V}(e:xs[i]? = some x):∃u,items[i]? = some u/\VR W x u:=h.get i e
theorem Aa4(hh:A.handled=none)(target:Expr){a I:Addr}{xs:List V}:Src W A target I [I] (xs.map .v) (fun H'=>H' a=some (.list xs)) (fun i h=>h.IsListIter I a i) where
 frame:=fun i h h' st hk=>st.at fun o e=>hk I (.head _) o e
 live:=fun i h st b hb=>by
  rcases List.mem_cons.mp hb with rfl|hb
  ·obtain⟨o,e,_⟩:=st;exact⟨o,e⟩
  ·cases hb
 self:=fun st hQ=>wpAny_pyIter_listiter st hQ
 turn:=fun {aa env c names H ρ s i x E E'} Y R hid g st hx=>by
  obtain⟨items,h1,r1,z1⟩:=R.isList g
  rw[List.getElem?_map]at hx
  obtain⟨x',hx',rfl⟩:=Option.map_eq_some_iff.mp hx
  obtain⟨u,hu,hv⟩:=Nb r1 hx'
  refine wpAny_pyNext_list_item st h1 (x:=u) (by simpa using hu) fun h' st' hs'=>⟨u,rfl,?_⟩
  have R':=R.moveBut (h':=h') hid s.toks fun b o hb e=>hs'.extBut b o (fun q=>hb (by simp[q])) e
  obtain⟨o,o1,o2,o3⟩:=st'
  exact Iq o1 o2 o3 (by decide) ⟨R',⟨o,o1,o2,o3⟩,.v hv,fun b o hb e=>hs'.extBut b o (fun q=>hb (by simp[q])) e⟩
 done:=fun {aa env c names H ρ s E} Y R hid g st=>by
   obtain⟨items,h1,r1,z1⟩:=R.isList g
   refine wpAny_pyNext_list_end hh st h1 (by simp[r1.length]) fun h' he'=>⟨rfl,R.moveBut (h':=h') hid s.toks (fun b o hb e=>he' b o (fun q=>hb (by simp[q])) e),fun b o hb e=>he' b o (fun q=>hb (by simp[q])) e⟩
theorem Xn(hh:A.handled=none)(target:Expr){a I:Addr}{xs:List V}:Src W A target I [I] (xs.map .v) (fun H'=>H' a=some (.tuple xs)) (fun i h=>h.IsTupleIter I a i) where
 frame:=fun i h h' st hk=>st.at fun o e=>hk I (.head _) o e
 live:=fun i h st b hb=>by
  rcases List.mem_cons.mp hb with rfl|hb
  ·obtain⟨o,e,_⟩:=st;exact⟨o,e⟩
  ·cases hb
 self:=fun st hQ=>wpAny_pyIter_tupleiter st hQ
 turn:=fun {aa env c names H ρ s i x E E'} Y R hid g st hx=>by
  obtain⟨items,h1,r1,z1⟩:=R.isTup g
  rw[List.getElem?_map]at hx
  obtain⟨x',hx',rfl⟩:=Option.map_eq_some_iff.mp hx
  obtain⟨u,hu,hv⟩:=Nb r1 hx'
  refine wpAny_pyNext_tuple_item st h1 (x:=u) (by simpa using hu) fun h' st' hs'=>⟨u,rfl,?_⟩
  have R':=R.moveBut (h':=h') hid s.toks fun b o hb e=>hs'.extBut b o (fun q=>hb (by simp[q])) e
  obtain⟨o,o1,o2,o3⟩:=st'
  exact Iq o1 o2 o3 (by decide) ⟨R',⟨o,o1,o2,o3⟩,.v hv,fun b o hb e=>hs'.extBut b o (fun q=>hb (by simp[q])) e⟩
 done:=fun {aa env c names H ρ s E} Y R hid g st=>by
   obtain⟨items,h1,r1,z1⟩:=R.isTup g
   refine wpAny_pyNext_tuple_end hh st h1 (by simp[r1.length]) fun h' he'=>⟨rfl,R.moveBut (h':=h') hid s.toks (fun b o hb e=>he' b o (fun q=>hb (by simp[q])) e),fun b o hb e=>he' b o (fun q=>hb (by simp[q])) e⟩
theorem Xo(hh:A.handled=none)(target:Expr){I:Addr}{a:Int}{k:Nat}:Src W A target I [I] ((List.range k).map fun(i:Nat)=> .v (.int (a+i))) (fun _=>True) (fun i h=>IsRangeIter h I (a+(i:Nat)) ((k:Int)-(i:Nat)) 1) where
 frame:=fun i h h' st hk=>hk I (.head _) _ st
 live:=fun i h st b hb=>by
  rcases List.mem_cons.mp hb with rfl|hb
  ·exact⟨_,st⟩
  ·cases hb
 self:=fun st hQ=>wpAny_pyIter_rangeiter st hQ
 turn:=fun {aa env c names H ρ s i x E E'} Y R hid g st hx=>by
  rw[List.getElem?_map]at hx
  obtain⟨j,hj,rfl⟩:=Option.map_eq_some_iff.mp hx
  obtain⟨hlt,he⟩:=Da hj
  simp at hlt he
  subst he
  refine wpAny_pyNext_range_item st (Int.sub_pos_of_lt (Int.ofNat_lt.mpr hlt)) fun h' st' hs'=>⟨_,rfl,?_⟩
  have R':=R.moveBut (h':=h') hid (s.toks+1) fun b o hb e=>hs'.extBut b o (fun q=>hb (by simp[q])) e
  refine Iq st' rfl rfl (by decide) ⟨R',?_,.v (.int _ _),fun b o hb e=>hs'.extBut b o (fun q=>hb (by simp[q])) e⟩
  have e1:a+((i+1:Nat):Int)=a+(i:Int)+1:=Aj4
  have e2:(k:Int)-((i+1:Nat):Int)=(k:Int)-(i:Int)-1:=Aj5
  rw[e1,e2];exact st'
 done:=fun {aa env c names H ρ s E} Y R hid g st=>by
   simp only[Bk,List.length_range]at st
   refine wpAny_pyNext_range_end hh st (Int.le_of_eq (Int.sub_self _)) fun h' he'=>⟨rfl,R.moveBut (h':=h') hid s.toks (fun b o hb e=>he' b o (fun q=>hb (by simp[q])) e),fun b o hb e=>he' b o (fun q=>hb (by simp[q])) e⟩
theorem Tz.at{es:List (Int×V)}{kvs:List (Int×Value)}(h:Tz W es kvs):∀ {i:Nat} {e:Int×V},es[i]? = some e->∃u,kvs[i]? = some (e.1,u):=by
 induction h with
 | nil=>intro i e h;simp at h
 | cons hv t ih=>
   intro i e h
   cases i with
   | zero=>simp at h;subst h;exact⟨_,rfl⟩
   | succ i=>simp at h;simpa using ih h
theorem Aa5(hh:A.handled=none)(target:Expr){d I:Addr}{es:List (Int×V)}{kvs:List (Int×Value)}{ep:Nat}(hk:Tz W es kvs)(hne:d≠I) :
 Src W A target I [I,d] (es.map fun e=> .v (.int e.1)) (fun _=>True) (fun i h=>h.IsKeyIter I d i kvs.length ep/\h.DictAt (intKind W.prog W.w) d kvs ep) where
 frame:=fun i h h' st hk=>⟨st.1.at fun o e=>hk I (by simp) o e,st.2.at' fun o e=>hk d (by simp) o e⟩
 live:=fun i h st b hb=>by
  rcases List.mem_cons.mp hb with rfl|hb
  ·obtain⟨o,e,_⟩:=st.1;exact⟨o,e⟩
  ·rcases List.mem_cons.mp hb with rfl|hb
   ·obtain⟨o,_,e,_⟩:=st.2;exact⟨o,e⟩
   ·cases hb
 self:=fun st hQ=>wpAny_pyIter_keyiter st.1 hQ
 turn:=fun {aa env c names H ρ s i x E E'} Y R hid g st hx=>by
  rw[List.getElem?_map]at hx
  obtain⟨e,he,rfl⟩:=Option.map_eq_some_iff.mp hx
  obtain⟨u,hu⟩:=hk.at he
  have hid1:Hy aa env H [I]:=fun b hb=>hid b (by simp at hb;simp[hb])
  refine wpAny_pyNext_dict_item st.1 st.2 hu fun key h' hkey st' hs'=>⟨key,rfl,?_⟩
  have R':=R.moveBut (h':=h') hid1 s.toks fun b o hb e=>hs'.extBut b o (fun q=>hb (by simp[q])) e
  have hk':∃t,key = .int e.1 t:=by
   refine Aa fun nY=>?_
   cases key<;>simp[intKind,Value.isInt]at hkey
   refine nY ?_;clear nY
   subst hkey;exact⟨_,rfl⟩
  refine Aa fun nY=>?_
  obtain⟨t,rfl⟩:=hk'
  have st2:=st.2.extBut hs'.extBut hne
  obtain⟨o,o1,o2,o3⟩:=st'
  refine nY ?_;clear nY
  exact Iq o1 o2 o3 (by decide) ⟨R',⟨⟨o,o1,o2,o3⟩,st2⟩,.v (.int _ _),fun b o hb e=>hs'.extBut b o (fun q=>hb (by simp[q])) e⟩
 done:=fun {aa env c names H ρ s E} Y R hid g st=>by
   have hid1:Hy aa env H [I]:=fun b hb=>hid b (by simp at hb;simp[hb])
   refine wpAny_pyNext_dict_end hh st.1 st.2 (by simp[hk.length]) fun h' he'=>⟨rfl,R.moveBut (h':=h') hid1 s.toks (fun b o hb e=>he' b o (fun q=>hb (by simp[q])) e),fun b o hb e=>he' b o (fun q=>hb (by simp[q])) e⟩
theorem Adx(hh:A.handled=none)(target:Expr){a I:Addr}{xs:List V}:Src W A target I [I] (xs.reverse.map .v) (fun H'=>H' a=some (.list xs)) (fun i h=>i<=xs.length/\h.IsRevIter I a ((xs.length:Int)-1-(i:Int))) where
 frame:=fun i h h' st hk=>⟨st.1,st.2.at fun o e=>hk I (.head _) o e⟩
 live:=fun i h st b hb=>by
  rcases List.mem_cons.mp hb with rfl|hb
  ·obtain⟨o,e,_⟩:=st.2;exact⟨o,e⟩
  ·cases hb
 self:=fun st hQ=>wpAny_pyIter_revIter st.2 hQ
 turn:=fun {aa env c names H ρ s i x E E'} Y R hid g st hx=>by
  obtain⟨items,h1,r1,z1⟩:=R.isList g
  rw[List.getElem?_map]at hx
  obtain⟨x',hx',rfl⟩:=Option.map_eq_some_iff.mp hx
  obtain⟨hlt,he⟩:=Da hx'
  have hlt':i<xs.length:=by simpa using hlt
  have hx2:xs[xs.length-1-i]? = some x':=by rw[<-hx',List.getElem?_reverse hlt']
  obtain⟨u,hu,hv⟩:=Nb r1 hx2
  have st2:=st.2
  rw[show (xs.length:Int)-1-(i:Int)=((xs.length-1-i:Nat):Int) by exact(((Int.ofNat_sub (Nat.le_sub_one_of_lt hlt')).trans (congrArg (· - (_:Int)) (Int.ofNat_sub (Nat.zero_lt_of_lt hlt')))).symm)]at st2
  refine wpAny_pyNext_rev_item st2 h1 (x:=u) (by simpa using hu) fun h' st' hs'=>⟨u,rfl,?_⟩
  have R':=R.moveBut (h':=h') hid s.toks fun b o hb e=>hs'.extBut b o (fun q=>hb (by simp[q])) e
  rw[show ((xs.length-1-i:Nat):Int)-1=(xs.length:Int)-1-((i+1:Nat):Int) by exact Aj6 hlt']at st'
  obtain⟨o,o1,o2,o3⟩:=st'
  exact Iq o1 o2 o3 (by decide) ⟨R',⟨hlt',⟨o,o1,o2,o3⟩⟩,.v hv,fun b o hb e=>hs'.extBut b o (fun q=>hb (by simp[q])) e⟩
 done:=fun {aa env c names H ρ s E} Y R hid g st=>by
   have st2:=st.2
   simp only[Bk,List.length_reverse]at st2
   rw[show (xs.length:Int)-1-(xs.length:Int) = -1 by exact Aj7]at st2
   refine wpAny_pyNext_rev_end hh st2 fun h' he'=>⟨rfl,R.moveBut (h':=h') hid s.toks (fun b o hb e=>he' b o (fun q=>hb (by simp[q])) e),fun b o hb e=>he' b o (fun q=>hb (by simp[q])) e⟩
theorem Aa6(hh:A.handled=none)(elts:List Expr)(k:Nat)(pos:Pos){a e it:Addr}{xs:List V}(hne:e≠it)(hae:a≠e)(hai:a≠it) :
 Src W A (.Tuple elts k pos) e [e,it] (xs.mapIdx fun i x=> .pair (.int i) x) (fun H'=>H' a=some (.list xs)) (fun i h=>(∃old,IsEnum h e it i old)/\h.IsListIter it a i) where
 frame:=fun i h h' st hk=>⟨let ⟨old,q⟩:=st.1;⟨old,hk e (by simp) _ q⟩,st.2.at fun o q=>hk it (by simp) o q⟩
 live:=fun i h st b hb=>by
  rcases List.mem_cons.mp hb with rfl|hb
  ·obtain⟨old,e⟩:=st.1;exact⟨_,e⟩
  ·rcases List.mem_cons.mp hb with rfl|hb
   ·obtain⟨o,e,_⟩:=st.2;exact⟨o,e⟩
   ·cases hb
 self:=fun st hQ=>by
  obtain⟨⟨old,q⟩,_⟩:=st
  exact wpAny_pyIter_enum q hQ
 turn:=fun {aa env c names H ρ s i x E E'} Y R hid g st hx=>by
  obtain⟨items,h1,r1,z1⟩:=R.isList g
  rw[List.getElem?_mapIdx]at hx
  obtain⟨x',hx',rfl⟩:=Option.map_eq_some_iff.mp hx
  obtain⟨u,hu,hv⟩:=Nb r1 hx'
  have WE:=WalksT.enumerate (prog:=W.prog) (w:=W.w) hh e it a hne hae hai items.toArray
  have hlt:i<items.toArray.size:=by
   obtain⟨q,_⟩:=Da hu
   simpa using q
  refine WE.item i s _ E hlt ⟨st.1,st.2,h1⟩ fun T vals h' tk hP hT hTup hmid hk=>⟨_,rfl,?_⟩
  have R':=R.moveBut (h':=h') hid tk fun b o hb q=>hk b o hb q
  refine WE.go elts k pos i T {s with heap:=h',toks:=tk} _ E' hmid fun h2 st2 hk2=>?_
  have R2:=R'.moveBut (h':=h2) hid tk fun b o hb q=>hk2 b o hb q
  obtain⟨t,u',hu',rfl⟩:=hP
  have:u'=u:=by
   have h3:items.toArray[i]? = some u:=by simpa using hu
   rw[h3]at hu';cases hu';rfl
  subst this
  exact⟨R2,⟨st2.1,st2.2.1⟩,.pair (hTup.at fun o q=>hk2 T o (WE.apart i T _ hmid) q) (.int _ _) hv,fun b o hb q=>hk2 b o hb (hk b o hb q)⟩
 done:=fun {aa env c names H ρ s E} Y R hid g st=>by
   obtain⟨items,h1,r1,z1⟩:=R.isList g
   have WE:=WalksT.enumerate (prog:=W.prog) (w:=W.w) hh e it a hne hae hai items.toArray
   simp only[List.length_mapIdx]at st
   refine WE.done s _ E ?_ fun h' tk hk=>⟨rfl,R.moveBut (h':=h') hid tk (fun b o hb q=>hk b o hb q),hk⟩
   have:items.toArray.size=xs.length:=by simp[r1.length]
   rw[this]
   exact⟨st.1,st.2,h1⟩
end Mine.Internal
namespace Mine.Internal
open PySem PySem.W PyProof.Rows
variable {W:Wd} {G:A2} {A:Around} {aa:HB} {env:Env} {c:Cx} {names:List Str} {H H':AH} {ρ ρ':Ak} {s s':Shared} {E:Value->Shared->Prop} {n:Nat} {Q:Ag} {Er:EP}
noncomputable def SS(W:Wd)(G:A2)(n:Nat)(c:Cx)(e:Expr)(x:X)(two:Bool):Prop:=
 ∀ {A:Around} {env:Env} {aa:HB} {H:AH} {ρ:Ak} {s:Shared} {K:List It->(AH->Prop)->AH->Prop} {target:Expr} {Q:Value->Shared->Prop} {E:EP} {Em:Value->Shared->Prop},
  Kt target=two->Pu A c aa env n->Ap W env c aa->Av W aa env c.names H ρ s->Dq G (Ae G n) x ρ H K E->(∀v s',EM v s'->Em v s')->
  (∀I hs its g Obs H' s',Src W A target I hs its g Obs->Hy aa env H' hs->Obs 0 s'.heap->Av W aa env c.names H' ρ s'->K its g H'->Q (.ref I) s')->
  wpAny W.M A (eval e env) (fun v ar=>wpAny W.M A (pyIter v) Q Em ar) Em s
theorem Av.drop(R:Av W aa env names H ρ s)(a:Addr):Av W aa env names (fun b=>if b=a then none else H b) ρ s where
 ns:=R.ns
 cell:=R.cell
 keep:=R.keep
 objs:=fun b o e=>by
  split at e
  ·cases e
  ·exact R.objs b o e
 sep:=fun b o e=>by
  split at e
  ·cases e
  ·exact R.sep b o e
 gens:=R.gens
 os:=R.os
 above:=R.above
 low:=fun b o e=>by
  split at e
  ·cases e
  ·exact R.low b o e
theorem Av.cells_ne(R:Av W aa env names H ρ s)(Y:Ap W env c aa){a:Addr}{o:O}(e:H a=some o):∀p∈env.cells,p.2≠a:=fun p hp q=>(R.sep a o e).2.2 p.1 (by rw[Y.look p hp,q])
theorem Af4{K:List It->(AH->Prop)->AH->Prop}{target:Expr}{Q:Value->Shared->Prop}{Em:Value->Shared->Prop}(ok:Pu A c aa env n)(Y:Ap W env c aa)(R':Av W aa env c.names H' ρ s'){a:Addr}(q':Gi (.ref a) H' K)
 (hQ:∀I hs its g Obs H' s',Src W A target I hs its g Obs->Hy aa env H' hs->Obs 0 s'.heap->Av W aa env c.names H' ρ s'->K its g H'->Q (.ref I) s'):wpAny W.M A (pyIter (.ref a)) Q Em s':=by
 delta Gi at q'
 dsimp only at q'
 split at q'
 ·rename_i xs e
  obtain⟨items,h1,r1,z1⟩:=R'.isList e
  refine wpAny_pyIter_list h1 ?_
  refine hQ s'.heap.objs.size [s'.heap.objs.size] _ _ _ H' _ (Aa4 ok.handled target) (Hy.one Y R' (B5 _) R'.up) ?_ (R'.pushHid _ _) q'
  exact⟨_,Heap.get?_push_size _ rfl,rfl,rfl⟩
 ·rename_i xs e
  obtain⟨items,h1,r1,z1⟩:=R'.isTup e
  refine wpAny_pyIter_tuple h1 ?_
  refine hQ s'.heap.objs.size [s'.heap.objs.size] _ _ _ H' _ (Xn ok.handled target) (Hy.one Y R' (B5 _) R'.up) ?_ (R'.pushHid _ _) q'
  exact⟨_,Heap.get?_push_size _ rfl,rfl,rfl⟩
 ·rename_i es e
  obtain⟨kvs,⟨o,es',ep,g1,g2,g3,g4,g5,g6⟩,r1,z1⟩:=R'.isDict e
  have hd:(a==sysModules)=false:=beq_eq_false_iff_ne.mpr (Nat.ne_of_gt (Nat.lt_of_lt_of_le Y.lo (R'.low a _ e)))
  refine wpAny_pyIter_dict (knd:=intKind W.prog W.w) (kvs:=kvs) (ep:=ep) hd ⟨o,es',g1,g2,g3,g4,g5,g6⟩ ?_
  have hne:a≠s'.heap.objs.size:=Nat.ne_of_lt (Heap.lt_size g1)
  have R2:=(R'.drop a).pushHid {cls:= .type "dict_keyiterator",data:= .fields #[.ref a,.int 0 0,.int kvs.length 0,.int ep 0]} s'.toks
  refine hQ s'.heap.objs.size [s'.heap.objs.size,a] _ _ _ _ _ (Aa5 ok.handled target (kvs:=kvs) (ep:=ep) r1 hne) ?_ ?_ R2 q'
  ·intro b hb
   rcases List.mem_cons.mp hb with rfl|hb
   ·exact Hy.one Y (R'.drop a) (B5 _) R'.up _ (.head _)
   ·simp at hb
    subst hb
    exact⟨by simp,(R'.sep _ _ e).1,(R'.sep _ _ e).2.1,R'.cells_ne Y e⟩
  ·exact⟨⟨_,Heap.get?_push_size _ rfl,rfl,rfl⟩,⟨o,es',Heap.get?_push_of_some _ g1,g2,g3,g4,g5,g6⟩⟩
 ·exact q'.elim
theorem Af5{e:Expr}{x:X}{two:Bool}(h:SE W G n c e x):SS W G n c e (.val x) two:=by
 intro A env aa H ρ s K target Q E Em ht ok Y R q hE hQ
 simp only[M5,Qp,Vm,Vn]at q
 refine wpAny_mono (h ok Y R q) (fun v s' r=>?_) hE
 refine Aa fun nY=>?_
 obtain⟨a,H',hv,R',q'⟩:=r
 refine nY ?_;clear nY
 induction hv with
 | ref a=>exact Af4 ok Y R' q' hQ
 | _=>exact False.elim q'
theorem Aa7(g:Jd W G){p pos:Pos}{es:List Expr}{xs:List X}{two:Bool}(hg:c.global "range" = true)(hs:Wg W G n c es xs)(hn:NS es):SS W G n c (.Call (.Name "range" p) es [] pos) (.range xs) two:=by
 intro A env aa H ρ s K target Q E Em ht ok Y R q hE hQ
 simp only[M5,Qp,Vm,Vn]at q
 refine Oc g Y R (.inr ⟨"range",rfl⟩) hg (by decide) (by decide) (by kernel_rfl) (by decide) hn (wpAny_mono (He (Q':=fun us s'=>(Jy fun as H'=>O4 (C5 W as us.pos) (us.kw = []) (Av W aa env c.names H' ρ s') (Fk as H' K))) hs hn ok Y R q fun as us H' s' hv R' q'=>⟨as,H',hv,rfl,R',q'⟩) (fun us s' r=>?_) hE)
 obtain⟨as,H',hv,hkw,R',q'⟩:=r
 obtain⟨us,kw⟩:=us
 simp only at hv hkw
 subst hkw
 have b1:Bp=1048576:=rfl
 have core:∀(r:Addr) (a b:Int) (t u v:Tok) (s2:Shared),Av W aa env c.names H' ρ s2->IsRange s2.heap r a b 1 t u v->0<=a->a<=Bp-> -(Bp:Int)<=b->b<=Bp->
  K ((List.range (b-a).toNat).map fun(i:Nat)=> .v (.int (a+i))) (fun _=>True) H'->wpAny W.M A (pyIter (.ref r)) Q Em s2:=by
  intro r a b t u v s2 R2 hr h1 h2 h3 h4 hk
  refine wpAny_pyIter_range hr (small_one (Int.le_trans (by decide) h1) (Ah0 b1 h2) (Ak3 b1 h3) (Ah0 b1 h4)) ?_
  refine hQ s2.heap.objs.size [s2.heap.objs.size] _ _ _ H' _ (Xo ok.handled target (a:=a) (k:=(b-a).toNat)) (Hy.one Y R2 (B5 _) R2.up) ?_ (R2.pushHid _ _) hk
  rw[rangeSize_nat]
  simp only[Int.natCast_zero,Int.add_zero,Int.sub_zero]
  exact Heap.get?_push_size _ rfl
 cases hv with
 | nil=>exact False.elim q'
 | cons hu t=>cases t with
   | nil=>
     apply Az hu q';intro k t q'
     refine call_range_1 ?_
     have R2:=R'.pushHid {cls:= .type "range",data:= .fields #[.int 0 s'.toks,.int k t,.int 1 (s'.toks+1)]} (s'.toks+1+1)
     refine core _ 0 k _ _ _ _ R2 (Heap.get?_push_size _ rfl) (by(first|lia|omega)) (by(first|lia|omega)) q'.1.1 q'.1.2 ?_
     simpa using q'.2
   | cons hu2 t=>cases t with
     | nil=>
       apply Az hu q';intro m t q';apply Az hu2 q';intro k t2 q'
       refine call_range_2 ?_
       have R2:=R'.pushHid {cls:= .type "range",data:= .fields #[.int m t,.int k t2,.int 1 s'.toks]} (s'.toks+1)
       have:=q'.1
       exact core _ m k _ _ _ _ R2 (Heap.get?_push_size _ rfl) this.1 this.2.1 this.2.2.1 this.2.2.2 q'.2
     | cons=>exact False.elim q'
theorem Ady(g:Jd W G){p pos:Pos}{e:Expr}{x:X}(hg:c.global "enumerate" = true)(h:SE W G n c e x)(hn:∀v p,e≠ .Starred v p):SS W G n c (.Call (.Name "enumerate" p) [e] [] pos) (.enum x) true:=by
 intro A env aa H ρ s K target Q E Em ht ok Y R q hE hQ
 simp only[M5,Qp,Vm,Vn]at q
 refine Oc g Y R (.inr ⟨"enumerate",rfl⟩) hg (by decide) (by decide) (by kernel_rfl) (by decide) (ns1 hn) ?_
 rw[B8 hn]
 refine Calls.evalArgs_plain (Calls.spliced_cons (wpAny_mono (h ok Y R q) (fun v s' r=>Calls.spliced_nil ?_) hE))
 refine Aa fun nY=>?_
 obtain⟨a,H',hv,R',q'⟩:=r
 refine nY ?_;clear nY
 apply Bx hv q';intro a q';refine E3 q' fun xs e q'=>?_
 refine Aa fun nY=>?_
 obtain⟨items,h1,r1,z1⟩:=R'.isList e
 refine nY ?_;clear nY
 refine call_enumerate_list h1 fun h' hE hI hsz hk=>?_
 refine wpAny_pyIter_enum hE ?_
 have hlt:a<s'.heap.objs.size:=by obtain⟨_,q,_⟩:=h1;exact Heap.lt_size q
 refine Aa fun nY=>?_
 cases target with
 | Tuple elts k tp=>
   refine nY ?_;clear nY
   refine hQ _ [s'.heap.objs.size+1,s'.heap.objs.size] _ _ _ H' _ (Aa6 ok.handled elts k tp (a:=a) (e:=s'.heap.objs.size+1) (it:=s'.heap.objs.size) (xs:=xs) (Nat.succ_ne_self _) (Nat.ne_of_lt (Nat.lt_succ_of_lt hlt)) (Nat.ne_of_lt hlt)) ?_ ⟨⟨_,hE⟩,hI⟩ (R'.move s'.toks hk) q'
   intro b hb
   have hb':s'.heap.objs.size<=b:=by
    refine Aa fun nY=>?_
    rcases List.mem_cons.mp hb with rfl|hb
    ·refine nY ?_;clear nY
     exact Nat.le_succ _
    ·rcases List.mem_cons.mp hb with rfl|hb
     ·refine nY ?_;clear nY
      exact Nat.le_refl _
     ·cases hb
   exact Hy.one Y R' (Pt hb') (Af R'.up hb') b (.head _)
 | _=>cases ht
theorem Af6(g:Jd W G){p pos:Pos}{e:Expr}{x:X}{two:Bool}(hg:c.global "reversed" = true)(h:SE W G n c e x)(hn:∀v p,e≠ .Starred v p):SS W G n c (.Call (.Name "reversed" p) [e] [] pos) (.rev x) two:=by
 intro A env aa H ρ s K target Q E Em ht ok Y R q hE hQ
 simp only[M5,Qp,Vm,Vn]at q
 refine Oc g Y R (.inr ⟨"reversed",rfl⟩) hg (by decide) (by decide) (by kernel_rfl) (by decide) (ns1 hn) ?_
 rw[B8 hn]
 refine Calls.evalArgs_plain (Calls.spliced_cons (wpAny_mono (h ok Y R q) (fun v s' r=>Calls.spliced_nil ?_) hE))
 refine Aa fun nY=>?_
 obtain⟨a,H',hv,R',q'⟩:=r
 refine nY ?_;clear nY
 apply Bx hv q';intro a q';refine E3 q' fun xs e q'=>?_
 refine Aa fun nY=>?_
 obtain⟨items,h1,r1,z1⟩:=R'.isList e
 refine nY ?_;clear nY
 refine call_reversed_list h1 ?_
 have hI:(s'.heap.push (revObj a ((items.toArray.size:Int)-1))).IsRevIter s'.heap.objs.size a ((xs.length:Int)-1-((0:Nat):Int)):=⟨_,Heap.get?_push_size _ rfl,rfl,by simp[revObj,r1.length]⟩
 refine wpAny_pyIter_revIter hI ?_
 exact hQ s'.heap.objs.size [s'.heap.objs.size] _ _ _ H' _ (Adx ok.handled target (a:=a) (xs:=xs)) (Hy.one Y R' (B5 _) R'.up) ⟨Nat.zero_le _,hI⟩ (R'.pushHid _ _) q'
end Mine.Internal
namespace Mine.Internal
open PySem PySem.W PyProof.Rows
variable {W:Wd} {G:A2} {A:Around} {aa:HB} {env:Env} {c:Cx} {names:List Str} {H H':AH} {ρ ρ':Ak} {s s':Shared} {E:Value->Shared->Prop} {n:Nat} {Q:Ag} {Er:EP}
theorem P6:∀ {l:List Str} {x y:Str} {i:Nat},l.idxOf? x=some i->l.idxOf? y=some i->x=y
 | [],_,_,_,h,_=>by simp at h
 | a::l,x,y,i,h1,h2=>by
   rw[List.idxOf?_cons]at h1 h2
   split at h1
   ·rename_i q1
    cases h1
    split at h2
    ·rename_i q2
     exact(beq_iff_eq.mp q1).symm.trans (beq_iff_eq.mp q2)
    ·simp at h2
   ·split at h2
    ·cases h2;simp at h1
    ·obtain⟨j,h3,h4⟩:=Option.map_eq_some_iff.mp h1
     obtain⟨k,h5,h6⟩:=Option.map_eq_some_iff.mp h2
     have:j=k:=(Nat.succ.inj (h4.trans h6.symm))
     subst this
     exact P6 h3 h5
theorem Xp{x:Str}{i:Nat}(h:c.own x=some i):c.names.idxOf? x=some i/\(c.sc.names.lookup x=some .local\/c.sc.names.lookup x=some .cell):=by
 unfold Cx.own at h
 refine Aa fun nY=>?_
 split at h
 ·rename_i q
  refine nY ?_;clear nY
  refine⟨h,?_⟩
  unfold Vr at q
  split at q<;>first|(rename_i e;simp[e])|cases q
 ·cases h
theorem P7(Y:Ap W env c aa)(R:Av W aa env c.names H ρ s){x:Str}{i:Nat}{a:V}{u:Value}(hs:c.own x=some i)(hv:VR W a u) :
 wpAny W.M A (storeName env x u) (fun _ s'=>Av W aa env c.names H (ρ.set i (some a)) s') E s:=by
 refine Aa fun nY=>?_
 obtain⟨hi,hk⟩:=Xp hs
 have other:∀ {y:Str} {j:Nat} {v:V},c.names.idxOf? y=some j->y≠x->(ρ.set i (some a))[j]? = some (some v)->ρ[j]? = some (some v):=by
  intro y j v h1 h2 h3
  have:i≠j:=fun q=>h2 (P6 h1 (q▸hi))
  rwa[List.getElem?_set_ne this]at h3
 have same:∀ {j:Nat} {v:V},c.names.idxOf? x=some j->(ρ.set i (some a))[j]? = some (some v)->v=a:=by
  intro j v h1 h3
  rw[hi]at h1;cases h1
  rw[List.getElem?_set_self']at h3
  cases q:ρ[i]? with
  | none=>rw[q]at h3;cases h3
  | some z=>rw[q]at h3;simp at h3;exact h3.symm
 rcases hk with hk|hk
 ·have hx:env.kindOf x=some .local:=Y.kinds x _ hk (by simp)
  obtain⟨m,h1,h2⟩:=R.ns
  refine nY ?_;clear nY
  refine wpAny_storeName_local hx h1 (fun h' hn hb=>?_) (by simp[Y.kind])
  refine⟨⟨_,hn,fun y j v e1 e2 e3=>?_⟩,?_,?_,?_,R.sep,R.gens,R.os,R.above,R.low⟩
  ·refine Aa fun nY=>?_
   by_cases q:y=x
   ·subst q
    refine nY ?_;clear nY
    rw[same e1 e3]
    exact⟨u,by simp,hv⟩
   ·refine nY ?_;clear nY
    simp only[q,if_false]
    exact h2 y j v e1 e2 (other e1 q e3)
  ·intro y b e
   refine Aa fun nY=>?_
   obtain⟨w,⟨o,ho,hd⟩,r⟩:=R.cell y b e
   refine nY ?_;clear nY
   refine⟨w,⟨o,(hb.2 b (Y.apart y b e)).trans ho,hd⟩,fun j v e1 e2 e3=>r j v e1 e2 (other e1 (fun q=>?_) e3)⟩
   refine Aa fun nY=>?_
   subst q
   rw[hx]at e2
   rcases e2 with e2|e2<;>cases e2
  ·intro b o e
   refine Aa fun nY=>?_
   obtain⟨o',e1,z⟩:=R.keep b o e
   refine nY ?_;clear nY
   exact⟨o',(hb.2 b (fun q=>by rw[q,Y.new]at e;cases e)).trans e1,z⟩
  ·intro b o e
   refine Aa fun nY=>?_
   obtain⟨ob,g1,g2⟩:=R.objs b o e
   refine nY ?_;clear nY
   exact⟨ob,(hb.2 b (R.sep b o e).2.1).trans g1,g2⟩
 ·have hx:env.kindOf x=some .cell:=Y.kinds x _ hk (by simp)
  obtain⟨ca,hca⟩:=Y.cells x (.inl hx)
  obtain⟨w,hw,hr⟩:=R.cell x ca hca
  refine nY ?_;clear nY
  refine wpAny_storeName_cell Y.kind hx hca hw fun h' hn hb=>?_
  refine⟨?_,?_,?_,?_,R.sep,R.gens,R.os,R.above,R.low⟩
  ·refine Aa fun nY=>?_
   obtain⟨m,h1,h2⟩:=R.ns
   refine nY ?_;clear nY
   refine⟨m,h1.sameBut hb (fun q=>Y.apart x ca hca q.symm),fun y j v e1 e2 e3=>h2 y j v e1 e2 (other e1 (fun q=>?_) e3)⟩
   subst q
   rw[hx]at e2;cases e2
  ·intro y b e
   refine Aa fun nY=>?_
   by_cases q:y=x
   ·subst q
    rw[hca]at e;cases e
    refine nY ?_;clear nY
    exact⟨some u,hn,fun j v e1 e2 e3=>⟨u,rfl,by rw[same e1 e3];exact hv⟩⟩
   ·obtain⟨w,⟨o,ho,hd⟩,r⟩:=R.cell y b e
    refine nY ?_;clear nY
    exact⟨w,⟨o,(hb.2 b (fun z=>q (Y.inj y x b e (z▸hca)))).trans ho,hd⟩,fun j v e1 e2 e3=>r j v e1 e2 (other e1 q e3)⟩
  ·intro b o e
   refine Aa fun nY=>?_
   obtain⟨o',e1,z⟩:=R.keep b o e
   refine nY ?_;clear nY
   refine⟨o',(hb.2 b (fun q=>?_)).trans e1,z⟩
   refine Aa fun nY=>?_
   obtain⟨p,hp,hp2⟩:=Bf hca
   have:=Y.newc p hp
   rw[hp2,<-q,e]at this;cases this
  ·intro b o e
   refine Aa fun nY=>?_
   obtain⟨ob,g1,g2⟩:=R.objs b o e
   refine nY ?_;clear nY
   exact⟨ob,(hb.2 b (fun q=>(R.sep b o e).2.2 x (q▸hca))).trans g1,g2⟩
theorem Of(Y:Ap W env c aa)(R:Av W aa env c.names H ρ s)(hh:A.handled=none){x y:Str}{px py tp:Pos}{k i j:Nat}{T:Addr}{a b:V}{u1 u2:Value}(hx:c.own x=some i)(hy:c.own y=some j)(ht:s.heap.IsTuple T #[u1,u2])(h1:VR W a u1)(h2:VR W b u2) :
 wpAny W.M A (assign (.Tuple [.Name x px,.Name y py] k tp) env (.ref T)) (fun _ s'=>Av W aa env c.names H ((ρ.set i (some a)).set j (some b)) s') E s:=by
 refine wpAny_assign_Tuple hh ht rfl rfl fun h' hk=>?_
 have R':Av W aa env c.names H ρ {s with heap:=h'}:=R.move s.toks fun b o e=>hk b o (fun q=>by rw[q,B5]at e;cases e) e
 refine wpAny_assignInOrder_more ?_
 refine wpAny_assign_Name (wpAny_mono (P7 Y R' hx h1) (fun _ s1 R1=>?_) fun _ _ e=>e)
 refine wpAny_assignInOrder_more ?_
 exact wpAny_assign_Name (wpAny_mono (P7 Y R1 hy h2) (fun _ s2 R2=>wpAny_assignInOrder_none R2) fun _ _ e=>e)
theorem Og(Y:Ap W env c aa)(R:Av W aa env c.names H ρ s)(hh:A.handled=none){target:Expr}{t:Rw}{it:It}{v:Value}{N:Ak->Prop}(ht:Y7 c target=some t)(hi:ItR W s.heap it v)(q:Kb t it ρ H N) :
 wpAny W.M A (assign target env v) (fun _ s'=>∃ρ',Av W aa env c.names H ρ' s'/\N ρ') E s:=by
 refine Aa fun nY=>?_
 rcases Acv ht with⟨x,p,rfl,i,h1,rfl⟩ | ⟨x,px,y,py,k,tp,rfl,i,h1,j,h2,rfl⟩
 ·clear ht
  delta Kb at q
  cases hi with
  | v hv=>(refine nY ?_;clear nY;exact wpAny_assign_Name (wpAny_mono (P7 Y R h1 hv) (fun _ s' R'=>⟨_,R',q⟩) fun _ _ e=>e))
  | pair _ _ _=>exact q.elim
 ·clear ht
  delta Kb at q
  cases hi with
  | v hv=>
    rename_i va
    cases va with
    | ref a=>
      cases hv
      simp only at q
      split at q
      ·rename_i a1 a2 e
       obtain⟨items,g1,r1,z1⟩:=R.isTup e
       obtain⟨u1,u2,rfl,v1,v2⟩:=Alc r1
       refine nY ?_;clear nY
       exact wpAny_mono (Of Y R hh h1 h2 g1 v1 v2) (fun _ s' R'=>⟨_,R',q⟩) fun _ _ e=>e
      ·exact q.elim
    | _=>exact q.elim
  | pair ht v1 v2=>(refine nY ?_;clear nY;exact wpAny_mono (Of Y R hh h1 h2 ht v1 v2) (fun _ s' R'=>⟨_,R',q⟩) fun _ _ e=>e)
end Mine.Internal
namespace Mine.Internal
open PySem PySem.W PyProof.Rows
variable {W:Wd} {G:A2} {A:Around} {aa:HB} {env:Env} {c:Cx} {names:List Str} {H H':AH} {ρ ρ':Ak} {s s':Shared} {E:Value->Shared->Prop} {n:Nat} {Q:Ag} {Er:EP}
noncomputable def Wj(W:Wd)(aa:HB)(env:Env)(names:List Str)(N:Ak->AH->Prop)(Rt:Ag)(f:Flow)(s':Shared):Prop:=match f with
 | .next=>(Jy fun ρ' H'=>Av W aa env names H' ρ' s'/\N ρ' H')
 | .ret v=>(Ex3 fun a H' ρ'=>Fe (VR W a v) (Av W aa env names H' ρ' s') (Rt a H'))
 | _=>False
noncomputable def S5(W:Wd)(G:A2)(n:Nat)(c:Cx)(st:Stmt)(x:S):Prop:=
 ∀ {A:Around} {env:Env} {aa:HB} {H:AH} {ρ:Ak} {s:Shared} {N:Ak->AH->Prop} {Rt:Ag} {E:EP},Pu A c aa env n->Ap W env c aa->Av W aa env c.names H ρ s->wpS G (Ae G n) x ρ H N Rt E->
  wpAny W.M A (exec st env) (Wj W aa env c.names N Rt) EM s
noncomputable def Pd(W:Wd)(G:A2)(n:Nat)(c:Cx)(sts:List Stmt)(xs:List S):Prop:=
 ∀ {A:Around} {env:Env} {aa:HB} {H:AH} {ρ:Ak} {s:Shared} {N:Ak->AH->Prop} {Rt:Ag} {E:EP},Pu A c aa env n->Ap W env c aa->Av W aa env c.names H ρ s->Bh G (Ae G n) xs ρ H N Rt E->
  wpAny W.M A (execs sts env) (Wj W aa env c.names N Rt) EM s
theorem Aa8:Pd W G n c [] []:=by
 intro A env aa H ρ s N Rt E ok Y R q
 exact wpAny_pure ⟨ρ,H,R,q⟩
theorem Aa9{st:Stmt}{x:S}(h:S5 W G n c st x):Pd W G n c [st] [x]:=by
 intro A env aa H ρ s N Rt E ok Y R q
 simp only[Z0,Z1]at q
 refine wpAny_execs_cons (wpAny_mono (h ok Y R q) (fun f s' r=>?_) fun _ _ e=>e)
 cases f with
 | next=>exact wpAny_pure r
 | ret v=>exact r
 | brk=>exact r.elim
 | cont=>exact r.elim
theorem Xq{st:Stmt}{sts:List Stmt}{x y:S}{xs:List S}(h:S5 W G n c st x)(hs:Pd W G n c sts (y::xs)):Pd W G n c (st::sts) (x::y::xs):=by
 intro A env aa H ρ s N Rt E ok Y R q
 rw[Z1]at q
 refine wpAny_execs_cons (wpAny_mono (h ok Y R q) (fun f s' r=>?_) fun _ _ e=>e)
 cases f with
 | next=>
   obtain⟨ρ',H',R',q'⟩:=r
   exact wpAny_mono (hs ok Y R' q') (fun _ _ r=>r) fun _ _ e=>e
 | ret v=>exact r
 | brk=>exact r.elim
 | cont=>exact r.elim
theorem Src.stays{target:Expr}{I:Addr}{hs:List Addr}{its:List It}{g:AH->Prop}{Obs:Nat->Heap->Prop}(S:Src W A target I hs its g Obs){i:Nat}(Y:Ap W env c aa)(hid:Hy aa env H hs)(st:Obs i s.heap){names':List Str}(R':Av W (Mine.Internal.prot env aa.fs H s.heap) env names' H' ρ' s') :
 Obs i s'.heap/\Hy aa env H' hs:=by
 refine⟨S.frame i _ _ st fun b hb o e=>Mine.Internal.stays e (hid b hb).1 (hid b hb).2.2.1 (hid b hb).2.2.2 (fun m=>Y.fsok b m (hid b hb).2.1) R',fun b hb=>⟨?_,(hid b hb).2⟩⟩
 obtain⟨o,e⟩:=S.live i _ st b hb
 cases q:H' b with
 | none=>rfl
 | some z=>
   have:=(R'.sep b z q).1
   rw[Cj e (hid b hb).1 (hid b hb).2.2.1 (hid b hb).2.2.2]at this
   cases this
theorem Ck{α:Type}{l:List α}{i:Nat}{x:α}{r:List α}(h:l.drop i=x::r):l[i]? = some x/\l.drop (i+1)=r:=by
 constructor
 ·have:=congrArg List.head? h
  simpa using this
 ·have:=congrArg List.tail h
  simpa using this
noncomputable abbrev Ale(W:Wd)(aa:HB)(env:Env)(names:List Str)(hs:List Addr)(Obs:Nat->Heap->Prop)(its:List It)(lp:List It->Ak->AH->Prop)(k:Nat)(s:Shared):Prop:=
 (Ex3 fun i H ρ=>An6 (Av W aa env names H ρ s) (Hy aa env H hs) (Obs i s.heap) (lp (its.drop i) ρ H) (i<=its.length) (k=its.length-i+1))
theorem Af7{target iter:Expr}{body:List Stmt}{pos:Pos}{t:Rw}{x:X}{xs:List S}(hs:SS W G n c iter x (Kt target))(ht:Y7 c target=some t)(hb:Pd W G n c body xs)(hset:∀env v,foldedSetIterable iter env v=pure v) :
 S5 W G n c (.For target iter body [] pos) (.for t x xs):=by
 intro A env aa H aW s N Rt E ok Y R q
 simp only[Zw,Bz,Bl,Zx,Za,Zy,Zz,Je,D0,Z0,Z1,D1]at q
 refine wpAny_For (hs rfl ok Y R q (fun _ _ e=>e) fun I hss its g Obs H' s' S hid st R' q'=>?_) (hset env)
 refine codeAny_forLoop_any (Ale W aa env c.names hss Obs its (Cv g t (fun ρ H K=>Bh G (Ae G n) xs ρ H K Rt E) N)) ?_ (its.length+1)
  ⟨0,H',aW,R',hid,st,q',Nat.zero_le _,by simp⟩
 rintro k s hP3
 refine Aa fun nY=>?_
 obtain⟨i,H,ρ,R,hid,st,q,hi,rfl⟩:=hP3
 refine nY ?_;clear nY
 cases hd:its.drop i with
 | nil=>
   rw[hd]at q
   obtain⟨g1,q⟩:=q
   have:i=its.length:=by
    have:=congrArg List.length hd
    simp at this;exact Nat.le_antisymm hi (Nat.sub_eq_zero_iff_le.mp this)
   subst this
   refine wpAny_mono (S.done Y R hid g1 st) (fun r ar am=>?_) fun _ _ e=>e
   obtain⟨rfl,R1,_⟩:=am
   exact wpAny_pure ⟨ρ,H,R1,q⟩
 | cons y r=>
   rw[hd]at q
   refine Aa fun nY=>?_
   obtain⟨g1,q⟩:=q
   obtain⟨hx,hd'⟩:=Ck hd
   have hlt:i<its.length:=(Da hx).1
   refine nY ?_;clear nY
   refine wpAny_mono (S.turn (E':=notedBy W.M A env fun e s'=>cameBackBy W.M A env EM e s') Y R hid g1 st hx) (fun r ar am=>?_) fun _ _ e=>e
   obtain⟨v,rfl,am⟩:=am
   refine wpAny_mono am (fun _ ay aJ=>?_) fun _ _ e=>e
   refine Aa fun nY=>?_
   obtain⟨R2,st2,hit,_⟩:=aJ
   have YP:=Y.prot R2
   refine nY ?_;clear nY
   refine wpAny_mono (Og YP R2.prot ok.handled ht hit q) (fun _ aC aH=>?_) fun _ _ e=>e
   refine Aa fun nY=>?_
   obtain⟨ρ3,R3,q3⟩:=aH
   refine nY ?_;clear nY
   refine wpAny_mono (hb (ok.prot Y R2) YP R3 q3) (fun f aD aF=>?_) fun _ _ e=>False.elim e
   refine Aa fun nY=>?_
   cases f with
   | next=>
     obtain⟨ρ4,H4,R4,q4⟩:=aF
     obtain⟨st4,hid4⟩:=S.stays Y hid st2 R4
     refine nY ?_;clear nY
     refine⟨its.length-(i+1)+1,(Afh hlt),i+1,H4,ρ4,R2.unprot Y R4,hid4,st4,?_,hlt,rfl⟩
     rw[hd'];exact q4
   | ret v=>
     obtain⟨a,H4,ρ4,hv,R4,q4⟩:=aF
     refine nY ?_;clear nY
     exact⟨a,H4,ρ4,hv,R2.unprot Y R4,q4⟩
   | brk=>exact aF.elim
   | cont=>exact aF.elim
theorem Aba{test:Expr}{body:List Stmt}{pos:Pos}{x:X}{xs:List S}(h:ST W G n c test x)(hb:Pd W G n c body xs):S5 W G n c (.While test body [] pos) (.while x xs):=by
 intro A env aa H ρ s N Rt E ok Y R q
 simp only[Zw,Bz,Bl,Zx,Za,Zy,Zz,Je,D0,Z0,Z1,D1]at q
 refine Aa fun nY=>?_
 obtain⟨I,⟨k,hk⟩,step⟩:=q
 refine nY ?_;clear nY
 refine wpAny_While (codeAny_whileLoop (fun k s=>(Jy fun H ρ=>Av W aa env c.names H ρ s/\I k ρ H)) ?_ k ⟨H,ρ,R,hk⟩)
 rintro k s hP4
 refine Aa fun nY=>?_
 obtain⟨H,ρ,R,hk⟩:=hP4
 refine nY ?_;clear nY
 refine wpAny_mono (h (E:=E) (Q:=fun b H=>if b then Bh G (Ae G n) xs ρ H (fun ρ H=>∃m,m<k/\I m ρ H) Rt E else N ρ H) ok Y R (step k ρ H hk)) (fun b ay r=>?_) fun _ _ e=>False.elim e
 refine Aa fun nY=>?_
 obtain⟨H2,R2,q2⟩:=r
 cases b with
 | false=>
   refine nY ?_;clear nY
   simp only[Bool.false_eq_true,if_false]at q2 ⊢
   exact wpAny_pure ⟨ρ,H2,R2,q2⟩
 | true=>
   refine nY ?_;clear nY
   simp only[if_true]at q2 ⊢
   refine wpAny_mono (hb ok Y R2 q2) (fun f aC r=>?_) fun _ _ e=>False.elim e
   refine Aa fun nY=>?_
   cases f with
   | next=>
     obtain⟨ρ3,H3,R3,m,hm,hI⟩:=r
     refine nY ?_;clear nY
     exact⟨m,hm,H3,ρ3,R3,hI⟩
   | ret v=>(refine nY ?_;clear nY;exact r)
   | brk=>exact r.elim
   | cont=>exact r.elim
end Mine.Internal
namespace Mine.Internal
open PySem PySem.W PyProof.Rows
variable {W:Wd} {G:A2} {A:Around} {aa:HB} {env:Env} {c:Cx} {names:List Str} {H H':AH} {ρ ρ':Ak} {s s':Shared} {E:Value->Shared->Prop} {n:Nat} {Q:Ag} {Er:EP}
/-! the cells of a comprehension -/
noncomputable def Gv(env:Env):List (Str×NameKind)->List (Str×Addr)->List (Str×Addr)
 | [],acc=>acc
 | (nm,k)::r,acc=>if k == .free then Gv env r ((nm,(env.cells.lookup nm).getD 0)::acc)else Gv env r acc
theorem Oh(env:Env):∀(l:List (Str×NameKind)) (acc:List (Str×Addr)),(∀p∈l,p.2 = .free->(env.cells.lookup p.1).isSome=true)->
 (forIn l acc fun(x:Str×NameKind) cs=>(match x with|(name,kind)=>if (kind == .free)=true then do let a <-cellOf env name;pure (ForInStep.yield ((name,a)::cs))else pure (ForInStep.yield cs):Sem (ForInStep (List (Str×Addr)))))=pure (Gv env l acc)
 | [],acc,_=>rfl
 | (nm,k)::r,acc,h=>by
   rw[List.forIn_cons]
   have ih:=fun acc=>Oh env r acc fun p hp=>h p (.tail _ hp)
   unfold Gv
   by_cases q:(k==NameKind.free)=true
   ·simp only[q,if_true]
    have hk:=beq_iff_eq.mp q
    obtain⟨a,ha⟩:=Option.isSome_iff_exists.mp (h (nm,k) (.head _) hk)
    simp only at ha
    unfold cellOf
    rw[ha]
    exact ih _
   ·simp only[q,if_false]
    exact ih _
theorem M0{sc:Scope}(h:∀p∈sc.names,p.2 = .free->(env.cells.lookup p.1).isSome=true):closureFor sc env=pure (Gv env sc.names []):=by
 have:=Oh env sc.names [] h
 unfold closureFor
 first
  | (rw[this];rfl)
  | (simp only[bind_pure];exact this)
  | (show (forIn sc.names [] _ >>= _)=_
     erw [this];rfl)
theorem Oi:∀ {l:List (Str×NameKind)} {acc:List (Str×Addr)} {p:Str×Addr},p∈Gv env l acc->p∈acc\/((p.1,NameKind.free)∈l/\p.2=(env.cells.lookup p.1).getD 0)
 | [],acc,p,h=> .inl h
 | (nm,k)::r,acc,p,h=>by
   unfold Gv at h
   split at h
   ·rename_i q
    have hk:=beq_iff_eq.mp q
    subst hk
    rcases Oi h with h | ⟨h1,h2⟩
    ·rcases List.mem_cons.mp h with rfl|h
     ·exact .inr ⟨.head _,rfl⟩
     ·exact .inl h
    ·exact .inr ⟨.tail _ h1,h2⟩
   ·rcases Oi h with h | ⟨h1,h2⟩
    ·exact .inl h
    ·exact .inr ⟨.tail _ h1,h2⟩
theorem Oj:∀ {l:List (Str×NameKind)} {acc:List (Str×Addr)} {p:Str×Addr},p∈acc->p∈Gv env l acc
 | [],acc,p,h=>h
 | (nm,k)::r,acc,p,h=>by
   unfold Gv
   split
   ·exact Oj (.tail _ h)
   ·exact Oj h
theorem Ok:∀ {l:List (Str×NameKind)} {acc:List (Str×Addr)} {x:Str},(x,NameKind.free)∈l->(x,(env.cells.lookup x).getD 0)∈Gv env l acc
 | (nm,k)::r,acc,x,h=>by
   unfold Gv
   rcases List.mem_cons.mp h with e|h
   ·cases e
    exact Oj (.head _)
   ·split
    ·exact Ok h
    ·exact Ok h
theorem A6{β:Type}{l:List (Str×β)}{x:Str}{b:β}(h:l.lookup x=some b):(x,b)∈l:=by
 induction l with
 | nil=>cases h
 | cons p r ih=>
   obtain⟨y,z⟩:=p
   rw[List.lookup_cons]at h
   split at h
   ·rename_i q
    cases h
    rw[beq_iff_eq.mp q];exact .head _
   ·exact .tail _ (ih h)
theorem J3{β:Type}{l:List (Str×β)}{x:Str}{b:β}(h:(x,b)∈l):∃b',l.lookup x=some b':=by
 induction l with
 | nil=>cases h
 | cons p r ih=>
   obtain⟨y,z⟩:=p
   rw[List.lookup_cons]
   split
   ·exact⟨_,rfl⟩
   ·rename_i q
    refine Aa fun nY=>?_
    rcases List.mem_cons.mp h with e|h
    ·cases e;simp at q
    ·refine nY ?_;clear nY
     exact ih h
structure Cr(c:Cx)(sc:Scope)(ts:List Str):Prop where
 kind:sc.kind = .function
 nocell:∀p∈sc.names,p.2≠ .cell
 locals:∀p∈sc.names,p.2 = .local->sc.names.lookup p.1=some .local
 own:∀p∈sc.names,p.2 = .local->p.1∈ts\/p.1∉c.names
 frees:∀p∈sc.names,p.2 = .free->c.sc.names.lookup p.1=some .cell/\sc.names.lookup p.1=some .free
 tsl:∀t∈ts,sc.names.lookup t=some .local
 shape:(∃x,ts = [x])\/(Jy fun x y=>ts = [x,y]/\x≠y)
theorem Xr{sc:Scope}{ts:List Str}(h:T9 c.names c.sc sc ts=true)(hl:(∃x,ts = [x])\/(Jy fun x y=>ts = [x,y])):Cr c sc ts:=by
 delta T9 at h
 simp only[Bool.and_eq_true,List.all_eq_true,beq_iff_eq,bne_iff_ne,Bool.or_eq_true]at h
 obtain⟨⟨⟨⟨h1,h2⟩,h3⟩,h4⟩,h5⟩:=h
 refine⟨h2,fun p hp=>(h4 p hp).1.1,fun p hp q=>?_,fun p hp q=>?_,fun p hp q=>?_,fun t ht=>h5 t ht,?_⟩
 ·rcases(h4 p hp).1.2 with z|z
  ·exact absurd q z
  ·exact z
 ·rcases h3 p hp with(z|z)|z
  ·exact absurd q z
  ·exact .inl (by simpa using z)
  ·exact .inr (by simpa using z)
 ·rcases(h4 p hp).2 with z|z
  ·exact absurd q z
  ·exact z
 ·rcases hl with⟨x,rfl⟩ | ⟨x,y,rfl⟩
  ·exact .inl ⟨x,rfl⟩
  ·exact .inr ⟨x,y,rfl,by simpa using h1⟩
noncomputable def rl(env:Env)(p:Str×NameKind):Str×NameKind:=if (p.2 == .free&&env.scope.kind == .function&&env.kindOf p.1==some .cell)then(p.1,.cell)else p
theorem Af8(p:Str×NameKind):(rl env p).1=p.1:=by unfold rl;split<;>rfl
theorem Ju{sc:Scope}:(relabel sc env).names=sc.names.map (rl env):=by
 unfold relabel
 simp only
 congr 1
theorem Ls{x:Str}:∀ {l:List (Str×NameKind)},(l.map (rl env)).lookup x=(l.lookup x).map fun k=>(rl env (x,k)).2
 | []=>rfl
 | (y,z)::r=>by
   rw[List.map_cons,show rl env (y,z)=(y,(rl env (y,z)).2)from Prod.ext (Af8 _) rfl,List.lookup_cons,List.lookup_cons]
   cases hx:x==y with
   | true=>rw[beq_iff_eq.mp hx];rfl
   | false=>exact Ls
theorem Dp{sc:Scope}{x:Str}{k:NameKind}(h:sc.names.lookup x=some k) :
 (k≠ .free->(relabel sc env).names.lookup x=some k)/\(k = .free->(relabel sc env).names.lookup x=some .cell\/(relabel sc env).names.lookup x=some .free):=by
 rw[Ju,Ls,h]
 simp only[Option.map_some,Option.some.injEq,rl]
 constructor
 ·intro hk
  rw[if_neg (by simp[hk])]
 ·rintro rfl
  split
  ·exact .inl rfl
  ·exact .inr rfl
theorem J4{sc:Scope}{x:Str}{k:NameKind}(h:(relabel sc env).names.lookup x=some k):sc.names.lookup x=some k\/(k = .cell/\sc.names.lookup x=some .free):=by
 rw[Ju,Ls]at h
 refine Aa fun nY=>?_
 obtain⟨z,h1,h2⟩:=Option.map_eq_some_iff.mp h
 unfold rl at h2
 split at h2
 ·rename_i q
  simp only[Bool.and_eq_true,beq_iff_eq]at q
  refine nY ?_;clear nY
  exact .inr ⟨h2.symm,by rw[h1,q.1.1]⟩
 ·refine nY ?_;clear nY
  exact .inl (by rw[h1];exact congrArg some h2)
noncomputable abbrev En(c:Cx)(sc:Scope)(ts:List Str):Cx:=⟨ts++c.names,sc,true⟩
noncomputable abbrev Ir(sc:Scope)(env:Env)(C:Addr):Env:=compEnvC sc (Gv env sc.names []) C env
section
variable {sc:Scope} {ts:List Str} {C:Addr}
theorem P8(K:Cr c sc ts)(Y:Ap W env c aa){p:Str×NameKind}(hp:p∈sc.names)(hf:p.2 = .free):∃a,env.cells.lookup p.1=some a:=
 Y.cells p.1 (.inl (Y.kinds _ _ (K.frees p hp hf).1 (by simp)))
theorem Hf(K:Cr c sc ts)(Y:Ap W env c aa){p:Str×Addr}(h:p∈Gv env sc.names []):env.cells.lookup p.1=some p.2/\sc.names.lookup p.1=some .free:=by
 refine Aa fun nY=>?_
 rcases Oi h with h | ⟨h1,h2⟩
 ·cases h
 ·obtain⟨a,ha⟩:=P8 K Y h1 rfl
  simp only at ha
  rw[ha]at h2
  refine nY ?_;clear nY
  exact⟨by rw[ha,h2];rfl,(K.frees _ h1 rfl).2⟩
theorem Ce(K:Cr c sc ts)(Y:Ap W env c aa){x:Str}{a:Addr}(h:(Gv env sc.names []).lookup x=some a):env.cells.lookup x=some a/\sc.names.lookup x=some .free:=Hf K Y (A6 h)
theorem Av.in_comp(K:Cr c sc ts)(Y:Ap W env c aa)(R:Av W aa env names H ρ s)(hC:Hy aa env H [C]):Gq W aa (Mine.Internal.prot (Ir sc env C) (env.locals::aa.fs) H s.heap).h:=fun b o e=>
 let ⟨o',e1,z⟩:=R.keep b o e;⟨o',Cj e1 (by cases q:H b with
  | none=>rfl
  | some x=>rw[(R.sep b x q).1]at e;cases e) (fun q=>by have h1:=(hC C (.head _)).2.1;have h2:b=C:=q;rw[<-h2,e]at h1;cases h1)
  (fun p hp q=>by
    obtain⟨p',hp',hp2⟩:=Bf (Hf K Y hp).1
    have:=Y.newc p' hp'
    rw[hp2,q,e]at this;cases this),z⟩
theorem Mp(K:Cr c sc ts)(Y:Ap W env c aa)(R:Av W aa env names H ρ s)(hC:Hy aa env H [C]):∃o,(Mine.Internal.prot (Ir sc env C) (env.locals::aa.fs) H s.heap).get? env.locals=some o/\s.heap.get? env.locals=some o:=by
 refine Aa fun nY=>?_
 obtain⟨m,⟨o,es,ep,h1,h2⟩,_⟩:=R.ns
 refine nY ?_;clear nY
 refine⟨o,Cj h1 ?_ (fun q=>(hC C (.head _)).2.2.1 (q:env.locals=C).symm) (fun p hp q=>Y.apart p.1 p.2 (Hf K Y hp).1 q),h1⟩
 cases q:H env.locals with
 | none=>rfl
 | some x=>exact absurd rfl (R.sep _ _ q).2.1
theorem Ap.comp(K:Cr c sc ts)(Y:Ap W env c aa)(R:Av W aa env names H ρ s)(hC:Hy aa env H [C])(hC':W.aj.objs.size<=C):Ap W (Ir sc env C) (En c sc ts) (Mine.Internal.prot (Ir sc env C) (env.locals::aa.fs) H s.heap) where
 kind:=K.kind
 globals:=Y.globals
 builtins:=Y.builtins
 kinds:=fun x k e hk=>(Dp (env:=env) e).1 hk
 frees:=fun x e=>(Dp (env:=env) e).2 rfl
 cells:=fun x e=>by
  have key:sc.names.lookup x=some .free:=by
   rcases e with e|e
   ·rcases J4 (env:=env) e with h | ⟨_,h⟩
    ·exact absurd rfl (K.nocell _ (A6 h))
    ·exact h
   ·rcases J4 (env:=env) e with h | ⟨h,_⟩
    ·exact h
    ·cases h
  exact J3 (Ok (acc:=[]) (A6 key))
 apart:=fun x a e=>by
  obtain⟨h1,_⟩:=Ce K Y e
  obtain⟨p,hp,hp2⟩:=Bf h1
  intro q
  exact(hC C (.head _)).2.2.2 p hp (hp2.trans q)
 inj:=fun x y a e1 e2=>Y.inj x y a (Ce K Y e1).1 (Ce K Y e2).1
 base:=fun b o e=>Cj (R.keepB Y b o e)
  (by cases q:H b with
      | none=>rfl
      | some x=>have:=(R.sep b x q).1;rw[Y.base b o e]at this;cases this)
  (fun q=>absurd (Heap.lt_size e) (Nat.not_lt.mpr (by rw[q];exact hC')))
  (fun p hp q=>by
    obtain⟨p',hp',hp2⟩:=Bf (Hf K Y hp).1
    have:=Y.newc p' hp'
    rw[hp2,q,Y.base b o e]at this;cases this)
 fsok:=fun L m q=>by
  rcases List.mem_cons.mp m with rfl|m
  ·obtain⟨o,h1,_⟩:=Mp K Y R hC
   rw[h1]at q;cases q
  ·exact Y.fsok L m ((Av.in_comp K Y R hC).none q)
 fsd:=fun L m=>by
  rcases List.mem_cons.mp m with rfl|m
  ·refine⟨Pt R.above,fun o e vs q=>?_⟩
   obtain⟨m,⟨o',es,ep,h1,h2,_⟩,_⟩:=R.ns
   rw[Fx e]at h1;cases h1
   rw[h2]at q;cases q
  ·exact⟨(Y.fsd L m).1,fun o e=>by obtain⟨o',e1,z⟩:=R.fsd Y m;rw[Fx e]at e1;cases e1;exact z⟩
 new:=Cy (.inr (.inl rfl))
 newc:=fun p hp=>Cy (.inr (.inr ⟨p,hp,rfl⟩))
 look:=fun p hp=>by
  obtain⟨a,ha⟩:=J3 hp
  have h1:=(Ce K Y ha).1
  have h2:=(Hf K Y hp).1
  rw[h1]at h2;cases h2
  exact ha
 lo:=Y.lo
end
end Mine.Internal
namespace Mine.Internal
open PySem PySem.W PyProof.Rows
variable {W:Wd} {G:A2} {A:Around} {aa:HB} {env:Env} {c:Cx} {names:List Str} {H H':AH} {ρ ρ' ρt:Ak} {s s':Shared} {E:Value->Shared->Prop} {n:Nat} {Q:Ag} {sc:Scope} {ts:List Str} {C:Addr} {Er:EP}
theorem Hg{l l':List Str}{x:Str}:x∉l->(l++l').idxOf? x=(l'.idxOf? x).map (· + l.length):=by
 induction l with
 | nil=>intro _;simp
 | cons a l ih=>
   intro h
   rw[List.cons_append,List.idxOf?_cons]
   have:(a==x)=false:=by simpa using fun q:a=x=>h (by simp[q])
   rw[this,ih (fun q=>h (.tail _ q))]
   cases l'.idxOf? x with
   | none=>rfl
   | some k=>simp;exact Nat.add_assoc _ _ 1
theorem Dv{l l':List Str}{x:Str}:x∈l->(l++l').idxOf? x=l.idxOf? x/\∃i,l.idxOf? x=some i/\i<l.length:=by
 induction l with
 | nil=>intro h;cases h
 | cons a l ih=>
   intro h
   rw[List.cons_append,List.idxOf?_cons,List.idxOf?_cons]
   cases q:a==x with
   | true=>exact⟨rfl,0,rfl,by simp⟩
   | false=>
     have:x∈l:=by
      refine Aa fun nY=>?_
      rcases List.mem_cons.mp h with rfl|h
      ·simp at q
      ·refine nY ?_;clear nY
       exact h
     refine Aa fun nY=>?_
     obtain⟨h1,i,h2,h3⟩:=ih this
     refine nY ?_;clear nY
     simp only[Bool.false_eq_true,if_false]
     rw[h1]
     exact⟨rfl,i+1,by rw[h2];rfl,by simp;exact h3⟩
theorem K0{l:List Str}{x:Str}{i:Nat}(h:l.idxOf? x=some i):x∈l:=by
 cases Classical.em (x∈l)with
 | inl h=>exact h
 | inr q=>rw[List.idxOf?_eq_none_iff.mpr q]at h;cases h
noncomputable def J5(W:Wd)(ts:List Str)(C:Addr)(ρt:Ak)(h:Heap):Prop:=∃m,h.Ns C m/\∀x i v,ts.idxOf? x=some i->ρt[i]? = some (some v)->∃u,m x=some u/\VR W v u
theorem Av.toComp(K:Cr c sc ts)(Y:Ap W env c aa)(R:Av W aa env c.names H ρ s)(hC:Hy aa env H [C])(hC':W.aj.objs.size<=C)(hl:ρt.length=ts.length)(hn:J5 W ts C ρt s.heap) :
 Av W (Mine.Internal.prot (Ir sc env C) (env.locals::aa.fs) H s.heap) (Ir sc env C) (En c sc ts).names H (ρt++ρ) s where
 ns:=by
  refine Aa fun nY=>?_
  obtain⟨m,h1,h2⟩:=hn
  refine nY ?_;clear nY
  refine⟨m,h1,fun x i v e1 e2 e3=>?_⟩
  have hx:sc.names.lookup x=some .local:=by
   refine Aa fun nY=>?_
   rcases J4 (env:=env) e2 with h | ⟨h,_⟩
   ·refine nY ?_;clear nY
    exact h
   ·cases h
  have hmem:x∈ts:=by
   refine Aa fun nY=>?_
   rcases K.own _ (A6 hx) rfl with h|h
   ·refine nY ?_;clear nY
    exact h
   ·have:x∈ts++c.names:=K0 e1
    rcases List.mem_append.mp this with h'|h'
    ·refine nY ?_;clear nY
     exact h'
    ·exact absurd h' h
  refine Aa fun nY=>?_
  obtain⟨h3,j,h4,h5⟩:=Dv (l':=c.names) hmem
  have e1':(ts++c.names).idxOf? x=some i:=e1
  rw[h3,h4]at e1'
  cases e1'
  refine nY ?_;clear nY
  refine h2 x _ v h4 ?_
  rwa[List.getElem?_append_left (Acn hl h5)]at e3
 cell:=fun x a e=>by
  refine Aa fun nY=>?_
  obtain⟨e1,e2⟩:=Ce K Y e
  obtain⟨w,hw,hr⟩:=R.cell x a e1
  refine nY ?_;clear nY
  refine⟨w,hw,fun i v f1 f2 f3=>?_⟩
  refine Aa fun nY=>?_
  have hx:x∉ts:=fun q=>by have:=K.tsl x q;rw[e2]at this;cases this
  have f1':(ts++c.names).idxOf? x=some i:=f1
  rw[Hg hx]at f1'
  obtain⟨j,h1,h2⟩:=Option.map_eq_some_iff.mp f1'
  subst h2
  refine nY ?_;clear nY
  refine hr j v h1 (.inl (Y.kinds x _ (K.frees _ (A6 e2) rfl).1 (by simp))) ?_
  rw[List.getElem?_append_right (Ahr hl)]at f3
  rwa[show j+ts.length-ρt.length=j by exact Ahs hl]at f3
 keep:= .of fun _ _ e=>Fx e
 objs:=R.objs
 sep:=fun a o e=>by
  refine⟨Cy (.inl ⟨o,e⟩),fun q=>?_,fun x q=>(R.sep a o e).2.2 x (Ce K Y q).1⟩
  have h1:=(hC C (.head _)).1
  have h2:a=C:=q
  rw[<-h2,e]at h1;cases h1
 gens:=R.gens
 os:=R.os
 above:=hC'
 low:=R.low
theorem Av.ofComp(K:Cr c sc ts)(Y:Ap W env c aa)(R:Av W aa env c.names H ρ s)(hC:Hy aa env H [C])(hl:ρt.length=ts.length)
 (R':Av W (Mine.Internal.prot (Ir sc env C) (env.locals::aa.fs) H s.heap) (Ir sc env C) (En c sc ts).names H' (ρt++ρ) s'):Av W aa env c.names H' ρ s':=by
 have hCC:=hC C (.head _)
 have hsub:Gq W aa (Mine.Internal.prot (Ir sc env C) (env.locals::aa.fs) H s.heap).h:=Av.in_comp K Y R hC
 have hcl:∀x a,env.cells.lookup x=some a->(∃p∈Gv env sc.names [],p.2=a)->(Gv env sc.names []).lookup x=some a:=by
  rintro x a e hP5
  refine Aa fun nY=>?_
  obtain⟨p,hp,rfl⟩:=hP5
  have h1:=(Hf K Y hp).1
  have h2:=Y.inj x p.1 p.2 e h1
  subst h2
  obtain⟨a',ha'⟩:=J3 hp
  rw[(Ce K Y ha').1]at h1;cases h1
  refine nY ?_;clear nY
  exact ha'
 have hloc:=Mp K Y R hC
 have hcell:∀x a,env.cells.lookup x=some a->(¬∃p∈Gv env sc.names [],p.2=a)->∀o,s.heap.get? a=some o->(Mine.Internal.prot (Ir sc env C) (env.locals::aa.fs) H s.heap).get? a=some o:=by
  intro x a e hno o ho
  refine Aa fun nY=>?_
  obtain⟨p,hp,hp2⟩:=Bf e
  refine nY ?_;clear nY
  refine Cj ho ?_ (fun q=>hCC.2.2.2 p hp (hp2.trans q)) (fun p' hp' q=>hno ⟨p',hp',q⟩)
  cases q:H a with
  | none=>rfl
  | some z=>exact absurd e ((R.sep _ _ q).2.2 x)
 refine⟨?_,?_,hsub.trans (fun b o e m=>(List.mem_cons.mp m).resolve_left fun q=>by rw[q,Y.new]at e;cases e) R'.keep,R'.objs,?_,R'.gens,R'.os,R.above,R'.low⟩
 ·refine Aa fun nY=>?_
  obtain⟨m,⟨o,es,ep,h1,h2⟩,h3⟩:=R.ns
  obtain⟨o',g1,g2⟩:=hloc
  rw[h1]at g2;cases g2
  refine nY ?_;clear nY
  exact⟨m,R'.keep.ns ⟨o,es,ep,g1,h2⟩,h3⟩
 ·intro x a e
  refine Aa fun nY=>?_
  cases Classical.em (∃p∈Gv env sc.names [],p.2=a)with
  | inl q=>
    have hx:=hcl x a e q
    obtain⟨e1,e2⟩:=Ce K Y hx
    obtain⟨w,hw,hr⟩:=R'.cell x a hx
    refine nY ?_;clear nY
    refine⟨w,hw,fun i v f1 f2 f3=>hr (i+ts.length) v ?_ ((Dp (env:=env) e2).2 rfl) ?_⟩
    ·have hx':x∉ts:=fun q=>by have:=K.tsl x q;rw[e2]at this;cases this
     show (ts++c.names).idxOf? x=_
     rw[Hg hx',f1];rfl
    ·rw[List.getElem?_append_right (Ahr hl)]
     rwa[show i+ts.length-ρt.length=i by exact Ahs hl]
  | inr q=>
    obtain⟨w,⟨o,ho,hd⟩,hr⟩:=R.cell x a e
    refine nY ?_;clear nY
    exact⟨w,⟨o,R'.keep.exact (hcell x a e q o ho) (.inl fun m=>(by obtain⟨p,hp,hp2⟩:=Bf e;exact Y.fsok a ((List.mem_cons.mp m).resolve_left (Y.apart x a e)) (hp2▸Y.newc p hp))),hd⟩,hr⟩
 ·intro a o e
  refine Aa fun nY=>?_
  obtain⟨q1,q2,q3⟩:=R'.sep a o e
  refine nY ?_;clear nY
  refine⟨?_,?_,?_⟩
  ·exact hsub.none q1
  ·rintro rfl
   refine Aa fun nY=>?_
   obtain⟨o',g1,_⟩:=hloc
   rw[q1]at g1;cases g1
  ·intro x hx
   refine Aa fun nY=>?_
   cases Classical.em (∃p∈Gv env sc.names [],p.2=a)with
   | inl q=>(refine nY ?_;clear nY;exact q3 x (hcl x a hx q))
   | inr q=>
     obtain⟨w,⟨o,ho,hd⟩,hr⟩:=R.cell x a hx
     have:=hcell x a hx q o ho
     rw[q1]at this;cases this
theorem Hh(K:Cr c sc ts)(Y:Ap W env c aa){hs:List Addr}(hid:Hy aa env H hs)(hCn:C∉hs){b:Addr}(hb:b∈hs){o:Obj}(e:s.heap.get? b=some o):(Mine.Internal.prot (Ir sc env C) (env.locals::aa.fs) H s.heap).get? b=some o:=by
 refine Aa fun nY=>?_
 obtain⟨h1,h2,h3,h4⟩:=hid b hb
 refine nY ?_;clear nY
 refine Cj e h1 (fun q=>hCn (by have h2:b=C:=q;rw[<-h2];exact hb)) fun p hp q=>?_
 refine Aa fun nY=>?_
 obtain⟨p',hp',hp2⟩:=Bf (Hf K Y hp).1
 refine nY ?_;clear nY
 exact h4 p' hp' (hp2.trans q)
theorem Xs(K:Cr c sc ts){target:Expr}(ht:Cq target=some ts):Y7 (En c sc ts) target=some (Dc ts.length):=by
 rcases Il ht with⟨x,p,rfl,rfl⟩ | ⟨x,p,y,p',k,tp,rfl,rfl⟩
 ·clear ht
  have h1:=K.tsl x (.head _)
  show (Cx.own (En c sc [x]) x).map Rw.one=_
  simp only[Cx.own,h1,Vr,if_true,En,List.cons_append,List.nil_append,List.idxOf?_cons,beq_self_eq_true]
  rfl
 ·clear ht
  have h1:=K.tsl x (.head _)
  have h2:=K.tsl y (.tail _ (.head _))
  have hne:x≠y:=by
   rcases K.shape with⟨z,hz⟩ | ⟨a,b,hz,hne⟩
   ·cases hz
   ·cases hz;exact hne
  have hb:(x==y)=false:=by simpa using hne
  show ((Cx.own (En c sc [x,y]) x) >>= fun i=>(Cx.own (En c sc [x,y]) y) >>= fun j=>pure (Rw.two i j))=_
  simp only[Cx.own,h1,h2,Vr,if_true,En,List.cons_append,List.nil_append,List.idxOf?_cons,beq_self_eq_true,hb]
  rfl
end Mine.Internal
namespace Mine.Internal
open PySem PySem.W PyProof.Rows
variable {W:Wd} {G:A2} {A:Around} {aa:HB} {env:Env} {c:Cx} {names:List Str} {H H':AH} {ρ ρ' ρt:Ak} {s s':Shared} {E:Value->Shared->Prop} {n:Nat} {Q:Ag} {sc:Scope} {ts:List Str} {C:Addr} {Er:EP}
theorem S6{R:Result->Shared->Prop}{elt target iter:Expr}{ifs:List Expr}{scope:Scope}{pos:Pos}{it acc:Value}{env:Env}(I:Nat->Shared->Prop)
 (turn:∀n s,I n s->wpAny W.M A (pyNext it) (fun r ar=>match r with
   | none=>R (.ok .next) ar
   | some v=>wpAny W.M A (letOwnedTupleGo target it v) (fun _ aT=>wpAny W.M A (assign target env v) (fun _ ay=>
      wpAny W.M A (forIn ifs true fun c r=>if r=true then do let ok <-isTrue c env (eval c env);pure (ForInStep.yield ok)else pure (ForInStep.yield r)) (fun ok aC=>
       if ok=true then wpAny W.M A (eval elt env) (fun x aD=>
        wpAny W.M A (call (.builtin "list.append") [acc,x]) (fun _ aG=>∃m,m<n/\I m aG) (notedBy W.M A env fun e s'=>R (.error e) s') aD) (notedBy W.M A env fun e s'=>R (.error e) s') aC
       else ∃m,m<n/\I m aC) (notedBy W.M A env fun e s'=>R (.error e) s') ay) (notedBy W.M A env fun e s'=>R (.error e) s') aT) (notedBy W.M A env fun e s'=>R (.error e) s') ar) (notedBy W.M A env fun e s'=>R (.error e) s') s)
 (n:Nat) (h:I n s):codeAny W.M A (.compLoop (.ListComp elt [⟨target,iter,ifs,0⟩] scope pos) 0 it acc env) R s:=by
 refine codeAny_loop rfl I (fun n s hI=>?_) n h
 show wpAny _ A ((compTurn (.ListComp elt [⟨target,iter,ifs,0⟩] scope pos) 0 it acc env).onRaise (fun x=>do noteFrame x env;theTreesLotGoes x)) _ _ s
 refine wpAny_noted ?_
 rw[compTurn_list]
 refine wpAny_bind (wpAny_standAt (wpAny_bind (wpAny_mono (turn n s hI) (fun r ar am=>?_) fun _ _ h'=>h')))
 cases r with
 | none=>exact wpAny_pure am
 | some v=>
   refine wpAny_bind (wpAny_mono am (fun _ aT aX=>?_) fun _ _ h'=>h')
   refine wpAny_bind (wpAny_mono aX (fun _ ay aJ=>wpAny_bind (wpAny_mono aJ (fun ok aC aH=>?_) fun _ _ h'=>h')) fun _ _ h'=>h')
   cases ok with
   | false=>exact wpAny_pure ⟨rfl,aH⟩
   | true=>
     exact wpAny_bind (wpAny_bind (wpAny_mono aH (fun x aD aF=>wpAny_bind (wpAny_mono aF (fun _ aG aP=>wpAny_pure (wpAny_pure ⟨rfl,aP⟩)) fun _ _ h'=>h')) fun _ _ h'=>h'))
theorem Uy{it:It}{k:Nat}{N:Ak->Prop}(hk:ρt.length=k)(hk':k=1\/k=2)(h:Kb (Dc k) it (ρt++ρ) H N):Kb (Dc k) it (ρt++ρ) H (fun ρ'=>(∃ρt':Ak,ρ'=ρt'++ρ/\ρt'.length=k)/\N ρ'):=by
 rcases hk' with rfl|rfl
 ·simp only[Dc,if_true]at h ⊢
  delta Kb at h ⊢
  cases it with
  | v x=>exact⟨⟨ρt.set 0 (some x),by rw[List.set_append_left _ _ (Aj8 hk)],by simp[hk]⟩,h⟩
  | pair a b=>exact h.elim
 ·have e2:Dc 2 = .two 0 1:=rfl
  rw[e2]at h ⊢
  have key:∀x y:V,∃ρt':Ak,((ρt++ρ).set 0 (some x)).set 1 (some y)=ρt'++ρ/\ρt'.length=2:=fun x y=>
   ⟨(ρt.set 0 (some x)).set 1 (some y),by rw[List.set_append_left _ _ (Aj9 hk),List.set_append_left _ _ (by simp;exact Aka hk)],by simp[hk]⟩
  cases it with
  | v x=>
    cases x with
    | ref a=>
      have h':(match H a with|some (.tuple [x,y])=>N (((ρt++ρ).set 0 (some x)).set 1 (some y))|_=>False):=h
      show (match H a with|some (.tuple [x,y])=>(∃ρt':Ak,((ρt++ρ).set 0 (some x)).set 1 (some y)=ρt'++ρ/\ρt'.length=2)/\N (((ρt++ρ).set 0 (some x)).set 1 (some y))|_=>False)
      clear h
      split at h'
      ·rename_i x y e
       exact⟨key _ _,h'⟩
      ·exact h'.elim
    | _=>exact h.elim
  | pair a b=>exact⟨key _ _,h⟩
noncomputable def SB(W:Wd)(G:A2)(n:Nat)(c:Cx)(ifs:List Expr)(elt:Expr)(body:EP->Ak->AH->(Option V->AH->Prop)->Prop):Prop:=
 ∀ {A:Around} {env:Env} {aa:HB} {H:AH} {ρ:Ak} {s:Shared} {Kk:Option V->AH->Prop} {E:EP},Pu A c aa env n->Ap W env c aa->Av W aa env c.names H ρ s->body E ρ H Kk->
  wpAny W.M A (forIn ifs true fun c r=>if r=true then do let ok <-isTrue c env (eval c env);pure (ForInStep.yield ok)else pure (ForInStep.yield r)) (fun ok aC=>
   if ok=true then wpAny W.M A (eval elt env) (fun x aD=>(Jy fun a H4=>Fe (VR W a x) (Av W aa env c.names H4 ρ aD) (Kk (some a) H4))) EM aC
   else ∃H4,Av W aa env c.names H4 ρ aC/\Kk none H4) EM s
theorem Abb{elt:Expr}{x:X}(h:SE W G n c elt x):SB W G n c [] elt (fun E ρ H K=>Aw G (Ae G n) x ρ H (fun v H=>K (some v) H) E):=by
 intro A env aa H ρ s Kk E ok Y R q
 refine wpAny_pure ?_
 simp only[if_true]
 exact wpAny_mono (h ok Y R q) (fun v s' r=>r) fun _ _ e=>e
theorem Adz{cond elt:Expr}{x y:X}(hc:ST W G n c cond y)(h:SE W G n c elt x) :
 SB W G n c [cond] elt (fun E ρ H K=>Aw G (Ae G n) y ρ H (fun v H=>truthy v fun b=>if b then Aw G (Ae G n) x ρ H (fun v H=>K (some v) H) E else K none H) E):=by
 intro A env aa H ρ s Kk E ok Y R q
 rw[List.forIn_cons]
 refine wpAny_bind ?_
 simp only[if_true]
 refine wpAny_bind (wpAny_mono (hc (E:=E) (Q:=fun b H=>if b then Aw G (Ae G n) x ρ H (fun v H=>Kk (some v) H) E else Kk none H) ok Y R q) (fun b s' r=>wpAny_pure ?_) fun _ _ e=>e)
 obtain⟨H',R',q'⟩:=r
 refine wpAny_pure ?_
 cases b with
 | true=>
   simp only[if_true]at q' ⊢
   exact wpAny_mono (h ok Y R' q') (fun v s' r=>r) fun _ _ e=>e
 | false=>
   simp only[Bool.false_eq_true,if_false]at q' ⊢
   exact⟨H',R',q'⟩
theorem Xu(K:Cr c sc ts){hP:HB}(R:Av W hP (Ir sc env C) (En c sc ts).names H (ρt++ρ) s)(hl:ρt.length=ts.length):J5 W ts C ρt s.heap:=by
 refine Aa fun nY=>?_
 obtain⟨m,h1,h2⟩:=R.ns
 refine nY ?_;clear nY
 refine⟨m,h1,fun x i v e1 e2=>?_⟩
 have hx:=K0 e1
 refine Aa fun nY=>?_
 obtain⟨h3,j,h4,h5⟩:=Dv (l':=c.names) hx
 rw[h4]at e1;cases e1
 refine nY ?_;clear nY
 refine h2 x _ v (h3.trans h4) ((Dp (env:=env) (K.tsl x hx)).1 (by simp)) ?_
 rw[List.getElem?_append_left (Acn hl h5)];exact e2
theorem J5.at{h h':Heap}(x:J5 W ts C ρt h)(k:∀o,h.get? C=some o->h'.get? C=some o):J5 W ts C ρt h':=by
 refine Aa fun nY=>?_
 obtain⟨m,⟨o,es,ep,h1,h2⟩,h3⟩:=x
 refine nY ?_;clear nY
 exact⟨m,⟨o,es,ep,k _ h1,h2⟩,h3⟩
noncomputable abbrev Alf(W:Wd)(aa:HB)(env:Env)(names:List Str)(ρ:Ak)(hs:List Addr)(ts:List Str)(C D:Addr)(Obs:Nat->Heap->Prop)(its:List It)(gt:List It->List V->Ak->AH->Prop)(k:Nat)(s:Shared):Prop:=
 (Ex6 fun i H acc items ρt nn=>Ahd (Av W aa env names H ρ s) (Hy aa env H hs) (Hy aa env H [C]) (Hy aa env H [D]) (Obs i s.heap) (s.heap.get? D=some {cls:= .type "list",data:= .seq (items:List Value).toArray nn}) (C5 W acc items) (acc.length<=i) (J5 W ts C ρt s.heap) (ρt.length=ts.length) (gt (its.drop i) acc (ρt++ρ) H) (i<=its.length) (k=its.length-i+1))
theorem Uz(K:Cr c sc ts)(ok:Pu A c aa env n)(Y:Ap W env c aa)(R:Av W aa env c.names H ρ s){elt target iter:Expr}{ifs:List Expr}{pos:Pos}{I:Addr}{hs:List Addr}{its:List It}{g:AH->Prop}{Obs:Nat->Heap->Prop}
 (S:Src W A target I hs its g Obs) (hid:Hy aa env H hs) (st:Obs 0 s.heap) (ht:Cq target=some ts) (hz:its.length<=Bp) {body:EP->Ak->AH->(Option V->AH->Prop)->Prop} (hb:SB W G n (En c sc ts) ifs elt body)
 (q:Bn g (Dc ts.length) (body EF) (fun vs H=>Au (.list vs) H Q) its [] (List.replicate ts.length none++ρ) H) {RR:Value->Addr->Result->Shared->Prop}
 (hfin:∀D C H' s',Av W aa env c.names H' ρ s'->Hy aa env H' [C]->(∃m,s'.heap.Ns C m)->Q (.ref D) H'->RR (.ref D) C (.ok .next) s') :
 wpAny W.M A (newList []) (fun acc aC=>wpAny W.M A (newFunctionEnv sc env.globals (Gv env sc.names []) [] env.qual none .none (some env)) (fun cenv aD=>
  codeAny W.M A (.compStart (.ListComp elt [⟨target,iter,ifs,0⟩] sc pos) 0 (.ref I) acc {cenv with scope:=relabel sc env}) (RR acc cenv.locals) aD) E aC) E s:=by
 have hk12:ts.length=1\/ts.length=2:=by rcases K.shape with⟨x,rfl⟩ | ⟨x,y,rfl,_⟩<;>simp
 refine wpAny_newObj_type (wpAny_newFunctionEnv K.nocell (by intro y hy;simp at hy) (fun am aQ aL=>?_) K.kind)
 dsimp only at aQ aL ⊢
 generalize hH2:s.heap.push {cls:= .type "list",dict:=none,data:= .seq ([]:List Value).toArray} = H2 at aQ aL ⊢
 have hCs:H2.objs.size=s.heap.objs.size+1:=by rw[<-hH2,Heap.size_push]
 generalize hCd:H2.objs.size=C at *
 generalize hDd:s.heap.objs.size=D at *
 have hDC:D≠C:=by rw[hCs];exact(Nat.succ_ne_self _).symm
 have old:∀b o,s.heap.get? b=some o->am.get? b=some o:=fun b o e=>by
  have hlt:=Heap.lt_size e
  rw[hDd]at hlt
  exact aL.extBut b o (by rw[hCs];exact Nat.ne_of_lt (Nat.lt_succ_of_lt hlt)) (Heap.get?_push_of_some _ (hH2▸Heap.get?_push_of_some _ e))
 have hD1:am.get? D=some {cls:= .type "list",dict:=none,data:= .seq ([]:List Value).toArray}:=
  aL.extBut _ _ hDC (Heap.get?_push_of_some _ (by rw[<-hH2,<-hDd];exact Heap.get?_push_size _ rfl))
 have hb0:W.aj.objs.size<=D:=by rw[<-hDd];exact R.up
 have hb0C:W.aj.objs.size<=C:=by rw[hCs];exact Nat.le_succ_of_le hb0
 have hidD:Hy aa env H [D]:=Hy.one Y R (Pt (by rw[hDd];exact Nat.le_refl _)) hb0
 have hidC:Hy aa env H [C]:=Hy.one Y R (Pt (by rw[hDd,hCs];exact Nat.le_succ _)) hb0C
 have hslt:∀b∈hs,b<D:=fun b hb=>by obtain⟨o,e⟩:=S.live 0 _ st b hb;rw[<-hDd];exact Heap.lt_size e
 have hDhs:D∉hs:=fun h=>Nat.lt_irrefl _ (hslt D h)
 have hChs:C∉hs:=fun h=>by have:=hslt C h;rw[hCs]at this;exact Nat.lt_irrefl _ (Nat.lt_of_succ_lt this)
 have Cv:∀aC:Shared,aC = {s with heap:=am,toks:=s.toks+([]:List (Str×Value)).length} ->
  codeAny W.M A (.compLoop (.ListComp elt [⟨target,iter,ifs,0⟩] sc pos) 0 (.ref I) (.ref D) (Ir sc env C)) (RR (.ref D) C) aC:=by
  rintro aC rfl
  refine S6 (Alf W aa env c.names ρ hs ts C D Obs its (Bn g (Dc ts.length) (body EF) fun vs H=>Au (.list vs) H Q)) ?_ (its.length+1)
   ⟨0,H,[],[],List.replicate ts.length none,_,R.move _ old,hid,hidC,hidD,S.frame 0 _ _ st fun b _ o e=>old b o e,hD1,.nil,Nat.le_refl _,⟨_,aQ,fun x i v e1 e2=>?_⟩,by simp,q,Nat.zero_le _,by simp⟩
  ·rintro k s hP6
   refine Aa fun nY=>?_
   obtain⟨i,H,acc,items,ρt,nn,R,hid,hidC,hidD,st,hD,hacc,hai,hn,hl,q,hi,rfl⟩:=hP6
   have hclean:its.length<=1048576:=hz
   refine nY ?_;clear nY
   cases hd:its.drop i with
   | nil=>
     rw[hd]at q
     obtain⟨g1,q⟩:=q
     have:i=its.length:=by
      have:=congrArg List.length hd
      simp at this;exact Nat.le_antisymm hi (Nat.sub_eq_zero_iff_le.mp this)
     subst this
     refine wpAny_mono (S.done Y R hid g1 st) (fun r ar am=>?_) fun _ _ e=>e
     refine Aa fun nY=>?_
     obtain⟨rfl,R1,hk1⟩:=am
     obtain⟨d1,d2,d3,d4⟩:=hidD D (.head _)
     have R2:=R1.add (a:=D) (o:= .list acc) (hk1 _ _ hDhs hD) (.list hacc (Af hai hz)) d1 d2 d3 (fun x e=>by obtain⟨p,hp,hp2⟩:=Bf e;exact d4 p hp hp2) hb0
     refine nY ?_;clear nY
     refine hfin D C _ _ R2 (fun b hb=>?_) ?_ (q D d1)
     ·obtain⟨c1,c2⟩:=hidC b hb
      refine⟨?_,c2⟩
      have:b=C:=by simpa using hb
      subst this
      simp[upd,Ne.symm hDC,c1]
     ·refine Aa fun nY=>?_
      obtain⟨m,hm,_⟩:=hn.at fun o e=>hk1 C o hChs e
      refine nY ?_;clear nY
      exact⟨m,hm⟩
   | cons y r=>
     rw[hd]at q
     refine Aa fun nY=>?_
     obtain⟨g1,q⟩:=q
     obtain⟨hx,hd'⟩:=Ck hd
     have hlt:i<its.length:=(Da hx).1
     refine nY ?_;clear nY
     refine wpAny_mono (S.turn (E':=notedBy W.M A (Ir sc env C) fun e s'=>RR (.ref D) C (.error e) s') Y R hid g1 st hx) (fun r ar am=>?_) fun _ _ e=>e
     obtain⟨v,rfl,am⟩:=am
     refine wpAny_mono am (fun _ ay aJ=>?_) fun _ _ e=>e
     refine Aa fun nY=>?_
     obtain⟨R2,st2,hit,hk2⟩:=aJ
     have hn2:=hn.at fun o e=>hk2 C o hChs e
     have hD2:=hk2 _ _ hDhs hD
     have YP:=Y.comp K R2 hidC hb0C
     have RP:=R2.toComp K Y hidC hb0C hl hn2
     refine nY ?_;clear nY
     refine wpAny_mono (Og YP RP ok.handled (Xs K ht) hit (Uy hl hk12 q)) (fun _ aC aH=>?_) fun _ _ e=>e
     refine Aa fun nY=>?_
     obtain⟨ρ3,R3,⟨ρt',rfl,hl'⟩,q3⟩:=aH
     have fin:∀ {aD:Shared} {H4:AH},Av W (Mine.Internal.prot (Ir sc env C) (env.locals::aa.fs) H ay.heap) (Ir sc env C) (En c sc ts).names H4 (ρt'++ρ) aD->
      Av W aa env c.names H4 ρ aD/\Hy aa env H4 hs/\Hy aa env H4 [C]/\Hy aa env H4 [D]/\Obs (i+1) aD.heap/\aD.heap.get? D=some {cls:= .type "list",data:= .seq (items:List Value).toArray nn} /\J5 W ts C ρt' aD.heap:=by
      intro aD H4 R4
      have none_at:∀b o,(Mine.Internal.prot (Ir sc env C) (env.locals::aa.fs) H ay.heap).get? b=some o->H4 b=none:=fun b o e=>by
       cases z:H4 b with
       | none=>rfl
       | some w=>have:=(R4.sep b w z).1;rw[e]at this;cases this
      refine⟨R2.ofComp K Y hidC hl' R4,fun b hb=>⟨?_,(hid b hb).2⟩,fun b hb=>⟨?_,(hidC b hb).2⟩,fun b hb=>⟨?_,(hidD b hb).2⟩,?_,?_,Xu K R4 hl'⟩
      ·obtain⟨o,e⟩:=S.live _ _ st2 b hb
       exact none_at b o (Hh K Y hid hChs hb e)
      ·have:b=C:=by simpa using hb
       subst this
       cases z:H4 b with
       | none=>rfl
       | some w=>exact absurd rfl (R4.sep b w z).2.1
      ·have:b=D:=by simpa using hb
       subst this
       exact none_at b _ (Hh K Y hidD (by simpa using Ne.symm hDC) hb hD2)
      ·exact S.frame _ _ _ st2 fun b hb o e=>R4.keep.exact (Hh K Y hid hChs hb e) (.inl fun m=>Y.fsok b ((List.mem_cons.mp m).resolve_left (hid b hb).2.2.1) (hid b hb).2.1)
      ·exact R4.keep.exact (Hh K Y hidD (by simpa using Ne.symm hDC) (.head _) hD2) (.inl fun m=>Y.fsok D ((List.mem_cons.mp m).resolve_left (hidD D (.head _)).2.2.1) (hidD D (.head _)).2.1)
     refine nY ?_;clear nY
     refine wpAny_mono (hb ⟨ok.handled,ok.room,ok.units⟩ YP R3 q3) (fun okb aD aF=>?_) fun v aG x=>x.ef
     refine Aa fun nY=>?_
     cases okb with
     | false=>
       refine nY ?_;clear nY
       simp only[Bool.false_eq_true,if_false]at aF ⊢
       refine Aa fun nY=>?_
       obtain⟨H4,R4,q4⟩:=aF
       obtain⟨f1,f2,f3,f4,f5,f6,f7⟩:=fin R4
       refine nY ?_;clear nY
       exact⟨its.length-(i+1)+1,(Afh hlt),i+1,H4,acc,items,ρt',nn,f1,f2,f3,f4,f5,f6,hacc,(Nat.le_succ_of_le hai),f7,hl',by rw[hd'];exact q4,hlt,rfl⟩
     | true=>
       refine nY ?_;clear nY
       simp only[if_true]at aF ⊢
       refine wpAny_mono aF (fun u aG aP=>?_) fun v aG x=>x.ef
       refine Aa fun nY=>?_
       obtain⟨a,H4,hv,R4,q4⟩:=aP
       obtain⟨f1,f2,f3,f4,f5,f6,f7⟩:=fin R4
       refine nY ?_;clear nY
       have hsz:items.length<=sizeLine:=by rw[<-hacc.length];exact Af hai (Af hi (Af hz Bw))
       refine call_meets F.slot_list_append ⟨_,f6,rfl⟩ F.entry_list_append (F.args_list_append_2 _ _) (list_append _ items.toArray nn u (by simpa using hsz)) ⟨f6,?_⟩
       have hsame:Heap.SameBut D aG.heap (aG.heap.update D (Obj.mapSeq (·.push u))):=Heap.SameBut.update ..
       refine Aa fun nY=>?_
       obtain⟨d1,d2,d3,d4⟩:=f4 D (.head _)
       refine nY ?_;clear nY
       have R6:=f1.swap aG.toks hsame d1 d2 d3 fun x e=>by obtain⟨p,hp,hp2⟩:=Bf e;exact d4 p hp hp2
       have hD6:∃n',(aG.heap.update D (Obj.mapSeq (·.push u))).get? D=some {cls:= .type "list",data:= .seq (items ++ [u]).toArray n'}:=
        ⟨_,(Heap.get?_update_self _ f6 rfl).trans (by simp only[Obj.mapSeq,List.push_toArray];rfl)⟩
       obtain⟨n',hD6⟩:=hD6
       refine⟨its.length-(i+1)+1,(Afh hlt),i+1,H4,acc ++ [a],items ++ [u],ρt',n',R6,f2,f3,f4,?_,hD6,hacc.append (.cons hv .nil),by simp;exact hai,?_,hl',by rw[hd'];exact q4,hlt,rfl⟩
       ·exact S.frame _ _ _ f5 fun b hb o e=>(hsame.2 b (fun z=>hDhs (z▸hb))).trans e
       ·exact f7.at fun o e=>(hsame.2 C (Ne.symm hDC)).trans e
  ·simp[List.getElem?_replicate]at e2
 exact codeAny_compStart_list (Cv _ rfl) (S.self (S.frame 0 _ _ st fun b _ o e=>old b o e) (Cv _ rfl))
end Mine.Internal
namespace Mine.Internal
open PySem PySem.W PyProof.Rows
variable {W:Wd} {G:A2} {A:Around} {aa:HB} {env:Env} {c:Cx} {names:List Str} {H H':AH} {ρ ρ' ρt:Ak} {s s':Shared} {E:Value->Shared->Prop} {n:Nat} {Q:Ag} {sc:Scope} {ts:List Str} {C:Addr} {Er:EP}
theorem P9(K:Cr c sc ts){elt target iter:Expr}{ifs:List Expr}{pos pos':Pos}{x:X}{body:EP->Ak->AH->(Option V->AH->Prop)->Prop}(ht:Cq target=some ts)(hsrc:SS W G n c iter x (Kt target))(hb:SB W G n (En c sc ts) ifs elt body)
 (hset:∀env v,foldedSetIterable iter env v=pure v) (ok:Pu A c aa env n) (Y:Ap W env c aa) (R:Av W aa env c.names H ρ s)
 (q:Dq G (Ae G n) x ρ H (fun its g H=>its.length<=Bp/\Bn g (Dc ts.length) (body EF) (fun vs H=>Au (.list vs) H Q) its [] (List.replicate ts.length none++ρ) H) Er) {use:Option (Value->Sem Unit)} {Q':Value->Shared->Prop}
 (hE:∀v s',EM v s'->E v s') (hfin:∀D C H' s',Av W aa env c.names H' ρ s'->Hy aa env H' [C]->(∃m,s'.heap.Ns C m)->Q (.ref D) H'->compPost W.M A E use Q' (.ref D) C (.ok .next) s') :
 wpAny W.M A (comprehension (.ListComp elt [⟨target,iter,ifs,0⟩] sc pos) sc env pos' (newList []) false (eval iter env) use) Q' E s:=by
 refine wpAny_comprehension_free (g:=⟨target,iter,ifs,0⟩) (gs:=[]) rfl (hset env) (M0 fun p hp hq=>?_) K.kind K.locals ?_
 ·obtain⟨a,ha⟩:=P8 K Y hp hq
  rw[ha];rfl
 ·exact hsrc (target:=target) rfl ok Y R q hE fun I hs its g Obs H' s' S hid st R' q'=>Uz (G:=G) K ok Y R' S hid st ht q'.1 hb q'.2 (RR:=fun acc C=>compPost W.M A E use Q' acc C) hfin
theorem Mq(K:Cr c sc ts){elt target iter:Expr}{ifs:List Expr}{pos:Pos}{x:X}{body:EP->Ak->AH->(Option V->AH->Prop)->Prop}(ht:Cq target=some ts)(hsrc:SS W G n c iter x (Kt target))(hb:SB W G n (En c sc ts) ifs elt body)
 (hset:∀env v,foldedSetIterable iter env v=pure v) {e:X}
 (he:∀ρ H Q E,Aw G (Ae G n) e ρ H Q E->Dq G (Ae G n) x ρ H (fun its g H=>its.length<=Bp/\Bn g (Dc ts.length) (body EF) (fun vs H=>Au (.list vs) H Q) its [] (List.replicate ts.length none++ρ) H) E) :
 SE W G n c (.ListComp elt [⟨target,iter,ifs,0⟩] sc pos) e:=by
 intro A env aa H ρ s Q E ok Y R q
 rw[eval_ListComp]
 refine P9 (use:=none) K ht hsrc hb hset ok Y R (he ρ H Q E q) (fun _ _ e=>e) fun D C H' s' R' hid hm q'=>?_
 refine Aa fun nY=>?_
 obtain⟨m,hm⟩:=hm
 obtain⟨c1,c2,c3,c4⟩:=hid C (.head _)
 refine nY ?_;clear nY
 exact⟨m,hm,fun h' hk=>Bi.mk (.ref D) (R'.swap s'.toks hk c1 c2 c3 fun x e=>by obtain⟨p,hp,hp2⟩:=Bf e;exact c4 p hp hp2) q'⟩
theorem Ol(K:Cr c sc ts){elt target iter:Expr}{ifs:List Expr}{pos spos py:Pos}{x:X}{y:Str}{i:Nat}{body:EP->Ak->AH->(Option V->AH->Prop)->Prop}(ht:Cq target=some ts)(hsrc:SS W G n c iter x (Kt target))(hb:SB W G n (En c sc ts) ifs elt body)
 (hset:∀env v,foldedSetIterable iter env v=pure v) {e:X}
 (he:∀ρ H Q E,Aw G (Ae G n) e ρ H Q E->Dq G (Ae G n) x ρ H (fun its g H=>its.length<=Bp/\Bn g (Dc ts.length) (body EF) (fun vs H=>Au (.list vs) H Q) its [] (List.replicate ts.length none++ρ) H) E)
 (hi:c.own y=some i):S5 W G n c (.Assign [.Name y py] (.ListComp elt [⟨target,iter,ifs,0⟩] sc pos) spos) (.assign i e):=by
 intro A env aa H ρ s N Rt E ok Y R q
 simp only[Zw,Bz,Bl,Zx,Za,Zy,Zz,Je,D0,Z0,Z1,D1]at q
 have hsw:∃b,swapsWith (.ListComp elt [⟨target,iter,ifs,0⟩] sc pos) (some (.Name y py)) spos.line env=pure b:=⟨_,rfl⟩
 refine Aa fun nY=>?_
 obtain⟨b,hsw⟩:=hsw
 cases b with
 | false=>
   refine nY ?_;clear nY
   refine wpAny_Assign_Name (wpAny_mono (Mq K ht hsrc hb hset he ok Y R q) (fun v s' r=>?_) fun _ _ e=>e) hsw
   refine Aa fun nY=>?_
   obtain⟨a,H',hv,R',q'⟩:=r
   refine nY ?_;clear nY
   exact wpAny_mono (P7 Y R' hi hv) (fun _ s2 R2=>⟨_,_,R2,q'⟩) fun _ _ e=>e
 | true=>
   refine nY ?_;clear nY
   rw[exec_Assign_Name_used _ _ _ _ hsw]
   refine wpAny_bind (wpAny_standAt (wpAny_bind ?_))
   refine wpAny_bind ?_
   refine wpAny_mono (Q:=fun _ s'=>Wj W aa env c.names N Rt .next s') ?_ (fun _ s' r=>wpAny_pure (wpAny_pure r)) fun _ _ e=>e
   refine P9 (use:=some (assign (.Name y py) env)) (Q':=fun _ s'=>Wj W aa env c.names N Rt .next s') K ht hsrc hb hset ok Y R (he ρ H _ E q) (fun _ _ e=>e) fun D C H' s' R' hid hm q'=>?_
   refine Aa fun nY=>?_
   obtain⟨m,hm⟩:=hm
   obtain⟨c1,c2,c3,c4⟩:=hid C (.head _)
   refine nY ?_;clear nY
   show wpAny _ A (assign (.Name y py) env (.ref D)) _ _ _
   refine wpAny_assign_Name (wpAny_mono (P7 (Y.prot R') R'.prot hi (.ref D)) (fun _ s2 R2=>?_) fun _ _ e=>e)
   refine Aa fun nY=>?_
   obtain⟨o,es,ep,h1,h2⟩:=hm
   refine nY ?_;clear nY
   refine⟨m,R2.keep.ns ⟨o,es,ep,Cj h1 c1 c3 c4,h2⟩,fun h' hk=>?_⟩
   have R3:=R'.unprot Y R2
   exact⟨_,_,R3.swap s2.toks hk c1 c2 c3 fun x e=>by obtain⟨p,hp,hp2⟩:=Bf e;exact c4 p hp hp2,q'⟩
theorem Mr{e:Expr}{t:Option Expr}{l:Nat}(h:Ku e=true):swapsWith e t l env=pure false:=by
 cases e<;>first|rfl|cases h
theorem Xv{e:Expr}{x:X}{y:Str}{i:Nat}{py pos:Pos}(h:SE W G n c e x)(hp:Ku e=true)(hi:c.own y=some i):S5 W G n c (.Assign [.Name y py] e pos) (.assign i x):=by
 intro A env aa H ρ s N Rt E ok Y R q
 simp only[Zw,Bz,Bl,Zx,Za,Zy,Zz,Je,D0,Z0,Z1,D1]at q
 refine wpAny_Assign_Name (wpAny_mono (h ok Y R q) (fun v s' r=>?_) fun _ _ e=>e) (Mr hp)
 refine Aa fun nY=>?_
 obtain⟨a,H',hv,R',q'⟩:=r
 refine nY ?_;clear nY
 exact wpAny_mono (P7 Y R' hi hv) (fun _ s2 R2=>⟨_,_,R2,q'⟩) fun _ _ e=>e
theorem Xw{e o:Expr}{x:Str}{p:Pos}{l:Nat}:swapsWith e (some (.Attribute o x p)) l env=pure false:=by
 unfold swapsWith
 cases e<;>rfl
theorem Xx{e o i:Expr}{p:Pos}{l:Nat}:swapsWith e (some (.Subscript o i p)) l env=pure false:=by
 unfold swapsWith
 cases e<;>rfl
theorem Abc{an:Str}{a:C2}(ha:Mj an=some a):an=A4 a:=by
 delta Mj at ha
 repeat' split at ha
 all_goals first
  | (rename_i z;simp only[beq_iff_eq]at z;cases ha;exact z)
  | cases ha
theorem U0(g:Jd W G){o e:Expr}{x y:X}{an:Str}{a:C2}{pa pos:Pos}(h:SE W G n c e x)(ho:SE W G n c o y)(ha:Mj an=some a):S5 W G n c (.Assign [.Attribute o an pa] e pos) (.setattr y a x):=by
 intro A env aa H ρ s N Rt E ok Y R q
 simp only[Zw,Bz,Bl,Zx,Za,Zy,Zz,Je,D0,Z0,Z1,D1]at q
 have:=Abc ha
 subst this
 refine plainObj_wpAny_Assign_Attribute (wpAny_mono (h ok Y R q) (fun v s' r=>?_) fun _ _ e=>e) Xw
 refine Aa fun nY=>?_
 obtain⟨av,H',hv,R',q'⟩:=r
 refine nY ?_;clear nY
 refine wpAny_mono (ho ok Y R' q') (fun v2 s2 r=>?_) fun _ _ e=>e
 refine Aa fun nY=>?_
 obtain⟨ao,H2,hv2,R2,q2⟩:=r
 refine nY ?_;clear nY
 refine wpAny_mono (Pb Y g.X g.inst R2 hv2 hv q2) (fun _ s3 r=>?_) fun _ _ e=>e
 refine Aa fun nY=>?_
 obtain⟨H3,R3,q3⟩:=r
 refine nY ?_;clear nY
 exact⟨_,_,R3,q3⟩
theorem U1{o i e:Expr}{x y z:X}{pa pos:Pos}(h:SE W G n c e x)(ho:SE W G n c o y)(hi:SE W G n c i z):S5 W G n c (.Assign [.Subscript o i pa] e pos) (.setitem y z x):=by
 intro A env aa H ρ s N Rt E ok Y R q
 simp only[Zw,Bz,Bl,Zx,Za,Zy,Zz,Je,D0,Z0,Z1,D1]at q
 refine wpAny_Assign_Subscript (wpAny_mono (h ok Y R q) (fun v s' r=>?_) fun _ _ e=>e) Xx
 refine Aa fun nY=>?_
 obtain⟨av,H',hv,R',q'⟩:=r
 refine nY ?_;clear nY
 refine wpAny_mono (ho ok Y R' q') (fun v2 s2 r=>?_) fun _ _ e=>e
 refine Aa fun nY=>?_
 obtain⟨ao,H2,hv2,R2,q2⟩:=r
 refine nY ?_;clear nY
 refine wpAny_mono (hi ok Y R2 q2) (fun v3 s3 r=>?_) fun _ _ e=>e
 refine Aa fun nY=>?_
 obtain⟨ai,H3,hv3,R3,q3⟩:=r
 refine nY ?_;clear nY
 refine wpAny_mono (O8 Y R3 hv2 hv3 hv q3) (fun _ s4 r=>?_) fun _ _ e=>e
 refine Aa fun nY=>?_
 obtain⟨H4,R4,q4⟩:=r
 refine nY ?_;clear nY
 exact⟨_,_,R4,q4⟩
theorem Ad0{e:Expr}{x:X}{pos:Pos}(h:SE W G n c e x)(hp:Ku e=true):S5 W G n c (.Expr e pos) (.expr x):=by
 intro A env aa H ρ s N Rt E ok Y R q
 simp only[Zw,Bz,Bl,Zx,Za,Zy,Zz,Je,D0,Z0,Z1,D1]at q
 rw[arm_exec_Expr]
 have hi:interactive env=false:=by unfold interactive;rw[Y.kind];rfl
 refine wpAny_bind (wpAny_standAt ?_)
 simp only[hi,Bool.false_eq_true,if_false]
 refine wpAny_bind (wpAny_of_eq (Mr hp) ?_)
 simp only[Bool.false_eq_true,if_false]
 refine wpAny_bind (wpAny_mono (h ok Y R q) (fun v s' r=>?_) fun _ _ e=>e)
 refine Aa fun nY=>?_
 obtain⟨a,H',hv,R',q'⟩:=r
 refine nY ?_;clear nY
 exact wpAny_dropValue ⟨_,_,R',q'⟩
theorem Aie{t:Expr}{a b:List Stmt}{x:X}{xa xb:List S}{pos:Pos}(h:ST W G n c t x)(ha:Pd W G n c a xa)(hb:Pd W G n c b xb):S5 W G n c (.If t a b pos) (.ite x xa xb):=by
 intro A env aa H ρ s N Rt E ok Y R q
 simp only[Zw,Bz,Bl,Zx,Za,Zy,Zz,Je,D0,Z0,Z1,D1]at q
 refine wpAny_If (wpAny_mono (h (E:=E) (Q:=fun d H=>if d then Bh G (Ae G n) xa ρ H N Rt E else Bh G (Ae G n) xb ρ H N Rt E) ok Y R q) (fun d s' r=>?_) fun _ _ e=>e)
 obtain⟨H',R',q'⟩:=r
 cases d with
 | true=>simp only[if_true]at q' ⊢;exact wpAny_mono (ha ok Y R' q') (fun _ _ r=>r) fun _ _ e=>e
 | false=>simp only[Bool.false_eq_true,if_false]at q' ⊢;exact wpAny_mono (hb ok Y R' q') (fun _ _ r=>r) fun _ _ e=>e
theorem Af9{e:Expr}{x:X}{pos:Pos}(h:SE W G n c e x):S5 W G n c (.Return (some e) pos) (.ret x):=by
 intro A env aa H ρ s N Rt E ok Y R q
 simp only[Zw,Bz,Bl,Zx,Za,Zy,Zz,Je,D0,Z0,Z1,D1]at q
 refine wpAny_Return_some (wpAny_mono (h ok Y R q) (fun v s' r=>?_) fun _ _ e=>e)
 refine Aa fun nY=>?_
 obtain⟨a,H',hv,R',q'⟩:=r
 refine nY ?_;clear nY
 exact⟨a,H',ρ,hv,R',q'⟩
theorem Ad1{pos:Pos}:S5 W G n c (.Pass pos) .pass:=by
 intro A env aa H ρ s N Rt E ok Y R q
 simp only[Zw,Bz,Bl,Zx,Za,Zy,Zz,Je,D0,Z0,Z1,D1]at q
 exact wpAny_Pass ⟨_,_,R,q⟩
end Mine.Internal
namespace Mine.Internal
open PySem PySem.W PyProof.Rows
variable {W:Wd} {G:A2} {c:Cx} {n:Nat} {Er:EP}
set_option backward.match.sparseCases false in
noncomputable def Lu:Expr->Bool
 | .Starred .. =>false
 | .Set .. =>false
 | _=>true
structure Ew(W:Wd)(G:A2)(n:Nat)(c:Cx)(e:Expr)(x:X):Prop where
 se:SE W G n c e x
 st:ST W G n c e x
 px:Lu e=true
theorem K1{e:Expr}(h:Lu e=true):∀v p,e≠ .Starred v p:=fun v p q=>by subst q;cases h
theorem Aga{e:Expr}(h:Lu e=true):∀env v,foldedSetIterable e env v=pure v:=fun env v=>by
 cases e<;>first|rfl|cases h
theorem Q8{e:Expr}(h:Lu e=true)(op:CmpOp):behindInMarks op e=false:=by
 cases e<;>first|rfl|cases h
theorem Cb{f:Expr->Option X}(ih:∀e x,f e=some x->Ew W G n c e x){es:List Expr}:∀ {xs:List X},G8 f es=some xs->Wg W G n c es xs/\NS es:=by
 induction es with
 | nil=>intro xs h;cases h;exact⟨Adl,fun e he=>by cases he⟩
 | cons e es ih2=>
   intro xs h
   obtain⟨x,hx,ys,hy,rfl⟩:=b2 (o:=f e) (o':=G8 f es) (k:=List.cons) h
   have g:=ih e x hx
   obtain⟨h1,h2⟩:=ih2 hy
   refine⟨Aap g.se h1 (K1 g.px),fun e' he'=>?_⟩
   rcases List.mem_cons.mp he' with rfl|he'
   ·exact K1 g.px
   ·exact h2 e' he'
theorem Iu{f:Expr->Option X}(ih:∀e x,f e=some x->Ew W G n c e x){op:BoolOp}{p:Pos}:∀ {es:List Expr} {x:X},Nz f op es=some x->SE W G n c (.BoolOp op es p) x/\ST W G n c (.BoolOp op es p) x
 | [],x,h=>by cases h
 | [e],x,h=>by
   simp only[Nz]at h
   have g:=ih e x h
   refine⟨?_,Afx g.st⟩
   intro A env aa H ρ s Q E ok Y R q
   exact BoolOp_one (g.se ok Y R q)
 | e::e2::es,x,h=>by
   unfold Nz at h
   cases op with
   | And=>
     obtain⟨y,hy,z,hz,rfl⟩:=b2 h
     have g:=ih e y hy
     obtain⟨h1,h2⟩:=Iu ih (p:=p) hz
     exact⟨Afv g.se h1,Afw g.st h2⟩
   | Or=>
     obtain⟨y,hy,z,hz,rfl⟩:=b2 h
     have g:=ih e y hy
     obtain⟨h1,h2⟩:=Iu ih (p:=p) hz
     exact⟨Ah8 g.se h1,Ah9 g.st h2⟩
theorem J6(gd:Jd W G){f:Expr->Option X}(ih:∀e x,f e=some x->Ew W G n c e x){two:Bool}{e:Expr}{x:X}(h:Y6 f c two e=some x):SS W G n c e x two/\∀env v,foldedSetIterable e env v=pure v:=by
 have val:∀ {x},(do return X.val (<-f e):Option X)=some x->SS W G n c e x two/\∀env v,foldedSetIterable e env v=pure v:=by
  intro x h
  obtain⟨y,hy,rfl⟩:=b1 h
  have g:=ih e y hy
  exact⟨Af5 g.se,Aga g.px⟩
 delta Y6 at h
 refine Aa fun nY=>?_
 split at h
 ·rename_i x' args hcn
  obtain⟨p,pos,rfl⟩:=Mk hcn
  split at h
  ·rename_i q
   simp only[Bool.and_eq_true,beq_iff_eq]at q
   obtain⟨hg,rfl⟩:=q
   split at h
   ·obtain⟨ys,hy,rfl⟩:=b1 h
    obtain⟨h1,h2⟩:=Cb ih hy
    refine nY ?_;clear nY
    exact⟨Aa7 gd hg h1 h2,fun _ _=>rfl⟩
   ·cases h
  ·split at h
   ·rename_i q
    simp only[Bool.and_eq_true,beq_iff_eq]at q
    obtain⟨hg,rfl⟩:=q
    split at h
    ·rename_i a
     split at h
     ·rename_i ht
      subst ht
      obtain⟨y,hy,rfl⟩:=b1 h
      have g:=ih a y hy
      refine nY ?_;clear nY
      exact⟨Ady gd hg g.se (K1 g.px),fun _ _=>rfl⟩
     ·cases h
    ·cases h
   ·split at h
    ·rename_i q
     simp only[Bool.and_eq_true,beq_iff_eq]at q
     obtain⟨hg,rfl⟩:=q
     split at h
     ·rename_i a
      obtain⟨y,hy,rfl⟩:=b1 h
      have g:=ih a y hy
      refine nY ?_;clear nY
      exact⟨Af6 gd hg g.se (K1 g.px),fun _ _=>rfl⟩
     ·cases h
    ·refine nY ?_;clear nY
     exact val h
 ·refine nY ?_;clear nY
  exact val h
theorem J7{f:Expr->Option X}(ih:∀e x,f e=some x->Ew W G n c e x):∀ {e:Option Expr} {x:X},Ub f e=some x->SO W G n c e x
 | none,x,h=>by cases h;exact Adt
 | some e,x,h=>Adu (ih e x h).se
theorem Xy{x:Str}{k:Nat}(hb:Act x k=some .list):x = "list" :=(by decide:∀p∈Y4,p.2.2 = .list->p.1 = "list") (x,(k,.list)) (Sc hb) rfl
theorem S7(gd:Jd W G)(hc:SC W G n){x:Str}{f:Expr->Option X}(ih:∀e x,f e=some x->Ew W G n c e x){p pos:Pos}{args:List Expr}{y:X}(hg:c.global x=true)(h:Vw f c x args=some y):SE W G n c (.Call (.Name x p) args [] pos) y:=by
 delta Vw at h
 split at h
 ·rename_i q
  have hx:=beq_iff_eq.mp q
  subst hx
  split at h
  ·rename_i e t hta
   obtain⟨tp,rfl⟩:=Uc hta
   split at h
   ·rename_i hgt
    split at h
    ·rename_i ty ht
     obtain⟨z,hz,rfl⟩:=b1 h
     have g:=ih e z hz
     exact @Xm W G c n gd ty t p tp pos e z ht hg hgt g.se (K1 g.px)
    ·cases h
   ·cases h
  ·cases h
 ·split at h
  ·rename_i b hb
   have plain:∀ {y},(do return X.bi b (<-G8 f args):Option X)=some y->SE W G n c (.Call (.Name x p) args [] pos) y:=by
    intro y h
    obtain⟨ys,hy,rfl⟩:=b1 h
    obtain⟨h1,h2⟩:=Cb ih hy
    exact @Aib W G c n gd b x p pos args ys hb hg h1 h2
   split at h
   ·split at h
    ·rename_i as hi
     obtain⟨sp,sp',rfl,hgs⟩:=Qq hi
     split at h
     ·obtain⟨zs,hz,rfl⟩:=b1 h
      obtain⟨h1,h2⟩:=Cb ih hz
      have hx:=Xy hb
      subst hx
      exact @Q1 W G c n gd p sp pos sp' as zs hg hgs h1 h2
     ·cases h
    ·exact @plain _ h
   ·exact @plain _ h
  ·split at h
   ·cases h
   ·rename_i q
    simp only[Bool.or_eq_true,not_or,Bool.not_eq_true]at q
    obtain⟨⟨q1,q2⟩,q3⟩:=q
    have q2':Go x=none:=by simpa using q2
    split at h
    ·rename_i z
     have hx:=beq_iff_eq.mp z
     obtain⟨ys,hy,rfl⟩:=b1 h
     obtain⟨h1,h2⟩:=Cb ih hy
     exact @Afa W G c n gd hc .web x p pos args ys (.inl ⟨rfl,hx⟩) hg h1 h2
    ·split at h
     ·rename_i z
      have hx:=beq_iff_eq.mp z
      obtain⟨ys,hy,rfl⟩:=b1 h
      obtain⟨h1,h2⟩:=Cb ih hy
      exact @Afa W G c n gd hc .verdict x p pos args ys (.inr ⟨rfl,hx⟩) hg h1 h2
     ·obtain⟨ys,hy,rfl⟩:=b1 h
      obtain⟨h1,h2⟩:=Cb ih hy
      exact @Adp W G c n gd hc x p pos args ys hg q3 q2' h1 h2
theorem Abd{m f:Str}(h:M9 m=some f):Go f=some (.web,m):=by
 unfold M9 at h
 repeat' split at h
 all_goals first
  | (rename_i q;have hx:=beq_iff_eq.mp q;subst hx;cases h;decide)
  | (cases h;done)
theorem Om(gd:Jd W G){r:Cx->Expr->Option X}(ih:∀c e x,r c e=some x->Ew W G n c e x){elt t it:Expr}{ifs:List Expr}{a:Int}{sc:Scope}{p:Pos}{x:X}(h:Io r c (.ListComp elt [⟨t,it,ifs,a⟩] sc p)=some x) :
 ∃(x':X) (ts:List Str) (K:Cr c sc ts) (src:X) (body:EP->Ak->AH->(Option V->AH->Prop)->Prop),Cq t=some ts/\SS W G n c it src (Kt t)/\(∀env v,foldedSetIterable it env v=pure v)/\SB W G n (En c sc ts) ifs elt body/\
  (∀ρ H Q E,Aw G (Ae G n) x' ρ H Q E->Dq G (Ae G n) src ρ H (fun its g H=>its.length<=Bp/\Bn g (Dc ts.length) (body EF) (fun vs H=>Au (.list vs) H Q) its [] (List.replicate ts.length none++ρ) H) E)/\x=x'/\a=0/\c.cmp=false:=by
 (delta Io at h;dsimp only at h)
 refine Aa fun nY=>?_
 split at h
 ·rename_i ts hts
  split at h
  ·rename_i q
   simp only[Bool.and_eq_true,beq_iff_eq,Bool.not_eq_true']at q
   obtain⟨⟨rfl,hok⟩,hcm⟩:=q
   have hsh:(∃x,ts = [x])\/(Jy fun x y=>ts = [x,y]):=by
    refine Aa fun nY=>?_
    rcases Il hts with⟨x,_,_,rfl⟩ | ⟨x,_,y,_,_,_,_,rfl⟩
    ·refine nY ?_;clear nY
     exact .inl ⟨x,rfl⟩
    ·refine nY ?_;clear nY
     exact .inr ⟨x,y,rfl⟩
   have K:=Xr hok hsh
   split at h
   ·obtain⟨y,hy,z,hz,rfl⟩:=b2 h
    obtain⟨h1,h2⟩:=J6 gd (ih c) hy
    refine nY ?_;clear nY
    exact⟨_,ts,K,y,_,hts,h1,h2,Abb (ih _ _ _ hz).se,fun ρ H Q E q=>by simp only[Zb,Zc,Zd,Ze,Zf,Zg,Zh,Zi,Zj,Zk,Zl,Zm,Zn,Zo,Bo,Zp,Zq,Zr,Zs,Zt,Ax,Dg,Be,Ay,Zu,Zv,A3,Bb]at q;exact q,rfl,rfl,hcm⟩
   ·obtain⟨y,hy,w,hw,z,hz,rfl⟩:=b3 h
    obtain⟨h1,h2⟩:=J6 gd (ih c) hy
    refine nY ?_;clear nY
    exact⟨_,ts,K,y,_,hts,h1,h2,Adz (ih _ _ _ hw).st (ih _ _ _ hz).se,fun ρ H Q E q=>by simp only[Zb,Zc,Zd,Ze,Zf,Zg,Zh,Zi,Zj,Zk,Zl,Zm,Zn,Zo,Bo,Zp,Zq,Zr,Zs,Zt,Ax,Dg,Be,Ay,Zu,Zv,A3,Bb]at q;exact q,rfl,rfl,hcm⟩
   ·cases h
  ·cases h
 ·cases h
theorem M1(gd:Jd W G)(hc:SC W G n){r:Cx->Expr->Option X}(ih:∀c e x,r c e=some x->Ew W G n c e x){f:Expr}{args:List Expr}{kws:List Keyword}{p:Pos}{x:X}(h:Io r c (.Call f args kws p)=some x):Ew W G n c (.Call f args kws p) x:=by
 have toGood:∀ {e x},Lu e=true->SE W G n c e x->(∀env whole,isTrue e env whole=(do let v <-whole;standAt e.pos;holding [v] (PySem.truthy v)))->Ew W G n c e x:=fun hp hse hi=>⟨hse,hse.toST hi,hp⟩
 refine Aa fun no=>?_
 rcases kws with _ | ⟨kw,kws⟩
 ·cases f with
  | Name y p'=>
    replace h:(if c.global y=true then Vw (r c) c y args else none)=some x:=h
    split at h
    ·rename_i hg
     exact no<|toGood rfl (S7 gd hc (ih c) hg h) fun _ _=>rfl
    ·cases h
  | Attribute o m ap=>
    replace h:(if (ap.endLine==p.line&&decide (args.length<3)&&Im o)=true then(match M9 m with
     | some g=>(r c o >>= fun y=>G8 (r c) args >>= fun z=>pure (X.meth g y z))
     | none=>(Acr m >>= fun l=>r c o >>= fun y=>G8 (r c) args >>= fun z=>pure (X.lm l y z)))else none)=some x:=h
    split at h
    ·rename_i q
     simp only[Bool.and_eq_true,decide_eq_true_eq]at q
     obtain⟨⟨q1,q2⟩,q3⟩:=q
     split at h
     ·rename_i f hfm
      obtain⟨y,hy,zs,hz,rfl⟩:=b2 h
      obtain⟨h1,h2⟩:=Cb (ih c) hz
      exact no<|toGood rfl (Adq gd hc q3 q1 q2 (Abd hfm) (ih c _ _ hy).se h1 h2) fun _ _=>rfl
     ·obtain⟨lm,hlm,y,hy,zs,hz,rfl⟩:=b3 h
      obtain⟨h1,h2⟩:=Cb (ih c) hz
      exact no<|toGood rfl (Aid q3 q1 q2 hlm (ih c _ _ hy).se h1 h2) fun _ _=>rfl
    ·cases h
  | _=>exact @nn _ _ _ h
 ·cases f<;>exact @nn _ _ _ h
theorem U2(gd:Jd W G)(hc:SC W G n){r:Cx->Expr->Option X}(ih:∀c e x,r c e=some x->Ew W G n c e x){e:Expr}{x:X}(h:Io r c e=some x):Ew W G n c e x:=by
 have toGood:∀ {e x},Lu e=true->SE W G n c e x->(∀env whole,isTrue e env whole=(do let v <-whole;standAt e.pos;holding [v] (PySem.truthy v)))->Ew W G n c e x:=fun hp hse hi=>⟨hse,hse.toST hi,hp⟩
 cases e with
 | Constant k u p=>
   cases k<;>first|exact @nn _ _ _ h|(obtain rfl:=Option.some.inj h)
   ·exact toGood rfl Adn fun _ _=>rfl
   ·exact toGood rfl Aar fun _ _=>rfl
   ·exact toGood rfl Ado fun _ _=>rfl
 | Name y p=>
   (delta Io at h;dsimp only at h)
   split at h
   ·cases h
   ·rename_i q
    simp only[Bool.or_eq_true,not_or,Bool.not_eq_true]at q
    split at h
    ·rename_i i hs
     cases h
     exact toGood rfl (Aaq hs q.1 q.2) fun _ _=>rfl
    ·split at h
     ·rename_i hg
      split at h
      ·cases h;exact toGood rfl (Adm gd hg q.1) fun _ _=>rfl
      ·cases h
     ·cases h
 | UnaryOp op e p=>
   cases op<;>first|exact @nn _ _ _ h|skip
   ·obtain⟨y,hy,rfl⟩:=b1 (o:=r c e) (k:=X.not) h
    have g:=ih c e y hy
    exact⟨Afs g.se,Aft g.st,rfl⟩
   ·obtain⟨y,hy,rfl⟩:=b1 (o:=r c e) (k:=X.neg) h
    have g:=ih c e y hy
    exact toGood rfl (Afu g.se) fun _ _=>rfl
 | BoolOp op es p=>
   obtain⟨h1,h2⟩:=Iu (ih c) (p:=p) (show Nz (r c) op es=some x from h)
   exact⟨h1,h2,rfl⟩
 | BinOp l op e p=>
   obtain⟨y,hy,z,hz,rfl⟩:=b2 (o:=r c l) (o':=r c e) (k:=X.bin op) h
   exact toGood rfl (Afy (ih c _ _ hy).se (ih c _ _ hz).se) fun _ _=>rfl
 | Compare l ops es p=>
   rcases ops with _ | ⟨o,_ | ⟨o',_ | ⟨o3,ops⟩⟩⟩
   ·exact @nn _ _ _ h
   ·rcases es with _ | ⟨e,_ | ⟨e',es⟩⟩
    ·exact @nn _ _ _ h
    ·obtain⟨y,hy,z,hz,rfl⟩:=b2 (o:=r c l) (o':=r c e) (k:=X.cmp o) h
     have g1:=ih c _ _ hy
     have g2:=ih c _ _ hz
     exact⟨Afz g1.se g2.se (Q8 g2.px _),Af0 g1.se g2.se (Q8 g2.px _),rfl⟩
    ·exact @nn _ _ _ h
   ·rcases es with _ | ⟨m,_ | ⟨e,_ | ⟨e',es⟩⟩⟩
    ·exact @nn _ _ _ h
    ·exact @nn _ _ _ h
    ·obtain⟨y,hy,z,hz,w,hw,rfl⟩:=b3 (o:=r c l) (o':=r c m) (p:=r c e) (k:=fun a b d=>X.chain a o b o' d) h
     have g1:=ih c _ _ hy
     have g2:=ih c _ _ hz
     have g3:=ih c _ _ hw
     have hm:lastMarks [o,o'] [m,e]=false:=Q8 g3.px o'
     exact⟨Aas g1.se g2.se g3.se hm,Aat g1.se g2.se g3.se hm,rfl⟩
    ·exact @nn _ _ _ h
   ·exact @nn _ _ _ h
 | Attribute o a p=>
   replace h:(if Im o=true then(r c o >>= fun y=>Mj a >>= fun z=>pure (X.attr y z))else none)=some x:=h
   split at h
   ·rename_i hb
    obtain⟨y,hy,at',ha,rfl⟩:=b2 h
    exact toGood rfl (Ads gd hb ha (ih c _ _ hy).se) fun _ _=>rfl
   ·cases h
 | List es p=>
   replace h:(if es.length<100 then(G8 (r c) es >>= fun y=>pure (X.list y))else none)=some x:=h
   split at h
   ·rename_i hl
    obtain⟨ys,hy,rfl⟩:=b1 h
    exact toGood rfl (Adr (Cb (ih c) hy).1 hl) fun _ _=>rfl
   ·cases h
 | Tuple es k p=>
   replace h:(if es.length<100 then(G8 (r c) es >>= fun y=>pure (X.tuple y))else none)=some x:=h
   split at h
   ·rename_i hl
    obtain⟨ys,hy,rfl⟩:=b1 h
    exact toGood rfl (Aax (Cb (ih c) hy).1 hl) fun _ _=>rfl
   ·cases h
 | Dict ks vs p=>
   rcases ks with _ | ⟨k,_ | ⟨k',ks⟩⟩
   ·rcases vs with _ | ⟨v,vs⟩
    ·obtain rfl:=Option.some.inj (show some (X.dict [] [])=some x from h)
     exact toGood rfl Aa0 fun _ _=>rfl
    ·exact @nn _ _ _ h
   ·rcases k with _|k
    ·exact @nn _ _ _ h
    ·rcases vs with _ | ⟨v,_ | ⟨v',vs⟩⟩
     ·exact @nn _ _ _ h
     ·obtain⟨y,hy,z,hz,rfl⟩:=b2 (o:=r c k) (o':=r c v) (k:=fun a b=>X.dict [a] [b]) h
      exact toGood rfl (Aa1 (ih c _ _ hy).se (ih c _ _ hz).se) fun _ _=>rfl
     ·exact @nn _ _ _ h
   ·rcases k with _|k<;>exact @nn _ _ _ h
 | Subscript o i p=>
   cases hi:Od i with
   | true=>
     have e:Io r c (.Subscript o i p)=(do return .sub (<-r c o) (<-r c i)):=by cases i<;>first|rfl|cases hi
     rw[e]at h
     obtain⟨y,hy,z,hz,rfl⟩:=b2 h
     exact toGood rfl (Af3 hi (ih c _ _ hy).se (ih c _ _ hz).se) fun _ _=>rfl
   | false=>
     cases i with
     | Slice l u st p2=>
       obtain⟨y,hy,a,ha,b,hb,d,hd,rfl⟩:=b4 (o:=r c o) (o':=Ub (r c) l) (p:=Ub (r c) u) (p':=Ub (r c) st) (k:=X.slice) h
       exact toGood rfl (Aaz (ih c _ _ hy).se (J7 (ih c) ha) (J7 (ih c) hb) (J7 (ih c) hd)) fun _ _=>rfl
     | _=>cases hi
 | Call f args kws p=>exact M1 gd hc (fun c e x h=>ih c e x h) h
 | ListComp elt gens sc p=>
   rcases gens with _ | ⟨⟨t,it,ifs,a⟩,_ | ⟨g2,gs⟩⟩
   ·exact @nn _ _ _ h
   ·obtain⟨x',ts,K,src,body,ht,hsrc,hset,hb,he,rfl,rfl,hcm⟩:=Om gd ih h
    exact toGood rfl (Mq K ht hsrc hb hset he) fun _ _=>rfl
   ·exact @nn _ _ _ h
 | _=>exact @nn _ _ _ h
theorem Nc(gd:Jd W G)(hc:SC W G n):∀(k:Nat) (c:Cx) (e:Expr) (x:X),Ud k c e=some x->Ew W G n c e x
 | 0,_,_,_,h=>by cases h
 | k+1,c,e,x,h=>by
   exact U2 gd hc (Nc gd hc k) h
theorem E7{f:Stmt->Option S}(ih:∀e x,f e=some x->S5 W G n c e x){es:List Stmt}:∀ {xs:List S},O6 f es=some xs->Pd W G n c es xs:=by
 induction es with
 | nil=>intro xs h;cases h;exact Aa8
 | cons e es ih2=>
   intro xs h
   cases es with
   | nil=>
     obtain⟨x,hx,rfl⟩:=b1 (o:=f e) (k:=fun x=>[x]) h
     exact Aa9 (ih e x hx)
   | cons e' es=>
     obtain⟨x,hx,ys,hy,rfl⟩:=b2 (o:=f e) (o':=O6 f (e'::es)) (k:=List.cons) h
     cases ys with
     | nil=>obtain⟨_,_,_,_,q⟩:=b2 (o:=f e') (o':=O6 f es) (k:=List.cons) hy;cases q
     | cons y ys=>exact Xq (ih e x hx) (ih2 hy)
end Mine.Internal
namespace Mine.Internal
open PySem PySem.W PyProof.Rows
variable {W:Wd} {G:A2} {c:Cx} {n:Nat} {Er:EP}
theorem Q9(gd:Jd W G)(hc:SC W G n){k:Nat}{y:Str}{py pos:Pos}{e:Expr}{i:Nat}{x:X}(hi:c.own y=some i)(h:Ud k c e=some x):S5 W G n c (.Assign [.Name y py] e pos) (.assign i x):=by
 cases hn:Ku e with
 | true=>intro A env aa H ρ s N Rt E ok Y R q;exact Xv (Nc gd hc k c e x h).se hn hi ok Y R q
 | false=>
   cases k with
   | zero=>cases h
   | succ k=>
     have h':Io (Ud k) c e=some x:=h
     cases e with
     | ListComp elt gens sc p=>
       rcases gens with _ | ⟨⟨t,it,ifs,a⟩,_ | ⟨g2,gs⟩⟩
       ·exact @nn _ _ _ h'
       ·obtain⟨x',ts,K,src,body,ht,hsrc,hset,hb,he,rfl,rfl,hcm⟩:=Om gd (Nc gd hc k) h'
        intro A env aa H ρ s N Rt E ok Y R q;exact Ol K ht hsrc hb hset he hi ok Y R q
       ·exact @nn _ _ _ h'
     | SetComp _ _ _ _=>exact @nn _ _ _ h'
     | DictComp _ _ _ _ _=>exact @nn _ _ _ h'
     | _=>cases hn
theorem S8(gd:Jd W G)(hc:SC W G n){k:Nat}{r:Cx->Stmt->Option S}(ih:∀c s x,r c s=some x->S5 W G n c s x){s:Stmt}{x:S}(h:Es k r c s=some x):S5 W G n c s x:=by
 have sE:=Nc gd hc k c
 cases s<;>try exact @nn _ _ _ h
 case Return e p=>
  cases e with
  | none=>exact @nn _ _ _ h
  | some e=>
    delta Es at h
    (try dsimp only at h)
    obtain⟨y,hy,rfl⟩:=b1 h
    intro A env aa H ρ s N Rt E ok Y R q;exact Af9 (sE _ _ hy).se ok Y R q
 case Assign ts e p=>
  cases ts with
  | nil=>exact @nn _ _ _ h
  | cons t ts=>
    cases ts with
    | cons t' ts=>exact @nn _ _ _ h
    | nil=>
      delta Es at h
      dsimp only at h
      delta Sd at h
      cases t<;>try exact @nn _ _ _ h
      case Attribute o a p=>
       (try dsimp only at h)
       obtain⟨y,hy,a,ha,z,hz,rfl⟩:=b3 h
       intro A env aa H ρ s N Rt E ok Y R q;exact U0 gd (sE _ _ hz).se (sE _ _ hy).se ha ok Y R q
      case Subscript o i p=>
       dsimp only at h
       split at h
       ·cases h
       ·obtain⟨y,hy,a,ha,z,hz,rfl⟩:=b3 h
        intro A env aa H ρ s N Rt E ok Y R q;exact U1 (sE _ _ hz).se (sE _ _ hy).se (sE _ _ ha).se ok Y R q
      case Name y p=>
       (try dsimp only at h)
       obtain⟨i,hi,y,hy,rfl⟩:=b2 h
       intro A env aa H ρ s N Rt E ok Y R q;exact Q9 gd hc hi hy ok Y R q
 case For t it body els p=>
  cases els with
  | cons a b=>exact @nn _ _ _ h
  | nil=>
    delta Es at h
    (try dsimp only at h)
    obtain⟨t,ht,y,hy,z,hz,rfl⟩:=b3 h
    obtain⟨h1,h2⟩:=J6 gd sE hy
    intro A env aa H ρ s N Rt E ok Y R q;exact Af7 h1 ht (E7 (ih c) hz) h2 ok Y R q
 case While t body els p=>
  cases els with
  | cons a b=>exact @nn _ _ _ h
  | nil=>
    delta Es at h
    (try dsimp only at h)
    obtain⟨y,hy,z,hz,rfl⟩:=b2 h
    intro A env aa H ρ s N Rt E ok Y R q;exact Aba (sE _ _ hy).st (E7 (ih c) hz) ok Y R q
 case If t a b p=>
  delta Es at h
  (try dsimp only at h)
  obtain⟨y,hy,a,ha,z,hz,rfl⟩:=b3 h
  intro A env aa H ρ s N Rt E ok Y R q;exact Aie (sE _ _ hy).st (E7 (ih c) ha) (E7 (ih c) hz) ok Y R q
 case Raise e z p=>
  cases h;intro A env aa H ρ s N Rt E ok Y R q;exact False.elim q
 case Expr e p=>
  delta Es at h
  dsimp only at h
  split at h
  ·rename_i hn
   obtain⟨y,hy,rfl⟩:=b1 h
   intro A env aa H ρ s N Rt E ok Y R q;exact Ad0 (sE _ _ hy).se hn ok Y R q
  ·cases h
 case Pass p=>
  cases h;intro A env aa H ρ s N Rt E ok Y R q;exact Ad1 ok Y R q
theorem Wk(gd:Jd W G)(hc:SC W G n):∀(k:Nat) (c:Cx) (s:Stmt) (x:S),erS k c s=some x->S5 W G n c s x
 | 0,_,_,_,h=>by cases h
 | k+1,c,s,x,h=>by
   replace h:(if c.cmp=true then none else Es (k+1) (erS k) c s)=some x:=h
   split at h
   ·cases h
   ·exact S8 (k:=k+1) gd hc (Wk gd hc k) h
/-! calls of functions -/
theorem Qa{kindOf:Str->Option NameKind}{x:Str}:∀ {ns:List Str} {vs:List Value} {m:Str->Option Value},x∉ns->bindL kindOf (ns.zip vs) m x=m x
 | [],_,_,_=>rfl
 | a::ns,[],_,_=>rfl
 | a::ns,u::vs,m,h=>by
   rw[List.zip_cons_cons]
   unfold bindL
   rw[Qa (fun q=>h (.tail _ q))]
   split
   ·simp only[show x≠a from fun q=>h (by simp[q]),if_false]
   ·rfl
theorem Qb{kindOf:Str->Option NameKind}{x:Str}:∀ {ns:List Str} {vs:List Value} {m:Str->Option Value},x∉ns->bindC kindOf (ns.zip vs) m x=m x
 | [],_,_,_=>rfl
 | a::ns,[],_,_=>rfl
 | a::ns,u::vs,m,h=>by
   rw[List.zip_cons_cons]
   unfold bindC
   rw[Qb (fun q=>h (.tail _ q))]
   split
   ·rfl
   ·simp only[show x≠a from fun q=>h (by simp[q]),if_false]
theorem Xz{kindOf:Str->Option NameKind}{x:Str}{v:Value}:∀ {ns:List Str} {vs:List Value} {m:Str->Option Value},ns.Nodup->kindOf x=some .local->
 (∀i,ns.idxOf? x=some i->vs[i]? = some v->bindL kindOf (ns.zip vs) m x=some v):=by
 intro ns
 induction ns with
 | nil=>intro vs m hn hk i h;simp at h
 | cons a ns ih=>
   intro vs m hn hk i h1 h2
   obtain⟨hn1,hn2⟩:=List.nodup_cons.mp hn
   cases vs with
   | nil=>simp at h2
   | cons u vs=>
     rw[List.zip_cons_cons]
     unfold bindL
     rw[List.idxOf?_cons]at h1
     cases q:a==x with
     | true=>
       rw[q]at h1
       simp only[if_true,Option.some.injEq]at h1
       subst h1
       have hx:=beq_iff_eq.mp q
       subst hx
       simp only[List.getElem?_cons_zero,Option.some.injEq]at h2
       subst h2
       rw[if_pos hk,Qa hn1]
       simp
     | false=>
       rw[q]at h1
       simp only[Bool.false_eq_true,if_false]at h1
       obtain⟨j,hj,rfl⟩:=Option.map_eq_some_iff.mp h1
       simp only[List.getElem?_cons_succ]at h2
       exact ih hn2 hk j hj h2
theorem X0{kindOf:Str->Option NameKind}{x:Str}{v:Value}:∀ {ns:List Str} {vs:List Value} {m:Str->Option Value},ns.Nodup->kindOf x≠some .local->
 (∀i,ns.idxOf? x=some i->vs[i]? = some v->bindC kindOf (ns.zip vs) m x=some v):=by
 intro ns
 induction ns with
 | nil=>intro vs m hn hk i h;simp at h
 | cons a ns ih=>
   intro vs m hn hk i h1 h2
   obtain⟨hn1,hn2⟩:=List.nodup_cons.mp hn
   cases vs with
   | nil=>simp at h2
   | cons u vs=>
     rw[List.zip_cons_cons]
     unfold bindC
     rw[List.idxOf?_cons]at h1
     cases q:a==x with
     | true=>
       rw[q]at h1
       simp only[if_true,Option.some.injEq]at h1
       subst h1
       have hx:=beq_iff_eq.mp q
       subst hx
       simp only[List.getElem?_cons_zero,Option.some.injEq]at h2
       subst h2
       rw[if_neg hk,Qb hn1]
       simp
     | false=>
       rw[q]at h1
       simp only[Bool.false_eq_true,if_false]at h1
       obtain⟨j,hj,rfl⟩:=Option.map_eq_some_iff.mp h1
       simp only[List.getElem?_cons_succ]at h2
       exact ih hn2 hk j hj h2
theorem K2{β:Type}:∀ {l:List (Str×β)},(l.map (·.1)).Nodup->∀p∈l,l.lookup p.1=some p.2
 | [],_,p,hp=>by cases hp
 | (y,z)::r,h,p,hp=>by
   rw[List.map_cons,List.nodup_cons]at h
   rw[List.lookup_cons]
   rcases List.mem_cons.mp hp with rfl|hp'
   ·simp
   ·have:(p.1==y)=false:=by
     simpa using fun q:p.1=y=>h.1 (by rw[<-q];exact List.mem_map.mpr ⟨p,hp',rfl⟩)
    rw[this]
    exact K2 h.2 p hp'
theorem Ra{l:List (Str×Addr)}(h:l.Pairwise fun x y=>x.2≠y.2){p q:Str×Addr}(hp:p∈l)(hq:q∈l)(e:p.2=q.2):p=q:=by
 induction l with
 | nil=>cases hp
 | cons a l ih=>
   obtain⟨h1,h2⟩:=List.pairwise_cons.mp h
   rcases List.mem_cons.mp hp with e1|hp'
   ·rcases List.mem_cons.mp hq with e2|hq'
    ·rw[e1,e2]
    ·exact absurd (e1▸e) (h1 q hq')
   ·rcases List.mem_cons.mp hq with e2|hq'
    ·exact absurd (e2▸e).symm (h1 p hp')
    ·exact ih h2 hp' hq'
theorem Abe{params:Arguments}{body:List Stmt}{sc:Scope}{d:Fn}(h:Acw params body sc=some d):Ft params=true/\sc.kind = .function/\sc.isGenerator=false/\sc.isCoroutine=false/\d.slots=(B0 params sc).length/\d.arity=params.args.length/\O6 (erS 40 ⟨B0 params sc,sc,false⟩) body=some d.body:=by
 unfold Acw at h
 refine Aa fun nY=>?_
 split at h
 ·rename_i q
  simp only[Bool.and_eq_true,beq_iff_eq,Bool.not_eq_true']at q
  obtain⟨b,hb,rfl⟩:=b1 h
  refine nY ?_;clear nY
  exact⟨q.1.1.1,q.1.1.2,q.1.2,q.2,rfl,rfl,hb⟩
 ·cases h
theorem Av.back{aa:HB}{env env':Env}{c:Cx}{names':List Str}{H H':AH}{ρ ρ':Ak}{s s':Shared}(Y:Ap W env c aa)(R:Av W aa env c.names H ρ s){am:HB}(hk:∀b o,s.heap.get? b=some o->H b=none->am.get? b=some o)(hf:∀b∈am.fs,b≠env.locals->b∈aa.fs)(R':Av W am env' names' H' ρ' s'):Av W aa env c.names H' ρ s':=by
 have noneL:H env.locals=none:=by
  cases q:H env.locals with
  | none=>rfl
  | some x=>exact absurd rfl (R.sep _ _ q).2.1
 have noneC:∀x a,env.cells.lookup x=some a->H a=none:=fun x a e=>by
  cases q:H a with
  | none=>rfl
  | some z=>exact absurd e ((R.sep _ _ q).2.2 x)
 have none0:∀b o,aa.get? b=some o->H b=none:=fun b o e=>by
  cases q:H b with
  | none=>rfl
  | some z=>have:=(R.sep b z q).1;rw[e]at this;cases this
 refine⟨?_,?_,fun b o e=>(let ⟨o1,e1,z1⟩:=R.keep b o e;let ⟨o2,e2,z2⟩:=R'.keep b o1 (hk b o1 e1 (none0 b o e));⟨o2,e2,z1.trans (z2.imp id fun⟨⟨m,n⟩,z⟩=>⟨⟨hf b m (fun q=>by rw[q,Y.new]at e;cases e),n⟩,z⟩)⟩),R'.objs,?_,R'.gens,R'.os,R.above,R'.low⟩
 ·refine Aa fun nY=>?_
  obtain⟨m,⟨o,es,ep,h1,h2⟩,h3⟩:=R.ns
  refine nY ?_;clear nY
  exact⟨m,R'.keep.ns ⟨o,es,ep,hk _ _ h1 noneL,h2⟩,h3⟩
 ·intro x a e
  refine Aa fun nY=>?_
  obtain⟨w,⟨o,ho,hd⟩,hr⟩:=R.cell x a e
  refine nY ?_;clear nY
  exact⟨w,⟨o,R'.keep.exact (hk _ _ ho (noneC x a e)) (.inl fun m=>(by obtain⟨p,hp,hp2⟩:=Bf e;exact Y.fsok a (hf a m (Y.apart x a e)) (hp2▸Y.newc p hp))),hd⟩,hr⟩
 ·intro a o e
  refine Aa fun nY=>?_
  obtain⟨q1,q2,q3⟩:=R'.sep a o e
  refine nY ?_;clear nY
  refine⟨?_,?_,?_⟩
  ·cases q:aa.get? a with
   | none=>rfl
   | some z=>obtain⟨z',e1,_⟩:=R.keep a z q;have:=hk a z' e1 (none0 a z q);rw[q1]at this;cases this
  ·rintro rfl
   refine Aa fun nY=>?_
   obtain⟨m,⟨o,es,ep,h1,h2⟩,h3⟩:=R.ns
   have:=hk _ _ h1 noneL;rw[q1]at this;cases this
  ·intro x hx
   refine Aa fun nY=>?_
   obtain⟨w,⟨o,ho,hd⟩,hr⟩:=R.cell x a hx
   have:=hk _ _ ho (noneC x a hx);rw[q1]at this;cases this
end Mine.Internal
namespace Mine.Internal
open PySem PySem.W PyProof.Rows
variable {W:Wd} {G:A2} {n:Nat} {Er:EP}
theorem U3{params:Arguments}{sc:Scope}{x:Str}{i:Nat}(h:(B0 params sc).idxOf? x=some i)(hi:i<params.args.length):(params.args.map (·.arg)).idxOf? x=some i:=by
 unfold B0 at h
 cases Classical.em (x∈params.args.map (·.arg))with
 | inl q=>rw[(Dv q).1]at h;exact h
 | inr q=>
   rw[Hg q]at h
   obtain⟨j,_,rfl⟩:=Option.map_eq_some_iff.mp h
   simp at hi
   exact(Nat.not_lt.mpr (Nat.le_add_left _ _) hi).elim
structure Iv(W:Wd)(H:AH)(s:Shared):Prop where
 base:∀b o,W.aj.get? b=some o->s.heap.get? b=some o
 objs:∀a o,H a=some o->∃ob,s.heap.get? a=some ob/\OR W o ob
 low:∀a es,H a=some (.dict es)->W.aj.objs.size<=a
 bn:∀a o,H a=some o->W.aj.get? a=none
 gens:s.gens = #[]
 os:s.os=W.os
 up:W.aj.objs.size<=s.heap.objs.size
 lo:sysModules<W.aj.objs.size
noncomputable def Aif(W:Wd)(FS:List Addr)(H:AH)(s:Shared)(Q:Ag)(v:Value)(s':Shared):Prop:=
 (Ex6 fun(a:V) (H':AH) (env':Env) (names':List Str) (ρ':Ak) (am:HB)=>Vh (am.fs=FS) (VR W a v) (Av W am env' names' H' ρ' s') (Q a H') (∀b o,s.heap.get? b=some o->H b=none->am.get? b=some o))
theorem Qc(g:Jd W G)(hc:SC W G n){A:Around}{H:AH}{s:Shared}{Q:Ag}{E:EP}{f:Str}{fa:Addr}{vs:List V}{us:List Value}(hh:A.handled=none)(hroom:A.depth+4*(n+1)+2<recursionLimit)(hunits:A.units+30*(n+1)+40<cLine)
 (FS:List Addr) (hFS:∀L∈FS,H L=none/\W.aj.get? L=none/\∃o,s.heap.get? L=some o/\∀vs,o.data≠ .fields vs) (B:Iv W H s) (hfa:E6 W f=some fa) (hv:C5 W vs us) (q:Ae G (n+1) f vs H Q E) :
 codeAny W.M A (.call (.ref fa) ⟨us,[]⟩) (fun r s'=>match r with | .ok (.ret v)=>Aif W FS H s Q v s' | .ok _=>False | .error _=>False) s:=by
 unfold Ae at q
 refine Aa fun nY=>?_
 split at q
 ·rename_i d hd
  obtain⟨fa',h1,name,qual,params,body,scope,doc,pm,cdv,ct,oc,an,od,osl,F⟩:=g.fn f d hd
  rw[hfa]at h1
  cases h1
  obtain⟨p1,p2,p3,p4,p5,p6,p7⟩:=Abe F.er
  obtain⟨har,q⟩:=q
  have X:W.K.In s.heap:=fun a o e=>B.base a o (g.X a o e)
  have hlen:params.args.length=us.length:=by rw[<-p6,har,hv.length]
  refine nY ?_;clear nY
  refine codeAny_call_function (fd:=fnOf name qual params body scope .none .none doc pm an cdv ct) (body:=body) (Nat.lt_of_le_of_lt (Af (Nat.le_add_right _ _) (Nat.le_add_right _ _)) hroom) (X _ _ F.at_) rfl p4 p3 rfl (codeRec_of X F.code) ?_
  rw[Uv (fd:=fnOf name qual params body scope .none .none doc pm an cdv ct) p1 rfl hlen F.nodup]
  refine wpAny_pure ?_
  refine wpAny_newFunctionEnv_cells p2 (fun x hx=>?_) fun env' he' ay I=>?_
  ·have hx':x.1∈params.args.map (·.arg):=(List.of_mem_zip (a:=x.1) (b:=x.2) hx).1
   refine Aa fun nY=>?_
   rcases F.kinds x.1 hx' with h|h
   ·refine nY ?_;clear nY
    exact .inl h
   ·refine nY ?_;clear nY
    exact .inr ⟨h,cellsFrom_some _ _ _ (.inl h)⟩
  ·refine Aa fun nY=>?_
   obtain⟨pp,loose,mg,mb,T⟩:=g.top
   obtain⟨h2,tk2,es2⟩:=I.toInCall.same
   have keep2:=I.toInCall.keep
   refine nY ?_;clear nY
   have hL:env'.locals=s.heap.objs.size:=by rw[he'];rfl
   have hcells:env'.cells=cellsFrom (s.heap.objs.size+1) scope.names []:=by rw[he'];rfl
   have hkindOf:∀x,env'.kindOf x=scope.names.lookup x:=fun x=>by rw[he'];rfl
   have hkeysnd:(env'.cells.map (·.1)).Nodup:=by
    rw[hcells,cellsFrom_names scope.names (s.heap.objs.size+1) 0 [] [] rfl];exact F.cells
   refine⟨T.nolimit.keeps fun b o e=>keep2 b o (B.base b o e),codeAny_func ?_⟩
   have hlow:∀b o,s.heap.get? b=some o->b≠env'.locals/\∀p∈env'.cells,p.2≠b:=fun b o e=>by
    have hlt:=Heap.lt_size e
    refine⟨by rw[hL];exact Nat.ne_of_lt hlt,fun p hp q=>?_⟩
    have:=I.above p.1 p.2 hp
    rw[hL,q]at this
    exact Nat.lt_asymm this hlt
   have hprot:∀b o,s.heap.get? b=some o->H b=none->(Mine.Internal.prot env' FS H ay.heap).get? b=some o:=fun b o e hb=>Cj (keep2 b o e) hb (hlow b o e).1 (hlow b o e).2
   have Y':Ap W env' ⟨B0 params scope,scope,false⟩ (Mine.Internal.prot env' FS H ay.heap):=by
    refine⟨by rw[he'];exact p2,by rw[he'];rfl,by rw[he'];rfl,fun x k e _=>(hkindOf x).trans e,fun x e=>absurd rfl (F.nofree _ (A6 e)),?_,?_,?_,?_,Cy (.inr (.inl rfl)),(fun L m q=>by obtain⟨z,_,o,e,_⟩:=hFS L m;rw[hprot L o e z]at q;cases q),(fun L m=>by obtain⟨z,z2,o,e,z3⟩:=hFS L m;refine⟨z2,fun o' e'=>?_⟩;have e2:=Fx e';rw[keep2 L o e]at e2;cases e2;exact z3),fun p hp=>Cy (.inr (.inr ⟨p,hp,rfl⟩)),K2 hkeysnd,B.lo⟩
    ·intro x e
     rw[hkindOf]at e
     refine Aa fun nY=>?_
     rcases e with e|e
     ·have:=cellsFrom_some (x:=x) scope.names (s.heap.objs.size+1) [] (.inl e)
      rw[<-hcells]at this
      refine nY ?_;clear nY
      exact Option.isSome_iff_exists.mp this
     ·exact absurd rfl (F.nofree _ (A6 e))
    ·intro x a e q
     have:=I.above x a (A6 e)
     rw[q]at this
     exact Nat.lt_irrefl _ this
    ·intro x y a e1 e2
     have:=Ra I.apart (A6 e1) (A6 e2) rfl
     exact congrArg Prod.fst this
    ·intro b o e
     refine hprot b o (B.base b o e) ?_
     cases q:H b with
     | none=>rfl
     | some z=>have:=B.bn b z q;rw[e]at this;cases this
   have R':Av W (Mine.Internal.prot env' FS H ay.heap) env' (B0 params scope) H (vs.map some++List.replicate (d.slots-d.arity) none) ay:=by
    have key:∀x i v,(B0 params scope).idxOf? x=some i->(vs.map some++List.replicate (d.slots-d.arity) none)[i]? = some (some v)->(O2 fun u=>Fe ((params.args.map (·.arg)).idxOf? x=some i) (us[i]? = some u) (VR W v u)):=by
     intro x i v e1 e2
     have hi:i<vs.length:=by
      refine Aa fun nY=>?_
      cases Nat.lt_or_ge i vs.length with
      | inl h=>(refine nY ?_;clear nY;exact h)
      | inr h=>
        rw[List.getElem?_append_right (by simpa using h)]at e2
        obtain⟨_,z⟩:=Da e2
        simp at z
     rw[List.getElem?_append_left (by simpa using hi),List.getElem?_map]at e2
     refine Aa fun nY=>?_
     obtain⟨v',h1,h2⟩:=Option.map_eq_some_iff.mp e2
     cases h2
     obtain⟨u,h3,h4⟩:=hv.get i h1
     refine nY ?_;clear nY
     exact⟨u,U3 e1 (Nat.lt_of_lt_of_eq hi (har.symm.trans p6)),h3,h4⟩
    refine⟨⟨_,I.toInCall.ns,?_⟩,?_,.of fun _ _ e=>Fx e,?_,?_,?_,?_,by rw[hL];exact B.up,B.low⟩
    ·intro x i v e1 e2 e3
     refine Aa fun nY=>?_
     obtain⟨u,h1,h2,h3⟩:=key x i v e1 e3
     refine nY ?_;clear nY
     exact⟨u,Xz F.nodup e2 i h1 h2,h3⟩
    ·intro x a e
     refine⟨_,I.cell x a e,fun i v e1 e2 e3=>?_⟩
     refine Aa fun nY=>?_
     obtain⟨u,h1,h2,h3⟩:=key x i v e1 e3
     refine nY ?_;clear nY
     exact⟨u,X0 F.nodup (by rcases e2 with e2|e2<;>rw[e2]<;>simp) i h1 h2,h3⟩
    ·intro a o e
     refine Aa fun nY=>?_
     obtain⟨ob,g1,g2⟩:=B.objs a o e
     refine nY ?_;clear nY
     exact⟨ob,keep2 _ _ g1,g2⟩
    ·intro a o e
     refine Aa fun nY=>?_
     obtain⟨ob,g1,g2⟩:=B.objs a o e
     refine nY ?_;clear nY
     exact⟨Cy (.inl ⟨o,e⟩),(hlow a ob g1).1,fun x q=>by obtain⟨p,hp,hp2⟩:=Bf q;exact(hlow a ob g1).2 p hp hp2⟩
    ·rw[es2];exact B.gens
    ·rw[es2];exact B.os
   have ok':Pu (A.deeper env') ⟨B0 params scope,scope,false⟩ (Mine.Internal.prot env' FS H ay.heap) env' n:=by
    exact⟨hh,by show A.depth+1+4*n+4<_;exact Ak4 hroom,by show A.units+3+30*n+60<_;exact Ak5 hunits⟩
   have hb:Pd W G n ⟨B0 params scope,scope,false⟩ body d.body:=E7 (fun s x h=>Wk g hc 40 _ s x h) p7
   refine wpAny_mono (hb ok' Y' R' q) (fun fl s' r=>?_) fun v s' x=>False.elim x
   refine Aa fun nY=>?_
   cases fl with
   | next=>
     obtain⟨ρ',H',R3,q3⟩:=r
     refine nY ?_;clear nY
     exact⟨.none,H',env',_,ρ',_,rfl,.none,R3,q3,hprot⟩
   | ret v=>
     obtain⟨a,H',ρ',hv',R3,q3⟩:=r
     refine nY ?_;clear nY
     exact⟨a,H',env',_,ρ',_,rfl,hv',R3,q3,hprot⟩
   | brk=>exact r.elim
   | cont=>exact r.elim
 ·exact q.elim
theorem Av.frames{env:Env}{c:Cx}{aa:HB}{names:List Str}{H:AH}{ρ:Ak}{s:Shared}(R:Av W aa env names H ρ s)(Y:Ap W env c aa):∀L∈env.locals::aa.fs,H L=none/\W.aj.get? L=none/\∃o,s.heap.get? L=some o/\∀vs,o.data≠ .fields vs:=fun L m=>by
 rcases List.mem_cons.mp m with rfl|m
 ·refine⟨?_,Pt R.above,?_⟩
  ·cases q:H env.locals with
   | none=>rfl
   | some x=>exact absurd rfl (R.sep _ _ q).2.1
  ·obtain⟨_,⟨o,_,_,h,h2,_⟩,_⟩:=R.ns
   exact⟨o,h,fun vs q=>by rw[h2]at q;cases q⟩
 ·refine⟨?_,(Y.fsd L m).1,R.fsd Y m⟩
  cases z:H L with
  | none=>rfl
  | some x=>exact absurd (R.sep L x z).1 (Y.fsok L m)
theorem U4(g:Jd W G)(hc:SC W G n):SC W G (n+1):=by
 intro A env c aa H ρ s Q E f fa vs us hh hroom hunits Y R hfa hv q
 refine codeAny_mono (Qc (E:=E) g hc hh hroom hunits (env.locals::aa.fs) (R.frames Y) ⟨R.keepB Y,R.objs,R.low,(fun a o e=>by cases z:W.aj.get? a with|none=>rfl|some y=>have:=(R.sep a o e).1;rw[Y.base a y z]at this;cases this),R.gens,R.os,R.up,Y.lo⟩ hfa hv q) fun r s' z=>?_
 have hff:∀ {am:HB},am.fs=env.locals::aa.fs->∀b∈am.fs,b≠env.locals->b∈aa.fs:=fun hfs b m hb=>by rw[hfs]at m;exact(List.mem_cons.mp m).resolve_left hb
 rcases r with e|(v|_|_|_)<;>first|exact False.elim z|skip
 obtain⟨a,H',env',names',ρ',am,hfs,hv',R3,q3,hp⟩:=z
 exact⟨a,H',hv',R.back Y hp (hff hfs) R3,q3⟩
theorem Ad2(g:Jd W G):∀n,SC W G n:=by
 intro n
 induction n with
 | zero=>
   intro A env c aa H ρ s Q E f fa vs us hh hroom hunits Y R hfa hv q
   exact False.elim q
 | succ n ih=>exact U4 g ih
theorem Ad3(g:Jd W G){A:Around}{s:Shared}{Q:Ag}{E:Value->Shared->Prop}{f:Str}{fa:Addr}(hh:A.handled=none)(hroom:A.depth+4*(n+1)+2<recursionLimit)(hunits:A.units+30*(n+1)+40<cLine)
 (hb:s.heap=W.aj) (hg:s.gens = #[]) (ho:s.os=W.os) (lo:sysModules<W.aj.objs.size) (hfa:E6 W f=some fa) (q:Ae G (n+1) f [.script W.sn] (fun _=>none) Q EF) :
 codeAny W.M A (.call (.ref fa) ⟨[.ref W.sa],[]⟩) (fun r s'=>match r with
  | .ok (.ret v)=>((Jy fun a H'=>VR W a v/\Q a H'))/\(∀b o,s.heap.get? b=some o->s'.heap.get? b=some o)/\s'.os=s.os/\s'.gens = #[]
  | .ok _=>False | .error e=>E e s') s:=by
 refine codeAny_mono (Qc (E:=EF) (H:=fun _=>none) (vs:=[.script W.sn]) (us:=[.ref W.sa]) g (Ad2 g n) hh hroom hunits [] (fun _ m=>nomatch m) ⟨fun b o e=>hb▸e,(fun _ _ e=>nomatch e),(fun _ _ e=>nomatch e),(fun _ _ e=>nomatch e),hg,ho,(by rw[hb];exact Nat.le_refl _),lo⟩ hfa (.cons .script .nil) q) fun r s' z=>?_
 refine Aa fun nY=>?_
 rcases r with e|(v|_|_|_)<;>first|exact False.elim z|skip
 obtain⟨a,H',env',names',ρ',am,hfs,hv',R3,q3,hp⟩:=z
 refine nY ?_;clear nY
 exact⟨⟨a,H',hv',q3⟩,fun b o e=>R3.keep.exact (hp b o e rfl) (.inr (by rw[<-hb,e];nofun)),R3.os.trans ho.symm,R3.gens⟩
end Mine.Internal
namespace Mine.Internal
open PySem PySem.W PyProof.Rows
/-! the ground of a program,by a check -/
noncomputable def Wl:Qn->Str
 | .web=> "Web"
 | .verdict=> "Verdict"
noncomputable def Lv(K:Frag)(cc:Qn):Addr:=match nsIn K mainGlobals (Wl cc)with
 | some (some (.ref a))=>a
 | _=>(match nsIn K mainGlobals "Web" with|some (some (.ref a))=>a|_=>0)
noncomputable def Agb(K:Frag)(fa:Addr):Option Fn:=match K.lookup fa with
 | some ⟨.type "function",_,.func fd,_⟩=>(match fd.body with
   | .stmts body=>if codeIn K fd.code fd.qualname&&decide ((fd.params.args.map (·.arg)).Nodup)&&(fd.params.args.map (·.arg)).all (fun x=>fd.scope.names.lookup x==some .local||fd.scope.names.lookup x==some .cell)
      && decide (((cellsFrom 0 fd.scope.names []).map (·.1)).Nodup)&&decide ((B0 fd.params fd.scope).Nodup)&&fd.scope.names.all (fun p=>p.2 != .free)&&fd.globals==mainGlobals&&fd.closure.isEmpty
      && fd.defaults == .none&&fd.kwdefaults == .none&&fd.builtins==builtinsNs then Acw fd.params body fd.scope else none
   | _=>none)
 | _=>none
noncomputable def K4(K:Frag)(cl:Qn->Addr)(f:Str):Option Addr:=
 match Go f with
 | some (cc,m)=>if nsIn K mainGlobals (Wl cc)==some (some (.ref (cl cc)))&&makesIn K (cl cc)then(match findIn K (.ref (cl cc)) m with|some (some (.ref a))=>some a|_=>none)else none
 | none=>(match nsIn K mainGlobals f with|some (some (.ref a))=>some a|_=>none)
noncomputable def gFn(K:Frag)(cl:Qn->Addr)(f:Str):Option Fn:=(K4 K cl f).bind (Agb K)
noncomputable def U5(K:Frag)(x:Str):Option V:=match nsIn K mainGlobals x with
 | some (some (.int i _))=>some (.int i)
 | _=>none
noncomputable def Rb(K:Frag):A2:=⟨gFn K (Lv K),U5 K⟩
theorem Ad4{W:Wd}{fa:Addr}{d:Fn}(h:Agb W.K fa=some d):∃name qual params body scope doc pm cdv ct oc an od osl,Adk W fa d name qual params body scope doc pm cdv ct oc an od osl:=by
 delta Agb at h
 refine Aa fun nY=>?_
 split at h
 ·rename_i od fd osl e
  split at h
  ·rename_i body hb
   split at h
   ·rename_i q
    simp only[Bool.and_eq_true,decide_eq_true_eq,List.all_eq_true,Bool.or_eq_true,beq_iff_eq,bne_iff_ne,List.isEmpty_iff]at q
    obtain⟨⟨⟨⟨⟨⟨⟨⟨⟨⟨q1,q2⟩,q3⟩,q4⟩,q5⟩,q6⟩,q7⟩,q8⟩,q9⟩,q10⟩,q11⟩:=q
    obtain⟨f1,f2,f3,f4,f5,f6,f7,f8,f9,f10,f11,f12,f13,f14,f15⟩:=fd
    simp only at hb q1 q2 q3 q4 q5 q6 q7 q8 q9 q10 q11 h
    subst hb q7 q8 q9 q10 q11
    refine nY ?_;clear nY
    exact⟨f1,f2,f3,body,f5,_,_,_,_,_,_,_,_,⟨e,rfl,q1,h,q2,q3,q4,q5,q6⟩⟩
   ·cases h
  ·cases h
 ·cases h
theorem S9{W:Wd}(hcl:W.cl=Lv W.K){f:Str}{fa:Addr}(h:K4 W.K (Lv W.K) f=some fa):E6 W f=some fa:=by
 delta K4 at h
 delta E6
 rw[hcl]
 split at h
 ·rename_i cc m e
  try rw[e]
  split at h
  ·exact h
  ·cases h
 ·rename_i e
  try rw[e]
  exact h
noncomputable def K5(K:Frag):Bool:=
 Qv K (Lv K .web)&&Qv K (Lv K .verdict)&&I8.all (fun x=>nsIn K mainGlobals x==some none)
theorem Agc{W:Wd}(hcl:W.cl=Lv W.K)(hX:W.K.In W.aj)(hT:(Ex4 fun p loose mg mb=>TopRead p loose mg mb W.aj))(hg:K5 W.K=true):Jd W (Rb W.K):=by
 unfold K5 at hg
 simp only[Bool.and_eq_true,List.all_eq_true,beq_iff_eq]at hg
 refine Aa fun nY=>?_
 obtain⟨⟨h1,h2⟩,h3⟩:=hg
 refine nY ?_;clear nY
 refine⟨hX,hT,?_,h3,?_,?_,?_,?_⟩
 ·rintro cc (rfl|rfl)
  ·rw[hcl];exact Lq h1
  ·rw[hcl];exact Lq h2
 ·intro x v e
  have e':U5 W.K x=some v:=e
  delta U5 at e'
  refine Aa fun nY=>?_
  split at e'
  ·refine nY ?_;clear nY
   rename_i i t q;cases e';exact⟨_,q,.int _ _⟩
  ·cases e'
 ·intro f d e
  have e':gFn W.K (Lv W.K) f=some d:=e
  unfold gFn at e'
  refine Aa fun nY=>?_
  obtain⟨fa,h4,h5⟩:=Option.bind_eq_some_iff.mp e'
  refine nY ?_;clear nY
  exact⟨fa,S9 hcl h4,Ad4 h5⟩
 ·intro cc hcc hs
  have hs':(gFn W.K (Lv W.K) (Dr cc)).isSome=true:=hs
  refine Aa fun nY=>?_
  obtain⟨d,hd⟩:=Option.isSome_iff_exists.mp hs'
  unfold gFn at hd
  obtain⟨fa,h4,h5⟩:=Option.bind_eq_some_iff.mp hd
  delta K4 at h4
  rw[Wh hcc]at h4
  simp only at h4
  split at h4
  ·rename_i q
   simp only[Bool.and_eq_true,beq_iff_eq]at q
   refine nY ?_;clear nY
   rw[hcl]
   refine Aa fun nY=>?_
   rcases hcc with rfl|rfl
   ·refine nY ?_;clear nY
    exact⟨q.1,q.2⟩
   ·refine nY ?_;clear nY
    exact⟨q.1,q.2⟩
  ·cases h4
 ·intro f m fa ho hfa
  refine⟨?_,?_⟩
  ·have:=(Lq h1).get .many
   rw[hcl]
   exact this
  ·intro a q
   have:m∈(["__init__","need","beside","tied","ties"]:List Str):=by
    delta Go at ho
    repeat' split at ho
    all_goals first
     | (cases ho;decide)
     | (cases ho;done)
   subst q
   cases a<;>revert this<;>decide
theorem X1{K:Frag}{cl:Qn->Addr}{f:Str}(ho:Go f=none)(h:(K4 K cl f).isSome=true):∃a,K4 K cl f=some a/\nsIn K mainGlobals f=some (some (.ref a)):=by
 obtain⟨a,ha⟩:=Option.isSome_iff_exists.mp h
 refine⟨a,ha,?_⟩
 delta K4 at ha
 rw[ho]at ha
 simp only at ha
 split at ha
 ·rename_i e;cases ha;exact e
 ·cases ha
theorem Ad5{prog:Program}{w:World}{K:Frag}{ar:Shared}{p:Program}{loose:List Str}{mg mb:Str->Option Value}{fa L:Addr}{items:List Value}{nsL:List Int}{c:ClaimW}{cl:Str->Option Addr}{mean:ExcName->Option Value}{args:List WData}
 (KX:K.In ar.heap) (T:TopRead p loose mg mb ar.heap) (hgr:K5 K=true) (hf:(K4 K (Lv K) "law").isSome=true) (hmg:mg "law" = some (.ref fa)) (hg:ar.gens = #[])
 (hL:ar.heap.IsList L items.toArray) (hI:IntsAre items nsL) (hn:nsL.length<=63) (main:Ae (Rb K) 40 "law" [.script nsL] (fun _=>none) (fun v _=>v = .bool true) EF)
 (hr:∀cls,c.raises args cls=false) (hp:c.post args (.bool true) args=true) :
 wpAny (model prog w) callerA (call (.ref fa) [.ref L]) (fun v s'=>GoodWG c cl mean args ar (.ok (.ret v)) s') (fun e s'=>GoodWG c cl mean args ar (.error e) s') ar:=by
 have hlen:items.length<=Bp:=by
  have:=(Gs (W:=⟨prog,w,K,Lv K,ar.heap,ar.os,L,nsL,⟨items,hL,hI,by
   have:∀ {vs:List Value} {ns:List Int},IntsAre vs ns->vs.length=ns.length:=by
    intro vs ns h;induction h with
    | nil=>rfl
    | cons _ _ _ ih=>simp[ih]
   rw[this hI];simp only[Bp];exact(Af hn (by decide))⟩⟩) hI).length
  simp only[Bk]at this
  rw[<-this];simp only[Bp];exact Af hn (by decide)
 let W:Wd:=⟨prog,w,K,Lv K,ar.heap,ar.os,L,nsL,⟨items,hL,hI,hlen⟩⟩
 refine Aa fun nY=>?_
 obtain⟨a,h1,h2⟩:=X1 (K:=K) (cl:=Lv K) (f:= "law") (by decide) hf
 have h3:=mg_of KX T.g h2
 rw[hmg]at h3
 cases h3
 have gd:Jd W (Rb K):=Agc (W:=W) rfl KX ⟨p,loose,mg,mb,T⟩ hgr
 refine nY ?_;clear nY
 refine wpAny_call (codeAny_mono (Ad3 (W:=W) (G:=Rb K) (n:=39) (E:=fun _ _=>False) (f:= "law") gd rfl (by decide) (by decide) rfl hg rfl (modules_low T.nolimit) (S9 (W:=W) rfl h1) main) fun r s' z=>?_)
 refine Aa fun nY=>?_
 rcases r with e|(v|_|_|_)<;>first|exact z.elim|skip
 obtain⟨⟨av,H',hv,q⟩,hk,ho,hgn⟩:=z
 subst q
 cases hv
 refine nY ?_;clear nY
 exact GoodW.toG ⟨.inl ⟨.bool true,.bool true,[],rfl,hr,.bool true,hp,fun _=>⟨List.nodup_nil,fun _ h=>by cases h⟩⟩,hk,ho,hgn⟩
end Mine.Internal
namespace Mine.Internal.Cl
open PySem
set_option linter.all false
variable {G:A2} {n:Nat} {H:AH} {Q:Ag} {E:EP} {C:CS} {ρ:Ak} {N:Ak->AH->Prop} {R:Ag}
theorem Ch{b:Bool}{Q:Bool->Prop}:truthy (.bool b) Q=Q b:=rfl
theorem Z8{i j:Int}:Bd .Lt (.int i) (.int j) H Q=Q (.bool (decide (i<j))) H:=rfl
theorem Z9{i j:Int}:Bd .LtE (.int i) (.int j) H Q=Q (.bool (decide (i<=j))) H:=rfl
theorem Zba{i j:Int}:Bd .Gt (.int i) (.int j) H Q=Q (.bool (decide (j<i))) H:=rfl
theorem Zbb{i j:Int}:Bd .GtE (.int i) (.int j) H Q=Q (.bool (decide (j<=i))) H:=rfl
theorem X2{i j:Int}:Bd .Eq (.int i) (.int j) H Q=Q (.bool (decide (i=j))) H:=rfl
theorem Zbd{i j:Int}:Bd .NotEq (.int i) (.int j) H Q=Q (.bool (!decide (i=j))) H:=rfl
theorem Zbg:Bd .Is .none .none H Q=Q (.bool true) H:=rfl
theorem Zbh{a}:Bd .Is (.ref a) .none H Q=Q (.bool false) H:=rfl
theorem Zbi:Bd .IsNot .none .none H Q=Q (.bool false) H:=rfl
theorem Zbj{a}:Bd .IsNot (.ref a) .none H Q=Q (.bool true) H:=rfl
theorem Z6{i j:Int}:Ek .Add (.int i) (.int j) H Q=Q (.int (i+j)) H:=rfl
theorem Z7{i j:Int}:Ek .Sub (.int i) (.int j) H Q=Q (.int (i-j)) H:=rfl
theorem Abf{i j:Int}:Ek .Mult (.int i) (.int j) H Q=((i.natAbs<2 ^ 64\/j.natAbs<2 ^ 64)/\Q (.int (i*j)) H):=rfl
theorem Z4{i j:Int}(h:0<j)(h':j<=10 ^ 30):Ek .Mod (.int i) (.int j) H Q=Q (.int (i%j)) H:=by
 show ((j≠0/\j.natAbs<=10 ^ 30)/\Q (.int (i.fmod j)) H)=_
 rw[Int.fmod_eq_emod_of_nonneg _ (Q0 h)]
 exact propext ⟨fun h=>h.2,fun q=>⟨⟨(Int.ne_of_gt h),(Q2 h h')⟩,q⟩⟩
theorem Z5{i j:Int}(h:0<j)(h':j<=10 ^ 30):Ek .FloorDiv (.int i) (.int j) H Q=Q (.int (i/j)) H:=by
 show ((j≠0/\j.natAbs<=10 ^ 30)/\Q (.int (i.fdiv j)) H)=_
 rw[Int.fdiv_eq_ediv_of_nonneg _ (Q0 h)]
 exact propext ⟨fun h=>h.2,fun q=>⟨⟨(Int.ne_of_gt h),(Q2 h h')⟩,q⟩⟩
theorem Zbn{ns:List Int}:Db .len [.script ns] H Q=Q (.int ns.length) H:=rfl
theorem Zbl{i j:Int}:Db .max [.int i,.int j] H Q=Q (.int (max i j)) H:=rfl
theorem Zbm{i j:Int}:Db .min [.int i,.int j] H Q=Q (.int (min i j)) H:=rfl
theorem Z2:Dc 1 = .one 0:=rfl
theorem Zbq{i:Int}(h0: -1048576<=i)(h1:i<=1048576):Db .listRange [.int i] H Q=Au (.list ((List.range i.toNat).map fun(i:Nat)=>V.int i)) H Q:=
 propext ⟨fun h=>h.2,fun h=>⟨⟨h0,h1⟩,h⟩⟩
theorem Zbr{i j:Int}(h0:0<=i)(h1:i<=1048576)(h2: -1048576<=j)(h3:j<=1048576):Db .listRange [.int i,.int j] H Q=Au (.list ((List.range (j-i).toNat).map fun(k:Nat)=>V.int (i+k))) H Q:=
 propext ⟨fun h=>h.2,fun h=>⟨⟨h0,h1,h2,h3⟩,h⟩⟩
theorem Qd{i:Int}{K:List It->(AH->Prop)->AH->Prop}(h0: -1048576<=i)(h1:i<=1048576):Fk [.int i] H K=K ((List.range i.toNat).map fun(i:Nat)=> .v (.int i)) (fun _=>True) H:=
 propext ⟨fun h=>h.2,fun h=>⟨⟨h0,h1⟩,h⟩⟩
theorem Gw{i:Int}{K:List It->(AH->Prop)->AH->Prop}(h0: -1048576<=i)(h1:i<=1048576)(kk:K ((List.range i.toNat).map fun(i:Nat)=> .v (.int i)) (fun _=>True) H):Fk [.int i] H K:=Eq.mpr (Qd h0 h1) kk
theorem Cm{a:Nat}{xs:List V}(h:H a=some (.list xs)):Db .len [.ref a] H Q=Q (.int xs.length) H:=by delta Db;dsimp only;(first|delta L1|delta H5|delta G1|delta L3);(try dsimp only[A1,Ar,Ry,M4,Rr]);rw[h];(try dsimp only[Gh,Tx])
theorem Ad7{a:Nat}{xs:List V}(h:H a=some (.list xs))(kk:Q (.int xs.length) H):Db .len [.ref a] H Q:=Eq.mpr (Cm h) kk
theorem Age{a:Nat}{xs:List V}(h:H a=some (.tuple xs)):Db .len [.ref a] H Q=Q (.int xs.length) H:=by delta Db;dsimp only;(first|delta L1|delta H5|delta G1|delta L3);(try dsimp only[A1,Ar,Ry,M4,Rr]);rw[h];(try dsimp only[Gh,Tx])
theorem A9{a:Nat}{xs:List V}{k:Int}{x:V}(h:H a=some (.list xs))(h0:0<=k)(hx:xs[k.toNat]? = some x):C3 (.ref a) (.int k) H Q=Q x H:=by
 have hlt:=(Da hx).1
 have:C0 k xs.length=some k.toNat:=by delta C0;rw[if_pos h0,if_pos (Q3 hlt)]
 delta C3;(try dsimp only[Ar]);rw[h];(try dsimp only);rw[this];(try dsimp only[Ff]);rw[hx]
theorem Fy{a:Nat}{xs:List V}{k:Int}{x:V}(h:H a=some (.list xs))(h0:0<=k)(hx:xs[k.toNat]? = some x)(kk:Q x H):C3 (.ref a) (.int k) H Q:=Eq.mpr (A9 h h0 hx) kk
theorem Iw{a:Nat}{xs:List V}{k:Int}{x:V}(h:H a=some (.tuple xs))(h0:0<=k)(hx:xs[k.toNat]? = some x):C3 (.ref a) (.int k) H Q=Q x H:=by
 have hlt:=(Da hx).1
 have:C0 k xs.length=some k.toNat:=by delta C0;rw[if_pos h0,if_pos (Q3 hlt)]
 delta C3;(try dsimp only[Ar]);rw[h];(try dsimp only);rw[this];(try dsimp only[Ff]);rw[hx]
theorem Fz{a:Nat}{xs:List V}{k:Int}{x:V}(h:H a=some (.tuple xs))(h0:0<=k)(hx:xs[k.toNat]? = some x)(kk:Q x H):C3 (.ref a) (.int k) H Q:=Eq.mpr (Iw h h0 hx) kk
theorem Bq{a:Nat}{xs:List V}{v:V}(h:H a=some (.list xs))(hl:xs.length<1048576):E0 .append (.ref a) [v] H Q=Q .none (upd H a (.list (xs ++ [v]))):=by
 delta E0;dsimp only;(first|delta Dx|delta F3|delta Dy|delta F4|delta Dz|delta C4|delta Bt);(try dsimp only[A1,Ar,Ry,M4,Rr]);rw[h];(try dsimp only[Gh,Tx]);exact propext ⟨fun h=>h.2,fun q=>⟨hl,q⟩⟩
theorem Gx{a:Nat}{xs:List V}{v:V}(h:H a=some (.list xs))(hl:xs.length<1048576)(kk:Q .none (upd H a (.list (xs ++ [v])))):E0 .append (.ref a) [v] H Q:=Eq.mpr (Bq h hl) kk
theorem A8{a:Nat}{xs:List V}{m:LM}(h:H a=some (.list xs))(hm:m≠ .setdefault):F5 m (.ref a) H=True:=by
 cases m<;>first|exact absurd rfl hm|(delta F5;dsimp only[A1];rw[h];exact propext ⟨fun _=>trivial,fun _=>trivial⟩)
theorem Agf{a:Nat}{xs:List V}{K:List It->(AH->Prop)->AH->Prop}(h:H a=some (.list xs)):Gi (.ref a) H K=K (xs.map .v) (fun H'=>H' a=some (.list xs)) H:=by delta Gi;(try dsimp only[A1]);rw[h]
theorem Aq{a:Nat}{xs:List V}{K:List It->(AH->Prop)->AH->Prop}(h:H a=some (.list xs))(kk:K (xs.map .v) (fun H'=>H' a=some (.list xs)) H):Gi (.ref a) H K:=Eq.mpr (Agf h) kk
theorem Ad8{a:Nat}{xs:List V}{K:List It->(AH->Prop)->AH->Prop}(h:H a=some (.list xs)):Lk (.ref a) H K=K (xs.mapIdx fun i x=> .pair (.int i) x) (fun H'=>H' a=some (.list xs)) H:=by delta Lk;(try dsimp only[A1]);rw[h];rfl
theorem K6{a:Nat}{xs:List V}{K:List It->(AH->Prop)->AH->Prop}(h:H a=some (.list xs))(kk:K (xs.mapIdx fun i x=> .pair (.int i) x) (fun H'=>H' a=some (.list xs)) H):Lk (.ref a) H K:=Eq.mpr (Ad8 h) kk
theorem Agg{a:Nat}{xs:List V}{K:List It->(AH->Prop)->AH->Prop}(h:H a=some (.list xs)):Pp (.ref a) H K=K (xs.reverse.map .v) (fun H'=>H' a=some (.list xs)) H:=by delta Pp;(try dsimp only[A1]);rw[h];rfl
theorem Ad9{a:Nat}{xs:List V}{K:List It->(AH->Prop)->AH->Prop}(h:H a=some (.list xs))(kk:K (xs.reverse.map .v) (fun H'=>H' a=some (.list xs)) H):Pp (.ref a) H K:=Eq.mpr (Agg h) kk
theorem Ai{α:Type}{a:α}{l:List α}:(a::l)[0]? = some a:=rfl
theorem Am{α:Type}{a:α}{l:List α}{i:Nat}:(a::l)[i+1]? = l[i]?:=rfl
theorem Eg{α:Type}{a:α}{l m:List α}:(a::l)++m=a::(l++m):=rfl
theorem Eh{α:Type}{l:List α}:[]++l=l:=rfl
theorem B6{α:Type}{a b:α}{l:List α}{i:Nat}:(a::l).set (i+1) b=a::l.set i b:=rfl
theorem B7{α:Type}{a b:α}{l:List α}:(a::l).set 0 b=b::l:=rfl
theorem C9{α:Type}{a:α}:(some a).isSome=true:=rfl
theorem Aj{f:Str}{d:Fn}{args:List V}(h:G.fn f=some d)(ha:d.arity=args.length)
 (q:Bh G (Ae G n) d.body (args.map some++List.replicate (d.slots-d.arity) none) H (fun _ H=>Q .none H) Q E):Ae G (n+1) f args H Q E:=by
 show (match G.fn f with|some d=>_|none=>False)
 rw[h]
 exact⟨ha,q⟩
theorem Bm{t:X}{a b:List S}(c:Bool)(h:∀Q':Ag,Q' (.bool c) H->Aw G C t ρ H Q' E)(q:if c then Bh G C a ρ H N R E else Bh G C b ρ H N R E):wpS G C (.ite t a b) ρ H N R E:=by
 refine Bv ?_
 exact h _ q
set_option linter.all false
variable {G:A2} {n:Nat} {H H':AH} {Q:Ag} {E:EP} {C:CS} {ρ:Ak}
noncomputable def Al(H H':AH):Prop:=∀a o,H a=some o->H' a=some o
theorem Al.refl:Al H H:=fun _ _ e=>e
theorem Al.trans{H'':AH}(h:Al H H')(h':Al H' H''):Al H H'':=fun a o e=>h' a o (h a o e)
theorem Ac{a:Nat}{o:O}:upd H a o a=some o:=by simp[upd]
theorem upd_ne{a b:Nat}{o:O}(h:b≠a):upd H a o b=H b:=if_neg h
theorem Al.upd{a:Nat}{o:O}(h:H a=none):Al H (upd H a o):=fun b o' e=>by
 rw[upd_ne];exact e
 rintro rfl;rw[h]at e;cases e
theorem Al.isNone(h:Al H H'){a:Nat}(e:H' a=none):H a=none:=by
 cases q:H a with
 | none=>rfl
 | some o=>rw[h a o q]at e;cases e
theorem Al.upd'{a:Nat}{o:O}(h:Al H H')(e:H a=none):Al H (Mine.Internal.upd H' a o):=fun b o' q=>by
 rw[upd_ne];exact h b o' q
 rintro rfl;rw[e]at q;cases q
noncomputable def LI(H:AH)(a:Nat)(l:List Int):Prop:=H a=some (.list (l.map V.int))
theorem LI.ext{a:Nat}{l:List Int}(h:LI H a l)(e:Al H H'):LI H' a l:=e _ _ h
noncomputable def D8(H:AH)(as:List Nat)(rows:List (List Int)):Prop:=as.length=rows.length/\∀(i x:Nat) (r:List Int),as[i]? = some x->rows[i]? = some r->LI H x r
theorem D8.ext{as:List Nat}{rows:List (List Int)}(h:D8 H as rows)(e:Al H H'):D8 H' as rows:=⟨h.1,fun i x r h1 h2=>(h.2 i x r h1 h2).ext e⟩
theorem D8.snoc{as:List Nat}{rows:List (List Int)}{x:Nat}{r:List Int}(h:D8 H as rows)(hx:LI H x r):D8 H (as ++ [x]) (rows ++ [r]):=by
 refine⟨by simp[h.1],fun i y r' h1 h2=>?_⟩
 cases Nat.lt_or_ge i as.length with
 | inl q=>
   rw[List.getElem?_append_left q]at h1
   rw[List.getElem?_append_left (by rw[<-h.1];exact q)]at h2
   exact h.2 i y r' h1 h2
 | inr q=>
   rw[List.getElem?_append_right q]at h1
   rw[List.getElem?_append_right (by rw[<-h.1];exact q)]at h2
   have:i-as.length=0:=by
    obtain⟨z,_⟩:=Da h1
    simp at z;exact z
   rw[this]at h1
   rw[<-h.1,this]at h2
   simp at h1 h2
   subst h1 h2
   exact hx
theorem Ix{g:AH->Prop}{t:Rw}{body:Ak->AH->(Ak->AH->Prop)->Prop}{N:Ak->AH->Prop}(I:Nat->Ak->AH->Prop):∀ {its:List It} {k:Nat} {ρ:Ak} {H:AH},I k ρ H->
 (∀i x ρ H K,its[i]? = some x->I (k+i) ρ H->(∀ρ'' H'',I (k+i+1) ρ'' H''->K ρ'' H'')->g H/\Kb t x ρ H fun ρ'=>body ρ' H K)->(∀ρ H,I (k+its.length) ρ H->g H/\N ρ H)->Cv g t body N its ρ H:=by
 intro its
 induction its with
 | nil=>intro k ρ H h0 _ fin;exact fin ρ H h0
 | cons x r ih=>
   intro k ρ H h0 step fin
   refine step 0 x ρ H _ rfl h0 fun ρ'' H'' h1=>?_
   refine ih (k:=k+1) h1 (fun i y ρ H K hy hI hK=>?_) fun ρ H hI=>?_
   ·refine step (i+1) y ρ H K hy (by rwa[show k+(i+1)=k+1+i by exact Q5]) fun ρ'' H'' h=>hK ρ'' H'' ?_
    rwa[show k+1+i+1=k+(i+1)+1 by exact Q6]
   ·exact fin ρ H (by rwa[List.length_cons,show k+(r.length+1)=k+1+r.length by exact Q5])
theorem U6{m:Nat}{a:Int}{t:Nat}{body:Ak->AH->(Ak->AH->Prop)->Prop}{N:Ak->AH->Prop}(I:Nat->Ak->AH->Prop)(h0:I 0 ρ H)
 (step:∀i ρ H K,i<m->I i ρ H->(∀ρ'' H'',I (i+1) ρ'' H''->K ρ'' H'')->body (ρ.set t (some (.int (a+i)))) H K) (fin:∀ρ H,I m ρ H->N ρ H) :
 Cv (fun _=>True) (.one t) body N ((List.range m).map fun(i:Nat)=> .v (.int (a+i))) ρ H:=by
 refine Ix (k:=0) I h0 (fun i x ρ H K hx hI hK=>⟨trivial,?_⟩) fun ρ H hI=>⟨trivial,fin ρ H (by simpa using hI)⟩
 rw[List.getElem?_map]at hx
 obtain⟨j,hj,rfl⟩:=Option.map_eq_some_iff.mp hx
 obtain⟨hlt,he⟩:=Da hj
 simp at hlt he
 subst he
 exact step i ρ H K hlt (by simpa using hI) fun ρ'' H'' h=>hK ρ'' H'' (by simpa using h)
theorem Iy{m:Nat}{t:Nat}{body:Ak->AH->(Ak->AH->Prop)->Prop}{N:Ak->AH->Prop}(I:Nat->Ak->AH->Prop)(h0:I 0 ρ H)
 (step:∀i ρ H K,i<m->I i ρ H->(∀ρ'' H'',I (i+1) ρ'' H''->K ρ'' H'')->body (ρ.set t (some (.int i))) H K) (fin:∀ρ H,I m ρ H->N ρ H) :
 Cv (fun _=>True) (.one t) body N ((List.range m).map fun(i:Nat)=> .v (.int i)) ρ H:=by
 have:=U6 (a:=0) (t:=t) (body:=body) (N:=N) I h0 (fun i ρ H K hi hI hK=>by simpa using step i ρ H K hi hI hK) fin
 simpa using this
theorem Bs{α0:Type}{m:Nat}{t:Nat}{body:Ak->AH->(Ak->AH->Prop)->Prop}{N:Ak->AH->Prop}(f:Nat->α0->Ak)(T:Nat->α0->AH->Prop)(x0:α0)(hρ:ρ=f 0 x0)(h0:T 0 x0 H)(step:∀i y0 H K,i<m->T i y0 H->(∀z0 H'',T (i+1) z0 H''->K (f (i+1) z0) H'')->body ((f i y0).set t (some (.int i))) H K)(fin:∀x0 H,T m x0 H->N (f m x0) H):Cv (fun _=>True) (.one t) body N ((List.range m).map fun(i:Nat)=> .v (.int i)) ρ H:=by
 refine Iy (fun i ρ H=>∃x0,ρ=f i x0/\T i x0 H) ⟨x0,hρ,h0⟩ (fun i _ H K hx h hK=>?_) fun _ H h=>?_
 ·obtain⟨y0,rfl,h⟩:=h;exact step i y0 H K hx h fun z0 H'' h'=>hK _ _ ⟨z0,rfl,h'⟩
 ·obtain⟨x0,rfl,h⟩:=h;exact fin _ _ h
theorem Jv{α0 α1:Type}{m:Nat}{t:Nat}{body:Ak->AH->(Ak->AH->Prop)->Prop}{N:Ak->AH->Prop}(f:Nat->α0->α1->Ak)(T:Nat->α0->α1->AH->Prop)(x0:α0)(x1:α1)(hρ:ρ=f 0 x0 x1)(h0:T 0 x0 x1 H)(step:∀i y0 y1 H K,i<m->T i y0 y1 H->(∀z0 z1 H'',T (i+1) z0 z1 H''->K (f (i+1) z0 z1) H'')->body ((f i y0 y1).set t (some (.int i))) H K)(fin:∀x0 x1 H,T m x0 x1 H->N (f m x0 x1) H):Cv (fun _=>True) (.one t) body N ((List.range m).map fun(i:Nat)=> .v (.int i)) ρ H:=
 Bs (fun i p=>f i p.1 p.2) (fun i p=>T i p.1 p.2) (x0,x1) hρ h0 (fun i p H K hx h hK=>step i p.1 p.2 H K hx h fun z0 z1 H' h'=>hK (z0,z1) H' h') fun p=>fin p.1 p.2
theorem Jw{α0 α1 α2:Type}{m:Nat}{t:Nat}{body:Ak->AH->(Ak->AH->Prop)->Prop}{N:Ak->AH->Prop}(f:Nat->α0->α1->α2->Ak)(T:Nat->α0->α1->α2->AH->Prop)(x0:α0)(x1:α1)(x2:α2)(hρ:ρ=f 0 x0 x1 x2)(h0:T 0 x0 x1 x2 H)(step:∀i y0 y1 y2 H K,i<m->T i y0 y1 y2 H->(∀z0 z1 z2 H'',T (i+1) z0 z1 z2 H''->K (f (i+1) z0 z1 z2) H'')->body ((f i y0 y1 y2).set t (some (.int i))) H K)(fin:∀x0 x1 x2 H,T m x0 x1 x2 H->N (f m x0 x1 x2) H):Cv (fun _=>True) (.one t) body N ((List.range m).map fun(i:Nat)=> .v (.int i)) ρ H:=
 Bs (fun i p=>f i p.1 p.2.1 p.2.2) (fun i p=>T i p.1 p.2.1 p.2.2) (x0,x1,x2) hρ h0 (fun i p H K hx h hK=>step i p.1 p.2.1 p.2.2 H K hx h fun z0 z1 z2 H' h'=>hK (z0,z1,z2) H' h') fun p=>fin p.1 p.2.1 p.2.2
theorem Gc{α0 α1 α2 α3:Type}{m:Nat}{t:Nat}{body:Ak->AH->(Ak->AH->Prop)->Prop}{N:Ak->AH->Prop}(f:Nat->α0->α1->α2->α3->Ak)(T:Nat->α0->α1->α2->α3->AH->Prop)(x0:α0)(x1:α1)(x2:α2)(x3:α3)(hρ:ρ=f 0 x0 x1 x2 x3)(h0:T 0 x0 x1 x2 x3 H)(step:∀i y0 y1 y2 y3 H K,i<m->T i y0 y1 y2 y3 H->(∀z0 z1 z2 z3 H'',T (i+1) z0 z1 z2 z3 H''->K (f (i+1) z0 z1 z2 z3) H'')->body ((f i y0 y1 y2 y3).set t (some (.int i))) H K)(fin:∀x0 x1 x2 x3 H,T m x0 x1 x2 x3 H->N (f m x0 x1 x2 x3) H):Cv (fun _=>True) (.one t) body N ((List.range m).map fun(i:Nat)=> .v (.int i)) ρ H:=
 Bs (fun i p=>f i p.1 p.2.1 p.2.2.1 p.2.2.2) (fun i p=>T i p.1 p.2.1 p.2.2.1 p.2.2.2) (x0,x1,x2,x3) hρ h0 (fun i p H K hx h hK=>step i p.1 p.2.1 p.2.2.1 p.2.2.2 H K hx h fun z0 z1 z2 z3 H' h'=>hK (z0,z1,z2,z3) H' h') fun p=>fin p.1 p.2.1 p.2.2.1 p.2.2.2
theorem Pe{α0 α1 α2 α3 α4:Type}{m:Nat}{t:Nat}{body:Ak->AH->(Ak->AH->Prop)->Prop}{N:Ak->AH->Prop}(f:Nat->α0->α1->α2->α3->α4->Ak)(T:Nat->α0->α1->α2->α3->α4->AH->Prop)(x0:α0)(x1:α1)(x2:α2)(x3:α3)(x4:α4)(hρ:ρ=f 0 x0 x1 x2 x3 x4)(h0:T 0 x0 x1 x2 x3 x4 H)(step:∀i y0 y1 y2 y3 y4 H K,i<m->T i y0 y1 y2 y3 y4 H->(∀z0 z1 z2 z3 z4 H'',T (i+1) z0 z1 z2 z3 z4 H''->K (f (i+1) z0 z1 z2 z3 z4) H'')->body ((f i y0 y1 y2 y3 y4).set t (some (.int i))) H K)(fin:∀x0 x1 x2 x3 x4 H,T m x0 x1 x2 x3 x4 H->N (f m x0 x1 x2 x3 x4) H):Cv (fun _=>True) (.one t) body N ((List.range m).map fun(i:Nat)=> .v (.int i)) ρ H:=
 Bs (fun i p=>f i p.1 p.2.1 p.2.2.1 p.2.2.2.1 p.2.2.2.2) (fun i p=>T i p.1 p.2.1 p.2.2.1 p.2.2.2.1 p.2.2.2.2) (x0,x1,x2,x3,x4) hρ h0 (fun i p H K hx h hK=>step i p.1 p.2.1 p.2.2.1 p.2.2.2.1 p.2.2.2.2 H K hx h fun z0 z1 z2 z3 z4 H' h'=>hK (z0,z1,z2,z3,z4) H' h') fun p=>fin p.1 p.2.1 p.2.2.1 p.2.2.2.1 p.2.2.2.2
theorem Pf{α0 α1 α2 α3 α4 α5:Type}{m:Nat}{t:Nat}{body:Ak->AH->(Ak->AH->Prop)->Prop}{N:Ak->AH->Prop}(f:Nat->α0->α1->α2->α3->α4->α5->Ak)(T:Nat->α0->α1->α2->α3->α4->α5->AH->Prop)(x0:α0)(x1:α1)(x2:α2)(x3:α3)(x4:α4)(x5:α5)(hρ:ρ=f 0 x0 x1 x2 x3 x4 x5)(h0:T 0 x0 x1 x2 x3 x4 x5 H)(step:∀i y0 y1 y2 y3 y4 y5 H K,i<m->T i y0 y1 y2 y3 y4 y5 H->(∀z0 z1 z2 z3 z4 z5 H'',T (i+1) z0 z1 z2 z3 z4 z5 H''->K (f (i+1) z0 z1 z2 z3 z4 z5) H'')->body ((f i y0 y1 y2 y3 y4 y5).set t (some (.int i))) H K)(fin:∀x0 x1 x2 x3 x4 x5 H,T m x0 x1 x2 x3 x4 x5 H->N (f m x0 x1 x2 x3 x4 x5) H):Cv (fun _=>True) (.one t) body N ((List.range m).map fun(i:Nat)=> .v (.int i)) ρ H:=
 Bs (fun i p=>f i p.1 p.2.1 p.2.2.1 p.2.2.2.1 p.2.2.2.2.1 p.2.2.2.2.2) (fun i p=>T i p.1 p.2.1 p.2.2.1 p.2.2.2.1 p.2.2.2.2.1 p.2.2.2.2.2) (x0,x1,x2,x3,x4,x5) hρ h0 (fun i p H K hx h hK=>step i p.1 p.2.1 p.2.2.1 p.2.2.2.1 p.2.2.2.2.1 p.2.2.2.2.2 H K hx h fun z0 z1 z2 z3 z4 z5 H' h'=>hK (z0,z1,z2,z3,z4,z5) H' h') fun p=>fin p.1 p.2.1 p.2.2.1 p.2.2.2.1 p.2.2.2.2.1 p.2.2.2.2.2
theorem Pg{α0 α1 α2 α3 α4 α5 α6 α7:Type}{m:Nat}{t:Nat}{body:Ak->AH->(Ak->AH->Prop)->Prop}{N:Ak->AH->Prop}(f:Nat->α0->α1->α2->α3->α4->α5->α6->α7->Ak)(T:Nat->α0->α1->α2->α3->α4->α5->α6->α7->AH->Prop)(x0:α0)(x1:α1)(x2:α2)(x3:α3)(x4:α4)(x5:α5)(x6:α6)(x7:α7)(hρ:ρ=f 0 x0 x1 x2 x3 x4 x5 x6 x7)(h0:T 0 x0 x1 x2 x3 x4 x5 x6 x7 H)(step:∀i y0 y1 y2 y3 y4 y5 y6 y7 H K,i<m->T i y0 y1 y2 y3 y4 y5 y6 y7 H->(∀z0 z1 z2 z3 z4 z5 z6 z7 H'',T (i+1) z0 z1 z2 z3 z4 z5 z6 z7 H''->K (f (i+1) z0 z1 z2 z3 z4 z5 z6 z7) H'')->body ((f i y0 y1 y2 y3 y4 y5 y6 y7).set t (some (.int i))) H K)(fin:∀x0 x1 x2 x3 x4 x5 x6 x7 H,T m x0 x1 x2 x3 x4 x5 x6 x7 H->N (f m x0 x1 x2 x3 x4 x5 x6 x7) H):Cv (fun _=>True) (.one t) body N ((List.range m).map fun(i:Nat)=> .v (.int i)) ρ H:=
 Bs (fun i p=>f i p.1 p.2.1 p.2.2.1 p.2.2.2.1 p.2.2.2.2.1 p.2.2.2.2.2.1 p.2.2.2.2.2.2.1 p.2.2.2.2.2.2.2) (fun i p=>T i p.1 p.2.1 p.2.2.1 p.2.2.2.1 p.2.2.2.2.1 p.2.2.2.2.2.1 p.2.2.2.2.2.2.1 p.2.2.2.2.2.2.2) (x0,x1,x2,x3,x4,x5,x6,x7) hρ h0 (fun i p H K hx h hK=>step i p.1 p.2.1 p.2.2.1 p.2.2.2.1 p.2.2.2.2.1 p.2.2.2.2.2.1 p.2.2.2.2.2.2.1 p.2.2.2.2.2.2.2 H K hx h fun z0 z1 z2 z3 z4 z5 z6 z7 H' h'=>hK (z0,z1,z2,z3,z4,z5,z6,z7) H' h') fun p=>fin p.1 p.2.1 p.2.2.1 p.2.2.2.1 p.2.2.2.2.1 p.2.2.2.2.2.1 p.2.2.2.2.2.2.1 p.2.2.2.2.2.2.2
theorem I9{a:Nat}{xs:List V}{t:Nat}{body:Ak->AH->(Ak->AH->Prop)->Prop}{N:Ak->AH->Prop}(I:Nat->Ak->AH->Prop)(h0:I 0 ρ H)(hg:∀i ρ H,I i ρ H->H a=some (.list xs))
 (step:∀i x ρ H K,xs[i]? = some x->I i ρ H->(∀ρ'' H'',I (i+1) ρ'' H''->K ρ'' H'')->body (ρ.set t (some x)) H K) (fin:∀ρ H,I xs.length ρ H->N ρ H) :
 Cv (fun H=>H a=some (.list xs)) (.one t) body N (xs.map .v) ρ H:=by
 refine Ix (k:=0) I h0 (fun i x ρ H K hx hI hK=>⟨hg _ _ _ hI,?_⟩) fun ρ H hI=>⟨hg _ _ _ hI,fin ρ H (by simpa using hI)⟩
 rw[List.getElem?_map]at hx
 obtain⟨j,hj,rfl⟩:=Option.map_eq_some_iff.mp hx
 exact step i j ρ H K hj (by simpa using hI) fun ρ'' H'' h=>hK ρ'' H'' (by simpa using h)
theorem Cs{α0:Type}{a:Nat}{xs:List V}{t:Nat}{body:Ak->AH->(Ak->AH->Prop)->Prop}{N:Ak->AH->Prop}(f:Nat->α0->Ak)(T:Nat->α0->AH->Prop)(x0:α0)(hρ:ρ=f 0 x0)(h0:T 0 x0 H)(hg:∀i x0 H,T i x0 H->H a=some (.list xs))(step:∀i x y0 H K,xs[i]? = some x->T i y0 H->(∀z0 H'',T (i+1) z0 H''->K (f (i+1) z0) H'')->body ((f i y0).set t (some x)) H K)(fin:∀x0 H,T xs.length x0 H->N (f xs.length x0) H):Cv (fun H=>H a=some (.list xs)) (.one t) body N (xs.map .v) ρ H:=by
 refine I9 (fun i ρ H=>∃x0,ρ=f i x0/\T i x0 H) ⟨x0,hρ,h0⟩ (fun i _ H h=>?_) (fun i x _ H K hx h hK=>?_) fun _ H h=>?_
 ·obtain⟨x0,_,h⟩:=h;exact hg _ _ _ h
 ·obtain⟨y0,rfl,h⟩:=h;exact step i x y0 H K hx h fun z0 H'' h'=>hK _ _ ⟨z0,rfl,h'⟩
 ·obtain⟨x0,rfl,h⟩:=h;exact fin _ _ h
theorem F0{α0 α1:Type}{a:Nat}{xs:List V}{t:Nat}{body:Ak->AH->(Ak->AH->Prop)->Prop}{N:Ak->AH->Prop}(f:Nat->α0->α1->Ak)(T:Nat->α0->α1->AH->Prop)(x0:α0)(x1:α1)(hρ:ρ=f 0 x0 x1)(h0:T 0 x0 x1 H)(hg:∀i x0 x1 H,T i x0 x1 H->H a=some (.list xs))(step:∀i x y0 y1 H K,xs[i]? = some x->T i y0 y1 H->(∀z0 z1 H'',T (i+1) z0 z1 H''->K (f (i+1) z0 z1) H'')->body ((f i y0 y1).set t (some x)) H K)(fin:∀x0 x1 H,T xs.length x0 x1 H->N (f xs.length x0 x1) H):Cv (fun H=>H a=some (.list xs)) (.one t) body N (xs.map .v) ρ H:=
 Cs (fun i p=>f i p.1 p.2) (fun i p=>T i p.1 p.2) (x0,x1) hρ h0 (fun i p=>hg i p.1 p.2) (fun i x p H K hx h hK=>step i x p.1 p.2 H K hx h fun z0 z1 H' h'=>hK (z0,z1) H' h') fun p=>fin p.1 p.2
theorem D9{α0 α1 α2:Type}{a:Nat}{xs:List V}{t:Nat}{body:Ak->AH->(Ak->AH->Prop)->Prop}{N:Ak->AH->Prop}(f:Nat->α0->α1->α2->Ak)(T:Nat->α0->α1->α2->AH->Prop)(x0:α0)(x1:α1)(x2:α2)(hρ:ρ=f 0 x0 x1 x2)(h0:T 0 x0 x1 x2 H)(hg:∀i x0 x1 x2 H,T i x0 x1 x2 H->H a=some (.list xs))(step:∀i x y0 y1 y2 H K,xs[i]? = some x->T i y0 y1 y2 H->(∀z0 z1 z2 H'',T (i+1) z0 z1 z2 H''->K (f (i+1) z0 z1 z2) H'')->body ((f i y0 y1 y2).set t (some x)) H K)(fin:∀x0 x1 x2 H,T xs.length x0 x1 x2 H->N (f xs.length x0 x1 x2) H):Cv (fun H=>H a=some (.list xs)) (.one t) body N (xs.map .v) ρ H:=
 Cs (fun i p=>f i p.1 p.2.1 p.2.2) (fun i p=>T i p.1 p.2.1 p.2.2) (x0,x1,x2) hρ h0 (fun i p=>hg i p.1 p.2.1 p.2.2) (fun i x p H K hx h hK=>step i x p.1 p.2.1 p.2.2 H K hx h fun z0 z1 z2 H' h'=>hK (z0,z1,z2) H' h') fun p=>fin p.1 p.2.1 p.2.2
theorem Ms{α0 α1 α2 α3:Type}{a:Nat}{xs:List V}{t:Nat}{body:Ak->AH->(Ak->AH->Prop)->Prop}{N:Ak->AH->Prop}(f:Nat->α0->α1->α2->α3->Ak)(T:Nat->α0->α1->α2->α3->AH->Prop)(x0:α0)(x1:α1)(x2:α2)(x3:α3)(hρ:ρ=f 0 x0 x1 x2 x3)(h0:T 0 x0 x1 x2 x3 H)(hg:∀i x0 x1 x2 x3 H,T i x0 x1 x2 x3 H->H a=some (.list xs))(step:∀i x y0 y1 y2 y3 H K,xs[i]? = some x->T i y0 y1 y2 y3 H->(∀z0 z1 z2 z3 H'',T (i+1) z0 z1 z2 z3 H''->K (f (i+1) z0 z1 z2 z3) H'')->body ((f i y0 y1 y2 y3).set t (some x)) H K)(fin:∀x0 x1 x2 x3 H,T xs.length x0 x1 x2 x3 H->N (f xs.length x0 x1 x2 x3) H):Cv (fun H=>H a=some (.list xs)) (.one t) body N (xs.map .v) ρ H:=
 Cs (fun i p=>f i p.1 p.2.1 p.2.2.1 p.2.2.2) (fun i p=>T i p.1 p.2.1 p.2.2.1 p.2.2.2) (x0,x1,x2,x3) hρ h0 (fun i p=>hg i p.1 p.2.1 p.2.2.1 p.2.2.2) (fun i x p H K hx h hK=>step i x p.1 p.2.1 p.2.2.1 p.2.2.2 H K hx h fun z0 z1 z2 z3 H' h'=>hK (z0,z1,z2,z3) H' h') fun p=>fin p.1 p.2.1 p.2.2.1 p.2.2.2
theorem Ta{α0 α1 α2 α3 α4:Type}{a:Nat}{xs:List V}{t:Nat}{body:Ak->AH->(Ak->AH->Prop)->Prop}{N:Ak->AH->Prop}(f:Nat->α0->α1->α2->α3->α4->Ak)(T:Nat->α0->α1->α2->α3->α4->AH->Prop)(x0:α0)(x1:α1)(x2:α2)(x3:α3)(x4:α4)(hρ:ρ=f 0 x0 x1 x2 x3 x4)(h0:T 0 x0 x1 x2 x3 x4 H)(hg:∀i x0 x1 x2 x3 x4 H,T i x0 x1 x2 x3 x4 H->H a=some (.list xs))(step:∀i x y0 y1 y2 y3 y4 H K,xs[i]? = some x->T i y0 y1 y2 y3 y4 H->(∀z0 z1 z2 z3 z4 H'',T (i+1) z0 z1 z2 z3 z4 H''->K (f (i+1) z0 z1 z2 z3 z4) H'')->body ((f i y0 y1 y2 y3 y4).set t (some x)) H K)(fin:∀x0 x1 x2 x3 x4 H,T xs.length x0 x1 x2 x3 x4 H->N (f xs.length x0 x1 x2 x3 x4) H):Cv (fun H=>H a=some (.list xs)) (.one t) body N (xs.map .v) ρ H:=
 Cs (fun i p=>f i p.1 p.2.1 p.2.2.1 p.2.2.2.1 p.2.2.2.2) (fun i p=>T i p.1 p.2.1 p.2.2.1 p.2.2.2.1 p.2.2.2.2) (x0,x1,x2,x3,x4) hρ h0 (fun i p=>hg i p.1 p.2.1 p.2.2.1 p.2.2.2.1 p.2.2.2.2) (fun i x p H K hx h hK=>step i x p.1 p.2.1 p.2.2.1 p.2.2.2.1 p.2.2.2.2 H K hx h fun z0 z1 z2 z3 z4 H' h'=>hK (z0,z1,z2,z3,z4) H' h') fun p=>fin p.1 p.2.1 p.2.2.1 p.2.2.2.1 p.2.2.2.2
theorem Cf{g:AH->Prop}{elt:Ak->AH->(Option V->AH->Prop)->Prop}{Q:List V->AH->Prop}(I:Nat->List V->AH->Prop):∀ {its:List It} {k:Nat} {acc:List V} {y:Option V} {H:AH},I k acc H->
 (∀i x acc H K,its[i]? = some x->I (k+i) acc H->(∀o H'',I (k+i+1) (match o with|some v=>acc ++ [v]|none=>acc) H''->K o H'')->g H/\∃v,x = .v v/\elt (some v::ρ) H K)->
 (∀acc H,I (k+its.length) acc H->g H/\Q acc H)->Bn g (.one 0) elt Q its acc (y::ρ) H:=by
 intro its
 induction its with
 | nil=>intro k acc y H h0 _ fin;exact fin acc H h0
 | cons x r ih=>
   intro k acc y H h0 step fin
   obtain⟨g1,v,rfl,h⟩:=step 0 x acc H (fun o H''=>Bn g (.one 0) elt Q r (match o with|some v=>acc ++ [v]|none=>acc) (some (match x with | .v v=>v|_=> .none)::ρ) H'') rfl h0 fun o H'' h1=>by
    refine ih (k:=k+1) h1 (fun i y acc H K hy hI hK=>?_) fun acc H hI=>?_
    ·refine step (i+1) y acc H K hy (by rwa[show k+(i+1)=k+1+i by exact Q5]) fun o H'' h=>hK o H'' ?_
     rwa[show k+1+i+1=k+(i+1)+1 by exact Q6]
    ·exact fin acc H (by rwa[List.length_cons,show k+(r.length+1)=k+1+r.length by exact Q5])
   exact⟨g1,h⟩
theorem Iz{m:Nat}{elt:Ak->AH->(Option V->AH->Prop)->Prop}{P:Nat->List Int->Prop}{Q:List V->AH->Prop}{y:Option V}
 (step:∀i H' K,i<m->Al H H'->(∀x r H'',Al H' H''->LI H'' x r->P i r->K (some (.ref x)) H'')->elt (some (.int i)::ρ) H' K)
 (fin:∀as rows H',Al H H'->D8 H' as rows->rows.length=m->(∀(i:Nat) r,rows[i]? = some r->P i r)->Q (as.map V.ref) H') :
 Bn (fun _=>True) (.one 0) elt Q ((List.range m).map fun(i:Nat)=> .v (.int i)) [] (y::ρ) H:=by
 refine Cf (k:=0) (fun i acc H'=>(Jy fun as rows=>Vh (acc=as.map V.ref) (Al H H') (D8 H' as rows) (rows.length=i) (∀(i:Nat) r,rows[i]? = some r->P i r))) ⟨[],[],rfl,Al.refl,⟨rfl,fun i x r h=>by simp at h⟩,rfl,fun i r h=>by simp at h⟩ ?_ ?_
 ·rintro i x acc H' K hx ⟨as,rows,rfl,h1,h2,h3,h4⟩ hK
  rw[List.getElem?_map]at hx
  obtain⟨j,hj,rfl⟩:=Option.map_eq_some_iff.mp hx
  obtain⟨hlt,he⟩:=Da hj
  simp at hlt he
  subst he
  refine⟨trivial,_,rfl,step i H' K hlt h1 fun x r H'' e1 e2 e3=>hK _ _ ⟨as ++ [x],rows ++ [r],by simp,h1.trans e1,(h2.ext e1).snoc e2,by simp[h3],fun k r' hr=>?_⟩⟩
  cases Nat.lt_or_ge k rows.length with
  | inl q=>rw[List.getElem?_append_left q]at hr;exact h4 k r' hr
  | inr q=>
    rw[List.getElem?_append_right q]at hr
    have:k-rows.length=0:=by
     obtain⟨z,_⟩:=Da hr
     simp at z;exact z
    rw[this]at hr
    simp at hr
    subst hr
    have:k=i:=(Q7 h3 q this)
    subst this
    exact e3
 ·rintro acc H' ⟨as,rows,rfl,h1,h2,h3,h4⟩
  exact⟨trivial,fin as rows H' h1 h2 (by simpa using h3) h4⟩
noncomputable def Mt(k:Nat)(r:List Int):Prop:=r.length<=k/\∀x∈r,0<=x/\x<k
noncomputable def Wf(m:Nat)(rows:List (List Int)):Prop:=rows.length=m/\∀(k:Nat) r,rows[k]? = some r->Mt k r
noncomputable def K7(H:AH)(m:Nat)(Q:Ag):Prop:=∀a as rows H',Al H H'->H a=none->H' a=some (.list (as.map V.ref))->D8 H' as rows->Wf m rows->Q (.ref a) H'
theorem I0{k:Nat}{a:Int}{c:Nat}(h0:0<=a)(h:a+c<=k):Mt k ((List.range c).map fun(i:Nat)=>a+i):=by
 refine⟨by simp;exact(Int.ofNat_le.mp (Int.le_trans (Int.le_add_of_nonneg_left h0) h)),fun x hx=>?_⟩
 obtain⟨i,hi,rfl⟩:=List.mem_map.mp hx
 simp at hi
 exact⟨Int.add_nonneg h0 (Int.natCast_nonneg _),Int.lt_of_lt_of_le (Int.add_lt_add_left (Int.ofNat_lt.mpr hi) _) h⟩
theorem X3(c:Nat):(List.range c).map (fun(i:Nat)=>V.int i)=((List.range c).map fun(i:Nat)=>(0:Int)+i).map V.int:=by simp
theorem On(a:Int)(c:Nat):(List.range c).map (fun(i:Nat)=>V.int (a+i))=((List.range c).map fun(i:Nat)=>a+i).map V.int:=(List.map_map).symm
noncomputable def cell(ns:List Int)(k:Nat):Int:=ns.getD k 0
theorem C6(hG:G.fn "_law_cell_at" = some B9){ns:List Int}{k:Int}(hk:0<=k)(q:Q (.int (cell ns k.toNat)) H):Ae G (n+1) "_law_cell_at" [.script ns,.int k] H Q E:=by
 refine Aj hG rfl ?_
 simp only[Za,Ze,Zf,Zl,Zo,Zq,Zu,Zv,Zy,Z0,Z1,Z8,Ch,Zbn,List.map,Eg,Eh,Ai,Am,B9]
 split
 ·rename_i h
  simp only[decide_eq_true_eq]at h
  have hlt:k.toNat<ns.length:=(Q10 hk h)
  have h1:C0 k ns.length=some k.toNat:=by delta C0;rw[if_pos hk,if_pos h]
  have h2:ns[k.toNat]? = some (cell ns k.toNat):=by
   unfold cell;rw[List.getD_eq_getElem?_getD,List.getElem?_eq_getElem hlt];rfl
  delta C3;(try dsimp only[Ar]);rw[h1];(try dsimp only[Ff]);rw[h2]
  exact q
 ·rename_i h
  simp only[decide_eq_true_eq]at h
  have:cell ns k.toNat=0:=by
   unfold cell;rw[List.getD_eq_getElem?_getD,List.getElem?_eq_none (Int.ofNat_le.mp (Int.le_trans (Int.not_lt.mp h) (Int.self_le_toNat _)))];rfl
  rw[this]at q
  exact q
theorem K8(hG:G.fn "_law_mixed" = some D6){c k:Int}(q:∀m,0<=m->m<1000003->Q (.int m) H):Ae G (n+1) "_law_mixed" [.int c,.int k] H Q E:=by
 refine Aj hG rfl ?_
 simp (disch:=first|decide|omega) only[Ze,Zf,Zk,Zy,Z0,Z1,Z4,Z6,List.map,Eg,Eh,Ai,Am,D6,Abf]
 refine⟨.inl (by decide),.inr (by decide),?_⟩
 exact q _ (Int.emod_nonneg _ (by decide)) (by exact(Int.emod_lt_of_pos _ (by decide)))
theorem Agh(hc:G.fn "_law_cell_at" = some B9)(hG:G.fn "_law_many" = some F8){ns:List Int}(q:∀m:Nat,m<=60->Q (.int m) H):Ae G (n+2) "_law_many" [.script ns] H Q E:=by
 refine Aj hG rfl ?_
 have q':∀m:Int,0<=m->m<=60->Q (.int m) H:=fun m h1 h2=>by
  have:=q m.toNat (Int.toNat_le.mpr h2)
  rwa[show ((m.toNat:Nat):Int)=m by exact Q15 h1]at this
 simp only[Za,Ze,Zf,Zk,Zl,Zn,Zu,Zv,Zw,Zy,Z0,Z1,List.map,Eg,Eh,Ai,Am,List.replicate,B6,B7,C9,true_and,F8,hc]
 refine C6 hc (by decide) ?_
 simp (disch:=first|decide|omega) only[Z4,Z5,Z6,X2,Ch]
 split
 ·exact q' _ (Int.emod_nonneg _ (by decide)) (Int.le_of_lt_add_one (Int.emod_lt_of_pos _ (by decide)))
 ·split
  ·exact q' _ (Int.add_nonneg (by decide) (Int.emod_nonneg _ (by decide))) Q19
  ·exact q' _ (Int.emod_nonneg _ (by decide)) (Int.le_trans (Int.le_of_lt (Int.emod_lt_of_pos _ (by decide:(0:Int)<9))) (by decide))
noncomputable def Ba(ns:List Int)(m k:Int):Int:=if cell ns 1%2=1 then(cell ns 1/2-k)%m else(cell ns 1/2+k)%m
theorem Qe{ns:List Int}{m k:Int}(h:0<m):0<=Ba ns m k/\Ba ns m k<m:=by
 unfold Ba
 split
 ·exact⟨Int.emod_nonneg _ (Int.ne_of_gt h),Int.emod_lt_of_pos _ h⟩
 ·exact⟨Int.emod_nonneg _ (Int.ne_of_gt h),Int.emod_lt_of_pos _ h⟩
theorem Tb{x y m:Int}(hm:0<m)(h:x%m=y%m)(h1:x-y<m)(h2:y-x<m):x=y:=by
 have e:=Int.emod_emod_of_dvd x (Int.dvd_refl m)
 have h3:(x-y)%m=0:=by rw[Int.sub_emod,h,Int.sub_self,Int.zero_emod]
 obtain⟨k,hk⟩:=Int.dvd_of_emod_eq_zero h3
 have:k=0:=by
  rcases Int.lt_trichotomy k 0 with q|q|q
  ·have:m*k<=m*(-1):=Int.mul_le_mul_of_nonneg_left (Int.le_of_lt_add_one q) (Q23 h1 h2)
   exact Q24 h2 hk this
  ·exact q
  ·have:m*1<=m*k:=Int.mul_le_mul_of_nonneg_left (q) (Q23 h1 h2)
   exact Q26 h1 hk this
 subst this
 exact Int.eq_of_sub_eq_zero (hk.trans (Int.mul_zero _))
theorem U7{ns:List Int}{m j k:Int}(hm:0<m)(hj:0<=j/\j<m)(hk:0<=k/\k<m)(h:Ba ns m j=Ba ns m k):j=k:=by
 unfold Ba at h
 split at h
 ·have:=Tb hm h (Q28 hj.1 hk.2) (Q29 hj.2 hk.1);exact Q30 this
 ·have:=Tb hm h (Q31 hj.2 hk.1) (Q31 hk.2 hj.1);exact Int.add_left_cancel this
theorem Abg(hc:G.fn "_law_cell_at" = some B9)(hG:G.fn "_law_name" = some J0){ns:List Int}{m k:Int}(hm:0<m)(hm':m<=60)(q:Q (.int (Ba ns m k)) H):Ae G (n+2) "_law_name" [.script ns,.int m,.int k] H Q E:=by
 refine Aj hG rfl ?_
 simp only[Za,Ze,Zf,Zk,Zl,Zn,Zu,Zv,Zw,Zy,Z0,Z1,List.map,Eg,Eh,Ai,Am,List.replicate,B6,B7,C9,true_and,J0,hc]
 refine C6 hc (by decide) ?_
 simp (disch:=first|decide|omega) only[Z4,Z5,Z6,Z7,X2,Ch]
 unfold Ba at q
 split
 ·rename_i h
  simp only[decide_eq_true_eq]at h
  have h':cell ns 1%2=1:=h
  rw[if_pos h']at q
  exact q
 ·rename_i h
  simp only[decide_eq_true_eq]at h
  have h':¬cell ns 1%2=1:=h
  rw[if_neg h']at q
  exact q
theorem Abh(hG:G.fn "_law_banded" = some G2){m:Nat}{c:Int}(hm:m<=60)(q:K7 H m Q):Ae G (n+1) "_law_banded" [.int m,.int c] H Q E:=by
 refine Aj hG rfl ?_
 have core:∀z:Int,0<=z->Aw G (Ae G n) (.comp 1 (.range [(.var 0)]) Ed) [some (.int m),some (.int c),some (.int z)] H Q E:=by
  intro z hz
  refine grK ?_
  simp (disch:=first|decide|omega) only[Zf,Zu,Zv,Z2,Qd,Eg,Eh,Ai,List.replicate]
  refine⟨by simp[Bp];exact W3 hm,Iz (P:=Mt) (fun i H' K hi e1 hK=>?_) fun as rows H' e1 h1 h2 h3=>?_⟩
  ·simp (disch:=first|decide|omega) only[Ze,Zf,Zk,Zo,Zu,Zv,Z7,Zbl,Zbr,Ai,Am,Ed]
   intro a ha
   rw[On]
   exact hK a _ _ (Al.upd ha) Ac (I0 (Int.le_max_left _ _) (Q36 hz))
  ·intro a ha
   exact q a as rows _ (e1.trans (Al.upd ha)) (e1.isNone ha) Ac (h1.ext (Al.upd ha)) ⟨h2,h3⟩
 simp (disch:=first|decide|omega) only[Za,Ze,Zf,Zk,Zl,Zw,Zy,Z0,Z1,Z4,Zba,Ch,List.map,Eg,Eh,Ai,Am,List.replicate,B6,B7,G2]
 split
 ·exact core _ (Int.emod_nonneg _ (by decide))
 ·exact core _ (Int.emod_nonneg _ (by decide))
set_option linter.all false
variable {G:A2} {n:Nat} {H H':AH} {Q:Ag} {E:EP} {C:CS} {ρ:Ak}
theorem K7.mono{m:Nat}(q:K7 H m Q)(e:Al H H'):K7 H' m Q:=fun a as rows H'' e1 h1 h2 h3 h4=>q a as rows H'' (e.trans e1) (e.isNone h1) h2 h3 h4
theorem Abi(hG:G.fn "_law_hubbed" = some G4){m:Nat}{c:Int}(hm:m<=60)(q:K7 H m Q):Ae G (n+1) "_law_hubbed" [.int m,.int c] H Q E:=by
 refine Aj hG rfl ?_
 have core:∀(z:Int) (H':AH),0<=z->z<=1000->Al H H'->Aw G (Ae G n) (.comp 1 (.range [(.var 0)]) Ci) [some (.int m),some (.int c),some (.int z)] H' Q E:=by
  intro z H' hz hz' e
  refine grK ?_
  simp (disch:=first|decide|omega) only[Zf,Zu,Zv,Z2,Qd,Eg,Eh,Ai,List.replicate]
  refine⟨by simp[Bp];exact W3 hm,Iz (P:=Mt) (fun i H' K hi e1 hK=>?_) fun as rows H' e1 h1 h2 h3=>?_⟩
  ·simp (disch:=first|decide|omega) only[Zf,Zo,Zu,Zv,Zbm,Zbq,Ai,Am,Ci]
   intro a ha
   rw[X3]
   exact hK a _ _ (Al.upd ha) Ac (I0 (by exact(by decide)) (by exact(Int.le_trans (Int.le_of_eq (Int.zero_add _)) (Int.ofNat_le.mpr (Int.toNat_le.mpr (Int.min_le_left _ _))))))
  ·intro a ha
   exact q.mono e a as rows _ (e1.trans (Al.upd ha)) (e1.isNone ha) Ac (h1.ext (Al.upd ha)) ⟨h2,h3⟩
 simp (disch:=first|decide|omega) only[Za,Ze,Zf,Zk,Zl,Zq,Zs,Zu,Zv,Zw,Zy,Z0,Z1,Z4,Z5,Zba,Ch,List.map,Eg,Eh,Ai,Am,List.replicate,B6,B7,G4]
 intro a ha
 have key:∀z:Int,0<=z->z<=1000->(if decide (30<(m:Int))=true then Aw G (Ae G n) (.comp 1 (.range [(.var 0)]) Ci) [some (.int m),some (.int c),some (.int (z%8))] (upd H a (.list [.int 1,.int 2,.int 3,.int (c/4%30)])) Q E
  else Aw G (Ae G n) (.comp 1 (.range [(.var 0)]) Ci) [some (.int m),some (.int c),some (.int z)] (upd H a (.list [.int 1,.int 2,.int 3,.int (c/4%30)])) Q E):=by
  intro z h1 h2
  split
  ·exact core _ _ (Int.emod_nonneg _ (by decide)) (Int.le_trans (Int.le_of_lt (Int.emod_lt_of_pos _ (by decide:(0:Int)<8))) (by decide)) (Al.upd ha)
  ·exact core _ _ h1 h2 (Al.upd ha)
 have h4:c%4=0\/c%4=1\/c%4=2\/c%4=3:=Q45
 rcases h4 with h|h|h|h<;>rw[h]
 ·refine Fy (x:= .int 1) Ac (by decide) rfl ?_;simp (disch:=first|decide|omega) only[Z4];exact key _ (by exact(by decide)) (by exact(by decide))
 ·refine Fy (x:= .int 2) Ac (by decide) rfl ?_;simp (disch:=first|decide|omega) only[Z4];exact key _ (by exact(by decide)) (by exact(by decide))
 ·refine Fy (x:= .int 3) Ac (by decide) rfl ?_;simp (disch:=first|decide|omega) only[Z4];exact key _ (by exact(by decide)) (by exact(by decide))
 ·refine Fy (x:= .int (c/4%30)) Ac (by decide) rfl ?_;simp (disch:=first|decide|omega) only[Z4];exact key _ (Int.emod_nonneg _ (by decide)) (Int.le_trans (Int.le_of_lt (Int.emod_lt_of_pos _ (by decide:(0:Int)<30))) (by decide))
structure K9(H H':AH)(a:Nat)(as:List Nat)(rows:List (List Int)):Prop where
 ext:Al H H'
 new:H a=none
 at_:H' a=some (.list (as.map V.ref))
 lists:D8 H' as rows
 ne:∀x∈as,x≠a
 ok:∀(k:Nat) r,rows[k]? = some r->Mt k r
theorem K9.start{a:Nat}(h:H a=none):K9 H (upd H a (.list [])) a [] []:=⟨Al.upd h,h,Ac,⟨rfl,fun i x r q=>by simp at q⟩,fun x hx=>by simp at hx,fun k r q=>by simp at q⟩
theorem D8.upd{as:List Nat}{rows:List (List Int)}{a:Nat}{o:O}(h:D8 H as rows)(hn:∀x∈as,x≠a):D8 (Mine.Internal.upd H a o) as rows:=⟨h.1,fun i x r h1 h2=>by
 unfold LI
 rw[upd_ne (hn x (List.mem_of_getElem? h1))];exact h.2 i x r h1 h2⟩
theorem K9.snoc{ab:AH}{a x:Nat}{as:List Nat}{rows:List (List Int)}{r:List Int}(b:K9 H H' a as rows)(hx:H' x=none)(e:∀y o,y≠x->H' y=some o->ab y=some o)(h:LI ab x r)(hr:Mt rows.length r) :
 K9 H (upd ab a (.list ((as.map V.ref) ++ [.ref x]))) a (as ++ [x]) (rows ++ [r]):=by
 have hxa:x≠a:=fun q=>by rw[q,b.at_]at hx;cases hx
 have hxs:∀y∈as,y≠x:=fun y hy q=>by
  obtain⟨i,hi⟩:=List.mem_iff_getElem?.mp hy
  have hlt:=(Da hi).1
  have:LI H' y (rows[i]'(by rw[<-b.lists.1];exact hlt)):=b.lists.2 i y _ hi (List.getElem?_eq_getElem _)
  rw[q]at this
  unfold LI at this
  rw[hx]at this;cases this
 have hHx:H x=none:=b.ext.isNone hx
 have e1:Al H ab:=fun y o q=>e y o (fun z=>by rw[z,hHx]at q;cases q) (b.ext y o q)
 have hr1:D8 ab as rows:=⟨b.lists.1,fun i y r' h1 h2=>e y _ (hxs y (List.mem_of_getElem? h1)) (b.lists.2 i y r' h1 h2)⟩
 refine⟨e1.upd' b.new,b.new,by rw[Ac];simp,?_,?_,?_⟩
 ·refine(hr1.snoc h).upd fun y hy=>?_
  rcases List.mem_append.mp hy with hy|hy
  ·exact b.ne y hy
  ·simp at hy;rw[hy];exact hxa
 ·intro y hy
  rcases List.mem_append.mp hy with hy|hy
  ·exact b.ne y hy
  ·simp at hy;rw[hy];exact hxa
 ·intro k r' hk
  cases Nat.lt_or_ge k rows.length with
  | inl q=>rw[List.getElem?_append_left q]at hk;exact b.ok k r' hk
  | inr q=>
    rw[List.getElem?_append_right q]at hk
    have:k-rows.length=0:=by
     obtain⟨z,_⟩:=Da hk
     simp at z;exact z
    rw[this]at hk
    simp at hk
    subst hk
    have:k=rows.length:=(Nat.le_antisymm (Nat.sub_eq_zero_iff_le.mp this) q)
    rw[this];exact hr
theorem Qf(hc:G.fn "_law_cell_at" = some B9)(hx:G.fn "_law_mixed" = some D6)(hG:G.fn "_law_earlier" = some F7){ns:List Int}{m:Nat}{ring:Int}(hm:m<=60)(hr:ring=0\/4<=ring)(q:K7 H m Q) :
 Ae G (n+2) "_law_earlier" [.script ns,.int m,.int ring] H Q E:=by
 refine Aj hG rfl ?_
 simp only[Zf,Zs,Zu,Zw,Zy,Z0,Z1,List.map,Eg,Eh,List.replicate,B6,B7,F7]
 intro a ha
 refine T8 ?_
 simp (disch:=first|decide|omega) only[Zf,Zu,Zv,Qd,Ai,Am]
 refine Pg (fun i r4 r5 r6 r7 r8 r9 as rows=>[some (.script ns),some (.int m),some (.int ring),some (.ref a),r4,r5,r6,r7,r8,r9]) (fun i r4 r5 r6 r7 r8 r9 as rows H'=>(K9 H H' a as rows)/\(rows.length=i)) none none none none none none [] [] rfl ⟨K9.start ha,rfl⟩ ?_ ?_
 ·rintro i r4 r5 r6 r7 r8 r9 as rows H' K hi ⟨b,hlen⟩ hK
  have hi':i<m:=hi
  have fin:∀(c:Int) (x:Nat) (r:List Int) (ab:AH) (r7 r8 r9:Option V),H' x=none->(∀y o,y≠x->H' y=some o->ab y=some o)->LI ab x r->Mt i r->
   Bh G (Ae G (n+1)) [.expr (.lm .append (.var 3) [(.var 6)])] [some (.script ns),some (.int m),some (.int ring),some (.ref a),some (.int i),some (.int c),some (.ref x),r7,r8,r9] ab K Q E:=by
   intro c x r ab r7 r8 r9 h1 h2 h3 h4
   have hxa:x≠a:=fun q=>by rw[q,b.at_]at h1;cases h1
   have ha1:ab a=some (.list (as.map V.ref)):=h2 a _ (Ne.symm hxa) b.at_
   have hal:(as.map V.ref).length<1048576:=by rw[Bk,b.lists.1];exact Q55 hm hlen hi'
   simp (disch:=first|decide|omega) only[Zf,Zu,Zv,Zx,Z0,Z1,Ai,Am,true_and,Bo,A8 ha1,Bq ha1 hal]
   exact hK _ _ _ _ _ _ _ _ _ ⟨b.snoc h1 h2 h3 (by rw[hlen];exact h4),by simp[hlen]⟩
  simp only[Ze,Zf,Zk,Zn,Zs,Zu,Zv,Zw,Zx,Z0,Z1,Z6,Ai,Am,B6,B7,C9,true_and,Gl,hc,hx]
  refine C6 hc (Int.natCast_nonneg _) ?_
  refine K8 hx fun c c0 c1=>?_
  intro x hx0
  have e0:∀y o,y≠x->H' y=some o->upd H' x (.list []) y=some o:=fun y o h1 h2=>by rw[upd_ne h1];exact h2
  refine Bm (decide ((0:Int)<i)&&decide ((i:Int)<ring)) (fun Q' h'=>?_) ?_
  ·simp only[Ze,Zf,Zm,Z8,Ch,Ai,Am];split<;>simp_all
  ·split
   ·rename_i hh
    simp only[Bool.and_eq_true,decide_eq_true_eq]at hh
    simp only[Ze,Zf,Zk,Zs,Zu,Zv,Zw,Z0,Z1,Z7,Ai,Am,B6,B7]
    intro x1 hx1
    refine Bm (decide ((i:Int)=ring-1)) (fun Q' h'=>?_) ?_
    ·simp only[Ze,Zf,Zk,Zl,Z7,X2,Ai,Am];exact h'
    have hx1':H' x1=none:=(Al.upd hx0).isNone hx1
    have e1:Al H' (upd H' x (.list [])):=Al.upd hx0
    split
    ·rename_i h3
     simp only[decide_eq_true_eq]at h3
     simp only[Ze,Zf,Zk,Zs,Zu,Zv,Zw,Z0,Z1,Z7,Ai,Am,B6,B7]
     intro x2 hx2
     have hx2':H' x2=none:=(Al.upd hx0).isNone ((Al.upd hx1).isNone hx2)
     refine fin c x2 [0,(i:Int)-1] _ _ _ _ hx2' (fun y o h1 h2=>?_) Ac ⟨by simp;exact Q57 hr h3,by simp;exact(⟨Int.natCast_pos.mp hh.1,hh.1,Int.sub_lt_self _ (by decide)⟩)⟩
     exact(Al.upd hx2) y o ((Al.upd hx1) y o (e1 y o h2))
    ·simp only[Z0]
     refine fin c x1 [(i:Int)-1] _ _ _ _ hx1' (fun y o h1 h2=>?_) Ac ⟨by simp;exact(Int.ofNat_lt.mp hh.1),by simp;exact(⟨hh.1,Int.sub_lt_self _ (by decide)⟩)⟩
     exact(Al.upd hx1) y o (e1 y o h2)
   ·rename_i hh
    simp only[Z0,Z1]
    refine Bm (decide ((0:Int)<i) && !decide (c%9=8)) (fun Q' h'=>?_) ?_
    ·simp (disch:=first|decide|omega) only[Ze,Zf,Zi,Zk,Zl,Z4,Zba,Zbd,Ch,Ai,Am];split<;>simp_all
    split
    ·rename_i h2
     simp only[Bool.and_eq_true,decide_eq_true_eq]at h2
     have hi0:0<(i:Int):=h2.1
     have hmate:0<=c/9%(i:Int)/\c/9%(i:Int)<i:=⟨Int.emod_nonneg _ (Int.ne_of_gt hi0),Int.emod_lt_of_pos _ hi0⟩
     generalize hmt:c/9%(i:Int)=mate at hmate
     simp (disch:=first|decide|omega) only[Ze,Zf,Zk,Zs,Zu,Zv,Zw,Z0,Z1,Z4,Z5,Ai,Am,B6,B7,hmt]
     intro x1 hx1
     have hx1':H' x1=none:=(Al.upd hx0).isNone hx1
     have e1:Al H' (upd H' x (.list [])):=Al.upd hx0
     have e2:Al H' (upd (upd H' x (.list [])) x1 (.list [.int mate])):=e1.trans (Al.upd hx1)
     have hml:mate.toNat<rows.length:=(Q62 hlen hmate.1 hmate.2)
     have hml':mate.toNat<as.length:=by rw[b.lists.1];exact hml
     have hxm:as[mate.toNat]? = some (as[mate.toNat]):=List.getElem?_eq_getElem hml'
     have hrm:rows[mate.toNat]? = some (rows[mate.toNat]):=List.getElem?_eq_getElem hml
     generalize as[mate.toNat]=xm at hxm
     generalize rows[mate.toNat]=rm at hrm
     have hrok:=b.ok _ _ hrm
     have hLm:LI H' xm rm:=b.lists.2 _ _ _ hxm hrm
     have hsub:(as.map V.ref)[mate.toNat]? = some (.ref xm):=by rw[List.getElem?_map,hxm];rfl
     refine M8 ?_
     simp only[Zf,Zq,Ai,Am]
     refine Fy (e2 _ _ b.at_) hmate.1 hsub (Aq (e2 _ _ hLm) ?_)
     have hxm1:xm≠x1:=fun q=>by rw[q]at hLm;unfold LI at hLm;rw[hx1']at hLm;cases hLm
     refine I9 (fun j ρ ab=>(Ex3 fun l9 lf r=>Vh (ρ = [some (.script ns),some (.int m),some (.int ring),some (.ref a),some (.int i),some (.int c),some (.ref x1),some (.int mate),some (.int lf),l9]) ((∀y o,y≠x1->H' y=some o->ab y=some o)) (LI ab x1 r) (r.length<=1+j) (∀z∈r,0<=z/\z<(i:Int)))) ?_ ?_ ?_ ?_
     ·exact⟨_,_,[mate],rfl,fun y o _ h=>e2 y o h,Ac,Nat.le_refl _,by simpa using hmate⟩
     ·rintro j ρ ab hP7
      refine Aa fun nY=>?_
      obtain⟨l9,lf,r,rfl,h1,h2,h3,h4⟩:=hP7
      refine nY ?_;clear nY
      exact h1 _ _ hxm1 hLm
     ·rintro j v ρ ab K' hv hP8 hK'
      refine Aa fun nY=>?_
      obtain⟨l9,lf,r,rfl,h1,h2,h3,h4⟩:=hP8
      rw[List.getElem?_map]at hv
      obtain⟨z,hz,rfl⟩:=Option.map_eq_some_iff.mp hv
      have hzr:=hrok.2 z (List.mem_of_getElem? hz)
      have hjl:=(Da hz).1
      refine nY ?_;clear nY
      have hlen2:rm.length<=60:=by have:=hrok.1;exact Af this (Af (Int.toNat_le.mpr (Int.le_of_lt hmate.2)) (Af (Nat.le_of_lt hi') hm))
      simp only[Ze,Zf,Zk,Zw,Z0,Z1,B6,B7,Gk]
      have step2:∀r',r'.length<=1+(j+1)->(∀z∈r',0<=z/\z<(i:Int))->∀ae,(∀y o,y≠x1->H' y=some o->ae y=some o)->LI ae x1 r'->
       K' [some (.script ns),some (.int m),some (.int ring),some (.ref a),some (.int i),some (.int c),some (.ref x1),some (.int mate),some (.int (lf/3)),some (.int z)] ae:=
       fun r' a1 a2 ae a3 a4=>hK' _ _ ⟨_,_,r',rfl,a3,a4,a1,a2⟩
      have hlen:(r.map V.int).length<1048576:=by rw[Bk];exact Nat.lt_of_le_of_lt (Af h3 (Nat.add_le_add_left (Af (Nat.le_of_lt hjl) hlen2) 1)) (by decide)
      have key:∃cc:Bool,∀Q':Ag,Q' (.bool cc) ab->Aw G (Ae G (n+1)) (.and (.cmp .Gt (.bin .Mod (.var 8) (.cint 3)) (.cint 0)) (.or (.cmp .GtE (.var 7) (.var 2)) (.cmp .Lt (.bi .len [(.var 6)]) (.cint 2)))) [some (.script ns),some (.int m),some (.int ring),some (.ref a),some (.int i),some (.int c),some (.ref x1),some (.int mate),some (.int lf),some (.int z)] ab Q' E:=by
       refine⟨decide (0<lf%3)&&(decide (ring<=mate)||decide (((r.map V.int).length:Int)<2)),fun Q' h'=>?_⟩
       simp (disch:=first|decide|omega) only[Ze,Zf,Zi,Zj,Zk,Zl,Zo,Zu,Zv,Z4,Z8,Zba,Zbb,Ch,Ai,Am,Cm h2]
       split
       ·split<;>simp_all
       ·simp_all
      obtain⟨cc,hcc⟩:=key
      refine Bm cc hcc ?_
      split
      ·simp (disch:=first|decide|omega) only[Zf,Zu,Zv,Zx,Z0,Z1,Z5,Ai,Am,B6,B7,true_and,Bo,A8 h2,Bq h2 hlen]
       refine step2 (r ++ [z]) (by simp;exact(Nat.succ_le_succ h3)) (fun w hw=>?_) _ (fun y o a1 a2=>by rw[upd_ne a1];exact h1 y o a1 a2) (by unfold LI;rw[Ac];simp)
       refine Aa fun nY=>?_
       rcases List.mem_append.mp hw with hw|hw
       ·refine nY ?_;clear nY
        exact h4 w hw
       ·refine nY ?_;clear nY
        simp at hw;subst hw;exact⟨hzr.1,Int.lt_of_lt_of_le hzr.2 (Int.ofNat_le.mpr (Int.toNat_le.mpr (Int.le_of_lt hmate.2)))⟩
      ·simp (disch:=first|decide|omega) only[Z0,Z5,Ai,Am,B6,B7]
       exact step2 r (Nat.le_succ_of_le h3) h4 _ h1 h2
     ·rintro ρ ab hP9
      refine Aa fun nY=>?_
      obtain⟨l9,lf,r,rfl,h1,h2,h3,h4⟩:=hP9
      refine nY ?_;clear nY
      refine fin c x1 r ab _ _ _ hx1' h1 h2 ⟨?_,h4⟩
      rw[Bk]at h3
      have:=hrok.1
      exact Af h3 (Af (Nat.add_le_add_left this 1) (Af (Nat.le_of_eq (Nat.add_comm 1 _)) ((Int.toNat_lt hmate.1).mpr hmate.2)))
    ·simp only[Z0]
     exact fin c x [] _ _ _ _ hx0 e0 Ac ⟨Nat.zero_le _,fun _ h=>absurd h List.not_mem_nil⟩
 ·rintro r4 r5 r6 r7 r8 r9 as rows H' ⟨b,hlen⟩
  simp only[Ai,Am]
  exact q a as rows H' b.ext b.new b.at_ b.lists ⟨hlen,b.ok⟩
set_option linter.all false
variable {G:A2} {n:Nat} {H H':AH} {Q:Ag} {E:EP} {C:CS} {ρ:Ak}
theorem E8{g:AH->Prop}{elt:Ak->AH->(Option V->AH->Prop)->Prop}{Q:List V->AH->Prop}{xs:List V}{f:V->Option V}{y:Option V}(hg:g H)
 (step:∀x∈xs,∀K:Option V->AH->Prop,K (f x) H->elt (some x::ρ) H K) (fin:Q (xs.filterMap f) H):Bn g (.one 0) elt Q (xs.map .v) [] (y::ρ) H:=by
 refine Cf (k:=0) (fun i acc H'=>H'=H/\acc=(xs.take i).filterMap f) ⟨rfl,rfl⟩ ?_ ?_
 ·rintro i x acc H' K hx ⟨rfl,rfl⟩ hK
  rw[List.getElem?_map]at hx
  obtain⟨j,hj,rfl⟩:=Option.map_eq_some_iff.mp hx
  refine⟨hg,_,rfl,step j (List.mem_of_getElem? hj) K (hK _ _ ⟨rfl,?_⟩)⟩
  have hlt:=(Da hj).1
  rw[Nat.zero_add,List.take_add_one,hj]
  simp only[Option.toList_some,List.filterMap_append]
  rw[List.filterMap_cons]
  cases hfj:f j<;>simp
 ·rintro acc H' ⟨rfl,rfl⟩
  refine⟨hg,?_⟩
  rw[Nat.zero_add,List.take_of_length_le (Nat.le_of_eq (Bk _).symm)]
  exact fin
theorem Tc(m:Nat):((List.range m).map fun(i:Nat)=>It.v (.int i))=((List.range m).map fun(i:Nat)=>V.int i).map It.v:=(List.map_map).symm
theorem Rc(m:Nat)(p:Nat->Bool):((List.range m).map fun(i:Nat)=>V.int i).filterMap (fun v=>match v with | .int i=>if p i.toNat then some (.int i)else none|_=>none)=(((List.range m).filter p).map fun(i:Nat)=>(i:Int)).map V.int:=by
 rw[List.filterMap_map]
 induction m with
 | zero=>rfl
 | succ m ih=>
   rw[List.range_succ,List.filterMap_append,ih,List.filter_append]
   simp only[List.map_append,List.filterMap_cons,Function.comp,List.filterMap_nil,Int.toNat_natCast,List.filter_cons,List.filter_nil]
   by_cases hp:p m=true<;>simp[hp]
noncomputable def M2(l:List Nat):List Int:=l.map fun(i:Nat)=>(i:Int)
theorem Ph{m:Nat}{p:Nat->Bool}{elt:Ak->AH->(Option V->AH->Prop)->Prop}{Q:List V->AH->Prop}{y:Option V}
 (step:∀j,j<m->∀K:Option V->AH->Prop,K (if p j then some (.int j)else none) H->elt (some (.int j)::ρ) H K) (fin:Q ((M2 ((List.range m).filter p)).map V.int) H) :
 Bn (fun _=>True) (.one 0) elt Q ((List.range m).map fun(i:Nat)=> .v (.int i)) [] (y::ρ) H:=by
 rw[Tc]
 refine E8 (f:=fun v=>match v with | .int i=>if p i.toNat then some (.int i)else none|_=>none) trivial (fun v hv K hK=>?_) ?_
 ·obtain⟨j,hj,rfl⟩:=List.mem_map.mp hv
  exact step j (List.mem_range.mp hj) K hK
 ·rw[Rc];exact fin
theorem U8(hc:G.fn "_law_cell_at" = some B9)(hx:G.fn "_law_mixed" = some D6)(hG:G.fn "_law_any_rows" = some E1){ns:List Int}{m:Nat}(hm:m<=60)(q:K7 H m Q) :
 Ae G (n+2) "_law_any_rows" [.script ns,.int m] H Q E:=by
 refine Aj hG rfl ?_
 simp only[Ze,Zf,Zk,Zn,Zs,Zu,Zv,Zw,Zy,Z0,Z1,List.map,Eg,Eh,Ai,List.replicate,B6,B7,C9,true_and,E1,hc]
 refine C6 hc (by decide) ?_
 try simp (disch:=first|decide|omega) only[Z4,Z5,Z6]
 generalize hsh:1+cell ns (2:Int).toNat/8%4=share
 have core:∀parts:Int,0<parts->parts<=40->Bh G (Ae G (n+1)) [.assign 4 (.list []),.for (.one 5) (.range [(.var 1)]) Dh,.ret (.var 4)] [some (.script ns),some (.int m),some (.int share),some (.int parts),none,none,none] H (fun _ H=>Q .none H) Q E:=by
  intro parts hp0 hp1
  simp only[Zf,Zs,Zu,Zw,Zy,Z0,Z1,B6,B7]
  intro a ha
  refine T8 ?_
  simp (disch:=first|decide|omega) only[Zf,Zu,Zv,Qd,Ai,Am]
  refine Gc (fun i r5 r6 as rows=>[some (.script ns),some (.int m),some (.int share),some (.int parts),some (.ref a),r5,r6]) (fun i r5 r6 as rows H'=>(K9 H H' a as rows)/\(rows.length=i)) none none [] [] rfl ⟨K9.start ha,rfl⟩ ?_ ?_
  ·rintro i r5 r6 as rows H' K hi ⟨b,hlen⟩ hK
   have hi':i<m:=hi
   simp only[Zw,Zx,Z0,Z1,B6,B7,Dh]
   refine grK ?_
   simp (disch:=first|decide|omega) only[Zf,Zu,Zv,Z2,Qd,Eg,Eh,Ai,Am,List.replicate]
   refine⟨by simp[Bp];exact(Nat.le_of_lt (Nat.lt_of_lt_of_le hi' (Af hm (by decide)))),?_⟩
   refine Cf (k:=0) (fun j acc ab=>ab=H'/\∃l:List Int,acc=l.map V.int/\l.length=j) ⟨rfl,[],rfl,rfl⟩ ?_ ?_
   ·rintro j x acc ab K' hx' hP10 hK'
    refine Aa fun nY=>?_
    obtain⟨rfl,l,rfl,hl⟩:=hP10
    rw[List.getElem?_map]at hx'
    obtain⟨j',hj,rfl⟩:=Option.map_eq_some_iff.mp hx'
    obtain⟨hlt,he⟩:=Da hj
    simp at hlt he
    subst he
    refine nY ?_;clear nY
    refine⟨trivial,_,rfl,?_⟩
    simp (disch:=first|decide|omega) only[Ze,Zf,Zk,Zn,Zu,Zv,Z4,Z6,Ai,Am,C9,true_and,Fl,Abf,hc,hx]
    refine⟨.inl (by decide),.inl (by decide),?_⟩
    refine C6 hc (Int.natCast_nonneg _) ?_
    refine⟨.inl (by decide),?_⟩
    refine K8 hx fun c c0 c1=>?_
    exact hK' _ _ ⟨rfl,l ++ [c],by simp,by simp[hl]⟩
   ·rintro acc ab hP11
    refine Aa fun nY=>?_
    obtain⟨rfl,cells,rfl,hl⟩:=hP11
    refine nY ?_;clear nY
    refine⟨trivial,fun x hx0=>?_⟩
    have hcl:cells.length=i:=by simpa using hl
    have hal:(as.map V.ref).length<1048576:=by rw[Bk,b.lists.1];exact Q55 hm hlen hi'
    have ha1:upd ab x (.list (cells.map V.int)) a=some (.list (as.map V.ref)):=(Al.upd hx0) _ _ b.at_
    simp (disch:=first|decide|omega) only[Zf,Zu,Zv,Ai,Am,true_and,Bo,A8 ha1]
    refine hrK ?_
    simp (disch:=first|decide|omega) only[Zf,Zu,Zv,Z2,Qd,Eg,Eh,Ai,Am,List.replicate]
    refine⟨by simp[Bp];exact(Nat.le_of_lt (Nat.lt_of_lt_of_le hi' (Af hm (by decide)))),?_⟩
    refine Ph (p:=fun k=>decide (cells.getD k 0%parts<share)) (fun j hj K' hK'=>?_) ?_
    ·have hj':j<cells.length:=(Nat.lt_of_lt_of_eq hj hcl.symm)
     have hsub:(cells.map V.int)[(j:Int).toNat]? = some (.int (cells.getD j 0)):=by
      rw[Int.toNat_natCast,List.getElem?_map,List.getElem?_eq_getElem hj',List.getD_eq_getElem?_getD,List.getElem?_eq_getElem hj'];rfl
     simp (disch:=first|decide|omega) only[Zf,Zk,Zl,Zq,Z4,Z8,Ch,Ai,Am,Fm,A9 (Ac) (Int.natCast_nonneg j) hsub]
     split
     ·rename_i h;rw[if_pos h]at hK';exact hK'
     ·rename_i h;rw[if_neg h]at hK';exact hK'
    ·generalize hR:(List.range ((i:Int)).toNat).filter (fun k=>decide (cells.getD k 0%parts<share))=R
     intro x1 hx1
     have hx1':ab x1=none:=(Al.upd hx0).isNone hx1
     have ha2:=(Al.upd (o:= .list ((M2 R).map V.int)) hx1) _ _ ha1
     simp only[Bq ha2 hal]
     refine hK _ _ _ _ _ ⟨b.snoc hx1' (fun y o _ h=>(Al.upd hx1) y o ((Al.upd hx0) y o h)) Ac ⟨?_,?_⟩,by simp[hlen]⟩
     ·unfold M2
      rw[Bk,<-hR]
      have:=List.length_filter_le (fun k=>decide (cells.getD k 0%parts<share)) (List.range ((i:Int)).toNat)
      rw[List.length_range]at this
      exact hlen▸this
     ·intro z hz
      obtain⟨k,hk,rfl⟩:=List.mem_map.mp hz
      rw[<-hR]at hk
      have:=List.mem_range.mp (List.mem_filter.mp hk).1
      exact⟨Int.natCast_nonneg _,Int.ofNat_lt.mpr (Nat.lt_of_lt_of_eq this hlen.symm)⟩
  ·rintro r5 r6 as rows H' ⟨b,hlen⟩
   simp only[Ai,Am]
   exact q a as rows H' b.ext b.new b.at_ b.lists ⟨hlen,b.ok⟩
 refine Bm (decide ((20:Int)<m)) (fun Q' h'=>?_) ?_
 ·simp only[Ze,Zf,Zl,Zba,Ai,Am];exact h'
 ·split
  ·refine Ad (Cd (Afj (I6 ?_)));exact core 40 (by decide) (by decide)
  ·refine I6 ?_;exact core 5 (by decide) (by decide)
set_option linter.all false
variable {G:A2} {n:Nat} {H H':AH} {Q:Ag} {E:EP} {C:CS} {ρ:Ak}
theorem Abj{a:Nat}{xs:List V}{k:Int}{v:V}{N:AH->Prop}(h:H a=some (.list xs))(h0:0<=k)(hk:k<xs.length):setItem (.ref a) (.int k) v H N=N (upd H a (.list (xs.set k.toNat v))):=by
 have:C0 k xs.length=some k.toNat:=by delta C0;rw[if_pos h0,if_pos hk]
 delta setItem;(try dsimp only[A1,Ar]);rw[h];(try dsimp only);rw[this];(try dsimp only[Ff])
theorem Aea{a:Nat}{xs:List V}{k:Int}{v:V}{N:AH->Prop}(h:H a=some (.list xs))(h0:0<=k)(hk:k<xs.length)(kk:N (upd H a (.list (xs.set k.toNat v)))):setItem (.ref a) (.int k) v H N:=Eq.mpr (Abj h h0 hk) kk
theorem Abk(hG:G.fn "_law_ringed" = some G3){m:Nat}{c:Int}(hm:m<=60)(q:K7 H m Q):Ae G (n+1) "_law_ringed" [.int m,.int c] H Q E:=by
 refine Aj hG rfl ?_
 simp (disch:=first|decide|omega) only[Ze,Zf,Zk,Zw,Zy,Z0,Z1,Z4,Z5,Z6,List.map,Eg,Eh,Ai,Am,List.replicate,B6,B7,G3]
 generalize hsz:4+c%5=size
 generalize hst:size+c/5%4=step
 have hsize:4<=size:=(Int.le_trans (Int.le_add_of_nonneg_right (Int.emod_nonneg _ (by decide))) (Int.le_of_eq hsz))
 have hstep:size<=step/\step<100:=(Q75 hsz hst)
 refine grK ?_
 simp (disch:=first|decide|omega) only[Zf,Zu,Zv,Z2,Qd,Eg,Eh,Ai,List.replicate]
 refine⟨by simp[Bp];exact W3 hm,Iz (P:=Mt) (fun i H' K hi e1 hK=>?_) fun as rows H' e1 h1 h2 h3=>?_⟩
 ·simp (disch:=first|decide|omega) only[Ze,Zf,Zk,Zo,Zu,Zv,Z7,Zbl,Zbr,Ai,Hm]
  intro a ha
  rw[On]
  exact hK a _ _ (Al.upd ha) Ac (I0 (Int.le_max_left _ _) (Q36 (by decide)))
 ·intro a ha
  refine T8 ?_
  simp (disch:=first|decide|omega) only[Zf,Zu,Zv,Qd,Ai]
  refine Iy (fun i ρ ab=>(Ex3 fun r4 as rows=>An6 (ρ = [some (.int m),some (.int c),some (.int size),some (.int step),r4,some (.ref a)]) (Al H ab) (ab a=some (.list (as.map V.ref))) (D8 ab as rows) ((∀x∈as,x≠a)) (Wf m rows))) ?_ ?_ ?_
  ·refine⟨none,as,rows,rfl,e1.trans (Al.upd ha),Ac,h1.ext (Al.upd ha),fun x hx hxa=>?_,⟨h2,h3⟩⟩
   subst hxa
   obtain⟨i,hi⟩:=List.mem_iff_getElem?.mp hx
   have hlt:=(Da hi).1
   have:=h1.2 i x _ hi (List.getElem?_eq_getElem (by rw[<-h1.1];exact hlt))
   unfold LI at this
   rw[ha]at this;cases this
  ·rintro i ρ ab K hi ⟨r4,as,rows,rfl,e,hA,hR,hne,hW⟩ hK
   have hi':i<m:=hi
   simp only[Z0,Z1,B6,B7,Hn]
   refine Bm (decide ((i:Int)%step=size-1)) (fun Q' h'=>?_) ?_
   ·simp (disch:=first|decide|omega) only[Ze,Zf,Zk,Zl,Z4,Z7,X2,Ai,Am];exact h'
   ·split
    ·rename_i hh
     simp only[decide_eq_true_eq]at hh
     have hle:(i:Int)%step<=i:=by
      have h1:=Int.mul_ediv_add_emod (i:Int) step
      have h2:0<=step*((i:Int)/step):=Int.mul_nonneg (Int.le_trans (Int.le_trans (by decide) hsize) hstep.1) (Int.ediv_nonneg T4 (Int.le_trans (Int.le_trans (by decide) hsize) hstep.1))
      exact Int.le_trans (Int.le_add_of_nonneg_left h2) (Int.le_of_eq h1)
     simp only[Ze,Zf,Zk,Zs,Zu,Zv,Z0,Z1,Z6,Z7,Ai,Am,Bl]
     intro x hx
     have hA':=(Al.upd (o:= .list [.int ((i:Int)+1-size),.int ((i:Int)-1)]) hx) _ _ hA
     have hL:i<(as.map V.ref).length:=by rw[Bk,hR.1,hW.1];exact hi'
     refine Aea hA' T4 (W4 hL) ?_
     have hxa:x≠a:=fun z=>by rw[z,hA]at hx;cases hx
     have hHa:H a=none:=e1.isNone ha
     refine hK _ _ ⟨_,as.set i x,rows.set i [(i:Int)+1-size,(i:Int)-1],rfl,(e.trans (Al.upd hx)).upd' hHa,?_,?_,?_,?_⟩
     ·rw[Ac,Int.toNat_natCast,List.map_set]
     ·refine D8.upd ?_ ?_
      ·refine⟨by simp[hR.1],fun k y r h1 h2=>?_⟩
       rw[List.getElem?_set]at h1 h2
       by_cases hki:i=k
       ·subst hki
        rw[if_pos rfl]at h1 h2
        rw[if_pos (by rw[<-hR.1];simpa using hL)]at h2
        rw[if_pos (by simpa using hL)]at h1
        cases h1;cases h2
        exact Ac
       ·rw[if_neg hki]at h1 h2
        exact(hR.2 k y r h1 h2).ext (Al.upd hx)
      ·intro y hy
       rcases List.mem_or_eq_of_mem_set hy with hy|hy
       ·exact hne y hy
       ·rw[hy];exact hxa
     ·intro y hy
      rcases List.mem_or_eq_of_mem_set hy with hy|hy
      ·exact hne y hy
      ·rw[hy];exact hxa
     ·refine⟨List.length_set.trans hW.1,fun k r h2=>?_⟩
      rw[List.getElem?_set]at h2
      by_cases hki:i=k
      ·subst hki
       rw[if_pos rfl,if_pos (by rw[hW.1];exact hi')]at h2
       cases h2
       exact⟨by simp;exact Q82 hsize hh hle,by simp;exact Q83 hsize hh hle⟩
      ·rw[if_neg hki]at h2
       exact hW.2 k r h2
    ·simp only[Z0]
     exact hK _ _ ⟨_,as,rows,rfl,e,hA,hR,hne,hW⟩
  ·rintro ρ ab ⟨r4,as,rows,rfl,e,hA,hR,hne,hW⟩
   simp only[Ai,Am]
   exact q a as rows ab e (e1.isNone ha) hA hR hW
structure Iv(G:A2):Prop where
 cellAt:G.fn "_law_cell_at" = some B9
 mixed:G.fn "_law_mixed" = some D6
 earlier:G.fn "_law_earlier" = some F7
 anyRows:G.fn "_law_any_rows" = some E1
 banded:G.fn "_law_banded" = some G2
 ringed:G.fn "_law_ringed" = some G3
 hubbed:G.fn "_law_hubbed" = some G4
 rows:G.fn "_law_rows" = some Nq
 name:G.fn "_law_name" = some J0
 ties:G.fn "_law_ties" = some Nr
 near:G.fn "_law_near" = some Nt
 init:G.fn "Web.__init__" = some Kd
 need:G.fn "Web.need" = some Nm
 tied:G.fn "Web.tied" = some Nn
 wties:G.fn "Web.ties" = some Np
 webOf:G.fn "web_of" = some Rz
 most:G.const "MOST" = some (.int 60)
theorem Agi(B:Iv G){ns:List Int}{m:Nat}(hm:m<=60)(q:K7 H m Q):Ae G (n+3) "_law_rows" [.script ns,.int m] H Q E:=by
 refine Aj B.rows rfl ?_
 simp only[Ze,Zf,Zk,Zn,Zu,Zv,Zw,Zy,Z0,Z1,List.map,Eg,Eh,Ai,List.replicate,B6,B7,C9,true_and,Nq,B.cellAt,B.earlier]
 refine C6 B.cellAt (by decide) ?_
 try simp (disch:=first|decide|omega) only[Z4]
 refine C6 B.cellAt (by decide) ?_
 try simp (disch:=first|decide|omega) only[Z5]
 generalize hk:cell ns (2:Int).toNat%8=kind
 generalize hc:cell ns (2:Int).toNat/8=c
 refine Bm (decide (kind=1)&&decide (3<(m:Int))) (fun Q' h'=>?_) ?_
 ·simp only[Ze,Zf,Zi,Zl,Zba,X2,Ch,Ai,Am];split<;>simp_all
 split
 ·rename_i hh
  simp only[Bool.and_eq_true,decide_eq_true_eq]at hh
  simp (disch:=first|decide|omega) only[Ze,Zf,Zk,Zn,Zu,Zv,Zy,Z0,Z1,Z4,Z6,Z7,Ai,Am]
  refine⟨by rw[B.earlier];rfl,?_⟩
  have hc1:0<=c%((m:Int)-3):=Int.emod_nonneg _ (Int.ne_of_gt (Int.sub_pos_of_lt hh.2))
  exact Qf B.cellAt B.mixed B.earlier hm (.inr (Int.le_add_of_nonneg_right hc1)) q
 simp only[Z0]
 refine Bm ((decide (1<kind)&&decide (kind<5))&&decide ((m:Int)<41)) (fun Q' h'=>?_) ?_
 ·simp only[Ze,Zf,Zi,Zl,Zm,Z8,Ch,Ai,Am]
  split<;>(try split)<;>simp_all
 split
 ·simp only[Zf,Zn,Zu,Zv,Zy,Z0,Z1,Ai,Am,C9,true_and,B.anyRows]
  exact U8 B.cellAt B.mixed B.anyRows hm q
 simp only[Z0]
 refine Bm (decide (kind=5)) (fun Q' h'=>?_) ?_
 ·simp only[Ze,Zf,Zl,X2,Ai,Am];exact h'
 split
 ·simp only[Zf,Zn,Zu,Zv,Zy,Z0,Z1,Ai,Am,C9,true_and,B.banded]
  exact Abh B.banded hm q
 simp only[Z0]
 refine Bm (decide (kind=6)) (fun Q' h'=>?_) ?_
 ·simp only[Ze,Zf,Zl,X2,Ai,Am];exact h'
 split
 ·simp only[Zf,Zn,Zu,Zv,Zy,Z0,Z1,Ai,Am,C9,true_and,B.ringed]
  exact Abk B.ringed hm q
 simp only[Z0]
 refine Bm (decide (kind=7)) (fun Q' h'=>?_) ?_
 ·simp only[Ze,Zf,Zl,X2,Ai,Am];exact h'
 split
 ·simp only[Zf,Zn,Zu,Zv,Zy,Z0,Z1,Ai,Am,C9,true_and,B.hubbed]
  exact Abi B.hubbed hm q
 simp only[Z0,Ai,Am]
 exact Qf B.cellAt B.mixed B.earlier hm (.inl rfl) q
set_option linter.all false
variable {G:A2} {n:Nat} {H H':AH} {Q:Ag} {E:EP} {C:CS} {ρ:Ak}
theorem Ab{o:O}(q:∀a H',Al H H'->H a=none->H' a=some o->Q (.ref a) H'):Au o H Q:=fun a ha=>q a _ (Al.upd ha) ha Ac
noncomputable def E9(p:Int×Int):O:= .tuple [.int p.1,.int p.2]
noncomputable def An(H:AH)(as:List Nat)(ps:List (Int×Int)):Prop:=as.map H=ps.map fun p=>some (E9 p)
theorem An.len{as:List Nat}{ps:List (Int×Int)}(h:An H as ps):as.length=ps.length:=by
 have:=congrArg List.length h
 simpa using this
theorem An.at_{as:List Nat}{ps:List (Int×Int)}{i x:Nat}{p:Int×Int}(h:An H as ps)(h1:as[i]? = some x)(h2:ps[i]? = some p):H x=some (E9 p):=by
 have:=congrArg (fun l=>l[i]?) h
 simpa[h1,h2]using this
theorem An.ex{as:List Nat}{ps:List (Int×Int)}{i x:Nat}(h:An H as ps)(h1:as[i]? = some x):∃p,ps[i]? = some p/\H x=some (E9 p):=by
 have hl:=(Da h1).1
 rw[h.len]at hl
 exact⟨_,List.getElem?_eq_getElem hl,h.at_ h1 (List.getElem?_eq_getElem hl)⟩
theorem An.ext'{as:List Nat}{ps:List (Int×Int)}(h:An H as ps)(e:∀x∈as,∀o,H x=some o->H' x=some o):An H' as ps:=by
 unfold An at *
 rw[<-h]
 refine List.map_congr_left fun x hx=>?_
 obtain⟨i,hi⟩:=List.mem_iff_getElem?.mp hx
 obtain⟨p,_,hp⟩:=An.ex (H:=H) (ps:=ps) h hi
 rw[hp]
 exact e x hx _ hp
theorem An.ext{as:List Nat}{ps:List (Int×Int)}(h:An H as ps)(e:Al H H'):An H' as ps:=h.ext' fun x _ o q=>e x o q
theorem An.app{as bs:List Nat}{ps qs:List (Int×Int)}(h:An H as ps)(h':An H bs qs):An H (as++bs) (ps++qs):=by
 unfold An at *
 rw[List.map_append,List.map_append,h,h']
theorem An.take{as:List Nat}{ps:List (Int×Int)}(k:Nat)(h:An H as ps):An H (as.take k) (ps.take k):=by
 unfold An at *
 rw[List.map_take,List.map_take,h]
theorem An.drop{as:List Nat}{ps:List (Int×Int)}(k:Nat)(h:An H as ps):An H (as.drop k) (ps.drop k):=by
 unfold An at *
 rw[List.map_drop,List.map_drop,h]
theorem An.one{x:Nat}{p:Int×Int}(h:H x=some (E9 p)):An H [x] [p]:=by
 unfold An;simp[h]
theorem Aeb{a:Nat}{xs:List V}{l u:V}{l' u':Option Int}(h:H a=some (.list xs))(hl:bound? l=some l')(hu:bound? u=some u'):C8 (.ref a) l u .none H Q=Au (.list (cut xs l' u')) H Q:=by
 delta C8;dsimp only;delta Qo;rw[hl];(try dsimp only[Ff]);rw[hu];(try dsimp only[Ff]);rw[h];rfl
theorem Ct{a:Nat}{xs:List V}{l u:V}{l' u':Option Int}(h:H a=some (.list xs))(hl:bound? l=some l')(hu:bound? u=some u')(kk:Au (.list (cut xs l' u')) H Q):C8 (.ref a) l u .none H Q:=Eq.mpr (Aeb h hl hu) kk
theorem Gd:bound? .none=some none:=rfl
theorem Hw{k:Int}:bound? (.int k)=some (some k):=rfl
theorem Rd{xs:List V}{k:Int}(h:0<=k):cut xs none (some k)=xs.take k.toNat:=by
 unfold cut Fi
 simp only[if_neg (show ¬k<0 by exact Q86 h),List.drop_zero]
 rcases Nat.le_total k.toNat xs.length with q|q
 ·rw[Nat.min_eq_left q]
 ·rw[Nat.min_eq_right q,List.take_of_length_le q,List.take_of_length_le (Nat.le_refl _)]
theorem Lw{xs:List V}{k:Int}(h:0<=k):cut xs (some k) none=xs.drop k.toNat:=by
 unfold cut Fi
 simp only[if_neg (show ¬k<0 by exact Q86 h),List.take_length]
 rcases Nat.le_total k.toNat xs.length with q|q
 ·rw[Nat.min_eq_left q]
 ·rw[Nat.min_eq_right q,List.drop_of_length_le q,List.drop_of_length_le (Nat.le_refl _)]
theorem Aec{xs:List V}{k l:Int}(h:0<=k)(h':0<=l):cut xs (some k) (some l)=(xs.take l.toNat).drop k.toNat:=by
 unfold cut Fi
 simp only[if_neg (show ¬k<0 by exact Q86 h),if_neg (show ¬l<0 by exact Q86 h')]
 have e:xs.take (min l.toNat xs.length)=xs.take l.toNat:=by
  rcases Nat.le_total l.toNat xs.length with q|q
  ·rw[Nat.min_eq_left q]
  ·rw[Nat.min_eq_right q,List.take_of_length_le q,List.take_of_length_le (Nat.le_refl _)]
 rw[e]
 rcases Nat.le_total k.toNat xs.length with q|q
 ·rw[Nat.min_eq_left q]
 ·rw[Nat.min_eq_right q,List.drop_of_length_le (by simp;exact(Nat.min_le_right _ _)),List.drop_of_length_le (by simp;exact(Af (Nat.min_le_right _ _) q))]
theorem Agj{a b:Nat}{xs ys:List V}(h:H a=some (.list xs))(h':H b=some (.list ys))(hl:xs.length+ys.length<=1048576):Ek .Add (.ref a) (.ref b) H Q=Au (.list (xs++ys)) H Q:=by
 delta Ek;(try dsimp only);(first|delta Vj|delta Vk|skip);(try dsimp only[A1,Ar]);rw[h];(try dsimp only[Gh]);rw[h'];(try dsimp only[Gh])
 exact propext ⟨fun h=>h.2,fun q=>⟨hl,q⟩⟩
theorem Ex{a b:Nat}{xs ys:List V}(h:H a=some (.list xs))(h':H b=some (.list ys))(hl:xs.length+ys.length<=1048576)(kk:Au (.list (xs++ys)) H Q):Ek .Add (.ref a) (.ref b) H Q:=Eq.mpr (Agj h h' hl) kk
theorem Agk{a:Nat}{xs:List V}{k:Int}(h:H a=some (.list xs))(h0:0<=k)(h1:k<=1000)(hl:xs.length*k.toNat<=1048576):Ek .Mult (.ref a) (.int k) H Q=Au (.list (List.replicate k.toNat xs).flatten) H Q:=by
 delta Ek;(try dsimp only);(first|delta Vj|delta Vk|skip);(try dsimp only[A1,Ar]);rw[h];(try dsimp only[Gh])
 exact propext ⟨fun h=>h.2,fun q=>⟨⟨h0,h1,hl⟩,q⟩⟩
theorem Aed{a:Nat}{xs:List V}{k:Int}(h:H a=some (.list xs))(h0:0<=k)(h1:k<=1000)(hl:xs.length*k.toNat<=1048576)(kk:Au (.list (List.replicate k.toNat xs).flatten) H Q):Ek .Mult (.ref a) (.int k) H Q:=Eq.mpr (Agk h h0 h1 hl) kk
noncomputable def Wm(ns:List Int)(m:Nat)(rows:List (List Int))(p:Int×Int):Prop:=
 (Ex3 fun(k:Nat) (r:List Int) (one:Int)=>Fe (rows[k]? = some r) (one∈r) ((p=(Ba ns m k,Ba ns m one)\/p=(Ba ns m one,Ba ns m k))))
noncomputable def Abl(ns:List Int)(m:Nat)(rows:List (List Int))(ps:List (Int×Int)):Prop:=
 (∀p∈ps,Wm ns m rows p)/\∀(k:Nat) (r:List Int) (one:Int),rows[k]? = some r->one∈r->(Ba ns m k,Ba ns m one)∈ps\/(Ba ns m one,Ba ns m k)∈ps
structure TB(H H':AH)(t:Nat)(as:List Nat)(ps:List (Int×Int)):Prop where
 ext:Al H H'
 new:H t=none
 at_:H' t=some (.list (as.map V.ref))
 prs:An H' as ps
 ne:∀x∈as,x≠t
theorem TB.snoc{t x:Nat}{as:List Nat}{ps:List (Int×Int)}{p:Int×Int}{ab:AH}(b:TB H H' t as ps)(e:Al H' ab)(hn:H' x=none)(hx:ab x=some (E9 p)):TB H (upd ab t (.list (as.map V.ref ++ [.ref x]))) t (as ++ [x]) (ps ++ [p]):=by
 have hxt:x≠t:=fun q=>by rw[q,b.at_]at hn;cases hn
 have hne:∀y∈as ++ [x],y≠t:=fun y hy=>by
  rcases List.mem_append.mp hy with hy|hy
  ·exact b.ne y hy
  ·simp at hy;rw[hy];exact hxt
 refine⟨(b.ext.trans e).upd' b.new,b.new,by rw[Ac];simp,((b.prs.ext e).app (An.one hx)).ext' fun y hy o q=>by rw[upd_ne (hne y hy)];exact q,hne⟩
theorem Agl(B:Iv G){ns:List Int}{m a:Nat}{as:List Nat}{rows:List (List Int)}(hm:m<=60)(hA:H a=some (.list (as.map V.ref)))(hR:D8 H as rows)(hW:Wf m rows)
 (q:∀t ts ps H',Al H H'->H t=none->H' t=some (.list (ts.map V.ref))->An H' ts ps->Abl ns m rows ps->ps.length<=4000->Q (.ref t) H') :
 Ae G (n+3) "_law_ties" [.script ns,.int m,.ref a] H Q E:=by
 refine Aj B.ties rfl ?_
 simp only[Zc,Ze,Zf,Zk,Zr,Zs,Zu,Zw,Zy,Z0,Z1,List.map,Eg,Eh,List.replicate,B6,B7,Nr]
 intro t ht
 refine T8 ?_
 simp (disch:=first|decide|omega) only[Zf,Zu,Zv,Qd,Ai,Am]
 refine Pe (fun i r4 r5 r6 ts ps=>[some (.script ns),some (.int m),some (.ref a),some (.ref t),r4,r5,r6]) (fun i r4 r5 r6 ts ps H'=>O4 (TB H H' t ts ps) (ps.length<=60*i) ((∀p∈ps,Wm ns m rows p)) (∀(k:Nat) (r:List Int) (one:Int),k<i->rows[k]? = some r->one∈r->(Ba ns m k,Ba ns m one)∈ps\/(Ba ns m one,Ba ns m k)∈ps)) none none none [] [] rfl ⟨⟨Al.upd ht,ht,Ac,rfl,fun _ h=>absurd h List.not_mem_nil⟩,Nat.le_refl _,fun _ h=>absurd h List.not_mem_nil,by(first|lia|omega)⟩ ?_ ?_
 ·rintro i r4 r5 r6 ts ps H' K hi hP12 hK
  refine Aa fun nY=>?_
  obtain⟨b,hlen,htie,hall⟩:=hP12
  have hi':i<m:=hi
  refine nY ?_;clear nY
  have hil:i<rows.length:=by rw[hW.1];exact hi'
  have hial:i<as.length:=by rw[hR.1];exact hil
  have hxi:as[i]? = some (as[i]):=List.getElem?_eq_getElem hial
  have hri:rows[i]? = some (rows[i]):=List.getElem?_eq_getElem hil
  generalize as[i]=xi at hxi
  generalize rows[i]=ri at hri
  have hok:=hW.2 i ri hri
  have hLi:LI H xi ri:=hR.2 i xi ri hxi hri
  have hsub:(as.map V.ref)[(i:Int).toNat]? = some (.ref xi):=by rw[Int.toNat_natCast,List.getElem?_map,hxi];rfl
  simp only[Z0,Z1,B6,B7,Ji]
  refine M8 ?_
  simp only[Zf,Zq,Ai,Am]
  refine Fy (b.ext _ _ hA) T4 hsub (Aq (b.ext _ _ hLi) ?_)
  refine Ms (fun j r5 r6 ts ps=>[some (.script ns),some (.int m),some (.ref a),some (.ref t),some (.int i),r5,r6]) (fun j r5 r6 ts ps H'=>Vh (TB H H' t ts ps) (ps.length<=60*i+j) ((∀p∈ps,Wm ns m rows p)) ((∀(k:Nat) (r:List Int) (one:Int),k<i->rows[k]? = some r->one∈r->(Ba ns m k,Ba ns m one)∈ps\/(Ba ns m one,Ba ns m k)∈ps)) (∀one∈ri.take j,(Ba ns m i,Ba ns m one)∈ps\/(Ba ns m one,Ba ns m i)∈ps)) _ _ ts ps rfl ⟨b,hlen,htie,hall,fun _ h=>absurd h List.not_mem_nil⟩ ?_ ?_ ?_
  ·rintro j r5 r6 ts ps H' ⟨b,_⟩
   exact b.ext _ _ hLi
  ·rintro j v r5 r6 ts ps H' K' hv hP13 hK'
   refine Aa fun nY=>?_
   obtain⟨b,hlen,htie,hall,hj⟩:=hP13
   rw[List.getElem?_map]at hv
   obtain⟨one,hone,rfl⟩:=Option.map_eq_some_iff.mp hv
   have hmem:=List.mem_of_getElem? hone
   have hone2:=hok.2 one hmem
   have hjl:=(Da hone).1
   have hrl:=hok.1
   refine nY ?_;clear nY
   simp only[Zf,Zn,Zt,Zu,Zv,Zw,Zx,Z0,Z1,Ai,Am,B6,B7,C9,true_and,Jh,B.name]
   refine Abg B.cellAt B.name (Q89 hi') (Q90 hm) ?_
   refine Abg B.cellAt B.name (Q89 hi') (Q90 hm) ?_
   generalize hnk:Ba ns m i=nk
   generalize hno:Ba ns m one=no
   intro x hx
   have done:∀(y:Nat) (p:Int×Int) (ab:AH),Al H' ab->H' y=none->ab y=some (E9 p)->(p=(nk,no)\/p=(no,nk))->
    Bh G (Ae G (n+2)) [.expr (.lm .append (.var 3) [(.var 6)])] [some (.script ns),some (.int m),some (.ref a),some (.ref t),some (.int i),some (.int one),some (.ref y)] ab K' Q E:=by
    intro y p ab e hy hp hpp
    have ht1:=e _ _ b.at_
    have hl:(ts.map V.ref).length<1048576:=by rw[Bk,b.prs.len];exact Nat.lt_of_le_of_lt (Af hlen (Nat.add_le_add (Nat.mul_le_mul_left 60 (Af (Nat.le_of_lt hi') hm)) (Af (Nat.le_of_lt hjl) (Af hrl (Af (Nat.le_of_lt hi') hm))))) (by decide)
    simp (disch:=first|decide|omega) only[Zf,Zu,Zv,Zx,Z0,Z1,Ai,Am,true_and,Bo,A8 ht1,Bq ht1 hl]
    refine hK' _ _ _ _ _ ⟨b.snoc e hy hp,by simp;exact(Nat.succ_le_succ hlen),?_,?_,?_⟩
    ·intro p' hp'
     refine Aa fun nY=>?_
     rcases List.mem_append.mp hp' with h|h
     ·refine nY ?_;clear nY
      exact htie p' h
     ·simp at h;subst h
      refine nY ?_;clear nY
      refine⟨i,ri,one,hri,hmem,?_⟩
      rw[hnk,hno];exact hpp
    ·intro k r o h1 h2 h3
     refine Aa fun nY=>?_
     rcases hall k r o h1 h2 h3 with h|h
     ·refine nY ?_;clear nY
      exact .inl (List.mem_append_left _ h)
     ·refine nY ?_;clear nY
      exact .inr (List.mem_append_left _ h)
    ·intro o ho
     rw[List.take_add_one,hone]at ho
     refine Aa fun nY=>?_
     rcases List.mem_append.mp ho with h|h
     ·rcases hj o h with h|h
      ·refine nY ?_;clear nY
       exact .inl (List.mem_append_left _ h)
      ·refine nY ?_;clear nY
       exact .inr (List.mem_append_left _ h)
     ·simp at h;subst h
      refine nY ?_;clear nY
      rw[hnk,hno]
      refine Aa fun nY=>?_
      rcases hpp with rfl|rfl
      ·refine nY ?_;clear nY
       exact .inl (List.mem_append_right _ List.mem_cons_self)
      ·refine nY ?_;clear nY
       exact .inr (List.mem_append_right _ List.mem_cons_self)
   refine Bm (decide (((i:Int)+one)%2=1)) (fun Q' h'=>?_) ?_
   ·simp (disch:=first|decide|omega) only[Ze,Zf,Zk,Zl,Z4,Z6,X2,Ai,Am];exact h'
   split
   ·simp only[Ze,Zf,Zq,Zt,Zu,Zv,Zw,Z0,Z1,Ai,Am,B6,B7]
    refine Fz (x:= .int no) Ac (by decide) rfl ?_
    refine Fz (x:= .int nk) Ac (by decide) rfl ?_
    intro y hy
    exact done y (no,nk) _ ((Al.upd hx).trans (Al.upd hy)) ((Al.upd hx).isNone hy) Ac (.inr rfl)
   ·simp only[Z0]
    exact done x (nk,no) _ (Al.upd hx) hx Ac (.inl rfl)
  ·rintro r5 r6 ts ps H' hP14
   refine Aa fun nY=>?_
   obtain⟨b,hlen,htie,hall,hj⟩:=hP14
   refine nY ?_;clear nY
   refine hK _ _ _ ts ps _ ⟨b,?_,htie,?_⟩
   ·rw[Bk]at hlen
    have:=hok.1
    exact Af hlen (Nat.add_le_add_left (Af this (Af (Nat.le_of_lt hi') hm)) _)
   ·intro k r one h1 h2 h3
    refine Aa fun nY=>?_
    by_cases hki:k=i
    ·subst hki
     rw[hri]at h2
     cases h2
     refine nY ?_;clear nY
     refine hj one ?_
     rw[Bk,List.take_of_length_le (Nat.le_refl _)];exact h3
    ·refine nY ?_;clear nY
     exact hall k r one (Nat.lt_of_le_of_ne (Nat.le_of_lt_succ h1) hki) h2 h3
 ·rintro r4 r5 r6 ts ps H' hP15
  refine Aa fun nY=>?_
  obtain⟨b,hlen,htie,hall⟩:=hP15
  refine nY ?_;clear nY
  simp only[Ai,Am]
  have hlen2:ts.length<=3600:=by
   rw[b.prs.len]
   simp only[Int.toNat_natCast]at hlen
   exact Af hlen (Nat.mul_le_mul_left 60 hm)
  refine gvK ?_
  simp only[Zc,Ze,Zf,Zr,Z2,Eg,Eh,Ai,Am,List.replicate]
  (refine Ct b.at_ Gd Hw ?_;rw[Rd (by decide)])
  refine Ab fun s1 ab ets1 _ hs1v=>?_
  (try dsimp only)
  refine Aq hs1v ?_
  have p1:=(b.prs.take 3).ext ets1
  refine⟨by simp[Bp];exact(Af (Nat.min_le_left _ _) (by decide)),?_⟩
  have hat1:=ets1 _ _ b.at_
  refine Cf (k:=0) (fun j acc ae=>(O2 fun us=>Fe (acc=us.map V.ref) (Al ab ae) (An ae us (((ps.take 3).take j).map fun p=>(p.2,p.1))))) ⟨[],rfl,Al.refl,rfl⟩ ?_ ?_
  ·rintro j x acc ae K hx hP16 hK
   refine Aa fun nY=>?_
   obtain⟨us,rfl,e,hp⟩:=hP16
   rw[List.getElem?_map]at hx
   obtain⟨v,hv,rfl⟩:=Option.map_eq_some_iff.mp hx
   rw[<-List.map_take,List.getElem?_map]at hv
   obtain⟨y,hy,rfl⟩:=Option.map_eq_some_iff.mp hv
   obtain⟨p,hpj,hpy⟩:=p1.ex hy
   refine nY ?_;clear nY
   refine⟨e _ _ hs1v,_,rfl,?_⟩
   simp only[Ze,Zf,Zq,Zt,Zu,Zv,Ai,Jj]
   refine Fz (x:= .int p.2) (e _ _ hpy) (by decide) rfl ?_
   refine Fz (x:= .int p.1) (e _ _ hpy) (by decide) rfl ?_
   refine Ab fun z ag e3 _ v3=>?_
   refine hK _ _ ⟨us ++ [z],by simp,e.trans e3,?_⟩
   rw[Nat.zero_add,List.take_add_one,hpj,Option.toList_some,List.map_append]
   rw[Nat.zero_add]at hp
   exact(hp.ext e3).app (An.one (p:=(p.2,p.1)) v3)
  ·rintro acc ae hP17
   refine Aa fun nY=>?_
   obtain⟨us,rfl,e,hp⟩:=hP17
   refine nY ?_;clear nY
   refine⟨e _ _ hs1v,?_⟩
   have hul:us.length<=3:=by
    rw[hp.len];simp;exact Nat.min_le_left _ _
   have eA:=ets1.trans e
   refine Ab fun u Hu eu _ vu=>?_
   (try dsimp only)
   refine Ex ((eA.trans eu) _ _ b.at_) vu (by simp;exact(Af (Nat.add_le_add hlen2 hul) (by decide))) ?_
   refine Ab fun s2 ag e2 _ v2=>?_
   (try dsimp only)
   have e3:=(eA.trans eu).trans e2
   (refine Ct (e3 _ _ b.at_) Hw Hw ?_;rw[Aec (by decide) (by decide)])
   refine Ab fun s3 ah e4 _ v4=>?_
   (try dsimp only)
   refine Ex (e4 _ _ v2) v4 (by simp;exact(Af (Nat.add_le_add (Nat.add_le_add hlen2 hul) (Af (Nat.sub_le _ _) (Nat.min_le_left _ _))) (by decide))) ?_
   refine Ab fun s4 ak e5 _ v5=>?_
   (try dsimp only)
   have e35:=(e3.trans e4).trans e5
   (refine Ct (e35 _ _ b.at_) Gd Hw ?_;rw[Rd (by decide)])
   refine Ab fun s5 al e6 _ v6=>?_
   (try dsimp only)
   refine Aed v6 (by decide) (by decide) (by simp;exact(Af (Nat.mul_le_mul_right 2 (Nat.min_le_left _ _)) (by decide))) ?_
   refine Ab fun s6 au e7 _ v7=>?_
   (try dsimp only)
   refine Ex ((e6.trans e7) _ _ v5) v7 (by simp;exact(Af (Nat.add_le_add (Nat.add_le_add hlen2 (Nat.add_le_add hul (Af (Nat.sub_le _ _) (Nat.min_le_left _ _)))) (Nat.add_le_add (Nat.min_le_left _ _) (Nat.min_le_left _ _))) (by decide))) ?_
   refine Ab fun s7 aq e8 n8 v8=>?_
   have e7a:=(e35.trans e6).trans e7
   have eAll:=e7a.trans e8
   have hn7:H s7=none:=b.ext.isNone (e7a.isNone n8)
   have P:=b.prs.ext eAll
   have P':=hp.ext ((((((eu.trans e2).trans e4).trans e5).trans e6).trans e7).trans e8)
   refine q s7 (ts++us++(ts.take 4).drop 1++(ts.take 1++ts.take 1)) (ps++_++(ps.take 4).drop 1++(ps.take 1++ps.take 1)) _ (b.ext.trans eAll) hn7 ?_ (((P.app P').app ((P.take 4).drop 1)).app ((P.take 1).app (P.take 1))) ⟨?_,?_⟩ ?_
   ·rw[v8]
    simp[List.replicate,List.map_take]
   ·intro p hp
    have sub:∀p,p∈ps->Wm ns m rows p:=htie
    simp only[List.mem_append]at hp
    refine Aa fun nY=>?_
    rcases hp with((h|h)|h)|(h|h)
    ·refine nY ?_;clear nY
     exact htie p h
    ·obtain⟨p',h',rfl⟩:=List.mem_map.mp h
     obtain⟨k,r,one,h1,h2,h3⟩:=htie p' (List.mem_of_mem_take (List.mem_of_mem_take h'))
     refine nY ?_;clear nY
     refine⟨k,r,one,h1,h2,?_⟩
     refine Aa fun nY=>?_
     rcases h3 with rfl|rfl
     ·refine nY ?_;clear nY
      exact .inr rfl
     ·refine nY ?_;clear nY
      exact .inl rfl
    ·refine nY ?_;clear nY
     exact htie p (List.mem_of_mem_take (List.mem_of_mem_drop h))
    ·refine nY ?_;clear nY
     exact htie p (List.mem_of_mem_take h)
    ·refine nY ?_;clear nY
     exact htie p (List.mem_of_mem_take h)
   ·intro k r one h1 h2
    have hk:k<rows.length:=(Da h1).1
    rw[hW.1]at hk
    refine Aa fun nY=>?_
    rcases hall k r one hk h1 h2 with h|h
    ·refine nY ?_;clear nY
     exact .inl (by simp[h])
    ·refine nY ?_;clear nY
     exact .inr (by simp[h])
   ·have:=b.prs.len
    have h8:=hp.len
    simp only[List.length_append,List.length_take,List.length_drop,<-h8]
    exact Ajr hlen2 hul this
set_option linter.all false
/-! sorting -/
theorem Ey(x:Int)(l:List Int):(Mx x l).Perm (x::l):=by
 induction l with
 | nil=>exact List.Perm.refl _
 | cons y r ih=>
   unfold Mx
   split
   ·exact List.Perm.refl _
   ·exact(ih.cons y).trans (List.Perm.swap x y r)
theorem Ca(l:List Int):(Bu l).Perm l:=by
 induction l with
 | nil=>exact List.Perm.refl _
 | cons x r ih=>exact(Ey x (Bu r)).trans (ih.cons x)
theorem Gy{x:Int}{l:List Int}:x∈Bu l↔x∈l:=(Ca l).mem_iff
theorem La(l:List Int):(Bu l).length=l.length:=(Ca l).length_eq
theorem Fu{x:Int}{l:List Int}(h:l.Pairwise (· <= ·)):(Mx x l).Pairwise (· <= ·):=by
 induction l with
 | nil=>simp[Mx]
 | cons y r ih=>
   unfold Mx
   split
   ·rename_i q
    refine List.pairwise_cons.mpr ⟨fun z hz=>?_,h⟩
    rcases List.mem_cons.mp hz with rfl|hz
    ·exact q
    ·have:=(List.pairwise_cons.mp h).1 z hz;exact Int.le_trans q this
   ·rename_i q
    refine List.pairwise_cons.mpr ⟨fun z hz=>?_,ih (List.pairwise_cons.mp h).2⟩
    rcases List.mem_cons.mp ((Ey x r).mem_iff.mp hz)with rfl|hz
    ·exact Int.le_of_lt (Int.not_le.mp q)
    ·exact(List.pairwise_cons.mp h).1 z hz
theorem Dl(l:List Int):(Bu l).Pairwise (· <= ·):=by
 induction l with
 | nil=>exact List.Pairwise.nil
 | cons x r ih=>exact Fu ih
theorem Td{l:List Int}(h:l.Nodup):(Bu l).Pairwise (· < ·):=by
 have h1:=Dl l
 have h2:(Bu l).Nodup:=(Ca l).nodup_iff.mpr h
 have:=List.Pairwise.and h1 h2
 exact this.imp fun⟨a,b⟩=>(Int.lt_iff_le_and_ne.mpr ⟨a,b⟩)
theorem Abm:∀ {l l':List Int},l.Pairwise (· < ·)->l'.Pairwise (· < ·)->(∀x,x∈l↔x∈l')->l=l':=by
 intro l
 induction l with
 | nil=>exact fun {l'} _ _ h=>by cases l' with
   | nil=>rfl
   | cons y _=>exact absurd ((h y).mpr List.mem_cons_self) List.not_mem_nil
 | cons x r ih=>exact fun {l'} h1 h2 h=>by cases l' with
   | nil=>exact absurd ((h x).mp List.mem_cons_self) List.not_mem_nil
   | cons y s=>
     have a1:=List.pairwise_cons.mp h1
     have a2:=List.pairwise_cons.mp h2
     have hxy:x=y:=(List.mem_cons.mp ((h x).mp List.mem_cons_self)).elim id fun q=>(List.mem_cons.mp ((h y).mpr List.mem_cons_self)).elim Eq.symm fun q'=>absurd (a2.1 x q) (Int.lt_asymm (a1.1 y q'))
     subst hxy
     exact congrArg _ (ih a1.2 a2.2 fun z=>⟨fun hz=>(List.mem_cons.mp ((h z).mp (List.mem_cons_of_mem _ hz))).elim (fun q=>absurd (q▸a1.1 z hz) (Int.lt_irrefl _)) id,fun hz=>(List.mem_cons.mp ((h z).mpr (List.mem_cons_of_mem _ hz))).elim (fun q=>absurd (q▸a2.1 z hz) (Int.lt_irrefl _)) id⟩)
theorem Te{x:Int}{l:List Nat}:x∈M2 l↔0<=x/\x.toNat∈l:=by
 unfold M2
 rw[List.mem_map]
 constructor
 ·rintro⟨a,h,rfl⟩;simpa using h
 ·rintro⟨h,h'⟩;exact⟨x.toNat,h',(Q15 h)⟩
theorem Re{m:Nat}(p:Nat->Bool):(M2 ((List.range m).filter p)).Pairwise (· < ·):=by
 unfold M2
 rw[List.pairwise_map]
 exact(List.pairwise_lt_range.filter p).imp fun h=>(W4 h)
noncomputable def Ao(m:Nat)(A:Nat->Nat->Bool)(i:Nat):List Int:=M2 ((List.range m).filter (A i))
theorem A7{m:Nat}{A:Nat->Nat->Bool}{i:Nat}{x:Int}:x∈Ao m A i↔0<=x/\x<m/\A i x.toNat=true:=by
 unfold Ao
 rw[Te,List.mem_filter,List.mem_range]
 constructor
 ·rintro⟨h1,h2,h3⟩;exact⟨h1,(Q3 h2),h3⟩
 ·rintro⟨h1,h2,h3⟩;exact⟨h1,(Q10 h1 h2),h3⟩
theorem Dw{m:Nat}{A:Nat->Nat->Bool}{i:Nat}:(Ao m A i).length<=m:=by
 unfold Ao M2
 rw[Bk]
 exact Af (List.length_filter_le _ _) (by simp)
theorem Tf{m:Nat}{A:Nat->Nat->Bool}{i:Nat}{l:List Int}(h:l.Nodup)(hm:∀x,x∈l↔0<=x/\x<m/\A i x.toNat=true):Bu l=Ao m A i:=
 Abm (Td h) (Re _) fun x=>by rw[Gy,hm];exact A7.symm
variable {G:A2} {n:Nat} {H H':AH} {Q:Ag} {E:EP} {C:CS} {ρ:Ak}
structure I1(H H':AH)(a:Nat)(as:List Nat)(m:Nat)(f:Nat->O):Prop where
 ext:Al H H'
 new:H a=none
 at_:H' a=some (.list (as.map V.ref))
 len:as.length=m
 nodup:as.Nodup
 na:a∉as
 fr:∀x∈as,H x=none
 obj:∀(i x:Nat),as[i]? = some x->H' x=some (f i)
theorem X4{as:List Nat}{i j x:Nat}(h:as.Nodup)(h1:as[i]? = some x)(h2:as[j]? = some x):i=j:=by
 obtain⟨a1,a2⟩:=Da h1
 obtain⟨b1,b2⟩:=Da h2
 have h':=List.pairwise_iff_getElem.mp h
 rcases Nat.lt_trichotomy i j with q|q|q
 ·exact absurd (a2.trans b2.symm) (h' i j a1 b1 q)
 ·exact q
 ·exact absurd (b2.trans a2.symm) (h' j i b1 a1 q)
theorem I1.set{a m i x:Nat}{as:List Nat}{f:Nat->O}(c:I1 H H' a as m f)(hx:as[i]? = some x)(o:O):I1 H (upd H' x o) a as m (fun j=>if j=i then o else f j):=by
 have hxm:=List.mem_of_getElem? hx
 have hxa:a≠x:=fun q=>c.na (q▸hxm)
 refine⟨c.ext.upd' (c.fr x hxm),c.new,by rw[upd_ne hxa];exact c.at_,c.len,c.nodup,c.na,c.fr,fun j y hy=>?_⟩
 by_cases hj:j=i
 ·subst hj
  rw[hx]at hy;cases hy
  rw[if_pos rfl,Ac]
 ·rw[if_neg hj,upd_ne (fun q=>hj (X4 c.nodup hy (by rw[q];exact hx)))]
  exact c.obj j y hy
theorem I1.get{a m i:Nat}{as:List Nat}{f:Nat->O}(c:I1 H H' a as m f)(hi:i<m):(O2 fun x=>Fe (as[i]? = some x) ((as.map V.ref)[i]? = some (.ref x)) (H' x=some (f i))):=by
 have h:i<as.length:=by rw[c.len];exact hi
 refine⟨as[i],List.getElem?_eq_getElem h,?_,c.obj i _ (List.getElem?_eq_getElem h)⟩
 rw[List.getElem?_map,List.getElem?_eq_getElem h];rfl
theorem I1.congr{a m:Nat}{as:List Nat}{f f':Nat->O}(c:I1 H H' a as m f)(h:∀i,i<m->f i=f' i):I1 H H' a as m f':=
 ⟨c.ext,c.new,c.at_,c.len,c.nodup,c.na,c.fr,fun i x hx=>by
  have:=(Da hx).1
  rw[<-h i (by rw[<-c.len];exact this)];exact c.obj i x hx⟩
theorem Lb{m:Nat}{elt:Ak->AH->(Option V->AH->Prop)->Prop}{o:O}{K:Ag}{y:Option V}
 (step:∀i H' K,i<m->(∀x,H' x=none->K (some (.ref x)) (upd H' x o))->elt (some (.int i)::ρ) H' K)
 (fin:∀as H' a,H' a=none->I1 H (upd H' a (.list (as.map V.ref))) a as m (fun _=>o)->K (.ref a) (upd H' a (.list (as.map V.ref)))) :
 Bn (fun _=>True) (.one 0) elt (fun vs H=>Au (.list vs) H K) ((List.range m).map fun(i:Nat)=> .v (.int i)) [] (y::ρ) H:=by
 refine Cf (k:=0) (fun i acc H'=>(O2 fun as=>An6 (acc=as.map V.ref) (Al H H') (as.length=i) (as.Nodup) ((∀x∈as,H x=none)) (∀x∈as,H' x=some o))) ⟨[],rfl,Al.refl,rfl,List.nodup_nil,fun _ h=>absurd h List.not_mem_nil,fun _ h=>absurd h List.not_mem_nil⟩ ?_ ?_
 ·rintro i x acc H' K' hx ⟨as,rfl,h1,h2,h3,h4,h5⟩ hK
  rw[List.getElem?_map]at hx
  obtain⟨j,hj,rfl⟩:=Option.map_eq_some_iff.mp hx
  obtain⟨hlt,he⟩:=Da hj
  simp at hlt he
  subst he
  refine⟨trivial,_,rfl,step i H' K' hlt fun x hx0=>hK _ _ ⟨as ++ [x],by simp,h1.trans (Al.upd hx0),by simp[h2],?_,?_,?_⟩⟩
  ·rw[List.nodup_append]
   refine⟨h3,List.pairwise_singleton _ _,fun a ha b hb q=>?_⟩
   simp at hb
   subst hb q
   rw[h5 a ha]at hx0;cases hx0
  ·intro y hy
   rcases List.mem_append.mp hy with hy|hy
   ·exact h4 y hy
   ·simp at hy;subst hy;exact h1.isNone hx0
  ·intro y hy
   rcases List.mem_append.mp hy with hy|hy
   ·exact(Al.upd hx0) _ _ (h5 y hy)
   ·simp at hy;subst hy;exact Ac
 ·rintro acc H' ⟨as,rfl,h1,h2,h3,h4,h5⟩
  refine⟨trivial,fun a ha=>fin as H' a ha ?_⟩
  have hna:a∉as:=fun q=>by rw[h5 a q]at ha;cases ha
  exact⟨h1.trans (Al.upd ha),h1.isNone ha,Ac,by simpa using h2,h3,hna,h4,fun i x hx=>(Al.upd ha) _ _ (h5 x (List.mem_of_getElem? hx))⟩
theorem Hi{a:Nat}{as:List Nat}{ps:List (Int×Int)}{t u:Nat}{body:Ak->AH->(Ak->AH->Prop)->Prop}{N:Ak->AH->Prop}(I:Nat->Ak->AH->Prop)(h0:I 0 ρ H)(hg:∀i ρ H,I i ρ H->H a=some (.list (as.map V.ref))/\An H as ps)
 (step:∀i p ρ H K,ps[i]? = some p->I i ρ H->(∀ρ'' H'',I (i+1) ρ'' H''->K ρ'' H'')->body ((ρ.set t (some (.int p.1))).set u (some (.int p.2))) H K) (fin:∀ρ H,I ps.length ρ H->N ρ H) :
 Cv (fun H=>H a=some (.list (as.map V.ref))) (.two t u) body N ((as.map V.ref).map .v) ρ H:=by
 have hl:as.length=ps.length:=(hg _ _ _ h0).2.len
 refine Ix (k:=0) I h0 (fun i x ρ H K hx hI hK=>⟨(hg _ _ _ hI).1,?_⟩) fun ρ H hI=>⟨(hg _ _ _ hI).1,fin ρ H (by simpa[hl]using hI)⟩
 rw[List.getElem?_map,List.getElem?_map]at hx
 refine Aa fun nY=>?_
 obtain⟨v,hv,rfl⟩:=Option.map_eq_some_iff.mp hx
 obtain⟨x,hx',rfl⟩:=Option.map_eq_some_iff.mp hv
 obtain⟨p,hp,hpx⟩:=(hg _ _ _ hI).2.ex hx'
 refine nY ?_;clear nY
 show (match H x with|some (.tuple [x,y])=>body ((ρ.set t (some x)).set u (some y)) H K|_=>False)
 rw[hpx]
 exact step i p ρ H K hp (by simpa using hI) fun ρ'' H'' h=>hK ρ'' H'' (by simpa using h)
set_option linter.all false
variable {G:A2} {n:Nat} {H H':AH} {Q:Ag} {E:EP} {C:CS} {ρ:Ak}
theorem Agm{g:Str}{v:V}(h:G.const g=some v):Aw G C (.glob g) ρ H Q E=Q v H:=by rw[A3,h]
theorem Oo(y:Int)(l:List Int):T3 (.int y) (l.map V.int)=some (decide (y∈l)):=by
 unfold T3
 induction l with
 | nil=>rfl
 | cons x r ih=>
   show (T2 ((r.map V.int).map fun z=>W2 z (.int y))).map (decide (x=y) || ·)=_
   rw[ih]
   simp only[Option.map_some,List.mem_cons]
   congr 1
   rw[show decide (x=y)=decide (y=x)from decide_eq_decide.mpr eq_comm]
   by_cases h:y=x<;>by_cases h':y∈r<;>simp[h,h']
theorem Abn{y:Int}{a:Nat}{l:List Int}(h:LI H a l):Bd .In (.int y) (.ref a) H Q=Q (.bool (decide (y∈l))) H:=by
 unfold LI at h
 delta Bd;(try dsimp only);(try delta Nh);(try dsimp only[A1]);rw[h];(try dsimp only[Ar]);rw[Oo];(try dsimp only[Ff])
theorem Ja{y:Int}{a:Nat}{l:List Int}(h:LI H a l):Bd .NotIn (.int y) (.ref a) H Q=Q (.bool (!decide (y∈l))) H:=by
 unfold LI at h
 delta Bd;(try dsimp only);(try delta Nh);(try dsimp only[A1]);rw[h];(try dsimp only[Ar]);rw[Oo];(try dsimp only[Ff])
theorem Op(l:List Int):ints? (l.map V.int)=some l:=by
 induction l with
 | nil=>rfl
 | cons x r ih=>exact(show ints? ((x::r).map V.int)=(ints? (r.map V.int)).map (x :: ·)from rfl).trans (by rw[ih];rfl)
theorem Rf{a:Nat}{l:List Int}(h:LI H a l)(hl:l.length<64):Db .sorted [.ref a] H Q=Au (.list ((Bu l).map V.int)) H Q:=by
 unfold LI at h
 delta Db;dsimp only;(first|delta L1|delta H5|delta G1|delta L3);(try dsimp only[A1,Ar,Ry,M4,Rr]);rw[h];(try dsimp only[Gh,Tx]);rw[Op];(try dsimp only[Gh,Ff])
 exact propext ⟨fun h=>h.2,fun q=>⟨hl,q⟩⟩
theorem Abo{a:Nat}{l:List Int}(h:LI H a l)(hl:l.length<64)(kk:Au (.list ((Bu l).map V.int)) H Q):Db .sorted [.ref a] H Q:=Eq.mpr (Rf h hl) kk
theorem Wn{a:Nat}{es:List (Int×V)}(h:H a=some (.dict es))(hl:es.length<64):Db .sorted [.ref a] H Q=Au (.list ((Bu (es.map (·.1))).map V.int)) H Q:=by
 delta Db;dsimp only;(first|delta L1|delta H5|delta G1|delta L3);(try dsimp only[A1,Ar,Ry,M4,Rr]);rw[h];(try dsimp only[Gh,Tx])
 exact propext ⟨fun h=>h.2,fun q=>⟨hl,q⟩⟩
theorem J8{a:Nat}{es:List (Int×V)}{k:Int}{v:V}{N:AH->Prop}(h:H a=some (.dict es))(hl:es.length<1048576):setItem (.ref a) (.int k) v H N=N (upd H a (.dict (Cc es k v))):=by
 delta setItem;(try dsimp only[A1,Ar]);rw[h];(try dsimp only)
 exact propext ⟨fun h=>h.2,fun q=>⟨hl,q⟩⟩
theorem Gz(es:List (Int×V))(k:Int)(v:V):(Cc es k v).map (·.1)=if k∈es.map (·.1)then es.map (·.1)else es.map (·.1) ++ [k]:=by
 induction es with
 | nil=>simp[Cc]
 | cons e r ih=>
   obtain⟨k',v'⟩:=e
   unfold Cc
   by_cases h:k=k'
   ·subst h;simp
   ·rw[if_neg h,List.map_cons,ih]
    by_cases h':k∈r.map (·.1)
    ·rw[if_pos h',if_pos (by simp only[List.map_cons];exact List.mem_cons_of_mem _ h')];rfl
    ·rw[if_neg h',if_neg (by simp only[List.map_cons,List.mem_cons];rintro(q|q);exact h q;exact h' q)];rfl
noncomputable abbrev Ru(ps:List (Int×Int))(x y:Int):Prop:=(x,y)∈ps\/(y,x)∈ps
noncomputable def Lc(ps:List (Int×Int))(i j:Nat):Bool:=decide (Ru ps i j)
noncomputable def Ew(m:Nat)(ps:List (Int×Int)):Prop:=∀p∈ps,(0<=p.1/\p.1<m)/\(0<=p.2/\p.2<m)/\p.1≠p.2
theorem Ru.in_{m:Nat}{ps:List (Int×Int)}{x y:Int}(g:Ew m ps)(h:Ru ps x y):(0<=x/\x<m)/\(0<=y/\y<m)/\x≠y:=by
 rcases h with h|h
 ·exact g _ h
 ·have:=g _ h;exact⟨this.2.1,this.1,Ne.symm this.2.2⟩
theorem Ru.symm{ps:List (Int×Int)}{x y:Int}(h:Ru ps x y):Ru ps y x:=Or.symm h
theorem Fa{ps:List (Int×Int)}{t:Nat}{p:Int×Int}(h:ps[t]? = some p)(x y:Int):Ru (ps.take (t+1)) x y↔Ru (ps.take t) x y\/(x=p.1/\y=p.2)\/(x=p.2/\y=p.1):=by
 obtain⟨a,b⟩:=p
 unfold Ru
 rw[List.take_add_one,h]
 simp only[Option.toList_some,List.mem_append,List.mem_singleton,Prod.mk.injEq]
 constructor
 ·rintro((h|h)|(h | ⟨h1,h2⟩))
  ·exact .inl (.inl h)
  ·exact .inr (.inl h)
  ·exact .inl (.inr h)
  ·exact .inr (.inr ⟨h2,h1⟩)
 ·rintro((h|h)|(h | ⟨h1,h2⟩))
  ·exact .inl (.inl h)
  ·exact .inr (.inl h)
  ·exact .inl (.inr h)
  ·exact .inr (.inr ⟨h2,h1⟩)
theorem Ew.take{m t:Nat}{ps:List (Int×Int)}(g:Ew m ps):Ew m (ps.take t):=fun p hp=>g p (List.mem_of_mem_take hp)
noncomputable def Ea(H:AH)(a m:Nat)(A:Nat->Nat->Bool):Prop:=(O2 fun(as:List Nat)=>Fe (H a=some (.list (as.map V.ref))) (as.length=m) (∀(i x:Nat),as[i]? = some x->LI H x (Ao m A i)))
theorem Ea.ext{a m:Nat}{A:Nat->Nat->Bool}(h:Ea H a m A)(e:Al H H'):Ea H' a m A:=by
 obtain⟨as,h1,h2,h3⟩:=h
 exact⟨as,e _ _ h1,h2,fun i x q=>(h3 i x q).ext e⟩
noncomputable def C1(H:AH)(w m:Nat)(A:Nat->Nat->Bool):Prop:=(Jy fun(d rs:Nat)=>Fe (H w=some (.inst .web d)) (H d=some (.ns [(.many,.int m),(.rows,.ref rs)])) (Ea H rs m A))
theorem C1.ext{w m:Nat}{A:Nat->Nat->Bool}(h:C1 H w m A)(e:Al H H'):C1 H' w m A:=by
 refine Aa fun nY=>?_
 obtain⟨d,rs,h1,h2,h3⟩:=h
 refine nY ?_;clear nY
 exact⟨d,rs,e _ _ h1,e _ _ h2,h3.ext e⟩
theorem Ld{a:Nat}{as:List Nat}{row:Nat->List Int}{elt:Ak->AH->(Option V->AH->Prop)->Prop}{Q:List V->AH->Prop}{y:Option V}(hA:H a=some (.list (as.map V.ref)))
 (step:∀i x ab (K:Option V->AH->Prop),as[i]? = some x->Al H ab->(∀b,ab b=none->K (some (.ref b)) (upd ab b (.list ((row i).map V.int))))->elt (some (.ref x)::ρ) ab K)
 (fin:∀(bs:List Nat) ab,Al H ab->bs.length=as.length->(∀(i x:Nat),bs[i]? = some x->LI ab x (row i))->Q (bs.map V.ref) ab) :
 Bn (fun H'=>H' a=some (.list (as.map V.ref))) (.one 0) elt Q ((as.map V.ref).map .v) [] (y::ρ) H:=by
 refine Cf (k:=0) (fun j acc ab=>(O2 fun bs=>O4 (acc=bs.map V.ref) (Al H ab) (bs.length=j) (∀(i x:Nat),bs[i]? = some x->LI ab x (row i)))) ⟨[],rfl,Al.refl,rfl,fun _ _ h=>absurd h.symm (Option.some_ne_none _)⟩ ?_ ?_
 ·rintro j x acc ab K hx ⟨bs,rfl,e,hl,hb⟩ hK
  rw[List.getElem?_map,List.getElem?_map]at hx
  obtain⟨v,hv,rfl⟩:=Option.map_eq_some_iff.mp hx
  obtain⟨x,hx',rfl⟩:=Option.map_eq_some_iff.mp hv
  refine⟨e _ _ hA,_,rfl,step j x ab K hx' e fun b hb0=>hK _ _ ⟨bs ++ [b],by simp,e.trans (Al.upd hb0),by simp[hl],fun i y hy=>?_⟩⟩
  cases Nat.lt_or_ge i bs.length with
  | inl q=>rw[List.getElem?_append_left q]at hy;exact(hb i y hy).ext (Al.upd hb0)
  | inr q=>
    rw[List.getElem?_append_right q]at hy
    have:i-bs.length=0:=by
     obtain⟨z,_⟩:=Da hy
     simp at z;exact z
    rw[this]at hy
    simp at hy
    subst hy
    have:i=j:=(Q7 hl q this)
    subst this
    exact Ac
 ·rintro acc ab ⟨bs,rfl,e,hl,hb⟩
  exact⟨e _ _ hA,fin bs ab e (by simpa using hl) hb⟩
theorem Ei{m:Nat}{l:List Int}(h:l.Nodup)(hin:∀x∈l,0<=x/\x<m):l.length<=m:=by
 have:=Tf (A:=fun _ j=>decide ((j:Int)∈l)) (i:=0) (m:=m) h fun x=>by
  constructor
  ·intro hx
   have:=hin x hx
   exact⟨this.1,this.2,by simp only[decide_eq_true_eq];rwa[Int.toNat_of_nonneg this.1]⟩
  ·rintro⟨h1,h2,h3⟩
   simp only[decide_eq_true_eq]at h3
   rwa[Int.toNat_of_nonneg h1]at h3
 have h1:=La l
 have h2:= @Dw m (fun _ j=>decide ((j:Int)∈l)) 0
 rw[this]at h1
 exact h1▸h2
theorem Wo{m i:Nat}{ps:List (Int×Int)}{l:List Int}(g:Ew m ps)(h:l.Nodup)(hl:∀y,y∈l↔Ru ps i y):Bu l=Ao m (Lc ps) i:=
 Tf h fun x=>by
  rw[hl]
  constructor
  ·intro h
   have:=h.in_ g
   refine⟨this.2.1.1,this.2.1.2,?_⟩
   unfold Lc
   rw[decide_eq_true_eq,Int.toNat_of_nonneg this.2.1.1];exact h
  ·rintro⟨h1,h2,h3⟩
   unfold Lc at h3
   rwa[decide_eq_true_eq,Int.toNat_of_nonneg h1]at h3
theorem Agn(B:Iv G){m t:Nat}{ts:List Nat}{ps:List (Int×Int)}(hm:m<=60)(hT:H t=some (.list (ts.map V.ref)))(hP:An H ts ps)(g:Ew m ps)
 (q:∀a H',Al H H'->H a=none->Ea H' a m (Lc ps)->Q (.ref a) H'):Ae G (n+1) "_law_near" [.int m,.ref t] H Q E:=by
 refine Aj B.near rfl ?_
 simp only[Zw,Zy,Z0,Z1,List.map,Eg,Eh,List.replicate,B6,B7,Nt]
 refine grK ?_
 simp (disch:=first|decide|omega) only[Zf,Zs,Zu,Zv,Z2,Qd,Eg,Eh,Ai,List.replicate]
 refine⟨by simp[Bp];exact W3 hm,Lb (o:= .list []) (fun i H' K hi hK=>?_) fun as H' a ha c=>?_⟩
 ·skip
  exact fun x hx=>hK x hx
 refine M8 ?_
 simp only[Zf,Ai,Am]
 refine Aq (c.ext _ _ hT) ?_
 refine Hi (ps:=ps) (fun j ρ ab=>(Ex3 fun(r3 r4:Option V) (L:Nat->List Int)=>Fe (ρ = [some (.int m),some (.ref t),some (.ref a),r3,r4]) (I1 H ab a as m (fun i=> .list ((L i).map V.int))) (∀i,i<m->(L i).Nodup/\∀y,y∈L i↔Ru (ps.take j) i y))) ?_ ?_ ?_ ?_
 ·exact⟨none,none,fun _=>[],rfl,c,fun i hi=>⟨List.nodup_nil,fun y=>by simp[Ru]⟩⟩
 ·rintro i ρ ab ⟨r3,r4,L,rfl,c,hL⟩
  exact⟨c.ext _ _ hT,hP.ext c.ext⟩
 ·rintro j p ρ ab K hp ⟨r3,r4,L,rfl,c,hL⟩ hK
  have gp:=g p (List.mem_of_getElem? hp)
  obtain⟨x,y⟩:=p
  simp only at gp ⊢
  obtain⟨x1,hx1,hx2,hx3⟩:=c.get (i:=x.toNat) (W6 gp.1.2 gp.2.1.1 gp.2.1.2)
  have hLx:=hL x.toNat (W6 gp.1.2 gp.2.1.1 gp.2.1.2)
  have hLy:=hL y.toNat (Q10 gp.2.1.1 gp.2.1.2)
  have ex:((x.toNat:Nat):Int)=x:=(Q15 gp.1.1)
  have ey:((y.toNat:Nat):Int)=y:=(Q15 gp.2.1.1)
  simp only[Z0,Z1,B6,B7,Jk]
  refine Bm (!decide (y∈L x.toNat)) (fun Q' h'=>?_) ?_
  ·simp only[Zf,Zl,Zq,Ai,Am,A9 c.at_ gp.1.1 hx2,Ja (show LI ab x1 (L x.toNat)from hx3)]
   exact h'
  split
  ·rename_i hh
   simp only[Bool.not_eq_true',decide_eq_false_iff_not]at hh
   have hnA:¬Ru (ps.take j) x y:=fun q=>hh ((hLx.2 y).mpr (by rw[ex];exact q))
   have hnx:x∉L y.toNat:=fun q=>hnA (by have:=(hLy.2 x).mp q;rw[ey]at this;exact this.symm)
   have hll:∀i,i<m->((L i).map V.int).length<1048576:=fun i hi=>by
    rw[Bk]
    have:=Ei (m:=m) (hL i hi).1 fun z hz=>((((hL i hi).2 z).mp hz).in_ g.take).2.1
    exact O5 hm this
   simp (disch:=first|decide|omega) only[Zf,Zq,Zu,Zv,Zx,Z0,Z1,Ai,Am,true_and,Bo,A9 c.at_ gp.1.1 hx2,A8 hx3,Bq hx3 (hll _ (W7 gp.1.2 ex))]
   have c1:=c.set hx1 (.list ((L x.toNat).map V.int ++ [.int y]))
   obtain⟨y1,hy1,hy2,hy3⟩:=c1.get (i:=y.toNat) (W7 gp.2.1.2 ey)
   rw[if_neg (show ¬y.toNat=x.toNat by exact Ahk gp.2.2 ex ey)]at hy3
   simp (disch:=first|decide|omega) only[true_and,A9 c1.at_ gp.2.1.1 hy2,A8 hy3,Bq hy3 (hll _ (W7 gp.2.1.2 ey))]
   have c2:=c1.set hy1 (.list ((L y.toNat).map V.int ++ [.int x]))
   refine hK _ _ ⟨_,_,fun i=>if i=y.toNat then L y.toNat ++ [x]else if i=x.toNat then L x.toNat ++ [y]else L i,rfl,c2.congr fun i hi=>?_,fun i hi=>?_⟩
   ·by_cases h1:i=y.toNat
    ·simp[h1]
    ·by_cases h2:i=x.toNat
     ·have:¬x.toNat=y.toNat:=(Ahl h1 h2)
      simp[h2,this]
     ·simp[h1,h2]
   ·have nd:∀(l:List Int) (z:Int),l.Nodup->z∉l->(l ++ [z]).Nodup:=fun l z h1 h2=>by
     rw[List.nodup_append]
     exact⟨h1,List.pairwise_singleton _ _,fun a ha b hb e=>h2 (by simp at hb;rw[<-hb,<-e];exact ha)⟩
    dsimp only
    by_cases h1:i=y.toNat
    ·subst h1
     rw[if_pos rfl]
     refine⟨nd _ _ hLy.1 hnx,fun z=>?_⟩
     rw[List.mem_append,hLy.2 z,Fa hp,ey]
     simp only[List.mem_singleton]
     constructor
     ·rintro(h|rfl)
      ·exact .inl h
      ·exact .inr (.inr (⟨trivial,rfl⟩))
     ·rintro(h | ⟨h1,h2⟩ | ⟨h1,h2⟩)
      ·exact .inl h
      ·exact absurd h1.symm gp.2.2
      ·exact .inr h2
    ·rw[if_neg h1]
     by_cases h2:i=x.toNat
     ·subst h2
      rw[if_pos rfl]
      refine⟨nd _ _ hLx.1 hh,fun z=>?_⟩
      rw[List.mem_append,hLx.2 z,Fa hp,ex]
      simp only[List.mem_singleton]
      constructor
      ·rintro(h|rfl)
       ·exact .inl h
       ·exact .inr (.inl (⟨trivial,rfl⟩))
      ·rintro(h | ⟨h1,h2⟩ | ⟨h1,h2⟩)
       ·exact .inl h
       ·exact .inr h2
       ·exact absurd h1 gp.2.2
     ·rw[if_neg h2]
      refine⟨(hL i hi).1,fun z=>?_⟩
      rw[(hL i hi).2 z,Fa hp]
      constructor
      ·exact .inl
      ·rintro(h | ⟨h3,h4⟩ | ⟨h3,h4⟩)
       ·exact h
       ·simp only at h3;exact(Acm h2 h3).elim
       ·simp only at h3;exact(Acm h1 h3).elim
  ·rename_i hh
   simp only[Bool.not_eq_true',decide_eq_false_iff_not,Classical.not_not]at hh
   simp only[Z0]
   have hA:Ru (ps.take j) x y:=by have:=(hLx.2 y).mp hh;rwa[ex]at this
   refine hK _ _ ⟨_,_,L,rfl,c,fun i hi=>⟨(hL i hi).1,fun z=>?_⟩⟩
   rw[(hL i hi).2 z,Fa hp]
   constructor
   ·exact .inl
   ·rintro(h | ⟨h3,h4⟩ | ⟨h3,h4⟩)
    ·exact h
    ·rw[h3,h4];exact hA
    ·rw[h3,h4];exact hA.symm
 ·rintro ρ ab ⟨r3,r4,L,rfl,c,hL⟩
  rw[List.take_of_length_le (Nat.le_refl _)]at hL
  refine gvK ?_
  simp only[Zf,Z2,Eg,Eh,Ai,Am,List.replicate]
  refine Aq c.at_ ?_
  refine⟨by simp[Bp,c.len];exact W3 hm,Ld (row:=Ao m (Lc ps)) c.at_ (fun i x ae K hx e hK=>?_) fun bs ae e hbl hb b hb0=>?_⟩
  ·have hi:i<m:=by rw[<-c.len];exact(Da hx).1
   have hxL:LI ae x (L i):=e _ _ (c.obj i x hx)
   have hlen:(L i).length<64:=by
    have:=Ei (m:=m) (hL i hi).1 fun z hz=>((((hL i hi).2 z).mp hz).in_ g).2.1
    exact Afg hm this
   simp only[Zf,Zo,Zu,Zv,Ai,Jl,Rf hxL hlen]
   intro b hb
   have:=hK b hb
   rwa[<-Wo g (hL i hi).1 (hL i hi).2]at this
  ·exact q b _ ((c.ext.trans e).trans (Al.upd hb0)) ((c.ext.trans e).isNone hb0) ⟨bs,Ac,by rw[hbl,c.len],fun i x hx=>(hb i x hx).ext (Al.upd hb0)⟩
set_option linter.all false
variable {G:A2} {n:Nat} {H H':AH} {Q:Ag} {E:EP} {C:CS} {ρ:Ak}
theorem Ge{a d:Nat}{c:Qn}{fs:List (C2×V)}{t:C2}{v:V}(h:H a=some (.inst c d))(h':H d=some (.ns fs))(hv:Jc fs t=some v):getAttr (.ref a) t H Q=Q v H:=by
 delta getAttr;(try dsimp only[A1]);rw[h];(try dsimp only[Ng]);rw[h'];(try dsimp only[Rx]);rw[hv];(try dsimp only[Ff])
theorem Lx{a d:Nat}{c:Qn}{fs:List (C2×V)}{t:C2}{v:V}{N:AH->Prop}(h:H a=some (.inst c d))(h':H d=some (.ns fs))(hl:fs.length<10):setAttr (.ref a) t v H N=N (upd H d (.ns (H0 fs t v))):=by
 delta setAttr;(try dsimp only[A1]);rw[h];(try dsimp only[Ng]);rw[h'];(try dsimp only[Rx])
 exact propext ⟨fun h=>h.2,fun q=>⟨hl,q⟩⟩
theorem Fb{a d:Nat}{c:Qn}{fs:List (C2×V)}{t:C2}{v:V}{N:AH->Prop}(h:H a=some (.inst c d))(h':H d=some (.ns fs))(hl:fs.length<10)(kk:N (upd H d (.ns (H0 fs t v)))):setAttr (.ref a) t v H N:=Eq.mpr (Lx h h' hl) kk
theorem Aee(B:Iv G){m t:Nat}{ts:List Nat}{ps:List (Int×Int)}(hm:m<=60)(hT:H t=some (.list (ts.map V.ref)))(hP:An H ts ps)(g:Ew m ps)
 (q:∀w H',Al H H'->H w=none->C1 H' w m (Lc ps)->Q (.ref w) H'):Ae G (n+2) "web_of" [.int m,.ref t] H Q E:=by
 refine Aj B.webOf rfl ?_
 simp only[Zw,Zy,Z0,Z1,List.map,Eg,Eh,List.replicate,Rz]
 refine Bm false (fun Q' h'=>?_) ?_
 ·simp only[Ze,Zf,Zg,Zm,Z9,Ch,Ai,Agm B.most]
  simp only[show decide ((0:Int)<=m)=true from rfl,show decide ((m:Int)<=60)=true by simp;exact Q90 hm,if_pos]
  exact h'
 rw[if_neg (by decide)]
 simp only[Z0]
 refine M8 ?_
 simp only[Zf,Ai,Am]
 refine Aq hT ?_
 refine Hi (ps:=ps) (fun j ρ ab=>(Jy fun(r3 r4:Option V)=>ρ = [some (.int m),some (.ref t),r3,r4,none]/\ab=H)) ⟨_,_,rfl,rfl⟩ ?_ ?_ ?_
 ·rintro i ρ ab hP18
  refine Aa fun nY=>?_
  obtain⟨r3,r4,rfl,rfl⟩:=hP18
  refine nY ?_;clear nY
  exact⟨hT,hP⟩
 ·rintro j hP19 ρ ab K hp hP20 hK
  refine Aa fun nY=>?_
  obtain⟨x,y⟩:=hP19
  obtain⟨r3,r4,rfl,rfl⟩:=hP20
  have gp:=g _ (List.mem_of_getElem? hp)
  refine nY ?_;clear nY
  simp only at gp ⊢
  simp only[Z0,Z1,B6,B7,L4]
  refine Bm false (fun Q' h'=>?_) ?_
  ·simp only[Ze,Zf,Zg,Zj,Zl,Zm,Z8,Z9,X2,Ch,Ai,Am]
   simp only[show decide ((0:Int)<=x)=true by simp;exact gp.1.1,show decide (x<(m:Int))=true by simp;exact gp.1.2,show decide ((0:Int)<=y)=true by simp;exact gp.2.1.1,show decide (y<(m:Int))=true by simp;exact gp.2.1.2,show decide (x=y)=false by simp;exact gp.2.2,if_pos,Bool.not_true,Bool.false_eq_true,if_false]
   exact h'
  rw[if_neg (by decide)]
  simp only[Z0]
  exact hK _ _ ⟨_,_,rfl,rfl⟩
 rintro ρ ab hP21
 refine Aa fun nY=>?_
 obtain⟨r3,r4,rfl,rfl⟩:=hP21
 refine nY ?_;clear nY
 try simp only[B6,B7]
 refine grK ?_
 simp (disch:=first|decide|omega) only[Zf,Zu,Zv,Z2,Qd,Eg,Eh,Ai,List.replicate]
 refine⟨by simp[Bp];exact W3 hm,Lb (o:= .dict []) (fun i H' K hi hK=>?_) fun as H' a ha c=>?_⟩
 ·simp only[L5,Acl]
  exact fun x hx=>hK x hx
 refine M8 ?_
 simp only[Zf,Ai,Am]
 refine Aq (c.ext _ _ hT) ?_
 refine Hi (ps:=ps) (fun j ρ ae=>(Ex3 fun(r3 r4:Option V) (L:Nat->List (Int×V))=>Fe (ρ = [some (.int m),some (.ref t),r3,r4,some (.ref a)]) (I1 ab ae a as m (fun i=> .dict (L i))) (∀i,i<m->((L i).map (·.1)).Nodup/\∀y,y∈(L i).map (·.1)↔Ru (ps.take j) i y))) ?_ ?_ ?_ ?_
 ·exact⟨_,_,fun _=>[],rfl,c,fun i hi=>⟨List.nodup_nil,fun y=>by simp[Ru]⟩⟩
 ·rintro i ρ ae hP22
  refine Aa fun nY=>?_
  obtain⟨r3,r4,L,rfl,c,hL⟩:=hP22
  refine nY ?_;clear nY
  exact⟨c.ext _ _ hT,hP.ext c.ext⟩
 ·rintro j p ρ ae K hp hP23 hK
  refine Aa fun nY=>?_
  obtain⟨r3,r4,L,rfl,c,hL⟩:=hP23
  have gp:=g p (List.mem_of_getElem? hp)
  obtain⟨x,y⟩:=p
  refine nY ?_;clear nY
  simp only at gp ⊢
  refine Aa fun nY=>?_
  obtain⟨x1,hx1,hx2,hx3⟩:=c.get (i:=x.toNat) (W6 gp.1.2 gp.2.1.1 gp.2.1.2)
  have hLx:=hL x.toNat (W6 gp.1.2 gp.2.1.1 gp.2.1.2)
  have hLy:=hL y.toNat (Q10 gp.2.1.1 gp.2.1.2)
  have ex:((x.toNat:Nat):Int)=x:=(Q15 gp.1.1)
  have ey:((y.toNat:Nat):Int)=y:=(Q15 gp.2.1.1)
  have hll:∀i,i<m->(L i).length<1048576:=fun i hi=>by
   have:=Ei (m:=m) (hL i hi).1 fun z hz=>((((hL i hi).2 z).mp hz).in_ g.take).2.1
   rw[Bk]at this
   exact O5 hm this
  refine nY ?_;clear nY
  simp only[Zd,Zf,Zq,Z0,Z1,Ai,Am,B6,B7,L6,Bl,A9 c.at_ gp.1.1 hx2,J8 hx3 (hll _ (show x.toNat<m by exact W7 gp.1.2 ex))]
  have c1:=c.set hx1 (.dict (Cc (L x.toNat) y (.bool true)))
  refine Aa fun nY=>?_
  obtain⟨y1,hy1,hy2,hy3⟩:=c1.get (i:=y.toNat) (W7 gp.2.1.2 ey)
  rw[if_neg (show ¬y.toNat=x.toNat by exact Ahk gp.2.2 ex ey)]at hy3
  refine nY ?_;clear nY
  simp only[A9 c1.at_ gp.2.1.1 hy2,J8 hy3 (hll _ (show y.toNat<m by exact W7 gp.2.1.2 ey))]
  have c2:=c1.set hy1 (.dict (Cc (L y.toNat) x (.bool true)))
  refine hK _ _ ⟨_,_,fun i=>if i=y.toNat then Cc (L y.toNat) x (.bool true)else if i=x.toNat then Cc (L x.toNat) y (.bool true)else L i,rfl,c2.congr fun i hi=>?_,fun i hi=>?_⟩
  ·refine Aa fun nY=>?_
   by_cases h1:i=y.toNat
   ·refine nY ?_;clear nY
    simp[h1]
   ·by_cases h2:i=x.toNat
    ·have:¬x.toNat=y.toNat:=(Ahl h1 h2)
     refine nY ?_;clear nY
     simp[h2,this]
    ·refine nY ?_;clear nY
     simp[h1,h2]
  ·have nd:∀(l:List Int) (z:Int),l.Nodup->z∉l->(l ++ [z]).Nodup:=fun l z h1 h2=>by
    rw[List.nodup_append]
    exact⟨h1,List.pairwise_singleton _ _,fun a ha b hb e=>h2 (by simp at hb;rw[<-hb,<-e];exact ha)⟩
   have nd2:∀(es:List (Int×V)) (k:Int) (v:V),(es.map (·.1)).Nodup->((Cc es k v).map (·.1)).Nodup:=fun es k v h=>by
    rw[Gz]
    split
    ·exact h
    ·exact nd _ _ h (by assumption)
   have mm:∀(es:List (Int×V)) (k:Int) (v:V) (z:Int),z∈(Cc es k v).map (·.1)↔z∈es.map (·.1)\/z=k:=fun es k v z=>by
    rw[Gz]
    split
    ·rename_i hk
     exact⟨.inl,fun h=>h.elim id fun e=>e▸hk⟩
    ·rw[List.mem_append,List.mem_singleton]
   dsimp only
   refine Aa fun nY=>?_
   by_cases h1:i=y.toNat
   ·subst h1
    refine nY ?_;clear nY
    rw[if_pos rfl]
    refine⟨nd2 _ _ _ hLy.1,fun z=>?_⟩
    rw[mm,hLy.2 z,Fa hp,ey]
    constructor
    ·rintro(h|rfl)
     ·exact .inl h
     ·exact .inr (.inr (⟨rfl,rfl⟩))
    ·rintro(h | ⟨h1,h2⟩ | ⟨h1,h2⟩)
     ·exact .inl h
     ·exact absurd h1.symm gp.2.2
     ·exact .inr h2
   ·refine nY ?_;clear nY
    rw[if_neg h1]
    refine Aa fun nY=>?_
    by_cases h2:i=x.toNat
    ·subst h2
     refine nY ?_;clear nY
     rw[if_pos rfl]
     refine⟨nd2 _ _ _ hLx.1,fun z=>?_⟩
     rw[mm,hLx.2 z,Fa hp,ex]
     constructor
     ·rintro(h|rfl)
      ·exact .inl h
      ·exact .inr (.inl (⟨rfl,rfl⟩))
     ·rintro(h | ⟨h1,h2⟩ | ⟨h1,h2⟩)
      ·exact .inl h
      ·exact .inr h2
      ·exact absurd h1 gp.2.2
    ·refine nY ?_;clear nY
     rw[if_neg h2]
     refine⟨(hL i hi).1,fun z=>?_⟩
     rw[(hL i hi).2 z,Fa hp]
     constructor
     ·exact .inl
     ·rintro(h | ⟨h3,h4⟩ | ⟨h3,h4⟩)
      ·exact h
      ·simp only at h3;exact(Acm h2 h3).elim
      ·simp only at h3;exact(Acm h1 h3).elim
 ·rintro ρ ae hP24
  refine Aa fun nY=>?_
  obtain⟨r3,r4,L,rfl,c,hL⟩:=hP24
  rw[List.take_of_length_le (Nat.le_refl _)]at hL
  refine nY ?_;clear nY
  refine Y1 ?_
  refine⟨by rw[show Dr .web=Str.ofString "Web.__init__" from rfl,B.init];rfl,?_⟩
  simp only[Zf,Zu,Zv,Ai]
  refine gvK ?_
  simp only[Zf,Z2,Eg,Eh,Ai,Am,List.replicate]
  refine Aq c.at_ ?_
  refine⟨by simp[Bp,c.len];exact W3 hm,Ld (row:=Ao m (Lc ps)) c.at_ (fun i x ae K hx e hK=>?_) fun bs ae e hbl hb b hb0=>?_⟩
  ·have hi:i<m:=by rw[<-c.len];exact(Da hx).1
   have hxL:ae x=some (.dict (L i)):=e _ _ (c.obj i x hx)
   have hlen:(L i).length<64:=by
    have:=Ei (m:=m) (hL i hi).1 fun z hz=>((((hL i hi).2 z).mp hz).in_ g).2.1
    rw[Bk]at this
    exact Afg hm this
   simp only[Zf,Zo,Zu,Zv,Ai,L7,Wn hxL hlen]
   intro b hb
   have:=hK b hb
   rwa[<-Wo g (hL i hi).1 (hL i hi).2]at this
  ·intro w d hw hd hwd
   have eb:Al ae (upd ae b (.list (bs.map V.ref))):=Al.upd hb0
   have hnb:Ea (upd ae b (.list (bs.map V.ref))) b m (Lc ps):=⟨bs,Ac,by rw[hbl,c.len],fun i x hx=>(hb i x hx).ext eb⟩
   have eH:=(c.ext.trans e).trans eb
   generalize upd ae b (.list (bs.map V.ref))=ag at *
   refine Aj B.init rfl ?_
   have hw1:upd (upd ag d (.ns [])) w (.inst .web d) w=some (.inst .web d):=Ac
   have hd1:upd (upd ag d (.ns [])) w (.inst .web d) d=some (.ns []):=by rw[upd_ne (Ne.symm hwd),Ac]
   have hw2:upd (upd (upd ag d (.ns [])) w (.inst .web d)) d (.ns (H0 [] .many (.int m))) w=some (.inst .web d):=by rw[upd_ne hwd];exact hw1
   have hd2:upd (upd (upd ag d (.ns [])) w (.inst .web d)) d (.ns (H0 [] .many (.int m))) d=some (.ns (H0 [] .many (.int m))):=Ac
   simp only[Zf,Z0,Z1,List.map,Eg,Eh,Ai,Am,true_and,Kd,Bz,Lx hw1 hd1 (by decide),Lx hw2 hd2 (show (H0 [] C2.many (V.int m)).length<10 from(by decide:(1:Nat)<10))]
   refine q w _ ?_ (eH.isNone hw) ⟨d,b,?_,Ac,hnb.ext ?_⟩
   ·exact(((eH.trans (Al.upd hd)).upd' (eH.isNone hw)).upd' (eH.isNone hd)).upd' (eH.isNone hd)
   ·rw[upd_ne hwd];exact hw2
   ·exact(((Al.upd hd).upd' hw).upd' hd).upd' hd
theorem Oq(B:Iv G){w m:Nat}{A:Nat->Nat->Bool}{x:Int}(hW:C1 H w m A)(h0:0<=x)(h1:x<m)(q:Q .none H):Ae G (n+1) "Web.need" [.ref w,.int x] H Q E:=by
 refine Aa fun nY=>?_
 obtain⟨d,rs,h2,h3,h4⟩:=hW
 refine nY ?_;clear nY
 refine Aj B.need rfl ?_
 simp only[Z0,Z1,List.map,Eg,Eh,Nm]
 refine Bm false (fun Q' h'=>?_) ?_
 ·simp only[Ze,Zf,Zg,Zm,Zp,Z8,Z9,Ch,Ai,Am,Ge h2 h3 (show Jc [(C2.many,V.int m),(C2.rows,V.ref rs)] .many=some (.int m)from rfl)]
  simp only[show decide ((0:Int)<=x)=true by simp;exact h0,show decide (x<(m:Int))=true by simp;exact h1,if_pos]
  exact h'
 rw[if_neg (by decide)]
 simp only[Z0]
 exact q
theorem Ea.row{a m:Nat}{A:Nat->Nat->Bool}(h:Ea H a m A){x:Int}(h0:0<=x)(h1:x<m):(Jy fun(as:List Nat) (y:Nat)=>O4 (H a=some (.list (as.map V.ref))) (as.length=m) ((as.map V.ref)[x.toNat]? = some (.ref y)) (LI H y (Ao m A x.toNat))):=by
 refine Aa fun nY=>?_
 obtain⟨as,a1,a2,a3⟩:=h
 have hl:x.toNat<as.length:=(Nat.lt_of_lt_of_eq ((Int.toNat_lt h0).mpr h1) a2.symm)
 refine nY ?_;clear nY
 exact⟨as,as[x.toNat],a1,a2,by rw[List.getElem?_map,List.getElem?_eq_getElem hl];rfl,a3 _ _ (List.getElem?_eq_getElem hl)⟩
theorem Rg{m:Nat}{A:Nat->Nat->Bool}{x y:Int}(h0:0<=y)(h1:y<m):decide (y∈Ao m A x.toNat)=A x.toNat y.toNat:=by
 by_cases h:A x.toNat y.toNat=true
 ·rw[h,decide_eq_true_eq,A7];exact⟨h0,h1,h⟩
 ·rw[Bool.not_eq_true]at h
  rw[h,decide_eq_false_iff_not,A7]
  rintro⟨_,_,q⟩;rw[h]at q;cases q
theorem Ly(B:Iv G){w m:Nat}{A:Nat->Nat->Bool}{x y:Int}(hW:C1 H w m A)(h0:0<=x)(h1:x<m)(h2:0<=y)(h3:y<m)(q:Q (.bool (A x.toNat y.toNat)) H):Ae G (n+2) "Web.tied" [.ref w,.int x,.int y] H Q E:=by
 have hW':=hW
 refine Aa fun nY=>?_
 obtain⟨d,rs,w1,w2,w3⟩:=hW'
 obtain⟨as,z,a1,a2,a3,a4⟩:=w3.row h0 h1
 refine nY ?_;clear nY
 refine Aj B.tied rfl ?_
 simp only[Zf,Zl,Zp,Zq,Zu,Zv,Zx,Zy,Z0,Z1,List.map,Eg,Eh,Ai,Am,C9,true_and,Nn,Ax,Co,Cp,D4,w1,w2,B.need]
 refine Oq B hW h0 h1 ?_
 (try dsimp only)
 simp only[Co,w1,Cp,w2,D4]
 refine Oq B hW h2 h3 ?_
 simp only[Ge w1 w2 (show Jc [(C2.many,V.int m),(C2.rows,V.ref rs)] .rows=some (.ref rs)from rfl),A9 a1 h0 a3,Abn a4,Rg h2 h3]
 exact q
set_option linter.all false
variable {G:A2} {n:Nat} {H H':AH} {Q:Ag} {E:EP} {C:CS} {ρ:Ak}
theorem J9{g:AH->Prop}{l:List Int}{h:Int->V}{elt:Ak->AH->(Option V->AH->Prop)->Prop}{Q:List V->AH->Prop}{y:Option V}(hg:g H)
 (step:∀x∈l,∀K:Option V->AH->Prop,K (some (h x)) H->elt (some (.int x)::ρ) H K) (fin:Q (l.map h) H):Bn g (.one 0) elt Q ((l.map V.int).map .v) [] (y::ρ) H:=by
 refine E8 (f:=fun v=>match v with | .int x=>some (h x)|_=>none) hg (fun v hv K hK=>?_) ?_
 ·obtain⟨x,hx,rfl⟩:=List.mem_map.mp hv
  exact step x hx K hK
 ·rw[List.filterMap_map]
  have:l.filterMap ((fun v=>match v with | .int x=>some (h x)|_=>none)∘V.int)=l.map h:=by
   rw[<-List.filterMap_eq_map];rfl
  rw[this];exact fin
theorem Eb{g:AH->Prop}{l:List Int}{p:Int->Bool}{elt:Ak->AH->(Option V->AH->Prop)->Prop}{Q:List V->AH->Prop}{y:Option V}(hg:g H)
 (step:∀x∈l,∀K:Option V->AH->Prop,K (if p x then some (.int x)else none) H->elt (some (.int x)::ρ) H K) (fin:Q ((l.filter p).map V.int) H):Bn g (.one 0) elt Q ((l.map V.int).map .v) [] (y::ρ) H:=by
 refine E8 (f:=fun v=>match v with | .int x=>if p x then some (.int x)else none|_=>none) hg (fun v hv K hK=>?_) ?_
 ·obtain⟨x,hx,rfl⟩:=List.mem_map.mp hv
  exact step x hx K hK
 ·rw[List.filterMap_map]
  have:l.filterMap ((fun v=>match v with | .int x=>if p x then some (.int x)else none|_=>none)∘V.int)=(l.filter p).map V.int:=by
   clear fin step
   induction l with
   | nil=>rfl
   | cons x r ih=>
     rw[List.filterMap_cons,ih,List.filter_cons]
     by_cases hp:p x=true<;>simp[hp,Function.comp]
  rw[this];exact fin
theorem X5{a:Nat}{xs:List V}{t u:Nat}{body:Ak->AH->(Ak->AH->Prop)->Prop}{N:Ak->AH->Prop}(I:Nat->Ak->AH->Prop)(h0:I 0 ρ H)(hg:∀i ρ H,I i ρ H->H a=some (.list xs))
 (step:∀i x ρ H K,xs[i]? = some x->I i ρ H->(∀ρ'' H'',I (i+1) ρ'' H''->K ρ'' H'')->body ((ρ.set t (some (.int i))).set u (some x)) H K) (fin:∀ρ H,I xs.length ρ H->N ρ H) :
 Cv (fun H=>H a=some (.list xs)) (.two t u) body N (xs.mapIdx fun i x=> .pair (.int i) x) ρ H:=by
 refine Ix (k:=0) I h0 (fun i x ρ H K hx hI hK=>⟨hg _ _ _ hI,?_⟩) fun ρ H hI=>⟨hg _ _ _ hI,fin ρ H (by simpa using hI)⟩
 rw[List.getElem?_mapIdx]at hx
 obtain⟨j,hj,rfl⟩:=Option.map_eq_some_iff.mp hx
 exact step i j ρ H K hj (by simpa using hI) fun ρ'' H'' h=>hK ρ'' H'' (by simpa using h)
theorem Hj{α0:Type}{a:Nat}{xs:List V}{t u:Nat}{body:Ak->AH->(Ak->AH->Prop)->Prop}{N:Ak->AH->Prop}(f:Nat->α0->Ak)(T:Nat->α0->AH->Prop)(x0:α0)(hρ:ρ=f 0 x0)(h0:T 0 x0 H)(hg:∀i x0 H,T i x0 H->H a=some (.list xs))(step:∀i x y0 H K,xs[i]? = some x->T i y0 H->(∀z0 H'',T (i+1) z0 H''->K (f (i+1) z0) H'')->body (((f i y0).set t (some (.int i))).set u (some x)) H K)(fin:∀x0 H,T xs.length x0 H->N (f xs.length x0) H):Cv (fun H=>H a=some (.list xs)) (.two t u) body N (xs.mapIdx fun i x=> .pair (.int i) x) ρ H:=by
 refine X5 (fun i ρ H=>∃x0,ρ=f i x0/\T i x0 H) ⟨x0,hρ,h0⟩ (fun i _ H h=>?_) (fun i x _ H K hx h hK=>?_) fun _ H h=>?_
 ·obtain⟨x0,_,h⟩:=h;exact hg _ _ _ h
 ·obtain⟨y0,rfl,h⟩:=h;exact step i x y0 H K hx h fun z0 H'' h'=>hK _ _ ⟨z0,rfl,h'⟩
 ·obtain⟨x0,rfl,h⟩:=h;exact fin _ _ h
theorem Tg{α0 α1 α2:Type}{a:Nat}{xs:List V}{t u:Nat}{body:Ak->AH->(Ak->AH->Prop)->Prop}{N:Ak->AH->Prop}(f:Nat->α0->α1->α2->Ak)(T:Nat->α0->α1->α2->AH->Prop)(x0:α0)(x1:α1)(x2:α2)(hρ:ρ=f 0 x0 x1 x2)(h0:T 0 x0 x1 x2 H)(hg:∀i x0 x1 x2 H,T i x0 x1 x2 H->H a=some (.list xs))(step:∀i x y0 y1 y2 H K,xs[i]? = some x->T i y0 y1 y2 H->(∀z0 z1 z2 H'',T (i+1) z0 z1 z2 H''->K (f (i+1) z0 z1 z2) H'')->body (((f i y0 y1 y2).set t (some (.int i))).set u (some x)) H K)(fin:∀x0 x1 x2 H,T xs.length x0 x1 x2 H->N (f xs.length x0 x1 x2) H):Cv (fun H=>H a=some (.list xs)) (.two t u) body N (xs.mapIdx fun i x=> .pair (.int i) x) ρ H:=
 Hj (fun i p=>f i p.1 p.2.1 p.2.2) (fun i p=>T i p.1 p.2.1 p.2.2) (x0,x1,x2) hρ h0 (fun i p=>hg i p.1 p.2.1 p.2.2) (fun i x p H K hx h hK=>step i x p.1 p.2.1 p.2.2 H K hx h fun z0 z1 z2 H' h'=>hK (z0,z1,z2) H' h') fun p=>fin p.1 p.2.1 p.2.2
theorem Th{α0 α1 α2 α3 α4:Type}{a:Nat}{xs:List V}{t u:Nat}{body:Ak->AH->(Ak->AH->Prop)->Prop}{N:Ak->AH->Prop}(f:Nat->α0->α1->α2->α3->α4->Ak)(T:Nat->α0->α1->α2->α3->α4->AH->Prop)(x0:α0)(x1:α1)(x2:α2)(x3:α3)(x4:α4)(hρ:ρ=f 0 x0 x1 x2 x3 x4)(h0:T 0 x0 x1 x2 x3 x4 H)(hg:∀i x0 x1 x2 x3 x4 H,T i x0 x1 x2 x3 x4 H->H a=some (.list xs))(step:∀i x y0 y1 y2 y3 y4 H K,xs[i]? = some x->T i y0 y1 y2 y3 y4 H->(∀z0 z1 z2 z3 z4 H'',T (i+1) z0 z1 z2 z3 z4 H''->K (f (i+1) z0 z1 z2 z3 z4) H'')->body (((f i y0 y1 y2 y3 y4).set t (some (.int i))).set u (some x)) H K)(fin:∀x0 x1 x2 x3 x4 H,T xs.length x0 x1 x2 x3 x4 H->N (f xs.length x0 x1 x2 x3 x4) H):Cv (fun H=>H a=some (.list xs)) (.two t u) body N (xs.mapIdx fun i x=> .pair (.int i) x) ρ H:=
 Hj (fun i p=>f i p.1 p.2.1 p.2.2.1 p.2.2.2.1 p.2.2.2.2) (fun i p=>T i p.1 p.2.1 p.2.2.1 p.2.2.2.1 p.2.2.2.2) (x0,x1,x2,x3,x4) hρ h0 (fun i p=>hg i p.1 p.2.1 p.2.2.1 p.2.2.2.1 p.2.2.2.2) (fun i x p H K hx h hK=>step i x p.1 p.2.1 p.2.2.1 p.2.2.2.1 p.2.2.2.2 H K hx h fun z0 z1 z2 z3 z4 H' h'=>hK (z0,z1,z2,z3,z4) H' h') fun p=>fin p.1 p.2.1 p.2.2.1 p.2.2.2.1 p.2.2.2.2
theorem Ti{α0 α1 α2 α3 α4 α5:Type}{a:Nat}{xs:List V}{t u:Nat}{body:Ak->AH->(Ak->AH->Prop)->Prop}{N:Ak->AH->Prop}(f:Nat->α0->α1->α2->α3->α4->α5->Ak)(T:Nat->α0->α1->α2->α3->α4->α5->AH->Prop)(x0:α0)(x1:α1)(x2:α2)(x3:α3)(x4:α4)(x5:α5)(hρ:ρ=f 0 x0 x1 x2 x3 x4 x5)(h0:T 0 x0 x1 x2 x3 x4 x5 H)(hg:∀i x0 x1 x2 x3 x4 x5 H,T i x0 x1 x2 x3 x4 x5 H->H a=some (.list xs))(step:∀i x y0 y1 y2 y3 y4 y5 H K,xs[i]? = some x->T i y0 y1 y2 y3 y4 y5 H->(∀z0 z1 z2 z3 z4 z5 H'',T (i+1) z0 z1 z2 z3 z4 z5 H''->K (f (i+1) z0 z1 z2 z3 z4 z5) H'')->body (((f i y0 y1 y2 y3 y4 y5).set t (some (.int i))).set u (some x)) H K)(fin:∀x0 x1 x2 x3 x4 x5 H,T xs.length x0 x1 x2 x3 x4 x5 H->N (f xs.length x0 x1 x2 x3 x4 x5) H):Cv (fun H=>H a=some (.list xs)) (.two t u) body N (xs.mapIdx fun i x=> .pair (.int i) x) ρ H:=
 Hj (fun i p=>f i p.1 p.2.1 p.2.2.1 p.2.2.2.1 p.2.2.2.2.1 p.2.2.2.2.2) (fun i p=>T i p.1 p.2.1 p.2.2.1 p.2.2.2.1 p.2.2.2.2.1 p.2.2.2.2.2) (x0,x1,x2,x3,x4,x5) hρ h0 (fun i p=>hg i p.1 p.2.1 p.2.2.1 p.2.2.2.1 p.2.2.2.2.1 p.2.2.2.2.2) (fun i x p H K hx h hK=>step i x p.1 p.2.1 p.2.2.1 p.2.2.2.1 p.2.2.2.2.1 p.2.2.2.2.2 H K hx h fun z0 z1 z2 z3 z4 z5 H' h'=>hK (z0,z1,z2,z3,z4,z5) H' h') fun p=>fin p.1 p.2.1 p.2.2.1 p.2.2.2.1 p.2.2.2.2.1 p.2.2.2.2.2
theorem Tj{α0 α1 α2 α3 α4 α5 α6 α7:Type}{a:Nat}{xs:List V}{t u:Nat}{body:Ak->AH->(Ak->AH->Prop)->Prop}{N:Ak->AH->Prop}(f:Nat->α0->α1->α2->α3->α4->α5->α6->α7->Ak)(T:Nat->α0->α1->α2->α3->α4->α5->α6->α7->AH->Prop)(x0:α0)(x1:α1)(x2:α2)(x3:α3)(x4:α4)(x5:α5)(x6:α6)(x7:α7)(hρ:ρ=f 0 x0 x1 x2 x3 x4 x5 x6 x7)(h0:T 0 x0 x1 x2 x3 x4 x5 x6 x7 H)(hg:∀i x0 x1 x2 x3 x4 x5 x6 x7 H,T i x0 x1 x2 x3 x4 x5 x6 x7 H->H a=some (.list xs))(step:∀i x y0 y1 y2 y3 y4 y5 y6 y7 H K,xs[i]? = some x->T i y0 y1 y2 y3 y4 y5 y6 y7 H->(∀z0 z1 z2 z3 z4 z5 z6 z7 H'',T (i+1) z0 z1 z2 z3 z4 z5 z6 z7 H''->K (f (i+1) z0 z1 z2 z3 z4 z5 z6 z7) H'')->body (((f i y0 y1 y2 y3 y4 y5 y6 y7).set t (some (.int i))).set u (some x)) H K)(fin:∀x0 x1 x2 x3 x4 x5 x6 x7 H,T xs.length x0 x1 x2 x3 x4 x5 x6 x7 H->N (f xs.length x0 x1 x2 x3 x4 x5 x6 x7) H):Cv (fun H=>H a=some (.list xs)) (.two t u) body N (xs.mapIdx fun i x=> .pair (.int i) x) ρ H:=
 Hj (fun i p=>f i p.1 p.2.1 p.2.2.1 p.2.2.2.1 p.2.2.2.2.1 p.2.2.2.2.2.1 p.2.2.2.2.2.2.1 p.2.2.2.2.2.2.2) (fun i p=>T i p.1 p.2.1 p.2.2.1 p.2.2.2.1 p.2.2.2.2.1 p.2.2.2.2.2.1 p.2.2.2.2.2.2.1 p.2.2.2.2.2.2.2) (x0,x1,x2,x3,x4,x5,x6,x7) hρ h0 (fun i p=>hg i p.1 p.2.1 p.2.2.1 p.2.2.2.1 p.2.2.2.2.1 p.2.2.2.2.2.1 p.2.2.2.2.2.2.1 p.2.2.2.2.2.2.2) (fun i x p H K hx h hK=>step i x p.1 p.2.1 p.2.2.1 p.2.2.2.1 p.2.2.2.2.1 p.2.2.2.2.2.1 p.2.2.2.2.2.2.1 p.2.2.2.2.2.2.2 H K hx h fun z0 z1 z2 z3 z4 z5 z6 z7 H' h'=>hK (z0,z1,z2,z3,z4,z5,z6,z7) H' h') fun p=>fin p.1 p.2.1 p.2.2.1 p.2.2.2.1 p.2.2.2.2.1 p.2.2.2.2.2.1 p.2.2.2.2.2.2.1 p.2.2.2.2.2.2.2
theorem X6(l:List Bool):bools? (l.map V.bool)=some l:=by
 induction l with
 | nil=>rfl
 | cons x r ih=>exact(show bools? ((x::r).map V.bool)=(bools? (r.map V.bool)).map (x :: ·)from rfl).trans (by rw[ih];rfl)
theorem Aih{a:Nat}{l:List Bool}(h:H a=some (.list (l.map V.bool))):Db .all [.ref a] H Q=Q (.bool (l.all id)) H:=by delta Db;dsimp only;(first|delta L1|delta H5|delta G1|delta L3);(try dsimp only[A1,Ar,Ry,M4,Rr]);rw[h];(try dsimp only[Gh,Tx]);rw[X6];(try dsimp only[Gh,Ff])
theorem Ago{a:Nat}{l:List Bool}(h:H a=some (.list (l.map V.bool)))(kk:Q (.bool (l.all id)) H):Db .all [.ref a] H Q:=Eq.mpr (Aih h) kk
noncomputable def fu(A:Nat->Nat->Bool):List Int->Option (Int×Int)
 | []=>none
 | x::r=>match r.find? (fun y=> !A x.toNat y.toNat)with
   | some y=>some (x,y)
   | none=>fu A r
theorem Nd{A:Nat->Nat->Bool}{x:Int}{r:List Int}:fu A (x::r)=match r.find? (fun y=> !A x.toNat y.toNat)with
 | some y=>some (x,y)
 | none=>fu A r:=rfl
theorem Wp{A:Nat->Nat->Bool}:∀ {l:List Int},fu A l=none↔l.Pairwise (fun x y=>A x.toNat y.toNat=true):=by
 intro l
 induction l with
 | nil=>exact⟨fun _=> .nil,fun _=>rfl⟩
 | cons x r ih=>
   rw[Nd,List.pairwise_cons]
   cases h:r.find? (fun y=> !A x.toNat y.toNat)with
   | some y=>exact⟨fun q=>absurd q (Option.some_ne_none _),fun q=>absurd (q.1 y (List.mem_of_find?_eq_some h)) (Bool.eq_false_iff.mp ((Bool.not_eq_true' _).mp (List.find?_some (p:=fun y:Int=> !A x.toNat y.toNat) h)))⟩
   | none=>exact ih.trans ⟨fun q=>⟨fun y hy=>(Bool.not_eq_false' _).mp (Bool.eq_false_iff.mpr (List.find?_eq_none.mp h y hy)),q⟩,fun q=>q.2⟩
theorem LI.at_{a:Nat}{l:List Int}{i:Nat}{v:V}(hv:(l.map V.int)[i]? = some v):∃x,l[i]? = some x/\v = .int x:=by
 rw[List.getElem?_map]at hv
 obtain⟨x,hx,rfl⟩:=Option.map_eq_some_iff.mp hv
 exact⟨x,hx,rfl⟩
theorem Ck{l:List Int}{i:Nat}{x:Int}(h:l[i]? = some x):l.drop i=x::l.drop (i+1):=by
 obtain⟨h1,h2⟩:=Da h
 rw[List.drop_eq_getElem_cons h1,h2]
theorem Gf(B:Iv G)(hG:G.fn "first_untied" = some Dj){w m r:Nat}{A:Nat->Nat->Bool}{l:List Int}(hW:C1 H w m A)(hL:LI H r l)(hin:∀x∈l,0<=x/\x<m)
 (q:∀H',Al H H'->match fu A l with|none=>Q .none H'|some (x,y)=>∀a,H' a=none->Q (.ref a) (upd H' a (.tuple [.int x,.int y]))):Ae G (n+3) "first_untied" [.ref w,.ref r] H Q E:=by
 refine Aj hG rfl ?_
 simp only[Zb,Zy,Z0,Z1,List.map,Eg,Eh,List.replicate,Dj]
 refine Nl (M7 ?_)
 simp only[Zf,Ai,Am]
 refine K6 hL ?_
 refine Tg (fun i r2 r3 r4=>[some (.ref w),some (.ref r),r2,r3,r4]) (fun i r2 r3 r4 ab=>(Al H ab)/\(fu A l=fu A (l.drop i))) none none none rfl ⟨Al.refl,rfl⟩ ?_ ?_ ?_
 ·rintro i r2 r3 r4 ab ⟨e,hf⟩
  exact e _ _ hL
 ·rintro i v r2 r3 r4 ab K hv ⟨e,hf⟩ hK
  obtain⟨x,hx,rfl⟩:=LI.at_ (a:=r) hv
  have hxr:=hin x (List.mem_of_getElem? hx)
  rw[Ck hx,Nd]at hf
  simp only[Z0,Z1,B6,B7,Fp]
  refine M8 ?_
  simp only[Zc,Ze,Zf,Zk,Zr,Z6,Ai,Am]
  (refine Ct (e _ _ hL) Hw Gd ?_;rw[Lw W8])
  intro s hs
  rw[show ((i:Int)+1).toNat=i+1 by exact W9,<-List.map_drop]
  refine Aq Ac ?_
  have eW:=e.trans (Al.upd (o:= .list ((l.drop (i+1)).map V.int)) hs)
  have hsv:upd ab s (.list ((l.drop (i+1)).map V.int)) s=some (.list ((l.drop (i+1)).map V.int)):=Ac
  generalize upd ab s (.list ((l.drop (i+1)).map V.int))=ae at *
  refine Cs (fun j r4=>[some (.ref w),some (.ref r),some (.int i),some (.int x),r4]) (fun j r4 ag=>(ag=ae)/\((l.drop (i+1)).find? (fun y=> !A x.toNat y.toNat)=((l.drop (i+1)).drop j).find? (fun y=> !A x.toNat y.toNat))) _ rfl ⟨rfl,rfl⟩ ?_ ?_ ?_
  ·rintro j r4 ag ⟨rfl,hj⟩;exact hsv
  ·rintro j v r4 ag K' hv ⟨rfl,hj⟩ hK'
   obtain⟨y,hy,rfl⟩:=LI.at_ (a:=r) hv
   have hyr:=hin y (List.mem_of_mem_drop (List.mem_of_getElem? hy))
   rw[Ck hy,List.find?_cons]at hj
   obtain⟨d,rs,w1,w2,w3⟩:=hW.ext eW
   simp only[Z0,Z1,B6,B7,Fo]
   refine Bm (!A x.toNat y.toNat) (fun Q' h'=>?_) ?_
   ·simp only[Zf,Zg,Zu,Zv,Ai,Am,C9,true_and,Ax,Co,Cp,D4,w1,w2,B.tied]
    exact Ly B (hW.ext eW) hxr.1 hxr.2 hyr.1 hyr.2 h'
   split
   ·rename_i hh
    simp only[Zf,Zt,Zu,Zv,Zy,Z0,Z1,Ai,Am]
    rw[hh]at hj
    simp only at hj
    rw[hj]at hf
    have:=q _ eW
    rw[hf]at this
    exact this
   ·rename_i hh
    simp only[Z0]
    rw[Bool.not_eq_true]at hh
    rw[hh]at hj
    exact hK' _ _ ⟨rfl,hj⟩
  ·rintro r4 ag ⟨rfl,hj⟩
   rw[Bk,List.drop_of_length_le (Nat.le_refl _),List.find?_nil]at hj
   rw[hj]at hf
   exact hK _ _ _ _ ⟨eW,hf⟩
 ·rintro r2 r3 r4 ab ⟨e,hf⟩
  rw[Bk,List.drop_of_length_le (Nat.le_refl _)]at hf
  have:=q ab e
  rw[hf]at this
  exact this
set_option linter.all false
structure Gr(A:Nat->Nat->Bool):Prop where
 irr:∀i,A i i=false
 symm:∀i j,A i j=A j i
theorem Hk{l:List Int}{i j:Nat}{x:Int}(h:l.Nodup)(h1:l[i]? = some x)(h2:l[j]? = some x):i=j:=by
 obtain⟨a1,a2⟩:=Da h1
 obtain⟨b1,b2⟩:=Da h2
 have h':=List.pairwise_iff_getElem.mp h
 rcases Nat.lt_trichotomy i j with q|q|q
 ·exact absurd (a2.trans b2.symm) (h' i j a1 b1 q)
 ·exact q
 ·exact absurd (b2.trans a2.symm) (h' j i b1 a1 q)
variable {G:A2} {n:Nat} {H H':AH} {Q:Ag} {E:EP} {C:CS} {ρ:Ak}
theorem Abp{a:Nat}{xs:List V}{k:Int}{x:V}(h:H a=some (.list xs))(h0:k<0)(h1:0<=k+xs.length)(hx:xs[(k+xs.length).toNat]? = some x):C3 (.ref a) (.int k) H Q=Q x H:=by
 have:C0 k xs.length=some (k+xs.length).toNat:=by delta C0;rw[if_neg (Int.not_le.mpr h0),if_pos h1]
 delta C3;(try dsimp only[Ar]);rw[h];(try dsimp only);rw[this];(try dsimp only[Ff]);rw[hx]
theorem Aef{a:Nat}{xs:List V}{k:Int}{x:V}(h:H a=some (.list xs))(h0:k<0)(h1:0<=k+xs.length)(hx:xs[(k+xs.length).toNat]? = some x)(kk:Q x H):C3 (.ref a) (.int k) H Q:=Eq.mpr (Abp h h0 h1 hx) kk
theorem Aeg{n:Nat}{x y:Int}:Hx n H (.int x) (.int y)=some (decide (x=y)):=by cases n<;>rfl
theorem Abq(n:Nat):∀l l':List Int,l.length=l'.length->Fg (List.zipWith (Hx n H) (l.map V.int) (l'.map V.int))=some (decide (l=l')):=by
 intro l
 induction l with
 | nil=>exact fun l' h=>by cases l' with
   | nil=>rfl
   | cons _ _=>cases h
 | cons x r ih=>exact fun l' h=>by cases l' with
   | nil=>cases h
   | cons y s=>
     show Fg (Hx n H (.int x) (.int y)::List.zipWith (Hx n H) (r.map V.int) (s.map V.int))=_
     rw[Aeg]
     show (Fg _).map _=_
     rw[ih s (Nat.succ.inj h)]
     show some (decide (x=y)&&decide (r=s))=_
     rw[<-Bool.decide_and]
     exact congrArg some (decide_eq_decide.mpr List.cons_eq_cons.symm)
theorem Abr{n a b:Nat}{xs ys:List V}(h:H a=some (.list xs))(h':H b=some (.list ys)):Hx (n+1) H (.ref a) (.ref b)=if xs.length=ys.length then Fg (List.zipWith (Hx n H) xs ys)else some false:=by
 conv=>lhs;whnf
 rw[h,h']
theorem Abs{n a b:Nat}{l l':List Int}(h:LI H a l)(h':LI H b l'):Hx (n+1) H (.ref a) (.ref b)=some (decide (l=l')):=by
 rw[Abr h h',Bk,Bk]
 split
 ·rename_i q;exact Abq n l l' q
 ·rename_i q
  rw[decide_eq_false (fun e=>q (by rw[e]))]
theorem Aii{a b:Nat}{l l':List Int}(h:LI H a l)(h':LI H b l'):Bd .Eq (.ref a) (.ref b) H Q=Q (.bool (decide (l=l'))) H:=by
 have:Hx C7 H (.ref a) (.ref b)=some (decide (l=l')):=Abs h h'
 delta Bd;(try dsimp only);rw[this];(try dsimp only[Ff])
theorem U9{a b:Nat}{l l':List Int}(h:LI H a l)(h':LI H b l')(kk:Q (.bool (decide (l=l'))) H):Bd .Eq (.ref a) (.ref b) H Q:=Eq.mpr (Aii h h') kk
theorem Aij{a b:Nat}{l l':List Int}(h:LI H a l)(h':LI H b l'):Bd .NotEq (.ref a) (.ref b) H Q=Q (.bool (!decide (l=l'))) H:=by
 have:Hx C7 H (.ref a) (.ref b)=some (decide (l=l')):=Abs h h'
 delta Bd;(try dsimp only);rw[this];(try dsimp only[Ff])
theorem Agp{a b:Nat}{l l':List Int}(h:LI H a l)(h':LI H b l')(kk:Q (.bool (!decide (l=l'))) H):Bd .NotEq (.ref a) (.ref b) H Q:=Eq.mpr (Aij h h') kk
theorem LI.sub{a:Nat}{l:List Int}{x:Int}{i:Nat}(hx:l[i]? = some x):(l.map V.int)[(i:Int).toNat]? = some (.int x):=by
 rw[Int.toNat_natCast,List.getElem?_map,hx];rfl
set_option linter.all false
variable {G:A2} {n:Nat} {H H':AH} {Q:Ag} {E:EP} {C:CS} {ρ:Ak}
theorem Aik{a:Nat}{xs:List V}(h:H a=some (.list xs)):C8 (.ref a) .none .none (.int (-1)) H Q=Au (.list xs.reverse) H Q:=by
 show Gh (H a) (fun xs=>none=(none:Option Int)/\(-1:Int) = -1/\Au (.list xs.reverse) H Q)=_
 rw[h];exact propext ⟨fun q=>q.2.2,fun q=>⟨rfl,rfl,q⟩⟩
theorem Abt{a:Nat}{xs:List V}(h:H a=some (.list xs))(kk:Au (.list xs.reverse) H Q):C8 (.ref a) .none .none (.int (-1)) H Q:=Eq.mpr (Aik h) kk
theorem Le{a:Nat}{xs:List V}(h:H a=some (.list xs)):Db .list [.ref a] H Q=Au (.list xs) H Q:=by
 delta Db;dsimp only;(first|delta L1|delta H5|delta G1|delta L3);(try dsimp only[A1,Ar,Ry,M4,Rr]);rw[h];(try dsimp only[Gh,Tx])
theorem Aeh{a:Nat}{xs:List V}(h:H a=some (.list xs)):E0 .clear (.ref a) [] H Q=Q .none (upd H a (.list [])):=by
 delta E0;dsimp only;(first|delta Dx|delta F3|delta Dy|delta F4|delta Dz|delta C4|delta Bt);(try dsimp only[A1,Ar,Ry,M4,Rr]);rw[h];(try dsimp only[Gh,Tx])
theorem Abu{a b:Nat}{xs ys:List V}(h:H a=some (.list xs))(h':H b=some (.list ys))(hab:a≠b)(hl:xs.length+ys.length<=1048576):E0 .extend (.ref a) [.ref b] H Q=Q .none (upd H a (.list (xs++ys))):=by
 delta E0;dsimp only;(first|delta Dx|delta F3|delta Dy|delta F4|delta Dz|delta C4|delta Bt);(try dsimp only[A1,Ar,Ry,M4,Rr]);rw[h];(try dsimp only[Gh,Tx]);rw[h'];(try dsimp only[Gh,Ff])
 exact propext ⟨fun h=>h.2,fun q=>⟨⟨hab,hl⟩,q⟩⟩
theorem Hz{s:S}{rest:List S}{N:Ak->AH->Prop}{R:Ag}(f:Ak)(T:AH->Prop)(h1:∀N:Ak->AH->Prop,(∀H,T H->N f H)->wpS G C s ρ H N R E)(h2:∀H,T H->Bh G C rest f H N R E):Bh G C (s::rest) ρ H N R E:=
 Ad (h1 _ h2)
theorem Df{α0:Type}{s:S}{rest:List S}{N:Ak->AH->Prop}{R:Ag}(f:α0->Ak)(T:α0->AH->Prop)(h1:∀N:Ak->AH->Prop,(∀x0 H,T x0 H->N (f x0) H)->wpS G C s ρ H N R E)(h2:∀x0 H,T x0 H->Bh G C rest (f x0) H N R E):Bh G C (s::rest) ρ H N R E:=
 Ad (h1 _ h2)
theorem Lf{α0 α1:Type}{s:S}{rest:List S}{N:Ak->AH->Prop}{R:Ag}(f:α0->α1->Ak)(T:α0->α1->AH->Prop)(h1:∀N:Ak->AH->Prop,(∀x0 x1 H,T x0 x1 H->N (f x0 x1) H)->wpS G C s ρ H N R E)(h2:∀x0 x1 H,T x0 x1 H->Bh G C rest (f x0 x1) H N R E):Bh G C (s::rest) ρ H N R E:=
 Ad (h1 _ h2)
theorem Alk{α0 α1 α2:Type}{s:S}{rest:List S}{N:Ak->AH->Prop}{R:Ag}(f:α0->α1->α2->Ak)(T:α0->α1->α2->AH->Prop)(h1:∀N:Ak->AH->Prop,(∀x0 x1 x2 H,T x0 x1 x2 H->N (f x0 x1 x2) H)->wpS G C s ρ H N R E)(h2:∀x0 x1 x2 H,T x0 x1 x2 H->Bh G C rest (f x0 x1 x2) H N R E):Bh G C (s::rest) ρ H N R E:=
 Ad (h1 _ h2)
theorem Alm{α0 α1 α2 α3:Type}{s:S}{rest:List S}{N:Ak->AH->Prop}{R:Ag}(f:α0->α1->α2->α3->Ak)(T:α0->α1->α2->α3->AH->Prop)(h1:∀N:Ak->AH->Prop,(∀x0 x1 x2 x3 H,T x0 x1 x2 x3 H->N (f x0 x1 x2 x3) H)->wpS G C s ρ H N R E)(h2:∀x0 x1 x2 x3 H,T x0 x1 x2 x3 H->Bh G C rest (f x0 x1 x2 x3) H N R E):Bh G C (s::rest) ρ H N R E:=
 Ad (h1 _ h2)
theorem Ail{α0 α1 α2 α3 α4:Type}{s:S}{rest:List S}{N:Ak->AH->Prop}{R:Ag}(f:α0->α1->α2->α3->α4->Ak)(T:α0->α1->α2->α3->α4->AH->Prop)(h1:∀N:Ak->AH->Prop,(∀x0 x1 x2 x3 x4 H,T x0 x1 x2 x3 x4 H->N (f x0 x1 x2 x3 x4) H)->wpS G C s ρ H N R E)(h2:∀x0 x1 x2 x3 x4 H,T x0 x1 x2 x3 x4 H->Bh G C rest (f x0 x1 x2 x3 x4) H N R E):Bh G C (s::rest) ρ H N R E:=
 Ad (h1 _ h2)
theorem Aln{α0 α1 α2 α3 α4 α5:Type}{s:S}{rest:List S}{N:Ak->AH->Prop}{R:Ag}(f:α0->α1->α2->α3->α4->α5->Ak)(T:α0->α1->α2->α3->α4->α5->AH->Prop)(h1:∀N:Ak->AH->Prop,(∀x0 x1 x2 x3 x4 x5 H,T x0 x1 x2 x3 x4 x5 H->N (f x0 x1 x2 x3 x4 x5) H)->wpS G C s ρ H N R E)(h2:∀x0 x1 x2 x3 x4 x5 H,T x0 x1 x2 x3 x4 x5 H->Bh G C rest (f x0 x1 x2 x3 x4 x5) H N R E):Bh G C (s::rest) ρ H N R E:=
 Ad (h1 _ h2)
theorem Alo{α0 α1 α2 α3 α4 α5 α6:Type}{s:S}{rest:List S}{N:Ak->AH->Prop}{R:Ag}(f:α0->α1->α2->α3->α4->α5->α6->Ak)(T:α0->α1->α2->α3->α4->α5->α6->AH->Prop)(h1:∀N:Ak->AH->Prop,(∀x0 x1 x2 x3 x4 x5 x6 H,T x0 x1 x2 x3 x4 x5 x6 H->N (f x0 x1 x2 x3 x4 x5 x6) H)->wpS G C s ρ H N R E)(h2:∀x0 x1 x2 x3 x4 x5 x6 H,T x0 x1 x2 x3 x4 x5 x6 H->Bh G C rest (f x0 x1 x2 x3 x4 x5 x6) H N R E):Bh G C (s::rest) ρ H N R E:=
 Ad (h1 _ h2)
set_option linter.all false
variable {G:A2} {n:Nat} {H H':AH} {Q:Ag} {E:EP} {C:CS} {ρ:Ak}
theorem Rh{a:Nat}{l:List Int}{k v:Int}{N:AH->Prop}(h:LI H a l)(h0:0<=k)(hk:k<l.length):setItem (.ref a) (.int k) (.int v) H N=N (upd H a (.list ((l.set k.toNat v).map V.int))):=by
 rw[Abj h h0 (by rw[Bk];exact hk),List.map_set]
theorem Abv{a:Nat}{l:List Int}{k v:Int}{N:AH->Prop}(h:LI H a l)(h0:0<=k)(hk:k<l.length)(kk:N (upd H a (.list ((l.set k.toNat v).map V.int)))):setItem (.ref a) (.int k) (.int v) H N:=Eq.mpr (Rh h h0 hk) kk
theorem Aei{ns:List Int}{m:Nat}{rows:List (List Int)}{ps:List (Int×Int)}(hW:Wf m rows)(hT:Abl ns m rows ps):Ew m ps:=by
 intro p hp
 obtain⟨k,r,one,h1,h2,h3⟩:=hT.1 p hp
 have hk:=(Da h1).1
 rw[hW.1]at hk
 have hr:=(hW.2 k r h1).2 one h2
 have n1:=Qe (ns:=ns) (m:=m) (k:=k) (Q89 hk)
 have n2:=Qe (ns:=ns) (m:=m) (k:=one) (Int.lt_of_le_of_lt n1.1 n1.2)
 have n3:Ba ns m k≠Ba ns m one:=fun e=>by
  have:=U7 (ns:=ns) (m:=m) (j:=k) (k:=one) (Int.lt_of_le_of_lt n2.1 n2.2) (⟨Int.natCast_nonneg _,Int.ofNat_lt.mpr hk⟩) (⟨hr.1,Int.lt_trans hr.2 (Int.ofNat_lt.mpr hk)⟩) e
  exact Int.lt_irrefl _ (Int.lt_of_lt_of_le hr.2 (Int.le_of_eq this))
 rcases h3 with rfl|rfl
 ·exact⟨n1,n2,n3⟩
 ·exact⟨n2,n1,Ne.symm n3⟩
theorem Aim{m:Nat}{ps:List (Int×Int)}(g:Ew m ps):Gr (Lc ps):=by
 refine⟨fun i=>?_,fun i j=>?_⟩
 ·unfold Lc
  rw[decide_eq_false_iff_not]
  exact fun h=>(h.in_ g).2.2 rfl
 ·unfold Lc
  exact decide_eq_decide.mpr ⟨Ru.symm,Ru.symm⟩
noncomputable def Yt(H:AH)(h:Nat):AH:=fun b=>if b=h then none else H b
theorem Tk{h:Nat}:Yt H h h=none:=by simp[Yt]
theorem Aej{h:Nat}:Al (Yt H h) H:=fun a o e=>by
 unfold Yt at e
 split at e
 ·cases e
 ·exact e
theorem Wq{h:Nat}(e:Al H H')(hn:H h=none):Al H (Yt H' h):=fun a o q=>by
 unfold Yt
 rw[if_neg (fun z=>by rw[z,hn]at q;cases q)]
 exact e a o q
set_option linter.all false
variable {G:A2} {n:Nat} {H H':AH} {Q:Ag} {E:EP} {C:CS} {ρ:Ak}
theorem Abw{v:V}{a:Nat}{xs:List V}{r:Bool}(h:H a=some (.tuple xs))(hm:T3 v xs=some r):Bd .NotIn v (.ref a) H Q=Q (.bool (!r)) H:=by
 delta Bd;(try dsimp only);(try delta Nh);(try dsimp only[A1]);rw[h];(try dsimp only[Ar]);rw[hm];(try dsimp only[Ff])
set_option linter.all false
noncomputable def Os(A:Nat->Nat->Bool)(l:List Int)(p:Int):List Int:=l.filter fun o=>A p.toNat o.toNat
noncomputable def Fc(A:Nat->Nat->Bool)(l:List Int)(p:Int):Bool:=(fu A (Os A l p)).isNone
noncomputable def ltg(A:Nat->Nat->Bool)(l:List Int):Option Int:=l.find? (Fc A l)
noncomputable def Bg(A:Nat->Nat->Bool):Nat->List Int->List Int->List Int×List Int
 | 0,g,t=>(g,t)
 | k+1,g,t=>match ltg A t with
   | none=>(g,t)
   | some p=>Bg A k (g ++ [p]) (t.erase p)
theorem Ri{A:Nat->Nat->Bool}{l:List Int}{p:Int}(h:ltg A l=some p):p∈l:=List.mem_of_find?_eq_some h
noncomputable def Abx:Option Int->V
 | none=> .none
 | some p=> .int p
theorem X7:Abx none = .none:=rfl
theorem X8{p:Int}:Abx (some p) = .int p:=rfl
noncomputable def A0(m:Nat):List Int:=M2 (List.range m)
theorem Cu{m:Nat}{x:Int}:x∈A0 m↔0<=x/\x<m:=by
 unfold A0
 rw[Te,List.mem_range]
 constructor<;>(rintro⟨h1,h2⟩;exact⟨h1,by(first|lia|omega)⟩)
theorem Cg{m:Nat}:(A0 m).length=m:=by simp[A0,M2]
theorem Qg{m:Nat}:(A0 m).Pairwise (· < ·):=by
 have:=Re (m:=m) (fun _=>true)
 rwa[List.filter_eq_self.mpr (fun _ _=>rfl)]at this
theorem Cz{m:Nat}:(A0 m).Nodup:=Qg.imp fun h=>(Int.ne_of_lt h)
variable {G:A2} {n:Nat} {H H':AH} {Q:Ag} {E:EP} {C:CS} {ρ:Ak}
theorem Aek{i:Int}:Bd .IsNot (.int i) .none H Q=Q (.bool true) H:=rfl
theorem Tl{a:Nat}{l:List Int}{k:Int}(h:LI H a l)(hk:k∈l):E0 .remove (.ref a) [.int k] H Q=Q .none (upd H a (.list ((l.erase k).map V.int))):=by
 unfold LI at h
 delta E0;dsimp only;(first|delta Dx|delta F3|delta Dy|delta F4|delta Dz|delta C4|delta Bt);(try dsimp only[A1,Ar,Ry,M4,Rr]);rw[h];(try dsimp only[Gh,Tx]);rw[Op];(try dsimp only[Gh,Ff])
 exact propext ⟨fun h=>h.2,fun q=>⟨hk,q⟩⟩
theorem Ot{m:Nat}:((List.range m).map fun(i:Nat)=>V.int i)=(A0 m).map V.int:=(List.map_map).symm
theorem I2(B:Iv G)(hG:G.fn "Web.beside" = some Ec){w m:Nat}{A:Nat->Nat->Bool}{x:Int}(hW:C1 H w m A)(h0:0<=x)(h1:x<m)
 (q:∀a H',Al H H'->H a=none->LI H' a (Ao m A x.toNat)->Q (.ref a) H'):Ae G (n+2) "Web.beside" [.ref w,.int x] H Q E:=by
 have hW':=hW
 refine Aa fun nY=>?_
 obtain⟨d,rs,w1,w2,w3⟩:=hW'
 obtain⟨as,z,a1,a2,a3,a4⟩:=w3.row h0 h1
 refine nY ?_;clear nY
 refine Aj hG rfl ?_
 simp only[Zf,Zo,Zp,Zq,Zu,Zv,Zx,Zy,Z0,Z1,List.map,Eg,Eh,Ai,Am,C9,true_and,Ec,Ax,Co,Cp,D4,w1,w2,B.need]
 refine Oq B hW h0 h1 ?_
 (try dsimp only)
 simp only[Ge w1 w2 (show Jc [(C2.many,V.int m),(C2.rows,V.ref rs)] .rows=some (.ref rs)from rfl),A9 a1 h0 a3,Le a4]
 exact Ab fun a H' e n v=>q a H' e n v
theorem Aby(B:Iv G){w m r:Nat}{A:Nat->Nat->Bool}{l:List Int}{p:Int}{c:X}{Q:Ag}(hW:C1 H w m A)(hL:LI H r l)(hin:∀x∈l,0<=x/\x<m)(hp:0<=p/\p<m)(hl:l.length<=4000)
 (hc:∀(x:Int) K,0<=x->x<m->K (.bool (A p.toNat x.toNat)) H->Aw G C c (some (.int x)::ρ) H K EF)
 (q:∀a H',Al H H'->H a=none->LI H' a (Os A l p)->Q (.ref a) H') :
 l.length<=4000/\Bn (fun H'=>H' r=some (.list (l.map V.int))) (.one 0) (fun ρ H K=>Aw G C c ρ H (fun c H=>truthy c fun b=>if b then Aw G C (.var 0) ρ H (fun v H=>K (some v) H) EF else K none H) EF)
  (fun vs H=>Au (.list vs) H Q) ((l.map V.int).map .v) [] (none::ρ) H:=by
 refine⟨hl,Eb (p:=fun o=>A p.toNat o.toNat) hL (fun x hx K hK=>?_) ?_⟩
 ·have hxr:=hin x hx
  refine hc x _ hxr.1 hxr.2 ?_
  (try dsimp only);(try simp only[Zf,Ch,Ai])
  split
  ·rename_i h;rw[if_pos h]at hK;exact hK
  ·rename_i h;rw[if_neg h]at hK;exact hK
 ·exact Ab fun a H' e n v=>q a H' e n v
theorem Mu(B:Iv G)(hF:G.fn "first_untied" = some Dj)(hG:G.fn "least_to_go" = some F9){w m r:Nat}{A:Nat->Nat->Bool}{l:List Int}(hW:C1 H w m A)(hL:LI H r l)(hin:∀x∈l,0<=x/\x<m)(hl:l.length<=60)
 (q:∀H',Al H H'->Q (Abx (ltg A l)) H'):Ae G (n+4) "least_to_go" [.ref w,.ref r] H Q E:=by
 refine Aj hG rfl ?_
 simp only[Zb,Zy,Z0,Z1,List.map,Eg,Eh,List.replicate,F9]
 refine M8 ?_
 simp only[Zf,Ai,Am]
 refine Aq hL ?_
 refine Cs (fun i r2=>[some (.ref w),some (.ref r),r2]) (fun i r2 ab=>(Al H ab)/\(l.find? (Fc A l)=(l.drop i).find? (Fc A l))) _ rfl ⟨Al.refl,rfl⟩ ?_ ?_ ?_
 ·rintro i r2 ab ⟨e,hf⟩;exact hL.ext e
 ·rintro i v r2 ab K hv ⟨e,hf⟩ hK
  refine Aa fun nY=>?_
  obtain⟨x,hx,rfl⟩:=LI.at_ (a:=r) hv
  have hxr:=hin x (List.mem_of_getElem? hx)
  rw[Ck hx,List.find?_cons]at hf
  have hW1:=hW.ext e
  have hL1:=hL.ext e
  obtain⟨d,rs,w1,w2,w3⟩:=hW1
  refine nY ?_;clear nY
  simp only[Gm,Z1,Z0,List.set_cons_succ,List.set_cons_zero]
  refine Bv (T7 (M6 ?_))
  refine⟨by rw[hF];rfl,?_⟩
  refine H6 (Ni ?_)
  simp only[List.getElem?_cons_zero]
  refine H6 (hvK ?_)
  simp only[Zb,Zf,Zu,Zy,Z0,Z1,Z2,Eg,Eh,Ai,Am,List.replicate]
  refine Aq hL1 ?_
  have:=Aby (C:=Ae G (n+3)) (ρ:=[some (.ref w),some (.ref r),some (.int x)]) (c:=Dt) (Q:=fun v H=>Ae G (n+3) "first_untied" [.ref w,v] H (fun a H=>Bd CmpOp.Is a V.none H fun v H=>truthy v fun c=>if c=true then Q (V.int x) H else K [some (.ref w),some (.ref r),some (.int x)] H) E) B ⟨d,rs,w1,w2,w3⟩ hL1 hin hxr (Af hl (by decide)) (fun y K' h0 h1 hK'=>by
   simp only[Zf,Zu,Zv,Ai,Am,C9,true_and,Dt,Ax,Co,Cp,D4,w1,w2,B.tied]
   exact Ly B ⟨d,rs,w1,w2,w3⟩ hxr.1 hxr.2 h0 h1 hK') (fun a ae e2 _ hL2=>by
   refine Gf B hF (hW.ext (e.trans e2)) hL2 (fun y hy=>hin y (List.mem_filter.mp hy).1) fun ag e3=>?_
   have e13:=(e.trans e2).trans e3
   cases hfu:fu A (Os A l x)with
   | none=>
     (try dsimp only);(try simp only[Zbg,Ch])
     simp only[if_true]
     have:Fc A l x=true:=by unfold Fc;rw[hfu];rfl
     rw[this]at hf
     have hq:=q ag e13
     unfold ltg at hq
     rw[hf]at hq
     exact hq
   | some pr=>
     obtain⟨y,z⟩:=pr
     intro a' ha'
     (try dsimp only);(try simp only[Zbh,Ch])
     simp only[Bool.false_eq_true,if_false]
     have:Fc A l x=false:=by unfold Fc;rw[hfu];rfl
     rw[this]at hf
     exact hK _ _ ⟨e13.trans (Al.upd ha'),hf⟩)
  exact⟨by simp[Bp];exact(Af this.1 (by decide)),this.2⟩
 ·rintro r2 ab ⟨e,hf⟩
  rw[Bk,List.drop_of_length_le (Nat.le_refl _),List.find?_nil]at hf
  have hq:=q ab e
  unfold ltg at hq
  rw[hf]at hq
  exact hq
set_option linter.all false
variable {G:A2} {n:Nat} {H H':AH} {Q:Ag} {E:EP} {C:CS} {ρ:Ak}
theorem LI.upd_ne{a b:Nat}{l:List Int}{o:O}(h:LI H a l)(hn:a≠b):LI (upd H b o) a l:=by
 unfold LI at *;rw[Mine.Internal.Cl.upd_ne hn];exact h
theorem LI.ne_none{a b:Nat}{l:List Int}(h:LI H a l)(hn:H b=none):a≠b:=fun z=>by
 unfold LI at h;rw[z,hn]at h;cases h
theorem Lg{A:Nat->Nat->Bool}{k:Nat}{g t:List Int}{p:Int}(h:ltg A t=some p):Bg A (k+1) g t=Bg A k (g ++ [p]) (t.erase p):=by
 show (match ltg A t with
  | none=>(g,t)
  | some p=>Bg A k (g ++ [p]) (t.erase p))=_
 rw[h]
theorem Lh{A:Nat->Nat->Bool}{k:Nat}{g t:List Int}(h:ltg A t=none):Bg A k g t=(g,t):=by
 cases k with
 | zero=>rfl
 | succ k=>
   show (match ltg A t with
    | none=>(g,t)
    | some p=>Bg A k (g ++ [p]) (t.erase p))=_
   rw[h]
structure Fns(G:A2):Prop where
 base:Iv G
 untied:G.fn "first_untied" = some Dj
 ltg:G.fn "least_to_go" = some F9
 taken:G.fn "taken" = some Vq
 beside:G.fn "Web.beside" = some Ec
theorem Wr(F:Fns G){w m:Nat}{A:Nat->Nat->Bool}(hW:C1 H w m A)(hm:m<=60)
 (q:∀r a b H',Al H H'->H r=none->H a=none->H b=none->a≠b->H' r=some (.tuple [.ref b,.ref a])->LI H' b (Bg A m [] (A0 m)).1->LI H' a (Bg A m [] (A0 m)).2->Q (.ref r) H') :
 Ae G (n+5) "taken" [.ref w] H Q E:=by
 have B:=F.base
 refine Aj F.taken rfl ?_
 simp only[Vq,List.map,List.replicate,List.cons_append,List.nil_append]
 refine Df (fun a=>[some (.ref w),some (.ref a),none,none]) (fun a ab=>Fe (Al H ab) (H a=none) (LI ab a (A0 m))) (fun N hN=>?_) ?_
 ·obtain⟨d,rs,w1,w2,w3⟩:=hW
  simp (disch:=first|decide|omega) only[Zf,Zo,Zp,Zu,Zv,Zw,Zbq,Ai,B6,B7,Ge w1 w2 (show Jc [(C2.many,V.int m),(C2.rows,V.ref rs)] .many=some (.int m)from rfl)]
  refine Ab fun a ab e n v=>hN a _ ⟨e,n,?_⟩
  unfold LI;rw[v,Int.toNat_natCast,Ot]
 rintro a ab ⟨e1,na,ha⟩
 refine Df (fun b=>[some (.ref w),some (.ref a),some (.ref b),none]) (fun b ae=>Fe (Al ab ae) (ab b=none) (LI ae b [])) (fun N hN=>?_) ?_
 ·simp only[Zs,Zu,Zw,B6,B7]
  exact Ab fun b ae e n v=>hN b _ ⟨e,n,v⟩
 rintro b ae ⟨e2,nb1,hb⟩
 have nb:H b=none:=e1.isNone nb1
 have hab:a≠b:=ha.ne_none nb1
 have ha2:=ha.ext e2
 have hin:∀x∈A0 m,0<=x/\x<(m:Int):=fun x hx=>Cu.mp hx
 refine Hz ([some (.ref w),some (.ref a),some (.ref b),some (Abx (ltg A (A0 m)))]) (fun ag=>Al ae ag) (fun N hN=>?_) ?_
 ·simp only[Zf,Zn,Zu,Zv,Zw,Ai,Am,B6,B7,C9,true_and,F.ltg]
  refine Mu B F.untied F.ltg (hW.ext (e1.trans e2)) ha2 hin (by rw[Cg];exact hm) fun ag e3=>?_
  exact hN _ e3
 rintro ag e3
 refine Hz ([some (.ref w),some (.ref a),some (.ref b),some .none]) (fun ah=>Al H ah/\LI ah b (Bg A m [] (A0 m)).1/\LI ah a (Bg A m [] (A0 m)).2) (fun N hN=>?_) ?_
 ·refine Kc ?_
  refine⟨fun k ρ ah=>(Jy fun t g=>An8 (t.length=k) (ρ = [some (.ref w),some (.ref a),some (.ref b),some (Abx (ltg A t))]) (Al H ah) (LI ah a t) (LI ah b g) (g.length+t.length<=60) (Bg A k g t=Bg A m [] (A0 m)) (∀x∈t,0<=x/\x<(m:Int))),
   ⟨_,A0 m,[],rfl,rfl,(e1.trans e2).trans e3,ha2.ext e3,hb.ext e3,by rw[Cg];simpa using hm,by rw[Cg],hin⟩,?_⟩
  rintro k ρ ah ⟨t,g,hk,rfl,e,hat,hbg,hlen,htk,hint⟩
  cases hlt:ltg A t with
  | none=>
    simp only[Zb,Zf,Zl,Zbi,Ch,Ai,Am,X7]
    simp only[Bool.false_eq_true,if_false]
    rw[Lh hlt]at htk
    refine hN _ ⟨e,?_,?_⟩
    ·rw[<-htk];exact hbg
    ·rw[<-htk];exact hat
  | some p=>
    have hp:=Ri hlt
    have hpl:=List.length_pos_of_mem hp
    have hel:=List.length_erase_of_mem hp
    simp only[Zb,Zf,Zl,Ch,Ai,Am,X8,Aek]
    simp only[if_true]
    simp (disch:=first|decide|omega) only[Zf,Zn,Zu,Zv,Zw,Zx,Z0,Z1,Ai,Am,B6,B7,true_and,Nv,Bo,A8 hat,Tl hat hp]
    have hb1:LI (upd ah a (.list ((t.erase p).map V.int))) b g:=hbg.upd_ne (Ne.symm hab)
    have hbl:(g.map V.int).length<1048576:=by rw[Bk];exact Nat.lt_of_le_of_lt (Af (Nat.le_add_right _ _) hlen) (by decide)
    simp (disch:=first|decide|omega) only[true_and,A8 hb1,Bq hb1 hbl]
    have ha3:LI (upd (upd ah a (.list ((t.erase p).map V.int))) b (.list (g.map V.int ++ [.int p]))) a (t.erase p):=LI.upd_ne Ac hab
    have hb3:LI (upd (upd ah a (.list ((t.erase p).map V.int))) b (.list (g.map V.int ++ [.int p]))) b (g ++ [p]):=by unfold LI;rw[Ac];simp
    have e5:Al H (upd (upd ah a (.list ((t.erase p).map V.int))) b (.list (g.map V.int ++ [.int p]))):=(e.upd' na).upd' nb
    generalize upd (upd ah a (.list ((t.erase p).map V.int))) b (.list (g.map V.int ++ [.int p]))=ak at *
    have hin5:∀x∈t.erase p,0<=x/\x<(m:Int):=fun x hx=>hint x (List.mem_of_mem_erase hx)
    refine⟨by rw[F.ltg];rfl,?_⟩
    refine Mu B F.untied F.ltg (hW.ext e5) ha3 hin5 (Af (Nat.le_of_eq hel) (Af (Nat.sub_le _ _) (Af (Nat.le_add_left _ _) hlen))) fun al e6=>?_
    obtain⟨k',rfl⟩:∃k',k=k'+1:=⟨k-1,(Ajs hk hpl)⟩
    refine⟨k',(Nat.le_refl _),t.erase p,g ++ [p],(Ajt hel hk),rfl,e5.trans e6,ha3.ext e6,hb3.ext e6,by simp;exact Aju hlen hel hk,?_,hin5⟩
    rw[<-Lg hlt];exact htk
 rintro ah ⟨e4,hb4,ha4⟩
 simp only[Zf,Zt,Zu,Zv,Zy,Z0,Z1,Ai,Am]
 exact Ab fun r ak e5 n5 v5=>q r a b ak (e4.trans e5) (e4.isNone n5) na nb hab v5 (hb4.ext e5) (ha4.ext e5)
set_option linter.all false
variable {G:A2} {n:Nat} {H H':AH} {Q:Ag} {E:EP} {C:CS} {ρ:Ak}
theorem Tm(hG:G.fn "_law_untied" = some Dk){a m r:Nat}{A:Nat->Nat->Bool}{l:List Int}(hN:Ea H a m A)(hL:LI H r l)(hl:l.length<=4000)(hin:∀x∈l,0<=x/\x<m)
 (q:∀H',Al H H'->match fu A l with|none=>Q .none H'|some (x,y)=>∀a,H' a=none->Q (.ref a) (upd H' a (.tuple [.int x,.int y]))):Ae G (n+1) "_law_untied" [.ref a,.ref r] H Q E:=by
 refine Aj hG rfl ?_
 simp only[Zb,Zy,Z0,Z1,List.map,Eg,Eh,List.replicate,Dk]
 refine T8 ?_
 simp only[Zf,Zo,Zu,Zv,Ai,Am,Cm hL]
 refine Gw (Int.natCast_nonneg _) (by rw[Bk];exact(Int.ofNat_le.mpr (Af hl (by decide)))) ?_
 refine Jv (fun i r2 r3=>[some (.ref a),some (.ref r),r2,r3]) (fun i r2 r3 ab=>(Al H ab)/\(fu A l=fu A (l.drop i))) _ _ rfl ⟨Al.refl,rfl⟩ ?_ ?_
 ·rintro i r2 r3 ab K hi ⟨e,hf⟩ hK
  have hi':i<l.length:=by simpa using hi
  have hx:=List.getElem?_eq_getElem hi'
  generalize l[i]=x at hx
  have hxr:=hin x (List.mem_of_getElem? hx)
  rw[Ck hx,Nd]at hf
  have hL1:=hL.ext e
  simp only[Z0,Z1,B6,B7,Ht]
  refine M8 ?_
  simp only[Zc,Ze,Zf,Zk,Zr,Z6,Ai,Am]
  (refine Ct hL1 Hw Gd ?_;rw[Lw W8])
  refine Ab fun s ae e2 _ hsv=>?_
  rw[show ((i:Int)+1).toNat=i+1 by exact W9,<-List.map_drop]at hsv
  refine Aq hsv ?_
  have eW:=e.trans e2
  have hL2:=hL.ext eW
  obtain⟨as,z,a1,a2,a3,a4⟩:=(hN.ext eW).row hxr.1 hxr.2
  refine Cs (fun j r3=>[some (.ref a),some (.ref r),some (.int i),r3]) (fun j r3 ag=>(ag=ae)/\((l.drop (i+1)).find? (fun y=> !A x.toNat y.toNat)=((l.drop (i+1)).drop j).find? (fun y=> !A x.toNat y.toNat))) _ rfl ⟨rfl,rfl⟩ ?_ ?_ ?_
  ·rintro j r3 ag ⟨rfl,hj⟩;exact hsv
  ·rintro j v r3 ag K' hv ⟨rfl,hj⟩ hK'
   obtain⟨y,hy,rfl⟩:=LI.at_ (a:=r) hv
   have hyr:=hin y (List.mem_of_mem_drop (List.mem_of_getElem? hy))
   rw[Ck hy,List.find?_cons]at hj
   simp only[Z0,Z1,B6,B7,Hs]
   refine Bm (!A x.toNat y.toNat) (fun Q' h'=>?_) ?_
   ·simp only[Zf,Zl,Zq,Ai,Am,A9 hL2 (Int.natCast_nonneg i) (LI.sub (a:=r) hx),A9 a1 hxr.1 a3,Ja a4,Rg hyr.1 hyr.2]
    exact h'
   split
   ·rename_i hh
    simp only[Zf,Zq,Zt,Zu,Zv,Zy,Z0,Z1,Ai,Am,A9 hL2 (Int.natCast_nonneg i) (LI.sub (a:=r) hx)]
    rw[hh]at hj
    simp only at hj
    rw[hj]at hf
    have:=q _ eW
    rw[hf]at this
    exact this
   ·rename_i hh
    simp only[Z0]
    rw[Bool.not_eq_true]at hh
    rw[hh]at hj
    exact hK' _ _ ⟨rfl,hj⟩
  ·rintro r3 ag ⟨rfl,hj⟩
   rw[Bk,List.drop_of_length_le (Nat.le_refl _),List.find?_nil]at hj
   rw[hj]at hf
   exact hK _ _ _ ⟨eW,hf⟩
 ·rintro r2 r3 ab ⟨e,hf⟩
  rw[Int.toNat_natCast,Bk,List.drop_of_length_le (Nat.le_refl _)]at hf
  have:=q ab e
  rw[hf]at this
  exact this
theorem X9(hU:G.fn "_law_untied" = some Dk)(hG:G.fn "_law_free" = some G7){a m r:Nat}{A:Nat->Nat->Bool}{l:List Int}(hN:Ea H a m A)(hL:LI H r l)(hin:∀x∈l,0<=x/\x<m)(hl:l.length<=60)
 (q:∀H',Al H H'->Q (.int ((ltg A l).getD (-1))) H'):Ae G (n+2) "_law_free" [.ref a,.ref r] H Q E:=by
 refine Aj hG rfl ?_
 simp only[Ze,Zh,Zy,Z0,Z1,List.map,Eg,Eh,List.replicate,G7]
 refine M8 ?_
 simp only[Zf,Ai,Am]
 refine Aq hL ?_
 refine Cs (fun i r2=>[some (.ref a),some (.ref r),r2]) (fun i r2 ab=>(Al H ab)/\(l.find? (Fc A l)=(l.drop i).find? (Fc A l))) _ rfl ⟨Al.refl,rfl⟩ ?_ ?_ ?_
 ·rintro i r2 ab ⟨e,hf⟩;exact hL.ext e
 ·rintro i v r2 ab K hv ⟨e,hf⟩ hK
  refine Aa fun nY=>?_
  obtain⟨x,hx,rfl⟩:=LI.at_ (a:=r) hv
  have hxr:=hin x (List.mem_of_getElem? hx)
  rw[Ck hx,List.find?_cons]at hf
  have hL1:=hL.ext e
  obtain⟨as,z,a1,a2,a3,a4⟩:=(hN.ext e).row hxr.1 hxr.2
  refine nY ?_;clear nY
  simp only[Jq,Z1,Z0,List.set_cons_succ,List.set_cons_zero]
  refine Bv (T7 (M6 ?_))
  refine⟨by rw[hU];rfl,?_⟩
  refine H6 (Ni ?_)
  simp only[List.getElem?_cons_zero]
  refine H6 (hvK ?_)
  simp only[Zb,Zf,Zu,Zy,Z0,Z1,Z2,Eg,Eh,Ai,Am,List.replicate]
  refine Aq hL1 ?_
  refine⟨by simp[Bp];exact W3 hl,Eb (p:=fun o=>A x.toNat o.toNat) hL1 (fun y hy K' hK'=>?_) ?_⟩
  ·have hyr:=hin y hy
   simp only[Zf,Zl,Zq,Ch,Ai,Am,Jp,A9 a1 hxr.1 a3,Abn a4,Rg hyr.1 hyr.2]
   split
   ·rename_i h;rw[if_pos h]at hK';exact hK'
   ·rename_i h;rw[if_neg h]at hK';exact hK'
  refine Ab fun s ae e2 _ hL2=>?_
  (try dsimp only)
  refine Tm hU (hN.ext (e.trans e2)) (l:=Os A l x) hL2 (Af (List.length_filter_le _ _) (Af hl (by decide))) (fun y hy=>hin y (List.mem_filter.mp hy).1) fun ag e3=>?_
  have e13:=(e.trans e2).trans e3
  cases hfu:fu A (Os A l x)with
  | none=>
    (try dsimp only);(try simp only[Zbg,Ch])
    simp only[if_true]
    have:Fc A l x=true:=by unfold Fc;rw[hfu];rfl
    rw[this]at hf
    have hq:=q ag e13
    unfold ltg at hq
    rw[hf]at hq
    exact hq
  | some pr=>
    obtain⟨y,z⟩:=pr
    intro a' ha'
    (try dsimp only);(try simp only[Zbh,Ch])
    simp only[Bool.false_eq_true,if_false]
    have:Fc A l x=false:=by unfold Fc;rw[hfu];rfl
    rw[this]at hf
    exact hK _ _ ⟨e13.trans (Al.upd ha'),hf⟩
 ·rintro r2 ab ⟨e,hf⟩
  rw[Bk,List.drop_of_length_le (Nat.le_refl _),List.find?_nil]at hf
  have hq:=q ab e
  unfold ltg at hq
  rw[hf]at hq
  exact hq
theorem Tn{a:Nat}{xs:List V}(h:H a=some (.list xs)):Db (.isinst .list) [.ref a] H Q=Q (.bool true) H:=by
 have e:Jz .list (.ref a) H=some true:=by show (match H a with|some o=>I5 o .list|none=>none)=_;rw[h];rfl
 show (Fj .list=true/\(match Jz .list (.ref a) H with|some r=>Q (.bool r) H|none=>False))=_
 rw[e]
 exact propext ⟨fun h=>h.2,fun h=>⟨rfl,h⟩⟩
theorem Yb{a:Nat}{xs:List V}(h:H a=some (.tuple xs)):Db (.isinst .tuple) [.ref a] H Q=Q (.bool true) H:=by
 have e:Jz .tuple (.ref a) H=some true:=by show (match H a with|some o=>I5 o .tuple|none=>none)=_;rw[h];rfl
 show (Fj .tuple=true/\(match Jz .tuple (.ref a) H with|some r=>Q (.bool r) H|none=>False))=_
 rw[e]
 exact propext ⟨fun h=>h.2,fun h=>⟨rfl,h⟩⟩
theorem Ael{i:Int}:Db (.isinst .int) [.int i] H Q=Q (.bool true) H:=propext ⟨fun h=>h.2,fun h=>⟨rfl,h⟩⟩
theorem Yc{i:Int}:Db (.isinst .bool) [.int i] H Q=Q (.bool false) H:=propext ⟨fun h=>h.2,fun h=>⟨rfl,h⟩⟩
theorem Rj(hG:G.fn "_law_whole" = some D5){i:Int}(q:Q (.bool true) H):Ae G (n+1) "_law_whole" [.int i] H Q E:=by
 refine Aj hG rfl ?_
 simp only[Zf,Zg,Zi,Zo,Zu,Zv,Zy,Z0,Z1,Ch,List.map,Eg,Eh,Ai,D5,Ael,Yc]
 simpa using q
theorem Yd(hW:G.fn "_law_whole" = some D5)(hG:G.fn "_law_numbers" = some F6){a b:Nat}{l:List Int}(ha:LI H a l)(hb:LI H b l)(hl:l.length<=4000)(q:Q (.bool true) H):Ae G (n+2) "_law_numbers" [.ref a,.ref b] H Q E:=by
 refine Aj hG rfl ?_
 simp only[Zd,Zy,Z0,Z1,List.map,Eg,Eh,List.replicate,F6]
 refine Bm false (fun Q' h'=>?_) ?_
 ·simp only[Zf,Zg,Zj,Zl,Zo,Zu,Zv,Zbd,Ch,Ai,Am,Tn ha,Cm ha,Cm hb]
  simpa using h'
 rw[if_neg (by decide)]
 simp only[Z0]
 refine T8 ?_
 simp only[Zf,Zo,Zu,Zv,Ai,Am,Cm hb]
 refine Gw (Int.natCast_nonneg _) (by rw[Bk];exact(Int.ofNat_le.mpr (Af hl (by decide)))) ?_
 refine Bs (fun i r2=>[some (.ref a),some (.ref b),r2]) (fun i r2 ab=>ab=H) _ rfl rfl ?_ ?_
 ·rintro i r2 ab K hi rfl hK
  have hi':i<l.length:=by simpa using hi
  have hx:=List.getElem?_eq_getElem hi'
  generalize l[i]=x at hx
  simp only[Z0,Z1,B6,B7,Gj]
  refine Bm false (fun Q' h'=>?_) ?_
  ·simp only[Zf,Zg,Zj,Zl,Zn,Zq,Zu,Zv,Ch,Ai,Am,C9,true_and,hW,A9 ha (Int.natCast_nonneg i) (LI.sub (a:=a) hx)]
   refine Rj hW ?_
   (try dsimp only);(try simp only[Ch])
   simp only[Bool.not_true,Bool.false_eq_true,if_false]
   simp only[Zbd,A9 ha (Int.natCast_nonneg i) (LI.sub (a:=a) hx),A9 hb (Int.natCast_nonneg i) (LI.sub (a:=a) hx)]
   simpa using h'
  rw[if_neg (by decide)]
  simp only[Z0]
  exact hK _ _ rfl
 ·rintro r2 ab rfl
  exact q
set_option linter.all false
noncomputable def bh(A:Nat->Nat->Bool)(o:List Int)(p:Int):List Int:=Os A (o.drop (o.idxOf p+1)) p
noncomputable def Bj(m:Nat)(o:List Int):Prop:=Bu o=A0 m
theorem Bj.perm{m:Nat}{o:List Int}(h:Bj m o):o.Perm (A0 m):=by
 have:=Ca o
 rw[h]at this
 exact this.symm
theorem Bj.len{m:Nat}{o:List Int}(h:Bj m o):o.length=m:=by rw[h.perm.length_eq,Cg]
theorem Bj.mem{m:Nat}{o:List Int}(h:Bj m o){x:Int}:x∈o↔0<=x/\x<m:=by rw[h.perm.mem_iff,Cu]
theorem Bj.nodup{m:Nat}{o:List Int}(h:Bj m o):o.Nodup:=h.perm.nodup_iff.mpr Cz
theorem Ou{m:Nat}{o:List Int}(h1:o.Nodup)(h2:∀x,x∈o↔0<=x/\x<m):Bj m o:=
 Abm (Td h1) Qg fun x=>by rw[Gy,h2,Cu]
theorem Agq{o:List Int}{j:Nat}{p:Int}(h:o.Nodup)(hj:o[j]? = some p):o.idxOf p=j:=by
 have hm:=List.mem_of_getElem? hj
 have hlt:=List.idxOf_lt_length_of_mem hm
 refine Hk h (x:=p) ?_ hj
 rw[List.getElem?_eq_getElem hlt,List.getElem_idxOf]
theorem Aio{A:Nat->Nat->Bool}{o:List Int}{j:Nat}{p:Int}(h:o.Nodup)(hj:o[j]? = some p):bh A o p=Os A (o.drop (j+1)) p:=by
 unfold bh;rw[Agq h hj]
theorem Va{A:Nat->Nat->Bool}{o:List Int}{p x:Int}(h:x∈bh A o p):x∈o:=List.mem_of_mem_drop (List.mem_filter.mp h).1
theorem Vb{A:Nat->Nat->Bool}{o:List Int}{p:Int}:(bh A o p).length<=o.length-1:=by
 unfold bh Os
 refine Af (List.length_filter_le _ _) ?_
 rw[List.length_drop];exact Nat.sub_le_sub_left (Nat.le_add_left 1 _) _
noncomputable def Peo(A:Nat->Nat->Bool)(o:List Int):Prop:=∀p∈o,fu A (bh A o p)=none
noncomputable def gp(A:Nat->Nat->Bool)(o:List Int):Option (Int×Int×Int):=o.findSome? fun p=>(fu A (bh A o p)).map fun q=>(p,q.1,q.2)
theorem Aem{A:Nat->Nat->Bool}{o:List Int}:gp A o=none↔Peo A o:=by
 unfold gp Peo
 rw[List.findSome?_eq_none_iff]
 simp
variable {G:A2} {n:Nat} {H H':AH} {Q:Ag} {E:EP} {C:CS} {ρ:Ak}
theorem To{g:AH->Prop}{ys:List V}{t:Nat}{body:Ak->AH->(Ak->AH->Prop)->Prop}{N:Ak->AH->Prop}(I:Nat->Ak->AH->Prop)(h0:I 0 ρ H)(hg:∀i ρ H,I i ρ H->g H)
 (step:∀i x ρ H K,ys[i]? = some x->I i ρ H->(∀ρ'' H'',I (i+1) ρ'' H''->K ρ'' H'')->body (ρ.set t (some x)) H K) (fin:∀ρ H,I ys.length ρ H->N ρ H) :
 Cv g (.one t) body N (ys.map .v) ρ H:=by
 refine Ix (k:=0) I h0 (fun i x ρ H K hx hI hK=>⟨hg _ _ _ hI,?_⟩) fun ρ H hI=>⟨hg _ _ _ hI,fin ρ H (by simpa using hI)⟩
 rw[List.getElem?_map]at hx
 obtain⟨j,hj,rfl⟩:=Option.map_eq_some_iff.mp hx
 exact step i j ρ H K hj (by simpa using hI) fun ρ'' H'' h=>hK ρ'' H'' (by simpa using h)
theorem Aen{a:Nat}{l:List Int}{k:Int}(h:LI H a l)(hk:k∈l):E0 .index (.ref a) [.int k] H Q=Q (.int (l.idxOf k)) H:=by
 unfold LI at h
 delta E0;dsimp only;(first|delta Dx|delta F3|delta Dy|delta F4|delta Dz|delta C4|delta Bt);(try dsimp only[A1,Ar,Ry,M4,Rr]);rw[h];(try dsimp only[Gh,Tx]);rw[Op];(try dsimp only[Gh,Ff])
 exact propext ⟨fun h=>h.2,fun q=>⟨hk,q⟩⟩
structure Lz(G:A2):Prop where
 fns:Fns G
 isOrder:G.fn "is_order" = some Nu
 needOrder:G.fn "need_order" = some Ke
 behind:G.fn "those_behind" = some H9
 gap:G.fn "gap" = some Ae6
 needWhole:G.fn "need_whole" = some Kf
 crowdAt:G.fn "crowd_at" = some Nw
 isFull:G.fn "is_full" = some Pq
 fullCrowds:G.fn "full_crowds" = some Jm
 leastFree:G.fn "least_free" = some Ki
 coloured:G.fn "coloured" = some Nx
theorem Ov(F:Lz G){w m r:Nat}{A:Nat->Nat->Bool}{o:List Int}{p:Int}(hm:m<=60)(hW:C1 H w m A)(hL:LI H r o)(ho:Bj m o)(hp:p∈o)
 (q:∀a H',Al H H'->H a=none->LI H' a (bh A o p)->Q (.ref a) H'):Ae G (n+3) "those_behind" [.ref w,.ref r,.int p] H Q E:=by
 have B:=F.fns.base
 have hpr:=ho.mem.mp hp
 refine Aj F.behind rfl ?_
 simp (disch:=first|decide|omega) only[Zf,Zu,Zv,Zw,Zy,Z0,Z1,List.map,Eg,Eh,Ai,Am,List.replicate,B6,B7,true_and,H9,Bo,A8 hL,Aen hL hp]
 refine hvK ?_
 simp only[Zc,Ze,Zf,Zk,Zr,Z2,Z6,Eg,Eh,Ai,Am,List.replicate]
 (refine Ct hL Hw Gd ?_;rw[Lw W8])
 refine Ab fun s ab e1 _ v1=>?_
 rw[show ((o.idxOf p:Int)+1).toNat=o.idxOf p+1 by exact W9,<-List.map_drop]at v1
 refine Aq v1 ?_
 refine Aa fun nY=>?_
 obtain⟨d,rs,w1,w2,w3⟩:=hW.ext e1
 refine nY ?_;clear nY
 refine⟨by simp[Bp,ho.len];exact Ahm hm,?_⟩
 refine(Aby (c:=Di) B ⟨d,rs,w1,w2,w3⟩ (show LI ab s (o.drop (o.idxOf p+1))from v1) (fun x hx=>ho.mem.mp (List.mem_of_mem_drop hx)) hpr (by rw[List.length_drop,ho.len];exact(Af (Nat.sub_le _ _) (Af hm (by decide)))) (fun y K' h0 h1 hK'=>?_) (fun a ae e2 n2 hL2=>?_)).2
 ·simp only[Zf,Zu,Zv,Ai,Am,C9,true_and,Di,Ax,Co,Cp,D4,w1,w2,B.tied]
  exact Ly B ⟨d,rs,w1,w2,w3⟩ hpr.1 hpr.2 h0 h1 hK'
 ·exact q a ae (e1.trans e2) (e1.isNone n2) hL2
theorem Ye(F:Lz G){w m r:Nat}{A:Nat->Nat->Bool}{o:List Int}(hm:m<=60)(hW:C1 H w m A)(hL:LI H r o)(hl:o.length<64)
 (q:∀H',Al H H'->Q (.bool (decide (Bu o=A0 m))) H'):Ae G (n+1) "is_order" [.ref w,.ref r] H Q E:=by
 refine Aj F.isOrder rfl ?_
 simp only[Zf,Zl,Zo,Zp,Zu,Zv,Zy,Z0,Z1,List.map,Eg,Eh,Ai,Am,Nu,Rf hL hl]
 refine Ab fun s ab e1 _ v1=>?_
 refine Aa fun nY=>?_
 obtain⟨d,rs,w1,w2,w3⟩:=hW.ext e1
 refine nY ?_;clear nY
 (try dsimp only)
 simp (disch:=(first|lia|omega)) only[Ge w1 w2 (show Jc [(C2.many,V.int m),(C2.rows,V.ref rs)] .many=some (.int m)from rfl),Zbq]
 refine Ab fun s2 ae e2 _ v2=>?_
 rw[Int.toNat_natCast,Ot]at v2
 (try dsimp only)
 refine U9 (l:=Bu o) (l':=A0 m) (e2 _ _ v1) v2 ?_
 exact q ae (e1.trans e2)
theorem Mv(F:Lz G){w m r:Nat}{A:Nat->Nat->Bool}{o:List Int}(hm:m<=60)(hW:C1 H w m A)(hL:LI H r o)(ho:Bj m o)
 (q:∀H',Al H H'->Q .none H'):Ae G (n+2) "need_order" [.ref w,.ref r] H Q E:=by
 refine Aj F.needOrder rfl ?_
 simp only[Ke,List.map,List.cons_append,List.nil_append]
 refine Ad (Bv ?_)
 simp only[Zf,Zg,Zn,Zu,Zv,Z0,Z1,Ch,Ai,Am,C9,true_and,F.isOrder]
 refine Ye F hm hW hL (by rw[ho.len];exact(Nat.lt_of_le_of_lt hm (by decide))) fun ab e1=>?_
 rw[decide_eq_true (show Bu o=A0 m from ho)]
 (try dsimp only);(try simp only[Ch])
 simp only[Bool.not_true,Bool.false_eq_true,if_false]
 exact q ab e1
theorem Afb(F:Lz G){w m r:Nat}{A:Nat->Nat->Bool}{o:List Int}(hm:m<=60)(hW:C1 H w m A)(hL:LI H r o)(ho:Bj m o)
 (q:∀H',Al H H'->match gp A o with|none=>Q .none H'|some (p,x,y)=>∀a,H' a=none->Q (.ref a) (upd H' a (.tuple [.int p,.int x,.int y]))):Ae G (n+4) "gap" [.ref w,.ref r] H Q E:=by
 refine Aj F.gap rfl ?_
 simp only[Ae6,List.map,List.replicate,List.cons_append,List.nil_append]
 refine Hz ([some (.ref w),some (.ref r),none,none]) (fun ab=>Al H ab) (fun N hN=>?_) ?_
 ·simp only[Zf,Zn,Zu,Zv,Zx,Ai,Am,C9,true_and,F.needOrder]
  exact Mv F hm hW hL ho fun ab e1=>hN _ e1
 rintro az e0
 refine Ad (M8 ?_)
 simp only[Zb,Zf,Zy,Z0,Z1,Ai,Am]
 refine Aq (hL.ext e0) ?_
 refine F0 (fun i r2 r3=>[some (.ref w),some (.ref r),r2,r3]) (fun i r2 r3 ab=>Al H ab/\gp A o=(o.drop i).findSome? fun p=>(fu A (bh A o p)).map fun q=>(p,q.1,q.2)) _ _ rfl ⟨e0,by rw[List.drop_zero];rfl⟩ ?_ ?_ ?_
 ·rintro i r2 r3 ab ⟨e,hf⟩;exact hL.ext e
 ·rintro i v r2 r3 ab K hv ⟨e,hf⟩ hK
  obtain⟨x,hx,rfl⟩:=LI.at_ (a:=r) hv
  have hxo:=List.mem_of_getElem? hx
  rw[Ck hx,List.findSome?_cons]at hf
  simp only[R7,List.set_cons_succ,List.set_cons_zero]
  refine Df (fun v3=>[some (.ref w),some (.ref r),some (.int x),some v3]) (fun v3 ae=>Al H ae/\match fu A (bh A o x)with|none=>v3 = .none|some (y,z)=>∃t,v3 = .ref t/\ae t=some (.tuple [.int y,.int z])) (fun N hN=>?_) ?_
  ·simp only[Zf,Zn,Zu,Zv,Zw,Ai,Am,B6,B7,C9,true_and,F.fns.untied,F.behind]
   refine Ov F hm (hW.ext e) (hL.ext e) ho hxo fun s ae e2 _ hL2=>?_
   refine Gf F.fns.base F.fns.untied (hW.ext (e.trans e2)) hL2 (fun y hy=>ho.mem.mp (Va hy)) fun ag e3=>?_
   cases hfu:fu A (bh A o x)with
   | none=>
     refine hN _ _ ⟨(e.trans e2).trans e3,?_⟩
     rw[hfu]
   | some pr=>
     obtain⟨y,z⟩:=pr
     intro t ht
     refine hN _ _ ⟨((e.trans e2).trans e3).trans (Al.upd ht),?_⟩
     rw[hfu]
     exact⟨t,rfl,Ac⟩
  rintro v3 ae ⟨e2,h3⟩
  refine Ad (Bv ?_)
  cases hfu:fu A (bh A o x)with
  | none=>
    rw[hfu]at h3 hf
    simp only at h3
    subst h3
    simp only[Zb,Ze,Zf,Zl,Zq,Zt,Zu,Zv,Zy,Z0,Z1,Zbi,Ch,Ai,Am]
    simp only[Bool.false_eq_true,if_false]
    exact hK _ _ _ ⟨e2,hf⟩
  | some pr=>
    refine Aa fun nY=>?_
    obtain⟨y,z⟩:=pr
    rw[hfu]at h3 hf
    obtain⟨t,rfl,ht⟩:=h3
    refine nY ?_;clear nY
    simp only[Zb,Ze,Zf,Zl,Zq,Zt,Zu,Zv,Zy,Z0,Z1,Zbj,Ch,Ai,Am]
    simp only[if_true]
    simp only[Iw (x:= .int y) (k:=0) ht (by decide) rfl,Iw (x:= .int z) (k:=1) ht (by decide) rfl]
    have hq:=q ae e2
    simp only[Option.map_some]at hf
    rw[hf]at hq
    exact hq
 ·rintro r2 r3 ab ⟨e,hf⟩
  rw[Bk,List.drop_of_length_le (Nat.le_refl _),List.findSome?_nil]at hf
  have hq:=q ab e
  rw[hf]at hq
  exact hq
theorem Mw(F:Lz G){w m r:Nat}{A:Nat->Nat->Bool}{o:List Int}(hm:m<=60)(hW:C1 H w m A)(hL:LI H r o)(ho:Bj m o)(hp:Peo A o)
 (q:∀H',Al H H'->Q .none H'):Ae G (n+5) "need_whole" [.ref w,.ref r] H Q E:=by
 refine Aj F.needWhole rfl ?_
 simp only[Kf,List.map,List.cons_append,List.nil_append]
 refine Ad (Bv ?_)
 simp only[Zb,Zf,Zl,Zn,Zu,Zv,Z0,Z1,Ai,Am,C9,true_and,F.gap]
 refine Afb F hm hW hL ho fun ab e1=>?_
 rw[Aem.mpr hp]
 (try dsimp only);(try simp only[Zbi,Ch])
 simp only[Bool.false_eq_true,if_false]
 exact q ab e1
noncomputable def crowd(A:Nat->Nat->Bool)(o:List Int)(p:Int):List Int:=Bu (p::bh A o p)
theorem Yg(F:Lz G){w m r:Nat}{A:Nat->Nat->Bool}{o:List Int}{p:Int}(hm:m<=60)(hW:C1 H w m A)(hL:LI H r o)(ho:Bj m o)(hp:p∈o)
 (q:∀a H',Al H H'->H a=none->LI H' a (crowd A o p)->Q (.ref a) H'):Ae G (n+4) "crowd_at" [.ref w,.ref r,.int p] H Q E:=by
 refine Aj F.crowdAt rfl ?_
 have hbl:=Vb (A:=A) (o:=o) (p:=p)
 rw[ho.len]at hbl
 simp only[Zf,Zk,Zn,Zo,Zs,Zu,Zv,Zy,Z0,Z1,List.map,Eg,Eh,Ai,Am,Nw]
 refine Ab fun s ab e1 _ v1=>?_
 (try dsimp only)
 refine⟨by rw[F.behind];rfl,?_⟩
 refine Ov F hm (hW.ext e1) (hL.ext e1) ho hp fun s2 ae e2 _ v2=>?_
 (try dsimp only)
 refine Ex (e2 _ _ v1) v2 (by simp;exact(Af (Nat.add_le_add_left (Af hbl (Af (Nat.sub_le _ _) hm)) 1) (by decide))) ?_
 refine Ab fun s3 ag e3 _ v3=>?_
 (try dsimp only)
 have v3':LI ag s3 (p::bh A o p):=by unfold LI;rw[v3];rfl
 refine Abo v3' (by simp;exact(Nat.lt_of_le_of_lt (Nat.succ_le_succ (Af hbl (Af (Nat.sub_le _ _) hm))) (by decide))) ?_
 exact Ab fun a ah e4 n4 v4=>q a ah (((e1.trans e2).trans e3).trans e4) (((e1.trans e2).trans e3).isNone n4) v4
set_option linter.all false
variable {G:A2} {n:Nat} {H H':AH} {Q:Ag} {E:EP} {C:CS} {ρ:Ak} {w m r:Nat} {A:Nat->Nat->Bool} {o:List Int}
/-! what judged does,for its effect alone -/
theorem Yh{p x:Int}:x∈crowd A o p↔x=p\/x∈bh A o p:=by
 unfold crowd;rw[Gy,List.mem_cons]
theorem Yi{p:Int}(hp:p∈o):(crowd A o p).length<=o.length:=by
 unfold crowd;rw[La,List.length_cons]
 have:=Vb (A:=A) (o:=o) (p:=p)
 have:=List.length_pos_of_mem hp
 (first|lia|omega)
theorem Yj(F:Lz G){c:List Int}(hm:m<=60)(hW:C1 H w m A)(hL:LI H r c)(hl:c.length<=4000)(hin:∀x∈c,0<=x/\x<m)
 (q:∀b H',Al H H'->Q (.bool b) H'):Ae G (n+3) "is_full" [.ref w,.ref r] H Q E:=by
 have B:=F.fns.base
 refine Aj F.isFull rfl ?_
 refine Aa fun nY=>?_
 obtain⟨d,rs,w1,w2,w3⟩:=hW
 have hW:C1 H w m A:=⟨d,rs,w1,w2,w3⟩
 refine nY ?_;clear nY
 simp only[Zd,Zy,Z0,Z1,List.map,Eg,Eh,List.replicate,Pq]
 refine T8 ?_
 simp (disch:=first|decide|omega) only[Zf,Zp,Zu,Zv,Qd,Ai,Ge w1 w2 (show Jc [(C2.many,V.int m),(C2.rows,V.ref rs)] .many=some (.int m)from rfl)]
 refine Iy (fun i ρ ab=>∃r2,ρ = [some (.ref w),some (.ref r),r2]/\Al H ab) ⟨_,rfl,Al.refl⟩ ?_ ?_
 rotate_left
 ·rintro ρ ab hP25
  refine Aa fun nY=>?_
  obtain⟨r2,rfl,e⟩:=hP25
  refine nY ?_;clear nY
  exact q true ab e
 rintro i ρ ab K hi hP26 hK
 refine Aa fun nY=>?_
 obtain⟨r2,rfl,e⟩:=hP26
 have hi':i<m:=by simpa using hi
 have hL1:=hL.ext e
 obtain⟨d,rs,w1,w2,w3⟩:=hW.ext e
 refine nY ?_;clear nY
 simp only[Kh,Z1,Z0,List.set_cons_succ,List.set_cons_zero]
 refine Bv (Afk ?_)
 simp only[Zd,Zf,Zl,Zo,Zu,Zv,Zy,Z0,Z1,Ch,Ai,Am,Ja hL1]
 split
 rotate_left
 ·(try dsimp only)
  simp only[Bool.false_eq_true,if_false]
  exact hK _ _ ⟨_,rfl,e⟩
 refine gvK ?_
 simp only[Zf,Z2,Eg,Eh,Ai,Am,List.replicate]
 refine Aq hL1 ?_
 refine⟨by simp[Bp];exact(Af hl (by decide)),J9 (h:=fun o=>V.bool (A i o.toNat)) hL1 (fun x hx K' hK'=>?_) ?_⟩
 ·have hxr:=hin x hx
  simp only[Zf,Zu,Zv,Ai,Am,C9,true_and,Kg,Ax,Co,Cp,D4,w1,w2,B.tied]
  exact Ly B ⟨d,rs,w1,w2,w3⟩ T4 (W4 hi') hxr.1 hxr.2 (by rw[Int.toNat_natCast];exact hK')
 ·refine Ab fun s ae e2 _ v2=>?_
  (try dsimp only)
  refine Ago (l:=c.map fun o=>A i o.toNat) (by rw[v2,List.map_map];rfl) ?_
  (try dsimp only);(try simp only[Ch])
  split
  ·(try dsimp only)
   exact q false ae (e.trans e2)
  ·(try dsimp only)
   exact hK _ _ ⟨_,rfl,e.trans e2⟩
structure Qh(H H':AH)(a:Nat)(as:List Nat):Prop where
 ext:Al H H'
 new:H a=none
 at_:H' a=some (.list (as.map V.ref))
 lists:∀x∈as,x≠a/\∃l,LI H' x l
theorem Qh.mono{ab:AH}{a:Nat}{as:List Nat}(b:Qh H H' a as)(e:Al H' ab):Qh H ab a as:=⟨b.ext.trans e,b.new,e _ _ b.at_,fun x hx=>(let ⟨h,l,hl⟩:=b.lists x hx;⟨h,l,hl.ext e⟩)⟩
theorem Pi(F:Lz G)(hm:m<=60)(hW:C1 H w m A)(hL:LI H r o)(ho:Bj m o)(hp:Peo A o)
 (q:∀a as H',Qh H H' a as->Q (.ref a) H'):Ae G (n+6) "full_crowds" [.ref w,.ref r] H Q E:=by
 refine Aj F.fullCrowds rfl ?_
 simp only[Jm,List.map,List.replicate,List.cons_append,List.nil_append]
 refine Hz ([some (.ref w),some (.ref r),none,none,none]) (fun ab=>Al H ab) (fun N hN=>?_) ?_
 ·simp only[Zf,Zn,Zu,Zv,Zx,Ai,Am,C9,true_and,F.needWhole]
  exact Mw F hm hW hL ho hp fun ab e1=>hN _ e1
 rintro az e0
 refine Df (fun a=>[some (.ref w),some (.ref r),some (.ref a),none,none]) (fun a ab=>Qh H ab a []) (fun N hN=>?_) ?_
 ·simp only[Zs,Zu,Zw,B6,B7]
  exact Ab fun a ab e1 n1 v1=>hN a _ ⟨e0.trans e1,e0.isNone n1,v1,nofun⟩
 rintro a ab b
 refine Ad (M8 ?_)
 simp only[Zf,Zy,Z0,Z1,Ai,Am]
 refine Aq (hL.ext b.ext) ?_
 refine I9 (fun i ρ ab=>(Ex3 fun r3 r4 as=>Fe (ρ = [some (.ref w),some (.ref r),some (.ref a),r3,r4]) (Qh H ab a as) (as.length<=i))) ⟨_,_,[],rfl,b,Nat.le_refl _⟩ ?_ ?_ ?_
 ·rintro i ρ ab ⟨r3,r4,as,rfl,b,_⟩;exact hL.ext b.ext
 rotate_left
 ·rintro ρ ab hP27
  refine Aa fun nY=>?_
  obtain⟨r3,r4,as,rfl,b,_⟩:=hP27
  refine nY ?_;clear nY
  try simp only[Ai,Am]
  exact q a as ab b
 rintro i v ρ ab K hv hP28 hK
 refine Aa fun nY=>?_
 obtain⟨r3,r4,as,rfl,b,hal⟩:=hP28
 obtain⟨x,hx,rfl⟩:=LI.at_ (a:=r) hv
 have hxo:=List.mem_of_getElem? hx
 have hi:=(Da hx).1
 rw[ho.len]at hi
 refine nY ?_;clear nY
 simp only[Gn,List.set_cons_succ,List.set_cons_zero]
 refine Df (fun c=>[some (.ref w),some (.ref r),some (.ref a),some (.int x),some (.ref c)]) (fun c ae=>Fe (Al ab ae) (ab c=none) (LI ae c (crowd A o x))) (fun N hN=>?_) ?_
 ·simp only[Zf,Zn,Zu,Zv,Zw,Ai,Am,B6,B7,C9,true_and,F.crowdAt]
  exact Yg F hm (hW.ext b.ext) (hL.ext b.ext) ho hxo fun c ae e2 n2 v2=>hN c _ ⟨e2,n2,v2⟩
 rintro c ae hP29
 refine Aa fun nY=>?_
 obtain⟨e2,n2,v2⟩:=hP29
 refine nY ?_;clear nY
 refine Ad (Bv ?_)
 simp only[Zf,Zn,Zu,Zv,Zx,Z0,Z1,Ai,Am,C9,true_and,F.isFull]
 refine Yj F hm (hW.ext (b.ext.trans e2)) v2 (by have:=Yi (A:=A) hxo;rw[ho.len]at this;exact(Af (Af this hm) (by decide))) (fun y hy=>?_) fun t ag e3=>?_
 ·refine Aa fun nY=>?_
  rcases Yh.mp hy with rfl|h
  ·refine nY ?_;clear nY
   exact ho.mem.mp hxo
  ·refine nY ?_;clear nY
   exact ho.mem.mp (Va h)
 have b3:=b.mono (e2.trans e3)
 (try dsimp only);(try simp only[Ch])
 refine Aa fun nY=>?_
 cases t with
 | false=>
   refine nY ?_;clear nY
   simp only[Bool.false_eq_true,if_false]
   (try dsimp only)
   exact hK _ _ ⟨_,_,as,rfl,b3,(Nat.le_succ_of_le hal)⟩
 | true=>
   have ha1:=b3.at_
   have hca:c≠a:=fun z=>by rw[z,b.at_]at n2;cases n2
   refine nY ?_;clear nY
   simp only[if_true]
   simp (disch:=first|decide|omega) only[Zf,Zu,Zv,Ai,Am,true_and,Bo,A8 ha1,Bq ha1 (show (as.map V.ref).length<1048576 by rw[Bk];exact(Nat.lt_of_le_of_lt hal (Nat.lt_of_lt_of_le hi (Af hm (by decide)))))]
   refine hK _ _ ⟨_,_,as ++ [c],rfl,⟨b3.ext.upd' b.new,b.new,by rw[Ac];simp,fun y hy=>?_⟩,by simp;exact hal⟩
   refine Aa fun nY=>?_
   rcases List.mem_append.mp hy with hy|hy
   ·obtain⟨h,l,hl⟩:=b3.lists y hy
    refine nY ?_;clear nY
    exact⟨h,l,hl.upd_ne h⟩
   ·refine nY ?_;clear nY
    rw[List.mem_singleton.mp hy]
    exact⟨hca,_,(v2.ext e3).upd_ne hca⟩
theorem Pj:∀ {l l':List Int},l.Nodup->(∀x∈l,x∈l')->l.length<=l'.length:=by
 intro l
 induction l with
 | nil=>exact fun _ _=>Nat.zero_le _
 | cons x r ih=>
   intro l' h hs
   have hx:=hs x List.mem_cons_self
   have hn:=List.nodup_cons.mp h
   have:=ih (l':=l'.erase x) hn.2 fun y hy=>(List.mem_erase_of_ne (fun(z:y=x)=>hn.1 (z▸hy))).mpr (hs y (List.mem_cons_of_mem _ hy))
   rw[List.length_erase_of_mem hx]at this
   exact Af (Nat.succ_le_succ this) (Nat.le_of_eq (Nat.sub_add_cancel (List.length_pos_of_mem hx)))
theorem Aeo{c:Int}{l:List Int}(h:∀j,0<=j->j<c->j∈l):c<=l.length:=by
 have h2:(A0 c.toNat).length<=l.length:=Pj Cz fun x hx=>by
  have:=Cu.mp hx
  exact h x this.1 (Ajv this.1 this.2)
 rw[Cg]at h2
 exact Int.toNat_le.mp h2
theorem Rk(F:Lz G){u:Nat}{l:List Int}(hL:LI H u l)(q:∀c,Q (.int c) H):Ae G (n+1) "least_free" [.ref u] H Q E:=by
 refine Aj F.leastFree rfl ?_
 simp only[Ki,List.map,List.replicate,List.cons_append,List.nil_append]
 refine Hz ([some (.ref u),some (.int 0)]) (fun ab=>H=ab) (fun N hN=>?_) ?_
 ·simp only[Ze,Zw,B6,B7];exact hN _ rfl
 rintro _ rfl
 refine Ad (Kc ?_)
 refine⟨fun k ρ ab=>(O2 fun(c:Int)=>An6 (k=(l.length+1-c).toNat) (c<=l.length) (ρ = [some (.ref u),some (.int c)]) (ab=H) (0<=c) (∀j,0<=j->j<c->j∈l)),⟨_,0,rfl,T4,rfl,rfl,((by decide)),by intros;(first|lia|omega)⟩,?_⟩
 rintro k ρ ab hP30
 refine Aa fun nY=>?_
 obtain⟨c,rfl,hcl,rfl,rfl,h0,hall⟩:=hP30
 refine nY ?_;clear nY
 simp only[Zf,Zl,Zy,Z0,Z1,Ch,Ai,Am,Abn hL]
 refine Aa fun nY=>?_
 by_cases hc:c∈l
 ·refine nY ?_;clear nY
  rw[decide_eq_true hc]
  simp only[if_true]
  simp only[Ze,Zf,Zk,Zw,Z0,Z1,Z6,Ai,Am,B6,B7,Ho]
  have hall':∀j,0<=j->j<c+1->j∈l:=fun j h1 h2=>by
   refine Aa fun nY=>?_
   by_cases hj:j=c
   ·refine nY ?_;clear nY
    subst hj;exact hc
   ·refine nY ?_;clear nY
    exact hall j h1 (Int.lt_iff_le_and_ne.mpr ⟨Int.le_of_lt_add_one h2,hj⟩)
  have hle:c+1<=l.length:=Aeo hall'
  exact⟨(l.length+1-(c+1)).toNat,(Ajw hle),c+1,rfl,hle,rfl,by first|rfl|trivial,(Int.add_nonneg h0 (by decide)),hall'⟩
 ·refine nY ?_;clear nY
  rw[decide_eq_false hc]
  simp only[Bool.false_eq_true,if_false]
  exact q c
theorem Tp(F:Lz G)(hm:m<=60)(hW:C1 H w m A)(hL:LI H r o)(ho:Bj m o)(hp:Peo A o)
 (q:∀a H',Al H H'->Q (.ref a) H'):Ae G (n+6) "coloured" [.ref w,.ref r] H Q E:=by
 refine Aj F.coloured rfl ?_
 simp only[Nx,List.map,List.replicate,List.cons_append,List.nil_append]
 refine Hz ([some (.ref w),some (.ref r),none,none]) (fun ab=>Al H ab) (fun N hN=>?_) ?_
 ·simp only[Zf,Zn,Zu,Zv,Zx,Ai,Am,C9,true_and,F.needWhole]
  exact Mw F hm hW hL ho hp fun ab e1=>hN _ e1
 rintro az e0
 refine Df (fun a=>[some (.ref w),some (.ref r),none,some (.ref a)]) (fun a ab=>Fe (Al H ab) (H a=none) (LI ab a (o.map fun _=>0))) (fun N hN=>?_) ?_
 ·refine Cd (gvK ?_)
  simp only[Ze,Zf,Z2,Eg,Eh,Ai,Am,List.replicate,B6,B7]
  refine Aq (hL.ext e0) ?_
  refine⟨by simp[Bp,ho.len];exact W3 hm,J9 (h:=fun _=>V.int 0) (hL.ext e0) (fun x hx K' hK'=>?_) ?_⟩
  ·skip
   exact hK'
  ·refine Ab fun a ab e1 n1 v1=>hN a _ ⟨e0.trans e1,e0.isNone n1,?_⟩
   unfold LI;rw[v1,List.map_map];rfl
 rintro a ab hP31
 refine Aa fun nY=>?_
 obtain⟨e1,n1,v1⟩:=hP31
 refine nY ?_;clear nY
 refine Ad (Nl (Afm ?_))
 simp only[Zf,Zy,Z0,Z1,Ai,Am]
 refine Ad9 (hL.ext e1) ?_
 refine To (fun i ρ ae=>(Jy fun r2 cols=>O4 (ρ = [some (.ref w),some (.ref r),r2,some (.ref a)]) (Al H ae) (LI ae a cols) (cols.length=m))) ⟨_,_,rfl,e1,v1,by rw[Bk,ho.len]⟩ ?_ ?_ ?_
 ·rintro i ρ ae ⟨r2,cols,rfl,e,hc,hl⟩;exact hL.ext e
 rotate_left
 ·rintro ρ ae hP32
  refine Aa fun nY=>?_
  obtain⟨r2,cols,rfl,e,hc,hl⟩:=hP32
  refine nY ?_;clear nY
  try simp only[Ai,Am]
  exact q a ae e
 rintro i v ρ ae K hv hP33 hK
 refine Aa fun nY=>?_
 obtain⟨r2,cols,rfl,e,hc,hl⟩:=hP33
 rw[<-List.map_reverse]at hv
 obtain⟨p,hp',rfl⟩:=LI.at_ (a:=r) hv
 have hpo:=List.mem_reverse.mp (List.mem_of_getElem? hp')
 have hpr:=ho.mem.mp hpo
 refine nY ?_;clear nY
 simp only[Jo,Z1,Z0,List.set_cons_succ,List.set_cons_zero]
 refine Ds (M6 ?_)
 refine⟨by rw[F.leastFree];rfl,?_⟩
 refine H6 (gvK ?_)
 simp only[Zf,Zn,Zu,Zv,Z2,Eg,Eh,Ai,Am,List.replicate,C9,true_and,F.behind]
 refine Ov F hm (hW.ext e) (hL.ext e) ho hpo fun s ag e3 _ v3=>?_
 refine Aq v3 ?_
 have hbl:=Vb (A:=A) (o:=o) (p:=p)
 rw[ho.len]at hbl
 refine⟨by simp[Bp];exact(Af hbl (Af (Nat.sub_le _ _) (Af hm (by decide)))),J9 (h:=fun x=>V.int (cols.getD x.toNat 0)) v3 (fun x hx K' hK'=>?_) ?_⟩
 ·have hxr:=ho.mem.mp (Va hx)
  have hxl:x.toNat<cols.length:=(Q62 hl hxr.1 hxr.2)
  have hsub:(cols.map V.int)[x.toNat]? = some (.int (cols.getD x.toNat 0)):=by
   rw[List.getElem?_map,List.getElem?_eq_getElem hxl,List.getD_eq_getElem?_getD,List.getElem?_eq_getElem hxl];rfl
  simp only[Zf,Zq,Ai,Am,Jn,A9 (hc.ext e3) hxr.1 hsub]
  exact hK'
 refine Ab fun u ah e4 _ v4=>?_
 have v4':LI ah u ((bh A o p).map fun x=>cols.getD x.toNat 0):=by unfold LI;rw[v4,List.map_map];rfl
 (try dsimp only)
 refine Rk F v4' fun c=>?_
 (try dsimp only)
 have hc4:=(hc.ext e3).ext e4
 refine Abv hc4 hpr.1 (by rw[hl];exact hpr.2) ?_
 exact hK _ _ ⟨_,cols.set p.toNat c,rfl,((e.trans e3).trans e4).upd' n1,Ac,by rw[List.length_set];exact hl⟩
set_option linter.all false
theorem Fd{es:List (Int×V)}{k:Int}:(dget es k).isSome=decide (k∈es.map (·.1)):=by
 unfold dget
 induction es with
 | nil=>rfl
 | cons e r ih=>
   obtain⟨k',v'⟩:=e
   rw[List.lookup_cons]
   refine Aa fun nY=>?_
   by_cases h:k=k'
   ·refine nY ?_;clear nY
    subst h;simp
   ·refine nY ?_;clear nY
    rw[show (k==k')=false from decide_eq_false h]
    rw[ih]
    simp[h]
theorem Abz{es:List (Int×V)}{k:Int}{v:V}(h:k∉es.map (·.1)):Cc es k v=es ++ [(k,v)]:=by
 induction es with
 | nil=>rfl
 | cons e r ih=>
   obtain⟨k',v'⟩:=e
   unfold Cc
   have h1:k≠k':=fun z=>h (List.mem_cons.mpr (Or.inl z))
   rw[if_neg h1,ih (fun z=>h (by simp only[List.map_cons];exact List.mem_cons_of_mem _ z))];rfl
theorem Ab0{es fs:List (Int×V)}{k:Int}(h:k∈es.map (·.1)):dget (es++fs) k=dget es k:=by
 unfold dget
 induction es with
 | nil=>simp at h
 | cons e r ih=>
   obtain⟨k',v'⟩:=e
   rw[List.cons_append,List.lookup_cons,List.lookup_cons]
   refine Aa fun nY=>?_
   by_cases h1:k=k'
   ·refine nY ?_;clear nY
    subst h1;simp
   ·refine nY ?_;clear nY
    rw[show (k==k')=false from decide_eq_false h1]
    exact ih (by simpa[h1]using h)
theorem Ab1{es:List (Int×V)}{k:Int}{v:V}(h:k∉es.map (·.1)):dget (es ++ [(k,v)]) k=some v:=by
 unfold dget
 induction es with
 | nil=>simp
 | cons e r ih=>
   obtain⟨k',v'⟩:=e
   rw[List.cons_append,List.lookup_cons]
   have h1:k≠k':=fun z=>h (List.mem_cons.mpr (Or.inl z))
   rw[show (k==k')=false from decide_eq_false h1]
   exact ih (fun z=>h (by simp only[List.map_cons];exact List.mem_cons_of_mem _ z))
inductive M3(m:Nat)(A:Nat->Nat->Bool)(shut:List Int):Int->Int->Prop where
 | refl (x:Int):M3 m A shut x x
 | step {x y z:Int}:M3 m A shut x y->A y.toNat z.toNat=true->z∉shut->0<=z->z<m->M3 m A shut x z
structure I3(m:Nat)(A:Nat->Nat->Bool)(shut:List Int)(start:Int)(es:List (Int×V)):Prop where
 nodup:(es.map (·.1)).Nodup
 head:(es.map (·.1))[0]? = some start
 in_:∀x∈es.map (·.1),0<=x/\x<(m:Int)
 rch:∀x∈es.map (·.1),M3 m A shut start x
 par:∀(i:Nat) (x:Int),0<i->(es.map (·.1))[i]? = some x->(Jy fun(j:Nat) (y:Int)=>Fe (j<i) ((es.map (·.1))[j]? = some y) (dget es x=some (.int y)))
structure Nf(m:Nat)(A:Nat->Nat->Bool)(shut:List Int)(start:Int)(es:List (Int×V)):Prop extends I3 m A shut start es where
 closed:∀x∈es.map (·.1),∀z,0<=z->z<(m:Int)->A x.toNat z.toNat=true->z∉shut->z∈es.map (·.1)
theorem Nf.iff{m:Nat}{A:Nat->Nat->Bool}{shut:List Int}{start:Int}{es:List (Int×V)}(h:Nf m A shut start es){x:Int}:x∈es.map (·.1)↔M3 m A shut start x:=by
 refine⟨h.rch x,fun r=>?_⟩
 induction r with
 | refl=>exact List.mem_of_getElem? h.head
 | step _ a s z0 z1 ih=>exact h.closed _ ih _ z0 z1 a s
theorem I3.snoc{m:Nat}{A:Nat->Nat->Bool}{shut:List Int}{start:Int}{es:List (Int×V)}(h:I3 m A shut start es){j:Nat}{y z:Int}(hy:(es.map (·.1))[j]? = some y)(ha:A y.toNat z.toNat=true)(hz:z∉shut)(hz':z∉es.map (·.1))(h0:0<=z)(h1:z<m) :
 I3 m A shut start (es ++ [(z,.int y)]):=by
 have hlen:0<(es.map (·.1)).length:=(Da h.head).1
 have hm:(es ++ [(z,V.int y)]).map (·.1)=es.map (·.1) ++ [z]:=List.map_append
 refine⟨?_,?_,?_,?_,?_⟩
 ·rw[hm,List.nodup_append]
  exact⟨h.nodup,List.pairwise_singleton _ _,fun a ha b hb e=>hz' (by simp at hb;rw[<-hb,<-e];exact ha)⟩
 ·rw[hm,List.getElem?_append_left hlen];exact h.head
 ·intro x hx
  rw[hm]at hx
  refine Aa fun nY=>?_
  rcases List.mem_append.mp hx with hx|hx
  ·refine nY ?_;clear nY
   exact h.in_ x hx
  ·refine nY ?_;clear nY
   simp at hx;subst hx;exact⟨h0,h1⟩
 ·intro x hx
  rw[hm]at hx
  refine Aa fun nY=>?_
  rcases List.mem_append.mp hx with hx|hx
  ·refine nY ?_;clear nY
   exact h.rch x hx
  ·simp at hx;subst hx
   refine nY ?_;clear nY
   exact .step (h.rch y (List.mem_of_getElem? hy)) ha hz h0 h1
 ·intro i x hi hx
  rw[hm]at hx ⊢
  refine Aa fun nY=>?_
  cases Nat.lt_or_ge i (es.map (·.1)).length with
  | inl q=>
    rw[List.getElem?_append_left q]at hx
    obtain⟨j',y',h1,h2,h3⟩:=h.par i x hi hx
    refine nY ?_;clear nY
    exact⟨j',y',h1,by rw[List.getElem?_append_left (Nat.lt_trans h1 q)];exact h2,by rw[Ab0 (List.mem_of_getElem? hx)];exact h3⟩
  | inr q=>
    rw[List.getElem?_append_right q]at hx
    have hj:=(Da hy).1
    have:i-(es.map (·.1)).length=0:=by
     obtain⟨z,_⟩:=Da hx
     simp at z;simp;exact z
    rw[this]at hx
    simp at hx
    subst hx
    refine nY ?_;clear nY
    exact⟨j,y,by exact(Nat.lt_of_lt_of_le hj q),by rw[List.getElem?_append_left hj];exact hy,Ab1 hz'⟩
variable {G:A2} {n:Nat} {H H':AH} {Q:Ag} {E:EP} {C:CS} {ρ:Ak}
theorem Aep{k v:X}:Aw G C (.dict [k] [v]) ρ H Q E=Aw G C k ρ H (fun a H=>Aw G C v ρ H (fun b H=>match a with | .int i=>Au (.dict [(i,b)]) H Q|_=>False) E) E:=by
 rw[Bb]
 exact congrArg (fun F=>Aw G C k ρ H F E) (funext fun a=>funext fun H=>congrArg (fun F=>Aw G C v ρ H F E) (funext fun b=>funext fun H=>by cases a<;>rfl))
theorem Ab2{k v:X}(kk:Aw G C k ρ H (fun a H=>Aw G C v ρ H (fun b H=>match a with | .int i=>Au (.dict [(i,b)]) H Q|_=>False) E) E):Aw G C (.dict [k] [v]) ρ H Q E:=Eq.mpr (Aep) kk
theorem Afc{k:Int}{a:Nat}{es:List (Int×V)}(h:H a=some (.dict es)):Bd .In (.int k) (.ref a) H Q=Q (.bool (decide (k∈es.map (·.1)))) H:=by
 delta Bd;(try dsimp only);(try delta Nh);(try dsimp only[A1]);rw[h];(try dsimp only[Ar]);rw[Fd];(try dsimp only[Ff])
theorem Li{k:Int}{a:Nat}{es:List (Int×V)}(h:H a=some (.dict es)):Bd .NotIn (.int k) (.ref a) H Q=Q (.bool (!decide (k∈es.map (·.1)))) H:=by
 delta Bd;(try dsimp only);(try delta Nh);(try dsimp only[A1]);rw[h];(try dsimp only[Ar]);rw[Fd];(try dsimp only[Ff])
theorem Vc{a:Nat}{es:List (Int×V)}{k:Int}{v:V}(h:H a=some (.dict es))(hv:dget es k=some v):C3 (.ref a) (.int k) H Q=Q v H:=by
 delta C3;(try dsimp only[Ar]);rw[h];(try dsimp only);rw[hv];(try dsimp only[Ff])
theorem Yk{a:Nat}{xs:List V}(h:H a=some (.list xs)):E0 .reverse (.ref a) [] H Q=Q .none (upd H a (.list xs.reverse)):=by
 delta E0;dsimp only;(first|delta Dx|delta F3|delta Dy|delta F4|delta Dz|delta C4|delta Bt);(try dsimp only[A1,Ar,Ry,M4,Rr]);rw[h];(try dsimp only[Gh,Tx])
structure Yl(G:A2):Prop where
 fns2:Lz G
 steps:G.fn "steps_from" = some Eo
 way:G.fn "way" = some Y2
 pieces:G.fn "pieces" = some R9
 ringAt:G.fn "ring_at" = some Pr
 longRing:G.fn "long_ring" = some Ma
 init:G.fn "Verdict.__init__" = some Du
 judged:G.fn "judged" = some Sa
theorem Ws(F:Fns G)(hG:G.fn "steps_from" = some Eo){w m s:Nat}{A:Nat->Nat->Bool}{shut:List Int}{start:Int}(hm:m<=60)(hW:C1 H w m A)(hS:LI H s shut)(h0:0<=start)(h1:start<m)
 (q:∀c es H',Al H H'->H c=none->H' c=some (.dict es)->Nf m A shut start es->Q (.ref c) H'):Ae G (n+3) "steps_from" [.ref w,.int start,.ref s] H Q E:=by
 refine Aj hG rfl ?_
 simp only[Eo,List.map,List.replicate,List.cons_append,List.nil_append]
 refine Df (fun c=>[some (.ref w),some (.int start),some (.ref s),some (.ref c),none,none,none,none]) (fun c ab=>Fe (Al H ab) (H c=none) (ab c=some (.dict [(start,.int start)]))) (fun N hN=>?_) ?_
 ·refine Cd (Ab2 ?_)
  simp only[Zf,Ai,Am,B6,B7]
  exact Ab fun c ab e1 n1 v1=>hN c _ ⟨e1,n1,v1⟩
 rintro c ab hP34
 refine Aa fun nY=>?_
 obtain⟨e1,n1,v1⟩:=hP34
 refine nY ?_;clear nY
 refine Df (fun wt=>[some (.ref w),some (.int start),some (.ref s),some (.ref c),some (.ref wt),none,none,none]) (fun wt ae=>Fe (Al ab ae) (ab wt=none) (LI ae wt [start])) (fun N hN=>?_) ?_
 ·simp only[Zf,Zs,Zu,Zv,Zw,Ai,Am,B6,B7]
  exact Ab fun c ab e1 n1 v1=>hN c _ ⟨e1,n1,v1⟩
 rintro wt ae hP35
 refine Aa fun nY=>?_
 obtain⟨e2,n2,v2⟩:=hP35
 have hcw:c≠wt:=fun z=>by rw[<-z,v1]at n2;cases n2
 have nwt:H wt=none:=e1.isNone n2
 refine nY ?_;clear nY
 refine Hz ([some (.ref w),some (.int start),some (.ref s),some (.ref c),some (.ref wt),some (.int 0),none,none]) (fun ag=>ae=ag) (fun N hN=>?_) ?_
 ·simp only[Ze,Zw,B6,B7];exact hN _ rfl
 rintro _ rfl
 have w0:I3 m A shut start [(start,.int start)]:=⟨by simp,rfl,by simp;exact(⟨h0,h1⟩),by simp;exact .refl _,fun i x hi hx=>by
  obtain⟨z,_⟩:=Da hx
  simp at z;exact(Nat.lt_irrefl 0 (Nat.lt_of_lt_of_eq hi z)).elim⟩
 have wlen:∀es,I3 m A shut start es->es.length<=m:=fun es h=>by
  have:=Ei h.nodup h.in_
  rwa[Bk]at this
 refine Ad (Kc ?_)
 refine⟨fun κ ρ ag=>(Ex4 fun(es:List (Int×V)) (k:Nat) (r6 r7:Option V)=>An8 (κ=m-k) (k<=es.length) (ρ = [some (.ref w),some (.int start),some (.ref s),some (.ref c),some (.ref wt),some (.int k),r6,r7]) (Al H ag) (ag c=some (.dict es)) (LI ag wt (es.map (fun e:Int×V=>e.1))) (I3 m A shut start es) (∀(i:Nat) (x:Int),i<k->(es.map (fun e:Int×V=>e.1))[i]? = some x->∀z,0<=z->z<(m:Int)->A x.toNat z.toNat=true->z∉shut->z∈es.map (fun e:Int×V=>e.1))),
  ⟨_,_,0,_,_,rfl,(Nat.zero_le _),rfl,e1.trans e2,e2 _ _ v1,v2,w0,by(first|lia|omega)⟩,?_⟩
 rintro κ ρ ag hP36
 refine Aa fun nY=>?_
 obtain⟨es,k,r6,r7,rfl,hk,rfl,e3,hc3,hw3,W,hcl⟩:=hP36
 refine nY ?_;clear nY
 simp only[Zf,Zl,Zo,Zu,Zv,Zy,Z0,Z1,Z8,Ch,Ai,Am,Cm hw3]
 rw[Bk,Bk]
 have hel:=wlen es W
 refine Aa fun nY=>?_
 by_cases hlt:k<es.length
 ·refine nY ?_;clear nY
  rw[decide_eq_true (show (k:Int)<es.length by exact W4 hlt)]
  simp only[if_true]
  have hxl:k<(es.map (·.1)).length:=by rw[Bk];exact hlt
  have hx:=List.getElem?_eq_getElem hxl
  generalize (es.map (·.1))[k]=x at hx
  have hxr:=W.in_ x (List.mem_of_getElem? hx)
  simp only[Hq]
  refine Hz ([some (.ref w),some (.int start),some (.ref s),some (.ref c),some (.ref wt),some (.int k),some (.int x),r7]) (fun ah=>ag=ah) (fun N hN=>?_) ?_
  ·simp only[Zf,Zq,Zw,Ai,Am,B6,B7,A9 hw3 (Int.natCast_nonneg k) (LI.sub (a:=wt) hx)]
   exact hN _ rfl
  rintro _ rfl
  refine Hz ([some (.ref w),some (.int start),some (.ref s),some (.ref c),some (.ref wt),some (.int ((k+1:Nat):Int)),some (.int x),r7]) (fun ah=>ag=ah) (fun N hN=>?_) ?_
  ·simp only[Ze,Zf,Zk,Zw,Z6,Ai,Am,B6,B7]
   exact hN _ rfl
  rintro _ rfl
  refine Ad (M8 ?_)
  refine Aa fun nY=>?_
  obtain⟨d,rs,w1,w2,w3⟩:=hW.ext e3
  refine nY ?_;clear nY
  simp only[Zf,Zu,Zv,Z0,Ai,Am,C9,true_and,Ax,Co,Cp,D4,w1,w2,F.beside]
  refine I2 F.base F.beside ⟨d,rs,w1,w2,w3⟩ hxr.1 hxr.2 fun b ah e4 nb hb=>?_
  refine Aa fun nY=>?_
  have hbc:b≠c:=fun z=>by rw[z,hc3]at nb;cases nb
  have hbw:b≠wt:=fun z=>by unfold LI at hw3;rw[z,hw3]at nb;cases nb
  refine nY ?_;clear nY
  refine Aq hb ?_
  refine D9 (fun j (es':List (Int×V)) (fs:List (Int×V)) (r7:Option V)=>[some (.ref w),some (.int start),some (.ref s),some (.ref c),some (.ref wt),some (.int ((k+1:Nat):Int)),some (.int x),r7]) (fun j (es':List (Int×V)) (fs:List (Int×V)) (r7:Option V) ak=>An7 (es'=es++fs) (Al H ak) (LI ak b (Ao m A x.toNat)) (ak c=some (.dict es')) (LI ak wt (es'.map (·.1))) (I3 m A shut start es') (∀z∈(Ao m A x.toNat).take j,z∉shut->z∈es'.map (·.1))) es [] _ rfl ⟨by simp,e3.trans e4,hb,e4 _ _ hc3,hw3.ext e4,W,by simp⟩ ?_ ?_ ?_
  ·rintro j es' fs r7 ak ⟨_,_,hb5,_⟩;exact hb5
  ·rintro j v es' fs r7 ak K hv hP37 hK
   refine Aa fun nY=>?_
   obtain⟨hes,e5,hb5,hc5,hw5,W5,hz5⟩:=hP37
   obtain⟨z,hz,rfl⟩:=LI.at_ (a:=b) hv
   have hzm:=A7.mp (List.mem_of_getElem? hz)
   have hS5:=hS.ext e5
   refine nY ?_;clear nY
   have hx5:(es'.map (·.1))[k]? = some x:=by rw[hes,List.map_append,List.getElem?_append_left hxl];exact hx
   simp only[Z0,Z1,B6,B7,Hp]
   refine Bm (!decide (z∈shut) && !decide (z∈es'.map (·.1))) (fun Q' h'=>?_) ?_
   ·simp only[Zf,Zi,Zl,Ch,Ai,Am,Ja hS5,Li hc5]
    split
    ·rename_i h;rw[h,Bool.true_and]at h';exact h'
    ·rename_i h;rw[Bool.not_eq_true]at h;rw[h,Bool.false_and]at h';exact h'
   split
   ·rename_i hh
    simp only[Bool.and_eq_true,Bool.not_eq_true',decide_eq_false_iff_not]at hh
    have hel5:=wlen es' W5
    simp only[Zf,Zx,Z0,Z1,Ai,Am,Bl,J8 hc5 (show es'.length<1048576 by exact O5 hm hel5)]
    rw[Abz hh.2]
    have hw6:LI (upd ak c (.dict (es' ++ [(z,.int x)]))) wt (es'.map (·.1)):=hw5.upd_ne (Ne.symm hcw)
    have hwl:((es'.map (·.1)).map V.int).length<1048576:=by rw[Bk,Bk];exact O5 hm hel5
    simp (disch:=first|decide|omega) only[Zf,Zu,Zv,Ai,Am,true_and,Bo,A8 hw6,Bq hw6 hwl]
    refine hK (es' ++ [(z,.int x)]) (fs ++ [(z,.int x)]) _ _ ⟨by rw[hes,List.append_assoc],(e5.upd' n1).upd' nwt,(hb5.upd_ne hbc).upd_ne hbw,?_,?_,W5.snoc hx5 hzm.2.2 hh.1 hh.2 hzm.1 hzm.2.1,?_⟩
    ·rw[upd_ne hcw,Ac]
    ·unfold LI;rw[Ac];simp
    ·intro y hy hys
     rw[List.take_add_one,hz]at hy
     rw[List.map_append]
     refine Aa fun nY=>?_
     rcases List.mem_append.mp hy with hy|hy
     ·refine nY ?_;clear nY
      exact List.mem_append_left _ (hz5 y hy hys)
     ·refine nY ?_;clear nY
      simp at hy;subst hy;simp
   ·rename_i hh
    simp only[Bool.and_eq_true,Bool.not_eq_true',decide_eq_false_iff_not,not_and,Classical.not_not]at hh
    simp only[Z0]
    refine hK es' fs _ _ ⟨hes,e5,hb5,hc5,hw5,W5,fun y hy hys=>?_⟩
    rw[List.take_add_one,hz]at hy
    refine Aa fun nY=>?_
    rcases List.mem_append.mp hy with hy|hy
    ·refine nY ?_;clear nY
     exact hz5 y hy hys
    ·refine nY ?_;clear nY
     simp at hy;subst hy;exact hh hys
  ·rintro es' fs r7 ak hP38
   refine Aa fun nY=>?_
   obtain⟨hes,e5,hb5,hc5,hw5,W5,hz5⟩:=hP38
   rw[Bk,List.take_of_length_le (Nat.le_refl _)]at hz5
   have hel5:=wlen es' W5
   refine nY ?_;clear nY
   refine⟨m-(k+1),(Nat.sub_lt_sub_left (Nat.lt_of_lt_of_le hlt hel) (Nat.lt_succ_self _)),es',k+1,_,_,rfl,by rw[hes,List.length_append];exact(Af hlt (Nat.le_add_right _ _)),rfl,e5,hc5,hw5,W5,fun i y hi hy z h0 h1 ha hs=>?_⟩
   refine Aa fun nY=>?_
   by_cases hik:i=k
   ·subst hik
    refine nY ?_;clear nY
    have hx5:(es'.map (·.1))[i]? = some x:=by rw[hes,List.map_append,List.getElem?_append_left hxl];exact hx
    rw[hx5]at hy;cases hy
    exact hz5 z (A7.mpr ⟨h0,h1,ha⟩) hs
   ·have hy':(es.map (·.1))[i]? = some y:=by
     rw[hes,List.map_append,List.getElem?_append_left (by rw[Bk];exact(Nat.lt_of_lt_of_le hi hlt))]at hy;exact hy
    have:=hcl i y (Nat.lt_of_le_of_ne (Nat.le_of_lt_succ hi) hik) hy' z h0 h1 ha hs
    refine nY ?_;clear nY
    rw[hes,List.map_append]
    exact List.mem_append_left _ this
 ·refine nY ?_;clear nY
  rw[decide_eq_false (show ¬(k:Int)<es.length by exact Ajx hlt)]
  simp only[Bool.false_eq_true,if_false]
  refine q c es ag e3 n1 hc3 {W with closed:=fun x hx z z0 z1 ha hs=>?_}
  obtain⟨i,hi⟩:=List.mem_iff_getElem?.mp hx
  have:=(Da hi).1
  rw[Bk]at this
  exact hcl i x (Nat.lt_of_lt_of_le this (Nat.not_lt.mp hlt)) hi z z0 z1 ha hs
set_option linter.all false
variable {G:A2} {n:Nat} {H H':AH} {Q:Ag} {E:EP} {C:CS} {ρ:Ak}
theorem Aip(F:Fns G)(hS':G.fn "steps_from" = some Eo)(hG:G.fn "way" = some Y2){w m s:Nat}{A:Nat->Nat->Bool}{shut:List Int}{start goal:Int}(hm:m<=60)(hW:C1 H w m A)(hS:LI H s shut)(h0:0<=start/\start<m)(h1:0<=goal/\goal<m)
 (qn:∀H',Al H H'->(start∈shut\/goal∈shut\/¬M3 m A shut start goal)->Q .none H')
 (qs:∀a p H',Al H H'->LI H' a p->p.length<=m->Q (.ref a) H'):Ae G (n+4) "way" [.ref w,.int start,.int goal,.ref s] H Q E:=by
 have B:=F.base
 refine Aj hG rfl ?_
 simp only[Y2,List.map,List.replicate,List.cons_append,List.nil_append]
 obtain⟨d,rs,w1,w2,w3⟩:=hW
 have hW:C1 H w m A:=⟨d,rs,w1,w2,w3⟩
 refine Hz ([some (.ref w),some (.int start),some (.int goal),some (.ref s),none,none]) (fun ab=>H=ab) (fun N hN=>?_) ?_
 ·simp only[Zf,Zu,Zv,Zx,Ai,Am,C9,true_and,Ax,Co,Cp,D4,w1,w2,B.need]
  exact Oq B hW h0.1 h0.2 (hN _ rfl)
 rintro _ rfl
 refine Hz ([some (.ref w),some (.int start),some (.int goal),some (.ref s),none,none]) (fun ab=>H=ab) (fun N hN=>?_) ?_
 ·simp only[Zf,Zu,Zv,Zx,Ai,Am,C9,true_and,Ax,Co,Cp,D4,w1,w2,B.need]
  exact Oq B hW h1.1 h1.2 (hN _ rfl)
 rintro _ rfl
 refine Ad ?_
 refine Bm (decide (start∈shut)||decide (goal∈shut)) (fun Q' h'=>?_) ?_
 ·simp only[Zf,Zj,Zl,Ch,Ai,Am,Abn hS]
  split
  ·rename_i h;rw[h,Bool.true_or]at h';exact h'
  ·rename_i h;rw[Bool.not_eq_true]at h;rw[h,Bool.false_or]at h';exact h'
 split
 ·rename_i hh
  simp only[Bool.or_eq_true,decide_eq_true_eq]at hh
  simp only[Zb,Zf,Zn,Zs,Zu,Zv,Zw,Zx,Zy,Z0,Z1]
  exact qn H Al.refl (hh.elim .inl fun h=> .inr (.inl h))
 rename_i hh
 simp only[Bool.or_eq_true,decide_eq_true_eq,not_or]at hh
 refine I6 ?_
 refine Lf (fun c es=>[some (.ref w),some (.int start),some (.int goal),some (.ref s),some (.ref c),none]) (fun c es ab=>O4 (Al H ab) (H c=none) (ab c=some (.dict es)) (Nf m A shut start es)) (fun N hN=>?_) ?_
 ·simp only[Zf,Zn,Zu,Zv,Zw,Ai,Am,B6,B7,C9,true_and,hS']
  exact Ws F hS' hm hW hS h0.1 h0.2 fun c es ab e1 n1 v1 ok=>hN c es _ ⟨e1,n1,v1,ok⟩
 rintro c es ab ⟨e1,n1,v1,ok⟩
 refine Ad (Bv ?_)
 simp only[Zb,Zf,Zl,Zs,Zu,Zv,Zw,Zx,Zy,Z0,Z1,Ch,Ai,Am,B6,B7,Li v1]
 by_cases hg:goal∈es.map (·.1)
 rotate_left
 ·rw[decide_eq_false hg]
  simp only[Bool.not_false,if_true]
  (try dsimp only)
  exact qn ab e1 (.inr (.inr fun r=>hg (ok.iff.mpr r)))
 rw[decide_eq_true hg]
 simp only[Bool.not_true,Bool.false_eq_true,if_false]
 refine Ab fun a ae e2 n2 v2=>?_
 (try dsimp only)
 have na:H a=none:=e1.isNone n2
 have hca:c≠a:=fun z=>by rw[<-z,v1]at n2;cases n2
 have hc2:=e2 _ _ v1
 have wlen:(es.map (·.1)).length<=m:=Ei ok.nodup ok.in_
 refine Kc ?_
 refine⟨fun κ ρ ag=>(Jy fun(f:List Int) (x:Int)=>An8 (ρ = [some (.ref w),some (.int start),some (.int goal),some (.ref s),some (.ref c),some (.ref a)]) (Al H ag) (ag c=some (.dict es)) (LI ag a f) (f.length+κ<=m) (0<f.length) (f[f.length-1]? = some x) ((es.map (fun e:Int×V=>e.1))[κ]? = some x)),?_,?_⟩
 ·obtain⟨i,hi⟩:=List.mem_iff_getElem?.mp hg
  have hil:=(Da hi).1
  exact⟨i,[goal],goal,rfl,e1.trans e2,hc2,v2,by simp;exact(Af (Nat.le_of_eq (Nat.add_comm 1 _)) (Af hil wlen)),Nat.one_pos,rfl,hi⟩
 rintro κ ρ ag ⟨f,x,rfl,e3,hc3,hf3,hlen,hfpos,hfl,hxk⟩
 have hlast:∀Q':Ag,C3 (.ref a) (.int (-1)) ag Q'=Q' (.int x) ag:=fun Q'=>by
  refine Abp hf3 (by exact(by decide)) (by rw[Bk];exact Ahn hfpos) ?_
  rw[Bk,show ((-1:Int)+f.length).toNat=f.length-1 by exact Aho,List.getElem?_map,hfl];rfl
 simp only[Ze,Zf,Zh,Zl,Zq,Zbd,Ch,Ai,Am,hlast]
 by_cases hxs:x=start
 ·rw[decide_eq_true hxs]
  simp only[Bool.not_true,Bool.false_eq_true,if_false]
  simp (disch:=first|decide|omega) only[Zf,Zu,Ai,Am,true_and,Bo,A8 hf3,Yk hf3]
  rw[<-List.map_reverse]
  exact qs a f.reverse _ (e3.upd' na) Ac (by rw[List.length_reverse];exact T5 hlen)
 ·rw[decide_eq_false hxs]
  simp only[Bool.not_false,if_true]
  have hk0:0<κ:=by
   rcases Nat.eq_zero_or_pos κ with z|z
   ·subst z;rw[ok.head]at hxk;cases hxk;exact absurd rfl hxs
   ·exact z
  obtain⟨j,y,hjk,hy,hdy⟩:=ok.par κ x hk0 hxk
  have hfl2:(f.map V.int).length<1048576:=by rw[Bk];exact Nat.lt_of_le_of_lt (Af (Nat.le_add_right _ _) (Af hlen hm)) (by decide)
  simp only[R8,Z1,Z0]
  simp (disch:=first|decide|omega) only[Ze,Zf,Zh,Zq,Zu,Zv,Zx,Ai,Am,true_and,Bo,A8 hf3,hlast,Vc hc3 hdy,Bq hf3 hfl2]
  exact⟨j,hjk,f ++ [y],y,trivial,e3.upd' na,by rw[upd_ne hca];exact hc3,by unfold LI;rw[Ac];simp,by simp;exact(Af (Nat.le_of_eq (Nat.add_right_comm _ 1 _)) (Af (Nat.add_le_add_left hjk _) hlen)),by simp,by simp,hy⟩
theorem M3.in_{m:Nat}{A:Nat->Nat->Bool}{shut:List Int}{x y:Int}(h:M3 m A shut x y)(hx:x∉shut/\0<=x/\x<(m:Int)):y∉shut/\0<=y/\y<(m:Int):=by
 induction h with
 | refl=>exact hx
 | step _ _ s z0 z1 _=>exact⟨s,z0,z1⟩
theorem M3.trans{m:Nat}{A:Nat->Nat->Bool}{shut:List Int}{x y z:Int}(h:M3 m A shut x y)(h':M3 m A shut y z):M3 m A shut x z:=by
 induction h' with
 | refl=>exact h
 | step _ a s z0 z1 ih=>exact .step ih a s z0 z1
theorem M3.symm{m:Nat}{A:Nat->Nat->Bool}{shut:List Int}{x y:Int}(g:Gr A)(h:M3 m A shut x y)(hx:x∉shut/\0<=x/\x<(m:Int)):M3 m A shut y x:=by
 induction h with
 | refl=>exact .refl _
 | step r a s z0 z1 ih=>
   have hy:=r.in_ hx
   exact(M3.step (.refl _) (by rw[g.symm];exact a) hy.1 hy.2.1 hy.2.2).trans ih
theorem M3.mono{m:Nat}{A:Nat->Nat->Bool}{shut shut':List Int}{x y:Int}(hs:∀z∈shut',z∈shut)(h:M3 m A shut x y):M3 m A shut' x y:=by
 induction h with
 | refl=>exact .refl _
 | step _ a s z0 z1 ih=>exact .step ih a (fun q=>s (hs _ q)) z0 z1
structure Tq(m:Nat)(A:Nat->Nat->Bool)(shut:List Int)(es:List (Int×V)):Prop where
 lab:∀x,x∉shut->0<=x->x<(m:Int)->∃l:Int,dget es x=some (.int l)
 key:∀x v,dget es x=some v->(x∉shut/\0<=x/\x<(m:Int))/\(O2 fun(l:Int)=>Fe (v = .int l) ((l∉shut/\0<=l/\l<(m:Int))) (M3 m A shut l x))
 same:∀x y,x∉shut->0<=x->x<(m:Int)->y∉shut->0<=y->y<(m:Int)->A x.toNat y.toNat=true->dget es x=dget es y
theorem G0{es:List (Int×V)}{k x:Int}{v:V}:dget (Cc es k v) x=if x=k then some v else dget es x:=by
 unfold dget
 induction es with
 | nil=>
   simp only[Cc,List.lookup_cons,List.lookup_nil]
   refine Aa fun nY=>?_
   by_cases h:x=k
   ·refine nY ?_;clear nY
    subst h;simp
   ·refine nY ?_;clear nY
    rw[show (x==k)=false from decide_eq_false h,if_neg h]
 | cons e r ih=>
   obtain⟨k',v'⟩:=e
   unfold Cc
   refine Aa fun nY=>?_
   by_cases h:k=k'
   ·subst h
    refine nY ?_;clear nY
    rw[if_pos rfl,List.lookup_cons,List.lookup_cons]
    refine Aa fun nY=>?_
    by_cases h':x=k
    ·refine nY ?_;clear nY
     subst h';simp
    ·refine nY ?_;clear nY
     rw[show (x==k)=false from decide_eq_false h',if_neg h']
   ·refine nY ?_;clear nY
    rw[if_neg h,List.lookup_cons,List.lookup_cons,ih]
    refine Aa fun nY=>?_
    by_cases h':x=k'
    ·subst h'
     refine nY ?_;clear nY
     simp;exact fun z=>absurd z.symm h
    ·refine nY ?_;clear nY
     rw[show (x==k')=false from decide_eq_false h']
theorem Kv{es:List (Int×V)}{k:Int}{v:V}:(Cc es k v).length<=es.length+1:=by
 induction es with
 | nil=>simp[Cc]
 | cons e r ih=>
   obtain⟨k',v'⟩:=e
   unfold Cc
   split
   ·simp
   ·simp;exact ih
set_option linter.all false
variable {G:A2} {n:Nat} {H H':AH} {Q:Ag} {E:EP} {C:CS} {ρ:Ak}
theorem Agr{a:Nat}{es:List (Int×V)}{K:List It->(AH->Prop)->AH->Prop}(h:H a=some (.dict es)):Gi (.ref a) H K=K ((es.map fun e=>V.int e.1).map .v) (fun _=>True) (Yt H a):=by
 delta Gi;(try dsimp only[A1]);rw[h];(try dsimp only);(try rw[List.map_map]);rfl
theorem Aeq{a:Nat}{es:List (Int×V)}{K:List It->(AH->Prop)->AH->Prop}(h:H a=some (.dict es))(kk:K ((es.map fun e=>V.int e.1).map .v) (fun _=>True) (Yt H a)):Gi (.ref a) H K:=Eq.mpr (Agr h) kk
theorem Ab3(F:Yl G){w m s:Nat}{A:Nat->Nat->Bool}{shut:List Int}(g:Gr A)(hm:m<=60)(hW:C1 H w m A)(hS:LI H s shut)
 (q:∀a es H',Al H H'->H a=none->H' a=some (.dict es)->Tq m A shut es->Q (.ref a) H'):Ae G (n+4) "pieces" [.ref w,.ref s] H Q E:=by
 have F1:=F.fns2.fns
 refine Aj F.pieces rfl ?_
 simp only[R9,List.map,List.replicate,List.cons_append,List.nil_append]
 refine Df (fun a=>[some (.ref w),some (.ref s),some (.ref a),none,none]) (fun a ab=>Fe (Al H ab) (H a=none) (ab a=some (.dict []))) (fun N hN=>?_) ?_
 ·refine Cd (Nj ?_)
  exact Ab fun a ab e1 n1 v1=>hN a _ ⟨e1,n1,v1⟩
 rintro a ab hP39
 refine Aa fun nY=>?_
 obtain⟨e1,na,v1⟩:=hP39
 obtain⟨d,rs,w1,w2,w3⟩:=hW.ext e1
 refine nY ?_;clear nY
 refine Ad (T8 ?_)
 simp (disch:=first|decide|omega) only[Zf,Zp,Zu,Zv,Zy,Z0,Z1,Qd,Ai,Ge w1 w2 (show Jc [(C2.many,V.int m),(C2.rows,V.ref rs)] .many=some (.int m)from rfl)]
 refine Jw (fun i (es:List (Int×V)) (r3:Option V) (r4:Option V)=>[some (.ref w),some (.ref s),some (.ref a),r3,r4]) (fun i (es:List (Int×V)) (r3:Option V) (r4:Option V) ae=>An6 (Al H ae) (ae a=some (.dict es)) (es.length<=60*i) ((∀x:Int,x∉shut->0<=x->x<(i:Int)->∃v,dget es x=some v)) ((∀x v,dget es x=some v->(x∉shut/\0<=x/\x<(m:Int))/\(O2 fun(l:Int)=>Fe (v = .int l) ((l∉shut/\0<=l/\l<(m:Int))) (M3 m A shut l x)))) (∀x y v,x∉shut->0<=x->x<(m:Int)->y∉shut->0<=y->y<(m:Int)->A x.toNat y.toNat=true->dget es x=some v->dget es y=some v)) [] _ _ rfl ⟨e1,v1,Nat.le_refl _,by intros;(first|lia|omega),fun _ _ h=>absurd h.symm (Option.some_ne_none _),by simp[dget]⟩ ?_ ?_
 ·rintro i es r3 r4 ae K hi hP40 hK
  refine Aa fun nY=>?_
  obtain⟨e2,hd2,hlen,hL,hK',hC⟩:=hP40
  have hi':i<m:=hi
  have hS2:=hS.ext e2
  refine nY ?_;clear nY
  simp only[L9,Z1,Z0,List.set_cons_succ,List.set_cons_zero]
  refine Bm (!decide ((i:Int)∈shut) && !decide ((i:Int)∈es.map (·.1))) (fun Q' h'=>?_) ?_
  ·simp only[Zf,Zi,Zl,Ch,Ai,Am,Ja hS2,Li hd2]
   split
   ·rename_i h;rw[h,Bool.true_and]at h';exact h'
   ·rename_i h;rw[Bool.not_eq_true]at h;rw[h,Bool.false_and]at h';exact h'
  split
  ·rename_i hh
   simp only[Bool.and_eq_true,Bool.not_eq_true',decide_eq_false_iff_not]at hh
   refine Ad (M8 ?_)
   simp only[Zf,Zn,Zu,Zv,Z0,Ai,Am,C9,true_and,F.steps]
   refine Ws F1 F.steps hm (hW.ext e2) hS2 T4 (W4 hi') fun c ec ag e3 n3 v3 ok=>?_
   refine Aeq v3 ?_
   have e23:Al ae (Yt ag c):=Wq e3 n3
   have hcl:ec.length<=m:=by
    have:=Ei ok.nodup ok.in_
    rwa[Bk]at this
   refine To (fun j ρ ah=>(Jy fun(es':List (Int×V)) (r4:Option V)=>Vh (ρ = [some (.ref w),some (.ref s),some (.ref a),some (.int i),r4]) (Al H ah) (ah a=some (.dict es')) (es'.length<=60*i+j) (∀x,dget es' x=if x∈(ec.map (fun e:Int×V=>e.1)).take j then some (.int i)else dget es x)))
    ⟨es,_,rfl,e2.trans e23,e23 _ _ hd2,by exact hlen,by simp⟩ ?_ ?_ ?_
   ·intros;trivial
   ·rintro j v ρ ah K' hv hP41 hK''
    refine Aa fun nY=>?_
    obtain⟨es',r4,rfl,e4,hd4,hl4,hx4⟩:=hP41
    refine nY ?_;clear nY
    have hv':((ec.map (·.1)).map V.int)[j]? = some v:=by rw[List.map_map];exact hv
    obtain⟨x,hx,rfl⟩:=LI.at_ (a:=c) hv'
    have hjl:=(Da hx).1
    rw[Bk]at hjl
    simp only[Zf,Z0,Z1,Ai,Am,B6,B7,L8,Bl,J8 hd4 (show es'.length<1048576 by exact(Nat.lt_of_le_of_lt (Af hl4 (Nat.add_le_add (Nat.mul_le_mul_left 60 (Af (Nat.le_of_lt hi') hm)) (Af (Nat.le_of_lt hjl) (Af hcl hm)))) (by decide)))]
    refine hK'' _ _ ⟨Cc es' x (.int i),_,rfl,e4.upd' na,Ac,?_,fun y=>?_⟩
    ·have:=Kv (es:=es') (k:=x) (v:= .int i);exact Af this (Nat.succ_le_succ hl4)
    ·rw[G0,hx4 y,List.take_add_one,hx]
     simp only[Option.toList_some,List.mem_append,List.mem_singleton]
     refine Aa fun nY=>?_
     by_cases h1:y=x
     ·refine nY ?_;clear nY
      simp[h1]
     ·refine nY ?_;clear nY
      simp[h1]
   ·rintro ρ ah hP42
    refine Aa fun nY=>?_
    obtain⟨es',r4,rfl,e4,hd4,hl4,hx4⟩:=hP42
    have hlk:(ec.map fun e=>V.int e.1).length=ec.length:=Bk _
    rw[hlk]at hx4 hl4
    rw[List.take_of_length_le (Nat.le_of_eq (Bk _))]at hx4
    have hout:((i:Int)∉shut/\0<=(i:Int)/\(i:Int)<m):=⟨hh.1,T4,(W4 hi')⟩
    refine nY ?_;clear nY
    refine hK es' _ _ _ ⟨e4,hd4,(Af hl4 (Nat.add_le_add_left (Af hcl hm) _)),fun x h1 h2 h3=>?_,fun x v hv=>?_,fun x y v x1 x2 x3 y1 y2 y3 ha hv=>?_⟩
    ·rw[hx4]
     split
     ·exact⟨_,rfl⟩
     ·rename_i hn
      refine hL x h1 h2 ?_
      have:x≠i:=fun z=>hn (by rw[z];exact ok.iff.mpr (.refl _))
      exact Int.lt_iff_le_and_ne.mpr ⟨Int.le_of_lt_add_one h3,this⟩
    ·rw[hx4]at hv
     refine Aa fun nY=>?_
     split at hv
     ·rename_i hin
      cases hv
      refine nY ?_;clear nY
      exact⟨(ok.rch x hin).in_ hout,i,rfl,hout,ok.rch x hin⟩
     ·refine nY ?_;clear nY
      exact hK' x v hv
    ·rw[hx4]at hv ⊢
     refine Aa fun nY=>?_
     split at hv
     ·rename_i hin
      refine nY ?_;clear nY
      rw[if_pos (ok.closed x hin y y2 y3 ha y1)];exact hv
     ·rename_i hin
      refine nY ?_;clear nY
      rw[if_neg (fun hy=>hin (ok.closed y hy x x2 x3 (by rw[g.symm];exact ha) x1))]
      exact hC x y v x1 x2 x3 y1 y2 y3 ha hv
  ·rename_i hh
   simp only[Z0]
   refine hK es _ _ _ ⟨e2,hd2,(Af hlen (Nat.le_add_right _ _)),fun x h1 h2 h3=>?_,hK',hC⟩
   refine Aa fun nY=>?_
   by_cases hxi:x=i
   ·subst hxi
    simp only[Bool.and_eq_true,Bool.not_eq_true',decide_eq_false_iff_not,not_and,Classical.not_not]at hh
    have hmem:=hh h1
    refine nY ?_;clear nY
    have:(dget es (i:Int)).isSome=true:=by rw[Fd];simpa using hmem
    exact Option.isSome_iff_exists.mp this
   ·refine nY ?_;clear nY
    exact hL x h1 h2 (Int.lt_iff_le_and_ne.mpr ⟨Int.le_of_lt_add_one h3,hxi⟩)
 ·rintro es r3 r4 ae hP43
  refine Aa fun nY=>?_
  obtain⟨e2,hd2,hlen,hL,hK',hC⟩:=hP43
  refine nY ?_;clear nY
  try simp only[Ai,Am]
  refine q a es ae e2 na hd2 ⟨fun x h1 h2 h3=>?_,hK',fun x y x1 x2 x3 y1 y2 y3 ha=>?_⟩
  ·refine Aa fun nY=>?_
   obtain⟨v,hv⟩:=hL x h1 h2 h3
   obtain⟨_,l,rfl,_⟩:=hK' x v hv
   refine nY ?_;clear nY
   exact⟨l,hv⟩
  ·obtain⟨v,hv⟩:=hL x x1 x2 x3
   rw[hv,hC x y v x1 x2 x3 y1 y2 y3 ha hv]
structure T1(ae H':AH)(tt:Nat)(es:List (Int×V))(T:Int->List Int):Prop where
 ext:Al ae H'
 ntt:ae tt=none
 at_:H' tt=some (.dict es)
 nodup:(es.map (·.1)).Nodup
 val:∀L v,dget es L=some v->(O2 fun x=>O4 (v = .ref x) (x≠tt) (ae x=none) (LI H' x (T L)))
 inj:∀L L' x,dget es L=some (.ref x)->dget es L'=some (.ref x)->L=L'
 non:∀L,dget es L=none->T L = []
theorem T1.mono{ae H'':AH}{tt:Nat}{es:List (Int×V)}{T:Int->List Int}(h:T1 ae H' tt es T)(e:Al H' H''):T1 ae H'' tt es T:=
 ⟨h.ext.trans e,h.ntt,e _ _ h.at_,h.nodup,fun L v hv=>by
  obtain⟨x,a,b,c,d⟩:=h.val L v hv
  exact⟨x,a,b,c,d.ext e⟩,h.inj,h.non⟩
theorem T1.set{ae:AH}{tt x:Nat}{es:List (Int×V)}{T:Int->List Int}{L:Int}(h:T1 ae H' tt es T)(hx:dget es L=some (.ref x))(l:List Int):T1 ae (upd H' x (.list (l.map V.int))) tt es (fun K=>if K=L then l else T K):=by
 refine Aa fun nY=>?_
 obtain⟨x',hx',h1,h2,h3⟩:=h.val L _ hx
 cases hx'
 refine nY ?_;clear nY
 refine⟨h.ext.upd' h2,h.ntt,by rw[upd_ne (Ne.symm h1)];exact h.at_,h.nodup,fun K v hv=>?_,h.inj,fun K hK=>?_⟩
 ·refine Aa fun nY=>?_
  obtain⟨y,rfl,a1,a2,a3⟩:=h.val K v hv
  refine nY ?_;clear nY
  refine⟨y,rfl,a1,a2,?_⟩
  refine Aa fun nY=>?_
  by_cases hKL:K=L
  ·subst hKL
   rw[hx]at hv;cases hv
   refine nY ?_;clear nY
   rw[if_pos rfl];exact Ac
  ·refine nY ?_;clear nY
   rw[if_neg hKL]
   exact a3.upd_ne fun z=>hKL (h.inj K L x (by rw[<-z];exact hv) hx)
 ·have:K≠L:=fun z=>by rw[z,hx]at hK;cases hK
  rw[if_neg this];exact h.non K hK
theorem T1.new{ae H'':AH}{tt z:Nat}{es:List (Int×V)}{T:Int->List Int}{L:Int}(h:T1 ae H' tt es T)(e:Al H' H'')(hz:H' z=none)(hv:LI H'' z [])(hn:dget es L=none):T1 ae (upd H'' tt (.dict (Cc es L (.ref z)))) tt (Cc es L (.ref z)) T:=by
 have hztt:z≠tt:=fun q=>by rw[q,h.at_]at hz;cases hz
 have h':=h.mono e
 refine⟨h'.ext.upd' h.ntt,h.ntt,Ac,?_,fun K v hK=>?_,fun K K' x h1 h2=>?_,fun K hK=>?_⟩
 ·rw[Gz]
  split
  ·exact h.nodup
  ·rename_i hh
   rw[List.nodup_append]
   exact⟨h.nodup,List.pairwise_singleton _ _,fun a ha b hb e=>hh (by simp at hb;rw[<-hb,<-e];exact ha)⟩
 ·rw[G0]at hK
  refine Aa fun nY=>?_
  split at hK
  ·rename_i hKL
   cases hK
   refine nY ?_;clear nY
   refine⟨z,rfl,hztt,h.ext.isNone hz,?_⟩
   rw[hKL,h.non L hn]
   exact hv.upd_ne hztt
  ·obtain⟨y,rfl,a1,a2,a3⟩:=h'.val K v hK
   refine nY ?_;clear nY
   exact⟨y,rfl,a1,a2,a3.upd_ne a1⟩
 ·have key:∀K,dget es K=some (.ref x)->x≠z:=fun K hK q=>by
   refine Aa fun nY=>?_
   obtain⟨y,hy,_,_,a3⟩:=h.val K _ hK
   cases hy
   unfold LI at a3
   rw[q,hz]at a3;cases a3
  rw[G0]at h1 h2
  refine Aa fun nY=>?_
  split at h1<;>split at h2
  ·refine nY ?_;clear nY
   (first|lia|omega)
  ·cases h1;exact absurd rfl (key K' h2)
  ·cases h2;exact absurd rfl (key K h1)
  ·refine nY ?_;clear nY
   exact h.inj K K' x h1 h2
 ·rw[G0]at hK
  refine Aa fun nY=>?_
  split at hK
  ·cases hK
  ·refine nY ?_;clear nY
   exact h.non K hK
theorem Rm{a:Nat}{es:List (Int×V)}{k:Int}{v w:V}(h:H a=some (.dict es))(hk:dget es k=some w):E0 .setdefault (.ref a) [.int k,v] H Q=Q w H:=by
 delta E0;dsimp only;(first|delta Dx|delta F3|delta Dy|delta F4|delta Dz|delta C4|delta Bt);(try dsimp only[A1,Ar,Ry,M4,Rr]);rw[h];(try dsimp only[Gh,Tx]);rw[hk];(try dsimp only[Gh,Ff])
theorem Pk{a:Nat}{es:List (Int×V)}{k:Int}{v w:V}(h:H a=some (.dict es))(hk:dget es k=some w)(kk:Q w H):E0 .setdefault (.ref a) [.int k,v] H Q:=Eq.mpr (Rm h hk) kk
theorem Rn{a:Nat}{es:List (Int×V)}{k:Int}{v:V}(h:H a=some (.dict es))(hk:dget es k=none)(hl:es.length<1048576):E0 .setdefault (.ref a) [.int k,v] H Q=Q v (upd H a (.dict (Cc es k v))):=by
 delta E0;dsimp only;(first|delta Dx|delta F3|delta Dy|delta F4|delta Dz|delta C4|delta Bt);(try dsimp only[A1,Ar,Ry,M4,Rr]);rw[h];(try dsimp only[Gh,Tx]);rw[hk];(try dsimp only[Gh,Ff])
 exact propext ⟨fun h=>h.2,fun q=>⟨hl,q⟩⟩
theorem Pl{a:Nat}{es:List (Int×V)}{k:Int}{v:V}(h:H a=some (.dict es))(hk:dget es k=none)(hl:es.length<1048576)(kk:Q v (upd H a (.dict (Cc es k v)))):E0 .setdefault (.ref a) [.int k,v] H Q:=Eq.mpr (Rn h hk hl) kk
theorem Aer{a:Nat}{es:List (Int×V)}(h:H a=some (.dict es)):F5 .setdefault (.ref a) H=True:=by
 delta F5;dsimp only;rw[h];exact propext ⟨fun _=>trivial,fun _=>rfl⟩
set_option linter.all false
noncomputable def Ro(m:Nat)(A:Nat->Nat->Bool)(p:Int):Prop:=(Ex4 fun(a b u v:Int)=>Ahd ((0<=a/\a<m)) ((0<=b/\b<m)) ((0<=u/\u<m)) ((0<=v/\v<m)) (A p.toNat a.toNat=true) (A p.toNat b.toNat=true) (a≠b) (A a.toNat b.toNat=false) (A a.toNat u.toNat=true) (A b.toNat v.toNat=true) (u∉Ao m A p.toNat ++ [p]) (v∉Ao m A p.toNat ++ [p]) (M3 m A (Ao m A p.toNat ++ [p]) u v))
structure Ab4(m:Nat)(A:Nat->Nat->Bool)(ep:List (Int×V))(T:Int->List Int)(done:Int->Int->Prop)(seen:List Int):Prop where
 src:∀L x,x∈T L->(0<=x/\x<(m:Int))/\∃o:Int,A x.toNat o.toNat=true/\dget ep o=some (.int L)
 asc:∀L,(T L).Pairwise (· < ·)
 sub:∀L x,x∈T L->x∈seen
 all:∀x o L,done x o->dget ep o=some (.int L)->x∈T L
theorem Ab5{l:List Int}(h:l≠[]):(O2 fun x=>Fe (l[l.length-1]? = some x) (x∈l) ((l.Pairwise (· < ·)->∀y∈l,y<=x))):=by
 have hl:l.length-1<l.length:=by
  have:0<l.length:=List.length_pos_iff.mpr h
  exact Nat.sub_lt this (by decide)
 refine⟨l[l.length-1],List.getElem?_eq_getElem hl,List.getElem_mem _,fun hp y hy=>?_⟩
 refine Aa fun nY=>?_
 obtain⟨i,hi,rfl⟩:=List.mem_iff_getElem.mp hy
 by_cases hz:i=l.length-1
 ·refine nY ?_;clear nY
  subst hz;exact Int.le_refl _
 ·refine nY ?_;clear nY
  exact Int.le_of_lt (List.pairwise_iff_getElem.mp hp i (l.length-1) hi hl (Nat.lt_of_le_of_ne (Nat.le_sub_one_of_lt hi) hz))
variable {G:A2} {n:Nat} {H H':AH} {Q:Ag} {E:EP} {C:CS} {ρ:Ak}
theorem Ym{m:Nat}{A:Nat->Nat->Bool}{ae:AH}{w nr pc tt b:Nat}{ep es:List (Int×V)}{T:Int->List Int}{done:Int->Int->Prop}{seen:List Int}{p one o:Int}{r7:Option V}{K:Ak->AH->Prop}
 (hp2:ae pc=some (.dict ep)) (hepl:∀x v,dget ep x=some v->∃l:Int,v = .int l/\(0<=l/\l<(m:Int))) (t:T1 ae H tt es T) (hkeys:∀L∈es.map (·.1),0<=L/\L<(m:Int)) (hm:m<=60) (lg:Ab4 m A ep T done (seen ++ [one])) (hlt:∀x∈seen,x<one) (h1:0<=one/\one<m) (ha:A one.toNat o.toNat=true)
 (hb:∀l,LI H b l->(tt≠b/\∀L x,dget es L=some (.ref x)->x≠b)) {lb:List Int} (hbl:LI H b lb)
 (hK:∀r7 es' T' H',T1 ae H' tt es' T'->(∀L∈es'.map (·.1),0<=L/\L<(m:Int))->Ab4 m A ep T' (fun x y=>done x y\/(x=one/\y=o)) (seen ++ [one])->LI H' b lb->(tt≠b/\∀L x,dget es' L=some (.ref x)->x≠b)->
   K [some (.ref w),some (.int p),some (.ref nr),some (.ref pc),some (.ref tt),some (.int one),some (.int o),r7,none,none,none] H') :
 Bh G (Ae G n) G5 [some (.ref w),some (.int p),some (.ref nr),some (.ref pc),some (.ref tt),some (.int one),some (.int o),r7,none,none,none] H K Q E:=by
 have hp:=t.ext _ _ hp2
 have hesl:es.length<=m:=by
  have:=Ei t.nodup hkeys
  rwa[Bk]at this
 simp only[G5,Z1,Z0]
 refine Bm (decide (o∈ep.map (·.1))) (fun Q' h'=>?_) ?_
 ·simp only[Zf,Zl,Ai,Am,Afc hp];exact h'
 split
 rotate_left
 ·rename_i hh
  simp only[Z0]
  refine hK _ _ _ _ t hkeys ⟨lg.src,lg.asc,lg.sub,fun x y L hd hy=>?_⟩ hbl (hb _ hbl)
  refine Aa fun nY=>?_
  rcases hd with hd | ⟨rfl,rfl⟩
  ·refine nY ?_;clear nY
   exact lg.all x y L hd hy
  ·refine nY ?_;clear nY
   exfalso
   have:(dget ep y).isSome=true:=by rw[hy];rfl
   rw[Fd]at this
   exact hh this
 rename_i hh
 have:(dget ep o).isSome=true:=by rw[Fd];exact hh
 refine Aa fun nY=>?_
 obtain⟨v,hv⟩:=Option.isSome_iff_exists.mp this
 obtain⟨L,rfl,hL⟩:=hepl o v hv
 refine nY ?_;clear nY
 refine Lf (fun x es'=>[some (.ref w),some (.int p),some (.ref nr),some (.ref pc),some (.ref tt),some (.int one),some (.int o),some (.ref x),none,none,none]) (fun x es' ag=>Vh (T1 ae ag tt es' T) ((∀L∈es'.map (fun e:Int×V=>e.1),0<=L/\L<(m:Int))) (dget es' L=some (.ref x)) (LI ag b lb) (∀L x,dget es' L=some (.ref x)->x≠b)) (fun N hN=>?_) ?_
 ·simp (disch:=first|decide|omega) only[Zf,Zq,Zs,Zu,Zv,Zw,Ai,Am,B6,B7,true_and,Bo,Aer t.at_,Vc hp hv]
  refine Ab fun z ag e3 n3 v3=>?_
  (try dsimp only)
  cases hd:dget es L with
  | some u=>
    obtain⟨x,rfl,_⟩:=t.val L u hd
    refine Pk (e3 _ _ t.at_) hd ?_
    exact hN x es _ ⟨t.mono e3,hkeys,hd,hbl.ext e3,(hb _ hbl).2⟩
  | none=>
    refine Pl (e3 _ _ t.at_) hd (O5 hm hesl) ?_
    refine hN z _ _ ⟨t.new e3 n3 v3 hd,fun K hK=>?_,by rw[G0,if_pos rfl],(hbl.ext e3).upd_ne (Ne.symm (hb _ hbl).1),fun K x hK q=>?_⟩
    ·rw[Gz]at hK
     refine Aa fun nY=>?_
     split at hK
     ·refine nY ?_;clear nY
      exact hkeys K hK
     ·rcases List.mem_append.mp hK with hK|hK
      ·refine nY ?_;clear nY
       exact hkeys K hK
      ·refine nY ?_;clear nY
       simp at hK;rw[hK];exact hL
    ·rw[G0]at hK
     refine Aa fun nY=>?_
     split at hK
     ·cases hK
      unfold LI at hbl
      rw[<-q,n3]at hbl;cases hbl
     ·refine nY ?_;clear nY
      exact(hb _ hbl).2 K x hK q
 rintro x es' ag hP44
 refine Aa fun nY=>?_
 obtain⟨t3,hk3,hd3,hb3,hnb⟩:=hP44
 obtain⟨x',hx',hxt,hx2,hx3⟩:=t3.val L _ hd3
 cases hx'
 refine nY ?_;clear nY
 refine Ad (Bv (Vo ?_))
 simp only[Ze,Zf,Zh,Zl,Zq,Zs,Zu,Zx,Z0,Z1,Ch,Ai,Am]
 refine Ab fun z ah e4 n4 v4=>?_
 (try dsimp only)
 have t4:=t3.mono e4
 have hx4:=hx3.ext e4
 have hb4:=hb3.ext e4
 have httb:=(hb _ hbl).1
 refine U9 (l:=T L) (l':=[]) hx4 v4 ?_
 (try dsimp only);(try simp only[Ch])
 have app:T L = []\/(∀y∈T L,y<one)->Bh G (Ae G n) [.expr (.lm .append (.var 7) [(.var 5)])] [some (.ref w),some (.int p),some (.ref nr),some (.ref pc),some (.ref tt),some (.int one),some (.int o),some (.ref x),none,none,none] ah K Q E:=by
  intro hc
  have hlt':∀y∈T L,y<one:=by
   refine Aa fun nY=>?_
   rcases hc with hc|hc
   ·refine nY ?_;clear nY
    rw[hc];simp
   ·refine nY ?_;clear nY
    exact hc
  have hln:(T L).length<=m:=Ei ((lg.asc L).imp fun h=>(Int.ne_of_lt h)) fun y hy=>(lg.src L y hy).1
  have hl2:((T L).map V.int).length<1048576:=by rw[Bk];exact O5 hm hln
  simp (disch:=first|decide|omega) only[Zf,Zu,Zv,Zx,Z0,Z1,Ai,Am,true_and,Bo,A8 hx4,Bq hx4 hl2]
  have:=t4.set hd3 (T L ++ [one])
  rw[List.map_append]at this
  refine hK _ _ _ _ this hk3 ⟨fun K y hy=>?_,fun K=>?_,fun K y hy=>?_,fun y o' K hdn hyo=>?_⟩ (hb4.upd_ne (Ne.symm (hnb L x hd3))) ⟨httb,hnb⟩
  ·refine Aa fun nY=>?_
   split at hy
   ·rename_i hKL
    subst hKL
    rcases List.mem_append.mp hy with hy|hy
    ·refine nY ?_;clear nY
     exact lg.src K y hy
    ·refine nY ?_;clear nY
     simp at hy;subst hy;exact⟨h1,o,ha,hv⟩
   ·refine nY ?_;clear nY
    exact lg.src K y hy
  ·split
   ·rw[List.pairwise_append]
    refine⟨lg.asc L,List.pairwise_singleton _ _,fun y hy z hz=>?_⟩
    simp at hz;subst hz;exact hlt' y hy
   ·exact lg.asc K
  ·refine Aa fun nY=>?_
   split at hy
   ·rcases List.mem_append.mp hy with hy|hy
    ·refine nY ?_;clear nY
     exact lg.sub L y hy
    ·refine nY ?_;clear nY
     simp at hy;subst hy;simp
   ·refine nY ?_;clear nY
    exact lg.sub K y hy
  ·split
   ·rename_i hKL
    refine Aa fun nY=>?_
    subst hKL
    rcases hdn with hdn | ⟨rfl,rfl⟩
    ·refine nY ?_;clear nY
     exact List.mem_append_left _ (lg.all y o' K hdn hyo)
    ·refine nY ?_;clear nY
     simp
   ·rename_i hKL
    refine Aa fun nY=>?_
    rcases hdn with hdn | ⟨rfl,rfl⟩
    ·refine nY ?_;clear nY
     exact lg.all y o' K hdn hyo
    ·rw[hv]at hyo;cases hyo;exact absurd rfl hKL
 refine Aa fun nY=>?_
 by_cases hTe:T L = []
 ·refine nY ?_;clear nY
  rw[decide_eq_true hTe]
  simp only[if_true]
  have:=app (.inl hTe)
  (try dsimp only)
  simpa only[Z1,Z0,Zx,Bo,Zf,List.getElem?_cons_zero,List.getElem?_cons_succ,Zv,Zu]using this
 ·refine nY ?_;clear nY
  rw[decide_eq_false hTe]
  simp only[Bool.false_eq_true,if_false]
  refine Aa fun nY=>?_
  obtain⟨y,hy1,hy2,hy3⟩:=Ab5 hTe
  have hlp:0<(T L).length:=List.length_pos_iff.mpr hTe
  refine nY ?_;clear nY
  refine Aef (x:= .int y) hx4 (by exact(by decide)) (by rw[Bk];exact Ahn hlp) (by rw[Bk,show ((-1:Int)+(T L).length).toNat=(T L).length-1 by exact Aho,List.getElem?_map,hy1];rfl) ?_
  (try dsimp only);(try simp only[Zbd,Ch])
  refine Aa fun nY=>?_
  by_cases hyo:y=one
  ·refine nY ?_;clear nY
   rw[decide_eq_true hyo]
   simp only[Bool.not_true,Bool.false_eq_true,if_false]
   refine hK _ _ _ _ t4 hk3 ⟨lg.src,lg.asc,lg.sub,fun x' o' K hdn hyo'=>?_⟩ hb4 ⟨httb,hnb⟩
   refine Aa fun nY=>?_
   rcases hdn with hdn | ⟨rfl,rfl⟩
   ·refine nY ?_;clear nY
    exact lg.all x' o' K hdn hyo'
   ·rw[hv]at hyo';cases hyo'
    refine nY ?_;clear nY
    rw[<-hyo];exact hy2
  ·refine nY ?_;clear nY
   rw[decide_eq_false hyo]
   simp only[Bool.not_false,if_true]
   have hyl:y<one:=by
    refine Aa fun nY=>?_
    rcases List.mem_append.mp (lg.sub L y hy2)with h|h
    ·refine nY ?_;clear nY
     exact hlt y h
    ·simp at h;exact absurd h hyo
   have:=app (.inr fun z hz=>by have:=hy3 (lg.asc L) z hz;exact(Int.lt_of_le_of_lt this hyl))
   (try dsimp only)
   simpa only[Z1,Z0,Zx,Bo,Zf,List.getElem?_cons_zero,List.getElem?_cons_succ,Zv,Zu]using this
set_option linter.all false
variable {G:A2} {n:Nat} {H H':AH} {Q:Ag} {E:EP} {C:CS} {ρ:Ak}
theorem Aes{A:Nat->Nat->Bool}:∀ {l:List Int} {x y:Int},fu A l=some (x,y)->(Jy fun(i j:Nat)=>O4 (i<j) (l[i]? = some x) (l[j]? = some y) (A x.toNat y.toNat=false)):=by
 intro l
 induction l with
 | nil=>exact fun h=>absurd h.symm (Option.some_ne_none _)
 | cons z r ih=>
   intro x y h
   rw[Nd]at h
   cases e:r.find? (fun y=> !A z.toNat y.toNat)with
   | some u=>
     rw[e]at h
     refine Aa fun nY=>?_
     cases h
     obtain⟨j,hj⟩:=List.mem_iff_getElem?.mp (List.mem_of_find?_eq_some e)
     refine nY ?_;clear nY
     exact⟨0,j+1,Nat.succ_pos _,rfl,hj,(Bool.not_eq_true' _).mp (List.find?_some (p:=fun y:Int=> !A z.toNat y.toNat) e)⟩
   | none=>
     rw[e]at h
     refine Aa fun nY=>?_
     obtain⟨i,j,h1,h2,h3,h4⟩:=ih h
     refine nY ?_;clear nY
     exact⟨i+1,j+1,Nat.succ_lt_succ h1,h2,h3,h4⟩
theorem Ow{m:Nat}{A:Nat->Nat->Bool}{i:Nat}:(Ao m A i).Pairwise (· < ·):=Re _
theorem Ab6(F:Yl G){w m:Nat}{A:Nat->Nat->Bool}{p:Int}(g:Gr A)(hm:m<=60)(hW:C1 H w m A)(h0:0<=p/\p<m)
 (qn:∀H',Al H H'->¬Ro m A p->Q .none H')
 (qs:∀a H',Al H H'->Q (.ref a) H'):Ae G (n+5) "ring_at" [.ref w,.int p] H Q E:=by
 have F1:=F.fns2.fns
 have B:=F1.base
 refine Aj F.ringAt rfl ?_
 simp only[Pr,List.map,List.replicate,List.cons_append,List.nil_append]
 refine Df (fun nr=>[some (.ref w),some (.int p),some (.ref nr),none,none,none,none,none,none,none,none]) (fun nr ab=>(Al H ab)/\(LI ab nr (Ao m A p.toNat))) (fun N hN=>?_) ?_
 ·refine Aa fun nY=>?_
  obtain⟨d,rs,w1,w2,w3⟩:=hW
  refine nY ?_;clear nY
  simp only[Zf,Zu,Zv,Zw,Ai,Am,B6,B7,C9,true_and,Ax,Co,Cp,D4,w1,w2,F1.beside]
  exact I2 B F1.beside ⟨d,rs,w1,w2,w3⟩ h0.1 h0.2 fun a ab e1 _ h=>hN a _ ⟨e1,h⟩
 rintro nr ab ⟨e1,hnr⟩
 have hnl:(Ao m A p.toNat).length<=m:=Dw
 refine Lf (fun pc ep=>[some (.ref w),some (.int p),some (.ref nr),some (.ref pc),none,none,none,none,none,none,none]) (fun pc ep ae=>Fe (Al ab ae) (ae pc=some (.dict ep)) (Tq m A (Ao m A p.toNat ++ [p]) ep)) (fun N hN=>?_) ?_
 ·simp only[Zf,Zk,Zn,Zs,Zu,Zv,Zw,Ai,Am,B6,B7,C9,true_and,F.pieces]
  refine Ab fun s1 ae e2 _ v2=>?_
  (try dsimp only)
  refine Ex (hnr.ext e2) v2 (by simp;exact(Af (Af hnl hm) (by decide))) ?_
  refine Ab fun s2 ag e3 _ v3=>?_
  (try dsimp only)
  have v3':LI ag s2 (Ao m A p.toNat ++ [p]):=by unfold LI;rw[v3];simp
  exact Ab3 F g hm (hW.ext ((e1.trans e2).trans e3)) v3' fun a es ah e4 _ h1 h2=>hN a es _ ⟨(e2.trans e3).trans e4,h1,h2⟩
 rintro pc ep ae hP45
 refine Aa fun nY=>?_
 obtain⟨e2,hpc,pk⟩:=hP45
 have hnr2:=hnr.ext e2
 have hepl:∀x v,dget ep x=some v->∃l:Int,v = .int l/\(0<=l/\l<(m:Int)):=fun x v h=>by
  refine Aa fun nY=>?_
  obtain⟨_,l,rfl,hl,_⟩:=pk.key x v h
  refine nY ?_;clear nY
  exact⟨l,rfl,hl.2⟩
 refine nY ?_;clear nY
 refine Df (fun tt=>[some (.ref w),some (.int p),some (.ref nr),some (.ref pc),some (.ref tt),none,none,none,none,none,none]) (fun tt ag=>T1 ae ag tt [] (fun _=>[])) (fun N hN=>?_) ?_
 ·refine Cd (Nj ?_)
  exact Ab fun tt ag e3 n3 v3=>hN tt _ ⟨e3,n3,v3,List.Pairwise.nil,fun _ _ h=>absurd h.symm (Option.some_ne_none _),fun _ _ _ h=>absurd h.symm (Option.some_ne_none _),fun _ _=>rfl⟩
 rintro tt ag t3
 refine Ail (fun es T r5 r6 r7=>[some (.ref w),some (.int p),some (.ref nr),some (.ref pc),some (.ref tt),r5,r6,r7,none,none,none]) (fun es T r5 r6 r7 ah=>Fe (T1 ae ah tt es T) ((∀L∈es.map (fun e:Int×V=>e.1),0<=L/\L<(m:Int))) (Ab4 m A ep T (fun x o=>x∈Ao m A p.toNat/\o∈Ao m A x.toNat) (Ao m A p.toNat))) (fun N hN=>?_) ?_
 ·refine M8 ?_
  simp only[Zf,Ai,Am]
  refine Aq (t3.ext _ _ hnr2) ?_
  refine Ta (fun i es T r5 r6 r7=>[some (.ref w),some (.int p),some (.ref nr),some (.ref pc),some (.ref tt),r5,r6,r7,none,none,none]) (fun i es T r5 r6 r7 ah=>Fe (T1 ae ah tt es T) ((∀L∈es.map (fun e:Int×V=>e.1),0<=L/\L<(m:Int))) (Ab4 m A ep T (fun x o=>x∈(Ao m A p.toNat).take i/\o∈Ao m A x.toNat) ((Ao m A p.toNat).take i))) [] _ _ _ _ rfl ⟨t3,fun _ h=>absurd h List.not_mem_nil,⟨fun _ _ h=>absurd h List.not_mem_nil,fun _=>List.Pairwise.nil,fun _ _ h=>absurd h List.not_mem_nil,fun _ _ _ h=>absurd h.1 List.not_mem_nil⟩⟩ ?_ ?_ ?_
  ·rintro i es T r5 r6 r7 ah ⟨t,_⟩;exact t.ext _ _ hnr2
  ·rintro i v es T r5 r6 r7 ah K hv hP46 hK
   refine Aa fun nY=>?_
   obtain⟨t,hk,lg⟩:=hP46
   obtain⟨one,hone,rfl⟩:=LI.at_ (a:=nr) hv
   have h1m:=A7.mp (List.mem_of_getElem? hone)
   have hlt:∀x∈(Ao m A p.toNat).take i,x<one:=fun x hx=>by
    refine Aa fun nY=>?_
    obtain⟨j,hj,rfl⟩:=List.mem_take_iff_getElem.mp hx
    obtain⟨hi,rfl⟩:=Da hone
    refine nY ?_;clear nY
    exact List.pairwise_iff_getElem.mp Ow j i (Nat.lt_of_lt_of_le hj (Nat.min_le_right _ _)) hi (Nat.lt_of_lt_of_le hj (Nat.min_le_left _ _))
   refine nY ?_;clear nY
   have htk:(Ao m A p.toNat).take (i+1)=(Ao m A p.toNat).take i ++ [one]:=by rw[List.take_add_one,hone];rfl
   refine Aa fun nY=>?_
   obtain⟨d,rs,w1,w2,w3⟩:=(hW.ext (e1.trans e2)).ext t.ext
   refine nY ?_;clear nY
   simp only[Kj,Z1,Z0,List.set_cons_succ,List.set_cons_zero]
   refine M8 ?_
   simp only[Zf,Zu,Zv,Ai,Am,C9,true_and,Ax,Co,Cp,D4,w1,w2,F1.beside]
   refine I2 B F1.beside ⟨d,rs,w1,w2,w3⟩ h1m.1 h1m.2.1 fun b ak e5 nb hb=>?_
   refine Aq hb ?_
   have htb:tt≠b:=fun z=>by rw[<-z,t.at_]at nb;cases nb
   have hxb:∀L x,dget es L=some (.ref x)->x≠b:=fun L x hL z=>by
    refine Aa fun nY=>?_
    obtain⟨y,hy,_,_,hy4⟩:=t.val L _ hL
    cases hy
    unfold LI at hy4
    rw[z,nb]at hy4;cases hy4
   refine I9 (fun j ρ al=>(Ex4 fun es T r6 r7=>An6 (ρ = [some (.ref w),some (.int p),some (.ref nr),some (.ref pc),some (.ref tt),some (.int one),r6,r7,none,none,none]) (T1 ae al tt es T) ((∀L∈es.map (fun e:Int×V=>e.1),0<=L/\L<(m:Int))) (Ab4 m A ep T (fun x o=>(x∈(Ao m A p.toNat).take i/\o∈Ao m A x.toNat)\/(x=one/\o∈(Ao m A one.toNat).take j)) ((Ao m A p.toNat).take i ++ [one])) (LI al b (Ao m A one.toNat)) (∀L x,dget es L=some (.ref x)->x≠b)))
    ⟨es,T,_,_,rfl,t.mono e5,hk,⟨lg.src,lg.asc,fun L x hx=>List.mem_append_left _ (lg.sub L x hx),fun x o L hd ho=>?_⟩,hb,hxb⟩ ?_ ?_ ?_
   ·refine Aa fun nY=>?_
    rcases hd with hd|hd
    ·refine nY ?_;clear nY
     exact lg.all x o L hd ho
    ·simp at hd
   ·rintro j ρ al ⟨es,T,r6,r7,rfl,t,_,_,hb6,_⟩;exact hb6
   ·rintro j v ρ al K' hv hP47 hK'
    refine Aa fun nY=>?_
    obtain⟨es,T,r6,r7,rfl,t,hk,lg,hb6,hxb⟩:=hP47
    obtain⟨o,ho,rfl⟩:=LI.at_ (a:=b) hv
    have hom:=A7.mp (List.mem_of_getElem? ho)
    refine nY ?_;clear nY
    simp only[List.set_cons_succ,List.set_cons_zero]
    refine Ym hpc hepl t hk hm lg hlt ⟨h1m.1,h1m.2.1⟩ hom.2.2 (fun _ _=>⟨htb,hxb⟩) hb6 fun r7 es' T' au t7 hk7 lg7 hb7 hxb7=>?_
    refine hK' _ _ ⟨es',T',_,_,rfl,t7,hk7,⟨lg7.src,lg7.asc,lg7.sub,fun x y L hd hy=>lg7.all x y L ?_ hy⟩,hb7,hxb7.2⟩
    refine Aa fun nY=>?_
    rcases hd with hd | ⟨rfl,hd⟩
    ·refine nY ?_;clear nY
     exact .inl (.inl hd)
    ·rw[List.take_add_one,ho]at hd
     rcases List.mem_append.mp hd with hd|hd
     ·refine nY ?_;clear nY
      exact .inl (.inr ⟨rfl,hd⟩)
     ·refine nY ?_;clear nY
      simp at hd;exact .inr ⟨rfl,hd⟩
   ·rintro ρ al hP48
    refine Aa fun nY=>?_
    obtain⟨es,T,r6,r7,rfl,t,hk,lg,hb6,hxb⟩:=hP48
    rw[Bk,List.take_of_length_le (Nat.le_refl _)]at lg
    refine nY ?_;clear nY
    refine hK es T _ _ _ _ ⟨t,hk,⟨lg.src,lg.asc,?_,fun x o L hd ho=>lg.all x o L ?_ ho⟩⟩
    ·rw[htk];exact lg.sub
    ·rw[htk]at hd
     refine Aa fun nY=>?_
     rcases List.mem_append.mp hd.1 with h|h
     ·refine nY ?_;clear nY
      exact .inl ⟨h,hd.2⟩
     ·refine nY ?_;clear nY
      simp at h;subst h;exact .inr ⟨rfl,hd.2⟩
  ·rintro es T r5 r6 r7 ah hP49
   refine Aa fun nY=>?_
   obtain⟨t,hk,lg⟩:=hP49
   rw[Bk,List.take_of_length_le (Nat.le_refl _)]at lg
   refine nY ?_;clear nY
   exact hN es T _ _ _ _ ⟨t,hk,lg⟩
 rintro es T r5 r6 r7 ah hP50
 refine Aa fun nY=>?_
 obtain⟨t,hk,lg⟩:=hP50
 have hesl:es.length<64:=by
  have:=Ei t.nodup hk
  rw[Bk]at this
  exact Afg hm this
 refine nY ?_;clear nY
 refine Ad (M8 ?_)
 simp only[Zb,Zf,Zo,Zu,Zv,Zy,Z0,Z1,Ai,Am,Wn t.at_ hesl]
 refine Ab fun sl ak e5 n5 v5=>?_
 (try dsimp only)
 refine Aq v5 ?_
 have tin:∀L x,x∈T L->0<=x/\x<(m:Int):=fun L x hx=>(lg.src L x hx).1
 refine D9 (fun i r8 r9 r10=>[some (.ref w),some (.int p),some (.ref nr),some (.ref pc),some (.ref tt),r5,r6,r7,r8,r9,r10]) (fun i r8 r9 r10 al=>(Al ak al)/\(∀L∈(Bu (es.map (fun e:Int×V=>e.1))).take i,fu A (T L)=none)) _ _ _ rfl ⟨Al.refl,fun _ h=>absurd h List.not_mem_nil⟩ ?_ ?_ ?_
 ·rintro i r8 r9 r10 al ⟨e6,_⟩;exact e6 _ _ v5
 ·rintro i v r8 r9 r10 al K hv ⟨e6,hno⟩ hK
  obtain⟨L,hL,rfl⟩:=LI.at_ (a:=sl) hv
  have hLm:L∈es.map (·.1):=Gy.mp (List.mem_of_getElem? hL)
  have:(dget es L).isSome=true:=by rw[Fd];simpa using hLm
  refine Aa fun nY=>?_
  obtain⟨v,hv⟩:=Option.isSome_iff_exists.mp this
  obtain⟨x,rfl,hx1,hx2,hx3⟩:=t.val L v hv
  have e46:=e5.trans e6
  have eH:Al H al:=((e1.trans e2).trans t.ext).trans e46
  refine nY ?_;clear nY
  simp only[Km,List.set_cons_succ,List.set_cons_zero]
  refine Df (fun v9=>[some (.ref w),some (.int p),some (.ref nr),some (.ref pc),some (.ref tt),r5,r6,r7,some (.int L),some v9,r10]) (fun v9 au=>Al al au/\match fu A (T L)with|none=>v9 = .none|some (y,z)=>∃a,v9 = .ref a/\au a=some (.tuple [.int y,.int z])) (fun N hN=>?_) ?_
  ·simp only[Zf,Zn,Zq,Zu,Zv,Zw,Ai,Am,B6,B7,C9,true_and,F1.untied,Vc (e46 _ _ t.at_) hv]
   refine Gf B F1.untied (hW.ext eH) (hx3.ext e46) (tin L) fun au e7=>?_
   cases hfu:fu A (T L)with
   | none=>
     refine hN _ _ ⟨e7,?_⟩
     rw[hfu]
   | some pr=>
     obtain⟨y,z⟩:=pr
     intro a ha
     refine hN _ _ ⟨e7.trans (Al.upd ha),?_⟩
     rw[hfu]
     exact⟨a,rfl,Ac⟩
  rintro v9 au ⟨e7,h9⟩
  refine Ad (Bv ?_)
  cases hfu:fu A (T L)with
  | none=>
    rw[hfu]at h9
    simp only at h9
    subst h9
    simp only[Zb,Ze,Zf,Zk,Zl,Zn,Zq,Zs,Zu,Zv,Zw,Zy,Z0,Z1,Zbi,Ch,Ai,Am,B6,B7]
    simp only[Bool.false_eq_true,if_false]
    refine hK _ _ _ _ ⟨e6.trans e7,fun L' hL'=>?_⟩
    rw[List.take_add_one,hL]at hL'
    refine Aa fun nY=>?_
    rcases List.mem_append.mp hL' with h|h
    ·refine nY ?_;clear nY
     exact hno L' h
    ·refine nY ?_;clear nY
     simp at h;rw[h];exact hfu
  | some pr=>
    refine Aa fun nY=>?_
    obtain⟨y,z⟩:=pr
    rw[hfu]at h9
    obtain⟨a9,rfl,h9⟩:=h9
    have e47:=e46.trans e7
    have eH7:=eH.trans e7
    have hnr7:=(hnr2.ext t.ext).ext e47
    obtain⟨i1,i2,hi12,hy,hz,hyz⟩:=Aes hfu
    have hym:=List.mem_of_getElem? hy
    have hzm:=List.mem_of_getElem? hz
    have hyn:=A7.mp (lg.sub L y hym)
    have hzn:=A7.mp (lg.sub L z hzm)
    have hyz':y≠z:=fun q=>by
     subst q
     have:=Hk ((lg.asc L).imp fun h=>(Int.ne_of_lt h)) hy hz
     exact Nat.lt_irrefl _ (Nat.lt_of_lt_of_eq hi12 this.symm)
    obtain⟨_,u,hu1,hu2⟩:=lg.src L y hym
    obtain⟨_,v,hv1,hv2⟩:=lg.src L z hzm
    obtain⟨hu3,l1,hl1,hl2,hl3⟩:=pk.key u _ hu2
    obtain⟨hv3,l2,hl4,hl5,hl6⟩:=pk.key v _ hv2
    cases hl1;cases hl4
    refine nY ?_;clear nY
    simp only[Zb,Ze,Zf,Zk,Zl,Zn,Zq,Zs,Zu,Zv,Zw,Zy,Z0,Z1,Zbj,Ch,Ai,Am,B6,B7]
    simp only[if_true]
    refine hvK ?_
    simp only[Zf,Z2,Eg,Eh,Ai,Am,List.replicate]
    refine Aq hnr7 ?_
    refine⟨by simp[Bp];exact(Af (Af hnl hm) (by decide)),Eb (p:=fun o=> !decide (o=y\/o=z)) hnr7 (fun o ho K' hK'=>?_) ?_⟩
    ·have hmd:T3 (.int o) [.int y,.int z]=some (decide (o=y\/o=z)):=by
      have:=Oo o [y,z]
      simpa using this
     simp only[Zf,Zl,Ch,Ai,Am,Kl,Abw h9 hmd]
     split
     ·rename_i h;rw[if_pos h]at hK';exact hK'
     ·rename_i h;rw[if_neg h]at hK';exact hK'
    refine Ab fun s1 aq e8 _ v8=>?_
    (try dsimp only)
    generalize hsh:(Ao m A p.toNat).filter (fun o=> !decide (o=y\/o=z))=shut at v8
    have hshl:shut.length<=m:=by rw[<-hsh];exact Af (List.length_filter_le _ _) hnl
    refine Ab fun s2 ax e9 n9 v9=>?_
    (try dsimp only)
    refine⟨by rw[F.way];rfl,?_⟩
    refine Fz (x:= .int y) ((e8.trans e9) _ _ h9) (by decide) rfl ?_
    (try dsimp only)
    refine Fz (x:= .int z) ((e8.trans e9) _ _ h9) (by decide) rfl ?_
    (try dsimp only)
    refine Ab fun s3 aE e10 _ v10=>?_
    (try dsimp only)
    refine Ex ((e9.trans e10) _ _ v8) v10 (by simp;exact(Af (Af hshl hm) (by decide))) ?_
    refine Ab fun s4 aI e11 _ v11=>?_
    (try dsimp only)
    have e711:=((e8.trans e9).trans e10).trans e11
    have v11':LI aI s4 (shut ++ [p]):=by unfold LI;rw[v11];simp
    refine Aa fun nY=>?_
    have hyp:y≠p:=fun q=>by rw[q,g.irr]at hyn;cases hyn.2.2
    have hzp:z≠p:=fun q=>by rw[q,g.irr]at hzn;cases hzn.2.2
    have hys:y∉shut ++ [p]:=fun q=>by
     refine Aa fun nY=>?_
     rcases List.mem_append.mp q with q|q
     ·rw[<-hsh,List.mem_filter]at q;simp at q
     ·refine nY ?_;clear nY
      simp at q;exact hyp q
    have hzs:z∉shut ++ [p]:=fun q=>by
     refine Aa fun nY=>?_
     rcases List.mem_append.mp q with q|q
     ·rw[<-hsh,List.mem_filter]at q;simp at q
     ·refine nY ?_;clear nY
      simp at q;exact hzp q
    have hsub:∀o∈shut ++ [p],o∈Ao m A p.toNat ++ [p]:=fun o ho=>by
     refine Aa fun nY=>?_
     rcases List.mem_append.mp ho with ho|ho
     ·refine nY ?_;clear nY
      rw[<-hsh,List.mem_filter]at ho;exact List.mem_append_left _ ho.1
     ·refine nY ?_;clear nY
      exact List.mem_append_right _ ho
    have hrch:M3 m A (shut ++ [p]) y z:=by
     have r1:M3 m A (shut ++ [p]) y u:= .step (.refl _) hu1 (fun q=>hu3.1 (hsub u q)) hu3.2.1 hu3.2.2
     have r2:M3 m A (shut ++ [p]) u v:=((hl3.symm g hl2).trans hl6).mono hsub
     exact .step (r1.trans r2) (by rw[g.symm];exact hv1) hzs hzn.1 hzn.2.1
    refine nY ?_;clear nY
    refine Aip F1 F.steps F.way hm (hW.ext (eH7.trans e711)) v11' ⟨hyn.1,hyn.2.1⟩ ⟨hzn.1,hzn.2.1⟩ (fun aU e12 hbad=>?_) (fun a path aU e12 v12 hpl=>?_)
    ·exfalso
     refine Aa fun nY=>?_
     rcases hbad with h|h|h
     ·refine nY ?_;clear nY
      exact hys h
     ·refine nY ?_;clear nY
      exact hzs h
     ·refine nY ?_;clear nY
      exact h hrch
    ·have v9':LI aU s2 [p]:=((e10.trans e11).trans e12) _ _ v9
     (try dsimp only)
     refine Ex v9' v12 (by simp;exact(Af (Nat.add_le_add_left (Af hpl hm) 1) (by decide))) ?_
     exact Ab fun rr aY e13 _ _=>qs rr aY ((eH7.trans e711).trans (e12.trans e13))
 ·rintro r8 r9 r10 al ⟨e6,hno⟩
  rw[Bk,List.take_of_length_le (Nat.le_refl _)]at hno
  refine qn al ((((e1.trans e2).trans t.ext).trans e5).trans e6) ?_
  rintro hP51
  refine Aa fun nY=>?_
  obtain⟨a,b,u,v,ha,hb,hu,hv,hpa,hpb,hab,hnab,hau,hbv,hus,hvs,hr⟩:=hP51
  have hpa':a∈Ao m A p.toNat:=A7.mpr ⟨ha.1,ha.2,hpa⟩
  have hpb':b∈Ao m A p.toNat:=A7.mpr ⟨hb.1,hb.2,hpb⟩
  obtain⟨L,hL⟩:=pk.lab u hus hu.1 hu.2
  have hLv:dget ep v=some (.int L):=by
   clear hbv hvs hv
   induction hr with
   | refl=>exact hL
   | step r ad s z0 z1 ih=>
     have hy:=r.in_ ⟨hus,hu⟩
     rw[<-pk.same _ _ hy.1 hy.2.1 hy.2.2 s z0 z1 ad];exact ih
  have haT:=lg.all a u L ⟨hpa',A7.mpr ⟨hu.1,hu.2,hau⟩⟩ hL
  have hbT:=lg.all b v L ⟨hpb',A7.mpr ⟨hv.1,hv.2,hbv⟩⟩ hLv
  have hLk:L∈es.map (·.1):=by
   cases hd:dget es L with
   | none=>rw[t.non L hd]at haT;simp at haT
   | some v=>
     have:(dget es L).isSome=true:=by rw[hd];rfl
     rw[Fd]at this
     simpa using this
  have hfn:=Wp.mp (hno L (Gy.mpr hLk))
  obtain⟨i,hi⟩:=List.mem_iff_getElem?.mp haT
  obtain⟨j,hj⟩:=List.mem_iff_getElem?.mp hbT
  obtain⟨hil,hi'⟩:=Da hi
  obtain⟨hjl,hj'⟩:=Da hj
  rcases Nat.lt_trichotomy i j with q|q|q
  ·have:=List.pairwise_iff_getElem.mp hfn i j hil hjl q
   rw[hi',hj',hnab]at this;cases this
  ·refine nY ?_;clear nY
   subst q;exact hab (hi'.symm.trans hj')
  ·have:=List.pairwise_iff_getElem.mp hfn j i hjl hil q
   rw[hi',hj',g.symm,hnab]at this;cases this
set_option linter.all false
noncomputable def Vd(A:Nat->Nat->Bool)(l:List Int):Prop:=∀a∈l,∀b∈l,a≠b->A a.toNat b.toNat=true
theorem Qi{A:Nat->Nat->Bool}{l:List Int}(g:Gr A)(hn:l.Nodup):fu A l=none↔Vd A l:=by
 rw[Wp]
 constructor
 ·intro h a ha b hb hab
  refine Aa fun nY=>?_
  obtain⟨i,hi,rfl⟩:=List.mem_iff_getElem.mp ha
  obtain⟨j,hj,rfl⟩:=List.mem_iff_getElem.mp hb
  rcases Nat.lt_trichotomy i j with q|q|q
  ·refine nY ?_;clear nY
   exact List.pairwise_iff_getElem.mp h i j hi hj q
  ·subst q;exact absurd rfl hab
  ·refine nY ?_;clear nY
   rw[g.symm];exact List.pairwise_iff_getElem.mp h j i hj hi q
 ·intro h
  rw[List.pairwise_iff_getElem]
  intro i j hi hj hij
  exact h _ (List.getElem_mem _) _ (List.getElem_mem _) (List.pairwise_iff_getElem.mp hn i j hi hj hij)
noncomputable def Sim(A:Nat->Nat->Bool)(U:List Int)(p:Int):Prop:=∀a∈U,∀b∈U,A p.toNat a.toNat=true->A p.toNat b.toNat=true->a≠b->A a.toNat b.toNat=true
theorem Qj{A:Nat->Nat->Bool}{U:List Int}{p:Int}(g:Gr A)(hn:U.Nodup):Fc A U p=true↔Sim A U p:=by
 unfold Fc Os
 rw[Option.isNone_iff_eq_none,Qi g (hn.filter _)]
 unfold Vd Sim
 constructor
 ·intro h a ha b hb h1 h2 hab
  exact h a (List.mem_filter.mpr ⟨ha,h1⟩) b (List.mem_filter.mpr ⟨hb,h2⟩) hab
 ·intro h a ha b hb hab
  have h1:=List.mem_filter.mp ha
  have h2:=List.mem_filter.mp hb
  exact h a h1.1 b h2.1 h1.2 h2.2 hab
inductive CU(A:Nat->Nat->Bool)(U:List Int)(p:Int):Int->Int->Prop where
 | refl (x:Int):CU A U p x x
 | step {x y z:Int}:CU A U p x y->A y.toNat z.toNat=true->z∈U->z≠p->A p.toNat z.toNat=false->CU A U p x z
theorem CU.trans{A:Nat->Nat->Bool}{U:List Int}{p x y z:Int}(h:CU A U p x y)(h':CU A U p y z):CU A U p x z:=by
 induction h' with
 | refl=>exact h
 | step _ a b c d ih=>exact .step ih a b c d
theorem CU.away{A:Nat->Nat->Bool}{U:List Int}{p x y:Int}(h:CU A U p x y)(hx:x∈U/\x≠p/\A p.toNat x.toNat=false):y∈U/\y≠p/\A p.toNat y.toNat=false:=by
 induction h with
 | refl=>exact hx
 | step _ a b c d _=>exact⟨b,c,d⟩
theorem CU.symm{A:Nat->Nat->Bool}{U:List Int}{p x y:Int}(g:Gr A)(h:CU A U p x y)(hx:x∈U/\x≠p/\A p.toNat x.toNat=false):CU A U p y x:=by
 induction h with
 | refl=>exact .refl _
 | step r a b c d ih=>
   have:=r.away hx
   exact(CU.step (.refl _) (by rw[g.symm];exact a) this.1 this.2.1 this.2.2).trans ih
theorem CU.mono{A:Nat->Nat->Bool}{U W:List Int}{p x y:Int}(hs:∀z∈U,z∈W)(h:CU A U p x y):CU A W p x y:=by
 induction h with
 | refl=>exact .refl _
 | step _ a b c d ih=>exact .step ih a (hs _ b) c d
noncomputable def NoR(A:Nat->Nat->Bool)(U:List Int):Prop:=∀p∈U,∀a∈U,∀b∈U,A p.toNat a.toNat=true->A p.toNat b.toNat=true->a≠b->A a.toNat b.toNat=false->∀u∈U,∀v∈U,
 A a.toNat u.toNat=true->A b.toNat v.toNat=true->u≠p->v≠p->A p.toNat u.toNat=false->A p.toNat v.toNat=false->¬CU A U p u v
theorem NoR.mono{A:Nat->Nat->Bool}{U W:List Int}(hs:∀z∈U,z∈W)(h:NoR A W):NoR A U:=
 fun p hp a ha b hb h1 h2 h3 h4 u hu v hv h5 h6 h7 h8 h9 h10 hc=>h p (hs p hp) a (hs a ha) b (hs b hb) h1 h2 h3 h4 u (hs u hu) v (hs v hv) h5 h6 h7 h8 h9 h10 (hc.mono hs)
theorem Ab7{A:Nat->Nat->Bool}{U:List Int}(hne:U≠[])(T:∀v∈U,(∃x∈U,x≠v/\A v.toNat x.toNat=false)->∃z∈U,z≠v/\A v.toNat z.toNat=false/\Sim A U z):∃z∈U,Sim A U z:=by
 refine Aa fun nY=>?_
 by_cases h:∃v∈U,∃x∈U,x≠v/\A v.toNat x.toNat=false
 ·obtain⟨v,hv,hx⟩:=h
  obtain⟨z,hz,_,_,hs⟩:=T v hv hx
  refine nY ?_;clear nY
  exact⟨z,hz,hs⟩
 ·obtain⟨z,hz⟩:=List.exists_mem_of_ne_nil U hne
  refine nY ?_;clear nY
  refine⟨z,hz,fun a ha b hb _ _ hab=>?_⟩
  cases hA:A a.toNat b.toNat with
  | true=>rfl
  | false=>exact absurd ⟨a,ha,b,hb,Ne.symm hab,hA⟩ h
theorem Yn{A:Nat->Nat->Bool}(g:Gr A):∀(n:Nat) (U:List Int),U.length<=n->NoR A U->∀v∈U,(∃x∈U,x≠v/\A v.toNat x.toNat=false)->∃z∈U,z≠v/\A v.toNat z.toNat=false/\Sim A U z:=by
 intro n
 induction n with
 | zero=>
   intro U hl _ v hv
   have:U = []:=List.length_eq_zero_iff.mp (Nat.eq_zero_of_le_zero hl)
   rw[this]at hv;cases hv
 | succ n ih=>
   rintro U hl hN v hv hP52
   refine Aa fun nY=>?_
   obtain⟨x,hx,hxv,hxa⟩:=hP52
   have hx0:x∈U/\x≠v/\A v.toNat x.toNat=false:=⟨hx,hxv,hxa⟩
   let inC:Int->Prop:=fun z=>CU A U v x z
   let inS:Int->Prop:=fun s=>A v.toNat s.toNat=true/\∃c,inC c/\A s.toNat c.toNat=true
   have cC:∀c,inC c->c∈U/\c≠v/\A v.toNat c.toNat=false:=fun c hc=>CU.away hc hx0
   let W:=U.filter fun z=> @decide (inC z\/inS z) (Classical.propDecidable _)
   let CC:=U.filter fun z=> @decide (inC z) (Classical.propDecidable _)
   have hWm:∀z,z∈W↔z∈U/\(inC z\/inS z):=fun z=>by simp[W]
   have hCm:∀z,z∈CC↔inC z:=fun z=>by
    simp only[CC,List.mem_filter,decide_eq_true_eq]
    exact⟨fun h=>h.2,fun h=>⟨(cC z h).1,h⟩⟩
   have hvW:¬(inC v\/inS v):=by
    rintro(h|h)
    ·exact(cC v h).2.1 rfl
    ·have:=h.1;rw[g.irr]at this;cases this
   have hWl:W.length<=n:=by
    have:W.length<U.length:=List.length_filter_lt_length_iff_exists.mpr ⟨v,hv,by simpa using hvW⟩
    exact Nat.le_of_lt_succ (Nat.lt_of_lt_of_le this hl)
   have hCl:CC.length<=n:=by
    have:CC.length<U.length:=List.length_filter_lt_length_iff_exists.mpr ⟨v,hv,by simpa using fun h=>hvW (.inl h)⟩
    exact Nat.le_of_lt_succ (Nat.lt_of_lt_of_le this hl)
   have hWN:NoR A W:=hN.mono fun z hz=>((hWm z).mp hz).1
   have hCN:NoR A CC:=hN.mono fun z hz=>(cC z ((hCm z).mp hz)).1
   have hSc:∀s∈U,∀s'∈U,inS s->inS s'->s≠s'->A s.toNat s'.toNat=true:=by
    rintro s hs s' hs' hP53 hP54 hne
    refine Aa fun nY=>?_
    obtain⟨h1,c,hc,h2⟩:=hP53
    obtain⟨h1',c',hc',h2'⟩:=hP54
    refine nY ?_;clear nY
    cases hA:A s.toNat s'.toNat with
    | true=>rfl
    | false=>
      exfalso
      have k:=cC c hc
      have k':=cC c' hc'
      exact hN v hv s hs s' hs' h1 h1' hne hA c k.1 c' k'.1 h2 h2' k.2.1 k'.2.1 k.2.2 k'.2.2 ((CU.symm g hc hx0).trans hc')
   have hcl:∀c,inC c->∀y∈U,A c.toNat y.toNat=true->y∈W:=by
    intro c hc y hy ha
    rw[hWm]
    refine⟨hy,?_⟩
    have k:=cC c hc
    refine Aa fun nY=>?_
    by_cases hyv:y=v
    ·subst hyv;rw[g.symm,k.2.2]at ha;cases ha
    ·refine nY ?_;clear nY
     cases hA:A v.toNat y.toNat with
     | true=>exact .inr ⟨hA,c,hc,by rw[g.symm];exact ha⟩
     | false=>exact .inl (CU.step hc ha hy hyv hA)
   have key:∃z,inC z/\Sim A W z:=by
    refine Aa fun nY=>?_
    by_cases h:∃s∈U,inS s/\∃y∈W,y≠s/\A s.toNat y.toNat=false
    ·obtain⟨s,hs,hsS,y,hy,hys,hya⟩:=h
     obtain⟨z,hz,hzs,hza,hsim⟩:=ih W hWl hWN s ((hWm s).mpr ⟨hs,.inr hsS⟩) ⟨y,hy,hys,hya⟩
     have hzW:=(hWm z).mp hz
     rcases hzW.2 with hc|hS
     ·refine nY ?_;clear nY
      exact⟨z,hc,hsim⟩
     ·have:=hSc s hs z hzW.1 hsS hS (Ne.symm hzs)
      rw[hza]at this;cases this
    ·have hcn:CC≠[]:=List.ne_nil_of_mem ((hCm x).mpr (.refl _))
     obtain⟨z,hz,hsim⟩:=Ab7 hcn (ih CC hCl hCN)
     have hzC:=(hCm z).mp hz
     have univ:∀s∈W,inS s->∀y∈W,y≠s->A s.toNat y.toNat=true:=fun s hs hsS y hy hys=>by
      cases hA:A s.toNat y.toNat with
      | true=>rfl
      | false=>exact absurd ⟨s,((hWm s).mp hs).1,hsS,y,hy,hys,hA⟩ h
     refine nY ?_;clear nY
     refine⟨z,hzC,fun a ha b hb h1 h2 hab=>?_⟩
     refine Aa fun nY=>?_
     rcases((hWm a).mp ha).2 with hac|haS
     ·rcases((hWm b).mp hb).2 with hbc|hbS
      ·refine nY ?_;clear nY
       exact hsim a ((hCm a).mpr hac) b ((hCm b).mpr hbc) h1 h2 hab
      ·refine nY ?_;clear nY
       rw[g.symm];exact univ b hb hbS a ha hab
     ·refine nY ?_;clear nY
      exact univ a ha haS b hb (Ne.symm hab)
   obtain⟨z,hzC,hsim⟩:=key
   have k:=cC z hzC
   refine nY ?_;clear nY
   refine⟨z,k.1,k.2.1,k.2.2,fun a ha b hb h1 h2 hab=>?_⟩
   exact hsim a (hcl z hzC a ha h1) b (hcl z hzC b hb h2) h1 h2 hab
theorem Aiq{m:Nat}{A:Nat->Nat->Bool}(g:Gr A){t:List Int}(hn:t.Nodup)(hin:∀x∈t,0<=x/\x<(m:Int))(hno:∀p∈t,¬Ro m A p)(hst:ltg A t=none):t = []:=by
 refine Classical.byContradiction fun hne=>?_
 have hN:NoR A t:=by
  intro p hp a ha b hb h1 h2 h3 h4 u hu v hv h5 h6 h7 h8 h9 h10 hc
  have out:∀z,z∈t->z≠p->A p.toNat z.toNat=false->z∉Ao m A p.toNat ++ [p]:=fun z hz hzp hza q=>by
   refine Aa fun nY=>?_
   rcases List.mem_append.mp q with q|q
   ·have:=A7.mp q;rw[hza]at this;cases this.2.2
   ·refine nY ?_;clear nY
    simp at q;exact hzp q
  refine hno p hp ⟨a,b,u,v,hin a ha,hin b hb,hin u hu,hin v hv,h1,h2,h3,h4,h5,h6,out u hu h7 h9,out v hv h8 h10,?_⟩
  clear h6 h8 h10 hv
  induction hc with
  | refl=>exact .refl _
  | step _ a1 a2 a3 a4 ih=>exact .step ih a1 (out _ a2 a3 a4) (hin _ a2).1 (hin _ a2).2
 refine Aa fun nY=>?_
 obtain⟨z,hz,hs⟩:=Ab7 hne (Yn g t.length t (Nat.le_refl _) hN)
 have:=List.find?_eq_none.mp hst z hz
 rw[(Qj g hn).mpr hs]at this
 refine nY ?_;clear nY
 exact this rfl
theorem Lj{A:Nat->Nat->Bool}(g:Gr A):∀(k:Nat) (gn t:List Int),t.Nodup->t.length<=k->(Jy fun g2 t'=>Vh (Bg A k gn t=(gn++g2,t')) ((g2++t').Perm t) (ltg A t'=none) (t'.Nodup) (∀(j:Nat) (p:Int),g2[j]? = some p->Vd A (Os A (g2.drop (j+1)++t') p))):=by
 intro k
 induction k with
 | zero=>
   intro gn t hn hl
   cases List.length_eq_zero_iff.mp (Nat.eq_zero_of_le_zero hl)
   exact⟨[],[],congrArg (·,[]) (List.append_nil gn).symm,.refl _,rfl,hn,fun _ _ h=>absurd h.symm (Option.some_ne_none _)⟩
 | succ k ih=>
   intro gn t hn hl
   cases e:ltg A t with
   | none=>exact⟨[],t,(Lh e).trans (congrArg (·,t) (List.append_nil gn).symm),.refl _,e,hn,fun _ _ h=>absurd h.symm (Option.some_ne_none _)⟩
   | some p=>
     have hp:=Ri e
     refine Aa fun nY=>?_
     obtain⟨g2,t',h1,h2,h3,h4,h5⟩:=ih (gn ++ [p]) (t.erase p) (hn.erase p) (Af (Nat.le_of_eq (List.length_erase_of_mem hp)) (Nat.sub_le_sub_right hl 1))
     refine nY ?_;clear nY
     refine⟨p::g2,t',(Lg e).trans (h1.trans (congrArg (·,t') (List.append_assoc gn [p] g2))),(h2.cons p).trans (List.perm_cons_erase hp).symm,h3,h4,fun j q hq=>?_⟩
     refine Aa fun nY=>?_
     cases j with
     | succ j=>(refine nY ?_;clear nY;exact h5 j q hq)
     | zero=>
       cases hq
       have hs:Sim A t p:=(Qj g hn).mp (List.find?_some e)
       refine nY ?_;clear nY
       intro a ha b hb hab
       have ha':=List.mem_filter.mp ha
       have hb':=List.mem_filter.mp hb
       exact hs a (List.mem_of_mem_erase (h2.mem_iff.mp ha'.1)) b (List.mem_of_mem_erase (h2.mem_iff.mp hb'.1)) ha'.2 hb'.2 hab
theorem Yo{m:Nat}{A:Nat->Nat->Bool}(g:Gr A)(h:(Bg A m [] (A0 m)).2 = []):Bj m (Bg A m [] (A0 m)).1/\Peo A (Bg A m [] (A0 m)).1:=by
 refine Aa fun nY=>?_
 obtain⟨g2,t',h1,h2,h3,h4,h5⟩:=Lj g m [] (A0 m) Cz (by rw[Cg];exact Nat.le_refl _)
 refine nY ?_;clear nY
 rw[h1]at h ⊢
 simp only[List.nil_append]at h h1 ⊢
 subst h
 rw[List.append_nil]at h2
 have hord:Bj m g2:=Ou (h2.nodup_iff.mpr Cz) fun x=>by rw[h2.mem_iff,Cu]
 refine⟨hord,fun p hp=>?_⟩
 obtain⟨j,hj⟩:=List.mem_iff_getElem?.mp hp
 rw[Aio hord.nodup hj]
 unfold Os
 rw[Qi g ((hord.nodup.sublist (List.drop_sublist _ _)).filter _)]
 have:=h5 j p hj
 rwa[List.append_nil]at this
set_option linter.all false
variable {G:A2} {n:Nat} {H H':AH} {Q:Ag} {E:EP} {C:CS} {ρ:Ak}
theorem Pm{m:Nat}{A:Nat->Nat->Bool}(g:Gr A):(Bg A m [] (A0 m)).2.Nodup/\(∀x∈(Bg A m [] (A0 m)).2,0<=x/\x<(m:Int))/\ltg A (Bg A m [] (A0 m)).2=none:=by
 refine Aa fun nY=>?_
 obtain⟨g2,t',h1,h2,h3,h4,_⟩:=Lj g m [] (A0 m) Cz (by rw[Cg];exact Nat.le_refl _)
 refine nY ?_;clear nY
 rw[h1]
 exact⟨h4,fun x hx=>Cu.mp (h2.mem_iff.mp (List.mem_append_right _ hx)),h3⟩
theorem Ve(F:Yl G){w m:Nat}{A:Nat->Nat->Bool}(g:Gr A)(hm:m<=60)(hW:C1 H w m A)
 (qn:∀H',Al H H'->(Bg A m [] (A0 m)).2 = []->Q .none H')
 (qs:∀a H',Al H H'->Q (.ref a) H'):Ae G (n+6) "long_ring" [.ref w] H Q E:=by
 have F1:=F.fns2.fns
 refine Aj F.longRing rfl ?_
 simp only[Ma,List.map,List.replicate,List.cons_append,List.nil_append]
 refine Ad (M8 ?_)
 simp only[Zb,Ze,Zf,Zn,Zq,Zu,Zv,Zy,Z0,Z1,Ai,C9,true_and,F1.taken]
 refine Wr F1 hW hm fun r a b ab e1 nr na nb hab hr hb ha=>?_
 (try dsimp only)
 refine Fz (x:= .ref a) hr (by decide) rfl (Aq ha ?_)
 refine Aa fun nY=>?_
 obtain⟨f1,f2,f3⟩:=Pm (m:=m) g
 refine nY ?_;clear nY
 generalize (Bg A m [] (A0 m)).2=t at *
 refine F0 (fun i r1 r2=>[some (.ref w),r1,r2]) (fun i r1 r2 ae=>(Al ab ae)/\(∀p∈t.take i,¬Ro m A p)) _ _ rfl ⟨Al.refl,fun _ h=>absurd h List.not_mem_nil⟩ ?_ ?_ ?_
 ·rintro i r1 r2 ae ⟨e,_⟩;exact ha.ext e
 ·rintro i v r1 r2 ae K hv ⟨e,hno⟩ hK
  obtain⟨p,hp,rfl⟩:=LI.at_ (a:=a) hv
  have hpr:=f2 p (List.mem_of_getElem? hp)
  have eH:=e1.trans e
  simp only[Zf,Zn,Zu,Zv,Zw,Z0,Z1,Ai,Am,B6,B7,C9,true_and,Ia,F.ringAt]
  refine Ab6 F g hm (hW.ext eH) hpr (fun ag e3 hn=>?_) (fun x ag e3=>?_)
  ·refine Bv ?_
   simp only[Zb,Zf,Zl,Zy,Z0,Z1,Zbi,Ch,Ai,Am]
   simp only[Bool.false_eq_true,if_false]
   refine hK _ _ _ ⟨e.trans e3,fun z hz=>?_⟩
   rw[List.take_add_one,hp]at hz
   refine Aa fun nY=>?_
   rcases List.mem_append.mp hz with hz|hz
   ·refine nY ?_;clear nY
    exact hno z hz
   ·refine nY ?_;clear nY
    simp at hz;rw[hz];exact hn
  ·refine Bv ?_
   simp only[Zb,Zf,Zl,Zy,Z0,Z1,Zbj,Ch,Ai,Am]
   simp only[if_true]
   exact qs x ag (eH.trans e3)
 ·rintro r1 r2 ae ⟨e,hno⟩
  rw[Bk,List.take_of_length_le (Nat.le_refl _)]at hno
  exact qn ae (e1.trans e) (Aiq g f1 f2 hno f3)
theorem Qk(hI:G.fn "Verdict.__init__" = some Du){o r c k:V}{many:Int}(q:∀v H',Al H H'->Q (.ref v) H') :
 ∀a d,H a=none->H d=none->a≠d->Ae G (n+1) (Dr .verdict) [.ref a,o,r,c,k,.int many] (upd (upd H d (.ns [])) a (.inst .verdict d)) (fun r H'=>r = .none/\Q (.ref a) H') E:=by
 intro a d ha hd had
 refine Aj hI rfl ?_
 simp only[Du,List.map,List.cons_append,List.nil_append]
 have h0:∀(ab:AH) (fs:List (C2×V)) (t:C2) (x:V),(Al H ab/\ab a=some (.inst .verdict d)/\ab d=some (.ns fs))->Al H (upd ab d (.ns (H0 fs t x)))/\upd ab d (.ns (H0 fs t x)) a=some (.inst .verdict d)/\upd ab d (.ns (H0 fs t x)) d=some (.ns (H0 fs t x)):=
  fun ab fs t x h=>⟨h.1.upd' hd,by rw[upd_ne had];exact h.2.1,Ac⟩
 have s0:Al H (upd (upd H d (.ns [])) a (.inst .verdict d))/\upd (upd H d (.ns [])) a (.inst .verdict d) a=some (.inst .verdict d)/\upd (upd H d (.ns [])) a (.inst .verdict d) d=some (.ns []):=
  ⟨(Al.upd hd).upd' ha,Ac,by rw[upd_ne (Ne.symm had),Ac]⟩
 generalize upd (upd H d (.ns [])) a (.inst .verdict d)=az at *
 have s1:=h0 _ _ .order o s0
 have s2:=h0 _ _ .ring r s1
 have s3:=h0 _ _ .crowd c s2
 have s4:=h0 _ _ .colours k s3
 have s5:=h0 _ _ .many (.int many) s4
 simp only[Z1,Z0,Bz,Zf,List.getElem?_cons_zero,List.getElem?_cons_succ]
 refine Fb s0.2.1 s0.2.2 (show (0:Nat)<10 by decide) ?_
 refine Fb s1.2.1 s1.2.2 (show (1:Nat)<10 by decide) ?_
 refine Fb s2.2.1 s2.2.2 (show (2:Nat)<10 by decide) ?_
 refine Fb s3.2.1 s3.2.2 (show (3:Nat)<10 by decide) ?_
 refine Fb s4.2.1 s4.2.2 (show (4:Nat)<10 by decide) ?_
 exact⟨trivial,q a _ s5.1⟩
theorem Ab8(F:Yl G){w m:Nat}{A:Nat->Nat->Bool}(g:Gr A)(hm:m<=60)(hW:C1 H w m A)(q:∀v H',Al H H'->Q v H'):Ae G (n+7) "judged" [.ref w] H Q E:=by
 have F2:=F.fns2
 have F1:=F2.fns
 refine Aj F.judged rfl ?_
 simp only[Sa,List.map,List.replicate,List.cons_append,List.nil_append]
 have hmk:(G.fn (Dr .verdict)).isSome=true:=by rw[show Dr .verdict=Str.ofString "Verdict.__init__" from rfl,F.init];rfl
 refine Ad (Cd (M6 ?_))
 refine⟨by rw[F.longRing];rfl,?_⟩
 simp only[Ze,Zf,Zn,Zq,Zs,Zu,Zv,Zw,Zy,Z0,Z1,Ai,B6,B7]
 refine Ve F g hm hW (fun ab e1 hnil=>?_) (fun x ab e1=>?_)
 rotate_left
 ·(try dsimp only)
  refine Bv ?_
  simp only[Zb,Zf,Zl,Zy,Z0,Z1,Zbj,Ch,Ai,Am,B6,B7]
  simp only[if_true]
  refine Y1 ?_
  refine⟨hmk,?_⟩
  simp only[Zb,Ze,Zf,Zu,Zv,Ai,Am]
  exact Qk F.init fun v ae e2=>q _ ae (e1.trans e2)
 (try dsimp only)
 obtain⟨ho,hp⟩:=Yo g hnil
 refine Bv ?_
 simp only[Zb,Zf,Zl,Zy,Z0,Z1,Zbi,Ch,Ai,Am,B6,B7]
 simp only[Bool.false_eq_true,if_false]
 refine⟨by rw[F1.taken];rfl,?_⟩
 refine Wr F1 (hW.ext e1) hm fun r a b ae e2 nr na nb hab hr hb ha=>?_
 (try dsimp only)
 refine Fz (x:= .ref b) hr (by decide) rfl ?_
 (try dsimp only)
 refine Ab fun gr ag e3 ngr vgr=>?_
 (try dsimp only)
 have hb3:=hb.ext e3
 have e13:=(e1.trans e2).trans e3
 generalize (Bg A m [] (A0 m)).1=lo at *
 refine M8 ?_
 simp only[Zf,Zn,Zu,Zv,Ai,Am,C9,true_and,F2.fullCrowds]
 refine Pi F2 hm (hW.ext e13) hb3 ho hp fun fa as ah md=>?_
 (try dsimp only)
 refine Aq md.at_ ?_
 have e14:=e13.trans md.ext
 have hb4:=hb3.ext md.ext
 refine D9 (fun i r4 c lc=>[some (.ref w),some .none,some (.ref b),some (.ref c),r4]) (fun i r4 c lc ak=>(Al ah ak)/\(LI ak c lc)) _ gr [] rfl ⟨Al.refl,md.ext _ _ vgr⟩ ?_ ?_ ?_
 ·rintro i r4 c lc ak ⟨e5,_⟩;exact e5 _ _ md.at_
 ·rintro i v r4 c lc ak K hv ⟨e5,hc5⟩ hK
  rw[List.getElem?_map]at hv
  refine Aa fun nY=>?_
  obtain⟨x,hx,rfl⟩:=Option.map_eq_some_iff.mp hv
  obtain⟨_,ri,hxr⟩:=md.lists x (List.mem_of_getElem? hx)
  replace hxr:=hxr.ext e5
  refine nY ?_;clear nY
  simp only[Mb,Z1,Z0,List.set_cons_succ,List.set_cons_zero]
  refine Bm (decide ((lc.length:Int)<ri.length)) (fun Q' h'=>?_) ?_
  ·simp only[Zf,Zl,Zo,Zu,Zv,Zba,Ai,Am,Cm hxr,Cm hc5]
   rw[Bk,Bk];exact h'
  split
  ·simp only[Zf,Zw,Z0,Z1,Ai,Am,B6,B7]
   exact hK _ x ri _ ⟨e5,hxr⟩
  ·simp only[Z0]
   exact hK _ c lc _ ⟨e5,hc5⟩
 ·rintro r4 c lc ak ⟨e5,hc5⟩
  refine Y1 ?_
  refine⟨hmk,?_⟩
  simp only[Zb,Zf,Zn,Zo,Zu,Zv,Ai,Am,C9,true_and,F2.coloured]
  have e15:=e14.trans e5
  refine Tp F2 hm (hW.ext e15) (hb4.ext e5) ho hp fun k al e6=>?_
  (try dsimp only)
  refine Ad7 (hc5.ext e6) ?_
  exact Qk F.init fun v au e7=>q _ au ((e15.trans e6).trans e7)
set_option linter.all false
variable {G:A2} {n:Nat} {H H':AH} {Q:Ag} {E:EP} {C:CS} {ρ:Ak}
noncomputable def Air(xs:List V):Int×Int:=match xs with
 | [.int i,.int j]=>(i,j)
 | _=>(0,0)
noncomputable def ctO(o:Option O):Int×Int:=match o with
 | some (.tuple xs)=>Air xs
 | _=>(0,0)
noncomputable def ct(H:AH)(x:Nat):Int×Int:=ctO (H x)
theorem Tr{x:Nat}{i j:Int}(h:H x=some (.tuple [.int i,.int j])):ct H x=(i,j):=by unfold ct;rw[h];rfl
noncomputable abbrev Rv(p:Int×Int):Nat:=100*p.1.toNat+p.2.toNat
noncomputable def Alp(H:AH)(x:Nat):Prop:=(Jy fun(i j:Nat)=>H x=some (.tuple [.int i,.int j])/\j<100)
theorem Wt{a:Nat}{ks:List Nat}(h:H a=some (.list (ks.map V.ref)))(hp:∀x∈ks,Alp H x)(nd:(ks.map fun x=>Rv (ct H x)).Nodup)
 (q:∀ks':List Nat,ks'.Perm ks->ks'.Pairwise (fun x y=>Rv (ct H x)<Rv (ct H y))->Au (.list (ks'.map V.ref)) H Q):Db .sorted [.ref a] H Q:=by
 delta Db;dsimp only;delta G1;dsimp only[M4,A1];rw[h];dsimp only
 cases ks with
 | nil=>exact⟨by decide,q [] (.refl _) .nil⟩
 | cons x r=>
   refine⟨x::r,fun x=>Rv (ct H x),rfl,fun y hy=>?_,nd,q⟩
   obtain⟨i,j,e,hj⟩:=hp y hy
   exact⟨i,j,e,hj,by show Rv (ct H y)=_;rw[Tr e];rfl⟩
theorem Ab9{p q r s:Nat}(h:100*p+r=100*q+s)(hr:r<100)(hs:s<100):r=s:=((Nat.mod_eq_of_lt hr).symm.trans ((Nat.mul_add_mod 100 p r).symm.trans (congrArg (· % 100) h))).trans ((Nat.mul_add_mod 100 q s).trans (Nat.mod_eq_of_lt hs))
theorem Wu(B:Iv G)(hG:G.fn "_law_keyed" = some Fq){ns:List Int}{m:Nat}(hm:m<=60)(q:∀a l H',Al H H'->H a=none->LI H' a l->l.Perm (A0 m)->Q (.ref a) H') :
 Ae G (n+2) "_law_keyed" [.script ns,.int m] H Q E:=by
 refine Aj hG rfl ?_
 simp only[Fq,List.map,List.replicate,List.cons_append,List.nil_append]
 refine Lf (fun(k:Nat) (ks:List Nat)=>[some (.script ns),some (.int m),some (.ref k)]) (fun(k:Nat) (ks:List Nat) ab=>O4 (Al H ab) (ab k=some (.list (ks.map V.ref))) (ks.length=m) (∀(i x:Nat),ks[i]? = some x->∃c:Nat,ab x=some (.tuple [.int c,.int (i:Int)]))) (fun N hN=>?_) ?_
 ·refine Cd (grK ?_)
  simp (disch:=first|decide|omega) only[Zf,Zu,Zv,Z2,Qd,Eg,Eh,Ai,Am,List.replicate,B6,B7]
  refine⟨by simp[Bp];exact W3 hm,?_⟩
  refine Cf (k:=0) (fun j acc ab=>(O2 fun(ks:List Nat)=>O4 (acc=ks.map V.ref) (Al H ab) (ks.length=j) (∀(i x:Nat),ks[i]? = some x->∃c:Nat,ab x=some (.tuple [.int c,.int (i:Int)])))) ⟨[],rfl,Al.refl,rfl,fun _ _ h=>absurd h.symm (Option.some_ne_none _)⟩ ?_ ?_
  ·rintro j x acc ab K' hx' hP55 hK'
   refine Aa fun nY=>?_
   obtain⟨ks,rfl,e,hl,hall⟩:=hP55
   rw[List.getElem?_map]at hx'
   obtain⟨j',hj,rfl⟩:=Option.map_eq_some_iff.mp hx'
   obtain⟨hlt,he⟩:=Da hj
   simp at hlt he
   subst he
   refine nY ?_;clear nY
   refine⟨trivial,_,rfl,?_⟩
   simp (disch:=first|decide|omega) only[Ze,Zf,Zk,Zn,Zt,Zu,Zv,Z4,Z6,Ai,Am,C9,true_and,Ib,Abf,B.cellAt,B.mixed]
   refine⟨.inl (by decide),?_⟩
   refine C6 B.cellAt (Int.natCast_nonneg _) ?_
   refine⟨.inl (by decide),?_⟩
   refine K8 B.mixed fun c c0 c1=>?_
   obtain⟨c,rfl⟩:=Int.eq_ofNat_of_zero_le c0
   refine Ab fun y ae e2 n2 v2=>hK' _ _ ⟨ks ++ [y],by simp,e.trans e2,by simp[hl],fun i z hz=>?_⟩
   refine Aa fun nY=>?_
   rcases Nat.lt_or_ge i ks.length with hlt'|hge
   ·rw[List.getElem?_append_left hlt']at hz
    obtain⟨c',hc'⟩:=hall i z hz
    refine nY ?_;clear nY
    exact⟨c',e2 _ _ hc'⟩
   ·have hi:=(Da hz).1
    simp at hi
    have hij:i=j:=((Nat.le_antisymm (Nat.le_of_lt_succ hi) hge).trans (hl.trans (Nat.zero_add _)))
    subst hij
    rw[List.getElem?_append_right hge,show i-ks.length=0 by exact Ajy hl]at hz
    simp at hz
    subst hz
    refine nY ?_;clear nY
    exact⟨c,v2⟩
  ·rintro acc ab hP56
   refine Aa fun nY=>?_
   obtain⟨ks,rfl,e,hl,hall⟩:=hP56
   refine nY ?_;clear nY
   refine⟨trivial,?_⟩
   refine Ab fun k ae e2 n2 v2=>hN k ks _ ⟨e.trans e2,v2,by simpa using hl,fun i x hx=>?_⟩
   obtain⟨c,hc⟩:=hall i x hx
   exact⟨c,e2 _ _ hc⟩
 rintro k ks ab hP57
 refine Aa fun nY=>?_
 obtain⟨e,hk,hl,hall⟩:=hP57
 refine nY ?_;clear nY
 refine Ad (Nk (gvK ?_))
 simp only[Zf,Zo,Zu,Zv,Z2,Eg,Eh,Ai,Am,List.replicate]
 have hat:∀(i x:Nat),ks[i]? = some x->∃c:Nat,ct ab x=((c:Int),(i:Int)):=fun i x hx=>by
  obtain⟨c,hc⟩:=hall i x hx
  exact⟨c,Tr hc⟩
 refine Wt hk (fun x hx=>?_) ?_ fun ks' hperm _=>?_
 ·refine Aa fun nY=>?_
  obtain⟨i,hi⟩:=List.mem_iff_getElem?.mp hx
  obtain⟨c,hc⟩:=hall i x hi
  refine nY ?_;clear nY
  exact⟨c,i,hc,by have:=(Da hi).1;exact(Nat.lt_of_lt_of_le (hl▸this) (Af hm (by decide)))⟩
 ·rw[List.nodup_iff_pairwise_ne,List.pairwise_map]
  refine List.pairwise_iff_getElem.mpr fun i j hi hj hij e=>?_
  refine Aa fun nY=>?_
  obtain⟨c,h1⟩:=hat i _ (List.getElem?_eq_getElem hi)
  obtain⟨c',h2⟩:=hat j _ (List.getElem?_eq_getElem hj)
  rw[h1,h2]at e
  refine nY ?_;clear nY
  exact Nat.ne_of_lt hij (Ab9 (p:=c) (q:=c') e (Nat.lt_of_lt_of_le (Nat.lt_trans hij (hl▸hj)) (Af hm (by decide))) (Nat.lt_of_lt_of_le (hl▸hj) (Af hm (by decide))))
 refine Ab fun s ae e2 n2 v2=>?_
 (try dsimp only)
 refine Aq v2 ?_
 have hall2:∀(i x:Nat),ks[i]? = some x->∃c:Nat,ae x=some (.tuple [.int c,.int (i:Int)]):=fun i x hx=>by
  obtain⟨c,hc⟩:=hall i x hx
  exact⟨c,e2 _ _ hc⟩
 refine⟨by simp[Bp,hperm.length_eq,hl];exact W3 hm,E8 (f:=fun v=>match v with | .ref x=>some (.int (ct ae x).2)|_=>none) v2 (fun v hv K hK=>?_) ?_⟩
 ·refine Aa fun nY=>?_
  obtain⟨x,hx,rfl⟩:=List.mem_map.mp hv
  obtain⟨i,hi⟩:=List.mem_iff_getElem?.mp (hperm.mem_iff.mp hx)
  obtain⟨c,hc⟩:=hall2 i x hi
  have hK:K (some (.int (ct ae x).2)) ae:=hK
  rw[Tr hc]at hK
  refine nY ?_;clear nY
  simp only[Ze,Zf,Zq,Ai,Ic,Iw (x:= .int i) (k:=1) hc (by decide) rfl]
  exact hK
 ·have e1:(ks'.map V.ref).filterMap (fun v=>match v with | .ref x=>some (V.int (ct ae x).2)|_=>none)=(ks'.map fun x=>(ct ae x).2).map V.int:=by
   rw[List.filterMap_map,List.map_map,<-List.filterMap_eq_map]
   rfl
  rw[e1]
  refine Ab fun a ag e3 n3 v3=>q a _ ag ((e.trans e2).trans e3) ((e.trans e2).isNone n3) v3 ?_
  have e4:(ks.map fun x=>(ct ae x).2)=A0 m:=by
   unfold A0 M2
   refine List.ext_getElem (by simp[hl]) fun i h1 h2=>?_
   have hi:i<ks.length:=by simpa using h1
   obtain⟨c,hc⟩:=hall2 i ks[i] (List.getElem?_eq_getElem hi)
   simp[Tr hc]
  rw[<-e4]
  exact hperm.map _
theorem Ts(hG:G.fn "_law_behind" = some Ep){a z r i:Nat}{rs:List V}{lp o:List Int}{p:Int}(hl:o.length<=60)(hN:H a=some (.list rs))(hr:rs[p.toNat]? = some (.ref z))(hz:LI H z lp)(hL:LI H r o)(hp:0<=p)(hi:o[i]? = some p)
 (q:∀s H',Al H H'->H s=none->LI H' s ((o.drop (i+1)).filter fun y=>decide (y∈lp))->Q (.ref s) H'):Ae G (n+1) "_law_behind" [.ref a,.ref r,.int (i:Int)] H Q E:=by
 refine Aj hG rfl ?_
 simp only[Ep,List.map,List.cons_append,List.nil_append]
 refine Ad (Nk (hvK ?_))
 simp only[Zc,Ze,Zf,Zk,Zr,Z2,Z6,Eg,Eh,Ai,Am,List.replicate]
 (refine Ct hL Hw Gd ?_;rw[Lw W8])
 refine Ab fun s ab e1 _ v1=>?_
 rw[show ((i:Int)+1).toNat=i+1 by exact W9,<-List.map_drop]at v1
 refine Aq v1 ?_
 have hL1:=hL.ext e1
 refine⟨by simp[Bp];exact Ahm hl,Eb (p:=fun y=>decide (y∈lp)) v1 (fun y hy K' hK'=>?_) ?_⟩
 ·simp only[Zf,Zl,Zq,Ch,Ai,Am,Hr,A9 hL1 (Int.natCast_nonneg i) (LI.sub (a:=r) hi),A9 (e1 _ _ hN) hp hr,Abn (hz.ext e1)]
  split
  ·rename_i h;rw[if_pos h]at hK';exact hK'
  ·rename_i h;rw[if_neg h]at hK';exact hK'
 exact Ab fun s2 ae e2 n2 v2=>q s2 ae (e1.trans e2) (e1.isNone n2) v2
variable {w m r nr a b:Nat} {A:Nat->Nat->Bool} {o l l':List Int} {k far:Int}
theorem Ais{p:Int}(hL:LI H r o)(hp:0<=p)(q:∀a H',Al H H'->H a=none->LI H' a (o.take p.toNat)->Q (.ref a) H'):C8 (.ref r) .none (.int p) .none H Q:=by
 (refine Ct hL Gd Hw ?_;rw[Rd hp,<-List.map_take])
 exact Ab fun a ab e1 n1 v1=>q a ab e1 n1 v1
theorem Ait(h:LI H a l)(h':LI H b l')(hl:l.length+l'.length<=1000)(q:∀c H',Al H H'->H c=none->LI H' c (l++l')->Q (.ref c) H'):Ek .Add (.ref a) (.ref b) H Q:=by
 refine Ex h h' (by rw[Bk,Bk];exact(Af hl (by decide))) ?_
 refine Ab fun c ab e1 n1 v1=>q c ab e1 n1 ?_
 unfold LI
 rw[v1,List.map_append]
theorem Agu{xs:List V}(h:H a=some (.list xs)):C8 (.ref a) .none (.int 0) (.int (-1)) H Q=Au (.list (xs.drop 1).reverse) H Q:=by
 show Gh (H a) (fun xs=>none=(none:Option Int)/\(-1:Int) = -1/\(0:Int)=0/\Au (.list (xs.drop 1).reverse) H Q)=_
 rw[h];exact propext ⟨fun q=>q.2.2.2,fun q=>⟨rfl,rfl,rfl,q⟩⟩
theorem Aet{xs:List V}(h:H a=some (.list xs))(kk:Au (.list (xs.drop 1).reverse) H Q):C8 (.ref a) .none (.int 0) (.int (-1)) H Q:=Eq.mpr (Agu h) kk
theorem Aca(hG:G.fn "_law_within" = some G6)(hL:LI H r o)(hl:o.length<=60)
 (q:∀a l H',Al H H'->H a=none->LI H' a l->l.Perm o->Q (.ref a) H'):Ae G (n+1) "_law_within" [.ref r,.int k] H Q E:=by
 refine Aj hG rfl ?_
 simp only[G6,List.map,List.replicate,List.cons_append,List.nil_append]
 refine Ad ?_
 refine Bm (decide (k%2=0)||decide ((o.length:Int)<4)) (fun Q' h'=>?_) ?_
 ·simp (disch:=first|decide|omega) only[Ze,Zf,Zj,Zk,Zl,Zo,Zu,Zv,Z4,Z8,X2,Ch,Ai,Am,Cm hL]
  rw[Bk]
  split
  ·rename_i h;rw[h,Bool.true_or]at h';exact h'
  ·rename_i h;rw[Bool.not_eq_true]at h;rw[h,Bool.false_or]at h';exact h'
 refine Aa fun nY=>?_
 by_cases hh:(decide (k%2=0)||decide ((o.length:Int)<4))=true
 ·refine nY ?_;clear nY
  rw[if_pos hh,Z1]
  simp only[Zc,Ze,Zf,Zh,Zk,Zo,Zr,Zu,Zv,Zw,Zy,Z0,Z1,Ai]
  refine Abt hL ?_
  refine Ab fun a ab e1 n1 v1=>q a o.reverse ab e1 n1 (by unfold LI;rw[v1,List.map_reverse]) (List.reverse_perm o)
 refine nY ?_;clear nY
 rw[if_neg hh,Z0]
 have hlen:4<=o.length:=by
  have:=hh
  simp at this
  exact Int.ofNat_lt.mp this.2
 refine Df (fun f=>[some (.ref r),some (.int k),some (.ref f),none,none]) (fun f ab=>Fe (Al H ab) (H f=none) (LI ab f o)) (fun N hN=>?_) ?_
 ·simp only[Zf,Zo,Zu,Zv,Zw,Ai,B6,B7,Le hL]
  exact Ab fun a ab e1 n1 v1=>hN a _ ⟨e1,n1,v1⟩
 rintro f ab hP58
 refine Aa fun nY=>?_
 obtain⟨e1,nf,hf⟩:=hP58
 have hL1:=hL.ext e1
 have hrf:r≠f:=fun z=>by unfold LI at hL;rw[z,nf]at hL;cases hL
 have hmod:∀x:Int,0<=x%((o.length:Int)-2)/\x%((o.length:Int)-2)<(o.length:Int)-2:=fun x=>⟨Int.emod_nonneg _ (Int.ne_of_gt (Int.sub_pos_of_lt (Int.lt_of_lt_of_le (by decide) (Int.ofNat_le.mpr hlen)))),Int.emod_lt_of_pos _ (Int.sub_pos_of_lt (Int.lt_of_lt_of_le (by decide) (Int.ofNat_le.mpr hlen)))⟩
 refine nY ?_;clear nY
 refine Df (fun(x:Int)=>[some (.ref r),some (.int k),some (.ref f),some (.int x),none]) (fun(x:Int) ae=>Fe (ab=ae) (0<=x) (x<(o.length:Int))) (fun N hN=>?_) ?_
 ·simp (disch:=first|decide|omega) only[Ze,Zf,Zk,Zo,Zu,Zv,Zw,Z5,Z7,Ai,Am,B6,B7,Cm hL1]
  rw[Bk]
  simp (disch:=first|decide|omega) only[Z4,Z6]
  exact hN _ _ ⟨rfl,by have:=hmod (k/2);exact(Int.add_nonneg (by decide) this.1),by have:=hmod (k/2);exact(Int.lt_of_lt_of_le (Int.add_lt_add_left this.2 1) qa2)⟩
 rintro x _ hP59
 refine Aa fun nY=>?_
 obtain⟨rfl,x0,x1⟩:=hP59
 refine nY ?_;clear nY
 refine Df (fun(y:Int)=>[some (.ref r),some (.int k),some (.ref f),some (.int x),some (.int y)]) (fun(y:Int) ae=>Fe (ab=ae) (0<=y) (y<(o.length:Int))) (fun N hN=>?_) ?_
 ·simp (disch:=first|decide|omega) only[Ze,Zf,Zk,Zo,Zu,Zv,Zw,Z5,Z7,Ai,Am,B6,B7,Cm hL1]
  rw[Bk]
  simp (disch:=first|decide|omega) only[Z4,Z6]
  exact hN _ _ ⟨rfl,by have:=hmod (k/122);exact(Int.add_nonneg (by decide) this.1),by have:=hmod (k/122);exact(Int.lt_of_lt_of_le (Int.add_lt_add_left this.2 1) qa2)⟩
 rintro y _ hP60
 refine Aa fun nY=>?_
 obtain⟨rfl,y0,y1⟩:=hP60
 have hsw:=List.set_set_perm (as:=o) (i:=x.toNat) (j:=y.toNat) (W6 x1 y0 y1) (Q10 y0 y1)
 have hx:=List.getElem?_eq_getElem (show x.toNat<o.length by exact W6 x1 y0 y1)
 have hy:=List.getElem?_eq_getElem (show y.toNat<o.length by exact Q10 y0 y1)
 refine nY ?_;clear nY
 generalize o[x.toNat]=ox at hx hsw
 generalize o[y.toNat]=oy at hy hsw
 have hx':(o.map V.int)[x.toNat]? = some (.int ox):=by rw[List.getElem?_map,hx];rfl
 have hy':(o.map V.int)[y.toNat]? = some (.int oy):=by rw[List.getElem?_map,hy];rfl
 refine Ad (Ds ?_)
 simp only[Zf,Zq,Zy,Z0,Z1,Ai,Am,A9 hL1 y0 hy',Rh hf x0 x1]
 have hL2:LI (upd ab f (.list ((o.set x.toNat oy).map V.int))) r o:=by unfold LI;rw[upd_ne hrf];exact hL1
 have hf2:LI (upd ab f (.list ((o.set x.toNat oy).map V.int))) f (o.set x.toNat oy):=Ac
 refine Ds ?_
 simp only[Zf,Zq,Ai,Am,A9 hL2 x0 hx',Rh hf2 y0 (show y<((o.set x.toNat oy).length:Int) by rw[List.length_set];exact y1)]
 exact q f _ _ ((e1.upd' nf).upd' nf) nf Ac hsw
set_option linter.all false
variable {G:A2} {n:Nat} {H H':AH} {Q:Ag} {E:EP} {C:CS} {ρ:Ak} {a m:Nat} {A:Nat->Nat->Bool} {o l:List Int}
theorem Ox(h:l.Perm (A0 m)):Bj m l:=Ou (h.nodup_iff.mpr Cz) fun x=>by rw[h.mem_iff,Cu]
theorem Aeu(B:Iv G)(hK:G.fn "_law_keyed" = some Fq)(hU:G.fn "_law_untied" = some Dk)(hF:G.fn "_law_free" = some G7)(hG:G.fn "_law_order" = some E2){ns:List Int}(hm:m<=60)(hN:Ea H a m A)
 (q0:∀H',Al H H'->Q .none H') (q1:∀b o H',Al H H'->H b=none->LI H' b o->Bj m o->Q (.ref b) H'):Ae G (n+3) "_law_order" [.script ns,.ref a] H Q E:=by
 refine Aa fun nY=>?_
 obtain⟨as,n1,n2,n3⟩:=hN
 have hN:Ea H a m A:=⟨as,n1,n2,n3⟩
 have hlen:(as.map V.ref).length=m:=by rw[Bk,n2]
 refine nY ?_;clear nY
 refine Aj hG rfl ?_
 simp only[E2,List.map,List.replicate,List.cons_append,List.nil_append]
 refine Lf (fun th t=>[some (.script ns),some (.ref a),some (.ref th),none,none,none]) (fun th t ab=>O4 (Al H ab) (H th=none) (LI ab th t) (t.Perm (A0 m))) (fun N hN'=>?_) ?_
 ·simp only[Zf,Zn,Zo,Zu,Zv,Zw,Ai,Am,B6,B7,C9,true_and,hK,Cm n1]
  rw[hlen]
  exact Wu B hK hm fun th t ab e1 n1 v1 hp=>hN' th t _ ⟨e1,n1,v1,hp⟩
 rintro th t ab hP61
 refine Aa fun nY=>?_
 obtain⟨e1,nt,vt,hperm⟩:=hP61
 refine nY ?_;clear nY
 refine Df (fun od=>[some (.script ns),some (.ref a),some (.ref th),some (.ref od),none,none]) (fun od ae=>Vh (Al H ae) (H od=none) (th≠od) (LI ae th t) (LI ae od [])) (fun N hN'=>?_) ?_
 ·simp only[Zs,Zu,Zw,B6,B7]
  exact Ab fun od ae e2 n2 v2=>hN' od _ ⟨e1.trans e2,e1.isNone n2,vt.ne_none n2,vt.ext e2,v2⟩
 rintro od ae hP62
 refine Aa fun nY=>?_
 obtain⟨e2,no,hto,vt2,vo2⟩:=hP62
 refine nY ?_;clear nY
 refine Ad (T8 ?_)
 simp (disch:=first|decide|omega) only[Zf,Zo,Zu,Zv,Zy,Z0,Z1,Qd,Ai,Am,Cm (e2 _ _ n1)]
 (try refine Gw (by(first|lia|omega)) (by rw[hlen];(first|lia|omega)) ?_)
 rw[hlen]
 refine Gc (fun i r4 r5 g t=>[some (.script ns),some (.ref a),some (.ref th),some (.ref od),r4,r5]) (fun i r4 r5 g t ag=>Vh (Al H ag) (LI ag od g) (LI ag th t) (g.length=i) ((g++t).Perm (A0 m))) _ _ [] t rfl ⟨e2,vo2,vt2,rfl,hperm⟩ ?_ ?_
 ·rintro i r4 r5 g t ag K hi hP63 hK'
  refine Aa fun nY=>?_
  obtain⟨e3,ho,ht,hgl,hp⟩:=hP63
  have hi':i<m:=hi
  have htl:=hp.length_eq
  rw[List.length_append,Cg]at htl
  have hin:∀x∈t,0<=x/\x<(m:Int):=fun x hx=>Cu.mp (hp.mem_iff.mp (List.mem_append_right _ hx))
  refine nY ?_;clear nY
  simp only[Zf,Zn,Zu,Zv,Zw,Zx,Z0,Z1,Ai,Am,B6,B7,C9,true_and,Fs,hF]
  refine X9 hU hF (hN.ext e3) ht hin (Af (Nat.le_add_left _ _) (Af (Nat.le_of_eq htl) hm)) fun ah e4=>?_
  have ho4:=ho.ext e4
  have ht4:=ht.ext e4
  (try dsimp only)
  cases hl:ltg A t with
  | none=>
    refine Bv ?_
    simp only[Zb,Ze,Zf,Zl,Zy,Z0,Z1,Z8,Ch,Ai,Am,Option.getD_none]
    simp only[show decide ((-1:Int)<0)=true by decide,if_true]
    exact q0 _ (e3.trans e4)
  | some p=>
    have hpm:=Ri hl
    have hpr:=hin p hpm
    refine Bv ?_
    simp only[Zb,Ze,Zf,Zl,Zy,Z0,Z1,Z8,Ch,Ai,Am,Option.getD_some]
    simp only[show decide (p<(0:Int))=false by simp;exact hpr.1,Bool.false_eq_true,if_false]
    have hbl:(g.map V.int).length<1048576:=by rw[Bk];exact Nat.lt_of_le_of_lt (Af (Nat.le_add_right _ _) (Af (Nat.le_of_eq htl) hm)) (by decide)
    have ht5:LI (upd ah od (.list (g.map V.int ++ [.int p]))) th t:=ht4.upd_ne hto
    simp (disch:=first|decide|omega) only[Zf,Zu,Zv,Ai,Am,true_and,Bo,A8 ho4,Bq ho4 hbl,A8 ht5,Tl ht5 hpm]
    refine hK' _ _ (g ++ [p]) (t.erase p) _ ⟨((e3.trans e4).upd' no).upd' nt,LI.upd_ne (by unfold LI;rw[Ac];simp) (Ne.symm hto),Ac,by simp[hgl],?_⟩
    rw[List.append_assoc]
    exact(List.Perm.append_left g (List.perm_cons_erase hpm).symm).trans hp
 ·rintro r4 r5 g t ag hP64
  refine Aa fun nY=>?_
  obtain⟨e3,ho,ht,hgl,hp⟩:=hP64
  rw[Int.toNat_natCast]at hgl
  have htl:=hp.length_eq
  rw[List.length_append,Cg]at htl
  refine nY ?_;clear nY
  cases List.length_eq_zero_iff.mp (show t.length=0 by exact Ajz hgl htl)
  rw[List.append_nil]at hp
  try simp only[Ai,Am]
  exact q1 od _ ag e3 no ho (Ox hp)
set_option linter.all false
/-! what filled puts:in plain words -/
noncomputable abbrev Rl:=Int->Int->Prop
noncomputable def elim:Rl->List Int->Rl
 | B,[]=>B
 | B,p::r=>elim (fun x y=>B x y\/(x≠y/\(x∈r/\B p x)/\(y∈r/\B p y))) r
theorem Yp{B B':Rl}{p:Int}{r:List Int}(h:∀x y,B' x y↔B x y\/(x≠y/\(x∈r/\B p x)/\(y∈r/\B p y))):elim B' r=elim B (p::r):=by
 have:B'=fun x y=>B x y\/(x≠y/\(x∈r/\B p x)/\(y∈r/\B p y)):=funext fun x=>funext fun y=>propext (h x y)
 rw[this];rfl
variable {m:Nat} {A:Nat->Nat->Bool} {B aw:Rl} {ps:List (Int×Int)} {x y:Int} {l:List Int}
noncomputable def Hl(m:Nat)(A:Nat->Nat->Bool):Rl:=fun x y=>(0<=x/\x<(m:Int))/\(0<=y/\y<(m:Int))/\A x.toNat y.toNat=true
structure PB(m:Nat)(A:Nat->Nat->Bool)(B:Rl)(ps:List (Int×Int)):Prop where
 sym:∀x y,B x y->B y x
 inn:∀x y,B x y->(0<=x/\x<(m:Int))/\(0<=y/\y<(m:Int))/\x≠y
 sub:∀x y,Hl m A x y->B x y
 put:∀p:Int×Int,p∈ps↔p.1<p.2/\B p.1 p.2/\¬Hl m A p.1 p.2
 nd:ps.Nodup
noncomputable def Rp(B:Rl)(x y:Int):Rl:=fun u v=>B u v\/(u=x/\v=y)\/(u=y/\v=x)
theorem PB.add(h:PB m A B ps)(hx:0<=x/\x<(m:Int))(hy:0<=y/\y<(m:Int))(hlt:x<y)(hn:¬B x y):PB m A (Rp B x y) (ps ++ [(x,y)]):=by
 refine⟨fun u v q=>?_,fun u v q=>?_,fun u v q=> .inl (h.sub u v q),fun p=>?_,?_⟩
 ·rcases q with q|q|q
  ·exact .inl (h.sym u v q)
  ·exact .inr (.inr ⟨q.2,q.1⟩)
  ·exact .inr (.inl ⟨q.2,q.1⟩)
 ·rcases q with q | ⟨rfl,rfl⟩ | ⟨rfl,rfl⟩
  ·exact h.inn u v q
  ·exact⟨hx,hy,(Int.ne_of_lt hlt)⟩
  ·exact⟨hy,hx,(Int.ne_of_gt hlt)⟩
 ·rw[List.mem_append,List.mem_singleton,h.put]
  constructor
  ·rintro(⟨q1,q2,q3⟩|rfl)
   ·exact⟨q1,.inl q2,q3⟩
   ·exact⟨hlt,.inr (.inl ⟨rfl,rfl⟩),fun q=>hn (h.sub _ _ q)⟩
  ·rintro⟨q1,q2 | ⟨q2,q3⟩ | ⟨q2,q3⟩,q4⟩
   ·exact .inl ⟨q1,q2,q4⟩
   ·exact .inr (Prod.ext q2 q3)
   ·exact(Int.lt_irrefl _ (Int.lt_trans hlt (q3▸q2▸q1))).elim
 ·refine List.nodup_append.mpr ⟨h.nd,List.pairwise_singleton _ _,fun p hp q hq e=>?_⟩
  rw[List.mem_singleton.mp hq]at e
  subst e
  exact hn ((h.put _).mp hp).2.1
theorem Yq:Rp B x y=Rp B y x:=funext fun u=>funext fun v=>propext ⟨fun q=>q.imp_right Or.symm,fun q=>q.imp_right Or.symm⟩
structure Mid(aw B:Rl)(l:List Int):Prop where
 up:∀u v,aw u v->B u v
 lo:∀u v,B u v->aw u v\/(u≠v/\u∈l/\v∈l)
theorem Mid.refl:Mid B B l:=⟨fun _ _ h=>h,fun _ _ h=> .inl h⟩
theorem Mid.add(h:Mid aw B l)(hx:x∈l)(hy:y∈l)(hne:x≠y):Mid aw (Rp B x y) l:=⟨fun u v q=> .inl (h.up u v q),fun u v q=>by
 rcases q with q | ⟨rfl,rfl⟩ | ⟨rfl,rfl⟩
 ·exact h.lo u v q
 ·exact .inr ⟨hne,hx,hy⟩
 ·exact .inr ⟨Ne.symm hne,hy,hx⟩⟩
theorem Agv{p q:Int×Int}(h1:0<=p.1/\0<=p.2/\p.2<100)(h2:0<=q.1/\0<=q.2/\q.2<100)(h:Rv p=Rv q):p=q:=by
 obtain⟨p1,p2⟩:=p
 obtain⟨q1,q2⟩:=q
 obtain⟨a,b,c⟩:=h1
 obtain⟨d,e,f⟩:=h2
 obtain⟨i,rfl⟩:=Int.eq_ofNat_of_zero_le a
 obtain⟨j,rfl⟩:=Int.eq_ofNat_of_zero_le b
 obtain⟨k,rfl⟩:=Int.eq_ofNat_of_zero_le d
 obtain⟨l,rfl⟩:=Int.eq_ofNat_of_zero_le e
 have h:100*i+j=100*k+l:=h
 cases Ab9 h (Int.ofNat_lt.mp c) (Int.ofNat_lt.mp f)
 cases Nat.eq_of_mul_eq_mul_left (by decide) (Nat.add_right_cancel h)
 rfl
theorem PB.rng(h:PB m A B ps)(hm:m<=60){p:Int×Int}(hp:p∈ps):(0<=p.1/\p.1<60)/\0<=p.2/\p.2<60:=by
 have:=h.inn _ _ ((h.put p).mp hp).2.1
 exact⟨⟨this.1.1,Int.lt_of_lt_of_le this.1.2 (Int.ofNat_le.mpr hm)⟩,this.2.1.1,Int.lt_of_lt_of_le this.2.1.2 (Int.ofNat_le.mpr hm)⟩
theorem PB.ranks(h:PB m A B ps)(hm:m<=60):(ps.map Rv).Nodup:=by
 rw[List.nodup_iff_pairwise_ne,List.pairwise_map]
 refine h.nd.imp_of_mem fun {p q} hp hq hne e=>hne (Agv ?_ ?_ e)
 ·have:=h.rng hm hp;exact⟨this.1.1,this.2.1,Int.lt_trans this.2.2 (by decide)⟩
 ·have:=h.rng hm hq;exact⟨this.1.1,this.2.1,Int.lt_trans this.2.2 (by decide)⟩
theorem PB.len(h:PB m A B ps)(hm:m<=60):ps.length<=6000:=by
 have:((ps.map Rv).map fun(k:Nat)=>(k:Int)).length<=6000:=Ei (m:=6000) ?_ ?_
 ·simpa using this
 ·rw[List.nodup_iff_pairwise_ne,List.pairwise_map]
  exact(h.ranks hm).imp fun hne e=>hne (Int.ofNat_inj.mp e)
 ·intro z hz
  obtain⟨k,hk,rfl⟩:=List.mem_map.mp hz
  obtain⟨p,hp,rfl⟩:=List.mem_map.mp hk
  have:=h.rng hm hp
  show 0<=((100*p.1.toNat+p.2.toNat:Nat):Int)/\((100*p.1.toNat+p.2.toNat:Nat):Int)<_
  exact⟨Int.natCast_nonneg _,Int.ofNat_lt.mpr (Nat.lt_of_le_of_lt (Nat.add_le_add (Nat.mul_le_mul_left 100 (Int.toNat_le_toNat (Int.le_of_lt_add_one this.1.2:_<=(59:Int)))) (Int.toNat_le_toNat (Int.le_of_lt_add_one this.2.2:_<=(59:Int)))) (by decide))⟩
theorem Wv:∀ {l l':List (Int×Int)},l.Pairwise (fun p q=>Rv p<Rv q)->l'.Pairwise (fun p q=>Rv p<Rv q)->(∀p,p∈l↔p∈l')->l=l'
 | [],[],_,_,_=>rfl
 | [],y::t',_,_,h=>absurd ((h y).mpr (.head _)) List.not_mem_nil
 | x::t,[],_,_,h=>absurd ((h x).mp (.head _)) List.not_mem_nil
 | x::t,y::t',h1,h2,h=>by
   obtain⟨a1,a2⟩:=List.pairwise_cons.mp h1
   obtain⟨b1,b2⟩:=List.pairwise_cons.mp h2
   have e:x=y:=by
    rcases List.mem_cons.mp ((h x).mp (.head _))with e|e
    ·exact e
    ·rcases List.mem_cons.mp ((h y).mpr (.head _))with e'|e'
     ·exact e'.symm
     ·exact absurd (a1 y e') (Nat.lt_asymm (b1 x e))
   subst e
   rw[Wv a2 b2 fun p=>?_]
   have n1:x∉t:=fun q=>Nat.lt_irrefl _ (a1 x q)
   have n2:x∉t':=fun q=>Nat.lt_irrefl _ (b1 x q)
   have:=h p
   rw[List.mem_cons,List.mem_cons]at this
   constructor
   ·intro q
    rcases this.mp (.inr q)with rfl|r
    ·exact absurd q n1
    ·exact r
   ·intro q
    rcases this.mpr (.inr q)with rfl|r
    ·exact absurd q n2
    ·exact r
noncomputable def Put(m:Nat)(A:Nat->Nat->Bool)(o:List Int)(p:Int×Int):Prop:=p.1<p.2/\elim (Hl m A) o p.1 p.2/\¬Hl m A p.1 p.2
set_option linter.all false
variable {G:A2} {n:Nat} {H H' ab ae:AH} {Q:Ag} {E:EP} {C:CS} {ρ:Ak} {a b t d m:Nat} {ps:List (Int×Int)} {x y:Int} {ks:List Nat} {o:O}
/-! a list of pairs -/
theorem An.cts(h:An H ks ps):ks.map (ct H)=ps:=by
 have e:ks.map (ct H)=(ks.map H).map ctO:=by rw[List.map_map];rfl
 unfold An at h
 rw[e,h,List.map_map]
 exact List.map_id ps
theorem An.tup(h:An H ks ps){k:Nat}(hk:k∈ks):∃p,p∈ps/\H k=some (E9 p):=by
 obtain⟨i,hi⟩:=List.mem_iff_getElem?.mp hk
 obtain⟨p,hp,e⟩:=h.ex hi
 exact⟨p,List.mem_of_getElem? hp,e⟩
theorem An.upd{z:O}(h:An H ks ps)(hd:H d=some z)(hz:∀xs,z≠ .tuple xs):An (upd H d o) ks ps:=h.ext' fun k hk q hq=>by
 obtain⟨p,_,e⟩:=h.tup hk
 rw[upd_ne fun c=>by rw[c,hd]at e;exact hz _ (Option.some.inj e)]
 exact hq
noncomputable def PL(H:AH)(a:Nat)(ps:List (Int×Int)):Prop:=∃ks:List Nat,H a=some (.list (ks.map V.ref))/\An H ks ps
theorem PL.ext(h:PL H a ps)(e:Al H H'):PL H' a ps:=let ⟨ks,h1,h2⟩:=h;⟨ks,e _ _ h1,h2.ext e⟩
theorem PL.upd{z:O}(h:PL H a ps)(hd:H d=some z)(hz:∀xs,z≠ .tuple xs)(hne:a≠d):PL (upd H d o) a ps:=let ⟨ks,h1,h2⟩:=h;⟨ks,by rw[upd_ne hne];exact h1,h2.upd hd hz⟩
theorem An.put(h:An H ks ps)(ha:H a=some (.list (ks.map V.ref)))(ht:H t=some (.tuple [.int x,.int y])):PL (Mine.Internal.upd H a (.list (ks.map V.ref ++ [.ref t]))) a (ps ++ [(x,y)]):=
 ⟨ks ++ [t],by rw[Ac,List.map_append];rfl,(h.app (An.one ht)).upd ha (fun _=>nofun)⟩
theorem Acc(h:PL H a ps)(hr:∀p∈ps,0<=p.1/\0<=p.2/\p.2<100)(nd:(ps.map Rv).Nodup)
 (q:∀b ps' H',Al H H'->H b=none->PL H' b ps'->ps'.Perm ps->ps'.Pairwise (fun p q=>Rv p<Rv q)->Q (.ref b) H'):Db .sorted [.ref a] H Q:=by
 obtain⟨ks,h1,h2⟩:=h
 refine Wt h1 (fun k hk=>?_) (by rw[<-h2.cts,List.map_map]at nd;exact nd) fun ks' hp hw=>Ab fun b ab e1 n1 v1=>q b (ks'.map (Cl.ct H)) ab e1 n1 ⟨ks',v1,?_⟩ (by rw[<-h2.cts];exact hp.map _) (by rw[List.pairwise_map];exact hw)
 ·obtain⟨p,hp,z⟩:=h2.tup hk
  have:=hr p hp
  obtain⟨i',e1⟩:=Int.eq_ofNat_of_zero_le this.1
  obtain⟨j',e2⟩:=Int.eq_ofNat_of_zero_le this.2.1
  refine⟨i',j',?_,by have:=this.2.2;exact(Int.ofNat_lt.mp (e2▸this))⟩
  rw[z,<-e1,<-e2];rfl
 ·unfold An
  rw[List.map_map]
  refine List.map_congr_left fun k hk=>?_
  obtain⟨p,_,z⟩:=h2.tup (hp.mem_iff.mp hk)
  show ab k=some (E9 (Cl.ct H k))
  rw[e1 _ _ z,Tr z]
set_option linter.all false
variable {G:A2} {n:Nat} {H H' ab ae:AH} {Q:Ag} {E:EP} {C:CS} {ρ:Ak} {w m r nr pt N d:Nat} {A:Nat->Nat->Bool} {o l:List Int} {es:List (Int×V)} {ds:List Nat} {k x y:Int} {v:V} {B aw:Rl} {b:Bool} {ps:List (Int×Int)}
/-! rows of points as dicts or as lists,and what is put -/
structure DOk(m:Nat)(l:List Int):Prop where
 nodup:l.Nodup
 in_:∀x∈l,0<=x/\x<(m:Int)
theorem DOk.len(h:DOk m l):l.length<=m:=Ei h.nodup h.in_
theorem DOk.add(h:DOk m l)(h0:0<=k/\k<(m:Int))(hk:k∉l):DOk m (l ++ [k]):=by
 refine⟨List.nodup_append.mpr ⟨h.nodup,List.pairwise_singleton _ _,fun a ha b hb z=>hk ?_⟩,fun x hx=>?_⟩
 ·rw[List.mem_singleton.mp hb]at z
  exact z▸ha
 ·rcases List.mem_append.mp hx with hx|hx
  ·exact h.in_ x hx
  ·rw[List.mem_singleton.mp hx];exact h0
theorem Oy(hk:k∉es.map (·.1)):(Cc es k v).map (·.1)=es.map (·.1) ++ [k]:=by rw[Gz,if_neg hk]
theorem Oz{x y:Nat}{a b:O}(h:H x=some a)(h':H y=some b)(hab:a≠b):x≠y:=fun z=>hab (by rw[z,h']at h;exact(Option.some.inj h).symm)
noncomputable def Ww(b:Bool)(o:O)(l:List Int):Prop:=match b with
 | true=>∃es,o = .dict es/\es.map (·.1)=l
 | false=>o = .list (l.map V.int)
structure NI(b:Bool)(H ab:AH)(m nr:Nat)(ds:List Nat)(B:Rl):Prop where
 ext:Al H ab
 nn:H nr=none
 near:ab nr=some (.list (ds.map V.ref))
 new:∀d∈ds,H d=none/\d≠nr
 nd:ds.Nodup
 ok:∀(i d:Nat),ds[i]? = some d->(Jy fun o l=>O4 (ab d=some o) (Ww b o l) (DOk m l) (∀z,z∈l↔B i z))
theorem NI.grow(h:NI b H ab m nr ds B)(e:Al ab ae):NI b H ae m nr ds B:=⟨h.ext.trans e,h.nn,e _ _ h.near,h.new,h.nd,fun i d hd=>let ⟨o,l,h1,h2,h3,h4⟩:=h.ok i d hd;⟨o,l,e _ _ h1,h2,h3,h4⟩⟩
theorem NI.put{o':O}(h:NI b H ab m nr ds B)(hx:0<=x)(hd:ds[x.toNat]? = some d)(hl:∀z,z∈l↔B x z)(hr:Ww b o' (l ++ [y]))(ok:DOk m (l ++ [y])):NI b H (upd ab d o') m nr ds (fun a b=>B a b\/(a=x/\b=y)):=by
 have hdm:=h.new d (List.mem_of_getElem? hd)
 refine⟨h.ext.upd' hdm.1,h.nn,?_,h.new,h.nd,fun i d' hd'=>?_⟩
 ·rw[upd_ne (Ne.symm hdm.2)]
  exact h.near
 ·by_cases z:d'=d
  ·subst z
   obtain⟨l1,g1⟩:=Da hd'
   obtain⟨l2,g2⟩:=Da hd
   have hi:i=x.toNat:=by
    have pw:=List.pairwise_iff_getElem.mp h.nd
    rcases Nat.lt_trichotomy i x.toNat with q|q|q
    ·exact absurd (g1.trans g2.symm) (pw _ _ l1 l2 q)
    ·exact q
    ·exact absurd (g2.trans g1.symm) (pw _ _ l2 l1 q)
   have:(i:Int)=x:=((congrArg Int.ofNat hi).trans (Int.toNat_of_nonneg hx))
   refine⟨_,_,Ac,hr,ok,fun z=>?_⟩
   rw[List.mem_append,List.mem_singleton,hl,this]
   exact⟨fun q=>q.imp_right fun e=>⟨rfl,e⟩,fun q=>q.imp_right fun e=>e.2⟩
  ·obtain⟨o1,l1,h1,h2,h3,h4⟩:=h.ok i d' hd'
   refine⟨o1,l1,by rw[upd_ne z];exact h1,h2,h3,fun b=>?_⟩
   rw[h4]
   refine⟨.inl,fun q=>q.elim id fun e=>absurd ?_ z⟩
   have:i=x.toNat:=(congrArg Int.toNat e.1)
   subst this
   rw[hd]at hd'
   exact(Option.some.inj hd').symm
theorem NI.rel{B':Rl}(h:NI b H ab m nr ds B)(e:∀a b,B a b↔B' a b):NI b H ab m nr ds B':=⟨h.ext,h.nn,h.near,h.new,h.nd,fun i d hd=>let ⟨o,l,h1,h2,h3,h4⟩:=h.ok i d hd;⟨o,l,h1,h2,h3,fun z=>(h4 z).trans (e _ _)⟩⟩
theorem NI.at_(h:NI b H ab m nr ds B)(hl:ds.length=m)(hk:0<=k/\k<(m:Int)):(Ex3 fun d o l=>An6 ((ds.map V.ref)[k.toNat]? = some (.ref d)) (ds[k.toNat]? = some d) (ab d=some o) (Ww b o l) (DOk m l) (∀z,z∈l↔B k z)):=by
 have hlt:k.toNat<ds.length:=(Q62 hl hk.1 hk.2)
 have e:=List.getElem?_eq_getElem hlt
 refine Aa fun nY=>?_
 obtain⟨o,l,h1,h2,h3,h4⟩:=h.ok _ _ e
 rw[Int.toNat_of_nonneg hk.1]at h4
 refine nY ?_;clear nY
 exact⟨_,o,l,by rw[List.getElem?_map,e];rfl,e,h1,h2,h3,h4⟩
theorem NI.other{x:Nat}{a:O}(h:NI b H ab m nr ds B)(hx:H x=none)(hn:x≠nr)(hd:x∉ds):NI b H (upd ab x a) m nr ds B:=
 ⟨h.ext.upd' hx,h.nn,by rw[upd_ne (Ne.symm hn)];exact h.near,h.new,h.nd,fun i d' hd'=>by
  obtain⟨o,l,h1,h2,h3,h4⟩:=h.ok i d' hd'
  exact⟨o,l,by rw[upd_ne (fun(z:d'=x)=>hd (z▸List.mem_of_getElem? hd'))];exact h1,h2,h3,h4⟩⟩
theorem NI.fresh{x:Nat}(h:NI b H ab m nr ds B)(hx:ab x=none):x≠nr/\x∉ds:=
 ⟨fun z=>(by rw[z,h.near]at hx;cases hx),fun z=>by obtain⟨c,hc⟩:=List.mem_iff_getElem?.mp z;obtain⟨_,_,z1,_⟩:=h.ok c x hc;rw[z1]at hx;cases hx⟩
theorem Wx{ds:List Nat}{i d d':Nat}(h:(ds ++ [d])[i]? = some d'):ds[i]? = some d'\/(i=ds.length/\d'=d):=by
 rcases Nat.lt_or_ge i ds.length with q|q
 ·rw[List.getElem?_append_left q]at h
  exact .inl h
 ·rw[List.getElem?_append_right q]at h
  obtain⟨h1,h2⟩:=Da h
  rw[List.length_singleton]at h1
  refine .inr ⟨(Nat.le_antisymm (Nat.sub_eq_zero_iff_le.mp (Nat.lt_one_iff.mp h1)) q),?_⟩
  rw[List.getElem_singleton]at h2
  exact h2.symm
theorem NI.snoc{o':O}(h:NI b H ab m nr ds B)(hx:H d=none)(hn:d≠nr)(hd:d∉ds)(he:ab d=some o')(hr:Ww b o' l)(ok:DOk m l)(hB:∀z,z∈l↔B ds.length z):NI b H (upd ab nr (.list (ds.map V.ref ++ [.ref d]))) m nr (ds ++ [d]) B:=by
 refine⟨h.ext.upd' h.nn,h.nn,by rw[Ac];simp,fun d' hd'=>?_,?_,fun i d' hd'=>?_⟩
 ·rcases List.mem_append.mp hd' with hd'|hd'
  ·exact h.new d' hd'
  ·rw[List.mem_singleton.mp hd'];exact⟨hx,hn⟩
 ·refine List.nodup_append.mpr ⟨h.nd,List.pairwise_singleton _ _,fun a ha b hb z=>hd ?_⟩
  rw[List.mem_singleton.mp hb]at z
  exact z▸ha
 ·rcases Wx hd' with q | ⟨rfl,rfl⟩
  ·obtain⟨o1,l1,h1,h2,h3,h4⟩:=h.ok i d' q
   exact⟨o1,l1,by rw[upd_ne (h.new d' (List.mem_of_getElem? q)).2];exact h1,h2,h3,h4⟩
  ·exact⟨o',l,by rw[upd_ne hn];exact he,hr,ok,hB⟩
structure FI(b:Bool)(H ab:AH)(m:Nat)(A:Nat->Nat->Bool)(nr pt:Nat)(ds:List Nat)(B:Rl)(ps:List (Int×Int)):Prop where
 ni:NI b H ab m nr ds B
 np:H pt=none
 ne:pt≠nr
 nd:pt∉ds
 pb:PB m A B ps
 pl:PL ab pt ps
theorem FI.grow(h:FI b H ab m A nr pt ds B ps)(e:Al ab ae):FI b H ae m A nr pt ds B ps:=⟨h.ni.grow e,h.np,h.ne,h.nd,h.pb,h.pl.ext e⟩
set_option linter.all false
variable {G:A2} {n:Nat} {H H' ab ae:AH} {Q:Ag} {E:EP} {C:CS} {ρ:Ak} {w m r nr pt N d:Nat} {A:Nat->Nat->Bool} {o l:List Int} {es:List (Int×V)} {ds:List Nat} {k x y:Int} {v:V} {B aw:Rl} {ps:List (Int×Int)}
theorem Tt(g:Gr A):PB m A (Hl m A) []:=by
 refine⟨fun x y q=>⟨q.2.1,q.1,by rw[g.symm];exact q.2.2⟩,fun x y q=>⟨q.1,q.2.1,fun e=>?_⟩,fun x y q=>q,fun p=>⟨fun q=>absurd q List.not_mem_nil,fun q=>absurd q.2.1 q.2.2⟩,.nil⟩
 have:=q.2.2
 rw[e,g.irr]at this
 cases this
theorem Mid.done{p:Int}{r:List Int}(h:Mid aw B l)(sym:∀u v,B u v->B v u)(hl:∀z,z∈l↔z∈r/\aw p z)(all:∀u v,u∈l->v∈l->u≠v->B u v\/B v u):elim B r=elim aw (p::r):=by
 refine Yp fun u v=>⟨fun q=>(h.lo u v q).imp_right fun z=>⟨z.1,(hl u).mp z.2.1,(hl v).mp z.2.2⟩,fun q=>?_⟩
 rcases q with q | ⟨q1,q2,q3⟩
 ·exact h.up u v q
 ·exact(all u v ((hl u).mpr q2) ((hl v).mpr q3) q1).elim id (sym v u)
theorem Acd(all:∀(i j:Nat) (u v:Int),i<j->l[i]? = some u->l[j]? = some v->B u v)(u v:Int)(hu:u∈l)(hv:v∈l)(hne:u≠v):B u v\/B v u:=by
 obtain⟨i,hi⟩:=List.mem_iff_getElem?.mp hu
 obtain⟨j,hj⟩:=List.mem_iff_getElem?.mp hv
 rcases Nat.lt_trichotomy i j with z|z|z
 ·exact .inl (all i j u v z hi hj)
 ·subst z
  rw[hi]at hj
  exact absurd (Option.some.inj hj) hne
 ·exact .inr (all j i v u z hj hi)
structure Vf(m:Nat)(A:Nat->Nat->Bool)(o:List Int)(ps:List (Int×Int)):Prop where
 pw:ps.Pairwise (fun p q=>Rv p<Rv q)
 put:∀p,p∈ps↔Put m A o p
 rng:∀p∈ps,(0<=p.1/\p.1<(m:Int))/\0<=p.2/\p.2<(m:Int)
 len:ps.length<=6000
theorem Vf.eq{ps':List (Int×Int)}(h:Vf m A o ps)(h':Vf m A o ps'):ps=ps':=Wv h.pw h'.pw fun p=>(h.put p).trans (h'.put p).symm
theorem FI.sort{b:Bool}(h:FI b H ab m A nr pt ds (elim (Hl m A) o) ps)(hm:m<=60)(q:∀a ps' H',Al H H'->H a=none->PL H' a ps'->Vf m A o ps'->Q (.ref a) H'):Db .sorted [.ref pt] ab Q:=by
 refine Acc h.pl (fun p hp=>?_) (h.pb.ranks hm) fun b ps' ak e5 n5 v5 hp hw=>q b ps' ak (h.ni.ext.trans e5) (h.ni.ext.isNone n5) v5 ⟨hw,fun p=>hp.mem_iff.trans (h.pb.put p),fun p hp'=>?_,by rw[hp.length_eq];exact h.pb.len hm⟩
 ·have:=h.pb.rng hm hp
  exact⟨this.1.1,this.2.1,Int.lt_trans this.2.2 (by decide)⟩
 ·have:=h.pb.inn _ _ ((h.pb.put p).mp (hp.mem_iff.mp hp')).2.1
  exact⟨this.1,this.2.1⟩
set_option linter.all false
variable {G:A2} {n:Nat} {H H' ab ae:AH} {Q:Ag} {E:EP} {C:CS} {ρ:Ak} {w m r nr pt N d:Nat} {A:Nat->Nat->Bool} {o l:List Int} {es:List (Int×V)} {ds:List Nat} {k x y:Int} {v:V} {B aw:Rl} {ps:List (Int×Int)}
theorem Rq{i:Nat}:DOk m (Ao m A i):=⟨Ow.imp fun h=>Int.ne_of_lt h,fun x hx=>let h:=A7.mp hx;⟨h.1,h.2.1⟩⟩
theorem Aev{i:Nat}:(Ao m A i).length<=m:=Rq.len
theorem Wy{i:Nat}{z:Int}(hi:i<m):z∈Ao m A i↔Hl m A i z:=by
 rw[A7]
 exact⟨fun q=>⟨⟨T4,(W4 hi)⟩,⟨q.1,q.2.1⟩,q.2.2⟩,fun q=>⟨q.2.1.1,q.2.1.2,q.2.2⟩⟩
theorem Ace(F:Lz G)(hG:G.fn "filled" = some Ny)(g:Gr A)(hm:m<=60)(hW:C1 H w m A)(hL:LI H r o)(ho:Bj m o)
 (q:∀a ps H',Al H H'->H a=none->PL H' a ps->Vf m A o ps->Q (.ref a) H'):Ae G (n+3) "filled" [.ref w,.ref r] H Q E:=by
 refine Aj hG rfl ?_
 simp only[Ny,List.map,List.replicate,List.cons_append,List.nil_append]
 refine Hz ([some (.ref w),some (.ref r),none,none,none,none,none,none,none,none,none]) (fun ab=>Al H ab) (fun N hN=>?_) ?_
 ·simp only[Zf,Zn,Zu,Zv,Zx,Ai,Am,C9,true_and,F.needOrder]
  exact Mv F hm hW hL ho fun ab e1=>hN _ e1
 rintro az e0
 refine Df (fun nr=>[some (.ref w),some (.ref r),some (.ref nr),none,none,none,none,none,none,none,none]) (fun nr ab=>NI true H ab m nr [] (Hl m A)) (fun N hN=>?_) ?_
 ·simp only[Zs,Zu,Zw,B6,B7]
  exact Ab fun a ab e1 n1 v1=>hN a _ ⟨e0.trans e1,e0.isNone n1,v1,fun _ h=>absurd h List.not_mem_nil,.nil,fun _ _ h=>by cases h⟩
 rintro nr ab h1
 refine Alm (fun(ds:List Nat) (r3:Option V) (r4:Option V) (r5:Option V)=>[some (.ref w),some (.ref r),some (.ref nr),r3,r4,r5,none,none,none,none,none]) (fun(ds:List Nat) (r3:Option V) (r4:Option V) (r5:Option V) ae=>(NI true H ae m nr ds (Hl m A))/\(ds.length=m)) (fun N1 hN1=>?_) ?_
 ·refine T8 ?_
  refine Aa fun nY=>?_
  obtain⟨d,rs,w1,w2,w3⟩:=hW.ext h1.ext
  refine nY ?_;clear nY
  simp (disch:=first|decide|omega) only[Zf,Zp,Zu,Zv,Qd,Ai,Ge w1 w2 (show Jc [(C2.many,V.int m),(C2.rows,V.ref rs)] .many=some (.int m)from rfl)]
  refine Gc (fun i (ds:List Nat) (r3:Option V) (r4:Option V) (r5:Option V)=>[some (.ref w),some (.ref r),some (.ref nr),r3,r4,r5,none,none,none,none,none]) (fun i (ds:List Nat) (r3:Option V) (r4:Option V) (r5:Option V) ae=>(NI true H ae m nr ds (Hl m A))/\(ds.length=i)) [] _ _ _ rfl ⟨h1,rfl⟩ ?_ ?_
  ·rintro i ds r3 r4 r5 ae K hi ⟨h2,hl⟩ hK
   have hi':i<m:=by simpa using hi
   simp only[Md,List.set_cons_succ,List.set_cons_zero]
   refine Df (fun dd=>[some (.ref w),some (.ref r),some (.ref nr),some (.int i),some (.ref dd),r5,none,none,none,none,none]) (fun dd ag=>Fe (Al ae ag) (ae dd=none) (ag dd=some (.dict []))) (fun N hN=>?_) ?_
   ·refine Cd (Nj ?_)
    exact Ab fun c ab e1 n1 v1=>hN c _ ⟨e1,n1,v1⟩
   rintro dd ag hP65
   refine Aa fun nY=>?_
   obtain⟨e3,n3,v3⟩:=hP65
   have ndd:H dd=none:=h2.ext.isNone n3
   obtain⟨hdn,hdd⟩:=h2.fresh n3
   refine nY ?_;clear nY
   refine Lf (fun(es:List (Int×V)) (r5:Option V)=>[some (.ref w),some (.ref r),some (.ref nr),some (.int i),some (.ref dd),r5,none,none,none,none,none]) (fun(es:List (Int×V)) (r5:Option V) ah=>Fe (NI true H ah m nr ds (Hl m A)) (ah dd=some (.dict es)) (es.map (·.1)=Ao m A i)) (fun N hN=>?_) ?_
   ·refine M8 ?_
    refine Aa fun nY=>?_
    obtain⟨d,rs,w1,w2,w3⟩:=hW.ext (h2.ext.trans e3)
    refine nY ?_;clear nY
    simp only[Zf,Zu,Zv,Ai,Am,C9,true_and,Ax,Co,Cp,D4,w1,w2,F.fns.beside]
    refine I2 F.fns.base F.fns.beside ⟨d,rs,w1,w2,w3⟩ (Int.natCast_nonneg i) (W4 hi') fun b ah e4 nb hb=>?_
    rw[Int.toNat_natCast]at hb
    refine Aq hb ?_
    refine F0 (fun j (es:List (Int×V)) (r5:Option V)=>[some (.ref w),some (.ref r),some (.ref nr),some (.int i),some (.ref dd),r5,none,none,none,none,none]) (fun j (es:List (Int×V)) (r5:Option V) ak=>O4 (NI true H ak m nr ds (Hl m A)) (ak dd=some (.dict es)) (LI ak b (Ao m A i)) (es.map (·.1)=(Ao m A i).take j)) [] _ rfl ⟨(h2.grow e3).grow e4,e4 _ _ v3,hb,rfl⟩ ?_ ?_ ?_
    ·rintro j es r5 ak ⟨_,_,hb5,_⟩;exact hb5
    ·rintro j v es r5 ak K' hv hP66 hK'
     refine Aa fun nY=>?_
     obtain⟨n5,v5,hb5,kk⟩:=hP66
     obtain⟨z,hz,rfl⟩:=LI.at_ (a:=b) hv
     have hel:es.length<1048576:=by
      have h1:=congrArg List.length kk
      have h2:=Aev (m:=m) (A:=A) (i:=i)
      rw[Bk,List.length_take]at h1
      exact h1▸Nat.lt_of_le_of_lt (Af (Nat.min_le_right _ _) (Af h2 hm)) (by decide)
     refine nY ?_;clear nY
     simp only[Mc,Z1,Z0,List.set_cons_succ,List.set_cons_zero]
     refine Ds ?_
     simp only[Zd,Zf,Ai,Am,J8 v5 hel]
     refine hK' _ _ _ ⟨n5.other ndd hdn hdd,Ac,by unfold LI;rw[upd_ne (Oz hb5 v5 (by simp))];exact hb5,?_⟩
     rw[Oy,kk,List.take_add_one,hz]
     ·rfl
     ·rw[kk]
      intro q
      refine Aa fun nY=>?_
      obtain⟨c,hc⟩:=List.mem_iff_getElem?.mp q
      rw[List.getElem?_take]at hc
      split at hc
      ·have:=Hk Rq.nodup hc hz
       refine nY ?_;clear nY
       omega
      ·cases hc
    ·rintro es r5 ak hP67
     refine Aa fun nY=>?_
     obtain⟨n5,v5,_,kk⟩:=hP67
     refine nY ?_;clear nY
     refine hN es _ _ ⟨n5,v5,?_⟩
     rw[kk,Bk,List.take_length]
   rintro es r5' ah hP68
   refine Aa fun nY=>?_
   obtain⟨n4,v4,k4⟩:=hP68
   refine nY ?_;clear nY
   have hll:(ds.map V.ref).length<1048576:=by rw[Bk];exact Q55 hm hl hi'
   refine Ad ?_
   simp (disch:=first|decide|omega) only[Zf,Zu,Zv,Zx,Z0,Ai,Am,true_and,Bo,A8 n4.near,Bq n4.near hll]
   refine hK (ds ++ [dd]) _ _ _ _ ⟨n4.snoc ndd hdn hdd v4 ⟨es,rfl,k4⟩ Rq fun z=>by rw[hl];exact Wy hi',by simp[hl]⟩
  ·rintro ds r3 r4 r5 ae ⟨h2,hl⟩
   exact hN1 ds _ _ _ _ ⟨h2,by simpa using hl⟩
 rintro ds r3 r4 r5 ae ⟨h2,hdl⟩
 refine Df (fun pt=>[some (.ref w),some (.ref r),some (.ref nr),r3,r4,r5,some (.ref pt),none,none,none,none]) (fun pt ag=>FI true H ag m A nr pt ds (Hl m A) []) (fun N hN=>?_) ?_
 ·simp only[Zs,Zu,Zw,B6,B7]
  exact Ab fun a ag e3 n3 v3=>hN a _ ⟨h2.grow e3,h2.ext.isNone n3,(h2.fresh n3).1,(h2.fresh n3).2,Tt g,[],v3,rfl⟩
 rintro pt ag h3
 clear h2 h1
 refine Alo (fun(r3:Option V) (r5:Option V) (r7:Option V) (r8:Option V) (r9:Option V) (r10:Option V) (ps:List (Int×Int))=>[some (.ref w),some (.ref r),some (.ref nr),r3,r4,r5,some (.ref pt),r7,r8,r9,r10]) (fun(r3:Option V) (r5:Option V) (r7:Option V) (r8:Option V) (r9:Option V) (r10:Option V) (ps:List (Int×Int)) ah=>FI true H ah m A nr pt ds (elim (Hl m A) o) ps) (fun N1 hN1=>?_) ?_
 ·refine Nl (M7 ?_)
  simp only[Zf,Ai,Am]
  refine K6 (hL.ext h3.ni.ext) ?_
  have hol:o.length=m:=ho.len
  refine Tj (fun i (r3:Option V) (r5:Option V) (r7:Option V) (r8:Option V) (r9:Option V) (r10:Option V) (B:Rl) (ps:List (Int×Int))=>[some (.ref w),some (.ref r),some (.ref nr),r3,r4,r5,some (.ref pt),r7,r8,r9,r10]) (fun i (r3:Option V) (r5:Option V) (r7:Option V) (r8:Option V) (r9:Option V) (r10:Option V) (B:Rl) (ps:List (Int×Int)) ah=>(FI true H ah m A nr pt ds B ps)/\(elim B (o.drop i)=elim (Hl m A) o)) _ _ _ _ _ _ _ _ rfl ⟨h3,rfl⟩ ?_ ?_ ?_
  ·rintro i r3 r5 r7 r8 r9 r10 B ps ah ⟨h4,_⟩;exact hL.ext h4.ni.ext
  ·rintro i v r3 r5 r7 r8 r9 r10 aw ps ah K hv ⟨h4,hB⟩ hK
   obtain⟨x,hx,rfl⟩:=LI.at_ (a:=r) hv
   have hil:=(Da hx).1
   have hxr:=ho.mem.mp (List.mem_of_getElem? hx)
   simp only[Mh,List.set_cons_succ,List.set_cons_zero]
   refine Lf (fun(lt:Nat) (l:List Int)=>[some (.ref w),some (.ref r),some (.ref nr),some (.int x),r4,r5,some (.ref pt),some (.int i),some (.ref lt),r9,r10]) (fun(lt:Nat) (l:List Int) ak=>An6 (FI true H ak m A nr pt ds aw ps) (LI ak lt l) (l.length<=60) ((∀y,y∈l↔y∈o.drop (i+1)/\aw x y)) (l.Nodup) (lt≠pt)) (fun N hN=>?_) ?_
   ·refine Cd (hvK ?_)
    simp only[Zc,Ze,Zf,Zk,Zr,Z2,Z6,Eg,Eh,Ai,Am,List.replicate,B6,B7]
    (refine Ct (hL.ext h4.ni.ext) Hw Gd ?_;rw[Lw W8])
    refine Ab fun s ak e5 n5 v5=>?_
    rw[show ((i:Int)+1).toNat=i+1 by exact W9,<-List.map_drop]at v5
    refine Aq v5 ?_
    refine⟨by simp[Bp];exact(Af (Nat.le_of_eq hol) (Af hm (Af (by decide) (Nat.le_add_right _ _)))),?_⟩
    have h5:=h4.grow e5
    refine Aa fun nY=>?_
    obtain⟨dx,_,lx,q1,q2,q3,⟨es,rfl,rfl⟩,q4,q5⟩:=h5.ni.at_ hdl hxr
    refine nY ?_;clear nY
    refine Eb (p:=fun y=>decide (y∈es.map (·.1))) v5 (fun y hy K' k1=>?_) ?_
    ·simp only[Zf,Zl,Zq,Ch,Ai,Am,Me,A9 h5.ni.near hxr.1 q1,Afc q3]
     split
     ·rename_i h;rw[if_pos h]at k1;exact k1
     ·rename_i h;rw[if_neg h]at k1;exact k1
    ·refine Ab fun lt al e6 n6 v6=>hN lt _ _ ⟨h5.grow e6,v6,?_,fun y=>?_,(ho.nodup.sublist (List.drop_sublist _ _)).filter _,fun z=>?_⟩
     ·exact Af (List.length_filter_le _ _) (by rw[List.length_drop];exact(Af (Nat.sub_le _ _) (Af (Nat.le_of_eq hol) hm)))
     ·rw[List.mem_filter,decide_eq_true_eq,q5]
     ·refine Aa fun nY=>?_
      obtain⟨ks,p1,_⟩:=h5.pl
      rw[z,p1]at n6;cases n6
   rintro lt l ak hP69
   refine Aa fun nY=>?_
   obtain⟨h5,hl5,hll,hlm,hln,hlp⟩:=hP69
   have hlin:∀y∈l,0<=y/\y<(m:Int):=fun y hy=>ho.mem.mp (List.mem_of_mem_drop ((hlm y).mp hy).1)
   refine nY ?_;clear nY
   refine Ad (Nl (M7 ?_))
   simp only[Zf,Z0,Ai,Am]
   refine K6 hl5 ?_
   refine Th (fun j (r5:Option V) (r9:Option V) (r10:Option V) (B:Rl) (ps:List (Int×Int))=>[some (.ref w),some (.ref r),some (.ref nr),some (.int x),r4,r5,some (.ref pt),some (.int i),some (.ref lt),r9,r10]) (fun j (r5:Option V) (r9:Option V) (r10:Option V) (B:Rl) (ps:List (Int×Int)) al=>O4 (FI true H al m A nr pt ds B ps) (LI al lt l) (Mid aw B l) (∀(a b:Nat) (u v:Int),a<j->a<b->l[a]? = some u->l[b]? = some v->B u v)) _ _ _ _ _ rfl ⟨h5,hl5,.refl,fun a b u v q=>absurd q (Nat.not_lt_zero _)⟩ ?_ ?_ ?_
   ·rintro j r5 r9 r10 B ps al ⟨_,h6,_⟩;exact h6
   ·rintro j v r5 r9 r10 aR aZ al K' hv hP70 hK'
    refine Aa fun nY=>?_
    obtain⟨h6,hl6,md,all⟩:=hP70
    obtain⟨y,hy,rfl⟩:=LI.at_ (a:=lt) hv
    have hym:=List.mem_of_getElem? hy
    have hyr:=hlin y hym
    refine nY ?_;clear nY
    simp only[Mg,List.set_cons_succ,List.set_cons_zero]
    refine Ad (M8 ?_)
    simp only[Zc,Ze,Zf,Zk,Zr,Z0,Z6,Ai,Am]
    (refine Ct hl6 Hw Gd ?_;rw[Lw W8])
    refine Ab fun s au e7 n7 v7=>?_
    rw[show ((j:Int)+1).toNat=j+1 by exact W9,<-List.map_drop]at v7
    refine Aq v7 ?_
    have hsp:s≠pt:=fun z=>by
     refine Aa fun nY=>?_
     obtain⟨ks,p1,_⟩:=h6.pl
     rw[z,p1]at n7;cases n7
    refine D9 (fun t (r5:Option V) (B:Rl) (ps:List (Int×Int))=>[some (.ref w),some (.ref r),some (.ref nr),some (.int x),r4,r5,some (.ref pt),some (.int i),some (.ref lt),some (.int j),some (.int y)]) (fun t (r5:Option V) (B:Rl) (ps:List (Int×Int)) aq=>An6 (FI true H aq m A nr pt ds B ps) (LI aq lt l) (LI aq s (l.drop (j+1))) (Mid aw B l) ((∀u v,aR u v->B u v)) (∀(b:Nat) (v:Int),b<t->(l.drop (j+1))[b]? = some v->B y v)) _ _ _ rfl ⟨h6.grow e7,hl6.ext e7,v7,md,fun _ _ q=>q,fun b v q=>absurd q (Nat.not_lt_zero _)⟩ ?_ ?_ ?_
    ·rintro t r5 B ps aq ⟨_,_,h8,_⟩;exact h8
    ·rintro t v r5 B ps aq K'' hv8 hP71 hK''
     refine Aa fun nY=>?_
     obtain⟨h8,hl8,hs8,md8,up,row⟩:=hP71
     obtain⟨z,hz,rfl⟩:=LI.at_ (a:=s) hv8
     have hzm:=List.mem_of_mem_drop (List.mem_of_getElem? hz)
     have hzr:=hlin z hzm
     have hyz:y≠z:=fun e=>by
      rw[List.getElem?_drop]at hz
      have:=Hk hln hy (e▸hz)
      exact Nat.ne_of_lt (Nat.lt_of_lt_of_le (Nat.lt_succ_self _) (Nat.le_add_right _ _)) this
     obtain⟨dy,_,ly,q1,q2,q3,⟨ey,rfl,rfl⟩,q4,q5⟩:=h8.ni.at_ hdl hyr
     have row':∀ {B':Rl},(∀u v,B u v->B' u v)->B' y z->∀(b:Nat) (v:Int),b<t+1->(l.drop (j+1))[b]? = some v->B' y v:=fun hu hy' b v q h=>by
      refine Aa fun nY=>?_
      rcases Nat.lt_or_eq_of_le (Nat.le_of_lt_succ q)with c|rfl
      ·refine nY ?_;clear nY
       exact hu _ _ (row b v c h)
      ·rw[hz]at h
       cases h
       refine nY ?_;clear nY
       exact hy'
     refine nY ?_;clear nY
     simp only[Mf,List.set_cons_succ,List.set_cons_zero]
     refine Ad (Bv ?_)
     simp only[Zf,Zl,Zq,Zx,Z0,Z1,Ch,Ai,Am,A9 h8.ni.near hyr.1 q1,Li q3]
     refine Aa fun nY=>?_
     by_cases hk:z∈ey.map (·.1)
     ·refine nY ?_;clear nY
      rw[decide_eq_true hk]
      simp only[Bool.not_true,Bool.false_eq_true,if_false]
      exact hK'' _ B ps _ ⟨h8,hl8,hs8,md8,up,row' (fun _ _ q=>q) ((q5 z).mp hk)⟩
     refine nY ?_;clear nY
     rw[decide_eq_false hk]
     simp only[Bool.not_false,if_true]
     have hnB:¬B y z:=fun q=>hk ((q5 z).mpr q)
     have hel:=q4.len
     rw[Bk]at hel
     have h9:NI true H (upd aq dy (.dict (Cc ey z (.bool true)))) m nr ds (fun a b=>B a b\/(a=y/\b=z)):=h8.ni.put hyr.1 q2 q5 ⟨_,rfl,Oy hk⟩ (q4.add hzr hk)
     have pl9:PL (upd aq dy (.dict (Cc ey z (.bool true)))) pt ps:=h8.pl.upd q3 (fun _=>nofun) (by obtain⟨ks,p1,_⟩:=h8.pl;exact Oz p1 q3 (by simp))
     have hl9:LI (upd aq dy (.dict (Cc ey z (.bool true)))) lt l:=by unfold LI;rw[upd_ne (Oz hl8 q3 (by simp))];exact hl8
     have hs9:LI (upd aq dy (.dict (Cc ey z (.bool true)))) s (l.drop (j+1)):=by unfold LI;rw[upd_ne (Oz hs8 q3 (by simp))];exact hs8
     refine Ds ?_
     simp only[Zd,Zf,Zq,Ai,Am,A9 h8.ni.near hyr.1 q1,J8 q3 (show ey.length<1048576 by exact O5 hm hel)]
     generalize upd aq dy (.dict (Cc ey z (.bool true)))=ax at *
     refine Aa fun nY=>?_
     obtain⟨dz,_,lz,u1,u2,u3,⟨ez,rfl,rfl⟩,u4,u5⟩:=h9.at_ hdl hzr
     have hez:=u4.len
     rw[Bk]at hez
     have hkz:y∉ez.map (·.1):=fun q=>((u5 y).mp q).elim (fun q=>hnB (h8.pb.sym _ _ q)) fun q=>hyz q.1.symm
     have h10:NI true H (upd ax dz (.dict (Cc ez y (.bool true)))) m nr ds (Rp B y z):=(h9.put hzr.1 u2 u5 ⟨_,rfl,Oy hkz⟩ (u4.add hyr hkz)).rel fun a b=>or_assoc
     have pl10:PL (upd ax dz (.dict (Cc ez y (.bool true)))) pt ps:=pl9.upd u3 (fun _=>nofun) (by obtain⟨ks,p1,_⟩:=pl9;exact Oz p1 u3 (by simp))
     refine nY ?_;clear nY
     have hl10:LI (upd ax dz (.dict (Cc ez y (.bool true)))) lt l:=by unfold LI;rw[upd_ne (Oz hl9 u3 (by simp))];exact hl9
     have hs10:LI (upd ax dz (.dict (Cc ez y (.bool true)))) s (l.drop (j+1)):=by unfold LI;rw[upd_ne (Oz hs9 u3 (by simp))];exact hs9
     refine Ds ?_
     simp only[Zd,Zf,Zq,Ai,Am,A9 h9.near hzr.1 u1,J8 u3 (show ez.length<1048576 by exact O5 hm hez)]
     generalize upd ax dz (.dict (Cc ez y (.bool true)))=aE at *
     refine Aa fun nY=>?_
     obtain⟨ks,p1,p2⟩:=pl10
     refine nY ?_;clear nY
     have hpl:(ks.map V.ref).length<1048576:=by rw[Bk,p2.len];have:=h8.pb.len hm;exact Nat.lt_of_le_of_lt this (by decide)
     simp (disch:=first|decide|omega) only[Zf,Zo,Zt,Zu,Zv,Zbl,Zbm,Ai,Am,true_and,Bo,A8 p1]
     refine Ab fun t' aI e11 n11 v11=>?_
     (try dsimp only)
     refine Gx (e11 _ _ p1) hpl ?_
     have pb':PB m A (Rp B y z) (ps ++ [(min y z,max y z)]):=by
      refine Aa fun nY=>?_
      rcases Int.lt_or_gt_of_ne hyz with c|c
      ·refine nY ?_;clear nY
       rw[show min y z=y by exact(Int.min_eq_left (Int.le_of_lt c)),show max y z=z by exact(Int.max_eq_right (Int.le_of_lt c))]
       exact h8.pb.add hyr hzr c hnB
      ·refine nY ?_;clear nY
       rw[show min y z=z by exact(Int.min_eq_right (Int.le_of_lt c)),show max y z=y by exact(Int.max_eq_left (Int.le_of_lt c)),Yq]
       exact h8.pb.add hzr hyr c fun q=>hnB (h8.pb.sym _ _ q)
     refine hK'' _ (Rp B y z) _ _ ⟨⟨(h10.grow e11).other h8.np h8.ne h8.nd,h8.np,h8.ne,h8.nd,pb',(p2.ext e11).put (e11 _ _ p1) v11⟩,?_,?_,md8.add hym hzm hyz,fun u v q=> .inl (up u v q),row' (fun _ _ q=> .inl q) (.inr (.inl ⟨rfl,rfl⟩))⟩
     ·unfold LI;rw[upd_ne hlp];exact e11 _ _ hl10
     ·unfold LI;rw[upd_ne hsp];exact e11 _ _ hs10
    ·rintro r5 B ps aq hP72
     refine Aa fun nY=>?_
     obtain⟨h8,hl8,_,md8,up,row⟩:=hP72
     refine nY ?_;clear nY
     refine hK' _ _ _ B ps _ ⟨h8,hl8,md8,fun a b u v q1 q2 h1 h2=>?_⟩
     refine Aa fun nY=>?_
     rcases Nat.lt_or_eq_of_le (Nat.le_of_lt_succ q1)with z|rfl
     ·refine nY ?_;clear nY
      exact up _ _ (all a b u v z q2 h1 h2)
     ·rw[hy]at h1
      cases h1
      have hb:=(Da h2).1
      refine nY ?_;clear nY
      refine row (b-(a+1)) v (by rw[Bk,List.length_drop];exact(Nat.sub_lt_sub_right q2 hb)) ?_
      rw[List.getElem?_drop,show a+1+(b-(a+1))=b by exact(Nat.add_sub_cancel' q2)]
      exact h2
   ·rintro r5 r9 r10 B ps al hP73
    refine Aa fun nY=>?_
    obtain⟨h6,_,md,all⟩:=hP73
    rw[Bk]at all
    refine nY ?_;clear nY
    refine hK _ _ _ _ _ _ B ps _ ⟨h6,?_⟩
    rw[<-hB,List.drop_eq_getElem_cons hil,(Da hx).2]
    exact md.done h6.pb.sym hlm (Acd fun a b u v q h1 h2=>all a b u v ((Da h1).1) q h1 h2)
  ·rintro r3 r5 r7 r8 r9 r10 B ps ah ⟨h4,hB⟩
   rw[Bk,List.drop_length]at hB
   have hB:B=_:=hB
   subst hB
   exact hN1 _ _ _ _ _ _ ps _ h4
 rintro r3 r5 r7 r8 r9 r10 ps ah h4
 refine Ad (Nk ?_)
 simp only[Zf,Zo,Zu,Zv,Ai,Am]
 exact h4.sort hm q
set_option linter.all false
variable {G:A2} {n:Nat} {H H' ab ae:AH} {Q:Ag} {E:EP} {C:CS} {ρ:Ak} {w m r nr pt N d a:Nat} {A:Nat->Nat->Bool} {o l:List Int} {es:List (Int×V)} {ds:List Nat} {k x y:Int} {v:V} {B aw:Rl} {ps:List (Int×Int)} {b:Bool}
theorem Tu(hB:G.fn "_law_behind" = some Ep)(hG:G.fn "_law_due" = some Ll)(g:Gr A)(hm:m<=60)(hN:Ea H a m A)(hL:LI H r o)(ho:Bj m o)
 (q:∀b ps H',Al H H'->H b=none->PL H' b ps->Vf m A o ps->Q (.ref b) H'):Ae G (n+2) "_law_due" [.ref a,.ref r] H Q E:=by
 obtain⟨as,n1,n2,n3⟩:=hN
 have hol:o.length=m:=ho.len
 refine Aj hG rfl ?_
 simp only[Ll,List.map,List.replicate,List.cons_append,List.nil_append]
 refine Lf (fun(nr:Nat) (ds:List Nat)=>[some (.ref a),some (.ref r),some (.ref nr),none,none,none,none,none]) (fun(nr:Nat) (ds:List Nat) ab=>(NI false H ab m nr ds (Hl m A))/\(ds.length=m)) (fun N hN=>?_) ?_
 ·refine Cd (gvK ?_)
  simp only[Zf,Z2,Eg,Eh,Ai,List.replicate,B6,B7]
  refine Aq n1 ?_
  refine⟨by simp[Bp,n2];exact W3 hm,?_⟩
  refine Cf (k:=0) (fun j acc ab=>(O2 fun(bs:List Nat)=>An6 (acc=bs.map V.ref) (Al H ab) (bs.length=j) (bs.Nodup) ((∀d∈bs,H d=none)) (∀(i x:Nat),bs[i]? = some x->LI ab x (Ao m A i)))) ⟨[],rfl,Al.refl,rfl,.nil,fun _ h=>absurd h List.not_mem_nil,fun _ _ h=>by cases h⟩ ?_ ?_
  ·rintro j x acc ab K hx ⟨bs,rfl,e,hl,nd,new,hb⟩ hK
   rw[List.getElem?_map,List.getElem?_map]at hx
   obtain⟨v,hv,rfl⟩:=Option.map_eq_some_iff.mp hx
   obtain⟨x,hx',rfl⟩:=Option.map_eq_some_iff.mp hv
   refine⟨e _ _ n1,_,rfl,?_⟩
   simp only[Zf,Zo,Zu,Zv,Ai,Kn,Le ((n3 j x hx').ext e)]
   refine Ab fun c ae e2 nc v2=>hK _ _ ⟨bs ++ [c],by simp,e.trans e2,by simp[hl],?_,?_,?_⟩
   ·refine List.nodup_append.mpr ⟨nd,List.pairwise_singleton _ _,fun a ha b hb' z=>?_⟩
    rw[List.mem_singleton.mp hb']at z
    obtain⟨i,hi⟩:=List.mem_iff_getElem?.mp ha
    have:=hb i _ hi
    unfold LI at this
    rw[z,nc]at this;cases this
   ·intro d hd
    rcases List.mem_append.mp hd with hd|hd
    ·exact new d hd
    ·rw[List.mem_singleton.mp hd];exact e.isNone nc
   ·intro i y hy
    rcases Wx hy with q | ⟨rfl,rfl⟩
    ·exact(hb i y q).ext e2
    ·rw[hl,Nat.zero_add];exact v2
  ·rintro acc ab ⟨bs,rfl,e,hl,nd,new,hb⟩
   have hl:bs.length=m:=by simpa[n2]using hl
   refine⟨e _ _ n1,Ab fun c ae e2 nc v2=>hN c bs _ ⟨⟨e.trans e2,e.isNone nc,v2,fun d hd=>⟨new d hd,fun z=>?_⟩,nd,fun i d hd=>⟨_,_,e2 _ _ (hb i d hd),rfl,Rq,fun z=>Wy ?_⟩⟩,hl⟩⟩
   ·obtain⟨i,hi⟩:=List.mem_iff_getElem?.mp hd
    have:=hb i _ hi
    unfold LI at this
    rw[z,nc]at this;cases this
   ·rw[<-hl];exact(Da hd).1
 rintro nr ds ab ⟨h1,hdl⟩
 refine Df (fun pt=>[some (.ref a),some (.ref r),some (.ref nr),some (.ref pt),none,none,none,none]) (fun pt ag=>FI false H ag m A nr pt ds (Hl m A) []) (fun N hN=>?_) ?_
 ·simp only[Zs,Zu,Zw,B6,B7]
  exact Ab fun c ag e3 n3 v3=>hN c _ ⟨h1.grow e3,h1.ext.isNone n3,(h1.fresh n3).1,(h1.fresh n3).2,Tt g,[],v3,rfl⟩
 rintro pt ag h3
 clear h1
 refine Ail (fun(r4:Option V) (r5:Option V) (r6:Option V) (r7:Option V) (ps:List (Int×Int))=>[some (.ref a),some (.ref r),some (.ref nr),some (.ref pt),r4,r5,r6,r7]) (fun(r4:Option V) (r5:Option V) (r6:Option V) (r7:Option V) (ps:List (Int×Int)) ah=>FI false H ah m A nr pt ds (elim (Hl m A) o) ps) (fun N1 hN1=>?_) ?_
 ·refine T8 ?_
  simp only[Zf,Zo,Zu,Zv,Ai,Am,Cm (hL.ext h3.ni.ext)]
  (refine Gw (Int.natCast_nonneg _) (by rw[Bk];exact(Int.ofNat_le.mpr (Af (Nat.le_of_eq hol) (Af hm (by decide))))) ?_;rw[Bk])
  refine Pf (fun i (r4:Option V) (r5:Option V) (r6:Option V) (r7:Option V) (B:Rl) (ps:List (Int×Int))=>[some (.ref a),some (.ref r),some (.ref nr),some (.ref pt),r4,r5,r6,r7]) (fun i (r4:Option V) (r5:Option V) (r6:Option V) (r7:Option V) (B:Rl) (ps:List (Int×Int)) ah=>(FI false H ah m A nr pt ds B ps)/\(elim B (o.drop i)=elim (Hl m A) o)) _ _ _ _ _ _ rfl ⟨h3,rfl⟩ ?_ ?_
  ·rintro i r4 r5 r6 r7 aw ps ah K hi ⟨h4,hB4⟩ hK
   have hil:i<o.length:=by simpa using hi
   have hx:=List.getElem?_eq_getElem hil
   generalize hox:o[i]=x at hx
   have hxr:=ho.mem.mp (List.mem_of_getElem? hx)
   simp only[Kr,List.set_cons_succ,List.set_cons_zero]
   refine Lf (fun(lt:Nat) (l:List Int)=>[some (.ref a),some (.ref r),some (.ref nr),some (.ref pt),some (.int i),some (.ref lt),r6,r7]) (fun(lt:Nat) (l:List Int) ak=>Vh (FI false H ak m A nr pt ds aw ps) (LI ak lt l) ((∀y,y∈l↔y∈o.drop (i+1)/\aw x y)) (lt≠pt) (lt∉ds)) (fun N hN=>?_) ?_
   ·simp only[Zf,Zn,Zu,Zv,Zw,Ai,Am,B6,B7,C9,true_and,hB]
    obtain⟨dx,_,lx,q1,q2,q3,rfl,q4,q5⟩:=h4.ni.at_ hdl hxr
    refine Ts hB (Af (Nat.le_of_eq hol) hm) h4.ni.near q1 q3 (hL.ext h4.ni.ext) hxr.1 hx fun s ak e5 n5 v5=>hN s _ _ ⟨h4.grow e5,v5,fun y=>?_,fun z=>?_,(h4.ni.fresh n5).2⟩
    ·rw[List.mem_filter,decide_eq_true_eq,q5]
    ·obtain⟨ks,p1,_⟩:=h4.pl
     rw[z,p1]at n5;cases n5
   rintro lt l ak ⟨h5,hl5,hlm,hlp,hld⟩
   have hlin:∀y∈l,0<=y/\y<(m:Int):=fun y hy=>ho.mem.mp (List.mem_of_mem_drop ((hlm y).mp hy).1)
   refine Ad (M8 ?_)
   simp only[Zf,Z0,Ai,Am]
   refine Aq hl5 ?_
   refine Ms (fun j (r6:Option V) (r7:Option V) (B:Rl) (ps:List (Int×Int))=>[some (.ref a),some (.ref r),some (.ref nr),some (.ref pt),some (.int i),some (.ref lt),r6,r7]) (fun j (r6:Option V) (r7:Option V) (B:Rl) (ps:List (Int×Int)) al=>O4 (FI false H al m A nr pt ds B ps) (LI al lt l) (Mid aw B l) (∀(c:Nat) (u v:Int),c<j->l[c]? = some u->v∈l->u<v->B u v)) _ _ _ _ rfl ⟨h5,hl5,.refl,fun c u v q=>absurd q (Nat.not_lt_zero _)⟩ ?_ ?_ ?_
   ·rintro j r6 r7 B ps al ⟨_,h6,_⟩;exact h6
   ·rintro j v r6 r7 aR aZ al K' hv ⟨h6,hl6,md,all⟩ hK'
    obtain⟨y,hy,rfl⟩:=LI.at_ (a:=lt) hv
    have hym:=List.mem_of_getElem? hy
    have hyr:=hlin y hym
    simp only[Kq,List.set_cons_succ,List.set_cons_zero]
    refine Ad (M8 ?_)
    simp only[Zf,Z0,Ai,Am]
    refine Aq hl6 ?_
    refine D9 (fun t (r7:Option V) (B:Rl) (ps:List (Int×Int))=>[some (.ref a),some (.ref r),some (.ref nr),some (.ref pt),some (.int i),some (.ref lt),some (.int y),r7]) (fun t (r7:Option V) (B:Rl) (ps:List (Int×Int)) aq=>Vh (FI false H aq m A nr pt ds B ps) (LI aq lt l) (Mid aw B l) ((∀u v,aR u v->B u v)) (∀(c:Nat) (v:Int),c<t->l[c]? = some v->y<v->B y v)) _ _ _ rfl ⟨h6,hl6,md,fun _ _ q=>q,fun c v q=>absurd q (Nat.not_lt_zero _)⟩ ?_ ?_ ?_
    ·rintro t r7 B ps aq ⟨_,h8,_⟩;exact h8
    ·rintro t v r7 B ps aq K'' hv8 ⟨h8,hl8,md8,up,row⟩ hK''
     obtain⟨z,hz,rfl⟩:=LI.at_ (a:=lt) hv8
     have hzm:=List.mem_of_getElem? hz
     have hzr:=hlin z hzm
     obtain⟨dy,_,ly,q1,q2,q3,rfl,q4,q5⟩:=h8.ni.at_ hdl hyr
     have row':∀ {B':Rl},(∀u v,B u v->B' u v)->(y<z->B' y z)->∀(c:Nat) (v:Int),c<t+1->l[c]? = some v->y<v->B' y v:=fun hu hy' c v q h h'=>by
      rcases Nat.lt_or_eq_of_le (Nat.le_of_lt_succ q)with e|rfl
      ·exact hu _ _ (row c v e h h')
      ·rw[hz]at h
       cases h
       exact hy' h'
     simp only[Ko,List.set_cons_succ,List.set_cons_zero]
     refine Ad ?_
     refine Bm (decide (y<z) && !decide (z∈ly)) (fun Q' h'=>?_) ?_
     ·simp only[Zf,Zi,Zl,Zq,Z8,Ch,Ai,Am,A9 h8.ni.near hyr.1 q1,Ja (show LI aq dy ly from q3)]
      split
      ·rename_i h;rw[h,Bool.true_and]at h';exact h'
      ·rename_i h;rw[Bool.not_eq_true]at h;rw[h,Bool.false_and]at h';exact h'
     by_cases hk:y<z/\z∉ly
     ·rw[if_pos (by simpa using hk)]
      obtain⟨hlt,hk⟩:=hk
      have hyz:y≠z:=(Int.ne_of_lt hlt)
      have hnB:¬B y z:=fun q=>hk ((q5 z).mpr q)
      have hel:(ly.map V.int).length<1048576:=by rw[Bk];have:=q4.len;exact O5 hm this
      have hdm:=List.mem_of_getElem? q2
      have ap:∀(l:List Int) (z:Int),(.list (l.map V.int ++ [.int z]):O) = .list ((l ++ [z]).map V.int):=fun l z=>by rw[List.map_append];rfl
      have h9:NI false H (upd aq dy (.list (ly.map V.int ++ [.int z]))) m nr ds (fun a b=>B a b\/(a=y/\b=z)):=h8.ni.put hyr.1 q2 q5 (ap ly z) (q4.add hzr hk)
      have pl9:PL (upd aq dy (.list (ly.map V.int ++ [.int z]))) pt ps:=h8.pl.upd q3 (fun _=>nofun) fun e=>h8.nd (e▸hdm)
      have hl9:LI (upd aq dy (.list (ly.map V.int ++ [.int z]))) lt l:=hl8.upd_ne fun e=>hld (e▸hdm)
      simp (disch:=first|decide|omega) only[Zf,Zq,Zt,Zu,Zv,Zx,Z0,Z1,Ai,Am,true_and,Bo,A9 h8.ni.near hyr.1 q1,A8 q3,Bq q3 hel]
      generalize upd aq dy (.list (ly.map V.int ++ [.int z]))=ax at *
      obtain⟨dz,_,lz,u1,u2,u3,rfl,u4,u5⟩:=h9.at_ hdl hzr
      have hez:(lz.map V.int).length<1048576:=by rw[Bk];have:=u4.len;exact O5 hm this
      have hem:=List.mem_of_getElem? u2
      have hkz:y∉lz:=fun q=>((u5 y).mp q).elim (fun q=>hnB (h8.pb.sym _ _ q)) fun q=>hyz q.1.symm
      have h10:NI false H (upd ax dz (.list (lz.map V.int ++ [.int y]))) m nr ds (Rp B y z):=(h9.put hzr.1 u2 u5 (ap lz y) (u4.add hyr hkz)).rel fun a b=>or_assoc
      have pl10:PL (upd ax dz (.list (lz.map V.int ++ [.int y]))) pt ps:=pl9.upd u3 (fun _=>nofun) fun e=>h8.nd (e▸hem)
      have hl10:LI (upd ax dz (.list (lz.map V.int ++ [.int y]))) lt l:=hl9.upd_ne fun e=>hld (e▸hem)
      simp (disch:=first|decide|omega) only[true_and,A9 h9.near hzr.1 u1,A8 u3,Bq u3 hez]
      generalize upd ax dz (.list (lz.map V.int ++ [.int y]))=aE at *
      obtain⟨ks,p1,p2⟩:=pl10
      have hpl:(ks.map V.ref).length<1048576:=by rw[Bk,p2.len];have:=h8.pb.len hm;exact Nat.lt_of_le_of_lt this (by decide)
      simp (disch:=first|decide|omega) only[true_and,A8 p1]
      refine Ab fun t' aI e11 n11 v11=>?_
      (try dsimp only)
      refine Gx (e11 _ _ p1) hpl ?_
      exact hK'' _ (Rp B y z) _ _ ⟨⟨(h10.grow e11).other h8.np h8.ne h8.nd,h8.np,h8.ne,h8.nd,h8.pb.add hyr hzr hlt hnB,(p2.ext e11).put (e11 _ _ p1) v11⟩,LI.upd_ne (e11 _ _ hl10) hlp,md8.add hym hzm hyz,fun u v q=> .inl (up u v q),row' (fun _ _ q=> .inl q) fun _=> .inr (.inl ⟨rfl,rfl⟩)⟩
     ·rw[if_neg (by simpa using hk),Z0,Z0]
      refine hK'' _ B ps _ ⟨h8,hl8,md8,up,row' (fun _ _ q=>q) fun h=>(q5 z).mp ?_⟩
      exact Classical.byContradiction fun e=>hk ⟨h,e⟩
    ·rintro r7 B ps aq ⟨h8,hl8,md8,up,row⟩
     refine hK' _ _ B ps _ ⟨h8,hl8,md8,fun c u v q1 h1 hv2 h2=>?_⟩
     rcases Nat.lt_or_eq_of_le (Nat.le_of_lt_succ q1)with z|rfl
     ·exact up _ _ (all c u v z h1 hv2 h2)
     ·rw[hy]at h1
      cases h1
      obtain⟨b,hb⟩:=List.mem_iff_getElem?.mp hv2
      exact row b v (by rw[Bk];exact(Da hb).1) hb h2
   ·rintro r6 r7 B ps al ⟨h6,_,md,all⟩
    rw[Bk]at all
    refine hK _ _ _ _ B ps _ ⟨h6,?_⟩
    rw[<-hB4,List.drop_eq_getElem_cons hil,hox]
    refine md.done h6.pb.sym hlm fun u v hu hv hne=>?_
    have one:∀u v,u∈l->v∈l->u<v->B u v:=fun u v hu hv hlt=>by
     obtain⟨c,hc⟩:=List.mem_iff_getElem?.mp hu
     exact all c u v (Da hc).1 hc hv hlt
    rcases Int.lt_or_gt_of_ne hne with c|c
    ·exact .inl (one u v hu hv c)
    ·exact .inr (one v u hv hu c)
  ·rintro r4 r5 r6 r7 B ps ah ⟨h4,hB⟩
   rw[Int.toNat_natCast,List.drop_length]at hB
   have hB:B=_:=hB
   subst hB
   exact hN1 _ _ _ _ ps _ h4
 rintro r4 r5 r6 r7 ps ah h4
 refine Ad (Nk ?_)
 simp only[Zf,Zo,Zu,Zv,Ai,Am]
 exact h4.sort hm q
set_option linter.all false
variable {G:A2} {n:Nat} {H H':AH} {Q:Ag} {E:EP} {C:CS} {ρ:Ak} {m a b:Nat} {A:Nat->Nat->Bool} {ps:List (Int×Int)}
theorem Tv{k x y:Nat}{p:Int×Int}(hx:H x=some (E9 p))(hy:H y=some (E9 p)):Hx (k+1) H (.ref x) (.ref y)=some true:=by
 unfold E9 at hx hy
 conv=>lhs;whnf
 rw[hx,hy]
 have e:∀i:Int,Hx k H (.int i) (.int i)=some true:=fun i=>by
  have:W2 (.int i) (.int i)=some true:=by show some (decide (i=i))=some true;rw[decide_eq_true rfl]
  cases k with
  | zero=>exact this
  | succ k=>exact this
 show (if 2=2 then Fg [Hx k H (.int p.1) (.int p.1),Hx k H (.int p.2) (.int p.2)]else none)=some true
 rw[e,e];rfl
theorem Acf{x y:Nat}{p:Int×Int}(hx:H x=some (E9 p))(hy:H y=some (E9 p)):Bd .NotEq (.ref x) (.ref y) H Q=Q (.bool false) H:=by
 have:Hx C7 H (.ref x) (.ref y)=some true:=Tv hx hy
 show Ff (Hx C7 H (.ref x) (.ref y)) (fun r=>Q (.bool (!r)) H)=_
 rw[this];rfl
theorem Yr{x y:Nat}{p:Int×Int}(hx:H x=some (E9 p))(hy:H y=some (E9 p))(kk:Q (.bool false) H):Bd .NotEq (.ref x) (.ref y) H Q:=Eq.mpr (Acf hx hy) kk
theorem Ql:∀ {l:List (Option Bool)},(∀x∈l,x=some true)->Fg l=some true
 | [],_=>rfl
 | x::r,h=>by
   have h1:=h x (.head _)
   subst h1
   show (Fg r).map (true && ·)=some true
   rw[Ql fun y hy=>h y (.tail _ hy)];rfl
theorem Agw(ha:PL H a ps)(hb:PL H b ps):Bd .NotEq (.ref a) (.ref b) H Q=Q (.bool false) H:=by
 obtain⟨as,ha,pa⟩:=ha
 obtain⟨bs,hb,pb⟩:=hb
 have:Hx C7 H (.ref a) (.ref b)=some true:=by
  show Hx (4+1) H (.ref a) (.ref b)=some true
  rw[Abr ha hb,Bk,Bk,if_pos (pa.len.trans pb.len.symm)]
  refine Ql fun x hx=>?_
  obtain⟨i,hi⟩:=List.mem_iff_getElem?.mp hx
  rw[List.getElem?_zipWith,List.getElem?_map,List.getElem?_map]at hi
  cases h1:as[i]? with
  | none=>rw[h1]at hi;cases hi
  | some y=>
    obtain⟨p,hp,e1⟩:=pa.ex h1
    have hl:=(Da hp).1
    rw[<-pb.len]at hl
    have h2:=List.getElem?_eq_getElem hl
    generalize bs[i]=z at h2
    rw[h1,h2]at hi
    have hi':some (Hx 4 H (.ref y) (.ref z))=some x:=hi
    cases hi'
    exact Tv (k:=3) e1 (pb.at_ h2 hp)
 show Ff (Hx C7 H (.ref a) (.ref b)) (fun r=>Q (.bool (!r)) H)=_
 rw[this];rfl
theorem Wz(hW:G.fn "_law_whole" = some D5)(hG:G.fn "_law_pairs" = some H8)(pa:PL H a ps)(pb:PL H b ps)(hl:ps.length<=6000)(q:Q (.bool true) H) :
 Ae G (n+2) "_law_pairs" [.ref a,.ref b] H Q E:=by
 obtain⟨as,ha,pa⟩:=pa
 obtain⟨bs,hb,pb⟩:=pb
 have la:=pa.len
 have lb:=pb.len
 refine Aj hG rfl ?_
 simp only[H8,List.map,List.replicate,List.cons_append,List.nil_append]
 refine Hz ([some (.ref a),some (.ref b),none]) (fun ab=>H=ab) (fun N hN=>?_) ?_
 ·refine Bm false (fun Q' h'=>?_) ?_
  ·simp only[Zf,Zg,Zj,Zl,Zo,Zu,Zv,Zbd,Ch,Ai,Am,Tn ha,Cm ha,Cm hb]
   rw[Bk,Bk,la,lb]
   simpa using h'
  rw[if_neg (by decide)]
  simp only[Z0]
  exact hN _ rfl
 rintro _ rfl
 refine Ad (T8 ?_)
 simp only[Zd,Zf,Zo,Zu,Zv,Zy,Z0,Z1,Ai,Am,Cm hb]
 refine Gw (Int.natCast_nonneg _) (by rw[Bk];exact(Int.ofNat_le.mpr (Af (Nat.le_of_eq lb) (Af hl (by decide))))) ?_
 refine Bs (fun i r2=>[some (.ref a),some (.ref b),r2]) (fun i r2 ab=>H=ab) _ rfl rfl ?_ ?_
 ·rintro i r2 _ K hi rfl hK
  have hi':i<ps.length:=by simpa[lb]using hi
  have hx:=List.getElem?_eq_getElem (show i<as.length by exact Acn la hi')
  have hy:=List.getElem?_eq_getElem (show i<bs.length by exact Acn lb hi')
  have hp:=List.getElem?_eq_getElem hi'
  generalize as[i]=x at hx
  generalize bs[i]=y at hy
  generalize ps[i]=p at hp
  have ox:=pa.at_ hx hp
  have oy:=pb.at_ hy hp
  have sx:(as.map V.ref)[(i:Int).toNat]? = some (.ref x):=by rw[Int.toNat_natCast,List.getElem?_map,hx];rfl
  have sy:(bs.map V.ref)[(i:Int).toNat]? = some (.ref y):=by rw[Int.toNat_natCast,List.getElem?_map,hy];rfl
  have gx:∀Q':Ag,C3 (.ref a) (.int i) H Q'=Q' (.ref x) H:=fun Q'=>A9 ha (Int.natCast_nonneg i) sx
  have gy:∀Q':Ag,C3 (.ref b) (.int i) H Q'=Q' (.ref y) H:=fun Q'=>A9 hb (Int.natCast_nonneg i) sy
  have ox':H x=some (.tuple [.int p.1,.int p.2]):=ox
  have g0:∀Q':Ag,C3 (.ref x) (.int 0) H Q'=Q' (.int p.1) H:=fun Q'=>Iw ox' (by decide) rfl
  have g1:∀Q':Ag,C3 (.ref x) (.int 1) H Q'=Q' (.int p.2) H:=fun Q'=>Iw ox' (by decide) rfl
  simp only[H7,List.set_cons_succ,List.set_cons_zero]
  refine Hz ([some (.ref a),some (.ref b),some (.int i)]) (fun ab=>H=ab) (fun N hN=>?_) ?_
  ·refine Bm false (fun Q' h'=>?_) ?_
   ·simp only[Ze,Zf,Zg,Zj,Zl,Zo,Zq,Zu,Zv,Zbd,Ch,Ai,Am,gx,Yb ox',Age ox']
    simpa using h'
   rw[if_neg (by decide)]
   simp only[Z0]
   exact hN _ rfl
  rintro _ rfl
  refine Ad ?_
  refine Bm false (fun Q' h'=>?_) ?_
  ·simp only[Ze,Zf,Zg,Zj,Zl,Zn,Zq,Zu,Zv,Ch,Ai,Am,C9,true_and,gx,g0,hW]
   refine Rj hW ?_
   (try dsimp only);(try simp only[Ch])
   simp only[Bool.not_true,Bool.false_eq_true,if_false]
   simp only[gx,g1]
   refine Rj hW ?_
   (try dsimp only);(try simp only[Ch])
   simp only[Bool.not_true,Bool.false_eq_true,if_false]
   simp only[gx,gy]
   refine Yr ox oy ?_
   exact h'
  rw[if_neg (by decide),Z0,Z0]
  exact hK _ _ rfl
 ·rintro r2 _ rfl
  exact q
/-! the ties of a web -/
noncomputable def O0(m:Nat)(A:Nat->Nat->Bool)(i:Nat):List (Int×Int):=((Ao m A i).filter fun y=>decide ((i:Int)<y)).map fun y=>((i:Int),y)
noncomputable def Jx(m:Nat)(A:Nat->Nat->Bool)(k:Nat):List (Int×Int):=(List.range k).flatMap (O0 m A)
theorem Ka{k:Nat}:Jx m A (k+1)=Jx m A k++O0 m A k:=by simp[Jx,List.range_succ]
theorem O1{i:Nat}:(O0 m A i).length<=m:=by
 unfold O0
 rw[Bk]
 exact Af (List.length_filter_le _ _) Dw
theorem L0:∀ {k:Nat},(Jx m A k).length<=m*k:=by
 intro k
 induction k with
 | zero=>exact Nat.le_refl _
 | succ k ih=>
   rw[Ka,List.length_append,Nat.mul_succ]
   exact Nat.add_le_add ih O1
theorem Aew(B:Iv G){w:Nat}(hm:m<=60)(hW:C1 H w m A)(q:∀a as H',TB H H' a as (Jx m A m)->Q (.ref a) H'):Ae G (n+1) "Web.ties" [.ref w] H Q E:=by
 refine Aa fun nY=>?_
 obtain⟨d,rs,w1,w2,w3⟩:=hW
 refine nY ?_;clear nY
 refine Aj B.wties rfl ?_
 simp only[Np,List.map,List.replicate,List.cons_append,List.nil_append]
 refine Df (fun fd=>[some (.ref w),some (.ref fd),none,none]) (fun fd ab=>TB H ab fd [] []) (fun N hN=>?_) ?_
 ·simp only[Zs,Zu,Zw,B6,B7]
  exact Ab fun a ab e n v=>hN a _ ⟨e,n,v,rfl,fun _ h=>absurd h List.not_mem_nil⟩
 rintro fd ab b1
 have at1:∀ {X:AH},Al H X->X w=some (.inst .web d)/\X d=some (.ns [(C2.many,V.int m),(C2.rows,V.ref rs)]):=fun e=>⟨e _ _ w1,e _ _ w2⟩
 refine Ad (T8 ?_)
 simp (disch:=first|decide|omega) only[Zf,Zp,Zu,Zv,Zy,Z0,Z1,Qd,Ai,Ge (at1 b1.ext).1 (at1 b1.ext).2 (show Jc [(C2.many,V.int m),(C2.rows,V.ref rs)] .many=some (.int m)from rfl)]
 refine Jw (fun i (r2:Option V) (r3:Option V) (as:List Nat)=>[some (.ref w),some (.ref fd),r2,r3]) (fun i (r2:Option V) (r3:Option V) (as:List Nat) ae=>TB H ae fd as (Jx m A i)) _ _ [] rfl b1 ?_ ?_
 ·rintro i r2 r3 as ae K hi b hK
  have hi':i<m:=hi
  refine Aa fun nY=>?_
  obtain⟨as',z,a1,a2,a3,a4⟩:=(w3.ext b.ext).row (x:=i) T4 (W4 hi')
  have hzf:z≠fd:=fun h=>by
   refine Aa fun nY=>?_
   obtain⟨as0,z0,c1,c2,c3,c4⟩:=w3.row (x:=i) T4 (W4 hi')
   have e:ae rs=some (.list (as0.map V.ref)):=b.ext _ _ c1
   rw[a1]at e
   have e':as'.map V.ref=as0.map V.ref:=(by injection e with e;injection e)
   rw[e',c3]at a3
   cases a3
   unfold LI at c4
   rw[h,b.new]at c4;cases c4
  refine nY ?_;clear nY
  simp only[Jg,Z1,Z0,List.set_cons_succ,List.set_cons_zero]
  refine M8 ?_
  simp only[Zf,Zp,Zq,Ai,Am,Ge (at1 b.ext).1 (at1 b.ext).2 (show Jc [(C2.many,V.int m),(C2.rows,V.ref rs)] .rows=some (.ref rs)from rfl),A9 a1 (Int.natCast_nonneg i) a3]
  rw[Int.toNat_natCast]at a4
  refine Aq a4 ?_
  refine F0 (fun j (r3:Option V) (as:List Nat)=>[some (.ref w),some (.ref fd),some (.int i),r3]) (fun j (r3:Option V) (as:List Nat) ag=>(LI ag z (Ao m A i))/\(TB H ag fd as (Jx m A i++(((Ao m A i).take j).filter fun y=>decide ((i:Int)<y)).map fun y=>((i:Int),y)))) _ as rfl ⟨a4,by simpa using b⟩ ?_ ?_ ?_
  ·rintro j r3 as ag ⟨h,_⟩;exact h
  ·rintro j v r3 as ag K3 hv ⟨hz3,b3⟩ hK3
   obtain⟨y,hy,rfl⟩:=LI.at_ (a:=z) hv
   have hjl:=(Da hy).1
   have hal:(Ao m A i).length<=m:=Dw
   simp only[Jf,Z1,Z0,List.set_cons_succ,List.set_cons_zero]
   refine Bm (decide ((i:Int)<y)) (fun Q' h'=>?_) ?_
   ·simp only[Zf,Zl,Z8,Ai,Am];exact h'
   split
   ·rename_i hlt
    have hasl:as.length<1048576:=by
     rw[b3.prs.len,List.length_append,Bk]
     have h1:=L0 (m:=m) (A:=A) (k:=i)
     have h2:=List.length_filter_le (fun y=>decide ((i:Int)<y)) ((Ao m A i).take j)
     have h3:((Ao m A i).take j).length<=m:=Af (by simp;exact(Nat.min_le_right _ _)) hal
     have h4:m*i<=60*60:=Nat.mul_le_mul hm (Af (Nat.le_of_lt hi') hm)
     exact Nat.lt_of_le_of_lt (Nat.add_le_add (Af h1 h4) (Af h2 (Af h3 hm))) (by decide)
    simp (disch:=first|decide|omega) only[Zf,Zt,Zu,Zv,Zx,Z0,Z1,Ai,Am,true_and,Bo,A8 b3.at_]
    refine Ab fun tp ah e4 n4 v4=>?_
    (try dsimp only)
    refine Gx (e4 _ _ b3.at_) (by rw[Bk];exact hasl) ?_
    refine hK3 _ (as ++ [tp]) _ ⟨(hz3.ext e4).upd_ne hzf,?_⟩
    have:=b3.snoc (p:=((i:Int),y)) e4 n4 v4
    rw[List.take_add_one,hy]
    simpa[hlt]using this
   ·rename_i hlt
    simp only[Z0]
    refine hK3 _ as _ ⟨hz3,?_⟩
    rw[List.take_add_one,hy]
    simpa[hlt]using b3
  ·rintro r3 as ag ⟨hz3,b3⟩
   rw[Bk,List.take_of_length_le (Nat.le_refl _)]at b3
   exact hK _ _ as _ (by rw[Ka];exact b3)
 ·rintro r2 r3 as ae b
  try simp only[Ai,Am]
  exact q fd as ae b
theorem Aiu{nr:Nat}{i:Nat}(h3:ρ[3]? = some (some (.ref nr)))(h12:ρ[12]? = some (some (.int i)))(hm:m<=60)(hi:i<m)(hN:Ea H nr m A)
 (q:∀a as H',Al H H'->H a=none->(∀x∈as,H x=none)->H' a=some (.list (as.map V.ref))->An H' as (O0 m A i)->Q (.ref a) H') :
 Aw G C (.compIf 1 (.val (.sub (.var 3) (.var 12))) Ig Ih) ρ H Q E:=by
 obtain⟨as',z,a1,a2,a3,a4⟩:=hN.row (x:=i) T4 (W4 hi)
 rw[Int.toNat_natCast]at a4
 have hlen:=Dw (m:=m) (A:=A) (i:=i)
 refine hvK ?_
 simp only[Zf,Zq,Z2,Eg,Eh,List.replicate,h3,h12]
 refine Fy a1 T4 a3 (Aq a4 ?_)
 refine⟨by simp[Bp];exact(Af (Af hlen hm) (by decide)),?_⟩
 refine Cf (k:=0) (fun j acc H'=>(O2 fun(as:List Nat)=>O4 (acc=as.map V.ref) (Al H H') ((∀x∈as,H x=none)) (An H' as ((((Ao m A i).take j).filter fun y=>decide ((i:Int)<y)).map fun y=>((i:Int),y))))) ⟨[],rfl,Al.refl,by simp,rfl⟩ ?_ ?_
 ·rintro j x acc ab K hx ⟨as,rfl,e1,hn1,p1⟩ hK
  rw[List.getElem?_map]at hx
  obtain⟨v,hv,rfl⟩:=Option.map_eq_some_iff.mp hx
  obtain⟨y,hy,rfl⟩:=LI.at_ (a:=z) hv
  refine⟨e1 _ _ a4,_,rfl,?_⟩
  simp only[Zf,Zl,Zt,Zu,Zv,Zba,Ch,Ai,Am,Ig,Ih,h12]
  rw[Nat.zero_add]at hK p1
  rw[List.take_add_one,hy]at hK
  split
  ·rename_i hlt
   refine Ab fun tp ae e2 n2 v2=>hK _ _ ⟨as ++ [tp],by simp,e1.trans e2,fun x hx=>?_,?_⟩
   ·rcases List.mem_append.mp hx with hx|hx
    ·exact hn1 x hx
    ·simp at hx;subst hx;exact e1.isNone n2
   ·have:=(p1.ext e2).app (An.one (p:=((i:Int),y)) v2)
    simpa[hlt]using this
  ·rename_i hlt
   refine hK _ _ ⟨as,rfl,e1,hn1,?_⟩
   simpa[hlt]using p1
 ·rintro acc ab ⟨as,rfl,e1,hn1,p1⟩
  refine⟨e1 _ _ a4,Ab fun a ae e2 n2 v2=>q a as ae (e1.trans e2) (e1.isNone n2) hn1 v2 ?_⟩
  rw[Bk,Bk,Nat.zero_add,List.take_of_length_le (Nat.le_refl _)]at p1
  exact p1.ext e2
set_option linter.all false
variable {G:A2} {n:Nat} {H H' ab ae:AH} {Q:Ag} {E:EP} {C:CS} {ρ:Ak} {w m r nr od a b hd kp:Nat} {A:Nat->Nat->Bool} {o l l':List Int} {k p:Int} {N:Ak->AH->Prop} {R:Ag} {ps:List (Int×Int)}
structure F08(G:A2):Prop where
 f3:Yl G
 many:G.fn "_law_many" = some F8
 keyed:G.fn "_law_keyed" = some Fq
 lBehind:G.fn "_law_behind" = some Ep
 untied:G.fn "_law_untied" = some Dk
 free:G.fn "_law_free" = some G7
 order:G.fn "_law_order" = some E2
 whole:G.fn "_law_whole" = some D5
 numbers:G.fn "_law_numbers" = some F6
 pairs:G.fn "_law_pairs" = some H8
 within:G.fn "_law_within" = some G6
 filled:G.fn "filled" = some Ny
 due:G.fn "_law_due" = some Ll
 law:G.fn "law" = some Sb
theorem Agx{y i j:Nat}{xs:List V}{rest:List S}(hi:ρ[i]? = some (some (.ref hd)))(hj:ρ[j]? = some (some (.ref y)))(hh:H hd=some (.list xs))(hl:LI H y l)(hy:y≠hd)(hll:l.length<=61)
 (q:∀H',Al (Yt H hd) H'->LI H' hd l->Bh G C rest ρ H' N R E):Bh G C (.expr (.lm .clear (.var i) []) :: .expr (.lm .extend (.var i) [.var j])::rest) ρ H N R E:=by
 (refine Ad (Vp (Ae3 (Ni ?_)));rw[hi])
 dsimp only
 rw[A8 hh (by decide),Zu,Aeh hh]
 refine⟨trivial,?_⟩
 have hc4:upd H hd (.list []) hd=some (.list []):=Ac
 have hl4:LI (upd H hd (.list [])) y l:=hl.upd_ne hy
 have e4:Al (Yt H hd) (upd H hd (.list [])):=Aej.upd' Tk
 generalize upd H hd (.list [])=ah at *
 (refine Ad (Vp (Ae3 (Ni ?_)));rw[hi])
 dsimp only
 rw[A8 hc4 (by decide),Zv,Zf,hj]
 dsimp only
 rw[Zu,Abu hc4 hl4 (Ne.symm hy) (by simp;exact(Af hll (by decide))),List.nil_append]
 exact⟨trivial,q _ (e4.upd' Tk) Ac⟩
theorem Bj.of_perm(ho:Bj m o)(h:l.Perm o):Bj m l:=Ou (h.nodup_iff.mpr ho.nodup) fun x=>h.mem_iff.trans ho.mem
theorem Alq{x:Nat}{p:Nat->Prop}{x1 x2 x3 x4:Nat}(h1:p x1)(h2:p x2)(h3:p x3)(h4:p x4)(hx:x∈[x1,x2,x3,x4]):p x:=by
 refine Aa fun nY=>?_
 rcases List.mem_cons.mp hx with rfl|hx
 ·refine nY ?_;clear nY
  exact h1
 rcases List.mem_cons.mp hx with rfl|hx
 ·refine nY ?_;clear nY
  exact h2
 rcases List.mem_cons.mp hx with rfl|hx
 ·refine nY ?_;clear nY
  exact h3
 refine nY ?_;clear nY
 rw[List.mem_singleton.mp hx];exact h4
noncomputable def I4(H:AH)(p q:Nat):AH:=fun z=>if z=p\/z=q then none else H z
theorem Tw{p q:Nat}:Al (I4 H p q) H:=fun z o e=>by
 unfold I4 at e
 split at e
 ·cases e
 ·exact e
theorem Jb{p q z:Nat}{o:O}(h:H z=some o)(h1:z≠p)(h2:z≠q):I4 H p q z=some o:=by
 unfold I4;rw[if_neg fun w=>w.elim h1 h2];exact h
theorem W0{p q:Nat}(e:Al H H')(hp:H p=none)(hq:H q=none):Al H (I4 H' p q):=fun z o h=>Jb (e _ _ h) (fun w=>by rw[w,hp]at h;cases h) fun w=>by rw[w,hq]at h;cases h
theorem Acg{p q:Nat}:I4 H p q p=none:=by unfold I4;rw[if_pos (.inl rfl)]
theorem Vg{p q:Nat}:I4 H p q q=none:=by unfold I4;rw[if_pos (.inr rfl)]
structure Kp(D H:AH)(hd kp:Nat)(ts:List Nat):Prop where
 ext:Al D H
 nh:D hd=none
 nk:D kp=none
 hd:∃xs,H hd=some (.list xs)
 kp:H kp=some (.list (ts.map V.ref))
 all:∀t∈ts,(Ex3 fun(a c:Nat) (ps:List (Int×Int))=>Fe (D t=some (.tuple [.ref a,.ref c])) (PL D a ps) (PL D c ps))
theorem Kp.grow{D:AH}{ts:List Nat}(s:Kp D H hd kp ts)(e:Al H H'):Kp D H' hd kp ts:=⟨s.ext.trans e,s.nh,s.nk,let ⟨xs,h⟩:=s.hd;⟨xs,e _ _ h⟩,e _ _ s.kp,s.all⟩
theorem W1{x y:Nat}(h:PL H a ps)(ha:a≠x)(hb:a≠y)(hx:∃xs,H x=some (.list xs))(hy:∃xs,H y=some (.list xs)):PL (I4 H x y) a ps:=by
 obtain⟨ks,h1,h2⟩:=h
 obtain⟨xs,hx⟩:=hx
 obtain⟨ys,hy⟩:=hy
 refine⟨ks,Jb h1 ha hb,h2.ext' fun k hk o ho=>?_⟩
 obtain⟨p,_,e⟩:=h2.tup hk
 exact Jb ho (fun z=>by rw[z,hx]at e;cases e) fun z=>by rw[z,hy]at e;cases e
theorem Agy(F:F08 G){D:AH}{y i:Nat}{ts:List Nat}{r0 r2 r8 r11 r12:Option V}{K:Ak->AH->Prop}(g:Gr A)(hm:m<=60)(hW:C1 D w m A)(hN:Ea D nr m A)(vo:LI D od o)(ho:Bj m o)(hl:LI D y l)(hio:Bj m l)(hhk:hd≠kp)(s:Kp D H hd kp ts)(htl:ts.length<=60)
 (hK:∀D' t r11 r12 H',Al D D'->Kp D' H' hd kp (ts ++ [t])->K [r0,some (.int m),r2,some (.ref nr),some (.ref od),some (.ref w),some (.ref hd),some (.ref kp),r8,some (.int (i:Int)),some (.ref y),r11,r12,none,none,none] H') :
 Bh G (Ae G (n+7)) Ie [r0,some (.int m),r2,some (.ref nr),some (.ref od),some (.ref w),some (.ref hd),some (.ref kp),r8,some (.int (i:Int)),some (.ref y),r11,r12,none,none,none] H K R E:=by
 have F2:=F.f3.fns2
 have B:=F2.fns.base
 have hll:=hio.len
 simp only[Ie]
 refine Hz ([r0,some (.int m),r2,some (.ref nr),some (.ref od),some (.ref w),some (.ref hd),some (.ref kp),r8,some (.int (i:Int)),some (.ref y),r11,r12,none,none,none]) (fun ab=>Kp D ab hd kp ts) (fun N hN'=>?_) ?_
 ·refine Bm (decide ((i:Int)=1)) (fun Q' h'=>?_) ?_
  ·simp only[Ze,Zf,Zl,X2,Ai,Am]
   exact h'
  split
  ·refine Ad ?_
   simp only[Zf,Zn,Zu,Zv,Zx,Z0,Ai,Am,C9,true_and,F.f3.judged]
   exact Ab8 F.f3 g hm (hW.ext s.ext) fun v ab e1=>hN' _ (s.grow e1)
  ·refine I6 ?_
   exact hN' _ s
 rintro ab s
 refine Hz ([r0,some (.int m),r2,some (.ref nr),some (.ref od),some (.ref w),some (.ref hd),some (.ref kp),r8,some (.int (i:Int)),some (.ref y),r11,r12,none,none,none]) (fun ae=>Kp D ae hd kp ts) (fun N hN'=>?_) ?_
 ·refine Bm (decide ((0:Int)<i)) (fun Q' h'=>?_) ?_
  ·simp only[Ze,Zf,Zl,Zba,Ai,Am]
   exact h'
  split
  ·refine Ad ?_
   simp only[Zc,Ze,Zf,Zh,Zn,Zr,Zu,Zv,Zx,Z0,Ai,Am,C9,true_and,F2.gap]
   refine Abt (vo.ext s.ext) ?_
   refine Ab fun rv ae e2 n2 v2=>?_
   (try dsimp only)
   have v2':LI ae rv o.reverse:=by unfold LI;rw[v2,List.map_reverse]
   refine Afb F2 hm (hW.ext (s.ext.trans e2)) v2' (ho.of_perm (List.reverse_perm o)) fun ag e3=>?_
   have fin:∀H',Al ag H'->N [r0,some (.int m),r2,some (.ref nr),some (.ref od),some (.ref w),some (.ref hd),some (.ref kp),r8,some (.int (i:Int)),some (.ref y),r11,r12,none,none,none] H':=fun H' e=>hN' _ (s.grow ((e2.trans e3).trans e))
   cases gp A o.reverse with
   | none=>
     (try dsimp only)
     exact fin _ Al.refl
   | some t=>
     intro x hx
     (try dsimp only)
     exact fin _ (Al.upd hx)
  ·refine I6 ?_
   exact hN' _ s
 rintro ae s
 obtain⟨xs,hh⟩:=s.hd
 have hyh:y≠hd:=hl.ne_none s.nh
 refine Agx rfl rfl hh (hl.ext s.ext) hyh (Af (Nat.le_of_eq hll) (Af hm (by decide))) fun ag e3 hc=>?_
 have d3:Al D ag:=(Wq s.ext s.nh).trans e3
 have k3:ag kp=some (.list (ts.map V.ref)):=e3 _ _ (by unfold Yt;rw[if_neg (Ne.symm hhk)];exact s.kp)
 refine Lf (fun(a:Nat) (ps:List (Int×Int))=>[r0,some (.int m),r2,some (.ref nr),some (.ref od),some (.ref w),some (.ref hd),some (.ref kp),r8,some (.int (i:Int)),some (.ref y),some (.ref a),r12,none,none,none]) (fun(a:Nat) (ps:List (Int×Int)) ah=>O4 (Al ag ah) (ag a=none) (PL ah a ps) (Vf m A l ps)) (fun N hN=>?_) ?_
 ·simp only[Zf,Zn,Zu,Zv,Zw,Ai,Am,B6,B7,C9,true_and,F.filled]
  exact Ace F2 F.filled g hm (hW.ext d3) hc hio fun a ps ah e4 n4 v4 h1=>hN a ps _ ⟨e4,n4,v4,h1⟩
 rintro a ps ah ⟨e4,na,va,hps⟩
 have hah:a≠hd:=Ne.symm (hc.ne_none na)
 have hak:a≠kp:=fun z=>by rw[z,k3]at na;cases na
 have d4:=d3.trans e4
 have hpl:=hps.len
 refine Hz ([r0,some (.int m),r2,some (.ref nr),some (.ref od),some (.ref w),some (.ref hd),some (.ref kp),r8,some (.int (i:Int)),some (.ref y),some (.ref a),r12,none,none,none]) (fun ak=>Al ah ak) (fun N hN'=>?_) ?_
 ·refine Bv (Vo ?_)
  simp only[Zd,Zf,Zg,Zl,Zn,Zu,Zv,Zy,Z0,Z1,Ch,Ai,Am]
  (refine Agp (hc.ext e4) (hl.ext d4) ?_;rw[decide_eq_true rfl])
  (try dsimp only);(try simp only[Ch])
  simp only[Bool.not_true,Bool.false_eq_true,if_false]
  simp only[C9,true_and,F.pairs,F.due]
  refine Tu F.lBehind F.due g hm (hN.ext d4) (hl.ext d4) hio fun b qs ak e5 n5 v5 h1=>?_
  cases hps.eq h1
  (try dsimp only)
  refine Wz F.whole F.pairs (va.ext e5) v5 hpl ?_
  (try dsimp only);(try simp only[Ch])
  simp only[Bool.not_true,Bool.false_eq_true,if_false]
  exact hN' _ e5
 rintro ak e5
 obtain⟨ks,va5,pa5⟩:=va.ext e5
 have d5:=d4.trans e5
 have hkl:(ks.map V.ref).length<1048576:=by rw[Bk,pa5.len];exact Nat.lt_of_le_of_lt hpl (by decide)
 refine Df (fun ps=>[r0,some (.int m),r2,some (.ref nr),some (.ref od),some (.ref w),some (.ref hd),some (.ref kp),r8,some (.int (i:Int)),some (.ref y),some (.ref a),r12,none,none,none]) (fun ps al=>O4 (Al D al) (PL al a ps) (LI al hd l) (al kp=some (.list (ts.map V.ref)))) (fun N hN'=>?_) ?_
 ·simp (disch:=first|decide|omega) only[Ze,Zf,Zt,Zu,Zv,Zx,Ai,Am,true_and,Bo,A8 va5]
  refine Ab fun z al e6 n6 v6=>?_
  (try dsimp only)
  refine Gx (e6 _ _ va5) hkl ?_
  refine hN' _ _ ⟨(d5.trans e6).upd' (d3.isNone na),(pa5.ext e6).put (e6 _ _ va5) v6,LI.upd_ne ((hc.ext e4).ext (e5.trans e6)) (Ne.symm hah),?_⟩
  rw[upd_ne (Ne.symm hak)]
  exact(e4.trans (e5.trans e6)) _ _ k3
 rintro ps al ⟨d6,va,h6,k6⟩
 obtain⟨ks,va6,pa6⟩:=va
 refine Lf (fun(D':AH) (t:Nat)=>[r0,some (.int m),r2,some (.ref nr),some (.ref od),some (.ref w),some (.ref hd),some (.ref kp),r8,some (.int (i:Int)),some (.ref y),some (.ref a),r12,none,none,none]) (fun(D':AH) (t:Nat) au=>(Al D D')/\(Kp D' au hd kp (ts ++ [t]))) (fun N hN'=>?_) ?_
 ·simp (disch:=first|decide|omega) only[Zf,Zo,Zt,Zu,Zv,Zx,Ai,Am,true_and,Bo,A8 k6,Le va6]
  refine Ab fun c au e7 n7 v7=>?_
  (try dsimp only)
  refine Ab fun t aq e8 n8 v8=>?_
  (try dsimp only)
  have e78:=e7.trans e8
  have k8:=e78 _ _ k6
  refine Gx k8 (by rw[Bk];exact(Nat.lt_of_le_of_lt htl (by decide))) ?_
  have new:∀ {H':AH} {x:Nat},Al al H'->H' x=none->x≠hd/\x≠kp:=fun e z=>⟨fun w=>(by unfold LI at h6;rw[w,e _ _ h6]at z;cases z),fun w=>(by rw[w,e _ _ k6]at z;cases z)⟩
  have hc5:=new Al.refl n7
  have ht6:=new e7 n8
  have eD:Al D (I4 aq hd kp):=W0 (d6.trans e78) s.nh s.nk
  have hx:∃xs,aq hd=some (.list xs):=⟨_,e78 _ _ h6⟩
  have hy:∃xs,aq kp=some (.list xs):=⟨_,k8⟩
  refine hN' (I4 aq hd kp) t _ ⟨eD,⟨Tw.upd' Vg,Acg,Vg,⟨_,by rw[upd_ne hhk];exact e78 _ _ h6⟩,by rw[Ac];simp,fun x hx'=>?_⟩⟩
  rcases List.mem_append.mp hx' with hx'|hx'
  ·obtain⟨a',c',l',h1,h2,h3⟩:=s.all x hx'
   exact⟨a',c',l',eD _ _ h1,h2.ext eD,h3.ext eD⟩
  ·rw[List.mem_singleton.mp hx']
   exact⟨a,c,ps,Jb v8 ht6.1 ht6.2,W1 ⟨ks,e78 _ _ va6,pa6.ext e78⟩ hah hak hx hy,W1 ⟨ks,e8 _ _ v7,pa6.ext e78⟩ hc5.1 hc5.2 hx hy⟩
 rintro D' t au ⟨eD,s'⟩
 refine Ad (T8 ?_)
 simp (disch:=first|decide|omega) only[Zf,Zu,Zv,Z0,Qd,Ai,Am]
 refine Bs (fun j r12=>[r0,some (.int m),r2,some (.ref nr),some (.ref od),some (.ref w),some (.ref hd),some (.ref kp),r8,some (.int (i:Int)),some (.ref y),some (.ref a),r12,none,none,none]) (fun j r12 aq=>Kp D' aq hd kp (ts ++ [t])) _ rfl s' ?_ ?_
 ·rintro j r12 aq K' hj s8 hK'
  have hj':j<m:=by simpa using hj
  obtain⟨d,rs,w1,w2,w3⟩:=hW.ext (eD.trans s8.ext)
  simp only[Mi,List.set_cons_succ,List.set_cons_zero]
  refine Ad (Bv ?_)
  simp only[Zd,Zf,Zg,Zn,Zq,Zu,Zv,Zy,Z0,Z1,Ch,Ai,Am,C9,true_and,Ax,Co,Cp,D4,w1,w2,F2.fns.beside,F.numbers]
  refine I2 B F2.fns.beside ⟨d,rs,w1,w2,w3⟩ T4 (W4 hj') fun b ax e9 _ hb=>?_
  obtain⟨as',z,a1,a2,a3,a4⟩:=(hN.ext ((eD.trans s8.ext).trans e9)).row (x:=j) T4 (W4 hj')
  (try dsimp only)
  refine Fy a1 T4 a3 ?_
  refine Yd F.whole F.numbers hb a4 (Af Dw (Af hm (by decide))) ?_
  (try dsimp only);(try simp only[Ch])
  simp only[Bool.not_true,Bool.false_eq_true,if_false]
  exact hK' _ _ (s8.grow e9)
 ·rintro r12 aq s8
  exact hK _ _ _ _ _ eD s8
set_option linter.all false
variable {G:A2} {n:Nat} {H H' ab ae:AH} {Q:Ag} {E:EP} {C:CS} {ρ:Ak} {w m r nr od a b hd kp t:Nat} {A:Nat->Nat->Bool} {o l l':List Int} {k p cl:Int} {N:Ak->AH->Prop} {R:Ag} {ps:List (Int×Int)}
theorem Agz(F:F08 G)(h4:ρ[4]? = some (some (.ref od)))(h8:ρ[8]? = some (some (.int k)))(vo:LI H od o)(hm:m<=60)(ho:Bj m o)
 (q:∀(lr:Nat) (rs:List Nat) H',Al H H'->H lr=none->H' lr=some (.list (rs.map V.ref))->rs.length=4->(∀x∈rs,(H x=none\/x=od)/\∃l:List Int,LI H' x l/\Bj m l)->Q (.ref lr) H') :
 Aw G (Ae G (n+1)) (.list [(.var 4),(.call "_law_within" [(.var 4),(.var 8)]),(.bin .Add (.slice (.var 4) .omit (.cint 1) .omit) (.slice (.var 4) .omit (.cint 0) (.neg (.cint 1)))),(.var 4)]) ρ H Q E:=by
 have hol:=ho.len
 simp only[Zs,Zv,Zu,Zf,h4,h8,Zn,Zk,Zr,Zc,Ze,Zh]
 refine⟨by rw[F.within];rfl,?_⟩
 refine Aca F.within vo (Af (Nat.le_of_eq hol) hm) fun wi lw au e7 n7 v7 hlw=>?_
 (try dsimp only)
 refine Ais (vo.ext e7) (by decide) fun a1 aq e8 n8 v8=>?_
 (try dsimp only)
 refine Aet ((vo.ext e7).ext e8) ?_
 refine Ab fun a2 ax e9 n9 v9=>?_
 (try dsimp only)
 have v9':LI ax a2 (o.drop 1).reverse:=by unfold LI;rw[v9,<-List.map_drop,List.map_reverse]
 refine Ait (v8.ext e9) v9' (by simp;exact(Af (Nat.add_le_add (Nat.min_le_left _ _) (Af (Nat.sub_le _ _) (Af (Nat.le_of_eq hol) hm))) (by decide))) fun a3 aE e10 n10 v10=>?_
 (try dsimp only)
 have e79:=(e7.trans e8).trans e9
 have e69:=e79.trans e10
 refine Ab fun lr aI e11 n11 v11=>q lr [od,wi,a3,od] aI (e69.trans e11) (e69.isNone n11) v11 rfl fun x hx=>?_
 have e611:=e69.trans e11
 refine Alq (p:=fun x=>(H x=none\/x=od)/\∃l:List Int,LI aI x l/\Bj m l) ⟨.inr rfl,o,vo.ext e611,ho⟩ ⟨.inl n7,lw,v7.ext (((e8.trans e9).trans e10).trans e11),ho.of_perm hlw⟩ ⟨.inl (e79.isNone n10),_,v10.ext e11,ho.of_perm ?_⟩ ⟨.inr rfl,o,vo.ext e611,ho⟩ hx
 refine((List.reverse_perm _).append_left _).trans ?_
 rw[show (1:Int).toNat=1 from rfl,List.take_append_drop]
theorem Ag0(F:F08 G){D:AH}{ts:List Nat}{r0 r2 r6 r8 r9 r10 r11 r12:Option V}(g:Gr A)(hm:m<=60)(hW:C1 D w m A)(hN:Ea D nr m A)(vo:LI D od o)(ho:Bj m o)(s:Kp D H hd kp ts)(htl:ts.length<=60)(q:∀H',R (.bool true) H') :
 Bh G (Ae G (n+7)) [.assign 13 (.list []),.for (.one 12) (.range [(.var 1)]) Ii,.ite (.not (.call "_law_pairs" [(.meth "Web.ties" (.var 5) []),(.var 13)])) [.ret (.cbool false)] [],.for (.two 15 14) (.val (.slice (.call "_law_due" [(.var 3),(.var 4)]) .omit (.cint 5) .omit)) Ij,.ret (.cmp .Eq (.compIf 1 (.val (.var 7)) Ik (.var 0)) (.list []))]
  [r0,some (.int m),r2,some (.ref nr),some (.ref od),some (.ref w),r6,some (.ref kp),r8,r9,r10,r11,r12,none,none,none] H N R E:=by
 have F2:=F.f3.fns2
 have B:=F2.fns.base
 have l2:=L0 (m:=m) (A:=A) (k:=m)
 have l3:m*m<=60*60:=Nat.mul_le_mul hm hm
 refine Df (fun d=>[r0,some (.int m),r2,some (.ref nr),some (.ref od),some (.ref w),r6,some (.ref kp),r8,r9,r10,r11,r12,some (.ref d),none,none]) (fun d ab=>(Kp D ab hd kp ts)/\(PL ab d (Jx m A 0))) (fun N hN=>?_) ?_
 ·simp only[Zs,Zu,Zw,B6,B7]
  exact Ab fun d ab e1 n1 v1=>hN d _ ⟨s.grow e1,[],v1,rfl⟩
 rintro d ab ⟨s,vd⟩
 refine Lf (fun(r12:Option V) (d:Nat)=>[r0,some (.int m),r2,some (.ref nr),some (.ref od),some (.ref w),r6,some (.ref kp),r8,r9,r10,r11,r12,some (.ref d),none,none]) (fun(r12:Option V) (d:Nat) ae=>(Kp D ae hd kp ts)/\(PL ae d (Jx m A m))) (fun N hN'=>?_) ?_
 ·refine T8 ?_
  simp (disch:=first|decide|omega) only[Zf,Zu,Zv,Qd,Ai,Am]
  refine Jv (fun i (r12:Option V) (d:Nat)=>[r0,some (.int m),r2,some (.ref nr),some (.ref od),some (.ref w),r6,some (.ref kp),r8,r9,r10,r11,r12,some (.ref d),none,none]) (fun i (r12:Option V) (d:Nat) ae=>(Kp D ae hd kp ts)/\(PL ae d (Jx m A i))) _ d rfl ⟨s,vd⟩ ?_ ?_
  ·rintro i r12 d ae K hi ⟨s,ds,vd,pd⟩ hK
   have hi':i<m:=by simpa using hi
   simp only[Ii,List.set_cons_succ,List.set_cons_zero]
   refine Ad (Cd (Afl (Ni ?_)))
   simp only[List.getElem?_cons_succ,List.getElem?_cons_zero]
   refine Aiu (i:=i) rfl rfl hm hi' (hN.ext s.ext) fun b bs ag e3 nb nbs v3 p3=>?_
   have l1:=L0 (m:=m) (A:=A) (k:=i)
   have l2:=O1 (m:=m) (A:=A) (i:=i)
   have l3:m*i<=60*60:=Nat.mul_le_mul hm (Af (Nat.le_of_lt hi') hm)
   refine Ex (e3 _ _ vd) v3 (by rw[Bk,Bk,pd.len,p3.len];exact(Af (Nat.add_le_add (Af l1 l3) (Af l2 hm)) (by decide))) ?_
   refine Ab fun c ah e4 n4 v4=>?_
   try simp only[Z0,B6,B7]
   refine hK _ c _ ⟨s.grow (e3.trans e4),ds++bs,by rw[v4,List.map_append],?_⟩
   rw[Ka]
   exact((pd.ext e3).app p3).ext e4
  ·rintro r12 d ae ⟨s,vd⟩
   exact hN' _ d _ ⟨s,by simpa using vd⟩
 rintro r12 d ae ⟨s,vd⟩
 refine Hz ([r0,some (.int m),r2,some (.ref nr),some (.ref od),some (.ref w),r6,some (.ref kp),r8,r9,r10,r11,r12,some (.ref d),none,none]) (fun ag=>Kp D ag hd kp ts) (fun N hN'=>?_) ?_
 ·obtain⟨dd,rs,w1,w2,w3⟩:=hW.ext s.ext
  refine Bv ?_
  simp only[Zd,Zf,Zg,Zn,Zu,Zv,Zy,Z0,Z1,Ch,Ai,Am,C9,true_and,Ax,Co,Cp,D4,w1,w2,B.wties,F.pairs]
  refine Aew B hm ⟨dd,rs,w1,w2,w3⟩ fun b bs ag tb=>?_
  (try dsimp only)
  refine Wz F.whole F.pairs ⟨bs,tb.at_,tb.prs⟩ (vd.ext tb.ext) (Af l2 (Af l3 (by decide))) ?_
  (try dsimp only);(try simp only[Ch])
  simp only[Bool.not_true,Bool.false_eq_true,if_false]
  exact hN' _ (s.grow tb.ext)
 rintro ag s
 refine Lf (fun(r14:Option V) (r15:Option V)=>[r0,some (.int m),r2,some (.ref nr),some (.ref od),some (.ref w),r6,some (.ref kp),r8,r9,r10,r11,r12,some (.ref d),r14,r15]) (fun(r14:Option V) (r15:Option V) ah=>Kp D ah hd kp ts) (fun N hN'=>?_) ?_
 ·refine M8 ?_
  simp only[Zc,Ze,Zf,Zn,Zr,Zu,Zv,Ai,Am,C9,true_and,F.due]
  refine Tu F.lBehind F.due g hm (hN.ext s.ext) (vo.ext s.ext) ho fun b ps ah e4 n4 v4 hps=>?_
  obtain⟨ks,vb,pb⟩:=v4
  (try dsimp only)
  (refine Ct vb Gd Hw ?_;rw[Rd (by decide)])
  refine Ab fun c ak e5 n5 v5=>?_
  (try dsimp only)
  rw[<-List.map_take]at v5
  refine Aq v5 ?_
  have s5:=s.grow (e4.trans e5)
  refine Hi (ps:=ps.take (5:Int).toNat) (fun i ρ al=>(Jy fun(r14 r15:Option V)=>ρ = [r0,some (.int m),r2,some (.ref nr),some (.ref od),some (.ref w),r6,some (.ref kp),r8,r9,r10,r11,r12,some (.ref d),r14,r15]/\ak=al)) ⟨_,_,rfl,rfl⟩ ?_ ?_ ?_
  ·rintro i ρ _ ⟨r14,r15,_,rfl⟩
   exact⟨v5,(pb.take _).ext e5⟩
  ·rintro i p ρ _ K hp ⟨r14,r15,rfl,rfl⟩ hK
   have hpm:=List.mem_of_mem_take (List.mem_of_getElem? hp)
   have hr:=hps.rng p hpm
   have hno:¬A p.1.toNat p.2.toNat=true:=fun z=>((hps.put p).mp hpm).2.2 ⟨hr.1,hr.2,z⟩
   rw[Bool.not_eq_true]at hno
   have hno':A p.2.toNat p.1.toNat=false:=by rw[g.symm];exact hno
   obtain⟨dd,rs,w1,w2,w3⟩:=hW.ext s5.ext
   simp only[Ij,List.set_cons_succ,List.set_cons_zero]
   refine Ad (Bv (Vo ?_))
   simp only[Zd,Zf,Zu,Zv,Zy,Z0,Z1,Ch,Ai,Am,C9,true_and,Ax,Co,Cp,D4,w1,w2,B.tied]
   refine Ly B ⟨dd,rs,w1,w2,w3⟩ hr.1.1 hr.1.2 hr.2.1 hr.2.2 ?_
   rw[hno]
   (try dsimp only);(try simp only[Ch])
   simp only[Bool.false_eq_true,if_false]
   simp only[Co,w1,Cp,w2,D4]
   refine Ly B ⟨dd,rs,w1,w2,w3⟩ hr.2.1 hr.2.2 hr.1.1 hr.1.2 ?_
   rw[hno']
   (try dsimp only);(try simp only[Ch])
   simp only[Bool.false_eq_true,if_false]
   exact hK _ _ ⟨_,_,rfl,rfl⟩
  ·rintro ρ _ ⟨r14,r15,rfl,rfl⟩
   exact hN' _ _ _ s5
 rintro r14 r15 ah s4
 refine Ad (Nk (T7 (hvK ?_)))
 simp only[Zf,Zs,Zu,Z2,Eg,Eh,Ai,Am,List.replicate]
 refine Aq s4.kp ?_
 refine⟨by simp[Bp];exact W3 htl,E8 (f:=fun _=>none) s4.kp (fun v hv K' hK'=>?_) ?_⟩
 ·obtain⟨t,ht,rfl⟩:=List.mem_map.mp hv
  obtain⟨a,c,l,h1,h2,h3⟩:=s4.all t ht
  have h1':=s4.ext _ _ h1
  simp only[Ze,Zf,Zl,Zq,Ch,Ai,Ik,Iw (x:= .ref a) (k:=0) h1' (by decide) rfl,Iw (x:= .ref c) (k:=1) h1' (by decide) rfl,Agw (h2.ext s4.ext) (h3.ext s4.ext)]
  simp only[Bool.false_eq_true,if_false]
  exact hK'
 ·rw[show (ts.map V.ref).filterMap (fun _=>(none:Option V)) = []from List.filterMap_eq_nil_iff.mpr fun _ _=>rfl]
  refine Ab fun x ak e5 n5 v5=>?_
  (try dsimp only)
  refine Ab fun y al e6 n6 v6=>?_
  (try dsimp only)
  refine U9 (l:=[]) (l':=[]) (e6 _ _ v5) v6 ?_
  exact q al
theorem Ag1(F:F08 G){ns:List Int}(H:AH):Ae G (n+8) "law" [.script ns] H (fun v _=>v = .bool true) E:=by
 have F2:=F.f3.fns2
 have B:=F2.fns.base
 refine Aj F.law rfl ?_
 delta Sb;simp only[List.map,List.replicate,List.cons_append,List.nil_append]
 refine Df (fun(m:Nat)=>[some (.script ns),some (.int m),none,none,none,none,none,none,none,none,none,none,none,none,none,none]) (fun(m:Nat) ab=>(m<=60)/\(H=ab)) (fun N hN=>?_) ?_
 ·simp only[Zf,Zn,Zu,Zv,Zw,Ai,B6,B7,C9,true_and,F.many]
  exact Agh B.cellAt F.many fun m hm=>hN m _ ⟨hm,rfl⟩
 rintro m _ ⟨hm,rfl⟩
 refine Alk (fun(t:Nat) (ts:List Nat) (ps:List (Int×Int))=>[some (.script ns),some (.int m),some (.ref t),none,none,none,none,none,none,none,none,none,none,none,none,none]) (fun(t:Nat) (ts:List Nat) (ps:List (Int×Int)) ae=>Fe (ae t=some (.list (ts.map V.ref))) (An ae ts ps) (Ew m ps)) (fun N hN=>?_) ?_
 ·simp only[Zf,Zn,Zu,Zv,Zw,Ai,Am,B6,B7,C9,true_and,B.ties,B.rows]
  refine Agi B hm fun a as rows ab e _ h1 h2 h3=>?_
  exact Agl B hm h1 h2 h3 fun t ts ps ae e _ h1 h2 h4 _=>hN t ts ps _ ⟨h1,h2,Aei h3 h4⟩
 rintro t ts ps ae ⟨hT,hP,hgood⟩
 have g:=Aim hgood
 refine Df (fun(nr:Nat)=>[some (.script ns),some (.int m),some (.ref t),some (.ref nr),none,none,none,none,none,none,none,none,none,none,none,none]) (fun(nr:Nat) ag=>(Al ae ag)/\(Ea ag nr m (Lc ps))) (fun N hN=>?_) ?_
 ·simp only[Zf,Zn,Zu,Zv,Zw,Ai,Am,B6,B7,C9,true_and,B.near]
  exact Agn B hm hT hP hgood fun x ag e _ h=>hN x _ ⟨e,h⟩
 rintro nr ag ⟨e3,hNear⟩
 refine Df (fun v4=>[some (.script ns),some (.int m),some (.ref t),some (.ref nr),some v4,none,none,none,none,none,none,none,none,none,none,none]) (fun v4 ak=>(Al ag ak)/\((v4 = .none\/(Jy fun(od:Nat) (o:List Int)=>Fe (v4 = .ref od) (LI ak od o) (Bj m o))))) (fun N hN=>?_) ?_
 ·simp only[Zf,Zn,Zu,Zv,Zw,Ai,Am,B6,B7,C9,true_and,F.order]
  exact Aeu B F.keyed F.untied F.free F.order hm hNear (fun ak e5=>hN _ _ ⟨e5,.inl rfl⟩) fun b o ak e5 _ v5 h1=>hN _ _ ⟨e5,.inr ⟨b,o,rfl,v5,h1⟩⟩
 rintro v4 ak ⟨e5,h6⟩
 have kd:∀ {N:Ak->AH->Prop} {R:Ag},(∀od o H',Al ak H'->LI H' od o->Bj m o->N [some (.script ns),some (.int m),some (.ref t),some (.ref nr),some (.ref od),none,none,none,none,none,none,none,none,none,none,none] H')->
  Bh G (Ae G (n+7)) [.assign 4 (.call "_law_keyed" [(.var 0),(.var 1)])] [some (.script ns),some (.int m),some (.ref t),some (.ref nr),some v4,none,none,none,none,none,none,none,none,none,none,none] ak N R E:=fun k=>by
  refine Ad ?_
  simp only[Zf,Zn,Zu,Zv,Zw,Z0,Ai,Am,B6,B7,C9,true_and,F.keyed]
  exact Wu B F.keyed hm fun a l H' e _ v hp=>k a l H' e v (Ox hp)
 refine Lf (fun(od:Nat) (o:List Int)=>[some (.script ns),some (.int m),some (.ref t),some (.ref nr),some (.ref od),none,none,none,none,none,none,none,none,none,none,none]) (fun(od:Nat) (o:List Int) al=>Fe (Al ak al) (LI al od o) (Bj m o)) (fun N hN=>?_) ?_
 ·rcases h6 with rfl | ⟨od,o,rfl,vo,hol⟩
  ·refine Bm true (fun Q' h'=>?_) ?_
   ·simp only[Zb,Ze,Zf,Zj,Zk,Zl,Zn,Zu,Zv,Zbg,Ch,Ai,Am]
    try simp only[if_true]
    exact h'
   rw[if_pos rfl]
   exact kd (R:=fun v _=>v = .bool true) fun od o H' e v hl=>hN od o _ ⟨e,v,hl⟩
  ·refine Bv (Vo ?_)
   simp only[Zb,Ze,Zf,Zk,Zl,Zn,Zu,Zv,Zw,Z0,Z1,Zbh,Ch,Ai,Am,B6,B7]
   try simp only[Bool.false_eq_true,if_false]
   simp only[C9,true_and,B.mixed,B.cellAt]
   refine C6 B.cellAt (by decide) ?_
   (try dsimp only)
   refine K8 B.mixed fun c _ _=>?_
   (try dsimp only);(try simp (disch:=first|decide|omega) only[Z4,X2,Ch])
   split
   ·exact kd (R:=fun v _=>v = .bool true) fun od o H' e v hl=>hN od o _ ⟨e,v,hl⟩
   ·try refine I6 ?_
    exact hN od o _ ⟨Al.refl,vo,hol⟩
 rintro od o al ⟨e6,vo,ho⟩
 have e26:=(e3.trans e5).trans e6
 have hN6:=hNear.ext (e5.trans e6)
 refine Df (fun(w:Nat)=>[some (.script ns),some (.int m),some (.ref t),some (.ref nr),some (.ref od),some (.ref w),none,none,none,none,none,none,none,none,none,none]) (fun(w:Nat) au=>(Al al au)/\(C1 au w m (Lc ps))) (fun N hN=>?_) ?_
 ·simp only[Zf,Zn,Zo,Zu,Zv,Zw,Ai,Am,B6,B7,C9,true_and,B.webOf,Le (e26 _ _ hT)]
  refine Ab fun t' ah e4 _ v4=>?_
  exact Aee B hm v4 (hP.ext (e26.trans e4)) hgood fun w ak e5 _ h=>hN w _ ⟨e4.trans e5,h⟩
 rintro w au ⟨e7,hW⟩
 replace hN6:=hN6.ext e7
 replace vo:=vo.ext e7
 clear hNear hT hP e3 e5 e6 e7 e26
 generalize Lc ps=A at *
 refine Df (fun hd=>[some (.script ns),some (.int m),some (.ref t),some (.ref nr),some (.ref od),some (.ref w),some (.ref hd),none,none,none,none,none,none,none,none,none]) (fun hd aq=>Fe (Al au aq) (au hd=none) (aq hd=some (.list []))) (fun N hN=>?_) ?_
 ·simp only[Zs,Zu,Zw,B6,B7]
  exact Ab fun hd ab e1 n1 v1=>hN hd _ ⟨e1,n1,v1⟩
 rintro hd aq ⟨e8,nhd,vhd⟩
 refine Df (fun kp=>[some (.script ns),some (.int m),some (.ref t),some (.ref nr),some (.ref od),some (.ref w),some (.ref hd),some (.ref kp),none,none,none,none,none,none,none,none]) (fun kp ax=>Fe (Al aq ax) (aq kp=none) (ax kp=some (.list []))) (fun N hN=>?_) ?_
 ·simp only[Zs,Zu,Zw,B6,B7]
  exact Ab fun kp ab e1 n1 v1=>hN kp _ ⟨e1,n1,v1⟩
 rintro kp ax ⟨e9,nkp,vkp⟩
 refine Df (fun(cl:Int)=>[some (.script ns),some (.int m),some (.ref t),some (.ref nr),some (.ref od),some (.ref w),some (.ref hd),some (.ref kp),some (.int cl),none,none,none,none,none,none,none]) (fun(cl:Int) aE=>ax=aE) (fun N hN=>?_) ?_
 ·simp only[Ze,Zf,Zn,Zu,Zv,Zw,Ai,B6,B7,C9,true_and,B.mixed,B.cellAt]
  refine C6 B.cellAt (by decide) ?_
  exact K8 B.mixed fun c _ _=>hN c _ rfl
 rintro cl _ rfl
 have hhk:hd≠kp:=fun z=>by rw[<-z,vhd]at nkp;cases nkp
 have nk7:=e8.isNone nkp
 have e79:=e8.trans e9
 have vhd9:=e9 _ _ vhd
 refine Aln (fun(D:AH) (ts:List Nat) (r9:Option V) (r10:Option V) (r11:Option V) (r12:Option V)=>[some (.script ns),some (.int m),some (.ref t),some (.ref nr),some (.ref od),some (.ref w),some (.ref hd),some (.ref kp),some (.int cl),r9,r10,r11,r12,none,none,none]) (fun(D:AH) (ts:List Nat) (r9:Option V) (r10:Option V) (r11:Option V) (r12:Option V) ab=>Fe (Al au D) (Kp D ab hd kp ts) (ts.length<=60)) (fun N hN'=>?_) ?_
 ·refine Nl (M7 ?_)
  refine Agz (n:=n+6) F rfl rfl (vo.ext e79) hm ho fun lr rs aE e10 nlr vlr hrl hok=>?_
  (try dsimp only)
  refine K6 vlr ?_
  have hlh:lr≠hd:=fun z=>by rw[z,vhd9]at nlr;cases nlr
  have hlk:lr≠kp:=fun z=>by rw[z,vkp]at nlr;cases nlr
  have eD:Al au (I4 aE hd kp):=W0 (e79.trans e10) nhd nk7
  have lD:I4 aE hd kp lr=some (.list (rs.map V.ref)):=Jb vlr hlh hlk
  have oD:∀x∈rs,∃l:List Int,LI (I4 aE hd kp) x l/\Bj m l:=fun x hx=>by
   obtain⟨h0,l,h1,h2⟩:=hok x hx
   refine⟨l,Jb h1 (fun z=>?_) (fun z=>?_),h2⟩
   ·rcases h0 with h0|h0
    ·rw[z,vhd9]at h0;cases h0
    ·exact vo.ne_none nhd (h0▸z)
   ·rcases h0 with h0|h0
    ·rw[z,vkp]at h0;cases h0
    ·exact vo.ne_none nk7 (h0▸z)
  have s0:Kp (I4 aE hd kp) aE hd kp []:=⟨Tw,Acg,Vg,⟨_,e10 _ _ vhd9⟩,e10 _ _ vkp,nofun⟩
  generalize I4 aE hd kp=D at *
  refine Ti (fun i (D':AH) (ts:List Nat) (r9:Option V) (r10:Option V) (r11:Option V) (r12:Option V)=>[some (.script ns),some (.int m),some (.ref t),some (.ref nr),some (.ref od),some (.ref w),some (.ref hd),some (.ref kp),some (.int cl),r9,r10,r11,r12,none,none,none]) (fun i (D':AH) (ts:List Nat) (r9:Option V) (r10:Option V) (r11:Option V) (r12:Option V) ab=>O4 (Al D D') (Kp D' ab hd kp ts) (ts.length=i) (i<=rs.length)) D [] _ _ _ _ rfl ⟨Al.refl,s0,rfl,Nat.zero_le _⟩ ?_ ?_ ?_
  ·rintro i D' ts r9 r10 r11 r12 ab ⟨e4,s4,_⟩;exact(e4.trans s4.ext) _ _ lD
  ·rintro i v D' ts r9 r10 r11 r12 ab K hv ⟨e4,s4,htl,hil⟩ hK
   rw[List.getElem?_map]at hv
   obtain⟨y,hy,rfl⟩:=Option.map_eq_some_iff.mp hv
   obtain⟨l,hl,hio⟩:=oD y (List.mem_of_getElem? hy)
   have hi:=(Da hy).1
   simp only[List.set_cons_succ,List.set_cons_zero]
   have e:=eD.trans e4
   exact Agy F g hm (hW.ext e) (hN6.ext e) (vo.ext e) ho (hl.ext e4) hio hhk s4 (Af (Nat.le_of_eq htl) (Af (Nat.le_of_lt hi) (Af (Nat.le_of_eq hrl) (by decide)))) fun D'' t r11 r12 ak e5 s5=>hK D'' (ts ++ [t]) _ _ _ _ _ ⟨e4.trans e5,s5,by simp;exact htl,hi⟩
  ·rintro D' ts r9 r10 r11 r12 ab ⟨e4,s4,htl,hil⟩
   exact hN' D' ts _ _ _ _ _ ⟨eD.trans e4,s4,(Af (Nat.le_of_eq htl) (Af hil (Af (Nat.le_of_eq hrl) (by decide))))⟩
 rintro D ts r9 r10 r11 r12 ab ⟨eD,s,htl⟩
 exact Ag0 F g hm (hW.ext eD) (hN6.ext eD) (vo.ext eD) ho s htl fun _=>rfl
end Mine.Internal.Cl
namespace Mine.Internal.Cl
open PySem PySem.W PyProof.Rows
set_option maxRecDepth 100000
set_option maxHeartbeats 8000000
theorem grd(P:Params):K5 (kk P)=true:=by kernel_rfl
theorem Aiv(P:Params):(K4 (kk P) (Lv (kk P)) "law").isSome=true:=by kernel_rfl
theorem bas(P:Params):Iv (Rb (kk P)):=by
 constructor<;>kernel_rfl
theorem fn1(P:Params):Fns (Rb (kk P)):=by
 refine⟨bas P,?_,?_,?_,?_⟩<;>kernel_rfl
theorem fn2(P:Params):Lz (Rb (kk P)):=by
 refine⟨fn1 P,?_,?_,?_,?_,?_,?_,?_,?_,?_,?_⟩<;>kernel_rfl
theorem fn3(P:Params):Yl (Rb (kk P)):=by
 refine⟨fn2 P,?_,?_,?_,?_,?_,?_,?_⟩<;>kernel_rfl
theorem fns(P:Params):F08 (Rb (kk P)):=by
 refine⟨fn3 P,?_,?_,?_,?_,?_,?_,?_,?_,?_,?_,?_,?_,?_⟩<;>kernel_rfl
theorem main{G:A2}(F:F08 G)(H:AH){ns:List Int}:Ae G 40 "law" [.script ns] H (fun v _=>v = .bool true) EF:=Ag1 (n:=32) F H
theorem Alr:PySem.Challenge.rw_uf020033_08.wellSaid=true:=by
 delta OpenLaw.wellSaid
 iterate 18 (refine look_both ?_ (by decide +kernel))
 decide +kernel
noncomputable def Pn:DefRec×List (Str×Expr):=(defOf kq PySem.Challenge.rw_uf020033_08.row.name).get (by kernel_rfl)
theorem hD1:defOf kq PySem.Challenge.rw_uf020033_08.row.name=some (Pn.1,Pn.2):=by kernel_rfl
theorem hD2:PySem.Challenge.pw_uf020033_08.theDef PySem.Challenge.rw_uf020033_08.row.name=some (Pn.1.params,Pn.1.body,Pn.1.scope):=by kernel_rfl
theorem hD3:kwWritten? Pn.1.params.kwonlyargs Pn.1.params.kw_defaults=some Pn.2:=by kernel_rfl
theorem Aiw:PySem.Challenge.rw_uf020033_08.row.prog.bare:=⟨rfl,rfl,rfl,rfl,rfl,by decide +kernel⟩
theorem fin:PySem.Challenge.rw_uf020033_08.Holds:=by
 w_on
 refine holds_law Alr fun said=>?_
 refine holds_open (q:=kq) (loose:=[]) (Xt:=fun s=>xlAt kq [] s&&recOk (RowW.records PySem.Challenge.rw_uf020033_08.row.toRowW) s) (XP:=XL kq []) (Yf:=Hook.obs kH) (Ya:=Hook.val kH) (YP:=Hook.says kH) (d:=Pn.1) (kwd:=Pn.2) (N:=6112) Ez (Hook.of kH) (Hook.keeps kH) (fun s e=>xl_of s (Bool.and_eq_true_iff.mp e).1) XL.keeps hD1 hD2 hD3 (fun s e=>recFacts_of (Bool.and_eq_true_iff.mp e).2) (by rfl) (by first|assumption|decide +kernel) (by decide +kernel) Aiw ?hw ?hc
 case hw=>w_witness2
 case hc=>
  intro w ba ar mg mb G Y fa o pm cd doc dV kV ho hd hcd hD hmg hg args vals as hpre hlay hrd hwl hlo
  have KX:(kk w.params).In ar.heap:=kIn_of Y
  refine Ground.open G ?_
  intro T B D TE TW
  wrow_args hpre hlay hrd hwl hlo
  clear hcd hd hD ho Y G B TE TW D
  rename_i nsL _ _ _ _ _ _ _ la items _ hL _ _ _ hI _ hlen _
  exact Ad5 KX (topRead_of T) (grd _) (Aiv _) hmg hg hL hI (by omega) (main (fns _) _) (fun _=>rfl) (by first|kernel_rfl|decide +kernel|exact postW_of (X:=true) (by kernel_rfl) (by kernel_rfl) rfl)
end Mine.Internal.Cl
theorem PySem.Challenge.cw_uf020033_08_holds : PySem.Challenge.rw_uf020033_08.Holds :=
 Mine.Internal.Cl.fin

import PyProof.Rows.All
import Wide.All
import OpenK.AllK
import Wide.FinOn
import PySem.Challenge.RW_uf020033_03
set_option Elab.async false
set_option maxHeartbeats 4000000
set_option linter.all false
set_option genSizeOf false
set_option genSizeOfSpec false
set_option genInjectivity false
set_option bootstrap.genMatcherCode false
namespace Mine.Internal.Cl
open PySem PySem.W PyProof.Rows
set_option maxRecDepth 100000
set_option maxHeartbeats 8000000
noncomputable def Aj(i:Nat):Stmt:=PySem.Challenge.pw_uf020033_03.main.body.getD i (.Pass default)
noncomputable def Ht(i j:Nat):Stmt:=match Aj i with
 | .ClassDef _ _ _ b .. =>b.getD j (.Pass default)
 | s=>s
noncomputable def Bk(st:Stmt)(q:Str)(md:Value)(cd:Addr):Obj:=match st with
 | .FunctionDef name args body _ _ _ scope _ _ _=>{cls:= .type "function",data:= .func {name:=name,qualname:=q,params:=args,body:= .stmts body,scope:=scope,globals:=3,closure:=[],defaults:= .none,kwdefaults:= .none,pyModule:=md,code:= .ref cd}}
 | _=>default
noncomputable def Es(st:Stmt)(q:Str):Obj:=match st with
 | .FunctionDef name args body _ _ _ scope _ _ _=>{cls:= .none,data:= .func {name:=name,qualname:=q,params:=args,body:= .stmts body,scope:=scope,globals:=0,closure:=[],defaults:= .none,kwdefaults:= .none}}
 | _=>default
noncomputable def vs(s:String)(n:Nat):Value:= .str (Str.ofString s) n
noncomputable def rf(n:Nat):Value:= .ref n
noncomputable def vi(n:Int):Value:= .int n 0
noncomputable def dE(P:Params)(s:String)(n:Nat)(v:Value):DictEntry:={hash:=PyData.keyHash P (Str.ofString s),key:= .str (Str.ofString s) n,val:=v}
noncomputable def tO(c:String)(a:Array Value):Obj:={cls:= .type c,data:= .seq a}
noncomputable def cO(c:String)(a:Array Value):Obj:={cls:= .type c,data:= .fields a}
noncomputable def dO(c:String)(a:Array DictEntry):Obj:={cls:= .type c,data:= .dict a}
noncomputable def fO(a:Array (Option Value)):Obj:={cls:= .type "frame",slots:=a}
noncomputable def kk(P:Params):Frag:=[
 (2,{cls:=Value.none,data:=Data.dict #[]}),
 (3,{cls:=Value.type "dict",data:=Data.dict #[dE P "__name__" 165 (vs "law_uf020033_03" 587),dE P "__doc__" 166 (Value.none),dE P "__package__" 167 (Value.none),dE P "__loader__" 168 (Value.builtin "__main__.__loader__#opaque"),dE P "__spec__" 169 (Value.none),dE P "__annotations__" 170 (rf 6),dE P "__builtins__" 171 (rf 4),dE P "__file__" 173 (vs "/claim/cut.py" 172),dE P "__cached__" 174 (Value.none),dE P "WebError" 206 (rf 24),dE P "BadWeb" 222 (rf 37),dE P "NoPoint" 238 (rf 49),dE P "BadText" 254 (rf 61),dE P "BadOrder" 270 (rf 73),dE P "HasGap" 286 (rf 85),dE P "is_order" 296 (rf 94),dE P "need_order" 304 (rf 101),dE P "those_behind" 310 (rf 106),dE P "behind" 319 (rf 113),dE P "first_untied" 330 (rf 120),dE P "gap" 340 (rf 127),dE P "least_to_go" 346 (rf 132),dE P "taken" 356 (rf 139),dE P "need_whole" 366 (rf 146),dE P "crowd_at" 375 (rf 153),dE P "is_full" 381 (rf 158),dE P "full_crowds" 392 (rf 165),dE P "least_free" 400 (rf 172),dE P "coloured" 406 (rf 177),dE P "steps_from" 422 (rf 184),dE P "way" 434 (rf 191),dE P "pieces" 445 (rf 198),dE P "ring_at" 451 (rf 203),dE P "long_ring" 460 (rf 210),dE P "Verdict" 499 (rf 227),dE P "judged" 510 (rf 238),dE P "MOST" 514 (Value.int 60 513),dE P "Web" 580 (rf 283),dE P "web_of" 586 (rf 292),dE P "_law_cell_at" 596 (rf 299),dE P "_law_whole" 603 (rf 306),dE P "_law_numbers" 612 (rf 313),dE P "_law_mixed" 620 (rf 320),dE P "_law_earlier" 636 (rf 327),dE P "_law_any_rows" 642 (rf 332),dE P "_law_many" 650 (rf 339),dE P "_law_banded" 656 (rf 344),dE P "_law_ringed" 662 (rf 349),dE P "_law_hubbed" 668 (rf 354),dE P "_law_rows" 678 (rf 361),dE P "_law_name" 688 (rf 368),dE P "_law_ties" 694 (rf 373),dE P "_law_near" 700 (rf 378),dE P "_law_keyed" 706 (rf 383),dE P "_law_behind" 712 (rf 388),dE P "_law_untied" 722 (rf 395),dE P "_law_gap" 732 (rf 402),dE P "_law_gap_told" 740 (rf 409),dE P "_law_within" 751 (rf 416),dE P "_law_orders_told" 764 (rf 423),dE P "_law_behind_told" 770 (rf 428),dE P "_law_spoilt" 776 (rf 433),dE P "_law_refused" 785 (rf 440),dE P "_law_no_point" 794 (rf 447),dE P "_law_by_base" 804 (rf 454),dE P "_law_gaps_right" 816 (rf 461),dE P "_law_behinds_right" 829 (rf 468),dE P "law" 835 (rf 473)] 68}),
 (23,{cls:=Value.type "dict",data:=Data.dict #[dE P "__module__" 196 (vs "shortring.errors" 187),dE P "__firstlineno__" 200 (Value.int 2 199),dE P "__static_attributes__" 201 (rf 22),dE P "__weakref__" 203 (rf 25),dE P "__doc__" 204 (Value.none)] 3}),
 (24,{cls:=Value.type "type",data:=Data.cls {name:=Str.ofString "WebError",bases:=[Value.type "ValueError"],mro:=[rf 24,Value.type "ValueError",Value.type "Exception",Value.type "BaseException",Value.type "object"],ns:=23,qualname:=Str.ofString "WebError",subclasses:=[rf 37,rf 49,rf 61,rf 73,rf 85]},slots:= #[some (rf 15),none,some (vs "WebError" 189),some (vs "WebError" 197),some (Value.builtin "ValueError.__new__"),some (Value.bool true)]}),
 (36,{cls:=Value.type "dict",data:=Data.dict #[dE P "__module__" 214 (vs "shortring.errors" 187),dE P "__firstlineno__" 218 (Value.int 4 217),dE P "__static_attributes__" 219 (rf 35),dE P "__doc__" 220 (Value.none)] 2}),
 (37,{cls:=Value.type "type",data:=Data.cls {name:=Str.ofString "BadWeb",bases:=[rf 24],mro:=[rf 37,rf 24,Value.type "ValueError",Value.type "Exception",Value.type "BaseException",Value.type "object"],ns:=36,qualname:=Str.ofString "BadWeb"},slots:= #[some (rf 28),none,some (vs "BadWeb" 207),some (vs "BadWeb" 215),some (Value.builtin "ValueError.__new__"),some (Value.bool true)]}),
 (48,{cls:=Value.type "dict",data:=Data.dict #[dE P "__module__" 230 (vs "shortring.errors" 187),dE P "__firstlineno__" 234 (Value.int 6 233),dE P "__static_attributes__" 235 (rf 47),dE P "__doc__" 236 (Value.none)] 2}),
 (49,{cls:=Value.type "type",data:=Data.cls {name:=Str.ofString "NoPoint",bases:=[rf 24],mro:=[rf 49,rf 24,Value.type "ValueError",Value.type "Exception",Value.type "BaseException",Value.type "object"],ns:=48,qualname:=Str.ofString "NoPoint"},slots:= #[some (rf 40),none,some (vs "NoPoint" 223),some (vs "NoPoint" 231),some (Value.builtin "ValueError.__new__"),some (Value.bool true)]}),
 (60,{cls:=Value.type "dict",data:=Data.dict #[dE P "__module__" 246 (vs "shortring.errors" 187),dE P "__firstlineno__" 250 (Value.int 8 249),dE P "__static_attributes__" 251 (rf 59),dE P "__doc__" 252 (Value.none)] 2}),
 (61,{cls:=Value.type "type",data:=Data.cls {name:=Str.ofString "BadText",bases:=[rf 24],mro:=[rf 61,rf 24,Value.type "ValueError",Value.type "Exception",Value.type "BaseException",Value.type "object"],ns:=60,qualname:=Str.ofString "BadText"},slots:= #[some (rf 52),none,some (vs "BadText" 239),some (vs "BadText" 247),some (Value.builtin "ValueError.__new__"),some (Value.bool true)]}),
 (72,{cls:=Value.type "dict",data:=Data.dict #[dE P "__module__" 262 (vs "shortring.errors" 187),dE P "__firstlineno__" 266 (Value.int 10 265),dE P "__static_attributes__" 267 (rf 71),dE P "__doc__" 268 (Value.none)] 2}),
 (73,{cls:=Value.type "type",data:=Data.cls {name:=Str.ofString "BadOrder",bases:=[rf 24],mro:=[rf 73,rf 24,Value.type "ValueError",Value.type "Exception",Value.type "BaseException",Value.type "object"],ns:=72,qualname:=Str.ofString "BadOrder"},slots:= #[some (rf 64),none,some (vs "BadOrder" 255),some (vs "BadOrder" 263),some (Value.builtin "ValueError.__new__"),some (Value.bool true)]}),
 (84,{cls:=Value.type "dict",data:=Data.dict #[dE P "__module__" 278 (vs "shortring.errors" 187),dE P "__firstlineno__" 282 (Value.int 12 281),dE P "__static_attributes__" 283 (rf 83),dE P "__doc__" 284 (Value.none)] 2}),
 (85,{cls:=Value.type "type",data:=Data.cls {name:=Str.ofString "HasGap",bases:=[rf 24],mro:=[rf 85,rf 24,Value.type "ValueError",Value.type "Exception",Value.type "BaseException",Value.type "object"],ns:=84,qualname:=Str.ofString "HasGap"},slots:= #[some (rf 76),none,some (vs "HasGap" 271),some (vs "HasGap" 279),some (Value.builtin "ValueError.__new__"),some (Value.bool true)]}),
 (93,cO "code" #[vs "is_order" 289,vs "is_order" 290,vs "/claim/cut.py" 291,vi 15,vi 2,vi 0,vi 0,vi 3,rf 88,Value.bool true,vi 181,rf 89,Value.none,rf 90,rf 91,rf 92,vi 294,vi 15,vs "/claim/cut.py" 295]),
 (94,Bk (Aj 8) (Str.ofString "is_order") (vs "shortring.orders" 287) 93),
 (100,cO "code" #[vs "need_order" 297,vs "need_order" 298,vs "/claim/cut.py" 299,vi 17,vi 2,vi 0,vi 0,vi 3,rf 95,Value.bool true,vi 181,rf 96,Value.none,rf 97,rf 98,rf 99,vi 302,vi 17,vs "/claim/cut.py" 303]),
 (101,Bk (Aj 9) (Str.ofString "need_order") (vs "shortring.orders" 287) 100),
 (105,cO "code" #[vs "those_behind" 305,vs "those_behind" 306,vs "/claim/cut.py" 307,vi 20,vi 3,vi 0,vi 0,vi 3,rf 102,Value.bool true,vi 181,rf 103,Value.none,Value.none,Value.none,rf 104,vi 308,vi 20,vs "/claim/cut.py" 309]),
 (106,Bk (Aj 10) (Str.ofString "those_behind") (vs "shortring.orders" 287) 105),
 (112,cO "code" #[vs "behind" 311,vs "behind" 312,vs "/claim/cut.py" 313,vi 23,vi 3,vi 0,vi 0,vi 3,rf 107,Value.bool true,vi 181,rf 108,Value.none,rf 109,rf 110,rf 111,vi 317,vi 23,vs "/claim/cut.py" 318]),
 (113,Bk (Aj 11) (Str.ofString "behind") (vs "shortring.orders" 287) 112),
 (119,cO "code" #[vs "first_untied" 320,vs "first_untied" 321,vs "/claim/cut.py" 322,vi 27,vi 2,vi 0,vi 0,vi 3,rf 114,Value.bool true,vi 181,rf 115,Value.none,rf 116,rf 117,rf 118,vi 328,vi 27,vs "/claim/cut.py" 329]),
 (120,Bk (Aj 12) (Str.ofString "first_untied") (vs "shortring.orders" 287) 119),
 (126,cO "code" #[vs "gap" 331,vs "gap" 332,vs "/claim/cut.py" 333,vi 33,vi 2,vi 0,vi 0,vi 3,rf 121,Value.bool true,vi 181,rf 122,Value.none,rf 123,rf 124,rf 125,vi 338,vi 33,vs "/claim/cut.py" 339]),
 (127,Bk (Aj 13) (Str.ofString "gap") (vs "shortring.orders" 287) 126),
 (131,cO "code" #[vs "least_to_go" 341,vs "least_to_go" 342,vs "/claim/cut.py" 343,vi 40,vi 2,vi 0,vi 0,vi 3,rf 128,Value.bool true,vi 181,rf 129,Value.none,Value.none,Value.none,rf 130,vi 344,vi 40,vs "/claim/cut.py" 345]),
 (132,Bk (Aj 14) (Str.ofString "least_to_go") (vs "shortring.orders" 287) 131),
 (138,cO "code" #[vs "taken" 347,vs "taken" 348,vs "/claim/cut.py" 349,vi 45,vi 1,vi 0,vi 0,vi 3,rf 133,Value.bool true,vi 181,rf 134,Value.none,rf 135,rf 136,rf 137,vi 354,vi 45,vs "/claim/cut.py" 355]),
 (139,Bk (Aj 15) (Str.ofString "taken") (vs "shortring.orders" 287) 138),
 (145,cO "code" #[vs "need_whole" 359,vs "need_whole" 360,vs "/claim/cut.py" 361,vi 55,vi 2,vi 0,vi 0,vi 3,rf 140,Value.bool true,vi 181,rf 141,Value.none,rf 142,rf 143,rf 144,vi 364,vi 55,vs "/claim/cut.py" 365]),
 (146,Bk (Aj 17) (Str.ofString "need_whole") (vs "shortring.crowds" 357) 145),
 (152,cO "code" #[vs "crowd_at" 367,vs "crowd_at" 368,vs "/claim/cut.py" 369,vi 58,vi 3,vi 0,vi 0,vi 3,rf 147,Value.bool true,vi 181,rf 148,Value.none,rf 149,rf 150,rf 151,vi 373,vi 58,vs "/claim/cut.py" 374]),
 (153,Bk (Aj 18) (Str.ofString "crowd_at") (vs "shortring.crowds" 357) 152),
 (157,cO "code" #[vs "is_full" 376,vs "is_full" 377,vs "/claim/cut.py" 378,vi 60,vi 2,vi 0,vi 0,vi 3,rf 154,Value.bool true,vi 181,rf 155,Value.none,Value.none,Value.none,rf 156,vi 379,vi 60,vs "/claim/cut.py" 380]),
 (158,Bk (Aj 19) (Str.ofString "is_full") (vs "shortring.crowds" 357) 157),
 (164,cO "code" #[vs "full_crowds" 382,vs "full_crowds" 383,vs "/claim/cut.py" 384,vi 65,vi 2,vi 0,vi 0,vi 3,rf 159,Value.bool true,vi 181,rf 160,Value.none,rf 161,rf 162,rf 163,vi 390,vi 65,vs "/claim/cut.py" 391]),
 (165,Bk (Aj 20) (Str.ofString "full_crowds") (vs "shortring.crowds" 357) 164),
 (171,cO "code" #[vs "least_free" 393,vs "least_free" 394,vs "/claim/cut.py" 395,vi 73,vi 1,vi 0,vi 0,vi 3,rf 166,Value.bool true,vi 181,rf 167,Value.none,rf 168,rf 169,rf 170,vi 398,vi 73,vs "/claim/cut.py" 399]),
 (172,Bk (Aj 21) (Str.ofString "least_free") (vs "shortring.crowds" 357) 171),
 (176,cO "code" #[vs "coloured" 401,vs "coloured" 402,vs "/claim/cut.py" 403,vi 78,vi 2,vi 0,vi 0,vi 3,rf 173,Value.bool true,vi 181,rf 174,Value.none,Value.none,Value.none,rf 175,vi 404,vi 78,vs "/claim/cut.py" 405]),
 (177,Bk (Aj 22) (Str.ofString "coloured") (vs "shortring.crowds" 357) 176),
 (183,cO "code" #[vs "steps_from" 409,vs "steps_from" 410,vs "/claim/cut.py" 411,vi 85,vi 3,vi 0,vi 0,vi 3,rf 178,Value.bool true,vi 181,rf 179,Value.none,rf 180,rf 181,rf 182,vi 420,vi 85,vs "/claim/cut.py" 421]),
 (184,Bk (Aj 24) (Str.ofString "steps_from") (vs "shortring.rings" 407) 183),
 (190,cO "code" #[vs "way" 423,vs "way" 424,vs "/claim/cut.py" 425,vi 97,vi 4,vi 0,vi 0,vi 3,rf 185,Value.bool true,vi 181,rf 186,Value.none,rf 187,rf 188,rf 189,vi 432,vi 97,vs "/claim/cut.py" 433]),
 (191,Bk (Aj 25) (Str.ofString "way") (vs "shortring.rings" 407) 190),
 (197,cO "code" #[vs "pieces" 435,vs "pieces" 436,vs "/claim/cut.py" 437,vi 110,vi 2,vi 0,vi 0,vi 3,rf 192,Value.bool true,vi 181,rf 193,Value.none,rf 194,rf 195,rf 196,vi 443,vi 110,vs "/claim/cut.py" 444]),
 (198,Bk (Aj 26) (Str.ofString "pieces") (vs "shortring.rings" 407) 197),
 (202,cO "code" #[vs "ring_at" 446,vs "ring_at" 447,vs "/claim/cut.py" 448,vi 117,vi 2,vi 0,vi 0,vi 3,rf 199,Value.bool true,vi 181,rf 200,Value.none,Value.none,Value.none,rf 201,vi 449,vi 117,vs "/claim/cut.py" 450]),
 (203,Bk (Aj 27) (Str.ofString "ring_at") (vs "shortring.rings" 407) 202),
 (209,cO "code" #[vs "long_ring" 452,vs "long_ring" 453,vs "/claim/cut.py" 454,vi 133,vi 1,vi 0,vi 0,vi 3,rf 204,Value.bool true,vi 181,rf 205,Value.none,rf 206,rf 207,rf 208,vi 458,vi 133,vs "/claim/cut.py" 459]),
 (210,Bk (Aj 28) (Str.ofString "long_ring") (vs "shortring.rings" 407) 209),
 (223,cO "code" #[vs "__init__" 475,vs "Verdict.__init__" 476,vs "/claim/cut.py" 477,vi 142,vi 6,vi 0,vi 0,vi 3,rf 218,Value.bool true,vi 181,rf 219,Value.none,rf 220,rf 221,rf 222,vi 484,vi 142,vs "/claim/cut.py" 485]),
 (224,Bk (Ht 30 0) (Str.ofString "Verdict.__init__") (vs "shortring.verdicts" 461) 223),
 (226,{cls:=Value.type "dict",data:=Data.dict #[dE P "__module__" 470 (vs "shortring.verdicts" 461),dE P "__firstlineno__" 474 (Value.int 140 473),dE P "__init__" 486 (rf 224),dE P "__static_attributes__" 492 (rf 225),dE P "__dict__" 494 (rf 228),dE P "__weakref__" 496 (rf 229),dE P "__doc__" 497 (Value.none)] 4}),
 (227,{cls:=Value.type "type",data:=Data.cls {name:=Str.ofString "Verdict",bases:=[Value.type "object"],mro:=[rf 227,Value.type "object"],ns:=226,qualname:=Str.ofString "Verdict"},slots:= #[none,none,some (vs "Verdict" 463),some (vs "Verdict" 471),some (Value.builtin "object.__new__"),some (Value.bool true)]}),
 (237,cO "code" #[vs "judged" 500,vs "judged" 501,vs "/claim/cut.py" 502,vi 148,vi 1,vi 0,vi 0,vi 3,rf 232,Value.bool true,vi 181,rf 233,Value.none,rf 234,rf 235,rf 236,vi 508,vi 148,vs "/claim/cut.py" 509]),
 (238,Bk (Aj 31) (Str.ofString "judged") (vs "shortring.verdicts" 461) 237),
 (251,cO "code" #[vs "__init__" 527,vs "Web.__init__" 528,vs "/claim/cut.py" 529,vi 162,vi 3,vi 0,vi 0,vi 3,rf 246,Value.bool true,vi 181,rf 247,Value.none,rf 248,rf 249,rf 250,vi 533,vi 162,vs "/claim/cut.py" 534]),
 (252,Bk (Ht 34 0) (Str.ofString "Web.__init__") (vs "shortring.webs" 511) 251),
 (258,cO "code" #[vs "need" 536,vs "Web.need" 537,vs "/claim/cut.py" 538,vi 166,vi 2,vi 0,vi 0,vi 3,rf 253,Value.bool true,vi 181,rf 254,Value.none,rf 255,rf 256,rf 257,vi 541,vi 166,vs "/claim/cut.py" 542]),
 (259,Bk (Ht 34 1) (Str.ofString "Web.need") (vs "shortring.webs" 511) 258),
 (265,cO "code" #[vs "beside" 544,vs "Web.beside" 545,vs "/claim/cut.py" 546,vi 170,vi 2,vi 0,vi 0,vi 3,rf 260,Value.bool true,vi 181,rf 261,Value.none,rf 262,rf 263,rf 264,vi 549,vi 170,vs "/claim/cut.py" 550]),
 (266,Bk (Ht 34 2) (Str.ofString "Web.beside") (vs "shortring.webs" 511) 265),
 (272,cO "code" #[vs "tied" 552,vs "Web.tied" 553,vs "/claim/cut.py" 554,vi 174,vi 3,vi 0,vi 0,vi 3,rf 267,Value.bool true,vi 181,rf 268,Value.none,rf 269,rf 270,rf 271,vi 558,vi 174,vs "/claim/cut.py" 559]),
 (273,Bk (Ht 34 3) (Str.ofString "Web.tied") (vs "shortring.webs" 511) 272),
 (279,cO "code" #[vs "ties" 561,vs "Web.ties" 562,vs "/claim/cut.py" 563,vi 179,vi 1,vi 0,vi 0,vi 3,rf 274,Value.bool true,vi 181,rf 275,Value.none,rf 276,rf 277,rf 278,vi 568,vi 179,vs "/claim/cut.py" 569]),
 (280,Bk (Ht 34 4) (Str.ofString "Web.ties") (vs "shortring.webs" 511) 279),
 (282,{cls:=Value.type "dict",data:=Data.dict #[dE P "__module__" 522 (vs "shortring.webs" 511),dE P "__firstlineno__" 526 (Value.int 160 525),dE P "__init__" 535 (rf 252),dE P "need" 543 (rf 259),dE P "beside" 551 (rf 266),dE P "tied" 560 (rf 273),dE P "ties" 570 (rf 280),dE P "__static_attributes__" 573 (rf 281),dE P "__dict__" 575 (rf 284),dE P "__weakref__" 577 (rf 285),dE P "__doc__" 578 (Value.none)] 4}),
 (283,{cls:=Value.type "type",data:=Data.cls {name:=Str.ofString "Web",bases:=[Value.type "object"],mro:=[rf 283,Value.type "object"],ns:=282,qualname:=Str.ofString "Web"},slots:= #[none,none,some (vs "Web" 515),some (vs "Web" 523),some (Value.builtin "object.__new__"),some (Value.bool true)]}),
 (291,cO "code" #[vs "web_of" 581,vs "web_of" 582,vs "/claim/cut.py" 583,vi 186,vi 2,vi 0,vi 0,vi 3,rf 288,Value.bool true,vi 181,rf 289,Value.none,Value.none,Value.none,rf 290,vi 584,vi 186,vs "/claim/cut.py" 585]),
 (292,Bk (Aj 35) (Str.ofString "web_of") (vs "shortring.webs" 511) 291),
 (298,cO "code" #[vs "_law_cell_at" 589,vs "_law_cell_at" 590,vs "/claim/cut.py" 591,vi 198,vi 2,vi 0,vi 0,vi 3,rf 293,Value.bool true,vi 181,rf 294,Value.none,rf 295,rf 296,rf 297,vi 594,vi 198,vs "/claim/cut.py" 595]),
 (299,Bk (Aj 37) (Str.ofString "_law_cell_at") (vs "law_uf020033_03" 587) 298),
 (305,cO "code" #[vs "_law_whole" 597,vs "_law_whole" 598,vs "/claim/cut.py" 599,vi 202,vi 1,vi 0,vi 0,vi 3,rf 300,Value.bool true,vi 181,rf 301,Value.none,rf 302,rf 303,rf 304,vi 601,vi 202,vs "/claim/cut.py" 602]),
 (306,Bk (Aj 38) (Str.ofString "_law_whole") (vs "law_uf020033_03" 587) 305),
 (312,cO "code" #[vs "_law_numbers" 604,vs "_law_numbers" 605,vs "/claim/cut.py" 606,vi 204,vi 2,vi 0,vi 0,vi 3,rf 307,Value.bool true,vi 181,rf 308,Value.none,rf 309,rf 310,rf 311,vi 610,vi 204,vs "/claim/cut.py" 611]),
 (313,Bk (Aj 39) (Str.ofString "_law_numbers") (vs "law_uf020033_03" 587) 312),
 (319,cO "code" #[vs "_law_mixed" 613,vs "_law_mixed" 614,vs "/claim/cut.py" 615,vi 211,vi 2,vi 0,vi 0,vi 3,rf 314,Value.bool true,vi 181,rf 315,Value.none,rf 316,rf 317,rf 318,vi 618,vi 211,vs "/claim/cut.py" 619]),
 (320,Bk (Aj 40) (Str.ofString "_law_mixed") (vs "law_uf020033_03" 587) 319),
 (326,cO "code" #[vs "_law_earlier" 621,vs "_law_earlier" 622,vs "/claim/cut.py" 623,vi 213,vi 3,vi 0,vi 0,vi 3,rf 321,Value.bool true,vi 181,rf 322,Value.none,rf 323,rf 324,rf 325,vi 634,vi 213,vs "/claim/cut.py" 635]),
 (327,Bk (Aj 41) (Str.ofString "_law_earlier") (vs "law_uf020033_03" 587) 326),
 (331,cO "code" #[vs "_law_any_rows" 637,vs "_law_any_rows" 638,vs "/claim/cut.py" 639,vi 232,vi 2,vi 0,vi 0,vi 3,rf 328,Value.bool true,vi 181,rf 329,Value.none,Value.none,Value.none,rf 330,vi 640,vi 232,vs "/claim/cut.py" 641]),
 (332,Bk (Aj 42) (Str.ofString "_law_any_rows") (vs "law_uf020033_03" 587) 331),
 (338,cO "code" #[vs "_law_many" 643,vs "_law_many" 644,vs "/claim/cut.py" 645,vi 242,vi 1,vi 0,vi 0,vi 3,rf 333,Value.bool true,vi 181,rf 334,Value.none,rf 335,rf 336,rf 337,vi 648,vi 242,vs "/claim/cut.py" 649]),
 (339,Bk (Aj 43) (Str.ofString "_law_many") (vs "law_uf020033_03" 587) 338),
 (343,cO "code" #[vs "_law_banded" 651,vs "_law_banded" 652,vs "/claim/cut.py" 653,vi 249,vi 2,vi 0,vi 0,vi 3,rf 340,Value.bool true,vi 181,rf 341,Value.none,Value.none,Value.none,rf 342,vi 654,vi 249,vs "/claim/cut.py" 655]),
 (344,Bk (Aj 44) (Str.ofString "_law_banded") (vs "law_uf020033_03" 587) 343),
 (348,cO "code" #[vs "_law_ringed" 657,vs "_law_ringed" 658,vs "/claim/cut.py" 659,vi 254,vi 2,vi 0,vi 0,vi 3,rf 345,Value.bool true,vi 181,rf 346,Value.none,Value.none,Value.none,rf 347,vi 660,vi 254,vs "/claim/cut.py" 661]),
 (349,Bk (Aj 45) (Str.ofString "_law_ringed") (vs "law_uf020033_03" 587) 348),
 (353,cO "code" #[vs "_law_hubbed" 663,vs "_law_hubbed" 664,vs "/claim/cut.py" 665,vi 262,vi 2,vi 0,vi 0,vi 3,rf 350,Value.bool true,vi 181,rf 351,Value.none,Value.none,Value.none,rf 352,vi 666,vi 262,vs "/claim/cut.py" 667]),
 (354,Bk (Aj 46) (Str.ofString "_law_hubbed") (vs "law_uf020033_03" 587) 353),
 (360,cO "code" #[vs "_law_rows" 669,vs "_law_rows" 670,vs "/claim/cut.py" 671,vi 267,vi 2,vi 0,vi 0,vi 3,rf 355,Value.bool true,vi 181,rf 356,Value.none,rf 357,rf 358,rf 359,vi 676,vi 267,vs "/claim/cut.py" 677]),
 (361,Bk (Aj 47) (Str.ofString "_law_rows") (vs "law_uf020033_03" 587) 360),
 (367,cO "code" #[vs "_law_name" 679,vs "_law_name" 680,vs "/claim/cut.py" 681,vi 281,vi 3,vi 0,vi 0,vi 3,rf 362,Value.bool true,vi 181,rf 363,Value.none,rf 364,rf 365,rf 366,vi 686,vi 281,vs "/claim/cut.py" 687]),
 (368,Bk (Aj 48) (Str.ofString "_law_name") (vs "law_uf020033_03" 587) 367),
 (372,cO "code" #[vs "_law_ties" 689,vs "_law_ties" 690,vs "/claim/cut.py" 691,vi 286,vi 3,vi 0,vi 0,vi 3,rf 369,Value.bool true,vi 181,rf 370,Value.none,Value.none,Value.none,rf 371,vi 692,vi 286,vs "/claim/cut.py" 693]),
 (373,Bk (Aj 49) (Str.ofString "_law_ties") (vs "law_uf020033_03" 587) 372),
 (377,cO "code" #[vs "_law_near" 695,vs "_law_near" 696,vs "/claim/cut.py" 697,vi 295,vi 2,vi 0,vi 0,vi 3,rf 374,Value.bool true,vi 181,rf 375,Value.none,Value.none,Value.none,rf 376,vi 698,vi 295,vs "/claim/cut.py" 699]),
 (378,Bk (Aj 50) (Str.ofString "_law_near") (vs "law_uf020033_03" 587) 377),
 (382,cO "code" #[vs "_law_keyed" 701,vs "_law_keyed" 702,vs "/claim/cut.py" 703,vi 302,vi 2,vi 0,vi 0,vi 3,rf 379,Value.bool true,vi 181,rf 380,Value.none,Value.none,Value.none,rf 381,vi 704,vi 302,vs "/claim/cut.py" 705]),
 (383,Bk (Aj 51) (Str.ofString "_law_keyed") (vs "law_uf020033_03" 587) 382),
 (387,cO "code" #[vs "_law_behind" 707,vs "_law_behind" 708,vs "/claim/cut.py" 709,vi 305,vi 3,vi 0,vi 0,vi 3,rf 384,Value.bool true,vi 181,rf 385,Value.none,Value.none,Value.none,rf 386,vi 710,vi 305,vs "/claim/cut.py" 711]),
 (388,Bk (Aj 52) (Str.ofString "_law_behind") (vs "law_uf020033_03" 587) 387),
 (394,cO "code" #[vs "_law_untied" 713,vs "_law_untied" 714,vs "/claim/cut.py" 715,vi 307,vi 2,vi 0,vi 0,vi 3,rf 389,Value.bool true,vi 181,rf 390,Value.none,rf 391,rf 392,rf 393,vi 720,vi 307,vs "/claim/cut.py" 721]),
 (395,Bk (Aj 53) (Str.ofString "_law_untied") (vs "law_uf020033_03" 587) 394),
 (401,cO "code" #[vs "_law_gap" 723,vs "_law_gap" 724,vs "/claim/cut.py" 725,vi 313,vi 2,vi 0,vi 0,vi 3,rf 396,Value.bool true,vi 181,rf 397,Value.none,rf 398,rf 399,rf 400,vi 730,vi 313,vs "/claim/cut.py" 731]),
 (402,Bk (Aj 54) (Str.ofString "_law_gap") (vs "law_uf020033_03" 587) 401),
 (408,cO "code" #[vs "_law_gap_told" 733,vs "_law_gap_told" 734,vs "/claim/cut.py" 735,vi 319,vi 2,vi 0,vi 0,vi 3,rf 403,Value.bool true,vi 181,rf 404,Value.none,rf 405,rf 406,rf 407,vi 738,vi 319,vs "/claim/cut.py" 739]),
 (409,Bk (Aj 55) (Str.ofString "_law_gap_told") (vs "law_uf020033_03" 587) 408),
 (415,cO "code" #[vs "_law_within" 741,vs "_law_within" 742,vs "/claim/cut.py" 743,vi 323,vi 2,vi 0,vi 0,vi 3,rf 410,Value.bool true,vi 181,rf 411,Value.none,rf 412,rf 413,rf 414,vi 749,vi 323,vs "/claim/cut.py" 750]),
 (416,Bk (Aj 56) (Str.ofString "_law_within") (vs "law_uf020033_03" 587) 415),
 (422,cO "code" #[vs "_law_orders_told" 752,vs "_law_orders_told" 753,vs "/claim/cut.py" 754,vi 332,vi 3,vi 0,vi 0,vi 3,rf 417,Value.bool true,vi 181,rf 418,Value.none,rf 419,rf 420,rf 421,vi 762,vi 332,vs "/claim/cut.py" 763]),
 (423,Bk (Aj 57) (Str.ofString "_law_orders_told") (vs "law_uf020033_03" 587) 422),
 (427,cO "code" #[vs "_law_behind_told" 765,vs "_law_behind_told" 766,vs "/claim/cut.py" 767,vi 341,vi 4,vi 0,vi 0,vi 3,rf 424,Value.bool true,vi 181,rf 425,Value.none,Value.none,Value.none,rf 426,vi 768,vi 341,vs "/claim/cut.py" 769]),
 (428,Bk (Aj 58) (Str.ofString "_law_behind_told") (vs "law_uf020033_03" 587) 427),
 (432,cO "code" #[vs "_law_spoilt" 771,vs "_law_spoilt" 772,vs "/claim/cut.py" 773,vi 353,vi 3,vi 0,vi 0,vi 3,rf 429,Value.bool true,vi 181,rf 430,Value.none,Value.none,Value.none,rf 431,vi 774,vi 353,vs "/claim/cut.py" 775]),
 (433,Bk (Aj 59) (Str.ofString "_law_spoilt") (vs "law_uf020033_03" 587) 432),
 (439,cO "code" #[vs "_law_refused" 777,vs "_law_refused" 778,vs "/claim/cut.py" 779,vi 366,vi 3,vi 0,vi 0,vi 3,rf 434,Value.bool true,vi 181,rf 435,Value.none,rf 436,rf 437,rf 438,vi 783,vi 366,vs "/claim/cut.py" 784]),
 (440,Bk (Aj 60) (Str.ofString "_law_refused") (vs "law_uf020033_03" 587) 439),
 (446,cO "code" #[vs "_law_no_point" 786,vs "_law_no_point" 787,vs "/claim/cut.py" 788,vi 377,vi 3,vi 0,vi 0,vi 3,rf 441,Value.bool true,vi 181,rf 442,Value.none,rf 443,rf 444,rf 445,vi 792,vi 377,vs "/claim/cut.py" 793]),
 (447,Bk (Aj 61) (Str.ofString "_law_no_point") (vs "law_uf020033_03" 587) 446),
 (453,cO "code" #[vs "_law_by_base" 795,vs "_law_by_base" 796,vs "/claim/cut.py" 797,vi 383,vi 3,vi 0,vi 0,vi 3,rf 448,Value.bool true,vi 181,rf 449,Value.none,rf 450,rf 451,rf 452,vi 802,vi 383,vs "/claim/cut.py" 803]),
 (454,Bk (Aj 62) (Str.ofString "_law_by_base") (vs "law_uf020033_03" 587) 453),
 (460,cO "code" #[vs "_law_gaps_right" 805,vs "_law_gaps_right" 806,vs "/claim/cut.py" 807,vi 395,vi 4,vi 0,vi 0,vi 3,rf 455,Value.bool true,vi 181,rf 456,Value.none,rf 457,rf 458,rf 459,vi 814,vi 395,vs "/claim/cut.py" 815]),
 (461,Bk (Aj 63) (Str.ofString "_law_gaps_right") (vs "law_uf020033_03" 587) 460),
 (467,cO "code" #[vs "_law_behinds_right" 817,vs "_law_behinds_right" 818,vs "/claim/cut.py" 819,vi 403,vi 4,vi 0,vi 0,vi 3,rf 462,Value.bool true,vi 181,rf 463,Value.none,rf 464,rf 465,rf 466,vi 827,vi 403,vs "/claim/cut.py" 828]),
 (468,Bk (Aj 64) (Str.ofString "_law_behinds_right") (vs "law_uf020033_03" 587) 467),
 (472,cO "code" #[vs "law" 830,vs "law" 831,vs "/claim/cut.py" 832,vi 412,vi 1,vi 0,vi 0,vi 3,rf 469,Value.bool true,vi 181,rf 470,Value.none,Value.none,Value.none,rf 471,vi 833,vi 412,vs "/claim/cut.py" 834]),
 (473,Bk (Aj 65) (Str.ofString "law") (vs "law_uf020033_03" 587) 472)]
noncomputable def kas:List Addr:=[2,3,23,24,36,37,48,49,60,61,72,73,84,85,93,94,100,101,105,106,112,113,119,120,126,127,131,132,138,139,145,146,152,153,157,158,164,165,171,172,176,177,183,184,190,191,197,198,202,203,209,210,223,224,226,227,237,238,251,252,258,259,265,266,272,273,279,280,282,283,291,292,298,299,305,306,312,313,319,320,326,327,331,332,338,339,343,344,348,349,353,354,360,361,367,368,372,373,377,378,382,383,387,388,394,395,401,402,408,409,415,416,422,423,427,428,432,433,439,440,446,447,453,454,460,461,467,468,472,473]
noncomputable def kq:Program:={PySem.Challenge.pw_uf020033_03 with main:={PySem.Challenge.pw_uf020033_03.main with body:=[1,2,3,4,5,6,8,9,10,11,12,13,14,15,17,18,19,20,21,22,24,25,26,27,28,30,31,33,34,35,37,38,39,40,41,42,43,44,45,46,47,48,49,50,51,52,53,54,55,56,57,58,59,60,61,62,63,64,65].filterMap fun i=>PySem.Challenge.pw_uf020033_03.main.body[i]?}}
theorem Afv(P:Params):kas=(kk P).map (·.1):=by kernel_rfl
noncomputable def kH:Hook:=kHook kk kas Afv
noncomputable def Zr:Env:={scope:=PySem.Challenge.pw_uf020033_03.main.scope,locals:=mainNs,globals:=mainNs,cells:=[],code:=Value.ref 13,frame:=some 14}
noncomputable abbrev hB:List Stmt:=behindTheImports PySem.Challenge.pw_uf020033_03
noncomputable abbrev hC:Code:= .body hB Zr
noncomputable abbrev hF:List Frame:=[topFrame {line:=0,col:=0,endLine:=0,endCol:=0}]
noncomputable def s_a(P:Params)(os:OsState):Shared:=⟨⟨Array.mk [
 boot_o_0 P,
 boot_o_1 P,
 boot_o_2 P,
 boot_o_3 P,
 boot_o_4 P,
 boot_o_5 P,
 boot_o_6 P,
 boot_o_7 P,
 boot_o_8 P,
 boot_o_9 P,
 boot_o_10 P,
 tO "tuple" #[],
 {cls:=Value.none,data:=Data.fields #[]},
 cO "code" #[vs "<module>" 182,vs "<module>" 183,vs "/claim/cut.py" 184,vi 1,vi 0,vi 0,vi 0,vi 0,rf 11,Value.bool false,vi 181,rf 12,Value.none,Value.none,Value.none,Value.none,vi 185,vi 1,vs "/claim/cut.py" 186],
 fO #[some (rf 13),some (rf 3),some (rf 3),none,some (vs "__main__" 164),none,some (rf 0)]],{}⟩,Array.mk [],{},187,os⟩
noncomputable def s_b(P:Params)(os:OsState):Shared:=⟨⟨Array.mk [
 boot_o_0 P,
 boot_o_1 P,
 boot_o_2 P,
 boot_o_3 P,
 boot_o_4 P,
 boot_o_5 P,
 boot_o_6 P,
 boot_o_7 P,
 boot_o_8 P,
 boot_o_9 P,
 boot_o_10 P,
 tO "tuple" #[],
 {cls:=Value.none,data:=Data.fields #[]},
 cO "code" #[vs "<module>" 182,vs "<module>" 183,vs "/claim/cut.py" 184,vi 1,vi 0,vi 0,vi 0,vi 0,rf 11,Value.bool false,vi 181,rf 12,Value.none,Value.none,Value.none,Value.none,vi 185,vi 1,vs "/claim/cut.py" 186],
 fO #[some (rf 13),some (rf 3),some (rf 3),none,some (vs "__main__" 164),none,some (rf 0)]],{}⟩,Array.mk [],{},187,os⟩
noncomputable def Ae6(P:Params)(os:OsState):Shared:=⟨⟨Array.mk [
 boot_o_0 P,
 boot_o_1 P,
 boot_o_2 P,
 {cls:=Value.type "dict",data:=Data.dict #[dE P "__name__" 165 (vs "shortring.verdicts" 461),dE P "__doc__" 166 (Value.none),dE P "__package__" 167 (Value.none),dE P "__loader__" 168 (Value.builtin "__main__.__loader__#opaque"),dE P "__spec__" 169 (Value.none),dE P "__annotations__" 170 (rf 6),dE P "__builtins__" 171 (rf 4),dE P "__file__" 173 (vs "/claim/cut.py" 172),dE P "__cached__" 174 (Value.none),dE P "WebError" 206 (rf 24),dE P "BadWeb" 222 (rf 37),dE P "NoPoint" 238 (rf 49),dE P "BadText" 254 (rf 61),dE P "BadOrder" 270 (rf 73),dE P "HasGap" 286 (rf 85),dE P "is_order" 296 (rf 94),dE P "need_order" 304 (rf 101),dE P "those_behind" 310 (rf 106),dE P "behind" 319 (rf 113),dE P "first_untied" 330 (rf 120),dE P "gap" 340 (rf 127),dE P "least_to_go" 346 (rf 132),dE P "taken" 356 (rf 139),dE P "need_whole" 366 (rf 146),dE P "crowd_at" 375 (rf 153),dE P "is_full" 381 (rf 158),dE P "full_crowds" 392 (rf 165),dE P "least_free" 400 (rf 172),dE P "coloured" 406 (rf 177),dE P "steps_from" 422 (rf 184),dE P "way" 434 (rf 191),dE P "pieces" 445 (rf 198),dE P "ring_at" 451 (rf 203),dE P "long_ring" 460 (rf 210)] 34},
 boot_o_4 P,
 boot_o_5 P,
 boot_o_6 P,
 boot_o_7 P,
 boot_o_8 P,
 boot_o_9 P,
 boot_o_10 P,
 tO "tuple" #[],
 {cls:=Value.none,data:=Data.fields #[vi 2,vi 0,rf 20,vi 4,vi 0,rf 33,vi 6,vi 0,rf 45,vi 8,vi 0,rf 57,vi 10,vi 0,rf 69,vi 12,vi 0,rf 81,vi 15,vi 0,rf 93,vi 17,vi 0,rf 100,vi 20,vi 0,rf 105,vi 23,vi 0,rf 112,vi 27,vi 0,rf 119,vi 33,vi 0,rf 126,vi 40,vi 0,rf 131,vi 45,vi 0,rf 138,vi 55,vi 0,rf 145,vi 58,vi 0,rf 152,vi 60,vi 0,rf 157,vi 65,vi 0,rf 164,vi 73,vi 0,rf 171,vi 78,vi 0,rf 176,vi 85,vi 0,rf 183,vi 97,vi 0,rf 190,vi 110,vi 0,rf 197,vi 117,vi 0,rf 202,vi 133,vi 0,rf 209]},
 cO "code" #[vs "<module>" 182,vs "<module>" 183,vs "/claim/cut.py" 184,vi 1,vi 0,vi 0,vi 0,vi 0,rf 11,Value.bool false,vi 181,rf 12,Value.none,Value.none,Value.none,Value.none,vi 185,vi 1,vs "/claim/cut.py" 186],
 fO #[some (rf 13),some (rf 3),some (rf 3),none,some (vs "__main__" 164),none,some (rf 0)],
 tO "tuple" #[Value.type "ValueError"],
 cO "builtin_function_or_method" #[Value.builtin "type.__prepare__",Value.type "type"],
 {cls:=Value.type "dict",data:=Data.dict #[dE P "__module__" 196 (vs "shortring.errors" 187),dE P "__qualname__" 198 (vs "WebError" 197),dE P "__firstlineno__" 200 (Value.int 2 199),dE P "__static_attributes__" 201 (rf 22)] 4},
 tO "tuple" #[],
 {cls:=Value.none,data:=Data.fields #[]},
 cO "code" #[vs "WebError" 191,vs "WebError" 192,vs "/claim/cut.py" 193,vi 2,vi 0,vi 0,vi 0,vi 0,rf 18,Value.bool false,vi 181,rf 19,Value.none,Value.none,Value.none,Value.none,vi 194,vi 2,vs "/claim/cut.py" 195],
 fO #[some (rf 20),some (rf 3),some (rf 17),none,some (vs "shortring.errors" 187),none,some (rf 0)],
 tO "tuple" #[],
 {cls:=Value.type "dict",data:=Data.dict #[dE P "__module__" 196 (vs "shortring.errors" 187),dE P "__firstlineno__" 200 (Value.int 2 199),dE P "__static_attributes__" 201 (rf 22),dE P "__weakref__" 203 (rf 25),dE P "__doc__" 204 (Value.none)] 3},
 {cls:=Value.type "type",data:=Data.cls {name:=Str.ofString "WebError",bases:=[Value.type "ValueError"],mro:=[rf 24,Value.type "ValueError",Value.type "Exception",Value.type "BaseException",Value.type "object"],ns:=23,qualname:=Str.ofString "WebError",subclasses:=[rf 37,rf 49,rf 61,rf 73,rf 85]},slots:= #[some (rf 15),none,some (vs "WebError" 189),some (vs "WebError" 197),some (Value.builtin "ValueError.__new__"),some (Value.bool true)]},
 cO "getset_descriptor" #[vs "__weakref__" 202,rf 24,Value.builtin "ExceptionGroup.__weakref__",Value.none],
 cO "super" #[rf 24,rf 24,rf 24],
 cO "builtin_function_or_method" #[Value.builtin "object.__init_subclass__",rf 24],
 tO "tuple" #[rf 24],
 cO "builtin_function_or_method" #[Value.builtin "type.__prepare__",Value.type "type"],
 {cls:=Value.type "dict",data:=Data.dict #[dE P "__module__" 214 (vs "shortring.errors" 187),dE P "__qualname__" 216 (vs "BadWeb" 215),dE P "__firstlineno__" 218 (Value.int 4 217),dE P "__static_attributes__" 219 (rf 35)] 4},
 tO "tuple" #[],
 {cls:=Value.none,data:=Data.fields #[]},
 cO "code" #[vs "BadWeb" 209,vs "BadWeb" 210,vs "/claim/cut.py" 211,vi 4,vi 0,vi 0,vi 0,vi 0,rf 31,Value.bool false,vi 181,rf 32,Value.none,Value.none,Value.none,Value.none,vi 212,vi 4,vs "/claim/cut.py" 213],
 fO #[some (rf 33),some (rf 3),some (rf 30),none,some (vs "shortring.errors" 187),none,some (rf 0)],
 tO "tuple" #[],
 {cls:=Value.type "dict",data:=Data.dict #[dE P "__module__" 214 (vs "shortring.errors" 187),dE P "__firstlineno__" 218 (Value.int 4 217),dE P "__static_attributes__" 219 (rf 35),dE P "__doc__" 220 (Value.none)] 2},
 {cls:=Value.type "type",data:=Data.cls {name:=Str.ofString "BadWeb",bases:=[rf 24],mro:=[rf 37,rf 24,Value.type "ValueError",Value.type "Exception",Value.type "BaseException",Value.type "object"],ns:=36,qualname:=Str.ofString "BadWeb"},slots:= #[some (rf 28),none,some (vs "BadWeb" 207),some (vs "BadWeb" 215),some (Value.builtin "ValueError.__new__"),some (Value.bool true)]},
 cO "super" #[rf 37,rf 37,rf 37],
 cO "builtin_function_or_method" #[Value.builtin "object.__init_subclass__",rf 37],
 tO "tuple" #[rf 24],
 cO "builtin_function_or_method" #[Value.builtin "type.__prepare__",Value.type "type"],
 {cls:=Value.type "dict",data:=Data.dict #[dE P "__module__" 230 (vs "shortring.errors" 187),dE P "__qualname__" 232 (vs "NoPoint" 231),dE P "__firstlineno__" 234 (Value.int 6 233),dE P "__static_attributes__" 235 (rf 47)] 4},
 tO "tuple" #[],
 {cls:=Value.none,data:=Data.fields #[]},
 cO "code" #[vs "NoPoint" 225,vs "NoPoint" 226,vs "/claim/cut.py" 227,vi 6,vi 0,vi 0,vi 0,vi 0,rf 43,Value.bool false,vi 181,rf 44,Value.none,Value.none,Value.none,Value.none,vi 228,vi 6,vs "/claim/cut.py" 229],
 fO #[some (rf 45),some (rf 3),some (rf 42),none,some (vs "shortring.errors" 187),none,some (rf 0)],
 tO "tuple" #[],
 {cls:=Value.type "dict",data:=Data.dict #[dE P "__module__" 230 (vs "shortring.errors" 187),dE P "__firstlineno__" 234 (Value.int 6 233),dE P "__static_attributes__" 235 (rf 47),dE P "__doc__" 236 (Value.none)] 2},
 {cls:=Value.type "type",data:=Data.cls {name:=Str.ofString "NoPoint",bases:=[rf 24],mro:=[rf 49,rf 24,Value.type "ValueError",Value.type "Exception",Value.type "BaseException",Value.type "object"],ns:=48,qualname:=Str.ofString "NoPoint"},slots:= #[some (rf 40),none,some (vs "NoPoint" 223),some (vs "NoPoint" 231),some (Value.builtin "ValueError.__new__"),some (Value.bool true)]},
 cO "super" #[rf 49,rf 49,rf 49],
 cO "builtin_function_or_method" #[Value.builtin "object.__init_subclass__",rf 49],
 tO "tuple" #[rf 24],
 cO "builtin_function_or_method" #[Value.builtin "type.__prepare__",Value.type "type"],
 {cls:=Value.type "dict",data:=Data.dict #[dE P "__module__" 246 (vs "shortring.errors" 187),dE P "__qualname__" 248 (vs "BadText" 247),dE P "__firstlineno__" 250 (Value.int 8 249),dE P "__static_attributes__" 251 (rf 59)] 4},
 tO "tuple" #[],
 {cls:=Value.none,data:=Data.fields #[]},
 cO "code" #[vs "BadText" 241,vs "BadText" 242,vs "/claim/cut.py" 243,vi 8,vi 0,vi 0,vi 0,vi 0,rf 55,Value.bool false,vi 181,rf 56,Value.none,Value.none,Value.none,Value.none,vi 244,vi 8,vs "/claim/cut.py" 245],
 fO #[some (rf 57),some (rf 3),some (rf 54),none,some (vs "shortring.errors" 187),none,some (rf 0)],
 tO "tuple" #[],
 {cls:=Value.type "dict",data:=Data.dict #[dE P "__module__" 246 (vs "shortring.errors" 187),dE P "__firstlineno__" 250 (Value.int 8 249),dE P "__static_attributes__" 251 (rf 59),dE P "__doc__" 252 (Value.none)] 2},
 {cls:=Value.type "type",data:=Data.cls {name:=Str.ofString "BadText",bases:=[rf 24],mro:=[rf 61,rf 24,Value.type "ValueError",Value.type "Exception",Value.type "BaseException",Value.type "object"],ns:=60,qualname:=Str.ofString "BadText"},slots:= #[some (rf 52),none,some (vs "BadText" 239),some (vs "BadText" 247),some (Value.builtin "ValueError.__new__"),some (Value.bool true)]},
 cO "super" #[rf 61,rf 61,rf 61],
 cO "builtin_function_or_method" #[Value.builtin "object.__init_subclass__",rf 61],
 tO "tuple" #[rf 24],
 cO "builtin_function_or_method" #[Value.builtin "type.__prepare__",Value.type "type"],
 {cls:=Value.type "dict",data:=Data.dict #[dE P "__module__" 262 (vs "shortring.errors" 187),dE P "__qualname__" 264 (vs "BadOrder" 263),dE P "__firstlineno__" 266 (Value.int 10 265),dE P "__static_attributes__" 267 (rf 71)] 4},
 tO "tuple" #[],
 {cls:=Value.none,data:=Data.fields #[]},
 cO "code" #[vs "BadOrder" 257,vs "BadOrder" 258,vs "/claim/cut.py" 259,vi 10,vi 0,vi 0,vi 0,vi 0,rf 67,Value.bool false,vi 181,rf 68,Value.none,Value.none,Value.none,Value.none,vi 260,vi 10,vs "/claim/cut.py" 261],
 fO #[some (rf 69),some (rf 3),some (rf 66),none,some (vs "shortring.errors" 187),none,some (rf 0)],
 tO "tuple" #[],
 {cls:=Value.type "dict",data:=Data.dict #[dE P "__module__" 262 (vs "shortring.errors" 187),dE P "__firstlineno__" 266 (Value.int 10 265),dE P "__static_attributes__" 267 (rf 71),dE P "__doc__" 268 (Value.none)] 2},
 {cls:=Value.type "type",data:=Data.cls {name:=Str.ofString "BadOrder",bases:=[rf 24],mro:=[rf 73,rf 24,Value.type "ValueError",Value.type "Exception",Value.type "BaseException",Value.type "object"],ns:=72,qualname:=Str.ofString "BadOrder"},slots:= #[some (rf 64),none,some (vs "BadOrder" 255),some (vs "BadOrder" 263),some (Value.builtin "ValueError.__new__"),some (Value.bool true)]},
 cO "super" #[rf 73,rf 73,rf 73],
 cO "builtin_function_or_method" #[Value.builtin "object.__init_subclass__",rf 73],
 tO "tuple" #[rf 24],
 cO "builtin_function_or_method" #[Value.builtin "type.__prepare__",Value.type "type"],
 {cls:=Value.type "dict",data:=Data.dict #[dE P "__module__" 278 (vs "shortring.errors" 187),dE P "__qualname__" 280 (vs "HasGap" 279),dE P "__firstlineno__" 282 (Value.int 12 281),dE P "__static_attributes__" 283 (rf 83)] 4},
 tO "tuple" #[],
 {cls:=Value.none,data:=Data.fields #[]},
 cO "code" #[vs "HasGap" 273,vs "HasGap" 274,vs "/claim/cut.py" 275,vi 12,vi 0,vi 0,vi 0,vi 0,rf 79,Value.bool false,vi 181,rf 80,Value.none,Value.none,Value.none,Value.none,vi 276,vi 12,vs "/claim/cut.py" 277],
 fO #[some (rf 81),some (rf 3),some (rf 78),none,some (vs "shortring.errors" 187),none,some (rf 0)],
 tO "tuple" #[],
 {cls:=Value.type "dict",data:=Data.dict #[dE P "__module__" 278 (vs "shortring.errors" 187),dE P "__firstlineno__" 282 (Value.int 12 281),dE P "__static_attributes__" 283 (rf 83),dE P "__doc__" 284 (Value.none)] 2},
 {cls:=Value.type "type",data:=Data.cls {name:=Str.ofString "HasGap",bases:=[rf 24],mro:=[rf 85,rf 24,Value.type "ValueError",Value.type "Exception",Value.type "BaseException",Value.type "object"],ns:=84,qualname:=Str.ofString "HasGap"},slots:= #[some (rf 76),none,some (vs "HasGap" 271),some (vs "HasGap" 279),some (Value.builtin "ValueError.__new__"),some (Value.bool true)]},
 cO "super" #[rf 85,rf 85,rf 85],
 cO "builtin_function_or_method" #[Value.builtin "object.__init_subclass__",rf 85],
 tO "tuple" #[],
 {cls:=Value.none,data:=Data.fields #[]},
 tO "tuple" #[vs "web" 292,vs "order" 293],
 tO "tuple" #[],
 Es (Aj 8) (Str.ofString "is_order"),
 cO "code" #[vs "is_order" 289,vs "is_order" 290,vs "/claim/cut.py" 291,vi 15,vi 2,vi 0,vi 0,vi 3,rf 88,Value.bool true,vi 181,rf 89,Value.none,rf 90,rf 91,rf 92,vi 294,vi 15,vs "/claim/cut.py" 295],
 Bk (Aj 8) (Str.ofString "is_order") (vs "shortring.orders" 287) 93,
 tO "tuple" #[],
 {cls:=Value.none,data:=Data.fields #[]},
 tO "tuple" #[vs "web" 300,vs "order" 301],
 tO "tuple" #[],
 Es (Aj 9) (Str.ofString "need_order"),
 cO "code" #[vs "need_order" 297,vs "need_order" 298,vs "/claim/cut.py" 299,vi 17,vi 2,vi 0,vi 0,vi 3,rf 95,Value.bool true,vi 181,rf 96,Value.none,rf 97,rf 98,rf 99,vi 302,vi 17,vs "/claim/cut.py" 303],
 Bk (Aj 9) (Str.ofString "need_order") (vs "shortring.orders" 287) 100,
 tO "tuple" #[],
 {cls:=Value.none,data:=Data.fields #[]},
 Es (Aj 10) (Str.ofString "those_behind"),
 cO "code" #[vs "those_behind" 305,vs "those_behind" 306,vs "/claim/cut.py" 307,vi 20,vi 3,vi 0,vi 0,vi 3,rf 102,Value.bool true,vi 181,rf 103,Value.none,Value.none,Value.none,rf 104,vi 308,vi 20,vs "/claim/cut.py" 309],
 Bk (Aj 10) (Str.ofString "those_behind") (vs "shortring.orders" 287) 105,
 tO "tuple" #[],
 {cls:=Value.none,data:=Data.fields #[]},
 tO "tuple" #[vs "web" 314,vs "order" 315,vs "point" 316],
 tO "tuple" #[],
 Es (Aj 11) (Str.ofString "behind"),
 cO "code" #[vs "behind" 311,vs "behind" 312,vs "/claim/cut.py" 313,vi 23,vi 3,vi 0,vi 0,vi 3,rf 107,Value.bool true,vi 181,rf 108,Value.none,rf 109,rf 110,rf 111,vi 317,vi 23,vs "/claim/cut.py" 318],
 Bk (Aj 11) (Str.ofString "behind") (vs "shortring.orders" 287) 112,
 tO "tuple" #[],
 {cls:=Value.none,data:=Data.fields #[]},
 tO "tuple" #[vs "web" 323,vs "row" 324,vs "k" 325,vs "one" 326,vs "other" 327],
 tO "tuple" #[],
 Es (Aj 12) (Str.ofString "first_untied"),
 cO "code" #[vs "first_untied" 320,vs "first_untied" 321,vs "/claim/cut.py" 322,vi 27,vi 2,vi 0,vi 0,vi 3,rf 114,Value.bool true,vi 181,rf 115,Value.none,rf 116,rf 117,rf 118,vi 328,vi 27,vs "/claim/cut.py" 329],
 Bk (Aj 12) (Str.ofString "first_untied") (vs "shortring.orders" 287) 119,
 tO "tuple" #[],
 {cls:=Value.none,data:=Data.fields #[]},
 tO "tuple" #[vs "web" 334,vs "order" 335,vs "point" 336,vs "pair" 337],
 tO "tuple" #[],
 Es (Aj 13) (Str.ofString "gap"),
 cO "code" #[vs "gap" 331,vs "gap" 332,vs "/claim/cut.py" 333,vi 33,vi 2,vi 0,vi 0,vi 3,rf 121,Value.bool true,vi 181,rf 122,Value.none,rf 123,rf 124,rf 125,vi 338,vi 33,vs "/claim/cut.py" 339],
 Bk (Aj 13) (Str.ofString "gap") (vs "shortring.orders" 287) 126,
 tO "tuple" #[],
 {cls:=Value.none,data:=Data.fields #[]},
 Es (Aj 14) (Str.ofString "least_to_go"),
 cO "code" #[vs "least_to_go" 341,vs "least_to_go" 342,vs "/claim/cut.py" 343,vi 40,vi 2,vi 0,vi 0,vi 3,rf 128,Value.bool true,vi 181,rf 129,Value.none,Value.none,Value.none,rf 130,vi 344,vi 40,vs "/claim/cut.py" 345],
 Bk (Aj 14) (Str.ofString "least_to_go") (vs "shortring.orders" 287) 131,
 tO "tuple" #[],
 {cls:=Value.none,data:=Data.fields #[]},
 tO "tuple" #[vs "web" 350,vs "there" 351,vs "gone" 352,vs "point" 353],
 tO "tuple" #[],
 Es (Aj 15) (Str.ofString "taken"),
 cO "code" #[vs "taken" 347,vs "taken" 348,vs "/claim/cut.py" 349,vi 45,vi 1,vi 0,vi 0,vi 3,rf 133,Value.bool true,vi 181,rf 134,Value.none,rf 135,rf 136,rf 137,vi 354,vi 45,vs "/claim/cut.py" 355],
 Bk (Aj 15) (Str.ofString "taken") (vs "shortring.orders" 287) 138,
 tO "tuple" #[],
 {cls:=Value.none,data:=Data.fields #[]},
 tO "tuple" #[vs "web" 362,vs "order" 363],
 tO "tuple" #[],
 Es (Aj 17) (Str.ofString "need_whole"),
 cO "code" #[vs "need_whole" 359,vs "need_whole" 360,vs "/claim/cut.py" 361,vi 55,vi 2,vi 0,vi 0,vi 3,rf 140,Value.bool true,vi 181,rf 141,Value.none,rf 142,rf 143,rf 144,vi 364,vi 55,vs "/claim/cut.py" 365],
 Bk (Aj 17) (Str.ofString "need_whole") (vs "shortring.crowds" 357) 145,
 tO "tuple" #[],
 {cls:=Value.none,data:=Data.fields #[]},
 tO "tuple" #[vs "web" 370,vs "order" 371,vs "point" 372],
 tO "tuple" #[],
 Es (Aj 18) (Str.ofString "crowd_at"),
 cO "code" #[vs "crowd_at" 367,vs "crowd_at" 368,vs "/claim/cut.py" 369,vi 58,vi 3,vi 0,vi 0,vi 3,rf 147,Value.bool true,vi 181,rf 148,Value.none,rf 149,rf 150,rf 151,vi 373,vi 58,vs "/claim/cut.py" 374],
 Bk (Aj 18) (Str.ofString "crowd_at") (vs "shortring.crowds" 357) 152,
 tO "tuple" #[],
 {cls:=Value.none,data:=Data.fields #[]},
 Es (Aj 19) (Str.ofString "is_full"),
 cO "code" #[vs "is_full" 376,vs "is_full" 377,vs "/claim/cut.py" 378,vi 60,vi 2,vi 0,vi 0,vi 3,rf 154,Value.bool true,vi 181,rf 155,Value.none,Value.none,Value.none,rf 156,vi 379,vi 60,vs "/claim/cut.py" 380],
 Bk (Aj 19) (Str.ofString "is_full") (vs "shortring.crowds" 357) 157,
 tO "tuple" #[],
 {cls:=Value.none,data:=Data.fields #[]},
 tO "tuple" #[vs "web" 385,vs "order" 386,vs "found" 387,vs "point" 388,vs "crowd" 389],
 tO "tuple" #[],
 Es (Aj 20) (Str.ofString "full_crowds"),
 cO "code" #[vs "full_crowds" 382,vs "full_crowds" 383,vs "/claim/cut.py" 384,vi 65,vi 2,vi 0,vi 0,vi 3,rf 159,Value.bool true,vi 181,rf 160,Value.none,rf 161,rf 162,rf 163,vi 390,vi 65,vs "/claim/cut.py" 391],
 Bk (Aj 20) (Str.ofString "full_crowds") (vs "shortring.crowds" 357) 164,
 tO "tuple" #[],
 {cls:=Value.none,data:=Data.fields #[]},
 tO "tuple" #[vs "used" 396,vs "colour" 397],
 tO "tuple" #[],
 Es (Aj 21) (Str.ofString "least_free"),
 cO "code" #[vs "least_free" 393,vs "least_free" 394,vs "/claim/cut.py" 395,vi 73,vi 1,vi 0,vi 0,vi 3,rf 166,Value.bool true,vi 181,rf 167,Value.none,rf 168,rf 169,rf 170,vi 398,vi 73,vs "/claim/cut.py" 399],
 Bk (Aj 21) (Str.ofString "least_free") (vs "shortring.crowds" 357) 171,
 tO "tuple" #[],
 {cls:=Value.none,data:=Data.fields #[]},
 Es (Aj 22) (Str.ofString "coloured"),
 cO "code" #[vs "coloured" 401,vs "coloured" 402,vs "/claim/cut.py" 403,vi 78,vi 2,vi 0,vi 0,vi 3,rf 173,Value.bool true,vi 181,rf 174,Value.none,Value.none,Value.none,rf 175,vi 404,vi 78,vs "/claim/cut.py" 405],
 Bk (Aj 22) (Str.ofString "coloured") (vs "shortring.crowds" 357) 176,
 tO "tuple" #[],
 {cls:=Value.none,data:=Data.fields #[]},
 tO "tuple" #[vs "web" 412,vs "start" 413,vs "shut" 414,vs "came" 415,vs "waiting" 416,vs "k" 417,vs "point" 418,vs "other" 419],
 tO "tuple" #[],
 Es (Aj 24) (Str.ofString "steps_from"),
 cO "code" #[vs "steps_from" 409,vs "steps_from" 410,vs "/claim/cut.py" 411,vi 85,vi 3,vi 0,vi 0,vi 3,rf 178,Value.bool true,vi 181,rf 179,Value.none,rf 180,rf 181,rf 182,vi 420,vi 85,vs "/claim/cut.py" 421],
 Bk (Aj 24) (Str.ofString "steps_from") (vs "shortring.rings" 407) 183,
 tO "tuple" #[],
 {cls:=Value.none,data:=Data.fields #[]},
 tO "tuple" #[vs "web" 426,vs "start" 427,vs "goal" 428,vs "shut" 429,vs "came" 430,vs "found" 431],
 tO "tuple" #[],
 Es (Aj 25) (Str.ofString "way"),
 cO "code" #[vs "way" 423,vs "way" 424,vs "/claim/cut.py" 425,vi 97,vi 4,vi 0,vi 0,vi 3,rf 185,Value.bool true,vi 181,rf 186,Value.none,rf 187,rf 188,rf 189,vi 432,vi 97,vs "/claim/cut.py" 433],
 Bk (Aj 25) (Str.ofString "way") (vs "shortring.rings" 407) 190,
 tO "tuple" #[],
 {cls:=Value.none,data:=Data.fields #[]},
 tO "tuple" #[vs "web" 438,vs "shut" 439,vs "piece" 440,vs "start" 441,vs "point" 442],
 tO "tuple" #[],
 Es (Aj 26) (Str.ofString "pieces"),
 cO "code" #[vs "pieces" 435,vs "pieces" 436,vs "/claim/cut.py" 437,vi 110,vi 2,vi 0,vi 0,vi 3,rf 192,Value.bool true,vi 181,rf 193,Value.none,rf 194,rf 195,rf 196,vi 443,vi 110,vs "/claim/cut.py" 444],
 Bk (Aj 26) (Str.ofString "pieces") (vs "shortring.rings" 407) 197,
 tO "tuple" #[],
 {cls:=Value.none,data:=Data.fields #[]},
 Es (Aj 27) (Str.ofString "ring_at"),
 cO "code" #[vs "ring_at" 446,vs "ring_at" 447,vs "/claim/cut.py" 448,vi 117,vi 2,vi 0,vi 0,vi 3,rf 199,Value.bool true,vi 181,rf 200,Value.none,Value.none,Value.none,rf 201,vi 449,vi 117,vs "/claim/cut.py" 450],
 Bk (Aj 27) (Str.ofString "ring_at") (vs "shortring.rings" 407) 202,
 tO "tuple" #[],
 {cls:=Value.none,data:=Data.fields #[]},
 tO "tuple" #[vs "web" 455,vs "point" 456,vs "found" 457],
 tO "tuple" #[],
 Es (Aj 28) (Str.ofString "long_ring"),
 cO "code" #[vs "long_ring" 452,vs "long_ring" 453,vs "/claim/cut.py" 454,vi 133,vi 1,vi 0,vi 0,vi 3,rf 204,Value.bool true,vi 181,rf 205,Value.none,rf 206,rf 207,rf 208,vi 458,vi 133,vs "/claim/cut.py" 459],
 Bk (Aj 28) (Str.ofString "long_ring") (vs "shortring.rings" 407) 209],{}⟩,Array.mk [],{},463,os⟩
noncomputable def Ae7(P:Params)(os:OsState):Shared:=⟨⟨Array.mk [
 boot_o_0 P,
 boot_o_1 P,
 boot_o_2 P,
 {cls:=Value.type "dict",data:=Data.dict #[dE P "__name__" 165 (vs "law_uf020033_03" 587),dE P "__doc__" 166 (Value.none),dE P "__package__" 167 (Value.none),dE P "__loader__" 168 (Value.builtin "__main__.__loader__#opaque"),dE P "__spec__" 169 (Value.none),dE P "__annotations__" 170 (rf 6),dE P "__builtins__" 171 (rf 4),dE P "__file__" 173 (vs "/claim/cut.py" 172),dE P "__cached__" 174 (Value.none),dE P "WebError" 206 (rf 24),dE P "BadWeb" 222 (rf 37),dE P "NoPoint" 238 (rf 49),dE P "BadText" 254 (rf 61),dE P "BadOrder" 270 (rf 73),dE P "HasGap" 286 (rf 85),dE P "is_order" 296 (rf 94),dE P "need_order" 304 (rf 101),dE P "those_behind" 310 (rf 106),dE P "behind" 319 (rf 113),dE P "first_untied" 330 (rf 120),dE P "gap" 340 (rf 127),dE P "least_to_go" 346 (rf 132),dE P "taken" 356 (rf 139),dE P "need_whole" 366 (rf 146),dE P "crowd_at" 375 (rf 153),dE P "is_full" 381 (rf 158),dE P "full_crowds" 392 (rf 165),dE P "least_free" 400 (rf 172),dE P "coloured" 406 (rf 177),dE P "steps_from" 422 (rf 184),dE P "way" 434 (rf 191),dE P "pieces" 445 (rf 198),dE P "ring_at" 451 (rf 203),dE P "long_ring" 460 (rf 210),dE P "Verdict" 499 (rf 227),dE P "judged" 510 (rf 238),dE P "MOST" 514 (Value.int 60 513),dE P "Web" 580 (rf 283),dE P "web_of" 586 (rf 292),dE P "_law_cell_at" 596 (rf 299),dE P "_law_whole" 603 (rf 306)] 41},
 boot_o_4 P,
 boot_o_5 P,
 boot_o_6 P,
 boot_o_7 P,
 boot_o_8 P,
 boot_o_9 P,
 boot_o_10 P,
 tO "tuple" #[],
 {cls:=Value.none,data:=Data.fields #[vi 2,vi 0,rf 20,vi 4,vi 0,rf 33,vi 6,vi 0,rf 45,vi 8,vi 0,rf 57,vi 10,vi 0,rf 69,vi 12,vi 0,rf 81,vi 15,vi 0,rf 93,vi 17,vi 0,rf 100,vi 20,vi 0,rf 105,vi 23,vi 0,rf 112,vi 27,vi 0,rf 119,vi 33,vi 0,rf 126,vi 40,vi 0,rf 131,vi 45,vi 0,rf 138,vi 55,vi 0,rf 145,vi 58,vi 0,rf 152,vi 60,vi 0,rf 157,vi 65,vi 0,rf 164,vi 73,vi 0,rf 171,vi 78,vi 0,rf 176,vi 85,vi 0,rf 183,vi 97,vi 0,rf 190,vi 110,vi 0,rf 197,vi 117,vi 0,rf 202,vi 133,vi 0,rf 209,vi 140,vi 0,rf 216,vi 148,vi 0,rf 237,vi 160,vi 0,rf 244,vi 186,vi 0,rf 291,vi 198,vi 0,rf 298,vi 202,vi 0,rf 305]},
 cO "code" #[vs "<module>" 182,vs "<module>" 183,vs "/claim/cut.py" 184,vi 1,vi 0,vi 0,vi 0,vi 0,rf 11,Value.bool false,vi 181,rf 12,Value.none,Value.none,Value.none,Value.none,vi 185,vi 1,vs "/claim/cut.py" 186],
 fO #[some (rf 13),some (rf 3),some (rf 3),none,some (vs "__main__" 164),none,some (rf 0)],
 tO "tuple" #[Value.type "ValueError"],
 cO "builtin_function_or_method" #[Value.builtin "type.__prepare__",Value.type "type"],
 {cls:=Value.type "dict",data:=Data.dict #[dE P "__module__" 196 (vs "shortring.errors" 187),dE P "__qualname__" 198 (vs "WebError" 197),dE P "__firstlineno__" 200 (Value.int 2 199),dE P "__static_attributes__" 201 (rf 22)] 4},
 tO "tuple" #[],
 {cls:=Value.none,data:=Data.fields #[]},
 cO "code" #[vs "WebError" 191,vs "WebError" 192,vs "/claim/cut.py" 193,vi 2,vi 0,vi 0,vi 0,vi 0,rf 18,Value.bool false,vi 181,rf 19,Value.none,Value.none,Value.none,Value.none,vi 194,vi 2,vs "/claim/cut.py" 195],
 fO #[some (rf 20),some (rf 3),some (rf 17),none,some (vs "shortring.errors" 187),none,some (rf 0)],
 tO "tuple" #[],
 {cls:=Value.type "dict",data:=Data.dict #[dE P "__module__" 196 (vs "shortring.errors" 187),dE P "__firstlineno__" 200 (Value.int 2 199),dE P "__static_attributes__" 201 (rf 22),dE P "__weakref__" 203 (rf 25),dE P "__doc__" 204 (Value.none)] 3},
 {cls:=Value.type "type",data:=Data.cls {name:=Str.ofString "WebError",bases:=[Value.type "ValueError"],mro:=[rf 24,Value.type "ValueError",Value.type "Exception",Value.type "BaseException",Value.type "object"],ns:=23,qualname:=Str.ofString "WebError",subclasses:=[rf 37,rf 49,rf 61,rf 73,rf 85]},slots:= #[some (rf 15),none,some (vs "WebError" 189),some (vs "WebError" 197),some (Value.builtin "ValueError.__new__"),some (Value.bool true)]},
 cO "getset_descriptor" #[vs "__weakref__" 202,rf 24,Value.builtin "ExceptionGroup.__weakref__",Value.none],
 cO "super" #[rf 24,rf 24,rf 24],
 cO "builtin_function_or_method" #[Value.builtin "object.__init_subclass__",rf 24],
 tO "tuple" #[rf 24],
 cO "builtin_function_or_method" #[Value.builtin "type.__prepare__",Value.type "type"],
 {cls:=Value.type "dict",data:=Data.dict #[dE P "__module__" 214 (vs "shortring.errors" 187),dE P "__qualname__" 216 (vs "BadWeb" 215),dE P "__firstlineno__" 218 (Value.int 4 217),dE P "__static_attributes__" 219 (rf 35)] 4},
 tO "tuple" #[],
 {cls:=Value.none,data:=Data.fields #[]},
 cO "code" #[vs "BadWeb" 209,vs "BadWeb" 210,vs "/claim/cut.py" 211,vi 4,vi 0,vi 0,vi 0,vi 0,rf 31,Value.bool false,vi 181,rf 32,Value.none,Value.none,Value.none,Value.none,vi 212,vi 4,vs "/claim/cut.py" 213],
 fO #[some (rf 33),some (rf 3),some (rf 30),none,some (vs "shortring.errors" 187),none,some (rf 0)],
 tO "tuple" #[],
 {cls:=Value.type "dict",data:=Data.dict #[dE P "__module__" 214 (vs "shortring.errors" 187),dE P "__firstlineno__" 218 (Value.int 4 217),dE P "__static_attributes__" 219 (rf 35),dE P "__doc__" 220 (Value.none)] 2},
 {cls:=Value.type "type",data:=Data.cls {name:=Str.ofString "BadWeb",bases:=[rf 24],mro:=[rf 37,rf 24,Value.type "ValueError",Value.type "Exception",Value.type "BaseException",Value.type "object"],ns:=36,qualname:=Str.ofString "BadWeb"},slots:= #[some (rf 28),none,some (vs "BadWeb" 207),some (vs "BadWeb" 215),some (Value.builtin "ValueError.__new__"),some (Value.bool true)]},
 cO "super" #[rf 37,rf 37,rf 37],
 cO "builtin_function_or_method" #[Value.builtin "object.__init_subclass__",rf 37],
 tO "tuple" #[rf 24],
 cO "builtin_function_or_method" #[Value.builtin "type.__prepare__",Value.type "type"],
 {cls:=Value.type "dict",data:=Data.dict #[dE P "__module__" 230 (vs "shortring.errors" 187),dE P "__qualname__" 232 (vs "NoPoint" 231),dE P "__firstlineno__" 234 (Value.int 6 233),dE P "__static_attributes__" 235 (rf 47)] 4},
 tO "tuple" #[],
 {cls:=Value.none,data:=Data.fields #[]},
 cO "code" #[vs "NoPoint" 225,vs "NoPoint" 226,vs "/claim/cut.py" 227,vi 6,vi 0,vi 0,vi 0,vi 0,rf 43,Value.bool false,vi 181,rf 44,Value.none,Value.none,Value.none,Value.none,vi 228,vi 6,vs "/claim/cut.py" 229],
 fO #[some (rf 45),some (rf 3),some (rf 42),none,some (vs "shortring.errors" 187),none,some (rf 0)],
 tO "tuple" #[],
 {cls:=Value.type "dict",data:=Data.dict #[dE P "__module__" 230 (vs "shortring.errors" 187),dE P "__firstlineno__" 234 (Value.int 6 233),dE P "__static_attributes__" 235 (rf 47),dE P "__doc__" 236 (Value.none)] 2},
 {cls:=Value.type "type",data:=Data.cls {name:=Str.ofString "NoPoint",bases:=[rf 24],mro:=[rf 49,rf 24,Value.type "ValueError",Value.type "Exception",Value.type "BaseException",Value.type "object"],ns:=48,qualname:=Str.ofString "NoPoint"},slots:= #[some (rf 40),none,some (vs "NoPoint" 223),some (vs "NoPoint" 231),some (Value.builtin "ValueError.__new__"),some (Value.bool true)]},
 cO "super" #[rf 49,rf 49,rf 49],
 cO "builtin_function_or_method" #[Value.builtin "object.__init_subclass__",rf 49],
 tO "tuple" #[rf 24],
 cO "builtin_function_or_method" #[Value.builtin "type.__prepare__",Value.type "type"],
 {cls:=Value.type "dict",data:=Data.dict #[dE P "__module__" 246 (vs "shortring.errors" 187),dE P "__qualname__" 248 (vs "BadText" 247),dE P "__firstlineno__" 250 (Value.int 8 249),dE P "__static_attributes__" 251 (rf 59)] 4},
 tO "tuple" #[],
 {cls:=Value.none,data:=Data.fields #[]},
 cO "code" #[vs "BadText" 241,vs "BadText" 242,vs "/claim/cut.py" 243,vi 8,vi 0,vi 0,vi 0,vi 0,rf 55,Value.bool false,vi 181,rf 56,Value.none,Value.none,Value.none,Value.none,vi 244,vi 8,vs "/claim/cut.py" 245],
 fO #[some (rf 57),some (rf 3),some (rf 54),none,some (vs "shortring.errors" 187),none,some (rf 0)],
 tO "tuple" #[],
 {cls:=Value.type "dict",data:=Data.dict #[dE P "__module__" 246 (vs "shortring.errors" 187),dE P "__firstlineno__" 250 (Value.int 8 249),dE P "__static_attributes__" 251 (rf 59),dE P "__doc__" 252 (Value.none)] 2},
 {cls:=Value.type "type",data:=Data.cls {name:=Str.ofString "BadText",bases:=[rf 24],mro:=[rf 61,rf 24,Value.type "ValueError",Value.type "Exception",Value.type "BaseException",Value.type "object"],ns:=60,qualname:=Str.ofString "BadText"},slots:= #[some (rf 52),none,some (vs "BadText" 239),some (vs "BadText" 247),some (Value.builtin "ValueError.__new__"),some (Value.bool true)]},
 cO "super" #[rf 61,rf 61,rf 61],
 cO "builtin_function_or_method" #[Value.builtin "object.__init_subclass__",rf 61],
 tO "tuple" #[rf 24],
 cO "builtin_function_or_method" #[Value.builtin "type.__prepare__",Value.type "type"],
 {cls:=Value.type "dict",data:=Data.dict #[dE P "__module__" 262 (vs "shortring.errors" 187),dE P "__qualname__" 264 (vs "BadOrder" 263),dE P "__firstlineno__" 266 (Value.int 10 265),dE P "__static_attributes__" 267 (rf 71)] 4},
 tO "tuple" #[],
 {cls:=Value.none,data:=Data.fields #[]},
 cO "code" #[vs "BadOrder" 257,vs "BadOrder" 258,vs "/claim/cut.py" 259,vi 10,vi 0,vi 0,vi 0,vi 0,rf 67,Value.bool false,vi 181,rf 68,Value.none,Value.none,Value.none,Value.none,vi 260,vi 10,vs "/claim/cut.py" 261],
 fO #[some (rf 69),some (rf 3),some (rf 66),none,some (vs "shortring.errors" 187),none,some (rf 0)],
 tO "tuple" #[],
 {cls:=Value.type "dict",data:=Data.dict #[dE P "__module__" 262 (vs "shortring.errors" 187),dE P "__firstlineno__" 266 (Value.int 10 265),dE P "__static_attributes__" 267 (rf 71),dE P "__doc__" 268 (Value.none)] 2},
 {cls:=Value.type "type",data:=Data.cls {name:=Str.ofString "BadOrder",bases:=[rf 24],mro:=[rf 73,rf 24,Value.type "ValueError",Value.type "Exception",Value.type "BaseException",Value.type "object"],ns:=72,qualname:=Str.ofString "BadOrder"},slots:= #[some (rf 64),none,some (vs "BadOrder" 255),some (vs "BadOrder" 263),some (Value.builtin "ValueError.__new__"),some (Value.bool true)]},
 cO "super" #[rf 73,rf 73,rf 73],
 cO "builtin_function_or_method" #[Value.builtin "object.__init_subclass__",rf 73],
 tO "tuple" #[rf 24],
 cO "builtin_function_or_method" #[Value.builtin "type.__prepare__",Value.type "type"],
 {cls:=Value.type "dict",data:=Data.dict #[dE P "__module__" 278 (vs "shortring.errors" 187),dE P "__qualname__" 280 (vs "HasGap" 279),dE P "__firstlineno__" 282 (Value.int 12 281),dE P "__static_attributes__" 283 (rf 83)] 4},
 tO "tuple" #[],
 {cls:=Value.none,data:=Data.fields #[]},
 cO "code" #[vs "HasGap" 273,vs "HasGap" 274,vs "/claim/cut.py" 275,vi 12,vi 0,vi 0,vi 0,vi 0,rf 79,Value.bool false,vi 181,rf 80,Value.none,Value.none,Value.none,Value.none,vi 276,vi 12,vs "/claim/cut.py" 277],
 fO #[some (rf 81),some (rf 3),some (rf 78),none,some (vs "shortring.errors" 187),none,some (rf 0)],
 tO "tuple" #[],
 {cls:=Value.type "dict",data:=Data.dict #[dE P "__module__" 278 (vs "shortring.errors" 187),dE P "__firstlineno__" 282 (Value.int 12 281),dE P "__static_attributes__" 283 (rf 83),dE P "__doc__" 284 (Value.none)] 2},
 {cls:=Value.type "type",data:=Data.cls {name:=Str.ofString "HasGap",bases:=[rf 24],mro:=[rf 85,rf 24,Value.type "ValueError",Value.type "Exception",Value.type "BaseException",Value.type "object"],ns:=84,qualname:=Str.ofString "HasGap"},slots:= #[some (rf 76),none,some (vs "HasGap" 271),some (vs "HasGap" 279),some (Value.builtin "ValueError.__new__"),some (Value.bool true)]},
 cO "super" #[rf 85,rf 85,rf 85],
 cO "builtin_function_or_method" #[Value.builtin "object.__init_subclass__",rf 85],
 tO "tuple" #[],
 {cls:=Value.none,data:=Data.fields #[]},
 tO "tuple" #[vs "web" 292,vs "order" 293],
 tO "tuple" #[],
 Es (Aj 8) (Str.ofString "is_order"),
 cO "code" #[vs "is_order" 289,vs "is_order" 290,vs "/claim/cut.py" 291,vi 15,vi 2,vi 0,vi 0,vi 3,rf 88,Value.bool true,vi 181,rf 89,Value.none,rf 90,rf 91,rf 92,vi 294,vi 15,vs "/claim/cut.py" 295],
 Bk (Aj 8) (Str.ofString "is_order") (vs "shortring.orders" 287) 93,
 tO "tuple" #[],
 {cls:=Value.none,data:=Data.fields #[]},
 tO "tuple" #[vs "web" 300,vs "order" 301],
 tO "tuple" #[],
 Es (Aj 9) (Str.ofString "need_order"),
 cO "code" #[vs "need_order" 297,vs "need_order" 298,vs "/claim/cut.py" 299,vi 17,vi 2,vi 0,vi 0,vi 3,rf 95,Value.bool true,vi 181,rf 96,Value.none,rf 97,rf 98,rf 99,vi 302,vi 17,vs "/claim/cut.py" 303],
 Bk (Aj 9) (Str.ofString "need_order") (vs "shortring.orders" 287) 100,
 tO "tuple" #[],
 {cls:=Value.none,data:=Data.fields #[]},
 Es (Aj 10) (Str.ofString "those_behind"),
 cO "code" #[vs "those_behind" 305,vs "those_behind" 306,vs "/claim/cut.py" 307,vi 20,vi 3,vi 0,vi 0,vi 3,rf 102,Value.bool true,vi 181,rf 103,Value.none,Value.none,Value.none,rf 104,vi 308,vi 20,vs "/claim/cut.py" 309],
 Bk (Aj 10) (Str.ofString "those_behind") (vs "shortring.orders" 287) 105,
 tO "tuple" #[],
 {cls:=Value.none,data:=Data.fields #[]},
 tO "tuple" #[vs "web" 314,vs "order" 315,vs "point" 316],
 tO "tuple" #[],
 Es (Aj 11) (Str.ofString "behind"),
 cO "code" #[vs "behind" 311,vs "behind" 312,vs "/claim/cut.py" 313,vi 23,vi 3,vi 0,vi 0,vi 3,rf 107,Value.bool true,vi 181,rf 108,Value.none,rf 109,rf 110,rf 111,vi 317,vi 23,vs "/claim/cut.py" 318],
 Bk (Aj 11) (Str.ofString "behind") (vs "shortring.orders" 287) 112,
 tO "tuple" #[],
 {cls:=Value.none,data:=Data.fields #[]},
 tO "tuple" #[vs "web" 323,vs "row" 324,vs "k" 325,vs "one" 326,vs "other" 327],
 tO "tuple" #[],
 Es (Aj 12) (Str.ofString "first_untied"),
 cO "code" #[vs "first_untied" 320,vs "first_untied" 321,vs "/claim/cut.py" 322,vi 27,vi 2,vi 0,vi 0,vi 3,rf 114,Value.bool true,vi 181,rf 115,Value.none,rf 116,rf 117,rf 118,vi 328,vi 27,vs "/claim/cut.py" 329],
 Bk (Aj 12) (Str.ofString "first_untied") (vs "shortring.orders" 287) 119,
 tO "tuple" #[],
 {cls:=Value.none,data:=Data.fields #[]},
 tO "tuple" #[vs "web" 334,vs "order" 335,vs "point" 336,vs "pair" 337],
 tO "tuple" #[],
 Es (Aj 13) (Str.ofString "gap"),
 cO "code" #[vs "gap" 331,vs "gap" 332,vs "/claim/cut.py" 333,vi 33,vi 2,vi 0,vi 0,vi 3,rf 121,Value.bool true,vi 181,rf 122,Value.none,rf 123,rf 124,rf 125,vi 338,vi 33,vs "/claim/cut.py" 339],
 Bk (Aj 13) (Str.ofString "gap") (vs "shortring.orders" 287) 126,
 tO "tuple" #[],
 {cls:=Value.none,data:=Data.fields #[]},
 Es (Aj 14) (Str.ofString "least_to_go"),
 cO "code" #[vs "least_to_go" 341,vs "least_to_go" 342,vs "/claim/cut.py" 343,vi 40,vi 2,vi 0,vi 0,vi 3,rf 128,Value.bool true,vi 181,rf 129,Value.none,Value.none,Value.none,rf 130,vi 344,vi 40,vs "/claim/cut.py" 345],
 Bk (Aj 14) (Str.ofString "least_to_go") (vs "shortring.orders" 287) 131,
 tO "tuple" #[],
 {cls:=Value.none,data:=Data.fields #[]},
 tO "tuple" #[vs "web" 350,vs "there" 351,vs "gone" 352,vs "point" 353],
 tO "tuple" #[],
 Es (Aj 15) (Str.ofString "taken"),
 cO "code" #[vs "taken" 347,vs "taken" 348,vs "/claim/cut.py" 349,vi 45,vi 1,vi 0,vi 0,vi 3,rf 133,Value.bool true,vi 181,rf 134,Value.none,rf 135,rf 136,rf 137,vi 354,vi 45,vs "/claim/cut.py" 355],
 Bk (Aj 15) (Str.ofString "taken") (vs "shortring.orders" 287) 138,
 tO "tuple" #[],
 {cls:=Value.none,data:=Data.fields #[]},
 tO "tuple" #[vs "web" 362,vs "order" 363],
 tO "tuple" #[],
 Es (Aj 17) (Str.ofString "need_whole"),
 cO "code" #[vs "need_whole" 359,vs "need_whole" 360,vs "/claim/cut.py" 361,vi 55,vi 2,vi 0,vi 0,vi 3,rf 140,Value.bool true,vi 181,rf 141,Value.none,rf 142,rf 143,rf 144,vi 364,vi 55,vs "/claim/cut.py" 365],
 Bk (Aj 17) (Str.ofString "need_whole") (vs "shortring.crowds" 357) 145,
 tO "tuple" #[],
 {cls:=Value.none,data:=Data.fields #[]},
 tO "tuple" #[vs "web" 370,vs "order" 371,vs "point" 372],
 tO "tuple" #[],
 Es (Aj 18) (Str.ofString "crowd_at"),
 cO "code" #[vs "crowd_at" 367,vs "crowd_at" 368,vs "/claim/cut.py" 369,vi 58,vi 3,vi 0,vi 0,vi 3,rf 147,Value.bool true,vi 181,rf 148,Value.none,rf 149,rf 150,rf 151,vi 373,vi 58,vs "/claim/cut.py" 374],
 Bk (Aj 18) (Str.ofString "crowd_at") (vs "shortring.crowds" 357) 152,
 tO "tuple" #[],
 {cls:=Value.none,data:=Data.fields #[]},
 Es (Aj 19) (Str.ofString "is_full"),
 cO "code" #[vs "is_full" 376,vs "is_full" 377,vs "/claim/cut.py" 378,vi 60,vi 2,vi 0,vi 0,vi 3,rf 154,Value.bool true,vi 181,rf 155,Value.none,Value.none,Value.none,rf 156,vi 379,vi 60,vs "/claim/cut.py" 380],
 Bk (Aj 19) (Str.ofString "is_full") (vs "shortring.crowds" 357) 157,
 tO "tuple" #[],
 {cls:=Value.none,data:=Data.fields #[]},
 tO "tuple" #[vs "web" 385,vs "order" 386,vs "found" 387,vs "point" 388,vs "crowd" 389],
 tO "tuple" #[],
 Es (Aj 20) (Str.ofString "full_crowds"),
 cO "code" #[vs "full_crowds" 382,vs "full_crowds" 383,vs "/claim/cut.py" 384,vi 65,vi 2,vi 0,vi 0,vi 3,rf 159,Value.bool true,vi 181,rf 160,Value.none,rf 161,rf 162,rf 163,vi 390,vi 65,vs "/claim/cut.py" 391],
 Bk (Aj 20) (Str.ofString "full_crowds") (vs "shortring.crowds" 357) 164,
 tO "tuple" #[],
 {cls:=Value.none,data:=Data.fields #[]},
 tO "tuple" #[vs "used" 396,vs "colour" 397],
 tO "tuple" #[],
 Es (Aj 21) (Str.ofString "least_free"),
 cO "code" #[vs "least_free" 393,vs "least_free" 394,vs "/claim/cut.py" 395,vi 73,vi 1,vi 0,vi 0,vi 3,rf 166,Value.bool true,vi 181,rf 167,Value.none,rf 168,rf 169,rf 170,vi 398,vi 73,vs "/claim/cut.py" 399],
 Bk (Aj 21) (Str.ofString "least_free") (vs "shortring.crowds" 357) 171,
 tO "tuple" #[],
 {cls:=Value.none,data:=Data.fields #[]},
 Es (Aj 22) (Str.ofString "coloured"),
 cO "code" #[vs "coloured" 401,vs "coloured" 402,vs "/claim/cut.py" 403,vi 78,vi 2,vi 0,vi 0,vi 3,rf 173,Value.bool true,vi 181,rf 174,Value.none,Value.none,Value.none,rf 175,vi 404,vi 78,vs "/claim/cut.py" 405],
 Bk (Aj 22) (Str.ofString "coloured") (vs "shortring.crowds" 357) 176,
 tO "tuple" #[],
 {cls:=Value.none,data:=Data.fields #[]},
 tO "tuple" #[vs "web" 412,vs "start" 413,vs "shut" 414,vs "came" 415,vs "waiting" 416,vs "k" 417,vs "point" 418,vs "other" 419],
 tO "tuple" #[],
 Es (Aj 24) (Str.ofString "steps_from"),
 cO "code" #[vs "steps_from" 409,vs "steps_from" 410,vs "/claim/cut.py" 411,vi 85,vi 3,vi 0,vi 0,vi 3,rf 178,Value.bool true,vi 181,rf 179,Value.none,rf 180,rf 181,rf 182,vi 420,vi 85,vs "/claim/cut.py" 421],
 Bk (Aj 24) (Str.ofString "steps_from") (vs "shortring.rings" 407) 183,
 tO "tuple" #[],
 {cls:=Value.none,data:=Data.fields #[]},
 tO "tuple" #[vs "web" 426,vs "start" 427,vs "goal" 428,vs "shut" 429,vs "came" 430,vs "found" 431],
 tO "tuple" #[],
 Es (Aj 25) (Str.ofString "way"),
 cO "code" #[vs "way" 423,vs "way" 424,vs "/claim/cut.py" 425,vi 97,vi 4,vi 0,vi 0,vi 3,rf 185,Value.bool true,vi 181,rf 186,Value.none,rf 187,rf 188,rf 189,vi 432,vi 97,vs "/claim/cut.py" 433],
 Bk (Aj 25) (Str.ofString "way") (vs "shortring.rings" 407) 190,
 tO "tuple" #[],
 {cls:=Value.none,data:=Data.fields #[]},
 tO "tuple" #[vs "web" 438,vs "shut" 439,vs "piece" 440,vs "start" 441,vs "point" 442],
 tO "tuple" #[],
 Es (Aj 26) (Str.ofString "pieces"),
 cO "code" #[vs "pieces" 435,vs "pieces" 436,vs "/claim/cut.py" 437,vi 110,vi 2,vi 0,vi 0,vi 3,rf 192,Value.bool true,vi 181,rf 193,Value.none,rf 194,rf 195,rf 196,vi 443,vi 110,vs "/claim/cut.py" 444],
 Bk (Aj 26) (Str.ofString "pieces") (vs "shortring.rings" 407) 197,
 tO "tuple" #[],
 {cls:=Value.none,data:=Data.fields #[]},
 Es (Aj 27) (Str.ofString "ring_at"),
 cO "code" #[vs "ring_at" 446,vs "ring_at" 447,vs "/claim/cut.py" 448,vi 117,vi 2,vi 0,vi 0,vi 3,rf 199,Value.bool true,vi 181,rf 200,Value.none,Value.none,Value.none,rf 201,vi 449,vi 117,vs "/claim/cut.py" 450],
 Bk (Aj 27) (Str.ofString "ring_at") (vs "shortring.rings" 407) 202,
 tO "tuple" #[],
 {cls:=Value.none,data:=Data.fields #[]},
 tO "tuple" #[vs "web" 455,vs "point" 456,vs "found" 457],
 tO "tuple" #[],
 Es (Aj 28) (Str.ofString "long_ring"),
 cO "code" #[vs "long_ring" 452,vs "long_ring" 453,vs "/claim/cut.py" 454,vi 133,vi 1,vi 0,vi 0,vi 3,rf 204,Value.bool true,vi 181,rf 205,Value.none,rf 206,rf 207,rf 208,vi 458,vi 133,vs "/claim/cut.py" 459],
 Bk (Aj 28) (Str.ofString "long_ring") (vs "shortring.rings" 407) 209,
 tO "tuple" #[],
 cO "builtin_function_or_method" #[Value.builtin "type.__prepare__",Value.type "type"],
 {cls:=Value.type "dict",data:=Data.dict #[dE P "__module__" 470 (vs "shortring.verdicts" 461),dE P "__qualname__" 472 (vs "Verdict" 471),dE P "__firstlineno__" 474 (Value.int 140 473),dE P "__init__" 486 (rf 224),dE P "__static_attributes__" 492 (rf 225)] 5},
 tO "tuple" #[],
 {cls:=Value.none,data:=Data.fields #[vi 142,vi 4,rf 223]},
 cO "code" #[vs "Verdict" 465,vs "Verdict" 466,vs "/claim/cut.py" 467,vi 140,vi 0,vi 0,vi 0,vi 0,rf 214,Value.bool false,vi 181,rf 215,Value.none,Value.none,Value.none,Value.none,vi 468,vi 140,vs "/claim/cut.py" 469],
 fO #[some (rf 216),some (rf 3),some (rf 213),none,some (vs "shortring.verdicts" 461),none,some (rf 0)],
 tO "tuple" #[],
 {cls:=Value.none,data:=Data.fields #[]},
 tO "tuple" #[vs "self" 478,vs "order" 479,vs "ring" 480,vs "crowd" 481,vs "colours" 482,vs "many" 483],
 tO "tuple" #[],
 Es (Ht 30 0) (Str.ofString "Verdict.__init__"),
 cO "code" #[vs "__init__" 475,vs "Verdict.__init__" 476,vs "/claim/cut.py" 477,vi 142,vi 6,vi 0,vi 0,vi 3,rf 218,Value.bool true,vi 181,rf 219,Value.none,rf 220,rf 221,rf 222,vi 484,vi 142,vs "/claim/cut.py" 485],
 Bk (Ht 30 0) (Str.ofString "Verdict.__init__") (vs "shortring.verdicts" 461) 223,
 tO "tuple" #[vs "colours" 487,vs "crowd" 488,vs "many" 489,vs "order" 490,vs "ring" 491],
 {cls:=Value.type "dict",data:=Data.dict #[dE P "__module__" 470 (vs "shortring.verdicts" 461),dE P "__firstlineno__" 474 (Value.int 140 473),dE P "__init__" 486 (rf 224),dE P "__static_attributes__" 492 (rf 225),dE P "__dict__" 494 (rf 228),dE P "__weakref__" 496 (rf 229),dE P "__doc__" 497 (Value.none)] 4},
 {cls:=Value.type "type",data:=Data.cls {name:=Str.ofString "Verdict",bases:=[Value.type "object"],mro:=[rf 227,Value.type "object"],ns:=226,qualname:=Str.ofString "Verdict"},slots:= #[none,none,some (vs "Verdict" 463),some (vs "Verdict" 471),some (Value.builtin "object.__new__"),some (Value.bool true)]},
 cO "getset_descriptor" #[vs "__dict__" 493,rf 227,Value.builtin "function.__dict__",Value.builtin "function.__dict__#set"],
 cO "getset_descriptor" #[vs "__weakref__" 495,rf 227,Value.builtin "ExceptionGroup.__weakref__",Value.none],
 cO "super" #[rf 227,rf 227,rf 227],
 cO "builtin_function_or_method" #[Value.builtin "object.__init_subclass__",rf 227],
 tO "tuple" #[],
 {cls:=Value.none,data:=Data.fields #[]},
 tO "tuple" #[vs "web" 503,vs "ring" 504,vs "order" 505,vs "greatest" 506,vs "crowd" 507],
 tO "tuple" #[],
 Es (Aj 31) (Str.ofString "judged"),
 cO "code" #[vs "judged" 500,vs "judged" 501,vs "/claim/cut.py" 502,vi 148,vi 1,vi 0,vi 0,vi 3,rf 232,Value.bool true,vi 181,rf 233,Value.none,rf 234,rf 235,rf 236,vi 508,vi 148,vs "/claim/cut.py" 509],
 Bk (Aj 31) (Str.ofString "judged") (vs "shortring.verdicts" 461) 237,
 tO "tuple" #[],
 cO "builtin_function_or_method" #[Value.builtin "type.__prepare__",Value.type "type"],
 {cls:=Value.type "dict",data:=Data.dict #[dE P "__module__" 522 (vs "shortring.webs" 511),dE P "__qualname__" 524 (vs "Web" 523),dE P "__firstlineno__" 526 (Value.int 160 525),dE P "__init__" 535 (rf 252),dE P "need" 543 (rf 259),dE P "beside" 551 (rf 266),dE P "tied" 560 (rf 273),dE P "ties" 570 (rf 280),dE P "__static_attributes__" 573 (rf 281)] 9},
 tO "tuple" #[],
 {cls:=Value.none,data:=Data.fields #[vi 162,vi 4,rf 251,vi 166,vi 4,rf 258,vi 170,vi 4,rf 265,vi 174,vi 4,rf 272,vi 179,vi 4,rf 279]},
 cO "code" #[vs "Web" 517,vs "Web" 518,vs "/claim/cut.py" 519,vi 160,vi 0,vi 0,vi 0,vi 0,rf 242,Value.bool false,vi 181,rf 243,Value.none,Value.none,Value.none,Value.none,vi 520,vi 160,vs "/claim/cut.py" 521],
 fO #[some (rf 244),some (rf 3),some (rf 241),none,some (vs "shortring.webs" 511),none,some (rf 0)],
 tO "tuple" #[],
 {cls:=Value.none,data:=Data.fields #[]},
 tO "tuple" #[vs "self" 530,vs "many" 531,vs "rows" 532],
 tO "tuple" #[],
 Es (Ht 34 0) (Str.ofString "Web.__init__"),
 cO "code" #[vs "__init__" 527,vs "Web.__init__" 528,vs "/claim/cut.py" 529,vi 162,vi 3,vi 0,vi 0,vi 3,rf 246,Value.bool true,vi 181,rf 247,Value.none,rf 248,rf 249,rf 250,vi 533,vi 162,vs "/claim/cut.py" 534],
 Bk (Ht 34 0) (Str.ofString "Web.__init__") (vs "shortring.webs" 511) 251,
 tO "tuple" #[],
 {cls:=Value.none,data:=Data.fields #[]},
 tO "tuple" #[vs "self" 539,vs "point" 540],
 tO "tuple" #[],
 Es (Ht 34 1) (Str.ofString "Web.need"),
 cO "code" #[vs "need" 536,vs "Web.need" 537,vs "/claim/cut.py" 538,vi 166,vi 2,vi 0,vi 0,vi 3,rf 253,Value.bool true,vi 181,rf 254,Value.none,rf 255,rf 256,rf 257,vi 541,vi 166,vs "/claim/cut.py" 542],
 Bk (Ht 34 1) (Str.ofString "Web.need") (vs "shortring.webs" 511) 258,
 tO "tuple" #[],
 {cls:=Value.none,data:=Data.fields #[]},
 tO "tuple" #[vs "self" 547,vs "point" 548],
 tO "tuple" #[],
 Es (Ht 34 2) (Str.ofString "Web.beside"),
 cO "code" #[vs "beside" 544,vs "Web.beside" 545,vs "/claim/cut.py" 546,vi 170,vi 2,vi 0,vi 0,vi 3,rf 260,Value.bool true,vi 181,rf 261,Value.none,rf 262,rf 263,rf 264,vi 549,vi 170,vs "/claim/cut.py" 550],
 Bk (Ht 34 2) (Str.ofString "Web.beside") (vs "shortring.webs" 511) 265,
 tO "tuple" #[],
 {cls:=Value.none,data:=Data.fields #[]},
 tO "tuple" #[vs "self" 555,vs "one" 556,vs "other" 557],
 tO "tuple" #[],
 Es (Ht 34 3) (Str.ofString "Web.tied"),
 cO "code" #[vs "tied" 552,vs "Web.tied" 553,vs "/claim/cut.py" 554,vi 174,vi 3,vi 0,vi 0,vi 3,rf 267,Value.bool true,vi 181,rf 268,Value.none,rf 269,rf 270,rf 271,vi 558,vi 174,vs "/claim/cut.py" 559],
 Bk (Ht 34 3) (Str.ofString "Web.tied") (vs "shortring.webs" 511) 272,
 tO "tuple" #[],
 {cls:=Value.none,data:=Data.fields #[]},
 tO "tuple" #[vs "self" 564,vs "found" 565,vs "one" 566,vs "other" 567],
 tO "tuple" #[],
 Es (Ht 34 4) (Str.ofString "Web.ties"),
 cO "code" #[vs "ties" 561,vs "Web.ties" 562,vs "/claim/cut.py" 563,vi 179,vi 1,vi 0,vi 0,vi 3,rf 274,Value.bool true,vi 181,rf 275,Value.none,rf 276,rf 277,rf 278,vi 568,vi 179,vs "/claim/cut.py" 569],
 Bk (Ht 34 4) (Str.ofString "Web.ties") (vs "shortring.webs" 511) 279,
 tO "tuple" #[vs "many" 571,vs "rows" 572],
 {cls:=Value.type "dict",data:=Data.dict #[dE P "__module__" 522 (vs "shortring.webs" 511),dE P "__firstlineno__" 526 (Value.int 160 525),dE P "__init__" 535 (rf 252),dE P "need" 543 (rf 259),dE P "beside" 551 (rf 266),dE P "tied" 560 (rf 273),dE P "ties" 570 (rf 280),dE P "__static_attributes__" 573 (rf 281),dE P "__dict__" 575 (rf 284),dE P "__weakref__" 577 (rf 285),dE P "__doc__" 578 (Value.none)] 4},
 {cls:=Value.type "type",data:=Data.cls {name:=Str.ofString "Web",bases:=[Value.type "object"],mro:=[rf 283,Value.type "object"],ns:=282,qualname:=Str.ofString "Web"},slots:= #[none,none,some (vs "Web" 515),some (vs "Web" 523),some (Value.builtin "object.__new__"),some (Value.bool true)]},
 cO "getset_descriptor" #[vs "__dict__" 574,rf 283,Value.builtin "function.__dict__",Value.builtin "function.__dict__#set"],
 cO "getset_descriptor" #[vs "__weakref__" 576,rf 283,Value.builtin "ExceptionGroup.__weakref__",Value.none],
 cO "super" #[rf 283,rf 283,rf 283],
 cO "builtin_function_or_method" #[Value.builtin "object.__init_subclass__",rf 283],
 tO "tuple" #[],
 {cls:=Value.none,data:=Data.fields #[]},
 Es (Aj 35) (Str.ofString "web_of"),
 cO "code" #[vs "web_of" 581,vs "web_of" 582,vs "/claim/cut.py" 583,vi 186,vi 2,vi 0,vi 0,vi 3,rf 288,Value.bool true,vi 181,rf 289,Value.none,Value.none,Value.none,rf 290,vi 584,vi 186,vs "/claim/cut.py" 585],
 Bk (Aj 35) (Str.ofString "web_of") (vs "shortring.webs" 511) 291,
 tO "tuple" #[],
 {cls:=Value.none,data:=Data.fields #[]},
 tO "tuple" #[vs "_law_script" 592,vs "_law_k" 593],
 tO "tuple" #[],
 Es (Aj 37) (Str.ofString "_law_cell_at"),
 cO "code" #[vs "_law_cell_at" 589,vs "_law_cell_at" 590,vs "/claim/cut.py" 591,vi 198,vi 2,vi 0,vi 0,vi 3,rf 293,Value.bool true,vi 181,rf 294,Value.none,rf 295,rf 296,rf 297,vi 594,vi 198,vs "/claim/cut.py" 595],
 Bk (Aj 37) (Str.ofString "_law_cell_at") (vs "law_uf020033_03" 587) 298,
 tO "tuple" #[],
 {cls:=Value.none,data:=Data.fields #[]},
 tO "tuple" #[vs "_law_found" 600],
 tO "tuple" #[],
 Es (Aj 38) (Str.ofString "_law_whole"),
 cO "code" #[vs "_law_whole" 597,vs "_law_whole" 598,vs "/claim/cut.py" 599,vi 202,vi 1,vi 0,vi 0,vi 3,rf 300,Value.bool true,vi 181,rf 301,Value.none,rf 302,rf 303,rf 304,vi 601,vi 202,vs "/claim/cut.py" 602],
 Bk (Aj 38) (Str.ofString "_law_whole") (vs "law_uf020033_03" 587) 305],{}⟩,Array.mk [],{},604,os⟩
theorem Ahx:∀w:World,(fun os=>topGo treeTable PySem.Challenge.pw_uf020033_03 w 11 (some (Value.ref 6)) 12 ⟨boot_heap w.params,Array.mk [],boot_drawn,boot_toks,os⟩ (topStub PySem.Challenge.pw_uf020033_03))=fun os=>some (s_a w.params os,⟨denote treeTable hC,hC,{line:=0,col:=0,endLine:=0,endCol:=0},hF⟩):=by
 intro w
 kernel_rfl
theorem Ahy:∀w:World,(fun os=>segRun treeTable PySem.Challenge.pw_uf020033_03 w 11 (some (Value.ref 6)) 1 1 (s_a w.params os) (blockOf hB Zr hC {line:=0,col:=0,endLine:=0,endCol:=0} hF))=fun os=>some (Flow.next,s_b w.params os,hC,{line:=0,col:=0,endLine:=0,endCol:=0}):=by
 intro w
 kernel_rfl
theorem Qx{p:Program}{w:World}{n₀:Nat}{ann:Option Value}{env:Env}{q:Pos}(k:Nat){n N:Nat}{s s' r:Shared}{b:List Stmt}{c:Code}{pos p':Pos}(h:segRun treeTable p w n₀ ann 1 n s (piecesOf (b.take k) env c pos [topFrame q])=some (.next,s',c,p'))
 (t:topRun treeTable p w n₀ ann N s' (restOf (b.drop k) env c p' [topFrame q])=some r):topRun treeTable p w n₀ ann (n+N) s (restOf b env c pos [topFrame q])=some r:=by
 have:=piece_app h t
 rwa[List.take_append_drop]at this
theorem Ahz:∀w:World,(fun os=>segRun treeTable PySem.Challenge.pw_uf020033_03 w 11 (some (Value.ref 6)) 1 1907 (s_b w.params os) (piecesOf ((hB).take 30) Zr hC {line:=0,col:=0,endLine:=0,endCol:=0} hF))=fun os=>some (Flow.next,Ae6 w.params os,hC,{line:=139,col:=0,endLine:=139,endCol:=8}):=by
 intro w
 kernel_rfl
theorem Ah0:∀w:World,(fun os=>segRun treeTable PySem.Challenge.pw_uf020033_03 w 11 (some (Value.ref 6)) 1 744 (Ae6 w.params os) (piecesOf (((hB).drop 30).take 9) Zr hC {line:=139,col:=0,endLine:=139,endCol:=8} hF))=fun os=>some (Flow.next,Ae7 w.params os,hC,{line:=202,col:=0,endLine:=203,endCol:=77}):=by
 intro w
 kernel_rfl
theorem Ah1:∀w:World,(fun os=>(topRun treeTable PySem.Challenge.pw_uf020033_03 w 11 (some (Value.ref 6)) 882 (Ae7 w.params os) (restOf (((hB).drop 30).drop 9) Zr hC {line:=202,col:=0,endLine:=203,endCol:=77} hF)).map (fun s=>(staticsOk (importedModules PySem.Challenge.pw_uf020033_03.main.body) (boot_heap w.params) s.heap&&namesBound PySem.Challenge.pw_uf020033_03 s.heap&&gensDone s&&laidKept (boot_heap w.params) s.heap,openSeen kq [] (importedModules PySem.Challenge.pw_uf020033_03.main.body) (fun s=>xlAt kq [] s&&recOk (RowW.records PySem.Challenge.rw_uf020033_03.row.toRowW) s) true s,Hook.obs kH s)))=fun os=>some (true,openGood kq [],Hook.val kH w):=by
 intro w
 kernel_rfl
theorem Zs{p q:Program}{loose:List Str}{Xt:Shared->Bool}{α:Type}{Yf:Shared->α}{Ya:World->α}{N:Nat}{H₀:Params->Heap}{gs₀:Array GenState}{d₀:Drawn}{k₀:Nat}{m₀:Nat}{ann:Option Value}{M:Nat}
 (op:∀w:World,(fencedOpening treeTable p w N).map (fun s=>(s.heap,s.gens,s.drawn,s.toks))=some (H₀ w.params,gs₀,d₀,k₀))
 (size:∀w:World,((H₀ w.params).isNs mainGlobals&&gs₀.size==0,(H₀ w.params).objs.size,(H₀ w.params).nsMap mainGlobals "__annotations__")=(true,m₀,ann))
 (run:∀(w:World) (os:OsState),∃r,topRun treeTable p w m₀ ann M ⟨H₀ w.params,gs₀,d₀,k₀,os⟩ (topStub p)=some r/\(staticsOk (importedModules p.main.body) (H₀ w.params) r.heap&&namesBound p r.heap&&gensDone r&&laidKept (H₀ w.params) r.heap)=true/\openSeen q loose (importedModules p.main.body) Xt true r=openGood q loose/\Yf r=Ya w)
 (le:Nat.ble M N=true):LeftO p q loose Xt Yf Ya N:=fun w=>by
 obtain⟨⟨h,gs,d,k,os⟩,e,e'⟩:=Option.map_eq_some_iff.mp (op w)
 obtain⟨rfl,rfl,rfl,rfl⟩:h=H₀ w.params/\gs=gs₀/\d=d₀/\k=k₀:=by simpa using e'
 obtain⟨z1,z2,z3⟩:_/\_/\_:=by simpa only[Prod.mk.injEq]using size w
 obtain⟨r,hr,l1,l2,l3⟩:=run w os
 have r':=topRun_mono (N-M) _ _ _ _ hr
 rw[show M+(N-M)=N by have:=Nat.le_of_ble_eq_true le;omega]at r'
 have t:topFrom treeTable p w N ⟨H₀ w.params,gs,d,k,os⟩=some r:=by
  unfold topFrom
  dsimp only
  rw[z1,z2,z3,r']
  show (match staticsOk (importedModules p.main.body) (H₀ w.params) r.heap&&namesBound p r.heap&&gensDone r&&laidKept (H₀ w.params) r.heap with|true=>_|false=>_)=_
  rw[l1]
 unfold openEnds
 rw[e]
 show (topFrom treeTable p w N _).map _=_
 rw[t]
 exact congrArg some (Prod.ext l2 l3)
theorem b_e:opening PySem.Challenge.pw_uf020033_03=plainProg PySem.Challenge.pw_uf020033_03.main.scope.names:=by kernel_rfl
theorem b_f(s:Shared):fenceModules? PySem.Challenge.pw_uf020033_03 s=some s:=by kernel_rfl
theorem Afw(w:World):((boot_heap w.params).isNs mainGlobals&&(Array.mk ([]:List GenState)).size==0,(boot_heap w.params).objs.size,(boot_heap w.params).nsMap mainGlobals "__annotations__")=(true,11,some (Value.ref 6)):=by kernel_rfl
theorem Xv:LeftO PySem.Challenge.pw_uf020033_03 kq [] (fun s=>xlAt kq [] s&&recOk (RowW.records PySem.Challenge.rw_uf020033_03.row.toRowW) s) (Hook.obs kH) (Hook.val kH) 6938:=
 Zs (M:=12+(1+(1907+(744+(882))))) (boot_open b_e (by decide) b_f) Afw (fun w os=>by
  obtain⟨r,hr,ho⟩:=Option.map_eq_some_iff.mp (congrFun (Ah1 w) os)
  obtain⟨o1,ho⟩:=Prod.mk.inj ho
  obtain⟨o2,o3⟩:=Prod.mk.inj ho
  exact⟨r,go_top (congrFun (Ahx w) os) (piece_block (congrFun (Ahy w) os) (Qx 30 (congrFun (Ahz w) os) (Qx 9 (congrFun (Ah0 w) os) (hr)))),o1,o2,o3⟩) (by decide)
end Mine.Internal.Cl
namespace Mine.Internal
open PySem
theorem Aa{p:Prop}(h:¬p->False):p:=Classical.byContradiction h
inductive Oo{α0:Type}(p:α0->Prop):Prop
 | mk (x0:α0) (h:p x0)
inductive Ka{α0 α1:Type}(p:α0->α1->Prop):Prop
 | mk (x0:α0) (x1:α1) (h:p x0 x1)
inductive U8{α0 α1 α2:Type}(p:α0->α1->α2->Prop):Prop
 | mk (x0:α0) (x1:α1) (x2:α2) (h:p x0 x1 x2)
inductive Ex4{α0 α1 α2 α3:Type}(p:α0->α1->α2->α3->Prop):Prop
 | mk (x0:α0) (x1:α1) (x2:α2) (x3:α3) (h:p x0 x1 x2 x3)
inductive Ex5{α0 α1 α2 α3 α4:Type}(p:α0->α1->α2->α3->α4->Prop):Prop
 | mk (x0:α0) (x1:α1) (x2:α2) (x3:α3) (x4:α4) (h:p x0 x1 x2 x3 x4)
inductive Ex6{α0 α1 α2 α3 α4 α5:Type}(p:α0->α1->α2->α3->α4->α5->Prop):Prop
 | mk (x0:α0) (x1:α1) (x2:α2) (x3:α3) (x4:α4) (x5:α5) (h:p x0 x1 x2 x3 x4 x5)
inductive Ex8{α0 α1 α2 α3 α4 α5 α6 α7:Type}(p:α0->α1->α2->α3->α4->α5->α6->α7->Prop):Prop
 | mk (x0:α0) (x1:α1) (x2:α2) (x3:α3) (x4:α4) (x5:α5) (x6:α6) (x7:α7) (h:p x0 x1 x2 x3 x4 x5 x6 x7)
inductive D3(a0 a1 a2:Prop):Prop
 | mk (h0:a0) (h1:a1) (h2:a2)
inductive R7(a0 a1 a2 a3:Prop):Prop
 | mk (h0:a0) (h1:a1) (h2:a2) (h3:a3)
inductive Xw(a0 a1 a2 a3 a4:Prop):Prop
 | mk (h0:a0) (h1:a1) (h2:a2) (h3:a3) (h4:a4)
inductive An6(a0 a1 a2 a3 a4 a5:Prop):Prop
 | mk (h0:a0) (h1:a1) (h2:a2) (h3:a3) (h4:a4) (h5:a5)
inductive An7(a0 a1 a2 a3 a4 a5 a6:Prop):Prop
 | mk (h0:a0) (h1:a1) (h2:a2) (h3:a3) (h4:a4) (h5:a5) (h6:a6)
inductive An8(a0 a1 a2 a3 a4 a5 a6 a7:Prop):Prop
 | mk (h0:a0) (h1:a1) (h2:a2) (h3:a3) (h4:a4) (h5:a5) (h6:a6) (h7:a7)
inductive Ah2(a0 a1 a2 a3 a4 a5 a6 a7 a8 a9 a10 a11 a12:Prop):Prop
 | mk (h0:a0) (h1:a1) (h2:a2) (h3:a3) (h4:a4) (h5:a5) (h6:a6) (h7:a7) (h8:a8) (h9:a9) (h10:a10) (h11:a11) (h12:a12)
inductive V where
 | none|bool (b:Bool)|int (i:Int)|ref (a:Nat)|script (ns:List Int)
inductive Cn where
 | web|verdict|webError|badWeb|noPoint|badText|badOrder|hasGap
 deriving DecidableEq
inductive C9 where
 | many|rows|order|ring|crowd|colours
 deriving DecidableEq
inductive Ty where
 | int|bool|list|tuple
 deriving DecidableEq
inductive BI where
 | len|list|listRange|sorted|sortedL|max|min|minL|all|any|lenSet|sortedSet|isinst (t:Ty)|int
 deriving DecidableEq
inductive LM where
 | append|clear|count|extend|index|remove|reverse|setdefault
 deriving DecidableEq
inductive O where
 | list (xs:List V)|tuple (xs:List V)|dict (es:List (Int×V))|inst (c:Cn) (d:Nat)|ns (fs:List (C9×V))|exc (c:Cn) (k:Bool:=true)
noncomputable abbrev AH:=Nat->Option O
noncomputable def upd(h:AH)(a:Nat)(o:O):AH:=fun b=>if b=a then some o else h b
noncomputable def Tb(h:AH)(a:Nat):AH:=fun b=>if b=a then none else h b
noncomputable abbrev Al:=List (Option V)
set_option genCtorIdx false in
inductive X where
 | omit
 | cnone|cbool (b:Bool)|cint (i:Int)
 | var (i:Nat)
 | glob (g:Str)
 | not (e:X)|neg (e:X)
 | and (l r:X)|or (l r:X)
 | bin (op:Operator) (l r:X)
 | cmp (op:CmpOp) (l r:X)
 | chain (l:X) (op1:CmpOp) (m:X) (op2:CmpOp) (r:X)
 | call (f:Str) (args:List X)
 | mk (c:Cn) (args:List X)
 | meth (m:Str) (o:X) (args:List X)
 | bi (b:BI) (args:List X)
 | isown (c:Cn) (e:X)
 | isVE (e:X)
 | lm (m:LM) (o:X) (args:List X)
 | attr (o:X) (a:C9)
 | sub (o i:X)
 | slice (o l u s:X)
 | list (es:List X)|tuple (es:List X)|dict (ks vs:List X)
 | range (args:List X)|enum (e:X)|rev (e:X)|val (e:X)
 | comp (k:Nat) (src elt:X)
 | compIf (k:Nat) (src cond elt:X)
set_option genCtorIdx false in
inductive Tc where
 | one (i:Nat)|two (i j:Nat)
set_option genCtorIdx false in
inductive S where
 | assign (i:Nat) (e:X)
 | setattr (o:X) (a:C9) (e:X)
 | setitem (o i e:X)
 | expr (e:X)
 | ite (t:X) (a b:List S)
 | for (t:Tc) (src:X) (body:List S)
 | while (t:X) (body:List S)
 | ret (e:X)
 | pass
 | raise (c:Cn)
 | try1 (body:List S) (c:Cn) (as:Option Nat) (h:List S)
 | bad
 | raiseO (c:Cn)
 | tryO (body:List S) (c:Cn) (h:List S)
 | try2 (body:List S) (c:Cn) (as:Option Nat) (h:List S) (c':Cn) (h':List S)
set_option genCtorIdx false in
structure Fn where
 slots:Nat
 arity:Nat
 body:List S
set_option genCtorIdx false in
structure A5 where
 fn:Str->Option Fn
 const:Str->Option V
 exc:Cn->Bool
noncomputable abbrev Ak:=V->AH->Prop
noncomputable abbrev EP:=V->AH->Prop
noncomputable abbrev EF:EP:=fun _ _=>False
noncomputable abbrev CS:=Str->List V->AH->Ak->EP->Prop
noncomputable def Bs:Nat:=1048576
noncomputable def Ao(o:O)(H:AH)(Q:Ak):Prop:=∀a,H a=none->Q (.ref a) (upd H a o)
noncomputable def Ax(v:V)(P:Nat->Prop):Prop:=match v with | .ref a=>P a|_=>False
noncomputable def Ap(v:V)(P:Int->Prop):Prop:=match v with | .int i=>P i|_=>False
noncomputable def Gb(o:Option O)(P:List V->Prop):Prop:=match o with|some (.list xs)=>P xs|_=>False
noncomputable def U9(o:Option O)(P:List (Int×V)->Prop):Prop:=match o with|some (.dict es)=>P es|_=>False
noncomputable def Op(o:Option O)(P:Cn->Nat->Prop):Prop:=match o with|some (.inst c d)=>P c d|_=>False
noncomputable def Wr(o:Option O)(P:Nat->Prop):Prop:=match o with|some (.inst .web d)=>P d|_=>False
noncomputable def Td(o:Option O)(P:List (C9×V)->Prop):Prop:=match o with|some (.ns fs)=>P fs|_=>False
noncomputable def E8{α:Type}(o:Option α)(P:α->Prop):Prop:=match o with|some x=>P x|none=>False
noncomputable def U5(vs:List V)(P:Prop):Prop:=match vs with | []=>P|_=>False
noncomputable def Mt(vs:List V)(P:V->Prop):Prop:=match vs with | [v]=>P v|_=>False
noncomputable def Te(vs:List V)(P:V->V->Prop):Prop:=match vs with | [v,w]=>P v w|_=>False
noncomputable def ints? :List V->Option (List Int)
 | []=>some []
 | .int i::r=>(ints? r).map (i :: ·)
 | _=>none
noncomputable def bools? :List V->Option (List Bool)
 | []=>some []
 | .bool b::r=>(bools? r).map (b :: ·)
 | _=>none
noncomputable def N3(x:Int):List Int->List Int
 | []=>[x]
 | y::r=>if x<=y then x::y::r else y::N3 x r
noncomputable def Bf:List Int->List Int
 | []=>[]
 | x::r=>N3 x (Bf r)
noncomputable def Ct(k:Int)(n:Nat):Option Nat:=
 if 0<=k then(if k<n then some k.toNat else none)else(if 0<=k+n then some (k+n).toNat else none)
noncomputable def Fb(k:Int)(n:Nat):Nat:=if k<0 then(k+n).toNat else min k.toNat n
noncomputable def dget(es:List (Int×V))(k:Int):Option V:=es.lookup k
noncomputable def C2(es:List (Int×V))(k:Int)(v:V):List (Int×V):=
 match es with
 | []=>[(k,v)]
 | (k',v')::r=>if k=k' then(k,v)::r else(k',v')::C2 r k v
noncomputable def Kt(fs:List (C9×V))(a:C9):Option V:=fs.lookup a
noncomputable def Hw(fs:List (C9×V))(k:C9)(v:V):List (C9×V):=
 match fs with
 | []=>[(k,v)]
 | (k',v')::r=>if k=k' then(k,v)::r else(k',v')::Hw r k v
noncomputable def Zp:V->V->Option Bool
 | .int i,.int j=>some (decide (i=j))
 | .bool a,.bool b=>some (a==b)
 | .none,.none=>some true
 | .none,.int _=>some false
 | .int _,.none=>some false
 | .none,.bool _=>some false
 | .bool _,.none=>some false
 | _,_=>none
noncomputable def Gw:List (Option Bool)->Option Bool
 | []=>some true
 | none::_=>none
 | some r::t=>(Gw t).map (r && ·)
noncomputable def Va:List (Option Bool)->Option Bool
 | []=>some false
 | none::_=>none
 | some r::t=>(Va t).map (r || ·)
noncomputable def Mu:Nat->AH->V->V->Option Bool
 | 0,_,a,b=>Zp a b
 | n+1,H,a,b=>match a,b with
   | .ref x,.ref y=>(match H x,H y with
     | some (.list xs),some (.list ys)=>if xs.length=ys.length then Gw (List.zipWith (Mu n H) xs ys)else some false
     | some (.tuple xs),some (.tuple ys)=>if xs.length=ys.length then Gw (List.zipWith (Mu n H) xs ys)else none
     | _,_=>none)
   | .ref x,.none=>(match H x with|some (.list _)=>some false|some (.tuple _)=>some false|_=>none)
   | .none,.ref x=>(match H x with|some (.list _)=>some false|some (.tuple _)=>some false|_=>none)
   | a,b=>Zp a b
noncomputable def P8(v:V)(xs:List V):Option Bool:=Va (xs.map fun x=>Zp x v)
noncomputable def Fc:Nat:=5
noncomputable def Ah3(a b:V)(H:AH)(Q:Ak):Prop:=Ap a fun i=>Ap b fun j=>Q (.bool (decide (i<j))) H
noncomputable def Ah4(a b:V)(H:AH)(Q:Ak):Prop:=Ap a fun i=>Ap b fun j=>Q (.bool (decide (i<=j))) H
noncomputable def Ah5(a b:V)(H:AH)(Q:Ak):Prop:=Ap a fun i=>Ap b fun j=>Q (.bool (decide (j<i))) H
noncomputable def Ah6(a b:V)(H:AH)(Q:Ak):Prop:=Ap a fun i=>Ap b fun j=>Q (.bool (decide (j<=i))) H
noncomputable def isB:V->V->Option Bool
 | .none,.none=>some true
 | .bool x,.bool y=>some (x==y)
 | .ref _,.none=>some false
 | .int _,.none=>some false
 | .bool _,.none=>some false
 | _,_=>none
noncomputable def Ah7(a b:V)(H:AH)(Q:Ak):Prop:=E8 (isB a b) fun r=>Q (.bool r) H
noncomputable def Ae9(a b:V)(H:AH)(Q:Ak):Prop:=E8 (isB a b) fun r=>Q (.bool (!r)) H
noncomputable def N4(v b:V)(H:AH)(Q:Ak):Prop:=match b with
 | .ref a=>(match H a with
   | some (.list xs)=>E8 (P8 v xs) fun r=>Q (.bool r) H
   | some (.tuple xs)=>E8 (P8 v xs) fun r=>Q (.bool r) H
   | some (.dict es)=>Ap v fun k=>Q (.bool (dget es k).isSome) H
   | _=>False)
 | _=>False
noncomputable def Ba(op:CmpOp)(a b:V)(H:AH)(Q:Ak):Prop:=
 match op with
 | .Lt=>Ah3 a b H Q
 | .LtE=>Ah4 a b H Q
 | .Gt=>Ah5 a b H Q
 | .GtE=>Ah6 a b H Q
 | .Eq=>E8 (Mu Fc H a b) fun r=>Q (.bool r) H
 | .NotEq=>E8 (Mu Fc H a b) fun r=>Q (.bool (!r)) H
 | .Is=>Ah7 a b H Q
 | .IsNot=>Ae9 a b H Q
 | .In=>N4 a b H Q
 | .NotIn=>N4 a b H (fun v H=>match v with | .bool r=>Q (.bool (!r)) H|_=>False)
noncomputable def Ws(a b:V)(H:AH)(Q:Ak):Prop:=match a with
 | .int i=>Ap b fun j=>Q (.int (i+j)) H
 | .ref a=>Ax b fun b=>Gb (H a) fun xs=>Gb (H b) fun ys=>xs.length+ys.length<=Bs/\Ao (.list (xs++ys)) H Q
 | _=>False
noncomputable def Wt(a b:V)(H:AH)(Q:Ak):Prop:=Ap b fun k=>match a with
 | .int i=>(i.natAbs<2 ^ 64\/k.natAbs<2 ^ 64)/\Q (.int (i*k)) H
 | .ref a=>Gb (H a) fun xs=>(0<=k/\k<=1000/\xs.length*k.toNat<=Bs)/\Ao (.list (List.replicate k.toNat xs).flatten) H Q
 | _=>False
noncomputable def Zt(a b:V)(H:AH)(Q:Ak):Prop:=Ap a fun i=>Ap b fun j=>Q (.int (i-j)) H
noncomputable def Zu(a b:V)(H:AH)(Q:Ak):Prop:=Ap a fun i=>Ap b fun j=>(j≠0/\j.natAbs<=10 ^ 30)/\Q (.int (i.fdiv j)) H
noncomputable def Zv(a b:V)(H:AH)(Q:Ak):Prop:=Ap a fun i=>Ap b fun j=>(j≠0/\j.natAbs<=10 ^ 30)/\Q (.int (i.fmod j)) H
noncomputable def Afa(a b:V)(H:AH)(Q:Ak):Prop:=Ap a fun i=>Ap b fun j=>(0<=j/\j<=1000/\i.natAbs<2 ^ 64)/\Q (.int (i ^ j.toNat)) H
noncomputable def Dn(op:Operator)(a b:V)(H:AH)(Q:Ak):Prop:=
 match op with
 | .Add=>Ws a b H Q
 | .Sub=>Zt a b H Q
 | .Mult=>Wt a b H Q
 | .FloorDiv=>Zu a b H Q
 | .Mod=>Zv a b H Q
 | .Pow=>Afa a b H Q
 | _=>False
noncomputable def D4(o i:V)(H:AH)(Q:Ak):Prop:=Ap i fun k=>match o with
 | .ref a=>(match H a with
   | some (.list xs)=>E8 (Ct k xs.length) fun j=>E8 xs[j]? fun v=>Q v H
   | some (.tuple xs)=>E8 (Ct k xs.length) fun j=>E8 xs[j]? fun v=>Q v H
   | some (.dict es)=>E8 (dget es k) fun v=>Q v H
   | _=>False)
 | .script ns=>E8 (Ct k ns.length) fun j=>E8 ns[j]? fun i=>Q (.int i) H
 | _=>False
noncomputable def bound? :V->Option (Option Int)
 | .none=>some none
 | .int k=>some (some k)
 | _=>none
noncomputable def cut{α:Type}(xs:List α)(l u:Option Int):List α:=
 ((xs.take (match u with|some k=>Fb k xs.length|none=>xs.length)).drop (match l with|some k=>Fb k xs.length|none=>0))
noncomputable def Zw(xs:List V)(l' u':Option Int)(s:V)(H:AH)(Q:Ak):Prop:=match s with
 | .none=>Ao (.list (cut xs l' u')) H Q
 | .int k=>l'=none/\k = -1/\(match u' with
   | none=>Ao (.list xs.reverse) H Q
   | some j=>j=0/\Ao (.list (xs.drop 1).reverse) H Q)
 | _=>False
noncomputable def R8(a:Nat)(l u s:V)(H:AH)(Q:Ak):Prop:=E8 (bound? l) fun l'=>E8 (bound? u) fun u'=>Gb (H a) fun xs=>Zw xs l' u' s H Q
noncomputable def Ce(o l u s:V)(H:AH)(Q:Ak):Prop:=match o with
 | .ref a=>R8 a l u s H Q
 | _=>False
noncomputable def Iz(o:O)(t:Ty):Option Bool:=match o with
 | .list _=>(match t with | .list=>some true|_=>some false)
 | .tuple _=>(match t with | .tuple=>some true|_=>some false)
 | .exc _ _=>none
 | .dict _=>none
 | .inst _ _=>none
 | .ns _=>none
noncomputable def Ku(t:Ty)(v:V)(H:AH):Option Bool:=
 match v with
 | .ref a=>(match H a with|some o=>Iz o t|none=>none)
 | .int _=>(match t with | .int=>some true|_=>some false)
 | .bool _=>(match t with | .int=>some true | .bool=>some true|_=>some false)
 | .none=>some false
 | .script _=>none
noncomputable def Fd(_:Ty):Bool:=true
noncomputable def Oq(args:List V)(H:AH)(Q:Ak):Prop:=Mt args fun v=>match v with
 | .script ns=>Q (.int ns.length) H
 | .ref a=>(match H a with
   | some (.list xs)=>Q (.int xs.length) H
   | some (.tuple xs)=>Q (.int xs.length) H
   | some (.dict es)=>Q (.int es.length) H
   | _=>False)
 | _=>False
noncomputable def Hx(args:List V)(H:AH)(Q:Ak):Prop:=Mt args fun v=>Ax v fun a=>match H a with
 | some (.list xs)=>Ao (.list xs) H Q
 | some (.tuple xs)=>Ao (.list xs) H Q
 | _=>False
noncomputable def Ah8(args:List V)(H:AH)(Q:Ak):Prop:=match args with
 | [v]=>Ap v fun n=>(-Bs<=n/\n<=Bs)/\Ao (.list ((List.range n.toNat).map fun(i:Nat)=>V.int i)) H Q
 | [v,w]=>Ap v fun m=>Ap w fun n=>(0<=m/\m<=Bs/\ -Bs<=n/\n<=Bs)/\Ao (.list ((List.range (n-m).toNat).map fun(i:Nat)=>V.int (m+i))) H Q
 | _=>False
noncomputable def isI(v:V):Bool:=match v with | .int _=>true|_=>false
noncomputable def Afb(xs:List V):Bool:=match xs with | [x,y]=>isI x&&isI y|_=>false
noncomputable def Zx(o:Option O):Bool:=match o with|some (.tuple xs)=>Afb xs|_=>false
noncomputable def Aia(H:AH)(v:V):Bool:=match v with | .ref t=>Zx (H t)|_=>false
noncomputable def Wu(xs:List V)(H:AH)(Q:Ak):Prop:=xs.length<64/\xs.all (Aia H)=true/\∀xs':List V,xs'.Perm xs->Ao (.list xs') H Q
noncomputable def Hy(args:List V)(H:AH)(Q:Ak):Prop:=Mt args fun v=>Ax v fun a=>match H a with
 | some (.list xs)=>(match ints? xs with|some ns=>ns.length<64/\Ao (.list ((Bf ns).map V.int)) H Q|none=>Wu xs H Q)
 | some (.dict es)=>es.length<64/\Ao (.list ((Bf (es.map (·.1))).map V.int)) H Q
 | _=>False
noncomputable def R9(args:List V)(H:AH)(Q:Ak):Prop:=Mt args fun v=>Ax v fun a=>Gb (H a) fun xs=>E8 (ints? xs) fun ns=>ns.length<64/\Ao (.list ((Bf ns).map V.int)) H Q
noncomputable def Afc(args:List V)(H:AH)(Q:Ak):Prop:=Te args fun v w=>Ap v fun i=>Ap w fun j=>Q (.int (max i j)) H
noncomputable def Afd(args:List V)(H:AH)(Q:Ak):Prop:=Te args fun v w=>Ap v fun i=>Ap w fun j=>Q (.int (min i j)) H
noncomputable def Os(args:List V)(H:AH)(Q:Ak):Prop:=Mt args fun v=>Ax v fun a=>Gb (H a) fun xs=>E8 (bools? xs) fun bs=>Q (.bool (bs.all id)) H
noncomputable def Ajy(t:Ty)(args:List V)(H:AH)(Q:Ak):Prop:=match args with
 | [v]=>Fd t=true/\(match Ku t v H with|some r=>Q (.bool r) H|none=>False)
 | _=>False
noncomputable def Afe(args:List V)(H:AH)(Q:Ak):Prop:=Mt args fun v=>match v with
 | .bool b=>Q (.int (if b then 1 else 0)) H
 | _=>False
noncomputable def Cj(b:BI)(args:List V)(H:AH)(Q:Ak):Prop:=
 match b with
 | .len=>Oq args H Q
 | .list=>Hx args H Q
 | .listRange=>Ah8 args H Q
 | .sorted=>Hy args H Q
 | .sortedL=>R9 args H Q
 | .max=>Afc args H Q
 | .min=>Afd args H Q
 | .minL=>False
 | .all=>Os args H Q
 | .any=>False
 | .lenSet=>False
 | .sortedSet=>False
 | .isinst t=>Ajy t args H Q
 | .int=>Afe args H Q
noncomputable def Dw(o:V)(args:List V)(H:AH)(Q:Ak):Prop:=Ax o fun a=>Mt args fun v=>Gb (H a) fun xs=>xs.length<Bs/\Q .none (upd H a (.list (xs ++ [v])))
noncomputable def Fy(o:V)(args:List V)(H:AH)(Q:Ak):Prop:=Ax o fun a=>U5 args (Gb (H a) fun _=>Q .none (upd H a (.list [])))
noncomputable def Dx(o:V)(args:List V)(H:AH)(Q:Ak):Prop:=Ax o fun a=>Mt args fun v=>Ax v fun b=>Gb (H a) fun xs=>Gb (H b) fun ys=>(a≠b/\xs.length+ys.length<=Bs)/\Q .none (upd H a (.list (xs++ys)))
noncomputable def Cw(o:V)(args:List V)(H:AH)(Q:Ak):Prop:=Ax o fun a=>U5 args (Gb (H a) fun xs=>Q .none (upd H a (.list xs.reverse)))
noncomputable def Fz(o:V)(args:List V)(H:AH)(Q:Ak):Prop:=Ax o fun a=>Mt args fun v=>Gb (H a) fun xs=>match v with
 | .int k=>E8 (ints? xs) fun ns=>k∈ns/\Q (.int (ns.idxOf k)) H
 | _=>False
noncomputable def Dy(o:V)(args:List V)(H:AH)(Q:Ak):Prop:=Ax o fun a=>Mt args fun v=>Ap v fun k=>Gb (H a) fun xs=>E8 (ints? xs) fun ns=>k∈ns/\Q .none (upd H a (.list ((ns.erase k).map V.int)))
noncomputable def Bq(o:V)(args:List V)(H:AH)(Q:Ak):Prop:=Ax o fun a=>Te args fun i v=>Ap i fun k=>U9 (H a) fun es=>match dget es k with
 | some w=>Q w H
 | none=>es.length<Bs/\Q v (upd H a (.dict (C2 es k v)))
noncomputable def Ew(m:LM)(o:V)(args:List V)(H:AH)(Q:Ak):Prop:=
 match m with
 | .append=>Dw o args H Q
 | .clear=>Fy o args H Q
 | .count=>False
 | .extend=>Dx o args H Q
 | .index=>Fz o args H Q
 | .remove=>Dy o args H Q
 | .reverse=>Cw o args H Q
 | .setdefault=>Bq o args H Q
noncomputable def lmL:LM->Prop
 | .setdefault=>False
 | _=>True
noncomputable def F0(m:LM)(o:V)(H:AH):Prop:=match o with
 | .ref a=>(match H a with
   | some (.list _)=>lmL m
   | some (.dict _)=>m = .setdefault
   | _=>False)
 | _=>False
noncomputable def setAttr(o:V)(t:C9)(v:V)(H:AH)(N:AH->Prop):Prop:=Ax o fun a=>Op (H a) fun _ d=>Td (H d) fun fs=>fs.length<10/\N (upd H d (.ns (Hw fs t v)))
noncomputable def getAttr(o:V)(t:C9)(H:AH)(Q:Ak):Prop:=Ax o fun a=>Op (H a) fun _ d=>Td (H d) fun fs=>E8 (Kt fs t) fun v=>Q v H
noncomputable def setItem(o i v:V)(H:AH)(N:AH->Prop):Prop:=Ax o fun a=>Ap i fun k=>match H a with
 | some (.list xs)=>E8 (Ct k xs.length) fun j=>N (upd H a (.list (xs.set j v)))
 | some (.dict es)=>es.length<Bs/\N (upd H a (.dict (C2 es k v)))
 | _=>False
set_option genCtorIdx false in
inductive It where
 | v (x:V)|pair (a b:V)
noncomputable def Gc(v:V)(H:AH)(K:List It->(AH->Prop)->AH->Prop):Prop:=match v with
 | .ref a=>(match H a with
   | some (.list xs)=>K (xs.map .v) (fun H'=>H' a=some (.list xs)) H
   | some (.tuple xs)=>K (xs.map .v) (fun H'=>H' a=some (.tuple xs)) H
   | some (.dict es)=>K (es.map fun e=> .v (.int e.1)) (fun _=>True) (fun b=>if b=a then none else H b)
   | _=>False)
 | _=>False
noncomputable def Mv(v:V)(H:AH)(K:List It->(AH->Prop)->AH->Prop):Prop:=Ax v fun a=>Gb (H a) fun xs=>K (xs.mapIdx fun i x=> .pair (.int i) x) (fun H'=>H' a=some (.list xs)) H
noncomputable def Qy(v:V)(H:AH)(K:List It->(AH->Prop)->AH->Prop):Prop:=Ax v fun a=>Gb (H a) fun xs=>K (xs.reverse.map .v) (fun H'=>H' a=some (.list xs)) H
noncomputable def Ej(vs:List V)(H:AH)(K:List It->(AH->Prop)->AH->Prop):Prop:=
 match vs with
 | [v]=>Ap v fun n=>(-Bs<=n/\n<=Bs)/\K ((List.range n.toNat).map fun(i:Nat)=> .v (.int i)) (fun _=>True) H
 | [v,w]=>Ap v fun m=>Ap w fun n=>(0<=m/\m<=Bs/\ -Bs<=n/\n<=Bs)/\K ((List.range (n-m).toNat).map fun(i:Nat)=> .v (.int (m+i))) (fun _=>True) H
 | _=>False
noncomputable def Lg(t:Tc)(i:It)(ρ:Al)(H:AH)(N:Al->Prop):Prop:=
 match t,i with
 | .one k,.v x=>N (ρ.set k (some x))
 | .two k l,.pair a b=>N ((ρ.set k (some a)).set l (some b))
 | .two k l,.v (.ref a)=>(match H a with
   | some (.tuple [x,y])=>N ((ρ.set k (some x)).set l (some y))
   | _=>False)
 | _,_=>False
noncomputable def loop(g:AH->Prop)(t:Tc)(body:Al->AH->(Al->AH->Prop)->Prop)(N:Al->AH->Prop):List It->Al->AH->Prop
 | [],ρ,H=>g H/\N ρ H
 | i::r,ρ,H=>g H/\Lg t i ρ H fun ρ'=>body ρ' H fun ρ'' H''=>loop g t body N r ρ'' H''
noncomputable def Bm(g:AH->Prop)(t:Tc)(elt:Al->AH->(Option V->AH->Prop)->Prop)(Q:List V->AH->Prop):List It->List V->Al->AH->Prop
 | [],acc,_,H=>g H/\Q acc H
 | i::r,acc,ρ,H=>g H/\Lg t i ρ H fun ρ'=>elt ρ' H fun o H''=>Bm g t elt Q r (match o with|some v=>acc ++ [v]|none=>acc) ρ' H''
noncomputable def truthy(v:V)(Q:Bool->Prop):Prop:=match v with | .bool b=>Q b|_=>False
noncomputable def Sa(c:Cn)(o:O):Option Bool:=match o with
 | .exc c' _=>some (c'==c||c == .webError)
 | _=>none
noncomputable def Dp(c:Cn)(v:V)(H:AH):Option Bool:=
 match v with
 | .ref a=>(match H a with|some o=>Sa c o|none=>none)
 | _=>none
theorem Ot{c:Cn}{a:Nat}{H:AH}{o:O}(h:H a=some o):Dp c (.ref a) H=Sa c o:=by
 show (match H a with|some o=>Sa c o|none=>none)=_
 rw[h]
theorem Zy{c:Cn}{a:Nat}{H:AH}(h:H a=none):Dp c (.ref a) H=none:=by
 show (match H a with|some o=>Sa c o|none=>none)=_
 rw[h]
noncomputable def Xx(i:Option Nat)(ρ:Al):Al:=match i with|some _=>[]|none=>ρ
noncomputable def Zz(i:Option Nat)(v:Option V)(ρ:Al):Al:=match i with|some i=>ρ.set i v|none=>ρ
noncomputable def Ds:Cn->Str
 | .web=> "Web.__init__"
 | _=> "Verdict.__init__"
noncomputable def Cy(k:Nat):Tc:=if k=1 then .one 0 else .two 0 1
mutual
noncomputable def Aq(G:A5)(C:CS):X->Al->AH->Ak->EP->Prop
 | .omit,_,H,Q,_=>Q .none H
 | .cnone,_,H,Q,_=>Q .none H
 | .cbool b,_,H,Q,_=>Q (.bool b) H
 | .cint i,_,H,Q,_=>Q (.int i) H
 | .var i,ρ,H,Q,_=>(match ρ[i]? with|some (some v)=>Q v H|_=>False)
 | .glob g,_,H,Q,_=>(match G.const g with|some v=>Q v H|none=>False)
 | .not e,ρ,H,Q,E=>Aq G C e ρ H (fun v H=>truthy v fun b=>Q (.bool (!b)) H) E
 | .neg e,ρ,H,Q,E=>Aq G C e ρ H (fun v H=>match v with | .int i=>Q (.int (-i)) H|_=>False) E
 | .and l r,ρ,H,Q,E=>Aq G C l ρ H (fun v H=>truthy v fun b=>if b then Aq G C r ρ H Q E else Q (.bool false) H) E
 | .or l r,ρ,H,Q,E=>Aq G C l ρ H (fun v H=>truthy v fun b=>if b then Q (.bool true) H else Aq G C r ρ H Q E) E
 | .bin op l r,ρ,H,Q,E=>Aq G C l ρ H (fun a H=>Aq G C r ρ H (fun b H=>Dn op a b H Q) E) E
 | .cmp op l r,ρ,H,Q,E=>Aq G C l ρ H (fun a H=>Aq G C r ρ H (fun b H=>Ba op a b H Q) E) E
 | .chain l o1 m o2 r,ρ,H,Q,E=>Aq G C l ρ H (fun a H=>Aq G C m ρ H (fun b H=>Ba o1 a b H fun c H=>truthy c fun t=>
    if t then Aq G C r ρ H (fun d H=>Ba o2 b d H Q) E else Q (.bool false) H) E) E
 | .call f args,ρ,H,Q,E=>(G.fn f).isSome=true/\Co G C args ρ H (fun vs H=>C f vs H Q E) E
 | .mk c args,ρ,H,Q,E=>(G.fn (Ds c)).isSome=true/\Co G C args ρ H (fun vs H=>∀a d,H a=none->H d=none->a≠d->
    C (Ds c) (.ref a::vs) (upd (upd H d (.ns [])) a (.inst c d)) (fun r H'=>r = .none/\Q (.ref a) H') E) E
 | .meth m o args,ρ,H,Q,E=>Aq G C o ρ H (fun v H=>Ax v fun a=>Wr (H a) fun d=>Td (H d) fun _=>(G.fn m).isSome=true/\Co G C args ρ H (fun vs H=>C m (.ref a::vs) H Q E) E) E
 | .bi b args,ρ,H,Q,E=>Co G C args ρ H (fun vs H=>Cj b vs H Q) E
 | .isown c e,ρ,H,Q,E=>G.exc c=true/\Aq G C e ρ H (fun v H=>match Dp c v H with|some r=>Q (.bool r) H|none=>False) E
 | .lm m o args,ρ,H,Q,E=>Aq G C o ρ H (fun v H=>F0 m v H/\Co G C args ρ H (fun vs H=>Ew m v vs H Q) E) E
 | .isVE e,ρ,H,Q,E=>Aq G C e ρ H (fun v H=>match Dp .webError v H with|some true=>Q (.bool true) H|_=>False) E
 | .attr o a,ρ,H,Q,E=>Aq G C o ρ H (fun v H=>getAttr v a H Q) E
 | .sub o i,ρ,H,Q,E=>Aq G C o ρ H (fun a H=>Aq G C i ρ H (fun b H=>D4 a b H Q) E) E
 | .slice o l u s,ρ,H,Q,E=>Aq G C o ρ H (fun a H=>Aq G C l ρ H (fun x H=>Aq G C u ρ H (fun y H=>Aq G C s ρ H (fun z H=>Ce a x y z H Q) E) E) E) E
 | .list es,ρ,H,Q,E=>Co G C es ρ H (fun vs H=>Ao (.list vs) H Q) E
 | .tuple es,ρ,H,Q,E=>Co G C es ρ H (fun vs H=>Ao (.tuple vs) H Q) E
 | .dict ks vs,ρ,H,Q,E=>Co G C ks ρ H (fun as H=>Co G C vs ρ H (fun bs H=>match as,bs with
    | [],[]=>Ao (.dict []) H Q
    | [.int k],[v]=>Ao (.dict [(k,v)]) H Q
    | _,_=>False) E) E
 | .range _,_,_,_,_=>False
 | .enum _,_,_,_,_=>False
 | .rev _,_,_,_,_=>False
 | .val _,_,_,_,_=>False
 | .comp k src elt,ρ,H,Q,E=>Dq G C src ρ H (fun its g H=>its.length<=Bs/\
    Bm g (Cy k) (fun ρ H K=>Aq G C elt ρ H (fun v H=>K (some v) H) EF) (fun vs H=>Ao (.list vs) H Q) its [] (List.replicate k none++ρ) H) E
 | .compIf k src cond elt,ρ,H,Q,E=>Dq G C src ρ H (fun its g H=>its.length<=Bs/\
    Bm g (Cy k) (fun ρ H K=>Aq G C cond ρ H (fun c H=>truthy c fun b=>if b then Aq G C elt ρ H (fun v H=>K (some v) H) EF else K none H) EF)
     (fun vs H=>Ao (.list vs) H Q) its [] (List.replicate k none++ρ) H) E
noncomputable def Co(G:A5)(C:CS):List X->Al->AH->(List V->AH->Prop)->EP->Prop
 | [],_,H,Q,_=>Q [] H
 | e::r,ρ,H,Q,E=>Aq G C e ρ H (fun v H=>Co G C r ρ H (fun vs H=>Q (v::vs) H) E) E
noncomputable def Dq(G:A5)(C:CS):X->Al->AH->(List It->(AH->Prop)->AH->Prop)->EP->Prop
 | .range args,ρ,H,K,E=>Co G C args ρ H (fun vs H=>Ej vs H K) E
 | .enum e,ρ,H,K,E=>Aq G C e ρ H (fun v H=>Mv v H K) E
 | .rev e,ρ,H,K,E=>Aq G C e ρ H (fun v H=>Qy v H K) E
 | .val e,ρ,H,K,E=>Aq G C e ρ H (fun v H=>Gc v H K) E
 | _,_,_,_,_=>False
end
mutual
noncomputable def Gv(G:A5)(C:CS):S->Al->AH->(Al->AH->Prop)->Ak->EP->Prop
 | .assign i e,ρ,H,N,_,E=>Aq G C e ρ H (fun v H=>N (ρ.set i (some v)) H) E
 | .setattr o a e,ρ,H,N,_,E=>Aq G C e ρ H (fun v H=>Aq G C o ρ H (fun ov H=>setAttr ov a v H fun H=>N ρ H) E) E
 | .setitem o i e,ρ,H,N,_,E=>Aq G C e ρ H (fun v H=>Aq G C o ρ H (fun ov H=>Aq G C i ρ H (fun iv H=>setItem ov iv v H fun H=>N ρ H) E) E) E
 | .expr e,ρ,H,N,_,E=>Aq G C e ρ H (fun _ H=>N ρ H) E
 | .ite t a b,ρ,H,N,R,E=>Aq G C t ρ H (fun v H=>truthy v fun c=>if c then A1 G C a ρ H N R E else A1 G C b ρ H N R E) E
 | .for t src body,ρ,H,N,R,E=>Dq G C src ρ H (fun its g H=>loop g t (fun ρ H K=>A1 G C body ρ H K R E) N its ρ H) E
 | .while t body,ρ,H,N,R,E=>∃I:Nat->Al->AH->Prop,(∃n,I n ρ H)/\∀n ρ H,I n ρ H->
    Aq G C t ρ H (fun v H=>truthy v fun c=>if c then A1 G C body ρ H (fun ρ H=>∃m,m<n/\I m ρ H) R E else N ρ H) E
 | .ret e,ρ,H,_,R,E=>Aq G C e ρ H R E
 | .pass,ρ,H,N,_,_=>N ρ H
 | .raise c,_,H,_,_,E=>G.exc c=true/\∀a,H a=none->E (.ref a) (upd H a (.exc c))
 | .try1 body c as h,ρ,H,N,R,_=>G.exc c=true/\A1 G C body ρ H N R fun e H=>match Dp c e H with
    | some true=>A1 G C h (Zz as (some e) ρ) H (fun ρ H=>N (Xx as ρ) H) R EF
    | _=>False
 | .bad,_,_,_,_,_=>False
 | .raiseO c,_,H,_,_,E=>G.exc c=true/\∀a,H a=none->E (.ref a) (upd H a (.exc c false))
 | .tryO body c h,ρ,H,N,R,_=>G.exc c=true/\A1 G C body ρ H N R fun e H=>Ax e fun a=>H a=some (.exc c true)/\A1 G C h ρ (Tb H a) N R EF
 | .try2 body c as h c' h',ρ,H,N,R,_=>G.exc c=true/\G.exc c'=true/\A1 G C body ρ H N R fun e H=>match Dp c e H with
    | some true=>A1 G C h (Zz as (some e) ρ) H (fun ρ H=>N (Xx as ρ) H) R EF
    | some false=>(match Dp c' e H with
      | some true=>A1 G C h' ρ H N R EF
      | _=>False)
    | none=>False
noncomputable def A1(G:A5)(C:CS):List S->Al->AH->(Al->AH->Prop)->Ak->EP->Prop
 | [],ρ,H,N,_,_=>N ρ H
 | s::r,ρ,H,N,R,E=>Gv G C s ρ H (fun ρ H=>A1 G C r ρ H N R E) R E
end
noncomputable def Ae(G:A5):Nat->CS
 | 0=>fun _ _ _ _ _=>False
 | n+1=>fun f args H Q E=>match G.fn f with
   | some d=>d.arity=args.length/\A1 G (Ae G n) d.body (args.map some++List.replicate (d.slots-d.arity) none) H (fun _ H=>Q .none H) Q E
   | none=>False
section
variable {G:A5} {n:Nat} {H:AH} {Q:Ak} {E:EP} {C:CS} {ρ:Al} {N:Al->AH->Prop} {R:Ak}
/-! the running of the abstract machine,as rules -/
theorem Jb:Aq G C .cnone ρ H Q E=Q .none H:=rfl
theorem Jc:Aq G C .omit ρ H Q E=Q .none H:=rfl
theorem Jd{b}:Aq G C (.cbool b) ρ H Q E=Q (.bool b) H:=rfl
theorem Je{i}:Aq G C (.cint i) ρ H Q E=Q (.int i) H:=rfl
theorem Jf{i}:Aq G C (.var i) ρ H Q E=(match ρ[i]? with|some (some v)=>Q v H|_=>False):=rfl
theorem Jg{e}:Aq G C (.not e) ρ H Q E=Aq G C e ρ H (fun v H=>truthy v fun b=>Q (.bool (!b)) H) E:=rfl
theorem Jh{e}:Aq G C (.neg e) ρ H Q E=Aq G C e ρ H (fun v H=>match v with | .int i=>Q (.int (-i)) H|_=>False) E:=rfl
theorem Ji{l r}:Aq G C (.and l r) ρ H Q E=Aq G C l ρ H (fun v H=>truthy v fun b=>if b then Aq G C r ρ H Q E else Q (.bool false) H) E:=rfl
theorem Jj{l r}:Aq G C (.or l r) ρ H Q E=Aq G C l ρ H (fun v H=>truthy v fun b=>if b then Q (.bool true) H else Aq G C r ρ H Q E) E:=rfl
theorem Jk{op l r}:Aq G C (.bin op l r) ρ H Q E=Aq G C l ρ H (fun a H=>Aq G C r ρ H (fun b H=>Dn op a b H Q) E) E:=rfl
theorem Jl{op l r}:Aq G C (.cmp op l r) ρ H Q E=Aq G C l ρ H (fun a H=>Aq G C r ρ H (fun b H=>Ba op a b H Q) E) E:=rfl
theorem Jm{l o1 m o2 r}:Aq G C (.chain l o1 m o2 r) ρ H Q E=Aq G C l ρ H (fun a H=>Aq G C m ρ H (fun b H=>Ba o1 a b H fun c H=>truthy c fun t=>
 if t then Aq G C r ρ H (fun d H=>Ba o2 b d H Q) E else Q (.bool false) H) E) E:=rfl
theorem Jn{f as}:Aq G C (.call f as) ρ H Q E=((G.fn f).isSome=true/\Co G C as ρ H (fun vs H=>C f vs H Q E) E):=rfl
theorem Jo{b as}:Aq G C (.bi b as) ρ H Q E=Co G C as ρ H (fun vs H=>Cj b vs H Q) E:=rfl
theorem Bx{m o as}:Aq G C (.lm m o as) ρ H Q E=Aq G C o ρ H (fun v H=>F0 m v H/\Co G C as ρ H (fun vs H=>Ew m v vs H Q) E) E:=rfl
theorem Jp{o a}:Aq G C (.attr o a) ρ H Q E=Aq G C o ρ H (fun v H=>getAttr v a H Q) E:=rfl
theorem Jq{o i}:Aq G C (.sub o i) ρ H Q E=Aq G C o ρ H (fun a H=>Aq G C i ρ H (fun b H=>D4 a b H Q) E) E:=rfl
theorem Jr{o l u s}:Aq G C (.slice o l u s) ρ H Q E=Aq G C o ρ H (fun a H=>Aq G C l ρ H (fun x H=>Aq G C u ρ H (fun y H=>Aq G C s ρ H (fun z H=>Ce a x y z H Q) E) E) E) E:=rfl
theorem Js{es}:Aq G C (.list es) ρ H Q E=Co G C es ρ H (fun vs H=>Ao (.list vs) H Q) E:=rfl
theorem Jt{es}:Aq G C (.tuple es) ρ H Q E=Co G C es ρ H (fun vs H=>Ao (.tuple vs) H Q) E:=rfl
theorem Acz:Aq G C (.dict [] []) ρ H Q E=Ao (.dict []) H Q:=rfl
theorem Da{a:Nat}{P:Nat->Prop}:Ax (.ref a) P=P a:=rfl
theorem Db{d:Nat}{P:Nat->Prop}:Wr (some (.inst .web d)) P=P d:=rfl
theorem Fe{fs:List (C9×V)}{P:List (C9×V)->Prop}:Td (some (.ns fs)) P=P fs:=rfl
theorem Av{m o as}:Aq G C (.meth m o as) ρ H Q E=Aq G C o ρ H (fun v H=>Ax v fun a=>Wr (H a) fun d=>Td (H d) fun _=>(G.fn m).isSome=true/\Co G C as ρ H (fun vs H=>C m (.ref a::vs) H Q E) E) E:=rfl
theorem Dc{c as}:Aq G C (.mk c as) ρ H Q E=((G.fn (Ds c)).isSome=true/\Co G C as ρ H (fun vs H=>∀a d,H a=none->H d=none->a≠d->
 C (Ds c) (.ref a::vs) (upd (upd H d (.ns [])) a (.inst c d)) (fun r H'=>r = .none/\Q (.ref a) H') E) E):=rfl
theorem Bc{k s e}:Aq G C (.comp k s e) ρ H Q E=Dq G C s ρ H (fun its g H=>its.length<=Bs/\
 Bm g (Cy k) (fun ρ H K=>Aq G C e ρ H (fun v H=>K (some v) H) EF) (fun vs H=>Ao (.list vs) H Q) its [] (List.replicate k none++ρ) H) E:=rfl
theorem Ar{k s c e}:Aq G C (.compIf k s c e) ρ H Q E=Dq G C s ρ H (fun its g H=>its.length<=Bs/\
 Bm g (Cy k) (fun ρ H K=>Aq G C c ρ H (fun c H=>truthy c fun b=>if b then Aq G C e ρ H (fun v H=>K (some v) H) EF else K none H) EF)
  (fun vs H=>Ao (.list vs) H Q) its [] (List.replicate k none++ρ) H) E:=rfl
theorem Ju{Q:List V->AH->Prop}:Co G C [] ρ H Q E=Q [] H:=rfl
theorem Jv{e r}{Q:List V->AH->Prop}:Co G C (e::r) ρ H Q E=Aq G C e ρ H (fun v H=>Co G C r ρ H (fun vs H=>Q (v::vs) H) E) E:=rfl
theorem Od{as}{K:List It->(AH->Prop)->AH->Prop}:Dq G C (.range as) ρ H K E=Co G C as ρ H (fun vs H=>Ej vs H K) E:=rfl
theorem Sb{e}{K:List It->(AH->Prop)->AH->Prop}:Dq G C (.enum e) ρ H K E=Aq G C e ρ H (fun v H=>Mv v H K) E:=rfl
theorem Wv{e}{K:List It->(AH->Prop)->AH->Prop}:Dq G C (.rev e) ρ H K E=Aq G C e ρ H (fun v H=>Qy v H K) E:=rfl
theorem Ww{e}{K:List It->(AH->Prop)->AH->Prop}:Dq G C (.val e) ρ H K E=Aq G C e ρ H (fun v H=>Gc v H K) E:=rfl
theorem Jw{i e}:Gv G C (.assign i e) ρ H N R E=Aq G C e ρ H (fun v H=>N (ρ.set i (some v)) H) E:=rfl
theorem Bz{o a e}:Gv G C (.setattr o a e) ρ H N R E=Aq G C e ρ H (fun v H=>Aq G C o ρ H (fun ov H=>setAttr ov a v H fun H=>N ρ H) E) E:=rfl
theorem Bl{o i e}:Gv G C (.setitem o i e) ρ H N R E=Aq G C e ρ H (fun v H=>Aq G C o ρ H (fun ov H=>Aq G C i ρ H (fun iv H=>setItem ov iv v H fun H=>N ρ H) E) E) E:=rfl
theorem Jx{e}:Gv G C (.expr e) ρ H N R E=Aq G C e ρ H (fun _ H=>N ρ H) E:=rfl
theorem Ja{t a b}:Gv G C (.ite t a b) ρ H N R E=Aq G C t ρ H (fun v H=>truthy v fun c=>if c then A1 G C a ρ H N R E else A1 G C b ρ H N R E) E:=rfl
theorem Jy{e}:Gv G C (.ret e) ρ H N R E=Aq G C e ρ H R E:=rfl
theorem Jz:Gv G C .pass ρ H N R E=N ρ H:=rfl
theorem Kb{t s b}:Gv G C (.for t s b) ρ H N R E=Dq G C s ρ H (fun its g H=>loop g t (fun ρ H K=>A1 G C b ρ H K R E) N its ρ H) E:=rfl
theorem Dz{t b}:Gv G C (.while t b) ρ H N R E = ∃I:Nat->Al->AH->Prop,(∃n,I n ρ H)/\∀n ρ H,I n ρ H->
 Aq G C t ρ H (fun v H=>truthy v fun c=>if c then A1 G C b ρ H (fun ρ H=>∃m,m<n/\I m ρ H) R E else N ρ H) E:=rfl
theorem J0:A1 G C [] ρ H N R E=N ρ H:=rfl
theorem J1{s r}:A1 G C (s::r) ρ H N R E=Gv G C s ρ H (fun ρ H=>A1 G C r ρ H N R E) R E:=rfl
theorem A3{g}:Aq G C (.glob g) ρ H Q E=(match G.const g with|some v=>Q v H|none=>False):=rfl
theorem Bb{ks vs}:Aq G C (.dict ks vs) ρ H Q E=Co G C ks ρ H (fun as H=>Co G C vs ρ H (fun bs H=>match as,bs with
 | [],[]=>Ao (.dict []) H Q
 | [.int k],[v]=>Ao (.dict [(k,v)]) H Q
 | _,_=>False) E) E:=rfl
theorem Cp{c}:Gv G C (.raise c) ρ H N R E=(G.exc c=true/\∀a,H a=none->E (.ref a) (upd H a (.exc c))):=rfl
theorem Vb{b c as h}:Gv G C (.try1 b c as h) ρ H N R E=(G.exc c=true/\A1 G C b ρ H N R fun e H=>match Dp c e H with
 | some true=>A1 G C h (Zz as (some e) ρ) H (fun ρ H=>N (Xx as ρ) H) R EF
 | _=>False):=rfl
theorem Tf{c}:Gv G C (.raiseO c) ρ H N R E=(G.exc c=true/\∀a,H a=none->E (.ref a) (upd H a (.exc c false))):=rfl
theorem Z0{b c h}:Gv G C (.tryO b c h) ρ H N R E=(G.exc c=true/\A1 G C b ρ H N R fun e H=>Ax e fun a=>H a=some (.exc c true)/\A1 G C h ρ (Tb H a) N R EF):=rfl
theorem Z1{b c as h c' h'}:Gv G C (.try2 b c as h c' h') ρ H N R E=(G.exc c=true/\G.exc c'=true/\A1 G C b ρ H N R fun e H=>match Dp c e H with
 | some true=>A1 G C h (Zz as (some e) ρ) H (fun ρ H=>N (Xx as ρ) H) R EF
 | some false=>(match Dp c' e H with
   | some true=>A1 G C h' ρ H N R EF
   | _=>False)
 | none=>False):=rfl
theorem Z2{e}:Aq G C (.isVE e) ρ H Q E=Aq G C e ρ H (fun v H=>match Dp .webError v H with|some true=>Q (.bool true) H|_=>False) E:=rfl
theorem Sc{c e}:Aq G C (.isown c e) ρ H Q E=(G.exc c=true/\Aq G C e ρ H (fun v H=>match Dp c v H with|some r=>Q (.bool r) H|none=>False) E):=rfl
end
end Mine.Internal
namespace Mine.Internal
section
theorem Afy{p a:Nat}:min p a+(a-p)=a:=by omega
theorem qtn{x:Int}:x.toNat<=(x+1).toNat:=Int.toNat_le_toNat (Int.le_add_of_nonneg_right (by decide))
theorem qn{n a:Nat}(h:n<a):min n a+(a-(n+1))+1=a:=by omega
theorem qa2{x:Int}:1+(x-2)<=x:=by omega
variable {a b c d e f g i j k l m n:Nat} {x y z u v w r s t:Int}
theorem Q5:a+(b+1)=a+1+b:=Nat.add_right_comm a b 1
theorem Q6:a+1+b+1=a+(b+1)+1:=congrArg (·+1) (Nat.add_right_comm a 1 b)
theorem Q7(h0:c=0+b)(h1:a≥c)(h2:a-c=0):a=b:=(Nat.le_antisymm (Nat.sub_eq_zero_iff_le.mp h2) h1).trans (h0.trans (Nat.zero_add b))
theorem Q10(h0:0<=x)(h1:x<(a:Int)):x.toNat<a:=(Int.toNat_lt h0).mpr h1
theorem Q15(h0:0<=x):(x.toNat:Int)=x:=Int.toNat_of_nonneg h0
theorem Q19:9+x/72%12<=60:=by lia -abstractProof
theorem Q23(h0:y-z<x)(h1:z-y<x):0<=x:=by lia -abstractProof
theorem Q24(h0:y-z<u)(h1:z-y=u*x)(h2:u*x<=u * -1):x=0:=by lia -abstractProof
theorem Q26(h0:y-z<u)(h1:y-z=u*x)(h2:u*1<=u*x):x=0:=by lia -abstractProof
theorem Q28(h0:0<=y)(h1:z<u):x/2-y-(x/2-z)<u:=by lia -abstractProof
theorem Q29(h0:z<u)(h1:0<=y):x/2-y-(x/2-z)<u:=by lia -abstractProof
theorem Q30(h0:z/2-x=z/2-y):x=y:=by lia -abstractProof
theorem Q31(h0:y<u)(h1:0<=z):x/2+y-(x/2+z)<u:=by lia -abstractProof
theorem Zq(h0:a<=60):a<=1048576:=Nat.le_trans h0 (by decide)
theorem Q36(h0:0<=x):max 0 ((a:Int)-x)+(((a:Int)-max 0 ((a:Int)-x)).toNat:Int)<=(a:Int):=Int.le_of_eq ((congrArg (max 0 ((a:Int)-x) + ·) (Int.toNat_of_nonneg (Int.sub_nonneg_of_le (Int.max_le.mpr ⟨Int.natCast_nonneg _,Int.sub_le_self _ h0⟩)))).trans ((Int.add_comm _ _).trans (Int.sub_add_cancel _ _)))
theorem Q45:x%4=0\/x%4=1\/x%4=2\/x%4=3:=by lia -abstractProof
theorem Q55(h0:b<=60)(h1:a=c)(h2:c<b):a<1048576:=Nat.lt_of_le_of_lt (Nat.le_of_eq h1) (Nat.lt_of_lt_of_le h2 (Nat.le_trans h0 (by decide)))
theorem Q57(h0:x=0\/4<=x)(h1:(a:Int)=x-1):2<=a:=by lia -abstractProof
theorem Q62(h0:a=b)(h1:0<=x)(h2:x<(b:Int)):x.toNat<a:=Nat.lt_of_lt_of_eq ((Int.toNat_lt h1).mpr h2) h0.symm
theorem Q75(h0:4+z%5=x)(h1:x+z/5%4=y):x<=y/\y<100:=by subst h0;lia -abstractProof
theorem Q81(h0:a<b):(a:Int)<(b:Int):=Int.ofNat_lt.mpr h0
theorem Q82(h0:4<=x)(h1:(a:Int)%y=x-1)(h2:(a:Int)%y<=(a:Int)):2<=a:=by lia -abstractProof
theorem Q83(h0:4<=x)(h1:(a:Int)%y=x-1)(h2:(a:Int)%y<=(a:Int)):(x<=(a:Int)+1/\(a:Int)+1-x<(a:Int))/\1<=(a:Int)/\(a:Int)-1<(a:Int):=⟨⟨by lia -abstractProof,by lia -abstractProof⟩,by lia -abstractProof,Int.sub_lt_self _ (by decide)⟩
theorem Q86(h0:0<=x):¬x<0:=Int.not_lt_of_ge h0
theorem Q89(h0:b<a):0<(a:Int):=Int.ofNat_lt.mpr (Nat.zero_lt_of_lt h0)
theorem Q90(h0:a<=60):(a:Int)<=60:=Int.ofNat_le.mpr h0
theorem Aj0(h0:c<=3600)(h1:b<=3)(h2:c=a):a+b+(min 4 a-1)+(min 1 a+min 1 a)<=4000:=by subst h2;exact Nat.le_trans (Nat.add_le_add (Nat.add_le_add (Nat.add_le_add h0 h1) (Nat.le_trans (Nat.sub_le _ _) (Nat.min_le_left _ _))) (Nat.add_le_add (Nat.min_le_left _ _) (Nat.min_le_left _ _))) (by decide)
theorem Xy(h0:x<(a:Int))(h1:0<=y)(h2:y<(a:Int)):x.toNat<a:=by lia -abstractProof
theorem Xz(h0:b<=60)(h1:a<=b):a<1048576:=Nat.lt_of_le_of_lt (Nat.le_trans h1 h0) (by decide)
theorem X0(h0:x<(a:Int))(h1:(x.toNat:Int)=x):x.toNat<a:=Int.ofNat_lt.mp (Int.lt_of_le_of_lt (Int.le_of_eq h1) h0)
theorem Aib(h0:y≠x)(h1:(y.toNat:Int)=y)(h2:(x.toNat:Int)=x):¬x.toNat=y.toNat:=fun q=>h0 (h1.symm.trans ((congrArg Int.ofNat q.symm).trans h2))
theorem Aic(h0:¬a=y.toNat)(h1:a=x.toNat):¬x.toNat=y.toNat:=fun q=>h0 (h1.trans q)
theorem Ac0(h0:¬a=x.toNat)(h1:(a:Int)=x):False:=by subst h1;exact h0 rfl
theorem Af2(h0:b<=60)(h1:a<=b):a<64:=Nat.lt_of_le_of_lt (Nat.le_trans h1 h0) (by decide)
theorem Ac1:0<=(a:Int)+1:=Int.natCast_nonneg _
theorem Ac2:((a:Int)+1).toNat=a+1:=Nat.succ_sub_one _
theorem Aj1(h0:b=a)(h1:0<b):a=a-1+1:=by subst h0;exact(Nat.sub_add_cancel h1).symm
theorem Aj2(h0:a=c-1)(h1:c=b+1):a=b:=by subst h1;exact h0
theorem Aj3(h0:a+c<=60)(h1:b=c-1)(h2:c=d+1):a+1+b<=60:=by subst h1;lia -abstractProof
theorem Aid(h0:a<=60):a<=1048576+(b+1):=Nat.le_trans h0 (Nat.le_trans (by decide) (Nat.le_add_right 1048576 _))
theorem Aj4(h0:0<=x)(h1:x<(y.toNat:Int)):x<y:=by lia -abstractProof
theorem Aj5(h0:x+1<=(a:Int)):((a:Int)+1-(x+1)).toNat<((a:Int)+1-x).toNat:=by lia -abstractProof
theorem Aj6(h0:¬a<b):¬(a:Int)<(b:Int):=fun q=>h0 (Int.ofNat_lt.mp q)
theorem Aie(h0:0<a):0<= -1+(a:Int):=by lia -abstractProof
theorem Aif:(-1+(a:Int)).toNat=a-1:=(congrArg Int.toNat (Int.add_comm _ _)).trans (Int.toNat_sub a 1)
theorem Aj7(h0:b=0+a):a-b=0:=by subst h0;exact Nat.sub_eq_zero_of_le (Nat.le_of_eq (Nat.zero_add a).symm)
theorem Af3(h0:b<=60)(h1:a=b):a<64:=Nat.lt_of_le_of_lt (Nat.le_trans (Nat.le_of_eq h1) h0) (by decide)
theorem Aig(h0:b=c)(h1:a<c):a<b:=Nat.lt_of_lt_of_eq h1 h0.symm
theorem Aj8(h0:x.natAbs<2 ^ 64):-2 ^ 64<x:=by omega
theorem Aj9(h0:x.natAbs<2 ^ 64):x<2 ^ 64:=by omega
theorem Ac3(h0:¬0<=x):x<0:=Int.not_le.mp h0
theorem Ac4(h0:0<=x+(a:Int)):-(a:Int)<=x:=by lia -abstractProof
theorem Aka(h0:¬0<=x)(h1:0<=x+(a:Int)):(x+(a:Int)).toNat<a:=by lia -abstractProof
theorem Akb(h0:(b:Int)<2 ^ 63)(h1:a<c)(h2:c=b):(a:Int)<2 ^ 63-1:=by omega
theorem Aih(h0:b<100)(h1:a=b):a<=1048576:=Nat.le_trans (Nat.le_of_eq h1) (Nat.le_trans (Nat.le_of_lt h0) (by decide))
theorem Aii(h0:b<100)(h1:a=b):a<=2 ^ 24:=Nat.le_trans (Nat.le_of_eq h1) (Nat.le_trans (Nat.le_of_lt h0) (by decide))
theorem Akc:x+((a+1:Nat):Int)=x+(a:Int)+1:=by lia -abstractProof
theorem Akd:(a:Int)-((b+1:Nat):Int)=(a:Int)-(b:Int)-1:=by lia -abstractProof
theorem Ake(h0:b<a):((a-1-b:Nat):Int)-1=(a:Int)-1-((b+1:Nat):Int):=by lia -abstractProof
theorem Akf:(a:Int)-1-(a:Int) = -1:=by lia -abstractProof
theorem Af4(h0:b<a):a-(b+1)+1<a-b+1:=Nat.succ_lt_succ (Nat.sub_lt_sub_left h0 (Nat.lt_succ_self b))
theorem Aij(h0:a=c):a<=b+c:=Nat.le_trans (Nat.le_of_eq h0) (Nat.le_add_left _ _)
theorem Aik(h0:c=b):a+b-c=a:=by subst h0;lia -abstractProof
theorem Akg(h0:a=1):0<a:=by subst h0;decide
theorem Akh(h0:a=2):0<a:=by subst h0;decide
theorem Aki(h0:a=2):1<a:=by subst h0;decide
theorem Akj(h0:0<=x):-(a:Int)<=x:=by lia -abstractProof
theorem Akk(h0:¬0<=x):x<(a:Int):=by lia -abstractProof
theorem Akl(h0:61<=y)(h1:b=a)(h2:b<=60)(h3:x = -1\/x=(b:Int)\/x=y\/x = -y):x<0\/(a:Int)<=x:=h3.elim (fun h=> .inl (h▸by decide)) fun h=>h.elim (fun h=> .inr (h1▸Int.le_of_eq h.symm)) fun h=>h.elim (fun h=> .inr (Int.le_trans (Int.ofNat_le.mpr (Nat.le_trans (Nat.le_of_eq h1.symm) h2)) (Int.le_trans (by decide) (h▸h0)))) fun h=> .inl (h▸Int.neg_neg_of_pos (Int.lt_of_lt_of_le (by decide) h0))
theorem Akm(h0:x<0\/(a:Int)<=x)(h1:0<=x)(h2:x<(a:Int)):False:=h0.elim (fun h=>Int.not_le_of_gt h h1) fun h=>Int.not_lt_of_ge h h2
theorem Akn(h0:a=b)(h1:0<=x)(h2:x<(a:Int)):min x.toNat a+(a-(x+1).toNat)+1=b:=by obtain⟨n,rfl⟩:=Int.eq_ofNat_of_zero_le h1;exact h0▸qn (Int.ofNat_lt.mp h2)
theorem Ako(h0:¬(0<=x/\x<(a:Int)))(h1:0<=x):(a:Int)<=x:=Int.not_lt.mp fun h=>h0 ⟨h1,h⟩
theorem Akp(h0:x<0\/(a:Int)<=x):¬(0<=x/\x<(a:Int)):=fun h=>h0.elim (fun q=>Int.not_le_of_gt q h.1) fun q=>Int.not_lt_of_ge q h.2
theorem Ail(h0:b<=60)(h1:c=b)(h2:a<=c-1):a<=4000:=Nat.le_trans (Nat.le_trans h2 (Nat.le_trans (Nat.sub_le _ _) (Nat.le_trans (Nat.le_of_eq h1) h0))) (by decide)
theorem Af5(h0:b<=60)(h1:a=b):a<=61:=Nat.le_trans (Nat.le_of_eq h1) (Nat.le_trans h0 (by decide))
theorem Akq(h0:0<=x)(h1:x<(a:Int))(h2:0=a):False:=Int.not_lt_of_ge h0 (by cases h2;exact h1)
theorem Aim(h0:b<a):0<=(a:Int)-1-(b:Int)/\(a:Int)-1-(b:Int)<(a:Int):=⟨Int.sub_nonneg_of_le (Int.le_sub_one_of_lt (Int.ofNat_lt.mpr h0)),Int.lt_of_le_of_lt (Int.sub_le_self _ (Int.natCast_nonneg _)) (Int.sub_lt_self _ (by decide))⟩
theorem Akr(h0:a<=60)(h1:61<=y)(h2:x = -1\/x=(a:Int)\/x=y\/x = -y):x<0\/(a:Int)<=x:=h2.elim (fun h=> .inl (h▸by decide)) fun h=>h.elim (fun h=> .inr (Int.le_of_eq h.symm)) fun h=>h.elim (fun h=> .inr (Int.le_trans (Int.ofNat_le.mpr h0) (Int.le_trans (by decide) (h▸h1)))) fun h=> .inl (h▸Int.neg_neg_of_pos (Int.lt_of_lt_of_le (by decide) h1))
theorem Aks(h0:¬(a:Int)=0):0<(a:Int):=by lia -abstractProof
end
end Mine.Internal
namespace Mine.Internal
section
open PySem PySem.W PyProof.Rows
variable {a b c d e f g i j k l m n:Nat} {x y z u v w r s t:Int}
theorem Ain(h0:a+30*b+60<cLine):a+5<cLine:=Nat.lt_of_le_of_lt (Nat.add_le_add (Nat.le_add_right a _) (by decide:5<=60)) h0
theorem Akt(h0:a<=Bs)(h1:(Bs:Int)<2 ^ 63)(h2:0<=x+(a:Int)):-2 ^ 63<=x:=by lia -abstractProof
theorem Af6(h0:a+4*b+4<recursionLimit):a+4*b+2<recursionLimit:=Nat.lt_of_le_of_lt (Nat.add_le_add_left (by decide:2<=4) _) h0
theorem Af7(h0:a+30*b+60<cLine):a+30*b+40<cLine:=Nat.lt_of_le_of_lt (Nat.add_le_add_left (by decide:40<=60) _) h0
theorem Aku(h0:a+4*b+4<recursionLimit):a+1+4*b+2<recursionLimit:=by lia -abstractProof
theorem Akv(h0:a+30*b+60<cLine):a+1+30*b+40<cLine:=by lia -abstractProof
theorem Aio(h0:Bs=1048576)(h1:x<=(Bs:Int)):x<2 ^ 62:=by lia -abstractProof
theorem Akw(h0:Bs=1048576)(h1:-(Bs:Int)<=x):-2 ^ 62<=x:=by lia -abstractProof
theorem Akx(h0:a+4*(b+1)+2<recursionLimit):a+1+4*b+4<recursionLimit:=by lia -abstractProof
theorem Aky(h0:a+30*(b+1)+40<cLine):a+3+30*b+60<cLine:=by lia -abstractProof
theorem Akz(h0:(Bs:Int)<2 ^ 63)(h1:a<=Bs)(h2:x<(a:Int)):x<2 ^ 63:=by lia -abstractProof
theorem Ak0(h0:(Bs:Int)<2 ^ 63)(h1:a<=Bs)(h2:0<=x+(a:Int)):-2 ^ 63<=x:=by lia -abstractProof
theorem Ak1(h0:a<=Bs)(h1:(Bs:Int)<2 ^ 63)(h2:-(a:Int)<=x):-2 ^ 63<=x:=by lia -abstractProof
end
end Mine.Internal
namespace Mine.Internal
open PySem
variable {G:A5} {n:Nat} {H:AH} {Q:Ak} {E:EP} {C:CS} {ρ:Al} {N:Al->AH->Prop} {R:Ak}
theorem Af8{i}(kk:Q (.int i) H):Aq G C (.cint i) ρ H Q E:=kk
theorem Vc{i}(kk:(match ρ[i]? with|some (some v)=>Q v H|_=>False)):Aq G C (.var i) ρ H Q E:=kk
theorem Vd{l r}(kk:Aq G C l ρ H (fun v H=>truthy v fun b=>if b then Aq G C r ρ H Q E else Q (.bool false) H) E):Aq G C (.and l r) ρ H Q E:=kk
theorem Aip{l r}(kk:Aq G C l ρ H (fun v H=>truthy v fun b=>if b then Q (.bool true) H else Aq G C r ρ H Q E) E):Aq G C (.or l r) ρ H Q E:=kk
theorem Z3{op l r}(kk:Aq G C l ρ H (fun a H=>Aq G C r ρ H (fun b H=>Ba op a b H Q) E) E):Aq G C (.cmp op l r) ρ H Q E:=kk
theorem Sd{f as}(kk:((G.fn f).isSome=true/\Co G C as ρ H (fun vs H=>C f vs H Q E) E)):Aq G C (.call f as) ρ H Q E:=kk
theorem Aff{m o as}(kk:Aq G C o ρ H (fun v H=>F0 m v H/\Co G C as ρ H (fun vs H=>Ew m v vs H Q) E) E):Aq G C (.lm m o as) ρ H Q E:=kk
theorem Tg(kk:Ao (.dict []) H Q):Aq G C (.dict [] []) ρ H Q E:=kk
theorem Z4{c as}(kk:((G.fn (Ds c)).isSome=true/\Co G C as ρ H (fun vs H=>∀a d,H a=none->H d=none->a≠d->
 C (Ds c) (.ref a::vs) (upd (upd H d (.ns [])) a (.inst c d)) (fun r H'=>r = .none/\Q (.ref a) H') E) E)):Aq G C (.mk c as) ρ H Q E:=kk
theorem Ou{e r}{Q:List V->AH->Prop}(kk:Aq G C e ρ H (fun v H=>Co G C r ρ H (fun vs H=>Q (v::vs) H) E) E):Co G C (e::r) ρ H Q E:=kk
theorem Ac5{e}{K:List It->(AH->Prop)->AH->Prop}(kk:Aq G C e ρ H (fun v H=>Mv v H K) E):Dq G C (.enum e) ρ H K E:=kk
theorem Af9{e}{K:List It->(AH->Prop)->AH->Prop}(kk:Aq G C e ρ H (fun v H=>Qy v H K) E):Dq G C (.rev e) ρ H K E:=kk
theorem C6{i e}(kk:Aq G C e ρ H (fun v H=>N (ρ.set i (some v)) H) E):Gv G C (.assign i e) ρ H N R E:=kk
theorem Kv{o i e}(kk:Aq G C e ρ H (fun v H=>Aq G C o ρ H (fun ov H=>Aq G C i ρ H (fun iv H=>setItem ov iv v H fun H=>N ρ H) E) E) E):Gv G C (.setitem o i e) ρ H N R E:=kk
theorem Wx{e}(kk:Aq G C e ρ H (fun _ H=>N ρ H) E):Gv G C (.expr e) ρ H N R E:=kk
theorem Bi{t a b}(kk:Aq G C t ρ H (fun v H=>truthy v fun c=>if c then A1 G C a ρ H N R E else A1 G C b ρ H N R E) E):Gv G C (.ite t a b) ρ H N R E:=kk
theorem Se{e}(kk:Aq G C e ρ H R E):Gv G C (.ret e) ρ H N R E:=kk
theorem Z5{t s b}(kk:Dq G C s ρ H (fun its g H=>loop g t (fun ρ H K=>A1 G C b ρ H K R E) N its ρ H) E):Gv G C (.for t s b) ρ H N R E:=kk
theorem Lh{t b}(kk:∃I:Nat->Al->AH->Prop,(∃n,I n ρ H)/\∀n ρ H,I n ρ H->
 Aq G C t ρ H (fun v H=>truthy v fun c=>if c then A1 G C b ρ H (fun ρ H=>∃m,m<n/\I m ρ H) R E else N ρ H) E):Gv G C (.while t b) ρ H N R E:=kk
theorem Dd(kk:N ρ H):A1 G C [] ρ H N R E:=kk
theorem Ab{s r}(kk:Gv G C s ρ H (fun ρ H=>A1 G C r ρ H N R E) R E):A1 G C (s::r) ρ H N R E:=kk
theorem Qz{t e b}(kk:Aq G C e ρ H (fun v H=>Gc v H fun its g H=>loop g t (fun ρ H K=>A1 G C b ρ H K R E) N its ρ H) E):Gv G C (.for t (.val e) b) ρ H N R E:=kk
theorem frK{t as b}(kk:Co G C as ρ H (fun vs H=>Ej vs H fun its g H=>loop g t (fun ρ H K=>A1 G C b ρ H K R E) N its ρ H) E):Gv G C (.for t (.range as) b) ρ H N R E:=kk
theorem gvK{k s e}(kk:Aq G C s ρ H (fun v H=>Gc v H fun its g H=>its.length<=Bs/\Bm g (Cy k) (fun ρ H K=>Aq G C e ρ H (fun v H=>K (some v) H) EF) (fun vs H=>Ao (.list vs) H Q) its [] (List.replicate k none++ρ) H) E):Aq G C (.comp k (.val s) e) ρ H Q E:=kk
theorem grK{k as e}(kk:Co G C as ρ H (fun vs H=>Ej vs H fun its g H=>its.length<=Bs/\Bm g (Cy k) (fun ρ H K=>Aq G C e ρ H (fun v H=>K (some v) H) EF) (fun vs H=>Ao (.list vs) H Q) its [] (List.replicate k none++ρ) H) E):Aq G C (.comp k (.range as) e) ρ H Q E:=kk
theorem hvK{k s c e}(kk:Aq G C s ρ H (fun v H=>Gc v H fun its g H=>its.length<=Bs/\Bm g (Cy k) (fun ρ H K=>Aq G C c ρ H (fun c H=>truthy c fun b=>if b then Aq G C e ρ H (fun v H=>K (some v) H) EF else K none H) EF) (fun vs H=>Ao (.list vs) H Q) its [] (List.replicate k none++ρ) H) E):Aq G C (.compIf k (.val s) c e) ρ H Q E:=kk
theorem hrK{k as c e}(kk:Co G C as ρ H (fun vs H=>Ej vs H fun its g H=>its.length<=Bs/\Bm g (Cy k) (fun ρ H K=>Aq G C c ρ H (fun c H=>truthy c fun b=>if b then Aq G C e ρ H (fun v H=>K (some v) H) EF else K none H) EF) (fun vs H=>Ao (.list vs) H Q) its [] (List.replicate k none++ρ) H) E):Aq G C (.compIf k (.range as) c e) ρ H Q E:=kk
end Mine.Internal
namespace Mine.Internal
open PySem
noncomputable def Li:Fn:=⟨3,3,[.setattr (.var 0) .many (.var 1),.setattr (.var 0) .rows (.var 2)]⟩
noncomputable def Kw:Fn:=⟨2,2,[.ite (.not (.chain (.cint 0) .LtE (.var 1) .Lt (.attr (.var 0) .many))) [.raise .noPoint] []]⟩
noncomputable def Eb:Fn:=⟨2,2,[.expr (.meth "Web.need" (.var 0) [(.var 1)]),.ret (.bi .list [(.sub (.attr (.var 0) .rows) (.var 1))])]⟩
noncomputable def Ov:Fn:=⟨3,3,[.expr (.meth "Web.need" (.var 0) [(.var 1)]),.expr (.meth "Web.need" (.var 0) [(.var 2)]),.ret (.cmp .In (.var 2) (.sub (.attr (.var 0) .rows) (.var 1)))]⟩
noncomputable def P9:List S:=[.ite (.cmp .Lt (.var 2) (.var 3)) [.expr (.lm .append (.var 1) [(.tuple [(.var 2),(.var 3)])])] []]
noncomputable def Qa:List S:=[.for (.one 3) (.val (.sub (.attr (.var 0) .rows) (.var 2))) P9]
noncomputable def Ve:Fn:=⟨4,1,[.assign 1 (.list []),.for (.one 2) (.range [(.attr (.var 0) .many)]) Qa,.ret (.var 1)]⟩
noncomputable def Na:List S:=[.ite (.or (.not (.chain (.cint 0) .LtE (.var 2) .Lt (.var 0))) (.or (.not (.chain (.cint 0) .LtE (.var 3) .Lt (.var 0))) (.cmp .Eq (.var 2) (.var 3)))) [.raise .badWeb] []]
noncomputable def Nb:X:=(.dict [] [])
noncomputable def Nc:List S:=[.setitem (.sub (.var 4) (.var 2)) (.var 3) (.cbool true),.setitem (.sub (.var 4) (.var 3)) (.var 2) (.cbool true)]
noncomputable def Nd:X:=(.bi .sorted [(.var 0)])
noncomputable def Th:Fn:=⟨5,2,[.ite (.not (.chain (.cint 0) .LtE (.var 0) .LtE (.glob "MOST"))) [.raise .badWeb] [],.for (.two 2 3) (.val (.var 1)) Na,.assign 4 (.comp 1 (.range [(.var 0)]) Nb),.for (.two 2 3) (.val (.var 1)) Nc,.ret (.mk .web [(.var 0),(.comp 1 (.val (.var 4)) Nd)])]⟩
noncomputable def B7:Fn:=⟨2,2,[.ite (.cmp .Lt (.var 1) (.bi .len [(.var 0)])) [.ret (.sub (.var 0) (.var 1))] [],.ret (.cint 0)]⟩
noncomputable def Ff:Fn:=⟨1,1,[.ret (.and (.bi (.isinst .int) [(.var 0)]) (.not (.bi (.isinst .bool) [(.var 0)])))]⟩
noncomputable def Gd:List S:=[.ite (.or (.not (.call "_law_whole" [(.sub (.var 0) (.var 2))])) (.cmp .NotEq (.sub (.var 0) (.var 2)) (.sub (.var 1) (.var 2)))) [.ret (.cbool false)] []]
noncomputable def F3:Fn:=⟨3,2,[.ite (.or (.not (.bi (.isinst .list) [(.var 0)])) (.cmp .NotEq (.bi .len [(.var 0)]) (.bi .len [(.var 1)]))) [.ret (.cbool false)] [],.for (.one 2) (.range [(.bi .len [(.var 1)])]) Gd,.ret (.cbool true)]⟩
noncomputable def D5:Fn:=⟨2,2,[.ret (.bin .Mod (.bin .Mult (.bin .Add (.var 0) (.bin .Mult (.cint 101) (.var 1))) (.cint 48271)) (.cint 1000003))]⟩
noncomputable def Ge:List S:=[.ite (.and (.cmp .Gt (.bin .Mod (.var 8) (.cint 3)) (.cint 0)) (.or (.cmp .GtE (.var 7) (.var 2)) (.cmp .Lt (.bi .len [(.var 6)]) (.cint 2)))) [.expr (.lm .append (.var 6) [(.var 9)])] [],.assign 8 (.bin .FloorDiv (.var 8) (.cint 3))]
noncomputable def Gf:List S:=[.assign 5 (.call "_law_mixed" [(.call "_law_cell_at" [(.var 0),(.bin .Add (.cint 3) (.var 4))]),(.var 4)]),.assign 6 (.list []),.ite (.chain (.cint 0) .Lt (.var 4) .Lt (.var 2)) [.assign 6 (.list [(.bin .Sub (.var 4) (.cint 1))]),.ite (.cmp .Eq (.var 4) (.bin .Sub (.var 2) (.cint 1))) [.assign 6 (.list [(.cint 0),(.bin .Sub (.var 4) (.cint 1))])] []] [.ite (.and (.cmp .Gt (.var 4) (.cint 0)) (.cmp .NotEq (.bin .Mod (.var 5) (.cint 9)) (.cint 8))) [.assign 7 (.bin .Mod (.bin .FloorDiv (.var 5) (.cint 9)) (.var 4)),.assign 6 (.list [(.var 7)]),.assign 8 (.bin .FloorDiv (.bin .FloorDiv (.var 5) (.cint 9)) (.var 4)),.for (.one 9) (.val (.sub (.var 3) (.var 7))) Ge] []],.expr (.lm .append (.var 3) [(.var 6)])]
noncomputable def F4:Fn:=⟨10,3,[.assign 3 (.list []),.for (.one 4) (.range [(.var 1)]) Gf,.ret (.var 3)]⟩
noncomputable def Fg:X:=(.call "_law_mixed" [(.call "_law_cell_at" [(.var 1),(.bin .Add (.cint 3) (.bin .Mod (.bin .Add (.bin .Mult (.cint 7) (.var 6)) (.bin .Mult (.cint 13) (.var 0))) (.cint 60)))]),(.bin .Add (.bin .Mult (.cint 60) (.var 6)) (.var 0))])
noncomputable def Fh:X:=(.cmp .Lt (.bin .Mod (.sub (.var 7) (.var 0)) (.var 4)) (.var 3))
noncomputable def De:List S:=[.assign 6 (.comp 1 (.range [(.var 5)]) Fg),.expr (.lm .append (.var 4) [(.compIf 1 (.range [(.var 5)]) Fh (.var 0))])]
noncomputable def Ex:Fn:=⟨7,2,[.assign 2 (.bin .Add (.cint 1) (.bin .Mod (.bin .FloorDiv (.call "_law_cell_at" [(.var 0),(.cint 2)]) (.cint 8)) (.cint 4))),.assign 3 (.cint 5),.ite (.cmp .Gt (.var 1) (.cint 20)) [.assign 3 (.cint 40)] [],.assign 4 (.list []),.for (.one 5) (.range [(.var 1)]) De,.ret (.var 4)]⟩
noncomputable def Ec:X:=(.bi .listRange [(.bi .max [(.cint 0),(.bin .Sub (.var 0) (.var 3))]),(.var 0)])
noncomputable def Gx:Fn:=⟨3,2,[.assign 2 (.bin .Mod (.var 1) (.cint 20)),.ite (.cmp .Gt (.var 0) (.cint 20)) [.assign 2 (.bin .Mod (.var 1) (.cint 6))] [],.ret (.comp 1 (.range [(.var 0)]) Ec)]⟩
noncomputable def Hj:X:=(.bi .listRange [(.bi .max [(.cint 0),(.bin .Sub (.var 0) (.cint 1))]),(.var 0)])
noncomputable def Hk:List S:=[.ite (.cmp .Eq (.bin .Mod (.var 4) (.var 3)) (.bin .Sub (.var 2) (.cint 1))) [.setitem (.var 5) (.var 4) (.list [(.bin .Sub (.bin .Add (.var 4) (.cint 1)) (.var 2)),(.bin .Sub (.var 4) (.cint 1))])] []]
noncomputable def Gy:Fn:=⟨6,2,[.assign 2 (.bin .Add (.cint 4) (.bin .Mod (.var 1) (.cint 5))),.assign 3 (.bin .Add (.var 2) (.bin .Mod (.bin .FloorDiv (.var 1) (.cint 5)) (.cint 4))),.assign 5 (.comp 1 (.range [(.var 0)]) Hj),.for (.one 4) (.range [(.var 0)]) Hk,.ret (.var 5)]⟩
noncomputable def Cg:X:=(.bi .listRange [(.bi .min [(.var 0),(.var 3)])])
noncomputable def Gz:Fn:=⟨3,2,[.assign 2 (.sub (.list [(.cint 1),(.cint 2),(.cint 3),(.bin .Mod (.bin .FloorDiv (.var 1) (.cint 4)) (.cint 30))]) (.bin .Mod (.var 1) (.cint 4))),.ite (.cmp .Gt (.var 0) (.cint 30)) [.assign 2 (.bin .Mod (.var 2) (.cint 8))] [],.ret (.comp 1 (.range [(.var 0)]) Cg)]⟩
noncomputable def Ow:Fn:=⟨4,2,[.assign 2 (.bin .Mod (.call "_law_cell_at" [(.var 0),(.cint 2)]) (.cint 8)),.assign 3 (.bin .FloorDiv (.call "_law_cell_at" [(.var 0),(.cint 2)]) (.cint 8)),.ite (.and (.cmp .Eq (.var 2) (.cint 1)) (.cmp .Gt (.var 1) (.cint 3))) [.ret (.call "_law_earlier" [(.var 0),(.var 1),(.bin .Add (.cint 4) (.bin .Mod (.var 3) (.bin .Sub (.var 1) (.cint 3))))])] [],.ite (.and (.chain (.cint 1) .Lt (.var 2) .Lt (.cint 5)) (.cmp .Lt (.var 1) (.cint 41))) [.ret (.call "_law_any_rows" [(.var 0),(.var 1)])] [],.ite (.cmp .Eq (.var 2) (.cint 5)) [.ret (.call "_law_banded" [(.var 1),(.var 3)])] [],.ite (.cmp .Eq (.var 2) (.cint 6)) [.ret (.call "_law_ringed" [(.var 1),(.var 3)])] [],.ite (.cmp .Eq (.var 2) (.cint 7)) [.ret (.call "_law_hubbed" [(.var 1),(.var 3)])] [],.ret (.call "_law_earlier" [(.var 0),(.var 1),(.cint 0)])]⟩
noncomputable def Kx:Fn:=⟨4,3,[.assign 3 (.call "_law_cell_at" [(.var 0),(.cint 1)]),.ite (.cmp .Eq (.bin .Mod (.var 3) (.cint 2)) (.cint 1)) [.ret (.bin .Mod (.bin .Sub (.bin .FloorDiv (.var 3) (.cint 2)) (.var 2)) (.var 1))] [],.ret (.bin .Mod (.bin .Add (.bin .FloorDiv (.var 3) (.cint 2)) (.var 2)) (.var 1))]⟩
noncomputable def Kc:List S:=[.assign 6 (.tuple [(.call "_law_name" [(.var 0),(.var 1),(.var 4)]),(.call "_law_name" [(.var 0),(.var 1),(.var 5)])]),.ite (.cmp .Eq (.bin .Mod (.bin .Add (.var 4) (.var 5)) (.cint 2)) (.cint 1)) [.assign 6 (.tuple [(.sub (.var 6) (.cint 1)),(.sub (.var 6) (.cint 0))])] [],.expr (.lm .append (.var 3) [(.var 6)])]
noncomputable def Kd:List S:=[.for (.one 5) (.val (.sub (.var 2) (.var 4))) Kc]
noncomputable def Ke:X:=(.tuple [(.sub (.var 0) (.cint 1)),(.sub (.var 0) (.cint 0))])
noncomputable def Ox:Fn:=⟨7,3,[.assign 3 (.list []),.for (.one 4) (.range [(.var 1)]) Kd,.ret (.bin .Add (.bin .Add (.bin .Add (.var 3) (.comp 1 (.val (.slice (.var 3) .omit (.cint 3) .omit)) Ke)) (.slice (.var 3) (.cint 1) (.cint 4) .omit)) (.bin .Mult (.slice (.var 3) .omit (.cint 1) .omit) (.cint 2)))]⟩
noncomputable def Kf:List S:=[.ite (.cmp .NotIn (.var 4) (.sub (.var 2) (.var 3))) [.expr (.lm .append (.sub (.var 2) (.var 3)) [(.var 4)]),.expr (.lm .append (.sub (.var 2) (.var 4)) [(.var 3)])] []]
noncomputable def Kg:X:=(.bi .sorted [(.var 0)])
noncomputable def Oy:Fn:=⟨5,2,[.assign 2 (.comp 1 (.range [(.var 0)]) (.list [])),.for (.two 3 4) (.val (.var 1)) Kf,.ret (.comp 1 (.val (.var 2)) Kg)]⟩
noncomputable def F5:Fn:=⟨2,1,[.assign 1 (.call "_law_cell_at" [(.var 0),(.cint 0)]),.ite (.cmp .Eq (.bin .Mod (.bin .FloorDiv (.var 1) (.cint 9)) (.cint 16)) (.cint 3)) [.ret (.bin .Mod (.bin .FloorDiv (.var 1) (.cint 144)) (.cint 61))] [],.ite (.cmp .Eq (.bin .Mod (.bin .FloorDiv (.var 1) (.cint 9)) (.cint 8)) (.cint 5)) [.ret (.bin .Add (.cint 9) (.bin .Mod (.bin .FloorDiv (.var 1) (.cint 72)) (.cint 12)))] [],.ret (.bin .Mod (.var 1) (.cint 9))]⟩
noncomputable def Oz:Fn:=⟨2,2,[.ret (.cmp .Eq (.bi .sorted [(.var 1)]) (.bi .listRange [(.attr (.var 0) .many)]))]⟩
noncomputable def G0:Fn:=⟨2,2,[.ite (.not (.call "is_order" [(.var 0),(.var 1)])) [.raise .badOrder] []]⟩
noncomputable def Df:X:=(.meth "Web.tied" (.var 1) [(.var 3),(.var 0)])
noncomputable def Hz:Fn:=⟨4,3,[.assign 3 (.lm .index (.var 1) [(.var 2)]),.ret (.compIf 1 (.val (.slice (.var 1) (.bin .Add (.var 3) (.cint 1)) .omit .omit)) Df (.var 0))]⟩
noncomputable def Lj:Fn:=⟨3,3,[.expr (.call "need_order" [(.var 0),(.var 1)]),.expr (.meth "Web.need" (.var 0) [(.var 2)]),.ret (.call "those_behind" [(.var 0),(.var 1),(.var 2)])]⟩
noncomputable def Fi:List S:=[.ite (.not (.meth "Web.tied" (.var 0) [(.var 3),(.var 4)])) [.ret (.tuple [(.var 3),(.var 4)])] []]
noncomputable def Fj:List S:=[.for (.one 4) (.val (.slice (.var 1) (.bin .Add (.var 2) (.cint 1)) .omit .omit)) Fi]
noncomputable def Dg:Fn:=⟨5,2,[.for (.two 2 3) (.enum (.var 1)) Fj,.ret .cnone]⟩
noncomputable def Ti:List S:=[.assign 3 (.call "first_untied" [(.var 0),(.call "those_behind" [(.var 0),(.var 1),(.var 2)])]),.ite (.cmp .IsNot (.var 3) .cnone) [.ret (.tuple [(.var 2),(.sub (.var 3) (.cint 0)),(.sub (.var 3) (.cint 1))])] []]
noncomputable def Z6:Fn:=⟨4,2,[.expr (.call "need_order" [(.var 0),(.var 1)]),.for (.one 2) (.val (.var 1)) Ti,.ret .cnone]⟩
noncomputable def Dt:X:=(.meth "Web.tied" (.var 1) [(.var 3),(.var 0)])
noncomputable def Gg:List S:=[.ite (.cmp .Is (.call "first_untied" [(.var 0),(.compIf 1 (.val (.var 1)) Dt (.var 0))]) .cnone) [.ret (.var 2)] []]
noncomputable def F6:Fn:=⟨3,2,[.for (.one 2) (.val (.var 1)) Gg,.ret .cnone]⟩
noncomputable def O0:List S:=[.expr (.lm .remove (.var 1) [(.var 3)]),.expr (.lm .append (.var 2) [(.var 3)]),.assign 3 (.call "least_to_go" [(.var 0),(.var 1)])]
noncomputable def Wy:Fn:=⟨4,1,[.assign 1 (.bi .listRange [(.attr (.var 0) .many)]),.assign 2 (.list []),.assign 3 (.call "least_to_go" [(.var 0),(.var 1)]),.while (.cmp .IsNot (.var 3) .cnone) O0,.ret (.tuple [(.var 2),(.var 1)])]⟩
noncomputable def Lk:Fn:=⟨2,2,[.ite (.cmp .IsNot (.call "gap" [(.var 0),(.var 1)]) .cnone) [.raise .hasGap] []]⟩
noncomputable def O1:Fn:=⟨3,3,[.ret (.bi .sorted [(.bin .Add (.list [(.var 2)]) (.call "those_behind" [(.var 0),(.var 1),(.var 2)]))])]⟩
noncomputable def Ll:X:=(.meth "Web.tied" (.var 1) [(.var 3),(.var 0)])
noncomputable def Lm:List S:=[.ite (.and (.cmp .NotIn (.var 2) (.var 1)) (.bi .all [(.comp 1 (.val (.var 1)) Ll)])) [.ret (.cbool false)] []]
noncomputable def Q0:Fn:=⟨3,2,[.for (.one 2) (.range [(.attr (.var 0) .many)]) Lm,.ret (.cbool true)]⟩
noncomputable def Gh:List S:=[.assign 4 (.call "crowd_at" [(.var 0),(.var 1),(.var 3)]),.ite (.call "is_full" [(.var 0),(.var 4)]) [.expr (.lm .append (.var 2) [(.var 4)])] []]
noncomputable def Kh:Fn:=⟨5,2,[.expr (.call "need_whole" [(.var 0),(.var 1)]),.assign 2 (.list []),.for (.one 3) (.val (.var 1)) Gh,.ret (.var 2)]⟩
noncomputable def Hl:List S:=[.assign 1 (.bin .Add (.var 1) (.cint 1))]
noncomputable def Ln:Fn:=⟨2,1,[.assign 1 (.cint 0),.while (.cmp .In (.var 1) (.var 0)) Hl,.ret (.var 1)]⟩
noncomputable def Ki:X:=(.sub (.var 4) (.var 0))
noncomputable def Kj:List S:=[.setitem (.var 3) (.var 2) (.call "least_free" [(.comp 1 (.val (.call "those_behind" [(.var 0),(.var 1),(.var 2)])) Ki)])]
noncomputable def O2:Fn:=⟨4,2,[.expr (.call "need_whole" [(.var 0),(.var 1)]),.assign 3 (.comp 1 (.val (.var 1)) (.cint 0)),.for (.one 2) (.rev (.var 1)) Kj,.ret (.var 3)]⟩
noncomputable def Hm:List S:=[.ite (.and (.cmp .NotIn (.var 7) (.var 2)) (.cmp .NotIn (.var 7) (.var 3))) [.setitem (.var 3) (.var 7) (.var 6),.expr (.lm .append (.var 4) [(.var 7)])] []]
noncomputable def Hn:List S:=[.assign 6 (.sub (.var 4) (.var 5)),.assign 5 (.bin .Add (.var 5) (.cint 1)),.for (.one 7) (.val (.meth "Web.beside" (.var 0) [(.var 6)])) Hm]
noncomputable def Ek:Fn:=⟨8,3,[.assign 3 (.dict [(.var 1)] [(.var 1)]),.assign 4 (.list [(.var 1)]),.assign 5 (.cint 0),.while (.cmp .Lt (.var 5) (.bi .len [(.var 4)])) Hn,.ret (.var 3)]⟩
noncomputable def Tj:List S:=[.expr (.lm .append (.var 5) [(.sub (.var 4) (.sub (.var 5) (.neg (.cint 1))))])]
noncomputable def Z7:Fn:=⟨6,4,[.expr (.meth "Web.need" (.var 0) [(.var 1)]),.expr (.meth "Web.need" (.var 0) [(.var 2)]),.ite (.or (.cmp .In (.var 1) (.var 3)) (.cmp .In (.var 2) (.var 3))) [.ret .cnone] [],.assign 4 (.call "steps_from" [(.var 0),(.var 1),(.var 3)]),.ite (.cmp .NotIn (.var 2) (.var 4)) [.ret .cnone] [],.assign 5 (.list [(.var 2)]),.while (.cmp .NotEq (.sub (.var 5) (.neg (.cint 1))) (.var 1)) Tj,.expr (.lm .reverse (.var 5) []),.ret (.var 5)]⟩
noncomputable def Nf:List S:=[.setitem (.var 2) (.var 4) (.var 3)]
noncomputable def Ng:List S:=[.ite (.and (.cmp .NotIn (.var 3) (.var 1)) (.cmp .NotIn (.var 3) (.var 2))) [.for (.one 4) (.val (.call "steps_from" [(.var 0),(.var 3),(.var 1)])) Nf] []]
noncomputable def Tk:Fn:=⟨5,2,[.assign 2 (.dict [] []),.for (.one 3) (.range [(.attr (.var 0) .many)]) Ng,.ret (.var 2)]⟩
noncomputable def G1:List S:=[.ite (.cmp .In (.var 6) (.var 3)) [.assign 7 (.lm .setdefault (.var 4) [(.sub (.var 3) (.var 6)),(.list [])]),.ite (.or (.cmp .Eq (.var 7) (.list [])) (.cmp .NotEq (.sub (.var 7) (.neg (.cint 1))) (.var 5))) [.expr (.lm .append (.var 7) [(.var 5)])] []] []]
noncomputable def Lo:List S:=[.for (.one 6) (.val (.meth "Web.beside" (.var 0) [(.var 5)])) G1]
noncomputable def Lp:X:=(.cmp .NotIn (.var 0) (.var 10))
noncomputable def Lq:List S:=[.assign 9 (.call "first_untied" [(.var 0),(.sub (.var 4) (.var 8))]),.ite (.cmp .IsNot (.var 9) .cnone) [.assign 10 (.compIf 1 (.val (.var 2)) Lp (.var 0)),.ret (.bin .Add (.list [(.var 1)]) (.call "way" [(.var 0),(.sub (.var 9) (.cint 0)),(.sub (.var 9) (.cint 1)),(.bin .Add (.var 10) (.list [(.var 1)]))]))] []]
noncomputable def Q1:Fn:=⟨11,2,[.assign 2 (.meth "Web.beside" (.var 0) [(.var 1)]),.assign 3 (.call "pieces" [(.var 0),(.bin .Add (.var 2) (.list [(.var 1)]))]),.assign 4 (.dict [] []),.for (.one 5) (.val (.var 2)) Lo,.for (.one 8) (.val (.bi .sorted [(.var 4)])) Lq,.ret .cnone]⟩
noncomputable def H0:List S:=[.assign 2 (.call "ring_at" [(.var 0),(.var 1)]),.ite (.cmp .IsNot (.var 2) .cnone) [.ret (.var 2)] []]
noncomputable def Nh:Fn:=⟨3,1,[.for (.one 1) (.val (.sub (.call "taken" [(.var 0)]) (.cint 1))) H0,.ret .cnone]⟩
noncomputable def Du:Fn:=⟨6,6,[.setattr (.var 0) .order (.var 1),.setattr (.var 0) .ring (.var 2),.setattr (.var 0) .crowd (.var 3),.setattr (.var 0) .colours (.var 4),.setattr (.var 0) .many (.var 5)]⟩
noncomputable def Ni:List S:=[.ite (.cmp .Gt (.bi .len [(.var 4)]) (.bi .len [(.var 3)])) [.assign 3 (.var 4)] []]
noncomputable def Tl:Fn:=⟨5,1,[.assign 1 (.call "long_ring" [(.var 0)]),.ite (.cmp .IsNot (.var 1) .cnone) [.ret (.mk .verdict [.cnone,(.var 1),.cnone,.cnone,(.cint 0)])] [],.assign 2 (.sub (.call "taken" [(.var 0)]) (.cint 0)),.assign 3 (.list []),.for (.one 4) (.val (.call "full_crowds" [(.var 0),(.var 2)])) Ni,.ret (.mk .verdict [(.var 2),.cnone,(.var 3),(.call "coloured" [(.var 0),(.var 2)]),(.bi .len [(.var 3)])])]⟩
noncomputable def H5:X:=(.tuple [(.call "_law_mixed" [(.call "_law_cell_at" [(.var 1),(.bin .Add (.cint 2) (.bin .Mod (.bin .Mult (.cint 11) (.var 0)) (.cint 61)))]),(.bin .Add (.bin .Mult (.cint 7) (.var 0)) (.cint 1))]),(.var 0)])
noncomputable def H6:X:=(.sub (.var 0) (.cint 1))
noncomputable def H7:Fn:=⟨3,2,[.assign 2 (.comp 1 (.range [(.var 1)]) H5),.ret (.comp 1 (.val (.bi .sorted [(.var 2)])) H6)]⟩
noncomputable def Ho:X:=(.cmp .In (.var 0) (.sub (.var 1) (.sub (.var 2) (.var 3))))
noncomputable def G2:Fn:=⟨3,3,[.ret (.compIf 1 (.val (.slice (.var 1) (.bin .Add (.var 2) (.cint 1)) .omit .omit)) Ho (.var 0))]⟩
noncomputable def Hp:List S:=[.ite (.cmp .NotIn (.var 3) (.sub (.var 0) (.sub (.var 1) (.var 2)))) [.ret (.tuple [(.sub (.var 1) (.var 2)),(.var 3)])] []]
noncomputable def Hq:List S:=[.for (.one 3) (.val (.slice (.var 1) (.bin .Add (.var 2) (.cint 1)) .omit .omit)) Hp]
noncomputable def G3:Fn:=⟨4,2,[.for (.one 2) (.range [(.bi .len [(.var 1)])]) Hq,.ret .cnone]⟩
noncomputable def Lr:List S:=[.assign 3 (.call "_law_untied" [(.var 0),(.call "_law_behind" [(.var 0),(.var 1),(.var 2)])]),.ite (.cmp .IsNot (.var 3) .cnone) [.ret (.tuple [(.sub (.var 1) (.var 2)),(.sub (.var 3) (.cint 0)),(.sub (.var 3) (.cint 1))])] []]
noncomputable def Q2:Fn:=⟨4,2,[.for (.one 2) (.range [(.bi .len [(.var 1)])]) Lr,.ret .cnone]⟩
noncomputable def H8:Fn:=⟨2,2,[.ite (.cmp .Is (.var 1) .cnone) [.ret (.cmp .Is (.var 0) .cnone)] [],.ret (.and (.bi (.isinst .tuple) [(.var 0)]) (.call "_law_numbers" [(.bi .list [(.var 0)]),(.bi .list [(.var 1)])]))]⟩
noncomputable def G4:Fn:=⟨5,2,[.ite (.or (.cmp .Eq (.bin .Mod (.var 1) (.cint 2)) (.cint 0)) (.cmp .Lt (.bi .len [(.var 0)]) (.cint 4))) [.ret (.slice (.var 0) .omit .omit (.neg (.cint 1)))] [],.assign 2 (.bi .list [(.var 0)]),.assign 3 (.bin .Add (.cint 1) (.bin .Mod (.bin .FloorDiv (.var 1) (.cint 2)) (.bin .Sub (.bi .len [(.var 0)]) (.cint 2)))),.assign 4 (.bin .Add (.cint 1) (.bin .Mod (.bin .FloorDiv (.var 1) (.cint 122)) (.bin .Sub (.bi .len [(.var 0)]) (.cint 2)))),.setitem (.var 2) (.var 3) (.sub (.var 0) (.var 4)),.setitem (.var 2) (.var 4) (.sub (.var 0) (.var 3)),.ret (.var 2)]⟩
noncomputable def D6:List S:=[.expr (.lm .clear (.var 3) []),.expr (.lm .extend (.var 3) [(.var 4)]),.assign 6 (.call "is_order" [(.var 0),(.var 3)]),.ite (.or (.not (.bi (.isinst .bool) [(.var 6)])) (.or (.cmp .NotEq (.var 6) (.var 5)) (.cmp .NotEq (.var 3) (.var 4)))) [.ret (.cbool false)] []]
noncomputable def Fk:Fn:=⟨7,3,[.assign 3 (.list []),.for (.two 4 5) (.val (.list [(.tuple [(.var 2),(.cbool false)]),(.tuple [(.var 1),(.cbool true)]),(.tuple [(.var 2),(.cbool false)])])) D6,.ret (.cbool true)]⟩
noncomputable def D7:List S:=[.expr (.lm .clear (.var 4) []),.expr (.lm .extend (.var 4) [(.var 6)]),.assign 7 (.call "behind" [(.var 0),(.var 4),(.var 3)]),.ite (.not (.call "_law_numbers" [(.var 7),(.call "_law_behind" [(.var 1),(.var 6),(.lm .index (.var 6) [(.var 3)])])])) [.ret (.cbool false)] [],.expr (.lm .append (.var 7) [(.cint 0)]),.expr (.lm .append (.var 5) [(.tuple [(.var 7),(.bi .list [(.var 7)])])])]
noncomputable def D8:X:=(.cmp .NotEq (.sub (.var 0) (.cint 0)) (.sub (.var 0) (.cint 1)))
noncomputable def Fl:Fn:=⟨8,4,[.assign 4 (.list []),.assign 5 (.list []),.for (.one 6) (.val (.list [(.var 2),(.call "_law_within" [(.var 2),(.bin .Add (.bin .Mult (.cint 61) (.var 3)) (.bi .len [(.var 1)]))]),(.bin .Add (.slice (.var 2) .omit (.cint 1) .omit) (.slice (.var 2) .omit (.cint 0) (.neg (.cint 1)))),(.var 2)])) D7,.ret (.cmp .Eq (.compIf 1 (.val (.var 5)) D8 (.var 0)) (.list []))]⟩
noncomputable def Ey:X:=(.sub (.list [(.var 0),(.cint 1)]) (.bi .int [(.cmp .In (.var 0) (.tuple [(.cint 0),(.cint 2)]))]))
noncomputable def Ed:Fn:=⟨6,3,[.assign 3 (.bin .Mod (.var 1) (.bin .Add (.bi .len [(.var 0)]) (.cint 1))),.assign 4 (.bin .Mod (.bin .FloorDiv (.var 1) (.cint 61)) (.cint 5)),.assign 5 (.sub (.list [(.neg (.cint 1)),(.bi .len [(.var 0)]),(.var 2),(.neg (.var 2))]) (.bin .Mod (.bin .FloorDiv (.var 1) (.cint 305)) (.cint 4))),.ite (.and (.cmp .Eq (.var 4) (.cint 0)) (.cmp .Lt (.var 3) (.bi .len [(.var 0)]))) [.ret (.bin .Add (.slice (.var 0) .omit (.var 3) .omit) (.slice (.var 0) (.bin .Add (.var 3) (.cint 1)) .omit .omit))] [],.ite (.and (.cmp .Eq (.var 4) (.cint 1)) (.chain (.cint 0) .Lt (.var 3) .Lt (.bi .len [(.var 0)]))) [.ret (.bin .Add (.bin .Add (.slice (.var 0) .omit (.var 3) .omit) (.list [(.sub (.var 0) (.bin .Sub (.var 3) (.cint 1)))])) (.slice (.var 0) (.bin .Add (.var 3) (.cint 1)) .omit .omit))] [],.ite (.and (.cmp .Eq (.var 4) (.cint 2)) (.cmp .Lt (.var 3) (.bi .len [(.var 0)]))) [.ret (.bin .Add (.bin .Add (.slice (.var 0) .omit (.var 3) .omit) (.list [(.var 5)])) (.slice (.var 0) (.bin .Add (.var 3) (.cint 1)) .omit .omit))] [],.ite (.and (.cmp .Eq (.var 4) (.cint 3)) (.cmp .Gt (.bi .len [(.var 0)]) (.cint 2))) [.ret (.comp 1 (.val (.var 0)) Ey)] [],.ret (.bin .Add (.bin .Add (.slice (.var 0) .omit (.var 3) .omit) (.list [(.var 5)])) (.slice (.var 0) (.var 3) .omit .omit))]⟩
noncomputable def Fm:Fn:=⟨3,3,[.try1 [.expr (.call "behind" [(.var 0),(.var 1),(.var 2)])] .noPoint none [.ret (.cbool true)],.ret (.cbool false)]⟩
noncomputable def Gi:Fn:=⟨4,3,[.try1 [.expr (.call "behind" [(.var 0),(.var 1),(.var 2)])] .webError (some 3) [.ite (.or (.isown .badWeb (.var 3)) (.or (.isown .badText (.var 3)) (.isown .hasGap (.var 3)))) [.ret (.cbool false)] [],.ret (.and (.isVE (.var 3)) (.cmp .NotEq (.isown .badOrder (.var 3)) (.isown .noPoint (.var 3))))],.ret (.cbool false)]⟩
noncomputable def I6:List S:=[.expr (.lm .clear (.var 4) []),.expr (.lm .extend (.var 4) [(.var 5)]),.ite (.or (.not (.call "_law_gap_told" [(.call "gap" [(.var 0),(.var 4)]),(.call "_law_gap" [(.var 1),(.var 5)])])) (.cmp .NotEq (.var 4) (.var 5))) [.ret (.cbool false)] []]
noncomputable def Gj:Fn:=⟨6,4,[.assign 4 (.list []),.for (.one 5) (.val (.list [(.var 2),(.call "_law_within" [(.var 2),(.var 3)]),(.bin .Add (.slice (.var 2) .omit (.cint 1) .omit) (.slice (.var 2) .omit (.cint 0) (.neg (.cint 1)))),(.var 2)])) I6,.ret (.cbool true)]⟩
noncomputable def Dh:List S:=[.assign 6 (.var 5),.ite (.cmp .Gt (.var 4) (.cint 8)) [.assign 6 (.bin .Mod (.bin .Add (.var 3) (.bin .Mult (.cint 13) (.var 5))) (.var 4))] [],.ite (.and (.or (.cmp .Lt (.var 5) (.cint 5)) (.cmp .Lt (.var 4) (.cint 9))) (.not (.call "_law_behind_told" [(.var 0),(.var 1),(.var 2),(.sub (.var 2) (.var 6))]))) [.ret (.cbool false)] []]
noncomputable def Eg:Fn:=⟨7,4,[.assign 4 (.bi .len [(.var 2)]),.for (.one 5) (.range [(.bi .min [(.var 4),(.cint 8)])]) Dh,.ret (.cbool true)]⟩
noncomputable def Nj:X:=(.call "_law_name" [(.var 1),(.var 2),(.bin .Sub (.bin .Sub (.var 2) (.cint 1)) (.var 0))])
noncomputable def Tm:Fn:=⟨12,1,[.assign 1 (.call "_law_many" [(.var 0)]),.assign 2 (.call "_law_ties" [(.var 0),(.var 1),(.call "_law_rows" [(.var 0),(.var 1)])]),.assign 3 (.call "_law_near" [(.var 1),(.var 2)]),.assign 4 (.call "web_of" [(.var 1),(.bi .list [(.var 2)])]),.assign 5 (.call "_law_mixed" [(.call "_law_cell_at" [(.var 0),(.cint 1)]),(.cint 5)]),.assign 6 (.bin .Add (.cint 61) (.bin .Mod (.call "_law_cell_at" [(.var 0),(.cint 2)]) (.bin .Pow (.cint 10) (.cint 20)))),.assign 7 (.comp 1 (.range [(.var 1)]) Nj),.ite (.cmp .Eq (.bin .Mod (.var 5) (.cint 2)) (.cint 1)) [.assign 7 (.call "_law_keyed" [(.var 0),(.var 1)])] [],.assign 8 (.sub (.list [(.neg (.cint 1)),(.var 1),(.var 6),(.neg (.var 6))]) (.bin .Mod (.bin .FloorDiv (.var 5) (.cint 12)) (.cint 4))),.ite (.cmp .Eq (.bin .Mod (.bin .FloorDiv (.var 5) (.cint 2)) (.cint 6)) (.cint 1)) [.assign 9 (.call "_law_spoilt" [(.var 7),(.bin .FloorDiv (.var 5) (.cint 12)),(.var 6)]),.ite (.not (.call "_law_orders_told" [(.var 4),(.var 7),(.var 9)])) [.ret (.cbool false)] [],.ite (.or (.not (.call "_law_refused" [(.var 4),(.bi .list [(.var 9)]),(.var 8)])) (.not (.call "_law_by_base" [(.var 4),(.bi .list [(.var 9)]),(.var 8)]))) [.ret (.cbool false)] [],.ret (.and (.call "_law_gaps_right" [(.var 4),(.var 3),(.var 7),(.var 5)]) (.call "_law_behinds_right" [(.var 4),(.var 3),(.var 7),(.var 5)]))] [],.assign 10 (.bi .list [(.var 7)]),.assign 11 (.call "is_order" [(.var 4),(.var 10)]),.ite (.or (.not (.bi (.isinst .bool) [(.var 11)])) (.not (.var 11))) [.ret (.cbool false)] [],.ite (.and (.cmp .Eq (.bin .Mod (.bin .FloorDiv (.var 5) (.cint 48)) (.cint 2)) (.cint 1)) (.not (.call "_law_behinds_right" [(.var 4),(.var 3),(.var 7),(.var 5)]))) [.ret (.cbool false)] [],.ite (.cmp .Eq (.bin .Mod (.bin .FloorDiv (.var 5) (.cint 96)) (.cint 2)) (.cint 1)) [.expr (.call "judged" [(.var 4)])] [],.ite (.or (.not (.call "_law_gaps_right" [(.var 4),(.var 3),(.var 7),(.bin .FloorDiv (.var 5) (.cint 48))])) (.not (.call "_law_behinds_right" [(.var 4),(.var 3),(.var 7),(.var 5)]))) [.ret (.cbool false)] [],.ite (.or (.not (.call "_law_no_point" [(.var 4),(.var 10),(.var 8)])) (.or (.not (.call "_law_by_base" [(.var 4),(.var 10),(.var 8)])) (.cmp .NotEq (.var 10) (.var 7)))) [.ret (.cbool false)] [],.ret (.or (.cmp .Eq (.var 1) (.cint 0)) (.call "_law_behind_told" [(.var 4),(.var 3),(.var 7),(.sub (.var 7) (.bin .Mod (.var 5) (.var 1)))]))]⟩
noncomputable def Ls:Fn:=⟨2,2,[.ret (.cmp .Eq (.bi .sortedL [(.var 1)]) (.bi .listRange [(.attr (.var 0) .many)]))]⟩
noncomputable def H9:Fn:=⟨2,2,[.ite (.not (.call "!is_order" [(.var 0),(.var 1)])) [.raiseO .badOrder] []]⟩
noncomputable def O3:Fn:=⟨3,3,[.expr (.call "!need_order" [(.var 0),(.var 1)]),.bad,.bad]⟩
noncomputable def Gk:Fn:=⟨3,3,[.tryO [.expr (.call "gap" [(.var 0),(.var 1)])] .badOrder [.try2 [.expr (.call "!behind" [(.var 0),(.var 1),(.var 2)])] .badOrder none [.ret (.cbool true)] .noPoint [.ret (.cbool false)]],.ret (.cbool false)]⟩
end Mine.Internal
namespace Mine.Internal
open PySem
set_option genCtorIdx false in
structure Cx where
 names:List Str
 sc:Scope
 hnd:Bool
 cmp:Bool
 ovr:Bool
noncomputable def Air:Option NameKind->Bool
 | some .local=>true
 | some .cell=>true
 | some .free=>true
 | _=>false
noncomputable def Cx.slot(c:Cx)(x:Str):Option Nat:=if Air (c.sc.names.lookup x)then c.names.idxOf? x else none
noncomputable def Wz:Option NameKind->Bool
 | some .local=>true
 | some .cell=>true
 | _=>false
noncomputable def Cx.own(c:Cx)(x:Str):Option Nat:=if Wz (c.sc.names.lookup x)then c.names.idxOf? x else none
noncomputable def Cx.global(c:Cx)(x:Str):Bool:=c.sc.names.lookup x==some .globalImplicit
theorem nn{α:Type}{P:Prop}{x:α}(h:(none:Option α)=some x):P:=by cases h
inductive B1{α β:Type}(o:Option α)(k:α->β)(y:β):Prop
 | mk (a:α) (h:o=some a) (e:k a=y)
inductive B2{α α' β:Type}(o:Option α)(o':Option α')(k:α->α'->β)(y:β):Prop
 | mk (a:α) (h:o=some a) (a':α') (h':o'=some a') (e:k a a'=y)
inductive B3{α α' γ β:Type}(o:Option α)(o':Option α')(p:Option γ)(k:α->α'->γ->β)(y:β):Prop
 | mk (a:α) (h:o=some a) (a':α') (h':o'=some a') (d:γ) (h3:p=some d) (e:k a a' d=y)
inductive B4{α α' γ δ β:Type}(o:Option α)(o':Option α')(p:Option γ)(p':Option δ)(k:α->α'->γ->δ->β)(y:β):Prop
 | mk (a:α) (h:o=some a) (a':α') (h':o'=some a') (d:γ) (h3:p=some d) (d':δ) (h4:p'=some d') (e:k a a' d d'=y)
theorem b1{α β:Type}{o:Option α}{k:α->β}{y:β}(h:(o >>= fun a=>pure (k a))=some y):B1 o k y:=by
 cases o with
 | none=>cases h
 | some a=>exact⟨a,rfl,Option.some.inj h⟩
theorem b2{α α' β:Type}{o:Option α}{o':Option α'}{k:α->α'->β}{y:β}(h:(o >>= fun a=>o' >>= fun b=>pure (k a b))=some y):B2 o o' k y:=by
 cases o with
 | none=>cases h
 | some a=>obtain⟨b,hb,e⟩:=b1 (show (o' >>= fun b=>pure (k a b))=some y from h);exact⟨a,rfl,b,hb,e⟩
theorem b3{α α' γ β:Type}{o:Option α}{o':Option α'}{p:Option γ}{k:α->α'->γ->β}{y:β}(h:(o >>= fun a=>o' >>= fun b=>p >>= fun d=>pure (k a b d))=some y):B3 o o' p k y:=by
 cases o with
 | none=>cases h
 | some a=>obtain⟨b,hb,d,hd,e⟩:=b2 (show (o' >>= fun b=>p >>= fun d=>pure (k a b d))=some y from h);exact⟨a,rfl,b,hb,d,hd,e⟩
theorem b4{α α' γ δ β:Type}{o:Option α}{o':Option α'}{p:Option γ}{p':Option δ}{k:α->α'->γ->δ->β}{y:β}(h:(o >>= fun a=>o' >>= fun b=>p >>= fun d=>p' >>= fun d'=>pure (k a b d d'))=some y):B4 o o' p p' k y:=by
 cases o with
 | none=>cases h
 | some a=>obtain⟨b,hb,d,hd,d',hd',e⟩:=b3 (show (o' >>= fun b=>p >>= fun d=>p' >>= fun d'=>pure (k a b d d'))=some y from h);exact⟨a,rfl,b,hb,d,hd,d',hd',e⟩
noncomputable def tab{α:Type}:List (Str×α)->Str->Option α
 | [],_=>none
 | p::r,x=>if x==p.1 then some p.2 else tab r x
theorem El{α:Type}{x:Str}{a:α}{t:List (Str×α)}(h:tab t x=some a):(x,a)∈t:=by
 induction t with
 | nil=>cases h
 | cons p r ih=>
   replace h:(if (x==p.1)=true then some p.2 else tab r x)=some a:=h
   by_cases q:(x==p.1)=true
   ·rw[if_pos q]at h
    cases h
    rw[beq_iff_eq.mp q]
    exact .head _
   ·rw[if_neg q]at h
    exact .tail _ (ih h)
noncomputable def W0:List (Str×Ty):=[("int",.int),("bool",.bool),("list",.list),("tuple",.tuple)]
noncomputable def Z8(x:Str):Option Ty:=tab W0 x
noncomputable def Mw:List (Str×Cn):=[("WebError",.webError),("BadWeb",.badWeb),("NoPoint",.noPoint),("BadText",.badText),("BadOrder",.badOrder),("HasGap",.hasGap)]
noncomputable def Hr(x:Str):Option Cn:=tab Mw x
noncomputable def Nk(x:Str):Option C9:=
 if x==("many" :Str)then some .many else if x==("rows" :Str)then some .rows else if x==("order" :Str)then some .order else if x==("ring" :Str)then some .ring
 else if x==("crowd" :Str)then some .crowd else if x==("colours" :Str)then some .colours else none
noncomputable def W1:List (Str×LM):=[("append",.append),("clear",.clear),("count",.count),("extend",.extend),("index",.index),("remove",.remove),("reverse",.reverse),("setdefault",.setdefault)]
noncomputable def Ac6(x:Str):Option LM:=tab W1 x
noncomputable def Oe(x:Str):Option Str:=
 if x==("need" :Str)then some "Web.need" else if x==("beside" :Str)then some "Web.beside" else if x==("tied" :Str)then some "Web.tied" else if x==("ties" :Str)then some "Web.ties" else none
noncomputable def Z9:List (Str×(Nat×BI)):=[("len",(1,.len)),("list",(1,.list)),("sorted",(1,.sorted)),("max",(2,.max)),("min",(2,.min)),("min",(1,.minL)),("all",(1,.all)),("any",(1,.any)),("int",(1,.int))]
noncomputable def Ac7:List (Str×(Nat×BI))->Str->Nat->Option BI
 | [],_,_=>none
 | p::r,x,n=>if x==p.1&&n==p.2.1 then some p.2.2 else Ac7 r x n
theorem Tn{x:Str}{n:Nat}{b:BI}{t:List (Str×(Nat×BI))}(h:Ac7 t x n=some b):(x,(n,b))∈t:=by
 induction t with
 | nil=>cases h
 | cons p r ih=>
   replace h:(if (x==p.1&&n==p.2.1)=true then some p.2.2 else Ac7 r x n)=some b:=h
   by_cases q:(x==p.1&&n==p.2.1)=true
   ·rw[if_pos q]at h
    cases h
    have z:=Bool.and_eq_true_iff.mp q
    rw[beq_iff_eq.mp z.1,beq_iff_eq.mp z.2]
    exact .head _
   ·rw[if_neg q]at h
    exact .tail _ (ih h)
noncomputable def Ac8(x:Str)(n:Nat):Option BI:=Ac7 Z9 x n
noncomputable def D9(f:Str):Option (Cn×Str):=
 if f==("Web.__init__" :Str)then some (.web,"__init__")else if f==("Verdict.__init__" :Str)then some (.verdict,"__init__")else if f==("Web.need" :Str)then some (.web,"need")
 else if f==("Web.beside" :Str)then some (.web,"beside")else if f==("Web.tied" :Str)then some (.web,"tied")else if f==("Web.ties" :Str)then some (.web,"ties")else none
noncomputable def Aga:List Str:=["isinstance","range","enumerate","reversed","set","len","list","sorted","max","min","all","any","str","int","super","type"]
noncomputable def Ac9(x:Str):Bool:=x==("MOST" :Str)||x==("FIGURES" :Str)
noncomputable def Vf(names:List Str)(out sc:Scope)(ts:List Str):Bool:=
 (match ts with | [x,y]=>x != y|_=>true)&&sc.kind == .function&&sc.names.all (fun p=>p.2 != .local||ts.contains p.1 || !names.contains p.1)&&sc.names.all (fun p=>p.2 != .cell&&(p.2 != .local||sc.names.lookup p.1==some .local)&&(p.2 != .free||(out.names.lookup p.1==some .cell&&sc.names.lookup p.1==some .free)))
   && ts.all fun t=>sc.names.lookup t==some .local
noncomputable def Ez:Expr->Option Str
 | .Name x _=>some x
 | _=>none
noncomputable def Afj:List Expr->Option (List Str)
 | [a,b]=>(match Ez a with
   | some x=>(match Ez b with
     | some y=>some [x,y]
     | none=>none)
   | none=>none)
 | _=>none
set_option backward.match.sparseCases false in
noncomputable def Ck:Expr->Option (List Str)
 | .Name x _=>some [x]
 | .Tuple es _ _=>Afj es
 | _=>none
theorem Ia{e:Expr}{x:Str}(h:Ez e=some x):∃p,e = .Name x p:=by
 refine Aa fun nY=>?_
 cases e<;>try exact @nn _ _ _ h
 case Name y p=>(refine nY ?_;clear nY;cases h;exact⟨p,rfl⟩)
theorem Aaa{es:List Expr}{ts:List Str}(h:Afj es=some ts):∃x p y q,es = [.Name x p,.Name y q]/\ts = [x,y]:=by
 rcases es with _ | ⟨a,_ | ⟨b,_ | ⟨d,es⟩⟩⟩<;>try exact @nn _ _ _ h
 replace h:(match Ez a with|some x=>(match Ez b with|some y=>some [x,y]|none=>none)|none=>none)=some ts:=h
 cases ha:Ez a with
 | none=>rw[ha]at h;cases h
 | some x=>
   cases hb:Ez b with
   | none=>rw[ha,hb]at h;cases h
   | some y=>
     rw[ha,hb]at h
     cases h
     obtain⟨p,rfl⟩:=Ia ha
     obtain⟨q,rfl⟩:=Ia hb
     exact⟨x,p,y,q,rfl,rfl⟩
theorem Ib{e:Expr}{ts:List Str}(h:Ck e=some ts):(∃x p,e = .Name x p/\ts = [x])\/(∃x p y q k r,e = .Tuple [.Name x p,.Name y q] k r/\ts = [x,y]):=by
 refine Aa fun no=>?_
 cases e<;>try exact @nn _ _ _ h
 case Name x p=>exact no (.inl ⟨x,p,rfl,(Option.some.inj h).symm⟩)
 case Tuple es k r=>
  obtain⟨x,p,y,q,rfl,e⟩:=Aaa h
  exact no (.inr ⟨x,p,y,q,k,r,rfl,e⟩)
set_option backward.match.sparseCases false in
noncomputable def Vg:Expr->Option (Expr×List Expr×Bool)
 | .Call g as kw _=>some (g,as,kw.isEmpty)
 | _=>none
theorem X1{e g:Expr}{as:List Expr}(h:Vg e=some (g,as,true)):∃p,e = .Call g as [] p:=by
 cases e<;>try exact @nn _ _ _ h
 case Call g' as' kw p=>
  have h':=Option.some.inj h
  cases kw with
  | nil=>cases h';exact⟨p,rfl⟩
  | cons a b=>cases h'
noncomputable def Di(e:Expr):Option (Str×List Expr):=match Vg e with
 | some (g,as,true)=>(match Ez g with
   | some x=>some (x,as)
   | none=>none)
 | _=>none
theorem Ic{e:Expr}{x:Str}{as:List Expr}(h:Di e=some (x,as)):∃p p',e = .Call (.Name x p) as [] p':=by
 unfold Di at h
 cases q:Vg e with
 | none=>rw[q]at h;cases h
 | some r=>
   refine Aa fun nY=>?_
   obtain⟨g,as',k⟩:=r
   rw[q]at h
   cases k with
   | false=>cases h
   | true=>
     obtain⟨p',rfl⟩:=X1 q
     cases q':Ez g with
     | none=>simp only[q']at h;cases h
     | some y=>
       simp only[q']at h
       cases h
       obtain⟨p,rfl⟩:=Ia q'
       refine nY ?_;clear nY
       exact⟨p,p',rfl⟩
noncomputable def F7(f:Expr->Option X):List Expr->Option (List X)
 | []=>some []
 | e::r=>do return (<-f e)::(<-F7 f r)
noncomputable def Vh(f:Expr->Option X):Option Expr->Option X
 | none=>some .omit
 | some e=>f e
noncomputable def O4(f:Expr->Option X)(op:BoolOp):List Expr->Option X
 | []=>none
 | e::r=>(match r with
   | []=>f e
   | _=>(match op with
     | .And=>do return .and (<-f e) (<-O4 f op r)
     | .Or=>do return .or (<-f e) (<-O4 f op r)))
set_option backward.match.sparseCases false in
noncomputable def Lu:Expr->Bool
 | .Tuple .. =>true
 | _=>false
noncomputable def Aab(f:Expr->Option X)(c:Cx)(two:Bool)(e:Expr):Option X:=
 match Di e with
 | some (x,args)=>
   if c.global x&&x==("range" :Str)then(if args.length==1||args.length==2 then do return .range (<-F7 f args)else none)
   else if c.global x&&x==("enumerate" :Str)then(match args with | [a]=>if two then do return .enum (<-f a)else none|_=>none)
   else if c.global x&&x==("reversed" :Str)then(match args with | [a]=>do return .rev (<-f a)|_=>none)
   else do return .val (<-f e)
 | none=>do return .val (<-f e)
noncomputable def Mx(c:Cx)(nm:Str)(args:List Expr):Option (List Expr):=match args with
 | [e]=>(match Di e with
   | some (s,as)=>if c.global s&&s==nm then some as else none
   | none=>none)
 | _=>none
theorem Lv{c:Cx}{nm:Str}{args as:List Expr}(h:Mx c nm args=some as):∃sp sp',args = [.Call (.Name nm sp) as [] sp']/\c.global nm=true:=by
 refine Aa fun nY=>?_
 rcases args with _ | ⟨e,_ | ⟨e',r⟩⟩<;>try exact @nn _ _ _ h
 replace h:(match Di e with|some (s,as)=>if c.global s&&s==nm then some as else none|none=>none)=some as:=h
 refine nY ?_;clear nY
 cases q:Di e with
 | none=>rw[q]at h;cases h
 | some r=>
   refine Aa fun nY=>?_
   obtain⟨s,bs⟩:=r
   rw[q]at h
   replace h:(if (c.global s&&s==nm)=true then some bs else none)=some as:=h
   by_cases z:(c.global s&&s==nm)=true
   ·rw[if_pos z]at h
    cases h
    have z:c.global s=true/\s=nm:=by simpa using z
    obtain⟨sp,sp',rfl⟩:=Ic q
    refine nY ?_;clear nY
    rw[<-z.2]
    exact⟨sp,sp',rfl,z.1⟩
   ·rw[if_neg z]at h;cases h
noncomputable def Ais:List (Str×Str):=[("behind","!behind"),("need_order","!need_order"),("is_order","!is_order")]
noncomputable def hOf(x:Str):Option Str:=tab Ais x
noncomputable def Ait:List (Str×Str):=[("!behind","behind"),("!need_order","need_order"),("!is_order","is_order")]
noncomputable def unb(f:Str):Option Str:=tab Ait f
noncomputable def F8(f:Str):Bool:=(unb f).isSome
noncomputable def Ky(f:Str):Str:=(unb f).getD f
theorem Q3{x:Str}(h:F8 x=false):Ky x=x:=by
 delta Ky
 delta F8 at h
 cases q:unb x with
 | none=>rfl
 | some y=>rw[q]at h;cases h
theorem To{f:Str}(h:F8 f=true):D9 f=none:=by
 obtain⟨y,hy⟩:=Option.isSome_iff_exists.mp h
 exact(by decide:∀p∈Ait,D9 p.1=none) (f,y) (El hy)
theorem Agb{x y:Str}(h:hOf x=some y):F8 y=true/\Ky y=x/\D9 y=none/\(x==("__debug__" :Str))=false:=
 (by decide:∀p∈Ais,F8 p.2=true/\Ky p.2=p.1/\D9 p.2=none/\(p.1==("__debug__" :Str))=false) (x,y) (El h)
noncomputable def W2:List Expr->Option (Expr×Str)
 | [e,t]=>(match Ez t with
   | some x=>some (e,x)
   | none=>none)
 | _=>none
theorem Vi{args:List Expr}{e:Expr}{x:Str}(h:W2 args=some (e,x)):∃p,args = [e,.Name x p]:=by
 rcases args with _ | ⟨a,_ | ⟨b,_ | ⟨d,es⟩⟩⟩<;>try exact @nn _ _ _ h
 replace h:(match Ez b with|some x=>some (a,x)|none=>none)=some (e,x):=h
 cases q:Ez b with
 | none=>rw[q]at h;cases h
 | some y=>
   rw[q]at h
   cases h
   obtain⟨p,rfl⟩:=Ia q
   exact⟨p,rfl⟩
noncomputable def Aac(f:Expr->Option X)(c:Cx)(x:Str)(args:List Expr):Option X:=
 if x==("sorted" :Str)then(match args with
  | [a]=>do return .bi .sortedL [<-f a]
  | _=>none)
 else if x==("list" :Str)then(match Mx c "range" args with
  | some as=>if as.length==1||as.length==2 then do return .bi .listRange (<-F7 f as)else none
  | none=>none)
 else match hOf x with
  | some y=>do return .call y (<-F7 f args)
  | none=>none
noncomputable def W3(f:Expr->Option X)(c:Cx)(x:Str)(args:List Expr):Option X:=
 if x==("isinstance" :Str)then(match W2 args with
  | some (e,t)=>if c.global t then(match Z8 t with
    | some ty=>do return .bi (.isinst ty) [<-f e]
    | none=>if t==("ValueError" :Str)then do return .isVE (<-f e)else do return .isown (<-Hr t) (<-f e))else none
  | none=>none)
 else if c.hnd then(if c.ovr then Aac f c x args else none)
 else match Ac8 x args.length with
  | some b=>(match b with
    | .list=>(match Mx c "range" args with
      | some as=>if as.length==1||as.length==2 then do return .bi .listRange (<-F7 f as)else none
      | none=>do return .bi b (<-F7 f args))
    | _=>do return .bi b (<-F7 f args))
  | none=>if Aga.contains x||(D9 x).isSome||x==("__debug__" :Str)||F8 x then none else if x==("Web" :Str)then do return .mk .web (<-F7 f args)else if x==("Verdict" :Str)then do return .mk .verdict (<-F7 f args)
    else do return .call x (<-F7 f args)
noncomputable def Ie:Expr->Bool
 | .Call (.Name _ _) [] [] _=>false
 | _=>true
noncomputable def F9(r:Cx->Expr->Option X)(c:Cx)(e:Expr):Option X:=
 match e with
 | .Constant k _ _=>(match k with
   | .none=>some .cnone | .bool b=>some (.cbool b) | .int i=>some (.cint i)|_=>none)
 | .Name x _=>if x==("__debug__" :Str)||x==("__classdict__" :Str)then none else(match c.slot x with
   | some i=>some (.var i)
   | none=>if c.global x then(if Ac9 x then some (.glob x)else none)else none)
 | .UnaryOp .Not e _=>do return .not (<-r c e)
 | .UnaryOp .USub e _=>do return .neg (<-r c e)
 | .BoolOp op es _=>O4 (r c) op es
 | .BinOp l op e _=>do return .bin op (<-r c l) (<-r c e)
 | .Compare l [o] [e] _=>do return .cmp o (<-r c l) (<-r c e)
 | .Compare l [o,o'] [m,e] _=>do return .chain (<-r c l) o (<-r c m) o' (<-r c e)
 | .Call (.Name x _) args [] _=>if c.global x then W3 (r c) c x args else none
 | .Call (.Attribute o m ap) args [] p=>if ap.endLine==p.line&&decide (args.length<3)&&Ie o then(match Oe m with
   | some g=>do return .meth g (<-r c o) (<-F7 (r c) args)
   | none=>do return .lm (<-Ac6 m) (<-r c o) (<-F7 (r c) args))else none
 | .Attribute o a _=>if Ie o then do return .attr (<-r c o) (<-Nk a)else none
 | .Subscript o (.Slice l u st _) _=>do return .slice (<-r c o) (<-Vh (r c) l) (<-Vh (r c) u) (<-Vh (r c) st)
 | .Subscript o s _=>do return .sub (<-r c o) (<-r c s)
 | .List es _=>if es.length<100 then do return .list (<-F7 (r c) es)else none
 | .Tuple es _ _=>if es.length<100 then do return .tuple (<-F7 (r c) es)else none
 | .Dict [] [] _=>some (.dict [] [])
 | .Dict [some k] [v] _=>do return .dict [<-r c k] [<-r c v]
 | .ListComp elt [⟨t,it,ifs,a⟩] sc _=>(match Ck t with
   | some ts=>if a==0&&Vf c.names c.sc sc ts && !c.cmp then(match ifs with
      | []=>do return .comp ts.length (<-Aab (r c) c (Lu t) it) (<-r ⟨ts++c.names,sc,false,true,false⟩ elt)
      | [cond]=>do return .compIf ts.length (<-Aab (r c) c (Lu t) it) (<-r ⟨ts++c.names,sc,false,true,false⟩ cond) (<-r ⟨ts++c.names,sc,false,true,false⟩ elt)
      | _=>none)
     else none
   | none=>none)
 | _=>none
set_option backward.match.sparseCases false in
noncomputable def Tp:Expr->Bool
 | .Constant .. =>true
 | .Name .. =>true
 | .UnaryOp .. =>true
 | .BoolOp .. =>true
 | .Compare .. =>true
 | .Attribute .. =>true
 | .Call (.Name _ _) _ _ _=>true
 | _=>false
noncomputable def Tq:Nat->Cx->Expr->Option X
 | 0=>fun _ _=>none
 | n+1=>fun c e=>if c.hnd && !Tp e then none else F9 (Tq n) c e
noncomputable def I7(f:Stmt->Option S):List Stmt->Option (List S)
 | []=>some []
 | e::r=>do return (<-f e)::(<-I7 f r)
noncomputable def Aiu(c:Cx):List Str->Option Tc
 | []=>none
 | x::r=>(match r with
   | []=>(c.own x).map .one
   | y::r'=>(match r' with
     | []=>do return .two (<-c.own x) (<-c.own y)
     | _::_=>none))
noncomputable def Aad(c:Cx)(e:Expr):Option Tc:=match Ck e with
 | some ts=>Aiu c ts
 | none=>none
theorem Ada{c:Cx}{e:Expr}{t:Tc}(h:Aad c e=some t):(∃x p,e = .Name x p/\B1 (c.own x) Tc.one t)\/(∃x p y q k r,e = .Tuple [.Name x p,.Name y q] k r/\B2 (c.own x) (c.own y) Tc.two t):=by
 replace h:(match Ck e with|some ts=>Aiu c ts|none=>none)=some t:=h
 cases q:Ck e with
 | none=>rw[q]at h;cases h
 | some ts=>
   refine Aa fun nY=>?_
   rcases Ib q with⟨x,p,rfl,rfl⟩ | ⟨x,p,y,p',k,r,rfl,rfl⟩
   ·refine nY ?_;clear nY
    refine .inl ⟨x,p,rfl,?_⟩
    refine Aa fun nY=>?_
    obtain⟨i,hi,e⟩:=Option.map_eq_some_iff.mp (show (c.own x).map Tc.one=some t from h)
    refine nY ?_;clear nY
    exact⟨i,hi,e⟩
   ·refine nY ?_;clear nY
    exact .inr ⟨x,p,y,p',k,r,rfl,b2 (show ((c.own x) >>= fun i=>(c.own y) >>= fun j=>pure (Tc.two i j))=some t from h)⟩
noncomputable def Q4:S->Bool
 | .expr _=>true
 | .assign _ _=>true
 | .ite _ [a] [b]=>Q4 a&&Q4 b
 | _=>false
noncomputable def Ig:List S->Bool
 | [a]=>Q4 a
 | _=>false
noncomputable def asO(c:Cx):Option Str->Option (Option Nat)
 | none=>some none
 | some x=>if c.sc.names.lookup x==some .local then(c.own x).map some else none
set_option backward.match.sparseCases false in
noncomputable def Lw:Expr->Bool
 | .ListComp .. =>false
 | .SetComp .. =>false
 | .DictComp .. =>false
 | _=>true
noncomputable def Tr(n:Nat)(c:Cx)(t e:Expr):Option S:=
 match t with
 | .Name x _=>do return .assign (<-c.own x) (<-Tq n c e)
 | .Attribute o a _=>do return .setattr (<-Tq n c o) (<-Nk a) (<-Tq n c e)
 | .Subscript o i _=>(match i with
   | .Slice .. =>none
   | i=>do return .setitem (<-Tq n c o) (<-Tq n c i) (<-Tq n c e))
 | _=>none
set_option backward.match.sparseCases false in
noncomputable def Aae:Expr->Bool
 | .Constant (.str _) _ _=>true
 | _=>false
theorem Adb{e:Expr}(h:Aae e=true):∃s k p,e = .Constant (.str s) k p:=by
 refine Aa fun nY=>?_
 cases e<;>try exact absurd h Bool.false_ne_true
 case Constant k a b=>
  cases k<;>try exact absurd h Bool.false_ne_true
  refine nY ?_;clear nY
  exact⟨_,_,_,rfl⟩
noncomputable def Gl(c:Cx)(e:Option Expr):Option Cn:=
 match e with
 | some e=>(match Di e with
   | some (x,args)=>(match args with
     | [a]=>if Aae a&&c.global x then Hr x else none
     | _=>none)
   | none=>none)
 | none=>none
noncomputable def Afk:Option Expr->Option Str
 | some e=>Ez e
 | none=>none
noncomputable def G5(c:Cx)(h:ExceptHandler):Option (Cn×Option Nat):=match h with
 | .ExceptHandler t as b _=>(match Afk t with
   | some x=>if c.global x && !b.isEmpty then do return (<-Hr x,<-asO c as)else none
   | none=>none)
noncomputable def Dj:ExceptHandler->List Stmt
 | .ExceptHandler _ _ b _=>b
noncomputable def I0(c:Cx)(h:ExceptHandler):Option Cn:=match G5 c h with
 | some (k,none)=>some k
 | _=>none
noncomputable def mk1(b:List S)(k:Cn×Option Nat)(h:List S):S:= .try1 b k.1 k.2 h
noncomputable def Ak5:Stmt->Bool
 | .Try .. =>true
 | _=>false
noncomputable def Ak6(b:List Stmt):Bool:=match b with
 | [s]=>Ak5 s
 | _=>false
noncomputable def mk2(b:List S)(k:Cn×Option Nat)(h:List S)(k':Cn)(h':List S):S:= .try2 b k.1 k.2 h k' h'
set_option backward.match.sparseCases false in
noncomputable def C1(n:Nat)(r:Cx->Stmt->Option S)(c:Cx)(s:Stmt):Option S:=
 match s with
 | .Assign ts e _=>(match ts with
   | [t]=>Tr n c t e
   | _=>none)
 | .Expr e _=>if Lw e then do return .expr (<-Tq n c e)else none
 | .If t a b _=>do return .ite (<-Tq n c t) (<-I7 (r c) a) (<-I7 (r c) b)
 | .For t it body els _=>(match els with
   | []=>do return .for (<-Aad c t) (<-Aab (Tq n c) c (Lu t) it) (<-I7 (r c) body)
   | _=>none)
 | .While t body els _=>(match els with
   | []=>do return .while (<-Tq n c t) (<-I7 (r c) body)
   | _=>none)
 | .Return e _=>(match e with
   | some e=>do return .ret (<-Tq n c e)
   | none=>none)
 | .Pass _=>some .pass
 | .Raise e z _=>(match z with
   | none=>if c.hnd then do return .raiseO (<-Gl c e)else do return .raise (<-Gl c e)
   | some _=>none)
 | .Try body hs els fin _=>(match els,fin with
   | [],[]=>(match I7 (r c) body with
     | some b=>if Ig b then(match hs with
       | [h]=>if Ak6 (Dj h)then(do return S.tryO b (<-I0 c h) (<-I7 (r {c with hnd:=true,ovr:=true}) (Dj h)))
         else do return mk1 b (<-G5 c h) (<-I7 (r {c with hnd:=true,ovr:=false}) (Dj h))
       | [h,h']=>do return mk2 b (<-G5 c h) (<-I7 (r {c with hnd:=true,ovr:=false}) (Dj h)) (<-I0 c h') (<-I7 (r {c with hnd:=true,ovr:=false}) (Dj h'))
       | h::_::_::_=>do return mk1 b (<-G5 c h) (<-I7 (r {c with hnd:=true,ovr:=false}) (Dj h))
       | []=>none)else none
     | none=>none)
   | _,_=>none)
 | _=>none
set_option backward.match.sparseCases false in
noncomputable def W4(o:Bool):Stmt->Bool
 | .Return .. =>true
 | .If .. =>true
 | .Expr .. =>o
 | .Raise .. =>o
 | .Try .. =>o
 | _=>false
noncomputable def W6(o:Bool)(x:Option S):Option S:=match x with
 | some y=>some y
 | none=>if o then some .bad else none
noncomputable def erS:Nat->Cx->Stmt->Option S
 | 0=>fun _ _=>none
 | n+1=>fun c s=>W6 c.ovr (if (c.hnd && !W4 c.ovr s)||c.cmp then none else C1 (n+1) (erS n) c s)
noncomputable def B0(params:Arguments)(sc:Scope):List Str:=
 params.args.map (·.arg)++(sc.names.filter fun p=>(p.2 == .local||p.2 == .cell) && !(params.args.any fun a=>a.arg==p.1)).map (·.1)
noncomputable def Fo(p:Arguments):Bool:=p.posonlyargs.isEmpty&&p.vararg.isNone&&p.kwonlyargs.isEmpty&&p.kw_defaults.isEmpty&&p.kwarg.isNone&&p.defaults.isEmpty
noncomputable def Adc(h:Bool)(params:Arguments)(body:List Stmt)(sc:Scope):Option Fn:=
 if Fo params&&sc.kind == .function && !sc.isGenerator && !sc.isCoroutine then do
  let ns:=B0 params sc
  return ⟨ns.length,params.args.length,<-I7 (erS 40 ⟨ns,sc,h,false,h⟩) body⟩
 else none
end Mine.Internal
namespace Mine.Internal
open PySem PySem.W PyProof.Rows
/-! an exception is handled,one without a context:a raise,and the end of a range -/
theorem Qb:entryFor table "proto.unchain" = some Builtin.«proto.unchain» :=entryFor_of_fast (by kernel_rfl)
section
variable {prog:Program} {w:World} {A:Around} {E:Value->Shared->Prop} {s:Shared} {e:Addr} {oe:Obj} {vs:Array Value}
theorem O5{α:Type}{e2:Addr}{o2:Obj}{ws:Array Value}{Q:α->Shared->Prop}(hh:A.handled=some (.ref e))(hne:e≠e2)(he:s.heap.get? e=some oe)(hd:oe.data = .fields vs)(hv:vs[2]? = some .none)(he2:s.heap.get? e2=some o2)(hd2:o2.data = .fields ws)(hz:2<ws.size)
 (q:E (.ref e2) {s with heap:=s.heap.update e2 (Obj.mapFields (·.setIfInBounds 2 (.ref e)))}):wpAny (model prog w) A (raiseNew (.ref e2):Sem α) Q E s:=by
 unfold raiseNew
 refine wpAny_bind (wpAny_handled ?_)
 rw[hh]
 show wpAny (model prog w) A (if (Value.ref e != Value.ref e2)=true then(do
  let _ <-holding [Value.ref e2] (runValue (.builtin "proto.unchain" ⟨[.ref e2,.ref e,.ref e,.bool false],[]⟩))
  let _ <-updateField e2 2 (.ref e)
  throw (.ref e2))else throw (.ref e2)) Q E s
 rw[if_pos (by simp[hne])]
 refine wpAny_bind (wpAny_holding (runValue_entry Qb ?_))
 show wpAny (model prog w) _ (do
  let context <-field (.ref e) 2
  if context == .none then return <-PySem.ret .none
  if context == .ref e2 then
   rule "raise.context-cycle-cut"
   setField (.ref e) 2 .none
   return <-PySem.ret .none
  if context == .ref e then rule "raise.context-old-cycle";return <-PySem.ret .none
  let slow <-if false then field (.ref e) 2 else pure (.ref e)
  PySem.again (.builtin "proto.unchain" ⟨[.ref e2,context,slow,.bool !false],[]⟩)) _ _ _
 refine wpAny_bind (wpAny_field he hd hv ?_)
 rw[if_pos (by decide)]
 refine wpAny_bind (wpAny_pure (wpAny_pure ⟨_,rfl,?_⟩))
 exact wpAny_bind (wpAny_setField (x:= .ref e) he2 hd2 hz (wpAny_throw q))
theorem Qc{it:Addr}{x Xv step:Int}{Q:Option Value->Shared->Prop}(hh:A.handled=some (.ref e))(he:s.heap.get? e=some oe)(hd:oe.data = .fields vs)(hv:vs[2]? = some .none)(hit:IsRangeIter s.heap it x Xv step)(hleft:Xv<=0)
 (hQ:∀h',(∀b o,s.heap.get? b=some o->h'.get? b=some o)->Q none {s with heap:=h'}):wpAny (model prog w) A (pyNext (.ref it)) Q E s:=by
 have hT:s.TypeIs (.ref it) "range_iterator" :=⟨_,hit,rfl⟩
 unfold pyNext
 refine wpAny_bind (wpAny_attempt (wpAny_callSpecial?_slot (name:=Str.ofString "__next__") hT F.slot_range_iterator_next
  (wpAny_call_entry F.slot_range_iterator_next hT F.entry_range_iterator_next ?_ (F.args_range_iterator_next_1 _))))
 show wpAny _ _ (field (.ref it) 0 >>= _) _ _ s
 refine wpAny_bind (wpAny_field hit rfl (x:=rawInt x) rfl ?_)
 show wpAny _ _ (field (.ref it) 1 >>= _) _ _ s
 refine wpAny_bind (wpAny_field hit rfl (x:=rawInt Xv) rfl ?_)
 show wpAny _ _ (field (.ref it) 2 >>= _) _ _ s
 refine wpAny_bind (wpAny_field hit rfl (x:=rawInt step) rfl ?_)
 show wpAny _ _ (if Xv<=0 then _ else _) _ _ s
 rw[if_pos hleft]
 refine wpAny_bind (wpAny_rule ?_)
 refine wpAny_bind ?_
 show wpAny _ _ (newExc (.type "StopIteration") [] >>= _) _ _ _
 refine wpAny_bind ?_
 simp only[newExc,newTuple]
 refine wpAny_bind (wpAny_newObj_type ?_ (by size_fits))
 refine wpAny_bind (m:=firstArgMember _ _) (wpAny_of_eq (a:=Value.none) (by first|rfl|(simp only[firstArgMember];rfl)) ?_)
 refine wpAny_newObj_type ?_ (by size_fits)
 have old:∀ {b o} (o1 o2:Obj),s.heap.get? b=some o->((s.heap.push o1).push o2).get? b=some o:=fun o1 o2 z=>Heap.get?_push_of_some _ (Heap.get?_push_of_some _ z)
 have hlt:∀ {b o} (o1:Obj),s.heap.get? b=some o->b≠(s.heap.push o1).objs.size:=fun o1 z=>Nat.ne_of_lt (Heap.lt_size (Heap.get?_push_of_some o1 z))
 refine O5 (A:=A.in1) hh (hlt _ he) (old _ _ he) hd hv (Heap.get?_push_size _ rfl) rfl (Nat.lt_of_lt_of_le (show 2<6 by decide) (by rw[Array.size_append];exact Nat.le_add_right _ _)) ?_
 refine wpAny_bind (wpAny_isInstance (T:= "StopIteration") (b:=true) ⟨_,Heap.get?_update_self _ (Heap.get?_push_size _ rfl) rfl,rfl⟩ isSubtype_stop ?_)
 exact wpAny_pure (hQ _ fun b o z=>(Heap.get?_update_other _ _ (Ne.symm (hlt _ z))).trans (old _ _ z))
theorem Vj(hh:A.handled=some (.ref e))(hd:oe.data = .fields vs)(hv:vs[2]? = some .none)(I:Addr)(hI:e≠I)(a c:Int)(n:Nat) :
 Walks prog w A I [I,e] [I] n (fun i v=>∃t,v = .int (a+i*c) t) (fun i h=>IsRangeIter h I (a+(i:Nat)*c) ((n:Int)-(i:Nat)) c/\h.get? e=some oe) where
 sub:=fun b hb=>by rw[List.mem_singleton.mp hb];exact .head _
 frame:=fun _ _ _ st hk=>⟨hk I (.head _) _ st.1,hk e (.tail _ (.head _)) _ st.2⟩
 item:=fun i s Q E hi st hQ=>by
  refine wpAny_pyNext_range_item st.1 (by omega) fun h' hit' hs'=>?_
  refine hQ _ h' _ ⟨_,rfl⟩ ⟨?_,hs'.extBut e _ hI st.2⟩ fun b o hb e=>hs'.extBut b o (fun h=>hb (by simp[h])) e
  have e1:a+((i+1:Nat):Int)*c=a+(i:Int)*c+c:=by push_cast;rw[Int.add_mul,Int.one_mul,Int.add_assoc]
  have e2:(n:Int)-((i+1:Nat):Int)=(n:Int)-(i:Int)-1:=by push_cast;omega
  rw[e1,e2];exact hit'
 done:=fun s Q E st hQ=>Qc hh st.2 hd hv st.1 (by omega) fun h' he'=>hQ h' s.toks fun b o _ e=>he' b o e
 self:=fun _ _ _ _ st hQ=>wpAny_pyIter_rangeiter st.1 hQ
theorem Ts{R:Result->Shared->Prop}{r:Addr}{a b c:Int}{t u v:Tok}{n:Nat}(hh:A.handled=some (.ref e))(he:s.heap.get? e=some oe)(hd:oe.data = .fields vs)(hv:vs[2]? = some .none)(hr:IsRange s.heap r a b c t u v)(hsmall:Builtin.Range.small a b c=true)
 (hn:Builtin.Range.rangeSize a b c=n) (hlen:n<=2 ^ 24) (S:Addr) (res:Value) (c₀:Nat) (hS:s.heap.get? S=some {cls:= .type "list",data:= .seq #[] c₀})
 (hR:∀h' tk acc' c',(∀b o,b≠S->s.heap.get? b=some o->h'.get? b=some o)->h'.get? S=some {cls:= .type "list",dict:=none,data:= .seq acc' c',slots:= #[]} ->
   ItemsOf (fun i v=>∃t,v = .int (a+i*c) t) acc' n->R (.ok (.ret res)) {s with heap:=h',toks:=tk}) :
 wpAny (model prog w) A.in1 (Builtin.List.listExtendWith (.ref S) (.ref r) res)
  (fun fin s'=>match fin with | .done f=>R (.ok f) s' | .again c'=>c'.quiet=true/\codeAny (model prog w) A c' R s') (fun e s'=>R (.error e) s') s:=by
 have hSr:S≠r:=fun e=>by rw[e,hr]at hS;simp at hS
 have hSe:S≠e:=fun z=>by rw[z,he]at hS;cases hS;cases hd
 have hSI:S≠s.heap.objs.size:=Nat.ne_of_lt (Heap.lt_size hS)
 have heI:e≠s.heap.objs.size:=Nat.ne_of_lt (Heap.lt_size he)
 have hSf:S∉[s.heap.objs.size,e]:=fun hm=>by
  rcases List.mem_cons.mp hm with z|z
  ·exact hSI z
  ·exact hSe (List.mem_singleton.mp z)
 have W:=(Vj (prog:=prog) (w:=w) (A:=A.in1) hh hd hv s.heap.objs.size heI a c n).toS
 have key:∀(h:Heap) (c₁ tk:Nat),IsRangeIter h s.heap.objs.size (a+((0:Nat):Int)*c) ((n:Int)-((0:Nat):Int)) c->(∀b o,b≠S->s.heap.get? b=some o->h.get? b=some o)->
  h.get? S=some {cls:= .type "list",data:= .seq #[] c₁} ->codeAny (model prog w) A (.builtin "list.extend.loop" ⟨[.ref S,.ref s.heap.objs.size,res],[]⟩) R {s with heap:=h,toks:=tk}:=by
  intro h c₁ tk hit hk hS₁
  refine codeAny_extend_loopS W (by rw[sizeLine_eq];omega) S hSf res n 0 _ #[] c₁ rfl (Nat.zero_le _) ⟨hit,hk e _ (Ne.symm hSe) he⟩ hS₁ (ItemsOf.nil _) fun s' acc' c' hm hS' hacc=>?_
  rw[Moved.eq_with hm]
  refine hR s'.heap s'.toks acc' c' (fun b o hb e=>hm.heap b o (fun hmem=>?_) (hk b o hb e)) hS' hacc
  rcases List.mem_cons.mp hmem with e'|hmem
  ·exact hb e'
  ·exact absurd (Heap.lt_size e) (by rw[List.mem_singleton.mp hmem];exact Nat.lt_irrefl _)
 unfold Builtin.List.listExtendWith
 refine wpAny_bind (wpAny_typeOf (T:= "range") ⟨_,hr,rfl⟩ ?_)
 have h1:Builtin.List.listSameRef (.ref S) (.ref r)=false:=by simp[Builtin.List.listSameRef,hSr]
 have h2:(Value.type "range" == Value.type "list")=false:=by decide
 have h3:(Value.type "range" == Value.type "tuple")=false:=by decide
 simp only[h1,h2,h3,Bool.or_false,Bool.false_eq_true,if_false]
 refine wpAny_bind (wpAny_pyIter_range hr hsmall ?_)
 refine wpAny_bind (wpAny_holding (wpAny_hint_range (n:=n) (Heap.get?_push_of_some _ hr) hn hlen ?_))
 have hit₁:IsRangeIter (s.heap.push {cls:= .type "range_iterator",data:= .fields #[rawInt a,rawInt (Builtin.Range.rangeSize a b c),rawInt c]}) s.heap.objs.size (a+((0:Nat):Int)*c) ((n:Int)-((0:Nat):Int)) c:=by
  show IsRangeIter _ _ _ _ _;rw[hn];simpa using Heap.get?_push_size _ rfl
 have hS₁:=Heap.get?_push_of_some {cls:= .type "range_iterator",data:= .fields #[rawInt a,rawInt (Builtin.Range.rangeSize a b c),rawInt c]} hS
 refine wpAny_ite_split (fun _=>?_) (fun _=>wpAny_pure ⟨plainId_quiet F.plain_extend_loop _,key _ c₀ _ hit₁ (fun b o _ e=>Heap.get?_push_of_some _ e) hS₁⟩)
 refine wpAny_bind (wpAny_rule ?_)
 refine wpAny_bind ?_
 show wpAny _ _ (updateSeq S (·.push .none) >>= fun _=>updateSeq S (·.pop)) _ _ _
 refine wpAny_bind (wpAny_updateSeq hS₁ rfl ?_)
 have hS₂:=Heap.get?_update_self (Obj.mapSeq (·.push Value.none)) hS₁ rfl
 refine wpAny_updateSeq (hz:=by seq_fits) hS₂ rfl ?_
 have hS₃:=Heap.get?_update_self (Obj.mapSeq (·.pop)) hS₂ rfl
 refine wpAny_pure ⟨plainId_quiet F.plain_extend_loop _,key _ _ _ ?_ (fun b o hb e=>?_) hS₃⟩
 ·exact(Heap.get?_update_other _ _ hSI).trans ((Heap.get?_update_other _ _ hSI).trans hit₁)
 ·exact(Heap.get?_update_other _ _ (Ne.symm hb)).trans ((Heap.get?_update_other _ _ (Ne.symm hb)).trans (Heap.get?_push_of_some _ e))
theorem N5{Q:Value->Shared->Prop}{r:Addr}{a b c:Int}{t u v:Tok}{n:Nat}(hh:A.handled=some (.ref e))(he:s.heap.get? e=some oe)(hd:oe.data = .fields vs)(hv:vs[2]? = some .none)(hr:IsRange s.heap r a b c t u v)(hsmall:Builtin.Range.small a b c=true)
 (hn:Builtin.Range.rangeSize a b c=n) (hlen:n<=2 ^ 24)
 (hQ:∀h' tk acc' c',(∀b o,s.heap.get? b=some o->h'.get? b=some o)->
   h'.get? s.heap.objs.size=some {cls:= .type "list",dict:=none,data:= .seq acc' c',slots:= #[]} ->ItemsOf (fun i v=>∃t,v = .int (a+i*c) t) acc' n->Q (.ref s.heap.objs.size) {s with heap:=h',toks:=tk}) :
 wpAny (model prog w) A (call (.type "list") [.ref r]) Q E s:=by
 refine callType_codes (Q₁:=fun obj s₁=>obj = .ref s.heap.objs.size/\s₁ = {s with heap:=s.heap.push {cls:= .type "list",data:= .seq #[]}}) F.called_list (F.typeCall_list_1 _) F.entry_list_init
  (code_list_new _ ⟨rfl,rfl⟩) fun obj s₁ h₁=>?_
 obtain⟨rfl,rfl⟩:=h₁
 have hS:(s.heap.push {cls:= .type "list",data:= .seq #[]}).get? s.heap.objs.size=some {cls:= .type "list",data:= .seq #[]}:=Heap.get?_push_size _ rfl
 refine⟨⟨_,hS,rfl⟩,F.args_list_init_2 _ _,?_⟩
 have fin:∀h' tk acc' c',(∀b o,b≠s.heap.objs.size->(s.heap.push {cls:= .type "list",data:= .seq #[]}).get? b=some o->h'.get? b=some o)->h'.get? s.heap.objs.size=some {cls:= .type "list",dict:=none,data:= .seq acc' c',slots:= #[]} ->
  ItemsOf (fun i v=>∃t,v = .int (a+i*c) t) acc' n->Q (.ref s.heap.objs.size) {s with heap:=h',toks:=tk}:=fun h' tk acc' c' hk hS' hacc=>hQ h' tk acc' c' (fun b o e=>hk b o (Nat.ne_of_lt (Heap.lt_size e)) (Heap.get?_push_of_some _ e)) hS' hacc
 show wpAny _ _ (do let old <-Builtin.List.listItems (.ref s.heap.objs.size);Builtin.List.listUpdate (.ref s.heap.objs.size) (fun _=> #[]);letGo old.toList.reverse;Builtin.List.listExtendWith (.ref s.heap.objs.size) (.ref r) .none) _ _ _
 refine wpAny_bind ?_
 unfold Builtin.List.listItems
 refine wpAny_bind (wpAny_seqItems hS rfl (wpAny_pure ?_))
 show wpAny _ _ (updateSeq s.heap.objs.size (fun _=> #[]) >>= fun _=>letGo (#[]:Array Value).toList.reverse >>= fun _=>Builtin.List.listExtendWith (.ref s.heap.objs.size) (.ref r) .none) _ _ _
 refine wpAny_bind (wpAny_updateSeq hS rfl ?_)
 have hS₂:=Heap.get?_update_self (Obj.mapSeq (fun _=>(#[]:Array Value))) hS rfl
 have oth:∀b o,s.heap.get? b=some o->((s.heap.push {cls:= .type "list",data:= .seq #[]}).update s.heap.objs.size (Obj.mapSeq (fun _=>(#[]:Array Value)))).get? b=some o:=
  fun b o z=>(Heap.get?_update_other _ _ (Ne.symm (Nat.ne_of_lt (Heap.lt_size z)))).trans (Heap.get?_push_of_some _ z)
 refine wpAny_bind (wpAny_letGo ?_)
 refine Ts (A:=A.in1) hh (oth e _ he) hd hv (oth r _ hr) hsmall hn hlen s.heap.objs.size .none _ hS₂ fun h' tk acc' c' hk hS' hacc=>?_
 exact⟨rfl,fin h' tk acc' c' (fun b o hb z=>hk b o hb ((Heap.get?_update_other _ _ (Ne.symm hb)).trans z)) hS' hacc⟩
end
end Mine.Internal
namespace Mine.Internal
open PySem PySem.W PyProof.Rows
set_option genCtorIdx false in
structure Wd where
 prog:Program
 w:World
 K:Frag
 cl:Cn->Addr
 b₀:Heap
 os:OsState
 sa:Addr
 sn:List Int
 hsc:(Oo fun items=>D3 (b₀.IsList sa items.toArray) (PyProof.Rows.IntsAre items sn) (items.length<=Bs))
variable {W:Wd}
noncomputable abbrev Wd.M(W:Wd):Model:=model W.prog W.w
inductive VR(W:Wd):V->Value->Prop
 | none:VR W .none .none
 | bool (b):VR W (.bool b) (.bool b)
 | int (i t):VR W (.int i) (.int i t)
 | ref (a):VR W (.ref a) (.ref a)
 | script:VR W (.script W.sn) (.ref W.sa)
inductive Cv(W:Wd):List V->List Value->Prop
 | nil:Cv W [] []
 | cons {v c vs cs}:VR W v c->Cv W vs cs->Cv W (v::vs) (c::cs)
theorem Cv.length:∀ {vs cs},Cv W vs cs->vs.length=cs.length
 | _,_,.nil=>rfl
 | _,_,.cons _ t=>by simp[t.length]
theorem Cv.append:∀ {vs cs vs' cs'},Cv W vs cs->Cv W vs' cs'->Cv W (vs++vs') (cs++cs')
 | _,_,_,_,.nil,h=>h
 | _,_,_,_,.cons h t,h'=> .cons h (t.append h')
theorem Cv.get:∀ {vs cs} (i:Nat) {v},Cv W vs cs->vs[i]? = some v->∃c,cs[i]? = some c/\VR W v c
 | _,_,0,_,.cons h _,e=>by simp at e;subst e;exact⟨_,rfl,h⟩
 | _,_,i+1,_,.cons _ t,e=>by simp at e;simpa using t.get i e
theorem Cv.get':∀ {vs cs} (i:Nat) {c},Cv W vs cs->cs[i]? = some c->∃v,vs[i]? = some v/\VR W v c
 | _,_,0,_,.cons h _,e=>by simp at e;subst e;exact⟨_,rfl,h⟩
 | _,_,i+1,_,.cons _ t,e=>by simp at e;simpa using t.get' i e
theorem Cv.set:∀ {vs cs} (i:Nat) {v c},Cv W vs cs->VR W v c->Cv W (vs.set i v) (cs.set i c)
 | _,_,_,_,_,.nil,_=> .nil
 | _,_,0,_,_,.cons _ t,h=> .cons h t
 | _,_,i+1,_,_,.cons h' t,h=> .cons h' (t.set i h)
theorem Cv.take:∀ {vs cs} (n:Nat),Cv W vs cs->Cv W (vs.take n) (cs.take n)
 | _,_,0,_=>by simpa using Cv.nil
 | _,_,_+1,.nil=> .nil
 | _,_,n+1,.cons h t=> .cons h (t.take n)
theorem Cv.drop:∀ {vs cs} (n:Nat),Cv W vs cs->Cv W (vs.drop n) (cs.drop n)
 | _,_,0,h=>h
 | _,_,_+1,.nil=> .nil
 | _,_,n+1,.cons _ t=>t.drop n
theorem Cv.reverse:∀ {vs cs},Cv W vs cs->Cv W vs.reverse cs.reverse
 | _,_,.nil=> .nil
 | _,_,.cons h t=>by simp only[List.reverse_cons];exact t.reverse.append (.cons h .nil)
theorem Cv.replicate{vs cs}(h:Cv W vs cs):∀n,Cv W (List.replicate n vs).flatten (List.replicate n cs).flatten
 | 0=> .nil
 | n+1=>by simp only[List.replicate_succ,List.flatten_cons];exact h.append (h.replicate n)
noncomputable def A4:C9->Str
 | .many=> "many" | .rows=> "rows" | .order=> "order" | .ring=> "ring" | .crowd=> "crowd" | .colours=> "colours"
inductive X2(W:Wd):List (C9×V)->List DictEntry->Prop
 | nil:X2 W [] []
 | cons {a v fs e es}:e.key.isStr (A4 a)=true->(∃t,e.key = .str (A4 a) t)->VR W v e.val->X2 W fs es->X2 W ((a,v)::fs) (e::es)
inductive U6(W:Wd):List (Int×V)->List (Int×Value)->Prop
 | nil:U6 W [] []
 | cons {k v c es kvs}:VR W v c->U6 W es kvs->U6 W ((k,v)::es) ((k,c)::kvs)
noncomputable def VE:List Value:=[.type "ValueError",.type "Exception",.type "BaseException",.type "object"]
noncomputable def Lx:Cn->Str
 | .webError=> "WebError" | .badWeb=> "BadWeb" | .noPoint=> "NoPoint" | .badText=> "BadText" | .badOrder=> "BadOrder" | .hasGap=> "HasGap" | _=> ""
theorem Ly{x:Str}{c:Cn}(h:Hr x=some c):x=Lx c:=(by decide:∀p∈Mw,p.1=Lx p.2) (x,c) (El h)
noncomputable def O6(K:Frag)(C:Addr):List Value:=match K.lookup C with
 | some ⟨_,_,.cls cd,_⟩=>cd.mro
 | _=>[]
noncomputable def Kz:List Str:=["__getattribute__","__getattr__","__class__"]
noncomputable def Lz(K:Frag):List Value->Bool
 | []=>false
 | v::r=>(v::r)==VE||(match v with
   | .ref A=>(match K.lookup A with
     | some ⟨_,_,.cls cd,_⟩=>nsOkIn K cd.ns&&Kz.all (fun n=>nsIn K cd.ns n==some none)&&Lz K r
     | _=>false)
   | _=>false)
structure L0(W:Wd)(c:Cn):Prop where
 name:nsIn W.K mainGlobals (Lx c)=some (some (.ref (W.cl c)))
 own:excIn W.K (W.cl c) VE "ValueError.__new__" = true
 quiet:Lz W.K (O6 W.K (W.cl c))=true
inductive OR(W:Wd):O->Obj->Prop
 | list {xs items n}:Cv W xs items->xs.length<=Bs->OR W (.list xs) {cls:= .type "list",data:= .seq items.toArray n}
 | tuple {xs items n}:Cv W xs items->xs.length<=Bs->OR W (.tuple xs) {cls:= .type "tuple",data:= .seq items.toArray n}
 | dict {es kvs ob}:U6 W es kvs->es.length<=Bs->ob.IsDictOf (intKind W.prog W.w) kvs->OR W (.dict es) ob
 | inst {c d}:(c = .web\/c = .verdict)->OR W (.inst c d) (instObj (W.cl c) d)
 | ns {fs es n}:X2 W fs es->fs.length<=10->OR W (.ns fs) (dictOf es n)
 | exc {c k ob vs}:L0 W c->ob.cls = .ref (W.cl c)->ob.data = .fields vs->(k=true->vs[2]? = some .none)->OR W (.exc c k) ob
set_option genCtorIdx false in
structure HB where
 h:Heap
 fs:List Addr
noncomputable def HB.get? (x:HB)(a:Addr):Option Obj:=x.h.get? a
noncomputable def Vk(W:Wd)(fs:List Addr)(b:Addr)(o o':Obj):Prop:=o'=o\/((b∈fs/\W.b₀.get? b=none)/\∃sl,o' = {o with slots:=sl})
theorem Vk.refl{fs:List Addr}{b:Addr}{o:Obj}:Vk W fs b o o:= .inl rfl
theorem Vk.trans{fs:List Addr}{b:Addr}{o o' o'':Obj}(h:Vk W fs b o o')(h':Vk W fs b o' o''):Vk W fs b o o'':=by
 rcases h with rfl | ⟨d,sl,rfl⟩
 ·exact h'
 ·rcases h' with rfl | ⟨_,sl',rfl⟩
  ·exact .inr ⟨d,sl,rfl⟩
  ·exact .inr ⟨d,sl',rfl⟩
noncomputable def Gm(W:Wd)(h:HB)(h':Heap):Prop:=∀b o,h.get? b=some o->∃o',h'.get? b=some o'/\Vk W h.fs b o o'
theorem Gm.of{h:HB}{h':Heap}(k:∀b o,h.get? b=some o->h'.get? b=some o):Gm W h h':=fun b o e=>⟨o,k b o e,.refl⟩
theorem Gm.more{h:HB}{h' h'':Heap}(k:Gm W h h')(k':∀b o,h'.get? b=some o->h''.get? b=some o):Gm W h h'':=fun b o e=>
 let ⟨o',e1,s1⟩:=k b o e;⟨o',k' b o' e1,s1⟩
theorem Gm.trans{h h₁:HB}{h'':Heap}(k:Gm W h h₁.h)(hf:∀b o,h.get? b=some o->b∈h₁.fs->b∈h.fs)(k':Gm W h₁ h''):Gm W h h'':=fun b o e=>
 let ⟨_,e1,s1⟩:=k b o e;let ⟨_,e2,s2⟩:=k' b _ e1;⟨_,e2,s1.trans (s2.imp id fun⟨⟨m,n⟩,z⟩=>⟨⟨hf b o e m,n⟩,z⟩)⟩
theorem Gm.exact{h:HB}{h':Heap}(k:Gm W h h'){b:Addr}{o:Obj}(e:h.get? b=some o)(hx:b∉h.fs\/W.b₀.get? b≠none):h'.get? b=some o:=by
 refine Aa fun nY=>?_
 obtain⟨o',e1,s | ⟨⟨d,n⟩,_⟩⟩:=k b o e
 ·refine nY ?_;clear nY
  rw[e1,s]
 ·rcases hx with hx|hx
  ·exact absurd d hx
  ·exact absurd n hx
theorem Gm.ns{h:HB}{h':Heap}(k:Gm W h h'){a:Addr}{m:Str->Option Value}(x:h.h.Ns a m):h'.Ns a m:=by
 refine Aa fun nY=>?_
 obtain⟨o,es,ep,ho,hd,r⟩:=x
 obtain⟨o',e1,s⟩:=k a o ho
 refine nY ?_;clear nY
 refine⟨o',es,ep,e1,?_,r⟩
 rcases s with rfl | ⟨_,_,rfl⟩<;>exact hd
theorem Gm.none{h:HB}{h':Heap}(k:Gm W h h'){b:Addr}(e:h'.get? b=none):h.get? b=none:=by
 cases q:h.get? b with
 | none=>rfl
 | some o=>obtain⟨_,e1,_⟩:=k b o q;rw[e]at e1;cases e1
structure An(W:Wd)(h₀:HB)(env:Env)(names:List Str)(H:AH)(ρ:Al)(s:Shared):Prop where
 ns:∃m,s.heap.Ns env.locals m/\∀x i v,names.idxOf? x=some i->env.kindOf x=some .local->ρ[i]? = some (some v)->∃c,m x=some c/\VR W v c
 cell:∀x a,env.cells.lookup x=some a->∃w,s.heap.IsCell a w/\∀i v,names.idxOf? x=some i->(env.kindOf x=some .cell\/env.kindOf x=some .free)->ρ[i]? = some (some v)->∃c,w=some c/\VR W v c
 keep:Gm W h₀ s.heap
 objs:∀a o,H a=some o->∃ob,s.heap.get? a=some ob/\OR W o ob
 sep:∀a o,H a=some o->h₀.get? a=none/\a≠env.locals/\∀x,env.cells.lookup x≠some a
 gens:s.gens = #[]
 os:s.os=W.os
 above:W.b₀.objs.size<=env.locals
 low:∀a es,H a=some (.dict es)->W.b₀.objs.size<=a
structure Ai(W:Wd)(env:Env)(c:Cx)(h₀:HB):Prop where
 kind:env.scope.kind = .function
 globals:env.globals=mainGlobals
 builtins:env.builtins=builtinsNs
 kinds:∀x k,c.sc.names.lookup x=some k->k≠ .free->env.kindOf x=some k
 frees:∀x,c.sc.names.lookup x=some .free->env.kindOf x=some .cell\/env.kindOf x=some .free
 cells:∀x,env.kindOf x=some .cell\/env.kindOf x=some .free->∃a,env.cells.lookup x=some a
 apart:∀x a,env.cells.lookup x=some a->a≠env.locals
 inj:∀x y a,env.cells.lookup x=some a->env.cells.lookup y=some a->x=y
 base:∀b o,W.b₀.get? b=some o->h₀.get? b=some o
 new:h₀.get? env.locals=none
 fsok:∀L∈h₀.fs,h₀.get? L≠none
 fsd:∀L∈h₀.fs,W.b₀.get? L=none/\∀o,h₀.get? L=some o->∀vs,o.data≠ .fields vs
 newc:∀p∈env.cells,h₀.get? p.2=none
 look:∀p∈env.cells,env.cells.lookup p.1=some p.2
 lo:sysModules<W.b₀.objs.size
section
variable {h₀:HB} {env:Env} {names:List Str} {H:AH} {ρ:Al} {s:Shared}
theorem An.toks(R:An W h₀ env names H ρ s)(t:Nat):An W h₀ env names H ρ {s with toks:=t}:=⟨R.ns,R.cell,R.keep,R.objs,R.sep,R.gens,R.os,R.above,R.low⟩
theorem An.move(R:An W h₀ env names H ρ s){h':Heap}(t:Nat)(k:∀b o,s.heap.get? b=some o->h'.get? b=some o):An W h₀ env names H ρ {s with heap:=h',toks:=t} where
 ns:=let ⟨m,a,b⟩:=R.ns;⟨m,a.keeps k,b⟩
 cell:=fun x a e=>let ⟨w,⟨o,ho,hd⟩,r⟩:=R.cell x a e;⟨w,⟨o,k _ _ ho,hd⟩,r⟩
 keep:=R.keep.more k
 objs:=fun a o e=>let ⟨ob,h1,h2⟩:=R.objs a o e;⟨ob,k _ _ h1,h2⟩
 sep:=R.sep
 gens:=R.gens
 os:=R.os
 above:=R.above
 low:=R.low
theorem Sf{h h₀:Heap}(k:∀b o,h₀.get? b=some o->h.get? b=some o):h₀.get? h.objs.size=none:=by
 cases q:h₀.get? h.objs.size with
 | none=>rfl
 | some o=>exact absurd (Heap.lt_size (k _ _ q)) (Nat.lt_irrefl _)
theorem An.fresh(R:An W h₀ env names H ρ s):H s.heap.objs.size=none:=by
 cases q:H s.heap.objs.size with
 | none=>rfl
 | some o=>obtain⟨ob,h1,_⟩:=R.objs _ _ q;exact absurd (Heap.lt_size h1) (Nat.lt_irrefl _)
theorem Q8{a:Addr}{h:Heap}(ha:h.objs.size<=a):h.get? a=none:=by
 cases q:h.get? a with
 | none=>rfl
 | some o=>exact absurd (Heap.lt_size q) (Nat.not_lt.mpr ha)
theorem An.up(R:An W h₀ env names H ρ s):W.b₀.objs.size<=s.heap.objs.size:=by
 obtain⟨m,h,_⟩:=R.ns;exact Nat.le_trans R.above (Nat.le_of_lt h.lt)
theorem An.put(R:An W h₀ env names H ρ s){h':Heap}{a:Addr}{o:O}{ob:Obj}(t:Nat)(k:∀b o,s.heap.get? b=some o->h'.get? b=some o)
 (ho:h'.get? a=some ob) (r:OR W o ob) (hn:s.heap.get? a=none) (hb:∀es,o = .dict es->W.b₀.objs.size<=a):An W h₀ env names (upd H a o) ρ {s with heap:=h',toks:=t} where
 ns:=let ⟨m,x,b⟩:=R.ns;⟨m,x.keeps k,b⟩
 cell:=fun x a e=>let ⟨w,⟨o,ho,hd⟩,r⟩:=R.cell x a e;⟨w,⟨o,k _ _ ho,hd⟩,r⟩
 keep:=R.keep.more k
 objs:=fun b o' e=>by
  unfold upd at e
  split at e
  ·rename_i q;subst q;cases e;exact⟨ob,ho,r⟩
  ·obtain⟨ob',h1,h2⟩:=R.objs b o' e;exact⟨ob',k _ _ h1,h2⟩
 sep:=fun b o' e=>by
  unfold upd at e
  split at e
  ·rename_i q;subst q
   refine⟨?_,?_,?_⟩
   ·exact R.keep.none hn
   ·rintro rfl;obtain⟨m,⟨o,_,_,h,_⟩,_⟩:=R.ns;rw[h]at hn;cases hn
   ·intro x q;obtain⟨w,⟨o,h,_⟩,_⟩:=R.cell x b q;rw[h]at hn;cases hn
  ·exact R.sep b o' e
 gens:=R.gens
 os:=R.os
 above:=R.above
 low:=fun b o' e=>by
  unfold upd at e
  split at e
  ·rename_i q;subst q;exact hb _ (Option.some.inj e)
  ·exact R.low b o' e
theorem B5(h:Heap):h.get? h.objs.size=none:=by
 cases q:h.get? h.objs.size with
 | none=>rfl
 | some o=>exact absurd (Heap.lt_size q) (Nat.lt_irrefl _)
theorem An.change(R:An W h₀ env names H ρ s){h':Heap}{a:Addr}{o o':O}{ob:Obj}(t:Nat)(he:H a=some o')(k:Heap.SameBut a s.heap h')
 (ho:h'.get? a=some ob) (r:OR W o ob) (hl:∀es,o = .dict es->∃es',o' = .dict es'):An W h₀ env names (upd H a o) ρ {s with heap:=h',toks:=t}:=by
 refine Aa fun nY=>?_
 obtain⟨s1,s2,s3⟩:=R.sep a o' he
 refine nY ?_;clear nY
 refine⟨?_,?_,?_,?_,?_,R.gens,R.os,R.above,?_⟩
 ·obtain⟨m,x,b⟩:=R.ns;exact⟨m,x.sameBut k (Ne.symm s2),b⟩
 ·intro x c e
  refine Aa fun nY=>?_
  obtain⟨w,⟨oc,hc,hd⟩,r⟩:=R.cell x c e
  refine nY ?_;clear nY
  exact⟨w,⟨oc,(k.2 c (fun q=>s3 x (q▸e))).trans hc,hd⟩,r⟩
 ·intro b x e
  refine Aa fun nY=>?_
  obtain⟨x',e1,z⟩:=R.keep b x e
  refine nY ?_;clear nY
  exact⟨x',(k.2 b (fun q=>by rw[q,s1]at e;cases e)).trans e1,z⟩
 ·intro b x e
  unfold upd at e
  refine Aa fun nY=>?_
  split at e
  ·refine nY ?_;clear nY
   rename_i q;subst q;cases e;exact⟨ob,ho,r⟩
  ·refine nY ?_;clear nY
   rename_i q;obtain⟨ob',h1,h2⟩:=R.objs b x e;exact⟨ob',(k.2 b q).trans h1,h2⟩
 ·intro b x e
  unfold upd at e
  refine Aa fun nY=>?_
  split at e
  ·refine nY ?_;clear nY
   rename_i q;subst q;exact⟨s1,s2,s3⟩
  ·refine nY ?_;clear nY
   exact R.sep b x e
 ·intro b x e
  unfold upd at e
  refine Aa fun nY=>?_
  split at e
  ·refine nY ?_;clear nY
   rename_i q;subst q;obtain⟨es',rfl⟩:=hl _ (Option.some.inj e);exact R.low b _ he
  ·refine nY ?_;clear nY
   exact R.low b x e
theorem An.keepB{c:Cx}(R:An W h₀ env names H ρ s)(Y:Ai W env c h₀):∀b o,W.b₀.get? b=some o->s.heap.get? b=some o:=fun b o e=>
 R.keep.exact (Y.base b o e) (.inr (by rw[e];nofun))
theorem An.fsd{c:Cx}(R:An W h₀ env names H ρ s)(Y:Ai W env c h₀){L:Addr}(m:L∈h₀.fs):∃o,s.heap.get? L=some o/\∀vs,o.data≠ .fields vs:=by
 cases q:h₀.get? L with
 | none=>exact absurd q (Y.fsok L m)
 | some o=>
   obtain⟨o',e1,z⟩:=R.keep L o q
   refine⟨o',e1,?_⟩
   rcases z with z | ⟨_,sl,z⟩<;>rw[z]<;>exact(Y.fsd L m).2 o q
theorem An.script{c:Cx}(Y:Ai W env c h₀)(R:An W h₀ env names H ρ s):(Oo fun items=>D3 (s.heap.IsList W.sa items.toArray) (IntsAre items W.sn) (items.length<=Bs)):=by
 refine Aa fun nY=>?_
 obtain⟨items,⟨o,h1,h2⟩,h3,h4⟩:=W.hsc
 refine nY ?_;clear nY
 exact⟨items,⟨o,R.keepB Y _ _ h1,h2⟩,h3,h4⟩
end
end Mine.Internal
namespace Mine.Internal
open PySem PySem.W PyProof.Rows
variable {W:Wd} {A:Around} {h₀:HB} {env:Env} {c:Cx} {names:List Str} {H:AH} {ρ:Al} {s:Shared} {E:Value->Shared->Prop} {n:Nat} {Er:EP}
noncomputable def Be(W:Wd)(h₀:HB)(env:Env)(names:List Str)(ρ:Al)(Q:Ak)(v:Value)(s':Shared):Prop:=(Ka fun a H'=>D3 (VR W a v) (An W h₀ env names H' ρ s') (Q a H'))
noncomputable def Stk(A:Around)(fs:List Addr):Prop:=∃l,A.frames=some l/\∀x∈l,x.scope.kind≠ .module/\∃L,x.frame=some L/\L∈fs
theorem Stk.more{A:Around}{fs fs':List Addr}(x:Stk A fs)(h:∀L∈fs,L∈fs'):Stk A fs':=let ⟨l,e,z⟩:=x;⟨l,e,fun y m=>let ⟨k,L,f,g⟩:=z y m;⟨k,L,f,h L g⟩⟩
noncomputable def Agc(A:Around)(h:Heap):Prop:=(U8 fun e oe vs=>R7 (A.handled=some (.ref e)) (h.get? e=some oe) (oe.data = .fields vs) (vs[2]? = some .none))
structure Ms(A:Around)(c:Cx)(h₀:HB)(env:Env)(n:Nat):Prop where
 handled:c.hnd=false->A.handled=none
 room:A.depth+4*n+4<recursionLimit
 units:A.units+30*n+60<cLine
 stk:Stk A (env.locals::h₀.fs)
 over:c.ovr=true->Agc A h₀.h
 top:c.cmp=false->∃outer,A.frames=some (env::outer)/\env.frame=some env.locals
noncomputable def Fa(h₀:HB)(env:Env)(H:AH)(hs:List Addr):Prop:=∀b∈hs,H b=none/\h₀.get? b=none/\b≠env.locals/\∀p∈env.cells,p.2≠b
noncomputable def Trc(h:Heap)(e:Addr)(hid:Addr->Prop)(fl:Option Value):Prop:=(U8 fun oe vs a0=>R7 (h.get? e=some oe) (oe.data = .fields vs) (vs[0]? = some a0) ((match fl with
 | none=>vs[1]? = some .none
 | some x=>(U8 fun T oT ts=>An6 (vs[1]? = some (.ref T)) (T≠e) (h.get? T=some oT) (oT.data = .fields ts) (ts[3]? = some x) (hid T)))))
noncomputable def Vl(W:Wd)(h₀:HB)(env:Env)(names:List Str)(ρ:Al)(E:EP)(fl:Option Value)(v:Value)(s':Shared):Prop:=
 (Ex4 fun e H' cc k=>Xw (v = .ref e) (An W h₀ env names H' ρ s') (H' e=some (.exc cc k)) (Trc s'.heap e (fun T=>Fa h₀ env H' [T]) fl) (E (.ref e) H'))
noncomputable def EM(W:Wd)(h₀:HB)(env:Env)(names:List Str)(ρ:Al)(E:EP)(v:Value)(s':Shared):Prop:=
 ∃fl:Option Value,Vl W h₀ env names ρ E fl v s'
theorem EM.ef{P:Prop}{v:Value}{s:Shared}(x:EM W h₀ env names ρ EF v s):P:=by
 obtain⟨_,_,_,_,_,_,_,_,_,q⟩:=x
 exact False.elim q
noncomputable def G6(b₀:Heap)(L:Addr)(h:Heap):List (Addr×Obj):=(List.range h.objs.size).filterMap fun a=>if a=L\/(b₀.get? a).isSome=true then none else(h.get? a).map fun o=>(a,o)
/-! what an operation wants,told apart once -/
theorem Bo{P:Nat->Prop}{g:V->Value->Prop}{v:V}{u:Value}(h:VR W v u)(q:Ax v P)(k:∀a,P a->g (.ref a) (.ref a)):g v u:=by
 induction h with
 | ref a=>exact k a q
 | _=>exact False.elim q
theorem Au{P:Int->Prop}{g:V->Value->Prop}{v:V}{u:Value}(h:VR W v u)(q:Ap v P)(k:∀i t,P i->g (.int i) (.int i t)):g v u:=by
 induction h with
 | int i t=>exact k i t q
 | _=>exact False.elim q
theorem Aaf{P:Int->Prop}{g:Prop}{v:V}(q:Ap v P)(k:∀i,P i->g):g:=by
 cases v<;>first|exact k _ q|exact False.elim q
theorem Afl{P:Prop}{g:List V->List Value->Prop}{vs:List V}{us:List Value}(h:Cv W vs us)(q:U5 vs P)(k:P->g [] []):g vs us:=by
 cases h with
 | nil=>exact k q
 | cons=>exact False.elim q
theorem Kl{P:V->Prop}{g:List V->List Value->Prop}{vs:List V}{us:List Value}(h:Cv W vs us)(q:Mt vs P)(k:∀v u,VR W v u->P v->g [v] [u]):g vs us:=by
 cases h with
 | nil=>exact False.elim q
 | cons h t=>cases t with
   | nil=>exact k _ _ h q
   | cons=>exact False.elim q
theorem Aag{P:V->V->Prop}{g:List V->List Value->Prop}{vs:List V}{us:List Value}(h:Cv W vs us)(q:Te vs P)(k:∀v w u x,VR W v u->VR W w x->P v w->g [v,w] [u,x]):g vs us:=by
 cases h with
 | nil=>exact False.elim q
 | cons h t=>cases t with
   | nil=>exact False.elim q
   | cons h' t=>cases t with
     | nil=>exact k _ _ _ _ h h' q
     | cons=>exact False.elim q
theorem Eh{o:Option O}{P:List V->Prop}{g:Prop}(q:Gb o P)(k:∀xs,o=some (.list xs)->P xs->g):g:=by
 cases o with
 | none=>exact False.elim q
 | some x=>cases x<;>first|exact k _ rfl q|exact False.elim q
theorem Aiv{o:Option O}{P:List (Int×V)->Prop}{g:Prop}(q:U9 o P)(k:∀xs,o=some (.dict xs)->P xs->g):g:=by
 cases o with
 | none=>exact False.elim q
 | some x=>cases x<;>first|exact k _ rfl q|exact False.elim q
theorem Tt{o:Option O}{P:Cn->Nat->Prop}{g:Prop}(q:Op o P)(k:∀c d,o=some (.inst c d)->P c d->g):g:=by
 cases o with
 | none=>exact False.elim q
 | some x=>cases x<;>first|exact k _ _ rfl q|exact False.elim q
theorem Ade{o:Option O}{P:Nat->Prop}{g:Prop}(q:Wr o P)(k:∀d,o=some (.inst .web d)->P d->g):g:=by
 cases o with
 | none=>exact False.elim q
 | some x=>cases x with
   | inst c d=>cases c<;>first|exact k _ rfl q|exact False.elim q
   | _=>exact False.elim q
theorem Vm{o:Option O}{P:List (C9×V)->Prop}{g:Prop}(q:Td o P)(k:∀fs,o=some (.ns fs)->P fs->g):g:=by
 cases o with
 | none=>exact False.elim q
 | some x=>cases x<;>first|exact k _ rfl q|exact False.elim q
theorem Ch{α:Type}{o:Option α}{P:α->Prop}{g:Prop}(q:E8 o P)(k:∀x,o=some x->P x->g):g:=by
 cases o with
 | none=>exact False.elim q
 | some x=>exact k x rfl q
theorem G7{b₀:Heap}{L:Addr}{h:Heap}{a:Addr}{o:Obj}:(a,o)∈G6 b₀ L h↔a≠L/\b₀.get? a=none/\h.get? a=some o:=by
 unfold G6
 rw[List.mem_filterMap]
 constructor
 ·rintro hP1
  refine Aa fun nY=>?_
  obtain⟨b,hb,e⟩:=hP1
  split at e
  ·cases e
  ·rename_i q
   obtain⟨o',h1,h2⟩:=Option.map_eq_some_iff.mp e
   cases h2
   simp only[not_or,Bool.not_eq_true,Option.isSome_eq_false_iff,Option.isNone_iff_eq_none]at q
   refine nY ?_;clear nY
   exact⟨q.1,q.2,h1⟩
 ·rintro hP2
  refine Aa fun nY=>?_
  obtain⟨h1,h2,h3⟩:=hP2
  refine nY ?_;clear nY
  refine⟨a,List.mem_range.mpr (Heap.lt_size h3),?_⟩
  rw[if_neg (by simp[h1,h2]),h3];rfl
theorem An.kitF(R:An W h₀ env names H ρ s)(Y:Ai W env c h₀):∃m,Fr W.b₀ env.locals s.heap m:=
 let ⟨m,hm,_⟩:=R.ns;⟨m,hm,R.keepB Y,R.above⟩
theorem X3:News W.b₀ env.locals s.heap (G6 W.b₀ env.locals s.heap):=fun p hp=>by
 obtain⟨a,o⟩:=p
 obtain⟨h1,h2,h3⟩:=G7.mp hp
 exact⟨h3,h1,h2⟩
theorem Sg(R:An W h₀ env names H ρ s)(Y:Ai W env c h₀){m:Str->Option Value}{h':Heap}{news':List (Addr×Obj)}(F':Fr W.b₀ env.locals h' m)(N':News W.b₀ env.locals h' news')
 (sub:∀p∈G6 W.b₀ env.locals s.heap,p∈news'):∀b o,b≠env.locals->s.heap.get? b=some o->h'.get? b=some o:=fun b o hb e=>by
 cases q:W.b₀.get? b with
 | some o'=>have e1:=R.keepB Y b o' q;rw[e]at e1;cases e1;exact F'.keep b _ q
 | none=>exact(N' (b,o) (sub _ (G7.mpr ⟨hb,q,e⟩))).1
theorem An.moveL(R:An W h₀ env names H ρ s)(Y:Ai W env c h₀){h':Heap}(t:Nat){m:Str->Option Value}(hm:s.heap.Ns env.locals m)(hm':h'.Ns env.locals m)
 (k:∀b o,b≠env.locals->s.heap.get? b=some o->h'.get? b=some o):An W h₀ env names H ρ {s with heap:=h',toks:=t} where
 ns:=by
  refine Aa fun nY=>?_
  obtain⟨m₁,h1,h2⟩:=R.ns
  refine nY ?_;clear nY
  refine⟨m,hm',fun x i v e1 e2 e3=>?_⟩
  refine Aa fun nY=>?_
  obtain⟨c,h3,h4⟩:=h2 x i v e1 e2 e3
  refine nY ?_;clear nY
  refine⟨c,?_,h4⟩
  refine Aa fun nY=>?_
  obtain⟨o,es,ep,a1,a2,a3,a4⟩:=h1
  obtain⟨o',es',ep',b1,b2,b3,b4⟩:=hm
  rw[a1]at b1;cases b1
  rw[a2]at b2;cases b2
  refine nY ?_;clear nY
  rw[<-b4,a4];exact h3
 cell:=fun x a e=>let ⟨w,⟨o,ho,hd⟩,r⟩:=R.cell x a e;⟨w,⟨o,k _ _ (Y.apart x a e) ho,hd⟩,r⟩
 keep:=fun b o e=>let ⟨o',e1,z⟩:=R.keep b o e;⟨o',k _ _ (fun q=>by rw[q,Y.new]at e;cases e) e1,z⟩
 objs:=fun a o e=>let ⟨ob,h1,h2⟩:=R.objs a o e;⟨ob,k _ _ (R.sep a o e).2.1 h1,h2⟩
 sep:=R.sep
 gens:=R.gens
 os:=R.os
 above:=R.above
 low:=R.low
theorem An.add(R:An W h₀ env names H ρ s){a:Addr}{o:O}{ob:Obj}(ho:s.heap.get? a=some ob)(r:OR W o ob)(hn:H a=none)(hh:h₀.get? a=none)(hl:a≠env.locals)(hc:∀x,env.cells.lookup x≠some a)(hb:W.b₀.objs.size<=a) :
 An W h₀ env names (upd H a o) ρ s where
 ns:=R.ns
 cell:=R.cell
 keep:=R.keep
 objs:=fun b o' e=>by
  unfold upd at e
  split at e
  ·rename_i q;subst q;cases e;exact⟨ob,ho,r⟩
  ·exact R.objs b o' e
 sep:=fun b o' e=>by
  unfold upd at e
  split at e
  ·rename_i q;subst q;exact⟨hh,hl,hc⟩
  ·exact R.sep b o' e
 gens:=R.gens
 os:=R.os
 above:=R.above
 low:=fun b o' e=>by
  unfold upd at e
  split at e
  ·rename_i q;subst q;exact hb
  ·exact R.low b o' e
theorem An.new_sep(R:An W h₀ env names H ρ s){a:Addr}(hn:s.heap.get? a=none)(hb:W.b₀.objs.size<=a):H a=none/\h₀.get? a=none/\a≠env.locals/\(∀x,env.cells.lookup x≠some a)/\W.b₀.objs.size<=a:=by
 refine⟨?_,?_,?_,?_,hb⟩
 ·cases q:H a with
  | none=>rfl
  | some o=>obtain⟨ob,h1,_⟩:=R.objs _ _ q;rw[hn]at h1;cases h1
 ·exact R.keep.none hn
 ·rintro rfl;obtain⟨m,⟨o,_,_,h,_⟩,_⟩:=R.ns;rw[h]at hn;cases hn
 ·intro x q;obtain⟨w,⟨o,h,_⟩,_⟩:=R.cell x a q;rw[h]at hn;cases hn
theorem Of(R:An W h₀ env names H ρ s)(Y:Ai W env c h₀){m:Str->Option Value}{h':Heap}{a:Addr}{ob:Obj}{o:O}{t:Nat}(F:Fr W.b₀ env.locals s.heap m)(F':Fr W.b₀ env.locals h' m)
 (N':News W.b₀ env.locals h' ((a,ob)::G6 W.b₀ env.locals s.heap)) (hn:s.heap.objs.size<=a) (r:OR W o ob):H a=none/\An W h₀ env names (upd H a o) ρ {s with heap:=h',toks:=t}:=by
 refine Aa fun nY=>?_
 obtain⟨q1,q2,q3,q4,q5⟩:=R.new_sep (Q8 hn) (Nat.le_trans R.up hn)
 have R':=R.moveL Y t F.ns F'.ns (Sg R Y F' N' fun p hp=> .tail _ hp)
 refine nY ?_;clear nY
 exact⟨q1,R'.add (N' (a,ob) (.head _)).1 r q1 q2 q3 q4 q5⟩
theorem Tu(R:An W h₀ env names H ρ s)(Y:Ai W env c h₀){m:Str->Option Value}{h':Heap}{t:Nat}(F:Fr W.b₀ env.locals s.heap m)(F':Fr W.b₀ env.locals h' m)
 (N':News W.b₀ env.locals h' (G6 W.b₀ env.locals s.heap)):An W h₀ env names H ρ {s with heap:=h',toks:=t}:=R.moveL Y t F.ns F'.ns (Sg R Y F' N' fun _ hp=>hp)
theorem Cb:Bs<=sizeLine:=by decide
theorem D0{xs:List V}{items:List Value}(h:Cv W xs items)(hz:xs.length<=Bs){n:Nat}:OR W (.list xs) {cls:= .type "list",data:= .seq items.toArray n}:= .list h hz
theorem An.push(R:An W h₀ env names H ρ s){o:O}{ob:Obj}(r:OR W o ob)(hf:ob.isFreed=false)(t:Nat):An W h₀ env names (upd H s.heap.objs.size o) ρ {s with heap:=s.heap.push ob,toks:=t}:=
 R.put t (fun _ _ e=>Heap.get?_push_of_some _ e) (Heap.get?_push_size _ hf) r (B5 _) fun _ _=>R.up
theorem An.pushHid(R:An W h₀ env names H ρ s)(ob:Obj)(t:Nat):An W h₀ env names H ρ {s with heap:=s.heap.push ob,toks:=t}:=R.move t fun _ _ e=>Heap.get?_push_of_some _ e
theorem An.isList(R:An W h₀ env names H ρ s){a:Addr}{xs:List V}(e:H a=some (.list xs)):(Oo fun items=>D3 (s.heap.IsList a items.toArray) (Cv W xs items) (xs.length<=Bs)):=by
 refine Aa fun nY=>?_
 obtain⟨ob,h1,h2⟩:=R.objs a _ e
 cases h2 with
 | list r z=>(refine nY ?_;clear nY;exact⟨_,⟨_,h1,rfl,_,rfl⟩,r,z⟩)
theorem An.isTup(R:An W h₀ env names H ρ s){a:Addr}{xs:List V}(e:H a=some (.tuple xs)):(Oo fun items=>D3 (IsTup s.heap a items.toArray) (Cv W xs items) (xs.length<=Bs)):=by
 refine Aa fun nY=>?_
 obtain⟨ob,h1,h2⟩:=R.objs a _ e
 cases h2 with
 | tuple r z=>(refine nY ?_;clear nY;exact⟨_,⟨_,h1,rfl,_,rfl⟩,r,z⟩)
theorem An.lst(R:An W h₀ env names H ρ s){a:Addr}{xs:List V}(e:H a=some (.list xs)):(Ka fun items n=>D3 (s.heap.get? a=some {cls:= .type "list",data:= .seq items.toArray n}) (Cv W xs items) (xs.length<=Bs)):=by
 refine Aa fun nY=>?_
 obtain⟨ob,h1,h2⟩:=R.objs a _ e
 cases h2 with
 | list r z=>(refine nY ?_;clear nY;exact⟨_,_,h1,r,z⟩)
theorem An.changeL(R:An W h₀ env names H ρ s){a:Addr}{xs xs':List V}{items:List Value}{n:Nat}(e:H a=some (.list xs))(ho:s.heap.get? a=some {cls:= .type "list",data:= .seq items.toArray n})
 (f:Array Value->Array Value) {items':List Value} (hf:f items.toArray=items'.toArray) (r:Cv W xs' items') (z:xs'.length<=Bs) (t:Nat) :
 An W h₀ env names (upd H a (.list xs')) ρ {s with heap:=s.heap.update a (Obj.mapSeq f),toks:=t}:=by
 refine R.change t e (Heap.SameBut.update ..) (Heap.get?_update_self _ ho rfl) ?_ (fun _ q=>by cases q)
 simp only[Obj.mapSeq,hf]
 exact .list r z
theorem An.isDict(R:An W h₀ env names H ρ s){a:Addr}{es:List (Int×V)}(e:H a=some (.dict es)):(Oo fun kvs=>D3 (s.heap.DictOf (intKind W.prog W.w) a kvs) (U6 W es kvs) (es.length<=Bs)):=by
 refine Aa fun nY=>?_
 obtain⟨ob,h1,h2⟩:=R.objs a _ e
 cases h2 with
 | dict r z d=>(refine nY ?_;clear nY;obtain⟨es,ep,h3⟩:=d;exact⟨_,⟨ob,es,ep,h1,h3⟩,r,z⟩)
theorem O7{xs:List V}{items:List Value}{ns:List Int}(h:Cv W xs items)(e:ints? xs=some ns):IntsAre items ns:=by
 induction h generalizing ns with
 | nil=>cases e;exact .nil
 | cons h _ ih=>
   induction h with
   | int i u=>
     obtain⟨l,h1,h2⟩:=Option.map_eq_some_iff.mp (show (ints? _).map (i :: ·)=some ns from e)
     subst h2
     exact .cons i u (ih h1)
   | _=>cases e
theorem Gn{items:List Value}{ns:List Int}(h:IntsAre items ns):Cv W (ns.map V.int) items:=by
 induction h with
 | nil=>exact .nil
 | cons i u _ ih=>exact .cons (.int i u) ih
theorem ints?_length{xs:List V}{ns:List Int}(e:ints? xs=some ns):ns.length=xs.length:=by
 induction xs generalizing ns with
 | nil=>cases e;rfl
 | cons v r ih=>
   cases v<;>first|(cases e;done)|skip
   obtain⟨l,h1,h2⟩:=Option.map_eq_some_iff.mp (show (ints? r).map _=some ns from e)
   subst h2
   exact congrArg Nat.succ (ih h1)
theorem Et(x:Int):∀l:List Int,(N3 x l).Perm (x::l)
 | []=> .refl _
 | y::r=>by
   unfold N3
   split
   ·exact .refl _
   ·exact((Et x r).cons y).trans (.swap x y r)
theorem B8:∀l:List Int,(Bf l).Perm l
 | []=> .refl _
 | x::r=>(Et x (Bf r)).trans ((B8 r).cons x)
theorem Fp(x:Int):∀ {l:List Int},l.Pairwise (· <= ·)->(N3 x l).Pairwise (· <= ·)
 | [],_=>by simp[N3]
 | y::r,h=>by
   unfold N3
   obtain⟨h1,h2⟩:=List.pairwise_cons.mp h
   split
   ·rename_i q
    refine List.pairwise_cons.mpr ⟨fun z hz=>?_,h⟩
    rcases List.mem_cons.mp hz with rfl|hz
    ·exact q
    ·exact Int.le_trans q (h1 z hz)
   ·rename_i q
    refine List.pairwise_cons.mpr ⟨fun z hz=>?_,Fp x h2⟩
    rcases List.mem_cons.mp ((Et x r).mem_iff.mp hz)with rfl|hz
    ·exact Int.le_of_lt (Int.not_le.mp q)
    ·exact h1 z hz
theorem Dk:∀l:List Int,(Bf l).Pairwise (· <= ·)
 | []=>by simp[Bf]
 | x::r=>Fp x (Dk r)
theorem Km{a b:List Int}(p:a.Perm b)(ha:a.Pairwise (· <= ·))(hb:b.Pairwise (· <= ·)):a=b:=
 p.eq_of_pairwise (fun _ _ _ _ h1 h2=>Int.le_antisymm h1 h2) ha hb
end Mine.Internal
namespace Mine.Internal
open PySem PySem.W PyProof.Rows
variable {W:Wd} {A:Around} {h₀:HB} {env:Env} {c:Cx} {names:List Str} {H:AH} {ρ:Al} {s:Shared} {E:Value->Shared->Prop} {n:Nat} {Q:Ak} {Er:EP}
theorem Be.mk{a:V}{v:Value}(h:VR W a v)(R:An W h₀ env names H ρ s)(q:Q a H):Be W h₀ env names ρ Q v s:=⟨a,H,h,R,q⟩
theorem Vn{x y:Int}(h:y.natAbs<=10 ^ 30):Builtin.divisionGoesByPylong x y=false:=by
 refine PyProof.noPylong_of_log2 (Nat.lt_of_le_of_lt (m:=100) ?_ (by decide))
 by_cases h0:y.natAbs=0
 ·rw[h0];decide
 ·exact Nat.le_of_lt ((Nat.log2_lt h0).mpr (Nat.lt_of_le_of_lt h (by decide)))
theorem Aah{k:Int}(h:k.natAbs<2 ^ 64):Builtin.Int.intBits k<=64:=intBits_le_64 (Aj8 h) (Aj9 h)
theorem Tv{α:Type}(n:Nat)(xs:List α):(List.replicate n xs).flatten.length=n*xs.length:=by simp
theorem Adf{l:Addr}{items:List Value}{k:Int}{u:Tok}{Q:Value->Shared->Prop}(h1:s.heap.IsList l items.toArray)(k0:0<=k)(k1:k<=1000)(k2:items.length*k.toNat<=Bs)
 (h:Q (.ref s.heap.objs.size) {s with heap:=s.heap.push {cls:= .type "list",data:= .seq (List.replicate k.toNat items).flatten.toArray}}) :
 wpAny W.M A (binaryOp .Mult (.ref l) (.int k u)) Q E s:=by
 refine Aa fun nY=>?_
 obtain⟨⟨cls,d,data,sl⟩,ho,hcl,kk,hd⟩:=id h1
 simp only at hcl hd
 subst hcl hd
 have hz:items.length*k.toNat<=1048576:=k2
 refine nY ?_;clear nY
 have hz':items.toArray.size*k.toNat<=1048576:=by rw[List.size_toArray];exact k2
 refine wpAny_binaryOp_repeat_ref (T:= "list") (U:= "int") (by decide) ⟨_,ho,rfl⟩ (fun s'=>typeIs_int s' k u) noFill_list_mul F.fills_int_mul F.slot_int_rmul repeat_list F.slot_int_index.lookup
  (call_meets F.slot_int_rmul (typeIs_int s k u) F.entry_int_rmul (F.args_int_rmul_2 _ _) (lm_int_rmul_list_any k u l items.toArray kk d sl)
    ⟨ho,rfl,⟨_,ho,rfl⟩,call_meets F.slot_list_mul ⟨_,ho,rfl⟩ F.entry_list_mul (F.args_list_mul_2 _ _)
     (lm_list_mul_any l items.toArray kk d sl k u (by simp[Builtin.List.listFitsIndex];exact(⟨Int.le_trans (by decide) k0,Int.lt_of_le_of_lt k1 (by decide)⟩)) (Nat.not_lt.mpr (Nat.le_trans hz' (by decide))) (by simp[Builtin.List.listTooLong,sizeLine];exact(Nat.le_trans hz (by decide))))
     ⟨ho,?_⟩⟩)
 rw[listMul_foldl_if]
 exact h
theorem Tw(Y:Ai W env c h₀)(R:An W h₀ env names H ρ s){op:Operator}{a b:V}{u v:Value}(ha:VR W a u)(hb:VR W b v)(q:Dn op a b H Q) :
 wpAny W.M A (binaryOp op u v) (Be W h₀ env names ρ Q) E s:=by
 refine Aa fun nY=>?_
 obtain⟨m,F⟩:=R.kitF Y
 have N:News W.b₀ env.locals s.heap _:=X3
 cases op<;>try exact q.elim
 case Add=>
  replace q:Ws a b H Q:=q
  refine nY ?_;clear nY
  induction ha with
  | int i t=>apply Au hb q;intro j t' q;exact add_int (Be.mk (.int _ _) (R.toks _) q)
  | ref a=>
    apply Bo hb q;intro b q;refine Eh q fun xs e1 q=>?_;refine Eh q fun ys e2 q=>?_
    refine Aa fun nY=>?_
    obtain⟨l1,h1,r1,z1⟩:=R.isList e1
    obtain⟨l2,h2,r2,z2⟩:=R.isList e2
    refine nY ?_;clear nY
    have hz:l1.toArray.size+l2.toArray.size<=sizeLine:=by simp[<-r1.length,<-r2.length];exact Nat.le_trans q.1 Cb
    refine add_arrays (hsz:=hz) F N h1 h2 fun h' F' N'=>?_
    obtain⟨e,R'⟩:=Of (t:=s.toks) R Y F F' N' (Nat.le_refl _) (D0 (r1.append r2) (by simpa using q.1))
    exact Be.mk (.ref _) R' (q.2 _ e)
  | _=>exact False.elim q
 case Sub=>
  replace q:Zt a b H Q:=q
  refine nY ?_;clear nY
  apply Au ha q;intro i t q;apply Au hb q;intro j t' q
  exact sub_int (Be.mk (.int _ _) (R.toks _) q)
 case Mult=>
  replace q:Wt a b H Q:=q
  refine nY ?_;clear nY
  apply Au hb q;intro k t q
  induction ha with
  | int i t=>exact mul_int (Be.mk (.int _ _) (R.toks _) q.2) (q.1.elim (fun h=>IntMulOk.of_left (Aah h)) fun h=>IntMulOk.of_right (Aah h))
  | ref a=>
    refine Eh q fun xs e1 q=>?_
    refine Aa fun nY=>?_
    obtain⟨l1,h1,r1,z1⟩:=R.isList e1
    obtain⟨⟨k0,k1,k2⟩,q⟩:=q
    refine nY ?_;clear nY
    refine Adf h1 k0 k1 (by rw[<-r1.length];exact k2) ?_
    have R':=R.push (D0 (r1.replicate _) (by rw[Tv,Nat.mul_comm];exact k2) (n:=0)) rfl s.toks
    exact Be.mk (.ref _) R' (q _ R.fresh)
  | _=>exact False.elim q
 case FloorDiv=>
  replace q:Zu a b H Q:=q
  refine nY ?_;clear nY
  apply Au ha q;intro i t q;apply Au hb q;intro j t' q
  exact floordiv_int q.1.1 (Be.mk (.int _ _) (R.toks _) q.2) (.inl (Vn q.1.2))
 case Mod=>
  replace q:Zv a b H Q:=q
  refine nY ?_;clear nY
  apply Au ha q;intro i t q;apply Au hb q;intro j t' q
  exact mod_int' q.1.1 (Be.mk (.int _ _) (R.toks _) q.2)
 case Pow=>
  replace q:Afa a b H Q:=q
  refine nY ?_;clear nY
  apply Au ha q;intro i t q;apply Au hb q;intro j t' q
  exact pow_int_small q.1.1 (by have:=q.1.2.1;(first|lia|omega)) q.1.2.2 (Be.mk (.int _ _) (R.toks _) q.2)
open PySem.SeqAt in
theorem My{a b:V}{u v:Value}{r:Bool}(ha:VR W a u)(hb:VR W b v)(e:Zp a b=some r):EqAt A s u v r/\RcAt A s u v r/\RcNeAt A s u v (!r):=by
 refine Aa fun no=>?_
 induction ha<;>induction hb<;>first|exact @nn _ _ _ e|(obtain rfl:=Option.some.inj e;refine no ?_;clear no)
 ·exact⟨.same _,.none_none,.none_none⟩
 ·exact⟨.none_bool _,.none_bool _,.none_bool _⟩
 ·exact⟨.none_int _ _,.none_int _ _,.none_int _ _⟩
 ·exact⟨.bool_none _,.bool_none _,.bool_none _⟩
 ·exact⟨.bool_bool _ _,.bool_bool _ _,.bool_bool _ _⟩
 ·exact⟨.int_none _ _,.int_none _ _,.int_none _ _⟩
 ·rename_i i t j t'
  have:decide (i=j)=(i==j):=by rw[Bool.eq_iff_iff];simp
  rw[this];exact⟨.int_int _ _ _ _,.int_int _ _ _ _,.int_int _ _ _ _⟩
theorem Tx{a:V}{r:Bool}(e:Zp a a=some r):r=true:=by
 cases a<;>first|exact @nn _ _ _ e|(obtain rfl:=Option.some.inj e)<;>first|rfl|exact decide_eq_true rfl|exact beq_self_eq_true _
theorem Q9{l:List (Option Bool)}{r:Bool}(h:Gw l=some r):∃e:Nat->Bool,(∀j x,l[j]? = some x->x=some (e j))/\(List.range l.length).all e=r:=by
 induction l generalizing r with
 | nil=>simp only[Gw,Option.some.injEq]at h;subst h;exact⟨fun _=>true,by simp,by simp⟩
 | cons x t ih=>
   refine Aa fun nY=>?_
   cases x with
   | none=>simp[Gw]at h
   | some b=>
     simp only[Gw,Option.map_eq_some_iff]at h
     obtain⟨r',h1,h2⟩:=h
     obtain⟨e,h3,h4⟩:=ih h1
     refine nY ?_;clear nY
     refine⟨fun j=>match j with|0=>b|j+1=>e j,fun j y hj=>?_,?_⟩
     ·refine Aa fun nY=>?_
      cases j with
      | zero=>(refine nY ?_;clear nY;simp at hj;exact hj.symm)
      | succ j=>(refine nY ?_;clear nY;simp at hj;exact h3 j y hj)
     ·rw[List.length_cons,List.range_succ_eq_map,List.all_cons,List.all_map]
      subst h2;subst h4;rfl
theorem Mz{f:V->V->Option Bool}(hf:∀a r,f a a=some r->r=true):∀ {xs:List V} {r:Bool},Gw (List.zipWith f xs xs)=some r->r=true
 | [],r,h=>by simp[Gw]at h;exact h
 | x::t,r,h=>by
   simp only[List.zipWith_cons_cons]at h
   cases q:f x x with
   | none=>rw[q]at h;simp[Gw]at h
   | some b=>
     rw[q]at h
     simp only[Gw,Option.map_eq_some_iff]at h
     obtain⟨r',h1,h2⟩:=h
     rw[hf x b q,Mz hf h1]at h2
     exact h2.symm
theorem Tz{P:Prop}(n:Nat)(a b:V)(k1:∀x y,a = .ref x->b = .ref y->P)(k2:∀x,a = .ref x->b = .none->P)(k3:∀x,a = .none->b = .ref x->P)(k4:Mu (n+1) H a b=Zp a b->P):P:=by
 cases a<;>first|exact k4 rfl|(cases b<;>first|exact k4 rfl|exact k1 _ _ rfl rfl|exact k2 _ rfl rfl|exact k3 _ rfl rfl)
theorem Aai{P:Prop}{n:Nat}{x y:Addr}{r:Bool}(e:Mu (n+1) H (.ref x) (.ref y)=some r)
 (k1:∀xs ys,H x=some (.list xs)->H y=some (.list ys)->(if xs.length=ys.length then Gw (List.zipWith (Mu n H) xs ys)else some false)=some r->P)
 (k2:∀xs ys,H x=some (.tuple xs)->H y=some (.tuple ys)->(if xs.length=ys.length then Gw (List.zipWith (Mu n H) xs ys)else none)=some r->P):P:=by
 replace e:(match H x,H y with
  | some (.list xs),some (.list ys)=>if xs.length=ys.length then Gw (List.zipWith (Mu n H) xs ys)else some false
  | some (.tuple xs),some (.tuple ys)=>if xs.length=ys.length then Gw (List.zipWith (Mu n H) xs ys)else none
  | _,_=>none)=some r:=e
 generalize H x=ox at *
 generalize H y=oy at *
 cases ox with
 | none=>cases e
 | some o=>
   cases o<;>first|(cases e;done)|skip
   all_goals
    cases oy with
    | none=>cases e
    | some o'=>cases o'<;>first|(cases e;done)|exact k1 _ _ rfl rfl e|exact k2 _ _ rfl rfl e
theorem Aaj{P:Prop}{n:Nat}{x:Addr}{r:Bool}(e:Mu (n+1) H (.ref x) .none=some r\/Mu (n+1) H .none (.ref x)=some r)(k1:∀xs,r=false->H x=some (.list xs)->P)(k2:∀xs,r=false->H x=some (.tuple xs)->P):P:=by
 replace e:(match H x with|some (.list _)=>some false|some (.tuple _)=>some false|_=>none)=some r:=e.elim (fun e=>e) fun e=>e
 generalize H x=ox at *
 cases ox with
 | none=>cases e
 | some o=>cases o<;>first|(cases e;done)|(cases e;first|exact k1 _ rfl rfl|exact k2 _ rfl rfl)
theorem Aak(n:Nat):∀ {a:V} {r:Bool},Mu n H a a=some r->r=true:=by
 induction n with
 | zero=>exact fun e=>Tx e
 | succ n ih=>
   intro a r e
   refine Tz (H:=H) n a a (fun x y q _=>?_) (fun x q q'=>?_) (fun x q q'=>?_) fun q=>?_
   ·subst q
    refine Aai e (fun xs ys h1 h2 e=>?_) fun xs ys h1 h2 e=>?_
    ·rw[h1]at h2;cases h2
     rw[if_pos rfl]at e;exact Mz (fun a r h=>ih h) e
    ·rw[h1]at h2;cases h2
     rw[if_pos rfl]at e;exact Mz (fun a r h=>ih h) e
   ·rw[q]at q';cases q'
   ·rw[q]at q';cases q'
   ·rw[q]at e;exact Tx e
open PySem.SeqAt in
theorem I1{n:Nat}{A:Around}{xs ys:List V}{l1 l2:List Value}{f:Nat->Bool}(ih:∀ {a b:V} {u v:Value} {r:Bool},VR W a u->VR W b v->Mu n H a b=some r->EqAt A s u v r)(r1:Cv W xs l1)(r2:Cv W ys l2)
 (f1:∀j x',(List.zipWith (Mu n H) xs ys)[j]? = some x'->x'=some (f j)) (j:Nat) (j1:j<l1.toArray.size) (j2:j<l2.toArray.size):EqAt A s l1.toArray[j] l2.toArray[j] (f j):=by
 refine Aa fun nY=>?_
 obtain⟨x',x1,x2⟩:=r1.get' j (c:=l1.toArray[j]) (by simp)
 obtain⟨y',y1,y2⟩:=r2.get' j (c:=l2.toArray[j]) (by simp)
 refine nY ?_;clear nY
 exact ih x2 y2 (f1 j (Mu n H x' y') (by rw[List.getElem?_zipWith,x1,y1]))
open PySem.SeqAt in
theorem Ra(R:An W h₀ env names H ρ s)(n:Nat):∀(A:Around) {a b:V} {u v:Value} {r:Bool},A.units+n<cLine->VR W a u->VR W b v->Mu n H a b=some r->
 EqAt A s u v r/\RcAt A s u v r/\RcNeAt A s u v (!r):=by
 induction n with
 | zero=>exact fun A a b u v r _ ha hb e=>My ha hb e
 | succ n ih=>
   intro A a b u v r hu ha hb e
   have hA:A.units<cLine:=(Nat.lt_of_le_of_lt (Nat.le_add_right _ _) hu)
   have hA1:A.in1.units+n<cLine:=by show A.units+1+n<cLine;exact Nat.lt_of_le_of_lt (Nat.le_of_eq (Nat.add_right_comm _ 1 _)) hu
   have it:=fun {a b:V} {u v:Value} {r:Bool} (ha:VR W a u) (hb:VR W b v) (e:Mu n H a b=some r)=>(ih A.in1 hA1 ha hb e).1
   refine Tz (H:=H) n a b (fun x y p q=>?_) (fun x p q=>?_) (fun x p q=>?_) fun q=>?_
   ·refine Aa fun nY=>?_
    subst p q;cases ha;cases hb
    have fin:∀ {k:Bool},k=r->RcAt A s (.ref x) (.ref y) k->RcNeAt A s (.ref x) (.ref y) (!k)->EqAt A s (.ref x) (.ref y) r/\RcAt A s (.ref x) (.ref y) r/\RcNeAt A s (.ref x) (.ref y) (!r):=by
     rintro k rfl h1 h2
     refine⟨?_,h1,h2⟩
     refine Aa fun nY=>?_
     by_cases q:x=y
     ·refine nY ?_;clear nY
      subst q;rw[Aak _ e];exact .same _
     ·refine nY ?_;clear nY
      exact .of_refs q h1
    refine nY ?_;clear nY
    refine Aai e (fun xs ys e1 e2 e'=>?_) fun xs ys e1 e2 e'=>?_
    ·refine Aa fun nY=>?_
     obtain⟨l1,h1,r1,z1⟩:=R.isList e1
     obtain⟨l2,h2,r2,z2⟩:=R.isList e2
     by_cases hl:xs.length=ys.length
     ·rw[if_pos hl]at e'
      obtain⟨f,f1,f2⟩:=Q9 e'
      have hsz:l1.toArray.size=l2.toArray.size:=by rw[List.size_toArray,List.size_toArray,<-r1.length,<-r2.length,hl]
      refine nY ?_;clear nY
      refine fin ?_ (RcAt.lists h1 h2 hsz hA (I1 it r1 r2 f1)) (RcNeAt.lists h1 h2 hsz hA (I1 it r1 r2 f1))
      rw[<-f2];congr 2;simp[<-r1.length,hl]
     ·rw[if_neg hl]at e'
      cases e'
      have hsz:(l1.toArray.size != l2.toArray.size)=true:=by simpa[<-r1.length,<-r2.length]using hl
      refine nY ?_;clear nY
      exact fin rfl (RcAt.lists_lengths h1 h2 hsz hA) (RcNeAt.lists_lengths h1 h2 hsz hA)
    ·refine Aa fun nY=>?_
     obtain⟨l1,h1,r1,z1⟩:=R.isTup e1
     obtain⟨l2,h2,r2,z2⟩:=R.isTup e2
     by_cases hl:xs.length=ys.length
     ·rw[if_pos hl]at e'
      obtain⟨f,f1,f2⟩:=Q9 e'
      refine nY ?_;clear nY
      refine fin ?_ (RcAt.tuples h1 h2 hA (I1 it r1 r2 f1)) (RcNeAt.tuples h1 h2 hA (I1 it r1 r2 f1))
      rw[<-f2];simp[<-r1.length,<-r2.length,hl]
     ·rw[if_neg hl]at e';cases e'
   ·refine Aa fun nY=>?_
    subst p q;cases ha;cases hb
    refine nY ?_;clear nY
    refine Aaj (.inl e) (fun xs q e1=>?_) fun xs q e1=>?_<;>subst q
    ·refine Aa fun nY=>?_
     obtain⟨l1,h1,r1,z1⟩:=R.isList e1
     refine nY ?_;clear nY
     exact⟨.list_none h1 hA,.list_none h1 hA,.list_none h1 hA⟩
    ·refine Aa fun nY=>?_
     obtain⟨l1,h1,r1,z1⟩:=R.isTup e1
     refine nY ?_;clear nY
     exact⟨.tuple_none h1 hA,.tuple_none h1 hA,.tuple_none h1 hA⟩
   ·refine Aa fun nY=>?_
    subst p q;cases ha;cases hb
    refine nY ?_;clear nY
    refine Aaj (.inr e) (fun xs q e1=>?_) fun xs q e1=>?_<;>subst q
    ·refine Aa fun nY=>?_
     obtain⟨l1,h1,r1,z1⟩:=R.isList e1
     refine nY ?_;clear nY
     exact⟨.none_list h1 hA,.none_list h1 hA,.none_list h1 hA⟩
    ·refine Aa fun nY=>?_
     obtain⟨l1,h1,r1,z1⟩:=R.isTup e1
     refine nY ?_;clear nY
     exact⟨.none_tuple h1 hA,.none_tuple h1 hA,.none_tuple h1 hA⟩
   ·rw[q]at e;exact My ha hb e
theorem X4{l:List (Option Bool)}{r:Bool}(h:Va l=some r):(∀x∈l,∃b,x=some b)/\r=l.any (· == some true):=by
 induction l generalizing r with
 | nil=>simp only[Va,Option.some.injEq]at h;subst h;simp
 | cons x t ih=>
   cases x with
   | none=>simp[Va]at h
   | some b=>
     simp only[Va,Option.map_eq_some_iff]at h
     obtain⟨r',h1,h2⟩:=h
     obtain⟨h3,h4⟩:=ih h1
     refine⟨fun x hx=>?_,?_⟩
     ·rcases List.mem_cons.mp hx with rfl|hx
      ·exact⟨b,rfl⟩
      ·exact h3 x hx
     ·subst h2;subst h4;cases b<;>simp
noncomputable def T0(W:Wd)(v:V)(c:Value):Bool:=by classical exact if ∃x,VR W x c/\Zp x v=some true then true else false
theorem Agd{x y:V}{c:Value}(h1:VR W x c)(h2:VR W y c)(hx:Zp x v=some r)(hy:Zp y v=some r'):r=r':=by
 induction h1<;>first|exact @nn _ _ _ hx|(cases h2;exact Option.some.inj (hx.symm.trans hy))
theorem W7{x v:V}{c:Value}{r:Bool}(h:VR W x c)(e:Zp x v=some r):T0 W v c=r:=by
 unfold T0
 cases r with
 | true=>rw[if_pos ⟨x,h,e⟩]
 | false=>
   rw[if_neg]
   rintro⟨y,h1,h2⟩
   have:=Agd h h1 e h2
   cases this
open PySem.SeqAt in
theorem G8{v:V}{u:Value}{xs:List V}{items:List Value}{r:Bool}(hu:VR W v u)(hr:Cv W xs items)(e:P8 v xs=some r) :
 (∀y,y∈items.toArray->EqAt A s y u (T0 W v y))/\items.toArray.any (T0 W v)=r:=by
 obtain⟨h1,h2⟩:=X4 e
 constructor
 ·intro y hy
  refine Aa fun nY=>?_
  obtain⟨j,hj⟩:=List.mem_iff_getElem?.mp (by simpa using hy)
  obtain⟨x,x1,x2⟩:=hr.get' j hj
  obtain⟨b,hb⟩:=h1 (Zp x v) (List.mem_map_of_mem (List.mem_iff_getElem?.mpr ⟨j,x1⟩))
  refine nY ?_;clear nY
  rw[W7 x2 hb]
  exact(My x2 hu hb).1
 ·rw[h2]
  clear h2 e
  induction hr with
  | nil=>simp
  | cons h t ih=>
    simp only[List.map_cons,List.mem_cons,forall_eq_or_imp]at h1
    refine Aa fun nY=>?_
    obtain⟨⟨b,hb⟩,h1⟩:=h1
    have:=ih h1
    refine nY ?_;clear nY
    simp only[List.any_toArray,List.map_cons,List.any_cons]at this ⊢
    rw[this,W7 h hb,hb]
    cases b<;>simp
theorem An.dget(hk:U6 W es kvs)(k:Int):(dget es k).isSome=(kvs.lookup k).isSome/\∀v,dget es k=some v->∃c,kvs.lookup k=some c/\VR W v c:=by
 induction hk with
 | nil=>simp[Mine.Internal.dget]
 | @cons k' v' c' es kvs h t ih=>
   unfold Mine.Internal.dget at ih ⊢
   simp only[List.lookup_cons]
   cases k==k' with
   | true=>simp;exact h
   | false=>simpa using ih
theorem An.noSys(R:An W h₀ env names H ρ s)(Y:Ai W env c h₀){a:Addr}{es:List (Int×V)}(e:H a=some (.dict es)):(a==sysModules)=false:=by
 have h1:=R.low a es e
 have h2:=Y.lo
 have h3:a≠sysModules:=Nat.ne_of_gt (Nat.lt_of_lt_of_le h2 h1)
 simpa using h3
theorem E0(kvs:List (Int×Value))(k:Int):valueAt kvs k=kvs.lookup k:=by
 unfold valueAt
 induction kvs with
 | nil=>rfl
 | cons p t ih=>
   obtain⟨a,b⟩:=p
   rw[List.find?_cons,List.lookup_cons]
   by_cases q:a=k
   ·subst q;simp
   ·have:(k==a)=false:=by simpa using fun h:k=a=>q h.symm
    simpa[q,this]using ih
open PySem.SeqAt in
open PySem.SeqAt in
theorem Rb{a b:V}{u v:Value}{r:Bool}(ha:VR W a u)(hb:VR W b v)(e:isB a b=some r) :
 (∀Q E,Q (.bool r) s->wpAny W.M A (compareOp .Is u v) Q E s)/\(∀Q E,Q (.bool (!r)) s->wpAny W.M A (compareOp .IsNot u v) Q E s):=by
 refine Aa fun no=>?_
 induction ha<;>induction hb<;>first|exact @nn _ _ _ e|(obtain rfl:=Option.some.inj e;refine no ?_;clear no)
 ·exact⟨fun _ _ q=>is_none_none q,fun _ _ q=>isnot_none_none q⟩
 ·exact⟨fun _ _ q=>is_none_ne nofun q,fun _ _ q=>isnot_none_ne nofun q⟩
 ·exact⟨fun _ _ q=>is_bool q,fun _ _ q=>isnot_bool q⟩
 ·exact⟨fun _ _ q=>is_none_ne nofun q,fun _ _ q=>isnot_none_ne nofun q⟩
 ·exact⟨fun _ _ q=>is_none_ne nofun q,fun _ _ q=>isnot_none_ne nofun q⟩
open PySem.SeqAt in
theorem C7(ok:Ms A c h₀ env n)(Y:Ai W env c h₀)(R:An W h₀ env names H ρ s){op:CmpOp}{a b:V}{u v:Value}(ha:VR W a u)(hb:VR W b v)(q:Ba op a b H Q) :
 wpAny W.M A (compareOp op u v) (Be W h₀ env names ρ Q) E s:=by
 have hu:=ok.units
 cases op
 case Eq=>
  refine Ch q fun r e q=>?_
  exact(Ra R Fc A (by unfold Fc;exact Ain hu) ha hb e).2.1 _ _ _ _ (Be.mk (.bool _) R q)
 case NotEq=>
  refine Ch q fun r e q=>?_
  exact(Ra R Fc A (by unfold Fc;exact Ain hu) ha hb e).2.2 _ _ _ _ (Be.mk (.bool _) R q)
 case Lt=>
  replace q:Ah3 a b H Q:=q
  apply Au ha q;intro i t q;apply Au hb q;intro j t' q
  exact lt_int (Be.mk (.bool _) R q)
 case LtE=>
  replace q:Ah4 a b H Q:=q
  apply Au ha q;intro i t q;apply Au hb q;intro j t' q
  exact le_int (Be.mk (.bool _) R q)
 case Gt=>
  replace q:Ah5 a b H Q:=q
  apply Au ha q;intro i t q;apply Au hb q;intro j t' q
  exact gt_int (Be.mk (.bool _) R q)
 case GtE=>
  replace q:Ah6 a b H Q:=q
  apply Au ha q;intro i t q;apply Au hb q;intro j t' q
  exact ge_int (Be.mk (.bool _) R q)
 case Is=>
  replace q:Ah7 a b H Q:=q
  refine Ch q fun r e q=>?_
  exact(Rb ha hb e).1 _ _ (Be.mk (.bool _) R q)
 case IsNot=>
  replace q:Ae9 a b H Q:=q
  refine Ch q fun r e q=>?_
  exact(Rb ha hb e).2 _ _ (Be.mk (.bool _) R q)
 case In=>
  replace q:N4 a b H Q:=q
  induction hb with
  | ref x=>
    dsimp only[N4]at q
    refine Aa fun nY=>?_
    split at q
    ·rename_i xs e1
     refine nY ?_;clear nY
     refine Ch q fun r e q=>?_
     refine Aa fun nY=>?_
     obtain⟨l1,h1,r1,z1⟩:=R.isList e1
     obtain⟨m1,m2⟩:=G8 (A:=A.in1) (s:=s) ha r1 e
     refine nY ?_;clear nY
     exact in_listAt (T0 W a) h1 m1 (by rw[m2];exact Be.mk (.bool _) R q)
    ·rename_i xs e1
     refine nY ?_;clear nY
     refine Ch q fun r e q=>?_
     refine Aa fun nY=>?_
     obtain⟨l1,h1,r1,z1⟩:=R.isTup e1
     obtain⟨m1,m2⟩:=G8 (A:=A.in1) (s:=s) ha r1 e
     refine nY ?_;clear nY
     exact in_tupleAt (T0 W a) h1 m1 (by rw[m2];exact Be.mk (.bool _) R q)
    ·rename_i es e1
     refine nY ?_;clear nY
     apply Au ha q
     intro k t q
     refine Aa fun nY=>?_
     obtain⟨kvs,h1,r1,z1⟩:=R.isDict e1
     refine nY ?_;clear nY
     refine wpAny_in_of (intKind_is _ _ _ _) (R.noSys Y e1) h1.mapOf ?_
     rw[E0,<-(An.dget r1 _).1]
     exact Be.mk (.bool _) (R.toks _) q
    ·exact q.elim
  | _=>exact False.elim q
 case NotIn=>
  replace q:N4 a b H (fun v H=>match v with | .bool r=>Q (.bool (!r)) H|_=>False):=q
  induction hb with
  | ref x=>
    dsimp only[N4]at q
    refine Aa fun nY=>?_
    split at q
    ·rename_i xs e1
     refine nY ?_;clear nY
     refine Ch q fun r e q=>?_
     refine Aa fun nY=>?_
     obtain⟨l1,h1,r1,z1⟩:=R.isList e1
     obtain⟨m1,m2⟩:=G8 (A:=A.in1) (s:=s) ha r1 e
     refine nY ?_;clear nY
     exact notIn_listAt (T0 W a) h1 m1 (by rw[m2];exact Be.mk (.bool _) R q)
    ·rename_i xs e1
     refine nY ?_;clear nY
     refine Ch q fun r e q=>?_
     refine Aa fun nY=>?_
     obtain⟨l1,h1,r1,z1⟩:=R.isTup e1
     obtain⟨m1,m2⟩:=G8 (A:=A.in1) (s:=s) ha r1 e
     refine nY ?_;clear nY
     exact notIn_tupleAt (T0 W a) h1 m1 (by rw[m2];exact Be.mk (.bool _) R q)
    ·rename_i es e1
     refine nY ?_;clear nY
     apply Au ha q
     intro k t q
     refine Aa fun nY=>?_
     obtain⟨kvs,h1,r1,z1⟩:=R.isDict e1
     refine nY ?_;clear nY
     refine wpAny_notIn_of (intKind_is _ _ _ _) (R.noSys Y e1) h1.mapOf ?_
     rw[E0,<-(An.dget r1 _).1]
     exact Be.mk (.bool _) (R.toks _) q
    ·exact q.elim
  | _=>exact False.elim q
end Mine.Internal
namespace Mine.Internal
open PySem PySem.W PyProof.Rows
variable {W:Wd} {A:Around} {h₀:HB} {env:Env} {c:Cx} {names:List Str} {H:AH} {ρ:Al} {s:Shared} {E:Value->Shared->Prop} {n:Nat} {Q:Ak} {Er:EP}
theorem O8{k:Int}{n j:Nat}(h:Ct k n=some j):seqIndex? k n=some j/\j<n:=by
 delta Ct at h
 refine Aa fun nY=>?_
 split at h
 ·rename_i h0
  split at h
  ·refine nY ?_;clear nY
   rename_i h1;cases h;exact⟨seqIndex_of h0 h1,(Q10 h0 h1)⟩
  ·cases h
 ·rename_i h0
  split at h
  ·refine nY ?_;clear nY
   rename_i h1;cases h;exact⟨seqIndex_neg (Ac3 h0) (Ac4 h1),(Aka h0 h1)⟩
  ·cases h
theorem Rc{k:Int}{n j:Nat}(h:Ct k n=some j): -(n:Int)<=k/\k<n:=by
 delta Ct at h
 refine Aa fun nY=>?_
 split at h
 ·rename_i h0
  split at h
  ·refine nY ?_;clear nY
   rename_i h1;exact⟨(Akj h0),h1⟩
  ·cases h
 ·rename_i h0
  split at h
  ·refine nY ?_;clear nY
   rename_i h1;exact⟨(Ac4 h1),(Akk h0)⟩
  ·cases h
theorem T1:(Bs:Int)<2 ^ 63:=by decide
theorem T2{a:Addr}{l1:List Value}{k:Int}{t:Nat}{n j:Nat}{cv:Value}{Qm:Value->Shared->Prop}(h1:s.heap.IsList a l1.toArray)(hn:n=l1.length)(z:n<=Bs)(e:Ct k n=some j)(x:l1[j]? = some cv)(q:Qm cv s) :
 wpAny W.M A (getItem (.ref a) (.int k t)) Qm E s:=by
 have b63:=T1
 refine Aa fun nY=>?_
 subst hn
 delta Ct at e
 split at e
 ·rename_i h0
  split at e
  ·rename_i h2;cases e
   refine nY ?_;clear nY
   exact wpAny_getItem_list h1 h0 (Akz b63 z h2) (by simpa using x) q
  ·cases e
 ·rename_i h0
  split at e
  ·rename_i h2;cases e
   refine nY ?_;clear nY
   exact wpAny_getItem_list_neg h1 (Ac3 h0) (by rw[List.size_toArray];exact Ac4 h2) (Ak0 b63 z h2) (by simpa using x) q
  ·cases e
theorem T3(Y:Ai W env c h₀)(R:An W h₀ env names H ρ s){a b:V}{u v:Value}(ha:VR W a u)(hb:VR W b v)(q:D4 a b H Q) :
 wpAny W.M A (getItem u v) (Be W h₀ env names ρ Q) E s:=by
 apply Au hb q
 intro k t q
 induction ha with
 | ref a=>
   dsimp only at q
   refine Aa fun nY=>?_
   split at q
   ·rename_i xs e1
    obtain⟨l1,h1,r1,z1⟩:=R.isList e1
    refine nY ?_;clear nY
    refine Ch q fun j e2 q=>?_
    refine Ch q fun v' e3 q=>?_
    refine Aa fun nY=>?_
    obtain⟨cv,x1,x2⟩:=r1.get j e3
    refine nY ?_;clear nY
    exact T2 h1 r1.length z1 e2 x1 (Be.mk x2 R q)
   ·rename_i xs e1
    obtain⟨l1,h1,r1,z1⟩:=R.isTup e1
    refine nY ?_;clear nY
    refine Ch q fun j e2 q=>?_
    refine Ch q fun v' e3 q=>?_
    refine Aa fun nY=>?_
    obtain⟨cv,x1,x2⟩:=r1.get j e3
    have b63:=T1
    obtain⟨i1,i2⟩:=O8 e2
    refine nY ?_;clear nY
    refine getItem_tuple h1 ?_ ?_ (by simpa[<-r1.length]using i1) (by simpa using x1) (Be.mk x2 R q)
    ·have:=Rc e2;exact Ak1 z1 b63 this.1
    ·have:=Rc e2;exact Int.lt_trans (Int.lt_of_lt_of_le this.2 (Int.ofNat_le.mpr z1)) b63
   ·rename_i es e1
    obtain⟨kvs,h1,r1,z1⟩:=R.isDict e1
    refine nY ?_;clear nY
    refine Ch q fun v' e2 q=>?_
    refine Aa fun nY=>?_
    obtain⟨cv,x1,x2⟩:=(An.dget r1 _).2 _ e2
    refine nY ?_;clear nY
    exact wpAny_getItem_of (intKind_is _ _ _ _) h1.mapOf (by rw[E0];exact x1) (Be.mk x2 (R.toks _) q)
   ·exact q.elim
 | script=>
   refine Aa fun nY=>?_
   obtain⟨l1,h1,r1,z1⟩:=R.script Y
   have r2:Cv W (W.sn.map V.int) l1:=Gn r1
   refine nY ?_;clear nY
   have hl:W.sn.length=l1.length:=by have:=r2.length;simpa using this
   dsimp only at q
   refine Ch q fun j e2 q=>?_
   refine Ch q fun v' e3 q=>?_
   refine Aa fun nY=>?_
   obtain⟨cv,x1,x2⟩:=r2.get j (by rw[List.getElem?_map,e3];rfl)
   refine nY ?_;clear nY
   exact T2 h1 hl (by rw[hl];exact z1) e2 x1 (Be.mk x2 R q)
 | _=>exact False.elim q
theorem X5(items:List Value)(lo hi:Option Int):(slicePick items.toArray lo hi none).toList =
 ((items.take (match hi with|some k=>Fb k items.length|none=>items.length)).drop (match lo with|some k=>Fb k items.length|none=>0)):=by
 have key:∀(a b:Nat),a<=items.length->b<=items.length->sliceBounds lo hi none items.length=((a:Int),(b:Int),1)->(slicePick items.toArray lo hi none).toList=(items.take b).drop a:=by
  intro a b ha hb e
  unfold slicePick
  rw[List.size_toArray,e]
  simp only
  rw[sliceRange_one,pick_run]
  simp only[List.drop_take]
 have cl:∀k:Int,(max 0 (min (if k<0 then k+(items.length:Int)else k) items.length))=((Fb k items.length:Nat):Int)/\Fb k items.length<=items.length:=by
  intro k
  delta Fb
  split<;>constructor<;>(first|lia|omega)
 cases lo with
 | none=>cases hi with
   | none=>exact key 0 items.length (Nat.zero_le _) (Nat.le_refl _) rfl
   | some u=>exact key 0 (Fb u items.length) (Nat.zero_le _) (cl u).2 (by unfold sliceBounds;simp only[Option.getD_none];simp[(cl u).1])
 | some l=>cases hi with
   | none=>exact key (Fb l items.length) items.length (cl l).2 (Nat.le_refl _) (by unfold sliceBounds;simp only[Option.getD_none];simp[(cl l).1])
   | some u=>exact key (Fb l items.length) (Fb u items.length) (cl l).2 (cl u).2 (by unfold sliceBounds;simp only[Option.getD_none];simp[(cl l).1,(cl u).1])
theorem G9{v:V}{u:Value}{k:Option Int}(h:VR W v u)(e:bound? v=some k):IsPart u k:=by
 induction h<;>first|(cases e;first|exact .none|exact .int _ _)|(cases e;done)
theorem Adg{α:Type}(xs:List α)(l u:Option Int):(cut xs l u).length<=xs.length:=by
 delta cut
 simp only[List.length_drop,List.length_take]
 exact Nat.le_trans (Nat.sub_le _ _) (Nat.min_le_right _ _)
theorem Adh{α β:Type}{f:α->Option β}{g:α->β}:∀ {l:List α},(∀k∈l,f k=some (g k))->l.filterMap f=l.map g:=by
 intro l
 induction l with
 | nil=>exact fun _=>rfl
 | cons x r ih=>
   intro h
   rw[List.filterMap_cons,h x List.mem_cons_self,List.map_cons,ih fun k hk=>h k (List.mem_cons_of_mem _ hk)]
theorem X6(items:List Value):slicePick items.toArray none (some 0) (some (-1))=(items.drop 1).reverse.toArray:=by
 refine Aa fun nY=>?_
 cases items with
 | nil=>(refine nY ?_;clear nY;rfl)
 | cons x r=>
   refine nY ?_;clear nY
   unfold slicePick
   have e:sliceBounds none (some 0) (some (-1)) (x::r).toArray.size=((r.length:Int),0,-1):=by
    unfold sliceBounds
    simp
    omega
   rw[e]
   congr 1
   unfold sliceRange
   dsimp only
   have hc:(if (-1:Int)>0 then(if (r.length:Int)<0 then(0-(r.length:Int) + -1-1) / -1 else 0)else(if (r.length:Int)>0 then((r.length:Int)-0 - -1-1)/(- -1)else 0)).toNat=r.length:=by
    rw[if_neg (by decide),show -(-1:Int)=1 from rfl,Int.ediv_one]
    split<;>omega
   rw[hc,List.filterMap_map]
   have:∀k∈List.range r.length,(fun k:Nat=>(x::r).toArray[((r.length:Int) + -1*(k:Int)).toNat]?) k=some (r.reverse.getD k .none):=fun k hk=>by
    have hk:=List.mem_range.mp hk
    have e2:((r.length:Int) + -1*(k:Int)).toNat=r.length-1-k+1:=by omega
    show (x::r).toArray[((r.length:Int) + -1*(k:Int)).toNat]? = _
    rw[e2,List.getElem?_toArray,List.getElem?_cons_succ,List.getElem?_eq_getElem (by omega),List.getD_eq_getElem?_getD,List.getElem?_reverse hk,List.getElem?_eq_getElem (by omega)]
    rfl
   have h2:(List.range r.length).filterMap (fun k:Nat=>(x::r).toArray[((r.length:Int) + -1*(k:Int)).toNat]?)=(List.range r.length).map fun k=>r.reverse.getD k .none:=by
    exact Adh this
   refine h2.trans (List.ext_getElem (by simp) fun i h1 h3=>?_)
   simp at h1 h3
   simp[h1]
theorem Vo(Y:Ai W env c h₀)(R:An W h₀ env names H ρ s){l u st:V}{vl vu vs:Value}{sl a':Addr}{xs:List V}{l1:List Value}{l' u':Option Int}(hl:VR W l vl)(hu:VR W u vu)(hs:VR W st vs)(hsl:s.heap.IsSliceOf sl vl vu vs)(e1:bound? l=some l')(e2:bound? u=some u')(e3:H a'=some (.list xs))(h1:s.heap.IsList a' l1.toArray)(r1:Cv W xs l1)(z1:xs.length<=Bs)
 (qq:Zw xs l' u' st H Q):wpAny W.M A (getItem (.ref a') (.ref sl)) (Be W h₀ env names ρ Q) E s:=by
 induction hs with
 | none=>
   refine wpAny_getItem_list_slice h1 hsl (G9 hl e1) (G9 hu e2) .none (by simp) ?_ (by simp[<-r1.length];exact Nat.le_trans z1 Cb)
   have e:slicePick l1.toArray l' u' none=(slicePick l1.toArray l' u' none).toList.toArray:=by simp
   rw[e,X5]
   have R':=R.push (o:= .list (cut xs l' u')) (D0 (n:=0) (by
    delta cut
    rw[r1.length]
    exact(r1.take _).drop _) (Nat.le_trans (Adg _ _ _) z1)) rfl s.toks
   exact Be.mk (.ref _) R' (qq _ R.fresh)
 | int k t=>
   obtain⟨rfl,rfl,qq⟩:=qq
   refine wpAny_getItem_list_slice h1 hsl (G9 hl e1) (G9 hu e2) (.int _ _) (by decide) ?_ (by simp[<-r1.length];exact Nat.le_trans z1 Cb)
   cases u' with
   | none=>
     rw[krv_pick]
     have R':=R.push (o:= .list xs.reverse) (D0 (n:=0) r1.reverse (by simpa using z1)) rfl s.toks
     exact Be.mk (.ref _) R' (qq _ R.fresh)
   | some j=>
     obtain⟨rfl,qq⟩:=qq
     rw[X6]
     have R':=R.push (o:= .list (xs.drop 1).reverse) (D0 (n:=0) (r1.drop 1).reverse (by rw[List.length_reverse,List.length_drop];exact Nat.le_trans (Nat.sub_le _ _) z1)) rfl s.toks
     exact Be.mk (.ref _) R' (qq _ R.fresh)
 | _=>exact False.elim qq
theorem Qd(Y:Ai W env c h₀)(R:An W h₀ env names H ρ s){a l u st:V}{va vl vu vs:Value}{sl:Addr}(ha:VR W a va)(hl:VR W l vl)(hu:VR W u vu)(hs:VR W st vs)(hsl:s.heap.IsSliceOf sl vl vu vs)(q:Ce a l u st H Q) :
 wpAny W.M A (getItem va (.ref sl)) (Be W h₀ env names ρ Q) E s:=by
 have hL:∀a':Addr,R8 a' l u st H Q->wpAny W.M A (getItem (.ref a') (.ref sl)) (Be W h₀ env names ρ Q) E s:=fun a' q=>by
  refine Ch q fun l' e1 q=>?_
  refine Ch q fun u' e2 q=>?_
  refine Eh q fun xs e3 qq=>?_
  clear q
  obtain⟨l1,h1,r1,z1⟩:=R.isList e3
  exact Vo Y R hl hu hs hsl e1 e2 e3 h1 r1 z1 qq
 induction ha with
 | ref a'=>exact hL a' q
 | _=>exact False.elim q
theorem U6.put{es:List (Int×V)}{kvs:List (Int×Value)}(h:U6 W es kvs){k:Int}{v:V}{u:Value}(hv:VR W v u)(hn:(kvs.map (·.1)).Nodup):U6 W (C2 es k v) (stored kvs k u):=by
 have none_eq:∀l:List (Int×Value),l.any (fun kv=>kv.1=k)=false->l.map (fun kv=>if kv.1=k then(kv.1,u)else kv)=l:=by
  intro l hl
  induction l with
  | nil=>rfl
  | cons p t ih=>
    simp only[List.any_cons,Bool.or_eq_false_iff,decide_eq_false_iff_not]at hl
    simp only[List.map_cons,if_neg hl.1,ih hl.2]
 induction h with
 | nil=>exact .cons hv .nil
 | @cons k' v' c' es kvs h t ih=>
   simp only[List.map_cons,List.nodup_cons]at hn
   unfold C2
   by_cases q:k=k'
   ·subst q
    rw[if_pos rfl]
    unfold stored
    rw[if_pos (by simp)]
    simp only[List.map_cons,if_true]
    rw[none_eq kvs (by
     rw[List.any_eq_false]
     intro p hp he
     exact hn.1 (List.mem_map.mpr ⟨p,hp,by simpa using he⟩))]
    exact .cons hv t
   ·rw[if_neg q]
    have:=ih hn.2
    unfold stored at this ⊢
    have q':¬k'=k:=fun e=>q e.symm
    simp only[List.any_cons,q',decide_false,Bool.false_or,List.map_cons,if_false]
    split
    ·rename_i hh;rw[if_pos hh]at this;exact .cons h this
    ·rename_i hh;rw[if_neg hh]at this;exact .cons h this
theorem U6.length{es:List (Int×V)}{kvs:List (Int×Value)}(h:U6 W es kvs):es.length=kvs.length:=by
 induction h with
 | nil=>rfl
 | cons _ _ ih=>simp[ih]
theorem L1(es:List (Int×V))(k:Int)(v:V):(C2 es k v).length<=es.length+1:=by
 induction es with
 | nil=>simp[C2]
 | cons p t ih=>
   obtain⟨a,b⟩:=p
   unfold C2
   split
   ·simp
   ·simp only[List.length_cons];exact Nat.succ_le_succ ih
theorem Nl{h:Heap}{a:Addr}{kvs:List (Int×Value)}(x:h.DictOf (intKind W.prog W.w) a kvs):∃ob,h.get? a=some ob/\ob.IsDictOf (intKind W.prog W.w) kvs:=
 let ⟨o,es,ep,h1,h2⟩:=x;⟨o,h1,es,ep,h2⟩
theorem L2{h:Heap}{a:Addr}{kvs:List (Int×Value)}(x:h.DictOf (intKind W.prog W.w) a kvs):(kvs.map (·.1)).Nodup:=by
 obtain⟨_,_,_,_,_,_,_,_,h⟩:=x
 exact h
noncomputable def Aiw(W:Wd)(h₀:HB)(env:Env)(names:List Str)(ρ:Al)(N:AH->Prop)(s':Shared):Prop:=∃H',An W h₀ env names H' ρ s'/\N H'
theorem Qe(Y:Ai W env c h₀)(R:An W h₀ env names H ρ s){o i v:V}{uo ui uv:Value}(ho:VR W o uo)(hi:VR W i ui)(hv:VR W v uv){N:AH->Prop}(q:setItem o i v H N) :
 wpAny W.M A (PySem.setItem uo ui uv) (fun _ s'=>Aiw W h₀ env names ρ N s') E s:=by
 delta Mine.Internal.setItem at q
 apply Bo ho q
 intro a q
 apply Au hi q
 intro k t q
 refine Aa fun nY=>?_
 split at q
 ·rename_i xs e1
  obtain⟨l1,nn,h1,r1,z1⟩:=R.lst e1
  refine nY ?_;clear nY
  refine Ch q fun j e2 q=>?_
  have b63:=T1
  replace e2:Ct k xs.length=some j:=e2
  delta Ct at e2
  refine Aa fun nY=>?_
  split at e2
  ·rename_i h0
   split at e2
   ·rename_i h2;cases e2
    refine nY ?_;clear nY
    refine ki_setAt (n:=nn) h1 h0 (Int.lt_trans (Int.lt_of_lt_of_le h2 (Int.ofNat_le.mpr z1)) b63) (by simp[<-r1.length];exact h2) ?_
    exact⟨_,R.changeL e1 h1 (·.setIfInBounds _ uv) (by simp) (r1.set _ hv) (by simpa using z1) s.toks,q⟩
   ·cases e2
  ·rename_i h0
   split at e2
   ·rename_i h2;cases e2
    have hs:l1.toArray.size=xs.length:=by simp[r1.length]
    refine nY ?_;clear nY
    refine ki_setBack (n:=nn) h1 (Ac3 h0) (by rw[hs];exact Ac4 h2) (Akt z1 b63 h2) ?_
    exact⟨_,R.changeL e1 h1 (·.setIfInBounds _ uv) (by simp[r1.length]) (r1.set _ hv) (by simpa using z1) s.toks,q⟩
   ·cases e2
 ·rename_i es e1
  obtain⟨kvs,h1,r1,z1⟩:=R.isDict e1
  refine nY ?_;clear nY
  refine wpAny_setItem_pairs (intKind_is _ _ _ _) h1 (fun h' h2 h3=>?_) (by rw[<-r1.length];exact Nat.le_trans z1 Cb)
  refine Aa fun nY=>?_
  obtain⟨ob,h4,h5⟩:=Nl h2
  refine nY ?_;clear nY
  exact⟨_,R.change _ e1 h3 h4 (.dict (r1.put hv (L2 h1)) (Nat.le_trans (L1 _ _ _) q.1) h5) fun _ _=>⟨_,rfl⟩,q.2⟩
 ·exact q.elim
end Mine.Internal
namespace Mine.Internal
open PySem PySem.W PyProof.Rows
variable {W:Wd} {A:Around} {h₀:HB} {env:Env} {c:Cx} {names:List Str} {H:AH} {ρ:Al} {s:Shared} {E:Value->Shared->Prop} {n:Nat} {Q:Ak} {Er:EP}
noncomputable def Aal(_:Wd):Ty->Value
 | .int=> .type "int" | .bool=> .type "bool" | .list=> .type "list" | .tuple=> .type "tuple"
theorem Sh(R:An W h₀ env names H ρ s){t:Ty}{v:V}{u:Value}(hp:Fd t=true)(hv:VR W v u){r:Bool}(e:Ku t v H=some r)(q:Q (.bool r) H) :
 wpAny W.M A (call (.builtin "isinstance") [u,Aal W t]) (Be W h₀ env names ρ Q) E s:=by
 induction hv with
 | none=>cases t<;>first|(cases hp;done)|(obtain rfl:=Option.some.inj e)
         ·exact IsiPair.NoneType_int (Be.mk (.bool _) (R.toks _) q)
         ·exact IsiPair.NoneType_bool (Be.mk (.bool _) (R.toks _) q)
         ·exact IsiPair.NoneType_list (Be.mk (.bool _) (R.toks _) q)
         ·exact IsiPair.NoneType_tuple (Be.mk (.bool _) (R.toks _) q)
 | bool b=>cases t<;>first|(cases hp;done)|(obtain rfl:=Option.some.inj e)
           ·exact IsiPair.bool_int (Be.mk (.bool _) R q)
           ·exact IsiPair.bool_bool (Be.mk (.bool _) R q)
           ·exact IsiPair.bool_list (Be.mk (.bool _) (R.toks _) q)
           ·exact IsiPair.bool_tuple (Be.mk (.bool _) (R.toks _) q)
 | int i t'=>cases t<;>first|(cases hp;done)|(obtain rfl:=Option.some.inj e)
             ·exact IsiPair.int_int (Be.mk (.bool _) R q)
             ·exact IsiPair.int_bool (Be.mk (.bool _) (R.toks _) q)
             ·exact IsiPair.int_list (Be.mk (.bool _) (R.toks _) q)
             ·exact IsiPair.int_tuple (Be.mk (.bool _) (R.toks _) q)
 | script=>exact @nn _ _ _ e
 | ref a=>
   cases ha:H a with
   | none=>rw[show Ku t (.ref a) H=none from(by show (match H a with|some o=>Iz o t|none=>none)=_;rw[ha])]at e;cases e
   | some o=>
     replace e:Iz o t=some r:=by rw[<-e];show _=(match H a with|some o=>Iz o t|none=>none);rw[ha]
     cases o with
     | list xs=>
       obtain⟨l1,h1,r1,z1⟩:=R.isList ha
       cases t<;>first|(cases hp;done)|(obtain rfl:=Option.some.inj e)
       ·exact IsiPair.isList_int h1 (fun _ _ e=>e) (Be.mk (.bool _) (R.toks _) q)
       ·exact IsiPair.isList_bool h1 (fun _ _ e=>e) (Be.mk (.bool _) (R.toks _) q)
       ·exact IsiPair.isList_list h1 (fun _ _ e=>e) (Be.mk (.bool _) R q)
       ·exact IsiPair.isList_tuple h1 (fun _ _ e=>e) (Be.mk (.bool _) (R.toks _) q)
     | tuple xs=>
       obtain⟨l1,h1,r1,z1⟩:=R.isTup ha
       cases t<;>first|(cases hp;done)|(obtain rfl:=Option.some.inj e)
       ·exact IsiPair.isTuple_int h1 (fun _ _ e=>e) (Be.mk (.bool _) (R.toks _) q)
       ·exact IsiPair.isTuple_bool h1 (fun _ _ e=>e) (Be.mk (.bool _) (R.toks _) q)
       ·exact IsiPair.isTuple_list h1 (fun _ _ e=>e) (Be.mk (.bool _) (R.toks _) q)
       ·exact IsiPair.isTuple_tuple h1 (fun _ _ e=>e) (Be.mk (.bool _) R q)
     | _=>cases t<;>first|(cases hp;done)|exact @nn _ _ _ e
noncomputable def Afm:BI->Value
 | .len=> .builtin "len" | .list=> .type "list" | .sorted=> .builtin "sorted" | .max=> .builtin "max" | .min=> .builtin "min" | .minL=> .builtin "min"
 | .all=> .builtin "all" | .any=> .builtin "any" | .int=> .type "int" | _=> .none
noncomputable def O9:BI->Bool
 | .len | .list | .sorted | .max | .min | .minL | .all | .any=>true
 | _=>false
theorem Aam{xs:List V}{items:List Value}{bs:List Bool}(h:Cv W xs items)(e:bools? xs=some bs):items=bs.map Value.bool:=by
 induction h generalizing bs with
 | nil=>cases e;rfl
 | cons h _ ih=>
   induction h with
   | bool b=>
     obtain⟨l,h1,h2⟩:=Option.map_eq_some_iff.mp (show (bools? _).map _=some bs from e)
     subst h2
     rw[ih h1];rfl
   | _=>cases e
theorem X7(bs:List Bool):(List.range bs.length).all (fun i=>bs.getD i false)=bs.all id:=by
 induction bs with
 | nil=>rfl
 | cons b r ih=>rw[List.length_cons,List.range_succ_eq_map,List.all_cons,List.all_map,List.all_cons];congr 1
theorem Aan{es:List (Int×V)}{kvs:List (Int×Value)}{vs:List Value}(h:U6 W es kvs):vs.length=kvs.length->
 (∀(j:Nat) (v:Value),vs[j]? = some v->∃k x,kvs[j]? = some (k,x)/\(intKind W.prog W.w).is k v=true)->IntsAre vs (es.map (·.1)):=by
 induction h generalizing vs with
 | nil=>
   intro hl _
   refine Aa fun nY=>?_
   cases vs with
   | nil=>(refine nY ?_;clear nY;exact .nil)
   | cons v vs=>cases hl
 | @cons k _ _ _ _ h t ih=>
   intro hl hv
   refine Aa fun nY=>?_
   cases vs with
   | nil=>cases hl
   | cons v vs=>
     obtain⟨k',x,e1,e2⟩:=hv 0 v rfl
     cases e1
     obtain⟨t',rfl⟩:=Value.isInt_shape (show Value.isInt k v=true from e2)
     refine nY ?_;clear nY
     exact .cons k t' (ih (Nat.succ.inj hl) fun j v hj=>hv (j+1) v hj)
theorem Vp{T:String}{r d:Addr}{n:Nat}{P:Nat->Value->Prop}{OK:Heap->Prop}{ks:List Int}{Q:Value->Shared->Prop}(K:KdlSrc W.prog W.w T r d n P OK)(hh:A.handled=none)(hok:OK s.heap)(hn:n<=sizeLine)(h64:n<64)
 (hI:∀acc:Array Value,ItemsOf P acc n->∃ks',IntsAre acc.toList ks'/\ks'.Perm ks)
 (h:∀(D:Addr) (h':Heap) (tk ee:Nat) (vs:List Value),s.heap.get? D=none->(∀b,s.heap.get? b≠none->b<D)->(∀b o,s.heap.get? b=some o->h'.get? b=some o)->h'.get? D=some {cls:= .type "list",data:= .seq vs.toArray ee} ->
   IntsAre vs (Bf ks)->Q (.ref D) {s with heap:=h',toks:=tk}) :
 wpAny W.M A (call (.builtin "sorted") [.ref r]) Q E s:=by
 refine Calls.call_function_entry kind_sorted plain_sorted entry_sorted (args_sorted1 _) ?_
 unfold Builtin.«sorted»
 refine wpAny_bind (m:=checkCount "sorted" 1 1 _) (wpAny_pure ?_)
 refine wpAny_bind (kdu_collect (A:=A.in1) K hh hok hn fun h' tk acc hk hacc=>?_)
 have hl:acc.toList.length=n:=by rw[Array.length_toList];exact hacc.1
 refine wpAny_bind (wpAny_newList ?_ (by rw[hl];exact hn))
 refine Aa fun nY=>?_
 obtain⟨ks',hI,hpk⟩:=hI acc hacc
 have hD:s.heap.get? h'.objs.size=none:=Sf hk
 have hlt:∀b,s.heap.get? b≠none->b<h'.objs.size:=fun b hb=>by
  cases q:s.heap.get? b with
  | none=>exact absurd q hb
  | some o=>exact Heap.lt_size (hk b o q)
 have ho:(h'.push (seqObj "list" acc.toList.toArray 0)).get? h'.objs.size=some (seqObj "list" acc.toList.toArray 0):=Heap.get?_push_size _ rfl
 refine nY ?_;clear nY
 refine wpAny_bind (wpAny_holding (wpAny_call_entry slot_list_sort ⟨_,ho,rfl⟩ entry_list_sort (list_sort_tree (n:=0) ho hI (by rw[hl];exact h64) fun out ns' a1 a2 a3=>⟨_,rfl,?_⟩) (args_list_sort _)))
 have en:ns'=Bf ks:=Km ((a2.trans hpk).trans (B8 _).symm) a3 (Dk _)
 subst en
 obtain⟨ee,he⟩:=sortedHeap_at (out:=out) ho
 refine wpAny_pure ⟨_,rfl,h h'.objs.size _ tk ee out.toList hD hlt (fun b o e=>?_) he a1⟩
 have hb:=Heap.lt_size (hk b o e)
 rw[sortedHeap_old (Nat.ne_of_lt hb) (by rw[Heap.size_push];exact Nat.lt_succ_of_lt hb)]
 exact Heap.get?_push_of_some _ (hk b o e)
theorem T4{d:Addr}{es:List (Int×V)}{kvs:List (Int×Value)}{ep:Nat}{Q:Value->Shared->Prop}(lo:(d==sysModules)=false)(hh:A.handled=none)(hat:s.heap.DictAt (intKind W.prog W.w) d kvs ep)
 (hn:kvs.length<=sizeLine) (r1:U6 W es kvs) (h64:kvs.length<64)
 (h:∀(D:Addr) (h':Heap) (tk ee:Nat) (vs:List Value),s.heap.get? D=none->(∀b,s.heap.get? b≠none->b<D)->(∀b o,s.heap.get? b=some o->h'.get? b=some o)->h'.get? D=some {cls:= .type "list",data:= .seq vs.toArray ee} ->
   IntsAre vs (Bf (es.map (·.1)))->Q (.ref D) {s with heap:=h',toks:=tk}) :
 wpAny W.M A (call (.builtin "sorted") [.ref d]) Q E s:=
 Vp (kdl_dict (knd:=intKind W.prog W.w) (kvs:=kvs) (ep:=ep) lo) hh hat hn h64 (fun acc hacc=>⟨_,Aan r1 (by rw[Array.length_toList];exact hacc.1) fun j v hj=>hacc.2 j v (by rw[<-Array.getElem?_toList];exact hj),.rfl⟩) h
theorem Al8{v:V}{us:List Value}(h:Cv W [v] us):∃u,us = [u]/\VR W v u:=by
 cases h with|cons h t=>cases t;exact⟨_,rfl,h⟩
theorem Ak7{v v':V}{us:List Value}(h:Cv W [v,v'] us):(Ka fun u u'=>D3 (us = [u,u']) (VR W v u) (VR W v' u')):=by
 cases h with|cons h t=>cases t with|cons h' t=>cases t;exact⟨_,_,rfl,h,h'⟩
/-! sorted of pairs:some order of them -/
noncomputable def Og{α:Type}(n:Nat)(P:α->Prop):KasT α->Prop
 | .ret a=>P a
 | .ask i j k=>i<n/\j<n/\∀b,Og n P (k b)
theorem Og.bind{α β:Type}{n:Nat}{P:α->Prop}{P':β->Prop}{f:α->KasT β}:∀t:KasT α,Og n P t->(∀a,P a->Og n P' (f a))->Og n P' (t.bind f)
 | .ret a,h,hf=>hf a h
 | .ask _ _ k,h,hf=>⟨h.1,h.2.1,fun b=>Og.bind (k b) (h.2.2 b) hf⟩
theorem Og.wp{α:Type}{n:Nat}{P:α->Prop}{ask:Nat->Nat->(Bool->Shared->Prop)->Shared->Prop}{Q:α->Shared->Prop}{s:Shared}(ha:∀i j C,i<n->j<n->(∀b,C b s)->ask i j C s)(hQ:∀a,P a->Q a s) :
 ∀t:KasT α,Og n P t->t.kasWp ask Q s
 | .ret a,h=>hQ a h
 | .ask i j k,h=>ha i j _ h.1 h.2.1 fun b=>Og.wp ha hQ (k b) (h.2.2 b)
noncomputable def Cu(n:Nat)(p:Array Nat):Prop:=p.toList.Perm (List.range n)
theorem Cu.lt{n:Nat}{p:Array Nat}(h:Cu n p)(hn:0<n)(i:Nat):p.getD i 0<n:=by
 rw[Array.getD_eq_getD_getElem?]
 cases q:p[i]? with
 | none=>exact hn
 | some x=>exact List.mem_range.mp (h.mem_iff.mp (List.mem_of_getElem? (by rw[Array.getElem?_toList];exact q)))
theorem Cu.rev{n:Nat}{p:Array Nat}(h:Cu n p){i j:Nat}:Cu n (kas_rev p i j):=(Array.perm_iff_toList_perm.mp (mirror_perm p i j _)).trans h
theorem Cu.bub{n:Nat}{p:Array Nat}(h:Cu n p){i j:Nat}:Cu n (bubble p i j):=(Array.perm_iff_toList_perm.mp (bubble_perm p i j)).trans h
theorem Vq{n:Nat}{p:Array Nat}(h:Cu n p)(hn:0<n):∀f k,Og n (fun _=>True) (kas_asc p f k)
 | 0,_=>trivial
 | f+1,k=>⟨h.lt hn _,h.lt hn _,fun b=>match b with|true=>trivial|false=>Vq h hn f (k+1)⟩
theorem Oh{n:Nat}(hn:0<n):∀f {p:Array Nat} k q,Cu n p->Og n (fun r:Array Nat×Nat×Nat=>Cu n r.1) (kas_desc f p k q)
 | 0,_,_,_,h=>h
 | f+1,p,k,q,h=>by
   refine⟨h.lt hn _,h.lt hn _,fun b=>?_⟩
   cases b with
   | true=>
     show Og n _ (if q>0 then _ else _)
     split
     ·exact Oh hn f _ _ h.rev
     ·exact Oh hn f _ _ h
   | false=>exact⟨h.lt hn _,h.lt hn _,fun b=>match b with|true=>h|false=>Oh hn f _ _ h⟩
theorem T5{n:Nat}{p:Array Nat}(h:Cu n p)(hn:0<n)(k r:Nat):Og n (fun x:Nat×Array Nat=>Cu n x.2) (kas_tail3 k r p):=
 Og.bind _ (Vq h.rev hn _ _) fun _ _=>h.rev
theorem Nm{n:Nat}{p:Array Nat}(h:Cu n p)(hn:0<n)(k r:Nat):Og n (fun x:Nat×Array Nat=>Cu n x.2) (kas_descPart k r p):=by
 refine Og.bind _ (Oh hn _ _ _ h) fun x hx=>?_
 split
 ·exact T5 hx.rev hn _ _
 ·exact T5 hx hn _ _
theorem Aao{n:Nat}{p:Array Nat}(h:Cu n p)(hn:0<n)(r:Nat):Og n (fun x:Nat×Array Nat=>Cu n x.2) (kas_count r p):=by
 refine Og.bind _ (Vq h hn _ _) fun k _=>?_
 split
 ·exact h
 ·split
  ·exact⟨h.lt hn _,h.lt hn _,fun b=>match b with|true=>h|false=>Nm h.rev hn _ _⟩
  ·exact Nm h hn _ _
theorem Pa{n:Nat}{p:Array Nat}(h:Cu n p)(hn:0<n)(k:Nat):∀f l r,Og n (fun _=>True) (kas_place p k f l r)
 | 0,_,_=>trivial
 | f+1,l,r=>by
   unfold kas_place
   split
   ·trivial
   ·exact⟨h.lt hn _,h.lt hn _,fun b=>match b with|true=>Pa h hn k f _ _|false=>Pa h hn k f _ _⟩
theorem Aap{n:Nat}(hn:0<n):∀f {p:Array Nat} k,Cu n p->Og n (Cu n) (kas_bin f p k)
 | 0,_,_,h=>h
 | f+1,_,k,h=>Og.bind _ (Pa h hn k _ _ _) fun _ _=>Aap hn f _ h.bub
theorem Adi{n:Nat}(hn:0<n):Og n (Cu n) (kas_sort n):=by
 refine Og.bind _ (Aao (List.Perm.refl _) hn n) fun x hx=>?_
 split
 ·exact Aap hn _ _ hx
 ·exact hx
theorem Aaq{n:Nat}{p:Array Nat}{vs:List Value}(h:Cu n p)(hn:n=vs.length):(p.toList.map fun i=>vs.getD i Value.none).Perm vs:=by
 have h1:=h.map fun i=>vs.getD i Value.none
 have e:(List.range n).map (fun i=>vs.getD i Value.none)=vs:=by
  subst hn
  refine List.ext_getElem (by simp) fun i h1 h2=>?_
  simp[h2]
 rw[e]at h1
 exact h1
theorem Aar{out vs:List Value}(h:out.Perm vs):∀ {xs:List V},Cv W xs vs->∃xs',xs'.Perm xs/\Cv W xs' out:=by
 induction h with
 | nil=>intro xs r;exact⟨xs,.refl _,r⟩
 | cons x h ih=>
   intro xs r
   refine Aa fun nY=>?_
   cases r with
   | cons r t=>
     obtain⟨ys,h1,h2⟩:=ih t
     refine nY ?_;clear nY
     exact⟨_,h1.cons _,.cons r h2⟩
 | swap x y l=>
   intro xs r
   refine Aa fun nY=>?_
   cases r with
   | cons r t=>
     cases t with
     | cons r' t=>(refine nY ?_;clear nY;exact⟨_,.swap _ _ _,.cons r' (.cons r t)⟩)
 | trans _ _ ih1 ih2=>
   intro xs r
   refine Aa fun nY=>?_
   obtain⟨ys,h1,h2⟩:=ih2 r
   obtain⟨zs,h3,h4⟩:=ih1 h2
   refine nY ?_;clear nY
   exact⟨zs,h3.trans h1,h4⟩
noncomputable def Adk(h:Heap)(v:Value):Prop:=∃a o i j t u n,v = .ref a/\h.get? a=some o/\o.cls = .type "tuple" /\o.data = .seq #[.int i t,.int j u] n
theorem Aix{i j:Int}{x y:Value}{Q:Bool->Shared->Prop}(hx:Adk s.heap x)(hy:Adk s.heap y)(hq:∀b,Q b s):wpAny (model W.prog W.w) A (keyLt' (tuples' true) x y) Q E s:=by
 refine Aa fun nY=>?_
 obtain⟨a,o,i,j,t,u,n,rfl,h1,_,h3⟩:=hx
 obtain⟨a',o',i',j',t',u',n',rfl,h1',_,h3'⟩:=hy
 refine nY ?_;clear nY
 refine kat_lt h1 h3 h1' h3' ?_
 refine kat_cons (wpAny_eqBool_int (kat_go (fun _=>kat_yes ?_) fun _=>kat_no (oneLt_int (hq _))))
 refine kat_cons (wpAny_eqBool_int (kat_go (fun _=>kat_yes (kat_nil (hq _))) fun _=>kat_no ?_))
 exact kat_one _ _ (lt_int (hq _))
theorem W8{h:Heap}:∀ {vs:List Value},(∀v∈vs,Adk h v)->∃fs,KatTups h vs fs/\fs.length=vs.length/\∀f∈fs,∃i t,f = .int i t
 | [],_=>⟨[],.nil,rfl,fun _ h=>absurd h List.not_mem_nil⟩
 | v::vs,hv=>by
   obtain⟨fs,h1,h2,h3⟩:=W8 (vs:=vs) fun v hm=>hv v (.tail _ hm)
   obtain⟨a,o,i,j,t,u,n,rfl,q1,q2,q3⟩:=hv v (.head _)
   refine⟨.int i t::fs,.cons q1 q2 q3 rfl h1,by simp[h2],fun f hf=>?_⟩
   rcases List.mem_cons.mp hf with rfl|hf
   ·exact⟨_,_,rfl⟩
   ·exact h3 f hf
theorem N6{a:Addr}{vs:List Value}{n:Nat}{P:PySem.Fin->Shared->Prop}(ho:s.heap.get? a=some (seqObj "list" vs.toArray n))(h2:vs.length<2)
 (h:P (.done (.ret .none)) {s with heap:=sortedHeap s.heap a vs ((vs.toArray.zip vs.toArray).map (·.2))}):wpAny (model W.prog W.w) A (Builtin.«list.sort» ⟨[.ref a],[]⟩) P E s:=by
 rw[list_sort_plain]
 have ha:a<s.heap.objs.size:=Heap.lt_size ho
 refine wpAny_bind (listItems_at ho rfl ?_)
 refine wpAny_bind (listUpdate_at ho rfl ?_ (by rw[List.size_toArray,sizeLine_eq];(first|lia|omega)) (Nat.zero_le _))
 obtain⟨e1,ho1⟩:∃e1,(s.heap.update a (Obj.mapSeq fun _=> #[])).get? a=some (seqObj "list" #[] e1):=⟨_,get?_update_seq ho (fun _=> #[])⟩
 refine wpAny_bind (seqEpoch_at ho1 rfl ?_)
 refine wpAny_bind (wpAny_newTuple ?_ (by show vs.length<=_;rw[sizeLine_eq];(first|lia|omega)))
 refine wpAny_bind (wpAny_newList ?_ (Nat.zero_le _))
 refine wpAny_holding ?_
 have ho6:(((s.heap.update a (Obj.mapSeq fun _=> #[])).push (seqObj "tuple" vs.toArray 0)).push (seqObj "list" #[] 0)).get? a=some (seqObj "list" #[] e1):=by
  rw[Heap.get?_push_ne _ _ _ (by rw[size_push',Heap.size_update];exact Nat.ne_of_lt (Nat.lt_succ_of_lt ha)),Heap.get?_push_ne _ _ _ (by rw[Heap.size_update];exact Nat.ne_of_lt ha)]
  exact ho1
 show wpAny (model W.prog W.w) A _ P E {s with heap:=((s.heap.update a (Obj.mapSeq fun _=> #[])).push (seqObj "tuple" vs.toArray 0)).push (seqObj "list" #[] 0)}
 dsimp only
 have h2':vs.toArray.size<2:=by rw[List.size_toArray];exact h2
 rw[if_pos h2',if_pos h2']
 refine wpAny_bind (wpAny_pure ?_)
 rw[StateT.run_pure]
 refine wpAny_bind (wpAny_pure ?_)
 dsimp only
 refine wpAny_bind (seqEpoch_at ho6 rfl ?_)
 refine wpAny_bind (listUpdate_at ho6 rfl ?_ (Nat.zero_le _) (by rw[Array.size_map];show (pairsOf vs).size<=_;rw[pairsOf_size,sizeLine_eq];(first|lia|omega)))
 simp only[bne_self_eq_false,Bool.false_eq_true,if_false]
 exact wpAny_pure h
theorem Vr{l:Addr}{vs:List Value}{L:Addr}{m:Str->Option Value}{b₀:Heap}{news:List (Addr×Obj)}{Q:Value->Shared->Prop}(F:Fr b₀ L s.heap m)(N:News b₀ L s.heap news)(hl:s.heap.IsList l vs.toArray)(h64:vs.length<64)
 (hp:∀h',Fr b₀ L h' m->(∃ob,News b₀ L h' ((s.heap.objs.size+1,ob)::news))->∀v∈vs,Adk h' v)
 (h:∀(h':Heap) (vs':List Value) (e:Nat),Fr b₀ L h' m->News b₀ L h' ((s.heap.objs.size+1,seqObj "list" vs'.toArray e)::news)->vs'.Perm vs->Q (.ref (s.heap.objs.size+1)) {s with heap:=h'}) :
 wpAny (model W.prog W.w) A (call (.builtin "sorted") [.ref l]) Q E s:=by
 refine Calls.call_function_entry kind_sorted plain_sorted entry_sorted (args_sorted1 _) ?_
 unfold Builtin.«sorted»
 refine wpAny_bind (m:=checkCount "sorted" 1 1 _) (wpAny_pure ?_)
 refine wpAny_bind (collect_list hl ?_ (by rw[sizeLine_eq];(first|lia|omega)))
 refine wpAny_bind (wpAny_newList ?_ (by rw[sizeLine_eq];(first|lia|omega)))
 have hsz:((s.heap.push (seqObj "list" #[] 0)).update s.heap.objs.size (Obj.mapSeq (· ++ vs.toArray))).objs.size=s.heap.objs.size+1:=by
  rw[Heap.size_update,size_push']
 have hoL:(((s.heap.push (seqObj "list" #[] 0)).update s.heap.objs.size (Obj.mapSeq (· ++ vs.toArray))).push (seqObj "list" vs.toArray 0)).get? (s.heap.objs.size+1)=some (seqObj "list" vs.toArray 0):=by
  rw[<-hsz];exact Heap.get?_push_size _ rfl
 have keep:∀b o,s.heap.get? b=some o->(((s.heap.push (seqObj "list" #[] 0)).update s.heap.objs.size (Obj.mapSeq (· ++ vs.toArray))).push (seqObj "list" vs.toArray 0)).get? b=some o:=fun b o q=>by
  have hlt:b<s.heap.objs.size:=Heap.lt_size q
  rw[Heap.get?_push_ne _ _ _ (by rw[hsz];exact Nat.ne_of_lt (Nat.lt_succ_of_lt hlt)),Heap.get?_update_ne _ _ _ _ (Nat.ne_of_lt hlt),Heap.get?_push_ne _ _ _ (Nat.ne_of_lt hlt)]
  exact q
 have hL:L<s.heap.objs.size:=F.ns.lt
 show wpAny _ _ _ _ _ {s with heap:=((s.heap.push (seqObj "list" #[] 0)).update s.heap.objs.size (Obj.mapSeq (· ++ vs.toArray))).push (seqObj "list" vs.toArray 0)}
 rw[hsz]
 have F1:=F.kept keep
 have N1:=N.grown keep
 generalize ((s.heap.push (seqObj "list" #[] 0)).update s.heap.objs.size (Obj.mapSeq (· ++ vs.toArray))).push (seqObj "list" vs.toArray 0)=H1 at *
 have haL:=Nat.ne_of_gt (Nat.lt_succ_of_lt hL)
 have ha0:b₀.get? (s.heap.objs.size+1)=none:=Heap.get?_none_of_le (Nat.le_trans F.above (Nat.le_succ_of_le (Nat.le_of_lt hL)))
 have hna:∀p∈news,p.1≠s.heap.objs.size+1:=fun p hp=>Nat.ne_of_lt (Nat.lt_succ_of_lt (Heap.lt_size (N p hp).1))
 refine wpAny_bind (wpAny_holding (wpAny_call_entry slot_list_sort ⟨_,hoL,rfl⟩ entry_list_sort ?body (args_list_sort _)))
 case body=>
  refine Aa fun nY=>?_
  by_cases h2:2<=vs.length
  ·refine nY ?_;clear nY
   refine kat_list_sort (s:={s with heap:=H1}) F1 N1 hoL haL ha0 hna h2 h64 fun e1 h' F' N'=>?_
   have hpr:=hp h' F' ⟨_,N'⟩
   refine Aa fun nY=>?_
   obtain⟨fs,t1,t2,t3⟩:=W8 hpr
   refine nY ?_;clear nY
   refine kat_kind t1 (by(first|lia|omega)) (T:= .type "int") (fun v hv=>?_) rfl ?_
   ·obtain⟨i,t,rfl⟩:=t3 v hv
    exact Looks.of_pure rfl
   refine Og.wp (fun i j C hi hj hC=>?_) (fun p hpm=>?_) _ (Adi (n:=vs.length) (by(first|lia|omega)))
   ·have at_:∀k,k<vs.length->vs.getD k Value.none∈vs:=fun k hk=>by
     rw[List.getD_eq_getElem?_getD,List.getElem?_eq_getElem hk];exact List.getElem_mem _
    exact Aix (i:=0) (j:=0) (hpr _ (at_ i hi)) (hpr _ (at_ j hj)) hC
   ·exact KasFin.intro F' N' (.head hna) fun h2 c F2 N2=>⟨_,rfl,wpAny_pure ⟨_,rfl,h h2 _ c F2 N2 (Aaq hpm rfl)⟩⟩
  ·have eo:((vs.toArray.zip vs.toArray).map (·.2)).toList=vs:=by
    rw[Array.toList_map,Array.toList_zip]
    exact List.map_snd_zip (Nat.le_refl _)
   refine nY ?_;clear nY
   refine N6 (s:={s with heap:=H1}) hoL (by(first|lia|omega)) ⟨_,rfl,?_⟩
   obtain⟨ee,he⟩:=sortedHeap_at (out:=(vs.toArray.zip vs.toArray).map (·.2)) hoL
   have keep2:∀b o,s.heap.get? b=some o->(sortedHeap H1 (s.heap.objs.size+1) vs ((vs.toArray.zip vs.toArray).map (·.2))).get? b=some o:=fun b o e=>by
    have hb:=Heap.lt_size e
    rw[sortedHeap_old (Nat.ne_of_lt (Nat.lt_succ_of_lt hb)) (Heap.lt_size (keep b o e))]
    exact keep b o e
   have hw:=h _ ((vs.toArray.zip vs.toArray).map (·.2)).toList ee (F.kept keep2) (N.kept_cons F keep2 (Nat.le_succ _) he) (by rw[eo])
   exact wpAny_pure ⟨_,rfl,hw⟩
theorem Aas{v:V}(h:isI v=true):∃i,v = .int i:=by
 cases v<;>first|exact⟨_,rfl⟩|cases h
theorem Aat{xs:List V}(h:Afb xs=true):∃i j,xs = [.int i,.int j]:=by
 rcases xs with _ | ⟨a,_ | ⟨b,_ | ⟨c',r'⟩⟩⟩<;>try (cases h;done)
 obtain⟨h1,h2⟩:=Bool.and_eq_true_iff.mp (show (isI a&&isI b)=true from h)
 obtain⟨i,rfl⟩:=Aas h1
 obtain⟨j,rfl⟩:=Aas h2
 exact⟨i,j,rfl⟩
theorem Aau{o:Option O}(h:Zx o=true):∃i j,o=some (.tuple [.int i,.int j]):=by
 cases o with
 | none=>cases h
 | some o=>
   cases o<;>try (cases h;done)
   obtain⟨i,j,rfl⟩:=Aat h
   exact⟨i,j,rfl⟩
theorem Adl{x:V}(h:Aia H x=true):∃t i j,x = .ref t/\H t=some (.tuple [.int i,.int j]):=by
 cases x<;>try (cases h;done)
 obtain⟨i,j,e⟩:=Aau h
 exact⟨_,i,j,rfl,e⟩
theorem T6(Y:Ai W env c h₀)(R:An W h₀ env names H ρ s){m:Str->Option Value}(F:Fr W.b₀ env.locals s.heap m){l:Addr}{l1:List Value}{xs:List V}(h1:s.heap.IsList l l1.toArray)(r1:Cv W xs l1)(z1:xs.length<=Bs)(q:Wu xs H Q) :
 wpAny W.M A (call (.builtin "sorted") [.ref l]) (Be W h₀ env names ρ Q) E s:=by
 refine Vr (W:=W) F X3 h1 (by rw[<-r1.length];exact q.1) (fun h' F' ⟨_,N'⟩ v hv=>?_) fun h' vs' e F' N' hpm=>?_
 ·refine Aa fun nY=>?_
  obtain⟨i,hi⟩:=List.mem_iff_getElem?.mp hv
  obtain⟨x,hx,rx⟩:=Cv.get' i r1 hi
  obtain⟨t,i',j',rfl,ht⟩:=Adl (List.all_eq_true.mp q.2.1 x (List.mem_of_getElem? hx))
  cases rx
  obtain⟨l2,⟨o,ho,hc,nn,hdd⟩,r2,z2⟩:=R.isTup ht
  cases r2 with
  | cons ra rb=>
    cases rb with
    | cons rb rc=>
      cases rc;cases ra;cases rb
      refine nY ?_;clear nY
      exact⟨_,o,_,_,_,_,nn,rfl,Sg R Y F' N' (fun p hp=> .tail _ hp) _ _ (R.sep _ _ ht).2.1 ho,hc,hdd⟩
 ·refine Aa fun nY=>?_
  obtain⟨xs',hx1,hx2⟩:=Aar hpm r1
  obtain⟨e',R'⟩:=Of (t:=s.toks) R Y F F' N' (Nat.le_succ _) (D0 hx2 (by rw[hx1.length_eq];exact z1))
  refine nY ?_;clear nY
  exact Be.mk (.ref _) R' (q.2.2 xs' hx1 _ e')
theorem Nn(Y:Ai W env c h₀)(R:An W h₀ env names H ρ s){m:Str->Option Value}(F:Fr W.b₀ env.locals s.heap m){l:Addr}{l1:List Value}{xs:List V}{ns:List Int}(h1:s.heap.IsList l l1.toArray)(r1:Cv W xs l1)(z1:xs.length<=Bs)(e2:ints? xs=some ns)(q:ns.length<64/\Ao (.list ((Bf ns).map V.int)) H Q) :
 wpAny W.M A (call (.builtin "sorted") [.ref l]) (Be W h₀ env names ρ Q) E s:=by
 have hI:=O7 r1 e2
 refine sorted_N F X3 h1 hI (by rw[<-r1.length,<-ints?_length e2];exact q.1) fun h' vs' ns' ee F' N' a1 a2 a3=>?_
 have en:ns'=Bf ns:=Km (a2.trans (B8 ns).symm) a3 (Dk ns)
 subst en
 have hz:((Bf ns).map V.int).length<=Bs:=by
  rw[List.length_map,(B8 ns).length_eq,ints?_length e2];exact z1
 obtain⟨e,R'⟩:=Of (t:=s.toks) R Y F F' N' (Nat.le_succ _) (D0 (Gn a1) hz)
 exact Be.mk (.ref _) R' (q.2 _ e)
theorem Vs(ok:Ms A c h₀ env n)(hf:c.hnd=false)(Y:Ai W env c h₀)(R:An W h₀ env names H ρ s){b:BI}{vs:List V}{us:List Value}(hd:O9 b=true)(hv:Cv W vs us)(q:Cj b vs H Q) :
 wpAny W.M A (call (Afm b) us) (Be W h₀ env names ρ Q) E s:=by
 refine Aa fun nY=>?_
 obtain⟨m,F⟩:=R.kitF Y
 have N:News W.b₀ env.locals s.heap _:=X3
 have hh:=ok.handled hf
 have b63:=T1
 cases b<;>first|(cases hd;done)|exact False.elim q|skip
 case len=>
  replace q:Oq vs H Q:=q
  refine nY ?_;clear nY
  apply Kl hv q;intro v u h q
  induction h with
  | script=>
    refine Aa fun nY=>?_
    obtain⟨l1,h1,r1,z1⟩:=R.script Y
    have r2:Cv W (W.sn.map V.int) l1:=Gn r1
    refine nY ?_;clear nY
    have hl:W.sn.length=l1.length:=by have:=r2.length;simpa using this
    have hs:((l1.toArray.size:Nat):Int)=W.sn.length:=by simp[hl]
    exact len_list h1 (by rw[hs];(first|lia|omega)) (by rw[hs];exact Be.mk (.int _ _) (R.toks _) q)
  | ref a=>
    dsimp only at q
    refine Aa fun nY=>?_
    split at q
    ·rename_i xs e
     obtain⟨l1,h1,r1,z1⟩:=R.isList e
     have hs:((l1.toArray.size:Nat):Int)=xs.length:=by simp[r1.length]
     refine nY ?_;clear nY
     exact len_list h1 (by rw[hs];(first|lia|omega)) (by rw[hs];exact Be.mk (.int _ _) (R.toks _) q)
    ·rename_i xs e
     obtain⟨l1,h1,r1,z1⟩:=R.isTup e
     have hs:((l1.toArray.size:Nat):Int)=xs.length:=by simp[r1.length]
     refine nY ?_;clear nY
     exact PyProof.Rows.len_tuple h1 (by rw[hs];(first|lia|omega)) (by rw[hs];exact Be.mk (.int _ _) (R.toks _) q)
    ·rename_i es e
     obtain⟨kvs,h1,r1,z1⟩:=R.isDict e
     have hs:(kvs.length:Int)=es.length:=by rw[r1.length]
     refine nY ?_;clear nY
     exact call_len_dict (R.noSys Y e) h1 (by rw[hs];(first|lia|omega)) (by rw[hs];exact Be.mk (.int _ _) (R.toks _) q)
    ·exact q.elim
  | _=>exact False.elim q
 case list=>
  replace q:Hx vs H Q:=q
  refine nY ?_;clear nY
  apply Kl hv q;intro v u h q;apply Bo h q;intro a q
  refine Aa fun nY=>?_
  split at q
  ·rename_i xs e
   obtain⟨l1,⟨o,ho,hc,nn,hdd⟩,r1,z1⟩:=R.isList e
   refine nY ?_;clear nY
   refine call_list_seq (hsz:=by simp[<-r1.length];exact Nat.le_trans z1 Cb) _ (.inl rfl) ho hc hdd fun h' c' hk hD=>?_
   exact Be.mk (.ref _) (R.put s.toks hk hD (D0 r1 z1) (B5 _) fun _ _=>R.up) (q _ R.fresh)
  ·rename_i xs e
   obtain⟨l1,⟨o,ho,hc,nn,hdd⟩,r1,z1⟩:=R.isTup e
   refine nY ?_;clear nY
   refine call_list_seq (hsz:=by simp[<-r1.length];exact Nat.le_trans z1 Cb) _ (.inr rfl) ho hc hdd fun h' c' hk hD=>?_
   exact Be.mk (.ref _) (R.put s.toks hk hD (D0 r1 z1) (B5 _) fun _ _=>R.up) (q _ R.fresh)
  ·exact q.elim
 case sorted=>
  replace q:Hy vs H Q:=q
  refine nY ?_;clear nY
  apply Kl hv q;intro v u h q;apply Bo h q;intro a q
  refine Aa fun nY=>?_
  split at q
  ·rename_i xs e
   obtain⟨l1,h1,r1,z1⟩:=R.isList e
   split at q
   ·rename_i ns e2
    refine nY ?_;clear nY
    exact Nn Y R F h1 r1 z1 e2 q
   ·refine nY ?_;clear nY
    exact T6 Y R F h1 r1 z1 q
  ·rename_i es e
   obtain⟨kvs,h1,r1,z1⟩:=R.isDict e
   obtain⟨ep,hat⟩:=h1.dictAt
   refine nY ?_;clear nY
   refine T4 (R.noSys Y e) hh hat (by rw[<-r1.length];exact Nat.le_trans z1 Cb) r1 (by rw[<-r1.length];exact q.1) fun D h' tk ee vs hn hlt hk ho hI=>?_
   have hb:W.b₀.objs.size<=D:=by
    refine Aa fun nY=>?_
    obtain⟨m,⟨o,_,_,h,_⟩,_⟩:=R.ns
    refine nY ?_;clear nY
    exact Nat.le_trans R.above (Nat.le_of_lt (hlt _ (by rw[h];simp)))
   exact Be.mk (.ref _) (R.put tk hk ho (D0 (Gn hI) (by rw[List.length_map,(B8 _).length_eq,List.length_map];exact z1)) hn fun _ _=>hb) (q.2 _ (R.new_sep hn hb).1)
  ·exact q.elim
 case max=>
  replace q:Afc vs H Q:=q
  refine nY ?_;clear nY
  apply Aag hv q;intro v w u u' h h' q;apply Au h q;intro i t q;apply Au h' q;intro j t' q
  refine max_two_N hh F N fun h' tk F' N'=>?_
  have e:∀i j:Int,(if j>i then j else i)=max i j:=by intro i j;split<;>(first|lia|omega)
  rw[e]
  exact Be.mk (.int _ _) (Tu R Y F F' N') q
 case min=>
  replace q:Afd vs H Q:=q
  refine nY ?_;clear nY
  apply Aag hv q;intro v w u u' h h' q;apply Au h q;intro i t q;apply Au h' q;intro j t' q
  refine min_two_N hh F N fun h' tk F' N'=>?_
  have e:∀i j:Int,(if j<i then j else i)=min i j:=by intro i j;split<;>(first|lia|omega)
  rw[e]
  exact Be.mk (.int _ _) (Tu R Y F F' N') q
 case all=>
  replace q:Os vs H Q:=q
  refine nY ?_;clear nY
  apply Kl hv q;intro v u h q;apply Bo h q;intro a q;refine Eh q fun xs e q=>?_;refine Ch q fun bs e2 q=>?_
  refine Aa fun nY=>?_
  obtain⟨l1,h1,r1,z1⟩:=R.isList e
  have hb:=Aam r1 e2
  subst hb
  refine nY ?_;clear nY
  refine call_all_walk (wpAny_pyIter_list h1 ?_)
  refine⟨_,_,_,_,_,_,fun i=>bs.getD i false,rfl,Walks.list (A:=A.in1) hh s.heap.objs.size _ (Nat.ne_of_lt (Heap.lt_size h1.choose_spec.1)) _,⟨⟨_,Heap.get?_push_size _ rfl,rfl,rfl⟩,h1.at fun o e=>Heap.get?_push_of_some _ e⟩,?_,?_⟩
  ·intro i v s' Q' E' hP hq
   have hP':bs[i]?.map Value.bool=some v:=by simpa using hP
   obtain⟨b,b1,rfl⟩:=Option.map_eq_some_iff.mp hP'
   refine wpAny_truthy_bool ?_
   have:bs.getD i false=b:=by simp[b1]
   exact this▸hq
  ·intro h' tk hk
   have:(bs.map Value.bool).toArray.size=bs.length:=by simp
   rw[this,X7]
   refine Be.mk (.bool _) (R.move tk fun b o e=>hk b o ?_ (Heap.get?_push_of_some _ e)) q
   intro hm;rw[List.mem_singleton.mp hm]at e;exact absurd (Heap.lt_size e) (Nat.lt_irrefl _)
end Mine.Internal
namespace Mine.Internal
open PySem PySem.W PyProof.Rows
variable {W:Wd} {A:Around} {h₀:HB} {env:Env} {c:Cx} {names:List Str} {H:AH} {ρ:Al} {s:Shared} {E:Value->Shared->Prop} {n:Nat} {Q:Ak} {Er:EP}
noncomputable def Aav:LM->String
 | .append=> "list.append" | .clear=> "list.clear" | .count=> "list.count" | .extend=> "list.extend" | .index=> "list.index" | .remove=> "list.remove" | .reverse=> "list.reverse"
 | .setdefault=> "dict.setdefault"
theorem M0{vs:List Value}{ns:List Int}(h:IntsAre vs ns):∀j,IntsAre (vs.eraseIdx j) (ns.eraseIdx j):=by
 induction h with
 | nil=>exact fun _=> .nil
 | cons n t h ih=>
   intro j
   cases j with
   | zero=>exact h
   | succ j=>exact .cons n t (ih j)
theorem X8{k:Int}{ns:List Int}(h:k∈ns):ns.erase k=ns.eraseIdx (ns.idxOf k):=by
 induction ns with
 | nil=>cases h
 | cons x r ih=>
   refine Aa fun nY=>?_
   by_cases e:x=k
   ·refine nY ?_;clear nY
    subst e;simp
   ·have:(x==k)=false:=by simpa using e
    refine nY ?_;clear nY
    rw[List.erase_cons,List.idxOf_cons,this]
    simp only[Bool.false_eq_true,if_false,cond_false,List.eraseIdx_cons_succ]
    rw[ih ((List.mem_cons.mp h).resolve_left fun q=>e q.symm)]
theorem Rd{k:Int}{l1:List Value}{ns:List Int}(hI:IntsAre l1 ns)(hk:k∈ns):∃h:ns.idxOf k<l1.toArray.size,isInt k l1.toArray[ns.idxOf k]=true/\∀m (hm:m<l1.toArray.size),m<ns.idxOf k->isInt k l1.toArray[m]=false:=by
 have hj:=List.idxOf_lt_length_of_mem hk
 have hl:ns.length=l1.length:=hI.length.symm
 have hj':ns.idxOf k<l1.length:=hl▸hj
 refine⟨by simpa using hj',?_,fun m hm hlt=>?_⟩
 ·have:=isInt_at k hI _ hj' hj
  simp only[List.getElem_toArray]
  rw[this]
  simp
 ·have hm':m<l1.length:=by simpa using hm
  have:=isInt_at k hI m hm' (hl▸hm')
  simp only[List.getElem_toArray]
  rw[this]
  exact ne_of_lt_idxOf hlt _
theorem X9{l:Addr}{k:Int}{t:Tok}{l1:List Value}{ns:List Int}{nn:Nat}{Q:Value->Shared->Prop}(h1:s.heap.get? l=some {cls:= .type "list",data:= .seq l1.toArray nn})(hI:IntsAre l1 ns)(hk:k∈ns)
 (hz:(l1.length:Int)<2 ^ 63) (h:Q (.int (ns.idxOf k:Nat) s.toks) {s with toks:=s.toks+1}):wpAny W.M A (call (.builtin "list.index") [.ref l,.int k t]) Q E s:=by
 refine Aa fun nY=>?_
 obtain⟨a1,a2,a3⟩:=Rd hI hk
 refine nY ?_;clear nY
 refine call_meets F.slot_list_index ⟨_,h1,rfl⟩ F.entry_list_index (F.args_list_index_2 _ _) (SeqAt.list_indexAt l l1.toArray nn none #[] (.int k t) (isInt k) (ns.idxOf k) a1
  (by have:l1.toArray.size=l1.length:=by simp
      exact Akb hz a1 this) a2 a3) ⟨h1,fun y hy=>(eq_isInt k t hI y (by simpa using hy)).at _ _,h⟩
theorem Vt{l:Addr}{k:Int}{t:Tok}{l1:List Value}{ns:List Int}{nn:Nat}{Q:Value->Shared->Prop}(h1:s.heap.get? l=some {cls:= .type "list",data:= .seq l1.toArray nn})(hI:IntsAre l1 ns)(hk:k∈ns)
 (hz:l1.length<=sizeLine) (h:Q .none {s with heap:=s.heap.update l (Obj.mapSeq fun xs=>xs.eraseIdxIfInBounds (ns.idxOf k))}):wpAny W.M A (call (.builtin "list.remove") [.ref l,.int k t]) Q E s:=by
 refine Aa fun nY=>?_
 obtain⟨a1,a2,a3⟩:=Rd hI hk
 refine nY ?_;clear nY
 exact call_meets F.slot_list_remove ⟨_,h1,rfl⟩ F.entry_list_remove (F.args_list_remove_2 _ _) (MeetsSeq.list_remove l l1.toArray nn (.int k t) (isInt k) (fun y hy=>eq_isInt k t hI y (by simpa using hy)) (ns.idxOf k) a1 a2 a3
  (by simpa using hz)) ⟨h1,h⟩
theorem Vu(ok:Ms A c h₀ env n)(Y:Ai W env c h₀)(R:An W h₀ env names H ρ s){m:LM}{o:V}{vs:List V}{uo:Value}{us:List Value}(ho:VR W o uo)(hv:Cv W vs us)(q:Ew m o vs H Q) :
 wpAny W.M A (call (.builtin (Aav m)) (uo::us)) (Be W h₀ env names ρ Q) E s:=by
 have b63:=T1
 cases m<;>try exact q.elim
 case append=>
  replace q:Dw o vs H Q:=q
  apply Bo ho q;intro a q;apply Kl hv q;intro v u h q;refine Eh q fun xs e q=>?_
  obtain⟨l1,nn,h1,r1,z1⟩:=R.lst e
  refine call_meets F.slot_list_append ⟨_,h1,rfl⟩ F.entry_list_append (F.args_list_append_2 _ _) (list_append _ l1.toArray nn u (by simp[<-r1.length];exact Nat.le_trans z1 Cb)) ⟨h1,?_⟩
  exact Be.mk .none (R.changeL e h1 (·.push u) (items':=l1 ++ [u]) (by simp) (r1.append (.cons h .nil)) (by simp;(first|lia|omega)) s.toks) q.2
 case clear=>
  replace q:Fy o vs H Q:=q
  apply Bo ho q;intro a q;apply Afl hv q;intro q;refine Eh q fun xs e q=>?_
  obtain⟨l1,nn,h1,r1,z1⟩:=R.lst e
  refine call_meets F.slot_list_clear ⟨_,h1,rfl⟩ F.entry_list_clear (F.args_list_clear_1 _) (AutoSeq1.list_clear_list_0 _ l1.toArray nn (by simp[<-r1.length];exact Nat.le_trans z1 Cb)) ⟨h1,?_⟩
  exact Be.mk .none (R.changeL e h1 (fun _=> #[]) (items':=[]) (by simp) .nil (by simp) s.toks) q
 case extend=>
  replace q:Dx o vs H Q:=q
  apply Bo ho q;intro a q;apply Kl hv q;intro v u h q;apply Bo h q;intro b q;refine Eh q fun xs e1 q=>?_;refine Eh q fun ys e2 q=>?_
  obtain⟨l1,nn,h1,r1,z1⟩:=R.lst e1
  obtain⟨l2,n2,h2,r2,z2⟩:=R.lst e2
  have hz:l1.length+l2.length<=1048576:=by rw[<-r1.length,<-r2.length];exact q.1.2
  refine call_meets F.slot_list_extend ⟨_,h1,rfl⟩ F.entry_list_extend (F.args_list_extend_2 _ _)
   (AutoSeq1.list_extend_list_list_0 _ l1.toArray nn _ l2.toArray n2 (by simp[Builtin.List.listTooLong,sizeLine];(first|lia|omega)) (by simp[sizeLine];(first|lia|omega)) (by simp[sizeLine];(first|lia|omega))) ⟨h1,h2,?_⟩
  exact Be.mk .none (R.changeL e1 h1 (· ++ l2.toArray) (items':=l1++l2) (by simp) (r1.append r2) (by simpa using q.1.2) s.toks) q.2
 case index=>
  replace q:Fz o vs H Q:=q
  apply Bo ho q;intro a q;apply Kl hv q;intro v u h q;refine Eh q fun xs e q=>?_
  induction h with
  | int k t=>
    refine Ch q fun ns e2 q=>?_
    obtain⟨l1,nn,h1,r1,z1⟩:=R.lst e
    exact X9 h1 (O7 r1 e2) q.1 (by rw[<-r1.length];(first|lia|omega)) (Be.mk (.int _ _) (R.toks _) q.2)
  | _=>exact False.elim q
 case remove=>
  replace q:Dy o vs H Q:=q
  apply Bo ho q;intro a q;apply Kl hv q;intro v u h q;apply Au h q;intro k t q;refine Eh q fun xs e q=>?_;refine Ch q fun ns e2 q=>?_
  obtain⟨l1,nn,h1,r1,z1⟩:=R.lst e
  have hI:=O7 r1 e2
  refine Vt h1 hI q.1 (by rw[<-r1.length];exact Nat.le_trans z1 Cb) ?_
  refine Be.mk .none (R.changeL e h1 (fun xs=>xs.eraseIdxIfInBounds _) (items':=l1.eraseIdx _) (by simp;rfl) ?_ ?_ s.toks) q.2
  ·rw[X8 q.1];exact Gn (M0 hI _)
  ·rw[List.length_map,List.length_erase_of_mem q.1,ints?_length e2];(first|lia|omega)
 case reverse=>
  replace q:Cw o vs H Q:=q
  apply Bo ho q;intro a q;apply Afl hv q;intro q;refine Eh q fun xs e q=>?_
  obtain⟨l1,nn,h1,r1,z1⟩:=R.lst e
  refine call_meets F.slot_list_reverse ⟨_,h1,rfl⟩ F.entry_list_reverse (F.args_list_reverse_1 _) (AutoSeq1.list_reverse_list_0 _ l1.toArray nn (by simp[<-r1.length];exact Nat.le_trans z1 Cb)) ⟨h1,?_⟩
  exact Be.mk .none (R.changeL e h1 (·.reverse) (items':=l1.reverse) (by simp) r1.reverse (by simpa using z1) s.toks) q
 case setdefault=>
  replace q:Bq o vs H Q:=q
  apply Bo ho q;intro a q;apply Aag hv q;intro i v u u' h h' q;apply Au h q;intro k t q;refine Aiv q fun es e q=>?_
  obtain⟨kvs,h1,r1,z1⟩:=R.isDict e
  refine call_meetsIn F.slot_dict_setdefault h1.typeIs F.entry_dict_setdefault (F.args_dict_setdefault_3 _ _ _) (kt_meets_setdefault (intKind W.prog W.w) _ (intKind_is _ _ _ _) (R.noSys Y e) u')
   ⟨kvs,h1,by rw[<-r1.length];exact Nat.le_trans z1 Cb,fun v hv=>?_,fun hn h2 h3 h4=>?_⟩
  ·rw[E0]at hv
   obtain⟨d1,d2⟩:=An.dget r1 _
   rw[hv]at d1
   cases hg:dget es _ with
   | none=>rw[hg]at d1;cases d1
   | some w=>
     rw[hg]at q
     obtain⟨c',c1,c2⟩:=d2 w hg
     rw[hv]at c1;cases c1
     exact Be.mk c2 (R.toks _) q
  ·rw[E0]at hn
   obtain⟨d1,d2⟩:=An.dget r1 _
   rw[hn]at d1
   cases hg:dget es _ with
   | some w=>rw[hg]at d1;cases d1
   | none=>
     rw[hg]at q
     obtain⟨ob,h5,h6⟩:=Nl h3
     exact Be.mk h' (R.change _ e h4 h5 (.dict (r1.put h' (L2 h1)) (Nat.le_trans (L1 _ _ _) q.1) h6) fun _ _=>⟨_,rfl⟩) q.2
end Mine.Internal
namespace Mine.Internal
open PySem PySem.W PyProof.Rows
variable {W:Wd} {A:Around} {h₀:HB} {env:Env} {c:Cx} {names:List Str} {H:AH} {ρ:Al} {s:Shared} {E:Value->Shared->Prop} {n:Nat} {Q:Ak} {Er:EP}
theorem Si{b₀:Heap}{L:Addr}{h:Heap}:(G6 b₀ L h).Pairwise fun p q=>p.1≠q.1:=by
 unfold G6
 rw[List.pairwise_filterMap]
 refine List.nodup_range.imp ?_
 intro a b hab p hp q hq
 split at hp
 ·cases hp
 ·split at hq
  ·cases hq
  ·obtain⟨o1,_,rfl⟩:=Option.map_eq_some_iff.mp hp
   obtain⟨o2,_,rfl⟩:=Option.map_eq_some_iff.mp hq
   exact hab
theorem Pb{d:Addr}{o o':Obj}:∀ {l:List (Addr×Obj)},l.Pairwise (fun p q=>p.1≠q.1)->(d,o)∈l->(Oo fun l'=>D3 (Upd d o o' l l') ((d,o')∈l') (∀p∈l,p.1≠d->p∈l'))
 | [],_,h=>nomatch h
 | p::r,hp,hm=>by
   obtain⟨h1,h2⟩:=List.pairwise_cons.mp hp
   rcases List.mem_cons.mp hm with rfl|hm
   ·exact⟨_,.head fun q hq=>(h1 q hq).symm,.head _,fun q hq hne=>by
     rcases List.mem_cons.mp hq with rfl|hq
     ·exact absurd rfl hne
     ·exact .tail _ hq⟩
   ·obtain⟨l',u,m,k⟩:=Pb h2 hm
    exact⟨_,.tail (h1 _ hm) u,.tail _ m,fun q hq hne=>by
     rcases List.mem_cons.mp hq with rfl|hq
     ·exact .head _
     ·exact .tail _ (k q hq hne)⟩
theorem An.changeK(R:An W h₀ env names H ρ s)(Y:Ai W env c h₀){h':Heap}{a:Addr}{o o':O}{ob:Obj}{m:Str->Option Value}(t:Nat)(he:H a=some o')(hm:s.heap.Ns env.locals m)(hm':h'.Ns env.locals m)
 (k:∀b o,b≠a->b≠env.locals->s.heap.get? b=some o->h'.get? b=some o) (ho:h'.get? a=some ob) (r:OR W o ob) (hl:∀es,o = .dict es->∃es',o' = .dict es'):An W h₀ env names (upd H a o) ρ {s with heap:=h',toks:=t}:=by
 refine Aa fun nY=>?_
 obtain⟨s1,s2,s3⟩:=R.sep a o' he
 refine nY ?_;clear nY
 refine⟨?_,?_,?_,?_,?_,R.gens,R.os,R.above,?_⟩
 ·refine Aa fun nY=>?_
  obtain⟨m₁,h1,h2⟩:=R.ns
  refine nY ?_;clear nY
  refine⟨m,hm',fun x i v e1 e2 e3=>?_⟩
  refine Aa fun nY=>?_
  obtain⟨c,h3,h4⟩:=h2 x i v e1 e2 e3
  refine nY ?_;clear nY
  refine⟨c,?_,h4⟩
  refine Aa fun nY=>?_
  obtain⟨o,es,ep,a1,a2,a3,a4⟩:=h1
  obtain⟨o',es',ep',b1,b2,b3,b4⟩:=hm
  rw[a1]at b1;cases b1
  rw[a2]at b2;cases b2
  refine nY ?_;clear nY
  rw[<-b4,a4];exact h3
 ·intro x c e
  refine Aa fun nY=>?_
  obtain⟨w,⟨oc,hc,hd⟩,r⟩:=R.cell x c e
  refine nY ?_;clear nY
  exact⟨w,⟨oc,k _ _ (fun q=>s3 x (q▸e)) (Y.apart x c e) hc,hd⟩,r⟩
 ·intro b x e
  refine Aa fun nY=>?_
  obtain⟨x',e1,z⟩:=R.keep b x e
  refine nY ?_;clear nY
  exact⟨x',k b x' (fun q=>by rw[q,s1]at e;cases e) (fun q=>by rw[q,Y.new]at e;cases e) e1,z⟩
 ·intro b x e
  unfold upd at e
  refine Aa fun nY=>?_
  split at e
  ·refine nY ?_;clear nY
   rename_i q;subst q;cases e;exact⟨ob,ho,r⟩
  ·refine nY ?_;clear nY
   rename_i q;obtain⟨ob',h1,h2⟩:=R.objs b x e;exact⟨ob',k _ _ q (R.sep b x e).2.1 h1,h2⟩
 ·intro b x e
  unfold upd at e
  refine Aa fun nY=>?_
  split at e
  ·refine nY ?_;clear nY
   rename_i q;subst q;exact⟨s1,s2,s3⟩
  ·refine nY ?_;clear nY
   exact R.sep b x e
 ·intro b x e
  unfold upd at e
  refine Aa fun nY=>?_
  split at e
  ·refine nY ?_;clear nY
   rename_i q;subst q;obtain⟨es',rfl⟩:=hl _ (Option.some.inj e);exact R.low b _ he
  ·refine nY ?_;clear nY
   exact R.low b x e
noncomputable def W9:List C9:=[.many,.rows,.order,.ring,.crowd,.colours]
theorem Pc(a:C9):a∈W9:=by cases a<;>decide
theorem Np{a b:C9}(h:A4 a=A4 b):a=b:=by
 cases a<;>cases b<;>first|rfl|(revert h;decide)
noncomputable def Sj(K:Frag)(C:Addr):Bool:=
 hasDictIn K C&&plainOver K C&&findIn K (.ref C) "__setattr__" == some (some (.builtin "object.__setattr__")) &&
 W9.all fun a=>plainGet K C (A4 a)&&findIn K (.ref C) (A4 a)==some none&&takerIn K C (A4 a)==some none
structure Sk(K:Frag)(C:Addr):Prop where
 dict:hasDictIn K C=true
 over:plainOver K C=true
 set:findIn K (.ref C) "__setattr__" = some (some (.builtin "object.__setattr__"))
 get:∀a,plainGet K C (A4 a)=true
 noc:∀a,findIn K (.ref C) (A4 a)=some none
 take:∀a,takerIn K C (A4 a)=some none
theorem M1{K:Frag}{C:Addr}(h:Sj K C=true):Sk K C:=by
 unfold Sj at h
 simp only[Bool.and_eq_true,beq_iff_eq,List.all_eq_true]at h
 obtain⟨⟨⟨h1,h2⟩,h3⟩,h4⟩:=h
 exact⟨h1,h2,h3,fun a=>(h4 a (Pc a)).1.1,fun a=>(h4 a (Pc a)).1.2,fun a=>(h4 a (Pc a)).2⟩
theorem Vv(x:Str)(t:Tok):(Value.str x t).isStr x=true:=by simp[Value.isStr]
theorem Ih{x y:Str}(h:x≠y)(t:Tok):(Value.str x t).isStr y=false:=by simpa[Value.isStr]using h
theorem X2.get{fs:List (C9×V)}{es:List DictEntry}(h:X2 W fs es)(a:C9):match Kt fs a with
 | some v=>∃c,getL (A4 a) es=some (some c)/\VR W v c
 | none=>getL (A4 a) es=some none:=by
 have noref:es.any (·.refKey)=false:=by
  induction h with
  | nil=>rfl
  | cons h1 h2 _ _ ih=>obtain⟨t,h2⟩:=h2;simp only[List.any_cons,ih,Bool.or_false];simp[DictEntry.refKey,h2]
 have key:match Kt fs a with
  | some v=>∃e,es.find? (·.key.isStr (A4 a))=some e/\VR W v e.val
  | none=>es.find? (·.key.isStr (A4 a))=none:=by
  clear noref
  induction h with
  | nil=>rfl
  | @cons b v fs e es h1 h2 h3 _ ih=>
    obtain⟨t,h2⟩:=h2
    unfold Kt at ih ⊢
    rw[List.lookup_cons,List.find?_cons]
    by_cases q:a=b
    ·subst q;simp only[beq_self_eq_true,h1];exact⟨e,rfl,h3⟩
    ·have q1:(a==b)=false:=by simpa using q
     have q2:e.key.isStr (A4 a)=false:=by rw[h2];exact Ih (fun z=>q (Np z.symm)) t
     simp only[q1,q2];exact ih
 unfold getL
 cases hg:Kt fs a with
 | some v=>rw[hg]at key;obtain⟨e,e1,e2⟩:=key;exact⟨_,by rw[e1],e2⟩
 | none=>rw[hg]at key;simp only at key ⊢;rw[key,noref];rfl
theorem X2.put{fs:List (C9×V)}{es:List DictEntry}(h:X2 W fs es)(a:C9){v:V}{c:Value}(hv:VR W v c)(hsh:Int)(t:Tok):X2 W (Hw fs a v) (putL (A4 a) hsh (.str (A4 a) t) c es):=by
 induction h with
 | nil=>exact .cons (Vv _ _) ⟨t,rfl⟩ hv .nil
 | @cons b v' fs e es h1 h2 h3 h4 ih=>
   obtain⟨t',h2⟩:=h2
   unfold Hw putL
   by_cases q:a=b
   ·subst q;rw[if_pos rfl,h1];exact .cons h1 ⟨t',h2⟩ hv h4
   ·have q2:e.key.isStr (A4 a)=false:=by rw[h2];exact Ih (fun z=>q (Np z.symm)) t'
    rw[if_neg q,q2];exact .cons h1 ⟨t',h2⟩ h3 ih
theorem X2.length{fs:List (C9×V)}{es:List DictEntry}(h:X2 W fs es):fs.length=es.length:=by
 induction h with
 | nil=>rfl
 | cons _ _ _ _ ih=>simp[ih]
theorem T7(fs:List (C9×V))(a:C9)(v:V):(Hw fs a v).length<=fs.length+1:=by
 induction fs with
 | nil=>simp[Hw]
 | cons p t ih=>
   obtain⟨b,w⟩:=p
   unfold Hw
   split
   ·simp
   ·simp only[List.length_cons];exact Nat.succ_le_succ ih
theorem An.inst(R:An W h₀ env names H ρ s){a d:Addr}{cc:Cn}{fs:List (C9×V)}(h1:H a=some (.inst cc d))(h2:H d=some (.ns fs)) :
 (cc = .web\/cc = .verdict)/\(Ka fun es n=>R7 (InstAt s.heap a (instObj (W.cl cc) d) (W.cl cc) (some (dictOf es n))) (X2 W fs es) (fs.length<=10) (s.heap.get? d=some (dictOf es n))):=by
 refine Aa fun nY=>?_
 obtain⟨o1,a1,a2⟩:=R.objs _ _ h1
 obtain⟨o2,b1,b2⟩:=R.objs _ _ h2
 cases a2 with
 | inst hcc=>
   cases b2 with
   | ns r z=>(refine nY ?_;clear nY;exact⟨hcc,_,_,⟨a1,rfl,rfl,b1⟩,r,z,b1⟩)
theorem Aaw{v:V}{c:Value}(h:VR W v c):handedIn c=true:=by induction h<;>rfl
theorem Qf(Y:Ai W env c h₀)(X:W.K.In W.b₀)(I:∀cc,cc = .web\/cc = .verdict->Sk W.K (W.cl cc))(R:An W h₀ env names H ρ s){o:V}{u:Value}{a:C9}{b:Bool}(ho:VR W o u)(q:getAttr o a H Q) :
 wpAny W.M A (PySem.getAttr u (A4 a) b) (Be W h₀ env names ρ Q) E s:=by
 obtain⟨m,F⟩:=R.kitF Y
 delta Mine.Internal.getAttr at q
 apply Bo ho q
 intro x q
 refine Tt q fun cc d e1 q=>?_
 refine Vm q fun fs e2 q=>?_
 refine Ch q fun v e3 q=>?_
 refine Aa fun nY=>?_
 obtain⟨hcc,es,nn,i1,r1,z1,_⟩:=R.inst e1 e2
 have K:=I cc hcc
 have:=r1.get a
 rw[e3]at this
 obtain⟨cv,g1,g2⟩:=this
 refine nY ?_;clear nY
 exact get_own F X i1 (K.get a) K.dict (K.noc a) rfl g1 (Aaw g2) (Be.mk g2 (R.toks _) q)
theorem Qg(Y:Ai W env c h₀)(X:W.K.In W.b₀)(I:∀cc,cc = .web\/cc = .verdict->Sk W.K (W.cl cc))(R:An W h₀ env names H ρ s){o v:V}{u uv:Value}{a:C9}(ho:VR W o u)(hv:VR W v uv){N:AH->Prop}(q:setAttr o a v H N) :
 wpAny W.M A (PySem.setAttr u (A4 a) uv) (fun _ s'=>Aiw W h₀ env names ρ N s') E s:=by
 obtain⟨m,F⟩:=R.kitF Y
 delta Mine.Internal.setAttr at q
 apply Bo ho q
 intro x q
 refine Tt q fun cc d e1 q=>?_
 refine Vm q fun fs e2 q=>?_
 refine Aa fun nY=>?_
 obtain⟨hcc,es,nn,i1,r1,z1,hd⟩:=R.inst e1 e2
 have K:=I cc hcc
 obtain⟨s1,s2,s3⟩:=R.sep _ _ e2
 have hbn:W.b₀.get? d=none:=by
  cases q:W.b₀.get? d with
  | none=>rfl
  | some o=>have:=Y.base _ _ q;rw[s1]at this;cases this
 have hmem:(d,dictOf es nn)∈G6 W.b₀ env.locals s.heap:=G7.mpr ⟨s2,hbn,hd⟩
 obtain⟨news',U,m1,m2⟩:=Pb (o':=dictOf (putL (A4 a) (PyData.keyHash W.w.params (A4 a)) (.str (A4 a) (s.toks+1)) uv es) (putN (A4 a) es nn)) Si hmem
 have r2:=r1.put a hv (PyData.keyHash W.w.params (A4 a)) (s.toks+1)
 refine nY ?_;clear nY
 refine set_dict F X X3 i1 rfl K.set K.over (K.take a) K.dict ?_ rfl U ?_ fun h' F' N'=>?_
 ·have:=r1.get a
  refine Aa fun nY=>?_
  split at this
  ·refine nY ?_;clear nY
   obtain⟨c,g1,_⟩:=this;rw[g1];rfl
  ·refine nY ?_;clear nY
   rw[this];rfl
 ·rw[<-r2.length];exact Nat.le_trans (T7 _ _ _) (Nat.lt_of_le_of_lt z1 (by decide))
 ·have k:∀b o,b≠d->b≠env.locals->s.heap.get? b=some o->h'.get? b=some o:=fun b o hb hl e=>by
   cases q:W.b₀.get? b with
   | some o'=>have e1:=R.keepB Y b o' q;rw[e]at e1;cases e1;exact F'.keep b _ q
   | none=>exact(N' (b,o) (m2 _ (G7.mpr ⟨hl,q,e⟩) hb)).1
  exact⟨_,R.changeK Y _ e2 F.ns F'.ns k (N' _ m1).1 (.ns r2 (Nat.le_trans (T7 _ _ _) q.1)) (fun _ q=>by cases q),q.2⟩
end Mine.Internal
namespace Mine.Internal
open PySem PySem.W PyProof.Rows
variable {W:Wd} {G:A5} {A:Around} {h₀:HB} {env:Env} {c:Cx} {names:List Str} {H:AH} {ρ:Al} {s:Shared} {E:Value->Shared->Prop} {n:Nat} {Q:Ak} {Er:EP}
noncomputable def I2:List Str:=["len","list","sorted","max","min","all","any","isinstance","range","enumerate","reversed","set","str","int","bool","tuple","ValueError"]
noncomputable def E1(W:Wd)(f:Str):Option Addr:=
 match D9 f with
 | some (cc,m)=>(match findIn W.K (.ref (W.cl cc)) m with|some (some (.ref a))=>some a|_=>none)
 | none=>(match nsIn W.K mainGlobals (Ky f)with|some (some (.ref a))=>some a|_=>none)
structure Adm(W:Wd)(hb:Bool)(fa:Addr)(d:Fn)(name qual:Str)(params:Arguments)(body:List Stmt)(scope:Scope)(doc pm cdv ct oc:Value)(an od:Option Addr)(osl:Array (Option Value)):Prop where
 at_:W.K.lookup fa=some ⟨oc,od,.func (fnOf name qual params body scope .none .none doc pm an cdv ct),osl⟩
 typ:oc = .type "function"
 code:codeIn W.K cdv qual=true
 er:Adc hb params body scope=some d
 nodup:(params.args.map (·.arg)).Nodup
 kinds:∀x∈params.args.map (·.arg),scope.names.lookup x=some .local\/scope.names.lookup x=some .cell
 cells:((cellsFrom 0 scope.names []).map (·.1)).Nodup
 names:(B0 params scope).Nodup
 nofree:∀p∈scope.names,p.2≠ .free
structure E9(W:Wd)(G:A5):Prop where
 X:W.K.In W.b₀
 top:(Ex4 fun p loose mg mb=>TopRead p loose mg mb W.b₀)
 inst:∀cc,cc = .web\/cc = .verdict->Sk W.K (W.cl cc)
 bi:∀x∈I2,nsIn W.K mainGlobals x=some none
 const:∀g v,G.const g=some v->∃c,nsIn W.K mainGlobals g=some (some c)/\VR W v c
 fn:∀f d,G.fn f=some d->∃fa,E1 W f=some fa/\∃name qual params body scope doc pm cdv ct oc an od osl,Adm W (F8 f) fa d name qual params body scope doc pm cdv ct oc an od osl
 make:∀cc,cc = .web\/cc = .verdict->(G.fn (Ds cc)).isSome=true->nsIn W.K mainGlobals (match cc with | .web=> "Web" | _=> "Verdict")=some (some (.ref (W.cl cc)))/\makesIn W.K (W.cl cc)=true
 exc:∀cc,G.exc cc=true->L0 W cc
 sub:∀cc cc',L0 W cc->L0 W cc'->(O6 W.K (W.cl cc)).contains (.ref (W.cl cc'))=(cc==cc'||cc' == .webError)
 meth:∀f m fa,D9 f=some (.web,m)->E1 W f=some fa->plainGet W.K (W.cl .web) m=true/\(∀a,A4 a≠m)
noncomputable def SE(W:Wd)(G:A5)(n:Nat)(c:Cx)(e:Expr)(x:X):Prop:=
 ∀ {A:Around} {env:Env} {h₀:HB} {H:AH} {ρ:Al} {s:Shared} {Q:Ak} {E:EP},Ms A c h₀ env n->Ai W env c h₀->An W h₀ env c.names H ρ s->Aq G (Ae G n) x ρ H Q E->
  wpAny W.M A (eval e env) (Be W h₀ env c.names ρ Q) (EM W h₀ env c.names ρ E) s
noncomputable def ST(W:Wd)(G:A5)(n:Nat)(c:Cx)(e:Expr)(x:X):Prop:=
 ∀ {A:Around} {env:Env} {h₀:HB} {H:AH} {ρ:Al} {s:Shared} {Q:Bool->AH->Prop} {E:EP},Ms A c h₀ env n->Ai W env c h₀->An W h₀ env c.names H ρ s->
  Aq G (Ae G n) x ρ H (fun v H=>truthy v fun b=>Q b H) E->
  wpAny W.M A (isTrue e env (eval e env)) (fun b s'=>∃H',An W h₀ env c.names H' ρ s'/\Q b H') (EM W h₀ env c.names ρ E) s
noncomputable def Vw(W:Wd)(G:A5)(n:Nat)(c:Cx)(es:List Expr)(xs:List X):Prop:=
 ∀ {A:Around} {env:Env} {h₀:HB} {H:AH} {ρ:Al} {s:Shared} {Q:List V->AH->Prop} {E:EP} {pos:Pos},Ms A c h₀ env n->Ai W env c h₀->An W h₀ env c.names H ρ s->Co G (Ae G n) xs ρ H Q E->
  wpAny W.M A (spliced (backTo pos (starEach es env))) (fun vs s'=>(Ka fun as H'=>R7 (Cv W as vs) (as.length=es.length) (An W h₀ env c.names H' ρ s') (Q as H'))) (EM W h₀ env c.names ρ E) s
noncomputable def SC(W:Wd)(G:A5)(n:Nat):Prop:=
 ∀ {A:Around} {env:Env} {c:Cx} {h₀:HB} {H:AH} {ρ:Al} {s:Shared} {Q:Ak} {E:EP} {f:Str} {fa:Addr} {vs:List V} {us:List Value},
  (F8 f=false->A.handled=none)->(F8 f=true->Agc A h₀.h)->A.depth+4*n+2<recursionLimit->A.units+30*n+40<cLine->Stk A (env.locals::h₀.fs)->Ai W env c h₀->An W h₀ env c.names H ρ s->E1 W f=some fa->Cv W vs us->Ae G n f vs H Q E->
  codeAny W.M A (.call (.ref fa) ⟨us,[]⟩) (fun r s'=>match r with | .ok (.ret v)=>Be W h₀ env c.names ρ Q v s' | .ok _=>False | .error e=>EM W h₀ env c.names ρ E e s') s
theorem SE.toST(h:SE W G n c e x)(hp:∀env whole,isTrue e env whole=(do let v <-whole;standAt e.pos;holding [v] (PySem.truthy v))):ST W G n c e x:=by
 intro A env h₀ H ρ s Q E ok Y R q
 refine isTrue_plain (wpAny_mono (h ok Y R q) (fun v s' r=>?_) fun _ _ e=>e) (hp _ _)
 refine Aa fun nY=>?_
 obtain⟨a,H',hv,R',q'⟩:=r
 delta truthy at q'
 split at q'
 ·refine nY ?_;clear nY
  cases hv;exact wpAny_truthy_bool ⟨H',R',q'⟩
 ·exact q'.elim
theorem A7{e:Expr}(h:∀v p,e≠ .Starred v p)(rest:List Expr)(env:Env):starEach (e::rest) env=(false,eval e env)::starEach rest env:=by
 cases e<;>first|rfl|exact absurd rfl (h _ _)
theorem Xa:Vw W G n c [] []:=by
 intro A env h₀ H ρ s Q E pos ok Y R q
 exact Calls.spliced_nil ⟨[],H,.nil,rfl,R,q⟩
theorem T8{e:Expr}{es:List Expr}{x:X}{xs:List X}(h:SE W G n c e x)(hs:Vw W G n c es xs)(hn:∀v p,e≠ .Starred v p):Vw W G n c (e::es) (x::xs):=by
 intro A env h₀ H ρ s Q E pos ok Y R q
 rw[A7 hn]
 refine Calls.spliced_cons (wpAny_mono (h ok Y R q) (fun v s' r=>?_) fun _ _ e=>e)
 refine Aa fun nY=>?_
 obtain⟨a,H',hv,R',q'⟩:=r
 refine nY ?_;clear nY
 refine wpAny_mono (hs ok Y R' q') (fun vs s'' r=>?_) fun _ _ e=>e
 refine Aa fun nY=>?_
 obtain⟨as,H'',hvs,hl,R'',q''⟩:=r
 refine nY ?_;clear nY
 exact⟨a::as,H'',.cons hv hvs,by simp[hl],R'',q''⟩
theorem Aax{x:Str}{p:Pos}{i:Nat}(hs:c.slot x=some i)(hd:(x==("__debug__" :Str))=false)(hc:(x==("__classdict__" :Str))=false):SE W G n c (.Name x p) (.var i):=by
 intro A env h₀ H ρ s Q E ok Y R q
 simp only[Jb,Jc,Jd,Je,Jf,Jg,Jh,Ji,Jj,Jk,Jl,Jm,Jn,Jo,Bx,Jp,Jq,Jr,Js,Jt,Av,Dc,Bc,Ar,Ju,Jv,A3,Bb]at q
 refine Aa fun nY=>?_
 split at q
 ·rename_i v e
  unfold Cx.slot at hs
  split at hs
  ·rename_i hv
   refine nY ?_;clear nY
   refine wpAny_Name ?_ hd
   have key:env.kindOf x=some .local\/env.kindOf x=some .cell\/env.kindOf x=some .free:=by
    cases hk:c.sc.names.lookup x with
    | none=>rw[hk]at hv;cases hv
    | some k=>
      refine Aa fun nY=>?_
      cases k with
      | «local» =>(refine nY ?_;clear nY;exact .inl (Y.kinds x _ hk (by simp)))
      | cell=>(refine nY ?_;clear nY;exact .inr (.inl (Y.kinds x _ hk (by simp))))
      | free=>(refine nY ?_;clear nY;rcases Y.frees x hk with h|h<;>simp[h])
      | _=>rw[hk]at hv;cases hv
   refine Aa fun nY=>?_
   rcases key with h|h|h
   ·obtain⟨m,h1,h2⟩:=R.ns
    obtain⟨cv,h3,h4⟩:=h2 x i v hs h e
    refine nY ?_;clear nY
    exact wpAny_loadName_local Y.kind h h1 h3 (Be.mk h4 R q)
   ·obtain⟨a,ha⟩:=Y.cells x (.inl h)
    obtain⟨w,h1,h2⟩:=R.cell x a ha
    obtain⟨cv,rfl,h4⟩:=h2 i v hs (.inl h) e
    refine nY ?_;clear nY
    exact wpAny_loadName_cell Y.kind h ha h1 (Be.mk h4 R q)
   ·obtain⟨a,ha⟩:=Y.cells x (.inr h)
    obtain⟨w,h1,h2⟩:=R.cell x a ha
    obtain⟨cv,rfl,h4⟩:=h2 i v hs (.inr h) e
    refine nY ?_;clear nY
    exact wpAny_loadName_free Y.kind h ha h1 (Be.mk h4 R q) hc
  ·cases hs
 ·exact q.elim
theorem C8(g:E9 W G)(Y:Ai W env c h₀)(R:An W h₀ env names H ρ s){x:Str}{p:Pos}{v:Value}{Q:Value->Shared->Prop}(hg:c.global x=true)(hd:(x==("__debug__" :Str))=false)(e:nsIn W.K mainGlobals x=some (some v))(h:Q v s) :
 wpAny W.M A (eval (.Name x p) env) Q E s:=by
 obtain⟨pp,loose,mg,mb,T⟩:=g.top
 have hx:env.kindOf x=some .globalImplicit:=Y.kinds x _ (by simpa[Cx.global]using hg) (by simp)
 have k:∀b o,W.b₀.get? b=some o->s.heap.get? b=some o:=R.keepB Y
 exact Calls.Name_function_global Y.kind hx (Calls.loadGlobal_global (by rw[Y.globals];exact T.g.keeps k) (mg_of g.X T.g e) h) hd
theorem K0(g:E9 W G)(Y:Ai W env c h₀)(R:An W h₀ env names H ρ s){x:Str}{p:Pos}{v:Value}{Q:Value->Shared->Prop}(hg:c.global x=true)(hd:(x==("__debug__" :Str))=false)(hx':x∈I2)
 (hv:bootBuiltins x=some v) (hn:x≠ "__name__") (h:Q v s):wpAny W.M A (eval (.Name x p) env) Q E s:=by
 obtain⟨pp,loose,mg,mb,T⟩:=g.top
 have hx:env.kindOf x=some .globalImplicit:=Y.kinds x _ (by simpa[Cx.global]using hg) (by simp)
 have k:∀b o,W.b₀.get? b=some o->s.heap.get? b=some o:=R.keepB Y
 exact Calls.Name_function_global Y.kind hx (Calls.loadGlobal_builtin (by rw[Y.globals];exact T.g.keeps k) (mg_none_of g.X T.g (g.bi x hx')) (by rw[Y.builtins];exact T.b.keeps k) ((T.builtins x hn).trans hv) h) hd
theorem Adn(g:E9 W G){x:Str}{p:Pos}(hg:c.global x=true)(hd:(x==("__debug__" :Str))=false):SE W G n c (.Name x p) (.glob x):=by
 intro A env h₀ H ρ s Q E ok Y R q
 simp only[Jb,Jc,Jd,Je,Jf,Jg,Jh,Ji,Jj,Jk,Jl,Jm,Jn,Jo,Bx,Jp,Jq,Jr,Js,Jt,Av,Dc,Bc,Ar,Ju,Jv,A3,Bb]at q
 refine Aa fun nY=>?_
 split at q
 ·rename_i v e
  obtain⟨cv,h1,h2⟩:=g.const x v e
  refine nY ?_;clear nY
  exact C8 g Y R hg hd h1 (Be.mk h2 R q)
 ·exact q.elim
theorem L3{f:Str}{fa:Addr}(ho:D9 f=none)(h:E1 W f=some fa):nsIn W.K mainGlobals (Ky f)=some (some (.ref fa)):=by
 delta E1 at h
 rw[ho]at h
 simp only at h
 split at h
 ·rename_i e;cases h;exact e
 ·cases h
theorem Ado{k:Nat}{p:Pos}:SE W G n c (.Constant .none k p) .cnone:=by
 intro A env h₀ H ρ s Q E ok Y R q
 exact fun _ _ _=>Be.mk .none R q
theorem Aay{b:Bool}{k:Nat}{p:Pos}:SE W G n c (.Constant (.bool b) k p) (.cbool b):=by
 intro A env h₀ H ρ s Q E ok Y R q
 exact fun _ _ _=>Be.mk (.bool b) R q
theorem Adp{i:Int}{k:Nat}{p:Pos}:SE W G n c (.Constant (.int i) k p) (.cint i):=by
 intro A env h₀ H ρ s Q E ok Y R q
 exact fun _ _ _=>Be.mk (.int i _) (R.toks _) q
theorem Age{e:Expr}{x:X}{p:Pos}(h:SE W G n c e x):SE W G n c (.UnaryOp .Not e p) (.not x):=by
 intro A env h₀ H ρ s Q E ok Y R q
 simp only[Jb,Jc,Jd,Je,Jf,Jg,Jh,Ji,Jj,Jk,Jl,Jm,Jn,Jo,Bx,Jp,Jq,Jr,Js,Jt,Av,Dc,Bc,Ar,Ju,Jv,A3,Bb]at q
 refine UnaryOp_ (wpAny_mono (h ok Y R q) (fun v s' r=>?_) fun _ _ e=>e)
 refine Aa fun nY=>?_
 obtain⟨a,H',hv,R',q'⟩:=r
 delta truthy at q'
 split at q'
 ·refine nY ?_;clear nY
  cases hv;exact not_of (wpAny_truthy_bool (Be.mk (.bool _) R' q'))
 ·exact q'.elim
theorem Agf{e:Expr}{x:X}{p:Pos}(h:ST W G n c e x):ST W G n c (.UnaryOp .Not e p) (.not x):=by
 intro A env h₀ H ρ s Q E ok Y R q
 refine isTrue_not (wpAny_mono (h (Q:=fun b H=>Q (!b) H) ok Y R ?_) (fun b s' r=>r) fun _ _ e=>e)
 exact q
theorem Agg{e:Expr}{x:X}{p:Pos}(h:SE W G n c e x):SE W G n c (.UnaryOp .USub e p) (.neg x):=by
 intro A env h₀ H ρ s Q E ok Y R q
 simp only[Jb,Jc,Jd,Je,Jf,Jg,Jh,Ji,Jj,Jk,Jl,Jm,Jn,Jo,Bx,Jp,Jq,Jr,Js,Jt,Av,Dc,Bc,Ar,Ju,Jv,A3,Bb]at q
 refine UnaryOp_ (wpAny_mono (h ok Y R q) (fun v s' r=>?_) fun _ _ e=>e)
 obtain⟨a,H',hv,R',q'⟩:=r
 revert q';intro q'
 split at q'
 ·cases hv;exact neg_int (Be.mk (.int _ _) (R'.toks _) q')
 ·exact q'.elim
theorem Agh{e e2:Expr}{rest:List Expr}{x y:X}{p:Pos}(h:SE W G n c e x)(h2:SE W G n c (.BoolOp .And (e2::rest) p) y):SE W G n c (.BoolOp .And (e::e2::rest) p) (.and x y):=by
 intro A env h₀ H ρ s Q E ok Y R q
 simp only[Jb,Jc,Jd,Je,Jf,Jg,Jh,Ji,Jj,Jk,Jl,Jm,Jn,Jo,Bx,Jp,Jq,Jr,Js,Jt,Av,Dc,Bc,Ar,Ju,Jv,A3,Bb]at q
 refine BoolOp_and (wpAny_mono (h ok Y R q) (fun v s' r=>?_) fun _ _ e=>e)
 refine Aa fun nY=>?_
 obtain⟨a,H',hv,R',q'⟩:=r
 delta truthy at q'
 split at q'
 ·rename_i b
  cases hv
  refine nY ?_;clear nY
  refine wpAny_truthy_bool ?_
  cases b
  ·exact Be.mk (.bool _) R' (by simpa using q')
  ·exact h2 ok Y R' (by simpa using q')
 ·exact q'.elim
theorem Aiy{e e2:Expr}{rest:List Expr}{x y:X}{p:Pos}(h:SE W G n c e x)(h2:SE W G n c (.BoolOp .Or (e2::rest) p) y):SE W G n c (.BoolOp .Or (e::e2::rest) p) (.or x y):=by
 intro A env h₀ H ρ s Q E ok Y R q
 simp only[Jb,Jc,Jd,Je,Jf,Jg,Jh,Ji,Jj,Jk,Jl,Jm,Jn,Jo,Bx,Jp,Jq,Jr,Js,Jt,Av,Dc,Bc,Ar,Ju,Jv,A3,Bb]at q
 refine BoolOp_or (wpAny_mono (h ok Y R q) (fun v s' r=>?_) fun _ _ e=>e)
 refine Aa fun nY=>?_
 obtain⟨a,H',hv,R',q'⟩:=r
 delta truthy at q'
 split at q'
 ·rename_i b
  cases hv
  refine nY ?_;clear nY
  refine wpAny_truthy_bool ?_
  cases b
  ·exact h2 ok Y R' (by simpa using q')
  ·exact Be.mk (.bool _) R' (by simpa using q')
 ·exact q'.elim
theorem Agi{e:Expr}{rest:List Expr}{x y:X}{p:Pos}(h:ST W G n c e x)(h2:ST W G n c (.BoolOp .And rest p) y):ST W G n c (.BoolOp .And (e::rest) p) (.and x y):=by
 intro A env h₀ H ρ s Q E ok Y R q
 simp only[Jb,Jc,Jd,Je,Jf,Jg,Jh,Ji,Jj,Jk,Jl,Jm,Jn,Jo,Bx,Jp,Jq,Jr,Js,Jt,Av,Dc,Bc,Ar,Ju,Jv,A3,Bb]at q
 refine isTrue_and (wpAny_mono (h (Q:=fun b H=>if b then Aq G (Ae G n) y ρ H (fun v H=>truthy v fun b=>Q b H) E else Q false H) ok Y R ?_) (fun b s' r=>?_) fun _ _ e=>e)
 ·refine cast ?_ q;congr 1
 ·refine Aa fun nY=>?_
  obtain⟨H',R',q'⟩:=r
  cases b
  ·refine nY ?_;clear nY
   exact⟨H',R',by simpa using q'⟩
  ·refine nY ?_;clear nY
   exact h2 ok Y R' (by simpa using q')
theorem Re{M:Model}{x:Expr}{rest:List Expr}{pos:Pos}{whole:Sem Value}{Q:Bool->Shared->Prop}
 (h:wpAny M A (isTrue x env (eval x env)) (fun c s'=>if c then Q true s' else wpAny M A (isTrue (.BoolOp .Or rest pos) env whole) Q E s') E s) :
 wpAny M A (isTrue (.BoolOp .Or (x::rest) pos) env whole) Q E s:=by
 show wpAny M A (do
  match BoolOp.Or,<-isTrue x env (eval x env)with
  | .And,false=>pure false
  | .Or,true=>pure true
  | _,_=>allTrue .Or rest env) Q E s
 refine wpAny_bind (wpAny_mono h (fun b s' r=>?_) fun _ _ e=>e)
 cases b
 ·exact r
 ·exact wpAny_pure r
theorem Aiz{e:Expr}{rest:List Expr}{x y:X}{p:Pos}(h:ST W G n c e x)(h2:ST W G n c (.BoolOp .Or rest p) y):ST W G n c (.BoolOp .Or (e::rest) p) (.or x y):=by
 intro A env h₀ H ρ s Q E ok Y R q
 simp only[Jb,Jc,Jd,Je,Jf,Jg,Jh,Ji,Jj,Jk,Jl,Jm,Jn,Jo,Bx,Jp,Jq,Jr,Js,Jt,Av,Dc,Bc,Ar,Ju,Jv,A3,Bb]at q
 refine Re (wpAny_mono (h (Q:=fun b H=>if b then Q true H else Aq G (Ae G n) y ρ H (fun v H=>truthy v fun b=>Q b H) E) ok Y R ?_) (fun b s' r=>?_) fun _ _ e=>e)
 ·refine cast ?_ q;congr 1
 ·obtain⟨H',R',q'⟩:=r
  cases b
  ·exact h2 ok Y R' (by simpa using q')
  ·exact⟨H',R',by simpa using q'⟩
theorem Agj{op:BoolOp}{e:Expr}{x:X}{p:Pos}(h:ST W G n c e x):ST W G n c (.BoolOp op [e] p) x:=by
 intro A env h₀ H ρ s Q E ok Y R q
 cases op
 ·refine isTrue_and (wpAny_mono (h ok Y R q) (fun b s' r=>?_) fun _ _ e=>e)
  refine Aa fun nY=>?_
  obtain⟨H',R',q'⟩:=r
  cases b
  ·refine nY ?_;clear nY
   exact⟨H',R',q'⟩
  ·refine nY ?_;clear nY
   exact isTrue_and_nil ⟨H',R',q'⟩
 ·refine Re (wpAny_mono (h ok Y R q) (fun b s' r=>?_) fun _ _ e=>e)
  refine Aa fun nY=>?_
  obtain⟨H',R',q'⟩:=r
  cases b
  ·refine nY ?_;clear nY
   exact wpAny_pure (a:=false) ⟨H',R',q'⟩
  ·refine nY ?_;clear nY
   exact⟨H',R',q'⟩
theorem Agk{l r:Expr}{op:Operator}{x y:X}{p:Pos}(h:SE W G n c l x)(h2:SE W G n c r y):SE W G n c (.BinOp l op r p) (.bin op x y):=by
 intro A env h₀ H ρ s Q E ok Y R q
 simp only[Jb,Jc,Jd,Je,Jf,Jg,Jh,Ji,Jj,Jk,Jl,Jm,Jn,Jo,Bx,Jp,Jq,Jr,Js,Jt,Av,Dc,Bc,Ar,Ju,Jv,A3,Bb]at q
 refine wpAny_BinOp (wpAny_mono (h ok Y R q) (fun v s' r=>?_) fun _ _ e=>e)
 refine Aa fun nY=>?_
 obtain⟨a,H',hv,R',q'⟩:=r
 refine nY ?_;clear nY
 refine wpAny_mono (h2 ok Y R' q') (fun v2 s2 r=>?_) fun _ _ e=>e
 refine Aa fun nY=>?_
 obtain⟨b,H2,hv2,R2,q2⟩:=r
 refine nY ?_;clear nY
 exact Tw Y R2 hv hv2 q2
theorem Agl{l r:Expr}{op:CmpOp}{x y:X}{p:Pos}(h:SE W G n c l x)(h2:SE W G n c r y)(hm:behindInMarks op r=false):SE W G n c (.Compare l [op] [r] p) (.cmp op x y):=by
 intro A env h₀ H ρ s Q E ok Y R q
 simp only[Jb,Jc,Jd,Je,Jf,Jg,Jh,Ji,Jj,Jk,Jl,Jm,Jn,Jo,Bx,Jp,Jq,Jr,Js,Jt,Av,Dc,Bc,Ar,Ju,Jv,A3,Bb]at q
 refine wpAny_Compare1 (wpAny_mono (h ok Y R q) (fun v s' r=>?_) fun _ _ e=>e) hm
 refine Aa fun nY=>?_
 obtain⟨a,H',hv,R',q'⟩:=r
 refine nY ?_;clear nY
 refine wpAny_mono (h2 ok Y R' q') (fun v2 s2 r=>?_) fun _ _ e=>e
 refine Aa fun nY=>?_
 obtain⟨b,H2,hv2,R2,q2⟩:=r
 refine nY ?_;clear nY
 exact C7 ok Y R2 hv hv2 q2
theorem Pd{v:Value}{Q:Bool->AH->Prop}(r:Be W h₀ env names ρ (fun v H=>truthy v fun b=>Q b H) v s):wpAny W.M A (PySem.truthy v) (fun b s'=>∃H',An W h₀ env names H' ρ s'/\Q b H') E s:=by
 refine Aa fun nY=>?_
 obtain⟨a,H',hv,R',q'⟩:=r
 delta truthy at q'
 split at q'
 ·refine nY ?_;clear nY
  cases hv;exact wpAny_truthy_bool ⟨H',R',q'⟩
 ·exact q'.elim
theorem Agm{l r:Expr}{op:CmpOp}{x y:X}{p:Pos}(h:SE W G n c l x)(h2:SE W G n c r y)(hm:behindInMarks op r=false):ST W G n c (.Compare l [op] [r] p) (.cmp op x y):=by
 intro A env h₀ H ρ s Q E ok Y R q
 simp only[Jb,Jc,Jd,Je,Jf,Jg,Jh,Ji,Jj,Jk,Jl,Jm,Jn,Jo,Bx,Jp,Jq,Jr,Js,Jt,Av,Dc,Bc,Ar,Ju,Jv,A3,Bb]at q
 refine wpAny_isTrue_Compare1 (wpAny_mono (h ok Y R q) (fun v s' r=>?_) fun _ _ e=>e) hm
 refine Aa fun nY=>?_
 obtain⟨a,H',hv,R',q'⟩:=r
 refine nY ?_;clear nY
 refine wpAny_mono (h2 ok Y R' q') (fun v2 s2 r=>?_) fun _ _ e=>e
 refine Aa fun nY=>?_
 obtain⟨b,H2,hv2,R2,q2⟩:=r
 refine nY ?_;clear nY
 exact wpAny_mono (C7 ok Y R2 hv hv2 q2) (fun v s' r=>Pd r) fun _ _ e=>e
theorem Aaz{l m r:Expr}{o1 o2:CmpOp}{x y z:X}{p:Pos}(h:SE W G n c l x)(h2:SE W G n c m y)(h3:SE W G n c r z)(hm:lastMarks [o1,o2] [m,r]=false):SE W G n c (.Compare l [o1,o2] [m,r] p) (.chain x o1 y o2 z):=by
 intro A env h₀ H ρ s Q E ok Y R q
 simp only[Jb,Jc,Jd,Je,Jf,Jg,Jh,Ji,Jj,Jk,Jl,Jm,Jn,Jo,Bx,Jp,Jq,Jr,Js,Jt,Av,Dc,Bc,Ar,Ju,Jv,A3,Bb]at q
 refine Compare_chain (wpAny_mono (h ok Y R q) (fun v s' r=>?_) fun _ _ e=>e) hm
 refine Aa fun nY=>?_
 obtain⟨a,H',hv,R',q'⟩:=r
 refine nY ?_;clear nY
 refine chain_link (wpAny_mono (h2 ok Y R' q') (fun v2 s2 r=>?_) fun _ _ e=>e)
 refine Aa fun nY=>?_
 obtain⟨b,H2,hv2,R2,q2⟩:=r
 refine nY ?_;clear nY
 refine wpAny_mono (C7 ok Y R2 hv hv2 q2) (fun v3 s3 r=>?_) fun _ _ e=>e
 refine Aa fun nY=>?_
 obtain⟨d,H3,hv3,R3,q3⟩:=r
 delta truthy at q3
 split at q3
 ·rename_i t
  cases hv3
  refine nY ?_;clear nY
  refine wpAny_truthy_bool ?_
  cases t
  ·exact Be.mk (.bool _) R3 (by simpa using q3)
  ·refine chain_last (wpAny_mono (h3 ok Y R3 (by simpa using q3)) (fun v4 s4 r=>?_) fun _ _ e=>e)
   refine Aa fun nY=>?_
   obtain⟨d,H4,hv4,R4,q4⟩:=r
   refine nY ?_;clear nY
   exact C7 ok Y R4 hv2 hv4 q4
 ·exact q3.elim
theorem Aa0{l m r:Expr}{o1 o2:CmpOp}{x y z:X}{p:Pos}(h:SE W G n c l x)(h2:SE W G n c m y)(h3:SE W G n c r z)(hm:lastMarks [o1,o2] [m,r]=false):ST W G n c (.Compare l [o1,o2] [m,r] p) (.chain x o1 y o2 z):=by
 intro A env h₀ H ρ s Q E ok Y R q
 simp only[Jb,Jc,Jd,Je,Jf,Jg,Jh,Ji,Jj,Jk,Jl,Jm,Jn,Jo,Bx,Jp,Jq,Jr,Js,Jt,Av,Dc,Bc,Ar,Ju,Jv,A3,Bb]at q
 refine isTrue_chain (wpAny_mono (h ok Y R q) (fun v s' r=>?_) fun _ _ e=>e) hm
 refine Aa fun nY=>?_
 obtain⟨a,H',hv,R',q'⟩:=r
 refine nY ?_;clear nY
 refine test_link (wpAny_mono (h2 ok Y R' q') (fun v2 s2 r=>?_) fun _ _ e=>e)
 refine Aa fun nY=>?_
 obtain⟨b,H2,hv2,R2,q2⟩:=r
 refine nY ?_;clear nY
 refine wpAny_mono (C7 ok Y R2 hv hv2 q2) (fun v3 s3 r=>?_) fun _ _ e=>e
 refine Aa fun nY=>?_
 obtain⟨d,H3,hv3,R3,q3⟩:=r
 delta truthy at q3
 split at q3
 ·rename_i t
  cases hv3
  refine nY ?_;clear nY
  refine wpAny_truthy_bool ?_
  cases t
  ·exact⟨H3,R3,by simpa[truthy]using q3⟩
  ·refine test_last (wpAny_mono (h3 ok Y R3 (by simpa using q3)) (fun v4 s4 r=>?_) fun _ _ e=>e)
   refine Aa fun nY=>?_
   obtain⟨d,H4,hv4,R4,q4⟩:=r
   refine nY ?_;clear nY
   exact wpAny_mono (C7 ok Y R4 hv2 hv4 q4) (fun v s' r=>Pd r) fun _ _ e=>e
 ·exact q3.elim
end Mine.Internal
namespace Mine.Internal
open PySem PySem.W PyProof.Rows
variable {W:Wd} {G:A5} {A:Around} {h₀:HB} {env:Env} {c:Cx} {names:List Str} {H:AH} {ρ:Al} {s:Shared} {E:Value->Shared->Prop} {n:Nat} {Q:Ak} {Er:EP}
theorem N7{ns:List Str}{vs:List Value}(hl:ns.length=vs.length)(n:Str)(h:n∈ns):((ns.zip vs).lookup n).isSome=true:=by
 induction ns generalizing vs with
 | nil=>cases h
 | cons a ns ih=>
   refine Aa fun nY=>?_
   cases vs with
   | nil=>cases hl
   | cons v vs=>
     refine nY ?_;clear nY
     rw[List.zip_cons_cons,List.lookup_cons]
     cases q:n==a with
     | true=>rfl
     | false=>
       refine Aa fun nY=>?_
       rcases List.mem_cons.mp h with rfl|h
       ·rw[beq_self_eq_true]at q;cases q
       ·refine nY ?_;clear nY
        exact ih (Nat.succ.inj hl) h
theorem T9{α β:Type}{f g:α->Option β}:∀ {l:List α},(∀x∈l,f x=g x)->l.filterMap f=l.filterMap g
 | [],_=>rfl
 | a::l,h=>by rw[List.filterMap_cons,List.filterMap_cons,h a (.head _),T9 fun x hx=>h x (.tail _ hx)]
theorem Qh{ns:List Str}{vs:List Value}(hl:ns.length=vs.length)(hn:ns.Nodup):ns.filterMap (fun n=>((ns.zip vs).lookup n).map (n,·))=ns.zip vs:=by
 induction ns generalizing vs with
 | nil=>rfl
 | cons a ns ih=>
   cases vs with
   | nil=>cases hl
   | cons v vs=>
     obtain⟨h1,h2⟩:=List.nodup_cons.mp hn
     simp only[List.zip_cons_cons,List.filterMap_cons,List.lookup_cons,beq_self_eq_true,Option.map_some]
     congr 1
     refine Eq.trans (T9 fun n hn=>?_) (ih (Nat.succ.inj hl) h2)
     have:(n==a)=false:=by simpa using fun q:n=a=>h1 (q▸hn)
     rw[this]
theorem Vx{fd:FuncData}{vs:List Value}(hp:Fo fd.params=true)(hd:fd.defaults = .none)(hl:fd.params.args.length=vs.length)(hn:(fd.params.args.map (·.arg)).Nodup) :
 bindArgs fd ⟨vs,[]⟩=pure ((fd.params.args.map (·.arg)).zip vs):=by
 unfold Fo at hp
 simp only[Bool.and_eq_true,List.isEmpty_iff,Option.isNone_iff_eq_none]at hp
 refine Aa fun nY=>?_
 obtain⟨⟨⟨⟨⟨h1,h2⟩,h3⟩,h4⟩,h5⟩,h6⟩:=hp
 have hl':(fd.params.args.map (·.arg)).length=vs.length:=by simpa using hl
 have e2:=Qh hl' hn
 have e1:∀k,((fd.params.args.map (·.arg)).take k).filter (fun n=>(((fd.params.args.map (·.arg)).zip vs).lookup n).isNone) = []:=by
  intro k
  rw[List.filter_eq_nil_iff];intro n h
  have:=N7 hl' n (List.mem_of_mem_take h)
  cases q:((fd.params.args.map (·.arg)).zip vs).lookup n with
  | none=>rw[q]at this;cases this
  | some _=>simp
 refine nY ?_;clear nY
 have e3:¬(decide (vs.length>(fd.params.args.map (·.arg)).length)&&true)=true:=by simp;exact Nat.le_of_eq hl.symm
 clear hl hl' hn
 cases fd with|mk nm qn ps bd sc gl cl df kd pm cd=>
 cases ps with|mk a1 a2 a3 a4 a5 a6 a7=>
 dsimp only at h1 h2 h3 h4 h5 h6 hd e1 e2 e3 ⊢
 subst h1 h2 h3 h5 hd
 generalize hN:a2.map Arg.arg=N at *
 subst hN
 have e4:∀k,¬(!(((a2.map Arg.arg).take k).filter (fun n=>(((a2.map Arg.arg).zip vs).lookup n).isNone)).isEmpty)=true:=fun k=>by rw[e1 k];decide
 refine(if_neg (c:=(decide (vs.length>([]++a2.map Arg.arg).length)&&Option.isNone (none:Option Arg))=true) e3).trans ((if_neg (e4 _)).trans ?_)
 dsimp only[List.map_nil,List.nil_append,List.toList_toArray,Option.getD_none,List.length_nil]
 rw[List.drop_nil,List.zip_nil_right]
 show (pure:List (Str×Value)->Sem (List (Str×Value))) (List.filterMap (fun n=>(((a2.map Arg.arg).zip vs).lookup n).map (n,·)) (a2.map Arg.arg ++ []))=_
 rw[List.append_nil,e2]
noncomputable def NS(es:List Expr):Prop:=∀e∈es,∀v p,e≠ .Starred v p
theorem NS.plain{es:List Expr}(h:NS es){pos:Pos}{env:Env}:(backTo pos (starEach es env)).any (·.1)=false:=by
 induction es with
 | nil=>rfl
 | cons e r ih=>
   rw[A7 (h e (.head _))]
   show (false||(backTo pos (starEach r env)).any (·.1))=false
   rw[ih fun e he=>h e (.tail _ he)];rfl
theorem En{es:List Expr}{xs:List X}(h:Vw W G n c es xs)(hn:NS es)(ok:Ms A c h₀ env n)(Y:Ai W env c h₀)(R:An W h₀ env c.names H ρ s){f:Value}{pos:Pos}{Q:List V->AH->Prop}(q:Co G (Ae G n) xs ρ H Q Er)
 {Q':Args->Shared->Prop} (hq:∀as us H' s',Cv W as us->An W h₀ env c.names H' ρ s'->Q as H'->Q' ⟨us,[]⟩ s'):wpAny W.M A (evalArgs f true (backTo pos (starEach es env)) []) Q' (EM W h₀ env c.names ρ Er) s:=by
 have z:=h (pos:=pos) ok Y R q
 have z':wpAny W.M A (spliced (backTo pos (starEach es env))) (fun us s'=>Q' ⟨us,[]⟩ s') (EM W h₀ env c.names ρ Er) s:=
  wpAny_mono z (fun us s' r=>by obtain⟨as,H',h1,_,h2,h3⟩:=r;exact hq as us H' s' h1 h2 h3) fun _ _ e=>e
 cases es with
 | nil=>
   unfold evalArgs
   show wpAny W.M A (spliced [] >>= _) Q' (EM W h₀ env c.names ρ Er) s
   refine wpAny_bind (wpAny_mono z' (fun vs s' h'=>?_) fun _ _ e=>e)
   refine wpAny_holding ?_
   exact wpAny_bind (wpAny_pure (wpAny_bind (wpAny_pure (wpAny_pure h'))))
 | cons e r=>
   rw[A7 (hn e (.head _))]at z' ⊢
   exact Calls.evalArgs_plain z'
theorem E9.keep(g:E9 W G)(Y:Ai W env c h₀)(R:An W h₀ env names H ρ s):W.K.In s.heap:=fun a o e=>R.keepB Y a o (g.X a o e)
theorem Adq(g:E9 W G)(hf:c.hnd=false)(sc:SC W G n){f:Str}{p pos:Pos}{es:List Expr}{xs:List X}(hg:c.global f=true)(hd:(f==("__debug__" :Str))=false)(hbx:F8 f=false)(ho:D9 f=none)(hs:Vw W G n c es xs)(hn:NS es):SE W G n c (.Call (.Name f p) es [] pos) (.call f xs):=by
 intro A env h₀ H ρ s Q E ok Y R q
 simp only[Jb,Jc,Jd,Je,Jf,Jg,Jh,Ji,Jj,Jk,Jl,Jm,Jn,Jo,Bx,Jp,Jq,Jr,Js,Jt,Av,Dc,Bc,Ar,Ju,Jv,A3,Bb]at q
 refine Aa fun nY=>?_
 obtain⟨d,hd'⟩:=Option.isSome_iff_exists.mp q.1
 obtain⟨fa,h1,name,qual,params,body,scope,doc,pm,cdv,ct,oc,an,od,osl,F⟩:=g.fn f d hd'
 refine nY ?_;clear nY
 refine Call_ (C8 g Y R hg hd (Q3 hbx▸L3 ho h1) ?_)
 refine Calls.callWith_function (En hs hn ok Y R q.2 fun as us H' s' hv R' q'=>⟨⟨g.keep Y R' _ _ F.at_,rfl⟩,?_⟩)
 exact wpAny_call (sc (fun _=>ok.handled hf) (fun h=>by rw[hbx]at h;cases h) (by have:=ok.room;exact Af6 this) (by have:=ok.units;exact Af7 this) ok.stk Y R' h1 hv q')
theorem Aa1(g:E9 W G)(ho:c.ovr=true)(sc:SC W G n){f y:Str}{p pos:Pos}{es:List Expr}{xs:List X}(hg:c.global f=true)(hy:hOf f=some y)(hs:Vw W G n c es xs)(hn:NS es):SE W G n c (.Call (.Name f p) es [] pos) (.call y xs):=by
 obtain⟨y1,y2,y3,y4⟩:=Agb hy
 intro A env h₀ H ρ s Q E ok Y R q
 rw[Jn]at q
 obtain⟨d,hd'⟩:=Option.isSome_iff_exists.mp q.1
 obtain⟨fa,h1,name,qual,params,body,scope,doc,pm,cdv,ct,oc,an,od,osl,F⟩:=g.fn y d hd'
 refine Call_ (C8 g Y R hg y4 (y2▸L3 y3 h1) ?_)
 refine Calls.callWith_function (En hs hn ok Y R q.2 fun as us H' s' hv R' q'=>⟨⟨g.keep Y R' _ _ F.at_,rfl⟩,?_⟩)
 exact wpAny_call (sc (fun h=>by rw[y1]at h;cases h) (fun _=>ok.over ho) (by have:=ok.room;exact Af6 this) (by have:=ok.units;exact Af7 this) ok.stk Y R' h1 hv q')
theorem Sl{o:Expr}{a:Str}{whole:Sem Value}(h:Ie o=true):attributeBase o a env whole=whole:=by
 cases o<;>try rfl
 case Call f args kw p=>
  cases f<;>try rfl
  case Name x q=>
   cases args with
   | cons _ _=>rfl
   | nil=>
     cases kw with
     | cons _ _=>rfl
     | nil=>cases h
theorem Yb{fs:List (C9×V)}{es:List DictEntry}(h:X2 W fs es){m:Str}(hm:∀a,A4 a≠m):getL m es=some none:=by
 have h1:es.find? (·.key.isStr m)=none/\es.any (·.refKey)=false:=by
  induction h with
  | nil=>exact⟨rfl,rfl⟩
  | cons h1 h2 h3 h4 ih=>
    obtain⟨t,ht⟩:=h2
    refine⟨?_,?_⟩
    ·rw[List.find?_cons,ht,Ih (hm _)];exact ih.1
    ·rw[List.any_cons,ih.2]
     simp[DictEntry.refKey,ht]
 unfold getL
 rw[h1.1,h1.2];rfl
theorem Sm{cc:Cn}(h:cc = .web\/cc = .verdict):D9 (Ds cc)=some (cc,("__init__" :Str)):=by rcases h with rfl|rfl<;>decide
theorem Pe{f m:Str}{cc:Cn}{fa:Addr}(ho:D9 f=some (cc,m))(h:E1 W f=some fa):findIn W.K (.ref (W.cl cc)) m=some (some (.ref fa)):=by
 delta E1 at h
 rw[ho]at h
 simp only at h
 refine Aa fun nY=>?_
 split at h
 ·refine nY ?_;clear nY
  rename_i e;cases h;exact e
 ·cases h
theorem Adm.isFn{hb:Bool}{fa:Addr}{d name qual params body scope doc pm cdv ct oc an od osl}(F:Adm W hb fa d name qual params body scope doc pm cdv ct oc an od osl):isFn W.K (.ref fa)=true:=by
 have:=F.at_
 rw[F.typ]at this
 unfold PySem.W.isFn typeIn
 simp only[this];rfl
theorem Adr(g:E9 W G)(hf:c.hnd=false)(sc:SC W G n){o:Expr}{m f:Str}{ap pos:Pos}{y:X}{es:List Expr}{xs:List X}(hb:Ie o=true)(hl:(ap.endLine==pos.line)=true)(hfew:es.length<3)(ho:D9 f=some (.web,m))(h:SE W G n c o y)(hs:Vw W G n c es xs)(hn:NS es) :
 SE W G n c (.Call (.Attribute o m ap) es [] pos) (.meth f y xs):=by
 intro A env h₀ H ρ s Q E ok Y R q
 simp only[Jb,Jc,Jd,Je,Jf,Jg,Jh,Ji,Jj,Jk,Jl,Jm,Jn,Jo,Bx,Jp,Jq,Jr,Js,Jt,Av,Dc,Bc,Ar,Ju,Jv,A3,Bb]at q
 rw[arm_eval_Call,Sl hb]
 refine wpAny_bind (wpAny_mono (h ok Y R q) (fun ov s₁ r=>wpAny_bind (wpAny_standAt ?_)) fun _ _ e=>e)
 refine Aa fun nY=>?_
 obtain⟨a,H',hv,R',q'⟩:=r
 refine nY ?_;clear nY
 apply Bo hv q';intro x q';refine Ade q' fun dd e1 q'=>?_;refine Vm q' fun fs e2 q'=>?_
 refine Aa fun nY=>?_
 obtain⟨hsome,q'⟩:=q'
 obtain⟨d,hd'⟩:=Option.isSome_iff_exists.mp hsome
 obtain⟨fa,h1,name,qual,params,body,scope,doc,pm,cdv,ct,oc,an,od,osl,F⟩:=g.fn f d hd'
 obtain⟨hp,hat⟩:=g.meth f m fa ho h1
 have hform:methodCallForm (es.length+([]:List Keyword).length) (backTo pos (starEach es env)) (backToKw pos (keywordEach [] env))=true:=by
  unfold methodCallForm
  have:(backTo pos (starEach es env)).all (fun x=> !x.1)=true:=by
   have:=hn.plain (pos:=pos) (env:=env)
   rw[List.any_eq_false]at this
   rw[List.all_eq_true];intro x hx;simpa using this x hx
  rw[this]
  have:es.length+0+0<30:=(Nat.lt_trans hfew (by decide))
  simpa[show backToKw pos (keywordEach [] env) = []from rfl]using this
 refine nY ?_;clear nY
 have hpos:methodCallPos true o env ap pos=pure pos:=by unfold methodCallPos;simp[hl]
 unfold methodCall
 rw[hform]
 refine Aa fun nY=>?_
 obtain⟨mm,FF⟩:=R'.kitF Y
 obtain⟨ob1,o1,o2⟩:=R'.objs _ _ e1
 obtain⟨ob2,o3,o4⟩:=R'.objs _ _ e2
 cases o2
 cases o4 with
 | ns hns hz=>
 have I:PySem.W.InstAt s₁.heap x (instObj (W.cl .web) dd) (W.cl .web) (some (dictOf _ _)):=⟨o1,rfl,rfl,o3⟩
 refine nY ?_;clear nY
 refine wpAny_bind (wpAny_holding (method_inst FF g.X I hp (Pe ho h1) F.isFn (Yb hns hat) ?_))
 refine wpAny_bind (wpAny_of_eq hpos ?_)
 refine Calls.callWith_function (En hs hn ok Y R' q' fun as us H' s' hv R' q'=>⟨⟨g.keep Y R' _ _ F.at_,rfl⟩,?_⟩)
 exact wpAny_call (sc (fun _=>ok.handled hf) (fun h=>by rw[To h]at ho;cases ho) (by have:=ok.room;exact Af6 this) (by have:=ok.units;exact Af7 this) ok.stk Y R' h1 (.cons (.ref _) hv) q')
theorem Sn(C:Addr)(rest:List Value):(Code.builtin "type.__call__" ⟨.ref C::rest,[]⟩).weight<=1:=by
 first|exact(show (0:Nat)<=1 by decide)|exact(show (1:Nat)<=1 by decide)
theorem Ua(a:Args):(Code.builtin "type.__call__" a).cUnits=1:=by kernel_rfl
theorem Afn(g:E9 W G)(hf:c.hnd=false)(sc:SC W G n){cc:Cn}{x:Str}{p pos:Pos}{es:List Expr}{xs:List X}(hcc:(cc = .web/\x = "Web")\/(cc = .verdict/\x = "Verdict"))(hg:c.global x=true)(hs:Vw W G n c es xs)(hn:NS es) :
 SE W G n c (.Call (.Name x p) es [] pos) (.mk cc xs):=by
 intro A env h₀ H ρ s Q E ok Y R q
 simp only[Jb,Jc,Jd,Je,Jf,Jg,Jh,Ji,Jj,Jk,Jl,Jm,Jn,Jo,Bx,Jp,Jq,Jr,Js,Jt,Av,Dc,Bc,Ar,Ju,Jv,A3,Bb]at q
 have hc':cc = .web\/cc = .verdict:=hcc.elim (fun h=> .inl h.1) fun h=> .inr h.1
 refine Aa fun nY=>?_
 obtain⟨d,hd'⟩:=Option.isSome_iff_exists.mp q.1
 obtain⟨fa,h1,name,qual,params,body,scope,doc,pm,cdv,ct,oc,an,od,osl,F⟩:=g.fn _ d hd'
 obtain⟨hm1,hm2⟩:=g.make cc hc' q.1
 refine nY ?_;clear nY
 have hns:nsIn W.K mainGlobals x=some (some (.ref (W.cl cc))):=by rcases hcc with⟨rfl,rfl⟩ | ⟨rfl,rfl⟩<;>exact hm1
 have hk:keepIn W.K (.ref (W.cl cc))=true:=by
  unfold makesIn at hm2
  refine Aa fun nY=>?_
  split at hm2
  ·rename_i e
   refine nY ?_;clear nY
   simp only[keepIn,e]
   simp only[Bool.and_eq_true]at hm2
   exact hm2.1.2
  ·cases hm2
 refine Call_ (C8 g Y R hg (by rcases hcc with⟨rfl,rfl⟩ | ⟨rfl,rfl⟩<;>decide) hns ?_)
 refine callWith_of (P:=W.K.In) (by simp[hn.plain]) (keeps_K hk) (En hs hn ok Y R q.2 fun as us H' s' hv R' q'=>⟨g.keep Y R',?_⟩)
 refine wpAny_call ?_
 have X:=g.keep Y R'
 refine Aa fun nY=>?_
 obtain⟨hh,gg,dd,tt,oo⟩:=s'
 refine nY ?_;clear nY
 refine make_core (makes_of X hm2) (looks_findIn X (Pe (Sm hc') h1)) (fun self=>bind_fn X self (beq_iff_eq.mp F.isFn)) (.inl rfl) ?_
 have hn1:=R'.fresh
 have R1:=R'.push (o:= .ns []) (ob:=emptyDict) (OR.ns (es:=[]) .nil (by simp)) rfl tt
 have hn2:=R1.fresh
 simp only[Heap.size_push]at hn1 hn2
 have hn3:H' (hh.objs.size+1)=none:=by
  unfold upd at hn2
  simp at hn2
  exact hn2
 have R2:=R1.push (o:= .inst cc hh.objs.size) (ob:=instObj (W.cl cc) hh.objs.size) (.inst hc') rfl tt
 simp only[Heap.size_push]at R2
 have q2:=q' (hh.objs.size+1) hh.objs.size hn3 hn1 (Nat.succ_ne_self _)
 refine codeAny_mono (sc (Q:=fun r H'=>r = .none/\Q (.ref (hh.objs.size+1)) H') (E:=E) ?_ ?_ ?_ ?_ ok.stk Y R2 h1 (.cons (.ref _) hv) q2) fun r s' z=>?_
 ·exact fun _=>ok.handled hf
 ·exact fun h=>by have:=Sm hc';rw[To h]at this;cases this
 ·have:=ok.room;show A.depth+Code.weight _+_+_<_;refine Nat.lt_of_le_of_lt (Nat.add_le_add_right (Nat.add_le_add_right (Nat.add_le_add_left (Sn _ _) _) _) _) ?_;exact Aku this
 ·have:=ok.units;show A.units+Code.cUnits _+_+_<_;rw[Ua];exact Akv this
 ·rcases r with e|(v|_|_|_)<;>first|exact z|exact z.elim|skip
  refine Aa fun nY=>?_
  obtain⟨a,H3,hv3,R3,e3,q3⟩:=z
  subst e3
  cases hv3
  refine nY ?_;clear nY
  exact⟨rfl,Be.mk (.ref _) R3 q3⟩
end Mine.Internal
namespace Mine.Internal
open PySem PySem.W PyProof.Rows
variable {W:Wd} {G:A5} {A:Around} {h₀:HB} {env:Env} {c:Cx} {names:List Str} {H:AH} {ρ:Al} {s:Shared} {E:Value->Shared->Prop} {n:Nat} {Q:Ak} {Er:EP}
noncomputable def Ai0(x:Str)(b:BI):Prop:=x∈I2/\bootBuiltins x=some (Afm b)/\x≠ "__name__" /\(x==("__debug__" :Str))=false
theorem Agn:∀p∈Z9,Ai0 p.1 p.2.2/\(O9 p.2.2=true\/p.2.2 = .int):=
 List.forall_mem_cons.mpr ⟨⟨⟨by decide,by kernel_rfl,by decide,by decide⟩,by decide⟩,List.forall_mem_cons.mpr ⟨⟨⟨by decide,by kernel_rfl,by decide,by decide⟩,by decide⟩,List.forall_mem_cons.mpr ⟨⟨⟨by decide,by kernel_rfl,by decide,by decide⟩,by decide⟩,List.forall_mem_cons.mpr ⟨⟨⟨by decide,by kernel_rfl,by decide,by decide⟩,by decide⟩,List.forall_mem_cons.mpr ⟨⟨⟨by decide,by kernel_rfl,by decide,by decide⟩,by decide⟩,List.forall_mem_cons.mpr ⟨⟨⟨by decide,by kernel_rfl,by decide,by decide⟩,by decide⟩,List.forall_mem_cons.mpr ⟨⟨⟨by decide,by kernel_rfl,by decide,by decide⟩,by decide⟩,List.forall_mem_cons.mpr ⟨⟨⟨by decide,by kernel_rfl,by decide,by decide⟩,by decide⟩,List.forall_mem_cons.mpr ⟨⟨⟨by decide,by kernel_rfl,by decide,by decide⟩,by decide⟩,nofun⟩⟩⟩⟩⟩⟩⟩⟩⟩
theorem Aa2{x:Str}{k:Nat}{b:BI}(h:Ac8 x k=some b):Ai0 x b/\(O9 b=true\/b = .int):=Agn (x,(k,b)) (Tn h)
theorem Kn(g:E9 W G)(Y:Ai W env c h₀)(R:An W h₀ env names H ρ s){x:Str}{p pos:Pos}{v:Value}{es:List Expr}{Q:Value->Shared->Prop}(hv:(∃i,v = .builtin i)\/∃i,v = .type i)(hg:c.global x=true)(hd:(x==("__debug__" :Str))=false)(hx:x∈I2)
 (hb:bootBuiltins x=some v) (hnm:x≠ "__name__") (hn:NS es) (h:wpAny W.M A (evalArgs v true (backTo pos (starEach es env)) []) (fun a s₁=>wpAny W.M A (call v a.pos a.kw) Q E s₁) E s) :
 wpAny W.M A (eval (.Call (.Name x p) es [] pos) env) Q E s:=by
 refine Call_ (K0 g Y R hg hd hx hb hnm ?_)
 rcases hv with⟨i,rfl⟩ | ⟨i,rfl⟩
 ·exact Calls.callWith_builtin hn.plain h
 ·exact PySem.callWith_type hn.plain h
theorem Ai1(g:E9 W G)(hf:c.hnd=false){b:BI}{x:Str}{p pos:Pos}{es:List Expr}{xs:List X}(hb:Ac8 x es.length=some b)(hg:c.global x=true)(hs:Vw W G n c es xs)(hn:NS es) :
 SE W G n c (.Call (.Name x p) es [] pos) (.bi b xs):=by
 intro A env h₀ H ρ s Q E ok Y R q
 simp only[Jb,Jc,Jd,Je,Jf,Jg,Jh,Ji,Jj,Jk,Jl,Jm,Jn,Jo,Bx,Jp,Jq,Jr,Js,Jt,Av,Dc,Bc,Ar,Ju,Jv,A3,Bb]at q
 refine Aa fun nY=>?_
 obtain⟨⟨h1,h2,h3,h4⟩,hd⟩:=Aa2 hb
 refine nY ?_;clear nY
 refine Kn g Y R ?_ hg h4 h1 h2 h3 hn (En hs hn ok Y R q fun as us H' s' hv R' q'=>?_)
 ·cases b<;>first|exact .inl ⟨_,rfl⟩|exact .inr ⟨_,rfl⟩|(rcases hd with hd|hd<;>cases hd)
 ·refine Aa fun nY=>?_
  rcases hd with hd|rfl
  ·refine nY ?_;clear nY
   exact Vs ok hf Y R' hd hv q'
  ·replace q':Afe as H' Q:=q'
   refine nY ?_;clear nY
   apply Kl hv q'
   intro v u h q
   induction h with
   | bool b=>exact PySem.call_int_bool (Be.mk (.int _ _) (R'.toks _) q)
   | _=>exact False.elim q
theorem Aa3{x:Str}{t:Ty}(h:Z8 x=some t)(hp:Fd t=true):(x = "int" /\t = .int)\/(x = "bool" /\t = .bool)\/(x = "list" /\t = .list)\/(x = "tuple" /\t = .tuple):=
 (by decide:∀p∈W0,Fd p.2=true->(p.1 = "int" /\p.2 = .int)\/(p.1 = "bool" /\p.2 = .bool)\/(p.1 = "list" /\p.2 = .list)\/(p.1 = "tuple" /\p.2 = .tuple)) (x,t) (El h) hp
theorem Aa4{x:Str}{t:Ty}(h:Z8 x=some t)(hp:Fd t=true):x∈I2/\bootBuiltins x=some (Aal W t)/\x≠ "__name__" /\(x==("__debug__" :Str))=false:=by
 rcases Aa3 h hp with⟨rfl,rfl⟩ | ⟨rfl,rfl⟩ | ⟨rfl,rfl⟩ | ⟨rfl,rfl⟩<;>exact⟨by decide,by kernel_rfl,by decide,by decide⟩
theorem Ai2(g:E9 W G)(Y:Ai W env c h₀)(R:An W h₀ env names H ρ s){t:Ty}{tn:Str}{tp:Pos}(ht:Z8 tn=some t)(hp:Fd t=true)(hgt:c.global tn=true){Q:Value->Shared->Prop}(h:Q (Aal W t) s):wpAny W.M A (eval (.Name tn tp) env) Q E s:=by
 obtain⟨t1,t2,t3,t4⟩:=Aa4 (W:=W) ht hp
 exact K0 g Y R hgt t4 t1 t2 t3 h
theorem Yc(g:E9 W G){t:Ty}{tn:Str}{p tp pos:Pos}{e:Expr}{x:X}(ht:Z8 tn=some t)(hg:c.global "isinstance" = true)(hgt:c.global tn=true)(h:SE W G n c e x)(hn:∀v p,e≠ .Starred v p) :
 SE W G n c (.Call (.Name "isinstance" p) [e,.Name tn tp] [] pos) (.bi (.isinst t) [x]):=by
 intro A env h₀ H ρ s Q E ok Y R q
 simp only[Jb,Jc,Jd,Je,Jf,Jg,Jh,Ji,Jj,Jk,Jl,Jm,Jn,Jo,Bx,Jp,Jq,Jr,Js,Jt,Av,Dc,Bc,Ar,Ju,Jv,A3,Bb]at q
 refine Kn g Y R (.inl ⟨"isinstance",rfl⟩) hg (by decide) (by decide) (by kernel_rfl) (by decide) ?_ ?_
 ·intro e' he' v p' q'
  refine Aa fun nY=>?_
  rcases List.mem_cons.mp he' with rfl|he'
  ·refine nY ?_;clear nY
   exact hn _ _ q'
  ·rcases List.mem_cons.mp he' with rfl|he'
   ·cases q'
   ·cases he'
 ·rw[A7 hn,A7 (fun _ _ q=>by cases q)]
  refine Calls.evalArgs_plain (Calls.spliced_cons (wpAny_mono (h ok Y R q) (fun u s' r=>?_) fun _ _ e=>e))
  refine Aa fun nY=>?_
  obtain⟨a,H',hv,R',q'⟩:=r
  obtain⟨hp,q'⟩:=q'
  refine nY ?_;clear nY
  refine Calls.spliced_cons (Ai2 g Y R' ht hp hgt (Calls.spliced_nil ?_))
  refine Aa fun nY=>?_
  split at q'
  ·rename_i r e
   refine nY ?_;clear nY
   exact Sh R' hp hv e q'
  ·exact q'.elim
/-! own exceptions -/
section
variable {prog:Program} {w:World} {E:Value->Shared->Prop} {h:Heap} {g:Array GenState} {d:Drawn} {t:Nat} {os:OsState}
variable {nm q:Str} {C N:Addr} {bs bm:List Value} {hdct:Bool} {sn:List Str} {sub:List Value} {ab:Bool} {col:Option Bool} {dd:Option Addr} {k0 k1 k2 k3 k5:Option Value} {newId:String}
variable {nm' q':Str} {C' N':Addr} {bs' bm':List Value} {hdct':Bool} {sn':List Str} {sub':List Value} {ab':Bool} {col':Option Bool} {dd':Option Addr} {k0' k1' k2' k3' k5':Option Value} {newId':String}
set_option maxRecDepth 100000
theorem Aa5{e:Addr}{oe:Obj}{Q:Value->Shared->Prop}(hC:h.get? C=some (excClassObj nm q C N bs bm hdct sn sub ab col dd k0 k1 k2 k3 k5 newId))(he:h.get? e=some oe)(hcls:oe.cls = .ref C)
 (hb:bm.contains (.type "ValueError")=true) (hq:Q (.bool true) ⟨h,g,d,t,os⟩):wpAny (model prog w) A (call (.builtin "isinstance") [.ref e,.type "ValueError"]) Q E ⟨h,g,d,t,os⟩:=by
 have hc:(Value.ref C::bm).contains (.type "ValueError")=true:=by rw[List.contains_cons,hb,Bool.or_true]
 have hty:typeOf (.type "ValueError")=pure (.type "type"):=by kernel_rfl
 refine call_isinstance_of ?_
 unfold Builtin.«isinstance.nested»
 repeat (first|(with_reducible refine wpAny_loadPart_at he ?_;rw[hcls])|(with_reducible refine wpAny_isSubtype_exc hC ?_;rw[hc])|wp_step)
 exact hq
theorem Yd{e:Addr}{oe:Obj}{Q:Value->Shared->Prop}(hC:h.get? C=some (excClassObj nm q C N bs bm hdct sn sub ab col dd k0 k1 k2 k3 k5 newId))(he:h.get? e=some oe)(hcls:oe.cls = .ref C)
 (hC':h.get? C'=some (excClassObj nm' q' C' N' bs' bm' hdct' sn' sub' ab' col' dd' k0' k1' k2' k3' k5' newId'))
 (hb:(Value.ref C::bm).contains (.ref C')=true) (hq:Q (.bool true) ⟨h,g,d,t,os⟩):wpAny (model prog w) A (call (.builtin "isinstance") [.ref e,.ref C']) Q E ⟨h,g,d,t,os⟩:=by
 refine call_isinstance_of ?_
 unfold Builtin.«isinstance.nested»
 refine Aa fun nY=>?_
 by_cases z:(Value.ref C==Value.ref C')=true
 ·refine nY ?_;clear nY
  repeat (first|(with_reducible refine wpAny_loadPart_at he ?_;rw[hcls])|(with_reducible refine wpAny_isSubtype_exc hC ?_;rw[hb])|wp_step)
  exact hq
 ·have z':(Value.ref C==Value.ref C')=false:=by simpa using z
  refine nY ?_;clear nY
  repeat (first|(with_reducible refine wpAny_loadPart_at he ?_;rw[hcls])|with_reducible refine wpAny_loadPart_at hC' ?_|(with_reducible refine wpAny_isSubtype_exc hC ?_;rw[hb])|wp_step)
  exact hq
theorem Nq{M:Model}{e:Addr}{oe:Obj}{Q:Bool->Shared->Prop}{b:Bool}(hC:h.get? C=some (excClassObj nm q C N bs bm hdct sn sub ab col dd k0 k1 k2 k3 k5 newId))(he:h.get? e=some oe)(hcls:oe.cls = .ref C)
 (hC':h.get? C'=some (excClassObj nm' q' C' N' bs' bm' hdct' sn' sub' ab' col' dd' k0' k1' k2' k3' k5' newId')) (hbase:bm'.contains (.type "BaseException")=true) (hb:(Value.ref C::bm).contains (.ref C')=b)
 (hq:Q b ⟨h,g,d,t,os⟩):wpAny M A (excMatches (.ref e) (.ref C')) Q E ⟨h,g,d,t,os⟩:=by
 have hcB:(Value.ref C'::bm').contains (.type "BaseException")=true:=by rw[List.contains_cons,hbase,Bool.or_true]
 have f:=tc_notTuple
 unfold excMatches
 cases b<;>(
 repeat (first|(with_reducible refine wpAny_loadPart_at he ?_;rw[hcls])|with_reducible refine wpAny_loadPart_at hC' ?_|(with_reducible refine wpAny_isSubtype_exc hC' ?_;rw[hcB])|(with_reducible refine wpAny_isSubtype_exc hC ?_;rw[hb])|wp_step)
 exact hq)
end
inductive Fq(h:Heap)(bmB:List Value):List Value->Prop
 | base:Fq h bmB bmB
 | own {A:Addr} {c0:Value} {dd:Option Addr} {cd:ClassData} {sl:Array (Option Value)} {mA:Str->Option Value} {tl:List Value} :
    h.get? A=some {cls:=c0,dict:=dd,data:= .cls cd,slots:=sl} ->h.Ns cd.ns mA->(∀n∈Kz,mA n=none)->Fq h bmB tl->Fq h bmB (.ref A::tl)
section
set_option maxRecDepth 100000
variable {prog:Program} {w:World} {A:Around} {E:Value->Shared->Prop} {h:Heap} {g:Array GenState} {d:Drawn} {t:Nat} {os:OsState} {a:Addr} {o:Obj}
 {nm q:Str} {C N:Addr} {bs bm bmB:List Value} {hdct:Bool} {sn:List Str} {sub:List Value} {ab:Bool} {col:Option Bool} {dd:Option Addr} {k0 k1 k2 k3 k5:Option Value} {B newId:String}
 {nm' q':Str} {C' N':Addr} {bs' bm':List Value} {hdct':Bool} {sn':List Str} {sub':List Value} {ab':Bool} {col':Option Bool} {dd':Option Addr} {k0' k1' k2' k3' k5':Option Value} {newId':String}
theorem Ub{M:Model}{tl:List Value}{n:Str}{y:Option Value}{Q:Option Value->Shared->Prop}(hn:n∈Kz)(T:Fq h bmB tl)(hrest:lookupAlong bmB n=pure y)(hq:Q y ⟨h,g,d,t,os⟩) :
 wpAny M A (lookupAlong tl n) Q E ⟨h,g,d,t,os⟩:=by
 induction T with
 | base=>rw[hrest];exact wpAny_pure hq
 | own hA hN hni _ ih=>
   rw[lookupAlong_cons]
   refine wpAny_bind (wpAny_classOwn_cls hA hN ?_)
   rw[hni n hn]
   exact ih
theorem K1{M:Model}{n:Str}{y:Option Value}{Q:Option Value->Shared->Prop}(hn:n∈Kz)
 (hC:h.get? C=some (excClassObj nm q C N bs bm hdct sn sub ab col dd k0 k1 k2 k3 k5 newId)) (T:Fq h bmB (.ref C::bm)) (hbm:mroOf (.type B)=pure bmB)
 (hB:typeLookup (.type B) n=pure y) (hq:Q y ⟨h,g,d,t,os⟩):wpAny M A (typeLookup (.ref C) n) Q E ⟨h,g,d,t,os⟩:=by
 have hrest:lookupAlong bmB n=pure y:=by rw[typeLookup_eq,hbm]at hB;exact hB
 rw[typeLookup_eq]
 exact wpAny_bind (wpAny_mroOf_exc hC (Ub hn T hrest hq))
theorem Aa6:typeLookup (.type "ValueError") "__class__" = pure (some (.builtin "object.__class__")):=by rw[typeLookup_type,builtinLookup_eq_fast];kernel_rfl
theorem Qi{R:Result->Shared->Prop}(hC:h.get? C=some (excClassObj nm q C N bs bm hdct sn sub ab col dd k0 k1 k2 k3 k5 newId))(hob:bm.contains (.type "object")=true)
 (hx:h.get? a=some o) (hc:o.cls = .ref C) (hq:R (.ok (.ret (.ref C))) ⟨h,g,d,t,os⟩) :
 codeAny (model prog w) A (.call (.builtin "getset_descriptor.__get__") ⟨[.builtin "object.__class__",.ref a,.ref C],[]⟩) R ⟨h,g,d,t,os⟩:=by
 have hT5:(⟨h,g,d,t,os⟩:Shared).TypeIs (.builtin "object.__class__") "getset_descriptor" :=F.typeOf_object_class
 have hcB:(Value.ref C::bm).contains (.type (".".intercalate ("object.__class__".cutAt '.').dropLast))=true:=by
  rw[F.owner_object_class,List.contains_cons,hob];rfl
 refine codeAny_call_builtin F.slot_gs_get.plain F.entry_gs_get (F.slot_gs_get.check _ _ _ _ _ _ _ _ hT5 (F.args_gs_get _ _ _) ?_)
 repeat (any_goals (first|assumption|(with_reducible refine wpAny_loadPart_at hx ?_;rw[hc])|(with_reducible refine wpAny_isSubtype_exc hC ?_;rw[hcB])|wp_step))
 refine⟨Code.quiet_builtin _ (by decide +kernel),codeAny_builtin F.entry_object_class ?_⟩
 repeat (any_goals (first|assumption|(with_reducible refine wpAny_loadPart_at hx ?_;rw[hc])|wp_step))
theorem N8{tk:Tok}{Q:Fin->Shared->Prop}(hC:h.get? C=some (excClassObj nm q C N bs bm hdct sn sub ab col dd k0 k1 k2 k3 k5 newId))(T:Fq h VE (.ref C::bm))(hob:bm.contains (.type "object")=true)
 (hx:h.get? a=some o) (hc:o.cls = .ref C) (hq:Q (.done (.ret (.ref C))) ⟨h,g,d,t,os⟩) :
 wpAny (model prog w) A (Builtin.«object.__getattribute__» ⟨[.ref a,.str "__class__" tk],[]⟩) Q E ⟨h,g,d,t,os⟩:=by
 have hT5:(⟨h,g,d,t,os⟩:Shared).TypeIs (.builtin "object.__class__") "getset_descriptor" :=F.typeOf_object_class
 have f5:=F.typeOf_object_class
 have f6:=F.slot_gs_get.lookup
 have f7:=F.slot_gs_set.lookup
 have hmA:("__class__" :Str)∈Kz:= .tail _ (.tail _ (.head _))
 repeat (any_goals (first|assumption|(with_reducible refine wpAny_loadPart_at hx ?_;rw[hc])|with_reducible refine K1 hmA hC T F.attrBase_ValueError.mro Aa6 ?_|wp_step))
 refine Qi hC hob hx hc ?_
 repeat (any_goals (first|assumption|wp_step))
theorem So{M:Model}{nameV:Value}{Q:Unit->Shared->Prop}(hC:h.get? C=some (excClassObj nm q C N bs bm hdct sn sub ab col dd k0 k1 k2 k3 k5 newId))(hbe:bm.contains (.type "BaseException")=true)
 (hx:h.get? a=some o) (hc:o.cls = .ref C) (hq:Q () ⟨h,g,d,t,os⟩):wpAny M A (checkBuiltinCall "BaseException.__getattribute__" ⟨[.ref a,nameV],[]⟩) Q E ⟨h,g,d,t,os⟩:=by
 have hk:builtinKind "BaseException.__getattribute__" = some .slot:=by decide +kernel
 have hsplit:splitId "BaseException.__getattribute__" = some ("BaseException","__getattribute__"):=by decide +kernel
 have hcB:(Value.ref C::bm).contains (.type "BaseException")=true:=by rw[List.contains_cons,hbe];rfl
 have ha:=F.args_bexc_ga (.ref a) nameV
 simp only[checkBuiltinCall,hk,hsplit]
 refine wpAny_bind ?_
 ·unfold isInstance
  repeat (first|(with_reducible refine wpAny_loadPart_at hx ?_;rw[hc])|(with_reducible refine wpAny_isSubtype_exc hC ?_;rw[hcB])|wp_step)
  exact hq
theorem Sp{tk:Tok}{fill:Bool}{Q:Value->Shared->Prop}(hC:h.get? C=some (excClassObj nm q C N bs bm hdct sn sub ab col dd k0 k1 k2 k3 k5 newId))(T:Fq h VE (.ref C::bm))(hbe:bm.contains (.type "BaseException")=true)(hob:bm.contains (.type "object")=true)
 (hx:h.get? a=some o) (hc:o.cls = .ref C) (hq:Q (.ref C) ⟨h,g,d,t,os⟩):wpAny (model prog w) A (getAttrBy (.ref a) (.str "__class__" tk) fill) Q E ⟨h,g,d,t,os⟩:=by
 have f3:=F.attrBase_ValueError.ga.bind (.ref a)
 have hx2:(Value.builtin "BaseException.__getattribute__" == Value.builtin "object.__getattribute__")=false:=by decide +kernel
 have hx1:(onTheHeap (Value.ref C)&&Value.builtin "BaseException.__getattribute__" == Value.builtin "object.__getattribute__")=false:=by rw[hx2];rfl
 have hm1:("__getattribute__" :Str)∈Kz:= .head _
 have hm2:("__getattr__" :Str)∈Kz:= .tail _ (.head _)
 repeat (any_goals (first|assumption|(with_reducible refine wpAny_loadPart_at hx ?_;rw[hc])|with_reducible refine K1 hm1 hC T F.attrBase_ValueError.mro F.attrBase_ValueError.ga.lookup ?_|with_reducible refine K1 hm2 hC T F.attrBase_ValueError.mro F.attrBase_ValueError.noGetattr ?_|wp_step))
 refine codeAny_call_builtin F.attrBase_ValueError.ga.plain F.entry_bexc_ga (So hC hbe hx hc (N8 hC T hob hx hc ?_))
 repeat (any_goals (first|assumption|wp_step))
theorem Pf{Q:Option Value->Shared->Prop}(hC:h.get? C=some (excClassObj nm q C N bs bm hdct sn sub ab col dd k0 k1 k2 k3 k5 newId))(T:Fq h VE (.ref C::bm))(hbe:bm.contains (.type "BaseException")=true)(hob:bm.contains (.type "object")=true)
 (hx:h.get? a=some o) (hc:o.cls = .ref C) (hq:Q (some (.ref C)) ⟨h,g,d,t+1,os⟩):wpAny (model prog w) A (getAttr? (.ref a) "__class__") Q E ⟨h,g,d,t,os⟩:=by
 unfold getAttr? getAttrBy?
 repeat (any_goals (first|assumption|with_reducible apply Sp hC T hbe hob hx hc|wp_step))
theorem Aa7{Q:Value->Shared->Prop}(hC:h.get? C=some (excClassObj nm q C N bs bm hdct sn sub ab col dd k0 k1 k2 k3 k5 newId))(T:Fq h VE (.ref C::bm))(hbe:bm.contains (.type "BaseException")=true)(hob:bm.contains (.type "object")=true)
 (hx:h.get? a=some o) (hc:o.cls = .ref C) (hC':h.get? C'=some (excClassObj nm' q' C' N' bs' bm' hdct' sn' sub' ab' col' dd' k0' k1' k2' k3' k5' newId'))
 (hb:(Value.ref C::bm).contains (.ref C')=false) (hq:Q (.bool false) ⟨h,g,d,t+1,os⟩):wpAny (model prog w) A (call (.builtin "isinstance") [.ref a,.ref C']) Q E ⟨h,g,d,t,os⟩:=by
 refine call_isinstance_of ?_
 unfold Builtin.«isinstance.nested»
 have z':(Value.ref C==Value.ref C')=false:=by
  rw[List.contains_cons]at hb
  have:=(Bool.or_eq_false_iff.mp hb).1
  refine beq_eq_false_iff_ne.mpr fun e=>?_
  rw[e,beq_self_eq_true]at this
  cases this
 repeat (first|(with_reducible refine wpAny_loadPart_at hx ?_;rw[hc])|with_reducible refine wpAny_loadPart_at hC' ?_|with_reducible refine wpAny_loadPart_at hC ?_|(with_reducible refine wpAny_isSubtype_exc hC ?_;rw[hb])|with_reducible refine Pf hC T hbe hob hx hc ?_|wp_step)
 exact hq
end
theorem Fq.keeps{h h':Heap}{bmB tl:List Value}(T:Fq h bmB tl)(hk:∀b o,h.get? b=some o->h'.get? b=some o):Fq h' bmB tl:=by
 induction T with
 | base=>exact .base
 | own hA hN hq _ ih=>exact .own (hk _ _ hA) (hN.keeps hk) hq ih
theorem Uc{K:Frag}{h:Heap}(X:K.In h):∀ {l:List Value},Lz K l=true->Fq h VE l
 | [],e=>by cases e
 | v::r,e=>by
   unfold Lz at e
   rcases Bool.or_eq_true_iff.mp e with q|q
   ·rw[beq_iff_eq.mp q];exact .base
   ·split at q
    ·split at q
     ·rename_i ho
      simp only[Bool.and_eq_true,List.all_eq_true,beq_iff_eq]at q
      exact .own (X _ _ ho) (.of_isNs (isNs_of_in X q.1.1)) (fun n hn=>nsMap_none_of_in X q.1.1 (q.1.2 n hn)) (Uc X q.2)
     ·cases q
    ·cases q
structure Xb(W:Wd)(h:Heap)(cc:Cn)(nm q:Str)(N:Addr)(bs bm:List Value)(hdct:Bool)(sn:List Str)(sub:List Value)(ab:Bool)(col:Option Bool)(dd:Option Addr)(k0 k1 k2 k3 k5:Option Value)(mN:Str->Option Value):Prop where
 at_:h.get? (W.cl cc)=some (excClassObj nm q (W.cl cc) N bs bm hdct sn sub ab col dd k0 k1 k2 k3 k5 "ValueError.__new__")
 ns:h.Ns N mN
 ini:mN "__init__" = none
 tail:OwnTail h VE bm
 mro:O6 W.K (W.cl cc) = .ref (W.cl cc)::bm
 tn:Fq h VE (.ref (W.cl cc)::bm)
theorem Xb.keeps{h h':Heap}{cc:Cn}{nm q:Str}{N:Addr}{bs bm:List Value}{hdct:Bool}{sn:List Str}{sub:List Value}{ab:Bool}{col:Option Bool}{dd:Option Addr}{k0 k1 k2 k3 k5:Option Value}{mN:Str->Option Value}
 (K:Xb W h cc nm q N bs bm hdct sn sub ab col dd k0 k1 k2 k3 k5 mN) (k:∀b o,h.get? b=some o->h'.get? b=some o):Xb W h' cc nm q N bs bm hdct sn sub ab col dd k0 k1 k2 k3 k5 mN:=
 ⟨k _ _ K.at_,K.ns.keeps k,K.ini,K.tail.keeps k,K.mro,K.tn.keeps k⟩
inductive Ai3(W:Wd)(h:Heap)(cc:Cn):Prop
 | mk (nm q:Str) (N:Addr) (bs bm:List Value) (hdct:Bool) (sn:List Str) (sub:List Value) (ab:Bool) (col:Option Bool) (dd:Option Addr) (k0 k1 k2 k3 k5:Option Value) (mN:Str->Option Value) (K:Xb W h cc nm q N bs bm hdct sn sub ab col dd k0 k1 k2 k3 k5 mN)
theorem K3(g:E9 W G){cc:Cn}(x:L0 W cc):Ai3 W W.b₀ cc:=by
 refine Aa fun no=>?_
 obtain⟨pp,loose,mg,mb,T⟩:=g.top
 obtain⟨bm,N,nm,q,bs,hdct,sn,sub,ab,col,dd,k0,k1,k2,k3,k5,mN,hC,hN,hni,TL⟩:=(own_of_in g.X T x.name x.own).obj
 have hm:O6 W.K (W.cl cc) = .ref (W.cl cc)::bm:=by
  have z:=x.own
  unfold excIn at z
  unfold O6
  cases e:W.K.lookup (W.cl cc)with
  | none=>rw[e]at z;cases z
  | some o=>
    have:=g.X _ _ e
    rw[hC]at this
    cases this
    rfl
 exact no ⟨nm,q,N,bs,bm,hdct,sn,sub,ab,col,dd,k0,k1,k2,k3,k5,mN,⟨hC,hN,hni,TL,hm,hm▸Uc g.X x.quiet⟩⟩
theorem Xc(R:An W h₀ env names H ρ s){cc:Cn}{v:V}{u:Value}{r:Bool}(hv:VR W v u)(e:Dp cc v H=some r) :
 (U8 fun a ob c'=>Xw (u = .ref a) (s.heap.get? a=some ob) (ob.cls = .ref (W.cl c')) (L0 W c') ((c'==cc||cc == .webError)=r)):=by
 refine Aa fun nY=>?_
 cases hv with
 | ref a=>
   refine nY ?_;clear nY
   cases ha:H a with
   | none=>rw[Zy ha]at e;cases e
   | some o=>
     rw[Ot ha]at e
     refine Aa fun nY=>?_
     cases o with
     | exc c'=>
       obtain⟨ob,h1,h2⟩:=R.objs a _ ha
       cases h2 with
       | exc z1 z2 z3 _=>(refine nY ?_;clear nY;exact⟨a,ob,c',rfl,h1,z2,z1,Option.some.inj e⟩)
     | _=>exact @nn _ _ _ e
 | _=>exact @nn _ _ _ e
theorem Aa8{e:Expr}{tn:Str}{tp:Pos}(hn:∀v p,e≠ .Starred v p):NS [e,.Name tn tp]:=fun e' he' v p' q'=>by
 rcases List.mem_cons.mp he' with rfl|he'
 ·exact hn _ _ q'
 ·rcases List.mem_cons.mp he' with rfl|he'
  ·cases q'
  ·cases he'
theorem Ads(g:E9 W G){p tp pos:Pos}{e:Expr}{x:X}(hg:c.global "isinstance" = true)(hgt:c.global "ValueError" = true)(h:SE W G n c e x)(hn:∀v p,e≠ .Starred v p) :
 SE W G n c (.Call (.Name "isinstance" p) [e,.Name "ValueError" tp] [] pos) (.isVE x):=by
 intro A env h₀ H ρ s Q E ok Y R q
 rw[Z2]at q
 refine Kn g Y R (.inl ⟨"isinstance",rfl⟩) hg (by decide) (by decide) (by kernel_rfl) (by decide) (Aa8 hn) ?_
 rw[A7 hn,A7 (fun _ _ q=>by cases q)]
 refine Calls.evalArgs_plain (Calls.spliced_cons (wpAny_mono (h ok Y R q) (fun u s' r=>?_) fun _ _ e=>e))
 obtain⟨a,H',hv,R',q'⟩:=r
 refine Calls.spliced_cons (K0 (v:= .type "ValueError") g Y R' hgt (by decide) (by decide) (by kernel_rfl) (by decide) (Calls.spliced_nil ?_))
 split at q'
 ·rename_i ei
  obtain⟨b,ob,c',rfl,h1,h2,h3,_⟩:=Xc R' hv ei
  obtain⟨nm,qq,N,bs,bm,hdct,sn,sub,ab,col,dd,k0,k1,k2,k3,k5,mN,K⟩:=K3 g h3
  replace K:=K.keeps (R'.keepB Y)
  obtain⟨hh,gg,d,tk,os⟩:=s'
  exact Aa5 K.at_ h1 h2 (K.tail.hasType (by decide)) (Be.mk (.bool _) R' q')
 ·exact q'.elim
theorem Aa9(g:E9 W G){cc:Cn}{tn:Str}{p tp pos:Pos}{e:Expr}{x:X}(ht:Hr tn=some cc)(hg:c.global "isinstance" = true)(hgt:c.global tn=true)(h:SE W G n c e x)(hn:∀v p,e≠ .Starred v p) :
 SE W G n c (.Call (.Name "isinstance" p) [e,.Name tn tp] [] pos) (.isown cc x):=by
 intro A env h₀ H ρ s Q E ok Y R q
 rw[Sc]at q
 obtain⟨hG,q⟩:=q
 have xo:=g.exc cc hG
 have hd:(tn==("__debug__" :Str))=false:=(by decide:∀p∈Mw,(p.1==("__debug__" :Str))=false) (tn,cc) (El ht)
 refine Kn g Y R (.inl ⟨"isinstance",rfl⟩) hg (by decide) (by decide) (by kernel_rfl) (by decide) (Aa8 hn) ?_
 rw[A7 hn,A7 (fun _ _ q=>by cases q)]
 refine Calls.evalArgs_plain (Calls.spliced_cons (wpAny_mono (h ok Y R q) (fun u s' r=>?_) fun _ _ e=>e))
 refine Aa fun nY=>?_
 obtain⟨a,H',hv,R',q'⟩:=r
 refine nY ?_;clear nY
 refine Calls.spliced_cons (C8 g Y R' hgt hd (Ly ht▸xo.name) (Calls.spliced_nil ?_))
 refine Aa fun nY=>?_
 split at q'
 ·rename_i r ei
  obtain⟨b,ob,c',rfl,h1,h2,h3,h5⟩:=Xc R' hv ei
  have h4:=g.sub c' cc h3 xo
  rw[h5]at h4
  obtain⟨nm,qq,N,bs,bm,hdct,sn,sub,ab,col,dd,k0,k1,k2,k3,k5,mN,K⟩:=K3 g h3
  replace K:=K.keeps (R'.keepB Y)
  obtain⟨nm',qq',N',bs',bm',hdct',sn',sub',ab',col',dd',k0',k1',k2',k3',k5',mN',K'⟩:=K3 g xo
  replace K':=K'.keeps (R'.keepB Y)
  obtain⟨hh,gg,d,tk,os⟩:=s'
  rw[K.mro]at h4
  cases r with
  | true=>(refine nY ?_;clear nY;exact Yd K.at_ h1 h2 K'.at_ h4 (Be.mk (.bool _) R' q'))
  | false=>(refine nY ?_;clear nY;exact Aa7 K.at_ K.tn (K.tail.hasType (by decide)) (K.tail.hasType (by decide)) h1 h2 K'.at_ h4 (Be.mk (.bool _) (R'.toks _) q'))
 ·exact q'.elim
theorem Ago{l:List Value}:∀ {a:Int},(∀(j:Nat) v,l[j]? = some v->∃t,v = .int (a+j) t)->Cv W ((List.range l.length).map fun(i:Nat)=>V.int (a+i)) l:=by
 induction l with
 | nil=>intro a h;exact .nil
 | cons x l ih=>
   intro a h
   obtain⟨t,rfl⟩:=h 0 x rfl
   rw[List.length_cons,List.range_succ_eq_map,List.map_cons,List.map_map]
   refine .cons (.int _ _) ?_
   rw[show ((fun(i:Nat)=>V.int (a+i))∘Nat.succ)=fun(i:Nat)=>V.int (a+1+i)from funext fun i=>congrArg V.int (by show a+((i+1:Nat):Int)=a+1+(i:Int);omega)]
   exact ih fun j v hj=>by
    obtain⟨t,e⟩:=h (j+1) v hj
    exact⟨t,by rw[e];congr 1;omega⟩
theorem Vy{a:Int}{k:Nat}{acc:Array Value}(h:ItemsOf (fun i v=>∃t,v = .int (a+i*1) t) acc k):Cv W ((List.range k).map fun(i:Nat)=>V.int (a+i)) acc.toList:=by
 have:=Ago (W:=W) (l:=acc.toList) (a:=a) fun j v hj=>by
  obtain⟨t,e⟩:=h.2 j v (by rw[<-Array.getElem?_toList];exact hj)
  exact⟨t,by rw[e,Int.mul_one]⟩
 rw[Array.length_toList,h.1]at this
 exact this
end Mine.Internal
namespace Mine.Internal
open PySem PySem.W PyProof.Rows
variable {W:Wd} {G:A5} {A:Around} {h₀:HB} {env:Env} {c:Cx} {names:List Str} {H H':AH} {ρ ρ':Al} {s s':Shared} {E:Value->Shared->Prop} {n:Nat} {Q:Ak} {Er:EP}
noncomputable def Xd(env:Env)(H:AH)(k:Nat):List Addr:=(List.range k).filter fun a=>(H a).isSome||a==env.locals||env.cells.any fun p=>p.2==a
noncomputable def prot(env:Env)(fs:List Addr)(H:AH)(h:Heap):HB:=⟨hideAll h (Xd env H h.objs.size),fs⟩
theorem Rf{k:Nat}{a:Addr}:a∈Xd env H k↔a<k/\((∃o,H a=some o)\/a=env.locals\/∃p∈env.cells,p.2=a):=by
 unfold Xd
 rw[List.mem_filter,List.mem_range]
 simp only[Bool.or_eq_true,beq_iff_eq,List.any_eq_true,or_assoc,Option.isSome_iff_exists]
theorem B6{fs:List Addr}{h:Heap}{a:Addr}{o:Obj}(e:h.get? a=some o)(h1:H a=none)(h2:a≠env.locals)(h3:∀p∈env.cells,p.2≠a):(prot env fs H h).get? a=some o:=
 hideAll_get _ e fun q=>by
  rcases(Rf.mp q).2 with⟨o,e⟩|e | ⟨p,hp,e⟩
  ·rw[h1]at e;cases e
  ·exact h2 e
  ·exact h3 p hp e
theorem Ft{fs:List Addr}{h:Heap}{a:Addr}{o:Obj}(e:(prot env fs H h).get? a=some o):h.get? a=some o:=of_hideAll _ e
theorem Cq{fs:List Addr}{h:Heap}{a:Addr}(hx:(∃o,H a=some o)\/a=env.locals\/∃p∈env.cells,p.2=a):(prot env fs H h).get? a=none:=by
 cases q:(prot env fs H h).get? a with
 | none=>rfl
 | some o=>
   have:=hideAll_none (h:=h) _ (Rf.mpr ⟨Heap.lt_size (Ft q),hx⟩)
   replace q:(hideAll h (Xd env H h.objs.size)).get? a=some o:=q
   rw[this]at q;cases q
theorem A9{cs:List (Str×Addr)}{x:Str}{a:Addr}(h:cs.lookup x=some a):∃p∈cs,p.2=a:=by
 induction cs with
 | nil=>cases h
 | cons p r ih=>
   obtain⟨y,b⟩:=p
   rw[List.lookup_cons]at h
   split at h
   ·cases h;exact⟨_,.head _,rfl⟩
   ·obtain⟨p,h1,h2⟩:=ih h;exact⟨p,.tail _ h1,h2⟩
theorem An.prot(R:An W h₀ env names H ρ s):An W (prot env h₀.fs H s.heap) env names H ρ s where
 ns:=R.ns
 cell:=R.cell
 keep:= .of fun _ _ e=>Ft e
 objs:=R.objs
 sep:=fun a o e=>⟨Cq (.inl ⟨o,e⟩),(R.sep a o e).2⟩
 gens:=R.gens
 os:=R.os
 above:=R.above
 low:=R.low
theorem An.in_prot(R:An W h₀ env names H ρ s)(Y:Ai W env c h₀):Gm W h₀ (Mine.Internal.prot env h₀.fs H s.heap).h:=fun b o e=>
 let ⟨o',e1,z⟩:=R.keep b o e;⟨o',B6 e1 (by cases q:H b with
  | none=>rfl
  | some x=>rw[(R.sep b x q).1]at e;cases e) (fun q=>by rw[q,Y.new]at e;cases e) (fun p hp q=>by have:=Y.newc p hp;rw[q,e]at this;cases this),z⟩
theorem Ai.prot(Y:Ai W env c h₀)(R:An W h₀ env names H ρ s):Ai W env c (Mine.Internal.prot env h₀.fs H s.heap) where
 kind:=Y.kind
 globals:=Y.globals
 builtins:=Y.builtins
 kinds:=Y.kinds
 frees:=Y.frees
 cells:=Y.cells
 apart:=Y.apart
 inj:=Y.inj
 base:=fun b o e=>B6 (R.keepB Y b o e)
  (by cases q:H b with
      | none=>rfl
      | some x=>have:=(R.sep b x q).1;rw[Y.base b o e]at this;cases this)
  (fun q=>absurd (Heap.lt_size e) (Nat.not_lt.mpr (q▸R.above)))
  (fun p hp q=>by have:=Y.newc p hp;rw[q,Y.base b o e]at this;cases this)
 new:=Cq (.inr (.inl rfl))
 fsok:=fun L m q=>Y.fsok L m ((R.in_prot Y).none q)
 fsd:=fun L m=>⟨(Y.fsd L m).1,fun o e=>by obtain⟨o',e1,z⟩:=R.fsd Y m;rw[Ft e]at e1;cases e1;exact z⟩
 newc:=fun p hp=>Cq (.inr (.inr ⟨p,hp,rfl⟩))
 look:=Y.look
 lo:=Y.lo
theorem An.sub(R:An W h₀ env names H ρ s){h₁:HB}(k:Gm W h₁ h₀.h)(hf:∀b o,h₁.get? b=some o->b∈h₀.fs->b∈h₁.fs):An W h₁ env names H ρ s where
 ns:=R.ns
 cell:=R.cell
 keep:=k.trans hf R.keep
 objs:=R.objs
 sep:=fun a o e=>by
  exact⟨k.none (R.sep a o e).1,(R.sep a o e).2⟩
 gens:=R.gens
 os:=R.os
 above:=R.above
 low:=R.low
theorem An.unprot(R:An W h₀ env names H ρ s)(Y:Ai W env c h₀){names':List Str}(R':An W (Mine.Internal.prot env h₀.fs H s.heap) env names' H' ρ' s'):An W h₀ env names' H' ρ' s':=R'.sub (R.in_prot Y) fun _ _ _ m=>m
theorem An.over(R:An W h₀ env names H ρ s)(Y:Ai W env c h₀)(x:Agc A h₀.h):(U8 fun e oe vs=>An7 (A.handled=some (.ref e)) (s.heap.get? e=some oe) (oe.data = .fields vs) (vs[2]? = some .none) (H e=none) (e≠env.locals) (∀p∈env.cells,p.2≠e)):=by
 refine Aa fun nY=>?_
 obtain⟨e,oe,vs,x1,x2,x3,x4⟩:=x
 have x2:h₀.get? e=some oe:=x2
 refine nY ?_;clear nY
 refine⟨e,oe,vs,x1,R.keep.exact x2 (.inl fun m=>(Y.fsd e m).2 oe x2 vs x3),x3,x4,?_,fun z=>?_,fun p hp z=>?_⟩
 ·cases q:H e with
  | none=>rfl
  | some w=>have:=(R.sep e w q).1;rw[x2]at this;cases this
 ·have:=Y.new;rw[<-z,x2]at this;cases this
 ·have:=Y.newc p hp;rw[z,x2]at this;cases this
theorem Ms.prot(ok:Ms A c h₀ env n)(Y:Ai W env c h₀)(R:An W h₀ env names H ρ s):Ms A c (Mine.Internal.prot env h₀.fs H s.heap) env n:=⟨ok.handled,ok.room,ok.units,ok.stk,fun h=>(let ⟨e,oe,vs,x1,x2,x3,x4,x5,x6,x7⟩:=R.over Y (ok.over h);⟨e,oe,vs,x1,B6 x2 x5 x6 x7,x3,x4⟩),ok.top⟩
theorem EM.unprot(R:An W h₀ env names H ρ s)(Y:Ai W env c h₀){names':List Str}{v:Value}(x:EM W (Mine.Internal.prot env h₀.fs H s.heap) env names' ρ' Er v s'):EM W h₀ env names' ρ' Er v s':=by
 obtain⟨fl,e,H',cc,k,hv,R',he,⟨oe,vs,a0,t1,t2,t3,t4⟩,q⟩:=x
 refine⟨fl,e,H',cc,k,hv,R.unprot Y R',he,⟨oe,vs,a0,t1,t2,t3,?_⟩,q⟩
 cases fl with
 | none=>exact t4
 | some y=>
   obtain⟨T,oT,ts,g1,g2,g3,g4,g5,g6⟩:=t4
   exact⟨T,oT,ts,g1,g2,g3,g4,g5,fun b hb=>let ⟨a1,a2,a3,a4⟩:=g6 b hb;⟨a1,(R.in_prot Y).none a2,a3,a4⟩⟩
theorem Be.unprot(R:An W h₀ env names H ρ s)(Y:Ai W env c h₀){names':List Str}{v:Value}(r:Be W (Mine.Internal.prot env h₀.fs H s.heap) env names' ρ' Q v s'):Be W h₀ env names' ρ' Q v s':=
 let ⟨a,H',h1,h2,h3⟩:=r;⟨a,H',h1,R.unprot Y h2,h3⟩
theorem stays{a:Addr}{o:Obj}(e:s.heap.get? a=some o)(h1:H a=none)(h2:a≠env.locals)(h3:∀p∈env.cells,p.2≠a)(hx:a∉h₀.fs){names':List Str}(R':An W (Mine.Internal.prot env h₀.fs H s.heap) env names' H' ρ' s'):s'.heap.get? a=some o:=
 R'.keep.exact (B6 e h1 h2 h3) (.inl hx)
/-! objects made by displays -/
theorem Adt{es:List Expr}{xs:List X}{p:Pos}(hs:Vw W G n c es xs)(hl:es.length<100):SE W G n c (.List es p) (.list xs):=by
 intro A env h₀ H ρ s Q E ok Y R q
 simp only[Jb,Jc,Jd,Je,Jf,Jg,Jh,Ji,Jj,Jk,Jl,Jm,Jn,Jo,Bx,Jp,Jq,Jr,Js,Jt,Av,Dc,Bc,Ar,Ju,Jv,A3,Bb]at q
 refine List_ (wpAny_mono (hs ok Y R q) (fun us s' r=>?_) fun _ _ e=>e)
 obtain⟨as,H',hv,hl',R',q'⟩:=r
 exact wpAny_newList (Be.mk (.ref _) (R'.push (.list hv (by simp only[Bs];exact Aih hl hl')) rfl _) (q' _ R'.fresh)) (hsz:=by rw[<-hv.length];simp only[sizeLine];exact Aii hl hl')
theorem Aba{es:List Expr}{xs:List X}{k:Nat}{p:Pos}(hs:Vw W G n c es xs)(hl:es.length<100):SE W G n c (.Tuple es k p) (.tuple xs):=by
 intro A env h₀ H ρ s Q E ok Y R q
 simp only[Jb,Jc,Jd,Je,Jf,Jg,Jh,Ji,Jj,Jk,Jl,Jm,Jn,Jo,Bx,Jp,Jq,Jr,Js,Jt,Av,Dc,Bc,Ar,Ju,Jv,A3,Bb]at q
 refine Tuple_ (wpAny_mono (hs ok Y R q) (fun us s' r=>?_) fun _ _ e=>e)
 refine Aa fun nY=>?_
 obtain⟨as,H',hv,hl',R',q'⟩:=r
 refine nY ?_;clear nY
 exact wpAny_newTuple (Be.mk (.ref _) (R'.push (.tuple hv (by simp only[Bs];exact Aih hl hl')) rfl _) (q' _ R'.fresh)) (hsz:=by rw[<-hv.length];simp only[sizeLine];exact Aii hl hl')
theorem Adu(g:E9 W G){o:Expr}{x:X}{a:C9}{an:Str}{p:Pos}(hb:Ie o=true)(ha:Nk an=some a)(h:SE W G n c o x):SE W G n c (.Attribute o an p) (.attr x a):=by
 intro A env h₀ H ρ s Q E ok Y R q
 simp only[Jb,Jc,Jd,Je,Jf,Jg,Jh,Ji,Jj,Jk,Jl,Jm,Jn,Jo,Bx,Jp,Jq,Jr,Js,Jt,Av,Dc,Bc,Ar,Ju,Jv,A3,Bb]at q
 have hname:an=A4 a:=by
  delta Nk at ha
  repeat' split at ha
  all_goals first
   | (rename_i z;simp only[beq_iff_eq]at z;cases ha;exact z)
   | cases ha
 subst hname
 refine Attribute_any_ (wpAny_mono (h ok Y R q) (fun v s' r=>?_) fun _ _ e=>e) (by rw[arm_eval_Attribute,Sl hb])
 refine Aa fun nY=>?_
 obtain⟨ov,H',hv,R',q'⟩:=r
 refine nY ?_;clear nY
 exact Qf Y g.X g.inst R' hv q'
theorem Abb(Y:Ai W env c h₀)(R:An W h₀ env names H ρ s){a b:V}{u:Value}(hu:VR W a u)(q:D4 a b H Q):(Ka fun T id=>s.TypeIs u T/\typeLookup (.type T) "__getitem__" = pure (some (.builtin id))):=by
 apply Aaf q
 intro k q
 induction hu with
 | ref a=>
   dsimp only at q
   refine Aa fun nY=>?_
   split at q
   ·rename_i xs e
    obtain⟨l,h,_⟩:=R.isList e
    refine nY ?_;clear nY
    exact⟨_,_,h.typeIs,slot_list_getitem.lookup⟩
   ·rename_i xs e
    obtain⟨l,h,_⟩:=R.isTup e
    refine nY ?_;clear nY
    exact⟨_,_,h.typeIs,slot_tuple_getitem.lookup⟩
   ·rename_i xs e
    obtain⟨l,h,_⟩:=R.isDict e
    refine nY ?_;clear nY
    exact⟨_,_,h.typeIs,slot_dict_getitem.lookup⟩
   ·exact q.elim
 | script=>
   refine Aa fun nY=>?_
   obtain⟨l,h,_⟩:=R.script Y
   refine nY ?_;clear nY
   exact⟨_,_,h.typeIs,slot_list_getitem.lookup⟩
 | _=>exact False.elim q
noncomputable def Pg:Expr->Bool
 | .Slice .. =>false
 | _=>true
theorem L4{e:Expr}(h:Pg e=true)(o i:Value):subscripted e false o i=operate [o,i] (getItem o i):=by
 cases e<;>first|rfl|cases h
theorem Agp{o i:Expr}{x y:X}{p:Pos}(hi:Pg i=true)(h:SE W G n c o x)(h2:SE W G n c i y):SE W G n c (.Subscript o i p) (.sub x y):=by
 intro A env h₀ H ρ s Q E ok Y R q
 simp only[Jb,Jc,Jd,Je,Jf,Jg,Jh,Ji,Jj,Jk,Jl,Jm,Jn,Jo,Bx,Jp,Jq,Jr,Js,Jt,Av,Dc,Bc,Ar,Ju,Jv,A3,Bb]at q
 refine Subscript_ (wpAny_mono (h ok Y R q) (fun v s' r=>?_) fun _ _ e=>e)
 refine Aa fun nY=>?_
 obtain⟨a,H',hv,R',q'⟩:=r
 refine nY ?_;clear nY
 refine wpAny_mono (h2 ok Y R' q') (fun v2 s2 r=>?_) fun _ _ e=>e
 refine Aa fun nY=>?_
 obtain⟨b,H2,hv2,R2,q2⟩:=r
 obtain⟨T,id,t1,t2⟩:=Abb Y R2 hv q2
 refine nY ?_;clear nY
 exact tail_any t1 t2 (T3 Y R2 hv hv2 q2) (L4 hi _ _)
noncomputable def SO(W:Wd)(G:A5)(n:Nat)(c:Cx)(e:Option Expr)(x:X):Prop:=
 ∀ {A:Around} {env:Env} {h₀:HB} {H:AH} {ρ:Al} {s:Shared} {Q:Ak} {E:EP},Ms A c h₀ env n->Ai W env c h₀->An W h₀ env c.names H ρ s->Aq G (Ae G n) x ρ H Q E->
  wpAny W.M A (valueOrNone (evalOpt e env)) (Be W h₀ env c.names ρ Q) (EM W h₀ env c.names ρ E) s
theorem Adv:SO W G n c none .omit:=by
 intro A env h₀ H ρ s Q E ok Y R q
 exact wpAny_pure (Be.mk .none R q)
theorem Adw{e:Expr}{x:X}(h:SE W G n c e x):SO W G n c (some e) x:=by
 intro A env h₀ H ρ s Q E ok Y R q
 exact h ok Y R q
theorem Vz(R:An W h₀ env names H ρ s){a l u st:V}{v:Value}(hu:VR W a v)(q:Ce a l u st H Q):(Ka fun T id=>s.TypeIs v T/\typeLookup (.type T) "__getitem__" = pure (some (.builtin id))):=by
 induction hu with
 | ref a=>
   replace q:R8 a l u st H Q:=q
   refine Ch q fun _ _ q=>?_
   refine Ch q fun _ _ q=>?_
   refine Eh q fun xs e q=>?_
   obtain⟨l,h,_⟩:=R.isList e
   exact⟨_,_,h.typeIs,slot_list_getitem.lookup⟩
 | _=>exact False.elim q
theorem L5(l u st:Option Expr)(p:Pos)(o i:Value):∃ops,subscripted (.Slice l u st p) false o i=operate ops (getItem o i):=by
 cases st
 ·exact⟨[i,o],rfl⟩
 ·exact⟨[o,i],rfl⟩
theorem Abc{o:Expr}{l u st:Option Expr}{x xl xu xs:X}{p p2:Pos}(h:SE W G n c o x)(hl:SO W G n c l xl)(hu:SO W G n c u xu)(hs:SO W G n c st xs):SE W G n c (.Subscript o (.Slice l u st p2) p) (.slice x xl xu xs):=by
 intro A env h₀ H ρ s Q E ok Y R q
 simp only[Jb,Jc,Jd,Je,Jf,Jg,Jh,Ji,Jj,Jk,Jl,Jm,Jn,Jo,Bx,Jp,Jq,Jr,Js,Jt,Av,Dc,Bc,Ar,Ju,Jv,A3,Bb]at q
 refine Subscript_ (wpAny_mono (h ok Y R q) (fun v s' r=>?_) fun _ _ e=>e)
 refine Aa fun nY=>?_
 obtain⟨a,H',hv,R',q'⟩:=r
 refine nY ?_;clear nY
 rw[arm_eval_Slice]
 refine wpAny_bind (wpAny_mono (hl ok Y R' q') (fun v2 s2 r=>?_) fun _ _ e=>e)
 refine Aa fun nY=>?_
 obtain⟨b,H2,hv2,R2,q2⟩:=r
 refine nY ?_;clear nY
 refine wpAny_bind (wpAny_holding (wpAny_mono (hu ok Y R2 q2) (fun v3 s3 r=>?_) fun _ _ e=>e))
 refine Aa fun nY=>?_
 obtain⟨d,H3,hv3,R3,q3⟩:=r
 refine nY ?_;clear nY
 refine wpAny_bind (wpAny_holding (wpAny_mono (hs ok Y R3 q3) (fun v4 s4 r=>?_) fun _ _ e=>e))
 refine Aa fun nY=>?_
 obtain⟨f,H4,hv4,R4,q4⟩:=r
 refine nY ?_;clear nY
 refine fun _ _ _=>?_
 have R5:=R4.pushHid {cls:= .type "slice",data:= .fields #[v2,v3,v4]} s4.toks
 refine Aa fun nY=>?_
 obtain⟨ops,e⟩:=L5 l u st p2 v (.ref s4.heap.objs.size)
 obtain⟨T,id,t1,t2⟩:=Vz R5 hv q4
 refine nY ?_;clear nY
 exact tail_any (E:=EM W h₀ env c.names ρ E) t1 t2 (Qd Y R5 hv hv2 hv3 hv4 ⟨_,Heap.get?_push_size _ rfl,rfl,rfl⟩ q4) e
theorem Abd{p:Pos}:SE W G n c (.Dict [] [] p) (.dict [] []):=by
 intro A env h₀ H ρ s Q E ok Y R q
 simp only[Jb,Jc,Jd,Je,Jf,Jg,Jh,Ji,Jj,Jk,Jl,Jm,Jn,Jo,Bx,Jp,Jq,Jr,Js,Jt,Av,Dc,Bc,Ar,Ju,Jv,A3,Bb]at q
 obtain⟨m,F⟩:=R.kitF Y
 refine Dict_empty_made (intKind W.prog W.w) PyData.int F X3 Y.lo fun h' o F' N' hm hd hf hne=>?_
 have z:=Of (t:=s.toks) R Y F F' N' (Nat.le_refl _) (OR.dict (W:=W) .nil (by simp) hd)
 exact Be.mk (.ref _) z.2 (q _ z.1)
theorem Rg(Y:Ai W env c h₀)(R:An W h₀ env names H ρ s){a:Addr}(hn:s.heap.get? a=none):∀p∈env.cells,p.2≠a:=fun p hp q=>by
 obtain⟨w,⟨o,h,_⟩,_⟩:=R.cell p.1 p.2 (Y.look p hp)
 rw[q,hn]at h;cases h
theorem An.swap(R:An W h₀ env names H ρ s){h':Heap}{a:Addr}(t:Nat)(k:Heap.SameBut a s.heap h')(h1:H a=none)(h2:h₀.get? a=none)(h3:a≠env.locals)(h4:∀x,env.cells.lookup x≠some a):An W h₀ env names H ρ {s with heap:=h',toks:=t} where
 ns:=let ⟨m,x,b⟩:=R.ns;⟨m,x.sameBut k (Ne.symm h3),b⟩
 cell:=fun x b e=>let ⟨w,⟨o,ho,hd⟩,r⟩:=R.cell x b e;⟨w,⟨o,(k.2 b fun q=>h4 x (q▸e)).trans ho,hd⟩,r⟩
 keep:=fun b o e=>let ⟨o',e1,z⟩:=R.keep b o e;⟨o',(k.2 b fun q=>by rw[q,h2]at e;cases e).trans e1,z⟩
 objs:=fun b o e=>let ⟨ob,g1,g2⟩:=R.objs b o e;⟨ob,(k.2 b fun q=>by rw[q,h1]at e;cases e).trans g1,g2⟩
 sep:=R.sep
 gens:=R.gens
 os:=R.os
 above:=R.above
 low:=R.low
theorem Abe{k v:Expr}{x y:X}{p:Pos}(h:SE W G n c k x)(h2:SE W G n c v y):SE W G n c (.Dict [some k] [v] p) (.dict [x] [y]):=by
 intro A env h₀ H ρ s Q E ok Y R q
 simp only[Jb,Jc,Jd,Je,Jf,Jg,Jh,Ji,Jj,Jk,Jl,Jm,Jn,Jo,Bx,Jp,Jq,Jr,Js,Jt,Av,Dc,Bc,Ar,Ju,Jv,A3,Bb]at q
 have R0:=R.pushHid {cls:= .type "dict",data:= .dict #[]} s.toks
 refine Aa fun nY=>?_
 obtain⟨f1,f2,f3,f4,f5⟩:=R.new_sep (B5 _) R.up
 have f6:=Rg Y R (B5 _)
 have hget:(s.heap.push {cls:= .type "dict",data:= .dict #[]}).get? s.heap.objs.size=some {cls:= .type "dict",data:= .dict #[]}:=Heap.get?_push_size _ rfl
 have RP:=R0.prot
 have YP:=Y.prot R0
 refine nY ?_;clear nY
 refine wpAny_Dict_walk (knd:=intKind W.prog W.w) rfl rfl (by simp) (by simp) ?_
 show wpAny W.M A (evalPairs [(eval k env,do let x <-eval v env;standAt p;pure x)]) _ _ _
 unfold evalPairs
 refine wpAny_bind (wpAny_mono (h (ok.prot Y R0) YP RP q) (fun u1 s1 r=>?_) fun _ _ e=>EM.unprot R0 Y e)
 refine Aa fun nY=>?_
 obtain⟨a,H1,hv1,R1,q1⟩:=r
 refine nY ?_;clear nY
 refine wpAny_bind (wpAny_holding (wpAny_bind (wpAny_mono (h2 (ok.prot Y R0) YP R1 q1) (fun u2 s2 r=>wpAny_bind (wpAny_standAt (wpAny_pure ?_))) fun _ _ e=>EM.unprot R0 Y e)))
 refine Aa fun nY=>?_
 obtain⟨b,H2,hv2,R2,q2⟩:=r
 refine nY ?_;clear nY
 refine wpAny_bind (wpAny_holding ?_)
 unfold evalPairs
 refine wpAny_pure (wpAny_pure ?_)
 have hd:s2.heap.get? s.heap.objs.size=some {cls:= .type "dict",data:= .dict #[]}:=stays hget f1 f3 f6 (fun m=>Y.fsok _ m f2) R2
 induction hv1 with
 | @int i t=>
   refine⟨[(i,u2)],⟨by simp[intKind,Value.isInt],rfl,trivial⟩,?_,fun h' hd' hk=>?_⟩
   ·refine Aa fun nY=>?_
    obtain⟨o,es,ep,z1,z2⟩:=Heap.DictOf.new (knd:=intKind W.prog W.w) s.heap
    rw[hget]at z1
    cases z1
    refine nY ?_;clear nY
    exact⟨_,es,ep,hd,z2⟩
   ·have R3:=R0.unprot Y R2
    refine Aa fun nY=>?_
    obtain⟨ob,es,ep,g1,g2⟩:=hd'
    have s1:H2 s.heap.objs.size=none:=by
     cases q:H2 s.heap.objs.size with
     | none=>rfl
     | some o=>have:=(R2.sep _ _ q).1;rw[B6 hget f1 f3 f6]at this;cases this
    have R4:=(R3.swap (s2.toks+1) hk s1 f2 f3 f4).add g1 (.dict (es:=[(i,b)]) (.cons hv2 .nil) (by simp[Bs]) ⟨es,ep,g2⟩) s1 f2 f3 f4 f5
    refine nY ?_;clear nY
    exact Be.mk (.ref _) R4 (q2 _ s1)
 | _=>exact False.elim q2
end Mine.Internal
namespace Mine.Internal
open PySem PySem.W PyProof.Rows
variable {W:Wd} {G:A5} {A:Around} {h₀:HB} {env:Env} {c:Cx} {names:List Str} {H H':AH} {ρ ρ':Al} {s s':Shared} {E:Value->Shared->Prop} {n:Nat} {Q:Ak} {Er:EP}
theorem ns1{e:Expr}(h:∀v p,e≠ .Starred v p):NS [e]:=fun e' he' v p' q'=>by
 rcases List.mem_cons.mp he' with rfl|he'
 ·exact h _ _ q'
 ·cases he'
theorem Ko(ok:Ms A c h₀ env n)(hf:c.hnd=false\/c.ovr=true)(Y:Ai W env c h₀)(R:An W h₀ env names H ρ s){r:Addr}{a b:Int}{t u v:Tok}(hr:IsRange s.heap r a b 1 t u v)(h1:0<=a)(h2:a<=Bs)(h3: -(Bs:Int)<=b)(h4:b<=Bs)
 (q:Ao (.list ((List.range (b-a).toNat).map fun(i:Nat)=>V.int (a+i))) H Q):wpAny W.M A (call (.type "list") [.ref r]) (Be W h₀ env names ρ Q) E s:=by
 have b1:Bs=1048576:=rfl
 have fin:∀h' tk acc' c',(∀b o,s.heap.get? b=some o->h'.get? b=some o)->h'.get? s.heap.objs.size=some {cls:= .type "list",dict:=none,data:= .seq acc' c',slots:= #[]} ->
  ItemsOf (fun i v=>∃t,v = .int (a+i*1) t) acc' (b-a).toNat->Be W h₀ env names ρ Q (.ref s.heap.objs.size) {s with heap:=h',toks:=tk}:=fun h' tk acc' c' hk e hacc=>by
  have hc:Cv W ((List.range (b-a).toNat).map fun(i:Nat)=>V.int (a+i)) acc'.toList:=Vy hacc
  have R':=R.put (h':=h') (a:=s.heap.objs.size) (o:= .list ((List.range (b-a).toNat).map fun(i:Nat)=>V.int (a+i))) tk hk e (.list hc (by simp;(first|lia|omega))) (B5 _) fun _ _=>R.up
  exact Be.mk (.ref _) R' (q _ R.fresh)
 have hs:=small_one (a:=a) (b:=b) (by(first|lia|omega)) (by(first|lia|omega)) (by(first|lia|omega)) (by(first|lia|omega))
 rcases hf with hf|hf
 ·exact call_list_range (ok.handled hf) hr hs (rangeSize_nat a b) (by(first|lia|omega)) fin
 ·obtain⟨e,oe,vs,x1,x2,x3,x4,_⟩:=R.over Y (ok.over hf)
  exact N5 x1 x2 x3 x4 hr hs (rangeSize_nat a b) (by(first|lia|omega)) fin
theorem L6(g:E9 W G)(hf:c.hnd=false\/c.ovr=true){p rp pos pos':Pos}{es:List Expr}{xs:List X}(hg:c.global "list" = true)(hgr:c.global "range" = true)(hs:Vw W G n c es xs)(hn:NS es) :
 SE W G n c (.Call (.Name "list" p) [.Call (.Name "range" rp) es [] pos'] [] pos) (.bi .listRange xs):=by
 intro A env h₀ H ρ s Q E ok Y R q
 simp only[Jb,Jc,Jd,Je,Jf,Jg,Jh,Ji,Jj,Jk,Jl,Jm,Jn,Jo,Bx,Jp,Jq,Jr,Js,Jt,Av,Dc,Bc,Ar,Ju,Jv,A3,Bb]at q
 refine Kn g Y R (.inr ⟨"list",rfl⟩) hg (by decide) (by decide) (by kernel_rfl) (by decide) (ns1 fun _ _ q=>by cases q) ?_
 rw[A7 (fun _ _ q=>by cases q)]
 refine Calls.evalArgs_plain (Calls.spliced_cons ?_)
 refine Kn g Y R (.inr ⟨"range",rfl⟩) hgr (by decide) (by decide) (by kernel_rfl) (by decide) hn (En hs hn ok Y R q fun as us H' s' hv R' q'=>?_)
 replace q':Ah8 as H' Q:=q'
 have b1:Bs=1048576:=rfl
 cases hv with
 | nil=>exact False.elim q'
 | cons hu t=>cases t with
   | nil=>
     apply Au hu q';intro k t q'
     refine call_range_1 (Calls.spliced_nil ?_)
     have R2:=R'.pushHid {cls:= .type "range",data:= .fields #[.int 0 s'.toks,.int k t,.int 1 (s'.toks+1)]} (s'.toks+1+1)
     refine Ko (a:=0) (b:=k) ok hf Y R2 (Heap.get?_push_size _ rfl) (by(first|lia|omega)) (by(first|lia|omega)) q'.1.1 q'.1.2 ?_
     simpa using q'.2
   | cons hu2 t=>cases t with
     | nil=>
       apply Au hu q';intro m t q';apply Au hu2 q';intro k t2 q'
       refine call_range_2 (Calls.spliced_nil ?_)
       have R2:=R'.pushHid {cls:= .type "range",data:= .fields #[.int m t,.int k t2,.int 1 s'.toks]} (s'.toks+1)
       have:=q'.1
       exact Ko (a:=m) (b:=k) ok hf Y R2 (Heap.get?_push_size _ rfl) this.1 this.2.1 this.2.2.1 this.2.2.2 q'.2
     | cons=>exact False.elim q'
theorem V0(g:E9 W G){p pos:Pos}{e:Expr}{x:X}(hg:c.global "sorted" = true)(h:SE W G n c e x)(hn:∀v p,e≠ .Starred v p):SE W G n c (.Call (.Name "sorted" p) [e] [] pos) (.bi .sortedL [x]):=by
 intro A env h₀ H ρ s Q E ok Y R q
 rw[Jo]at q
 refine Kn g Y R (.inl ⟨"sorted",rfl⟩) hg (by decide) (by decide) (by kernel_rfl) (by decide) (ns1 hn) (En (T8 h Xa hn) (ns1 hn) ok Y R q fun as us H' s' hv R' q'=>?_)
 replace q':R9 as H' Q:=q'
 apply Kl hv q';intro v u hu q';apply Bo hu q';intro a q'
 refine Eh q' fun xs e q'=>Ch q' fun ns e2 q'=>?_
 obtain⟨l1,h1,r1,z1⟩:=R'.isList e
 obtain⟨m,F⟩:=R'.kitF Y
 exact Nn Y R' F h1 r1 z1 e2 q'
noncomputable def Sq:LM->Str
 | .append=> "append" | .clear=> "clear" | .count=> "count" | .extend=> "extend" | .index=> "index" | .remove=> "remove" | .reverse=> "reverse" | .setdefault=> "setdefault"
theorem Adx{x:Str}{m:LM}(h:Ac6 x=some m):x=Sq m:=
 (by decide:∀p∈W1,p.1=Sq p.2) (x,m) (El h)
theorem Abf(R:An W h₀ env names H ρ s){m:LM}{a:Addr}(hk:F0 m (.ref a) H) :
 (Oo fun T=>Xw (PlainAttrs T) (Slot T (Sq m) (Aav m)) (typeOf (.builtin (Aav m))=pure (.type "method_descriptor")) (s.TypeIs (.ref a) T) ((∀b,Value.ref a = .ref b->∃ob,s.heap.get? b=some ob/\ob.dict=none))):=by
 delta F0 at hk
 dsimp only at hk
 split at hk
 ·rename_i xs e
  obtain⟨l,nn,g1,_⟩:=R.lst e
  have hd:∀b,Value.ref a = .ref b->∃ob,s.heap.get? b=some ob/\ob.dict=none:=fun b q=>by cases q;exact⟨_,g1,rfl⟩
  have ht:s.TypeIs (.ref a) "list" :=by obtain⟨l,h,_⟩:=R.isList e;exact h.typeIs
  cases m with
  | append=>exact⟨"list",F.plainAttrs_list,F.slot_list_append,F.type_list_append,ht,hd⟩
  | clear=>exact⟨"list",F.plainAttrs_list,F.slot_list_clear,F.type_list_clear,ht,hd⟩
  | count=>exact⟨"list",F.plainAttrs_list,F.slot_list_count,F.type_list_count,ht,hd⟩
  | extend=>exact⟨"list",F.plainAttrs_list,F.slot_list_extend,F.type_list_extend,ht,hd⟩
  | index=>exact⟨"list",F.plainAttrs_list,F.slot_list_index,F.type_list_index,ht,hd⟩
  | remove=>exact⟨"list",F.plainAttrs_list,F.slot_list_remove,F.type_list_remove,ht,hd⟩
  | reverse=>exact⟨"list",F.plainAttrs_list,F.slot_list_reverse,F.type_list_reverse,ht,hd⟩
  | setdefault=>exact hk.elim
 ·rename_i es e
  cases hk
  obtain⟨kvs,g1,_⟩:=R.isDict e
  have ht:=g1.typeIs
  obtain⟨o,es,ep,g2,g3,_⟩:=g1
  exact⟨"dict",F.plainAttrs_dict,F.slot_dict_setdefault,F.type_dict_setdefault,ht,fun b q=>by cases q;exact⟨_,g2,g3.2.1⟩⟩
 ·exact hk.elim
theorem Ady(R:An W h₀ env names H ρ s){m:LM}{o:V}{u:Value}(hv:VR W o u)(hk:F0 m o H) :
 (Oo fun T=>Xw (PlainAttrs T) (Slot T (Sq m) (Aav m)) (typeOf (.builtin (Aav m))=pure (.type "method_descriptor")) (s.TypeIs u T) ((∀a,u = .ref a->∃ob,s.heap.get? a=some ob/\ob.dict=none))):=by
 induction hv with
 | ref a=>exact Abf R hk
 | _=>exact False.elim hk
theorem Ai4{o:Expr}{m:LM}{x:Str}{ap pos:Pos}{y:X}{es:List Expr}{xs:List X}(hb:Ie o=true)(hl:(ap.endLine==pos.line)=true)(hfew:es.length<3)(hm:Ac6 x=some m)(h:SE W G n c o y)(hs:Vw W G n c es xs)(hn:NS es) :
 SE W G n c (.Call (.Attribute o x ap) es [] pos) (.lm m y xs):=by
 intro A env h₀ H ρ s Q E ok Y R q
 simp only[Jb,Jc,Jd,Je,Jf,Jg,Jh,Ji,Jj,Jk,Jl,Jm,Jn,Jo,Bx,Jp,Jq,Jr,Js,Jt,Av,Dc,Bc,Ar,Ju,Jv,A3,Bb]at q
 have hx:=Adx hm
 subst hx
 have hplain:(backTo pos (starEach es env)).all (fun x=> !x.1)=true:=by
  have:=hn.plain (pos:=pos) (env:=env)
  rw[List.any_eq_false]at this
  rw[List.all_eq_true];intro x hx;simpa using this x hx
 have hform:((backTo pos (starEach es env)).all (fun x=> !x.1)&&(backToKw pos (keywordEach [] env)).all (fun x=>x.1.isSome)
  && decide (es.length+([]:List Keyword).length+(if ([]:List Keyword).isEmpty then 0 else 1)<30))=true:=by
  rw[hplain]
  have:es.length+0+0<30:=(Nat.lt_trans hfew (by decide))
  simpa[show backToKw pos (keywordEach [] env) = []from rfl]using this
 refine wpAny_Call_method_late (Sl hb) hform hl rfl (wpAny_mono (h ok Y R q) (fun ov s' r=>?_) fun _ _ e=>e)
 refine Aa fun nY=>?_
 obtain⟨a,H',hv,R',hk,q'⟩:=r
 obtain⟨T,t1,t2,t3,t4,t5⟩:=Ady R' hv hk
 refine nY ?_;clear nY
 refine⟨T,_,t1,t2,t3,t4,t5,Calls.callWith_builtin hn.plain (En hs hn ok Y R' q' fun as us H' s' hv' R'' q''=>?_)⟩
 exact Vu ok Y R'' hv hv' q''
end Mine.Internal
namespace Mine.Internal
open PySem PySem.W PyProof.Rows
variable {W:Wd} {G:A5} {A:Around} {h₀:HB} {env:Env} {c:Cx} {names:List Str} {H H':AH} {ρ ρ':Al} {s s':Shared} {E:Value->Shared->Prop} {n:Nat} {Q:Ak} {Er:EP}
inductive ItR(W:Wd)(h:Heap):It->Value->Prop
 | v {a u}:VR W a u->ItR W h (.v a) u
 | pair {a b u1 u2 T}:h.IsTuple T #[u1,u2]->VR W a u1->VR W b u2->ItR W h (.pair a b) (.ref T)
theorem An.moveBut(R:An W h₀ env names H ρ s){wr:List Addr}(hid:Fa h₀ env H wr){h':Heap}(t:Nat)(k:∀b o,b∉wr->s.heap.get? b=some o->h'.get? b=some o):An W h₀ env names H ρ {s with heap:=h',toks:=t} where
 ns:=by
  refine Aa fun nY=>?_
  obtain⟨m,⟨o,es,ep,h1,h2⟩,b⟩:=R.ns
  refine nY ?_;clear nY
  exact⟨m,⟨o,es,ep,k _ _ (fun q=>(hid _ q).2.2.1 rfl) h1,h2⟩,b⟩
 cell:=fun x a e=>by
  refine Aa fun nY=>?_
  obtain⟨w,⟨o,ho,hd⟩,r⟩:=R.cell x a e
  obtain⟨p,hp,hp2⟩:=A9 e
  refine nY ?_;clear nY
  exact⟨w,⟨o,k _ _ (fun q=>(hid _ q).2.2.2 p hp hp2) ho,hd⟩,r⟩
 keep:=fun b o e=>let ⟨o',e1,z⟩:=R.keep b o e;⟨o',k _ _ (fun q=>by have:=(hid _ q).2.1;rw[e]at this;cases this) e1,z⟩
 objs:=fun b o e=>by
  refine Aa fun nY=>?_
  obtain⟨ob,g1,g2⟩:=R.objs b o e
  refine nY ?_;clear nY
  exact⟨ob,k _ _ (fun q=>by have:=(hid _ q).1;rw[e]at this;cases this) g1,g2⟩
 sep:=R.sep
 gens:=R.gens
 os:=R.os
 above:=R.above
 low:=R.low
structure Src(W:Wd)(A:Around)(target:Expr)(I:Addr)(hs:List Addr)(its:List It)(g:AH->Prop)(Obs:Nat->Heap->Prop):Prop where
 frame:∀i h h',Obs i h->(∀b∈hs,∀o,h.get? b=some o->h'.get? b=some o)->Obs i h'
 live:∀i h,Obs i h->∀b∈hs,∃o,h.get? b=some o
 self:∀ {s:Shared} {Q:Value->Shared->Prop} {E:Value->Shared->Prop},Obs 0 s.heap->Q (.ref I) s->wpAny W.M A (pyIter (.ref I)) Q E s
 turn:∀ {h₀:HB} {env:Env} {c:Cx} {names:List Str} {H:AH} {ρ:Al} {s:Shared} {i:Nat} {x:It} {E E':Value->Shared->Prop},Ai W env c h₀->An W h₀ env names H ρ s->Fa h₀ env H hs->g H->Obs i s.heap->its[i]? = some x->
  wpAny W.M A (pyNext (.ref I)) (fun r s₁=>∃v,r=some v/\wpAny W.M A (letOwnedTupleGo target (.ref I) v) (fun _ s₂=>An W h₀ env names H ρ s₂/\Obs (i+1) s₂.heap/\ItR W s₂.heap x v/\∀b o,b∉hs->s.heap.get? b=some o->s₂.heap.get? b=some o) E' s₁) E s
 done:∀ {h₀:HB} {env:Env} {c:Cx} {names:List Str} {H:AH} {ρ:Al} {s:Shared} {E:Value->Shared->Prop},Ai W env c h₀->An W h₀ env names H ρ s->Fa h₀ env H hs->g H->Obs its.length s.heap->
   wpAny W.M A (pyNext (.ref I)) (fun r s₁=>r=none/\An W h₀ env names H ρ s₁/\∀b o,b∉hs->s.heap.get? b=some o->s₁.heap.get? b=some o) E s
noncomputable def Ph:List String:=["enumerate","zip","dict_itemiterator","dict_reverseitemiterator","odict_iterator","itertools.zip_longest","itertools.pairwise"]
theorem Ii{target:Expr}{I:Addr}{v:Value}{o:Obj}{nm:String}{vs:Array Value}{Q:Unit->Shared->Prop}(ho:s.heap.get? I=some o)(hc:o.cls = .type nm)(hd:o.data = .fields vs)(hn:Ph.contains nm=false)(hQ:Q () s) :
 wpAny W.M A (letOwnedTupleGo target (.ref I) v) Q E s:=by
 have key:∀a:Addr,wpAny W.M A (do
  let o <-load I
  match o.cls,o.data with
  | .type n,.fields vs=>if Ph.contains n&&vs[0]? == some (rawInt a)then do rule "for.unpacks-the-owned-tuple";updateField I 0 .none
  | _,_=>pure ()) Q E s:=by
  intro a
  refine wpAny_bind (wpAny_load ho ?_)
  rw[hc,hd]
  simp only[hn,Bool.false_and,Bool.false_eq_true,if_false]
  exact wpAny_pure hQ
 cases target<;>first|exact wpAny_pure hQ|(cases v<;>first|exact wpAny_pure hQ|exact key _)
theorem Fa.one(Y:Ai W env c h₀)(R:An W h₀ env names H ρ s){a:Addr}(hn:s.heap.get? a=none)(hb:W.b₀.objs.size<=a):Fa h₀ env H [a]:=fun b hb'=>by
 rcases List.mem_cons.mp hb' with rfl|h
 ·obtain⟨q1,q2,q3,q4,q5⟩:=R.new_sep hn hb
  exact⟨q1,q2,q3,Rg Y R hn⟩
 ·cases h
theorem Oi{xs:List V}{items:List Value}(h:Cv W xs items){i:Nat}{x:V}(e:xs[i]? = some x):∃u,items[i]? = some u/\VR W x u:=h.get i e
theorem Abh(hh:A.handled=none)(target:Expr){a I:Addr}{xs:List V}:Src W A target I [I] (xs.map .v) (fun H'=>H' a=some (.list xs)) (fun i h=>h.IsListIter I a i) where
 frame:=fun i h h' st hk=>st.at fun o e=>hk I (.head _) o e
 live:=fun i h st b hb=>by
  rcases List.mem_cons.mp hb with rfl|hb
  ·obtain⟨o,e,_⟩:=st;exact⟨o,e⟩
  ·cases hb
 self:=fun st hQ=>wpAny_pyIter_listiter st hQ
 turn:=fun {h₀ env c names H ρ s i x E E'} Y R hid g st hx=>by
  obtain⟨items,h1,r1,z1⟩:=R.isList g
  rw[List.getElem?_map]at hx
  obtain⟨x',hx',rfl⟩:=Option.map_eq_some_iff.mp hx
  obtain⟨u,hu,hv⟩:=Oi r1 hx'
  refine wpAny_pyNext_list_item st h1 (x:=u) (by simpa using hu) fun h' st' hs'=>⟨u,rfl,?_⟩
  have R':=R.moveBut (h':=h') hid s.toks fun b o hb e=>hs'.extBut b o (fun q=>hb (by simp[q])) e
  obtain⟨o,o1,o2,o3⟩:=st'
  exact Ii o1 o2 o3 (by decide) ⟨R',⟨o,o1,o2,o3⟩,.v hv,fun b o hb e=>hs'.extBut b o (fun q=>hb (by simp[q])) e⟩
 done:=fun {h₀ env c names H ρ s E} Y R hid g st=>by
   obtain⟨items,h1,r1,z1⟩:=R.isList g
   refine wpAny_pyNext_list_end hh st h1 (by simp[r1.length]) fun h' he'=>⟨rfl,R.moveBut (h':=h') hid s.toks (fun b o hb e=>he' b o (fun q=>hb (by simp[q])) e),fun b o hb e=>he' b o (fun q=>hb (by simp[q])) e⟩
theorem Ye(hh:A.handled=none)(target:Expr){a I:Addr}{xs:List V}:Src W A target I [I] (xs.map .v) (fun H'=>H' a=some (.tuple xs)) (fun i h=>h.IsTupleIter I a i) where
 frame:=fun i h h' st hk=>st.at fun o e=>hk I (.head _) o e
 live:=fun i h st b hb=>by
  rcases List.mem_cons.mp hb with rfl|hb
  ·obtain⟨o,e,_⟩:=st;exact⟨o,e⟩
  ·cases hb
 self:=fun st hQ=>wpAny_pyIter_tupleiter st hQ
 turn:=fun {h₀ env c names H ρ s i x E E'} Y R hid g st hx=>by
  obtain⟨items,h1,r1,z1⟩:=R.isTup g
  rw[List.getElem?_map]at hx
  obtain⟨x',hx',rfl⟩:=Option.map_eq_some_iff.mp hx
  obtain⟨u,hu,hv⟩:=Oi r1 hx'
  refine wpAny_pyNext_tuple_item st h1 (x:=u) (by simpa using hu) fun h' st' hs'=>⟨u,rfl,?_⟩
  have R':=R.moveBut (h':=h') hid s.toks fun b o hb e=>hs'.extBut b o (fun q=>hb (by simp[q])) e
  obtain⟨o,o1,o2,o3⟩:=st'
  exact Ii o1 o2 o3 (by decide) ⟨R',⟨o,o1,o2,o3⟩,.v hv,fun b o hb e=>hs'.extBut b o (fun q=>hb (by simp[q])) e⟩
 done:=fun {h₀ env c names H ρ s E} Y R hid g st=>by
   obtain⟨items,h1,r1,z1⟩:=R.isTup g
   refine wpAny_pyNext_tuple_end hh st h1 (by simp[r1.length]) fun h' he'=>⟨rfl,R.moveBut (h':=h') hid s.toks (fun b o hb e=>he' b o (fun q=>hb (by simp[q])) e),fun b o hb e=>he' b o (fun q=>hb (by simp[q])) e⟩
theorem Yg(hh:A.handled=none)(target:Expr){I:Addr}{a:Int}{k:Nat}:Src W A target I [I] ((List.range k).map fun(i:Nat)=> .v (.int (a+i))) (fun _=>True) (fun i h=>IsRangeIter h I (a+(i:Nat)) ((k:Int)-(i:Nat)) 1) where
 frame:=fun i h h' st hk=>hk I (.head _) _ st
 live:=fun i h st b hb=>by
  rcases List.mem_cons.mp hb with rfl|hb
  ·exact⟨_,st⟩
  ·cases hb
 self:=fun st hQ=>wpAny_pyIter_rangeiter st hQ
 turn:=fun {h₀ env c names H ρ s i x E E'} Y R hid g st hx=>by
  rw[List.getElem?_map]at hx
  obtain⟨j,hj,rfl⟩:=Option.map_eq_some_iff.mp hx
  obtain⟨hlt,he⟩:=List.getElem?_eq_some_iff.mp hj
  simp at hlt he
  subst he
  refine wpAny_pyNext_range_item st (Int.sub_pos_of_lt (Int.ofNat_lt.mpr hlt)) fun h' st' hs'=>⟨_,rfl,?_⟩
  have R':=R.moveBut (h':=h') hid (s.toks+1) fun b o hb e=>hs'.extBut b o (fun q=>hb (by simp[q])) e
  refine Ii st' rfl rfl (by decide) ⟨R',?_,.v (.int _ _),fun b o hb e=>hs'.extBut b o (fun q=>hb (by simp[q])) e⟩
  have e1:a+((i+1:Nat):Int)=a+(i:Int)+1:=Akc
  have e2:(k:Int)-((i+1:Nat):Int)=(k:Int)-(i:Int)-1:=Akd
  rw[e1,e2];exact st'
 done:=fun {h₀ env c names H ρ s E} Y R hid g st=>by
   simp only[List.length_map,List.length_range]at st
   refine wpAny_pyNext_range_end hh st (Int.le_of_eq (Int.sub_self _)) fun h' he'=>⟨rfl,R.moveBut (h':=h') hid s.toks (fun b o hb e=>he' b o (fun q=>hb (by simp[q])) e),fun b o hb e=>he' b o (fun q=>hb (by simp[q])) e⟩
theorem U6.at{es:List (Int×V)}{kvs:List (Int×Value)}(h:U6 W es kvs):∀ {i:Nat} {e:Int×V},es[i]? = some e->∃u,kvs[i]? = some (e.1,u):=by
 induction h with
 | nil=>intro i e h;simp at h
 | cons hv t ih=>
   intro i e h
   cases i with
   | zero=>simp at h;subst h;exact⟨_,rfl⟩
   | succ i=>simp at h;simpa using ih h
theorem Abi(hh:A.handled=none)(target:Expr){d I:Addr}{es:List (Int×V)}{kvs:List (Int×Value)}{ep:Nat}(hk:U6 W es kvs)(hne:d≠I) :
 Src W A target I [I,d] (es.map fun e=> .v (.int e.1)) (fun _=>True) (fun i h=>h.IsKeyIter I d i kvs.length ep/\h.DictAt (intKind W.prog W.w) d kvs ep) where
 frame:=fun i h h' st hk=>⟨st.1.at fun o e=>hk I (by simp) o e,st.2.at' fun o e=>hk d (by simp) o e⟩
 live:=fun i h st b hb=>by
  rcases List.mem_cons.mp hb with rfl|hb
  ·obtain⟨o,e,_⟩:=st.1;exact⟨o,e⟩
  ·rcases List.mem_cons.mp hb with rfl|hb
   ·obtain⟨o,_,e,_⟩:=st.2;exact⟨o,e⟩
   ·cases hb
 self:=fun st hQ=>wpAny_pyIter_keyiter st.1 hQ
 turn:=fun {h₀ env c names H ρ s i x E E'} Y R hid g st hx=>by
  rw[List.getElem?_map]at hx
  obtain⟨e,he,rfl⟩:=Option.map_eq_some_iff.mp hx
  obtain⟨u,hu⟩:=hk.at he
  have hid1:Fa h₀ env H [I]:=fun b hb=>hid b (by simp at hb;simp[hb])
  refine wpAny_pyNext_dict_item st.1 st.2 hu fun key h' hkey st' hs'=>⟨key,rfl,?_⟩
  have R':=R.moveBut (h':=h') hid1 s.toks fun b o hb e=>hs'.extBut b o (fun q=>hb (by simp[q])) e
  have hk':∃t,key = .int e.1 t:=by
   refine Aa fun nY=>?_
   cases key<;>simp[intKind,Value.isInt]at hkey
   refine nY ?_;clear nY
   subst hkey;exact⟨_,rfl⟩
  refine Aa fun nY=>?_
  obtain⟨t,rfl⟩:=hk'
  have st2:=st.2.extBut hs'.extBut hne
  obtain⟨o,o1,o2,o3⟩:=st'
  refine nY ?_;clear nY
  exact Ii o1 o2 o3 (by decide) ⟨R',⟨⟨o,o1,o2,o3⟩,st2⟩,.v (.int _ _),fun b o hb e=>hs'.extBut b o (fun q=>hb (by simp[q])) e⟩
 done:=fun {h₀ env c names H ρ s E} Y R hid g st=>by
   have hid1:Fa h₀ env H [I]:=fun b hb=>hid b (by simp at hb;simp[hb])
   refine wpAny_pyNext_dict_end hh st.1 st.2 (by simp[hk.length]) fun h' he'=>⟨rfl,R.moveBut (h':=h') hid1 s.toks (fun b o hb e=>he' b o (fun q=>hb (by simp[q])) e),fun b o hb e=>he' b o (fun q=>hb (by simp[q])) e⟩
theorem Adz(hh:A.handled=none)(target:Expr){a I:Addr}{xs:List V}:Src W A target I [I] (xs.reverse.map .v) (fun H'=>H' a=some (.list xs)) (fun i h=>i<=xs.length/\h.IsRevIter I a ((xs.length:Int)-1-(i:Int))) where
 frame:=fun i h h' st hk=>⟨st.1,st.2.at fun o e=>hk I (.head _) o e⟩
 live:=fun i h st b hb=>by
  rcases List.mem_cons.mp hb with rfl|hb
  ·obtain⟨o,e,_⟩:=st.2;exact⟨o,e⟩
  ·cases hb
 self:=fun st hQ=>wpAny_pyIter_revIter st.2 hQ
 turn:=fun {h₀ env c names H ρ s i x E E'} Y R hid g st hx=>by
  obtain⟨items,h1,r1,z1⟩:=R.isList g
  rw[List.getElem?_map]at hx
  obtain⟨x',hx',rfl⟩:=Option.map_eq_some_iff.mp hx
  obtain⟨hlt,he⟩:=List.getElem?_eq_some_iff.mp hx'
  have hlt':i<xs.length:=by simpa using hlt
  have hx2:xs[xs.length-1-i]? = some x':=by rw[<-hx',List.getElem?_reverse hlt']
  obtain⟨u,hu,hv⟩:=Oi r1 hx2
  have st2:=st.2
  rw[show (xs.length:Int)-1-(i:Int)=((xs.length-1-i:Nat):Int) by exact(((Int.ofNat_sub (Nat.le_sub_one_of_lt hlt')).trans (congrArg (· - (_:Int)) (Int.ofNat_sub (Nat.zero_lt_of_lt hlt')))).symm)]at st2
  refine wpAny_pyNext_rev_item st2 h1 (x:=u) (by simpa using hu) fun h' st' hs'=>⟨u,rfl,?_⟩
  have R':=R.moveBut (h':=h') hid s.toks fun b o hb e=>hs'.extBut b o (fun q=>hb (by simp[q])) e
  rw[show ((xs.length-1-i:Nat):Int)-1=(xs.length:Int)-1-((i+1:Nat):Int) by exact Ake hlt']at st'
  obtain⟨o,o1,o2,o3⟩:=st'
  exact Ii o1 o2 o3 (by decide) ⟨R',⟨hlt',⟨o,o1,o2,o3⟩⟩,.v hv,fun b o hb e=>hs'.extBut b o (fun q=>hb (by simp[q])) e⟩
 done:=fun {h₀ env c names H ρ s E} Y R hid g st=>by
   have st2:=st.2
   simp only[List.length_map,List.length_reverse]at st2
   rw[show (xs.length:Int)-1-(xs.length:Int) = -1 by exact Akf]at st2
   refine wpAny_pyNext_rev_end hh st2 fun h' he'=>⟨rfl,R.moveBut (h':=h') hid s.toks (fun b o hb e=>he' b o (fun q=>hb (by simp[q])) e),fun b o hb e=>he' b o (fun q=>hb (by simp[q])) e⟩
theorem Abj(hh:A.handled=none)(elts:List Expr)(k:Nat)(pos:Pos){a e it:Addr}{xs:List V}(hne:e≠it)(hae:a≠e)(hai:a≠it) :
 Src W A (.Tuple elts k pos) e [e,it] (xs.mapIdx fun i x=> .pair (.int i) x) (fun H'=>H' a=some (.list xs)) (fun i h=>(∃old,IsEnum h e it i old)/\h.IsListIter it a i) where
 frame:=fun i h h' st hk=>⟨let ⟨old,q⟩:=st.1;⟨old,hk e (by simp) _ q⟩,st.2.at fun o q=>hk it (by simp) o q⟩
 live:=fun i h st b hb=>by
  rcases List.mem_cons.mp hb with rfl|hb
  ·obtain⟨old,e⟩:=st.1;exact⟨_,e⟩
  ·rcases List.mem_cons.mp hb with rfl|hb
   ·obtain⟨o,e,_⟩:=st.2;exact⟨o,e⟩
   ·cases hb
 self:=fun st hQ=>by
  obtain⟨⟨old,q⟩,_⟩:=st
  exact wpAny_pyIter_enum q hQ
 turn:=fun {h₀ env c names H ρ s i x E E'} Y R hid g st hx=>by
  obtain⟨items,h1,r1,z1⟩:=R.isList g
  rw[List.getElem?_mapIdx]at hx
  obtain⟨x',hx',rfl⟩:=Option.map_eq_some_iff.mp hx
  obtain⟨u,hu,hv⟩:=Oi r1 hx'
  have WE:=WalksT.enumerate (prog:=W.prog) (w:=W.w) hh e it a hne hae hai items.toArray
  have hlt:i<items.toArray.size:=by
   obtain⟨q,_⟩:=List.getElem?_eq_some_iff.mp hu
   simpa using q
  refine WE.item i s _ E hlt ⟨st.1,st.2,h1⟩ fun T vals h' tk hP hT hTup hmid hk=>⟨_,rfl,?_⟩
  have R':=R.moveBut (h':=h') hid tk fun b o hb q=>hk b o hb q
  refine WE.go elts k pos i T {s with heap:=h',toks:=tk} _ E' hmid fun h2 st2 hk2=>?_
  have R2:=R'.moveBut (h':=h2) hid tk fun b o hb q=>hk2 b o hb q
  obtain⟨t,u',hu',rfl⟩:=hP
  have:u'=u:=by
   have h3:items.toArray[i]? = some u:=by simpa using hu
   rw[h3]at hu';cases hu';rfl
  subst this
  exact⟨R2,⟨st2.1,st2.2.1⟩,.pair (hTup.at fun o q=>hk2 T o (WE.apart i T _ hmid) q) (.int _ _) hv,fun b o hb q=>hk2 b o hb (hk b o hb q)⟩
 done:=fun {h₀ env c names H ρ s E} Y R hid g st=>by
   obtain⟨items,h1,r1,z1⟩:=R.isList g
   have WE:=WalksT.enumerate (prog:=W.prog) (w:=W.w) hh e it a hne hae hai items.toArray
   simp only[List.length_mapIdx]at st
   refine WE.done s _ E ?_ fun h' tk hk=>⟨rfl,R.moveBut (h':=h') hid tk (fun b o hb q=>hk b o hb q),hk⟩
   have:items.toArray.size=xs.length:=by simp[r1.length]
   rw[this]
   exact⟨st.1,st.2,h1⟩
end Mine.Internal
namespace Mine.Internal
open PySem PySem.W PyProof.Rows
variable {W:Wd} {G:A5} {A:Around} {h₀:HB} {env:Env} {c:Cx} {names:List Str} {H H':AH} {ρ ρ':Al} {s s':Shared} {E:Value->Shared->Prop} {n:Nat} {Q:Ak} {Er:EP}
noncomputable def SS(W:Wd)(G:A5)(n:Nat)(c:Cx)(e:Expr)(x:X)(two:Bool):Prop:=
 ∀ {A:Around} {env:Env} {h₀:HB} {H:AH} {ρ:Al} {s:Shared} {K:List It->(AH->Prop)->AH->Prop} {target:Expr} {Q:Value->Shared->Prop} {E:EP} {Em:Value->Shared->Prop},
  Lu target=two->Ms A c h₀ env n->Ai W env c h₀->An W h₀ env c.names H ρ s->Dq G (Ae G n) x ρ H K E->(∀v s',EM W h₀ env c.names ρ E v s'->Em v s')->
  (∀I hs its g Obs H' s',Src W A target I hs its g Obs->Fa h₀ env H' hs->Obs 0 s'.heap->An W h₀ env c.names H' ρ s'->K its g H'->Q (.ref I) s')->
  wpAny W.M A (eval e env) (fun v s₁=>wpAny W.M A (pyIter v) Q Em s₁) Em s
theorem An.drop(R:An W h₀ env names H ρ s)(a:Addr):An W h₀ env names (fun b=>if b=a then none else H b) ρ s where
 ns:=R.ns
 cell:=R.cell
 keep:=R.keep
 objs:=fun b o e=>by
  split at e
  ·cases e
  ·exact R.objs b o e
 sep:=fun b o e=>by
  split at e
  ·cases e
  ·exact R.sep b o e
 gens:=R.gens
 os:=R.os
 above:=R.above
 low:=fun b o e=>by
  split at e
  ·cases e
  ·exact R.low b o e
theorem An.cells_ne(R:An W h₀ env names H ρ s)(Y:Ai W env c h₀){a:Addr}{o:O}(e:H a=some o):∀p∈env.cells,p.2≠a:=fun p hp q=>(R.sep a o e).2.2 p.1 (by rw[Y.look p hp,q])
theorem Agq(hf:c.hnd=false){K:List It->(AH->Prop)->AH->Prop}{target:Expr}{Q:Value->Shared->Prop}{Em:Value->Shared->Prop}(ok:Ms A c h₀ env n)(Y:Ai W env c h₀)(R':An W h₀ env c.names H' ρ s'){a:Addr}(q':Gc (.ref a) H' K)
 (hQ:∀I hs its g Obs H' s',Src W A target I hs its g Obs->Fa h₀ env H' hs->Obs 0 s'.heap->An W h₀ env c.names H' ρ s'->K its g H'->Q (.ref I) s'):wpAny W.M A (pyIter (.ref a)) Q Em s':=by
 delta Gc at q'
 dsimp only at q'
 split at q'
 ·rename_i xs e
  obtain⟨items,h1,r1,z1⟩:=R'.isList e
  refine wpAny_pyIter_list h1 ?_
  refine hQ s'.heap.objs.size [s'.heap.objs.size] _ _ _ H' _ (Abh (ok.handled hf) target) (Fa.one Y R' (B5 _) R'.up) ?_ (R'.pushHid _ _) q'
  exact⟨_,Heap.get?_push_size _ rfl,rfl,rfl⟩
 ·rename_i xs e
  obtain⟨items,h1,r1,z1⟩:=R'.isTup e
  refine wpAny_pyIter_tuple h1 ?_
  refine hQ s'.heap.objs.size [s'.heap.objs.size] _ _ _ H' _ (Ye (ok.handled hf) target) (Fa.one Y R' (B5 _) R'.up) ?_ (R'.pushHid _ _) q'
  exact⟨_,Heap.get?_push_size _ rfl,rfl,rfl⟩
 ·rename_i es e
  obtain⟨kvs,⟨o,es',ep,g1,g2,g3,g4,g5,g6⟩,r1,z1⟩:=R'.isDict e
  have hd:(a==sysModules)=false:=beq_eq_false_iff_ne.mpr (Nat.ne_of_gt (Nat.lt_of_lt_of_le Y.lo (R'.low a _ e)))
  refine wpAny_pyIter_dict (knd:=intKind W.prog W.w) (kvs:=kvs) (ep:=ep) hd ⟨o,es',g1,g2,g3,g4,g5,g6⟩ ?_
  have hne:a≠s'.heap.objs.size:=Nat.ne_of_lt (Heap.lt_size g1)
  have R2:=(R'.drop a).pushHid {cls:= .type "dict_keyiterator",data:= .fields #[.ref a,.int 0 0,.int kvs.length 0,.int ep 0]} s'.toks
  refine hQ s'.heap.objs.size [s'.heap.objs.size,a] _ _ _ _ _ (Abi (ok.handled hf) target (kvs:=kvs) (ep:=ep) r1 hne) ?_ ?_ R2 q'
  ·intro b hb
   rcases List.mem_cons.mp hb with rfl|hb
   ·exact Fa.one Y (R'.drop a) (B5 _) R'.up _ (.head _)
   ·simp at hb
    subst hb
    exact⟨by simp,(R'.sep _ _ e).1,(R'.sep _ _ e).2.1,R'.cells_ne Y e⟩
  ·exact⟨⟨_,Heap.get?_push_size _ rfl,rfl,rfl⟩,⟨o,es',Heap.get?_push_of_some _ g1,g2,g3,g4,g5,g6⟩⟩
 ·exact q'.elim
theorem Agr(hf:c.hnd=false){e:Expr}{x:X}{two:Bool}(h:SE W G n c e x):SS W G n c e (.val x) two:=by
 intro A env h₀ H ρ s K target Q E Em ht ok Y R q hE hQ
 simp only[Od,Sb,Wv,Ww]at q
 refine wpAny_mono (h ok Y R q) (fun v s' r=>?_) hE
 refine Aa fun nY=>?_
 obtain⟨a,H',hv,R',q'⟩:=r
 refine nY ?_;clear nY
 induction hv with
 | ref a=>exact Agq hf ok Y R' q' hQ
 | _=>exact False.elim q'
theorem Abk(g:E9 W G)(hf:c.hnd=false){p pos:Pos}{es:List Expr}{xs:List X}{two:Bool}(hg:c.global "range" = true)(hs:Vw W G n c es xs)(hn:NS es):SS W G n c (.Call (.Name "range" p) es [] pos) (.range xs) two:=by
 intro A env h₀ H ρ s K target Q E Em ht ok Y R q hE hQ
 simp only[Od,Sb,Wv,Ww]at q
 refine Kn g Y R (.inr ⟨"range",rfl⟩) hg (by decide) (by decide) (by kernel_rfl) (by decide) hn (wpAny_mono (En (Q':=fun us s'=>(Ka fun as H'=>R7 (Cv W as us.pos) (us.kw = []) (An W h₀ env c.names H' ρ s') (Ej as H' K))) hs hn ok Y R q fun as us H' s' hv R' q'=>⟨as,H',hv,rfl,R',q'⟩) (fun us s' r=>?_) hE)
 obtain⟨as,H',hv,hkw,R',q'⟩:=r
 obtain⟨us,kw⟩:=us
 simp only at hv hkw
 subst hkw
 have b1:Bs=1048576:=rfl
 have core:∀(r:Addr) (a b:Int) (t u v:Tok) (s2:Shared),An W h₀ env c.names H' ρ s2->IsRange s2.heap r a b 1 t u v->0<=a->a<=Bs-> -(Bs:Int)<=b->b<=Bs->
  K ((List.range (b-a).toNat).map fun(i:Nat)=> .v (.int (a+i))) (fun _=>True) H'->wpAny W.M A (pyIter (.ref r)) Q Em s2:=by
  intro r a b t u v s2 R2 hr h1 h2 h3 h4 hk
  refine wpAny_pyIter_range hr (small_one (Int.le_trans (by decide) h1) (Aio b1 h2) (Akw b1 h3) (Aio b1 h4)) ?_
  refine hQ s2.heap.objs.size [s2.heap.objs.size] _ _ _ H' _ (Yg (ok.handled hf) target (a:=a) (k:=(b-a).toNat)) (Fa.one Y R2 (B5 _) R2.up) ?_ (R2.pushHid _ _) hk
  rw[rangeSize_nat]
  simp only[Int.natCast_zero,Int.add_zero,Int.sub_zero]
  exact Heap.get?_push_size _ rfl
 cases hv with
 | nil=>exact False.elim q'
 | cons hu t=>cases t with
   | nil=>
     apply Au hu q';intro k t q'
     refine call_range_1 ?_
     have R2:=R'.pushHid {cls:= .type "range",data:= .fields #[.int 0 s'.toks,.int k t,.int 1 (s'.toks+1)]} (s'.toks+1+1)
     refine core _ 0 k _ _ _ _ R2 (Heap.get?_push_size _ rfl) (by(first|lia|omega)) (by(first|lia|omega)) q'.1.1 q'.1.2 ?_
     simpa using q'.2
   | cons hu2 t=>cases t with
     | nil=>
       apply Au hu q';intro m t q';apply Au hu2 q';intro k t2 q'
       refine call_range_2 ?_
       have R2:=R'.pushHid {cls:= .type "range",data:= .fields #[.int m t,.int k t2,.int 1 s'.toks]} (s'.toks+1)
       have:=q'.1
       exact core _ m k _ _ _ _ R2 (Heap.get?_push_size _ rfl) this.1 this.2.1 this.2.2.1 this.2.2.2 q'.2
     | cons=>exact False.elim q'
theorem Ad0(g:E9 W G)(hf:c.hnd=false){p pos:Pos}{e:Expr}{x:X}(hg:c.global "enumerate" = true)(h:SE W G n c e x)(hn:∀v p,e≠ .Starred v p):SS W G n c (.Call (.Name "enumerate" p) [e] [] pos) (.enum x) true:=by
 intro A env h₀ H ρ s K target Q E Em ht ok Y R q hE hQ
 simp only[Od,Sb,Wv,Ww]at q
 refine Kn g Y R (.inr ⟨"enumerate",rfl⟩) hg (by decide) (by decide) (by kernel_rfl) (by decide) (ns1 hn) ?_
 rw[A7 hn]
 refine Calls.evalArgs_plain (Calls.spliced_cons (wpAny_mono (h ok Y R q) (fun v s' r=>Calls.spliced_nil ?_) hE))
 refine Aa fun nY=>?_
 obtain⟨a,H',hv,R',q'⟩:=r
 refine nY ?_;clear nY
 apply Bo hv q';intro a q';refine Eh q' fun xs e q'=>?_
 refine Aa fun nY=>?_
 obtain⟨items,h1,r1,z1⟩:=R'.isList e
 refine nY ?_;clear nY
 refine call_enumerate_list h1 fun h' hE hI hsz hk=>?_
 refine wpAny_pyIter_enum hE ?_
 have hlt:a<s'.heap.objs.size:=by obtain⟨_,q,_⟩:=h1;exact Heap.lt_size q
 refine Aa fun nY=>?_
 cases target with
 | Tuple elts k tp=>
   refine nY ?_;clear nY
   refine hQ _ [s'.heap.objs.size+1,s'.heap.objs.size] _ _ _ H' _ (Abj (ok.handled hf) elts k tp (a:=a) (e:=s'.heap.objs.size+1) (it:=s'.heap.objs.size) (xs:=xs) (Nat.succ_ne_self _) (Nat.ne_of_lt (Nat.lt_succ_of_lt hlt)) (Nat.ne_of_lt hlt)) ?_ ⟨⟨_,hE⟩,hI⟩ (R'.move s'.toks hk) q'
   intro b hb
   have hb':s'.heap.objs.size<=b:=by
    refine Aa fun nY=>?_
    rcases List.mem_cons.mp hb with rfl|hb
    ·refine nY ?_;clear nY
     exact Nat.le_succ _
    ·rcases List.mem_cons.mp hb with rfl|hb
     ·refine nY ?_;clear nY
      exact Nat.le_refl _
     ·cases hb
   exact Fa.one Y R' (Q8 hb') (Nat.le_trans R'.up hb') b (.head _)
 | _=>cases ht
theorem Ags(g:E9 W G)(hf:c.hnd=false){p pos:Pos}{e:Expr}{x:X}{two:Bool}(hg:c.global "reversed" = true)(h:SE W G n c e x)(hn:∀v p,e≠ .Starred v p):SS W G n c (.Call (.Name "reversed" p) [e] [] pos) (.rev x) two:=by
 intro A env h₀ H ρ s K target Q E Em ht ok Y R q hE hQ
 simp only[Od,Sb,Wv,Ww]at q
 refine Kn g Y R (.inr ⟨"reversed",rfl⟩) hg (by decide) (by decide) (by kernel_rfl) (by decide) (ns1 hn) ?_
 rw[A7 hn]
 refine Calls.evalArgs_plain (Calls.spliced_cons (wpAny_mono (h ok Y R q) (fun v s' r=>Calls.spliced_nil ?_) hE))
 refine Aa fun nY=>?_
 obtain⟨a,H',hv,R',q'⟩:=r
 refine nY ?_;clear nY
 apply Bo hv q';intro a q';refine Eh q' fun xs e q'=>?_
 refine Aa fun nY=>?_
 obtain⟨items,h1,r1,z1⟩:=R'.isList e
 refine nY ?_;clear nY
 refine call_reversed_list h1 ?_
 have hI:(s'.heap.push (revObj a ((items.toArray.size:Int)-1))).IsRevIter s'.heap.objs.size a ((xs.length:Int)-1-((0:Nat):Int)):=⟨_,Heap.get?_push_size _ rfl,rfl,by simp[revObj,r1.length]⟩
 refine wpAny_pyIter_revIter hI ?_
 exact hQ s'.heap.objs.size [s'.heap.objs.size] _ _ _ H' _ (Adz (ok.handled hf) target (a:=a) (xs:=xs)) (Fa.one Y R' (B5 _) R'.up) ⟨Nat.zero_le _,hI⟩ (R'.pushHid _ _) q'
end Mine.Internal
namespace Mine.Internal
open PySem PySem.W PyProof.Rows
variable {W:Wd} {G:A5} {A:Around} {h₀:HB} {env:Env} {c:Cx} {names:List Str} {H H':AH} {ρ ρ':Al} {s s':Shared} {E:Value->Shared->Prop} {n:Nat} {Q:Ak} {Er:EP}
theorem Rh:∀ {l:List Str} {x y:Str} {i:Nat},l.idxOf? x=some i->l.idxOf? y=some i->x=y
 | [],_,_,_,h,_=>by simp at h
 | a::l,x,y,i,h1,h2=>by
   rw[List.idxOf?_cons]at h1 h2
   split at h1
   ·rename_i q1
    cases h1
    split at h2
    ·rename_i q2
     exact(beq_iff_eq.mp q1).symm.trans (beq_iff_eq.mp q2)
    ·simp at h2
   ·split at h2
    ·cases h2;simp at h1
    ·obtain⟨j,h3,h4⟩:=Option.map_eq_some_iff.mp h1
     obtain⟨k,h5,h6⟩:=Option.map_eq_some_iff.mp h2
     have:j=k:=(Nat.succ.inj (h4.trans h6.symm))
     subst this
     exact Rh h3 h5
theorem Yh{x:Str}{i:Nat}(h:c.own x=some i):c.names.idxOf? x=some i/\(c.sc.names.lookup x=some .local\/c.sc.names.lookup x=some .cell):=by
 unfold Cx.own at h
 refine Aa fun nY=>?_
 split at h
 ·rename_i q
  refine nY ?_;clear nY
  refine⟨h,?_⟩
  unfold Wz at q
  split at q<;>first|(rename_i e;simp[e])|cases q
 ·cases h
theorem Pi(Y:Ai W env c h₀)(R:An W h₀ env c.names H ρ s){x:Str}{i:Nat}{a:V}{u:Value}(hs:c.own x=some i)(hv:VR W a u) :
 wpAny W.M A (storeName env x u) (fun _ s'=>An W h₀ env c.names H (ρ.set i (some a)) s') E s:=by
 refine Aa fun nY=>?_
 obtain⟨hi,hk⟩:=Yh hs
 have other:∀ {y:Str} {j:Nat} {v:V},c.names.idxOf? y=some j->y≠x->(ρ.set i (some a))[j]? = some (some v)->ρ[j]? = some (some v):=by
  intro y j v h1 h2 h3
  have:i≠j:=fun q=>h2 (Rh h1 (q▸hi))
  rwa[List.getElem?_set_ne this]at h3
 have same:∀ {j:Nat} {v:V},c.names.idxOf? x=some j->(ρ.set i (some a))[j]? = some (some v)->v=a:=by
  intro j v h1 h3
  rw[hi]at h1;cases h1
  rw[List.getElem?_set_self']at h3
  cases q:ρ[i]? with
  | none=>rw[q]at h3;cases h3
  | some z=>rw[q]at h3;simp at h3;exact h3.symm
 rcases hk with hk|hk
 ·have hx:env.kindOf x=some .local:=Y.kinds x _ hk (by simp)
  obtain⟨m,h1,h2⟩:=R.ns
  refine nY ?_;clear nY
  refine wpAny_storeName_local hx h1 (fun h' hn hb=>?_) (by simp[Y.kind])
  refine⟨⟨_,hn,fun y j v e1 e2 e3=>?_⟩,?_,?_,?_,R.sep,R.gens,R.os,R.above,R.low⟩
  ·refine Aa fun nY=>?_
   by_cases q:y=x
   ·subst q
    refine nY ?_;clear nY
    rw[same e1 e3]
    exact⟨u,by simp,hv⟩
   ·refine nY ?_;clear nY
    simp only[q,if_false]
    exact h2 y j v e1 e2 (other e1 q e3)
  ·intro y b e
   refine Aa fun nY=>?_
   obtain⟨w,⟨o,ho,hd⟩,r⟩:=R.cell y b e
   refine nY ?_;clear nY
   refine⟨w,⟨o,(hb.2 b (Y.apart y b e)).trans ho,hd⟩,fun j v e1 e2 e3=>r j v e1 e2 (other e1 (fun q=>?_) e3)⟩
   refine Aa fun nY=>?_
   subst q
   rw[hx]at e2
   rcases e2 with e2|e2<;>cases e2
  ·intro b o e
   refine Aa fun nY=>?_
   obtain⟨o',e1,z⟩:=R.keep b o e
   refine nY ?_;clear nY
   exact⟨o',(hb.2 b (fun q=>by rw[q,Y.new]at e;cases e)).trans e1,z⟩
  ·intro b o e
   refine Aa fun nY=>?_
   obtain⟨ob,g1,g2⟩:=R.objs b o e
   refine nY ?_;clear nY
   exact⟨ob,(hb.2 b (R.sep b o e).2.1).trans g1,g2⟩
 ·have hx:env.kindOf x=some .cell:=Y.kinds x _ hk (by simp)
  obtain⟨ca,hca⟩:=Y.cells x (.inl hx)
  obtain⟨w,hw,hr⟩:=R.cell x ca hca
  refine nY ?_;clear nY
  refine wpAny_storeName_cell Y.kind hx hca hw fun h' hn hb=>?_
  refine⟨?_,?_,?_,?_,R.sep,R.gens,R.os,R.above,R.low⟩
  ·refine Aa fun nY=>?_
   obtain⟨m,h1,h2⟩:=R.ns
   refine nY ?_;clear nY
   refine⟨m,h1.sameBut hb (fun q=>Y.apart x ca hca q.symm),fun y j v e1 e2 e3=>h2 y j v e1 e2 (other e1 (fun q=>?_) e3)⟩
   subst q
   rw[hx]at e2;cases e2
  ·intro y b e
   refine Aa fun nY=>?_
   by_cases q:y=x
   ·subst q
    rw[hca]at e;cases e
    refine nY ?_;clear nY
    exact⟨some u,hn,fun j v e1 e2 e3=>⟨u,rfl,by rw[same e1 e3];exact hv⟩⟩
   ·obtain⟨w,⟨o,ho,hd⟩,r⟩:=R.cell y b e
    refine nY ?_;clear nY
    exact⟨w,⟨o,(hb.2 b (fun z=>q (Y.inj y x b e (z▸hca)))).trans ho,hd⟩,fun j v e1 e2 e3=>r j v e1 e2 (other e1 q e3)⟩
  ·intro b o e
   refine Aa fun nY=>?_
   obtain⟨o',e1,z⟩:=R.keep b o e
   refine nY ?_;clear nY
   refine⟨o',(hb.2 b (fun q=>?_)).trans e1,z⟩
   refine Aa fun nY=>?_
   obtain⟨p,hp,hp2⟩:=A9 hca
   have:=Y.newc p hp
   rw[hp2,<-q,e]at this;cases this
  ·intro b o e
   refine Aa fun nY=>?_
   obtain⟨ob,g1,g2⟩:=R.objs b o e
   refine nY ?_;clear nY
   exact⟨ob,(hb.2 b (fun q=>(R.sep b o e).2.2 x (q▸hca))).trans g1,g2⟩
theorem Pj(Y:Ai W env c h₀)(R:An W h₀ env c.names H ρ s)(hh:A.handled=none){x y:Str}{px py tp:Pos}{k i j:Nat}{T:Addr}{a b:V}{u1 u2:Value}(hx:c.own x=some i)(hy:c.own y=some j)(ht:s.heap.IsTuple T #[u1,u2])(h1:VR W a u1)(h2:VR W b u2) :
 wpAny W.M A (assign (.Tuple [.Name x px,.Name y py] k tp) env (.ref T)) (fun _ s'=>An W h₀ env c.names H ((ρ.set i (some a)).set j (some b)) s') E s:=by
 refine wpAny_assign_Tuple hh ht rfl rfl fun h' hk=>?_
 have R':An W h₀ env c.names H ρ {s with heap:=h'}:=R.move s.toks fun b o e=>hk b o (fun q=>by rw[q,B5]at e;cases e) e
 refine wpAny_assignInOrder_more ?_
 refine wpAny_assign_Name (wpAny_mono (Pi Y R' hx h1) (fun _ s1 R1=>?_) fun _ _ e=>e)
 refine wpAny_assignInOrder_more ?_
 exact wpAny_assign_Name (wpAny_mono (Pi Y R1 hy h2) (fun _ s2 R2=>wpAny_assignInOrder_none R2) fun _ _ e=>e)
theorem Pk(Y:Ai W env c h₀)(R:An W h₀ env c.names H ρ s)(hh:A.handled=none){target:Expr}{t:Tc}{it:It}{v:Value}{N:Al->Prop}(ht:Aad c target=some t)(hi:ItR W s.heap it v)(q:Lg t it ρ H N) :
 wpAny W.M A (assign target env v) (fun _ s'=>∃ρ',An W h₀ env c.names H ρ' s'/\N ρ') E s:=by
 refine Aa fun nY=>?_
 rcases Ada ht with⟨x,p,rfl,i,h1,rfl⟩ | ⟨x,px,y,py,k,tp,rfl,i,h1,j,h2,rfl⟩
 ·clear ht
  delta Lg at q
  cases hi with
  | v hv=>(refine nY ?_;clear nY;exact wpAny_assign_Name (wpAny_mono (Pi Y R h1 hv) (fun _ s' R'=>⟨_,R',q⟩) fun _ _ e=>e))
  | pair _ _ _=>exact q.elim
 ·clear ht
  delta Lg at q
  cases hi with
  | v hv=>
    rename_i va
    cases va with
    | ref a=>
      cases hv
      simp only at q
      split at q
      ·rename_i a1 a2 e
       obtain⟨items,g1,r1,z1⟩:=R.isTup e
       obtain⟨u1,u2,rfl,v1,v2⟩:=Ak7 r1
       refine nY ?_;clear nY
       exact wpAny_mono (Pj Y R hh h1 h2 g1 v1 v2) (fun _ s' R'=>⟨_,R',q⟩) fun _ _ e=>e
      ·exact q.elim
    | _=>exact q.elim
  | pair ht v1 v2=>(refine nY ?_;clear nY;exact wpAny_mono (Pj Y R hh h1 h2 ht v1 v2) (fun _ s' R'=>⟨_,R',q⟩) fun _ _ e=>e)
end Mine.Internal
namespace Mine.Internal
open PySem PySem.W PyProof.Rows
variable {W:Wd} {G:A5} {A:Around} {h₀:HB} {env:Env} {c:Cx} {names:List Str} {H H':AH} {ρ ρ':Al} {s s':Shared} {E:Value->Shared->Prop} {n:Nat} {Q:Ak} {Er:EP}
noncomputable def Hs(W:Wd)(h₀:HB)(env:Env)(names:List Str)(N:Al->AH->Prop)(Rt:Ak)(f:Flow)(s':Shared):Prop:=match f with
 | .next=>(Ka fun ρ' H'=>An W h₀ env names H' ρ' s'/\N ρ' H')
 | .ret v=>(U8 fun a H' ρ'=>D3 (VR W a v) (An W h₀ env names H' ρ' s') (Rt a H'))
 | _=>False
noncomputable def EMs(W:Wd)(h₀:HB)(env:Env)(names:List Str)(b:Bool)(ρ:Al)(E:EP)(v:Value)(s':Shared):Prop:=∃ρ':Al,(b=true->ρ'=ρ)/\EM W h₀ env names ρ' E v s'
theorem EM.st{b:Bool}{v:Value}(x:EM W h₀ env names ρ Er v s):EMs W h₀ env names b ρ Er v s:=⟨ρ,fun _=>rfl,x⟩
noncomputable def P7(W:Wd)(G:A5)(n:Nat)(c:Cx)(st:Stmt)(x:S):Prop:=
 ∀ {A:Around} {env:Env} {h₀:HB} {H:AH} {ρ:Al} {s:Shared} {N:Al->AH->Prop} {Rt:Ak} {E:EP},Ms A c h₀ env n->Ai W env c h₀->An W h₀ env c.names H ρ s->Gv G (Ae G n) x ρ H N Rt E->
  wpAny W.M A (exec st env) (Hs W h₀ env c.names N Rt) (EMs W h₀ env c.names (Q4 x) ρ E) s
noncomputable def Go(W:Wd)(G:A5)(n:Nat)(c:Cx)(sts:List Stmt)(xs:List S):Prop:=
 ∀ {A:Around} {env:Env} {h₀:HB} {H:AH} {ρ:Al} {s:Shared} {N:Al->AH->Prop} {Rt:Ak} {E:EP},Ms A c h₀ env n->Ai W env c h₀->An W h₀ env c.names H ρ s->A1 G (Ae G n) xs ρ H N Rt E->
  wpAny W.M A (execs sts env) (Hs W h₀ env c.names N Rt) (EMs W h₀ env c.names (Ig xs) ρ E) s
theorem Abl:Go W G n c [] []:=by
 intro A env h₀ H ρ s N Rt E ok Y R q
 exact wpAny_pure ⟨ρ,H,R,q⟩
theorem Abm{st:Stmt}{x:S}(h:P7 W G n c st x):Go W G n c [st] [x]:=by
 intro A env h₀ H ρ s N Rt E ok Y R q
 simp only[J0,J1]at q
 refine wpAny_execs_cons (wpAny_mono (h ok Y R q) (fun f s' r=>?_) fun _ _ e=>e)
 cases f with
 | next=>exact wpAny_pure r
 | ret v=>exact r
 | brk=>exact r.elim
 | cont=>exact r.elim
theorem Yi{st:Stmt}{sts:List Stmt}{x y:S}{xs:List S}(h:P7 W G n c st x)(hs:Go W G n c sts (y::xs)):Go W G n c (st::sts) (x::y::xs):=by
 intro A env h₀ H ρ s N Rt E ok Y R q
 rw[J1]at q
 refine wpAny_execs_cons (wpAny_mono (h ok Y R q) (fun f s' r=>?_) fun _ _ e=>(let ⟨ρ',_,z⟩:=e;⟨ρ',nofun,z⟩))
 cases f with
 | next=>
   obtain⟨ρ',H',R',q'⟩:=r
   exact wpAny_mono (hs ok Y R' q') (fun _ _ r=>r) fun _ _ e=>(let ⟨ρ',_,z⟩:=e;⟨ρ',nofun,z⟩)
 | ret v=>exact r
 | brk=>exact r.elim
 | cont=>exact r.elim
/-! the stations of a raise -/
noncomputable abbrev Fs(l:List Env)(fs:List Addr):Prop:=∀x∈l,x.scope.kind≠ .module/\∃L,x.frame=some L/\L∈fs
theorem An.funFrames(R:An W h₀ env names H ρ s)(Y:Ai W env c h₀){base:Heap}(hb:∀L∈env.locals::h₀.fs,base.get? L=none):∀ {l:List Env},Fs l (env.locals::h₀.fs)->s.heap.FunFrames base l
 | [],_=>trivial
 | x::r,h=>by
   obtain⟨k,L,hf,hm⟩:=h x (.head _)
   have:∃o,s.heap.get? L=some o/\∀vs,o.data≠ .fields vs:=by
    rcases List.mem_cons.mp hm with rfl|hm
    ·obtain⟨m,⟨o,es,ep,h1,h2,_⟩,_⟩:=R.ns
     exact⟨o,h1,fun vs q=>by rw[h2]at q;cases q⟩
    ·exact R.fsd Y hm
   obtain⟨o,ho,hd⟩:=this
   exact⟨k,⟨L,o,hf,hb L hm,ho,hd⟩,R.funFrames Y hb fun y hy=>h y (.tail _ hy)⟩
noncomputable def K4(h₀:HB)(env:Env)(e:Addr)(S:List Addr)(h:Heap):Heap:=hideAll h ((env.locals::h₀.fs)++e::S)
theorem Eu{e b:Addr}{S:List Addr}{h:Heap}(m:b∈env.locals::h₀.fs\/b=e\/b∈S):(K4 h₀ env e S h).get? b=none:=
 hideAll_none _ (by
  rcases m with m|rfl|m
  ·exact List.mem_append_left _ m
  ·exact List.mem_append_right _ (.head _)
  ·exact List.mem_append_right _ (.tail _ m))
theorem K5{e:Addr}{S:List Addr}{h:Heap}:(K4 h₀ env e S h).StaysIn h:=fun _ _ q=>of_hideAll _ q
theorem Ud{e b:Addr}{S:List Addr}{h:Heap}{o:Obj}(q:h.get? b=some o)(n1:b≠env.locals)(n2:b∉h₀.fs)(n3:b≠e)(n4:b∉S):(K4 h₀ env e S h).get? b=some o:=
 hideAll_get _ q fun m=>by
  rcases List.mem_append.mp m with m|m
  ·rcases List.mem_cons.mp m with m|m
   ·exact n1 m
   ·exact n2 m
  ·rcases List.mem_cons.mp m with m|m
   ·exact n3 m
   ·exact n4 m
theorem Pl(R:An W h₀ env names H ρ s)(Y:Ai W env c h₀){e:Addr}{cc:Cn}{kk:Bool}{cls a0 fl:Value}{S:List Addr}{h':Heap}(he:H e=some (.exc cc kk))(hS:Fa h₀ env H S){oe:Obj}{ws:Array Value}(ho:s.heap.get? e=some oe)(hcl:oe.cls=cls)(hdt:oe.data = .fields ws)(q:Er (.ref e) H)
 (k4:∀o' ws',h'.get? e=some o'->o'.data = .fields ws'->ws'[2]? = ws[2]?) (k1:(K4 h₀ env e S s.heap).StaysIn h') (k2:h'.TracedAtW (K4 h₀ env e S s.heap) e cls a0 fl) (k3:s.heap.UpToSlots h'):Vl W h₀ env names ρ Er (some fl) (.ref e) {s with heap:=h'}:=by
 refine Aa fun nY=>?_
 obtain⟨oe',vs,T,oT,ts,t1,⟨t2,t3⟩,t4,t5,t6,t7,t8,t9,t10⟩:=k2
 obtain⟨p1,p2,p3⟩:=R.sep e _ he
 obtain⟨ob,b1,b2⟩:=R.objs e _ he
 rw[ho]at b1
 cases b1
 have nofs:∀b,h₀.get? b=none->b∉h₀.fs:=fun b e m=>Y.fsok b m e
 have stay:∀b o,s.heap.get? b=some o->b≠env.locals->h₀.get? b=none\/b∉h₀.fs->b≠e->b∉S->h'.get? b=some o:=fun b o z n1 n2 n3 n4=>
  k1 b o (Ud z n1 (n2.elim (nofs b) id) n3 n4)
 have onlyT:∀b o,s.heap.get? b=some o->b≠env.locals->h₀.get? b=none\/b∉h₀.fs->b≠e->b∉S->b≠T:=fun b o z n1 n2 n3 n4 x=>by
  rw[<-x,Ud z n1 (n2.elim (nofs b) id) n3 n4]at t6;cases t6
 have cellS:∀x a,env.cells.lookup x=some a->a≠env.locals/\h₀.get? a=none/\a≠e/\a∉S:=fun x a z=>by
  refine Aa fun nY=>?_
  obtain⟨p,hp,hp2⟩:=A9 z
  refine nY ?_;clear nY
  exact⟨Y.apart x a z,hp2▸Y.newc p hp,fun x'=>p3 x (x'▸z),fun m=>(hS a m).2.2.2 p hp hp2⟩
 have nsL:(Ka fun o sl=>D3 (s.heap.get? env.locals=some o) ((∀vs,o.data≠ .fields vs)) (h'.get? env.locals=some {o with slots:=sl})):=by
  refine Aa fun nY=>?_
  obtain⟨m,⟨o,es,ep,h1,h2,_⟩,_⟩:=R.ns
  obtain⟨sl,z⟩:=k3 _ _ h1 fun vs q=>by rw[h2]at q;cases q
  refine nY ?_;clear nY
  exact⟨o,sl,h1,fun vs q=>(by rw[h2]at q;cases q),z⟩
 refine nY ?_;clear nY
 refine⟨e,H,cc,kk,rfl,⟨?_,?_,?_,?_,R.sep,R.gens,R.os,R.above,R.low⟩,he,⟨oe',vs,a0,t1,t4,t3,T,oT,ts,t5,t7,t8,t9,t10,fun b hb=>?_⟩,q⟩
 ·refine Aa fun nY=>?_
  obtain⟨m,z,r⟩:=R.ns
  refine nY ?_;clear nY
  exact⟨m,k3.ns z,r⟩
 ·intro x a z
  refine Aa fun nY=>?_
  obtain⟨w,⟨o,h1,h2⟩,r⟩:=R.cell x a z
  obtain⟨n1,n2,n3,n4⟩:=cellS x a z
  refine nY ?_;clear nY
  exact⟨w,⟨o,stay a o h1 n1 (.inl n2) n3 n4,h2⟩,r⟩
 ·intro b o z
  refine Aa fun nY=>?_
  obtain⟨o',z1,z2⟩:=R.keep b o z
  have n1:b≠env.locals:=fun x=>by rw[x,Y.new]at z;cases z
  have n3:b≠e:=fun x=>by rw[x,p1]at z;cases z
  have n4:b∉S:=fun m=>by rw[(hS b m).2.1]at z;cases z
  cases Classical.em (b∈h₀.fs)with
  | inl m=>
    obtain⟨o2,y1,y2⟩:=R.fsd Y m
    rw[z1]at y1;cases y1
    obtain⟨sl,y3⟩:=k3 b _ z1 y2
    refine nY ?_;clear nY
    exact⟨_,y3,z2.trans (.inr ⟨⟨m,(Y.fsd b m).1⟩,sl,rfl⟩)⟩
  | inr m=>(refine nY ?_;clear nY;exact⟨o',stay b o' z1 n1 (.inr m) n3 n4,z2⟩)
 ·intro a o z
  refine Aa fun nY=>?_
  cases Classical.em (a=e)with
  | inl x=>
    subst x
    rw[he]at z;cases z
    refine nY ?_;clear nY
    refine⟨oe',t1,?_⟩
    refine Aa fun nY=>?_
    cases b2 with
    | exc x1 x2 x3 x4=>
      rw[hdt]at x3
      cases x3
      refine nY ?_;clear nY
      exact .exc x1 (by rw[t2,<-hcl];exact x2) t4 (fun w=>(k4 oe' vs t1 t4).trans (x4 w))
  | inr x=>
    obtain⟨ob',z1,z2⟩:=R.objs a o z
    refine nY ?_;clear nY
    exact⟨ob',stay a ob' z1 (R.sep a o z).2.1 (.inl (R.sep a o z).1) x (fun m=>by rw[(hS a m).1]at z;cases z),z2⟩
 ·have hb':b=T:=by simpa using hb
  subst hb'
  refine⟨?_,?_,?_,?_⟩
  ·cases z:H b with
   | none=>rfl
   | some o=>
     refine Aa fun nY=>?_
     obtain⟨ob',z1,_⟩:=R.objs b o z
     exact absurd rfl (onlyT b ob' z1 (R.sep b o z).2.1 (.inl (R.sep b o z).1) t7 fun m=>by rw[(hS b m).1]at z;cases z)
  ·cases z:h₀.get? b with
   | none=>rfl
   | some o=>
     refine Aa fun nY=>?_
     obtain⟨o',z1,_⟩:=R.keep b o z
     cases Classical.em (b∈h₀.fs)with
     | inl m=>
       obtain⟨o2,y1,y2⟩:=R.fsd Y m
       obtain⟨sl,y3⟩:=k3 b _ y1 y2
       rw[t8]at y3;cases y3
       exact absurd t9 (y2 _)
     | inr m=>exact absurd rfl (onlyT b o' z1 (fun x=>by rw[x,Y.new]at z;cases z) (.inr m) t7 fun m=>by rw[(hS b m).2.1]at z;cases z)
  ·intro x
   refine Aa fun nY=>?_
   obtain⟨o,sl,_,y2,y3⟩:=nsL
   rw[<-x,t8]at y3;cases y3
   exact absurd t9 (y2 _)
  ·intro p hp x
   refine Aa fun nY=>?_
   obtain⟨w,⟨o,h1,_⟩,_⟩:=R.cell p.1 p.2 (Y.look p hp)
   obtain⟨n1,n2,n3,n4⟩:=cellS p.1 p.2 (Y.look p hp)
   refine nY ?_;clear nY
   exact onlyT p.2 o h1 n1 (.inl n2) n3 n4 x
theorem Ad1{h₀:HB}{H:AH}:Fa h₀ env H []:=fun _ m=>nomatch m
theorem Abn{M:Model}{Em:Value->Shared->Prop}{base:Heap}{outer:List Env}{L e:Addr}{oe:Obj}{vs:Array Value}{head:Value}{hn:Bool}{Q:Unit->Shared->Prop}(hfr:A.frames=some (env::outer))(hl:s.heap.FunFrames base (env::outer))(hf:env.frame=some L)(he:s.heap.get? e=some oe)(hd:oe.data = .fields vs)(hsz:1<vs.size)
 (h:∀h' T oT ts,(∀b o,b≠e->s.heap.get? b=some o->∃sl,h'.get? b=some {o with slots:=sl})->(∀b o,b≠e->b∉(env::outer).filterMap (·.frame)->s.heap.get? b=some o->h'.get? b=some o)->
   h'.get? e=some (Obj.mapFields (·.setIfInBounds 1 (.ref T)) oe)->s.heap.get? T=none->T≠e->h'.get? T=some oT->oT.data = .fields ts->ts[3]? = some (rawInt L)->Q () {s with heap:=h'}) :
 wpAny M A (do let a <-frameOf env;let pl <-entryPlaceOf L hn;let b <-EntryCells.newEntry head a .none (rawInt L) .none pl;setField (.ref e) 1 b) Q Em s:=by
 have hne:e∉(env::outer).filterMap (·.frame):=fun hm=>by
  obtain⟨_,o,ho,hx⟩:=hl.mem hm
  rw[he]at ho;cases ho;exact hx vs hd
 refine wpAny_bind (wpAny_frameOf_fun hfr hl hf fun h₁ hs=>?_)
 refine wpAny_bind (wpAny_entryPlaceOf fun pl hpl=>?_)
 unfold EntryCells.newEntry newFields
 refine wpAny_bind (wpAny_newObj_type ?_ (hpl.sizeOk5 _ _ _ _ _))
 generalize hv:([head,.ref L,.none,rawInt L,.none]++(if pl.isEmpty then List.replicate 6 Value.none else pl))=ws
 have h3:ws.toArray[3]? = some (rawInt L):=by rw[<-hv];rcases hpl with rfl | ⟨_,_,_,_,_,_,_,rfl⟩<;>simp
 have e1:h₁.get? e=some oe:=(hs.2.1 e hne).trans he
 have e2:=Heap.get?_push_of_some (h:=h₁) {cls:= .type "traceback",dict:=none,data:= .fields ws.toArray} e1
 refine wpAny_setField e2 hd hsz (h _ h₁.objs.size {cls:= .type "traceback",dict:=none,data:= .fields ws.toArray} ws.toArray (fun b o hb e=>?_) (fun b o hb hf e=>?_) (Heap.get?_update_self _ e2 (Obj.isFreed_of_fields (Obj.data_mapFields hd _))) ?_ (Nat.ne_of_gt (Heap.lt_size e1)) ?_ rfl h3)
 ·obtain⟨sl,z⟩:=hs.2.2 b o e
  exact⟨sl,by rw[Heap.get?_update_other _ _ (Ne.symm hb)];exact Heap.get?_push_of_some _ z⟩
 ·rw[Heap.get?_update_other _ _ (Ne.symm hb)]
  exact Heap.get?_push_of_some _ ((hs.2.1 b hf).trans e)
 ·cases z:s.heap.get? h₁.objs.size with
  | none=>rfl
  | some o=>obtain⟨sl,z1⟩:=hs.2.2 _ o z;exact absurd (Heap.lt_size z1) (Nat.lt_irrefl _)
 ·rw[Heap.get?_update_other _ _ (Nat.ne_of_lt (Heap.lt_size e1))]
  exact Heap.get?_push_size _ rfl
theorem Abo(R:An W h₀ env names H ρ s)(Y:Ai W env c h₀){l:List Env}(stk:Fs l (env.locals::h₀.fs)){e T:Addr}{cc:Cn}{kk:Bool}{fl a0:Value}{S:List Addr}{h':Heap}{oe oT:Obj}{vs ts:Array Value}(he:H e=some (.exc cc kk))(hS:Fa h₀ env H S)(hSf:∀b∈S,∀o,s.heap.get? b=some o->∃ts,o.data = .fields ts)
 (ho:s.heap.get? e=some oe) (hd:oe.data = .fields vs) (h0:vs[0]? = some a0) (hsz:1<vs.size) (q:Er (.ref e) H)
 (f1:∀b o,b≠e->b∉S->s.heap.get? b=some o->∃sl,h'.get? b=some {o with slots:=sl}) (f2:∀b o,b≠e->b∉S->b∉l.filterMap (·.frame)->s.heap.get? b=some o->h'.get? b=some o)
 (f3:h'.get? e=some (Obj.mapFields (·.setIfInBounds 1 (.ref T)) oe)) (f4:s.heap.get? T=none) (f5:T≠e) (f6:h'.get? T=some oT) (f7:oT.data = .fields ts) (f8:ts[3]? = some fl):Vl W h₀ env names ρ Er (some fl) (.ref e) {s with heap:=h'} /\s.heap.UpToSlots h':=by
 have hm:=Obj.data_mapFields hd (·.setIfInBounds 1 (.ref T))
 have up:s.heap.UpToSlots h':=fun b o z n=>f1 b o (fun x=>by rw[x,ho]at z;cases z;exact n vs hd) (fun m=>by obtain⟨ts,x⟩:=hSf b m o z;exact n ts x) z
 refine⟨Pl (S:=S) (a0:=a0) R Y he hS ho rfl hd q (fun o' ws' z1 z2=>?_) (fun b o z=>?_) ⟨_,_,T,oT,ts,f3,⟨Obj.cls_mapFields _ _,?_⟩,hm,?_,?_,f5,f6,f7,f8⟩ up,up⟩
 ·rw[f3]at z1;cases z1
  rw[hm]at z2;cases z2
  exact Array.getElem?_setIfInBounds_ne (by decide)
 ·have nl:b∉env.locals::h₀.fs:=fun m=>by rw[Eu (.inl m)]at z;cases z
  exact f2 b o (fun x=>by rw[Eu (.inr (.inl x))]at z;cases z) (fun m=>by rw[Eu (.inr (.inr m))]at z;cases z) (fun m=>by
   obtain⟨x,hx,hx2⟩:=List.mem_filterMap.mp m
   obtain⟨_,L,hL,hm⟩:=stk x hx
   rw[hx2]at hL;cases hL
   exact nl hm) (K5 b o z)
 ·rw[Array.getElem?_setIfInBounds_ne (by decide)];exact h0
 ·simp[hsz]
 ·cases z:(K4 h₀ env e S s.heap).get? T with
  | none=>rfl
  | some o=>rw[K5 T o z]at f4;cases f4
theorem M2{M:Model}{Em:Value->Shared->Prop}{outer:List Env}(hfr:A.frames=some (env::outer))(hf:env.frame=some env.locals)(stk:Fs (env::outer) (env.locals::h₀.fs))(Y:Ai W env c h₀){Q:Unit->Shared->Prop}{v:Value}
 (x:EM W h₀ env names ρ Er v s) (h:∀s',s.heap.UpToSlots s'.heap->Vl W h₀ env names ρ Er (some (rawInt env.locals)) v s'->Q () s'):wpAny M A (noteFrame v env) Q Em s:=by
 refine Aa fun nY=>?_
 obtain⟨fl,e,H,cc,kk,rfl,R,he,⟨oe,vs,a0,t1,t2,t3,t4⟩,q⟩:=x
 have hl:s.heap.FunFrames (K4 h₀ env e [] s.heap) (env::outer):=R.funFrames Y (fun L m=>Eu (.inl m)) stk
 refine nY ?_;clear nY
 unfold noteFrame
 simp only[hf]
 refine Aa fun nY=>?_
 cases fl with
 | none=>
   refine nY ?_;clear nY
   refine wpAny_bind (wpAny_field t1 t2 t4 ?_)
   rw[if_neg (by decide)]
   refine Abn hfr hl hf t1 t2 (Array.getElem?_eq_some_iff.mp t4).1 fun h' T oT ts f1 f2 f3 f4 f5 f6 f7 f8=>?_
   obtain⟨z1,z2⟩:=Abo (S:=[]) R Y stk he Ad1 (fun _ m=>nomatch m) t1 t2 t3 (Array.getElem?_eq_some_iff.mp t4).1 q (fun b o n _=>f1 b o n) (fun b o n _=>f2 b o n) f3 f4 f5 f6 f7 f8
   exact h _ z2 z1
 | some fl=>
   obtain⟨T,oT,ts,g1,g2,g3,g4,g5,g6⟩:=t4
   refine nY ?_;clear nY
   refine wpAny_bind (wpAny_field t1 t2 g1 ?_)
   rw[if_pos (show (Value.ref T != Value.none)=true from by simp)]
   refine wpAny_bind (wpAny_field g3 g4 g5 ?_)
   cases hx:fl==rawInt env.locals with
   | true=>
     have hx:=beq_iff_eq.mp hx
     subst hx
     exact wpAny_pure (h s (.refl _) ⟨e,H,cc,kk,rfl,R,he,⟨oe,vs,a0,t1,t2,t3,T,oT,ts,g1,g2,g3,g4,g5,g6⟩,q⟩)
   | false=>
     rw[if_neg (by decide)]
     refine wpAny_bind (wpAny_setField g3 g4 (Array.getElem?_eq_some_iff.mp g5).1 ?_)
     have other:∀b,b≠T->(s.heap.update T (Obj.mapFields (·.setIfInBounds 3 Value.none))).get? b=s.heap.get? b:=fun b hb=>Heap.get?_update_other _ _ (Ne.symm hb)
     have nT:∀b o,s.heap.get? b=some o->(∀vs,o.data≠ .fields vs)->b≠T:=fun b o z n x=>by rw[x,g3]at z;cases z;exact n _ g4
     refine Abn hfr (hl.of_keeps fun b o hb hn=>⟨o,(other b (nT b o hb hn)).trans hb,rfl⟩) hf ((other e (Ne.symm g2)).trans t1) t2 (Array.getElem?_eq_some_iff.mp g1).1 fun h' T' oT' ts' f1 f2 f3 f4 f5 f6 f7 f8=>?_
     have hT':T'≠T:=fun x=>by
      have:=Heap.get?_update_self (Obj.mapFields (·.setIfInBounds 3 Value.none)) g3 (Obj.isFreed_of_fields (Obj.data_mapFields g4 _))
      have f4':(s.heap.update T (Obj.mapFields (·.setIfInBounds 3 Value.none))).get? T'=none:=f4
      rw[x,this]at f4';cases f4'
     obtain⟨z1,z2⟩:=Abo (S:=[T]) R Y stk he g6 (fun b m o z=>by rw[List.mem_singleton.mp m,g3]at z;cases z;exact⟨_,g4⟩) t1 t2 t3 (Array.getElem?_eq_some_iff.mp g1).1 q
      (fun b o n m z=>f1 b o n ((other b fun x=>m (by simp[x])).trans z)) (fun b o n m k z=>f2 b o n k ((other b fun x=>m (by simp[x])).trans z)) f3 ((other T' hT').symm.trans f4) f5 f6 f7 f8
     exact h _ z2 z1
theorem Abp{M:Model}{Em:Value->Shared->Prop}(Y:Ai W env c h₀){Q:Unit->Shared->Prop}{v fl:Value}{f:Option Addr}
 (x:Vl W h₀ env names ρ Er (some fl) v s) (h:∀s',Vl W h₀ env names ρ Er (some (f.elim Value.none fun f=>rawInt f)) v s'->Q () s'):wpAny M A (setFlight v f) Q Em s:=by
 obtain⟨e,H,cc,kk,rfl,R,he,⟨oe,vs,a0,t1,t2,t3,T,oT,ts,g1,g2,g3,g4,g5,g6⟩,q⟩:=x
 unfold setFlight
 refine wpAny_bind (wpAny_field t1 t2 g1 ?_)
 rw[if_pos (show (Value.ref T != Value.none)=true from by simp)]
 have hsz:3<ts.size:=(Array.getElem?_eq_some_iff.mp g5).1
 refine wpAny_setField g3 g4 hsz (h _ ?_)
 generalize f.elim Value.none (fun f=>rawInt f)=y
 have other:∀b,b≠T->(s.heap.update T (Obj.mapFields (·.setIfInBounds 3 y))).get? b=s.heap.get? b:=fun b hb=>Heap.get?_update_other _ _ (Ne.symm hb)
 refine Pl (S:=[T]) R Y he g6 t1 rfl t2 q (fun o' ws' z1 z2=>?_) (fun b o z=>(other b fun x=>?_).trans (K5 b o z)) ⟨oe,vs,T,_,_,(other e (Ne.symm g2)).trans t1,⟨rfl,t3⟩,t2,g1,Eu (.inr (.inr (.head _))),g2,Heap.get?_update_self _ g3 (Obj.isFreed_of_fields (Obj.data_mapFields g4 _)),Obj.data_mapFields g4 _,?_⟩ fun b o z n=>⟨o.slots,(other b fun x=>?_).trans z⟩
 ·rw[other e (Ne.symm g2),t1]at z1;cases z1
  rw[t2]at z2;cases z2;rfl
 ·rw[x,Eu (.inr (.inr (.head _)))]at z;cases z
 ·simp[hsz]
 ·rw[x,g3]at z;cases z;exact n _ g4
theorem Gp{M:Model}{Em:Value->Shared->Prop}(Y:Ai W env c h₀){Q:Unit->Shared->Prop}{v fl:Value}
 (x:Vl W h₀ env names ρ Er (some fl) v s) (h:∀s',Vl W h₀ env names ρ Er (some .none) v s'->Q () s'):wpAny M A (setFlight v none) Q Em s:=Abp Y x h
theorem Yj{M:Model}{Em:Value->Shared->Prop}(Y:Ai W env c h₀){v fl:Value}
 (x:Vl W h₀ env names ρ Er (some fl) v s) (h:∀s',EM W h₀ env names ρ Er v s'->Em v s'):cameBackBy M A env Em v s:=by
 unfold cameBackBy
 have x2:=x
 refine Aa fun nY=>?_
 obtain⟨e,H,cc,kk,rfl,R,he,⟨oe,vs,a0,t1,t2,t3,T,oT,ts,g1,g2,g3,g4,g5,g6⟩,q⟩:=x
 refine nY ?_;clear nY
 refine wpAny_bind (wpAny_field t1 t2 g1 ?_)
 rw[if_neg (show ¬(Value.ref T==Value.none)=true from by simp)]
 exact Abp Y x2 fun s' z=>h s' ⟨_,z⟩
theorem Ms.tops(ok:Ms A c h₀ env n)(hc:c.cmp=false):(Oo fun outer=>D3 (A.frames=some (env::outer)) (env.frame=some env.locals) (Fs (env::outer) (env.locals::h₀.fs))):=by
 refine Aa fun nY=>?_
 obtain⟨outer,h1,h2⟩:=ok.top hc
 obtain⟨l,h3,h4⟩:=ok.stk
 rw[h1]at h3;cases h3
 refine nY ?_;clear nY
 exact⟨outer,h1,h2,h4⟩
theorem Pm(ok:Ms A c h₀ env n)(hc:c.cmp=false)(Y:Ai W env c h₀){v:Value}(x:EM W h₀ env names ρ' Er v s):notedBy W.M A env (fun e s'=>cameBackBy W.M A env (EMs W h₀ env names false ρ Er) e s') v s:=by
 obtain⟨outer,h1,h2,h3⟩:=ok.tops hc
 exact M2 h1 h2 h3 Y x fun s' _ y=>Yj Y y fun s2 z=>⟨ρ',nofun,z⟩
theorem Hs.unprot{N:Al->AH->Prop}{Rt:Ak}{f:Flow}(R:An W h₀ env names H ρ s)(Y:Ai W env c h₀)(r:Hs W (Mine.Internal.prot env h₀.fs H s.heap) env names N Rt f s'):Hs W h₀ env names N Rt f s':=by
 cases f with
 | next=>obtain⟨ρ',H',R',q⟩:=r;exact⟨ρ',H',R.unprot Y R',q⟩
 | ret v=>obtain⟨a,H',ρ',hv,R',q⟩:=r;exact⟨a,H',ρ',hv,R.unprot Y R',q⟩
 | brk=>exact r
 | cont=>exact r
theorem Src.stays{target:Expr}{I:Addr}{hs:List Addr}{its:List It}{g:AH->Prop}{Obs:Nat->Heap->Prop}(S:Src W A target I hs its g Obs){i:Nat}(Y:Ai W env c h₀)(hid:Fa h₀ env H hs)(st:Obs i s.heap){names':List Str}(R':An W (Mine.Internal.prot env h₀.fs H s.heap) env names' H' ρ' s') :
 Obs i s'.heap/\Fa h₀ env H' hs:=by
 refine⟨S.frame i _ _ st fun b hb o e=>Mine.Internal.stays e (hid b hb).1 (hid b hb).2.2.1 (hid b hb).2.2.2 (fun m=>Y.fsok b m (hid b hb).2.1) R',fun b hb=>⟨?_,(hid b hb).2⟩⟩
 obtain⟨o,e⟩:=S.live i _ st b hb
 cases q:H' b with
 | none=>rfl
 | some z=>
   have:=(R'.sep b z q).1
   rw[B6 e (hid b hb).1 (hid b hb).2.2.1 (hid b hb).2.2.2]at this
   cases this
theorem Ci{α:Type}{l:List α}{i:Nat}{x:α}{r:List α}(h:l.drop i=x::r):l[i]? = some x/\l.drop (i+1)=r:=by
 constructor
 ·have:=congrArg List.head? h
  simpa using this
 ·have:=congrArg List.tail h
  simpa using this
noncomputable abbrev Ak8(W:Wd)(h₀:HB)(env:Env)(names:List Str)(hs:List Addr)(Obs:Nat->Heap->Prop)(its:List It)(lp:List It->Al->AH->Prop)(k:Nat)(s:Shared):Prop:=
 (U8 fun i H ρ=>An6 (An W h₀ env names H ρ s) (Fa h₀ env H hs) (Obs i s.heap) (lp (its.drop i) ρ H) (i<=its.length) (k=its.length-i+1))
theorem Agt(hf:c.hnd=false)(hcm:c.cmp=false){target iter:Expr}{body:List Stmt}{pos:Pos}{t:Tc}{x:X}{xs:List S}(hs:SS W G n c iter x (Lu target))(ht:Aad c target=some t)(hb:Go W G n c body xs)(hset:∀env v,foldedSetIterable iter env v=pure v) :
 P7 W G n c (.For target iter body [] pos) (.for t x xs):=by
 intro A env h₀ H ρ₀ s N Rt E ok Y R q
 simp only[Jw,Bz,Bl,Jx,Ja,Jy,Jz,Kb,Dz,J0,J1,Cp]at q
 refine wpAny_For (hs rfl ok Y R q (fun _ _ e=>e.st) fun I hss its g Obs H' s' S hid st R' q'=>?_) (hset env)
 refine codeAny_forLoop_any (Ak8 W h₀ env c.names hss Obs its (loop g t (fun ρ H K=>A1 G (Ae G n) xs ρ H K Rt E) N)) ?_ (its.length+1)
  ⟨0,H',ρ₀,R',hid,st,q',Nat.zero_le _,by simp⟩
 rintro k s hP3
 refine Aa fun nY=>?_
 obtain⟨i,H,ρ,R,hid,st,q,hi,rfl⟩:=hP3
 refine nY ?_;clear nY
 cases hd:its.drop i with
 | nil=>
   rw[hd]at q
   obtain⟨g1,q⟩:=q
   have:i=its.length:=by
    have:=congrArg List.length hd
    simp at this;exact Nat.le_antisymm hi (Nat.sub_eq_zero_iff_le.mp this)
   subst this
   refine wpAny_mono (S.done Y R hid g1 st) (fun r s₁ h₁=>?_) fun _ _ e=>e
   obtain⟨rfl,R1,_⟩:=h₁
   exact wpAny_pure ⟨ρ,H,R1,q⟩
 | cons y r=>
   rw[hd]at q
   refine Aa fun nY=>?_
   obtain⟨g1,q⟩:=q
   obtain⟨hx,hd'⟩:=Ci hd
   have hlt:i<its.length:=(List.getElem?_eq_some_iff.mp hx).1
   refine nY ?_;clear nY
   refine wpAny_mono (S.turn (E':=notedBy W.M A env fun e s'=>cameBackBy W.M A env (EMs W h₀ env c.names (Q4 (.for t x xs)) ρ₀ E) e s') Y R hid g1 st hx) (fun r s₁ h₁=>?_) fun _ _ e=>e
   obtain⟨v,rfl,h₁⟩:=h₁
   refine wpAny_mono h₁ (fun _ s₂ h₂=>?_) fun _ _ e=>e
   refine Aa fun nY=>?_
   obtain⟨R2,st2,hit,_⟩:=h₂
   have YP:=Y.prot R2
   refine nY ?_;clear nY
   refine wpAny_mono (Pk YP R2.prot (ok.handled hf) ht hit q) (fun _ s₃ h₃=>?_) fun _ _ e=>e
   refine Aa fun nY=>?_
   obtain⟨ρ3,R3,q3⟩:=h₃
   refine nY ?_;clear nY
   refine wpAny_mono (hb (ok.prot Y R2) YP R3 q3) (fun f s₄ h₄=>?_) fun _ _ e=>(let ⟨_,_,z⟩:=e;Pm ok hcm Y (EM.unprot R2 Y z))
   refine Aa fun nY=>?_
   cases f with
   | next=>
     obtain⟨ρ4,H4,R4,q4⟩:=h₄
     obtain⟨st4,hid4⟩:=S.stays Y hid st2 R4
     refine nY ?_;clear nY
     refine⟨its.length-(i+1)+1,(Af4 hlt),i+1,H4,ρ4,R2.unprot Y R4,hid4,st4,?_,hlt,rfl⟩
     rw[hd'];exact q4
   | ret v=>
     obtain⟨a,H4,ρ4,hv,R4,q4⟩:=h₄
     refine nY ?_;clear nY
     exact⟨a,H4,ρ4,hv,R2.unprot Y R4,q4⟩
   | brk=>exact h₄.elim
   | cont=>exact h₄.elim
theorem Abq(hcm:c.cmp=false){test:Expr}{body:List Stmt}{pos:Pos}{x:X}{xs:List S}(h:ST W G n c test x)(hb:Go W G n c body xs):P7 W G n c (.While test body [] pos) (.while x xs):=by
 intro A env h₀ H ρ s N Rt E ok Y R q
 simp only[Jw,Bz,Bl,Jx,Ja,Jy,Jz,Kb,Dz,J0,J1,Cp]at q
 refine Aa fun nY=>?_
 obtain⟨I,⟨k,hk⟩,step⟩:=q
 refine nY ?_;clear nY
 refine wpAny_While (codeAny_whileLoop (fun k s=>(Ka fun H ρ=>An W h₀ env c.names H ρ s/\I k ρ H)) ?_ k ⟨H,ρ,R,hk⟩)
 rintro k s hP4
 refine Aa fun nY=>?_
 obtain⟨H,ρ,R,hk⟩:=hP4
 refine nY ?_;clear nY
 refine wpAny_mono (h (Q:=fun b H=>if b then A1 G (Ae G n) xs ρ H (fun ρ H=>∃m,m<k/\I m ρ H) Rt E else N ρ H) ok Y R (step k ρ H hk)) (fun b s₂ r=>?_) fun _ _ e=>Pm ok hcm Y e
 refine Aa fun nY=>?_
 obtain⟨H2,R2,q2⟩:=r
 cases b with
 | false=>
   refine nY ?_;clear nY
   simp only[Bool.false_eq_true,if_false]at q2 ⊢
   exact wpAny_pure ⟨ρ,H2,R2,q2⟩
 | true=>
   refine nY ?_;clear nY
   simp only[if_true]at q2 ⊢
   refine wpAny_mono (hb ok Y R2 q2) (fun f s₃ r=>?_) fun _ _ e=>(let ⟨_,_,z⟩:=e;Pm ok hcm Y z)
   refine Aa fun nY=>?_
   cases f with
   | next=>
     obtain⟨ρ3,H3,R3,m,hm,hI⟩:=r
     refine nY ?_;clear nY
     exact⟨m,hm,H3,ρ3,R3,hI⟩
   | ret v=>(refine nY ?_;clear nY;exact r)
   | brk=>exact r.elim
   | cont=>exact r.elim
end Mine.Internal
namespace Mine.Internal
open PySem PySem.W PyProof.Rows
variable {W:Wd} {G:A5} {A:Around} {h₀:HB} {env:Env} {c:Cx} {names:List Str} {H H':AH} {ρ ρ':Al} {s s':Shared} {E:Value->Shared->Prop} {n:Nat} {Q:Ak} {Er:EP}
/-! the cells of a comprehension -/
noncomputable def Gq(env:Env):List (Str×NameKind)->List (Str×Addr)->List (Str×Addr)
 | [],acc=>acc
 | (nm,k)::r,acc=>if k == .free then Gq env r ((nm,(env.cells.lookup nm).getD 0)::acc)else Gq env r acc
theorem Pn(env:Env):∀(l:List (Str×NameKind)) (acc:List (Str×Addr)),(∀p∈l,p.2 = .free->(env.cells.lookup p.1).isSome=true)->
 (forIn l acc fun(x:Str×NameKind) cs=>(match x with|(name,kind)=>if (kind == .free)=true then do let a <-cellOf env name;pure (ForInStep.yield ((name,a)::cs))else pure (ForInStep.yield cs):Sem (ForInStep (List (Str×Addr)))))=pure (Gq env l acc)
 | [],acc,_=>rfl
 | (nm,k)::r,acc,h=>by
   rw[List.forIn_cons]
   have ih:=fun acc=>Pn env r acc fun p hp=>h p (.tail _ hp)
   unfold Gq
   by_cases q:(k==NameKind.free)=true
   ·simp only[q,if_true]
    have hk:=beq_iff_eq.mp q
    obtain⟨a,ha⟩:=Option.isSome_iff_exists.mp (h (nm,k) (.head _) hk)
    simp only at ha
    unfold cellOf
    rw[ha]
    exact ih _
   ·simp only[q,if_false]
    exact ih _
theorem N9{sc:Scope}(h:∀p∈sc.names,p.2 = .free->(env.cells.lookup p.1).isSome=true):closureFor sc env=pure (Gq env sc.names []):=by
 have:=Pn env sc.names [] h
 unfold closureFor
 first
  | (rw[this];rfl)
  | (simp only[bind_pure];exact this)
  | (show (forIn sc.names [] _ >>= _)=_
     erw [this];rfl)
theorem Po:∀ {l:List (Str×NameKind)} {acc:List (Str×Addr)} {p:Str×Addr},p∈Gq env l acc->p∈acc\/((p.1,NameKind.free)∈l/\p.2=(env.cells.lookup p.1).getD 0)
 | [],acc,p,h=> .inl h
 | (nm,k)::r,acc,p,h=>by
   unfold Gq at h
   split at h
   ·rename_i q
    have hk:=beq_iff_eq.mp q
    subst hk
    rcases Po h with h | ⟨h1,h2⟩
    ·rcases List.mem_cons.mp h with rfl|h
     ·exact .inr ⟨.head _,rfl⟩
     ·exact .inl h
    ·exact .inr ⟨.tail _ h1,h2⟩
   ·rcases Po h with h | ⟨h1,h2⟩
    ·exact .inl h
    ·exact .inr ⟨.tail _ h1,h2⟩
theorem Pp:∀ {l:List (Str×NameKind)} {acc:List (Str×Addr)} {p:Str×Addr},p∈acc->p∈Gq env l acc
 | [],acc,p,h=>h
 | (nm,k)::r,acc,p,h=>by
   unfold Gq
   split
   ·exact Pp (.tail _ h)
   ·exact Pp h
theorem Pq:∀ {l:List (Str×NameKind)} {acc:List (Str×Addr)} {x:Str},(x,NameKind.free)∈l->(x,(env.cells.lookup x).getD 0)∈Gq env l acc
 | (nm,k)::r,acc,x,h=>by
   unfold Gq
   rcases List.mem_cons.mp h with e|h
   ·cases e
    exact Pp (.head _)
   ·split
    ·exact Pq h
    ·exact Pq h
theorem A6{β:Type}{l:List (Str×β)}{x:Str}{b:β}(h:l.lookup x=some b):(x,b)∈l:=by
 induction l with
 | nil=>cases h
 | cons p r ih=>
   obtain⟨y,z⟩:=p
   rw[List.lookup_cons]at h
   split at h
   ·rename_i q
    cases h
    rw[beq_iff_eq.mp q];exact .head _
   ·exact .tail _ (ih h)
theorem K6{β:Type}{l:List (Str×β)}{x:Str}{b:β}(h:(x,b)∈l):∃b',l.lookup x=some b':=by
 induction l with
 | nil=>cases h
 | cons p r ih=>
   obtain⟨y,z⟩:=p
   rw[List.lookup_cons]
   split
   ·exact⟨_,rfl⟩
   ·rename_i q
    refine Aa fun nY=>?_
    rcases List.mem_cons.mp h with e|h
    ·cases e;simp at q
    ·refine nY ?_;clear nY
     exact ih h
structure Cm(c:Cx)(sc:Scope)(ts:List Str):Prop where
 kind:sc.kind = .function
 nocell:∀p∈sc.names,p.2≠ .cell
 locals:∀p∈sc.names,p.2 = .local->sc.names.lookup p.1=some .local
 own:∀p∈sc.names,p.2 = .local->p.1∈ts\/p.1∉c.names
 frees:∀p∈sc.names,p.2 = .free->c.sc.names.lookup p.1=some .cell/\sc.names.lookup p.1=some .free
 tsl:∀t∈ts,sc.names.lookup t=some .local
 shape:(∃x,ts = [x])\/(Ka fun x y=>ts = [x,y]/\x≠y)
theorem Yk{sc:Scope}{ts:List Str}(h:Vf c.names c.sc sc ts=true)(hl:(∃x,ts = [x])\/(Ka fun x y=>ts = [x,y])):Cm c sc ts:=by
 delta Vf at h
 simp only[Bool.and_eq_true,List.all_eq_true,beq_iff_eq,bne_iff_ne,Bool.or_eq_true]at h
 obtain⟨⟨⟨⟨h1,h2⟩,h3⟩,h4⟩,h5⟩:=h
 refine⟨h2,fun p hp=>(h4 p hp).1.1,fun p hp q=>?_,fun p hp q=>?_,fun p hp q=>?_,fun t ht=>h5 t ht,?_⟩
 ·rcases(h4 p hp).1.2 with z|z
  ·exact absurd q z
  ·exact z
 ·rcases h3 p hp with(z|z)|z
  ·exact absurd q z
  ·exact .inl (by simpa using z)
  ·exact .inr (by simpa using z)
 ·rcases(h4 p hp).2 with z|z
  ·exact absurd q z
  ·exact z
 ·rcases hl with⟨x,rfl⟩ | ⟨x,y,rfl⟩
  ·exact .inl ⟨x,rfl⟩
  ·exact .inr ⟨x,y,rfl,by simpa using h1⟩
noncomputable def rl(env:Env)(p:Str×NameKind):Str×NameKind:=if (p.2 == .free&&env.scope.kind == .function&&env.kindOf p.1==some .cell)then(p.1,.cell)else p
theorem Agu(p:Str×NameKind):(rl env p).1=p.1:=by unfold rl;split<;>rfl
theorem Kq{sc:Scope}:(relabel sc env).names=sc.names.map (rl env):=by
 unfold relabel
 simp only
 congr 1
theorem M3{x:Str}:∀ {l:List (Str×NameKind)},(l.map (rl env)).lookup x=(l.lookup x).map fun k=>(rl env (x,k)).2
 | []=>rfl
 | (y,z)::r=>by
   rw[List.map_cons,show rl env (y,z)=(y,(rl env (y,z)).2)from Prod.ext (Agu _) rfl,List.lookup_cons,List.lookup_cons]
   cases hx:x==y with
   | true=>rw[beq_iff_eq.mp hx];rfl
   | false=>exact M3
theorem Dl{sc:Scope}{x:Str}{k:NameKind}(h:sc.names.lookup x=some k) :
 (k≠ .free->(relabel sc env).names.lookup x=some k)/\(k = .free->(relabel sc env).names.lookup x=some .cell\/(relabel sc env).names.lookup x=some .free):=by
 rw[Kq,M3,h]
 simp only[Option.map_some,Option.some.injEq,rl]
 constructor
 ·intro hk
  rw[if_neg (by simp[hk])]
 ·rintro rfl
  split
  ·exact .inl rfl
  ·exact .inr rfl
theorem K7{sc:Scope}{x:Str}{k:NameKind}(h:(relabel sc env).names.lookup x=some k):sc.names.lookup x=some k\/(k = .cell/\sc.names.lookup x=some .free):=by
 rw[Kq,M3]at h
 refine Aa fun nY=>?_
 obtain⟨z,h1,h2⟩:=Option.map_eq_some_iff.mp h
 unfold rl at h2
 split at h2
 ·rename_i q
  simp only[Bool.and_eq_true,beq_iff_eq]at q
  refine nY ?_;clear nY
  exact .inr ⟨h2.symm,by rw[h1,q.1.1]⟩
 ·refine nY ?_;clear nY
  exact .inl (by rw[h1];exact congrArg some h2)
noncomputable abbrev Ei(c:Cx)(sc:Scope)(ts:List Str):Cx:=⟨ts++c.names,sc,false,true,false⟩
noncomputable abbrev Ij(sc:Scope)(env:Env)(C:Addr):Env:=compEnvC sc (Gq env sc.names []) C env
section
variable {sc:Scope} {ts:List Str} {C:Addr}
theorem Ri(K:Cm c sc ts)(Y:Ai W env c h₀){p:Str×NameKind}(hp:p∈sc.names)(hf:p.2 = .free):∃a,env.cells.lookup p.1=some a:=
 Y.cells p.1 (.inl (Y.kinds _ _ (K.frees p hp hf).1 (by simp)))
theorem He(K:Cm c sc ts)(Y:Ai W env c h₀){p:Str×Addr}(h:p∈Gq env sc.names []):env.cells.lookup p.1=some p.2/\sc.names.lookup p.1=some .free:=by
 refine Aa fun nY=>?_
 rcases Po h with h | ⟨h1,h2⟩
 ·cases h
 ·obtain⟨a,ha⟩:=Ri K Y h1 rfl
  simp only at ha
  rw[ha]at h2
  refine nY ?_;clear nY
  exact⟨by rw[ha,h2];rfl,(K.frees _ h1 rfl).2⟩
theorem Cd(K:Cm c sc ts)(Y:Ai W env c h₀){x:Str}{a:Addr}(h:(Gq env sc.names []).lookup x=some a):env.cells.lookup x=some a/\sc.names.lookup x=some .free:=He K Y (A6 h)
theorem An.in_comp(K:Cm c sc ts)(Y:Ai W env c h₀)(R:An W h₀ env names H ρ s)(hC:Fa h₀ env H [C]):Gm W h₀ (Mine.Internal.prot (Ij sc env C) (env.locals::h₀.fs) H s.heap).h:=fun b o e=>
 let ⟨o',e1,z⟩:=R.keep b o e;⟨o',B6 e1 (by cases q:H b with
  | none=>rfl
  | some x=>rw[(R.sep b x q).1]at e;cases e) (fun q=>by have h1:=(hC C (.head _)).2.1;have h2:b=C:=q;rw[<-h2,e]at h1;cases h1)
  (fun p hp q=>by
    obtain⟨p',hp',hp2⟩:=A9 (He K Y hp).1
    have:=Y.newc p' hp'
    rw[hp2,q,e]at this;cases this),z⟩
theorem Nr(K:Cm c sc ts)(Y:Ai W env c h₀)(R:An W h₀ env names H ρ s)(hC:Fa h₀ env H [C]):∃o,(Mine.Internal.prot (Ij sc env C) (env.locals::h₀.fs) H s.heap).get? env.locals=some o/\s.heap.get? env.locals=some o:=by
 refine Aa fun nY=>?_
 obtain⟨m,⟨o,es,ep,h1,h2⟩,_⟩:=R.ns
 refine nY ?_;clear nY
 refine⟨o,B6 h1 ?_ (fun q=>(hC C (.head _)).2.2.1 (q:env.locals=C).symm) (fun p hp q=>Y.apart p.1 p.2 (He K Y hp).1 q),h1⟩
 cases q:H env.locals with
 | none=>rfl
 | some x=>exact absurd rfl (R.sep _ _ q).2.1
theorem Ai.comp(K:Cm c sc ts)(Y:Ai W env c h₀)(R:An W h₀ env names H ρ s)(hC:Fa h₀ env H [C])(hC':W.b₀.objs.size<=C):Ai W (Ij sc env C) (Ei c sc ts) (Mine.Internal.prot (Ij sc env C) (env.locals::h₀.fs) H s.heap) where
 kind:=K.kind
 globals:=Y.globals
 builtins:=Y.builtins
 kinds:=fun x k e hk=>(Dl (env:=env) e).1 hk
 frees:=fun x e=>(Dl (env:=env) e).2 rfl
 cells:=fun x e=>by
  have key:sc.names.lookup x=some .free:=by
   rcases e with e|e
   ·rcases K7 (env:=env) e with h | ⟨_,h⟩
    ·exact absurd rfl (K.nocell _ (A6 h))
    ·exact h
   ·rcases K7 (env:=env) e with h | ⟨h,_⟩
    ·exact h
    ·cases h
  exact K6 (Pq (acc:=[]) (A6 key))
 apart:=fun x a e=>by
  obtain⟨h1,_⟩:=Cd K Y e
  obtain⟨p,hp,hp2⟩:=A9 h1
  intro q
  exact(hC C (.head _)).2.2.2 p hp (hp2.trans q)
 inj:=fun x y a e1 e2=>Y.inj x y a (Cd K Y e1).1 (Cd K Y e2).1
 base:=fun b o e=>B6 (R.keepB Y b o e)
  (by cases q:H b with
      | none=>rfl
      | some x=>have:=(R.sep b x q).1;rw[Y.base b o e]at this;cases this)
  (fun q=>absurd (Heap.lt_size e) (Nat.not_lt.mpr (by rw[q];exact hC')))
  (fun p hp q=>by
    obtain⟨p',hp',hp2⟩:=A9 (He K Y hp).1
    have:=Y.newc p' hp'
    rw[hp2,q,Y.base b o e]at this;cases this)
 fsok:=fun L m q=>by
  rcases List.mem_cons.mp m with rfl|m
  ·obtain⟨o,h1,_⟩:=Nr K Y R hC
   rw[h1]at q;cases q
  ·exact Y.fsok L m ((An.in_comp K Y R hC).none q)
 fsd:=fun L m=>by
  rcases List.mem_cons.mp m with rfl|m
  ·refine⟨Q8 R.above,fun o e vs q=>?_⟩
   obtain⟨m,⟨o',es,ep,h1,h2,_⟩,_⟩:=R.ns
   rw[Ft e]at h1;cases h1
   rw[h2]at q;cases q
  ·exact⟨(Y.fsd L m).1,fun o e=>by obtain⟨o',e1,z⟩:=R.fsd Y m;rw[Ft e]at e1;cases e1;exact z⟩
 new:=Cq (.inr (.inl rfl))
 newc:=fun p hp=>Cq (.inr (.inr ⟨p,hp,rfl⟩))
 look:=fun p hp=>by
  obtain⟨a,ha⟩:=K6 hp
  have h1:=(Cd K Y ha).1
  have h2:=(He K Y hp).1
  rw[h1]at h2;cases h2
  exact ha
 lo:=Y.lo
end
end Mine.Internal
namespace Mine.Internal
open PySem PySem.W PyProof.Rows
variable {W:Wd} {G:A5} {A:Around} {h₀:HB} {env:Env} {c:Cx} {names:List Str} {H H':AH} {ρ ρ' ρt:Al} {s s':Shared} {E:Value->Shared->Prop} {n:Nat} {Q:Ak} {sc:Scope} {ts:List Str} {C:Addr} {Er:EP}
theorem Hf{l l':List Str}{x:Str}:x∉l->(l++l').idxOf? x=(l'.idxOf? x).map (· + l.length):=by
 induction l with
 | nil=>intro _;simp
 | cons a l ih=>
   intro h
   rw[List.cons_append,List.idxOf?_cons]
   have:(a==x)=false:=by simpa using fun q:a=x=>h (by simp[q])
   rw[this,ih (fun q=>h (.tail _ q))]
   cases l'.idxOf? x with
   | none=>rfl
   | some k=>simp;exact Nat.add_assoc _ _ 1
theorem Dv{l l':List Str}{x:Str}:x∈l->(l++l').idxOf? x=l.idxOf? x/\∃i,l.idxOf? x=some i/\i<l.length:=by
 induction l with
 | nil=>intro h;cases h
 | cons a l ih=>
   intro h
   rw[List.cons_append,List.idxOf?_cons,List.idxOf?_cons]
   cases q:a==x with
   | true=>exact⟨rfl,0,rfl,by simp⟩
   | false=>
     have:x∈l:=by
      refine Aa fun nY=>?_
      rcases List.mem_cons.mp h with rfl|h
      ·simp at q
      ·refine nY ?_;clear nY
       exact h
     refine Aa fun nY=>?_
     obtain⟨h1,i,h2,h3⟩:=ih this
     refine nY ?_;clear nY
     simp only[Bool.false_eq_true,if_false]
     rw[h1]
     exact⟨rfl,i+1,by rw[h2];rfl,by simp;exact h3⟩
theorem L7{l:List Str}{x:Str}{i:Nat}(h:l.idxOf? x=some i):x∈l:=by
 cases Classical.em (x∈l)with
 | inl h=>exact h
 | inr q=>rw[List.idxOf?_eq_none_iff.mpr q]at h;cases h
noncomputable def K8(W:Wd)(ts:List Str)(C:Addr)(ρt:Al)(h:Heap):Prop:=∃m,h.Ns C m/\∀x i v,ts.idxOf? x=some i->ρt[i]? = some (some v)->∃u,m x=some u/\VR W v u
theorem An.toComp(K:Cm c sc ts)(Y:Ai W env c h₀)(R:An W h₀ env c.names H ρ s)(hC:Fa h₀ env H [C])(hC':W.b₀.objs.size<=C)(hl:ρt.length=ts.length)(hn:K8 W ts C ρt s.heap) :
 An W (Mine.Internal.prot (Ij sc env C) (env.locals::h₀.fs) H s.heap) (Ij sc env C) (Ei c sc ts).names H (ρt++ρ) s where
 ns:=by
  refine Aa fun nY=>?_
  obtain⟨m,h1,h2⟩:=hn
  refine nY ?_;clear nY
  refine⟨m,h1,fun x i v e1 e2 e3=>?_⟩
  have hx:sc.names.lookup x=some .local:=by
   refine Aa fun nY=>?_
   rcases K7 (env:=env) e2 with h | ⟨h,_⟩
   ·refine nY ?_;clear nY
    exact h
   ·cases h
  have hmem:x∈ts:=by
   refine Aa fun nY=>?_
   rcases K.own _ (A6 hx) rfl with h|h
   ·refine nY ?_;clear nY
    exact h
   ·have:x∈ts++c.names:=L7 e1
    rcases List.mem_append.mp this with h'|h'
    ·refine nY ?_;clear nY
     exact h'
    ·exact absurd h' h
  refine Aa fun nY=>?_
  obtain⟨h3,j,h4,h5⟩:=Dv (l':=c.names) hmem
  have e1':(ts++c.names).idxOf? x=some i:=e1
  rw[h3,h4]at e1'
  cases e1'
  refine nY ?_;clear nY
  refine h2 x _ v h4 ?_
  rwa[List.getElem?_append_left (Aig hl h5)]at e3
 cell:=fun x a e=>by
  refine Aa fun nY=>?_
  obtain⟨e1,e2⟩:=Cd K Y e
  obtain⟨w,hw,hr⟩:=R.cell x a e1
  refine nY ?_;clear nY
  refine⟨w,hw,fun i v f1 f2 f3=>?_⟩
  refine Aa fun nY=>?_
  have hx:x∉ts:=fun q=>by have:=K.tsl x q;rw[e2]at this;cases this
  have f1':(ts++c.names).idxOf? x=some i:=f1
  rw[Hf hx]at f1'
  obtain⟨j,h1,h2⟩:=Option.map_eq_some_iff.mp f1'
  subst h2
  refine nY ?_;clear nY
  refine hr j v h1 (.inl (Y.kinds x _ (K.frees _ (A6 e2) rfl).1 (by simp))) ?_
  rw[List.getElem?_append_right (Aij hl)]at f3
  rwa[show j+ts.length-ρt.length=j by exact Aik hl]at f3
 keep:= .of fun _ _ e=>Ft e
 objs:=R.objs
 sep:=fun a o e=>by
  refine⟨Cq (.inl ⟨o,e⟩),fun q=>?_,fun x q=>(R.sep a o e).2.2 x (Cd K Y q).1⟩
  have h1:=(hC C (.head _)).1
  have h2:a=C:=q
  rw[<-h2,e]at h1;cases h1
 gens:=R.gens
 os:=R.os
 above:=hC'
 low:=R.low
theorem An.ofComp(K:Cm c sc ts)(Y:Ai W env c h₀)(R:An W h₀ env c.names H ρ s)(hC:Fa h₀ env H [C])(hl:ρt.length=ts.length)
 (R':An W (Mine.Internal.prot (Ij sc env C) (env.locals::h₀.fs) H s.heap) (Ij sc env C) (Ei c sc ts).names H' (ρt++ρ) s'):An W h₀ env c.names H' ρ s':=by
 have hCC:=hC C (.head _)
 have hsub:Gm W h₀ (Mine.Internal.prot (Ij sc env C) (env.locals::h₀.fs) H s.heap).h:=An.in_comp K Y R hC
 have hcl:∀x a,env.cells.lookup x=some a->(∃p∈Gq env sc.names [],p.2=a)->(Gq env sc.names []).lookup x=some a:=by
  rintro x a e hP5
  refine Aa fun nY=>?_
  obtain⟨p,hp,rfl⟩:=hP5
  have h1:=(He K Y hp).1
  have h2:=Y.inj x p.1 p.2 e h1
  subst h2
  obtain⟨a',ha'⟩:=K6 hp
  rw[(Cd K Y ha').1]at h1;cases h1
  refine nY ?_;clear nY
  exact ha'
 have hloc:=Nr K Y R hC
 have hcell:∀x a,env.cells.lookup x=some a->(¬∃p∈Gq env sc.names [],p.2=a)->∀o,s.heap.get? a=some o->(Mine.Internal.prot (Ij sc env C) (env.locals::h₀.fs) H s.heap).get? a=some o:=by
  intro x a e hno o ho
  refine Aa fun nY=>?_
  obtain⟨p,hp,hp2⟩:=A9 e
  refine nY ?_;clear nY
  refine B6 ho ?_ (fun q=>hCC.2.2.2 p hp (hp2.trans q)) (fun p' hp' q=>hno ⟨p',hp',q⟩)
  cases q:H a with
  | none=>rfl
  | some z=>exact absurd e ((R.sep _ _ q).2.2 x)
 refine⟨?_,?_,hsub.trans (fun b o e m=>(List.mem_cons.mp m).resolve_left fun q=>by rw[q,Y.new]at e;cases e) R'.keep,R'.objs,?_,R'.gens,R'.os,R.above,R'.low⟩
 ·refine Aa fun nY=>?_
  obtain⟨m,⟨o,es,ep,h1,h2⟩,h3⟩:=R.ns
  obtain⟨o',g1,g2⟩:=hloc
  rw[h1]at g2;cases g2
  refine nY ?_;clear nY
  exact⟨m,R'.keep.ns ⟨o,es,ep,g1,h2⟩,h3⟩
 ·intro x a e
  refine Aa fun nY=>?_
  cases Classical.em (∃p∈Gq env sc.names [],p.2=a)with
  | inl q=>
    have hx:=hcl x a e q
    obtain⟨e1,e2⟩:=Cd K Y hx
    obtain⟨w,hw,hr⟩:=R'.cell x a hx
    refine nY ?_;clear nY
    refine⟨w,hw,fun i v f1 f2 f3=>hr (i+ts.length) v ?_ ((Dl (env:=env) e2).2 rfl) ?_⟩
    ·have hx':x∉ts:=fun q=>by have:=K.tsl x q;rw[e2]at this;cases this
     show (ts++c.names).idxOf? x=_
     rw[Hf hx',f1];rfl
    ·rw[List.getElem?_append_right (Aij hl)]
     rwa[show i+ts.length-ρt.length=i by exact Aik hl]
  | inr q=>
    obtain⟨w,⟨o,ho,hd⟩,hr⟩:=R.cell x a e
    refine nY ?_;clear nY
    exact⟨w,⟨o,R'.keep.exact (hcell x a e q o ho) (.inl fun m=>(by obtain⟨p,hp,hp2⟩:=A9 e;exact Y.fsok a ((List.mem_cons.mp m).resolve_left (Y.apart x a e)) (hp2▸Y.newc p hp))),hd⟩,hr⟩
 ·intro a o e
  refine Aa fun nY=>?_
  obtain⟨q1,q2,q3⟩:=R'.sep a o e
  refine nY ?_;clear nY
  refine⟨?_,?_,?_⟩
  ·exact hsub.none q1
  ·rintro rfl
   refine Aa fun nY=>?_
   obtain⟨o',g1,_⟩:=hloc
   rw[q1]at g1;cases g1
  ·intro x hx
   refine Aa fun nY=>?_
   cases Classical.em (∃p∈Gq env sc.names [],p.2=a)with
   | inl q=>(refine nY ?_;clear nY;exact q3 x (hcl x a hx q))
   | inr q=>
     obtain⟨w,⟨o,ho,hd⟩,hr⟩:=R.cell x a hx
     have:=hcell x a hx q o ho
     rw[q1]at this;cases this
theorem Hg(K:Cm c sc ts)(Y:Ai W env c h₀){hs:List Addr}(hid:Fa h₀ env H hs)(hCn:C∉hs){b:Addr}(hb:b∈hs){o:Obj}(e:s.heap.get? b=some o):(Mine.Internal.prot (Ij sc env C) (env.locals::h₀.fs) H s.heap).get? b=some o:=by
 refine Aa fun nY=>?_
 obtain⟨h1,h2,h3,h4⟩:=hid b hb
 refine nY ?_;clear nY
 refine B6 e h1 (fun q=>hCn (by have h2:b=C:=q;rw[<-h2];exact hb)) fun p hp q=>?_
 refine Aa fun nY=>?_
 obtain⟨p',hp',hp2⟩:=A9 (He K Y hp).1
 refine nY ?_;clear nY
 exact h4 p' hp' (hp2.trans q)
theorem Yl(K:Cm c sc ts){target:Expr}(ht:Ck target=some ts):Aad (Ei c sc ts) target=some (Cy ts.length):=by
 rcases Ib ht with⟨x,p,rfl,rfl⟩ | ⟨x,p,y,p',k,tp,rfl,rfl⟩
 ·clear ht
  have h1:=K.tsl x (.head _)
  show (Cx.own (Ei c sc [x]) x).map Tc.one=_
  simp only[Cx.own,h1,Wz,if_true,Ei,List.cons_append,List.nil_append,List.idxOf?_cons,beq_self_eq_true]
  rfl
 ·clear ht
  have h1:=K.tsl x (.head _)
  have h2:=K.tsl y (.tail _ (.head _))
  have hne:x≠y:=by
   rcases K.shape with⟨z,hz⟩ | ⟨a,b,hz,hne⟩
   ·cases hz
   ·cases hz;exact hne
  have hb:(x==y)=false:=by simpa using hne
  show ((Cx.own (Ei c sc [x,y]) x) >>= fun i=>(Cx.own (Ei c sc [x,y]) y) >>= fun j=>pure (Tc.two i j))=_
  simp only[Cx.own,h1,h2,Wz,if_true,Ei,List.cons_append,List.nil_append,List.idxOf?_cons,beq_self_eq_true,hb]
  rfl
end Mine.Internal
namespace Mine.Internal
open PySem PySem.W PyProof.Rows
variable {W:Wd} {G:A5} {A:Around} {h₀:HB} {env:Env} {c:Cx} {names:List Str} {H H':AH} {ρ ρ' ρt:Al} {s s':Shared} {E:Value->Shared->Prop} {n:Nat} {Q:Ak} {sc:Scope} {ts:List Str} {C:Addr} {Er:EP}
theorem Ue{R:Result->Shared->Prop}{elt target iter:Expr}{ifs:List Expr}{scope:Scope}{pos:Pos}{it acc:Value}{env:Env}(I:Nat->Shared->Prop)
 (turn:∀n s,I n s->wpAny W.M A (pyNext it) (fun r s₁=>match r with
   | none=>R (.ok .next) s₁
   | some v=>wpAny W.M A (letOwnedTupleGo target it v) (fun _ s₁'=>wpAny W.M A (assign target env v) (fun _ s₂=>
      wpAny W.M A (forIn ifs true fun c r=>if r=true then do let ok <-isTrue c env (eval c env);pure (ForInStep.yield ok)else pure (ForInStep.yield r)) (fun ok s₃=>
       if ok=true then wpAny W.M A (eval elt env) (fun x s₄=>
        wpAny W.M A (call (.builtin "list.append") [acc,x]) (fun _ s₅=>∃m,m<n/\I m s₅) (notedBy W.M A env fun e s'=>R (.error e) s') s₄) (notedBy W.M A env fun e s'=>R (.error e) s') s₃
       else ∃m,m<n/\I m s₃) (notedBy W.M A env fun e s'=>R (.error e) s') s₂) (notedBy W.M A env fun e s'=>R (.error e) s') s₁') (notedBy W.M A env fun e s'=>R (.error e) s') s₁) (notedBy W.M A env fun e s'=>R (.error e) s') s)
 (n:Nat) (h:I n s):codeAny W.M A (.compLoop (.ListComp elt [⟨target,iter,ifs,0⟩] scope pos) 0 it acc env) R s:=by
 refine codeAny_loop rfl I (fun n s hI=>?_) n h
 show wpAny _ A ((compTurn (.ListComp elt [⟨target,iter,ifs,0⟩] scope pos) 0 it acc env).onRaise (fun x=>do noteFrame x env;theTreesLotGoes x)) _ _ s
 refine wpAny_noted ?_
 rw[compTurn_list]
 refine wpAny_bind (wpAny_standAt (wpAny_bind (wpAny_mono (turn n s hI) (fun r s₁ h₁=>?_) fun _ _ h'=>h')))
 cases r with
 | none=>exact wpAny_pure h₁
 | some v=>
   refine wpAny_bind (wpAny_mono h₁ (fun _ s₁' h₁'=>?_) fun _ _ h'=>h')
   refine wpAny_bind (wpAny_mono h₁' (fun _ s₂ h₂=>wpAny_bind (wpAny_mono h₂ (fun ok s₃ h₃=>?_) fun _ _ h'=>h')) fun _ _ h'=>h')
   cases ok with
   | false=>exact wpAny_pure ⟨rfl,h₃⟩
   | true=>
     exact wpAny_bind (wpAny_bind (wpAny_mono h₃ (fun x s₄ h₄=>wpAny_bind (wpAny_mono h₄ (fun _ s₅ h₅=>wpAny_pure (wpAny_pure ⟨rfl,h₅⟩)) fun _ _ h'=>h')) fun _ _ h'=>h'))
theorem V1{it:It}{k:Nat}{N:Al->Prop}(hk:ρt.length=k)(hk':k=1\/k=2)(h:Lg (Cy k) it (ρt++ρ) H N):Lg (Cy k) it (ρt++ρ) H (fun ρ'=>(∃ρt':Al,ρ'=ρt'++ρ/\ρt'.length=k)/\N ρ'):=by
 rcases hk' with rfl|rfl
 ·simp only[Cy,if_true]at h ⊢
  delta Lg at h ⊢
  cases it with
  | v x=>exact⟨⟨ρt.set 0 (some x),by rw[List.set_append_left _ _ (Akg hk)],by simp[hk]⟩,h⟩
  | pair a b=>exact h.elim
 ·have e2:Cy 2 = .two 0 1:=rfl
  rw[e2]at h ⊢
  have key:∀x y:V,∃ρt':Al,((ρt++ρ).set 0 (some x)).set 1 (some y)=ρt'++ρ/\ρt'.length=2:=fun x y=>
   ⟨(ρt.set 0 (some x)).set 1 (some y),by rw[List.set_append_left _ _ (Akh hk),List.set_append_left _ _ (by simp;exact Aki hk)],by simp[hk]⟩
  cases it with
  | v x=>
    cases x with
    | ref a=>
      have h':(match H a with|some (.tuple [x,y])=>N (((ρt++ρ).set 0 (some x)).set 1 (some y))|_=>False):=h
      show (match H a with|some (.tuple [x,y])=>(∃ρt':Al,((ρt++ρ).set 0 (some x)).set 1 (some y)=ρt'++ρ/\ρt'.length=2)/\N (((ρt++ρ).set 0 (some x)).set 1 (some y))|_=>False)
      clear h
      split at h'
      ·rename_i x y e
       exact⟨key _ _,h'⟩
      ·exact h'.elim
    | _=>exact h.elim
  | pair a b=>exact⟨key _ _,h⟩
noncomputable def SB(W:Wd)(G:A5)(n:Nat)(c:Cx)(ifs:List Expr)(elt:Expr)(body:EP->Al->AH->(Option V->AH->Prop)->Prop):Prop:=
 ∀ {A:Around} {env:Env} {h₀:HB} {H:AH} {ρ:Al} {s:Shared} {Kk:Option V->AH->Prop} {E:EP},Ms A c h₀ env n->Ai W env c h₀->An W h₀ env c.names H ρ s->body E ρ H Kk->
  wpAny W.M A (forIn ifs true fun c r=>if r=true then do let ok <-isTrue c env (eval c env);pure (ForInStep.yield ok)else pure (ForInStep.yield r)) (fun ok s₃=>
   if ok=true then wpAny W.M A (eval elt env) (fun x s₄=>(Ka fun a H4=>D3 (VR W a x) (An W h₀ env c.names H4 ρ s₄) (Kk (some a) H4))) (EM W h₀ env c.names ρ E) s₃
   else ∃H4,An W h₀ env c.names H4 ρ s₃/\Kk none H4) (EM W h₀ env c.names ρ E) s
theorem Abr{elt:Expr}{x:X}(h:SE W G n c elt x):SB W G n c [] elt (fun E ρ H K=>Aq G (Ae G n) x ρ H (fun v H=>K (some v) H) E):=by
 intro A env h₀ H ρ s Kk E ok Y R q
 refine wpAny_pure ?_
 simp only[if_true]
 exact wpAny_mono (h ok Y R q) (fun v s' r=>r) fun _ _ e=>e
theorem Ad2{cond elt:Expr}{x y:X}(hc:ST W G n c cond y)(h:SE W G n c elt x) :
 SB W G n c [cond] elt (fun E ρ H K=>Aq G (Ae G n) y ρ H (fun v H=>truthy v fun b=>if b then Aq G (Ae G n) x ρ H (fun v H=>K (some v) H) E else K none H) E):=by
 intro A env h₀ H ρ s Kk E ok Y R q
 rw[List.forIn_cons]
 refine wpAny_bind ?_
 simp only[if_true]
 refine wpAny_bind (wpAny_mono (hc (Q:=fun b H=>if b then Aq G (Ae G n) x ρ H (fun v H=>Kk (some v) H) E else Kk none H) ok Y R q) (fun b s' r=>wpAny_pure ?_) fun _ _ e=>e)
 obtain⟨H',R',q'⟩:=r
 refine wpAny_pure ?_
 cases b with
 | true=>
   simp only[if_true]at q' ⊢
   exact wpAny_mono (h ok Y R' q') (fun v s' r=>r) fun _ _ e=>e
 | false=>
   simp only[Bool.false_eq_true,if_false]at q' ⊢
   exact⟨H',R',q'⟩
theorem Ym(K:Cm c sc ts){hP:HB}(R:An W hP (Ij sc env C) (Ei c sc ts).names H (ρt++ρ) s)(hl:ρt.length=ts.length):K8 W ts C ρt s.heap:=by
 refine Aa fun nY=>?_
 obtain⟨m,h1,h2⟩:=R.ns
 refine nY ?_;clear nY
 refine⟨m,h1,fun x i v e1 e2=>?_⟩
 have hx:=L7 e1
 refine Aa fun nY=>?_
 obtain⟨h3,j,h4,h5⟩:=Dv (l':=c.names) hx
 rw[h4]at e1;cases e1
 refine nY ?_;clear nY
 refine h2 x _ v (h3.trans h4) ((Dl (env:=env) (K.tsl x hx)).1 (by simp)) ?_
 rw[List.getElem?_append_left (Aig hl h5)];exact e2
theorem K8.at{h h':Heap}(x:K8 W ts C ρt h)(k:∀o,h.get? C=some o->h'.get? C=some o):K8 W ts C ρt h':=by
 refine Aa fun nY=>?_
 obtain⟨m,⟨o,es,ep,h1,h2⟩,h3⟩:=x
 refine nY ?_;clear nY
 exact⟨m,⟨o,es,ep,k _ h1,h2⟩,h3⟩
noncomputable abbrev Ak9(W:Wd)(h₀:HB)(env:Env)(names:List Str)(ρ:Al)(hs:List Addr)(ts:List Str)(C D:Addr)(Obs:Nat->Heap->Prop)(its:List It)(gt:List It->List V->Al->AH->Prop)(k:Nat)(s:Shared):Prop:=
 (Ex6 fun i H acc items ρt nn=>Ah2 (An W h₀ env names H ρ s) (Fa h₀ env H hs) (Fa h₀ env H [C]) (Fa h₀ env H [D]) (Obs i s.heap) (s.heap.get? D=some {cls:= .type "list",data:= .seq (items:List Value).toArray nn}) (Cv W acc items) (acc.length<=i) (K8 W ts C ρt s.heap) (ρt.length=ts.length) (gt (its.drop i) acc (ρt++ρ) H) (i<=its.length) (k=its.length-i+1))
theorem V2(K:Cm c sc ts)(hf:c.hnd=false)(ok:Ms A c h₀ env n)(Y:Ai W env c h₀)(R:An W h₀ env c.names H ρ s){elt target iter:Expr}{ifs:List Expr}{pos:Pos}{I:Addr}{hs:List Addr}{its:List It}{g:AH->Prop}{Obs:Nat->Heap->Prop}
 (S:Src W A target I hs its g Obs) (hid:Fa h₀ env H hs) (st:Obs 0 s.heap) (ht:Ck target=some ts) (hz:its.length<=Bs) {body:EP->Al->AH->(Option V->AH->Prop)->Prop} (hb:SB W G n (Ei c sc ts) ifs elt body)
 (q:Bm g (Cy ts.length) (body EF) (fun vs H=>Ao (.list vs) H Q) its [] (List.replicate ts.length none++ρ) H) {RR:Value->Addr->Result->Shared->Prop}
 (hfin:∀D C H' s',An W h₀ env c.names H' ρ s'->Fa h₀ env H' [C]->(∃m,s'.heap.Ns C m)->Q (.ref D) H'->RR (.ref D) C (.ok .next) s') :
 wpAny W.M A (newList []) (fun acc s₃=>wpAny W.M A (newFunctionEnv sc env.globals (Gq env sc.names []) [] env.qual none .none (some env)) (fun cenv s₄=>
  codeAny W.M A (.compStart (.ListComp elt [⟨target,iter,ifs,0⟩] sc pos) 0 (.ref I) acc {cenv with scope:=relabel sc env}) (RR acc cenv.locals) s₄) E s₃) E s:=by
 have hk12:ts.length=1\/ts.length=2:=by rcases K.shape with⟨x,rfl⟩ | ⟨x,y,rfl,_⟩<;>simp
 refine wpAny_newObj_type (wpAny_newFunctionEnv K.nocell (by intro y hy;simp at hy) (fun h₁ hns₁ hsb₁=>?_) K.kind)
 dsimp only at hns₁ hsb₁ ⊢
 generalize hH2:s.heap.push {cls:= .type "list",dict:=none,data:= .seq ([]:List Value).toArray} = H2 at hns₁ hsb₁ ⊢
 have hCs:H2.objs.size=s.heap.objs.size+1:=by rw[<-hH2,Heap.size_push]
 generalize hCd:H2.objs.size=C at *
 generalize hDd:s.heap.objs.size=D at *
 have hDC:D≠C:=by rw[hCs];exact(Nat.succ_ne_self _).symm
 have old:∀b o,s.heap.get? b=some o->h₁.get? b=some o:=fun b o e=>by
  have hlt:=Heap.lt_size e
  rw[hDd]at hlt
  exact hsb₁.extBut b o (by rw[hCs];exact Nat.ne_of_lt (Nat.lt_succ_of_lt hlt)) (Heap.get?_push_of_some _ (hH2▸Heap.get?_push_of_some _ e))
 have hD1:h₁.get? D=some {cls:= .type "list",dict:=none,data:= .seq ([]:List Value).toArray}:=
  hsb₁.extBut _ _ hDC (Heap.get?_push_of_some _ (by rw[<-hH2,<-hDd];exact Heap.get?_push_size _ rfl))
 have hb0:W.b₀.objs.size<=D:=by rw[<-hDd];exact R.up
 have hb0C:W.b₀.objs.size<=C:=by rw[hCs];exact Nat.le_succ_of_le hb0
 have hidD:Fa h₀ env H [D]:=Fa.one Y R (Q8 (by rw[hDd];exact Nat.le_refl _)) hb0
 have hidC:Fa h₀ env H [C]:=Fa.one Y R (Q8 (by rw[hDd,hCs];exact Nat.le_succ _)) hb0C
 have hslt:∀b∈hs,b<D:=fun b hb=>by obtain⟨o,e⟩:=S.live 0 _ st b hb;rw[<-hDd];exact Heap.lt_size e
 have hDhs:D∉hs:=fun h=>Nat.lt_irrefl _ (hslt D h)
 have hChs:C∉hs:=fun h=>by have:=hslt C h;rw[hCs]at this;exact Nat.lt_irrefl _ (Nat.lt_of_succ_lt this)
 have loop:∀s₃:Shared,s₃ = {s with heap:=h₁,toks:=s.toks+([]:List (Str×Value)).length} ->
  codeAny W.M A (.compLoop (.ListComp elt [⟨target,iter,ifs,0⟩] sc pos) 0 (.ref I) (.ref D) (Ij sc env C)) (RR (.ref D) C) s₃:=by
  rintro s₃ rfl
  refine Ue (Ak9 W h₀ env c.names ρ hs ts C D Obs its (Bm g (Cy ts.length) (body EF) fun vs H=>Ao (.list vs) H Q)) ?_ (its.length+1)
   ⟨0,H,[],[],List.replicate ts.length none,_,R.move _ old,hid,hidC,hidD,S.frame 0 _ _ st fun b _ o e=>old b o e,hD1,.nil,Nat.le_refl _,⟨_,hns₁,fun x i v e1 e2=>?_⟩,by simp,q,Nat.zero_le _,by simp⟩
  ·rintro k s hP6
   refine Aa fun nY=>?_
   obtain⟨i,H,acc,items,ρt,nn,R,hid,hidC,hidD,st,hD,hacc,hai,hn,hl,q,hi,rfl⟩:=hP6
   have hclean:its.length<=1048576:=hz
   refine nY ?_;clear nY
   cases hd:its.drop i with
   | nil=>
     rw[hd]at q
     obtain⟨g1,q⟩:=q
     have:i=its.length:=by
      have:=congrArg List.length hd
      simp at this;exact Nat.le_antisymm hi (Nat.sub_eq_zero_iff_le.mp this)
     subst this
     refine wpAny_mono (S.done Y R hid g1 st) (fun r s₁ h₁=>?_) fun _ _ e=>e
     refine Aa fun nY=>?_
     obtain⟨rfl,R1,hk1⟩:=h₁
     obtain⟨d1,d2,d3,d4⟩:=hidD D (.head _)
     have R2:=R1.add (a:=D) (o:= .list acc) (hk1 _ _ hDhs hD) (.list hacc (Nat.le_trans hai hz)) d1 d2 d3 (fun x e=>by obtain⟨p,hp,hp2⟩:=A9 e;exact d4 p hp hp2) hb0
     refine nY ?_;clear nY
     refine hfin D C _ _ R2 (fun b hb=>?_) ?_ (q D d1)
     ·obtain⟨c1,c2⟩:=hidC b hb
      refine⟨?_,c2⟩
      have:b=C:=by simpa using hb
      subst this
      simp[upd,Ne.symm hDC,c1]
     ·refine Aa fun nY=>?_
      obtain⟨m,hm,_⟩:=hn.at fun o e=>hk1 C o hChs e
      refine nY ?_;clear nY
      exact⟨m,hm⟩
   | cons y r=>
     rw[hd]at q
     refine Aa fun nY=>?_
     obtain⟨g1,q⟩:=q
     obtain⟨hx,hd'⟩:=Ci hd
     have hlt:i<its.length:=(List.getElem?_eq_some_iff.mp hx).1
     refine nY ?_;clear nY
     refine wpAny_mono (S.turn (E':=notedBy W.M A (Ij sc env C) fun e s'=>RR (.ref D) C (.error e) s') Y R hid g1 st hx) (fun r s₁ h₁=>?_) fun _ _ e=>e
     obtain⟨v,rfl,h₁⟩:=h₁
     refine wpAny_mono h₁ (fun _ s₂ h₂=>?_) fun _ _ e=>e
     refine Aa fun nY=>?_
     obtain⟨R2,st2,hit,hk2⟩:=h₂
     have hn2:=hn.at fun o e=>hk2 C o hChs e
     have hD2:=hk2 _ _ hDhs hD
     have YP:=Y.comp K R2 hidC hb0C
     have RP:=R2.toComp K Y hidC hb0C hl hn2
     refine nY ?_;clear nY
     refine wpAny_mono (Pk YP RP (ok.handled hf) (Yl K ht) hit (V1 hl hk12 q)) (fun _ s₃ h₃=>?_) fun _ _ e=>e
     refine Aa fun nY=>?_
     obtain⟨ρ3,R3,⟨ρt',rfl,hl'⟩,q3⟩:=h₃
     have fin:∀ {s₄:Shared} {H4:AH},An W (Mine.Internal.prot (Ij sc env C) (env.locals::h₀.fs) H s₂.heap) (Ij sc env C) (Ei c sc ts).names H4 (ρt'++ρ) s₄->
      An W h₀ env c.names H4 ρ s₄/\Fa h₀ env H4 hs/\Fa h₀ env H4 [C]/\Fa h₀ env H4 [D]/\Obs (i+1) s₄.heap/\s₄.heap.get? D=some {cls:= .type "list",data:= .seq (items:List Value).toArray nn} /\K8 W ts C ρt' s₄.heap:=by
      intro s₄ H4 R4
      have none_at:∀b o,(Mine.Internal.prot (Ij sc env C) (env.locals::h₀.fs) H s₂.heap).get? b=some o->H4 b=none:=fun b o e=>by
       cases z:H4 b with
       | none=>rfl
       | some w=>have:=(R4.sep b w z).1;rw[e]at this;cases this
      refine⟨R2.ofComp K Y hidC hl' R4,fun b hb=>⟨?_,(hid b hb).2⟩,fun b hb=>⟨?_,(hidC b hb).2⟩,fun b hb=>⟨?_,(hidD b hb).2⟩,?_,?_,Ym K R4 hl'⟩
      ·obtain⟨o,e⟩:=S.live _ _ st2 b hb
       exact none_at b o (Hg K Y hid hChs hb e)
      ·have:b=C:=by simpa using hb
       subst this
       cases z:H4 b with
       | none=>rfl
       | some w=>exact absurd rfl (R4.sep b w z).2.1
      ·have:b=D:=by simpa using hb
       subst this
       exact none_at b _ (Hg K Y hidD (by simpa using Ne.symm hDC) hb hD2)
      ·exact S.frame _ _ _ st2 fun b hb o e=>R4.keep.exact (Hg K Y hid hChs hb e) (.inl fun m=>Y.fsok b ((List.mem_cons.mp m).resolve_left (hid b hb).2.2.1) (hid b hb).2.1)
      ·exact R4.keep.exact (Hg K Y hidD (by simpa using Ne.symm hDC) (.head _) hD2) (.inl fun m=>Y.fsok D ((List.mem_cons.mp m).resolve_left (hidD D (.head _)).2.2.1) (hidD D (.head _)).2.1)
     refine nY ?_;clear nY
     refine wpAny_mono (hb ⟨fun _=>ok.handled hf,ok.room,ok.units,ok.stk.more fun L m=> .tail _ m,nofun,nofun⟩ YP R3 q3) (fun okb s₄ h₄=>?_) fun v s₅ x=>x.ef
     refine Aa fun nY=>?_
     cases okb with
     | false=>
       refine nY ?_;clear nY
       simp only[Bool.false_eq_true,if_false]at h₄ ⊢
       refine Aa fun nY=>?_
       obtain⟨H4,R4,q4⟩:=h₄
       obtain⟨f1,f2,f3,f4,f5,f6,f7⟩:=fin R4
       refine nY ?_;clear nY
       exact⟨its.length-(i+1)+1,(Af4 hlt),i+1,H4,acc,items,ρt',nn,f1,f2,f3,f4,f5,f6,hacc,(Nat.le_succ_of_le hai),f7,hl',by rw[hd'];exact q4,hlt,rfl⟩
     | true=>
       refine nY ?_;clear nY
       simp only[if_true]at h₄ ⊢
       refine wpAny_mono h₄ (fun u s₅ h₅=>?_) fun v s₅ x=>x.ef
       refine Aa fun nY=>?_
       obtain⟨a,H4,hv,R4,q4⟩:=h₅
       obtain⟨f1,f2,f3,f4,f5,f6,f7⟩:=fin R4
       refine nY ?_;clear nY
       have hsz:items.length<=sizeLine:=by rw[<-hacc.length];exact Nat.le_trans hai (Nat.le_trans hi (Nat.le_trans hz Cb))
       refine call_meets F.slot_list_append ⟨_,f6,rfl⟩ F.entry_list_append (F.args_list_append_2 _ _) (list_append _ items.toArray nn u (by simpa using hsz)) ⟨f6,?_⟩
       have hsame:Heap.SameBut D s₅.heap (s₅.heap.update D (Obj.mapSeq (·.push u))):=Heap.SameBut.update ..
       refine Aa fun nY=>?_
       obtain⟨d1,d2,d3,d4⟩:=f4 D (.head _)
       refine nY ?_;clear nY
       have R6:=f1.swap s₅.toks hsame d1 d2 d3 fun x e=>by obtain⟨p,hp,hp2⟩:=A9 e;exact d4 p hp hp2
       have hD6:∃n',(s₅.heap.update D (Obj.mapSeq (·.push u))).get? D=some {cls:= .type "list",data:= .seq (items ++ [u]).toArray n'}:=
        ⟨_,(Heap.get?_update_self _ f6 rfl).trans (by simp only[Obj.mapSeq,List.push_toArray];rfl)⟩
       obtain⟨n',hD6⟩:=hD6
       refine⟨its.length-(i+1)+1,(Af4 hlt),i+1,H4,acc ++ [a],items ++ [u],ρt',n',R6,f2,f3,f4,?_,hD6,hacc.append (.cons hv .nil),by simp;exact hai,?_,hl',by rw[hd'];exact q4,hlt,rfl⟩
       ·exact S.frame _ _ _ f5 fun b hb o e=>(hsame.2 b (fun z=>hDhs (z▸hb))).trans e
       ·exact f7.at fun o e=>(hsame.2 C (Ne.symm hDC)).trans e
  ·simp[List.getElem?_replicate]at e2
 exact codeAny_compStart_list (loop _ rfl) (S.self (S.frame 0 _ _ st fun b _ o e=>old b o e) (loop _ rfl))
end Mine.Internal
namespace Mine.Internal
open PySem PySem.W PyProof.Rows
variable {W:Wd} {G:A5} {A:Around} {h₀:HB} {env:Env} {c:Cx} {names:List Str} {H H':AH} {ρ ρ' ρt:Al} {s s':Shared} {E:Value->Shared->Prop} {n:Nat} {Q:Ak} {sc:Scope} {ts:List Str} {C:Addr} {Er:EP}
theorem Rj(K:Cm c sc ts)(hf:c.hnd=false)(hcm:c.cmp=false){elt target iter:Expr}{ifs:List Expr}{pos pos':Pos}{x:X}{body:EP->Al->AH->(Option V->AH->Prop)->Prop}(ht:Ck target=some ts)(hsrc:SS W G n c iter x (Lu target))(hb:SB W G n (Ei c sc ts) ifs elt body)
 (hset:∀env v,foldedSetIterable iter env v=pure v) (ok:Ms A c h₀ env n) (Y:Ai W env c h₀) (R:An W h₀ env c.names H ρ s)
 (q:Dq G (Ae G n) x ρ H (fun its g H=>its.length<=Bs/\Bm g (Cy ts.length) (body EF) (fun vs H=>Ao (.list vs) H Q) its [] (List.replicate ts.length none++ρ) H) Er) {use:Option (Value->Sem Unit)} {Q':Value->Shared->Prop}
 (hE:∀v s',EM W h₀ env c.names ρ Er v s'->E v s') (hfin:∀D C H' s',An W h₀ env c.names H' ρ s'->Fa h₀ env H' [C]->(∃m,s'.heap.Ns C m)->Q (.ref D) H'->compPost W.M A E use Q' (.ref D) C (.ok .next) s') :
 wpAny W.M A (comprehension (.ListComp elt [⟨target,iter,ifs,0⟩] sc pos) sc env pos' (newList []) false (eval iter env) use) Q' E s:=by
 refine wpAny_comprehension_free (g:=⟨target,iter,ifs,0⟩) (gs:=[]) rfl (hset env) (N9 fun p hp hq=>?_) K.kind K.locals ?_
 ·obtain⟨a,ha⟩:=Ri K Y hp hq
  rw[ha];rfl
 ·exact hsrc (target:=target) rfl ok Y R q hE fun I hs its g Obs H' s' S hid st R' q'=>V2 (G:=G) K hf ok Y R' S hid st ht q'.1 hb q'.2 (RR:=fun acc C=>compPost W.M A E use Q' acc C) hfin
theorem Nt(K:Cm c sc ts)(hf:c.hnd=false)(hcm:c.cmp=false){elt target iter:Expr}{ifs:List Expr}{pos:Pos}{x:X}{body:EP->Al->AH->(Option V->AH->Prop)->Prop}(ht:Ck target=some ts)(hsrc:SS W G n c iter x (Lu target))(hb:SB W G n (Ei c sc ts) ifs elt body)
 (hset:∀env v,foldedSetIterable iter env v=pure v) {e:X}
 (he:∀ρ H Q E,Aq G (Ae G n) e ρ H Q E->Dq G (Ae G n) x ρ H (fun its g H=>its.length<=Bs/\Bm g (Cy ts.length) (body EF) (fun vs H=>Ao (.list vs) H Q) its [] (List.replicate ts.length none++ρ) H) E) :
 SE W G n c (.ListComp elt [⟨target,iter,ifs,0⟩] sc pos) e:=by
 intro A env h₀ H ρ s Q E ok Y R q
 rw[eval_ListComp]
 refine Rj (use:=none) K hf hcm ht hsrc hb hset ok Y R (he ρ H Q E q) (fun _ _ e=>e) fun D C H' s' R' hid hm q'=>?_
 refine Aa fun nY=>?_
 obtain⟨m,hm⟩:=hm
 obtain⟨c1,c2,c3,c4⟩:=hid C (.head _)
 refine nY ?_;clear nY
 exact⟨m,hm,fun h' hk=>Be.mk (.ref D) (R'.swap s'.toks hk c1 c2 c3 fun x e=>by obtain⟨p,hp,hp2⟩:=A9 e;exact c4 p hp hp2) q'⟩
theorem Pr(K:Cm c sc ts)(hf:c.hnd=false)(hcm:c.cmp=false){elt target iter:Expr}{ifs:List Expr}{pos spos py:Pos}{x:X}{y:Str}{i:Nat}{body:EP->Al->AH->(Option V->AH->Prop)->Prop}(ht:Ck target=some ts)(hsrc:SS W G n c iter x (Lu target))(hb:SB W G n (Ei c sc ts) ifs elt body)
 (hset:∀env v,foldedSetIterable iter env v=pure v) {e:X}
 (he:∀ρ H Q E,Aq G (Ae G n) e ρ H Q E->Dq G (Ae G n) x ρ H (fun its g H=>its.length<=Bs/\Bm g (Cy ts.length) (body EF) (fun vs H=>Ao (.list vs) H Q) its [] (List.replicate ts.length none++ρ) H) E)
 (hi:c.own y=some i):P7 W G n c (.Assign [.Name y py] (.ListComp elt [⟨target,iter,ifs,0⟩] sc pos) spos) (.assign i e):=by
 intro A env h₀ H ρ s N Rt E ok Y R q
 simp only[Jw,Bz,Bl,Jx,Ja,Jy,Jz,Kb,Dz,J0,J1,Cp]at q
 have hsw:∃b,swapsWith (.ListComp elt [⟨target,iter,ifs,0⟩] sc pos) (some (.Name y py)) spos.line env=pure b:=⟨_,rfl⟩
 refine Aa fun nY=>?_
 obtain⟨b,hsw⟩:=hsw
 cases b with
 | false=>
   refine nY ?_;clear nY
   refine wpAny_Assign_Name (wpAny_mono (Nt K hf hcm ht hsrc hb hset he ok Y R q) (fun v s' r=>?_) fun _ _ e=>e.st) hsw
   refine Aa fun nY=>?_
   obtain⟨a,H',hv,R',q'⟩:=r
   refine nY ?_;clear nY
   exact wpAny_mono (Pi Y R' hi hv) (fun _ s2 R2=>⟨_,_,R2,q'⟩) fun _ _ e=>e
 | true=>
   refine nY ?_;clear nY
   rw[exec_Assign_Name_used _ _ _ _ hsw]
   refine wpAny_bind (wpAny_standAt (wpAny_bind ?_))
   refine wpAny_bind ?_
   refine wpAny_mono (Q:=fun _ s'=>Hs W h₀ env c.names N Rt .next s') ?_ (fun _ s' r=>wpAny_pure (wpAny_pure r)) fun _ _ e=>e
   refine Rj (use:=some (assign (.Name y py) env)) (Q':=fun _ s'=>Hs W h₀ env c.names N Rt .next s') K hf hcm ht hsrc hb hset ok Y R (he ρ H _ E q) (fun _ _ e=>e.st) fun D C H' s' R' hid hm q'=>?_
   refine Aa fun nY=>?_
   obtain⟨m,hm⟩:=hm
   obtain⟨c1,c2,c3,c4⟩:=hid C (.head _)
   refine nY ?_;clear nY
   show wpAny _ A (assign (.Name y py) env (.ref D)) _ _ _
   refine wpAny_assign_Name (wpAny_mono (Pi (Y.prot R') R'.prot hi (.ref D)) (fun _ s2 R2=>?_) fun _ _ e=>e)
   refine Aa fun nY=>?_
   obtain⟨o,es,ep,h1,h2⟩:=hm
   refine nY ?_;clear nY
   refine⟨m,R2.keep.ns ⟨o,es,ep,B6 h1 c1 c3 c4,h2⟩,fun h' hk=>?_⟩
   have R3:=R'.unprot Y R2
   exact⟨_,_,R3.swap s2.toks hk c1 c2 c3 fun x e=>by obtain⟨p,hp,hp2⟩:=A9 e;exact c4 p hp hp2,q'⟩
theorem Nu{e:Expr}{t:Option Expr}{l:Nat}(h:Lw e=true):swapsWith e t l env=pure false:=by
 cases e<;>first|rfl|cases h
theorem Yn{e:Expr}{x:X}{y:Str}{i:Nat}{py pos:Pos}(h:SE W G n c e x)(hp:Lw e=true)(hi:c.own y=some i):P7 W G n c (.Assign [.Name y py] e pos) (.assign i x):=by
 intro A env h₀ H ρ s N Rt E ok Y R q
 simp only[Jw,Bz,Bl,Jx,Ja,Jy,Jz,Kb,Dz,J0,J1,Cp]at q
 refine wpAny_Assign_Name (wpAny_mono (h ok Y R q) (fun v s' r=>?_) fun _ _ e=>e.st) (Nu hp)
 refine Aa fun nY=>?_
 obtain⟨a,H',hv,R',q'⟩:=r
 refine nY ?_;clear nY
 exact wpAny_mono (Pi Y R' hi hv) (fun _ s2 R2=>⟨_,_,R2,q'⟩) fun _ _ e=>e
theorem Yo{e o:Expr}{x:Str}{p:Pos}{l:Nat}:swapsWith e (some (.Attribute o x p)) l env=pure false:=by
 unfold swapsWith
 cases e<;>rfl
theorem Yp{e o i:Expr}{p:Pos}{l:Nat}:swapsWith e (some (.Subscript o i p)) l env=pure false:=by
 unfold swapsWith
 cases e<;>rfl
theorem Abs{an:Str}{a:C9}(ha:Nk an=some a):an=A4 a:=by
 delta Nk at ha
 repeat' split at ha
 all_goals first
  | (rename_i z;simp only[beq_iff_eq]at z;cases ha;exact z)
  | cases ha
theorem V3(g:E9 W G){o e:Expr}{x y:X}{an:Str}{a:C9}{pa pos:Pos}(h:SE W G n c e x)(ho:SE W G n c o y)(ha:Nk an=some a):P7 W G n c (.Assign [.Attribute o an pa] e pos) (.setattr y a x):=by
 intro A env h₀ H ρ s N Rt E ok Y R q
 simp only[Jw,Bz,Bl,Jx,Ja,Jy,Jz,Kb,Dz,J0,J1,Cp]at q
 have:=Abs ha
 subst this
 refine plainObj_wpAny_Assign_Attribute (wpAny_mono (h ok Y R q) (fun v s' r=>?_) fun _ _ e=>e.st) Yo
 refine Aa fun nY=>?_
 obtain⟨av,H',hv,R',q'⟩:=r
 refine nY ?_;clear nY
 refine wpAny_mono (ho ok Y R' q') (fun v2 s2 r=>?_) fun _ _ e=>e.st
 refine Aa fun nY=>?_
 obtain⟨ao,H2,hv2,R2,q2⟩:=r
 refine nY ?_;clear nY
 refine wpAny_mono (Qg Y g.X g.inst R2 hv2 hv q2) (fun _ s3 r=>?_) fun _ _ e=>e
 refine Aa fun nY=>?_
 obtain⟨H3,R3,q3⟩:=r
 refine nY ?_;clear nY
 exact⟨_,_,R3,q3⟩
theorem V4{o i e:Expr}{x y z:X}{pa pos:Pos}(h:SE W G n c e x)(ho:SE W G n c o y)(hi:SE W G n c i z):P7 W G n c (.Assign [.Subscript o i pa] e pos) (.setitem y z x):=by
 intro A env h₀ H ρ s N Rt E ok Y R q
 simp only[Jw,Bz,Bl,Jx,Ja,Jy,Jz,Kb,Dz,J0,J1,Cp]at q
 refine wpAny_Assign_Subscript (wpAny_mono (h ok Y R q) (fun v s' r=>?_) fun _ _ e=>e.st) Yp
 refine Aa fun nY=>?_
 obtain⟨av,H',hv,R',q'⟩:=r
 refine nY ?_;clear nY
 refine wpAny_mono (ho ok Y R' q') (fun v2 s2 r=>?_) fun _ _ e=>e.st
 refine Aa fun nY=>?_
 obtain⟨ao,H2,hv2,R2,q2⟩:=r
 refine nY ?_;clear nY
 refine wpAny_mono (hi ok Y R2 q2) (fun v3 s3 r=>?_) fun _ _ e=>e.st
 refine Aa fun nY=>?_
 obtain⟨ai,H3,hv3,R3,q3⟩:=r
 refine nY ?_;clear nY
 refine wpAny_mono (Qe Y R3 hv2 hv3 hv q3) (fun _ s4 r=>?_) fun _ _ e=>e
 refine Aa fun nY=>?_
 obtain⟨H4,R4,q4⟩:=r
 refine nY ?_;clear nY
 exact⟨_,_,R4,q4⟩
theorem Ad3{e:Expr}{x:X}{pos:Pos}(h:SE W G n c e x)(hp:Lw e=true):P7 W G n c (.Expr e pos) (.expr x):=by
 intro A env h₀ H ρ s N Rt E ok Y R q
 simp only[Jw,Bz,Bl,Jx,Ja,Jy,Jz,Kb,Dz,J0,J1,Cp]at q
 rw[arm_exec_Expr]
 have hi:interactive env=false:=by unfold interactive;rw[Y.kind];rfl
 refine wpAny_bind (wpAny_standAt ?_)
 simp only[hi,Bool.false_eq_true,if_false]
 refine wpAny_bind (wpAny_of_eq (Nu hp) ?_)
 simp only[Bool.false_eq_true,if_false]
 refine wpAny_bind (wpAny_mono (h ok Y R q) (fun v s' r=>?_) fun _ _ e=>e.st)
 refine Aa fun nY=>?_
 obtain⟨a,H',hv,R',q'⟩:=r
 refine nY ?_;clear nY
 exact wpAny_dropValue ⟨_,_,R',q'⟩
theorem Rk{x:X}{a b:List S}(h:Q4 (.ite x a b)=true):Ig a=true/\Ig b=true:=by
 match a,b,h with
 | [a],[b],h=>exact Bool.and_eq_true_iff.mp h
theorem Ai6{t:Expr}{a b:List Stmt}{x:X}{xa xb:List S}{pos:Pos}(h:ST W G n c t x)(ha:Go W G n c a xa)(hb:Go W G n c b xb):P7 W G n c (.If t a b pos) (.ite x xa xb):=by
 intro A env h₀ H ρ s N Rt E ok Y R q
 simp only[Jw,Bz,Bl,Jx,Ja,Jy,Jz,Kb,Dz,J0,J1,Cp]at q
 refine wpAny_If (wpAny_mono (h (Q:=fun d H=>if d then A1 G (Ae G n) xa ρ H N Rt E else A1 G (Ae G n) xb ρ H N Rt E) ok Y R q) (fun d s' r=>?_) fun _ _ e=>e.st)
 obtain⟨H',R',q'⟩:=r
 cases d with
 | true=>simp only[if_true]at q' ⊢;exact wpAny_mono (ha ok Y R' q') (fun _ _ r=>r) fun _ _ e=>(let ⟨ρ',z,w⟩:=e;⟨ρ',fun p=>z (Rk p).1,w⟩)
 | false=>simp only[Bool.false_eq_true,if_false]at q' ⊢;exact wpAny_mono (hb ok Y R' q') (fun _ _ r=>r) fun _ _ e=>(let ⟨ρ',z,w⟩:=e;⟨ρ',fun p=>z (Rk p).2,w⟩)
theorem Agv{e:Expr}{x:X}{pos:Pos}(h:SE W G n c e x):P7 W G n c (.Return (some e) pos) (.ret x):=by
 intro A env h₀ H ρ s N Rt E ok Y R q
 simp only[Jw,Bz,Bl,Jx,Ja,Jy,Jz,Kb,Dz,J0,J1,Cp]at q
 refine wpAny_Return_some (wpAny_mono (h ok Y R q) (fun v s' r=>?_) fun _ _ e=>e.st)
 refine Aa fun nY=>?_
 obtain⟨a,H',hv,R',q'⟩:=r
 refine nY ?_;clear nY
 exact⟨a,H',ρ,hv,R',q'⟩
theorem Ad4{pos:Pos}:P7 W G n c (.Pass pos) .pass:=by
 intro A env h₀ H ρ s N Rt E ok Y R q
 simp only[Jw,Bz,Bl,Jx,Ja,Jy,Jz,Kb,Dz,J0,J1,Cp]at q
 exact wpAny_Pass ⟨_,_,R,q⟩
end Mine.Internal
namespace Mine.Internal
open PySem PySem.W PyProof.Rows
variable {W:Wd} {G:A5} {c:Cx} {n:Nat} {Er:EP}
set_option backward.match.sparseCases false in
noncomputable def M4:Expr->Bool
 | .Starred .. =>false
 | .Set .. =>false
 | _=>true
structure Ee(W:Wd)(G:A5)(n:Nat)(c:Cx)(e:Expr)(x:X):Prop where
 se:SE W G n c e x
 st:ST W G n c e x
 px:M4 e=true
theorem Fu{e:Expr}(h:M4 e=true):∀v p,e≠ .Starred v p:=fun v p q=>by subst q;cases h
theorem Agw{e:Expr}(h:M4 e=true):∀env v,foldedSetIterable e env v=pure v:=fun env v=>by
 cases e<;>first|rfl|cases h
theorem Sr{e:Expr}(h:M4 e=true)(op:CmpOp):behindInMarks op e=false:=by
 cases e<;>first|rfl|cases h
theorem Bn{f:Expr->Option X}(ih:∀e x,f e=some x->Ee W G n c e x){es:List Expr}:∀ {xs:List X},F7 f es=some xs->Vw W G n c es xs/\NS es:=by
 induction es with
 | nil=>intro xs h;cases h;exact⟨Xa,fun e he=>by cases he⟩
 | cons e es ih2=>
   intro xs h
   obtain⟨x,hx,ys,hy,rfl⟩:=b2 (o:=f e) (o':=F7 f es) (k:=List.cons) h
   have g:=ih e x hx
   obtain⟨h1,h2⟩:=ih2 hy
   refine⟨T8 g.se h1 (Fu g.px),fun e' he'=>?_⟩
   rcases List.mem_cons.mp he' with rfl|he'
   ·exact Fu g.px
   ·exact h2 e' he'
theorem Ik{f:Expr->Option X}(ih:∀e x,f e=some x->Ee W G n c e x){op:BoolOp}{p:Pos}:∀ {es:List Expr} {x:X},O4 f op es=some x->SE W G n c (.BoolOp op es p) x/\ST W G n c (.BoolOp op es p) x
 | [],x,h=>by cases h
 | [e],x,h=>by
   simp only[O4]at h
   have g:=ih e x h
   refine⟨?_,Agj g.st⟩
   intro A env h₀ H ρ s Q E ok Y R q
   exact BoolOp_one (g.se ok Y R q)
 | e::e2::es,x,h=>by
   unfold O4 at h
   cases op with
   | And=>
     obtain⟨y,hy,z,hz,rfl⟩:=b2 h
     have g:=ih e y hy
     obtain⟨h1,h2⟩:=Ik ih (p:=p) hz
     exact⟨Agh g.se h1,Agi g.st h2⟩
   | Or=>
     obtain⟨y,hy,z,hz,rfl⟩:=b2 h
     have g:=ih e y hy
     obtain⟨h1,h2⟩:=Ik ih (p:=p) hz
     exact⟨Aiy g.se h1,Aiz g.st h2⟩
theorem K9(gd:E9 W G)(hf:c.hnd=false){f:Expr->Option X}(ih:∀e x,f e=some x->Ee W G n c e x){two:Bool}{e:Expr}{x:X}(h:Aab f c two e=some x):SS W G n c e x two/\∀env v,foldedSetIterable e env v=pure v:=by
 have val:∀ {x},(do return X.val (<-f e):Option X)=some x->SS W G n c e x two/\∀env v,foldedSetIterable e env v=pure v:=by
  intro x h
  obtain⟨y,hy,rfl⟩:=b1 h
  have g:=ih e y hy
  exact⟨Agr hf g.se,Agw g.px⟩
 delta Aab at h
 refine Aa fun nY=>?_
 split at h
 ·rename_i x' args hcn
  obtain⟨p,pos,rfl⟩:=Ic hcn
  split at h
  ·rename_i q
   simp only[Bool.and_eq_true,beq_iff_eq]at q
   obtain⟨hg,rfl⟩:=q
   split at h
   ·obtain⟨ys,hy,rfl⟩:=b1 h
    obtain⟨h1,h2⟩:=Bn ih hy
    refine nY ?_;clear nY
    exact⟨Abk gd hf hg h1 h2,fun _ _=>rfl⟩
   ·cases h
  ·split at h
   ·rename_i q
    simp only[Bool.and_eq_true,beq_iff_eq]at q
    obtain⟨hg,rfl⟩:=q
    split at h
    ·rename_i a
     split at h
     ·rename_i ht
      subst ht
      obtain⟨y,hy,rfl⟩:=b1 h
      have g:=ih a y hy
      refine nY ?_;clear nY
      exact⟨Ad0 gd hf hg g.se (Fu g.px),fun _ _=>rfl⟩
     ·cases h
    ·cases h
   ·split at h
    ·rename_i q
     simp only[Bool.and_eq_true,beq_iff_eq]at q
     obtain⟨hg,rfl⟩:=q
     split at h
     ·rename_i a
      obtain⟨y,hy,rfl⟩:=b1 h
      have g:=ih a y hy
      refine nY ?_;clear nY
      exact⟨Ags gd hf hg g.se (Fu g.px),fun _ _=>rfl⟩
     ·cases h
    ·refine nY ?_;clear nY
     exact val h
 ·refine nY ?_;clear nY
  exact val h
theorem La{f:Expr->Option X}(ih:∀e x,f e=some x->Ee W G n c e x):∀ {e:Option Expr} {x:X},Vh f e=some x->SO W G n c e x
 | none,x,h=>by cases h;exact Adv
 | some e,x,h=>Adw (ih e x h).se
theorem Yq{x:Str}{k:Nat}(hb:Ac8 x k=some .list):x = "list" :=(by decide:∀p∈Z9,p.2.2 = .list->p.1 = "list") (x,(k,.list)) (Tn hb) rfl
theorem Uf(gd:E9 W G)(hc:SC W G n){x:Str}{f:Expr->Option X}(ih:∀e x,f e=some x->Ee W G n c e x){p pos:Pos}{args:List Expr}{y:X}(ho:c.ovr=true)(hg:c.global x=true)(h:Aac f c x args=some y):SE W G n c (.Call (.Name x p) args [] pos) y:=by
 delta Aac at h
 split at h
 ·rename_i q
  have hx:=beq_iff_eq.mp q
  subst hx
  rcases args with _ | ⟨a,_ | ⟨b,r⟩⟩<;>try exact @nn _ _ _ h
  obtain⟨z,hz,rfl⟩:=b1 (o:=f a) (k:=fun z=>X.bi .sortedL [z]) h
  have g:=ih a z hz
  exact @V0 W G c n gd p pos a z hg g.se (Fu g.px)
 ·split at h
  ·rename_i q
   have hx:=beq_iff_eq.mp q
   subst hx
   split at h
   ·rename_i as hi
    obtain⟨sp,sp',rfl,hgs⟩:=Lv hi
    split at h
    ·obtain⟨zs,hz,rfl⟩:=b1 h
     obtain⟨h1,h2⟩:=Bn ih hz
     exact @L6 W G c n gd (.inr ho) p sp pos sp' as zs hg hgs h1 h2
    ·cases h
   ·cases h
  ·split at h
   ·rename_i y hy
    obtain⟨ys,hys,rfl⟩:=b1 h
    obtain⟨h1,h2⟩:=Bn ih hys
    exact @Aa1 W G c n gd ho hc x y p pos args ys hg hy h1 h2
   ·cases h
theorem Ug(gd:E9 W G)(hc:SC W G n){x:Str}{f:Expr->Option X}(ih:∀e x,f e=some x->Ee W G n c e x){p pos:Pos}{args:List Expr}{y:X}(hg:c.global x=true)(h:W3 f c x args=some y):SE W G n c (.Call (.Name x p) args [] pos) y:=by
 delta W3 at h
 split at h
 ·rename_i q
  have hx:=beq_iff_eq.mp q
  subst hx
  split at h
  ·rename_i e t hta
   obtain⟨tp,rfl⟩:=Vi hta
   split at h
   ·rename_i hgt
    split at h
    ·rename_i ty ht
     obtain⟨z,hz,rfl⟩:=b1 h
     have g:=ih e z hz
     exact @Yc W G c n gd ty t p tp pos e z ht hg hgt g.se (Fu g.px)
    ·split at h
     ·rename_i ht
      have ht:=beq_iff_eq.mp ht
      subst ht
      obtain⟨z,hz,rfl⟩:=b1 h
      have g:=ih e z hz
      exact @Ads W G c n gd p tp pos e z hg hgt g.se (Fu g.px)
     ·obtain⟨cc,ht,z,hz,rfl⟩:=b2 h
      have g:=ih e z hz
      exact @Aa9 W G c n gd cc t p tp pos e z ht hg hgt g.se (Fu g.px)
   ·cases h
  ·cases h
 ·split at h
  ·split at h
   ·rename_i ho
    exact Uf gd hc ih ho hg h
   ·cases h
  rename_i hnf
  have hf:c.hnd=false:=by simpa using hnf
  split at h
  ·rename_i b hb
   have plain:∀ {y},(do return X.bi b (<-F7 f args):Option X)=some y->SE W G n c (.Call (.Name x p) args [] pos) y:=by
    intro y h
    obtain⟨ys,hy,rfl⟩:=b1 h
    obtain⟨h1,h2⟩:=Bn ih hy
    exact @Ai1 W G c n gd hf b x p pos args ys hb hg h1 h2
   split at h
   ·split at h
    ·rename_i as hi
     obtain⟨sp,sp',rfl,hgs⟩:=Lv hi
     split at h
     ·obtain⟨zs,hz,rfl⟩:=b1 h
      obtain⟨h1,h2⟩:=Bn ih hz
      have hx:=Yq hb
      subst hx
      exact @L6 W G c n gd (.inl hf) p sp pos sp' as zs hg hgs h1 h2
     ·cases h
    ·exact @plain _ h
   ·exact @plain _ h
  ·split at h
   ·cases h
   ·rename_i q
    simp only[Bool.or_eq_true,not_or,Bool.not_eq_true]at q
    obtain⟨⟨⟨q1,q2⟩,q3⟩,q4⟩:=q
    have q2':D9 x=none:=by simpa using q2
    split at h
    ·rename_i z
     have hx:=beq_iff_eq.mp z
     obtain⟨ys,hy,rfl⟩:=b1 h
     obtain⟨h1,h2⟩:=Bn ih hy
     exact @Afn W G c n gd hf hc .web x p pos args ys (.inl ⟨rfl,hx⟩) hg h1 h2
    ·split at h
     ·rename_i z
      have hx:=beq_iff_eq.mp z
      obtain⟨ys,hy,rfl⟩:=b1 h
      obtain⟨h1,h2⟩:=Bn ih hy
      exact @Afn W G c n gd hf hc .verdict x p pos args ys (.inr ⟨rfl,hx⟩) hg h1 h2
     ·obtain⟨ys,hy,rfl⟩:=b1 h
      obtain⟨h1,h2⟩:=Bn ih hy
      exact @Adq W G c n gd hf hc x p pos args ys hg q3 q4 q2' h1 h2
theorem Abt{m f:Str}(h:Oe m=some f):D9 f=some (.web,m):=by
 unfold Oe at h
 repeat' split at h
 all_goals first
  | (rename_i q;have hx:=beq_iff_eq.mp q;subst hx;cases h;decide)
  | (cases h;done)
theorem Ps(gd:E9 W G)(hf:c.hnd=false){r:Cx->Expr->Option X}(ih:∀c e x,r c e=some x->Ee W G n c e x){elt t it:Expr}{ifs:List Expr}{a:Int}{sc:Scope}{p:Pos}{x:X}(h:F9 r c (.ListComp elt [⟨t,it,ifs,a⟩] sc p)=some x) :
 ∃(x':X) (ts:List Str) (K:Cm c sc ts) (src:X) (body:EP->Al->AH->(Option V->AH->Prop)->Prop),Ck t=some ts/\SS W G n c it src (Lu t)/\(∀env v,foldedSetIterable it env v=pure v)/\SB W G n (Ei c sc ts) ifs elt body/\
  (∀ρ H Q E,Aq G (Ae G n) x' ρ H Q E->Dq G (Ae G n) src ρ H (fun its g H=>its.length<=Bs/\Bm g (Cy ts.length) (body EF) (fun vs H=>Ao (.list vs) H Q) its [] (List.replicate ts.length none++ρ) H) E)/\x=x'/\a=0/\c.cmp=false:=by
 (delta F9 at h;dsimp only at h)
 refine Aa fun nY=>?_
 split at h
 ·rename_i ts hts
  split at h
  ·rename_i q
   simp only[Bool.and_eq_true,beq_iff_eq,Bool.not_eq_true']at q
   obtain⟨⟨rfl,hok⟩,hcm⟩:=q
   have hsh:(∃x,ts = [x])\/(Ka fun x y=>ts = [x,y]):=by
    refine Aa fun nY=>?_
    rcases Ib hts with⟨x,_,_,rfl⟩ | ⟨x,_,y,_,_,_,_,rfl⟩
    ·refine nY ?_;clear nY
     exact .inl ⟨x,rfl⟩
    ·refine nY ?_;clear nY
     exact .inr ⟨x,y,rfl⟩
   have K:=Yk hok hsh
   split at h
   ·obtain⟨y,hy,z,hz,rfl⟩:=b2 h
    obtain⟨h1,h2⟩:=K9 gd hf (ih c) hy
    refine nY ?_;clear nY
    exact⟨_,ts,K,y,_,hts,h1,h2,Abr (ih _ _ _ hz).se,fun ρ H Q E q=>by simp only[Jb,Jc,Jd,Je,Jf,Jg,Jh,Ji,Jj,Jk,Jl,Jm,Jn,Jo,Bx,Jp,Jq,Jr,Js,Jt,Av,Dc,Bc,Ar,Ju,Jv,A3,Bb]at q;exact q,rfl,rfl,hcm⟩
   ·obtain⟨y,hy,w,hw,z,hz,rfl⟩:=b3 h
    obtain⟨h1,h2⟩:=K9 gd hf (ih c) hy
    refine nY ?_;clear nY
    exact⟨_,ts,K,y,_,hts,h1,h2,Ad2 (ih _ _ _ hw).st (ih _ _ _ hz).se,fun ρ H Q E q=>by simp only[Jb,Jc,Jd,Je,Jf,Jg,Jh,Ji,Jj,Jk,Jl,Jm,Jn,Jo,Bx,Jp,Jq,Jr,Js,Jt,Av,Dc,Bc,Ar,Ju,Jv,A3,Bb]at q;exact q,rfl,rfl,hcm⟩
   ·cases h
  ·cases h
 ·cases h
theorem Oa(gd:E9 W G)(hc:SC W G n){r:Cx->Expr->Option X}(ih:∀c e x,r c e=some x->Ee W G n c e x){f:Expr}{args:List Expr}{kws:List Keyword}{p:Pos}{x:X}(hm:c.hnd=false\/Tp (.Call f args kws p)=true)(h:F9 r c (.Call f args kws p)=some x):Ee W G n c (.Call f args kws p) x:=by
 have toGood:∀ {e x},M4 e=true->SE W G n c e x->(∀env whole,isTrue e env whole=(do let v <-whole;standAt e.pos;holding [v] (PySem.truthy v)))->Ee W G n c e x:=fun hp hse hi=>⟨hse,hse.toST hi,hp⟩
 refine Aa fun no=>?_
 rcases kws with _ | ⟨kw,kws⟩
 ·cases f with
  | Name y p'=>
    replace h:(if c.global y=true then W3 (r c) c y args else none)=some x:=h
    split at h
    ·rename_i hg
     exact no<|toGood rfl (Ug gd hc (ih c) hg h) fun _ _=>rfl
    ·cases h
  | Attribute o m ap=>
    replace h:(if (ap.endLine==p.line&&decide (args.length<3)&&Ie o)=true then(match Oe m with
     | some g=>(r c o >>= fun y=>F7 (r c) args >>= fun z=>pure (X.meth g y z))
     | none=>(Ac6 m >>= fun l=>r c o >>= fun y=>F7 (r c) args >>= fun z=>pure (X.lm l y z)))else none)=some x:=h
    split at h
    ·rename_i q
     simp only[Bool.and_eq_true,decide_eq_true_eq]at q
     obtain⟨⟨q1,q2⟩,q3⟩:=q
     split at h
     ·rename_i f hfm
      obtain⟨y,hy,zs,hz,rfl⟩:=b2 h
      obtain⟨h1,h2⟩:=Bn (ih c) hz
      exact no<|toGood rfl (Adr gd (hm.resolve_right nofun) hc q3 q1 q2 (Abt hfm) (ih c _ _ hy).se h1 h2) fun _ _=>rfl
     ·obtain⟨lm,hlm,y,hy,zs,hz,rfl⟩:=b3 h
      obtain⟨h1,h2⟩:=Bn (ih c) hz
      exact no<|toGood rfl (Ai4 q3 q1 q2 hlm (ih c _ _ hy).se h1 h2) fun _ _=>rfl
    ·cases h
  | _=>exact @nn _ _ _ h
 ·cases f<;>exact @nn _ _ _ h
theorem V5(gd:E9 W G)(hc:SC W G n){r:Cx->Expr->Option X}(ih:∀c e x,r c e=some x->Ee W G n c e x){e:Expr}{x:X}(hm:c.hnd=false\/Tp e=true)(h:F9 r c e=some x):Ee W G n c e x:=by
 have toGood:∀ {e x},M4 e=true->SE W G n c e x->(∀env whole,isTrue e env whole=(do let v <-whole;standAt e.pos;holding [v] (PySem.truthy v)))->Ee W G n c e x:=fun hp hse hi=>⟨hse,hse.toST hi,hp⟩
 cases e with
 | Constant k u p=>
   cases k<;>first|exact @nn _ _ _ h|(obtain rfl:=Option.some.inj h)
   ·exact toGood rfl Ado fun _ _=>rfl
   ·exact toGood rfl Aay fun _ _=>rfl
   ·exact toGood rfl Adp fun _ _=>rfl
 | Name y p=>
   (delta F9 at h;dsimp only at h)
   split at h
   ·cases h
   ·rename_i q
    simp only[Bool.or_eq_true,not_or,Bool.not_eq_true]at q
    split at h
    ·rename_i i hs
     cases h
     exact toGood rfl (Aax hs q.1 q.2) fun _ _=>rfl
    ·split at h
     ·rename_i hg
      split at h
      ·cases h;exact toGood rfl (Adn gd hg q.1) fun _ _=>rfl
      ·cases h
     ·cases h
 | UnaryOp op e p=>
   cases op<;>first|exact @nn _ _ _ h|skip
   ·obtain⟨y,hy,rfl⟩:=b1 (o:=r c e) (k:=X.not) h
    have g:=ih c e y hy
    exact⟨Age g.se,Agf g.st,rfl⟩
   ·obtain⟨y,hy,rfl⟩:=b1 (o:=r c e) (k:=X.neg) h
    have g:=ih c e y hy
    exact toGood rfl (Agg g.se) fun _ _=>rfl
 | BoolOp op es p=>
   obtain⟨h1,h2⟩:=Ik (ih c) (p:=p) (show O4 (r c) op es=some x from h)
   exact⟨h1,h2,rfl⟩
 | BinOp l op e p=>
   obtain⟨y,hy,z,hz,rfl⟩:=b2 (o:=r c l) (o':=r c e) (k:=X.bin op) h
   exact toGood rfl (Agk (ih c _ _ hy).se (ih c _ _ hz).se) fun _ _=>rfl
 | Compare l ops es p=>
   rcases ops with _ | ⟨o,_ | ⟨o',_ | ⟨o3,ops⟩⟩⟩
   ·exact @nn _ _ _ h
   ·rcases es with _ | ⟨e,_ | ⟨e',es⟩⟩
    ·exact @nn _ _ _ h
    ·obtain⟨y,hy,z,hz,rfl⟩:=b2 (o:=r c l) (o':=r c e) (k:=X.cmp o) h
     have g1:=ih c _ _ hy
     have g2:=ih c _ _ hz
     exact⟨Agl g1.se g2.se (Sr g2.px _),Agm g1.se g2.se (Sr g2.px _),rfl⟩
    ·exact @nn _ _ _ h
   ·rcases es with _ | ⟨m,_ | ⟨e,_ | ⟨e',es⟩⟩⟩
    ·exact @nn _ _ _ h
    ·exact @nn _ _ _ h
    ·obtain⟨y,hy,z,hz,w,hw,rfl⟩:=b3 (o:=r c l) (o':=r c m) (p:=r c e) (k:=fun a b d=>X.chain a o b o' d) h
     have g1:=ih c _ _ hy
     have g2:=ih c _ _ hz
     have g3:=ih c _ _ hw
     have hm:lastMarks [o,o'] [m,e]=false:=Sr g3.px o'
     exact⟨Aaz g1.se g2.se g3.se hm,Aa0 g1.se g2.se g3.se hm,rfl⟩
    ·exact @nn _ _ _ h
   ·exact @nn _ _ _ h
 | Attribute o a p=>
   replace h:(if Ie o=true then(r c o >>= fun y=>Nk a >>= fun z=>pure (X.attr y z))else none)=some x:=h
   split at h
   ·rename_i hb
    obtain⟨y,hy,at',ha,rfl⟩:=b2 h
    exact toGood rfl (Adu gd hb ha (ih c _ _ hy).se) fun _ _=>rfl
   ·cases h
 | List es p=>
   replace h:(if es.length<100 then(F7 (r c) es >>= fun y=>pure (X.list y))else none)=some x:=h
   split at h
   ·rename_i hl
    obtain⟨ys,hy,rfl⟩:=b1 h
    exact toGood rfl (Adt (Bn (ih c) hy).1 hl) fun _ _=>rfl
   ·cases h
 | Tuple es k p=>
   replace h:(if es.length<100 then(F7 (r c) es >>= fun y=>pure (X.tuple y))else none)=some x:=h
   split at h
   ·rename_i hl
    obtain⟨ys,hy,rfl⟩:=b1 h
    exact toGood rfl (Aba (Bn (ih c) hy).1 hl) fun _ _=>rfl
   ·cases h
 | Dict ks vs p=>
   rcases ks with _ | ⟨k,_ | ⟨k',ks⟩⟩
   ·rcases vs with _ | ⟨v,vs⟩
    ·obtain rfl:=Option.some.inj (show some (X.dict [] [])=some x from h)
     exact toGood rfl Abd fun _ _=>rfl
    ·exact @nn _ _ _ h
   ·rcases k with _|k
    ·exact @nn _ _ _ h
    ·rcases vs with _ | ⟨v,_ | ⟨v',vs⟩⟩
     ·exact @nn _ _ _ h
     ·obtain⟨y,hy,z,hz,rfl⟩:=b2 (o:=r c k) (o':=r c v) (k:=fun a b=>X.dict [a] [b]) h
      exact toGood rfl (Abe (ih c _ _ hy).se (ih c _ _ hz).se) fun _ _=>rfl
     ·exact @nn _ _ _ h
   ·rcases k with _|k<;>exact @nn _ _ _ h
 | Subscript o i p=>
   cases hi:Pg i with
   | true=>
     have e:F9 r c (.Subscript o i p)=(do return .sub (<-r c o) (<-r c i)):=by cases i<;>first|rfl|cases hi
     rw[e]at h
     obtain⟨y,hy,z,hz,rfl⟩:=b2 h
     exact toGood rfl (Agp hi (ih c _ _ hy).se (ih c _ _ hz).se) fun _ _=>rfl
   | false=>
     cases i with
     | Slice l u st p2=>
       obtain⟨y,hy,a,ha,b,hb,d,hd,rfl⟩:=b4 (o:=r c o) (o':=Vh (r c) l) (p:=Vh (r c) u) (p':=Vh (r c) st) (k:=X.slice) h
       exact toGood rfl (Abc (ih c _ _ hy).se (La (ih c) ha) (La (ih c) hb) (La (ih c) hd)) fun _ _=>rfl
     | _=>cases hi
 | Call f args kws p=>exact Oa gd hc (fun c e x h=>ih c e x h) hm h
 | ListComp elt gens sc p=>
   rcases gens with _ | ⟨⟨t,it,ifs,a⟩,_ | ⟨g2,gs⟩⟩
   ·exact @nn _ _ _ h
   ·obtain⟨x',ts,K,src,body,ht,hsrc,hset,hb,he,rfl,rfl,hcm⟩:=Ps gd (hm.resolve_right nofun) ih h
    exact toGood rfl (Nt K (hm.resolve_right nofun) hcm ht hsrc hb hset he) fun _ _=>rfl
   ·exact @nn _ _ _ h
 | _=>exact @nn _ _ _ h
theorem Xe{a b:Bool}(q:¬(a && !b)=true):a=false\/b=true:=by cases a<;>cases b<;>simp_all
theorem Oj(gd:E9 W G)(hc:SC W G n):∀(k:Nat) (c:Cx) (e:Expr) (x:X),Tq k c e=some x->Ee W G n c e x
 | 0,_,_,_,h=>by cases h
 | k+1,c,e,x,h=>by
   replace h:(if (c.hnd && !Tp e)=true then none else F9 (Tq k) c e)=some x:=h
   split at h
   ·cases h
   ·rename_i q
    exact V5 gd hc (Oj gd hc k) (Xe q) h
theorem Bv{f:Stmt->Option S}(ih:∀e x,f e=some x->P7 W G n c e x){es:List Stmt}:∀ {xs:List S},I7 f es=some xs->Go W G n c es xs:=by
 induction es with
 | nil=>intro xs h;cases h;exact Abl
 | cons e es ih2=>
   intro xs h
   cases es with
   | nil=>
     obtain⟨x,hx,rfl⟩:=b1 (o:=f e) (k:=fun x=>[x]) h
     exact Abm (ih e x hx)
   | cons e' es=>
     obtain⟨x,hx,ys,hy,rfl⟩:=b2 (o:=f e) (o':=I7 f (e'::es)) (k:=List.cons) h
     cases ys with
     | nil=>obtain⟨_,_,_,_,q⟩:=b2 (o:=f e') (o':=I7 f es) (k:=List.cons) hy;cases q
     | cons y ys=>exact Yi (ih e x hx) (ih2 hy)
end Mine.Internal
namespace Mine.Internal
open PySem PySem.W PyProof.Rows
variable {W:Wd} {G:A5} {c:Cx} {n:Nat} {Er:EP}
theorem Ss(gd:E9 W G)(hf:c.hnd=false)(hc:SC W G n){k:Nat}{y:Str}{py pos:Pos}{e:Expr}{i:Nat}{x:X}(hi:c.own y=some i)(h:Tq k c e=some x):P7 W G n c (.Assign [.Name y py] e pos) (.assign i x):=by
 cases hn:Lw e with
 | true=>intro A env h₀ H ρ s N Rt E ok Y R q;exact Yn (Oj gd hc k c e x h).se hn hi ok Y R q
 | false=>
   cases k with
   | zero=>cases h
   | succ k=>
     have h':F9 (Tq k) c e=some x:=by
      have z:(if (c.hnd && !Tp e)=true then none else F9 (Tq k) c e)=some x:=h
      rw[if_neg (by rw[hf];exact nofun)]at z
      exact z
     cases e with
     | ListComp elt gens sc p=>
       rcases gens with _ | ⟨⟨t,it,ifs,a⟩,_ | ⟨g2,gs⟩⟩
       ·exact @nn _ _ _ h'
       ·obtain⟨x',ts,K,src,body,ht,hsrc,hset,hb,he,rfl,rfl,hcm⟩:=Ps gd hf (Oj gd hc k) h'
        intro A env h₀ H ρ s N Rt E ok Y R q;exact Pr K hf hcm ht hsrc hb hset he hi ok Y R q
       ·exact @nn _ _ _ h'
     | SetComp _ _ _ _=>exact @nn _ _ _ h'
     | DictComp _ _ _ _ _=>exact @nn _ _ _ h'
     | _=>cases hn
/-! raise and try -/
theorem Abu{e:Option Expr}{cc:Cn}(h:Gl c e=some cc):(Ex6 fun x np sv k1 k2 cpos=>D3 (e=some (.Call (.Name x np) [.Constant (.str sv) k1 k2] [] cpos)) (c.global x=true) (Hr x=some cc)):=by
 refine Aa fun nY=>?_
 cases e with
 | none=>cases h
 | some e=>
   replace h:(match Di e with|some (x,args)=>(match args with | [a]=>if (Aae a&&c.global x)=true then Hr x else none|_=>none)|none=>none)=some cc:=h
   refine nY ?_;clear nY
   cases q:Di e with
   | none=>rw[q]at h;cases h
   | some r=>
     refine Aa fun nY=>?_
     obtain⟨x,args⟩:=r
     rw[q]at h
     rcases args with _ | ⟨a,_ | ⟨b,r⟩⟩<;>try exact @nn _ _ _ h
     replace h:(if (Aae a&&c.global x)=true then Hr x else none)=some cc:=h
     by_cases z:(Aae a&&c.global x)=true
     ·rw[if_pos z]at h
      obtain⟨z1,z2⟩:=Bool.and_eq_true_iff.mp z
      obtain⟨sv,k1,k2,rfl⟩:=Adb z1
      obtain⟨np,cpos,rfl⟩:=Ic q
      refine nY ?_;clear nY
      exact⟨x,np,sv,k1,k2,cpos,rfl,z2,h⟩
     ·rw[if_neg z]at h;cases h
section
variable {nm q:Str} {C N:Addr} {bs bm:List Value} {hdct:Bool} {sn:List Str} {sub:List Value} {ab:Bool} {col:Option Bool} {dd:Option Addr} {k0 k1 k2 k3 k5:Option Value} {newId:String}
theorem V6{M:Model}{A:Around}{env:Env}{s:Shared}{E:Value->Shared->Prop}{x:Sem Value}{Q:Flow->Shared->Prop}(hb:bm.contains (.type "BaseException")=true)
 (h:wpAny M A x (fun v s₁=>(Ka fun e t=>R7 (v = .ref e) (s₁.heap.get? C=some (excClassObj nm q C N bs bm hdct sn sub ab col dd k0 k1 k2 k3 k5 newId)) (s₁.heap.get? e=some {cls:= .ref C,data:= .fields #[.ref t,.none,.none,.none,.bool false,.none]}) (wpAny M A (raiseNew (.ref e):Sem Flow) Q E s₁))) E s) :
 wpAny M A (raiseStmt env (some x) none) Q E s:=by
 have hc:(Value.ref C::bm).contains (.type "BaseException")=true:=by rw[List.contains_cons,hb,Bool.or_true]
 unfold raiseStmt
 refine wpAny_bind (wpAny_mono h (fun v s₁ h₁=>?_) fun _ _ x=>x)
 obtain⟨e,t,rfl,hC,he,hE⟩:=h₁
 obtain⟨hp,g,d,tk,os⟩:=s₁
 repeat (first|with_reducible exact hE|with_reducible refine wpAny_loadPart_at he ?_|with_reducible refine wpAny_loadPart_at hC ?_|(with_reducible refine wpAny_isSubtype_exc hC ?_;rw[hc])|wp_step)
end
theorem Rl(gd:E9 W G){A:Around}{h₀:HB}{env:Env}{H:AH}{ρ:Al}{s:Shared}{Q:Flow->Shared->Prop}{Em:Value->Shared->Prop}{e:Option Expr}{cc:Cn}{pos:Pos}(h:Gl c e=some cc)(xo:L0 W cc)(ok:Ms A c h₀ env n)(Y:Ai W env c h₀)(R:An W h₀ env c.names H ρ s)
 (fin:∀h' e s₂ us,An W h₀ env c.names H ρ s₂->Heap.MadeExcOf s₂.heap h' e (.ref (W.cl cc)) us->wpAny W.M A (raiseNew (.ref e):Sem Flow) Q Em {s₂ with heap:=h'}):wpAny W.M A (exec (.Raise e none pos) env) Q Em s:=by
 refine Aa fun nY=>?_
 obtain⟨x,np,sv,j1,j2,cpos,rfl,hg,ht⟩:=Abu h
 have hd:(x==("__debug__" :Str))=false:=(by decide:∀p∈Mw,(p.1==("__debug__" :Str))=false) (x,cc) (El ht)
 have hns:NS [Expr.Constant (.str sv) j1 j2]:=ns1 fun _ _ q=>by cases q
 obtain⟨nm,qq,N',bs,bm,hdct,sn,sub,ab,col,dd,k0,k1,k2,k3,k5,mN,K⟩:=K3 gd xo
 refine nY ?_;clear nY
 rw[arm_exec_Raise]
 refine wpAny_bind (wpAny_standAt (V6 (C:=W.cl cc) (nm:=nm) (q:=qq) (N:=N') (bs:=bs) (bm:=bm) (hdct:=hdct) (sn:=sn) (sub:=sub) (ab:=ab) (col:=col) (dd:=dd) (k0:=k0) (k1:=k1) (k2:=k2) (k3:=k3) (k5:=k5) (newId:= "ValueError.__new__") (K.tail.hasType (by decide)) (wpAny_bind (wpAny_mono (wpAny_Call_ofName (C8 gd Y R hg hd (Ly ht▸xo.name) ?_)) (fun v s₃ h₃=>wpAny_bind (wpAny_standAt (wpAny_pure h₃))) fun _ _ x=>x))))
 unfold callWith
 have hev:wpAny W.M A (evalArgs (.ref (W.cl cc)) true (backTo cpos (starEach [Expr.Constant (.str sv) j1 j2] env)) []) (fun a s₂=>a.kw = []/\a.pos.length<=1/\An W h₀ env c.names H ρ s₂) Em s:=by
  rw[A7 (fun _ _ q=>by cases q)]
  exact Calls.evalArgs_plain (Calls.spliced_cons fun _ _ _=>Calls.spliced_nil ⟨rfl,Nat.le_refl _,R.toks _⟩)
 refine wpAny_bind (wpAny_holding (wpAny_mono hev (fun a s₂ r=>wpAny_bind (wpAny_standAt ?_)) fun _ _ e=>e))
 ·refine Aa fun nY=>?_
  obtain⟨apos,akw⟩:=a
  obtain⟨r1,r2,R2⟩:=r
  obtain rfl:akw = []:=r1
  have K2:=K.keeps (R2.keepB Y)
  refine nY ?_;clear nY
  simp only[hns.plain]
  refine Aa fun nY=>?_
  obtain⟨hp,g,d,tk,os⟩:=s₂
  refine nY ?_;clear nY
  refine wpAny_bind (wpAny_keeperOf_exc K2.at_ ?_)
  refine wpAny_bind (wpAny_call_exc_subT (hrest:=Nat.le_trans r2 (by decide)) PySem.F.excBase_ValueError K2.tail K2.at_ K2.ns K.ini fun h' e hm=>wpAny_bind (wpAny_holding (wpAny_point (wpAny_pure ?_))))
  refine Aa fun nY=>?_
  obtain⟨t,ht,_,_⟩:=hm.there
  refine nY ?_;clear nY
  exact⟨e,t,rfl,hm.keeps _ _ K2.at_,ht,fin h' e _ _ R2 hm⟩
theorem Uh{h₀:HB}{env:Env}{names:List Str}{H:AH}{ρ:Al}{s:Shared}(R:An W h₀ env names H ρ s){h':Heap}{e:Addr}{C:Value}{us:List Value}(hm:Heap.MadeExcOf s.heap h' e C us):H e=none:=by
 cases z:H e with
 | none=>rfl
 | some o=>obtain⟨ob,z1,_⟩:=R.objs e o z;rw[hm.new]at z1;cases z1
theorem Abv(gd:E9 W G)(hf:c.hnd=false){e:Option Expr}{cc:Cn}{pos:Pos}(h:Gl c e=some cc):P7 W G n c (.Raise e none pos) (.raise cc):=by
 intro A env h₀ H ρ s N Rt E ok Y R q
 rw[Cp]at q
 obtain⟨hG,q⟩:=q
 have xo:=gd.exc cc hG
 refine Rl gd h xo ok Y R fun h' e s₂ us R2 hm=>wpAny_raiseNew_none (ok.handled hf) ?_
 obtain⟨t,he,_,_⟩:=hm.there
 have R3:=R2.put s₂.toks hm.keeps he (.exc (c:=cc) (k:=true) xo rfl rfl fun _=>rfl) hm.new nofun
 exact⟨ρ,fun _=>rfl,none,e,_,cc,true,rfl,R3,(by simp[upd]),⟨_,_,_,he,rfl,rfl,rfl⟩,q e (Uh R2 hm)⟩
theorem Yr(gd:E9 W G)(ho:c.ovr=true){e:Option Expr}{cc:Cn}{pos:Pos}(h:Gl c e=some cc):P7 W G n c (.Raise e none pos) (.raiseO cc):=by
 intro A env h₀ H ρ s N Rt E ok Y R q
 rw[Tf]at q
 obtain⟨hG,q⟩:=q
 have xo:=gd.exc cc hG
 refine Rl gd h xo ok Y R fun h' e s₂ us R2 hm=>?_
 refine Aa fun nY=>?_
 obtain⟨t,he,_,_⟩:=hm.there
 obtain⟨e1,oe,vs,x1,x2,x3,x4,_⟩:=R2.over Y (ok.over ho)
 refine nY ?_;clear nY
 refine O5 x1 (fun z=>by rw[z,hm.new]at x2;cases x2) (hm.keeps _ _ x2) x3 x4 he rfl (show 2<6 by decide) ?_
 have ho:=Heap.get?_update_self (Obj.mapFields (·.setIfInBounds 2 (.ref e1))) he rfl
 have R3:=R2.put (o:= .exc cc false) s₂.toks (fun b o z=>(Heap.get?_update_other _ _ (fun w=>by rw[<-w,hm.new]at z;cases z)).trans (hm.keeps b o z)) ho (.exc xo rfl rfl nofun) hm.new nofun
 exact⟨ρ,fun _=>rfl,none,e,_,cc,false,rfl,R3,if_pos rfl,⟨_,_,_,ho,rfl,rfl,rfl⟩,q e (Uh R2 hm)⟩
theorem An.forget{h₀:HB}{env:Env}{names:List Str}{H:AH}{ρ:Al}{s:Shared}(R:An W h₀ env names H ρ s)(Y:Ai W env c h₀){h':Heap}{m':Str->Option Value}(hm:h'.Ns env.locals m')(hb:Heap.SameBut env.locals s.heap h')(t:Nat):An W h₀ env names H [] {s with heap:=h',toks:=t} where
 ns:=⟨m',hm,fun x i v _ _ e=>by simp at e⟩
 cell:=fun x a e=>let ⟨w,⟨o,ho,hd⟩,_⟩:=R.cell x a e;⟨w,⟨o,(hb.2 a (Y.apart x a e)).trans ho,hd⟩,fun i v _ _ e=>by simp at e⟩
 keep:=fun b o e=>let ⟨o',e1,z⟩:=R.keep b o e;⟨o',(hb.2 b (fun q=>by rw[q,Y.new]at e;cases e)).trans e1,z⟩
 objs:=fun a o e=>let ⟨ob,h1,h2⟩:=R.objs a o e;⟨ob,(hb.2 a (R.sep a o e).2.1).trans h1,h2⟩
 sep:=R.sep
 gens:=R.gens
 os:=R.os
 above:=R.above
 low:=R.low
theorem Ai.inH{h₀:HB}{env:Env}{o:Bool}(Y:Ai W env c h₀):Ai W env {c with hnd:=true,ovr:=o} h₀:=⟨Y.kind,Y.globals,Y.builtins,Y.kinds,Y.frees,Y.cells,Y.apart,Y.inj,Y.base,Y.new,Y.fsok,Y.fsd,Y.newc,Y.look,Y.lo⟩
theorem Xf{h:ExceptHandler}{cc:Cn}{as:Option Nat}(e:G5 c h=some (cc,as)):(Ex6 fun x np a b₀ sb p=>R7 (h = .ExceptHandler (some (.Name x np)) a (b₀::sb) p) (c.global x=true) (Hr x=some cc) (asO c a=some as)):=by
 refine Aa fun nY=>?_
 cases h with
 | ExceptHandler t a suite p=>
   replace e:(match Afk t with|some x=>if (c.global x && !suite.isEmpty)=true then(Hr x >>= fun k=>asO c a >>= fun i=>pure (k,i))else none|none=>none)=some (cc,as):=e
   cases t with
   | none=>cases e
   | some t=>
     replace e:(match Ez t with|some x=>if (c.global x && !suite.isEmpty)=true then(Hr x >>= fun k=>asO c a >>= fun i=>pure (k,i))else none|none=>none)=some (cc,as):=e
     refine nY ?_;clear nY
     cases q:Ez t with
     | none=>rw[q]at e;cases e
     | some x=>
       refine Aa fun nY=>?_
       obtain⟨np,rfl⟩:=Ia q
       rw[q]at e
       replace e:(if (c.global x && !suite.isEmpty)=true then(Hr x >>= fun k=>asO c a >>= fun i=>pure (k,i))else none)=some (cc,as):=e
       split at e
       ·rename_i z
        obtain⟨k,hk,i,hi,q⟩:=b2 e
        cases q
        cases suite with
        | nil=>simp at z
        | cons b₀ sb=>(refine nY ?_;clear nY;exact⟨x,np,a,b₀,sb,p,rfl,by simp at z;exact z,hk,hi⟩)
       ·cases e
theorem Afo{x:Str}{as:Option Nat}(h:asO c (some x)=some as):(Oo fun i=>D3 (as=some i) (c.own x=some i) (c.sc.names.lookup x=some .local)):=by
 replace h:(if (c.sc.names.lookup x==some .local)=true then(c.own x).map some else none)=some as:=h
 refine Aa fun nY=>?_
 split at h
 ·rename_i z
  obtain⟨i,hi,rfl⟩:=Option.map_eq_some_iff.mp h
  refine nY ?_;clear nY
  exact⟨i,rfl,hi,by simpa using z⟩
 ·cases h
theorem Il(gd:E9 W G){A:Around}{h₀:HB}{env:Env}{ρ:Al}{s:Shared}{Er:EP}{N:Al->AH->Prop}{Rt:Ak}{Em:Value->Shared->Prop}(ok:Ms A c h₀ env n)(Y:Ai W env c h₀){h:ExceptHandler}{rest:List ExceptHandler}{cc:Cn}{as:Option Nat}{xs:List S}
 (hk:G5 c h=some (cc,as)) (hs:Go W G n {c with hnd:=true,ovr:=false} (Dj h) xs) (xo:L0 W cc) {v:Value} (x:Vl W h₀ env c.names ρ Er (some .none) v s)
 (yes:∀v H',Er v H'->Dp cc v H'=some true->A1 G (Ae G n) xs (Zz as (some v) ρ) H' (fun ρ H=>N (Xx as ρ) H) Rt EF)
 (no:∀s',Vl W h₀ env c.names ρ (fun v H=>Er v H/\Dp cc v H=some false) (some .none) v s'->wpAny W.M A (handleBy v env rest) (Hs W h₀ env c.names N Rt) Em s') :
 wpAny W.M A (handleBy v env (h::rest)) (Hs W h₀ env c.names N Rt) Em s:=by
 refine Aa fun nY=>?_
 obtain⟨xn,np,a,b₀,sb,p,rfl,hg,ht,ha⟩:=Xf hk
 obtain⟨e,H,c',kk,rfl,R,he,trc,q⟩:=x
 have hd:(xn==("__debug__" :Str))=false:=(by decide:∀p∈Mw,(p.1==("__debug__" :Str))=false) (xn,cc) (El ht)
 obtain⟨ob,h1,h2⟩:=R.objs e _ he
 cases h2 with
 | exc z1 z2 z3 z4=>
 obtain⟨nm,qq,N1,bs,bm,hdct,sn,sub,ab,col,dd,k0,k1,k2,k3,k5,mN,K⟩:=K3 gd z1
 obtain⟨nm',qq',N',bs',bm',hdct',sn',sub',ab',col',dd',k0',k1',k2',k3',k5',mN',K'⟩:=K3 gd xo
 replace K:=K.keeps (R.keepB Y)
 replace K':=K'.keeps (R.keepB Y)
 have hb:=gd.sub c' cc z1 xo
 rw[K.mro]at hb
 have hi:Dp cc (.ref e) H=some (c'==cc||cc == .webError):=Ot he
 have ok':Ms (A.mark (some (.ref e))) {c with hnd:=true,ovr:=false} h₀ env n:=⟨nofun,ok.room,ok.units,ok.stk,nofun,ok.top⟩
 refine nY ?_;clear nY
 refine wpAny_handleBy_cons (codeAny_handlers_test (C8 gd Y R hg hd (Ly ht▸xo.name) ?_)) (by intro q;cases q)
 refine Aa fun nY=>?_
 obtain⟨hh,gg,d,tk,os⟩:=s
 refine nY ?_;clear nY
 refine Nq K.at_ h1 z2 K'.at_ (K'.tail.hasType (by decide)) hb ?_
 cases hr:(c'==cc||cc == .webError)with
 | false=>
   rw[hr]at hi
   exact no _ ⟨e,H,c',kk,rfl,R,he,trc,q,hi⟩
 | true=>
   rw[hr]at hi
   have x2:Vl W h₀ env c.names ρ (fun v H=>Er v H/\Dp cc v H=some true) (some .none) (.ref e) ⟨hh,gg,d,tk,os⟩:=⟨e,H,c',kk,rfl,R,he,trc,q,hi⟩
   refine Aa fun nY=>?_
   cases a with
   | none=>
     cases ha
     refine nY ?_;clear nY
     refine codeAny_handlers_suite (Gp Y x2 fun s1 y=>?_)
     refine Aa fun nY=>?_
     obtain⟨e1,H1,c1,_,w1,R1,_,_,q1,i1⟩:=y
     cases w1
     refine nY ?_;clear nY
     exact wpAny_mono (hs ok' Y.inH R1 (yes _ _ q1 i1)) (fun f s2 r=>r) fun _ _ z=>(let ⟨_,_,w⟩:=z;w.ef)
   | some nmx=>
     obtain⟨i,rfl,ho,hl⟩:=Afo ha
     have hlo:env.kindOf nmx=some .local:=Y.kinds nmx _ hl (by simp)
     refine nY ?_;clear nY
     refine codeAny_handlers_suite_as (Gp Y x2 fun s1 y=>?_)
     refine Aa fun nY=>?_
     obtain⟨e1,H1,c1,_,w1,R1,_,_,q1,i1⟩:=y
     cases w1
     refine nY ?_;clear nY
     refine wpAny_mono (Pi Y R1 ho (.ref e)) (fun _ s2 R2=>?_) fun _ _ e=>e
     refine wpAny_mono (hs ok' Y.inH R2 (yes _ _ q1 i1)) (fun f s3 r=>?_) fun _ _ z=>(let ⟨_,_,w⟩:=z;w.ef)
     have hp:(env.scope.kind == .class||(env.scope.kind == .module&&env.locals != env.globals))=false:=by rw[Y.kind];rfl
     refine Aa fun nY=>?_
     cases f with
     | next=>
       obtain⟨ρ3,H3,R3,q3⟩:=r
       obtain⟨m,hm,_⟩:=R3.ns
       refine nY ?_;clear nY
       exact wpAny_nameGoes hlo hm hp fun h' m' hm' hsb=>⟨[],H3,An.forget R3 Y hm' hsb _,q3⟩
     | ret w=>
       obtain⟨a,H3,ρ3,hv,R3,q3⟩:=r
       obtain⟨m,hm,_⟩:=R3.ns
       refine nY ?_;clear nY
       exact wpAny_nameGoes hlo hm hp fun h' m' hm' hsb=>⟨a,H3,[],hv,An.forget R3 Y hm' hsb _,q3⟩
     | brk=>exact r.elim
     | cont=>exact r.elim
theorem Pt{A:Around}{h₀:HB}{env:Env}{H:AH}{ρ:Al}{s:Shared}{E':EP}{N:Al->AH->Prop}{Rt:Ak}{Em:Value->Shared->Prop}(hcm:c.cmp=false){body:List Stmt}{b:List S}{h:ExceptHandler}{hs:List ExceptHandler}{pos:Pos}(hbody:Go W G n c body b)(hst:Ig b=true)
 (ok:Ms A c h₀ env n) (Y:Ai W env c h₀) (R:An W h₀ env c.names H ρ s) (q:A1 G (Ae G n) b ρ H N Rt E')
 (hh:∀v s',Vl W h₀ env c.names ρ E' (some .none) v s'->wpAny W.M A (handleBy v env (h::hs)) (Hs W h₀ env c.names N Rt) Em s') :
 wpAny W.M A (exec (.Try body (h::hs) [] [] pos) env) (Hs W h₀ env c.names N Rt) Em s:=by
 refine Aa fun nY=>?_
 obtain⟨outer,h1,h2,h3⟩:=ok.tops hcm
 refine nY ?_;clear nY
 refine wpAny_Try_except (wpAny_mono (hbody ok Y R q) (fun f s₁ r=>?_) fun v s₁ x=>?_)
 ·refine Aa fun nY=>?_
  cases f with
  | next=>(refine nY ?_;clear nY;exact wpAny_pure r)
  | ret v=>(refine nY ?_;clear nY;exact r)
  | brk=>exact r.elim
  | cont=>exact r.elim
 ·refine Aa fun nY=>?_
  obtain⟨ρ',hρ,x⟩:=x
  have:=hρ hst
  subst this
  refine nY ?_;clear nY
  exact M2 h1 h2 h3 Y x fun s2 _ y=>Gp Y y fun s3 z=>hh v s3 z
theorem Xg(gd:E9 W G)(hcm:c.cmp=false){body:List Stmt}{b xs:List S}{h:ExceptHandler}{rest:List ExceptHandler}{k:Cn×Option Nat}{pos:Pos}(hbody:Go W G n c body b)(hst:Ig b=true)(hk:G5 c h=some k)(hs:Go W G n {c with hnd:=true,ovr:=false} (Dj h) xs):P7 W G n c (.Try body (h::rest) [] [] pos) (mk1 b k xs):=by
 intro A env h₀ H ρ s N Rt E ok Y R q
 obtain⟨cc,as⟩:=k
 replace q:Gv G (Ae G n) (.try1 b cc as xs) ρ H N Rt E:=q
 rw[Vb]at q
 obtain⟨hG,q⟩:=q
 refine Pt hcm hbody hst ok Y R q fun v s' x=>?_
 refine Il gd ok Y hk hs (gd.exc cc hG) x (fun v H' q i=>by rw[i]at q;exact q) fun s2 y=>?_
 obtain⟨e1,H1,c1,_,w1,R1,_,_,q1,i1⟩:=y
 cases w1
 rw[i1]at q1
 exact q1.elim
theorem Ui{h:ExceptHandler}{cc:Cn}(e:I0 c h=some cc):G5 c h=some (cc,none):=by
 unfold I0 at e
 refine Aa fun nY=>?_
 split at e
 ·refine nY ?_;clear nY
  rename_i z;cases e;exact z
 ·cases e
theorem Ad5(gd:E9 W G)(hcm:c.cmp=false){body:List Stmt}{b xs:List S}{h:ExceptHandler}{k:Cn}{pos:Pos}(hbody:Go W G n c body b)(hst:Ig b=true)(hk:I0 c h=some k)(hs:Go W G n {c with hnd:=true,ovr:=true} (Dj h) xs):P7 W G n c (.Try body [h] [] [] pos) (.tryO b k xs):=by
 intro A env h₀ H ρ s N Rt E ok Y R q
 rw[Z0]at q
 refine Aa fun nY=>?_
 obtain⟨hG,q⟩:=q
 have xo:=gd.exc _ hG
 obtain⟨xn,np,a,b₀,sb,p,rfl,hg,ht,ha⟩:=Xf (Ui hk)
 refine nY ?_;clear nY
 refine Pt hcm hbody hst ok Y R q fun v s' x=>?_
 refine Aa fun nY=>?_
 obtain⟨e,H,c',kk,rfl,R,he,trc,q⟩:=x
 obtain⟨hq,q⟩:H e=some (.exc k true)/\A1 G (Ae G n) xs ρ (Tb H e) N Rt EF:=q
 rw[he]at hq
 cases hq
 have hd:(xn==("__debug__" :Str))=false:=(by decide:∀p∈Mw,(p.1==("__debug__" :Str))=false) (xn,k) (El ht)
 obtain⟨ob,h1,h2⟩:=R.objs e _ he
 cases h2 with
 | exc z1 z2 z3 z4=>
 obtain⟨nm,qq,N1,bs,bm,hdct,sn,sub,ab,col,dd,k0,k1,k2,k3,k5,mN,K⟩:=K3 gd z1
 replace K:=K.keeps (R.keepB Y)
 have hb:=gd.sub k k z1 xo
 rw[K.mro,show (k==k||k == .webError)=true from by cases k<;>rfl]at hb
 cases a with
 | some y=>obtain⟨i,hi,_⟩:=Afo ha;cases hi
 | none=>
 refine nY ?_;clear nY
 refine wpAny_handleBy_cons (codeAny_handlers_test (C8 gd Y R hg hd (Ly ht▸xo.name) ?_)) (by intro q;cases q)
 refine Aa fun nY=>?_
 obtain⟨hh,gg,d,tk,os⟩:=s'
 refine nY ?_;clear nY
 refine Nq K.at_ h1 z2 K.at_ (K.tail.hasType (by decide)) hb ?_
 have x2:Vl W h₀ env c.names ρ (fun v H=>H e=some (.exc k true)/\A1 G (Ae G n) xs ρ (Tb H e) N Rt EF) (some .none) (.ref e) ⟨hh,gg,d,tk,os⟩:=⟨e,H,k,true,rfl,R,he,trc,he,q⟩
 refine codeAny_handlers_suite (Gp Y x2 fun s1 y=>?_)
 refine Aa fun nY=>?_
 obtain⟨e1,H1,c1,_,w1,R1,_,_,he1,q1⟩:=y
 cases w1
 obtain⟨ob1,o1,o2⟩:=R1.objs e _ he1
 cases o2 with
 | exc y1 y2 y3 y4=>
 have R2:An W h₀ env c.names (Tb H1 e) ρ s1:=R1.drop e
 have ok':Ms (A.mark (some (.ref e))) {c with hnd:=true,ovr:=true} (Mine.Internal.prot env h₀.fs (Tb H1 e) s1.heap) env n:=
  ⟨nofun,ok.room,ok.units,ok.stk,fun _=>⟨e,ob1,_,rfl,B6 o1 (if_pos rfl) (R1.sep e _ he1).2.1 (R1.cells_ne Y he1),y3,y4 rfl⟩,ok.top⟩
 refine nY ?_;clear nY
 exact wpAny_mono (hs ok' (Y.prot R2).inH R2.prot q1) (fun f s2 r=>Hs.unprot R2 Y r) fun _ _ z=>(let ⟨_,_,w⟩:=z;w.ef)
theorem Ad6(gd:E9 W G)(hcm:c.cmp=false){body:List Stmt}{b xs ys:List S}{h h':ExceptHandler}{k:Cn×Option Nat}{k':Cn}{pos:Pos}(hbody:Go W G n c body b)(hst:Ig b=true)(hk:G5 c h=some k)(hs:Go W G n {c with hnd:=true,ovr:=false} (Dj h) xs)
 (hk':I0 c h'=some k') (hs':Go W G n {c with hnd:=true,ovr:=false} (Dj h') ys):P7 W G n c (.Try body [h,h'] [] [] pos) (mk2 b k xs k' ys):=by
 intro A env h₀ H ρ s N Rt E ok Y R q
 refine Aa fun nY=>?_
 obtain⟨cc,as⟩:=k
 replace q:Gv G (Ae G n) (.try2 b cc as xs k' ys) ρ H N Rt E:=q
 rw[Z1]at q
 obtain⟨hG,hG',q⟩:=q
 refine nY ?_;clear nY
 refine Pt hcm hbody hst ok Y R q fun v s' x=>?_
 refine Il gd ok Y hk hs (gd.exc cc hG) x (fun v H' q i=>by rw[i]at q;exact q) fun s2 y=>?_
 refine Il gd ok Y (Ui hk') hs' (gd.exc k' hG') y (fun v H' q i=>by have q1:=q.1;rw[q.2]at q1;dsimp only at q1;rw[i]at q1;exact q1) fun s3 z=>?_
 refine Aa fun nY=>?_
 obtain⟨e1,H1,c1,_,w1,R1,_,_,⟨q1,i1⟩,i2⟩:=z
 cases w1
 rw[i1]at q1
 dsimp only at q1
 rw[i2]at q1
 exact q1.elim
theorem Uj(gd:E9 W G)(hc:SC W G n){k:Nat}{r:Cx->Stmt->Option S}(ih:∀c s x,r c s=some x->P7 W G n c s x){s:Stmt}{x:S}(hm:c.hnd=false\/W4 c.ovr s=true)(hcm:c.cmp=false)(h:C1 k r c s=some x):P7 W G n c s x:=by
 have sE:=Oj gd hc k c
 cases s<;>try exact @nn _ _ _ h
 case Return e p=>
  cases e with
  | none=>exact @nn _ _ _ h
  | some e=>
    delta C1 at h
    (try dsimp only at h)
    obtain⟨y,hy,rfl⟩:=b1 h
    intro A env h₀ H ρ s N Rt E ok Y R q;exact Agv (sE _ _ hy).se ok Y R q
 case Assign ts e p=>
  cases ts with
  | nil=>exact @nn _ _ _ h
  | cons t ts=>
    cases ts with
    | cons t' ts=>exact @nn _ _ _ h
    | nil=>
      delta C1 at h
      dsimp only at h
      delta Tr at h
      cases t<;>try exact @nn _ _ _ h
      case Attribute o a p=>
       (try dsimp only at h)
       obtain⟨y,hy,a,ha,z,hz,rfl⟩:=b3 h
       intro A env h₀ H ρ s N Rt E ok Y R q;exact V3 gd (sE _ _ hz).se (sE _ _ hy).se ha ok Y R q
      case Subscript o i p=>
       dsimp only at h
       split at h
       ·cases h
       ·obtain⟨y,hy,a,ha,z,hz,rfl⟩:=b3 h
        intro A env h₀ H ρ s N Rt E ok Y R q;exact V4 (sE _ _ hz).se (sE _ _ hy).se (sE _ _ ha).se ok Y R q
      case Name y p=>
       (try dsimp only at h)
       obtain⟨i,hi,y,hy,rfl⟩:=b2 h
       intro A env h₀ H ρ s N Rt E ok Y R q;exact Ss gd (hm.resolve_right nofun) hc hi hy ok Y R q
 case For t it body els p=>
  cases els with
  | cons a b=>exact @nn _ _ _ h
  | nil=>
    delta C1 at h
    (try dsimp only at h)
    obtain⟨t,ht,y,hy,z,hz,rfl⟩:=b3 h
    obtain⟨h1,h2⟩:=K9 gd (hm.resolve_right nofun) sE hy
    intro A env h₀ H ρ s N Rt E ok Y R q;exact Agt (hm.resolve_right nofun) hcm h1 ht (Bv (ih c) hz) h2 ok Y R q
 case While t body els p=>
  cases els with
  | cons a b=>exact @nn _ _ _ h
  | nil=>
    delta C1 at h
    (try dsimp only at h)
    obtain⟨y,hy,z,hz,rfl⟩:=b2 h
    intro A env h₀ H ρ s N Rt E ok Y R q;exact Abq hcm (sE _ _ hy).st (Bv (ih c) hz) ok Y R q
 case If t a b p=>
  delta C1 at h
  (try dsimp only at h)
  obtain⟨y,hy,a,ha,z,hz,rfl⟩:=b3 h
  intro A env h₀ H ρ s N Rt E ok Y R q;exact Ai6 (sE _ _ hy).st (Bv (ih c) ha) (Bv (ih c) hz) ok Y R q
 case Raise e z p=>
  cases z with
  | some z=>exact @nn _ _ _ h
  | none=>
    delta C1 at h
    (try dsimp only at h)
    split at h
    ·rename_i hh
     obtain⟨y,hy,rfl⟩:=b1 h
     intro A env h₀ H ρ s N Rt E ok Y R q;exact Yr gd (hm.resolve_left fun z=>by rw[hh]at z;cases z) hy ok Y R q
    ·rename_i hh
     obtain⟨y,hy,rfl⟩:=b1 h
     intro A env h₀ H ρ s N Rt E ok Y R q;exact Abv gd (by simpa using hh) hy ok Y R q
 case Expr e p=>
  delta C1 at h
  dsimp only at h
  split at h
  ·rename_i hn
   obtain⟨y,hy,rfl⟩:=b1 h
   intro A env h₀ H ρ s N Rt E ok Y R q;exact Ad3 (sE _ _ hy).se hn ok Y R q
  ·cases h
 case Try body hs els fin p=>
  delta C1 at h
  dsimp only at h
  split at h
  ·split at h
   ·rename_i b hb
    split at h
    ·rename_i hst
     have hbody:Go W G n c body b:=Bv (ih c) hb
     split at h
     ·split at h
      ·obtain⟨k,hk,xs,hx,rfl⟩:=b2 h
       intro A env h₀ H ρ s N Rt E ok Y R q;exact Ad5 gd hcm hbody hst hk (Bv (ih _) hx) ok Y R q
      ·obtain⟨k,hk,xs,hx,rfl⟩:=b2 h
       intro A env h₀ H ρ s N Rt E ok Y R q;exact Xg gd hcm hbody hst hk (Bv (ih _) hx) ok Y R q
     ·obtain⟨k,hk,xs,hx,k',hk',ys,hy,rfl⟩:=b4 h
      intro A env h₀ H ρ s N Rt E ok Y R q;exact Ad6 gd hcm hbody hst hk (Bv (ih _) hx) hk' (Bv (ih _) hy) ok Y R q
     ·obtain⟨k,hk,xs,hx,rfl⟩:=b2 h
      intro A env h₀ H ρ s N Rt E ok Y R q;exact Xg gd hcm hbody hst hk (Bv (ih _) hx) ok Y R q
     ·cases h
    ·cases h
   ·cases h
  ·cases h
 case Pass p=>
  cases h;intro A env h₀ H ρ s N Rt E ok Y R q;exact Ad4 ok Y R q
theorem Xh(gd:E9 W G)(hc:SC W G n):∀(k:Nat) (c:Cx) (s:Stmt) (x:S),erS k c s=some x->P7 W G n c s x
 | 0,_,_,_,h=>by cases h
 | k+1,c,s,x,h=>by
   replace h:W6 c.ovr (if ((c.hnd && !W4 c.ovr s)||c.cmp)=true then none else C1 (k+1) (erS k) c s)=some x:=h
   split at h
   ·rename_i q
    delta W6 at h
    dsimp only at h
    split at h
    ·cases h
     intro ok Y R q;exact(show False from q).elim
    ·cases h
   ·rename_i q
    have q2:¬(c.hnd && !W4 c.ovr s)=true/\c.cmp=false:=by simpa using q
    cases z:C1 (k+1) (erS k) c s with
    | none=>
      rw[z]at h
      delta W6 at h
      dsimp only at h
      split at h
      ·cases h
       intro ok Y R q;exact(show False from q).elim
      ·cases h
    | some y=>
      rw[z]at h
      cases h
      exact Uj (k:=k+1) gd hc (Xh gd hc k) (Xe q2.1) q2.2 z
/-! calls of functions -/
theorem Rm{kindOf:Str->Option NameKind}{x:Str}:∀ {ns:List Str} {vs:List Value} {m:Str->Option Value},x∉ns->bindL kindOf (ns.zip vs) m x=m x
 | [],_,_,_=>rfl
 | a::ns,[],_,_=>rfl
 | a::ns,u::vs,m,h=>by
   rw[List.zip_cons_cons]
   unfold bindL
   rw[Rm (fun q=>h (.tail _ q))]
   split
   ·simp only[show x≠a from fun q=>h (by simp[q]),if_false]
   ·rfl
theorem Rn{kindOf:Str->Option NameKind}{x:Str}:∀ {ns:List Str} {vs:List Value} {m:Str->Option Value},x∉ns->bindC kindOf (ns.zip vs) m x=m x
 | [],_,_,_=>rfl
 | a::ns,[],_,_=>rfl
 | a::ns,u::vs,m,h=>by
   rw[List.zip_cons_cons]
   unfold bindC
   rw[Rn (fun q=>h (.tail _ q))]
   split
   ·rfl
   ·simp only[show x≠a from fun q=>h (by simp[q]),if_false]
theorem Ys{kindOf:Str->Option NameKind}{x:Str}{v:Value}:∀ {ns:List Str} {vs:List Value} {m:Str->Option Value},ns.Nodup->kindOf x=some .local->
 (∀i,ns.idxOf? x=some i->vs[i]? = some v->bindL kindOf (ns.zip vs) m x=some v):=by
 intro ns
 induction ns with
 | nil=>intro vs m hn hk i h;simp at h
 | cons a ns ih=>
   intro vs m hn hk i h1 h2
   obtain⟨hn1,hn2⟩:=List.nodup_cons.mp hn
   cases vs with
   | nil=>simp at h2
   | cons u vs=>
     rw[List.zip_cons_cons]
     unfold bindL
     rw[List.idxOf?_cons]at h1
     cases q:a==x with
     | true=>
       rw[q]at h1
       simp only[if_true,Option.some.injEq]at h1
       subst h1
       have hx:=beq_iff_eq.mp q
       subst hx
       simp only[List.getElem?_cons_zero,Option.some.injEq]at h2
       subst h2
       rw[if_pos hk,Rm hn1]
       simp
     | false=>
       rw[q]at h1
       simp only[Bool.false_eq_true,if_false]at h1
       obtain⟨j,hj,rfl⟩:=Option.map_eq_some_iff.mp h1
       simp only[List.getElem?_cons_succ]at h2
       exact ih hn2 hk j hj h2
theorem Yt{kindOf:Str->Option NameKind}{x:Str}{v:Value}:∀ {ns:List Str} {vs:List Value} {m:Str->Option Value},ns.Nodup->kindOf x≠some .local->
 (∀i,ns.idxOf? x=some i->vs[i]? = some v->bindC kindOf (ns.zip vs) m x=some v):=by
 intro ns
 induction ns with
 | nil=>intro vs m hn hk i h;simp at h
 | cons a ns ih=>
   intro vs m hn hk i h1 h2
   obtain⟨hn1,hn2⟩:=List.nodup_cons.mp hn
   cases vs with
   | nil=>simp at h2
   | cons u vs=>
     rw[List.zip_cons_cons]
     unfold bindC
     rw[List.idxOf?_cons]at h1
     cases q:a==x with
     | true=>
       rw[q]at h1
       simp only[if_true,Option.some.injEq]at h1
       subst h1
       have hx:=beq_iff_eq.mp q
       subst hx
       simp only[List.getElem?_cons_zero,Option.some.injEq]at h2
       subst h2
       rw[if_neg hk,Rn hn1]
       simp
     | false=>
       rw[q]at h1
       simp only[Bool.false_eq_true,if_false]at h1
       obtain⟨j,hj,rfl⟩:=Option.map_eq_some_iff.mp h1
       simp only[List.getElem?_cons_succ]at h2
       exact ih hn2 hk j hj h2
theorem L8{β:Type}:∀ {l:List (Str×β)},(l.map (·.1)).Nodup->∀p∈l,l.lookup p.1=some p.2
 | [],_,p,hp=>by cases hp
 | (y,z)::r,h,p,hp=>by
   rw[List.map_cons,List.nodup_cons]at h
   rw[List.lookup_cons]
   rcases List.mem_cons.mp hp with rfl|hp'
   ·simp
   ·have:(p.1==y)=false:=by
     simpa using fun q:p.1=y=>h.1 (by rw[<-q];exact List.mem_map.mpr ⟨p,hp',rfl⟩)
    rw[this]
    exact L8 h.2 p hp'
theorem St{l:List (Str×Addr)}(h:l.Pairwise fun x y=>x.2≠y.2){p q:Str×Addr}(hp:p∈l)(hq:q∈l)(e:p.2=q.2):p=q:=by
 induction l with
 | nil=>cases hp
 | cons a l ih=>
   obtain⟨h1,h2⟩:=List.pairwise_cons.mp h
   rcases List.mem_cons.mp hp with e1|hp'
   ·rcases List.mem_cons.mp hq with e2|hq'
    ·rw[e1,e2]
    ·exact absurd (e1▸e) (h1 q hq')
   ·rcases List.mem_cons.mp hq with e2|hq'
    ·exact absurd (e2▸e).symm (h1 p hp')
    ·exact ih h2 hp' hq'
theorem Abw{hb:Bool}{params:Arguments}{body:List Stmt}{sc:Scope}{d:Fn}(h:Adc hb params body sc=some d):Fo params=true/\sc.kind = .function/\sc.isGenerator=false/\sc.isCoroutine=false/\d.slots=(B0 params sc).length/\d.arity=params.args.length/\I7 (erS 40 ⟨B0 params sc,sc,hb,false,hb⟩) body=some d.body:=by
 unfold Adc at h
 refine Aa fun nY=>?_
 split at h
 ·rename_i q
  simp only[Bool.and_eq_true,beq_iff_eq,Bool.not_eq_true']at q
  obtain⟨b,hb,rfl⟩:=b1 h
  refine nY ?_;clear nY
  exact⟨q.1.1.1,q.1.1.2,q.1.2,q.2,rfl,rfl,hb⟩
 ·cases h
theorem An.back{h₀:HB}{env env':Env}{c:Cx}{names':List Str}{H H':AH}{ρ ρ':Al}{s s':Shared}(Y:Ai W env c h₀)(R:An W h₀ env c.names H ρ s){h₁:HB}(hk:∀b o,s.heap.get? b=some o->H b=none->h₁.get? b=some o)(hf:∀b∈h₁.fs,b≠env.locals->b∈h₀.fs)(R':An W h₁ env' names' H' ρ' s'):An W h₀ env c.names H' ρ s':=by
 have noneL:H env.locals=none:=by
  cases q:H env.locals with
  | none=>rfl
  | some x=>exact absurd rfl (R.sep _ _ q).2.1
 have noneC:∀x a,env.cells.lookup x=some a->H a=none:=fun x a e=>by
  cases q:H a with
  | none=>rfl
  | some z=>exact absurd e ((R.sep _ _ q).2.2 x)
 have none0:∀b o,h₀.get? b=some o->H b=none:=fun b o e=>by
  cases q:H b with
  | none=>rfl
  | some z=>have:=(R.sep b z q).1;rw[e]at this;cases this
 refine⟨?_,?_,fun b o e=>(let ⟨o1,e1,z1⟩:=R.keep b o e;let ⟨o2,e2,z2⟩:=R'.keep b o1 (hk b o1 e1 (none0 b o e));⟨o2,e2,z1.trans (z2.imp id fun⟨⟨m,n⟩,z⟩=>⟨⟨hf b m (fun q=>by rw[q,Y.new]at e;cases e),n⟩,z⟩)⟩),R'.objs,?_,R'.gens,R'.os,R.above,R'.low⟩
 ·refine Aa fun nY=>?_
  obtain⟨m,⟨o,es,ep,h1,h2⟩,h3⟩:=R.ns
  refine nY ?_;clear nY
  exact⟨m,R'.keep.ns ⟨o,es,ep,hk _ _ h1 noneL,h2⟩,h3⟩
 ·intro x a e
  refine Aa fun nY=>?_
  obtain⟨w,⟨o,ho,hd⟩,hr⟩:=R.cell x a e
  refine nY ?_;clear nY
  exact⟨w,⟨o,R'.keep.exact (hk _ _ ho (noneC x a e)) (.inl fun m=>(by obtain⟨p,hp,hp2⟩:=A9 e;exact Y.fsok a (hf a m (Y.apart x a e)) (hp2▸Y.newc p hp))),hd⟩,hr⟩
 ·intro a o e
  refine Aa fun nY=>?_
  obtain⟨q1,q2,q3⟩:=R'.sep a o e
  refine nY ?_;clear nY
  refine⟨?_,?_,?_⟩
  ·cases q:h₀.get? a with
   | none=>rfl
   | some z=>obtain⟨z',e1,_⟩:=R.keep a z q;have:=hk a z' e1 (none0 a z q);rw[q1]at this;cases this
  ·rintro rfl
   refine Aa fun nY=>?_
   obtain⟨m,⟨o,es,ep,h1,h2⟩,h3⟩:=R.ns
   have:=hk _ _ h1 noneL;rw[q1]at this;cases this
  ·intro x hx
   refine Aa fun nY=>?_
   obtain⟨w,⟨o,ho,hd⟩,hr⟩:=R.cell x a hx
   have:=hk _ _ ho (noneC x a hx);rw[q1]at this;cases this
end Mine.Internal
namespace Mine.Internal
open PySem PySem.W PyProof.Rows
variable {W:Wd} {G:A5} {n:Nat} {Er:EP}
theorem V7{params:Arguments}{sc:Scope}{x:Str}{i:Nat}(h:(B0 params sc).idxOf? x=some i)(hi:i<params.args.length):(params.args.map (·.arg)).idxOf? x=some i:=by
 unfold B0 at h
 cases Classical.em (x∈params.args.map (·.arg))with
 | inl q=>rw[(Dv q).1]at h;exact h
 | inr q=>
   rw[Hf q]at h
   obtain⟨j,_,rfl⟩:=Option.map_eq_some_iff.mp h
   simp at hi
   exact(Nat.not_lt.mpr (Nat.le_add_left _ _) hi).elim
structure I8(W:Wd)(H:AH)(s:Shared):Prop where
 base:∀b o,W.b₀.get? b=some o->s.heap.get? b=some o
 objs:∀a o,H a=some o->∃ob,s.heap.get? a=some ob/\OR W o ob
 low:∀a es,H a=some (.dict es)->W.b₀.objs.size<=a
 bn:∀a o,H a=some o->W.b₀.get? a=none
 gens:s.gens = #[]
 os:s.os=W.os
 up:W.b₀.objs.size<=s.heap.objs.size
 lo:sysModules<W.b₀.objs.size
noncomputable def Ai7(W:Wd)(FS:List Addr)(H:AH)(s:Shared)(Q:Ak)(v:Value)(s':Shared):Prop:=
 (Ex6 fun(a:V) (H':AH) (env':Env) (names':List Str) (ρ':Al) (h₁:HB)=>Xw (h₁.fs=FS) (VR W a v) (An W h₁ env' names' H' ρ' s') (Q a H') (∀b o,s.heap.get? b=some o->H b=none->h₁.get? b=some o))
noncomputable def Ai8(W:Wd)(FS:List Addr)(H:AH)(s:Shared)(E:EP)(v:Value)(s':Shared):Prop:=
 (Ex4 fun(env':Env) (names':List Str) (ρ':Al) (h₁:HB)=>D3 (h₁.fs=FS) (Vl W h₁ env' names' ρ' E (some .none) v s') (∀b o,s.heap.get? b=some o->H b=none->h₁.get? b=some o))
theorem Ro(g:E9 W G)(hc:SC W G n){A:Around}{H:AH}{s:Shared}{Q:Ak}{E:EP}{f:Str}{fa:Addr}{vs:List V}{us:List Value}(hh:F8 f=false->A.handled=none)(hov:F8 f=true->(U8 fun e oe vs=>Xw (A.handled=some (.ref e)) (s.heap.get? e=some oe) (oe.data = .fields vs) (vs[2]? = some .none) (H e=none)))(hroom:A.depth+4*(n+1)+2<recursionLimit)(hunits:A.units+30*(n+1)+40<cLine)
 (FS:List Addr) (hFS:∀L∈FS,H L=none/\W.b₀.get? L=none/\∃o,s.heap.get? L=some o/\∀vs,o.data≠ .fields vs) (stk:Stk A FS) (B:I8 W H s) (hfa:E1 W f=some fa) (hv:Cv W vs us) (q:Ae G (n+1) f vs H Q E) :
 codeAny W.M A (.call (.ref fa) ⟨us,[]⟩) (fun r s'=>match r with | .ok (.ret v)=>Ai7 W FS H s Q v s' | .ok _=>False | .error e=>Ai8 W FS H s E e s') s:=by
 unfold Ae at q
 refine Aa fun nY=>?_
 split at q
 ·rename_i d hd
  obtain⟨fa',h1,name,qual,params,body,scope,doc,pm,cdv,ct,oc,an,od,osl,F⟩:=g.fn f d hd
  rw[hfa]at h1
  cases h1
  obtain⟨p1,p2,p3,p4,p5,p6,p7⟩:=Abw F.er
  obtain⟨har,q⟩:=q
  have X:W.K.In s.heap:=fun a o e=>B.base a o (g.X a o e)
  have hlen:params.args.length=us.length:=by rw[<-p6,har,hv.length]
  refine nY ?_;clear nY
  refine codeAny_call_function (fd:=fnOf name qual params body scope .none .none doc pm an cdv ct) (body:=body) (Nat.lt_of_le_of_lt (Nat.le_trans (Nat.le_add_right _ _) (Nat.le_add_right _ _)) hroom) (X _ _ F.at_) rfl p4 p3 rfl (codeRec_of X F.code) ?_
  rw[Vx (fd:=fnOf name qual params body scope .none .none doc pm an cdv ct) p1 rfl hlen F.nodup]
  refine wpAny_pure ?_
  refine wpAny_newFunctionEnv_cells p2 (fun x hx=>?_) fun env' he' s₂ I=>?_
  ·have hx':x.1∈params.args.map (·.arg):=(List.of_mem_zip (a:=x.1) (b:=x.2) hx).1
   refine Aa fun nY=>?_
   rcases F.kinds x.1 hx' with h|h
   ·refine nY ?_;clear nY
    exact .inl h
   ·refine nY ?_;clear nY
    exact .inr ⟨h,cellsFrom_some _ _ _ (.inl h)⟩
  ·refine Aa fun nY=>?_
   obtain⟨pp,loose,mg,mb,T⟩:=g.top
   obtain⟨h2,tk2,es2⟩:=I.toInCall.same
   have keep2:=I.toInCall.keep
   refine nY ?_;clear nY
   have hL:env'.locals=s.heap.objs.size:=by rw[he'];rfl
   have hcells:env'.cells=cellsFrom (s.heap.objs.size+1) scope.names []:=by rw[he'];rfl
   have hkindOf:∀x,env'.kindOf x=scope.names.lookup x:=fun x=>by rw[he'];rfl
   have hkeysnd:(env'.cells.map (·.1)).Nodup:=by
    rw[hcells,cellsFrom_names scope.names (s.heap.objs.size+1) 0 [] [] rfl];exact F.cells
   refine⟨T.nolimit.keeps fun b o e=>keep2 b o (B.base b o e),codeAny_func ?_⟩
   have hlow:∀b o,s.heap.get? b=some o->b≠env'.locals/\∀p∈env'.cells,p.2≠b:=fun b o e=>by
    have hlt:=Heap.lt_size e
    refine⟨by rw[hL];exact Nat.ne_of_lt hlt,fun p hp q=>?_⟩
    have:=I.above p.1 p.2 hp
    rw[hL,q]at this
    exact Nat.lt_asymm this hlt
   have hprot:∀b o,s.heap.get? b=some o->H b=none->(Mine.Internal.prot env' FS H s₂.heap).get? b=some o:=fun b o e hb=>B6 (keep2 b o e) hb (hlow b o e).1 (hlow b o e).2
   have Y':Ai W env' ⟨B0 params scope,scope,F8 f,false,F8 f⟩ (Mine.Internal.prot env' FS H s₂.heap):=by
    refine⟨by rw[he'];exact p2,by rw[he'];rfl,by rw[he'];rfl,fun x k e _=>(hkindOf x).trans e,fun x e=>absurd rfl (F.nofree _ (A6 e)),?_,?_,?_,?_,Cq (.inr (.inl rfl)),(fun L m q=>by obtain⟨z,_,o,e,_⟩:=hFS L m;rw[hprot L o e z]at q;cases q),(fun L m=>by obtain⟨z,z2,o,e,z3⟩:=hFS L m;refine⟨z2,fun o' e'=>?_⟩;have e2:=Ft e';rw[keep2 L o e]at e2;cases e2;exact z3),fun p hp=>Cq (.inr (.inr ⟨p,hp,rfl⟩)),L8 hkeysnd,B.lo⟩
    ·intro x e
     rw[hkindOf]at e
     refine Aa fun nY=>?_
     rcases e with e|e
     ·have:=cellsFrom_some (x:=x) scope.names (s.heap.objs.size+1) [] (.inl e)
      rw[<-hcells]at this
      refine nY ?_;clear nY
      exact Option.isSome_iff_exists.mp this
     ·exact absurd rfl (F.nofree _ (A6 e))
    ·intro x a e q
     have:=I.above x a (A6 e)
     rw[q]at this
     exact Nat.lt_irrefl _ this
    ·intro x y a e1 e2
     have:=St I.apart (A6 e1) (A6 e2) rfl
     exact congrArg Prod.fst this
    ·intro b o e
     refine hprot b o (B.base b o e) ?_
     cases q:H b with
     | none=>rfl
     | some z=>have:=B.bn b z q;rw[e]at this;cases this
   have R':An W (Mine.Internal.prot env' FS H s₂.heap) env' (B0 params scope) H (vs.map some++List.replicate (d.slots-d.arity) none) s₂:=by
    have key:∀x i v,(B0 params scope).idxOf? x=some i->(vs.map some++List.replicate (d.slots-d.arity) none)[i]? = some (some v)->(Oo fun u=>D3 ((params.args.map (·.arg)).idxOf? x=some i) (us[i]? = some u) (VR W v u)):=by
     intro x i v e1 e2
     have hi:i<vs.length:=by
      refine Aa fun nY=>?_
      cases Nat.lt_or_ge i vs.length with
      | inl h=>(refine nY ?_;clear nY;exact h)
      | inr h=>
        rw[List.getElem?_append_right (by simpa using h)]at e2
        obtain⟨_,z⟩:=List.getElem?_eq_some_iff.mp e2
        simp at z
     rw[List.getElem?_append_left (by simpa using hi),List.getElem?_map]at e2
     refine Aa fun nY=>?_
     obtain⟨v',h1,h2⟩:=Option.map_eq_some_iff.mp e2
     cases h2
     obtain⟨u,h3,h4⟩:=hv.get i h1
     refine nY ?_;clear nY
     exact⟨u,V7 e1 (Nat.lt_of_lt_of_eq hi (har.symm.trans p6)),h3,h4⟩
    refine⟨⟨_,I.toInCall.ns,?_⟩,?_,.of fun _ _ e=>Ft e,?_,?_,?_,?_,by rw[hL];exact B.up,B.low⟩
    ·intro x i v e1 e2 e3
     refine Aa fun nY=>?_
     obtain⟨u,h1,h2,h3⟩:=key x i v e1 e3
     refine nY ?_;clear nY
     exact⟨u,Ys F.nodup e2 i h1 h2,h3⟩
    ·intro x a e
     refine⟨_,I.cell x a e,fun i v e1 e2 e3=>?_⟩
     refine Aa fun nY=>?_
     obtain⟨u,h1,h2,h3⟩:=key x i v e1 e3
     refine nY ?_;clear nY
     exact⟨u,Yt F.nodup (by rcases e2 with e2|e2<;>rw[e2]<;>simp) i h1 h2,h3⟩
    ·intro a o e
     refine Aa fun nY=>?_
     obtain⟨ob,g1,g2⟩:=B.objs a o e
     refine nY ?_;clear nY
     exact⟨ob,keep2 _ _ g1,g2⟩
    ·intro a o e
     refine Aa fun nY=>?_
     obtain⟨ob,g1,g2⟩:=B.objs a o e
     refine nY ?_;clear nY
     exact⟨Cq (.inl ⟨o,e⟩),(hlow a ob g1).1,fun x q=>by obtain⟨p,hp,hp2⟩:=A9 q;exact(hlow a ob g1).2 p hp hp2⟩
    ·rw[es2];exact B.gens
    ·rw[es2];exact B.os
   have hframe:env'.frame=some env'.locals:=by rw[he'];rfl
   have hkind:env'.scope.kind≠ .module:=by rw[he'];show scope.kind≠_;rw[p2];nofun
   have ok':Ms (A.deeper env') ⟨B0 params scope,scope,F8 f,false,F8 f⟩ (Mine.Internal.prot env' FS H s₂.heap) env' n:=by
    refine Aa fun nY=>?_
    obtain⟨l,hl,hl2⟩:=stk
    refine nY ?_;clear nY
    refine⟨hh,by show A.depth+1+4*n+4<_;exact Akx hroom,by show A.units+3+30*n+60<_;exact Aky hunits,⟨env'::l,Around.frames_deeper hl,fun x m=>?_⟩,(fun h=>let ⟨e,oe,vs,x1,x2,x3,x4,x5⟩:=hov h;⟨e,oe,vs,x1,hprot e oe x2 x5,x3,x4⟩),fun _=>⟨l,Around.frames_deeper hl,hframe⟩⟩
    refine Aa fun nY=>?_
    rcases List.mem_cons.mp m with rfl|m
    ·refine nY ?_;clear nY
     exact⟨hkind,_,hframe,.head _⟩
    ·obtain⟨a,L,b,d⟩:=hl2 x m
     refine nY ?_;clear nY
     exact⟨a,L,b,.tail _ d⟩
   have hb:Go W G n ⟨B0 params scope,scope,F8 f,false,F8 f⟩ body d.body:=Bv (fun s x h=>Xh g hc 40 _ s x h) p7
   refine wpAny_mono (hb ok' Y' R' q) (fun fl s' r=>?_) fun v s' x=>?_
   rotate_left
   ·refine Aa fun nY=>?_
    obtain⟨ρ',_,x⟩:=x
    obtain⟨outer,t1,t2,t3⟩:=ok'.tops rfl
    refine nY ?_;clear nY
    unfold leaving
    exact wpAny_bind (M2 t1 t2 t3 Y' x fun s2 _ y=>Gp Y' y fun s3 z=>⟨env',_,ρ',_,rfl,z,hprot⟩)
   refine Aa fun nY=>?_
   cases fl with
   | next=>
     obtain⟨ρ',H',R3,q3⟩:=r
     refine nY ?_;clear nY
     exact⟨.none,H',env',_,ρ',_,rfl,.none,R3,q3,hprot⟩
   | ret v=>
     obtain⟨a,H',ρ',hv',R3,q3⟩:=r
     refine nY ?_;clear nY
     exact⟨a,H',env',_,ρ',_,rfl,hv',R3,q3,hprot⟩
   | brk=>exact r.elim
   | cont=>exact r.elim
 ·exact q.elim
theorem An.frames{env:Env}{c:Cx}{h₀:HB}{names:List Str}{H:AH}{ρ:Al}{s:Shared}(R:An W h₀ env names H ρ s)(Y:Ai W env c h₀):∀L∈env.locals::h₀.fs,H L=none/\W.b₀.get? L=none/\∃o,s.heap.get? L=some o/\∀vs,o.data≠ .fields vs:=fun L m=>by
 rcases List.mem_cons.mp m with rfl|m
 ·refine⟨?_,Q8 R.above,?_⟩
  ·cases q:H env.locals with
   | none=>rfl
   | some x=>exact absurd rfl (R.sep _ _ q).2.1
  ·obtain⟨_,⟨o,_,_,h,h2,_⟩,_⟩:=R.ns
   exact⟨o,h,fun vs q=>by rw[h2]at q;cases q⟩
 ·refine⟨?_,(Y.fsd L m).1,R.fsd Y m⟩
  cases z:H L with
  | none=>rfl
  | some x=>exact absurd (R.sep L x z).1 (Y.fsok L m)
theorem Fa.back{h₀ h₁:HB}{env env':Env}{c:Cx}{H H':AH}{ρ:Al}{s:Shared}{T:Addr}(Y:Ai W env c h₀)(R:An W h₀ env c.names H ρ s)(hk:∀b o,s.heap.get? b=some o->H b=none->h₁.get? b=some o)(x:Fa h₁ env' H' [T]):Fa h₀ env H' [T]:=fun b hb=>by
 obtain⟨x1,x2,_,_⟩:=x b hb
 refine⟨x1,?_,?_,?_⟩
 ·cases q:h₀.get? b with
  | none=>rfl
  | some o=>
    obtain⟨o',e1,_⟩:=R.keep b o q
    have:H b=none:=by
     cases z:H b with
     | none=>rfl
     | some y=>have:=(R.sep b y z).1;rw[q]at this;cases this
    rw[hk b o' e1 this]at x2;cases x2
 ·rintro rfl
  obtain⟨z,_,o,e,_⟩:=R.frames Y _ (.head _)
  rw[hk _ o e z]at x2;cases x2
 ·rintro p hp rfl
  obtain⟨w,⟨o,ho,_⟩,_⟩:=R.cell p.1 p.2 (Y.look p hp)
  have:H p.2=none:=by
   cases z:H p.2 with
   | none=>rfl
   | some y=>exact absurd (Y.look p hp) ((R.sep _ _ z).2.2 p.1)
  rw[hk _ o ho this]at x2;cases x2
theorem V8(g:E9 W G)(hc:SC W G n):SC W G (n+1):=by
 intro A env c h₀ H ρ s Q E f fa vs us hh hov hroom hunits stk Y R hfa hv q
 refine codeAny_mono (Ro (E:=E) g hc hh (fun h=>let ⟨e,oe,vs,x1,x2,x3,x4,x5,_,_⟩:=R.over Y (hov h);⟨e,oe,vs,x1,x2,x3,x4,x5⟩) hroom hunits (env.locals::h₀.fs) (R.frames Y) stk ⟨R.keepB Y,R.objs,R.low,(fun a o e=>by cases z:W.b₀.get? a with|none=>rfl|some y=>have:=(R.sep a o e).1;rw[Y.base a y z]at this;cases this),R.gens,R.os,R.up,Y.lo⟩ hfa hv q) fun r s' z=>?_
 have hff:∀ {h₁:HB},h₁.fs=env.locals::h₀.fs->∀b∈h₁.fs,b≠env.locals->b∈h₀.fs:=fun hfs b m hb=>by rw[hfs]at m;exact(List.mem_cons.mp m).resolve_left hb
 rcases r with e|(v|_|_|_)<;>first|exact z.elim|skip
 ·obtain⟨env',names',ρ',h₁,hfs,⟨ea,H',cc,kk,hv,R3,he,⟨oe,vs,a0,t1,t2,t3,T,oT,ts,g1,g2,g3,g4,g5,g6⟩,q3⟩,hp⟩:=z
  exact⟨some .none,ea,H',cc,kk,hv,R.back Y hp (hff hfs) R3,he,⟨oe,vs,a0,t1,t2,t3,T,oT,ts,g1,g2,g3,g4,g5,Fa.back Y R hp g6⟩,q3⟩
 obtain⟨a,H',env',names',ρ',h₁,hfs,hv',R3,q3,hp⟩:=z
 exact⟨a,H',hv',R.back Y hp (hff hfs) R3,q3⟩
theorem Ad7(g:E9 W G):∀n,SC W G n:=by
 intro n
 induction n with
 | zero=>
   intro A env c h₀ H ρ s Q E f fa vs us hh hov hroom hunits stk Y R hfa hv q
   exact False.elim q
 | succ n ih=>exact V8 g ih
theorem Ad8(g:E9 W G){A:Around}{s:Shared}{Q:Ak}{E:Value->Shared->Prop}{f:Str}{fa:Addr}(hbf:F8 f=false)(hh:A.handled=none)(hfr:A.frames=some [])(hroom:A.depth+4*(n+1)+2<recursionLimit)(hunits:A.units+30*(n+1)+40<cLine)
 (hb:s.heap=W.b₀) (hg:s.gens = #[]) (ho:s.os=W.os) (lo:sysModules<W.b₀.objs.size) (hfa:E1 W f=some fa) (q:Ae G (n+1) f [.script W.sn] (fun _=>none) Q EF) :
 codeAny W.M A (.call (.ref fa) ⟨[.ref W.sa],[]⟩) (fun r s'=>match r with
  | .ok (.ret v)=>((Ka fun a H'=>VR W a v/\Q a H'))/\(∀b o,s.heap.get? b=some o->s'.heap.get? b=some o)/\s'.os=s.os/\s'.gens = #[]
  | .ok _=>False | .error e=>E e s') s:=by
 refine codeAny_mono (Ro (E:=EF) (H:=fun _=>none) (vs:=[.script W.sn]) (us:=[.ref W.sa]) g (Ad7 g n) (fun _=>hh) (fun h=>by rw[hbf]at h;cases h) hroom hunits [] (fun _ m=>nomatch m) ⟨[],hfr,fun _ m=>absurd m List.not_mem_nil⟩ ⟨fun b o e=>hb▸e,(fun _ _ e=>nomatch e),(fun _ _ e=>nomatch e),(fun _ _ e=>nomatch e),hg,ho,(by rw[hb];exact Nat.le_refl _),lo⟩ hfa (.cons .script .nil) q) fun r s' z=>?_
 refine Aa fun nY=>?_
 rcases r with e|(v|_|_|_)<;>first|exact z.elim|skip
 ·obtain⟨_,_,_,_,_,⟨_,_,_,_,_,_,_,_,f⟩,_⟩:=z
  exact f.elim
 obtain⟨a,H',env',names',ρ',h₁,hfs,hv',R3,q3,hp⟩:=z
 refine nY ?_;clear nY
 exact⟨⟨a,H',hv',q3⟩,fun b o e=>R3.keep.exact (hp b o e rfl) (.inr (by rw[<-hb,e];nofun)),R3.os.trans ho.symm,R3.gens⟩
end Mine.Internal
namespace Mine.Internal
open PySem PySem.W PyProof.Rows
/-! the ground of a program,by a check -/
noncomputable def Xi:Cn->Str
 | .web=> "Web"
 | .verdict=> "Verdict"
 | c=>Lx c
noncomputable def Hv(K:Frag)(cc:Cn):Addr:=match nsIn K mainGlobals (Xi cc)with
 | some (some (.ref a))=>a
 | _=>(match nsIn K mainGlobals "Web" with|some (some (.ref a))=>a|_=>0)
noncomputable def Agx(K:Frag)(hb:Bool)(fa:Addr):Option Fn:=match K.lookup fa with
 | some ⟨.type "function",_,.func fd,_⟩=>(match fd.body with
   | .stmts body=>if codeIn K fd.code fd.qualname&&decide ((fd.params.args.map (·.arg)).Nodup)&&(fd.params.args.map (·.arg)).all (fun x=>fd.scope.names.lookup x==some .local||fd.scope.names.lookup x==some .cell)
      && decide (((cellsFrom 0 fd.scope.names []).map (·.1)).Nodup)&&decide ((B0 fd.params fd.scope).Nodup)&&fd.scope.names.all (fun p=>p.2 != .free)&&fd.globals==mainGlobals&&fd.closure.isEmpty
      && fd.defaults == .none&&fd.kwdefaults == .none&&fd.builtins==builtinsNs then Adc hb fd.params body fd.scope else none
   | _=>none)
 | _=>none
noncomputable def L9(K:Frag)(cl:Cn->Addr)(f:Str):Option Addr:=
 match D9 f with
 | some (cc,m)=>if nsIn K mainGlobals (Xi cc)==some (some (.ref (cl cc)))&&makesIn K (cl cc)then(match findIn K (.ref (cl cc)) m with|some (some (.ref a))=>some a|_=>none)else none
 | none=>(match nsIn K mainGlobals (Ky f)with|some (some (.ref a))=>some a|_=>none)
noncomputable def gFn(K:Frag)(cl:Cn->Addr)(f:Str):Option Fn:=(L9 K cl f).bind (Agx K (F8 f))
noncomputable def V9(K:Frag)(x:Str):Option V:=match nsIn K mainGlobals x with
 | some (some (.int i _))=>some (.int i)
 | _=>none
noncomputable def Abx(K:Frag)(cc:Cn):Bool:=nsIn K mainGlobals (Lx cc)==some (some (.ref (Hv K cc)))&&excIn K (Hv K cc) VE "ValueError.__new__" && Lz K (O6 K (Hv K cc))
noncomputable def Qj(K:Frag):A5:=⟨gFn K (Hv K),V9 K,Abx K⟩
noncomputable def Wa:List Cn:=[.web,.verdict,.webError,.badWeb,.noPoint,.badText,.badOrder,.hasGap]
noncomputable def Aby(K:Frag):Bool:=Wa.all fun a=> !Abx K a||Wa.all fun b=> !Abx K b||(O6 K (Hv K a)).contains (.ref (Hv K b))==(a==b||b == .webError)
theorem Ad9{W:Wd}{hb:Bool}{fa:Addr}{d:Fn}(h:Agx W.K hb fa=some d):∃name qual params body scope doc pm cdv ct oc an od osl,Adm W hb fa d name qual params body scope doc pm cdv ct oc an od osl:=by
 delta Agx at h
 refine Aa fun nY=>?_
 split at h
 ·rename_i od fd osl e
  split at h
  ·rename_i body hb
   split at h
   ·rename_i q
    simp only[Bool.and_eq_true,decide_eq_true_eq,List.all_eq_true,Bool.or_eq_true,beq_iff_eq,bne_iff_ne,List.isEmpty_iff]at q
    obtain⟨⟨⟨⟨⟨⟨⟨⟨⟨⟨q1,q2⟩,q3⟩,q4⟩,q5⟩,q6⟩,q7⟩,q8⟩,q9⟩,q10⟩,q11⟩:=q
    obtain⟨f1,f2,f3,f4,f5,f6,f7,f8,f9,f10,f11,f12,f13,f14,f15⟩:=fd
    simp only at hb q1 q2 q3 q4 q5 q6 q7 q8 q9 q10 q11 h
    subst hb q7 q8 q9 q10 q11
    refine nY ?_;clear nY
    exact⟨f1,f2,f3,body,f5,_,_,_,_,_,_,_,_,⟨e,rfl,q1,h,q2,q3,q4,q5,q6⟩⟩
   ·cases h
  ·cases h
 ·cases h
theorem Uk{W:Wd}(hcl:W.cl=Hv W.K){f:Str}{fa:Addr}(h:L9 W.K (Hv W.K) f=some fa):E1 W f=some fa:=by
 delta L9 at h
 delta E1
 rw[hcl]
 split at h
 ·rename_i cc m e
  try rw[e]
  split at h
  ·exact h
  ·cases h
 ·rename_i e
  try rw[e]
  exact h
noncomputable def Ma(K:Frag):Bool:=
 Sj K (Hv K .web)&&Sj K (Hv K .verdict)&&I2.all (fun x=>nsIn K mainGlobals x==some none)&&Aby K
theorem Agy{W:Wd}(hcl:W.cl=Hv W.K)(hX:W.K.In W.b₀)(hT:(Ex4 fun p loose mg mb=>TopRead p loose mg mb W.b₀))(hg:Ma W.K=true):E9 W (Qj W.K):=by
 unfold Ma at hg
 simp only[Bool.and_eq_true,List.all_eq_true,beq_iff_eq]at hg
 refine Aa fun nY=>?_
 obtain⟨⟨⟨h1,h2⟩,h3⟩,h4⟩:=hg
 have exq:∀cc,Abx W.K cc=true↔L0 W cc:=fun cc=>by
  unfold Abx
  rw[Bool.and_eq_true,Bool.and_eq_true,beq_iff_eq,<-hcl]
  exact⟨fun h=>⟨h.1.1,h.1.2,h.2⟩,fun h=>⟨⟨h.1,h.2⟩,h.3⟩⟩
 refine nY ?_;clear nY
 have mem:∀cc:Cn,cc∈Wa:=fun cc=>by cases cc<;>decide
 refine⟨hX,hT,?_,h3,?_,?_,?_,fun cc h=>(exq cc).mp h,fun cc cc' x y=>?_,?_⟩
 rotate_left 4
 ·unfold Aby at h4
  have z1:=List.all_eq_true.mp h4 cc (mem cc)
  rw[(exq cc).mpr x]at z1
  have z2:=List.all_eq_true.mp z1 cc' (mem cc')
  rw[(exq cc').mpr y]at z2
  rw[hcl]
  simpa using z2
 rotate_right 4
 ·rintro cc (rfl|rfl)
  ·rw[hcl];exact M1 h1
  ·rw[hcl];exact M1 h2
 ·intro x v e
  have e':V9 W.K x=some v:=e
  delta V9 at e'
  refine Aa fun nY=>?_
  split at e'
  ·refine nY ?_;clear nY
   rename_i i t q;cases e';exact⟨_,q,.int _ _⟩
  ·cases e'
 ·intro f d e
  have e':gFn W.K (Hv W.K) f=some d:=e
  unfold gFn at e'
  refine Aa fun nY=>?_
  obtain⟨fa,h4,h5⟩:=Option.bind_eq_some_iff.mp e'
  refine nY ?_;clear nY
  exact⟨fa,Uk hcl h4,Ad9 h5⟩
 ·intro cc hcc hs
  have hs':(gFn W.K (Hv W.K) (Ds cc)).isSome=true:=hs
  refine Aa fun nY=>?_
  obtain⟨d,hd⟩:=Option.isSome_iff_exists.mp hs'
  unfold gFn at hd
  obtain⟨fa,h4,h5⟩:=Option.bind_eq_some_iff.mp hd
  delta L9 at h4
  rw[Sm hcc]at h4
  simp only at h4
  split at h4
  ·rename_i q
   simp only[Bool.and_eq_true,beq_iff_eq]at q
   refine nY ?_;clear nY
   rw[hcl]
   refine Aa fun nY=>?_
   rcases hcc with rfl|rfl
   ·refine nY ?_;clear nY
    exact⟨q.1,q.2⟩
   ·refine nY ?_;clear nY
    exact⟨q.1,q.2⟩
  ·cases h4
 ·intro f m fa ho hfa
  refine⟨?_,?_⟩
  ·have:=(M1 h1).get .many
   rw[hcl]
   exact this
  ·intro a q
   have:m∈(["__init__","need","beside","tied","ties"]:List Str):=by
    delta D9 at ho
    repeat' split at ho
    all_goals first
     | (cases ho;decide)
     | (cases ho;done)
   subst q
   cases a<;>revert this<;>decide
theorem Yu{K:Frag}{cl:Cn->Addr}{f:Str}(ho:D9 f=none)(hb:F8 f=false)(h:(L9 K cl f).isSome=true):∃a,L9 K cl f=some a/\nsIn K mainGlobals f=some (some (.ref a)):=by
 obtain⟨a,ha⟩:=Option.isSome_iff_exists.mp h
 refine⟨a,ha,?_⟩
 delta L9 at ha
 rw[ho]at ha
 simp only[Q3 hb]at ha
 split at ha
 ·rename_i e;cases ha;exact e
 ·cases ha
theorem Aea{prog:Program}{w:World}{K:Frag}{s₁:Shared}{p:Program}{loose:List Str}{mg mb:Str->Option Value}{fa L:Addr}{items:List Value}{nsL:List Int}{c:ClaimW}{cl:Str->Option Addr}{mean:ExcName->Option Value}{args:List WData}
 (KX:K.In s₁.heap) (T:TopRead p loose mg mb s₁.heap) (hgr:Ma K=true) (hf:(L9 K (Hv K) "law").isSome=true) (hmg:mg "law" = some (.ref fa)) (hg:s₁.gens = #[])
 (hL:s₁.heap.IsList L items.toArray) (hI:IntsAre items nsL) (hn:nsL.length<=63) (main:Ae (Qj K) 40 "law" [.script nsL] (fun _=>none) (fun v _=>v = .bool true) EF)
 (hr:∀cls,c.raises args cls=false) (hp:c.post args (.bool true) args=true) :
 wpAny (model prog w) callerA (call (.ref fa) [.ref L]) (fun v s'=>GoodWG c cl mean args s₁ (.ok (.ret v)) s') (fun e s'=>GoodWG c cl mean args s₁ (.error e) s') s₁:=by
 have hlen:items.length<=Bs:=by
  have:=(Gn (W:=⟨prog,w,K,Hv K,s₁.heap,s₁.os,L,nsL,⟨items,hL,hI,by
   have:∀ {vs:List Value} {ns:List Int},IntsAre vs ns->vs.length=ns.length:=by
    intro vs ns h;induction h with
    | nil=>rfl
    | cons _ _ _ ih=>simp[ih]
   rw[this hI];simp only[Bs];exact(Nat.le_trans hn (by decide))⟩⟩) hI).length
  simp only[List.length_map]at this
  rw[<-this];simp only[Bs];exact Nat.le_trans hn (by decide)
 let W:Wd:=⟨prog,w,K,Hv K,s₁.heap,s₁.os,L,nsL,⟨items,hL,hI,hlen⟩⟩
 refine Aa fun nY=>?_
 obtain⟨a,h1,h2⟩:=Yu (K:=K) (cl:=Hv K) (f:= "law") (by decide) (by decide) hf
 have h3:=mg_of KX T.g h2
 rw[hmg]at h3
 cases h3
 have gd:E9 W (Qj K):=Agy (W:=W) rfl KX ⟨p,loose,mg,mb,T⟩ hgr
 refine nY ?_;clear nY
 refine wpAny_call (codeAny_mono (Ad8 (W:=W) (G:=Qj K) (n:=39) (E:=fun _ _=>False) (f:= "law") gd (by decide) rfl rfl (by decide) (by decide) rfl hg rfl (modules_low T.nolimit) (Uk (W:=W) rfl h1) main) fun r s' z=>?_)
 refine Aa fun nY=>?_
 rcases r with e|(v|_|_|_)<;>first|exact z.elim|skip
 obtain⟨⟨av,H',hv,q⟩,hk,ho,hgn⟩:=z
 subst q
 cases hv
 refine nY ?_;clear nY
 exact GoodW.toG ⟨.inl ⟨.bool true,.bool true,[],rfl,hr,.bool true,hp,fun _=>⟨List.nodup_nil,fun _ h=>by cases h⟩⟩,hk,ho,hgn⟩
end Mine.Internal
namespace Mine.Internal.Cl
open PySem
set_option linter.all false
variable {G:A5} {n:Nat} {H:AH} {Q:Ak} {E:EP} {C:CS} {ρ:Al} {N:Al->AH->Prop} {R:Ak}
theorem Br{b:Bool}{Q:Bool->Prop}:truthy (.bool b) Q=Q b:=rfl
theorem J8{i j:Int}:Ba .Lt (.int i) (.int j) H Q=Q (.bool (decide (i<j))) H:=rfl
theorem J9{i j:Int}:Ba .LtE (.int i) (.int j) H Q=Q (.bool (decide (i<=j))) H:=rfl
theorem Yv{i j:Int}:Ba .Gt (.int i) (.int j) H Q=Q (.bool (decide (j<i))) H:=rfl
theorem Jbb{i j:Int}:Ba .GtE (.int i) (.int j) H Q=Q (.bool (decide (j<=i))) H:=rfl
theorem Ok{i j:Int}:Ba .Eq (.int i) (.int j) H Q=Q (.bool (decide (i=j))) H:=rfl
theorem Jbd{i j:Int}:Ba .NotEq (.int i) (.int j) H Q=Q (.bool (!decide (i=j))) H:=rfl
theorem Jbe{i j:Bool}:Ba .Eq (.bool i) (.bool j) H Q=Q (.bool (i==j)) H:=rfl
theorem Jbf{i j:Bool}:Ba .NotEq (.bool i) (.bool j) H Q=Q (.bool (!(i==j))) H:=rfl
theorem Jbg:Ba .Is .none .none H Q=Q (.bool true) H:=rfl
theorem Jbh{a}:Ba .Is (.ref a) .none H Q=Q (.bool false) H:=rfl
theorem Jbi:Ba .IsNot .none .none H Q=Q (.bool false) H:=rfl
theorem Jbj{a}:Ba .IsNot (.ref a) .none H Q=Q (.bool true) H:=rfl
theorem J6{i j:Int}:Dn .Add (.int i) (.int j) H Q=Q (.int (i+j)) H:=rfl
theorem J7{i j:Int}:Dn .Sub (.int i) (.int j) H Q=Q (.int (i-j)) H:=rfl
theorem Ul{i j:Int}:Dn .Mult (.int i) (.int j) H Q=((i.natAbs<2 ^ 64\/j.natAbs<2 ^ 64)/\Q (.int (i*j)) H):=rfl
theorem J4{i j:Int}(h:0<j)(h':j<=10 ^ 30):Dn .Mod (.int i) (.int j) H Q=Q (.int (i%j)) H:=by
 show ((j≠0/\j.natAbs<=10 ^ 30)/\Q (.int (i.fmod j)) H)=_
 rw[Int.fmod_eq_emod_of_nonneg _ (by omega)]
 exact propext ⟨fun h=>h.2,fun q=>⟨⟨by omega,by omega⟩,q⟩⟩
theorem J5{i j:Int}(h:0<j)(h':j<=10 ^ 30):Dn .FloorDiv (.int i) (.int j) H Q=Q (.int (i/j)) H:=by
 show ((j≠0/\j.natAbs<=10 ^ 30)/\Q (.int (i.fdiv j)) H)=_
 rw[Int.fdiv_eq_ediv_of_nonneg _ (by omega)]
 exact propext ⟨fun h=>h.2,fun q=>⟨⟨by omega,by omega⟩,q⟩⟩
theorem Ajb{i j:Int}:Dn .Pow (.int i) (.int j) H Q=((0<=j/\j<=1000/\i.natAbs<2 ^ 64)/\Q (.int (i ^ j.toNat)) H):=rfl
theorem Jbn{ns:List Int}:Cj .len [.script ns] H Q=Q (.int ns.length) H:=rfl
theorem Jbl{i j:Int}:Cj .max [.int i,.int j] H Q=Q (.int (max i j)) H:=rfl
theorem Jbm{i j:Int}:Cj .min [.int i,.int j] H Q=Q (.int (min i j)) H:=rfl
theorem J2:Cy 1 = .one 0:=rfl
theorem J3:Cy 2 = .two 0 1:=rfl
theorem Jbq{i:Int}(h0: -1048576<=i)(h1:i<=1048576):Cj .listRange [.int i] H Q=Ao (.list ((List.range i.toNat).map fun(i:Nat)=>V.int i)) H Q:=
 propext ⟨fun h=>h.2,fun h=>⟨⟨h0,h1⟩,h⟩⟩
theorem Jbr{i j:Int}(h0:0<=i)(h1:i<=1048576)(h2: -1048576<=j)(h3:j<=1048576):Cj .listRange [.int i,.int j] H Q=Ao (.list ((List.range (j-i).toNat).map fun(k:Nat)=>V.int (i+k))) H Q:=
 propext ⟨fun h=>h.2,fun h=>⟨⟨h0,h1,h2,h3⟩,h⟩⟩
theorem Qk{i:Int}{K:List It->(AH->Prop)->AH->Prop}(h0: -1048576<=i)(h1:i<=1048576):Ej [.int i] H K=K ((List.range i.toNat).map fun(i:Nat)=> .v (.int i)) (fun _=>True) H:=
 propext ⟨fun h=>h.2,fun h=>⟨⟨h0,h1⟩,h⟩⟩
theorem M5{i:Int}{K:List It->(AH->Prop)->AH->Prop}(h0: -1048576<=i)(h1:i<=1048576)(kk:K ((List.range i.toNat).map fun(i:Nat)=> .v (.int i)) (fun _=>True) H):Ej [.int i] H K:=Eq.mpr (Qk h0 h1) kk
theorem Jbp{i j:Int}{K:List It->(AH->Prop)->AH->Prop}(h0:0<=i)(h1:i<=1048576)(h2: -1048576<=j)(h3:j<=1048576):Ej [.int i,.int j] H K=K ((List.range (j-i).toNat).map fun(k:Nat)=> .v (.int (i+k))) (fun _=>True) H:=
 propext ⟨fun h=>h.2,fun h=>⟨⟨h0,h1,h2,h3⟩,h⟩⟩
theorem B9{a:Nat}{xs:List V}(h:H a=some (.list xs)):Cj .len [.ref a] H Q=Q (.int xs.length) H:=by delta Cj;dsimp only;(first|delta Oq|delta Hx|delta Hy|delta Os);(try dsimp only[Ax,Ap,U5,Mt,Te]);rw[h];(try dsimp only[Gb,U9])
theorem Aed{a:Nat}{xs:List V}(h:H a=some (.list xs))(kk:Q (.int xs.length) H):Cj .len [.ref a] H Q:=Eq.mpr (B9 h) kk
theorem Bj{a:Nat}{xs:List V}{k:Int}{x:V}(h:H a=some (.list xs))(h0:0<=k)(hx:xs[k.toNat]? = some x):D4 (.ref a) (.int k) H Q=Q x H:=by
 have hlt:=(List.getElem?_eq_some_iff.mp hx).1
 have:Ct k xs.length=some k.toNat:=by delta Ct;rw[if_pos h0,if_pos (by(first|lia|omega))]
 delta D4;(try dsimp only[Ap]);rw[h];(try dsimp only);rw[this];(try dsimp only[E8]);rw[hx]
theorem Eo{a:Nat}{xs:List V}{k:Int}{x:V}(h:H a=some (.list xs))(h0:0<=k)(hx:xs[k.toNat]? = some x)(kk:Q x H):D4 (.ref a) (.int k) H Q:=Eq.mpr (Bj h h0 hx) kk
theorem Im{a:Nat}{xs:List V}{k:Int}{x:V}(h:H a=some (.tuple xs))(h0:0<=k)(hx:xs[k.toNat]? = some x):D4 (.ref a) (.int k) H Q=Q x H:=by
 have hlt:=(List.getElem?_eq_some_iff.mp hx).1
 have:Ct k xs.length=some k.toNat:=by delta Ct;rw[if_pos h0,if_pos (by(first|lia|omega))]
 delta D4;(try dsimp only[Ap]);rw[h];(try dsimp only);rw[this];(try dsimp only[E8]);rw[hx]
theorem Fv{a:Nat}{xs:List V}{k:Int}{x:V}(h:H a=some (.tuple xs))(h0:0<=k)(hx:xs[k.toNat]? = some x)(kk:Q x H):D4 (.ref a) (.int k) H Q:=Eq.mpr (Im h h0 hx) kk
theorem Cc{a:Nat}{xs:List V}{v:V}(h:H a=some (.list xs))(hl:xs.length<1048576):Ew .append (.ref a) [v] H Q=Q .none (upd H a (.list (xs ++ [v]))):=by
 delta Ew;dsimp only;(first|delta Dw|delta Fy|delta Dx|delta Fz|delta Dy|delta Cw|delta Bq);(try dsimp only[Ax,Ap,U5,Mt,Te]);rw[h];(try dsimp only[Gb,U9]);exact propext ⟨fun h=>h.2,fun q=>⟨hl,q⟩⟩
theorem Yw{a:Nat}{xs:List V}{v:V}(h:H a=some (.list xs))(hl:xs.length<1048576)(kk:Q .none (upd H a (.list (xs ++ [v])))):Ew .append (.ref a) [v] H Q:=Eq.mpr (Cc h hl) kk
theorem Bp{a:Nat}{xs:List V}{m:LM}(h:H a=some (.list xs))(hm:m≠ .setdefault):F0 m (.ref a) H=True:=by
 cases m<;>first|exact absurd rfl hm|(delta F0;dsimp only[Ax];rw[h];exact propext ⟨fun _=>trivial,fun _=>trivial⟩)
theorem Agz{a:Nat}{xs:List V}{K:List It->(AH->Prop)->AH->Prop}(h:H a=some (.list xs)):Gc (.ref a) H K=K (xs.map .v) (fun H'=>H' a=some (.list xs)) H:=by delta Gc;(try dsimp only[Ax]);rw[h]
theorem Az{a:Nat}{xs:List V}{K:List It->(AH->Prop)->AH->Prop}(h:H a=some (.list xs))(kk:K (xs.map .v) (fun H'=>H' a=some (.list xs)) H):Gc (.ref a) H K:=Eq.mpr (Agz h) kk
theorem Aee{a:Nat}{xs:List V}{K:List It->(AH->Prop)->AH->Prop}(h:H a=some (.list xs)):Mv (.ref a) H K=K (xs.mapIdx fun i x=> .pair (.int i) x) (fun H'=>H' a=some (.list xs)) H:=by delta Mv;(try dsimp only[Ax]);rw[h];rfl
theorem Ab0{a:Nat}{xs:List V}{K:List It->(AH->Prop)->AH->Prop}(h:H a=some (.list xs))(kk:K (xs.mapIdx fun i x=> .pair (.int i) x) (fun H'=>H' a=some (.list xs)) H):Mv (.ref a) H K:=Eq.mpr (Aee h) kk
theorem Ag0{a:Nat}{xs:List V}{K:List It->(AH->Prop)->AH->Prop}(h:H a=some (.list xs)):Qy (.ref a) H K=K (xs.reverse.map .v) (fun H'=>H' a=some (.list xs)) H:=by delta Qy;(try dsimp only[Ax]);rw[h];rfl
theorem Aef{a:Nat}{xs:List V}{K:List It->(AH->Prop)->AH->Prop}(h:H a=some (.list xs))(kk:K (xs.reverse.map .v) (fun H'=>H' a=some (.list xs)) H):Qy (.ref a) H K:=Eq.mpr (Ag0 h) kk
theorem Ah{α:Type}{a:α}{l:List α}:(a::l)[0]? = some a:=rfl
theorem Am{α:Type}{a:α}{l:List α}{i:Nat}:(a::l)[i+1]? = l[i]?:=rfl
theorem D1{α:Type}{a:α}{l m:List α}:(a::l)++m=a::(l++m):=rfl
theorem D2{α:Type}{l:List α}:[]++l=l:=rfl
theorem Bt{α:Type}{a b:α}{l:List α}{i:Nat}:(a::l).set (i+1) b=a::l.set i b:=rfl
theorem Bu{α:Type}{a b:α}{l:List α}:(a::l).set 0 b=b::l:=rfl
theorem Ca{α:Type}{a:α}:(some a).isSome=true:=rfl
theorem Af{f:Str}{d:Fn}{args:List V}(h:G.fn f=some d)(ha:d.arity=args.length)
 (q:A1 G (Ae G n) d.body (args.map some++List.replicate (d.slots-d.arity) none) H (fun _ H=>Q .none H) Q E):Ae G (n+1) f args H Q E:=by
 show (match G.fn f with|some d=>_|none=>False)
 rw[h]
 exact⟨ha,q⟩
theorem Bg{t:X}{a b:List S}(c:Bool)(h:∀Q':Ak,Q' (.bool c) H->Aq G C t ρ H Q' E)(q:if c then A1 G C a ρ H N R E else A1 G C b ρ H N R E):Gv G C (.ite t a b) ρ H N R E:=by
 refine Bi ?_
 exact h _ q
set_option linter.all false
variable {G:A5} {n:Nat} {H H':AH} {Q:Ak} {E:EP} {C:CS} {ρ:Al}
noncomputable def Ag(H H':AH):Prop:=∀a o,H a=some o->H' a=some o
theorem Ag.refl:Ag H H:=fun _ _ e=>e
theorem Ag.trans{H'':AH}(h:Ag H H')(h':Ag H' H''):Ag H H'':=fun a o e=>h' a o (h a o e)
theorem Ad{a:Nat}{o:O}:upd H a o a=some o:=by simp[upd]
theorem upd_ne{a b:Nat}{o:O}(h:b≠a):upd H a o b=H b:=if_neg h
theorem Ag.upd{a:Nat}{o:O}(h:H a=none):Ag H (upd H a o):=fun b o' e=>by
 rw[upd_ne];exact e
 rintro rfl;rw[h]at e;cases e
theorem Ag.isNone(h:Ag H H'){a:Nat}(e:H' a=none):H a=none:=by
 cases q:H a with
 | none=>rfl
 | some o=>rw[h a o q]at e;cases e
theorem Ag.upd'{a:Nat}{o:O}(h:Ag H H')(e:H a=none):Ag H (Mine.Internal.upd H' a o):=fun b o' q=>by
 rw[upd_ne];exact h b o' q
 rintro rfl;rw[e]at q;cases q
noncomputable def LI(H:AH)(a:Nat)(l:List Int):Prop:=H a=some (.list (l.map V.int))
theorem LI.ext{a:Nat}{l:List Int}(h:LI H a l)(e:Ag H H'):LI H' a l:=e _ _ h
noncomputable def Ea(H:AH)(as:List Nat)(rows:List (List Int)):Prop:=as.length=rows.length/\∀(i x:Nat) (r:List Int),as[i]? = some x->rows[i]? = some r->LI H x r
theorem Ea.ext{as:List Nat}{rows:List (List Int)}(h:Ea H as rows)(e:Ag H H'):Ea H' as rows:=⟨h.1,fun i x r h1 h2=>(h.2 i x r h1 h2).ext e⟩
theorem Ea.snoc{as:List Nat}{rows:List (List Int)}{x:Nat}{r:List Int}(h:Ea H as rows)(hx:LI H x r):Ea H (as ++ [x]) (rows ++ [r]):=by
 refine⟨by simp[h.1],fun i y r' h1 h2=>?_⟩
 cases Nat.lt_or_ge i as.length with
 | inl q=>
   rw[List.getElem?_append_left q]at h1
   rw[List.getElem?_append_left (by rw[<-h.1];exact q)]at h2
   exact h.2 i y r' h1 h2
 | inr q=>
   rw[List.getElem?_append_right q]at h1
   rw[List.getElem?_append_right (by rw[<-h.1];exact q)]at h2
   have:i-as.length=0:=by
    obtain⟨z,_⟩:=List.getElem?_eq_some_iff.mp h1
    simp at z;exact z
   rw[this]at h1
   rw[<-h.1,this]at h2
   simp at h1 h2
   subst h1 h2
   exact hx
theorem Io{g:AH->Prop}{t:Tc}{body:Al->AH->(Al->AH->Prop)->Prop}{N:Al->AH->Prop}(I:Nat->Al->AH->Prop):∀ {its:List It} {k:Nat} {ρ:Al} {H:AH},I k ρ H->
 (∀i x ρ H K,its[i]? = some x->I (k+i) ρ H->(∀ρ'' H'',I (k+i+1) ρ'' H''->K ρ'' H'')->g H/\Lg t x ρ H fun ρ'=>body ρ' H K)->(∀ρ H,I (k+its.length) ρ H->g H/\N ρ H)->loop g t body N its ρ H:=by
 intro its
 induction its with
 | nil=>intro k ρ H h0 _ fin;exact fin ρ H h0
 | cons x r ih=>
   intro k ρ H h0 step fin
   refine step 0 x ρ H _ rfl h0 fun ρ'' H'' h1=>?_
   refine ih (k:=k+1) h1 (fun i y ρ H K hy hI hK=>?_) fun ρ H hI=>?_
   ·refine step (i+1) y ρ H K hy (by rwa[show k+(i+1)=k+1+i by exact Q5]) fun ρ'' H'' h=>hK ρ'' H'' ?_
    rwa[show k+1+i+1=k+(i+1)+1 by exact Q6]
   ·exact fin ρ H (by rwa[List.length_cons,show k+(r.length+1)=k+1+r.length by exact Q5])
theorem Wb{m:Nat}{a:Int}{t:Nat}{body:Al->AH->(Al->AH->Prop)->Prop}{N:Al->AH->Prop}(I:Nat->Al->AH->Prop)(h0:I 0 ρ H)
 (step:∀i ρ H K,i<m->I i ρ H->(∀ρ'' H'',I (i+1) ρ'' H''->K ρ'' H'')->body (ρ.set t (some (.int (a+i)))) H K) (fin:∀ρ H,I m ρ H->N ρ H) :
 loop (fun _=>True) (.one t) body N ((List.range m).map fun(i:Nat)=> .v (.int (a+i))) ρ H:=by
 refine Io (k:=0) I h0 (fun i x ρ H K hx hI hK=>⟨trivial,?_⟩) fun ρ H hI=>⟨trivial,fin ρ H (by simpa using hI)⟩
 rw[List.getElem?_map]at hx
 obtain⟨j,hj,rfl⟩:=Option.map_eq_some_iff.mp hx
 obtain⟨hlt,he⟩:=List.getElem?_eq_some_iff.mp hj
 simp at hlt he
 subst he
 exact step i ρ H K hlt (by simpa using hI) fun ρ'' H'' h=>hK ρ'' H'' (by simpa using h)
theorem Fw{m:Nat}{t:Nat}{body:Al->AH->(Al->AH->Prop)->Prop}{N:Al->AH->Prop}(I:Nat->Al->AH->Prop)(h0:I 0 ρ H)
 (step:∀i ρ H K,i<m->I i ρ H->(∀ρ'' H'',I (i+1) ρ'' H''->K ρ'' H'')->body (ρ.set t (some (.int i))) H K) (fin:∀ρ H,I m ρ H->N ρ H) :
 loop (fun _=>True) (.one t) body N ((List.range m).map fun(i:Nat)=> .v (.int i)) ρ H:=by
 have:=Wb (a:=0) (t:=t) (body:=body) (N:=N) I h0 (fun i ρ H K hi hI hK=>by simpa using step i ρ H K hi hI hK) fin
 simpa using this
theorem Cr{α0:Type}{m:Nat}{t:Nat}{body:Al->AH->(Al->AH->Prop)->Prop}{N:Al->AH->Prop}(f:Nat->α0->Al)(T:Nat->α0->AH->Prop)(x0:α0)(hρ:ρ=f 0 x0)(h0:T 0 x0 H)(step:∀i y0 H K,i<m->T i y0 H->(∀z0 H'',T (i+1) z0 H''->K (f (i+1) z0) H'')->body ((f i y0).set t (some (.int i))) H K)(fin:∀x0 H,T m x0 H->N (f m x0) H):loop (fun _=>True) (.one t) body N ((List.range m).map fun(i:Nat)=> .v (.int i)) ρ H:=by
 refine Fw (fun i ρ H=>∃x0,ρ=f i x0/\T i x0 H) ⟨x0,hρ,h0⟩ (fun i _ H K hx h hK=>?_) fun _ H h=>?_
 ·obtain⟨y0,rfl,h⟩:=h;exact step i y0 H K hx h fun z0 H'' h'=>hK _ _ ⟨z0,rfl,h'⟩
 ·obtain⟨x0,rfl,h⟩:=h;exact fin _ _ h
theorem Kr{α0 α1:Type}{m:Nat}{t:Nat}{body:Al->AH->(Al->AH->Prop)->Prop}{N:Al->AH->Prop}(f:Nat->α0->α1->Al)(T:Nat->α0->α1->AH->Prop)(x0:α0)(x1:α1)(hρ:ρ=f 0 x0 x1)(h0:T 0 x0 x1 H)(step:∀i y0 y1 H K,i<m->T i y0 y1 H->(∀z0 z1 H'',T (i+1) z0 z1 H''->K (f (i+1) z0 z1) H'')->body ((f i y0 y1).set t (some (.int i))) H K)(fin:∀x0 x1 H,T m x0 x1 H->N (f m x0 x1) H):loop (fun _=>True) (.one t) body N ((List.range m).map fun(i:Nat)=> .v (.int i)) ρ H:=
 Cr (fun i p=>f i p.1 p.2) (fun i p=>T i p.1 p.2) (x0,x1) hρ h0 (fun i p H K hx h hK=>step i p.1 p.2 H K hx h fun z0 z1 H' h'=>hK (z0,z1) H' h') fun p=>fin p.1 p.2
theorem Ql{α0 α1 α2:Type}{m:Nat}{t:Nat}{body:Al->AH->(Al->AH->Prop)->Prop}{N:Al->AH->Prop}(f:Nat->α0->α1->α2->Al)(T:Nat->α0->α1->α2->AH->Prop)(x0:α0)(x1:α1)(x2:α2)(hρ:ρ=f 0 x0 x1 x2)(h0:T 0 x0 x1 x2 H)(step:∀i y0 y1 y2 H K,i<m->T i y0 y1 y2 H->(∀z0 z1 z2 H'',T (i+1) z0 z1 z2 H''->K (f (i+1) z0 z1 z2) H'')->body ((f i y0 y1 y2).set t (some (.int i))) H K)(fin:∀x0 x1 x2 H,T m x0 x1 x2 H->N (f m x0 x1 x2) H):loop (fun _=>True) (.one t) body N ((List.range m).map fun(i:Nat)=> .v (.int i)) ρ H:=
 Cr (fun i p=>f i p.1 p.2.1 p.2.2) (fun i p=>T i p.1 p.2.1 p.2.2) (x0,x1,x2) hρ h0 (fun i p H K hx h hK=>step i p.1 p.2.1 p.2.2 H K hx h fun z0 z1 z2 H' h'=>hK (z0,z1,z2) H' h') fun p=>fin p.1 p.2.1 p.2.2
theorem Qn{α0 α1 α2 α3:Type}{m:Nat}{t:Nat}{body:Al->AH->(Al->AH->Prop)->Prop}{N:Al->AH->Prop}(f:Nat->α0->α1->α2->α3->Al)(T:Nat->α0->α1->α2->α3->AH->Prop)(x0:α0)(x1:α1)(x2:α2)(x3:α3)(hρ:ρ=f 0 x0 x1 x2 x3)(h0:T 0 x0 x1 x2 x3 H)(step:∀i y0 y1 y2 y3 H K,i<m->T i y0 y1 y2 y3 H->(∀z0 z1 z2 z3 H'',T (i+1) z0 z1 z2 z3 H''->K (f (i+1) z0 z1 z2 z3) H'')->body ((f i y0 y1 y2 y3).set t (some (.int i))) H K)(fin:∀x0 x1 x2 x3 H,T m x0 x1 x2 x3 H->N (f m x0 x1 x2 x3) H):loop (fun _=>True) (.one t) body N ((List.range m).map fun(i:Nat)=> .v (.int i)) ρ H:=
 Cr (fun i p=>f i p.1 p.2.1 p.2.2.1 p.2.2.2) (fun i p=>T i p.1 p.2.1 p.2.2.1 p.2.2.2) (x0,x1,x2,x3) hρ h0 (fun i p H K hx h hK=>step i p.1 p.2.1 p.2.2.1 p.2.2.2 H K hx h fun z0 z1 z2 z3 H' h'=>hK (z0,z1,z2,z3) H' h') fun p=>fin p.1 p.2.1 p.2.2.1 p.2.2.2
theorem Qo{α0 α1 α2 α3 α4:Type}{m:Nat}{t:Nat}{body:Al->AH->(Al->AH->Prop)->Prop}{N:Al->AH->Prop}(f:Nat->α0->α1->α2->α3->α4->Al)(T:Nat->α0->α1->α2->α3->α4->AH->Prop)(x0:α0)(x1:α1)(x2:α2)(x3:α3)(x4:α4)(hρ:ρ=f 0 x0 x1 x2 x3 x4)(h0:T 0 x0 x1 x2 x3 x4 H)(step:∀i y0 y1 y2 y3 y4 H K,i<m->T i y0 y1 y2 y3 y4 H->(∀z0 z1 z2 z3 z4 H'',T (i+1) z0 z1 z2 z3 z4 H''->K (f (i+1) z0 z1 z2 z3 z4) H'')->body ((f i y0 y1 y2 y3 y4).set t (some (.int i))) H K)(fin:∀x0 x1 x2 x3 x4 H,T m x0 x1 x2 x3 x4 H->N (f m x0 x1 x2 x3 x4) H):loop (fun _=>True) (.one t) body N ((List.range m).map fun(i:Nat)=> .v (.int i)) ρ H:=
 Cr (fun i p=>f i p.1 p.2.1 p.2.2.1 p.2.2.2.1 p.2.2.2.2) (fun i p=>T i p.1 p.2.1 p.2.2.1 p.2.2.2.1 p.2.2.2.2) (x0,x1,x2,x3,x4) hρ h0 (fun i p H K hx h hK=>step i p.1 p.2.1 p.2.2.1 p.2.2.2.1 p.2.2.2.2 H K hx h fun z0 z1 z2 z3 z4 H' h'=>hK (z0,z1,z2,z3,z4) H' h') fun p=>fin p.1 p.2.1 p.2.2.1 p.2.2.2.1 p.2.2.2.2
theorem Qp{α0 α1 α2 α3 α4 α5 α6 α7:Type}{m:Nat}{t:Nat}{body:Al->AH->(Al->AH->Prop)->Prop}{N:Al->AH->Prop}(f:Nat->α0->α1->α2->α3->α4->α5->α6->α7->Al)(T:Nat->α0->α1->α2->α3->α4->α5->α6->α7->AH->Prop)(x0:α0)(x1:α1)(x2:α2)(x3:α3)(x4:α4)(x5:α5)(x6:α6)(x7:α7)(hρ:ρ=f 0 x0 x1 x2 x3 x4 x5 x6 x7)(h0:T 0 x0 x1 x2 x3 x4 x5 x6 x7 H)(step:∀i y0 y1 y2 y3 y4 y5 y6 y7 H K,i<m->T i y0 y1 y2 y3 y4 y5 y6 y7 H->(∀z0 z1 z2 z3 z4 z5 z6 z7 H'',T (i+1) z0 z1 z2 z3 z4 z5 z6 z7 H''->K (f (i+1) z0 z1 z2 z3 z4 z5 z6 z7) H'')->body ((f i y0 y1 y2 y3 y4 y5 y6 y7).set t (some (.int i))) H K)(fin:∀x0 x1 x2 x3 x4 x5 x6 x7 H,T m x0 x1 x2 x3 x4 x5 x6 x7 H->N (f m x0 x1 x2 x3 x4 x5 x6 x7) H):loop (fun _=>True) (.one t) body N ((List.range m).map fun(i:Nat)=> .v (.int i)) ρ H:=
 Cr (fun i p=>f i p.1 p.2.1 p.2.2.1 p.2.2.2.1 p.2.2.2.2.1 p.2.2.2.2.2.1 p.2.2.2.2.2.2.1 p.2.2.2.2.2.2.2) (fun i p=>T i p.1 p.2.1 p.2.2.1 p.2.2.2.1 p.2.2.2.2.1 p.2.2.2.2.2.1 p.2.2.2.2.2.2.1 p.2.2.2.2.2.2.2) (x0,x1,x2,x3,x4,x5,x6,x7) hρ h0 (fun i p H K hx h hK=>step i p.1 p.2.1 p.2.2.1 p.2.2.2.1 p.2.2.2.2.1 p.2.2.2.2.2.1 p.2.2.2.2.2.2.1 p.2.2.2.2.2.2.2 H K hx h fun z0 z1 z2 z3 z4 z5 z6 z7 H' h'=>hK (z0,z1,z2,z3,z4,z5,z6,z7) H' h') fun p=>fin p.1 p.2.1 p.2.2.1 p.2.2.2.1 p.2.2.2.2.1 p.2.2.2.2.2.1 p.2.2.2.2.2.2.1 p.2.2.2.2.2.2.2
theorem Ev{a:Nat}{xs:List V}{t:Nat}{body:Al->AH->(Al->AH->Prop)->Prop}{N:Al->AH->Prop}(I:Nat->Al->AH->Prop)(h0:I 0 ρ H)(hg:∀i ρ H,I i ρ H->H a=some (.list xs))
 (step:∀i x ρ H K,xs[i]? = some x->I i ρ H->(∀ρ'' H'',I (i+1) ρ'' H''->K ρ'' H'')->body (ρ.set t (some x)) H K) (fin:∀ρ H,I xs.length ρ H->N ρ H) :
 loop (fun H=>H a=some (.list xs)) (.one t) body N (xs.map .v) ρ H:=by
 refine Io (k:=0) I h0 (fun i x ρ H K hx hI hK=>⟨hg _ _ _ hI,?_⟩) fun ρ H hI=>⟨hg _ _ _ hI,fin ρ H (by simpa using hI)⟩
 rw[List.getElem?_map]at hx
 obtain⟨j,hj,rfl⟩:=Option.map_eq_some_iff.mp hx
 exact step i j ρ H K hj (by simpa using hI) fun ρ'' H'' h=>hK ρ'' H'' (by simpa using h)
theorem C3{α0:Type}{a:Nat}{xs:List V}{t:Nat}{body:Al->AH->(Al->AH->Prop)->Prop}{N:Al->AH->Prop}(f:Nat->α0->Al)(T:Nat->α0->AH->Prop)(x0:α0)(hρ:ρ=f 0 x0)(h0:T 0 x0 H)(hg:∀i x0 H,T i x0 H->H a=some (.list xs))(step:∀i x y0 H K,xs[i]? = some x->T i y0 H->(∀z0 H'',T (i+1) z0 H''->K (f (i+1) z0) H'')->body ((f i y0).set t (some x)) H K)(fin:∀x0 H,T xs.length x0 H->N (f xs.length x0) H):loop (fun H=>H a=some (.list xs)) (.one t) body N (xs.map .v) ρ H:=by
 refine Ev (fun i ρ H=>∃x0,ρ=f i x0/\T i x0 H) ⟨x0,hρ,h0⟩ (fun i _ H h=>?_) (fun i x _ H K hx h hK=>?_) fun _ H h=>?_
 ·obtain⟨x0,_,h⟩:=h;exact hg _ _ _ h
 ·obtain⟨y0,rfl,h⟩:=h;exact step i x y0 H K hx h fun z0 H'' h'=>hK _ _ ⟨z0,rfl,h'⟩
 ·obtain⟨x0,rfl,h⟩:=h;exact fin _ _ h
theorem Nv{α0 α1:Type}{a:Nat}{xs:List V}{t:Nat}{body:Al->AH->(Al->AH->Prop)->Prop}{N:Al->AH->Prop}(f:Nat->α0->α1->Al)(T:Nat->α0->α1->AH->Prop)(x0:α0)(x1:α1)(hρ:ρ=f 0 x0 x1)(h0:T 0 x0 x1 H)(hg:∀i x0 x1 H,T i x0 x1 H->H a=some (.list xs))(step:∀i x y0 y1 H K,xs[i]? = some x->T i y0 y1 H->(∀z0 z1 H'',T (i+1) z0 z1 H''->K (f (i+1) z0 z1) H'')->body ((f i y0 y1).set t (some x)) H K)(fin:∀x0 x1 H,T xs.length x0 x1 H->N (f xs.length x0 x1) H):loop (fun H=>H a=some (.list xs)) (.one t) body N (xs.map .v) ρ H:=
 C3 (fun i p=>f i p.1 p.2) (fun i p=>T i p.1 p.2) (x0,x1) hρ h0 (fun i p=>hg i p.1 p.2) (fun i x p H K hx h hK=>step i x p.1 p.2 H K hx h fun z0 z1 H' h'=>hK (z0,z1) H' h') fun p=>fin p.1 p.2
theorem Ip{α0 α1 α2:Type}{a:Nat}{xs:List V}{t:Nat}{body:Al->AH->(Al->AH->Prop)->Prop}{N:Al->AH->Prop}(f:Nat->α0->α1->α2->Al)(T:Nat->α0->α1->α2->AH->Prop)(x0:α0)(x1:α1)(x2:α2)(hρ:ρ=f 0 x0 x1 x2)(h0:T 0 x0 x1 x2 H)(hg:∀i x0 x1 x2 H,T i x0 x1 x2 H->H a=some (.list xs))(step:∀i x y0 y1 y2 H K,xs[i]? = some x->T i y0 y1 y2 H->(∀z0 z1 z2 H'',T (i+1) z0 z1 z2 H''->K (f (i+1) z0 z1 z2) H'')->body ((f i y0 y1 y2).set t (some x)) H K)(fin:∀x0 x1 x2 H,T xs.length x0 x1 x2 H->N (f xs.length x0 x1 x2) H):loop (fun H=>H a=some (.list xs)) (.one t) body N (xs.map .v) ρ H:=
 C3 (fun i p=>f i p.1 p.2.1 p.2.2) (fun i p=>T i p.1 p.2.1 p.2.2) (x0,x1,x2) hρ h0 (fun i p=>hg i p.1 p.2.1 p.2.2) (fun i x p H K hx h hK=>step i x p.1 p.2.1 p.2.2 H K hx h fun z0 z1 z2 H' h'=>hK (z0,z1,z2) H' h') fun p=>fin p.1 p.2.1 p.2.2
theorem Um{α0 α1 α2 α3:Type}{a:Nat}{xs:List V}{t:Nat}{body:Al->AH->(Al->AH->Prop)->Prop}{N:Al->AH->Prop}(f:Nat->α0->α1->α2->α3->Al)(T:Nat->α0->α1->α2->α3->AH->Prop)(x0:α0)(x1:α1)(x2:α2)(x3:α3)(hρ:ρ=f 0 x0 x1 x2 x3)(h0:T 0 x0 x1 x2 x3 H)(hg:∀i x0 x1 x2 x3 H,T i x0 x1 x2 x3 H->H a=some (.list xs))(step:∀i x y0 y1 y2 y3 H K,xs[i]? = some x->T i y0 y1 y2 y3 H->(∀z0 z1 z2 z3 H'',T (i+1) z0 z1 z2 z3 H''->K (f (i+1) z0 z1 z2 z3) H'')->body ((f i y0 y1 y2 y3).set t (some x)) H K)(fin:∀x0 x1 x2 x3 H,T xs.length x0 x1 x2 x3 H->N (f xs.length x0 x1 x2 x3) H):loop (fun H=>H a=some (.list xs)) (.one t) body N (xs.map .v) ρ H:=
 C3 (fun i p=>f i p.1 p.2.1 p.2.2.1 p.2.2.2) (fun i p=>T i p.1 p.2.1 p.2.2.1 p.2.2.2) (x0,x1,x2,x3) hρ h0 (fun i p=>hg i p.1 p.2.1 p.2.2.1 p.2.2.2) (fun i x p H K hx h hK=>step i x p.1 p.2.1 p.2.2.1 p.2.2.2 H K hx h fun z0 z1 z2 z3 H' h'=>hK (z0,z1,z2,z3) H' h') fun p=>fin p.1 p.2.1 p.2.2.1 p.2.2.2
theorem Un{α0 α1 α2 α3 α4:Type}{a:Nat}{xs:List V}{t:Nat}{body:Al->AH->(Al->AH->Prop)->Prop}{N:Al->AH->Prop}(f:Nat->α0->α1->α2->α3->α4->Al)(T:Nat->α0->α1->α2->α3->α4->AH->Prop)(x0:α0)(x1:α1)(x2:α2)(x3:α3)(x4:α4)(hρ:ρ=f 0 x0 x1 x2 x3 x4)(h0:T 0 x0 x1 x2 x3 x4 H)(hg:∀i x0 x1 x2 x3 x4 H,T i x0 x1 x2 x3 x4 H->H a=some (.list xs))(step:∀i x y0 y1 y2 y3 y4 H K,xs[i]? = some x->T i y0 y1 y2 y3 y4 H->(∀z0 z1 z2 z3 z4 H'',T (i+1) z0 z1 z2 z3 z4 H''->K (f (i+1) z0 z1 z2 z3 z4) H'')->body ((f i y0 y1 y2 y3 y4).set t (some x)) H K)(fin:∀x0 x1 x2 x3 x4 H,T xs.length x0 x1 x2 x3 x4 H->N (f xs.length x0 x1 x2 x3 x4) H):loop (fun H=>H a=some (.list xs)) (.one t) body N (xs.map .v) ρ H:=
 C3 (fun i p=>f i p.1 p.2.1 p.2.2.1 p.2.2.2.1 p.2.2.2.2) (fun i p=>T i p.1 p.2.1 p.2.2.1 p.2.2.2.1 p.2.2.2.2) (x0,x1,x2,x3,x4) hρ h0 (fun i p=>hg i p.1 p.2.1 p.2.2.1 p.2.2.2.1 p.2.2.2.2) (fun i x p H K hx h hK=>step i x p.1 p.2.1 p.2.2.1 p.2.2.2.1 p.2.2.2.2 H K hx h fun z0 z1 z2 z3 z4 H' h'=>hK (z0,z1,z2,z3,z4) H' h') fun p=>fin p.1 p.2.1 p.2.2.1 p.2.2.2.1 p.2.2.2.2
theorem Cf{g:AH->Prop}{elt:Al->AH->(Option V->AH->Prop)->Prop}{Q:List V->AH->Prop}(I:Nat->List V->AH->Prop):∀ {its:List It} {k:Nat} {acc:List V} {y:Option V} {H:AH},I k acc H->
 (∀i x acc H K,its[i]? = some x->I (k+i) acc H->(∀o H'',I (k+i+1) (match o with|some v=>acc ++ [v]|none=>acc) H''->K o H'')->g H/\∃v,x = .v v/\elt (some v::ρ) H K)->
 (∀acc H,I (k+its.length) acc H->g H/\Q acc H)->Bm g (.one 0) elt Q its acc (y::ρ) H:=by
 intro its
 induction its with
 | nil=>intro k acc y H h0 _ fin;exact fin acc H h0
 | cons x r ih=>
   intro k acc y H h0 step fin
   obtain⟨g1,v,rfl,h⟩:=step 0 x acc H (fun o H''=>Bm g (.one 0) elt Q r (match o with|some v=>acc ++ [v]|none=>acc) (some (match x with | .v v=>v|_=> .none)::ρ) H'') rfl h0 fun o H'' h1=>by
    refine ih (k:=k+1) h1 (fun i y acc H K hy hI hK=>?_) fun acc H hI=>?_
    ·refine step (i+1) y acc H K hy (by rwa[show k+(i+1)=k+1+i by exact Q5]) fun o H'' h=>hK o H'' ?_
     rwa[show k+1+i+1=k+(i+1)+1 by exact Q6]
    ·exact fin acc H (by rwa[List.length_cons,show k+(r.length+1)=k+1+r.length by exact Q5])
   exact⟨g1,h⟩
theorem Iq{m:Nat}{elt:Al->AH->(Option V->AH->Prop)->Prop}{P:Nat->List Int->Prop}{Q:List V->AH->Prop}{y:Option V}
 (step:∀i H' K,i<m->Ag H H'->(∀x r H'',Ag H' H''->LI H'' x r->P i r->K (some (.ref x)) H'')->elt (some (.int i)::ρ) H' K)
 (fin:∀as rows H',Ag H H'->Ea H' as rows->rows.length=m->(∀(i:Nat) r,rows[i]? = some r->P i r)->Q (as.map V.ref) H') :
 Bm (fun _=>True) (.one 0) elt Q ((List.range m).map fun(i:Nat)=> .v (.int i)) [] (y::ρ) H:=by
 refine Cf (k:=0) (fun i acc H'=>(Ka fun as rows=>Xw (acc=as.map V.ref) (Ag H H') (Ea H' as rows) (rows.length=i) (∀(i:Nat) r,rows[i]? = some r->P i r))) ⟨[],[],rfl,Ag.refl,⟨rfl,fun i x r h=>by simp at h⟩,rfl,fun i r h=>by simp at h⟩ ?_ ?_
 ·rintro i x acc H' K hx ⟨as,rows,rfl,h1,h2,h3,h4⟩ hK
  rw[List.getElem?_map]at hx
  obtain⟨j,hj,rfl⟩:=Option.map_eq_some_iff.mp hx
  obtain⟨hlt,he⟩:=List.getElem?_eq_some_iff.mp hj
  simp at hlt he
  subst he
  refine⟨trivial,_,rfl,step i H' K hlt h1 fun x r H'' e1 e2 e3=>hK _ _ ⟨as ++ [x],rows ++ [r],by simp,h1.trans e1,(h2.ext e1).snoc e2,by simp[h3],fun k r' hr=>?_⟩⟩
  cases Nat.lt_or_ge k rows.length with
  | inl q=>rw[List.getElem?_append_left q]at hr;exact h4 k r' hr
  | inr q=>
    rw[List.getElem?_append_right q]at hr
    have:k-rows.length=0:=by
     obtain⟨z,_⟩:=List.getElem?_eq_some_iff.mp hr
     simp at z;exact z
    rw[this]at hr
    simp at hr
    subst hr
    have:k=i:=(Q7 h3 q this)
    subst this
    exact e3
 ·rintro acc H' ⟨as,rows,rfl,h1,h2,h3,h4⟩
  exact⟨trivial,fin as rows H' h1 h2 (by simpa using h3) h4⟩
noncomputable def Nw(k:Nat)(r:List Int):Prop:=r.length<=k/\∀x∈r,0<=x/\x<k
noncomputable def Wf(m:Nat)(rows:List (List Int)):Prop:=rows.length=m/\∀(k:Nat) r,rows[k]? = some r->Nw k r
noncomputable def Mb(H:AH)(m:Nat)(Q:Ak):Prop:=∀a as rows H',Ag H H'->H a=none->H' a=some (.list (as.map V.ref))->Ea H' as rows->Wf m rows->Q (.ref a) H'
theorem Ir{k:Nat}{a:Int}{c:Nat}(h0:0<=a)(h:a+c<=k):Nw k ((List.range c).map fun(i:Nat)=>a+i):=by
 refine⟨by simp;exact(Int.ofNat_le.mp (Int.le_trans (Int.le_add_of_nonneg_left h0) h)),fun x hx=>?_⟩
 obtain⟨i,hi,rfl⟩:=List.mem_map.mp hx
 simp at hi
 exact⟨Int.add_nonneg h0 (Int.natCast_nonneg _),Int.lt_of_lt_of_le (Int.add_lt_add_left (Int.ofNat_lt.mpr hi) _) h⟩
theorem Yx(c:Nat):(List.range c).map (fun(i:Nat)=>V.int i)=((List.range c).map fun(i:Nat)=>(0:Int)+i).map V.int:=by simp
theorem Pu(a:Int)(c:Nat):(List.range c).map (fun(i:Nat)=>V.int (a+i))=((List.range c).map fun(i:Nat)=>a+i).map V.int:=(List.map_map).symm
noncomputable def cell(ns:List Int)(k:Nat):Int:=ns.getD k 0
theorem Cz(hG:G.fn "_law_cell_at" = some B7){ns:List Int}{k:Int}(hk:0<=k)(q:Q (.int (cell ns k.toNat)) H):Ae G (n+1) "_law_cell_at" [.script ns,.int k] H Q E:=by
 refine Af hG rfl ?_
 simp (disch:=first|decide|omega) only[Ja,Je,Jf,Jl,Jo,Jq,Ju,Jv,Jy,J0,J1,J8,Br,Jbn,List.map,D1,D2,Ah,Am,B7]
 split
 ·rename_i h
  simp only[decide_eq_true_eq]at h
  have hlt:k.toNat<ns.length:=(Q10 hk h)
  have h1:Ct k ns.length=some k.toNat:=by delta Ct;rw[if_pos hk,if_pos h]
  have h2:ns[k.toNat]? = some (cell ns k.toNat):=by
   unfold cell;rw[List.getD_eq_getElem?_getD,List.getElem?_eq_getElem hlt];rfl
  delta D4;(try dsimp only[Ap]);rw[h1];(try dsimp only[E8]);rw[h2]
  exact q
 ·rename_i h
  simp only[decide_eq_true_eq]at h
  have:cell ns k.toNat=0:=by
   unfold cell;rw[List.getD_eq_getElem?_getD,List.getElem?_eq_none (Int.ofNat_le.mp (Int.le_trans (Int.not_lt.mp h) (Int.self_le_toNat _)))];rfl
  rw[this]at q
  exact q
theorem Ol(hG:G.fn "_law_mixed" = some D5){c k:Int}(q:∀m,0<=m->m<1000003->Q (.int m) H):Ae G (n+1) "_law_mixed" [.int c,.int k] H Q E:=by
 refine Af hG rfl ?_
 simp (disch:=first|decide|omega) only[Je,Jf,Jk,Jy,J0,J1,J4,J6,List.map,D1,D2,Ah,Am,D5,Ul]
 refine⟨.inl (by decide),.inr (by decide),?_⟩
 exact q _ (Int.emod_nonneg _ (by decide)) (by exact(Int.emod_lt_of_pos _ (by decide)))
theorem Ag1(hc:G.fn "_law_cell_at" = some B7)(hG:G.fn "_law_many" = some F5){ns:List Int}(q:∀m:Nat,m<=60->Q (.int m) H):Ae G (n+2) "_law_many" [.script ns] H Q E:=by
 refine Af hG rfl ?_
 have q':∀m:Int,0<=m->m<=60->Q (.int m) H:=fun m h1 h2=>by
  have:=q m.toNat (Int.toNat_le.mpr h2)
  rwa[show ((m.toNat:Nat):Int)=m by exact Q15 h1]at this
 simp (disch:=first|decide|omega) only[Ja,Je,Jf,Jk,Jl,Jn,Ju,Jv,Jw,Jy,J0,J1,List.map,D1,D2,Ah,Am,List.replicate,Bt,Bu,Ca,true_and,F5,hc]
 refine Cz hc (by decide) ?_
 simp (disch:=first|decide|omega) only[J4,J5,J6,Ok,Br]
 split
 ·exact q' _ (Int.emod_nonneg _ (by decide)) (Int.le_of_lt_add_one (Int.emod_lt_of_pos _ (by decide)))
 ·split
  ·exact q' _ (Int.add_nonneg (by decide) (Int.emod_nonneg _ (by decide))) Q19
  ·exact q' _ (Int.emod_nonneg _ (by decide)) (Int.le_trans (Int.le_of_lt (Int.emod_lt_of_pos _ (by decide:(0:Int)<9))) (by decide))
noncomputable def A8(ns:List Int)(m k:Int):Int:=if cell ns 1%2=1 then(cell ns 1/2-k)%m else(cell ns 1/2+k)%m
theorem M6{ns:List Int}{m k:Int}(h:0<m):0<=A8 ns m k/\A8 ns m k<m:=by
 unfold A8
 split
 ·exact⟨Int.emod_nonneg _ (Int.ne_of_gt h),Int.emod_lt_of_pos _ h⟩
 ·exact⟨Int.emod_nonneg _ (Int.ne_of_gt h),Int.emod_lt_of_pos _ h⟩
theorem Uo{x y m:Int}(hm:0<m)(h:x%m=y%m)(h1:x-y<m)(h2:y-x<m):x=y:=by
 have e:=Int.emod_emod_of_dvd x (Int.dvd_refl m)
 have h3:(x-y)%m=0:=by rw[Int.sub_emod,h,Int.sub_self,Int.zero_emod]
 obtain⟨k,hk⟩:=Int.dvd_of_emod_eq_zero h3
 have:k=0:=by
  rcases Int.lt_trichotomy k 0 with q|q|q
  ·have:m*k<=m*(-1):=Int.mul_le_mul_of_nonneg_left (Int.le_of_lt_add_one q) (Q23 h1 h2)
   exact Q24 h2 hk this
  ·exact q
  ·have:m*1<=m*k:=Int.mul_le_mul_of_nonneg_left (q) (Q23 h1 h2)
   exact Q26 h1 hk this
 subst this
 exact Int.eq_of_sub_eq_zero (hk.trans (Int.mul_zero _))
theorem Pv{ns:List Int}{m j k:Int}(hm:0<m)(hj:0<=j/\j<m)(hk:0<=k/\k<m)(h:A8 ns m j=A8 ns m k):j=k:=by
 unfold A8 at h
 split at h
 ·have:=Uo hm h (Q28 hj.1 hk.2) (Q29 hj.2 hk.1);exact Q30 this
 ·have:=Uo hm h (Q31 hj.2 hk.1) (Q31 hk.2 hj.1);exact Int.add_left_cancel this
theorem Wc(hc:G.fn "_law_cell_at" = some B7)(hG:G.fn "_law_name" = some Kx){ns:List Int}{m k:Int}(hm:0<m)(hm':m<=60)(q:Q (.int (A8 ns m k)) H):Ae G (n+2) "_law_name" [.script ns,.int m,.int k] H Q E:=by
 refine Af hG rfl ?_
 simp (disch:=first|decide|omega) only[Ja,Je,Jf,Jk,Jl,Jn,Ju,Jv,Jw,Jy,J0,J1,List.map,D1,D2,Ah,Am,List.replicate,Bt,Bu,Ca,true_and,Kx,hc]
 refine Cz hc (by decide) ?_
 simp (disch:=first|decide|omega) only[J4,J5,J6,J7,Ok,Br]
 unfold A8 at q
 split
 ·rename_i h
  simp only[decide_eq_true_eq]at h
  have h':cell ns 1%2=1:=h
  rw[if_pos h']at q
  exact q
 ·rename_i h
  simp only[decide_eq_true_eq]at h
  have h':¬cell ns 1%2=1:=h
  rw[if_neg h']at q
  exact q
theorem Ab1(hG:G.fn "_law_banded" = some Gx){m:Nat}{c:Int}(hm:m<=60)(q:Mb H m Q):Ae G (n+1) "_law_banded" [.int m,.int c] H Q E:=by
 refine Af hG rfl ?_
 have core:∀z:Int,0<=z->Aq G (Ae G n) (.comp 1 (.range [(.var 0)]) Ec) [some (.int m),some (.int c),some (.int z)] H Q E:=by
  intro z hz
  refine grK ?_
  simp (disch:=first|decide|omega) only[Jf,Ju,Jv,J2,Qk,D1,D2,Ah,List.replicate]
  refine⟨by simp[Bs];exact Zq hm,Iq (P:=Nw) (fun i H' K hi e1 hK=>?_) fun as rows H' e1 h1 h2 h3=>?_⟩
  ·simp (disch:=first|decide|omega) only[Je,Jf,Jk,Jo,Ju,Jv,J7,Jbl,Jbr,Ah,Am,Ec]
   intro a ha
   rw[Pu]
   exact hK a _ _ (Ag.upd ha) Ad (Ir (Int.le_max_left _ _) (Q36 hz))
  ·intro a ha
   exact q a as rows _ (e1.trans (Ag.upd ha)) (e1.isNone ha) Ad (h1.ext (Ag.upd ha)) ⟨h2,h3⟩
 simp (disch:=first|decide|omega) only[Ja,Je,Jf,Jk,Jl,Jw,Jy,J0,J1,J4,Yv,Br,List.map,D1,D2,Ah,Am,List.replicate,Bt,Bu,Gx]
 split
 ·exact core _ (Int.emod_nonneg _ (by decide))
 ·exact core _ (Int.emod_nonneg _ (by decide))
set_option linter.all false
variable {G:A5} {n:Nat} {H H':AH} {Q:Ak} {E:EP} {C:CS} {ρ:Al}
theorem Mb.mono{m:Nat}(q:Mb H m Q)(e:Ag H H'):Mb H' m Q:=fun a as rows H'' e1 h1 h2 h3 h4=>q a as rows H'' (e.trans e1) (e.isNone h1) h2 h3 h4
theorem Ab2(hG:G.fn "_law_hubbed" = some Gz){m:Nat}{c:Int}(hm:m<=60)(q:Mb H m Q):Ae G (n+1) "_law_hubbed" [.int m,.int c] H Q E:=by
 refine Af hG rfl ?_
 have core:∀(z:Int) (H':AH),0<=z->z<=1000->Ag H H'->Aq G (Ae G n) (.comp 1 (.range [(.var 0)]) Cg) [some (.int m),some (.int c),some (.int z)] H' Q E:=by
  intro z H' hz hz' e
  refine grK ?_
  simp (disch:=first|decide|omega) only[Jf,Ju,Jv,J2,Qk,D1,D2,Ah,List.replicate]
  refine⟨by simp[Bs];exact Zq hm,Iq (P:=Nw) (fun i H' K hi e1 hK=>?_) fun as rows H' e1 h1 h2 h3=>?_⟩
  ·simp (disch:=first|decide|omega) only[Jf,Jo,Ju,Jv,Jbm,Jbq,Ah,Am,Cg]
   intro a ha
   rw[Yx]
   exact hK a _ _ (Ag.upd ha) Ad (Ir (by exact(by decide)) (by exact(Int.le_trans (Int.le_of_eq (Int.zero_add _)) (Int.ofNat_le.mpr (Int.toNat_le.mpr (Int.min_le_left _ _))))))
  ·intro a ha
   exact q.mono e a as rows _ (e1.trans (Ag.upd ha)) (e1.isNone ha) Ad (h1.ext (Ag.upd ha)) ⟨h2,h3⟩
 simp (disch:=first|decide|omega) only[Ja,Je,Jf,Jk,Jl,Jq,Js,Ju,Jv,Jw,Jy,J0,J1,J4,J5,Yv,Br,List.map,D1,D2,Ah,Am,List.replicate,Bt,Bu,Gz]
 intro a ha
 have key:∀z:Int,0<=z->z<=1000->(if decide (30<(m:Int))=true then Aq G (Ae G n) (.comp 1 (.range [(.var 0)]) Cg) [some (.int m),some (.int c),some (.int (z%8))] (upd H a (.list [.int 1,.int 2,.int 3,.int (c/4%30)])) Q E
  else Aq G (Ae G n) (.comp 1 (.range [(.var 0)]) Cg) [some (.int m),some (.int c),some (.int z)] (upd H a (.list [.int 1,.int 2,.int 3,.int (c/4%30)])) Q E):=by
  intro z h1 h2
  split
  ·exact core _ _ (Int.emod_nonneg _ (by decide)) (Int.le_trans (Int.le_of_lt (Int.emod_lt_of_pos _ (by decide:(0:Int)<8))) (by decide)) (Ag.upd ha)
  ·exact core _ _ h1 h2 (Ag.upd ha)
 have h4:c%4=0\/c%4=1\/c%4=2\/c%4=3:=Q45
 rcases h4 with h|h|h|h<;>rw[h]
 ·refine Eo (x:= .int 1) Ad (by decide) rfl ?_;simp (disch:=first|decide|omega) only[J4];exact key _ (by exact(by decide)) (by exact(by decide))
 ·refine Eo (x:= .int 2) Ad (by decide) rfl ?_;simp (disch:=first|decide|omega) only[J4];exact key _ (by exact(by decide)) (by exact(by decide))
 ·refine Eo (x:= .int 3) Ad (by decide) rfl ?_;simp (disch:=first|decide|omega) only[J4];exact key _ (by exact(by decide)) (by exact(by decide))
 ·refine Eo (x:= .int (c/4%30)) Ad (by decide) rfl ?_;simp (disch:=first|decide|omega) only[J4];exact key _ (Int.emod_nonneg _ (by decide)) (Int.le_trans (Int.le_of_lt (Int.emod_lt_of_pos _ (by decide:(0:Int)<30))) (by decide))
structure Mc(H H':AH)(a:Nat)(as:List Nat)(rows:List (List Int)):Prop where
 ext:Ag H H'
 new:H a=none
 at_:H' a=some (.list (as.map V.ref))
 lists:Ea H' as rows
 ne:∀x∈as,x≠a
 ok:∀(k:Nat) r,rows[k]? = some r->Nw k r
theorem Mc.start{a:Nat}(h:H a=none):Mc H (upd H a (.list [])) a [] []:=⟨Ag.upd h,h,Ad,⟨rfl,fun i x r q=>by simp at q⟩,fun x hx=>by simp at hx,fun k r q=>by simp at q⟩
theorem Ea.upd{as:List Nat}{rows:List (List Int)}{a:Nat}{o:O}(h:Ea H as rows)(hn:∀x∈as,x≠a):Ea (Mine.Internal.upd H a o) as rows:=⟨h.1,fun i x r h1 h2=>by
 unfold LI
 rw[upd_ne (hn x (List.mem_of_getElem? h1))];exact h.2 i x r h1 h2⟩
theorem Mc.snoc{H₁:AH}{a x:Nat}{as:List Nat}{rows:List (List Int)}{r:List Int}(b:Mc H H' a as rows)(hx:H' x=none)(e:∀y o,y≠x->H' y=some o->H₁ y=some o)(h:LI H₁ x r)(hr:Nw rows.length r) :
 Mc H (upd H₁ a (.list ((as.map V.ref) ++ [.ref x]))) a (as ++ [x]) (rows ++ [r]):=by
 have hxa:x≠a:=fun q=>by rw[q,b.at_]at hx;cases hx
 have hxs:∀y∈as,y≠x:=fun y hy q=>by
  obtain⟨i,hi⟩:=List.mem_iff_getElem?.mp hy
  have hlt:=(List.getElem?_eq_some_iff.mp hi).1
  have:LI H' y (rows[i]'(by rw[<-b.lists.1];exact hlt)):=b.lists.2 i y _ hi (List.getElem?_eq_getElem _)
  rw[q]at this
  unfold LI at this
  rw[hx]at this;cases this
 have hHx:H x=none:=b.ext.isNone hx
 have e1:Ag H H₁:=fun y o q=>e y o (fun z=>by rw[z,hHx]at q;cases q) (b.ext y o q)
 have hr1:Ea H₁ as rows:=⟨b.lists.1,fun i y r' h1 h2=>e y _ (hxs y (List.mem_of_getElem? h1)) (b.lists.2 i y r' h1 h2)⟩
 refine⟨e1.upd' b.new,b.new,by rw[Ad];simp,?_,?_,?_⟩
 ·refine(hr1.snoc h).upd fun y hy=>?_
  rcases List.mem_append.mp hy with hy|hy
  ·exact b.ne y hy
  ·simp at hy;rw[hy];exact hxa
 ·intro y hy
  rcases List.mem_append.mp hy with hy|hy
  ·exact b.ne y hy
  ·simp at hy;rw[hy];exact hxa
 ·intro k r' hk
  cases Nat.lt_or_ge k rows.length with
  | inl q=>rw[List.getElem?_append_left q]at hk;exact b.ok k r' hk
  | inr q=>
    rw[List.getElem?_append_right q]at hk
    have:k-rows.length=0:=by
     obtain⟨z,_⟩:=List.getElem?_eq_some_iff.mp hk
     simp at z;exact z
    rw[this]at hk
    simp at hk
    subst hk
    have:k=rows.length:=(Nat.le_antisymm (Nat.sub_eq_zero_iff_le.mp this) q)
    rw[this];exact hr
theorem Rp(hc:G.fn "_law_cell_at" = some B7)(hx:G.fn "_law_mixed" = some D5)(hG:G.fn "_law_earlier" = some F4){ns:List Int}{m:Nat}{ring:Int}(hm:m<=60)(hr:ring=0\/4<=ring)(q:Mb H m Q) :
 Ae G (n+2) "_law_earlier" [.script ns,.int m,.int ring] H Q E:=by
 refine Af hG rfl ?_
 simp (disch:=first|decide|omega) only[Jf,Js,Ju,Jw,Jy,J0,J1,List.map,D1,D2,List.replicate,Bt,Bu,F4]
 intro a ha
 refine frK ?_
 simp (disch:=first|decide|omega) only[Jf,Ju,Jv,Qk,Ah,Am]
 refine Qp (fun i r4 r5 r6 r7 r8 r9 as rows=>[some (.script ns),some (.int m),some (.int ring),some (.ref a),r4,r5,r6,r7,r8,r9]) (fun i r4 r5 r6 r7 r8 r9 as rows H'=>(Mc H H' a as rows)/\(rows.length=i)) none none none none none none [] [] rfl ⟨Mc.start ha,rfl⟩ ?_ ?_
 ·rintro i r4 r5 r6 r7 r8 r9 as rows H' K hi ⟨b,hlen⟩ hK
  have hi':i<m:=hi
  have fin:∀(c:Int) (x:Nat) (r:List Int) (H₁:AH) (r7 r8 r9:Option V),H' x=none->(∀y o,y≠x->H' y=some o->H₁ y=some o)->LI H₁ x r->Nw i r->
   A1 G (Ae G (n+1)) [.expr (.lm .append (.var 3) [(.var 6)])] [some (.script ns),some (.int m),some (.int ring),some (.ref a),some (.int i),some (.int c),some (.ref x),r7,r8,r9] H₁ K Q E:=by
   intro c x r H₁ r7 r8 r9 h1 h2 h3 h4
   have hxa:x≠a:=fun q=>by rw[q,b.at_]at h1;cases h1
   have ha1:H₁ a=some (.list (as.map V.ref)):=h2 a _ (Ne.symm hxa) b.at_
   have hal:(as.map V.ref).length<1048576:=by rw[List.length_map,b.lists.1];exact Q55 hm hlen hi'
   simp (disch:=first|decide|omega) only[Jf,Ju,Jv,Jx,J0,J1,Ah,Am,true_and,Bx,Bp ha1,Cc ha1 hal]
   exact hK _ _ _ _ _ _ _ _ _ ⟨b.snoc h1 h2 h3 (by rw[hlen];exact h4),by simp[hlen]⟩
  simp (disch:=first|decide|omega) only[Je,Jf,Jk,Jn,Js,Ju,Jv,Jw,Jx,J0,J1,J6,Ah,Am,Bt,Bu,Ca,true_and,Gf,hc,hx]
  refine Cz hc (Int.natCast_nonneg _) ?_
  refine Ol hx fun c c0 c1=>?_
  intro x hx0
  have e0:∀y o,y≠x->H' y=some o->upd H' x (.list []) y=some o:=fun y o h1 h2=>by rw[upd_ne h1];exact h2
  refine Bg (decide ((0:Int)<i)&&decide ((i:Int)<ring)) (fun Q' h'=>?_) ?_
  ·simp (disch:=first|decide|omega) only[Je,Jf,Jm,J8,Br,Ah,Am];split<;>simp_all
  ·split
   ·rename_i hh
    simp only[Bool.and_eq_true,decide_eq_true_eq]at hh
    simp (disch:=first|decide|omega) only[Je,Jf,Jk,Js,Ju,Jv,Jw,J0,J1,J7,Ah,Am,Bt,Bu]
    intro x1 hx1
    refine Bg (decide ((i:Int)=ring-1)) (fun Q' h'=>?_) ?_
    ·simp (disch:=first|decide|omega) only[Je,Jf,Jk,Jl,J7,Ok,Ah,Am];exact h'
    have hx1':H' x1=none:=(Ag.upd hx0).isNone hx1
    have e1:Ag H' (upd H' x (.list [])):=Ag.upd hx0
    split
    ·rename_i h3
     simp only[decide_eq_true_eq]at h3
     simp (disch:=first|decide|omega) only[Je,Jf,Jk,Js,Ju,Jv,Jw,J0,J1,J7,Ah,Am,Bt,Bu]
     intro x2 hx2
     have hx2':H' x2=none:=(Ag.upd hx0).isNone ((Ag.upd hx1).isNone hx2)
     refine fin c x2 [0,(i:Int)-1] _ _ _ _ hx2' (fun y o h1 h2=>?_) Ad ⟨by simp;exact Q57 hr h3,by simp;exact(⟨Int.natCast_pos.mp hh.1,hh.1,Int.sub_lt_self _ (by decide)⟩)⟩
     exact(Ag.upd hx2) y o ((Ag.upd hx1) y o (e1 y o h2))
    ·simp (disch:=first|decide|omega) only[J0]
     refine fin c x1 [(i:Int)-1] _ _ _ _ hx1' (fun y o h1 h2=>?_) Ad ⟨by simp;exact(Int.ofNat_lt.mp hh.1),by simp;exact(⟨hh.1,Int.sub_lt_self _ (by decide)⟩)⟩
     exact(Ag.upd hx1) y o (e1 y o h2)
   ·rename_i hh
    simp (disch:=first|decide|omega) only[J0,J1]
    refine Bg (decide ((0:Int)<i) && !decide (c%9=8)) (fun Q' h'=>?_) ?_
    ·simp (disch:=first|decide|omega) only[Je,Jf,Ji,Jk,Jl,J4,Yv,Jbd,Br,Ah,Am];split<;>simp_all
    split
    ·rename_i h2
     simp only[Bool.and_eq_true,decide_eq_true_eq]at h2
     have hi0:0<(i:Int):=h2.1
     have hmate:0<=c/9%(i:Int)/\c/9%(i:Int)<i:=⟨Int.emod_nonneg _ (Int.ne_of_gt hi0),Int.emod_lt_of_pos _ hi0⟩
     generalize hmt:c/9%(i:Int)=mate at hmate
     simp (disch:=first|decide|omega) only[Je,Jf,Jk,Js,Ju,Jv,Jw,J0,J1,J4,J5,Ah,Am,Bt,Bu,hmt]
     intro x1 hx1
     have hx1':H' x1=none:=(Ag.upd hx0).isNone hx1
     have e1:Ag H' (upd H' x (.list [])):=Ag.upd hx0
     have e2:Ag H' (upd (upd H' x (.list [])) x1 (.list [.int mate])):=e1.trans (Ag.upd hx1)
     have hml:mate.toNat<rows.length:=(Q62 hlen hmate.1 hmate.2)
     have hml':mate.toNat<as.length:=by rw[b.lists.1];exact hml
     have hxm:as[mate.toNat]? = some (as[mate.toNat]):=List.getElem?_eq_getElem hml'
     have hrm:rows[mate.toNat]? = some (rows[mate.toNat]):=List.getElem?_eq_getElem hml
     generalize as[mate.toNat]=xm at hxm
     generalize rows[mate.toNat]=rm at hrm
     have hrok:=b.ok _ _ hrm
     have hLm:LI H' xm rm:=b.lists.2 _ _ _ hxm hrm
     have hsub:(as.map V.ref)[mate.toNat]? = some (.ref xm):=by rw[List.getElem?_map,hxm];rfl
     refine Qz ?_
     simp (disch:=first|decide|omega) only[Jf,Jq,Ah,Am]
     refine Eo (e2 _ _ b.at_) hmate.1 hsub (Az (e2 _ _ hLm) ?_)
     have hxm1:xm≠x1:=fun q=>by rw[q]at hLm;unfold LI at hLm;rw[hx1']at hLm;cases hLm
     refine Ev (fun j ρ H₁=>(U8 fun l9 lf r=>Xw (ρ = [some (.script ns),some (.int m),some (.int ring),some (.ref a),some (.int i),some (.int c),some (.ref x1),some (.int mate),some (.int lf),l9]) ((∀y o,y≠x1->H' y=some o->H₁ y=some o)) (LI H₁ x1 r) (r.length<=1+j) (∀z∈r,0<=z/\z<(i:Int)))) ?_ ?_ ?_ ?_
     ·exact⟨_,_,[mate],rfl,fun y o _ h=>e2 y o h,Ad,Nat.le_refl _,by simpa using hmate⟩
     ·rintro j ρ H₁ hP7
      refine Aa fun nY=>?_
      obtain⟨l9,lf,r,rfl,h1,h2,h3,h4⟩:=hP7
      refine nY ?_;clear nY
      exact h1 _ _ hxm1 hLm
     ·rintro j v ρ H₁ K' hv hP8 hK'
      refine Aa fun nY=>?_
      obtain⟨l9,lf,r,rfl,h1,h2,h3,h4⟩:=hP8
      rw[List.getElem?_map]at hv
      obtain⟨z,hz,rfl⟩:=Option.map_eq_some_iff.mp hv
      have hzr:=hrok.2 z (List.mem_of_getElem? hz)
      have hjl:=(List.getElem?_eq_some_iff.mp hz).1
      refine nY ?_;clear nY
      have hlen2:rm.length<=60:=by have:=hrok.1;exact Nat.le_trans this (Nat.le_trans (Int.toNat_le.mpr (Int.le_of_lt hmate.2)) (Nat.le_trans (Nat.le_of_lt hi') hm))
      simp (disch:=first|decide|omega) only[Je,Jf,Jk,Jw,J0,J1,Bt,Bu,Ge]
      have step2:∀r',r'.length<=1+(j+1)->(∀z∈r',0<=z/\z<(i:Int))->∀H₂,(∀y o,y≠x1->H' y=some o->H₂ y=some o)->LI H₂ x1 r'->
       K' [some (.script ns),some (.int m),some (.int ring),some (.ref a),some (.int i),some (.int c),some (.ref x1),some (.int mate),some (.int (lf/3)),some (.int z)] H₂:=
       fun r' a1 a2 H₂ a3 a4=>hK' _ _ ⟨_,_,r',rfl,a3,a4,a1,a2⟩
      have hlen:(r.map V.int).length<1048576:=by rw[List.length_map];exact Nat.lt_of_le_of_lt (Nat.le_trans h3 (Nat.add_le_add_left (Nat.le_trans (Nat.le_of_lt hjl) hlen2) 1)) (by decide)
      have key:∃cc:Bool,∀Q':Ak,Q' (.bool cc) H₁->Aq G (Ae G (n+1)) (.and (.cmp .Gt (.bin .Mod (.var 8) (.cint 3)) (.cint 0)) (.or (.cmp .GtE (.var 7) (.var 2)) (.cmp .Lt (.bi .len [(.var 6)]) (.cint 2)))) [some (.script ns),some (.int m),some (.int ring),some (.ref a),some (.int i),some (.int c),some (.ref x1),some (.int mate),some (.int lf),some (.int z)] H₁ Q' E:=by
       refine⟨decide (0<lf%3)&&(decide (ring<=mate)||decide (((r.map V.int).length:Int)<2)),fun Q' h'=>?_⟩
       simp (disch:=first|decide|omega) only[Je,Jf,Ji,Jj,Jk,Jl,Jo,Ju,Jv,J4,J8,Yv,Jbb,Br,Ah,Am,B9 h2]
       split
       ·split<;>simp_all
       ·simp_all
      obtain⟨cc,hcc⟩:=key
      refine Bg cc hcc ?_
      split
      ·simp (disch:=first|decide|omega) only[Jf,Ju,Jv,Jx,J0,J1,J5,Ah,Am,Bt,Bu,true_and,Bx,Bp h2,Cc h2 hlen]
       refine step2 (r ++ [z]) (by simp;exact(Nat.succ_le_succ h3)) (fun w hw=>?_) _ (fun y o a1 a2=>by rw[upd_ne a1];exact h1 y o a1 a2) (by unfold LI;rw[Ad];simp)
       refine Aa fun nY=>?_
       rcases List.mem_append.mp hw with hw|hw
       ·refine nY ?_;clear nY
        exact h4 w hw
       ·refine nY ?_;clear nY
        simp at hw;subst hw;exact⟨hzr.1,Int.lt_of_lt_of_le hzr.2 (Int.ofNat_le.mpr (Int.toNat_le.mpr (Int.le_of_lt hmate.2)))⟩
      ·simp (disch:=first|decide|omega) only[J0,J5,Ah,Am,Bt,Bu]
       exact step2 r (Nat.le_succ_of_le h3) h4 _ h1 h2
     ·rintro ρ H₁ hP9
      refine Aa fun nY=>?_
      obtain⟨l9,lf,r,rfl,h1,h2,h3,h4⟩:=hP9
      refine nY ?_;clear nY
      refine fin c x1 r H₁ _ _ _ hx1' h1 h2 ⟨?_,h4⟩
      rw[List.length_map]at h3
      have:=hrok.1
      exact Nat.le_trans h3 (Nat.le_trans (Nat.add_le_add_left this 1) (Nat.le_trans (Nat.le_of_eq (Nat.add_comm 1 _)) ((Int.toNat_lt hmate.1).mpr hmate.2)))
    ·simp (disch:=first|decide|omega) only[J0]
     exact fin c x [] _ _ _ _ hx0 e0 Ad ⟨Nat.zero_le _,fun _ h=>absurd h List.not_mem_nil⟩
 ·rintro r4 r5 r6 r7 r8 r9 as rows H' ⟨b,hlen⟩
  simp (disch:=first|decide|omega) only[Ah,Am]
  exact q a as rows H' b.ext b.new b.at_ b.lists ⟨hlen,b.ok⟩
set_option linter.all false
variable {G:A5} {n:Nat} {H H':AH} {Q:Ak} {E:EP} {C:CS} {ρ:Al}
theorem E2{g:AH->Prop}{elt:Al->AH->(Option V->AH->Prop)->Prop}{Q:List V->AH->Prop}{xs:List V}{f:V->Option V}{y:Option V}(hg:g H)
 (step:∀x∈xs,∀K:Option V->AH->Prop,K (f x) H->elt (some x::ρ) H K) (fin:Q (xs.filterMap f) H):Bm g (.one 0) elt Q (xs.map .v) [] (y::ρ) H:=by
 refine Cf (k:=0) (fun i acc H'=>H'=H/\acc=(xs.take i).filterMap f) ⟨rfl,rfl⟩ ?_ ?_
 ·rintro i x acc H' K hx ⟨rfl,rfl⟩ hK
  rw[List.getElem?_map]at hx
  obtain⟨j,hj,rfl⟩:=Option.map_eq_some_iff.mp hx
  refine⟨hg,_,rfl,step j (List.mem_of_getElem? hj) K (hK _ _ ⟨rfl,?_⟩)⟩
  have hlt:=(List.getElem?_eq_some_iff.mp hj).1
  rw[Nat.zero_add,List.take_add_one,hj]
  simp only[Option.toList_some,List.filterMap_append]
  rw[List.filterMap_cons]
  cases hfj:f j<;>simp
 ·rintro acc H' ⟨rfl,rfl⟩
  refine⟨hg,?_⟩
  rw[Nat.zero_add,List.take_of_length_le (Nat.le_of_eq (List.length_map _).symm)]
  exact fin
theorem Up(m:Nat):((List.range m).map fun(i:Nat)=>It.v (.int i))=((List.range m).map fun(i:Nat)=>V.int i).map It.v:=(List.map_map).symm
theorem Su(m:Nat)(p:Nat->Bool):((List.range m).map fun(i:Nat)=>V.int i).filterMap (fun v=>match v with | .int i=>if p i.toNat then some (.int i)else none|_=>none)=(((List.range m).filter p).map fun(i:Nat)=>(i:Int)).map V.int:=by
 rw[List.filterMap_map]
 induction m with
 | zero=>rfl
 | succ m ih=>
   rw[List.range_succ,List.filterMap_append,ih,List.filter_append]
   simp only[List.map_append,List.filterMap_cons,Function.comp,List.filterMap_nil,Int.toNat_natCast,List.filter_cons,List.filter_nil]
   by_cases hp:p m=true<;>simp[hp]
noncomputable def Ob(l:List Nat):List Int:=l.map fun(i:Nat)=>(i:Int)
theorem Qq{m:Nat}{p:Nat->Bool}{elt:Al->AH->(Option V->AH->Prop)->Prop}{Q:List V->AH->Prop}{y:Option V}
 (step:∀j,j<m->∀K:Option V->AH->Prop,K (if p j then some (.int j)else none) H->elt (some (.int j)::ρ) H K) (fin:Q ((Ob ((List.range m).filter p)).map V.int) H) :
 Bm (fun _=>True) (.one 0) elt Q ((List.range m).map fun(i:Nat)=> .v (.int i)) [] (y::ρ) H:=by
 rw[Up]
 refine E2 (f:=fun v=>match v with | .int i=>if p i.toNat then some (.int i)else none|_=>none) trivial (fun v hv K hK=>?_) ?_
 ·obtain⟨j,hj,rfl⟩:=List.mem_map.mp hv
  exact step j (List.mem_range.mp hj) K hK
 ·rw[Su];exact fin
theorem We(hc:G.fn "_law_cell_at" = some B7)(hx:G.fn "_law_mixed" = some D5)(hG:G.fn "_law_any_rows" = some Ex){ns:List Int}{m:Nat}(hm:m<=60)(q:Mb H m Q) :
 Ae G (n+2) "_law_any_rows" [.script ns,.int m] H Q E:=by
 refine Af hG rfl ?_
 simp (disch:=first|decide|omega) only[Je,Jf,Jk,Jn,Js,Ju,Jv,Jw,Jy,J0,J1,List.map,D1,D2,Ah,List.replicate,Bt,Bu,Ca,true_and,Ex,hc]
 refine Cz hc (by decide) ?_
 try simp (disch:=first|decide|omega) only[J4,J5,J6]
 generalize hsh:1+cell ns (2:Int).toNat/8%4=share
 have core:∀parts:Int,0<parts->parts<=40->A1 G (Ae G (n+1)) [.assign 4 (.list []),.for (.one 5) (.range [(.var 1)]) De,.ret (.var 4)] [some (.script ns),some (.int m),some (.int share),some (.int parts),none,none,none] H (fun _ H=>Q .none H) Q E:=by
  intro parts hp0 hp1
  simp (disch:=first|decide|omega) only[Jf,Js,Ju,Jw,Jy,J0,J1,Bt,Bu]
  intro a ha
  refine frK ?_
  simp (disch:=first|decide|omega) only[Jf,Ju,Jv,Qk,Ah,Am]
  refine Qn (fun i r5 r6 as rows=>[some (.script ns),some (.int m),some (.int share),some (.int parts),some (.ref a),r5,r6]) (fun i r5 r6 as rows H'=>(Mc H H' a as rows)/\(rows.length=i)) none none [] [] rfl ⟨Mc.start ha,rfl⟩ ?_ ?_
  ·rintro i r5 r6 as rows H' K hi ⟨b,hlen⟩ hK
   have hi':i<m:=hi
   simp (disch:=first|decide|omega) only[Jw,Jx,J0,J1,Bt,Bu,De]
   refine grK ?_
   simp (disch:=first|decide|omega) only[Jf,Ju,Jv,J2,Qk,D1,D2,Ah,Am,List.replicate]
   refine⟨by simp[Bs];exact(Nat.le_of_lt (Nat.lt_of_lt_of_le hi' (Nat.le_trans hm (by decide)))),?_⟩
   refine Cf (k:=0) (fun j acc H₁=>H₁=H'/\∃l:List Int,acc=l.map V.int/\l.length=j) ⟨rfl,[],rfl,rfl⟩ ?_ ?_
   ·rintro j x acc H₁ K' hx' hP10 hK'
    refine Aa fun nY=>?_
    obtain⟨rfl,l,rfl,hl⟩:=hP10
    rw[List.getElem?_map]at hx'
    obtain⟨j',hj,rfl⟩:=Option.map_eq_some_iff.mp hx'
    obtain⟨hlt,he⟩:=List.getElem?_eq_some_iff.mp hj
    simp at hlt he
    subst he
    refine nY ?_;clear nY
    refine⟨trivial,_,rfl,?_⟩
    simp (disch:=first|decide|omega) only[Je,Jf,Jk,Jn,Ju,Jv,J4,J6,Ah,Am,Ca,true_and,Fg,Ul,hc,hx]
    refine⟨.inl (by decide),.inl (by decide),?_⟩
    refine Cz hc (Int.natCast_nonneg _) ?_
    refine⟨.inl (by decide),?_⟩
    refine Ol hx fun c c0 c1=>?_
    exact hK' _ _ ⟨rfl,l ++ [c],by simp,by simp[hl]⟩
   ·rintro acc H₁ hP11
    refine Aa fun nY=>?_
    obtain⟨rfl,cells,rfl,hl⟩:=hP11
    refine nY ?_;clear nY
    refine⟨trivial,fun x hx0=>?_⟩
    have hcl:cells.length=i:=by simpa using hl
    have hal:(as.map V.ref).length<1048576:=by rw[List.length_map,b.lists.1];exact Q55 hm hlen hi'
    have ha1:upd H₁ x (.list (cells.map V.int)) a=some (.list (as.map V.ref)):=(Ag.upd hx0) _ _ b.at_
    simp (disch:=first|decide|omega) only[Jf,Ju,Jv,Ah,Am,true_and,Bx,Bp ha1]
    refine hrK ?_
    simp (disch:=first|decide|omega) only[Jf,Ju,Jv,J2,Qk,D1,D2,Ah,Am,List.replicate]
    refine⟨by simp[Bs];exact(Nat.le_of_lt (Nat.lt_of_lt_of_le hi' (Nat.le_trans hm (by decide)))),?_⟩
    refine Qq (p:=fun k=>decide (cells.getD k 0%parts<share)) (fun j hj K' hK'=>?_) ?_
    ·have hj':j<cells.length:=(Nat.lt_of_lt_of_eq hj hcl.symm)
     have hsub:(cells.map V.int)[(j:Int).toNat]? = some (.int (cells.getD j 0)):=by
      rw[Int.toNat_natCast,List.getElem?_map,List.getElem?_eq_getElem hj',List.getD_eq_getElem?_getD,List.getElem?_eq_getElem hj'];rfl
     simp (disch:=first|decide|omega) only[Jf,Jk,Jl,Jq,J4,J8,Br,Ah,Am,Fh,Bj (Ad) (Int.natCast_nonneg j) hsub]
     split
     ·rename_i h;rw[if_pos h]at hK';exact hK'
     ·rename_i h;rw[if_neg h]at hK';exact hK'
    ·generalize hR:(List.range ((i:Int)).toNat).filter (fun k=>decide (cells.getD k 0%parts<share))=R
     intro x1 hx1
     have hx1':H₁ x1=none:=(Ag.upd hx0).isNone hx1
     have ha2:=(Ag.upd (o:= .list ((Ob R).map V.int)) hx1) _ _ ha1
     simp (disch:=first|decide|omega) only[Cc ha2 hal]
     refine hK _ _ _ _ _ ⟨b.snoc hx1' (fun y o _ h=>(Ag.upd hx1) y o ((Ag.upd hx0) y o h)) Ad ⟨?_,?_⟩,by simp[hlen]⟩
     ·unfold Ob
      rw[List.length_map,<-hR]
      have:=List.length_filter_le (fun k=>decide (cells.getD k 0%parts<share)) (List.range ((i:Int)).toNat)
      rw[List.length_range]at this
      exact hlen▸this
     ·intro z hz
      obtain⟨k,hk,rfl⟩:=List.mem_map.mp hz
      rw[<-hR]at hk
      have:=List.mem_range.mp (List.mem_filter.mp hk).1
      exact⟨Int.natCast_nonneg _,Int.ofNat_lt.mpr (Nat.lt_of_lt_of_eq this hlen.symm)⟩
  ·rintro r5 r6 as rows H' ⟨b,hlen⟩
   simp (disch:=first|decide|omega) only[Ah,Am]
   exact q a as rows H' b.ext b.new b.at_ b.lists ⟨hlen,b.ok⟩
 refine Bg (decide ((20:Int)<m)) (fun Q' h'=>?_) ?_
 ·simp (disch:=first|decide|omega) only[Je,Jf,Jl,Yv,Ah,Am];exact h'
 ·split
  ·refine Ab (C6 (Af8 (Dd ?_)));exact core 40 (by decide) (by decide)
  ·refine Dd ?_;exact core 5 (by decide) (by decide)
set_option linter.all false
variable {G:A5} {n:Nat} {H H':AH} {Q:Ak} {E:EP} {C:CS} {ρ:Al}
theorem Ab3{a:Nat}{xs:List V}{k:Int}{v:V}{N:AH->Prop}(h:H a=some (.list xs))(h0:0<=k)(hk:k<xs.length):setItem (.ref a) (.int k) v H N=N (upd H a (.list (xs.set k.toNat v))):=by
 have:Ct k xs.length=some k.toNat:=by delta Ct;rw[if_pos h0,if_pos hk]
 delta setItem;(try dsimp only[Ax,Ap]);rw[h];(try dsimp only);rw[this];(try dsimp only[E8])
theorem Aeg{a:Nat}{xs:List V}{k:Int}{v:V}{N:AH->Prop}(h:H a=some (.list xs))(h0:0<=k)(hk:k<xs.length)(kk:N (upd H a (.list (xs.set k.toNat v)))):setItem (.ref a) (.int k) v H N:=Eq.mpr (Ab3 h h0 hk) kk
theorem Ab4(hG:G.fn "_law_ringed" = some Gy){m:Nat}{c:Int}(hm:m<=60)(q:Mb H m Q):Ae G (n+1) "_law_ringed" [.int m,.int c] H Q E:=by
 refine Af hG rfl ?_
 simp (disch:=first|decide|omega) only[Je,Jf,Jk,Jw,Jy,J0,J1,J4,J5,J6,List.map,D1,D2,Ah,Am,List.replicate,Bt,Bu,Gy]
 generalize hsz:4+c%5=size
 generalize hst:size+c/5%4=step
 have hsize:4<=size:=(Int.le_trans (Int.le_add_of_nonneg_right (Int.emod_nonneg _ (by decide))) (Int.le_of_eq hsz))
 have hstep:size<=step/\step<100:=(Q75 hsz hst)
 refine grK ?_
 simp (disch:=first|decide|omega) only[Jf,Ju,Jv,J2,Qk,D1,D2,Ah,List.replicate]
 refine⟨by simp[Bs];exact Zq hm,Iq (P:=Nw) (fun i H' K hi e1 hK=>?_) fun as rows H' e1 h1 h2 h3=>?_⟩
 ·simp (disch:=first|decide|omega) only[Je,Jf,Jk,Jo,Ju,Jv,J7,Jbl,Jbr,Ah,Hj]
  intro a ha
  rw[Pu]
  exact hK a _ _ (Ag.upd ha) Ad (Ir (Int.le_max_left _ _) (Q36 (by decide)))
 ·intro a ha
  refine frK ?_
  simp (disch:=first|decide|omega) only[Jf,Ju,Jv,Qk,Ah]
  refine Fw (fun i ρ H₁=>(U8 fun r4 as rows=>An6 (ρ = [some (.int m),some (.int c),some (.int size),some (.int step),r4,some (.ref a)]) (Ag H H₁) (H₁ a=some (.list (as.map V.ref))) (Ea H₁ as rows) ((∀x∈as,x≠a)) (Wf m rows))) ?_ ?_ ?_
  ·refine⟨none,as,rows,rfl,e1.trans (Ag.upd ha),Ad,h1.ext (Ag.upd ha),fun x hx hxa=>?_,⟨h2,h3⟩⟩
   subst hxa
   obtain⟨i,hi⟩:=List.mem_iff_getElem?.mp hx
   have hlt:=(List.getElem?_eq_some_iff.mp hi).1
   have:=h1.2 i x _ hi (List.getElem?_eq_getElem (by rw[<-h1.1];exact hlt))
   unfold LI at this
   rw[ha]at this;cases this
  ·rintro i ρ H₁ K hi ⟨r4,as,rows,rfl,e,hA,hR,hne,hW⟩ hK
   have hi':i<m:=hi
   simp (disch:=first|decide|omega) only[J0,J1,Bt,Bu,Hk]
   refine Bg (decide ((i:Int)%step=size-1)) (fun Q' h'=>?_) ?_
   ·simp (disch:=first|decide|omega) only[Je,Jf,Jk,Jl,J4,J7,Ok,Ah,Am];exact h'
   ·split
    ·rename_i hh
     simp only[decide_eq_true_eq]at hh
     have hle:(i:Int)%step<=i:=by
      have h1:=Int.mul_ediv_add_emod (i:Int) step
      have h2:0<=step*((i:Int)/step):=Int.mul_nonneg (Int.le_trans (Int.le_trans (by decide) hsize) hstep.1) (Int.ediv_nonneg (Int.natCast_nonneg _) (Int.le_trans (Int.le_trans (by decide) hsize) hstep.1))
      exact Int.le_trans (Int.le_add_of_nonneg_left h2) (Int.le_of_eq h1)
     simp (disch:=first|decide|omega) only[Je,Jf,Jk,Js,Ju,Jv,J0,J1,J6,J7,Ah,Am,Bl]
     intro x hx
     have hA':=(Ag.upd (o:= .list [.int ((i:Int)+1-size),.int ((i:Int)-1)]) hx) _ _ hA
     have hL:i<(as.map V.ref).length:=by rw[List.length_map,hR.1,hW.1];exact hi'
     refine Aeg hA' (Int.natCast_nonneg _) (Q81 hL) ?_
     have hxa:x≠a:=fun z=>by rw[z,hA]at hx;cases hx
     have hHa:H a=none:=e1.isNone ha
     refine hK _ _ ⟨_,as.set i x,rows.set i [(i:Int)+1-size,(i:Int)-1],rfl,(e.trans (Ag.upd hx)).upd' hHa,?_,?_,?_,?_⟩
     ·rw[Ad,Int.toNat_natCast,List.map_set]
     ·refine Ea.upd ?_ ?_
      ·refine⟨by simp[hR.1],fun k y r h1 h2=>?_⟩
       rw[List.getElem?_set]at h1 h2
       by_cases hki:i=k
       ·subst hki
        rw[if_pos rfl]at h1 h2
        rw[if_pos (by rw[<-hR.1];simpa using hL)]at h2
        rw[if_pos (by simpa using hL)]at h1
        cases h1;cases h2
        exact Ad
       ·rw[if_neg hki]at h1 h2
        exact(hR.2 k y r h1 h2).ext (Ag.upd hx)
      ·intro y hy
       rcases List.mem_or_eq_of_mem_set hy with hy|hy
       ·exact hne y hy
       ·rw[hy];exact hxa
     ·intro y hy
      rcases List.mem_or_eq_of_mem_set hy with hy|hy
      ·exact hne y hy
      ·rw[hy];exact hxa
     ·refine⟨List.length_set.trans hW.1,fun k r h2=>?_⟩
      rw[List.getElem?_set]at h2
      by_cases hki:i=k
      ·subst hki
       rw[if_pos rfl,if_pos (by rw[hW.1];exact hi')]at h2
       cases h2
       exact⟨by simp;exact Q82 hsize hh hle,by simp;exact Q83 hsize hh hle⟩
      ·rw[if_neg hki]at h2
       exact hW.2 k r h2
    ·simp (disch:=first|decide|omega) only[J0]
     exact hK _ _ ⟨_,as,rows,rfl,e,hA,hR,hne,hW⟩
  ·rintro ρ H₁ ⟨r4,as,rows,rfl,e,hA,hR,hne,hW⟩
   simp (disch:=first|decide|omega) only[Ah,Am]
   exact q a as rows H₁ e (e1.isNone ha) hA hR hW
structure I8(G:A5):Prop where
 cellAt:G.fn "_law_cell_at" = some B7
 mixed:G.fn "_law_mixed" = some D5
 earlier:G.fn "_law_earlier" = some F4
 anyRows:G.fn "_law_any_rows" = some Ex
 banded:G.fn "_law_banded" = some Gx
 ringed:G.fn "_law_ringed" = some Gy
 hubbed:G.fn "_law_hubbed" = some Gz
 rows:G.fn "_law_rows" = some Ow
 name:G.fn "_law_name" = some Kx
 ties:G.fn "_law_ties" = some Ox
 near:G.fn "_law_near" = some Oy
 init:G.fn "Web.__init__" = some Li
 need:G.fn "Web.need" = some Kw
 tied:G.fn "Web.tied" = some Ov
 wties:G.fn "Web.ties" = some Ve
 webOf:G.fn "web_of" = some Th
 most:G.const "MOST" = some (.int 60)
theorem Ag2(B:I8 G){ns:List Int}{m:Nat}(hm:m<=60)(q:Mb H m Q):Ae G (n+3) "_law_rows" [.script ns,.int m] H Q E:=by
 refine Af B.rows rfl ?_
 simp (disch:=first|decide|omega) only[Je,Jf,Jk,Jn,Ju,Jv,Jw,Jy,J0,J1,List.map,D1,D2,Ah,List.replicate,Bt,Bu,Ca,true_and,Ow,B.cellAt,B.earlier]
 refine Cz B.cellAt (by decide) ?_
 try simp (disch:=first|decide|omega) only[J4]
 refine Cz B.cellAt (by decide) ?_
 try simp (disch:=first|decide|omega) only[J5]
 generalize hk:cell ns (2:Int).toNat%8=kind
 generalize hc:cell ns (2:Int).toNat/8=c
 refine Bg (decide (kind=1)&&decide (3<(m:Int))) (fun Q' h'=>?_) ?_
 ·simp (disch:=first|decide|omega) only[Je,Jf,Ji,Jl,Yv,Ok,Br,Ah,Am];split<;>simp_all
 split
 ·rename_i hh
  simp only[Bool.and_eq_true,decide_eq_true_eq]at hh
  simp (disch:=first|decide|omega) only[Je,Jf,Jk,Jn,Ju,Jv,Jy,J0,J1,J4,J6,J7,Ah,Am]
  refine⟨by rw[B.earlier];rfl,?_⟩
  have hc1:0<=c%((m:Int)-3):=Int.emod_nonneg _ (Int.ne_of_gt (Int.sub_pos_of_lt hh.2))
  exact Rp B.cellAt B.mixed B.earlier hm (.inr (Int.le_add_of_nonneg_right hc1)) q
 simp (disch:=first|decide|omega) only[J0]
 refine Bg ((decide (1<kind)&&decide (kind<5))&&decide ((m:Int)<41)) (fun Q' h'=>?_) ?_
 ·simp (disch:=first|decide|omega) only[Je,Jf,Ji,Jl,Jm,J8,Br,Ah,Am]
  split<;>(try split)<;>simp_all
 split
 ·simp (disch:=first|decide|omega) only[Jf,Jn,Ju,Jv,Jy,J0,J1,Ah,Am,Ca,true_and,B.anyRows]
  exact We B.cellAt B.mixed B.anyRows hm q
 simp (disch:=first|decide|omega) only[J0]
 refine Bg (decide (kind=5)) (fun Q' h'=>?_) ?_
 ·simp (disch:=first|decide|omega) only[Je,Jf,Jl,Ok,Ah,Am];exact h'
 split
 ·simp (disch:=first|decide|omega) only[Jf,Jn,Ju,Jv,Jy,J0,J1,Ah,Am,Ca,true_and,B.banded]
  exact Ab1 B.banded hm q
 simp (disch:=first|decide|omega) only[J0]
 refine Bg (decide (kind=6)) (fun Q' h'=>?_) ?_
 ·simp (disch:=first|decide|omega) only[Je,Jf,Jl,Ok,Ah,Am];exact h'
 split
 ·simp (disch:=first|decide|omega) only[Jf,Jn,Ju,Jv,Jy,J0,J1,Ah,Am,Ca,true_and,B.ringed]
  exact Ab4 B.ringed hm q
 simp (disch:=first|decide|omega) only[J0]
 refine Bg (decide (kind=7)) (fun Q' h'=>?_) ?_
 ·simp (disch:=first|decide|omega) only[Je,Jf,Jl,Ok,Ah,Am];exact h'
 split
 ·simp (disch:=first|decide|omega) only[Jf,Jn,Ju,Jv,Jy,J0,J1,Ah,Am,Ca,true_and,B.hubbed]
  exact Ab2 B.hubbed hm q
 simp (disch:=first|decide|omega) only[J0,Ah,Am]
 exact Rp B.cellAt B.mixed B.earlier hm (.inl rfl) q
set_option linter.all false
variable {G:A5} {n:Nat} {H H':AH} {Q:Ak} {E:EP} {C:CS} {ρ:Al}
theorem Ac{o:O}(q:∀a H',Ag H H'->H a=none->H' a=some o->Q (.ref a) H'):Ao o H Q:=fun a ha=>q a _ (Ag.upd ha) ha Ad
noncomputable def Rq(p:Int×Int):O:= .tuple [.int p.1,.int p.2]
noncomputable def A2(H:AH)(as:List Nat)(ps:List (Int×Int)):Prop:=as.map H=ps.map fun p=>some (Rq p)
theorem A2.len{as:List Nat}{ps:List (Int×Int)}(h:A2 H as ps):as.length=ps.length:=by
 have:=congrArg List.length h
 simpa using this
theorem A2.at_{as:List Nat}{ps:List (Int×Int)}{i x:Nat}{p:Int×Int}(h:A2 H as ps)(h1:as[i]? = some x)(h2:ps[i]? = some p):H x=some (Rq p):=by
 have:=congrArg (fun l=>l[i]?) h
 simpa[h1,h2]using this
theorem A2.ex{as:List Nat}{ps:List (Int×Int)}{i x:Nat}(h:A2 H as ps)(h1:as[i]? = some x):∃p,ps[i]? = some p/\H x=some (Rq p):=by
 have hl:=(List.getElem?_eq_some_iff.mp h1).1
 rw[h.len]at hl
 exact⟨_,List.getElem?_eq_getElem hl,h.at_ h1 (List.getElem?_eq_getElem hl)⟩
theorem A2.ext'{as:List Nat}{ps:List (Int×Int)}(h:A2 H as ps)(e:∀x∈as,∀o,H x=some o->H' x=some o):A2 H' as ps:=by
 unfold A2 at *
 rw[<-h]
 refine List.map_congr_left fun x hx=>?_
 obtain⟨i,hi⟩:=List.mem_iff_getElem?.mp hx
 obtain⟨p,_,hp⟩:=A2.ex (H:=H) (ps:=ps) h hi
 rw[hp]
 exact e x hx _ hp
theorem A2.ext{as:List Nat}{ps:List (Int×Int)}(h:A2 H as ps)(e:Ag H H'):A2 H' as ps:=h.ext' fun x _ o q=>e x o q
theorem A2.app{as bs:List Nat}{ps qs:List (Int×Int)}(h:A2 H as ps)(h':A2 H bs qs):A2 H (as++bs) (ps++qs):=by
 unfold A2 at *
 rw[List.map_append,List.map_append,h,h']
theorem A2.take{as:List Nat}{ps:List (Int×Int)}(k:Nat)(h:A2 H as ps):A2 H (as.take k) (ps.take k):=by
 unfold A2 at *
 rw[List.map_take,List.map_take,h]
theorem A2.drop{as:List Nat}{ps:List (Int×Int)}(k:Nat)(h:A2 H as ps):A2 H (as.drop k) (ps.drop k):=by
 unfold A2 at *
 rw[List.map_drop,List.map_drop,h]
theorem A2.one{x:Nat}{p:Int×Int}(h:H x=some (Rq p)):A2 H [x] [p]:=by
 unfold A2;simp[h]
theorem Aeh{a:Nat}{xs:List V}{l u:V}{l' u':Option Int}(h:H a=some (.list xs))(hl:bound? l=some l')(hu:bound? u=some u'):Ce (.ref a) l u .none H Q=Ao (.list (cut xs l' u')) H Q:=by
 delta Ce;dsimp only;delta R8;rw[hl];(try dsimp only[E8]);rw[hu];(try dsimp only[E8]);rw[h];rfl
theorem Dm{a:Nat}{xs:List V}{l u:V}{l' u':Option Int}(h:H a=some (.list xs))(hl:bound? l=some l')(hu:bound? u=some u')(kk:Ao (.list (cut xs l' u')) H Q):Ce (.ref a) l u .none H Q:=Eq.mpr (Aeh h hl hu) kk
theorem Iu:bound? .none=some none:=rfl
theorem Ks{k:Int}:bound? (.int k)=some (some k):=rfl
theorem Wg{xs:List V}{k:Int}(h:0<=k):cut xs none (some k)=xs.take k.toNat:=by
 unfold cut Fb
 simp only[if_neg (show ¬k<0 by exact Q86 h),List.drop_zero]
 rcases Nat.le_total k.toNat xs.length with q|q
 ·rw[Nat.min_eq_left q]
 ·rw[Nat.min_eq_right q,List.take_of_length_le q,List.take_of_length_le (Nat.le_refl _)]
theorem Pw{xs:List V}{k:Int}(h:0<=k):cut xs (some k) none=xs.drop k.toNat:=by
 unfold cut Fb
 simp only[if_neg (show ¬k<0 by exact Q86 h),List.take_length]
 rcases Nat.le_total k.toNat xs.length with q|q
 ·rw[Nat.min_eq_left q]
 ·rw[Nat.min_eq_right q,List.drop_of_length_le q,List.drop_of_length_le (Nat.le_refl _)]
theorem Aei{xs:List V}{k l:Int}(h:0<=k)(h':0<=l):cut xs (some k) (some l)=(xs.take l.toNat).drop k.toNat:=by
 unfold cut Fb
 simp only[if_neg (show ¬k<0 by exact Q86 h),if_neg (show ¬l<0 by exact Q86 h')]
 have e:xs.take (min l.toNat xs.length)=xs.take l.toNat:=by
  rcases Nat.le_total l.toNat xs.length with q|q
  ·rw[Nat.min_eq_left q]
  ·rw[Nat.min_eq_right q,List.take_of_length_le q,List.take_of_length_le (Nat.le_refl _)]
 rw[e]
 rcases Nat.le_total k.toNat xs.length with q|q
 ·rw[Nat.min_eq_left q]
 ·rw[Nat.min_eq_right q,List.drop_of_length_le (by simp;exact(Nat.min_le_right _ _)),List.drop_of_length_le (by simp;exact(Nat.le_trans (Nat.min_le_right _ _) q))]
theorem Ag3{a b:Nat}{xs ys:List V}(h:H a=some (.list xs))(h':H b=some (.list ys))(hl:xs.length+ys.length<=1048576):Dn .Add (.ref a) (.ref b) H Q=Ao (.list (xs++ys)) H Q:=by
 delta Dn;(try dsimp only);(first|delta Ws|delta Wt|skip);(try dsimp only[Ax,Ap]);rw[h];(try dsimp only[Gb]);rw[h'];(try dsimp only[Gb])
 exact propext ⟨fun h=>h.2,fun q=>⟨hl,q⟩⟩
theorem Fx{a b:Nat}{xs ys:List V}(h:H a=some (.list xs))(h':H b=some (.list ys))(hl:xs.length+ys.length<=1048576)(kk:Ao (.list (xs++ys)) H Q):Dn .Add (.ref a) (.ref b) H Q:=Eq.mpr (Ag3 h h' hl) kk
theorem Ag4{a:Nat}{xs:List V}{k:Int}(h:H a=some (.list xs))(h0:0<=k)(h1:k<=1000)(hl:xs.length*k.toNat<=1048576):Dn .Mult (.ref a) (.int k) H Q=Ao (.list (List.replicate k.toNat xs).flatten) H Q:=by
 delta Dn;(try dsimp only);(first|delta Ws|delta Wt|skip);(try dsimp only[Ax,Ap]);rw[h];(try dsimp only[Gb])
 exact propext ⟨fun h=>h.2,fun q=>⟨⟨h0,h1,hl⟩,q⟩⟩
theorem Aej{a:Nat}{xs:List V}{k:Int}(h:H a=some (.list xs))(h0:0<=k)(h1:k<=1000)(hl:xs.length*k.toNat<=1048576)(kk:Ao (.list (List.replicate k.toNat xs).flatten) H Q):Dn .Mult (.ref a) (.int k) H Q:=Eq.mpr (Ag4 h h0 h1 hl) kk
noncomputable def Xj(ns:List Int)(m:Nat)(rows:List (List Int))(p:Int×Int):Prop:=
 (U8 fun(k:Nat) (r:List Int) (one:Int)=>D3 (rows[k]? = some r) (one∈r) ((p=(A8 ns m k,A8 ns m one)\/p=(A8 ns m one,A8 ns m k))))
noncomputable def Ab5(ns:List Int)(m:Nat)(rows:List (List Int))(ps:List (Int×Int)):Prop:=
 (∀p∈ps,Xj ns m rows p)/\∀(k:Nat) (r:List Int) (one:Int),rows[k]? = some r->one∈r->(A8 ns m k,A8 ns m one)∈ps\/(A8 ns m one,A8 ns m k)∈ps
structure TB(H H':AH)(t:Nat)(as:List Nat)(ps:List (Int×Int)):Prop where
 ext:Ag H H'
 new:H t=none
 at_:H' t=some (.list (as.map V.ref))
 prs:A2 H' as ps
 ne:∀x∈as,x≠t
theorem TB.snoc{t x:Nat}{as:List Nat}{ps:List (Int×Int)}{p:Int×Int}{H₁:AH}(b:TB H H' t as ps)(e:Ag H' H₁)(hn:H' x=none)(hx:H₁ x=some (Rq p)):TB H (upd H₁ t (.list (as.map V.ref ++ [.ref x]))) t (as ++ [x]) (ps ++ [p]):=by
 have hxt:x≠t:=fun q=>by rw[q,b.at_]at hn;cases hn
 have hne:∀y∈as ++ [x],y≠t:=fun y hy=>by
  rcases List.mem_append.mp hy with hy|hy
  ·exact b.ne y hy
  ·simp at hy;rw[hy];exact hxt
 refine⟨(b.ext.trans e).upd' b.new,b.new,by rw[Ad];simp,((b.prs.ext e).app (A2.one hx)).ext' fun y hy o q=>by rw[upd_ne (hne y hy)];exact q,hne⟩
theorem Ag5(B:I8 G){ns:List Int}{m a:Nat}{as:List Nat}{rows:List (List Int)}(hm:m<=60)(hA:H a=some (.list (as.map V.ref)))(hR:Ea H as rows)(hW:Wf m rows)
 (q:∀t ts ps H',Ag H H'->H t=none->H' t=some (.list (ts.map V.ref))->A2 H' ts ps->Ab5 ns m rows ps->ps.length<=4000->Q (.ref t) H') :
 Ae G (n+3) "_law_ties" [.script ns,.int m,.ref a] H Q E:=by
 refine Af B.ties rfl ?_
 simp (disch:=first|decide|omega) only[Jc,Je,Jf,Jk,Jr,Js,Ju,Jw,Jy,J0,J1,List.map,D1,D2,List.replicate,Bt,Bu,Ox]
 intro t ht
 refine frK ?_
 simp (disch:=first|decide|omega) only[Jf,Ju,Jv,Qk,Ah,Am]
 refine Qo (fun i r4 r5 r6 ts ps=>[some (.script ns),some (.int m),some (.ref a),some (.ref t),r4,r5,r6]) (fun i r4 r5 r6 ts ps H'=>R7 (TB H H' t ts ps) (ps.length<=60*i) ((∀p∈ps,Xj ns m rows p)) (∀(k:Nat) (r:List Int) (one:Int),k<i->rows[k]? = some r->one∈r->(A8 ns m k,A8 ns m one)∈ps\/(A8 ns m one,A8 ns m k)∈ps)) none none none [] [] rfl ⟨⟨Ag.upd ht,ht,Ad,rfl,fun _ h=>absurd h List.not_mem_nil⟩,Nat.le_refl _,fun _ h=>absurd h List.not_mem_nil,by(first|lia|omega)⟩ ?_ ?_
 ·rintro i r4 r5 r6 ts ps H' K hi hP12 hK
  refine Aa fun nY=>?_
  obtain⟨b,hlen,htie,hall⟩:=hP12
  have hi':i<m:=hi
  refine nY ?_;clear nY
  have hil:i<rows.length:=by rw[hW.1];exact hi'
  have hial:i<as.length:=by rw[hR.1];exact hil
  have hxi:as[i]? = some (as[i]):=List.getElem?_eq_getElem hial
  have hri:rows[i]? = some (rows[i]):=List.getElem?_eq_getElem hil
  generalize as[i]=xi at hxi
  generalize rows[i]=ri at hri
  have hok:=hW.2 i ri hri
  have hLi:LI H xi ri:=hR.2 i xi ri hxi hri
  have hsub:(as.map V.ref)[(i:Int).toNat]? = some (.ref xi):=by rw[Int.toNat_natCast,List.getElem?_map,hxi];rfl
  simp (disch:=first|decide|omega) only[J0,J1,Bt,Bu,Kd]
  refine Qz ?_
  simp (disch:=first|decide|omega) only[Jf,Jq,Ah,Am]
  refine Eo (b.ext _ _ hA) (Int.natCast_nonneg _) hsub (Az (b.ext _ _ hLi) ?_)
  refine Um (fun j r5 r6 ts ps=>[some (.script ns),some (.int m),some (.ref a),some (.ref t),some (.int i),r5,r6]) (fun j r5 r6 ts ps H'=>Xw (TB H H' t ts ps) (ps.length<=60*i+j) ((∀p∈ps,Xj ns m rows p)) ((∀(k:Nat) (r:List Int) (one:Int),k<i->rows[k]? = some r->one∈r->(A8 ns m k,A8 ns m one)∈ps\/(A8 ns m one,A8 ns m k)∈ps)) (∀one∈ri.take j,(A8 ns m i,A8 ns m one)∈ps\/(A8 ns m one,A8 ns m i)∈ps)) _ _ ts ps rfl ⟨b,hlen,htie,hall,fun _ h=>absurd h List.not_mem_nil⟩ ?_ ?_ ?_
  ·rintro j r5 r6 ts ps H' ⟨b,_⟩
   exact b.ext _ _ hLi
  ·rintro j v r5 r6 ts ps H' K' hv hP13 hK'
   refine Aa fun nY=>?_
   obtain⟨b,hlen,htie,hall,hj⟩:=hP13
   rw[List.getElem?_map]at hv
   obtain⟨one,hone,rfl⟩:=Option.map_eq_some_iff.mp hv
   have hmem:=List.mem_of_getElem? hone
   have hone2:=hok.2 one hmem
   have hjl:=(List.getElem?_eq_some_iff.mp hone).1
   have hrl:=hok.1
   refine nY ?_;clear nY
   simp (disch:=first|decide|omega) only[Jf,Jn,Jt,Ju,Jv,Jw,Jx,J0,J1,Ah,Am,Bt,Bu,Ca,true_and,Kc,B.name]
   refine Wc B.cellAt B.name (Q89 hi') (Q90 hm) ?_
   refine Wc B.cellAt B.name (Q89 hi') (Q90 hm) ?_
   generalize hnk:A8 ns m i=nk
   generalize hno:A8 ns m one=no
   intro x hx
   have done:∀(y:Nat) (p:Int×Int) (H₁:AH),Ag H' H₁->H' y=none->H₁ y=some (Rq p)->(p=(nk,no)\/p=(no,nk))->
    A1 G (Ae G (n+2)) [.expr (.lm .append (.var 3) [(.var 6)])] [some (.script ns),some (.int m),some (.ref a),some (.ref t),some (.int i),some (.int one),some (.ref y)] H₁ K' Q E:=by
    intro y p H₁ e hy hp hpp
    have ht1:=e _ _ b.at_
    have hl:(ts.map V.ref).length<1048576:=by rw[List.length_map,b.prs.len];exact Nat.lt_of_le_of_lt (Nat.le_trans hlen (Nat.add_le_add (Nat.mul_le_mul_left 60 (Nat.le_trans (Nat.le_of_lt hi') hm)) (Nat.le_trans (Nat.le_of_lt hjl) (Nat.le_trans hrl (Nat.le_trans (Nat.le_of_lt hi') hm))))) (by decide)
    simp (disch:=first|decide|omega) only[Jf,Ju,Jv,Jx,J0,J1,Ah,Am,true_and,Bx,Bp ht1,Cc ht1 hl]
    refine hK' _ _ _ _ _ ⟨b.snoc e hy hp,by simp;exact(Nat.succ_le_succ hlen),?_,?_,?_⟩
    ·intro p' hp'
     refine Aa fun nY=>?_
     rcases List.mem_append.mp hp' with h|h
     ·refine nY ?_;clear nY
      exact htie p' h
     ·simp at h;subst h
      refine nY ?_;clear nY
      refine⟨i,ri,one,hri,hmem,?_⟩
      rw[hnk,hno];exact hpp
    ·intro k r o h1 h2 h3
     refine Aa fun nY=>?_
     rcases hall k r o h1 h2 h3 with h|h
     ·refine nY ?_;clear nY
      exact .inl (List.mem_append_left _ h)
     ·refine nY ?_;clear nY
      exact .inr (List.mem_append_left _ h)
    ·intro o ho
     rw[List.take_add_one,hone]at ho
     refine Aa fun nY=>?_
     rcases List.mem_append.mp ho with h|h
     ·rcases hj o h with h|h
      ·refine nY ?_;clear nY
       exact .inl (List.mem_append_left _ h)
      ·refine nY ?_;clear nY
       exact .inr (List.mem_append_left _ h)
     ·simp at h;subst h
      refine nY ?_;clear nY
      rw[hnk,hno]
      refine Aa fun nY=>?_
      rcases hpp with rfl|rfl
      ·refine nY ?_;clear nY
       exact .inl (List.mem_append_right _ List.mem_cons_self)
      ·refine nY ?_;clear nY
       exact .inr (List.mem_append_right _ List.mem_cons_self)
   refine Bg (decide (((i:Int)+one)%2=1)) (fun Q' h'=>?_) ?_
   ·simp (disch:=first|decide|omega) only[Je,Jf,Jk,Jl,J4,J6,Ok,Ah,Am];exact h'
   split
   ·simp (disch:=first|decide|omega) only[Je,Jf,Jq,Jt,Ju,Jv,Jw,J0,J1,Ah,Am,Bt,Bu]
    refine Fv (x:= .int no) Ad (by decide) rfl ?_
    refine Fv (x:= .int nk) Ad (by decide) rfl ?_
    intro y hy
    exact done y (no,nk) _ ((Ag.upd hx).trans (Ag.upd hy)) ((Ag.upd hx).isNone hy) Ad (.inr rfl)
   ·simp (disch:=first|decide|omega) only[J0]
    exact done x (nk,no) _ (Ag.upd hx) hx Ad (.inl rfl)
  ·rintro r5 r6 ts ps H' hP14
   refine Aa fun nY=>?_
   obtain⟨b,hlen,htie,hall,hj⟩:=hP14
   refine nY ?_;clear nY
   refine hK _ _ _ ts ps _ ⟨b,?_,htie,?_⟩
   ·rw[List.length_map]at hlen
    have:=hok.1
    exact Nat.le_trans hlen (Nat.add_le_add_left (Nat.le_trans this (Nat.le_trans (Nat.le_of_lt hi') hm)) _)
   ·intro k r one h1 h2 h3
    refine Aa fun nY=>?_
    by_cases hki:k=i
    ·subst hki
     rw[hri]at h2
     cases h2
     refine nY ?_;clear nY
     refine hj one ?_
     rw[List.length_map,List.take_of_length_le (Nat.le_refl _)];exact h3
    ·refine nY ?_;clear nY
     exact hall k r one (Nat.lt_of_le_of_ne (Nat.le_of_lt_succ h1) hki) h2 h3
 ·rintro r4 r5 r6 ts ps H' hP15
  refine Aa fun nY=>?_
  obtain⟨b,hlen,htie,hall⟩:=hP15
  refine nY ?_;clear nY
  simp (disch:=first|decide|omega) only[Ah,Am]
  have hlen2:ts.length<=3600:=by
   rw[b.prs.len]
   simp only[Int.toNat_natCast]at hlen
   exact Nat.le_trans hlen (Nat.mul_le_mul_left 60 hm)
  refine gvK ?_
  simp (disch:=first|decide|omega) only[Jc,Je,Jf,Jr,J2,D1,D2,Ah,Am,List.replicate]
  (refine Dm b.at_ Iu Ks ?_;rw[Wg (by decide)])
  refine Ac fun s1 H₁ ets1 _ hs1v=>?_
  (try dsimp only)
  refine Az hs1v ?_
  have p1:=(b.prs.take 3).ext ets1
  refine⟨by simp[Bs];exact(Nat.le_trans (Nat.min_le_left _ _) (by decide)),?_⟩
  have hat1:=ets1 _ _ b.at_
  refine Cf (k:=0) (fun j acc H₂=>(Oo fun us=>D3 (acc=us.map V.ref) (Ag H₁ H₂) (A2 H₂ us (((ps.take 3).take j).map fun p=>(p.2,p.1))))) ⟨[],rfl,Ag.refl,rfl⟩ ?_ ?_
  ·rintro j x acc H₂ K hx hP16 hK
   refine Aa fun nY=>?_
   obtain⟨us,rfl,e,hp⟩:=hP16
   rw[List.getElem?_map]at hx
   obtain⟨v,hv,rfl⟩:=Option.map_eq_some_iff.mp hx
   rw[<-List.map_take,List.getElem?_map]at hv
   obtain⟨y,hy,rfl⟩:=Option.map_eq_some_iff.mp hv
   obtain⟨p,hpj,hpy⟩:=p1.ex hy
   refine nY ?_;clear nY
   refine⟨e _ _ hs1v,_,rfl,?_⟩
   simp (disch:=first|decide|omega) only[Je,Jf,Jq,Jt,Ju,Jv,Ah,Ke]
   refine Fv (x:= .int p.2) (e _ _ hpy) (by decide) rfl ?_
   refine Fv (x:= .int p.1) (e _ _ hpy) (by decide) rfl ?_
   refine Ac fun z H₃ e3 _ v3=>?_
   refine hK _ _ ⟨us ++ [z],by simp,e.trans e3,?_⟩
   rw[Nat.zero_add,List.take_add_one,hpj,Option.toList_some,List.map_append]
   rw[Nat.zero_add]at hp
   exact(hp.ext e3).app (A2.one (p:=(p.2,p.1)) v3)
  ·rintro acc H₂ hP17
   refine Aa fun nY=>?_
   obtain⟨us,rfl,e,hp⟩:=hP17
   refine nY ?_;clear nY
   refine⟨e _ _ hs1v,?_⟩
   have hul:us.length<=3:=by
    rw[hp.len];simp;exact Nat.min_le_left _ _
   have eA:=ets1.trans e
   refine Ac fun u Hu eu _ vu=>?_
   (try dsimp only)
   refine Fx ((eA.trans eu) _ _ b.at_) vu (by simp;exact(Nat.le_trans (Nat.add_le_add hlen2 hul) (by decide))) ?_
   refine Ac fun s2 H₃ e2 _ v2=>?_
   (try dsimp only)
   have e3:=(eA.trans eu).trans e2
   (refine Dm (e3 _ _ b.at_) Ks Ks ?_;rw[Aei (by decide) (by decide)])
   refine Ac fun s3 H₄ e4 _ v4=>?_
   (try dsimp only)
   refine Fx (e4 _ _ v2) v4 (by simp;exact(Nat.le_trans (Nat.add_le_add (Nat.add_le_add hlen2 hul) (Nat.le_trans (Nat.sub_le _ _) (Nat.min_le_left _ _))) (by decide))) ?_
   refine Ac fun s4 H₅ e5 _ v5=>?_
   (try dsimp only)
   have e35:=(e3.trans e4).trans e5
   (refine Dm (e35 _ _ b.at_) Iu Ks ?_;rw[Wg (by decide)])
   refine Ac fun s5 H₆ e6 _ v6=>?_
   (try dsimp only)
   refine Aej v6 (by decide) (by decide) (by simp;exact(Nat.le_trans (Nat.mul_le_mul_right 2 (Nat.min_le_left _ _)) (by decide))) ?_
   refine Ac fun s6 H₇ e7 _ v7=>?_
   (try dsimp only)
   refine Fx ((e6.trans e7) _ _ v5) v7 (by simp;exact(Nat.le_trans (Nat.add_le_add (Nat.add_le_add hlen2 (Nat.add_le_add hul (Nat.le_trans (Nat.sub_le _ _) (Nat.min_le_left _ _)))) (Nat.add_le_add (Nat.min_le_left _ _) (Nat.min_le_left _ _))) (by decide))) ?_
   refine Ac fun s7 H₈ e8 n8 v8=>?_
   have e7a:=(e35.trans e6).trans e7
   have eAll:=e7a.trans e8
   have hn7:H s7=none:=b.ext.isNone (e7a.isNone n8)
   have P:=b.prs.ext eAll
   have P':=hp.ext ((((((eu.trans e2).trans e4).trans e5).trans e6).trans e7).trans e8)
   refine q s7 (ts++us++(ts.take 4).drop 1++(ts.take 1++ts.take 1)) (ps++_++(ps.take 4).drop 1++(ps.take 1++ps.take 1)) _ (b.ext.trans eAll) hn7 ?_ (((P.app P').app ((P.take 4).drop 1)).app ((P.take 1).app (P.take 1))) ⟨?_,?_⟩ ?_
   ·rw[v8]
    simp[List.replicate,List.map_take]
   ·intro p hp
    have sub:∀p,p∈ps->Xj ns m rows p:=htie
    simp only[List.mem_append]at hp
    refine Aa fun nY=>?_
    rcases hp with((h|h)|h)|(h|h)
    ·refine nY ?_;clear nY
     exact htie p h
    ·obtain⟨p',h',rfl⟩:=List.mem_map.mp h
     obtain⟨k,r,one,h1,h2,h3⟩:=htie p' (List.mem_of_mem_take (List.mem_of_mem_take h'))
     refine nY ?_;clear nY
     refine⟨k,r,one,h1,h2,?_⟩
     refine Aa fun nY=>?_
     rcases h3 with rfl|rfl
     ·refine nY ?_;clear nY
      exact .inr rfl
     ·refine nY ?_;clear nY
      exact .inl rfl
    ·refine nY ?_;clear nY
     exact htie p (List.mem_of_mem_take (List.mem_of_mem_drop h))
    ·refine nY ?_;clear nY
     exact htie p (List.mem_of_mem_take h)
    ·refine nY ?_;clear nY
     exact htie p (List.mem_of_mem_take h)
   ·intro k r one h1 h2
    have hk:k<rows.length:=(List.getElem?_eq_some_iff.mp h1).1
    rw[hW.1]at hk
    refine Aa fun nY=>?_
    rcases hall k r one hk h1 h2 with h|h
    ·refine nY ?_;clear nY
     exact .inl (by simp[h])
    ·refine nY ?_;clear nY
     exact .inr (by simp[h])
   ·have:=b.prs.len
    have h8:=hp.len
    simp only[List.length_append,List.length_take,List.length_drop,<-h8]
    exact Aj0 hlen2 hul this
set_option linter.all false
/-! sorting -/
theorem Et(x:Int)(l:List Int):(N3 x l).Perm (x::l):=by
 induction l with
 | nil=>exact List.Perm.refl _
 | cons y r ih=>
   unfold N3
   split
   ·exact List.Perm.refl _
   ·exact(ih.cons y).trans (List.Perm.swap x y r)
theorem B8(l:List Int):(Bf l).Perm l:=by
 induction l with
 | nil=>exact List.Perm.refl _
 | cons x r ih=>exact(Et x (Bf r)).trans (ih.cons x)
theorem Gs{x:Int}{l:List Int}:x∈Bf l↔x∈l:=(B8 l).mem_iff
theorem Md(l:List Int):(Bf l).length=l.length:=(B8 l).length_eq
theorem Fp{x:Int}{l:List Int}(h:l.Pairwise (· <= ·)):(N3 x l).Pairwise (· <= ·):=by
 induction l with
 | nil=>simp[N3]
 | cons y r ih=>
   unfold N3
   split
   ·rename_i q
    refine List.pairwise_cons.mpr ⟨fun z hz=>?_,h⟩
    rcases List.mem_cons.mp hz with rfl|hz
    ·exact q
    ·have:=(List.pairwise_cons.mp h).1 z hz;exact Int.le_trans q this
   ·rename_i q
    refine List.pairwise_cons.mpr ⟨fun z hz=>?_,ih (List.pairwise_cons.mp h).2⟩
    rcases List.mem_cons.mp ((Et x r).mem_iff.mp hz)with rfl|hz
    ·exact Int.le_of_lt (Int.not_le.mp q)
    ·exact(List.pairwise_cons.mp h).1 z hz
theorem Dk(l:List Int):(Bf l).Pairwise (· <= ·):=by
 induction l with
 | nil=>exact List.Pairwise.nil
 | cons x r ih=>exact Fp ih
theorem Uq{l:List Int}(h:l.Nodup):(Bf l).Pairwise (· < ·):=by
 have h1:=Dk l
 have h2:(Bf l).Nodup:=(B8 l).nodup_iff.mpr h
 have:=List.Pairwise.and h1 h2
 exact this.imp fun⟨a,b⟩=>(Int.lt_iff_le_and_ne.mpr ⟨a,b⟩)
theorem Ab6:∀ {l l':List Int},l.Pairwise (· < ·)->l'.Pairwise (· < ·)->(∀x,x∈l↔x∈l')->l=l':=by
 intro l
 induction l with
 | nil=>exact fun {l'} _ _ h=>by cases l' with
   | nil=>rfl
   | cons y _=>exact absurd ((h y).mpr List.mem_cons_self) List.not_mem_nil
 | cons x r ih=>exact fun {l'} h1 h2 h=>by cases l' with
   | nil=>exact absurd ((h x).mp List.mem_cons_self) List.not_mem_nil
   | cons y s=>
     have a1:=List.pairwise_cons.mp h1
     have a2:=List.pairwise_cons.mp h2
     have hxy:x=y:=(List.mem_cons.mp ((h x).mp List.mem_cons_self)).elim id fun q=>(List.mem_cons.mp ((h y).mpr List.mem_cons_self)).elim Eq.symm fun q'=>absurd (a2.1 x q) (Int.lt_asymm (a1.1 y q'))
     subst hxy
     exact congrArg _ (ih a1.2 a2.2 fun z=>⟨fun hz=>(List.mem_cons.mp ((h z).mp (List.mem_cons_of_mem _ hz))).elim (fun q=>absurd (q▸a1.1 z hz) (Int.lt_irrefl _)) id,fun hz=>(List.mem_cons.mp ((h z).mpr (List.mem_cons_of_mem _ hz))).elim (fun q=>absurd (q▸a2.1 z hz) (Int.lt_irrefl _)) id⟩)
theorem Ur{x:Int}{l:List Nat}:x∈Ob l↔0<=x/\x.toNat∈l:=by
 unfold Ob
 rw[List.mem_map]
 constructor
 ·rintro⟨a,h,rfl⟩;simpa using h
 ·rintro⟨h,h'⟩;exact⟨x.toNat,h',(Q15 h)⟩
theorem Sv{m:Nat}(p:Nat->Bool):(Ob ((List.range m).filter p)).Pairwise (· < ·):=by
 unfold Ob
 rw[List.pairwise_map]
 exact(List.pairwise_lt_range.filter p).imp fun h=>(Q81 h)
noncomputable def Ay(m:Nat)(A:Nat->Nat->Bool)(i:Nat):List Int:=Ob ((List.range m).filter (A i))
theorem Bd{m:Nat}{A:Nat->Nat->Bool}{i:Nat}{x:Int}:x∈Ay m A i↔0<=x/\x<m/\A i x.toNat=true:=by
 unfold Ay
 rw[Ur,List.mem_filter,List.mem_range]
 constructor
 ·rintro⟨h1,h2,h3⟩;exact⟨h1,(Int.lt_of_le_of_lt (Int.self_le_toNat _) (Int.ofNat_lt.mpr h2)),h3⟩
 ·rintro⟨h1,h2,h3⟩;exact⟨h1,(Q10 h1 h2),h3⟩
theorem Px{m:Nat}{A:Nat->Nat->Bool}{i:Nat}:(Ay m A i).length<=m:=by
 unfold Ay Ob
 rw[List.length_map]
 exact Nat.le_trans (List.length_filter_le _ _) (by simp)
theorem Us{m:Nat}{A:Nat->Nat->Bool}{i:Nat}{l:List Int}(h:l.Nodup)(hm:∀x,x∈l↔0<=x/\x<m/\A i x.toNat=true):Bf l=Ay m A i:=
 Ab6 (Uq h) (Sv _) fun x=>by rw[Gs,hm];exact Bd.symm
variable {G:A5} {n:Nat} {H H':AH} {Q:Ak} {E:EP} {C:CS} {ρ:Al}
structure Iv(H H':AH)(a:Nat)(as:List Nat)(m:Nat)(f:Nat->O):Prop where
 ext:Ag H H'
 new:H a=none
 at_:H' a=some (.list (as.map V.ref))
 len:as.length=m
 nodup:as.Nodup
 na:a∉as
 fr:∀x∈as,H x=none
 obj:∀(i x:Nat),as[i]? = some x->H' x=some (f i)
theorem Yy{as:List Nat}{i j x:Nat}(h:as.Nodup)(h1:as[i]? = some x)(h2:as[j]? = some x):i=j:=by
 obtain⟨a1,a2⟩:=List.getElem?_eq_some_iff.mp h1
 obtain⟨b1,b2⟩:=List.getElem?_eq_some_iff.mp h2
 have h':=List.pairwise_iff_getElem.mp h
 rcases Nat.lt_trichotomy i j with q|q|q
 ·exact absurd (a2.trans b2.symm) (h' i j a1 b1 q)
 ·exact q
 ·exact absurd (b2.trans a2.symm) (h' j i b1 a1 q)
theorem Iv.set{a m i x:Nat}{as:List Nat}{f:Nat->O}(c:Iv H H' a as m f)(hx:as[i]? = some x)(o:O):Iv H (upd H' x o) a as m (fun j=>if j=i then o else f j):=by
 have hxm:=List.mem_of_getElem? hx
 have hxa:a≠x:=fun q=>c.na (q▸hxm)
 refine⟨c.ext.upd' (c.fr x hxm),c.new,by rw[upd_ne hxa];exact c.at_,c.len,c.nodup,c.na,c.fr,fun j y hy=>?_⟩
 by_cases hj:j=i
 ·subst hj
  rw[hx]at hy;cases hy
  rw[if_pos rfl,Ad]
 ·rw[if_neg hj,upd_ne (fun q=>hj (Yy c.nodup hy (by rw[q];exact hx)))]
  exact c.obj j y hy
theorem Iv.get{a m i:Nat}{as:List Nat}{f:Nat->O}(c:Iv H H' a as m f)(hi:i<m):(Oo fun x=>D3 (as[i]? = some x) ((as.map V.ref)[i]? = some (.ref x)) (H' x=some (f i))):=by
 have h:i<as.length:=by rw[c.len];exact hi
 refine⟨as[i],List.getElem?_eq_getElem h,?_,c.obj i _ (List.getElem?_eq_getElem h)⟩
 rw[List.getElem?_map,List.getElem?_eq_getElem h];rfl
theorem Iv.congr{a m:Nat}{as:List Nat}{f f':Nat->O}(c:Iv H H' a as m f)(h:∀i,i<m->f i=f' i):Iv H H' a as m f':=
 ⟨c.ext,c.new,c.at_,c.len,c.nodup,c.na,c.fr,fun i x hx=>by
  have:=(List.getElem?_eq_some_iff.mp hx).1
  rw[<-h i (by rw[<-c.len];exact this)];exact c.obj i x hx⟩
theorem Me{m:Nat}{elt:Al->AH->(Option V->AH->Prop)->Prop}{o:O}{K:Ak}{y:Option V}
 (step:∀i H' K,i<m->(∀x,H' x=none->K (some (.ref x)) (upd H' x o))->elt (some (.int i)::ρ) H' K)
 (fin:∀as H' a,H' a=none->Iv H (upd H' a (.list (as.map V.ref))) a as m (fun _=>o)->K (.ref a) (upd H' a (.list (as.map V.ref)))) :
 Bm (fun _=>True) (.one 0) elt (fun vs H=>Ao (.list vs) H K) ((List.range m).map fun(i:Nat)=> .v (.int i)) [] (y::ρ) H:=by
 refine Cf (k:=0) (fun i acc H'=>(Oo fun as=>An6 (acc=as.map V.ref) (Ag H H') (as.length=i) (as.Nodup) ((∀x∈as,H x=none)) (∀x∈as,H' x=some o))) ⟨[],rfl,Ag.refl,rfl,List.nodup_nil,fun _ h=>absurd h List.not_mem_nil,fun _ h=>absurd h List.not_mem_nil⟩ ?_ ?_
 ·rintro i x acc H' K' hx ⟨as,rfl,h1,h2,h3,h4,h5⟩ hK
  rw[List.getElem?_map]at hx
  obtain⟨j,hj,rfl⟩:=Option.map_eq_some_iff.mp hx
  obtain⟨hlt,he⟩:=List.getElem?_eq_some_iff.mp hj
  simp at hlt he
  subst he
  refine⟨trivial,_,rfl,step i H' K' hlt fun x hx0=>hK _ _ ⟨as ++ [x],by simp,h1.trans (Ag.upd hx0),by simp[h2],?_,?_,?_⟩⟩
  ·rw[List.nodup_append]
   refine⟨h3,List.pairwise_singleton _ _,fun a ha b hb q=>?_⟩
   simp at hb
   subst hb q
   rw[h5 a ha]at hx0;cases hx0
  ·intro y hy
   rcases List.mem_append.mp hy with hy|hy
   ·exact h4 y hy
   ·simp at hy;subst hy;exact h1.isNone hx0
  ·intro y hy
   rcases List.mem_append.mp hy with hy|hy
   ·exact(Ag.upd hx0) _ _ (h5 y hy)
   ·simp at hy;subst hy;exact Ad
 ·rintro acc H' ⟨as,rfl,h1,h2,h3,h4,h5⟩
  refine⟨trivial,fun a ha=>fin as H' a ha ?_⟩
  have hna:a∉as:=fun q=>by rw[h5 a q]at ha;cases ha
  exact⟨h1.trans (Ag.upd ha),h1.isNone ha,Ad,by simpa using h2,h3,hna,h4,fun i x hx=>(Ag.upd ha) _ _ (h5 x (List.mem_of_getElem? hx))⟩
theorem Lb{a:Nat}{as:List Nat}{ps:List (Int×Int)}{t u:Nat}{body:Al->AH->(Al->AH->Prop)->Prop}{N:Al->AH->Prop}(I:Nat->Al->AH->Prop)(h0:I 0 ρ H)(hg:∀i ρ H,I i ρ H->H a=some (.list (as.map V.ref))/\A2 H as ps)
 (step:∀i p ρ H K,ps[i]? = some p->I i ρ H->(∀ρ'' H'',I (i+1) ρ'' H''->K ρ'' H'')->body ((ρ.set t (some (.int p.1))).set u (some (.int p.2))) H K) (fin:∀ρ H,I ps.length ρ H->N ρ H) :
 loop (fun H=>H a=some (.list (as.map V.ref))) (.two t u) body N ((as.map V.ref).map .v) ρ H:=by
 have hl:as.length=ps.length:=(hg _ _ _ h0).2.len
 refine Io (k:=0) I h0 (fun i x ρ H K hx hI hK=>⟨(hg _ _ _ hI).1,?_⟩) fun ρ H hI=>⟨(hg _ _ _ hI).1,fin ρ H (by simpa[hl]using hI)⟩
 rw[List.getElem?_map,List.getElem?_map]at hx
 refine Aa fun nY=>?_
 obtain⟨v,hv,rfl⟩:=Option.map_eq_some_iff.mp hx
 obtain⟨x,hx',rfl⟩:=Option.map_eq_some_iff.mp hv
 obtain⟨p,hp,hpx⟩:=(hg _ _ _ hI).2.ex hx'
 refine nY ?_;clear nY
 show (match H x with|some (.tuple [x,y])=>body ((ρ.set t (some x)).set u (some y)) H K|_=>False)
 rw[hpx]
 exact step i p ρ H K hp (by simpa using hI) fun ρ'' H'' h=>hK ρ'' H'' (by simpa using h)
set_option linter.all false
variable {G:A5} {n:Nat} {H H':AH} {Q:Ak} {E:EP} {C:CS} {ρ:Al}
theorem Ag6{g:Str}{v:V}(h:G.const g=some v):Aq G C (.glob g) ρ H Q E=Q v H:=by rw[A3,h]
theorem Mf(y:Int)(l:List Int):P8 (.int y) (l.map V.int)=some (decide (y∈l)):=by
 unfold P8
 induction l with
 | nil=>rfl
 | cons x r ih=>
   show (Va ((r.map V.int).map fun z=>Zp z (.int y))).map (decide (x=y) || ·)=_
   rw[ih]
   simp only[Option.map_some,List.mem_cons]
   congr 1
   rw[show decide (x=y)=decide (y=x)from decide_eq_decide.mpr eq_comm]
   by_cases h:y=x<;>by_cases h':y∈r<;>simp[h,h']
theorem Aek{y:Int}{a:Nat}{l:List Int}(h:LI H a l):Ba .In (.int y) (.ref a) H Q=Q (.bool (decide (y∈l))) H:=by
 unfold LI at h
 delta Ba;(try dsimp only);(try delta N4);(try dsimp only[Ax]);rw[h];(try dsimp only[Ap]);rw[Mf];(try dsimp only[E8])
theorem Mg{y:Int}{a:Nat}{l:List Int}(h:LI H a l):Ba .NotIn (.int y) (.ref a) H Q=Q (.bool (!decide (y∈l))) H:=by
 unfold LI at h
 delta Ba;(try dsimp only);(try delta N4);(try dsimp only[Ax]);rw[h];(try dsimp only[Ap]);rw[Mf];(try dsimp only[E8])
theorem Mh(l:List Int):ints? (l.map V.int)=some l:=by
 induction l with
 | nil=>rfl
 | cons x r ih=>exact(show ints? ((x::r).map V.int)=(ints? (r.map V.int)).map (x :: ·)from rfl).trans (by rw[ih];rfl)
theorem Sw{a:Nat}{l:List Int}(h:LI H a l)(hl:l.length<64):Cj .sorted [.ref a] H Q=Ao (.list ((Bf l).map V.int)) H Q:=by
 unfold LI at h
 delta Cj;dsimp only;(first|delta Oq|delta Hx|delta Hy|delta Os);(try dsimp only[Ax,Ap,U5,Mt,Te]);rw[h];(try dsimp only[Gb,U9]);rw[Mh];(try dsimp only[Gb,E8])
 exact propext ⟨fun h=>h.2,fun q=>⟨hl,q⟩⟩
theorem Ab7{a:Nat}{l:List Int}(h:LI H a l)(hl:l.length<64)(kk:Ao (.list ((Bf l).map V.int)) H Q):Cj .sorted [.ref a] H Q:=Eq.mpr (Sw h hl) kk
theorem Xk{a:Nat}{es:List (Int×V)}(h:H a=some (.dict es))(hl:es.length<64):Cj .sorted [.ref a] H Q=Ao (.list ((Bf (es.map (·.1))).map V.int)) H Q:=by
 delta Cj;dsimp only;(first|delta Oq|delta Hx|delta Hy|delta Os);(try dsimp only[Ax,Ap,U5,Mt,Te]);rw[h];(try dsimp only[Gb,U9])
 exact propext ⟨fun h=>h.2,fun q=>⟨hl,q⟩⟩
theorem Sx{a:Nat}{es:List (Int×V)}{k:Int}{v:V}{N:AH->Prop}(h:H a=some (.dict es))(hl:es.length<1048576):setItem (.ref a) (.int k) v H N=N (upd H a (.dict (C2 es k v))):=by
 delta setItem;(try dsimp only[Ax,Ap]);rw[h];(try dsimp only)
 exact propext ⟨fun h=>h.2,fun q=>⟨hl,q⟩⟩
theorem I3(es:List (Int×V))(k:Int)(v:V):(C2 es k v).map (·.1)=if k∈es.map (·.1)then es.map (·.1)else es.map (·.1) ++ [k]:=by
 induction es with
 | nil=>simp[C2]
 | cons e r ih=>
   obtain⟨k',v'⟩:=e
   unfold C2
   by_cases h:k=k'
   ·subst h;simp
   ·rw[if_neg h,List.map_cons,ih]
    by_cases h':k∈r.map (·.1)
    ·rw[if_pos h',if_pos (by simp only[List.map_cons];exact List.mem_cons_of_mem _ h')];rfl
    ·rw[if_neg h',if_neg (by simp only[List.map_cons,List.mem_cons];rintro(q|q);exact h q;exact h' q)];rfl
noncomputable abbrev Ta(ps:List (Int×Int))(x y:Int):Prop:=(x,y)∈ps\/(y,x)∈ps
noncomputable def Lc(ps:List (Int×Int))(i j:Nat):Bool:=decide (Ta ps i j)
noncomputable def Ee(m:Nat)(ps:List (Int×Int)):Prop:=∀p∈ps,(0<=p.1/\p.1<m)/\(0<=p.2/\p.2<m)/\p.1≠p.2
theorem Ta.in_{m:Nat}{ps:List (Int×Int)}{x y:Int}(g:Ee m ps)(h:Ta ps x y):(0<=x/\x<m)/\(0<=y/\y<m)/\x≠y:=by
 rcases h with h|h
 ·exact g _ h
 ·have:=g _ h;exact⟨this.2.1,this.1,Ne.symm this.2.2⟩
theorem Ta.symm{ps:List (Int×Int)}{x y:Int}(h:Ta ps x y):Ta ps y x:=Or.symm h
theorem E3{ps:List (Int×Int)}{t:Nat}{p:Int×Int}(h:ps[t]? = some p)(x y:Int):Ta (ps.take (t+1)) x y↔Ta (ps.take t) x y\/(x=p.1/\y=p.2)\/(x=p.2/\y=p.1):=by
 obtain⟨a,b⟩:=p
 unfold Ta
 rw[List.take_add_one,h]
 simp only[Option.toList_some,List.mem_append,List.mem_singleton,Prod.mk.injEq]
 constructor
 ·rintro((h|h)|(h | ⟨h1,h2⟩))
  ·exact .inl (.inl h)
  ·exact .inr (.inl h)
  ·exact .inl (.inr h)
  ·exact .inr (.inr ⟨h2,h1⟩)
 ·rintro((h|h)|(h | ⟨h1,h2⟩))
  ·exact .inl (.inl h)
  ·exact .inr (.inl h)
  ·exact .inl (.inr h)
  ·exact .inr (.inr ⟨h2,h1⟩)
theorem Ee.take{m t:Nat}{ps:List (Int×Int)}(g:Ee m ps):Ee m (ps.take t):=fun p hp=>g p (List.mem_of_mem_take hp)
noncomputable def Dr(H:AH)(a m:Nat)(A:Nat->Nat->Bool):Prop:=(Oo fun(as:List Nat)=>D3 (H a=some (.list (as.map V.ref))) (as.length=m) (∀(i x:Nat),as[i]? = some x->LI H x (Ay m A i)))
theorem Dr.ext{a m:Nat}{A:Nat->Nat->Bool}(h:Dr H a m A)(e:Ag H H'):Dr H' a m A:=by
 obtain⟨as,h1,h2,h3⟩:=h
 exact⟨as,e _ _ h1,h2,fun i x q=>(h3 i x q).ext e⟩
noncomputable def Bw(H:AH)(w m:Nat)(A:Nat->Nat->Bool):Prop:=(Ka fun(d rs:Nat)=>D3 (H w=some (.inst .web d)) (H d=some (.ns [(.many,.int m),(.rows,.ref rs)])) (Dr H rs m A))
theorem Bw.ext{w m:Nat}{A:Nat->Nat->Bool}(h:Bw H w m A)(e:Ag H H'):Bw H' w m A:=by
 refine Aa fun nY=>?_
 obtain⟨d,rs,h1,h2,h3⟩:=h
 refine nY ?_;clear nY
 exact⟨d,rs,e _ _ h1,e _ _ h2,h3.ext e⟩
theorem Mi{a:Nat}{as:List Nat}{row:Nat->List Int}{elt:Al->AH->(Option V->AH->Prop)->Prop}{Q:List V->AH->Prop}{y:Option V}(hA:H a=some (.list (as.map V.ref)))
 (step:∀i x H₁ (K:Option V->AH->Prop),as[i]? = some x->Ag H H₁->(∀b,H₁ b=none->K (some (.ref b)) (upd H₁ b (.list ((row i).map V.int))))->elt (some (.ref x)::ρ) H₁ K)
 (fin:∀(bs:List Nat) H₁,Ag H H₁->bs.length=as.length->(∀(i x:Nat),bs[i]? = some x->LI H₁ x (row i))->Q (bs.map V.ref) H₁) :
 Bm (fun H'=>H' a=some (.list (as.map V.ref))) (.one 0) elt Q ((as.map V.ref).map .v) [] (y::ρ) H:=by
 refine Cf (k:=0) (fun j acc H₁=>(Oo fun bs=>R7 (acc=bs.map V.ref) (Ag H H₁) (bs.length=j) (∀(i x:Nat),bs[i]? = some x->LI H₁ x (row i)))) ⟨[],rfl,Ag.refl,rfl,fun _ _ h=>absurd h.symm (Option.some_ne_none _)⟩ ?_ ?_
 ·rintro j x acc H₁ K hx ⟨bs,rfl,e,hl,hb⟩ hK
  rw[List.getElem?_map,List.getElem?_map]at hx
  obtain⟨v,hv,rfl⟩:=Option.map_eq_some_iff.mp hx
  obtain⟨x,hx',rfl⟩:=Option.map_eq_some_iff.mp hv
  refine⟨e _ _ hA,_,rfl,step j x H₁ K hx' e fun b hb0=>hK _ _ ⟨bs ++ [b],by simp,e.trans (Ag.upd hb0),by simp[hl],fun i y hy=>?_⟩⟩
  cases Nat.lt_or_ge i bs.length with
  | inl q=>rw[List.getElem?_append_left q]at hy;exact(hb i y hy).ext (Ag.upd hb0)
  | inr q=>
    rw[List.getElem?_append_right q]at hy
    have:i-bs.length=0:=by
     obtain⟨z,_⟩:=List.getElem?_eq_some_iff.mp hy
     simp at z;exact z
    rw[this]at hy
    simp at hy
    subst hy
    have:i=j:=(Q7 hl q this)
    subst this
    exact Ad
 ·rintro acc H₁ ⟨bs,rfl,e,hl,hb⟩
  exact⟨e _ _ hA,fin bs H₁ e (by simpa using hl) hb⟩
theorem E4{m:Nat}{l:List Int}(h:l.Nodup)(hin:∀x∈l,0<=x/\x<m):l.length<=m:=by
 have:=Us (A:=fun _ j=>decide ((j:Int)∈l)) (i:=0) (m:=m) h fun x=>by
  constructor
  ·intro hx
   have:=hin x hx
   exact⟨this.1,this.2,by simp only[decide_eq_true_eq];rwa[Int.toNat_of_nonneg this.1]⟩
  ·rintro⟨h1,h2,h3⟩
   simp only[decide_eq_true_eq]at h3
   rwa[Int.toNat_of_nonneg h1]at h3
 have h1:=Md l
 have h2:= @Px m (fun _ j=>decide ((j:Int)∈l)) 0
 rw[this]at h1
 exact h1▸h2
theorem Xl{m i:Nat}{ps:List (Int×Int)}{l:List Int}(g:Ee m ps)(h:l.Nodup)(hl:∀y,y∈l↔Ta ps i y):Bf l=Ay m (Lc ps) i:=
 Us h fun x=>by
  rw[hl]
  constructor
  ·intro h
   have:=h.in_ g
   refine⟨this.2.1.1,this.2.1.2,?_⟩
   unfold Lc
   rw[decide_eq_true_eq,Int.toNat_of_nonneg this.2.1.1];exact h
  ·rintro⟨h1,h2,h3⟩
   unfold Lc at h3
   rwa[decide_eq_true_eq,Int.toNat_of_nonneg h1]at h3
theorem Ag7(B:I8 G){m t:Nat}{ts:List Nat}{ps:List (Int×Int)}(hm:m<=60)(hT:H t=some (.list (ts.map V.ref)))(hP:A2 H ts ps)(g:Ee m ps)
 (q:∀a H',Ag H H'->H a=none->Dr H' a m (Lc ps)->Q (.ref a) H'):Ae G (n+1) "_law_near" [.int m,.ref t] H Q E:=by
 refine Af B.near rfl ?_
 simp (disch:=first|decide|omega) only[Jw,Jy,J0,J1,List.map,D1,D2,List.replicate,Bt,Bu,Oy]
 refine grK ?_
 simp (disch:=first|decide|omega) only[Jf,Js,Ju,Jv,J2,Qk,D1,D2,Ah,List.replicate]
 refine⟨by simp[Bs];exact Zq hm,Me (o:= .list []) (fun i H' K hi hK=>?_) fun as H' a ha c=>?_⟩
 ·skip
  exact fun x hx=>hK x hx
 refine Qz ?_
 simp (disch:=first|decide|omega) only[Jf,Ah,Am]
 refine Az (c.ext _ _ hT) ?_
 refine Lb (ps:=ps) (fun j ρ H₁=>(U8 fun(r3 r4:Option V) (L:Nat->List Int)=>D3 (ρ = [some (.int m),some (.ref t),some (.ref a),r3,r4]) (Iv H H₁ a as m (fun i=> .list ((L i).map V.int))) (∀i,i<m->(L i).Nodup/\∀y,y∈L i↔Ta (ps.take j) i y))) ?_ ?_ ?_ ?_
 ·exact⟨none,none,fun _=>[],rfl,c,fun i hi=>⟨List.nodup_nil,fun y=>by simp[Ta]⟩⟩
 ·rintro i ρ H₁ ⟨r3,r4,L,rfl,c,hL⟩
  exact⟨c.ext _ _ hT,hP.ext c.ext⟩
 ·rintro j p ρ H₁ K hp ⟨r3,r4,L,rfl,c,hL⟩ hK
  have gp:=g p (List.mem_of_getElem? hp)
  obtain⟨x,y⟩:=p
  simp only at gp ⊢
  obtain⟨x1,hx1,hx2,hx3⟩:=c.get (i:=x.toNat) (Xy gp.1.2 gp.2.1.1 gp.2.1.2)
  have hLx:=hL x.toNat (Xy gp.1.2 gp.2.1.1 gp.2.1.2)
  have hLy:=hL y.toNat (Q10 gp.2.1.1 gp.2.1.2)
  have ex:((x.toNat:Nat):Int)=x:=(Q15 gp.1.1)
  have ey:((y.toNat:Nat):Int)=y:=(Q15 gp.2.1.1)
  simp (disch:=first|decide|omega) only[J0,J1,Bt,Bu,Kf]
  refine Bg (!decide (y∈L x.toNat)) (fun Q' h'=>?_) ?_
  ·simp (disch:=first|decide|omega) only[Jf,Jl,Jq,Ah,Am,Bj c.at_ gp.1.1 hx2,Mg (show LI H₁ x1 (L x.toNat)from hx3)]
   exact h'
  split
  ·rename_i hh
   simp only[Bool.not_eq_true',decide_eq_false_iff_not]at hh
   have hnA:¬Ta (ps.take j) x y:=fun q=>hh ((hLx.2 y).mpr (by rw[ex];exact q))
   have hnx:x∉L y.toNat:=fun q=>hnA (by have:=(hLy.2 x).mp q;rw[ey]at this;exact this.symm)
   have hll:∀i,i<m->((L i).map V.int).length<1048576:=fun i hi=>by
    rw[List.length_map]
    have:=E4 (m:=m) (hL i hi).1 fun z hz=>((((hL i hi).2 z).mp hz).in_ g.take).2.1
    exact Xz hm this
   simp (disch:=first|decide|omega) only[Jf,Jq,Ju,Jv,Jx,J0,J1,Ah,Am,true_and,Bx,Bj c.at_ gp.1.1 hx2,Bp hx3,Cc hx3 (hll _ (X0 gp.1.2 ex))]
   have c1:=c.set hx1 (.list ((L x.toNat).map V.int ++ [.int y]))
   obtain⟨y1,hy1,hy2,hy3⟩:=c1.get (i:=y.toNat) (X0 gp.2.1.2 ey)
   rw[if_neg (show ¬y.toNat=x.toNat by exact Aib gp.2.2 ex ey)]at hy3
   simp (disch:=first|decide|omega) only[true_and,Bj c1.at_ gp.2.1.1 hy2,Bp hy3,Cc hy3 (hll _ (X0 gp.2.1.2 ey))]
   have c2:=c1.set hy1 (.list ((L y.toNat).map V.int ++ [.int x]))
   refine hK _ _ ⟨_,_,fun i=>if i=y.toNat then L y.toNat ++ [x]else if i=x.toNat then L x.toNat ++ [y]else L i,rfl,c2.congr fun i hi=>?_,fun i hi=>?_⟩
   ·by_cases h1:i=y.toNat
    ·simp[h1]
    ·by_cases h2:i=x.toNat
     ·have:¬x.toNat=y.toNat:=(Aic h1 h2)
      simp[h2,this]
     ·simp[h1,h2]
   ·have nd:∀(l:List Int) (z:Int),l.Nodup->z∉l->(l ++ [z]).Nodup:=fun l z h1 h2=>by
     rw[List.nodup_append]
     exact⟨h1,List.pairwise_singleton _ _,fun a ha b hb e=>h2 (by simp at hb;rw[<-hb,<-e];exact ha)⟩
    dsimp only
    by_cases h1:i=y.toNat
    ·subst h1
     rw[if_pos rfl]
     refine⟨nd _ _ hLy.1 hnx,fun z=>?_⟩
     rw[List.mem_append,hLy.2 z,E3 hp,ey]
     simp only[List.mem_singleton]
     constructor
     ·rintro(h|rfl)
      ·exact .inl h
      ·exact .inr (.inr (⟨trivial,rfl⟩))
     ·rintro(h | ⟨h1,h2⟩ | ⟨h1,h2⟩)
      ·exact .inl h
      ·exact absurd h1.symm gp.2.2
      ·exact .inr h2
    ·rw[if_neg h1]
     by_cases h2:i=x.toNat
     ·subst h2
      rw[if_pos rfl]
      refine⟨nd _ _ hLx.1 hh,fun z=>?_⟩
      rw[List.mem_append,hLx.2 z,E3 hp,ex]
      simp only[List.mem_singleton]
      constructor
      ·rintro(h|rfl)
       ·exact .inl h
       ·exact .inr (.inl (⟨trivial,rfl⟩))
      ·rintro(h | ⟨h1,h2⟩ | ⟨h1,h2⟩)
       ·exact .inl h
       ·exact .inr h2
       ·exact absurd h1 gp.2.2
     ·rw[if_neg h2]
      refine⟨(hL i hi).1,fun z=>?_⟩
      rw[(hL i hi).2 z,E3 hp]
      constructor
      ·exact .inl
      ·rintro(h | ⟨h3,h4⟩ | ⟨h3,h4⟩)
       ·exact h
       ·simp only at h3;exact(Ac0 h2 h3).elim
       ·simp only at h3;exact(Ac0 h1 h3).elim
  ·rename_i hh
   simp only[Bool.not_eq_true',decide_eq_false_iff_not,Classical.not_not]at hh
   simp (disch:=first|decide|omega) only[J0]
   have hA:Ta (ps.take j) x y:=by have:=(hLx.2 y).mp hh;rwa[ex]at this
   refine hK _ _ ⟨_,_,L,rfl,c,fun i hi=>⟨(hL i hi).1,fun z=>?_⟩⟩
   rw[(hL i hi).2 z,E3 hp]
   constructor
   ·exact .inl
   ·rintro(h | ⟨h3,h4⟩ | ⟨h3,h4⟩)
    ·exact h
    ·rw[h3,h4];exact hA
    ·rw[h3,h4];exact hA.symm
 ·rintro ρ H₁ ⟨r3,r4,L,rfl,c,hL⟩
  rw[List.take_of_length_le (Nat.le_refl _)]at hL
  refine gvK ?_
  simp (disch:=first|decide|omega) only[Jf,J2,D1,D2,Ah,Am,List.replicate]
  refine Az c.at_ ?_
  refine⟨by simp[Bs,c.len];exact Zq hm,Mi (row:=Ay m (Lc ps)) c.at_ (fun i x H₂ K hx e hK=>?_) fun bs H₂ e hbl hb b hb0=>?_⟩
  ·have hi:i<m:=by rw[<-c.len];exact(List.getElem?_eq_some_iff.mp hx).1
   have hxL:LI H₂ x (L i):=e _ _ (c.obj i x hx)
   have hlen:(L i).length<64:=by
    have:=E4 (m:=m) (hL i hi).1 fun z hz=>((((hL i hi).2 z).mp hz).in_ g).2.1
    exact Af2 hm this
   simp (disch:=first|decide|omega) only[Jf,Jo,Ju,Jv,Ah,Kg,Sw hxL hlen]
   intro b hb
   have:=hK b hb
   rwa[<-Xl g (hL i hi).1 (hL i hi).2]at this
  ·exact q b _ ((c.ext.trans e).trans (Ag.upd hb0)) ((c.ext.trans e).isNone hb0) ⟨bs,Ad,by rw[hbl,c.len],fun i x hx=>(hb i x hx).ext (Ag.upd hb0)⟩
set_option linter.all false
variable {G:A5} {n:Nat} {H H':AH} {Q:Ak} {E:EP} {C:CS} {ρ:Al}
theorem Hh{a d:Nat}{c:Cn}{fs:List (C9×V)}{t:C9}{v:V}(h:H a=some (.inst c d))(h':H d=some (.ns fs))(hv:Kt fs t=some v):getAttr (.ref a) t H Q=Q v H:=by
 delta getAttr;(try dsimp only[Ax]);rw[h];(try dsimp only[Op]);rw[h'];(try dsimp only[Td]);rw[hv];(try dsimp only[E8])
theorem M7{a d:Nat}{c:Cn}{fs:List (C9×V)}{t:C9}{v:V}{N:AH->Prop}(h:H a=some (.inst c d))(h':H d=some (.ns fs))(hl:fs.length<10):setAttr (.ref a) t v H N=N (upd H d (.ns (Hw fs t v))):=by
 delta setAttr;(try dsimp only[Ax]);rw[h];(try dsimp only[Op]);rw[h'];(try dsimp only[Td])
 exact propext ⟨fun h=>h.2,fun q=>⟨hl,q⟩⟩
theorem E5{a d:Nat}{c:Cn}{fs:List (C9×V)}{t:C9}{v:V}{N:AH->Prop}(h:H a=some (.inst c d))(h':H d=some (.ns fs))(hl:fs.length<10)(kk:N (upd H d (.ns (Hw fs t v)))):setAttr (.ref a) t v H N:=Eq.mpr (M7 h h' hl) kk
theorem Ael(B:I8 G){m t:Nat}{ts:List Nat}{ps:List (Int×Int)}(hm:m<=60)(hT:H t=some (.list (ts.map V.ref)))(hP:A2 H ts ps)(g:Ee m ps)
 (q:∀w H',Ag H H'->H w=none->Bw H' w m (Lc ps)->Q (.ref w) H'):Ae G (n+2) "web_of" [.int m,.ref t] H Q E:=by
 refine Af B.webOf rfl ?_
 simp (disch:=first|decide|omega) only[Jw,Jy,J0,J1,List.map,D1,D2,List.replicate,Th]
 refine Bg false (fun Q' h'=>?_) ?_
 ·simp (disch:=first|decide|omega) only[Je,Jf,Jg,Jm,J9,Br,Ah,Ag6 B.most]
  simp only[show decide ((0:Int)<=m)=true from rfl,show decide ((m:Int)<=60)=true by simp;exact Q90 hm,if_pos]
  exact h'
 rw[if_neg (by decide)]
 simp (disch:=first|decide|omega) only[J0]
 refine Qz ?_
 simp (disch:=first|decide|omega) only[Jf,Ah,Am]
 refine Az hT ?_
 refine Lb (ps:=ps) (fun j ρ H₁=>(Ka fun(r3 r4:Option V)=>ρ = [some (.int m),some (.ref t),r3,r4,none]/\H₁=H)) ⟨_,_,rfl,rfl⟩ ?_ ?_ ?_
 ·rintro i ρ H₁ hP18
  refine Aa fun nY=>?_
  obtain⟨r3,r4,rfl,rfl⟩:=hP18
  refine nY ?_;clear nY
  exact⟨hT,hP⟩
 ·rintro j hP19 ρ H₁ K hp hP20 hK
  refine Aa fun nY=>?_
  obtain⟨x,y⟩:=hP19
  obtain⟨r3,r4,rfl,rfl⟩:=hP20
  have gp:=g _ (List.mem_of_getElem? hp)
  refine nY ?_;clear nY
  simp only at gp ⊢
  simp (disch:=first|decide|omega) only[J0,J1,Bt,Bu,Na]
  refine Bg false (fun Q' h'=>?_) ?_
  ·simp (disch:=first|decide|omega) only[Je,Jf,Jg,Jj,Jl,Jm,J8,J9,Ok,Br,Ah,Am]
   simp only[show decide ((0:Int)<=x)=true by simp;exact gp.1.1,show decide (x<(m:Int))=true by simp;exact gp.1.2,show decide ((0:Int)<=y)=true by simp;exact gp.2.1.1,show decide (y<(m:Int))=true by simp;exact gp.2.1.2,show decide (x=y)=false by simp;exact gp.2.2,if_pos,Bool.not_true,Bool.false_eq_true,if_false]
   exact h'
  rw[if_neg (by decide)]
  simp (disch:=first|decide|omega) only[J0]
  exact hK _ _ ⟨_,_,rfl,rfl⟩
 rintro ρ H₁ hP21
 refine Aa fun nY=>?_
 obtain⟨r3,r4,rfl,rfl⟩:=hP21
 refine nY ?_;clear nY
 try simp (disch:=first|decide|omega) only[Bt,Bu]
 refine grK ?_
 simp (disch:=first|decide|omega) only[Jf,Ju,Jv,J2,Qk,D1,D2,Ah,List.replicate]
 refine⟨by simp[Bs];exact Zq hm,Me (o:= .dict []) (fun i H' K hi hK=>?_) fun as H' a ha c=>?_⟩
 ·simp only[Nb,Acz]
  exact fun x hx=>hK x hx
 refine Qz ?_
 simp (disch:=first|decide|omega) only[Jf,Ah,Am]
 refine Az (c.ext _ _ hT) ?_
 refine Lb (ps:=ps) (fun j ρ H₂=>(U8 fun(r3 r4:Option V) (L:Nat->List (Int×V))=>D3 (ρ = [some (.int m),some (.ref t),r3,r4,some (.ref a)]) (Iv H₁ H₂ a as m (fun i=> .dict (L i))) (∀i,i<m->((L i).map (·.1)).Nodup/\∀y,y∈(L i).map (·.1)↔Ta (ps.take j) i y))) ?_ ?_ ?_ ?_
 ·exact⟨_,_,fun _=>[],rfl,c,fun i hi=>⟨List.nodup_nil,fun y=>by simp[Ta]⟩⟩
 ·rintro i ρ H₂ hP22
  refine Aa fun nY=>?_
  obtain⟨r3,r4,L,rfl,c,hL⟩:=hP22
  refine nY ?_;clear nY
  exact⟨c.ext _ _ hT,hP.ext c.ext⟩
 ·rintro j p ρ H₂ K hp hP23 hK
  refine Aa fun nY=>?_
  obtain⟨r3,r4,L,rfl,c,hL⟩:=hP23
  have gp:=g p (List.mem_of_getElem? hp)
  obtain⟨x,y⟩:=p
  refine nY ?_;clear nY
  simp only at gp ⊢
  refine Aa fun nY=>?_
  obtain⟨x1,hx1,hx2,hx3⟩:=c.get (i:=x.toNat) (Xy gp.1.2 gp.2.1.1 gp.2.1.2)
  have hLx:=hL x.toNat (Xy gp.1.2 gp.2.1.1 gp.2.1.2)
  have hLy:=hL y.toNat (Q10 gp.2.1.1 gp.2.1.2)
  have ex:((x.toNat:Nat):Int)=x:=(Q15 gp.1.1)
  have ey:((y.toNat:Nat):Int)=y:=(Q15 gp.2.1.1)
  have hll:∀i,i<m->(L i).length<1048576:=fun i hi=>by
   have:=E4 (m:=m) (hL i hi).1 fun z hz=>((((hL i hi).2 z).mp hz).in_ g.take).2.1
   rw[List.length_map]at this
   exact Xz hm this
  refine nY ?_;clear nY
  simp (disch:=first|decide|omega) only[Jd,Jf,Jq,J0,J1,Ah,Am,Bt,Bu,Nc,Bl,Bj c.at_ gp.1.1 hx2,Sx hx3 (hll _ (show x.toNat<m by exact X0 gp.1.2 ex))]
  have c1:=c.set hx1 (.dict (C2 (L x.toNat) y (.bool true)))
  refine Aa fun nY=>?_
  obtain⟨y1,hy1,hy2,hy3⟩:=c1.get (i:=y.toNat) (X0 gp.2.1.2 ey)
  rw[if_neg (show ¬y.toNat=x.toNat by exact Aib gp.2.2 ex ey)]at hy3
  refine nY ?_;clear nY
  simp (disch:=first|decide|omega) only[Bj c1.at_ gp.2.1.1 hy2,Sx hy3 (hll _ (show y.toNat<m by exact X0 gp.2.1.2 ey))]
  have c2:=c1.set hy1 (.dict (C2 (L y.toNat) x (.bool true)))
  refine hK _ _ ⟨_,_,fun i=>if i=y.toNat then C2 (L y.toNat) x (.bool true)else if i=x.toNat then C2 (L x.toNat) y (.bool true)else L i,rfl,c2.congr fun i hi=>?_,fun i hi=>?_⟩
  ·refine Aa fun nY=>?_
   by_cases h1:i=y.toNat
   ·refine nY ?_;clear nY
    simp[h1]
   ·by_cases h2:i=x.toNat
    ·have:¬x.toNat=y.toNat:=(Aic h1 h2)
     refine nY ?_;clear nY
     simp[h2,this]
    ·refine nY ?_;clear nY
     simp[h1,h2]
  ·have nd:∀(l:List Int) (z:Int),l.Nodup->z∉l->(l ++ [z]).Nodup:=fun l z h1 h2=>by
    rw[List.nodup_append]
    exact⟨h1,List.pairwise_singleton _ _,fun a ha b hb e=>h2 (by simp at hb;rw[<-hb,<-e];exact ha)⟩
   have nd2:∀(es:List (Int×V)) (k:Int) (v:V),(es.map (·.1)).Nodup->((C2 es k v).map (·.1)).Nodup:=fun es k v h=>by
    rw[I3]
    split
    ·exact h
    ·exact nd _ _ h (by assumption)
   have mm:∀(es:List (Int×V)) (k:Int) (v:V) (z:Int),z∈(C2 es k v).map (·.1)↔z∈es.map (·.1)\/z=k:=fun es k v z=>by
    rw[I3]
    split
    ·rename_i hk
     exact⟨.inl,fun h=>h.elim id fun e=>e▸hk⟩
    ·rw[List.mem_append,List.mem_singleton]
   dsimp only
   refine Aa fun nY=>?_
   by_cases h1:i=y.toNat
   ·subst h1
    refine nY ?_;clear nY
    rw[if_pos rfl]
    refine⟨nd2 _ _ _ hLy.1,fun z=>?_⟩
    rw[mm,hLy.2 z,E3 hp,ey]
    constructor
    ·rintro(h|rfl)
     ·exact .inl h
     ·exact .inr (.inr (⟨rfl,rfl⟩))
    ·rintro(h | ⟨h1,h2⟩ | ⟨h1,h2⟩)
     ·exact .inl h
     ·exact absurd h1.symm gp.2.2
     ·exact .inr h2
   ·refine nY ?_;clear nY
    rw[if_neg h1]
    refine Aa fun nY=>?_
    by_cases h2:i=x.toNat
    ·subst h2
     refine nY ?_;clear nY
     rw[if_pos rfl]
     refine⟨nd2 _ _ _ hLx.1,fun z=>?_⟩
     rw[mm,hLx.2 z,E3 hp,ex]
     constructor
     ·rintro(h|rfl)
      ·exact .inl h
      ·exact .inr (.inl (⟨rfl,rfl⟩))
     ·rintro(h | ⟨h1,h2⟩ | ⟨h1,h2⟩)
      ·exact .inl h
      ·exact .inr h2
      ·exact absurd h1 gp.2.2
    ·refine nY ?_;clear nY
     rw[if_neg h2]
     refine⟨(hL i hi).1,fun z=>?_⟩
     rw[(hL i hi).2 z,E3 hp]
     constructor
     ·exact .inl
     ·rintro(h | ⟨h3,h4⟩ | ⟨h3,h4⟩)
      ·exact h
      ·simp only at h3;exact(Ac0 h2 h3).elim
      ·simp only at h3;exact(Ac0 h1 h3).elim
 ·rintro ρ H₂ hP24
  refine Aa fun nY=>?_
  obtain⟨r3,r4,L,rfl,c,hL⟩:=hP24
  rw[List.take_of_length_le (Nat.le_refl _)]at hL
  refine nY ?_;clear nY
  refine Z4 ?_
  refine⟨by rw[show Ds .web=Str.ofString "Web.__init__" from rfl,B.init];rfl,?_⟩
  simp (disch:=first|decide|omega) only[Jf,Ju,Jv,Ah]
  refine gvK ?_
  simp (disch:=first|decide|omega) only[Jf,J2,D1,D2,Ah,Am,List.replicate]
  refine Az c.at_ ?_
  refine⟨by simp[Bs,c.len];exact Zq hm,Mi (row:=Ay m (Lc ps)) c.at_ (fun i x H₂ K hx e hK=>?_) fun bs H₂ e hbl hb b hb0=>?_⟩
  ·have hi:i<m:=by rw[<-c.len];exact(List.getElem?_eq_some_iff.mp hx).1
   have hxL:H₂ x=some (.dict (L i)):=e _ _ (c.obj i x hx)
   have hlen:(L i).length<64:=by
    have:=E4 (m:=m) (hL i hi).1 fun z hz=>((((hL i hi).2 z).mp hz).in_ g).2.1
    rw[List.length_map]at this
    exact Af2 hm this
   simp (disch:=first|decide|omega) only[Jf,Jo,Ju,Jv,Ah,Nd,Xk hxL hlen]
   intro b hb
   have:=hK b hb
   rwa[<-Xl g (hL i hi).1 (hL i hi).2]at this
  ·intro w d hw hd hwd
   have eb:Ag H₂ (upd H₂ b (.list (bs.map V.ref))):=Ag.upd hb0
   have hnb:Dr (upd H₂ b (.list (bs.map V.ref))) b m (Lc ps):=⟨bs,Ad,by rw[hbl,c.len],fun i x hx=>(hb i x hx).ext eb⟩
   have eH:=(c.ext.trans e).trans eb
   generalize upd H₂ b (.list (bs.map V.ref))=H₃ at *
   refine Af B.init rfl ?_
   have hw1:upd (upd H₃ d (.ns [])) w (.inst .web d) w=some (.inst .web d):=Ad
   have hd1:upd (upd H₃ d (.ns [])) w (.inst .web d) d=some (.ns []):=by rw[upd_ne (Ne.symm hwd),Ad]
   have hw2:upd (upd (upd H₃ d (.ns [])) w (.inst .web d)) d (.ns (Hw [] .many (.int m))) w=some (.inst .web d):=by rw[upd_ne hwd];exact hw1
   have hd2:upd (upd (upd H₃ d (.ns [])) w (.inst .web d)) d (.ns (Hw [] .many (.int m))) d=some (.ns (Hw [] .many (.int m))):=Ad
   simp (disch:=first|decide|omega) only[Jf,J0,J1,List.map,D1,D2,Ah,Am,true_and,Li,Bz,M7 hw1 hd1 (by decide),M7 hw2 hd2 (show (Hw [] C9.many (V.int m)).length<10 from(by decide:(1:Nat)<10))]
   refine q w _ ?_ (eH.isNone hw) ⟨d,b,?_,Ad,hnb.ext ?_⟩
   ·exact(((eH.trans (Ag.upd hd)).upd' (eH.isNone hw)).upd' (eH.isNone hd)).upd' (eH.isNone hd)
   ·rw[upd_ne hwd];exact hw2
   ·exact(((Ag.upd hd).upd' hw).upd' hd).upd' hd
theorem M8(B:I8 G){w m:Nat}{A:Nat->Nat->Bool}{x:Int}(hW:Bw H w m A)(h0:0<=x)(h1:x<m)(q:Q .none H):Ae G (n+1) "Web.need" [.ref w,.int x] H Q E:=by
 refine Aa fun nY=>?_
 obtain⟨d,rs,h2,h3,h4⟩:=hW
 refine nY ?_;clear nY
 refine Af B.need rfl ?_
 simp (disch:=first|decide|omega) only[J0,J1,List.map,D1,D2,Kw]
 refine Bg false (fun Q' h'=>?_) ?_
 ·simp (disch:=first|decide|omega) only[Je,Jf,Jg,Jm,Jp,J8,J9,Br,Ah,Am,Hh h2 h3 (show Kt [(C9.many,V.int m),(C9.rows,V.ref rs)] .many=some (.int m)from rfl)]
  simp only[show decide ((0:Int)<=x)=true by simp;exact h0,show decide (x<(m:Int))=true by simp;exact h1,if_pos]
  exact h'
 rw[if_neg (by decide)]
 simp (disch:=first|decide|omega) only[J0]
 exact q
theorem Dr.row{a m:Nat}{A:Nat->Nat->Bool}(h:Dr H a m A){x:Int}(h0:0<=x)(h1:x<m):(Ka fun(as:List Nat) (y:Nat)=>R7 (H a=some (.list (as.map V.ref))) (as.length=m) ((as.map V.ref)[x.toNat]? = some (.ref y)) (LI H y (Ay m A x.toNat))):=by
 refine Aa fun nY=>?_
 obtain⟨as,a1,a2,a3⟩:=h
 have hl:x.toNat<as.length:=(Nat.lt_of_lt_of_eq ((Int.toNat_lt h0).mpr h1) a2.symm)
 refine nY ?_;clear nY
 exact⟨as,as[x.toNat],a1,a2,by rw[List.getElem?_map,List.getElem?_eq_getElem hl];rfl,a3 _ _ (List.getElem?_eq_getElem hl)⟩
theorem Sy{m:Nat}{A:Nat->Nat->Bool}{x y:Int}(h0:0<=y)(h1:y<m):decide (y∈Ay m A x.toNat)=A x.toNat y.toNat:=by
 by_cases h:A x.toNat y.toNat=true
 ·rw[h,decide_eq_true_eq,Bd];exact⟨h0,h1,h⟩
 ·rw[Bool.not_eq_true]at h
  rw[h,decide_eq_false_iff_not,Bd]
  rintro⟨_,_,q⟩;rw[h]at q;cases q
theorem Sz(B:I8 G){w m:Nat}{A:Nat->Nat->Bool}{x y:Int}(hW:Bw H w m A)(h0:0<=x)(h1:x<m)(h2:0<=y)(h3:y<m)(q:Q (.bool (A x.toNat y.toNat)) H):Ae G (n+2) "Web.tied" [.ref w,.int x,.int y] H Q E:=by
 have hW':=hW
 refine Aa fun nY=>?_
 obtain⟨d,rs,w1,w2,w3⟩:=hW'
 obtain⟨as,z,a1,a2,a3,a4⟩:=w3.row h0 h1
 refine nY ?_;clear nY
 refine Af B.tied rfl ?_
 simp (disch:=first|decide|omega) only[Jf,Jl,Jp,Jq,Ju,Jv,Jx,Jy,J0,J1,List.map,D1,D2,Ah,Am,Ca,true_and,Ov,Av,Da,Db,Fe,w1,w2,B.need]
 refine M8 B hW h0 h1 ?_
 (try dsimp only)
 simp only[Da,w1,Db,w2,Fe]
 refine M8 B hW h2 h3 ?_
 simp (disch:=first|decide|omega) only[Hh w1 w2 (show Kt [(C9.many,V.int m),(C9.rows,V.ref rs)] .rows=some (.ref rs)from rfl),Bj a1 h0 a3,Aek a4,Sy h2 h3]
 exact q
set_option linter.all false
variable {G:A5} {n:Nat} {H H':AH} {Q:Ak} {E:EP} {C:CS} {ρ:Al}
theorem Ld{g:AH->Prop}{l:List Int}{h:Int->V}{elt:Al->AH->(Option V->AH->Prop)->Prop}{Q:List V->AH->Prop}{y:Option V}(hg:g H)
 (step:∀x∈l,∀K:Option V->AH->Prop,K (some (h x)) H->elt (some (.int x)::ρ) H K) (fin:Q (l.map h) H):Bm g (.one 0) elt Q ((l.map V.int).map .v) [] (y::ρ) H:=by
 refine E2 (f:=fun v=>match v with | .int x=>some (h x)|_=>none) hg (fun v hv K hK=>?_) ?_
 ·obtain⟨x,hx,rfl⟩:=List.mem_map.mp hv
  exact step x hx K hK
 ·rw[List.filterMap_map]
  have:l.filterMap ((fun v=>match v with | .int x=>some (h x)|_=>none)∘V.int)=l.map h:=by
   rw[<-List.filterMap_eq_map];rfl
  rw[this];exact fin
theorem Iw{g:AH->Prop}{l:List Int}{p:Int->Bool}{elt:Al->AH->(Option V->AH->Prop)->Prop}{Q:List V->AH->Prop}{y:Option V}(hg:g H)
 (step:∀x∈l,∀K:Option V->AH->Prop,K (if p x then some (.int x)else none) H->elt (some (.int x)::ρ) H K) (fin:Q ((l.filter p).map V.int) H):Bm g (.one 0) elt Q ((l.map V.int).map .v) [] (y::ρ) H:=by
 refine E2 (f:=fun v=>match v with | .int x=>if p x then some (.int x)else none|_=>none) hg (fun v hv K hK=>?_) ?_
 ·obtain⟨x,hx,rfl⟩:=List.mem_map.mp hv
  exact step x hx K hK
 ·rw[List.filterMap_map]
  have:l.filterMap ((fun v=>match v with | .int x=>if p x then some (.int x)else none|_=>none)∘V.int)=(l.filter p).map V.int:=by
   clear fin step
   induction l with
   | nil=>rfl
   | cons x r ih=>
     rw[List.filterMap_cons,ih,List.filter_cons]
     by_cases hp:p x=true<;>simp[hp,Function.comp]
  rw[this];exact fin
theorem Yz{a:Nat}{xs:List V}{t u:Nat}{body:Al->AH->(Al->AH->Prop)->Prop}{N:Al->AH->Prop}(I:Nat->Al->AH->Prop)(h0:I 0 ρ H)(hg:∀i ρ H,I i ρ H->H a=some (.list xs))
 (step:∀i x ρ H K,xs[i]? = some x->I i ρ H->(∀ρ'' H'',I (i+1) ρ'' H''->K ρ'' H'')->body ((ρ.set t (some (.int i))).set u (some x)) H K) (fin:∀ρ H,I xs.length ρ H->N ρ H) :
 loop (fun H=>H a=some (.list xs)) (.two t u) body N (xs.mapIdx fun i x=> .pair (.int i) x) ρ H:=by
 refine Io (k:=0) I h0 (fun i x ρ H K hx hI hK=>⟨hg _ _ _ hI,?_⟩) fun ρ H hI=>⟨hg _ _ _ hI,fin ρ H (by simpa using hI)⟩
 rw[List.getElem?_mapIdx]at hx
 obtain⟨j,hj,rfl⟩:=Option.map_eq_some_iff.mp hx
 exact step i j ρ H K hj (by simpa using hI) fun ρ'' H'' h=>hK ρ'' H'' (by simpa using h)
theorem Wh{α0:Type}{a:Nat}{xs:List V}{t u:Nat}{body:Al->AH->(Al->AH->Prop)->Prop}{N:Al->AH->Prop}(f:Nat->α0->Al)(T:Nat->α0->AH->Prop)(x0:α0)(hρ:ρ=f 0 x0)(h0:T 0 x0 H)(hg:∀i x0 H,T i x0 H->H a=some (.list xs))(step:∀i x y0 H K,xs[i]? = some x->T i y0 H->(∀z0 H'',T (i+1) z0 H''->K (f (i+1) z0) H'')->body (((f i y0).set t (some (.int i))).set u (some x)) H K)(fin:∀x0 H,T xs.length x0 H->N (f xs.length x0) H):loop (fun H=>H a=some (.list xs)) (.two t u) body N (xs.mapIdx fun i x=> .pair (.int i) x) ρ H:=by
 refine Yz (fun i ρ H=>∃x0,ρ=f i x0/\T i x0 H) ⟨x0,hρ,h0⟩ (fun i _ H h=>?_) (fun i x _ H K hx h hK=>?_) fun _ H h=>?_
 ·obtain⟨x0,_,h⟩:=h;exact hg _ _ _ h
 ·obtain⟨y0,rfl,h⟩:=h;exact step i x y0 H K hx h fun z0 H'' h'=>hK _ _ ⟨z0,rfl,h'⟩
 ·obtain⟨x0,rfl,h⟩:=h;exact fin _ _ h
theorem Ut{α0 α1 α2:Type}{a:Nat}{xs:List V}{t u:Nat}{body:Al->AH->(Al->AH->Prop)->Prop}{N:Al->AH->Prop}(f:Nat->α0->α1->α2->Al)(T:Nat->α0->α1->α2->AH->Prop)(x0:α0)(x1:α1)(x2:α2)(hρ:ρ=f 0 x0 x1 x2)(h0:T 0 x0 x1 x2 H)(hg:∀i x0 x1 x2 H,T i x0 x1 x2 H->H a=some (.list xs))(step:∀i x y0 y1 y2 H K,xs[i]? = some x->T i y0 y1 y2 H->(∀z0 z1 z2 H'',T (i+1) z0 z1 z2 H''->K (f (i+1) z0 z1 z2) H'')->body (((f i y0 y1 y2).set t (some (.int i))).set u (some x)) H K)(fin:∀x0 x1 x2 H,T xs.length x0 x1 x2 H->N (f xs.length x0 x1 x2) H):loop (fun H=>H a=some (.list xs)) (.two t u) body N (xs.mapIdx fun i x=> .pair (.int i) x) ρ H:=
 Wh (fun i p=>f i p.1 p.2.1 p.2.2) (fun i p=>T i p.1 p.2.1 p.2.2) (x0,x1,x2) hρ h0 (fun i p=>hg i p.1 p.2.1 p.2.2) (fun i x p H K hx h hK=>step i x p.1 p.2.1 p.2.2 H K hx h fun z0 z1 z2 H' h'=>hK (z0,z1,z2) H' h') fun p=>fin p.1 p.2.1 p.2.2
theorem Y0(l:List Bool):bools? (l.map V.bool)=some l:=by
 induction l with
 | nil=>rfl
 | cons x r ih=>exact(show bools? ((x::r).map V.bool)=(bools? (r.map V.bool)).map (x :: ·)from rfl).trans (by rw[ih];rfl)
theorem Ajd{a:Nat}{l:List Bool}(h:H a=some (.list (l.map V.bool))):Cj .all [.ref a] H Q=Q (.bool (l.all id)) H:=by delta Cj;dsimp only;(first|delta Oq|delta Hx|delta Hy|delta Os);(try dsimp only[Ax,Ap,U5,Mt,Te]);rw[h];(try dsimp only[Gb,U9]);rw[Y0];(try dsimp only[Gb,E8])
theorem Ag8{a:Nat}{l:List Bool}(h:H a=some (.list (l.map V.bool)))(kk:Q (.bool (l.all id)) H):Cj .all [.ref a] H Q:=Eq.mpr (Ajd h) kk
noncomputable def fu(A:Nat->Nat->Bool):List Int->Option (Int×Int)
 | []=>none
 | x::r=>match r.find? (fun y=> !A x.toNat y.toNat)with
   | some y=>some (x,y)
   | none=>fu A r
theorem Om{A:Nat->Nat->Bool}{x:Int}{r:List Int}:fu A (x::r)=match r.find? (fun y=> !A x.toNat y.toNat)with
 | some y=>some (x,y)
 | none=>fu A r:=rfl
theorem Xm{A:Nat->Nat->Bool}:∀ {l:List Int},fu A l=none↔l.Pairwise (fun x y=>A x.toNat y.toNat=true):=by
 intro l
 induction l with
 | nil=>exact⟨fun _=> .nil,fun _=>rfl⟩
 | cons x r ih=>
   rw[Om,List.pairwise_cons]
   cases h:r.find? (fun y=> !A x.toNat y.toNat)with
   | some y=>exact⟨fun q=>absurd q (Option.some_ne_none _),fun q=>absurd (q.1 y (List.mem_of_find?_eq_some h)) (Bool.eq_false_iff.mp ((Bool.not_eq_true' _).mp (List.find?_some (p:=fun y:Int=> !A x.toNat y.toNat) h)))⟩
   | none=>exact ih.trans ⟨fun q=>⟨fun y hy=>(Bool.not_eq_false' _).mp (Bool.eq_false_iff.mpr (List.find?_eq_none.mp h y hy)),q⟩,fun q=>q.2⟩
theorem LI.at_{a:Nat}{l:List Int}{i:Nat}{v:V}(hv:(l.map V.int)[i]? = some v):∃x,l[i]? = some x/\v = .int x:=by
 rw[List.getElem?_map]at hv
 obtain⟨x,hx,rfl⟩:=Option.map_eq_some_iff.mp hv
 exact⟨x,hx,rfl⟩
theorem Ci{l:List Int}{i:Nat}{x:Int}(h:l[i]? = some x):l.drop i=x::l.drop (i+1):=by
 obtain⟨h1,h2⟩:=List.getElem?_eq_some_iff.mp h
 rw[List.drop_eq_getElem_cons h1,h2]
theorem Ga(B:I8 G)(hG:G.fn "first_untied" = some Dg){w m r:Nat}{A:Nat->Nat->Bool}{l:List Int}(hW:Bw H w m A)(hL:LI H r l)(hin:∀x∈l,0<=x/\x<m)
 (q:∀H',Ag H H'->match fu A l with|none=>Q .none H'|some (x,y)=>∀a,H' a=none->Q (.ref a) (upd H' a (.tuple [.int x,.int y]))):Ae G (n+3) "first_untied" [.ref w,.ref r] H Q E:=by
 refine Af hG rfl ?_
 simp (disch:=first|decide|omega) only[Jb,Jy,J0,J1,List.map,D1,D2,List.replicate,Dg]
 refine Z5 (Ac5 ?_)
 simp (disch:=first|decide|omega) only[Jf,Ah,Am]
 refine Ab0 hL ?_
 refine Ut (fun i r2 r3 r4=>[some (.ref w),some (.ref r),r2,r3,r4]) (fun i r2 r3 r4 H₁=>(Ag H H₁)/\(fu A l=fu A (l.drop i))) none none none rfl ⟨Ag.refl,rfl⟩ ?_ ?_ ?_
 ·rintro i r2 r3 r4 H₁ ⟨e,hf⟩
  exact e _ _ hL
 ·rintro i v r2 r3 r4 H₁ K hv ⟨e,hf⟩ hK
  obtain⟨x,hx,rfl⟩:=LI.at_ (a:=r) hv
  have hxr:=hin x (List.mem_of_getElem? hx)
  rw[Ci hx,Om]at hf
  simp (disch:=first|decide|omega) only[J0,J1,Bt,Bu,Fj]
  refine Qz ?_
  simp (disch:=first|decide|omega) only[Jc,Je,Jf,Jk,Jr,J6,Ah,Am]
  (refine Dm (e _ _ hL) Ks Iu ?_;rw[Pw Ac1])
  intro s hs
  rw[show ((i:Int)+1).toNat=i+1 by exact Ac2,<-List.map_drop]
  refine Az Ad ?_
  have eW:=e.trans (Ag.upd (o:= .list ((l.drop (i+1)).map V.int)) hs)
  have hsv:upd H₁ s (.list ((l.drop (i+1)).map V.int)) s=some (.list ((l.drop (i+1)).map V.int)):=Ad
  generalize upd H₁ s (.list ((l.drop (i+1)).map V.int))=H₂ at *
  refine C3 (fun j r4=>[some (.ref w),some (.ref r),some (.int i),some (.int x),r4]) (fun j r4 H₃=>(H₃=H₂)/\((l.drop (i+1)).find? (fun y=> !A x.toNat y.toNat)=((l.drop (i+1)).drop j).find? (fun y=> !A x.toNat y.toNat))) _ rfl ⟨rfl,rfl⟩ ?_ ?_ ?_
  ·rintro j r4 H₃ ⟨rfl,hj⟩;exact hsv
  ·rintro j v r4 H₃ K' hv ⟨rfl,hj⟩ hK'
   obtain⟨y,hy,rfl⟩:=LI.at_ (a:=r) hv
   have hyr:=hin y (List.mem_of_mem_drop (List.mem_of_getElem? hy))
   rw[Ci hy,List.find?_cons]at hj
   obtain⟨d,rs,w1,w2,w3⟩:=hW.ext eW
   simp (disch:=first|decide|omega) only[J0,J1,Bt,Bu,Fi]
   refine Bg (!A x.toNat y.toNat) (fun Q' h'=>?_) ?_
   ·simp (disch:=first|decide|omega) only[Jf,Jg,Ju,Jv,Ah,Am,Ca,true_and,Av,Da,Db,Fe,w1,w2,B.tied]
    exact Sz B (hW.ext eW) hxr.1 hxr.2 hyr.1 hyr.2 h'
   split
   ·rename_i hh
    simp (disch:=first|decide|omega) only[Jf,Jt,Ju,Jv,Jy,J0,J1,Ah,Am]
    rw[hh]at hj
    simp only at hj
    rw[hj]at hf
    have:=q _ eW
    rw[hf]at this
    exact this
   ·rename_i hh
    simp (disch:=first|decide|omega) only[J0]
    rw[Bool.not_eq_true]at hh
    rw[hh]at hj
    exact hK' _ _ ⟨rfl,hj⟩
  ·rintro r4 H₃ ⟨rfl,hj⟩
   rw[List.length_map,List.drop_of_length_le (Nat.le_refl _),List.find?_nil]at hj
   rw[hj]at hf
   exact hK _ _ _ _ ⟨eW,hf⟩
 ·rintro r2 r3 r4 H₁ ⟨e,hf⟩
  rw[List.length_map,List.drop_of_length_le (Nat.le_refl _)]at hf
  have:=q H₁ e
  rw[hf]at this
  exact this
set_option linter.all false
structure Gr(A:Nat->Nat->Bool):Prop where
 irr:∀i,A i i=false
 symm:∀i j,A i j=A j i
theorem Py{l:List Int}{i j:Nat}{x:Int}(h:l.Nodup)(h1:l[i]? = some x)(h2:l[j]? = some x):i=j:=by
 obtain⟨a1,a2⟩:=List.getElem?_eq_some_iff.mp h1
 obtain⟨b1,b2⟩:=List.getElem?_eq_some_iff.mp h2
 have h':=List.pairwise_iff_getElem.mp h
 rcases Nat.lt_trichotomy i j with q|q|q
 ·exact absurd (a2.trans b2.symm) (h' i j a1 b1 q)
 ·exact q
 ·exact absurd (b2.trans a2.symm) (h' j i b1 a1 q)
variable {G:A5} {n:Nat} {H H':AH} {Q:Ak} {E:EP} {C:CS} {ρ:Al}
theorem Ab8{a:Nat}{xs:List V}{k:Int}{x:V}(h:H a=some (.list xs))(h0:k<0)(h1:0<=k+xs.length)(hx:xs[(k+xs.length).toNat]? = some x):D4 (.ref a) (.int k) H Q=Q x H:=by
 have:Ct k xs.length=some (k+xs.length).toNat:=by delta Ct;rw[if_neg (Int.not_le.mpr h0),if_pos h1]
 delta D4;(try dsimp only[Ap]);rw[h];(try dsimp only);rw[this];(try dsimp only[E8]);rw[hx]
theorem Aem{a:Nat}{xs:List V}{k:Int}{x:V}(h:H a=some (.list xs))(h0:k<0)(h1:0<=k+xs.length)(hx:xs[(k+xs.length).toNat]? = some x)(kk:Q x H):D4 (.ref a) (.int k) H Q:=Eq.mpr (Ab8 h h0 h1 hx) kk
theorem Aen{n:Nat}{x y:Int}:Mu n H (.int x) (.int y)=some (decide (x=y)):=by cases n<;>rfl
theorem Ab9(n:Nat):∀l l':List Int,l.length=l'.length->Gw (List.zipWith (Mu n H) (l.map V.int) (l'.map V.int))=some (decide (l=l')):=by
 intro l
 induction l with
 | nil=>exact fun l' h=>by cases l' with
   | nil=>rfl
   | cons _ _=>cases h
 | cons x r ih=>exact fun l' h=>by cases l' with
   | nil=>cases h
   | cons y s=>
     show Gw (Mu n H (.int x) (.int y)::List.zipWith (Mu n H) (r.map V.int) (s.map V.int))=_
     rw[Aen]
     show (Gw _).map _=_
     rw[ih s (Nat.succ.inj h)]
     show some (decide (x=y)&&decide (r=s))=_
     rw[<-Bool.decide_and]
     exact congrArg some (decide_eq_decide.mpr List.cons_eq_cons.symm)
theorem Ag9{n a b:Nat}{xs ys:List V}(h:H a=some (.list xs))(h':H b=some (.list ys)):Mu (n+1) H (.ref a) (.ref b)=if xs.length=ys.length then Gw (List.zipWith (Mu n H) xs ys)else some false:=by
 conv=>lhs;whnf
 rw[h,h']
theorem Aca{n a b:Nat}{l l':List Int}(h:LI H a l)(h':LI H b l'):Mu (n+1) H (.ref a) (.ref b)=some (decide (l=l')):=by
 rw[Ag9 h h',List.length_map,List.length_map]
 split
 ·rename_i q;exact Ab9 n l l' q
 ·rename_i q
  rw[decide_eq_false (fun e=>q (by rw[e]))]
theorem Aje{a b:Nat}{l l':List Int}(h:LI H a l)(h':LI H b l'):Ba .Eq (.ref a) (.ref b) H Q=Q (.bool (decide (l=l'))) H:=by
 have:Mu Fc H (.ref a) (.ref b)=some (decide (l=l')):=Aca h h'
 delta Ba;(try dsimp only);rw[this];(try dsimp only[E8])
theorem S0{a b:Nat}{l l':List Int}(h:LI H a l)(h':LI H b l')(kk:Q (.bool (decide (l=l'))) H):Ba .Eq (.ref a) (.ref b) H Q:=Eq.mpr (Aje h h') kk
theorem Afq{a b:Nat}{l l':List Int}(h:LI H a l)(h':LI H b l'):Ba .NotEq (.ref a) (.ref b) H Q=Q (.bool (!decide (l=l'))) H:=by
 have:Mu Fc H (.ref a) (.ref b)=some (decide (l=l')):=Aca h h'
 delta Ba;(try dsimp only);rw[this];(try dsimp only[E8])
theorem Wi{a b:Nat}{l l':List Int}(h:LI H a l)(h':LI H b l')(kk:Q (.bool (!decide (l=l'))) H):Ba .NotEq (.ref a) (.ref b) H Q:=Eq.mpr (Afq h h') kk
theorem LI.sub{a:Nat}{l:List Int}{x:Int}{i:Nat}(hx:l[i]? = some x):(l.map V.int)[(i:Int).toNat]? = some (.int x):=by
 rw[Int.toNat_natCast,List.getElem?_map,hx];rfl
set_option linter.all false
variable {G:A5} {n:Nat} {H H':AH} {Q:Ak} {E:EP} {C:CS} {ρ:Al}
theorem Ajf{a:Nat}{xs:List V}(h:H a=some (.list xs)):Ce (.ref a) .none .none (.int (-1)) H Q=Ao (.list xs.reverse) H Q:=by
 show Gb (H a) (fun xs=>none=(none:Option Int)/\(-1:Int) = -1/\Ao (.list xs.reverse) H Q)=_
 rw[h];exact propext ⟨fun q=>q.2.2,fun q=>⟨rfl,rfl,q⟩⟩
theorem Aha{a:Nat}{xs:List V}(h:H a=some (.list xs))(kk:Ao (.list xs.reverse) H Q):Ce (.ref a) .none .none (.int (-1)) H Q:=Eq.mpr (Ajf h) kk
theorem Hi{a:Nat}{xs:List V}(h:H a=some (.list xs)):Cj .list [.ref a] H Q=Ao (.list xs) H Q:=by
 delta Cj;dsimp only;(first|delta Oq|delta Hx|delta Hy|delta Os);(try dsimp only[Ax,Ap,U5,Mt,Te]);rw[h];(try dsimp only[Gb,U9])
theorem Acb{a:Nat}{xs:List V}(h:H a=some (.list xs))(kk:Ao (.list xs) H Q):Cj .list [.ref a] H Q:=Eq.mpr (Hi h) kk
theorem Aeo{a:Nat}{xs:List V}(h:H a=some (.list xs)):Ew .clear (.ref a) [] H Q=Q .none (upd H a (.list [])):=by
 delta Ew;dsimp only;(first|delta Dw|delta Fy|delta Dx|delta Fz|delta Dy|delta Cw|delta Bq);(try dsimp only[Ax,Ap,U5,Mt,Te]);rw[h];(try dsimp only[Gb,U9])
theorem Acc{a b:Nat}{xs ys:List V}(h:H a=some (.list xs))(h':H b=some (.list ys))(hab:a≠b)(hl:xs.length+ys.length<=1048576):Ew .extend (.ref a) [.ref b] H Q=Q .none (upd H a (.list (xs++ys))):=by
 delta Ew;dsimp only;(first|delta Dw|delta Fy|delta Dx|delta Fz|delta Dy|delta Cw|delta Bq);(try dsimp only[Ax,Ap,U5,Mt,Te]);rw[h];(try dsimp only[Gb,U9]);rw[h'];(try dsimp only[Gb,E8])
 exact propext ⟨fun h=>h.2,fun q=>⟨⟨hab,hl⟩,q⟩⟩
theorem seq{s:S}{rest:List S}{N:Al->AH->Prop}{R:Ak}(T:Al->AH->Prop)(h1:∀N:Al->AH->Prop,(∀ρ H,T ρ H->N ρ H)->Gv G C s ρ H N R E)(h2:∀ρ H,T ρ H->A1 G C rest ρ H N R E):A1 G C (s::rest) ρ H N R E:=by
 refine Ab ?_;exact h1 _ h2
theorem Ef{s:S}{rest:List S}{N:Al->AH->Prop}{R:Ak}(f:Al)(T:AH->Prop)(h1:∀N:Al->AH->Prop,(∀H,T H->N f H)->Gv G C s ρ H N R E)(h2:∀H,T H->A1 G C rest f H N R E):A1 G C (s::rest) ρ H N R E:=
 Ab (h1 _ h2)
theorem C0{α0:Type}{s:S}{rest:List S}{N:Al->AH->Prop}{R:Ak}(f:α0->Al)(T:α0->AH->Prop)(h1:∀N:Al->AH->Prop,(∀x0 H,T x0 H->N (f x0) H)->Gv G C s ρ H N R E)(h2:∀x0 H,T x0 H->A1 G C rest (f x0) H N R E):A1 G C (s::rest) ρ H N R E:=
 Ab (h1 _ h2)
theorem Y1{α0 α1:Type}{s:S}{rest:List S}{N:Al->AH->Prop}{R:Ak}(f:α0->α1->Al)(T:α0->α1->AH->Prop)(h1:∀N:Al->AH->Prop,(∀x0 x1 H,T x0 x1 H->N (f x0 x1) H)->Gv G C s ρ H N R E)(h2:∀x0 x1 H,T x0 x1 H->A1 G C rest (f x0 x1) H N R E):A1 G C (s::rest) ρ H N R E:=
 Ab (h1 _ h2)
theorem Ala{α0 α1 α2:Type}{s:S}{rest:List S}{N:Al->AH->Prop}{R:Ak}(f:α0->α1->α2->Al)(T:α0->α1->α2->AH->Prop)(h1:∀N:Al->AH->Prop,(∀x0 x1 x2 H,T x0 x1 x2 H->N (f x0 x1 x2) H)->Gv G C s ρ H N R E)(h2:∀x0 x1 x2 H,T x0 x1 x2 H->A1 G C rest (f x0 x1 x2) H N R E):A1 G C (s::rest) ρ H N R E:=
 Ab (h1 _ h2)
theorem Al9{α0 α1 α2 α3:Type}{s:S}{rest:List S}{N:Al->AH->Prop}{R:Ak}(f:α0->α1->α2->α3->Al)(T:α0->α1->α2->α3->AH->Prop)(h1:∀N:Al->AH->Prop,(∀x0 x1 x2 x3 H,T x0 x1 x2 x3 H->N (f x0 x1 x2 x3) H)->Gv G C s ρ H N R E)(h2:∀x0 x1 x2 x3 H,T x0 x1 x2 x3 H->A1 G C rest (f x0 x1 x2 x3) H N R E):A1 G C (s::rest) ρ H N R E:=
 Ab (h1 _ h2)
theorem Alb{α0 α1 α2 α3 α4:Type}{s:S}{rest:List S}{N:Al->AH->Prop}{R:Ak}(f:α0->α1->α2->α3->α4->Al)(T:α0->α1->α2->α3->α4->AH->Prop)(h1:∀N:Al->AH->Prop,(∀x0 x1 x2 x3 x4 H,T x0 x1 x2 x3 x4 H->N (f x0 x1 x2 x3 x4) H)->Gv G C s ρ H N R E)(h2:∀x0 x1 x2 x3 x4 H,T x0 x1 x2 x3 x4 H->A1 G C rest (f x0 x1 x2 x3 x4) H N R E):A1 G C (s::rest) ρ H N R E:=
 Ab (h1 _ h2)
theorem Ama{α0 α1 α2 α3 α4 α5:Type}{s:S}{rest:List S}{N:Al->AH->Prop}{R:Ak}(f:α0->α1->α2->α3->α4->α5->Al)(T:α0->α1->α2->α3->α4->α5->AH->Prop)(h1:∀N:Al->AH->Prop,(∀x0 x1 x2 x3 x4 x5 H,T x0 x1 x2 x3 x4 x5 H->N (f x0 x1 x2 x3 x4 x5) H)->Gv G C s ρ H N R E)(h2:∀x0 x1 x2 x3 x4 x5 H,T x0 x1 x2 x3 x4 x5 H->A1 G C rest (f x0 x1 x2 x3 x4 x5) H N R E):A1 G C (s::rest) ρ H N R E:=
 Ab (h1 _ h2)
theorem Amb{α0 α1 α2 α3 α4 α5 α6:Type}{s:S}{rest:List S}{N:Al->AH->Prop}{R:Ak}(f:α0->α1->α2->α3->α4->α5->α6->Al)(T:α0->α1->α2->α3->α4->α5->α6->AH->Prop)(h1:∀N:Al->AH->Prop,(∀x0 x1 x2 x3 x4 x5 x6 H,T x0 x1 x2 x3 x4 x5 x6 H->N (f x0 x1 x2 x3 x4 x5 x6) H)->Gv G C s ρ H N R E)(h2:∀x0 x1 x2 x3 x4 x5 x6 H,T x0 x1 x2 x3 x4 x5 x6 H->A1 G C rest (f x0 x1 x2 x3 x4 x5 x6) H N R E):A1 G C (s::rest) ρ H N R E:=
 Ab (h1 _ h2)
theorem Amc{α0 α1 α2 α3 α4 α5 α6 α7:Type}{s:S}{rest:List S}{N:Al->AH->Prop}{R:Ak}(f:α0->α1->α2->α3->α4->α5->α6->α7->Al)(T:α0->α1->α2->α3->α4->α5->α6->α7->AH->Prop)(h1:∀N:Al->AH->Prop,(∀x0 x1 x2 x3 x4 x5 x6 x7 H,T x0 x1 x2 x3 x4 x5 x6 x7 H->N (f x0 x1 x2 x3 x4 x5 x6 x7) H)->Gv G C s ρ H N R E)(h2:∀x0 x1 x2 x3 x4 x5 x6 x7 H,T x0 x1 x2 x3 x4 x5 x6 x7 H->A1 G C rest (f x0 x1 x2 x3 x4 x5 x6 x7) H N R E):A1 G C (s::rest) ρ H N R E:=
 Ab (h1 _ h2)
set_option linter.all false
variable {G:A5} {n:Nat} {H H':AH} {Q:Ak} {E:EP} {C:CS} {ρ:Al}
theorem S1{a:Nat}{l:List Int}{k v:Int}{N:AH->Prop}(h:LI H a l)(h0:0<=k)(hk:k<l.length):setItem (.ref a) (.int k) (.int v) H N=N (upd H a (.list ((l.set k.toNat v).map V.int))):=by
 rw[Ab3 h h0 (by rw[List.length_map];exact hk),List.map_set]
theorem Acd{a:Nat}{l:List Int}{k v:Int}{N:AH->Prop}(h:LI H a l)(h0:0<=k)(hk:k<l.length)(kk:N (upd H a (.list ((l.set k.toNat v).map V.int)))):setItem (.ref a) (.int k) (.int v) H N:=Eq.mpr (S1 h h0 hk) kk
theorem Aep{ns:List Int}{m:Nat}{rows:List (List Int)}{ps:List (Int×Int)}(hW:Wf m rows)(hT:Ab5 ns m rows ps):Ee m ps:=by
 intro p hp
 obtain⟨k,r,one,h1,h2,h3⟩:=hT.1 p hp
 have hk:=(List.getElem?_eq_some_iff.mp h1).1
 rw[hW.1]at hk
 have hr:=(hW.2 k r h1).2 one h2
 have n1:=M6 (ns:=ns) (m:=m) (k:=k) (Q89 hk)
 have n2:=M6 (ns:=ns) (m:=m) (k:=one) (Int.lt_of_le_of_lt n1.1 n1.2)
 have n3:A8 ns m k≠A8 ns m one:=fun e=>by
  have:=Pv (ns:=ns) (m:=m) (j:=k) (k:=one) (Int.lt_of_le_of_lt n2.1 n2.2) (⟨Int.natCast_nonneg _,Int.ofNat_lt.mpr hk⟩) (⟨hr.1,Int.lt_trans hr.2 (Int.ofNat_lt.mpr hk)⟩) e
  exact Int.lt_irrefl _ (Int.lt_of_lt_of_le hr.2 (Int.le_of_eq this))
 rcases h3 with rfl|rfl
 ·exact⟨n1,n2,n3⟩
 ·exact⟨n2,n1,Ne.symm n3⟩
theorem Ajg{m:Nat}{ps:List (Int×Int)}(g:Ee m ps):Gr (Lc ps):=by
 refine⟨fun i=>?_,fun i j=>?_⟩
 ·unfold Lc
  rw[decide_eq_false_iff_not]
  exact fun h=>(h.in_ g).2.2 rfl
 ·unfold Lc
  exact decide_eq_decide.mpr ⟨Ta.symm,Ta.symm⟩
noncomputable def del(H:AH)(h:Nat):AH:=fun b=>if b=h then none else H b
theorem Mj{h:Nat}:del H h h=none:=by simp[del]
theorem S2{h:Nat}:Ag (del H h) H:=fun a o e=>by
 unfold del at e
 split at e
 ·cases e
 ·exact e
theorem Ep{h:Nat}(e:Ag H H')(hn:H h=none):Ag H (del H' h):=fun a o q=>by
 unfold del
 rw[if_neg (fun z=>by rw[z,hn]at q;cases q)]
 exact e a o q
theorem LI.del{a h:Nat}{l:List Int}(hL:LI H a l)(hn:a≠h):LI (Mine.Internal.Cl.del H h) a l:=by
 unfold LI Mine.Internal.Cl.del at *
 rw[if_neg hn];exact hL
set_option linter.all false
variable {G:A5} {n:Nat} {H H':AH} {Q:Ak} {E:EP} {C:CS} {ρ:Al}
theorem Ace{v:V}{a:Nat}{xs:List V}{r:Bool}(h:H a=some (.tuple xs))(hm:P8 v xs=some r):Ba .NotIn v (.ref a) H Q=Q (.bool (!r)) H:=by
 delta Ba;(try dsimp only);(try delta N4);(try dsimp only[Ax]);rw[h];(try dsimp only[Ap]);rw[hm];(try dsimp only[E8])
theorem Uu{b:Bool}:Cj (.isinst .bool) [.bool b] H Q=Q (.bool true) H:=propext ⟨fun h=>h.2,fun h=>⟨rfl,h⟩⟩
set_option linter.all false
noncomputable def S3(A:Nat->Nat->Bool)(l:List Int)(p:Int):List Int:=l.filter fun o=>A p.toNat o.toNat
noncomputable def Mk(A:Nat->Nat->Bool)(l:List Int)(p:Int):Bool:=(fu A (S3 A l p)).isNone
noncomputable def ltg(A:Nat->Nat->Bool)(l:List Int):Option Int:=l.find? (Mk A l)
noncomputable def Bh(A:Nat->Nat->Bool):Nat->List Int->List Int->List Int×List Int
 | 0,g,t=>(g,t)
 | k+1,g,t=>match ltg A t with
   | none=>(g,t)
   | some p=>Bh A k (g ++ [p]) (t.erase p)
theorem Xn{A:Nat->Nat->Bool}{l:List Int}{p:Int}(h:ltg A l=some p):p∈l:=List.mem_of_find?_eq_some h
noncomputable def Acf:Option Int->V
 | none=> .none
 | some p=> .int p
theorem Y2:Acf none = .none:=rfl
theorem Y3{p:Int}:Acf (some p) = .int p:=rfl
noncomputable def Aw(m:Nat):List Int:=Ob (List.range m)
theorem C4{m:Nat}{x:Int}:x∈Aw m↔0<=x/\x<m:=by
 unfold Aw
 rw[Ur,List.mem_range]
 constructor<;>(rintro⟨h1,h2⟩;exact⟨h1,by(first|lia|omega)⟩)
theorem C5{m:Nat}:(Aw m).length=m:=by simp[Aw,Ob]
theorem Rr{m:Nat}:(Aw m).Pairwise (· < ·):=by
 have:=Sv (m:=m) (fun _=>true)
 rwa[List.filter_eq_self.mpr (fun _ _=>rfl)]at this
theorem Cs{m:Nat}:(Aw m).Nodup:=Rr.imp fun h=>(Int.ne_of_lt h)
variable {G:A5} {n:Nat} {H H':AH} {Q:Ak} {E:EP} {C:CS} {ρ:Al}
theorem Aeq{i:Int}:Ba .IsNot (.int i) .none H Q=Q (.bool true) H:=rfl
theorem Acg{a:Nat}{l:List Int}{k:Int}(h:LI H a l)(hk:k∈l):Ew .remove (.ref a) [.int k] H Q=Q .none (upd H a (.list ((l.erase k).map V.int))):=by
 unfold LI at h
 delta Ew;dsimp only;(first|delta Dw|delta Fy|delta Dx|delta Fz|delta Dy|delta Cw|delta Bq);(try dsimp only[Ax,Ap,U5,Mt,Te]);rw[h];(try dsimp only[Gb,U9]);rw[Mh];(try dsimp only[Gb,E8])
 exact propext ⟨fun h=>h.2,fun q=>⟨hk,q⟩⟩
theorem Le{m:Nat}:((List.range m).map fun(i:Nat)=>V.int i)=(Aw m).map V.int:=(List.map_map).symm
theorem Pz(B:I8 G)(hG:G.fn "Web.beside" = some Eb){w m:Nat}{A:Nat->Nat->Bool}{x:Int}(hW:Bw H w m A)(h0:0<=x)(h1:x<m)
 (q:∀a H',Ag H H'->H a=none->LI H' a (Ay m A x.toNat)->Q (.ref a) H'):Ae G (n+2) "Web.beside" [.ref w,.int x] H Q E:=by
 have hW':=hW
 refine Aa fun nY=>?_
 obtain⟨d,rs,w1,w2,w3⟩:=hW'
 obtain⟨as,z,a1,a2,a3,a4⟩:=w3.row h0 h1
 refine nY ?_;clear nY
 refine Af hG rfl ?_
 simp (disch:=first|decide|omega) only[Jf,Jo,Jp,Jq,Ju,Jv,Jx,Jy,J0,J1,List.map,D1,D2,Ah,Am,Ca,true_and,Eb,Av,Da,Db,Fe,w1,w2,B.need]
 refine M8 B hW h0 h1 ?_
 (try dsimp only)
 simp (disch:=first|decide|omega) only[Hh w1 w2 (show Kt [(C9.many,V.int m),(C9.rows,V.ref rs)] .rows=some (.ref rs)from rfl),Bj a1 h0 a3,Hi a4]
 exact Ac fun a H' e n v=>q a H' e n v
theorem Ach(B:I8 G){w m r:Nat}{A:Nat->Nat->Bool}{l:List Int}{p:Int}{c:X}{Q:Ak}(hW:Bw H w m A)(hL:LI H r l)(hin:∀x∈l,0<=x/\x<m)(hp:0<=p/\p<m)(hl:l.length<=4000)
 (hc:∀(x:Int) K,0<=x->x<m->K (.bool (A p.toNat x.toNat)) H->Aq G C c (some (.int x)::ρ) H K EF)
 (q:∀a H',Ag H H'->H a=none->LI H' a (S3 A l p)->Q (.ref a) H') :
 l.length<=4000/\Bm (fun H'=>H' r=some (.list (l.map V.int))) (.one 0) (fun ρ H K=>Aq G C c ρ H (fun c H=>truthy c fun b=>if b then Aq G C (.var 0) ρ H (fun v H=>K (some v) H) EF else K none H) EF)
  (fun vs H=>Ao (.list vs) H Q) ((l.map V.int).map .v) [] (none::ρ) H:=by
 refine⟨hl,Iw (p:=fun o=>A p.toNat o.toNat) hL (fun x hx K hK=>?_) ?_⟩
 ·have hxr:=hin x hx
  refine hc x _ hxr.1 hxr.2 ?_
  (try dsimp only);(try simp (disch:=first|decide|omega) only[Jf,Br,Ah])
  split
  ·rename_i h;rw[if_pos h]at hK;exact hK
  ·rename_i h;rw[if_neg h]at hK;exact hK
 ·exact Ac fun a H' e n v=>q a H' e n v
theorem Nx(B:I8 G)(hF:G.fn "first_untied" = some Dg)(hG:G.fn "least_to_go" = some F6){w m r:Nat}{A:Nat->Nat->Bool}{l:List Int}(hW:Bw H w m A)(hL:LI H r l)(hin:∀x∈l,0<=x/\x<m)(hl:l.length<=60)
 (q:∀H',Ag H H'->Q (Acf (ltg A l)) H'):Ae G (n+4) "least_to_go" [.ref w,.ref r] H Q E:=by
 refine Af hG rfl ?_
 simp (disch:=first|decide|omega) only[Jb,Jy,J0,J1,List.map,D1,D2,List.replicate,F6]
 refine Qz ?_
 simp (disch:=first|decide|omega) only[Jf,Ah,Am]
 refine Az hL ?_
 refine C3 (fun i r2=>[some (.ref w),some (.ref r),r2]) (fun i r2 H₁=>(Ag H H₁)/\(l.find? (Mk A l)=(l.drop i).find? (Mk A l))) _ rfl ⟨Ag.refl,rfl⟩ ?_ ?_ ?_
 ·rintro i r2 H₁ ⟨e,hf⟩;exact hL.ext e
 ·rintro i v r2 H₁ K hv ⟨e,hf⟩ hK
  refine Aa fun nY=>?_
  obtain⟨x,hx,rfl⟩:=LI.at_ (a:=r) hv
  have hxr:=hin x (List.mem_of_getElem? hx)
  rw[Ci hx,List.find?_cons]at hf
  have hW1:=hW.ext e
  have hL1:=hL.ext e
  obtain⟨d,rs,w1,w2,w3⟩:=hW1
  refine nY ?_;clear nY
  simp only[Gg,J1,J0,List.set_cons_succ,List.set_cons_zero]
  refine Bi (Z3 (Sd ?_))
  refine⟨by rw[hF];rfl,?_⟩
  refine Ou (Vc ?_)
  simp only[List.getElem?_cons_zero]
  refine Ou (hvK ?_)
  simp (disch:=first|decide|omega) only[Jb,Jf,Ju,Jy,J0,J1,J2,D1,D2,Ah,Am,List.replicate]
  refine Az hL1 ?_
  have:=Ach (C:=Ae G (n+3)) (ρ:=[some (.ref w),some (.ref r),some (.int x)]) (c:=Dt) (Q:=fun v H=>Ae G (n+3) "first_untied" [.ref w,v] H (fun a H=>Ba CmpOp.Is a V.none H fun v H=>truthy v fun c=>if c=true then Q (V.int x) H else K [some (.ref w),some (.ref r),some (.int x)] H) E) B ⟨d,rs,w1,w2,w3⟩ hL1 hin hxr (Nat.le_trans hl (by decide)) (fun y K' h0 h1 hK'=>by
   simp (disch:=first|decide|omega) only[Jf,Ju,Jv,Ah,Am,Ca,true_and,Dt,Av,Da,Db,Fe,w1,w2,B.tied]
   exact Sz B ⟨d,rs,w1,w2,w3⟩ hxr.1 hxr.2 h0 h1 hK') (fun a H₂ e2 _ hL2=>by
   refine Ga B hF (hW.ext (e.trans e2)) hL2 (fun y hy=>hin y (List.mem_filter.mp hy).1) fun H₃ e3=>?_
   have e13:=(e.trans e2).trans e3
   cases hfu:fu A (S3 A l x)with
   | none=>
     (try dsimp only);(try simp (disch:=first|decide|omega) only[Jbg,Br])
     simp only[if_true]
     have:Mk A l x=true:=by unfold Mk;rw[hfu];rfl
     rw[this]at hf
     have hq:=q H₃ e13
     unfold ltg at hq
     rw[hf]at hq
     exact hq
   | some pr=>
     obtain⟨y,z⟩:=pr
     intro a' ha'
     (try dsimp only);(try simp (disch:=first|decide|omega) only[Jbh,Br])
     simp only[Bool.false_eq_true,if_false]
     have:Mk A l x=false:=by unfold Mk;rw[hfu];rfl
     rw[this]at hf
     exact hK _ _ ⟨e13.trans (Ag.upd ha'),hf⟩)
  exact⟨by simp[Bs];exact(Nat.le_trans this.1 (by decide)),this.2⟩
 ·rintro r2 H₁ ⟨e,hf⟩
  rw[List.length_map,List.drop_of_length_le (Nat.le_refl _),List.find?_nil]at hf
  have hq:=q H₁ e
  unfold ltg at hq
  rw[hf]at hq
  exact hq
set_option linter.all false
variable {G:A5} {n:Nat} {H H':AH} {Q:Ak} {E:EP} {C:CS} {ρ:Al}
theorem LI.upd_ne{a b:Nat}{l:List Int}{o:O}(h:LI H a l)(hn:a≠b):LI (upd H b o) a l:=by
 unfold LI at *;rw[Mine.Internal.Cl.upd_ne hn];exact h
theorem LI.ne_none{a b:Nat}{l:List Int}(h:LI H a l)(hn:H b=none):a≠b:=fun z=>by
 unfold LI at h;rw[z,hn]at h;cases h
theorem Ml{A:Nat->Nat->Bool}{k:Nat}{g t:List Int}{p:Int}(h:ltg A t=some p):Bh A (k+1) g t=Bh A k (g ++ [p]) (t.erase p):=by
 show (match ltg A t with
  | none=>(g,t)
  | some p=>Bh A k (g ++ [p]) (t.erase p))=_
 rw[h]
theorem Mm{A:Nat->Nat->Bool}{k:Nat}{g t:List Int}(h:ltg A t=none):Bh A k g t=(g,t):=by
 cases k with
 | zero=>rfl
 | succ k=>
   show (match ltg A t with
    | none=>(g,t)
    | some p=>Bh A k (g ++ [p]) (t.erase p))=_
   rw[h]
structure Fns(G:A5):Prop where
 base:I8 G
 untied:G.fn "first_untied" = some Dg
 ltg:G.fn "least_to_go" = some F6
 taken:G.fn "taken" = some Wy
 beside:G.fn "Web.beside" = some Eb
theorem Xo(F:Fns G){w m:Nat}{A:Nat->Nat->Bool}(hW:Bw H w m A)(hm:m<=60)
 (q:∀r a b H',Ag H H'->H r=none->H a=none->H b=none->a≠b->H' r=some (.tuple [.ref b,.ref a])->LI H' b (Bh A m [] (Aw m)).1->LI H' a (Bh A m [] (Aw m)).2->Q (.ref r) H') :
 Ae G (n+5) "taken" [.ref w] H Q E:=by
 have B:=F.base
 refine Af F.taken rfl ?_
 simp only[Wy,List.map,List.replicate,List.cons_append,List.nil_append]
 refine C0 (fun a=>[some (.ref w),some (.ref a),none,none]) (fun a H₁=>D3 (Ag H H₁) (H a=none) (LI H₁ a (Aw m))) (fun N hN=>?_) ?_
 ·obtain⟨d,rs,w1,w2,w3⟩:=hW
  simp (disch:=first|decide|omega) only[Jf,Jo,Jp,Ju,Jv,Jw,Jbq,Ah,Bt,Bu,Hh w1 w2 (show Kt [(C9.many,V.int m),(C9.rows,V.ref rs)] .many=some (.int m)from rfl)]
  refine Ac fun a H₁ e n v=>hN a _ ⟨e,n,?_⟩
  unfold LI;rw[v,Int.toNat_natCast,Le]
 rintro a H₁ ⟨e1,na,ha⟩
 refine C0 (fun b=>[some (.ref w),some (.ref a),some (.ref b),none]) (fun b H₂=>D3 (Ag H₁ H₂) (H₁ b=none) (LI H₂ b [])) (fun N hN=>?_) ?_
 ·simp (disch:=first|decide|omega) only[Js,Ju,Jw,Bt,Bu]
  exact Ac fun b H₂ e n v=>hN b _ ⟨e,n,v⟩
 rintro b H₂ ⟨e2,nb1,hb⟩
 have nb:H b=none:=e1.isNone nb1
 have hab:a≠b:=ha.ne_none nb1
 have ha2:=ha.ext e2
 have hin:∀x∈Aw m,0<=x/\x<(m:Int):=fun x hx=>C4.mp hx
 refine Ef ([some (.ref w),some (.ref a),some (.ref b),some (Acf (ltg A (Aw m)))]) (fun H₃=>Ag H₂ H₃) (fun N hN=>?_) ?_
 ·simp (disch:=first|decide|omega) only[Jf,Jn,Ju,Jv,Jw,Ah,Am,Bt,Bu,Ca,true_and,F.ltg]
  refine Nx B F.untied F.ltg (hW.ext (e1.trans e2)) ha2 hin (by rw[C5];exact hm) fun H₃ e3=>?_
  exact hN _ e3
 rintro H₃ e3
 refine Ef ([some (.ref w),some (.ref a),some (.ref b),some .none]) (fun H₄=>Ag H H₄/\LI H₄ b (Bh A m [] (Aw m)).1/\LI H₄ a (Bh A m [] (Aw m)).2) (fun N hN=>?_) ?_
 ·refine Lh ?_
  refine⟨fun k ρ H₄=>(Ka fun t g=>An8 (t.length=k) (ρ = [some (.ref w),some (.ref a),some (.ref b),some (Acf (ltg A t))]) (Ag H H₄) (LI H₄ a t) (LI H₄ b g) (g.length+t.length<=60) (Bh A k g t=Bh A m [] (Aw m)) (∀x∈t,0<=x/\x<(m:Int))),
   ⟨_,Aw m,[],rfl,rfl,(e1.trans e2).trans e3,ha2.ext e3,hb.ext e3,by rw[C5];simpa using hm,by rw[C5],hin⟩,?_⟩
  rintro k ρ H₄ ⟨t,g,hk,rfl,e,hat,hbg,hlen,htk,hint⟩
  cases hlt:ltg A t with
  | none=>
    simp (disch:=first|decide|omega) only[Jb,Jf,Jl,Jbi,Br,Ah,Am,Y2]
    simp only[Bool.false_eq_true,if_false]
    rw[Mm hlt]at htk
    refine hN _ ⟨e,?_,?_⟩
    ·rw[<-htk];exact hbg
    ·rw[<-htk];exact hat
  | some p=>
    have hp:=Xn hlt
    have hpl:=List.length_pos_of_mem hp
    have hel:=List.length_erase_of_mem hp
    simp (disch:=first|decide|omega) only[Jb,Jf,Jl,Br,Ah,Am,Y3,Aeq]
    simp only[if_true]
    simp (disch:=first|decide|omega) only[Jf,Jn,Ju,Jv,Jw,Jx,J0,J1,Ah,Am,Bt,Bu,true_and,O0,Bx,Bp hat,Acg hat hp]
    have hb1:LI (upd H₄ a (.list ((t.erase p).map V.int))) b g:=hbg.upd_ne (Ne.symm hab)
    have hbl:(g.map V.int).length<1048576:=by rw[List.length_map];exact Nat.lt_of_le_of_lt (Nat.le_trans (Nat.le_add_right _ _) hlen) (by decide)
    simp (disch:=first|decide|omega) only[true_and,Bp hb1,Cc hb1 hbl]
    have ha3:LI (upd (upd H₄ a (.list ((t.erase p).map V.int))) b (.list (g.map V.int ++ [.int p]))) a (t.erase p):=LI.upd_ne Ad hab
    have hb3:LI (upd (upd H₄ a (.list ((t.erase p).map V.int))) b (.list (g.map V.int ++ [.int p]))) b (g ++ [p]):=by unfold LI;rw[Ad];simp
    have e5:Ag H (upd (upd H₄ a (.list ((t.erase p).map V.int))) b (.list (g.map V.int ++ [.int p]))):=(e.upd' na).upd' nb
    generalize upd (upd H₄ a (.list ((t.erase p).map V.int))) b (.list (g.map V.int ++ [.int p]))=H₅ at *
    have hin5:∀x∈t.erase p,0<=x/\x<(m:Int):=fun x hx=>hint x (List.mem_of_mem_erase hx)
    refine⟨by rw[F.ltg];rfl,?_⟩
    refine Nx B F.untied F.ltg (hW.ext e5) ha3 hin5 (Nat.le_trans (Nat.le_of_eq hel) (Nat.le_trans (Nat.sub_le _ _) (Nat.le_trans (Nat.le_add_left _ _) hlen))) fun H₆ e6=>?_
    obtain⟨k',rfl⟩:∃k',k=k'+1:=⟨k-1,(Aj1 hk hpl)⟩
    refine⟨k',(Nat.le_refl _),t.erase p,g ++ [p],(Aj2 hel hk),rfl,e5.trans e6,ha3.ext e6,hb3.ext e6,by simp;exact Aj3 hlen hel hk,?_,hin5⟩
    rw[<-Ml hlt];exact htk
 rintro H₄ ⟨e4,hb4,ha4⟩
 simp (disch:=first|decide|omega) only[Jf,Jt,Ju,Jv,Jy,J0,J1,Ah,Am]
 exact Ac fun r H₅ e5 n5 v5=>q r a b H₅ (e4.trans e5) (e4.isNone n5) na nb hab v5 (hb4.ext e5) (ha4.ext e5)
set_option linter.all false
variable {G:A5} {n:Nat} {H H':AH} {Q:Ak} {E:EP} {C:CS} {ρ:Al}
theorem Uv(hG:G.fn "_law_untied" = some G3){a m r:Nat}{A:Nat->Nat->Bool}{l:List Int}(hN:Dr H a m A)(hL:LI H r l)(hl:l.length<=4000)(hin:∀x∈l,0<=x/\x<m)
 (q:∀H',Ag H H'->match fu A l with|none=>Q .none H'|some (x,y)=>∀a,H' a=none->Q (.ref a) (upd H' a (.tuple [.int x,.int y]))):Ae G (n+1) "_law_untied" [.ref a,.ref r] H Q E:=by
 refine Af hG rfl ?_
 simp (disch:=first|decide|omega) only[Jb,Jy,J0,J1,List.map,D1,D2,List.replicate,G3]
 refine frK ?_
 simp (disch:=first|decide|omega) only[Jf,Jo,Ju,Jv,Ah,Am,B9 hL]
 refine M5 (Int.natCast_nonneg _) (by rw[List.length_map];exact(Int.ofNat_le.mpr (Nat.le_trans hl (by decide)))) ?_
 refine Kr (fun i r2 r3=>[some (.ref a),some (.ref r),r2,r3]) (fun i r2 r3 H₁=>(Ag H H₁)/\(fu A l=fu A (l.drop i))) _ _ rfl ⟨Ag.refl,rfl⟩ ?_ ?_
 ·rintro i r2 r3 H₁ K hi ⟨e,hf⟩ hK
  have hi':i<l.length:=by simpa using hi
  have hx:=List.getElem?_eq_getElem hi'
  generalize l[i]=x at hx
  have hxr:=hin x (List.mem_of_getElem? hx)
  rw[Ci hx,Om]at hf
  have hL1:=hL.ext e
  simp (disch:=first|decide|omega) only[J0,J1,Bt,Bu,Hq]
  refine Qz ?_
  simp (disch:=first|decide|omega) only[Jc,Je,Jf,Jk,Jr,J6,Ah,Am]
  (refine Dm hL1 Ks Iu ?_;rw[Pw Ac1])
  refine Ac fun s H₂ e2 _ hsv=>?_
  rw[show ((i:Int)+1).toNat=i+1 by exact Ac2,<-List.map_drop]at hsv
  refine Az hsv ?_
  have eW:=e.trans e2
  have hL2:=hL.ext eW
  obtain⟨as,z,a1,a2,a3,a4⟩:=(hN.ext eW).row hxr.1 hxr.2
  refine C3 (fun j r3=>[some (.ref a),some (.ref r),some (.int i),r3]) (fun j r3 H₃=>(H₃=H₂)/\((l.drop (i+1)).find? (fun y=> !A x.toNat y.toNat)=((l.drop (i+1)).drop j).find? (fun y=> !A x.toNat y.toNat))) _ rfl ⟨rfl,rfl⟩ ?_ ?_ ?_
  ·rintro j r3 H₃ ⟨rfl,hj⟩;exact hsv
  ·rintro j v r3 H₃ K' hv ⟨rfl,hj⟩ hK'
   obtain⟨y,hy,rfl⟩:=LI.at_ (a:=r) hv
   have hyr:=hin y (List.mem_of_mem_drop (List.mem_of_getElem? hy))
   rw[Ci hy,List.find?_cons]at hj
   simp (disch:=first|decide|omega) only[J0,J1,Bt,Bu,Hp]
   refine Bg (!A x.toNat y.toNat) (fun Q' h'=>?_) ?_
   ·simp (disch:=first|decide|omega) only[Jf,Jl,Jq,Ah,Am,Bj hL2 (Int.natCast_nonneg i) (LI.sub (a:=r) hx),Bj a1 hxr.1 a3,Mg a4,Sy hyr.1 hyr.2]
    exact h'
   split
   ·rename_i hh
    simp (disch:=first|decide|omega) only[Jf,Jq,Jt,Ju,Jv,Jy,J0,J1,Ah,Am,Bj hL2 (Int.natCast_nonneg i) (LI.sub (a:=r) hx)]
    rw[hh]at hj
    simp only at hj
    rw[hj]at hf
    have:=q _ eW
    rw[hf]at this
    exact this
   ·rename_i hh
    simp (disch:=first|decide|omega) only[J0]
    rw[Bool.not_eq_true]at hh
    rw[hh]at hj
    exact hK' _ _ ⟨rfl,hj⟩
  ·rintro r3 H₃ ⟨rfl,hj⟩
   rw[List.length_map,List.drop_of_length_le (Nat.le_refl _),List.find?_nil]at hj
   rw[hj]at hf
   exact hK _ _ _ ⟨eW,hf⟩
 ·rintro r2 r3 H₁ ⟨e,hf⟩
  rw[Int.toNat_natCast,List.length_map,List.drop_of_length_le (Nat.le_refl _)]at hf
  have:=q H₁ e
  rw[hf]at this
  exact this
theorem Aci{a:Nat}{xs:List V}(h:H a=some (.list xs)):Cj (.isinst .list) [.ref a] H Q=Q (.bool true) H:=by
 have e:Ku .list (.ref a) H=some true:=by show (match H a with|some o=>Iz o .list|none=>none)=_;rw[h];rfl
 show (Fd .list=true/\(match Ku .list (.ref a) H with|some r=>Q (.bool r) H|none=>False))=_
 rw[e]
 exact propext ⟨fun h=>h.2,fun h=>⟨rfl,h⟩⟩
theorem Y4{a:Nat}{xs:List V}(h:H a=some (.tuple xs)):Cj (.isinst .tuple) [.ref a] H Q=Q (.bool true) H:=by
 have e:Ku .tuple (.ref a) H=some true:=by show (match H a with|some o=>Iz o .tuple|none=>none)=_;rw[h];rfl
 show (Fd .tuple=true/\(match Ku .tuple (.ref a) H with|some r=>Q (.bool r) H|none=>False))=_
 rw[e]
 exact propext ⟨fun h=>h.2,fun h=>⟨rfl,h⟩⟩
theorem Aer{i:Int}:Cj (.isinst .int) [.int i] H Q=Q (.bool true) H:=propext ⟨fun h=>h.2,fun h=>⟨rfl,h⟩⟩
theorem Y5{i:Int}:Cj (.isinst .bool) [.int i] H Q=Q (.bool false) H:=propext ⟨fun h=>h.2,fun h=>⟨rfl,h⟩⟩
theorem Aes(hG:G.fn "_law_whole" = some Ff){i:Int}(q:Q (.bool true) H):Ae G (n+1) "_law_whole" [.int i] H Q E:=by
 refine Af hG rfl ?_
 simp (disch:=first|decide|omega) only[Jf,Jg,Ji,Jo,Ju,Jv,Jy,J0,J1,Br,List.map,D1,D2,Ah,Ff,Aer,Y5]
 simpa using q
theorem Rs(hW:G.fn "_law_whole" = some Ff)(hG:G.fn "_law_numbers" = some F3){a b:Nat}{l:List Int}(ha:LI H a l)(hb:LI H b l)(hl:l.length<=4000)(q:Q (.bool true) H):Ae G (n+2) "_law_numbers" [.ref a,.ref b] H Q E:=by
 refine Af hG rfl ?_
 simp (disch:=first|decide|omega) only[Jd,Jy,J0,J1,List.map,D1,D2,List.replicate,F3]
 refine Bg false (fun Q' h'=>?_) ?_
 ·simp (disch:=first|decide|omega) only[Jf,Jg,Jj,Jl,Jo,Ju,Jv,Jbd,Br,Ah,Am,Aci ha,B9 ha,B9 hb]
  simpa using h'
 rw[if_neg (by decide)]
 simp (disch:=first|decide|omega) only[J0]
 refine frK ?_
 simp (disch:=first|decide|omega) only[Jf,Jo,Ju,Jv,Ah,Am,B9 hb]
 refine M5 (Int.natCast_nonneg _) (by rw[List.length_map];exact(Int.ofNat_le.mpr (Nat.le_trans hl (by decide)))) ?_
 refine Cr (fun i r2=>[some (.ref a),some (.ref b),r2]) (fun i r2 H₁=>H₁=H) _ rfl rfl ?_ ?_
 ·rintro i r2 H₁ K hi rfl hK
  have hi':i<l.length:=by simpa using hi
  have hx:=List.getElem?_eq_getElem hi'
  generalize l[i]=x at hx
  simp (disch:=first|decide|omega) only[J0,J1,Bt,Bu,Gd]
  refine Bg false (fun Q' h'=>?_) ?_
  ·simp (disch:=first|decide|omega) only[Jf,Jg,Jj,Jl,Jn,Jq,Ju,Jv,Br,Ah,Am,Ca,true_and,hW,Bj ha (Int.natCast_nonneg i) (LI.sub (a:=a) hx)]
   refine Aes hW ?_
   (try dsimp only);(try simp (disch:=first|decide|omega) only[Br])
   simp only[Bool.not_true,Bool.false_eq_true,if_false]
   simp (disch:=first|decide|omega) only[Jbd,Bj ha (Int.natCast_nonneg i) (LI.sub (a:=a) hx),Bj hb (Int.natCast_nonneg i) (LI.sub (a:=a) hx)]
   simpa using h'
  rw[if_neg (by decide)]
  simp (disch:=first|decide|omega) only[J0]
  exact hK _ _ rfl
 ·rintro r2 H₁ rfl
  exact q
set_option linter.all false
noncomputable def bh(A:Nat->Nat->Bool)(o:List Int)(p:Int):List Int:=S3 A (o.drop (o.idxOf p+1)) p
noncomputable def A0(m:Nat)(o:List Int):Prop:=Bf o=Aw m
theorem A0.perm{m:Nat}{o:List Int}(h:A0 m o):o.Perm (Aw m):=by
 have:=B8 o
 rw[h]at this
 exact this.symm
theorem A0.len{m:Nat}{o:List Int}(h:A0 m o):o.length=m:=by rw[h.perm.length_eq,C5]
theorem A0.mem{m:Nat}{o:List Int}(h:A0 m o){x:Int}:x∈o↔0<=x/\x<m:=by rw[h.perm.mem_iff,C4]
theorem A0.nodup{m:Nat}{o:List Int}(h:A0 m o):o.Nodup:=h.perm.nodup_iff.mpr Cs
theorem Mn{m:Nat}{o:List Int}(h1:o.Nodup)(h2:∀x,x∈o↔0<=x/\x<m):A0 m o:=
 Ab6 (Uq h1) Rr fun x=>by rw[Gs,h2,C4]
theorem Ahb{o:List Int}{j:Nat}{p:Int}(h:o.Nodup)(hj:o[j]? = some p):o.idxOf p=j:=by
 have hm:=List.mem_of_getElem? hj
 have hlt:=List.idxOf_lt_length_of_mem hm
 refine Py h (x:=p) ?_ hj
 rw[List.getElem?_eq_getElem hlt,List.getElem_idxOf]
theorem Afr{A:Nat->Nat->Bool}{o:List Int}{j:Nat}{p:Int}(h:o.Nodup)(hj:o[j]? = some p):bh A o p=S3 A (o.drop (j+1)) p:=by
 unfold bh;rw[Ahb h hj]
theorem S4{A:Nat->Nat->Bool}{o:List Int}{p x:Int}(h:x∈bh A o p):x∈o:=List.mem_of_mem_drop (List.mem_filter.mp h).1
theorem P0{A:Nat->Nat->Bool}{o:List Int}{p:Int}:(bh A o p).length<=o.length-1:=by
 unfold bh S3
 refine Nat.le_trans (List.length_filter_le _ _) ?_
 rw[List.length_drop];exact Nat.sub_le_sub_left (Nat.le_add_left 1 _) _
noncomputable def Peo(A:Nat->Nat->Bool)(o:List Int):Prop:=∀p∈o,fu A (bh A o p)=none
noncomputable def gp(A:Nat->Nat->Bool)(o:List Int):Option (Int×Int×Int):=o.findSome? fun p=>(fu A (bh A o p)).map fun q=>(p,q.1,q.2)
theorem Aet{A:Nat->Nat->Bool}{o:List Int}:gp A o=none↔Peo A o:=by
 unfold gp Peo
 rw[List.findSome?_eq_none_iff]
 simp
variable {G:A5} {n:Nat} {H H':AH} {Q:Ak} {E:EP} {C:CS} {ρ:Al}
theorem Uw{g:AH->Prop}{ys:List V}{t:Nat}{body:Al->AH->(Al->AH->Prop)->Prop}{N:Al->AH->Prop}(I:Nat->Al->AH->Prop)(h0:I 0 ρ H)(hg:∀i ρ H,I i ρ H->g H)
 (step:∀i x ρ H K,ys[i]? = some x->I i ρ H->(∀ρ'' H'',I (i+1) ρ'' H''->K ρ'' H'')->body (ρ.set t (some x)) H K) (fin:∀ρ H,I ys.length ρ H->N ρ H) :
 loop g (.one t) body N (ys.map .v) ρ H:=by
 refine Io (k:=0) I h0 (fun i x ρ H K hx hI hK=>⟨hg _ _ _ hI,?_⟩) fun ρ H hI=>⟨hg _ _ _ hI,fin ρ H (by simpa using hI)⟩
 rw[List.getElem?_map]at hx
 obtain⟨j,hj,rfl⟩:=Option.map_eq_some_iff.mp hx
 exact step i j ρ H K hj (by simpa using hI) fun ρ'' H'' h=>hK ρ'' H'' (by simpa using h)
theorem Xp{a:Nat}{l:List Int}{k:Int}(h:LI H a l)(hk:k∈l):Ew .index (.ref a) [.int k] H Q=Q (.int (l.idxOf k)) H:=by
 unfold LI at h
 delta Ew;dsimp only;(first|delta Dw|delta Fy|delta Dx|delta Fz|delta Dy|delta Cw|delta Bq);(try dsimp only[Ax,Ap,U5,Mt,Te]);rw[h];(try dsimp only[Gb,U9]);rw[Mh];(try dsimp only[Gb,E8])
 exact propext ⟨fun h=>h.2,fun q=>⟨hk,q⟩⟩
structure Lf(G:A5):Prop where
 fns:Fns G
 isOrder:G.fn "is_order" = some Oz
 needOrder:G.fn "need_order" = some G0
 behind:G.fn "those_behind" = some Hz
 gap:G.fn "gap" = some Z6
 needWhole:G.fn "need_whole" = some Lk
 crowdAt:G.fn "crowd_at" = some O1
 isFull:G.fn "is_full" = some Q0
 fullCrowds:G.fn "full_crowds" = some Kh
 leastFree:G.fn "least_free" = some Ln
 coloured:G.fn "coloured" = some O2
theorem Mo(F:Lf G){w m r:Nat}{A:Nat->Nat->Bool}{o:List Int}{p:Int}(hm:m<=60)(hW:Bw H w m A)(hL:LI H r o)(ho:A0 m o)(hp:p∈o)
 (q:∀a H',Ag H H'->H a=none->LI H' a (bh A o p)->Q (.ref a) H'):Ae G (n+3) "those_behind" [.ref w,.ref r,.int p] H Q E:=by
 have B:=F.fns.base
 have hpr:=ho.mem.mp hp
 refine Af F.behind rfl ?_
 simp (disch:=first|decide|omega) only[Jf,Ju,Jv,Jw,Jy,J0,J1,List.map,D1,D2,Ah,Am,List.replicate,Bt,Bu,true_and,Hz,Bx,Bp hL,Xp hL hp]
 refine hvK ?_
 simp (disch:=first|decide|omega) only[Jc,Je,Jf,Jk,Jr,J2,J6,D1,D2,Ah,Am,List.replicate]
 (refine Dm hL Ks Iu ?_;rw[Pw Ac1])
 refine Ac fun s H₁ e1 _ v1=>?_
 rw[show ((o.idxOf p:Int)+1).toNat=o.idxOf p+1 by exact Ac2,<-List.map_drop]at v1
 refine Az v1 ?_
 refine Aa fun nY=>?_
 obtain⟨d,rs,w1,w2,w3⟩:=hW.ext e1
 refine nY ?_;clear nY
 refine⟨by simp[Bs,ho.len];exact Aid hm,?_⟩
 refine(Ach (c:=Df) B ⟨d,rs,w1,w2,w3⟩ (show LI H₁ s (o.drop (o.idxOf p+1))from v1) (fun x hx=>ho.mem.mp (List.mem_of_mem_drop hx)) hpr (by rw[List.length_drop,ho.len];exact(Nat.le_trans (Nat.sub_le _ _) (Nat.le_trans hm (by decide)))) (fun y K' h0 h1 hK'=>?_) (fun a H₂ e2 n2 hL2=>?_)).2
 ·simp (disch:=first|decide|omega) only[Jf,Ju,Jv,Ah,Am,Ca,true_and,Df,Av,Da,Db,Fe,w1,w2,B.tied]
  exact Sz B ⟨d,rs,w1,w2,w3⟩ hpr.1 hpr.2 h0 h1 hK'
 ·exact q a H₂ (e1.trans e2) (e1.isNone n2) hL2
theorem I4(F:Lf G){w m r:Nat}{A:Nat->Nat->Bool}{o:List Int}(hm:m<=60)(hW:Bw H w m A)(hL:LI H r o)(hl:o.length<64)
 (q:∀H',Ag H H'->Q (.bool (decide (Bf o=Aw m))) H'):Ae G (n+1) "is_order" [.ref w,.ref r] H Q E:=by
 refine Af F.isOrder rfl ?_
 simp (disch:=first|decide|omega) only[Jf,Jl,Jo,Jp,Ju,Jv,Jy,J0,J1,List.map,D1,D2,Ah,Am,Oz,Sw hL hl]
 refine Ac fun s H₁ e1 _ v1=>?_
 refine Aa fun nY=>?_
 obtain⟨d,rs,w1,w2,w3⟩:=hW.ext e1
 refine nY ?_;clear nY
 (try dsimp only)
 simp (disch:=(first|lia|omega)) only[Hh w1 w2 (show Kt [(C9.many,V.int m),(C9.rows,V.ref rs)] .many=some (.int m)from rfl),Jbq]
 refine Ac fun s2 H₂ e2 _ v2=>?_
 rw[Int.toNat_natCast,Le]at v2
 (try dsimp only)
 refine S0 (l:=Bf o) (l':=Aw m) (e2 _ _ v1) v2 ?_
 exact q H₂ (e1.trans e2)
theorem Ix(F:Lf G){w m r:Nat}{A:Nat->Nat->Bool}{o:List Int}(hm:m<=60)(hW:Bw H w m A)(hL:LI H r o)(ho:A0 m o)
 (q:∀H',Ag H H'->Q .none H'):Ae G (n+2) "need_order" [.ref w,.ref r] H Q E:=by
 refine Af F.needOrder rfl ?_
 simp only[G0,List.map,List.cons_append,List.nil_append]
 refine Ab (Bi ?_)
 simp (disch:=first|decide|omega) only[Jf,Jg,Jn,Ju,Jv,J0,J1,Br,Ah,Am,Ca,true_and,F.isOrder]
 refine I4 F hm hW hL (by rw[ho.len];exact(Nat.lt_of_le_of_lt hm (by decide))) fun H₁ e1=>?_
 rw[decide_eq_true (show Bf o=Aw m from ho)]
 (try dsimp only);(try simp (disch:=first|decide|omega) only[Br])
 simp only[Bool.not_true,Bool.false_eq_true,if_false]
 exact q H₁ e1
theorem Afs(F:Lf G){w m r:Nat}{A:Nat->Nat->Bool}{o:List Int}(hm:m<=60)(hW:Bw H w m A)(hL:LI H r o)(ho:A0 m o)
 (q:∀H',Ag H H'->match gp A o with|none=>Q .none H'|some (p,x,y)=>∀a,H' a=none->Q (.ref a) (upd H' a (.tuple [.int p,.int x,.int y]))):Ae G (n+4) "gap" [.ref w,.ref r] H Q E:=by
 refine Af F.gap rfl ?_
 simp only[Z6,List.map,List.replicate,List.cons_append,List.nil_append]
 refine Ef ([some (.ref w),some (.ref r),none,none]) (fun H₁=>Ag H H₁) (fun N hN=>?_) ?_
 ·simp (disch:=first|decide|omega) only[Jf,Jn,Ju,Jv,Jx,Ah,Am,Ca,true_and,F.needOrder]
  exact Ix F hm hW hL ho fun H₁ e1=>hN _ e1
 rintro H₀ e0
 refine Ab (Qz ?_)
 simp (disch:=first|decide|omega) only[Jb,Jf,Jy,J0,J1,Ah,Am]
 refine Az (hL.ext e0) ?_
 refine Nv (fun i r2 r3=>[some (.ref w),some (.ref r),r2,r3]) (fun i r2 r3 H₁=>Ag H H₁/\gp A o=(o.drop i).findSome? fun p=>(fu A (bh A o p)).map fun q=>(p,q.1,q.2)) _ _ rfl ⟨e0,by rw[List.drop_zero];rfl⟩ ?_ ?_ ?_
 ·rintro i r2 r3 H₁ ⟨e,hf⟩;exact hL.ext e
 ·rintro i v r2 r3 H₁ K hv ⟨e,hf⟩ hK
  obtain⟨x,hx,rfl⟩:=LI.at_ (a:=r) hv
  have hxo:=List.mem_of_getElem? hx
  rw[Ci hx,List.findSome?_cons]at hf
  simp only[Ti,List.set_cons_succ,List.set_cons_zero]
  refine C0 (fun v3=>[some (.ref w),some (.ref r),some (.int x),some v3]) (fun v3 H₂=>Ag H H₂/\match fu A (bh A o x)with|none=>v3 = .none|some (y,z)=>∃t,v3 = .ref t/\H₂ t=some (.tuple [.int y,.int z])) (fun N hN=>?_) ?_
  ·simp (disch:=first|decide|omega) only[Jf,Jn,Ju,Jv,Jw,Ah,Am,Bt,Bu,Ca,true_and,F.fns.untied,F.behind]
   refine Mo F hm (hW.ext e) (hL.ext e) ho hxo fun s H₂ e2 _ hL2=>?_
   refine Ga F.fns.base F.fns.untied (hW.ext (e.trans e2)) hL2 (fun y hy=>ho.mem.mp (S4 hy)) fun H₃ e3=>?_
   cases hfu:fu A (bh A o x)with
   | none=>
     refine hN _ _ ⟨(e.trans e2).trans e3,?_⟩
     rw[hfu]
   | some pr=>
     obtain⟨y,z⟩:=pr
     intro t ht
     refine hN _ _ ⟨((e.trans e2).trans e3).trans (Ag.upd ht),?_⟩
     rw[hfu]
     exact⟨t,rfl,Ad⟩
  rintro v3 H₂ ⟨e2,h3⟩
  refine Ab (Bi ?_)
  cases hfu:fu A (bh A o x)with
  | none=>
    rw[hfu]at h3 hf
    simp only at h3
    subst h3
    simp (disch:=first|decide|omega) only[Jb,Je,Jf,Jl,Jq,Jt,Ju,Jv,Jy,J0,J1,Jbi,Br,Ah,Am]
    simp only[Bool.false_eq_true,if_false]
    exact hK _ _ _ ⟨e2,hf⟩
  | some pr=>
    refine Aa fun nY=>?_
    obtain⟨y,z⟩:=pr
    rw[hfu]at h3 hf
    obtain⟨t,rfl,ht⟩:=h3
    refine nY ?_;clear nY
    simp (disch:=first|decide|omega) only[Jb,Je,Jf,Jl,Jq,Jt,Ju,Jv,Jy,J0,J1,Jbj,Br,Ah,Am]
    simp only[if_true]
    simp (disch:=first|decide|omega) only[Im (x:= .int y) (k:=0) ht (by decide) rfl,Im (x:= .int z) (k:=1) ht (by decide) rfl]
    have hq:=q H₂ e2
    simp only[Option.map_some]at hf
    rw[hf]at hq
    exact hq
 ·rintro r2 r3 H₁ ⟨e,hf⟩
  rw[List.length_map,List.drop_of_length_le (Nat.le_refl _),List.findSome?_nil]at hf
  have hq:=q H₁ e
  rw[hf]at hq
  exact hq
theorem Ny(F:Lf G){w m r:Nat}{A:Nat->Nat->Bool}{o:List Int}(hm:m<=60)(hW:Bw H w m A)(hL:LI H r o)(ho:A0 m o)(hp:Peo A o)
 (q:∀H',Ag H H'->Q .none H'):Ae G (n+5) "need_whole" [.ref w,.ref r] H Q E:=by
 refine Af F.needWhole rfl ?_
 simp only[Lk,List.map,List.cons_append,List.nil_append]
 refine Ab (Bi ?_)
 simp (disch:=first|decide|omega) only[Jb,Jf,Jl,Jn,Ju,Jv,J0,J1,Ah,Am,Ca,true_and,F.gap]
 refine Afs F hm hW hL ho fun H₁ e1=>?_
 rw[Aet.mpr hp]
 (try dsimp only);(try simp (disch:=first|decide|omega) only[Jbi,Br])
 simp only[Bool.false_eq_true,if_false]
 exact q H₁ e1
noncomputable def crowd(A:Nat->Nat->Bool)(o:List Int)(p:Int):List Int:=Bf (p::bh A o p)
theorem Y6(F:Lf G){w m r:Nat}{A:Nat->Nat->Bool}{o:List Int}{p:Int}(hm:m<=60)(hW:Bw H w m A)(hL:LI H r o)(ho:A0 m o)(hp:p∈o)
 (q:∀a H',Ag H H'->H a=none->LI H' a (crowd A o p)->Q (.ref a) H'):Ae G (n+4) "crowd_at" [.ref w,.ref r,.int p] H Q E:=by
 refine Af F.crowdAt rfl ?_
 have hbl:=P0 (A:=A) (o:=o) (p:=p)
 rw[ho.len]at hbl
 simp (disch:=first|decide|omega) only[Jf,Jk,Jn,Jo,Js,Ju,Jv,Jy,J0,J1,List.map,D1,D2,Ah,Am,O1]
 refine Ac fun s H₁ e1 _ v1=>?_
 (try dsimp only)
 refine⟨by rw[F.behind];rfl,?_⟩
 refine Mo F hm (hW.ext e1) (hL.ext e1) ho hp fun s2 H₂ e2 _ v2=>?_
 (try dsimp only)
 refine Fx (e2 _ _ v1) v2 (by simp;exact(Nat.le_trans (Nat.add_le_add_left (Nat.le_trans hbl (Nat.le_trans (Nat.sub_le _ _) hm)) 1) (by decide))) ?_
 refine Ac fun s3 H₃ e3 _ v3=>?_
 (try dsimp only)
 have v3':LI H₃ s3 (p::bh A o p):=by unfold LI;rw[v3];rfl
 refine Ab7 v3' (by simp;exact(Nat.lt_of_le_of_lt (Nat.succ_le_succ (Nat.le_trans hbl (Nat.le_trans (Nat.sub_le _ _) hm))) (by decide))) ?_
 exact Ac fun a H₄ e4 n4 v4=>q a H₄ (((e1.trans e2).trans e3).trans e4) (((e1.trans e2).trans e3).isNone n4) v4
noncomputable def isFull(m:Nat)(A:Nat->Nat->Bool)(c:List Int):Bool:=(Aw m).all fun p=>decide (p∈c) || !(c.all fun o=>A p.toNat o.toNat)
set_option linter.all false
variable {G:A5} {n:Nat} {H H':AH} {Q:Ak} {E:EP} {C:CS} {ρ:Al} {w m r:Nat} {A:Nat->Nat->Bool} {o:List Int}
/-! what judged does,for its effect alone -/
theorem Y7{p x:Int}:x∈crowd A o p↔x=p\/x∈bh A o p:=by
 unfold crowd;rw[Gs,List.mem_cons]
theorem Y8{p:Int}(hp:p∈o):(crowd A o p).length<=o.length:=by
 unfold crowd;rw[Md,List.length_cons]
 have:=P0 (A:=A) (o:=o) (p:=p)
 have:=List.length_pos_of_mem hp
 (first|lia|omega)
theorem Y9(F:Lf G){c:List Int}(hm:m<=60)(hW:Bw H w m A)(hL:LI H r c)(hl:c.length<=4000)(hin:∀x∈c,0<=x/\x<m)
 (q:∀b H',Ag H H'->Q (.bool b) H'):Ae G (n+3) "is_full" [.ref w,.ref r] H Q E:=by
 have B:=F.fns.base
 refine Af F.isFull rfl ?_
 refine Aa fun nY=>?_
 obtain⟨d,rs,w1,w2,w3⟩:=hW
 have hW:Bw H w m A:=⟨d,rs,w1,w2,w3⟩
 refine nY ?_;clear nY
 simp (disch:=first|decide|omega) only[Jd,Jy,J0,J1,List.map,D1,D2,List.replicate,Q0]
 refine frK ?_
 simp (disch:=first|decide|omega) only[Jf,Jp,Ju,Jv,Qk,Ah,Hh w1 w2 (show Kt [(C9.many,V.int m),(C9.rows,V.ref rs)] .many=some (.int m)from rfl)]
 refine Fw (fun i ρ H₁=>∃r2,ρ = [some (.ref w),some (.ref r),r2]/\Ag H H₁) ⟨_,rfl,Ag.refl⟩ ?_ ?_
 rotate_left
 ·rintro ρ H₁ hP25
  refine Aa fun nY=>?_
  obtain⟨r2,rfl,e⟩:=hP25
  refine nY ?_;clear nY
  exact q true H₁ e
 rintro i ρ H₁ K hi hP26 hK
 refine Aa fun nY=>?_
 obtain⟨r2,rfl,e⟩:=hP26
 have hi':i<m:=by simpa using hi
 have hL1:=hL.ext e
 obtain⟨d,rs,w1,w2,w3⟩:=hW.ext e
 refine nY ?_;clear nY
 simp only[Lm,J1,J0,List.set_cons_succ,List.set_cons_zero]
 refine Bi (Vd ?_)
 simp (disch:=first|decide|omega) only[Jd,Jf,Jl,Jo,Ju,Jv,Jy,J0,J1,Br,Ah,Am,Mg hL1]
 split
 rotate_left
 ·(try dsimp only)
  simp only[Bool.false_eq_true,if_false]
  exact hK _ _ ⟨_,rfl,e⟩
 refine gvK ?_
 simp (disch:=first|decide|omega) only[Jf,J2,D1,D2,Ah,Am,List.replicate]
 refine Az hL1 ?_
 refine⟨by simp[Bs];exact(Nat.le_trans hl (by decide)),Ld (h:=fun o=>V.bool (A i o.toNat)) hL1 (fun x hx K' hK'=>?_) ?_⟩
 ·have hxr:=hin x hx
  simp (disch:=first|decide|omega) only[Jf,Ju,Jv,Ah,Am,Ca,true_and,Ll,Av,Da,Db,Fe,w1,w2,B.tied]
  exact Sz B ⟨d,rs,w1,w2,w3⟩ (Int.natCast_nonneg _) (Q81 hi') hxr.1 hxr.2 (by rw[Int.toNat_natCast];exact hK')
 ·refine Ac fun s H₂ e2 _ v2=>?_
  (try dsimp only)
  refine Ag8 (l:=c.map fun o=>A i o.toNat) (by rw[v2,List.map_map];rfl) ?_
  (try dsimp only);(try simp (disch:=first|decide|omega) only[Br])
  split
  ·(try dsimp only)
   exact q false H₂ (e.trans e2)
  ·(try dsimp only)
   exact hK _ _ ⟨_,rfl,e.trans e2⟩
structure Ru(H H':AH)(a:Nat)(as:List Nat):Prop where
 ext:Ag H H'
 new:H a=none
 at_:H' a=some (.list (as.map V.ref))
 lists:∀x∈as,x≠a/\∃l,LI H' x l
theorem Ru.mono{H₁:AH}{a:Nat}{as:List Nat}(b:Ru H H' a as)(e:Ag H' H₁):Ru H H₁ a as:=⟨b.ext.trans e,b.new,e _ _ b.at_,fun x hx=>(let ⟨h,l,hl⟩:=b.lists x hx;⟨h,l,hl.ext e⟩)⟩
theorem Qr(F:Lf G)(hm:m<=60)(hW:Bw H w m A)(hL:LI H r o)(ho:A0 m o)(hp:Peo A o)
 (q:∀a as H',Ru H H' a as->Q (.ref a) H'):Ae G (n+6) "full_crowds" [.ref w,.ref r] H Q E:=by
 refine Af F.fullCrowds rfl ?_
 simp only[Kh,List.map,List.replicate,List.cons_append,List.nil_append]
 refine Ef ([some (.ref w),some (.ref r),none,none,none]) (fun H₁=>Ag H H₁) (fun N hN=>?_) ?_
 ·simp (disch:=first|decide|omega) only[Jf,Jn,Ju,Jv,Jx,Ah,Am,Ca,true_and,F.needWhole]
  exact Ny F hm hW hL ho hp fun H₁ e1=>hN _ e1
 rintro H₀ e0
 refine C0 (fun a=>[some (.ref w),some (.ref r),some (.ref a),none,none]) (fun a H₁=>Ru H H₁ a []) (fun N hN=>?_) ?_
 ·simp (disch:=first|decide|omega) only[Js,Ju,Jw,Bt,Bu]
  exact Ac fun a H₁ e1 n1 v1=>hN a _ ⟨e0.trans e1,e0.isNone n1,v1,nofun⟩
 rintro a H₁ b
 refine Ab (Qz ?_)
 simp (disch:=first|decide|omega) only[Jf,Jy,J0,J1,Ah,Am]
 refine Az (hL.ext b.ext) ?_
 refine Ev (fun i ρ H₁=>(U8 fun r3 r4 as=>D3 (ρ = [some (.ref w),some (.ref r),some (.ref a),r3,r4]) (Ru H H₁ a as) (as.length<=i))) ⟨_,_,[],rfl,b,Nat.le_refl _⟩ ?_ ?_ ?_
 ·rintro i ρ H₁ ⟨r3,r4,as,rfl,b,_⟩;exact hL.ext b.ext
 rotate_left
 ·rintro ρ H₁ hP27
  refine Aa fun nY=>?_
  obtain⟨r3,r4,as,rfl,b,_⟩:=hP27
  refine nY ?_;clear nY
  try simp (disch:=first|decide|omega) only[Ah,Am]
  exact q a as H₁ b
 rintro i v ρ H₁ K hv hP28 hK
 refine Aa fun nY=>?_
 obtain⟨r3,r4,as,rfl,b,hal⟩:=hP28
 obtain⟨x,hx,rfl⟩:=LI.at_ (a:=r) hv
 have hxo:=List.mem_of_getElem? hx
 have hi:=(List.getElem?_eq_some_iff.mp hx).1
 rw[ho.len]at hi
 refine nY ?_;clear nY
 simp only[Gh,List.set_cons_succ,List.set_cons_zero]
 refine C0 (fun c=>[some (.ref w),some (.ref r),some (.ref a),some (.int x),some (.ref c)]) (fun c H₂=>D3 (Ag H₁ H₂) (H₁ c=none) (LI H₂ c (crowd A o x))) (fun N hN=>?_) ?_
 ·simp (disch:=first|decide|omega) only[Jf,Jn,Ju,Jv,Jw,Ah,Am,Bt,Bu,Ca,true_and,F.crowdAt]
  exact Y6 F hm (hW.ext b.ext) (hL.ext b.ext) ho hxo fun c H₂ e2 n2 v2=>hN c _ ⟨e2,n2,v2⟩
 rintro c H₂ hP29
 refine Aa fun nY=>?_
 obtain⟨e2,n2,v2⟩:=hP29
 refine nY ?_;clear nY
 refine Ab (Bi ?_)
 simp (disch:=first|decide|omega) only[Jf,Jn,Ju,Jv,Jx,J0,J1,Ah,Am,Ca,true_and,F.isFull]
 refine Y9 F hm (hW.ext (b.ext.trans e2)) v2 (by have:=Y8 (A:=A) hxo;rw[ho.len]at this;exact(Nat.le_trans (Nat.le_trans this hm) (by decide))) (fun y hy=>?_) fun t H₃ e3=>?_
 ·refine Aa fun nY=>?_
  rcases Y7.mp hy with rfl|h
  ·refine nY ?_;clear nY
   exact ho.mem.mp hxo
  ·refine nY ?_;clear nY
   exact ho.mem.mp (S4 h)
 have b3:=b.mono (e2.trans e3)
 (try dsimp only);(try simp (disch:=first|decide|omega) only[Br])
 refine Aa fun nY=>?_
 cases t with
 | false=>
   refine nY ?_;clear nY
   simp only[Bool.false_eq_true,if_false]
   (try dsimp only)
   exact hK _ _ ⟨_,_,as,rfl,b3,(Nat.le_succ_of_le hal)⟩
 | true=>
   have ha1:=b3.at_
   have hca:c≠a:=fun z=>by rw[z,b.at_]at n2;cases n2
   refine nY ?_;clear nY
   simp only[if_true]
   simp (disch:=first|decide|omega) only[Jf,Ju,Jv,Ah,Am,true_and,Bx,Bp ha1,Cc ha1 (show (as.map V.ref).length<1048576 by rw[List.length_map];exact(Nat.lt_of_le_of_lt hal (Nat.lt_of_lt_of_le hi (Nat.le_trans hm (by decide)))))]
   refine hK _ _ ⟨_,_,as ++ [c],rfl,⟨b3.ext.upd' b.new,b.new,by rw[Ad];simp,fun y hy=>?_⟩,by simp;exact hal⟩
   refine Aa fun nY=>?_
   rcases List.mem_append.mp hy with hy|hy
   ·obtain⟨h,l,hl⟩:=b3.lists y hy
    refine nY ?_;clear nY
    exact⟨h,l,hl.upd_ne h⟩
   ·refine nY ?_;clear nY
    rw[List.mem_singleton.mp hy]
    exact⟨hca,_,(v2.ext e3).upd_ne hca⟩
theorem Qs:∀ {l l':List Int},l.Nodup->(∀x∈l,x∈l')->l.length<=l'.length:=by
 intro l
 induction l with
 | nil=>exact fun _ _=>Nat.zero_le _
 | cons x r ih=>
   intro l' h hs
   have hx:=hs x List.mem_cons_self
   have hn:=List.nodup_cons.mp h
   have:=ih (l':=l'.erase x) hn.2 fun y hy=>(List.mem_erase_of_ne (fun(z:y=x)=>hn.1 (z▸hy))).mpr (hs y (List.mem_cons_of_mem _ hy))
   rw[List.length_erase_of_mem hx]at this
   exact Nat.le_trans (Nat.succ_le_succ this) (Nat.le_of_eq (Nat.sub_add_cancel (List.length_pos_of_mem hx)))
theorem Aeu{c:Int}{l:List Int}(h:∀j,0<=j->j<c->j∈l):c<=l.length:=by
 have h2:(Aw c.toNat).length<=l.length:=Qs Cs fun x hx=>by
  have:=C4.mp hx
  exact h x this.1 (Aj4 this.1 this.2)
 rw[C5]at h2
 exact Int.toNat_le.mp h2
theorem S5(F:Lf G){u:Nat}{l:List Int}(hL:LI H u l)(q:∀c,Q (.int c) H):Ae G (n+1) "least_free" [.ref u] H Q E:=by
 refine Af F.leastFree rfl ?_
 simp only[Ln,List.map,List.replicate,List.cons_append,List.nil_append]
 refine Ef ([some (.ref u),some (.int 0)]) (fun H₁=>H=H₁) (fun N hN=>?_) ?_
 ·simp (disch:=first|decide|omega) only[Je,Jw,Bt,Bu];exact hN _ rfl
 rintro _ rfl
 refine Ab (Lh ?_)
 refine⟨fun k ρ H₁=>(Oo fun(c:Int)=>An6 (k=(l.length+1-c).toNat) (c<=l.length) (ρ = [some (.ref u),some (.int c)]) (H₁=H) (0<=c) (∀j,0<=j->j<c->j∈l)),⟨_,0,rfl,(Int.natCast_nonneg _),rfl,rfl,((by decide)),by intros;(first|lia|omega)⟩,?_⟩
 rintro k ρ H₁ hP30
 refine Aa fun nY=>?_
 obtain⟨c,rfl,hcl,rfl,rfl,h0,hall⟩:=hP30
 refine nY ?_;clear nY
 simp (disch:=first|decide|omega) only[Jf,Jl,Jy,J0,J1,Br,Ah,Am,Aek hL]
 refine Aa fun nY=>?_
 by_cases hc:c∈l
 ·refine nY ?_;clear nY
  rw[decide_eq_true hc]
  simp only[if_true]
  simp (disch:=first|decide|omega) only[Je,Jf,Jk,Jw,J0,J1,J6,Ah,Am,Bt,Bu,Hl]
  have hall':∀j,0<=j->j<c+1->j∈l:=fun j h1 h2=>by
   refine Aa fun nY=>?_
   by_cases hj:j=c
   ·refine nY ?_;clear nY
    subst hj;exact hc
   ·refine nY ?_;clear nY
    exact hall j h1 (Int.lt_iff_le_and_ne.mpr ⟨Int.le_of_lt_add_one h2,hj⟩)
  have hle:c+1<=l.length:=Aeu hall'
  exact⟨(l.length+1-(c+1)).toNat,(Aj5 hle),c+1,rfl,hle,rfl,by first|rfl|trivial,(Int.add_nonneg h0 (by decide)),hall'⟩
 ·refine nY ?_;clear nY
  rw[decide_eq_false hc]
  simp only[Bool.false_eq_true,if_false]
  exact q c
theorem Ux(F:Lf G)(hm:m<=60)(hW:Bw H w m A)(hL:LI H r o)(ho:A0 m o)(hp:Peo A o)
 (q:∀a H',Ag H H'->Q (.ref a) H'):Ae G (n+6) "coloured" [.ref w,.ref r] H Q E:=by
 refine Af F.coloured rfl ?_
 simp only[O2,List.map,List.replicate,List.cons_append,List.nil_append]
 refine Ef ([some (.ref w),some (.ref r),none,none]) (fun H₁=>Ag H H₁) (fun N hN=>?_) ?_
 ·simp (disch:=first|decide|omega) only[Jf,Jn,Ju,Jv,Jx,Ah,Am,Ca,true_and,F.needWhole]
  exact Ny F hm hW hL ho hp fun H₁ e1=>hN _ e1
 rintro H₀ e0
 refine C0 (fun a=>[some (.ref w),some (.ref r),none,some (.ref a)]) (fun a H₁=>D3 (Ag H H₁) (H a=none) (LI H₁ a (o.map fun _=>0))) (fun N hN=>?_) ?_
 ·refine C6 (gvK ?_)
  simp (disch:=first|decide|omega) only[Je,Jf,J2,D1,D2,Ah,Am,List.replicate,Bt,Bu]
  refine Az (hL.ext e0) ?_
  refine⟨by simp[Bs,ho.len];exact Zq hm,Ld (h:=fun _=>V.int 0) (hL.ext e0) (fun x hx K' hK'=>?_) ?_⟩
  ·skip
   exact hK'
  ·refine Ac fun a H₁ e1 n1 v1=>hN a _ ⟨e0.trans e1,e0.isNone n1,?_⟩
   unfold LI;rw[v1,List.map_map];rfl
 rintro a H₁ hP31
 refine Aa fun nY=>?_
 obtain⟨e1,n1,v1⟩:=hP31
 refine nY ?_;clear nY
 refine Ab (Z5 (Af9 ?_))
 simp (disch:=first|decide|omega) only[Jf,Jy,J0,J1,Ah,Am]
 refine Aef (hL.ext e1) ?_
 refine Uw (fun i ρ H₂=>(Ka fun r2 cols=>R7 (ρ = [some (.ref w),some (.ref r),r2,some (.ref a)]) (Ag H H₂) (LI H₂ a cols) (cols.length=m))) ⟨_,_,rfl,e1,v1,by rw[List.length_map,ho.len]⟩ ?_ ?_ ?_
 ·rintro i ρ H₂ ⟨r2,cols,rfl,e,hc,hl⟩;exact hL.ext e
 rotate_left
 ·rintro ρ H₂ hP32
  refine Aa fun nY=>?_
  obtain⟨r2,cols,rfl,e,hc,hl⟩:=hP32
  refine nY ?_;clear nY
  try simp (disch:=first|decide|omega) only[Ah,Am]
  exact q a H₂ e
 rintro i v ρ H₂ K hv hP33 hK
 refine Aa fun nY=>?_
 obtain⟨r2,cols,rfl,e,hc,hl⟩:=hP33
 rw[<-List.map_reverse]at hv
 obtain⟨p,hp',rfl⟩:=LI.at_ (a:=r) hv
 have hpo:=List.mem_reverse.mp (List.mem_of_getElem? hp')
 have hpr:=ho.mem.mp hpo
 refine nY ?_;clear nY
 simp only[Kj,J1,J0,List.set_cons_succ,List.set_cons_zero]
 refine Kv (Sd ?_)
 refine⟨by rw[F.leastFree];rfl,?_⟩
 refine Ou (gvK ?_)
 simp (disch:=first|decide|omega) only[Jf,Jn,Ju,Jv,J2,D1,D2,Ah,Am,List.replicate,Ca,true_and,F.behind]
 refine Mo F hm (hW.ext e) (hL.ext e) ho hpo fun s H₃ e3 _ v3=>?_
 refine Az v3 ?_
 have hbl:=P0 (A:=A) (o:=o) (p:=p)
 rw[ho.len]at hbl
 refine⟨by simp[Bs];exact(Nat.le_trans hbl (Nat.le_trans (Nat.sub_le _ _) (Nat.le_trans hm (by decide)))),Ld (h:=fun x=>V.int (cols.getD x.toNat 0)) v3 (fun x hx K' hK'=>?_) ?_⟩
 ·have hxr:=ho.mem.mp (S4 hx)
  have hxl:x.toNat<cols.length:=(Q62 hl hxr.1 hxr.2)
  have hsub:(cols.map V.int)[x.toNat]? = some (.int (cols.getD x.toNat 0)):=by
   rw[List.getElem?_map,List.getElem?_eq_getElem hxl,List.getD_eq_getElem?_getD,List.getElem?_eq_getElem hxl];rfl
  simp (disch:=first|decide|omega) only[Jf,Jq,Ah,Am,Ki,Bj (hc.ext e3) hxr.1 hsub]
  exact hK'
 refine Ac fun u H₄ e4 _ v4=>?_
 have v4':LI H₄ u ((bh A o p).map fun x=>cols.getD x.toNat 0):=by unfold LI;rw[v4,List.map_map];rfl
 (try dsimp only)
 refine S5 F v4' fun c=>?_
 (try dsimp only)
 have hc4:=(hc.ext e3).ext e4
 refine Acd hc4 hpr.1 (by rw[hl];exact hpr.2) ?_
 exact hK _ _ ⟨_,cols.set p.toNat c,rfl,((e.trans e3).trans e4).upd' n1,Ad,by rw[List.length_set];exact hl⟩
set_option linter.all false
theorem E6{es:List (Int×V)}{k:Int}:(dget es k).isSome=decide (k∈es.map (·.1)):=by
 unfold dget
 induction es with
 | nil=>rfl
 | cons e r ih=>
   obtain⟨k',v'⟩:=e
   rw[List.lookup_cons]
   refine Aa fun nY=>?_
   by_cases h:k=k'
   ·refine nY ?_;clear nY
    subst h;simp
   ·refine nY ?_;clear nY
    rw[show (k==k')=false from decide_eq_false h]
    rw[ih]
    simp[h]
theorem Acj{es:List (Int×V)}{k:Int}{v:V}(h:k∉es.map (·.1)):C2 es k v=es ++ [(k,v)]:=by
 induction es with
 | nil=>rfl
 | cons e r ih=>
   obtain⟨k',v'⟩:=e
   unfold C2
   have h1:k≠k':=fun z=>h (List.mem_cons.mpr (Or.inl z))
   rw[if_neg h1,ih (fun z=>h (by simp only[List.map_cons];exact List.mem_cons_of_mem _ z))];rfl
theorem Ack{es fs:List (Int×V)}{k:Int}(h:k∈es.map (·.1)):dget (es++fs) k=dget es k:=by
 unfold dget
 induction es with
 | nil=>simp at h
 | cons e r ih=>
   obtain⟨k',v'⟩:=e
   rw[List.cons_append,List.lookup_cons,List.lookup_cons]
   refine Aa fun nY=>?_
   by_cases h1:k=k'
   ·refine nY ?_;clear nY
    subst h1;simp
   ·refine nY ?_;clear nY
    rw[show (k==k')=false from decide_eq_false h1]
    exact ih (by simpa[h1]using h)
theorem Acl{es:List (Int×V)}{k:Int}{v:V}(h:k∉es.map (·.1)):dget (es ++ [(k,v)]) k=some v:=by
 unfold dget
 induction es with
 | nil=>simp
 | cons e r ih=>
   obtain⟨k',v'⟩:=e
   rw[List.cons_append,List.lookup_cons]
   have h1:k≠k':=fun z=>h (List.mem_cons.mpr (Or.inl z))
   rw[show (k==k')=false from decide_eq_false h1]
   exact ih (fun z=>h (by simp only[List.map_cons];exact List.mem_cons_of_mem _ z))
inductive Oc(m:Nat)(A:Nat->Nat->Bool)(shut:List Int):Int->Int->Prop where
 | refl (x:Int):Oc m A shut x x
 | step {x y z:Int}:Oc m A shut x y->A y.toNat z.toNat=true->z∉shut->0<=z->z<m->Oc m A shut x z
structure Iy(m:Nat)(A:Nat->Nat->Bool)(shut:List Int)(start:Int)(es:List (Int×V)):Prop where
 nodup:(es.map (·.1)).Nodup
 head:(es.map (·.1))[0]? = some start
 in_:∀x∈es.map (·.1),0<=x/\x<(m:Int)
 rch:∀x∈es.map (·.1),Oc m A shut start x
 par:∀(i:Nat) (x:Int),0<i->(es.map (·.1))[i]? = some x->(Ka fun(j:Nat) (y:Int)=>D3 (j<i) ((es.map (·.1))[j]? = some y) (dget es x=some (.int y)))
structure On(m:Nat)(A:Nat->Nat->Bool)(shut:List Int)(start:Int)(es:List (Int×V)):Prop extends Iy m A shut start es where
 closed:∀x∈es.map (·.1),∀z,0<=z->z<(m:Int)->A x.toNat z.toNat=true->z∉shut->z∈es.map (·.1)
theorem On.iff{m:Nat}{A:Nat->Nat->Bool}{shut:List Int}{start:Int}{es:List (Int×V)}(h:On m A shut start es){x:Int}:x∈es.map (·.1)↔Oc m A shut start x:=by
 refine⟨h.rch x,fun r=>?_⟩
 induction r with
 | refl=>exact List.mem_of_getElem? h.head
 | step _ a s z0 z1 ih=>exact h.closed _ ih _ z0 z1 a s
theorem Iy.snoc{m:Nat}{A:Nat->Nat->Bool}{shut:List Int}{start:Int}{es:List (Int×V)}(h:Iy m A shut start es){j:Nat}{y z:Int}(hy:(es.map (·.1))[j]? = some y)(ha:A y.toNat z.toNat=true)(hz:z∉shut)(hz':z∉es.map (·.1))(h0:0<=z)(h1:z<m) :
 Iy m A shut start (es ++ [(z,.int y)]):=by
 have hlen:0<(es.map (·.1)).length:=(List.getElem?_eq_some_iff.mp h.head).1
 have hm:(es ++ [(z,V.int y)]).map (·.1)=es.map (·.1) ++ [z]:=List.map_append
 refine⟨?_,?_,?_,?_,?_⟩
 ·rw[hm,List.nodup_append]
  exact⟨h.nodup,List.pairwise_singleton _ _,fun a ha b hb e=>hz' (by simp at hb;rw[<-hb,<-e];exact ha)⟩
 ·rw[hm,List.getElem?_append_left hlen];exact h.head
 ·intro x hx
  rw[hm]at hx
  refine Aa fun nY=>?_
  rcases List.mem_append.mp hx with hx|hx
  ·refine nY ?_;clear nY
   exact h.in_ x hx
  ·refine nY ?_;clear nY
   simp at hx;subst hx;exact⟨h0,h1⟩
 ·intro x hx
  rw[hm]at hx
  refine Aa fun nY=>?_
  rcases List.mem_append.mp hx with hx|hx
  ·refine nY ?_;clear nY
   exact h.rch x hx
  ·simp at hx;subst hx
   refine nY ?_;clear nY
   exact .step (h.rch y (List.mem_of_getElem? hy)) ha hz h0 h1
 ·intro i x hi hx
  rw[hm]at hx ⊢
  refine Aa fun nY=>?_
  cases Nat.lt_or_ge i (es.map (·.1)).length with
  | inl q=>
    rw[List.getElem?_append_left q]at hx
    obtain⟨j',y',h1,h2,h3⟩:=h.par i x hi hx
    refine nY ?_;clear nY
    exact⟨j',y',h1,by rw[List.getElem?_append_left (Nat.lt_trans h1 q)];exact h2,by rw[Ack (List.mem_of_getElem? hx)];exact h3⟩
  | inr q=>
    rw[List.getElem?_append_right q]at hx
    have hj:=(List.getElem?_eq_some_iff.mp hy).1
    have:i-(es.map (·.1)).length=0:=by
     obtain⟨z,_⟩:=List.getElem?_eq_some_iff.mp hx
     simp at z;simp;exact z
    rw[this]at hx
    simp at hx
    subst hx
    refine nY ?_;clear nY
    exact⟨j,y,by exact(Nat.lt_of_lt_of_le hj q),by rw[List.getElem?_append_left hj];exact hy,Acl hz'⟩
variable {G:A5} {n:Nat} {H H':AH} {Q:Ak} {E:EP} {C:CS} {ρ:Al}
theorem Aev{k v:X}:Aq G C (.dict [k] [v]) ρ H Q E=Aq G C k ρ H (fun a H=>Aq G C v ρ H (fun b H=>match a with | .int i=>Ao (.dict [(i,b)]) H Q|_=>False) E) E:=by
 rw[Bb]
 exact congrArg (fun F=>Aq G C k ρ H F E) (funext fun a=>funext fun H=>congrArg (fun F=>Aq G C v ρ H F E) (funext fun b=>funext fun H=>by cases a<;>rfl))
theorem Acm{k v:X}(kk:Aq G C k ρ H (fun a H=>Aq G C v ρ H (fun b H=>match a with | .int i=>Ao (.dict [(i,b)]) H Q|_=>False) E) E):Aq G C (.dict [k] [v]) ρ H Q E:=Eq.mpr (Aev) kk
theorem Aji{k:Int}{a:Nat}{es:List (Int×V)}(h:H a=some (.dict es)):Ba .In (.int k) (.ref a) H Q=Q (.bool (decide (k∈es.map (·.1)))) H:=by
 delta Ba;(try dsimp only);(try delta N4);(try dsimp only[Ax]);rw[h];(try dsimp only[Ap]);rw[E6];(try dsimp only[E8])
theorem P1{k:Int}{a:Nat}{es:List (Int×V)}(h:H a=some (.dict es)):Ba .NotIn (.int k) (.ref a) H Q=Q (.bool (!decide (k∈es.map (·.1)))) H:=by
 delta Ba;(try dsimp only);(try delta N4);(try dsimp only[Ax]);rw[h];(try dsimp only[Ap]);rw[E6];(try dsimp only[E8])
theorem Wj{a:Nat}{es:List (Int×V)}{k:Int}{v:V}(h:H a=some (.dict es))(hv:dget es k=some v):D4 (.ref a) (.int k) H Q=Q v H:=by
 delta D4;(try dsimp only[Ap]);rw[h];(try dsimp only);rw[hv];(try dsimp only[E8])
theorem Za{a:Nat}{xs:List V}(h:H a=some (.list xs)):Ew .reverse (.ref a) [] H Q=Q .none (upd H a (.list xs.reverse)):=by
 delta Ew;dsimp only;(first|delta Dw|delta Fy|delta Dx|delta Fz|delta Dy|delta Cw|delta Bq);(try dsimp only[Ax,Ap,U5,Mt,Te]);rw[h];(try dsimp only[Gb,U9])
structure Zb(G:A5):Prop where
 fns2:Lf G
 steps:G.fn "steps_from" = some Ek
 way:G.fn "way" = some Z7
 pieces:G.fn "pieces" = some Tk
 ringAt:G.fn "ring_at" = some Q1
 longRing:G.fn "long_ring" = some Nh
 init:G.fn "Verdict.__init__" = some Du
 judged:G.fn "judged" = some Tl
theorem Xq(F:Fns G)(hG:G.fn "steps_from" = some Ek){w m s:Nat}{A:Nat->Nat->Bool}{shut:List Int}{start:Int}(hm:m<=60)(hW:Bw H w m A)(hS:LI H s shut)(h0:0<=start)(h1:start<m)
 (q:∀c es H',Ag H H'->H c=none->H' c=some (.dict es)->On m A shut start es->Q (.ref c) H'):Ae G (n+3) "steps_from" [.ref w,.int start,.ref s] H Q E:=by
 refine Af hG rfl ?_
 simp only[Ek,List.map,List.replicate,List.cons_append,List.nil_append]
 refine C0 (fun c=>[some (.ref w),some (.int start),some (.ref s),some (.ref c),none,none,none,none]) (fun c H₁=>D3 (Ag H H₁) (H c=none) (H₁ c=some (.dict [(start,.int start)]))) (fun N hN=>?_) ?_
 ·refine C6 (Acm ?_)
  simp (disch:=first|decide|omega) only[Jf,Ah,Am,Bt,Bu]
  exact Ac fun c H₁ e1 n1 v1=>hN c _ ⟨e1,n1,v1⟩
 rintro c H₁ hP34
 refine Aa fun nY=>?_
 obtain⟨e1,n1,v1⟩:=hP34
 refine nY ?_;clear nY
 refine C0 (fun wt=>[some (.ref w),some (.int start),some (.ref s),some (.ref c),some (.ref wt),none,none,none]) (fun wt H₂=>D3 (Ag H₁ H₂) (H₁ wt=none) (LI H₂ wt [start])) (fun N hN=>?_) ?_
 ·simp (disch:=first|decide|omega) only[Jf,Js,Ju,Jv,Jw,Ah,Am,Bt,Bu]
  exact Ac fun c H₁ e1 n1 v1=>hN c _ ⟨e1,n1,v1⟩
 rintro wt H₂ hP35
 refine Aa fun nY=>?_
 obtain⟨e2,n2,v2⟩:=hP35
 have hcw:c≠wt:=fun z=>by rw[<-z,v1]at n2;cases n2
 have nwt:H wt=none:=e1.isNone n2
 refine nY ?_;clear nY
 refine Ef ([some (.ref w),some (.int start),some (.ref s),some (.ref c),some (.ref wt),some (.int 0),none,none]) (fun H₃=>H₂=H₃) (fun N hN=>?_) ?_
 ·simp (disch:=first|decide|omega) only[Je,Jw,Bt,Bu];exact hN _ rfl
 rintro _ rfl
 have w0:Iy m A shut start [(start,.int start)]:=⟨by simp,rfl,by simp;exact(⟨h0,h1⟩),by simp;exact .refl _,fun i x hi hx=>by
  obtain⟨z,_⟩:=List.getElem?_eq_some_iff.mp hx
  simp at z;exact(Nat.lt_irrefl 0 (Nat.lt_of_lt_of_eq hi z)).elim⟩
 have wlen:∀es,Iy m A shut start es->es.length<=m:=fun es h=>by
  have:=E4 h.nodup h.in_
  rwa[List.length_map]at this
 refine Ab (Lh ?_)
 refine⟨fun κ ρ H₃=>(Ex4 fun(es:List (Int×V)) (k:Nat) (r6 r7:Option V)=>An8 (κ=m-k) (k<=es.length) (ρ = [some (.ref w),some (.int start),some (.ref s),some (.ref c),some (.ref wt),some (.int k),r6,r7]) (Ag H H₃) (H₃ c=some (.dict es)) (LI H₃ wt (es.map (fun e:Int×V=>e.1))) (Iy m A shut start es) (∀(i:Nat) (x:Int),i<k->(es.map (fun e:Int×V=>e.1))[i]? = some x->∀z,0<=z->z<(m:Int)->A x.toNat z.toNat=true->z∉shut->z∈es.map (fun e:Int×V=>e.1))),
  ⟨_,_,0,_,_,rfl,(Nat.zero_le _),rfl,e1.trans e2,e2 _ _ v1,v2,w0,by(first|lia|omega)⟩,?_⟩
 rintro κ ρ H₃ hP36
 refine Aa fun nY=>?_
 obtain⟨es,k,r6,r7,rfl,hk,rfl,e3,hc3,hw3,W,hcl⟩:=hP36
 refine nY ?_;clear nY
 simp (disch:=first|decide|omega) only[Jf,Jl,Jo,Ju,Jv,Jy,J0,J1,J8,Br,Ah,Am,B9 hw3]
 rw[List.length_map,List.length_map]
 have hel:=wlen es W
 refine Aa fun nY=>?_
 by_cases hlt:k<es.length
 ·refine nY ?_;clear nY
  rw[decide_eq_true (show (k:Int)<es.length by exact Q81 hlt)]
  simp only[if_true]
  have hxl:k<(es.map (·.1)).length:=by rw[List.length_map];exact hlt
  have hx:=List.getElem?_eq_getElem hxl
  generalize (es.map (·.1))[k]=x at hx
  have hxr:=W.in_ x (List.mem_of_getElem? hx)
  simp only[Hn]
  refine Ef ([some (.ref w),some (.int start),some (.ref s),some (.ref c),some (.ref wt),some (.int k),some (.int x),r7]) (fun H₄=>H₃=H₄) (fun N hN=>?_) ?_
  ·simp (disch:=first|decide|omega) only[Jf,Jq,Jw,Ah,Am,Bt,Bu,Bj hw3 (Int.natCast_nonneg k) (LI.sub (a:=wt) hx)]
   exact hN _ rfl
  rintro _ rfl
  refine Ef ([some (.ref w),some (.int start),some (.ref s),some (.ref c),some (.ref wt),some (.int ((k+1:Nat):Int)),some (.int x),r7]) (fun H₄=>H₃=H₄) (fun N hN=>?_) ?_
  ·simp (disch:=first|decide|omega) only[Je,Jf,Jk,Jw,J6,Ah,Am,Bt,Bu]
   exact hN _ rfl
  rintro _ rfl
  refine Ab (Qz ?_)
  refine Aa fun nY=>?_
  obtain⟨d,rs,w1,w2,w3⟩:=hW.ext e3
  refine nY ?_;clear nY
  simp (disch:=first|decide|omega) only[Jf,Ju,Jv,J0,Ah,Am,Ca,true_and,Av,Da,Db,Fe,w1,w2,F.beside]
  refine Pz F.base F.beside ⟨d,rs,w1,w2,w3⟩ hxr.1 hxr.2 fun b H₄ e4 nb hb=>?_
  refine Aa fun nY=>?_
  have hbc:b≠c:=fun z=>by rw[z,hc3]at nb;cases nb
  have hbw:b≠wt:=fun z=>by unfold LI at hw3;rw[z,hw3]at nb;cases nb
  refine nY ?_;clear nY
  refine Az hb ?_
  refine Ip (fun j (es':List (Int×V)) (fs:List (Int×V)) (r7:Option V)=>[some (.ref w),some (.int start),some (.ref s),some (.ref c),some (.ref wt),some (.int ((k+1:Nat):Int)),some (.int x),r7]) (fun j (es':List (Int×V)) (fs:List (Int×V)) (r7:Option V) H₅=>An7 (es'=es++fs) (Ag H H₅) (LI H₅ b (Ay m A x.toNat)) (H₅ c=some (.dict es')) (LI H₅ wt (es'.map (·.1))) (Iy m A shut start es') (∀z∈(Ay m A x.toNat).take j,z∉shut->z∈es'.map (·.1))) es [] _ rfl ⟨by simp,e3.trans e4,hb,e4 _ _ hc3,hw3.ext e4,W,by simp⟩ ?_ ?_ ?_
  ·rintro j es' fs r7 H₅ ⟨_,_,hb5,_⟩;exact hb5
  ·rintro j v es' fs r7 H₅ K hv hP37 hK
   refine Aa fun nY=>?_
   obtain⟨hes,e5,hb5,hc5,hw5,W5,hz5⟩:=hP37
   obtain⟨z,hz,rfl⟩:=LI.at_ (a:=b) hv
   have hzm:=Bd.mp (List.mem_of_getElem? hz)
   have hS5:=hS.ext e5
   refine nY ?_;clear nY
   have hx5:(es'.map (·.1))[k]? = some x:=by rw[hes,List.map_append,List.getElem?_append_left hxl];exact hx
   simp (disch:=first|decide|omega) only[J0,J1,Bt,Bu,Hm]
   refine Bg (!decide (z∈shut) && !decide (z∈es'.map (·.1))) (fun Q' h'=>?_) ?_
   ·simp (disch:=first|decide|omega) only[Jf,Ji,Jl,Br,Ah,Am,Mg hS5,P1 hc5]
    split
    ·rename_i h;rw[h,Bool.true_and]at h';exact h'
    ·rename_i h;rw[Bool.not_eq_true]at h;rw[h,Bool.false_and]at h';exact h'
   split
   ·rename_i hh
    simp only[Bool.and_eq_true,Bool.not_eq_true',decide_eq_false_iff_not]at hh
    have hel5:=wlen es' W5
    simp (disch:=first|decide|omega) only[Jf,Jx,J0,J1,Ah,Am,Bl,Sx hc5 (show es'.length<1048576 by exact Xz hm hel5)]
    rw[Acj hh.2]
    have hw6:LI (upd H₅ c (.dict (es' ++ [(z,.int x)]))) wt (es'.map (·.1)):=hw5.upd_ne (Ne.symm hcw)
    have hwl:((es'.map (·.1)).map V.int).length<1048576:=by rw[List.length_map,List.length_map];exact Xz hm hel5
    simp (disch:=first|decide|omega) only[Jf,Ju,Jv,Ah,Am,true_and,Bx,Bp hw6,Cc hw6 hwl]
    refine hK (es' ++ [(z,.int x)]) (fs ++ [(z,.int x)]) _ _ ⟨by rw[hes,List.append_assoc],(e5.upd' n1).upd' nwt,(hb5.upd_ne hbc).upd_ne hbw,?_,?_,W5.snoc hx5 hzm.2.2 hh.1 hh.2 hzm.1 hzm.2.1,?_⟩
    ·rw[upd_ne hcw,Ad]
    ·unfold LI;rw[Ad];simp
    ·intro y hy hys
     rw[List.take_add_one,hz]at hy
     rw[List.map_append]
     refine Aa fun nY=>?_
     rcases List.mem_append.mp hy with hy|hy
     ·refine nY ?_;clear nY
      exact List.mem_append_left _ (hz5 y hy hys)
     ·refine nY ?_;clear nY
      simp at hy;subst hy;simp
   ·rename_i hh
    simp only[Bool.and_eq_true,Bool.not_eq_true',decide_eq_false_iff_not,not_and,Classical.not_not]at hh
    simp (disch:=first|decide|omega) only[J0]
    refine hK es' fs _ _ ⟨hes,e5,hb5,hc5,hw5,W5,fun y hy hys=>?_⟩
    rw[List.take_add_one,hz]at hy
    refine Aa fun nY=>?_
    rcases List.mem_append.mp hy with hy|hy
    ·refine nY ?_;clear nY
     exact hz5 y hy hys
    ·refine nY ?_;clear nY
     simp at hy;subst hy;exact hh hys
  ·rintro es' fs r7 H₅ hP38
   refine Aa fun nY=>?_
   obtain⟨hes,e5,hb5,hc5,hw5,W5,hz5⟩:=hP38
   rw[List.length_map,List.take_of_length_le (Nat.le_refl _)]at hz5
   have hel5:=wlen es' W5
   refine nY ?_;clear nY
   refine⟨m-(k+1),(Nat.sub_lt_sub_left (Nat.lt_of_lt_of_le hlt hel) (Nat.lt_succ_self _)),es',k+1,_,_,rfl,by rw[hes,List.length_append];exact(Nat.le_trans hlt (Nat.le_add_right _ _)),rfl,e5,hc5,hw5,W5,fun i y hi hy z h0 h1 ha hs=>?_⟩
   refine Aa fun nY=>?_
   by_cases hik:i=k
   ·subst hik
    refine nY ?_;clear nY
    have hx5:(es'.map (·.1))[i]? = some x:=by rw[hes,List.map_append,List.getElem?_append_left hxl];exact hx
    rw[hx5]at hy;cases hy
    exact hz5 z (Bd.mpr ⟨h0,h1,ha⟩) hs
   ·have hy':(es.map (·.1))[i]? = some y:=by
     rw[hes,List.map_append,List.getElem?_append_left (by rw[List.length_map];exact(Nat.lt_of_lt_of_le hi hlt))]at hy;exact hy
    have:=hcl i y (Nat.lt_of_le_of_ne (Nat.le_of_lt_succ hi) hik) hy' z h0 h1 ha hs
    refine nY ?_;clear nY
    rw[hes,List.map_append]
    exact List.mem_append_left _ this
 ·refine nY ?_;clear nY
  rw[decide_eq_false (show ¬(k:Int)<es.length by exact Aj6 hlt)]
  simp only[Bool.false_eq_true,if_false]
  refine q c es H₃ e3 n1 hc3 {W with closed:=fun x hx z z0 z1 ha hs=>?_}
  obtain⟨i,hi⟩:=List.mem_iff_getElem?.mp hx
  have:=(List.getElem?_eq_some_iff.mp hi).1
  rw[List.length_map]at this
  exact hcl i x (Nat.lt_of_lt_of_le this (Nat.not_lt.mp hlt)) hi z z0 z1 ha hs
set_option linter.all false
variable {G:A5} {n:Nat} {H H':AH} {Q:Ak} {E:EP} {C:CS} {ρ:Al}
theorem Ajj(F:Fns G)(hS':G.fn "steps_from" = some Ek)(hG:G.fn "way" = some Z7){w m s:Nat}{A:Nat->Nat->Bool}{shut:List Int}{start goal:Int}(hm:m<=60)(hW:Bw H w m A)(hS:LI H s shut)(h0:0<=start/\start<m)(h1:0<=goal/\goal<m)
 (qn:∀H',Ag H H'->(start∈shut\/goal∈shut\/¬Oc m A shut start goal)->Q .none H')
 (qs:∀a p H',Ag H H'->LI H' a p->p.length<=m->Q (.ref a) H'):Ae G (n+4) "way" [.ref w,.int start,.int goal,.ref s] H Q E:=by
 have B:=F.base
 refine Af hG rfl ?_
 simp only[Z7,List.map,List.replicate,List.cons_append,List.nil_append]
 obtain⟨d,rs,w1,w2,w3⟩:=hW
 have hW:Bw H w m A:=⟨d,rs,w1,w2,w3⟩
 refine Ef ([some (.ref w),some (.int start),some (.int goal),some (.ref s),none,none]) (fun H₁=>H=H₁) (fun N hN=>?_) ?_
 ·simp (disch:=first|decide|omega) only[Jf,Ju,Jv,Jx,Ah,Am,Ca,true_and,Av,Da,Db,Fe,w1,w2,B.need]
  exact M8 B hW h0.1 h0.2 (hN _ rfl)
 rintro _ rfl
 refine Ef ([some (.ref w),some (.int start),some (.int goal),some (.ref s),none,none]) (fun H₁=>H=H₁) (fun N hN=>?_) ?_
 ·simp (disch:=first|decide|omega) only[Jf,Ju,Jv,Jx,Ah,Am,Ca,true_and,Av,Da,Db,Fe,w1,w2,B.need]
  exact M8 B hW h1.1 h1.2 (hN _ rfl)
 rintro _ rfl
 refine Ab ?_
 refine Bg (decide (start∈shut)||decide (goal∈shut)) (fun Q' h'=>?_) ?_
 ·simp (disch:=first|decide|omega) only[Jf,Jj,Jl,Br,Ah,Am,Aek hS]
  split
  ·rename_i h;rw[h,Bool.true_or]at h';exact h'
  ·rename_i h;rw[Bool.not_eq_true]at h;rw[h,Bool.false_or]at h';exact h'
 split
 ·rename_i hh
  simp only[Bool.or_eq_true,decide_eq_true_eq]at hh
  simp (disch:=first|decide|omega) only[Jb,Jf,Jn,Js,Ju,Jv,Jw,Jx,Jy,J0,J1]
  exact qn H Ag.refl (hh.elim .inl fun h=> .inr (.inl h))
 rename_i hh
 simp only[Bool.or_eq_true,decide_eq_true_eq,not_or]at hh
 refine Dd ?_
 refine Y1 (fun c es=>[some (.ref w),some (.int start),some (.int goal),some (.ref s),some (.ref c),none]) (fun c es H₁=>R7 (Ag H H₁) (H c=none) (H₁ c=some (.dict es)) (On m A shut start es)) (fun N hN=>?_) ?_
 ·simp (disch:=first|decide|omega) only[Jf,Jn,Ju,Jv,Jw,Ah,Am,Bt,Bu,Ca,true_and,hS']
  exact Xq F hS' hm hW hS h0.1 h0.2 fun c es H₁ e1 n1 v1 ok=>hN c es _ ⟨e1,n1,v1,ok⟩
 rintro c es H₁ ⟨e1,n1,v1,ok⟩
 refine Ab (Bi ?_)
 simp (disch:=first|decide|omega) only[Jb,Jf,Jl,Js,Ju,Jv,Jw,Jx,Jy,J0,J1,Br,Ah,Am,Bt,Bu,P1 v1]
 by_cases hg:goal∈es.map (·.1)
 rotate_left
 ·rw[decide_eq_false hg]
  simp only[Bool.not_false,if_true]
  (try dsimp only)
  exact qn H₁ e1 (.inr (.inr fun r=>hg (ok.iff.mpr r)))
 rw[decide_eq_true hg]
 simp only[Bool.not_true,Bool.false_eq_true,if_false]
 refine Ac fun a H₂ e2 n2 v2=>?_
 (try dsimp only)
 have na:H a=none:=e1.isNone n2
 have hca:c≠a:=fun z=>by rw[<-z,v1]at n2;cases n2
 have hc2:=e2 _ _ v1
 have wlen:(es.map (·.1)).length<=m:=E4 ok.nodup ok.in_
 refine Lh ?_
 refine⟨fun κ ρ H₃=>(Ka fun(f:List Int) (x:Int)=>An8 (ρ = [some (.ref w),some (.int start),some (.int goal),some (.ref s),some (.ref c),some (.ref a)]) (Ag H H₃) (H₃ c=some (.dict es)) (LI H₃ a f) (f.length+κ<=m) (0<f.length) (f[f.length-1]? = some x) ((es.map (fun e:Int×V=>e.1))[κ]? = some x)),?_,?_⟩
 ·obtain⟨i,hi⟩:=List.mem_iff_getElem?.mp hg
  have hil:=(List.getElem?_eq_some_iff.mp hi).1
  exact⟨i,[goal],goal,rfl,e1.trans e2,hc2,v2,by simp;exact(Nat.le_trans (Nat.le_of_eq (Nat.add_comm 1 _)) (Nat.le_trans hil wlen)),Nat.one_pos,rfl,hi⟩
 rintro κ ρ H₃ ⟨f,x,rfl,e3,hc3,hf3,hlen,hfpos,hfl,hxk⟩
 have hlast:∀Q':Ak,D4 (.ref a) (.int (-1)) H₃ Q'=Q' (.int x) H₃:=fun Q'=>by
  refine Ab8 hf3 (by exact(by decide)) (by rw[List.length_map];exact Aie hfpos) ?_
  rw[List.length_map,show ((-1:Int)+f.length).toNat=f.length-1 by exact Aif,List.getElem?_map,hfl];rfl
 simp (disch:=first|decide|omega) only[Je,Jf,Jh,Jl,Jq,Jbd,Br,Ah,Am,hlast]
 by_cases hxs:x=start
 ·rw[decide_eq_true hxs]
  simp only[Bool.not_true,Bool.false_eq_true,if_false]
  simp (disch:=first|decide|omega) only[Jf,Ju,Ah,Am,true_and,Bx,Bp hf3,Za hf3]
  rw[<-List.map_reverse]
  exact qs a f.reverse _ (e3.upd' na) Ad (by rw[List.length_reverse];exact(Nat.le_trans (Nat.le_add_right _ _) hlen))
 ·rw[decide_eq_false hxs]
  simp only[Bool.not_false,if_true]
  have hk0:0<κ:=by
   rcases Nat.eq_zero_or_pos κ with z|z
   ·subst z;rw[ok.head]at hxk;cases hxk;exact absurd rfl hxs
   ·exact z
  obtain⟨j,y,hjk,hy,hdy⟩:=ok.par κ x hk0 hxk
  have hfl2:(f.map V.int).length<1048576:=by rw[List.length_map];exact Nat.lt_of_le_of_lt (Nat.le_trans (Nat.le_add_right _ _) (Nat.le_trans hlen hm)) (by decide)
  simp only[Tj,J1,J0]
  simp (disch:=first|decide|omega) only[Je,Jf,Jh,Jq,Ju,Jv,Jx,Ah,Am,true_and,Bx,Bp hf3,hlast,Wj hc3 hdy,Cc hf3 hfl2]
  exact⟨j,hjk,f ++ [y],y,trivial,e3.upd' na,by rw[upd_ne hca];exact hc3,by unfold LI;rw[Ad];simp,by simp;exact(Nat.le_trans (Nat.le_of_eq (Nat.add_right_comm _ 1 _)) (Nat.le_trans (Nat.add_le_add_left hjk _) hlen)),by simp,by simp,hy⟩
theorem Oc.in_{m:Nat}{A:Nat->Nat->Bool}{shut:List Int}{x y:Int}(h:Oc m A shut x y)(hx:x∉shut/\0<=x/\x<(m:Int)):y∉shut/\0<=y/\y<(m:Int):=by
 induction h with
 | refl=>exact hx
 | step _ _ s z0 z1 _=>exact⟨s,z0,z1⟩
theorem Oc.trans{m:Nat}{A:Nat->Nat->Bool}{shut:List Int}{x y z:Int}(h:Oc m A shut x y)(h':Oc m A shut y z):Oc m A shut x z:=by
 induction h' with
 | refl=>exact h
 | step _ a s z0 z1 ih=>exact .step ih a s z0 z1
theorem Oc.symm{m:Nat}{A:Nat->Nat->Bool}{shut:List Int}{x y:Int}(g:Gr A)(h:Oc m A shut x y)(hx:x∉shut/\0<=x/\x<(m:Int)):Oc m A shut y x:=by
 induction h with
 | refl=>exact .refl _
 | step r a s z0 z1 ih=>
   have hy:=r.in_ hx
   exact(Oc.step (.refl _) (by rw[g.symm];exact a) hy.1 hy.2.1 hy.2.2).trans ih
theorem Oc.mono{m:Nat}{A:Nat->Nat->Bool}{shut shut':List Int}{x y:Int}(hs:∀z∈shut',z∈shut)(h:Oc m A shut x y):Oc m A shut' x y:=by
 induction h with
 | refl=>exact .refl _
 | step _ a s z0 z1 ih=>exact .step ih a (fun q=>s (hs _ q)) z0 z1
structure Uy(m:Nat)(A:Nat->Nat->Bool)(shut:List Int)(es:List (Int×V)):Prop where
 lab:∀x,x∉shut->0<=x->x<(m:Int)->∃l:Int,dget es x=some (.int l)
 key:∀x v,dget es x=some v->(x∉shut/\0<=x/\x<(m:Int))/\(Oo fun(l:Int)=>D3 (v = .int l) ((l∉shut/\0<=l/\l<(m:Int))) (Oc m A shut l x))
 same:∀x y,x∉shut->0<=x->x<(m:Int)->y∉shut->0<=y->y<(m:Int)->A x.toNat y.toNat=true->dget es x=dget es y
theorem Gu{es:List (Int×V)}{k x:Int}{v:V}:dget (C2 es k v) x=if x=k then some v else dget es x:=by
 unfold dget
 induction es with
 | nil=>
   simp only[C2,List.lookup_cons,List.lookup_nil]
   refine Aa fun nY=>?_
   by_cases h:x=k
   ·refine nY ?_;clear nY
    subst h;simp
   ·refine nY ?_;clear nY
    rw[show (x==k)=false from decide_eq_false h,if_neg h]
 | cons e r ih=>
   obtain⟨k',v'⟩:=e
   unfold C2
   refine Aa fun nY=>?_
   by_cases h:k=k'
   ·subst h
    refine nY ?_;clear nY
    rw[if_pos rfl,List.lookup_cons,List.lookup_cons]
    refine Aa fun nY=>?_
    by_cases h':x=k
    ·refine nY ?_;clear nY
     subst h';simp
    ·refine nY ?_;clear nY
     rw[show (x==k)=false from decide_eq_false h',if_neg h']
   ·refine nY ?_;clear nY
    rw[if_neg h,List.lookup_cons,List.lookup_cons,ih]
    refine Aa fun nY=>?_
    by_cases h':x=k'
    ·subst h'
     refine nY ?_;clear nY
     simp;exact fun z=>absurd z.symm h
    ·refine nY ?_;clear nY
     rw[show (x==k')=false from decide_eq_false h']
theorem L1{es:List (Int×V)}{k:Int}{v:V}:(C2 es k v).length<=es.length+1:=by
 induction es with
 | nil=>simp[C2]
 | cons e r ih=>
   obtain⟨k',v'⟩:=e
   unfold C2
   split
   ·simp
   ·simp;exact ih
set_option linter.all false
variable {G:A5} {n:Nat} {H H':AH} {Q:Ak} {E:EP} {C:CS} {ρ:Al}
theorem Ahc{a:Nat}{es:List (Int×V)}{K:List It->(AH->Prop)->AH->Prop}(h:H a=some (.dict es)):Gc (.ref a) H K=K ((es.map fun e=>V.int e.1).map .v) (fun _=>True) (del H a):=by
 delta Gc;(try dsimp only[Ax]);rw[h];(try dsimp only);(try rw[List.map_map]);rfl
theorem Aew{a:Nat}{es:List (Int×V)}{K:List It->(AH->Prop)->AH->Prop}(h:H a=some (.dict es))(kk:K ((es.map fun e=>V.int e.1).map .v) (fun _=>True) (del H a)):Gc (.ref a) H K:=Eq.mpr (Ahc h) kk
theorem Acn(F:Zb G){w m s:Nat}{A:Nat->Nat->Bool}{shut:List Int}(g:Gr A)(hm:m<=60)(hW:Bw H w m A)(hS:LI H s shut)
 (q:∀a es H',Ag H H'->H a=none->H' a=some (.dict es)->Uy m A shut es->Q (.ref a) H'):Ae G (n+4) "pieces" [.ref w,.ref s] H Q E:=by
 have F1:=F.fns2.fns
 refine Af F.pieces rfl ?_
 simp only[Tk,List.map,List.replicate,List.cons_append,List.nil_append]
 refine C0 (fun a=>[some (.ref w),some (.ref s),some (.ref a),none,none]) (fun a H₁=>D3 (Ag H H₁) (H a=none) (H₁ a=some (.dict []))) (fun N hN=>?_) ?_
 ·refine C6 (Tg ?_)
  exact Ac fun a H₁ e1 n1 v1=>hN a _ ⟨e1,n1,v1⟩
 rintro a H₁ hP39
 refine Aa fun nY=>?_
 obtain⟨e1,na,v1⟩:=hP39
 obtain⟨d,rs,w1,w2,w3⟩:=hW.ext e1
 refine nY ?_;clear nY
 refine Ab (frK ?_)
 simp (disch:=first|decide|omega) only[Jf,Jp,Ju,Jv,Jy,J0,J1,Qk,Ah,Hh w1 w2 (show Kt [(C9.many,V.int m),(C9.rows,V.ref rs)] .many=some (.int m)from rfl)]
 refine Ql (fun i (es:List (Int×V)) (r3:Option V) (r4:Option V)=>[some (.ref w),some (.ref s),some (.ref a),r3,r4]) (fun i (es:List (Int×V)) (r3:Option V) (r4:Option V) H₂=>An6 (Ag H H₂) (H₂ a=some (.dict es)) (es.length<=60*i) ((∀x:Int,x∉shut->0<=x->x<(i:Int)->∃v,dget es x=some v)) ((∀x v,dget es x=some v->(x∉shut/\0<=x/\x<(m:Int))/\(Oo fun(l:Int)=>D3 (v = .int l) ((l∉shut/\0<=l/\l<(m:Int))) (Oc m A shut l x)))) (∀x y v,x∉shut->0<=x->x<(m:Int)->y∉shut->0<=y->y<(m:Int)->A x.toNat y.toNat=true->dget es x=some v->dget es y=some v)) [] _ _ rfl ⟨e1,v1,Nat.le_refl _,by intros;(first|lia|omega),fun _ _ h=>absurd h.symm (Option.some_ne_none _),by simp[dget]⟩ ?_ ?_
 ·rintro i es r3 r4 H₂ K hi hP40 hK
  refine Aa fun nY=>?_
  obtain⟨e2,hd2,hlen,hL,hK',hC⟩:=hP40
  have hi':i<m:=hi
  have hS2:=hS.ext e2
  refine nY ?_;clear nY
  simp only[Ng,J1,J0,List.set_cons_succ,List.set_cons_zero]
  refine Bg (!decide ((i:Int)∈shut) && !decide ((i:Int)∈es.map (·.1))) (fun Q' h'=>?_) ?_
  ·simp (disch:=first|decide|omega) only[Jf,Ji,Jl,Br,Ah,Am,Mg hS2,P1 hd2]
   split
   ·rename_i h;rw[h,Bool.true_and]at h';exact h'
   ·rename_i h;rw[Bool.not_eq_true]at h;rw[h,Bool.false_and]at h';exact h'
  split
  ·rename_i hh
   simp only[Bool.and_eq_true,Bool.not_eq_true',decide_eq_false_iff_not]at hh
   refine Ab (Qz ?_)
   simp (disch:=first|decide|omega) only[Jf,Jn,Ju,Jv,J0,Ah,Am,Ca,true_and,F.steps]
   refine Xq F1 F.steps hm (hW.ext e2) hS2 (Int.natCast_nonneg _) (Q81 hi') fun c ec H₃ e3 n3 v3 ok=>?_
   refine Aew v3 ?_
   have e23:Ag H₂ (del H₃ c):=Ep e3 n3
   have hcl:ec.length<=m:=by
    have:=E4 ok.nodup ok.in_
    rwa[List.length_map]at this
   refine Uw (fun j ρ H₄=>(Ka fun(es':List (Int×V)) (r4:Option V)=>Xw (ρ = [some (.ref w),some (.ref s),some (.ref a),some (.int i),r4]) (Ag H H₄) (H₄ a=some (.dict es')) (es'.length<=60*i+j) (∀x,dget es' x=if x∈(ec.map (fun e:Int×V=>e.1)).take j then some (.int i)else dget es x)))
    ⟨es,_,rfl,e2.trans e23,e23 _ _ hd2,by exact hlen,by simp⟩ ?_ ?_ ?_
   ·intros;trivial
   ·rintro j v ρ H₄ K' hv hP41 hK''
    refine Aa fun nY=>?_
    obtain⟨es',r4,rfl,e4,hd4,hl4,hx4⟩:=hP41
    refine nY ?_;clear nY
    have hv':((ec.map (·.1)).map V.int)[j]? = some v:=by rw[List.map_map];exact hv
    obtain⟨x,hx,rfl⟩:=LI.at_ (a:=c) hv'
    have hjl:=(List.getElem?_eq_some_iff.mp hx).1
    rw[List.length_map]at hjl
    simp (disch:=first|decide|omega) only[Jf,J0,J1,Ah,Am,Bt,Bu,Nf,Bl,Sx hd4 (show es'.length<1048576 by exact(Nat.lt_of_le_of_lt (Nat.le_trans hl4 (Nat.add_le_add (Nat.mul_le_mul_left 60 (Nat.le_trans (Nat.le_of_lt hi') hm)) (Nat.le_trans (Nat.le_of_lt hjl) (Nat.le_trans hcl hm)))) (by decide)))]
    refine hK'' _ _ ⟨C2 es' x (.int i),_,rfl,e4.upd' na,Ad,?_,fun y=>?_⟩
    ·have:=L1 (es:=es') (k:=x) (v:= .int i);exact Nat.le_trans this (Nat.succ_le_succ hl4)
    ·rw[Gu,hx4 y,List.take_add_one,hx]
     simp only[Option.toList_some,List.mem_append,List.mem_singleton]
     refine Aa fun nY=>?_
     by_cases h1:y=x
     ·refine nY ?_;clear nY
      simp[h1]
     ·refine nY ?_;clear nY
      simp[h1]
   ·rintro ρ H₄ hP42
    refine Aa fun nY=>?_
    obtain⟨es',r4,rfl,e4,hd4,hl4,hx4⟩:=hP42
    have hlk:(ec.map fun e=>V.int e.1).length=ec.length:=List.length_map _
    rw[hlk]at hx4 hl4
    rw[List.take_of_length_le (Nat.le_of_eq (List.length_map _))]at hx4
    have hout:((i:Int)∉shut/\0<=(i:Int)/\(i:Int)<m):=⟨hh.1,(Int.natCast_nonneg _),(Q81 hi')⟩
    refine nY ?_;clear nY
    refine hK es' _ _ _ ⟨e4,hd4,(Nat.le_trans hl4 (Nat.add_le_add_left (Nat.le_trans hcl hm) _)),fun x h1 h2 h3=>?_,fun x v hv=>?_,fun x y v x1 x2 x3 y1 y2 y3 ha hv=>?_⟩
    ·rw[hx4]
     split
     ·exact⟨_,rfl⟩
     ·rename_i hn
      refine hL x h1 h2 ?_
      have:x≠i:=fun z=>hn (by rw[z];exact ok.iff.mpr (.refl _))
      exact Int.lt_iff_le_and_ne.mpr ⟨Int.le_of_lt_add_one h3,this⟩
    ·rw[hx4]at hv
     refine Aa fun nY=>?_
     split at hv
     ·rename_i hin
      cases hv
      refine nY ?_;clear nY
      exact⟨(ok.rch x hin).in_ hout,i,rfl,hout,ok.rch x hin⟩
     ·refine nY ?_;clear nY
      exact hK' x v hv
    ·rw[hx4]at hv ⊢
     refine Aa fun nY=>?_
     split at hv
     ·rename_i hin
      refine nY ?_;clear nY
      rw[if_pos (ok.closed x hin y y2 y3 ha y1)];exact hv
     ·rename_i hin
      refine nY ?_;clear nY
      rw[if_neg (fun hy=>hin (ok.closed y hy x x2 x3 (by rw[g.symm];exact ha) x1))]
      exact hC x y v x1 x2 x3 y1 y2 y3 ha hv
  ·rename_i hh
   simp (disch:=first|decide|omega) only[J0]
   refine hK es _ _ _ ⟨e2,hd2,(Nat.le_trans hlen (Nat.le_add_right _ _)),fun x h1 h2 h3=>?_,hK',hC⟩
   refine Aa fun nY=>?_
   by_cases hxi:x=i
   ·subst hxi
    simp only[Bool.and_eq_true,Bool.not_eq_true',decide_eq_false_iff_not,not_and,Classical.not_not]at hh
    have hmem:=hh h1
    refine nY ?_;clear nY
    have:(dget es (i:Int)).isSome=true:=by rw[E6];simpa using hmem
    exact Option.isSome_iff_exists.mp this
   ·refine nY ?_;clear nY
    exact hL x h1 h2 (Int.lt_iff_le_and_ne.mpr ⟨Int.le_of_lt_add_one h3,hxi⟩)
 ·rintro es r3 r4 H₂ hP43
  refine Aa fun nY=>?_
  obtain⟨e2,hd2,hlen,hL,hK',hC⟩:=hP43
  refine nY ?_;clear nY
  try simp (disch:=first|decide|omega) only[Ah,Am]
  refine q a es H₂ e2 na hd2 ⟨fun x h1 h2 h3=>?_,hK',fun x y x1 x2 x3 y1 y2 y3 ha=>?_⟩
  ·refine Aa fun nY=>?_
   obtain⟨v,hv⟩:=hL x h1 h2 h3
   obtain⟨_,l,rfl,_⟩:=hK' x v hv
   refine nY ?_;clear nY
   exact⟨l,hv⟩
  ·obtain⟨v,hv⟩:=hL x x1 x2 x3
   rw[hv,hC x y v x1 x2 x3 y1 y2 y3 ha hv]
structure U7(H₂ H':AH)(tt:Nat)(es:List (Int×V))(T:Int->List Int):Prop where
 ext:Ag H₂ H'
 ntt:H₂ tt=none
 at_:H' tt=some (.dict es)
 nodup:(es.map (·.1)).Nodup
 val:∀L v,dget es L=some v->(Oo fun x=>R7 (v = .ref x) (x≠tt) (H₂ x=none) (LI H' x (T L)))
 inj:∀L L' x,dget es L=some (.ref x)->dget es L'=some (.ref x)->L=L'
 non:∀L,dget es L=none->T L = []
theorem U7.mono{H₂ H'':AH}{tt:Nat}{es:List (Int×V)}{T:Int->List Int}(h:U7 H₂ H' tt es T)(e:Ag H' H''):U7 H₂ H'' tt es T:=
 ⟨h.ext.trans e,h.ntt,e _ _ h.at_,h.nodup,fun L v hv=>by
  obtain⟨x,a,b,c,d⟩:=h.val L v hv
  exact⟨x,a,b,c,d.ext e⟩,h.inj,h.non⟩
theorem U7.set{H₂:AH}{tt x:Nat}{es:List (Int×V)}{T:Int->List Int}{L:Int}(h:U7 H₂ H' tt es T)(hx:dget es L=some (.ref x))(l:List Int):U7 H₂ (upd H' x (.list (l.map V.int))) tt es (fun K=>if K=L then l else T K):=by
 refine Aa fun nY=>?_
 obtain⟨x',hx',h1,h2,h3⟩:=h.val L _ hx
 cases hx'
 refine nY ?_;clear nY
 refine⟨h.ext.upd' h2,h.ntt,by rw[upd_ne (Ne.symm h1)];exact h.at_,h.nodup,fun K v hv=>?_,h.inj,fun K hK=>?_⟩
 ·refine Aa fun nY=>?_
  obtain⟨y,rfl,a1,a2,a3⟩:=h.val K v hv
  refine nY ?_;clear nY
  refine⟨y,rfl,a1,a2,?_⟩
  refine Aa fun nY=>?_
  by_cases hKL:K=L
  ·subst hKL
   rw[hx]at hv;cases hv
   refine nY ?_;clear nY
   rw[if_pos rfl];exact Ad
  ·refine nY ?_;clear nY
   rw[if_neg hKL]
   exact a3.upd_ne fun z=>hKL (h.inj K L x (by rw[<-z];exact hv) hx)
 ·have:K≠L:=fun z=>by rw[z,hx]at hK;cases hK
  rw[if_neg this];exact h.non K hK
theorem U7.new{H₂ H'':AH}{tt z:Nat}{es:List (Int×V)}{T:Int->List Int}{L:Int}(h:U7 H₂ H' tt es T)(e:Ag H' H'')(hz:H' z=none)(hv:LI H'' z [])(hn:dget es L=none):U7 H₂ (upd H'' tt (.dict (C2 es L (.ref z)))) tt (C2 es L (.ref z)) T:=by
 have hztt:z≠tt:=fun q=>by rw[q,h.at_]at hz;cases hz
 have h':=h.mono e
 refine⟨h'.ext.upd' h.ntt,h.ntt,Ad,?_,fun K v hK=>?_,fun K K' x h1 h2=>?_,fun K hK=>?_⟩
 ·rw[I3]
  split
  ·exact h.nodup
  ·rename_i hh
   rw[List.nodup_append]
   exact⟨h.nodup,List.pairwise_singleton _ _,fun a ha b hb e=>hh (by simp at hb;rw[<-hb,<-e];exact ha)⟩
 ·rw[Gu]at hK
  refine Aa fun nY=>?_
  split at hK
  ·rename_i hKL
   cases hK
   refine nY ?_;clear nY
   refine⟨z,rfl,hztt,h.ext.isNone hz,?_⟩
   rw[hKL,h.non L hn]
   exact hv.upd_ne hztt
  ·obtain⟨y,rfl,a1,a2,a3⟩:=h'.val K v hK
   refine nY ?_;clear nY
   exact⟨y,rfl,a1,a2,a3.upd_ne a1⟩
 ·have key:∀K,dget es K=some (.ref x)->x≠z:=fun K hK q=>by
   refine Aa fun nY=>?_
   obtain⟨y,hy,_,_,a3⟩:=h.val K _ hK
   cases hy
   unfold LI at a3
   rw[q,hz]at a3;cases a3
  rw[Gu]at h1 h2
  refine Aa fun nY=>?_
  split at h1<;>split at h2
  ·refine nY ?_;clear nY
   (first|lia|omega)
  ·cases h1;exact absurd rfl (key K' h2)
  ·cases h2;exact absurd rfl (key K h1)
  ·refine nY ?_;clear nY
   exact h.inj K K' x h1 h2
 ·rw[Gu]at hK
  refine Aa fun nY=>?_
  split at hK
  ·cases hK
  ·refine nY ?_;clear nY
   exact h.non K hK
theorem S6{a:Nat}{es:List (Int×V)}{k:Int}{v w:V}(h:H a=some (.dict es))(hk:dget es k=some w):Ew .setdefault (.ref a) [.int k,v] H Q=Q w H:=by
 delta Ew;dsimp only;(first|delta Dw|delta Fy|delta Dx|delta Fz|delta Dy|delta Cw|delta Bq);(try dsimp only[Ax,Ap,U5,Mt,Te]);rw[h];(try dsimp only[Gb,U9]);rw[hk];(try dsimp only[Gb,E8])
theorem Qt{a:Nat}{es:List (Int×V)}{k:Int}{v w:V}(h:H a=some (.dict es))(hk:dget es k=some w)(kk:Q w H):Ew .setdefault (.ref a) [.int k,v] H Q:=Eq.mpr (S6 h hk) kk
theorem S7{a:Nat}{es:List (Int×V)}{k:Int}{v:V}(h:H a=some (.dict es))(hk:dget es k=none)(hl:es.length<1048576):Ew .setdefault (.ref a) [.int k,v] H Q=Q v (upd H a (.dict (C2 es k v))):=by
 delta Ew;dsimp only;(first|delta Dw|delta Fy|delta Dx|delta Fz|delta Dy|delta Cw|delta Bq);(try dsimp only[Ax,Ap,U5,Mt,Te]);rw[h];(try dsimp only[Gb,U9]);rw[hk];(try dsimp only[Gb,E8])
 exact propext ⟨fun h=>h.2,fun q=>⟨hl,q⟩⟩
theorem Qu{a:Nat}{es:List (Int×V)}{k:Int}{v:V}(h:H a=some (.dict es))(hk:dget es k=none)(hl:es.length<1048576)(kk:Q v (upd H a (.dict (C2 es k v)))):Ew .setdefault (.ref a) [.int k,v] H Q:=Eq.mpr (S7 h hk hl) kk
theorem Aex{a:Nat}{es:List (Int×V)}(h:H a=some (.dict es)):F0 .setdefault (.ref a) H=True:=by
 delta F0;dsimp only;rw[h];exact propext ⟨fun _=>trivial,fun _=>rfl⟩
set_option linter.all false
noncomputable def S8(m:Nat)(A:Nat->Nat->Bool)(p:Int):Prop:=(Ex4 fun(a b u v:Int)=>Ah2 ((0<=a/\a<m)) ((0<=b/\b<m)) ((0<=u/\u<m)) ((0<=v/\v<m)) (A p.toNat a.toNat=true) (A p.toNat b.toNat=true) (a≠b) (A a.toNat b.toNat=false) (A a.toNat u.toNat=true) (A b.toNat v.toNat=true) (u∉Ay m A p.toNat ++ [p]) (v∉Ay m A p.toNat ++ [p]) (Oc m A (Ay m A p.toNat ++ [p]) u v))
structure Aco(m:Nat)(A:Nat->Nat->Bool)(ep:List (Int×V))(T:Int->List Int)(done:Int->Int->Prop)(seen:List Int):Prop where
 src:∀L x,x∈T L->(0<=x/\x<(m:Int))/\∃o:Int,A x.toNat o.toNat=true/\dget ep o=some (.int L)
 asc:∀L,(T L).Pairwise (· < ·)
 sub:∀L x,x∈T L->x∈seen
 all:∀x o L,done x o->dget ep o=some (.int L)->x∈T L
theorem Acp{l:List Int}(h:l≠[]):(Oo fun x=>D3 (l[l.length-1]? = some x) (x∈l) ((l.Pairwise (· < ·)->∀y∈l,y<=x))):=by
 have hl:l.length-1<l.length:=by
  have:0<l.length:=List.length_pos_iff.mpr h
  exact Nat.sub_lt this (by decide)
 refine⟨l[l.length-1],List.getElem?_eq_getElem hl,List.getElem_mem _,fun hp y hy=>?_⟩
 refine Aa fun nY=>?_
 obtain⟨i,hi,rfl⟩:=List.mem_iff_getElem.mp hy
 by_cases hz:i=l.length-1
 ·refine nY ?_;clear nY
  subst hz;exact Int.le_refl _
 ·refine nY ?_;clear nY
  exact Int.le_of_lt (List.pairwise_iff_getElem.mp hp i (l.length-1) hi hl (Nat.lt_of_le_of_ne (Nat.le_sub_one_of_lt hi) hz))
variable {G:A5} {n:Nat} {H H':AH} {Q:Ak} {E:EP} {C:CS} {ρ:Al}
theorem Zc{m:Nat}{A:Nat->Nat->Bool}{H₂:AH}{w nr pc tt b:Nat}{ep es:List (Int×V)}{T:Int->List Int}{done:Int->Int->Prop}{seen:List Int}{p one o:Int}{r7:Option V}{K:Al->AH->Prop}
 (hp2:H₂ pc=some (.dict ep)) (hepl:∀x v,dget ep x=some v->∃l:Int,v = .int l/\(0<=l/\l<(m:Int))) (t:U7 H₂ H tt es T) (hkeys:∀L∈es.map (·.1),0<=L/\L<(m:Int)) (hm:m<=60) (lg:Aco m A ep T done (seen ++ [one])) (hlt:∀x∈seen,x<one) (h1:0<=one/\one<m) (ha:A one.toNat o.toNat=true)
 (hb:∀l,LI H b l->(tt≠b/\∀L x,dget es L=some (.ref x)->x≠b)) {lb:List Int} (hbl:LI H b lb)
 (hK:∀r7 es' T' H',U7 H₂ H' tt es' T'->(∀L∈es'.map (·.1),0<=L/\L<(m:Int))->Aco m A ep T' (fun x y=>done x y\/(x=one/\y=o)) (seen ++ [one])->LI H' b lb->(tt≠b/\∀L x,dget es' L=some (.ref x)->x≠b)->
   K [some (.ref w),some (.int p),some (.ref nr),some (.ref pc),some (.ref tt),some (.int one),some (.int o),r7,none,none,none] H') :
 A1 G (Ae G n) G1 [some (.ref w),some (.int p),some (.ref nr),some (.ref pc),some (.ref tt),some (.int one),some (.int o),r7,none,none,none] H K Q E:=by
 have hp:=t.ext _ _ hp2
 have hesl:es.length<=m:=by
  have:=E4 t.nodup hkeys
  rwa[List.length_map]at this
 simp only[G1,J1,J0]
 refine Bg (decide (o∈ep.map (·.1))) (fun Q' h'=>?_) ?_
 ·simp (disch:=first|decide|omega) only[Jf,Jl,Ah,Am,Aji hp];exact h'
 split
 rotate_left
 ·rename_i hh
  simp (disch:=first|decide|omega) only[J0]
  refine hK _ _ _ _ t hkeys ⟨lg.src,lg.asc,lg.sub,fun x y L hd hy=>?_⟩ hbl (hb _ hbl)
  refine Aa fun nY=>?_
  rcases hd with hd | ⟨rfl,rfl⟩
  ·refine nY ?_;clear nY
   exact lg.all x y L hd hy
  ·refine nY ?_;clear nY
   exfalso
   have:(dget ep y).isSome=true:=by rw[hy];rfl
   rw[E6]at this
   exact hh this
 rename_i hh
 have:(dget ep o).isSome=true:=by rw[E6];exact hh
 refine Aa fun nY=>?_
 obtain⟨v,hv⟩:=Option.isSome_iff_exists.mp this
 obtain⟨L,rfl,hL⟩:=hepl o v hv
 refine nY ?_;clear nY
 refine Y1 (fun x es'=>[some (.ref w),some (.int p),some (.ref nr),some (.ref pc),some (.ref tt),some (.int one),some (.int o),some (.ref x),none,none,none]) (fun x es' H₃=>Xw (U7 H₂ H₃ tt es' T) ((∀L∈es'.map (fun e:Int×V=>e.1),0<=L/\L<(m:Int))) (dget es' L=some (.ref x)) (LI H₃ b lb) (∀L x,dget es' L=some (.ref x)->x≠b)) (fun N hN=>?_) ?_
 ·simp (disch:=first|decide|omega) only[Jf,Jq,Js,Ju,Jv,Jw,Ah,Am,Bt,Bu,true_and,Bx,Aex t.at_,Wj hp hv]
  refine Ac fun z H₃ e3 n3 v3=>?_
  (try dsimp only)
  cases hd:dget es L with
  | some u=>
    obtain⟨x,rfl,_⟩:=t.val L u hd
    refine Qt (e3 _ _ t.at_) hd ?_
    exact hN x es _ ⟨t.mono e3,hkeys,hd,hbl.ext e3,(hb _ hbl).2⟩
  | none=>
    refine Qu (e3 _ _ t.at_) hd (Xz hm hesl) ?_
    refine hN z _ _ ⟨t.new e3 n3 v3 hd,fun K hK=>?_,by rw[Gu,if_pos rfl],(hbl.ext e3).upd_ne (Ne.symm (hb _ hbl).1),fun K x hK q=>?_⟩
    ·rw[I3]at hK
     refine Aa fun nY=>?_
     split at hK
     ·refine nY ?_;clear nY
      exact hkeys K hK
     ·rcases List.mem_append.mp hK with hK|hK
      ·refine nY ?_;clear nY
       exact hkeys K hK
      ·refine nY ?_;clear nY
       simp at hK;rw[hK];exact hL
    ·rw[Gu]at hK
     refine Aa fun nY=>?_
     split at hK
     ·cases hK
      unfold LI at hbl
      rw[<-q,n3]at hbl;cases hbl
     ·refine nY ?_;clear nY
      exact(hb _ hbl).2 K x hK q
 rintro x es' H₃ hP44
 refine Aa fun nY=>?_
 obtain⟨t3,hk3,hd3,hb3,hnb⟩:=hP44
 obtain⟨x',hx',hxt,hx2,hx3⟩:=t3.val L _ hd3
 cases hx'
 refine nY ?_;clear nY
 refine Ab (Bi (Aip ?_))
 simp (disch:=first|decide|omega) only[Je,Jf,Jh,Jl,Jq,Js,Ju,Jx,J0,J1,Br,Ah,Am]
 refine Ac fun z H₄ e4 n4 v4=>?_
 (try dsimp only)
 have t4:=t3.mono e4
 have hx4:=hx3.ext e4
 have hb4:=hb3.ext e4
 have httb:=(hb _ hbl).1
 refine S0 (l:=T L) (l':=[]) hx4 v4 ?_
 (try dsimp only);(try simp (disch:=first|decide|omega) only[Br])
 have app:T L = []\/(∀y∈T L,y<one)->A1 G (Ae G n) [.expr (.lm .append (.var 7) [(.var 5)])] [some (.ref w),some (.int p),some (.ref nr),some (.ref pc),some (.ref tt),some (.int one),some (.int o),some (.ref x),none,none,none] H₄ K Q E:=by
  intro hc
  have hlt':∀y∈T L,y<one:=by
   refine Aa fun nY=>?_
   rcases hc with hc|hc
   ·refine nY ?_;clear nY
    rw[hc];simp
   ·refine nY ?_;clear nY
    exact hc
  have hln:(T L).length<=m:=E4 ((lg.asc L).imp fun h=>(Int.ne_of_lt h)) fun y hy=>(lg.src L y hy).1
  have hl2:((T L).map V.int).length<1048576:=by rw[List.length_map];exact Xz hm hln
  simp (disch:=first|decide|omega) only[Jf,Ju,Jv,Jx,J0,J1,Ah,Am,true_and,Bx,Bp hx4,Cc hx4 hl2]
  have:=t4.set hd3 (T L ++ [one])
  rw[List.map_append]at this
  refine hK _ _ _ _ this hk3 ⟨fun K y hy=>?_,fun K=>?_,fun K y hy=>?_,fun y o' K hdn hyo=>?_⟩ (hb4.upd_ne (Ne.symm (hnb L x hd3))) ⟨httb,hnb⟩
  ·refine Aa fun nY=>?_
   split at hy
   ·rename_i hKL
    subst hKL
    rcases List.mem_append.mp hy with hy|hy
    ·refine nY ?_;clear nY
     exact lg.src K y hy
    ·refine nY ?_;clear nY
     simp at hy;subst hy;exact⟨h1,o,ha,hv⟩
   ·refine nY ?_;clear nY
    exact lg.src K y hy
  ·split
   ·rw[List.pairwise_append]
    refine⟨lg.asc L,List.pairwise_singleton _ _,fun y hy z hz=>?_⟩
    simp at hz;subst hz;exact hlt' y hy
   ·exact lg.asc K
  ·refine Aa fun nY=>?_
   split at hy
   ·rcases List.mem_append.mp hy with hy|hy
    ·refine nY ?_;clear nY
     exact lg.sub L y hy
    ·refine nY ?_;clear nY
     simp at hy;subst hy;simp
   ·refine nY ?_;clear nY
    exact lg.sub K y hy
  ·split
   ·rename_i hKL
    refine Aa fun nY=>?_
    subst hKL
    rcases hdn with hdn | ⟨rfl,rfl⟩
    ·refine nY ?_;clear nY
     exact List.mem_append_left _ (lg.all y o' K hdn hyo)
    ·refine nY ?_;clear nY
     simp
   ·rename_i hKL
    refine Aa fun nY=>?_
    rcases hdn with hdn | ⟨rfl,rfl⟩
    ·refine nY ?_;clear nY
     exact lg.all y o' K hdn hyo
    ·rw[hv]at hyo;cases hyo;exact absurd rfl hKL
 refine Aa fun nY=>?_
 by_cases hTe:T L = []
 ·refine nY ?_;clear nY
  rw[decide_eq_true hTe]
  simp only[if_true]
  have:=app (.inl hTe)
  (try dsimp only)
  simpa only[J1,J0,Jx,Bx,Jf,List.getElem?_cons_zero,List.getElem?_cons_succ,Jv,Ju]using this
 ·refine nY ?_;clear nY
  rw[decide_eq_false hTe]
  simp only[Bool.false_eq_true,if_false]
  refine Aa fun nY=>?_
  obtain⟨y,hy1,hy2,hy3⟩:=Acp hTe
  have hlp:0<(T L).length:=List.length_pos_iff.mpr hTe
  refine nY ?_;clear nY
  refine Aem (x:= .int y) hx4 (by exact(by decide)) (by rw[List.length_map];exact Aie hlp) (by rw[List.length_map,show ((-1:Int)+(T L).length).toNat=(T L).length-1 by exact Aif,List.getElem?_map,hy1];rfl) ?_
  (try dsimp only);(try simp (disch:=first|decide|omega) only[Jbd,Br])
  refine Aa fun nY=>?_
  by_cases hyo:y=one
  ·refine nY ?_;clear nY
   rw[decide_eq_true hyo]
   simp only[Bool.not_true,Bool.false_eq_true,if_false]
   refine hK _ _ _ _ t4 hk3 ⟨lg.src,lg.asc,lg.sub,fun x' o' K hdn hyo'=>?_⟩ hb4 ⟨httb,hnb⟩
   refine Aa fun nY=>?_
   rcases hdn with hdn | ⟨rfl,rfl⟩
   ·refine nY ?_;clear nY
    exact lg.all x' o' K hdn hyo'
   ·rw[hv]at hyo';cases hyo'
    refine nY ?_;clear nY
    rw[<-hyo];exact hy2
  ·refine nY ?_;clear nY
   rw[decide_eq_false hyo]
   simp only[Bool.not_false,if_true]
   have hyl:y<one:=by
    refine Aa fun nY=>?_
    rcases List.mem_append.mp (lg.sub L y hy2)with h|h
    ·refine nY ?_;clear nY
     exact hlt y h
    ·simp at h;exact absurd h hyo
   have:=app (.inr fun z hz=>by have:=hy3 (lg.asc L) z hz;exact(Int.lt_of_le_of_lt this hyl))
   (try dsimp only)
   simpa only[J1,J0,Jx,Bx,Jf,List.getElem?_cons_zero,List.getElem?_cons_succ,Jv,Ju]using this
set_option linter.all false
variable {G:A5} {n:Nat} {H H':AH} {Q:Ak} {E:EP} {C:CS} {ρ:Al}
theorem Aey{A:Nat->Nat->Bool}:∀ {l:List Int} {x y:Int},fu A l=some (x,y)->(Ka fun(i j:Nat)=>R7 (i<j) (l[i]? = some x) (l[j]? = some y) (A x.toNat y.toNat=false)):=by
 intro l
 induction l with
 | nil=>exact fun h=>absurd h.symm (Option.some_ne_none _)
 | cons z r ih=>
   intro x y h
   rw[Om]at h
   cases e:r.find? (fun y=> !A z.toNat y.toNat)with
   | some u=>
     rw[e]at h
     refine Aa fun nY=>?_
     cases h
     obtain⟨j,hj⟩:=List.mem_iff_getElem?.mp (List.mem_of_find?_eq_some e)
     refine nY ?_;clear nY
     exact⟨0,j+1,Nat.succ_pos _,rfl,hj,(Bool.not_eq_true' _).mp (List.find?_some (p:=fun y:Int=> !A z.toNat y.toNat) e)⟩
   | none=>
     rw[e]at h
     refine Aa fun nY=>?_
     obtain⟨i,j,h1,h2,h3,h4⟩:=ih h
     refine nY ?_;clear nY
     exact⟨i+1,j+1,Nat.succ_lt_succ h1,h2,h3,h4⟩
theorem Wk{m:Nat}{A:Nat->Nat->Bool}{i:Nat}:(Ay m A i).Pairwise (· < ·):=Sv _
theorem Acq(F:Zb G){w m:Nat}{A:Nat->Nat->Bool}{p:Int}(g:Gr A)(hm:m<=60)(hW:Bw H w m A)(h0:0<=p/\p<m)
 (qn:∀H',Ag H H'->¬S8 m A p->Q .none H')
 (qs:∀a H',Ag H H'->Q (.ref a) H'):Ae G (n+5) "ring_at" [.ref w,.int p] H Q E:=by
 have F1:=F.fns2.fns
 have B:=F1.base
 refine Af F.ringAt rfl ?_
 simp only[Q1,List.map,List.replicate,List.cons_append,List.nil_append]
 refine C0 (fun nr=>[some (.ref w),some (.int p),some (.ref nr),none,none,none,none,none,none,none,none]) (fun nr H₁=>(Ag H H₁)/\(LI H₁ nr (Ay m A p.toNat))) (fun N hN=>?_) ?_
 ·refine Aa fun nY=>?_
  obtain⟨d,rs,w1,w2,w3⟩:=hW
  refine nY ?_;clear nY
  simp (disch:=first|decide|omega) only[Jf,Ju,Jv,Jw,Ah,Am,Bt,Bu,Ca,true_and,Av,Da,Db,Fe,w1,w2,F1.beside]
  exact Pz B F1.beside ⟨d,rs,w1,w2,w3⟩ h0.1 h0.2 fun a H₁ e1 _ h=>hN a _ ⟨e1,h⟩
 rintro nr H₁ ⟨e1,hnr⟩
 have hnl:(Ay m A p.toNat).length<=m:=Px
 refine Y1 (fun pc ep=>[some (.ref w),some (.int p),some (.ref nr),some (.ref pc),none,none,none,none,none,none,none]) (fun pc ep H₂=>D3 (Ag H₁ H₂) (H₂ pc=some (.dict ep)) (Uy m A (Ay m A p.toNat ++ [p]) ep)) (fun N hN=>?_) ?_
 ·simp (disch:=first|decide|omega) only[Jf,Jk,Jn,Js,Ju,Jv,Jw,Ah,Am,Bt,Bu,Ca,true_and,F.pieces]
  refine Ac fun s1 H₂ e2 _ v2=>?_
  (try dsimp only)
  refine Fx (hnr.ext e2) v2 (by simp;exact(Nat.le_trans (Nat.le_trans hnl hm) (by decide))) ?_
  refine Ac fun s2 H₃ e3 _ v3=>?_
  (try dsimp only)
  have v3':LI H₃ s2 (Ay m A p.toNat ++ [p]):=by unfold LI;rw[v3];simp
  exact Acn F g hm (hW.ext ((e1.trans e2).trans e3)) v3' fun a es H₄ e4 _ h1 h2=>hN a es _ ⟨(e2.trans e3).trans e4,h1,h2⟩
 rintro pc ep H₂ hP45
 refine Aa fun nY=>?_
 obtain⟨e2,hpc,pk⟩:=hP45
 have hnr2:=hnr.ext e2
 have hepl:∀x v,dget ep x=some v->∃l:Int,v = .int l/\(0<=l/\l<(m:Int)):=fun x v h=>by
  refine Aa fun nY=>?_
  obtain⟨_,l,rfl,hl,_⟩:=pk.key x v h
  refine nY ?_;clear nY
  exact⟨l,rfl,hl.2⟩
 refine nY ?_;clear nY
 refine C0 (fun tt=>[some (.ref w),some (.int p),some (.ref nr),some (.ref pc),some (.ref tt),none,none,none,none,none,none]) (fun tt H₃=>U7 H₂ H₃ tt [] (fun _=>[])) (fun N hN=>?_) ?_
 ·refine C6 (Tg ?_)
  exact Ac fun tt H₃ e3 n3 v3=>hN tt _ ⟨e3,n3,v3,List.Pairwise.nil,fun _ _ h=>absurd h.symm (Option.some_ne_none _),fun _ _ _ h=>absurd h.symm (Option.some_ne_none _),fun _ _=>rfl⟩
 rintro tt H₃ t3
 refine Alb (fun es T r5 r6 r7=>[some (.ref w),some (.int p),some (.ref nr),some (.ref pc),some (.ref tt),r5,r6,r7,none,none,none]) (fun es T r5 r6 r7 H₄=>D3 (U7 H₂ H₄ tt es T) ((∀L∈es.map (fun e:Int×V=>e.1),0<=L/\L<(m:Int))) (Aco m A ep T (fun x o=>x∈Ay m A p.toNat/\o∈Ay m A x.toNat) (Ay m A p.toNat))) (fun N hN=>?_) ?_
 ·refine Qz ?_
  simp (disch:=first|decide|omega) only[Jf,Ah,Am]
  refine Az (t3.ext _ _ hnr2) ?_
  refine Un (fun i es T r5 r6 r7=>[some (.ref w),some (.int p),some (.ref nr),some (.ref pc),some (.ref tt),r5,r6,r7,none,none,none]) (fun i es T r5 r6 r7 H₄=>D3 (U7 H₂ H₄ tt es T) ((∀L∈es.map (fun e:Int×V=>e.1),0<=L/\L<(m:Int))) (Aco m A ep T (fun x o=>x∈(Ay m A p.toNat).take i/\o∈Ay m A x.toNat) ((Ay m A p.toNat).take i))) [] _ _ _ _ rfl ⟨t3,fun _ h=>absurd h List.not_mem_nil,⟨fun _ _ h=>absurd h List.not_mem_nil,fun _=>List.Pairwise.nil,fun _ _ h=>absurd h List.not_mem_nil,fun _ _ _ h=>absurd h.1 List.not_mem_nil⟩⟩ ?_ ?_ ?_
  ·rintro i es T r5 r6 r7 H₄ ⟨t,_⟩;exact t.ext _ _ hnr2
  ·rintro i v es T r5 r6 r7 H₄ K hv hP46 hK
   refine Aa fun nY=>?_
   obtain⟨t,hk,lg⟩:=hP46
   obtain⟨one,hone,rfl⟩:=LI.at_ (a:=nr) hv
   have h1m:=Bd.mp (List.mem_of_getElem? hone)
   have hlt:∀x∈(Ay m A p.toNat).take i,x<one:=fun x hx=>by
    refine Aa fun nY=>?_
    obtain⟨j,hj,rfl⟩:=List.mem_take_iff_getElem.mp hx
    obtain⟨hi,rfl⟩:=List.getElem?_eq_some_iff.mp hone
    refine nY ?_;clear nY
    exact List.pairwise_iff_getElem.mp Wk j i (Nat.lt_of_lt_of_le hj (Nat.min_le_right _ _)) hi (Nat.lt_of_lt_of_le hj (Nat.min_le_left _ _))
   refine nY ?_;clear nY
   have htk:(Ay m A p.toNat).take (i+1)=(Ay m A p.toNat).take i ++ [one]:=by rw[List.take_add_one,hone];rfl
   refine Aa fun nY=>?_
   obtain⟨d,rs,w1,w2,w3⟩:=(hW.ext (e1.trans e2)).ext t.ext
   refine nY ?_;clear nY
   simp only[Lo,J1,J0,List.set_cons_succ,List.set_cons_zero]
   refine Qz ?_
   simp (disch:=first|decide|omega) only[Jf,Ju,Jv,Ah,Am,Ca,true_and,Av,Da,Db,Fe,w1,w2,F1.beside]
   refine Pz B F1.beside ⟨d,rs,w1,w2,w3⟩ h1m.1 h1m.2.1 fun b H₅ e5 nb hb=>?_
   refine Az hb ?_
   have htb:tt≠b:=fun z=>by rw[<-z,t.at_]at nb;cases nb
   have hxb:∀L x,dget es L=some (.ref x)->x≠b:=fun L x hL z=>by
    refine Aa fun nY=>?_
    obtain⟨y,hy,_,_,hy4⟩:=t.val L _ hL
    cases hy
    unfold LI at hy4
    rw[z,nb]at hy4;cases hy4
   refine Ev (fun j ρ H₆=>(Ex4 fun es T r6 r7=>An6 (ρ = [some (.ref w),some (.int p),some (.ref nr),some (.ref pc),some (.ref tt),some (.int one),r6,r7,none,none,none]) (U7 H₂ H₆ tt es T) ((∀L∈es.map (fun e:Int×V=>e.1),0<=L/\L<(m:Int))) (Aco m A ep T (fun x o=>(x∈(Ay m A p.toNat).take i/\o∈Ay m A x.toNat)\/(x=one/\o∈(Ay m A one.toNat).take j)) ((Ay m A p.toNat).take i ++ [one])) (LI H₆ b (Ay m A one.toNat)) (∀L x,dget es L=some (.ref x)->x≠b)))
    ⟨es,T,_,_,rfl,t.mono e5,hk,⟨lg.src,lg.asc,fun L x hx=>List.mem_append_left _ (lg.sub L x hx),fun x o L hd ho=>?_⟩,hb,hxb⟩ ?_ ?_ ?_
   ·refine Aa fun nY=>?_
    rcases hd with hd|hd
    ·refine nY ?_;clear nY
     exact lg.all x o L hd ho
    ·simp at hd
   ·rintro j ρ H₆ ⟨es,T,r6,r7,rfl,t,_,_,hb6,_⟩;exact hb6
   ·rintro j v ρ H₆ K' hv hP47 hK'
    refine Aa fun nY=>?_
    obtain⟨es,T,r6,r7,rfl,t,hk,lg,hb6,hxb⟩:=hP47
    obtain⟨o,ho,rfl⟩:=LI.at_ (a:=b) hv
    have hom:=Bd.mp (List.mem_of_getElem? ho)
    refine nY ?_;clear nY
    simp only[List.set_cons_succ,List.set_cons_zero]
    refine Zc hpc hepl t hk hm lg hlt ⟨h1m.1,h1m.2.1⟩ hom.2.2 (fun _ _=>⟨htb,hxb⟩) hb6 fun r7 es' T' H₇ t7 hk7 lg7 hb7 hxb7=>?_
    refine hK' _ _ ⟨es',T',_,_,rfl,t7,hk7,⟨lg7.src,lg7.asc,lg7.sub,fun x y L hd hy=>lg7.all x y L ?_ hy⟩,hb7,hxb7.2⟩
    refine Aa fun nY=>?_
    rcases hd with hd | ⟨rfl,hd⟩
    ·refine nY ?_;clear nY
     exact .inl (.inl hd)
    ·rw[List.take_add_one,ho]at hd
     rcases List.mem_append.mp hd with hd|hd
     ·refine nY ?_;clear nY
      exact .inl (.inr ⟨rfl,hd⟩)
     ·refine nY ?_;clear nY
      simp at hd;exact .inr ⟨rfl,hd⟩
   ·rintro ρ H₆ hP48
    refine Aa fun nY=>?_
    obtain⟨es,T,r6,r7,rfl,t,hk,lg,hb6,hxb⟩:=hP48
    rw[List.length_map,List.take_of_length_le (Nat.le_refl _)]at lg
    refine nY ?_;clear nY
    refine hK es T _ _ _ _ ⟨t,hk,⟨lg.src,lg.asc,?_,fun x o L hd ho=>lg.all x o L ?_ ho⟩⟩
    ·rw[htk];exact lg.sub
    ·rw[htk]at hd
     refine Aa fun nY=>?_
     rcases List.mem_append.mp hd.1 with h|h
     ·refine nY ?_;clear nY
      exact .inl ⟨h,hd.2⟩
     ·refine nY ?_;clear nY
      simp at h;subst h;exact .inr ⟨rfl,hd.2⟩
  ·rintro es T r5 r6 r7 H₄ hP49
   refine Aa fun nY=>?_
   obtain⟨t,hk,lg⟩:=hP49
   rw[List.length_map,List.take_of_length_le (Nat.le_refl _)]at lg
   refine nY ?_;clear nY
   exact hN es T _ _ _ _ ⟨t,hk,lg⟩
 rintro es T r5 r6 r7 H₄ hP50
 refine Aa fun nY=>?_
 obtain⟨t,hk,lg⟩:=hP50
 have hesl:es.length<64:=by
  have:=E4 t.nodup hk
  rw[List.length_map]at this
  exact Af2 hm this
 refine nY ?_;clear nY
 refine Ab (Qz ?_)
 simp (disch:=first|decide|omega) only[Jb,Jf,Jo,Ju,Jv,Jy,J0,J1,Ah,Am,Xk t.at_ hesl]
 refine Ac fun sl H₅ e5 n5 v5=>?_
 (try dsimp only)
 refine Az v5 ?_
 have tin:∀L x,x∈T L->0<=x/\x<(m:Int):=fun L x hx=>(lg.src L x hx).1
 refine Ip (fun i r8 r9 r10=>[some (.ref w),some (.int p),some (.ref nr),some (.ref pc),some (.ref tt),r5,r6,r7,r8,r9,r10]) (fun i r8 r9 r10 H₆=>(Ag H₅ H₆)/\(∀L∈(Bf (es.map (fun e:Int×V=>e.1))).take i,fu A (T L)=none)) _ _ _ rfl ⟨Ag.refl,fun _ h=>absurd h List.not_mem_nil⟩ ?_ ?_ ?_
 ·rintro i r8 r9 r10 H₆ ⟨e6,_⟩;exact e6 _ _ v5
 ·rintro i v r8 r9 r10 H₆ K hv ⟨e6,hno⟩ hK
  obtain⟨L,hL,rfl⟩:=LI.at_ (a:=sl) hv
  have hLm:L∈es.map (·.1):=Gs.mp (List.mem_of_getElem? hL)
  have:(dget es L).isSome=true:=by rw[E6];simpa using hLm
  refine Aa fun nY=>?_
  obtain⟨v,hv⟩:=Option.isSome_iff_exists.mp this
  obtain⟨x,rfl,hx1,hx2,hx3⟩:=t.val L v hv
  have e46:=e5.trans e6
  have eH:Ag H H₆:=((e1.trans e2).trans t.ext).trans e46
  refine nY ?_;clear nY
  simp only[Lq,List.set_cons_succ,List.set_cons_zero]
  refine C0 (fun v9=>[some (.ref w),some (.int p),some (.ref nr),some (.ref pc),some (.ref tt),r5,r6,r7,some (.int L),some v9,r10]) (fun v9 H₇=>Ag H₆ H₇/\match fu A (T L)with|none=>v9 = .none|some (y,z)=>∃a,v9 = .ref a/\H₇ a=some (.tuple [.int y,.int z])) (fun N hN=>?_) ?_
  ·simp (disch:=first|decide|omega) only[Jf,Jn,Jq,Ju,Jv,Jw,Ah,Am,Bt,Bu,Ca,true_and,F1.untied,Wj (e46 _ _ t.at_) hv]
   refine Ga B F1.untied (hW.ext eH) (hx3.ext e46) (tin L) fun H₇ e7=>?_
   cases hfu:fu A (T L)with
   | none=>
     refine hN _ _ ⟨e7,?_⟩
     rw[hfu]
   | some pr=>
     obtain⟨y,z⟩:=pr
     intro a ha
     refine hN _ _ ⟨e7.trans (Ag.upd ha),?_⟩
     rw[hfu]
     exact⟨a,rfl,Ad⟩
  rintro v9 H₇ ⟨e7,h9⟩
  refine Ab (Bi ?_)
  cases hfu:fu A (T L)with
  | none=>
    rw[hfu]at h9
    simp only at h9
    subst h9
    simp (disch:=first|decide|omega) only[Jb,Je,Jf,Jk,Jl,Jn,Jq,Js,Ju,Jv,Jw,Jy,J0,J1,Jbi,Br,Ah,Am,Bt,Bu]
    simp only[Bool.false_eq_true,if_false]
    refine hK _ _ _ _ ⟨e6.trans e7,fun L' hL'=>?_⟩
    rw[List.take_add_one,hL]at hL'
    refine Aa fun nY=>?_
    rcases List.mem_append.mp hL' with h|h
    ·refine nY ?_;clear nY
     exact hno L' h
    ·refine nY ?_;clear nY
     simp at h;rw[h];exact hfu
  | some pr=>
    refine Aa fun nY=>?_
    obtain⟨y,z⟩:=pr
    rw[hfu]at h9
    obtain⟨a9,rfl,h9⟩:=h9
    have e47:=e46.trans e7
    have eH7:=eH.trans e7
    have hnr7:=(hnr2.ext t.ext).ext e47
    obtain⟨i1,i2,hi12,hy,hz,hyz⟩:=Aey hfu
    have hym:=List.mem_of_getElem? hy
    have hzm:=List.mem_of_getElem? hz
    have hyn:=Bd.mp (lg.sub L y hym)
    have hzn:=Bd.mp (lg.sub L z hzm)
    have hyz':y≠z:=fun q=>by
     subst q
     have:=Py ((lg.asc L).imp fun h=>(Int.ne_of_lt h)) hy hz
     exact Nat.lt_irrefl _ (Nat.lt_of_lt_of_eq hi12 this.symm)
    obtain⟨_,u,hu1,hu2⟩:=lg.src L y hym
    obtain⟨_,v,hv1,hv2⟩:=lg.src L z hzm
    obtain⟨hu3,l1,hl1,hl2,hl3⟩:=pk.key u _ hu2
    obtain⟨hv3,l2,hl4,hl5,hl6⟩:=pk.key v _ hv2
    cases hl1;cases hl4
    refine nY ?_;clear nY
    simp (disch:=first|decide|omega) only[Jb,Je,Jf,Jk,Jl,Jn,Jq,Js,Ju,Jv,Jw,Jy,J0,J1,Jbj,Br,Ah,Am,Bt,Bu]
    simp only[if_true]
    refine hvK ?_
    simp (disch:=first|decide|omega) only[Jf,J2,D1,D2,Ah,Am,List.replicate]
    refine Az hnr7 ?_
    refine⟨by simp[Bs];exact(Nat.le_trans (Nat.le_trans hnl hm) (by decide)),Iw (p:=fun o=> !decide (o=y\/o=z)) hnr7 (fun o ho K' hK'=>?_) ?_⟩
    ·have hmd:P8 (.int o) [.int y,.int z]=some (decide (o=y\/o=z)):=by
      have:=Mf o [y,z]
      simpa using this
     simp (disch:=first|decide|omega) only[Jf,Jl,Br,Ah,Am,Lp,Ace h9 hmd]
     split
     ·rename_i h;rw[if_pos h]at hK';exact hK'
     ·rename_i h;rw[if_neg h]at hK';exact hK'
    refine Ac fun s1 H₈ e8 _ v8=>?_
    (try dsimp only)
    generalize hsh:(Ay m A p.toNat).filter (fun o=> !decide (o=y\/o=z))=shut at v8
    have hshl:shut.length<=m:=by rw[<-hsh];exact Nat.le_trans (List.length_filter_le _ _) hnl
    refine Ac fun s2 H₉ e9 n9 v9=>?_
    (try dsimp only)
    refine⟨by rw[F.way];rfl,?_⟩
    refine Fv (x:= .int y) ((e8.trans e9) _ _ h9) (by decide) rfl ?_
    (try dsimp only)
    refine Fv (x:= .int z) ((e8.trans e9) _ _ h9) (by decide) rfl ?_
    (try dsimp only)
    refine Ac fun s3 H₁₀ e10 _ v10=>?_
    (try dsimp only)
    refine Fx ((e9.trans e10) _ _ v8) v10 (by simp;exact(Nat.le_trans (Nat.le_trans hshl hm) (by decide))) ?_
    refine Ac fun s4 H₁₁ e11 _ v11=>?_
    (try dsimp only)
    have e711:=((e8.trans e9).trans e10).trans e11
    have v11':LI H₁₁ s4 (shut ++ [p]):=by unfold LI;rw[v11];simp
    refine Aa fun nY=>?_
    have hyp:y≠p:=fun q=>by rw[q,g.irr]at hyn;cases hyn.2.2
    have hzp:z≠p:=fun q=>by rw[q,g.irr]at hzn;cases hzn.2.2
    have hys:y∉shut ++ [p]:=fun q=>by
     refine Aa fun nY=>?_
     rcases List.mem_append.mp q with q|q
     ·rw[<-hsh,List.mem_filter]at q;simp at q
     ·refine nY ?_;clear nY
      simp at q;exact hyp q
    have hzs:z∉shut ++ [p]:=fun q=>by
     refine Aa fun nY=>?_
     rcases List.mem_append.mp q with q|q
     ·rw[<-hsh,List.mem_filter]at q;simp at q
     ·refine nY ?_;clear nY
      simp at q;exact hzp q
    have hsub:∀o∈shut ++ [p],o∈Ay m A p.toNat ++ [p]:=fun o ho=>by
     refine Aa fun nY=>?_
     rcases List.mem_append.mp ho with ho|ho
     ·refine nY ?_;clear nY
      rw[<-hsh,List.mem_filter]at ho;exact List.mem_append_left _ ho.1
     ·refine nY ?_;clear nY
      exact List.mem_append_right _ ho
    have hrch:Oc m A (shut ++ [p]) y z:=by
     have r1:Oc m A (shut ++ [p]) y u:= .step (.refl _) hu1 (fun q=>hu3.1 (hsub u q)) hu3.2.1 hu3.2.2
     have r2:Oc m A (shut ++ [p]) u v:=((hl3.symm g hl2).trans hl6).mono hsub
     exact .step (r1.trans r2) (by rw[g.symm];exact hv1) hzs hzn.1 hzn.2.1
    refine nY ?_;clear nY
    refine Ajj F1 F.steps F.way hm (hW.ext (eH7.trans e711)) v11' ⟨hyn.1,hyn.2.1⟩ ⟨hzn.1,hzn.2.1⟩ (fun H₁₂ e12 hbad=>?_) (fun a path H₁₂ e12 v12 hpl=>?_)
    ·exfalso
     refine Aa fun nY=>?_
     rcases hbad with h|h|h
     ·refine nY ?_;clear nY
      exact hys h
     ·refine nY ?_;clear nY
      exact hzs h
     ·refine nY ?_;clear nY
      exact h hrch
    ·have v9':LI H₁₂ s2 [p]:=((e10.trans e11).trans e12) _ _ v9
     (try dsimp only)
     refine Fx v9' v12 (by simp;exact(Nat.le_trans (Nat.add_le_add_left (Nat.le_trans hpl hm) 1) (by decide))) ?_
     exact Ac fun rr H₁₃ e13 _ _=>qs rr H₁₃ ((eH7.trans e711).trans (e12.trans e13))
 ·rintro r8 r9 r10 H₆ ⟨e6,hno⟩
  rw[List.length_map,List.take_of_length_le (Nat.le_refl _)]at hno
  refine qn H₆ ((((e1.trans e2).trans t.ext).trans e5).trans e6) ?_
  rintro hP51
  refine Aa fun nY=>?_
  obtain⟨a,b,u,v,ha,hb,hu,hv,hpa,hpb,hab,hnab,hau,hbv,hus,hvs,hr⟩:=hP51
  have hpa':a∈Ay m A p.toNat:=Bd.mpr ⟨ha.1,ha.2,hpa⟩
  have hpb':b∈Ay m A p.toNat:=Bd.mpr ⟨hb.1,hb.2,hpb⟩
  obtain⟨L,hL⟩:=pk.lab u hus hu.1 hu.2
  have hLv:dget ep v=some (.int L):=by
   clear hbv hvs hv
   induction hr with
   | refl=>exact hL
   | step r ad s z0 z1 ih=>
     have hy:=r.in_ ⟨hus,hu⟩
     rw[<-pk.same _ _ hy.1 hy.2.1 hy.2.2 s z0 z1 ad];exact ih
  have haT:=lg.all a u L ⟨hpa',Bd.mpr ⟨hu.1,hu.2,hau⟩⟩ hL
  have hbT:=lg.all b v L ⟨hpb',Bd.mpr ⟨hv.1,hv.2,hbv⟩⟩ hLv
  have hLk:L∈es.map (·.1):=by
   cases hd:dget es L with
   | none=>rw[t.non L hd]at haT;simp at haT
   | some v=>
     have:(dget es L).isSome=true:=by rw[hd];rfl
     rw[E6]at this
     simpa using this
  have hfn:=Xm.mp (hno L (Gs.mpr hLk))
  obtain⟨i,hi⟩:=List.mem_iff_getElem?.mp haT
  obtain⟨j,hj⟩:=List.mem_iff_getElem?.mp hbT
  obtain⟨hil,hi'⟩:=List.getElem?_eq_some_iff.mp hi
  obtain⟨hjl,hj'⟩:=List.getElem?_eq_some_iff.mp hj
  rcases Nat.lt_trichotomy i j with q|q|q
  ·have:=List.pairwise_iff_getElem.mp hfn i j hil hjl q
   rw[hi',hj',hnab]at this;cases this
  ·refine nY ?_;clear nY
   subst q;exact hab (hi'.symm.trans hj')
  ·have:=List.pairwise_iff_getElem.mp hfn j i hjl hil q
   rw[hi',hj',g.symm,hnab]at this;cases this
set_option linter.all false
noncomputable def Wl(A:Nat->Nat->Bool)(l:List Int):Prop:=∀a∈l,∀b∈l,a≠b->A a.toNat b.toNat=true
theorem Rv{A:Nat->Nat->Bool}{l:List Int}(g:Gr A)(hn:l.Nodup):fu A l=none↔Wl A l:=by
 rw[Xm]
 constructor
 ·intro h a ha b hb hab
  refine Aa fun nY=>?_
  obtain⟨i,hi,rfl⟩:=List.mem_iff_getElem.mp ha
  obtain⟨j,hj,rfl⟩:=List.mem_iff_getElem.mp hb
  rcases Nat.lt_trichotomy i j with q|q|q
  ·refine nY ?_;clear nY
   exact List.pairwise_iff_getElem.mp h i j hi hj q
  ·subst q;exact absurd rfl hab
  ·refine nY ?_;clear nY
   rw[g.symm];exact List.pairwise_iff_getElem.mp h j i hj hi q
 ·intro h
  rw[List.pairwise_iff_getElem]
  intro i j hi hj hij
  exact h _ (List.getElem_mem _) _ (List.getElem_mem _) (List.pairwise_iff_getElem.mp hn i j hi hj hij)
noncomputable def Sim(A:Nat->Nat->Bool)(U:List Int)(p:Int):Prop:=∀a∈U,∀b∈U,A p.toNat a.toNat=true->A p.toNat b.toNat=true->a≠b->A a.toNat b.toNat=true
theorem Rw{A:Nat->Nat->Bool}{U:List Int}{p:Int}(g:Gr A)(hn:U.Nodup):Mk A U p=true↔Sim A U p:=by
 unfold Mk S3
 rw[Option.isNone_iff_eq_none,Rv g (hn.filter _)]
 unfold Wl Sim
 constructor
 ·intro h a ha b hb h1 h2 hab
  exact h a (List.mem_filter.mpr ⟨ha,h1⟩) b (List.mem_filter.mpr ⟨hb,h2⟩) hab
 ·intro h a ha b hb hab
  have h1:=List.mem_filter.mp ha
  have h2:=List.mem_filter.mp hb
  exact h a h1.1 b h2.1 h1.2 h2.2 hab
inductive CU(A:Nat->Nat->Bool)(U:List Int)(p:Int):Int->Int->Prop where
 | refl (x:Int):CU A U p x x
 | step {x y z:Int}:CU A U p x y->A y.toNat z.toNat=true->z∈U->z≠p->A p.toNat z.toNat=false->CU A U p x z
theorem CU.trans{A:Nat->Nat->Bool}{U:List Int}{p x y z:Int}(h:CU A U p x y)(h':CU A U p y z):CU A U p x z:=by
 induction h' with
 | refl=>exact h
 | step _ a b c d ih=>exact .step ih a b c d
theorem CU.away{A:Nat->Nat->Bool}{U:List Int}{p x y:Int}(h:CU A U p x y)(hx:x∈U/\x≠p/\A p.toNat x.toNat=false):y∈U/\y≠p/\A p.toNat y.toNat=false:=by
 induction h with
 | refl=>exact hx
 | step _ a b c d _=>exact⟨b,c,d⟩
theorem CU.symm{A:Nat->Nat->Bool}{U:List Int}{p x y:Int}(g:Gr A)(h:CU A U p x y)(hx:x∈U/\x≠p/\A p.toNat x.toNat=false):CU A U p y x:=by
 induction h with
 | refl=>exact .refl _
 | step r a b c d ih=>
   have:=r.away hx
   exact(CU.step (.refl _) (by rw[g.symm];exact a) this.1 this.2.1 this.2.2).trans ih
theorem CU.mono{A:Nat->Nat->Bool}{U W:List Int}{p x y:Int}(hs:∀z∈U,z∈W)(h:CU A U p x y):CU A W p x y:=by
 induction h with
 | refl=>exact .refl _
 | step _ a b c d ih=>exact .step ih a (hs _ b) c d
noncomputable def NoR(A:Nat->Nat->Bool)(U:List Int):Prop:=∀p∈U,∀a∈U,∀b∈U,A p.toNat a.toNat=true->A p.toNat b.toNat=true->a≠b->A a.toNat b.toNat=false->∀u∈U,∀v∈U,
 A a.toNat u.toNat=true->A b.toNat v.toNat=true->u≠p->v≠p->A p.toNat u.toNat=false->A p.toNat v.toNat=false->¬CU A U p u v
theorem NoR.mono{A:Nat->Nat->Bool}{U W:List Int}(hs:∀z∈U,z∈W)(h:NoR A W):NoR A U:=
 fun p hp a ha b hb h1 h2 h3 h4 u hu v hv h5 h6 h7 h8 h9 h10 hc=>h p (hs p hp) a (hs a ha) b (hs b hb) h1 h2 h3 h4 u (hs u hu) v (hs v hv) h5 h6 h7 h8 h9 h10 (hc.mono hs)
theorem Acr{A:Nat->Nat->Bool}{U:List Int}(hne:U≠[])(T:∀v∈U,(∃x∈U,x≠v/\A v.toNat x.toNat=false)->∃z∈U,z≠v/\A v.toNat z.toNat=false/\Sim A U z):∃z∈U,Sim A U z:=by
 refine Aa fun nY=>?_
 by_cases h:∃v∈U,∃x∈U,x≠v/\A v.toNat x.toNat=false
 ·obtain⟨v,hv,hx⟩:=h
  obtain⟨z,hz,_,_,hs⟩:=T v hv hx
  refine nY ?_;clear nY
  exact⟨z,hz,hs⟩
 ·obtain⟨z,hz⟩:=List.exists_mem_of_ne_nil U hne
  refine nY ?_;clear nY
  refine⟨z,hz,fun a ha b hb _ _ hab=>?_⟩
  cases hA:A a.toNat b.toNat with
  | true=>rfl
  | false=>exact absurd ⟨a,ha,b,hb,Ne.symm hab,hA⟩ h
theorem Zd{A:Nat->Nat->Bool}(g:Gr A):∀(n:Nat) (U:List Int),U.length<=n->NoR A U->∀v∈U,(∃x∈U,x≠v/\A v.toNat x.toNat=false)->∃z∈U,z≠v/\A v.toNat z.toNat=false/\Sim A U z:=by
 intro n
 induction n with
 | zero=>
   intro U hl _ v hv
   have:U = []:=List.length_eq_zero_iff.mp (Nat.eq_zero_of_le_zero hl)
   rw[this]at hv;cases hv
 | succ n ih=>
   rintro U hl hN v hv hP52
   refine Aa fun nY=>?_
   obtain⟨x,hx,hxv,hxa⟩:=hP52
   have hx0:x∈U/\x≠v/\A v.toNat x.toNat=false:=⟨hx,hxv,hxa⟩
   let inC:Int->Prop:=fun z=>CU A U v x z
   let inS:Int->Prop:=fun s=>A v.toNat s.toNat=true/\∃c,inC c/\A s.toNat c.toNat=true
   have cC:∀c,inC c->c∈U/\c≠v/\A v.toNat c.toNat=false:=fun c hc=>CU.away hc hx0
   let W:=U.filter fun z=> @decide (inC z\/inS z) (Classical.propDecidable _)
   let CC:=U.filter fun z=> @decide (inC z) (Classical.propDecidable _)
   have hWm:∀z,z∈W↔z∈U/\(inC z\/inS z):=fun z=>by simp[W]
   have hCm:∀z,z∈CC↔inC z:=fun z=>by
    simp only[CC,List.mem_filter,decide_eq_true_eq]
    exact⟨fun h=>h.2,fun h=>⟨(cC z h).1,h⟩⟩
   have hvW:¬(inC v\/inS v):=by
    rintro(h|h)
    ·exact(cC v h).2.1 rfl
    ·have:=h.1;rw[g.irr]at this;cases this
   have hWl:W.length<=n:=by
    have:W.length<U.length:=List.length_filter_lt_length_iff_exists.mpr ⟨v,hv,by simpa using hvW⟩
    exact Nat.le_of_lt_succ (Nat.lt_of_lt_of_le this hl)
   have hCl:CC.length<=n:=by
    have:CC.length<U.length:=List.length_filter_lt_length_iff_exists.mpr ⟨v,hv,by simpa using fun h=>hvW (.inl h)⟩
    exact Nat.le_of_lt_succ (Nat.lt_of_lt_of_le this hl)
   have hWN:NoR A W:=hN.mono fun z hz=>((hWm z).mp hz).1
   have hCN:NoR A CC:=hN.mono fun z hz=>(cC z ((hCm z).mp hz)).1
   have hSc:∀s∈U,∀s'∈U,inS s->inS s'->s≠s'->A s.toNat s'.toNat=true:=by
    rintro s hs s' hs' hP53 hP54 hne
    refine Aa fun nY=>?_
    obtain⟨h1,c,hc,h2⟩:=hP53
    obtain⟨h1',c',hc',h2'⟩:=hP54
    refine nY ?_;clear nY
    cases hA:A s.toNat s'.toNat with
    | true=>rfl
    | false=>
      exfalso
      have k:=cC c hc
      have k':=cC c' hc'
      exact hN v hv s hs s' hs' h1 h1' hne hA c k.1 c' k'.1 h2 h2' k.2.1 k'.2.1 k.2.2 k'.2.2 ((CU.symm g hc hx0).trans hc')
   have hcl:∀c,inC c->∀y∈U,A c.toNat y.toNat=true->y∈W:=by
    intro c hc y hy ha
    rw[hWm]
    refine⟨hy,?_⟩
    have k:=cC c hc
    refine Aa fun nY=>?_
    by_cases hyv:y=v
    ·subst hyv;rw[g.symm,k.2.2]at ha;cases ha
    ·refine nY ?_;clear nY
     cases hA:A v.toNat y.toNat with
     | true=>exact .inr ⟨hA,c,hc,by rw[g.symm];exact ha⟩
     | false=>exact .inl (CU.step hc ha hy hyv hA)
   have key:∃z,inC z/\Sim A W z:=by
    refine Aa fun nY=>?_
    by_cases h:∃s∈U,inS s/\∃y∈W,y≠s/\A s.toNat y.toNat=false
    ·obtain⟨s,hs,hsS,y,hy,hys,hya⟩:=h
     obtain⟨z,hz,hzs,hza,hsim⟩:=ih W hWl hWN s ((hWm s).mpr ⟨hs,.inr hsS⟩) ⟨y,hy,hys,hya⟩
     have hzW:=(hWm z).mp hz
     rcases hzW.2 with hc|hS
     ·refine nY ?_;clear nY
      exact⟨z,hc,hsim⟩
     ·have:=hSc s hs z hzW.1 hsS hS (Ne.symm hzs)
      rw[hza]at this;cases this
    ·have hcn:CC≠[]:=List.ne_nil_of_mem ((hCm x).mpr (.refl _))
     obtain⟨z,hz,hsim⟩:=Acr hcn (ih CC hCl hCN)
     have hzC:=(hCm z).mp hz
     have univ:∀s∈W,inS s->∀y∈W,y≠s->A s.toNat y.toNat=true:=fun s hs hsS y hy hys=>by
      cases hA:A s.toNat y.toNat with
      | true=>rfl
      | false=>exact absurd ⟨s,((hWm s).mp hs).1,hsS,y,hy,hys,hA⟩ h
     refine nY ?_;clear nY
     refine⟨z,hzC,fun a ha b hb h1 h2 hab=>?_⟩
     refine Aa fun nY=>?_
     rcases((hWm a).mp ha).2 with hac|haS
     ·rcases((hWm b).mp hb).2 with hbc|hbS
      ·refine nY ?_;clear nY
       exact hsim a ((hCm a).mpr hac) b ((hCm b).mpr hbc) h1 h2 hab
      ·refine nY ?_;clear nY
       rw[g.symm];exact univ b hb hbS a ha hab
     ·refine nY ?_;clear nY
      exact univ a ha haS b hb (Ne.symm hab)
   obtain⟨z,hzC,hsim⟩:=key
   have k:=cC z hzC
   refine nY ?_;clear nY
   refine⟨z,k.1,k.2.1,k.2.2,fun a ha b hb h1 h2 hab=>?_⟩
   exact hsim a (hcl z hzC a ha h1) b (hcl z hzC b hb h2) h1 h2 hab
theorem Ajk{m:Nat}{A:Nat->Nat->Bool}(g:Gr A){t:List Int}(hn:t.Nodup)(hin:∀x∈t,0<=x/\x<(m:Int))(hno:∀p∈t,¬S8 m A p)(hst:ltg A t=none):t = []:=by
 refine Classical.byContradiction fun hne=>?_
 have hN:NoR A t:=by
  intro p hp a ha b hb h1 h2 h3 h4 u hu v hv h5 h6 h7 h8 h9 h10 hc
  have out:∀z,z∈t->z≠p->A p.toNat z.toNat=false->z∉Ay m A p.toNat ++ [p]:=fun z hz hzp hza q=>by
   refine Aa fun nY=>?_
   rcases List.mem_append.mp q with q|q
   ·have:=Bd.mp q;rw[hza]at this;cases this.2.2
   ·refine nY ?_;clear nY
    simp at q;exact hzp q
  refine hno p hp ⟨a,b,u,v,hin a ha,hin b hb,hin u hu,hin v hv,h1,h2,h3,h4,h5,h6,out u hu h7 h9,out v hv h8 h10,?_⟩
  clear h6 h8 h10 hv
  induction hc with
  | refl=>exact .refl _
  | step _ a1 a2 a3 a4 ih=>exact .step ih a1 (out _ a2 a3 a4) (hin _ a2).1 (hin _ a2).2
 refine Aa fun nY=>?_
 obtain⟨z,hz,hs⟩:=Acr hne (Zd g t.length t (Nat.le_refl _) hN)
 have:=List.find?_eq_none.mp hst z hz
 rw[(Rw g hn).mpr hs]at this
 refine nY ?_;clear nY
 exact this rfl
theorem Mp{A:Nat->Nat->Bool}(g:Gr A):∀(k:Nat) (gn t:List Int),t.Nodup->t.length<=k->(Ka fun g2 t'=>Xw (Bh A k gn t=(gn++g2,t')) ((g2++t').Perm t) (ltg A t'=none) (t'.Nodup) (∀(j:Nat) (p:Int),g2[j]? = some p->Wl A (S3 A (g2.drop (j+1)++t') p))):=by
 intro k
 induction k with
 | zero=>
   intro gn t hn hl
   cases List.length_eq_zero_iff.mp (Nat.eq_zero_of_le_zero hl)
   exact⟨[],[],congrArg (·,[]) (List.append_nil gn).symm,.refl _,rfl,hn,fun _ _ h=>absurd h.symm (Option.some_ne_none _)⟩
 | succ k ih=>
   intro gn t hn hl
   cases e:ltg A t with
   | none=>exact⟨[],t,(Mm e).trans (congrArg (·,t) (List.append_nil gn).symm),.refl _,e,hn,fun _ _ h=>absurd h.symm (Option.some_ne_none _)⟩
   | some p=>
     have hp:=Xn e
     refine Aa fun nY=>?_
     obtain⟨g2,t',h1,h2,h3,h4,h5⟩:=ih (gn ++ [p]) (t.erase p) (hn.erase p) (Nat.le_trans (Nat.le_of_eq (List.length_erase_of_mem hp)) (Nat.sub_le_sub_right hl 1))
     refine nY ?_;clear nY
     refine⟨p::g2,t',(Ml e).trans (h1.trans (congrArg (·,t') (List.append_assoc gn [p] g2))),(h2.cons p).trans (List.perm_cons_erase hp).symm,h3,h4,fun j q hq=>?_⟩
     refine Aa fun nY=>?_
     cases j with
     | succ j=>(refine nY ?_;clear nY;exact h5 j q hq)
     | zero=>
       cases hq
       have hs:Sim A t p:=(Rw g hn).mp (List.find?_some e)
       refine nY ?_;clear nY
       intro a ha b hb hab
       have ha':=List.mem_filter.mp ha
       have hb':=List.mem_filter.mp hb
       exact hs a (List.mem_of_mem_erase (h2.mem_iff.mp ha'.1)) b (List.mem_of_mem_erase (h2.mem_iff.mp hb'.1)) ha'.2 hb'.2 hab
theorem Ze{m:Nat}{A:Nat->Nat->Bool}(g:Gr A)(h:(Bh A m [] (Aw m)).2 = []):A0 m (Bh A m [] (Aw m)).1/\Peo A (Bh A m [] (Aw m)).1:=by
 refine Aa fun nY=>?_
 obtain⟨g2,t',h1,h2,h3,h4,h5⟩:=Mp g m [] (Aw m) Cs (by rw[C5];exact Nat.le_refl _)
 refine nY ?_;clear nY
 rw[h1]at h ⊢
 simp only[List.nil_append]at h h1 ⊢
 subst h
 rw[List.append_nil]at h2
 have hord:A0 m g2:=Mn (h2.nodup_iff.mpr Cs) fun x=>by rw[h2.mem_iff,C4]
 refine⟨hord,fun p hp=>?_⟩
 obtain⟨j,hj⟩:=List.mem_iff_getElem?.mp hp
 rw[Afr hord.nodup hj]
 unfold S3
 rw[Rv g ((hord.nodup.sublist (List.drop_sublist _ _)).filter _)]
 have:=h5 j p hj
 rwa[List.append_nil]at this
set_option linter.all false
variable {G:A5} {n:Nat} {H H':AH} {Q:Ak} {E:EP} {C:CS} {ρ:Al}
theorem Qv{m:Nat}{A:Nat->Nat->Bool}(g:Gr A):(Bh A m [] (Aw m)).2.Nodup/\(∀x∈(Bh A m [] (Aw m)).2,0<=x/\x<(m:Int))/\ltg A (Bh A m [] (Aw m)).2=none:=by
 refine Aa fun nY=>?_
 obtain⟨g2,t',h1,h2,h3,h4,_⟩:=Mp g m [] (Aw m) Cs (by rw[C5];exact Nat.le_refl _)
 refine nY ?_;clear nY
 rw[h1]
 exact⟨h4,fun x hx=>C4.mp (h2.mem_iff.mp (List.mem_append_right _ hx)),h3⟩
theorem Wm(F:Zb G){w m:Nat}{A:Nat->Nat->Bool}(g:Gr A)(hm:m<=60)(hW:Bw H w m A)
 (qn:∀H',Ag H H'->(Bh A m [] (Aw m)).2 = []->Q .none H')
 (qs:∀a H',Ag H H'->Q (.ref a) H'):Ae G (n+6) "long_ring" [.ref w] H Q E:=by
 have F1:=F.fns2.fns
 refine Af F.longRing rfl ?_
 simp only[Nh,List.map,List.replicate,List.cons_append,List.nil_append]
 refine Ab (Qz ?_)
 simp (disch:=first|decide|omega) only[Jb,Je,Jf,Jn,Jq,Ju,Jv,Jy,J0,J1,Ah,Ca,true_and,F1.taken]
 refine Xo F1 hW hm fun r a b H₁ e1 nr na nb hab hr hb ha=>?_
 (try dsimp only)
 refine Fv (x:= .ref a) hr (by decide) rfl (Az ha ?_)
 refine Aa fun nY=>?_
 obtain⟨f1,f2,f3⟩:=Qv (m:=m) g
 refine nY ?_;clear nY
 generalize (Bh A m [] (Aw m)).2=t at *
 refine Nv (fun i r1 r2=>[some (.ref w),r1,r2]) (fun i r1 r2 H₂=>(Ag H₁ H₂)/\(∀p∈t.take i,¬S8 m A p)) _ _ rfl ⟨Ag.refl,fun _ h=>absurd h List.not_mem_nil⟩ ?_ ?_ ?_
 ·rintro i r1 r2 H₂ ⟨e,_⟩;exact ha.ext e
 ·rintro i v r1 r2 H₂ K hv ⟨e,hno⟩ hK
  obtain⟨p,hp,rfl⟩:=LI.at_ (a:=a) hv
  have hpr:=f2 p (List.mem_of_getElem? hp)
  have eH:=e1.trans e
  simp (disch:=first|decide|omega) only[Jf,Jn,Ju,Jv,Jw,J0,J1,Ah,Am,Bt,Bu,Ca,true_and,H0,F.ringAt]
  refine Acq F g hm (hW.ext eH) hpr (fun H₃ e3 hn=>?_) (fun x H₃ e3=>?_)
  ·refine Bi ?_
   simp (disch:=first|decide|omega) only[Jb,Jf,Jl,Jy,J0,J1,Jbi,Br,Ah,Am]
   simp only[Bool.false_eq_true,if_false]
   refine hK _ _ _ ⟨e.trans e3,fun z hz=>?_⟩
   rw[List.take_add_one,hp]at hz
   refine Aa fun nY=>?_
   rcases List.mem_append.mp hz with hz|hz
   ·refine nY ?_;clear nY
    exact hno z hz
   ·refine nY ?_;clear nY
    simp at hz;rw[hz];exact hn
  ·refine Bi ?_
   simp (disch:=first|decide|omega) only[Jb,Jf,Jl,Jy,J0,J1,Jbj,Br,Ah,Am]
   simp only[if_true]
   exact qs x H₃ (eH.trans e3)
 ·rintro r1 r2 H₂ ⟨e,hno⟩
  rw[List.length_map,List.take_of_length_le (Nat.le_refl _)]at hno
  exact qn H₂ (e1.trans e) (Ajk g f1 f2 hno f3)
theorem Rx(hI:G.fn "Verdict.__init__" = some Du){o r c k:V}{many:Int}(q:∀v H',Ag H H'->Q (.ref v) H') :
 ∀a d,H a=none->H d=none->a≠d->Ae G (n+1) (Ds .verdict) [.ref a,o,r,c,k,.int many] (upd (upd H d (.ns [])) a (.inst .verdict d)) (fun r H'=>r = .none/\Q (.ref a) H') E:=by
 intro a d ha hd had
 refine Af hI rfl ?_
 simp only[Du,List.map,List.cons_append,List.nil_append]
 have h0:∀(H₁:AH) (fs:List (C9×V)) (t:C9) (x:V),(Ag H H₁/\H₁ a=some (.inst .verdict d)/\H₁ d=some (.ns fs))->Ag H (upd H₁ d (.ns (Hw fs t x)))/\upd H₁ d (.ns (Hw fs t x)) a=some (.inst .verdict d)/\upd H₁ d (.ns (Hw fs t x)) d=some (.ns (Hw fs t x)):=
  fun H₁ fs t x h=>⟨h.1.upd' hd,by rw[upd_ne had];exact h.2.1,Ad⟩
 have s0:Ag H (upd (upd H d (.ns [])) a (.inst .verdict d))/\upd (upd H d (.ns [])) a (.inst .verdict d) a=some (.inst .verdict d)/\upd (upd H d (.ns [])) a (.inst .verdict d) d=some (.ns []):=
  ⟨(Ag.upd hd).upd' ha,Ad,by rw[upd_ne (Ne.symm had),Ad]⟩
 generalize upd (upd H d (.ns [])) a (.inst .verdict d)=H₀ at *
 have s1:=h0 _ _ .order o s0
 have s2:=h0 _ _ .ring r s1
 have s3:=h0 _ _ .crowd c s2
 have s4:=h0 _ _ .colours k s3
 have s5:=h0 _ _ .many (.int many) s4
 simp only[J1,J0,Bz,Jf,List.getElem?_cons_zero,List.getElem?_cons_succ]
 refine E5 s0.2.1 s0.2.2 (show (0:Nat)<10 by decide) ?_
 refine E5 s1.2.1 s1.2.2 (show (1:Nat)<10 by decide) ?_
 refine E5 s2.2.1 s2.2.2 (show (2:Nat)<10 by decide) ?_
 refine E5 s3.2.1 s3.2.2 (show (3:Nat)<10 by decide) ?_
 refine E5 s4.2.1 s4.2.2 (show (4:Nat)<10 by decide) ?_
 exact⟨trivial,q a _ s5.1⟩
theorem Acs(F:Zb G){w m:Nat}{A:Nat->Nat->Bool}(g:Gr A)(hm:m<=60)(hW:Bw H w m A)(q:∀v H',Ag H H'->Q v H'):Ae G (n+7) "judged" [.ref w] H Q E:=by
 have F2:=F.fns2
 have F1:=F2.fns
 refine Af F.judged rfl ?_
 simp only[Tl,List.map,List.replicate,List.cons_append,List.nil_append]
 have hmk:(G.fn (Ds .verdict)).isSome=true:=by rw[show Ds .verdict=Str.ofString "Verdict.__init__" from rfl,F.init];rfl
 refine Ab (C6 (Sd ?_))
 refine⟨by rw[F.longRing];rfl,?_⟩
 simp (disch:=first|decide|omega) only[Je,Jf,Jn,Jq,Js,Ju,Jv,Jw,Jy,J0,J1,Ah,Bt,Bu]
 refine Wm F g hm hW (fun H₁ e1 hnil=>?_) (fun x H₁ e1=>?_)
 rotate_left
 ·(try dsimp only)
  refine Bi ?_
  simp (disch:=first|decide|omega) only[Jb,Jf,Jl,Jy,J0,J1,Jbj,Br,Ah,Am,Bt,Bu]
  simp only[if_true]
  refine Z4 ?_
  refine⟨hmk,?_⟩
  simp (disch:=first|decide|omega) only[Jb,Je,Jf,Ju,Jv,Ah,Am]
  exact Rx F.init fun v H₂ e2=>q _ H₂ (e1.trans e2)
 (try dsimp only)
 obtain⟨ho,hp⟩:=Ze g hnil
 refine Bi ?_
 simp (disch:=first|decide|omega) only[Jb,Jf,Jl,Jy,J0,J1,Jbi,Br,Ah,Am,Bt,Bu]
 simp only[Bool.false_eq_true,if_false]
 refine⟨by rw[F1.taken];rfl,?_⟩
 refine Xo F1 (hW.ext e1) hm fun r a b H₂ e2 nr na nb hab hr hb ha=>?_
 (try dsimp only)
 refine Fv (x:= .ref b) hr (by decide) rfl ?_
 (try dsimp only)
 refine Ac fun gr H₃ e3 ngr vgr=>?_
 (try dsimp only)
 have hb3:=hb.ext e3
 have e13:=(e1.trans e2).trans e3
 generalize (Bh A m [] (Aw m)).1=lo at *
 refine Qz ?_
 simp (disch:=first|decide|omega) only[Jf,Jn,Ju,Jv,Ah,Am,Ca,true_and,F2.fullCrowds]
 refine Qr F2 hm (hW.ext e13) hb3 ho hp fun fa as H₄ md=>?_
 (try dsimp only)
 refine Az md.at_ ?_
 have e14:=e13.trans md.ext
 have hb4:=hb3.ext md.ext
 refine Ip (fun i r4 c lc=>[some (.ref w),some .none,some (.ref b),some (.ref c),r4]) (fun i r4 c lc H₅=>(Ag H₄ H₅)/\(LI H₅ c lc)) _ gr [] rfl ⟨Ag.refl,md.ext _ _ vgr⟩ ?_ ?_ ?_
 ·rintro i r4 c lc H₅ ⟨e5,_⟩;exact e5 _ _ md.at_
 ·rintro i v r4 c lc H₅ K hv ⟨e5,hc5⟩ hK
  rw[List.getElem?_map]at hv
  refine Aa fun nY=>?_
  obtain⟨x,hx,rfl⟩:=Option.map_eq_some_iff.mp hv
  obtain⟨_,ri,hxr⟩:=md.lists x (List.mem_of_getElem? hx)
  replace hxr:=hxr.ext e5
  refine nY ?_;clear nY
  simp only[Ni,J1,J0,List.set_cons_succ,List.set_cons_zero]
  refine Bg (decide ((lc.length:Int)<ri.length)) (fun Q' h'=>?_) ?_
  ·simp (disch:=first|decide|omega) only[Jf,Jl,Jo,Ju,Jv,Yv,Ah,Am,B9 hxr,B9 hc5]
   rw[List.length_map,List.length_map];exact h'
  split
  ·simp (disch:=first|decide|omega) only[Jf,Jw,J0,J1,Ah,Am,Bt,Bu]
   exact hK _ x ri _ ⟨e5,hxr⟩
  ·simp (disch:=first|decide|omega) only[J0]
   exact hK _ c lc _ ⟨e5,hc5⟩
 ·rintro r4 c lc H₅ ⟨e5,hc5⟩
  refine Z4 ?_
  refine⟨hmk,?_⟩
  simp (disch:=first|decide|omega) only[Jb,Jf,Jn,Jo,Ju,Jv,Ah,Am,Ca,true_and,F2.coloured]
  have e15:=e14.trans e5
  refine Ux F2 hm (hW.ext e15) (hb4.ext e5) ho hp fun k H₆ e6=>?_
  (try dsimp only)
  refine Aed (hc5.ext e6) ?_
  exact Rx F.init fun v H₇ e7=>q _ H₇ ((e15.trans e6).trans e7)
set_option linter.all false
variable {G:A5} {n:Nat} {H H':AH} {Q:Ak} {E:EP} {C:CS} {ρ:Al}
noncomputable def Uz:V->Nat
 | .ref a=>a
 | _=>0
theorem Zf:∀ {xs:List V},(∀x∈xs,∃a,x = .ref a)->(xs.map Uz).map V.ref=xs:=by
 intro xs
 induction xs with
 | nil=>exact fun _=>rfl
 | cons x r ih=>
   intro h
   obtain⟨a,rfl⟩:=h x List.mem_cons_self
   exact congrArg _ (ih fun y hy=>h y (List.mem_cons_of_mem _ hy))
theorem Zg{xs:List V}{ks:List Nat}(h:xs.Perm (ks.map V.ref)):∃ks':List Nat,xs=ks'.map V.ref/\ks'.Perm ks:=by
 have h1:=Zf (xs:=xs) fun x hx=>by
  obtain⟨a,_,rfl⟩:=List.mem_map.mp (h.mem_iff.mp hx)
  exact⟨a,rfl⟩
 refine⟨xs.map Uz,h1.symm,?_⟩
 have h2:=h.map Uz
 rw[List.map_map]at h2
 have:ks.map (Uz∘V.ref)=ks:=by
  have e:(Uz∘V.ref)=id:=by funext x;rfl
  rw[e,List.map_id]
 rwa[this]at h2
theorem Aez{a:Nat}{ks:List Nat}(h:H a=some (.list (ks.map V.ref)))(hl:ks.length<64)(hp:∀x∈ks,(Ka fun(c i:Int)=>H x=some (.tuple [.int c,.int i])))
 (q:∀ks':List Nat,ks'.Perm ks->Ao (.list (ks'.map V.ref)) H Q):Cj .sorted [.ref a] H Q:=by
 delta Cj;dsimp only;delta Hy;dsimp only[Mt,Ax];rw[h];dsimp only
 refine Aa fun nY=>?_
 cases ks with
 | nil=>(refine nY ?_;clear nY;exact⟨by decide,q [] (.refl _)⟩)
 | cons x r=>
   refine nY ?_;clear nY
   refine⟨by simpa using hl,?_,fun xs' hx'=>?_⟩
   ·rw[List.all_eq_true]
    intro v hv
    refine Aa fun nY=>?_
    obtain⟨y,hy,rfl⟩:=List.mem_map.mp hv
    obtain⟨c,i,e⟩:=hp y hy
    refine nY ?_;clear nY
    show Zx (H y)=true
    rw[e];rfl
   ·obtain⟨ks',rfl,h2⟩:=Zg hx'
    exact q ks' h2
noncomputable def P2(H:AH)(x:Nat):Int:=match H x with
 | some (.tuple [_,.int i])=>i
 | _=>0
theorem U0{x:Nat}{c i:Int}(h:H x=some (.tuple [.int c,.int i])):P2 H x=i:=by unfold P2;rw[h]
theorem Ae0(B:I8 G)(hG:G.fn "_law_keyed" = some H7){ns:List Int}{m:Nat}(hm:m<=60)(q:∀a l H',Ag H H'->H a=none->LI H' a l->l.Perm (Aw m)->Q (.ref a) H') :
 Ae G (n+2) "_law_keyed" [.script ns,.int m] H Q E:=by
 refine Af hG rfl ?_
 simp only[H7,List.map,List.replicate,List.cons_append,List.nil_append]
 refine Y1 (fun(k:Nat) (ks:List Nat)=>[some (.script ns),some (.int m),some (.ref k)]) (fun(k:Nat) (ks:List Nat) H₁=>R7 (Ag H H₁) (H₁ k=some (.list (ks.map V.ref))) (ks.length=m) (∀(i x:Nat),ks[i]? = some x->∃c:Int,H₁ x=some (.tuple [.int c,.int (i:Int)]))) (fun N hN=>?_) ?_
 ·refine C6 (grK ?_)
  simp (disch:=first|decide|omega) only[Jf,Ju,Jv,J2,Qk,D1,D2,Ah,Am,List.replicate,Bt,Bu]
  refine⟨by simp[Bs];exact Zq hm,?_⟩
  refine Cf (k:=0) (fun j acc H₁=>(Oo fun(ks:List Nat)=>R7 (acc=ks.map V.ref) (Ag H H₁) (ks.length=j) (∀(i x:Nat),ks[i]? = some x->∃c:Int,H₁ x=some (.tuple [.int c,.int (i:Int)])))) ⟨[],rfl,Ag.refl,rfl,fun _ _ h=>absurd h.symm (Option.some_ne_none _)⟩ ?_ ?_
  ·rintro j x acc H₁ K' hx' hP55 hK'
   refine Aa fun nY=>?_
   obtain⟨ks,rfl,e,hl,hall⟩:=hP55
   rw[List.getElem?_map]at hx'
   obtain⟨j',hj,rfl⟩:=Option.map_eq_some_iff.mp hx'
   obtain⟨hlt,he⟩:=List.getElem?_eq_some_iff.mp hj
   simp at hlt he
   subst he
   refine nY ?_;clear nY
   refine⟨trivial,_,rfl,?_⟩
   simp (disch:=first|decide|omega) only[Je,Jf,Jk,Jn,Jt,Ju,Jv,J4,J6,Ah,Am,Ca,true_and,H5,Ul,B.cellAt,B.mixed]
   refine⟨.inl (by decide),?_⟩
   refine Cz B.cellAt (Int.natCast_nonneg _) ?_
   refine⟨.inl (by decide),?_⟩
   refine Ol B.mixed fun c c0 c1=>?_
   refine Ac fun y H₂ e2 n2 v2=>hK' _ _ ⟨ks ++ [y],by simp,e.trans e2,by simp[hl],fun i z hz=>?_⟩
   refine Aa fun nY=>?_
   rcases Nat.lt_or_ge i ks.length with hlt'|hge
   ·rw[List.getElem?_append_left hlt']at hz
    obtain⟨c',hc'⟩:=hall i z hz
    refine nY ?_;clear nY
    exact⟨c',e2 _ _ hc'⟩
   ·have hi:=(List.getElem?_eq_some_iff.mp hz).1
    simp at hi
    have hij:i=j:=((Nat.le_antisymm (Nat.le_of_lt_succ hi) hge).trans (hl.trans (Nat.zero_add _)))
    subst hij
    rw[List.getElem?_append_right hge,show i-ks.length=0 by exact Aj7 hl]at hz
    simp at hz
    subst hz
    refine nY ?_;clear nY
    exact⟨c,v2⟩
  ·rintro acc H₁ hP56
   refine Aa fun nY=>?_
   obtain⟨ks,rfl,e,hl,hall⟩:=hP56
   refine nY ?_;clear nY
   refine⟨trivial,?_⟩
   refine Ac fun k H₂ e2 n2 v2=>hN k ks _ ⟨e.trans e2,v2,by simpa using hl,fun i x hx=>?_⟩
   obtain⟨c,hc⟩:=hall i x hx
   exact⟨c,e2 _ _ hc⟩
 rintro k ks H₁ hP57
 refine Aa fun nY=>?_
 obtain⟨e,hk,hl,hall⟩:=hP57
 refine nY ?_;clear nY
 refine Ab (Se (gvK ?_))
 simp (disch:=first|decide|omega) only[Jf,Jo,Ju,Jv,J2,D1,D2,Ah,Am,List.replicate]
 refine Aez hk (Af3 hm hl) (fun x hx=>?_) fun ks' hperm=>?_
 ·refine Aa fun nY=>?_
  obtain⟨i,hi⟩:=List.mem_iff_getElem?.mp hx
  obtain⟨c,hc⟩:=hall i x hi
  refine nY ?_;clear nY
  exact⟨c,i,hc⟩
 refine Ac fun s H₂ e2 n2 v2=>?_
 (try dsimp only)
 refine Az v2 ?_
 have hall2:∀(i x:Nat),ks[i]? = some x->∃c:Int,H₂ x=some (.tuple [.int c,.int (i:Int)]):=fun i x hx=>by
  obtain⟨c,hc⟩:=hall i x hx
  exact⟨c,e2 _ _ hc⟩
 refine⟨by simp[Bs,hperm.length_eq,hl];exact Zq hm,E2 (f:=fun v=>match v with | .ref x=>some (.int (P2 H₂ x))|_=>none) v2 (fun v hv K hK=>?_) ?_⟩
 ·refine Aa fun nY=>?_
  obtain⟨x,hx,rfl⟩:=List.mem_map.mp hv
  obtain⟨i,hi⟩:=List.mem_iff_getElem?.mp (hperm.mem_iff.mp hx)
  obtain⟨c,hc⟩:=hall2 i x hi
  have hK:K (some (.int (P2 H₂ x))) H₂:=hK
  rw[U0 hc]at hK
  refine nY ?_;clear nY
  simp (disch:=first|decide|omega) only[Je,Jf,Jq,Ah,H6,Im (x:= .int i) (k:=1) hc (by decide) rfl]
  exact hK
 ·have e1:(ks'.map V.ref).filterMap (fun v=>match v with | .ref x=>some (V.int (P2 H₂ x))|_=>none)=(ks'.map (P2 H₂)).map V.int:=by
   rw[List.filterMap_map,List.map_map,<-List.filterMap_eq_map]
   rfl
  rw[e1]
  refine Ac fun a H₃ e3 n3 v3=>q a _ H₃ ((e.trans e2).trans e3) ((e.trans e2).isNone n3) v3 ?_
  have e4:ks.map (P2 H₂)=Aw m:=by
   unfold Aw Ob
   refine List.ext_getElem (by simp[hl]) fun i h1 h2=>?_
   have hi:i<ks.length:=by simpa using h1
   obtain⟨c,hc⟩:=hall2 i ks[i] (List.getElem?_eq_getElem hi)
   simp[U0 hc]
  rw[<-e4]
  exact hperm.map _
theorem Nz(hG:G.fn "_law_behind" = some G2){a m r i:Nat}{A:Nat->Nat->Bool}{o:List Int}{p:Int}(hm:m<=60)(hN:Dr H a m A)(hL:LI H r o)(ho:A0 m o)(hi:o[i]? = some p)
 (q:∀s H',Ag H H'->H s=none->LI H' s (bh A o p)->Q (.ref s) H'):Ae G (n+1) "_law_behind" [.ref a,.ref r,.int (i:Int)] H Q E:=by
 refine Af hG rfl ?_
 have hpr:=ho.mem.mp (List.mem_of_getElem? hi)
 simp only[G2,List.map,List.cons_append,List.nil_append]
 refine Ab (Se (hvK ?_))
 simp (disch:=first|decide|omega) only[Jc,Je,Jf,Jk,Jr,J2,J6,D1,D2,Ah,Am,List.replicate]
 (refine Dm hL Ks Iu ?_;rw[Pw Ac1])
 refine Ac fun s H₁ e1 _ v1=>?_
 rw[show ((i:Int)+1).toNat=i+1 by exact Ac2,<-List.map_drop]at v1
 refine Az v1 ?_
 have hL1:=hL.ext e1
 refine Aa fun nY=>?_
 obtain⟨as,z,a1,a2,a3,a4⟩:=(hN.ext e1).row hpr.1 hpr.2
 refine nY ?_;clear nY
 refine⟨by simp[Bs,ho.len];exact Aid hm,Iw (p:=fun y=>A p.toNat y.toNat) v1 (fun y hy K' hK'=>?_) ?_⟩
 ·have hyr:=ho.mem.mp (List.mem_of_mem_drop hy)
  simp (disch:=first|decide|omega) only[Jf,Jl,Jq,Br,Ah,Am,Ho,Bj hL1 (Int.natCast_nonneg i) (LI.sub (a:=r) hi),Bj a1 hpr.1 a3,Aek a4,Sy hyr.1 hyr.2]
  split
  ·rename_i h;rw[if_pos h]at hK';exact hK'
  ·rename_i h;rw[if_neg h]at hK';exact hK'
 refine Ac fun s2 H₂ e2 n2 v2=>q s2 H₂ (e1.trans e2) (e1.isNone n2) ?_
 rw[Afr ho.nodup hi]
 exact v2
variable {w m r nr a b:Nat} {A:Nat->Nat->Bool} {o l l':List Int} {k far:Int} {c:Cn}
/-! refusals:an order that is none,an order with a gap -/
structure Xs(G:A5):Prop where
 bad:G.exc .badOrder=true
 gap:G.exc .hasGap=true
 web:G.exc .webError=true
 badWeb:G.exc .badWeb=true
 text:G.exc .badText=true
 point:G.exc .noPoint=true
theorem Mq(F:Lf G)(X:Xs G)(hm:m<=60)(hW:Bw H w m A)(hL:LI H r o)(hl:o.length<64)(hb:¬A0 m o)
 (q:∀H' a,Ag H H'->H' a=none->E (.ref a) (upd H' a (.exc .badOrder))):Ae G (n+2) "need_order" [.ref w,.ref r] H Q E:=by
 refine Af F.needOrder rfl ?_
 simp only[G0,List.map,List.cons_append,List.nil_append]
 refine Ab (Bi ?_)
 simp (disch:=first|decide|omega) only[Jf,Jg,Jn,Ju,Jv,J0,J1,Br,Ah,Am,Ca,true_and,F.isOrder]
 refine I4 F hm hW hL hl fun H₁ e1=>?_
 rw[decide_eq_false (show ¬Bf o=Aw m from hb)]
 (try dsimp only);(try simp (disch:=first|decide|omega) only[Br])
 simp only[Bool.not_false,if_true,Cp]
 exact⟨X.bad,fun a ha=>q H₁ a e1 ha⟩
theorem Ahf(F:Lf G)(X:Xs G)(hm:m<=60)(hW:Bw H w m A)(hL:LI H r o)(hl:o.length<64)(hb:¬A0 m o)
 (q:∀H' a,Ag H H'->H' a=none->E (.ref a) (upd H' a (.exc .badOrder))):Ae G (n+3) "gap" [.ref w,.ref r] H Q E:=by
 refine Af F.gap rfl ?_
 simp only[Z6,List.map,List.replicate,List.cons_append,List.nil_append]
 refine Ab ?_
 simp (disch:=first|decide|omega) only[Jb,Jf,Jn,Ju,Jv,Jx,Jy,J0,J1,Ah,Am,Ca,true_and,F.needOrder]
 exact Mq F X hm hW hL hl hb q
theorem Xr{p:Int}(hL:LI H r o)(hp:0<=p)(q:∀a H',Ag H H'->H a=none->LI H' a (o.take p.toNat)->Q (.ref a) H'):Ce (.ref r) .none (.int p) .none H Q:=by
 (refine Dm hL Iu Ks ?_;rw[Wg hp,<-List.map_take])
 exact Ac fun a H₁ e1 n1 v1=>q a H₁ e1 n1 v1
theorem Act{p:Int}(hL:LI H r o)(hp:0<=p)(q:∀a H',Ag H H'->H a=none->LI H' a (o.drop p.toNat)->Q (.ref a) H'):Ce (.ref r) (.int p) .none .none H Q:=by
 (refine Dm hL Ks Iu ?_;rw[Pw hp,<-List.map_drop])
 exact Ac fun a H₁ e1 n1 v1=>q a H₁ e1 n1 v1
theorem Ry(h:LI H a l)(h':LI H b l')(hl:l.length+l'.length<=1000)(q:∀c H',Ag H H'->H c=none->LI H' c (l++l')->Q (.ref c) H'):Dn .Add (.ref a) (.ref b) H Q:=by
 refine Fx h h' (by rw[List.length_map,List.length_map];exact(Nat.le_trans hl (by decide))) ?_
 refine Ac fun c H₁ e1 n1 v1=>q c H₁ e1 n1 ?_
 unfold LI
 rw[v1,List.map_append]
theorem Ajl{v:V}{xs:List V}{t:Bool}(h:H a=some (.tuple xs))(hm:P8 v xs=some t):Ba .In v (.ref a) H Q=Q (.bool t) H:=by
 delta Ba;dsimp only;delta N4;dsimp only;rw[h];dsimp only;rw[hm];rfl
theorem Ahg{v:V}{xs:List V}{t:Bool}(h:H a=some (.tuple xs))(hm:P8 v xs=some t)(kk:Q (.bool t) H):Ba .In v (.ref a) H Q:=Eq.mpr (Ajl h hm) kk
theorem Ahh{t:Bool}:Cj .int [.bool t] H Q=Q (.int (if t then 1 else 0)) H:=rfl
theorem Ae1{t:Bool}(kk:Q (.int (if t then 1 else 0)) H):Cj .int [.bool t] H Q:=Eq.mpr (Ahh) kk
theorem Ajm{p p2 z:Int}(hL:LI H r o)(hl:o.length<=60)(hp:0<=p)(hpp:p<=p2)(q:∀a H',Ag H H'->H a=none->LI H' a (o.take p.toNat ++ [z]++o.drop p2.toNat)->Q (.ref a) H') :
 Ce (.ref r) .none (.int p) .none H (fun a H=>Ao (.list [.int z]) H fun b H=>Dn .Add a b H fun a H=>Ce (.ref r) (.int p2) .none .none H fun b H=>Dn .Add a b H Q):=by
 refine Xr hL hp fun a1 H₁ e1 n1 v1=>?_
 refine Ac fun b1 H₂ e2 n2 v2=>?_
 refine Ry (l':=[z]) (v1.ext e2) v2 (by simp;exact(Nat.le_trans (Nat.min_le_right _ _) (Nat.le_trans hl (by decide)))) fun a2 H₃ e3 n3 v3=>?_
 have e13:=(e1.trans e2).trans e3
 refine Act (hL.ext e13) (Int.le_trans hp hpp) fun b2 H₄ e4 n4 v4=>?_
 refine Ry (v3.ext e4) v4 (by simp;exact(Nat.le_trans (Nat.add_le_add (Nat.succ_le_succ (Nat.le_trans (Nat.min_le_right _ _) hl)) (Nat.le_trans (Nat.sub_le _ _) hl)) (by decide))) fun a3 H₅ e5 n5 v5=>q a3 H₅ ((e13.trans e4).trans e5) ((e13.trans e4).isNone n5) v5
theorem Ahi{xs:List V}(h:H a=some (.list xs)):Ce (.ref a) .none (.int 0) (.int (-1)) H Q=Ao (.list (xs.drop 1).reverse) H Q:=by
 show Gb (H a) (fun xs=>none=(none:Option Int)/\(-1:Int) = -1/\(0:Int)=0/\Ao (.list (xs.drop 1).reverse) H Q)=_
 rw[h];exact propext ⟨fun q=>q.2.2.2,fun q=>⟨rfl,rfl,rfl,q⟩⟩
theorem Ae2{xs:List V}(h:H a=some (.list xs))(kk:Ao (.list (xs.drop 1).reverse) H Q):Ce (.ref a) .none (.int 0) (.int (-1)) H Q:=Eq.mpr (Ahi h) kk
theorem Acu(hG:G.fn "_law_within" = some G4)(hL:LI H r o)(hl:o.length<=60)
 (q:∀a l H',Ag H H'->H a=none->LI H' a l->l.Perm o->Q (.ref a) H'):Ae G (n+1) "_law_within" [.ref r,.int k] H Q E:=by
 refine Af hG rfl ?_
 simp only[G4,List.map,List.replicate,List.cons_append,List.nil_append]
 refine Ab ?_
 refine Bg (decide (k%2=0)||decide ((o.length:Int)<4)) (fun Q' h'=>?_) ?_
 ·simp (disch:=first|decide|omega) only[Je,Jf,Jj,Jk,Jl,Jo,Ju,Jv,J4,J8,Ok,Br,Ah,Am,B9 hL]
  rw[List.length_map]
  split
  ·rename_i h;rw[h,Bool.true_or]at h';exact h'
  ·rename_i h;rw[Bool.not_eq_true]at h;rw[h,Bool.false_or]at h';exact h'
 refine Aa fun nY=>?_
 by_cases hh:(decide (k%2=0)||decide ((o.length:Int)<4))=true
 ·refine nY ?_;clear nY
  rw[if_pos hh,J1]
  simp (disch:=first|decide|omega) only[Jc,Je,Jf,Jh,Jk,Jo,Jr,Ju,Jv,Jw,Jy,J0,J1,Ah]
  refine Aha hL ?_
  refine Ac fun a H₁ e1 n1 v1=>q a o.reverse H₁ e1 n1 (by unfold LI;rw[v1,List.map_reverse]) (List.reverse_perm o)
 refine nY ?_;clear nY
 rw[if_neg hh,J0]
 have hlen:4<=o.length:=by
  have:=hh
  simp at this
  exact Int.ofNat_lt.mp this.2
 refine C0 (fun f=>[some (.ref r),some (.int k),some (.ref f),none,none]) (fun f H₁=>D3 (Ag H H₁) (H f=none) (LI H₁ f o)) (fun N hN=>?_) ?_
 ·simp (disch:=first|decide|omega) only[Jf,Jo,Ju,Jv,Jw,Ah,Bt,Bu,Hi hL]
  exact Ac fun a H₁ e1 n1 v1=>hN a _ ⟨e1,n1,v1⟩
 rintro f H₁ hP58
 refine Aa fun nY=>?_
 obtain⟨e1,nf,hf⟩:=hP58
 have hL1:=hL.ext e1
 have hrf:r≠f:=fun z=>by unfold LI at hL;rw[z,nf]at hL;cases hL
 have hmod:∀x:Int,0<=x%((o.length:Int)-2)/\x%((o.length:Int)-2)<(o.length:Int)-2:=fun x=>⟨Int.emod_nonneg _ (Int.ne_of_gt (Int.sub_pos_of_lt (Int.lt_of_lt_of_le (by decide) (Int.ofNat_le.mpr hlen)))),Int.emod_lt_of_pos _ (Int.sub_pos_of_lt (Int.lt_of_lt_of_le (by decide) (Int.ofNat_le.mpr hlen)))⟩
 refine nY ?_;clear nY
 refine C0 (fun(x:Int)=>[some (.ref r),some (.int k),some (.ref f),some (.int x),none]) (fun(x:Int) H₂=>D3 (H₁=H₂) (0<=x) (x<(o.length:Int))) (fun N hN=>?_) ?_
 ·simp (disch:=first|decide|omega) only[Je,Jf,Jk,Jo,Ju,Jv,Jw,J5,J7,Ah,Am,Bt,Bu,B9 hL1]
  rw[List.length_map]
  simp (disch:=first|decide|omega) only[J4,J6]
  exact hN _ _ ⟨rfl,by have:=hmod (k/2);exact(Int.add_nonneg (by decide) this.1),by have:=hmod (k/2);exact(Int.lt_of_lt_of_le (Int.add_lt_add_left this.2 1) qa2)⟩
 rintro x _ hP59
 refine Aa fun nY=>?_
 obtain⟨rfl,x0,x1⟩:=hP59
 refine nY ?_;clear nY
 refine C0 (fun(y:Int)=>[some (.ref r),some (.int k),some (.ref f),some (.int x),some (.int y)]) (fun(y:Int) H₂=>D3 (H₁=H₂) (0<=y) (y<(o.length:Int))) (fun N hN=>?_) ?_
 ·simp (disch:=first|decide|omega) only[Je,Jf,Jk,Jo,Ju,Jv,Jw,J5,J7,Ah,Am,Bt,Bu,B9 hL1]
  rw[List.length_map]
  simp (disch:=first|decide|omega) only[J4,J6]
  exact hN _ _ ⟨rfl,by have:=hmod (k/122);exact(Int.add_nonneg (by decide) this.1),by have:=hmod (k/122);exact(Int.lt_of_lt_of_le (Int.add_lt_add_left this.2 1) qa2)⟩
 rintro y _ hP60
 refine Aa fun nY=>?_
 obtain⟨rfl,y0,y1⟩:=hP60
 have hsw:=List.set_set_perm (as:=o) (i:=x.toNat) (j:=y.toNat) (Xy x1 y0 y1) (Q10 y0 y1)
 have hx:=List.getElem?_eq_getElem (show x.toNat<o.length by exact Xy x1 y0 y1)
 have hy:=List.getElem?_eq_getElem (show y.toNat<o.length by exact Q10 y0 y1)
 refine nY ?_;clear nY
 generalize o[x.toNat]=ox at hx hsw
 generalize o[y.toNat]=oy at hy hsw
 have hx':(o.map V.int)[x.toNat]? = some (.int ox):=by rw[List.getElem?_map,hx];rfl
 have hy':(o.map V.int)[y.toNat]? = some (.int oy):=by rw[List.getElem?_map,hy];rfl
 refine Ab (Kv ?_)
 simp (disch:=first|decide|omega) only[Jf,Jq,Jy,J0,J1,Ah,Am,Bj hL1 y0 hy',S1 hf x0 x1]
 have hL2:LI (upd H₁ f (.list ((o.set x.toNat oy).map V.int))) r o:=by unfold LI;rw[upd_ne hrf];exact hL1
 have hf2:LI (upd H₁ f (.list ((o.set x.toNat oy).map V.int))) f (o.set x.toNat oy):=Ad
 refine Kv ?_
 simp (disch:=first|decide|omega) only[Jf,Jq,Ah,Am,Bj hL2 x0 hx',S1 hf2 y0 (show y<((o.set x.toNat oy).length:Int) by rw[List.length_set];exact y1)]
 exact q f _ _ ((e1.upd' nf).upd' nf) nf Ad hsw
theorem Wn(hG:G.fn "_law_spoilt" = some Ed)(hL:LI H r o)(hm:m<=60)(ho:A0 m o)(hfar:61<=far)
 (q:∀a l H',Ag H H'->H a=none->LI H' a l->l.length<=61->¬A0 m l->Q (.ref a) H'):Ae G (n+1) "_law_spoilt" [.ref r,.int k,.int far] H Q E:=by
 have hol:=ho.len
 have hl:o.length<=60:=(Nat.le_trans (Nat.le_of_eq hol) hm)
 refine Af hG rfl ?_
 simp only[Ed,List.map,List.replicate,List.cons_append,List.nil_append]
 refine C0 (fun(p:Int)=>[some (.ref r),some (.int k),some (.int far),some (.int p),none,none]) (fun(p:Int) H₁=>D3 (H=H₁) (0<=p) (p<=(o.length:Int))) (fun N hN=>?_) ?_
 ·simp (disch:=first|decide|omega) only[Je,Jf,Jk,Jo,Ju,Jv,Jw,J6,Ah,Am,Bt,Bu,B9 hL]
  rw[List.length_map]
  simp (disch:=first|decide|omega) only[J4]
  have h1:0<=k%((o.length:Int)+1):=Int.emod_nonneg _ (Int.ne_of_gt (Int.natCast_pos.mpr (Nat.succ_pos _)))
  have h2:k%((o.length:Int)+1)<(o.length:Int)+1:=Int.emod_lt_of_pos _ (Int.ofNat_lt.mpr (Nat.succ_pos _))
  exact hN _ _ ⟨rfl,h1,(Int.le_of_lt_add_one h2)⟩
 rintro p _ hP61
 refine Aa fun nY=>?_
 obtain⟨rfl,p0,p1⟩:=hP61
 refine nY ?_;clear nY
 refine C0 (fun(d:Int)=>[some (.ref r),some (.int k),some (.int far),some (.int p),some (.int d),none]) (fun(d:Int) H₁=>H=H₁) (fun N hN=>?_) ?_
 ·simp (disch:=first|decide|omega) only[Je,Jf,Jk,Jw,J4,J5,Ah,Am,Bt,Bu]
  exact hN _ _ rfl
 rintro d _ rfl
 refine C0 (fun(z:Int)=>[some (.ref r),some (.int k),some (.int far),some (.int p),some (.int d),some (.int z)]) (fun(z:Int) H₁=>(Ag H H₁)/\((z<0\/(m:Int)<=z))) (fun N hN=>?_) ?_
 ·simp (disch:=first|decide|omega) only[Je,Jf,Jh,Jk,Jo,Jq,Js,Ju,Jv,Jw,J4,J5,Ah,Am,Bt,Bu,B9 hL]
  refine Ac fun a H₁ e1 n1 v1=>?_
  (try dsimp only)
  have h1:0<=k/305%4:=Int.emod_nonneg _ ((by decide))
  have h2:k/305%4<4:=Int.emod_lt_of_pos _ ((by decide))
  have h3:LI H₁ a [-1,((o.map V.int).length:Int),far,-far]:=v1
  have hlt:(k/305%4).toNat < [-1,((o.map V.int).length:Int),far,-far].length:=by
   show _<4
   exact(Int.toNat_lt (Int.emod_nonneg _ (by decide))).mpr (Int.emod_lt_of_pos _ (by decide))
  have hz:=List.getElem?_eq_getElem hlt
  generalize [-1,((o.map V.int).length:Int),far,-far][(k/305%4).toNat]=z at hz
  try simp (disch:=first|decide|omega) only[J5,J4]
  refine Eo h3 h1 (show ([-1,((o.map V.int).length:Int),far,-far].map V.int)[(k/305%4).toNat]? = some (.int z) by rw[List.getElem?_map,hz];rfl) ?_
  refine hN z _ ⟨e1,?_⟩
  have hzm:=List.mem_of_getElem? hz
  rw[List.length_map]at hzm
  simp only[List.mem_cons,List.not_mem_nil,or_false]at hzm
  exact Akl hfar hol hl hzm
 rintro z H₁ ⟨e1,hz⟩
 have hL1:=hL.ext e1
 have q1:∀a l H',Ag H₁ H'->H₁ a=none->LI H' a l->l.length<=61->¬A0 m l->Q (.ref a) H':=fun a l H' e n v hl hb=>q a l H' (e1.trans e) (e1.isNone n) v hl hb
 have qz:∀a (l l':List Int) H',Ag H₁ H'->H₁ a=none->LI H' a (l ++ [z]++l')->l.length+l'.length<=60->Q (.ref a) H':=fun a l l' H' e n v hl=>q1 a _ H' e n v (by simp;exact(Nat.succ_le_succ hl)) fun h=>by
  have:=h.mem.mp (show z∈l ++ [z]++l' by simp)
  exact Akm hz this.1 this.2
 refine Ab ?_
 refine Bg (decide (d=0)&&decide (p<(o.length:Int))) (fun Q' h'=>?_) ?_
 ·simp (disch:=first|decide|omega) only[Je,Jf,Ji,Jl,Jo,Ju,Jv,J8,Ok,Br,Ah,Am,B9 hL1]
  rw[List.length_map]
  split
  ·rename_i h;rw[h,Bool.true_and]at h';exact h'
  ·rename_i h;rw[Bool.not_eq_true]at h;rw[h,Bool.false_and]at h';exact h'
 split
 ·rename_i hh
  simp only[Bool.and_eq_true,decide_eq_true_eq]at hh
  refine Ab ?_
  simp (disch:=first|decide|omega) only[Jc,Je,Jf,Jk,Jr,Js,Ju,Jv,Jy,J0,J1,J6,Ah,Am]
  refine Xr hL1 p0 fun a1 H₂ e2 n2 v2=>?_
  (try dsimp only)
  try simp (disch:=first|decide|omega) only[J6]
  refine Act (hL1.ext e2) (show 0<=p+1 by exact(Int.add_nonneg p0 (by decide))) fun a2 H₃ e3 n3 v3=>?_
  have hll:(o.take p.toNat).length+(o.drop (p+1).toNat).length+1=m:=by rw[List.length_take,List.length_drop];exact Akn hol p0 hh.2
  refine Ry (v2.ext e3) v3 (Nat.le_trans (Nat.le_of_succ_le (Nat.le_of_eq hll)) (Nat.le_trans (Nat.le_of_eq hol.symm) (Nat.le_trans hl (by decide)))) fun a3 H₄ e4 n4 v4=>q1 a3 _ H₄ ((e2.trans e3).trans e4) ((e2.trans e3).isNone n4) v4 (by rw[List.length_append];exact(Nat.le_trans (Nat.le_of_succ_le (Nat.le_of_eq hll)) (Nat.le_trans (Nat.le_of_eq hol.symm) (Nat.le_trans hl (by decide))))) fun h=>?_
  have:=h.len
  rw[List.length_append]at this
  exact Nat.succ_ne_self _ (hll.trans this.symm)
 refine Dd (Ab ?_)
 refine Bg (decide (d=1)&&(decide (0<p)&&decide (p<(o.length:Int)))) (fun Q' h'=>?_) ?_
 ·simp (disch:=first|decide|omega) only[Je,Jf,Ji,Jl,Jm,Jo,Ju,Jv,J8,Ok,Br,Ah,Am,B9 hL1]
  rw[List.length_map]
  split
  ·rename_i h
   rw[h,Bool.true_and]at h'
   split
   ·rename_i h2;rw[h2,Bool.true_and]at h';exact h'
   ·rename_i h2;rw[Bool.not_eq_true]at h2;rw[h2,Bool.false_and]at h';exact h'
  ·rename_i h;rw[Bool.not_eq_true]at h;rw[h,Bool.false_and]at h';exact h'
 split
 ·rename_i hh
  simp only[Bool.and_eq_true,decide_eq_true_eq]at hh
  have hp1:=List.getElem?_eq_getElem (show (p-1).toNat<o.length by exact((Int.toNat_lt (Int.sub_nonneg_of_le hh.2.1)).mpr (Int.lt_of_le_of_lt (Int.sub_le_self _ (by decide)) hh.2.2)))
  generalize o[(p-1).toNat]=y at hp1
  have hp2:(o.map V.int)[(p-1).toNat]? = some (.int y):=by rw[List.getElem?_map,hp1];rfl
  refine Ab ?_
  simp (disch:=first|decide|omega) only[Jc,Je,Jf,Jk,Jq,Jr,Js,Ju,Jv,Jy,J0,J1,J6,J7,Ah,Am]
  refine Xr hL1 p0 fun a1 H₂ e2 n2 v2=>?_
  (try dsimp only)
  try simp (disch:=first|decide|omega) only[J7]
  refine Eo (hL1.ext e2) (show 0<=p-1 by exact(Int.sub_nonneg_of_le hh.2.1)) hp2 ?_
  refine Ac fun b1 H₃ e3 n3 v3=>?_
  (try dsimp only)
  refine Ry (l':=[y]) (v2.ext e3) v3 (by simp;exact(Nat.le_trans (Nat.min_le_right _ _) (Nat.le_trans hl (by decide)))) fun a2 H₄ e4 n4 v4=>?_
  (try dsimp only)
  try simp (disch:=first|decide|omega) only[J6]
  have e14:=(e2.trans e3).trans e4
  refine Act (hL1.ext e14) (show 0<=p+1 by exact(Int.le_trans (Int.le_of_lt hh.2.1) (Int.le_add_of_nonneg_right (by decide)))) fun a3 H₅ e5 n5 v5=>?_
  have hll:(o.take p.toNat ++ [y]).length+(o.drop (p+1).toNat).length<=61:=by
   rw[List.length_append,List.length_take,List.length_drop];simp;exact Nat.le_trans (Nat.le_of_eq (Nat.add_right_comm _ _ _)) (Nat.succ_le_succ (Nat.le_trans (Nat.add_le_add_left (Nat.sub_le_sub_left qtn _) _) (Nat.le_trans (Nat.le_of_eq Afy) hl)))
  refine Ry (v4.ext e5) v5 (Nat.le_trans hll (by decide)) fun a4 H₆ e6 n6 v6=>q1 a4 _ H₆ ((e14.trans e5).trans e6) ((e14.trans e5).isNone n6) v6 (by rw[List.length_append];exact hll) fun h=>?_
  refine(List.nodup_append.mp (List.nodup_append.mp h.nodup).1).2.2 y (List.mem_of_getElem? (i:=(p-1).toNat) ?_) y (by simp) rfl
  rw[List.getElem?_take,if_pos ((Int.toNat_lt_toNat hh.2.1).mpr (Int.sub_lt_self _ (by decide)))];exact hp1
 refine Dd (Ab ?_)
 refine Bg (decide (d=2)&&decide (p<(o.length:Int))) (fun Q' h'=>?_) ?_
 ·simp (disch:=first|decide|omega) only[Je,Jf,Ji,Jl,Jo,Ju,Jv,J8,Ok,Br,Ah,Am,B9 hL1]
  rw[List.length_map]
  split
  ·rename_i h;rw[h,Bool.true_and]at h';exact h'
  ·rename_i h;rw[Bool.not_eq_true]at h;rw[h,Bool.false_and]at h';exact h'
 split
 ·refine Ab ?_
  simp (disch:=first|decide|omega) only[Jc,Je,Jf,Jk,Jr,Js,Ju,Jv,Jy,J0,J1,J6,Ah,Am]
  exact Ajm hL1 hl p0 (Int.le_add_of_nonneg_right (by decide)) fun a H' e n v=>qz a _ _ H' e n v (by rw[List.length_take,List.length_drop];exact(Nat.le_trans (Nat.add_le_add_left (Nat.sub_le_sub_left qtn _) _) (Nat.le_trans (Nat.le_of_eq Afy) hl)))
 refine Dd (Ab ?_)
 refine Bg (decide (d=3)&&decide ((o.length:Int)>2)) (fun Q' h'=>?_) ?_
 ·simp (disch:=first|decide|omega) only[Je,Jf,Ji,Jl,Jo,Ju,Jv,Yv,Ok,Br,Ah,Am,B9 hL1]
  rw[List.length_map]
  split
  ·rename_i h;rw[h,Bool.true_and]at h';exact h'
  ·rename_i h;rw[Bool.not_eq_true]at h;rw[h,Bool.false_and]at h';exact h'
 split
 ·rename_i hh
  simp only[Bool.and_eq_true,decide_eq_true_eq]at hh
  refine Ab (Se (gvK ?_))
  simp (disch:=first|decide|omega) only[Jf,J2,D1,D2,Ah,List.replicate]
  refine Az hL1 ?_
  refine⟨by simp[Bs];exact Zq hl,?_⟩
  refine Cf (k:=0) (fun i acc H'=>(Oo fun(l:List Int)=>R7 (acc=l.map V.int) (Ag H₁ H') (l.length=i) ((0:Int)∉l))) ⟨[],rfl,Ag.refl,rfl,by simp⟩ ?_ ?_
  ·rintro i x acc H' K hx hP62 hK
   refine Aa fun nY=>?_
   obtain⟨l,rfl,e,hli,h0⟩:=hP62
   rw[List.getElem?_map,List.getElem?_map]at hx
   obtain⟨v,hv,rfl⟩:=Option.map_eq_some_iff.mp hx
   obtain⟨y,hy,rfl⟩:=Option.map_eq_some_iff.mp hv
   refine nY ?_;clear nY
   refine⟨hL1.ext e,_,rfl,?_⟩
   simp (disch:=first|decide|omega) only[Je,Jf,Jl,Jo,Jq,Js,Jt,Ju,Jv,Ah,Ey]
   refine Ac fun b1 H₂ e2 n2 v2=>?_
   (try dsimp only)
   refine Ac fun b2 H₃ e3 n3 v3=>?_
   (try dsimp only)
   have hmd:P8 (.int y) [.int 0,.int 2]=some (decide (y=0\/y=2)):=by
    have:=Mf y [0,2]
    simpa using this
   refine Ahg v3 hmd ?_
   (try dsimp only)
   refine Ae1 ?_
   have hb:LI H₃ b1 [y,1]:=e3 _ _ v2
   have fin:∀u:Int,u≠0->K (some (.int u)) H₃:=fun u hu=>hK _ _ ⟨l ++ [u],by simp,(e.trans e2).trans e3,by simp;exact(hli.trans (Nat.zero_add _)),by simp[h0];exact(Ne.symm hu)⟩
   refine Aa fun nY=>?_
   by_cases ht:y=0\/y=2
   ·refine nY ?_;clear nY
    rw[decide_eq_true ht,if_pos rfl,Bj (x:= .int 1) hb (by decide) rfl]
    exact fin 1 (by decide)
   ·refine nY ?_;clear nY
    rw[decide_eq_false ht,if_neg Bool.false_ne_true,Bj (x:= .int y) hb (by decide) rfl]
    exact fin y fun z=>ht (.inl z)
  ·rintro acc H' hP63
   refine Aa fun nY=>?_
   obtain⟨l,rfl,e,hli,h0⟩:=hP63
   refine nY ?_;clear nY
   refine⟨hL1.ext e,?_⟩
   exact Ac fun a H₂ e2 n2 v2=>q1 a l H₂ (e.trans e2) (e.isNone n2) v2 (by rw[hli];simp;exact(Nat.le_trans hl (by decide))) fun h=>h0 (h.mem.mpr (by(first|lia|omega)))
 refine Dd (Ab ?_)
 simp (disch:=first|decide|omega) only[Jc,Jf,Jk,Jr,Js,Ju,Jv,Jy,J0,Ah,Am]
 exact Ajm hL1 hl p0 (Int.le_refl _) fun a H' e n v=>qz a _ _ H' e n v (by rw[List.length_take,List.length_drop];exact(Nat.le_trans (Nat.le_of_eq Afy) hl))
set_option linter.all false
variable {G:A5} {n:Nat} {H H' H₁ H₂:AH} {Q:Ak} {E:EP} {C:CS} {ρ:Al} {w m r nr a b:Nat} {A:Nat->Nat->Bool} {o l l':List Int} {k p far:Int} {c:Cn}
structure Rz(G:A5):Prop where
 f3:Zb G
 xs:Xs G
 behind:G.fn "behind" = some Lj
 hBehind:G.fn "!behind" = some O3
 hNeed:G.fn "!need_order" = some H9
 hIs:G.fn "!is_order" = some Ls
 many:G.fn "_law_many" = some F5
 keyed:G.fn "_law_keyed" = some H7
 lBehind:G.fn "_law_behind" = some G2
 untied:G.fn "_law_untied" = some G3
 whole:G.fn "_law_whole" = some Ff
 numbers:G.fn "_law_numbers" = some F3
 lGap:G.fn "_law_gap" = some Q2
 gapTold:G.fn "_law_gap_told" = some H8
 within:G.fn "_law_within" = some G4
 ordersTold:G.fn "_law_orders_told" = some Fk
 behindTold:G.fn "_law_behind_told" = some Fl
 spoilt:G.fn "_law_spoilt" = some Ed
 refused:G.fn "_law_refused" = some Gk
 noPoint:G.fn "_law_no_point" = some Fm
 byBase:G.fn "_law_by_base" = some Gi
 gapsRight:G.fn "_law_gaps_right" = some Gj
 behindsRight:G.fn "_law_behinds_right" = some Eg
 law:G.fn "law" = some Tm
/-! behind:an answer,or one of two refusals -/
theorem Wo(F:Rz G)(hm:m<=60)(hW:Bw H w m A)(hL:LI H r o)(ho:A0 m o)(hp:p∈o)
 (q:∀a H',Ag H H'->H a=none->LI H' a (bh A o p)->Q (.ref a) H'):Ae G (n+4) "behind" [.ref w,.ref r,.int p] H Q E:=by
 have F2:=F.f3.fns2
 have B:=F2.fns.base
 have hpr:=ho.mem.mp hp
 refine Af F.behind rfl ?_
 simp only[Lj,List.map,List.cons_append,List.nil_append]
 refine Ef ([some (.ref w),some (.ref r),some (.int p)]) (fun H₁=>Ag H H₁) (fun N hN=>?_) ?_
 ·simp (disch:=first|decide|omega) only[Jf,Jn,Ju,Jv,Jx,Ah,Am,Ca,true_and,F2.needOrder]
  exact Ix F2 hm hW hL ho fun H₁ e1=>hN _ e1
 rintro H₁ e1
 refine Aa fun nY=>?_
 obtain⟨d,rs,w1,w2,w3⟩:=hW.ext e1
 refine nY ?_;clear nY
 refine Ab ?_
 simp (disch:=first|decide|omega) only[Jf,Jn,Ju,Jv,Jx,Jy,J0,J1,Ah,Am,Ca,true_and,Av,Da,Db,Fe,w1,w2,B.need]
 refine M8 B ⟨d,rs,w1,w2,w3⟩ hpr.1 hpr.2 ?_
 simp (disch:=first|decide|omega) only[Ca,true_and,F2.behind]
 exact Mo F2 hm (hW.ext e1) (hL.ext e1) ho hp fun a H₂ e2 n2 v2=>q a H₂ (e1.trans e2) (e1.isNone n2) v2
theorem Zh(B:I8 G)(hX:G.exc .noPoint=true){x:Int}(hW:Bw H w m A)(hb:¬(0<=x/\x<(m:Int)))(q:∀a,H a=none->E (.ref a) (upd H a (.exc .noPoint))):Ae G (n+1) "Web.need" [.ref w,.int x] H Q E:=by
 refine Af B.need rfl ?_
 refine Aa fun nY=>?_
 obtain⟨d,rs,w1,w2,w3⟩:=hW
 refine nY ?_;clear nY
 simp only[Kw,List.map,List.cons_append,List.nil_append]
 refine Ab ?_
 refine Bg true (fun Q' h'=>?_) ?_
 ·simp (disch:=first|decide|omega) only[Je,Jf,Jg,Jm,Jp,J8,J9,Br,Ah,Am,Hh w1 w2 (show Kt [(C9.many,V.int m),(C9.rows,V.ref rs)] .many=some (.int m)from rfl)]
  refine Aa fun nY=>?_
  by_cases h0:0<=x
  ·refine nY ?_;clear nY
   simp only[show decide ((0:Int)<=x)=true by simp;exact h0,show decide (x<(m:Int))=false by simp;exact Ako hb h0,if_pos]
   exact h'
  ·refine nY ?_;clear nY
   simp only[show decide ((0:Int)<=x)=false by simp;exact Ac3 h0,Bool.false_eq_true,if_false]
   exact h'
 rw[if_pos rfl]
 simp only[J1,Cp]
 exact⟨hX,q⟩
theorem P3(F:Rz G)(hm:m<=60)(hW:Bw H w m A)(hL:LI H r o)(ho:A0 m o)(hp:p<0\/(m:Int)<=p)
 (q:∀H' a,Ag H H'->H' a=none->E (.ref a) (upd H' a (.exc .noPoint))):Ae G (n+4) "behind" [.ref w,.ref r,.int p] H Q E:=by
 have F2:=F.f3.fns2
 have B:=F2.fns.base
 refine Af F.behind rfl ?_
 simp only[Lj,List.map,List.cons_append,List.nil_append]
 refine Ef ([some (.ref w),some (.ref r),some (.int p)]) (fun H₁=>Ag H H₁) (fun N hN=>?_) ?_
 ·simp (disch:=first|decide|omega) only[Jf,Jn,Ju,Jv,Jx,Ah,Am,Ca,true_and,F2.needOrder]
  exact Ix F2 hm hW hL ho fun H₁ e1=>hN _ e1
 rintro H₁ e1
 refine Aa fun nY=>?_
 obtain⟨d,rs,w1,w2,w3⟩:=hW.ext e1
 refine nY ?_;clear nY
 refine Ab ?_
 simp (disch:=first|decide|omega) only[Jf,Jn,Ju,Jv,Jx,Jy,J0,J1,Ah,Am,Ca,true_and,Av,Da,Db,Fe,w1,w2,B.need]
 exact Zh B F.xs.point ⟨d,rs,w1,w2,w3⟩ (Akp hp) fun a ha=>q H₁ a e1 ha
theorem Zi(F:Rz G)(hm:m<=60)(hW:Bw H w m A)(hL:LI H r o)(hl:o.length<64)(hb:¬A0 m o)
 (q:∀H' a,Ag H H'->H' a=none->E (.ref a) (upd H' a (.exc .badOrder))):Ae G (n+4) "behind" [.ref w,.ref r,.int p] H Q E:=by
 have F2:=F.f3.fns2
 refine Af F.behind rfl ?_
 simp only[Lj,List.map,List.cons_append,List.nil_append]
 refine Ab ?_
 simp (disch:=first|decide|omega) only[Jf,Jn,Ju,Jv,Jx,Jy,J0,J1,Ah,Am,Ca,true_and,F2.needOrder]
 exact Mq F2 F.xs hm hW hL hl hb q
/-! the same while an exception is handled -/
theorem Acv(h:LI H a l)(hl:l.length<64):Cj .sortedL [.ref a] H Q=Ao (.list ((Bf l).map V.int)) H Q:=by
 unfold LI at h
 delta Cj;dsimp only;delta R9;dsimp only[Mt,Ax];rw[h];dsimp only[Gb];rw[Mh];dsimp only[E8]
 exact propext ⟨fun q=>q.2,fun q=>⟨hl,q⟩⟩
theorem Zj(F:Rz G)(hm:m<=60)(hW:Bw H w m A)(hL:LI H r o)(hl:o.length<64)(hb:¬A0 m o)
 (q:∀H' a,Ag H H'->H' a=none->E (.ref a) (upd H' a (.exc .badOrder false))):Ae G (n+3) "!behind" [.ref w,.ref r,.int p] H Q E:=by
 refine Af F.hBehind rfl ?_
 simp only[O3,List.map,List.cons_append,List.nil_append]
 refine Ab ?_
 simp (disch:=first|decide|omega) only[Jf,Jn,Ju,Jv,Jx,J0,J1,Ah,Am,Ca,true_and,F.hNeed]
 refine Af F.hNeed rfl ?_
 simp only[H9,List.map,List.cons_append,List.nil_append]
 refine Ab (Bi ?_)
 simp (disch:=first|decide|omega) only[Jf,Jg,Jn,Ju,Jv,J0,J1,Br,Ah,Am,Ca,true_and,F.hIs]
 refine Af F.hIs rfl ?_
 simp (disch:=first|decide|omega) only[Jf,Jl,Jo,Jp,Ju,Jv,Jy,J0,J1,List.map,D1,D2,Ah,Am,Ls,Acv hL hl]
 refine Ac fun s H₁ e1 _ v1=>?_
 refine Aa fun nY=>?_
 obtain⟨d,rs,w1,w2,w3⟩:=hW.ext e1
 refine nY ?_;clear nY
 (try dsimp only)
 simp (disch:=(first|lia|omega)) only[Hh w1 w2 (show Kt [(C9.many,V.int m),(C9.rows,V.ref rs)] .many=some (.int m)from rfl),Jbq]
 refine Ac fun s2 H₂ e2 _ v2=>?_
 rw[Int.toNat_natCast,Le]at v2
 (try dsimp only)
 (refine S0 (l:=Bf o) (l':=Aw m) (e2 _ _ v1) v2 ?_;rw[decide_eq_false (show ¬Bf o=Aw m from hb)])
 (try dsimp only);(try simp (disch:=first|decide|omega) only[Br])
 simp only[Bool.not_false,if_true,Tf]
 exact⟨F.xs.bad,fun a ha=>q H₂ a (e1.trans e2) ha⟩
theorem Ae3{o:O}(h:H a=none):Tb (upd H a o) a=H:=funext fun x=>by
 unfold Tb upd
 split
 ·rename_i z;rw[z,h]
 ·rfl
theorem M9{c c':Cn}{k:Bool}:Dp c (.ref a) (upd H a (.exc c' k))=some (c'==c||c == .webError):=Ot Ad
theorem Zk(F:Rz G)(hm:m<=60)(hW:Bw H w m A)(hL:LI H r o)(hl:o.length<64)(hb:¬A0 m o)(q:∀H',Ag H H'->Q (.bool true) H'):Ae G (n+4) "_law_refused" [.ref w,.ref r,.int p] H Q E:=by
 have F2:=F.f3.fns2
 refine Af F.refused rfl ?_
 simp only[Gk,List.map,List.cons_append,List.nil_append]
 (refine Ab ?_;rw[Z0])
 refine⟨F.xs.bad,?_⟩
 simp (disch:=first|decide|omega) only[Jd,Jf,Jn,Ju,Jv,Jx,Jy,J0,J1,Ah,Am,Ca,true_and,F2.gap]
 refine Ahf F2 F.xs hm hW hL hl hb fun H₁ x e1 nx=>⟨Ad,?_⟩
 rw[Ae3 nx,Z1]
 refine⟨F.xs.bad,F.xs.point,?_⟩
 simp (disch:=first|decide|omega) only[Jd,Jf,Jn,Ju,Jv,Jx,Jy,J0,J1,Ah,Am,Ca,true_and,F.hBehind]
 refine Zj F hm (hW.ext e1) (hL.ext e1) hl hb fun H₂ y e2 ny=>?_
 rw[M9]
 exact q _ ((e1.trans e2).trans (Ag.upd ny))
theorem Zl(F:Rz G)(hm:m<=60)(hW:Bw H w m A)(hL:LI H r o)(ho:A0 m o)(hp:p<0\/(m:Int)<=p)(q:∀H',Ag H H'->Q (.bool true) H'):Ae G (n+5) "_law_no_point" [.ref w,.ref r,.int p] H Q E:=by
 refine Af F.noPoint rfl ?_
 simp only[Fm,List.map,List.cons_append,List.nil_append]
 (refine Ab ?_;rw[Vb])
 refine⟨F.xs.point,?_⟩
 simp (disch:=first|decide|omega) only[Jd,Jf,Jn,Ju,Jv,Jx,Jy,J0,J1,Ah,Am,Ca,true_and,F.behind]
 refine P3 F hm hW hL ho hp fun H₁ x e1 nx=>?_
 rw[M9]
 exact q _ (e1.trans (Ag.upd nx))
theorem U1(F:Rz G)(hm:m<=60)(hW:Bw H w m A)(hL:LI H r o)(hl:o.length<64)(hb:¬A0 m o\/(p<0\/(m:Int)<=p))(q:∀H',Ag H H'->Q (.bool true) H'):Ae G (n+5) "_law_by_base" [.ref w,.ref r,.int p] H Q E:=by
 refine Af F.byBase rfl ?_
 simp only[Gi,List.map,List.replicate,List.cons_append,List.nil_append]
 (refine Ab ?_;rw[Vb])
 refine⟨F.xs.web,?_⟩
 simp (disch:=first|decide|omega) only[Jd,Jf,Ji,Jl,Jn,Ju,Jv,Jx,Jy,J0,J1,Ah,Am,Ca,true_and,F.behind]
 have key:∀(c:Cn) (H':AH) (a:Nat),Ag H H'->H' a=none->(c = .badOrder\/c = .noPoint)->
  A1 G (Ae G (n+4)) [.ite (.or (.isown .badWeb (.var 3)) (.or (.isown .badText (.var 3)) (.isown .hasGap (.var 3)))) [.ret (.cbool false)] [],.ret (.and (.isVE (.var 3)) (.cmp .NotEq (.isown .badOrder (.var 3)) (.isown .noPoint (.var 3))))]
   [some (.ref w),some (.ref r),some (.int p),some (.ref a)] (upd H' a (.exc c)) (fun ρ H=>A1 G (Ae G (n+4)) [.ret (.cbool false)] (Xx (some 3) ρ) H (fun _ H=>Q .none H) Q E) Q EF:=by
  intro c H' a e ha hc
  have hq:=q _ (e.trans (Ag.upd (o:= .exc c) ha))
  rcases hc with rfl|rfl
  all_goals
   refine Ab ?_
   refine Bg false (fun Q' h'=>?_) ?_
   ·simp (disch:=first|decide|omega) only[Jf,Jj,Br,Ah,Am,true_and,Sc,F.xs.badWeb,F.xs.text,F.xs.gap,M9]
    exact h'
   rw[if_neg Bool.false_ne_true,J0,J1]
   simp (disch:=first|decide|omega) only[Jd,Jf,Ji,Jl,Jy,J0,J1,Jbf,Br,Ah,Am,true_and,Z2,Sc,F.xs.bad,F.xs.point,M9]
   exact hq
 by_cases ho:A0 m o
 ·refine P3 F hm hW hL ho (hb.resolve_left fun z=>z ho) fun H₁ x e1 nx=>?_
  rw[M9]
  exact key .noPoint H₁ x e1 nx (.inr rfl)
 ·refine Zi F hm hW hL hl ho fun H₁ x e1 nx=>?_
  rw[M9]
  exact key .badOrder H₁ x e1 nx (.inl rfl)
set_option linter.all false
variable {G:A5} {n:Nat} {H H' H₁ H₂:AH} {Q:Ak} {E:EP} {C:CS} {ρ:Al} {w m r nr od a b hd:Nat} {A:Nat->Nat->Bool} {o l l':List Int} {k p far:Int} {N:Al->AH->Prop} {R:Ak}
theorem Acw(F:Rz G)(hm:m<=60)(hN:Dr H nr m A)(hL:LI H r o)(ho:A0 m o)
 (q:∀H',Ag H H'->match gp A o with|none=>Q .none H'|some (p,x,y)=>∀a,H' a=none->Q (.ref a) (upd H' a (.tuple [.int p,.int x,.int y]))):Ae G (n+2) "_law_gap" [.ref nr,.ref r] H Q E:=by
 have hol:=ho.len
 refine Af F.lGap rfl ?_
 simp (disch:=first|decide|omega) only[Jb,Jy,J0,J1,List.map,D1,D2,List.replicate,Q2]
 refine frK ?_
 simp (disch:=first|decide|omega) only[Jf,Jo,Ju,Jv,Ah,Am,B9 hL]
 refine M5 (Int.natCast_nonneg _) (by rw[List.length_map];exact(Int.ofNat_le.mpr (Nat.le_trans (Nat.le_of_eq hol) (Nat.le_trans hm (by decide))))) ?_
 refine Kr (fun i r2 r3=>[some (.ref nr),some (.ref r),r2,r3]) (fun i r2 r3 H₁=>Ag H H₁/\gp A o=(o.drop i).findSome? fun p=>(fu A (bh A o p)).map fun q=>(p,q.1,q.2)) _ _ rfl ⟨Ag.refl,by rw[List.drop_zero];rfl⟩ ?_ ?_
 ·rintro i r2 r3 H₁ K hi ⟨e,hf⟩ hK
  have hi':i<o.length:=by simpa using hi
  have hx:=List.getElem?_eq_getElem hi'
  generalize o[i]=x at hx
  rw[Ci hx,List.findSome?_cons]at hf
  simp only[Lr,List.set_cons_succ,List.set_cons_zero]
  refine C0 (fun v3=>[some (.ref nr),some (.ref r),some (.int (i:Int)),some v3]) (fun v3 H₂=>Ag H H₂/\match fu A (bh A o x)with|none=>v3 = .none|some (y,z)=>∃t,v3 = .ref t/\H₂ t=some (.tuple [.int y,.int z])) (fun N hN'=>?_) ?_
  ·simp (disch:=first|decide|omega) only[Jf,Jn,Ju,Jv,Jw,Ah,Am,Bt,Bu,Ca,true_and,F.untied,F.lBehind]
   refine Nz F.lBehind hm (hN.ext e) (hL.ext e) ho hx fun s H₂ e2 _ hL2=>?_
   have hbl:(bh A o x).length<=o.length-1:=P0
   refine Uv F.untied (hN.ext (e.trans e2)) hL2 (Ail hm hol hbl) (fun y hy=>ho.mem.mp (S4 hy)) fun H₃ e3=>?_
   have e':=(e.trans e2).trans e3
   cases hfu:fu A (bh A o x)with
   | none=>
     refine hN' _ _ ⟨e',?_⟩
     rw[hfu]
   | some pr=>
     obtain⟨y,z⟩:=pr
     intro t ht
     refine hN' _ _ ⟨e'.trans (Ag.upd ht),?_⟩
     rw[hfu]
     exact⟨t,rfl,Ad⟩
  rintro v3 H₂ ⟨e2,h3⟩
  refine Ab (Bi ?_)
  cases hfu:fu A (bh A o x)with
  | none=>
    rw[hfu]at h3 hf
    simp only at h3
    subst h3
    simp (disch:=first|decide|omega) only[Jb,Je,Jf,Jl,Jq,Jt,Ju,Jv,Jy,J0,J1,Jbi,Br,Ah,Am]
    simp only[Bool.false_eq_true,if_false]
    exact hK _ _ _ ⟨e2,hf⟩
  | some pr=>
    refine Aa fun nY=>?_
    obtain⟨y,z⟩:=pr
    rw[hfu]at h3 hf
    obtain⟨t,rfl,ht⟩:=h3
    refine nY ?_;clear nY
    simp (disch:=first|decide|omega) only[Jb,Je,Jf,Jl,Jq,Jt,Ju,Jv,Jy,J0,J1,Jbj,Br,Ah,Am]
    simp only[if_true]
    simp (disch:=first|decide|omega) only[Bj (hL.ext e2) (Int.natCast_nonneg i) (LI.sub (a:=r) hx),Im (x:= .int y) (k:=0) ht (by decide) rfl,Im (x:= .int z) (k:=1) ht (by decide) rfl]
    have hq:=q H₂ e2
    simp only[Option.map_some]at hf
    rw[hf]at hq
    exact hq
 ·rintro r2 r3 H₁ ⟨e,hf⟩
  have hd:(o.drop ((↑(o.map V.int).length:Int).toNat)) = []:=List.drop_of_length_le (by simp)
  rw[hd,List.findSome?_nil]at hf
  have hq:=q H₁ e
  rw[hf]at hq
  exact hq
theorem Ae4{xs:List V}(h:H a=some (.tuple xs)):Cj .list [.ref a] H Q=Ao (.list xs) H Q:=by
 delta Cj;dsimp only;delta Hx;dsimp only[Mt,Ax];rw[h]
theorem U2{xs:List V}(h:H a=some (.tuple xs))(kk:Ao (.list xs) H Q):Cj .list [.ref a] H Q:=Eq.mpr (Ae4 h) kk
noncomputable def GpR(H:AH)(v:V)(t:Option (Int×Int×Int)):Prop:=match t with
 | none=>v = .none
 | some (x,y,z)=>∃a,v = .ref a/\H a=some (.tuple [.int x,.int y,.int z])
theorem GpR.ext{v:V}{t:Option (Int×Int×Int)}(h:GpR H v t)(e:Ag H H'):GpR H' v t:=by
 refine Aa fun nY=>?_
 cases t with
 | none=>(refine nY ?_;clear nY;exact h)
 | some t=>(refine nY ?_;clear nY;obtain⟨a,h1,h2⟩:=h;exact⟨a,h1,e _ _ h2⟩)
theorem gpq{t:Option (Int×Int×Int)}:(∀v H',Ag H H'->GpR H' v t->Q v H')->∀H',Ag H H'->match t with|none=>Q .none H'|some (p,x,y)=>∀a,H' a=none->Q (.ref a) (upd H' a (.tuple [.int p,.int x,.int y])):=fun q H' e=>by
 cases t with
 | none=>exact q _ H' e rfl
 | some t=>exact fun a ha=>q _ _ (e.trans (Ag.upd ha)) ⟨a,rfl,Ad⟩
theorem Ahj(F:Lf G)(hm:m<=60)(hW:Bw H w m A)(hL:LI H r o)(ho:A0 m o)(q:∀v H',Ag H H'->GpR H' v (gp A o)->Q v H'):Ae G (n+4) "gap" [.ref w,.ref r] H Q E:=Afs F hm hW hL ho (gpq q)
theorem Zm(F:Rz G)(hm:m<=60)(hN:Dr H nr m A)(hL:LI H r o)(ho:A0 m o)(q:∀v H',Ag H H'->GpR H' v (gp A o)->Q v H'):Ae G (n+2) "_law_gap" [.ref nr,.ref r] H Q E:=Acw F hm hN hL ho (gpq q)
theorem Zn(F:Rz G){v u:V}{t:Option (Int×Int×Int)}(h1:GpR H v t)(h2:GpR H u t)(q:∀H',Ag H H'->Q (.bool true) H'):Ae G (n+3) "_law_gap_told" [v,u] H Q E:=by
 refine Af F.gapTold rfl ?_
 simp only[H8,List.map,List.cons_append,List.nil_append]
 refine Ab (Bi ?_)
 refine Aa fun nY=>?_
 cases t with
 | none=>
   cases h1
   cases h2
   refine nY ?_;clear nY
   simp (disch:=first|decide|omega) only[Jb,Jf,Ji,Jl,Jn,Jo,Ju,Jv,Jy,J0,J1,Jbg,Br,Ah,Am]
   simp only[if_true]
   (try dsimp only)
   exact q H Ag.refl
 | some t=>
   obtain⟨a,rfl,ha⟩:=h1
   obtain⟨b,rfl,hb⟩:=h2
   refine nY ?_;clear nY
   simp (disch:=first|decide|omega) only[Jb,Jf,Ji,Jl,Jn,Jo,Ju,Jv,Jy,J0,J1,Jbh,Br,Ah,Am]
   simp only[Bool.false_eq_true,if_false]
   simp (disch:=first|decide|omega) only[Br,Ca,true_and,Y4 ha,F.numbers]
   simp only[if_true]
   try simp (disch:=first|decide|omega) only[Jb,Jc,Jd,Je,Jf,Jg,Jh,Ji,Jj,Jk,Jl,Jm,Jn,Jo,Jp,Jq,Jr,Js,Jt,Ju,Jv,Jw,Jx,Jy,Jz,J0,J1,J2,J3,J4,J5,J6,J7,J8,J9,Yv,Jbb,Ok,Jbd,Jbe,Jbf,Jbg,Jbh,Jbi,Jbj,Br,Jbl,Jbm,Jbn,Qk,Jbp,Jbq,Jbr,List.map,D1,D2,Ah,Am,List.replicate,Bt,Bu,Ca,true_and,F.numbers]
   refine U2 ha ?_
   refine Ac fun s H₁ e1 n1 v1=>?_
   (try dsimp only)
   refine U2 (e1 _ _ hb) ?_
   refine Ac fun s2 H₂ e2 n2 v2=>?_
   exact Rs F.whole F.numbers (l:=[t.1,t.2.1,t.2.2]) (e2 _ _ v1) v2 (show 3<=4000 by decide) (q H₂ (e1.trans e2))
/-! the list that is Aaw in,filled anew -/
theorem Wp{y i j:Nat}{xs:List V}{rest:List S}(hi:ρ[i]? = some (some (.ref hd)))(hj:ρ[j]? = some (some (.ref y)))(hh:H hd=some (.list xs))(hl:LI H y l)(hy:y≠hd)(hll:l.length<=61)
 (q:∀H',Ag (del H hd) H'->LI H' hd l->A1 G C rest ρ H' N R E):A1 G C (.expr (.lm .clear (.var i) []) :: .expr (.lm .extend (.var i) [.var j])::rest) ρ H N R E:=by
 (refine Ab (Wx (Aff (Vc ?_)));rw[hi])
 dsimp only
 rw[Bp hh (by decide),Ju,Aeo hh]
 refine⟨trivial,?_⟩
 have hc4:upd H hd (.list []) hd=some (.list []):=Ad
 have hl4:LI (upd H hd (.list [])) y l:=hl.upd_ne hy
 have e4:Ag (del H hd) (upd H hd (.list [])):=S2.upd' Mj
 generalize upd H hd (.list [])=H₄ at *
 (refine Ab (Wx (Aff (Vc ?_)));rw[hi])
 dsimp only
 rw[Bp hc4 (by decide),Jv,Jf,hj]
 dsimp only
 rw[Ju,Acc hc4 hl4 (Ne.symm hy) (by simp;exact(Nat.le_trans hll (by decide))),List.nil_append]
 exact⟨trivial,q _ (e4.upd' Mj) Ad⟩
theorem A0.of_perm(ho:A0 m o)(h:l.Perm o):A0 m l:=Mn (h.nodup_iff.mpr ho.nodup) fun x=>h.mem_iff.trans ho.mem
noncomputable def P4(H:AH)(m hd:Nat)(rs:List Nat):Prop:=∀x∈rs,x≠hd/\∃l:List Int,LI H x l/\A0 m l
theorem P4.ext{rs:List Nat}(h:P4 H m hd rs)(e:Ag H H'):P4 H' m hd rs:=fun x hx=>by
 obtain⟨h0,l,h1,h2⟩:=h x hx
 exact⟨h0,l,h1.ext e,h2⟩
theorem Alc{x:Nat}{p:Nat->Prop}{x1 x2 x3 x4:Nat}(h1:p x1)(h2:p x2)(h3:p x3)(h4:p x4)(hx:x∈[x1,x2,x3,x4]):p x:=by
 refine Aa fun nY=>?_
 rcases List.mem_cons.mp hx with rfl|hx
 ·refine nY ?_;clear nY
  exact h1
 rcases List.mem_cons.mp hx with rfl|hx
 ·refine nY ?_;clear nY
  exact h2
 rcases List.mem_cons.mp hx with rfl|hx
 ·refine nY ?_;clear nY
  exact h3
 refine nY ?_;clear nY
 rw[List.mem_singleton.mp hx];exact h4
theorem Afu(F:Rz G){x:X}{xs:List V}(h2:ρ[2]? = some (some (.ref od)))(hx:∀Q':Ak,Q' (.int k) H->Aq G (Ae G (n+1)) x ρ H Q' E)(vo:LI H od o)(hm:m<=60)(ho:A0 m o)(hh:H hd=some (.list xs))(hne:od≠hd)
 (q:∀lr rs H',Ag H H'->H lr=none->H' lr=some (.list (rs.map V.ref))->rs.length=4->P4 H' m hd rs->Q (.ref lr) H') :
 Aq G (Ae G (n+1)) (.list [(.var 2),(.call "_law_within" [(.var 2),x]),(.bin .Add (.slice (.var 2) .omit (.cint 1) .omit) (.slice (.var 2) .omit (.cint 0) (.neg (.cint 1)))),(.var 2)]) ρ H Q E:=by
 have hol:=ho.len
 have new:∀ {H₁:AH} {y:Nat},Ag H H₁->H₁ y=none->y≠hd:=fun e z w=>by rw[w,e _ _ hh]at z;cases z
 simp only[Js,Jv,Ju,Jf,h2,Jn,Jk,Jr,Jc,Je,Jh]
 refine⟨by rw[F.within];rfl,hx _ ?_⟩
 refine Acu F.within vo (Nat.le_trans (Nat.le_of_eq hol) hm) fun wi lw H₇ e7 n7 v7 hlw=>?_
 (try dsimp only)
 refine Xr (vo.ext e7) (by decide) fun a1 H₈ e8 n8 v8=>?_
 (try dsimp only)
 refine Ae2 ((vo.ext e7).ext e8) ?_
 refine Ac fun a2 H₉ e9 n9 v9=>?_
 (try dsimp only)
 have v9':LI H₉ a2 (o.drop 1).reverse:=by unfold LI;rw[v9,<-List.map_drop,List.map_reverse]
 refine Ry (v8.ext e9) v9' (by simp;exact(Nat.le_trans (Nat.add_le_add (Nat.min_le_left _ _) (Nat.le_trans (Nat.sub_le _ _) (Nat.le_trans (Nat.le_of_eq hol) hm))) (by decide))) fun a3 H₁₀ e10 n10 v10=>?_
 (try dsimp only)
 have e79:=(e7.trans e8).trans e9
 have e69:=e79.trans e10
 refine Ac fun lr H₁₁ e11 n11 v11=>q lr [od,wi,a3,od] H₁₁ (e69.trans e11) (e69.isNone n11) v11 rfl fun x hx=>?_
 have e611:=e69.trans e11
 refine Alc (p:=fun x=>x≠hd/\∃l:List Int,LI H₁₁ x l/\A0 m l) ⟨hne,o,vo.ext e611,ho⟩ ⟨new Ag.refl n7,lw,v7.ext (((e8.trans e9).trans e10).trans e11),ho.of_perm hlw⟩ ⟨new e79 n10,_,v10.ext e11,ho.of_perm ?_⟩ ⟨hne,o,vo.ext e611,ho⟩ hx
 refine((List.reverse_perm _).append_left _).trans ?_
 rw[show (1:Int).toNat=1 from rfl,List.take_append_drop]
/-! is_order told -/
theorem P5{g:AH->Prop}{i j:Nat}{body:Al->AH->(Al->AH->Prop)->Prop}{x y:V}{its:List It}(hg:g H)(ht:H a=some (.tuple [x,y]))(h:body ((ρ.set i (some x)).set j (some y)) H fun ρ' H'=>loop g (.two i j) body N its ρ' H'):loop g (.two i j) body N (.v (.ref a)::its) ρ H:=by
 refine⟨hg,?_⟩
 show (match H a with|some (.tuple [x,y])=>_|_=>False)
 rw[ht];exact h
theorem P6(F:Rz G){y wr:Nat}{xs:List V}{t:Bool}{r6:Option V}{K:Al->AH->Prop}(hm:m<=60)(hW:Bw (del H hd) w m A)(hh:H hd=some (.list xs))(hl:LI H y l)(hy:y≠hd)(hll:l.length<=61)(ht:decide (Bf l=Aw m)=t)
 (hK:∀r6 H',Ag (del H hd) H'->LI H' hd l->K [some (.ref w),some (.ref od),some (.ref wr),some (.ref hd),some (.ref y),some (.bool t),r6] H') :
 A1 G (Ae G (n+1)) D6 [some (.ref w),some (.ref od),some (.ref wr),some (.ref hd),some (.ref y),some (.bool t),r6] H K R E:=by
 have F2:=F.f3.fns2
 refine Wp rfl rfl hh hl hy hll fun H₁ e1 hc=>?_
 refine Ef ([some (.ref w),some (.ref od),some (.ref wr),some (.ref hd),some (.ref y),some (.bool t),some (.bool t)]) (fun H₂=>Ag H₁ H₂) (fun N hN=>?_) ?_
 ·simp (disch:=first|decide|omega) only[Jf,Jn,Ju,Jv,Jw,Ah,Am,Bt,Bu,Ca,true_and,F2.isOrder]
  refine I4 F2 hm (hW.ext e1) hc (Nat.lt_of_le_of_lt hll (by decide)) fun H₂ e2=>?_
  rw[ht]
  exact hN _ e2
 rintro H₂ e2
 have e3:=e1.trans e2
 refine Ab ?_
 refine Bg false (fun Q' h'=>?_) ?_
 ·simp (disch:=first|decide|omega) only[Jf,Jg,Jj,Jl,Jo,Ju,Jv,Jbf,Br,Ah,Am,Uu]
  simp only[Bool.not_true,Bool.false_eq_true,if_false]
  rw[beq_self_eq_true]
  simp only[Bool.not_true,Bool.false_eq_true,if_false]
  (refine Wi (hc.ext e2) ((hl.del hy).ext e3) ?_;rw[decide_eq_true rfl])
  exact h'
 rw[if_neg Bool.false_ne_true,J0,J0]
 exact hK _ H₂ e3 (hc.ext e2)
theorem S9(F:Rz G){wr:Nat}{lw:List Int}(hm:m<=60)(hW:Bw H w m A)(ho:LI H od o)(hio:A0 m o)(hw:LI H wr lw)(hwl:lw.length<=61)(hb:¬A0 m lw)(q:∀H',Ag H H'->Q (.bool true) H') :
 Ae G (n+2) "_law_orders_told" [.ref w,.ref od,.ref wr] H Q E:=by
 have hol:=hio.len
 refine Af F.ordersTold rfl ?_
 simp only[Fk,List.map,List.replicate,List.cons_append,List.nil_append]
 refine C0 (fun hd=>[some (.ref w),some (.ref od),some (.ref wr),some (.ref hd),none,none,none]) (fun hd H₁=>D3 (Ag H H₁) (H hd=none) (H₁ hd=some (.list []))) (fun N hN=>?_) ?_
 ·simp (disch:=first|decide|omega) only[Js,Ju,Jw,Bt,Bu]
  exact Ac fun hd H₁ e1 n1 v1=>hN hd _ ⟨e1,n1,v1⟩
 rintro hd H₁ hP64
 refine Aa fun nY=>?_
 obtain⟨e1,nhd,vhd⟩:=hP64
 have hoh:od≠hd:=ho.ne_none nhd
 have hwh:wr≠hd:=hw.ne_none nhd
 refine nY ?_;clear nY
 refine Ab (Qz ?_)
 simp (disch:=first|decide|omega) only[Jd,Jf,Js,Jt,Ju,Jv,Jy,J0,J1,Ah,Am]
 refine Ac fun t1 H₂ e2 n2 v2=>?_
 (try dsimp only)
 refine Ac fun t2 H₃ e3 n3 v3=>?_
 (try dsimp only)
 refine Ac fun t3 H₄ e4 n4 v4=>?_
 (try dsimp only)
 refine Ac fun lr H₅ e5 n5 v5=>?_
 (try dsimp only)
 refine Az v5 ?_
 have e25:=e2.trans ((e3.trans e4).trans e5)
 have eH:=e1.trans e25
 have hne:∀ {H':AH} {x:Nat},Ag H₁ H'->H' x=none->x≠hd:=fun e z w=>by rw[w,e _ _ vhd]at z;cases z
 have at':∀ {x:Nat} {ob:O},H₅ x=some ob->x≠hd->del H₅ hd x=some ob:=fun h z=>by unfold del;rw[if_neg z];exact h
 have x1:=at' ((e3.trans e4).trans e5 _ _ v2) (hne Ag.refl n2)
 have x2:=at' ((e4.trans e5) _ _ v3) (hne e2 n3)
 have x3:=at' (e5 _ _ v4) (hne (e2.trans e3) n4)
 have x5:=at' v5 (hne ((e2.trans e3).trans e4) n5)
 have hW':Bw (del H₅ hd) w m A:=hW.ext (Ep eH nhd)
 have ho':LI (del H₅ hd) od o:=ho.ext (Ep eH nhd)
 have hw':LI (del H₅ hd) wr lw:=hw.ext (Ep eH nhd)
 have eD:Ag H (del H₅ hd):=Ep eH nhd
 have hD:del H₅ hd hd=none:=Mj
 have h5:=e25 _ _ vhd
 have e55:Ag (del H₅ hd) H₅:=S2
 generalize del H₅ hd=D at *
 clear v2 v3 v4 v5 e2 e3 e4 e5 n2 n3 n4 n5 e25 eH
 have step:∀ {H':AH},Ag D H'->Ag D (del H' hd):=fun e=>Ep e hD
 refine P5 (e55 _ _ x5) (e55 _ _ x1) ?_
 simp only[List.set_cons_succ,List.set_cons_zero]
 refine P6 F hm (hW'.ext (step e55)) h5 (hw'.ext e55) hwh hwl (decide_eq_false hb) fun r6 H₆ e6 h6=>?_
 have d6:=(step e55).trans e6
 refine P5 (d6 _ _ x5) (d6 _ _ x2) ?_
 simp only[List.set_cons_succ,List.set_cons_zero]
 refine P6 F hm (hW'.ext (step d6)) h6 (ho'.ext d6) hoh (Af5 hm hol) (decide_eq_true hio) fun r6 H₇ e7 h7=>?_
 have d7:=(step d6).trans e7
 refine P5 (d7 _ _ x5) (d7 _ _ x3) ?_
 simp only[List.set_cons_succ,List.set_cons_zero]
 refine P6 F hm (hW'.ext (step d7)) h7 (hw'.ext d7) hwh hwl (decide_eq_false hb) fun r6 H₈ e8 h8=>?_
 have d8:=(step d7).trans e8
 refine⟨d8 _ _ x5,?_⟩
 try simp (disch:=first|decide|omega) only
 exact q H₈ (eD.trans d8)
/-! gap told -/
theorem N0(F:Rz G)(hm:m<=60)(hW:Bw H w m A)(hN:Dr H nr m A)(vo:LI H od o)(ho:A0 m o)(q:∀H',Ag H H'->Q (.bool true) H'):Ae G (n+5) "_law_gaps_right" [.ref w,.ref nr,.ref od,.int k] H Q E:=by
 have F2:=F.f3.fns2
 refine Af F.gapsRight rfl ?_
 simp only[Gj,List.map,List.replicate,List.cons_append,List.nil_append]
 refine C0 (fun hd=>[some (.ref w),some (.ref nr),some (.ref od),some (.int k),some (.ref hd),none]) (fun hd H₁=>D3 (Ag H H₁) (H hd=none) (H₁ hd=some (.list []))) (fun N hN=>?_) ?_
 ·simp (disch:=first|decide|omega) only[Js,Ju,Jw,Bt,Bu]
  exact Ac fun hd H₁ e1 n1 v1=>hN hd _ ⟨e1,n1,v1⟩
 rintro hd H₁ hP65
 refine Aa fun nY=>?_
 obtain⟨e1,nhd,vhd⟩:=hP65
 refine nY ?_;clear nY
 refine Ab (Qz ?_)
 refine Afu (n:=n+3) (k:=k) F rfl (fun Q' h=>h) (vo.ext e1) hm ho vhd (vo.ne_none nhd) fun lr rs H₂ e2 nlr vlr _ hok=>?_
 refine Az vlr ?_
 have hlr:lr≠hd:=fun z=>by rw[z,vhd]at nlr;cases nlr
 have eD:Ag H (del H₂ hd):=Ep (e1.trans e2) nhd
 have hD:del H₂ hd hd=none:=Mj
 have lD:del H₂ hd lr=some (.list (rs.map V.ref)):=by unfold del;rw[if_neg hlr];exact vlr
 have oD:P4 (del H₂ hd) m hd rs:=fun x hx=>by
  refine Aa fun nY=>?_
  obtain⟨h0,l,h1,h2⟩:=hok x hx
  refine nY ?_;clear nY
  exact⟨h0,l,h1.del h0,h2⟩
 have h2:=e2 _ _ vhd
 have e22:Ag (del H₂ hd) H₂:=S2
 generalize del H₂ hd=D at *
 refine Ev (fun i ρ H₃=>(Ka fun(xs:List V) (r5:Option V)=>D3 (ρ = [some (.ref w),some (.ref nr),some (.ref od),some (.int k),some (.ref hd),r5]) (Ag D H₃) (H₃ hd=some (.list xs)))) ⟨_,_,rfl,e22,h2⟩ ?_ ?_ ?_
 ·rintro i ρ H₃ ⟨xs,r5,_,e3,_⟩;exact e3 _ _ lD
 rotate_left
 ·rintro ρ H₃ hP66
  refine Aa fun nY=>?_
  obtain⟨xs,r5,rfl,e3,_⟩:=hP66
  refine nY ?_;clear nY
  try simp (disch:=first|decide|omega) only[Jd,Jy,J0,J1]
  exact q H₃ (eD.trans e3)
 rintro i v ρ H₃ K hv hP67 hK
 refine Aa fun nY=>?_
 obtain⟨xs,r5,rfl,e3,h3⟩:=hP67
 rw[List.getElem?_map]at hv
 obtain⟨y,hy,rfl⟩:=Option.map_eq_some_iff.mp hv
 obtain⟨hyh,l,hl,hio⟩:=oD y (List.mem_of_getElem? hy)
 have hll:=hio.len
 refine nY ?_;clear nY
 simp only[List.set_cons_succ,List.set_cons_zero]
 refine Wp rfl rfl h3 (hl.ext e3) hyh (Af5 hm hll) fun H₄ e4 hc=>?_
 have d4:Ag D H₄:=(Ep e3 hD).trans e4
 refine Ab (Bi ?_)
 simp (disch:=first|decide|omega) only[Jd,Jf,Jg,Jj,Jl,Jn,Ju,Jv,Jy,J0,J1,Br,Ah,Am,Ca,true_and,F2.gap,F.lGap,F.gapTold]
 refine Ahj F2 hm (hW.ext (eD.trans d4)) hc hio fun v H₅ e5 g5=>?_
 (try dsimp only)
 refine Zm F hm (hN.ext (eD.trans (d4.trans e5))) (hl.ext (d4.trans e5)) hio fun u H₆ e6 g6=>?_
 (try dsimp only)
 refine Zn F (g5.ext e6) g6 fun H₇ e7=>?_
 have d47:=e5.trans (e6.trans e7)
 have d7:=d4.trans d47
 (try dsimp only);(try simp (disch:=first|decide|omega) only[Br])
 simp only[Bool.not_true,Bool.false_eq_true,if_false]
 (refine Wi (hc.ext d47) (hl.ext d7) ?_;rw[decide_eq_true rfl])
 (try dsimp only);(try simp (disch:=first|decide|omega) only[Br])
 simp only[Bool.not_true,Bool.false_eq_true,if_false]
 exact hK _ _ ⟨_,_,rfl,d7,hc.ext d47⟩
set_option linter.all false
variable {G:A5} {n:Nat} {H H' H₁ H₂:AH} {Q:Ak} {E:EP} {C:CS} {ρ:Al} {w m r nr od a b hd kp:Nat} {A:Nat->Nat->Bool} {o l l':List Int} {k p far:Int} {N:Al->AH->Prop} {R:Ak}
noncomputable def I9(H:AH)(p q:Nat):AH:=fun z=>if z=p\/z=q then none else H z
theorem U3{p q:Nat}:Ag (I9 H p q) H:=fun z o e=>by
 unfold I9 at e
 split at e
 ·cases e
 ·exact e
theorem I5{p q z:Nat}{o:O}(h:H z=some o)(h1:z≠p)(h2:z≠q):I9 H p q z=some o:=by
 unfold I9;rw[if_neg fun w=>w.elim h1 h2];exact h
theorem Xu{p q:Nat}(e:Ag H H')(hp:H p=none)(hq:H q=none):Ag H (I9 H' p q):=fun z o h=>I5 (e _ _ h) (fun w=>by rw[w,hp]at h;cases h) fun w=>by rw[w,hq]at h;cases h
theorem Acx{p q:Nat}:I9 H p q p=none:=by unfold I9;rw[if_pos (.inl rfl)]
theorem Wq{p q:Nat}:I9 H p q q=none:=by unfold I9;rw[if_pos (.inr rfl)]
structure Kp(D H:AH)(hd kp:Nat)(ts:List Nat):Prop where
 ext:Ag D H
 nh:D hd=none
 nk:D kp=none
 hd:∃xs,H hd=some (.list xs)
 kp:H kp=some (.list (ts.map V.ref))
 all:∀t∈ts,(U8 fun(a c:Nat) (l:List Int)=>D3 (D t=some (.tuple [.ref a,.ref c])) (LI D a l) (LI D c l))
theorem Ae5(F:Rz G){D:AH}{y:Nat}{ts:List Nat}{r7:Option V}{K:Al->AH->Prop}(hm:m<=60)(hW:Bw D w m A)(hN:Dr D nr m A)(hl:LI D y l)(hio:A0 m l)(hp:p∈l)(hhk:hd≠kp)(s:Kp D H hd kp ts)(htl:ts.length<=60)
 (hK:∀D' t r7 H',Ag D D'->Kp D' H' hd kp (ts ++ [t])->K [some (.ref w),some (.ref nr),some (.ref od),some (.int p),some (.ref hd),some (.ref kp),some (.ref y),r7] H') :
 A1 G (Ae G (n+4)) D7 [some (.ref w),some (.ref nr),some (.ref od),some (.int p),some (.ref hd),some (.ref kp),some (.ref y),r7] H K R E:=by
 have hll:=hio.len
 obtain⟨xs,hh⟩:=s.hd
 have hyh:y≠hd:=hl.ne_none s.nh
 have hyk:y≠kp:=hl.ne_none s.nk
 have hki:=List.getElem?_eq_getElem (List.idxOf_lt_length_of_mem hp)
 rw[List.getElem_idxOf]at hki
 refine Wp rfl rfl hh (hl.ext s.ext) hyh (Af5 hm hll) fun H₁ e1 hc=>?_
 have d1:Ag D H₁:=(Ep s.ext s.nh).trans e1
 have k1:H₁ kp=some (.list (ts.map V.ref)):=e1 _ _ (by unfold del;rw[if_neg (Ne.symm hhk)];exact s.kp)
 refine C0 (fun a=>[some (.ref w),some (.ref nr),some (.ref od),some (.int p),some (.ref hd),some (.ref kp),some (.ref y),some (.ref a)]) (fun a H₂=>D3 (Ag H₁ H₂) (H₁ a=none) (LI H₂ a (bh A l p))) (fun N hN=>?_) ?_
 ·simp (disch:=first|decide|omega) only[Jf,Jn,Ju,Jv,Jw,Ah,Am,Bt,Bu,Ca,true_and,F.behind]
  exact Wo F hm (hW.ext d1) hc hio hp fun a H₂ e2 n2 v2=>hN a _ ⟨e2,n2,v2⟩
 rintro a H₂ hP68
 refine Aa fun nY=>?_
 obtain⟨e2,na,va⟩:=hP68
 have hbl:(bh A l p).length<=l.length-1:=P0
 have hah:a≠hd:=Ne.symm (hc.ne_none na)
 have hak:a≠kp:=fun z=>by rw[z,k1]at na;cases na
 have d2:=d1.trans e2
 refine nY ?_;clear nY
 refine Ef ([some (.ref w),some (.ref nr),some (.ref od),some (.int p),some (.ref hd),some (.ref kp),some (.ref y),some (.ref a)]) (fun H₃=>Ag H₂ H₃) (fun N hN'=>?_) ?_
 ·refine Bi ?_
  simp (disch:=first|decide|omega) only[Jd,Jf,Jg,Jn,Ju,Jv,Jy,J0,J1,Br,Ah,Am,Ca,true_and,F.numbers,F.lBehind,Bx,Bp (hl.ext d2),Xp (hl.ext d2) hp]
  refine Nz F.lBehind hm (hN.ext d2) (hl.ext d2) hio hki fun s H₃ e3 n3 v3=>?_
  refine Rs F.whole F.numbers (va.ext e3) v3 (Ail hm hll hbl) ?_
  (try dsimp only);(try simp (disch:=first|decide|omega) only[Br])
  simp only[Bool.not_true,Bool.false_eq_true,if_false]
  exact hN' _ e3
 rintro H₃ e3
 have va3:=va.ext e3
 refine Ab ?_
 simp (disch:=first|decide|omega) only[Je,Jf,Jo,Jt,Ju,Jv,Jx,J0,J1,Ah,Am,true_and,Bx,Bp va3,Cc va3 (show ((bh A l p).map V.int).length<1048576 by rw[List.length_map];exact(Nat.lt_of_le_of_lt (Nat.le_trans hbl (Nat.le_trans (Nat.sub_le _ _) (Nat.le_trans (Nat.le_of_eq hll) hm))) (by decide)))]
 have nD:D a=none:=d1.isNone na
 have d4:Ag D (upd H₃ a (.list ((bh A l p).map V.int ++ [.int 0]))):=(d2.trans e3).upd' nD
 have va4:LI (upd H₃ a (.list ((bh A l p).map V.int ++ [.int 0]))) a (bh A l p ++ [0]):=by unfold LI;rw[Ad];simp
 have k4:upd H₃ a (.list ((bh A l p).map V.int ++ [.int 0])) kp=some (.list (ts.map V.ref)):=by rw[upd_ne (Ne.symm hak)];exact(e2.trans e3) _ _ k1
 have h4:LI (upd H₃ a (.list ((bh A l p).map V.int ++ [.int 0]))) hd l:=(hc.ext (e2.trans e3)).upd_ne (Ne.symm hah)
 generalize upd H₃ a (.list ((bh A l p).map V.int ++ [.int 0]))=H₄ at *
 try refine Ab ?_
 simp (disch:=first|decide|omega) only[true_and,Bp k4,Hi va4]
 refine Ac fun c H₅ e5 n5 v5=>?_
 (try dsimp only)
 refine Ac fun t H₆ e6 n6 v6=>?_
 (try dsimp only)
 have e46:=e5.trans e6
 have k6:=e46 _ _ k4
 refine Yw k6 (by rw[List.length_map];exact(Nat.lt_of_le_of_lt htl (by decide))) ?_
 have new:∀ {H':AH} {x:Nat},Ag H₄ H'->H' x=none->x≠hd/\x≠kp:=fun e z=>⟨fun w=>(by unfold LI at h4;rw[w,e _ _ h4]at z;cases z),fun w=>(by rw[w,e _ _ k4]at z;cases z)⟩
 have hc5:=new Ag.refl n5
 have ht6:=new e5 n6
 have d6:=d4.trans e46
 have eD:Ag D (I9 H₆ hd kp):=Xu d6 s.nh s.nk
 refine hK (I9 H₆ hd kp) t _ _ eD ⟨U3.upd' Wq,Acx,Wq,⟨_,by rw[upd_ne hhk];exact e46 _ _ h4⟩,by rw[Ad];simp,fun x hx=>?_⟩
 refine Aa fun nY=>?_
 rcases List.mem_append.mp hx with hx|hx
 ·obtain⟨a',c',l',h1,h2,h3⟩:=s.all x hx
  refine nY ?_;clear nY
  exact⟨a',c',l',eD _ _ h1,h2.ext eD,h3.ext eD⟩
 ·refine nY ?_;clear nY
  rw[List.mem_singleton.mp hx]
  exact⟨a,c,bh A l p ++ [0],I5 v6 ht6.1 ht6.2,I5 (e46 _ _ va4) hah hak,I5 (e6 _ _ v5) hc5.1 hc5.2⟩
theorem Mr(F:Rz G)(hm:m<=60)(hW:Bw H w m A)(hN:Dr H nr m A)(vo:LI H od o)(ho:A0 m o)(hp:0<=p/\p<(m:Int))(q:∀H',Ag H H'->Q (.bool true) H'):Ae G (n+5) "_law_behind_told" [.ref w,.ref nr,.ref od,.int p] H Q E:=by
 refine Af F.behindTold rfl ?_
 simp only[Fl,List.map,List.replicate,List.cons_append,List.nil_append]
 refine C0 (fun hd=>[some (.ref w),some (.ref nr),some (.ref od),some (.int p),some (.ref hd),none,none,none]) (fun hd H₁=>D3 (Ag H H₁) (H hd=none) (H₁ hd=some (.list []))) (fun N hN=>?_) ?_
 ·simp (disch:=first|decide|omega) only[Js,Ju,Jw,Bt,Bu]
  exact Ac fun hd H₁ e1 n1 v1=>hN hd _ ⟨e1,n1,v1⟩
 rintro hd H₁ hP69
 refine Aa fun nY=>?_
 obtain⟨e1,nhd,vhd⟩:=hP69
 refine nY ?_;clear nY
 refine C0 (fun kp=>[some (.ref w),some (.ref nr),some (.ref od),some (.int p),some (.ref hd),some (.ref kp),none,none]) (fun kp H₂=>D3 (Ag H₁ H₂) (H₁ kp=none) (H₂ kp=some (.list []))) (fun N hN=>?_) ?_
 ·simp (disch:=first|decide|omega) only[Js,Ju,Jw,Bt,Bu]
  exact Ac fun kp H₁ e1 n1 v1=>hN kp _ ⟨e1,n1,v1⟩
 rintro kp H₂ hP70
 refine Aa fun nY=>?_
 obtain⟨e2,nkp,vkp⟩:=hP70
 have hhk:hd≠kp:=fun z=>by rw[<-z,vhd]at nkp;cases nkp
 have eH2:=e1.trans e2
 have vhd2:=e2 _ _ vhd
 obtain⟨as,a1,a2,a3⟩:=hN.ext eH2
 refine nY ?_;clear nY
 refine Ab (Qz ?_)
 refine Afu (n:=n+3) (k:=61*p+m) F rfl (fun Q' h=>?_) (vo.ext eH2) hm ho vhd2 (vo.ne_none nhd) fun lr rs H₃ e3 nlr vlr hrl hok=>?_
 ·simp (disch:=first|decide|omega) only[Je,Jf,Jk,Jo,Ju,Jv,J6,Ah,Am,Ul,B9 a1]
  refine⟨.inl (by decide),?_⟩
  rw[List.length_map,a2]
  exact h
 refine Az vlr ?_
 refine Aa fun nY=>?_
 have hlh:lr≠hd:=fun z=>by rw[z,vhd2]at nlr;cases nlr
 have hlk:lr≠kp:=fun z=>by rw[z,vkp]at nlr;cases nlr
 have eD:Ag H (I9 H₃ hd kp):=Xu (eH2.trans e3) nhd (e1.isNone nkp)
 have lD:I9 H₃ hd kp lr=some (.list (rs.map V.ref)):=I5 vlr hlh hlk
 have oD:∀x∈rs,∃l:List Int,LI (I9 H₃ hd kp) x l/\A0 m l:=fun x hx=>by
  refine Aa fun nY=>?_
  obtain⟨h0,l,h1,h2⟩:=hok x hx
  refine nY ?_;clear nY
  refine⟨l,I5 h1 h0 fun z=>?_,h2⟩
  unfold LI at h1
  rw[z,e3 _ _ vkp]at h1
  have:l = []:=by cases l with|nil=>rfl|cons=>cases h1
  subst this
  have:=h2.len
  simp at this
  exact Akq hp.1 hp.2 this
 have s0:Kp (I9 H₃ hd kp) H₃ hd kp []:=⟨U3,Acx,Wq,⟨_,e3 _ _ vhd2⟩,e3 _ _ vkp,nofun⟩
 refine nY ?_;clear nY
 generalize I9 H₃ hd kp=D at *
 refine Ev (fun i ρ H₄=>(Ex4 fun(D':AH) (ts:List Nat) (r6 r7:Option V)=>Xw (ρ = [some (.ref w),some (.ref nr),some (.ref od),some (.int p),some (.ref hd),some (.ref kp),r6,r7]) (Ag D D') (Kp D' H₄ hd kp ts) (ts.length=i) (i<=rs.length))) ⟨D,[],_,_,rfl,Ag.refl,s0,rfl,Nat.zero_le _⟩ ?_ ?_ ?_
 ·rintro i ρ H₄ ⟨D',ts,r6,r7,_,e4,s4,_⟩;exact(e4.trans s4.ext) _ _ lD
 ·rintro i v ρ H₄ K hv hP71 hK
  refine Aa fun nY=>?_
  obtain⟨D',ts,r6,r7,rfl,e4,s4,htl,hil⟩:=hP71
  rw[List.getElem?_map]at hv
  obtain⟨y,hy,rfl⟩:=Option.map_eq_some_iff.mp hv
  obtain⟨l,hl,hio⟩:=oD y (List.mem_of_getElem? hy)
  have hi:=(List.getElem?_eq_some_iff.mp hy).1
  refine nY ?_;clear nY
  simp only[List.set_cons_succ,List.set_cons_zero]
  exact Ae5 F hm (hW.ext (eD.trans e4)) (hN.ext (eD.trans e4)) (hl.ext e4) hio (hio.mem.mpr hp) hhk s4 (Nat.le_trans (Nat.le_of_eq htl) (Nat.le_trans (Nat.le_of_lt hi) (Nat.le_trans (Nat.le_of_eq hrl) (by decide)))) fun D'' t r7 H₅ e5 s5=>hK _ _ ⟨D'',ts ++ [t],_,_,rfl,e4.trans e5,s5,by simp;exact htl,hi⟩
 ·rintro ρ H₄ hP72
  refine Aa fun nY=>?_
  obtain⟨D',ts,r6,r7,rfl,e4,s4,htl,hil⟩:=hP72
  refine nY ?_;clear nY
  refine Ab (Se (Z3 (hvK ?_)))
  simp (disch:=first|decide|omega) only[Jf,Js,Ju,J2,D1,D2,Ah,Am,List.replicate]
  refine Az s4.kp ?_
  refine⟨by simp[Bs];exact(Nat.le_trans (Nat.le_of_eq htl) (Nat.le_trans hil (Nat.le_trans (Nat.le_of_eq hrl) (by decide)))),E2 (f:=fun _=>none) s4.kp (fun v hv K' hK'=>?_) ?_⟩
  ·refine Aa fun nY=>?_
   obtain⟨t,ht,rfl⟩:=List.mem_map.mp hv
   obtain⟨a,c,l,h1,h2,h3⟩:=s4.all t ht
   have h1':=s4.ext _ _ h1
   refine nY ?_;clear nY
   simp (disch:=first|decide|omega) only[Je,Jf,Jl,Jq,Br,Ah,D8,Im (x:= .ref a) (k:=0) h1' (by decide) rfl,Im (x:= .ref c) (k:=1) h1' (by decide) rfl,Afq (h2.ext s4.ext) (h3.ext s4.ext)]
   rw[decide_true]
   simp only[Bool.not_true,Bool.false_eq_true,if_false]
   exact hK'
  ·rw[show (ts.map V.ref).filterMap (fun _=>(none:Option V)) = []from List.filterMap_eq_nil_iff.mpr fun _ _=>rfl]
   refine Ac fun x H₅ e5 n5 v5=>?_
   (try dsimp only)
   refine Ac fun y H₆ e6 n6 v6=>?_
   (try dsimp only)
   refine S0 (l:=[]) (l':=[]) (e6 _ _ v5) v6 ?_
   exact q H₆ (((eD.trans e4).trans s4.ext).trans (e5.trans e6))
theorem E7(F:Rz G)(hm:m<=60)(hW:Bw H w m A)(hN:Dr H nr m A)(vo:LI H od o)(ho:A0 m o)(q:∀H',Ag H H'->Q (.bool true) H'):Ae G (n+6) "_law_behinds_right" [.ref w,.ref nr,.ref od,.int k] H Q E:=by
 have hol:=ho.len
 refine Af F.behindsRight rfl ?_
 simp only[Eg,List.map,List.replicate,List.cons_append,List.nil_append]
 refine Ef ([some (.ref w),some (.ref nr),some (.ref od),some (.int k),some (.int (m:Int)),none,none]) (fun H₁=>H=H₁) (fun N hN=>?_) ?_
 ·simp (disch:=first|decide|omega) only[Jf,Jo,Ju,Jv,Jw,Ah,Am,Bt,Bu,B9 vo]
  rw[List.length_map,hol]
  exact hN _ rfl
 rintro _ rfl
 refine Ab (frK ?_)
 simp (disch:=first|decide|omega) only[Jd,Je,Jf,Jo,Ju,Jv,Jy,J0,J1,Jbm,Qk,Ah,Am]
 refine Fw (fun i ρ H₁=>(Ka fun r5 r6=>ρ = [some (.ref w),some (.ref nr),some (.ref od),some (.int k),some (.int (m:Int)),r5,r6]/\Ag H H₁)) ⟨_,_,rfl,Ag.refl⟩ ?_ ?_
 rotate_left
 ·rintro ρ H₁ hP73
  refine Aa fun nY=>?_
  obtain⟨r5,r6,rfl,e1⟩:=hP73
  refine nY ?_;clear nY
  exact q H₁ e1
 rintro i ρ H₁ K hi hP74 hK
 refine Aa fun nY=>?_
 obtain⟨r5,r6,rfl,e1⟩:=hP74
 have hi':i<m:=(Nat.lt_of_lt_of_le hi (Int.toNat_le.mpr (Int.min_le_left _ _)))
 refine nY ?_;clear nY
 simp only[Dh,List.set_cons_succ,List.set_cons_zero]
 refine Ef ([some (.ref w),some (.ref nr),some (.ref od),some (.int k),some (.int (m:Int)),some (.int (i:Int)),some (.int (i:Int))]) (fun H₂=>H₁=H₂) (fun N hN=>?_) ?_
 ·simp (disch:=first|decide|omega) only[Jf,Jw,Ah,Am,Bt,Bu]
  exact hN _ rfl
 rintro _ rfl
 refine C0 (fun(x:Int)=>[some (.ref w),some (.ref nr),some (.ref od),some (.int k),some (.int (m:Int)),some (.int (i:Int)),some (.int x)]) (fun(x:Int) H₂=>D3 (H₁=H₂) (0<=x) (x<(m:Int))) (fun N hN=>?_) ?_
 ·refine Bg (decide ((8:Int)<m)) (fun Q' h'=>?_) ?_
  ·simp (disch:=first|decide|omega) only[Je,Jf,Jl,Yv,Ah,Am]
   exact h'
  split
  ·refine Ab ?_
   simp (disch:=first|decide|omega) only[Je,Jf,Jk,Jw,J0,J4,J6,Ah,Am,Bt,Bu,Ul]
   refine⟨.inl (by decide),?_⟩
   exact hN _ _ ⟨rfl,Int.emod_nonneg _ (Int.ne_of_gt (Int.natCast_pos.mpr (Nat.zero_lt_of_lt hi'))),Int.emod_lt_of_pos _ (Q89 hi')⟩
  ·refine Dd ?_
   exact hN _ _ ⟨rfl,(Int.natCast_nonneg _),(Q81 hi')⟩
 rintro x _ hP75
 refine Aa fun nY=>?_
 obtain⟨rfl,x0,x1⟩:=hP75
 have hx:=List.getElem?_eq_getElem (show x.toNat<o.length by exact Q62 hol x0 x1)
 refine nY ?_;clear nY
 generalize o[x.toNat]=z at hx
 have hx':(o.map V.int)[x.toNat]? = some (.int z):=by rw[List.getElem?_map,hx];rfl
 have hz:=ho.mem.mp (List.mem_of_getElem? hx)
 refine Ab (Bi (Vd ?_))
 have fin:∀H',Ag H₁ H'->K [some (.ref w),some (.ref nr),some (.ref od),some (.int k),some (.int (m:Int)),some (.int (i:Int)),some (.int x)] H':=fun H' e'=>hK _ _ ⟨_,_,rfl,e1.trans e'⟩
 have two:∀Q':Ak,(∀b,Q' (.bool b) H₁)->Aq G (Ae G (n+5)) (.or (.cmp .Lt (.var 5) (.cint 5)) (.cmp .Lt (.var 4) (.cint 9))) [some (.ref w),some (.ref nr),some (.ref od),some (.int k),some (.int (m:Int)),some (.int (i:Int)),some (.int x)] H₁ Q' E:=fun Q' h'=>by
  simp (disch:=first|decide|omega) only[Je,Jf,Jj,Jl,J8,Br,Ah,Am]
  split
  ·exact h' true
  ·exact h' _
 refine two _ fun b=>?_
 refine Aa fun nY=>?_
 cases b with
 | false=>
   refine nY ?_;clear nY
   (try dsimp only);(try simp (disch:=first|decide|omega) only[Jd,Jf,Jg,Jn,Jq,Ju,Jv,Jy,J0,J1,Br,Ah,Am])
   simp only[Bool.false_eq_true,if_false]
   exact fin H₁ Ag.refl
 | true=>
   refine nY ?_;clear nY
   (try dsimp only);(try simp (disch:=first|decide|omega) only[Jd,Jf,Jg,Jn,Jq,Ju,Jv,Jy,J0,J1,Br,Ah,Am])
   simp only[if_true]
   simp (disch:=first|decide|omega) only[Ca,true_and,F.behindTold,Bj (vo.ext e1) x0 hx']
   refine Mr F hm (hW.ext e1) (hN.ext e1) (vo.ext e1) ho hz fun H₂ e2=>?_
   (try dsimp only);(try simp (disch:=first|decide|omega) only[Br])
   simp only[Bool.not_true,Bool.false_eq_true,if_false]
   exact fin H₂ e2
set_option linter.all false
variable {G:A5} {n:Nat} {H H' H₁ H₂:AH} {Q:Ak} {E:EP} {C:CS} {ρ:Al} {w m r nr od a b hd kp:Nat} {A:Nat->Nat->Bool} {o l l':List Int} {k p far:Int} {N:Al->AH->Prop} {R:Ak}
theorem Zo(h1:l.Nodup)(h2:∀x∈l,0<=x/\x<(m:Int))(h3:l.length=m):A0 m l:=Mn h1 fun x=>⟨h2 x,fun hx=>Classical.byContradiction fun hn=>by
 have:=E4 (m:=m) (List.nodup_cons.mpr ⟨hn,h1⟩) fun y hy=>by
  rcases List.mem_cons.mp hy with rfl|hy
  ·exact hx
  ·exact h2 y hy
 rw[List.length_cons]at this
 exact(Nat.lt_irrefl _ (Nat.lt_of_lt_of_eq this h3.symm))⟩
theorem U4{ns:List Int}:A0 m ((List.range m).map fun(j:Nat)=>A8 ns m ((m:Int)-1-j)):=by
 refine Zo ?_ (fun x hx=>?_) (by simp)
 ·rw[List.nodup_iff_pairwise_ne,List.pairwise_map]
  refine(List.nodup_range (n:=m)).imp_of_mem fun {i j} hi hj hne h=>hne ?_
  have hi:=List.mem_range.mp hi
  have hj:=List.mem_range.mp hj
  have:=Pv (Q89 hj) (Aim hi) (Aim hj) h
  exact Int.ofNat_inj.mp (Int.neg_inj.mp (Int.add_left_cancel this))
 ·obtain⟨j,hj,rfl⟩:=List.mem_map.mp hx
  have hj:=List.mem_range.mp hj
  exact M6 (Q89 hj)
theorem Ahk(F:Rz G){ns:List Int}(H:AH):Ae G (n+8) "law" [.script ns] H (fun v _=>v = .bool true) E:=by
 have F2:=F.f3.fns2
 have F1:=F2.fns
 have B:=F1.base
 refine Af F.law rfl ?_
 delta Tm;simp only[List.map,List.replicate,List.cons_append,List.nil_append]
 refine C0 (fun(m:Nat)=>[some (.script ns),some (.int m),none,none,none,none,none,none,none,none,none,none]) (fun(m:Nat) H₁=>(m<=60)/\(H=H₁)) (fun N hN=>?_) ?_
 ·simp (disch:=first|decide|omega) only[Jf,Jn,Ju,Jv,Jw,Ah,Bt,Bu,Ca,true_and,F.many]
  exact Ag1 B.cellAt F.many fun m hm=>hN m _ ⟨hm,rfl⟩
 rintro m _ ⟨hm,rfl⟩
 refine Ala (fun(t:Nat) (ts:List Nat) (ps:List (Int×Int))=>[some (.script ns),some (.int m),some (.ref t),none,none,none,none,none,none,none,none,none]) (fun(t:Nat) (ts:List Nat) (ps:List (Int×Int)) H₂=>D3 (H₂ t=some (.list (ts.map V.ref))) (A2 H₂ ts ps) (Ee m ps)) (fun N hN=>?_) ?_
 ·simp (disch:=first|decide|omega) only[Jf,Jn,Ju,Jv,Jw,Ah,Am,Bt,Bu,Ca,true_and,B.ties,B.rows]
  refine Ag2 B hm fun a as rows H₁ e _ h1 h2 h3=>?_
  exact Ag5 B hm h1 h2 h3 fun t ts ps H₂ e _ h1 h2 h4 _=>hN t ts ps _ ⟨h1,h2,Aep h3 h4⟩
 rintro t ts ps H₂ hP76
 refine Aa fun nY=>?_
 obtain⟨hT,hP,hgood⟩:=hP76
 have g:=Ajg hgood
 refine nY ?_;clear nY
 refine C0 (fun(nr:Nat)=>[some (.script ns),some (.int m),some (.ref t),some (.ref nr),none,none,none,none,none,none,none,none]) (fun(nr:Nat) H₃=>(Ag H₂ H₃)/\(Dr H₃ nr m (Lc ps))) (fun N hN=>?_) ?_
 ·simp (disch:=first|decide|omega) only[Jf,Jn,Ju,Jv,Jw,Ah,Am,Bt,Bu,Ca,true_and,B.near]
  exact Ag7 B hm hT hP hgood fun x H₃ e _ h=>hN x _ ⟨e,h⟩
 rintro nr H₃ ⟨e3,hNear⟩
 refine C0 (fun(w:Nat)=>[some (.script ns),some (.int m),some (.ref t),some (.ref nr),some (.ref w),none,none,none,none,none,none,none]) (fun(w:Nat) H₄=>(Dr H₄ nr m (Lc ps))/\(Bw H₄ w m (Lc ps))) (fun N hN=>?_) ?_
 ·simp (disch:=first|decide|omega) only[Jf,Jn,Jo,Ju,Jv,Jw,Ah,Am,Bt,Bu,Ca,true_and,B.webOf,Hi (e3 _ _ hT)]
  refine Ac fun t' H₄ e4 _ v4=>?_
  exact Ael B hm v4 (hP.ext (e3.trans e4)) hgood fun w H₅ e5 _ h=>hN w _ ⟨hNear.ext (e4.trans e5),h⟩
 rintro w H₄ ⟨hN4,hW4⟩
 clear hNear hT hP e3
 generalize Lc ps=A at *
 refine C0 (fun(cl:Int)=>[some (.script ns),some (.int m),some (.ref t),some (.ref nr),some (.ref w),some (.int cl),none,none,none,none,none,none]) (fun(cl:Int) H₅=>(H₄=H₅)/\(0<=cl)) (fun N hN=>?_) ?_
 ·simp (disch:=first|decide|omega) only[Je,Jf,Jn,Ju,Jv,Jw,Ah,Bt,Bu,Ca,true_and,B.mixed,B.cellAt]
  refine Cz B.cellAt (by decide) ?_
  exact Ol B.mixed fun c c0 _=>hN c _ ⟨rfl,c0⟩
 rintro cl _ ⟨rfl,cl0⟩
 refine C0 (fun(far:Int)=>[some (.script ns),some (.int m),some (.ref t),some (.ref nr),some (.ref w),some (.int cl),some (.int far),none,none,none,none,none]) (fun(far:Int) H₅=>(H₄=H₅)/\(61<=far)) (fun N hN=>?_) ?_
 ·simp (disch:=first|decide|omega) only[Je,Jf,Jk,Jn,Ju,Jv,Jw,Ah,Bt,Bu,Ca,true_and,B.cellAt]
  refine Cz B.cellAt (by decide) ?_
  simp only[Ajb]
  refine⟨by decide,?_⟩
  rw[show (10:Int) ^ (20:Int).toNat=100000000000000000000 from rfl]
  (try dsimp only);(try simp (disch:=first|decide|omega) only[J4,J6])
  exact hN _ _ ⟨rfl,by have:=Int.emod_nonneg (cell ns (2:Int).toNat) (show (100000000000000000000:Int)≠0 by decide);exact(Int.le_add_of_nonneg_right (Int.emod_nonneg _ (by decide)))⟩
 rintro far _ ⟨rfl,hfar⟩
 refine Y1 (fun(od:Nat) (o:List Int)=>[some (.script ns),some (.int m),some (.ref t),some (.ref nr),some (.ref w),some (.int cl),some (.int far),some (.ref od),none,none,none,none]) (fun(od:Nat) (o:List Int) H₅=>D3 (Ag H₄ H₅) (LI H₅ od o) (A0 m o)) (fun N hN=>?_) ?_
 ·refine C6 (grK ?_)
  simp (disch:=first|decide|omega) only[Jf,Ju,Jv,J2,Qk,D1,D2,Ah,Am,List.replicate,Bt,Bu]
  refine⟨by simp[Bs];exact Zq hm,?_⟩
  refine Cf (k:=0) (fun j acc H₁=>H₁=H₄/\acc=((List.range m).map fun(j:Nat)=>V.int (A8 ns m ((m:Int)-1-j))).take j) ⟨rfl,by simp⟩ ?_ ?_
  ·rintro j x acc H₁ K' hx' ⟨rfl,rfl⟩ hK'
   rw[List.getElem?_map]at hx'
   refine Aa fun nY=>?_
   obtain⟨j',hj,rfl⟩:=Option.map_eq_some_iff.mp hx'
   obtain⟨hlt,he⟩:=List.getElem?_eq_some_iff.mp hj
   simp at hlt he
   subst he
   refine nY ?_;clear nY
   refine⟨trivial,_,rfl,?_⟩
   simp (disch:=first|decide|omega) only[Je,Jf,Jk,Jn,Ju,Jv,J7,Ah,Am,Ca,true_and,Nj,B.name]
   refine Wc B.cellAt B.name (Q89 hlt) (Q90 hm) (hK' _ _ ⟨rfl,?_⟩)
   rw[List.take_add_one,List.getElem?_map,Nat.zero_add,List.getElem?_range hlt]
   rfl
  ·rintro acc H₁ ⟨rfl,rfl⟩
   refine⟨trivial,?_⟩
   rw[List.take_of_length_le (by simp)]
   refine Ac fun a H₅ e5 n5 v5=>hN a _ _ ⟨e5,?_,U4 (ns:=ns)⟩
   unfold LI;rw[v5,List.map_map];rfl
 rintro od o H₅ hP77
 refine Aa fun nY=>?_
 obtain⟨e5,vo,ho⟩:=hP77
 refine nY ?_;clear nY
 refine seq (fun ρ H₆=>(Ka fun(od:Nat) (o:List Int)=>R7 (ρ = [some (.script ns),some (.int m),some (.ref t),some (.ref nr),some (.ref w),some (.int cl),some (.int far),some (.ref od),none,none,none,none]) (Ag H₄ H₆) (LI H₆ od o) (A0 m o))) (fun N hN=>?_) ?_
 ·refine Bg (decide (cl%2=1)) (fun Q' h'=>?_) ?_
  ·simp (disch:=first|decide|omega) only[Je,Jf,Jk,Jl,J4,Ok,Ah,Am]
   exact h'
  split
  ·refine Ab ?_
   simp (disch:=first|decide|omega) only[Jf,Jn,Ju,Jv,Jw,J0,Ah,Am,Bt,Bu,Ca,true_and,F.keyed]
   exact Ae0 B F.keyed hm fun a l H' e _ v hp=>hN _ _ ⟨a,l,rfl,e5.trans e,v,Mn (hp.nodup_iff.mpr Cs) fun x=>hp.mem_iff.trans C4⟩
  ·refine Dd ?_
   exact hN _ _ ⟨od,o,rfl,e5,vo,ho⟩
 clear e5 vo ho
 rintro _ H₆ hP78
 refine Aa fun nY=>?_
 obtain⟨od,o,rfl,e6,vo,ho⟩:=hP78
 have hol:=ho.len
 replace hN4:=hN4.ext e6
 replace hW4:=hW4.ext e6
 clear e6
 refine nY ?_;clear nY
 refine C0 (fun(z:Int)=>[some (.script ns),some (.int m),some (.ref t),some (.ref nr),some (.ref w),some (.int cl),some (.int far),some (.ref od),some (.int z),none,none,none]) (fun(z:Int) H₇=>(Ag H₆ H₇)/\((z<0\/(m:Int)<=z))) (fun N hN=>?_) ?_
 ·simp (disch:=first|decide|omega) only[Je,Jf,Jh,Jk,Jq,Js,Ju,Jv,Jw,J4,J5,Ah,Am,Bt,Bu]
  refine Ac fun a H₁ e1 n1 v1=>?_
  (try dsimp only)
  have h1:0<=cl/12%4:=Int.emod_nonneg _ ((by decide))
  have h2:cl/12%4<4:=Int.emod_lt_of_pos _ ((by decide))
  have h3:LI H₁ a [-1,(m:Int),far,-far]:=v1
  have hlt:(cl/12%4).toNat < [-1,(m:Int),far,-far].length:=by
   show _<4
   exact(Int.toNat_lt (Int.emod_nonneg _ (by decide))).mpr (Int.emod_lt_of_pos _ (by decide))
  have hz:=List.getElem?_eq_getElem hlt
  generalize [-1,(m:Int),far,-far][(cl/12%4).toNat]=z at hz
  try simp (disch:=first|decide|omega) only[J5,J4]
  refine Eo h3 h1 (show ([-1,(m:Int),far,-far].map V.int)[(cl/12%4).toNat]? = some (.int z) by rw[List.getElem?_map,hz];rfl) ?_
  refine hN z _ ⟨e1,?_⟩
  have hzm:=List.mem_of_getElem? hz
  simp only[List.mem_cons,List.not_mem_nil,or_false]at hzm
  exact Akr hm hfar hzm
 rintro z H₇ ⟨e7,hz⟩
 replace hN4:=hN4.ext e7
 replace hW4:=hW4.ext e7
 replace vo:=vo.ext e7
 clear e7
 refine seq (fun ρ H₈=>ρ = [some (.script ns),some (.int m),some (.ref t),some (.ref nr),some (.ref w),some (.int cl),some (.int far),some (.ref od),some (.int z),none,none,none]/\H₇=H₈) (fun N hN=>?_) ?_
 ·refine Bg (decide (cl/2%6=1)) (fun Q' h'=>?_) ?_
  ·simp (disch:=first|decide|omega) only[Je,Jf,Jk,Jl,J4,J5,Ok,Ah,Am]
   exact h'
  split
  rotate_left
  ·refine Dd ?_
   exact hN _ _ ⟨rfl,rfl⟩
  refine Y1 (fun(wr:Nat) (lw:List Int)=>[some (.script ns),some (.int m),some (.ref t),some (.ref nr),some (.ref w),some (.int cl),some (.int far),some (.ref od),some (.int z),some (.ref wr),none,none]) (fun(wr:Nat) (lw:List Int) H₈=>R7 (Ag H₇ H₈) (LI H₈ wr lw) (lw.length<=61) (¬A0 m lw)) (fun N hN=>?_) ?_
  ·simp (disch:=first|decide|omega) only[Je,Jf,Jk,Jn,Ju,Jv,Jw,J5,Ah,Am,Bt,Bu,Ca,true_and,F.spoilt]
   exact Wn F.spoilt vo hm ho hfar fun wr lw H₈ e8 _ v8 hl hb=>hN wr lw _ ⟨e8,v8,hl,hb⟩
  rintro wr lw H₈ hP79
  refine Aa fun nY=>?_
  obtain⟨e8,vw,hwl,hb⟩:=hP79
  refine nY ?_;clear nY
  refine Ef ([some (.script ns),some (.int m),some (.ref t),some (.ref nr),some (.ref w),some (.int cl),some (.int far),some (.ref od),some (.int z),some (.ref wr),none,none]) (fun H₉=>Ag H₈ H₉) (fun N hN=>?_) ?_
  ·refine Bi ?_
   simp (disch:=first|decide|omega) only[Jd,Jf,Jg,Jn,Ju,Jv,Jy,J0,J1,Br,Ah,Am,Ca,true_and,F.ordersTold]
   refine S9 F hm (hW4.ext e8) (vo.ext e8) ho vw hwl hb fun H₉ e9=>?_
   (try dsimp only);(try simp (disch:=first|decide|omega) only[Br])
   simp only[Bool.not_true,Bool.false_eq_true,if_false]
   exact hN _ e9
  rintro H₉ e9
  refine Ef ([some (.script ns),some (.int m),some (.ref t),some (.ref nr),some (.ref w),some (.int cl),some (.int far),some (.ref od),some (.int z),some (.ref wr),none,none]) (fun H₁₀=>Ag H₉ H₁₀) (fun N hN=>?_) ?_
  ·refine Bi ?_
   simp (disch:=first|decide|omega) only[Jd,Jf,Jg,Jj,Jn,Jo,Ju,Jv,Jy,J0,J1,Br,Ah,Am,Ca,true_and,F.refused,F.byBase,Hi (vw.ext e9)]
   refine Ac fun c1 Ha ea _ va=>?_
   (try dsimp only)
   refine Zk F hm (hW4.ext (e8.trans (e9.trans ea))) va (Nat.lt_of_le_of_lt hwl (by decide)) hb fun Hb eb=>?_
   (try dsimp only);(try simp (disch:=first|decide|omega) only[Br])
   simp only[Bool.not_true,Bool.false_eq_true,if_false]
   try simp (disch:=first|decide|omega) only[Jb,Jc,Jd,Je,Jf,Jg,Jh,Ji,Jj,Jk,Jl,Jm,Jn,Jo,Jp,Jq,Jr,Js,Jt,Ju,Jv,Jw,Jx,Jy,Jz,J0,J1,J2,J3,J4,J5,J6,J7,J8,J9,Yv,Jbb,Ok,Jbd,Jbe,Jbf,Jbg,Jbh,Jbi,Jbj,Br,Jbl,Jbm,Jbn,Qk,Jbp,Jbq,Jbr,List.map,D1,D2,Ah,Am,List.replicate,Bt,Bu,Ca,true_and,F.byBase]
   refine Acb (vw.ext (e9.trans (ea.trans eb))) ?_
   refine Ac fun c2 Hc ec _ vc=>?_
   (try dsimp only)
   refine U1 F hm (hW4.ext (e8.trans (e9.trans (ea.trans (eb.trans ec))))) vc (Nat.lt_of_le_of_lt hwl (by decide)) (.inl hb) fun Hd ed=>?_
   (try dsimp only);(try simp (disch:=first|decide|omega) only[Br])
   simp only[Bool.not_true,Bool.false_eq_true,if_false]
   exact hN _ (ea.trans (eb.trans (ec.trans ed)))
  rintro H₁₀ e10
  have e710:=e8.trans (e9.trans e10)
  refine Ab ?_
  simp (disch:=first|decide|omega) only[Jf,Ji,Jn,Ju,Jv,Jy,J0,Ah,Am,Ca,true_and,F.gapsRight,F.behindsRight]
  refine N0 F hm (hW4.ext e710) (hN4.ext e710) (vo.ext e710) ho fun H₁₁ e11=>?_
  (try dsimp only);(try simp (disch:=first|decide|omega) only[Br])
  simp only[if_true]
  have e711:=e710.trans e11
  exact E7 F hm (hW4.ext e711) (hN4.ext e711) (vo.ext e711) ho fun _ _=>rfl
 rintro _ _ ⟨rfl,rfl⟩
 refine C0 (fun hd=>[some (.script ns),some (.int m),some (.ref t),some (.ref nr),some (.ref w),some (.int cl),some (.int far),some (.ref od),some (.int z),none,some (.ref hd),none]) (fun hd H₈=>(Ag H₇ H₈)/\(LI H₈ hd o)) (fun N hN=>?_) ?_
 ·simp (disch:=first|decide|omega) only[Jf,Jo,Ju,Jv,Jw,Ah,Am,Bt,Bu,Hi vo]
  exact Ac fun hd H₈ e8 n8 v8=>hN hd _ ⟨e8,v8⟩
 rintro hd H₈ ⟨e8,vh⟩
 refine Ef ([some (.script ns),some (.int m),some (.ref t),some (.ref nr),some (.ref w),some (.int cl),some (.int far),some (.ref od),some (.int z),none,some (.ref hd),some (.bool true)]) (fun H₉=>Ag H₈ H₉) (fun N hN=>?_) ?_
 ·simp (disch:=first|decide|omega) only[Jf,Jn,Ju,Jv,Jw,Ah,Am,Bt,Bu,Ca,true_and,F2.isOrder]
  refine I4 F2 hm (hW4.ext e8) vh (Af3 hm hol) fun H₉ e9=>?_
  rw[decide_eq_true (show Bf o=Aw m from ho)]
  exact hN _ e9
 rintro H₉ e9
 have e79:=e8.trans e9
 replace hN4:=hN4.ext e79
 replace hW4:=hW4.ext e79
 replace vo:=vo.ext e79
 replace vh:=vh.ext e9
 clear e79 e8 e9
 refine Ef ([some (.script ns),some (.int m),some (.ref t),some (.ref nr),some (.ref w),some (.int cl),some (.int far),some (.ref od),some (.int z),none,some (.ref hd),some (.bool true)]) (fun H₁₀=>H₉=H₁₀) (fun N hN=>?_) ?_
 ·refine Bg false (fun Q' h'=>?_) ?_
  ·simp (disch:=first|decide|omega) only[Jf,Jg,Jj,Jo,Ju,Jv,Br,Ah,Am,Uu]
   simp only[Bool.not_true,Bool.false_eq_true,if_false]
   exact h'
  rw[if_neg Bool.false_ne_true,J0]
  exact hN _ rfl
 rintro _ rfl
 refine Ef ([some (.script ns),some (.int m),some (.ref t),some (.ref nr),some (.ref w),some (.int cl),some (.int far),some (.ref od),some (.int z),none,some (.ref hd),some (.bool true)]) (fun H₁₀=>Ag H₉ H₁₀) (fun N hN=>?_) ?_
 ·refine Bi (Vd ?_)
  simp (disch:=first|decide|omega) only[Jd,Je,Jf,Jg,Jk,Jl,Jn,Ju,Jv,Jy,J0,J1,J4,J5,Ok,Br,Ah,Am]
  split
  ·simp (disch:=first|decide|omega) only[Ca,true_and,F.behindsRight]
   refine E7 F hm hW4 hN4 vo ho fun H₁₀ e10=>?_
   (try dsimp only);(try simp (disch:=first|decide|omega) only[Br])
   simp only[Bool.not_true,Bool.false_eq_true,if_false]
   exact hN _ e10
  ·(try dsimp only)
   simp only[Bool.false_eq_true,if_false]
   exact hN _ Ag.refl
 rintro H₁₀ e10
 refine Ef ([some (.script ns),some (.int m),some (.ref t),some (.ref nr),some (.ref w),some (.int cl),some (.int far),some (.ref od),some (.int z),none,some (.ref hd),some (.bool true)]) (fun H₁₁=>Ag H₁₀ H₁₁) (fun N hN=>?_) ?_
 ·refine Bg (decide (cl/96%2=1)) (fun Q' h'=>?_) ?_
  ·simp (disch:=first|decide|omega) only[Je,Jf,Jk,Jl,J4,J5,Ok,Ah,Am]
   exact h'
  split
  ·refine Ab ?_
   simp (disch:=first|decide|omega) only[Jf,Jn,Ju,Jv,Jx,J0,Ah,Am,Ca,true_and,F.f3.judged]
   exact Acs F.f3 g hm (hW4.ext e10) fun v H₁₁ e11=>hN _ e11
  ·refine Dd ?_
   exact hN _ Ag.refl
 rintro H₁₁ e11
 have e911:=e10.trans e11
 replace hN4:=hN4.ext e911
 replace hW4:=hW4.ext e911
 replace vo:=vo.ext e911
 replace vh:=vh.ext e911
 clear e911 e10 e11
 refine Ef ([some (.script ns),some (.int m),some (.ref t),some (.ref nr),some (.ref w),some (.int cl),some (.int far),some (.ref od),some (.int z),none,some (.ref hd),some (.bool true)]) (fun H₁₂=>Ag H₁₁ H₁₂) (fun N hN=>?_) ?_
 ·refine Bi ?_
  simp (disch:=first|decide|omega) only[Jd,Je,Jf,Jg,Jj,Jk,Jn,Ju,Jv,Jy,J0,J1,J5,Br,Ah,Am,Ca,true_and,F.gapsRight,F.behindsRight]
  refine N0 F hm hW4 hN4 vo ho fun Ha ea=>?_
  (try dsimp only);(try simp (disch:=first|decide|omega) only[Br])
  simp only[Bool.not_true,Bool.false_eq_true,if_false]
  try simp (disch:=first|decide|omega) only[Jb,Jc,Jd,Je,Jf,Jg,Jh,Ji,Jj,Jk,Jl,Jm,Jn,Jo,Jp,Jq,Jr,Js,Jt,Ju,Jv,Jw,Jx,Jy,Jz,J0,J1,J2,J3,J4,J5,J6,J7,J8,J9,Yv,Jbb,Ok,Jbd,Jbe,Jbf,Jbg,Jbh,Jbi,Jbj,Br,Jbl,Jbm,Jbn,Qk,Jbp,Jbq,Jbr,List.map,D1,D2,Ah,Am,List.replicate,Bt,Bu,Ca,true_and,F.behindsRight]
  refine E7 F hm (hW4.ext ea) (hN4.ext ea) (vo.ext ea) ho fun Hb eb=>?_
  (try dsimp only);(try simp (disch:=first|decide|omega) only[Br])
  simp only[Bool.not_true,Bool.false_eq_true,if_false]
  exact hN _ (ea.trans eb)
 rintro H₁₂ e12
 refine Ef ([some (.script ns),some (.int m),some (.ref t),some (.ref nr),some (.ref w),some (.int cl),some (.int far),some (.ref od),some (.int z),none,some (.ref hd),some (.bool true)]) (fun H₁₃=>Ag H₁₂ H₁₃) (fun N hN=>?_) ?_
 ·refine Bi ?_
  simp (disch:=first|decide|omega) only[Jd,Jf,Jg,Jj,Jl,Jn,Ju,Jv,Jy,J0,J1,Br,Ah,Am,Ca,true_and,F.noPoint,F.byBase]
  refine Zl F hm (hW4.ext e12) (vh.ext e12) ho hz fun Ha ea=>?_
  (try dsimp only);(try simp (disch:=first|decide|omega) only[Br])
  simp only[Bool.not_true,Bool.false_eq_true,if_false]
  try simp (disch:=first|decide|omega) only[Jb,Jc,Jd,Je,Jf,Jg,Jh,Ji,Jj,Jk,Jl,Jm,Jn,Jo,Jp,Jq,Jr,Js,Jt,Ju,Jv,Jw,Jx,Jy,Jz,J0,J1,J2,J3,J4,J5,J6,J7,J8,J9,Yv,Jbb,Ok,Jbd,Jbe,Jbf,Jbg,Jbh,Jbi,Jbj,Br,Jbl,Jbm,Jbn,Qk,Jbp,Jbq,Jbr,List.map,D1,D2,Ah,Am,List.replicate,Bt,Bu,Ca,true_and,F.byBase]
  refine U1 F hm (hW4.ext (e12.trans ea)) (vh.ext (e12.trans ea)) (Af3 hm hol) (.inr hz) fun Hb eb=>?_
  have ab:=e12.trans (ea.trans eb)
  (try dsimp only);(try simp (disch:=first|decide|omega) only[Br])
  simp only[Bool.not_true,Bool.false_eq_true,if_false]
  (refine Wi (vh.ext ab) (vo.ext ab) ?_;rw[decide_eq_true rfl])
  (try dsimp only);(try simp (disch:=first|decide|omega) only[Br])
  simp only[Bool.not_true,Bool.false_eq_true,if_false]
  exact hN _ (ea.trans eb)
 rintro H₁₃ e13
 have e1113:=e12.trans e13
 refine Ab ?_
 simp (disch:=first|decide|omega) only[Je,Jf,Jj,Jk,Jl,Jn,Jq,Ju,Jv,Jy,J0,Ok,Br,Ah,Am]
 refine Aa fun nY=>?_
 by_cases h0:(m:Int)=0
 ·refine nY ?_;clear nY
  rw[decide_eq_true h0]
  simp only[if_true]
 ·refine nY ?_;clear nY
  rw[decide_eq_false h0]
  simp only[Bool.false_eq_true,if_false]
  have hx0:0<=cl%(m:Int):=Int.emod_nonneg _ (h0)
  have hx1:cl%(m:Int)<m:=Int.emod_lt_of_pos _ (Aks h0)
  have hx:=List.getElem?_eq_getElem (show (cl%(m:Int)).toNat<o.length by exact(Nat.lt_of_lt_of_eq ((Int.toNat_lt hx0).mpr hx1) hol.symm))
  generalize o[(cl%(m:Int)).toNat]=y at hx
  have hx':(o.map V.int)[(cl%(m:Int)).toNat]? = some (.int y):=by rw[List.getElem?_map,hx];rfl
  simp (disch:=first|decide|omega) only[J4,Ca,true_and,F.behindTold,Bj (vo.ext e1113) hx0 hx']
  exact Mr F hm (hW4.ext e1113) (hN4.ext e1113) (vo.ext e1113) ho (ho.mem.mp (List.mem_of_getElem? hx)) fun _ _=>rfl
end Mine.Internal.Cl
namespace Mine.Internal.Cl
open PySem PySem.W PyProof.Rows
set_option maxRecDepth 100000
set_option maxHeartbeats 8000000
theorem grd(P:Params):Ma (kk P)=true:=by kernel_rfl
theorem Ajn(P:Params):(L9 (kk P) (Hv (kk P)) "law").isSome=true:=by kernel_rfl
theorem bas(P:Params):I8 (Qj (kk P)):=by
 constructor<;>kernel_rfl
theorem fn1(P:Params):Fns (Qj (kk P)):=by
 refine⟨bas P,?_,?_,?_,?_⟩<;>kernel_rfl
theorem fn2(P:Params):Lf (Qj (kk P)):=by
 refine⟨fn1 P,?_,?_,?_,?_,?_,?_,?_,?_,?_,?_⟩<;>kernel_rfl
theorem fn3(P:Params):Zb (Qj (kk P)):=by
 refine⟨fn2 P,?_,?_,?_,?_,?_,?_,?_⟩<;>kernel_rfl
theorem fxs(P:Params):Xs (Qj (kk P)):=by
 constructor<;>kernel_rfl
theorem fns(P:Params):Rz (Qj (kk P)):=by
 refine⟨fn3 P,fxs P,?_,?_,?_,?_,?_,?_,?_,?_,?_,?_,?_,?_,?_,?_,?_,?_,?_,?_,?_,?_,?_,?_⟩<;>kernel_rfl
theorem main{G:A5}(F:Rz G)(H:AH){ns:List Int}:Ae G 40 "law" [.script ns] H (fun v _=>v = .bool true) EF:=Ahk (n:=32) F H
theorem Ald:PySem.Challenge.rw_uf020033_03.wellSaid=true:=by
 delta OpenLaw.wellSaid
 iterate 18 (refine look_both ?_ (by decide +kernel))
 decide +kernel
noncomputable def Qw:DefRec×List (Str×Expr):=(defOf kq PySem.Challenge.rw_uf020033_03.row.name).get (by kernel_rfl)
theorem hD1:defOf kq PySem.Challenge.rw_uf020033_03.row.name=some (Qw.1,Qw.2):=by kernel_rfl
theorem hD2:PySem.Challenge.pw_uf020033_03.theDef PySem.Challenge.rw_uf020033_03.row.name=some (Qw.1.params,Qw.1.body,Qw.1.scope):=by kernel_rfl
theorem hD3:kwWritten? Qw.1.params.kwonlyargs Qw.1.params.kw_defaults=some Qw.2:=by kernel_rfl
theorem Ajo:PySem.Challenge.rw_uf020033_03.row.prog.bare:=⟨rfl,rfl,rfl,rfl,rfl,by decide +kernel⟩
theorem fin:PySem.Challenge.rw_uf020033_03.Holds:=by
 w_on
 refine holds_law Ald fun said=>?_
 refine holds_open (q:=kq) (loose:=[]) (Xt:=fun s=>xlAt kq [] s&&recOk (RowW.records PySem.Challenge.rw_uf020033_03.row.toRowW) s) (XP:=XL kq []) (Yf:=Hook.obs kH) (Ya:=Hook.val kH) (YP:=Hook.says kH) (d:=Qw.1) (kwd:=Qw.2) (N:=6938) Xv (Hook.of kH) (Hook.keeps kH) (fun s e=>xl_of s (Bool.and_eq_true_iff.mp e).1) XL.keeps hD1 hD2 hD3 (fun s e=>recFacts_of (Bool.and_eq_true_iff.mp e).2) (by rfl) (by first|assumption|decide +kernel) (by decide +kernel) Ajo ?hw ?hc
 case hw=>w_witness2
 case hc=>
  intro w s₀ s₁ mg mb G Y fa o pm cd doc dV kV ho hd hcd hD hmg hg args vals as hpre hlay hrd hwl hlo
  have KX:(kk w.params).In s₁.heap:=kIn_of Y
  refine Ground.open G ?_
  intro T B D TE TW
  wrow_args hpre hlay hrd hwl hlo
  clear hcd hd hD ho Y G B TE TW D
  rename_i nsL _ _ _ _ _ _ _ la items _ hL _ _ _ hI _ hlen _
  exact Aea KX (topRead_of T) (grd _) (Ajn _) hmg hg hL hI (by omega) (main (fns _) _) (fun _=>rfl) (by first|kernel_rfl|decide +kernel|exact postW_of (X:=true) (by kernel_rfl) (by kernel_rfl) rfl)
end Mine.Internal.Cl
theorem PySem.Challenge.cw_uf020033_03_holds : PySem.Challenge.rw_uf020033_03.Holds :=
 Mine.Internal.Cl.fin

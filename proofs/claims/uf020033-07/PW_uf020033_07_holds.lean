import PyProof.Rows.All
import Wide.All
import OpenK.AllK
import Wide.FinOn
import PySem.Challenge.RW_uf020033_07
set_option Elab.async false
set_option maxHeartbeats 4000000
set_option linter.all false
set_option genSizeOf false
set_option genSizeOfSpec false
set_option genInjectivity false
set_option bootstrap.genMatcherCode false
namespace Mine.Internal.Cl
open PySem PySem.W PyProof.Rows
set_option maxRecDepth 100000
set_option maxHeartbeats 8000000
noncomputable def A1(i:Nat):Stmt:=PySem.Challenge.pw_uf020033_07.main.body.getD i (.Pass default)
noncomputable def Jb(i j:Nat):Stmt:=match A1 i with
 | .ClassDef _ _ _ b .. =>b.getD j (.Pass default)
 | s=>s
noncomputable def Db(st:Stmt)(q:Str)(md:Value)(cd:Addr):Obj:=match st with
 | .FunctionDef name args body _ _ _ scope _ _ _=>{cls:= .type "function",data:= .func {name:=name,qualname:=q,params:=args,body:= .stmts body,scope:=scope,globals:=3,closure:=[],defaults:= .none,kwdefaults:= .none,pyModule:=md,code:= .ref cd}}
 | _=>default
noncomputable def My(st:Stmt)(q:Str):Obj:=match st with
 | .FunctionDef name args body _ _ _ scope _ _ _=>{cls:= .none,data:= .func {name:=name,qualname:=q,params:=args,body:= .stmts body,scope:=scope,globals:=0,closure:=[],defaults:= .none,kwdefaults:= .none}}
 | _=>default
noncomputable def vs(s:String)(n:Nat):Value:= .str (Str.ofString s) n
noncomputable def rf(n:Nat):Value:= .ref n
noncomputable def vi(n:Int):Value:= .int n 0
noncomputable def dE(P:Params)(s:String)(n:Nat)(v:Value):DictEntry:={hash:=PyData.keyHash P (Str.ofString s),key:= .str (Str.ofString s) n,val:=v}
noncomputable def tO(c:String)(a:Array Value):Obj:={cls:= .type c,data:= .seq a}
noncomputable def cO(c:String)(a:Array Value):Obj:={cls:= .type c,data:= .fields a}
noncomputable def dO(c:String)(a:Array DictEntry):Obj:={cls:= .type c,data:= .dict a}
noncomputable def fO(a:Array (Option Value)):Obj:={cls:= .type "frame",slots:=a}
noncomputable def kk(P:Params):Frag:=[
 (2,{cls:=Value.none,data:=Data.dict #[]}),
 (3,{cls:=Value.type "dict",data:=Data.dict #[dE P "__name__" 165 (vs "law_uf020033_07" 470),dE P "__doc__" 166 (Value.none),dE P "__package__" 167 (Value.none),dE P "__loader__" 168 (Value.builtin "__main__.__loader__#opaque"),dE P "__spec__" 169 (Value.none),dE P "__annotations__" 170 (rf 6),dE P "__builtins__" 171 (rf 4),dE P "__file__" 173 (vs "/claim/cut.py" 172),dE P "__cached__" 174 (Value.none),dE P "WebError" 206 (rf 24),dE P "BadWeb" 222 (rf 37),dE P "NoPoint" 238 (rf 49),dE P "BadText" 254 (rf 61),dE P "BadOrder" 270 (rf 73),dE P "HasGap" 286 (rf 85),dE P "is_order" 296 (rf 94),dE P "need_order" 304 (rf 101),dE P "those_behind" 310 (rf 106),dE P "first_untied" 321 (rf 113),dE P "gap" 331 (rf 120),dE P "filled" 337 (rf 125),dE P "need_whole" 347 (rf 132),dE P "crowd_at" 356 (rf 139),dE P "is_full" 362 (rf 144),dE P "full_crowds" 373 (rf 151),dE P "least_free" 381 (rf 158),dE P "coloured" 387 (rf 163),dE P "apart" 393 (rf 168),dE P "MOST" 397 (Value.int 60 396),dE P "Web" 463 (rf 213),dE P "web_of" 469 (rf 222),dE P "_law_cell_at" 479 (rf 229),dE P "_law_mixed" 487 (rf 236),dE P "_law_earlier" 503 (rf 243),dE P "_law_any_rows" 509 (rf 248),dE P "_law_many" 517 (rf 255),dE P "_law_banded" 523 (rf 260),dE P "_law_ringed" 529 (rf 265),dE P "_law_hubbed" 535 (rf 270),dE P "_law_rows" 545 (rf 277),dE P "_law_name" 555 (rf 284),dE P "_law_ties" 561 (rf 289),dE P "_law_near" 567 (rf 294),dE P "_law_keyed" 573 (rf 299),dE P "_law_behind" 579 (rf 304),dE P "_law_untied" 589 (rf 311),dE P "_law_free" 595 (rf 316),dE P "_law_order" 607 (rf 323),dE P "_law_has_gap" 616 (rf 330),dE P "_law_spoilt" 622 (rf 335),dE P "_law_do" 631 (rf 342),dE P "_law_word" 640 (rf 349),dE P "_law_by_base" 651 (rf 356),dE P "_law_within" 662 (rf 363),dE P "_law_dues" 670 (rf 370),dE P "law" 690 (rf 377)] 56}),
 (23,{cls:=Value.type "dict",data:=Data.dict #[dE P "__module__" 196 (vs "shortring.errors" 187),dE P "__firstlineno__" 200 (Value.int 2 199),dE P "__static_attributes__" 201 (rf 22),dE P "__weakref__" 203 (rf 25),dE P "__doc__" 204 (Value.none)] 3}),
 (24,{cls:=Value.type "type",data:=Data.cls {name:=Str.ofString "WebError",bases:=[Value.type "ValueError"],mro:=[rf 24,Value.type "ValueError",Value.type "Exception",Value.type "BaseException",Value.type "object"],ns:=23,qualname:=Str.ofString "WebError",subclasses:=[rf 37,rf 49,rf 61,rf 73,rf 85]},slots:= #[some (rf 15),none,some (vs "WebError" 189),some (vs "WebError" 197),some (Value.builtin "ValueError.__new__"),some (Value.bool true)]}),
 (36,{cls:=Value.type "dict",data:=Data.dict #[dE P "__module__" 214 (vs "shortring.errors" 187),dE P "__firstlineno__" 218 (Value.int 4 217),dE P "__static_attributes__" 219 (rf 35),dE P "__doc__" 220 (Value.none)] 2}),
 (37,{cls:=Value.type "type",data:=Data.cls {name:=Str.ofString "BadWeb",bases:=[rf 24],mro:=[rf 37,rf 24,Value.type "ValueError",Value.type "Exception",Value.type "BaseException",Value.type "object"],ns:=36,qualname:=Str.ofString "BadWeb"},slots:= #[some (rf 28),none,some (vs "BadWeb" 207),some (vs "BadWeb" 215),some (Value.builtin "ValueError.__new__"),some (Value.bool true)]}),
 (48,{cls:=Value.type "dict",data:=Data.dict #[dE P "__module__" 230 (vs "shortring.errors" 187),dE P "__firstlineno__" 234 (Value.int 6 233),dE P "__static_attributes__" 235 (rf 47),dE P "__doc__" 236 (Value.none)] 2}),
 (49,{cls:=Value.type "type",data:=Data.cls {name:=Str.ofString "NoPoint",bases:=[rf 24],mro:=[rf 49,rf 24,Value.type "ValueError",Value.type "Exception",Value.type "BaseException",Value.type "object"],ns:=48,qualname:=Str.ofString "NoPoint"},slots:= #[some (rf 40),none,some (vs "NoPoint" 223),some (vs "NoPoint" 231),some (Value.builtin "ValueError.__new__"),some (Value.bool true)]}),
 (60,{cls:=Value.type "dict",data:=Data.dict #[dE P "__module__" 246 (vs "shortring.errors" 187),dE P "__firstlineno__" 250 (Value.int 8 249),dE P "__static_attributes__" 251 (rf 59),dE P "__doc__" 252 (Value.none)] 2}),
 (61,{cls:=Value.type "type",data:=Data.cls {name:=Str.ofString "BadText",bases:=[rf 24],mro:=[rf 61,rf 24,Value.type "ValueError",Value.type "Exception",Value.type "BaseException",Value.type "object"],ns:=60,qualname:=Str.ofString "BadText"},slots:= #[some (rf 52),none,some (vs "BadText" 239),some (vs "BadText" 247),some (Value.builtin "ValueError.__new__"),some (Value.bool true)]}),
 (72,{cls:=Value.type "dict",data:=Data.dict #[dE P "__module__" 262 (vs "shortring.errors" 187),dE P "__firstlineno__" 266 (Value.int 10 265),dE P "__static_attributes__" 267 (rf 71),dE P "__doc__" 268 (Value.none)] 2}),
 (73,{cls:=Value.type "type",data:=Data.cls {name:=Str.ofString "BadOrder",bases:=[rf 24],mro:=[rf 73,rf 24,Value.type "ValueError",Value.type "Exception",Value.type "BaseException",Value.type "object"],ns:=72,qualname:=Str.ofString "BadOrder"},slots:= #[some (rf 64),none,some (vs "BadOrder" 255),some (vs "BadOrder" 263),some (Value.builtin "ValueError.__new__"),some (Value.bool true)]}),
 (84,{cls:=Value.type "dict",data:=Data.dict #[dE P "__module__" 278 (vs "shortring.errors" 187),dE P "__firstlineno__" 282 (Value.int 12 281),dE P "__static_attributes__" 283 (rf 83),dE P "__doc__" 284 (Value.none)] 2}),
 (85,{cls:=Value.type "type",data:=Data.cls {name:=Str.ofString "HasGap",bases:=[rf 24],mro:=[rf 85,rf 24,Value.type "ValueError",Value.type "Exception",Value.type "BaseException",Value.type "object"],ns:=84,qualname:=Str.ofString "HasGap"},slots:= #[some (rf 76),none,some (vs "HasGap" 271),some (vs "HasGap" 279),some (Value.builtin "ValueError.__new__"),some (Value.bool true)]}),
 (93,cO "code" #[vs "is_order" 289,vs "is_order" 290,vs "/claim/cut.py" 291,vi 15,vi 2,vi 0,vi 0,vi 3,rf 88,Value.bool true,vi 181,rf 89,Value.none,rf 90,rf 91,rf 92,vi 294,vi 15,vs "/claim/cut.py" 295]),
 (94,Db (A1 8) (Str.ofString "is_order") (vs "shortring.orders" 287) 93),
 (100,cO "code" #[vs "need_order" 297,vs "need_order" 298,vs "/claim/cut.py" 299,vi 17,vi 2,vi 0,vi 0,vi 3,rf 95,Value.bool true,vi 181,rf 96,Value.none,rf 97,rf 98,rf 99,vi 302,vi 17,vs "/claim/cut.py" 303]),
 (101,Db (A1 9) (Str.ofString "need_order") (vs "shortring.orders" 287) 100),
 (105,cO "code" #[vs "those_behind" 305,vs "those_behind" 306,vs "/claim/cut.py" 307,vi 20,vi 3,vi 0,vi 0,vi 3,rf 102,Value.bool true,vi 181,rf 103,Value.none,Value.none,Value.none,rf 104,vi 308,vi 20,vs "/claim/cut.py" 309]),
 (106,Db (A1 10) (Str.ofString "those_behind") (vs "shortring.orders" 287) 105),
 (112,cO "code" #[vs "first_untied" 311,vs "first_untied" 312,vs "/claim/cut.py" 313,vi 23,vi 2,vi 0,vi 0,vi 3,rf 107,Value.bool true,vi 181,rf 108,Value.none,rf 109,rf 110,rf 111,vi 319,vi 23,vs "/claim/cut.py" 320]),
 (113,Db (A1 11) (Str.ofString "first_untied") (vs "shortring.orders" 287) 112),
 (119,cO "code" #[vs "gap" 322,vs "gap" 323,vs "/claim/cut.py" 324,vi 29,vi 2,vi 0,vi 0,vi 3,rf 114,Value.bool true,vi 181,rf 115,Value.none,rf 116,rf 117,rf 118,vi 329,vi 29,vs "/claim/cut.py" 330]),
 (120,Db (A1 12) (Str.ofString "gap") (vs "shortring.orders" 287) 119),
 (124,cO "code" #[vs "filled" 332,vs "filled" 333,vs "/claim/cut.py" 334,vi 36,vi 2,vi 0,vi 0,vi 3,rf 121,Value.bool true,vi 181,rf 122,Value.none,Value.none,Value.none,rf 123,vi 335,vi 36,vs "/claim/cut.py" 336]),
 (125,Db (A1 13) (Str.ofString "filled") (vs "shortring.orders" 287) 124),
 (131,cO "code" #[vs "need_whole" 340,vs "need_whole" 341,vs "/claim/cut.py" 342,vi 55,vi 2,vi 0,vi 0,vi 3,rf 126,Value.bool true,vi 181,rf 127,Value.none,rf 128,rf 129,rf 130,vi 345,vi 55,vs "/claim/cut.py" 346]),
 (132,Db (A1 15) (Str.ofString "need_whole") (vs "shortring.crowds" 338) 131),
 (138,cO "code" #[vs "crowd_at" 348,vs "crowd_at" 349,vs "/claim/cut.py" 350,vi 58,vi 3,vi 0,vi 0,vi 3,rf 133,Value.bool true,vi 181,rf 134,Value.none,rf 135,rf 136,rf 137,vi 354,vi 58,vs "/claim/cut.py" 355]),
 (139,Db (A1 16) (Str.ofString "crowd_at") (vs "shortring.crowds" 338) 138),
 (143,cO "code" #[vs "is_full" 357,vs "is_full" 358,vs "/claim/cut.py" 359,vi 60,vi 2,vi 0,vi 0,vi 3,rf 140,Value.bool true,vi 181,rf 141,Value.none,Value.none,Value.none,rf 142,vi 360,vi 60,vs "/claim/cut.py" 361]),
 (144,Db (A1 17) (Str.ofString "is_full") (vs "shortring.crowds" 338) 143),
 (150,cO "code" #[vs "full_crowds" 363,vs "full_crowds" 364,vs "/claim/cut.py" 365,vi 65,vi 2,vi 0,vi 0,vi 3,rf 145,Value.bool true,vi 181,rf 146,Value.none,rf 147,rf 148,rf 149,vi 371,vi 65,vs "/claim/cut.py" 372]),
 (151,Db (A1 18) (Str.ofString "full_crowds") (vs "shortring.crowds" 338) 150),
 (157,cO "code" #[vs "least_free" 374,vs "least_free" 375,vs "/claim/cut.py" 376,vi 73,vi 1,vi 0,vi 0,vi 3,rf 152,Value.bool true,vi 181,rf 153,Value.none,rf 154,rf 155,rf 156,vi 379,vi 73,vs "/claim/cut.py" 380]),
 (158,Db (A1 19) (Str.ofString "least_free") (vs "shortring.crowds" 338) 157),
 (162,cO "code" #[vs "coloured" 382,vs "coloured" 383,vs "/claim/cut.py" 384,vi 78,vi 2,vi 0,vi 0,vi 3,rf 159,Value.bool true,vi 181,rf 160,Value.none,Value.none,Value.none,rf 161,vi 385,vi 78,vs "/claim/cut.py" 386]),
 (163,Db (A1 20) (Str.ofString "coloured") (vs "shortring.crowds" 338) 162),
 (167,cO "code" #[vs "apart" 388,vs "apart" 389,vs "/claim/cut.py" 390,vi 84,vi 2,vi 0,vi 0,vi 3,rf 164,Value.bool true,vi 181,rf 165,Value.none,Value.none,Value.none,rf 166,vi 391,vi 84,vs "/claim/cut.py" 392]),
 (168,Db (A1 21) (Str.ofString "apart") (vs "shortring.crowds" 338) 167),
 (181,cO "code" #[vs "__init__" 410,vs "Web.__init__" 411,vs "/claim/cut.py" 412,vi 97,vi 3,vi 0,vi 0,vi 3,rf 176,Value.bool true,vi 181,rf 177,Value.none,rf 178,rf 179,rf 180,vi 416,vi 97,vs "/claim/cut.py" 417]),
 (182,Db (Jb 24 0) (Str.ofString "Web.__init__") (vs "shortring.webs" 394) 181),
 (188,cO "code" #[vs "need" 419,vs "Web.need" 420,vs "/claim/cut.py" 421,vi 101,vi 2,vi 0,vi 0,vi 3,rf 183,Value.bool true,vi 181,rf 184,Value.none,rf 185,rf 186,rf 187,vi 424,vi 101,vs "/claim/cut.py" 425]),
 (189,Db (Jb 24 1) (Str.ofString "Web.need") (vs "shortring.webs" 394) 188),
 (195,cO "code" #[vs "beside" 427,vs "Web.beside" 428,vs "/claim/cut.py" 429,vi 105,vi 2,vi 0,vi 0,vi 3,rf 190,Value.bool true,vi 181,rf 191,Value.none,rf 192,rf 193,rf 194,vi 432,vi 105,vs "/claim/cut.py" 433]),
 (196,Db (Jb 24 2) (Str.ofString "Web.beside") (vs "shortring.webs" 394) 195),
 (202,cO "code" #[vs "tied" 435,vs "Web.tied" 436,vs "/claim/cut.py" 437,vi 109,vi 3,vi 0,vi 0,vi 3,rf 197,Value.bool true,vi 181,rf 198,Value.none,rf 199,rf 200,rf 201,vi 441,vi 109,vs "/claim/cut.py" 442]),
 (203,Db (Jb 24 3) (Str.ofString "Web.tied") (vs "shortring.webs" 394) 202),
 (209,cO "code" #[vs "ties" 444,vs "Web.ties" 445,vs "/claim/cut.py" 446,vi 114,vi 1,vi 0,vi 0,vi 3,rf 204,Value.bool true,vi 181,rf 205,Value.none,rf 206,rf 207,rf 208,vi 451,vi 114,vs "/claim/cut.py" 452]),
 (210,Db (Jb 24 4) (Str.ofString "Web.ties") (vs "shortring.webs" 394) 209),
 (212,{cls:=Value.type "dict",data:=Data.dict #[dE P "__module__" 405 (vs "shortring.webs" 394),dE P "__firstlineno__" 409 (Value.int 95 408),dE P "__init__" 418 (rf 182),dE P "need" 426 (rf 189),dE P "beside" 434 (rf 196),dE P "tied" 443 (rf 203),dE P "ties" 453 (rf 210),dE P "__static_attributes__" 456 (rf 211),dE P "__dict__" 458 (rf 214),dE P "__weakref__" 460 (rf 215),dE P "__doc__" 461 (Value.none)] 4}),
 (213,{cls:=Value.type "type",data:=Data.cls {name:=Str.ofString "Web",bases:=[Value.type "object"],mro:=[rf 213,Value.type "object"],ns:=212,qualname:=Str.ofString "Web"},slots:= #[none,none,some (vs "Web" 398),some (vs "Web" 406),some (Value.builtin "object.__new__"),some (Value.bool true)]}),
 (221,cO "code" #[vs "web_of" 464,vs "web_of" 465,vs "/claim/cut.py" 466,vi 121,vi 2,vi 0,vi 0,vi 3,rf 218,Value.bool true,vi 181,rf 219,Value.none,Value.none,Value.none,rf 220,vi 467,vi 121,vs "/claim/cut.py" 468]),
 (222,Db (A1 25) (Str.ofString "web_of") (vs "shortring.webs" 394) 221),
 (228,cO "code" #[vs "_law_cell_at" 472,vs "_law_cell_at" 473,vs "/claim/cut.py" 474,vi 133,vi 2,vi 0,vi 0,vi 3,rf 223,Value.bool true,vi 181,rf 224,Value.none,rf 225,rf 226,rf 227,vi 477,vi 133,vs "/claim/cut.py" 478]),
 (229,Db (A1 27) (Str.ofString "_law_cell_at") (vs "law_uf020033_07" 470) 228),
 (235,cO "code" #[vs "_law_mixed" 480,vs "_law_mixed" 481,vs "/claim/cut.py" 482,vi 137,vi 2,vi 0,vi 0,vi 3,rf 230,Value.bool true,vi 181,rf 231,Value.none,rf 232,rf 233,rf 234,vi 485,vi 137,vs "/claim/cut.py" 486]),
 (236,Db (A1 28) (Str.ofString "_law_mixed") (vs "law_uf020033_07" 470) 235),
 (242,cO "code" #[vs "_law_earlier" 488,vs "_law_earlier" 489,vs "/claim/cut.py" 490,vi 139,vi 3,vi 0,vi 0,vi 3,rf 237,Value.bool true,vi 181,rf 238,Value.none,rf 239,rf 240,rf 241,vi 501,vi 139,vs "/claim/cut.py" 502]),
 (243,Db (A1 29) (Str.ofString "_law_earlier") (vs "law_uf020033_07" 470) 242),
 (247,cO "code" #[vs "_law_any_rows" 504,vs "_law_any_rows" 505,vs "/claim/cut.py" 506,vi 158,vi 2,vi 0,vi 0,vi 3,rf 244,Value.bool true,vi 181,rf 245,Value.none,Value.none,Value.none,rf 246,vi 507,vi 158,vs "/claim/cut.py" 508]),
 (248,Db (A1 30) (Str.ofString "_law_any_rows") (vs "law_uf020033_07" 470) 247),
 (254,cO "code" #[vs "_law_many" 510,vs "_law_many" 511,vs "/claim/cut.py" 512,vi 168,vi 1,vi 0,vi 0,vi 3,rf 249,Value.bool true,vi 181,rf 250,Value.none,rf 251,rf 252,rf 253,vi 515,vi 168,vs "/claim/cut.py" 516]),
 (255,Db (A1 31) (Str.ofString "_law_many") (vs "law_uf020033_07" 470) 254),
 (259,cO "code" #[vs "_law_banded" 518,vs "_law_banded" 519,vs "/claim/cut.py" 520,vi 175,vi 2,vi 0,vi 0,vi 3,rf 256,Value.bool true,vi 181,rf 257,Value.none,Value.none,Value.none,rf 258,vi 521,vi 175,vs "/claim/cut.py" 522]),
 (260,Db (A1 32) (Str.ofString "_law_banded") (vs "law_uf020033_07" 470) 259),
 (264,cO "code" #[vs "_law_ringed" 524,vs "_law_ringed" 525,vs "/claim/cut.py" 526,vi 180,vi 2,vi 0,vi 0,vi 3,rf 261,Value.bool true,vi 181,rf 262,Value.none,Value.none,Value.none,rf 263,vi 527,vi 180,vs "/claim/cut.py" 528]),
 (265,Db (A1 33) (Str.ofString "_law_ringed") (vs "law_uf020033_07" 470) 264),
 (269,cO "code" #[vs "_law_hubbed" 530,vs "_law_hubbed" 531,vs "/claim/cut.py" 532,vi 188,vi 2,vi 0,vi 0,vi 3,rf 266,Value.bool true,vi 181,rf 267,Value.none,Value.none,Value.none,rf 268,vi 533,vi 188,vs "/claim/cut.py" 534]),
 (270,Db (A1 34) (Str.ofString "_law_hubbed") (vs "law_uf020033_07" 470) 269),
 (276,cO "code" #[vs "_law_rows" 536,vs "_law_rows" 537,vs "/claim/cut.py" 538,vi 193,vi 2,vi 0,vi 0,vi 3,rf 271,Value.bool true,vi 181,rf 272,Value.none,rf 273,rf 274,rf 275,vi 543,vi 193,vs "/claim/cut.py" 544]),
 (277,Db (A1 35) (Str.ofString "_law_rows") (vs "law_uf020033_07" 470) 276),
 (283,cO "code" #[vs "_law_name" 546,vs "_law_name" 547,vs "/claim/cut.py" 548,vi 207,vi 3,vi 0,vi 0,vi 3,rf 278,Value.bool true,vi 181,rf 279,Value.none,rf 280,rf 281,rf 282,vi 553,vi 207,vs "/claim/cut.py" 554]),
 (284,Db (A1 36) (Str.ofString "_law_name") (vs "law_uf020033_07" 470) 283),
 (288,cO "code" #[vs "_law_ties" 556,vs "_law_ties" 557,vs "/claim/cut.py" 558,vi 212,vi 3,vi 0,vi 0,vi 3,rf 285,Value.bool true,vi 181,rf 286,Value.none,Value.none,Value.none,rf 287,vi 559,vi 212,vs "/claim/cut.py" 560]),
 (289,Db (A1 37) (Str.ofString "_law_ties") (vs "law_uf020033_07" 470) 288),
 (293,cO "code" #[vs "_law_near" 562,vs "_law_near" 563,vs "/claim/cut.py" 564,vi 221,vi 2,vi 0,vi 0,vi 3,rf 290,Value.bool true,vi 181,rf 291,Value.none,Value.none,Value.none,rf 292,vi 565,vi 221,vs "/claim/cut.py" 566]),
 (294,Db (A1 38) (Str.ofString "_law_near") (vs "law_uf020033_07" 470) 293),
 (298,cO "code" #[vs "_law_keyed" 568,vs "_law_keyed" 569,vs "/claim/cut.py" 570,vi 228,vi 2,vi 0,vi 0,vi 3,rf 295,Value.bool true,vi 181,rf 296,Value.none,Value.none,Value.none,rf 297,vi 571,vi 228,vs "/claim/cut.py" 572]),
 (299,Db (A1 39) (Str.ofString "_law_keyed") (vs "law_uf020033_07" 470) 298),
 (303,cO "code" #[vs "_law_behind" 574,vs "_law_behind" 575,vs "/claim/cut.py" 576,vi 231,vi 3,vi 0,vi 0,vi 3,rf 300,Value.bool true,vi 181,rf 301,Value.none,Value.none,Value.none,rf 302,vi 577,vi 231,vs "/claim/cut.py" 578]),
 (304,Db (A1 40) (Str.ofString "_law_behind") (vs "law_uf020033_07" 470) 303),
 (310,cO "code" #[vs "_law_untied" 580,vs "_law_untied" 581,vs "/claim/cut.py" 582,vi 233,vi 2,vi 0,vi 0,vi 3,rf 305,Value.bool true,vi 181,rf 306,Value.none,rf 307,rf 308,rf 309,vi 587,vi 233,vs "/claim/cut.py" 588]),
 (311,Db (A1 41) (Str.ofString "_law_untied") (vs "law_uf020033_07" 470) 310),
 (315,cO "code" #[vs "_law_free" 590,vs "_law_free" 591,vs "/claim/cut.py" 592,vi 239,vi 2,vi 0,vi 0,vi 3,rf 312,Value.bool true,vi 181,rf 313,Value.none,Value.none,Value.none,rf 314,vi 593,vi 239,vs "/claim/cut.py" 594]),
 (316,Db (A1 42) (Str.ofString "_law_free") (vs "law_uf020033_07" 470) 315),
 (322,cO "code" #[vs "_law_order" 596,vs "_law_order" 597,vs "/claim/cut.py" 598,vi 244,vi 2,vi 0,vi 0,vi 3,rf 317,Value.bool true,vi 181,rf 318,Value.none,rf 319,rf 320,rf 321,vi 605,vi 244,vs "/claim/cut.py" 606]),
 (323,Db (A1 43) (Str.ofString "_law_order") (vs "law_uf020033_07" 470) 322),
 (329,cO "code" #[vs "_law_has_gap" 608,vs "_law_has_gap" 609,vs "/claim/cut.py" 610,vi 254,vi 2,vi 0,vi 0,vi 3,rf 324,Value.bool true,vi 181,rf 325,Value.none,rf 326,rf 327,rf 328,vi 614,vi 254,vs "/claim/cut.py" 615]),
 (330,Db (A1 44) (Str.ofString "_law_has_gap") (vs "law_uf020033_07" 470) 329),
 (334,cO "code" #[vs "_law_spoilt" 617,vs "_law_spoilt" 618,vs "/claim/cut.py" 619,vi 259,vi 3,vi 0,vi 0,vi 3,rf 331,Value.bool true,vi 181,rf 332,Value.none,Value.none,Value.none,rf 333,vi 620,vi 259,vs "/claim/cut.py" 621]),
 (335,Db (A1 45) (Str.ofString "_law_spoilt") (vs "law_uf020033_07" 470) 334),
 (341,cO "code" #[vs "_law_do" 623,vs "_law_do" 624,vs "/claim/cut.py" 625,vi 272,vi 3,vi 0,vi 0,vi 3,rf 336,Value.bool true,vi 181,rf 337,Value.none,rf 338,rf 339,rf 340,vi 629,vi 272,vs "/claim/cut.py" 630]),
 (342,Db (A1 46) (Str.ofString "_law_do") (vs "law_uf020033_07" 470) 341),
 (348,cO "code" #[vs "_law_word" 632,vs "_law_word" 633,vs "/claim/cut.py" 634,vi 281,vi 3,vi 0,vi 0,vi 3,rf 343,Value.bool true,vi 181,rf 344,Value.none,rf 345,rf 346,rf 347,vi 638,vi 281,vs "/claim/cut.py" 639]),
 (349,Db (A1 47) (Str.ofString "_law_word") (vs "law_uf020033_07" 470) 348),
 (355,cO "code" #[vs "_law_by_base" 641,vs "_law_by_base" 642,vs "/claim/cut.py" 643,vi 289,vi 4,vi 0,vi 0,vi 3,rf 350,Value.bool true,vi 181,rf 351,Value.none,rf 352,rf 353,rf 354,vi 649,vi 289,vs "/claim/cut.py" 650]),
 (356,Db (A1 48) (Str.ofString "_law_by_base") (vs "law_uf020033_07" 470) 355),
 (362,cO "code" #[vs "_law_within" 652,vs "_law_within" 653,vs "/claim/cut.py" 654,vi 303,vi 2,vi 0,vi 0,vi 3,rf 357,Value.bool true,vi 181,rf 358,Value.none,rf 359,rf 360,rf 361,vi 660,vi 303,vs "/claim/cut.py" 661]),
 (363,Db (A1 49) (Str.ofString "_law_within") (vs "law_uf020033_07" 470) 362),
 (369,cO "code" #[vs "_law_dues" 663,vs "_law_dues" 664,vs "/claim/cut.py" 665,vi 312,vi 2,vi 0,vi 0,vi 3,rf 364,Value.bool true,vi 181,rf 365,Value.none,rf 366,rf 367,rf 368,vi 668,vi 312,vs "/claim/cut.py" 669]),
 (370,Db (A1 50) (Str.ofString "_law_dues") (vs "law_uf020033_07" 470) 369),
 (376,cO "code" #[vs "law" 671,vs "law" 672,vs "/claim/cut.py" 673,vi 318,vi 1,vi 0,vi 0,vi 3,rf 371,Value.bool true,vi 181,rf 372,Value.none,rf 373,rf 374,rf 375,vi 688,vi 318,vs "/claim/cut.py" 689]),
 (377,Db (A1 51) (Str.ofString "law") (vs "law_uf020033_07" 470) 376)]
noncomputable def kas:List Addr:=[2,3,23,24,36,37,48,49,60,61,72,73,84,85,93,94,100,101,105,106,112,113,119,120,124,125,131,132,138,139,143,144,150,151,157,158,162,163,167,168,181,182,188,189,195,196,202,203,209,210,212,213,221,222,228,229,235,236,242,243,247,248,254,255,259,260,264,265,269,270,276,277,283,284,288,289,293,294,298,299,303,304,310,311,315,316,322,323,329,330,334,335,341,342,348,349,355,356,362,363,369,370,376,377]
noncomputable def kq:Program:={PySem.Challenge.pw_uf020033_07 with main:={PySem.Challenge.pw_uf020033_07.main with body:=[1,2,3,4,5,6,8,9,10,11,12,13,15,16,17,18,19,20,21,23,24,25,27,28,29,30,31,32,33,34,35,36,37,38,39,40,41,42,43,44,45,46,47,48,49,50,51].filterMap fun i=>PySem.Challenge.pw_uf020033_07.main.body[i]?}}
theorem Ad9(P:Params):kas=(kk P).map (·.1):=by kernel_rfl
noncomputable def kH:Hook:=kHook kk kas Ad9
noncomputable def Abq:Env:={scope:=PySem.Challenge.pw_uf020033_07.main.scope,locals:=mainNs,globals:=mainNs,cells:=[],code:=Value.ref 13,frame:=some 14}
noncomputable abbrev hB:List Stmt:=behindTheImports PySem.Challenge.pw_uf020033_07
noncomputable abbrev hC:Code:= .body hB Abq
noncomputable abbrev hF:List Frame:=[topFrame {line:=0,col:=0,endLine:=0,endCol:=0}]
noncomputable def s_a(P:Params)(os:OsState):Shared:=⟨⟨Array.mk [
 boot_o_0 P,
 boot_o_1 P,
 boot_o_2 P,
 boot_o_3 P,
 boot_o_4 P,
 boot_o_5 P,
 boot_o_6 P,
 boot_o_7 P,
 boot_o_8 P,
 boot_o_9 P,
 boot_o_10 P,
 tO "tuple" #[],
 {cls:=Value.none,data:=Data.fields #[]},
 cO "code" #[vs "<module>" 182,vs "<module>" 183,vs "/claim/cut.py" 184,vi 1,vi 0,vi 0,vi 0,vi 0,rf 11,Value.bool false,vi 181,rf 12,Value.none,Value.none,Value.none,Value.none,vi 185,vi 1,vs "/claim/cut.py" 186],
 fO #[some (rf 13),some (rf 3),some (rf 3),none,some (vs "__main__" 164),none,some (rf 0)]],{}⟩,Array.mk [],{},187,os⟩
noncomputable def s_b(P:Params)(os:OsState):Shared:=⟨⟨Array.mk [
 boot_o_0 P,
 boot_o_1 P,
 boot_o_2 P,
 boot_o_3 P,
 boot_o_4 P,
 boot_o_5 P,
 boot_o_6 P,
 boot_o_7 P,
 boot_o_8 P,
 boot_o_9 P,
 boot_o_10 P,
 tO "tuple" #[],
 {cls:=Value.none,data:=Data.fields #[]},
 cO "code" #[vs "<module>" 182,vs "<module>" 183,vs "/claim/cut.py" 184,vi 1,vi 0,vi 0,vi 0,vi 0,rf 11,Value.bool false,vi 181,rf 12,Value.none,Value.none,Value.none,Value.none,vi 185,vi 1,vs "/claim/cut.py" 186],
 fO #[some (rf 13),some (rf 3),some (rf 3),none,some (vs "__main__" 164),none,some (rf 0)]],{}⟩,Array.mk [],{},187,os⟩
noncomputable def Ads(P:Params)(os:OsState):Shared:=⟨⟨Array.mk [
 boot_o_0 P,
 boot_o_1 P,
 boot_o_2 P,
 {cls:=Value.type "dict",data:=Data.dict #[dE P "__name__" 165 (vs "law_uf020033_07" 470),dE P "__doc__" 166 (Value.none),dE P "__package__" 167 (Value.none),dE P "__loader__" 168 (Value.builtin "__main__.__loader__#opaque"),dE P "__spec__" 169 (Value.none),dE P "__annotations__" 170 (rf 6),dE P "__builtins__" 171 (rf 4),dE P "__file__" 173 (vs "/claim/cut.py" 172),dE P "__cached__" 174 (Value.none),dE P "WebError" 206 (rf 24),dE P "BadWeb" 222 (rf 37),dE P "NoPoint" 238 (rf 49),dE P "BadText" 254 (rf 61),dE P "BadOrder" 270 (rf 73),dE P "HasGap" 286 (rf 85),dE P "is_order" 296 (rf 94),dE P "need_order" 304 (rf 101),dE P "those_behind" 310 (rf 106),dE P "first_untied" 321 (rf 113),dE P "gap" 331 (rf 120),dE P "filled" 337 (rf 125),dE P "need_whole" 347 (rf 132),dE P "crowd_at" 356 (rf 139),dE P "is_full" 362 (rf 144),dE P "full_crowds" 373 (rf 151),dE P "least_free" 381 (rf 158),dE P "coloured" 387 (rf 163),dE P "apart" 393 (rf 168),dE P "MOST" 397 (Value.int 60 396),dE P "Web" 463 (rf 213),dE P "web_of" 469 (rf 222),dE P "_law_cell_at" 479 (rf 229),dE P "_law_mixed" 487 (rf 236),dE P "_law_earlier" 503 (rf 243),dE P "_law_any_rows" 509 (rf 248)] 35},
 boot_o_4 P,
 boot_o_5 P,
 boot_o_6 P,
 boot_o_7 P,
 boot_o_8 P,
 boot_o_9 P,
 boot_o_10 P,
 tO "tuple" #[],
 {cls:=Value.none,data:=Data.fields #[vi 2,vi 0,rf 20,vi 4,vi 0,rf 33,vi 6,vi 0,rf 45,vi 8,vi 0,rf 57,vi 10,vi 0,rf 69,vi 12,vi 0,rf 81,vi 15,vi 0,rf 93,vi 17,vi 0,rf 100,vi 20,vi 0,rf 105,vi 23,vi 0,rf 112,vi 29,vi 0,rf 119,vi 36,vi 0,rf 124,vi 55,vi 0,rf 131,vi 58,vi 0,rf 138,vi 60,vi 0,rf 143,vi 65,vi 0,rf 150,vi 73,vi 0,rf 157,vi 78,vi 0,rf 162,vi 84,vi 0,rf 167,vi 95,vi 0,rf 174,vi 121,vi 0,rf 221,vi 133,vi 0,rf 228,vi 137,vi 0,rf 235,vi 139,vi 0,rf 242,vi 158,vi 0,rf 247]},
 cO "code" #[vs "<module>" 182,vs "<module>" 183,vs "/claim/cut.py" 184,vi 1,vi 0,vi 0,vi 0,vi 0,rf 11,Value.bool false,vi 181,rf 12,Value.none,Value.none,Value.none,Value.none,vi 185,vi 1,vs "/claim/cut.py" 186],
 fO #[some (rf 13),some (rf 3),some (rf 3),none,some (vs "__main__" 164),none,some (rf 0)],
 tO "tuple" #[Value.type "ValueError"],
 cO "builtin_function_or_method" #[Value.builtin "type.__prepare__",Value.type "type"],
 {cls:=Value.type "dict",data:=Data.dict #[dE P "__module__" 196 (vs "shortring.errors" 187),dE P "__qualname__" 198 (vs "WebError" 197),dE P "__firstlineno__" 200 (Value.int 2 199),dE P "__static_attributes__" 201 (rf 22)] 4},
 tO "tuple" #[],
 {cls:=Value.none,data:=Data.fields #[]},
 cO "code" #[vs "WebError" 191,vs "WebError" 192,vs "/claim/cut.py" 193,vi 2,vi 0,vi 0,vi 0,vi 0,rf 18,Value.bool false,vi 181,rf 19,Value.none,Value.none,Value.none,Value.none,vi 194,vi 2,vs "/claim/cut.py" 195],
 fO #[some (rf 20),some (rf 3),some (rf 17),none,some (vs "shortring.errors" 187),none,some (rf 0)],
 tO "tuple" #[],
 {cls:=Value.type "dict",data:=Data.dict #[dE P "__module__" 196 (vs "shortring.errors" 187),dE P "__firstlineno__" 200 (Value.int 2 199),dE P "__static_attributes__" 201 (rf 22),dE P "__weakref__" 203 (rf 25),dE P "__doc__" 204 (Value.none)] 3},
 {cls:=Value.type "type",data:=Data.cls {name:=Str.ofString "WebError",bases:=[Value.type "ValueError"],mro:=[rf 24,Value.type "ValueError",Value.type "Exception",Value.type "BaseException",Value.type "object"],ns:=23,qualname:=Str.ofString "WebError",subclasses:=[rf 37,rf 49,rf 61,rf 73,rf 85]},slots:= #[some (rf 15),none,some (vs "WebError" 189),some (vs "WebError" 197),some (Value.builtin "ValueError.__new__"),some (Value.bool true)]},
 cO "getset_descriptor" #[vs "__weakref__" 202,rf 24,Value.builtin "ExceptionGroup.__weakref__",Value.none],
 cO "super" #[rf 24,rf 24,rf 24],
 cO "builtin_function_or_method" #[Value.builtin "object.__init_subclass__",rf 24],
 tO "tuple" #[rf 24],
 cO "builtin_function_or_method" #[Value.builtin "type.__prepare__",Value.type "type"],
 {cls:=Value.type "dict",data:=Data.dict #[dE P "__module__" 214 (vs "shortring.errors" 187),dE P "__qualname__" 216 (vs "BadWeb" 215),dE P "__firstlineno__" 218 (Value.int 4 217),dE P "__static_attributes__" 219 (rf 35)] 4},
 tO "tuple" #[],
 {cls:=Value.none,data:=Data.fields #[]},
 cO "code" #[vs "BadWeb" 209,vs "BadWeb" 210,vs "/claim/cut.py" 211,vi 4,vi 0,vi 0,vi 0,vi 0,rf 31,Value.bool false,vi 181,rf 32,Value.none,Value.none,Value.none,Value.none,vi 212,vi 4,vs "/claim/cut.py" 213],
 fO #[some (rf 33),some (rf 3),some (rf 30),none,some (vs "shortring.errors" 187),none,some (rf 0)],
 tO "tuple" #[],
 {cls:=Value.type "dict",data:=Data.dict #[dE P "__module__" 214 (vs "shortring.errors" 187),dE P "__firstlineno__" 218 (Value.int 4 217),dE P "__static_attributes__" 219 (rf 35),dE P "__doc__" 220 (Value.none)] 2},
 {cls:=Value.type "type",data:=Data.cls {name:=Str.ofString "BadWeb",bases:=[rf 24],mro:=[rf 37,rf 24,Value.type "ValueError",Value.type "Exception",Value.type "BaseException",Value.type "object"],ns:=36,qualname:=Str.ofString "BadWeb"},slots:= #[some (rf 28),none,some (vs "BadWeb" 207),some (vs "BadWeb" 215),some (Value.builtin "ValueError.__new__"),some (Value.bool true)]},
 cO "super" #[rf 37,rf 37,rf 37],
 cO "builtin_function_or_method" #[Value.builtin "object.__init_subclass__",rf 37],
 tO "tuple" #[rf 24],
 cO "builtin_function_or_method" #[Value.builtin "type.__prepare__",Value.type "type"],
 {cls:=Value.type "dict",data:=Data.dict #[dE P "__module__" 230 (vs "shortring.errors" 187),dE P "__qualname__" 232 (vs "NoPoint" 231),dE P "__firstlineno__" 234 (Value.int 6 233),dE P "__static_attributes__" 235 (rf 47)] 4},
 tO "tuple" #[],
 {cls:=Value.none,data:=Data.fields #[]},
 cO "code" #[vs "NoPoint" 225,vs "NoPoint" 226,vs "/claim/cut.py" 227,vi 6,vi 0,vi 0,vi 0,vi 0,rf 43,Value.bool false,vi 181,rf 44,Value.none,Value.none,Value.none,Value.none,vi 228,vi 6,vs "/claim/cut.py" 229],
 fO #[some (rf 45),some (rf 3),some (rf 42),none,some (vs "shortring.errors" 187),none,some (rf 0)],
 tO "tuple" #[],
 {cls:=Value.type "dict",data:=Data.dict #[dE P "__module__" 230 (vs "shortring.errors" 187),dE P "__firstlineno__" 234 (Value.int 6 233),dE P "__static_attributes__" 235 (rf 47),dE P "__doc__" 236 (Value.none)] 2},
 {cls:=Value.type "type",data:=Data.cls {name:=Str.ofString "NoPoint",bases:=[rf 24],mro:=[rf 49,rf 24,Value.type "ValueError",Value.type "Exception",Value.type "BaseException",Value.type "object"],ns:=48,qualname:=Str.ofString "NoPoint"},slots:= #[some (rf 40),none,some (vs "NoPoint" 223),some (vs "NoPoint" 231),some (Value.builtin "ValueError.__new__"),some (Value.bool true)]},
 cO "super" #[rf 49,rf 49,rf 49],
 cO "builtin_function_or_method" #[Value.builtin "object.__init_subclass__",rf 49],
 tO "tuple" #[rf 24],
 cO "builtin_function_or_method" #[Value.builtin "type.__prepare__",Value.type "type"],
 {cls:=Value.type "dict",data:=Data.dict #[dE P "__module__" 246 (vs "shortring.errors" 187),dE P "__qualname__" 248 (vs "BadText" 247),dE P "__firstlineno__" 250 (Value.int 8 249),dE P "__static_attributes__" 251 (rf 59)] 4},
 tO "tuple" #[],
 {cls:=Value.none,data:=Data.fields #[]},
 cO "code" #[vs "BadText" 241,vs "BadText" 242,vs "/claim/cut.py" 243,vi 8,vi 0,vi 0,vi 0,vi 0,rf 55,Value.bool false,vi 181,rf 56,Value.none,Value.none,Value.none,Value.none,vi 244,vi 8,vs "/claim/cut.py" 245],
 fO #[some (rf 57),some (rf 3),some (rf 54),none,some (vs "shortring.errors" 187),none,some (rf 0)],
 tO "tuple" #[],
 {cls:=Value.type "dict",data:=Data.dict #[dE P "__module__" 246 (vs "shortring.errors" 187),dE P "__firstlineno__" 250 (Value.int 8 249),dE P "__static_attributes__" 251 (rf 59),dE P "__doc__" 252 (Value.none)] 2},
 {cls:=Value.type "type",data:=Data.cls {name:=Str.ofString "BadText",bases:=[rf 24],mro:=[rf 61,rf 24,Value.type "ValueError",Value.type "Exception",Value.type "BaseException",Value.type "object"],ns:=60,qualname:=Str.ofString "BadText"},slots:= #[some (rf 52),none,some (vs "BadText" 239),some (vs "BadText" 247),some (Value.builtin "ValueError.__new__"),some (Value.bool true)]},
 cO "super" #[rf 61,rf 61,rf 61],
 cO "builtin_function_or_method" #[Value.builtin "object.__init_subclass__",rf 61],
 tO "tuple" #[rf 24],
 cO "builtin_function_or_method" #[Value.builtin "type.__prepare__",Value.type "type"],
 {cls:=Value.type "dict",data:=Data.dict #[dE P "__module__" 262 (vs "shortring.errors" 187),dE P "__qualname__" 264 (vs "BadOrder" 263),dE P "__firstlineno__" 266 (Value.int 10 265),dE P "__static_attributes__" 267 (rf 71)] 4},
 tO "tuple" #[],
 {cls:=Value.none,data:=Data.fields #[]},
 cO "code" #[vs "BadOrder" 257,vs "BadOrder" 258,vs "/claim/cut.py" 259,vi 10,vi 0,vi 0,vi 0,vi 0,rf 67,Value.bool false,vi 181,rf 68,Value.none,Value.none,Value.none,Value.none,vi 260,vi 10,vs "/claim/cut.py" 261],
 fO #[some (rf 69),some (rf 3),some (rf 66),none,some (vs "shortring.errors" 187),none,some (rf 0)],
 tO "tuple" #[],
 {cls:=Value.type "dict",data:=Data.dict #[dE P "__module__" 262 (vs "shortring.errors" 187),dE P "__firstlineno__" 266 (Value.int 10 265),dE P "__static_attributes__" 267 (rf 71),dE P "__doc__" 268 (Value.none)] 2},
 {cls:=Value.type "type",data:=Data.cls {name:=Str.ofString "BadOrder",bases:=[rf 24],mro:=[rf 73,rf 24,Value.type "ValueError",Value.type "Exception",Value.type "BaseException",Value.type "object"],ns:=72,qualname:=Str.ofString "BadOrder"},slots:= #[some (rf 64),none,some (vs "BadOrder" 255),some (vs "BadOrder" 263),some (Value.builtin "ValueError.__new__"),some (Value.bool true)]},
 cO "super" #[rf 73,rf 73,rf 73],
 cO "builtin_function_or_method" #[Value.builtin "object.__init_subclass__",rf 73],
 tO "tuple" #[rf 24],
 cO "builtin_function_or_method" #[Value.builtin "type.__prepare__",Value.type "type"],
 {cls:=Value.type "dict",data:=Data.dict #[dE P "__module__" 278 (vs "shortring.errors" 187),dE P "__qualname__" 280 (vs "HasGap" 279),dE P "__firstlineno__" 282 (Value.int 12 281),dE P "__static_attributes__" 283 (rf 83)] 4},
 tO "tuple" #[],
 {cls:=Value.none,data:=Data.fields #[]},
 cO "code" #[vs "HasGap" 273,vs "HasGap" 274,vs "/claim/cut.py" 275,vi 12,vi 0,vi 0,vi 0,vi 0,rf 79,Value.bool false,vi 181,rf 80,Value.none,Value.none,Value.none,Value.none,vi 276,vi 12,vs "/claim/cut.py" 277],
 fO #[some (rf 81),some (rf 3),some (rf 78),none,some (vs "shortring.errors" 187),none,some (rf 0)],
 tO "tuple" #[],
 {cls:=Value.type "dict",data:=Data.dict #[dE P "__module__" 278 (vs "shortring.errors" 187),dE P "__firstlineno__" 282 (Value.int 12 281),dE P "__static_attributes__" 283 (rf 83),dE P "__doc__" 284 (Value.none)] 2},
 {cls:=Value.type "type",data:=Data.cls {name:=Str.ofString "HasGap",bases:=[rf 24],mro:=[rf 85,rf 24,Value.type "ValueError",Value.type "Exception",Value.type "BaseException",Value.type "object"],ns:=84,qualname:=Str.ofString "HasGap"},slots:= #[some (rf 76),none,some (vs "HasGap" 271),some (vs "HasGap" 279),some (Value.builtin "ValueError.__new__"),some (Value.bool true)]},
 cO "super" #[rf 85,rf 85,rf 85],
 cO "builtin_function_or_method" #[Value.builtin "object.__init_subclass__",rf 85],
 tO "tuple" #[],
 {cls:=Value.none,data:=Data.fields #[]},
 tO "tuple" #[vs "web" 292,vs "order" 293],
 tO "tuple" #[],
 My (A1 8) (Str.ofString "is_order"),
 cO "code" #[vs "is_order" 289,vs "is_order" 290,vs "/claim/cut.py" 291,vi 15,vi 2,vi 0,vi 0,vi 3,rf 88,Value.bool true,vi 181,rf 89,Value.none,rf 90,rf 91,rf 92,vi 294,vi 15,vs "/claim/cut.py" 295],
 Db (A1 8) (Str.ofString "is_order") (vs "shortring.orders" 287) 93,
 tO "tuple" #[],
 {cls:=Value.none,data:=Data.fields #[]},
 tO "tuple" #[vs "web" 300,vs "order" 301],
 tO "tuple" #[],
 My (A1 9) (Str.ofString "need_order"),
 cO "code" #[vs "need_order" 297,vs "need_order" 298,vs "/claim/cut.py" 299,vi 17,vi 2,vi 0,vi 0,vi 3,rf 95,Value.bool true,vi 181,rf 96,Value.none,rf 97,rf 98,rf 99,vi 302,vi 17,vs "/claim/cut.py" 303],
 Db (A1 9) (Str.ofString "need_order") (vs "shortring.orders" 287) 100,
 tO "tuple" #[],
 {cls:=Value.none,data:=Data.fields #[]},
 My (A1 10) (Str.ofString "those_behind"),
 cO "code" #[vs "those_behind" 305,vs "those_behind" 306,vs "/claim/cut.py" 307,vi 20,vi 3,vi 0,vi 0,vi 3,rf 102,Value.bool true,vi 181,rf 103,Value.none,Value.none,Value.none,rf 104,vi 308,vi 20,vs "/claim/cut.py" 309],
 Db (A1 10) (Str.ofString "those_behind") (vs "shortring.orders" 287) 105,
 tO "tuple" #[],
 {cls:=Value.none,data:=Data.fields #[]},
 tO "tuple" #[vs "web" 314,vs "row" 315,vs "k" 316,vs "one" 317,vs "other" 318],
 tO "tuple" #[],
 My (A1 11) (Str.ofString "first_untied"),
 cO "code" #[vs "first_untied" 311,vs "first_untied" 312,vs "/claim/cut.py" 313,vi 23,vi 2,vi 0,vi 0,vi 3,rf 107,Value.bool true,vi 181,rf 108,Value.none,rf 109,rf 110,rf 111,vi 319,vi 23,vs "/claim/cut.py" 320],
 Db (A1 11) (Str.ofString "first_untied") (vs "shortring.orders" 287) 112,
 tO "tuple" #[],
 {cls:=Value.none,data:=Data.fields #[]},
 tO "tuple" #[vs "web" 325,vs "order" 326,vs "point" 327,vs "pair" 328],
 tO "tuple" #[],
 My (A1 12) (Str.ofString "gap"),
 cO "code" #[vs "gap" 322,vs "gap" 323,vs "/claim/cut.py" 324,vi 29,vi 2,vi 0,vi 0,vi 3,rf 114,Value.bool true,vi 181,rf 115,Value.none,rf 116,rf 117,rf 118,vi 329,vi 29,vs "/claim/cut.py" 330],
 Db (A1 12) (Str.ofString "gap") (vs "shortring.orders" 287) 119,
 tO "tuple" #[],
 {cls:=Value.none,data:=Data.fields #[]},
 My (A1 13) (Str.ofString "filled"),
 cO "code" #[vs "filled" 332,vs "filled" 333,vs "/claim/cut.py" 334,vi 36,vi 2,vi 0,vi 0,vi 3,rf 121,Value.bool true,vi 181,rf 122,Value.none,Value.none,Value.none,rf 123,vi 335,vi 36,vs "/claim/cut.py" 336],
 Db (A1 13) (Str.ofString "filled") (vs "shortring.orders" 287) 124,
 tO "tuple" #[],
 {cls:=Value.none,data:=Data.fields #[]},
 tO "tuple" #[vs "web" 343,vs "order" 344],
 tO "tuple" #[],
 My (A1 15) (Str.ofString "need_whole"),
 cO "code" #[vs "need_whole" 340,vs "need_whole" 341,vs "/claim/cut.py" 342,vi 55,vi 2,vi 0,vi 0,vi 3,rf 126,Value.bool true,vi 181,rf 127,Value.none,rf 128,rf 129,rf 130,vi 345,vi 55,vs "/claim/cut.py" 346],
 Db (A1 15) (Str.ofString "need_whole") (vs "shortring.crowds" 338) 131,
 tO "tuple" #[],
 {cls:=Value.none,data:=Data.fields #[]},
 tO "tuple" #[vs "web" 351,vs "order" 352,vs "point" 353],
 tO "tuple" #[],
 My (A1 16) (Str.ofString "crowd_at"),
 cO "code" #[vs "crowd_at" 348,vs "crowd_at" 349,vs "/claim/cut.py" 350,vi 58,vi 3,vi 0,vi 0,vi 3,rf 133,Value.bool true,vi 181,rf 134,Value.none,rf 135,rf 136,rf 137,vi 354,vi 58,vs "/claim/cut.py" 355],
 Db (A1 16) (Str.ofString "crowd_at") (vs "shortring.crowds" 338) 138,
 tO "tuple" #[],
 {cls:=Value.none,data:=Data.fields #[]},
 My (A1 17) (Str.ofString "is_full"),
 cO "code" #[vs "is_full" 357,vs "is_full" 358,vs "/claim/cut.py" 359,vi 60,vi 2,vi 0,vi 0,vi 3,rf 140,Value.bool true,vi 181,rf 141,Value.none,Value.none,Value.none,rf 142,vi 360,vi 60,vs "/claim/cut.py" 361],
 Db (A1 17) (Str.ofString "is_full") (vs "shortring.crowds" 338) 143,
 tO "tuple" #[],
 {cls:=Value.none,data:=Data.fields #[]},
 tO "tuple" #[vs "web" 366,vs "order" 367,vs "found" 368,vs "point" 369,vs "crowd" 370],
 tO "tuple" #[],
 My (A1 18) (Str.ofString "full_crowds"),
 cO "code" #[vs "full_crowds" 363,vs "full_crowds" 364,vs "/claim/cut.py" 365,vi 65,vi 2,vi 0,vi 0,vi 3,rf 145,Value.bool true,vi 181,rf 146,Value.none,rf 147,rf 148,rf 149,vi 371,vi 65,vs "/claim/cut.py" 372],
 Db (A1 18) (Str.ofString "full_crowds") (vs "shortring.crowds" 338) 150,
 tO "tuple" #[],
 {cls:=Value.none,data:=Data.fields #[]},
 tO "tuple" #[vs "used" 377,vs "colour" 378],
 tO "tuple" #[],
 My (A1 19) (Str.ofString "least_free"),
 cO "code" #[vs "least_free" 374,vs "least_free" 375,vs "/claim/cut.py" 376,vi 73,vi 1,vi 0,vi 0,vi 3,rf 152,Value.bool true,vi 181,rf 153,Value.none,rf 154,rf 155,rf 156,vi 379,vi 73,vs "/claim/cut.py" 380],
 Db (A1 19) (Str.ofString "least_free") (vs "shortring.crowds" 338) 157,
 tO "tuple" #[],
 {cls:=Value.none,data:=Data.fields #[]},
 My (A1 20) (Str.ofString "coloured"),
 cO "code" #[vs "coloured" 382,vs "coloured" 383,vs "/claim/cut.py" 384,vi 78,vi 2,vi 0,vi 0,vi 3,rf 159,Value.bool true,vi 181,rf 160,Value.none,Value.none,Value.none,rf 161,vi 385,vi 78,vs "/claim/cut.py" 386],
 Db (A1 20) (Str.ofString "coloured") (vs "shortring.crowds" 338) 162,
 tO "tuple" #[],
 {cls:=Value.none,data:=Data.fields #[]},
 My (A1 21) (Str.ofString "apart"),
 cO "code" #[vs "apart" 388,vs "apart" 389,vs "/claim/cut.py" 390,vi 84,vi 2,vi 0,vi 0,vi 3,rf 164,Value.bool true,vi 181,rf 165,Value.none,Value.none,Value.none,rf 166,vi 391,vi 84,vs "/claim/cut.py" 392],
 Db (A1 21) (Str.ofString "apart") (vs "shortring.crowds" 338) 167,
 tO "tuple" #[],
 cO "builtin_function_or_method" #[Value.builtin "type.__prepare__",Value.type "type"],
 {cls:=Value.type "dict",data:=Data.dict #[dE P "__module__" 405 (vs "shortring.webs" 394),dE P "__qualname__" 407 (vs "Web" 406),dE P "__firstlineno__" 409 (Value.int 95 408),dE P "__init__" 418 (rf 182),dE P "need" 426 (rf 189),dE P "beside" 434 (rf 196),dE P "tied" 443 (rf 203),dE P "ties" 453 (rf 210),dE P "__static_attributes__" 456 (rf 211)] 9},
 tO "tuple" #[],
 {cls:=Value.none,data:=Data.fields #[vi 97,vi 4,rf 181,vi 101,vi 4,rf 188,vi 105,vi 4,rf 195,vi 109,vi 4,rf 202,vi 114,vi 4,rf 209]},
 cO "code" #[vs "Web" 400,vs "Web" 401,vs "/claim/cut.py" 402,vi 95,vi 0,vi 0,vi 0,vi 0,rf 172,Value.bool false,vi 181,rf 173,Value.none,Value.none,Value.none,Value.none,vi 403,vi 95,vs "/claim/cut.py" 404],
 fO #[some (rf 174),some (rf 3),some (rf 171),none,some (vs "shortring.webs" 394),none,some (rf 0)],
 tO "tuple" #[],
 {cls:=Value.none,data:=Data.fields #[]},
 tO "tuple" #[vs "self" 413,vs "many" 414,vs "rows" 415],
 tO "tuple" #[],
 My (Jb 24 0) (Str.ofString "Web.__init__"),
 cO "code" #[vs "__init__" 410,vs "Web.__init__" 411,vs "/claim/cut.py" 412,vi 97,vi 3,vi 0,vi 0,vi 3,rf 176,Value.bool true,vi 181,rf 177,Value.none,rf 178,rf 179,rf 180,vi 416,vi 97,vs "/claim/cut.py" 417],
 Db (Jb 24 0) (Str.ofString "Web.__init__") (vs "shortring.webs" 394) 181,
 tO "tuple" #[],
 {cls:=Value.none,data:=Data.fields #[]},
 tO "tuple" #[vs "self" 422,vs "point" 423],
 tO "tuple" #[],
 My (Jb 24 1) (Str.ofString "Web.need"),
 cO "code" #[vs "need" 419,vs "Web.need" 420,vs "/claim/cut.py" 421,vi 101,vi 2,vi 0,vi 0,vi 3,rf 183,Value.bool true,vi 181,rf 184,Value.none,rf 185,rf 186,rf 187,vi 424,vi 101,vs "/claim/cut.py" 425],
 Db (Jb 24 1) (Str.ofString "Web.need") (vs "shortring.webs" 394) 188,
 tO "tuple" #[],
 {cls:=Value.none,data:=Data.fields #[]},
 tO "tuple" #[vs "self" 430,vs "point" 431],
 tO "tuple" #[],
 My (Jb 24 2) (Str.ofString "Web.beside"),
 cO "code" #[vs "beside" 427,vs "Web.beside" 428,vs "/claim/cut.py" 429,vi 105,vi 2,vi 0,vi 0,vi 3,rf 190,Value.bool true,vi 181,rf 191,Value.none,rf 192,rf 193,rf 194,vi 432,vi 105,vs "/claim/cut.py" 433],
 Db (Jb 24 2) (Str.ofString "Web.beside") (vs "shortring.webs" 394) 195,
 tO "tuple" #[],
 {cls:=Value.none,data:=Data.fields #[]},
 tO "tuple" #[vs "self" 438,vs "one" 439,vs "other" 440],
 tO "tuple" #[],
 My (Jb 24 3) (Str.ofString "Web.tied"),
 cO "code" #[vs "tied" 435,vs "Web.tied" 436,vs "/claim/cut.py" 437,vi 109,vi 3,vi 0,vi 0,vi 3,rf 197,Value.bool true,vi 181,rf 198,Value.none,rf 199,rf 200,rf 201,vi 441,vi 109,vs "/claim/cut.py" 442],
 Db (Jb 24 3) (Str.ofString "Web.tied") (vs "shortring.webs" 394) 202,
 tO "tuple" #[],
 {cls:=Value.none,data:=Data.fields #[]},
 tO "tuple" #[vs "self" 447,vs "found" 448,vs "one" 449,vs "other" 450],
 tO "tuple" #[],
 My (Jb 24 4) (Str.ofString "Web.ties"),
 cO "code" #[vs "ties" 444,vs "Web.ties" 445,vs "/claim/cut.py" 446,vi 114,vi 1,vi 0,vi 0,vi 3,rf 204,Value.bool true,vi 181,rf 205,Value.none,rf 206,rf 207,rf 208,vi 451,vi 114,vs "/claim/cut.py" 452],
 Db (Jb 24 4) (Str.ofString "Web.ties") (vs "shortring.webs" 394) 209,
 tO "tuple" #[vs "many" 454,vs "rows" 455],
 {cls:=Value.type "dict",data:=Data.dict #[dE P "__module__" 405 (vs "shortring.webs" 394),dE P "__firstlineno__" 409 (Value.int 95 408),dE P "__init__" 418 (rf 182),dE P "need" 426 (rf 189),dE P "beside" 434 (rf 196),dE P "tied" 443 (rf 203),dE P "ties" 453 (rf 210),dE P "__static_attributes__" 456 (rf 211),dE P "__dict__" 458 (rf 214),dE P "__weakref__" 460 (rf 215),dE P "__doc__" 461 (Value.none)] 4},
 {cls:=Value.type "type",data:=Data.cls {name:=Str.ofString "Web",bases:=[Value.type "object"],mro:=[rf 213,Value.type "object"],ns:=212,qualname:=Str.ofString "Web"},slots:= #[none,none,some (vs "Web" 398),some (vs "Web" 406),some (Value.builtin "object.__new__"),some (Value.bool true)]},
 cO "getset_descriptor" #[vs "__dict__" 457,rf 213,Value.builtin "function.__dict__",Value.builtin "function.__dict__#set"],
 cO "getset_descriptor" #[vs "__weakref__" 459,rf 213,Value.builtin "ExceptionGroup.__weakref__",Value.none],
 cO "super" #[rf 213,rf 213,rf 213],
 cO "builtin_function_or_method" #[Value.builtin "object.__init_subclass__",rf 213],
 tO "tuple" #[],
 {cls:=Value.none,data:=Data.fields #[]},
 My (A1 25) (Str.ofString "web_of"),
 cO "code" #[vs "web_of" 464,vs "web_of" 465,vs "/claim/cut.py" 466,vi 121,vi 2,vi 0,vi 0,vi 3,rf 218,Value.bool true,vi 181,rf 219,Value.none,Value.none,Value.none,rf 220,vi 467,vi 121,vs "/claim/cut.py" 468],
 Db (A1 25) (Str.ofString "web_of") (vs "shortring.webs" 394) 221,
 tO "tuple" #[],
 {cls:=Value.none,data:=Data.fields #[]},
 tO "tuple" #[vs "_law_script" 475,vs "_law_k" 476],
 tO "tuple" #[],
 My (A1 27) (Str.ofString "_law_cell_at"),
 cO "code" #[vs "_law_cell_at" 472,vs "_law_cell_at" 473,vs "/claim/cut.py" 474,vi 133,vi 2,vi 0,vi 0,vi 3,rf 223,Value.bool true,vi 181,rf 224,Value.none,rf 225,rf 226,rf 227,vi 477,vi 133,vs "/claim/cut.py" 478],
 Db (A1 27) (Str.ofString "_law_cell_at") (vs "law_uf020033_07" 470) 228,
 tO "tuple" #[],
 {cls:=Value.none,data:=Data.fields #[]},
 tO "tuple" #[vs "_law_cell" 483,vs "_law_k" 484],
 tO "tuple" #[],
 My (A1 28) (Str.ofString "_law_mixed"),
 cO "code" #[vs "_law_mixed" 480,vs "_law_mixed" 481,vs "/claim/cut.py" 482,vi 137,vi 2,vi 0,vi 0,vi 3,rf 230,Value.bool true,vi 181,rf 231,Value.none,rf 232,rf 233,rf 234,vi 485,vi 137,vs "/claim/cut.py" 486],
 Db (A1 28) (Str.ofString "_law_mixed") (vs "law_uf020033_07" 470) 235,
 tO "tuple" #[],
 {cls:=Value.none,data:=Data.fields #[]},
 tO "tuple" #[vs "_law_script" 491,vs "_law_many_here" 492,vs "_law_ring" 493,vs "_law_rows_here" 494,vs "_law_k" 495,vs "_law_cell" 496,vs "_law_row" 497,vs "_law_mate" 498,vs "_law_left" 499,vs "_law_one" 500],
 tO "tuple" #[],
 My (A1 29) (Str.ofString "_law_earlier"),
 cO "code" #[vs "_law_earlier" 488,vs "_law_earlier" 489,vs "/claim/cut.py" 490,vi 139,vi 3,vi 0,vi 0,vi 3,rf 237,Value.bool true,vi 181,rf 238,Value.none,rf 239,rf 240,rf 241,vi 501,vi 139,vs "/claim/cut.py" 502],
 Db (A1 29) (Str.ofString "_law_earlier") (vs "law_uf020033_07" 470) 242,
 tO "tuple" #[],
 {cls:=Value.none,data:=Data.fields #[]},
 My (A1 30) (Str.ofString "_law_any_rows"),
 cO "code" #[vs "_law_any_rows" 504,vs "_law_any_rows" 505,vs "/claim/cut.py" 506,vi 158,vi 2,vi 0,vi 0,vi 3,rf 244,Value.bool true,vi 181,rf 245,Value.none,Value.none,Value.none,rf 246,vi 507,vi 158,vs "/claim/cut.py" 508],
 Db (A1 30) (Str.ofString "_law_any_rows") (vs "law_uf020033_07" 470) 247],{}⟩,Array.mk [],{},510,os⟩
theorem Af3:∀w:World,(fun os=>topGo treeTable PySem.Challenge.pw_uf020033_07 w 11 (some (Value.ref 6)) 12 ⟨boot_heap w.params,Array.mk [],boot_drawn,boot_toks,os⟩ (topStub PySem.Challenge.pw_uf020033_07))=fun os=>some (s_a w.params os,⟨denote treeTable hC,hC,{line:=0,col:=0,endLine:=0,endCol:=0},hF⟩):=by
 intro w
 kernel_rfl
theorem Af4:∀w:World,(fun os=>segRun treeTable PySem.Challenge.pw_uf020033_07 w 11 (some (Value.ref 6)) 1 1 (s_a w.params os) (blockOf hB Abq hC {line:=0,col:=0,endLine:=0,endCol:=0} hF))=fun os=>some (Flow.next,s_b w.params os,hC,{line:=0,col:=0,endLine:=0,endCol:=0}):=by
 intro w
 kernel_rfl
theorem Wc{p:Program}{w:World}{n₀:Nat}{ann:Option Value}{env:Env}{q:Pos}(k:Nat){n N:Nat}{s s' r:Shared}{b:List Stmt}{c:Code}{pos p':Pos}(h:segRun treeTable p w n₀ ann 1 n s (piecesOf (b.take k) env c pos [topFrame q])=some (.next,s',c,p'))
 (t:topRun treeTable p w n₀ ann N s' (restOf (b.drop k) env c p' [topFrame q])=some r):topRun treeTable p w n₀ ann (n+N) s (restOf b env c pos [topFrame q])=some r:=by
 have:=piece_app h t
 rwa[List.take_append_drop]at this
theorem Af5:∀w:World,(fun os=>segRun treeTable PySem.Challenge.pw_uf020033_07 w 11 (some (Value.ref 6)) 1 2225 (s_b w.params os) (piecesOf ((hB).take 31) Abq hC {line:=0,col:=0,endLine:=0,endCol:=0} hF))=fun os=>some (Flow.next,Ads w.params os,hC,{line:=158,col:=0,endLine:=167,endCol:=25}):=by
 intro w
 kernel_rfl
theorem Af6:∀w:World,(fun os=>(topRun treeTable PySem.Challenge.pw_uf020033_07 w 11 (some (Value.ref 6)) 697 (Ads w.params os) (restOf ((hB).drop 31) Abq hC {line:=158,col:=0,endLine:=167,endCol:=25} hF)).map (fun s=>(staticsOk (importedModules PySem.Challenge.pw_uf020033_07.main.body) (boot_heap w.params) s.heap&&namesBound PySem.Challenge.pw_uf020033_07 s.heap&&gensDone s&&laidKept (boot_heap w.params) s.heap,openSeen kq [] (importedModules PySem.Challenge.pw_uf020033_07.main.body) (fun s=>xlAt kq [] s&&recOk (RowW.records PySem.Challenge.rw_uf020033_07.row.toRowW) s) true s,Hook.obs kH s)))=fun os=>some (true,openGood kq [],Hook.val kH w):=by
 intro w
 kernel_rfl
theorem Xv{p q:Program}{loose:List Str}{Xt:Shared->Bool}{α:Type}{Yf:Shared->α}{Ya:World->α}{N:Nat}{H₀:Params->Heap}{gs₀:Array GenState}{d₀:Drawn}{k₀:Nat}{m₀:Nat}{ann:Option Value}{M:Nat}
 (op:∀w:World,(fencedOpening treeTable p w N).map (fun s=>(s.heap,s.gens,s.drawn,s.toks))=some (H₀ w.params,gs₀,d₀,k₀))
 (size:∀w:World,((H₀ w.params).isNs mainGlobals&&gs₀.size==0,(H₀ w.params).objs.size,(H₀ w.params).nsMap mainGlobals "__annotations__")=(true,m₀,ann))
 (run:∀(w:World) (os:OsState),∃r,topRun treeTable p w m₀ ann M ⟨H₀ w.params,gs₀,d₀,k₀,os⟩ (topStub p)=some r/\(staticsOk (importedModules p.main.body) (H₀ w.params) r.heap&&namesBound p r.heap&&gensDone r&&laidKept (H₀ w.params) r.heap)=true/\openSeen q loose (importedModules p.main.body) Xt true r=openGood q loose/\Yf r=Ya w)
 (le:Nat.ble M N=true):LeftO p q loose Xt Yf Ya N:=fun w=>by
 obtain⟨⟨h,gs,d,k,os⟩,e,e'⟩:=Option.map_eq_some_iff.mp (op w)
 obtain⟨rfl,rfl,rfl,rfl⟩:h=H₀ w.params/\gs=gs₀/\d=d₀/\k=k₀:=by simpa using e'
 obtain⟨z1,z2,z3⟩:_/\_/\_:=by simpa only[Prod.mk.injEq]using size w
 obtain⟨r,hr,l1,l2,l3⟩:=run w os
 have r':=topRun_mono (N-M) _ _ _ _ hr
 rw[show M+(N-M)=N by have:=Nat.le_of_ble_eq_true le;omega]at r'
 have t:topFrom treeTable p w N ⟨H₀ w.params,gs,d,k,os⟩=some r:=by
  unfold topFrom
  dsimp only
  rw[z1,z2,z3,r']
  show (match staticsOk (importedModules p.main.body) (H₀ w.params) r.heap&&namesBound p r.heap&&gensDone r&&laidKept (H₀ w.params) r.heap with|true=>_|false=>_)=_
  rw[l1]
 unfold openEnds
 rw[e]
 show (topFrom treeTable p w N _).map _=_
 rw[t]
 exact congrArg some (Prod.ext l2 l3)
theorem b_e:opening PySem.Challenge.pw_uf020033_07=plainProg PySem.Challenge.pw_uf020033_07.main.scope.names:=by kernel_rfl
theorem b_f(s:Shared):fenceModules? PySem.Challenge.pw_uf020033_07 s=some s:=by kernel_rfl
theorem Aea(w:World):((boot_heap w.params).isNs mainGlobals&&(Array.mk ([]:List GenState)).size==0,(boot_heap w.params).objs.size,(boot_heap w.params).nsMap mainGlobals "__annotations__")=(true,11,some (Value.ref 6)):=by kernel_rfl
theorem Ev:LeftO PySem.Challenge.pw_uf020033_07 kq [] (fun s=>xlAt kq [] s&&recOk (RowW.records PySem.Challenge.rw_uf020033_07.row.toRowW) s) (Hook.obs kH) (Hook.val kH) 5754:=
 Xv (M:=12+(1+(2225+(697)))) (boot_open b_e (by decide) b_f) Aea (fun w os=>by
  obtain⟨r,hr,ho⟩:=Option.map_eq_some_iff.mp (congrFun (Af6 w) os)
  obtain⟨o1,ho⟩:=Prod.mk.inj ho
  obtain⟨o2,o3⟩:=Prod.mk.inj ho
  exact⟨r,go_top (congrFun (Af3 w) os) (piece_block (congrFun (Af4 w) os) (Wc 31 (congrFun (Af5 w) os) (hr))),o1,o2,o3⟩) (by decide)
end Mine.Internal.Cl
namespace Mine.Internal
open PySem
theorem Aa{p:Prop}(h:¬p->False):p:=Classical.byContradiction h
inductive Hn{α0:Type}(p:α0->Prop):Prop
 | mk (x0:α0) (h:p x0)
inductive Ho{α0 α1:Type}(p:α0->α1->Prop):Prop
 | mk (x0:α0) (x1:α1) (h:p x0 x1)
inductive Tg{α0 α1 α2:Type}(p:α0->α1->α2->Prop):Prop
 | mk (x0:α0) (x1:α1) (x2:α2) (h:p x0 x1 x2)
inductive Ex4{α0 α1 α2 α3:Type}(p:α0->α1->α2->α3->Prop):Prop
 | mk (x0:α0) (x1:α1) (x2:α2) (x3:α3) (h:p x0 x1 x2 x3)
inductive Ex5{α0 α1 α2 α3 α4:Type}(p:α0->α1->α2->α3->α4->Prop):Prop
 | mk (x0:α0) (x1:α1) (x2:α2) (x3:α3) (x4:α4) (h:p x0 x1 x2 x3 x4)
inductive Ex6{α0 α1 α2 α3 α4 α5:Type}(p:α0->α1->α2->α3->α4->α5->Prop):Prop
 | mk (x0:α0) (x1:α1) (x2:α2) (x3:α3) (x4:α4) (x5:α5) (h:p x0 x1 x2 x3 x4 x5)
inductive Ex7{α0 α1 α2 α3 α4 α5 α6:Type}(p:α0->α1->α2->α3->α4->α5->α6->Prop):Prop
 | mk (x0:α0) (x1:α1) (x2:α2) (x3:α3) (x4:α4) (x5:α5) (x6:α6) (h:p x0 x1 x2 x3 x4 x5 x6)
inductive Fx(a0 a1 a2:Prop):Prop
 | mk (h0:a0) (h1:a1) (h2:a2)
inductive Jy(a0 a1 a2 a3:Prop):Prop
 | mk (h0:a0) (h1:a1) (h2:a2) (h3:a3)
inductive Xq(a0 a1 a2 a3 a4:Prop):Prop
 | mk (h0:a0) (h1:a1) (h2:a2) (h3:a3) (h4:a4)
inductive An6(a0 a1 a2 a3 a4 a5:Prop):Prop
 | mk (h0:a0) (h1:a1) (h2:a2) (h3:a3) (h4:a4) (h5:a5)
inductive An7(a0 a1 a2 a3 a4 a5 a6:Prop):Prop
 | mk (h0:a0) (h1:a1) (h2:a2) (h3:a3) (h4:a4) (h5:a5) (h6:a6)
inductive An8(a0 a1 a2 a3 a4 a5 a6 a7:Prop):Prop
 | mk (h0:a0) (h1:a1) (h2:a2) (h3:a3) (h4:a4) (h5:a5) (h6:a6) (h7:a7)
inductive Aig(a0 a1 a2 a3 a4 a5 a6 a7 a8 a9 a10 a11 a12:Prop):Prop
 | mk (h0:a0) (h1:a1) (h2:a2) (h3:a3) (h4:a4) (h5:a5) (h6:a6) (h7:a7) (h8:a8) (h9:a9) (h10:a10) (h11:a11) (h12:a12)
inductive V where
 | none|bool (b:Bool)|int (i:Int)|str (s:Str)|ref (a:Nat)|fn (f:Str)|script (ns:List Int)
inductive Dc where
 | web|verdict|webError|badWeb|noPoint|badText|badOrder|hasGap
 deriving DecidableEq
inductive Ee where
 | many|rows
 deriving DecidableEq
inductive Ty where
 | int|bool|list
 deriving DecidableEq
inductive BI where
 | len|list|listRange|sorted|max|min|minL|all|any|lenSet|sortedSet|isinst (t:Ty)|str|int
 deriving DecidableEq
inductive LM where
 | append|clear|count|extend|index|remove|reverse|setdefault|split|join
 deriving DecidableEq
inductive O where
 | list (xs:List V)|tuple (xs:List V)|dict (es:List (Int×V))|inst (c:Dc) (d:Nat)|ns (fs:List (Ee×V))|exc (c:Dc)
noncomputable abbrev AH:=Nat->Option O
noncomputable def upd(h:AH)(a:Nat)(o:O):AH:=fun b=>if b=a then some o else h b
noncomputable abbrev Aj:=List (Option V)
set_option genCtorIdx false in
inductive X where
 | omit
 | cnone|cbool (b:Bool)|cint (i:Int)|cstr (s:Str)
 | var (i:Nat)
 | glob (g:Str)
 | fnv (f:Str)
 | not (e:X)|neg (e:X)
 | and (l r:X)|or (l r:X)
 | bin (op:Operator) (l r:X)
 | cmp (op:CmpOp) (l r:X)
 | chain (l:X) (op1:CmpOp) (m:X) (op2:CmpOp) (r:X)
 | ite (t a b:X)
 | call (f:Str) (args:List X)
 | callv (f:X) (args:List X)
 | mk (c:Dc) (args:List X)
 | meth (m:Str) (o:X) (args:List X)
 | bi (b:BI) (args:List X)
 | isown (c:Dc) (e:X)
 | isVE (e:X)
 | lm (m:LM) (o:X) (args:List X)
 | attr (o:X) (a:Ee)
 | sub (o i:X)
 | slice (o l u s:X)
 | list (es:List X)|tuple (es:List X)|dict (ks vs:List X)
 | range (args:List X)|enum (e:X)|rev (e:X)|val (e:X)
 | comp (k:Nat) (src elt:X)
 | compIf (k:Nat) (src cond elt:X)
set_option genCtorIdx false in
inductive Rc where
 | one (i:Nat)|two (i j:Nat)
set_option genCtorIdx false in
inductive S where
 | assign (i:Nat) (e:X)
 | setattr (o:X) (a:Ee) (e:X)
 | setitem (o i e:X)
 | expr (e:X)
 | ite (t:X) (a b:List S)
 | for (t:Rc) (src:X) (body:List S)
 | while (t:X) (body:List S)
 | ret (e:X)
 | pass
 | raise (c:Dc)
 | try1 (body:List S) (c:Dc) (as:Option Nat) (h:List S)
 | try2 (body:List S) (c:Dc) (as:Option Nat) (h:List S) (c':Dc) (h':List S)
set_option genCtorIdx false in
structure Fn where
 slots:Nat
 arity:Nat
 body:List S
set_option genCtorIdx false in
structure Ax where
 fn:Str->Option Fn
 const:Str->Option V
 exc:Dc->Bool
noncomputable abbrev Af:=V->AH->Prop
noncomputable abbrev EP:=V->AH->Prop
noncomputable abbrev EF:EP:=fun _ _=>False
noncomputable abbrev CS:=Str->List V->AH->Af->EP->Prop
noncomputable def Cg:Nat:=1048576
noncomputable def An(o:O)(H:AH)(Q:Af):Prop:=∀a,H a=none->Q (.ref a) (upd H a o)
noncomputable def A2(v:V)(P:Nat->Prop):Prop:=match v with | .ref a=>P a|_=>False
noncomputable def Ap(v:V)(P:Int->Prop):Prop:=match v with | .int i=>P i|_=>False
noncomputable def Hm(o:Option O)(P:List V->Prop):Prop:=match o with|some (.list xs)=>P xs|_=>False
noncomputable def Xr(o:Option O)(P:List (Int×V)->Prop):Prop:=match o with|some (.dict es)=>P es|_=>False
noncomputable def Mz(o:Option O)(P:Dc->Nat->Prop):Prop:=match o with|some (.inst c d)=>P c d|_=>False
noncomputable def Uw(o:Option O)(P:Nat->Prop):Prop:=match o with|some (.inst .web d)=>P d|_=>False
noncomputable def Rd(o:Option O)(P:List (Ee×V)->Prop):Prop:=match o with|some (.ns fs)=>P fs|_=>False
noncomputable def Fy{α:Type}(o:Option α)(P:α->Prop):Prop:=match o with|some x=>P x|none=>False
noncomputable def We(vs:List V)(P:Prop):Prop:=match vs with | []=>P|_=>False
noncomputable def Oj(vs:List V)(P:V->Prop):Prop:=match vs with | [v]=>P v|_=>False
noncomputable def Ux(vs:List V)(P:V->V->Prop):Prop:=match vs with | [v,w]=>P v w|_=>False
noncomputable def ints? :List V->Option (List Int)
 | []=>some []
 | .int i::r=>(ints? r).map (i :: ·)
 | _=>none
noncomputable def bools? :List V->Option (List Bool)
 | []=>some []
 | .bool b::r=>(bools? r).map (b :: ·)
 | _=>none
noncomputable def Mc(x:Int):List Int->List Int
 | []=>[x]
 | y::r=>if x<=y then x::y::r else y::Mc x r
noncomputable def B9:List Int->List Int
 | []=>[]
 | x::r=>Mc x (B9 r)
noncomputable def Di(k:Int)(n:Nat):Option Nat:=
 if 0<=k then(if k<n then some k.toNat else none)else(if 0<=k+n then some (k+n).toNat else none)
noncomputable def E5(k:Int)(n:Nat):Nat:=if k<0 then(k+n).toNat else min k.toNat n
noncomputable def dget(es:List (Int×V))(k:Int):Option V:=es.lookup k
noncomputable def C3(es:List (Int×V))(k:Int)(v:V):List (Int×V):=
 match es with
 | []=>[(k,v)]
 | (k',v')::r=>if k=k' then(k,v)::r else(k',v')::C3 r k v
noncomputable def Md(fs:List (Ee×V))(a:Ee):Option V:=fs.lookup a
noncomputable def Me(fs:List (Ee×V))(k:Ee)(v:V):List (Ee×V):=
 match fs with
 | []=>[(k,v)]
 | (k',v')::r=>if k=k' then(k,v)::r else(k',v')::Me r k v
noncomputable def Xu:V->V->Option Bool
 | .int i,.int j=>some (decide (i=j))
 | .bool a,.bool b=>some (a==b)
 | .none,.none=>some true
 | .none,.int _=>some false
 | .int _,.none=>some false
 | .none,.bool _=>some false
 | .bool _,.none=>some false
 | .str x,.str y=>some (decide (x=y))
 | _,_=>none
noncomputable def Gc:List (Option Bool)->Option Bool
 | []=>some true
 | none::_=>none
 | some r::t=>(Gc t).map (r && ·)
noncomputable def Th:List (Option Bool)->Option Bool
 | []=>some false
 | none::_=>none
 | some r::t=>(Th t).map (r || ·)
noncomputable def K0:Nat->AH->V->V->Option Bool
 | 0,_,a,b=>Xu a b
 | n+1,H,a,b=>match a,b with
   | .ref x,.ref y=>(match H x,H y with
     | some (.list xs),some (.list ys)=>if xs.length=ys.length then Gc (List.zipWith (K0 n H) xs ys)else some false
     | some (.tuple xs),some (.tuple ys)=>if xs.length=ys.length then Gc (List.zipWith (K0 n H) xs ys)else none
     | _,_=>none)
   | .ref x,.none=>(match H x with|some (.list _)=>some false|some (.tuple _)=>some false|_=>none)
   | .none,.ref x=>(match H x with|some (.list _)=>some false|some (.tuple _)=>some false|_=>none)
   | a,b=>Xu a b
noncomputable def Wg(v:V)(xs:List V):Option Bool:=Th (xs.map fun x=>Xu x v)
noncomputable def E6:Nat:=5
noncomputable def Af8(a b:V)(H:AH)(Q:Af):Prop:=Ap a fun i=>Ap b fun j=>Q (.bool (decide (i<j))) H
noncomputable def Af9(a b:V)(H:AH)(Q:Af):Prop:=Ap a fun i=>Ap b fun j=>Q (.bool (decide (i<=j))) H
noncomputable def Aga(a b:V)(H:AH)(Q:Af):Prop:=Ap a fun i=>Ap b fun j=>Q (.bool (decide (j<i))) H
noncomputable def Agb(a b:V)(H:AH)(Q:Af):Prop:=Ap a fun i=>Ap b fun j=>Q (.bool (decide (j<=i))) H
noncomputable def isB:V->V->Option Bool
 | .none,.none=>some true
 | .bool x,.bool y=>some (x==y)
 | .ref _,.none=>some false
 | .int _,.none=>some false
 | .bool _,.none=>some false
 | .str _,.none=>some false
 | _,_=>none
noncomputable def Agc(a b:V)(H:AH)(Q:Af):Prop:=Fy (isB a b) fun r=>Q (.bool r) H
noncomputable def Adt(a b:V)(H:AH)(Q:Af):Prop:=Fy (isB a b) fun r=>Q (.bool (!r)) H
noncomputable def P6(v b:V)(H:AH)(Q:Af):Prop:=A2 b fun a=>match H a with
 | some (.list xs)=>Fy (Wg v xs) fun r=>Q (.bool r) H
 | some (.tuple xs)=>Fy (Wg v xs) fun r=>Q (.bool r) H
 | some (.dict es)=>Ap v fun k=>Q (.bool (dget es k).isSome) H
 | _=>False
noncomputable def Ca(op:CmpOp)(a b:V)(H:AH)(Q:Af):Prop:=
 match op with
 | .Lt=>Af8 a b H Q
 | .LtE=>Af9 a b H Q
 | .Gt=>Aga a b H Q
 | .GtE=>Agb a b H Q
 | .Eq=>Fy (K0 E6 H a b) fun r=>Q (.bool r) H
 | .NotEq=>Fy (K0 E6 H a b) fun r=>Q (.bool (!r)) H
 | .Is=>Agc a b H Q
 | .IsNot=>Adt a b H Q
 | .In=>P6 a b H Q
 | .NotIn=>P6 a b H (fun v H=>match v with | .bool r=>Q (.bool (!r)) H|_=>False)
noncomputable def Uy(a b:V)(H:AH)(Q:Af):Prop:=match a with
 | .int i=>Ap b fun j=>Q (.int (i+j)) H
 | .ref a=>A2 b fun b=>Hm (H a) fun xs=>Hm (H b) fun ys=>xs.length+ys.length<=Cg/\An (.list (xs++ys)) H Q
 | _=>False
noncomputable def Uz(a b:V)(H:AH)(Q:Af):Prop:=Ap b fun k=>match a with
 | .int i=>(i.natAbs<2 ^ 64\/k.natAbs<2 ^ 64)/\Q (.int (i*k)) H
 | .ref a=>Hm (H a) fun xs=>(0<=k/\k<=1000/\xs.length*k.toNat<=Cg)/\An (.list (List.replicate k.toNat xs).flatten) H Q
 | _=>False
noncomputable def Xw(a b:V)(H:AH)(Q:Af):Prop:=Ap a fun i=>Ap b fun j=>Q (.int (i-j)) H
noncomputable def Xx(a b:V)(H:AH)(Q:Af):Prop:=Ap a fun i=>Ap b fun j=>(j≠0/\j.natAbs<=10 ^ 30)/\Q (.int (i.fdiv j)) H
noncomputable def Xy(a b:V)(H:AH)(Q:Af):Prop:=Ap a fun i=>Ap b fun j=>(j≠0/\j.natAbs<=10 ^ 30)/\Q (.int (i.fmod j)) H
noncomputable def Adu(a b:V)(H:AH)(Q:Af):Prop:=Ap a fun i=>Ap b fun j=>(0<=j/\j<=1000/\i.natAbs<2 ^ 64)/\Q (.int (i ^ j.toNat)) H
noncomputable def Dz(op:Operator)(a b:V)(H:AH)(Q:Af):Prop:=
 match op with
 | .Add=>Uy a b H Q
 | .Sub=>Xw a b H Q
 | .Mult=>Uz a b H Q
 | .FloorDiv=>Xx a b H Q
 | .Mod=>Xy a b H Q
 | .Pow=>Adu a b H Q
 | _=>False
noncomputable def Hb(o i:V)(H:AH)(Q:Af):Prop:=Ap i fun k=>match o with
 | .ref a=>(match H a with
   | some (.list xs)=>Fy (Di k xs.length) fun j=>Fy xs[j]? fun v=>Q v H
   | some (.tuple xs)=>Fy (Di k xs.length) fun j=>Fy xs[j]? fun v=>Q v H
   | some (.dict es)=>Fy (dget es k) fun v=>Q v H
   | _=>False)
 | .script ns=>Fy (Di k ns.length) fun j=>Fy ns[j]? fun i=>Q (.int i) H
 | _=>False
noncomputable def bound? :V->Option (Option Int)
 | .none=>some none
 | .int k=>some (some k)
 | _=>none
noncomputable def cut(xs:List V)(l u:Option Int):List V:=
 ((xs.take (match u with|some k=>E5 k xs.length|none=>xs.length)).drop (match l with|some k=>E5 k xs.length|none=>0))
noncomputable def C7(o l u s:V)(H:AH)(Q:Af):Prop:=A2 o fun a=>Fy (bound? l) fun l'=>Fy (bound? u) fun u'=>Hm (H a) fun xs=>match s with
 | .none=>An (.list (cut xs l' u')) H Q
 | .int k=>l'=none/\k = -1/\(match u' with
   | none=>An (.list xs.reverse) H Q
   | some j=>j=0/\An (.list (xs.drop 1).reverse) H Q)
 | _=>False
noncomputable def Mk(o:O)(t:Ty):Option Bool:=match o with
 | .list _=>(match t with | .list=>some true|_=>some false)
 | .tuple _=>some false
 | .exc _=>none
 | .dict _=>none
 | .inst _ _=>none
 | .ns _=>none
noncomputable def Ti(t:Ty)(v:V)(H:AH):Option Bool:=
 match v with
 | .ref a=>(match H a with|some o=>Mk o t|none=>none)
 | .int _=>(match t with | .int=>some true|_=>some false)
 | .bool _=>(match t with | .int=>some true | .bool=>some true|_=>some false)
 | .str _=>some false
 | .none=>some false
 | .fn _=>none
 | .script _=>none
noncomputable def Ip(_:Ty):Bool:=true
noncomputable def Lk(args:List V)(H:AH)(Q:Af):Prop:=Oj args fun v=>match v with
 | .script ns=>Q (.int ns.length) H
 | .ref a=>(match H a with
   | some (.list xs)=>Q (.int xs.length) H
   | some (.tuple xs)=>Q (.int xs.length) H
   | some (.dict es)=>Q (.int es.length) H
   | _=>False)
 | _=>False
noncomputable def Hp(args:List V)(H:AH)(Q:Af):Prop:=Oj args fun v=>A2 v fun a=>match H a with
 | some (.list xs)=>An (.list xs) H Q
 | some (.tuple xs)=>An (.list xs) H Q
 | _=>False
noncomputable def Agd(args:List V)(H:AH)(Q:Af):Prop:=match args with
 | [v]=>Ap v fun n=>(-Cg<=n/\n<=Cg)/\An (.list ((List.range n.toNat).map fun(i:Nat)=>V.int i)) H Q
 | [v,w]=>Ap v fun m=>Ap w fun n=>(0<=m/\m<=Cg/\ -Cg<=n/\n<=Cg)/\An (.list ((List.range (n-m).toNat).map fun(i:Nat)=>V.int (m+i))) H Q
 | _=>False
noncomputable def Age(H:AH):V->Bool
 | .ref t=>(match H t with|some (.tuple [.int _,.int _])=>true|_=>false)
 | _=>false
noncomputable def U0(xs:List V)(H:AH)(Q:Af):Prop:=xs.all (Age H)=true/\∀xs':List V,xs'.Perm xs->An (.list xs') H Q
noncomputable def Gd(args:List V)(H:AH)(Q:Af):Prop:=Oj args fun v=>A2 v fun a=>match H a with
 | some (.list xs)=>(match ints? xs with|some ns=>ns.length<64/\An (.list ((B9 ns).map V.int)) H Q|none=>U0 xs H Q)
 | some (.dict es)=>es.length<64/\An (.list ((B9 (es.map (·.1))).map V.int)) H Q
 | _=>False
noncomputable def Adv(args:List V)(H:AH)(Q:Af):Prop:=Ux args fun v w=>Ap v fun i=>Ap w fun j=>Q (.int (max i j)) H
noncomputable def Adw(args:List V)(H:AH)(Q:Af):Prop:=Ux args fun v w=>Ap v fun i=>Ap w fun j=>Q (.int (min i j)) H
noncomputable def Ll(args:List V)(H:AH)(Q:Af):Prop:=Oj args fun v=>A2 v fun a=>Hm (H a) fun xs=>Fy (bools? xs) fun bs=>Q (.bool (bs.all id)) H
noncomputable def Lm(args:List V)(H:AH)(Q:Af):Prop:=Oj args fun v=>A2 v fun a=>Hm (H a) fun xs=>Fy (bools? xs) fun bs=>Q (.bool (bs.any id)) H
noncomputable def Aii(t:Ty)(args:List V)(H:AH)(Q:Af):Prop:=match args with
 | [v]=>Ip t=true/\(match Ti t v H with|some r=>Q (.bool r) H|none=>False)
 | _=>False
noncomputable def Adx(args:List V)(H:AH)(Q:Af):Prop:=Oj args fun v=>match v with
 | .bool b=>Q (.int (if b then 1 else 0)) H
 | _=>False
noncomputable def D3(b:BI)(args:List V)(H:AH)(Q:Af):Prop:=
 match b with
 | .len=>Lk args H Q
 | .list=>Hp args H Q
 | .listRange=>Agd args H Q
 | .sorted=>Gd args H Q
 | .max=>Adv args H Q
 | .min=>Adw args H Q
 | .minL=>False
 | .all=>Ll args H Q
 | .any=>Lm args H Q
 | .lenSet=>False
 | .sortedSet=>False
 | .isinst t=>Aii t args H Q
 | .str=>False
 | .int=>Adx args H Q
noncomputable def Ge(o:V)(args:List V)(H:AH)(Q:Af):Prop:=A2 o fun a=>Oj args fun v=>Hm (H a) fun xs=>xs.length<Cg/\Q .none (upd H a (.list (xs ++ [v])))
noncomputable def Jc(o:V)(args:List V)(H:AH)(Q:Af):Prop:=A2 o fun a=>We args (Hm (H a) fun _=>Q .none (upd H a (.list [])))
noncomputable def E7(o:V)(args:List V)(H:AH)(Q:Af):Prop:=match o,args with
 | .ref a,[.ref b]=>(match H a,H b with
   | some (.list xs),some (.list ys)=>(a≠b/\xs.length+ys.length<=Cg)/\Q .none (upd H a (.list (xs++ys)))
   | _,_=>False)
 | _,_=>False
noncomputable def Jd(o:V)(args:List V)(H:AH)(Q:Af):Prop:=A2 o fun a=>Oj args fun v=>Hm (H a) fun xs=>match v with
 | .int k=>Fy (ints? xs) fun ns=>k∈ns/\Q (.int (ns.idxOf k)) H
 | _=>False
noncomputable def Gf(o:V)(args:List V)(H:AH)(Q:Af):Prop:=A2 o fun a=>Oj args fun v=>Ap v fun k=>Hm (H a) fun xs=>Fy (ints? xs) fun ns=>k∈ns/\Q .none (upd H a (.list ((ns.erase k).map V.int)))
noncomputable def Jz(m:LM)(o:V)(args:List V)(H:AH)(Q:Af):Prop:=
 match m with
 | .append=>Ge o args H Q
 | .clear=>Jc o args H Q
 | .count=>False
 | .extend=>E7 o args H Q
 | .index=>Jd o args H Q
 | .remove=>Gf o args H Q
 | .reverse=>False
 | .setdefault=>False
 | .split=>False
 | .join=>False
noncomputable def lmL:LM->Prop
 | .setdefault=>False
 | .split=>False
 | .join=>False
 | _=>True
noncomputable def M0(m:LM)(o:V)(H:AH):Prop:=A2 o fun a=>match H a with
 | some (.list _)=>lmL m
 | some (.dict _)=>m = .setdefault
 | _=>False
noncomputable def setAttr(o:V)(t:Ee)(v:V)(H:AH)(N:AH->Prop):Prop:=A2 o fun a=>Mz (H a) fun _ d=>Rd (H d) fun fs=>fs.length<10/\N (upd H d (.ns (Me fs t v)))
noncomputable def getAttr(o:V)(t:Ee)(H:AH)(Q:Af):Prop:=A2 o fun a=>Mz (H a) fun _ d=>Rd (H d) fun fs=>Fy (Md fs t) fun v=>Q v H
noncomputable def setItem(o i v:V)(H:AH)(N:AH->Prop):Prop:=A2 o fun a=>Ap i fun k=>match H a with
 | some (.list xs)=>Fy (Di k xs.length) fun j=>N (upd H a (.list (xs.set j v)))
 | some (.dict es)=>es.length<Cg/\N (upd H a (.dict (C3 es k v)))
 | _=>False
set_option genCtorIdx false in
inductive It where
 | v (x:V)|pair (a b:V)
noncomputable def Ln(v:V)(H:AH)(K:List It->(AH->Prop)->AH->Prop):Prop:=A2 v fun a=>match H a with
 | some (.list xs)=>K (xs.map .v) (fun H'=>H' a=some (.list xs)) H
 | some (.tuple xs)=>K (xs.map .v) (fun H'=>H' a=some (.tuple xs)) H
 | some (.dict es)=>K (es.map fun e=> .v (.int e.1)) (fun _=>True) (fun b=>if b=a then none else H b)
 | _=>False
noncomputable def K1(v:V)(H:AH)(K:List It->(AH->Prop)->AH->Prop):Prop:=A2 v fun a=>Hm (H a) fun xs=>K (xs.mapIdx fun i x=> .pair (.int i) x) (fun H'=>H' a=some (.list xs)) H
noncomputable def O4(v:V)(H:AH)(K:List It->(AH->Prop)->AH->Prop):Prop:=A2 v fun a=>Hm (H a) fun xs=>K (xs.reverse.map .v) (fun H'=>H' a=some (.list xs)) H
noncomputable def El(vs:List V)(H:AH)(K:List It->(AH->Prop)->AH->Prop):Prop:=
 match vs with
 | [v]=>Ap v fun n=>(-Cg<=n/\n<=Cg)/\K ((List.range n.toNat).map fun(i:Nat)=> .v (.int i)) (fun _=>True) H
 | [v,w]=>Ap v fun m=>Ap w fun n=>(0<=m/\m<=Cg/\ -Cg<=n/\n<=Cg)/\K ((List.range (n-m).toNat).map fun(i:Nat)=> .v (.int (m+i))) (fun _=>True) H
 | _=>False
noncomputable def J0(t:Rc)(i:It)(ρ:Aj)(H:AH)(N:Aj->Prop):Prop:=
 match t,i with
 | .one k,.v x=>N (ρ.set k (some x))
 | .two k l,.pair a b=>N ((ρ.set k (some a)).set l (some b))
 | .two k l,.v (.ref a)=>(match H a with
   | some (.tuple [x,y])=>N ((ρ.set k (some x)).set l (some y))
   | _=>False)
 | _,_=>False
noncomputable def Dx(g:AH->Prop)(t:Rc)(body:Aj->AH->(Aj->AH->Prop)->Prop)(N:Aj->AH->Prop):List It->Aj->AH->Prop
 | [],ρ,H=>g H/\N ρ H
 | i::r,ρ,H=>g H/\J0 t i ρ H fun ρ'=>body ρ' H fun ρ'' H''=>Dx g t body N r ρ'' H''
noncomputable def Ce(g:AH->Prop)(t:Rc)(elt:Aj->AH->(Option V->AH->Prop)->Prop)(Q:List V->AH->Prop):List It->List V->Aj->AH->Prop
 | [],acc,_,H=>g H/\Q acc H
 | i::r,acc,ρ,H=>g H/\J0 t i ρ H fun ρ'=>elt ρ' H fun o H''=>Ce g t elt Q r (match o with|some v=>acc ++ [v]|none=>acc) ρ' H''
noncomputable def truthy(v:V)(Q:Bool->Prop):Prop:=match v with | .bool b=>Q b|_=>False
noncomputable def P7(c:Dc)(o:O):Option Bool:=match o with
 | .exc c'=>some (c'==c||c == .webError)
 | _=>none
noncomputable def Dl(c:Dc)(v:V)(H:AH):Option Bool:=
 match v with
 | .ref a=>(match H a with|some o=>P7 c o|none=>none)
 | _=>none
theorem M1{c:Dc}{a:Nat}{H:AH}{o:O}(h:H a=some o):Dl c (.ref a) H=P7 c o:=by
 show (match H a with|some o=>P7 c o|none=>none)=_
 rw[h]
theorem Xz{c:Dc}{a:Nat}{H:AH}(h:H a=none):Dl c (.ref a) H=none:=by
 show (match H a with|some o=>P7 c o|none=>none)=_
 rw[h]
noncomputable def Wh(i:Option Nat)(ρ:Aj):Aj:=match i with|some _=>[]|none=>ρ
noncomputable def X0(i:Option Nat)(v:Option V)(ρ:Aj):Aj:=match i with|some i=>ρ.set i v|none=>ρ
noncomputable def Fl:Dc->Str
 | .web=> "Web.__init__"
 | _=> "Verdict.__init__"
noncomputable def Dd(k:Nat):Rc:=if k=1 then .one 0 else .two 0 1
mutual
noncomputable def Am(G:Ax)(C:CS):X->Aj->AH->Af->EP->Prop
 | .omit,_,H,Q,_=>Q .none H
 | .cnone,_,H,Q,_=>Q .none H
 | .cbool b,_,H,Q,_=>Q (.bool b) H
 | .cint i,_,H,Q,_=>Q (.int i) H
 | .cstr s,_,H,Q,_=>Q (.str s) H
 | .var i,ρ,H,Q,_=>(match ρ[i]? with|some (some v)=>Q v H|_=>False)
 | .glob g,_,H,Q,_=>(match G.const g with|some v=>Q v H|none=>False)
 | .fnv f,_,H,Q,_=>(G.fn f).isSome=true/\Q (.fn f) H
 | .not e,ρ,H,Q,E=>Am G C e ρ H (fun v H=>truthy v fun b=>Q (.bool (!b)) H) E
 | .neg e,ρ,H,Q,E=>Am G C e ρ H (fun v H=>match v with | .int i=>Q (.int (-i)) H|_=>False) E
 | .and l r,ρ,H,Q,E=>Am G C l ρ H (fun v H=>truthy v fun b=>if b then Am G C r ρ H Q E else Q (.bool false) H) E
 | .or l r,ρ,H,Q,E=>Am G C l ρ H (fun v H=>truthy v fun b=>if b then Q (.bool true) H else Am G C r ρ H Q E) E
 | .bin op l r,ρ,H,Q,E=>Am G C l ρ H (fun a H=>Am G C r ρ H (fun b H=>Dz op a b H Q) E) E
 | .cmp op l r,ρ,H,Q,E=>Am G C l ρ H (fun a H=>Am G C r ρ H (fun b H=>Ca op a b H Q) E) E
 | .chain l o1 m o2 r,ρ,H,Q,E=>Am G C l ρ H (fun a H=>Am G C m ρ H (fun b H=>Ca o1 a b H fun c H=>truthy c fun t=>
    if t then Am G C r ρ H (fun d H=>Ca o2 b d H Q) E else Q (.bool false) H) E) E
 | .ite t a b,ρ,H,Q,E=>Am G C t ρ H (fun v H=>truthy v fun c=>if c then Am G C a ρ H Q E else Am G C b ρ H Q E) E
 | .call f args,ρ,H,Q,E=>(G.fn f).isSome=true/\Cw G C args ρ H (fun vs H=>C f vs H Q E) E
 | .callv f args,ρ,H,Q,E=>Am G C f ρ H (fun v H=>match v with | .fn g=>Cw G C args ρ H (fun vs H=>C g vs H Q E) E|_=>False) E
 | .mk c args,ρ,H,Q,E=>(G.fn (Fl c)).isSome=true/\Cw G C args ρ H (fun vs H=>∀a d,H a=none->H d=none->a≠d->
    C (Fl c) (.ref a::vs) (upd (upd H d (.ns [])) a (.inst c d)) (fun r H'=>r = .none/\Q (.ref a) H') E) E
 | .meth m o args,ρ,H,Q,E=>Am G C o ρ H (fun v H=>A2 v fun a=>Uw (H a) fun d=>Rd (H d) fun _=>(G.fn m).isSome=true/\Cw G C args ρ H (fun vs H=>C m (.ref a::vs) H Q E) E) E
 | .bi b args,ρ,H,Q,E=>Cw G C args ρ H (fun vs H=>D3 b vs H Q) E
 | .isown c e,ρ,H,Q,E=>G.exc c=true/\Am G C e ρ H (fun v H=>match Dl c v H with|some r=>Q (.bool r) H|none=>False) E
 | .lm m o args,ρ,H,Q,E=>Am G C o ρ H (fun v H=>M0 m v H/\Cw G C args ρ H (fun vs H=>Jz m v vs H Q) E) E
 | .isVE e,ρ,H,Q,E=>Am G C e ρ H (fun v H=>match Dl .webError v H with|some true=>Q (.bool true) H|_=>False) E
 | .attr o a,ρ,H,Q,E=>Am G C o ρ H (fun v H=>getAttr v a H Q) E
 | .sub o i,ρ,H,Q,E=>Am G C o ρ H (fun a H=>Am G C i ρ H (fun b H=>Hb a b H Q) E) E
 | .slice o l u s,ρ,H,Q,E=>Am G C o ρ H (fun a H=>Am G C l ρ H (fun x H=>Am G C u ρ H (fun y H=>Am G C s ρ H (fun z H=>C7 a x y z H Q) E) E) E) E
 | .list es,ρ,H,Q,E=>Cw G C es ρ H (fun vs H=>An (.list vs) H Q) E
 | .tuple es,ρ,H,Q,E=>Cw G C es ρ H (fun vs H=>An (.tuple vs) H Q) E
 | .dict ks vs,ρ,H,Q,E=>Cw G C ks ρ H (fun as H=>Cw G C vs ρ H (fun bs H=>match as,bs with
    | [],[]=>An (.dict []) H Q
    | [.int k],[v]=>An (.dict [(k,v)]) H Q
    | _,_=>False) E) E
 | .range _,_,_,_,_=>False
 | .enum _,_,_,_,_=>False
 | .rev _,_,_,_,_=>False
 | .val _,_,_,_,_=>False
 | .comp k src elt,ρ,H,Q,E=>D0 G C src ρ H (fun its g H=>its.length<=Cg/\
    Ce g (Dd k) (fun ρ H K=>Am G C elt ρ H (fun v H=>K (some v) H) EF) (fun vs H=>An (.list vs) H Q) its [] (List.replicate k none++ρ) H) E
 | .compIf k src cond elt,ρ,H,Q,E=>D0 G C src ρ H (fun its g H=>its.length<=Cg/\
    Ce g (Dd k) (fun ρ H K=>Am G C cond ρ H (fun c H=>truthy c fun b=>if b then Am G C elt ρ H (fun v H=>K (some v) H) EF else K none H) EF)
     (fun vs H=>An (.list vs) H Q) its [] (List.replicate k none++ρ) H) E
noncomputable def Cw(G:Ax)(C:CS):List X->Aj->AH->(List V->AH->Prop)->EP->Prop
 | [],_,H,Q,_=>Q [] H
 | e::r,ρ,H,Q,E=>Am G C e ρ H (fun v H=>Cw G C r ρ H (fun vs H=>Q (v::vs) H) E) E
noncomputable def D0(G:Ax)(C:CS):X->Aj->AH->(List It->(AH->Prop)->AH->Prop)->EP->Prop
 | .range args,ρ,H,K,E=>Cw G C args ρ H (fun vs H=>El vs H K) E
 | .enum e,ρ,H,K,E=>Am G C e ρ H (fun v H=>K1 v H K) E
 | .rev e,ρ,H,K,E=>Am G C e ρ H (fun v H=>O4 v H K) E
 | .val e,ρ,H,K,E=>Am G C e ρ H (fun v H=>Ln v H K) E
 | _,_,_,_,_=>False
end
mutual
noncomputable def wpS(G:Ax)(C:CS):S->Aj->AH->(Aj->AH->Prop)->Af->EP->Prop
 | .assign i e,ρ,H,N,_,E=>Am G C e ρ H (fun v H=>N (ρ.set i (some v)) H) E
 | .setattr o a e,ρ,H,N,_,E=>Am G C e ρ H (fun v H=>Am G C o ρ H (fun ov H=>setAttr ov a v H fun H=>N ρ H) E) E
 | .setitem o i e,ρ,H,N,_,E=>Am G C e ρ H (fun v H=>Am G C o ρ H (fun ov H=>Am G C i ρ H (fun iv H=>setItem ov iv v H fun H=>N ρ H) E) E) E
 | .expr e,ρ,H,N,_,E=>Am G C e ρ H (fun _ H=>N ρ H) E
 | .ite t a b,ρ,H,N,R,E=>Am G C t ρ H (fun v H=>truthy v fun c=>if c then B0 G C a ρ H N R E else B0 G C b ρ H N R E) E
 | .for t src body,ρ,H,N,R,E=>D0 G C src ρ H (fun its g H=>Dx g t (fun ρ H K=>B0 G C body ρ H K R E) N its ρ H) E
 | .while t body,ρ,H,N,R,E=>∃I:Nat->Aj->AH->Prop,(∃n,I n ρ H)/\∀n ρ H,I n ρ H->
    Am G C t ρ H (fun v H=>truthy v fun c=>if c then B0 G C body ρ H (fun ρ H=>∃m,m<n/\I m ρ H) R E else N ρ H) E
 | .ret e,ρ,H,_,R,E=>Am G C e ρ H R E
 | .pass,ρ,H,N,_,_=>N ρ H
 | .raise c,_,H,_,_,E=>G.exc c=true/\∀a,H a=none->E (.ref a) (upd H a (.exc c))
 | .try1 body c as h,ρ,H,N,R,_=>G.exc c=true/\B0 G C body ρ H N R fun e H=>match Dl c e H with
    | some true=>B0 G C h (X0 as (some e) ρ) H (fun ρ H=>N (Wh as ρ) H) R EF
    | _=>False
 | .try2 body c as h c' h',ρ,H,N,R,_=>G.exc c=true/\G.exc c'=true/\B0 G C body ρ H N R fun e H=>match Dl c e H with
    | some true=>B0 G C h (X0 as (some e) ρ) H (fun ρ H=>N (Wh as ρ) H) R EF
    | some false=>(match Dl c' e H with
      | some true=>B0 G C h' ρ H N R EF
      | _=>False)
    | none=>False
noncomputable def B0(G:Ax)(C:CS):List S->Aj->AH->(Aj->AH->Prop)->Af->EP->Prop
 | [],ρ,H,N,_,_=>N ρ H
 | s::r,ρ,H,N,R,E=>wpS G C s ρ H (fun ρ H=>B0 G C r ρ H N R E) R E
end
noncomputable def Ad(G:Ax):Nat->CS
 | 0=>fun _ _ _ _ _=>False
 | n+1=>fun f args H Q E=>match G.fn f with
   | some d=>d.arity=args.length/\B0 G (Ad G n) d.body (args.map some++List.replicate (d.slots-d.arity) none) H (fun _ H=>Q .none H) Q E
   | none=>False
section
variable {G:Ax} {n:Nat} {H:AH} {Q:Af} {E:EP} {C:CS} {ρ:Aj} {N:Aj->AH->Prop} {R:Af}
/-! the running of the abstract machine,as rules -/
theorem Zb:Am G C .cnone ρ H Q E=Q .none H:=rfl
theorem Zc:Am G C .omit ρ H Q E=Q .none H:=rfl
theorem Zd{b}:Am G C (.cbool b) ρ H Q E=Q (.bool b) H:=rfl
theorem Ze{i}:Am G C (.cint i) ρ H Q E=Q (.int i) H:=rfl
theorem Zf{i}:Am G C (.cstr i) ρ H Q E=Q (.str i) H:=rfl
theorem Zg{i}:Am G C (.var i) ρ H Q E=(match ρ[i]? with|some (some v)=>Q v H|_=>False):=rfl
theorem Zh{e}:Am G C (.not e) ρ H Q E=Am G C e ρ H (fun v H=>truthy v fun b=>Q (.bool (!b)) H) E:=rfl
theorem Zi{e}:Am G C (.neg e) ρ H Q E=Am G C e ρ H (fun v H=>match v with | .int i=>Q (.int (-i)) H|_=>False) E:=rfl
theorem Zj{l r}:Am G C (.and l r) ρ H Q E=Am G C l ρ H (fun v H=>truthy v fun b=>if b then Am G C r ρ H Q E else Q (.bool false) H) E:=rfl
theorem Zk{l r}:Am G C (.or l r) ρ H Q E=Am G C l ρ H (fun v H=>truthy v fun b=>if b then Q (.bool true) H else Am G C r ρ H Q E) E:=rfl
theorem Zl{op l r}:Am G C (.bin op l r) ρ H Q E=Am G C l ρ H (fun a H=>Am G C r ρ H (fun b H=>Dz op a b H Q) E) E:=rfl
theorem Zm{op l r}:Am G C (.cmp op l r) ρ H Q E=Am G C l ρ H (fun a H=>Am G C r ρ H (fun b H=>Ca op a b H Q) E) E:=rfl
theorem Zn{l o1 m o2 r}:Am G C (.chain l o1 m o2 r) ρ H Q E=Am G C l ρ H (fun a H=>Am G C m ρ H (fun b H=>Ca o1 a b H fun c H=>truthy c fun t=>
 if t then Am G C r ρ H (fun d H=>Ca o2 b d H Q) E else Q (.bool false) H) E) E:=rfl
theorem Zo{t a b}:Am G C (.ite t a b) ρ H Q E=Am G C t ρ H (fun v H=>truthy v fun c=>if c then Am G C a ρ H Q E else Am G C b ρ H Q E) E:=rfl
theorem Zp{f as}:Am G C (.call f as) ρ H Q E=((G.fn f).isSome=true/\Cw G C as ρ H (fun vs H=>C f vs H Q E) E):=rfl
theorem Zq{b as}:Am G C (.bi b as) ρ H Q E=Cw G C as ρ H (fun vs H=>D3 b vs H Q) E:=rfl
theorem Cq{m o as}:Am G C (.lm m o as) ρ H Q E=Am G C o ρ H (fun v H=>M0 m v H/\Cw G C as ρ H (fun vs H=>Jz m v vs H Q) E) E:=rfl
theorem Zr{o a}:Am G C (.attr o a) ρ H Q E=Am G C o ρ H (fun v H=>getAttr v a H Q) E:=rfl
theorem Zs{o i}:Am G C (.sub o i) ρ H Q E=Am G C o ρ H (fun a H=>Am G C i ρ H (fun b H=>Hb a b H Q) E) E:=rfl
theorem Zt{o l u s}:Am G C (.slice o l u s) ρ H Q E=Am G C o ρ H (fun a H=>Am G C l ρ H (fun x H=>Am G C u ρ H (fun y H=>Am G C s ρ H (fun z H=>C7 a x y z H Q) E) E) E) E:=rfl
theorem Zu{es}:Am G C (.list es) ρ H Q E=Cw G C es ρ H (fun vs H=>An (.list vs) H Q) E:=rfl
theorem Zv{es}:Am G C (.tuple es) ρ H Q E=Cw G C es ρ H (fun vs H=>An (.tuple vs) H Q) E:=rfl
theorem U1:Am G C (.dict [] []) ρ H Q E=An (.dict []) H Q:=rfl
theorem Hq{a:Nat}{P:Nat->Prop}:A2 (.ref a) P=P a:=rfl
theorem Hr{d:Nat}{P:Nat->Prop}:Uw (some (.inst .web d)) P=P d:=rfl
theorem Lo{fs:List (Ee×V)}{P:List (Ee×V)->Prop}:Rd (some (.ns fs)) P=P fs:=rfl
theorem A6{m o as}:Am G C (.meth m o as) ρ H Q E=Am G C o ρ H (fun v H=>A2 v fun a=>Uw (H a) fun d=>Rd (H d) fun _=>(G.fn m).isSome=true/\Cw G C as ρ H (fun vs H=>C m (.ref a::vs) H Q E) E) E:=rfl
theorem Dy{c as}:Am G C (.mk c as) ρ H Q E=((G.fn (Fl c)).isSome=true/\Cw G C as ρ H (fun vs H=>∀a d,H a=none->H d=none->a≠d->
 C (Fl c) (.ref a::vs) (upd (upd H d (.ns [])) a (.inst c d)) (fun r H'=>r = .none/\Q (.ref a) H') E) E):=rfl
theorem Bx{k s e}:Am G C (.comp k s e) ρ H Q E=D0 G C s ρ H (fun its g H=>its.length<=Cg/\
 Ce g (Dd k) (fun ρ H K=>Am G C e ρ H (fun v H=>K (some v) H) EF) (fun vs H=>An (.list vs) H Q) its [] (List.replicate k none++ρ) H) E:=rfl
theorem Ao{k s c e}:Am G C (.compIf k s c e) ρ H Q E=D0 G C s ρ H (fun its g H=>its.length<=Cg/\
 Ce g (Dd k) (fun ρ H K=>Am G C c ρ H (fun c H=>truthy c fun b=>if b then Am G C e ρ H (fun v H=>K (some v) H) EF else K none H) EF)
  (fun vs H=>An (.list vs) H Q) its [] (List.replicate k none++ρ) H) E:=rfl
theorem Zw{Q:List V->AH->Prop}:Cw G C [] ρ H Q E=Q [] H:=rfl
theorem Zx{e r}{Q:List V->AH->Prop}:Cw G C (e::r) ρ H Q E=Am G C e ρ H (fun v H=>Cw G C r ρ H (fun vs H=>Q (v::vs) H) E) E:=rfl
theorem Gg{as}{K:List It->(AH->Prop)->AH->Prop}:D0 G C (.range as) ρ H K E=Cw G C as ρ H (fun vs H=>El vs H K) E:=rfl
theorem K3{e}{K:List It->(AH->Prop)->AH->Prop}:D0 G C (.enum e) ρ H K E=Am G C e ρ H (fun v H=>K1 v H K) E:=rfl
theorem U2{e}{K:List It->(AH->Prop)->AH->Prop}:D0 G C (.rev e) ρ H K E=Am G C e ρ H (fun v H=>O4 v H K) E:=rfl
theorem J1{e}{K:List It->(AH->Prop)->AH->Prop}:D0 G C (.val e) ρ H K E=Am G C e ρ H (fun v H=>Ln v H K) E:=rfl
theorem Zy{i e}:wpS G C (.assign i e) ρ H N R E=Am G C e ρ H (fun v H=>N (ρ.set i (some v)) H) E:=rfl
theorem Cr{o a e}:wpS G C (.setattr o a e) ρ H N R E=Am G C e ρ H (fun v H=>Am G C o ρ H (fun ov H=>setAttr ov a v H fun H=>N ρ H) E) E:=rfl
theorem Bs{o i e}:wpS G C (.setitem o i e) ρ H N R E=Am G C e ρ H (fun v H=>Am G C o ρ H (fun ov H=>Am G C i ρ H (fun iv H=>setItem ov iv v H fun H=>N ρ H) E) E) E:=rfl
theorem Zz{e}:wpS G C (.expr e) ρ H N R E=Am G C e ρ H (fun _ H=>N ρ H) E:=rfl
theorem Za{t a b}:wpS G C (.ite t a b) ρ H N R E=Am G C t ρ H (fun v H=>truthy v fun c=>if c then B0 G C a ρ H N R E else B0 G C b ρ H N R E) E:=rfl
theorem Z0{e}:wpS G C (.ret e) ρ H N R E=Am G C e ρ H R E:=rfl
theorem Z1:wpS G C .pass ρ H N R E=N ρ H:=rfl
theorem D1{t s b}:wpS G C (.for t s b) ρ H N R E=D0 G C s ρ H (fun its g H=>Dx g t (fun ρ H K=>B0 G C b ρ H K R E) N its ρ H) E:=rfl
theorem Ea{t b}:wpS G C (.while t b) ρ H N R E = ∃I:Nat->Aj->AH->Prop,(∃n,I n ρ H)/\∀n ρ H,I n ρ H->
 Am G C t ρ H (fun v H=>truthy v fun c=>if c then B0 G C b ρ H (fun ρ H=>∃m,m<n/\I m ρ H) R E else N ρ H) E:=rfl
theorem Z2:B0 G C [] ρ H N R E=N ρ H:=rfl
theorem Z3{s r}:B0 G C (s::r) ρ H N R E=wpS G C s ρ H (fun ρ H=>B0 G C r ρ H N R E) R E:=rfl
theorem A3{g}:Am G C (.glob g) ρ H Q E=(match G.const g with|some v=>Q v H|none=>False):=rfl
theorem Co{f}:Am G C (.fnv f) ρ H Q E=((G.fn f).isSome=true/\Q (.fn f) H):=rfl
theorem A5{f as}:Am G C (.callv f as) ρ H Q E=Am G C f ρ H (fun v H=>match v with | .fn g=>Cw G C as ρ H (fun vs H=>C g vs H Q E) E|_=>False) E:=rfl
theorem B5{ks vs}:Am G C (.dict ks vs) ρ H Q E=Cw G C ks ρ H (fun as H=>Cw G C vs ρ H (fun bs H=>match as,bs with
 | [],[]=>An (.dict []) H Q
 | [.int k],[v]=>An (.dict [(k,v)]) H Q
 | _,_=>False) E) E:=rfl
theorem C8{c}:wpS G C (.raise c) ρ H N R E=(G.exc c=true/\∀a,H a=none->E (.ref a) (upd H a (.exc c))):=rfl
theorem X1{b c as h}:wpS G C (.try1 b c as h) ρ H N R E=(G.exc c=true/\B0 G C b ρ H N R fun e H=>match Dl c e H with
 | some true=>B0 G C h (X0 as (some e) ρ) H (fun ρ H=>N (Wh as ρ) H) R EF
 | _=>False):=rfl
theorem X2{b c as h c' h'}:wpS G C (.try2 b c as h c' h') ρ H N R E=(G.exc c=true/\G.exc c'=true/\B0 G C b ρ H N R fun e H=>match Dl c e H with
 | some true=>B0 G C h (X0 as (some e) ρ) H (fun ρ H=>N (Wh as ρ) H) R EF
 | some false=>(match Dl c' e H with
   | some true=>B0 G C h' ρ H N R EF
   | _=>False)
 | none=>False):=rfl
theorem X3{e}:Am G C (.isVE e) ρ H Q E=Am G C e ρ H (fun v H=>match Dl .webError v H with|some true=>Q (.bool true) H|_=>False) E:=rfl
theorem P8{c e}:Am G C (.isown c e) ρ H Q E=(G.exc c=true/\Am G C e ρ H (fun v H=>match Dl c v H with|some r=>Q (.bool r) H|none=>False) E):=rfl
end
end Mine.Internal
namespace Mine.Internal
section
variable {a b c d e f g i j k l m n:Nat} {x y z u v w r s t:Int}
theorem Q0(h0:0<x):0<=x:=Int.le_of_lt h0
theorem Q2(h0:0<x)(h1:x<=10 ^ 30):x.natAbs<=10 ^ 30:=by lia -abstractProof
theorem Q3(h0:x.toNat<a):x<(a:Int):=Int.lt_of_le_of_lt (Int.self_le_toNat x) (Int.ofNat_lt.mpr h0)
theorem Q5:a+(b+1)=a+1+b:=Nat.add_right_comm a b 1
theorem Q6:a+1+b+1=a+(b+1)+1:=congrArg (·+1) (Nat.add_right_comm a 1 b)
theorem Q7(h0:c=0+b)(h1:a≥c)(h2:a-c=0):a=b:=(Nat.le_antisymm (Nat.sub_eq_zero_iff_le.mp h2) h1).trans (h0.trans (Nat.zero_add b))
theorem Q10(h0:0<=x)(h1:x<(a:Int)):x.toNat<a:=(Int.toNat_lt h0).mpr h1
theorem Q15(h0:0<=x):(x.toNat:Int)=x:=Int.toNat_of_nonneg h0
theorem Q19:9+x/72%12<=60:=by lia -abstractProof
theorem Q23(h0:y-z<x)(h1:z-y<x):0<=x:=by lia -abstractProof
theorem Q24(h0:y-z<u)(h1:z-y=u*x)(h2:u*x<=u * -1):x=0:=by lia -abstractProof
theorem Q26(h0:y-z<u)(h1:y-z=u*x)(h2:u*1<=u*x):x=0:=by lia -abstractProof
theorem Q28(h0:0<=y)(h1:z<u):x/2-y-(x/2-z)<u:=by lia -abstractProof
theorem Q29(h0:z<u)(h1:0<=y):x/2-y-(x/2-z)<u:=by lia -abstractProof
theorem Q30(h0:z/2-x=z/2-y):x=y:=by lia -abstractProof
theorem Q31(h0:y<u)(h1:0<=z):x/2+y-(x/2+z)<u:=by lia -abstractProof
theorem Q34(h0:a<=60):a<=1048576:=Nat.le_trans h0 (by decide)
theorem Q36(h0:0<=x):max 0 ((a:Int)-x)+(((a:Int)-max 0 ((a:Int)-x)).toNat:Int)<=(a:Int):=Int.le_of_eq ((congrArg (max 0 ((a:Int)-x) + ·) (Int.toNat_of_nonneg (Int.sub_nonneg_of_le (Int.max_le.mpr ⟨Int.natCast_nonneg _,Int.sub_le_self _ h0⟩)))).trans ((Int.add_comm _ _).trans (Int.sub_add_cancel _ _)))
theorem Q45:x%4=0\/x%4=1\/x%4=2\/x%4=3:=by lia -abstractProof
theorem Q55(h0:b<=60)(h1:a=c)(h2:c<b):a<1048576:=Nat.lt_of_le_of_lt (Nat.le_of_eq h1) (Nat.lt_of_lt_of_le h2 (Nat.le_trans h0 (by decide)))
theorem Q57(h0:x=0\/4<=x)(h1:(a:Int)=x-1):2<=a:=by lia -abstractProof
theorem Q62(h0:a=b)(h1:0<=x)(h2:x<(b:Int)):x.toNat<a:=Nat.lt_of_lt_of_eq ((Int.toNat_lt h1).mpr h2) h0.symm
theorem Q75(h0:4+z%5=x)(h1:x+z/5%4=y):x<=y/\y<100:=by subst h0;lia -abstractProof
theorem Q82(h0:4<=x)(h1:(a:Int)%y=x-1)(h2:(a:Int)%y<=(a:Int)):2<=a:=by lia -abstractProof
theorem Q83(h0:4<=x)(h1:(a:Int)%y=x-1)(h2:(a:Int)%y<=(a:Int)):(x<=(a:Int)+1/\(a:Int)+1-x<(a:Int))/\1<=(a:Int)/\(a:Int)-1<(a:Int):=⟨⟨by lia -abstractProof,by lia -abstractProof⟩,by lia -abstractProof,Int.sub_lt_self _ (by decide)⟩
theorem Q86(h0:0<=x):¬x<0:=Int.not_lt_of_ge h0
theorem Q89(h0:b<a):0<(a:Int):=Int.ofNat_lt.mpr (Nat.zero_lt_of_lt h0)
theorem Q90(h0:a<=60):(a:Int)<=60:=Int.ofNat_le.mpr h0
theorem Q94(h0:a<b+1)(h1:¬a=b):a<b:=Nat.lt_of_le_of_ne (Nat.le_of_lt_succ h0) h1
theorem Ain(h0:c<=3600)(h1:b<=3)(h2:c=a):a+b+(min 4 a-1)+(min 1 a+min 1 a)<=4000:=by subst h2;exact Nat.le_trans (Nat.add_le_add (Nat.add_le_add (Nat.add_le_add h0 h1) (Nat.le_trans (Nat.sub_le _ _) (Nat.min_le_left _ _))) (Nat.add_le_add (Nat.min_le_left _ _) (Nat.min_le_left _ _))) (by decide)
theorem Abr(h0:x<(a:Int))(h1:0<=y)(h2:y<(a:Int)):x.toNat<a:=by lia -abstractProof
theorem Wi(h0:x<(a:Int))(h1:(x.toNat:Int)=x):x.toNat<a:=Int.ofNat_lt.mp (Int.lt_of_le_of_lt (Int.le_of_eq h1) h0)
theorem Agg(h0:y≠x)(h1:(y.toNat:Int)=y)(h2:(x.toNat:Int)=x):¬x.toNat=y.toNat:=fun q=>h0 (h1.symm.trans ((congrArg Int.ofNat q.symm).trans h2))
theorem Agh(h0:¬a=y.toNat)(h1:a=x.toNat):¬x.toNat=y.toNat:=fun q=>h0 (h1.trans q)
theorem Abs(h0:¬a=x.toNat)(h1:(a:Int)=x):False:=by subst h1;exact h0 rfl
theorem Abt:0<=(a:Int)+1:=Int.natCast_nonneg _
theorem Abu:((a:Int)+1).toNat=a+1:=Nat.succ_sub_one _
theorem Agi(h0:a<=60):a<=1048576+(b+1):=Nat.le_trans h0 (Nat.le_trans (by decide) (Nat.le_add_right 1048576 _))
theorem Aio(h0:0<=x)(h1:x<(y.toNat:Int)):x<y:=by lia -abstractProof
theorem Aip(h0:x+1<=(a:Int)):((a:Int)+1-(x+1)).toNat<((a:Int)+1-x).toNat:=by lia -abstractProof
theorem Aiq(h0:0<=x)(h1:0<=y)(h2:y≠x):x.toNat≠y.toNat:=fun q=>h2 ((Int.toNat_of_nonneg h1).symm.trans ((congrArg Int.ofNat q.symm).trans (Int.toNat_of_nonneg h0)))
theorem Air(h0:b=0+a):a-b=0:=by subst h0;exact Nat.sub_eq_zero_of_le (Nat.le_of_eq (Nat.zero_add a).symm)
theorem Ais(h0:a+d=c)(h1:b=d-1)(h2:0<d):a+1+b=c:=by subst h0 h1;exact(Nat.add_assoc a 1 (d-1)).trans (congrArg (a + ·) (Nat.add_sub_of_le h2))
theorem Ait(h0:b=c)(h1:b+a=c):a=0:=by subst h0;exact Nat.add_left_cancel (h1.trans (Nat.add_zero _).symm)
theorem Agj(h0:b=c)(h1:a<c):a<b:=Nat.lt_of_lt_of_eq h1 h0.symm
end
end Mine.Internal
namespace Mine.Internal
section
open PySem PySem.W PyProof.Rows
variable {a b c d e f g i j k l m n:Nat} {x y z u v w r s t:Int}
theorem Aiu(h0:x.natAbs<2 ^ 64):-2 ^ 64<x:=by omega
theorem Aiv(h0:x.natAbs<2 ^ 64):x<2 ^ 64:=by omega
theorem Agk(h0:a+30*b+60<cLine):a+5<cLine:=Nat.lt_of_le_of_lt (Nat.add_le_add (Nat.le_add_right a _) (by decide:5<=60)) h0
theorem Aec(h0:0<=x+(a:Int)):-(a:Int)<=x:=by lia -abstractProof
theorem Aiw(h0:¬0<=x)(h1:0<=x+(a:Int)):(x+(a:Int)).toNat<a:=by lia -abstractProof
theorem Aix(h0:(b:Int)<2 ^ 63)(h1:a<c)(h2:c=b):(a:Int)<2 ^ 63-1:=by omega
theorem Agl(h0:x<=(Cg:Int))(h1:Cg=1048576):x<2 ^ 62:=by lia -abstractProof
theorem Aiy(h0:-(Cg:Int)<=x)(h1:Cg=1048576):-2 ^ 62<=x:=by lia -abstractProof
theorem Aiz(h0:0<=y)(h1:x<=(Cg:Int))(h2:Cg=1048576):(x-y).toNat<=2 ^ 24:=by lia -abstractProof
theorem Ai0:x+((a+1:Nat):Int)=x+(a:Int)+1:=by lia -abstractProof
theorem Ai1:(a:Int)-((b+1:Nat):Int)=(a:Int)-(b:Int)-1:=by lia -abstractProof
theorem Ai2(h0:b<a):((a-1-b:Nat):Int)-1=(a:Int)-1-((b+1:Nat):Int):=by lia -abstractProof
theorem Ai3:(a:Int)-1-(a:Int) = -1:=by lia -abstractProof
theorem Agm(h0:Cg=1048576)(h1:x<=(Cg:Int)):x<2 ^ 62:=by lia -abstractProof
theorem Ai4(h0:Cg=1048576)(h1:-(Cg:Int)<=x):-2 ^ 62<=x:=by lia -abstractProof
theorem Agn(h0:a=c):a<=b+c:=Nat.le_trans (Nat.le_of_eq h0) (Nat.le_add_left _ _)
theorem Ago(h0:c=b):a+b-c=a:=by subst h0;lia -abstractProof
theorem Ai5(h0:a=1):0<a:=by subst h0;decide
theorem Ai6(h0:a=2):0<a:=by subst h0;decide
theorem Ai7(h0:a=2):1<a:=by subst h0;decide
theorem Ai8(h0:0<=x):-(a:Int)<=x:=by lia -abstractProof
theorem Ai9(h0:¬0<=x):x<(a:Int):=by lia -abstractProof
theorem Aja(h0:(Cg:Int)<2 ^ 63)(h1:a<=Cg)(h2:x<(a:Int)):x<2 ^ 63:=by lia -abstractProof
theorem Ajb(h0:(Cg:Int)<2 ^ 63)(h1:a<=Cg)(h2:0<=x+(a:Int)):-2 ^ 63<=x:=by lia -abstractProof
theorem Ajc(h0:a<=Cg)(h1:(Cg:Int)<2 ^ 63)(h2:-(a:Int)<=x):-2 ^ 63<=x:=by lia -abstractProof
end
end Mine.Internal
namespace Mine.Internal
open PySem
variable {G:Ax} {n:Nat} {H:AH} {Q:Af} {E:EP} {C:CS} {ρ:Aj} {N:Aj->AH->Prop} {R:Af}
theorem Ahq(kk:Q .none H):Am G C .cnone ρ H Q E:=kk
theorem Aed{i}(kk:Q (.int i) H):Am G C (.cint i) ρ H Q E:=kk
theorem Aee{i}(kk:(match ρ[i]? with|some (some v)=>Q v H|_=>False)):Am G C (.var i) ρ H Q E:=kk
theorem Aef{e}(kk:Am G C e ρ H (fun v H=>truthy v fun b=>Q (.bool (!b)) H) E):Am G C (.not e) ρ H Q E:=kk
theorem Aeg{l r}(kk:Am G C l ρ H (fun v H=>truthy v fun b=>if b then Am G C r ρ H Q E else Q (.bool false) H) E):Am G C (.and l r) ρ H Q E:=kk
theorem Ajz{l r}(kk:Am G C l ρ H (fun v H=>truthy v fun b=>if b then Q (.bool true) H else Am G C r ρ H Q E) E):Am G C (.or l r) ρ H Q E:=kk
theorem Aeh{op l r}(kk:Am G C l ρ H (fun a H=>Am G C r ρ H (fun b H=>Ca op a b H Q) E) E):Am G C (.cmp op l r) ρ H Q E:=kk
theorem U3{f as}(kk:((G.fn f).isSome=true/\Cw G C as ρ H (fun vs H=>C f vs H Q E) E)):Am G C (.call f as) ρ H Q E:=kk
theorem Agp{b as}(kk:Cw G C as ρ H (fun vs H=>D3 b vs H Q) E):Am G C (.bi b as) ρ H Q E:=kk
theorem Ajd{o i}(kk:Am G C o ρ H (fun a H=>Am G C i ρ H (fun b H=>Hb a b H Q) E) E):Am G C (.sub o i) ρ H Q E:=kk
theorem Ahr{es}(kk:Cw G C es ρ H (fun vs H=>An (.list vs) H Q) E):Am G C (.list es) ρ H Q E:=kk
theorem Agq{es}(kk:Cw G C es ρ H (fun vs H=>An (.tuple vs) H Q) E):Am G C (.tuple es) ρ H Q E:=kk
theorem Agr{c as}(kk:((G.fn (Fl c)).isSome=true/\Cw G C as ρ H (fun vs H=>∀a d,H a=none->H d=none->a≠d->
 C (Fl c) (.ref a::vs) (upd (upd H d (.ns [])) a (.inst c d)) (fun r H'=>r = .none/\Q (.ref a) H') E) E)):Am G C (.mk c as) ρ H Q E:=kk
theorem J3{e r}{Q:List V->AH->Prop}(kk:Am G C e ρ H (fun v H=>Cw G C r ρ H (fun vs H=>Q (v::vs) H) E) E):Cw G C (e::r) ρ H Q E:=kk
theorem Abv{e}{K:List It->(AH->Prop)->AH->Prop}(kk:Am G C e ρ H (fun v H=>K1 v H K) E):D0 G C (.enum e) ρ H K E:=kk
theorem Aei{e}{K:List It->(AH->Prop)->AH->Prop}(kk:Am G C e ρ H (fun v H=>O4 v H K) E):D0 G C (.rev e) ρ H K E:=kk
theorem K4{i e}(kk:Am G C e ρ H (fun v H=>N (ρ.set i (some v)) H) E):wpS G C (.assign i e) ρ H N R E:=kk
theorem Tj{o i e}(kk:Am G C e ρ H (fun v H=>Am G C o ρ H (fun ov H=>Am G C i ρ H (fun iv H=>setItem ov iv v H fun H=>N ρ H) E) E) E):wpS G C (.setitem o i e) ρ H N R E:=kk
theorem Ahs{e}(kk:Am G C e ρ H (fun _ H=>N ρ H) E):wpS G C (.expr e) ρ H N R E:=kk
theorem Fm{t a b}(kk:Am G C t ρ H (fun v H=>truthy v fun c=>if c then B0 G C a ρ H N R E else B0 G C b ρ H N R E) E):wpS G C (.ite t a b) ρ H N R E:=kk
theorem X4{e}(kk:Am G C e ρ H R E):wpS G C (.ret e) ρ H N R E:=kk
theorem X5{t s b}(kk:D0 G C s ρ H (fun its g H=>Dx g t (fun ρ H K=>B0 G C b ρ H K R E) N its ρ H) E):wpS G C (.for t s b) ρ H N R E:=kk
theorem X6{t b}(kk:∃I:Nat->Aj->AH->Prop,(∃n,I n ρ H)/\∀n ρ H,I n ρ H->
 Am G C t ρ H (fun v H=>truthy v fun c=>if c then B0 G C b ρ H (fun ρ H=>∃m,m<n/\I m ρ H) R E else N ρ H) E):wpS G C (.while t b) ρ H N R E:=kk
theorem U4(kk:N ρ H):B0 G C [] ρ H N R E:=kk
theorem Cf{s r}(kk:wpS G C s ρ H (fun ρ H=>B0 G C r ρ H N R E) R E):B0 G C (s::r) ρ H N R E:=kk
theorem X7{t e b}(kk:Am G C e ρ H (fun v H=>Ln v H fun its g H=>Dx g t (fun ρ H K=>B0 G C b ρ H K R E) N its ρ H) E):wpS G C (.for t (.val e) b) ρ H N R E:=kk
theorem frK{t as b}(kk:Cw G C as ρ H (fun vs H=>El vs H fun its g H=>Dx g t (fun ρ H K=>B0 G C b ρ H K R E) N its ρ H) E):wpS G C (.for t (.range as) b) ρ H N R E:=kk
theorem gvK{k s e}(kk:Am G C s ρ H (fun v H=>Ln v H fun its g H=>its.length<=Cg/\Ce g (Dd k) (fun ρ H K=>Am G C e ρ H (fun v H=>K (some v) H) EF) (fun vs H=>An (.list vs) H Q) its [] (List.replicate k none++ρ) H) E):Am G C (.comp k (.val s) e) ρ H Q E:=kk
theorem grK{k as e}(kk:Cw G C as ρ H (fun vs H=>El vs H fun its g H=>its.length<=Cg/\Ce g (Dd k) (fun ρ H K=>Am G C e ρ H (fun v H=>K (some v) H) EF) (fun vs H=>An (.list vs) H Q) its [] (List.replicate k none++ρ) H) E):Am G C (.comp k (.range as) e) ρ H Q E:=kk
theorem hvK{k s c e}(kk:Am G C s ρ H (fun v H=>Ln v H fun its g H=>its.length<=Cg/\Ce g (Dd k) (fun ρ H K=>Am G C c ρ H (fun c H=>truthy c fun b=>if b then Am G C e ρ H (fun v H=>K (some v) H) EF else K none H) EF) (fun vs H=>An (.list vs) H Q) its [] (List.replicate k none++ρ) H) E):Am G C (.compIf k (.val s) c e) ρ H Q E:=kk
theorem hrK{k as c e}(kk:Cw G C as ρ H (fun vs H=>El vs H fun its g H=>its.length<=Cg/\Ce g (Dd k) (fun ρ H K=>Am G C c ρ H (fun c H=>truthy c fun b=>if b then Am G C e ρ H (fun v H=>K (some v) H) EF else K none H) EF) (fun vs H=>An (.list vs) H Q) its [] (List.replicate k none++ρ) H) E):Am G C (.compIf k (.range as) c e) ρ H Q E:=kk
end Mine.Internal
namespace Mine.Internal
open PySem
noncomputable def J4:Fn:=⟨3,3,[.setattr (.var 0) .many (.var 1),.setattr (.var 0) .rows (.var 2)]⟩
noncomputable def M2:Fn:=⟨2,2,[.ite (.not (.chain (.cint 0) .LtE (.var 1) .Lt (.attr (.var 0) .many))) [.raise .noPoint] []]⟩
noncomputable def Ef:Fn:=⟨2,2,[.expr (.meth "Web.need" (.var 0) [(.var 1)]),.ret (.bi .list [(.sub (.attr (.var 0) .rows) (.var 1))])]⟩
noncomputable def M3:Fn:=⟨3,3,[.expr (.meth "Web.need" (.var 0) [(.var 1)]),.expr (.meth "Web.need" (.var 0) [(.var 2)]),.ret (.cmp .In (.var 2) (.sub (.attr (.var 0) .rows) (.var 1)))]⟩
noncomputable def Ok:List S:=[.ite (.cmp .Lt (.var 2) (.var 3)) [.expr (.lm .append (.var 1) [(.tuple [(.var 2),(.var 3)])])] []]
noncomputable def Ol:List S:=[.for (.one 3) (.val (.sub (.attr (.var 0) .rows) (.var 2))) Ok]
noncomputable def Tk:Fn:=⟨4,1,[.assign 1 (.list []),.for (.one 2) (.range [(.attr (.var 0) .many)]) Ol,.ret (.var 1)]⟩
noncomputable def Lp:List S:=[.ite (.or (.not (.chain (.cint 0) .LtE (.var 2) .Lt (.var 0))) (.or (.not (.chain (.cint 0) .LtE (.var 3) .Lt (.var 0))) (.cmp .Eq (.var 2) (.var 3)))) [.raise .badWeb] []]
noncomputable def Lq:X:=(.dict [] [])
noncomputable def Lr:List S:=[.setitem (.sub (.var 4) (.var 2)) (.var 3) (.cbool true),.setitem (.sub (.var 4) (.var 3)) (.var 2) (.cbool true)]
noncomputable def Ls:X:=(.bi .sorted [(.var 0)])
noncomputable def Re:Fn:=⟨5,2,[.ite (.not (.chain (.cint 0) .LtE (.var 0) .LtE (.glob "MOST"))) [.raise .badWeb] [],.for (.two 2 3) (.val (.var 1)) Lp,.assign 4 (.comp 1 (.range [(.var 0)]) Lq),.for (.two 2 3) (.val (.var 1)) Lr,.ret (.mk .web [(.var 0),(.comp 1 (.val (.var 4)) Ls)])]⟩
noncomputable def Ck:Fn:=⟨2,2,[.ite (.cmp .Lt (.var 1) (.bi .len [(.var 0)])) [.ret (.sub (.var 0) (.var 1))] [],.ret (.cint 0)]⟩
noncomputable def Ed:Fn:=⟨2,2,[.ret (.bin .Mod (.bin .Mult (.bin .Add (.var 0) (.bin .Mult (.cint 101) (.var 1))) (.cint 48271)) (.cint 1000003))]⟩
noncomputable def Fz:List S:=[.ite (.and (.cmp .Gt (.bin .Mod (.var 8) (.cint 3)) (.cint 0)) (.or (.cmp .GtE (.var 7) (.var 2)) (.cmp .Lt (.bi .len [(.var 6)]) (.cint 2)))) [.expr (.lm .append (.var 6) [(.var 9)])] [],.assign 8 (.bin .FloorDiv (.var 8) (.cint 3))]
noncomputable def F0:List S:=[.assign 5 (.call "_law_mixed" [(.call "_law_cell_at" [(.var 0),(.bin .Add (.cint 3) (.var 4))]),(.var 4)]),.assign 6 (.list []),.ite (.chain (.cint 0) .Lt (.var 4) .Lt (.var 2)) [.assign 6 (.list [(.bin .Sub (.var 4) (.cint 1))]),.ite (.cmp .Eq (.var 4) (.bin .Sub (.var 2) (.cint 1))) [.assign 6 (.list [(.cint 0),(.bin .Sub (.var 4) (.cint 1))])] []] [.ite (.and (.cmp .Gt (.var 4) (.cint 0)) (.cmp .NotEq (.bin .Mod (.var 5) (.cint 9)) (.cint 8))) [.assign 7 (.bin .Mod (.bin .FloorDiv (.var 5) (.cint 9)) (.var 4)),.assign 6 (.list [(.var 7)]),.assign 8 (.bin .FloorDiv (.bin .FloorDiv (.var 5) (.cint 9)) (.var 4)),.for (.one 9) (.val (.sub (.var 3) (.var 7))) Fz] []],.expr (.lm .append (.var 3) [(.var 6)])]
noncomputable def Fo:Fn:=⟨10,3,[.assign 3 (.list []),.for (.one 4) (.range [(.var 1)]) F0,.ret (.var 3)]⟩
noncomputable def E8:X:=(.call "_law_mixed" [(.call "_law_cell_at" [(.var 1),(.bin .Add (.cint 3) (.bin .Mod (.bin .Add (.bin .Mult (.cint 7) (.var 6)) (.bin .Mult (.cint 13) (.var 0))) (.cint 60)))]),(.bin .Add (.bin .Mult (.cint 60) (.var 6)) (.var 0))])
noncomputable def E9:X:=(.cmp .Lt (.bin .Mod (.sub (.var 7) (.var 0)) (.var 4)) (.var 3))
noncomputable def Dm:List S:=[.assign 6 (.comp 1 (.range [(.var 5)]) E8),.expr (.lm .append (.var 4) [(.compIf 1 (.range [(.var 5)]) E9 (.var 0))])]
noncomputable def Ew:Fn:=⟨7,2,[.assign 2 (.bin .Add (.cint 1) (.bin .Mod (.bin .FloorDiv (.call "_law_cell_at" [(.var 0),(.cint 2)]) (.cint 8)) (.cint 4))),.assign 3 (.cint 5),.ite (.cmp .Gt (.var 1) (.cint 20)) [.assign 3 (.cint 40)] [],.assign 4 (.list []),.for (.one 5) (.range [(.var 1)]) Dm,.ret (.var 4)]⟩
noncomputable def Eg:X:=(.bi .listRange [(.bi .max [(.cint 0),(.bin .Sub (.var 0) (.var 3))]),(.var 0)])
noncomputable def Gh:Fn:=⟨3,2,[.assign 2 (.bin .Mod (.var 1) (.cint 20)),.ite (.cmp .Gt (.var 0) (.cint 20)) [.assign 2 (.bin .Mod (.var 1) (.cint 6))] [],.ret (.comp 1 (.range [(.var 0)]) Eg)]⟩
noncomputable def Hc:X:=(.bi .listRange [(.bi .max [(.cint 0),(.bin .Sub (.var 0) (.cint 1))]),(.var 0)])
noncomputable def Hd:List S:=[.ite (.cmp .Eq (.bin .Mod (.var 4) (.var 3)) (.bin .Sub (.var 2) (.cint 1))) [.setitem (.var 5) (.var 4) (.list [(.bin .Sub (.bin .Add (.var 4) (.cint 1)) (.var 2)),(.bin .Sub (.var 4) (.cint 1))])] []]
noncomputable def Gi:Fn:=⟨6,2,[.assign 2 (.bin .Add (.cint 4) (.bin .Mod (.var 1) (.cint 5))),.assign 3 (.bin .Add (.var 2) (.bin .Mod (.bin .FloorDiv (.var 1) (.cint 5)) (.cint 4))),.assign 5 (.comp 1 (.range [(.var 0)]) Hc),.for (.one 4) (.range [(.var 0)]) Hd,.ret (.var 5)]⟩
noncomputable def Cy:X:=(.bi .listRange [(.bi .min [(.var 0),(.var 3)])])
noncomputable def Gj:Fn:=⟨3,2,[.assign 2 (.sub (.list [(.cint 1),(.cint 2),(.cint 3),(.bin .Mod (.bin .FloorDiv (.var 1) (.cint 4)) (.cint 30))]) (.bin .Mod (.var 1) (.cint 4))),.ite (.cmp .Gt (.var 0) (.cint 30)) [.assign 2 (.bin .Mod (.var 2) (.cint 8))] [],.ret (.comp 1 (.range [(.var 0)]) Cy)]⟩
noncomputable def M4:Fn:=⟨4,2,[.assign 2 (.bin .Mod (.call "_law_cell_at" [(.var 0),(.cint 2)]) (.cint 8)),.assign 3 (.bin .FloorDiv (.call "_law_cell_at" [(.var 0),(.cint 2)]) (.cint 8)),.ite (.and (.cmp .Eq (.var 2) (.cint 1)) (.cmp .Gt (.var 1) (.cint 3))) [.ret (.call "_law_earlier" [(.var 0),(.var 1),(.bin .Add (.cint 4) (.bin .Mod (.var 3) (.bin .Sub (.var 1) (.cint 3))))])] [],.ite (.and (.chain (.cint 1) .Lt (.var 2) .Lt (.cint 5)) (.cmp .Lt (.var 1) (.cint 41))) [.ret (.call "_law_any_rows" [(.var 0),(.var 1)])] [],.ite (.cmp .Eq (.var 2) (.cint 5)) [.ret (.call "_law_banded" [(.var 1),(.var 3)])] [],.ite (.cmp .Eq (.var 2) (.cint 6)) [.ret (.call "_law_ringed" [(.var 1),(.var 3)])] [],.ite (.cmp .Eq (.var 2) (.cint 7)) [.ret (.call "_law_hubbed" [(.var 1),(.var 3)])] [],.ret (.call "_law_earlier" [(.var 0),(.var 1),(.cint 0)])]⟩
noncomputable def Je:Fn:=⟨4,3,[.assign 3 (.call "_law_cell_at" [(.var 0),(.cint 1)]),.ite (.cmp .Eq (.bin .Mod (.var 3) (.cint 2)) (.cint 1)) [.ret (.bin .Mod (.bin .Sub (.bin .FloorDiv (.var 3) (.cint 2)) (.var 2)) (.var 1))] [],.ret (.bin .Mod (.bin .Add (.bin .FloorDiv (.var 3) (.cint 2)) (.var 2)) (.var 1))]⟩
noncomputable def Iy:List S:=[.assign 6 (.tuple [(.call "_law_name" [(.var 0),(.var 1),(.var 4)]),(.call "_law_name" [(.var 0),(.var 1),(.var 5)])]),.ite (.cmp .Eq (.bin .Mod (.bin .Add (.var 4) (.var 5)) (.cint 2)) (.cint 1)) [.assign 6 (.tuple [(.sub (.var 6) (.cint 1)),(.sub (.var 6) (.cint 0))])] [],.expr (.lm .append (.var 3) [(.var 6)])]
noncomputable def Iz:List S:=[.for (.one 5) (.val (.sub (.var 2) (.var 4))) Iy]
noncomputable def I0:X:=(.tuple [(.sub (.var 0) (.cint 1)),(.sub (.var 0) (.cint 0))])
noncomputable def M5:Fn:=⟨7,3,[.assign 3 (.list []),.for (.one 4) (.range [(.var 1)]) Iz,.ret (.bin .Add (.bin .Add (.bin .Add (.var 3) (.comp 1 (.val (.slice (.var 3) .omit (.cint 3) .omit)) I0)) (.slice (.var 3) (.cint 1) (.cint 4) .omit)) (.bin .Mult (.slice (.var 3) .omit (.cint 1) .omit) (.cint 2)))]⟩
noncomputable def I1:List S:=[.ite (.cmp .NotIn (.var 4) (.sub (.var 2) (.var 3))) [.expr (.lm .append (.sub (.var 2) (.var 3)) [(.var 4)]),.expr (.lm .append (.sub (.var 2) (.var 4)) [(.var 3)])] []]
noncomputable def I2:X:=(.bi .sorted [(.var 0)])
noncomputable def M6:Fn:=⟨5,2,[.assign 2 (.comp 1 (.range [(.var 0)]) (.list [])),.for (.two 3 4) (.val (.var 1)) I1,.ret (.comp 1 (.val (.var 2)) I2)]⟩
noncomputable def Fp:Fn:=⟨2,1,[.assign 1 (.call "_law_cell_at" [(.var 0),(.cint 0)]),.ite (.cmp .Eq (.bin .Mod (.bin .FloorDiv (.var 1) (.cint 9)) (.cint 16)) (.cint 3)) [.ret (.bin .Mod (.bin .FloorDiv (.var 1) (.cint 144)) (.cint 61))] [],.ite (.cmp .Eq (.bin .Mod (.bin .FloorDiv (.var 1) (.cint 9)) (.cint 8)) (.cint 5)) [.ret (.bin .Add (.cint 9) (.bin .Mod (.bin .FloorDiv (.var 1) (.cint 72)) (.cint 12)))] [],.ret (.bin .Mod (.var 1) (.cint 9))]⟩
noncomputable def M7:Fn:=⟨2,2,[.ret (.cmp .Eq (.bi .sorted [(.var 1)]) (.bi .listRange [(.attr (.var 0) .many)]))]⟩
noncomputable def Gk:Fn:=⟨2,2,[.ite (.not (.call "is_order" [(.var 0),(.var 1)])) [.raise .badOrder] []]⟩
noncomputable def Dn:X:=(.meth "Web.tied" (.var 1) [(.var 3),(.var 0)])
noncomputable def Hs:Fn:=⟨4,3,[.assign 3 (.lm .index (.var 1) [(.var 2)]),.ret (.compIf 1 (.val (.slice (.var 1) (.bin .Add (.var 3) (.cint 1)) .omit .omit)) Dn (.var 0))]⟩
noncomputable def Fa:List S:=[.ite (.not (.meth "Web.tied" (.var 0) [(.var 3),(.var 4)])) [.ret (.tuple [(.var 3),(.var 4)])] []]
noncomputable def Fb:List S:=[.for (.one 4) (.val (.slice (.var 1) (.bin .Add (.var 2) (.cint 1)) .omit .omit)) Fa]
noncomputable def Ex:Fn:=⟨5,2,[.for (.two 2 3) (.enum (.var 1)) Fb,.ret .cnone]⟩
noncomputable def Rg:List S:=[.assign 3 (.call "first_untied" [(.var 0),(.call "those_behind" [(.var 0),(.var 1),(.var 2)])]),.ite (.cmp .IsNot (.var 3) .cnone) [.ret (.tuple [(.var 2),(.sub (.var 3) (.cint 0)),(.sub (.var 3) (.cint 1))])] []]
noncomputable def X8:Fn:=⟨4,2,[.expr (.call "need_order" [(.var 0),(.var 1)]),.for (.one 2) (.val (.var 1)) Rg,.ret .cnone]⟩
noncomputable def K5:X:=(.meth "Web.tied" (.var 1) [(.var 3),(.var 0)])
noncomputable def K6:List S:=[.ite (.cmp .Is (.call "first_untied" [(.var 0),(.compIf 1 (.val (.var 1)) K5 (.var 0))]) .cnone) [.ret (.var 2)] []]
noncomputable def Abo:Fn:=⟨3,2,[.for (.one 2) (.val (.var 1)) K6,.ret .cnone]⟩
noncomputable def Tl:List S:=[.expr (.lm .remove (.var 1) [(.var 3)]),.expr (.lm .append (.var 2) [(.var 3)]),.assign 3 (.call "least_to_go" [(.var 0),(.var 1)])]
noncomputable def Aht:Fn:=⟨4,1,[.assign 1 (.bi .listRange [(.attr (.var 0) .many)]),.assign 2 (.list []),.assign 3 (.call "least_to_go" [(.var 0),(.var 1)]),.while (.cmp .IsNot (.var 3) .cnone) Tl,.ret (.tuple [(.var 2),(.var 1)])]⟩
noncomputable def Gl:Fn:=⟨2,2,[.ite (.cmp .IsNot (.call "gap" [(.var 0),(.var 1)]) .cnone) [.raise .hasGap] []]⟩
noncomputable def M8:Fn:=⟨3,3,[.ret (.bi .sorted [(.bin .Add (.list [(.var 2)]) (.call "those_behind" [(.var 0),(.var 1),(.var 2)]))])]⟩
noncomputable def J5:X:=(.meth "Web.tied" (.var 1) [(.var 3),(.var 0)])
noncomputable def J6:List S:=[.ite (.and (.cmp .NotIn (.var 2) (.var 1)) (.bi .all [(.comp 1 (.val (.var 1)) J5)])) [.ret (.cbool false)] []]
noncomputable def O5:Fn:=⟨3,2,[.for (.one 2) (.range [(.attr (.var 0) .many)]) J6,.ret (.cbool true)]⟩
noncomputable def F2:List S:=[.assign 4 (.call "crowd_at" [(.var 0),(.var 1),(.var 3)]),.ite (.call "is_full" [(.var 0),(.var 4)]) [.expr (.lm .append (.var 2) [(.var 4)])] []]
noncomputable def Fq:Fn:=⟨5,2,[.expr (.call "need_whole" [(.var 0),(.var 1)]),.assign 2 (.list []),.for (.one 3) (.val (.var 1)) F2,.ret (.var 2)]⟩
noncomputable def He:List S:=[.assign 1 (.bin .Add (.var 1) (.cint 1))]
noncomputable def J7:Fn:=⟨2,1,[.assign 1 (.cint 0),.while (.cmp .In (.var 1) (.var 0)) He,.ret (.var 1)]⟩
noncomputable def I3:X:=(.sub (.var 4) (.var 0))
noncomputable def I4:List S:=[.setitem (.var 3) (.var 2) (.call "least_free" [(.comp 1 (.val (.call "those_behind" [(.var 0),(.var 1),(.var 2)])) I3)])]
noncomputable def Jf:Fn:=⟨4,2,[.expr (.call "need_whole" [(.var 0),(.var 1)]),.assign 3 (.comp 1 (.val (.var 1)) (.cint 0)),.for (.one 2) (.rev (.var 1)) I4,.ret (.var 3)]⟩
noncomputable def Ht:X:=(.tuple [(.call "_law_mixed" [(.call "_law_cell_at" [(.var 1),(.bin .Add (.cint 2) (.bin .Mod (.bin .Mult (.cint 11) (.var 0)) (.cint 61)))]),(.bin .Add (.bin .Mult (.cint 7) (.var 0)) (.cint 1))]),(.var 0)])
noncomputable def Hv:X:=(.sub (.var 0) (.cint 1))
noncomputable def Fc:Fn:=⟨3,2,[.assign 2 (.comp 1 (.range [(.var 1)]) Ht),.ret (.comp 1 (.val (.bi .sorted [(.var 2)])) Hv)]⟩
noncomputable def Hf:X:=(.cmp .In (.var 0) (.sub (.var 1) (.sub (.var 2) (.var 3))))
noncomputable def Dp:Fn:=⟨3,3,[.ret (.compIf 1 (.val (.slice (.var 1) (.bin .Add (.var 2) (.cint 1)) .omit .omit)) Hf (.var 0))]⟩
noncomputable def Hg:List S:=[.ite (.cmp .NotIn (.var 3) (.sub (.var 0) (.sub (.var 1) (.var 2)))) [.ret (.tuple [(.sub (.var 1) (.var 2)),(.var 3)])] []]
noncomputable def Hh:List S:=[.for (.one 3) (.val (.slice (.var 1) (.bin .Add (.var 2) (.cint 1)) .omit .omit)) Hg]
noncomputable def Cu:Fn:=⟨4,2,[.for (.one 2) (.range [(.bi .len [(.var 1)])]) Hh,.ret .cnone]⟩
noncomputable def Gm:Fn:=⟨5,2,[.ite (.or (.cmp .Eq (.bin .Mod (.var 1) (.cint 2)) (.cint 0)) (.cmp .Lt (.bi .len [(.var 0)]) (.cint 4))) [.ret (.slice (.var 0) .omit .omit (.neg (.cint 1)))] [],.assign 2 (.bi .list [(.var 0)]),.assign 3 (.bin .Add (.cint 1) (.bin .Mod (.bin .FloorDiv (.var 1) (.cint 2)) (.bin .Sub (.bi .len [(.var 0)]) (.cint 2)))),.assign 4 (.bin .Add (.cint 1) (.bin .Mod (.bin .FloorDiv (.var 1) (.cint 122)) (.bin .Sub (.bi .len [(.var 0)]) (.cint 2)))),.setitem (.var 2) (.var 3) (.sub (.var 0) (.var 4)),.setitem (.var 2) (.var 4) (.sub (.var 0) (.var 3)),.ret (.var 2)]⟩
noncomputable def Ey:X:=(.sub (.list [(.var 0),(.cint 1)]) (.bi .int [(.cmp .In (.var 0) (.tuple [(.cint 0),(.cint 2)]))]))
noncomputable def Eh:Fn:=⟨6,3,[.assign 3 (.bin .Mod (.var 1) (.bin .Add (.bi .len [(.var 0)]) (.cint 1))),.assign 4 (.bin .Mod (.bin .FloorDiv (.var 1) (.cint 61)) (.cint 5)),.assign 5 (.sub (.list [(.neg (.cint 1)),(.bi .len [(.var 0)]),(.var 2),(.neg (.var 2))]) (.bin .Mod (.bin .FloorDiv (.var 1) (.cint 305)) (.cint 4))),.ite (.and (.cmp .Eq (.var 4) (.cint 0)) (.cmp .Lt (.var 3) (.bi .len [(.var 0)]))) [.ret (.bin .Add (.slice (.var 0) .omit (.var 3) .omit) (.slice (.var 0) (.bin .Add (.var 3) (.cint 1)) .omit .omit))] [],.ite (.and (.cmp .Eq (.var 4) (.cint 1)) (.chain (.cint 0) .Lt (.var 3) .Lt (.bi .len [(.var 0)]))) [.ret (.bin .Add (.bin .Add (.slice (.var 0) .omit (.var 3) .omit) (.list [(.sub (.var 0) (.bin .Sub (.var 3) (.cint 1)))])) (.slice (.var 0) (.bin .Add (.var 3) (.cint 1)) .omit .omit))] [],.ite (.and (.cmp .Eq (.var 4) (.cint 2)) (.cmp .Lt (.var 3) (.bi .len [(.var 0)]))) [.ret (.bin .Add (.bin .Add (.slice (.var 0) .omit (.var 3) .omit) (.list [(.var 5)])) (.slice (.var 0) (.bin .Add (.var 3) (.cint 1)) .omit .omit))] [],.ite (.and (.cmp .Eq (.var 4) (.cint 3)) (.cmp .Gt (.bi .len [(.var 0)]) (.cint 2))) [.ret (.comp 1 (.val (.var 0)) Ey)] [],.ret (.bin .Add (.bin .Add (.slice (.var 0) .omit (.var 3) .omit) (.list [(.var 5)])) (.slice (.var 0) (.var 3) .omit .omit))]⟩
noncomputable def I5:X:=(.cmp .In (.var 0) (.sub (.var 1) (.var 3)))
noncomputable def I6:List S:=[.ite (.cmp .Is (.call "_law_untied" [(.var 0),(.compIf 1 (.val (.var 1)) I5 (.var 0))]) .cnone) [.ret (.var 2)] []]
noncomputable def Gn:Fn:=⟨3,2,[.for (.one 2) (.val (.var 1)) I6,.ret (.neg (.cint 1))]⟩
noncomputable def Lu:List S:=[.setitem (.var 4) (.var 5) (.cbool true)]
noncomputable def Lv:List S:=[.assign 4 (.dict [] []),.for (.one 5) (.val (.meth "Web.beside" (.var 0) [(.var 3)])) Lu,.expr (.lm .append (.var 2) [(.var 4)])]
noncomputable def Lw:X:=(.cmp .In (.var 0) (.sub (.var 3) (.var 4)))
noncomputable def Lx:List S:=[.ite (.cmp .NotIn (.var 5) (.sub (.var 2) (.var 10))) [.setitem (.sub (.var 2) (.var 10)) (.var 5) (.cbool true),.setitem (.sub (.var 2) (.var 5)) (.var 10) (.cbool true),.expr (.lm .append (.var 6) [(.tuple [(.bi .min [(.var 10),(.var 5)]),(.bi .max [(.var 10),(.var 5)])])])] []]
noncomputable def Ly:List S:=[.for (.one 5) (.val (.slice (.var 8) (.bin .Add (.var 9) (.cint 1)) .omit .omit)) Lx]
noncomputable def Lz:List S:=[.assign 8 (.compIf 1 (.val (.slice (.var 1) (.bin .Add (.var 7) (.cint 1)) .omit .omit)) Lw (.var 0)),.for (.two 9 10) (.enum (.var 8)) Ly]
noncomputable def Hw:Fn:=⟨11,2,[.expr (.call "need_order" [(.var 0),(.var 1)]),.assign 2 (.list []),.for (.one 3) (.range [(.attr (.var 0) .many)]) Lv,.assign 6 (.list []),.for (.two 7 3) (.enum (.var 1)) Lz,.ret (.bi .sorted [(.var 6)])]⟩
noncomputable def M9:X:=(.meth "Web.tied" (.var 1) [(.var 5),(.var 0)])
noncomputable def Na:List S:=[.ite (.not (.bi .any [(.comp 1 (.val (.var 2)) M9)])) [.expr (.lm .append (.var 2) [(.var 4)]),.expr (.lm .append (.var 3) [(.call "crowd_at" [(.var 0),(.var 1),(.var 4)])])] []]
noncomputable def J8:Fn:=⟨5,2,[.expr (.call "need_whole" [(.var 0),(.var 1)]),.assign 2 (.list []),.assign 3 (.list []),.for (.one 4) (.val (.var 1)) Na,.ret (.tuple [(.var 2),(.var 3)])]⟩
noncomputable def Fd:List S:=[.assign 5 (.call "_law_free" [(.var 1),(.var 2)]),.ite (.cmp .Lt (.var 5) (.cint 0)) [.ret .cnone] [],.expr (.lm .append (.var 3) [(.var 5)]),.expr (.lm .remove (.var 2) [(.var 5)])]
noncomputable def Ez:Fn:=⟨6,2,[.assign 2 (.call "_law_keyed" [(.var 0),(.bi .len [(.var 1)])]),.assign 3 (.list []),.for (.one 4) (.range [(.bi .len [(.var 1)])]) Fd,.ret (.var 3)]⟩
noncomputable def F3:List S:=[.ite (.cmp .IsNot (.call "_law_untied" [(.var 0),(.call "_law_behind" [(.var 0),(.var 1),(.var 2)])]) .cnone) [.ret (.cbool true)] []]
noncomputable def Eb:Fn:=⟨3,2,[.for (.one 2) (.range [(.bi .len [(.var 1)])]) F3,.ret (.cbool false)]⟩
noncomputable def Rh:Fn:=⟨3,3,[.ite (.cmp .Eq (.var 2) (.cint 0)) [.expr (.call "full_crowds" [(.var 0),(.var 1)])] [.ite (.cmp .Eq (.var 2) (.cint 1)) [.expr (.call "coloured" [(.var 0),(.var 1)])] [.ite (.cmp .Eq (.var 2) (.cint 2)) [.expr (.call "apart" [(.var 0),(.var 1)])] [.expr (.call "filled" [(.var 0),(.var 1)])]]]]⟩
noncomputable def Nb:Fn:=⟨3,3,[.try2 [.expr (.call "_law_do" [(.var 0),(.var 1),(.var 2)])] .badOrder none [.ret (.cint 1)] .hasGap [.ret (.cint 2)],.ret (.cint 0)]⟩
noncomputable def F4:Fn:=⟨5,4,[.try1 [.expr (.call "_law_do" [(.var 0),(.var 1),(.var 2)])] .webError (some 4) [.ite (.or (.isown .badWeb (.var 4)) (.or (.isown .badText (.var 4)) (.isown .noPoint (.var 4)))) [.ret (.cbool false)] [],.ite (.or (.cmp .NotEq (.isown .badOrder (.var 4)) (.cmp .Eq (.var 3) (.cint 1))) (.cmp .NotEq (.isown .hasGap (.var 4)) (.cmp .Eq (.var 3) (.cint 2)))) [.ret (.cbool false)] [],.ret (.isVE (.var 4))],.ret (.cbool false)]⟩
noncomputable def Jg:Fn:=⟨2,2,[.ite (.cmp .NotEq (.bi .sorted [(.var 1)]) (.bi .listRange [(.bi .len [(.var 0)])])) [.ret (.list [(.cint 1),(.cint 1),(.cint 1),(.cint 1)])] [],.ite (.call "_law_has_gap" [(.var 0),(.var 1)]) [.ret (.list [(.cint 2),(.cint 2),(.cint 2),(.cint 0)])] [],.ret (.list [(.cint 0),(.cint 0),(.cint 0),(.cint 0)])]⟩
noncomputable def L0:List S:=[.assign 13 (.bin .Mod (.bin .Add (.var 12) (.bin .FloorDiv (.var 5) (.cint 7))) (.cint 4)),.expr (.lm .clear (.var 9) []),.expr (.lm .extend (.var 9) [(.var 10)]),.ite (.or (.cmp .NotEq (.call "_law_word" [(.var 4),(.var 9),(.var 13)]) (.sub (.var 11) (.var 13))) (.cmp .NotEq (.var 9) (.var 10))) [.ret (.cbool false)] [],.ite (.and (.cmp .Gt (.sub (.var 11) (.var 13)) (.cint 0)) (.not (.call "_law_by_base" [(.var 4),(.var 9),(.var 13),(.sub (.var 11) (.var 13))]))) [.ret (.cbool false)] []]
noncomputable def Hx:List S:=[.assign 11 (.call "_law_dues" [(.var 3),(.var 10)]),.for (.one 12) (.range [(.cint 4)]) L0]
noncomputable def Ri:Fn:=⟨14,1,[.assign 1 (.call "_law_many" [(.var 0)]),.assign 2 (.call "_law_ties" [(.var 0),(.var 1),(.call "_law_rows" [(.var 0),(.var 1)])]),.assign 3 (.call "_law_near" [(.var 1),(.var 2)]),.assign 4 (.call "web_of" [(.var 1),(.bi .list [(.var 2)])]),.assign 5 (.call "_law_mixed" [(.call "_law_cell_at" [(.var 0),(.cint 1)]),(.cint 5)]),.assign 6 (.call "_law_order" [(.var 0),(.var 3)]),.ite (.or (.cmp .Is (.var 6) .cnone) (.cmp .Eq (.bin .Mod (.var 5) (.cint 2)) (.cint 1))) [.assign 6 (.call "_law_keyed" [(.var 0),(.var 1)])] [],.assign 7 (.list [(.var 6),(.call "_law_within" [(.var 6),(.bin .FloorDiv (.var 5) (.cint 28))]),(.bin .Add (.slice (.var 6) .omit (.cint 1) .omit) (.slice (.var 6) .omit (.cint 0) (.neg (.cint 1)))),(.var 6)]),.ite (.cmp .Eq (.bin .Mod (.bin .FloorDiv (.var 5) (.cint 2)) (.cint 6)) (.cint 1)) [.assign 8 (.call "_law_spoilt" [(.var 6),(.bin .FloorDiv (.var 5) (.cint 12)),(.bin .Add (.cint 61) (.bin .Mod (.call "_law_cell_at" [(.var 0),(.cint 2)]) (.bin .Pow (.cint 10) (.cint 20))))]),.assign 7 (.list [(.var 8),(.slice (.var 8) .omit .omit (.neg (.cint 1))),(.var 6),(.var 8)])] [],.assign 9 (.list []),.for (.one 10) (.val (.var 7)) Hx,.ret (.cbool true)]⟩
end Mine.Internal
namespace Mine.Internal
open PySem
set_option genCtorIdx false in
structure Cx where
 names:List Str
 sc:Scope
 hnd:Bool
 cmp:Bool
noncomputable def Ags:Option NameKind->Bool
 | some .local=>true
 | some .cell=>true
 | some .free=>true
 | _=>false
noncomputable def Cx.slot(c:Cx)(x:Str):Option Nat:=if Ags (c.sc.names.lookup x)then c.names.idxOf? x else none
noncomputable def U5:Option NameKind->Bool
 | some .local=>true
 | some .cell=>true
 | _=>false
noncomputable def Cx.own(c:Cx)(x:Str):Option Nat:=if U5 (c.sc.names.lookup x)then c.names.idxOf? x else none
noncomputable def Cx.global(c:Cx)(x:Str):Bool:=c.sc.names.lookup x==some .globalImplicit
theorem nn{α:Type}{P:Prop}{x:α}(h:(none:Option α)=some x):P:=by cases h
inductive B1{α β:Type}(o:Option α)(k:α->β)(y:β):Prop
 | mk (a:α) (h:o=some a) (e:k a=y)
inductive B2{α α' β:Type}(o:Option α)(o':Option α')(k:α->α'->β)(y:β):Prop
 | mk (a:α) (h:o=some a) (a':α') (h':o'=some a') (e:k a a'=y)
inductive B3{α α' γ β:Type}(o:Option α)(o':Option α')(p:Option γ)(k:α->α'->γ->β)(y:β):Prop
 | mk (a:α) (h:o=some a) (a':α') (h':o'=some a') (d:γ) (h3:p=some d) (e:k a a' d=y)
inductive B4{α α' γ δ β:Type}(o:Option α)(o':Option α')(p:Option γ)(p':Option δ)(k:α->α'->γ->δ->β)(y:β):Prop
 | mk (a:α) (h:o=some a) (a':α') (h':o'=some a') (d:γ) (h3:p=some d) (d':δ) (h4:p'=some d') (e:k a a' d d'=y)
theorem b1{α β:Type}{o:Option α}{k:α->β}{y:β}(h:(o >>= fun a=>pure (k a))=some y):B1 o k y:=by
 cases o with
 | none=>cases h
 | some a=>exact⟨a,rfl,Option.some.inj h⟩
theorem b2{α α' β:Type}{o:Option α}{o':Option α'}{k:α->α'->β}{y:β}(h:(o >>= fun a=>o' >>= fun b=>pure (k a b))=some y):B2 o o' k y:=by
 cases o with
 | none=>cases h
 | some a=>obtain⟨b,hb,e⟩:=b1 (show (o' >>= fun b=>pure (k a b))=some y from h);exact⟨a,rfl,b,hb,e⟩
theorem b3{α α' γ β:Type}{o:Option α}{o':Option α'}{p:Option γ}{k:α->α'->γ->β}{y:β}(h:(o >>= fun a=>o' >>= fun b=>p >>= fun d=>pure (k a b d))=some y):B3 o o' p k y:=by
 cases o with
 | none=>cases h
 | some a=>obtain⟨b,hb,d,hd,e⟩:=b2 (show (o' >>= fun b=>p >>= fun d=>pure (k a b d))=some y from h);exact⟨a,rfl,b,hb,d,hd,e⟩
theorem b4{α α' γ δ β:Type}{o:Option α}{o':Option α'}{p:Option γ}{p':Option δ}{k:α->α'->γ->δ->β}{y:β}(h:(o >>= fun a=>o' >>= fun b=>p >>= fun d=>p' >>= fun d'=>pure (k a b d d'))=some y):B4 o o' p p' k y:=by
 cases o with
 | none=>cases h
 | some a=>obtain⟨b,hb,d,hd,d',hd',e⟩:=b3 (show (o' >>= fun b=>p >>= fun d=>p' >>= fun d'=>pure (k a b d d'))=some y from h);exact⟨a,rfl,b,hb,d,hd,d',hd',e⟩
noncomputable def tab{α:Type}:List (Str×α)->Str->Option α
 | [],_=>none
 | p::r,x=>if x==p.1 then some p.2 else tab r x
theorem Go{α:Type}{x:Str}{a:α}{t:List (Str×α)}(h:tab t x=some a):(x,a)∈t:=by
 induction t with
 | nil=>cases h
 | cons p r ih=>
   replace h:(if (x==p.1)=true then some p.2 else tab r x)=some a:=h
   by_cases q:(x==p.1)=true
   ·rw[if_pos q]at h
    cases h
    rw[beq_iff_eq.mp q]
    exact .head _
   ·rw[if_neg q]at h
    exact .tail _ (ih h)
noncomputable def U6:List (Str×Ty):=[("int",.int),("bool",.bool),("list",.list)]
noncomputable def X9(x:Str):Option Ty:=tab U6 x
noncomputable def Nc:List (Str×Dc):=[("WebError",.webError),("BadWeb",.badWeb),("NoPoint",.noPoint),("BadText",.badText),("BadOrder",.badOrder),("HasGap",.hasGap)]
noncomputable def Hi(x:Str):Option Dc:=tab Nc x
noncomputable def L1(x:Str):Option Ee:=
 if x==("many" :Str)then some .many else if x==("rows" :Str)then some .rows else none
noncomputable def U7:List (Str×LM):=[("append",.append),("clear",.clear),("count",.count),("extend",.extend),("index",.index),("remove",.remove),("reverse",.reverse),("setdefault",.setdefault),("split",.split),("join",.join)]
noncomputable def Abw(x:Str):Option LM:=tab U7 x
noncomputable def Ml(x:Str):Option Str:=
 if x==("need" :Str)then some "Web.need" else if x==("beside" :Str)then some "Web.beside" else if x==("tied" :Str)then some "Web.tied" else if x==("ties" :Str)then some "Web.ties" else none
noncomputable def Yb:List (Str×(Nat×BI)):=[("len",(1,.len)),("list",(1,.list)),("sorted",(1,.sorted)),("max",(2,.max)),("min",(2,.min)),("min",(1,.minL)),("all",(1,.all)),("any",(1,.any)),("str",(1,.str)),("int",(1,.int))]
noncomputable def Abx:List (Str×(Nat×BI))->Str->Nat->Option BI
 | [],_,_=>none
 | p::r,x,n=>if x==p.1&&n==p.2.1 then some p.2.2 else Abx r x n
theorem Rj{x:Str}{n:Nat}{b:BI}{t:List (Str×(Nat×BI))}(h:Abx t x n=some b):(x,(n,b))∈t:=by
 induction t with
 | nil=>cases h
 | cons p r ih=>
   replace h:(if (x==p.1&&n==p.2.1)=true then some p.2.2 else Abx r x n)=some b:=h
   by_cases q:(x==p.1&&n==p.2.1)=true
   ·rw[if_pos q]at h
    cases h
    have z:=Bool.and_eq_true_iff.mp q
    rw[beq_iff_eq.mp z.1,beq_iff_eq.mp z.2]
    exact .head _
   ·rw[if_neg q]at h
    exact .tail _ (ih h)
noncomputable def Aby(x:Str)(n:Nat):Option BI:=Abx Yb x n
noncomputable def Ei(f:Str):Option (Dc×Str):=
 if f==("Web.__init__" :Str)then some (.web,"__init__")else if f==("Verdict.__init__" :Str)then some (.verdict,"__init__")else if f==("Web.need" :Str)then some (.web,"need")
 else if f==("Web.beside" :Str)then some (.web,"beside")else if f==("Web.tied" :Str)then some (.web,"tied")else if f==("Web.ties" :Str)then some (.web,"ties")else none
noncomputable def Aem:List Str:=["isinstance","range","enumerate","reversed","set","len","list","sorted","max","min","all","any","str","int","super","type"]
noncomputable def Abz(x:Str):Bool:=x==("MOST" :Str)||x==("FIGURES" :Str)
noncomputable def Tm(names:List Str)(out sc:Scope)(ts:List Str):Bool:=
 (match ts with | [x,y]=>x != y|_=>true)&&sc.kind == .function&&sc.names.all (fun p=>p.2 != .local||ts.contains p.1 || !names.contains p.1)&&sc.names.all (fun p=>p.2 != .cell&&(p.2 != .local||sc.names.lookup p.1==some .local)&&(p.2 != .free||(out.names.lookup p.1==some .cell&&sc.names.lookup p.1==some .free)))
   && ts.all fun t=>sc.names.lookup t==some .local
noncomputable def E0:Expr->Option Str
 | .Name x _=>some x
 | _=>none
noncomputable def Adz:List Expr->Option (List Str)
 | [a,b]=>(match E0 a with
   | some x=>(match E0 b with
     | some y=>some [x,y]
     | none=>none)
   | none=>none)
 | _=>none
set_option backward.match.sparseCases false in
noncomputable def C4:Expr->Option (List Str)
 | .Name x _=>some [x]
 | .Tuple es _ _=>Adz es
 | _=>none
theorem Hy{e:Expr}{x:Str}(h:E0 e=some x):∃p,e = .Name x p:=by
 refine Aa fun nY=>?_
 cases e<;>try exact @nn _ _ _ h
 case Name y p=>(refine nY ?_;clear nY;cases h;exact⟨p,rfl⟩)
theorem Yc{es:List Expr}{ts:List Str}(h:Adz es=some ts):∃x p y q,es = [.Name x p,.Name y q]/\ts = [x,y]:=by
 rcases es with _ | ⟨a,_ | ⟨b,_ | ⟨d,es⟩⟩⟩<;>try exact @nn _ _ _ h
 replace h:(match E0 a with|some x=>(match E0 b with|some y=>some [x,y]|none=>none)|none=>none)=some ts:=h
 cases ha:E0 a with
 | none=>rw[ha]at h;cases h
 | some x=>
   cases hb:E0 b with
   | none=>rw[ha,hb]at h;cases h
   | some y=>
     rw[ha,hb]at h
     cases h
     obtain⟨p,rfl⟩:=Hy ha
     obtain⟨q,rfl⟩:=Hy hb
     exact⟨x,p,y,q,rfl,rfl⟩
theorem Hz{e:Expr}{ts:List Str}(h:C4 e=some ts):(∃x p,e = .Name x p/\ts = [x])\/(∃x p y q k r,e = .Tuple [.Name x p,.Name y q] k r/\ts = [x,y]):=by
 refine Aa fun no=>?_
 cases e<;>try exact @nn _ _ _ h
 case Name x p=>exact no (.inl ⟨x,p,rfl,(Option.some.inj h).symm⟩)
 case Tuple es k r=>
  obtain⟨x,p,y,q,rfl,e⟩:=Yc h
  exact no (.inr ⟨x,p,y,q,k,r,rfl,e⟩)
set_option backward.match.sparseCases false in
noncomputable def Tn:Expr->Option (Expr×List Expr×Bool)
 | .Call g as kw _=>some (g,as,kw.isEmpty)
 | _=>none
theorem Wj{e g:Expr}{as:List Expr}(h:Tn e=some (g,as,true)):∃p,e = .Call g as [] p:=by
 cases e<;>try exact @nn _ _ _ h
 case Call g' as' kw p=>
  have h':=Option.some.inj h
  cases kw with
  | nil=>cases h';exact⟨p,rfl⟩
  | cons a b=>cases h'
noncomputable def Dq(e:Expr):Option (Str×List Expr):=match Tn e with
 | some (g,as,true)=>(match E0 g with
   | some x=>some (x,as)
   | none=>none)
 | _=>none
theorem H0{e:Expr}{x:Str}{as:List Expr}(h:Dq e=some (x,as)):∃p p',e = .Call (.Name x p) as [] p':=by
 unfold Dq at h
 cases q:Tn e with
 | none=>rw[q]at h;cases h
 | some r=>
   refine Aa fun nY=>?_
   obtain⟨g,as',k⟩:=r
   rw[q]at h
   cases k with
   | false=>cases h
   | true=>
     obtain⟨p',rfl⟩:=Wj q
     cases q':E0 g with
     | none=>simp only[q']at h;cases h
     | some y=>
       simp only[q']at h
       cases h
       obtain⟨p,rfl⟩:=Hy q'
       refine nY ?_;clear nY
       exact⟨p,p',rfl⟩
noncomputable def F5(f:Expr->Option X):List Expr->Option (List X)
 | []=>some []
 | e::r=>do return (<-f e)::(<-F5 f r)
noncomputable def To(f:Expr->Option X):Option Expr->Option X
 | none=>some .omit
 | some e=>f e
noncomputable def Nd(f:Expr->Option X)(op:BoolOp):List Expr->Option X
 | []=>none
 | e::r=>(match r with
   | []=>f e
   | _=>(match op with
     | .And=>do return .and (<-f e) (<-Nd f op r)
     | .Or=>do return .or (<-f e) (<-Nd f op r)))
set_option backward.match.sparseCases false in
noncomputable def J9:Expr->Bool
 | .Tuple .. =>true
 | _=>false
noncomputable def Yd(f:Expr->Option X)(c:Cx)(two:Bool)(e:Expr):Option X:=
 match Dq e with
 | some (x,args)=>
   if c.global x&&x==("range" :Str)then(if args.length==1||args.length==2 then do return .range (<-F5 f args)else none)
   else if c.global x&&x==("enumerate" :Str)then(match args with | [a]=>if two then do return .enum (<-f a)else none|_=>none)
   else if c.global x&&x==("reversed" :Str)then(match args with | [a]=>do return .rev (<-f a)|_=>none)
   else do return .val (<-f e)
 | none=>do return .val (<-f e)
noncomputable def O6(c:Cx)(nm:Str)(args:List Expr):Option (List Expr):=match args with
 | [e]=>(match Dq e with
   | some (s,as)=>if c.global s&&s==nm then some as else none
   | none=>none)
 | _=>none
theorem P9{c:Cx}{nm:Str}{args as:List Expr}(h:O6 c nm args=some as):∃sp sp',args = [.Call (.Name nm sp) as [] sp']/\c.global nm=true:=by
 refine Aa fun nY=>?_
 rcases args with _ | ⟨e,_ | ⟨e',r⟩⟩<;>try exact @nn _ _ _ h
 replace h:(match Dq e with|some (s,as)=>if c.global s&&s==nm then some as else none|none=>none)=some as:=h
 refine nY ?_;clear nY
 cases q:Dq e with
 | none=>rw[q]at h;cases h
 | some r=>
   refine Aa fun nY=>?_
   obtain⟨s,bs⟩:=r
   rw[q]at h
   replace h:(if (c.global s&&s==nm)=true then some bs else none)=some as:=h
   by_cases z:(c.global s&&s==nm)=true
   ·rw[if_pos z]at h
    cases h
    have z:c.global s=true/\s=nm:=by simpa using z
    obtain⟨sp,sp',rfl⟩:=H0 q
    refine nY ?_;clear nY
    rw[<-z.2]
    exact⟨sp,sp',rfl,z.1⟩
   ·rw[if_neg z]at h;cases h
noncomputable def Agt:List (Str×Str):=[("_law_others","!_law_others")]
noncomputable def hOf(x:Str):Option Str:=tab Agt x
noncomputable def Ka(f:Str):Bool:=f==("!_law_others" :Str)
noncomputable def H5(f:Str):Str:=if f==("!_law_others" :Str)then "_law_others" else f
theorem O7{x:Str}(h:Ka x=false):H5 x=x:=by
 unfold H5
 unfold Ka at h
 rw[h];rfl
theorem Aen{x y:Str}(h:hOf x=some y):Ka y=true/\H5 y=x/\Ei y=none/\(x==("__debug__" :Str))=false:=
 (by decide:∀p∈Agt,Ka p.2=true/\H5 p.2=p.1/\Ei p.2=none/\(p.1==("__debug__" :Str))=false) (x,y) (Go h)
noncomputable def U8:List Expr->Option (Expr×Str)
 | [e,t]=>(match E0 t with
   | some x=>some (e,x)
   | none=>none)
 | _=>none
theorem Tp{args:List Expr}{e:Expr}{x:Str}(h:U8 args=some (e,x)):∃p,args = [e,.Name x p]:=by
 rcases args with _ | ⟨a,_ | ⟨b,_ | ⟨d,es⟩⟩⟩<;>try exact @nn _ _ _ h
 replace h:(match E0 b with|some x=>some (a,x)|none=>none)=some (e,x):=h
 cases q:E0 b with
 | none=>rw[q]at h;cases h
 | some y=>
   rw[q]at h
   cases h
   obtain⟨p,rfl⟩:=Hy q
   exact⟨p,rfl⟩
noncomputable def U9(f:Expr->Option X)(c:Cx)(x:Str)(args:List Expr):Option X:=
 if x==("isinstance" :Str)then(match U8 args with
  | some (e,t)=>if c.global t then(match X9 t with
    | some ty=>do return .bi (.isinst ty) [<-f e]
    | none=>if t==("ValueError" :Str)then do return .isVE (<-f e)else do return .isown (<-Hi t) (<-f e))else none
  | none=>none)
 else if c.hnd then(match hOf x with
  | some y=>do return .call y (<-F5 f args)
  | none=>none)
 else match Aby x args.length with
  | some b=>(match b with
    | .list=>(match O6 c "range" args with
      | some as=>if as.length==1||as.length==2 then do return .bi .listRange (<-F5 f as)else none
      | none=>do return .bi b (<-F5 f args))
    | _=>do return .bi b (<-F5 f args))
  | none=>if Aem.contains x||(Ei x).isSome||x==("__debug__" :Str)||Ka x then none else if x==("Web" :Str)then do return .mk .web (<-F5 f args)else if x==("Verdict" :Str)then do return .mk .verdict (<-F5 f args)
    else do return .call x (<-F5 f args)
noncomputable def H6:Expr->Bool
 | .Call (.Name _ _) [] [] _=>false
 | _=>true
noncomputable def Ft(r:Cx->Expr->Option X)(c:Cx)(e:Expr):Option X:=
 match e with
 | .Constant k _ _=>(match k with
   | .none=>some .cnone | .bool b=>some (.cbool b) | .int i=>some (.cint i) | .str s=>some (.cstr s)|_=>none)
 | .Name x _=>if x==("__debug__" :Str)||x==("__classdict__" :Str)then none else(match c.slot x with
   | some i=>some (.var i)
   | none=>if c.global x then(if Abz x then some (.glob x)else none)else none)
 | .UnaryOp .Not e _=>do return .not (<-r c e)
 | .UnaryOp .USub e _=>do return .neg (<-r c e)
 | .BoolOp op es _=>Nd (r c) op es
 | .BinOp l op e _=>do return .bin op (<-r c l) (<-r c e)
 | .Compare l [o] [e] _=>do return .cmp o (<-r c l) (<-r c e)
 | .Compare l [o,o'] [m,e] _=>do return .chain (<-r c l) o (<-r c m) o' (<-r c e)
 | .Call (.Name x _) args [] _=>if c.global x then U9 (r c) c x args else none
 | .Call (.Attribute o m ap) args [] p=>if ap.endLine==p.line&&decide (args.length<3)&&H6 o then(match Ml m with
   | some g=>do return .meth g (<-r c o) (<-F5 (r c) args)
   | none=>do return .lm (<-Abw m) (<-r c o) (<-F5 (r c) args))else none
 | .Attribute o a _=>if H6 o then do return .attr (<-r c o) (<-L1 a)else none
 | .Subscript o (.Slice l u st _) _=>do return .slice (<-r c o) (<-To (r c) l) (<-To (r c) u) (<-To (r c) st)
 | .Subscript o s _=>do return .sub (<-r c o) (<-r c s)
 | .List es _=>if es.length<100 then do return .list (<-F5 (r c) es)else none
 | .Tuple es _ _=>if es.length<100 then do return .tuple (<-F5 (r c) es)else none
 | .Dict [] [] _=>some (.dict [] [])
 | .ListComp elt [⟨t,it,ifs,a⟩] sc _=>(match C4 t with
   | some ts=>if a==0&&Tm c.names c.sc sc ts then(match ifs with
      | []=>do return .comp ts.length (<-Yd (r c) c (J9 t) it) (<-r ⟨ts++c.names,sc,false,true⟩ elt)
      | [cond]=>do return .compIf ts.length (<-Yd (r c) c (J9 t) it) (<-r ⟨ts++c.names,sc,false,true⟩ cond) (<-r ⟨ts++c.names,sc,false,true⟩ elt)
      | _=>none)
     else none
   | none=>none)
 | _=>none
set_option backward.match.sparseCases false in
noncomputable def Rk:Expr->Bool
 | .Constant .. =>true
 | .Name .. =>true
 | .UnaryOp .. =>true
 | .BoolOp .. =>true
 | .Compare .. =>true
 | .Call (.Name _ _) _ _ _=>true
 | _=>false
noncomputable def Rl:Nat->Cx->Expr->Option X
 | 0=>fun _ _=>none
 | n+1=>fun c e=>if c.hnd && !Rk e then none else Ft (Rl n) c e
noncomputable def Jh(f:Stmt->Option S):List Stmt->Option (List S)
 | []=>some []
 | e::r=>do return (<-f e)::(<-Jh f r)
noncomputable def Agu(c:Cx):List Str->Option Rc
 | []=>none
 | x::r=>(match r with
   | []=>(c.own x).map .one
   | y::r'=>(match r' with
     | []=>do return .two (<-c.own x) (<-c.own y)
     | _::_=>none))
noncomputable def Ye(c:Cx)(e:Expr):Option Rc:=match C4 e with
 | some ts=>Agu c ts
 | none=>none
theorem Ab0{c:Cx}{e:Expr}{t:Rc}(h:Ye c e=some t):(∃x p,e = .Name x p/\B1 (c.own x) Rc.one t)\/(∃x p y q k r,e = .Tuple [.Name x p,.Name y q] k r/\B2 (c.own x) (c.own y) Rc.two t):=by
 replace h:(match C4 e with|some ts=>Agu c ts|none=>none)=some t:=h
 cases q:C4 e with
 | none=>rw[q]at h;cases h
 | some ts=>
   refine Aa fun nY=>?_
   rcases Hz q with⟨x,p,rfl,rfl⟩ | ⟨x,p,y,p',k,r,rfl,rfl⟩
   ·refine nY ?_;clear nY
    refine .inl ⟨x,p,rfl,?_⟩
    refine Aa fun nY=>?_
    obtain⟨i,hi,e⟩:=Option.map_eq_some_iff.mp (show (c.own x).map Rc.one=some t from h)
    refine nY ?_;clear nY
    exact⟨i,hi,e⟩
   ·refine nY ?_;clear nY
    exact .inr ⟨x,p,y,p',k,r,rfl,b2 (show ((c.own x) >>= fun i=>(c.own y) >>= fun j=>pure (Rc.two i j))=some t from h)⟩
noncomputable def O8:S->Bool
 | .expr _=>true
 | .assign _ _=>true
 | .ite _ [a] [b]=>O8 a&&O8 b
 | _=>false
noncomputable def Ji:List S->Bool
 | [a]=>O8 a
 | _=>false
noncomputable def asO(c:Cx):Option Str->Option (Option Nat)
 | none=>some none
 | some x=>if c.sc.names.lookup x==some .local then(c.own x).map some else none
set_option backward.match.sparseCases false in
noncomputable def Kb:Expr->Bool
 | .ListComp .. =>false
 | .SetComp .. =>false
 | .DictComp .. =>false
 | _=>true
noncomputable def Rm(n:Nat)(c:Cx)(t e:Expr):Option S:=
 match t with
 | .Name x _=>do return .assign (<-c.own x) (<-Rl n c e)
 | .Attribute o a _=>do return .setattr (<-Rl n c o) (<-L1 a) (<-Rl n c e)
 | .Subscript o i _=>(match i with
   | .Slice .. =>none
   | i=>do return .setitem (<-Rl n c o) (<-Rl n c i) (<-Rl n c e))
 | _=>none
set_option backward.match.sparseCases false in
noncomputable def Yg:Expr->Bool
 | .Constant (.str _) _ _=>true
 | _=>false
theorem Ab1{e:Expr}(h:Yg e=true):∃s k p,e = .Constant (.str s) k p:=by
 refine Aa fun nY=>?_
 cases e<;>try exact absurd h Bool.false_ne_true
 case Constant k a b=>
  cases k<;>try exact absurd h Bool.false_ne_true
  refine nY ?_;clear nY
  exact⟨_,_,_,rfl⟩
noncomputable def Nf(c:Cx)(e:Option Expr):Option Dc:=
 match e with
 | some e=>(match Dq e with
   | some (x,args)=>(match args with
     | [a]=>if Yg a&&c.global x then Hi x else none
     | _=>none)
   | none=>none)
 | none=>none
noncomputable def Ad0:Option Expr->Option Str
 | some e=>E0 e
 | none=>none
noncomputable def Gp(c:Cx)(h:ExceptHandler):Option (Dc×Option Nat):=match h with
 | .ExceptHandler t as b _=>(match Ad0 t with
   | some x=>if c.global x && !b.isEmpty then do return (<-Hi x,<-asO c as)else none
   | none=>none)
noncomputable def Fe:ExceptHandler->List Stmt
 | .ExceptHandler _ _ b _=>b
noncomputable def Mm(c:Cx)(h:ExceptHandler):Option Dc:=match Gp c h with
 | some (k,none)=>some k
 | _=>none
noncomputable def mk1(b:List S)(k:Dc×Option Nat)(h:List S):S:= .try1 b k.1 k.2 h
noncomputable def mk2(b:List S)(k:Dc×Option Nat)(h:List S)(k':Dc)(h':List S):S:= .try2 b k.1 k.2 h k' h'
set_option backward.match.sparseCases false in
noncomputable def Dr(n:Nat)(r:Cx->Stmt->Option S)(c:Cx)(s:Stmt):Option S:=
 match s with
 | .Assign ts e _=>(match ts with
   | [t]=>Rm n c t e
   | _=>none)
 | .Expr e _=>if Kb e then do return .expr (<-Rl n c e)else none
 | .If t a b _=>do return .ite (<-Rl n c t) (<-Jh (r c) a) (<-Jh (r c) b)
 | .For t it body els _=>(match els with
   | []=>do return .for (<-Ye c t) (<-Yd (Rl n c) c (J9 t) it) (<-Jh (r c) body)
   | _=>none)
 | .While t body els _=>(match els with
   | []=>do return .while (<-Rl n c t) (<-Jh (r c) body)
   | _=>none)
 | .Return e _=>(match e with
   | some e=>do return .ret (<-Rl n c e)
   | none=>none)
 | .Pass _=>some .pass
 | .Raise e z _=>(match z with
   | none=>do return .raise (<-Nf c e)
   | some _=>none)
 | .Try body hs els fin _=>(match els,fin with
   | [],[]=>(match Jh (r c) body with
     | some b=>if Ji b then(match hs with
       | [h]=>do return mk1 b (<-Gp c h) (<-Jh (r {c with hnd:=true}) (Fe h))
       | [h,h']=>do return mk2 b (<-Gp c h) (<-Jh (r {c with hnd:=true}) (Fe h)) (<-Mm c h') (<-Jh (r {c with hnd:=true}) (Fe h'))
       | h::_::_::_=>do return mk1 b (<-Gp c h) (<-Jh (r {c with hnd:=true}) (Fe h))
       | []=>none)else none
     | none=>none)
   | _,_=>none)
 | _=>none
set_option backward.match.sparseCases false in
noncomputable def Va:Stmt->Bool
 | .Return .. =>true
 | .If .. =>true
 | _=>false
noncomputable def erS:Nat->Cx->Stmt->Option S
 | 0=>fun _ _=>none
 | n+1=>fun c s=>if (c.hnd && !Va s)||c.cmp then none else Dr (n+1) (erS n) c s
noncomputable def Cj(params:Arguments)(sc:Scope):List Str:=
 params.args.map (·.arg)++(sc.names.filter fun p=>(p.2 == .local||p.2 == .cell) && !(params.args.any fun a=>a.arg==p.1)).map (·.1)
noncomputable def Ff(p:Arguments):Bool:=p.posonlyargs.isEmpty&&p.vararg.isNone&&p.kwonlyargs.isEmpty&&p.kw_defaults.isEmpty&&p.kwarg.isNone&&p.defaults.isEmpty
noncomputable def Ab2(h:Bool)(params:Arguments)(body:List Stmt)(sc:Scope):Option Fn:=
 if Ff params&&sc.kind == .function && !sc.isGenerator && !sc.isCoroutine then do
  let ns:=Cj params sc
  return ⟨ns.length,params.args.length,<-Jh (erS 40 ⟨ns,sc,h,false⟩) body⟩
 else none
end Mine.Internal
namespace Mine.Internal
open PySem PySem.W PyProof.Rows
set_option genCtorIdx false in
structure Wd where
 prog:Program
 w:World
 K:Frag
 cl:Dc->Addr
 b₀:Heap
 os:OsState
 sa:Addr
 sn:List Int
 hsc:(Hn fun items=>Fx (b₀.IsList sa items.toArray) (PyProof.Rows.IntsAre items sn) (items.length<=Cg))
variable {W:Wd}
noncomputable abbrev Wd.M(W:Wd):Model:=model W.prog W.w
inductive VR(W:Wd):V->Value->Prop
 | none:VR W .none .none
 | bool (b):VR W (.bool b) (.bool b)
 | int (i t):VR W (.int i) (.int i t)
 | str (s t):VR W (.str s) (.str s t)
 | ref (a):VR W (.ref a) (.ref a)
 | fn {f a}:Ei f=none->nsIn W.K mainGlobals (H5 f)=some (some (.ref a))->VR W (.fn f) (.ref a)
 | script:VR W (.script W.sn) (.ref W.sa)
inductive Df(W:Wd):List V->List Value->Prop
 | nil:Df W [] []
 | cons {v c vs cs}:VR W v c->Df W vs cs->Df W (v::vs) (c::cs)
theorem Df.length:∀ {vs cs},Df W vs cs->vs.length=cs.length
 | _,_,.nil=>rfl
 | _,_,.cons _ t=>by simp[t.length]
theorem Df.append:∀ {vs cs vs' cs'},Df W vs cs->Df W vs' cs'->Df W (vs++vs') (cs++cs')
 | _,_,_,_,.nil,h=>h
 | _,_,_,_,.cons h t,h'=> .cons h (t.append h')
theorem Df.get:∀ {vs cs} (i:Nat) {v},Df W vs cs->vs[i]? = some v->∃c,cs[i]? = some c/\VR W v c
 | _,_,0,_,.cons h _,e=>by simp at e;subst e;exact⟨_,rfl,h⟩
 | _,_,i+1,_,.cons _ t,e=>by simp at e;simpa using t.get i e
theorem Df.get':∀ {vs cs} (i:Nat) {c},Df W vs cs->cs[i]? = some c->∃v,vs[i]? = some v/\VR W v c
 | _,_,0,_,.cons h _,e=>by simp at e;subst e;exact⟨_,rfl,h⟩
 | _,_,i+1,_,.cons _ t,e=>by simp at e;simpa using t.get' i e
theorem Df.set:∀ {vs cs} (i:Nat) {v c},Df W vs cs->VR W v c->Df W (vs.set i v) (cs.set i c)
 | _,_,_,_,_,.nil,_=> .nil
 | _,_,0,_,_,.cons _ t,h=> .cons h t
 | _,_,i+1,_,_,.cons h' t,h=> .cons h' (t.set i h)
theorem Df.take:∀ {vs cs} (n:Nat),Df W vs cs->Df W (vs.take n) (cs.take n)
 | _,_,0,_=>by simpa using Df.nil
 | _,_,_+1,.nil=> .nil
 | _,_,n+1,.cons h t=> .cons h (t.take n)
theorem Df.drop:∀ {vs cs} (n:Nat),Df W vs cs->Df W (vs.drop n) (cs.drop n)
 | _,_,0,h=>h
 | _,_,_+1,.nil=> .nil
 | _,_,n+1,.cons _ t=>t.drop n
theorem Df.reverse:∀ {vs cs},Df W vs cs->Df W vs.reverse cs.reverse
 | _,_,.nil=> .nil
 | _,_,.cons h t=>by simp only[List.reverse_cons];exact t.reverse.append (.cons h .nil)
theorem Df.replicate{vs cs}(h:Df W vs cs):∀n,Df W (List.replicate n vs).flatten (List.replicate n cs).flatten
 | 0=> .nil
 | n+1=>by simp only[List.replicate_succ,List.flatten_cons];exact h.append (h.replicate n)
noncomputable def A4:Ee->Str
 | .many=> "many" | .rows=> "rows"
inductive Wk(W:Wd):List (Ee×V)->List DictEntry->Prop
 | nil:Wk W [] []
 | cons {a v fs e es}:e.key.isStr (A4 a)=true->(∃t,e.key = .str (A4 a) t)->VR W v e.val->Wk W fs es->Wk W ((a,v)::fs) (e::es)
inductive Tc(W:Wd):List (Int×V)->List (Int×Value)->Prop
 | nil:Tc W [] []
 | cons {k v c es kvs}:VR W v c->Tc W es kvs->Tc W ((k,v)::es) ((k,c)::kvs)
noncomputable def VE:List Value:=[.type "ValueError",.type "Exception",.type "BaseException",.type "object"]
noncomputable def Kc:Dc->Str
 | .webError=> "WebError" | .badWeb=> "BadWeb" | .noPoint=> "NoPoint" | .badText=> "BadText" | .badOrder=> "BadOrder" | .hasGap=> "HasGap" | _=> ""
theorem Ng{x:Str}{c:Dc}(h:Hi x=some c):x=Kc c:=(by decide:∀p∈Nc,p.1=Kc p.2) (x,c) (Go h)
noncomputable def Nh(K:Frag)(C:Addr):List Value:=match K.lookup C with
 | some ⟨_,_,.cls cd,_⟩=>cd.mro
 | _=>[]
noncomputable def Jj:List Str:=["__getattribute__","__getattr__","__class__"]
noncomputable def Kd(K:Frag):List Value->Bool
 | []=>false
 | v::r=>(v::r)==VE||(match v with
   | .ref A=>(match K.lookup A with
     | some ⟨_,_,.cls cd,_⟩=>nsOkIn K cd.ns&&Jj.all (fun n=>nsIn K cd.ns n==some none)&&Kd K r
     | _=>false)
   | _=>false)
structure L2(W:Wd)(c:Dc):Prop where
 name:nsIn W.K mainGlobals (Kc c)=some (some (.ref (W.cl c)))
 own:excIn W.K (W.cl c) VE "ValueError.__new__" = true
 quiet:Kd W.K (Nh W.K (W.cl c))=true
inductive OR(W:Wd):O->Obj->Prop
 | list {xs items n}:Df W xs items->xs.length<=Cg->OR W (.list xs) {cls:= .type "list",data:= .seq items.toArray n}
 | tuple {xs items n}:Df W xs items->xs.length<=Cg->OR W (.tuple xs) {cls:= .type "tuple",data:= .seq items.toArray n}
 | dict {es kvs ob}:Tc W es kvs->es.length<=Cg->ob.IsDictOf (intKind W.prog W.w) kvs->OR W (.dict es) ob
 | inst {c d}:(c = .web\/c = .verdict)->OR W (.inst c d) (instObj (W.cl c) d)
 | ns {fs es n}:Wk W fs es->fs.length<=10->OR W (.ns fs) (dictOf es n)
 | exc {c ob vs}:L2 W c->ob.cls = .ref (W.cl c)->ob.data = .fields vs->OR W (.exc c) ob
set_option genCtorIdx false in
structure HB where
 h:Heap
 fs:List Addr
noncomputable def HB.get? (x:HB)(a:Addr):Option Obj:=x.h.get? a
noncomputable def Tq(W:Wd)(fs:List Addr)(b:Addr)(o o':Obj):Prop:=o'=o\/((b∈fs/\W.b₀.get? b=none)/\∃sl,o' = {o with slots:=sl})
theorem Tq.refl{fs:List Addr}{b:Addr}{o:Obj}:Tq W fs b o o:= .inl rfl
theorem Tq.trans{fs:List Addr}{b:Addr}{o o' o'':Obj}(h:Tq W fs b o o')(h':Tq W fs b o' o''):Tq W fs b o o'':=by
 rcases h with rfl | ⟨d,sl,rfl⟩
 ·exact h'
 ·rcases h' with rfl | ⟨_,sl',rfl⟩
  ·exact .inr ⟨d,sl,rfl⟩
  ·exact .inr ⟨d,sl',rfl⟩
noncomputable def F6(W:Wd)(h:HB)(h':Heap):Prop:=∀b o,h.get? b=some o->∃o',h'.get? b=some o'/\Tq W h.fs b o o'
theorem F6.of{h:HB}{h':Heap}(k:∀b o,h.get? b=some o->h'.get? b=some o):F6 W h h':=fun b o e=>⟨o,k b o e,.refl⟩
theorem F6.more{h:HB}{h' h'':Heap}(k:F6 W h h')(k':∀b o,h'.get? b=some o->h''.get? b=some o):F6 W h h'':=fun b o e=>
 let ⟨o',e1,s1⟩:=k b o e;⟨o',k' b o' e1,s1⟩
theorem F6.trans{h h₁:HB}{h'':Heap}(k:F6 W h h₁.h)(hf:∀b o,h.get? b=some o->b∈h₁.fs->b∈h.fs)(k':F6 W h₁ h''):F6 W h h'':=fun b o e=>
 let ⟨_,e1,s1⟩:=k b o e;let ⟨_,e2,s2⟩:=k' b _ e1;⟨_,e2,s1.trans (s2.imp id fun⟨⟨m,n⟩,z⟩=>⟨⟨hf b o e m,n⟩,z⟩)⟩
theorem F6.exact{h:HB}{h':Heap}(k:F6 W h h'){b:Addr}{o:Obj}(e:h.get? b=some o)(hx:b∉h.fs\/W.b₀.get? b≠none):h'.get? b=some o:=by
 refine Aa fun nY=>?_
 obtain⟨o',e1,s | ⟨⟨d,n⟩,_⟩⟩:=k b o e
 ·refine nY ?_;clear nY
  rw[e1,s]
 ·rcases hx with hx|hx
  ·exact absurd d hx
  ·exact absurd n hx
theorem F6.ns{h:HB}{h':Heap}(k:F6 W h h'){a:Addr}{m:Str->Option Value}(x:h.h.Ns a m):h'.Ns a m:=by
 refine Aa fun nY=>?_
 obtain⟨o,es,ep,ho,hd,r⟩:=x
 obtain⟨o',e1,s⟩:=k a o ho
 refine nY ?_;clear nY
 refine⟨o',es,ep,e1,?_,r⟩
 rcases s with rfl | ⟨_,_,rfl⟩<;>exact hd
theorem F6.none{h:HB}{h':Heap}(k:F6 W h h'){b:Addr}(e:h'.get? b=none):h.get? b=none:=by
 cases q:h.get? b with
 | none=>rfl
 | some o=>obtain⟨_,e1,_⟩:=k b o q;rw[e]at e1;cases e1
structure Al(W:Wd)(h₀:HB)(env:Env)(names:List Str)(H:AH)(ρ:Aj)(s:Shared):Prop where
 ns:∃m,s.heap.Ns env.locals m/\∀x i v,names.idxOf? x=some i->env.kindOf x=some .local->ρ[i]? = some (some v)->∃c,m x=some c/\VR W v c
 cell:∀x a,env.cells.lookup x=some a->∃w,s.heap.IsCell a w/\∀i v,names.idxOf? x=some i->(env.kindOf x=some .cell\/env.kindOf x=some .free)->ρ[i]? = some (some v)->∃c,w=some c/\VR W v c
 keep:F6 W h₀ s.heap
 objs:∀a o,H a=some o->∃ob,s.heap.get? a=some ob/\OR W o ob
 sep:∀a o,H a=some o->h₀.get? a=none/\a≠env.locals/\∀x,env.cells.lookup x≠some a
 gens:s.gens = #[]
 os:s.os=W.os
 above:W.b₀.objs.size<=env.locals
 low:∀a es,H a=some (.dict es)->W.b₀.objs.size<=a
structure Ah(W:Wd)(env:Env)(c:Cx)(h₀:HB):Prop where
 kind:env.scope.kind = .function
 globals:env.globals=mainGlobals
 builtins:env.builtins=builtinsNs
 kinds:∀x k,c.sc.names.lookup x=some k->k≠ .free->env.kindOf x=some k
 frees:∀x,c.sc.names.lookup x=some .free->env.kindOf x=some .cell\/env.kindOf x=some .free
 cells:∀x,env.kindOf x=some .cell\/env.kindOf x=some .free->∃a,env.cells.lookup x=some a
 apart:∀x a,env.cells.lookup x=some a->a≠env.locals
 inj:∀x y a,env.cells.lookup x=some a->env.cells.lookup y=some a->x=y
 base:∀b o,W.b₀.get? b=some o->h₀.get? b=some o
 new:h₀.get? env.locals=none
 fsok:∀L∈h₀.fs,h₀.get? L≠none
 fsd:∀L∈h₀.fs,W.b₀.get? L=none/\∀o,h₀.get? L=some o->∀vs,o.data≠ .fields vs
 newc:∀p∈env.cells,h₀.get? p.2=none
 look:∀p∈env.cells,env.cells.lookup p.1=some p.2
 lo:sysModules<W.b₀.objs.size
section
variable {h₀:HB} {env:Env} {names:List Str} {H:AH} {ρ:Aj} {s:Shared}
theorem Al.toks(R:Al W h₀ env names H ρ s)(t:Nat):Al W h₀ env names H ρ {s with toks:=t}:=⟨R.ns,R.cell,R.keep,R.objs,R.sep,R.gens,R.os,R.above,R.low⟩
theorem Al.move(R:Al W h₀ env names H ρ s){h':Heap}(t:Nat)(k:∀b o,s.heap.get? b=some o->h'.get? b=some o):Al W h₀ env names H ρ {s with heap:=h',toks:=t} where
 ns:=let ⟨m,a,b⟩:=R.ns;⟨m,a.keeps k,b⟩
 cell:=fun x a e=>let ⟨w,⟨o,ho,hd⟩,r⟩:=R.cell x a e;⟨w,⟨o,k _ _ ho,hd⟩,r⟩
 keep:=R.keep.more k
 objs:=fun a o e=>let ⟨ob,h1,h2⟩:=R.objs a o e;⟨ob,k _ _ h1,h2⟩
 sep:=R.sep
 gens:=R.gens
 os:=R.os
 above:=R.above
 low:=R.low
theorem Qa{h h₀:Heap}(k:∀b o,h₀.get? b=some o->h.get? b=some o):h₀.get? h.objs.size=none:=by
 cases q:h₀.get? h.objs.size with
 | none=>rfl
 | some o=>exact absurd (Heap.lt_size (k _ _ q)) (Nat.lt_irrefl _)
theorem Al.fresh(R:Al W h₀ env names H ρ s):H s.heap.objs.size=none:=by
 cases q:H s.heap.objs.size with
 | none=>rfl
 | some o=>obtain⟨ob,h1,_⟩:=R.objs _ _ q;exact absurd (Heap.lt_size h1) (Nat.lt_irrefl _)
theorem O9{a:Addr}{h:Heap}(ha:h.objs.size<=a):h.get? a=none:=by
 cases q:h.get? a with
 | none=>rfl
 | some o=>exact absurd (Heap.lt_size q) (Nat.not_lt.mpr ha)
theorem Al.up(R:Al W h₀ env names H ρ s):W.b₀.objs.size<=s.heap.objs.size:=by
 obtain⟨m,h,_⟩:=R.ns;exact Nat.le_trans R.above (Nat.le_of_lt h.lt)
theorem Al.put(R:Al W h₀ env names H ρ s){h':Heap}{a:Addr}{o:O}{ob:Obj}(t:Nat)(k:∀b o,s.heap.get? b=some o->h'.get? b=some o)
 (ho:h'.get? a=some ob) (r:OR W o ob) (hn:s.heap.get? a=none) (hb:∀es,o = .dict es->W.b₀.objs.size<=a):Al W h₀ env names (upd H a o) ρ {s with heap:=h',toks:=t} where
 ns:=let ⟨m,x,b⟩:=R.ns;⟨m,x.keeps k,b⟩
 cell:=fun x a e=>let ⟨w,⟨o,ho,hd⟩,r⟩:=R.cell x a e;⟨w,⟨o,k _ _ ho,hd⟩,r⟩
 keep:=R.keep.more k
 objs:=fun b o' e=>by
  unfold upd at e
  split at e
  ·rename_i q;subst q;cases e;exact⟨ob,ho,r⟩
  ·obtain⟨ob',h1,h2⟩:=R.objs b o' e;exact⟨ob',k _ _ h1,h2⟩
 sep:=fun b o' e=>by
  unfold upd at e
  split at e
  ·rename_i q;subst q
   refine⟨?_,?_,?_⟩
   ·exact R.keep.none hn
   ·rintro rfl;obtain⟨m,⟨o,_,_,h,_⟩,_⟩:=R.ns;rw[h]at hn;cases hn
   ·intro x q;obtain⟨w,⟨o,h,_⟩,_⟩:=R.cell x b q;rw[h]at hn;cases hn
  ·exact R.sep b o' e
 gens:=R.gens
 os:=R.os
 above:=R.above
 low:=fun b o' e=>by
  unfold upd at e
  split at e
  ·rename_i q;subst q;exact hb _ (Option.some.inj e)
  ·exact R.low b o' e
theorem C1(h:Heap):h.get? h.objs.size=none:=by
 cases q:h.get? h.objs.size with
 | none=>rfl
 | some o=>exact absurd (Heap.lt_size q) (Nat.lt_irrefl _)
theorem Al.change(R:Al W h₀ env names H ρ s){h':Heap}{a:Addr}{o o':O}{ob:Obj}(t:Nat)(he:H a=some o')(k:Heap.SameBut a s.heap h')
 (ho:h'.get? a=some ob) (r:OR W o ob) (hl:∀es,o = .dict es->∃es',o' = .dict es'):Al W h₀ env names (upd H a o) ρ {s with heap:=h',toks:=t}:=by
 refine Aa fun nY=>?_
 obtain⟨s1,s2,s3⟩:=R.sep a o' he
 refine nY ?_;clear nY
 refine⟨?_,?_,?_,?_,?_,R.gens,R.os,R.above,?_⟩
 ·obtain⟨m,x,b⟩:=R.ns;exact⟨m,x.sameBut k (Ne.symm s2),b⟩
 ·intro x c e
  refine Aa fun nY=>?_
  obtain⟨w,⟨oc,hc,hd⟩,r⟩:=R.cell x c e
  refine nY ?_;clear nY
  exact⟨w,⟨oc,(k.2 c (fun q=>s3 x (q▸e))).trans hc,hd⟩,r⟩
 ·intro b x e
  refine Aa fun nY=>?_
  obtain⟨x',e1,z⟩:=R.keep b x e
  refine nY ?_;clear nY
  exact⟨x',(k.2 b (fun q=>by rw[q,s1]at e;cases e)).trans e1,z⟩
 ·intro b x e
  unfold upd at e
  refine Aa fun nY=>?_
  split at e
  ·refine nY ?_;clear nY
   rename_i q;subst q;cases e;exact⟨ob,ho,r⟩
  ·refine nY ?_;clear nY
   rename_i q;obtain⟨ob',h1,h2⟩:=R.objs b x e;exact⟨ob',(k.2 b q).trans h1,h2⟩
 ·intro b x e
  unfold upd at e
  refine Aa fun nY=>?_
  split at e
  ·refine nY ?_;clear nY
   rename_i q;subst q;exact⟨s1,s2,s3⟩
  ·refine nY ?_;clear nY
   exact R.sep b x e
 ·intro b x e
  unfold upd at e
  refine Aa fun nY=>?_
  split at e
  ·refine nY ?_;clear nY
   rename_i q;subst q;obtain⟨es',rfl⟩:=hl _ (Option.some.inj e);exact R.low b _ he
  ·refine nY ?_;clear nY
   exact R.low b x e
theorem Al.keepB{c:Cx}(R:Al W h₀ env names H ρ s)(Y:Ah W env c h₀):∀b o,W.b₀.get? b=some o->s.heap.get? b=some o:=fun b o e=>
 R.keep.exact (Y.base b o e) (.inr (by rw[e];nofun))
theorem Al.fsd{c:Cx}(R:Al W h₀ env names H ρ s)(Y:Ah W env c h₀){L:Addr}(m:L∈h₀.fs):∃o,s.heap.get? L=some o/\∀vs,o.data≠ .fields vs:=by
 cases q:h₀.get? L with
 | none=>exact absurd q (Y.fsok L m)
 | some o=>
   obtain⟨o',e1,z⟩:=R.keep L o q
   refine⟨o',e1,?_⟩
   rcases z with z | ⟨_,sl,z⟩<;>rw[z]<;>exact(Y.fsd L m).2 o q
theorem Al.script{c:Cx}(Y:Ah W env c h₀)(R:Al W h₀ env names H ρ s):(Hn fun items=>Fx (s.heap.IsList W.sa items.toArray) (IntsAre items W.sn) (items.length<=Cg)):=by
 refine Aa fun nY=>?_
 obtain⟨items,⟨o,h1,h2⟩,h3,h4⟩:=W.hsc
 refine nY ?_;clear nY
 exact⟨items,⟨o,R.keepB Y _ _ h1,h2⟩,h3,h4⟩
end
end Mine.Internal
namespace Mine.Internal
open PySem PySem.W PyProof.Rows
variable {W:Wd} {A:Around} {h₀:HB} {env:Env} {c:Cx} {names:List Str} {H:AH} {ρ:Aj} {s:Shared} {E:Value->Shared->Prop} {n:Nat} {Er:EP}
noncomputable def Cb(W:Wd)(h₀:HB)(env:Env)(names:List Str)(ρ:Aj)(Q:Af)(v:Value)(s':Shared):Prop:=(Ho fun a H'=>Fx (VR W a v) (Al W h₀ env names H' ρ s') (Q a H'))
noncomputable def Stk(A:Around)(fs:List Addr):Prop:=∃l,A.frames=some l/\∀x∈l,x.scope.kind≠ .module/\∃L,x.frame=some L/\L∈fs
theorem Stk.more{A:Around}{fs fs':List Addr}(x:Stk A fs)(h:∀L∈fs,L∈fs'):Stk A fs':=let ⟨l,e,z⟩:=x;⟨l,e,fun y m=>let ⟨k,L,f,g⟩:=z y m;⟨k,L,f,h L g⟩⟩
structure Kz(A:Around)(c:Cx)(h₀:HB)(env:Env)(E:EP)(n:Nat):Prop where
 handled:c.hnd=false->A.handled=none
 room:A.depth+4*n+4<recursionLimit
 units:A.units+30*n+60<cLine
 stk:Stk A (env.locals::h₀.fs)
 top:c.cmp=false->∃outer,A.frames=some (env::outer)/\env.frame=some env.locals
 noE:c.cmp=true->∀v H,¬E v H
noncomputable def Fu(h₀:HB)(env:Env)(H:AH)(hs:List Addr):Prop:=∀b∈hs,H b=none/\h₀.get? b=none/\b≠env.locals/\∀p∈env.cells,p.2≠b
noncomputable def Trc(h:Heap)(e:Addr)(hid:Addr->Prop)(fl:Option Value):Prop:=(Tg fun oe vs a0=>Jy (h.get? e=some oe) (oe.data = .fields vs) (vs[0]? = some a0) ((match fl with
 | none=>vs[1]? = some .none
 | some x=>(Tg fun T oT ts=>An6 (vs[1]? = some (.ref T)) (T≠e) (h.get? T=some oT) (oT.data = .fields ts) (ts[3]? = some x) (hid T)))))
noncomputable def Td(W:Wd)(h₀:HB)(env:Env)(names:List Str)(ρ:Aj)(E:EP)(fl:Option Value)(v:Value)(s':Shared):Prop:=
 (Tg fun e H' cc=>Xq (v = .ref e) (Al W h₀ env names H' ρ s') (H' e=some (.exc cc)) (Trc s'.heap e (fun T=>Fu h₀ env H' [T]) fl) (E (.ref e) H'))
noncomputable def EM(W:Wd)(h₀:HB)(env:Env)(names:List Str)(ρ:Aj)(E:EP)(v:Value)(s':Shared):Prop:=
 ∃fl:Option Value,(fl=none\/fl=some .none\/fl=some (rawInt env.locals))/\Td W h₀ env names ρ E fl v s'
theorem EM.no{P:Prop}{v:Value}{s:Shared}(x:EM W h₀ env names ρ Er v s)(h:∀v H,¬Er v H):P:=by
 obtain⟨_,_,_,_,_,_,_,_,_,q⟩:=x
 exact(h _ _ q).elim
theorem EM.ef{P:Prop}{v:Value}{s:Shared}(x:EM W h₀ env names ρ EF v s):P:=x.no fun _ _ q=>q
noncomputable def Gq(b₀:Heap)(L:Addr)(h:Heap):List (Addr×Obj):=(List.range h.objs.size).filterMap fun a=>if a=L\/(b₀.get? a).isSome=true then none else(h.get? a).map fun o=>(a,o)
/-! what an operation wants,told apart once -/
theorem Cc{P:Nat->Prop}{g:V->Value->Prop}{v:V}{u:Value}(h:VR W v u)(q:A2 v P)(k:∀a,P a->g (.ref a) (.ref a)):g v u:=by
 induction h with
 | ref a=>exact k a q
 | _=>exact False.elim q
theorem Aq{P:Int->Prop}{g:V->Value->Prop}{v:V}{u:Value}(h:VR W v u)(q:Ap v P)(k:∀i t,P i->g (.int i) (.int i t)):g v u:=by
 induction h with
 | int i t=>exact k i t q
 | _=>exact False.elim q
theorem Yh{P:Int->Prop}{g:Prop}{v:V}(q:Ap v P)(k:∀i,P i->g):g:=by
 cases v<;>first|exact k _ q|exact False.elim q
theorem Agw{P:Prop}{g:List V->List Value->Prop}{vs:List V}{us:List Value}(h:Df W vs us)(q:We vs P)(k:P->g [] []):g vs us:=by
 cases h with
 | nil=>exact k q
 | cons=>exact False.elim q
theorem Ke{P:V->Prop}{g:List V->List Value->Prop}{vs:List V}{us:List Value}(h:Df W vs us)(q:Oj vs P)(k:∀v u,VR W v u->P v->g [v] [u]):g vs us:=by
 cases h with
 | nil=>exact False.elim q
 | cons h t=>cases t with
   | nil=>exact k _ _ h q
   | cons=>exact False.elim q
theorem Ad1{P:V->V->Prop}{g:List V->List Value->Prop}{vs:List V}{us:List Value}(h:Df W vs us)(q:Ux vs P)(k:∀v w u x,VR W v u->VR W w x->P v w->g [v,w] [u,x]):g vs us:=by
 cases h with
 | nil=>exact False.elim q
 | cons h t=>cases t with
   | nil=>exact False.elim q
   | cons h' t=>cases t with
     | nil=>exact k _ _ _ _ h h' q
     | cons=>exact False.elim q
theorem F7{o:Option O}{P:List V->Prop}{g:Prop}(q:Hm o P)(k:∀xs,o=some (.list xs)->P xs->g):g:=by
 cases o with
 | none=>exact False.elim q
 | some x=>cases x<;>first|exact k _ rfl q|exact False.elim q
theorem Aj1{o:Option O}{P:List (Int×V)->Prop}{g:Prop}(q:Xr o P)(k:∀xs,o=some (.dict xs)->P xs->g):g:=by
 cases o with
 | none=>exact False.elim q
 | some x=>cases x<;>first|exact k _ rfl q|exact False.elim q
theorem Rn{o:Option O}{P:Dc->Nat->Prop}{g:Prop}(q:Mz o P)(k:∀c d,o=some (.inst c d)->P c d->g):g:=by
 cases o with
 | none=>exact False.elim q
 | some x=>cases x<;>first|exact k _ _ rfl q|exact False.elim q
theorem Ab3{o:Option O}{P:Nat->Prop}{g:Prop}(q:Uw o P)(k:∀d,o=some (.inst .web d)->P d->g):g:=by
 cases o with
 | none=>exact False.elim q
 | some x=>cases x with
   | inst c d=>cases c<;>first|exact k _ rfl q|exact False.elim q
   | _=>exact False.elim q
theorem Tr{o:Option O}{P:List (Ee×V)->Prop}{g:Prop}(q:Rd o P)(k:∀fs,o=some (.ns fs)->P fs->g):g:=by
 cases o with
 | none=>exact False.elim q
 | some x=>cases x<;>first|exact k _ rfl q|exact False.elim q
theorem Cz{α:Type}{o:Option α}{P:α->Prop}{g:Prop}(q:Fy o P)(k:∀x,o=some x->P x->g):g:=by
 cases o with
 | none=>exact False.elim q
 | some x=>exact k x rfl q
theorem Gs{b₀:Heap}{L:Addr}{h:Heap}{a:Addr}{o:Obj}:(a,o)∈Gq b₀ L h↔a≠L/\b₀.get? a=none/\h.get? a=some o:=by
 unfold Gq
 rw[List.mem_filterMap]
 constructor
 ·rintro hP1
  refine Aa fun nY=>?_
  obtain⟨b,hb,e⟩:=hP1
  split at e
  ·cases e
  ·rename_i q
   obtain⟨o',h1,h2⟩:=Option.map_eq_some_iff.mp e
   cases h2
   simp only[not_or,Bool.not_eq_true,Option.isSome_eq_false_iff,Option.isNone_iff_eq_none]at q
   refine nY ?_;clear nY
   exact⟨q.1,q.2,h1⟩
 ·rintro hP2
  refine Aa fun nY=>?_
  obtain⟨h1,h2,h3⟩:=hP2
  refine nY ?_;clear nY
  refine⟨a,List.mem_range.mpr (Heap.lt_size h3),?_⟩
  rw[if_neg (by simp[h1,h2]),h3];rfl
theorem Al.kitF(R:Al W h₀ env names H ρ s)(Y:Ah W env c h₀):∃m,Fr W.b₀ env.locals s.heap m:=
 let ⟨m,hm,_⟩:=R.ns;⟨m,hm,R.keepB Y,R.above⟩
theorem Wl:News W.b₀ env.locals s.heap (Gq W.b₀ env.locals s.heap):=fun p hp=>by
 obtain⟨a,o⟩:=p
 obtain⟨h1,h2,h3⟩:=Gs.mp hp
 exact⟨h3,h1,h2⟩
theorem Vb(R:Al W h₀ env names H ρ s)(Y:Ah W env c h₀){m:Str->Option Value}{h':Heap}{news':List (Addr×Obj)}(F':Fr W.b₀ env.locals h' m)(N':News W.b₀ env.locals h' news')
 (sub:∀p∈Gq W.b₀ env.locals s.heap,p∈news'):∀b o,b≠env.locals->s.heap.get? b=some o->h'.get? b=some o:=fun b o hb e=>by
 cases q:W.b₀.get? b with
 | some o'=>have e1:=R.keepB Y b o' q;rw[e]at e1;cases e1;exact F'.keep b _ q
 | none=>exact(N' (b,o) (sub _ (Gs.mpr ⟨hb,q,e⟩))).1
theorem Al.moveL(R:Al W h₀ env names H ρ s)(Y:Ah W env c h₀){h':Heap}(t:Nat){m:Str->Option Value}(hm:s.heap.Ns env.locals m)(hm':h'.Ns env.locals m)
 (k:∀b o,b≠env.locals->s.heap.get? b=some o->h'.get? b=some o):Al W h₀ env names H ρ {s with heap:=h',toks:=t} where
 ns:=by
  refine Aa fun nY=>?_
  obtain⟨m₁,h1,h2⟩:=R.ns
  refine nY ?_;clear nY
  refine⟨m,hm',fun x i v e1 e2 e3=>?_⟩
  refine Aa fun nY=>?_
  obtain⟨c,h3,h4⟩:=h2 x i v e1 e2 e3
  refine nY ?_;clear nY
  refine⟨c,?_,h4⟩
  refine Aa fun nY=>?_
  obtain⟨o,es,ep,a1,a2,a3,a4⟩:=h1
  obtain⟨o',es',ep',b1,b2,b3,b4⟩:=hm
  rw[a1]at b1;cases b1
  rw[a2]at b2;cases b2
  refine nY ?_;clear nY
  rw[<-b4,a4];exact h3
 cell:=fun x a e=>let ⟨w,⟨o,ho,hd⟩,r⟩:=R.cell x a e;⟨w,⟨o,k _ _ (Y.apart x a e) ho,hd⟩,r⟩
 keep:=fun b o e=>let ⟨o',e1,z⟩:=R.keep b o e;⟨o',k _ _ (fun q=>by rw[q,Y.new]at e;cases e) e1,z⟩
 objs:=fun a o e=>let ⟨ob,h1,h2⟩:=R.objs a o e;⟨ob,k _ _ (R.sep a o e).2.1 h1,h2⟩
 sep:=R.sep
 gens:=R.gens
 os:=R.os
 above:=R.above
 low:=R.low
theorem Al.add(R:Al W h₀ env names H ρ s){a:Addr}{o:O}{ob:Obj}(ho:s.heap.get? a=some ob)(r:OR W o ob)(hn:H a=none)(hh:h₀.get? a=none)(hl:a≠env.locals)(hc:∀x,env.cells.lookup x≠some a)(hb:W.b₀.objs.size<=a) :
 Al W h₀ env names (upd H a o) ρ s where
 ns:=R.ns
 cell:=R.cell
 keep:=R.keep
 objs:=fun b o' e=>by
  unfold upd at e
  split at e
  ·rename_i q;subst q;cases e;exact⟨ob,ho,r⟩
  ·exact R.objs b o' e
 sep:=fun b o' e=>by
  unfold upd at e
  split at e
  ·rename_i q;subst q;exact⟨hh,hl,hc⟩
  ·exact R.sep b o' e
 gens:=R.gens
 os:=R.os
 above:=R.above
 low:=fun b o' e=>by
  unfold upd at e
  split at e
  ·rename_i q;subst q;exact hb
  ·exact R.low b o' e
theorem Al.new_sep(R:Al W h₀ env names H ρ s){a:Addr}(hn:s.heap.get? a=none)(hb:W.b₀.objs.size<=a):H a=none/\h₀.get? a=none/\a≠env.locals/\(∀x,env.cells.lookup x≠some a)/\W.b₀.objs.size<=a:=by
 refine⟨?_,?_,?_,?_,hb⟩
 ·cases q:H a with
  | none=>rfl
  | some o=>obtain⟨ob,h1,_⟩:=R.objs _ _ q;rw[hn]at h1;cases h1
 ·exact R.keep.none hn
 ·rintro rfl;obtain⟨m,⟨o,_,_,h,_⟩,_⟩:=R.ns;rw[h]at hn;cases hn
 ·intro x q;obtain⟨w,⟨o,h,_⟩,_⟩:=R.cell x a q;rw[h]at hn;cases hn
theorem Mn(R:Al W h₀ env names H ρ s)(Y:Ah W env c h₀){m:Str->Option Value}{h':Heap}{a:Addr}{ob:Obj}{o:O}{t:Nat}(F:Fr W.b₀ env.locals s.heap m)(F':Fr W.b₀ env.locals h' m)
 (N':News W.b₀ env.locals h' ((a,ob)::Gq W.b₀ env.locals s.heap)) (hn:s.heap.objs.size<=a) (r:OR W o ob):H a=none/\Al W h₀ env names (upd H a o) ρ {s with heap:=h',toks:=t}:=by
 refine Aa fun nY=>?_
 obtain⟨q1,q2,q3,q4,q5⟩:=R.new_sep (O9 hn) (Nat.le_trans R.up hn)
 have R':=R.moveL Y t F.ns F'.ns (Vb R Y F' N' fun p hp=> .tail _ hp)
 refine nY ?_;clear nY
 exact⟨q1,R'.add (N' (a,ob) (.head _)).1 r q1 q2 q3 q4 q5⟩
theorem Ro(R:Al W h₀ env names H ρ s)(Y:Ah W env c h₀){m:Str->Option Value}{h':Heap}{t:Nat}(F:Fr W.b₀ env.locals s.heap m)(F':Fr W.b₀ env.locals h' m)
 (N':News W.b₀ env.locals h' (Gq W.b₀ env.locals s.heap)):Al W h₀ env names H ρ {s with heap:=h',toks:=t}:=R.moveL Y t F.ns F'.ns (Vb R Y F' N' fun _ hp=>hp)
theorem Cs:Cg<=sizeLine:=by decide
theorem Ec{xs:List V}{items:List Value}(h:Df W xs items)(hz:xs.length<=Cg){n:Nat}:OR W (.list xs) {cls:= .type "list",data:= .seq items.toArray n}:= .list h hz
theorem Al.push(R:Al W h₀ env names H ρ s){o:O}{ob:Obj}(r:OR W o ob)(hf:ob.isFreed=false)(t:Nat):Al W h₀ env names (upd H s.heap.objs.size o) ρ {s with heap:=s.heap.push ob,toks:=t}:=
 R.put t (fun _ _ e=>Heap.get?_push_of_some _ e) (Heap.get?_push_size _ hf) r (C1 _) fun _ _=>R.up
theorem Al.pushHid(R:Al W h₀ env names H ρ s)(ob:Obj)(t:Nat):Al W h₀ env names H ρ {s with heap:=s.heap.push ob,toks:=t}:=R.move t fun _ _ e=>Heap.get?_push_of_some _ e
theorem Al.isList(R:Al W h₀ env names H ρ s){a:Addr}{xs:List V}(e:H a=some (.list xs)):(Hn fun items=>Fx (s.heap.IsList a items.toArray) (Df W xs items) (xs.length<=Cg)):=by
 refine Aa fun nY=>?_
 obtain⟨ob,h1,h2⟩:=R.objs a _ e
 cases h2 with
 | list r z=>(refine nY ?_;clear nY;exact⟨_,⟨_,h1,rfl,_,rfl⟩,r,z⟩)
theorem Al.isTup(R:Al W h₀ env names H ρ s){a:Addr}{xs:List V}(e:H a=some (.tuple xs)):(Hn fun items=>Fx (IsTup s.heap a items.toArray) (Df W xs items) (xs.length<=Cg)):=by
 refine Aa fun nY=>?_
 obtain⟨ob,h1,h2⟩:=R.objs a _ e
 cases h2 with
 | tuple r z=>(refine nY ?_;clear nY;exact⟨_,⟨_,h1,rfl,_,rfl⟩,r,z⟩)
theorem Al.lst(R:Al W h₀ env names H ρ s){a:Addr}{xs:List V}(e:H a=some (.list xs)):(Ho fun items n=>Fx (s.heap.get? a=some {cls:= .type "list",data:= .seq items.toArray n}) (Df W xs items) (xs.length<=Cg)):=by
 refine Aa fun nY=>?_
 obtain⟨ob,h1,h2⟩:=R.objs a _ e
 cases h2 with
 | list r z=>(refine nY ?_;clear nY;exact⟨_,_,h1,r,z⟩)
theorem Al.changeL(R:Al W h₀ env names H ρ s){a:Addr}{xs xs':List V}{items:List Value}{n:Nat}(e:H a=some (.list xs))(ho:s.heap.get? a=some {cls:= .type "list",data:= .seq items.toArray n})
 (f:Array Value->Array Value) {items':List Value} (hf:f items.toArray=items'.toArray) (r:Df W xs' items') (z:xs'.length<=Cg) (t:Nat) :
 Al W h₀ env names (upd H a (.list xs')) ρ {s with heap:=s.heap.update a (Obj.mapSeq f),toks:=t}:=by
 refine R.change t e (Heap.SameBut.update ..) (Heap.get?_update_self _ ho rfl) ?_ (fun _ q=>by cases q)
 simp only[Obj.mapSeq,hf]
 exact .list r z
theorem Al.isDict(R:Al W h₀ env names H ρ s){a:Addr}{es:List (Int×V)}(e:H a=some (.dict es)):(Hn fun kvs=>Fx (s.heap.DictOf (intKind W.prog W.w) a kvs) (Tc W es kvs) (es.length<=Cg)):=by
 refine Aa fun nY=>?_
 obtain⟨ob,h1,h2⟩:=R.objs a _ e
 cases h2 with
 | dict r z d=>(refine nY ?_;clear nY;obtain⟨es,ep,h3⟩:=d;exact⟨_,⟨ob,es,ep,h1,h3⟩,r,z⟩)
theorem Ni{xs:List V}{items:List Value}{ns:List Int}(h:Df W xs items)(e:ints? xs=some ns):IntsAre items ns:=by
 induction h generalizing ns with
 | nil=>cases e;exact .nil
 | cons h _ ih=>
   induction h with
   | int i u=>
     obtain⟨l,h1,h2⟩:=Option.map_eq_some_iff.mp (show (ints? _).map (i :: ·)=some ns from e)
     subst h2
     exact .cons i u (ih h1)
   | _=>cases e
theorem F8{items:List Value}{ns:List Int}(h:IntsAre items ns):Df W (ns.map V.int) items:=by
 induction h with
 | nil=>exact .nil
 | cons i u _ ih=>exact .cons (.int i u) ih
theorem ints?_length{xs:List V}{ns:List Int}(e:ints? xs=some ns):ns.length=xs.length:=by
 induction xs generalizing ns with
 | nil=>cases e;rfl
 | cons v r ih=>
   cases v<;>first|(cases e;done)|skip
   obtain⟨l,h1,h2⟩:=Option.map_eq_some_iff.mp (show (ints? r).map _=some ns from e)
   subst h2
   exact congrArg Nat.succ (ih h1)
theorem Eu(x:Int):∀l:List Int,(Mc x l).Perm (x::l)
 | []=> .refl _
 | y::r=>by
   unfold Mc
   split
   ·exact .refl _
   ·exact((Eu x r).cons y).trans (.swap x y r)
theorem Cm:∀l:List Int,(B9 l).Perm l
 | []=> .refl _
 | x::r=>(Eu x (B9 r)).trans ((Cm r).cons x)
theorem Fg(x:Int):∀ {l:List Int},l.Pairwise (· <= ·)->(Mc x l).Pairwise (· <= ·)
 | [],_=>by simp[Mc]
 | y::r,h=>by
   unfold Mc
   obtain⟨h1,h2⟩:=List.pairwise_cons.mp h
   split
   ·rename_i q
    refine List.pairwise_cons.mpr ⟨fun z hz=>?_,h⟩
    rcases List.mem_cons.mp hz with rfl|hz
    ·exact q
    ·exact Int.le_trans q (h1 z hz)
   ·rename_i q
    refine List.pairwise_cons.mpr ⟨fun z hz=>?_,Fg x h2⟩
    rcases List.mem_cons.mp ((Eu x r).mem_iff.mp hz)with rfl|hz
    ·exact Int.le_of_lt (Int.not_le.mp q)
    ·exact h1 z hz
theorem Ds:∀l:List Int,(B9 l).Pairwise (· <= ·)
 | []=>by simp[B9]
 | x::r=>Fg x (Ds r)
theorem I7{a b:List Int}(p:a.Perm b)(ha:a.Pairwise (· <= ·))(hb:b.Pairwise (· <= ·)):a=b:=
 p.eq_of_pairwise (fun _ _ _ _ h1 h2=>Int.le_antisymm h1 h2) ha hb
end Mine.Internal
namespace Mine.Internal
open PySem PySem.W PyProof.Rows
variable {W:Wd} {A:Around} {h₀:HB} {env:Env} {c:Cx} {names:List Str} {H:AH} {ρ:Aj} {s:Shared} {E:Value->Shared->Prop} {n:Nat} {Q:Af} {Er:EP}
theorem Cb.mk{a:V}{v:Value}(h:VR W a v)(R:Al W h₀ env names H ρ s)(q:Q a H):Cb W h₀ env names ρ Q v s:=⟨a,H,h,R,q⟩
theorem Ts{x y:Int}(h:y.natAbs<=10 ^ 30):Builtin.divisionGoesByPylong x y=false:=by
 refine PyProof.noPylong_of_log2 (Nat.lt_of_le_of_lt (m:=100) ?_ (by decide))
 by_cases h0:y.natAbs=0
 ·rw[h0];decide
 ·exact Nat.le_of_lt ((Nat.log2_lt h0).mpr (Nat.lt_of_le_of_lt h (by decide)))
theorem Yi{k:Int}(h:k.natAbs<2 ^ 64):Builtin.Int.intBits k<=64:=intBits_le_64 (Aiu h) (Aiv h)
theorem Rp{α:Type}(n:Nat)(xs:List α):(List.replicate n xs).flatten.length=n*xs.length:=by simp
theorem Ab4{l:Addr}{items:List Value}{k:Int}{u:Tok}{Q:Value->Shared->Prop}(h1:s.heap.IsList l items.toArray)(k0:0<=k)(k1:k<=1000)(k2:items.length*k.toNat<=Cg)
 (h:Q (.ref s.heap.objs.size) {s with heap:=s.heap.push {cls:= .type "list",data:= .seq (List.replicate k.toNat items).flatten.toArray}}) :
 wpAny W.M A (binaryOp .Mult (.ref l) (.int k u)) Q E s:=by
 refine Aa fun nY=>?_
 obtain⟨⟨cls,d,data,sl⟩,ho,hcl,kk,hd⟩:=id h1
 simp only at hcl hd
 subst hcl hd
 have hz:items.length*k.toNat<=1048576:=k2
 refine nY ?_;clear nY
 have hz':items.toArray.size*k.toNat<=1048576:=by rw[List.size_toArray];exact k2
 refine wpAny_binaryOp_repeat_ref (T:= "list") (U:= "int") (by decide) ⟨_,ho,rfl⟩ (fun s'=>typeIs_int s' k u) noFill_list_mul F.fills_int_mul F.slot_int_rmul repeat_list F.slot_int_index.lookup
  (call_meets F.slot_int_rmul (typeIs_int s k u) F.entry_int_rmul (F.args_int_rmul_2 _ _) (lm_int_rmul_list_any k u l items.toArray kk d sl)
    ⟨ho,rfl,⟨_,ho,rfl⟩,call_meets F.slot_list_mul ⟨_,ho,rfl⟩ F.entry_list_mul (F.args_list_mul_2 _ _)
     (lm_list_mul_any l items.toArray kk d sl k u (by simp[Builtin.List.listFitsIndex];exact(⟨Int.le_trans (by decide) k0,Int.lt_of_le_of_lt k1 (by decide)⟩)) (Nat.not_lt.mpr (Nat.le_trans hz' (by decide))) (by simp[Builtin.List.listTooLong,sizeLine];exact(Nat.le_trans hz (by decide))))
     ⟨ho,?_⟩⟩)
 rw[listMul_foldl_if]
 exact h
theorem Rq(Y:Ah W env c h₀)(R:Al W h₀ env names H ρ s){op:Operator}{a b:V}{u v:Value}(ha:VR W a u)(hb:VR W b v)(q:Dz op a b H Q) :
 wpAny W.M A (binaryOp op u v) (Cb W h₀ env names ρ Q) E s:=by
 refine Aa fun nY=>?_
 obtain⟨m,F⟩:=R.kitF Y
 have N:News W.b₀ env.locals s.heap _:=Wl
 cases op<;>try exact q.elim
 case Add=>
  replace q:Uy a b H Q:=q
  refine nY ?_;clear nY
  induction ha with
  | int i t=>apply Aq hb q;intro j t' q;exact add_int (Cb.mk (.int _ _) (R.toks _) q)
  | ref a=>
    apply Cc hb q;intro b q;refine F7 q fun xs e1 q=>?_;refine F7 q fun ys e2 q=>?_
    refine Aa fun nY=>?_
    obtain⟨l1,h1,r1,z1⟩:=R.isList e1
    obtain⟨l2,h2,r2,z2⟩:=R.isList e2
    refine nY ?_;clear nY
    have hz:l1.toArray.size+l2.toArray.size<=sizeLine:=by simp[<-r1.length,<-r2.length];exact Nat.le_trans q.1 Cs
    refine add_arrays (hsz:=hz) F N h1 h2 fun h' F' N'=>?_
    obtain⟨e,R'⟩:=Mn (t:=s.toks) R Y F F' N' (Nat.le_refl _) (Ec (r1.append r2) (by simpa using q.1))
    exact Cb.mk (.ref _) R' (q.2 _ e)
  | _=>exact False.elim q
 case Sub=>
  replace q:Xw a b H Q:=q
  refine nY ?_;clear nY
  apply Aq ha q;intro i t q;apply Aq hb q;intro j t' q
  exact sub_int (Cb.mk (.int _ _) (R.toks _) q)
 case Mult=>
  replace q:Uz a b H Q:=q
  refine nY ?_;clear nY
  apply Aq hb q;intro k t q
  induction ha with
  | int i t=>exact mul_int (Cb.mk (.int _ _) (R.toks _) q.2) (q.1.elim (fun h=>IntMulOk.of_left (Yi h)) fun h=>IntMulOk.of_right (Yi h))
  | ref a=>
    refine F7 q fun xs e1 q=>?_
    refine Aa fun nY=>?_
    obtain⟨l1,h1,r1,z1⟩:=R.isList e1
    obtain⟨⟨k0,k1,k2⟩,q⟩:=q
    refine nY ?_;clear nY
    refine Ab4 h1 k0 k1 (by rw[<-r1.length];exact k2) ?_
    have R':=R.push (Ec (r1.replicate _) (by rw[Rp,Nat.mul_comm];exact k2) (n:=0)) rfl s.toks
    exact Cb.mk (.ref _) R' (q _ R.fresh)
  | _=>exact False.elim q
 case FloorDiv=>
  replace q:Xx a b H Q:=q
  refine nY ?_;clear nY
  apply Aq ha q;intro i t q;apply Aq hb q;intro j t' q
  exact floordiv_int q.1.1 (Cb.mk (.int _ _) (R.toks _) q.2) (.inl (Ts q.1.2))
 case Mod=>
  replace q:Xy a b H Q:=q
  refine nY ?_;clear nY
  apply Aq ha q;intro i t q;apply Aq hb q;intro j t' q
  exact mod_int' q.1.1 (Cb.mk (.int _ _) (R.toks _) q.2)
 case Pow=>
  replace q:Adu a b H Q:=q
  refine nY ?_;clear nY
  apply Aq ha q;intro i t q;apply Aq hb q;intro j t' q
  exact pow_int_small q.1.1 (by have:=q.1.2.1;exact(Int.le_trans this (by decide))) q.1.2.2 (Cb.mk (.int _ _) (R.toks _) q.2)
open PySem.SeqAt in
theorem K7{a b:V}{u v:Value}{r:Bool}(ha:VR W a u)(hb:VR W b v)(e:Xu a b=some r):EqAt A s u v r/\RcAt A s u v r/\RcNeAt A s u v (!r):=by
 refine Aa fun no=>?_
 induction ha<;>induction hb<;>first|exact @nn _ _ _ e|(obtain rfl:=Option.some.inj e;refine no ?_;clear no)
 ·exact⟨.same _,.none_none,.none_none⟩
 ·exact⟨.none_bool _,.none_bool _,.none_bool _⟩
 ·exact⟨.none_int _ _,.none_int _ _,.none_int _ _⟩
 ·exact⟨.bool_none _,.bool_none _,.bool_none _⟩
 ·exact⟨.bool_bool _ _,.bool_bool _ _,.bool_bool _ _⟩
 ·exact⟨.int_none _ _,.int_none _ _,.int_none _ _⟩
 ·rename_i i t j t'
  have:decide (i=j)=(i==j):=by rw[Bool.eq_iff_iff];simp
  rw[this];exact⟨.int_int _ _ _ _,.int_int _ _ _ _,.int_int _ _ _ _⟩
 ·rename_i x t y t'
  have:decide (x=y)=(x==y):=by rw[Bool.eq_iff_iff];simp
  rw[this];exact⟨.str_str _ _ _ _,.str_str _ _ _ _,.str_str _ _ _ _⟩
theorem Rr{a:V}{r:Bool}(e:Xu a a=some r):r=true:=by
 cases a<;>first|exact @nn _ _ _ e|(obtain rfl:=Option.some.inj e)<;>first|rfl|exact decide_eq_true rfl|exact beq_self_eq_true _
theorem Pa{l:List (Option Bool)}{r:Bool}(h:Gc l=some r):∃e:Nat->Bool,(∀j x,l[j]? = some x->x=some (e j))/\(List.range l.length).all e=r:=by
 induction l generalizing r with
 | nil=>simp only[Gc,Option.some.injEq]at h;subst h;exact⟨fun _=>true,by simp,by simp⟩
 | cons x t ih=>
   refine Aa fun nY=>?_
   cases x with
   | none=>simp[Gc]at h
   | some b=>
     simp only[Gc,Option.map_eq_some_iff]at h
     obtain⟨r',h1,h2⟩:=h
     obtain⟨e,h3,h4⟩:=ih h1
     refine nY ?_;clear nY
     refine⟨fun j=>match j with|0=>b|j+1=>e j,fun j y hj=>?_,?_⟩
     ·refine Aa fun nY=>?_
      cases j with
      | zero=>(refine nY ?_;clear nY;simp at hj;exact hj.symm)
      | succ j=>(refine nY ?_;clear nY;simp at hj;exact h3 j y hj)
     ·rw[List.length_cons,List.range_succ_eq_map,List.all_cons,List.all_map]
      subst h2;subst h4;rfl
theorem K8{f:V->V->Option Bool}(hf:∀a r,f a a=some r->r=true):∀ {xs:List V} {r:Bool},Gc (List.zipWith f xs xs)=some r->r=true
 | [],r,h=>by simp[Gc]at h;exact h
 | x::t,r,h=>by
   simp only[List.zipWith_cons_cons]at h
   cases q:f x x with
   | none=>rw[q]at h;simp[Gc]at h
   | some b=>
     rw[q]at h
     simp only[Gc,Option.map_eq_some_iff]at h
     obtain⟨r',h1,h2⟩:=h
     rw[hf x b q,K8 hf h1]at h2
     exact h2.symm
theorem Rs{P:Prop}(n:Nat)(a b:V)(k1:∀x y,a = .ref x->b = .ref y->P)(k2:∀x,a = .ref x->b = .none->P)(k3:∀x,a = .none->b = .ref x->P)(k4:K0 (n+1) H a b=Xu a b->P):P:=by
 cases a<;>first|exact k4 rfl|(cases b<;>first|exact k4 rfl|exact k1 _ _ rfl rfl|exact k2 _ rfl rfl|exact k3 _ rfl rfl)
theorem Yj{P:Prop}{n:Nat}{x y:Addr}{r:Bool}(e:K0 (n+1) H (.ref x) (.ref y)=some r)
 (k1:∀xs ys,H x=some (.list xs)->H y=some (.list ys)->(if xs.length=ys.length then Gc (List.zipWith (K0 n H) xs ys)else some false)=some r->P)
 (k2:∀xs ys,H x=some (.tuple xs)->H y=some (.tuple ys)->(if xs.length=ys.length then Gc (List.zipWith (K0 n H) xs ys)else none)=some r->P):P:=by
 replace e:(match H x,H y with
  | some (.list xs),some (.list ys)=>if xs.length=ys.length then Gc (List.zipWith (K0 n H) xs ys)else some false
  | some (.tuple xs),some (.tuple ys)=>if xs.length=ys.length then Gc (List.zipWith (K0 n H) xs ys)else none
  | _,_=>none)=some r:=e
 generalize H x=ox at *
 generalize H y=oy at *
 cases ox with
 | none=>cases e
 | some o=>
   cases o<;>first|(cases e;done)|skip
   all_goals
    cases oy with
    | none=>cases e
    | some o'=>cases o'<;>first|(cases e;done)|exact k1 _ _ rfl rfl e|exact k2 _ _ rfl rfl e
theorem Yk{P:Prop}{n:Nat}{x:Addr}{r:Bool}(e:K0 (n+1) H (.ref x) .none=some r\/K0 (n+1) H .none (.ref x)=some r)(k1:∀xs,r=false->H x=some (.list xs)->P)(k2:∀xs,r=false->H x=some (.tuple xs)->P):P:=by
 replace e:(match H x with|some (.list _)=>some false|some (.tuple _)=>some false|_=>none)=some r:=e.elim (fun e=>e) fun e=>e
 generalize H x=ox at *
 cases ox with
 | none=>cases e
 | some o=>cases o<;>first|(cases e;done)|(cases e;first|exact k1 _ rfl rfl|exact k2 _ rfl rfl)
theorem Yl(n:Nat):∀ {a:V} {r:Bool},K0 n H a a=some r->r=true:=by
 induction n with
 | zero=>exact fun e=>Rr e
 | succ n ih=>
   intro a r e
   refine Rs (H:=H) n a a (fun x y q _=>?_) (fun x q q'=>?_) (fun x q q'=>?_) fun q=>?_
   ·subst q
    refine Yj e (fun xs ys h1 h2 e=>?_) fun xs ys h1 h2 e=>?_
    ·rw[h1]at h2;cases h2
     rw[if_pos rfl]at e;exact K8 (fun a r h=>ih h) e
    ·rw[h1]at h2;cases h2
     rw[if_pos rfl]at e;exact K8 (fun a r h=>ih h) e
   ·rw[q]at q';cases q'
   ·rw[q]at q';cases q'
   ·rw[q]at e;exact Rr e
open PySem.SeqAt in
theorem Iq{n:Nat}{A:Around}{xs ys:List V}{l1 l2:List Value}{f:Nat->Bool}(ih:∀ {a b:V} {u v:Value} {r:Bool},VR W a u->VR W b v->K0 n H a b=some r->EqAt A s u v r)(r1:Df W xs l1)(r2:Df W ys l2)
 (f1:∀j x',(List.zipWith (K0 n H) xs ys)[j]? = some x'->x'=some (f j)) (j:Nat) (j1:j<l1.toArray.size) (j2:j<l2.toArray.size):EqAt A s l1.toArray[j] l2.toArray[j] (f j):=by
 refine Aa fun nY=>?_
 obtain⟨x',x1,x2⟩:=r1.get' j (c:=l1.toArray[j]) (by simp)
 obtain⟨y',y1,y2⟩:=r2.get' j (c:=l2.toArray[j]) (by simp)
 refine nY ?_;clear nY
 exact ih x2 y2 (f1 j (K0 n H x' y') (by rw[List.getElem?_zipWith,x1,y1]))
open PySem.SeqAt in
theorem Pb(R:Al W h₀ env names H ρ s)(n:Nat):∀(A:Around) {a b:V} {u v:Value} {r:Bool},A.units+n<cLine->VR W a u->VR W b v->K0 n H a b=some r->
 EqAt A s u v r/\RcAt A s u v r/\RcNeAt A s u v (!r):=by
 induction n with
 | zero=>exact fun A a b u v r _ ha hb e=>K7 ha hb e
 | succ n ih=>
   intro A a b u v r hu ha hb e
   have hA:A.units<cLine:=(Nat.lt_of_le_of_lt (Nat.le_add_right _ _) hu)
   have hA1:A.in1.units+n<cLine:=by show A.units+1+n<cLine;exact Nat.lt_of_le_of_lt (Nat.le_of_eq (Nat.add_right_comm _ 1 _)) hu
   have it:=fun {a b:V} {u v:Value} {r:Bool} (ha:VR W a u) (hb:VR W b v) (e:K0 n H a b=some r)=>(ih A.in1 hA1 ha hb e).1
   refine Rs (H:=H) n a b (fun x y p q=>?_) (fun x p q=>?_) (fun x p q=>?_) fun q=>?_
   ·refine Aa fun nY=>?_
    subst p q;cases ha;cases hb
    have fin:∀ {k:Bool},k=r->RcAt A s (.ref x) (.ref y) k->RcNeAt A s (.ref x) (.ref y) (!k)->EqAt A s (.ref x) (.ref y) r/\RcAt A s (.ref x) (.ref y) r/\RcNeAt A s (.ref x) (.ref y) (!r):=by
     rintro k rfl h1 h2
     refine⟨?_,h1,h2⟩
     refine Aa fun nY=>?_
     by_cases q:x=y
     ·refine nY ?_;clear nY
      subst q;rw[Yl _ e];exact .same _
     ·refine nY ?_;clear nY
      exact .of_refs q h1
    refine nY ?_;clear nY
    refine Yj e (fun xs ys e1 e2 e'=>?_) fun xs ys e1 e2 e'=>?_
    ·refine Aa fun nY=>?_
     obtain⟨l1,h1,r1,z1⟩:=R.isList e1
     obtain⟨l2,h2,r2,z2⟩:=R.isList e2
     by_cases hl:xs.length=ys.length
     ·rw[if_pos hl]at e'
      obtain⟨f,f1,f2⟩:=Pa e'
      have hsz:l1.toArray.size=l2.toArray.size:=by rw[List.size_toArray,List.size_toArray,<-r1.length,<-r2.length,hl]
      refine nY ?_;clear nY
      refine fin ?_ (RcAt.lists h1 h2 hsz hA (Iq it r1 r2 f1)) (RcNeAt.lists h1 h2 hsz hA (Iq it r1 r2 f1))
      rw[<-f2];congr 2;simp[<-r1.length,hl]
     ·rw[if_neg hl]at e'
      cases e'
      have hsz:(l1.toArray.size != l2.toArray.size)=true:=by simpa[<-r1.length,<-r2.length]using hl
      refine nY ?_;clear nY
      exact fin rfl (RcAt.lists_lengths h1 h2 hsz hA) (RcNeAt.lists_lengths h1 h2 hsz hA)
    ·refine Aa fun nY=>?_
     obtain⟨l1,h1,r1,z1⟩:=R.isTup e1
     obtain⟨l2,h2,r2,z2⟩:=R.isTup e2
     by_cases hl:xs.length=ys.length
     ·rw[if_pos hl]at e'
      obtain⟨f,f1,f2⟩:=Pa e'
      refine nY ?_;clear nY
      refine fin ?_ (RcAt.tuples h1 h2 hA (Iq it r1 r2 f1)) (RcNeAt.tuples h1 h2 hA (Iq it r1 r2 f1))
      rw[<-f2];simp[<-r1.length,<-r2.length,hl]
     ·rw[if_neg hl]at e';cases e'
   ·refine Aa fun nY=>?_
    subst p q;cases ha;cases hb
    refine nY ?_;clear nY
    refine Yk (.inl e) (fun xs q e1=>?_) fun xs q e1=>?_<;>subst q
    ·refine Aa fun nY=>?_
     obtain⟨l1,h1,r1,z1⟩:=R.isList e1
     refine nY ?_;clear nY
     exact⟨.list_none h1 hA,.list_none h1 hA,.list_none h1 hA⟩
    ·refine Aa fun nY=>?_
     obtain⟨l1,h1,r1,z1⟩:=R.isTup e1
     refine nY ?_;clear nY
     exact⟨.tuple_none h1 hA,.tuple_none h1 hA,.tuple_none h1 hA⟩
   ·refine Aa fun nY=>?_
    subst p q;cases ha;cases hb
    refine nY ?_;clear nY
    refine Yk (.inr e) (fun xs q e1=>?_) fun xs q e1=>?_<;>subst q
    ·refine Aa fun nY=>?_
     obtain⟨l1,h1,r1,z1⟩:=R.isList e1
     refine nY ?_;clear nY
     exact⟨.none_list h1 hA,.none_list h1 hA,.none_list h1 hA⟩
    ·refine Aa fun nY=>?_
     obtain⟨l1,h1,r1,z1⟩:=R.isTup e1
     refine nY ?_;clear nY
     exact⟨.none_tuple h1 hA,.none_tuple h1 hA,.none_tuple h1 hA⟩
   ·rw[q]at e;exact K7 ha hb e
theorem Wm{l:List (Option Bool)}{r:Bool}(h:Th l=some r):(∀x∈l,∃b,x=some b)/\r=l.any (· == some true):=by
 induction l generalizing r with
 | nil=>simp only[Th,Option.some.injEq]at h;subst h;simp
 | cons x t ih=>
   cases x with
   | none=>simp[Th]at h
   | some b=>
     simp only[Th,Option.map_eq_some_iff]at h
     obtain⟨r',h1,h2⟩:=h
     obtain⟨h3,h4⟩:=ih h1
     refine⟨fun x hx=>?_,?_⟩
     ·rcases List.mem_cons.mp hx with rfl|hx
      ·exact⟨b,rfl⟩
      ·exact h3 x hx
     ·subst h2;subst h4;cases b<;>simp
noncomputable def Ru(W:Wd)(v:V)(c:Value):Bool:=by classical exact if ∃x,VR W x c/\Xu x v=some true then true else false
theorem Aeo{x y:V}{c:Value}(h1:VR W x c)(h2:VR W y c)(hx:Xu x v=some r)(hy:Xu y v=some r'):r=r':=by
 induction h1<;>first|exact @nn _ _ _ hx|(cases h2;exact Option.some.inj (hx.symm.trans hy))
theorem Vc{x v:V}{c:Value}{r:Bool}(h:VR W x c)(e:Xu x v=some r):Ru W v c=r:=by
 unfold Ru
 cases r with
 | true=>rw[if_pos ⟨x,h,e⟩]
 | false=>
   rw[if_neg]
   rintro⟨y,h1,h2⟩
   have:=Aeo h h1 e h2
   cases this
open PySem.SeqAt in
theorem Gu{v:V}{u:Value}{xs:List V}{items:List Value}{r:Bool}(hu:VR W v u)(hr:Df W xs items)(e:Wg v xs=some r) :
 (∀y,y∈items.toArray->EqAt A s y u (Ru W v y))/\items.toArray.any (Ru W v)=r:=by
 obtain⟨h1,h2⟩:=Wm e
 constructor
 ·intro y hy
  refine Aa fun nY=>?_
  obtain⟨j,hj⟩:=List.mem_iff_getElem?.mp (by simpa using hy)
  obtain⟨x,x1,x2⟩:=hr.get' j hj
  obtain⟨b,hb⟩:=h1 (Xu x v) (List.mem_map_of_mem (List.mem_iff_getElem?.mpr ⟨j,x1⟩))
  refine nY ?_;clear nY
  rw[Vc x2 hb]
  exact(K7 x2 hu hb).1
 ·rw[h2]
  clear h2 e
  induction hr with
  | nil=>simp
  | cons h t ih=>
    simp only[List.map_cons,List.mem_cons,forall_eq_or_imp]at h1
    refine Aa fun nY=>?_
    obtain⟨⟨b,hb⟩,h1⟩:=h1
    have:=ih h1
    refine nY ?_;clear nY
    simp only[List.any_toArray,List.map_cons,List.any_cons]at this ⊢
    rw[this,Vc h hb,hb]
    cases b<;>simp
theorem Al.dget(hk:Tc W es kvs)(k:Int):(dget es k).isSome=(kvs.lookup k).isSome/\∀v,dget es k=some v->∃c,kvs.lookup k=some c/\VR W v c:=by
 induction hk with
 | nil=>simp[Mine.Internal.dget]
 | @cons k' v' c' es kvs h t ih=>
   unfold Mine.Internal.dget at ih ⊢
   simp only[List.lookup_cons]
   cases k==k' with
   | true=>simp;exact h
   | false=>simpa using ih
theorem Al.noSys(R:Al W h₀ env names H ρ s)(Y:Ah W env c h₀){a:Addr}{es:List (Int×V)}(e:H a=some (.dict es)):(a==sysModules)=false:=by
 have h1:=R.low a es e
 have h2:=Y.lo
 have h3:a≠sysModules:=Nat.ne_of_gt (Nat.lt_of_lt_of_le h2 h1)
 simpa using h3
theorem Jk(kvs:List (Int×Value))(k:Int):valueAt kvs k=kvs.lookup k:=by
 unfold valueAt
 induction kvs with
 | nil=>rfl
 | cons p t ih=>
   obtain⟨a,b⟩:=p
   rw[List.find?_cons,List.lookup_cons]
   by_cases q:a=k
   ·subst q;simp
   ·have:(k==a)=false:=by simpa using fun h:k=a=>q h.symm
    simpa[q,this]using ih
open PySem.SeqAt in
open PySem.SeqAt in
theorem Pc{a b:V}{u v:Value}{r:Bool}(ha:VR W a u)(hb:VR W b v)(e:isB a b=some r) :
 (∀Q E,Q (.bool r) s->wpAny W.M A (compareOp .Is u v) Q E s)/\(∀Q E,Q (.bool (!r)) s->wpAny W.M A (compareOp .IsNot u v) Q E s):=by
 refine Aa fun no=>?_
 induction ha<;>induction hb<;>first|exact @nn _ _ _ e|(obtain rfl:=Option.some.inj e;refine no ?_;clear no)
 ·exact⟨fun _ _ q=>is_none_none q,fun _ _ q=>isnot_none_none q⟩
 ·exact⟨fun _ _ q=>is_none_ne nofun q,fun _ _ q=>isnot_none_ne nofun q⟩
 ·exact⟨fun _ _ q=>is_bool q,fun _ _ q=>isnot_bool q⟩
 ·exact⟨fun _ _ q=>is_none_ne nofun q,fun _ _ q=>isnot_none_ne nofun q⟩
 ·exact⟨fun _ _ q=>is_none_ne nofun q,fun _ _ q=>isnot_none_ne nofun q⟩
 ·exact⟨fun _ _ q=>is_none_ne nofun q,fun _ _ q=>isnot_none_ne nofun q⟩
open PySem.SeqAt in
theorem Dj(ok:Kz A c h₀ env Er n)(Y:Ah W env c h₀)(R:Al W h₀ env names H ρ s){op:CmpOp}{a b:V}{u v:Value}(ha:VR W a u)(hb:VR W b v)(q:Ca op a b H Q) :
 wpAny W.M A (compareOp op u v) (Cb W h₀ env names ρ Q) E s:=by
 have hu:=ok.units
 cases op
 case Eq=>
  refine Cz q fun r e q=>?_
  exact(Pb R E6 A (by unfold E6;exact Agk hu) ha hb e).2.1 _ _ _ _ (Cb.mk (.bool _) R q)
 case NotEq=>
  refine Cz q fun r e q=>?_
  exact(Pb R E6 A (by unfold E6;exact Agk hu) ha hb e).2.2 _ _ _ _ (Cb.mk (.bool _) R q)
 case Lt=>
  replace q:Af8 a b H Q:=q
  apply Aq ha q;intro i t q;apply Aq hb q;intro j t' q
  exact lt_int (Cb.mk (.bool _) R q)
 case LtE=>
  replace q:Af9 a b H Q:=q
  apply Aq ha q;intro i t q;apply Aq hb q;intro j t' q
  exact le_int (Cb.mk (.bool _) R q)
 case Gt=>
  replace q:Aga a b H Q:=q
  apply Aq ha q;intro i t q;apply Aq hb q;intro j t' q
  exact gt_int (Cb.mk (.bool _) R q)
 case GtE=>
  replace q:Agb a b H Q:=q
  apply Aq ha q;intro i t q;apply Aq hb q;intro j t' q
  exact ge_int (Cb.mk (.bool _) R q)
 case Is=>
  replace q:Agc a b H Q:=q
  refine Cz q fun r e q=>?_
  exact(Pc ha hb e).1 _ _ (Cb.mk (.bool _) R q)
 case IsNot=>
  replace q:Adt a b H Q:=q
  refine Cz q fun r e q=>?_
  exact(Pc ha hb e).2 _ _ (Cb.mk (.bool _) R q)
 case In=>
  replace q:P6 a b H Q:=q
  apply Cc hb q
  intro x q
  refine Aa fun nY=>?_
  split at q
  ·rename_i xs e1
   refine nY ?_;clear nY
   refine Cz q fun r e q=>?_
   refine Aa fun nY=>?_
   obtain⟨l1,h1,r1,z1⟩:=R.isList e1
   obtain⟨m1,m2⟩:=Gu (A:=A.in1) (s:=s) ha r1 e
   refine nY ?_;clear nY
   exact in_listAt (Ru W a) h1 m1 (by rw[m2];exact Cb.mk (.bool _) R q)
  ·rename_i xs e1
   refine nY ?_;clear nY
   refine Cz q fun r e q=>?_
   refine Aa fun nY=>?_
   obtain⟨l1,h1,r1,z1⟩:=R.isTup e1
   obtain⟨m1,m2⟩:=Gu (A:=A.in1) (s:=s) ha r1 e
   refine nY ?_;clear nY
   exact in_tupleAt (Ru W a) h1 m1 (by rw[m2];exact Cb.mk (.bool _) R q)
  ·rename_i es e1
   refine nY ?_;clear nY
   apply Aq ha q
   intro k t q
   refine Aa fun nY=>?_
   obtain⟨kvs,h1,r1,z1⟩:=R.isDict e1
   refine nY ?_;clear nY
   refine wpAny_in_of (intKind_is _ _ _ _) (R.noSys Y e1) h1.mapOf ?_
   rw[Jk,<-(Al.dget r1 _).1]
   exact Cb.mk (.bool _) (R.toks _) q
  ·exact q.elim
 case NotIn=>
  replace q:P6 a b H (fun v H=>match v with | .bool r=>Q (.bool (!r)) H|_=>False):=q
  apply Cc hb q
  intro x q
  refine Aa fun nY=>?_
  split at q
  ·rename_i xs e1
   refine nY ?_;clear nY
   refine Cz q fun r e q=>?_
   refine Aa fun nY=>?_
   obtain⟨l1,h1,r1,z1⟩:=R.isList e1
   obtain⟨m1,m2⟩:=Gu (A:=A.in1) (s:=s) ha r1 e
   refine nY ?_;clear nY
   exact notIn_listAt (Ru W a) h1 m1 (by rw[m2];exact Cb.mk (.bool _) R q)
  ·rename_i xs e1
   refine nY ?_;clear nY
   refine Cz q fun r e q=>?_
   refine Aa fun nY=>?_
   obtain⟨l1,h1,r1,z1⟩:=R.isTup e1
   obtain⟨m1,m2⟩:=Gu (A:=A.in1) (s:=s) ha r1 e
   refine nY ?_;clear nY
   exact notIn_tupleAt (Ru W a) h1 m1 (by rw[m2];exact Cb.mk (.bool _) R q)
  ·rename_i es e1
   refine nY ?_;clear nY
   apply Aq ha q
   intro k t q
   refine Aa fun nY=>?_
   obtain⟨kvs,h1,r1,z1⟩:=R.isDict e1
   refine nY ?_;clear nY
   refine wpAny_notIn_of (intKind_is _ _ _ _) (R.noSys Y e1) h1.mapOf ?_
   rw[Jk,<-(Al.dget r1 _).1]
   exact Cb.mk (.bool _) (R.toks _) q
  ·exact q.elim
end Mine.Internal
namespace Mine.Internal
open PySem PySem.W PyProof.Rows
variable {W:Wd} {A:Around} {h₀:HB} {env:Env} {c:Cx} {names:List Str} {H:AH} {ρ:Aj} {s:Shared} {E:Value->Shared->Prop} {n:Nat} {Q:Af} {Er:EP}
theorem Nj{k:Int}{n j:Nat}(h:Di k n=some j):seqIndex? k n=some j/\j<n:=by
 delta Di at h
 refine Aa fun nY=>?_
 split at h
 ·rename_i h0
  split at h
  ·refine nY ?_;clear nY
   rename_i h1;cases h;exact⟨seqIndex_of h0 h1,(Q10 h0 h1)⟩
  ·cases h
 ·rename_i h0
  split at h
  ·refine nY ?_;clear nY
   rename_i h1;cases h;exact⟨seqIndex_neg (Int.not_le.mp h0) (Aec h1),(Aiw h0 h1)⟩
  ·cases h
theorem Pd{k:Int}{n j:Nat}(h:Di k n=some j): -(n:Int)<=k/\k<n:=by
 delta Di at h
 refine Aa fun nY=>?_
 split at h
 ·rename_i h0
  split at h
  ·refine nY ?_;clear nY
   rename_i h1;exact⟨(Ai8 h0),h1⟩
  ·cases h
 ·rename_i h0
  split at h
  ·refine nY ?_;clear nY
   rename_i h1;exact⟨(Aec h1),(Ai9 h0)⟩
  ·cases h
theorem Rv:(Cg:Int)<2 ^ 63:=by decide
theorem Rw{a:Addr}{l1:List Value}{k:Int}{t:Nat}{n j:Nat}{cv:Value}{Qm:Value->Shared->Prop}(h1:s.heap.IsList a l1.toArray)(hn:n=l1.length)(z:n<=Cg)(e:Di k n=some j)(x:l1[j]? = some cv)(q:Qm cv s) :
 wpAny W.M A (getItem (.ref a) (.int k t)) Qm E s:=by
 have b63:=Rv
 refine Aa fun nY=>?_
 subst hn
 delta Di at e
 split at e
 ·rename_i h0
  split at e
  ·rename_i h2;cases e
   refine nY ?_;clear nY
   exact wpAny_getItem_list h1 h0 (Aja b63 z h2) (by simpa using x) q
  ·cases e
 ·rename_i h0
  split at e
  ·rename_i h2;cases e
   refine nY ?_;clear nY
   exact wpAny_getItem_list_neg h1 (Int.not_le.mp h0) (by rw[List.size_toArray];exact Aec h2) (Ajb b63 z h2) (by simpa using x) q
  ·cases e
theorem Rx(Y:Ah W env c h₀)(R:Al W h₀ env names H ρ s){a b:V}{u v:Value}(ha:VR W a u)(hb:VR W b v)(q:Hb a b H Q) :
 wpAny W.M A (getItem u v) (Cb W h₀ env names ρ Q) E s:=by
 apply Aq hb q
 intro k t q
 induction ha with
 | ref a=>
   dsimp only at q
   refine Aa fun nY=>?_
   split at q
   ·rename_i xs e1
    obtain⟨l1,h1,r1,z1⟩:=R.isList e1
    refine nY ?_;clear nY
    refine Cz q fun j e2 q=>?_
    refine Cz q fun v' e3 q=>?_
    refine Aa fun nY=>?_
    obtain⟨cv,x1,x2⟩:=r1.get j e3
    refine nY ?_;clear nY
    exact Rw h1 r1.length z1 e2 x1 (Cb.mk x2 R q)
   ·rename_i xs e1
    obtain⟨l1,h1,r1,z1⟩:=R.isTup e1
    refine nY ?_;clear nY
    refine Cz q fun j e2 q=>?_
    refine Cz q fun v' e3 q=>?_
    refine Aa fun nY=>?_
    obtain⟨cv,x1,x2⟩:=r1.get j e3
    have b63:=Rv
    obtain⟨i1,i2⟩:=Nj e2
    refine nY ?_;clear nY
    refine getItem_tuple h1 ?_ ?_ (by simpa[<-r1.length]using i1) (by simpa using x1) (Cb.mk x2 R q)
    ·have:=Pd e2;exact Ajc z1 b63 this.1
    ·have:=Pd e2;exact Int.lt_trans (Int.lt_of_lt_of_le this.2 (Int.ofNat_le.mpr z1)) b63
   ·rename_i es e1
    obtain⟨kvs,h1,r1,z1⟩:=R.isDict e1
    refine nY ?_;clear nY
    refine Cz q fun v' e2 q=>?_
    refine Aa fun nY=>?_
    obtain⟨cv,x1,x2⟩:=(Al.dget r1 _).2 _ e2
    refine nY ?_;clear nY
    exact wpAny_getItem_of (intKind_is _ _ _ _) h1.mapOf (by rw[Jk];exact x1) (Cb.mk x2 (R.toks _) q)
   ·exact q.elim
 | script=>
   refine Aa fun nY=>?_
   obtain⟨l1,h1,r1,z1⟩:=R.script Y
   have r2:Df W (W.sn.map V.int) l1:=F8 r1
   refine nY ?_;clear nY
   have hl:W.sn.length=l1.length:=by have:=r2.length;simpa using this
   dsimp only at q
   refine Cz q fun j e2 q=>?_
   refine Cz q fun v' e3 q=>?_
   refine Aa fun nY=>?_
   obtain⟨cv,x1,x2⟩:=r2.get j (by rw[List.getElem?_map,e3];rfl)
   refine nY ?_;clear nY
   exact Rw h1 hl (by rw[hl];exact z1) e2 x1 (Cb.mk x2 R q)
 | _=>exact False.elim q
theorem Wn(items:List Value)(lo hi:Option Int):(slicePick items.toArray lo hi none).toList =
 ((items.take (match hi with|some k=>E5 k items.length|none=>items.length)).drop (match lo with|some k=>E5 k items.length|none=>0)):=by
 have key:∀(a b:Nat),a<=items.length->b<=items.length->sliceBounds lo hi none items.length=((a:Int),(b:Int),1)->(slicePick items.toArray lo hi none).toList=(items.take b).drop a:=by
  intro a b ha hb e
  unfold slicePick
  rw[List.size_toArray,e]
  simp only
  rw[sliceRange_one,pick_run]
  simp only[List.drop_take]
 have cl:∀k:Int,(max 0 (min (if k<0 then k+(items.length:Int)else k) items.length))=((E5 k items.length:Nat):Int)/\E5 k items.length<=items.length:=by
  intro k
  delta E5
  split<;>constructor<;>(first|lia|omega)
 cases lo with
 | none=>cases hi with
   | none=>exact key 0 items.length (Nat.zero_le _) (Nat.le_refl _) rfl
   | some u=>exact key 0 (E5 u items.length) (Nat.zero_le _) (cl u).2 (by unfold sliceBounds;simp only[Option.getD_none];simp[(cl u).1])
 | some l=>cases hi with
   | none=>exact key (E5 l items.length) items.length (cl l).2 (Nat.le_refl _) (by unfold sliceBounds;simp only[Option.getD_none];simp[(cl l).1])
   | some u=>exact key (E5 l items.length) (E5 u items.length) (cl l).2 (cl u).2 (by unfold sliceBounds;simp only[Option.getD_none];simp[(cl l).1,(cl u).1])
theorem Gv{v:V}{u:Value}{k:Option Int}(h:VR W v u)(e:bound? v=some k):IsPart u k:=by
 induction h<;>first|(cases e;first|exact .none|exact .int _ _)|(cases e;done)
theorem Ab5(xs:List V)(l u:Option Int):(cut xs l u).length<=xs.length:=by
 delta cut
 simp only[List.length_drop,List.length_take]
 exact Nat.le_trans (Nat.sub_le _ _) (Nat.min_le_right _ _)
theorem Ab6{α β:Type}{f:α->Option β}{g:α->β}:∀ {l:List α},(∀k∈l,f k=some (g k))->l.filterMap f=l.map g:=by
 intro l
 induction l with
 | nil=>exact fun _=>rfl
 | cons x r ih=>
   intro h
   rw[List.filterMap_cons,h x List.mem_cons_self,List.map_cons,ih fun k hk=>h k (List.mem_cons_of_mem _ hk)]
theorem Wo(items:List Value):slicePick items.toArray none (some 0) (some (-1))=(items.drop 1).reverse.toArray:=by
 refine Aa fun nY=>?_
 cases items with
 | nil=>(refine nY ?_;clear nY;rfl)
 | cons x r=>
   refine nY ?_;clear nY
   unfold slicePick
   have e:sliceBounds none (some 0) (some (-1)) (x::r).toArray.size=((r.length:Int),0,-1):=by
    unfold sliceBounds
    simp
    omega
   rw[e]
   congr 1
   unfold sliceRange
   dsimp only
   have hc:(if (-1:Int)>0 then(if (r.length:Int)<0 then(0-(r.length:Int) + -1-1) / -1 else 0)else(if (r.length:Int)>0 then((r.length:Int)-0 - -1-1)/(- -1)else 0)).toNat=r.length:=by
    rw[if_neg (by decide),show -(-1:Int)=1 from rfl,Int.ediv_one]
    split<;>omega
   rw[hc,List.filterMap_map]
   have:∀k∈List.range r.length,(fun k:Nat=>(x::r).toArray[((r.length:Int) + -1*(k:Int)).toNat]?) k=some (r.reverse.getD k .none):=fun k hk=>by
    have hk:=List.mem_range.mp hk
    have e2:((r.length:Int) + -1*(k:Int)).toNat=r.length-1-k+1:=by omega
    show (x::r).toArray[((r.length:Int) + -1*(k:Int)).toNat]? = _
    rw[e2,List.getElem?_toArray,List.getElem?_cons_succ,List.getElem?_eq_getElem (by omega),List.getD_eq_getElem?_getD,List.getElem?_reverse hk,List.getElem?_eq_getElem (by omega)]
    rfl
   have h2:(List.range r.length).filterMap (fun k:Nat=>(x::r).toArray[((r.length:Int) + -1*(k:Int)).toNat]?)=(List.range r.length).map fun k=>r.reverse.getD k .none:=by
    exact Ab6 this
   refine h2.trans (List.ext_getElem (by simp) fun i h1 h3=>?_)
   simp at h1 h3
   simp[h1]
theorem Om(Y:Ah W env c h₀)(R:Al W h₀ env names H ρ s){a l u st:V}{va vl vu vs:Value}{sl:Addr}(ha:VR W a va)(hl:VR W l vl)(hu:VR W u vu)(hs:VR W st vs)(hsl:s.heap.IsSliceOf sl vl vu vs)(q:C7 a l u st H Q) :
 wpAny W.M A (getItem va (.ref sl)) (Cb W h₀ env names ρ Q) E s:=by
 apply Cc ha q
 intro a' q
 refine Cz q fun l' e1 q=>?_
 refine Cz q fun u' e2 q=>?_
 refine F7 q fun xs e3 qq=>?_
 clear q
 obtain⟨l1,h1,r1,z1⟩:=R.isList e3
 induction hs with
 | none=>
   refine wpAny_getItem_list_slice h1 hsl (Gv hl e1) (Gv hu e2) .none (by simp) ?_ (by simp[<-r1.length];exact Nat.le_trans z1 Cs)
   have e:slicePick l1.toArray l' u' none=(slicePick l1.toArray l' u' none).toList.toArray:=by simp
   rw[e,Wn]
   have R':=R.push (o:= .list (cut xs l' u')) (Ec (n:=0) (by
    delta cut
    rw[r1.length]
    exact(r1.take _).drop _) (Nat.le_trans (Ab5 _ _ _) z1)) rfl s.toks
   exact Cb.mk (.ref _) R' (qq _ R.fresh)
 | int k t=>
   obtain⟨rfl,rfl,qq⟩:=qq
   refine wpAny_getItem_list_slice h1 hsl (Gv hl e1) (Gv hu e2) (.int _ _) (by decide) ?_ (by simp[<-r1.length];exact Nat.le_trans z1 Cs)
   cases u' with
   | none=>
     rw[krv_pick]
     have R':=R.push (o:= .list xs.reverse) (Ec (n:=0) r1.reverse (by simpa using z1)) rfl s.toks
     exact Cb.mk (.ref _) R' (qq _ R.fresh)
   | some j=>
     obtain⟨rfl,qq⟩:=qq
     rw[Wo]
     have R':=R.push (o:= .list (xs.drop 1).reverse) (Ec (n:=0) (r1.drop 1).reverse (by rw[List.length_reverse,List.length_drop];exact Nat.le_trans (Nat.sub_le _ _) z1)) rfl s.toks
     exact Cb.mk (.ref _) R' (qq _ R.fresh)
 | _=>exact False.elim qq
theorem Tc.put{es:List (Int×V)}{kvs:List (Int×Value)}(h:Tc W es kvs){k:Int}{v:V}{u:Value}(hv:VR W v u)(hn:(kvs.map (·.1)).Nodup):Tc W (C3 es k v) (stored kvs k u):=by
 have none_eq:∀l:List (Int×Value),l.any (fun kv=>kv.1=k)=false->l.map (fun kv=>if kv.1=k then(kv.1,u)else kv)=l:=by
  intro l hl
  induction l with
  | nil=>rfl
  | cons p t ih=>
    simp only[List.any_cons,Bool.or_eq_false_iff,decide_eq_false_iff_not]at hl
    simp only[List.map_cons,if_neg hl.1,ih hl.2]
 induction h with
 | nil=>exact .cons hv .nil
 | @cons k' v' c' es kvs h t ih=>
   simp only[List.map_cons,List.nodup_cons]at hn
   unfold C3
   by_cases q:k=k'
   ·subst q
    rw[if_pos rfl]
    unfold stored
    rw[if_pos (by simp)]
    simp only[List.map_cons,if_true]
    rw[none_eq kvs (by
     rw[List.any_eq_false]
     intro p hp he
     exact hn.1 (List.mem_map.mpr ⟨p,hp,by simpa using he⟩))]
    exact .cons hv t
   ·rw[if_neg q]
    have:=ih hn.2
    unfold stored at this ⊢
    have q':¬k'=k:=fun e=>q e.symm
    simp only[List.any_cons,q',decide_false,Bool.false_or,List.map_cons,if_false]
    split
    ·rename_i hh;rw[if_pos hh]at this;exact .cons h this
    ·rename_i hh;rw[if_neg hh]at this;exact .cons h this
theorem Tc.length{es:List (Int×V)}{kvs:List (Int×Value)}(h:Tc W es kvs):es.length=kvs.length:=by
 induction h with
 | nil=>rfl
 | cons _ _ ih=>simp[ih]
theorem Ry(es:List (Int×V))(k:Int)(v:V):(C3 es k v).length<=es.length+1:=by
 induction es with
 | nil=>simp[C3]
 | cons p t ih=>
   obtain⟨a,b⟩:=p
   unfold C3
   split
   ·simp
   ·simp only[List.length_cons];exact Nat.succ_le_succ ih
theorem Rz{h:Heap}{a:Addr}{kvs:List (Int×Value)}(x:h.DictOf (intKind W.prog W.w) a kvs):∃ob,h.get? a=some ob/\ob.IsDictOf (intKind W.prog W.w) kvs:=
 let ⟨o,es,ep,h1,h2⟩:=x;⟨o,h1,es,ep,h2⟩
theorem Qb{h:Heap}{a:Addr}{kvs:List (Int×Value)}(x:h.DictOf (intKind W.prog W.w) a kvs):(kvs.map (·.1)).Nodup:=by
 obtain⟨_,_,_,_,_,_,_,_,h⟩:=x
 exact h
noncomputable def Agx(W:Wd)(h₀:HB)(env:Env)(names:List Str)(ρ:Aj)(N:AH->Prop)(s':Shared):Prop:=∃H',Al W h₀ env names H' ρ s'/\N H'
theorem On(Y:Ah W env c h₀)(R:Al W h₀ env names H ρ s){o i v:V}{uo ui uv:Value}(ho:VR W o uo)(hi:VR W i ui)(hv:VR W v uv){N:AH->Prop}(q:setItem o i v H N) :
 wpAny W.M A (PySem.setItem uo ui uv) (fun _ s'=>Agx W h₀ env names ρ N s') E s:=by
 delta Mine.Internal.setItem at q
 apply Cc ho q
 intro a q
 apply Aq hi q
 intro k t q
 split at q
 ·rename_i xs e1
  obtain⟨l1,nn,h1,r1,z1⟩:=R.lst e1
  refine Cz q fun j e2 q=>?_
  have b63:=Rv
  replace e2:Di k xs.length=some j:=e2
  delta Di at e2
  split at e2
  ·rename_i h0
   split at e2
   ·rename_i h2;cases e2
    refine ki_setAt (n:=nn) h1 h0 (by(first|lia|omega)) (by simp[<-r1.length];exact h2) ?_
    exact⟨_,R.changeL e1 h1 (·.setIfInBounds _ uv) (by simp) (r1.set _ hv) (by simpa using z1) s.toks,q⟩
   ·cases e2
  ·rename_i h0
   split at e2
   ·rename_i h2;cases e2
    have hs:l1.toArray.size=xs.length:=by simp[r1.length]
    refine ki_setBack (n:=nn) h1 (by(first|lia|omega)) (by rw[hs];(first|lia|omega)) (by(first|lia|omega)) ?_
    exact⟨_,R.changeL e1 h1 (·.setIfInBounds _ uv) (by simp[r1.length]) (r1.set _ hv) (by simpa using z1) s.toks,q⟩
   ·cases e2
 ·rename_i es e1
  obtain⟨kvs,h1,r1,z1⟩:=R.isDict e1
  refine wpAny_setItem_pairs (intKind_is _ _ _ _) h1 (fun h' h2 h3=>?_) (by rw[<-r1.length];exact Nat.le_trans z1 Cs)
  obtain⟨ob,h4,h5⟩:=Rz h2
  exact⟨_,R.change _ e1 h3 h4 (.dict (r1.put hv (Qb h1)) (Nat.le_trans (Ry _ _ _) q.1) h5) fun _ _=>⟨_,rfl⟩,q.2⟩
 ·exact q.elim
end Mine.Internal
namespace Mine.Internal
open PySem PySem.W PyProof.Rows
noncomputable def Fh:Bool->Keyed->Array Keyed->Nat->Nat->Nat->StateT SortSt Sem (Option Nat):=sortPriv% PySem.Builtin.gallop
noncomputable def Nk:Array Keyed->Array Keyed->StateT SortSt Sem (Array Keyed):=sortPriv% PySem.Builtin.mergeLo
noncomputable def Nl:Array Keyed->Array Keyed->StateT SortSt Sem (Array Keyed):=sortPriv% PySem.Builtin.mergeHi
noncomputable abbrev Bw(st:SortSt)(g:Nat):SortSt:=SortSt.mk' (kindOf st) (arrOf st) (pendingOf st) g (failedOf st)
noncomputable def Fi(Ev:Bool)(key:Keyed)(arr:Array Keyed)(base i:Nat):StateT SortSt Sem (Option Bool):=do
 let x <-elem' arr (base+i)
 if Ev then lt' x key else return (<-lt' key x).map (!·)
noncomputable def Wp(Ev:Bool)(key:Keyed)(arr:Array Keyed)(base n lo hi:Nat):StateT SortSt Sem (Option Nat):=do
 let mut lo:=lo
 let mut hi:=hi
 for _ in [0:n] do
  if lo≥hi then break
  let m:=lo+(hi-lo)/2
  let some more <-Fi Ev key arr base m|return none
  if more then lo:=m+1 else hi:=m
 return some hi
theorem Tt(Ev:Bool)(key:Keyed)(arr:Array Keyed)(base n hint:Nat):Fh Ev key arr base n hint=(do
 let mut lastofs:=0
 let mut ofs:=1
 let some right <-Fi Ev key arr base hint|return none
 if right then
  let maxofs:=n-hint
  for _ in [0:n] do
   if ofs≥maxofs then break
   let some more <-Fi Ev key arr base (hint+ofs)|return none
   if !more then break
   lastofs:=ofs
   ofs:=2*ofs+1
  Wp Ev key arr base n (hint+lastofs+1) (hint+min ofs maxofs)
 else
  let maxofs:=hint+1
  for _ in [0:n] do
   if ofs≥maxofs then break
   let some found <-Fi Ev key arr base (hint-ofs)|return none
   if found then break
   lastofs:=ofs
   ofs:=2*ofs+1
  Wp Ev key arr base n (hint+1-min ofs maxofs) (hint-lastofs)):=rfl
noncomputable abbrev Gw(a b out:(Array Keyed))(ia ib:Nat):(Array Keyed):=out++a.extract ia a.size++b.extract ib b.size
noncomputable abbrev Nm(a b out:(Array Keyed))(ia ib:Nat):(Array Keyed):=out++b.extract ib b.size++a.extract ia a.size
noncomputable def lo1(a b:(Array Keyed))(mg:Nat)(c:(Option (Array Keyed)×Array Keyed×Nat×Nat×Nat×Nat)):StateT SortSt Sem (ForInStep (Option (Array Keyed)×Array Keyed×Nat×Nat×Nat×Nat)):=do
 let x <-elem' b c.2.2.2.1
 let y <-elem' a c.2.2.1
 let r <-lt' x y
 match r with
 | some bWins=>
   if bWins then do
    let x <-elem' b c.2.2.2.1
    if (c.2.2.2.1+1==b.size)=true then pure (.done (some (Gw a b (c.2.1.push x) c.2.2.1 (c.2.2.2.1+1)),c.2.1.push x,c.2.2.1,c.2.2.2.1+1,0,c.2.2.2.2.2+1))
    else if c.2.2.2.2.2+1≥mg then pure (.done (none,c.2.1.push x,c.2.2.1,c.2.2.2.1+1,0,c.2.2.2.2.2+1))
    else pure (.yield (none,c.2.1.push x,c.2.2.1,c.2.2.2.1+1,0,c.2.2.2.2.2+1))
   else do
    let x <-elem' a c.2.2.1
    if (c.2.2.1+1+1==a.size)=true then pure (.done (some (Nm a b (c.2.1.push x) (c.2.2.1+1) c.2.2.2.1),c.2.1.push x,c.2.2.1+1,c.2.2.2.1,c.2.2.2.2.1+1,0))
    else if c.2.2.2.2.1+1≥mg then pure (.done (none,c.2.1.push x,c.2.2.1+1,c.2.2.2.1,c.2.2.2.2.1+1,0))
    else pure (.yield (none,c.2.1.push x,c.2.2.1+1,c.2.2.2.1,c.2.2.2.2.1+1,0))
 | _=>pure (.done (some (Gw a b c.2.1 c.2.2.1 c.2.2.2.1),c.2.1,c.2.2.1,c.2.2.2.1,c.2.2.2.2.1,c.2.2.2.2.2))
noncomputable def lo5(a b out:(Array Keyed))(ia ib mg ac bc:Nat):StateT SortSt Sem (ForInStep (Option (Array Keyed)×Array Keyed×Nat×Nat×Nat×Nat×Nat)):=do
 let x <-elem' a ia
 if (ia+1+1==a.size)=true then pure (.done (some (Nm a b (out.push x) (ia+1) ib),out.push x,ia+1,ib,mg,ac,bc))
 else if (decide (ac<7)&&decide (bc<7))=true then pure (.done (none,out.push x,ia+1,ib,mg,ac,bc))
 else pure (.yield (none,out.push x,ia+1,ib,mg,ac,bc))
noncomputable def lo4(a b out:(Array Keyed))(ia ib mg ac bc:Nat):StateT SortSt Sem (ForInStep (Option (Array Keyed)×Array Keyed×Nat×Nat×Nat×Nat×Nat)):=do
 let x <-elem' b ib
 if (ib+1==b.size)=true then pure (.done (some (Gw a b (out.push x) ia (ib+1)),out.push x,ia,ib+1,mg,ac,bc))
 else do
  let y <-elem' a ia
  let r <-Fh true y b (ib+1) (b.size-(ib+1)) 0
  match r with
  | some k=>
    if k>0 then
     if (ib+1+k==b.size)=true then pure (.done (some (Gw a b (out.push x++b.extract (ib+1) (ib+1+k)) ia (ib+1+k)),out.push x++b.extract (ib+1) (ib+1+k),ia,ib+1+k,mg,ac,k))
     else lo5 a b (out.push x++b.extract (ib+1) (ib+1+k)) ia (ib+1+k) mg ac k
    else lo5 a b (out.push x) ia (ib+1) mg ac k
  | _=>pure (.done (some (Gw a b (out.push x) ia (ib+1)),out.push x,ia,ib+1,mg,ac,bc))
noncomputable def lo3(a b out:(Array Keyed))(ia ib mg ac bc:Nat):StateT SortSt Sem (ForInStep (Option (Array Keyed)×Array Keyed×Nat×Nat×Nat×Nat×Nat)):=do
 modify fun s=>Bw s mg
 let y <-elem' b ib
 let r <-Fh false y a ia (a.size-ia) 0
 match r with
 | some k=>
   if k>0 then
    if (ia+k+1==a.size)=true then pure (.done (some (Nm a b (out++a.extract ia (ia+k)) (ia+k) ib),out++a.extract ia (ia+k),ia+k,ib,mg,k,bc))
    else if (ia+k==a.size)=true then pure (.done (some (Gw a b (out++a.extract ia (ia+k)) (ia+k) ib),out++a.extract ia (ia+k),ia+k,ib,mg,k,bc))
    else lo4 a b (out++a.extract ia (ia+k)) (ia+k) ib mg k bc
   else lo4 a b out ia ib mg k bc
 | _=>pure (.done (some (Gw a b out ia ib),out,ia,ib,mg,ac,bc))
noncomputable def lo2(a b:(Array Keyed))(c:(Option (Array Keyed)×Array Keyed×Nat×Nat×Nat×Nat×Nat)):StateT SortSt Sem (ForInStep (Option (Array Keyed)×Array Keyed×Nat×Nat×Nat×Nat×Nat)):=
 if c.2.2.2.2.1>1 then lo3 a b c.2.1 c.2.2.1 c.2.2.2.1 (c.2.2.2.2.1-1) c.2.2.2.2.2.1 c.2.2.2.2.2.2
 else lo3 a b c.2.1 c.2.2.1 c.2.2.2.1 c.2.2.2.2.1 c.2.2.2.2.2.1 c.2.2.2.2.2.2
noncomputable abbrev Mf{α β:Type}(x:Option α)(f:α->StateT SortSt Sem β)(g:Unit->StateT SortSt Sem β):StateT SortSt Sem β:= @Break.runK.match_1 α (fun _=>StateT SortSt Sem β) x f g
noncomputable def lo0(a b:Array Keyed)(c:Option (Array Keyed)×Array Keyed×Nat×Nat×Nat):StateT SortSt Sem (ForInStep (Option (Array Keyed)×Array Keyed×Nat×Nat×Nat)):=do
 let r <-forIn [0:a.size+b.size] ((none,c.2.1,c.2.2.1,c.2.2.2.1,0,0):Option (Array Keyed)×Array Keyed×Nat×Nat×Nat×Nat) fun _ d=>lo1 a b c.2.2.2.2 d
 Mf r.1 (fun x=>pure (.done (some x,r.2.1,r.2.2.1,r.2.2.2.1,c.2.2.2.2))) fun _=>do
  rule "list.sort.gallop"
  let q <-forIn [0:a.size+b.size] ((none,r.2.1,r.2.2.1,r.2.2.2.1,c.2.2.2.2+1,r.2.2.2.2.1,r.2.2.2.2.2):Option (Array Keyed)×Array Keyed×Nat×Nat×Nat×Nat×Nat) fun _ d=>lo2 a b d
  Mf q.1 (fun x=>pure (.done (some x,q.2.1,q.2.2.1,q.2.2.2.1,q.2.2.2.2.1))) fun _=>do
   modify fun s=>Bw s (q.2.2.2.2.1+1)
   pure (.yield (none,q.2.1,q.2.2.1,q.2.2.2.1,q.2.2.2.2.1+1))
theorem R0(a b:Array Keyed):Nk a b=(do
 rule "list.sort.merge-lo"
 let x <-elem' b 0
 if (1==b.size)=true then pure (Gw a b #[x] 0 1)
 else if (0+1==a.size)=true then pure (Nm a b #[x] 0 1)
 else do
  let g <-get
  let r <-forIn [0:a.size+b.size] ((none,#[x],0,1,gallopOf g):Option (Array Keyed)×Array Keyed×Nat×Nat×Nat) fun _ c=>lo0 a b c
  Mf r.1 (fun x=>pure x) fun _=>unsupported "internal:list.sort.merge-bound"):=rfl
noncomputable abbrev Gx(a b out:Array Keyed)(na nb:Nat):Array Keyed:=a.extract 0 na++b.extract 0 nb++out.reverse
noncomputable abbrev Kf(a b out:Array Keyed)(na nb:Nat):Array Keyed:=b.extract 0 nb++a.extract 0 na++out.reverse
noncomputable def hi1(a b:Array Keyed)(mg:Nat)(c:Option (Array Keyed)×Nat×Nat×Array Keyed×Nat×Nat):StateT SortSt Sem (ForInStep (Option (Array Keyed)×Nat×Nat×Array Keyed×Nat×Nat)):=do
 let x <-elem' b (c.2.2.1-1)
 let y <-elem' a (c.2.1-1)
 let r <-lt' x y
 match r with
 | some aWins=>
   if aWins then do
    let x <-elem' a (c.2.1-1)
    if (c.2.1-1==0)=true then pure (.done (some (Gx a b (c.2.2.2.1.push x) (c.2.1-1) c.2.2.1),c.2.1-1,c.2.2.1,c.2.2.2.1.push x,c.2.2.2.2.1+1,0))
    else if c.2.2.2.2.1+1≥mg then pure (.done (none,c.2.1-1,c.2.2.1,c.2.2.2.1.push x,c.2.2.2.2.1+1,0))
    else pure (.yield (none,c.2.1-1,c.2.2.1,c.2.2.2.1.push x,c.2.2.2.2.1+1,0))
   else do
    let x <-elem' b (c.2.2.1-1)
    if (c.2.2.1-1==1)=true then pure (.done (some (Kf a b (c.2.2.2.1.push x) c.2.1 (c.2.2.1-1)),c.2.1,c.2.2.1-1,c.2.2.2.1.push x,0,c.2.2.2.2.2+1))
    else if c.2.2.2.2.2+1≥mg then pure (.done (none,c.2.1,c.2.2.1-1,c.2.2.2.1.push x,0,c.2.2.2.2.2+1))
    else pure (.yield (none,c.2.1,c.2.2.1-1,c.2.2.2.1.push x,0,c.2.2.2.2.2+1))
 | _=>pure (.done (some (Gx a b c.2.2.2.1 c.2.1 c.2.2.1),c.2.1,c.2.2.1,c.2.2.2.1,c.2.2.2.2.1,c.2.2.2.2.2))
noncomputable def hi5(a b out:Array Keyed)(na nb mg ac bc:Nat):StateT SortSt Sem (ForInStep (Option (Array Keyed)×Nat×Nat×Array Keyed×Nat×Nat×Nat)):=do
 let x <-elem' a (na-1)
 if (na-1==0)=true then pure (.done (some (Gx a b (out.push x) (na-1) nb),na-1,nb,out.push x,mg,ac,bc))
 else if (decide (ac<7)&&decide (bc<7))=true then pure (.done (none,na-1,nb,out.push x,mg,ac,bc))
 else pure (.yield (none,na-1,nb,out.push x,mg,ac,bc))
noncomputable def hi4(a b out:Array Keyed)(na nb mg ac bc:Nat):StateT SortSt Sem (ForInStep (Option (Array Keyed)×Nat×Nat×Array Keyed×Nat×Nat×Nat)):=do
 let x <-elem' b (nb-1)
 if (nb-1==1)=true then pure (.done (some (Kf a b (out.push x) na (nb-1)),na,nb-1,out.push x,mg,ac,bc))
 else do
  let y <-elem' a (na-1)
  let r <-Fh true y b 0 (nb-1) (nb-1-1)
  match r with
  | some k=>
    if nb-1-k>0 then
     if (k==1)=true then pure (.done (some (Kf a b (out.push x++(b.extract k (nb-1)).reverse) na k),na,k,out.push x++(b.extract k (nb-1)).reverse,mg,ac,nb-1-k))
     else if (k==0)=true then pure (.done (some (Gx a b (out.push x++(b.extract k (nb-1)).reverse) na k),na,k,out.push x++(b.extract k (nb-1)).reverse,mg,ac,nb-1-k))
     else hi5 a b (out.push x++(b.extract k (nb-1)).reverse) na k mg ac (nb-1-k)
    else hi5 a b (out.push x) na (nb-1) mg ac (nb-1-k)
  | _=>pure (.done (some (Gx a b (out.push x) na (nb-1)),na,nb-1,out.push x,mg,ac,bc))
noncomputable def hi3(a b out:Array Keyed)(na nb mg ac bc:Nat):StateT SortSt Sem (ForInStep (Option (Array Keyed)×Nat×Nat×Array Keyed×Nat×Nat×Nat)):=do
 modify fun s=>Bw s mg
 let y <-elem' b (nb-1)
 let r <-Fh false y a 0 na (na-1)
 match r with
 | some k=>
   if na-k>0 then
    if (k==0)=true then pure (.done (some (Gx a b (out++(a.extract k na).reverse) k nb),k,nb,out++(a.extract k na).reverse,mg,na-k,bc))
    else hi4 a b (out++(a.extract k na).reverse) k nb mg (na-k) bc
   else hi4 a b out na nb mg (na-k) bc
 | _=>pure (.done (some (Gx a b out na nb),na,nb,out,mg,ac,bc))
noncomputable def hi2(a b:Array Keyed)(c:Option (Array Keyed)×Nat×Nat×Array Keyed×Nat×Nat×Nat):StateT SortSt Sem (ForInStep (Option (Array Keyed)×Nat×Nat×Array Keyed×Nat×Nat×Nat)):=
 if c.2.2.2.2.1>1 then hi3 a b c.2.2.2.1 c.2.1 c.2.2.1 (c.2.2.2.2.1-1) c.2.2.2.2.2.1 c.2.2.2.2.2.2
 else hi3 a b c.2.2.2.1 c.2.1 c.2.2.1 c.2.2.2.2.1 c.2.2.2.2.2.1 c.2.2.2.2.2.2
noncomputable def hi0(a b:Array Keyed)(c:Option (Array Keyed)×Nat×Nat×Array Keyed×Nat):StateT SortSt Sem (ForInStep (Option (Array Keyed)×Nat×Nat×Array Keyed×Nat)):=do
 let r <-forIn [0:a.size+b.size] ((none,c.2.1,c.2.2.1,c.2.2.2.1,0,0):Option (Array Keyed)×Nat×Nat×Array Keyed×Nat×Nat) fun _ d=>hi1 a b c.2.2.2.2 d
 Mf r.1 (fun x=>pure (.done (some x,r.2.1,r.2.2.1,r.2.2.2.1,c.2.2.2.2))) fun _=>do
  rule "list.sort.gallop"
  let q <-forIn [0:a.size+b.size] ((none,r.2.1,r.2.2.1,r.2.2.2.1,c.2.2.2.2+1,r.2.2.2.2.1,r.2.2.2.2.2):Option (Array Keyed)×Nat×Nat×Array Keyed×Nat×Nat×Nat) fun _ d=>hi2 a b d
  Mf q.1 (fun x=>pure (.done (some x,q.2.1,q.2.2.1,q.2.2.2.1,q.2.2.2.2.1))) fun _=>do
   modify fun s=>Bw s (q.2.2.2.2.1+1)
   pure (.yield (none,q.2.1,q.2.2.1,q.2.2.2.1,q.2.2.2.2.1+1))
theorem R7(a b:Array Keyed):Nl a b=(do
 rule "list.sort.merge-hi"
 let x <-elem' a (a.size-1)
 if (a.size-1==0)=true then pure (Gx a b #[x] (a.size-1) b.size)
 else if (b.size==1)=true then pure (Kf a b #[x] (a.size-1) b.size)
 else do
  let g <-get
  let r <-forIn [0:a.size+b.size] ((none,a.size-1,b.size,#[x],gallopOf g):Option (Array Keyed)×Nat×Nat×Array Keyed×Nat) fun _ c=>hi0 a b c
  Mf r.1 (fun x=>pure x) fun _=>unsupported "internal:list.sort.merge-bound"):=rfl
theorem R8(i:Nat):mergeAt' i=(do
 let s <-get
 let (some (sa,na,power),some (sb,nb,_)):=((pendingOf s)[i]?,(pendingOf s)[i+1]?)|unsupported "internal:list.sort.pending"
 set (setPending s (((pendingOf s).setIfInBounds i (sa,na+nb,power)).eraseIdxIfInBounds (i+1)))
 let some k <-Fh false (<-elem' (arrOf s) sb) (arrOf s) sa na 0|return false
 let (sa,na):=(sa+k,na-k)
 if na==0 then return true
 let some nb <-Fh true (<-elem' (arrOf s) (sa+na-1)) (arrOf s) sb nb (nb-1)|return false
 if nb==0 then return true
 let x:=(arrOf s).extract sa sb
 let y:=(arrOf s).extract sb (sb+nb)
 let merged <-if na<=nb then Nk x y else Nl x y
 modify fun s=>setArr s (merged.toList.zipIdx.foldl (fun a (p,j)=>a.setIfInBounds (sa+j) p) (arrOf s))
 return (failedOf (<-get)).isNone):=rfl
end Mine.Internal
namespace Mine.Internal
open PySem PySem.W PyProof PyProof.Rows
section
variable {prog:Program} {w:World} {A:Around} {E:Value->Shared->Prop} {s:Shared} {κ:SortKind} {a₀:Array Keyed}
noncomputable def Jl(prog:Program)(w:World)(A:Around)(s:Shared)(κ:SortKind)(a₀:Array Keyed):Prop:=
 ∀x∈a₀.toList,∀y∈a₀.toList,∀(Q:Bool->Shared->Prop) (E:Value->Shared->Prop),(∀b,Q b s)->wpAny (model prog w) A (keyLt' κ x.1 y.1) Q E s
theorem E1(hc:Jl prog w A s κ a₀){x y:Keyed}(hx:x∈a₀.toList)(hy:y∈a₀.toList){st:SortSt}(hk:kindOf st=κ){Q:Option Bool->SortSt->Prop}(h:∀b,Q (some b) st) :
 Rows.wpS (model prog w) A E s (lt' x y) Q st:=by
 rw[lt'_eq]
 refine wpS_bind (wpS_get ?_)
 rw[hk]
 refine wpS_bind (wpS_lift (wpAny_attempt (hc x hx y hy _ _ fun b=>⟨rfl,?_⟩)))
 exact wpS_pure (h b)
theorem A7{M:Model}{arr:Array Keyed}{i:Nat}(hi:i<arr.size){st:SortSt}{Q:Keyed->SortSt->Prop}(h:∀p∈arr.toList,arr[i]? = some p->Q p st):Rows.wpS M A E s (elem' arr i) Q st:=by
 rw[elem'_eq,Array.getElem?_eq_getElem hi]
 exact wpS_pure (h _ (Array.getElem_mem_toList hi) (Array.getElem?_eq_getElem hi))
theorem Tu(hc:Jl prog w A s κ a₀){Ev:Bool}{key:Keyed}{arr:Array Keyed}{base i:Nat}(hkey:key∈a₀.toList)(harr:∀p∈arr.toList,p∈a₀.toList){st:SortSt}(hk:kindOf st=κ)(hi:base+i<arr.size)
 {Q:Option Bool->SortSt->Prop} (h:∀b,Q (some b) st):Rows.wpS (model prog w) A E s (Fi Ev key arr base i) Q st:=by
 unfold Fi
 refine wpS_bind (A7 hi fun p hp _=>?_)
 cases Ev with
 | true=>exact E1 hc (harr p hp) hkey hk h
 | false=>exact wpS_bind (E1 hc hkey (harr p hp) hk fun b=>wpS_pure (h _))
theorem Aep{l r:Nat}(h:¬l≥r):l+(r-l)/2<r:=by omega
theorem Kg{Ev:Bool}{key:Keyed}{arr:Array Keyed}{base n lo hi:Nat}{st:SortSt}
 (bey:∀i,i<n->∀ {Q':Option Bool->SortSt->Prop},(∀b,Q' (some b) st)->Rows.wpS (model prog w) A E s (Fi Ev key arr base i) Q' st) (hhi:hi<=n)
 {Q:Option Nat->SortSt->Prop} (h:∀k,k<=n->Q (some k) st):Rows.wpS (model prog w) A E s (Wp Ev key arr base n lo hi) Q st:=by
 unfold Wp
 dsimp only
 refine wpS_bind (wpS_mono (wpS_forRange (I:=fun _ c st'=>st'=st/\c.1=none/\c.2.2<=n) (Q:=fun c st'=>st'=st/\c.1=none/\c.2.2<=n) ?_ (fun _ _ x=>x) ⟨rfl,rfl,hhi⟩) ?_)
 ·rintro _ ⟨c,l,r⟩ st' _ _ ⟨rfl,rfl,hr⟩
  dsimp only at hr ⊢
  split
  ·exact wpS_pure ⟨rfl,rfl,hr⟩
  ·rename_i hlr
   have hmid:=Nat.lt_of_lt_of_le (Aep hlr) hr
   refine wpS_bind (bey _ hmid fun b=>?_)
   cases b with
   | true=>exact wpS_pure ⟨rfl,rfl,hr⟩
   | false=>exact wpS_pure ⟨rfl,rfl,Nat.le_of_lt hmid⟩
 ·rintro⟨c,l,r⟩ st' ⟨rfl,rfl,hr⟩
  exact wpS_pure (h _ hr)
theorem D4(hc:Jl prog w A s κ a₀){Ev:Bool}{key:Keyed}{arr:Array Keyed}{base n hint:Nat}(hkey:key∈a₀.toList)(harr:∀p∈arr.toList,p∈a₀.toList){st:SortSt}(hk:kindOf st=κ)(hb:base+n<=arr.size)(hh:hint<n)
 {Q:Option Nat->SortSt->Prop} (h:∀k,k<=n->Q (some k) st):Rows.wpS (model prog w) A E s (Fh Ev key arr base n hint) Q st:=by
 rw[Tt]
 have bey:∀i,i<n->∀ {Q':Option Bool->SortSt->Prop},(∀b,Q' (some b) st)->Rows.wpS (model prog w) A E s (Fi Ev key arr base i) Q' st:=fun i hi Q' h'=>Tu hc hkey harr hk (Nat.lt_of_lt_of_le (Nat.add_lt_add_left hi base) hb) h'
 dsimp only
 refine wpS_bind (bey hint hh fun b=>?_)
 cases b with
 | true=>
   refine wpS_bind (wpS_forRange (I:=fun _ c st'=>st'=st/\c.1=none) ?_ ?_ ⟨rfl,rfl⟩)
   ·rintro _ c st' _ _ ⟨rfl,h1⟩
    have fin:∀(l r:Nat),Rows.wpS (model prog w) A E s (Wp Ev key arr base n (hint+l+1) (hint+min r (n-hint))) Q st':=fun l r=>Kg bey (Nat.le_trans (Nat.add_le_add_left (Nat.min_le_right _ _) _) (Nat.le_of_eq (Nat.add_sub_of_le (Nat.le_of_lt hh)))) h
    show Rows.wpS _ _ _ _ (if c.2.2≥n-hint then _ else _) _ _
    split
    ·exact wpS_pure (fin _ _)
    ·rename_i q
     refine wpS_bind (bey _ (Nat.add_lt_of_lt_sub' (Nat.lt_of_not_le q)) fun b=>?_)
     cases b
     ·exact wpS_pure (fin _ _)
     ·exact wpS_pure ⟨rfl,rfl⟩
   ·rintro c st' ⟨rfl,h1⟩
    rw[h1]
    exact Kg bey (Nat.le_trans (Nat.add_le_add_left (Nat.min_le_right _ _) _) (Nat.le_of_eq (Nat.add_sub_of_le (Nat.le_of_lt hh)))) h
 | false=>
   refine wpS_bind (wpS_forRange (I:=fun _ c st'=>st'=st/\c.1=none) ?_ ?_ ⟨rfl,rfl⟩)
   ·rintro _ c st' _ _ ⟨rfl,h1⟩
    have fin:∀(l r:Nat),Rows.wpS (model prog w) A E s (Wp Ev key arr base n (hint+1-min r (hint+1)) (hint-l)) Q st':=fun l r=>Kg bey (Nat.le_trans (Nat.sub_le _ _) (Nat.le_of_lt hh)) h
    show Rows.wpS _ _ _ _ (if c.2.2≥hint+1 then _ else _) _ _
    split
    ·exact wpS_pure (fin _ _)
    ·refine wpS_bind (bey _ (Nat.lt_of_le_of_lt (Nat.sub_le _ _) hh) fun b=>?_)
     cases b
     ·exact wpS_pure ⟨rfl,rfl⟩
     ·exact wpS_pure (fin _ _)
   ·rintro c st' ⟨rfl,h1⟩
    rw[h1]
    exact Kg bey (Nat.le_trans (Nat.sub_le _ _) (Nat.le_of_lt hh)) h
end
section
variable {a b out:Array Keyed} {ia ib k:Nat} {x:Keyed}
theorem Qc:(a.extract ia a.size).toList=a.toList.drop ia:=by simp;exact List.take_of_length_le (by simp)
theorem Vd:(a.extract ia (ia+k)).toList=(a.toList.drop ia).take k:=by simp[List.extract_eq_take_drop]
theorem Qd:(a.extract 0 ia).toList=a.toList.take ia:=by simp
theorem Ym(_:k<=ia):(a.extract k ia).toList=(a.toList.take ia).drop k:=by simp[List.extract_eq_take_drop,List.drop_take]
theorem Ve(h:a[ia]? = some x):a.toList.drop ia=x::a.toList.drop (ia+1):=by
 obtain⟨h1,h2⟩:=Array.getElem?_eq_some_iff.mp h
 rw[List.drop_eq_getElem_cons (by simpa using h1)]
 simp[h2]
theorem Vf(h:a[ia]? = some x):a.toList.take (ia+1)=a.toList.take ia ++ [x]:=by
 obtain⟨h1,h2⟩:=Array.getElem?_eq_some_iff.mp h
 rw[List.take_add_one]
 simp[h]
structure PM(a b out:Array Keyed)(ia ib:Nat):Prop where
 la:ia<=a.size
 lb:ib<=b.size
 pm:(out.toList++(a.toList.drop ia++b.toList.drop ib)).Perm (a.toList++b.toList)
theorem PM.size(h:PM a b out ia ib):out.size=ia+ib:=by
 have:=h.pm.length_eq
 have:=h.la
 have:=h.lb
 simp at *
 omega
theorem PM.done(h:PM a b out ia ib):(Gw a b out ia ib).toList.Perm (a.toList++b.toList):=by
 rw[Array.toList_append,Array.toList_append,Qc,Qc,List.append_assoc]
 exact h.pm
theorem PM.last(h:PM a b out ia ib):(Nm a b out ia ib).toList.Perm (a.toList++b.toList):=by
 rw[Array.toList_append,Array.toList_append,Qc,Qc,List.append_assoc]
 exact(List.Perm.append_left _ List.perm_append_comm).trans h.pm
theorem PM.pushB(h:PM a b out ia ib)(e:b[ib]? = some x):PM a b (out.push x) ia (ib+1):=by
 refine⟨h.la,(Array.getElem?_eq_some_iff.mp e).1,?_⟩
 have:=h.pm
 rw[Ve e]at this
 rw[Array.toList_push,List.append_assoc]
 show (out.toList++(x::(a.toList.drop ia++b.toList.drop (ib+1)))).Perm _
 exact(List.Perm.append_left _ (List.perm_middle (l₁:=a.toList.drop ia)).symm).trans this
theorem PM.pushA(h:PM a b out ia ib)(e:a[ia]? = some x):PM a b (out.push x) (ia+1) ib:=by
 refine⟨(Array.getElem?_eq_some_iff.mp e).1,h.lb,?_⟩
 have:=h.pm
 rw[Ve e]at this
 rw[Array.toList_push,List.append_assoc]
 exact this
theorem PM.appA(h:PM a b out ia ib)(hk:ia+k<=a.size):PM a b (out++a.extract ia (ia+k)) (ia+k) ib:=by
 refine⟨hk,h.lb,?_⟩
 have:=h.pm
 rw[<-List.take_append_drop k (a.toList.drop ia),List.drop_drop,List.append_assoc]at this
 rw[Array.toList_append,Vd,List.append_assoc]
 exact this
theorem PM.appB(h:PM a b out ia ib)(hk:ib+k<=b.size):PM a b (out++b.extract ib (ib+k)) ia (ib+k):=by
 refine⟨h.la,hk,?_⟩
 have:=h.pm
 rw[<-List.take_append_drop k (b.toList.drop ib),List.drop_drop]at this
 rw[Array.toList_append,Vd,List.append_assoc]
 refine List.Perm.trans (List.Perm.append_left _ ?_) this
 rw[<-List.append_assoc,<-List.append_assoc]
 exact List.Perm.append_right _ List.perm_append_comm
structure PH(a b out:Array Keyed)(na nb:Nat):Prop where
 la:na<=a.size
 lb:nb<=b.size
 pm:(a.toList.take na++b.toList.take nb++out.toList.reverse).Perm (a.toList++b.toList)
theorem PH.size(h:PH a b out ia ib):out.size+ia+ib=a.size+b.size:=by
 have:=h.pm.length_eq
 have:=h.la
 have:=h.lb
 simp at *
 omega
theorem PH.done(h:PH a b out ia ib):(Gx a b out ia ib).toList.Perm (a.toList++b.toList):=by
 rw[Array.toList_append,Array.toList_append,Qd,Qd,Array.toList_reverse]
 exact h.pm
theorem PH.first(h:PH a b out ia ib):(Kf a b out ia ib).toList.Perm (a.toList++b.toList):=by
 rw[Array.toList_append,Array.toList_append,Qd,Qd,Array.toList_reverse]
 exact(List.Perm.append_right _ List.perm_append_comm).trans h.pm
theorem PH.pushB(h:PH a b out ia (ib+1))(e:b[ib]? = some x):PH a b (out.push x) ia ib:=by
 refine⟨h.la,Nat.le_of_succ_le h.lb,?_⟩
 have:=h.pm
 rw[Vf e]at this
 rw[Array.toList_push,List.reverse_append]
 simpa[List.append_assoc]using this
theorem PH.pushA(h:PH a b out (ia+1) ib)(e:a[ia]? = some x):PH a b (out.push x) ia ib:=by
 refine⟨Nat.le_of_succ_le h.la,h.lb,?_⟩
 have:=h.pm
 rw[Vf e]at this
 rw[Array.toList_push,List.reverse_append]
 refine List.Perm.trans ?_ this
 simp only[List.append_assoc,List.reverse_cons,List.reverse_nil,List.nil_append,List.cons_append]
 exact List.Perm.append_left _ List.perm_middle
theorem PH.appA(h:PH a b out ia ib)(hk:k<=ia):PH a b (out++(a.extract k ia).reverse) k ib:=by
 refine⟨Nat.le_trans hk h.la,h.lb,?_⟩
 have:=h.pm
 rw[<-List.take_append_drop k (a.toList.take ia),List.take_take,Nat.min_eq_left hk]at this
 rw[Array.toList_append,Array.toList_reverse,Ym hk,List.reverse_append,List.reverse_reverse]
 refine List.Perm.trans ?_ this
 simp only[List.append_assoc]
 refine List.Perm.append_left _ ?_
 rw[<-List.append_assoc,<-List.append_assoc]
 exact List.Perm.append_right _ List.perm_append_comm
theorem PH.appB(h:PH a b out ia ib)(hk:k<=ib):PH a b (out++(b.extract k ib).reverse) ia k:=by
 refine⟨h.la,Nat.le_trans hk h.lb,?_⟩
 have:=h.pm
 rw[<-List.take_append_drop k (b.toList.take ib),List.take_take,Nat.min_eq_left hk]at this
 rw[Array.toList_append,Array.toList_reverse,Ym hk,List.reverse_append,List.reverse_reverse]
 simpa only[List.append_assoc]using this
end
end Mine.Internal
namespace Mine.Internal
open PySem PySem.W PyProof PyProof.Rows
section
variable {prog:Program} {w:World} {A:Around} {E:Value->Shared->Prop} {s:Shared} {κ:SortKind} {a₀ a b out:Array Keyed} {ia ib mg ac bc n:Nat} {st:SortSt}
structure Mo(a b:Array Keyed)(n:Nat)(o:Array Keyed)(x y:Nat):Prop where
 pm:PM a b o x y
 l1:x+1<a.size
 l2:y<b.size
 sz:n<=o.size
theorem Mo.more{n':Nat}(J:Mo a b n out ia ib)(h:n'<=n):Mo a b n' out ia ib:=⟨J.pm,J.l1,J.l2,Nat.le_trans h J.sz⟩
noncomputable abbrev R9(a b r:Array Keyed):Prop:=r.toList.Perm (a.toList++b.toList)
noncomputable def LoR(a b:Array Keyed)(n:Nat)(c:Option (Array Keyed))(o:Array Keyed)(x y:Nat):Prop:=(c=none/\Mo a b n o x y)\/∃r,c=some r/\R9 a b r
theorem Ej{x y:Nat}(h:¬(x==y)=true):x≠y:=fun e=>h (beq_iff_eq.mpr e)
theorem szp{x:Keyed}(h:n<=out.size):n+1<=(out.push x).size:=by rw[Array.size_push];exact Nat.succ_le_succ h
theorem sza{x:Array Keyed}(h:n<=out.size):n<=(out++x).size:=by rw[Array.size_append];exact Nat.le_trans h (Nat.le_add_right _ _)
theorem Mo.pushB{x:Keyed}(J:Mo a b n out ia ib)(e:b[ib]? = some x)(q:¬(ib+1==b.size)=true):Mo a b (n+1) (out.push x) ia (ib+1):=⟨J.pm.pushB e,J.l1,Nat.lt_of_le_of_ne J.l2 (Ej q),szp J.sz⟩
theorem Mo.pushA{x:Keyed}(J:Mo a b n out ia ib)(e:a[ia]? = some x)(q:¬(ia+1+1==a.size)=true):Mo a b (n+1) (out.push x) (ia+1) ib:=⟨J.pm.pushA e,Nat.lt_of_le_of_ne J.l1 (Ej q),J.l2,szp J.sz⟩
theorem Ab7(hc:Jl prog w A s κ a₀)(ha:∀p∈a.toList,p∈a₀.toList)(hb:∀p∈b.toList,p∈a₀.toList)(hk:kindOf st=κ){c:Option (Array Keyed)×Array Keyed×Nat×Nat×Nat×Nat}(J:Mo a b n c.2.1 c.2.2.1 c.2.2.2.1)
 {Q:ForInStep (Option (Array Keyed)×Array Keyed×Nat×Nat×Nat×Nat)->SortSt->Prop} (hd:∀r d,R9 a b r->Q (.done (some r,d)) st)
 (hn:∀d:Array Keyed×Nat×Nat×Nat×Nat,Mo a b (n+1) d.1 d.2.1 d.2.2.1->Q (.done (none,d)) st/\Q (.yield (none,d)) st) :
 Rows.wpS (model prog w) A E s (lo1 a b mg c) Q st:=by
 unfold lo1
 refine wpS_bind (A7 J.l2 fun x hx _=>wpS_bind (A7 (Nat.lt_of_succ_lt J.l1) fun y hy _=>wpS_bind (E1 hc (hb x hx) (ha y hy) hk fun t=>?_)))
 cases t with
 | true=>
   refine wpS_bind (A7 J.l2 fun x hx ex=>?_)
   split
   ·exact wpS_pure (hd _ _ (J.pm.pushB ex).done)
   ·rename_i q
    split
    ·exact wpS_pure (hn _ (J.pushB ex q)).1
    ·exact wpS_pure (hn _ (J.pushB ex q)).2
 | false=>
   refine wpS_bind (A7 (Nat.lt_of_succ_lt J.l1) fun x hx ex=>?_)
   split
   ·exact wpS_pure (hd _ _ (J.pm.pushA ex).last)
   ·rename_i q
    split
    ·exact wpS_pure (hn _ (J.pushA ex q)).1
    ·exact wpS_pure (hn _ (J.pushA ex q)).2
structure LoQ(a b:Array Keyed)(n:Nat)(st:SortSt)(Q:ForInStep (Option (Array Keyed)×Array Keyed×Nat×Nat×Nat×Nat×Nat)->SortSt->Prop):Prop where
 hd:∀r d,R9 a b r->Q (.done (some r,d)) st
 hn:∀d:Array Keyed×Nat×Nat×Nat×Nat×Nat,Mo a b n d.1 d.2.1 d.2.2.1->Q (.done (none,d)) st/\Q (.yield (none,d)) st
theorem Vg(J:Mo a b n out ia ib){Q:ForInStep (Option (Array Keyed)×Array Keyed×Nat×Nat×Nat×Nat×Nat)->SortSt->Prop}(h:LoQ a b n st Q):Rows.wpS (model prog w) A E s (lo5 a b out ia ib mg ac bc) Q st:=by
 unfold lo5
 refine wpS_bind (A7 (Nat.lt_of_succ_lt J.l1) fun x hx ex=>?_)
 split
 ·exact wpS_pure (h.hd _ _ (J.pm.pushA ex).last)
 ·rename_i q
  have J':=(J.pushA ex q).more (Nat.le_succ n)
  split
  ·exact wpS_pure (h.hn _ J').1
  ·exact wpS_pure (h.hn _ J').2
theorem Vh(hc:Jl prog w A s κ a₀)(ha:∀p∈a.toList,p∈a₀.toList)(hb:∀p∈b.toList,p∈a₀.toList)(hk:kindOf st=κ)(J:Mo a b n out ia ib)
 {Q:ForInStep (Option (Array Keyed)×Array Keyed×Nat×Nat×Nat×Nat×Nat)->SortSt->Prop} (h:LoQ a b n st Q):Rows.wpS (model prog w) A E s (lo4 a b out ia ib mg ac bc) Q st:=by
 unfold lo4
 refine wpS_bind (A7 J.l2 fun x hx ex=>?_)
 split
 ·exact wpS_pure (h.hd _ _ (J.pm.pushB ex).done)
 ·rename_i q
  have J':=(J.pushB ex q).more (Nat.le_succ n)
  have hz:=J'.l2
  refine wpS_bind (A7 (Nat.lt_of_succ_lt J.l1) fun y hy ey=>wpS_bind (D4 hc (ha y hy) hb hk (Nat.le_of_eq (Nat.add_sub_of_le (Nat.le_of_lt hz))) (Nat.sub_pos_of_lt hz) fun k hkk=>?_))
  show Rows.wpS _ _ _ _ (if k>0 then _ else _) _ _
  split
  ·have P2:=J'.pm.appB (Nat.add_le_of_le_sub' (Nat.le_of_lt hz) hkk)
   split
   ·exact wpS_pure (h.hd _ _ P2.done)
   ·rename_i q2
    exact Vg ⟨P2,J.l1,Nat.lt_of_le_of_ne P2.lb (Ej q2),sza J'.sz⟩ h
  ·exact Vg J' h
theorem Vi(hc:Jl prog w A s κ a₀)(ha:∀p∈a.toList,p∈a₀.toList)(hb:∀p∈b.toList,p∈a₀.toList)(hk:kindOf st=κ)(J:Mo a b n out ia ib)
 {Q:ForInStep (Option (Array Keyed)×Array Keyed×Nat×Nat×Nat×Nat×Nat)->SortSt->Prop} (h:LoQ a b n (Bw st mg) Q):Rows.wpS (model prog w) A E s (lo3 a b out ia ib mg ac bc) Q st:=by
 unfold lo3
 have hz:=Nat.lt_of_succ_lt J.l1
 refine wpS_bind (wpS_modify (wpS_bind (A7 J.l2 fun y hy ey=>wpS_bind (D4 (st:=Bw st mg) hc (hb y hy) ha hk (Nat.le_of_eq (Nat.add_sub_of_le (Nat.le_of_lt hz))) (Nat.sub_pos_of_lt hz) fun k hkk=>?_))))
 show Rows.wpS _ _ _ _ (if k>0 then _ else _) _ _
 split
 ·have P2:=J.pm.appA (Nat.add_le_of_le_sub' (Nat.le_of_lt hz) hkk)
  split
  ·exact wpS_pure (h.hd _ _ P2.last)
  ·rename_i q1
   split
   ·exact wpS_pure (h.hd _ _ P2.done)
   ·rename_i q2
    exact Vh (st:=Bw st mg) hc ha hb hk ⟨P2,Nat.lt_of_le_of_ne (Nat.lt_of_le_of_ne P2.la (Ej q2)) (Ej q1),J.l2,sza J.sz⟩ h
 ·exact Vh (st:=Bw st mg) hc ha hb hk J h
theorem Ab8(hc:Jl prog w A s κ a₀)(ha:∀p∈a.toList,p∈a₀.toList)(hb:∀p∈b.toList,p∈a₀.toList)(hk:kindOf st=κ){c:Option (Array Keyed)×Array Keyed×Nat×Nat×Nat×Nat×Nat}(J:Mo a b n c.2.1 c.2.2.1 c.2.2.2.1)
 {Q:ForInStep (Option (Array Keyed)×Array Keyed×Nat×Nat×Nat×Nat×Nat)->SortSt->Prop} (h:∀g,LoQ a b n (Bw st g) Q):Rows.wpS (model prog w) A E s (lo2 a b c) Q st:=by
 unfold lo2
 split
 ·exact Vi hc ha hb hk J (h _)
 ·exact Vi hc ha hb hk J (h _)
theorem Ab9(hc:Jl prog w A s κ a₀)(ha:∀p∈a.toList,p∈a₀.toList)(hb:∀p∈b.toList,p∈a₀.toList)(hk:kindOf st=κ)(J:Mo a b n out ia ib)
 {Q:Option (Array Keyed)×Array Keyed×Nat×Nat×Nat×Nat->SortSt->Prop} (h:∀c:Option (Array Keyed)×Array Keyed×Nat×Nat×Nat×Nat,LoR a b (n+1) c.1 c.2.1 c.2.2.1 c.2.2.2.1->Q c st) :
 Rows.wpS (model prog w) A E s (forIn [0:a.size+b.size] ((none,out,ia,ib,0,0):Option (Array Keyed)×Array Keyed×Nat×Nat×Nat×Nat) fun _ d=>lo1 a b mg d) Q st:=by
 refine wpS_forRange (I:=fun i c st'=>st'=st/\c.1=none/\Mo a b (n+i) c.2.1 c.2.2.1 c.2.2.2.1) ?_ ?_ ⟨rfl,rfl,J⟩
 ·rintro i c st' _ _ ⟨rfl,_,J'⟩
  exact Ab7 hc ha hb hk J' (fun r d p=>h (some r,d) (.inr ⟨r,rfl,p⟩)) fun d J2=>⟨h (none,d) (.inl ⟨rfl,J2.more (Nat.succ_le_succ (Nat.le_add_right _ _))⟩),rfl,rfl,J2⟩
 ·rintro c st' ⟨rfl,h1,J'⟩
  exact h c (.inl ⟨h1,J'.more (Nat.add_le_add_left (by rw[Nat.max_eq_right (Nat.zero_le _)];exact Nat.le_trans (Nat.lt_of_le_of_lt (Nat.zero_le _) J.l1) (Nat.le_add_right _ _)) n)⟩)
theorem Aca(hc:Jl prog w A s κ a₀)(ha:∀p∈a.toList,p∈a₀.toList)(hb:∀p∈b.toList,p∈a₀.toList)(hk:kindOf st=κ)(J:Mo a b n out ia ib)
 {Q:Option (Array Keyed)×Array Keyed×Nat×Nat×Nat×Nat×Nat->SortSt->Prop} (h:∀(c:Option (Array Keyed)×Array Keyed×Nat×Nat×Nat×Nat×Nat) g,LoR a b n c.1 c.2.1 c.2.2.1 c.2.2.2.1->Q c (Bw st g)) :
 Rows.wpS (model prog w) A E s (forIn [0:a.size+b.size] ((none,out,ia,ib,mg,ac,bc):Option (Array Keyed)×Array Keyed×Nat×Nat×Nat×Nat×Nat) fun _ d=>lo2 a b d) Q st:=by
 refine wpS_forRange (I:=fun _ c st'=>∃g,st'=Bw st g/\c.1=none/\Mo a b n c.2.1 c.2.2.1 c.2.2.2.1) ?_ ?_ ⟨gallopOf st,rfl,rfl,J⟩
 ·rintro i c st' _ _ ⟨g,rfl,_,J'⟩
  exact Ab8 (st:=Bw st g) hc ha hb hk J' fun g'=>⟨fun r d p=>h (some r,d) g' (.inr ⟨r,rfl,p⟩),fun d J2=>⟨h (none,d) g' (.inl ⟨rfl,J2⟩),g',rfl,rfl,J2⟩⟩
 ·rintro c st' ⟨g,rfl,h1,J'⟩
  exact h c g (.inl ⟨h1,J'⟩)
theorem Acb(hc:Jl prog w A s κ a₀)(ha:∀p∈a.toList,p∈a₀.toList)(hb:∀p∈b.toList,p∈a₀.toList)(hk:kindOf st=κ){c:Option (Array Keyed)×Array Keyed×Nat×Nat×Nat}(J:Mo a b n c.2.1 c.2.2.1 c.2.2.2.1)
 {Q:ForInStep (Option (Array Keyed)×Array Keyed×Nat×Nat×Nat)->SortSt->Prop} (hd:∀r d g,R9 a b r->Q (.done (some r,d)) (Bw st g))
 (hn:∀(d:Array Keyed×Nat×Nat×Nat) g,Mo a b (n+1) d.1 d.2.1 d.2.2.1->Q (.yield (none,d)) (Bw st g)) :
 Rows.wpS (model prog w) A E s (lo0 a b c) Q st:=by
 unfold lo0
 refine wpS_bind (Ab9 hc ha hb hk J fun d h=>?_)
 rcases h with⟨h1,J'⟩ | ⟨r,h1,p⟩
 ·rw[h1]
  refine wpS_bind (wpS_lift (wpAny_rule ⟨rfl,wpS_bind (Aca hc ha hb hk J' fun e g h=>?_)⟩))
  rcases h with⟨h2,J2⟩ | ⟨r,h2,p⟩
  ·rw[h2]
   exact wpS_bind (wpS_modify (wpS_pure (hn _ _ J2)))
  ·rw[h2]
   exact wpS_pure (hd r _ g p)
 ·rw[h1]
  exact wpS_pure (hd r _ (gallopOf st) p)
theorem Sa(hc:Jl prog w A s κ a₀)(ha:∀p∈a.toList,p∈a₀.toList)(hb:∀p∈b.toList,p∈a₀.toList)(hk:kindOf st=κ)(ha1:1<=a.size)(hb1:1<=b.size)
 {Q:Array Keyed->SortSt->Prop} (h:∀r g,r.toList.Perm (a.toList++b.toList)->Q r (Bw st g)):Rows.wpS (model prog w) A E s (Nk a b) Q st:=by
 rw[R0]
 refine wpS_bind (wpS_lift (wpAny_rule ⟨rfl,wpS_bind (A7 hb1 fun x hx ex=>?_)⟩))
 have P:PM a b #[x] 0 1:=PM.pushB (out:= #[]) ⟨Nat.zero_le _,Nat.zero_le _,.refl _⟩ ex
 split
 ·exact wpS_pure (h _ (gallopOf st) P.done)
 ·rename_i q1
  split
  ·exact wpS_pure (h _ (gallopOf st) P.last)
  ·rename_i q2
   refine wpS_bind (wpS_get (wpS_bind (wpS_forRange (I:=fun i c st'=>∃g,st'=Bw st g/\c.1=none/\Mo a b (1+i) c.2.1 c.2.2.1 c.2.2.2.1) ?_ ?_ ⟨gallopOf st,rfl,rfl,P,Nat.lt_of_le_of_ne ha1 (Ej q2),Nat.lt_of_le_of_ne hb1 (Ej q1),Nat.le_refl _⟩)))
   ·rintro i c st' _ _ ⟨g,rfl,_,J⟩
    exact Acb (st:=Bw st g) hc ha hb hk J (fun r d g' p=>wpS_pure (h r g' p)) fun d g' J'=>⟨g',rfl,rfl,J'⟩
   ·rintro c st' ⟨g,_,_,J⟩
    have h1:=J.pm.size
    have h2:=J.l1
    have h3:=J.l2
    have h4:=J.sz
    omega
end
end Mine.Internal
namespace Mine.Internal
open PySem PySem.W PyProof PyProof.Rows
section
variable {prog:Program} {w:World} {A:Around} {E:Value->Shared->Prop} {s:Shared} {κ:SortKind} {a₀ a b out:Array Keyed} {x y mg ac bc n:Nat} {st:SortSt}
structure I8(a b:Array Keyed)(n x y:Nat)(o:Array Keyed):Prop where
 pm:PH a b o x y
 l1:1<=x
 l2:2<=y
 sz:n<=o.size
theorem I8.more{n':Nat}(J:I8 a b n x y out)(h:n'<=n):I8 a b n' x y out:=⟨J.pm,J.l1,J.l2,Nat.le_trans h J.sz⟩
theorem I8.la(J:I8 a b n x y out):x-1<a.size:=Nat.lt_of_lt_of_le (Nat.sub_lt J.l1 Nat.one_pos) J.pm.la
theorem I8.lb(J:I8 a b n x y out):y-1<b.size:=Nat.lt_of_lt_of_le (Nat.sub_lt (Nat.lt_of_succ_lt J.l2) Nat.one_pos) J.pm.lb
noncomputable def HiR(a b:Array Keyed)(n:Nat)(c:Option (Array Keyed))(x y:Nat)(o:Array Keyed):Prop:=(c=none/\I8 a b n x y o)\/∃r,c=some r/\R9 a b r
theorem I8.pA{z:Keyed}(J:I8 a b n x y out)(e:a[x-1]? = some z):PH a b (out.push z) (x-1) y:=PH.pushA (by rw[Nat.sub_add_cancel J.l1];exact J.pm) e
theorem I8.pB{z:Keyed}(J:I8 a b n x y out)(e:b[y-1]? = some z):PH a b (out.push z) x (y-1):=PH.pushB (by rw[Nat.sub_add_cancel (Nat.le_of_succ_le J.l2)];exact J.pm) e
theorem I8.pushA{z:Keyed}(J:I8 a b n x y out)(e:a[x-1]? = some z)(q:¬(x-1==0)=true):I8 a b (n+1) (x-1) y (out.push z):=⟨J.pA e,Nat.pos_of_ne_zero (Ej q),J.l2,szp J.sz⟩
theorem I8.pushB{z:Keyed}(J:I8 a b n x y out)(e:b[y-1]? = some z)(q:¬(y-1==1)=true):I8 a b (n+1) x (y-1) (out.push z):=⟨J.pB e,J.l1,Nat.lt_of_le_of_ne (Nat.le_sub_one_of_lt J.l2) (Ne.symm (Ej q)),szp J.sz⟩
theorem Acc(hc:Jl prog w A s κ a₀)(ha:∀p∈a.toList,p∈a₀.toList)(hb:∀p∈b.toList,p∈a₀.toList)(hk:kindOf st=κ){c:Option (Array Keyed)×Nat×Nat×Array Keyed×Nat×Nat}(J:I8 a b n c.2.1 c.2.2.1 c.2.2.2.1)
 {Q:ForInStep (Option (Array Keyed)×Nat×Nat×Array Keyed×Nat×Nat)->SortSt->Prop} (hd:∀r d,R9 a b r->Q (.done (some r,d)) st)
 (hn:∀d:Nat×Nat×Array Keyed×Nat×Nat,I8 a b (n+1) d.1 d.2.1 d.2.2.1->Q (.done (none,d)) st/\Q (.yield (none,d)) st) :
 Rows.wpS (model prog w) A E s (hi1 a b mg c) Q st:=by
 unfold hi1
 refine wpS_bind (A7 J.lb fun x hx _=>wpS_bind (A7 J.la fun y hy _=>wpS_bind (E1 hc (hb x hx) (ha y hy) hk fun t=>?_)))
 cases t with
 | true=>
   refine wpS_bind (A7 J.la fun x hx ex=>?_)
   split
   ·exact wpS_pure (hd _ _ (J.pA ex).done)
   ·rename_i q
    split
    ·exact wpS_pure (hn _ (J.pushA ex q)).1
    ·exact wpS_pure (hn _ (J.pushA ex q)).2
 | false=>
   refine wpS_bind (A7 J.lb fun x hx ex=>?_)
   split
   ·exact wpS_pure (hd _ _ (J.pB ex).first)
   ·rename_i q
    split
    ·exact wpS_pure (hn _ (J.pushB ex q)).1
    ·exact wpS_pure (hn _ (J.pushB ex q)).2
structure HiQ(a b:Array Keyed)(n:Nat)(st:SortSt)(Q:ForInStep (Option (Array Keyed)×Nat×Nat×Array Keyed×Nat×Nat×Nat)->SortSt->Prop):Prop where
 hd:∀r d,R9 a b r->Q (.done (some r,d)) st
 hn:∀d:Nat×Nat×Array Keyed×Nat×Nat×Nat,I8 a b n d.1 d.2.1 d.2.2.1->Q (.done (none,d)) st/\Q (.yield (none,d)) st
theorem Vj(J:I8 a b n x y out){Q:ForInStep (Option (Array Keyed)×Nat×Nat×Array Keyed×Nat×Nat×Nat)->SortSt->Prop}(h:HiQ a b n st Q):Rows.wpS (model prog w) A E s (hi5 a b out x y mg ac bc) Q st:=by
 unfold hi5
 refine wpS_bind (A7 J.la fun x hx ex=>?_)
 split
 ·exact wpS_pure (h.hd _ _ (J.pA ex).done)
 ·rename_i q
  have J':=(J.pushA ex q).more (Nat.le_succ n)
  split
  ·exact wpS_pure (h.hn _ J').1
  ·exact wpS_pure (h.hn _ J').2
theorem Vk(hc:Jl prog w A s κ a₀)(ha:∀p∈a.toList,p∈a₀.toList)(hb:∀p∈b.toList,p∈a₀.toList)(hk:kindOf st=κ)(J:I8 a b n x y out)
 {Q:ForInStep (Option (Array Keyed)×Nat×Nat×Array Keyed×Nat×Nat×Nat)->SortSt->Prop} (h:HiQ a b n st Q):Rows.wpS (model prog w) A E s (hi4 a b out x y mg ac bc) Q st:=by
 unfold hi4
 refine wpS_bind (A7 J.lb fun z hx ex=>?_)
 split
 ·exact wpS_pure (h.hd _ _ (J.pB ex).first)
 ·rename_i q
  have J':=(J.pushB ex q).more (Nat.le_succ n)
  refine wpS_bind (A7 J.la fun u hy ey=>wpS_bind (D4 (base:=0) hc (ha u hy) hb hk (by rw[Nat.zero_add];exact J'.pm.lb) (Nat.sub_lt (Nat.lt_of_succ_lt J'.l2) Nat.one_pos) fun k hkk=>?_))
  show Rows.wpS _ _ _ _ (if y-1-k>0 then _ else _) _ _
  split
  ·have P2:=J'.pm.appB hkk
   split
   ·exact wpS_pure (h.hd _ _ P2.first)
   ·rename_i q2
    split
    ·exact wpS_pure (h.hd _ _ P2.done)
    ·rename_i q3
     exact Vj ⟨P2,J.l1,Nat.lt_of_le_of_ne (Nat.pos_of_ne_zero (Ej q3)) (Ne.symm (Ej q2)),sza J'.sz⟩ h
  ·exact Vj J' h
theorem Vl(hc:Jl prog w A s κ a₀)(ha:∀p∈a.toList,p∈a₀.toList)(hb:∀p∈b.toList,p∈a₀.toList)(hk:kindOf st=κ)(J:I8 a b n x y out)
 {Q:ForInStep (Option (Array Keyed)×Nat×Nat×Array Keyed×Nat×Nat×Nat)->SortSt->Prop} (h:HiQ a b n (Bw st mg) Q):Rows.wpS (model prog w) A E s (hi3 a b out x y mg ac bc) Q st:=by
 unfold hi3
 refine wpS_bind (wpS_modify (wpS_bind (A7 J.lb fun u hy ey=>wpS_bind (D4 (st:=Bw st mg) (base:=0) hc (hb u hy) ha hk (by rw[Nat.zero_add];exact J.pm.la) (Nat.sub_lt J.l1 Nat.one_pos) fun k hkk=>?_))))
 show Rows.wpS _ _ _ _ (if x-k>0 then _ else _) _ _
 split
 ·have P2:=J.pm.appA hkk
  split
  ·exact wpS_pure (h.hd _ _ P2.done)
  ·rename_i q1
   exact Vk (st:=Bw st mg) hc ha hb hk ⟨P2,Nat.pos_of_ne_zero (Ej q1),J.l2,sza J.sz⟩ h
 ·exact Vk (st:=Bw st mg) hc ha hb hk J h
theorem Acd(hc:Jl prog w A s κ a₀)(ha:∀p∈a.toList,p∈a₀.toList)(hb:∀p∈b.toList,p∈a₀.toList)(hk:kindOf st=κ){c:Option (Array Keyed)×Nat×Nat×Array Keyed×Nat×Nat×Nat}(J:I8 a b n c.2.1 c.2.2.1 c.2.2.2.1)
 {Q:ForInStep (Option (Array Keyed)×Nat×Nat×Array Keyed×Nat×Nat×Nat)->SortSt->Prop} (h:∀g,HiQ a b n (Bw st g) Q):Rows.wpS (model prog w) A E s (hi2 a b c) Q st:=by
 unfold hi2
 split
 ·exact Vl hc ha hb hk J (h _)
 ·exact Vl hc ha hb hk J (h _)
theorem Ace(hc:Jl prog w A s κ a₀)(ha:∀p∈a.toList,p∈a₀.toList)(hb:∀p∈b.toList,p∈a₀.toList)(hk:kindOf st=κ)(J:I8 a b n x y out)
 {Q:Option (Array Keyed)×Nat×Nat×Array Keyed×Nat×Nat->SortSt->Prop} (h:∀c:Option (Array Keyed)×Nat×Nat×Array Keyed×Nat×Nat,HiR a b (n+1) c.1 c.2.1 c.2.2.1 c.2.2.2.1->Q c st) :
 Rows.wpS (model prog w) A E s (forIn [0:a.size+b.size] ((none,x,y,out,0,0):Option (Array Keyed)×Nat×Nat×Array Keyed×Nat×Nat) fun _ d=>hi1 a b mg d) Q st:=by
 refine wpS_forRange (I:=fun i c st'=>st'=st/\c.1=none/\I8 a b (n+i) c.2.1 c.2.2.1 c.2.2.2.1) ?_ ?_ ⟨rfl,rfl,J⟩
 ·rintro i c st' _ _ ⟨rfl,_,J'⟩
  exact Acc hc ha hb hk J' (fun r d p=>h (some r,d) (.inr ⟨r,rfl,p⟩)) fun d J2=>⟨h (none,d) (.inl ⟨rfl,J2.more (Nat.succ_le_succ (Nat.le_add_right _ _))⟩),rfl,rfl,J2⟩
 ·rintro c st' ⟨rfl,h1,J'⟩
  exact h c (.inl ⟨h1,J'.more (Nat.add_le_add_left (by rw[Nat.max_eq_right (Nat.zero_le _)];exact Nat.le_trans (Nat.le_trans J.l1 J.pm.la) (Nat.le_add_right _ _)) n)⟩)
theorem Acf(hc:Jl prog w A s κ a₀)(ha:∀p∈a.toList,p∈a₀.toList)(hb:∀p∈b.toList,p∈a₀.toList)(hk:kindOf st=κ)(J:I8 a b n x y out)
 {Q:Option (Array Keyed)×Nat×Nat×Array Keyed×Nat×Nat×Nat->SortSt->Prop} (h:∀(c:Option (Array Keyed)×Nat×Nat×Array Keyed×Nat×Nat×Nat) g,HiR a b n c.1 c.2.1 c.2.2.1 c.2.2.2.1->Q c (Bw st g)) :
 Rows.wpS (model prog w) A E s (forIn [0:a.size+b.size] ((none,x,y,out,mg,ac,bc):Option (Array Keyed)×Nat×Nat×Array Keyed×Nat×Nat×Nat) fun _ d=>hi2 a b d) Q st:=by
 refine wpS_forRange (I:=fun _ c st'=>∃g,st'=Bw st g/\c.1=none/\I8 a b n c.2.1 c.2.2.1 c.2.2.2.1) ?_ ?_ ⟨gallopOf st,rfl,rfl,J⟩
 ·rintro i c st' _ _ ⟨g,rfl,_,J'⟩
  exact Acd (st:=Bw st g) hc ha hb hk J' fun g'=>⟨fun r d p=>h (some r,d) g' (.inr ⟨r,rfl,p⟩),fun d J2=>⟨h (none,d) g' (.inl ⟨rfl,J2⟩),g',rfl,rfl,J2⟩⟩
 ·rintro c st' ⟨g,rfl,h1,J'⟩
  exact h c g (.inl ⟨h1,J'⟩)
theorem Acg(hc:Jl prog w A s κ a₀)(ha:∀p∈a.toList,p∈a₀.toList)(hb:∀p∈b.toList,p∈a₀.toList)(hk:kindOf st=κ){c:Option (Array Keyed)×Nat×Nat×Array Keyed×Nat}(J:I8 a b n c.2.1 c.2.2.1 c.2.2.2.1)
 {Q:ForInStep (Option (Array Keyed)×Nat×Nat×Array Keyed×Nat)->SortSt->Prop} (hd:∀r d g,R9 a b r->Q (.done (some r,d)) (Bw st g))
 (hn:∀(d:Nat×Nat×Array Keyed×Nat) g,I8 a b (n+1) d.1 d.2.1 d.2.2.1->Q (.yield (none,d)) (Bw st g)) :
 Rows.wpS (model prog w) A E s (hi0 a b c) Q st:=by
 unfold hi0
 refine wpS_bind (Ace hc ha hb hk J fun d h=>?_)
 rcases h with⟨h1,J'⟩ | ⟨r,h1,p⟩
 ·rw[h1]
  refine wpS_bind (wpS_lift (wpAny_rule ⟨rfl,wpS_bind (Acf hc ha hb hk J' fun e g h=>?_)⟩))
  rcases h with⟨h2,J2⟩ | ⟨r,h2,p⟩
  ·rw[h2]
   exact wpS_bind (wpS_modify (wpS_pure (hn _ _ J2)))
  ·rw[h2]
   exact wpS_pure (hd r _ g p)
 ·rw[h1]
  exact wpS_pure (hd r _ (gallopOf st) p)
theorem Sb(hc:Jl prog w A s κ a₀)(ha:∀p∈a.toList,p∈a₀.toList)(hb:∀p∈b.toList,p∈a₀.toList)(hk:kindOf st=κ)(ha1:1<=a.size)(hb1:1<=b.size)
 {Q:Array Keyed->SortSt->Prop} (h:∀r g,r.toList.Perm (a.toList++b.toList)->Q r (Bw st g)):Rows.wpS (model prog w) A E s (Nl a b) Q st:=by
 rw[R7]
 refine wpS_bind (wpS_lift (wpAny_rule ⟨rfl,wpS_bind (A7 (Nat.sub_lt ha1 Nat.one_pos) fun x hx ex=>?_)⟩))
 have P0:PH a b #[] (a.size-1+1) b.size:=⟨by rw[Nat.sub_add_cancel ha1];exact Nat.le_refl _,Nat.le_refl _,by
  rw[Nat.sub_add_cancel ha1,List.take_of_length_le (Nat.le_of_eq Array.length_toList),List.take_of_length_le (Nat.le_of_eq Array.length_toList)]
  show (a.toList++b.toList ++ []).Perm _
  rw[List.append_nil]⟩
 have P:PH a b #[x] (a.size-1) b.size:=P0.pushA ex
 split
 ·exact wpS_pure (h _ (gallopOf st) P.done)
 ·rename_i q1
  split
  ·exact wpS_pure (h _ (gallopOf st) P.first)
  ·rename_i q2
   refine wpS_bind (wpS_get (wpS_bind (wpS_forRange (I:=fun i c st'=>∃g,st'=Bw st g/\c.1=none/\I8 a b (1+i) c.2.1 c.2.2.1 c.2.2.2.1) ?_ ?_ ⟨gallopOf st,rfl,rfl,P,Nat.pos_of_ne_zero (Ej q1),Nat.lt_of_le_of_ne hb1 (Ne.symm (Ej q2)),Nat.le_refl _⟩)))
   ·rintro i c st' _ _ ⟨g,rfl,_,J⟩
    exact Acg (st:=Bw st g) hc ha hb hk J (fun r d g' p=>wpS_pure (h r g' p)) fun d g' J'=>⟨g',rfl,rfl,J'⟩
   ·rintro c st' ⟨g,_,_,J⟩
    have h1:=J.pm.size
    have h2:=J.l1
    have h3:=J.l2
    have h4:=J.sz
    omega
end
end Mine.Internal
namespace Mine.Internal
open PySem PySem.W PyProof PyProof.Rows
section
theorem Ach{M:Model}{A:Around}{E:Value->Shared->Prop}{s:Shared}{σ:Type}{x:σ}{Q:PUnit->σ->Prop}{st:σ}(h:Q ⟨⟩ x):Rows.wpS M A E s (set x:StateT σ Sem PUnit) Q st:=by
 unfold Rows.wpS;rw[StateT.run_set];exact wpAny_pure ⟨rfl,h⟩
theorem Aeq:∀(m:List Keyed) (k sa:Nat) (arr:Array Keyed),sa+k+m.length<=arr.size->
 ((m.zipIdx k).foldl (fun a (p,j)=>a.setIfInBounds (sa+j) p) arr).toList=arr.toList.take (sa+k)++m++arr.toList.drop (sa+k+m.length):=by
 intro m
 induction m with
 | nil=>intro k sa arr h;simp
 | cons x m ih=>
   intro k sa arr h
   rw[List.length_cons]at h
   rw[List.zipIdx_cons,List.foldl_cons]
   dsimp only
   rw[ih (k+1) sa (arr.setIfInBounds (sa+k) x) (by rw[Array.size_setIfInBounds];omega)]
   rw[Array.toList_setIfInBounds,<-Nat.add_assoc,List.length_cons,List.take_add_one,List.take_set,List.drop_set]
   have hl:sa+k<arr.toList.length:=by rw[Array.length_toList];omega
   rw[if_pos (by omega),List.getElem?_set_self hl,List.set_eq_of_length_le (by rw[List.length_take];omega),show sa+k+1+m.length=sa+k+(m.length+1) by omega]
   simp
theorem Sc{m:List Keyed}{sa:Nat}{arr:Array Keyed}(h:sa+m.length<=arr.size)(hp:m.Perm ((arr.toList.drop sa).take m.length)) :
 (m.zipIdx.foldl (fun a (p,j)=>a.setIfInBounds (sa+j) p) arr).Perm arr:=by
 refine Array.perm_iff_toList_perm.mpr ?_
 have e:=Aeq m 0 sa arr (by omega)
 rw[Nat.add_zero]at e
 rw[e]
 have e2:arr.toList=arr.toList.take sa++((arr.toList.drop sa).take m.length++arr.toList.drop (sa+m.length)):=by
  rw[<-List.drop_drop,List.take_append_drop,List.take_append_drop]
 conv=>rhs;rw[e2]
 rw[List.append_assoc]
 exact List.Perm.append_left _ (List.Perm.append_right _ hp)
variable {prog:Program} {w:World} {A:Around} {E:Value->Shared->Prop} {s:Shared} {κ:SortKind} {a₀:Array Keyed} {st:SortSt}
noncomputable abbrev Yn(st:SortSt)(i sa n pw:Nat):SortSt:=setPending st (((pendingOf st).setIfInBounds i (sa,n,pw)).eraseIdxIfInBounds (i+1))
theorem Sd(hc:Jl prog w A s κ a₀)(hk:kindOf st=κ)(hp:(arrOf st).Perm a₀)(hf:failedOf st=none){i sa na pw sb nb pw2:Nat}(e1:(pendingOf st)[i]? = some (sa,na,pw))(e2:(pendingOf st)[i+1]? = some (sb,nb,pw2))
 (hs:sb=sa+na) (h1:1<=na) (h2:1<=nb) (h3:sb+nb<=(arrOf st).size) {Q:Bool->SortSt->Prop}
 (h:∀arr g,arr.Perm a₀->Q true (SortSt.mk' κ arr (((pendingOf st).setIfInBounds i (sa,na+nb,pw)).eraseIdxIfInBounds (i+1)) g none)):Rows.wpS (model prog w) A E s (mergeAt' i) Q st:=by
 rw[R8]
 refine wpS_bind (wpS_get ?_)
 rw[e1,e2]
 dsimp only
 have hm:∀p∈(arrOf st).toList,p∈a₀.toList:=fun p q=>(Array.perm_iff_toList_perm.mp hp).mem_iff.mp q
 have hsb:sb<(arrOf st).size:=Nat.lt_of_lt_of_le (Nat.lt_add_of_pos_right h2) h3
 subst hk
 refine wpS_bind (Ach (wpS_bind (A7 hsb fun y hy ey=>wpS_bind (D4 (st:=Yn st i sa (na+nb) pw) (a₀:=a₀) (base:=sa) (n:=na) (hint:=0) hc (hm y hy) hm rfl (Nat.le_trans (Nat.le_of_eq hs.symm) (Nat.le_of_lt hsb)) h1 fun k hkk=>?_))))
 have ee:sa+k+(na-k)=sb:=by rw[Nat.add_assoc,Nat.add_sub_of_le hkk,hs]
 have same:Q true (Yn st i sa (na+nb) pw):=by
  have:=h (arrOf st) (gallopOf st) hp
  rw[<-hf]at this
  exact this
 show Rows.wpS _ _ _ _ (if (na-k==0)=true then _ else _) _ _
 split
 ·exact wpS_pure same
 ·rename_i q
  refine wpS_bind (A7 (Nat.lt_of_le_of_lt (Nat.sub_le _ 1) (Nat.lt_of_le_of_lt (Nat.le_of_eq ee) hsb)) fun z hz ez=>wpS_bind (D4 (st:=Yn st i sa (na+nb) pw) (a₀:=a₀) (base:=sb) (n:=nb) (hint:=nb-1) hc (hm z hz) hm rfl h3 (Nat.sub_lt h2 Nat.one_pos) fun j hj=>?_))
  show Rows.wpS _ _ _ _ (if (j==0)=true then _ else _) _ _
  split
  ·exact wpS_pure same
  ·rename_i q2
   have hx:∀(u v:Nat) (p:Keyed),p∈((arrOf st).extract u v).toList->p∈a₀.toList:=fun u v p q=>hm p (by
    rw[Array.toList_extract,List.extract_eq_take_drop]at q
    exact List.mem_of_mem_drop (List.mem_of_mem_take q))
   have hjl:sb+j<=(arrOf st).size:=Nat.le_trans (Nat.add_le_add_left hj _) h3
   have sx:((arrOf st).extract (sa+k) sb).size=na-k:=by rw[Array.size_extract,Nat.min_eq_left (Nat.le_of_lt hsb),hs,Nat.add_sub_add_left]
   have sy:((arrOf st).extract sb (sb+j)).size=j:=by rw[Array.size_extract,Nat.min_eq_left hjl,Nat.add_sub_cancel_left]
   have px:1<=((arrOf st).extract (sa+k) sb).size:=by rw[sx];exact Nat.pos_of_ne_zero (Ej q)
   have py:1<=((arrOf st).extract sb (sb+j)).size:=by rw[sy];exact Nat.pos_of_ne_zero (Ej q2)
   have fin:∀(r:Array Keyed) (g:Nat),r.toList.Perm (((arrOf st).extract (sa+k) sb).toList++((arrOf st).extract sb (sb+j)).toList)->Q (failedOf st).isNone (SortSt.mk' (kindOf st) (r.toList.zipIdx.foldl (fun a (p,j)=>a.setIfInBounds (sa+k+j) p) (arrOf st)) (((pendingOf st).setIfInBounds i (sa,na+nb,pw)).eraseIdxIfInBounds (i+1)) g (failedOf st)):=fun r g hr=>by
    rw[hf]
    refine h _ g ?_
    have hl:=hr.length_eq
    rw[List.length_append,Array.length_toList,Array.length_toList,Array.length_toList,sx,sy]at hl
    refine(Sc (by rw[Array.length_toList,hl,<-Nat.add_assoc,ee];exact hjl) ?_).trans hp
    refine hr.trans ?_
    have:((arrOf st).extract (sa+k) sb).toList++((arrOf st).extract sb (sb+j)).toList=(List.drop (sa+k) (arrOf st).toList).take r.toList.length:=by
     rw[Array.length_toList,hl,Vd,<-ee,Vd,List.take_add,List.drop_drop]
    rw[this]
   split
   ·exact wpS_bind (Sa (st:=Yn st i sa (na+nb) pw) (a₀:=a₀) hc (hx _ _) (hx _ _) rfl px py fun r g hr=>wpS_bind (wpS_modify (wpS_bind (wpS_get (wpS_pure (fin r g hr))))))
   ·exact wpS_bind (Sb (st:=Yn st i sa (na+nb) pw) (a₀:=a₀) hc (hx _ _) (hx _ _) rfl px py fun r g hr=>wpS_bind (wpS_modify (wpS_bind (wpS_get (wpS_pure (fin r g hr))))))
end
end Mine.Internal
namespace Mine.Internal
open PySem PySem.W PyProof PyProof.Rows
section
variable {prog:Program} {w:World} {A:Around} {E:Value->Shared->Prop} {s:Shared} {κ:SortKind} {a₀:Array Keyed} {st:SortSt}
theorem Dt(hc:Jl prog w A s κ a₀)(hk:kindOf st=κ)(hp:(arrOf st).Perm a₀){i j:Nat}(hi:i<a₀.size)(hj:j<a₀.size){Q:Option Bool->SortSt->Prop}(h:∀b,Q (some b) st) :
 Rows.wpS (model prog w) A E s (ltAt' i j) Q st:=by
 rw[ltAt'_eq]
 have hm:∀p∈(arrOf st).toList,p∈a₀.toList:=fun p q=>(Array.perm_iff_toList_perm.mp hp).mem_iff.mp q
 exact wpS_bind (wpS_get (wpS_bind (A7 (by rw[hp.size_eq];exact hi) fun x hx _=>wpS_bind (A7 (by rw[hp.size_eq];exact hj) fun y hy _=>E1 hc (hm x hx) (hm y hy) hk h))))
theorem Mp(hp:(arrOf st).Perm a₀){i j:Nat}{Q:Unit->SortSt->Prop}(h:∀arr,arr.Perm a₀->Q () (setArr st arr)):Rows.wpS (model prog w) A E s (reverseSlice' i j) Q st:=by
 rw[reverseSlice'_eq]
 exact wpS_modify (h _ ((mirror_perm _ _ _ _).trans hp))
noncomputable def crS(lo:Nat)(c:Option (Option Nat)×Nat):StateT SortSt Sem (ForInStep (Option (Option Nat)×Nat)):=do
 let x <-ltAt' (lo+c.2) (lo+c.2-1)
 match x with
 | some smaller=>if smaller then pure (.done (none,c.2))else pure (.yield (none,c.2+1))
 | _=>pure (.done (some none,c.2))
noncomputable def cr3(lo nrem n:Nat):StateT SortSt Sem (Option Nat):=do
 reverseSlice' lo (lo+n)
 let r <-forIn [n:nrem] ((none,n):Option (Option Nat)×Nat) fun _ c=>crS lo c
 Mf r.1 (fun x=>pure x) fun _=>pure (some r.2)
noncomputable def crD(lo:Nat)(c:Option (Option Nat)×Nat×Nat):StateT SortSt Sem (ForInStep (Option (Option Nat)×Nat×Nat)):=do
 let x <-ltAt' (lo+c.2.1) (lo+c.2.1-1)
 match x with
 | some smaller=>
   if smaller then
    if c.2.2>0 then do
     reverseSlice' (lo+c.2.1-(c.2.2+1)) (lo+c.2.1)
     pure (.yield (none,c.2.1+1,0))
    else pure (.yield (none,c.2.1+1,0))
   else do
    let y <-ltAt' (lo+c.2.1-1) (lo+c.2.1)
    match y with
    | some larger=>if larger then pure (.done (none,c.2.1,c.2.2))else pure (.yield (none,c.2.1+1,c.2.2+1))
    | _=>pure (.done (some none,c.2.1,c.2.2))
 | _=>pure (.done (some none,c.2.1,c.2.2))
noncomputable def cr2(lo nrem n:Nat):StateT SortSt Sem (Option Nat):=do
 rule "list.sort.descending-run"
 let r <-forIn [n+1:nrem] ((none,n+1,0):Option (Option Nat)×Nat×Nat) fun _ c=>crD lo c
 Mf r.1 (fun x=>pure x) fun _=>
  if r.2.2>0 then do
   reverseSlice' (lo+r.2.1-(r.2.2+1)) (lo+r.2.1)
   cr3 lo nrem r.2.1
  else cr3 lo nrem r.2.1
theorem Se(lo nrem:Nat):countRun' lo nrem=(do
 let r <-forIn [1:nrem] ((none,1):Option (Option Nat)×Nat) fun _ c=>crS lo c
 Mf r.1 (fun x=>pure x) fun _=>
  if (r.2==nrem)=true then pure (some r.2)
  else if r.2>1 then do
   let x <-ltAt' lo (lo+r.2-1)
   match x with
   | some rose=>if rose then pure (some r.2)else do
     reverseSlice' lo (lo+r.2)
     cr2 lo nrem r.2
   | _=>pure none
  else cr2 lo nrem r.2):=rfl
theorem Vm(hc:Jl prog w A s κ a₀)(hk:kindOf st=κ)(hp:(arrOf st).Perm a₀){lo nrem n:Nat}(h1:1<=n)(hn:n<=nrem)(h2:lo+nrem<=a₀.size){Q:Option (Option Nat)×Nat->SortSt->Prop}
 (h:∀k,n<=k->k<=nrem->Q (none,k) st):Rows.wpS (model prog w) A E s (forIn [n:nrem] ((none,n):Option (Option Nat)×Nat) fun _ c=>crS lo c) Q st:=by
 refine wpS_mono (wpS_forRange (I:=fun i c st'=>st'=st/\c=(none,i)) (Q:=fun c st'=>st'=st/\∃k,c=(none,k)/\n<=k/\k<=nrem) ?_ ?_ ⟨rfl,rfl⟩) ?_
 ·rintro i c st' h3 h4 ⟨rfl,rfl⟩
  unfold crS
  refine wpS_bind (Dt hc hk hp (by show lo+i<_;omega) (by show lo+i-1<_;omega) fun b=>?_)
  cases b with
  | true=>exact wpS_pure ⟨rfl,i,rfl,h3,Nat.le_of_lt h4⟩
  | false=>exact wpS_pure ⟨rfl,rfl⟩
 ·rintro c st' ⟨rfl,rfl⟩
  exact⟨rfl,_,rfl,by omega,by omega⟩
 ·rintro c st' ⟨rfl,k,rfl,q1,q2⟩
  exact h k q1 q2
theorem Vn(hc:Jl prog w A s κ a₀)(hk:kindOf st=κ)(hp:(arrOf st).Perm a₀){lo nrem n:Nat}(h1:1<=n)(hn:n<=nrem)(h2:lo+nrem<=a₀.size){Q:Option Nat->SortSt->Prop}
 (h:∀n arr,1<=n->n<=nrem->arr.Perm a₀->Q (some n) (setArr st arr)):Rows.wpS (model prog w) A E s (cr3 lo nrem n) Q st:=by
 unfold cr3
 refine wpS_bind (Mp hp fun arr ha=>wpS_bind (Vm (st:=setArr st arr) hc hk ha h1 hn h2 fun k q1 q2=>?_))
 exact wpS_pure (h k arr (by omega) q2 ha)
theorem Vo(hc:Jl prog w A s κ a₀)(hk:kindOf st=κ)(hp:(arrOf st).Perm a₀){lo nrem n:Nat}(h1:1<=n)(hn:n<nrem)(h2:lo+nrem<=a₀.size){Q:Option Nat->SortSt->Prop}
 (h:∀n arr,1<=n->n<=nrem->arr.Perm a₀->Q (some n) (setArr st arr)):Rows.wpS (model prog w) A E s (cr2 lo nrem n) Q st:=by
 unfold cr2
 refine wpS_bind (wpS_lift (wpAny_rule ⟨rfl,?_⟩))
 refine wpS_bind (wpS_mono (wpS_forRange (I:=fun i c st'=>∃arr k,st'=setArr st arr/\arr.Perm a₀/\c=(none,i,k)) (Q:=fun c st'=>∃arr i k,st'=setArr st arr/\arr.Perm a₀/\c=(none,i,k)/\1<=i/\i<=nrem) ?_ ?_ ⟨arrOf st,0,rfl,hp,rfl⟩) ?_)
 ·rintro i c st' h3 h4 ⟨arr,k,rfl,ha,rfl⟩
  unfold crD
  refine wpS_bind (Dt (st:=setArr st arr) hc hk ha (by show lo+i<_;omega) (by show lo+i-1<_;omega) fun b=>?_)
  cases b with
  | true=>
    dsimp only
    rw[if_pos rfl]
    split
    ·exact wpS_bind (Mp (st:=setArr st arr) ha fun arr' ha'=>wpS_pure ⟨arr',_,rfl,ha',rfl⟩)
    ·exact wpS_pure ⟨arr,_,rfl,ha,rfl⟩
  | false=>
    dsimp only
    rw[if_neg Bool.false_ne_true]
    refine wpS_bind (Dt (st:=setArr st arr) hc hk ha (by show lo+i-1<_;omega) (by show lo+i<_;omega) fun b=>?_)
    cases b with
    | true=>exact wpS_pure ⟨arr,i,k,rfl,ha,rfl,by omega,Nat.le_of_lt h4⟩
    | false=>exact wpS_pure ⟨arr,_,rfl,ha,rfl⟩
 ·rintro c st' ⟨arr,k,rfl,ha,rfl⟩
  exact⟨arr,_,k,rfl,ha,rfl,by omega,by omega⟩
 ·rintro c st' ⟨arr,i,k,rfl,ha,rfl,q1,q2⟩
  show Rows.wpS _ _ _ _ (if k>0 then _ else _) _ _
  split
  ·exact wpS_bind (Mp (st:=setArr st arr) ha fun arr' ha'=>Vn (st:=setArr st arr') hc hk ha' q1 q2 h2 h)
  ·exact Vn (st:=setArr st arr) hc hk ha q1 q2 h2 h
theorem Wq(hc:Jl prog w A s κ a₀)(hk:kindOf st=κ)(hp:(arrOf st).Perm a₀){lo nrem:Nat}(h1:1<=nrem)(h2:lo+nrem<=a₀.size){Q:Option Nat->SortSt->Prop}
 (h:∀n arr,1<=n->n<=nrem->arr.Perm a₀->Q (some n) (setArr st arr)):Rows.wpS (model prog w) A E s (countRun' lo nrem) Q st:=by
 rw[Se]
 refine wpS_bind (Vm hc hk hp (Nat.le_refl _) h1 h2 fun n q1 q2=>?_)
 show Rows.wpS _ _ _ _ (if (n==nrem)=true then _ else _) _ _
 split
 ·exact wpS_pure (h n _ q1 q2 hp)
 ·rename_i q3
  have q4:n<nrem:=Nat.lt_of_le_of_ne q2 fun e=>q3 (beq_iff_eq.mpr e)
  split
  ·refine wpS_bind (Dt hc hk hp (by omega) (by show lo+n-1<_;omega) fun b=>?_)
   cases b with
   | true=>exact wpS_pure (h n _ q1 q2 hp)
   | false=>exact wpS_bind (Mp hp fun arr ha=>Vo (st:=setArr st arr) hc hk ha q1 q4 h2 h)
  ·exact Vo hc hk hp q1 q4 h2 h
theorem Aci(hc:Jl prog w A s κ a₀)(hk:kindOf st=κ)(hp:(arrOf st).Perm a₀){lo n ok:Nat}(h2:lo+n<=a₀.size){Q:Bool->SortSt->Prop}
 (h:∀arr,arr.Perm a₀->Q true (setArr st arr)):Rows.wpS (model prog w) A E s (binarySort' lo n ok) Q st:=by
 rw[binarySort'_eq]
 dsimp only
 refine wpS_bind (wpS_mono (wpS_forRange (I:=fun _ c st'=>∃arr,st'=setArr st arr/\arr.Perm a₀/\c.1=none) (Q:=fun c st'=>∃arr,st'=setArr st arr/\arr.Perm a₀/\c.1=none) ?_ (fun _ _ x=>x) ⟨arrOf st,rfl,hp,rfl⟩) ?_)
 ·rintro k c st' h3 h4 ⟨arr,rfl,ha,hcn⟩
  refine wpS_bind (wpS_mono (wpS_forRange (I:=fun _ c st'=>st'=setArr st arr/\∃l r,c=(none,l,r)/\r<=k) (Q:=fun c st'=>st'=setArr st arr/\∃l r,c=(none,l,r)) ?_ ?_ ⟨rfl,_,_,rfl,Nat.le_refl _⟩) ?_)
  ·rintro i c st' _ _ ⟨rfl,l,r,rfl,q⟩
   dsimp only
   split
   ·exact wpS_pure ⟨rfl,_,_,rfl⟩
   ·refine wpS_bind (Dt (st:=setArr st arr) hc hk ha (by omega) (by omega) fun b=>?_)
    cases b with
    | true=>exact wpS_pure ⟨rfl,_,_,rfl,by omega⟩
    | false=>exact wpS_pure ⟨rfl,_,_,rfl,q⟩
  ·rintro c st' ⟨rfl,l,r,rfl,_⟩
   exact⟨rfl,_,_,rfl⟩
  ·rintro c st' ⟨rfl,l,r,rfl⟩
   show Rows.wpS _ _ _ _ (do moveDown' (lo+k) (lo+l);_) _ _
   rw[moveDown'_eq]
   exact wpS_bind (wpS_modify (wpS_pure ⟨_,rfl,(bubble_perm _ _ _).trans ha,rfl⟩))
 ·rintro⟨c,d⟩ st' ⟨arr,rfl,ha,rfl⟩
  exact wpS_pure (h arr ha)
end
end Mine.Internal
namespace Mine.Internal
open PySem PySem.W PyProof PyProof.Rows
section
noncomputable def Gy:List (Nat×Nat×Nat)->Nat->Nat->Prop
 | [],f,t=>f=t
 | x::r,f,t=>x.1=f/\1<=x.2.1/\Gy r (f+x.2.1) t
theorem Gy.le:∀ {l:List (Nat×Nat×Nat)} {f t:Nat},Gy l f t->f<=t:=by
 intro l
 induction l with
 | nil=>intro f t h;exact Nat.le_of_eq h
 | cons x r ih=>intro f t h;exact Nat.le_trans (Nat.le_add_right _ _) (ih h.2.2)
theorem Gy.snoc{n pw:Nat}(hn:1<=n):∀ {l:List (Nat×Nat×Nat)} {f t:Nat},Gy l f t->Gy (l ++ [(t,n,pw)]) f (t+n):=by
 intro l
 induction l with
 | nil=>intro f t h;cases h;exact⟨rfl,hn,rfl⟩
 | cons x r ih=>intro f t h;exact⟨h.1,h.2.1,ih h.2.2⟩
theorem Gy.two{sa na pa sb nb pb:Nat}:∀ {l:List (Nat×Nat×Nat)} {i f t:Nat},Gy l f t->l[i]? = some (sa,na,pa)->l[i+1]? = some (sb,nb,pb)->sb=sa+na/\1<=na/\1<=nb/\sb+nb<=t:=by
 intro l
 induction l with
 | nil=>intro i f t h h1;cases h1
 | cons x r ih=>
   intro i f t h h1 h2
   refine Aa fun nY=>?_
   cases i with
   | succ i=>(refine nY ?_;clear nY;exact ih h.2.2 h1 h2)
   | zero=>
     cases h1
     cases r with
     | nil=>cases h2
     | cons y r=>
       cases h2
       have a1:sa=f:=h.1
       have a2:sb=f+na:=h.2.2.1
       have a3:f+na+nb<=t:=h.2.2.2.2.le
       refine nY ?_;clear nY
       exact⟨by omega,h.2.1,h.2.2.2.1,by omega⟩
theorem Gy.merge{sa na pa sb nb pb pw:Nat}:∀ {l:List (Nat×Nat×Nat)} {i f t:Nat},Gy l f t->l[i]? = some (sa,na,pa)->l[i+1]? = some (sb,nb,pb)->Gy ((l.set i (sa,na+nb,pw)).eraseIdx (i+1)) f t:=by
 intro l
 induction l with
 | nil=>intro i f t h h1;cases h1
 | cons x r ih=>
   intro i f t h h1 h2
   cases i with
   | succ i=>exact⟨h.1,h.2.1,ih h.2.2 h1 h2⟩
   | zero=>
     cases h1
     cases r with
     | nil=>cases h2
     | cons y r=>
       cases h2
       refine⟨h.1,Nat.le_trans h.2.1 (Nat.le_add_right _ _),?_⟩
       have:=h.2.2.2.2
       rwa[Nat.add_assoc]at this
theorem Gy.mod{g:Nat×Nat×Nat->Nat×Nat×Nat}(hg:∀x,(g x).1=x.1/\(g x).2.1=x.2.1):∀ {l:List (Nat×Nat×Nat)} {i f t:Nat},Gy l f t->Gy (l.modify i g) f t:=by
 intro l
 induction l with
 | nil=>intro i f t h;cases i<;>exact h
 | cons x r ih=>
   intro i f t h
   cases i with
   | zero=>exact⟨(hg x).1.trans h.1,(hg x).2▸h.2.1,(hg x).2▸h.2.2⟩
   | succ i=>exact⟨h.1,h.2.1,ih h.2.2⟩
variable {prog:Program} {w:World} {A:Around} {E:Value->Shared->Prop} {s:Shared} {κ:SortKind} {a₀:Array Keyed} {st:SortSt}
structure Te(κ:SortKind)(a₀:Array Keyed)(lo:Nat)(st:SortSt):Prop where
 kind:kindOf st=κ
 perm:(arrOf st).Perm a₀
 fail:failedOf st=none
 cont:Gy (pendingOf st).toList 0 lo
theorem L3(hc:Jl prog w A s κ a₀){lo i:Nat}(h:Te κ a₀ lo st)(hl:lo<=a₀.size)(hi:i+1<(pendingOf st).size){Q:Bool->SortSt->Prop}(hq:∀st',Te κ a₀ lo st'->Q true st') :
 Rows.wpS (model prog w) A E s (mergeAt' i) Q st:=by
 have e1:=Array.getElem?_eq_getElem (Nat.lt_of_succ_lt hi)
 have e2:=Array.getElem?_eq_getElem hi
 have l1:(pendingOf st).toList[i]? = some (pendingOf st)[i]:=by rw[Array.getElem?_toList];exact e1
 have l2:(pendingOf st).toList[i+1]? = some (pendingOf st)[i+1]:=by rw[Array.getElem?_toList];exact e2
 refine Aa fun nY=>?_
 obtain⟨h1,h2,h3,h4⟩:=h.cont.two l1 l2
 refine nY ?_;clear nY
 refine Sd hc h.kind h.perm h.fail e1 e2 h1 h2 h3 (by rw[h.perm.size_eq];omega) fun arr g ha=>hq _ ⟨rfl,ha,rfl,?_⟩
 have:=h.cont.merge (pw:=(pendingOf st)[i].2.2) l1 l2
 show Gy (((pendingOf st).setIfInBounds i _).eraseIdxIfInBounds (i+1)).toList 0 lo
 rw[Array.toList_eraseIdxIfInBounds,Array.toList_setIfInBounds]
 exact this
noncomputable def srM(pw:Nat)(_:Option Unit×Unit):StateT SortSt Sem (ForInStep (Option Unit×Unit)):=do
 let g <-get
 match (if (pendingOf g).size>1 then(pendingOf g)[(pendingOf g).size-2]? else none)with
 | some (_,_,older)=>if older<=pw then pure (.done (none,()))else do
    let r <-mergeAt' ((pendingOf g).size-2)
    if (!r)=true then pure (.done (some (),()))else pure (.yield (none,()))
 | _=>pure (.done (none,()))
noncomputable def srP(size lo n:Nat):StateT SortSt Sem (ForInStep (Option Unit×Nat)):=do
 let g <-get
 match (pendingOf g).back? with
 | some (s1,n1,_)=>do
   let r <-forIn [0:size] ((none,()):Option Unit×Unit) fun _ c=>srM (power' size (2*s1+n1) (2*s1+n1+n1+n) size) c
   Mf r.1 (fun x=>pure (.done (some x,lo))) fun _=>do
    modify fun s=>setPending s ((pendingOf s).modify ((pendingOf s).size-1) fun x=>(x.1,x.2.1,power' size (2*s1+n1) (2*s1+n1+n1+n) size))
    modify fun s=>setPending s ((pendingOf s).push (lo,n,0))
    pure (.yield (none,lo+n))
 | _=>do
   modify fun s=>setPending s ((pendingOf s).push (lo,n,0))
   pure (.yield (none,lo+n))
noncomputable def srB(size:Nat)(c:Option Unit×Nat):StateT SortSt Sem (ForInStep (Option Unit×Nat)):=
 if c.2≥size then pure (.done (none,c.2))else do
  let x <-countRun' c.2 (size-c.2)
  match x with
  | some found=>if found<minRun' size size 0 then(do
     rule "list.sort.binary-insertion"
     let r <-binarySort' c.2 (min (size-c.2) (minRun' size size 0)) found
     if (!r)=true then pure (.done (some (),c.2))else srP size c.2 (min (size-c.2) (minRun' size size 0)))else srP size c.2 found
  | _=>pure (.done (some (),c.2))
noncomputable def srI(p:Array (Nat×Nat×Nat)):Nat:=if (if p.size-2>0 then p[p.size-2-1]?.map (·.2.1)else none).any (· < (p[p.size-2+1]?.elim 0 (·.2.1)))then p.size-2-1 else p.size-2
noncomputable def srE(_:Option Unit×Unit):StateT SortSt Sem (ForInStep (Option Unit×Unit)):=do
 let g <-get
 if (pendingOf g).size<=1 then pure (.done (none,()))else do
  let r <-mergeAt' (srI (pendingOf g))
  if (!r)=true then pure (.done (some (),()))else pure (.yield (none,()))
theorem Sf:sortRuns'=(do
 let g <-get
 let r <-forIn [0:(arrOf g).size] ((none,0):Option Unit×Nat) fun _ c=>srB (arrOf g).size c
 Mf r.1 (fun x=>pure x) fun _=>do
  let q <-forIn [0:(arrOf g).size] ((none,()):Option Unit×Unit) fun _ c=>srE c
  Mf q.1 (fun x=>pure x) fun _=>pure ()):=rfl
theorem Acj(hc:Jl prog w A s κ a₀){lo pw size:Nat}(h:Te κ a₀ lo st)(hl:lo<=a₀.size){Q:Option Unit×Unit->SortSt->Prop}(hq:∀st',Te κ a₀ lo st'->Q (none,()) st') :
 Rows.wpS (model prog w) A E s (forIn [0:size] ((none,()):Option Unit×Unit) fun _ c=>srM pw c) Q st:=by
 refine wpS_mono (wpS_forRange (I:=fun _ c st'=>c.1=none/\Te κ a₀ lo st') (Q:=fun c st'=>c.1=none/\Te κ a₀ lo st') ?_ (fun _ _ x=>x) ⟨rfl,h⟩) ?_
 ·rintro _ c st' _ _ ⟨_,q⟩
  unfold srM
  refine wpS_bind (wpS_get ?_)
  split
  ·rename_i x y older e
   split
   ·exact wpS_pure ⟨rfl,q⟩
   ·have hi:(pendingOf st').size>1:=Decidable.byContradiction fun n=>by rw[if_neg n]at e;cases e
    exact wpS_bind (L3 hc q hl (by omega) fun st'' q'=>wpS_pure ⟨rfl,q'⟩)
  ·exact wpS_pure ⟨rfl,q⟩
 ·rintro⟨c,d⟩ st' ⟨rfl,q⟩
  exact hq st' q
theorem Vp(hc:Jl prog w A s κ a₀){lo n size:Nat}(h:Te κ a₀ lo st)(hn:1<=n)(hl:lo+n<=a₀.size){Q:ForInStep (Option Unit×Nat)->SortSt->Prop}(hq:∀st',Te κ a₀ (lo+n) st'->Q (.yield (none,lo+n)) st') :
 Rows.wpS (model prog w) A E s (srP size lo n) Q st:=by
 have psh:∀ {st':SortSt},Te κ a₀ lo st'->Te κ a₀ (lo+n) (setPending st' ((pendingOf st').push (lo,n,0))):=fun q=>⟨q.kind,q.perm,q.fail,by
  show Gy ((pendingOf _).push _).toList _ _
  rw[Array.toList_push];exact q.cont.snoc hn⟩
 unfold srP
 refine wpS_bind (wpS_get ?_)
 split
 ·refine wpS_bind (Acj hc h (Nat.le_of_add_right_le hl) fun st' q=>?_)
  refine wpS_bind (wpS_modify (wpS_bind (wpS_modify (wpS_pure (hq _ (psh ⟨q.kind,q.perm,q.fail,?_⟩))))))
  show Gy ((pendingOf st').modify _ _).toList 0 lo
  rw[Array.toList_modify]
  refine Gy.mod ?_ q.cont
  exact fun _=>⟨rfl,rfl⟩
 ·exact wpS_bind (wpS_modify (wpS_pure (hq _ (psh h))))
theorem Tv:∀(f n r:Nat),1<=n->1<=minRun' f n r:=by
 intro f
 induction f with
 | zero=>intro n r h;exact Nat.le_trans h (Nat.le_add_right _ _)
 | succ f ih=>
   intro n r h
   rw[minRun'_succ]
   split
   ·exact Nat.le_trans h (Nat.le_add_right _ _)
   ·exact ih _ _ (by omega)
theorem Yo(hc:Jl prog w A s κ a₀)(h:Te κ a₀ 0 st){Q:Unit->SortSt->Prop}(hq:∀st',(arrOf st').Perm a₀->failedOf st'=none->Q () st'):Rows.wpS (model prog w) A E s sortRuns' Q st:=by
 rw[Sf]
 refine wpS_bind (wpS_get ?_)
 rw[h.perm.size_eq]
 refine wpS_bind (wpS_mono (wpS_forRange (I:=fun _ c st'=>c.1=none/\Te κ a₀ c.2 st'/\c.2<=a₀.size) (Q:=fun c st'=>c.1=none/\Te κ a₀ c.2 st'/\c.2<=a₀.size) ?_ (fun _ _ x=>x) ⟨rfl,h,Nat.zero_le _⟩) ?_)
 ·rintro _ ⟨c,lo⟩ st' _ _ ⟨rfl,q,hl⟩
  unfold srB
  dsimp only at q hl ⊢
  split
  ·exact wpS_pure ⟨rfl,q,hl⟩
  ·rename_i q1
   refine wpS_bind (Wq hc q.kind q.perm (by omega) (by omega) fun n arr h1 h2 ha=>?_)
   have q':Te κ a₀ lo (setArr st' arr):=⟨q.kind,ha,q.fail,q.cont⟩
   dsimp only
   split
   ·refine wpS_bind (wpS_lift (wpAny_rule ⟨rfl,?_⟩))
    refine wpS_bind (Aci (st:=setArr st' arr) hc q'.kind ha (by omega) fun arr' ha'=>?_)
    have hm:=Tv a₀.size a₀.size 0 (by omega)
    refine Vp (st:=setArr st' arr') hc ⟨q.kind,ha',q.fail,q.cont⟩ (by omega) (by omega) fun st'' q''=>?_
    exact⟨rfl,q'',by show _<=_;omega⟩
   ·refine Vp hc q' h1 (by omega) fun st'' q''=>?_
    exact⟨rfl,q'',by show _<=_;omega⟩
 ·rintro⟨c,lo⟩ st' ⟨rfl,q,hl⟩
  refine wpS_bind (wpS_mono (wpS_forRange (I:=fun _ c st'=>c.1=none/\Te κ a₀ lo st') (Q:=fun c st'=>c.1=none/\Te κ a₀ lo st') ?_ (fun _ _ x=>x) ⟨rfl,q⟩) ?_)
  ·rintro _ c st'' _ _ ⟨_,q⟩
   unfold srE
   refine wpS_bind (wpS_get ?_)
   split
   ·exact wpS_pure ⟨rfl,q⟩
   ·rename_i q1
    refine wpS_bind (L3 hc q hl ?_ fun st'' q'=>wpS_pure ⟨rfl,q'⟩)
    have:∀(c:Prop) [Decidable c] (n:Nat),1<n->(if c then n-2-1 else n-2)+1<n:=fun c _ n h=>by split<;>omega
    exact this _ _ (by omega)
  ·rintro⟨c,d⟩ st'' ⟨rfl,q⟩
   exact wpS_pure (hq _ q.perm q.fail)
end
end Mine.Internal
namespace Mine.Internal
open PySem PySem.W PyProof.Rows
variable {W:Wd} {A:Around} {h₀:HB} {env:Env} {c:Cx} {names:List Str} {H:AH} {ρ:Aj} {s:Shared} {E:Value->Shared->Prop} {n:Nat} {Q:Af} {Er:EP}
noncomputable def Yp(_:Wd):Ty->Value
 | .int=> .type "int" | .bool=> .type "bool" | .list=> .type "list"
theorem Qe(R:Al W h₀ env names H ρ s){t:Ty}{v:V}{u:Value}(hp:Ip t=true)(hv:VR W v u){r:Bool}(e:Ti t v H=some r)(q:Q (.bool r) H) :
 wpAny W.M A (call (.builtin "isinstance") [u,Yp W t]) (Cb W h₀ env names ρ Q) E s:=by
 induction hv with
 | none=>cases t<;>first|(cases hp;done)|(obtain rfl:=Option.some.inj e)
         ·exact IsiPair.NoneType_int (Cb.mk (.bool _) (R.toks _) q)
         ·exact IsiPair.NoneType_bool (Cb.mk (.bool _) (R.toks _) q)
         ·exact IsiPair.NoneType_list (Cb.mk (.bool _) (R.toks _) q)
 | bool b=>cases t<;>first|(cases hp;done)|(obtain rfl:=Option.some.inj e)
           ·exact IsiPair.bool_int (Cb.mk (.bool _) R q)
           ·exact IsiPair.bool_bool (Cb.mk (.bool _) R q)
           ·exact IsiPair.bool_list (Cb.mk (.bool _) (R.toks _) q)
 | int i t'=>cases t<;>first|(cases hp;done)|(obtain rfl:=Option.some.inj e)
             ·exact IsiPair.int_int (Cb.mk (.bool _) R q)
             ·exact IsiPair.int_bool (Cb.mk (.bool _) (R.toks _) q)
             ·exact IsiPair.int_list (Cb.mk (.bool _) (R.toks _) q)
 | str x t'=>cases t<;>first|(cases hp;done)|(obtain rfl:=Option.some.inj e)
             ·exact IsiPair.str_int (Cb.mk (.bool _) (R.toks _) q)
             ·exact IsiPair.str_bool (Cb.mk (.bool _) (R.toks _) q)
             ·exact IsiPair.str_list (Cb.mk (.bool _) (R.toks _) q)
 | script=>exact @nn _ _ _ e
 | fn _=>exact @nn _ _ _ e
 | ref a=>
   cases ha:H a with
   | none=>rw[show Ti t (.ref a) H=none from(by show (match H a with|some o=>Mk o t|none=>none)=_;rw[ha])]at e;cases e
   | some o=>
     replace e:Mk o t=some r:=by rw[<-e];show _=(match H a with|some o=>Mk o t|none=>none);rw[ha]
     cases o with
     | list xs=>
       obtain⟨l1,h1,r1,z1⟩:=R.isList ha
       cases t<;>first|(cases hp;done)|(obtain rfl:=Option.some.inj e)
       ·exact IsiPair.isList_int h1 (fun _ _ e=>e) (Cb.mk (.bool _) (R.toks _) q)
       ·exact IsiPair.isList_bool h1 (fun _ _ e=>e) (Cb.mk (.bool _) (R.toks _) q)
       ·exact IsiPair.isList_list h1 (fun _ _ e=>e) (Cb.mk (.bool _) R q)
     | tuple xs=>
       obtain⟨l1,h1,r1,z1⟩:=R.isTup ha
       cases t<;>first|(cases hp;done)|(obtain rfl:=Option.some.inj e)
       ·exact IsiPair.isTuple_int h1 (fun _ _ e=>e) (Cb.mk (.bool _) (R.toks _) q)
       ·exact IsiPair.isTuple_bool h1 (fun _ _ e=>e) (Cb.mk (.bool _) (R.toks _) q)
       ·exact IsiPair.isTuple_list h1 (fun _ _ e=>e) (Cb.mk (.bool _) (R.toks _) q)
     | _=>cases t<;>first|(cases hp;done)|exact @nn _ _ _ e
noncomputable def Ad2:BI->Value
 | .len=> .builtin "len" | .list=> .type "list" | .sorted=> .builtin "sorted" | .max=> .builtin "max" | .min=> .builtin "min" | .minL=> .builtin "min"
 | .all=> .builtin "all" | .any=> .builtin "any" | .str=> .type "str" | .int=> .type "int" | _=> .none
noncomputable def Nn:BI->Bool
 | .len | .list | .sorted | .max | .min | .minL | .all | .any=>true
 | _=>false
theorem Sg{xs:List V}{items:List Value}{bs:List Bool}(h:Df W xs items)(e:bools? xs=some bs):items=bs.map Value.bool:=by
 induction h generalizing bs with
 | nil=>cases e;rfl
 | cons h _ ih=>
   induction h with
   | bool b=>
     obtain⟨l,h1,h2⟩:=Option.map_eq_some_iff.mp (show (bools? _).map _=some bs from e)
     subst h2
     rw[ih h1];rfl
   | _=>cases e
theorem Wr(bs:List Bool):(List.range bs.length).all (fun i=>bs.getD i false)=bs.all id:=by
 induction bs with
 | nil=>rfl
 | cons b r ih=>rw[List.length_cons,List.range_succ_eq_map,List.all_cons,List.all_map,List.all_cons];congr 1
theorem Ws(bs:List Bool):(List.range bs.length).any (fun i=>bs.getD i false)=bs.any id:=by
 induction bs with
 | nil=>rfl
 | cons b r ih=>rw[List.length_cons,List.range_succ_eq_map,List.any_cons,List.any_map,List.any_cons];congr 1
theorem Yq{es:List (Int×V)}{kvs:List (Int×Value)}{vs:List Value}(h:Tc W es kvs):vs.length=kvs.length->
 (∀(j:Nat) (v:Value),vs[j]? = some v->∃k x,kvs[j]? = some (k,x)/\(intKind W.prog W.w).is k v=true)->IntsAre vs (es.map (·.1)):=by
 induction h generalizing vs with
 | nil=>
   intro hl _
   refine Aa fun nY=>?_
   cases vs with
   | nil=>(refine nY ?_;clear nY;exact .nil)
   | cons v vs=>cases hl
 | @cons k _ _ _ _ h t ih=>
   intro hl hv
   refine Aa fun nY=>?_
   cases vs with
   | nil=>cases hl
   | cons v vs=>
     obtain⟨k',x,e1,e2⟩:=hv 0 v rfl
     cases e1
     obtain⟨t',rfl⟩:=Value.isInt_shape (show Value.isInt k v=true from e2)
     refine nY ?_;clear nY
     exact .cons k t' (ih (Nat.succ.inj hl) fun j v hj=>hv (j+1) v hj)
theorem Tw{T:String}{r d:Addr}{n:Nat}{P:Nat->Value->Prop}{OK:Heap->Prop}{ks:List Int}{Q:Value->Shared->Prop}(K:KdlSrc W.prog W.w T r d n P OK)(hh:A.handled=none)(hok:OK s.heap)(hn:n<=sizeLine)(h64:n<64)
 (hI:∀acc:Array Value,ItemsOf P acc n->∃ks',IntsAre acc.toList ks'/\ks'.Perm ks)
 (h:∀(D:Addr) (h':Heap) (tk ee:Nat) (vs:List Value),s.heap.get? D=none->(∀b,s.heap.get? b≠none->b<D)->(∀b o,s.heap.get? b=some o->h'.get? b=some o)->h'.get? D=some {cls:= .type "list",data:= .seq vs.toArray ee} ->
   IntsAre vs (B9 ks)->Q (.ref D) {s with heap:=h',toks:=tk}) :
 wpAny W.M A (call (.builtin "sorted") [.ref r]) Q E s:=by
 refine Calls.call_function_entry kind_sorted plain_sorted entry_sorted (args_sorted1 _) ?_
 unfold Builtin.«sorted»
 refine wpAny_bind (m:=checkCount "sorted" 1 1 _) (wpAny_pure ?_)
 refine wpAny_bind (kdu_collect (A:=A.in1) K hh hok hn fun h' tk acc hk hacc=>?_)
 have hl:acc.toList.length=n:=by rw[Array.length_toList];exact hacc.1
 refine wpAny_bind (wpAny_newList ?_ (by rw[hl];exact hn))
 refine Aa fun nY=>?_
 obtain⟨ks',hI,hpk⟩:=hI acc hacc
 have hD:s.heap.get? h'.objs.size=none:=Qa hk
 have hlt:∀b,s.heap.get? b≠none->b<h'.objs.size:=fun b hb=>by
  cases q:s.heap.get? b with
  | none=>exact absurd q hb
  | some o=>exact Heap.lt_size (hk b o q)
 have ho:(h'.push (seqObj "list" acc.toList.toArray 0)).get? h'.objs.size=some (seqObj "list" acc.toList.toArray 0):=Heap.get?_push_size _ rfl
 refine nY ?_;clear nY
 refine wpAny_bind (wpAny_holding (wpAny_call_entry slot_list_sort ⟨_,ho,rfl⟩ entry_list_sort (list_sort_tree (n:=0) ho hI (by rw[hl];exact h64) fun out ns' a1 a2 a3=>⟨_,rfl,?_⟩) (args_list_sort _)))
 have en:ns'=B9 ks:=I7 ((a2.trans hpk).trans (Cm _).symm) a3 (Ds _)
 subst en
 obtain⟨ee,he⟩:=sortedHeap_at (out:=out) ho
 refine wpAny_pure ⟨_,rfl,h h'.objs.size _ tk ee out.toList hD hlt (fun b o e=>?_) he a1⟩
 have hb:=Heap.lt_size (hk b o e)
 rw[sortedHeap_old (Nat.ne_of_lt hb) (by rw[Heap.size_push];exact Nat.lt_succ_of_lt hb)]
 exact Heap.get?_push_of_some _ (hk b o e)
theorem Sh{d:Addr}{es:List (Int×V)}{kvs:List (Int×Value)}{ep:Nat}{Q:Value->Shared->Prop}(lo:(d==sysModules)=false)(hh:A.handled=none)(hat:s.heap.DictAt (intKind W.prog W.w) d kvs ep)
 (hn:kvs.length<=sizeLine) (r1:Tc W es kvs) (h64:kvs.length<64)
 (h:∀(D:Addr) (h':Heap) (tk ee:Nat) (vs:List Value),s.heap.get? D=none->(∀b,s.heap.get? b≠none->b<D)->(∀b o,s.heap.get? b=some o->h'.get? b=some o)->h'.get? D=some {cls:= .type "list",data:= .seq vs.toArray ee} ->
   IntsAre vs (B9 (es.map (·.1)))->Q (.ref D) {s with heap:=h',toks:=tk}) :
 wpAny W.M A (call (.builtin "sorted") [.ref d]) Q E s:=
 Tw (kdl_dict (knd:=intKind W.prog W.w) (kvs:=kvs) (ep:=ep) lo) hh hat hn h64 (fun acc hacc=>⟨_,Yq r1 (by rw[Array.length_toList];exact hacc.1) fun j v hj=>hacc.2 j v (by rw[<-Array.getElem?_toList];exact hj),.rfl⟩) h
theorem Ajj{v:V}{us:List Value}(h:Df W [v] us):∃u,us = [u]/\VR W v u:=by
 cases h with|cons h t=>cases t;exact⟨_,rfl,h⟩
theorem Ajk{v v':V}{us:List Value}(h:Df W [v,v'] us):(Ho fun u u'=>Fx (us = [u,u']) (VR W v u) (VR W v' u')):=by
 cases h with|cons h t=>cases t with|cons h' t=>cases t;exact⟨_,_,rfl,h,h'⟩
/-! sorted of pairs:some order of them -/
theorem Yr{out vs:List Value}(h:out.Perm vs):∀ {xs:List V},Df W xs vs->∃xs',xs'.Perm xs/\Df W xs' out:=by
 induction h with
 | nil=>intro xs r;exact⟨xs,.refl _,r⟩
 | cons x h ih=>
   intro xs r
   refine Aa fun nY=>?_
   cases r with
   | cons r t=>
     obtain⟨ys,h1,h2⟩:=ih t
     refine nY ?_;clear nY
     exact⟨_,h1.cons _,.cons r h2⟩
 | swap x y l=>
   intro xs r
   refine Aa fun nY=>?_
   cases r with
   | cons r t=>
     cases t with
     | cons r' t=>(refine nY ?_;clear nY;exact⟨_,.swap _ _ _,.cons r' (.cons r t)⟩)
 | trans _ _ ih1 ih2=>
   intro xs r
   refine Aa fun nY=>?_
   obtain⟨ys,h1,h2⟩:=ih2 r
   obtain⟨zs,h3,h4⟩:=ih1 h2
   refine nY ?_;clear nY
   exact⟨zs,h3.trans h1,h4⟩
noncomputable def Ys(h:Heap)(v:Value):Prop:=∃a o i j t u n,v = .ref a/\h.get? a=some o/\o.cls = .type "tuple" /\o.data = .seq #[.int i t,.int j u] n
theorem Agy{i j:Int}{x y:Value}{Q:Bool->Shared->Prop}(hx:Ys s.heap x)(hy:Ys s.heap y)(hq:∀b,Q b s):wpAny (model W.prog W.w) A (keyLt' (tuples' true) x y) Q E s:=by
 refine Aa fun nY=>?_
 obtain⟨a,o,i,j,t,u,n,rfl,h1,_,h3⟩:=hx
 obtain⟨a',o',i',j',t',u',n',rfl,h1',_,h3'⟩:=hy
 refine nY ?_;clear nY
 refine kat_lt h1 h3 h1' h3' ?_
 refine kat_cons (wpAny_eqBool_int (kat_go (fun _=>kat_yes ?_) fun _=>kat_no (oneLt_int (hq _))))
 refine kat_cons (wpAny_eqBool_int (kat_go (fun _=>kat_yes (kat_nil (hq _))) fun _=>kat_no ?_))
 exact kat_one _ _ (lt_int (hq _))
theorem Vq{h:Heap}:∀ {vs:List Value},(∀v∈vs,Ys h v)->∃fs,KatTups h vs fs/\fs.length=vs.length/\∀f∈fs,∃i t,f = .int i t
 | [],_=>⟨[],.nil,rfl,fun _ h=>absurd h List.not_mem_nil⟩
 | v::vs,hv=>by
   obtain⟨fs,h1,h2,h3⟩:=Vq (vs:=vs) fun v hm=>hv v (.tail _ hm)
   obtain⟨a,o,i,j,t,u,n,rfl,q1,q2,q3⟩:=hv v (.head _)
   refine⟨.int i t::fs,.cons q1 q2 q3 rfl h1,by simp[h2],fun f hf=>?_⟩
   rcases List.mem_cons.mp hf with rfl|hf
   ·exact⟨_,_,rfl⟩
   ·exact h3 f hf
theorem Oo{a:Addr}{vs:List Value}{n:Nat}{P:PySem.Fin->Shared->Prop}(ho:s.heap.get? a=some (seqObj "list" vs.toArray n))(hz:vs.length<=Cg)(hp:∀v∈vs,Ys (((s.heap.update a (Obj.mapSeq fun _=> #[])).push (seqObj "tuple" vs.toArray 0)).push (seqObj "list" #[] 0)) v)
 (h:∀out:Array Value,out.toList.Perm vs->P (.done (.ret .none)) {s with heap:=sortedHeap s.heap a vs out}):wpAny (model W.prog W.w) A (Builtin.«list.sort» ⟨[.ref a],[]⟩) P E s:=by
 rw[list_sort_plain]
 have hl:=Nat.le_trans hz Cs
 have ha:a<s.heap.objs.size:=Heap.lt_size ho
 have eo:((vs.toArray.zip vs.toArray).map (·.2)).toList=vs:=by
  rw[Array.toList_map,Array.toList_zip]
  exact List.map_snd_zip (Nat.le_refl _)
 refine wpAny_bind (listItems_at ho rfl ?_)
 refine wpAny_bind (listUpdate_at ho rfl ?_ (by rw[List.size_toArray];exact hl) (Nat.zero_le _))
 obtain⟨e1,ho1⟩:∃e1,(s.heap.update a (Obj.mapSeq fun _=> #[])).get? a=some (seqObj "list" #[] e1):=⟨_,get?_update_seq ho (fun _=> #[])⟩
 refine wpAny_bind (seqEpoch_at ho1 rfl ?_)
 refine wpAny_bind (wpAny_newTuple ?_ hl)
 refine wpAny_bind (wpAny_newList ?_ (Nat.zero_le _))
 refine wpAny_holding ?_
 have ho6:(((s.heap.update a (Obj.mapSeq fun _=> #[])).push (seqObj "tuple" vs.toArray 0)).push (seqObj "list" #[] 0)).get? a=some (seqObj "list" #[] e1):=by
  rw[Heap.get?_push_ne _ _ _ (by rw[size_push',Heap.size_update];exact Nat.ne_of_lt (Nat.lt_succ_of_lt ha)),Heap.get?_push_ne _ _ _ (by rw[Heap.size_update];exact Nat.ne_of_lt ha)]
  exact ho1
 show wpAny (model W.prog W.w) A _ P E {s with heap:=((s.heap.update a (Obj.mapSeq fun _=> #[])).push (seqObj "tuple" vs.toArray 0)).push (seqObj "list" #[] 0)}
 dsimp only
 have fin:∀st':SortSt,((arrOf st').map (·.2)).toList.Perm vs->failedOf st'=none->wpAny (model W.prog W.w) A (do
  let touched:=(<-seqEpoch a) != e1
  Builtin.List.listUpdate (.ref a) fun _=>(arrOf st').map (·.2)
  if let some e:=failedOf st' then rule "list.sort.comparison-raised";throw e
  if touched then rule "list.sort.modified";raiseError "ValueError" "list modified during sort"
  ret .none) P E {s with heap:=((s.heap.update a (Obj.mapSeq fun _=> #[])).push (seqObj "tuple" vs.toArray 0)).push (seqObj "list" #[] 0)}:=fun st' hpm hf=>by
  refine wpAny_bind (seqEpoch_at ho6 rfl ?_)
  refine wpAny_bind (listUpdate_at ho6 rfl ?_ (Nat.zero_le _) (by rw[<-Array.length_toList,hpm.length_eq];exact Nat.le_succ_of_le hl))
  rw[hf]
  simp only[bne_self_eq_false,Bool.false_eq_true,if_false]
  exact wpAny_pure (h _ hpm)
 by_cases h2:vs.length<2
 ·have h2':vs.toArray.size<2:=by rw[List.size_toArray];exact h2
  rw[if_pos h2',if_pos h2']
  refine wpAny_bind (wpAny_pure ?_)
  rw[StateT.run_pure]
  exact wpAny_bind (wpAny_pure (fin _ (by show ((vs.toArray.zip vs.toArray).map (·.2)).toList.Perm vs;rw[eo]) rfl))
 ·have h2':¬vs.toArray.size<2:=by rw[List.size_toArray];exact h2
  rw[if_neg h2',if_neg h2']
  obtain⟨fs,t1,t2,t3⟩:=Vq hp
  refine wpAny_bind (kat_kind t1 (by omega) (T:= .type "int") (fun v hv=>?_) rfl ?_)
  ·obtain⟨i,t,rfl⟩:=t3 v hv
   exact Looks.of_pure rfl
  have hc:Jl W.prog W.w A {s with heap:=((s.heap.update a (Obj.mapSeq fun _=> #[])).push (seqObj "tuple" vs.toArray 0)).push (seqObj "list" #[] 0)} (tuples' true) (vs.toArray.zip vs.toArray):=fun x hx y hy Q E hq=>by
   have mem:∀z:Keyed,z∈(vs.toArray.zip vs.toArray).toList->z.1∈vs:=fun z hz=>by
    rw[Array.toList_zip]at hz
    exact(mem_zip_self hz).2
   exact Agy (i:=0) (j:=0) (hp _ (mem x hx)) (hp _ (mem y hy)) hq
  refine wpAny_bind (wpAny_mono (Yo (E:=E) (Q:=fun _ st'=>(arrOf st').Perm (vs.toArray.zip vs.toArray)/\failedOf st'=none) (st:=SortSt.mk' (tuples' true) (vs.toArray.zip vs.toArray) #[] 7 none) hc ⟨rfl,.refl _,rfl,rfl⟩ fun st' p f=>⟨p,f⟩) ?_ fun _ _ e=>e)
  rintro⟨⟨⟩,st'⟩ s' ⟨rfl,hpm,hf⟩
  refine fin st' ?_ hf
  have:=(Array.perm_iff_toList_perm.mp hpm).map (·.2)
  rw[<-Array.toList_map,<-Array.toList_map,eo]at this
  exact this
theorem Tx{l:Addr}{vs:List Value}{L:Addr}{m:Str->Option Value}{b₀:Heap}{news:List (Addr×Obj)}{Q:Value->Shared->Prop}(F:Fr b₀ L s.heap m)(N:News b₀ L s.heap news)(hl:s.heap.IsList l vs.toArray)(hz:vs.length<=Cg)
 (hp:∀v∈vs,Ys s.heap v)
 (h:∀(h':Heap) (vs':List Value) (e:Nat),Fr b₀ L h' m->News b₀ L h' ((s.heap.objs.size+1,seqObj "list" vs'.toArray e)::news)->vs'.Perm vs->Q (.ref (s.heap.objs.size+1)) {s with heap:=h'}) :
 wpAny (model W.prog W.w) A (call (.builtin "sorted") [.ref l]) Q E s:=by
 have hln:=Nat.le_trans hz Cs
 refine Calls.call_function_entry kind_sorted plain_sorted entry_sorted (args_sorted1 _) ?_
 unfold Builtin.«sorted»
 refine wpAny_bind (m:=checkCount "sorted" 1 1 _) (wpAny_pure ?_)
 refine wpAny_bind (collect_list hl ?_ hln)
 refine wpAny_bind (wpAny_newList ?_ hln)
 have hsz:((s.heap.push (seqObj "list" #[] 0)).update s.heap.objs.size (Obj.mapSeq (· ++ vs.toArray))).objs.size=s.heap.objs.size+1:=by
  rw[Heap.size_update,size_push']
 have hoL:(((s.heap.push (seqObj "list" #[] 0)).update s.heap.objs.size (Obj.mapSeq (· ++ vs.toArray))).push (seqObj "list" vs.toArray 0)).get? (s.heap.objs.size+1)=some (seqObj "list" vs.toArray 0):=by
  rw[<-hsz];exact Heap.get?_push_size _ rfl
 have keep:∀b o,s.heap.get? b=some o->(((s.heap.push (seqObj "list" #[] 0)).update s.heap.objs.size (Obj.mapSeq (· ++ vs.toArray))).push (seqObj "list" vs.toArray 0)).get? b=some o:=fun b o q=>by
  have hlt:b<s.heap.objs.size:=Heap.lt_size q
  rw[Heap.get?_push_ne _ _ _ (by rw[hsz];exact Nat.ne_of_lt (Nat.lt_succ_of_lt hlt)),Heap.get?_update_ne _ _ _ _ (Nat.ne_of_lt hlt),Heap.get?_push_ne _ _ _ (Nat.ne_of_lt hlt)]
  exact q
 show wpAny _ _ _ _ _ {s with heap:=((s.heap.push (seqObj "list" #[] 0)).update s.heap.objs.size (Obj.mapSeq (· ++ vs.toArray))).push (seqObj "list" vs.toArray 0)}
 rw[hsz]
 generalize ((s.heap.push (seqObj "list" #[] 0)).update s.heap.objs.size (Obj.mapSeq (· ++ vs.toArray))).push (seqObj "list" vs.toArray 0)=H1 at *
 refine wpAny_bind (wpAny_holding (wpAny_call_entry slot_list_sort ⟨_,hoL,rfl⟩ entry_list_sort ?body (args_list_sort _)))
 case body=>
  refine Oo (s:={s with heap:=H1}) hoL hz (fun v hv=>?_) fun out hout=>⟨_,rfl,?_⟩
  ·refine Aa fun nY=>?_
   obtain⟨b,o,i,j,t,u,k,rfl,q1,q2,q3⟩:=hp v hv
   have hb:=Heap.lt_size q1
   have hb1:=Heap.lt_size (keep b o q1)
   refine nY ?_;clear nY
   refine⟨b,o,i,j,t,u,k,rfl,?_,q2,q3⟩
   show (((H1.update (s.heap.objs.size+1) _).push _).push _).get? b=some o
   rw[Heap.get?_push_ne _ _ _ (by rw[size_push',Heap.size_update];exact Nat.ne_of_lt (Nat.lt_succ_of_lt hb1)),Heap.get?_push_ne _ _ _ (by rw[Heap.size_update];exact Nat.ne_of_lt hb1),Heap.get?_update_ne _ _ _ _ (Nat.ne_of_lt (Nat.lt_succ_of_lt hb))]
   exact keep b o q1
  ·obtain⟨ee,he⟩:=sortedHeap_at (out:=out) hoL
   have keep2:∀b o,s.heap.get? b=some o->(sortedHeap H1 (s.heap.objs.size+1) vs out).get? b=some o:=fun b o e=>by
    have hb:=Heap.lt_size e
    rw[sortedHeap_old (Nat.ne_of_lt (Nat.lt_succ_of_lt hb)) (Heap.lt_size (keep b o e))]
    exact keep b o e
   exact wpAny_pure ⟨_,rfl,h _ out.toList ee (F.kept keep2) (N.kept_cons F keep2 (Nat.le_succ _) he) hout⟩
theorem Ack{x:V}(h:Age H x=true):∃t i j,x = .ref t/\H t=some (.tuple [.int i,.int j]):=by
 refine Aa fun no=>?_
 cases x<;>try (cases h;done)
 rename_i t
 replace h:(match H t with|some (.tuple [.int _,.int _])=>true|_=>false)=true:=h
 cases q:H t with
 | none=>rw[q]at h;cases h
 | some o=>
   rw[q]at h
   cases o<;>try (cases h;done)
   rename_i xs
   rcases xs with _ | ⟨a,_ | ⟨b,_ | ⟨c',r'⟩⟩⟩<;>try (cases h;done)
   all_goals cases a<;>try (cases h;done)
   all_goals cases b<;>try (cases h;done)
   exact no ⟨_,_,_,rfl,q⟩
theorem Si(Y:Ah W env c h₀)(R:Al W h₀ env names H ρ s){m:Str->Option Value}(F:Fr W.b₀ env.locals s.heap m){l:Addr}{l1:List Value}{xs:List V}(h1:s.heap.IsList l l1.toArray)(r1:Df W xs l1)(z1:xs.length<=Cg)(q:U0 xs H Q) :
 wpAny W.M A (call (.builtin "sorted") [.ref l]) (Cb W h₀ env names ρ Q) E s:=by
 refine Tx (W:=W) F Wl h1 (by rw[<-r1.length];exact z1) (fun v hv=>?_) fun h' vs' e F' N' hpm=>?_
 ·refine Aa fun nY=>?_
  obtain⟨i,hi⟩:=List.mem_iff_getElem?.mp hv
  obtain⟨x,hx,rx⟩:=Df.get' i r1 hi
  obtain⟨t,i',j',rfl,ht⟩:=Ack (List.all_eq_true.mp q.1 x (List.mem_of_getElem? hx))
  cases rx
  obtain⟨l2,⟨o,ho,hc,nn,hdd⟩,r2,z2⟩:=R.isTup ht
  cases r2 with
  | cons ra rb=>
    cases rb with
    | cons rb rc=>
      cases rc;cases ra;cases rb
      refine nY ?_;clear nY
      exact⟨_,o,_,_,_,_,nn,rfl,ho,hc,hdd⟩
 ·refine Aa fun nY=>?_
  obtain⟨xs',hx1,hx2⟩:=Yr hpm r1
  obtain⟨e',R'⟩:=Mn (t:=s.toks) R Y F F' N' (Nat.le_succ _) (Ec hx2 (by rw[hx1.length_eq];exact z1))
  refine nY ?_;clear nY
  exact Cb.mk (.ref _) R' (q.2 xs' hx1 _ e')
theorem Tz(ok:Kz A c h₀ env Er n)(hf:c.hnd=false)(Y:Ah W env c h₀)(R:Al W h₀ env names H ρ s){b:BI}{vs:List V}{us:List Value}(hd:Nn b=true)(hv:Df W vs us)(q:D3 b vs H Q) :
 wpAny W.M A (call (Ad2 b) us) (Cb W h₀ env names ρ Q) E s:=by
 refine Aa fun nY=>?_
 obtain⟨m,F⟩:=R.kitF Y
 have N:News W.b₀ env.locals s.heap _:=Wl
 have hh:=ok.handled hf
 have b63:=Rv
 cases b<;>first|(cases hd;done)|exact False.elim q|skip
 case len=>
  replace q:Lk vs H Q:=q
  refine nY ?_;clear nY
  apply Ke hv q;intro v u h q
  induction h with
  | script=>
    refine Aa fun nY=>?_
    obtain⟨l1,h1,r1,z1⟩:=R.script Y
    have r2:Df W (W.sn.map V.int) l1:=F8 r1
    refine nY ?_;clear nY
    have hl:W.sn.length=l1.length:=by have:=r2.length;simpa using this
    have hs:((l1.toArray.size:Nat):Int)=W.sn.length:=by simp[hl]
    exact len_list h1 (by rw[hs];(first|lia|omega)) (by rw[hs];exact Cb.mk (.int _ _) (R.toks _) q)
  | ref a=>
    dsimp only at q
    refine Aa fun nY=>?_
    split at q
    ·rename_i xs e
     obtain⟨l1,h1,r1,z1⟩:=R.isList e
     have hs:((l1.toArray.size:Nat):Int)=xs.length:=by simp[r1.length]
     refine nY ?_;clear nY
     exact len_list h1 (by rw[hs];(first|lia|omega)) (by rw[hs];exact Cb.mk (.int _ _) (R.toks _) q)
    ·rename_i xs e
     obtain⟨l1,h1,r1,z1⟩:=R.isTup e
     have hs:((l1.toArray.size:Nat):Int)=xs.length:=by simp[r1.length]
     refine nY ?_;clear nY
     exact PyProof.Rows.len_tuple h1 (by rw[hs];(first|lia|omega)) (by rw[hs];exact Cb.mk (.int _ _) (R.toks _) q)
    ·rename_i es e
     obtain⟨kvs,h1,r1,z1⟩:=R.isDict e
     have hs:(kvs.length:Int)=es.length:=by rw[r1.length]
     refine nY ?_;clear nY
     exact call_len_dict (R.noSys Y e) h1 (by rw[hs];(first|lia|omega)) (by rw[hs];exact Cb.mk (.int _ _) (R.toks _) q)
    ·exact q.elim
  | _=>exact False.elim q
 case list=>
  replace q:Hp vs H Q:=q
  refine nY ?_;clear nY
  apply Ke hv q;intro v u h q;apply Cc h q;intro a q
  refine Aa fun nY=>?_
  split at q
  ·rename_i xs e
   obtain⟨l1,⟨o,ho,hc,nn,hdd⟩,r1,z1⟩:=R.isList e
   refine nY ?_;clear nY
   refine call_list_seq (hsz:=by simp[<-r1.length];exact Nat.le_trans z1 Cs) _ (.inl rfl) ho hc hdd fun h' c' hk hD=>?_
   exact Cb.mk (.ref _) (R.put s.toks hk hD (Ec r1 z1) (C1 _) fun _ _=>R.up) (q _ R.fresh)
  ·rename_i xs e
   obtain⟨l1,⟨o,ho,hc,nn,hdd⟩,r1,z1⟩:=R.isTup e
   refine nY ?_;clear nY
   refine call_list_seq (hsz:=by simp[<-r1.length];exact Nat.le_trans z1 Cs) _ (.inr rfl) ho hc hdd fun h' c' hk hD=>?_
   exact Cb.mk (.ref _) (R.put s.toks hk hD (Ec r1 z1) (C1 _) fun _ _=>R.up) (q _ R.fresh)
  ·exact q.elim
 case sorted=>
  replace q:Gd vs H Q:=q
  refine nY ?_;clear nY
  apply Ke hv q;intro v u h q;apply Cc h q;intro a q
  refine Aa fun nY=>?_
  split at q
  ·rename_i xs e
   obtain⟨l1,h1,r1,z1⟩:=R.isList e
   split at q
   ·rename_i ns e2
    have hI:=Ni r1 e2
    refine nY ?_;clear nY
    refine sorted_N F N h1 hI (by rw[<-r1.length,<-ints?_length e2];exact q.1) fun h' vs' ns' ee F' N' a1 a2 a3=>?_
    have en:ns'=B9 ns:=I7 (a2.trans (Cm ns).symm) a3 (Ds ns)
    subst en
    have hz:((B9 ns).map V.int).length<=Cg:=by
     rw[List.length_map,(Cm ns).length_eq,ints?_length e2];exact z1
    obtain⟨e,R'⟩:=Mn (t:=s.toks) R Y F F' N' (Nat.le_succ _) (Ec (F8 a1) hz)
    exact Cb.mk (.ref _) R' (q.2 _ e)
   ·refine nY ?_;clear nY
    exact Si Y R F h1 r1 z1 q
  ·rename_i es e
   obtain⟨kvs,h1,r1,z1⟩:=R.isDict e
   obtain⟨ep,hat⟩:=h1.dictAt
   refine nY ?_;clear nY
   refine Sh (R.noSys Y e) hh hat (by rw[<-r1.length];exact Nat.le_trans z1 Cs) r1 (by rw[<-r1.length];exact q.1) fun D h' tk ee vs hn hlt hk ho hI=>?_
   have hb:W.b₀.objs.size<=D:=by
    refine Aa fun nY=>?_
    obtain⟨m,⟨o,_,_,h,_⟩,_⟩:=R.ns
    refine nY ?_;clear nY
    exact Nat.le_trans R.above (Nat.le_of_lt (hlt _ (by rw[h];simp)))
   exact Cb.mk (.ref _) (R.put tk hk ho (Ec (F8 hI) (by rw[List.length_map,(Cm _).length_eq,List.length_map];exact z1)) hn fun _ _=>hb) (q.2 _ (R.new_sep hn hb).1)
  ·exact q.elim
 case max=>
  replace q:Adv vs H Q:=q
  refine nY ?_;clear nY
  apply Ad1 hv q;intro v w u u' h h' q;apply Aq h q;intro i t q;apply Aq h' q;intro j t' q
  refine max_two_N hh F N fun h' tk F' N'=>?_
  have e:∀i j:Int,(if j>i then j else i)=max i j:=by intro i j;split<;>(first|lia|omega)
  rw[e]
  exact Cb.mk (.int _ _) (Ro R Y F F' N') q
 case min=>
  replace q:Adw vs H Q:=q
  refine nY ?_;clear nY
  apply Ad1 hv q;intro v w u u' h h' q;apply Aq h q;intro i t q;apply Aq h' q;intro j t' q
  refine min_two_N hh F N fun h' tk F' N'=>?_
  have e:∀i j:Int,(if j<i then j else i)=min i j:=by intro i j;split<;>(first|lia|omega)
  rw[e]
  exact Cb.mk (.int _ _) (Ro R Y F F' N') q
 case all=>
  replace q:Ll vs H Q:=q
  refine nY ?_;clear nY
  apply Ke hv q;intro v u h q;apply Cc h q;intro a q;refine F7 q fun xs e q=>?_;refine Cz q fun bs e2 q=>?_
  refine Aa fun nY=>?_
  obtain⟨l1,h1,r1,z1⟩:=R.isList e
  have hb:=Sg r1 e2
  subst hb
  refine nY ?_;clear nY
  refine call_all_walk (wpAny_pyIter_list h1 ?_)
  refine⟨_,_,_,_,_,_,fun i=>bs.getD i false,rfl,Walks.list (A:=A.in1) hh s.heap.objs.size _ (Nat.ne_of_lt (Heap.lt_size h1.choose_spec.1)) _,⟨⟨_,Heap.get?_push_size _ rfl,rfl,rfl⟩,h1.at fun o e=>Heap.get?_push_of_some _ e⟩,?_,?_⟩
  ·intro i v s' Q' E' hP hq
   have hP':bs[i]?.map Value.bool=some v:=by simpa using hP
   obtain⟨b,b1,rfl⟩:=Option.map_eq_some_iff.mp hP'
   refine wpAny_truthy_bool ?_
   have:bs.getD i false=b:=by simp[b1]
   exact this▸hq
  ·intro h' tk hk
   have:(bs.map Value.bool).toArray.size=bs.length:=by simp
   rw[this,Wr]
   refine Cb.mk (.bool _) (R.move tk fun b o e=>hk b o ?_ (Heap.get?_push_of_some _ e)) q
   intro hm;rw[List.mem_singleton.mp hm]at e;exact absurd (Heap.lt_size e) (Nat.lt_irrefl _)
 case any=>
  replace q:Lm vs H Q:=q
  refine nY ?_;clear nY
  apply Ke hv q;intro v u h q;apply Cc h q;intro a q;refine F7 q fun xs e q=>?_;refine Cz q fun bs e2 q=>?_
  refine Aa fun nY=>?_
  obtain⟨l1,h1,r1,z1⟩:=R.isList e
  have hb:=Sg r1 e2
  subst hb
  refine nY ?_;clear nY
  refine call_any_walk (wpAny_pyIter_list h1 ?_)
  refine⟨_,_,_,_,_,_,fun i=>bs.getD i false,rfl,Walks.list (A:=A.in1) hh s.heap.objs.size _ (Nat.ne_of_lt (Heap.lt_size h1.choose_spec.1)) _,⟨⟨_,Heap.get?_push_size _ rfl,rfl,rfl⟩,h1.at fun o e=>Heap.get?_push_of_some _ e⟩,?_,?_⟩
  ·intro i v s' Q' E' hP hq
   have hP':bs[i]?.map Value.bool=some v:=by simpa using hP
   obtain⟨b,b1,rfl⟩:=Option.map_eq_some_iff.mp hP'
   refine wpAny_truthy_bool ?_
   have:bs.getD i false=b:=by simp[b1]
   exact this▸hq
  ·intro h' tk hk
   have:(bs.map Value.bool).toArray.size=bs.length:=by simp
   rw[this,Ws]
   refine Cb.mk (.bool _) (R.move tk fun b o e=>hk b o ?_ (Heap.get?_push_of_some _ e)) q
   intro hm;rw[List.mem_singleton.mp hm]at e;exact absurd (Heap.lt_size e) (Nat.lt_irrefl _)
end Mine.Internal
namespace Mine.Internal
open PySem PySem.W PyProof.Rows
variable {W:Wd} {A:Around} {h₀:HB} {env:Env} {c:Cx} {names:List Str} {H:AH} {ρ:Aj} {s:Shared} {E:Value->Shared->Prop} {n:Nat} {Q:Af} {Er:EP}
noncomputable def Aer:LM->String
 | .append=> "list.append" | .clear=> "list.clear" | .count=> "list.count" | .extend=> "list.extend" | .index=> "list.index" | .remove=> "list.remove" | .reverse=> "list.reverse"
 | .setdefault=> "dict.setdefault" | .split=> "str.split" | .join=> "str.join"
theorem K9{vs:List Value}{ns:List Int}(h:IntsAre vs ns):∀j,IntsAre (vs.eraseIdx j) (ns.eraseIdx j):=by
 induction h with
 | nil=>exact fun _=> .nil
 | cons n t h ih=>
   intro j
   cases j with
   | zero=>exact h
   | succ j=>exact .cons n t (ih j)
theorem Wt{k:Int}{ns:List Int}(h:k∈ns):ns.erase k=ns.eraseIdx (ns.idxOf k):=by
 induction ns with
 | nil=>cases h
 | cons x r ih=>
   refine Aa fun nY=>?_
   by_cases e:x=k
   ·refine nY ?_;clear nY
    subst e;simp
   ·have:(x==k)=false:=by simpa using e
    refine nY ?_;clear nY
    rw[List.erase_cons,List.idxOf_cons,this]
    simp only[Bool.false_eq_true,if_false,cond_false,List.eraseIdx_cons_succ]
    rw[ih ((List.mem_cons.mp h).resolve_left fun q=>e q.symm)]
theorem Pe{k:Int}{l1:List Value}{ns:List Int}(hI:IntsAre l1 ns)(hk:k∈ns):∃h:ns.idxOf k<l1.toArray.size,isInt k l1.toArray[ns.idxOf k]=true/\∀m (hm:m<l1.toArray.size),m<ns.idxOf k->isInt k l1.toArray[m]=false:=by
 have hj:=List.idxOf_lt_length_of_mem hk
 have hl:ns.length=l1.length:=hI.length.symm
 have hj':ns.idxOf k<l1.length:=hl▸hj
 refine⟨by simpa using hj',?_,fun m hm hlt=>?_⟩
 ·have:=isInt_at k hI _ hj' hj
  simp only[List.getElem_toArray]
  rw[this]
  simp
 ·have hm':m<l1.length:=by simpa using hm
  have:=isInt_at k hI m hm' (hl▸hm')
  simp only[List.getElem_toArray]
  rw[this]
  exact ne_of_lt_idxOf hlt _
theorem Wu{l:Addr}{k:Int}{t:Tok}{l1:List Value}{ns:List Int}{nn:Nat}{Q:Value->Shared->Prop}(h1:s.heap.get? l=some {cls:= .type "list",data:= .seq l1.toArray nn})(hI:IntsAre l1 ns)(hk:k∈ns)
 (hz:(l1.length:Int)<2 ^ 63) (h:Q (.int (ns.idxOf k:Nat) s.toks) {s with toks:=s.toks+1}):wpAny W.M A (call (.builtin "list.index") [.ref l,.int k t]) Q E s:=by
 refine Aa fun nY=>?_
 obtain⟨a1,a2,a3⟩:=Pe hI hk
 refine nY ?_;clear nY
 refine call_meets F.slot_list_index ⟨_,h1,rfl⟩ F.entry_list_index (F.args_list_index_2 _ _) (SeqAt.list_indexAt l l1.toArray nn none #[] (.int k t) (isInt k) (ns.idxOf k) a1
  (by have:l1.toArray.size=l1.length:=by simp
      exact Aix hz a1 this) a2 a3) ⟨h1,fun y hy=>(eq_isInt k t hI y (by simpa using hy)).at _ _,h⟩
theorem T0{l:Addr}{k:Int}{t:Tok}{l1:List Value}{ns:List Int}{nn:Nat}{Q:Value->Shared->Prop}(h1:s.heap.get? l=some {cls:= .type "list",data:= .seq l1.toArray nn})(hI:IntsAre l1 ns)(hk:k∈ns)
 (hz:l1.length<=sizeLine) (h:Q .none {s with heap:=s.heap.update l (Obj.mapSeq fun xs=>xs.eraseIdxIfInBounds (ns.idxOf k))}):wpAny W.M A (call (.builtin "list.remove") [.ref l,.int k t]) Q E s:=by
 refine Aa fun nY=>?_
 obtain⟨a1,a2,a3⟩:=Pe hI hk
 refine nY ?_;clear nY
 exact call_meets F.slot_list_remove ⟨_,h1,rfl⟩ F.entry_list_remove (F.args_list_remove_2 _ _) (MeetsSeq.list_remove l l1.toArray nn (.int k t) (isInt k) (fun y hy=>eq_isInt k t hI y (by simpa using hy)) (ns.idxOf k) a1 a2 a3
  (by simpa using hz)) ⟨h1,h⟩
theorem T1(ok:Kz A c h₀ env Er n)(Y:Ah W env c h₀)(R:Al W h₀ env names H ρ s){m:LM}{o:V}{vs:List V}{uo:Value}{us:List Value}(ho:VR W o uo)(hv:Df W vs us)(q:Jz m o vs H Q) :
 wpAny W.M A (call (.builtin (Aer m)) (uo::us)) (Cb W h₀ env names ρ Q) E s:=by
 have b63:=Rv
 cases m<;>try exact q.elim
 case append=>
  replace q:Ge o vs H Q:=q
  apply Cc ho q;intro a q;apply Ke hv q;intro v u h q;refine F7 q fun xs e q=>?_
  obtain⟨l1,nn,h1,r1,z1⟩:=R.lst e
  refine call_meets F.slot_list_append ⟨_,h1,rfl⟩ F.entry_list_append (F.args_list_append_2 _ _) (list_append _ l1.toArray nn u (by simp[<-r1.length];exact Nat.le_trans z1 Cs)) ⟨h1,?_⟩
  exact Cb.mk .none (R.changeL e h1 (·.push u) (items':=l1 ++ [u]) (by simp) (r1.append (.cons h .nil)) (by simp;(first|lia|omega)) s.toks) q.2
 case clear=>
  replace q:Jc o vs H Q:=q
  apply Cc ho q;intro a q;apply Agw hv q;intro q;refine F7 q fun xs e q=>?_
  obtain⟨l1,nn,h1,r1,z1⟩:=R.lst e
  refine call_meets F.slot_list_clear ⟨_,h1,rfl⟩ F.entry_list_clear (F.args_list_clear_1 _) (AutoSeq1.list_clear_list_0 _ l1.toArray nn (by simp[<-r1.length];exact Nat.le_trans z1 Cs)) ⟨h1,?_⟩
  exact Cb.mk .none (R.changeL e h1 (fun _=> #[]) (items':=[]) (by simp) .nil (by simp) s.toks) q
 case extend=>
  replace q:E7 o vs H Q:=q
  delta E7 at q
  split at q
  ·obtain⟨u,rfl,h⟩:=Ajj hv
   cases ho;cases h
   split at q
   ·rename_i xs ys e1 e2
    obtain⟨l1,nn,h1,r1,z1⟩:=R.lst e1
    obtain⟨l2,n2,h2,r2,z2⟩:=R.lst e2
    have hz:l1.length+l2.length<=1048576:=by rw[<-r1.length,<-r2.length];exact q.1.2
    refine call_meets F.slot_list_extend ⟨_,h1,rfl⟩ F.entry_list_extend (F.args_list_extend_2 _ _)
     (AutoSeq1.list_extend_list_list_0 _ l1.toArray nn _ l2.toArray n2 (by simp[Builtin.List.listTooLong,sizeLine];(first|lia|omega)) (by simp[sizeLine];(first|lia|omega)) (by simp[sizeLine];(first|lia|omega))) ⟨h1,h2,?_⟩
    exact Cb.mk .none (R.changeL e1 h1 (· ++ l2.toArray) (items':=l1++l2) (by simp) (r1.append r2) (by simpa using q.1.2) s.toks) q.2
   ·exact q.elim
  ·exact q.elim
 case index=>
  replace q:Jd o vs H Q:=q
  apply Cc ho q;intro a q;apply Ke hv q;intro v u h q;refine F7 q fun xs e q=>?_
  induction h with
  | int k t=>
    refine Cz q fun ns e2 q=>?_
    obtain⟨l1,nn,h1,r1,z1⟩:=R.lst e
    exact Wu h1 (Ni r1 e2) q.1 (by rw[<-r1.length];(first|lia|omega)) (Cb.mk (.int _ _) (R.toks _) q.2)
  | _=>exact False.elim q
 case remove=>
  replace q:Gf o vs H Q:=q
  apply Cc ho q;intro a q;apply Ke hv q;intro v u h q;apply Aq h q;intro k t q;refine F7 q fun xs e q=>?_;refine Cz q fun ns e2 q=>?_
  obtain⟨l1,nn,h1,r1,z1⟩:=R.lst e
  have hI:=Ni r1 e2
  refine T0 h1 hI q.1 (by rw[<-r1.length];exact Nat.le_trans z1 Cs) ?_
  refine Cb.mk .none (R.changeL e h1 (fun xs=>xs.eraseIdxIfInBounds _) (items':=l1.eraseIdx _) (by simp;rfl) ?_ ?_ s.toks) q.2
  ·rw[Wt q.1];exact F8 (K9 hI _)
  ·rw[List.length_map,List.length_erase_of_mem q.1,ints?_length e2];(first|lia|omega)
end Mine.Internal
namespace Mine.Internal
open PySem PySem.W PyProof.Rows
variable {W:Wd} {A:Around} {h₀:HB} {env:Env} {c:Cx} {names:List Str} {H:AH} {ρ:Aj} {s:Shared} {E:Value->Shared->Prop} {n:Nat} {Q:Af} {Er:EP}
theorem Qf{b₀:Heap}{L:Addr}{h:Heap}:(Gq b₀ L h).Pairwise fun p q=>p.1≠q.1:=by
 unfold Gq
 rw[List.pairwise_filterMap]
 refine List.nodup_range.imp ?_
 intro a b hab p hp q hq
 split at hp
 ·cases hp
 ·split at hq
  ·cases hq
  ·obtain⟨o1,_,rfl⟩:=Option.map_eq_some_iff.mp hp
   obtain⟨o2,_,rfl⟩:=Option.map_eq_some_iff.mp hq
   exact hab
theorem Np{d:Addr}{o o':Obj}:∀ {l:List (Addr×Obj)},l.Pairwise (fun p q=>p.1≠q.1)->(d,o)∈l->(Hn fun l'=>Fx (Upd d o o' l l') ((d,o')∈l') (∀p∈l,p.1≠d->p∈l'))
 | [],_,h=>nomatch h
 | p::r,hp,hm=>by
   obtain⟨h1,h2⟩:=List.pairwise_cons.mp hp
   rcases List.mem_cons.mp hm with rfl|hm
   ·exact⟨_,.head fun q hq=>(h1 q hq).symm,.head _,fun q hq hne=>by
     rcases List.mem_cons.mp hq with rfl|hq
     ·exact absurd rfl hne
     ·exact .tail _ hq⟩
   ·obtain⟨l',u,m,k⟩:=Np h2 hm
    exact⟨_,.tail (h1 _ hm) u,.tail _ m,fun q hq hne=>by
     rcases List.mem_cons.mp hq with rfl|hq
     ·exact .head _
     ·exact .tail _ (k q hq hne)⟩
theorem Al.changeK(R:Al W h₀ env names H ρ s)(Y:Ah W env c h₀){h':Heap}{a:Addr}{o o':O}{ob:Obj}{m:Str->Option Value}(t:Nat)(he:H a=some o')(hm:s.heap.Ns env.locals m)(hm':h'.Ns env.locals m)
 (k:∀b o,b≠a->b≠env.locals->s.heap.get? b=some o->h'.get? b=some o) (ho:h'.get? a=some ob) (r:OR W o ob) (hl:∀es,o = .dict es->∃es',o' = .dict es'):Al W h₀ env names (upd H a o) ρ {s with heap:=h',toks:=t}:=by
 refine Aa fun nY=>?_
 obtain⟨s1,s2,s3⟩:=R.sep a o' he
 refine nY ?_;clear nY
 refine⟨?_,?_,?_,?_,?_,R.gens,R.os,R.above,?_⟩
 ·refine Aa fun nY=>?_
  obtain⟨m₁,h1,h2⟩:=R.ns
  refine nY ?_;clear nY
  refine⟨m,hm',fun x i v e1 e2 e3=>?_⟩
  refine Aa fun nY=>?_
  obtain⟨c,h3,h4⟩:=h2 x i v e1 e2 e3
  refine nY ?_;clear nY
  refine⟨c,?_,h4⟩
  refine Aa fun nY=>?_
  obtain⟨o,es,ep,a1,a2,a3,a4⟩:=h1
  obtain⟨o',es',ep',b1,b2,b3,b4⟩:=hm
  rw[a1]at b1;cases b1
  rw[a2]at b2;cases b2
  refine nY ?_;clear nY
  rw[<-b4,a4];exact h3
 ·intro x c e
  refine Aa fun nY=>?_
  obtain⟨w,⟨oc,hc,hd⟩,r⟩:=R.cell x c e
  refine nY ?_;clear nY
  exact⟨w,⟨oc,k _ _ (fun q=>s3 x (q▸e)) (Y.apart x c e) hc,hd⟩,r⟩
 ·intro b x e
  refine Aa fun nY=>?_
  obtain⟨x',e1,z⟩:=R.keep b x e
  refine nY ?_;clear nY
  exact⟨x',k b x' (fun q=>by rw[q,s1]at e;cases e) (fun q=>by rw[q,Y.new]at e;cases e) e1,z⟩
 ·intro b x e
  unfold upd at e
  refine Aa fun nY=>?_
  split at e
  ·refine nY ?_;clear nY
   rename_i q;subst q;cases e;exact⟨ob,ho,r⟩
  ·refine nY ?_;clear nY
   rename_i q;obtain⟨ob',h1,h2⟩:=R.objs b x e;exact⟨ob',k _ _ q (R.sep b x e).2.1 h1,h2⟩
 ·intro b x e
  unfold upd at e
  refine Aa fun nY=>?_
  split at e
  ·refine nY ?_;clear nY
   rename_i q;subst q;exact⟨s1,s2,s3⟩
  ·refine nY ?_;clear nY
   exact R.sep b x e
 ·intro b x e
  unfold upd at e
  refine Aa fun nY=>?_
  split at e
  ·refine nY ?_;clear nY
   rename_i q;subst q;obtain⟨es',rfl⟩:=hl _ (Option.some.inj e);exact R.low b _ he
  ·refine nY ?_;clear nY
   exact R.low b x e
noncomputable def Vr:List Ee:=[.many,.rows]
theorem Nq(a:Ee):a∈Vr:=by cases a<;>decide
theorem L4{a b:Ee}(h:A4 a=A4 b):a=b:=by
 cases a<;>cases b<;>first|rfl|(revert h;decide)
noncomputable def Qg(K:Frag)(C:Addr):Bool:=
 hasDictIn K C&&plainOver K C&&findIn K (.ref C) "__setattr__" == some (some (.builtin "object.__setattr__")) &&
 Vr.all fun a=>plainGet K C (A4 a)&&findIn K (.ref C) (A4 a)==some none&&takerIn K C (A4 a)==some none
structure Qh(K:Frag)(C:Addr):Prop where
 dict:hasDictIn K C=true
 over:plainOver K C=true
 set:findIn K (.ref C) "__setattr__" = some (some (.builtin "object.__setattr__"))
 get:∀a,plainGet K C (A4 a)=true
 noc:∀a,findIn K (.ref C) (A4 a)=some none
 take:∀a,takerIn K C (A4 a)=some none
theorem La{K:Frag}{C:Addr}(h:Qg K C=true):Qh K C:=by
 unfold Qg at h
 simp only[Bool.and_eq_true,beq_iff_eq,List.all_eq_true]at h
 obtain⟨⟨⟨h1,h2⟩,h3⟩,h4⟩:=h
 exact⟨h1,h2,h3,fun a=>(h4 a (Nq a)).1.1,fun a=>(h4 a (Nq a)).1.2,fun a=>(h4 a (Nq a)).2⟩
theorem T2(x:Str)(t:Tok):(Value.str x t).isStr x=true:=by simp[Value.isStr]
theorem H7{x y:Str}(h:x≠y)(t:Tok):(Value.str x t).isStr y=false:=by simpa[Value.isStr]using h
theorem Wk.get{fs:List (Ee×V)}{es:List DictEntry}(h:Wk W fs es)(a:Ee):match Md fs a with
 | some v=>∃c,getL (A4 a) es=some (some c)/\VR W v c
 | none=>getL (A4 a) es=some none:=by
 have noref:es.any (·.refKey)=false:=by
  induction h with
  | nil=>rfl
  | cons h1 h2 _ _ ih=>obtain⟨t,h2⟩:=h2;simp only[List.any_cons,ih,Bool.or_false];simp[DictEntry.refKey,h2]
 have key:match Md fs a with
  | some v=>∃e,es.find? (·.key.isStr (A4 a))=some e/\VR W v e.val
  | none=>es.find? (·.key.isStr (A4 a))=none:=by
  clear noref
  induction h with
  | nil=>rfl
  | @cons b v fs e es h1 h2 h3 _ ih=>
    obtain⟨t,h2⟩:=h2
    unfold Md at ih ⊢
    rw[List.lookup_cons,List.find?_cons]
    by_cases q:a=b
    ·subst q;simp only[beq_self_eq_true,h1];exact⟨e,rfl,h3⟩
    ·have q1:(a==b)=false:=by simpa using q
     have q2:e.key.isStr (A4 a)=false:=by rw[h2];exact H7 (fun z=>q (L4 z.symm)) t
     simp only[q1,q2];exact ih
 unfold getL
 cases hg:Md fs a with
 | some v=>rw[hg]at key;obtain⟨e,e1,e2⟩:=key;exact⟨_,by rw[e1],e2⟩
 | none=>rw[hg]at key;simp only at key ⊢;rw[key,noref];rfl
theorem Wk.put{fs:List (Ee×V)}{es:List DictEntry}(h:Wk W fs es)(a:Ee){v:V}{c:Value}(hv:VR W v c)(hsh:Int)(t:Tok):Wk W (Me fs a v) (putL (A4 a) hsh (.str (A4 a) t) c es):=by
 induction h with
 | nil=>exact .cons (T2 _ _) ⟨t,rfl⟩ hv .nil
 | @cons b v' fs e es h1 h2 h3 h4 ih=>
   obtain⟨t',h2⟩:=h2
   unfold Me putL
   by_cases q:a=b
   ·subst q;rw[if_pos rfl,h1];exact .cons h1 ⟨t',h2⟩ hv h4
   ·have q2:e.key.isStr (A4 a)=false:=by rw[h2];exact H7 (fun z=>q (L4 z.symm)) t'
    rw[if_neg q,q2];exact .cons h1 ⟨t',h2⟩ h3 ih
theorem Wk.length{fs:List (Ee×V)}{es:List DictEntry}(h:Wk W fs es):fs.length=es.length:=by
 induction h with
 | nil=>rfl
 | cons _ _ _ _ ih=>simp[ih]
theorem Sj(fs:List (Ee×V))(a:Ee)(v:V):(Me fs a v).length<=fs.length+1:=by
 induction fs with
 | nil=>simp[Me]
 | cons p t ih=>
   obtain⟨b,w⟩:=p
   unfold Me
   split
   ·simp
   ·simp only[List.length_cons];exact Nat.succ_le_succ ih
theorem Al.inst(R:Al W h₀ env names H ρ s){a d:Addr}{cc:Dc}{fs:List (Ee×V)}(h1:H a=some (.inst cc d))(h2:H d=some (.ns fs)) :
 (cc = .web\/cc = .verdict)/\(Ho fun es n=>Jy (InstAt s.heap a (instObj (W.cl cc) d) (W.cl cc) (some (dictOf es n))) (Wk W fs es) (fs.length<=10) (s.heap.get? d=some (dictOf es n))):=by
 refine Aa fun nY=>?_
 obtain⟨o1,a1,a2⟩:=R.objs _ _ h1
 obtain⟨o2,b1,b2⟩:=R.objs _ _ h2
 cases a2 with
 | inst hcc=>
   cases b2 with
   | ns r z=>(refine nY ?_;clear nY;exact⟨hcc,_,_,⟨a1,rfl,rfl,b1⟩,r,z,b1⟩)
theorem Aes{v:V}{c:Value}(h:VR W v c):handedIn c=true:=by induction h<;>rfl
theorem Op(Y:Ah W env c h₀)(X:W.K.In W.b₀)(I:∀cc,cc = .web\/cc = .verdict->Qh W.K (W.cl cc))(R:Al W h₀ env names H ρ s){o:V}{u:Value}{a:Ee}{b:Bool}(ho:VR W o u)(q:getAttr o a H Q) :
 wpAny W.M A (PySem.getAttr u (A4 a) b) (Cb W h₀ env names ρ Q) E s:=by
 obtain⟨m,F⟩:=R.kitF Y
 delta Mine.Internal.getAttr at q
 apply Cc ho q
 intro x q
 refine Rn q fun cc d e1 q=>?_
 refine Tr q fun fs e2 q=>?_
 refine Cz q fun v e3 q=>?_
 refine Aa fun nY=>?_
 obtain⟨hcc,es,nn,i1,r1,z1,_⟩:=R.inst e1 e2
 have K:=I cc hcc
 have:=r1.get a
 rw[e3]at this
 obtain⟨cv,g1,g2⟩:=this
 refine nY ?_;clear nY
 exact get_own F X i1 (K.get a) K.dict (K.noc a) rfl g1 (Aes g2) (Cb.mk g2 (R.toks _) q)
theorem Oq(Y:Ah W env c h₀)(X:W.K.In W.b₀)(I:∀cc,cc = .web\/cc = .verdict->Qh W.K (W.cl cc))(R:Al W h₀ env names H ρ s){o v:V}{u uv:Value}{a:Ee}(ho:VR W o u)(hv:VR W v uv){N:AH->Prop}(q:setAttr o a v H N) :
 wpAny W.M A (PySem.setAttr u (A4 a) uv) (fun _ s'=>Agx W h₀ env names ρ N s') E s:=by
 obtain⟨m,F⟩:=R.kitF Y
 delta Mine.Internal.setAttr at q
 apply Cc ho q
 intro x q
 refine Rn q fun cc d e1 q=>?_
 refine Tr q fun fs e2 q=>?_
 refine Aa fun nY=>?_
 obtain⟨hcc,es,nn,i1,r1,z1,hd⟩:=R.inst e1 e2
 have K:=I cc hcc
 obtain⟨s1,s2,s3⟩:=R.sep _ _ e2
 have hbn:W.b₀.get? d=none:=by
  cases q:W.b₀.get? d with
  | none=>rfl
  | some o=>have:=Y.base _ _ q;rw[s1]at this;cases this
 have hmem:(d,dictOf es nn)∈Gq W.b₀ env.locals s.heap:=Gs.mpr ⟨s2,hbn,hd⟩
 obtain⟨news',U,m1,m2⟩:=Np (o':=dictOf (putL (A4 a) (PyData.keyHash W.w.params (A4 a)) (.str (A4 a) (s.toks+1)) uv es) (putN (A4 a) es nn)) Qf hmem
 have r2:=r1.put a hv (PyData.keyHash W.w.params (A4 a)) (s.toks+1)
 refine nY ?_;clear nY
 refine set_dict F X Wl i1 rfl K.set K.over (K.take a) K.dict ?_ rfl U ?_ fun h' F' N'=>?_
 ·have:=r1.get a
  refine Aa fun nY=>?_
  split at this
  ·refine nY ?_;clear nY
   obtain⟨c,g1,_⟩:=this;rw[g1];rfl
  ·refine nY ?_;clear nY
   rw[this];rfl
 ·rw[<-r2.length];exact Nat.le_trans (Sj _ _ _) (Nat.lt_of_le_of_lt z1 (by decide))
 ·have k:∀b o,b≠d->b≠env.locals->s.heap.get? b=some o->h'.get? b=some o:=fun b o hb hl e=>by
   cases q:W.b₀.get? b with
   | some o'=>have e1:=R.keepB Y b o' q;rw[e]at e1;cases e1;exact F'.keep b _ q
   | none=>exact(N' (b,o) (m2 _ (Gs.mpr ⟨hl,q,e⟩) hb)).1
  exact⟨_,R.changeK Y _ e2 F.ns F'.ns k (N' _ m1).1 (.ns r2 (Nat.le_trans (Sj _ _ _) q.1)) (fun _ q=>by cases q),q.2⟩
end Mine.Internal
namespace Mine.Internal
open PySem PySem.W PyProof.Rows
variable {W:Wd} {G:Ax} {A:Around} {h₀:HB} {env:Env} {c:Cx} {names:List Str} {H:AH} {ρ:Aj} {s:Shared} {E:Value->Shared->Prop} {n:Nat} {Q:Af} {Er:EP}
noncomputable def Ir:List Str:=["len","list","sorted","max","min","all","any","isinstance","range","enumerate","reversed","set","str","int","bool","tuple","ValueError"]
noncomputable def E2(W:Wd)(f:Str):Option Addr:=
 match Ei f with
 | some (cc,m)=>(match findIn W.K (.ref (W.cl cc)) m with|some (some (.ref a))=>some a|_=>none)
 | none=>(match nsIn W.K mainGlobals (H5 f)with|some (some (.ref a))=>some a|_=>none)
structure Acl(W:Wd)(hb:Bool)(fa:Addr)(d:Fn)(name qual:Str)(params:Arguments)(body:List Stmt)(scope:Scope)(doc pm cdv ct oc:Value)(an od:Option Addr)(osl:Array (Option Value)):Prop where
 at_:W.K.lookup fa=some ⟨oc,od,.func (fnOf name qual params body scope .none .none doc pm an cdv ct),osl⟩
 typ:oc = .type "function"
 code:codeIn W.K cdv qual=true
 er:Ab2 hb params body scope=some d
 nodup:(params.args.map (·.arg)).Nodup
 kinds:∀x∈params.args.map (·.arg),scope.names.lookup x=some .local\/scope.names.lookup x=some .cell
 cells:((cellsFrom 0 scope.names []).map (·.1)).Nodup
 names:(Cj params scope).Nodup
 nofree:∀p∈scope.names,p.2≠ .free
structure F9(W:Wd)(G:Ax):Prop where
 X:W.K.In W.b₀
 top:(Ex4 fun p loose mg mb=>TopRead p loose mg mb W.b₀)
 inst:∀cc,cc = .web\/cc = .verdict->Qh W.K (W.cl cc)
 bi:∀x∈Ir,nsIn W.K mainGlobals x=some none
 const:∀g v,G.const g=some v->∃c,nsIn W.K mainGlobals g=some (some c)/\VR W v c
 fn:∀f d,G.fn f=some d->∃fa,E2 W f=some fa/\∃name qual params body scope doc pm cdv ct oc an od osl,Acl W (Ka f) fa d name qual params body scope doc pm cdv ct oc an od osl
 make:∀cc,cc = .web\/cc = .verdict->(G.fn (Fl cc)).isSome=true->nsIn W.K mainGlobals (match cc with | .web=> "Web" | _=> "Verdict")=some (some (.ref (W.cl cc)))/\makesIn W.K (W.cl cc)=true
 exc:∀cc,G.exc cc=true->L2 W cc
 sub:∀cc cc',L2 W cc->L2 W cc'->(Nh W.K (W.cl cc)).contains (.ref (W.cl cc'))=(cc==cc'||cc' == .webError)
 meth:∀f m fa,Ei f=some (.web,m)->E2 W f=some fa->plainGet W.K (W.cl .web) m=true/\(∀a,A4 a≠m)
noncomputable def SE(W:Wd)(G:Ax)(n:Nat)(c:Cx)(e:Expr)(x:X):Prop:=
 ∀ {A:Around} {env:Env} {h₀:HB} {H:AH} {ρ:Aj} {s:Shared} {Q:Af} {E:EP},Kz A c h₀ env E n->Ah W env c h₀->Al W h₀ env c.names H ρ s->Am G (Ad G n) x ρ H Q E->
  wpAny W.M A (eval e env) (Cb W h₀ env c.names ρ Q) (EM W h₀ env c.names ρ E) s
noncomputable def ST(W:Wd)(G:Ax)(n:Nat)(c:Cx)(e:Expr)(x:X):Prop:=
 ∀ {A:Around} {env:Env} {h₀:HB} {H:AH} {ρ:Aj} {s:Shared} {Q:Bool->AH->Prop} {E:EP},Kz A c h₀ env E n->Ah W env c h₀->Al W h₀ env c.names H ρ s->
  Am G (Ad G n) x ρ H (fun v H=>truthy v fun b=>Q b H) E->
  wpAny W.M A (isTrue e env (eval e env)) (fun b s'=>∃H',Al W h₀ env c.names H' ρ s'/\Q b H') (EM W h₀ env c.names ρ E) s
noncomputable def Tf(W:Wd)(G:Ax)(n:Nat)(c:Cx)(es:List Expr)(xs:List X):Prop:=
 ∀ {A:Around} {env:Env} {h₀:HB} {H:AH} {ρ:Aj} {s:Shared} {Q:List V->AH->Prop} {E:EP} {pos:Pos},Kz A c h₀ env E n->Ah W env c h₀->Al W h₀ env c.names H ρ s->Cw G (Ad G n) xs ρ H Q E->
  wpAny W.M A (spliced (backTo pos (starEach es env))) (fun vs s'=>(Ho fun as H'=>Jy (Df W as vs) (as.length=es.length) (Al W h₀ env c.names H' ρ s') (Q as H'))) (EM W h₀ env c.names ρ E) s
noncomputable def SC(W:Wd)(G:Ax)(n:Nat):Prop:=
 ∀ {A:Around} {env:Env} {c:Cx} {h₀:HB} {H:AH} {ρ:Aj} {s:Shared} {Q:Af} {E:EP} {f:Str} {fa:Addr} {vs:List V} {us:List Value},
  (Ka f=false->A.handled=none)->A.depth+4*n+2<recursionLimit->A.units+30*n+40<cLine->Stk A (env.locals::h₀.fs)->Ah W env c h₀->Al W h₀ env c.names H ρ s->E2 W f=some fa->Df W vs us->Ad G n f vs H Q E->
  codeAny W.M A (.call (.ref fa) ⟨us,[]⟩) (fun r s'=>match r with | .ok (.ret v)=>Cb W h₀ env c.names ρ Q v s' | .ok _=>False | .error e=>EM W h₀ env c.names ρ E e s') s
theorem SE.toST(h:SE W G n c e x)(hp:∀env whole,isTrue e env whole=(do let v <-whole;standAt e.pos;holding [v] (PySem.truthy v))):ST W G n c e x:=by
 intro A env h₀ H ρ s Q E ok Y R q
 refine isTrue_plain (wpAny_mono (h ok Y R q) (fun v s' r=>?_) fun _ _ e=>e) (hp _ _)
 refine Aa fun nY=>?_
 obtain⟨a,H',hv,R',q'⟩:=r
 delta truthy at q'
 split at q'
 ·refine nY ?_;clear nY
  cases hv;exact wpAny_truthy_bool ⟨H',R',q'⟩
 ·exact q'.elim
theorem Be{e:Expr}(h:∀v p,e≠ .Starred v p)(rest:List Expr)(env:Env):starEach (e::rest) env=(false,eval e env)::starEach rest env:=by
 cases e<;>first|rfl|exact absurd rfl (h _ _)
theorem Vs:Tf W G n c [] []:=by
 intro A env h₀ H ρ s Q E pos ok Y R q
 exact Calls.spliced_nil ⟨[],H,.nil,rfl,R,q⟩
theorem Sk{e:Expr}{es:List Expr}{x:X}{xs:List X}(h:SE W G n c e x)(hs:Tf W G n c es xs)(hn:∀v p,e≠ .Starred v p):Tf W G n c (e::es) (x::xs):=by
 intro A env h₀ H ρ s Q E pos ok Y R q
 rw[Be hn]
 refine Calls.spliced_cons (wpAny_mono (h ok Y R q) (fun v s' r=>?_) fun _ _ e=>e)
 refine Aa fun nY=>?_
 obtain⟨a,H',hv,R',q'⟩:=r
 refine nY ?_;clear nY
 refine wpAny_mono (hs ok Y R' q') (fun vs s'' r=>?_) fun _ _ e=>e
 refine Aa fun nY=>?_
 obtain⟨as,H'',hvs,hl,R'',q''⟩:=r
 refine nY ?_;clear nY
 exact⟨a::as,H'',.cons hv hvs,by simp[hl],R'',q''⟩
theorem Yt{x:Str}{p:Pos}{i:Nat}(hs:c.slot x=some i)(hd:(x==("__debug__" :Str))=false)(hc:(x==("__classdict__" :Str))=false):SE W G n c (.Name x p) (.var i):=by
 intro A env h₀ H ρ s Q E ok Y R q
 simp only[Zb,Zc,Zd,Ze,Zf,Zg,Zh,Zi,Zj,Zk,Zl,Zm,Zn,Zo,Zp,Zq,Cq,Zr,Zs,Zt,Zu,Zv,A6,Dy,Bx,Ao,Zw,Zx,A3,Co,A5,B5]at q
 refine Aa fun nY=>?_
 split at q
 ·rename_i v e
  unfold Cx.slot at hs
  split at hs
  ·rename_i hv
   refine nY ?_;clear nY
   refine wpAny_Name ?_ hd
   have key:env.kindOf x=some .local\/env.kindOf x=some .cell\/env.kindOf x=some .free:=by
    cases hk:c.sc.names.lookup x with
    | none=>rw[hk]at hv;cases hv
    | some k=>
      refine Aa fun nY=>?_
      cases k with
      | «local» =>(refine nY ?_;clear nY;exact .inl (Y.kinds x _ hk (by simp)))
      | cell=>(refine nY ?_;clear nY;exact .inr (.inl (Y.kinds x _ hk (by simp))))
      | free=>(refine nY ?_;clear nY;rcases Y.frees x hk with h|h<;>simp[h])
      | _=>rw[hk]at hv;cases hv
   refine Aa fun nY=>?_
   rcases key with h|h|h
   ·obtain⟨m,h1,h2⟩:=R.ns
    obtain⟨cv,h3,h4⟩:=h2 x i v hs h e
    refine nY ?_;clear nY
    exact wpAny_loadName_local Y.kind h h1 h3 (Cb.mk h4 R q)
   ·obtain⟨a,ha⟩:=Y.cells x (.inl h)
    obtain⟨w,h1,h2⟩:=R.cell x a ha
    obtain⟨cv,rfl,h4⟩:=h2 i v hs (.inl h) e
    refine nY ?_;clear nY
    exact wpAny_loadName_cell Y.kind h ha h1 (Cb.mk h4 R q)
   ·obtain⟨a,ha⟩:=Y.cells x (.inr h)
    obtain⟨w,h1,h2⟩:=R.cell x a ha
    obtain⟨cv,rfl,h4⟩:=h2 i v hs (.inr h) e
    refine nY ?_;clear nY
    exact wpAny_loadName_free Y.kind h ha h1 (Cb.mk h4 R q) hc
  ·cases hs
 ·exact q.elim
theorem D5(g:F9 W G)(Y:Ah W env c h₀)(R:Al W h₀ env names H ρ s){x:Str}{p:Pos}{v:Value}{Q:Value->Shared->Prop}(hg:c.global x=true)(hd:(x==("__debug__" :Str))=false)(e:nsIn W.K mainGlobals x=some (some v))(h:Q v s) :
 wpAny W.M A (eval (.Name x p) env) Q E s:=by
 obtain⟨pp,loose,mg,mb,T⟩:=g.top
 have hx:env.kindOf x=some .globalImplicit:=Y.kinds x _ (by simpa[Cx.global]using hg) (by simp)
 have k:∀b o,W.b₀.get? b=some o->s.heap.get? b=some o:=R.keepB Y
 exact Calls.Name_function_global Y.kind hx (Calls.loadGlobal_global (by rw[Y.globals];exact T.g.keeps k) (mg_of g.X T.g e) h) hd
theorem Jm(g:F9 W G)(Y:Ah W env c h₀)(R:Al W h₀ env names H ρ s){x:Str}{p:Pos}{v:Value}{Q:Value->Shared->Prop}(hg:c.global x=true)(hd:(x==("__debug__" :Str))=false)(hx':x∈Ir)
 (hv:bootBuiltins x=some v) (hn:x≠ "__name__") (h:Q v s):wpAny W.M A (eval (.Name x p) env) Q E s:=by
 obtain⟨pp,loose,mg,mb,T⟩:=g.top
 have hx:env.kindOf x=some .globalImplicit:=Y.kinds x _ (by simpa[Cx.global]using hg) (by simp)
 have k:∀b o,W.b₀.get? b=some o->s.heap.get? b=some o:=R.keepB Y
 exact Calls.Name_function_global Y.kind hx (Calls.loadGlobal_builtin (by rw[Y.globals];exact T.g.keeps k) (mg_none_of g.X T.g (g.bi x hx')) (by rw[Y.builtins];exact T.b.keeps k) ((T.builtins x hn).trans hv) h) hd
theorem Acm(g:F9 W G){x:Str}{p:Pos}(hg:c.global x=true)(hd:(x==("__debug__" :Str))=false):SE W G n c (.Name x p) (.glob x):=by
 intro A env h₀ H ρ s Q E ok Y R q
 simp only[Zb,Zc,Zd,Ze,Zf,Zg,Zh,Zi,Zj,Zk,Zl,Zm,Zn,Zo,Zp,Zq,Cq,Zr,Zs,Zt,Zu,Zv,A6,Dy,Bx,Ao,Zw,Zx,A3,Co,A5,B5]at q
 refine Aa fun nY=>?_
 split at q
 ·rename_i v e
  obtain⟨cv,h1,h2⟩:=g.const x v e
  refine nY ?_;clear nY
  exact D5 g Y R hg hd h1 (Cb.mk h2 R q)
 ·exact q.elim
theorem Kh{f:Str}{fa:Addr}(ho:Ei f=none)(h:E2 W f=some fa):nsIn W.K mainGlobals (H5 f)=some (some (.ref fa)):=by
 delta E2 at h
 rw[ho]at h
 simp only at h
 split at h
 ·rename_i e;cases h;exact e
 ·cases h
theorem Acn{k:Nat}{p:Pos}:SE W G n c (.Constant .none k p) .cnone:=by
 intro A env h₀ H ρ s Q E ok Y R q
 exact fun _ _ _=>Cb.mk .none R q
theorem Yu{b:Bool}{k:Nat}{p:Pos}:SE W G n c (.Constant (.bool b) k p) (.cbool b):=by
 intro A env h₀ H ρ s Q E ok Y R q
 exact fun _ _ _=>Cb.mk (.bool b) R q
theorem Aco{i:Int}{k:Nat}{p:Pos}:SE W G n c (.Constant (.int i) k p) (.cint i):=by
 intro A env h₀ H ρ s Q E ok Y R q
 exact fun _ _ _=>Cb.mk (.int i _) (R.toks _) q
theorem Vt{x:Str}{k:Nat}{p:Pos}:SE W G n c (.Constant (.str x) k p) (.cstr x):=by
 intro A env h₀ H ρ s Q E ok Y R q
 exact fun _ _ _=>Cb.mk (.str x _) (R.toks _) q
theorem Aet{e:Expr}{x:X}{p:Pos}(h:SE W G n c e x):SE W G n c (.UnaryOp .Not e p) (.not x):=by
 intro A env h₀ H ρ s Q E ok Y R q
 simp only[Zb,Zc,Zd,Ze,Zf,Zg,Zh,Zi,Zj,Zk,Zl,Zm,Zn,Zo,Zp,Zq,Cq,Zr,Zs,Zt,Zu,Zv,A6,Dy,Bx,Ao,Zw,Zx,A3,Co,A5,B5]at q
 refine UnaryOp_ (wpAny_mono (h ok Y R q) (fun v s' r=>?_) fun _ _ e=>e)
 refine Aa fun nY=>?_
 obtain⟨a,H',hv,R',q'⟩:=r
 delta truthy at q'
 split at q'
 ·refine nY ?_;clear nY
  cases hv;exact not_of (wpAny_truthy_bool (Cb.mk (.bool _) R' q'))
 ·exact q'.elim
theorem Aeu{e:Expr}{x:X}{p:Pos}(h:ST W G n c e x):ST W G n c (.UnaryOp .Not e p) (.not x):=by
 intro A env h₀ H ρ s Q E ok Y R q
 refine isTrue_not (wpAny_mono (h (Q:=fun b H=>Q (!b) H) ok Y R ?_) (fun b s' r=>r) fun _ _ e=>e)
 exact q
theorem Aev{e:Expr}{x:X}{p:Pos}(h:SE W G n c e x):SE W G n c (.UnaryOp .USub e p) (.neg x):=by
 intro A env h₀ H ρ s Q E ok Y R q
 simp only[Zb,Zc,Zd,Ze,Zf,Zg,Zh,Zi,Zj,Zk,Zl,Zm,Zn,Zo,Zp,Zq,Cq,Zr,Zs,Zt,Zu,Zv,A6,Dy,Bx,Ao,Zw,Zx,A3,Co,A5,B5]at q
 refine UnaryOp_ (wpAny_mono (h ok Y R q) (fun v s' r=>?_) fun _ _ e=>e)
 obtain⟨a,H',hv,R',q'⟩:=r
 revert q';intro q'
 split at q'
 ·cases hv;exact neg_int (Cb.mk (.int _ _) (R'.toks _) q')
 ·exact q'.elim
theorem Aew{e e2:Expr}{rest:List Expr}{x y:X}{p:Pos}(h:SE W G n c e x)(h2:SE W G n c (.BoolOp .And (e2::rest) p) y):SE W G n c (.BoolOp .And (e::e2::rest) p) (.and x y):=by
 intro A env h₀ H ρ s Q E ok Y R q
 simp only[Zb,Zc,Zd,Ze,Zf,Zg,Zh,Zi,Zj,Zk,Zl,Zm,Zn,Zo,Zp,Zq,Cq,Zr,Zs,Zt,Zu,Zv,A6,Dy,Bx,Ao,Zw,Zx,A3,Co,A5,B5]at q
 refine BoolOp_and (wpAny_mono (h ok Y R q) (fun v s' r=>?_) fun _ _ e=>e)
 refine Aa fun nY=>?_
 obtain⟨a,H',hv,R',q'⟩:=r
 delta truthy at q'
 split at q'
 ·rename_i b
  cases hv
  refine nY ?_;clear nY
  refine wpAny_truthy_bool ?_
  cases b
  ·exact Cb.mk (.bool _) R' (by simpa using q')
  ·exact h2 ok Y R' (by simpa using q')
 ·exact q'.elim
theorem Agz{e e2:Expr}{rest:List Expr}{x y:X}{p:Pos}(h:SE W G n c e x)(h2:SE W G n c (.BoolOp .Or (e2::rest) p) y):SE W G n c (.BoolOp .Or (e::e2::rest) p) (.or x y):=by
 intro A env h₀ H ρ s Q E ok Y R q
 simp only[Zb,Zc,Zd,Ze,Zf,Zg,Zh,Zi,Zj,Zk,Zl,Zm,Zn,Zo,Zp,Zq,Cq,Zr,Zs,Zt,Zu,Zv,A6,Dy,Bx,Ao,Zw,Zx,A3,Co,A5,B5]at q
 refine BoolOp_or (wpAny_mono (h ok Y R q) (fun v s' r=>?_) fun _ _ e=>e)
 refine Aa fun nY=>?_
 obtain⟨a,H',hv,R',q'⟩:=r
 delta truthy at q'
 split at q'
 ·rename_i b
  cases hv
  refine nY ?_;clear nY
  refine wpAny_truthy_bool ?_
  cases b
  ·exact h2 ok Y R' (by simpa using q')
  ·exact Cb.mk (.bool _) R' (by simpa using q')
 ·exact q'.elim
theorem Aex{e:Expr}{rest:List Expr}{x y:X}{p:Pos}(h:ST W G n c e x)(h2:ST W G n c (.BoolOp .And rest p) y):ST W G n c (.BoolOp .And (e::rest) p) (.and x y):=by
 intro A env h₀ H ρ s Q E ok Y R q
 simp only[Zb,Zc,Zd,Ze,Zf,Zg,Zh,Zi,Zj,Zk,Zl,Zm,Zn,Zo,Zp,Zq,Cq,Zr,Zs,Zt,Zu,Zv,A6,Dy,Bx,Ao,Zw,Zx,A3,Co,A5,B5]at q
 refine isTrue_and (wpAny_mono (h (Q:=fun b H=>if b then Am G (Ad G n) y ρ H (fun v H=>truthy v fun b=>Q b H) E else Q false H) ok Y R ?_) (fun b s' r=>?_) fun _ _ e=>e)
 ·refine cast ?_ q;congr 1
 ·refine Aa fun nY=>?_
  obtain⟨H',R',q'⟩:=r
  cases b
  ·refine nY ?_;clear nY
   exact⟨H',R',by simpa using q'⟩
  ·refine nY ?_;clear nY
   exact h2 ok Y R' (by simpa using q')
theorem Pf{M:Model}{x:Expr}{rest:List Expr}{pos:Pos}{whole:Sem Value}{Q:Bool->Shared->Prop}
 (h:wpAny M A (isTrue x env (eval x env)) (fun c s'=>if c then Q true s' else wpAny M A (isTrue (.BoolOp .Or rest pos) env whole) Q E s') E s) :
 wpAny M A (isTrue (.BoolOp .Or (x::rest) pos) env whole) Q E s:=by
 show wpAny M A (do
  match BoolOp.Or,<-isTrue x env (eval x env)with
  | .And,false=>pure false
  | .Or,true=>pure true
  | _,_=>allTrue .Or rest env) Q E s
 refine wpAny_bind (wpAny_mono h (fun b s' r=>?_) fun _ _ e=>e)
 cases b
 ·exact r
 ·exact wpAny_pure r
theorem Ag0{e:Expr}{rest:List Expr}{x y:X}{p:Pos}(h:ST W G n c e x)(h2:ST W G n c (.BoolOp .Or rest p) y):ST W G n c (.BoolOp .Or (e::rest) p) (.or x y):=by
 intro A env h₀ H ρ s Q E ok Y R q
 simp only[Zb,Zc,Zd,Ze,Zf,Zg,Zh,Zi,Zj,Zk,Zl,Zm,Zn,Zo,Zp,Zq,Cq,Zr,Zs,Zt,Zu,Zv,A6,Dy,Bx,Ao,Zw,Zx,A3,Co,A5,B5]at q
 refine Pf (wpAny_mono (h (Q:=fun b H=>if b then Q true H else Am G (Ad G n) y ρ H (fun v H=>truthy v fun b=>Q b H) E) ok Y R ?_) (fun b s' r=>?_) fun _ _ e=>e)
 ·refine cast ?_ q;congr 1
 ·obtain⟨H',R',q'⟩:=r
  cases b
  ·exact h2 ok Y R' (by simpa using q')
  ·exact⟨H',R',by simpa using q'⟩
theorem Aey{op:BoolOp}{e:Expr}{x:X}{p:Pos}(h:ST W G n c e x):ST W G n c (.BoolOp op [e] p) x:=by
 intro A env h₀ H ρ s Q E ok Y R q
 cases op
 ·refine isTrue_and (wpAny_mono (h ok Y R q) (fun b s' r=>?_) fun _ _ e=>e)
  refine Aa fun nY=>?_
  obtain⟨H',R',q'⟩:=r
  cases b
  ·refine nY ?_;clear nY
   exact⟨H',R',q'⟩
  ·refine nY ?_;clear nY
   exact isTrue_and_nil ⟨H',R',q'⟩
 ·refine Pf (wpAny_mono (h ok Y R q) (fun b s' r=>?_) fun _ _ e=>e)
  refine Aa fun nY=>?_
  obtain⟨H',R',q'⟩:=r
  cases b
  ·refine nY ?_;clear nY
   exact wpAny_pure (a:=false) ⟨H',R',q'⟩
  ·refine nY ?_;clear nY
   exact⟨H',R',q'⟩
theorem Aez{l r:Expr}{op:Operator}{x y:X}{p:Pos}(h:SE W G n c l x)(h2:SE W G n c r y):SE W G n c (.BinOp l op r p) (.bin op x y):=by
 intro A env h₀ H ρ s Q E ok Y R q
 simp only[Zb,Zc,Zd,Ze,Zf,Zg,Zh,Zi,Zj,Zk,Zl,Zm,Zn,Zo,Zp,Zq,Cq,Zr,Zs,Zt,Zu,Zv,A6,Dy,Bx,Ao,Zw,Zx,A3,Co,A5,B5]at q
 refine wpAny_BinOp (wpAny_mono (h ok Y R q) (fun v s' r=>?_) fun _ _ e=>e)
 refine Aa fun nY=>?_
 obtain⟨a,H',hv,R',q'⟩:=r
 refine nY ?_;clear nY
 refine wpAny_mono (h2 ok Y R' q') (fun v2 s2 r=>?_) fun _ _ e=>e
 refine Aa fun nY=>?_
 obtain⟨b,H2,hv2,R2,q2⟩:=r
 refine nY ?_;clear nY
 exact Rq Y R2 hv hv2 q2
theorem Ae0{l r:Expr}{op:CmpOp}{x y:X}{p:Pos}(h:SE W G n c l x)(h2:SE W G n c r y)(hm:behindInMarks op r=false):SE W G n c (.Compare l [op] [r] p) (.cmp op x y):=by
 intro A env h₀ H ρ s Q E ok Y R q
 simp only[Zb,Zc,Zd,Ze,Zf,Zg,Zh,Zi,Zj,Zk,Zl,Zm,Zn,Zo,Zp,Zq,Cq,Zr,Zs,Zt,Zu,Zv,A6,Dy,Bx,Ao,Zw,Zx,A3,Co,A5,B5]at q
 refine wpAny_Compare1 (wpAny_mono (h ok Y R q) (fun v s' r=>?_) fun _ _ e=>e) hm
 refine Aa fun nY=>?_
 obtain⟨a,H',hv,R',q'⟩:=r
 refine nY ?_;clear nY
 refine wpAny_mono (h2 ok Y R' q') (fun v2 s2 r=>?_) fun _ _ e=>e
 refine Aa fun nY=>?_
 obtain⟨b,H2,hv2,R2,q2⟩:=r
 refine nY ?_;clear nY
 exact Dj ok Y R2 hv hv2 q2
theorem Nr{v:Value}{Q:Bool->AH->Prop}(r:Cb W h₀ env names ρ (fun v H=>truthy v fun b=>Q b H) v s):wpAny W.M A (PySem.truthy v) (fun b s'=>∃H',Al W h₀ env names H' ρ s'/\Q b H') E s:=by
 refine Aa fun nY=>?_
 obtain⟨a,H',hv,R',q'⟩:=r
 delta truthy at q'
 split at q'
 ·refine nY ?_;clear nY
  cases hv;exact wpAny_truthy_bool ⟨H',R',q'⟩
 ·exact q'.elim
theorem Ae1{l r:Expr}{op:CmpOp}{x y:X}{p:Pos}(h:SE W G n c l x)(h2:SE W G n c r y)(hm:behindInMarks op r=false):ST W G n c (.Compare l [op] [r] p) (.cmp op x y):=by
 intro A env h₀ H ρ s Q E ok Y R q
 simp only[Zb,Zc,Zd,Ze,Zf,Zg,Zh,Zi,Zj,Zk,Zl,Zm,Zn,Zo,Zp,Zq,Cq,Zr,Zs,Zt,Zu,Zv,A6,Dy,Bx,Ao,Zw,Zx,A3,Co,A5,B5]at q
 refine wpAny_isTrue_Compare1 (wpAny_mono (h ok Y R q) (fun v s' r=>?_) fun _ _ e=>e) hm
 refine Aa fun nY=>?_
 obtain⟨a,H',hv,R',q'⟩:=r
 refine nY ?_;clear nY
 refine wpAny_mono (h2 ok Y R' q') (fun v2 s2 r=>?_) fun _ _ e=>e
 refine Aa fun nY=>?_
 obtain⟨b,H2,hv2,R2,q2⟩:=r
 refine nY ?_;clear nY
 exact wpAny_mono (Dj ok Y R2 hv hv2 q2) (fun v s' r=>Nr r) fun _ _ e=>e
theorem Yv{l m r:Expr}{o1 o2:CmpOp}{x y z:X}{p:Pos}(h:SE W G n c l x)(h2:SE W G n c m y)(h3:SE W G n c r z)(hm:lastMarks [o1,o2] [m,r]=false):SE W G n c (.Compare l [o1,o2] [m,r] p) (.chain x o1 y o2 z):=by
 intro A env h₀ H ρ s Q E ok Y R q
 simp only[Zb,Zc,Zd,Ze,Zf,Zg,Zh,Zi,Zj,Zk,Zl,Zm,Zn,Zo,Zp,Zq,Cq,Zr,Zs,Zt,Zu,Zv,A6,Dy,Bx,Ao,Zw,Zx,A3,Co,A5,B5]at q
 refine Compare_chain (wpAny_mono (h ok Y R q) (fun v s' r=>?_) fun _ _ e=>e) hm
 refine Aa fun nY=>?_
 obtain⟨a,H',hv,R',q'⟩:=r
 refine nY ?_;clear nY
 refine chain_link (wpAny_mono (h2 ok Y R' q') (fun v2 s2 r=>?_) fun _ _ e=>e)
 refine Aa fun nY=>?_
 obtain⟨b,H2,hv2,R2,q2⟩:=r
 refine nY ?_;clear nY
 refine wpAny_mono (Dj ok Y R2 hv hv2 q2) (fun v3 s3 r=>?_) fun _ _ e=>e
 refine Aa fun nY=>?_
 obtain⟨d,H3,hv3,R3,q3⟩:=r
 delta truthy at q3
 split at q3
 ·rename_i t
  cases hv3
  refine nY ?_;clear nY
  refine wpAny_truthy_bool ?_
  cases t
  ·exact Cb.mk (.bool _) R3 (by simpa using q3)
  ·refine chain_last (wpAny_mono (h3 ok Y R3 (by simpa using q3)) (fun v4 s4 r=>?_) fun _ _ e=>e)
   refine Aa fun nY=>?_
   obtain⟨d,H4,hv4,R4,q4⟩:=r
   refine nY ?_;clear nY
   exact Dj ok Y R4 hv2 hv4 q4
 ·exact q3.elim
theorem Yw{l m r:Expr}{o1 o2:CmpOp}{x y z:X}{p:Pos}(h:SE W G n c l x)(h2:SE W G n c m y)(h3:SE W G n c r z)(hm:lastMarks [o1,o2] [m,r]=false):ST W G n c (.Compare l [o1,o2] [m,r] p) (.chain x o1 y o2 z):=by
 intro A env h₀ H ρ s Q E ok Y R q
 simp only[Zb,Zc,Zd,Ze,Zf,Zg,Zh,Zi,Zj,Zk,Zl,Zm,Zn,Zo,Zp,Zq,Cq,Zr,Zs,Zt,Zu,Zv,A6,Dy,Bx,Ao,Zw,Zx,A3,Co,A5,B5]at q
 refine isTrue_chain (wpAny_mono (h ok Y R q) (fun v s' r=>?_) fun _ _ e=>e) hm
 obtain⟨a,H',hv,R',q'⟩:=r
 refine test_link (wpAny_mono (h2 ok Y R' q') (fun v2 s2 r=>?_) fun _ _ e=>e)
 obtain⟨b,H2,hv2,R2,q2⟩:=r
 refine wpAny_mono (Dj ok Y R2 hv hv2 q2) (fun v3 s3 r=>?_) fun _ _ e=>e
 obtain⟨d,H3,hv3,R3,q3⟩:=r
 delta truthy at q3
 split at q3
 ·rename_i t
  cases hv3
  refine wpAny_truthy_bool ?_
  cases t
  ·exact⟨H3,R3,by simpa[truthy]using q3⟩
  ·refine test_last (wpAny_mono (h3 ok Y R3 (by simpa using q3)) (fun v4 s4 r=>?_) fun _ _ e=>e)
   obtain⟨d,H4,hv4,R4,q4⟩:=r
   exact wpAny_mono (Dj ok Y R4 hv2 hv4 q4) (fun v s' r=>Nr r) fun _ _ e=>e
 ·exact q3.elim
end Mine.Internal
namespace Mine.Internal
open PySem PySem.W PyProof.Rows
variable {W:Wd} {G:Ax} {A:Around} {h₀:HB} {env:Env} {c:Cx} {names:List Str} {H:AH} {ρ:Aj} {s:Shared} {E:Value->Shared->Prop} {n:Nat} {Q:Af} {Er:EP}
theorem Mg{ns:List Str}{vs:List Value}(hl:ns.length=vs.length)(n:Str)(h:n∈ns):((ns.zip vs).lookup n).isSome=true:=by
 induction ns generalizing vs with
 | nil=>cases h
 | cons a ns ih=>
   refine Aa fun nY=>?_
   cases vs with
   | nil=>cases hl
   | cons v vs=>
     refine nY ?_;clear nY
     rw[List.zip_cons_cons,List.lookup_cons]
     cases q:n==a with
     | true=>rfl
     | false=>
       refine Aa fun nY=>?_
       rcases List.mem_cons.mp h with rfl|h
       ·rw[beq_self_eq_true]at q;cases q
       ·refine nY ?_;clear nY
        exact ih (Nat.succ.inj hl) h
theorem Sl{α β:Type}{f g:α->Option β}:∀ {l:List α},(∀x∈l,f x=g x)->l.filterMap f=l.filterMap g
 | [],_=>rfl
 | a::l,h=>by rw[List.filterMap_cons,List.filterMap_cons,h a (.head _),Sl fun x hx=>h x (.tail _ hx)]
theorem Os{ns:List Str}{vs:List Value}(hl:ns.length=vs.length)(hn:ns.Nodup):ns.filterMap (fun n=>((ns.zip vs).lookup n).map (n,·))=ns.zip vs:=by
 induction ns generalizing vs with
 | nil=>rfl
 | cons a ns ih=>
   cases vs with
   | nil=>cases hl
   | cons v vs=>
     obtain⟨h1,h2⟩:=List.nodup_cons.mp hn
     simp only[List.zip_cons_cons,List.filterMap_cons,List.lookup_cons,beq_self_eq_true,Option.map_some]
     congr 1
     refine Eq.trans (Sl fun n hn=>?_) (ih (Nat.succ.inj hl) h2)
     have:(n==a)=false:=by simpa using fun q:n=a=>h1 (q▸hn)
     rw[this]
theorem T3{fd:FuncData}{vs:List Value}(hp:Ff fd.params=true)(hd:fd.defaults = .none)(hl:fd.params.args.length=vs.length)(hn:(fd.params.args.map (·.arg)).Nodup) :
 bindArgs fd ⟨vs,[]⟩=pure ((fd.params.args.map (·.arg)).zip vs):=by
 unfold Ff at hp
 simp only[Bool.and_eq_true,List.isEmpty_iff,Option.isNone_iff_eq_none]at hp
 refine Aa fun nY=>?_
 obtain⟨⟨⟨⟨⟨h1,h2⟩,h3⟩,h4⟩,h5⟩,h6⟩:=hp
 have hl':(fd.params.args.map (·.arg)).length=vs.length:=by simpa using hl
 have e2:=Os hl' hn
 have e1:∀k,((fd.params.args.map (·.arg)).take k).filter (fun n=>(((fd.params.args.map (·.arg)).zip vs).lookup n).isNone) = []:=by
  intro k
  rw[List.filter_eq_nil_iff];intro n h
  have:=Mg hl' n (List.mem_of_mem_take h)
  cases q:((fd.params.args.map (·.arg)).zip vs).lookup n with
  | none=>rw[q]at this;cases this
  | some _=>simp
 refine nY ?_;clear nY
 have e3:¬(decide (vs.length>(fd.params.args.map (·.arg)).length)&&true)=true:=by simp;exact Nat.le_of_eq hl.symm
 clear hl hl' hn
 cases fd with|mk nm qn ps bd sc gl cl df kd pm cd=>
 cases ps with|mk a1 a2 a3 a4 a5 a6 a7=>
 dsimp only at h1 h2 h3 h4 h5 h6 hd e1 e2 e3 ⊢
 subst h1 h2 h3 h5 hd
 generalize hN:a2.map Arg.arg=N at *
 subst hN
 have e4:∀k,¬(!(((a2.map Arg.arg).take k).filter (fun n=>(((a2.map Arg.arg).zip vs).lookup n).isNone)).isEmpty)=true:=fun k=>by rw[e1 k];decide
 refine(if_neg (c:=(decide (vs.length>([]++a2.map Arg.arg).length)&&Option.isNone (none:Option Arg))=true) e3).trans ((if_neg (e4 _)).trans ?_)
 dsimp only[List.map_nil,List.nil_append,List.toList_toArray,Option.getD_none,List.length_nil]
 rw[List.drop_nil,List.zip_nil_right]
 show (pure:List (Str×Value)->Sem (List (Str×Value))) (List.filterMap (fun n=>(((a2.map Arg.arg).zip vs).lookup n).map (n,·)) (a2.map Arg.arg ++ []))=_
 rw[List.append_nil,e2]
noncomputable def NS(es:List Expr):Prop:=∀e∈es,∀v p,e≠ .Starred v p
theorem NS.plain{es:List Expr}(h:NS es){pos:Pos}{env:Env}:(backTo pos (starEach es env)).any (·.1)=false:=by
 induction es with
 | nil=>rfl
 | cons e r ih=>
   rw[Be (h e (.head _))]
   show (false||(backTo pos (starEach r env)).any (·.1))=false
   rw[ih fun e he=>h e (.tail _ he)];rfl
theorem En{es:List Expr}{xs:List X}(h:Tf W G n c es xs)(hn:NS es)(ok:Kz A c h₀ env Er n)(Y:Ah W env c h₀)(R:Al W h₀ env c.names H ρ s){f:Value}{pos:Pos}{Q:List V->AH->Prop}(q:Cw G (Ad G n) xs ρ H Q Er)
 {Q':Args->Shared->Prop} (hq:∀as us H' s',Df W as us->Al W h₀ env c.names H' ρ s'->Q as H'->Q' ⟨us,[]⟩ s'):wpAny W.M A (evalArgs f true (backTo pos (starEach es env)) []) Q' (EM W h₀ env c.names ρ Er) s:=by
 have z:=h (pos:=pos) ok Y R q
 have z':wpAny W.M A (spliced (backTo pos (starEach es env))) (fun us s'=>Q' ⟨us,[]⟩ s') (EM W h₀ env c.names ρ Er) s:=
  wpAny_mono z (fun us s' r=>by obtain⟨as,H',h1,_,h2,h3⟩:=r;exact hq as us H' s' h1 h2 h3) fun _ _ e=>e
 cases es with
 | nil=>
   unfold evalArgs
   show wpAny W.M A (spliced [] >>= _) Q' (EM W h₀ env c.names ρ Er) s
   refine wpAny_bind (wpAny_mono z' (fun vs s' h'=>?_) fun _ _ e=>e)
   refine wpAny_holding ?_
   exact wpAny_bind (wpAny_pure (wpAny_bind (wpAny_pure (wpAny_pure h'))))
 | cons e r=>
   rw[Be (hn e (.head _))]at z' ⊢
   exact Calls.evalArgs_plain z'
theorem F9.keep(g:F9 W G)(Y:Ah W env c h₀)(R:Al W h₀ env names H ρ s):W.K.In s.heap:=fun a o e=>R.keepB Y a o (g.X a o e)
theorem Acp(g:F9 W G)(hf:c.hnd=false)(sc:SC W G n){f:Str}{p pos:Pos}{es:List Expr}{xs:List X}(hg:c.global f=true)(hd:(f==("__debug__" :Str))=false)(hbx:Ka f=false)(ho:Ei f=none)(hs:Tf W G n c es xs)(hn:NS es):SE W G n c (.Call (.Name f p) es [] pos) (.call f xs):=by
 intro A env h₀ H ρ s Q E ok Y R q
 simp only[Zb,Zc,Zd,Ze,Zf,Zg,Zh,Zi,Zj,Zk,Zl,Zm,Zn,Zo,Zp,Zq,Cq,Zr,Zs,Zt,Zu,Zv,A6,Dy,Bx,Ao,Zw,Zx,A3,Co,A5,B5]at q
 refine Aa fun nY=>?_
 obtain⟨d,hd'⟩:=Option.isSome_iff_exists.mp q.1
 obtain⟨fa,h1,name,qual,params,body,scope,doc,pm,cdv,ct,oc,an,od,osl,F⟩:=g.fn f d hd'
 refine nY ?_;clear nY
 refine Call_ (D5 g Y R hg hd (O7 hbx▸Kh ho h1) ?_)
 refine Calls.callWith_function (En hs hn ok Y R q.2 fun as us H' s' hv R' q'=>⟨⟨g.keep Y R' _ _ F.at_,rfl⟩,?_⟩)
 exact wpAny_call (sc (fun _=>ok.handled hf) (by have:=ok.room;(first|lia|omega)) (by have:=ok.units;(first|lia|omega)) ok.stk Y R' h1 hv q')
theorem Yx(g:F9 W G)(sc:SC W G n){f y:Str}{p pos:Pos}{es:List Expr}{xs:List X}(hg:c.global f=true)(hy:hOf f=some y)(hs:Tf W G n c es xs)(hn:NS es):SE W G n c (.Call (.Name f p) es [] pos) (.call y xs):=by
 obtain⟨y1,y2,y3,y4⟩:=Aen hy
 intro A env h₀ H ρ s Q E ok Y R q
 rw[Zp]at q
 obtain⟨d,hd'⟩:=Option.isSome_iff_exists.mp q.1
 obtain⟨fa,h1,name,qual,params,body,scope,doc,pm,cdv,ct,oc,an,od,osl,F⟩:=g.fn y d hd'
 refine Call_ (D5 g Y R hg y4 (y2▸Kh y3 h1) ?_)
 refine Calls.callWith_function (En hs hn ok Y R q.2 fun as us H' s' hv R' q'=>⟨⟨g.keep Y R' _ _ F.at_,rfl⟩,?_⟩)
 exact wpAny_call (sc (fun h=>by rw[y1]at h;cases h) (by have:=ok.room;(first|lia|omega)) (by have:=ok.units;(first|lia|omega)) ok.stk Y R' h1 hv q')
theorem Qi{o:Expr}{a:Str}{whole:Sem Value}(h:H6 o=true):attributeBase o a env whole=whole:=by
 cases o<;>try rfl
 case Call f args kw p=>
  cases f<;>try rfl
  case Name x q=>
   cases args with
   | cons _ _=>rfl
   | nil=>
     cases kw with
     | cons _ _=>rfl
     | nil=>cases h
theorem Wv{fs:List (Ee×V)}{es:List DictEntry}(h:Wk W fs es){m:Str}(hm:∀a,A4 a≠m):getL m es=some none:=by
 have h1:es.find? (·.key.isStr m)=none/\es.any (·.refKey)=false:=by
  induction h with
  | nil=>exact⟨rfl,rfl⟩
  | cons h1 h2 h3 h4 ih=>
    obtain⟨t,ht⟩:=h2
    refine⟨?_,?_⟩
    ·rw[List.find?_cons,ht,H7 (hm _)];exact ih.1
    ·rw[List.any_cons,ih.2]
     simp[DictEntry.refKey,ht]
 unfold getL
 rw[h1.1,h1.2];rfl
theorem Vu{cc:Dc}(h:cc = .web\/cc = .verdict):Ei (Fl cc)=some (cc,("__init__" :Str)):=by rcases h with rfl|rfl<;>decide
theorem Nt{f m:Str}{cc:Dc}{fa:Addr}(ho:Ei f=some (cc,m))(h:E2 W f=some fa):findIn W.K (.ref (W.cl cc)) m=some (some (.ref fa)):=by
 delta E2 at h
 rw[ho]at h
 simp only at h
 refine Aa fun nY=>?_
 split at h
 ·refine nY ?_;clear nY
  rename_i e;cases h;exact e
 ·cases h
theorem Acl.isFn{hb:Bool}{fa:Addr}{d name qual params body scope doc pm cdv ct oc an od osl}(F:Acl W hb fa d name qual params body scope doc pm cdv ct oc an od osl):isFn W.K (.ref fa)=true:=by
 have:=F.at_
 rw[F.typ]at this
 unfold PySem.W.isFn typeIn
 simp only[this];rfl
theorem Acq(g:F9 W G)(hf:c.hnd=false)(sc:SC W G n){o:Expr}{m f:Str}{ap pos:Pos}{y:X}{es:List Expr}{xs:List X}(hb:H6 o=true)(hl:(ap.endLine==pos.line)=true)(hfew:es.length<3)(ho:Ei f=some (.web,m))(h:SE W G n c o y)(hs:Tf W G n c es xs)(hn:NS es) :
 SE W G n c (.Call (.Attribute o m ap) es [] pos) (.meth f y xs):=by
 intro A env h₀ H ρ s Q E ok Y R q
 simp only[Zb,Zc,Zd,Ze,Zf,Zg,Zh,Zi,Zj,Zk,Zl,Zm,Zn,Zo,Zp,Zq,Cq,Zr,Zs,Zt,Zu,Zv,A6,Dy,Bx,Ao,Zw,Zx,A3,Co,A5,B5]at q
 rw[arm_eval_Call,Qi hb]
 refine wpAny_bind (wpAny_mono (h ok Y R q) (fun ov s₁ r=>wpAny_bind (wpAny_standAt ?_)) fun _ _ e=>e)
 refine Aa fun nY=>?_
 obtain⟨a,H',hv,R',q'⟩:=r
 refine nY ?_;clear nY
 apply Cc hv q';intro x q';refine Ab3 q' fun dd e1 q'=>?_;refine Tr q' fun fs e2 q'=>?_
 refine Aa fun nY=>?_
 obtain⟨hsome,q'⟩:=q'
 obtain⟨d,hd'⟩:=Option.isSome_iff_exists.mp hsome
 obtain⟨fa,h1,name,qual,params,body,scope,doc,pm,cdv,ct,oc,an,od,osl,F⟩:=g.fn f d hd'
 obtain⟨hp,hat⟩:=g.meth f m fa ho h1
 have hform:methodCallForm (es.length+([]:List Keyword).length) (backTo pos (starEach es env)) (backToKw pos (keywordEach [] env))=true:=by
  unfold methodCallForm
  have:(backTo pos (starEach es env)).all (fun x=> !x.1)=true:=by
   have:=hn.plain (pos:=pos) (env:=env)
   rw[List.any_eq_false]at this
   rw[List.all_eq_true];intro x hx;simpa using this x hx
  rw[this]
  have:es.length+0+0<30:=by(first|lia|omega)
  simpa[show backToKw pos (keywordEach [] env) = []from rfl]using this
 refine nY ?_;clear nY
 have hpos:methodCallPos true o env ap pos=pure pos:=by unfold methodCallPos;simp[hl]
 unfold methodCall
 rw[hform]
 refine Aa fun nY=>?_
 obtain⟨mm,FF⟩:=R'.kitF Y
 obtain⟨ob1,o1,o2⟩:=R'.objs _ _ e1
 obtain⟨ob2,o3,o4⟩:=R'.objs _ _ e2
 cases o2
 cases o4 with
 | ns hns hz=>
 have I:PySem.W.InstAt s₁.heap x (instObj (W.cl .web) dd) (W.cl .web) (some (dictOf _ _)):=⟨o1,rfl,rfl,o3⟩
 refine nY ?_;clear nY
 refine wpAny_bind (wpAny_holding (method_inst FF g.X I hp (Nt ho h1) F.isFn (Wv hns hat) ?_))
 refine wpAny_bind (wpAny_of_eq hpos ?_)
 refine Calls.callWith_function (En hs hn ok Y R' q' fun as us H' s' hv R' q'=>⟨⟨g.keep Y R' _ _ F.at_,rfl⟩,?_⟩)
 exact wpAny_call (sc (fun _=>ok.handled hf) (by have:=ok.room;(first|lia|omega)) (by have:=ok.units;(first|lia|omega)) ok.stk Y R' h1 (.cons (.ref _) hv) q')
theorem Qj(C:Addr)(rest:List Value):(Code.builtin "type.__call__" ⟨.ref C::rest,[]⟩).weight<=1:=by
 first|exact(show (0:Nat)<=1 by decide)|exact(show (1:Nat)<=1 by decide)
theorem Sm(a:Args):(Code.builtin "type.__call__" a).cUnits=1:=by kernel_rfl
theorem Ad3(g:F9 W G)(hf:c.hnd=false)(sc:SC W G n){cc:Dc}{x:Str}{p pos:Pos}{es:List Expr}{xs:List X}(hcc:(cc = .web/\x = "Web")\/(cc = .verdict/\x = "Verdict"))(hg:c.global x=true)(hs:Tf W G n c es xs)(hn:NS es) :
 SE W G n c (.Call (.Name x p) es [] pos) (.mk cc xs):=by
 intro A env h₀ H ρ s Q E ok Y R q
 simp only[Zb,Zc,Zd,Ze,Zf,Zg,Zh,Zi,Zj,Zk,Zl,Zm,Zn,Zo,Zp,Zq,Cq,Zr,Zs,Zt,Zu,Zv,A6,Dy,Bx,Ao,Zw,Zx,A3,Co,A5,B5]at q
 have hc':cc = .web\/cc = .verdict:=hcc.elim (fun h=> .inl h.1) fun h=> .inr h.1
 obtain⟨d,hd'⟩:=Option.isSome_iff_exists.mp q.1
 obtain⟨fa,h1,name,qual,params,body,scope,doc,pm,cdv,ct,oc,an,od,osl,F⟩:=g.fn _ d hd'
 obtain⟨hm1,hm2⟩:=g.make cc hc' q.1
 have hns:nsIn W.K mainGlobals x=some (some (.ref (W.cl cc))):=by rcases hcc with⟨rfl,rfl⟩ | ⟨rfl,rfl⟩<;>exact hm1
 have hk:keepIn W.K (.ref (W.cl cc))=true:=by
  unfold makesIn at hm2
  split at hm2
  ·rename_i e
   simp only[keepIn,e]
   simp only[Bool.and_eq_true]at hm2
   exact hm2.1.2
  ·cases hm2
 refine Call_ (D5 g Y R hg (by rcases hcc with⟨rfl,rfl⟩ | ⟨rfl,rfl⟩<;>decide) hns ?_)
 refine callWith_of (P:=W.K.In) (by simp[hn.plain]) (keeps_K hk) (En hs hn ok Y R q.2 fun as us H' s' hv R' q'=>⟨g.keep Y R',?_⟩)
 refine wpAny_call ?_
 have X:=g.keep Y R'
 obtain⟨hh,gg,dd,tt,oo⟩:=s'
 refine make_core (makes_of X hm2) (looks_findIn X (Nt (Vu hc') h1)) (fun self=>bind_fn X self (beq_iff_eq.mp F.isFn)) (.inl rfl) ?_
 have hn1:=R'.fresh
 have R1:=R'.push (o:= .ns []) (ob:=emptyDict) (OR.ns (es:=[]) .nil (by simp)) rfl tt
 have hn2:=R1.fresh
 simp only[Heap.size_push]at hn1 hn2
 have hn3:H' (hh.objs.size+1)=none:=by
  unfold upd at hn2
  simp at hn2
  exact hn2
 have R2:=R1.push (o:= .inst cc hh.objs.size) (ob:=instObj (W.cl cc) hh.objs.size) (.inst hc') rfl tt
 simp only[Heap.size_push]at R2
 have q2:=q' (hh.objs.size+1) hh.objs.size hn3 hn1 (by(first|lia|omega))
 refine codeAny_mono (sc (Q:=fun r H'=>r = .none/\Q (.ref (hh.objs.size+1)) H') (E:=E) ?_ ?_ ?_ ok.stk Y R2 h1 (.cons (.ref _) hv) q2) fun r s' z=>?_
 ·exact fun _=>ok.handled hf
 ·have:=ok.room;show A.depth+Code.weight _+_+_<_;refine Nat.lt_of_le_of_lt (Nat.add_le_add_right (Nat.add_le_add_right (Nat.add_le_add_left (Qj _ _) _) _) _) ?_;(first|lia|omega)
 ·have:=ok.units;show A.units+Code.cUnits _+_+_<_;rw[Sm];(first|lia|omega)
 ·rcases r with e|(v|_|_|_)<;>first|exact z|exact z.elim|skip
  obtain⟨a,H3,hv3,R3,e3,q3⟩:=z
  subst e3
  cases hv3
  exact⟨rfl,Cb.mk (.ref _) R3 q3⟩
end Mine.Internal
namespace Mine.Internal
open PySem PySem.W PyProof.Rows
variable {W:Wd} {G:Ax} {A:Around} {h₀:HB} {env:Env} {c:Cx} {names:List Str} {H:AH} {ρ:Aj} {s:Shared} {E:Value->Shared->Prop} {n:Nat} {Q:Af} {Er:EP}
noncomputable def Ag1(x:Str)(b:BI):Prop:=x∈Ir/\bootBuiltins x=some (Ad2 b)/\x≠ "__name__" /\(x==("__debug__" :Str))=false
theorem Ae2:∀p∈Yb,Ag1 p.1 p.2.2/\(Nn p.2.2=true\/p.2.2 = .str\/p.2.2 = .int):=
 List.forall_mem_cons.mpr ⟨⟨⟨by decide,by kernel_rfl,by decide,by decide⟩,by decide⟩,List.forall_mem_cons.mpr ⟨⟨⟨by decide,by kernel_rfl,by decide,by decide⟩,by decide⟩,List.forall_mem_cons.mpr ⟨⟨⟨by decide,by kernel_rfl,by decide,by decide⟩,by decide⟩,List.forall_mem_cons.mpr ⟨⟨⟨by decide,by kernel_rfl,by decide,by decide⟩,by decide⟩,List.forall_mem_cons.mpr ⟨⟨⟨by decide,by kernel_rfl,by decide,by decide⟩,by decide⟩,List.forall_mem_cons.mpr ⟨⟨⟨by decide,by kernel_rfl,by decide,by decide⟩,by decide⟩,List.forall_mem_cons.mpr ⟨⟨⟨by decide,by kernel_rfl,by decide,by decide⟩,by decide⟩,List.forall_mem_cons.mpr ⟨⟨⟨by decide,by kernel_rfl,by decide,by decide⟩,by decide⟩,List.forall_mem_cons.mpr ⟨⟨⟨by decide,by kernel_rfl,by decide,by decide⟩,by decide⟩,List.forall_mem_cons.mpr ⟨⟨⟨by decide,by kernel_rfl,by decide,by decide⟩,by decide⟩,nofun⟩⟩⟩⟩⟩⟩⟩⟩⟩⟩
theorem Yy{x:Str}{k:Nat}{b:BI}(h:Aby x k=some b):Ag1 x b/\(Nn b=true\/b = .str\/b = .int):=Ae2 (x,(k,b)) (Rj h)
theorem Ki(g:F9 W G)(Y:Ah W env c h₀)(R:Al W h₀ env names H ρ s){x:Str}{p pos:Pos}{v:Value}{es:List Expr}{Q:Value->Shared->Prop}(hv:(∃i,v = .builtin i)\/∃i,v = .type i)(hg:c.global x=true)(hd:(x==("__debug__" :Str))=false)(hx:x∈Ir)
 (hb:bootBuiltins x=some v) (hnm:x≠ "__name__") (hn:NS es) (h:wpAny W.M A (evalArgs v true (backTo pos (starEach es env)) []) (fun a s₁=>wpAny W.M A (call v a.pos a.kw) Q E s₁) E s) :
 wpAny W.M A (eval (.Call (.Name x p) es [] pos) env) Q E s:=by
 refine Call_ (Jm g Y R hg hd hx hb hnm ?_)
 rcases hv with⟨i,rfl⟩ | ⟨i,rfl⟩
 ·exact Calls.callWith_builtin hn.plain h
 ·exact PySem.callWith_type hn.plain h
theorem Ag2(g:F9 W G)(hf:c.hnd=false){b:BI}{x:Str}{p pos:Pos}{es:List Expr}{xs:List X}(hb:Aby x es.length=some b)(hg:c.global x=true)(hs:Tf W G n c es xs)(hn:NS es) :
 SE W G n c (.Call (.Name x p) es [] pos) (.bi b xs):=by
 intro A env h₀ H ρ s Q E ok Y R q
 simp only[Zb,Zc,Zd,Ze,Zf,Zg,Zh,Zi,Zj,Zk,Zl,Zm,Zn,Zo,Zp,Zq,Cq,Zr,Zs,Zt,Zu,Zv,A6,Dy,Bx,Ao,Zw,Zx,A3,Co,A5,B5]at q
 refine Aa fun nY=>?_
 obtain⟨⟨h1,h2,h3,h4⟩,hd⟩:=Yy hb
 refine nY ?_;clear nY
 refine Ki g Y R ?_ hg h4 h1 h2 h3 hn (En hs hn ok Y R q fun as us H' s' hv R' q'=>?_)
 ·cases b<;>first|exact .inl ⟨_,rfl⟩|exact .inr ⟨_,rfl⟩|(rcases hd with hd|hd|hd<;>cases hd)
 ·refine Aa fun nY=>?_
  rcases hd with hd|rfl|rfl
  ·refine nY ?_;clear nY
   exact Tz ok hf Y R' hd hv q'
  ·exact q'.elim
  ·replace q':Adx as H' Q:=q'
   refine nY ?_;clear nY
   apply Ke hv q'
   intro v u h q
   induction h with
   | bool b=>exact PySem.call_int_bool (Cb.mk (.int _ _) (R'.toks _) q)
   | _=>exact False.elim q
theorem Yz{x:Str}{t:Ty}(h:X9 x=some t)(hp:Ip t=true):(x = "int" /\t = .int)\/(x = "bool" /\t = .bool)\/(x = "list" /\t = .list):=
 (by decide:∀p∈U6,Ip p.2=true->(p.1 = "int" /\p.2 = .int)\/(p.1 = "bool" /\p.2 = .bool)\/(p.1 = "list" /\p.2 = .list)) (x,t) (Go h) hp
theorem Y0{x:Str}{t:Ty}(h:X9 x=some t)(hp:Ip t=true):x∈Ir/\bootBuiltins x=some (Yp W t)/\x≠ "__name__" /\(x==("__debug__" :Str))=false:=by
 rcases Yz h hp with⟨rfl,rfl⟩ | ⟨rfl,rfl⟩ | ⟨rfl,rfl⟩<;>exact⟨by decide,by kernel_rfl,by decide,by decide⟩
theorem Ag3(g:F9 W G)(Y:Ah W env c h₀)(R:Al W h₀ env names H ρ s){t:Ty}{tn:Str}{tp:Pos}(ht:X9 tn=some t)(hp:Ip t=true)(hgt:c.global tn=true){Q:Value->Shared->Prop}(h:Q (Yp W t) s):wpAny W.M A (eval (.Name tn tp) env) Q E s:=by
 obtain⟨t1,t2,t3,t4⟩:=Y0 (W:=W) ht hp
 exact Jm g Y R hgt t4 t1 t2 t3 h
theorem Ww(g:F9 W G){t:Ty}{tn:Str}{p tp pos:Pos}{e:Expr}{x:X}(ht:X9 tn=some t)(hg:c.global "isinstance" = true)(hgt:c.global tn=true)(h:SE W G n c e x)(hn:∀v p,e≠ .Starred v p) :
 SE W G n c (.Call (.Name "isinstance" p) [e,.Name tn tp] [] pos) (.bi (.isinst t) [x]):=by
 intro A env h₀ H ρ s Q E ok Y R q
 simp only[Zb,Zc,Zd,Ze,Zf,Zg,Zh,Zi,Zj,Zk,Zl,Zm,Zn,Zo,Zp,Zq,Cq,Zr,Zs,Zt,Zu,Zv,A6,Dy,Bx,Ao,Zw,Zx,A3,Co,A5,B5]at q
 refine Ki g Y R (.inl ⟨"isinstance",rfl⟩) hg (by decide) (by decide) (by kernel_rfl) (by decide) ?_ ?_
 ·intro e' he' v p' q'
  refine Aa fun nY=>?_
  rcases List.mem_cons.mp he' with rfl|he'
  ·refine nY ?_;clear nY
   exact hn _ _ q'
  ·rcases List.mem_cons.mp he' with rfl|he'
   ·cases q'
   ·cases he'
 ·rw[Be hn,Be (fun _ _ q=>by cases q)]
  refine Calls.evalArgs_plain (Calls.spliced_cons (wpAny_mono (h ok Y R q) (fun u s' r=>?_) fun _ _ e=>e))
  refine Aa fun nY=>?_
  obtain⟨a,H',hv,R',q'⟩:=r
  obtain⟨hp,q'⟩:=q'
  refine nY ?_;clear nY
  refine Calls.spliced_cons (Ag3 g Y R' ht hp hgt (Calls.spliced_nil ?_))
  refine Aa fun nY=>?_
  split at q'
  ·rename_i r e
   refine nY ?_;clear nY
   exact Qe R' hp hv e q'
  ·exact q'.elim
/-! own exceptions -/
section
variable {prog:Program} {w:World} {E:Value->Shared->Prop} {h:Heap} {g:Array GenState} {d:Drawn} {t:Nat} {os:OsState}
variable {nm q:Str} {C N:Addr} {bs bm:List Value} {hdct:Bool} {sn:List Str} {sub:List Value} {ab:Bool} {col:Option Bool} {dd:Option Addr} {k0 k1 k2 k3 k5:Option Value} {newId:String}
variable {nm' q':Str} {C' N':Addr} {bs' bm':List Value} {hdct':Bool} {sn':List Str} {sub':List Value} {ab':Bool} {col':Option Bool} {dd':Option Addr} {k0' k1' k2' k3' k5':Option Value} {newId':String}
set_option maxRecDepth 100000
theorem Y1{e:Addr}{oe:Obj}{Q:Value->Shared->Prop}(hC:h.get? C=some (excClassObj nm q C N bs bm hdct sn sub ab col dd k0 k1 k2 k3 k5 newId))(he:h.get? e=some oe)(hcls:oe.cls = .ref C)
 (hb:bm.contains (.type "ValueError")=true) (hq:Q (.bool true) ⟨h,g,d,t,os⟩):wpAny (model prog w) A (call (.builtin "isinstance") [.ref e,.type "ValueError"]) Q E ⟨h,g,d,t,os⟩:=by
 have hc:(Value.ref C::bm).contains (.type "ValueError")=true:=by rw[List.contains_cons,hb,Bool.or_true]
 have hty:typeOf (.type "ValueError")=pure (.type "type"):=by kernel_rfl
 refine call_isinstance_of ?_
 unfold Builtin.«isinstance.nested»
 repeat (first|(with_reducible refine wpAny_loadPart_at he ?_;rw[hcls])|(with_reducible refine wpAny_isSubtype_exc hC ?_;rw[hc])|wp_step)
 exact hq
theorem Wx{e:Addr}{oe:Obj}{Q:Value->Shared->Prop}(hC:h.get? C=some (excClassObj nm q C N bs bm hdct sn sub ab col dd k0 k1 k2 k3 k5 newId))(he:h.get? e=some oe)(hcls:oe.cls = .ref C)
 (hC':h.get? C'=some (excClassObj nm' q' C' N' bs' bm' hdct' sn' sub' ab' col' dd' k0' k1' k2' k3' k5' newId'))
 (hb:(Value.ref C::bm).contains (.ref C')=true) (hq:Q (.bool true) ⟨h,g,d,t,os⟩):wpAny (model prog w) A (call (.builtin "isinstance") [.ref e,.ref C']) Q E ⟨h,g,d,t,os⟩:=by
 refine call_isinstance_of ?_
 unfold Builtin.«isinstance.nested»
 refine Aa fun nY=>?_
 by_cases z:(Value.ref C==Value.ref C')=true
 ·refine nY ?_;clear nY
  repeat (first|(with_reducible refine wpAny_loadPart_at he ?_;rw[hcls])|(with_reducible refine wpAny_isSubtype_exc hC ?_;rw[hb])|wp_step)
  exact hq
 ·have z':(Value.ref C==Value.ref C')=false:=by simpa using z
  refine nY ?_;clear nY
  repeat (first|(with_reducible refine wpAny_loadPart_at he ?_;rw[hcls])|with_reducible refine wpAny_loadPart_at hC' ?_|(with_reducible refine wpAny_isSubtype_exc hC ?_;rw[hb])|wp_step)
  exact hq
theorem Sn{M:Model}{e:Addr}{oe:Obj}{Q:Bool->Shared->Prop}{b:Bool}(hC:h.get? C=some (excClassObj nm q C N bs bm hdct sn sub ab col dd k0 k1 k2 k3 k5 newId))(he:h.get? e=some oe)(hcls:oe.cls = .ref C)
 (hC':h.get? C'=some (excClassObj nm' q' C' N' bs' bm' hdct' sn' sub' ab' col' dd' k0' k1' k2' k3' k5' newId')) (hbase:bm'.contains (.type "BaseException")=true) (hb:(Value.ref C::bm).contains (.ref C')=b)
 (hq:Q b ⟨h,g,d,t,os⟩):wpAny M A (excMatches (.ref e) (.ref C')) Q E ⟨h,g,d,t,os⟩:=by
 have hcB:(Value.ref C'::bm').contains (.type "BaseException")=true:=by rw[List.contains_cons,hbase,Bool.or_true]
 have f:=tc_notTuple
 unfold excMatches
 cases b<;>(
 repeat (first|(with_reducible refine wpAny_loadPart_at he ?_;rw[hcls])|with_reducible refine wpAny_loadPart_at hC' ?_|(with_reducible refine wpAny_isSubtype_exc hC' ?_;rw[hcB])|(with_reducible refine wpAny_isSubtype_exc hC ?_;rw[hb])|wp_step)
 exact hq)
end
inductive Fj(h:Heap)(bmB:List Value):List Value->Prop
 | base:Fj h bmB bmB
 | own {A:Addr} {c0:Value} {dd:Option Addr} {cd:ClassData} {sl:Array (Option Value)} {mA:Str->Option Value} {tl:List Value} :
    h.get? A=some {cls:=c0,dict:=dd,data:= .cls cd,slots:=sl} ->h.Ns cd.ns mA->(∀n∈Jj,mA n=none)->Fj h bmB tl->Fj h bmB (.ref A::tl)
section
set_option maxRecDepth 100000
variable {prog:Program} {w:World} {A:Around} {E:Value->Shared->Prop} {h:Heap} {g:Array GenState} {d:Drawn} {t:Nat} {os:OsState} {a:Addr} {o:Obj}
 {nm q:Str} {C N:Addr} {bs bm bmB:List Value} {hdct:Bool} {sn:List Str} {sub:List Value} {ab:Bool} {col:Option Bool} {dd:Option Addr} {k0 k1 k2 k3 k5:Option Value} {B newId:String}
 {nm' q':Str} {C' N':Addr} {bs' bm':List Value} {hdct':Bool} {sn':List Str} {sub':List Value} {ab':Bool} {col':Option Bool} {dd':Option Addr} {k0' k1' k2' k3' k5':Option Value} {newId':String}
theorem So{M:Model}{tl:List Value}{n:Str}{y:Option Value}{Q:Option Value->Shared->Prop}(hn:n∈Jj)(T:Fj h bmB tl)(hrest:lookupAlong bmB n=pure y)(hq:Q y ⟨h,g,d,t,os⟩) :
 wpAny M A (lookupAlong tl n) Q E ⟨h,g,d,t,os⟩:=by
 induction T with
 | base=>rw[hrest];exact wpAny_pure hq
 | own hA hN hni _ ih=>
   rw[lookupAlong_cons]
   refine wpAny_bind (wpAny_classOwn_cls hA hN ?_)
   rw[hni n hn]
   exact ih
theorem Jn{M:Model}{n:Str}{y:Option Value}{Q:Option Value->Shared->Prop}(hn:n∈Jj)
 (hC:h.get? C=some (excClassObj nm q C N bs bm hdct sn sub ab col dd k0 k1 k2 k3 k5 newId)) (T:Fj h bmB (.ref C::bm)) (hbm:mroOf (.type B)=pure bmB)
 (hB:typeLookup (.type B) n=pure y) (hq:Q y ⟨h,g,d,t,os⟩):wpAny M A (typeLookup (.ref C) n) Q E ⟨h,g,d,t,os⟩:=by
 have hrest:lookupAlong bmB n=pure y:=by rw[typeLookup_eq,hbm]at hB;exact hB
 rw[typeLookup_eq]
 exact wpAny_bind (wpAny_mroOf_exc hC (So hn T hrest hq))
theorem Y2:typeLookup (.type "ValueError") "__class__" = pure (some (.builtin "object.__class__")):=by rw[typeLookup_type,builtinLookup_eq_fast];kernel_rfl
theorem Ot{R:Result->Shared->Prop}(hC:h.get? C=some (excClassObj nm q C N bs bm hdct sn sub ab col dd k0 k1 k2 k3 k5 newId))(hob:bm.contains (.type "object")=true)
 (hx:h.get? a=some o) (hc:o.cls = .ref C) (hq:R (.ok (.ret (.ref C))) ⟨h,g,d,t,os⟩) :
 codeAny (model prog w) A (.call (.builtin "getset_descriptor.__get__") ⟨[.builtin "object.__class__",.ref a,.ref C],[]⟩) R ⟨h,g,d,t,os⟩:=by
 have hT5:(⟨h,g,d,t,os⟩:Shared).TypeIs (.builtin "object.__class__") "getset_descriptor" :=F.typeOf_object_class
 have hcB:(Value.ref C::bm).contains (.type (".".intercalate ("object.__class__".cutAt '.').dropLast))=true:=by
  rw[F.owner_object_class,List.contains_cons,hob];rfl
 refine codeAny_call_builtin F.slot_gs_get.plain F.entry_gs_get (F.slot_gs_get.check _ _ _ _ _ _ _ _ hT5 (F.args_gs_get _ _ _) ?_)
 repeat (any_goals (first|assumption|(with_reducible refine wpAny_loadPart_at hx ?_;rw[hc])|(with_reducible refine wpAny_isSubtype_exc hC ?_;rw[hcB])|wp_step))
 refine⟨Code.quiet_builtin _ (by decide +kernel),codeAny_builtin F.entry_object_class ?_⟩
 repeat (any_goals (first|assumption|(with_reducible refine wpAny_loadPart_at hx ?_;rw[hc])|wp_step))
theorem Mh{tk:Tok}{Q:Fin->Shared->Prop}(hC:h.get? C=some (excClassObj nm q C N bs bm hdct sn sub ab col dd k0 k1 k2 k3 k5 newId))(T:Fj h VE (.ref C::bm))(hob:bm.contains (.type "object")=true)
 (hx:h.get? a=some o) (hc:o.cls = .ref C) (hq:Q (.done (.ret (.ref C))) ⟨h,g,d,t,os⟩) :
 wpAny (model prog w) A (Builtin.«object.__getattribute__» ⟨[.ref a,.str "__class__" tk],[]⟩) Q E ⟨h,g,d,t,os⟩:=by
 have hT5:(⟨h,g,d,t,os⟩:Shared).TypeIs (.builtin "object.__class__") "getset_descriptor" :=F.typeOf_object_class
 have f5:=F.typeOf_object_class
 have f6:=F.slot_gs_get.lookup
 have f7:=F.slot_gs_set.lookup
 have hmA:("__class__" :Str)∈Jj:= .tail _ (.tail _ (.head _))
 repeat (any_goals (first|assumption|(with_reducible refine wpAny_loadPart_at hx ?_;rw[hc])|with_reducible refine Jn hmA hC T F.attrBase_ValueError.mro Y2 ?_|wp_step))
 refine Ot hC hob hx hc ?_
 repeat (any_goals (first|assumption|wp_step))
theorem Qk{M:Model}{nameV:Value}{Q:Unit->Shared->Prop}(hC:h.get? C=some (excClassObj nm q C N bs bm hdct sn sub ab col dd k0 k1 k2 k3 k5 newId))(hbe:bm.contains (.type "BaseException")=true)
 (hx:h.get? a=some o) (hc:o.cls = .ref C) (hq:Q () ⟨h,g,d,t,os⟩):wpAny M A (checkBuiltinCall "BaseException.__getattribute__" ⟨[.ref a,nameV],[]⟩) Q E ⟨h,g,d,t,os⟩:=by
 have hk:builtinKind "BaseException.__getattribute__" = some .slot:=by decide +kernel
 have hsplit:splitId "BaseException.__getattribute__" = some ("BaseException","__getattribute__"):=by decide +kernel
 have hcB:(Value.ref C::bm).contains (.type "BaseException")=true:=by rw[List.contains_cons,hbe];rfl
 have ha:=F.args_bexc_ga (.ref a) nameV
 simp only[checkBuiltinCall,hk,hsplit]
 refine wpAny_bind ?_
 ·unfold isInstance
  repeat (first|(with_reducible refine wpAny_loadPart_at hx ?_;rw[hc])|(with_reducible refine wpAny_isSubtype_exc hC ?_;rw[hcB])|wp_step)
  exact hq
theorem Ql{tk:Tok}{fill:Bool}{Q:Value->Shared->Prop}(hC:h.get? C=some (excClassObj nm q C N bs bm hdct sn sub ab col dd k0 k1 k2 k3 k5 newId))(T:Fj h VE (.ref C::bm))(hbe:bm.contains (.type "BaseException")=true)(hob:bm.contains (.type "object")=true)
 (hx:h.get? a=some o) (hc:o.cls = .ref C) (hq:Q (.ref C) ⟨h,g,d,t,os⟩):wpAny (model prog w) A (getAttrBy (.ref a) (.str "__class__" tk) fill) Q E ⟨h,g,d,t,os⟩:=by
 have f3:=F.attrBase_ValueError.ga.bind (.ref a)
 have hx2:(Value.builtin "BaseException.__getattribute__" == Value.builtin "object.__getattribute__")=false:=by decide +kernel
 have hx1:(onTheHeap (Value.ref C)&&Value.builtin "BaseException.__getattribute__" == Value.builtin "object.__getattribute__")=false:=by rw[hx2];rfl
 have hm1:("__getattribute__" :Str)∈Jj:= .head _
 have hm2:("__getattr__" :Str)∈Jj:= .tail _ (.head _)
 repeat (any_goals (first|assumption|(with_reducible refine wpAny_loadPart_at hx ?_;rw[hc])|with_reducible refine Jn hm1 hC T F.attrBase_ValueError.mro F.attrBase_ValueError.ga.lookup ?_|with_reducible refine Jn hm2 hC T F.attrBase_ValueError.mro F.attrBase_ValueError.noGetattr ?_|wp_step))
 refine codeAny_call_builtin F.attrBase_ValueError.ga.plain F.entry_bexc_ga (Qk hC hbe hx hc (Mh hC T hob hx hc ?_))
 repeat (any_goals (first|assumption|wp_step))
theorem Nu{Q:Option Value->Shared->Prop}(hC:h.get? C=some (excClassObj nm q C N bs bm hdct sn sub ab col dd k0 k1 k2 k3 k5 newId))(T:Fj h VE (.ref C::bm))(hbe:bm.contains (.type "BaseException")=true)(hob:bm.contains (.type "object")=true)
 (hx:h.get? a=some o) (hc:o.cls = .ref C) (hq:Q (some (.ref C)) ⟨h,g,d,t+1,os⟩):wpAny (model prog w) A (getAttr? (.ref a) "__class__") Q E ⟨h,g,d,t,os⟩:=by
 unfold getAttr? getAttrBy?
 repeat (any_goals (first|assumption|with_reducible apply Ql hC T hbe hob hx hc|wp_step))
theorem Y3{Q:Value->Shared->Prop}(hC:h.get? C=some (excClassObj nm q C N bs bm hdct sn sub ab col dd k0 k1 k2 k3 k5 newId))(T:Fj h VE (.ref C::bm))(hbe:bm.contains (.type "BaseException")=true)(hob:bm.contains (.type "object")=true)
 (hx:h.get? a=some o) (hc:o.cls = .ref C) (hC':h.get? C'=some (excClassObj nm' q' C' N' bs' bm' hdct' sn' sub' ab' col' dd' k0' k1' k2' k3' k5' newId'))
 (hb:(Value.ref C::bm).contains (.ref C')=false) (hq:Q (.bool false) ⟨h,g,d,t+1,os⟩):wpAny (model prog w) A (call (.builtin "isinstance") [.ref a,.ref C']) Q E ⟨h,g,d,t,os⟩:=by
 refine call_isinstance_of ?_
 unfold Builtin.«isinstance.nested»
 have z':(Value.ref C==Value.ref C')=false:=by
  rw[List.contains_cons]at hb
  have:=(Bool.or_eq_false_iff.mp hb).1
  refine beq_eq_false_iff_ne.mpr fun e=>?_
  rw[e,beq_self_eq_true]at this
  cases this
 repeat (first|(with_reducible refine wpAny_loadPart_at hx ?_;rw[hc])|with_reducible refine wpAny_loadPart_at hC' ?_|with_reducible refine wpAny_loadPart_at hC ?_|(with_reducible refine wpAny_isSubtype_exc hC ?_;rw[hb])|with_reducible refine Nu hC T hbe hob hx hc ?_|wp_step)
 exact hq
end
theorem Fj.keeps{h h':Heap}{bmB tl:List Value}(T:Fj h bmB tl)(hk:∀b o,h.get? b=some o->h'.get? b=some o):Fj h' bmB tl:=by
 induction T with
 | base=>exact .base
 | own hA hN hq _ ih=>exact .own (hk _ _ hA) (hN.keeps hk) hq ih
theorem Sp{K:Frag}{h:Heap}(X:K.In h):∀ {l:List Value},Kd K l=true->Fj h VE l
 | [],e=>by cases e
 | v::r,e=>by
   unfold Kd at e
   rcases Bool.or_eq_true_iff.mp e with q|q
   ·rw[beq_iff_eq.mp q];exact .base
   ·split at q
    ·split at q
     ·rename_i ho
      simp only[Bool.and_eq_true,List.all_eq_true,beq_iff_eq]at q
      exact .own (X _ _ ho) (.of_isNs (isNs_of_in X q.1.1)) (fun n hn=>nsMap_none_of_in X q.1.1 (q.1.2 n hn)) (Sp X q.2)
     ·cases q
    ·cases q
structure Vv(W:Wd)(h:Heap)(cc:Dc)(nm q:Str)(N:Addr)(bs bm:List Value)(hdct:Bool)(sn:List Str)(sub:List Value)(ab:Bool)(col:Option Bool)(dd:Option Addr)(k0 k1 k2 k3 k5:Option Value)(mN:Str->Option Value):Prop where
 at_:h.get? (W.cl cc)=some (excClassObj nm q (W.cl cc) N bs bm hdct sn sub ab col dd k0 k1 k2 k3 k5 "ValueError.__new__")
 ns:h.Ns N mN
 ini:mN "__init__" = none
 tail:OwnTail h VE bm
 mro:Nh W.K (W.cl cc) = .ref (W.cl cc)::bm
 tn:Fj h VE (.ref (W.cl cc)::bm)
theorem Vv.keeps{h h':Heap}{cc:Dc}{nm q:Str}{N:Addr}{bs bm:List Value}{hdct:Bool}{sn:List Str}{sub:List Value}{ab:Bool}{col:Option Bool}{dd:Option Addr}{k0 k1 k2 k3 k5:Option Value}{mN:Str->Option Value}
 (K:Vv W h cc nm q N bs bm hdct sn sub ab col dd k0 k1 k2 k3 k5 mN) (k:∀b o,h.get? b=some o->h'.get? b=some o):Vv W h' cc nm q N bs bm hdct sn sub ab col dd k0 k1 k2 k3 k5 mN:=
 ⟨k _ _ K.at_,K.ns.keeps k,K.ini,K.tail.keeps k,K.mro,K.tn.keeps k⟩
inductive Ag4(W:Wd)(h:Heap)(cc:Dc):Prop
 | mk (nm q:Str) (N:Addr) (bs bm:List Value) (hdct:Bool) (sn:List Str) (sub:List Value) (ab:Bool) (col:Option Bool) (dd:Option Addr) (k0 k1 k2 k3 k5:Option Value) (mN:Str->Option Value) (K:Vv W h cc nm q N bs bm hdct sn sub ab col dd k0 k1 k2 k3 k5 mN)
theorem Lb(g:F9 W G){cc:Dc}(x:L2 W cc):Ag4 W W.b₀ cc:=by
 refine Aa fun no=>?_
 obtain⟨pp,loose,mg,mb,T⟩:=g.top
 obtain⟨bm,N,nm,q,bs,hdct,sn,sub,ab,col,dd,k0,k1,k2,k3,k5,mN,hC,hN,hni,TL⟩:=(own_of_in g.X T x.name x.own).obj
 have hm:Nh W.K (W.cl cc) = .ref (W.cl cc)::bm:=by
  have z:=x.own
  unfold excIn at z
  unfold Nh
  cases e:W.K.lookup (W.cl cc)with
  | none=>rw[e]at z;cases z
  | some o=>
    have:=g.X _ _ e
    rw[hC]at this
    cases this
    rfl
 exact no ⟨nm,q,N,bs,bm,hdct,sn,sub,ab,col,dd,k0,k1,k2,k3,k5,mN,⟨hC,hN,hni,TL,hm,hm▸Sp g.X x.quiet⟩⟩
theorem Vw(R:Al W h₀ env names H ρ s){cc:Dc}{v:V}{u:Value}{r:Bool}(hv:VR W v u)(e:Dl cc v H=some r) :
 (Tg fun a ob c'=>Xq (u = .ref a) (s.heap.get? a=some ob) (ob.cls = .ref (W.cl c')) (L2 W c') ((c'==cc||cc == .webError)=r)):=by
 refine Aa fun nY=>?_
 cases hv with
 | ref a=>
   refine nY ?_;clear nY
   cases ha:H a with
   | none=>rw[Xz ha]at e;cases e
   | some o=>
     rw[M1 ha]at e
     refine Aa fun nY=>?_
     cases o with
     | exc c'=>
       obtain⟨ob,h1,h2⟩:=R.objs a _ ha
       cases h2 with
       | exc z1 z2 z3=>(refine nY ?_;clear nY;exact⟨a,ob,c',rfl,h1,z2,z1,Option.some.inj e⟩)
     | _=>exact @nn _ _ _ e
 | _=>exact @nn _ _ _ e
theorem Y4{e:Expr}{tn:Str}{tp:Pos}(hn:∀v p,e≠ .Starred v p):NS [e,.Name tn tp]:=fun e' he' v p' q'=>by
 rcases List.mem_cons.mp he' with rfl|he'
 ·exact hn _ _ q'
 ·rcases List.mem_cons.mp he' with rfl|he'
  ·cases q'
  ·cases he'
theorem Acr(g:F9 W G){p tp pos:Pos}{e:Expr}{x:X}(hg:c.global "isinstance" = true)(hgt:c.global "ValueError" = true)(h:SE W G n c e x)(hn:∀v p,e≠ .Starred v p) :
 SE W G n c (.Call (.Name "isinstance" p) [e,.Name "ValueError" tp] [] pos) (.isVE x):=by
 intro A env h₀ H ρ s Q E ok Y R q
 rw[X3]at q
 refine Ki g Y R (.inl ⟨"isinstance",rfl⟩) hg (by decide) (by decide) (by kernel_rfl) (by decide) (Y4 hn) ?_
 rw[Be hn,Be (fun _ _ q=>by cases q)]
 refine Calls.evalArgs_plain (Calls.spliced_cons (wpAny_mono (h ok Y R q) (fun u s' r=>?_) fun _ _ e=>e))
 obtain⟨a,H',hv,R',q'⟩:=r
 refine Calls.spliced_cons (Jm (v:= .type "ValueError") g Y R' hgt (by decide) (by decide) (by kernel_rfl) (by decide) (Calls.spliced_nil ?_))
 split at q'
 ·rename_i ei
  obtain⟨b,ob,c',rfl,h1,h2,h3,_⟩:=Vw R' hv ei
  obtain⟨nm,qq,N,bs,bm,hdct,sn,sub,ab,col,dd,k0,k1,k2,k3,k5,mN,K⟩:=Lb g h3
  replace K:=K.keeps (R'.keepB Y)
  obtain⟨hh,gg,d,tk,os⟩:=s'
  exact Y1 K.at_ h1 h2 (K.tail.hasType (by decide)) (Cb.mk (.bool _) R' q')
 ·exact q'.elim
theorem Y5(g:F9 W G){cc:Dc}{tn:Str}{p tp pos:Pos}{e:Expr}{x:X}(ht:Hi tn=some cc)(hg:c.global "isinstance" = true)(hgt:c.global tn=true)(h:SE W G n c e x)(hn:∀v p,e≠ .Starred v p) :
 SE W G n c (.Call (.Name "isinstance" p) [e,.Name tn tp] [] pos) (.isown cc x):=by
 intro A env h₀ H ρ s Q E ok Y R q
 rw[P8]at q
 obtain⟨hG,q⟩:=q
 have xo:=g.exc cc hG
 have hd:(tn==("__debug__" :Str))=false:=(by decide:∀p∈Nc,(p.1==("__debug__" :Str))=false) (tn,cc) (Go ht)
 refine Ki g Y R (.inl ⟨"isinstance",rfl⟩) hg (by decide) (by decide) (by kernel_rfl) (by decide) (Y4 hn) ?_
 rw[Be hn,Be (fun _ _ q=>by cases q)]
 refine Calls.evalArgs_plain (Calls.spliced_cons (wpAny_mono (h ok Y R q) (fun u s' r=>?_) fun _ _ e=>e))
 refine Aa fun nY=>?_
 obtain⟨a,H',hv,R',q'⟩:=r
 refine nY ?_;clear nY
 refine Calls.spliced_cons (D5 g Y R' hgt hd (Ng ht▸xo.name) (Calls.spliced_nil ?_))
 refine Aa fun nY=>?_
 split at q'
 ·rename_i r ei
  obtain⟨b,ob,c',rfl,h1,h2,h3,h5⟩:=Vw R' hv ei
  have h4:=g.sub c' cc h3 xo
  rw[h5]at h4
  obtain⟨nm,qq,N,bs,bm,hdct,sn,sub,ab,col,dd,k0,k1,k2,k3,k5,mN,K⟩:=Lb g h3
  replace K:=K.keeps (R'.keepB Y)
  obtain⟨nm',qq',N',bs',bm',hdct',sn',sub',ab',col',dd',k0',k1',k2',k3',k5',mN',K'⟩:=Lb g xo
  replace K':=K'.keeps (R'.keepB Y)
  obtain⟨hh,gg,d,tk,os⟩:=s'
  rw[K.mro]at h4
  cases r with
  | true=>(refine nY ?_;clear nY;exact Wx K.at_ h1 h2 K'.at_ h4 (Cb.mk (.bool _) R' q'))
  | false=>(refine nY ?_;clear nY;exact Y3 K.at_ K.tn (K.tail.hasType (by decide)) (K.tail.hasType (by decide)) h1 h2 K'.at_ h4 (Cb.mk (.bool _) (R'.toks _) q'))
 ·exact q'.elim
theorem Wy{a:Int}{k:Nat}{ys:List Value}(h:CarriedAll ys ((rangeInts a 1 k).map .int)):Df W ((List.range k).map fun(i:Nat)=>V.int (a+i)) ys:=by
 have:(List.range k).map (fun(i:Nat)=>V.int (a+i))=(rangeInts a 1 k).map V.int:=by
  simp[rangeInts,Function.comp_def]
 rw[this]
 generalize rangeInts a 1 k=l at h
 induction l generalizing ys with
 | nil=>cases h;exact .nil
 | cons i l ih=>
   cases h with
   | cons h t=>cases h;exact .cons (.int _ _) (ih t)
end Mine.Internal
namespace Mine.Internal
open PySem PySem.W PyProof.Rows
variable {W:Wd} {G:Ax} {A:Around} {h₀:HB} {env:Env} {c:Cx} {names:List Str} {H H':AH} {ρ ρ':Aj} {s s':Shared} {E:Value->Shared->Prop} {n:Nat} {Q:Af} {Er:EP}
noncomputable def Vx(env:Env)(H:AH)(k:Nat):List Addr:=(List.range k).filter fun a=>(H a).isSome||a==env.locals||env.cells.any fun p=>p.2==a
noncomputable def prot(env:Env)(fs:List Addr)(H:AH)(h:Heap):HB:=⟨hideAll h (Vx env H h.objs.size),fs⟩
theorem Pg{k:Nat}{a:Addr}:a∈Vx env H k↔a<k/\((∃o,H a=some o)\/a=env.locals\/∃p∈env.cells,p.2=a):=by
 unfold Vx
 rw[List.mem_filter,List.mem_range]
 simp only[Bool.or_eq_true,beq_iff_eq,List.any_eq_true,or_assoc,Option.isSome_iff_exists]
theorem C5{fs:List Addr}{h:Heap}{a:Addr}{o:Obj}(e:h.get? a=some o)(h1:H a=none)(h2:a≠env.locals)(h3:∀p∈env.cells,p.2≠a):(prot env fs H h).get? a=some o:=
 hideAll_get _ e fun q=>by
  rcases(Pg.mp q).2 with⟨o,e⟩|e | ⟨p,hp,e⟩
  ·rw[h1]at e;cases e
  ·exact h2 e
  ·exact h3 p hp e
theorem Fk{fs:List Addr}{h:Heap}{a:Addr}{o:Obj}(e:(prot env fs H h).get? a=some o):h.get? a=some o:=of_hideAll _ e
theorem C9{fs:List Addr}{h:Heap}{a:Addr}(hx:(∃o,H a=some o)\/a=env.locals\/∃p∈env.cells,p.2=a):(prot env fs H h).get? a=none:=by
 cases q:(prot env fs H h).get? a with
 | none=>rfl
 | some o=>
   have:=hideAll_none (h:=h) _ (Pg.mpr ⟨Heap.lt_size (Fk q),hx⟩)
   replace q:(hideAll h (Vx env H h.objs.size)).get? a=some o:=q
   rw[this]at q;cases q
theorem Bh{cs:List (Str×Addr)}{x:Str}{a:Addr}(h:cs.lookup x=some a):∃p∈cs,p.2=a:=by
 induction cs with
 | nil=>cases h
 | cons p r ih=>
   obtain⟨y,b⟩:=p
   rw[List.lookup_cons]at h
   split at h
   ·cases h;exact⟨_,.head _,rfl⟩
   ·obtain⟨p,h1,h2⟩:=ih h;exact⟨p,.tail _ h1,h2⟩
theorem Al.prot(R:Al W h₀ env names H ρ s):Al W (prot env h₀.fs H s.heap) env names H ρ s where
 ns:=R.ns
 cell:=R.cell
 keep:= .of fun _ _ e=>Fk e
 objs:=R.objs
 sep:=fun a o e=>⟨C9 (.inl ⟨o,e⟩),(R.sep a o e).2⟩
 gens:=R.gens
 os:=R.os
 above:=R.above
 low:=R.low
theorem Al.in_prot(R:Al W h₀ env names H ρ s)(Y:Ah W env c h₀):F6 W h₀ (Mine.Internal.prot env h₀.fs H s.heap).h:=fun b o e=>
 let ⟨o',e1,z⟩:=R.keep b o e;⟨o',C5 e1 (by cases q:H b with
  | none=>rfl
  | some x=>rw[(R.sep b x q).1]at e;cases e) (fun q=>by rw[q,Y.new]at e;cases e) (fun p hp q=>by have:=Y.newc p hp;rw[q,e]at this;cases this),z⟩
theorem Ah.prot(Y:Ah W env c h₀)(R:Al W h₀ env names H ρ s):Ah W env c (Mine.Internal.prot env h₀.fs H s.heap) where
 kind:=Y.kind
 globals:=Y.globals
 builtins:=Y.builtins
 kinds:=Y.kinds
 frees:=Y.frees
 cells:=Y.cells
 apart:=Y.apart
 inj:=Y.inj
 base:=fun b o e=>C5 (R.keepB Y b o e)
  (by cases q:H b with
      | none=>rfl
      | some x=>have:=(R.sep b x q).1;rw[Y.base b o e]at this;cases this)
  (fun q=>absurd (Heap.lt_size e) (Nat.not_lt.mpr (q▸R.above)))
  (fun p hp q=>by have:=Y.newc p hp;rw[q,Y.base b o e]at this;cases this)
 new:=C9 (.inr (.inl rfl))
 fsok:=fun L m q=>Y.fsok L m ((R.in_prot Y).none q)
 fsd:=fun L m=>⟨(Y.fsd L m).1,fun o e=>by obtain⟨o',e1,z⟩:=R.fsd Y m;rw[Fk e]at e1;cases e1;exact z⟩
 newc:=fun p hp=>C9 (.inr (.inr ⟨p,hp,rfl⟩))
 look:=Y.look
 lo:=Y.lo
theorem Al.sub(R:Al W h₀ env names H ρ s){h₁:HB}(k:F6 W h₁ h₀.h)(hf:∀b o,h₁.get? b=some o->b∈h₀.fs->b∈h₁.fs):Al W h₁ env names H ρ s where
 ns:=R.ns
 cell:=R.cell
 keep:=k.trans hf R.keep
 objs:=R.objs
 sep:=fun a o e=>by
  exact⟨k.none (R.sep a o e).1,(R.sep a o e).2⟩
 gens:=R.gens
 os:=R.os
 above:=R.above
 low:=R.low
theorem Al.unprot(R:Al W h₀ env names H ρ s)(Y:Ah W env c h₀){names':List Str}(R':Al W (Mine.Internal.prot env h₀.fs H s.heap) env names' H' ρ' s'):Al W h₀ env names' H' ρ' s':=R'.sub (R.in_prot Y) fun _ _ _ m=>m
theorem Kz.prot(ok:Kz A c h₀ env Er n):Kz A c (Mine.Internal.prot env h₀.fs H s.heap) env Er n:=⟨ok.handled,ok.room,ok.units,ok.stk,ok.top,ok.noE⟩
theorem EM.unprot(R:Al W h₀ env names H ρ s)(Y:Ah W env c h₀){names':List Str}{v:Value}(x:EM W (Mine.Internal.prot env h₀.fs H s.heap) env names' ρ' Er v s'):EM W h₀ env names' ρ' Er v s':=by
 obtain⟨fl,hfl,e,H',cc,hv,R',he,⟨oe,vs,a0,t1,t2,t3,t4⟩,q⟩:=x
 refine⟨fl,hfl,e,H',cc,hv,R.unprot Y R',he,⟨oe,vs,a0,t1,t2,t3,?_⟩,q⟩
 cases fl with
 | none=>exact t4
 | some y=>
   obtain⟨T,oT,ts,g1,g2,g3,g4,g5,g6⟩:=t4
   exact⟨T,oT,ts,g1,g2,g3,g4,g5,fun b hb=>let ⟨a1,a2,a3,a4⟩:=g6 b hb;⟨a1,(R.in_prot Y).none a2,a3,a4⟩⟩
theorem Cb.unprot(R:Al W h₀ env names H ρ s)(Y:Ah W env c h₀){names':List Str}{v:Value}(r:Cb W (Mine.Internal.prot env h₀.fs H s.heap) env names' ρ' Q v s'):Cb W h₀ env names' ρ' Q v s':=
 let ⟨a,H',h1,h2,h3⟩:=r;⟨a,H',h1,R.unprot Y h2,h3⟩
theorem stays{a:Addr}{o:Obj}(e:s.heap.get? a=some o)(h1:H a=none)(h2:a≠env.locals)(h3:∀p∈env.cells,p.2≠a)(hx:a∉h₀.fs){names':List Str}(R':Al W (Mine.Internal.prot env h₀.fs H s.heap) env names' H' ρ' s'):s'.heap.get? a=some o:=
 R'.keep.exact (C5 e h1 h2 h3) (.inl hx)
/-! objects made by displays -/
theorem Acs{es:List Expr}{xs:List X}{p:Pos}(hs:Tf W G n c es xs)(hl:es.length<100):SE W G n c (.List es p) (.list xs):=by
 intro A env h₀ H ρ s Q E ok Y R q
 simp only[Zb,Zc,Zd,Ze,Zf,Zg,Zh,Zi,Zj,Zk,Zl,Zm,Zn,Zo,Zp,Zq,Cq,Zr,Zs,Zt,Zu,Zv,A6,Dy,Bx,Ao,Zw,Zx,A3,Co,A5,B5]at q
 refine List_ (wpAny_mono (hs ok Y R q) (fun us s' r=>?_) fun _ _ e=>e)
 obtain⟨as,H',hv,hl',R',q'⟩:=r
 exact wpAny_newList (Cb.mk (.ref _) (R'.push (.list hv (by simp only[Cg];(first|lia|omega))) rfl _) (q' _ R'.fresh)) (hsz:=by rw[<-hv.length];simp only[sizeLine];(first|lia|omega))
theorem Y6{es:List Expr}{xs:List X}{k:Nat}{p:Pos}(hs:Tf W G n c es xs)(hl:es.length<100):SE W G n c (.Tuple es k p) (.tuple xs):=by
 intro A env h₀ H ρ s Q E ok Y R q
 simp only[Zb,Zc,Zd,Ze,Zf,Zg,Zh,Zi,Zj,Zk,Zl,Zm,Zn,Zo,Zp,Zq,Cq,Zr,Zs,Zt,Zu,Zv,A6,Dy,Bx,Ao,Zw,Zx,A3,Co,A5,B5]at q
 refine Tuple_ (wpAny_mono (hs ok Y R q) (fun us s' r=>?_) fun _ _ e=>e)
 refine Aa fun nY=>?_
 obtain⟨as,H',hv,hl',R',q'⟩:=r
 refine nY ?_;clear nY
 exact wpAny_newTuple (Cb.mk (.ref _) (R'.push (.tuple hv (by simp only[Cg];(first|lia|omega))) rfl _) (q' _ R'.fresh)) (hsz:=by rw[<-hv.length];simp only[sizeLine];(first|lia|omega))
theorem Act(g:F9 W G){o:Expr}{x:X}{a:Ee}{an:Str}{p:Pos}(hb:H6 o=true)(ha:L1 an=some a)(h:SE W G n c o x):SE W G n c (.Attribute o an p) (.attr x a):=by
 intro A env h₀ H ρ s Q E ok Y R q
 simp only[Zb,Zc,Zd,Ze,Zf,Zg,Zh,Zi,Zj,Zk,Zl,Zm,Zn,Zo,Zp,Zq,Cq,Zr,Zs,Zt,Zu,Zv,A6,Dy,Bx,Ao,Zw,Zx,A3,Co,A5,B5]at q
 have hname:an=A4 a:=by
  delta L1 at ha
  repeat' split at ha
  all_goals first
   | (rename_i z;simp only[beq_iff_eq]at z;cases ha;exact z)
   | cases ha
 subst hname
 refine Attribute_any_ (wpAny_mono (h ok Y R q) (fun v s' r=>?_) fun _ _ e=>e) (by rw[arm_eval_Attribute,Qi hb])
 refine Aa fun nY=>?_
 obtain⟨ov,H',hv,R',q'⟩:=r
 refine nY ?_;clear nY
 exact Op Y g.X g.inst R' hv q'
theorem Y7(Y:Ah W env c h₀)(R:Al W h₀ env names H ρ s){a b:V}{u:Value}(hu:VR W a u)(q:Hb a b H Q):(Ho fun T id=>s.TypeIs u T/\typeLookup (.type T) "__getitem__" = pure (some (.builtin id))):=by
 apply Yh q
 intro k q
 induction hu with
 | ref a=>
   dsimp only at q
   refine Aa fun nY=>?_
   split at q
   ·rename_i xs e
    obtain⟨l,h,_⟩:=R.isList e
    refine nY ?_;clear nY
    exact⟨_,_,h.typeIs,slot_list_getitem.lookup⟩
   ·rename_i xs e
    obtain⟨l,h,_⟩:=R.isTup e
    refine nY ?_;clear nY
    exact⟨_,_,h.typeIs,slot_tuple_getitem.lookup⟩
   ·rename_i xs e
    obtain⟨l,h,_⟩:=R.isDict e
    refine nY ?_;clear nY
    exact⟨_,_,h.typeIs,slot_dict_getitem.lookup⟩
   ·exact q.elim
 | script=>
   refine Aa fun nY=>?_
   obtain⟨l,h,_⟩:=R.script Y
   refine nY ?_;clear nY
   exact⟨_,_,h.typeIs,slot_list_getitem.lookup⟩
 | _=>exact False.elim q
noncomputable def Nv:Expr->Bool
 | .Slice .. =>false
 | _=>true
theorem Kj{e:Expr}(h:Nv e=true)(o i:Value):subscripted e false o i=operate [o,i] (getItem o i):=by
 cases e<;>first|rfl|cases h
theorem Ae3{o i:Expr}{x y:X}{p:Pos}(hi:Nv i=true)(h:SE W G n c o x)(h2:SE W G n c i y):SE W G n c (.Subscript o i p) (.sub x y):=by
 intro A env h₀ H ρ s Q E ok Y R q
 simp only[Zb,Zc,Zd,Ze,Zf,Zg,Zh,Zi,Zj,Zk,Zl,Zm,Zn,Zo,Zp,Zq,Cq,Zr,Zs,Zt,Zu,Zv,A6,Dy,Bx,Ao,Zw,Zx,A3,Co,A5,B5]at q
 refine Subscript_ (wpAny_mono (h ok Y R q) (fun v s' r=>?_) fun _ _ e=>e)
 refine Aa fun nY=>?_
 obtain⟨a,H',hv,R',q'⟩:=r
 refine nY ?_;clear nY
 refine wpAny_mono (h2 ok Y R' q') (fun v2 s2 r=>?_) fun _ _ e=>e
 refine Aa fun nY=>?_
 obtain⟨b,H2,hv2,R2,q2⟩:=r
 obtain⟨T,id,t1,t2⟩:=Y7 Y R2 hv q2
 refine nY ?_;clear nY
 exact tail_any t1 t2 (Rx Y R2 hv hv2 q2) (Kj hi _ _)
noncomputable def SO(W:Wd)(G:Ax)(n:Nat)(c:Cx)(e:Option Expr)(x:X):Prop:=
 ∀ {A:Around} {env:Env} {h₀:HB} {H:AH} {ρ:Aj} {s:Shared} {Q:Af} {E:EP},Kz A c h₀ env E n->Ah W env c h₀->Al W h₀ env c.names H ρ s->Am G (Ad G n) x ρ H Q E->
  wpAny W.M A (valueOrNone (evalOpt e env)) (Cb W h₀ env c.names ρ Q) (EM W h₀ env c.names ρ E) s
theorem Acu:SO W G n c none .omit:=by
 intro A env h₀ H ρ s Q E ok Y R q
 exact wpAny_pure (Cb.mk .none R q)
theorem Acv{e:Expr}{x:X}(h:SE W G n c e x):SO W G n c (some e) x:=by
 intro A env h₀ H ρ s Q E ok Y R q
 exact h ok Y R q
theorem T4(R:Al W h₀ env names H ρ s){a l u st:V}{v:Value}(hu:VR W a v)(q:C7 a l u st H Q):s.TypeIs v "list" :=by
 apply Cc hu q
 intro a q
 refine Cz q fun _ _ q=>?_
 refine Cz q fun _ _ q=>?_
 refine F7 q fun xs e q=>?_
 obtain⟨l,h,_⟩:=R.isList e
 exact h.typeIs
theorem Kl(l u st:Option Expr)(p:Pos)(o i:Value):∃ops,subscripted (.Slice l u st p) false o i=operate ops (getItem o i):=by
 cases st
 ·exact⟨[i,o],rfl⟩
 ·exact⟨[o,i],rfl⟩
theorem Y8{o:Expr}{l u st:Option Expr}{x xl xu xs:X}{p p2:Pos}(h:SE W G n c o x)(hl:SO W G n c l xl)(hu:SO W G n c u xu)(hs:SO W G n c st xs):SE W G n c (.Subscript o (.Slice l u st p2) p) (.slice x xl xu xs):=by
 intro A env h₀ H ρ s Q E ok Y R q
 simp only[Zb,Zc,Zd,Ze,Zf,Zg,Zh,Zi,Zj,Zk,Zl,Zm,Zn,Zo,Zp,Zq,Cq,Zr,Zs,Zt,Zu,Zv,A6,Dy,Bx,Ao,Zw,Zx,A3,Co,A5,B5]at q
 refine Subscript_ (wpAny_mono (h ok Y R q) (fun v s' r=>?_) fun _ _ e=>e)
 refine Aa fun nY=>?_
 obtain⟨a,H',hv,R',q'⟩:=r
 refine nY ?_;clear nY
 rw[arm_eval_Slice]
 refine wpAny_bind (wpAny_mono (hl ok Y R' q') (fun v2 s2 r=>?_) fun _ _ e=>e)
 refine Aa fun nY=>?_
 obtain⟨b,H2,hv2,R2,q2⟩:=r
 refine nY ?_;clear nY
 refine wpAny_bind (wpAny_holding (wpAny_mono (hu ok Y R2 q2) (fun v3 s3 r=>?_) fun _ _ e=>e))
 refine Aa fun nY=>?_
 obtain⟨d,H3,hv3,R3,q3⟩:=r
 refine nY ?_;clear nY
 refine wpAny_bind (wpAny_holding (wpAny_mono (hs ok Y R3 q3) (fun v4 s4 r=>?_) fun _ _ e=>e))
 refine Aa fun nY=>?_
 obtain⟨f,H4,hv4,R4,q4⟩:=r
 refine nY ?_;clear nY
 refine fun _ _ _=>?_
 have R5:=R4.pushHid {cls:= .type "slice",data:= .fields #[v2,v3,v4]} s4.toks
 obtain⟨ops,e⟩:=Kl l u st p2 v (.ref s4.heap.objs.size)
 exact tail_any (E:=EM W h₀ env c.names ρ E) (T4 R5 hv q4) slot_list_getitem.lookup (Om Y R5 hv hv2 hv3 hv4 ⟨_,Heap.get?_push_size _ rfl,rfl,rfl⟩ q4) e
theorem Y9{p:Pos}:SE W G n c (.Dict [] [] p) (.dict [] []):=by
 intro A env h₀ H ρ s Q E ok Y R q
 simp only[Zb,Zc,Zd,Ze,Zf,Zg,Zh,Zi,Zj,Zk,Zl,Zm,Zn,Zo,Zp,Zq,Cq,Zr,Zs,Zt,Zu,Zv,A6,Dy,Bx,Ao,Zw,Zx,A3,Co,A5,B5]at q
 obtain⟨m,F⟩:=R.kitF Y
 refine Dict_empty_made (intKind W.prog W.w) PyData.int F Wl Y.lo fun h' o F' N' hm hd hf hne=>?_
 have z:=Mn (t:=s.toks) R Y F F' N' (Nat.le_refl _) (OR.dict (W:=W) .nil (by simp) hd)
 exact Cb.mk (.ref _) z.2 (q _ z.1)
theorem Wz(Y:Ah W env c h₀)(R:Al W h₀ env names H ρ s){a:Addr}(hn:s.heap.get? a=none):∀p∈env.cells,p.2≠a:=fun p hp q=>by
 obtain⟨w,⟨o,h,_⟩,_⟩:=R.cell p.1 p.2 (Y.look p hp)
 rw[q,hn]at h;cases h
theorem Al.swap(R:Al W h₀ env names H ρ s){h':Heap}{a:Addr}(t:Nat)(k:Heap.SameBut a s.heap h')(h1:H a=none)(h2:h₀.get? a=none)(h3:a≠env.locals)(h4:∀x,env.cells.lookup x≠some a):Al W h₀ env names H ρ {s with heap:=h',toks:=t} where
 ns:=let ⟨m,x,b⟩:=R.ns;⟨m,x.sameBut k (Ne.symm h3),b⟩
 cell:=fun x b e=>let ⟨w,⟨o,ho,hd⟩,r⟩:=R.cell x b e;⟨w,⟨o,(k.2 b fun q=>h4 x (q▸e)).trans ho,hd⟩,r⟩
 keep:=fun b o e=>let ⟨o',e1,z⟩:=R.keep b o e;⟨o',(k.2 b fun q=>by rw[q,h2]at e;cases e).trans e1,z⟩
 objs:=fun b o e=>let ⟨ob,g1,g2⟩:=R.objs b o e;⟨ob,(k.2 b fun q=>by rw[q,h1]at e;cases e).trans g1,g2⟩
 sep:=R.sep
 gens:=R.gens
 os:=R.os
 above:=R.above
 low:=R.low
end Mine.Internal
namespace Mine.Internal
open PySem PySem.W PyProof.Rows
variable {W:Wd} {G:Ax} {A:Around} {h₀:HB} {env:Env} {c:Cx} {names:List Str} {H H':AH} {ρ ρ':Aj} {s s':Shared} {E:Value->Shared->Prop} {n:Nat} {Q:Af} {Er:EP}
theorem ns1{e:Expr}(h:∀v p,e≠ .Starred v p):NS [e]:=fun e' he' v p' q'=>by
 rcases List.mem_cons.mp he' with rfl|he'
 ·exact h _ _ q'
 ·cases he'
theorem I9(ok:Kz A c h₀ env Er n)(hf:c.hnd=false)(Y:Ah W env c h₀)(R:Al W h₀ env names H ρ s){r:Addr}{a b:Int}{t u v:Tok}(hr:IsRange s.heap r a b 1 t u v)(h1:0<=a)(h2:a<=Cg)(h3: -(Cg:Int)<=b)(h4:b<=Cg)
 (q:An (.list ((List.range (b-a).toNat).map fun(i:Nat)=>V.int (a+i))) H Q):wpAny W.M A (call (.type "list") [.ref r]) (Cb W h₀ env names ρ Q) E s:=by
 obtain⟨m,F⟩:=R.kitF Y
 have b1:Cg=1048576:=rfl
 refine list_rangeD (ok.handled hf) F Wl hr (small_one (Int.le_trans (by decide) h1) (Agl h2 b1) (Aiy h3 b1) (Agl h4 b1)) (rangeSize_nat a b) (Aiz h1 h4 b1) fun h' tk ys F' N' hk hn hl hp hc=>?_
 obtain⟨⟨k,e⟩,_⟩:=hp
 have R':=R.put (h':=h') (a:=s.heap.objs.size) (o:= .list ((List.range (b-a).toNat).map fun(i:Nat)=>V.int (a+i))) tk hk e (.list (Wy hc) (by simp;exact(Int.le_trans (Int.sub_le_self _ h1) h4))) (C1 _) fun _ _=>R.up
 exact Cb.mk (.ref _) R' (q _ R.fresh)
theorem Qn(g:F9 W G)(hf:c.hnd=false){p rp pos pos':Pos}{es:List Expr}{xs:List X}(hg:c.global "list" = true)(hgr:c.global "range" = true)(hs:Tf W G n c es xs)(hn:NS es) :
 SE W G n c (.Call (.Name "list" p) [.Call (.Name "range" rp) es [] pos'] [] pos) (.bi .listRange xs):=by
 intro A env h₀ H ρ s Q E ok Y R q
 simp only[Zb,Zc,Zd,Ze,Zf,Zg,Zh,Zi,Zj,Zk,Zl,Zm,Zn,Zo,Zp,Zq,Cq,Zr,Zs,Zt,Zu,Zv,A6,Dy,Bx,Ao,Zw,Zx,A3,Co,A5,B5]at q
 refine Ki g Y R (.inr ⟨"list",rfl⟩) hg (by decide) (by decide) (by kernel_rfl) (by decide) (ns1 fun _ _ q=>by cases q) ?_
 rw[Be (fun _ _ q=>by cases q)]
 refine Calls.evalArgs_plain (Calls.spliced_cons ?_)
 refine Ki g Y R (.inr ⟨"range",rfl⟩) hgr (by decide) (by decide) (by kernel_rfl) (by decide) hn (En hs hn ok Y R q fun as us H' s' hv R' q'=>?_)
 replace q':Agd as H' Q:=q'
 have b1:Cg=1048576:=rfl
 cases hv with
 | nil=>exact False.elim q'
 | cons hu t=>cases t with
   | nil=>
     apply Aq hu q';intro k t q'
     refine call_range_1 (Calls.spliced_nil ?_)
     have R2:=R'.pushHid {cls:= .type "range",data:= .fields #[.int 0 s'.toks,.int k t,.int 1 (s'.toks+1)]} (s'.toks+1+1)
     refine I9 (a:=0) (b:=k) ok hf Y R2 (Heap.get?_push_size _ rfl) (by(first|lia|omega)) (by(first|lia|omega)) q'.1.1 q'.1.2 ?_
     simpa using q'.2
   | cons hu2 t=>cases t with
     | nil=>
       apply Aq hu q';intro m t q';apply Aq hu2 q';intro k t2 q'
       refine call_range_2 (Calls.spliced_nil ?_)
       have R2:=R'.pushHid {cls:= .type "range",data:= .fields #[.int m t,.int k t2,.int 1 s'.toks]} (s'.toks+1)
       have:=q'.1
       exact I9 (a:=m) (b:=k) ok hf Y R2 (Heap.get?_push_size _ rfl) (by(first|lia|omega)) (by(first|lia|omega)) (by(first|lia|omega)) (by(first|lia|omega)) q'.2
     | cons=>exact False.elim q'
noncomputable def T5:LM->Str
 | .append=> "append" | .clear=> "clear" | .count=> "count" | .extend=> "extend" | .index=> "index" | .remove=> "remove" | .reverse=> "reverse" | .setdefault=> "setdefault" | .split=> "split" | .join=> "join"
theorem Acw{x:Str}{m:LM}(h:Abw x=some m):x=T5 m:=
 (by decide:∀p∈U7,p.1=T5 p.2) (x,m) (Go h)
theorem Acx(R:Al W h₀ env names H ρ s){m:LM}{o:V}{u:Value}(hv:VR W o u)(hk:M0 m o H) :
 (Hn fun T=>Xq (PlainAttrs T) (Slot T (T5 m) (Aer m)) (typeOf (.builtin (Aer m))=pure (.type "method_descriptor")) (s.TypeIs u T) ((∀a,u = .ref a->∃ob,s.heap.get? a=some ob/\ob.dict=none))):=by
 apply Cc hv hk
 intro a hk
 refine Aa fun nY=>?_
 split at hk
 ·rename_i xs e
  obtain⟨l,nn,g1,_⟩:=R.lst e
  refine nY ?_;clear nY
  have hd:∀b,Value.ref a = .ref b->∃ob,s.heap.get? b=some ob/\ob.dict=none:=fun b q=>by cases q;exact⟨_,g1,rfl⟩
  have ht:s.TypeIs (.ref a) "list" :=by obtain⟨l,h,_⟩:=R.isList e;exact h.typeIs
  refine Aa fun nY=>?_
  cases m with
  | append=>(refine nY ?_;clear nY;exact⟨"list",F.plainAttrs_list,F.slot_list_append,F.type_list_append,ht,hd⟩)
  | clear=>(refine nY ?_;clear nY;exact⟨"list",F.plainAttrs_list,F.slot_list_clear,F.type_list_clear,ht,hd⟩)
  | count=>(refine nY ?_;clear nY;exact⟨"list",F.plainAttrs_list,F.slot_list_count,F.type_list_count,ht,hd⟩)
  | extend=>(refine nY ?_;clear nY;exact⟨"list",F.plainAttrs_list,F.slot_list_extend,F.type_list_extend,ht,hd⟩)
  | index=>(refine nY ?_;clear nY;exact⟨"list",F.plainAttrs_list,F.slot_list_index,F.type_list_index,ht,hd⟩)
  | remove=>(refine nY ?_;clear nY;exact⟨"list",F.plainAttrs_list,F.slot_list_remove,F.type_list_remove,ht,hd⟩)
  | reverse=>(refine nY ?_;clear nY;exact⟨"list",F.plainAttrs_list,F.slot_list_reverse,F.type_list_reverse,ht,hd⟩)
  | setdefault=>exact hk.elim
  | split=>exact hk.elim
  | join=>exact hk.elim
 ·rename_i es e
  cases hk
  obtain⟨kvs,g1,_⟩:=R.isDict e
  have ht:=g1.typeIs
  obtain⟨o,es,ep,g2,g3,_⟩:=g1
  refine nY ?_;clear nY
  exact⟨"dict",F.plainAttrs_dict,F.slot_dict_setdefault,F.type_dict_setdefault,ht,fun b q=>by cases q;exact⟨_,g2,g3.2.1⟩⟩
 ·exact hk.elim
theorem Ag5{o:Expr}{m:LM}{x:Str}{ap pos:Pos}{y:X}{es:List Expr}{xs:List X}(hb:H6 o=true)(hl:(ap.endLine==pos.line)=true)(hfew:es.length<3)(hm:Abw x=some m)(h:SE W G n c o y)(hs:Tf W G n c es xs)(hn:NS es) :
 SE W G n c (.Call (.Attribute o x ap) es [] pos) (.lm m y xs):=by
 intro A env h₀ H ρ s Q E ok Y R q
 simp only[Zb,Zc,Zd,Ze,Zf,Zg,Zh,Zi,Zj,Zk,Zl,Zm,Zn,Zo,Zp,Zq,Cq,Zr,Zs,Zt,Zu,Zv,A6,Dy,Bx,Ao,Zw,Zx,A3,Co,A5,B5]at q
 have hx:=Acw hm
 subst hx
 have hplain:(backTo pos (starEach es env)).all (fun x=> !x.1)=true:=by
  have:=hn.plain (pos:=pos) (env:=env)
  rw[List.any_eq_false]at this
  rw[List.all_eq_true];intro x hx;simpa using this x hx
 have hform:((backTo pos (starEach es env)).all (fun x=> !x.1)&&(backToKw pos (keywordEach [] env)).all (fun x=>x.1.isSome)
  && decide (es.length+([]:List Keyword).length+(if ([]:List Keyword).isEmpty then 0 else 1)<30))=true:=by
  rw[hplain]
  have:es.length+0+0<30:=by(first|lia|omega)
  simpa[show backToKw pos (keywordEach [] env) = []from rfl]using this
 refine wpAny_Call_method_late (Qi hb) hform hl rfl (wpAny_mono (h ok Y R q) (fun ov s' r=>?_) fun _ _ e=>e)
 refine Aa fun nY=>?_
 obtain⟨a,H',hv,R',hk,q'⟩:=r
 obtain⟨T,t1,t2,t3,t4,t5⟩:=Acx R' hv hk
 refine nY ?_;clear nY
 refine⟨T,_,t1,t2,t3,t4,t5,Calls.callWith_builtin hn.plain (En hs hn ok Y R' q' fun as us H' s' hv' R'' q''=>?_)⟩
 exact T1 ok Y R'' hv hv' q''
end Mine.Internal
namespace Mine.Internal
open PySem PySem.W PyProof.Rows
variable {W:Wd} {G:Ax} {A:Around} {h₀:HB} {env:Env} {c:Cx} {names:List Str} {H H':AH} {ρ ρ':Aj} {s s':Shared} {E:Value->Shared->Prop} {n:Nat} {Q:Af} {Er:EP}
inductive ItR(W:Wd)(h:Heap):It->Value->Prop
 | v {a u}:VR W a u->ItR W h (.v a) u
 | pair {a b u1 u2 T}:h.IsTuple T #[u1,u2]->VR W a u1->VR W b u2->ItR W h (.pair a b) (.ref T)
theorem Al.moveBut(R:Al W h₀ env names H ρ s){wr:List Addr}(hid:Fu h₀ env H wr){h':Heap}(t:Nat)(k:∀b o,b∉wr->s.heap.get? b=some o->h'.get? b=some o):Al W h₀ env names H ρ {s with heap:=h',toks:=t} where
 ns:=by
  refine Aa fun nY=>?_
  obtain⟨m,⟨o,es,ep,h1,h2⟩,b⟩:=R.ns
  refine nY ?_;clear nY
  exact⟨m,⟨o,es,ep,k _ _ (fun q=>(hid _ q).2.2.1 rfl) h1,h2⟩,b⟩
 cell:=fun x a e=>by
  refine Aa fun nY=>?_
  obtain⟨w,⟨o,ho,hd⟩,r⟩:=R.cell x a e
  obtain⟨p,hp,hp2⟩:=Bh e
  refine nY ?_;clear nY
  exact⟨w,⟨o,k _ _ (fun q=>(hid _ q).2.2.2 p hp hp2) ho,hd⟩,r⟩
 keep:=fun b o e=>let ⟨o',e1,z⟩:=R.keep b o e;⟨o',k _ _ (fun q=>by have:=(hid _ q).2.1;rw[e]at this;cases this) e1,z⟩
 objs:=fun b o e=>by
  refine Aa fun nY=>?_
  obtain⟨ob,g1,g2⟩:=R.objs b o e
  refine nY ?_;clear nY
  exact⟨ob,k _ _ (fun q=>by have:=(hid _ q).1;rw[e]at this;cases this) g1,g2⟩
 sep:=R.sep
 gens:=R.gens
 os:=R.os
 above:=R.above
 low:=R.low
structure Src(W:Wd)(A:Around)(target:Expr)(I:Addr)(hs:List Addr)(its:List It)(g:AH->Prop)(Obs:Nat->Heap->Prop):Prop where
 frame:∀i h h',Obs i h->(∀b∈hs,∀o,h.get? b=some o->h'.get? b=some o)->Obs i h'
 live:∀i h,Obs i h->∀b∈hs,∃o,h.get? b=some o
 self:∀ {s:Shared} {Q:Value->Shared->Prop} {E:Value->Shared->Prop},Obs 0 s.heap->Q (.ref I) s->wpAny W.M A (pyIter (.ref I)) Q E s
 turn:∀ {h₀:HB} {env:Env} {c:Cx} {names:List Str} {H:AH} {ρ:Aj} {s:Shared} {i:Nat} {x:It} {E E':Value->Shared->Prop},Ah W env c h₀->Al W h₀ env names H ρ s->Fu h₀ env H hs->g H->Obs i s.heap->its[i]? = some x->
  wpAny W.M A (pyNext (.ref I)) (fun r s₁=>∃v,r=some v/\wpAny W.M A (letOwnedTupleGo target (.ref I) v) (fun _ s₂=>Al W h₀ env names H ρ s₂/\Obs (i+1) s₂.heap/\ItR W s₂.heap x v/\∀b o,b∉hs->s.heap.get? b=some o->s₂.heap.get? b=some o) E' s₁) E s
 done:∀ {h₀:HB} {env:Env} {c:Cx} {names:List Str} {H:AH} {ρ:Aj} {s:Shared} {E:Value->Shared->Prop},Ah W env c h₀->Al W h₀ env names H ρ s->Fu h₀ env H hs->g H->Obs its.length s.heap->
   wpAny W.M A (pyNext (.ref I)) (fun r s₁=>r=none/\Al W h₀ env names H ρ s₁/\∀b o,b∉hs->s.heap.get? b=some o->s₁.heap.get? b=some o) E s
noncomputable def Nw:List String:=["enumerate","zip","dict_itemiterator","dict_reverseitemiterator","odict_iterator","itertools.zip_longest","itertools.pairwise"]
theorem H8{target:Expr}{I:Addr}{v:Value}{o:Obj}{nm:String}{vs:Array Value}{Q:Unit->Shared->Prop}(ho:s.heap.get? I=some o)(hc:o.cls = .type nm)(hd:o.data = .fields vs)(hn:Nw.contains nm=false)(hQ:Q () s) :
 wpAny W.M A (letOwnedTupleGo target (.ref I) v) Q E s:=by
 have key:∀a:Addr,wpAny W.M A (do
  let o <-load I
  match o.cls,o.data with
  | .type n,.fields vs=>if Nw.contains n&&vs[0]? == some (rawInt a)then do rule "for.unpacks-the-owned-tuple";updateField I 0 .none
  | _,_=>pure ()) Q E s:=by
  intro a
  refine wpAny_bind (wpAny_load ho ?_)
  rw[hc,hd]
  simp only[hn,Bool.false_and,Bool.false_eq_true,if_false]
  exact wpAny_pure hQ
 cases target<;>first|exact wpAny_pure hQ|(cases v<;>first|exact wpAny_pure hQ|exact key _)
theorem Fu.one(Y:Ah W env c h₀)(R:Al W h₀ env names H ρ s){a:Addr}(hn:s.heap.get? a=none)(hb:W.b₀.objs.size<=a):Fu h₀ env H [a]:=fun b hb'=>by
 rcases List.mem_cons.mp hb' with rfl|h
 ·obtain⟨q1,q2,q3,q4,q5⟩:=R.new_sep hn hb
  exact⟨q1,q2,q3,Wz Y R hn⟩
 ·cases h
theorem Mq{xs:List V}{items:List Value}(h:Df W xs items){i:Nat}{x:V}(e:xs[i]? = some x):∃u,items[i]? = some u/\VR W x u:=h.get i e
theorem Aaa(hh:A.handled=none)(target:Expr){a I:Addr}{xs:List V}:Src W A target I [I] (xs.map .v) (fun H'=>H' a=some (.list xs)) (fun i h=>h.IsListIter I a i) where
 frame:=fun i h h' st hk=>st.at fun o e=>hk I (.head _) o e
 live:=fun i h st b hb=>by
  rcases List.mem_cons.mp hb with rfl|hb
  ·obtain⟨o,e,_⟩:=st;exact⟨o,e⟩
  ·cases hb
 self:=fun st hQ=>wpAny_pyIter_listiter st hQ
 turn:=fun {h₀ env c names H ρ s i x E E'} Y R hid g st hx=>by
  obtain⟨items,h1,r1,z1⟩:=R.isList g
  rw[List.getElem?_map]at hx
  obtain⟨x',hx',rfl⟩:=Option.map_eq_some_iff.mp hx
  obtain⟨u,hu,hv⟩:=Mq r1 hx'
  refine wpAny_pyNext_list_item st h1 (x:=u) (by simpa using hu) fun h' st' hs'=>⟨u,rfl,?_⟩
  have R':=R.moveBut (h':=h') hid s.toks fun b o hb e=>hs'.extBut b o (fun q=>hb (by simp[q])) e
  obtain⟨o,o1,o2,o3⟩:=st'
  exact H8 o1 o2 o3 (by decide) ⟨R',⟨o,o1,o2,o3⟩,.v hv,fun b o hb e=>hs'.extBut b o (fun q=>hb (by simp[q])) e⟩
 done:=fun {h₀ env c names H ρ s E} Y R hid g st=>by
   obtain⟨items,h1,r1,z1⟩:=R.isList g
   refine wpAny_pyNext_list_end hh st h1 (by simp[r1.length]) fun h' he'=>⟨rfl,R.moveBut (h':=h') hid s.toks (fun b o hb e=>he' b o (fun q=>hb (by simp[q])) e),fun b o hb e=>he' b o (fun q=>hb (by simp[q])) e⟩
theorem W0(hh:A.handled=none)(target:Expr){a I:Addr}{xs:List V}:Src W A target I [I] (xs.map .v) (fun H'=>H' a=some (.tuple xs)) (fun i h=>h.IsTupleIter I a i) where
 frame:=fun i h h' st hk=>st.at fun o e=>hk I (.head _) o e
 live:=fun i h st b hb=>by
  rcases List.mem_cons.mp hb with rfl|hb
  ·obtain⟨o,e,_⟩:=st;exact⟨o,e⟩
  ·cases hb
 self:=fun st hQ=>wpAny_pyIter_tupleiter st hQ
 turn:=fun {h₀ env c names H ρ s i x E E'} Y R hid g st hx=>by
  obtain⟨items,h1,r1,z1⟩:=R.isTup g
  rw[List.getElem?_map]at hx
  obtain⟨x',hx',rfl⟩:=Option.map_eq_some_iff.mp hx
  obtain⟨u,hu,hv⟩:=Mq r1 hx'
  refine wpAny_pyNext_tuple_item st h1 (x:=u) (by simpa using hu) fun h' st' hs'=>⟨u,rfl,?_⟩
  have R':=R.moveBut (h':=h') hid s.toks fun b o hb e=>hs'.extBut b o (fun q=>hb (by simp[q])) e
  obtain⟨o,o1,o2,o3⟩:=st'
  exact H8 o1 o2 o3 (by decide) ⟨R',⟨o,o1,o2,o3⟩,.v hv,fun b o hb e=>hs'.extBut b o (fun q=>hb (by simp[q])) e⟩
 done:=fun {h₀ env c names H ρ s E} Y R hid g st=>by
   obtain⟨items,h1,r1,z1⟩:=R.isTup g
   refine wpAny_pyNext_tuple_end hh st h1 (by simp[r1.length]) fun h' he'=>⟨rfl,R.moveBut (h':=h') hid s.toks (fun b o hb e=>he' b o (fun q=>hb (by simp[q])) e),fun b o hb e=>he' b o (fun q=>hb (by simp[q])) e⟩
theorem W1(hh:A.handled=none)(target:Expr){I:Addr}{a:Int}{k:Nat}:Src W A target I [I] ((List.range k).map fun(i:Nat)=> .v (.int (a+i))) (fun _=>True) (fun i h=>IsRangeIter h I (a+(i:Nat)) ((k:Int)-(i:Nat)) 1) where
 frame:=fun i h h' st hk=>hk I (.head _) _ st
 live:=fun i h st b hb=>by
  rcases List.mem_cons.mp hb with rfl|hb
  ·exact⟨_,st⟩
  ·cases hb
 self:=fun st hQ=>wpAny_pyIter_rangeiter st hQ
 turn:=fun {h₀ env c names H ρ s i x E E'} Y R hid g st hx=>by
  rw[List.getElem?_map]at hx
  obtain⟨j,hj,rfl⟩:=Option.map_eq_some_iff.mp hx
  obtain⟨hlt,he⟩:=List.getElem?_eq_some_iff.mp hj
  simp at hlt he
  subst he
  refine wpAny_pyNext_range_item st (Int.sub_pos_of_lt (Int.ofNat_lt.mpr hlt)) fun h' st' hs'=>⟨_,rfl,?_⟩
  have R':=R.moveBut (h':=h') hid (s.toks+1) fun b o hb e=>hs'.extBut b o (fun q=>hb (by simp[q])) e
  refine H8 st' rfl rfl (by decide) ⟨R',?_,.v (.int _ _),fun b o hb e=>hs'.extBut b o (fun q=>hb (by simp[q])) e⟩
  have e1:a+((i+1:Nat):Int)=a+(i:Int)+1:=Ai0
  have e2:(k:Int)-((i+1:Nat):Int)=(k:Int)-(i:Int)-1:=Ai1
  rw[e1,e2];exact st'
 done:=fun {h₀ env c names H ρ s E} Y R hid g st=>by
   simp only[List.length_map,List.length_range]at st
   refine wpAny_pyNext_range_end hh st (Int.le_of_eq (Int.sub_self _)) fun h' he'=>⟨rfl,R.moveBut (h':=h') hid s.toks (fun b o hb e=>he' b o (fun q=>hb (by simp[q])) e),fun b o hb e=>he' b o (fun q=>hb (by simp[q])) e⟩
theorem Tc.at{es:List (Int×V)}{kvs:List (Int×Value)}(h:Tc W es kvs):∀ {i:Nat} {e:Int×V},es[i]? = some e->∃u,kvs[i]? = some (e.1,u):=by
 induction h with
 | nil=>intro i e h;simp at h
 | cons hv t ih=>
   intro i e h
   cases i with
   | zero=>simp at h;subst h;exact⟨_,rfl⟩
   | succ i=>simp at h;simpa using ih h
theorem Aab(hh:A.handled=none)(target:Expr){d I:Addr}{es:List (Int×V)}{kvs:List (Int×Value)}{ep:Nat}(hk:Tc W es kvs)(hne:d≠I) :
 Src W A target I [I,d] (es.map fun e=> .v (.int e.1)) (fun _=>True) (fun i h=>h.IsKeyIter I d i kvs.length ep/\h.DictAt (intKind W.prog W.w) d kvs ep) where
 frame:=fun i h h' st hk=>⟨st.1.at fun o e=>hk I (by simp) o e,st.2.at' fun o e=>hk d (by simp) o e⟩
 live:=fun i h st b hb=>by
  rcases List.mem_cons.mp hb with rfl|hb
  ·obtain⟨o,e,_⟩:=st.1;exact⟨o,e⟩
  ·rcases List.mem_cons.mp hb with rfl|hb
   ·obtain⟨o,_,e,_⟩:=st.2;exact⟨o,e⟩
   ·cases hb
 self:=fun st hQ=>wpAny_pyIter_keyiter st.1 hQ
 turn:=fun {h₀ env c names H ρ s i x E E'} Y R hid g st hx=>by
  rw[List.getElem?_map]at hx
  obtain⟨e,he,rfl⟩:=Option.map_eq_some_iff.mp hx
  obtain⟨u,hu⟩:=hk.at he
  have hid1:Fu h₀ env H [I]:=fun b hb=>hid b (by simp at hb;simp[hb])
  refine wpAny_pyNext_dict_item st.1 st.2 hu fun key h' hkey st' hs'=>⟨key,rfl,?_⟩
  have R':=R.moveBut (h':=h') hid1 s.toks fun b o hb e=>hs'.extBut b o (fun q=>hb (by simp[q])) e
  have hk':∃t,key = .int e.1 t:=by
   refine Aa fun nY=>?_
   cases key<;>simp[intKind,Value.isInt]at hkey
   refine nY ?_;clear nY
   subst hkey;exact⟨_,rfl⟩
  refine Aa fun nY=>?_
  obtain⟨t,rfl⟩:=hk'
  have st2:=st.2.extBut hs'.extBut hne
  obtain⟨o,o1,o2,o3⟩:=st'
  refine nY ?_;clear nY
  exact H8 o1 o2 o3 (by decide) ⟨R',⟨⟨o,o1,o2,o3⟩,st2⟩,.v (.int _ _),fun b o hb e=>hs'.extBut b o (fun q=>hb (by simp[q])) e⟩
 done:=fun {h₀ env c names H ρ s E} Y R hid g st=>by
   have hid1:Fu h₀ env H [I]:=fun b hb=>hid b (by simp at hb;simp[hb])
   refine wpAny_pyNext_dict_end hh st.1 st.2 (by simp[hk.length]) fun h' he'=>⟨rfl,R.moveBut (h':=h') hid1 s.toks (fun b o hb e=>he' b o (fun q=>hb (by simp[q])) e),fun b o hb e=>he' b o (fun q=>hb (by simp[q])) e⟩
theorem Acy(hh:A.handled=none)(target:Expr){a I:Addr}{xs:List V}:Src W A target I [I] (xs.reverse.map .v) (fun H'=>H' a=some (.list xs)) (fun i h=>i<=xs.length/\h.IsRevIter I a ((xs.length:Int)-1-(i:Int))) where
 frame:=fun i h h' st hk=>⟨st.1,st.2.at fun o e=>hk I (.head _) o e⟩
 live:=fun i h st b hb=>by
  rcases List.mem_cons.mp hb with rfl|hb
  ·obtain⟨o,e,_⟩:=st.2;exact⟨o,e⟩
  ·cases hb
 self:=fun st hQ=>wpAny_pyIter_revIter st.2 hQ
 turn:=fun {h₀ env c names H ρ s i x E E'} Y R hid g st hx=>by
  obtain⟨items,h1,r1,z1⟩:=R.isList g
  rw[List.getElem?_map]at hx
  obtain⟨x',hx',rfl⟩:=Option.map_eq_some_iff.mp hx
  obtain⟨hlt,he⟩:=List.getElem?_eq_some_iff.mp hx'
  have hlt':i<xs.length:=by simpa using hlt
  have hx2:xs[xs.length-1-i]? = some x':=by rw[<-hx',List.getElem?_reverse hlt']
  obtain⟨u,hu,hv⟩:=Mq r1 hx2
  have st2:=st.2
  rw[show (xs.length:Int)-1-(i:Int)=((xs.length-1-i:Nat):Int) by exact(((Int.ofNat_sub (Nat.le_sub_one_of_lt hlt')).trans (congrArg (· - (_:Int)) (Int.ofNat_sub (Nat.zero_lt_of_lt hlt')))).symm)]at st2
  refine wpAny_pyNext_rev_item st2 h1 (x:=u) (by simpa using hu) fun h' st' hs'=>⟨u,rfl,?_⟩
  have R':=R.moveBut (h':=h') hid s.toks fun b o hb e=>hs'.extBut b o (fun q=>hb (by simp[q])) e
  rw[show ((xs.length-1-i:Nat):Int)-1=(xs.length:Int)-1-((i+1:Nat):Int) by exact Ai2 hlt']at st'
  obtain⟨o,o1,o2,o3⟩:=st'
  exact H8 o1 o2 o3 (by decide) ⟨R',⟨hlt',⟨o,o1,o2,o3⟩⟩,.v hv,fun b o hb e=>hs'.extBut b o (fun q=>hb (by simp[q])) e⟩
 done:=fun {h₀ env c names H ρ s E} Y R hid g st=>by
   have st2:=st.2
   simp only[List.length_map,List.length_reverse]at st2
   rw[show (xs.length:Int)-1-(xs.length:Int) = -1 by exact Ai3]at st2
   refine wpAny_pyNext_rev_end hh st2 fun h' he'=>⟨rfl,R.moveBut (h':=h') hid s.toks (fun b o hb e=>he' b o (fun q=>hb (by simp[q])) e),fun b o hb e=>he' b o (fun q=>hb (by simp[q])) e⟩
theorem Aac(hh:A.handled=none)(elts:List Expr)(k:Nat)(pos:Pos){a e it:Addr}{xs:List V}(hne:e≠it)(hae:a≠e)(hai:a≠it) :
 Src W A (.Tuple elts k pos) e [e,it] (xs.mapIdx fun i x=> .pair (.int i) x) (fun H'=>H' a=some (.list xs)) (fun i h=>(∃old,IsEnum h e it i old)/\h.IsListIter it a i) where
 frame:=fun i h h' st hk=>⟨let ⟨old,q⟩:=st.1;⟨old,hk e (by simp) _ q⟩,st.2.at fun o q=>hk it (by simp) o q⟩
 live:=fun i h st b hb=>by
  rcases List.mem_cons.mp hb with rfl|hb
  ·obtain⟨old,e⟩:=st.1;exact⟨_,e⟩
  ·rcases List.mem_cons.mp hb with rfl|hb
   ·obtain⟨o,e,_⟩:=st.2;exact⟨o,e⟩
   ·cases hb
 self:=fun st hQ=>by
  obtain⟨⟨old,q⟩,_⟩:=st
  exact wpAny_pyIter_enum q hQ
 turn:=fun {h₀ env c names H ρ s i x E E'} Y R hid g st hx=>by
  obtain⟨items,h1,r1,z1⟩:=R.isList g
  rw[List.getElem?_mapIdx]at hx
  obtain⟨x',hx',rfl⟩:=Option.map_eq_some_iff.mp hx
  obtain⟨u,hu,hv⟩:=Mq r1 hx'
  have WE:=WalksT.enumerate (prog:=W.prog) (w:=W.w) hh e it a hne hae hai items.toArray
  have hlt:i<items.toArray.size:=by
   obtain⟨q,_⟩:=List.getElem?_eq_some_iff.mp hu
   simpa using q
  refine WE.item i s _ E hlt ⟨st.1,st.2,h1⟩ fun T vals h' tk hP hT hTup hmid hk=>⟨_,rfl,?_⟩
  have R':=R.moveBut (h':=h') hid tk fun b o hb q=>hk b o hb q
  refine WE.go elts k pos i T {s with heap:=h',toks:=tk} _ E' hmid fun h2 st2 hk2=>?_
  have R2:=R'.moveBut (h':=h2) hid tk fun b o hb q=>hk2 b o hb q
  obtain⟨t,u',hu',rfl⟩:=hP
  have:u'=u:=by
   have h3:items.toArray[i]? = some u:=by simpa using hu
   rw[h3]at hu';cases hu';rfl
  subst this
  exact⟨R2,⟨st2.1,st2.2.1⟩,.pair (hTup.at fun o q=>hk2 T o (WE.apart i T _ hmid) q) (.int _ _) hv,fun b o hb q=>hk2 b o hb (hk b o hb q)⟩
 done:=fun {h₀ env c names H ρ s E} Y R hid g st=>by
   obtain⟨items,h1,r1,z1⟩:=R.isList g
   have WE:=WalksT.enumerate (prog:=W.prog) (w:=W.w) hh e it a hne hae hai items.toArray
   simp only[List.length_mapIdx]at st
   refine WE.done s _ E ?_ fun h' tk hk=>⟨rfl,R.moveBut (h':=h') hid tk (fun b o hb q=>hk b o hb q),hk⟩
   have:items.toArray.size=xs.length:=by simp[r1.length]
   rw[this]
   exact⟨st.1,st.2,h1⟩
end Mine.Internal
namespace Mine.Internal
open PySem PySem.W PyProof.Rows
variable {W:Wd} {G:Ax} {A:Around} {h₀:HB} {env:Env} {c:Cx} {names:List Str} {H H':AH} {ρ ρ':Aj} {s s':Shared} {E:Value->Shared->Prop} {n:Nat} {Q:Af} {Er:EP}
noncomputable def SS(W:Wd)(G:Ax)(n:Nat)(c:Cx)(e:Expr)(x:X)(two:Bool):Prop:=
 ∀ {A:Around} {env:Env} {h₀:HB} {H:AH} {ρ:Aj} {s:Shared} {K:List It->(AH->Prop)->AH->Prop} {target:Expr} {Q:Value->Shared->Prop} {E:EP} {Em:Value->Shared->Prop},
  J9 target=two->Kz A c h₀ env E n->Ah W env c h₀->Al W h₀ env c.names H ρ s->D0 G (Ad G n) x ρ H K E->(∀v s',EM W h₀ env c.names ρ E v s'->Em v s')->
  (∀I hs its g Obs H' s',Src W A target I hs its g Obs->Fu h₀ env H' hs->Obs 0 s'.heap->Al W h₀ env c.names H' ρ s'->K its g H'->Q (.ref I) s')->
  wpAny W.M A (eval e env) (fun v s₁=>wpAny W.M A (pyIter v) Q Em s₁) Em s
theorem Al.drop(R:Al W h₀ env names H ρ s)(a:Addr):Al W h₀ env names (fun b=>if b=a then none else H b) ρ s where
 ns:=R.ns
 cell:=R.cell
 keep:=R.keep
 objs:=fun b o e=>by
  split at e
  ·cases e
  ·exact R.objs b o e
 sep:=fun b o e=>by
  split at e
  ·cases e
  ·exact R.sep b o e
 gens:=R.gens
 os:=R.os
 above:=R.above
 low:=fun b o e=>by
  split at e
  ·cases e
  ·exact R.low b o e
theorem Al.cells_ne(R:Al W h₀ env names H ρ s)(Y:Ah W env c h₀){a:Addr}{o:O}(e:H a=some o):∀p∈env.cells,p.2≠a:=fun p hp q=>(R.sep a o e).2.2 p.1 (by rw[Y.look p hp,q])
theorem Ae4(hf:c.hnd=false){e:Expr}{x:X}{two:Bool}(h:SE W G n c e x):SS W G n c e (.val x) two:=by
 intro A env h₀ H ρ s K target Q E Em ht ok Y R q hE hQ
 simp only[Gg,K3,U2,J1]at q
 refine wpAny_mono (h ok Y R q) (fun v s' r=>?_) hE
 refine Aa fun nY=>?_
 obtain⟨a,H',hv,R',q'⟩:=r
 refine nY ?_;clear nY
 apply Cc hv q';intro a q'
 refine Aa fun nY=>?_
 split at q'
 ·rename_i xs e
  obtain⟨items,h1,r1,z1⟩:=R'.isList e
  refine nY ?_;clear nY
  refine wpAny_pyIter_list h1 ?_
  refine hQ s'.heap.objs.size [s'.heap.objs.size] _ _ _ H' _ (Aaa (ok.handled hf) target) (Fu.one Y R' (C1 _) R'.up) ?_ (R'.pushHid _ _) q'
  exact⟨_,Heap.get?_push_size _ rfl,rfl,rfl⟩
 ·rename_i xs e
  obtain⟨items,h1,r1,z1⟩:=R'.isTup e
  refine nY ?_;clear nY
  refine wpAny_pyIter_tuple h1 ?_
  refine hQ s'.heap.objs.size [s'.heap.objs.size] _ _ _ H' _ (W0 (ok.handled hf) target) (Fu.one Y R' (C1 _) R'.up) ?_ (R'.pushHid _ _) q'
  exact⟨_,Heap.get?_push_size _ rfl,rfl,rfl⟩
 ·rename_i es e
  obtain⟨kvs,⟨o,es',ep,g1,g2,g3,g4,g5,g6⟩,r1,z1⟩:=R'.isDict e
  have hd:(a==sysModules)=false:=beq_eq_false_iff_ne.mpr (Nat.ne_of_gt (Nat.lt_of_lt_of_le Y.lo (R'.low a _ e)))
  refine nY ?_;clear nY
  refine wpAny_pyIter_dict (knd:=intKind W.prog W.w) (kvs:=kvs) (ep:=ep) hd ⟨o,es',g1,g2,g3,g4,g5,g6⟩ ?_
  have hne:a≠s'.heap.objs.size:=Nat.ne_of_lt (Heap.lt_size g1)
  have R2:=(R'.drop a).pushHid {cls:= .type "dict_keyiterator",data:= .fields #[.ref a,.int 0 0,.int kvs.length 0,.int ep 0]} s'.toks
  refine hQ s'.heap.objs.size [s'.heap.objs.size,a] _ _ _ _ _ (Aab (ok.handled hf) target (kvs:=kvs) (ep:=ep) r1 hne) ?_ ?_ R2 q'
  ·intro b hb
   refine Aa fun nY=>?_
   rcases List.mem_cons.mp hb with rfl|hb
   ·refine nY ?_;clear nY
    exact Fu.one Y (R'.drop a) (C1 _) R'.up _ (.head _)
   ·simp at hb
    subst hb
    refine nY ?_;clear nY
    exact⟨by simp,(R'.sep _ _ e).1,(R'.sep _ _ e).2.1,R'.cells_ne Y e⟩
  ·exact⟨⟨_,Heap.get?_push_size _ rfl,rfl,rfl⟩,⟨o,es',Heap.get?_push_of_some _ g1,g2,g3,g4,g5,g6⟩⟩
 ·exact q'.elim
theorem Aad(g:F9 W G)(hf:c.hnd=false){p pos:Pos}{es:List Expr}{xs:List X}{two:Bool}(hg:c.global "range" = true)(hs:Tf W G n c es xs)(hn:NS es):SS W G n c (.Call (.Name "range" p) es [] pos) (.range xs) two:=by
 intro A env h₀ H ρ s K target Q E Em ht ok Y R q hE hQ
 simp only[Gg,K3,U2,J1]at q
 refine Ki g Y R (.inr ⟨"range",rfl⟩) hg (by decide) (by decide) (by kernel_rfl) (by decide) hn (wpAny_mono (En (Q':=fun us s'=>(Ho fun as H'=>Jy (Df W as us.pos) (us.kw = []) (Al W h₀ env c.names H' ρ s') (El as H' K))) hs hn ok Y R q fun as us H' s' hv R' q'=>⟨as,H',hv,rfl,R',q'⟩) (fun us s' r=>?_) hE)
 obtain⟨as,H',hv,hkw,R',q'⟩:=r
 obtain⟨us,kw⟩:=us
 simp only at hv hkw
 subst hkw
 have b1:Cg=1048576:=rfl
 have core:∀(r:Addr) (a b:Int) (t u v:Tok) (s2:Shared),Al W h₀ env c.names H' ρ s2->IsRange s2.heap r a b 1 t u v->0<=a->a<=Cg-> -(Cg:Int)<=b->b<=Cg->
  K ((List.range (b-a).toNat).map fun(i:Nat)=> .v (.int (a+i))) (fun _=>True) H'->wpAny W.M A (pyIter (.ref r)) Q Em s2:=by
  intro r a b t u v s2 R2 hr h1 h2 h3 h4 hk
  refine wpAny_pyIter_range hr (small_one (Int.le_trans (by decide) h1) (Agm b1 h2) (Ai4 b1 h3) (Agm b1 h4)) ?_
  refine hQ s2.heap.objs.size [s2.heap.objs.size] _ _ _ H' _ (W1 (ok.handled hf) target (a:=a) (k:=(b-a).toNat)) (Fu.one Y R2 (C1 _) R2.up) ?_ (R2.pushHid _ _) hk
  rw[rangeSize_nat]
  simp only[Int.natCast_zero,Int.add_zero,Int.sub_zero]
  exact Heap.get?_push_size _ rfl
 cases hv with
 | nil=>exact False.elim q'
 | cons hu t=>cases t with
   | nil=>
     apply Aq hu q';intro k t q'
     refine call_range_1 ?_
     have R2:=R'.pushHid {cls:= .type "range",data:= .fields #[.int 0 s'.toks,.int k t,.int 1 (s'.toks+1)]} (s'.toks+1+1)
     refine core _ 0 k _ _ _ _ R2 (Heap.get?_push_size _ rfl) (by(first|lia|omega)) (by(first|lia|omega)) q'.1.1 q'.1.2 ?_
     simpa using q'.2
   | cons hu2 t=>cases t with
     | nil=>
       apply Aq hu q';intro m t q';apply Aq hu2 q';intro k t2 q'
       refine call_range_2 ?_
       have R2:=R'.pushHid {cls:= .type "range",data:= .fields #[.int m t,.int k t2,.int 1 s'.toks]} (s'.toks+1)
       have:=q'.1
       exact core _ m k _ _ _ _ R2 (Heap.get?_push_size _ rfl) this.1 this.2.1 this.2.2.1 this.2.2.2 q'.2
     | cons=>exact False.elim q'
theorem Acz(g:F9 W G)(hf:c.hnd=false){p pos:Pos}{e:Expr}{x:X}(hg:c.global "enumerate" = true)(h:SE W G n c e x)(hn:∀v p,e≠ .Starred v p):SS W G n c (.Call (.Name "enumerate" p) [e] [] pos) (.enum x) true:=by
 intro A env h₀ H ρ s K target Q E Em ht ok Y R q hE hQ
 simp only[Gg,K3,U2,J1]at q
 refine Ki g Y R (.inr ⟨"enumerate",rfl⟩) hg (by decide) (by decide) (by kernel_rfl) (by decide) (ns1 hn) ?_
 rw[Be hn]
 refine Calls.evalArgs_plain (Calls.spliced_cons (wpAny_mono (h ok Y R q) (fun v s' r=>Calls.spliced_nil ?_) hE))
 refine Aa fun nY=>?_
 obtain⟨a,H',hv,R',q'⟩:=r
 refine nY ?_;clear nY
 apply Cc hv q';intro a q';refine F7 q' fun xs e q'=>?_
 refine Aa fun nY=>?_
 obtain⟨items,h1,r1,z1⟩:=R'.isList e
 refine nY ?_;clear nY
 refine call_enumerate_list h1 fun h' hE hI hsz hk=>?_
 refine wpAny_pyIter_enum hE ?_
 have hlt:a<s'.heap.objs.size:=by obtain⟨_,q,_⟩:=h1;exact Heap.lt_size q
 refine Aa fun nY=>?_
 cases target with
 | Tuple elts k tp=>
   refine nY ?_;clear nY
   refine hQ _ [s'.heap.objs.size+1,s'.heap.objs.size] _ _ _ H' _ (Aac (ok.handled hf) elts k tp (a:=a) (e:=s'.heap.objs.size+1) (it:=s'.heap.objs.size) (xs:=xs) (Nat.succ_ne_self _) (Nat.ne_of_lt (Nat.lt_succ_of_lt hlt)) (Nat.ne_of_lt hlt)) ?_ ⟨⟨_,hE⟩,hI⟩ (R'.move s'.toks hk) q'
   intro b hb
   have hb':s'.heap.objs.size<=b:=by
    refine Aa fun nY=>?_
    rcases List.mem_cons.mp hb with rfl|hb
    ·refine nY ?_;clear nY
     exact Nat.le_succ _
    ·rcases List.mem_cons.mp hb with rfl|hb
     ·refine nY ?_;clear nY
      exact Nat.le_refl _
     ·cases hb
   exact Fu.one Y R' (O9 hb') (Nat.le_trans R'.up hb') b (.head _)
 | _=>cases ht
theorem Ae5(g:F9 W G)(hf:c.hnd=false){p pos:Pos}{e:Expr}{x:X}{two:Bool}(hg:c.global "reversed" = true)(h:SE W G n c e x)(hn:∀v p,e≠ .Starred v p):SS W G n c (.Call (.Name "reversed" p) [e] [] pos) (.rev x) two:=by
 intro A env h₀ H ρ s K target Q E Em ht ok Y R q hE hQ
 simp only[Gg,K3,U2,J1]at q
 refine Ki g Y R (.inr ⟨"reversed",rfl⟩) hg (by decide) (by decide) (by kernel_rfl) (by decide) (ns1 hn) ?_
 rw[Be hn]
 refine Calls.evalArgs_plain (Calls.spliced_cons (wpAny_mono (h ok Y R q) (fun v s' r=>Calls.spliced_nil ?_) hE))
 refine Aa fun nY=>?_
 obtain⟨a,H',hv,R',q'⟩:=r
 refine nY ?_;clear nY
 apply Cc hv q';intro a q';refine F7 q' fun xs e q'=>?_
 refine Aa fun nY=>?_
 obtain⟨items,h1,r1,z1⟩:=R'.isList e
 refine nY ?_;clear nY
 refine call_reversed_list h1 ?_
 have hI:(s'.heap.push (revObj a ((items.toArray.size:Int)-1))).IsRevIter s'.heap.objs.size a ((xs.length:Int)-1-((0:Nat):Int)):=⟨_,Heap.get?_push_size _ rfl,rfl,by simp[revObj,r1.length]⟩
 refine wpAny_pyIter_revIter hI ?_
 exact hQ s'.heap.objs.size [s'.heap.objs.size] _ _ _ H' _ (Acy (ok.handled hf) target (a:=a) (xs:=xs)) (Fu.one Y R' (C1 _) R'.up) ⟨Nat.zero_le _,hI⟩ (R'.pushHid _ _) q'
end Mine.Internal
namespace Mine.Internal
open PySem PySem.W PyProof.Rows
variable {W:Wd} {G:Ax} {A:Around} {h₀:HB} {env:Env} {c:Cx} {names:List Str} {H H':AH} {ρ ρ':Aj} {s s':Shared} {E:Value->Shared->Prop} {n:Nat} {Q:Af} {Er:EP}
theorem Ph:∀ {l:List Str} {x y:Str} {i:Nat},l.idxOf? x=some i->l.idxOf? y=some i->x=y
 | [],_,_,_,h,_=>by simp at h
 | a::l,x,y,i,h1,h2=>by
   rw[List.idxOf?_cons]at h1 h2
   split at h1
   ·rename_i q1
    cases h1
    split at h2
    ·rename_i q2
     exact(beq_iff_eq.mp q1).symm.trans (beq_iff_eq.mp q2)
    ·simp at h2
   ·split at h2
    ·cases h2;simp at h1
    ·obtain⟨j,h3,h4⟩:=Option.map_eq_some_iff.mp h1
     obtain⟨k,h5,h6⟩:=Option.map_eq_some_iff.mp h2
     have:j=k:=(Nat.succ.inj (h4.trans h6.symm))
     subst this
     exact Ph h3 h5
theorem W2{x:Str}{i:Nat}(h:c.own x=some i):c.names.idxOf? x=some i/\(c.sc.names.lookup x=some .local\/c.sc.names.lookup x=some .cell):=by
 unfold Cx.own at h
 refine Aa fun nY=>?_
 split at h
 ·rename_i q
  refine nY ?_;clear nY
  refine⟨h,?_⟩
  unfold U5 at q
  split at q<;>first|(rename_i e;simp[e])|cases q
 ·cases h
theorem Nx(Y:Ah W env c h₀)(R:Al W h₀ env c.names H ρ s){x:Str}{i:Nat}{a:V}{u:Value}(hs:c.own x=some i)(hv:VR W a u) :
 wpAny W.M A (storeName env x u) (fun _ s'=>Al W h₀ env c.names H (ρ.set i (some a)) s') E s:=by
 refine Aa fun nY=>?_
 obtain⟨hi,hk⟩:=W2 hs
 have other:∀ {y:Str} {j:Nat} {v:V},c.names.idxOf? y=some j->y≠x->(ρ.set i (some a))[j]? = some (some v)->ρ[j]? = some (some v):=by
  intro y j v h1 h2 h3
  have:i≠j:=fun q=>h2 (Ph h1 (q▸hi))
  rwa[List.getElem?_set_ne this]at h3
 have same:∀ {j:Nat} {v:V},c.names.idxOf? x=some j->(ρ.set i (some a))[j]? = some (some v)->v=a:=by
  intro j v h1 h3
  rw[hi]at h1;cases h1
  rw[List.getElem?_set_self']at h3
  cases q:ρ[i]? with
  | none=>rw[q]at h3;cases h3
  | some z=>rw[q]at h3;simp at h3;exact h3.symm
 rcases hk with hk|hk
 ·have hx:env.kindOf x=some .local:=Y.kinds x _ hk (by simp)
  obtain⟨m,h1,h2⟩:=R.ns
  refine nY ?_;clear nY
  refine wpAny_storeName_local hx h1 (fun h' hn hb=>?_) (by simp[Y.kind])
  refine⟨⟨_,hn,fun y j v e1 e2 e3=>?_⟩,?_,?_,?_,R.sep,R.gens,R.os,R.above,R.low⟩
  ·refine Aa fun nY=>?_
   by_cases q:y=x
   ·subst q
    refine nY ?_;clear nY
    rw[same e1 e3]
    exact⟨u,by simp,hv⟩
   ·refine nY ?_;clear nY
    simp only[q,if_false]
    exact h2 y j v e1 e2 (other e1 q e3)
  ·intro y b e
   refine Aa fun nY=>?_
   obtain⟨w,⟨o,ho,hd⟩,r⟩:=R.cell y b e
   refine nY ?_;clear nY
   refine⟨w,⟨o,(hb.2 b (Y.apart y b e)).trans ho,hd⟩,fun j v e1 e2 e3=>r j v e1 e2 (other e1 (fun q=>?_) e3)⟩
   refine Aa fun nY=>?_
   subst q
   rw[hx]at e2
   rcases e2 with e2|e2<;>cases e2
  ·intro b o e
   refine Aa fun nY=>?_
   obtain⟨o',e1,z⟩:=R.keep b o e
   refine nY ?_;clear nY
   exact⟨o',(hb.2 b (fun q=>by rw[q,Y.new]at e;cases e)).trans e1,z⟩
  ·intro b o e
   refine Aa fun nY=>?_
   obtain⟨ob,g1,g2⟩:=R.objs b o e
   refine nY ?_;clear nY
   exact⟨ob,(hb.2 b (R.sep b o e).2.1).trans g1,g2⟩
 ·have hx:env.kindOf x=some .cell:=Y.kinds x _ hk (by simp)
  obtain⟨ca,hca⟩:=Y.cells x (.inl hx)
  obtain⟨w,hw,hr⟩:=R.cell x ca hca
  refine nY ?_;clear nY
  refine wpAny_storeName_cell Y.kind hx hca hw fun h' hn hb=>?_
  refine⟨?_,?_,?_,?_,R.sep,R.gens,R.os,R.above,R.low⟩
  ·refine Aa fun nY=>?_
   obtain⟨m,h1,h2⟩:=R.ns
   refine nY ?_;clear nY
   refine⟨m,h1.sameBut hb (fun q=>Y.apart x ca hca q.symm),fun y j v e1 e2 e3=>h2 y j v e1 e2 (other e1 (fun q=>?_) e3)⟩
   subst q
   rw[hx]at e2;cases e2
  ·intro y b e
   refine Aa fun nY=>?_
   by_cases q:y=x
   ·subst q
    rw[hca]at e;cases e
    refine nY ?_;clear nY
    exact⟨some u,hn,fun j v e1 e2 e3=>⟨u,rfl,by rw[same e1 e3];exact hv⟩⟩
   ·obtain⟨w,⟨o,ho,hd⟩,r⟩:=R.cell y b e
    refine nY ?_;clear nY
    exact⟨w,⟨o,(hb.2 b (fun z=>q (Y.inj y x b e (z▸hca)))).trans ho,hd⟩,fun j v e1 e2 e3=>r j v e1 e2 (other e1 q e3)⟩
  ·intro b o e
   refine Aa fun nY=>?_
   obtain⟨o',e1,z⟩:=R.keep b o e
   refine nY ?_;clear nY
   refine⟨o',(hb.2 b (fun q=>?_)).trans e1,z⟩
   refine Aa fun nY=>?_
   obtain⟨p,hp,hp2⟩:=Bh hca
   have:=Y.newc p hp
   rw[hp2,<-q,e]at this;cases this
  ·intro b o e
   refine Aa fun nY=>?_
   obtain⟨ob,g1,g2⟩:=R.objs b o e
   refine nY ?_;clear nY
   exact⟨ob,(hb.2 b (fun q=>(R.sep b o e).2.2 x (q▸hca))).trans g1,g2⟩
theorem Ny(Y:Ah W env c h₀)(R:Al W h₀ env c.names H ρ s)(hh:A.handled=none){x y:Str}{px py tp:Pos}{k i j:Nat}{T:Addr}{a b:V}{u1 u2:Value}(hx:c.own x=some i)(hy:c.own y=some j)(ht:s.heap.IsTuple T #[u1,u2])(h1:VR W a u1)(h2:VR W b u2) :
 wpAny W.M A (assign (.Tuple [.Name x px,.Name y py] k tp) env (.ref T)) (fun _ s'=>Al W h₀ env c.names H ((ρ.set i (some a)).set j (some b)) s') E s:=by
 refine wpAny_assign_Tuple hh ht rfl rfl fun h' hk=>?_
 have R':Al W h₀ env c.names H ρ {s with heap:=h'}:=R.move s.toks fun b o e=>hk b o (fun q=>by rw[q,C1]at e;cases e) e
 refine wpAny_assignInOrder_more ?_
 refine wpAny_assign_Name (wpAny_mono (Nx Y R' hx h1) (fun _ s1 R1=>?_) fun _ _ e=>e)
 refine wpAny_assignInOrder_more ?_
 exact wpAny_assign_Name (wpAny_mono (Nx Y R1 hy h2) (fun _ s2 R2=>wpAny_assignInOrder_none R2) fun _ _ e=>e)
theorem Nz(Y:Ah W env c h₀)(R:Al W h₀ env c.names H ρ s)(hh:A.handled=none){target:Expr}{t:Rc}{it:It}{v:Value}{N:Aj->Prop}(ht:Ye c target=some t)(hi:ItR W s.heap it v)(q:J0 t it ρ H N) :
 wpAny W.M A (assign target env v) (fun _ s'=>∃ρ',Al W h₀ env c.names H ρ' s'/\N ρ') E s:=by
 rcases Ab0 ht with⟨x,p,rfl,i,h1,rfl⟩ | ⟨x,px,y,py,k,tp,rfl,i,h1,j,h2,rfl⟩
 ·clear ht
  delta J0 at q
  cases hi with
  | v hv=>exact wpAny_assign_Name (wpAny_mono (Nx Y R h1 hv) (fun _ s' R'=>⟨_,R',q⟩) fun _ _ e=>e)
  | pair _ _ _=>exact q.elim
 ·clear ht
  delta J0 at q
  cases hi with
  | v hv=>
    rename_i va
    cases va with
    | ref a=>
      cases hv
      simp only at q
      split at q
      ·rename_i a1 a2 e
       obtain⟨items,g1,r1,z1⟩:=R.isTup e
       obtain⟨u1,u2,rfl,v1,v2⟩:=Ajk r1
       exact wpAny_mono (Ny Y R hh h1 h2 g1 v1 v2) (fun _ s' R'=>⟨_,R',q⟩) fun _ _ e=>e
      ·exact q.elim
    | _=>exact q.elim
  | pair ht v1 v2=>exact wpAny_mono (Ny Y R hh h1 h2 ht v1 v2) (fun _ s' R'=>⟨_,R',q⟩) fun _ _ e=>e
end Mine.Internal
namespace Mine.Internal
open PySem PySem.W PyProof.Rows
variable {W:Wd} {G:Ax} {A:Around} {h₀:HB} {env:Env} {c:Cx} {names:List Str} {H H':AH} {ρ ρ':Aj} {s s':Shared} {E:Value->Shared->Prop} {n:Nat} {Q:Af} {Er:EP}
noncomputable def H9(W:Wd)(h₀:HB)(env:Env)(names:List Str)(N:Aj->AH->Prop)(Rt:Af)(f:Flow)(s':Shared):Prop:=match f with
 | .next=>(Ho fun ρ' H'=>Al W h₀ env names H' ρ' s'/\N ρ' H')
 | .ret v=>(Tg fun a H' ρ'=>Fx (VR W a v) (Al W h₀ env names H' ρ' s') (Rt a H'))
 | _=>False
noncomputable def EMs(W:Wd)(h₀:HB)(env:Env)(names:List Str)(b:Bool)(ρ:Aj)(E:EP)(v:Value)(s':Shared):Prop:=∃ρ':Aj,(b=true->ρ'=ρ)/\EM W h₀ env names ρ' E v s'
theorem EM.st{b:Bool}{v:Value}(x:EM W h₀ env names ρ Er v s):EMs W h₀ env names b ρ Er v s:=⟨ρ,fun _=>rfl,x⟩
noncomputable def Pi(W:Wd)(G:Ax)(n:Nat)(c:Cx)(st:Stmt)(x:S):Prop:=
 ∀ {A:Around} {env:Env} {h₀:HB} {H:AH} {ρ:Aj} {s:Shared} {N:Aj->AH->Prop} {Rt:Af} {E:EP},Kz A c h₀ env E n->Ah W env c h₀->Al W h₀ env c.names H ρ s->wpS G (Ad G n) x ρ H N Rt E->
  wpAny W.M A (exec st env) (H9 W h₀ env c.names N Rt) (EMs W h₀ env c.names (O8 x) ρ E) s
noncomputable def Hk(W:Wd)(G:Ax)(n:Nat)(c:Cx)(sts:List Stmt)(xs:List S):Prop:=
 ∀ {A:Around} {env:Env} {h₀:HB} {H:AH} {ρ:Aj} {s:Shared} {N:Aj->AH->Prop} {Rt:Af} {E:EP},Kz A c h₀ env E n->Ah W env c h₀->Al W h₀ env c.names H ρ s->B0 G (Ad G n) xs ρ H N Rt E->
  wpAny W.M A (execs sts env) (H9 W h₀ env c.names N Rt) (EMs W h₀ env c.names (Ji xs) ρ E) s
theorem Aae:Hk W G n c [] []:=by
 intro A env h₀ H ρ s N Rt E ok Y R q
 exact wpAny_pure ⟨ρ,H,R,q⟩
theorem Aaf{st:Stmt}{x:S}(h:Pi W G n c st x):Hk W G n c [st] [x]:=by
 intro A env h₀ H ρ s N Rt E ok Y R q
 simp only[Z2,Z3]at q
 refine wpAny_execs_cons (wpAny_mono (h ok Y R q) (fun f s' r=>?_) fun _ _ e=>e)
 cases f with
 | next=>exact wpAny_pure r
 | ret v=>exact r
 | brk=>exact r.elim
 | cont=>exact r.elim
theorem W3{st:Stmt}{sts:List Stmt}{x y:S}{xs:List S}(h:Pi W G n c st x)(hs:Hk W G n c sts (y::xs)):Hk W G n c (st::sts) (x::y::xs):=by
 intro A env h₀ H ρ s N Rt E ok Y R q
 rw[Z3]at q
 refine wpAny_execs_cons (wpAny_mono (h ok Y R q) (fun f s' r=>?_) fun _ _ e=>(let ⟨ρ',_,z⟩:=e;⟨ρ',nofun,z⟩))
 cases f with
 | next=>
   obtain⟨ρ',H',R',q'⟩:=r
   exact wpAny_mono (hs ok Y R' q') (fun _ _ r=>r) fun _ _ e=>(let ⟨ρ',_,z⟩:=e;⟨ρ',nofun,z⟩)
 | ret v=>exact r
 | brk=>exact r.elim
 | cont=>exact r.elim
/-! the stations of a raise -/
noncomputable abbrev Fs(l:List Env)(fs:List Addr):Prop:=∀x∈l,x.scope.kind≠ .module/\∃L,x.frame=some L/\L∈fs
theorem Al.funFrames(R:Al W h₀ env names H ρ s)(Y:Ah W env c h₀){base:Heap}(hb:∀L∈env.locals::h₀.fs,base.get? L=none):∀ {l:List Env},Fs l (env.locals::h₀.fs)->s.heap.FunFrames base l
 | [],_=>trivial
 | x::r,h=>by
   obtain⟨k,L,hf,hm⟩:=h x (.head _)
   have:∃o,s.heap.get? L=some o/\∀vs,o.data≠ .fields vs:=by
    rcases List.mem_cons.mp hm with rfl|hm
    ·obtain⟨m,⟨o,es,ep,h1,h2,_⟩,_⟩:=R.ns
     exact⟨o,h1,fun vs q=>by rw[h2]at q;cases q⟩
    ·exact R.fsd Y hm
   obtain⟨o,ho,hd⟩:=this
   exact⟨k,⟨L,o,hf,hb L hm,ho,hd⟩,R.funFrames Y hb fun y hy=>h y (.tail _ hy)⟩
noncomputable def Gz(h₀:HB)(env:Env)(e:Addr)(S:List Addr)(h:Heap):Heap:=hideAll h ((env.locals::h₀.fs)++e::S)
theorem D6{e b:Addr}{S:List Addr}{h:Heap}(m:b∈env.locals::h₀.fs\/b=e\/b∈S):(Gz h₀ env e S h).get? b=none:=
 hideAll_none _ (by
  rcases m with m|rfl|m
  ·exact List.mem_append_left _ m
  ·exact List.mem_append_right _ (.head _)
  ·exact List.mem_append_right _ (.tail _ m))
theorem G0{e:Addr}{S:List Addr}{h:Heap}:(Gz h₀ env e S h).StaysIn h:=fun _ _ q=>of_hideAll _ q
theorem Sq{e b:Addr}{S:List Addr}{h:Heap}{o:Obj}(q:h.get? b=some o)(n1:b≠env.locals)(n2:b∉h₀.fs)(n3:b≠e)(n4:b∉S):(Gz h₀ env e S h).get? b=some o:=
 hideAll_get _ q fun m=>by
  rcases List.mem_append.mp m with m|m
  ·rcases List.mem_cons.mp m with m|m
   ·exact n1 m
   ·exact n2 m
  ·rcases List.mem_cons.mp m with m|m
   ·exact n3 m
   ·exact n4 m
theorem G1(R:Al W h₀ env names H ρ s)(Y:Ah W env c h₀){e:Addr}{cc:Dc}{cls a0 fl:Value}{S:List Addr}{h':Heap}(he:H e=some (.exc cc))(hS:Fu h₀ env H S){oe:Obj}(ho:s.heap.get? e=some oe)(hcl:oe.cls=cls)(q:Er (.ref e) H)
 (k1:(Gz h₀ env e S s.heap).StaysIn h') (k2:h'.TracedAtW (Gz h₀ env e S s.heap) e cls a0 fl) (k3:s.heap.UpToSlots h'):Td W h₀ env names ρ Er (some fl) (.ref e) {s with heap:=h'}:=by
 refine Aa fun nY=>?_
 obtain⟨oe',vs,T,oT,ts,t1,⟨t2,t3⟩,t4,t5,t6,t7,t8,t9,t10⟩:=k2
 obtain⟨p1,p2,p3⟩:=R.sep e _ he
 obtain⟨ob,b1,b2⟩:=R.objs e _ he
 rw[ho]at b1
 cases b1
 have nofs:∀b,h₀.get? b=none->b∉h₀.fs:=fun b e m=>Y.fsok b m e
 have stay:∀b o,s.heap.get? b=some o->b≠env.locals->h₀.get? b=none\/b∉h₀.fs->b≠e->b∉S->h'.get? b=some o:=fun b o z n1 n2 n3 n4=>
  k1 b o (Sq z n1 (n2.elim (nofs b) id) n3 n4)
 have onlyT:∀b o,s.heap.get? b=some o->b≠env.locals->h₀.get? b=none\/b∉h₀.fs->b≠e->b∉S->b≠T:=fun b o z n1 n2 n3 n4 x=>by
  rw[<-x,Sq z n1 (n2.elim (nofs b) id) n3 n4]at t6;cases t6
 have cellS:∀x a,env.cells.lookup x=some a->a≠env.locals/\h₀.get? a=none/\a≠e/\a∉S:=fun x a z=>by
  refine Aa fun nY=>?_
  obtain⟨p,hp,hp2⟩:=Bh z
  refine nY ?_;clear nY
  exact⟨Y.apart x a z,hp2▸Y.newc p hp,fun x'=>p3 x (x'▸z),fun m=>(hS a m).2.2.2 p hp hp2⟩
 have nsL:(Ho fun o sl=>Fx (s.heap.get? env.locals=some o) ((∀vs,o.data≠ .fields vs)) (h'.get? env.locals=some {o with slots:=sl})):=by
  refine Aa fun nY=>?_
  obtain⟨m,⟨o,es,ep,h1,h2,_⟩,_⟩:=R.ns
  obtain⟨sl,z⟩:=k3 _ _ h1 fun vs q=>by rw[h2]at q;cases q
  refine nY ?_;clear nY
  exact⟨o,sl,h1,fun vs q=>(by rw[h2]at q;cases q),z⟩
 refine nY ?_;clear nY
 refine⟨e,H,cc,rfl,⟨?_,?_,?_,?_,R.sep,R.gens,R.os,R.above,R.low⟩,he,⟨oe',vs,a0,t1,t4,t3,T,oT,ts,t5,t7,t8,t9,t10,fun b hb=>?_⟩,q⟩
 ·refine Aa fun nY=>?_
  obtain⟨m,z,r⟩:=R.ns
  refine nY ?_;clear nY
  exact⟨m,k3.ns z,r⟩
 ·intro x a z
  refine Aa fun nY=>?_
  obtain⟨w,⟨o,h1,h2⟩,r⟩:=R.cell x a z
  obtain⟨n1,n2,n3,n4⟩:=cellS x a z
  refine nY ?_;clear nY
  exact⟨w,⟨o,stay a o h1 n1 (.inl n2) n3 n4,h2⟩,r⟩
 ·intro b o z
  refine Aa fun nY=>?_
  obtain⟨o',z1,z2⟩:=R.keep b o z
  have n1:b≠env.locals:=fun x=>by rw[x,Y.new]at z;cases z
  have n3:b≠e:=fun x=>by rw[x,p1]at z;cases z
  have n4:b∉S:=fun m=>by rw[(hS b m).2.1]at z;cases z
  cases Classical.em (b∈h₀.fs)with
  | inl m=>
    obtain⟨o2,y1,y2⟩:=R.fsd Y m
    rw[z1]at y1;cases y1
    obtain⟨sl,y3⟩:=k3 b _ z1 y2
    refine nY ?_;clear nY
    exact⟨_,y3,z2.trans (.inr ⟨⟨m,(Y.fsd b m).1⟩,sl,rfl⟩)⟩
  | inr m=>(refine nY ?_;clear nY;exact⟨o',stay b o' z1 n1 (.inr m) n3 n4,z2⟩)
 ·intro a o z
  refine Aa fun nY=>?_
  cases Classical.em (a=e)with
  | inl x=>
    subst x
    rw[he]at z;cases z
    refine nY ?_;clear nY
    refine⟨oe',t1,?_⟩
    refine Aa fun nY=>?_
    cases b2 with
    | exc x1 x2 x3=>(refine nY ?_;clear nY;exact .exc x1 (by rw[t2,<-hcl];exact x2) t4)
  | inr x=>
    obtain⟨ob',z1,z2⟩:=R.objs a o z
    refine nY ?_;clear nY
    exact⟨ob',stay a ob' z1 (R.sep a o z).2.1 (.inl (R.sep a o z).1) x (fun m=>by rw[(hS a m).1]at z;cases z),z2⟩
 ·have hb':b=T:=by simpa using hb
  subst hb'
  refine⟨?_,?_,?_,?_⟩
  ·cases z:H b with
   | none=>rfl
   | some o=>
     refine Aa fun nY=>?_
     obtain⟨ob',z1,_⟩:=R.objs b o z
     exact absurd rfl (onlyT b ob' z1 (R.sep b o z).2.1 (.inl (R.sep b o z).1) t7 fun m=>by rw[(hS b m).1]at z;cases z)
  ·cases z:h₀.get? b with
   | none=>rfl
   | some o=>
     refine Aa fun nY=>?_
     obtain⟨o',z1,_⟩:=R.keep b o z
     cases Classical.em (b∈h₀.fs)with
     | inl m=>
       obtain⟨o2,y1,y2⟩:=R.fsd Y m
       obtain⟨sl,y3⟩:=k3 b _ y1 y2
       rw[t8]at y3;cases y3
       exact absurd t9 (y2 _)
     | inr m=>exact absurd rfl (onlyT b o' z1 (fun x=>by rw[x,Y.new]at z;cases z) (.inr m) t7 fun m=>by rw[(hS b m).2.1]at z;cases z)
  ·intro x
   refine Aa fun nY=>?_
   obtain⟨o,sl,_,y2,y3⟩:=nsL
   rw[<-x,t8]at y3;cases y3
   exact absurd t9 (y2 _)
  ·intro p hp x
   refine Aa fun nY=>?_
   obtain⟨w,⟨o,h1,_⟩,_⟩:=R.cell p.1 p.2 (Y.look p hp)
   obtain⟨n1,n2,n3,n4⟩:=cellS p.1 p.2 (Y.look p hp)
   refine nY ?_;clear nY
   exact onlyT p.2 o h1 n1 (.inl n2) n3 n4 x
theorem Ac0{h₀:HB}{H:AH}:Fu h₀ env H []:=fun _ m=>nomatch m
theorem Lc{M:Model}{Em:Value->Shared->Prop}{outer:List Env}(hfr:A.frames=some (env::outer))(hf:env.frame=some env.locals)(stk:Fs (env::outer) (env.locals::h₀.fs))(Y:Ah W env c h₀){Q:Unit->Shared->Prop}{v:Value}
 (x:EM W h₀ env names ρ Er v s) (h:∀s',Td W h₀ env names ρ Er (some (rawInt env.locals)) v s'->Q () s'):wpAny M A (noteFrame v env) Q Em s:=by
 refine Aa fun nY=>?_
 obtain⟨fl,hfl,e,H,cc,rfl,R,he,⟨oe,vs,a0,t1,t2,t3,t4⟩,q⟩:=x
 have hen:∀S:List Addr,(Gz h₀ env e S s.heap).get? e=none:=fun S=>D6 (.inr (.inl rfl))
 have hl:∀S:List Addr,s.heap.FunFrames (Gz h₀ env e S s.heap) (env::outer):=fun S=>R.funFrames Y (fun L m=>D6 (.inl m)) stk
 rcases hfl with rfl|rfl|rfl
 ·refine nY ?_;clear nY
  unfold noteFrame
  simp only[hf]
  refine wpAny_bind (wpAny_field t1 t2 t4 ?_)
  rw[if_neg (by decide)]
  exact wpAny_entryW hfr (hl []) hf t1 G0 (hen []) t2 (Array.getElem?_eq_some_iff.mp t4).1 t3 fun h' ⟨k1,_,k2,k3⟩=>h _ (G1 R Y he Ac0 t1 rfl q k1 k2 k3)
 ·obtain⟨T,oT,ts,g1,g2,g3,g4,g5,g6⟩:=t4
  refine nY ?_;clear nY
  exact wpAny_noteFrame_onW hfr (hl [T]) hf ⟨oe,vs,T,oT,ts,t1,⟨rfl,t3⟩,t2,g1,D6 (.inr (.inr (.head _))),g2,g3,g4,g5⟩ G0 (hen [T]) fun h' ⟨k1,_,k2,k3⟩=>h _ (G1 R Y he g6 t1 rfl q k1 k2 k3)
 ·obtain⟨T,oT,ts,g1,g2,g3,g4,g5,g6⟩:=t4
  refine nY ?_;clear nY
  exact wpAny_noteFrame_againW (base:=Gz h₀ env e [T] s.heap) hf ⟨oe,vs,T,oT,ts,t1,⟨rfl,t3⟩,t2,g1,D6 (.inr (.inr (.head _))),g2,g3,g4,g5⟩ (h s ⟨e,H,cc,rfl,R,he,⟨oe,vs,a0,t1,t2,t3,T,oT,ts,g1,g2,g3,g4,g5,g6⟩,q⟩)
theorem Iu{M:Model}{Em:Value->Shared->Prop}(Y:Ah W env c h₀){Q:Unit->Shared->Prop}{v fl:Value}
 (x:Td W h₀ env names ρ Er (some fl) v s) (h:∀s',Td W h₀ env names ρ Er (some .none) v s'->Q () s'):wpAny M A (setFlight v none) Q Em s:=by
 refine Aa fun nY=>?_
 obtain⟨e,H,cc,rfl,R,he,⟨oe,vs,a0,t1,t2,t3,T,oT,ts,g1,g2,g3,g4,g5,g6⟩,q⟩:=x
 refine nY ?_;clear nY
 exact wpAny_setFlight_noneW (base:=Gz h₀ env e [T] s.heap) (l:=[]) G0 trivial ⟨oe,vs,T,oT,ts,t1,⟨rfl,t3⟩,t2,g1,D6 (.inr (.inr (.head _))),g2,g3,g4,g5⟩ fun h' k1 _ k2 k3=>
  h _ (G1 R Y he g6 t1 rfl q k1 k2 fun b o z n=>⟨o.slots,k3 b o z n⟩)
theorem W4{M:Model}{Em:Value->Shared->Prop}(hf:env.frame=some env.locals)(Y:Ah W env c h₀){v fl:Value}
 (x:Td W h₀ env names ρ Er (some fl) v s) (h:∀s',Td W h₀ env names ρ Er (some (rawInt env.locals)) v s'->Em v s'):cameBackBy M A env Em v s:=by
 refine Aa fun nY=>?_
 obtain⟨e,H,cc,rfl,R,he,⟨oe,vs,a0,t1,t2,t3,T,oT,ts,g1,g2,g3,g4,g5,g6⟩,q⟩:=x
 refine nY ?_;clear nY
 unfold cameBackBy
 refine wpAny_bind (wpAny_field t1 t2 g1 ?_)
 rw[if_neg (show ¬(Value.ref T==Value.none)=true from by simp)]
 unfold setFlight
 refine wpAny_bind (wpAny_field t1 t2 g1 ?_)
 rw[if_pos (show (Value.ref T != Value.none)=true from by simp),hf]
 have hsz:3<ts.size:=(Array.getElem?_eq_some_iff.mp g5).1
 refine wpAny_setField g3 g4 hsz (h _ ?_)
 have other:∀b,b≠T->(s.heap.update T (Obj.mapFields (·.setIfInBounds 3 ((some env.locals).elim Value.none fun f=>rawInt f)))).get? b=s.heap.get? b:=fun b hb=>Heap.get?_update_other _ _ (Ne.symm hb)
 refine G1 (S:=[T]) R Y he g6 t1 rfl q (fun b o z=>(other b fun x=>?_).trans (G0 b o z)) ⟨oe,vs,T,_,_,(other e (Ne.symm g2)).trans t1,⟨rfl,t3⟩,t2,g1,D6 (.inr (.inr (.head _))),g2,Heap.get?_update_self _ g3 (Obj.isFreed_of_fields (Obj.data_mapFields g4 _)),Obj.data_mapFields g4 _,?_⟩ fun b o z n=>⟨o.slots,(other b fun x=>?_).trans z⟩
 ·rw[x,D6 (.inr (.inr (.head _)))]at z;cases z
 ·simp[hsz]
 ·rw[x,g3]at z;cases z;exact n _ g4
theorem Td.any{v:Value}(x:Td W h₀ env names ρ Er (some (rawInt env.locals)) v s):EM W h₀ env names ρ Er v s:=⟨_,.inr (.inr rfl),x⟩
theorem Td.any0{v:Value}(x:Td W h₀ env names ρ Er (some .none) v s):EM W h₀ env names ρ Er v s:=⟨_,.inr (.inl rfl),x⟩
theorem Kz.tops(ok:Kz A c h₀ env Er n)(hc:c.cmp=false):(Hn fun outer=>Fx (A.frames=some (env::outer)) (env.frame=some env.locals) (Fs (env::outer) (env.locals::h₀.fs))):=by
 refine Aa fun nY=>?_
 obtain⟨outer,h1,h2⟩:=ok.top hc
 obtain⟨l,h3,h4⟩:=ok.stk
 rw[h1]at h3;cases h3
 refine nY ?_;clear nY
 exact⟨outer,h1,h2,h4⟩
theorem N0(ok:Kz A c h₀ env Er n)(Y:Ah W env c h₀){v:Value}(x:EM W h₀ env names ρ' Er v s):notedBy W.M A env (fun e s'=>cameBackBy W.M A env (EMs W h₀ env names false ρ Er) e s') v s:=by
 cases hc:c.cmp with
 | true=>exact x.no (ok.noE hc)
 | false=>
   obtain⟨outer,h1,h2,h3⟩:=ok.tops hc
   exact Lc h1 h2 h3 Y x fun s' y=>W4 h2 Y y fun s2 z=>⟨ρ',nofun,z.any⟩
theorem H9.unprot{N:Aj->AH->Prop}{Rt:Af}{f:Flow}(R:Al W h₀ env names H ρ s)(Y:Ah W env c h₀)(r:H9 W (Mine.Internal.prot env h₀.fs H s.heap) env names N Rt f s'):H9 W h₀ env names N Rt f s':=by
 cases f with
 | next=>obtain⟨ρ',H',R',q⟩:=r;exact⟨ρ',H',R.unprot Y R',q⟩
 | ret v=>obtain⟨a,H',ρ',hv,R',q⟩:=r;exact⟨a,H',ρ',hv,R.unprot Y R',q⟩
 | brk=>exact r
 | cont=>exact r
theorem Src.stays{target:Expr}{I:Addr}{hs:List Addr}{its:List It}{g:AH->Prop}{Obs:Nat->Heap->Prop}(S:Src W A target I hs its g Obs){i:Nat}(Y:Ah W env c h₀)(hid:Fu h₀ env H hs)(st:Obs i s.heap){names':List Str}(R':Al W (Mine.Internal.prot env h₀.fs H s.heap) env names' H' ρ' s') :
 Obs i s'.heap/\Fu h₀ env H' hs:=by
 refine⟨S.frame i _ _ st fun b hb o e=>Mine.Internal.stays e (hid b hb).1 (hid b hb).2.2.1 (hid b hb).2.2.2 (fun m=>Y.fsok b m (hid b hb).2.1) R',fun b hb=>⟨?_,(hid b hb).2⟩⟩
 obtain⟨o,e⟩:=S.live i _ st b hb
 cases q:H' b with
 | none=>rfl
 | some z=>
   have:=(R'.sep b z q).1
   rw[C5 e (hid b hb).1 (hid b hb).2.2.1 (hid b hb).2.2.2]at this
   cases this
theorem C2{α:Type}{l:List α}{i:Nat}{x:α}{r:List α}(h:l.drop i=x::r):l[i]? = some x/\l.drop (i+1)=r:=by
 constructor
 ·have:=congrArg List.head? h
  simpa using this
 ·have:=congrArg List.tail h
  simpa using this
noncomputable abbrev Ajl(W:Wd)(h₀:HB)(env:Env)(names:List Str)(hs:List Addr)(Obs:Nat->Heap->Prop)(its:List It)(lp:List It->Aj->AH->Prop)(k:Nat)(s:Shared):Prop:=
 (Tg fun i H ρ=>An6 (Al W h₀ env names H ρ s) (Fu h₀ env H hs) (Obs i s.heap) (lp (its.drop i) ρ H) (i<=its.length) (k=its.length-i+1))
theorem Ae6(hf:c.hnd=false){target iter:Expr}{body:List Stmt}{pos:Pos}{t:Rc}{x:X}{xs:List S}(hs:SS W G n c iter x (J9 target))(ht:Ye c target=some t)(hb:Hk W G n c body xs)(hset:∀env v,foldedSetIterable iter env v=pure v) :
 Pi W G n c (.For target iter body [] pos) (.for t x xs):=by
 intro A env h₀ H ρ₀ s N Rt E ok Y R q
 simp only[Zy,Cr,Bs,Zz,Za,Z0,Z1,D1,Ea,Z2,Z3,C8]at q
 refine wpAny_For (hs rfl ok Y R q (fun _ _ e=>e.st) fun I hss its g Obs H' s' S hid st R' q'=>?_) (hset env)
 refine codeAny_forLoop_any (Ajl W h₀ env c.names hss Obs its (Dx g t (fun ρ H K=>B0 G (Ad G n) xs ρ H K Rt E) N)) ?_ (its.length+1)
  ⟨0,H',ρ₀,R',hid,st,q',Nat.zero_le _,by simp⟩
 rintro k s ⟨i,H,ρ,R,hid,st,q,hi,rfl⟩
 cases hd:its.drop i with
 | nil=>
   rw[hd]at q
   obtain⟨g1,q⟩:=q
   have:i=its.length:=by
    have:=congrArg List.length hd
    simp at this;(first|lia|omega)
   subst this
   refine wpAny_mono (S.done Y R hid g1 st) (fun r s₁ h₁=>?_) fun _ _ e=>e
   obtain⟨rfl,R1,_⟩:=h₁
   exact wpAny_pure ⟨ρ,H,R1,q⟩
 | cons y r=>
   rw[hd]at q
   obtain⟨g1,q⟩:=q
   obtain⟨hx,hd'⟩:=C2 hd
   have hlt:i<its.length:=(List.getElem?_eq_some_iff.mp hx).1
   refine wpAny_mono (S.turn (E':=notedBy W.M A env fun e s'=>cameBackBy W.M A env (EMs W h₀ env c.names (O8 (.for t x xs)) ρ₀ E) e s') Y R hid g1 st hx) (fun r s₁ h₁=>?_) fun _ _ e=>e
   obtain⟨v,rfl,h₁⟩:=h₁
   refine wpAny_mono h₁ (fun _ s₂ h₂=>?_) fun _ _ e=>e
   obtain⟨R2,st2,hit,_⟩:=h₂
   have YP:=Y.prot R2
   refine wpAny_mono (Nz YP R2.prot (ok.handled hf) ht hit q) (fun _ s₃ h₃=>?_) fun _ _ e=>e
   obtain⟨ρ3,R3,q3⟩:=h₃
   refine wpAny_mono (hb ok.prot YP R3 q3) (fun f s₄ h₄=>?_) fun _ _ e=>(let ⟨_,_,z⟩:=e;N0 ok Y (EM.unprot R2 Y z))
   cases f with
   | next=>
     obtain⟨ρ4,H4,R4,q4⟩:=h₄
     obtain⟨st4,hid4⟩:=S.stays Y hid st2 R4
     refine⟨its.length-(i+1)+1,by(first|lia|omega),i+1,H4,ρ4,R2.unprot Y R4,hid4,st4,?_,hlt,rfl⟩
     rw[hd'];exact q4
   | ret v=>
     obtain⟨a,H4,ρ4,hv,R4,q4⟩:=h₄
     exact⟨a,H4,ρ4,hv,R2.unprot Y R4,q4⟩
   | brk=>exact h₄.elim
   | cont=>exact h₄.elim
theorem Aag{test:Expr}{body:List Stmt}{pos:Pos}{x:X}{xs:List S}(h:ST W G n c test x)(hb:Hk W G n c body xs):Pi W G n c (.While test body [] pos) (.while x xs):=by
 intro A env h₀ H ρ s N Rt E ok Y R q
 simp only[Zy,Cr,Bs,Zz,Za,Z0,Z1,D1,Ea,Z2,Z3,C8]at q
 refine Aa fun nY=>?_
 obtain⟨I,⟨k,hk⟩,step⟩:=q
 refine nY ?_;clear nY
 refine wpAny_While (codeAny_whileLoop (fun k s=>(Ho fun H ρ=>Al W h₀ env c.names H ρ s/\I k ρ H)) ?_ k ⟨H,ρ,R,hk⟩)
 rintro k s hP3
 refine Aa fun nY=>?_
 obtain⟨H,ρ,R,hk⟩:=hP3
 refine nY ?_;clear nY
 refine wpAny_mono (h (Q:=fun b H=>if b then B0 G (Ad G n) xs ρ H (fun ρ H=>∃m,m<k/\I m ρ H) Rt E else N ρ H) ok Y R (step k ρ H hk)) (fun b s₂ r=>?_) fun _ _ e=>N0 ok Y e
 refine Aa fun nY=>?_
 obtain⟨H2,R2,q2⟩:=r
 cases b with
 | false=>
   refine nY ?_;clear nY
   simp only[Bool.false_eq_true,if_false]at q2 ⊢
   exact wpAny_pure ⟨ρ,H2,R2,q2⟩
 | true=>
   refine nY ?_;clear nY
   simp only[if_true]at q2 ⊢
   refine wpAny_mono (hb ok Y R2 q2) (fun f s₃ r=>?_) fun _ _ e=>(let ⟨_,_,z⟩:=e;N0 ok Y z)
   refine Aa fun nY=>?_
   cases f with
   | next=>
     obtain⟨ρ3,H3,R3,m,hm,hI⟩:=r
     refine nY ?_;clear nY
     exact⟨m,hm,H3,ρ3,R3,hI⟩
   | ret v=>(refine nY ?_;clear nY;exact r)
   | brk=>exact r.elim
   | cont=>exact r.elim
end Mine.Internal
namespace Mine.Internal
open PySem PySem.W PyProof.Rows
variable {W:Wd} {G:Ax} {A:Around} {h₀:HB} {env:Env} {c:Cx} {names:List Str} {H H':AH} {ρ ρ':Aj} {s s':Shared} {E:Value->Shared->Prop} {n:Nat} {Q:Af} {Er:EP}
/-! the cells of a comprehension -/
noncomputable def Ga(env:Env):List (Str×NameKind)->List (Str×Addr)->List (Str×Addr)
 | [],acc=>acc
 | (nm,k)::r,acc=>if k == .free then Ga env r ((nm,(env.cells.lookup nm).getD 0)::acc)else Ga env r acc
theorem N2(env:Env):∀(l:List (Str×NameKind)) (acc:List (Str×Addr)),(∀p∈l,p.2 = .free->(env.cells.lookup p.1).isSome=true)->
 (forIn l acc fun(x:Str×NameKind) cs=>(match x with|(name,kind)=>if (kind == .free)=true then do let a <-cellOf env name;pure (ForInStep.yield ((name,a)::cs))else pure (ForInStep.yield cs):Sem (ForInStep (List (Str×Addr)))))=pure (Ga env l acc)
 | [],acc,_=>rfl
 | (nm,k)::r,acc,h=>by
   rw[List.forIn_cons]
   have ih:=fun acc=>N2 env r acc fun p hp=>h p (.tail _ hp)
   unfold Ga
   by_cases q:(k==NameKind.free)=true
   ·simp only[q,if_true]
    have hk:=beq_iff_eq.mp q
    obtain⟨a,ha⟩:=Option.isSome_iff_exists.mp (h (nm,k) (.head _) hk)
    simp only at ha
    unfold cellOf
    rw[ha]
    exact ih _
   ·simp only[q,if_false]
    exact ih _
theorem Mi{sc:Scope}(h:∀p∈sc.names,p.2 = .free->(env.cells.lookup p.1).isSome=true):closureFor sc env=pure (Ga env sc.names []):=by
 have:=N2 env sc.names [] h
 unfold closureFor
 first
  | (rw[this];rfl)
  | (simp only[bind_pure];exact this)
  | (show (forIn sc.names [] _ >>= _)=_
     erw [this];rfl)
theorem N3:∀ {l:List (Str×NameKind)} {acc:List (Str×Addr)} {p:Str×Addr},p∈Ga env l acc->p∈acc\/((p.1,NameKind.free)∈l/\p.2=(env.cells.lookup p.1).getD 0)
 | [],acc,p,h=> .inl h
 | (nm,k)::r,acc,p,h=>by
   unfold Ga at h
   split at h
   ·rename_i q
    have hk:=beq_iff_eq.mp q
    subst hk
    rcases N3 h with h | ⟨h1,h2⟩
    ·rcases List.mem_cons.mp h with rfl|h
     ·exact .inr ⟨.head _,rfl⟩
     ·exact .inl h
    ·exact .inr ⟨.tail _ h1,h2⟩
   ·rcases N3 h with h | ⟨h1,h2⟩
    ·exact .inl h
    ·exact .inr ⟨.tail _ h1,h2⟩
theorem N4:∀ {l:List (Str×NameKind)} {acc:List (Str×Addr)} {p:Str×Addr},p∈acc->p∈Ga env l acc
 | [],acc,p,h=>h
 | (nm,k)::r,acc,p,h=>by
   unfold Ga
   split
   ·exact N4 (.tail _ h)
   ·exact N4 h
theorem N5:∀ {l:List (Str×NameKind)} {acc:List (Str×Addr)} {x:Str},(x,NameKind.free)∈l->(x,(env.cells.lookup x).getD 0)∈Ga env l acc
 | (nm,k)::r,acc,x,h=>by
   unfold Ga
   rcases List.mem_cons.mp h with e|h
   ·cases e
    exact N4 (.head _)
   ·split
    ·exact N5 h
    ·exact N5 h
theorem A8{β:Type}{l:List (Str×β)}{x:Str}{b:β}(h:l.lookup x=some b):(x,b)∈l:=by
 induction l with
 | nil=>cases h
 | cons p r ih=>
   obtain⟨y,z⟩:=p
   rw[List.lookup_cons]at h
   split at h
   ·rename_i q
    cases h
    rw[beq_iff_eq.mp q];exact .head _
   ·exact .tail _ (ih h)
theorem Jo{β:Type}{l:List (Str×β)}{x:Str}{b:β}(h:(x,b)∈l):∃b',l.lookup x=some b':=by
 induction l with
 | nil=>cases h
 | cons p r ih=>
   obtain⟨y,z⟩:=p
   rw[List.lookup_cons]
   split
   ·exact⟨_,rfl⟩
   ·rename_i q
    refine Aa fun nY=>?_
    rcases List.mem_cons.mp h with e|h
    ·cases e;simp at q
    ·refine nY ?_;clear nY
     exact ih h
structure C6(c:Cx)(sc:Scope)(ts:List Str):Prop where
 kind:sc.kind = .function
 nocell:∀p∈sc.names,p.2≠ .cell
 locals:∀p∈sc.names,p.2 = .local->sc.names.lookup p.1=some .local
 own:∀p∈sc.names,p.2 = .local->p.1∈ts\/p.1∉c.names
 frees:∀p∈sc.names,p.2 = .free->c.sc.names.lookup p.1=some .cell/\sc.names.lookup p.1=some .free
 tsl:∀t∈ts,sc.names.lookup t=some .local
 shape:(∃x,ts = [x])\/(Ho fun x y=>ts = [x,y]/\x≠y)
theorem W5{sc:Scope}{ts:List Str}(h:Tm c.names c.sc sc ts=true)(hl:(∃x,ts = [x])\/(Ho fun x y=>ts = [x,y])):C6 c sc ts:=by
 delta Tm at h
 simp only[Bool.and_eq_true,List.all_eq_true,beq_iff_eq,bne_iff_ne,Bool.or_eq_true]at h
 obtain⟨⟨⟨⟨h1,h2⟩,h3⟩,h4⟩,h5⟩:=h
 refine⟨h2,fun p hp=>(h4 p hp).1.1,fun p hp q=>?_,fun p hp q=>?_,fun p hp q=>?_,fun t ht=>h5 t ht,?_⟩
 ·rcases(h4 p hp).1.2 with z|z
  ·exact absurd q z
  ·exact z
 ·rcases h3 p hp with(z|z)|z
  ·exact absurd q z
  ·exact .inl (by simpa using z)
  ·exact .inr (by simpa using z)
 ·rcases(h4 p hp).2 with z|z
  ·exact absurd q z
  ·exact z
 ·rcases hl with⟨x,rfl⟩ | ⟨x,y,rfl⟩
  ·exact .inl ⟨x,rfl⟩
  ·exact .inr ⟨x,y,rfl,by simpa using h1⟩
noncomputable def rl(env:Env)(p:Str×NameKind):Str×NameKind:=if (p.2 == .free&&env.scope.kind == .function&&env.kindOf p.1==some .cell)then(p.1,.cell)else p
theorem Ae7(p:Str×NameKind):(rl env p).1=p.1:=by unfold rl;split<;>rfl
theorem Ja{sc:Scope}:(relabel sc env).names=sc.names.map (rl env):=by
 unfold relabel
 simp only
 congr 1
theorem Ld{x:Str}:∀ {l:List (Str×NameKind)},(l.map (rl env)).lookup x=(l.lookup x).map fun k=>(rl env (x,k)).2
 | []=>rfl
 | (y,z)::r=>by
   rw[List.map_cons,show rl env (y,z)=(y,(rl env (y,z)).2)from Prod.ext (Ae7 _) rfl,List.lookup_cons,List.lookup_cons]
   cases hx:x==y with
   | true=>rw[beq_iff_eq.mp hx];rfl
   | false=>exact Ld
theorem Du{sc:Scope}{x:Str}{k:NameKind}(h:sc.names.lookup x=some k) :
 (k≠ .free->(relabel sc env).names.lookup x=some k)/\(k = .free->(relabel sc env).names.lookup x=some .cell\/(relabel sc env).names.lookup x=some .free):=by
 rw[Ja,Ld,h]
 simp only[Option.map_some,Option.some.injEq,rl]
 constructor
 ·intro hk
  rw[if_neg (by simp[hk])]
 ·rintro rfl
  split
  ·exact .inl rfl
  ·exact .inr rfl
theorem Jp{sc:Scope}{x:Str}{k:NameKind}(h:(relabel sc env).names.lookup x=some k):sc.names.lookup x=some k\/(k = .cell/\sc.names.lookup x=some .free):=by
 rw[Ja,Ld]at h
 refine Aa fun nY=>?_
 obtain⟨z,h1,h2⟩:=Option.map_eq_some_iff.mp h
 unfold rl at h2
 split at h2
 ·rename_i q
  simp only[Bool.and_eq_true,beq_iff_eq]at q
  refine nY ?_;clear nY
  exact .inr ⟨h2.symm,by rw[h1,q.1.1]⟩
 ·refine nY ?_;clear nY
  exact .inl (by rw[h1];exact congrArg some h2)
noncomputable abbrev Ek(c:Cx)(sc:Scope)(ts:List Str):Cx:=⟨ts++c.names,sc,false,true⟩
noncomputable abbrev Ia(sc:Scope)(env:Env)(C:Addr):Env:=compEnvC sc (Ga env sc.names []) C env
section
variable {sc:Scope} {ts:List Str} {C:Addr}
theorem Pj(K:C6 c sc ts)(Y:Ah W env c h₀){p:Str×NameKind}(hp:p∈sc.names)(hf:p.2 = .free):∃a,env.cells.lookup p.1=some a:=
 Y.cells p.1 (.inl (Y.kinds _ _ (K.frees p hp hf).1 (by simp)))
theorem G2(K:C6 c sc ts)(Y:Ah W env c h₀){p:Str×Addr}(h:p∈Ga env sc.names []):env.cells.lookup p.1=some p.2/\sc.names.lookup p.1=some .free:=by
 refine Aa fun nY=>?_
 rcases N3 h with h | ⟨h1,h2⟩
 ·cases h
 ·obtain⟨a,ha⟩:=Pj K Y h1 rfl
  simp only at ha
  rw[ha]at h2
  refine nY ?_;clear nY
  exact⟨by rw[ha,h2];rfl,(K.frees _ h1 rfl).2⟩
theorem Ct(K:C6 c sc ts)(Y:Ah W env c h₀){x:Str}{a:Addr}(h:(Ga env sc.names []).lookup x=some a):env.cells.lookup x=some a/\sc.names.lookup x=some .free:=G2 K Y (A8 h)
theorem Al.in_comp(K:C6 c sc ts)(Y:Ah W env c h₀)(R:Al W h₀ env names H ρ s)(hC:Fu h₀ env H [C]):F6 W h₀ (Mine.Internal.prot (Ia sc env C) (env.locals::h₀.fs) H s.heap).h:=fun b o e=>
 let ⟨o',e1,z⟩:=R.keep b o e;⟨o',C5 e1 (by cases q:H b with
  | none=>rfl
  | some x=>rw[(R.sep b x q).1]at e;cases e) (fun q=>by have h1:=(hC C (.head _)).2.1;have h2:b=C:=q;rw[<-h2,e]at h1;cases h1)
  (fun p hp q=>by
    obtain⟨p',hp',hp2⟩:=Bh (G2 K Y hp).1
    have:=Y.newc p' hp'
    rw[hp2,q,e]at this;cases this),z⟩
theorem L5(K:C6 c sc ts)(Y:Ah W env c h₀)(R:Al W h₀ env names H ρ s)(hC:Fu h₀ env H [C]):∃o,(Mine.Internal.prot (Ia sc env C) (env.locals::h₀.fs) H s.heap).get? env.locals=some o/\s.heap.get? env.locals=some o:=by
 refine Aa fun nY=>?_
 obtain⟨m,⟨o,es,ep,h1,h2⟩,_⟩:=R.ns
 refine nY ?_;clear nY
 refine⟨o,C5 h1 ?_ (fun q=>(hC C (.head _)).2.2.1 (q:env.locals=C).symm) (fun p hp q=>Y.apart p.1 p.2 (G2 K Y hp).1 q),h1⟩
 cases q:H env.locals with
 | none=>rfl
 | some x=>exact absurd rfl (R.sep _ _ q).2.1
theorem Ah.comp(K:C6 c sc ts)(Y:Ah W env c h₀)(R:Al W h₀ env names H ρ s)(hC:Fu h₀ env H [C])(hC':W.b₀.objs.size<=C):Ah W (Ia sc env C) (Ek c sc ts) (Mine.Internal.prot (Ia sc env C) (env.locals::h₀.fs) H s.heap) where
 kind:=K.kind
 globals:=Y.globals
 builtins:=Y.builtins
 kinds:=fun x k e hk=>(Du (env:=env) e).1 hk
 frees:=fun x e=>(Du (env:=env) e).2 rfl
 cells:=fun x e=>by
  have key:sc.names.lookup x=some .free:=by
   rcases e with e|e
   ·rcases Jp (env:=env) e with h | ⟨_,h⟩
    ·exact absurd rfl (K.nocell _ (A8 h))
    ·exact h
   ·rcases Jp (env:=env) e with h | ⟨h,_⟩
    ·exact h
    ·cases h
  exact Jo (N5 (acc:=[]) (A8 key))
 apart:=fun x a e=>by
  obtain⟨h1,_⟩:=Ct K Y e
  obtain⟨p,hp,hp2⟩:=Bh h1
  intro q
  exact(hC C (.head _)).2.2.2 p hp (hp2.trans q)
 inj:=fun x y a e1 e2=>Y.inj x y a (Ct K Y e1).1 (Ct K Y e2).1
 base:=fun b o e=>C5 (R.keepB Y b o e)
  (by cases q:H b with
      | none=>rfl
      | some x=>have:=(R.sep b x q).1;rw[Y.base b o e]at this;cases this)
  (fun q=>absurd (Heap.lt_size e) (Nat.not_lt.mpr (by rw[q];exact hC')))
  (fun p hp q=>by
    obtain⟨p',hp',hp2⟩:=Bh (G2 K Y hp).1
    have:=Y.newc p' hp'
    rw[hp2,q,Y.base b o e]at this;cases this)
 fsok:=fun L m q=>by
  rcases List.mem_cons.mp m with rfl|m
  ·obtain⟨o,h1,_⟩:=L5 K Y R hC
   rw[h1]at q;cases q
  ·exact Y.fsok L m ((Al.in_comp K Y R hC).none q)
 fsd:=fun L m=>by
  rcases List.mem_cons.mp m with rfl|m
  ·refine⟨O9 R.above,fun o e vs q=>?_⟩
   obtain⟨m,⟨o',es,ep,h1,h2,_⟩,_⟩:=R.ns
   rw[Fk e]at h1;cases h1
   rw[h2]at q;cases q
  ·exact⟨(Y.fsd L m).1,fun o e=>by obtain⟨o',e1,z⟩:=R.fsd Y m;rw[Fk e]at e1;cases e1;exact z⟩
 new:=C9 (.inr (.inl rfl))
 newc:=fun p hp=>C9 (.inr (.inr ⟨p,hp,rfl⟩))
 look:=fun p hp=>by
  obtain⟨a,ha⟩:=Jo hp
  have h1:=(Ct K Y ha).1
  have h2:=(G2 K Y hp).1
  rw[h1]at h2;cases h2
  exact ha
 lo:=Y.lo
end
end Mine.Internal
namespace Mine.Internal
open PySem PySem.W PyProof.Rows
variable {W:Wd} {G:Ax} {A:Around} {h₀:HB} {env:Env} {c:Cx} {names:List Str} {H H':AH} {ρ ρ' ρt:Aj} {s s':Shared} {E:Value->Shared->Prop} {n:Nat} {Q:Af} {sc:Scope} {ts:List Str} {C:Addr} {Er:EP}
theorem G3{l l':List Str}{x:Str}:x∉l->(l++l').idxOf? x=(l'.idxOf? x).map (· + l.length):=by
 induction l with
 | nil=>intro _;simp
 | cons a l ih=>
   intro h
   rw[List.cons_append,List.idxOf?_cons]
   have:(a==x)=false:=by simpa using fun q:a=x=>h (by simp[q])
   rw[this,ih (fun q=>h (.tail _ q))]
   cases l'.idxOf? x with
   | none=>rfl
   | some k=>simp;exact Nat.add_assoc _ _ 1
theorem D7{l l':List Str}{x:Str}:x∈l->(l++l').idxOf? x=l.idxOf? x/\∃i,l.idxOf? x=some i/\i<l.length:=by
 induction l with
 | nil=>intro h;cases h
 | cons a l ih=>
   intro h
   rw[List.cons_append,List.idxOf?_cons,List.idxOf?_cons]
   cases q:a==x with
   | true=>exact⟨rfl,0,rfl,by simp⟩
   | false=>
     have:x∈l:=by
      refine Aa fun nY=>?_
      rcases List.mem_cons.mp h with rfl|h
      ·simp at q
      ·refine nY ?_;clear nY
       exact h
     refine Aa fun nY=>?_
     obtain⟨h1,i,h2,h3⟩:=ih this
     refine nY ?_;clear nY
     simp only[Bool.false_eq_true,if_false]
     rw[h1]
     exact⟨rfl,i+1,by rw[h2];rfl,by simp;exact h3⟩
theorem Km{l:List Str}{x:Str}{i:Nat}(h:l.idxOf? x=some i):x∈l:=by
 cases Classical.em (x∈l)with
 | inl h=>exact h
 | inr q=>rw[List.idxOf?_eq_none_iff.mpr q]at h;cases h
noncomputable def Jq(W:Wd)(ts:List Str)(C:Addr)(ρt:Aj)(h:Heap):Prop:=∃m,h.Ns C m/\∀x i v,ts.idxOf? x=some i->ρt[i]? = some (some v)->∃u,m x=some u/\VR W v u
theorem Al.toComp(K:C6 c sc ts)(Y:Ah W env c h₀)(R:Al W h₀ env c.names H ρ s)(hC:Fu h₀ env H [C])(hC':W.b₀.objs.size<=C)(hl:ρt.length=ts.length)(hn:Jq W ts C ρt s.heap) :
 Al W (Mine.Internal.prot (Ia sc env C) (env.locals::h₀.fs) H s.heap) (Ia sc env C) (Ek c sc ts).names H (ρt++ρ) s where
 ns:=by
  refine Aa fun nY=>?_
  obtain⟨m,h1,h2⟩:=hn
  refine nY ?_;clear nY
  refine⟨m,h1,fun x i v e1 e2 e3=>?_⟩
  have hx:sc.names.lookup x=some .local:=by
   refine Aa fun nY=>?_
   rcases Jp (env:=env) e2 with h | ⟨h,_⟩
   ·refine nY ?_;clear nY
    exact h
   ·cases h
  have hmem:x∈ts:=by
   refine Aa fun nY=>?_
   rcases K.own _ (A8 hx) rfl with h|h
   ·refine nY ?_;clear nY
    exact h
   ·have:x∈ts++c.names:=Km e1
    rcases List.mem_append.mp this with h'|h'
    ·refine nY ?_;clear nY
     exact h'
    ·exact absurd h' h
  refine Aa fun nY=>?_
  obtain⟨h3,j,h4,h5⟩:=D7 (l':=c.names) hmem
  have e1':(ts++c.names).idxOf? x=some i:=e1
  rw[h3,h4]at e1'
  cases e1'
  refine nY ?_;clear nY
  refine h2 x _ v h4 ?_
  rwa[List.getElem?_append_left (Agj hl h5)]at e3
 cell:=fun x a e=>by
  refine Aa fun nY=>?_
  obtain⟨e1,e2⟩:=Ct K Y e
  obtain⟨w,hw,hr⟩:=R.cell x a e1
  refine nY ?_;clear nY
  refine⟨w,hw,fun i v f1 f2 f3=>?_⟩
  refine Aa fun nY=>?_
  have hx:x∉ts:=fun q=>by have:=K.tsl x q;rw[e2]at this;cases this
  have f1':(ts++c.names).idxOf? x=some i:=f1
  rw[G3 hx]at f1'
  obtain⟨j,h1,h2⟩:=Option.map_eq_some_iff.mp f1'
  subst h2
  refine nY ?_;clear nY
  refine hr j v h1 (.inl (Y.kinds x _ (K.frees _ (A8 e2) rfl).1 (by simp))) ?_
  rw[List.getElem?_append_right (Agn hl)]at f3
  rwa[show j+ts.length-ρt.length=j by exact Ago hl]at f3
 keep:= .of fun _ _ e=>Fk e
 objs:=R.objs
 sep:=fun a o e=>by
  refine⟨C9 (.inl ⟨o,e⟩),fun q=>?_,fun x q=>(R.sep a o e).2.2 x (Ct K Y q).1⟩
  have h1:=(hC C (.head _)).1
  have h2:a=C:=q
  rw[<-h2,e]at h1;cases h1
 gens:=R.gens
 os:=R.os
 above:=hC'
 low:=R.low
theorem Al.ofComp(K:C6 c sc ts)(Y:Ah W env c h₀)(R:Al W h₀ env c.names H ρ s)(hC:Fu h₀ env H [C])(hl:ρt.length=ts.length)
 (R':Al W (Mine.Internal.prot (Ia sc env C) (env.locals::h₀.fs) H s.heap) (Ia sc env C) (Ek c sc ts).names H' (ρt++ρ) s'):Al W h₀ env c.names H' ρ s':=by
 have hCC:=hC C (.head _)
 have hsub:F6 W h₀ (Mine.Internal.prot (Ia sc env C) (env.locals::h₀.fs) H s.heap).h:=Al.in_comp K Y R hC
 have hcl:∀x a,env.cells.lookup x=some a->(∃p∈Ga env sc.names [],p.2=a)->(Ga env sc.names []).lookup x=some a:=by
  rintro x a e hP4
  refine Aa fun nY=>?_
  obtain⟨p,hp,rfl⟩:=hP4
  have h1:=(G2 K Y hp).1
  have h2:=Y.inj x p.1 p.2 e h1
  subst h2
  obtain⟨a',ha'⟩:=Jo hp
  rw[(Ct K Y ha').1]at h1;cases h1
  refine nY ?_;clear nY
  exact ha'
 have hloc:=L5 K Y R hC
 have hcell:∀x a,env.cells.lookup x=some a->(¬∃p∈Ga env sc.names [],p.2=a)->∀o,s.heap.get? a=some o->(Mine.Internal.prot (Ia sc env C) (env.locals::h₀.fs) H s.heap).get? a=some o:=by
  intro x a e hno o ho
  refine Aa fun nY=>?_
  obtain⟨p,hp,hp2⟩:=Bh e
  refine nY ?_;clear nY
  refine C5 ho ?_ (fun q=>hCC.2.2.2 p hp (hp2.trans q)) (fun p' hp' q=>hno ⟨p',hp',q⟩)
  cases q:H a with
  | none=>rfl
  | some z=>exact absurd e ((R.sep _ _ q).2.2 x)
 refine⟨?_,?_,hsub.trans (fun b o e m=>(List.mem_cons.mp m).resolve_left fun q=>by rw[q,Y.new]at e;cases e) R'.keep,R'.objs,?_,R'.gens,R'.os,R.above,R'.low⟩
 ·refine Aa fun nY=>?_
  obtain⟨m,⟨o,es,ep,h1,h2⟩,h3⟩:=R.ns
  obtain⟨o',g1,g2⟩:=hloc
  rw[h1]at g2;cases g2
  refine nY ?_;clear nY
  exact⟨m,R'.keep.ns ⟨o,es,ep,g1,h2⟩,h3⟩
 ·intro x a e
  refine Aa fun nY=>?_
  cases Classical.em (∃p∈Ga env sc.names [],p.2=a)with
  | inl q=>
    have hx:=hcl x a e q
    obtain⟨e1,e2⟩:=Ct K Y hx
    obtain⟨w,hw,hr⟩:=R'.cell x a hx
    refine nY ?_;clear nY
    refine⟨w,hw,fun i v f1 f2 f3=>hr (i+ts.length) v ?_ ((Du (env:=env) e2).2 rfl) ?_⟩
    ·have hx':x∉ts:=fun q=>by have:=K.tsl x q;rw[e2]at this;cases this
     show (ts++c.names).idxOf? x=_
     rw[G3 hx',f1];rfl
    ·rw[List.getElem?_append_right (Agn hl)]
     rwa[show i+ts.length-ρt.length=i by exact Ago hl]
  | inr q=>
    obtain⟨w,⟨o,ho,hd⟩,hr⟩:=R.cell x a e
    refine nY ?_;clear nY
    exact⟨w,⟨o,R'.keep.exact (hcell x a e q o ho) (.inl fun m=>(by obtain⟨p,hp,hp2⟩:=Bh e;exact Y.fsok a ((List.mem_cons.mp m).resolve_left (Y.apart x a e)) (hp2▸Y.newc p hp))),hd⟩,hr⟩
 ·intro a o e
  refine Aa fun nY=>?_
  obtain⟨q1,q2,q3⟩:=R'.sep a o e
  refine nY ?_;clear nY
  refine⟨?_,?_,?_⟩
  ·exact hsub.none q1
  ·rintro rfl
   refine Aa fun nY=>?_
   obtain⟨o',g1,_⟩:=hloc
   rw[q1]at g1;cases g1
  ·intro x hx
   refine Aa fun nY=>?_
   cases Classical.em (∃p∈Ga env sc.names [],p.2=a)with
   | inl q=>(refine nY ?_;clear nY;exact q3 x (hcl x a hx q))
   | inr q=>
     obtain⟨w,⟨o,ho,hd⟩,hr⟩:=R.cell x a hx
     have:=hcell x a hx q o ho
     rw[q1]at this;cases this
theorem G4(K:C6 c sc ts)(Y:Ah W env c h₀){hs:List Addr}(hid:Fu h₀ env H hs)(hCn:C∉hs){b:Addr}(hb:b∈hs){o:Obj}(e:s.heap.get? b=some o):(Mine.Internal.prot (Ia sc env C) (env.locals::h₀.fs) H s.heap).get? b=some o:=by
 refine Aa fun nY=>?_
 obtain⟨h1,h2,h3,h4⟩:=hid b hb
 refine nY ?_;clear nY
 refine C5 e h1 (fun q=>hCn (by have h2:b=C:=q;rw[<-h2];exact hb)) fun p hp q=>?_
 refine Aa fun nY=>?_
 obtain⟨p',hp',hp2⟩:=Bh (G2 K Y hp).1
 refine nY ?_;clear nY
 exact h4 p' hp' (hp2.trans q)
theorem W6(K:C6 c sc ts){target:Expr}(ht:C4 target=some ts):Ye (Ek c sc ts) target=some (Dd ts.length):=by
 rcases Hz ht with⟨x,p,rfl,rfl⟩ | ⟨x,p,y,p',k,tp,rfl,rfl⟩
 ·clear ht
  have h1:=K.tsl x (.head _)
  show (Cx.own (Ek c sc [x]) x).map Rc.one=_
  simp only[Cx.own,h1,U5,if_true,Ek,List.cons_append,List.nil_append,List.idxOf?_cons,beq_self_eq_true]
  rfl
 ·clear ht
  have h1:=K.tsl x (.head _)
  have h2:=K.tsl y (.tail _ (.head _))
  have hne:x≠y:=by
   rcases K.shape with⟨z,hz⟩ | ⟨a,b,hz,hne⟩
   ·cases hz
   ·cases hz;exact hne
  have hb:(x==y)=false:=by simpa using hne
  show ((Cx.own (Ek c sc [x,y]) x) >>= fun i=>(Cx.own (Ek c sc [x,y]) y) >>= fun j=>pure (Rc.two i j))=_
  simp only[Cx.own,h1,h2,U5,if_true,Ek,List.cons_append,List.nil_append,List.idxOf?_cons,beq_self_eq_true,hb]
  rfl
end Mine.Internal
namespace Mine.Internal
open PySem PySem.W PyProof.Rows
variable {W:Wd} {G:Ax} {A:Around} {h₀:HB} {env:Env} {c:Cx} {names:List Str} {H H':AH} {ρ ρ' ρt:Aj} {s s':Shared} {E:Value->Shared->Prop} {n:Nat} {Q:Af} {sc:Scope} {ts:List Str} {C:Addr} {Er:EP}
theorem Sr{R:Result->Shared->Prop}{elt target iter:Expr}{ifs:List Expr}{scope:Scope}{pos:Pos}{it acc:Value}{env:Env}(I:Nat->Shared->Prop)
 (turn:∀n s,I n s->wpAny W.M A (pyNext it) (fun r s₁=>match r with
   | none=>R (.ok .next) s₁
   | some v=>wpAny W.M A (letOwnedTupleGo target it v) (fun _ s₁'=>wpAny W.M A (assign target env v) (fun _ s₂=>
      wpAny W.M A (forIn ifs true fun c r=>if r=true then do let ok <-isTrue c env (eval c env);pure (ForInStep.yield ok)else pure (ForInStep.yield r)) (fun ok s₃=>
       if ok=true then wpAny W.M A (eval elt env) (fun x s₄=>
        wpAny W.M A (call (.builtin "list.append") [acc,x]) (fun _ s₅=>∃m,m<n/\I m s₅) (notedBy W.M A env fun e s'=>R (.error e) s') s₄) (notedBy W.M A env fun e s'=>R (.error e) s') s₃
       else ∃m,m<n/\I m s₃) (notedBy W.M A env fun e s'=>R (.error e) s') s₂) (notedBy W.M A env fun e s'=>R (.error e) s') s₁') (notedBy W.M A env fun e s'=>R (.error e) s') s₁) (notedBy W.M A env fun e s'=>R (.error e) s') s)
 (n:Nat) (h:I n s):codeAny W.M A (.compLoop (.ListComp elt [⟨target,iter,ifs,0⟩] scope pos) 0 it acc env) R s:=by
 refine codeAny_loop rfl I (fun n s hI=>?_) n h
 show wpAny _ A ((compTurn (.ListComp elt [⟨target,iter,ifs,0⟩] scope pos) 0 it acc env).onRaise (fun x=>do noteFrame x env;theTreesLotGoes x)) _ _ s
 refine wpAny_noted ?_
 rw[compTurn_list]
 refine wpAny_bind (wpAny_standAt (wpAny_bind (wpAny_mono (turn n s hI) (fun r s₁ h₁=>?_) fun _ _ h'=>h')))
 cases r with
 | none=>exact wpAny_pure h₁
 | some v=>
   refine wpAny_bind (wpAny_mono h₁ (fun _ s₁' h₁'=>?_) fun _ _ h'=>h')
   refine wpAny_bind (wpAny_mono h₁' (fun _ s₂ h₂=>wpAny_bind (wpAny_mono h₂ (fun ok s₃ h₃=>?_) fun _ _ h'=>h')) fun _ _ h'=>h')
   cases ok with
   | false=>exact wpAny_pure ⟨rfl,h₃⟩
   | true=>
     exact wpAny_bind (wpAny_bind (wpAny_mono h₃ (fun x s₄ h₄=>wpAny_bind (wpAny_mono h₄ (fun _ s₅ h₅=>wpAny_pure (wpAny_pure ⟨rfl,h₅⟩)) fun _ _ h'=>h')) fun _ _ h'=>h'))
theorem T6{it:It}{k:Nat}{N:Aj->Prop}(hk:ρt.length=k)(hk':k=1\/k=2)(h:J0 (Dd k) it (ρt++ρ) H N):J0 (Dd k) it (ρt++ρ) H (fun ρ'=>(∃ρt':Aj,ρ'=ρt'++ρ/\ρt'.length=k)/\N ρ'):=by
 rcases hk' with rfl|rfl
 ·simp only[Dd,if_true]at h ⊢
  delta J0 at h ⊢
  cases it with
  | v x=>exact⟨⟨ρt.set 0 (some x),by rw[List.set_append_left _ _ (Ai5 hk)],by simp[hk]⟩,h⟩
  | pair a b=>exact h.elim
 ·have e2:Dd 2 = .two 0 1:=rfl
  rw[e2]at h ⊢
  have key:∀x y:V,∃ρt':Aj,((ρt++ρ).set 0 (some x)).set 1 (some y)=ρt'++ρ/\ρt'.length=2:=fun x y=>
   ⟨(ρt.set 0 (some x)).set 1 (some y),by rw[List.set_append_left _ _ (Ai6 hk),List.set_append_left _ _ (by simp;exact Ai7 hk)],by simp[hk]⟩
  cases it with
  | v x=>
    cases x with
    | ref a=>
      have h':(match H a with|some (.tuple [x,y])=>N (((ρt++ρ).set 0 (some x)).set 1 (some y))|_=>False):=h
      show (match H a with|some (.tuple [x,y])=>(∃ρt':Aj,((ρt++ρ).set 0 (some x)).set 1 (some y)=ρt'++ρ/\ρt'.length=2)/\N (((ρt++ρ).set 0 (some x)).set 1 (some y))|_=>False)
      clear h
      split at h'
      ·rename_i x y e
       exact⟨key _ _,h'⟩
      ·exact h'.elim
    | _=>exact h.elim
  | pair a b=>exact⟨key _ _,h⟩
noncomputable def SB(W:Wd)(G:Ax)(n:Nat)(c:Cx)(ifs:List Expr)(elt:Expr)(body:Aj->AH->(Option V->AH->Prop)->Prop):Prop:=
 ∀ {A:Around} {env:Env} {h₀:HB} {H:AH} {ρ:Aj} {s:Shared} {Kk:Option V->AH->Prop} {E:Value->Shared->Prop},Kz A c h₀ env EF n->Ah W env c h₀->Al W h₀ env c.names H ρ s->body ρ H Kk->
  wpAny W.M A (forIn ifs true fun c r=>if r=true then do let ok <-isTrue c env (eval c env);pure (ForInStep.yield ok)else pure (ForInStep.yield r)) (fun ok s₃=>
   if ok=true then wpAny W.M A (eval elt env) (fun x s₄=>(Ho fun a H4=>Fx (VR W a x) (Al W h₀ env c.names H4 ρ s₄) (Kk (some a) H4))) E s₃
   else ∃H4,Al W h₀ env c.names H4 ρ s₃/\Kk none H4) E s
theorem Aah{elt:Expr}{x:X}(h:SE W G n c elt x):SB W G n c [] elt (fun ρ H K=>Am G (Ad G n) x ρ H (fun v H=>K (some v) H) EF):=by
 intro A env h₀ H ρ s Kk E ok Y R q
 refine wpAny_pure ?_
 simp only[if_true]
 exact wpAny_mono (h ok Y R q) (fun v s' r=>r) fun _ _ e=>e.ef
theorem Ac1{cond elt:Expr}{x y:X}(hc:ST W G n c cond y)(h:SE W G n c elt x) :
 SB W G n c [cond] elt (fun ρ H K=>Am G (Ad G n) y ρ H (fun v H=>truthy v fun b=>if b then Am G (Ad G n) x ρ H (fun v H=>K (some v) H) EF else K none H) EF):=by
 intro A env h₀ H ρ s Kk E ok Y R q
 rw[List.forIn_cons]
 refine wpAny_bind ?_
 simp only[if_true]
 refine wpAny_bind (wpAny_mono (hc (Q:=fun b H=>if b then Am G (Ad G n) x ρ H (fun v H=>Kk (some v) H) EF else Kk none H) ok Y R q) (fun b s' r=>wpAny_pure ?_) fun _ _ e=>e.ef)
 obtain⟨H',R',q'⟩:=r
 refine wpAny_pure ?_
 cases b with
 | true=>
   simp only[if_true]at q' ⊢
   exact wpAny_mono (h ok Y R' q') (fun v s' r=>r) fun _ _ e=>e.ef
 | false=>
   simp only[Bool.false_eq_true,if_false]at q' ⊢
   exact⟨H',R',q'⟩
theorem W7(K:C6 c sc ts){hP:HB}(R:Al W hP (Ia sc env C) (Ek c sc ts).names H (ρt++ρ) s)(hl:ρt.length=ts.length):Jq W ts C ρt s.heap:=by
 refine Aa fun nY=>?_
 obtain⟨m,h1,h2⟩:=R.ns
 refine nY ?_;clear nY
 refine⟨m,h1,fun x i v e1 e2=>?_⟩
 have hx:=Km e1
 refine Aa fun nY=>?_
 obtain⟨h3,j,h4,h5⟩:=D7 (l':=c.names) hx
 rw[h4]at e1;cases e1
 refine nY ?_;clear nY
 refine h2 x _ v (h3.trans h4) ((Du (env:=env) (K.tsl x hx)).1 (by simp)) ?_
 rw[List.getElem?_append_left (Agj hl h5)];exact e2
theorem Jq.at{h h':Heap}(x:Jq W ts C ρt h)(k:∀o,h.get? C=some o->h'.get? C=some o):Jq W ts C ρt h':=by
 refine Aa fun nY=>?_
 obtain⟨m,⟨o,es,ep,h1,h2⟩,h3⟩:=x
 refine nY ?_;clear nY
 exact⟨m,⟨o,es,ep,k _ h1,h2⟩,h3⟩
noncomputable abbrev Ajm(W:Wd)(h₀:HB)(env:Env)(names:List Str)(ρ:Aj)(hs:List Addr)(ts:List Str)(C D:Addr)(Obs:Nat->Heap->Prop)(its:List It)(gt:List It->List V->Aj->AH->Prop)(k:Nat)(s:Shared):Prop:=
 (Ex6 fun i H acc items ρt nn=>Aig (Al W h₀ env names H ρ s) (Fu h₀ env H hs) (Fu h₀ env H [C]) (Fu h₀ env H [D]) (Obs i s.heap) (s.heap.get? D=some {cls:= .type "list",data:= .seq (items:List Value).toArray nn}) (Df W acc items) (acc.length<=i) (Jq W ts C ρt s.heap) (ρt.length=ts.length) (gt (its.drop i) acc (ρt++ρ) H) (i<=its.length) (k=its.length-i+1))
theorem T7(K:C6 c sc ts)(hf:c.hnd=false)(ok:Kz A c h₀ env Er n)(Y:Ah W env c h₀)(R:Al W h₀ env c.names H ρ s){elt target iter:Expr}{ifs:List Expr}{pos:Pos}{I:Addr}{hs:List Addr}{its:List It}{g:AH->Prop}{Obs:Nat->Heap->Prop}
 (S:Src W A target I hs its g Obs) (hid:Fu h₀ env H hs) (st:Obs 0 s.heap) (ht:C4 target=some ts) (hz:its.length<=Cg) {body:Aj->AH->(Option V->AH->Prop)->Prop} (hb:SB W G n (Ek c sc ts) ifs elt body)
 (q:Ce g (Dd ts.length) body (fun vs H=>An (.list vs) H Q) its [] (List.replicate ts.length none++ρ) H) {RR:Value->Addr->Result->Shared->Prop}
 (hfin:∀D C H' s',Al W h₀ env c.names H' ρ s'->Fu h₀ env H' [C]->(∃m,s'.heap.Ns C m)->Q (.ref D) H'->RR (.ref D) C (.ok .next) s') :
 wpAny W.M A (newList []) (fun acc s₃=>wpAny W.M A (newFunctionEnv sc env.globals (Ga env sc.names []) [] env.qual none .none (some env)) (fun cenv s₄=>
  codeAny W.M A (.compStart (.ListComp elt [⟨target,iter,ifs,0⟩] sc pos) 0 (.ref I) acc {cenv with scope:=relabel sc env}) (RR acc cenv.locals) s₄) E s₃) E s:=by
 have hk12:ts.length=1\/ts.length=2:=by rcases K.shape with⟨x,rfl⟩ | ⟨x,y,rfl,_⟩<;>simp
 refine wpAny_newObj_type (wpAny_newFunctionEnv K.nocell (by intro y hy;simp at hy) (fun h₁ hns₁ hsb₁=>?_) K.kind)
 dsimp only at hns₁ hsb₁ ⊢
 generalize hH2:s.heap.push {cls:= .type "list",dict:=none,data:= .seq ([]:List Value).toArray} = H2 at hns₁ hsb₁ ⊢
 have hCs:H2.objs.size=s.heap.objs.size+1:=by rw[<-hH2,Heap.size_push]
 generalize hCd:H2.objs.size=C at *
 generalize hDd:s.heap.objs.size=D at *
 have hDC:D≠C:=by rw[hCs];exact(Nat.succ_ne_self _).symm
 have old:∀b o,s.heap.get? b=some o->h₁.get? b=some o:=fun b o e=>by
  have hlt:=Heap.lt_size e
  rw[hDd]at hlt
  exact hsb₁.extBut b o (by rw[hCs];exact Nat.ne_of_lt (Nat.lt_succ_of_lt hlt)) (Heap.get?_push_of_some _ (hH2▸Heap.get?_push_of_some _ e))
 have hD1:h₁.get? D=some {cls:= .type "list",dict:=none,data:= .seq ([]:List Value).toArray}:=
  hsb₁.extBut _ _ hDC (Heap.get?_push_of_some _ (by rw[<-hH2,<-hDd];exact Heap.get?_push_size _ rfl))
 have hb0:W.b₀.objs.size<=D:=by rw[<-hDd];exact R.up
 have hb0C:W.b₀.objs.size<=C:=by rw[hCs];exact Nat.le_succ_of_le hb0
 have hidD:Fu h₀ env H [D]:=Fu.one Y R (O9 (by rw[hDd];exact Nat.le_refl _)) hb0
 have hidC:Fu h₀ env H [C]:=Fu.one Y R (O9 (by rw[hDd,hCs];exact Nat.le_succ _)) hb0C
 have hslt:∀b∈hs,b<D:=fun b hb=>by obtain⟨o,e⟩:=S.live 0 _ st b hb;rw[<-hDd];exact Heap.lt_size e
 have hDhs:D∉hs:=fun h=>Nat.lt_irrefl _ (hslt D h)
 have hChs:C∉hs:=fun h=>by have:=hslt C h;rw[hCs]at this;exact Nat.lt_irrefl _ (Nat.lt_of_succ_lt this)
 have Dx:∀s₃:Shared,s₃ = {s with heap:=h₁,toks:=s.toks+([]:List (Str×Value)).length} ->
  codeAny W.M A (.compLoop (.ListComp elt [⟨target,iter,ifs,0⟩] sc pos) 0 (.ref I) (.ref D) (Ia sc env C)) (RR (.ref D) C) s₃:=by
  rintro s₃ rfl
  refine Sr (Ajm W h₀ env c.names ρ hs ts C D Obs its (Ce g (Dd ts.length) body fun vs H=>An (.list vs) H Q)) ?_ (its.length+1)
   ⟨0,H,[],[],List.replicate ts.length none,_,R.move _ old,hid,hidC,hidD,S.frame 0 _ _ st fun b _ o e=>old b o e,hD1,.nil,Nat.le_refl _,⟨_,hns₁,fun x i v e1 e2=>?_⟩,by simp,q,Nat.zero_le _,by simp⟩
  ·rintro k s ⟨i,H,acc,items,ρt,nn,R,hid,hidC,hidD,st,hD,hacc,hai,hn,hl,q,hi,rfl⟩
   have hclean:its.length<=1048576:=hz
   cases hd:its.drop i with
   | nil=>
     rw[hd]at q
     obtain⟨g1,q⟩:=q
     have:i=its.length:=by
      have:=congrArg List.length hd
      simp at this;exact Nat.le_antisymm hi (Nat.sub_eq_zero_iff_le.mp this)
     subst this
     refine wpAny_mono (S.done Y R hid g1 st) (fun r s₁ h₁=>?_) fun _ _ e=>e
     obtain⟨rfl,R1,hk1⟩:=h₁
     obtain⟨d1,d2,d3,d4⟩:=hidD D (.head _)
     have R2:=R1.add (a:=D) (o:= .list acc) (hk1 _ _ hDhs hD) (.list hacc (Nat.le_trans hai hz)) d1 d2 d3 (fun x e=>by obtain⟨p,hp,hp2⟩:=Bh e;exact d4 p hp hp2) hb0
     refine hfin D C _ _ R2 (fun b hb=>?_) ?_ (q D d1)
     ·obtain⟨c1,c2⟩:=hidC b hb
      refine⟨?_,c2⟩
      have:b=C:=by simpa using hb
      subst this
      simp[upd,Ne.symm hDC,c1]
     ·obtain⟨m,hm,_⟩:=hn.at fun o e=>hk1 C o hChs e
      exact⟨m,hm⟩
   | cons y r=>
     rw[hd]at q
     obtain⟨g1,q⟩:=q
     obtain⟨hx,hd'⟩:=C2 hd
     have hlt:i<its.length:=(List.getElem?_eq_some_iff.mp hx).1
     refine wpAny_mono (S.turn (E':=notedBy W.M A (Ia sc env C) fun e s'=>RR (.ref D) C (.error e) s') Y R hid g1 st hx) (fun r s₁ h₁=>?_) fun _ _ e=>e
     obtain⟨v,rfl,h₁⟩:=h₁
     refine wpAny_mono h₁ (fun _ s₂ h₂=>?_) fun _ _ e=>e
     obtain⟨R2,st2,hit,hk2⟩:=h₂
     have hn2:=hn.at fun o e=>hk2 C o hChs e
     have hD2:=hk2 _ _ hDhs hD
     have YP:=Y.comp K R2 hidC hb0C
     have RP:=R2.toComp K Y hidC hb0C hl hn2
     refine wpAny_mono (Nz YP RP (ok.handled hf) (W6 K ht) hit (T6 hl hk12 q)) (fun _ s₃ h₃=>?_) fun _ _ e=>e
     obtain⟨ρ3,R3,⟨ρt',rfl,hl'⟩,q3⟩:=h₃
     have fin:∀ {s₄:Shared} {H4:AH},Al W (Mine.Internal.prot (Ia sc env C) (env.locals::h₀.fs) H s₂.heap) (Ia sc env C) (Ek c sc ts).names H4 (ρt'++ρ) s₄->
      Al W h₀ env c.names H4 ρ s₄/\Fu h₀ env H4 hs/\Fu h₀ env H4 [C]/\Fu h₀ env H4 [D]/\Obs (i+1) s₄.heap/\s₄.heap.get? D=some {cls:= .type "list",data:= .seq (items:List Value).toArray nn} /\Jq W ts C ρt' s₄.heap:=by
      intro s₄ H4 R4
      have none_at:∀b o,(Mine.Internal.prot (Ia sc env C) (env.locals::h₀.fs) H s₂.heap).get? b=some o->H4 b=none:=fun b o e=>by
       cases z:H4 b with
       | none=>rfl
       | some w=>have:=(R4.sep b w z).1;rw[e]at this;cases this
      refine⟨R2.ofComp K Y hidC hl' R4,fun b hb=>⟨?_,(hid b hb).2⟩,fun b hb=>⟨?_,(hidC b hb).2⟩,fun b hb=>⟨?_,(hidD b hb).2⟩,?_,?_,W7 K R4 hl'⟩
      ·obtain⟨o,e⟩:=S.live _ _ st2 b hb
       exact none_at b o (G4 K Y hid hChs hb e)
      ·have:b=C:=by simpa using hb
       subst this
       cases z:H4 b with
       | none=>rfl
       | some w=>exact absurd rfl (R4.sep b w z).2.1
      ·have:b=D:=by simpa using hb
       subst this
       exact none_at b _ (G4 K Y hidD (by simpa using Ne.symm hDC) hb hD2)
      ·exact S.frame _ _ _ st2 fun b hb o e=>R4.keep.exact (G4 K Y hid hChs hb e) (.inl fun m=>Y.fsok b ((List.mem_cons.mp m).resolve_left (hid b hb).2.2.1) (hid b hb).2.1)
      ·exact R4.keep.exact (G4 K Y hidD (by simpa using Ne.symm hDC) (.head _) hD2) (.inl fun m=>Y.fsok D ((List.mem_cons.mp m).resolve_left (hidD D (.head _)).2.2.1) (hidD D (.head _)).2.1)
     refine wpAny_mono (hb ⟨fun _=>ok.handled hf,ok.room,ok.units,ok.stk.more fun L m=> .tail _ m,nofun,fun _ _ _ q=>q⟩ YP R3 q3) (fun okb s₄ h₄=>?_) fun _ _ e=>e
     cases okb with
     | false=>
       simp only[Bool.false_eq_true,if_false]at h₄ ⊢
       obtain⟨H4,R4,q4⟩:=h₄
       obtain⟨f1,f2,f3,f4,f5,f6,f7⟩:=fin R4
       exact⟨its.length-(i+1)+1,(Nat.succ_lt_succ (Nat.sub_lt_sub_left hlt (Nat.lt_succ_self _))),i+1,H4,acc,items,ρt',nn,f1,f2,f3,f4,f5,f6,hacc,(Nat.le_succ_of_le hai),f7,hl',by rw[hd'];exact q4,hlt,rfl⟩
     | true=>
       simp only[if_true]at h₄ ⊢
       refine wpAny_mono h₄ (fun u s₅ h₅=>?_) fun _ _ e=>e
       obtain⟨a,H4,hv,R4,q4⟩:=h₅
       obtain⟨f1,f2,f3,f4,f5,f6,f7⟩:=fin R4
       have hsz:items.length<=sizeLine:=by rw[<-hacc.length];exact Nat.le_trans hai (Nat.le_trans hi (Nat.le_trans hz Cs))
       refine call_meets F.slot_list_append ⟨_,f6,rfl⟩ F.entry_list_append (F.args_list_append_2 _ _) (list_append _ items.toArray nn u (by simpa using hsz)) ⟨f6,?_⟩
       have hsame:Heap.SameBut D s₅.heap (s₅.heap.update D (Obj.mapSeq (·.push u))):=Heap.SameBut.update ..
       obtain⟨d1,d2,d3,d4⟩:=f4 D (.head _)
       have R6:=f1.swap s₅.toks hsame d1 d2 d3 fun x e=>by obtain⟨p,hp,hp2⟩:=Bh e;exact d4 p hp hp2
       have hD6:∃n',(s₅.heap.update D (Obj.mapSeq (·.push u))).get? D=some {cls:= .type "list",data:= .seq (items ++ [u]).toArray n'}:=
        ⟨_,(Heap.get?_update_self _ f6 rfl).trans (by simp only[Obj.mapSeq,List.push_toArray];rfl)⟩
       obtain⟨n',hD6⟩:=hD6
       refine⟨its.length-(i+1)+1,(Nat.succ_lt_succ (Nat.sub_lt_sub_left hlt (Nat.lt_succ_self _))),i+1,H4,acc ++ [a],items ++ [u],ρt',n',R6,f2,f3,f4,?_,hD6,hacc.append (.cons hv .nil),by simp;exact hai,?_,hl',by rw[hd'];exact q4,hlt,rfl⟩
       ·exact S.frame _ _ _ f5 fun b hb o e=>(hsame.2 b (fun z=>hDhs (z▸hb))).trans e
       ·exact f7.at fun o e=>(hsame.2 C (Ne.symm hDC)).trans e
  ·simp[List.getElem?_replicate]at e2
 exact codeAny_compStart_list (Dx _ rfl) (S.self (S.frame 0 _ _ st fun b _ o e=>old b o e) (Dx _ rfl))
end Mine.Internal
namespace Mine.Internal
open PySem PySem.W PyProof.Rows
variable {W:Wd} {G:Ax} {A:Around} {h₀:HB} {env:Env} {c:Cx} {names:List Str} {H H':AH} {ρ ρ' ρt:Aj} {s s':Shared} {E:Value->Shared->Prop} {n:Nat} {Q:Af} {sc:Scope} {ts:List Str} {C:Addr} {Er:EP}
theorem Pk(K:C6 c sc ts)(hf:c.hnd=false){elt target iter:Expr}{ifs:List Expr}{pos pos':Pos}{x:X}{body:Aj->AH->(Option V->AH->Prop)->Prop}(ht:C4 target=some ts)(hsrc:SS W G n c iter x (J9 target))(hb:SB W G n (Ek c sc ts) ifs elt body)
 (hset:∀env v,foldedSetIterable iter env v=pure v) (ok:Kz A c h₀ env Er n) (Y:Ah W env c h₀) (R:Al W h₀ env c.names H ρ s)
 (q:D0 G (Ad G n) x ρ H (fun its g H=>its.length<=Cg/\Ce g (Dd ts.length) body (fun vs H=>An (.list vs) H Q) its [] (List.replicate ts.length none++ρ) H) Er) {use:Option (Value->Sem Unit)} {Q':Value->Shared->Prop}
 (hE:∀v s',EM W h₀ env c.names ρ Er v s'->E v s') (hfin:∀D C H' s',Al W h₀ env c.names H' ρ s'->Fu h₀ env H' [C]->(∃m,s'.heap.Ns C m)->Q (.ref D) H'->compPost W.M A E use Q' (.ref D) C (.ok .next) s') :
 wpAny W.M A (comprehension (.ListComp elt [⟨target,iter,ifs,0⟩] sc pos) sc env pos' (newList []) false (eval iter env) use) Q' E s:=by
 refine wpAny_comprehension_free (g:=⟨target,iter,ifs,0⟩) (gs:=[]) rfl (hset env) (Mi fun p hp hq=>?_) K.kind K.locals ?_
 ·obtain⟨a,ha⟩:=Pj K Y hp hq
  rw[ha];rfl
 ·exact hsrc (target:=target) rfl ok Y R q hE fun I hs its g Obs H' s' S hid st R' q'=>T7 (G:=G) K hf ok Y R' S hid st ht q'.1 hb q'.2 (RR:=fun acc C=>compPost W.M A E use Q' acc C) hfin
theorem L6(K:C6 c sc ts)(hf:c.hnd=false){elt target iter:Expr}{ifs:List Expr}{pos:Pos}{x:X}{body:Aj->AH->(Option V->AH->Prop)->Prop}(ht:C4 target=some ts)(hsrc:SS W G n c iter x (J9 target))(hb:SB W G n (Ek c sc ts) ifs elt body)
 (hset:∀env v,foldedSetIterable iter env v=pure v) {e:X}
 (he:∀ρ H Q E,Am G (Ad G n) e ρ H Q E->D0 G (Ad G n) x ρ H (fun its g H=>its.length<=Cg/\Ce g (Dd ts.length) body (fun vs H=>An (.list vs) H Q) its [] (List.replicate ts.length none++ρ) H) E) :
 SE W G n c (.ListComp elt [⟨target,iter,ifs,0⟩] sc pos) e:=by
 intro A env h₀ H ρ s Q E ok Y R q
 rw[eval_ListComp]
 refine Pk (use:=none) K hf ht hsrc hb hset ok Y R (he ρ H Q E q) (fun _ _ e=>e) fun D C H' s' R' hid hm q'=>?_
 refine Aa fun nY=>?_
 obtain⟨m,hm⟩:=hm
 obtain⟨c1,c2,c3,c4⟩:=hid C (.head _)
 refine nY ?_;clear nY
 exact⟨m,hm,fun h' hk=>Cb.mk (.ref D) (R'.swap s'.toks hk c1 c2 c3 fun x e=>by obtain⟨p,hp,hp2⟩:=Bh e;exact c4 p hp hp2) q'⟩
theorem N6(K:C6 c sc ts)(hf:c.hnd=false){elt target iter:Expr}{ifs:List Expr}{pos spos py:Pos}{x:X}{y:Str}{i:Nat}{body:Aj->AH->(Option V->AH->Prop)->Prop}(ht:C4 target=some ts)(hsrc:SS W G n c iter x (J9 target))(hb:SB W G n (Ek c sc ts) ifs elt body)
 (hset:∀env v,foldedSetIterable iter env v=pure v) {e:X}
 (he:∀ρ H Q E,Am G (Ad G n) e ρ H Q E->D0 G (Ad G n) x ρ H (fun its g H=>its.length<=Cg/\Ce g (Dd ts.length) body (fun vs H=>An (.list vs) H Q) its [] (List.replicate ts.length none++ρ) H) E)
 (hi:c.own y=some i):Pi W G n c (.Assign [.Name y py] (.ListComp elt [⟨target,iter,ifs,0⟩] sc pos) spos) (.assign i e):=by
 intro A env h₀ H ρ s N Rt E ok Y R q
 simp only[Zy,Cr,Bs,Zz,Za,Z0,Z1,D1,Ea,Z2,Z3,C8]at q
 have hsw:∃b,swapsWith (.ListComp elt [⟨target,iter,ifs,0⟩] sc pos) (some (.Name y py)) spos.line env=pure b:=⟨_,rfl⟩
 refine Aa fun nY=>?_
 obtain⟨b,hsw⟩:=hsw
 cases b with
 | false=>
   refine nY ?_;clear nY
   refine wpAny_Assign_Name (wpAny_mono (L6 K hf ht hsrc hb hset he ok Y R q) (fun v s' r=>?_) fun _ _ e=>e.st) hsw
   refine Aa fun nY=>?_
   obtain⟨a,H',hv,R',q'⟩:=r
   refine nY ?_;clear nY
   exact wpAny_mono (Nx Y R' hi hv) (fun _ s2 R2=>⟨_,_,R2,q'⟩) fun _ _ e=>e
 | true=>
   refine nY ?_;clear nY
   rw[exec_Assign_Name_used _ _ _ _ hsw]
   refine wpAny_bind (wpAny_standAt (wpAny_bind ?_))
   refine wpAny_bind ?_
   refine wpAny_mono (Q:=fun _ s'=>H9 W h₀ env c.names N Rt .next s') ?_ (fun _ s' r=>wpAny_pure (wpAny_pure r)) fun _ _ e=>e
   refine Pk (use:=some (assign (.Name y py) env)) (Q':=fun _ s'=>H9 W h₀ env c.names N Rt .next s') K hf ht hsrc hb hset ok Y R (he ρ H _ E q) (fun _ _ e=>e.st) fun D C H' s' R' hid hm q'=>?_
   refine Aa fun nY=>?_
   obtain⟨m,hm⟩:=hm
   obtain⟨c1,c2,c3,c4⟩:=hid C (.head _)
   refine nY ?_;clear nY
   show wpAny _ A (assign (.Name y py) env (.ref D)) _ _ _
   refine wpAny_assign_Name (wpAny_mono (Nx (Y.prot R') R'.prot hi (.ref D)) (fun _ s2 R2=>?_) fun _ _ e=>e)
   refine Aa fun nY=>?_
   obtain⟨o,es,ep,h1,h2⟩:=hm
   refine nY ?_;clear nY
   refine⟨m,R2.keep.ns ⟨o,es,ep,C5 h1 c1 c3 c4,h2⟩,fun h' hk=>?_⟩
   have R3:=R'.unprot Y R2
   exact⟨_,_,R3.swap s2.toks hk c1 c2 c3 fun x e=>by obtain⟨p,hp,hp2⟩:=Bh e;exact c4 p hp hp2,q'⟩
theorem L7{e:Expr}{t:Option Expr}{l:Nat}(h:Kb e=true):swapsWith e t l env=pure false:=by
 cases e<;>first|rfl|cases h
theorem W8{e:Expr}{x:X}{y:Str}{i:Nat}{py pos:Pos}(h:SE W G n c e x)(hp:Kb e=true)(hi:c.own y=some i):Pi W G n c (.Assign [.Name y py] e pos) (.assign i x):=by
 intro A env h₀ H ρ s N Rt E ok Y R q
 simp only[Zy,Cr,Bs,Zz,Za,Z0,Z1,D1,Ea,Z2,Z3,C8]at q
 refine wpAny_Assign_Name (wpAny_mono (h ok Y R q) (fun v s' r=>?_) fun _ _ e=>e.st) (L7 hp)
 refine Aa fun nY=>?_
 obtain⟨a,H',hv,R',q'⟩:=r
 refine nY ?_;clear nY
 exact wpAny_mono (Nx Y R' hi hv) (fun _ s2 R2=>⟨_,_,R2,q'⟩) fun _ _ e=>e
theorem W9{e o:Expr}{x:Str}{p:Pos}{l:Nat}:swapsWith e (some (.Attribute o x p)) l env=pure false:=by
 unfold swapsWith
 cases e<;>rfl
theorem Xa{e o i:Expr}{p:Pos}{l:Nat}:swapsWith e (some (.Subscript o i p)) l env=pure false:=by
 unfold swapsWith
 cases e<;>rfl
theorem Aai{an:Str}{a:Ee}(ha:L1 an=some a):an=A4 a:=by
 delta L1 at ha
 repeat' split at ha
 all_goals first
  | (rename_i z;simp only[beq_iff_eq]at z;cases ha;exact z)
  | cases ha
theorem T8(g:F9 W G){o e:Expr}{x y:X}{an:Str}{a:Ee}{pa pos:Pos}(h:SE W G n c e x)(ho:SE W G n c o y)(ha:L1 an=some a):Pi W G n c (.Assign [.Attribute o an pa] e pos) (.setattr y a x):=by
 intro A env h₀ H ρ s N Rt E ok Y R q
 simp only[Zy,Cr,Bs,Zz,Za,Z0,Z1,D1,Ea,Z2,Z3,C8]at q
 have:=Aai ha
 subst this
 refine plainObj_wpAny_Assign_Attribute (wpAny_mono (h ok Y R q) (fun v s' r=>?_) fun _ _ e=>e.st) W9
 refine Aa fun nY=>?_
 obtain⟨av,H',hv,R',q'⟩:=r
 refine nY ?_;clear nY
 refine wpAny_mono (ho ok Y R' q') (fun v2 s2 r=>?_) fun _ _ e=>e.st
 refine Aa fun nY=>?_
 obtain⟨ao,H2,hv2,R2,q2⟩:=r
 refine nY ?_;clear nY
 refine wpAny_mono (Oq Y g.X g.inst R2 hv2 hv q2) (fun _ s3 r=>?_) fun _ _ e=>e
 refine Aa fun nY=>?_
 obtain⟨H3,R3,q3⟩:=r
 refine nY ?_;clear nY
 exact⟨_,_,R3,q3⟩
theorem T9{o i e:Expr}{x y z:X}{pa pos:Pos}(h:SE W G n c e x)(ho:SE W G n c o y)(hi:SE W G n c i z):Pi W G n c (.Assign [.Subscript o i pa] e pos) (.setitem y z x):=by
 intro A env h₀ H ρ s N Rt E ok Y R q
 simp only[Zy,Cr,Bs,Zz,Za,Z0,Z1,D1,Ea,Z2,Z3,C8]at q
 refine wpAny_Assign_Subscript (wpAny_mono (h ok Y R q) (fun v s' r=>?_) fun _ _ e=>e.st) Xa
 refine Aa fun nY=>?_
 obtain⟨av,H',hv,R',q'⟩:=r
 refine nY ?_;clear nY
 refine wpAny_mono (ho ok Y R' q') (fun v2 s2 r=>?_) fun _ _ e=>e.st
 refine Aa fun nY=>?_
 obtain⟨ao,H2,hv2,R2,q2⟩:=r
 refine nY ?_;clear nY
 refine wpAny_mono (hi ok Y R2 q2) (fun v3 s3 r=>?_) fun _ _ e=>e.st
 refine Aa fun nY=>?_
 obtain⟨ai,H3,hv3,R3,q3⟩:=r
 refine nY ?_;clear nY
 refine wpAny_mono (On Y R3 hv2 hv3 hv q3) (fun _ s4 r=>?_) fun _ _ e=>e
 refine Aa fun nY=>?_
 obtain⟨H4,R4,q4⟩:=r
 refine nY ?_;clear nY
 exact⟨_,_,R4,q4⟩
theorem Ac2{e:Expr}{x:X}{pos:Pos}(h:SE W G n c e x)(hp:Kb e=true):Pi W G n c (.Expr e pos) (.expr x):=by
 intro A env h₀ H ρ s N Rt E ok Y R q
 simp only[Zy,Cr,Bs,Zz,Za,Z0,Z1,D1,Ea,Z2,Z3,C8]at q
 rw[arm_exec_Expr]
 have hi:interactive env=false:=by unfold interactive;rw[Y.kind];rfl
 refine wpAny_bind (wpAny_standAt ?_)
 simp only[hi,Bool.false_eq_true,if_false]
 refine wpAny_bind (wpAny_of_eq (L7 hp) ?_)
 simp only[Bool.false_eq_true,if_false]
 refine wpAny_bind (wpAny_mono (h ok Y R q) (fun v s' r=>?_) fun _ _ e=>e.st)
 refine Aa fun nY=>?_
 obtain⟨a,H',hv,R',q'⟩:=r
 refine nY ?_;clear nY
 exact wpAny_dropValue ⟨_,_,R',q'⟩
theorem Pl{x:X}{a b:List S}(h:O8 (.ite x a b)=true):Ji a=true/\Ji b=true:=by
 match a,b,h with
 | [a],[b],h=>exact Bool.and_eq_true_iff.mp h
theorem Ag7{t:Expr}{a b:List Stmt}{x:X}{xa xb:List S}{pos:Pos}(h:ST W G n c t x)(ha:Hk W G n c a xa)(hb:Hk W G n c b xb):Pi W G n c (.If t a b pos) (.ite x xa xb):=by
 intro A env h₀ H ρ s N Rt E ok Y R q
 simp only[Zy,Cr,Bs,Zz,Za,Z0,Z1,D1,Ea,Z2,Z3,C8]at q
 refine wpAny_If (wpAny_mono (h (Q:=fun d H=>if d then B0 G (Ad G n) xa ρ H N Rt E else B0 G (Ad G n) xb ρ H N Rt E) ok Y R q) (fun d s' r=>?_) fun _ _ e=>e.st)
 obtain⟨H',R',q'⟩:=r
 cases d with
 | true=>simp only[if_true]at q' ⊢;exact wpAny_mono (ha ok Y R' q') (fun _ _ r=>r) fun _ _ e=>(let ⟨ρ',z,w⟩:=e;⟨ρ',fun p=>z (Pl p).1,w⟩)
 | false=>simp only[Bool.false_eq_true,if_false]at q' ⊢;exact wpAny_mono (hb ok Y R' q') (fun _ _ r=>r) fun _ _ e=>(let ⟨ρ',z,w⟩:=e;⟨ρ',fun p=>z (Pl p).2,w⟩)
theorem Ae8{e:Expr}{x:X}{pos:Pos}(h:SE W G n c e x):Pi W G n c (.Return (some e) pos) (.ret x):=by
 intro A env h₀ H ρ s N Rt E ok Y R q
 simp only[Zy,Cr,Bs,Zz,Za,Z0,Z1,D1,Ea,Z2,Z3,C8]at q
 refine wpAny_Return_some (wpAny_mono (h ok Y R q) (fun v s' r=>?_) fun _ _ e=>e.st)
 refine Aa fun nY=>?_
 obtain⟨a,H',hv,R',q'⟩:=r
 refine nY ?_;clear nY
 exact⟨a,H',ρ,hv,R',q'⟩
theorem Ac3{pos:Pos}:Pi W G n c (.Pass pos) .pass:=by
 intro A env h₀ H ρ s N Rt E ok Y R q
 simp only[Zy,Cr,Bs,Zz,Za,Z0,Z1,D1,Ea,Z2,Z3,C8]at q
 exact wpAny_Pass ⟨_,_,R,q⟩
end Mine.Internal
namespace Mine.Internal
open PySem PySem.W PyProof.Rows
variable {W:Wd} {G:Ax} {c:Cx} {n:Nat} {Er:EP}
set_option backward.match.sparseCases false in
noncomputable def Le:Expr->Bool
 | .Starred .. =>false
 | .Set .. =>false
 | _=>true
structure Eo(W:Wd)(G:Ax)(n:Nat)(c:Cx)(e:Expr)(x:X):Prop where
 se:SE W G n c e x
 st:ST W G n c e x
 px:Le e=true
theorem G5{e:Expr}(h:Le e=true):∀v p,e≠ .Starred v p:=fun v p q=>by subst q;cases h
theorem Ae9{e:Expr}(h:Le e=true):∀env v,foldedSetIterable e env v=pure v:=fun env v=>by
 cases e<;>first|rfl|cases h
theorem Qo{e:Expr}(h:Le e=true)(op:CmpOp):behindInMarks op e=false:=by
 cases e<;>first|rfl|cases h
theorem Ch{f:Expr->Option X}(ih:∀e x,f e=some x->Eo W G n c e x){es:List Expr}:∀ {xs:List X},F5 f es=some xs->Tf W G n c es xs/\NS es:=by
 induction es with
 | nil=>intro xs h;cases h;exact⟨Vs,fun e he=>by cases he⟩
 | cons e es ih2=>
   intro xs h
   obtain⟨x,hx,ys,hy,rfl⟩:=b2 (o:=f e) (o':=F5 f es) (k:=List.cons) h
   have g:=ih e x hx
   obtain⟨h1,h2⟩:=ih2 hy
   refine⟨Sk g.se h1 (G5 g.px),fun e' he'=>?_⟩
   rcases List.mem_cons.mp he' with rfl|he'
   ·exact G5 g.px
   ·exact h2 e' he'
theorem Ib{f:Expr->Option X}(ih:∀e x,f e=some x->Eo W G n c e x){op:BoolOp}{p:Pos}:∀ {es:List Expr} {x:X},Nd f op es=some x->SE W G n c (.BoolOp op es p) x/\ST W G n c (.BoolOp op es p) x
 | [],x,h=>by cases h
 | [e],x,h=>by
   simp only[Nd]at h
   have g:=ih e x h
   refine⟨?_,Aey g.st⟩
   intro A env h₀ H ρ s Q E ok Y R q
   exact BoolOp_one (g.se ok Y R q)
 | e::e2::es,x,h=>by
   unfold Nd at h
   cases op with
   | And=>
     obtain⟨y,hy,z,hz,rfl⟩:=b2 h
     have g:=ih e y hy
     obtain⟨h1,h2⟩:=Ib ih (p:=p) hz
     exact⟨Aew g.se h1,Aex g.st h2⟩
   | Or=>
     obtain⟨y,hy,z,hz,rfl⟩:=b2 h
     have g:=ih e y hy
     obtain⟨h1,h2⟩:=Ib ih (p:=p) hz
     exact⟨Agz g.se h1,Ag0 g.st h2⟩
theorem Jr(gd:F9 W G)(hf:c.hnd=false){f:Expr->Option X}(ih:∀e x,f e=some x->Eo W G n c e x){two:Bool}{e:Expr}{x:X}(h:Yd f c two e=some x):SS W G n c e x two/\∀env v,foldedSetIterable e env v=pure v:=by
 have val:∀ {x},(do return X.val (<-f e):Option X)=some x->SS W G n c e x two/\∀env v,foldedSetIterable e env v=pure v:=by
  intro x h
  obtain⟨y,hy,rfl⟩:=b1 h
  have g:=ih e y hy
  exact⟨Ae4 hf g.se,Ae9 g.px⟩
 delta Yd at h
 refine Aa fun nY=>?_
 split at h
 ·rename_i x' args hcn
  obtain⟨p,pos,rfl⟩:=H0 hcn
  split at h
  ·rename_i q
   simp only[Bool.and_eq_true,beq_iff_eq]at q
   obtain⟨hg,rfl⟩:=q
   split at h
   ·obtain⟨ys,hy,rfl⟩:=b1 h
    obtain⟨h1,h2⟩:=Ch ih hy
    refine nY ?_;clear nY
    exact⟨Aad gd hf hg h1 h2,fun _ _=>rfl⟩
   ·cases h
  ·split at h
   ·rename_i q
    simp only[Bool.and_eq_true,beq_iff_eq]at q
    obtain⟨hg,rfl⟩:=q
    split at h
    ·rename_i a
     split at h
     ·rename_i ht
      subst ht
      obtain⟨y,hy,rfl⟩:=b1 h
      have g:=ih a y hy
      refine nY ?_;clear nY
      exact⟨Acz gd hf hg g.se (G5 g.px),fun _ _=>rfl⟩
     ·cases h
    ·cases h
   ·split at h
    ·rename_i q
     simp only[Bool.and_eq_true,beq_iff_eq]at q
     obtain⟨hg,rfl⟩:=q
     split at h
     ·rename_i a
      obtain⟨y,hy,rfl⟩:=b1 h
      have g:=ih a y hy
      refine nY ?_;clear nY
      exact⟨Ae5 gd hf hg g.se (G5 g.px),fun _ _=>rfl⟩
     ·cases h
    ·refine nY ?_;clear nY
     exact val h
 ·refine nY ?_;clear nY
  exact val h
theorem Js{f:Expr->Option X}(ih:∀e x,f e=some x->Eo W G n c e x):∀ {e:Option Expr} {x:X},To f e=some x->SO W G n c e x
 | none,x,h=>by cases h;exact Acu
 | some e,x,h=>Acv (ih e x h).se
theorem Xb{x:Str}{k:Nat}(hb:Aby x k=some .list):x = "list" :=(by decide:∀p∈Yb,p.2.2 = .list->p.1 = "list") (x,(k,.list)) (Rj hb) rfl
theorem Ss(gd:F9 W G)(hc:SC W G n){x:Str}{f:Expr->Option X}(ih:∀e x,f e=some x->Eo W G n c e x){p pos:Pos}{args:List Expr}{y:X}(hg:c.global x=true)(h:U9 f c x args=some y):SE W G n c (.Call (.Name x p) args [] pos) y:=by
 delta U9 at h
 split at h
 ·rename_i q
  have hx:=beq_iff_eq.mp q
  subst hx
  split at h
  ·rename_i e t hta
   obtain⟨tp,rfl⟩:=Tp hta
   split at h
   ·rename_i hgt
    split at h
    ·rename_i ty ht
     obtain⟨z,hz,rfl⟩:=b1 h
     have g:=ih e z hz
     exact @Ww W G c n gd ty t p tp pos e z ht hg hgt g.se (G5 g.px)
    ·split at h
     ·rename_i ht
      have ht:=beq_iff_eq.mp ht
      subst ht
      obtain⟨z,hz,rfl⟩:=b1 h
      have g:=ih e z hz
      exact @Acr W G c n gd p tp pos e z hg hgt g.se (G5 g.px)
     ·obtain⟨cc,ht,z,hz,rfl⟩:=b2 h
      have g:=ih e z hz
      exact @Y5 W G c n gd cc t p tp pos e z ht hg hgt g.se (G5 g.px)
   ·cases h
  ·cases h
 ·split at h
  ·split at h
   ·rename_i y hy
    obtain⟨ys,hys,rfl⟩:=b1 h
    obtain⟨h1,h2⟩:=Ch ih hys
    exact @Yx W G c n gd hc x y p pos args ys hg hy h1 h2
   ·cases h
  rename_i hnf
  have hf:c.hnd=false:=by simpa using hnf
  split at h
  ·rename_i b hb
   have plain:∀ {y},(do return X.bi b (<-F5 f args):Option X)=some y->SE W G n c (.Call (.Name x p) args [] pos) y:=by
    intro y h
    obtain⟨ys,hy,rfl⟩:=b1 h
    obtain⟨h1,h2⟩:=Ch ih hy
    exact @Ag2 W G c n gd hf b x p pos args ys hb hg h1 h2
   split at h
   ·split at h
    ·rename_i as hi
     obtain⟨sp,sp',rfl,hgs⟩:=P9 hi
     split at h
     ·obtain⟨zs,hz,rfl⟩:=b1 h
      obtain⟨h1,h2⟩:=Ch ih hz
      have hx:=Xb hb
      subst hx
      exact @Qn W G c n gd hf p sp pos sp' as zs hg hgs h1 h2
     ·cases h
    ·exact @plain _ h
   ·exact @plain _ h
  ·split at h
   ·cases h
   ·rename_i q
    simp only[Bool.or_eq_true,not_or,Bool.not_eq_true]at q
    obtain⟨⟨⟨q1,q2⟩,q3⟩,q4⟩:=q
    have q2':Ei x=none:=by simpa using q2
    split at h
    ·rename_i z
     have hx:=beq_iff_eq.mp z
     obtain⟨ys,hy,rfl⟩:=b1 h
     obtain⟨h1,h2⟩:=Ch ih hy
     exact @Ad3 W G c n gd hf hc .web x p pos args ys (.inl ⟨rfl,hx⟩) hg h1 h2
    ·split at h
     ·rename_i z
      have hx:=beq_iff_eq.mp z
      obtain⟨ys,hy,rfl⟩:=b1 h
      obtain⟨h1,h2⟩:=Ch ih hy
      exact @Ad3 W G c n gd hf hc .verdict x p pos args ys (.inr ⟨rfl,hx⟩) hg h1 h2
     ·obtain⟨ys,hy,rfl⟩:=b1 h
      obtain⟨h1,h2⟩:=Ch ih hy
      exact @Acp W G c n gd hf hc x p pos args ys hg q3 q4 q2' h1 h2
theorem Aaj{m f:Str}(h:Ml m=some f):Ei f=some (.web,m):=by
 unfold Ml at h
 repeat' split at h
 all_goals first
  | (rename_i q;have hx:=beq_iff_eq.mp q;subst hx;cases h;decide)
  | (cases h;done)
theorem N7(gd:F9 W G)(hf:c.hnd=false){r:Cx->Expr->Option X}(ih:∀c e x,r c e=some x->Eo W G n c e x){elt t it:Expr}{ifs:List Expr}{a:Int}{sc:Scope}{p:Pos}{x:X}(h:Ft r c (.ListComp elt [⟨t,it,ifs,a⟩] sc p)=some x) :
 ∃(x':X) (ts:List Str) (K:C6 c sc ts) (src:X) (body:Aj->AH->(Option V->AH->Prop)->Prop),C4 t=some ts/\SS W G n c it src (J9 t)/\(∀env v,foldedSetIterable it env v=pure v)/\SB W G n (Ek c sc ts) ifs elt body/\
  (∀ρ H Q E,Am G (Ad G n) x' ρ H Q E->D0 G (Ad G n) src ρ H (fun its g H=>its.length<=Cg/\Ce g (Dd ts.length) body (fun vs H=>An (.list vs) H Q) its [] (List.replicate ts.length none++ρ) H) E)/\x=x'/\a=0:=by
 (delta Ft at h;dsimp only at h)
 refine Aa fun nY=>?_
 split at h
 ·rename_i ts hts
  split at h
  ·rename_i q
   simp only[Bool.and_eq_true,beq_iff_eq]at q
   obtain⟨rfl,hok⟩:=q
   have hsh:(∃x,ts = [x])\/(Ho fun x y=>ts = [x,y]):=by
    refine Aa fun nY=>?_
    rcases Hz hts with⟨x,_,_,rfl⟩ | ⟨x,_,y,_,_,_,_,rfl⟩
    ·refine nY ?_;clear nY
     exact .inl ⟨x,rfl⟩
    ·refine nY ?_;clear nY
     exact .inr ⟨x,y,rfl⟩
   have K:=W5 hok hsh
   split at h
   ·obtain⟨y,hy,z,hz,rfl⟩:=b2 h
    obtain⟨h1,h2⟩:=Jr gd hf (ih c) hy
    refine nY ?_;clear nY
    exact⟨_,ts,K,y,_,hts,h1,h2,Aah (ih _ _ _ hz).se,fun ρ H Q E q=>by simp only[Zb,Zc,Zd,Ze,Zf,Zg,Zh,Zi,Zj,Zk,Zl,Zm,Zn,Zo,Zp,Zq,Cq,Zr,Zs,Zt,Zu,Zv,A6,Dy,Bx,Ao,Zw,Zx,A3,Co,A5,B5]at q;exact q,rfl,rfl⟩
   ·obtain⟨y,hy,w,hw,z,hz,rfl⟩:=b3 h
    obtain⟨h1,h2⟩:=Jr gd hf (ih c) hy
    refine nY ?_;clear nY
    exact⟨_,ts,K,y,_,hts,h1,h2,Ac1 (ih _ _ _ hw).st (ih _ _ _ hz).se,fun ρ H Q E q=>by simp only[Zb,Zc,Zd,Ze,Zf,Zg,Zh,Zi,Zj,Zk,Zl,Zm,Zn,Zo,Zp,Zq,Cq,Zr,Zs,Zt,Zu,Zv,A6,Dy,Bx,Ao,Zw,Zx,A3,Co,A5,B5]at q;exact q,rfl,rfl⟩
   ·cases h
  ·cases h
 ·cases h
theorem Mj(gd:F9 W G)(hc:SC W G n){r:Cx->Expr->Option X}(ih:∀c e x,r c e=some x->Eo W G n c e x){f:Expr}{args:List Expr}{kws:List Keyword}{p:Pos}{x:X}(hm:c.hnd=false\/Rk (.Call f args kws p)=true)(h:Ft r c (.Call f args kws p)=some x):Eo W G n c (.Call f args kws p) x:=by
 have toGood:∀ {e x},Le e=true->SE W G n c e x->(∀env whole,isTrue e env whole=(do let v <-whole;standAt e.pos;holding [v] (PySem.truthy v)))->Eo W G n c e x:=fun hp hse hi=>⟨hse,hse.toST hi,hp⟩
 refine Aa fun no=>?_
 rcases kws with _ | ⟨kw,kws⟩
 ·cases f with
  | Name y p'=>
    replace h:(if c.global y=true then U9 (r c) c y args else none)=some x:=h
    split at h
    ·rename_i hg
     exact no<|toGood rfl (Ss gd hc (ih c) hg h) fun _ _=>rfl
    ·cases h
  | Attribute o m ap=>
    replace h:(if (ap.endLine==p.line&&decide (args.length<3)&&H6 o)=true then(match Ml m with
     | some g=>(r c o >>= fun y=>F5 (r c) args >>= fun z=>pure (X.meth g y z))
     | none=>(Abw m >>= fun l=>r c o >>= fun y=>F5 (r c) args >>= fun z=>pure (X.lm l y z)))else none)=some x:=h
    split at h
    ·rename_i q
     simp only[Bool.and_eq_true,decide_eq_true_eq]at q
     obtain⟨⟨q1,q2⟩,q3⟩:=q
     split at h
     ·rename_i f hfm
      obtain⟨y,hy,zs,hz,rfl⟩:=b2 h
      obtain⟨h1,h2⟩:=Ch (ih c) hz
      exact no<|toGood rfl (Acq gd (hm.resolve_right nofun) hc q3 q1 q2 (Aaj hfm) (ih c _ _ hy).se h1 h2) fun _ _=>rfl
     ·obtain⟨lm,hlm,y,hy,zs,hz,rfl⟩:=b3 h
      obtain⟨h1,h2⟩:=Ch (ih c) hz
      exact no<|toGood rfl (Ag5 q3 q1 q2 hlm (ih c _ _ hy).se h1 h2) fun _ _=>rfl
    ·cases h
  | _=>exact @nn _ _ _ h
 ·cases f<;>exact @nn _ _ _ h
theorem Ua(gd:F9 W G)(hc:SC W G n){r:Cx->Expr->Option X}(ih:∀c e x,r c e=some x->Eo W G n c e x){e:Expr}{x:X}(hm:c.hnd=false\/Rk e=true)(h:Ft r c e=some x):Eo W G n c e x:=by
 have toGood:∀ {e x},Le e=true->SE W G n c e x->(∀env whole,isTrue e env whole=(do let v <-whole;standAt e.pos;holding [v] (PySem.truthy v)))->Eo W G n c e x:=fun hp hse hi=>⟨hse,hse.toST hi,hp⟩
 cases e with
 | Constant k u p=>
   cases k<;>first|exact @nn _ _ _ h|(obtain rfl:=Option.some.inj h)
   ·exact toGood rfl Acn fun _ _=>rfl
   ·exact toGood rfl Yu fun _ _=>rfl
   ·exact toGood rfl Aco fun _ _=>rfl
   ·exact toGood rfl Vt fun _ _=>rfl
 | Name y p=>
   (delta Ft at h;dsimp only at h)
   split at h
   ·cases h
   ·rename_i q
    simp only[Bool.or_eq_true,not_or,Bool.not_eq_true]at q
    split at h
    ·rename_i i hs
     cases h
     exact toGood rfl (Yt hs q.1 q.2) fun _ _=>rfl
    ·split at h
     ·rename_i hg
      split at h
      ·cases h;exact toGood rfl (Acm gd hg q.1) fun _ _=>rfl
      ·cases h
     ·cases h
 | UnaryOp op e p=>
   cases op<;>first|exact @nn _ _ _ h|skip
   ·obtain⟨y,hy,rfl⟩:=b1 (o:=r c e) (k:=X.not) h
    have g:=ih c e y hy
    exact⟨Aet g.se,Aeu g.st,rfl⟩
   ·obtain⟨y,hy,rfl⟩:=b1 (o:=r c e) (k:=X.neg) h
    have g:=ih c e y hy
    exact toGood rfl (Aev g.se) fun _ _=>rfl
 | BoolOp op es p=>
   obtain⟨h1,h2⟩:=Ib (ih c) (p:=p) (show Nd (r c) op es=some x from h)
   exact⟨h1,h2,rfl⟩
 | BinOp l op e p=>
   obtain⟨y,hy,z,hz,rfl⟩:=b2 (o:=r c l) (o':=r c e) (k:=X.bin op) h
   exact toGood rfl (Aez (ih c _ _ hy).se (ih c _ _ hz).se) fun _ _=>rfl
 | Compare l ops es p=>
   rcases ops with _ | ⟨o,_ | ⟨o',_ | ⟨o3,ops⟩⟩⟩
   ·exact @nn _ _ _ h
   ·rcases es with _ | ⟨e,_ | ⟨e',es⟩⟩
    ·exact @nn _ _ _ h
    ·obtain⟨y,hy,z,hz,rfl⟩:=b2 (o:=r c l) (o':=r c e) (k:=X.cmp o) h
     have g1:=ih c _ _ hy
     have g2:=ih c _ _ hz
     exact⟨Ae0 g1.se g2.se (Qo g2.px _),Ae1 g1.se g2.se (Qo g2.px _),rfl⟩
    ·exact @nn _ _ _ h
   ·rcases es with _ | ⟨m,_ | ⟨e,_ | ⟨e',es⟩⟩⟩
    ·exact @nn _ _ _ h
    ·exact @nn _ _ _ h
    ·obtain⟨y,hy,z,hz,w,hw,rfl⟩:=b3 (o:=r c l) (o':=r c m) (p:=r c e) (k:=fun a b d=>X.chain a o b o' d) h
     have g1:=ih c _ _ hy
     have g2:=ih c _ _ hz
     have g3:=ih c _ _ hw
     have hm:lastMarks [o,o'] [m,e]=false:=Qo g3.px o'
     exact⟨Yv g1.se g2.se g3.se hm,Yw g1.se g2.se g3.se hm,rfl⟩
    ·exact @nn _ _ _ h
   ·exact @nn _ _ _ h
 | Attribute o a p=>
   replace h:(if H6 o=true then(r c o >>= fun y=>L1 a >>= fun z=>pure (X.attr y z))else none)=some x:=h
   split at h
   ·rename_i hb
    obtain⟨y,hy,at',ha,rfl⟩:=b2 h
    exact toGood rfl (Act gd hb ha (ih c _ _ hy).se) fun _ _=>rfl
   ·cases h
 | List es p=>
   replace h:(if es.length<100 then(F5 (r c) es >>= fun y=>pure (X.list y))else none)=some x:=h
   split at h
   ·rename_i hl
    obtain⟨ys,hy,rfl⟩:=b1 h
    exact toGood rfl (Acs (Ch (ih c) hy).1 hl) fun _ _=>rfl
   ·cases h
 | Tuple es k p=>
   replace h:(if es.length<100 then(F5 (r c) es >>= fun y=>pure (X.tuple y))else none)=some x:=h
   split at h
   ·rename_i hl
    obtain⟨ys,hy,rfl⟩:=b1 h
    exact toGood rfl (Y6 (Ch (ih c) hy).1 hl) fun _ _=>rfl
   ·cases h
 | Dict ks vs p=>
   rcases ks with _ | ⟨k,_ | ⟨k',ks⟩⟩
   ·rcases vs with _ | ⟨v,vs⟩
    ·obtain rfl:=Option.some.inj (show some (X.dict [] [])=some x from h)
     exact toGood rfl Y9 fun _ _=>rfl
    ·exact @nn _ _ _ h
   ·rcases k with _|k
    ·exact @nn _ _ _ h
    ·rcases vs with _ | ⟨v,_ | ⟨v',vs⟩⟩
     ·exact @nn _ _ _ h
     ·exact nomatch (show (none:Option X)=some x from h)
     ·exact @nn _ _ _ h
   ·rcases k with _|k<;>exact @nn _ _ _ h
 | Subscript o i p=>
   cases hi:Nv i with
   | true=>
     have e:Ft r c (.Subscript o i p)=(do return .sub (<-r c o) (<-r c i)):=by cases i<;>first|rfl|cases hi
     rw[e]at h
     obtain⟨y,hy,z,hz,rfl⟩:=b2 h
     exact toGood rfl (Ae3 hi (ih c _ _ hy).se (ih c _ _ hz).se) fun _ _=>rfl
   | false=>
     cases i with
     | Slice l u st p2=>
       obtain⟨y,hy,a,ha,b,hb,d,hd,rfl⟩:=b4 (o:=r c o) (o':=To (r c) l) (p:=To (r c) u) (p':=To (r c) st) (k:=X.slice) h
       exact toGood rfl (Y8 (ih c _ _ hy).se (Js (ih c) ha) (Js (ih c) hb) (Js (ih c) hd)) fun _ _=>rfl
     | _=>cases hi
 | Call f args kws p=>exact Mj gd hc (fun c e x h=>ih c e x h) hm h
 | ListComp elt gens sc p=>
   rcases gens with _ | ⟨⟨t,it,ifs,a⟩,_ | ⟨g2,gs⟩⟩
   ·exact @nn _ _ _ h
   ·obtain⟨x',ts,K,src,body,ht,hsrc,hset,hb,he,rfl,rfl⟩:=N7 gd (hm.resolve_right nofun) ih h
    exact toGood rfl (L6 K (hm.resolve_right nofun) ht hsrc hb hset he) fun _ _=>rfl
   ·exact @nn _ _ _ h
 | _=>exact @nn _ _ _ h
theorem Vy{a b:Bool}(q:¬(a && !b)=true):a=false\/b=true:=by cases a<;>cases b<;>simp_all
theorem Mr(gd:F9 W G)(hc:SC W G n):∀(k:Nat) (c:Cx) (e:Expr) (x:X),Rl k c e=some x->Eo W G n c e x
 | 0,_,_,_,h=>by cases h
 | k+1,c,e,x,h=>by
   replace h:(if (c.hnd && !Rk e)=true then none else Ft (Rl k) c e)=some x:=h
   split at h
   ·cases h
   ·rename_i q
    exact Ua gd hc (Mr gd hc k) (Vy q) h
theorem Cn{f:Stmt->Option S}(ih:∀e x,f e=some x->Pi W G n c e x){es:List Stmt}:∀ {xs:List S},Jh f es=some xs->Hk W G n c es xs:=by
 induction es with
 | nil=>intro xs h;cases h;exact Aae
 | cons e es ih2=>
   intro xs h
   cases es with
   | nil=>
     obtain⟨x,hx,rfl⟩:=b1 (o:=f e) (k:=fun x=>[x]) h
     exact Aaf (ih e x hx)
   | cons e' es=>
     obtain⟨x,hx,ys,hy,rfl⟩:=b2 (o:=f e) (o':=Jh f (e'::es)) (k:=List.cons) h
     cases ys with
     | nil=>obtain⟨_,_,_,_,q⟩:=b2 (o:=f e') (o':=Jh f es) (k:=List.cons) hy;cases q
     | cons y ys=>exact W3 (ih e x hx) (ih2 hy)
end Mine.Internal
namespace Mine.Internal
open PySem PySem.W PyProof.Rows
variable {W:Wd} {G:Ax} {c:Cx} {n:Nat} {Er:EP}
theorem Qp(gd:F9 W G)(hf:c.hnd=false)(hc:SC W G n){k:Nat}{y:Str}{py pos:Pos}{e:Expr}{i:Nat}{x:X}(hi:c.own y=some i)(h:Rl k c e=some x):Pi W G n c (.Assign [.Name y py] e pos) (.assign i x):=by
 cases hn:Kb e with
 | true=>intro A env h₀ H ρ s N Rt E ok Y R q;exact W8 (Mr gd hc k c e x h).se hn hi ok Y R q
 | false=>
   cases k with
   | zero=>cases h
   | succ k=>
     have h':Ft (Rl k) c e=some x:=by
      have z:(if (c.hnd && !Rk e)=true then none else Ft (Rl k) c e)=some x:=h
      rw[if_neg (by rw[hf];exact nofun)]at z
      exact z
     cases e with
     | ListComp elt gens sc p=>
       rcases gens with _ | ⟨⟨t,it,ifs,a⟩,_ | ⟨g2,gs⟩⟩
       ·exact @nn _ _ _ h'
       ·obtain⟨x',ts,K,src,body,ht,hsrc,hset,hb,he,rfl,rfl⟩:=N7 gd hf (Mr gd hc k) h'
        intro A env h₀ H ρ s N Rt E ok Y R q;exact N6 K hf ht hsrc hb hset he hi ok Y R q
       ·exact @nn _ _ _ h'
     | SetComp _ _ _ _=>exact @nn _ _ _ h'
     | DictComp _ _ _ _ _=>exact @nn _ _ _ h'
     | _=>cases hn
/-! raise and try -/
theorem Kz.toE{A:Around}{h₀:HB}{env:Env}{Er Er':EP}(ok:Kz A c h₀ env Er n)(hc:c.cmp=false):Kz A c h₀ env Er' n:=⟨ok.handled,ok.room,ok.units,ok.stk,ok.top,fun h=>by rw[hc]at h;cases h⟩
theorem Aak{e:Option Expr}{cc:Dc}(h:Nf c e=some cc):(Ex6 fun x np sv k1 k2 cpos=>Fx (e=some (.Call (.Name x np) [.Constant (.str sv) k1 k2] [] cpos)) (c.global x=true) (Hi x=some cc)):=by
 refine Aa fun nY=>?_
 cases e with
 | none=>cases h
 | some e=>
   replace h:(match Dq e with|some (x,args)=>(match args with | [a]=>if (Yg a&&c.global x)=true then Hi x else none|_=>none)|none=>none)=some cc:=h
   refine nY ?_;clear nY
   cases q:Dq e with
   | none=>rw[q]at h;cases h
   | some r=>
     refine Aa fun nY=>?_
     obtain⟨x,args⟩:=r
     rw[q]at h
     rcases args with _ | ⟨a,_ | ⟨b,r⟩⟩<;>try exact @nn _ _ _ h
     replace h:(if (Yg a&&c.global x)=true then Hi x else none)=some cc:=h
     by_cases z:(Yg a&&c.global x)=true
     ·rw[if_pos z]at h
      obtain⟨z1,z2⟩:=Bool.and_eq_true_iff.mp z
      obtain⟨sv,k1,k2,rfl⟩:=Ab1 z1
      obtain⟨np,cpos,rfl⟩:=H0 q
      refine nY ?_;clear nY
      exact⟨x,np,sv,k1,k2,cpos,rfl,z2,h⟩
     ·rw[if_neg z]at h;cases h
theorem Aal(gd:F9 W G)(hf:c.hnd=false){e:Option Expr}{cc:Dc}{pos:Pos}(h:Nf c e=some cc):Pi W G n c (.Raise e none pos) (.raise cc):=by
 obtain⟨x,np,sv,j1,j2,cpos,rfl,hg,ht⟩:=Aak h
 intro A env h₀ H ρ s N Rt E ok Y R q
 rw[C8]at q
 obtain⟨hG,q⟩:=q
 have xo:=gd.exc cc hG
 have hd:(x==("__debug__" :Str))=false:=(by decide:∀p∈Nc,(p.1==("__debug__" :Str))=false) (x,cc) (Go ht)
 have hns:NS [Expr.Constant (.str sv) j1 j2]:=ns1 fun _ _ q=>by cases q
 obtain⟨nm,qq,N',bs,bm,hdct,sn,sub,ab,col,dd,k0,k1,k2,k3,k5,mN,K⟩:=Lb gd xo
 refine wpAny_Raise_call_subT (C:=W.cl cc) (nm:=nm) (q:=qq) (N:=N') (bs:=bs) (bm:=bm) (hdct:=hdct) (sn:=sn) (sub:=sub) (ab:=ab) (col:=col) (dd:=dd) (k0:=k0) (k1:=k1) (k2:=k2) (k3:=k3) (k5:=k5) (mN:=mN)
  PySem.F.excBase_ValueError (K.tail.hasType (by decide)) (ok.handled hf) hns.plain K.ini (D5 gd Y R hg hd (Ng ht▸xo.name) ⟨rfl,?_⟩)
 have hs:Tf W G n c [Expr.Constant (.str sv) j1 j2] [.cstr sv]:=Sk Vt Vs fun _ _ q=>by cases q
 refine wpAny_mono (En (Q':=fun a s₂=>a.kw = []/\a.pos.length<=1/\Al W h₀ env c.names H ρ s₂) hs hns ok Y R (Q:=fun as H'=>as.length=1/\H'=H) ⟨rfl,rfl⟩ fun as us H' s' hv R' q'=>⟨rfl,?_,?_⟩) (fun a s₂ r=>?_) fun _ _ e=>e.st
 ·show us.length<=1
  rw[<-hv.length,q'.1];exact Nat.le_refl _
 ·rw[<-q'.2];exact R'
 ·obtain⟨r1,r2,R2⟩:=r
  have K2:=K.keeps (R2.keepB Y)
  refine⟨r1,Nat.le_trans r2 (by decide),K2.at_,K2.ns,K2.tail,fun h' e hm=>?_⟩
  obtain⟨t,he,_,_⟩:=hm.there
  have hnew:H e=none:=by
   cases z:H e with
   | none=>rfl
   | some o=>obtain⟨ob,z1,_⟩:=R2.objs e o z;rw[hm.new]at z1;cases z1
  have R3:=R2.put s₂.toks hm.keeps he (.exc (c:=cc) xo rfl rfl) hm.new nofun
  exact⟨ρ,fun _=>rfl,none,.inl rfl,e,_,cc,rfl,R3,(by simp[upd]),⟨_,_,_,he,rfl,rfl,rfl⟩,q e hnew⟩
theorem Al.forget{h₀:HB}{env:Env}{names:List Str}{H:AH}{ρ:Aj}{s:Shared}(R:Al W h₀ env names H ρ s)(Y:Ah W env c h₀){h':Heap}{m':Str->Option Value}(hm:h'.Ns env.locals m')(hb:Heap.SameBut env.locals s.heap h')(t:Nat):Al W h₀ env names H [] {s with heap:=h',toks:=t} where
 ns:=⟨m',hm,fun x i v _ _ e=>by simp at e⟩
 cell:=fun x a e=>let ⟨w,⟨o,ho,hd⟩,_⟩:=R.cell x a e;⟨w,⟨o,(hb.2 a (Y.apart x a e)).trans ho,hd⟩,fun i v _ _ e=>by simp at e⟩
 keep:=fun b o e=>let ⟨o',e1,z⟩:=R.keep b o e;⟨o',(hb.2 b (fun q=>by rw[q,Y.new]at e;cases e)).trans e1,z⟩
 objs:=fun a o e=>let ⟨ob,h1,h2⟩:=R.objs a o e;⟨ob,(hb.2 a (R.sep a o e).2.1).trans h1,h2⟩
 sep:=R.sep
 gens:=R.gens
 os:=R.os
 above:=R.above
 low:=R.low
theorem Ah.inH{h₀:HB}{env:Env}(Y:Ah W env c h₀):Ah W env {c with hnd:=true} h₀:=⟨Y.kind,Y.globals,Y.builtins,Y.kinds,Y.frees,Y.cells,Y.apart,Y.inj,Y.base,Y.new,Y.fsok,Y.fsd,Y.newc,Y.look,Y.lo⟩
theorem Ac4{h:ExceptHandler}{cc:Dc}{as:Option Nat}(e:Gp c h=some (cc,as)):(Ex6 fun x np a b₀ sb p=>Jy (h = .ExceptHandler (some (.Name x np)) a (b₀::sb) p) (c.global x=true) (Hi x=some cc) (asO c a=some as)):=by
 refine Aa fun nY=>?_
 cases h with
 | ExceptHandler t a suite p=>
   replace e:(match Ad0 t with|some x=>if (c.global x && !suite.isEmpty)=true then(Hi x >>= fun k=>asO c a >>= fun i=>pure (k,i))else none|none=>none)=some (cc,as):=e
   cases t with
   | none=>cases e
   | some t=>
     replace e:(match E0 t with|some x=>if (c.global x && !suite.isEmpty)=true then(Hi x >>= fun k=>asO c a >>= fun i=>pure (k,i))else none|none=>none)=some (cc,as):=e
     refine nY ?_;clear nY
     cases q:E0 t with
     | none=>rw[q]at e;cases e
     | some x=>
       refine Aa fun nY=>?_
       obtain⟨np,rfl⟩:=Hy q
       rw[q]at e
       replace e:(if (c.global x && !suite.isEmpty)=true then(Hi x >>= fun k=>asO c a >>= fun i=>pure (k,i))else none)=some (cc,as):=e
       split at e
       ·rename_i z
        obtain⟨k,hk,i,hi,q⟩:=b2 e
        cases q
        cases suite with
        | nil=>simp at z
        | cons b₀ sb=>(refine nY ?_;clear nY;exact⟨x,np,a,b₀,sb,p,rfl,by simp at z;exact z,hk,hi⟩)
       ·cases e
theorem Ag8{x:Str}{as:Option Nat}(h:asO c (some x)=some as):(Hn fun i=>Fx (as=some i) (c.own x=some i) (c.sc.names.lookup x=some .local)):=by
 replace h:(if (c.sc.names.lookup x==some .local)=true then(c.own x).map some else none)=some as:=h
 refine Aa fun nY=>?_
 split at h
 ·rename_i z
  obtain⟨i,hi,rfl⟩:=Option.map_eq_some_iff.mp h
  refine nY ?_;clear nY
  exact⟨i,rfl,hi,by simpa using z⟩
 ·cases h
theorem Ic(gd:F9 W G){A:Around}{h₀:HB}{env:Env}{ρ:Aj}{s:Shared}{Er E':EP}{N:Aj->AH->Prop}{Rt:Af}{Em:Value->Shared->Prop}(ok:Kz A c h₀ env E' n)(Y:Ah W env c h₀){h:ExceptHandler}{rest:List ExceptHandler}{cc:Dc}{as:Option Nat}{xs:List S}
 (hk:Gp c h=some (cc,as)) (hs:Hk W G n {c with hnd:=true} (Fe h) xs) (xo:L2 W cc) {v:Value} (x:Td W h₀ env c.names ρ Er (some .none) v s)
 (yes:∀v H',Er v H'->Dl cc v H'=some true->B0 G (Ad G n) xs (X0 as (some v) ρ) H' (fun ρ H=>N (Wh as ρ) H) Rt EF)
 (no:∀s',Td W h₀ env c.names ρ (fun v H=>Er v H/\Dl cc v H=some false) (some .none) v s'->wpAny W.M A (handleBy v env rest) (H9 W h₀ env c.names N Rt) Em s') :
 wpAny W.M A (handleBy v env (h::rest)) (H9 W h₀ env c.names N Rt) Em s:=by
 refine Aa fun nY=>?_
 obtain⟨xn,np,a,b₀,sb,p,rfl,hg,ht,ha⟩:=Ac4 hk
 obtain⟨e,H,c',rfl,R,he,trc,q⟩:=x
 have hd:(xn==("__debug__" :Str))=false:=(by decide:∀p∈Nc,(p.1==("__debug__" :Str))=false) (xn,cc) (Go ht)
 obtain⟨ob,h1,h2⟩:=R.objs e _ he
 cases h2 with
 | exc z1 z2 z3=>
 obtain⟨nm,qq,N1,bs,bm,hdct,sn,sub,ab,col,dd,k0,k1,k2,k3,k5,mN,K⟩:=Lb gd z1
 obtain⟨nm',qq',N',bs',bm',hdct',sn',sub',ab',col',dd',k0',k1',k2',k3',k5',mN',K'⟩:=Lb gd xo
 replace K:=K.keeps (R.keepB Y)
 replace K':=K'.keeps (R.keepB Y)
 have hb:=gd.sub c' cc z1 xo
 rw[K.mro]at hb
 have hi:Dl cc (.ref e) H=some (c'==cc||cc == .webError):=M1 he
 have ok':Kz (A.mark (some (.ref e))) {c with hnd:=true} h₀ env EF n:=⟨nofun,ok.room,ok.units,ok.stk,ok.top,fun _ _ _ q=>q⟩
 refine nY ?_;clear nY
 refine wpAny_handleBy_cons (codeAny_handlers_test (D5 gd Y R hg hd (Ng ht▸xo.name) ?_)) (by intro q;cases q)
 refine Aa fun nY=>?_
 obtain⟨hh,gg,d,tk,os⟩:=s
 refine nY ?_;clear nY
 refine Sn K.at_ h1 z2 K'.at_ (K'.tail.hasType (by decide)) hb ?_
 cases hr:(c'==cc||cc == .webError)with
 | false=>
   rw[hr]at hi
   exact no _ ⟨e,H,c',rfl,R,he,trc,q,hi⟩
 | true=>
   rw[hr]at hi
   have x2:Td W h₀ env c.names ρ (fun v H=>Er v H/\Dl cc v H=some true) (some .none) (.ref e) ⟨hh,gg,d,tk,os⟩:=⟨e,H,c',rfl,R,he,trc,q,hi⟩
   refine Aa fun nY=>?_
   cases a with
   | none=>
     cases ha
     refine nY ?_;clear nY
     refine codeAny_handlers_suite (Iu Y x2 fun s1 y=>?_)
     refine Aa fun nY=>?_
     obtain⟨e1,H1,c1,w1,R1,_,_,q1,i1⟩:=y
     cases w1
     refine nY ?_;clear nY
     exact wpAny_mono (hs ok' Y.inH R1 (yes _ _ q1 i1)) (fun f s2 r=>r) fun _ _ z=>(let ⟨_,_,w⟩:=z;w.ef)
   | some nmx=>
     obtain⟨i,rfl,ho,hl⟩:=Ag8 ha
     have hlo:env.kindOf nmx=some .local:=Y.kinds nmx _ hl (by simp)
     refine nY ?_;clear nY
     refine codeAny_handlers_suite_as (Iu Y x2 fun s1 y=>?_)
     refine Aa fun nY=>?_
     obtain⟨e1,H1,c1,w1,R1,_,_,q1,i1⟩:=y
     cases w1
     refine nY ?_;clear nY
     refine wpAny_mono (Nx Y R1 ho (.ref e)) (fun _ s2 R2=>?_) fun _ _ e=>e
     refine wpAny_mono (hs ok' Y.inH R2 (yes _ _ q1 i1)) (fun f s3 r=>?_) fun _ _ z=>(let ⟨_,_,w⟩:=z;w.ef)
     have hp:(env.scope.kind == .class||(env.scope.kind == .module&&env.locals != env.globals))=false:=by rw[Y.kind];rfl
     refine Aa fun nY=>?_
     cases f with
     | next=>
       obtain⟨ρ3,H3,R3,q3⟩:=r
       obtain⟨m,hm,_⟩:=R3.ns
       refine nY ?_;clear nY
       exact wpAny_nameGoes hlo hm hp fun h' m' hm' hsb=>⟨[],H3,Al.forget R3 Y hm' hsb _,q3⟩
     | ret w=>
       obtain⟨a,H3,ρ3,hv,R3,q3⟩:=r
       obtain⟨m,hm,_⟩:=R3.ns
       refine nY ?_;clear nY
       exact wpAny_nameGoes hlo hm hp fun h' m' hm' hsb=>⟨a,H3,[],hv,Al.forget R3 Y hm' hsb _,q3⟩
     | brk=>exact r.elim
     | cont=>exact r.elim
theorem St{A:Around}{h₀:HB}{env:Env}{H:AH}{ρ:Aj}{s:Shared}{E E':EP}{N:Aj->AH->Prop}{Rt:Af}{Em:Value->Shared->Prop}(hcm:c.cmp=false){body:List Stmt}{b:List S}{h:ExceptHandler}{hs:List ExceptHandler}{pos:Pos}(hbody:Hk W G n c body b)(hst:Ji b=true)
 (ok:Kz A c h₀ env E n) (Y:Ah W env c h₀) (R:Al W h₀ env c.names H ρ s) (q:B0 G (Ad G n) b ρ H N Rt E')
 (hh:∀v s',Td W h₀ env c.names ρ E' (some .none) v s'->wpAny W.M A (handleBy v env (h::hs)) (H9 W h₀ env c.names N Rt) Em s') :
 wpAny W.M A (exec (.Try body (h::hs) [] [] pos) env) (H9 W h₀ env c.names N Rt) Em s:=by
 refine Aa fun nY=>?_
 obtain⟨outer,h1,h2,h3⟩:=ok.tops hcm
 refine nY ?_;clear nY
 refine wpAny_Try_except (wpAny_mono (hbody (ok.toE hcm) Y R q) (fun f s₁ r=>?_) fun v s₁ x=>?_)
 ·refine Aa fun nY=>?_
  cases f with
  | next=>(refine nY ?_;clear nY;exact wpAny_pure r)
  | ret v=>(refine nY ?_;clear nY;exact r)
  | brk=>exact r.elim
  | cont=>exact r.elim
 ·refine Aa fun nY=>?_
  obtain⟨ρ',hρ,x⟩:=x
  have:=hρ hst
  subst this
  refine nY ?_;clear nY
  exact Lc h1 h2 h3 Y x fun s2 y=>Iu Y y fun s3 z=>hh v s3 z
theorem Vz(gd:F9 W G)(hcm:c.cmp=false){body:List Stmt}{b xs:List S}{h:ExceptHandler}{rest:List ExceptHandler}{k:Dc×Option Nat}{pos:Pos}(hbody:Hk W G n c body b)(hst:Ji b=true)(hk:Gp c h=some k)(hs:Hk W G n {c with hnd:=true} (Fe h) xs):Pi W G n c (.Try body (h::rest) [] [] pos) (mk1 b k xs):=by
 intro A env h₀ H ρ s N Rt E ok Y R q
 obtain⟨cc,as⟩:=k
 replace q:wpS G (Ad G n) (.try1 b cc as xs) ρ H N Rt E:=q
 rw[X1]at q
 obtain⟨hG,q⟩:=q
 refine St hcm hbody hst ok Y R q fun v s' x=>?_
 refine Ic gd ok Y hk hs (gd.exc cc hG) x (fun v H' q i=>by rw[i]at q;exact q) fun s2 y=>?_
 obtain⟨e1,H1,c1,w1,R1,_,_,q1,i1⟩:=y
 cases w1
 rw[i1]at q1
 exact q1.elim
theorem Aam{h:ExceptHandler}{cc:Dc}(e:Mm c h=some cc):Gp c h=some (cc,none):=by
 unfold Mm at e
 refine Aa fun nY=>?_
 split at e
 ·refine nY ?_;clear nY
  rename_i z;cases e;exact z
 ·cases e
theorem Ac5(gd:F9 W G)(hcm:c.cmp=false){body:List Stmt}{b xs ys:List S}{h h':ExceptHandler}{k:Dc×Option Nat}{k':Dc}{pos:Pos}(hbody:Hk W G n c body b)(hst:Ji b=true)(hk:Gp c h=some k)(hs:Hk W G n {c with hnd:=true} (Fe h) xs)
 (hk':Mm c h'=some k') (hs':Hk W G n {c with hnd:=true} (Fe h') ys):Pi W G n c (.Try body [h,h'] [] [] pos) (mk2 b k xs k' ys):=by
 intro A env h₀ H ρ s N Rt E ok Y R q
 refine Aa fun nY=>?_
 obtain⟨cc,as⟩:=k
 replace q:wpS G (Ad G n) (.try2 b cc as xs k' ys) ρ H N Rt E:=q
 rw[X2]at q
 obtain⟨hG,hG',q⟩:=q
 refine nY ?_;clear nY
 refine St hcm hbody hst ok Y R q fun v s' x=>?_
 refine Ic gd ok Y hk hs (gd.exc cc hG) x (fun v H' q i=>by rw[i]at q;exact q) fun s2 y=>?_
 refine Ic gd ok Y (Aam hk') hs' (gd.exc k' hG') y (fun v H' q i=>by have q1:=q.1;rw[q.2]at q1;dsimp only at q1;rw[i]at q1;exact q1) fun s3 z=>?_
 refine Aa fun nY=>?_
 obtain⟨e1,H1,c1,w1,R1,_,_,⟨q1,i1⟩,i2⟩:=z
 cases w1
 rw[i1]at q1
 dsimp only at q1
 rw[i2]at q1
 exact q1.elim
theorem Su(gd:F9 W G)(hc:SC W G n){k:Nat}{r:Cx->Stmt->Option S}(ih:∀c s x,r c s=some x->Pi W G n c s x){s:Stmt}{x:S}(hm:c.hnd=false\/Va s=true)(hcm:c.cmp=false)(h:Dr k r c s=some x):Pi W G n c s x:=by
 have sE:=Mr gd hc k c
 cases s<;>try exact @nn _ _ _ h
 case Return e p=>
  cases e with
  | none=>exact @nn _ _ _ h
  | some e=>
    delta Dr at h
    (try dsimp only at h)
    obtain⟨y,hy,rfl⟩:=b1 h
    intro A env h₀ H ρ s N Rt E ok Y R q;exact Ae8 (sE _ _ hy).se ok Y R q
 case Assign ts e p=>
  cases ts with
  | nil=>exact @nn _ _ _ h
  | cons t ts=>
    cases ts with
    | cons t' ts=>exact @nn _ _ _ h
    | nil=>
      delta Dr at h
      dsimp only at h
      delta Rm at h
      cases t<;>try exact @nn _ _ _ h
      case Attribute o a p=>
       (try dsimp only at h)
       obtain⟨y,hy,a,ha,z,hz,rfl⟩:=b3 h
       intro A env h₀ H ρ s N Rt E ok Y R q;exact T8 gd (sE _ _ hz).se (sE _ _ hy).se ha ok Y R q
      case Subscript o i p=>
       dsimp only at h
       split at h
       ·cases h
       ·obtain⟨y,hy,a,ha,z,hz,rfl⟩:=b3 h
        intro A env h₀ H ρ s N Rt E ok Y R q;exact T9 (sE _ _ hz).se (sE _ _ hy).se (sE _ _ ha).se ok Y R q
      case Name y p=>
       (try dsimp only at h)
       obtain⟨i,hi,y,hy,rfl⟩:=b2 h
       intro A env h₀ H ρ s N Rt E ok Y R q;exact Qp gd (hm.resolve_right nofun) hc hi hy ok Y R q
 case For t it body els p=>
  cases els with
  | cons a b=>exact @nn _ _ _ h
  | nil=>
    delta Dr at h
    (try dsimp only at h)
    obtain⟨t,ht,y,hy,z,hz,rfl⟩:=b3 h
    obtain⟨h1,h2⟩:=Jr gd (hm.resolve_right nofun) sE hy
    intro A env h₀ H ρ s N Rt E ok Y R q;exact Ae6 (hm.resolve_right nofun) h1 ht (Cn (ih c) hz) h2 ok Y R q
 case While t body els p=>
  cases els with
  | cons a b=>exact @nn _ _ _ h
  | nil=>
    delta Dr at h
    (try dsimp only at h)
    obtain⟨y,hy,z,hz,rfl⟩:=b2 h
    intro A env h₀ H ρ s N Rt E ok Y R q;exact Aag (sE _ _ hy).st (Cn (ih c) hz) ok Y R q
 case If t a b p=>
  delta Dr at h
  (try dsimp only at h)
  obtain⟨y,hy,a,ha,z,hz,rfl⟩:=b3 h
  intro A env h₀ H ρ s N Rt E ok Y R q;exact Ag7 (sE _ _ hy).st (Cn (ih c) ha) (Cn (ih c) hz) ok Y R q
 case Raise e z p=>
  cases z with
  | some z=>exact @nn _ _ _ h
  | none=>
    delta Dr at h
    (try dsimp only at h)
    obtain⟨y,hy,rfl⟩:=b1 h
    intro A env h₀ H ρ s N Rt E ok Y R q;exact Aal gd (hm.resolve_right nofun) hy ok Y R q
 case Expr e p=>
  delta Dr at h
  dsimp only at h
  split at h
  ·rename_i hn
   obtain⟨y,hy,rfl⟩:=b1 h
   intro A env h₀ H ρ s N Rt E ok Y R q;exact Ac2 (sE _ _ hy).se hn ok Y R q
  ·cases h
 case Try body hs els fin p=>
  delta Dr at h
  dsimp only at h
  split at h
  ·split at h
   ·rename_i b hb
    split at h
    ·rename_i hst
     have hbody:Hk W G n c body b:=Cn (ih c) hb
     split at h
     ·obtain⟨k,hk,xs,hx,rfl⟩:=b2 h
      intro A env h₀ H ρ s N Rt E ok Y R q;exact Vz gd hcm hbody hst hk (Cn (ih _) hx) ok Y R q
     ·obtain⟨k,hk,xs,hx,k',hk',ys,hy,rfl⟩:=b4 h
      intro A env h₀ H ρ s N Rt E ok Y R q;exact Ac5 gd hcm hbody hst hk (Cn (ih _) hx) hk' (Cn (ih _) hy) ok Y R q
     ·obtain⟨k,hk,xs,hx,rfl⟩:=b2 h
      intro A env h₀ H ρ s N Rt E ok Y R q;exact Vz gd hcm hbody hst hk (Cn (ih _) hx) ok Y R q
     ·cases h
    ·cases h
   ·cases h
  ·cases h
 case Pass p=>
  cases h;intro A env h₀ H ρ s N Rt E ok Y R q;exact Ac3 ok Y R q
theorem V0(gd:F9 W G)(hc:SC W G n):∀(k:Nat) (c:Cx) (s:Stmt) (x:S),erS k c s=some x->Pi W G n c s x
 | 0,_,_,_,h=>by cases h
 | k+1,c,s,x,h=>by
   replace h:(if ((c.hnd && !Va s)||c.cmp)=true then none else Dr (k+1) (erS k) c s)=some x:=h
   split at h
   ·cases h
   ·rename_i q
    have q2:¬(c.hnd && !Va s)=true/\c.cmp=false:=by simpa using q
    exact Su (k:=k+1) gd hc (V0 gd hc k) (Vy q2.1) q2.2 h
/-! calls of functions -/
theorem Pm{kindOf:Str->Option NameKind}{x:Str}:∀ {ns:List Str} {vs:List Value} {m:Str->Option Value},x∉ns->bindL kindOf (ns.zip vs) m x=m x
 | [],_,_,_=>rfl
 | a::ns,[],_,_=>rfl
 | a::ns,u::vs,m,h=>by
   rw[List.zip_cons_cons]
   unfold bindL
   rw[Pm (fun q=>h (.tail _ q))]
   split
   ·simp only[show x≠a from fun q=>h (by simp[q]),if_false]
   ·rfl
theorem Pn{kindOf:Str->Option NameKind}{x:Str}:∀ {ns:List Str} {vs:List Value} {m:Str->Option Value},x∉ns->bindC kindOf (ns.zip vs) m x=m x
 | [],_,_,_=>rfl
 | a::ns,[],_,_=>rfl
 | a::ns,u::vs,m,h=>by
   rw[List.zip_cons_cons]
   unfold bindC
   rw[Pn (fun q=>h (.tail _ q))]
   split
   ·rfl
   ·simp only[show x≠a from fun q=>h (by simp[q]),if_false]
theorem Xc{kindOf:Str->Option NameKind}{x:Str}{v:Value}:∀ {ns:List Str} {vs:List Value} {m:Str->Option Value},ns.Nodup->kindOf x=some .local->
 (∀i,ns.idxOf? x=some i->vs[i]? = some v->bindL kindOf (ns.zip vs) m x=some v):=by
 intro ns
 induction ns with
 | nil=>intro vs m hn hk i h;simp at h
 | cons a ns ih=>
   intro vs m hn hk i h1 h2
   obtain⟨hn1,hn2⟩:=List.nodup_cons.mp hn
   cases vs with
   | nil=>simp at h2
   | cons u vs=>
     rw[List.zip_cons_cons]
     unfold bindL
     rw[List.idxOf?_cons]at h1
     cases q:a==x with
     | true=>
       rw[q]at h1
       simp only[if_true,Option.some.injEq]at h1
       subst h1
       have hx:=beq_iff_eq.mp q
       subst hx
       simp only[List.getElem?_cons_zero,Option.some.injEq]at h2
       subst h2
       rw[if_pos hk,Pm hn1]
       simp
     | false=>
       rw[q]at h1
       simp only[Bool.false_eq_true,if_false]at h1
       obtain⟨j,hj,rfl⟩:=Option.map_eq_some_iff.mp h1
       simp only[List.getElem?_cons_succ]at h2
       exact ih hn2 hk j hj h2
theorem Xd{kindOf:Str->Option NameKind}{x:Str}{v:Value}:∀ {ns:List Str} {vs:List Value} {m:Str->Option Value},ns.Nodup->kindOf x≠some .local->
 (∀i,ns.idxOf? x=some i->vs[i]? = some v->bindC kindOf (ns.zip vs) m x=some v):=by
 intro ns
 induction ns with
 | nil=>intro vs m hn hk i h;simp at h
 | cons a ns ih=>
   intro vs m hn hk i h1 h2
   obtain⟨hn1,hn2⟩:=List.nodup_cons.mp hn
   cases vs with
   | nil=>simp at h2
   | cons u vs=>
     rw[List.zip_cons_cons]
     unfold bindC
     rw[List.idxOf?_cons]at h1
     cases q:a==x with
     | true=>
       rw[q]at h1
       simp only[if_true,Option.some.injEq]at h1
       subst h1
       have hx:=beq_iff_eq.mp q
       subst hx
       simp only[List.getElem?_cons_zero,Option.some.injEq]at h2
       subst h2
       rw[if_neg hk,Pn hn1]
       simp
     | false=>
       rw[q]at h1
       simp only[Bool.false_eq_true,if_false]at h1
       obtain⟨j,hj,rfl⟩:=Option.map_eq_some_iff.mp h1
       simp only[List.getElem?_cons_succ]at h2
       exact ih hn2 hk j hj h2
theorem Kn{β:Type}:∀ {l:List (Str×β)},(l.map (·.1)).Nodup->∀p∈l,l.lookup p.1=some p.2
 | [],_,p,hp=>by cases hp
 | (y,z)::r,h,p,hp=>by
   rw[List.map_cons,List.nodup_cons]at h
   rw[List.lookup_cons]
   rcases List.mem_cons.mp hp with rfl|hp'
   ·simp
   ·have:(p.1==y)=false:=by
     simpa using fun q:p.1=y=>h.1 (by rw[<-q];exact List.mem_map.mpr ⟨p,hp',rfl⟩)
    rw[this]
    exact Kn h.2 p hp'
theorem Qq{l:List (Str×Addr)}(h:l.Pairwise fun x y=>x.2≠y.2){p q:Str×Addr}(hp:p∈l)(hq:q∈l)(e:p.2=q.2):p=q:=by
 induction l with
 | nil=>cases hp
 | cons a l ih=>
   obtain⟨h1,h2⟩:=List.pairwise_cons.mp h
   rcases List.mem_cons.mp hp with e1|hp'
   ·rcases List.mem_cons.mp hq with e2|hq'
    ·rw[e1,e2]
    ·exact absurd (e1▸e) (h1 q hq')
   ·rcases List.mem_cons.mp hq with e2|hq'
    ·exact absurd (e2▸e).symm (h1 p hp')
    ·exact ih h2 hp' hq'
theorem Aan{hb:Bool}{params:Arguments}{body:List Stmt}{sc:Scope}{d:Fn}(h:Ab2 hb params body sc=some d):Ff params=true/\sc.kind = .function/\sc.isGenerator=false/\sc.isCoroutine=false/\d.slots=(Cj params sc).length/\d.arity=params.args.length/\Jh (erS 40 ⟨Cj params sc,sc,hb,false⟩) body=some d.body:=by
 unfold Ab2 at h
 refine Aa fun nY=>?_
 split at h
 ·rename_i q
  simp only[Bool.and_eq_true,beq_iff_eq,Bool.not_eq_true']at q
  obtain⟨b,hb,rfl⟩:=b1 h
  refine nY ?_;clear nY
  exact⟨q.1.1.1,q.1.1.2,q.1.2,q.2,rfl,rfl,hb⟩
 ·cases h
theorem Al.back{h₀:HB}{env env':Env}{c:Cx}{names':List Str}{H H':AH}{ρ ρ':Aj}{s s':Shared}(Y:Ah W env c h₀)(R:Al W h₀ env c.names H ρ s){h₁:HB}(hk:∀b o,s.heap.get? b=some o->H b=none->h₁.get? b=some o)(hf:∀b∈h₁.fs,b≠env.locals->b∈h₀.fs)(R':Al W h₁ env' names' H' ρ' s'):Al W h₀ env c.names H' ρ s':=by
 have noneL:H env.locals=none:=by
  cases q:H env.locals with
  | none=>rfl
  | some x=>exact absurd rfl (R.sep _ _ q).2.1
 have noneC:∀x a,env.cells.lookup x=some a->H a=none:=fun x a e=>by
  cases q:H a with
  | none=>rfl
  | some z=>exact absurd e ((R.sep _ _ q).2.2 x)
 have none0:∀b o,h₀.get? b=some o->H b=none:=fun b o e=>by
  cases q:H b with
  | none=>rfl
  | some z=>have:=(R.sep b z q).1;rw[e]at this;cases this
 refine⟨?_,?_,fun b o e=>(let ⟨o1,e1,z1⟩:=R.keep b o e;let ⟨o2,e2,z2⟩:=R'.keep b o1 (hk b o1 e1 (none0 b o e));⟨o2,e2,z1.trans (z2.imp id fun⟨⟨m,n⟩,z⟩=>⟨⟨hf b m (fun q=>by rw[q,Y.new]at e;cases e),n⟩,z⟩)⟩),R'.objs,?_,R'.gens,R'.os,R.above,R'.low⟩
 ·refine Aa fun nY=>?_
  obtain⟨m,⟨o,es,ep,h1,h2⟩,h3⟩:=R.ns
  refine nY ?_;clear nY
  exact⟨m,R'.keep.ns ⟨o,es,ep,hk _ _ h1 noneL,h2⟩,h3⟩
 ·intro x a e
  refine Aa fun nY=>?_
  obtain⟨w,⟨o,ho,hd⟩,hr⟩:=R.cell x a e
  refine nY ?_;clear nY
  exact⟨w,⟨o,R'.keep.exact (hk _ _ ho (noneC x a e)) (.inl fun m=>(by obtain⟨p,hp,hp2⟩:=Bh e;exact Y.fsok a (hf a m (Y.apart x a e)) (hp2▸Y.newc p hp))),hd⟩,hr⟩
 ·intro a o e
  refine Aa fun nY=>?_
  obtain⟨q1,q2,q3⟩:=R'.sep a o e
  refine nY ?_;clear nY
  refine⟨?_,?_,?_⟩
  ·cases q:h₀.get? a with
   | none=>rfl
   | some z=>obtain⟨z',e1,_⟩:=R.keep a z q;have:=hk a z' e1 (none0 a z q);rw[q1]at this;cases this
  ·rintro rfl
   refine Aa fun nY=>?_
   obtain⟨m,⟨o,es,ep,h1,h2⟩,h3⟩:=R.ns
   have:=hk _ _ h1 noneL;rw[q1]at this;cases this
  ·intro x hx
   refine Aa fun nY=>?_
   obtain⟨w,⟨o,ho,hd⟩,hr⟩:=R.cell x a hx
   have:=hk _ _ ho (noneC x a hx);rw[q1]at this;cases this
end Mine.Internal
namespace Mine.Internal
open PySem PySem.W PyProof.Rows
variable {W:Wd} {G:Ax} {n:Nat} {Er:EP}
theorem Ub{params:Arguments}{sc:Scope}{x:Str}{i:Nat}(h:(Cj params sc).idxOf? x=some i)(hi:i<params.args.length):(params.args.map (·.arg)).idxOf? x=some i:=by
 unfold Cj at h
 cases Classical.em (x∈params.args.map (·.arg))with
 | inl q=>rw[(D7 q).1]at h;exact h
 | inr q=>
   rw[G3 q]at h
   obtain⟨j,_,rfl⟩:=Option.map_eq_some_iff.mp h
   simp at hi
   exact(Nat.not_lt.mpr (Nat.le_add_left _ _) hi).elim
structure Jt(W:Wd)(H:AH)(s:Shared):Prop where
 base:∀b o,W.b₀.get? b=some o->s.heap.get? b=some o
 objs:∀a o,H a=some o->∃ob,s.heap.get? a=some ob/\OR W o ob
 low:∀a es,H a=some (.dict es)->W.b₀.objs.size<=a
 bn:∀a o,H a=some o->W.b₀.get? a=none
 gens:s.gens = #[]
 os:s.os=W.os
 up:W.b₀.objs.size<=s.heap.objs.size
 lo:sysModules<W.b₀.objs.size
noncomputable def Ag9(W:Wd)(FS:List Addr)(H:AH)(s:Shared)(Q:Af)(v:Value)(s':Shared):Prop:=
 (Ex6 fun(a:V) (H':AH) (env':Env) (names':List Str) (ρ':Aj) (h₁:HB)=>Xq (h₁.fs=FS) (VR W a v) (Al W h₁ env' names' H' ρ' s') (Q a H') (∀b o,s.heap.get? b=some o->H b=none->h₁.get? b=some o))
noncomputable def Aha(W:Wd)(FS:List Addr)(H:AH)(s:Shared)(E:EP)(v:Value)(s':Shared):Prop:=
 (Ex4 fun(env':Env) (names':List Str) (ρ':Aj) (h₁:HB)=>Fx (h₁.fs=FS) (Td W h₁ env' names' ρ' E (some .none) v s') (∀b o,s.heap.get? b=some o->H b=none->h₁.get? b=some o))
theorem Po(g:F9 W G)(hc:SC W G n){A:Around}{H:AH}{s:Shared}{Q:Af}{E:EP}{f:Str}{fa:Addr}{vs:List V}{us:List Value}(hh:Ka f=false->A.handled=none)(hroom:A.depth+4*(n+1)+2<recursionLimit)(hunits:A.units+30*(n+1)+40<cLine)
 (FS:List Addr) (hFS:∀L∈FS,H L=none/\W.b₀.get? L=none/\∃o,s.heap.get? L=some o/\∀vs,o.data≠ .fields vs) (stk:Stk A FS) (B:Jt W H s) (hfa:E2 W f=some fa) (hv:Df W vs us) (q:Ad G (n+1) f vs H Q E) :
 codeAny W.M A (.call (.ref fa) ⟨us,[]⟩) (fun r s'=>match r with | .ok (.ret v)=>Ag9 W FS H s Q v s' | .ok _=>False | .error e=>Aha W FS H s E e s') s:=by
 unfold Ad at q
 split at q
 ·rename_i d hd
  obtain⟨fa',h1,name,qual,params,body,scope,doc,pm,cdv,ct,oc,an,od,osl,F⟩:=g.fn f d hd
  rw[hfa]at h1
  cases h1
  obtain⟨p1,p2,p3,p4,p5,p6,p7⟩:=Aan F.er
  obtain⟨har,q⟩:=q
  have X:W.K.In s.heap:=fun a o e=>B.base a o (g.X a o e)
  have hlen:params.args.length=us.length:=by rw[<-p6,har,hv.length]
  refine codeAny_call_function (fd:=fnOf name qual params body scope .none .none doc pm an cdv ct) (body:=body) (by(first|lia|omega)) (X _ _ F.at_) rfl p4 p3 rfl (codeRec_of X F.code) ?_
  rw[T3 (fd:=fnOf name qual params body scope .none .none doc pm an cdv ct) p1 rfl hlen F.nodup]
  refine wpAny_pure ?_
  refine wpAny_newFunctionEnv_cells p2 (fun x hx=>?_) fun env' he' s₂ I=>?_
  ·have hx':x.1∈params.args.map (·.arg):=(List.of_mem_zip (a:=x.1) (b:=x.2) hx).1
   rcases F.kinds x.1 hx' with h|h
   ·exact .inl h
   ·exact .inr ⟨h,cellsFrom_some _ _ _ (.inl h)⟩
  ·obtain⟨pp,loose,mg,mb,T⟩:=g.top
   obtain⟨h2,tk2,es2⟩:=I.toInCall.same
   have keep2:=I.toInCall.keep
   have hL:env'.locals=s.heap.objs.size:=by rw[he'];rfl
   have hcells:env'.cells=cellsFrom (s.heap.objs.size+1) scope.names []:=by rw[he'];rfl
   have hkindOf:∀x,env'.kindOf x=scope.names.lookup x:=fun x=>by rw[he'];rfl
   have hkeysnd:(env'.cells.map (·.1)).Nodup:=by
    rw[hcells,cellsFrom_names scope.names (s.heap.objs.size+1) 0 [] [] rfl];exact F.cells
   refine⟨T.nolimit.keeps fun b o e=>keep2 b o (B.base b o e),codeAny_func ?_⟩
   have hlow:∀b o,s.heap.get? b=some o->b≠env'.locals/\∀p∈env'.cells,p.2≠b:=fun b o e=>by
    have hlt:=Heap.lt_size e
    refine⟨by rw[hL];exact Nat.ne_of_lt hlt,fun p hp q=>?_⟩
    have:=I.above p.1 p.2 hp
    rw[hL,q]at this
    exact Nat.lt_asymm this hlt
   have hprot:∀b o,s.heap.get? b=some o->H b=none->(Mine.Internal.prot env' FS H s₂.heap).get? b=some o:=fun b o e hb=>C5 (keep2 b o e) hb (hlow b o e).1 (hlow b o e).2
   have Y':Ah W env' ⟨Cj params scope,scope,Ka f,false⟩ (Mine.Internal.prot env' FS H s₂.heap):=by
    refine⟨by rw[he'];exact p2,by rw[he'];rfl,by rw[he'];rfl,fun x k e _=>(hkindOf x).trans e,fun x e=>absurd rfl (F.nofree _ (A8 e)),?_,?_,?_,?_,C9 (.inr (.inl rfl)),(fun L m q=>by obtain⟨z,_,o,e,_⟩:=hFS L m;rw[hprot L o e z]at q;cases q),(fun L m=>by obtain⟨z,z2,o,e,z3⟩:=hFS L m;refine⟨z2,fun o' e'=>?_⟩;have e2:=Fk e';rw[keep2 L o e]at e2;cases e2;exact z3),fun p hp=>C9 (.inr (.inr ⟨p,hp,rfl⟩)),Kn hkeysnd,B.lo⟩
    ·intro x e
     rw[hkindOf]at e
     rcases e with e|e
     ·have:=cellsFrom_some (x:=x) scope.names (s.heap.objs.size+1) [] (.inl e)
      rw[<-hcells]at this
      exact Option.isSome_iff_exists.mp this
     ·exact absurd rfl (F.nofree _ (A8 e))
    ·intro x a e q
     have:=I.above x a (A8 e)
     rw[q]at this
     exact Nat.lt_irrefl _ this
    ·intro x y a e1 e2
     have:=Qq I.apart (A8 e1) (A8 e2) rfl
     exact congrArg Prod.fst this
    ·intro b o e
     refine hprot b o (B.base b o e) ?_
     cases q:H b with
     | none=>rfl
     | some z=>have:=B.bn b z q;rw[e]at this;cases this
   have R':Al W (Mine.Internal.prot env' FS H s₂.heap) env' (Cj params scope) H (vs.map some++List.replicate (d.slots-d.arity) none) s₂:=by
    have key:∀x i v,(Cj params scope).idxOf? x=some i->(vs.map some++List.replicate (d.slots-d.arity) none)[i]? = some (some v)->(Hn fun u=>Fx ((params.args.map (·.arg)).idxOf? x=some i) (us[i]? = some u) (VR W v u)):=by
     intro x i v e1 e2
     have hi:i<vs.length:=by
      cases Nat.lt_or_ge i vs.length with
      | inl h=>exact h
      | inr h=>
        rw[List.getElem?_append_right (by simpa using h)]at e2
        obtain⟨_,z⟩:=List.getElem?_eq_some_iff.mp e2
        simp at z
     rw[List.getElem?_append_left (by simpa using hi),List.getElem?_map]at e2
     obtain⟨v',h1,h2⟩:=Option.map_eq_some_iff.mp e2
     cases h2
     obtain⟨u,h3,h4⟩:=hv.get i h1
     exact⟨u,Ub e1 (by(first|lia|omega)),h3,h4⟩
    refine⟨⟨_,I.toInCall.ns,?_⟩,?_,.of fun _ _ e=>Fk e,?_,?_,?_,?_,by rw[hL];exact B.up,B.low⟩
    ·intro x i v e1 e2 e3
     obtain⟨u,h1,h2,h3⟩:=key x i v e1 e3
     exact⟨u,Xc F.nodup e2 i h1 h2,h3⟩
    ·intro x a e
     refine⟨_,I.cell x a e,fun i v e1 e2 e3=>?_⟩
     obtain⟨u,h1,h2,h3⟩:=key x i v e1 e3
     exact⟨u,Xd F.nodup (by rcases e2 with e2|e2<;>rw[e2]<;>simp) i h1 h2,h3⟩
    ·intro a o e
     obtain⟨ob,g1,g2⟩:=B.objs a o e
     exact⟨ob,keep2 _ _ g1,g2⟩
    ·intro a o e
     obtain⟨ob,g1,g2⟩:=B.objs a o e
     exact⟨C9 (.inl ⟨o,e⟩),(hlow a ob g1).1,fun x q=>by obtain⟨p,hp,hp2⟩:=Bh q;exact(hlow a ob g1).2 p hp hp2⟩
    ·rw[es2];exact B.gens
    ·rw[es2];exact B.os
   have hframe:env'.frame=some env'.locals:=by rw[he'];rfl
   have hkind:env'.scope.kind≠ .module:=by rw[he'];show scope.kind≠_;rw[p2];nofun
   have ok':Kz (A.deeper env') ⟨Cj params scope,scope,Ka f,false⟩ (Mine.Internal.prot env' FS H s₂.heap) env' E n:=by
    obtain⟨l,hl,hl2⟩:=stk
    refine⟨hh,by show A.depth+1+4*n+4<_;(first|lia|omega),by show A.units+3+30*n+60<_;(first|lia|omega),⟨env'::l,Around.frames_deeper hl,fun x m=>?_⟩,fun _=>⟨l,Around.frames_deeper hl,hframe⟩,nofun⟩
    rcases List.mem_cons.mp m with rfl|m
    ·exact⟨hkind,_,hframe,.head _⟩
    ·obtain⟨a,L,b,d⟩:=hl2 x m
     exact⟨a,L,b,.tail _ d⟩
   have hb:Hk W G n ⟨Cj params scope,scope,Ka f,false⟩ body d.body:=Cn (fun s x h=>V0 g hc 40 _ s x h) p7
   refine wpAny_mono (hb ok' Y' R' q) (fun fl s' r=>?_) fun v s' x=>?_
   rotate_left
   ·obtain⟨ρ',_,x⟩:=x
    obtain⟨outer,t1,t2,t3⟩:=ok'.tops rfl
    unfold leaving
    exact wpAny_bind (Lc t1 t2 t3 Y' x fun s2 y=>Iu Y' y fun s3 z=>⟨env',_,ρ',_,rfl,z,hprot⟩)
   cases fl with
   | next=>
     obtain⟨ρ',H',R3,q3⟩:=r
     exact⟨.none,H',env',_,ρ',_,rfl,.none,R3,q3,hprot⟩
   | ret v=>
     obtain⟨a,H',ρ',hv',R3,q3⟩:=r
     exact⟨a,H',env',_,ρ',_,rfl,hv',R3,q3,hprot⟩
   | brk=>exact r.elim
   | cont=>exact r.elim
 ·exact q.elim
theorem Al.frames{env:Env}{c:Cx}{h₀:HB}{names:List Str}{H:AH}{ρ:Aj}{s:Shared}(R:Al W h₀ env names H ρ s)(Y:Ah W env c h₀):∀L∈env.locals::h₀.fs,H L=none/\W.b₀.get? L=none/\∃o,s.heap.get? L=some o/\∀vs,o.data≠ .fields vs:=fun L m=>by
 rcases List.mem_cons.mp m with rfl|m
 ·refine⟨?_,O9 R.above,?_⟩
  ·cases q:H env.locals with
   | none=>rfl
   | some x=>exact absurd rfl (R.sep _ _ q).2.1
  ·obtain⟨_,⟨o,_,_,h,h2,_⟩,_⟩:=R.ns
   exact⟨o,h,fun vs q=>by rw[h2]at q;cases q⟩
 ·refine⟨?_,(Y.fsd L m).1,R.fsd Y m⟩
  cases z:H L with
  | none=>rfl
  | some x=>exact absurd (R.sep L x z).1 (Y.fsok L m)
theorem Fu.back{h₀ h₁:HB}{env env':Env}{c:Cx}{H H':AH}{ρ:Aj}{s:Shared}{T:Addr}(Y:Ah W env c h₀)(R:Al W h₀ env c.names H ρ s)(hk:∀b o,s.heap.get? b=some o->H b=none->h₁.get? b=some o)(x:Fu h₁ env' H' [T]):Fu h₀ env H' [T]:=fun b hb=>by
 obtain⟨x1,x2,_,_⟩:=x b hb
 refine⟨x1,?_,?_,?_⟩
 ·cases q:h₀.get? b with
  | none=>rfl
  | some o=>
    obtain⟨o',e1,_⟩:=R.keep b o q
    have:H b=none:=by
     cases z:H b with
     | none=>rfl
     | some y=>have:=(R.sep b y z).1;rw[q]at this;cases this
    rw[hk b o' e1 this]at x2;cases x2
 ·rintro rfl
  obtain⟨z,_,o,e,_⟩:=R.frames Y _ (.head _)
  rw[hk _ o e z]at x2;cases x2
 ·rintro p hp rfl
  obtain⟨w,⟨o,ho,_⟩,_⟩:=R.cell p.1 p.2 (Y.look p hp)
  have:H p.2=none:=by
   cases z:H p.2 with
   | none=>rfl
   | some y=>exact absurd (Y.look p hp) ((R.sep _ _ z).2.2 p.1)
  rw[hk _ o ho this]at x2;cases x2
theorem Uc(g:F9 W G)(hc:SC W G n):SC W G (n+1):=by
 intro A env c h₀ H ρ s Q E f fa vs us hh hroom hunits stk Y R hfa hv q
 refine codeAny_mono (Po (E:=E) g hc hh hroom hunits (env.locals::h₀.fs) (R.frames Y) stk ⟨R.keepB Y,R.objs,R.low,(fun a o e=>by cases z:W.b₀.get? a with|none=>rfl|some y=>have:=(R.sep a o e).1;rw[Y.base a y z]at this;cases this),R.gens,R.os,R.up,Y.lo⟩ hfa hv q) fun r s' z=>?_
 have hff:∀ {h₁:HB},h₁.fs=env.locals::h₀.fs->∀b∈h₁.fs,b≠env.locals->b∈h₀.fs:=fun hfs b m hb=>by rw[hfs]at m;exact(List.mem_cons.mp m).resolve_left hb
 rcases r with e|(v|_|_|_)<;>first|exact z.elim|skip
 ·obtain⟨env',names',ρ',h₁,hfs,⟨ea,H',cc,hv,R3,he,⟨oe,vs,a0,t1,t2,t3,T,oT,ts,g1,g2,g3,g4,g5,g6⟩,q3⟩,hp⟩:=z
  exact⟨some .none,.inr (.inl rfl),ea,H',cc,hv,R.back Y hp (hff hfs) R3,he,⟨oe,vs,a0,t1,t2,t3,T,oT,ts,g1,g2,g3,g4,g5,Fu.back Y R hp g6⟩,q3⟩
 obtain⟨a,H',env',names',ρ',h₁,hfs,hv',R3,q3,hp⟩:=z
 exact⟨a,H',hv',R.back Y hp (hff hfs) R3,q3⟩
theorem Ac6(g:F9 W G):∀n,SC W G n:=by
 intro n
 induction n with
 | zero=>
   intro A env c h₀ H ρ s Q E f fa vs us hh hroom hunits stk Y R hfa hv q
   exact False.elim q
 | succ n ih=>exact Uc g ih
theorem Ac7(g:F9 W G){A:Around}{s:Shared}{Q:Af}{E:Value->Shared->Prop}{f:Str}{fa:Addr}(hh:A.handled=none)(hfr:A.frames=some [])(hroom:A.depth+4*(n+1)+2<recursionLimit)(hunits:A.units+30*(n+1)+40<cLine)
 (hb:s.heap=W.b₀) (hg:s.gens = #[]) (ho:s.os=W.os) (lo:sysModules<W.b₀.objs.size) (hfa:E2 W f=some fa) (q:Ad G (n+1) f [.script W.sn] (fun _=>none) Q EF) :
 codeAny W.M A (.call (.ref fa) ⟨[.ref W.sa],[]⟩) (fun r s'=>match r with
  | .ok (.ret v)=>((Ho fun a H'=>VR W a v/\Q a H'))/\(∀b o,s.heap.get? b=some o->s'.heap.get? b=some o)/\s'.os=s.os/\s'.gens = #[]
  | .ok _=>False | .error e=>E e s') s:=by
 refine codeAny_mono (Po (E:=EF) (H:=fun _=>none) (vs:=[.script W.sn]) (us:=[.ref W.sa]) g (Ac6 g n) (fun _=>hh) hroom hunits [] (fun _ m=>nomatch m) ⟨[],hfr,fun _ m=>absurd m List.not_mem_nil⟩ ⟨fun b o e=>hb▸e,(fun _ _ e=>nomatch e),(fun _ _ e=>nomatch e),(fun _ _ e=>nomatch e),hg,ho,(by rw[hb];exact Nat.le_refl _),lo⟩ hfa (.cons .script .nil) q) fun r s' z=>?_
 refine Aa fun nY=>?_
 rcases r with e|(v|_|_|_)<;>first|exact z.elim|skip
 ·obtain⟨_,_,_,_,_,⟨_,_,_,_,_,_,_,f⟩,_⟩:=z
  exact f.elim
 obtain⟨a,H',env',names',ρ',h₁,hfs,hv',R3,q3,hp⟩:=z
 refine nY ?_;clear nY
 exact⟨⟨a,H',hv',q3⟩,fun b o e=>R3.keep.exact (hp b o e rfl) (.inr (by rw[<-hb,e];nofun)),R3.os.trans ho.symm,R3.gens⟩
end Mine.Internal
namespace Mine.Internal
open PySem PySem.W PyProof.Rows
/-! the ground of a program,by a check -/
noncomputable def V1:Dc->Str
 | .web=> "Web"
 | .verdict=> "Verdict"
 | c=>Kc c
noncomputable def Hl(K:Frag)(cc:Dc):Addr:=match nsIn K mainGlobals (V1 cc)with
 | some (some (.ref a))=>a
 | _=>(match nsIn K mainGlobals "Web" with|some (some (.ref a))=>a|_=>0)
noncomputable def Afa(K:Frag)(hb:Bool)(fa:Addr):Option Fn:=match K.lookup fa with
 | some ⟨.type "function",_,.func fd,_⟩=>(match fd.body with
   | .stmts body=>if codeIn K fd.code fd.qualname&&decide ((fd.params.args.map (·.arg)).Nodup)&&(fd.params.args.map (·.arg)).all (fun x=>fd.scope.names.lookup x==some .local||fd.scope.names.lookup x==some .cell)
      && decide (((cellsFrom 0 fd.scope.names []).map (·.1)).Nodup)&&decide ((Cj fd.params fd.scope).Nodup)&&fd.scope.names.all (fun p=>p.2 != .free)&&fd.globals==mainGlobals&&fd.closure.isEmpty
      && fd.defaults == .none&&fd.kwdefaults == .none&&fd.builtins==builtinsNs then Ab2 hb fd.params body fd.scope else none
   | _=>none)
 | _=>none
noncomputable def Ko(K:Frag)(cl:Dc->Addr)(f:Str):Option Addr:=
 match Ei f with
 | some (cc,m)=>if nsIn K mainGlobals (V1 cc)==some (some (.ref (cl cc)))&&makesIn K (cl cc)then(match findIn K (.ref (cl cc)) m with|some (some (.ref a))=>some a|_=>none)else none
 | none=>(match nsIn K mainGlobals (H5 f)with|some (some (.ref a))=>some a|_=>none)
noncomputable def gFn(K:Frag)(cl:Dc->Addr)(f:Str):Option Fn:=(Ko K cl f).bind (Afa K (Ka f))
noncomputable def Ud(K:Frag)(x:Str):Option V:=match nsIn K mainGlobals x with
 | some (some (.int i _))=>some (.int i)
 | some (some (.str s _))=>some (.str s)
 | _=>none
noncomputable def Aao(K:Frag)(cc:Dc):Bool:=nsIn K mainGlobals (Kc cc)==some (some (.ref (Hl K cc)))&&excIn K (Hl K cc) VE "ValueError.__new__" && Kd K (Nh K (Hl K cc))
noncomputable def Ou(K:Frag):Ax:=⟨gFn K (Hl K),Ud K,Aao K⟩
noncomputable def Ue:List Dc:=[.web,.verdict,.webError,.badWeb,.noPoint,.badText,.badOrder,.hasGap]
noncomputable def Aap(K:Frag):Bool:=Ue.all fun a=> !Aao K a||Ue.all fun b=> !Aao K b||(Nh K (Hl K a)).contains (.ref (Hl K b))==(a==b||b == .webError)
theorem Ac8{W:Wd}{hb:Bool}{fa:Addr}{d:Fn}(h:Afa W.K hb fa=some d):∃name qual params body scope doc pm cdv ct oc an od osl,Acl W hb fa d name qual params body scope doc pm cdv ct oc an od osl:=by
 delta Afa at h
 refine Aa fun nY=>?_
 split at h
 ·rename_i od fd osl e
  split at h
  ·rename_i body hb
   split at h
   ·rename_i q
    simp only[Bool.and_eq_true,decide_eq_true_eq,List.all_eq_true,Bool.or_eq_true,beq_iff_eq,bne_iff_ne,List.isEmpty_iff]at q
    obtain⟨⟨⟨⟨⟨⟨⟨⟨⟨⟨q1,q2⟩,q3⟩,q4⟩,q5⟩,q6⟩,q7⟩,q8⟩,q9⟩,q10⟩,q11⟩:=q
    obtain⟨f1,f2,f3,f4,f5,f6,f7,f8,f9,f10,f11,f12,f13,f14,f15⟩:=fd
    simp only at hb q1 q2 q3 q4 q5 q6 q7 q8 q9 q10 q11 h
    subst hb q7 q8 q9 q10 q11
    refine nY ?_;clear nY
    exact⟨f1,f2,f3,body,f5,_,_,_,_,_,_,_,_,⟨e,rfl,q1,h,q2,q3,q4,q5,q6⟩⟩
   ·cases h
  ·cases h
 ·cases h
theorem Sv{W:Wd}(hcl:W.cl=Hl W.K){f:Str}{fa:Addr}(h:Ko W.K (Hl W.K) f=some fa):E2 W f=some fa:=by
 delta Ko at h
 delta E2
 rw[hcl]
 split at h
 ·rename_i cc m e
  try rw[e]
  split at h
  ·exact h
  ·cases h
 ·rename_i e
  try rw[e]
  exact h
noncomputable def Kp(K:Frag):Bool:=
 Qg K (Hl K .web)&&Qg K (Hl K .verdict)&&Ir.all (fun x=>nsIn K mainGlobals x==some none)&&Aap K
theorem Afb{W:Wd}(hcl:W.cl=Hl W.K)(hX:W.K.In W.b₀)(hT:(Ex4 fun p loose mg mb=>TopRead p loose mg mb W.b₀))(hg:Kp W.K=true):F9 W (Ou W.K):=by
 unfold Kp at hg
 simp only[Bool.and_eq_true,List.all_eq_true,beq_iff_eq]at hg
 refine Aa fun nY=>?_
 obtain⟨⟨⟨h1,h2⟩,h3⟩,h4⟩:=hg
 have exq:∀cc,Aao W.K cc=true↔L2 W cc:=fun cc=>by
  unfold Aao
  rw[Bool.and_eq_true,Bool.and_eq_true,beq_iff_eq,<-hcl]
  exact⟨fun h=>⟨h.1.1,h.1.2,h.2⟩,fun h=>⟨⟨h.1,h.2⟩,h.3⟩⟩
 refine nY ?_;clear nY
 have mem:∀cc:Dc,cc∈Ue:=fun cc=>by cases cc<;>decide
 refine⟨hX,hT,?_,h3,?_,?_,?_,fun cc h=>(exq cc).mp h,fun cc cc' x y=>?_,?_⟩
 rotate_left 4
 ·unfold Aap at h4
  have z1:=List.all_eq_true.mp h4 cc (mem cc)
  rw[(exq cc).mpr x]at z1
  have z2:=List.all_eq_true.mp z1 cc' (mem cc')
  rw[(exq cc').mpr y]at z2
  rw[hcl]
  simpa using z2
 rotate_right 4
 ·rintro cc (rfl|rfl)
  ·rw[hcl];exact La h1
  ·rw[hcl];exact La h2
 ·intro x v e
  have e':Ud W.K x=some v:=e
  delta Ud at e'
  refine Aa fun nY=>?_
  split at e'
  ·refine nY ?_;clear nY
   rename_i i t q;cases e';exact⟨_,q,.int _ _⟩
  ·refine nY ?_;clear nY
   rename_i i t q;cases e';exact⟨_,q,.str _ _⟩
  ·cases e'
 ·intro f d e
  have e':gFn W.K (Hl W.K) f=some d:=e
  unfold gFn at e'
  refine Aa fun nY=>?_
  obtain⟨fa,h4,h5⟩:=Option.bind_eq_some_iff.mp e'
  refine nY ?_;clear nY
  exact⟨fa,Sv hcl h4,Ac8 h5⟩
 ·intro cc hcc hs
  have hs':(gFn W.K (Hl W.K) (Fl cc)).isSome=true:=hs
  refine Aa fun nY=>?_
  obtain⟨d,hd⟩:=Option.isSome_iff_exists.mp hs'
  unfold gFn at hd
  obtain⟨fa,h4,h5⟩:=Option.bind_eq_some_iff.mp hd
  delta Ko at h4
  rw[Vu hcc]at h4
  simp only at h4
  split at h4
  ·rename_i q
   simp only[Bool.and_eq_true,beq_iff_eq]at q
   refine nY ?_;clear nY
   rw[hcl]
   refine Aa fun nY=>?_
   rcases hcc with rfl|rfl
   ·refine nY ?_;clear nY
    exact⟨q.1,q.2⟩
   ·refine nY ?_;clear nY
    exact⟨q.1,q.2⟩
  ·cases h4
 ·intro f m fa ho hfa
  refine⟨?_,?_⟩
  ·have:=(La h1).get .many
   rw[hcl]
   exact this
  ·intro a q
   have:m∈(["__init__","need","beside","tied","ties"]:List Str):=by
    delta Ei at ho
    repeat' split at ho
    all_goals first
     | (cases ho;decide)
     | (cases ho;done)
   subst q
   cases a<;>revert this<;>decide
theorem Xe{K:Frag}{cl:Dc->Addr}{f:Str}(ho:Ei f=none)(hb:Ka f=false)(h:(Ko K cl f).isSome=true):∃a,Ko K cl f=some a/\nsIn K mainGlobals f=some (some (.ref a)):=by
 obtain⟨a,ha⟩:=Option.isSome_iff_exists.mp h
 refine⟨a,ha,?_⟩
 delta Ko at ha
 rw[ho]at ha
 simp only[O7 hb]at ha
 split at ha
 ·rename_i e;cases ha;exact e
 ·cases ha
theorem Ac9{prog:Program}{w:World}{K:Frag}{s₁:Shared}{p:Program}{loose:List Str}{mg mb:Str->Option Value}{fa L:Addr}{items:List Value}{nsL:List Int}{c:ClaimW}{cl:Str->Option Addr}{mean:ExcName->Option Value}{args:List WData}
 (KX:K.In s₁.heap) (T:TopRead p loose mg mb s₁.heap) (hgr:Kp K=true) (hf:(Ko K (Hl K) "law").isSome=true) (hmg:mg "law" = some (.ref fa)) (hg:s₁.gens = #[])
 (hL:s₁.heap.IsList L items.toArray) (hI:IntsAre items nsL) (hn:nsL.length<=63) (main:Ad (Ou K) 40 "law" [.script nsL] (fun _=>none) (fun v _=>v = .bool true) EF)
 (hr:∀cls,c.raises args cls=false) (hp:c.post args (.bool true) args=true) :
 wpAny (model prog w) callerA (call (.ref fa) [.ref L]) (fun v s'=>GoodWG c cl mean args s₁ (.ok (.ret v)) s') (fun e s'=>GoodWG c cl mean args s₁ (.error e) s') s₁:=by
 have hlen:items.length<=Cg:=by
  have:=(F8 (W:=⟨prog,w,K,Hl K,s₁.heap,s₁.os,L,nsL,⟨items,hL,hI,by
   have:∀ {vs:List Value} {ns:List Int},IntsAre vs ns->vs.length=ns.length:=by
    intro vs ns h;induction h with
    | nil=>rfl
    | cons _ _ _ ih=>simp[ih]
   rw[this hI];simp only[Cg];exact(Nat.le_trans hn (by decide))⟩⟩) hI).length
  simp only[List.length_map]at this
  rw[<-this];simp only[Cg];exact Nat.le_trans hn (by decide)
 let W:Wd:=⟨prog,w,K,Hl K,s₁.heap,s₁.os,L,nsL,⟨items,hL,hI,hlen⟩⟩
 refine Aa fun nY=>?_
 obtain⟨a,h1,h2⟩:=Xe (K:=K) (cl:=Hl K) (f:= "law") (by decide) (by decide) hf
 have h3:=mg_of KX T.g h2
 rw[hmg]at h3
 cases h3
 have gd:F9 W (Ou K):=Afb (W:=W) rfl KX ⟨p,loose,mg,mb,T⟩ hgr
 refine nY ?_;clear nY
 refine wpAny_call (codeAny_mono (Ac7 (W:=W) (G:=Ou K) (n:=39) (E:=fun _ _=>False) (f:= "law") gd rfl rfl (by decide) (by decide) rfl hg rfl (modules_low T.nolimit) (Sv (W:=W) rfl h1) main) fun r s' z=>?_)
 refine Aa fun nY=>?_
 rcases r with e|(v|_|_|_)<;>first|exact z.elim|skip
 obtain⟨⟨av,H',hv,q⟩,hk,ho,hgn⟩:=z
 subst q
 cases hv
 refine nY ?_;clear nY
 exact GoodW.toG ⟨.inl ⟨.bool true,.bool true,[],rfl,hr,.bool true,hp,fun _=>⟨List.nodup_nil,fun _ h=>by cases h⟩⟩,hk,ho,hgn⟩
end Mine.Internal
namespace Mine.Internal.Cl
open PySem
set_option linter.all false
variable {G:Ax} {n:Nat} {H:AH} {Q:Af} {E:EP} {C:CS} {ρ:Aj} {N:Aj->AH->Prop} {R:Af}
theorem Az{b:Bool}{Q:Bool->Prop}:truthy (.bool b) Q=Q b:=rfl
theorem Bb{i j:Int}:Ca .Lt (.int i) (.int j) H Q=Q (.bool (decide (i<j))) H:=rfl
theorem Bf{i j:Int}:Ca .LtE (.int i) (.int j) H Q=Q (.bool (decide (i<=j))) H:=rfl
theorem Bc{i j:Int}:Ca .Gt (.int i) (.int j) H Q=Q (.bool (decide (j<i))) H:=rfl
theorem Bl{i j:Int}:Ca .GtE (.int i) (.int j) H Q=Q (.bool (decide (j<=i))) H:=rfl
theorem Ba{i j:Int}:Ca .Eq (.int i) (.int j) H Q=Q (.bool (decide (i=j))) H:=rfl
theorem Bm{i j:Int}:Ca .NotEq (.int i) (.int j) H Q=Q (.bool (!decide (i=j))) H:=rfl
theorem Bt{i j:Bool}:Ca .Eq (.bool i) (.bool j) H Q=Q (.bool (i==j)) H:=rfl
theorem Bu{i j:Bool}:Ca .NotEq (.bool i) (.bool j) H Q=Q (.bool (!(i==j))) H:=rfl
theorem Bn:Ca .Is .none .none H Q=Q (.bool true) H:=rfl
theorem Bo{a}:Ca .Is (.ref a) .none H Q=Q (.bool false) H:=rfl
theorem Bi:Ca .IsNot .none .none H Q=Q (.bool false) H:=rfl
theorem Bp{a}:Ca .IsNot (.ref a) .none H Q=Q (.bool true) H:=rfl
theorem Z8{i j:Int}:Dz .Add (.int i) (.int j) H Q=Q (.int (i+j)) H:=rfl
theorem Z9{i j:Int}:Dz .Sub (.int i) (.int j) H Q=Q (.int (i-j)) H:=rfl
theorem Aaq{i j:Int}:Dz .Mult (.int i) (.int j) H Q=((i.natAbs<2 ^ 64\/j.natAbs<2 ^ 64)/\Q (.int (i*j)) H):=rfl
theorem Z6{i j:Int}(h:0<j)(h':j<=10 ^ 30):Dz .Mod (.int i) (.int j) H Q=Q (.int (i%j)) H:=by
 show ((j≠0/\j.natAbs<=10 ^ 30)/\Q (.int (i.fmod j)) H)=_
 rw[Int.fmod_eq_emod_of_nonneg _ (Q0 h)]
 exact propext ⟨fun h=>h.2,fun q=>⟨⟨(Int.ne_of_gt h),(Q2 h h')⟩,q⟩⟩
theorem Z7{i j:Int}(h:0<j)(h':j<=10 ^ 30):Dz .FloorDiv (.int i) (.int j) H Q=Q (.int (i/j)) H:=by
 show ((j≠0/\j.natAbs<=10 ^ 30)/\Q (.int (i.fdiv j)) H)=_
 rw[Int.fdiv_eq_ediv_of_nonneg _ (Q0 h)]
 exact propext ⟨fun h=>h.2,fun q=>⟨⟨(Int.ne_of_gt h),(Q2 h h')⟩,q⟩⟩
theorem Ahc{i j:Int}:Dz .Pow (.int i) (.int j) H Q=((0<=j/\j<=1000/\i.natAbs<2 ^ 64)/\Q (.int (i ^ j.toNat)) H):=rfl
theorem Bq{ns:List Int}:D3 .len [.script ns] H Q=Q (.int ns.length) H:=rfl
theorem Bj{i j:Int}:D3 .max [.int i,.int j] H Q=Q (.int (max i j)) H:=rfl
theorem Br{i j:Int}:D3 .min [.int i,.int j] H Q=Q (.int (min i j)) H:=rfl
theorem Z4:Dd 1 = .one 0:=rfl
theorem Z5:Dd 2 = .two 0 1:=rfl
theorem Bg{i:Int}(h0: -1048576<=i)(h1:i<=1048576):D3 .listRange [.int i] H Q=An (.list ((List.range i.toNat).map fun(i:Nat)=>V.int i)) H Q:=
 propext ⟨fun h=>h.2,fun h=>⟨⟨h0,h1⟩,h⟩⟩
theorem Bk{i j:Int}(h0:0<=i)(h1:i<=1048576)(h2: -1048576<=j)(h3:j<=1048576):D3 .listRange [.int i,.int j] H Q=An (.list ((List.range (j-i).toNat).map fun(k:Nat)=>V.int (i+k))) H Q:=
 propext ⟨fun h=>h.2,fun h=>⟨⟨h0,h1,h2,h3⟩,h⟩⟩
theorem A9{i:Int}{K:List It->(AH->Prop)->AH->Prop}(h0: -1048576<=i)(h1:i<=1048576):El [.int i] H K=K ((List.range i.toNat).map fun(i:Nat)=> .v (.int i)) (fun _=>True) H:=
 propext ⟨fun h=>h.2,fun h=>⟨⟨h0,h1⟩,h⟩⟩
theorem Pp{i:Int}{K:List It->(AH->Prop)->AH->Prop}(h0: -1048576<=i)(h1:i<=1048576)(kk:K ((List.range i.toNat).map fun(i:Nat)=> .v (.int i)) (fun _=>True) H):El [.int i] H K:=Eq.mpr (A9 h0 h1) kk
theorem Bv{i j:Int}{K:List It->(AH->Prop)->AH->Prop}(h0:0<=i)(h1:i<=1048576)(h2: -1048576<=j)(h3:j<=1048576):El [.int i,.int j] H K=K ((List.range (j-i).toNat).map fun(k:Nat)=> .v (.int (i+k))) (fun _=>True) H:=
 propext ⟨fun h=>h.2,fun h=>⟨⟨h0,h1,h2,h3⟩,h⟩⟩
theorem Dg{a:Nat}{xs:List V}(h:H a=some (.list xs)):D3 .len [.ref a] H Q=Q (.int xs.length) H:=by delta D3;dsimp only;(first|delta Lk|delta Hp|delta Gd|delta Ll|delta Lm);(try dsimp only[A2,Ap,We,Oj,Ux]);rw[h];(try dsimp only[Hm,Xr])
theorem Bz{a:Nat}{xs:List V}{k:Int}{x:V}(h:H a=some (.list xs))(h0:0<=k)(hx:xs[k.toNat]? = some x):Hb (.ref a) (.int k) H Q=Q x H:=by
 have hlt:=(List.getElem?_eq_some_iff.mp hx).1
 have:Di k xs.length=some k.toNat:=by delta Di;rw[if_pos h0,if_pos (Q3 hlt)]
 delta Hb;(try dsimp only[Ap]);rw[h];(try dsimp only);rw[this];(try dsimp only[Fy]);rw[hx]
theorem Iv{a:Nat}{xs:List V}{k:Int}{x:V}(h:H a=some (.list xs))(h0:0<=k)(hx:xs[k.toNat]? = some x)(kk:Q x H):Hb (.ref a) (.int k) H Q:=Eq.mpr (Bz h h0 hx) kk
theorem Qr{a:Nat}{xs:List V}{k:Int}{x:V}(h:H a=some (.tuple xs))(h0:0<=k)(hx:xs[k.toNat]? = some x):Hb (.ref a) (.int k) H Q=Q x H:=by
 have hlt:=(List.getElem?_eq_some_iff.mp hx).1
 have:Di k xs.length=some k.toNat:=by delta Di;rw[if_pos h0,if_pos (Q3 hlt)]
 delta Hb;(try dsimp only[Ap]);rw[h];(try dsimp only);rw[this];(try dsimp only[Fy]);rw[hx]
theorem Ms{a:Nat}{xs:List V}{k:Int}{x:V}(h:H a=some (.tuple xs))(h0:0<=k)(hx:xs[k.toNat]? = some x)(kk:Q x H):Hb (.ref a) (.int k) H Q:=Eq.mpr (Qr h h0 hx) kk
theorem C0{a:Nat}{xs:List V}{v:V}(h:H a=some (.list xs))(hl:xs.length<1048576):Jz .append (.ref a) [v] H Q=Q .none (upd H a (.list (xs ++ [v]))):=by
 delta Jz;dsimp only;(first|delta Ge|delta Jc|delta E7|delta Jd|delta Gf);(try dsimp only[A2,Ap,We,Oj,Ux]);rw[h];(try dsimp only[Hm,Xr]);exact propext ⟨fun h=>h.2,fun q=>⟨hl,q⟩⟩
theorem Xf{a:Nat}{xs:List V}{v:V}(h:H a=some (.list xs))(hl:xs.length<1048576)(kk:Q .none (upd H a (.list (xs ++ [v])))):Jz .append (.ref a) [v] H Q:=Eq.mpr (C0 h hl) kk
theorem Cp{a:Nat}{xs:List V}{m:LM}(h:H a=some (.list xs))(hm:m≠ .setdefault/\m≠ .split/\m≠ .join):M0 m (.ref a) H=True:=by
 cases m<;>first|exact absurd rfl hm.1|exact absurd rfl hm.2.1|exact absurd rfl hm.2.2|(delta M0;dsimp only[A2];rw[h];exact propext ⟨fun _=>trivial,fun _=>trivial⟩)
theorem Lf{a:Nat}{xs:List V}{K:List It->(AH->Prop)->AH->Prop}(h:H a=some (.list xs)):Ln (.ref a) H K=K (xs.map .v) (fun H'=>H' a=some (.list xs)) H:=by delta Ln;(try dsimp only[A2]);rw[h]
theorem B6{a:Nat}{xs:List V}{K:List It->(AH->Prop)->AH->Prop}(h:H a=some (.list xs))(kk:K (xs.map .v) (fun H'=>H' a=some (.list xs)) H):Ln (.ref a) H K:=Eq.mpr (Lf h) kk
theorem Qs{a:Nat}{xs:List V}{K:List It->(AH->Prop)->AH->Prop}(h:H a=some (.list xs)):K1 (.ref a) H K=K (xs.mapIdx fun i x=> .pair (.int i) x) (fun H'=>H' a=some (.list xs)) H:=by delta K1;(try dsimp only[A2]);rw[h];rfl
theorem Aar{a:Nat}{xs:List V}{K:List It->(AH->Prop)->AH->Prop}(h:H a=some (.list xs))(kk:K (xs.mapIdx fun i x=> .pair (.int i) x) (fun H'=>H' a=some (.list xs)) H):K1 (.ref a) H K:=Eq.mpr (Qs h) kk
theorem Afc{a:Nat}{xs:List V}{K:List It->(AH->Prop)->AH->Prop}(h:H a=some (.list xs)):O4 (.ref a) H K=K (xs.reverse.map .v) (fun H'=>H' a=some (.list xs)) H:=by delta O4;(try dsimp only[A2]);rw[h];rfl
theorem Ada{a:Nat}{xs:List V}{K:List It->(AH->Prop)->AH->Prop}(h:H a=some (.list xs))(kk:K (xs.reverse.map .v) (fun H'=>H' a=some (.list xs)) H):O4 (.ref a) H K:=Eq.mpr (Afc h) kk
theorem Ae{α:Type}{a:α}{l:List α}:(a::l)[0]? = some a:=rfl
theorem Ai{α:Type}{a:α}{l:List α}{i:Nat}:(a::l)[i+1]? = l[i]?:=rfl
theorem Av{α:Type}{a:α}{l m:List α}:(a::l)++m=a::(l++m):=rfl
theorem Aw{α:Type}{l:List α}:[]++l=l:=rfl
theorem Ar{α:Type}{a b:α}{l:List α}{i:Nat}:(a::l).set (i+1) b=a::l.set i b:=rfl
theorem Au{α:Type}{a b:α}{l:List α}:(a::l).set 0 b=b::l:=rfl
theorem A0{α:Type}{a:α}:(some a).isSome=true:=rfl
theorem Ag{f:Str}{d:Fn}{args:List V}(h:G.fn f=some d)(ha:d.arity=args.length)
 (q:B0 G (Ad G n) d.body (args.map some++List.replicate (d.slots-d.arity) none) H (fun _ H=>Q .none H) Q E):Ad G (n+1) f args H Q E:=by
 show (match G.fn f with|some d=>_|none=>False)
 rw[h]
 exact⟨ha,q⟩
theorem Ci{t:X}{a b:List S}(c:Bool)(h:∀Q':Af,Q' (.bool c) H->Am G C t ρ H Q' E)(q:if c then B0 G C a ρ H N R E else B0 G C b ρ H N R E):wpS G C (.ite t a b) ρ H N R E:=by
 refine Fm ?_
 exact h _ q
set_option linter.all false
variable {G:Ax} {n:Nat} {H H':AH} {Q:Af} {E:EP} {C:CS} {ρ:Aj}
noncomputable def Ak(H H':AH):Prop:=∀a o,H a=some o->H' a=some o
theorem Ak.refl:Ak H H:=fun _ _ e=>e
theorem Ak.trans{H'':AH}(h:Ak H H')(h':Ak H' H''):Ak H H'':=fun a o e=>h' a o (h a o e)
theorem Ab{a:Nat}{o:O}:upd H a o a=some o:=by simp[upd]
theorem upd_ne{a b:Nat}{o:O}(h:b≠a):upd H a o b=H b:=if_neg h
theorem Ak.upd{a:Nat}{o:O}(h:H a=none):Ak H (upd H a o):=fun b o' e=>by
 rw[upd_ne];exact e
 rintro rfl;rw[h]at e;cases e
theorem Ak.isNone(h:Ak H H'){a:Nat}(e:H' a=none):H a=none:=by
 cases q:H a with
 | none=>rfl
 | some o=>rw[h a o q]at e;cases e
theorem Ak.upd'{a:Nat}{o:O}(h:Ak H H')(e:H a=none):Ak H (Mine.Internal.upd H' a o):=fun b o' q=>by
 rw[upd_ne];exact h b o' q
 rintro rfl;rw[e]at q;cases q
noncomputable def LI(H:AH)(a:Nat)(l:List Int):Prop:=H a=some (.list (l.map V.int))
theorem LI.ext{a:Nat}{l:List Int}(h:LI H a l)(e:Ak H H'):LI H' a l:=e _ _ h
noncomputable def D2(H:AH)(as:List Nat)(rows:List (List Int)):Prop:=as.length=rows.length/\∀(i x:Nat) (r:List Int),as[i]? = some x->rows[i]? = some r->LI H x r
theorem D2.ext{as:List Nat}{rows:List (List Int)}(h:D2 H as rows)(e:Ak H H'):D2 H' as rows:=⟨h.1,fun i x r h1 h2=>(h.2 i x r h1 h2).ext e⟩
theorem D2.snoc{as:List Nat}{rows:List (List Int)}{x:Nat}{r:List Int}(h:D2 H as rows)(hx:LI H x r):D2 H (as ++ [x]) (rows ++ [r]):=by
 refine⟨by simp[h.1],fun i y r' h1 h2=>?_⟩
 cases Nat.lt_or_ge i as.length with
 | inl q=>
   rw[List.getElem?_append_left q]at h1
   rw[List.getElem?_append_left (by rw[<-h.1];exact q)]at h2
   exact h.2 i y r' h1 h2
 | inr q=>
   rw[List.getElem?_append_right q]at h1
   rw[List.getElem?_append_right (by rw[<-h.1];exact q)]at h2
   have:i-as.length=0:=by
    obtain⟨z,_⟩:=List.getElem?_eq_some_iff.mp h1
    simp at z;exact z
   rw[this]at h1
   rw[<-h.1,this]at h2
   simp at h1 h2
   subst h1 h2
   exact hx
theorem Ie{g:AH->Prop}{t:Rc}{body:Aj->AH->(Aj->AH->Prop)->Prop}{N:Aj->AH->Prop}(I:Nat->Aj->AH->Prop):∀ {its:List It} {k:Nat} {ρ:Aj} {H:AH},I k ρ H->
 (∀i x ρ H K,its[i]? = some x->I (k+i) ρ H->(∀ρ'' H'',I (k+i+1) ρ'' H''->K ρ'' H'')->g H/\J0 t x ρ H fun ρ'=>body ρ' H K)->(∀ρ H,I (k+its.length) ρ H->g H/\N ρ H)->Dx g t body N its ρ H:=by
 intro its
 induction its with
 | nil=>intro k ρ H h0 _ fin;exact fin ρ H h0
 | cons x r ih=>
   intro k ρ H h0 step fin
   refine step 0 x ρ H _ rfl h0 fun ρ'' H'' h1=>?_
   refine ih (k:=k+1) h1 (fun i y ρ H K hy hI hK=>?_) fun ρ H hI=>?_
   ·refine step (i+1) y ρ H K hy (by rwa[show k+(i+1)=k+1+i by exact Q5]) fun ρ'' H'' h=>hK ρ'' H'' ?_
    rwa[show k+1+i+1=k+(i+1)+1 by exact Q6]
   ·exact fin ρ H (by rwa[List.length_cons,show k+(r.length+1)=k+1+r.length by exact Q5])
theorem Uf{m:Nat}{a:Int}{t:Nat}{body:Aj->AH->(Aj->AH->Prop)->Prop}{N:Aj->AH->Prop}(I:Nat->Aj->AH->Prop)(h0:I 0 ρ H)
 (step:∀i ρ H K,i<m->I i ρ H->(∀ρ'' H'',I (i+1) ρ'' H''->K ρ'' H'')->body (ρ.set t (some (.int (a+i)))) H K) (fin:∀ρ H,I m ρ H->N ρ H) :
 Dx (fun _=>True) (.one t) body N ((List.range m).map fun(i:Nat)=> .v (.int (a+i))) ρ H:=by
 refine Ie (k:=0) I h0 (fun i x ρ H K hx hI hK=>⟨trivial,?_⟩) fun ρ H hI=>⟨trivial,fin ρ H (by simpa using hI)⟩
 rw[List.getElem?_map]at hx
 obtain⟨j,hj,rfl⟩:=Option.map_eq_some_iff.mp hx
 obtain⟨hlt,he⟩:=List.getElem?_eq_some_iff.mp hj
 simp at hlt he
 subst he
 exact step i ρ H K hlt (by simpa using hI) fun ρ'' H'' h=>hK ρ'' H'' (by simpa using h)
theorem Dk{m:Nat}{t:Nat}{body:Aj->AH->(Aj->AH->Prop)->Prop}{N:Aj->AH->Prop}(I:Nat->Aj->AH->Prop)(h0:I 0 ρ H)
 (step:∀i ρ H K,i<m->I i ρ H->(∀ρ'' H'',I (i+1) ρ'' H''->K ρ'' H'')->body (ρ.set t (some (.int i))) H K) (fin:∀ρ H,I m ρ H->N ρ H) :
 Dx (fun _=>True) (.one t) body N ((List.range m).map fun(i:Nat)=> .v (.int i)) ρ H:=by
 have:=Uf (a:=0) (t:=t) (body:=body) (N:=N) I h0 (fun i ρ H K hi hI hK=>by simpa using step i ρ H K hi hI hK) fin
 simpa using this
theorem Dv{α0:Type}{m:Nat}{t:Nat}{body:Aj->AH->(Aj->AH->Prop)->Prop}{N:Aj->AH->Prop}(f:Nat->α0->Aj)(T:Nat->α0->AH->Prop)(x0:α0)(hρ:ρ=f 0 x0)(h0:T 0 x0 H)(step:∀i y0 H K,i<m->T i y0 H->(∀z0 H'',T (i+1) z0 H''->K (f (i+1) z0) H'')->body ((f i y0).set t (some (.int i))) H K)(fin:∀x0 H,T m x0 H->N (f m x0) H):Dx (fun _=>True) (.one t) body N ((List.range m).map fun(i:Nat)=> .v (.int i)) ρ H:=by
 refine Dk (fun i ρ H=>∃x0,ρ=f i x0/\T i x0 H) ⟨x0,hρ,h0⟩ (fun i _ H K hx h hK=>?_) fun _ H h=>?_
 ·obtain⟨y0,rfl,h⟩:=h;exact step i y0 H K hx h fun z0 H'' h'=>hK _ _ ⟨z0,rfl,h'⟩
 ·obtain⟨x0,rfl,h⟩:=h;exact fin _ _ h
theorem Ov{α0 α1:Type}{m:Nat}{t:Nat}{body:Aj->AH->(Aj->AH->Prop)->Prop}{N:Aj->AH->Prop}(f:Nat->α0->α1->Aj)(T:Nat->α0->α1->AH->Prop)(x0:α0)(x1:α1)(hρ:ρ=f 0 x0 x1)(h0:T 0 x0 x1 H)(step:∀i y0 y1 H K,i<m->T i y0 y1 H->(∀z0 z1 H'',T (i+1) z0 z1 H''->K (f (i+1) z0 z1) H'')->body ((f i y0 y1).set t (some (.int i))) H K)(fin:∀x0 x1 H,T m x0 x1 H->N (f m x0 x1) H):Dx (fun _=>True) (.one t) body N ((List.range m).map fun(i:Nat)=> .v (.int i)) ρ H:=
 Dv (fun i p=>f i p.1 p.2) (fun i p=>T i p.1 p.2) (x0,x1) hρ h0 (fun i p H K hx h hK=>step i p.1 p.2 H K hx h fun z0 z1 H' h'=>hK (z0,z1) H' h') fun p=>fin p.1 p.2
theorem Ow{α0 α1 α2 α3:Type}{m:Nat}{t:Nat}{body:Aj->AH->(Aj->AH->Prop)->Prop}{N:Aj->AH->Prop}(f:Nat->α0->α1->α2->α3->Aj)(T:Nat->α0->α1->α2->α3->AH->Prop)(x0:α0)(x1:α1)(x2:α2)(x3:α3)(hρ:ρ=f 0 x0 x1 x2 x3)(h0:T 0 x0 x1 x2 x3 H)(step:∀i y0 y1 y2 y3 H K,i<m->T i y0 y1 y2 y3 H->(∀z0 z1 z2 z3 H'',T (i+1) z0 z1 z2 z3 H''->K (f (i+1) z0 z1 z2 z3) H'')->body ((f i y0 y1 y2 y3).set t (some (.int i))) H K)(fin:∀x0 x1 x2 x3 H,T m x0 x1 x2 x3 H->N (f m x0 x1 x2 x3) H):Dx (fun _=>True) (.one t) body N ((List.range m).map fun(i:Nat)=> .v (.int i)) ρ H:=
 Dv (fun i p=>f i p.1 p.2.1 p.2.2.1 p.2.2.2) (fun i p=>T i p.1 p.2.1 p.2.2.1 p.2.2.2) (x0,x1,x2,x3) hρ h0 (fun i p H K hx h hK=>step i p.1 p.2.1 p.2.2.1 p.2.2.2 H K hx h fun z0 z1 z2 z3 H' h'=>hK (z0,z1,z2,z3) H' h') fun p=>fin p.1 p.2.1 p.2.2.1 p.2.2.2
theorem Ox{α0 α1 α2 α3 α4:Type}{m:Nat}{t:Nat}{body:Aj->AH->(Aj->AH->Prop)->Prop}{N:Aj->AH->Prop}(f:Nat->α0->α1->α2->α3->α4->Aj)(T:Nat->α0->α1->α2->α3->α4->AH->Prop)(x0:α0)(x1:α1)(x2:α2)(x3:α3)(x4:α4)(hρ:ρ=f 0 x0 x1 x2 x3 x4)(h0:T 0 x0 x1 x2 x3 x4 H)(step:∀i y0 y1 y2 y3 y4 H K,i<m->T i y0 y1 y2 y3 y4 H->(∀z0 z1 z2 z3 z4 H'',T (i+1) z0 z1 z2 z3 z4 H''->K (f (i+1) z0 z1 z2 z3 z4) H'')->body ((f i y0 y1 y2 y3 y4).set t (some (.int i))) H K)(fin:∀x0 x1 x2 x3 x4 H,T m x0 x1 x2 x3 x4 H->N (f m x0 x1 x2 x3 x4) H):Dx (fun _=>True) (.one t) body N ((List.range m).map fun(i:Nat)=> .v (.int i)) ρ H:=
 Dv (fun i p=>f i p.1 p.2.1 p.2.2.1 p.2.2.2.1 p.2.2.2.2) (fun i p=>T i p.1 p.2.1 p.2.2.1 p.2.2.2.1 p.2.2.2.2) (x0,x1,x2,x3,x4) hρ h0 (fun i p H K hx h hK=>step i p.1 p.2.1 p.2.2.1 p.2.2.2.1 p.2.2.2.2 H K hx h fun z0 z1 z2 z3 z4 H' h'=>hK (z0,z1,z2,z3,z4) H' h') fun p=>fin p.1 p.2.1 p.2.2.1 p.2.2.2.1 p.2.2.2.2
theorem Oy{α0 α1 α2 α3 α4 α5 α6 α7:Type}{m:Nat}{t:Nat}{body:Aj->AH->(Aj->AH->Prop)->Prop}{N:Aj->AH->Prop}(f:Nat->α0->α1->α2->α3->α4->α5->α6->α7->Aj)(T:Nat->α0->α1->α2->α3->α4->α5->α6->α7->AH->Prop)(x0:α0)(x1:α1)(x2:α2)(x3:α3)(x4:α4)(x5:α5)(x6:α6)(x7:α7)(hρ:ρ=f 0 x0 x1 x2 x3 x4 x5 x6 x7)(h0:T 0 x0 x1 x2 x3 x4 x5 x6 x7 H)(step:∀i y0 y1 y2 y3 y4 y5 y6 y7 H K,i<m->T i y0 y1 y2 y3 y4 y5 y6 y7 H->(∀z0 z1 z2 z3 z4 z5 z6 z7 H'',T (i+1) z0 z1 z2 z3 z4 z5 z6 z7 H''->K (f (i+1) z0 z1 z2 z3 z4 z5 z6 z7) H'')->body ((f i y0 y1 y2 y3 y4 y5 y6 y7).set t (some (.int i))) H K)(fin:∀x0 x1 x2 x3 x4 x5 x6 x7 H,T m x0 x1 x2 x3 x4 x5 x6 x7 H->N (f m x0 x1 x2 x3 x4 x5 x6 x7) H):Dx (fun _=>True) (.one t) body N ((List.range m).map fun(i:Nat)=> .v (.int i)) ρ H:=
 Dv (fun i p=>f i p.1 p.2.1 p.2.2.1 p.2.2.2.1 p.2.2.2.2.1 p.2.2.2.2.2.1 p.2.2.2.2.2.2.1 p.2.2.2.2.2.2.2) (fun i p=>T i p.1 p.2.1 p.2.2.1 p.2.2.2.1 p.2.2.2.2.1 p.2.2.2.2.2.1 p.2.2.2.2.2.2.1 p.2.2.2.2.2.2.2) (x0,x1,x2,x3,x4,x5,x6,x7) hρ h0 (fun i p H K hx h hK=>step i p.1 p.2.1 p.2.2.1 p.2.2.2.1 p.2.2.2.2.1 p.2.2.2.2.2.1 p.2.2.2.2.2.2.1 p.2.2.2.2.2.2.2 H K hx h fun z0 z1 z2 z3 z4 z5 z6 z7 H' h'=>hK (z0,z1,z2,z3,z4,z5,z6,z7) H' h') fun p=>fin p.1 p.2.1 p.2.2.1 p.2.2.2.1 p.2.2.2.2.1 p.2.2.2.2.2.1 p.2.2.2.2.2.2.1 p.2.2.2.2.2.2.2
theorem Gb{a:Nat}{xs:List V}{t:Nat}{body:Aj->AH->(Aj->AH->Prop)->Prop}{N:Aj->AH->Prop}(I:Nat->Aj->AH->Prop)(h0:I 0 ρ H)(hg:∀i ρ H,I i ρ H->H a=some (.list xs))
 (step:∀i x ρ H K,xs[i]? = some x->I i ρ H->(∀ρ'' H'',I (i+1) ρ'' H''->K ρ'' H'')->body (ρ.set t (some x)) H K) (fin:∀ρ H,I xs.length ρ H->N ρ H) :
 Dx (fun H=>H a=some (.list xs)) (.one t) body N (xs.map .v) ρ H:=by
 refine Ie (k:=0) I h0 (fun i x ρ H K hx hI hK=>⟨hg _ _ _ hI,?_⟩) fun ρ H hI=>⟨hg _ _ _ hI,fin ρ H (by simpa using hI)⟩
 rw[List.getElem?_map]at hx
 obtain⟨j,hj,rfl⟩:=Option.map_eq_some_iff.mp hx
 exact step i j ρ H K hj (by simpa using hI) fun ρ'' H'' h=>hK ρ'' H'' (by simpa using h)
theorem D8{α0:Type}{a:Nat}{xs:List V}{t:Nat}{body:Aj->AH->(Aj->AH->Prop)->Prop}{N:Aj->AH->Prop}(f:Nat->α0->Aj)(T:Nat->α0->AH->Prop)(x0:α0)(hρ:ρ=f 0 x0)(h0:T 0 x0 H)(hg:∀i x0 H,T i x0 H->H a=some (.list xs))(step:∀i x y0 H K,xs[i]? = some x->T i y0 H->(∀z0 H'',T (i+1) z0 H''->K (f (i+1) z0) H'')->body ((f i y0).set t (some x)) H K)(fin:∀x0 H,T xs.length x0 H->N (f xs.length x0) H):Dx (fun H=>H a=some (.list xs)) (.one t) body N (xs.map .v) ρ H:=by
 refine Gb (fun i ρ H=>∃x0,ρ=f i x0/\T i x0 H) ⟨x0,hρ,h0⟩ (fun i _ H h=>?_) (fun i x _ H K hx h hK=>?_) fun _ H h=>?_
 ·obtain⟨x0,_,h⟩:=h;exact hg _ _ _ h
 ·obtain⟨y0,rfl,h⟩:=h;exact step i x y0 H K hx h fun z0 H'' h'=>hK _ _ ⟨z0,rfl,h'⟩
 ·obtain⟨x0,rfl,h⟩:=h;exact fin _ _ h
theorem L8{α0 α1:Type}{a:Nat}{xs:List V}{t:Nat}{body:Aj->AH->(Aj->AH->Prop)->Prop}{N:Aj->AH->Prop}(f:Nat->α0->α1->Aj)(T:Nat->α0->α1->AH->Prop)(x0:α0)(x1:α1)(hρ:ρ=f 0 x0 x1)(h0:T 0 x0 x1 H)(hg:∀i x0 x1 H,T i x0 x1 H->H a=some (.list xs))(step:∀i x y0 y1 H K,xs[i]? = some x->T i y0 y1 H->(∀z0 z1 H'',T (i+1) z0 z1 H''->K (f (i+1) z0 z1) H'')->body ((f i y0 y1).set t (some x)) H K)(fin:∀x0 x1 H,T xs.length x0 x1 H->N (f xs.length x0 x1) H):Dx (fun H=>H a=some (.list xs)) (.one t) body N (xs.map .v) ρ H:=
 D8 (fun i p=>f i p.1 p.2) (fun i p=>T i p.1 p.2) (x0,x1) hρ h0 (fun i p=>hg i p.1 p.2) (fun i x p H K hx h hK=>step i x p.1 p.2 H K hx h fun z0 z1 H' h'=>hK (z0,z1) H' h') fun p=>fin p.1 p.2
theorem Sw{α0 α1 α2:Type}{a:Nat}{xs:List V}{t:Nat}{body:Aj->AH->(Aj->AH->Prop)->Prop}{N:Aj->AH->Prop}(f:Nat->α0->α1->α2->Aj)(T:Nat->α0->α1->α2->AH->Prop)(x0:α0)(x1:α1)(x2:α2)(hρ:ρ=f 0 x0 x1 x2)(h0:T 0 x0 x1 x2 H)(hg:∀i x0 x1 x2 H,T i x0 x1 x2 H->H a=some (.list xs))(step:∀i x y0 y1 y2 H K,xs[i]? = some x->T i y0 y1 y2 H->(∀z0 z1 z2 H'',T (i+1) z0 z1 z2 H''->K (f (i+1) z0 z1 z2) H'')->body ((f i y0 y1 y2).set t (some x)) H K)(fin:∀x0 x1 x2 H,T xs.length x0 x1 x2 H->N (f xs.length x0 x1 x2) H):Dx (fun H=>H a=some (.list xs)) (.one t) body N (xs.map .v) ρ H:=
 D8 (fun i p=>f i p.1 p.2.1 p.2.2) (fun i p=>T i p.1 p.2.1 p.2.2) (x0,x1,x2) hρ h0 (fun i p=>hg i p.1 p.2.1 p.2.2) (fun i x p H K hx h hK=>step i x p.1 p.2.1 p.2.2 H K hx h fun z0 z1 z2 H' h'=>hK (z0,z1,z2) H' h') fun p=>fin p.1 p.2.1 p.2.2
theorem Sx{α0 α1 α2 α3:Type}{a:Nat}{xs:List V}{t:Nat}{body:Aj->AH->(Aj->AH->Prop)->Prop}{N:Aj->AH->Prop}(f:Nat->α0->α1->α2->α3->Aj)(T:Nat->α0->α1->α2->α3->AH->Prop)(x0:α0)(x1:α1)(x2:α2)(x3:α3)(hρ:ρ=f 0 x0 x1 x2 x3)(h0:T 0 x0 x1 x2 x3 H)(hg:∀i x0 x1 x2 x3 H,T i x0 x1 x2 x3 H->H a=some (.list xs))(step:∀i x y0 y1 y2 y3 H K,xs[i]? = some x->T i y0 y1 y2 y3 H->(∀z0 z1 z2 z3 H'',T (i+1) z0 z1 z2 z3 H''->K (f (i+1) z0 z1 z2 z3) H'')->body ((f i y0 y1 y2 y3).set t (some x)) H K)(fin:∀x0 x1 x2 x3 H,T xs.length x0 x1 x2 x3 H->N (f xs.length x0 x1 x2 x3) H):Dx (fun H=>H a=some (.list xs)) (.one t) body N (xs.map .v) ρ H:=
 D8 (fun i p=>f i p.1 p.2.1 p.2.2.1 p.2.2.2) (fun i p=>T i p.1 p.2.1 p.2.2.1 p.2.2.2) (x0,x1,x2,x3) hρ h0 (fun i p=>hg i p.1 p.2.1 p.2.2.1 p.2.2.2) (fun i x p H K hx h hK=>step i x p.1 p.2.1 p.2.2.1 p.2.2.2 H K hx h fun z0 z1 z2 z3 H' h'=>hK (z0,z1,z2,z3) H' h') fun p=>fin p.1 p.2.1 p.2.2.1 p.2.2.2
theorem Cv{g:AH->Prop}{elt:Aj->AH->(Option V->AH->Prop)->Prop}{Q:List V->AH->Prop}(I:Nat->List V->AH->Prop):∀ {its:List It} {k:Nat} {acc:List V} {y:Option V} {H:AH},I k acc H->
 (∀i x acc H K,its[i]? = some x->I (k+i) acc H->(∀o H'',I (k+i+1) (match o with|some v=>acc ++ [v]|none=>acc) H''->K o H'')->g H/\∃v,x = .v v/\elt (some v::ρ) H K)->
 (∀acc H,I (k+its.length) acc H->g H/\Q acc H)->Ce g (.one 0) elt Q its acc (y::ρ) H:=by
 intro its
 induction its with
 | nil=>intro k acc y H h0 _ fin;exact fin acc H h0
 | cons x r ih=>
   intro k acc y H h0 step fin
   obtain⟨g1,v,rfl,h⟩:=step 0 x acc H (fun o H''=>Ce g (.one 0) elt Q r (match o with|some v=>acc ++ [v]|none=>acc) (some (match x with | .v v=>v|_=> .none)::ρ) H'') rfl h0 fun o H'' h1=>by
    refine ih (k:=k+1) h1 (fun i y acc H K hy hI hK=>?_) fun acc H hI=>?_
    ·refine step (i+1) y acc H K hy (by rwa[show k+(i+1)=k+1+i by exact Q5]) fun o H'' h=>hK o H'' ?_
     rwa[show k+1+i+1=k+(i+1)+1 by exact Q6]
    ·exact fin acc H (by rwa[List.length_cons,show k+(r.length+1)=k+1+r.length by exact Q5])
   exact⟨g1,h⟩
theorem Ig{m:Nat}{elt:Aj->AH->(Option V->AH->Prop)->Prop}{P:Nat->List Int->Prop}{Q:List V->AH->Prop}{y:Option V}
 (step:∀i H' K,i<m->Ak H H'->(∀x r H'',Ak H' H''->LI H'' x r->P i r->K (some (.ref x)) H'')->elt (some (.int i)::ρ) H' K)
 (fin:∀as rows H',Ak H H'->D2 H' as rows->rows.length=m->(∀(i:Nat) r,rows[i]? = some r->P i r)->Q (as.map V.ref) H') :
 Ce (fun _=>True) (.one 0) elt Q ((List.range m).map fun(i:Nat)=> .v (.int i)) [] (y::ρ) H:=by
 refine Cv (k:=0) (fun i acc H'=>(Ho fun as rows=>Xq (acc=as.map V.ref) (Ak H H') (D2 H' as rows) (rows.length=i) (∀(i:Nat) r,rows[i]? = some r->P i r))) ⟨[],[],rfl,Ak.refl,⟨rfl,fun i x r h=>by simp at h⟩,rfl,fun i r h=>by simp at h⟩ ?_ ?_
 ·rintro i x acc H' K hx ⟨as,rows,rfl,h1,h2,h3,h4⟩ hK
  rw[List.getElem?_map]at hx
  obtain⟨j,hj,rfl⟩:=Option.map_eq_some_iff.mp hx
  obtain⟨hlt,he⟩:=List.getElem?_eq_some_iff.mp hj
  simp at hlt he
  subst he
  refine⟨trivial,_,rfl,step i H' K hlt h1 fun x r H'' e1 e2 e3=>hK _ _ ⟨as ++ [x],rows ++ [r],by simp,h1.trans e1,(h2.ext e1).snoc e2,by simp[h3],fun k r' hr=>?_⟩⟩
  cases Nat.lt_or_ge k rows.length with
  | inl q=>rw[List.getElem?_append_left q]at hr;exact h4 k r' hr
  | inr q=>
    rw[List.getElem?_append_right q]at hr
    have:k-rows.length=0:=by
     obtain⟨z,_⟩:=List.getElem?_eq_some_iff.mp hr
     simp at z;exact z
    rw[this]at hr
    simp at hr
    subst hr
    have:k=i:=(Q7 h3 q this)
    subst this
    exact e3
 ·rintro acc H' ⟨as,rows,rfl,h1,h2,h3,h4⟩
  exact⟨trivial,fin as rows H' h1 h2 (by simpa using h3) h4⟩
noncomputable def L9(k:Nat)(r:List Int):Prop:=r.length<=k/\∀x∈r,0<=x/\x<k
noncomputable def Wf(m:Nat)(rows:List (List Int)):Prop:=rows.length=m/\∀(k:Nat) r,rows[k]? = some r->L9 k r
noncomputable def Kq(H:AH)(m:Nat)(Q:Af):Prop:=∀a as rows H',Ak H H'->H a=none->H' a=some (.list (as.map V.ref))->D2 H' as rows->Wf m rows->Q (.ref a) H'
theorem Ih{k:Nat}{a:Int}{c:Nat}(h0:0<=a)(h:a+c<=k):L9 k ((List.range c).map fun(i:Nat)=>a+i):=by
 refine⟨by simp;exact(Int.ofNat_le.mp (Int.le_trans (Int.le_add_of_nonneg_left h0) h)),fun x hx=>?_⟩
 obtain⟨i,hi,rfl⟩:=List.mem_map.mp hx
 simp at hi
 exact⟨Int.add_nonneg h0 (Int.natCast_nonneg _),Int.lt_of_lt_of_le (Int.add_lt_add_left (Int.ofNat_lt.mpr hi) _) h⟩
theorem Xg(c:Nat):(List.range c).map (fun(i:Nat)=>V.int i)=((List.range c).map fun(i:Nat)=>(0:Int)+i).map V.int:=by simp
theorem N8(a:Int)(c:Nat):(List.range c).map (fun(i:Nat)=>V.int (a+i))=((List.range c).map fun(i:Nat)=>a+i).map V.int:=(List.map_map).symm
noncomputable def cell(ns:List Int)(k:Nat):Int:=ns.getD k 0
theorem De(hG:G.fn "_law_cell_at" = some Ck){ns:List Int}{k:Int}(hk:0<=k)(q:Q (.int (cell ns k.toNat)) H):Ad G (n+1) "_law_cell_at" [.script ns,.int k] H Q E:=by
 refine Ag hG rfl ?_
 simp (disch:=first|decide|omega) only[Za,Ze,Zg,Zm,Zq,Zs,Zw,Zx,Z0,Z2,Z3,Bb,Az,Bq,List.map,Av,Aw,Ae,Ai,Ck]
 split
 ·rename_i h
  simp only[decide_eq_true_eq]at h
  have hlt:k.toNat<ns.length:=(Q10 hk h)
  have h1:Di k ns.length=some k.toNat:=by delta Di;rw[if_pos hk,if_pos h]
  have h2:ns[k.toNat]? = some (cell ns k.toNat):=by
   unfold cell;rw[List.getD_eq_getElem?_getD,List.getElem?_eq_getElem hlt];rfl
  delta Hb;(try dsimp only[Ap]);rw[h1];(try dsimp only[Fy]);rw[h2]
  exact q
 ·rename_i h
  simp only[decide_eq_true_eq]at h
  have:cell ns k.toNat=0:=by
   unfold cell;rw[List.getD_eq_getElem?_getD,List.getElem?_eq_none (Int.ofNat_le.mp (Int.le_trans (Int.not_lt.mp h) (Int.self_le_toNat _)))];rfl
  rw[this]at q
  exact q
theorem Mt(hG:G.fn "_law_mixed" = some Ed){c k:Int}(q:∀m,0<=m->m<1000003->Q (.int m) H):Ad G (n+1) "_law_mixed" [.int c,.int k] H Q E:=by
 refine Ag hG rfl ?_
 simp (disch:=first|decide|omega) only[Ze,Zg,Zl,Z0,Z2,Z3,Z6,Z8,List.map,Av,Aw,Ae,Ai,Ed,Aaq]
 refine⟨.inl (by decide),.inr (by decide),?_⟩
 exact q _ (Int.emod_nonneg _ (by decide)) (by exact(Int.emod_lt_of_pos _ (by decide)))
theorem Afd(hc:G.fn "_law_cell_at" = some Ck)(hG:G.fn "_law_many" = some Fp){ns:List Int}(q:∀m:Nat,m<=60->Q (.int m) H):Ad G (n+2) "_law_many" [.script ns] H Q E:=by
 refine Ag hG rfl ?_
 have q':∀m:Int,0<=m->m<=60->Q (.int m) H:=fun m h1 h2=>by
  have:=q m.toNat (Int.toNat_le.mpr h2)
  rwa[show ((m.toNat:Nat):Int)=m by exact Q15 h1]at this
 simp (disch:=first|decide|omega) only[Za,Ze,Zg,Zl,Zm,Zp,Zw,Zx,Zy,Z0,Z2,Z3,List.map,Av,Aw,Ae,Ai,List.replicate,Ar,Au,A0,true_and,Fp,hc]
 refine De hc (by decide) ?_
 simp (disch:=first|decide|omega) only[Z6,Z7,Z8,Ba,Az]
 split
 ·exact q' _ (Int.emod_nonneg _ (by decide)) (Int.le_of_lt_add_one (Int.emod_lt_of_pos _ (by decide)))
 ·split
  ·exact q' _ (Int.add_nonneg (by decide) (Int.emod_nonneg _ (by decide))) Q19
  ·exact q' _ (Int.emod_nonneg _ (by decide)) (Int.le_trans (Int.le_of_lt (Int.emod_lt_of_pos _ (by decide:(0:Int)<9))) (by decide))
noncomputable def Bd(ns:List Int)(m k:Int):Int:=if cell ns 1%2=1 then(cell ns 1/2-k)%m else(cell ns 1/2+k)%m
theorem Pq{ns:List Int}{m k:Int}(h:0<m):0<=Bd ns m k/\Bd ns m k<m:=by
 unfold Bd
 split
 ·exact⟨Int.emod_nonneg _ (Int.ne_of_gt h),Int.emod_lt_of_pos _ h⟩
 ·exact⟨Int.emod_nonneg _ (Int.ne_of_gt h),Int.emod_lt_of_pos _ h⟩
theorem Sy{x y m:Int}(hm:0<m)(h:x%m=y%m)(h1:x-y<m)(h2:y-x<m):x=y:=by
 have e:=Int.emod_emod_of_dvd x (Int.dvd_refl m)
 have h3:(x-y)%m=0:=by rw[Int.sub_emod,h,Int.sub_self,Int.zero_emod]
 obtain⟨k,hk⟩:=Int.dvd_of_emod_eq_zero h3
 have:k=0:=by
  rcases Int.lt_trichotomy k 0 with q|q|q
  ·have:m*k<=m*(-1):=Int.mul_le_mul_of_nonneg_left (Int.le_of_lt_add_one q) (Q23 h1 h2)
   exact Q24 h2 hk this
  ·exact q
  ·have:m*1<=m*k:=Int.mul_le_mul_of_nonneg_left (q) (Q23 h1 h2)
   exact Q26 h1 hk this
 subst this
 exact Int.eq_of_sub_eq_zero (hk.trans (Int.mul_zero _))
theorem Ug{ns:List Int}{m j k:Int}(hm:0<m)(hj:0<=j/\j<m)(hk:0<=k/\k<m)(h:Bd ns m j=Bd ns m k):j=k:=by
 unfold Bd at h
 split at h
 ·have:=Sy hm h (Q28 hj.1 hk.2) (Q29 hj.2 hk.1);exact Q30 this
 ·have:=Sy hm h (Q31 hj.2 hk.1) (Q31 hk.2 hj.1);exact Int.add_left_cancel this
theorem Aas(hc:G.fn "_law_cell_at" = some Ck)(hG:G.fn "_law_name" = some Je){ns:List Int}{m k:Int}(hm:0<m)(hm':m<=60)(q:Q (.int (Bd ns m k)) H):Ad G (n+2) "_law_name" [.script ns,.int m,.int k] H Q E:=by
 refine Ag hG rfl ?_
 simp (disch:=first|decide|omega) only[Za,Ze,Zg,Zl,Zm,Zp,Zw,Zx,Zy,Z0,Z2,Z3,List.map,Av,Aw,Ae,Ai,List.replicate,Ar,Au,A0,true_and,Je,hc]
 refine De hc (by decide) ?_
 simp (disch:=first|decide|omega) only[Z6,Z7,Z8,Z9,Ba,Az]
 unfold Bd at q
 split
 ·rename_i h
  simp only[decide_eq_true_eq]at h
  have h':cell ns 1%2=1:=h
  rw[if_pos h']at q
  exact q
 ·rename_i h
  simp only[decide_eq_true_eq]at h
  have h':¬cell ns 1%2=1:=h
  rw[if_neg h']at q
  exact q
theorem Aat(hG:G.fn "_law_banded" = some Gh){m:Nat}{c:Int}(hm:m<=60)(q:Kq H m Q):Ad G (n+1) "_law_banded" [.int m,.int c] H Q E:=by
 refine Ag hG rfl ?_
 have core:∀z:Int,0<=z->Am G (Ad G n) (.comp 1 (.range [(.var 0)]) Eg) [some (.int m),some (.int c),some (.int z)] H Q E:=by
  intro z hz
  refine grK ?_
  simp (disch:=first|decide|omega) only[Zg,Zw,Zx,Z4,A9,Av,Aw,Ae,List.replicate]
  refine⟨by simp[Cg];exact Q34 hm,Ig (P:=L9) (fun i H' K hi e1 hK=>?_) fun as rows H' e1 h1 h2 h3=>?_⟩
  ·simp (disch:=first|decide|omega) only[Ze,Zg,Zl,Zq,Zw,Zx,Z9,Bj,Bk,Ae,Ai,Eg]
   intro a ha
   rw[N8]
   exact hK a _ _ (Ak.upd ha) Ab (Ih (Int.le_max_left _ _) (Q36 hz))
  ·intro a ha
   exact q a as rows _ (e1.trans (Ak.upd ha)) (e1.isNone ha) Ab (h1.ext (Ak.upd ha)) ⟨h2,h3⟩
 simp (disch:=first|decide|omega) only[Za,Ze,Zg,Zl,Zm,Zy,Z0,Z2,Z3,Z6,Bc,Az,List.map,Av,Aw,Ae,Ai,List.replicate,Ar,Au,Gh]
 split
 ·exact core _ (Int.emod_nonneg _ (by decide))
 ·exact core _ (Int.emod_nonneg _ (by decide))
set_option linter.all false
variable {G:Ax} {n:Nat} {H H':AH} {Q:Af} {E:EP} {C:CS} {ρ:Aj}
theorem Kq.mono{m:Nat}(q:Kq H m Q)(e:Ak H H'):Kq H' m Q:=fun a as rows H'' e1 h1 h2 h3 h4=>q a as rows H'' (e.trans e1) (e.isNone h1) h2 h3 h4
theorem Aau(hG:G.fn "_law_hubbed" = some Gj){m:Nat}{c:Int}(hm:m<=60)(q:Kq H m Q):Ad G (n+1) "_law_hubbed" [.int m,.int c] H Q E:=by
 refine Ag hG rfl ?_
 have core:∀(z:Int) (H':AH),0<=z->z<=1000->Ak H H'->Am G (Ad G n) (.comp 1 (.range [(.var 0)]) Cy) [some (.int m),some (.int c),some (.int z)] H' Q E:=by
  intro z H' hz hz' e
  refine grK ?_
  simp (disch:=first|decide|omega) only[Zg,Zw,Zx,Z4,A9,Av,Aw,Ae,List.replicate]
  refine⟨by simp[Cg];exact Q34 hm,Ig (P:=L9) (fun i H' K hi e1 hK=>?_) fun as rows H' e1 h1 h2 h3=>?_⟩
  ·simp (disch:=first|decide|omega) only[Zg,Zq,Zw,Zx,Br,Bg,Ae,Ai,Cy]
   intro a ha
   rw[Xg]
   exact hK a _ _ (Ak.upd ha) Ab (Ih (by(first|lia|omega)) (by(first|lia|omega)))
  ·intro a ha
   exact q.mono e a as rows _ (e1.trans (Ak.upd ha)) (e1.isNone ha) Ab (h1.ext (Ak.upd ha)) ⟨h2,h3⟩
 simp (disch:=first|decide|omega) only[Za,Ze,Zg,Zl,Zm,Zs,Zu,Zw,Zx,Zy,Z0,Z2,Z3,Z6,Z7,Bc,Az,List.map,Av,Aw,Ae,Ai,List.replicate,Ar,Au,Gj]
 intro a ha
 have key:∀z:Int,0<=z->z<=1000->(if decide (30<(m:Int))=true then Am G (Ad G n) (.comp 1 (.range [(.var 0)]) Cy) [some (.int m),some (.int c),some (.int (z%8))] (upd H a (.list [.int 1,.int 2,.int 3,.int (c/4%30)])) Q E
  else Am G (Ad G n) (.comp 1 (.range [(.var 0)]) Cy) [some (.int m),some (.int c),some (.int z)] (upd H a (.list [.int 1,.int 2,.int 3,.int (c/4%30)])) Q E):=by
  intro z h1 h2
  split
  ·exact core _ _ (Int.emod_nonneg _ (by decide)) (Int.le_trans (Int.le_of_lt (Int.emod_lt_of_pos _ (by decide:(0:Int)<8))) (by decide)) (Ak.upd ha)
  ·exact core _ _ h1 h2 (Ak.upd ha)
 have h4:c%4=0\/c%4=1\/c%4=2\/c%4=3:=Q45
 rcases h4 with h|h|h|h<;>rw[h]
 ·refine Iv (x:= .int 1) Ab (by decide) rfl ?_;simp (disch:=first|decide|omega) only[Z6];exact key _ (by(first|lia|omega)) (by(first|lia|omega))
 ·refine Iv (x:= .int 2) Ab (by decide) rfl ?_;simp (disch:=first|decide|omega) only[Z6];exact key _ (by(first|lia|omega)) (by(first|lia|omega))
 ·refine Iv (x:= .int 3) Ab (by decide) rfl ?_;simp (disch:=first|decide|omega) only[Z6];exact key _ (by(first|lia|omega)) (by(first|lia|omega))
 ·refine Iv (x:= .int (c/4%30)) Ab (by decide) rfl ?_;simp (disch:=first|decide|omega) only[Z6];exact key _ (Int.emod_nonneg _ (by decide)) (Int.le_trans (Int.le_of_lt (Int.emod_lt_of_pos _ (by decide:(0:Int)<30))) (by decide))
structure Kr(H H':AH)(a:Nat)(as:List Nat)(rows:List (List Int)):Prop where
 ext:Ak H H'
 new:H a=none
 at_:H' a=some (.list (as.map V.ref))
 lists:D2 H' as rows
 ne:∀x∈as,x≠a
 ok:∀(k:Nat) r,rows[k]? = some r->L9 k r
theorem Kr.start{a:Nat}(h:H a=none):Kr H (upd H a (.list [])) a [] []:=⟨Ak.upd h,h,Ab,⟨rfl,fun i x r q=>by simp at q⟩,fun x hx=>by simp at hx,fun k r q=>by simp at q⟩
theorem D2.upd{as:List Nat}{rows:List (List Int)}{a:Nat}{o:O}(h:D2 H as rows)(hn:∀x∈as,x≠a):D2 (Mine.Internal.upd H a o) as rows:=⟨h.1,fun i x r h1 h2=>by
 unfold LI
 rw[upd_ne (hn x (List.mem_of_getElem? h1))];exact h.2 i x r h1 h2⟩
theorem Kr.snoc{H₁:AH}{a x:Nat}{as:List Nat}{rows:List (List Int)}{r:List Int}(b:Kr H H' a as rows)(hx:H' x=none)(e:∀y o,y≠x->H' y=some o->H₁ y=some o)(h:LI H₁ x r)(hr:L9 rows.length r) :
 Kr H (upd H₁ a (.list ((as.map V.ref) ++ [.ref x]))) a (as ++ [x]) (rows ++ [r]):=by
 have hxa:x≠a:=fun q=>by rw[q,b.at_]at hx;cases hx
 have hxs:∀y∈as,y≠x:=fun y hy q=>by
  obtain⟨i,hi⟩:=List.mem_iff_getElem?.mp hy
  have hlt:=(List.getElem?_eq_some_iff.mp hi).1
  have:LI H' y (rows[i]'(by rw[<-b.lists.1];exact hlt)):=b.lists.2 i y _ hi (List.getElem?_eq_getElem _)
  rw[q]at this
  unfold LI at this
  rw[hx]at this;cases this
 have hHx:H x=none:=b.ext.isNone hx
 have e1:Ak H H₁:=fun y o q=>e y o (fun z=>by rw[z,hHx]at q;cases q) (b.ext y o q)
 have hr1:D2 H₁ as rows:=⟨b.lists.1,fun i y r' h1 h2=>e y _ (hxs y (List.mem_of_getElem? h1)) (b.lists.2 i y r' h1 h2)⟩
 refine⟨e1.upd' b.new,b.new,by rw[Ab];simp,?_,?_,?_⟩
 ·refine(hr1.snoc h).upd fun y hy=>?_
  rcases List.mem_append.mp hy with hy|hy
  ·exact b.ne y hy
  ·simp at hy;rw[hy];exact hxa
 ·intro y hy
  rcases List.mem_append.mp hy with hy|hy
  ·exact b.ne y hy
  ·simp at hy;rw[hy];exact hxa
 ·intro k r' hk
  cases Nat.lt_or_ge k rows.length with
  | inl q=>rw[List.getElem?_append_left q]at hk;exact b.ok k r' hk
  | inr q=>
    rw[List.getElem?_append_right q]at hk
    have:k-rows.length=0:=by
     obtain⟨z,_⟩:=List.getElem?_eq_some_iff.mp hk
     simp at z;exact z
    rw[this]at hk
    simp at hk
    subst hk
    have:k=rows.length:=(Nat.le_antisymm (Nat.sub_eq_zero_iff_le.mp this) q)
    rw[this];exact hr
theorem Pr(hc:G.fn "_law_cell_at" = some Ck)(hx:G.fn "_law_mixed" = some Ed)(hG:G.fn "_law_earlier" = some Fo){ns:List Int}{m:Nat}{ring:Int}(hm:m<=60)(hr:ring=0\/4<=ring)(q:Kq H m Q) :
 Ad G (n+2) "_law_earlier" [.script ns,.int m,.int ring] H Q E:=by
 refine Ag hG rfl ?_
 simp (disch:=first|decide|omega) only[Zg,Zu,Zw,Zy,Z0,Z2,Z3,List.map,Av,Aw,List.replicate,Ar,Au,Fo]
 intro a ha
 refine frK ?_
 simp (disch:=first|decide|omega) only[Zg,Zw,Zx,A9,Ae,Ai]
 refine Oy (fun i r4 r5 r6 r7 r8 r9 as rows=>[some (.script ns),some (.int m),some (.int ring),some (.ref a),r4,r5,r6,r7,r8,r9]) (fun i r4 r5 r6 r7 r8 r9 as rows H'=>(Kr H H' a as rows)/\(rows.length=i)) none none none none none none [] [] rfl ⟨Kr.start ha,rfl⟩ ?_ ?_
 ·rintro i r4 r5 r6 r7 r8 r9 as rows H' K hi ⟨b,hlen⟩ hK
  have hi':i<m:=hi
  have fin:∀(c:Int) (x:Nat) (r:List Int) (H₁:AH) (r7 r8 r9:Option V),H' x=none->(∀y o,y≠x->H' y=some o->H₁ y=some o)->LI H₁ x r->L9 i r->
   B0 G (Ad G (n+1)) [.expr (.lm .append (.var 3) [(.var 6)])] [some (.script ns),some (.int m),some (.int ring),some (.ref a),some (.int i),some (.int c),some (.ref x),r7,r8,r9] H₁ K Q E:=by
   intro c x r H₁ r7 r8 r9 h1 h2 h3 h4
   have hxa:x≠a:=fun q=>by rw[q,b.at_]at h1;cases h1
   have ha1:H₁ a=some (.list (as.map V.ref)):=h2 a _ (Ne.symm hxa) b.at_
   have hal:(as.map V.ref).length<1048576:=by rw[List.length_map,b.lists.1];exact Q55 hm hlen hi'
   simp (disch:=first|decide|omega) only[Zg,Zw,Zx,Zz,Z2,Z3,Ae,Ai,true_and,Cq,Cp ha1,C0 ha1 hal]
   exact hK _ _ _ _ _ _ _ _ _ ⟨b.snoc h1 h2 h3 (by rw[hlen];exact h4),by simp[hlen]⟩
  simp (disch:=first|decide|omega) only[Ze,Zg,Zl,Zp,Zu,Zw,Zx,Zy,Zz,Z2,Z3,Z8,Ae,Ai,Ar,Au,A0,true_and,F0,hc,hx]
  refine De hc (Int.natCast_nonneg _) ?_
  refine Mt hx fun c c0 c1=>?_
  intro x hx0
  have e0:∀y o,y≠x->H' y=some o->upd H' x (.list []) y=some o:=fun y o h1 h2=>by rw[upd_ne h1];exact h2
  refine Ci (decide ((0:Int)<i)&&decide ((i:Int)<ring)) (fun Q' h'=>?_) ?_
  ·simp (disch:=first|decide|omega) only[Ze,Zg,Zn,Bb,Az,Ae,Ai];split<;>simp_all
  ·split
   ·rename_i hh
    simp only[Bool.and_eq_true,decide_eq_true_eq]at hh
    simp (disch:=first|decide|omega) only[Ze,Zg,Zl,Zu,Zw,Zx,Zy,Z2,Z3,Z9,Ae,Ai,Ar,Au]
    intro x1 hx1
    refine Ci (decide ((i:Int)=ring-1)) (fun Q' h'=>?_) ?_
    ·simp (disch:=first|decide|omega) only[Ze,Zg,Zl,Zm,Z9,Ba,Ae,Ai];exact h'
    have hx1':H' x1=none:=(Ak.upd hx0).isNone hx1
    have e1:Ak H' (upd H' x (.list [])):=Ak.upd hx0
    split
    ·rename_i h3
     simp only[decide_eq_true_eq]at h3
     simp (disch:=first|decide|omega) only[Ze,Zg,Zl,Zu,Zw,Zx,Zy,Z2,Z3,Z9,Ae,Ai,Ar,Au]
     intro x2 hx2
     have hx2':H' x2=none:=(Ak.upd hx0).isNone ((Ak.upd hx1).isNone hx2)
     refine fin c x2 [0,(i:Int)-1] _ _ _ _ hx2' (fun y o h1 h2=>?_) Ab ⟨by simp;exact Q57 hr h3,by simp;exact(⟨Int.natCast_pos.mp hh.1,hh.1,Int.sub_lt_self _ (by decide)⟩)⟩
     exact(Ak.upd hx2) y o ((Ak.upd hx1) y o (e1 y o h2))
    ·simp (disch:=first|decide|omega) only[Z2]
     refine fin c x1 [(i:Int)-1] _ _ _ _ hx1' (fun y o h1 h2=>?_) Ab ⟨by simp;exact(Int.ofNat_lt.mp hh.1),by simp;exact(⟨hh.1,Int.sub_lt_self _ (by decide)⟩)⟩
     exact(Ak.upd hx1) y o (e1 y o h2)
   ·rename_i hh
    simp (disch:=first|decide|omega) only[Z2,Z3]
    refine Ci (decide ((0:Int)<i) && !decide (c%9=8)) (fun Q' h'=>?_) ?_
    ·simp (disch:=first|decide|omega) only[Ze,Zg,Zj,Zl,Zm,Z6,Bc,Bm,Az,Ae,Ai];split<;>simp_all
    split
    ·rename_i h2
     simp only[Bool.and_eq_true,decide_eq_true_eq]at h2
     have hi0:0<(i:Int):=h2.1
     have hmate:0<=c/9%(i:Int)/\c/9%(i:Int)<i:=⟨Int.emod_nonneg _ (Int.ne_of_gt hi0),Int.emod_lt_of_pos _ hi0⟩
     generalize hmt:c/9%(i:Int)=mate at hmate
     simp (disch:=first|decide|omega) only[Ze,Zg,Zl,Zu,Zw,Zx,Zy,Z2,Z3,Z6,Z7,Ae,Ai,Ar,Au,hmt]
     intro x1 hx1
     have hx1':H' x1=none:=(Ak.upd hx0).isNone hx1
     have e1:Ak H' (upd H' x (.list [])):=Ak.upd hx0
     have e2:Ak H' (upd (upd H' x (.list [])) x1 (.list [.int mate])):=e1.trans (Ak.upd hx1)
     have hml:mate.toNat<rows.length:=(Q62 hlen hmate.1 hmate.2)
     have hml':mate.toNat<as.length:=by rw[b.lists.1];exact hml
     have hxm:as[mate.toNat]? = some (as[mate.toNat]):=List.getElem?_eq_getElem hml'
     have hrm:rows[mate.toNat]? = some (rows[mate.toNat]):=List.getElem?_eq_getElem hml
     generalize as[mate.toNat]=xm at hxm
     generalize rows[mate.toNat]=rm at hrm
     have hrok:=b.ok _ _ hrm
     have hLm:LI H' xm rm:=b.lists.2 _ _ _ hxm hrm
     have hsub:(as.map V.ref)[mate.toNat]? = some (.ref xm):=by rw[List.getElem?_map,hxm];rfl
     refine X7 ?_
     simp (disch:=first|decide|omega) only[Zg,Zs,Ae,Ai]
     refine Iv (e2 _ _ b.at_) hmate.1 hsub (B6 (e2 _ _ hLm) ?_)
     have hxm1:xm≠x1:=fun q=>by rw[q]at hLm;unfold LI at hLm;rw[hx1']at hLm;cases hLm
     refine Gb (fun j ρ H₁=>(Tg fun l9 lf r=>Xq (ρ = [some (.script ns),some (.int m),some (.int ring),some (.ref a),some (.int i),some (.int c),some (.ref x1),some (.int mate),some (.int lf),l9]) ((∀y o,y≠x1->H' y=some o->H₁ y=some o)) (LI H₁ x1 r) (r.length<=1+j) (∀z∈r,0<=z/\z<(i:Int)))) ?_ ?_ ?_ ?_
     ·exact⟨_,_,[mate],rfl,fun y o _ h=>e2 y o h,Ab,Nat.le_refl _,by simpa using hmate⟩
     ·rintro j ρ H₁ ⟨l9,lf,r,rfl,h1,h2,h3,h4⟩
      exact h1 _ _ hxm1 hLm
     ·rintro j v ρ H₁ K' hv ⟨l9,lf,r,rfl,h1,h2,h3,h4⟩ hK'
      rw[List.getElem?_map]at hv
      obtain⟨z,hz,rfl⟩:=Option.map_eq_some_iff.mp hv
      have hzr:=hrok.2 z (List.mem_of_getElem? hz)
      have hjl:=(List.getElem?_eq_some_iff.mp hz).1
      have hlen2:rm.length<=60:=by have:=hrok.1;exact Nat.le_trans this (Nat.le_trans (Int.toNat_le.mpr (Int.le_of_lt hmate.2)) (Nat.le_trans (Nat.le_of_lt hi') hm))
      simp (disch:=first|decide|omega) only[Ze,Zg,Zl,Zy,Z2,Z3,Ar,Au,Fz]
      have step2:∀r',r'.length<=1+(j+1)->(∀z∈r',0<=z/\z<(i:Int))->∀H₂,(∀y o,y≠x1->H' y=some o->H₂ y=some o)->LI H₂ x1 r'->
       K' [some (.script ns),some (.int m),some (.int ring),some (.ref a),some (.int i),some (.int c),some (.ref x1),some (.int mate),some (.int (lf/3)),some (.int z)] H₂:=
       fun r' a1 a2 H₂ a3 a4=>hK' _ _ ⟨_,_,r',rfl,a3,a4,a1,a2⟩
      have hlen:(r.map V.int).length<1048576:=by rw[List.length_map];exact Nat.lt_of_le_of_lt (Nat.le_trans h3 (Nat.add_le_add_left (Nat.le_trans (Nat.le_of_lt hjl) hlen2) 1)) (by decide)
      have key:∃cc:Bool,∀Q':Af,Q' (.bool cc) H₁->Am G (Ad G (n+1)) (.and (.cmp .Gt (.bin .Mod (.var 8) (.cint 3)) (.cint 0)) (.or (.cmp .GtE (.var 7) (.var 2)) (.cmp .Lt (.bi .len [(.var 6)]) (.cint 2)))) [some (.script ns),some (.int m),some (.int ring),some (.ref a),some (.int i),some (.int c),some (.ref x1),some (.int mate),some (.int lf),some (.int z)] H₁ Q' E:=by
       refine⟨decide (0<lf%3)&&(decide (ring<=mate)||decide (((r.map V.int).length:Int)<2)),fun Q' h'=>?_⟩
       simp (disch:=first|decide|omega) only[Ze,Zg,Zj,Zk,Zl,Zm,Zq,Zw,Zx,Z6,Bb,Bc,Bl,Az,Ae,Ai,Dg h2]
       split
       ·split<;>simp_all
       ·simp_all
      obtain⟨cc,hcc⟩:=key
      refine Ci cc hcc ?_
      split
      ·simp (disch:=first|decide|omega) only[Zg,Zw,Zx,Zz,Z2,Z3,Z7,Ae,Ai,Ar,Au,true_and,Cq,Cp h2,C0 h2 hlen]
       refine step2 (r ++ [z]) (by simp;exact(Nat.succ_le_succ h3)) (fun w hw=>?_) _ (fun y o a1 a2=>by rw[upd_ne a1];exact h1 y o a1 a2) (by unfold LI;rw[Ab];simp)
       rcases List.mem_append.mp hw with hw|hw
       ·exact h4 w hw
       ·simp at hw;subst hw;exact⟨hzr.1,Int.lt_of_lt_of_le hzr.2 (Int.ofNat_le.mpr (Int.toNat_le.mpr (Int.le_of_lt hmate.2)))⟩
      ·simp (disch:=first|decide|omega) only[Z2,Z7,Ae,Ai,Ar,Au]
       exact step2 r (Nat.le_succ_of_le h3) h4 _ h1 h2
     ·rintro ρ H₁ ⟨l9,lf,r,rfl,h1,h2,h3,h4⟩
      refine fin c x1 r H₁ _ _ _ hx1' h1 h2 ⟨?_,h4⟩
      rw[List.length_map]at h3
      have:=hrok.1
      exact Nat.le_trans h3 (Nat.le_trans (Nat.add_le_add_left this 1) (Nat.le_trans (Nat.le_of_eq (Nat.add_comm 1 _)) ((Int.toNat_lt hmate.1).mpr hmate.2)))
    ·simp (disch:=first|decide|omega) only[Z2]
     exact fin c x [] _ _ _ _ hx0 e0 Ab ⟨Nat.zero_le _,fun _ h=>absurd h List.not_mem_nil⟩
 ·rintro r4 r5 r6 r7 r8 r9 as rows H' ⟨b,hlen⟩
  simp (disch:=first|decide|omega) only[Ae,Ai]
  exact q a as rows H' b.ext b.new b.at_ b.lists ⟨hlen,b.ok⟩
set_option linter.all false
variable {G:Ax} {n:Nat} {H H':AH} {Q:Af} {E:EP} {C:CS} {ρ:Aj}
theorem G6{g:AH->Prop}{elt:Aj->AH->(Option V->AH->Prop)->Prop}{Q:List V->AH->Prop}{xs:List V}{f:V->Option V}{y:Option V}(hg:g H)
 (step:∀x∈xs,∀K:Option V->AH->Prop,K (f x) H->elt (some x::ρ) H K) (fin:Q (xs.filterMap f) H):Ce g (.one 0) elt Q (xs.map .v) [] (y::ρ) H:=by
 refine Cv (k:=0) (fun i acc H'=>H'=H/\acc=(xs.take i).filterMap f) ⟨rfl,rfl⟩ ?_ ?_
 ·rintro i x acc H' K hx ⟨rfl,rfl⟩ hK
  rw[List.getElem?_map]at hx
  obtain⟨j,hj,rfl⟩:=Option.map_eq_some_iff.mp hx
  refine⟨hg,_,rfl,step j (List.mem_of_getElem? hj) K (hK _ _ ⟨rfl,?_⟩)⟩
  have hlt:=(List.getElem?_eq_some_iff.mp hj).1
  rw[Nat.zero_add,List.take_add_one,hj]
  simp only[Option.toList_some,List.filterMap_append]
  rw[List.filterMap_cons]
  cases hfj:f j<;>simp
 ·rintro acc H' ⟨rfl,rfl⟩
  refine⟨hg,?_⟩
  rw[Nat.zero_add,List.take_of_length_le (Nat.le_of_eq (List.length_map _).symm)]
  exact fin
theorem Sz(m:Nat):((List.range m).map fun(i:Nat)=>It.v (.int i))=((List.range m).map fun(i:Nat)=>V.int i).map It.v:=(List.map_map).symm
theorem Qt(m:Nat)(p:Nat->Bool):((List.range m).map fun(i:Nat)=>V.int i).filterMap (fun v=>match v with | .int i=>if p i.toNat then some (.int i)else none|_=>none)=(((List.range m).filter p).map fun(i:Nat)=>(i:Int)).map V.int:=by
 rw[List.filterMap_map]
 induction m with
 | zero=>rfl
 | succ m ih=>
   rw[List.range_succ,List.filterMap_append,ih,List.filter_append]
   simp only[List.map_append,List.filterMap_cons,Function.comp,List.filterMap_nil,Int.toNat_natCast,List.filter_cons,List.filter_nil]
   by_cases hp:p m=true<;>simp[hp]
noncomputable def Lg(l:List Nat):List Int:=l.map fun(i:Nat)=>(i:Int)
theorem Oz{m:Nat}{p:Nat->Bool}{elt:Aj->AH->(Option V->AH->Prop)->Prop}{Q:List V->AH->Prop}{y:Option V}
 (step:∀j,j<m->∀K:Option V->AH->Prop,K (if p j then some (.int j)else none) H->elt (some (.int j)::ρ) H K) (fin:Q ((Lg ((List.range m).filter p)).map V.int) H) :
 Ce (fun _=>True) (.one 0) elt Q ((List.range m).map fun(i:Nat)=> .v (.int i)) [] (y::ρ) H:=by
 rw[Sz]
 refine G6 (f:=fun v=>match v with | .int i=>if p i.toNat then some (.int i)else none|_=>none) trivial (fun v hv K hK=>?_) ?_
 ·obtain⟨j,hj,rfl⟩:=List.mem_map.mp hv
  exact step j (List.mem_range.mp hj) K hK
 ·rw[Qt];exact fin
theorem Uh(hc:G.fn "_law_cell_at" = some Ck)(hx:G.fn "_law_mixed" = some Ed)(hG:G.fn "_law_any_rows" = some Ew){ns:List Int}{m:Nat}(hm:m<=60)(q:Kq H m Q) :
 Ad G (n+2) "_law_any_rows" [.script ns,.int m] H Q E:=by
 refine Ag hG rfl ?_
 simp (disch:=first|decide|omega) only[Ze,Zg,Zl,Zp,Zu,Zw,Zx,Zy,Z0,Z2,Z3,List.map,Av,Aw,Ae,List.replicate,Ar,Au,A0,true_and,Ew,hc]
 refine De hc (by decide) ?_
 try simp (disch:=first|decide|omega) only[Z6,Z7,Z8]
 generalize hsh:1+cell ns (2:Int).toNat/8%4=share
 have core:∀parts:Int,0<parts->parts<=40->B0 G (Ad G (n+1)) [.assign 4 (.list []),.for (.one 5) (.range [(.var 1)]) Dm,.ret (.var 4)] [some (.script ns),some (.int m),some (.int share),some (.int parts),none,none,none] H (fun _ H=>Q .none H) Q E:=by
  intro parts hp0 hp1
  simp (disch:=first|decide|omega) only[Zg,Zu,Zw,Zy,Z0,Z2,Z3,Ar,Au]
  intro a ha
  refine frK ?_
  simp (disch:=first|decide|omega) only[Zg,Zw,Zx,A9,Ae,Ai]
  refine Ow (fun i r5 r6 as rows=>[some (.script ns),some (.int m),some (.int share),some (.int parts),some (.ref a),r5,r6]) (fun i r5 r6 as rows H'=>(Kr H H' a as rows)/\(rows.length=i)) none none [] [] rfl ⟨Kr.start ha,rfl⟩ ?_ ?_
  ·rintro i r5 r6 as rows H' K hi ⟨b,hlen⟩ hK
   have hi':i<m:=hi
   simp (disch:=first|decide|omega) only[Zy,Zz,Z2,Z3,Ar,Au,Dm]
   refine grK ?_
   simp (disch:=first|decide|omega) only[Zg,Zw,Zx,Z4,A9,Av,Aw,Ae,Ai,List.replicate]
   refine⟨by simp[Cg];exact(Nat.le_of_lt (Nat.lt_of_lt_of_le hi' (Nat.le_trans hm (by decide)))),?_⟩
   refine Cv (k:=0) (fun j acc H₁=>H₁=H'/\∃l:List Int,acc=l.map V.int/\l.length=j) ⟨rfl,[],rfl,rfl⟩ ?_ ?_
   ·rintro j x acc H₁ K' hx' ⟨rfl,l,rfl,hl⟩ hK'
    rw[List.getElem?_map]at hx'
    obtain⟨j',hj,rfl⟩:=Option.map_eq_some_iff.mp hx'
    obtain⟨hlt,he⟩:=List.getElem?_eq_some_iff.mp hj
    simp at hlt he
    subst he
    refine⟨trivial,_,rfl,?_⟩
    simp (disch:=first|decide|omega) only[Ze,Zg,Zl,Zp,Zw,Zx,Z6,Z8,Ae,Ai,A0,true_and,E8,Aaq,hc,hx]
    refine⟨.inl (by decide),.inl (by decide),?_⟩
    refine De hc (Int.natCast_nonneg _) ?_
    refine⟨.inl (by decide),?_⟩
    refine Mt hx fun c c0 c1=>?_
    exact hK' _ _ ⟨rfl,l ++ [c],by simp,by simp[hl]⟩
   ·rintro acc H₁ ⟨rfl,cells,rfl,hl⟩
    refine⟨trivial,fun x hx0=>?_⟩
    have hcl:cells.length=i:=by simpa using hl
    have hal:(as.map V.ref).length<1048576:=by rw[List.length_map,b.lists.1];exact Q55 hm hlen hi'
    have ha1:upd H₁ x (.list (cells.map V.int)) a=some (.list (as.map V.ref)):=(Ak.upd hx0) _ _ b.at_
    simp (disch:=first|decide|omega) only[Zg,Zw,Zx,Ae,Ai,true_and,Cq,Cp ha1]
    refine hrK ?_
    simp (disch:=first|decide|omega) only[Zg,Zw,Zx,Z4,A9,Av,Aw,Ae,Ai,List.replicate]
    refine⟨by simp[Cg];exact(Nat.le_of_lt (Nat.lt_of_lt_of_le hi' (Nat.le_trans hm (by decide)))),?_⟩
    refine Oz (p:=fun k=>decide (cells.getD k 0%parts<share)) (fun j hj K' hK'=>?_) ?_
    ·have hj':j<cells.length:=(Nat.lt_of_lt_of_eq hj hcl.symm)
     have hsub:(cells.map V.int)[(j:Int).toNat]? = some (.int (cells.getD j 0)):=by
      rw[Int.toNat_natCast,List.getElem?_map,List.getElem?_eq_getElem hj',List.getD_eq_getElem?_getD,List.getElem?_eq_getElem hj'];rfl
     simp (disch:=first|decide|omega) only[Zg,Zl,Zm,Zs,Z6,Bb,Az,Ae,Ai,E9,Bz (Ab) (Int.natCast_nonneg j) hsub]
     split
     ·rename_i h;rw[if_pos h]at hK';exact hK'
     ·rename_i h;rw[if_neg h]at hK';exact hK'
    ·generalize hR:(List.range ((i:Int)).toNat).filter (fun k=>decide (cells.getD k 0%parts<share))=R
     intro x1 hx1
     have hx1':H₁ x1=none:=(Ak.upd hx0).isNone hx1
     have ha2:=(Ak.upd (o:= .list ((Lg R).map V.int)) hx1) _ _ ha1
     simp (disch:=first|decide|omega) only[C0 ha2 hal]
     refine hK _ _ _ _ _ ⟨b.snoc hx1' (fun y o _ h=>(Ak.upd hx1) y o ((Ak.upd hx0) y o h)) Ab ⟨?_,?_⟩,by simp[hlen]⟩
     ·unfold Lg
      rw[List.length_map,<-hR]
      have:=List.length_filter_le (fun k=>decide (cells.getD k 0%parts<share)) (List.range ((i:Int)).toNat)
      rw[List.length_range]at this
      exact hlen▸this
     ·intro z hz
      obtain⟨k,hk,rfl⟩:=List.mem_map.mp hz
      rw[<-hR]at hk
      have:=List.mem_range.mp (List.mem_filter.mp hk).1
      exact⟨Int.natCast_nonneg _,Int.ofNat_lt.mpr (Nat.lt_of_lt_of_eq this hlen.symm)⟩
  ·rintro r5 r6 as rows H' ⟨b,hlen⟩
   simp (disch:=first|decide|omega) only[Ae,Ai]
   exact q a as rows H' b.ext b.new b.at_ b.lists ⟨hlen,b.ok⟩
 refine Ci (decide ((20:Int)<m)) (fun Q' h'=>?_) ?_
 ·simp (disch:=first|decide|omega) only[Ze,Zg,Zm,Bc,Ae,Ai];exact h'
 ·split
  ·refine Cf (K4 (Aed (U4 ?_)));exact core 40 (by decide) (by decide)
  ·refine U4 ?_;exact core 5 (by decide) (by decide)
set_option linter.all false
variable {G:Ax} {n:Nat} {H H':AH} {Q:Af} {E:EP} {C:CS} {ρ:Aj}
theorem Aav{a:Nat}{xs:List V}{k:Int}{v:V}{N:AH->Prop}(h:H a=some (.list xs))(h0:0<=k)(hk:k<xs.length):setItem (.ref a) (.int k) v H N=N (upd H a (.list (xs.set k.toNat v))):=by
 have:Di k xs.length=some k.toNat:=by delta Di;rw[if_pos h0,if_pos hk]
 delta setItem;(try dsimp only[A2,Ap]);rw[h];(try dsimp only);rw[this];(try dsimp only[Fy])
theorem Adb{a:Nat}{xs:List V}{k:Int}{v:V}{N:AH->Prop}(h:H a=some (.list xs))(h0:0<=k)(hk:k<xs.length)(kk:N (upd H a (.list (xs.set k.toNat v)))):setItem (.ref a) (.int k) v H N:=Eq.mpr (Aav h h0 hk) kk
theorem Aaw(hG:G.fn "_law_ringed" = some Gi){m:Nat}{c:Int}(hm:m<=60)(q:Kq H m Q):Ad G (n+1) "_law_ringed" [.int m,.int c] H Q E:=by
 refine Ag hG rfl ?_
 simp (disch:=first|decide|omega) only[Ze,Zg,Zl,Zy,Z0,Z2,Z3,Z6,Z7,Z8,List.map,Av,Aw,Ae,Ai,List.replicate,Ar,Au,Gi]
 generalize hsz:4+c%5=size
 generalize hst:size+c/5%4=step
 have hsize:4<=size:=(Int.le_trans (Int.le_add_of_nonneg_right (Int.emod_nonneg _ (by decide))) (Int.le_of_eq hsz))
 have hstep:size<=step/\step<100:=(Q75 hsz hst)
 refine grK ?_
 simp (disch:=first|decide|omega) only[Zg,Zw,Zx,Z4,A9,Av,Aw,Ae,List.replicate]
 refine⟨by simp[Cg];exact Q34 hm,Ig (P:=L9) (fun i H' K hi e1 hK=>?_) fun as rows H' e1 h1 h2 h3=>?_⟩
 ·simp (disch:=first|decide|omega) only[Ze,Zg,Zl,Zq,Zw,Zx,Z9,Bj,Bk,Ae,Hc]
  intro a ha
  rw[N8]
  exact hK a _ _ (Ak.upd ha) Ab (Ih (Int.le_max_left _ _) (Q36 (by decide)))
 ·intro a ha
  refine frK ?_
  simp (disch:=first|decide|omega) only[Zg,Zw,Zx,A9,Ae]
  refine Dk (fun i ρ H₁=>(Tg fun r4 as rows=>An6 (ρ = [some (.int m),some (.int c),some (.int size),some (.int step),r4,some (.ref a)]) (Ak H H₁) (H₁ a=some (.list (as.map V.ref))) (D2 H₁ as rows) ((∀x∈as,x≠a)) (Wf m rows))) ?_ ?_ ?_
  ·refine⟨none,as,rows,rfl,e1.trans (Ak.upd ha),Ab,h1.ext (Ak.upd ha),fun x hx hxa=>?_,⟨h2,h3⟩⟩
   subst hxa
   obtain⟨i,hi⟩:=List.mem_iff_getElem?.mp hx
   have hlt:=(List.getElem?_eq_some_iff.mp hi).1
   have:=h1.2 i x _ hi (List.getElem?_eq_getElem (by rw[<-h1.1];exact hlt))
   unfold LI at this
   rw[ha]at this;cases this
  ·rintro i ρ H₁ K hi ⟨r4,as,rows,rfl,e,hA,hR,hne,hW⟩ hK
   have hi':i<m:=hi
   simp (disch:=first|decide|omega) only[Z2,Z3,Ar,Au,Hd]
   refine Ci (decide ((i:Int)%step=size-1)) (fun Q' h'=>?_) ?_
   ·simp (disch:=first|decide|omega) only[Ze,Zg,Zl,Zm,Z6,Z9,Ba,Ae,Ai];exact h'
   ·split
    ·rename_i hh
     simp only[decide_eq_true_eq]at hh
     have hle:(i:Int)%step<=i:=by
      have h1:=Int.mul_ediv_add_emod (i:Int) step
      have h2:0<=step*((i:Int)/step):=Int.mul_nonneg (Int.le_trans (Int.le_trans (by decide) hsize) hstep.1) (Int.ediv_nonneg (Int.natCast_nonneg _) (Int.le_trans (Int.le_trans (by decide) hsize) hstep.1))
      exact Int.le_trans (Int.le_add_of_nonneg_left h2) (Int.le_of_eq h1)
     simp (disch:=first|decide|omega) only[Ze,Zg,Zl,Zu,Zw,Zx,Z2,Z3,Z8,Z9,Ae,Ai,Bs]
     intro x hx
     have hA':=(Ak.upd (o:= .list [.int ((i:Int)+1-size),.int ((i:Int)-1)]) hx) _ _ hA
     have hL:i<(as.map V.ref).length:=by rw[List.length_map,hR.1,hW.1];exact hi'
     refine Adb hA' (Int.natCast_nonneg _) (Int.ofNat_lt.mpr hL) ?_
     have hxa:x≠a:=fun z=>by rw[z,hA]at hx;cases hx
     have hHa:H a=none:=e1.isNone ha
     refine hK _ _ ⟨_,as.set i x,rows.set i [(i:Int)+1-size,(i:Int)-1],rfl,(e.trans (Ak.upd hx)).upd' hHa,?_,?_,?_,?_⟩
     ·rw[Ab,Int.toNat_natCast,List.map_set]
     ·refine D2.upd ?_ ?_
      ·refine⟨by simp[hR.1],fun k y r h1 h2=>?_⟩
       rw[List.getElem?_set]at h1 h2
       by_cases hki:i=k
       ·subst hki
        rw[if_pos rfl]at h1 h2
        rw[if_pos (by rw[<-hR.1];simpa using hL)]at h2
        rw[if_pos (by simpa using hL)]at h1
        cases h1;cases h2
        exact Ab
       ·rw[if_neg hki]at h1 h2
        exact(hR.2 k y r h1 h2).ext (Ak.upd hx)
      ·intro y hy
       rcases List.mem_or_eq_of_mem_set hy with hy|hy
       ·exact hne y hy
       ·rw[hy];exact hxa
     ·intro y hy
      rcases List.mem_or_eq_of_mem_set hy with hy|hy
      ·exact hne y hy
      ·rw[hy];exact hxa
     ·refine⟨List.length_set.trans hW.1,fun k r h2=>?_⟩
      rw[List.getElem?_set]at h2
      by_cases hki:i=k
      ·subst hki
       rw[if_pos rfl,if_pos (by rw[hW.1];exact hi')]at h2
       cases h2
       exact⟨by simp;exact Q82 hsize hh hle,by simp;exact Q83 hsize hh hle⟩
      ·rw[if_neg hki]at h2
       exact hW.2 k r h2
    ·simp (disch:=first|decide|omega) only[Z2]
     exact hK _ _ ⟨_,as,rows,rfl,e,hA,hR,hne,hW⟩
  ·rintro ρ H₁ ⟨r4,as,rows,rfl,e,hA,hR,hne,hW⟩
   simp (disch:=first|decide|omega) only[Ae,Ai]
   exact q a as rows H₁ e (e1.isNone ha) hA hR hW
structure Jt(G:Ax):Prop where
 cellAt:G.fn "_law_cell_at" = some Ck
 mixed:G.fn "_law_mixed" = some Ed
 earlier:G.fn "_law_earlier" = some Fo
 anyRows:G.fn "_law_any_rows" = some Ew
 banded:G.fn "_law_banded" = some Gh
 ringed:G.fn "_law_ringed" = some Gi
 hubbed:G.fn "_law_hubbed" = some Gj
 rows:G.fn "_law_rows" = some M4
 name:G.fn "_law_name" = some Je
 ties:G.fn "_law_ties" = some M5
 near:G.fn "_law_near" = some M6
 init:G.fn "Web.__init__" = some J4
 need:G.fn "Web.need" = some M2
 tied:G.fn "Web.tied" = some M3
 wties:G.fn "Web.ties" = some Tk
 webOf:G.fn "web_of" = some Re
 most:G.const "MOST" = some (.int 60)
theorem Afe(B:Jt G){ns:List Int}{m:Nat}(hm:m<=60)(q:Kq H m Q):Ad G (n+3) "_law_rows" [.script ns,.int m] H Q E:=by
 refine Ag B.rows rfl ?_
 simp (disch:=first|decide|omega) only[Ze,Zg,Zl,Zp,Zw,Zx,Zy,Z0,Z2,Z3,List.map,Av,Aw,Ae,List.replicate,Ar,Au,A0,true_and,M4,B.cellAt,B.earlier]
 refine De B.cellAt (by decide) ?_
 try simp (disch:=first|decide|omega) only[Z6]
 refine De B.cellAt (by decide) ?_
 try simp (disch:=first|decide|omega) only[Z7]
 generalize hk:cell ns (2:Int).toNat%8=kind
 generalize hc:cell ns (2:Int).toNat/8=c
 refine Ci (decide (kind=1)&&decide (3<(m:Int))) (fun Q' h'=>?_) ?_
 ·simp (disch:=first|decide|omega) only[Ze,Zg,Zj,Zm,Bc,Ba,Az,Ae,Ai];split<;>simp_all
 split
 ·rename_i hh
  simp only[Bool.and_eq_true,decide_eq_true_eq]at hh
  simp (disch:=first|decide|omega) only[Ze,Zg,Zl,Zp,Zw,Zx,Z0,Z2,Z3,Z6,Z8,Z9,Ae,Ai]
  refine⟨by rw[B.earlier];rfl,?_⟩
  have hc1:0<=c%((m:Int)-3):=Int.emod_nonneg _ (Int.ne_of_gt (Int.sub_pos_of_lt hh.2))
  exact Pr B.cellAt B.mixed B.earlier hm (.inr (Int.le_add_of_nonneg_right hc1)) q
 simp (disch:=first|decide|omega) only[Z2]
 refine Ci ((decide (1<kind)&&decide (kind<5))&&decide ((m:Int)<41)) (fun Q' h'=>?_) ?_
 ·simp (disch:=first|decide|omega) only[Ze,Zg,Zj,Zm,Zn,Bb,Az,Ae,Ai]
  split<;>(try split)<;>simp_all
 split
 ·simp (disch:=first|decide|omega) only[Zg,Zp,Zw,Zx,Z0,Z2,Z3,Ae,Ai,A0,true_and,B.anyRows]
  exact Uh B.cellAt B.mixed B.anyRows hm q
 simp (disch:=first|decide|omega) only[Z2]
 refine Ci (decide (kind=5)) (fun Q' h'=>?_) ?_
 ·simp (disch:=first|decide|omega) only[Ze,Zg,Zm,Ba,Ae,Ai];exact h'
 split
 ·simp (disch:=first|decide|omega) only[Zg,Zp,Zw,Zx,Z0,Z2,Z3,Ae,Ai,A0,true_and,B.banded]
  exact Aat B.banded hm q
 simp (disch:=first|decide|omega) only[Z2]
 refine Ci (decide (kind=6)) (fun Q' h'=>?_) ?_
 ·simp (disch:=first|decide|omega) only[Ze,Zg,Zm,Ba,Ae,Ai];exact h'
 split
 ·simp (disch:=first|decide|omega) only[Zg,Zp,Zw,Zx,Z0,Z2,Z3,Ae,Ai,A0,true_and,B.ringed]
  exact Aaw B.ringed hm q
 simp (disch:=first|decide|omega) only[Z2]
 refine Ci (decide (kind=7)) (fun Q' h'=>?_) ?_
 ·simp (disch:=first|decide|omega) only[Ze,Zg,Zm,Ba,Ae,Ai];exact h'
 split
 ·simp (disch:=first|decide|omega) only[Zg,Zp,Zw,Zx,Z0,Z2,Z3,Ae,Ai,A0,true_and,B.hubbed]
  exact Aau B.hubbed hm q
 simp (disch:=first|decide|omega) only[Z2,Ae,Ai]
 exact Pr B.cellAt B.mixed B.earlier hm (.inl rfl) q
set_option linter.all false
variable {G:Ax} {n:Nat} {H H':AH} {Q:Af} {E:EP} {C:CS} {ρ:Aj}
theorem Ac{o:O}(q:∀a H',Ak H H'->H a=none->H' a=some o->Q (.ref a) H'):An o H Q:=fun a ha=>q a _ (Ak.upd ha) ha Ab
noncomputable def Ps(p:Int×Int):O:= .tuple [.int p.1,.int p.2]
noncomputable def Ay(H:AH)(as:List Nat)(ps:List (Int×Int)):Prop:=as.map H=ps.map fun p=>some (Ps p)
theorem Ay.len{as:List Nat}{ps:List (Int×Int)}(h:Ay H as ps):as.length=ps.length:=by
 have:=congrArg List.length h
 simpa using this
theorem Ay.at_{as:List Nat}{ps:List (Int×Int)}{i x:Nat}{p:Int×Int}(h:Ay H as ps)(h1:as[i]? = some x)(h2:ps[i]? = some p):H x=some (Ps p):=by
 have:=congrArg (fun l=>l[i]?) h
 simpa[h1,h2]using this
theorem Ay.ex{as:List Nat}{ps:List (Int×Int)}{i x:Nat}(h:Ay H as ps)(h1:as[i]? = some x):∃p,ps[i]? = some p/\H x=some (Ps p):=by
 have hl:=(List.getElem?_eq_some_iff.mp h1).1
 rw[h.len]at hl
 exact⟨_,List.getElem?_eq_getElem hl,h.at_ h1 (List.getElem?_eq_getElem hl)⟩
theorem Ay.ext'{as:List Nat}{ps:List (Int×Int)}(h:Ay H as ps)(e:∀x∈as,∀o,H x=some o->H' x=some o):Ay H' as ps:=by
 unfold Ay at *
 rw[<-h]
 refine List.map_congr_left fun x hx=>?_
 obtain⟨i,hi⟩:=List.mem_iff_getElem?.mp hx
 obtain⟨p,_,hp⟩:=Ay.ex (H:=H) (ps:=ps) h hi
 rw[hp]
 exact e x hx _ hp
theorem Ay.ext{as:List Nat}{ps:List (Int×Int)}(h:Ay H as ps)(e:Ak H H'):Ay H' as ps:=h.ext' fun x _ o q=>e x o q
theorem Ay.app{as bs:List Nat}{ps qs:List (Int×Int)}(h:Ay H as ps)(h':Ay H bs qs):Ay H (as++bs) (ps++qs):=by
 unfold Ay at *
 rw[List.map_append,List.map_append,h,h']
theorem Ay.take{as:List Nat}{ps:List (Int×Int)}(k:Nat)(h:Ay H as ps):Ay H (as.take k) (ps.take k):=by
 unfold Ay at *
 rw[List.map_take,List.map_take,h]
theorem Ay.drop{as:List Nat}{ps:List (Int×Int)}(k:Nat)(h:Ay H as ps):Ay H (as.drop k) (ps.drop k):=by
 unfold Ay at *
 rw[List.map_drop,List.map_drop,h]
theorem Ay.one{x:Nat}{p:Int×Int}(h:H x=some (Ps p)):Ay H [x] [p]:=by
 unfold Ay;simp[h]
theorem Ks{a:Nat}{xs:List V}{l u:V}{l' u':Option Int}(h:H a=some (.list xs))(hl:bound? l=some l')(hu:bound? u=some u'):C7 (.ref a) l u .none H Q=An (.list (cut xs l' u')) H Q:=by
 delta C7;(try dsimp only[A2]);rw[hl];(try dsimp only[Fy]);rw[hu];(try dsimp only[Fy]);rw[h];(try dsimp only[Hm])
theorem E3{a:Nat}{xs:List V}{l u:V}{l' u':Option Int}(h:H a=some (.list xs))(hl:bound? l=some l')(hu:bound? u=some u')(kk:An (.list (cut xs l' u')) H Q):C7 (.ref a) l u .none H Q:=Eq.mpr (Ks h hl hu) kk
theorem Fv:bound? .none=some none:=rfl
theorem Hj{k:Int}:bound? (.int k)=some (some k):=rfl
theorem Ui{xs:List V}{k:Int}(h:0<=k):cut xs none (some k)=xs.take k.toNat:=by
 unfold cut E5
 simp only[if_neg (show ¬k<0 by exact Q86 h),List.drop_zero]
 rcases Nat.le_total k.toNat xs.length with q|q
 ·rw[Nat.min_eq_left q]
 ·rw[Nat.min_eq_right q,List.take_of_length_le q,List.take_of_length_le (Nat.le_refl _)]
theorem Ju{xs:List V}{k:Int}(h:0<=k):cut xs (some k) none=xs.drop k.toNat:=by
 unfold cut E5
 simp only[if_neg (show ¬k<0 by exact Q86 h),List.take_length]
 rcases Nat.le_total k.toNat xs.length with q|q
 ·rw[Nat.min_eq_left q]
 ·rw[Nat.min_eq_right q,List.drop_of_length_le q,List.drop_of_length_le (Nat.le_refl _)]
theorem Adc{xs:List V}{k l:Int}(h:0<=k)(h':0<=l):cut xs (some k) (some l)=(xs.take l.toNat).drop k.toNat:=by
 unfold cut E5
 simp only[if_neg (show ¬k<0 by exact Q86 h),if_neg (show ¬l<0 by exact Q86 h')]
 have e:xs.take (min l.toNat xs.length)=xs.take l.toNat:=by
  rcases Nat.le_total l.toNat xs.length with q|q
  ·rw[Nat.min_eq_left q]
  ·rw[Nat.min_eq_right q,List.take_of_length_le q,List.take_of_length_le (Nat.le_refl _)]
 rw[e]
 rcases Nat.le_total k.toNat xs.length with q|q
 ·rw[Nat.min_eq_left q]
 ·rw[Nat.min_eq_right q,List.drop_of_length_le (by simp;exact(Nat.min_le_right _ _)),List.drop_of_length_le (by simp;exact(Nat.le_trans (Nat.min_le_right _ _) q))]
theorem Aax{a b:Nat}{xs ys:List V}(h:H a=some (.list xs))(h':H b=some (.list ys))(hl:xs.length+ys.length<=1048576):Dz .Add (.ref a) (.ref b) H Q=An (.list (xs++ys)) H Q:=by
 delta Dz;(try dsimp only);(first|delta Uy|delta Uz|skip);(try dsimp only[A2,Ap]);rw[h];(try dsimp only[Hm]);rw[h'];(try dsimp only[Hm])
 exact propext ⟨fun h=>h.2,fun q=>⟨hl,q⟩⟩
theorem Mu{a b:Nat}{xs ys:List V}(h:H a=some (.list xs))(h':H b=some (.list ys))(hl:xs.length+ys.length<=1048576)(kk:An (.list (xs++ys)) H Q):Dz .Add (.ref a) (.ref b) H Q:=Eq.mpr (Aax h h' hl) kk
theorem Aff{a:Nat}{xs:List V}{k:Int}(h:H a=some (.list xs))(h0:0<=k)(h1:k<=1000)(hl:xs.length*k.toNat<=1048576):Dz .Mult (.ref a) (.int k) H Q=An (.list (List.replicate k.toNat xs).flatten) H Q:=by
 delta Dz;(try dsimp only);(first|delta Uy|delta Uz|skip);(try dsimp only[A2,Ap]);rw[h];(try dsimp only[Hm])
 exact propext ⟨fun h=>h.2,fun q=>⟨⟨h0,h1,hl⟩,q⟩⟩
theorem Ade{a:Nat}{xs:List V}{k:Int}(h:H a=some (.list xs))(h0:0<=k)(h1:k<=1000)(hl:xs.length*k.toNat<=1048576)(kk:An (.list (List.replicate k.toNat xs).flatten) H Q):Dz .Mult (.ref a) (.int k) H Q:=Eq.mpr (Aff h h0 h1 hl) kk
noncomputable def V2(ns:List Int)(m:Nat)(rows:List (List Int))(p:Int×Int):Prop:=
 (Tg fun(k:Nat) (r:List Int) (one:Int)=>Fx (rows[k]? = some r) (one∈r) ((p=(Bd ns m k,Bd ns m one)\/p=(Bd ns m one,Bd ns m k))))
noncomputable def Aay(ns:List Int)(m:Nat)(rows:List (List Int))(ps:List (Int×Int)):Prop:=
 (∀p∈ps,V2 ns m rows p)/\∀(k:Nat) (r:List Int) (one:Int),rows[k]? = some r->one∈r->(Bd ns m k,Bd ns m one)∈ps\/(Bd ns m one,Bd ns m k)∈ps
structure TB(H H':AH)(t:Nat)(as:List Nat)(ps:List (Int×Int)):Prop where
 ext:Ak H H'
 new:H t=none
 at_:H' t=some (.list (as.map V.ref))
 prs:Ay H' as ps
 ne:∀x∈as,x≠t
theorem TB.snoc{t x:Nat}{as:List Nat}{ps:List (Int×Int)}{p:Int×Int}{H₁:AH}(b:TB H H' t as ps)(e:Ak H' H₁)(hn:H' x=none)(hx:H₁ x=some (Ps p)):TB H (upd H₁ t (.list (as.map V.ref ++ [.ref x]))) t (as ++ [x]) (ps ++ [p]):=by
 have hxt:x≠t:=fun q=>by rw[q,b.at_]at hn;cases hn
 have hne:∀y∈as ++ [x],y≠t:=fun y hy=>by
  rcases List.mem_append.mp hy with hy|hy
  ·exact b.ne y hy
  ·simp at hy;rw[hy];exact hxt
 refine⟨(b.ext.trans e).upd' b.new,b.new,by rw[Ab];simp,((b.prs.ext e).app (Ay.one hx)).ext' fun y hy o q=>by rw[upd_ne (hne y hy)];exact q,hne⟩
theorem Afg(B:Jt G){ns:List Int}{m a:Nat}{as:List Nat}{rows:List (List Int)}(hm:m<=60)(hA:H a=some (.list (as.map V.ref)))(hR:D2 H as rows)(hW:Wf m rows)
 (q:∀t ts ps H',Ak H H'->H t=none->H' t=some (.list (ts.map V.ref))->Ay H' ts ps->Aay ns m rows ps->ps.length<=4000->Q (.ref t) H') :
 Ad G (n+3) "_law_ties" [.script ns,.int m,.ref a] H Q E:=by
 refine Ag B.ties rfl ?_
 simp (disch:=first|decide|omega) only[Zc,Ze,Zg,Zl,Zt,Zu,Zw,Zy,Z0,Z2,Z3,List.map,Av,Aw,List.replicate,Ar,Au,M5]
 intro t ht
 refine frK ?_
 simp (disch:=first|decide|omega) only[Zg,Zw,Zx,A9,Ae,Ai]
 refine Ox (fun i r4 r5 r6 ts ps=>[some (.script ns),some (.int m),some (.ref a),some (.ref t),r4,r5,r6]) (fun i r4 r5 r6 ts ps H'=>Jy (TB H H' t ts ps) (ps.length<=60*i) ((∀p∈ps,V2 ns m rows p)) (∀(k:Nat) (r:List Int) (one:Int),k<i->rows[k]? = some r->one∈r->(Bd ns m k,Bd ns m one)∈ps\/(Bd ns m one,Bd ns m k)∈ps)) none none none [] [] rfl ⟨⟨Ak.upd ht,ht,Ab,rfl,fun _ h=>absurd h List.not_mem_nil⟩,Nat.le_refl _,fun _ h=>absurd h List.not_mem_nil,by(first|lia|omega)⟩ ?_ ?_
 ·rintro i r4 r5 r6 ts ps H' K hi hP5 hK
  refine Aa fun nY=>?_
  obtain⟨b,hlen,htie,hall⟩:=hP5
  have hi':i<m:=hi
  refine nY ?_;clear nY
  have hil:i<rows.length:=by rw[hW.1];exact hi'
  have hial:i<as.length:=by rw[hR.1];exact hil
  have hxi:as[i]? = some (as[i]):=List.getElem?_eq_getElem hial
  have hri:rows[i]? = some (rows[i]):=List.getElem?_eq_getElem hil
  generalize as[i]=xi at hxi
  generalize rows[i]=ri at hri
  have hok:=hW.2 i ri hri
  have hLi:LI H xi ri:=hR.2 i xi ri hxi hri
  have hsub:(as.map V.ref)[(i:Int).toNat]? = some (.ref xi):=by rw[Int.toNat_natCast,List.getElem?_map,hxi];rfl
  simp (disch:=first|decide|omega) only[Z2,Z3,Ar,Au,Iz]
  refine X7 ?_
  simp (disch:=first|decide|omega) only[Zg,Zs,Ae,Ai]
  refine Iv (b.ext _ _ hA) (Int.natCast_nonneg _) hsub (B6 (b.ext _ _ hLi) ?_)
  refine Sx (fun j r5 r6 ts ps=>[some (.script ns),some (.int m),some (.ref a),some (.ref t),some (.int i),r5,r6]) (fun j r5 r6 ts ps H'=>Xq (TB H H' t ts ps) (ps.length<=60*i+j) ((∀p∈ps,V2 ns m rows p)) ((∀(k:Nat) (r:List Int) (one:Int),k<i->rows[k]? = some r->one∈r->(Bd ns m k,Bd ns m one)∈ps\/(Bd ns m one,Bd ns m k)∈ps)) (∀one∈ri.take j,(Bd ns m i,Bd ns m one)∈ps\/(Bd ns m one,Bd ns m i)∈ps)) _ _ ts ps rfl ⟨b,hlen,htie,hall,fun _ h=>absurd h List.not_mem_nil⟩ ?_ ?_ ?_
  ·rintro j r5 r6 ts ps H' ⟨b,_⟩
   exact b.ext _ _ hLi
  ·rintro j v r5 r6 ts ps H' K' hv hP6 hK'
   refine Aa fun nY=>?_
   obtain⟨b,hlen,htie,hall,hj⟩:=hP6
   rw[List.getElem?_map]at hv
   obtain⟨one,hone,rfl⟩:=Option.map_eq_some_iff.mp hv
   have hmem:=List.mem_of_getElem? hone
   have hone2:=hok.2 one hmem
   have hjl:=(List.getElem?_eq_some_iff.mp hone).1
   have hrl:=hok.1
   refine nY ?_;clear nY
   simp (disch:=first|decide|omega) only[Zg,Zp,Zv,Zw,Zx,Zy,Zz,Z2,Z3,Ae,Ai,Ar,Au,A0,true_and,Iy,B.name]
   refine Aas B.cellAt B.name (Q89 hi') (Q90 hm) ?_
   refine Aas B.cellAt B.name (Q89 hi') (Q90 hm) ?_
   generalize hnk:Bd ns m i=nk
   generalize hno:Bd ns m one=no
   intro x hx
   have done:∀(y:Nat) (p:Int×Int) (H₁:AH),Ak H' H₁->H' y=none->H₁ y=some (Ps p)->(p=(nk,no)\/p=(no,nk))->
    B0 G (Ad G (n+2)) [.expr (.lm .append (.var 3) [(.var 6)])] [some (.script ns),some (.int m),some (.ref a),some (.ref t),some (.int i),some (.int one),some (.ref y)] H₁ K' Q E:=by
    intro y p H₁ e hy hp hpp
    have ht1:=e _ _ b.at_
    have hl:(ts.map V.ref).length<1048576:=by rw[List.length_map,b.prs.len];exact Nat.lt_of_le_of_lt (Nat.le_trans hlen (Nat.add_le_add (Nat.mul_le_mul_left 60 (Nat.le_trans (Nat.le_of_lt hi') hm)) (Nat.le_trans (Nat.le_of_lt hjl) (Nat.le_trans hrl (Nat.le_trans (Nat.le_of_lt hi') hm))))) (by decide)
    simp (disch:=first|decide|omega) only[Zg,Zw,Zx,Zz,Z2,Z3,Ae,Ai,true_and,Cq,Cp ht1,C0 ht1 hl]
    refine hK' _ _ _ _ _ ⟨b.snoc e hy hp,by simp;exact(Nat.succ_le_succ hlen),?_,?_,?_⟩
    ·intro p' hp'
     refine Aa fun nY=>?_
     rcases List.mem_append.mp hp' with h|h
     ·refine nY ?_;clear nY
      exact htie p' h
     ·simp at h;subst h
      refine nY ?_;clear nY
      refine⟨i,ri,one,hri,hmem,?_⟩
      rw[hnk,hno];exact hpp
    ·intro k r o h1 h2 h3
     refine Aa fun nY=>?_
     rcases hall k r o h1 h2 h3 with h|h
     ·refine nY ?_;clear nY
      exact .inl (List.mem_append_left _ h)
     ·refine nY ?_;clear nY
      exact .inr (List.mem_append_left _ h)
    ·intro o ho
     rw[List.take_add_one,hone]at ho
     refine Aa fun nY=>?_
     rcases List.mem_append.mp ho with h|h
     ·rcases hj o h with h|h
      ·refine nY ?_;clear nY
       exact .inl (List.mem_append_left _ h)
      ·refine nY ?_;clear nY
       exact .inr (List.mem_append_left _ h)
     ·simp at h;subst h
      refine nY ?_;clear nY
      rw[hnk,hno]
      refine Aa fun nY=>?_
      rcases hpp with rfl|rfl
      ·refine nY ?_;clear nY
       exact .inl (List.mem_append_right _ List.mem_cons_self)
      ·refine nY ?_;clear nY
       exact .inr (List.mem_append_right _ List.mem_cons_self)
   refine Ci (decide (((i:Int)+one)%2=1)) (fun Q' h'=>?_) ?_
   ·simp (disch:=first|decide|omega) only[Ze,Zg,Zl,Zm,Z6,Z8,Ba,Ae,Ai];exact h'
   split
   ·simp (disch:=first|decide|omega) only[Ze,Zg,Zs,Zv,Zw,Zx,Zy,Z2,Z3,Ae,Ai,Ar,Au]
    refine Ms (x:= .int no) Ab (by decide) rfl ?_
    refine Ms (x:= .int nk) Ab (by decide) rfl ?_
    intro y hy
    exact done y (no,nk) _ ((Ak.upd hx).trans (Ak.upd hy)) ((Ak.upd hx).isNone hy) Ab (.inr rfl)
   ·simp (disch:=first|decide|omega) only[Z2]
    exact done x (nk,no) _ (Ak.upd hx) hx Ab (.inl rfl)
  ·rintro r5 r6 ts ps H' hP7
   refine Aa fun nY=>?_
   obtain⟨b,hlen,htie,hall,hj⟩:=hP7
   refine nY ?_;clear nY
   refine hK _ _ _ ts ps _ ⟨b,?_,htie,?_⟩
   ·rw[List.length_map]at hlen
    have:=hok.1
    exact Nat.le_trans hlen (Nat.add_le_add_left (Nat.le_trans this (Nat.le_trans (Nat.le_of_lt hi') hm)) _)
   ·intro k r one h1 h2 h3
    refine Aa fun nY=>?_
    by_cases hki:k=i
    ·subst hki
     rw[hri]at h2
     cases h2
     refine nY ?_;clear nY
     refine hj one ?_
     rw[List.length_map,List.take_of_length_le (Nat.le_refl _)];exact h3
    ·refine nY ?_;clear nY
     exact hall k r one (Q94 h1 hki) h2 h3
 ·rintro r4 r5 r6 ts ps H' hP8
  refine Aa fun nY=>?_
  obtain⟨b,hlen,htie,hall⟩:=hP8
  refine nY ?_;clear nY
  simp (disch:=first|decide|omega) only[Ae,Ai]
  have hlen2:ts.length<=3600:=by
   rw[b.prs.len]
   simp only[Int.toNat_natCast]at hlen
   exact Nat.le_trans hlen (Nat.mul_le_mul_left 60 hm)
  refine gvK ?_
  simp (disch:=first|decide|omega) only[Zc,Ze,Zg,Zt,Z4,Av,Aw,Ae,Ai,List.replicate]
  (refine E3 b.at_ Fv Hj ?_;rw[Ui (by decide)])
  refine Ac fun s1 H₁ ets1 _ hs1v=>?_
  (try dsimp only)
  refine B6 hs1v ?_
  have p1:=(b.prs.take 3).ext ets1
  refine⟨by simp[Cg];exact(Nat.le_trans (Nat.min_le_left _ _) (by decide)),?_⟩
  have hat1:=ets1 _ _ b.at_
  refine Cv (k:=0) (fun j acc H₂=>(Hn fun us=>Fx (acc=us.map V.ref) (Ak H₁ H₂) (Ay H₂ us (((ps.take 3).take j).map fun p=>(p.2,p.1))))) ⟨[],rfl,Ak.refl,rfl⟩ ?_ ?_
  ·rintro j x acc H₂ K hx hP9 hK
   refine Aa fun nY=>?_
   obtain⟨us,rfl,e,hp⟩:=hP9
   rw[List.getElem?_map]at hx
   obtain⟨v,hv,rfl⟩:=Option.map_eq_some_iff.mp hx
   rw[<-List.map_take,List.getElem?_map]at hv
   obtain⟨y,hy,rfl⟩:=Option.map_eq_some_iff.mp hv
   obtain⟨p,hpj,hpy⟩:=p1.ex hy
   refine nY ?_;clear nY
   refine⟨e _ _ hs1v,_,rfl,?_⟩
   simp (disch:=first|decide|omega) only[Ze,Zg,Zs,Zv,Zw,Zx,Ae,I0]
   refine Ms (x:= .int p.2) (e _ _ hpy) (by decide) rfl ?_
   refine Ms (x:= .int p.1) (e _ _ hpy) (by decide) rfl ?_
   refine Ac fun z H₃ e3 _ v3=>?_
   refine hK _ _ ⟨us ++ [z],by simp,e.trans e3,?_⟩
   rw[Nat.zero_add,List.take_add_one,hpj,Option.toList_some,List.map_append]
   rw[Nat.zero_add]at hp
   exact(hp.ext e3).app (Ay.one (p:=(p.2,p.1)) v3)
  ·rintro acc H₂ hP10
   refine Aa fun nY=>?_
   obtain⟨us,rfl,e,hp⟩:=hP10
   refine nY ?_;clear nY
   refine⟨e _ _ hs1v,?_⟩
   have hul:us.length<=3:=by
    rw[hp.len];simp;exact Nat.min_le_left _ _
   have eA:=ets1.trans e
   refine Ac fun u Hu eu _ vu=>?_
   (try dsimp only)
   refine Mu ((eA.trans eu) _ _ b.at_) vu (by simp;exact(Nat.le_trans (Nat.add_le_add hlen2 hul) (by decide))) ?_
   refine Ac fun s2 H₃ e2 _ v2=>?_
   (try dsimp only)
   have e3:=(eA.trans eu).trans e2
   (refine E3 (e3 _ _ b.at_) Hj Hj ?_;rw[Adc (by decide) (by decide)])
   refine Ac fun s3 H₄ e4 _ v4=>?_
   (try dsimp only)
   refine Mu (e4 _ _ v2) v4 (by simp;exact(Nat.le_trans (Nat.add_le_add (Nat.add_le_add hlen2 hul) (Nat.le_trans (Nat.sub_le _ _) (Nat.min_le_left _ _))) (by decide))) ?_
   refine Ac fun s4 H₅ e5 _ v5=>?_
   (try dsimp only)
   have e35:=(e3.trans e4).trans e5
   (refine E3 (e35 _ _ b.at_) Fv Hj ?_;rw[Ui (by decide)])
   refine Ac fun s5 H₆ e6 _ v6=>?_
   (try dsimp only)
   refine Ade v6 (by decide) (by decide) (by simp;exact(Nat.le_trans (Nat.mul_le_mul_right 2 (Nat.min_le_left _ _)) (by decide))) ?_
   refine Ac fun s6 H₇ e7 _ v7=>?_
   (try dsimp only)
   refine Mu ((e6.trans e7) _ _ v5) v7 (by simp;exact(Nat.le_trans (Nat.add_le_add (Nat.add_le_add hlen2 (Nat.add_le_add hul (Nat.le_trans (Nat.sub_le _ _) (Nat.min_le_left _ _)))) (Nat.add_le_add (Nat.min_le_left _ _) (Nat.min_le_left _ _))) (by decide))) ?_
   refine Ac fun s7 H₈ e8 n8 v8=>?_
   have e7a:=(e35.trans e6).trans e7
   have eAll:=e7a.trans e8
   have hn7:H s7=none:=b.ext.isNone (e7a.isNone n8)
   have P:=b.prs.ext eAll
   have P':=hp.ext ((((((eu.trans e2).trans e4).trans e5).trans e6).trans e7).trans e8)
   refine q s7 (ts++us++(ts.take 4).drop 1++(ts.take 1++ts.take 1)) (ps++_++(ps.take 4).drop 1++(ps.take 1++ps.take 1)) _ (b.ext.trans eAll) hn7 ?_ (((P.app P').app ((P.take 4).drop 1)).app ((P.take 1).app (P.take 1))) ⟨?_,?_⟩ ?_
   ·rw[v8]
    simp[List.replicate,List.map_take]
   ·intro p hp
    have sub:∀p,p∈ps->V2 ns m rows p:=htie
    simp only[List.mem_append]at hp
    refine Aa fun nY=>?_
    rcases hp with((h|h)|h)|(h|h)
    ·refine nY ?_;clear nY
     exact htie p h
    ·obtain⟨p',h',rfl⟩:=List.mem_map.mp h
     obtain⟨k,r,one,h1,h2,h3⟩:=htie p' (List.mem_of_mem_take (List.mem_of_mem_take h'))
     refine nY ?_;clear nY
     refine⟨k,r,one,h1,h2,?_⟩
     refine Aa fun nY=>?_
     rcases h3 with rfl|rfl
     ·refine nY ?_;clear nY
      exact .inr rfl
     ·refine nY ?_;clear nY
      exact .inl rfl
    ·refine nY ?_;clear nY
     exact htie p (List.mem_of_mem_take (List.mem_of_mem_drop h))
    ·refine nY ?_;clear nY
     exact htie p (List.mem_of_mem_take h)
    ·refine nY ?_;clear nY
     exact htie p (List.mem_of_mem_take h)
   ·intro k r one h1 h2
    have hk:k<rows.length:=(List.getElem?_eq_some_iff.mp h1).1
    rw[hW.1]at hk
    refine Aa fun nY=>?_
    rcases hall k r one hk h1 h2 with h|h
    ·refine nY ?_;clear nY
     exact .inl (by simp[h])
    ·refine nY ?_;clear nY
     exact .inr (by simp[h])
   ·have:=b.prs.len
    have h8:=hp.len
    simp only[List.length_append,List.length_take,List.length_drop,<-h8]
    exact Ain hlen2 hul this
set_option linter.all false
/-! sorting -/
theorem Eu(x:Int)(l:List Int):(Mc x l).Perm (x::l):=by
 induction l with
 | nil=>exact List.Perm.refl _
 | cons y r ih=>
   unfold Mc
   split
   ·exact List.Perm.refl _
   ·exact(ih.cons y).trans (List.Perm.swap x y r)
theorem Cm(l:List Int):(B9 l).Perm l:=by
 induction l with
 | nil=>exact List.Perm.refl _
 | cons x r ih=>exact(Eu x (B9 r)).trans (ih.cons x)
theorem Lh{x:Int}{l:List Int}:x∈B9 l↔x∈l:=(Cm l).mem_iff
theorem Kt(l:List Int):(B9 l).length=l.length:=(Cm l).length_eq
theorem Fg{x:Int}{l:List Int}(h:l.Pairwise (· <= ·)):(Mc x l).Pairwise (· <= ·):=by
 induction l with
 | nil=>simp[Mc]
 | cons y r ih=>
   unfold Mc
   split
   ·rename_i q
    refine List.pairwise_cons.mpr ⟨fun z hz=>?_,h⟩
    rcases List.mem_cons.mp hz with rfl|hz
    ·exact q
    ·have:=(List.pairwise_cons.mp h).1 z hz;exact Int.le_trans q this
   ·rename_i q
    refine List.pairwise_cons.mpr ⟨fun z hz=>?_,ih (List.pairwise_cons.mp h).2⟩
    rcases List.mem_cons.mp ((Eu x r).mem_iff.mp hz)with rfl|hz
    ·exact Int.le_of_lt (Int.not_le.mp q)
    ·exact(List.pairwise_cons.mp h).1 z hz
theorem Ds(l:List Int):(B9 l).Pairwise (· <= ·):=by
 induction l with
 | nil=>exact List.Pairwise.nil
 | cons x r ih=>exact Fg ih
theorem S0{l:List Int}(h:l.Nodup):(B9 l).Pairwise (· < ·):=by
 have h1:=Ds l
 have h2:(B9 l).Nodup:=(Cm l).nodup_iff.mpr h
 have:=List.Pairwise.and h1 h2
 exact this.imp fun⟨a,b⟩=>(Int.lt_iff_le_and_ne.mpr ⟨a,b⟩)
theorem Aaz:∀ {l l':List Int},l.Pairwise (· < ·)->l'.Pairwise (· < ·)->(∀x,x∈l↔x∈l')->l=l':=by
 intro l
 induction l with
 | nil=>exact fun {l'} _ _ h=>by cases l' with
   | nil=>rfl
   | cons y _=>exact absurd ((h y).mpr List.mem_cons_self) List.not_mem_nil
 | cons x r ih=>exact fun {l'} h1 h2 h=>by cases l' with
   | nil=>exact absurd ((h x).mp List.mem_cons_self) List.not_mem_nil
   | cons y s=>
     have a1:=List.pairwise_cons.mp h1
     have a2:=List.pairwise_cons.mp h2
     have hxy:x=y:=(List.mem_cons.mp ((h x).mp List.mem_cons_self)).elim id fun q=>(List.mem_cons.mp ((h y).mpr List.mem_cons_self)).elim Eq.symm fun q'=>absurd (a2.1 x q) (Int.lt_asymm (a1.1 y q'))
     subst hxy
     exact congrArg _ (ih a1.2 a2.2 fun z=>⟨fun hz=>(List.mem_cons.mp ((h z).mp (List.mem_cons_of_mem _ hz))).elim (fun q=>absurd (q▸a1.1 z hz) (Int.lt_irrefl _)) id,fun hz=>(List.mem_cons.mp ((h z).mpr (List.mem_cons_of_mem _ hz))).elim (fun q=>absurd (q▸a2.1 z hz) (Int.lt_irrefl _)) id⟩)
theorem S1{x:Int}{l:List Nat}:x∈Lg l↔0<=x/\x.toNat∈l:=by
 unfold Lg
 rw[List.mem_map]
 constructor
 ·rintro⟨a,h,rfl⟩;simpa using h
 ·rintro⟨h,h'⟩;exact⟨x.toNat,h',(Q15 h)⟩
theorem V3{m:Nat}(p:Nat->Bool):(Lg ((List.range m).filter p)).Pairwise (· < ·):=by
 unfold Lg
 rw[List.pairwise_map]
 exact(List.pairwise_lt_range.filter p).imp fun h=>(Int.ofNat_lt.mpr h)
noncomputable def D9(m:Nat)(A:Nat->Nat->Bool)(i:Nat):List Int:=Lg ((List.range m).filter (A i))
theorem G7{m:Nat}{A:Nat->Nat->Bool}{i:Nat}{x:Int}:x∈D9 m A i↔0<=x/\x<m/\A i x.toNat=true:=by
 unfold D9
 rw[S1,List.mem_filter,List.mem_range]
 constructor
 ·rintro⟨h1,h2,h3⟩;exact⟨h1,(Q3 h2),h3⟩
 ·rintro⟨h1,h2,h3⟩;exact⟨h1,(Q10 h1 h2),h3⟩
theorem Uj{m:Nat}{A:Nat->Nat->Bool}{i:Nat}:(D9 m A i).length<=m:=by
 unfold D9 Lg
 rw[List.length_map]
 exact Nat.le_trans (List.length_filter_le _ _) (by simp)
theorem S2{m:Nat}{A:Nat->Nat->Bool}{i:Nat}{l:List Int}(h:l.Nodup)(hm:∀x,x∈l↔0<=x/\x<m/\A i x.toNat=true):B9 l=D9 m A i:=
 Aaz (S0 h) (V3 _) fun x=>by rw[Lh,hm];exact G7.symm
variable {G:Ax} {n:Nat} {H H':AH} {Q:Af} {E:EP} {C:CS} {ρ:Aj}
structure Ii(H H':AH)(a:Nat)(as:List Nat)(m:Nat)(f:Nat->O):Prop where
 ext:Ak H H'
 new:H a=none
 at_:H' a=some (.list (as.map V.ref))
 len:as.length=m
 nodup:as.Nodup
 na:a∉as
 fr:∀x∈as,H x=none
 obj:∀(i x:Nat),as[i]? = some x->H' x=some (f i)
theorem Xh{as:List Nat}{i j x:Nat}(h:as.Nodup)(h1:as[i]? = some x)(h2:as[j]? = some x):i=j:=by
 obtain⟨a1,a2⟩:=List.getElem?_eq_some_iff.mp h1
 obtain⟨b1,b2⟩:=List.getElem?_eq_some_iff.mp h2
 have h':=List.pairwise_iff_getElem.mp h
 rcases Nat.lt_trichotomy i j with q|q|q
 ·exact absurd (a2.trans b2.symm) (h' i j a1 b1 q)
 ·exact q
 ·exact absurd (b2.trans a2.symm) (h' j i b1 a1 q)
theorem Ii.set{a m i x:Nat}{as:List Nat}{f:Nat->O}(c:Ii H H' a as m f)(hx:as[i]? = some x)(o:O):Ii H (upd H' x o) a as m (fun j=>if j=i then o else f j):=by
 have hxm:=List.mem_of_getElem? hx
 have hxa:a≠x:=fun q=>c.na (q▸hxm)
 refine⟨c.ext.upd' (c.fr x hxm),c.new,by rw[upd_ne hxa];exact c.at_,c.len,c.nodup,c.na,c.fr,fun j y hy=>?_⟩
 by_cases hj:j=i
 ·subst hj
  rw[hx]at hy;cases hy
  rw[if_pos rfl,Ab]
 ·rw[if_neg hj,upd_ne (fun q=>hj (Xh c.nodup hy (by rw[q];exact hx)))]
  exact c.obj j y hy
theorem Ii.get{a m i:Nat}{as:List Nat}{f:Nat->O}(c:Ii H H' a as m f)(hi:i<m):(Hn fun x=>Fx (as[i]? = some x) ((as.map V.ref)[i]? = some (.ref x)) (H' x=some (f i))):=by
 have h:i<as.length:=by rw[c.len];exact hi
 refine⟨as[i],List.getElem?_eq_getElem h,?_,c.obj i _ (List.getElem?_eq_getElem h)⟩
 rw[List.getElem?_map,List.getElem?_eq_getElem h];rfl
theorem Ii.congr{a m:Nat}{as:List Nat}{f f':Nat->O}(c:Ii H H' a as m f)(h:∀i,i<m->f i=f' i):Ii H H' a as m f':=
 ⟨c.ext,c.new,c.at_,c.len,c.nodup,c.na,c.fr,fun i x hx=>by
  have:=(List.getElem?_eq_some_iff.mp hx).1
  rw[<-h i (by rw[<-c.len];exact this)];exact c.obj i x hx⟩
theorem Ku{m:Nat}{elt:Aj->AH->(Option V->AH->Prop)->Prop}{o:O}{K:Af}{y:Option V}
 (step:∀i H' K,i<m->(∀x,H' x=none->K (some (.ref x)) (upd H' x o))->elt (some (.int i)::ρ) H' K)
 (fin:∀as H' a,H' a=none->Ii H (upd H' a (.list (as.map V.ref))) a as m (fun _=>o)->K (.ref a) (upd H' a (.list (as.map V.ref)))) :
 Ce (fun _=>True) (.one 0) elt (fun vs H=>An (.list vs) H K) ((List.range m).map fun(i:Nat)=> .v (.int i)) [] (y::ρ) H:=by
 refine Cv (k:=0) (fun i acc H'=>(Hn fun as=>An6 (acc=as.map V.ref) (Ak H H') (as.length=i) (as.Nodup) ((∀x∈as,H x=none)) (∀x∈as,H' x=some o))) ⟨[],rfl,Ak.refl,rfl,List.nodup_nil,fun _ h=>absurd h List.not_mem_nil,fun _ h=>absurd h List.not_mem_nil⟩ ?_ ?_
 ·rintro i x acc H' K' hx ⟨as,rfl,h1,h2,h3,h4,h5⟩ hK
  rw[List.getElem?_map]at hx
  obtain⟨j,hj,rfl⟩:=Option.map_eq_some_iff.mp hx
  obtain⟨hlt,he⟩:=List.getElem?_eq_some_iff.mp hj
  simp at hlt he
  subst he
  refine⟨trivial,_,rfl,step i H' K' hlt fun x hx0=>hK _ _ ⟨as ++ [x],by simp,h1.trans (Ak.upd hx0),by simp[h2],?_,?_,?_⟩⟩
  ·rw[List.nodup_append]
   refine⟨h3,List.pairwise_singleton _ _,fun a ha b hb q=>?_⟩
   simp at hb
   subst hb q
   rw[h5 a ha]at hx0;cases hx0
  ·intro y hy
   rcases List.mem_append.mp hy with hy|hy
   ·exact h4 y hy
   ·simp at hy;subst hy;exact h1.isNone hx0
  ·intro y hy
   rcases List.mem_append.mp hy with hy|hy
   ·exact(Ak.upd hx0) _ _ (h5 y hy)
   ·simp at hy;subst hy;exact Ab
 ·rintro acc H' ⟨as,rfl,h1,h2,h3,h4,h5⟩
  refine⟨trivial,fun a ha=>fin as H' a ha ?_⟩
  have hna:a∉as:=fun q=>by rw[h5 a q]at ha;cases ha
  exact⟨h1.trans (Ak.upd ha),h1.isNone ha,Ab,by simpa using h2,h3,hna,h4,fun i x hx=>(Ak.upd ha) _ _ (h5 x (List.mem_of_getElem? hx))⟩
theorem Jv{a:Nat}{as:List Nat}{ps:List (Int×Int)}{t u:Nat}{body:Aj->AH->(Aj->AH->Prop)->Prop}{N:Aj->AH->Prop}(I:Nat->Aj->AH->Prop)(h0:I 0 ρ H)(hg:∀i ρ H,I i ρ H->H a=some (.list (as.map V.ref))/\Ay H as ps)
 (step:∀i p ρ H K,ps[i]? = some p->I i ρ H->(∀ρ'' H'',I (i+1) ρ'' H''->K ρ'' H'')->body ((ρ.set t (some (.int p.1))).set u (some (.int p.2))) H K) (fin:∀ρ H,I ps.length ρ H->N ρ H) :
 Dx (fun H=>H a=some (.list (as.map V.ref))) (.two t u) body N ((as.map V.ref).map .v) ρ H:=by
 have hl:as.length=ps.length:=(hg _ _ _ h0).2.len
 refine Ie (k:=0) I h0 (fun i x ρ H K hx hI hK=>⟨(hg _ _ _ hI).1,?_⟩) fun ρ H hI=>⟨(hg _ _ _ hI).1,fin ρ H (by simpa[hl]using hI)⟩
 rw[List.getElem?_map,List.getElem?_map]at hx
 refine Aa fun nY=>?_
 obtain⟨v,hv,rfl⟩:=Option.map_eq_some_iff.mp hx
 obtain⟨x,hx',rfl⟩:=Option.map_eq_some_iff.mp hv
 obtain⟨p,hp,hpx⟩:=(hg _ _ _ hI).2.ex hx'
 refine nY ?_;clear nY
 show (match H x with|some (.tuple [x,y])=>body ((ρ.set t (some x)).set u (some y)) H K|_=>False)
 rw[hpx]
 exact step i p ρ H K hp (by simpa using hI) fun ρ'' H'' h=>hK ρ'' H'' (by simpa using h)
set_option linter.all false
variable {G:Ax} {n:Nat} {H H':AH} {Q:Af} {E:EP} {C:CS} {ρ:Aj}
theorem Afh{g:Str}{v:V}(h:G.const g=some v):Am G C (.glob g) ρ H Q E=Q v H:=by rw[A3,h]
theorem S3(y:Int)(l:List Int):Wg (.int y) (l.map V.int)=some (decide (y∈l)):=by
 unfold Wg
 induction l with
 | nil=>rfl
 | cons x r ih=>
   show (Th ((r.map V.int).map fun z=>Xu z (.int y))).map (decide (x=y) || ·)=_
   rw[ih]
   simp only[Option.map_some,List.mem_cons]
   congr 1
   rw[show decide (x=y)=decide (y=x)from decide_eq_decide.mpr eq_comm]
   by_cases h:y=x<;>by_cases h':y∈r<;>simp[h,h']
theorem Adf{y:Int}{a:Nat}{l:List Int}(h:LI H a l):Ca .In (.int y) (.ref a) H Q=Q (.bool (decide (y∈l))) H:=by
 unfold LI at h
 delta Ca;(try dsimp only);(try delta P6);(try dsimp only[A2]);rw[h];(try dsimp only[Ap]);rw[S3];(try dsimp only[Fy])
theorem Qu{y:Int}{a:Nat}{l:List Int}(h:LI H a l):Ca .NotIn (.int y) (.ref a) H Q=Q (.bool (!decide (y∈l))) H:=by
 unfold LI at h
 delta Ca;(try dsimp only);(try delta P6);(try dsimp only[A2]);rw[h];(try dsimp only[Ap]);rw[S3];(try dsimp only[Fy])
theorem N9(l:List Int):ints? (l.map V.int)=some l:=by
 induction l with
 | nil=>rfl
 | cons x r ih=>exact(show ints? ((x::r).map V.int)=(ints? (r.map V.int)).map (x :: ·)from rfl).trans (by rw[ih];rfl)
theorem Mv{a:Nat}{l:List Int}(h:LI H a l)(hl:l.length<64):D3 .sorted [.ref a] H Q=An (.list ((B9 l).map V.int)) H Q:=by
 unfold LI at h
 delta D3;dsimp only;(first|delta Lk|delta Hp|delta Gd|delta Ll|delta Lm);(try dsimp only[A2,Ap,We,Oj,Ux]);rw[h];(try dsimp only[Hm,Xr]);rw[N9];(try dsimp only[Hm,Fy])
 exact propext ⟨fun h=>h.2,fun q=>⟨hl,q⟩⟩
theorem Aa0{a:Nat}{l:List Int}(h:LI H a l)(hl:l.length<64)(kk:An (.list ((B9 l).map V.int)) H Q):D3 .sorted [.ref a] H Q:=Eq.mpr (Mv h hl) kk
theorem Adg{a:Nat}{es:List (Int×V)}(h:H a=some (.dict es))(hl:es.length<64):D3 .sorted [.ref a] H Q=An (.list ((B9 (es.map (·.1))).map V.int)) H Q:=by
 delta D3;dsimp only;(first|delta Lk|delta Hp|delta Gd|delta Ll|delta Lm);(try dsimp only[A2,Ap,We,Oj,Ux]);rw[h];(try dsimp only[Hm,Xr])
 exact propext ⟨fun h=>h.2,fun q=>⟨hl,q⟩⟩
theorem Oa{a:Nat}{es:List (Int×V)}{k:Int}{v:V}{N:AH->Prop}(h:H a=some (.dict es))(hl:es.length<1048576):setItem (.ref a) (.int k) v H N=N (upd H a (.dict (C3 es k v))):=by
 delta setItem;(try dsimp only[A2,Ap]);rw[h];(try dsimp only)
 exact propext ⟨fun h=>h.2,fun q=>⟨hl,q⟩⟩
theorem Iw(es:List (Int×V))(k:Int)(v:V):(C3 es k v).map (·.1)=if k∈es.map (·.1)then es.map (·.1)else es.map (·.1) ++ [k]:=by
 induction es with
 | nil=>simp[C3]
 | cons e r ih=>
   obtain⟨k',v'⟩:=e
   unfold C3
   by_cases h:k=k'
   ·subst h;simp
   ·rw[if_neg h,List.map_cons,ih]
    by_cases h':k∈r.map (·.1)
    ·rw[if_pos h',if_pos (by simp only[List.map_cons];exact List.mem_cons_of_mem _ h')];rfl
    ·rw[if_neg h',if_neg (by simp only[List.map_cons,List.mem_cons];rintro(q|q);exact h q;exact h' q)];rfl
noncomputable abbrev Rb(ps:List (Int×Int))(x y:Int):Prop:=(x,y)∈ps\/(y,x)∈ps
noncomputable def Jw(ps:List (Int×Int))(i j:Nat):Bool:=decide (Rb ps i j)
noncomputable def Eo(m:Nat)(ps:List (Int×Int)):Prop:=∀p∈ps,(0<=p.1/\p.1<m)/\(0<=p.2/\p.2<m)/\p.1≠p.2
theorem Rb.in_{m:Nat}{ps:List (Int×Int)}{x y:Int}(g:Eo m ps)(h:Rb ps x y):(0<=x/\x<m)/\(0<=y/\y<m)/\x≠y:=by
 rcases h with h|h
 ·exact g _ h
 ·have:=g _ h;exact⟨this.2.1,this.1,Ne.symm this.2.2⟩
theorem Rb.symm{ps:List (Int×Int)}{x y:Int}(h:Rb ps x y):Rb ps y x:=Or.symm h
theorem E4{ps:List (Int×Int)}{t:Nat}{p:Int×Int}(h:ps[t]? = some p)(x y:Int):Rb (ps.take (t+1)) x y↔Rb (ps.take t) x y\/(x=p.1/\y=p.2)\/(x=p.2/\y=p.1):=by
 obtain⟨a,b⟩:=p
 unfold Rb
 rw[List.take_add_one,h]
 simp only[Option.toList_some,List.mem_append,List.mem_singleton,Prod.mk.injEq]
 constructor
 ·rintro((h|h)|(h | ⟨h1,h2⟩))
  ·exact .inl (.inl h)
  ·exact .inr (.inl h)
  ·exact .inl (.inr h)
  ·exact .inr (.inr ⟨h2,h1⟩)
 ·rintro((h|h)|(h | ⟨h1,h2⟩))
  ·exact .inl (.inl h)
  ·exact .inr (.inl h)
  ·exact .inl (.inr h)
  ·exact .inr (.inr ⟨h2,h1⟩)
theorem Eo.take{m t:Nat}{ps:List (Int×Int)}(g:Eo m ps):Eo m (ps.take t):=fun p hp=>g p (List.mem_of_mem_take hp)
noncomputable def Dw(H:AH)(a m:Nat)(A:Nat->Nat->Bool):Prop:=(Hn fun(as:List Nat)=>Fx (H a=some (.list (as.map V.ref))) (as.length=m) (∀(i x:Nat),as[i]? = some x->LI H x (D9 m A i)))
theorem Dw.ext{a m:Nat}{A:Nat->Nat->Bool}(h:Dw H a m A)(e:Ak H H'):Dw H' a m A:=by
 obtain⟨as,h1,h2,h3⟩:=h
 exact⟨as,e _ _ h1,h2,fun i x q=>(h3 i x q).ext e⟩
noncomputable def Da(H:AH)(w m:Nat)(A:Nat->Nat->Bool):Prop:=(Ho fun(d rs:Nat)=>Fx (H w=some (.inst .web d)) (H d=some (.ns [(.many,.int m),(.rows,.ref rs)])) (Dw H rs m A))
theorem Da.ext{w m:Nat}{A:Nat->Nat->Bool}(h:Da H w m A)(e:Ak H H'):Da H' w m A:=by
 refine Aa fun nY=>?_
 obtain⟨d,rs,h1,h2,h3⟩:=h
 refine nY ?_;clear nY
 exact⟨d,rs,e _ _ h1,e _ _ h2,h3.ext e⟩
theorem Kv{a:Nat}{as:List Nat}{row:Nat->List Int}{elt:Aj->AH->(Option V->AH->Prop)->Prop}{Q:List V->AH->Prop}{y:Option V}(hA:H a=some (.list (as.map V.ref)))
 (step:∀i x H₁ (K:Option V->AH->Prop),as[i]? = some x->Ak H H₁->(∀b,H₁ b=none->K (some (.ref b)) (upd H₁ b (.list ((row i).map V.int))))->elt (some (.ref x)::ρ) H₁ K)
 (fin:∀(bs:List Nat) H₁,Ak H H₁->bs.length=as.length->(∀(i x:Nat),bs[i]? = some x->LI H₁ x (row i))->Q (bs.map V.ref) H₁) :
 Ce (fun H'=>H' a=some (.list (as.map V.ref))) (.one 0) elt Q ((as.map V.ref).map .v) [] (y::ρ) H:=by
 refine Cv (k:=0) (fun j acc H₁=>(Hn fun bs=>Jy (acc=bs.map V.ref) (Ak H H₁) (bs.length=j) (∀(i x:Nat),bs[i]? = some x->LI H₁ x (row i)))) ⟨[],rfl,Ak.refl,rfl,fun _ _ h=>absurd h.symm (Option.some_ne_none _)⟩ ?_ ?_
 ·rintro j x acc H₁ K hx ⟨bs,rfl,e,hl,hb⟩ hK
  rw[List.getElem?_map,List.getElem?_map]at hx
  obtain⟨v,hv,rfl⟩:=Option.map_eq_some_iff.mp hx
  obtain⟨x,hx',rfl⟩:=Option.map_eq_some_iff.mp hv
  refine⟨e _ _ hA,_,rfl,step j x H₁ K hx' e fun b hb0=>hK _ _ ⟨bs ++ [b],by simp,e.trans (Ak.upd hb0),by simp[hl],fun i y hy=>?_⟩⟩
  cases Nat.lt_or_ge i bs.length with
  | inl q=>rw[List.getElem?_append_left q]at hy;exact(hb i y hy).ext (Ak.upd hb0)
  | inr q=>
    rw[List.getElem?_append_right q]at hy
    have:i-bs.length=0:=by
     obtain⟨z,_⟩:=List.getElem?_eq_some_iff.mp hy
     simp at z;exact z
    rw[this]at hy
    simp at hy
    subst hy
    have:i=j:=(Q7 hl q this)
    subst this
    exact Ab
 ·rintro acc H₁ ⟨bs,rfl,e,hl,hb⟩
  exact⟨e _ _ hA,fin bs H₁ e (by simpa using hl) hb⟩
theorem Ob{m:Nat}{l:List Int}(h:l.Nodup)(hin:∀x∈l,0<=x/\x<m):l.length<=m:=by
 have:=S2 (A:=fun _ j=>decide ((j:Int)∈l)) (i:=0) (m:=m) h fun x=>by
  constructor
  ·intro hx
   have:=hin x hx
   exact⟨this.1,this.2,by simp only[decide_eq_true_eq];rwa[Int.toNat_of_nonneg this.1]⟩
  ·rintro⟨h1,h2,h3⟩
   simp only[decide_eq_true_eq]at h3
   rwa[Int.toNat_of_nonneg h1]at h3
 have h1:=Kt l
 have h2:= @Uj m (fun _ j=>decide ((j:Int)∈l)) 0
 rw[this]at h1
 exact h1▸h2
theorem V4{m i:Nat}{ps:List (Int×Int)}{l:List Int}(g:Eo m ps)(h:l.Nodup)(hl:∀y,y∈l↔Rb ps i y):B9 l=D9 m (Jw ps) i:=
 S2 h fun x=>by
  rw[hl]
  constructor
  ·intro h
   have:=h.in_ g
   refine⟨this.2.1.1,this.2.1.2,?_⟩
   unfold Jw
   rw[decide_eq_true_eq,Int.toNat_of_nonneg this.2.1.1];exact h
  ·rintro⟨h1,h2,h3⟩
   unfold Jw at h3
   rwa[decide_eq_true_eq,Int.toNat_of_nonneg h1]at h3
theorem Afi(B:Jt G){m t:Nat}{ts:List Nat}{ps:List (Int×Int)}(hm:m<=60)(hT:H t=some (.list (ts.map V.ref)))(hP:Ay H ts ps)(g:Eo m ps)
 (q:∀a H',Ak H H'->H a=none->Dw H' a m (Jw ps)->Q (.ref a) H'):Ad G (n+1) "_law_near" [.int m,.ref t] H Q E:=by
 refine Ag B.near rfl ?_
 simp (disch:=first|decide|omega) only[Zy,Z0,Z2,Z3,List.map,Av,Aw,List.replicate,Ar,Au,M6]
 refine grK ?_
 simp (disch:=first|decide|omega) only[Zg,Zu,Zw,Zx,Z4,A9,Av,Aw,Ae,List.replicate]
 refine⟨by simp[Cg];exact Q34 hm,Ku (o:= .list []) (fun i H' K hi hK=>?_) fun as H' a ha c=>?_⟩
 ·skip
  exact fun x hx=>hK x hx
 refine X7 ?_
 simp (disch:=first|decide|omega) only[Zg,Ae,Ai]
 refine B6 (c.ext _ _ hT) ?_
 refine Jv (ps:=ps) (fun j ρ H₁=>(Tg fun(r3 r4:Option V) (L:Nat->List Int)=>Fx (ρ = [some (.int m),some (.ref t),some (.ref a),r3,r4]) (Ii H H₁ a as m (fun i=> .list ((L i).map V.int))) (∀i,i<m->(L i).Nodup/\∀y,y∈L i↔Rb (ps.take j) i y))) ?_ ?_ ?_ ?_
 ·exact⟨none,none,fun _=>[],rfl,c,fun i hi=>⟨List.nodup_nil,fun y=>by simp[Rb]⟩⟩
 ·rintro i ρ H₁ ⟨r3,r4,L,rfl,c,hL⟩
  exact⟨c.ext _ _ hT,hP.ext c.ext⟩
 ·rintro j p ρ H₁ K hp ⟨r3,r4,L,rfl,c,hL⟩ hK
  have gp:=g p (List.mem_of_getElem? hp)
  obtain⟨x,y⟩:=p
  simp only at gp ⊢
  obtain⟨x1,hx1,hx2,hx3⟩:=c.get (i:=x.toNat) (Abr gp.1.2 gp.2.1.1 gp.2.1.2)
  have hLx:=hL x.toNat (Abr gp.1.2 gp.2.1.1 gp.2.1.2)
  have hLy:=hL y.toNat (Q10 gp.2.1.1 gp.2.1.2)
  have ex:((x.toNat:Nat):Int)=x:=(Q15 gp.1.1)
  have ey:((y.toNat:Nat):Int)=y:=(Q15 gp.2.1.1)
  simp (disch:=first|decide|omega) only[Z2,Z3,Ar,Au,I1]
  refine Ci (!decide (y∈L x.toNat)) (fun Q' h'=>?_) ?_
  ·simp (disch:=first|decide|omega) only[Zg,Zm,Zs,Ae,Ai,Bz c.at_ gp.1.1 hx2,Qu (show LI H₁ x1 (L x.toNat)from hx3)]
   exact h'
  split
  ·rename_i hh
   simp only[Bool.not_eq_true',decide_eq_false_iff_not]at hh
   have hnA:¬Rb (ps.take j) x y:=fun q=>hh ((hLx.2 y).mpr (by rw[ex];exact q))
   have hnx:x∉L y.toNat:=fun q=>hnA (by have:=(hLy.2 x).mp q;rw[ey]at this;exact this.symm)
   have hll:∀i,i<m->((L i).map V.int).length<1048576:=fun i hi=>by
    rw[List.length_map]
    have:=Ob (m:=m) (hL i hi).1 fun z hz=>((((hL i hi).2 z).mp hz).in_ g.take).2.1
    exact Nat.lt_of_le_of_lt (Nat.le_trans this hm) (by decide)
   simp (disch:=first|decide|omega) only[Zg,Zs,Zw,Zx,Zz,Z2,Z3,Ae,Ai,true_and,Cq,Bz c.at_ gp.1.1 hx2,Cp hx3,C0 hx3 (hll _ (Wi gp.1.2 ex))]
   have c1:=c.set hx1 (.list ((L x.toNat).map V.int ++ [.int y]))
   obtain⟨y1,hy1,hy2,hy3⟩:=c1.get (i:=y.toNat) (Wi gp.2.1.2 ey)
   rw[if_neg (show ¬y.toNat=x.toNat by exact Agg gp.2.2 ex ey)]at hy3
   simp (disch:=first|decide|omega) only[true_and,Bz c1.at_ gp.2.1.1 hy2,Cp hy3,C0 hy3 (hll _ (Wi gp.2.1.2 ey))]
   have c2:=c1.set hy1 (.list ((L y.toNat).map V.int ++ [.int x]))
   refine hK _ _ ⟨_,_,fun i=>if i=y.toNat then L y.toNat ++ [x]else if i=x.toNat then L x.toNat ++ [y]else L i,rfl,c2.congr fun i hi=>?_,fun i hi=>?_⟩
   ·by_cases h1:i=y.toNat
    ·simp[h1]
    ·by_cases h2:i=x.toNat
     ·have:¬x.toNat=y.toNat:=(Agh h1 h2)
      simp[h2,this]
     ·simp[h1,h2]
   ·have nd:∀(l:List Int) (z:Int),l.Nodup->z∉l->(l ++ [z]).Nodup:=fun l z h1 h2=>by
     rw[List.nodup_append]
     exact⟨h1,List.pairwise_singleton _ _,fun a ha b hb e=>h2 (by simp at hb;rw[<-hb,<-e];exact ha)⟩
    dsimp only
    by_cases h1:i=y.toNat
    ·subst h1
     rw[if_pos rfl]
     refine⟨nd _ _ hLy.1 hnx,fun z=>?_⟩
     rw[List.mem_append,hLy.2 z,E4 hp,ey]
     simp only[List.mem_singleton]
     constructor
     ·rintro(h|rfl)
      ·exact .inl h
      ·exact .inr (.inr (⟨trivial,rfl⟩))
     ·rintro(h | ⟨h1,h2⟩ | ⟨h1,h2⟩)
      ·exact .inl h
      ·exact absurd h1.symm gp.2.2
      ·exact .inr h2
    ·rw[if_neg h1]
     by_cases h2:i=x.toNat
     ·subst h2
      rw[if_pos rfl]
      refine⟨nd _ _ hLx.1 hh,fun z=>?_⟩
      rw[List.mem_append,hLx.2 z,E4 hp,ex]
      simp only[List.mem_singleton]
      constructor
      ·rintro(h|rfl)
       ·exact .inl h
       ·exact .inr (.inl (⟨trivial,rfl⟩))
      ·rintro(h | ⟨h1,h2⟩ | ⟨h1,h2⟩)
       ·exact .inl h
       ·exact .inr h2
       ·exact absurd h1 gp.2.2
     ·rw[if_neg h2]
      refine⟨(hL i hi).1,fun z=>?_⟩
      rw[(hL i hi).2 z,E4 hp]
      constructor
      ·exact .inl
      ·rintro(h | ⟨h3,h4⟩ | ⟨h3,h4⟩)
       ·exact h
       ·simp only at h3;exact(Abs h2 h3).elim
       ·simp only at h3;exact(Abs h1 h3).elim
  ·rename_i hh
   simp only[Bool.not_eq_true',decide_eq_false_iff_not,Classical.not_not]at hh
   simp (disch:=first|decide|omega) only[Z2]
   have hA:Rb (ps.take j) x y:=by have:=(hLx.2 y).mp hh;rwa[ex]at this
   refine hK _ _ ⟨_,_,L,rfl,c,fun i hi=>⟨(hL i hi).1,fun z=>?_⟩⟩
   rw[(hL i hi).2 z,E4 hp]
   constructor
   ·exact .inl
   ·rintro(h | ⟨h3,h4⟩ | ⟨h3,h4⟩)
    ·exact h
    ·rw[h3,h4];exact hA
    ·rw[h3,h4];exact hA.symm
 ·rintro ρ H₁ ⟨r3,r4,L,rfl,c,hL⟩
  rw[List.take_of_length_le (Nat.le_refl _)]at hL
  refine gvK ?_
  simp (disch:=first|decide|omega) only[Zg,Z4,Av,Aw,Ae,Ai,List.replicate]
  refine B6 c.at_ ?_
  refine⟨by simp[Cg,c.len];exact Q34 hm,Kv (row:=D9 m (Jw ps)) c.at_ (fun i x H₂ K hx e hK=>?_) fun bs H₂ e hbl hb b hb0=>?_⟩
  ·have hi:i<m:=by rw[<-c.len];exact(List.getElem?_eq_some_iff.mp hx).1
   have hxL:LI H₂ x (L i):=e _ _ (c.obj i x hx)
   have hlen:(L i).length<64:=by
    have:=Ob (m:=m) (hL i hi).1 fun z hz=>((((hL i hi).2 z).mp hz).in_ g).2.1
    exact Nat.lt_of_le_of_lt (Nat.le_trans this hm) (by decide)
   simp (disch:=first|decide|omega) only[Zg,Zq,Zw,Zx,Ae,I2,Mv hxL hlen]
   intro b hb
   have:=hK b hb
   rwa[<-V4 g (hL i hi).1 (hL i hi).2]at this
  ·exact q b _ ((c.ext.trans e).trans (Ak.upd hb0)) ((c.ext.trans e).isNone hb0) ⟨bs,Ab,by rw[hbl,c.len],fun i x hx=>(hb i x hx).ext (Ak.upd hb0)⟩
set_option linter.all false
variable {G:Ax} {n:Nat} {H H':AH} {Q:Af} {E:EP} {C:CS} {ρ:Aj}
theorem Li{a d:Nat}{c:Dc}{fs:List (Ee×V)}{t:Ee}{v:V}(h:H a=some (.inst c d))(h':H d=some (.ns fs))(hv:Md fs t=some v):getAttr (.ref a) t H Q=Q v H:=by
 delta getAttr;(try dsimp only[A2]);rw[h];(try dsimp only[Mz]);rw[h'];(try dsimp only[Rd]);rw[hv];(try dsimp only[Fy])
theorem Pt{a d:Nat}{c:Dc}{fs:List (Ee×V)}{t:Ee}{v:V}{N:AH->Prop}(h:H a=some (.inst c d))(h':H d=some (.ns fs))(hl:fs.length<10):setAttr (.ref a) t v H N=N (upd H d (.ns (Me fs t v))):=by
 delta setAttr;(try dsimp only[A2]);rw[h];(try dsimp only[Mz]);rw[h'];(try dsimp only[Rd])
 exact propext ⟨fun h=>h.2,fun q=>⟨hl,q⟩⟩
theorem Adh(B:Jt G){m t:Nat}{ts:List Nat}{ps:List (Int×Int)}(hm:m<=60)(hT:H t=some (.list (ts.map V.ref)))(hP:Ay H ts ps)(g:Eo m ps)
 (q:∀w H',Ak H H'->H w=none->Da H' w m (Jw ps)->Q (.ref w) H'):Ad G (n+2) "web_of" [.int m,.ref t] H Q E:=by
 refine Ag B.webOf rfl ?_
 simp (disch:=first|decide|omega) only[Zy,Z0,Z2,Z3,List.map,Av,Aw,List.replicate,Re]
 refine Ci false (fun Q' h'=>?_) ?_
 ·simp (disch:=first|decide|omega) only[Ze,Zg,Zh,Zn,Bf,Az,Ae,Afh B.most]
  simp only[show decide ((0:Int)<=m)=true from rfl,show decide ((m:Int)<=60)=true by simp;exact Q90 hm,if_pos]
  exact h'
 rw[if_neg (by decide)]
 simp (disch:=first|decide|omega) only[Z2]
 refine X7 ?_
 simp (disch:=first|decide|omega) only[Zg,Ae,Ai]
 refine B6 hT ?_
 refine Jv (ps:=ps) (fun j ρ H₁=>(Ho fun(r3 r4:Option V)=>ρ = [some (.int m),some (.ref t),r3,r4,none]/\H₁=H)) ⟨_,_,rfl,rfl⟩ ?_ ?_ ?_
 ·rintro i ρ H₁ hP11
  refine Aa fun nY=>?_
  obtain⟨r3,r4,rfl,rfl⟩:=hP11
  refine nY ?_;clear nY
  exact⟨hT,hP⟩
 ·rintro j hP12 ρ H₁ K hp hP13 hK
  refine Aa fun nY=>?_
  obtain⟨x,y⟩:=hP12
  obtain⟨r3,r4,rfl,rfl⟩:=hP13
  have gp:=g _ (List.mem_of_getElem? hp)
  refine nY ?_;clear nY
  simp only at gp ⊢
  simp (disch:=first|decide|omega) only[Z2,Z3,Ar,Au,Lp]
  refine Ci false (fun Q' h'=>?_) ?_
  ·simp (disch:=first|decide|omega) only[Ze,Zg,Zh,Zk,Zm,Zn,Bb,Bf,Ba,Az,Ae,Ai]
   simp only[show decide ((0:Int)<=x)=true by simp;exact gp.1.1,show decide (x<(m:Int))=true by simp;exact gp.1.2,show decide ((0:Int)<=y)=true by simp;exact gp.2.1.1,show decide (y<(m:Int))=true by simp;exact gp.2.1.2,show decide (x=y)=false by simp;exact gp.2.2,if_pos,Bool.not_true,Bool.false_eq_true,if_false]
   exact h'
  rw[if_neg (by decide)]
  simp (disch:=first|decide|omega) only[Z2]
  exact hK _ _ ⟨_,_,rfl,rfl⟩
 rintro ρ H₁ hP14
 refine Aa fun nY=>?_
 obtain⟨r3,r4,rfl,rfl⟩:=hP14
 refine nY ?_;clear nY
 try simp (disch:=first|decide|omega) only[Ar,Au]
 refine grK ?_
 simp (disch:=first|decide|omega) only[Zg,Zw,Zx,Z4,A9,Av,Aw,Ae,List.replicate]
 refine⟨by simp[Cg];(first|lia|omega),Ku (o:= .dict []) (fun i H' K hi hK=>?_) fun as H' a ha c=>?_⟩
 ·simp only[Lq,U1]
  exact fun x hx=>hK x hx
 refine X7 ?_
 simp (disch:=first|decide|omega) only[Zg,Ae,Ai]
 refine B6 (c.ext _ _ hT) ?_
 refine Jv (ps:=ps) (fun j ρ H₂=>(Tg fun(r3 r4:Option V) (L:Nat->List (Int×V))=>Fx (ρ = [some (.int m),some (.ref t),r3,r4,some (.ref a)]) (Ii H₁ H₂ a as m (fun i=> .dict (L i))) (∀i,i<m->((L i).map (·.1)).Nodup/\∀y,y∈(L i).map (·.1)↔Rb (ps.take j) i y))) ?_ ?_ ?_ ?_
 ·exact⟨_,_,fun _=>[],rfl,c,fun i hi=>⟨List.nodup_nil,fun y=>by simp[Rb]⟩⟩
 ·rintro i ρ H₂ hP15
  refine Aa fun nY=>?_
  obtain⟨r3,r4,L,rfl,c,hL⟩:=hP15
  refine nY ?_;clear nY
  exact⟨c.ext _ _ hT,hP.ext c.ext⟩
 ·rintro j p ρ H₂ K hp hP16 hK
  refine Aa fun nY=>?_
  obtain⟨r3,r4,L,rfl,c,hL⟩:=hP16
  have gp:=g p (List.mem_of_getElem? hp)
  obtain⟨x,y⟩:=p
  refine nY ?_;clear nY
  simp only at gp ⊢
  refine Aa fun nY=>?_
  obtain⟨x1,hx1,hx2,hx3⟩:=c.get (i:=x.toNat) (Abr gp.1.2 gp.2.1.1 gp.2.1.2)
  have hLx:=hL x.toNat (Abr gp.1.2 gp.2.1.1 gp.2.1.2)
  have hLy:=hL y.toNat (Q10 gp.2.1.1 gp.2.1.2)
  have ex:((x.toNat:Nat):Int)=x:=(Q15 gp.1.1)
  have ey:((y.toNat:Nat):Int)=y:=(Q15 gp.2.1.1)
  have hll:∀i,i<m->(L i).length<1048576:=fun i hi=>by
   have:=Ob (m:=m) (hL i hi).1 fun z hz=>((((hL i hi).2 z).mp hz).in_ g.take).2.1
   rw[List.length_map]at this
   exact Nat.lt_of_le_of_lt (Nat.le_trans this hm) (by decide)
  refine nY ?_;clear nY
  simp (disch:=first|decide|omega) only[Zd,Zg,Zs,Z2,Z3,Ae,Ai,Ar,Au,Lr,Bs,Bz c.at_ gp.1.1 hx2,Oa hx3 (hll _ (show x.toNat<m by exact Wi gp.1.2 ex))]
  have c1:=c.set hx1 (.dict (C3 (L x.toNat) y (.bool true)))
  refine Aa fun nY=>?_
  obtain⟨y1,hy1,hy2,hy3⟩:=c1.get (i:=y.toNat) (Wi gp.2.1.2 ey)
  rw[if_neg (show ¬y.toNat=x.toNat by exact Agg gp.2.2 ex ey)]at hy3
  refine nY ?_;clear nY
  simp (disch:=first|decide|omega) only[Bz c1.at_ gp.2.1.1 hy2,Oa hy3 (hll _ (show y.toNat<m by exact Wi gp.2.1.2 ey))]
  have c2:=c1.set hy1 (.dict (C3 (L y.toNat) x (.bool true)))
  refine hK _ _ ⟨_,_,fun i=>if i=y.toNat then C3 (L y.toNat) x (.bool true)else if i=x.toNat then C3 (L x.toNat) y (.bool true)else L i,rfl,c2.congr fun i hi=>?_,fun i hi=>?_⟩
  ·refine Aa fun nY=>?_
   by_cases h1:i=y.toNat
   ·refine nY ?_;clear nY
    simp[h1]
   ·by_cases h2:i=x.toNat
    ·have:¬x.toNat=y.toNat:=(Agh h1 h2)
     refine nY ?_;clear nY
     simp[h2,this]
    ·refine nY ?_;clear nY
     simp[h1,h2]
  ·have nd:∀(l:List Int) (z:Int),l.Nodup->z∉l->(l ++ [z]).Nodup:=fun l z h1 h2=>by
    rw[List.nodup_append]
    exact⟨h1,List.pairwise_singleton _ _,fun a ha b hb e=>h2 (by simp at hb;rw[<-hb,<-e];exact ha)⟩
   have nd2:∀(es:List (Int×V)) (k:Int) (v:V),(es.map (·.1)).Nodup->((C3 es k v).map (·.1)).Nodup:=fun es k v h=>by
    rw[Iw]
    split
    ·exact h
    ·exact nd _ _ h (by assumption)
   have mm:∀(es:List (Int×V)) (k:Int) (v:V) (z:Int),z∈(C3 es k v).map (·.1)↔z∈es.map (·.1)\/z=k:=fun es k v z=>by
    rw[Iw]
    split
    ·rename_i hk
     exact⟨.inl,fun h=>h.elim id fun e=>e▸hk⟩
    ·rw[List.mem_append,List.mem_singleton]
   dsimp only
   refine Aa fun nY=>?_
   by_cases h1:i=y.toNat
   ·subst h1
    refine nY ?_;clear nY
    rw[if_pos rfl]
    refine⟨nd2 _ _ _ hLy.1,fun z=>?_⟩
    rw[mm,hLy.2 z,E4 hp,ey]
    constructor
    ·rintro(h|rfl)
     ·exact .inl h
     ·exact .inr (.inr (⟨rfl,rfl⟩))
    ·rintro(h | ⟨h1,h2⟩ | ⟨h1,h2⟩)
     ·exact .inl h
     ·exact absurd h1.symm gp.2.2
     ·exact .inr h2
   ·refine nY ?_;clear nY
    rw[if_neg h1]
    refine Aa fun nY=>?_
    by_cases h2:i=x.toNat
    ·subst h2
     refine nY ?_;clear nY
     rw[if_pos rfl]
     refine⟨nd2 _ _ _ hLx.1,fun z=>?_⟩
     rw[mm,hLx.2 z,E4 hp,ex]
     constructor
     ·rintro(h|rfl)
      ·exact .inl h
      ·exact .inr (.inl (⟨rfl,rfl⟩))
     ·rintro(h | ⟨h1,h2⟩ | ⟨h1,h2⟩)
      ·exact .inl h
      ·exact .inr h2
      ·exact absurd h1 gp.2.2
    ·refine nY ?_;clear nY
     rw[if_neg h2]
     refine⟨(hL i hi).1,fun z=>?_⟩
     rw[(hL i hi).2 z,E4 hp]
     constructor
     ·exact .inl
     ·rintro(h | ⟨h3,h4⟩ | ⟨h3,h4⟩)
      ·exact h
      ·simp only at h3;exact(Abs h2 h3).elim
      ·simp only at h3;exact(Abs h1 h3).elim
 ·rintro ρ H₂ hP17
  refine Aa fun nY=>?_
  obtain⟨r3,r4,L,rfl,c,hL⟩:=hP17
  rw[List.take_of_length_le (Nat.le_refl _)]at hL
  refine nY ?_;clear nY
  refine Agr ?_
  refine⟨by rw[show Fl .web=Str.ofString "Web.__init__" from rfl,B.init];rfl,?_⟩
  simp (disch:=first|decide|omega) only[Zg,Zw,Zx,Ae]
  refine gvK ?_
  simp (disch:=first|decide|omega) only[Zg,Z4,Av,Aw,Ae,Ai,List.replicate]
  refine B6 c.at_ ?_
  refine⟨by simp[Cg,c.len];exact Q34 hm,Kv (row:=D9 m (Jw ps)) c.at_ (fun i x H₂ K hx e hK=>?_) fun bs H₂ e hbl hb b hb0=>?_⟩
  ·have hi:i<m:=by rw[<-c.len];exact(List.getElem?_eq_some_iff.mp hx).1
   have hxL:H₂ x=some (.dict (L i)):=e _ _ (c.obj i x hx)
   have hlen:(L i).length<64:=by
    have:=Ob (m:=m) (hL i hi).1 fun z hz=>((((hL i hi).2 z).mp hz).in_ g).2.1
    rw[List.length_map]at this
    exact Nat.lt_of_le_of_lt (Nat.le_trans this hm) (by decide)
   simp (disch:=first|decide|omega) only[Zg,Zq,Zw,Zx,Ae,Ls,Adg hxL hlen]
   intro b hb
   have:=hK b hb
   rwa[<-V4 g (hL i hi).1 (hL i hi).2]at this
  ·intro w d hw hd hwd
   have eb:Ak H₂ (upd H₂ b (.list (bs.map V.ref))):=Ak.upd hb0
   have hnb:Dw (upd H₂ b (.list (bs.map V.ref))) b m (Jw ps):=⟨bs,Ab,by rw[hbl,c.len],fun i x hx=>(hb i x hx).ext eb⟩
   have eH:=(c.ext.trans e).trans eb
   generalize upd H₂ b (.list (bs.map V.ref))=H₃ at *
   refine Ag B.init rfl ?_
   have hw1:upd (upd H₃ d (.ns [])) w (.inst .web d) w=some (.inst .web d):=Ab
   have hd1:upd (upd H₃ d (.ns [])) w (.inst .web d) d=some (.ns []):=by rw[upd_ne (Ne.symm hwd),Ab]
   have hw2:upd (upd (upd H₃ d (.ns [])) w (.inst .web d)) d (.ns (Me [] .many (.int m))) w=some (.inst .web d):=by rw[upd_ne hwd];exact hw1
   have hd2:upd (upd (upd H₃ d (.ns [])) w (.inst .web d)) d (.ns (Me [] .many (.int m))) d=some (.ns (Me [] .many (.int m))):=Ab
   simp (disch:=first|decide|omega) only[Zg,Z2,Z3,List.map,Av,Aw,Ae,Ai,true_and,J4,Cr,Pt hw1 hd1 (by decide),Pt hw2 hd2 (show (Me [] Ee.many (V.int m)).length<10 from(by decide:(1:Nat)<10))]
   refine q w _ ?_ (eH.isNone hw) ⟨d,b,?_,Ab,hnb.ext ?_⟩
   ·exact(((eH.trans (Ak.upd hd)).upd' (eH.isNone hw)).upd' (eH.isNone hd)).upd' (eH.isNone hd)
   ·rw[upd_ne hwd];exact hw2
   ·exact(((Ak.upd hd).upd' hw).upd' hd).upd' hd
theorem Uk(B:Jt G){w m:Nat}{A:Nat->Nat->Bool}{x:Int}(hW:Da H w m A)(h0:0<=x)(h1:x<m)(q:Q .none H):Ad G (n+1) "Web.need" [.ref w,.int x] H Q E:=by
 refine Aa fun nY=>?_
 obtain⟨d,rs,h2,h3,h4⟩:=hW
 refine nY ?_;clear nY
 refine Ag B.need rfl ?_
 simp (disch:=first|decide|omega) only[Z2,Z3,List.map,Av,Aw,M2]
 refine Ci false (fun Q' h'=>?_) ?_
 ·simp (disch:=first|decide|omega) only[Ze,Zg,Zh,Zn,Zr,Bb,Bf,Az,Ae,Ai,Li h2 h3 (show Md [(Ee.many,V.int m),(Ee.rows,V.ref rs)] .many=some (.int m)from rfl)]
  simp only[show decide ((0:Int)<=x)=true by simp;exact h0,show decide (x<(m:Int))=true by simp;exact h1,if_pos]
  exact h'
 rw[if_neg (by decide)]
 simp (disch:=first|decide|omega) only[Z2]
 exact q
theorem Dw.row{a m:Nat}{A:Nat->Nat->Bool}(h:Dw H a m A){x:Int}(h0:0<=x)(h1:x<m):(Ho fun(as:List Nat) (y:Nat)=>Jy (H a=some (.list (as.map V.ref))) (as.length=m) ((as.map V.ref)[x.toNat]? = some (.ref y)) (LI H y (D9 m A x.toNat))):=by
 refine Aa fun nY=>?_
 obtain⟨as,a1,a2,a3⟩:=h
 have hl:x.toNat<as.length:=(Nat.lt_of_lt_of_eq ((Int.toNat_lt h0).mpr h1) a2.symm)
 refine nY ?_;clear nY
 exact⟨as,as[x.toNat],a1,a2,by rw[List.getElem?_map,List.getElem?_eq_getElem hl];rfl,a3 _ _ (List.getElem?_eq_getElem hl)⟩
theorem Mw{m:Nat}{A:Nat->Nat->Bool}{x y:Int}(h0:0<=y)(h1:y<m):decide (y∈D9 m A x.toNat)=A x.toNat y.toNat:=by
 by_cases h:A x.toNat y.toNat=true
 ·rw[h,decide_eq_true_eq,G7];exact⟨h0,h1,h⟩
 ·rw[Bool.not_eq_true]at h
  rw[h,decide_eq_false_iff_not,G7]
  rintro⟨_,_,q⟩;rw[h]at q;cases q
theorem Qv(B:Jt G){w m:Nat}{A:Nat->Nat->Bool}{x y:Int}(hW:Da H w m A)(h0:0<=x)(h1:x<m)(h2:0<=y)(h3:y<m)(q:Q (.bool (A x.toNat y.toNat)) H):Ad G (n+2) "Web.tied" [.ref w,.int x,.int y] H Q E:=by
 have hW':=hW
 refine Aa fun nY=>?_
 obtain⟨d,rs,w1,w2,w3⟩:=hW'
 obtain⟨as,z,a1,a2,a3,a4⟩:=w3.row h0 h1
 refine nY ?_;clear nY
 refine Ag B.tied rfl ?_
 simp (disch:=first|decide|omega) only[Zg,Zm,Zr,Zs,Zw,Zx,Zz,Z0,Z2,Z3,List.map,Av,Aw,Ae,Ai,A0,true_and,M3,A6,Hq,Hr,Lo,w1,w2,B.need]
 refine Uk B hW h0 h1 ?_
 (try dsimp only)
 simp only[Hq,w1,Hr,w2,Lo]
 refine Uk B hW h2 h3 ?_
 simp (disch:=first|decide|omega) only[Li w1 w2 (show Md [(Ee.many,V.int m),(Ee.rows,V.ref rs)] .rows=some (.ref rs)from rfl),Bz a1 h0 a3,Adf a4,Mw h2 h3]
 exact q
set_option linter.all false
variable {G:Ax} {n:Nat} {H H':AH} {Q:Af} {E:EP} {C:CS} {ρ:Aj}
theorem G8{g:AH->Prop}{l:List Int}{h:Int->V}{elt:Aj->AH->(Option V->AH->Prop)->Prop}{Q:List V->AH->Prop}{y:Option V}(hg:g H)
 (step:∀x∈l,∀K:Option V->AH->Prop,K (some (h x)) H->elt (some (.int x)::ρ) H K) (fin:Q (l.map h) H):Ce g (.one 0) elt Q ((l.map V.int).map .v) [] (y::ρ) H:=by
 refine G6 (f:=fun v=>match v with | .int x=>some (h x)|_=>none) hg (fun v hv K hK=>?_) ?_
 ·obtain⟨x,hx,rfl⟩:=List.mem_map.mp hv
  exact step x hx K hK
 ·rw[List.filterMap_map]
  have:l.filterMap ((fun v=>match v with | .int x=>some (h x)|_=>none)∘V.int)=l.map h:=by
   rw[<-List.filterMap_eq_map];rfl
  rw[this];exact fin
theorem Ij{g:AH->Prop}{l:List Int}{p:Int->Bool}{elt:Aj->AH->(Option V->AH->Prop)->Prop}{Q:List V->AH->Prop}{y:Option V}(hg:g H)
 (step:∀x∈l,∀K:Option V->AH->Prop,K (if p x then some (.int x)else none) H->elt (some (.int x)::ρ) H K) (fin:Q ((l.filter p).map V.int) H):Ce g (.one 0) elt Q ((l.map V.int).map .v) [] (y::ρ) H:=by
 refine G6 (f:=fun v=>match v with | .int x=>if p x then some (.int x)else none|_=>none) hg (fun v hv K hK=>?_) ?_
 ·obtain⟨x,hx,rfl⟩:=List.mem_map.mp hv
  exact step x hx K hK
 ·rw[List.filterMap_map]
  have:l.filterMap ((fun v=>match v with | .int x=>if p x then some (.int x)else none|_=>none)∘V.int)=(l.filter p).map V.int:=by
   clear fin step
   induction l with
   | nil=>rfl
   | cons x r ih=>
     rw[List.filterMap_cons,ih,List.filter_cons]
     by_cases hp:p x=true<;>simp[hp,Function.comp]
  rw[this];exact fin
theorem Lj{a:Nat}{xs:List V}{t u:Nat}{body:Aj->AH->(Aj->AH->Prop)->Prop}{N:Aj->AH->Prop}(I:Nat->Aj->AH->Prop)(h0:I 0 ρ H)(hg:∀i ρ H,I i ρ H->H a=some (.list xs))
 (step:∀i x ρ H K,xs[i]? = some x->I i ρ H->(∀ρ'' H'',I (i+1) ρ'' H''->K ρ'' H'')->body ((ρ.set t (some (.int i))).set u (some x)) H K) (fin:∀ρ H,I xs.length ρ H->N ρ H) :
 Dx (fun H=>H a=some (.list xs)) (.two t u) body N (xs.mapIdx fun i x=> .pair (.int i) x) ρ H:=by
 refine Ie (k:=0) I h0 (fun i x ρ H K hx hI hK=>⟨hg _ _ _ hI,?_⟩) fun ρ H hI=>⟨hg _ _ _ hI,fin ρ H (by simpa using hI)⟩
 rw[List.getElem?_mapIdx]at hx
 obtain⟨j,hj,rfl⟩:=Option.map_eq_some_iff.mp hx
 exact step i j ρ H K hj (by simpa using hI) fun ρ'' H'' h=>hK ρ'' H'' (by simpa using h)
theorem Ul{α0:Type}{a:Nat}{xs:List V}{t u:Nat}{body:Aj->AH->(Aj->AH->Prop)->Prop}{N:Aj->AH->Prop}(f:Nat->α0->Aj)(T:Nat->α0->AH->Prop)(x0:α0)(hρ:ρ=f 0 x0)(h0:T 0 x0 H)(hg:∀i x0 H,T i x0 H->H a=some (.list xs))(step:∀i x y0 H K,xs[i]? = some x->T i y0 H->(∀z0 H'',T (i+1) z0 H''->K (f (i+1) z0) H'')->body (((f i y0).set t (some (.int i))).set u (some x)) H K)(fin:∀x0 H,T xs.length x0 H->N (f xs.length x0) H):Dx (fun H=>H a=some (.list xs)) (.two t u) body N (xs.mapIdx fun i x=> .pair (.int i) x) ρ H:=by
 refine Lj (fun i ρ H=>∃x0,ρ=f i x0/\T i x0 H) ⟨x0,hρ,h0⟩ (fun i _ H h=>?_) (fun i x _ H K hx h hK=>?_) fun _ H h=>?_
 ·obtain⟨x0,_,h⟩:=h;exact hg _ _ _ h
 ·obtain⟨y0,rfl,h⟩:=h;exact step i x y0 H K hx h fun z0 H'' h'=>hK _ _ ⟨z0,rfl,h'⟩
 ·obtain⟨x0,rfl,h⟩:=h;exact fin _ _ h
theorem S4{α0 α1 α2:Type}{a:Nat}{xs:List V}{t u:Nat}{body:Aj->AH->(Aj->AH->Prop)->Prop}{N:Aj->AH->Prop}(f:Nat->α0->α1->α2->Aj)(T:Nat->α0->α1->α2->AH->Prop)(x0:α0)(x1:α1)(x2:α2)(hρ:ρ=f 0 x0 x1 x2)(h0:T 0 x0 x1 x2 H)(hg:∀i x0 x1 x2 H,T i x0 x1 x2 H->H a=some (.list xs))(step:∀i x y0 y1 y2 H K,xs[i]? = some x->T i y0 y1 y2 H->(∀z0 z1 z2 H'',T (i+1) z0 z1 z2 H''->K (f (i+1) z0 z1 z2) H'')->body (((f i y0 y1 y2).set t (some (.int i))).set u (some x)) H K)(fin:∀x0 x1 x2 H,T xs.length x0 x1 x2 H->N (f xs.length x0 x1 x2) H):Dx (fun H=>H a=some (.list xs)) (.two t u) body N (xs.mapIdx fun i x=> .pair (.int i) x) ρ H:=
 Ul (fun i p=>f i p.1 p.2.1 p.2.2) (fun i p=>T i p.1 p.2.1 p.2.2) (x0,x1,x2) hρ h0 (fun i p=>hg i p.1 p.2.1 p.2.2) (fun i x p H K hx h hK=>step i x p.1 p.2.1 p.2.2 H K hx h fun z0 z1 z2 H' h'=>hK (z0,z1,z2) H' h') fun p=>fin p.1 p.2.1 p.2.2
theorem Pu(l:List Bool):bools? (l.map V.bool)=some l:=by
 induction l with
 | nil=>rfl
 | cons x r ih=>exact(show bools? ((x::r).map V.bool)=(bools? (r.map V.bool)).map (x :: ·)from rfl).trans (by rw[ih];rfl)
theorem Ahd{a:Nat}{l:List Bool}(h:H a=some (.list (l.map V.bool))):D3 .all [.ref a] H Q=Q (.bool (l.all id)) H:=by delta D3;dsimp only;(first|delta Lk|delta Hp|delta Gd|delta Ll|delta Lm);(try dsimp only[A2,Ap,We,Oj,Ux]);rw[h];(try dsimp only[Hm,Xr]);rw[Pu];(try dsimp only[Hm,Fy])
theorem Afj{a:Nat}{l:List Bool}(h:H a=some (.list (l.map V.bool)))(kk:Q (.bool (l.all id)) H):D3 .all [.ref a] H Q:=Eq.mpr (Ahd h) kk
theorem Ahe{a:Nat}{l:List Bool}(h:H a=some (.list (l.map V.bool))):D3 .any [.ref a] H Q=Q (.bool (l.any id)) H:=by delta D3;dsimp only;(first|delta Lk|delta Hp|delta Gd|delta Ll|delta Lm);(try dsimp only[A2,Ap,We,Oj,Ux]);rw[h];(try dsimp only[Hm,Xr]);rw[Pu];(try dsimp only[Hm,Fy])
theorem Afk{a:Nat}{l:List Bool}(h:H a=some (.list (l.map V.bool)))(kk:Q (.bool (l.any id)) H):D3 .any [.ref a] H Q:=Eq.mpr (Ahe h) kk
noncomputable def fu(A:Nat->Nat->Bool):List Int->Option (Int×Int)
 | []=>none
 | x::r=>match r.find? (fun y=> !A x.toNat y.toNat)with
   | some y=>some (x,y)
   | none=>fu A r
theorem Qw{A:Nat->Nat->Bool}{x:Int}{r:List Int}:fu A (x::r)=match r.find? (fun y=> !A x.toNat y.toNat)with
 | some y=>some (x,y)
 | none=>fu A r:=rfl
theorem Adi{A:Nat->Nat->Bool}:∀ {l:List Int},fu A l=none↔l.Pairwise (fun x y=>A x.toNat y.toNat=true):=by
 intro l
 induction l with
 | nil=>exact⟨fun _=> .nil,fun _=>rfl⟩
 | cons x r ih=>
   rw[Qw,List.pairwise_cons]
   cases h:r.find? (fun y=> !A x.toNat y.toNat)with
   | some y=>exact⟨fun q=>absurd q (Option.some_ne_none _),fun q=>absurd (q.1 y (List.mem_of_find?_eq_some h)) (Bool.eq_false_iff.mp ((Bool.not_eq_true' _).mp (List.find?_some (p:=fun y:Int=> !A x.toNat y.toNat) h)))⟩
   | none=>exact ih.trans ⟨fun q=>⟨fun y hy=>(Bool.not_eq_false' _).mp (Bool.eq_false_iff.mpr (List.find?_eq_none.mp h y hy)),q⟩,fun q=>q.2⟩
theorem LI.at_{a:Nat}{l:List Int}{i:Nat}{v:V}(hv:(l.map V.int)[i]? = some v):∃x,l[i]? = some x/\v = .int x:=by
 rw[List.getElem?_map]at hv
 obtain⟨x,hx,rfl⟩:=Option.map_eq_some_iff.mp hv
 exact⟨x,hx,rfl⟩
theorem C2{l:List Int}{i:Nat}{x:Int}(h:l[i]? = some x):l.drop i=x::l.drop (i+1):=by
 obtain⟨h1,h2⟩:=List.getElem?_eq_some_iff.mp h
 rw[List.drop_eq_getElem_cons h1,h2]
theorem O0(B:Jt G)(hG:G.fn "first_untied" = some Ex){w m r:Nat}{A:Nat->Nat->Bool}{l:List Int}(hW:Da H w m A)(hL:LI H r l)(hin:∀x∈l,0<=x/\x<m)
 (q:∀H',Ak H H'->match fu A l with|none=>Q .none H'|some (x,y)=>∀a,H' a=none->Q (.ref a) (upd H' a (.tuple [.int x,.int y]))):Ad G (n+3) "first_untied" [.ref w,.ref r] H Q E:=by
 refine Ag hG rfl ?_
 simp (disch:=first|decide|omega) only[Zb,Z0,Z2,Z3,List.map,Av,Aw,List.replicate,Ex]
 refine X5 (Abv ?_)
 simp (disch:=first|decide|omega) only[Zg,Ae,Ai]
 refine Aar hL ?_
 refine S4 (fun i r2 r3 r4=>[some (.ref w),some (.ref r),r2,r3,r4]) (fun i r2 r3 r4 H₁=>(Ak H H₁)/\(fu A l=fu A (l.drop i))) none none none rfl ⟨Ak.refl,rfl⟩ ?_ ?_ ?_
 ·rintro i r2 r3 r4 H₁ ⟨e,hf⟩
  exact e _ _ hL
 ·rintro i v r2 r3 r4 H₁ K hv ⟨e,hf⟩ hK
  obtain⟨x,hx,rfl⟩:=LI.at_ (a:=r) hv
  have hxr:=hin x (List.mem_of_getElem? hx)
  rw[C2 hx,Qw]at hf
  simp (disch:=first|decide|omega) only[Z2,Z3,Ar,Au,Fb]
  refine X7 ?_
  simp (disch:=first|decide|omega) only[Zc,Ze,Zg,Zl,Zt,Z8,Ae,Ai]
  (refine E3 (e _ _ hL) Hj Fv ?_;rw[Ju Abt])
  intro s hs
  rw[show ((i:Int)+1).toNat=i+1 by exact Abu,<-List.map_drop]
  refine B6 Ab ?_
  have eW:=e.trans (Ak.upd (o:= .list ((l.drop (i+1)).map V.int)) hs)
  have hsv:upd H₁ s (.list ((l.drop (i+1)).map V.int)) s=some (.list ((l.drop (i+1)).map V.int)):=Ab
  generalize upd H₁ s (.list ((l.drop (i+1)).map V.int))=H₂ at *
  refine D8 (fun j r4=>[some (.ref w),some (.ref r),some (.int i),some (.int x),r4]) (fun j r4 H₃=>(H₃=H₂)/\((l.drop (i+1)).find? (fun y=> !A x.toNat y.toNat)=((l.drop (i+1)).drop j).find? (fun y=> !A x.toNat y.toNat))) _ rfl ⟨rfl,rfl⟩ ?_ ?_ ?_
  ·rintro j r4 H₃ ⟨rfl,hj⟩;exact hsv
  ·rintro j v r4 H₃ K' hv ⟨rfl,hj⟩ hK'
   obtain⟨y,hy,rfl⟩:=LI.at_ (a:=r) hv
   have hyr:=hin y (List.mem_of_mem_drop (List.mem_of_getElem? hy))
   rw[C2 hy,List.find?_cons]at hj
   obtain⟨d,rs,w1,w2,w3⟩:=hW.ext eW
   simp (disch:=first|decide|omega) only[Z2,Z3,Ar,Au,Fa]
   refine Ci (!A x.toNat y.toNat) (fun Q' h'=>?_) ?_
   ·simp (disch:=first|decide|omega) only[Zg,Zh,Zw,Zx,Ae,Ai,A0,true_and,A6,Hq,Hr,Lo,w1,w2,B.tied]
    exact Qv B (hW.ext eW) hxr.1 hxr.2 hyr.1 hyr.2 h'
   split
   ·rename_i hh
    simp (disch:=first|decide|omega) only[Zg,Zv,Zw,Zx,Z0,Z2,Z3,Ae,Ai]
    rw[hh]at hj
    simp only at hj
    rw[hj]at hf
    have:=q _ eW
    rw[hf]at this
    exact this
   ·rename_i hh
    simp (disch:=first|decide|omega) only[Z2]
    rw[Bool.not_eq_true]at hh
    rw[hh]at hj
    exact hK' _ _ ⟨rfl,hj⟩
  ·rintro r4 H₃ ⟨rfl,hj⟩
   rw[List.length_map,List.drop_of_length_le (Nat.le_refl _),List.find?_nil]at hj
   rw[hj]at hf
   exact hK _ _ _ _ ⟨eW,hf⟩
 ·rintro r2 r3 r4 H₁ ⟨e,hf⟩
  rw[List.length_map,List.drop_of_length_le (Nat.le_refl _)]at hf
  have:=q H₁ e
  rw[hf]at this
  exact this
set_option linter.all false
structure Gr(A:Nat->Nat->Bool):Prop where
 irr:∀i,A i i=false
 symm:∀i j,A i j=A j i
theorem Oc{l:List Int}{i j:Nat}{x:Int}(h:l.Nodup)(h1:l[i]? = some x)(h2:l[j]? = some x):i=j:=by
 obtain⟨a1,a2⟩:=List.getElem?_eq_some_iff.mp h1
 obtain⟨b1,b2⟩:=List.getElem?_eq_some_iff.mp h2
 have h':=List.pairwise_iff_getElem.mp h
 rcases Nat.lt_trichotomy i j with q|q|q
 ·exact absurd (a2.trans b2.symm) (h' i j a1 b1 q)
 ·exact q
 ·exact absurd (b2.trans a2.symm) (h' j i b1 a1 q)
variable {G:Ax} {n:Nat} {H H':AH} {Q:Af} {E:EP} {C:CS} {ρ:Aj}
theorem Adk{n:Nat}{x y:Int}:K0 n H (.int x) (.int y)=some (decide (x=y)):=by cases n<;>rfl
theorem Aa1(n:Nat):∀l l':List Int,l.length=l'.length->Gc (List.zipWith (K0 n H) (l.map V.int) (l'.map V.int))=some (decide (l=l')):=by
 intro l
 induction l with
 | nil=>exact fun l' h=>by cases l' with
   | nil=>rfl
   | cons _ _=>cases h
 | cons x r ih=>exact fun l' h=>by cases l' with
   | nil=>cases h
   | cons y s=>
     show Gc (K0 n H (.int x) (.int y)::List.zipWith (K0 n H) (r.map V.int) (s.map V.int))=_
     rw[Adk]
     show (Gc _).map _=_
     rw[ih s (Nat.succ.inj h)]
     show some (decide (x=y)&&decide (r=s))=_
     rw[<-Bool.decide_and]
     exact congrArg some (decide_eq_decide.mpr List.cons_eq_cons.symm)
theorem Afl{n a b:Nat}{xs ys:List V}(h:H a=some (.list xs))(h':H b=some (.list ys)):K0 (n+1) H (.ref a) (.ref b)=if xs.length=ys.length then Gc (List.zipWith (K0 n H) xs ys)else some false:=by
 conv=>lhs;whnf
 rw[h,h']
theorem Aa2{n a b:Nat}{l l':List Int}(h:LI H a l)(h':LI H b l'):K0 (n+1) H (.ref a) (.ref b)=some (decide (l=l')):=by
 rw[Afl h h',List.length_map,List.length_map]
 split
 ·rename_i q;exact Aa1 n l l' q
 ·rename_i q
  rw[decide_eq_false (fun e=>q (by rw[e]))]
theorem Ahf{a b:Nat}{l l':List Int}(h:LI H a l)(h':LI H b l'):Ca .Eq (.ref a) (.ref b) H Q=Q (.bool (decide (l=l'))) H:=by
 have:K0 E6 H (.ref a) (.ref b)=some (decide (l=l')):=Aa2 h h'
 delta Ca;(try dsimp only);rw[this];(try dsimp only[Fy])
theorem Afm{a b:Nat}{l l':List Int}(h:LI H a l)(h':LI H b l')(kk:Q (.bool (decide (l=l'))) H):Ca .Eq (.ref a) (.ref b) H Q:=Eq.mpr (Ahf h h') kk
theorem Ad4{a b:Nat}{l l':List Int}(h:LI H a l)(h':LI H b l'):Ca .NotEq (.ref a) (.ref b) H Q=Q (.bool (!decide (l=l'))) H:=by
 have:K0 E6 H (.ref a) (.ref b)=some (decide (l=l')):=Aa2 h h'
 delta Ca;(try dsimp only);rw[this];(try dsimp only[Fy])
theorem LI.sub{a:Nat}{l:List Int}{x:Int}{i:Nat}(hx:l[i]? = some x):(l.map V.int)[(i:Int).toNat]? = some (.int x):=by
 rw[Int.toNat_natCast,List.getElem?_map,hx];rfl
set_option linter.all false
variable {G:Ax} {n:Nat} {H H':AH} {Q:Af} {E:EP} {C:CS} {ρ:Aj}
set_option linter.all false
variable {G:Ax} {n:Nat} {H H':AH} {Q:Af} {E:EP} {C:CS} {ρ:Aj}
theorem Ad5{a:Nat}{xs:List V}(h:H a=some (.list xs)):C7 (.ref a) .none .none (.int (-1)) H Q=An (.list xs.reverse) H Q:=by
 show Hm (H a) (fun xs=>none=(none:Option Int)/\(-1:Int) = -1/\An (.list xs.reverse) H Q)=_
 rw[h];exact propext ⟨fun q=>q.2.2,fun q=>⟨rfl,rfl,q⟩⟩
theorem Qx{a:Nat}{xs:List V}(h:H a=some (.list xs)):D3 .list [.ref a] H Q=An (.list xs) H Q:=by
 delta D3;dsimp only;(first|delta Lk|delta Hp|delta Gd|delta Ll|delta Lm);(try dsimp only[A2,Ap,We,Oj,Ux]);rw[h];(try dsimp only[Hm,Xr])
theorem Adl{a:Nat}{xs:List V}(h:H a=some (.list xs)):Jz .clear (.ref a) [] H Q=Q .none (upd H a (.list [])):=by
 delta Jz;dsimp only;(first|delta Ge|delta Jc|delta E7|delta Jd|delta Gf);(try dsimp only[A2,Ap,We,Oj,Ux]);rw[h];(try dsimp only[Hm,Xr])
theorem Aa3{a b:Nat}{xs ys:List V}(h:H a=some (.list xs))(h':H b=some (.list ys))(hab:a≠b)(hl:xs.length+ys.length<=1048576):Jz .extend (.ref a) [.ref b] H Q=Q .none (upd H a (.list (xs++ys))):=by
 delta Jz;dsimp only;(first|delta Ge|delta Jc|delta E7|delta Jd|delta Gf);(try dsimp only[A2,Ap,We,Oj,Ux]);rw[h];(try dsimp only[Hm,Xr]);rw[h'];(try dsimp only[Hm,Fy])
 exact propext ⟨fun h=>h.2,fun q=>⟨⟨hab,hl⟩,q⟩⟩
theorem seq{s:S}{rest:List S}{N:Aj->AH->Prop}{R:Af}(T:Aj->AH->Prop)(h1:∀N:Aj->AH->Prop,(∀ρ H,T ρ H->N ρ H)->wpS G C s ρ H N R E)(h2:∀ρ H,T ρ H->B0 G C rest ρ H N R E):B0 G C (s::rest) ρ H N R E:=by
 refine Cf ?_;exact h1 _ h2
theorem Aa4{s:S}{rest:List S}{N:Aj->AH->Prop}{R:Af}(f:Aj)(T:AH->Prop)(h1:∀N:Aj->AH->Prop,(∀H,T H->N f H)->wpS G C s ρ H N R E)(h2:∀H,T H->B0 G C rest f H N R E):B0 G C (s::rest) ρ H N R E:=
 Cf (h1 _ h2)
theorem Um{α0:Type}{s:S}{rest:List S}{N:Aj->AH->Prop}{R:Af}(f:α0->Aj)(T:α0->AH->Prop)(h1:∀N:Aj->AH->Prop,(∀x0 H,T x0 H->N (f x0) H)->wpS G C s ρ H N R E)(h2:∀x0 H,T x0 H->B0 G C rest (f x0) H N R E):B0 G C (s::rest) ρ H N R E:=
 Cf (h1 _ h2)
theorem Ahg{α0 α1:Type}{s:S}{rest:List S}{N:Aj->AH->Prop}{R:Af}(f:α0->α1->Aj)(T:α0->α1->AH->Prop)(h1:∀N:Aj->AH->Prop,(∀x0 x1 H,T x0 x1 H->N (f x0 x1) H)->wpS G C s ρ H N R E)(h2:∀x0 x1 H,T x0 x1 H->B0 G C rest (f x0 x1) H N R E):B0 G C (s::rest) ρ H N R E:=
 Cf (h1 _ h2)
set_option linter.all false
variable {G:Ax} {n:Nat} {H H':AH} {Q:Af} {E:EP} {C:CS} {ρ:Aj}
theorem Qy{a:Nat}{l:List Int}{k v:Int}{N:AH->Prop}(h:LI H a l)(h0:0<=k)(hk:k<l.length):setItem (.ref a) (.int k) (.int v) H N=N (upd H a (.list ((l.set k.toNat v).map V.int))):=by
 rw[Aav h h0 (by rw[List.length_map];exact hk),List.map_set]
theorem Aa5{a:Nat}{l:List Int}{k v:Int}{N:AH->Prop}(h:LI H a l)(h0:0<=k)(hk:k<l.length)(kk:N (upd H a (.list ((l.set k.toNat v).map V.int)))):setItem (.ref a) (.int k) (.int v) H N:=Eq.mpr (Qy h h0 hk) kk
theorem Adm{ns:List Int}{m:Nat}{rows:List (List Int)}{ps:List (Int×Int)}(hW:Wf m rows)(hT:Aay ns m rows ps):Eo m ps:=by
 intro p hp
 obtain⟨k,r,one,h1,h2,h3⟩:=hT.1 p hp
 have hk:=(List.getElem?_eq_some_iff.mp h1).1
 rw[hW.1]at hk
 have hr:=(hW.2 k r h1).2 one h2
 have n1:=Pq (ns:=ns) (m:=m) (k:=k) (Q89 hk)
 have n2:=Pq (ns:=ns) (m:=m) (k:=one) (Int.lt_of_le_of_lt n1.1 n1.2)
 have n3:Bd ns m k≠Bd ns m one:=fun e=>by
  have:=Ug (ns:=ns) (m:=m) (j:=k) (k:=one) (Int.lt_of_le_of_lt n2.1 n2.2) (⟨Int.natCast_nonneg _,Int.ofNat_lt.mpr hk⟩) (⟨hr.1,Int.lt_trans hr.2 (Int.ofNat_lt.mpr hk)⟩) e
  exact Int.lt_irrefl _ (Int.lt_of_lt_of_le hr.2 (Int.le_of_eq this))
 rcases h3 with rfl|rfl
 ·exact⟨n1,n2,n3⟩
 ·exact⟨n2,n1,Ne.symm n3⟩
theorem Ahh{m:Nat}{ps:List (Int×Int)}(g:Eo m ps):Gr (Jw ps):=by
 refine⟨fun i=>?_,fun i j=>?_⟩
 ·unfold Jw
  rw[decide_eq_false_iff_not]
  exact fun h=>(h.in_ g).2.2 rfl
 ·unfold Jw
  exact decide_eq_decide.mpr ⟨Rb.symm,Rb.symm⟩
noncomputable def del(H:AH)(h:Nat):AH:=fun b=>if b=h then none else H b
theorem LI.del{a h:Nat}{l:List Int}(hL:LI H a l)(hn:a≠h):LI (Mine.Internal.Cl.del H h) a l:=by
 unfold LI Mine.Internal.Cl.del at *
 rw[if_neg hn];exact hL
set_option linter.all false
variable {G:Ax} {n:Nat} {H H':AH} {Q:Af} {E:EP} {C:CS} {ρ:Aj}
set_option linter.all false
noncomputable def O1(A:Nat->Nat->Bool)(l:List Int)(p:Int):List Int:=l.filter fun o=>A p.toNat o.toNat
noncomputable def Kw(A:Nat->Nat->Bool)(l:List Int)(p:Int):Bool:=(fu A (O1 A l p)).isNone
noncomputable def S5(A:Nat->Nat->Bool)(l:List Int):Option Int:=l.find? (Kw A l)
noncomputable def Cd(A:Nat->Nat->Bool):Nat->List Int->List Int->List Int×List Int
 | 0,g,t=>(g,t)
 | k+1,g,t=>match S5 A t with
   | none=>(g,t)
   | some p=>Cd A k (g ++ [p]) (t.erase p)
theorem V5{A:Nat->Nat->Bool}{l:List Int}{p:Int}(h:S5 A l=some p):p∈l:=List.mem_of_find?_eq_some h
noncomputable def B8(m:Nat):List Int:=Lg (List.range m)
theorem Dh{m:Nat}{x:Int}:x∈B8 m↔0<=x/\x<m:=by
 unfold B8
 rw[S1,List.mem_range]
 constructor<;>(rintro⟨h1,h2⟩;exact⟨h1,by(first|lia|omega)⟩)
theorem G9{m:Nat}:(B8 m).length=m:=by simp[B8,Lg]
theorem Pv{m:Nat}:(B8 m).Pairwise (· < ·):=by
 have:=V3 (m:=m) (fun _=>true)
 rwa[List.filter_eq_self.mpr (fun _ _=>rfl)]at this
theorem Ep{m:Nat}:(B8 m).Nodup:=Pv.imp fun h=>(Int.ne_of_lt h)
variable {G:Ax} {n:Nat} {H H':AH} {Q:Af} {E:EP} {C:CS} {ρ:Aj}
theorem Aa6{a:Nat}{l:List Int}{k:Int}(h:LI H a l)(hk:k∈l):Jz .remove (.ref a) [.int k] H Q=Q .none (upd H a (.list ((l.erase k).map V.int))):=by
 unfold LI at h
 delta Jz;dsimp only;(first|delta Ge|delta Jc|delta E7|delta Jd|delta Gf);(try dsimp only[A2,Ap,We,Oj,Ux]);rw[h];(try dsimp only[Hm,Xr]);rw[N9];(try dsimp only[Hm,Fy])
 exact propext ⟨fun h=>h.2,fun q=>⟨hk,q⟩⟩
theorem Od{m:Nat}:((List.range m).map fun(i:Nat)=>V.int i)=(B8 m).map V.int:=(List.map_map).symm
theorem Aa7(B:Jt G)(hG:G.fn "Web.beside" = some Ef){w m:Nat}{A:Nat->Nat->Bool}{x:Int}(hW:Da H w m A)(h0:0<=x)(h1:x<m)
 (q:∀a H',Ak H H'->H a=none->LI H' a (D9 m A x.toNat)->Q (.ref a) H'):Ad G (n+2) "Web.beside" [.ref w,.int x] H Q E:=by
 have hW':=hW
 refine Aa fun nY=>?_
 obtain⟨d,rs,w1,w2,w3⟩:=hW'
 obtain⟨as,z,a1,a2,a3,a4⟩:=w3.row h0 h1
 refine nY ?_;clear nY
 refine Ag hG rfl ?_
 simp (disch:=first|decide|omega) only[Zg,Zq,Zr,Zs,Zw,Zx,Zz,Z0,Z2,Z3,List.map,Av,Aw,Ae,Ai,A0,true_and,Ef,A6,Hq,Hr,Lo,w1,w2,B.need]
 refine Uk B hW h0 h1 ?_
 (try dsimp only)
 simp (disch:=first|decide|omega) only[Li w1 w2 (show Md [(Ee.many,V.int m),(Ee.rows,V.ref rs)] .rows=some (.ref rs)from rfl),Bz a1 h0 a3,Qx a4]
 exact Ac fun a H' e n v=>q a H' e n v
theorem Afn(B:Jt G){w m r:Nat}{A:Nat->Nat->Bool}{l:List Int}{p:Int}{c:X}{Q:Af}(hW:Da H w m A)(hL:LI H r l)(hin:∀x∈l,0<=x/\x<m)(hp:0<=p/\p<m)(hl:l.length<=4000)
 (hc:∀(x:Int) K,0<=x->x<m->K (.bool (A p.toNat x.toNat)) H->Am G C c (some (.int x)::ρ) H K EF)
 (q:∀a H',Ak H H'->H a=none->LI H' a (O1 A l p)->Q (.ref a) H') :
 l.length<=4000/\Ce (fun H'=>H' r=some (.list (l.map V.int))) (.one 0) (fun ρ H K=>Am G C c ρ H (fun c H=>truthy c fun b=>if b then Am G C (.var 0) ρ H (fun v H=>K (some v) H) EF else K none H) EF)
  (fun vs H=>An (.list vs) H Q) ((l.map V.int).map .v) [] (none::ρ) H:=by
 refine⟨hl,Ij (p:=fun o=>A p.toNat o.toNat) hL (fun x hx K hK=>?_) ?_⟩
 ·have hxr:=hin x hx
  refine hc x _ hxr.1 hxr.2 ?_
  (try dsimp only);(try simp (disch:=first|decide|omega) only[Zg,Az,Ae])
  split
  ·rename_i h;rw[if_pos h]at hK;exact hK
  ·rename_i h;rw[if_neg h]at hK;exact hK
 ·exact Ac fun a H' e n v=>q a H' e n v
set_option linter.all false
variable {G:Ax} {n:Nat} {H H':AH} {Q:Af} {E:EP} {C:CS} {ρ:Aj}
theorem LI.upd_ne{a b:Nat}{l:List Int}{o:O}(h:LI H a l)(hn:a≠b):LI (upd H b o) a l:=by
 unfold LI at *;rw[Mine.Internal.Cl.upd_ne hn];exact h
theorem LI.ne_none{a b:Nat}{l:List Int}(h:LI H a l)(hn:H b=none):a≠b:=fun z=>by
 unfold LI at h;rw[z,hn]at h;cases h
theorem Es{A:Nat->Nat->Bool}{k:Nat}{g t:List Int}{p:Int}(h:S5 A t=some p):Cd A (k+1) g t=Cd A k (g ++ [p]) (t.erase p):=by
 show (match S5 A t with
  | none=>(g,t)
  | some p=>Cd A k (g ++ [p]) (t.erase p))=_
 rw[h]
theorem Et{A:Nat->Nat->Bool}{k:Nat}{g t:List Int}(h:S5 A t=none):Cd A k g t=(g,t):=by
 cases k with
 | zero=>rfl
 | succ k=>
   show (match S5 A t with
    | none=>(g,t)
    | some p=>Cd A k (g ++ [p]) (t.erase p))=_
   rw[h]
structure Fns(G:Ax):Prop where
 base:Jt G
 untied:G.fn "first_untied" = some Ex
 beside:G.fn "Web.beside" = some Ef
set_option linter.all false
variable {G:Ax} {n:Nat} {H H':AH} {Q:Af} {E:EP} {C:CS} {ρ:Aj}
theorem Ma(hG:G.fn "_law_untied" = some Cu){a m r:Nat}{A:Nat->Nat->Bool}{l:List Int}(hN:Dw H a m A)(hL:LI H r l)(hl:l.length<=4000)(hin:∀x∈l,0<=x/\x<m)
 (q:∀H',Ak H H'->match fu A l with|none=>Q .none H'|some (x,y)=>∀a,H' a=none->Q (.ref a) (upd H' a (.tuple [.int x,.int y]))):Ad G (n+1) "_law_untied" [.ref a,.ref r] H Q E:=by
 refine Ag hG rfl ?_
 simp (disch:=first|decide|omega) only[Zb,Z0,Z2,Z3,List.map,Av,Aw,List.replicate,Cu]
 refine frK ?_
 simp (disch:=first|decide|omega) only[Zg,Zq,Zw,Zx,Ae,Ai,Dg hL]
 refine Pp (Int.natCast_nonneg _) (by rw[List.length_map];exact(Int.ofNat_le.mpr (Nat.le_trans hl (by decide)))) ?_
 refine Ov (fun i r2 r3=>[some (.ref a),some (.ref r),r2,r3]) (fun i r2 r3 H₁=>(Ak H H₁)/\(fu A l=fu A (l.drop i))) _ _ rfl ⟨Ak.refl,rfl⟩ ?_ ?_
 ·rintro i r2 r3 H₁ K hi ⟨e,hf⟩ hK
  have hi':i<l.length:=by simpa using hi
  have hx:=List.getElem?_eq_getElem hi'
  generalize l[i]=x at hx
  have hxr:=hin x (List.mem_of_getElem? hx)
  rw[C2 hx,Qw]at hf
  have hL1:=hL.ext e
  simp (disch:=first|decide|omega) only[Z2,Z3,Ar,Au,Hh]
  refine X7 ?_
  simp (disch:=first|decide|omega) only[Zc,Ze,Zg,Zl,Zt,Z8,Ae,Ai]
  (refine E3 hL1 Hj Fv ?_;rw[Ju Abt])
  refine Ac fun s H₂ e2 _ hsv=>?_
  rw[show ((i:Int)+1).toNat=i+1 by exact Abu,<-List.map_drop]at hsv
  refine B6 hsv ?_
  have eW:=e.trans e2
  have hL2:=hL.ext eW
  obtain⟨as,z,a1,a2,a3,a4⟩:=(hN.ext eW).row hxr.1 hxr.2
  refine D8 (fun j r3=>[some (.ref a),some (.ref r),some (.int i),r3]) (fun j r3 H₃=>(H₃=H₂)/\((l.drop (i+1)).find? (fun y=> !A x.toNat y.toNat)=((l.drop (i+1)).drop j).find? (fun y=> !A x.toNat y.toNat))) _ rfl ⟨rfl,rfl⟩ ?_ ?_ ?_
  ·rintro j r3 H₃ ⟨rfl,hj⟩;exact hsv
  ·rintro j v r3 H₃ K' hv ⟨rfl,hj⟩ hK'
   obtain⟨y,hy,rfl⟩:=LI.at_ (a:=r) hv
   have hyr:=hin y (List.mem_of_mem_drop (List.mem_of_getElem? hy))
   rw[C2 hy,List.find?_cons]at hj
   simp (disch:=first|decide|omega) only[Z2,Z3,Ar,Au,Hg]
   refine Ci (!A x.toNat y.toNat) (fun Q' h'=>?_) ?_
   ·simp (disch:=first|decide|omega) only[Zg,Zm,Zs,Ae,Ai,Bz hL2 (Int.natCast_nonneg i) (LI.sub (a:=r) hx),Bz a1 hxr.1 a3,Qu a4,Mw hyr.1 hyr.2]
    exact h'
   split
   ·rename_i hh
    simp (disch:=first|decide|omega) only[Zg,Zs,Zv,Zw,Zx,Z0,Z2,Z3,Ae,Ai,Bz hL2 (Int.natCast_nonneg i) (LI.sub (a:=r) hx)]
    rw[hh]at hj
    simp only at hj
    rw[hj]at hf
    have:=q _ eW
    rw[hf]at this
    exact this
   ·rename_i hh
    simp (disch:=first|decide|omega) only[Z2]
    rw[Bool.not_eq_true]at hh
    rw[hh]at hj
    exact hK' _ _ ⟨rfl,hj⟩
  ·rintro r3 H₃ ⟨rfl,hj⟩
   rw[List.length_map,List.drop_of_length_le (Nat.le_refl _),List.find?_nil]at hj
   rw[hj]at hf
   exact hK _ _ _ ⟨eW,hf⟩
 ·rintro r2 r3 H₁ ⟨e,hf⟩
  rw[Int.toNat_natCast,List.length_map,List.drop_of_length_le (Nat.le_refl _)]at hf
  have:=q H₁ e
  rw[hf]at this
  exact this
theorem Xi(hU:G.fn "_law_untied" = some Cu)(hG:G.fn "_law_free" = some Gn){a m r:Nat}{A:Nat->Nat->Bool}{l:List Int}(hN:Dw H a m A)(hL:LI H r l)(hin:∀x∈l,0<=x/\x<m)(hl:l.length<=60)
 (q:∀H',Ak H H'->Q (.int ((S5 A l).getD (-1))) H'):Ad G (n+2) "_law_free" [.ref a,.ref r] H Q E:=by
 refine Ag hG rfl ?_
 simp (disch:=first|decide|omega) only[Ze,Zi,Z0,Z2,Z3,List.map,Av,Aw,List.replicate,Gn]
 refine X7 ?_
 simp (disch:=first|decide|omega) only[Zg,Ae,Ai]
 refine B6 hL ?_
 refine D8 (fun i r2=>[some (.ref a),some (.ref r),r2]) (fun i r2 H₁=>(Ak H H₁)/\(l.find? (Kw A l)=(l.drop i).find? (Kw A l))) _ rfl ⟨Ak.refl,rfl⟩ ?_ ?_ ?_
 ·rintro i r2 H₁ ⟨e,hf⟩;exact hL.ext e
 ·rintro i v r2 H₁ K hv ⟨e,hf⟩ hK
  refine Aa fun nY=>?_
  obtain⟨x,hx,rfl⟩:=LI.at_ (a:=r) hv
  have hxr:=hin x (List.mem_of_getElem? hx)
  rw[C2 hx,List.find?_cons]at hf
  have hL1:=hL.ext e
  obtain⟨as,z,a1,a2,a3,a4⟩:=(hN.ext e).row hxr.1 hxr.2
  refine nY ?_;clear nY
  simp only[I6,Z3,Z2,List.set_cons_succ,List.set_cons_zero]
  refine Fm (Aeh (U3 ?_))
  refine⟨by rw[hU];rfl,?_⟩
  refine J3 (Aee ?_)
  simp only[List.getElem?_cons_zero]
  refine J3 (hvK ?_)
  simp (disch:=first|decide|omega) only[Zb,Zg,Zw,Z0,Z2,Z3,Z4,Av,Aw,Ae,Ai,List.replicate]
  refine B6 hL1 ?_
  refine⟨by simp[Cg];exact Q34 hl,Ij (p:=fun o=>A x.toNat o.toNat) hL1 (fun y hy K' hK'=>?_) ?_⟩
  ·have hyr:=hin y hy
   simp (disch:=first|decide|omega) only[Zg,Zm,Zs,Az,Ae,Ai,I5,Bz a1 hxr.1 a3,Adf a4,Mw hyr.1 hyr.2]
   split
   ·rename_i h;rw[if_pos h]at hK';exact hK'
   ·rename_i h;rw[if_neg h]at hK';exact hK'
  refine Ac fun s H₂ e2 _ hL2=>?_
  (try dsimp only)
  refine Ma hU (hN.ext (e.trans e2)) (l:=O1 A l x) hL2 (Nat.le_trans (List.length_filter_le _ _) (Nat.le_trans hl (by decide))) (fun y hy=>hin y (List.mem_filter.mp hy).1) fun H₃ e3=>?_
  have e13:=(e.trans e2).trans e3
  cases hfu:fu A (O1 A l x)with
  | none=>
    (try dsimp only);(try simp (disch:=first|decide|omega) only[Bn,Az])
    simp only[if_true]
    have:Kw A l x=true:=by unfold Kw;rw[hfu];rfl
    rw[this]at hf
    have hq:=q H₃ e13
    unfold S5 at hq
    rw[hf]at hq
    exact hq
  | some pr=>
    obtain⟨y,z⟩:=pr
    intro a' ha'
    (try dsimp only);(try simp (disch:=first|decide|omega) only[Bo,Az])
    simp only[Bool.false_eq_true,if_false]
    have:Kw A l x=false:=by unfold Kw;rw[hfu];rfl
    rw[this]at hf
    exact hK _ _ ⟨e13.trans (Ak.upd ha'),hf⟩
 ·rintro r2 H₁ ⟨e,hf⟩
  rw[List.length_map,List.drop_of_length_le (Nat.le_refl _),List.find?_nil]at hf
  have hq:=q H₁ e
  unfold S5 at hq
  rw[hf]at hq
  exact hq
set_option linter.all false
noncomputable def bh(A:Nat->Nat->Bool)(o:List Int)(p:Int):List Int:=O1 A (o.drop (o.idxOf p+1)) p
noncomputable def B7(m:Nat)(o:List Int):Prop:=B9 o=B8 m
theorem B7.perm{m:Nat}{o:List Int}(h:B7 m o):o.Perm (B8 m):=by
 have:=Cm o
 rw[h]at this
 exact this.symm
theorem B7.len{m:Nat}{o:List Int}(h:B7 m o):o.length=m:=by rw[h.perm.length_eq,G9]
theorem B7.mem{m:Nat}{o:List Int}(h:B7 m o){x:Int}:x∈o↔0<=x/\x<m:=by rw[h.perm.mem_iff,Dh]
theorem B7.nodup{m:Nat}{o:List Int}(h:B7 m o):o.Nodup:=h.perm.nodup_iff.mpr Ep
theorem Aa8{m:Nat}{o:List Int}(h1:o.Nodup)(h2:∀x,x∈o↔0<=x/\x<m):B7 m o:=
 Aaz (S0 h1) Pv fun x=>by rw[Lh,h2,Dh]
theorem Afo{o:List Int}{j:Nat}{p:Int}(h:o.Nodup)(hj:o[j]? = some p):o.idxOf p=j:=by
 have hm:=List.mem_of_getElem? hj
 have hlt:=List.idxOf_lt_length_of_mem hm
 refine Oc h (x:=p) ?_ hj
 rw[List.getElem?_eq_getElem hlt,List.getElem_idxOf]
theorem Aa9{A:Nat->Nat->Bool}{o:List Int}{j:Nat}{p:Int}(h:o.Nodup)(hj:o[j]? = some p):bh A o p=O1 A (o.drop (j+1)) p:=by
 unfold bh;rw[Afo h hj]
theorem Oe{A:Nat->Nat->Bool}{o:List Int}{p x:Int}(h:x∈bh A o p):x∈o:=List.mem_of_mem_drop (List.mem_filter.mp h).1
theorem Qz{A:Nat->Nat->Bool}{o:List Int}{p:Int}:(bh A o p).length<=o.length-1:=by
 unfold bh O1
 refine Nat.le_trans (List.length_filter_le _ _) ?_
 rw[List.length_drop];exact Nat.sub_le_sub_left (Nat.le_add_left 1 _) _
noncomputable def Peo(A:Nat->Nat->Bool)(o:List Int):Prop:=∀p∈o,fu A (bh A o p)=none
noncomputable def gp(A:Nat->Nat->Bool)(o:List Int):Option (Int×Int×Int):=o.findSome? fun p=>(fu A (bh A o p)).map fun q=>(p,q.1,q.2)
theorem Mx{A:Nat->Nat->Bool}{o:List Int}:gp A o=none↔Peo A o:=by
 unfold gp Peo
 rw[List.findSome?_eq_none_iff]
 simp
variable {G:Ax} {n:Nat} {H H':AH} {Q:Af} {E:EP} {C:CS} {ρ:Aj}
theorem Aba{g:AH->Prop}{ys:List V}{t:Nat}{body:Aj->AH->(Aj->AH->Prop)->Prop}{N:Aj->AH->Prop}(I:Nat->Aj->AH->Prop)(h0:I 0 ρ H)(hg:∀i ρ H,I i ρ H->g H)
 (step:∀i x ρ H K,ys[i]? = some x->I i ρ H->(∀ρ'' H'',I (i+1) ρ'' H''->K ρ'' H'')->body (ρ.set t (some x)) H K) (fin:∀ρ H,I ys.length ρ H->N ρ H) :
 Dx g (.one t) body N (ys.map .v) ρ H:=by
 refine Ie (k:=0) I h0 (fun i x ρ H K hx hI hK=>⟨hg _ _ _ hI,?_⟩) fun ρ H hI=>⟨hg _ _ _ hI,fin ρ H (by simpa using hI)⟩
 rw[List.getElem?_map]at hx
 obtain⟨j,hj,rfl⟩:=Option.map_eq_some_iff.mp hx
 exact step i j ρ H K hj (by simpa using hI) fun ρ'' H'' h=>hK ρ'' H'' (by simpa using h)
theorem Adn{a:Nat}{l:List Int}{k:Int}(h:LI H a l)(hk:k∈l):Jz .index (.ref a) [.int k] H Q=Q (.int (l.idxOf k)) H:=by
 unfold LI at h
 delta Jz;dsimp only;(first|delta Ge|delta Jc|delta E7|delta Jd|delta Gf);(try dsimp only[A2,Ap,We,Oj,Ux]);rw[h];(try dsimp only[Hm,Xr]);rw[N9];(try dsimp only[Hm,Fy])
 exact propext ⟨fun h=>h.2,fun q=>⟨hk,q⟩⟩
structure Fw(G:Ax):Prop where
 fns:Fns G
 isOrder:G.fn "is_order" = some M7
 needOrder:G.fn "need_order" = some Gk
 behind:G.fn "those_behind" = some Hs
 gap:G.fn "gap" = some X8
 needWhole:G.fn "need_whole" = some Gl
 crowdAt:G.fn "crowd_at" = some M8
 isFull:G.fn "is_full" = some O5
 fullCrowds:G.fn "full_crowds" = some Fq
 leastFree:G.fn "least_free" = some J7
 coloured:G.fn "coloured" = some Jf
theorem Of(F:Fw G){w m r:Nat}{A:Nat->Nat->Bool}{o:List Int}{p:Int}(hm:m<=60)(hW:Da H w m A)(hL:LI H r o)(ho:B7 m o)(hp:p∈o)
 (q:∀a H',Ak H H'->H a=none->LI H' a (bh A o p)->Q (.ref a) H'):Ad G (n+3) "those_behind" [.ref w,.ref r,.int p] H Q E:=by
 have B:=F.fns.base
 have hpr:=ho.mem.mp hp
 refine Ag F.behind rfl ?_
 simp (disch:=first|decide|omega) only[Zg,Zw,Zx,Zy,Z0,Z2,Z3,List.map,Av,Aw,Ae,Ai,List.replicate,Ar,Au,true_and,Hs,Cq,Cp hL,Adn hL hp]
 refine hvK ?_
 simp (disch:=first|decide|omega) only[Zc,Ze,Zg,Zl,Zt,Z4,Z8,Av,Aw,Ae,Ai,List.replicate]
 (refine E3 hL Hj Fv ?_;rw[Ju Abt])
 refine Ac fun s H₁ e1 _ v1=>?_
 rw[show ((o.idxOf p:Int)+1).toNat=o.idxOf p+1 by exact Abu,<-List.map_drop]at v1
 refine B6 v1 ?_
 refine Aa fun nY=>?_
 obtain⟨d,rs,w1,w2,w3⟩:=hW.ext e1
 refine nY ?_;clear nY
 refine⟨by simp[Cg,ho.len];exact Agi hm,?_⟩
 refine(Afn (c:=Dn) B ⟨d,rs,w1,w2,w3⟩ (show LI H₁ s (o.drop (o.idxOf p+1))from v1) (fun x hx=>ho.mem.mp (List.mem_of_mem_drop hx)) hpr (by rw[List.length_drop,ho.len];exact(Nat.le_trans (Nat.sub_le _ _) (Nat.le_trans hm (by decide)))) (fun y K' h0 h1 hK'=>?_) (fun a H₂ e2 n2 hL2=>?_)).2
 ·simp (disch:=first|decide|omega) only[Zg,Zw,Zx,Ae,Ai,A0,true_and,Dn,A6,Hq,Hr,Lo,w1,w2,B.tied]
  exact Qv B ⟨d,rs,w1,w2,w3⟩ hpr.1 hpr.2 h0 h1 hK'
 ·exact q a H₂ (e1.trans e2) (e1.isNone n2) hL2
theorem Pw(F:Fw G){w m r:Nat}{A:Nat->Nat->Bool}{o:List Int}(hm:m<=60)(hW:Da H w m A)(hL:LI H r o)(hl:o.length<64)
 (q:∀H',Ak H H'->Q (.bool (decide (B9 o=B8 m))) H'):Ad G (n+1) "is_order" [.ref w,.ref r] H Q E:=by
 refine Ag F.isOrder rfl ?_
 simp (disch:=first|decide|omega) only[Zg,Zm,Zq,Zr,Zw,Zx,Z0,Z2,Z3,List.map,Av,Aw,Ae,Ai,M7,Mv hL hl]
 refine Ac fun s H₁ e1 _ v1=>?_
 refine Aa fun nY=>?_
 obtain⟨d,rs,w1,w2,w3⟩:=hW.ext e1
 refine nY ?_;clear nY
 (try dsimp only)
 simp (disch:=(first|lia|omega)) only[Li w1 w2 (show Md [(Ee.many,V.int m),(Ee.rows,V.ref rs)] .many=some (.int m)from rfl),Bg]
 refine Ac fun s2 H₂ e2 _ v2=>?_
 rw[Int.toNat_natCast,Od]at v2
 (try dsimp only)
 refine Afm (l:=B9 o) (l':=B8 m) (e2 _ _ v1) v2 ?_
 exact q H₂ (e1.trans e2)
theorem Mb(F:Fw G){w m r:Nat}{A:Nat->Nat->Bool}{o:List Int}(hm:m<=60)(hW:Da H w m A)(hL:LI H r o)(ho:B7 m o)
 (q:∀H',Ak H H'->Q .none H'):Ad G (n+2) "need_order" [.ref w,.ref r] H Q E:=by
 refine Ag F.needOrder rfl ?_
 simp only[Gk,List.map,List.cons_append,List.nil_append]
 refine Cf (Fm ?_)
 simp (disch:=first|decide|omega) only[Zg,Zh,Zp,Zw,Zx,Z2,Z3,Az,Ae,Ai,A0,true_and,F.isOrder]
 refine Pw F hm hW hL (by rw[ho.len];exact(Nat.lt_of_le_of_lt hm (by decide))) fun H₁ e1=>?_
 rw[decide_eq_true (show B9 o=B8 m from ho)]
 (try dsimp only);(try simp (disch:=first|decide|omega) only[Az])
 simp only[Bool.not_true,Bool.false_eq_true,if_false]
 exact q H₁ e1
theorem Ad7(F:Fw G){w m r:Nat}{A:Nat->Nat->Bool}{o:List Int}(hm:m<=60)(hW:Da H w m A)(hL:LI H r o)(ho:B7 m o)
 (q:∀H',Ak H H'->match gp A o with|none=>Q .none H'|some (p,x,y)=>∀a,H' a=none->Q (.ref a) (upd H' a (.tuple [.int p,.int x,.int y]))):Ad G (n+4) "gap" [.ref w,.ref r] H Q E:=by
 refine Ag F.gap rfl ?_
 simp only[X8,List.map,List.replicate,List.cons_append,List.nil_append]
 refine Aa4 ([some (.ref w),some (.ref r),none,none]) (fun H₁=>Ak H H₁) (fun N hN=>?_) ?_
 ·simp (disch:=first|decide|omega) only[Zg,Zp,Zw,Zx,Zz,Ae,Ai,A0,true_and,F.needOrder]
  exact Mb F hm hW hL ho fun H₁ e1=>hN _ e1
 rintro H₀ e0
 refine Cf (X7 ?_)
 simp (disch:=first|decide|omega) only[Zb,Zg,Z0,Z2,Z3,Ae,Ai]
 refine B6 (hL.ext e0) ?_
 refine L8 (fun i r2 r3=>[some (.ref w),some (.ref r),r2,r3]) (fun i r2 r3 H₁=>Ak H H₁/\gp A o=(o.drop i).findSome? fun p=>(fu A (bh A o p)).map fun q=>(p,q.1,q.2)) _ _ rfl ⟨e0,by rw[List.drop_zero];rfl⟩ ?_ ?_ ?_
 ·rintro i r2 r3 H₁ ⟨e,hf⟩;exact hL.ext e
 ·rintro i v r2 r3 H₁ K hv ⟨e,hf⟩ hK
  obtain⟨x,hx,rfl⟩:=LI.at_ (a:=r) hv
  have hxo:=List.mem_of_getElem? hx
  rw[C2 hx,List.findSome?_cons]at hf
  simp only[Rg,List.set_cons_succ,List.set_cons_zero]
  refine Um (fun v3=>[some (.ref w),some (.ref r),some (.int x),some v3]) (fun v3 H₂=>Ak H H₂/\match fu A (bh A o x)with|none=>v3 = .none|some (y,z)=>∃t,v3 = .ref t/\H₂ t=some (.tuple [.int y,.int z])) (fun N hN=>?_) ?_
  ·simp (disch:=first|decide|omega) only[Zg,Zp,Zw,Zx,Zy,Ae,Ai,Ar,Au,A0,true_and,F.fns.untied,F.behind]
   refine Of F hm (hW.ext e) (hL.ext e) ho hxo fun s H₂ e2 _ hL2=>?_
   refine O0 F.fns.base F.fns.untied (hW.ext (e.trans e2)) hL2 (fun y hy=>ho.mem.mp (Oe hy)) fun H₃ e3=>?_
   cases hfu:fu A (bh A o x)with
   | none=>
     refine hN _ _ ⟨(e.trans e2).trans e3,?_⟩
     rw[hfu]
   | some pr=>
     obtain⟨y,z⟩:=pr
     intro t ht
     refine hN _ _ ⟨((e.trans e2).trans e3).trans (Ak.upd ht),?_⟩
     rw[hfu]
     exact⟨t,rfl,Ab⟩
  rintro v3 H₂ ⟨e2,h3⟩
  refine Cf (Fm ?_)
  cases hfu:fu A (bh A o x)with
  | none=>
    rw[hfu]at h3 hf
    simp only at h3
    subst h3
    simp (disch:=first|decide|omega) only[Zb,Ze,Zg,Zm,Zs,Zv,Zw,Zx,Z0,Z2,Z3,Bi,Az,Ae,Ai]
    simp only[Bool.false_eq_true,if_false]
    exact hK _ _ _ ⟨e2,hf⟩
  | some pr=>
    refine Aa fun nY=>?_
    obtain⟨y,z⟩:=pr
    rw[hfu]at h3 hf
    obtain⟨t,rfl,ht⟩:=h3
    refine nY ?_;clear nY
    simp (disch:=first|decide|omega) only[Zb,Ze,Zg,Zm,Zs,Zv,Zw,Zx,Z0,Z2,Z3,Bp,Az,Ae,Ai]
    simp only[if_true]
    simp (disch:=first|decide|omega) only[Qr (x:= .int y) (k:=0) ht (by decide) rfl,Qr (x:= .int z) (k:=1) ht (by decide) rfl]
    have hq:=q H₂ e2
    simp only[Option.map_some]at hf
    rw[hf]at hq
    exact hq
 ·rintro r2 r3 H₁ ⟨e,hf⟩
  rw[List.length_map,List.drop_of_length_le (Nat.le_refl _),List.findSome?_nil]at hf
  have hq:=q H₁ e
  rw[hf]at hq
  exact hq
theorem Ik(F:Fw G){w m r:Nat}{A:Nat->Nat->Bool}{o:List Int}(hm:m<=60)(hW:Da H w m A)(hL:LI H r o)(ho:B7 m o)(hp:Peo A o)
 (q:∀H',Ak H H'->Q .none H'):Ad G (n+5) "need_whole" [.ref w,.ref r] H Q E:=by
 refine Ag F.needWhole rfl ?_
 simp only[Gl,List.map,List.cons_append,List.nil_append]
 refine Cf (Fm ?_)
 simp (disch:=first|decide|omega) only[Zb,Zg,Zm,Zp,Zw,Zx,Z2,Z3,Ae,Ai,A0,true_and,F.gap]
 refine Ad7 F hm hW hL ho fun H₁ e1=>?_
 rw[Mx.mpr hp]
 (try dsimp only);(try simp (disch:=first|decide|omega) only[Bi,Az])
 simp only[Bool.false_eq_true,if_false]
 exact q H₁ e1
noncomputable def crowd(A:Nat->Nat->Bool)(o:List Int)(p:Int):List Int:=B9 (p::bh A o p)
theorem Px(F:Fw G){w m r:Nat}{A:Nat->Nat->Bool}{o:List Int}{p:Int}(hm:m<=60)(hW:Da H w m A)(hL:LI H r o)(ho:B7 m o)(hp:p∈o)
 (q:∀a H',Ak H H'->H a=none->LI H' a (crowd A o p)->Q (.ref a) H'):Ad G (n+4) "crowd_at" [.ref w,.ref r,.int p] H Q E:=by
 refine Ag F.crowdAt rfl ?_
 have hbl:=Qz (A:=A) (o:=o) (p:=p)
 rw[ho.len]at hbl
 simp (disch:=first|decide|omega) only[Zg,Zl,Zp,Zq,Zu,Zw,Zx,Z0,Z2,Z3,List.map,Av,Aw,Ae,Ai,M8]
 refine Ac fun s H₁ e1 _ v1=>?_
 (try dsimp only)
 refine⟨by rw[F.behind];rfl,?_⟩
 refine Of F hm (hW.ext e1) (hL.ext e1) ho hp fun s2 H₂ e2 _ v2=>?_
 (try dsimp only)
 refine Mu (e2 _ _ v1) v2 (by simp;exact(Nat.le_trans (Nat.add_le_add_left (Nat.le_trans hbl (Nat.le_trans (Nat.sub_le _ _) hm)) 1) (by decide))) ?_
 refine Ac fun s3 H₃ e3 _ v3=>?_
 (try dsimp only)
 have v3':LI H₃ s3 (p::bh A o p):=by unfold LI;rw[v3];rfl
 refine Aa0 v3' (by simp;exact(Nat.lt_of_le_of_lt (Nat.succ_le_succ (Nat.le_trans hbl (Nat.le_trans (Nat.sub_le _ _) hm))) (by decide))) ?_
 exact Ac fun a H₄ e4 n4 v4=>q a H₄ (((e1.trans e2).trans e3).trans e4) (((e1.trans e2).trans e3).isNone n4) v4
noncomputable def isFull(m:Nat)(A:Nat->Nat->Bool)(c:List Int):Bool:=(B8 m).all fun p=>decide (p∈c) || !(c.all fun o=>A p.toNat o.toNat)
theorem Abb(F:Fw G){w m r:Nat}{A:Nat->Nat->Bool}{c:List Int}(hm:m<=60)(hW:Da H w m A)(hL:LI H r c)(hl:c.length<=4000)(hin:∀x∈c,0<=x/\x<m)
 (q:∀H',Ak H H'->Q (.bool (isFull m A c)) H'):Ad G (n+3) "is_full" [.ref w,.ref r] H Q E:=by
 have B:=F.fns.base
 refine Ag F.isFull rfl ?_
 obtain⟨d,rs,w1,w2,w3⟩:=hW
 have hW:Da H w m A:=⟨d,rs,w1,w2,w3⟩
 simp (disch:=first|decide|omega) only[Zd,Z0,Z2,Z3,List.map,Av,Aw,List.replicate,O5]
 refine frK ?_
 simp (disch:=first|decide|omega) only[Zg,Zr,Zw,Zx,A9,Ae,Li w1 w2 (show Md [(Ee.many,V.int m),(Ee.rows,V.ref rs)] .many=some (.int m)from rfl)]
 refine Dv (fun i r2=>[some (.ref w),some (.ref r),r2]) (fun i r2 H₁=>(Ak H H₁)/\(∀j:Nat,j<i->(decide ((j:Int)∈c) || !(c.all fun o=>A j o.toNat))=true)) _ rfl ⟨Ak.refl,by(first|lia|omega)⟩ ?_ ?_
 ·rintro i r2 H₁ K hi ⟨e,hall⟩ hK
  have hi':i<m:=hi
  have hL1:=hL.ext e
  obtain⟨d,rs,w1,w2,w3⟩:=hW.ext e
  simp only[J6,Z3,Z2,List.set_cons_succ,List.set_cons_zero]
  refine Fm (Aeg ?_)
  simp (disch:=first|decide|omega) only[Zd,Zg,Zm,Zq,Zw,Zx,Z0,Z2,Z3,Az,Ae,Ai,Qu hL1]
  by_cases hic:(i:Int)∈c
  ·rw[decide_eq_true hic]
   simp only[Bool.not_true,Bool.false_eq_true,if_false]
   refine hK _ _ ⟨e,fun j hj=>?_⟩
   by_cases hji:j=i
   ·subst hji;simp[hic]
   ·exact hall j (Q94 hj hji)
  ·rw[decide_eq_false hic]
   simp only[Bool.not_false,if_true]
   refine gvK ?_
   simp (disch:=first|decide|omega) only[Zg,Z4,Av,Aw,Ae,Ai,List.replicate]
   refine B6 hL1 ?_
   refine⟨by simp[Cg];exact(Nat.le_trans hl (by decide)),G8 (h:=fun o=>V.bool (A i o.toNat)) hL1 (fun x hx K' hK'=>?_) ?_⟩
   ·have hxr:=hin x hx
    simp (disch:=first|decide|omega) only[Zg,Zw,Zx,Ae,Ai,A0,true_and,J5,A6,Hq,Hr,Lo,w1,w2,B.tied]
    exact Qv B ⟨d,rs,w1,w2,w3⟩ (Int.natCast_nonneg _) (Int.ofNat_lt.mpr hi') hxr.1 hxr.2 (by rw[Int.toNat_natCast];exact hK')
   ·refine Ac fun s H₂ e2 _ v2=>?_
    (try dsimp only)
    refine Afj (l:=c.map fun o=>A i o.toNat) (by rw[v2,List.map_map];rfl) ?_
    (try dsimp only);(try simp (disch:=first|decide|omega) only[Az])
    have hal:(c.map fun o=>A i o.toNat).all id=c.all fun o=>A i o.toNat:=by rw[List.all_map];rfl
    rw[hal]
    split
    ·rename_i h
     (try dsimp only)
     have hf:isFull m A c=false:=by
      unfold isFull
      rw[List.all_eq_false]
      refine⟨i,Dh.mpr ⟨(Int.natCast_nonneg _),(Int.ofNat_lt.mpr hi')⟩,?_⟩
      rw[decide_eq_false hic,Int.toNat_natCast,h];simp
     have:=q H₂ (e.trans e2)
     rw[hf]at this
     exact this
    ·rename_i h
     (try dsimp only)
     refine hK _ _ ⟨e.trans e2,fun j hj=>?_⟩
     by_cases hji:j=i
     ·subst hji;rw[Bool.not_eq_true]at h;rw[h];simp
     ·exact hall j (by exact Q94 hj hji)
 ·rintro r2 H₁ ⟨e,hall⟩
  have hf:isFull m A c=true:=by
   unfold isFull
   rw[List.all_eq_true]
   intro x hx
   have:=Dh.mp hx
   have h2:=hall x.toNat ((Int.toNat_lt this.1).mpr this.2)
   rwa[show ((x.toNat:Nat):Int)=x by exact Q15 this.1]at h2
  have:=q H₁ e
  rw[hf]at this
  exact this
set_option linter.all false
variable {G:Ax} {n:Nat} {H H':AH} {Q:Af} {E:EP} {C:CS} {ρ:Aj}
noncomputable def Abc(m:Nat)(A:Nat->Nat->Bool)(o:List Int):List (List Int):=(o.map (crowd A o)).filter (isFull m A)
theorem Xj{A:Nat->Nat->Bool}{o:List Int}{p x:Int}:x∈crowd A o p↔x=p\/x∈bh A o p:=by
 unfold crowd;rw[Lh,List.mem_cons]
theorem Xk{A:Nat->Nat->Bool}{o:List Int}{p:Int}(hp:p∈o):(crowd A o p).length<=o.length:=by
 unfold crowd;rw[Kt,List.length_cons]
 have:=Qz (A:=A) (o:=o) (p:=p)
 have:=List.length_pos_of_mem hp
 (first|lia|omega)
structure Ix(H H':AH)(a:Nat)(as:List Nat)(rows:List (List Int)):Prop where
 ext:Ak H H'
 new:H a=none
 at_:H' a=some (.list (as.map V.ref))
 lists:D2 H' as rows
 fr:∀x∈as,x≠a/\H x=none
theorem Ix.snoc{H₁:AH}{a x:Nat}{as:List Nat}{rows:List (List Int)}{r:List Int}(b:Ix H H' a as rows)(e:Ak H' H₁)(hx:H' x=none)(h:LI H₁ x r) :
 Ix H (upd H₁ a (.list ((as.map V.ref) ++ [.ref x]))) a (as ++ [x]) (rows ++ [r]):=by
 have hxa:x≠a:=fun q=>by rw[q,b.at_]at hx;cases hx
 have hfr:∀y∈as ++ [x],y≠a/\H y=none:=fun y hy=>by
  rcases List.mem_append.mp hy with hy|hy
  ·exact b.fr y hy
  ·simp at hy;rw[hy];exact⟨hxa,b.ext.isNone hx⟩
 exact⟨(b.ext.trans e).upd' b.new,b.new,by rw[Ab];simp,((b.lists.ext e).snoc h).upd fun y hy=>(hfr y hy).1,hfr⟩
theorem Ix.mono{H₁:AH}{a:Nat}{as:List Nat}{rows:List (List Int)}(b:Ix H H' a as rows)(e:Ak H' H₁):Ix H H₁ a as rows:=⟨b.ext.trans e,b.new,e _ _ b.at_,b.lists.ext e,b.fr⟩
theorem Q1(F:Fw G){w m r:Nat}{A:Nat->Nat->Bool}{o:List Int}(hm:m<=60)(hW:Da H w m A)(hL:LI H r o)(ho:B7 m o)(hp:Peo A o)
 (q:∀a as H',Ix H H' a as (Abc m A o)->Q (.ref a) H'):Ad G (n+6) "full_crowds" [.ref w,.ref r] H Q E:=by
 refine Ag F.fullCrowds rfl ?_
 simp only[Fq,List.map,List.replicate,List.cons_append,List.nil_append]
 refine Aa4 ([some (.ref w),some (.ref r),none,none,none]) (fun H₁=>Ak H H₁) (fun N hN=>?_) ?_
 ·simp (disch:=first|decide|omega) only[Zg,Zp,Zw,Zx,Zz,Ae,Ai,A0,true_and,F.needWhole]
  exact Ik F hm hW hL ho hp fun H₁ e1=>hN _ e1
 rintro H₀ e0
 refine Um (fun a=>[some (.ref w),some (.ref r),some (.ref a),none,none]) (fun a H₁=>Ix H H₁ a [] []) (fun N hN=>?_) ?_
 ·simp (disch:=first|decide|omega) only[Zu,Zw,Zy,Ar,Au]
  exact Ac fun a H₁ e1 n1 v1=>hN a _ ⟨e0.trans e1,e0.isNone n1,v1,⟨rfl,fun _ _ _ h=>absurd h.symm (Option.some_ne_none _)⟩,fun _ h=>absurd h List.not_mem_nil⟩
 rintro a H₁ b
 refine Cf (X7 ?_)
 simp (disch:=first|decide|omega) only[Zg,Z0,Z2,Z3,Ae,Ai]
 refine B6 (hL.ext b.ext) ?_
 refine Sw (fun i r3 r4 as=>[some (.ref w),some (.ref r),some (.ref a),r3,r4]) (fun i r3 r4 as H₁=>Ix H H₁ a as (((o.take i).map (crowd A o)).filter (isFull m A))) _ _ [] rfl b ?_ ?_ ?_
 ·rintro i r3 r4 as H₁ b;exact hL.ext b.ext
 ·rintro i v r3 r4 as H₁ K hv b hK
  obtain⟨x,hx,rfl⟩:=LI.at_ (a:=r) hv
  have hxo:=List.mem_of_getElem? hx
  have hi:=(List.getElem?_eq_some_iff.mp hx).1
  rw[ho.len]at hi
  simp only[F2,List.set_cons_succ,List.set_cons_zero]
  refine Um (fun c=>[some (.ref w),some (.ref r),some (.ref a),some (.int x),some (.ref c)]) (fun c H₂=>Fx (Ak H₁ H₂) (H₁ c=none) (LI H₂ c (crowd A o x))) (fun N hN=>?_) ?_
  ·simp (disch:=first|decide|omega) only[Zg,Zp,Zw,Zx,Zy,Ae,Ai,Ar,Au,A0,true_and,F.crowdAt]
   exact Px F hm (hW.ext b.ext) (hL.ext b.ext) ho hxo fun c H₂ e2 n2 v2=>hN c _ ⟨e2,n2,v2⟩
  rintro c H₂ hP18
  refine Aa fun nY=>?_
  obtain⟨e2,n2,v2⟩:=hP18
  refine nY ?_;clear nY
  refine Cf (Fm ?_)
  simp (disch:=first|decide|omega) only[Zg,Zp,Zw,Zx,Zz,Z2,Z3,Ae,Ai,A0,true_and,F.isFull]
  refine Abb F hm (hW.ext (b.ext.trans e2)) v2 (by have:=Xk (A:=A) hxo;rw[ho.len]at this;exact(Nat.le_trans (Nat.le_trans this hm) (by decide))) (fun y hy=>?_) fun H₃ e3=>?_
  ·refine Aa fun nY=>?_
   rcases Xj.mp hy with rfl|h
   ·refine nY ?_;clear nY
    exact ho.mem.mp hxo
   ·refine nY ?_;clear nY
    exact ho.mem.mp (Oe h)
  have e23:=e2.trans e3
  (try dsimp only);(try simp (disch:=first|decide|omega) only[Az])
  have htk:((o.take (i+1)).map (crowd A o)).filter (isFull m A)=((o.take i).map (crowd A o)).filter (isFull m A)++(if isFull m A (crowd A o x)then [crowd A o x]else []):=by
   rw[List.take_add_one,hx,List.map_append,List.filter_append]
   simp only[Option.toList_some,List.map_cons,List.map_nil,List.filter_cons,List.filter_nil]
  split
  ·rename_i hf
   rw[if_pos hf]at htk
   have hal:(as.map V.ref).length<1048576:=by
    rw[List.length_map,b.lists.1]
    refine Nat.lt_of_le_of_lt (List.length_filter_le _ _) ?_
    rw[List.length_map,List.length_take];exact Nat.lt_of_le_of_lt (Nat.min_le_left _ _) (Nat.lt_of_lt_of_le hi (Nat.le_trans hm (by decide)))
   have ha1:=e23 _ _ b.at_
   simp (disch:=first|decide|omega) only[Zg,Zw,Zx,Ae,Ai,true_and,Cq,Cp ha1,C0 ha1 hal]
   refine hK _ _ (as ++ [c]) _ ?_
   rw[htk]
   exact b.snoc e23 n2 (v2.ext e3)
  ·rename_i hf
   rw[if_neg hf,List.append_nil]at htk
   (try dsimp only)
   refine hK _ _ as _ ?_
   rw[htk]
   exact b.mono e23
 ·rintro r3 r4 as H₁ b
  rw[List.length_map,List.take_of_length_le (Nat.le_refl _)]at b
  try simp (disch:=first|decide|omega) only[Ae,Ai]
  exact q a as H₁ b
noncomputable def Py(c:Int)(l:List Int):Prop:=0<=c/\c∉l/\∀j,0<=j->j<c->j∈l
theorem O2:∀ {l l':List Int},l.Nodup->(∀x∈l,x∈l')->l.length<=l'.length:=by
 intro l
 induction l with
 | nil=>exact fun _ _=>Nat.zero_le _
 | cons x r ih=>
   intro l' h hs
   have hx:=hs x List.mem_cons_self
   have hn:=List.nodup_cons.mp h
   have:=ih (l':=l'.erase x) hn.2 fun y hy=>(List.mem_erase_of_ne (fun(z:y=x)=>hn.1 (z▸hy))).mpr (hs y (List.mem_cons_of_mem _ hy))
   rw[List.length_erase_of_mem hx]at this
   exact Nat.le_trans (Nat.succ_le_succ this) (Nat.le_of_eq (Nat.sub_add_cancel (List.length_pos_of_mem hx)))
theorem V6{c:Int}{l:List Int}(h:∀j,0<=j->j<c->j∈l):c<=l.length:=by
 have h2:(B8 c.toNat).length<=l.length:=O2 Ep fun x hx=>by
  have:=Dh.mp hx
  exact h x this.1 (Aio this.1 this.2)
 rw[G9]at h2
 exact Int.toNat_le.mp h2
theorem Py.le{c:Int}{l:List Int}(h:Py c l):c<=l.length:=V6 h.2.2
theorem S6(F:Fw G){u:Nat}{l:List Int}(hL:LI H u l)(q:∀c,Py c l->Q (.int c) H):Ad G (n+1) "least_free" [.ref u] H Q E:=by
 refine Ag F.leastFree rfl ?_
 simp only[J7,List.map,List.replicate,List.cons_append,List.nil_append]
 refine Aa4 ([some (.ref u),some (.int 0)]) (fun H₁=>H=H₁) (fun N hN=>?_) ?_
 ·simp (disch:=first|decide|omega) only[Ze,Zy,Ar,Au];exact hN _ rfl
 rintro _ rfl
 refine Cf (X6 ?_)
 refine⟨fun k ρ H₁=>(Hn fun(c:Int)=>An6 (k=(l.length+1-c).toNat) (c<=l.length) (ρ = [some (.ref u),some (.int c)]) (H₁=H) (0<=c) (∀j,0<=j->j<c->j∈l)),⟨_,0,rfl,by(first|lia|omega),rfl,rfl,by(first|lia|omega),by intros;(first|lia|omega)⟩,?_⟩
 rintro k ρ H₁ ⟨c,rfl,hcl,rfl,rfl,h0,hall⟩
 simp (disch:=first|decide|omega) only[Zg,Zm,Z0,Z2,Z3,Az,Ae,Ai,Adf hL]
 by_cases hc:c∈l
 ·rw[decide_eq_true hc]
  simp only[if_true]
  simp (disch:=first|decide|omega) only[Ze,Zg,Zl,Zy,Z2,Z3,Z8,Ae,Ai,Ar,Au,He]
  have hall':∀j,0<=j->j<c+1->j∈l:=fun j h1 h2=>by
   by_cases hj:j=c
   ·subst hj;exact hc
   ·exact hall j h1 (Int.lt_iff_le_and_ne.mpr ⟨Int.le_of_lt_add_one h2,hj⟩)
  have hle:c+1<=l.length:=V6 hall'
  exact⟨(l.length+1-(c+1)).toNat,(Aip hle),c+1,rfl,hle,rfl,by first|rfl|trivial,(Int.add_nonneg h0 (by decide)),hall'⟩
 ·rw[decide_eq_false hc]
  simp only[Bool.false_eq_true,if_false]
  exact q c ⟨h0,hc,hall⟩
noncomputable def Abd(A:Nat->Nat->Bool)(o cols:List Int):Prop:=cols.length=o.length/\∀p∈o,Py (cols.getD p.toNat 0) ((bh A o p).map fun x=>cols.getD x.toNat 0)
noncomputable def Q4(A:Nat->Nat->Bool)(o cols:List Int)(k:Nat):Prop:=∀j p,o[j]? = some p->k<=j->Py (cols.getD p.toNat 0) ((bh A o p).map fun x=>cols.getD x.toNat 0)
theorem Q4.all{A:Nat->Nat->Bool}{o cols:List Int}(h:Q4 A o cols 0)(hl:cols.length=o.length):Abd A o cols:=⟨hl,fun p hp=>by
 obtain⟨j,hj⟩:=List.mem_iff_getElem?.mp hp
 exact h j p hj (Nat.zero_le _)⟩
theorem Q4.none{A:Nat->Nat->Bool}{o cols:List Int}:Q4 A o cols o.length:=fun j p hj hk=>absurd (List.getElem?_eq_some_iff.mp hj).1 (Nat.not_lt.mpr hk)
theorem Q4.step{m k:Nat}{A:Nat->Nat->Bool}{o cols:List Int}{p c:Int}(ho:B7 m o)(hl:cols.length=m)(h:Q4 A o cols (k+1))(hp:o[k]? = some p)(hmex:Py c ((bh A o p).map fun x=>cols.getD x.toNat 0)):Q4 A o (cols.set p.toNat c) k:=by
 intro j p' hj hmj
 have hpr:=ho.mem.mp (List.mem_of_getElem? hp)
 have gset:∀x:Int,0<=x->x≠p->(cols.set p.toNat c).getD x.toNat 0=cols.getD x.toNat 0:=fun x h0 hx=>by
  rw[List.getD_eq_getElem?_getD,List.getD_eq_getElem?_getD,List.getElem?_set_ne (Aiq hpr.1 h0 hx)]
 have hbp:(bh A o p').map (fun x=>(cols.set p.toNat c).getD x.toNat 0)=(bh A o p').map (fun x=>cols.getD x.toNat 0):=by
  refine List.map_congr_left fun x hx=>gset x (ho.mem.mp (Oe hx)).1 fun hxp=>?_
  subst hxp
  rw[Aa9 ho.nodup hj]at hx
  obtain⟨z,hz⟩:=List.mem_iff_getElem?.mp (List.mem_filter.mp hx).1
  rw[List.getElem?_drop]at hz
  have:=Oc ho.nodup hz hp
  exact Nat.lt_irrefl _ (Nat.lt_of_lt_of_le (Nat.lt_of_lt_of_le (Nat.lt_succ_self _) (Nat.le_add_right _ _)) (Nat.le_trans (Nat.le_of_eq this) hmj))
 rw[hbp]
 by_cases hpp:p'=p
 ·subst hpp
  have:(cols.set p'.toNat c).getD p'.toNat 0=c:=by
   rw[List.getD_eq_getElem?_getD,List.getElem?_set_self (Q62 hl hpr.1 hpr.2)];rfl
  rw[this];exact hmex
 ·rw[gset p' (ho.mem.mp (List.mem_of_getElem? hj)).1 hpp]
  refine h j p' hj ?_
  have:j≠k:=fun hz=>by
   rw[hz,hp]at hj;cases hj;exact hpp rfl
  exact Nat.lt_of_le_of_ne hmj (Ne.symm this)
theorem Un(F:Fw G){w m r:Nat}{A:Nat->Nat->Bool}{o:List Int}(hm:m<=60)(hW:Da H w m A)(hL:LI H r o)(ho:B7 m o)(hp:Peo A o)
 (q:∀a cols H',Ak H H'->H a=none->LI H' a cols->Abd A o cols->Q (.ref a) H'):Ad G (n+6) "coloured" [.ref w,.ref r] H Q E:=by
 refine Ag F.coloured rfl ?_
 simp only[Jf,List.map,List.replicate,List.cons_append,List.nil_append]
 refine Aa4 ([some (.ref w),some (.ref r),none,none]) (fun H₁=>Ak H H₁) (fun N hN=>?_) ?_
 ·simp (disch:=first|decide|omega) only[Zg,Zp,Zw,Zx,Zz,Ae,Ai,A0,true_and,F.needWhole]
  exact Ik F hm hW hL ho hp fun H₁ e1=>hN _ e1
 rintro H₀ e0
 refine Um (fun a=>[some (.ref w),some (.ref r),none,some (.ref a)]) (fun a H₁=>Fx (Ak H H₁) (H a=none) (LI H₁ a (o.map fun _=>0))) (fun N hN=>?_) ?_
 ·refine K4 (gvK ?_)
  simp (disch:=first|decide|omega) only[Ze,Zg,Z4,Av,Aw,Ae,Ai,List.replicate,Ar,Au]
  refine B6 (hL.ext e0) ?_
  refine⟨by simp[Cg,ho.len];exact Q34 hm,G8 (h:=fun _=>V.int 0) (hL.ext e0) (fun x hx K' hK'=>?_) ?_⟩
  ·skip
   exact hK'
  ·refine Ac fun a H₁ e1 n1 v1=>hN a _ ⟨e0.trans e1,e0.isNone n1,?_⟩
   unfold LI;rw[v1,List.map_map];rfl
 rintro a H₁ hP19
 refine Aa fun nY=>?_
 obtain⟨e1,n1,v1⟩:=hP19
 refine nY ?_;clear nY
 refine Cf (X5 (Aei ?_))
 simp (disch:=first|decide|omega) only[Zg,Z0,Z2,Z3,Ae,Ai]
 refine Ada (hL.ext e1) ?_
 refine Aba (fun i ρ H₂=>(Ho fun r2 cols=>Xq (ρ = [some (.ref w),some (.ref r),r2,some (.ref a)]) (Ak H H₂) (LI H₂ a cols) (cols.length=m) (Q4 A o cols (m-i)))) ?_ ?_ ?_ ?_
 ·exact⟨_,_,rfl,e1,v1,by rw[List.length_map,ho.len],by rw[Nat.sub_zero,<-ho.len];exact Q4.none⟩
 ·rintro i ρ H₂ ⟨r2,cols,rfl,e,hc,hl,hall⟩;exact hL.ext e
 ·rintro i v ρ H₂ K hv hP20 hK
  refine Aa fun nY=>?_
  obtain⟨r2,cols,rfl,e,hc,hl,hall⟩:=hP20
  rw[<-List.map_reverse]at hv
  obtain⟨p,hp',rfl⟩:=LI.at_ (a:=r) hv
  have hi:i<m:=by
   have:=(List.getElem?_eq_some_iff.mp hp').1
   rwa[List.length_reverse,ho.len]at this
  rw[List.getElem?_reverse (by rw[ho.len];exact hi),ho.len]at hp'
  have hpo:=List.mem_of_getElem? hp'
  have hpr:=ho.mem.mp hpo
  refine nY ?_;clear nY
  simp only[I4,Z3,Z2,List.set_cons_succ,List.set_cons_zero]
  refine Tj (U3 ?_)
  refine⟨by rw[F.leastFree];rfl,?_⟩
  refine J3 (gvK ?_)
  simp (disch:=first|decide|omega) only[Zg,Zp,Zw,Zx,Z4,Av,Aw,Ae,Ai,List.replicate,A0,true_and,F.behind]
  refine Of F hm (hW.ext e) (hL.ext e) ho hpo fun s H₃ e3 _ v3=>?_
  refine B6 v3 ?_
  have hbl:=Qz (A:=A) (o:=o) (p:=p)
  rw[ho.len]at hbl
  refine⟨by simp[Cg];exact(Nat.le_trans hbl (Nat.le_trans (Nat.sub_le _ _) (Nat.le_trans hm (by decide)))),G8 (h:=fun x=>V.int (cols.getD x.toNat 0)) v3 (fun x hx K' hK'=>?_) ?_⟩
  ·have hxr:=ho.mem.mp (Oe hx)
   have hxl:x.toNat<cols.length:=(Q62 hl hxr.1 hxr.2)
   have hsub:(cols.map V.int)[x.toNat]? = some (.int (cols.getD x.toNat 0)):=by
    rw[List.getElem?_map,List.getElem?_eq_getElem hxl,List.getD_eq_getElem?_getD,List.getElem?_eq_getElem hxl];rfl
   simp (disch:=first|decide|omega) only[Zg,Zs,Ae,Ai,I3,Bz (hc.ext e3) hxr.1 hsub]
   exact hK'
  refine Ac fun u H₄ e4 _ v4=>?_
  have v4':LI H₄ u ((bh A o p).map fun x=>cols.getD x.toNat 0):=by unfold LI;rw[v4,List.map_map];rfl
  (try dsimp only)
  refine S6 F v4' fun c hmex=>?_
  (try dsimp only)
  have hc4:=(hc.ext e3).ext e4
  refine Aa5 hc4 hpr.1 (by rw[hl];exact hpr.2) ?_
  refine hK _ _ ⟨_,cols.set p.toNat c,rfl,((e.trans e3).trans e4).upd' n1,Ab,by rw[List.length_set];exact hl,?_⟩
  rw[show m-i=m-1-i+1 by exact((Nat.sub_add_cancel (Nat.sub_pos_of_lt hi)).symm.trans (congrArg (·+1) (Nat.sub_right_comm _ _ 1)))]at hall
  rw[show m-(i+1)=m-1-i by exact(Nat.sub_right_comm _ _ 1)]
  exact hall.step ho hl hp' hmex
 ·rintro ρ H₂ hP21
  refine Aa fun nY=>?_
  obtain⟨r2,cols,rfl,e,hc,hl,hall⟩:=hP21
  refine nY ?_;clear nY
  try simp (disch:=first|decide|omega) only[Ae,Ai]
  rw[List.length_reverse,List.length_map,ho.len,Nat.sub_self]at hall
  exact q a cols H₂ e n1 hc (hall.all (by rw[hl,ho.len]))
set_option linter.all false
theorem S7{es:List (Int×V)}{k:Int}:(dget es k).isSome=decide (k∈es.map (·.1)):=by
 unfold dget
 induction es with
 | nil=>rfl
 | cons e r ih=>
   obtain⟨k',v'⟩:=e
   rw[List.lookup_cons]
   by_cases h:k=k'
   ·subst h;simp
   ·rw[show (k==k')=false from decide_eq_false h]
    rw[ih]
    simp[h]
theorem Abe{es fs:List (Int×V)}{k:Int}(h:k∈es.map (·.1)):dget (es++fs) k=dget es k:=by
 unfold dget
 induction es with
 | nil=>simp at h
 | cons e r ih=>
   obtain⟨k',v'⟩:=e
   rw[List.cons_append,List.lookup_cons,List.lookup_cons]
   by_cases h1:k=k'
   ·subst h1;simp
   ·rw[show (k==k')=false from decide_eq_false h1]
    exact ih (by simpa[h1]using h)
theorem Abf{es:List (Int×V)}{k:Int}{v:V}(h:k∉es.map (·.1)):dget (es ++ [(k,v)]) k=some v:=by
 unfold dget
 induction es with
 | nil=>simp
 | cons e r ih=>
   obtain⟨k',v'⟩:=e
   rw[List.cons_append,List.lookup_cons]
   have h1:k≠k':=fun z=>h (List.mem_cons.mpr (Or.inl z))
   rw[show (k==k')=false from decide_eq_false h1]
   exact ih (fun z=>h (by simp only[List.map_cons];exact List.mem_cons_of_mem _ z))
inductive S8(m:Nat)(A:Nat->Nat->Bool)(shut:List Int):Int->Int->Prop where
 | refl (x:Int):S8 m A shut x x
 | step {x y z:Int}:S8 m A shut x y->A y.toNat z.toNat=true->z∉shut->0<=z->z<m->S8 m A shut x z
structure Uo(m:Nat)(A:Nat->Nat->Bool)(shut:List Int)(start:Int)(es:List (Int×V)):Prop where
 nodup:(es.map (·.1)).Nodup
 head:(es.map (·.1))[0]? = some start
 in_:∀x∈es.map (·.1),0<=x/\x<(m:Int)
 out:∀x∈es.map (·.1),x=start\/x∉shut
 rch:∀x∈es.map (·.1),S8 m A shut start x
 par:∀(i:Nat) (x:Int),0<i->(es.map (·.1))[i]? = some x->(Ho fun(j:Nat) (y:Int)=>Jy (j<i) ((es.map (·.1))[j]? = some y) (dget es x=some (.int y)) (A y.toNat x.toNat=true))
theorem Uo.snoc{m:Nat}{A:Nat->Nat->Bool}{shut:List Int}{start:Int}{es:List (Int×V)}(h:Uo m A shut start es){j:Nat}{y z:Int}(hy:(es.map (·.1))[j]? = some y)(ha:A y.toNat z.toNat=true)(hz:z∉shut)(hz':z∉es.map (·.1))(h0:0<=z)(h1:z<m) :
 Uo m A shut start (es ++ [(z,.int y)]):=by
 have hlen:0<(es.map (·.1)).length:=(List.getElem?_eq_some_iff.mp h.head).1
 have hm:(es ++ [(z,V.int y)]).map (·.1)=es.map (·.1) ++ [z]:=List.map_append
 refine⟨?_,?_,?_,?_,?_,?_⟩
 ·rw[hm,List.nodup_append]
  exact⟨h.nodup,List.pairwise_singleton _ _,fun a ha b hb e=>hz' (by simp at hb;rw[<-hb,<-e];exact ha)⟩
 ·rw[hm,List.getElem?_append_left hlen];exact h.head
 ·intro x hx
  rw[hm]at hx
  refine Aa fun nY=>?_
  rcases List.mem_append.mp hx with hx|hx
  ·refine nY ?_;clear nY
   exact h.in_ x hx
  ·refine nY ?_;clear nY
   simp at hx;subst hx;exact⟨h0,h1⟩
 ·intro x hx
  rw[hm]at hx
  refine Aa fun nY=>?_
  rcases List.mem_append.mp hx with hx|hx
  ·refine nY ?_;clear nY
   exact h.out x hx
  ·refine nY ?_;clear nY
   simp at hx;subst hx;exact .inr hz
 ·intro x hx
  rw[hm]at hx
  refine Aa fun nY=>?_
  rcases List.mem_append.mp hx with hx|hx
  ·refine nY ?_;clear nY
   exact h.rch x hx
  ·simp at hx;subst hx
   refine nY ?_;clear nY
   exact .step (h.rch y (List.mem_of_getElem? hy)) ha hz h0 h1
 ·intro i x hi hx
  rw[hm]at hx ⊢
  refine Aa fun nY=>?_
  cases Nat.lt_or_ge i (es.map (·.1)).length with
  | inl q=>
    rw[List.getElem?_append_left q]at hx
    obtain⟨j',y',h1,h2,h3,h4⟩:=h.par i x hi hx
    refine nY ?_;clear nY
    exact⟨j',y',h1,by rw[List.getElem?_append_left (Nat.lt_trans h1 q)];exact h2,by rw[Abe (List.mem_of_getElem? hx)];exact h3,h4⟩
  | inr q=>
    rw[List.getElem?_append_right q]at hx
    have hj:=(List.getElem?_eq_some_iff.mp hy).1
    have:i-(es.map (·.1)).length=0:=by
     obtain⟨z,_⟩:=List.getElem?_eq_some_iff.mp hx
     simp at z;simp;exact z
    rw[this]at hx
    simp at hx
    subst hx
    refine nY ?_;clear nY
    exact⟨j,y,(Nat.lt_of_lt_of_le hj q),by rw[List.getElem?_append_left hj];exact hy,Abf hz',ha⟩
variable {G:Ax} {n:Nat} {H H':AH} {Q:Af} {E:EP} {C:CS} {ρ:Aj}
theorem Ahi{k:Int}{a:Nat}{es:List (Int×V)}(h:H a=some (.dict es)):Ca .In (.int k) (.ref a) H Q=Q (.bool (decide (k∈es.map (·.1)))) H:=by
 delta Ca;(try dsimp only);(try delta P6);(try dsimp only[A2]);rw[h];(try dsimp only[Ap]);rw[S7];(try dsimp only[Fy])
theorem Abg{k:Int}{a:Nat}{es:List (Int×V)}(h:H a=some (.dict es)):Ca .NotIn (.int k) (.ref a) H Q=Q (.bool (!decide (k∈es.map (·.1)))) H:=by
 delta Ca;(try dsimp only);(try delta P6);(try dsimp only[A2]);rw[h];(try dsimp only[Ap]);rw[S7];(try dsimp only[Fy])
set_option linter.all false
variable {G:Ax} {n:Nat} {H H':AH} {Q:Af} {E:EP} {C:CS} {ρ:Aj}
theorem S8.in_{m:Nat}{A:Nat->Nat->Bool}{shut:List Int}{x y:Int}(h:S8 m A shut x y)(hx:x∉shut/\0<=x/\x<(m:Int)):y∉shut/\0<=y/\y<(m:Int):=by
 induction h with
 | refl=>exact hx
 | step _ _ s z0 z1 _=>exact⟨s,z0,z1⟩
theorem S8.trans{m:Nat}{A:Nat->Nat->Bool}{shut:List Int}{x y z:Int}(h:S8 m A shut x y)(h':S8 m A shut y z):S8 m A shut x z:=by
 induction h' with
 | refl=>exact h
 | step _ a s z0 z1 ih=>exact .step ih a s z0 z1
theorem S8.symm{m:Nat}{A:Nat->Nat->Bool}{shut:List Int}{x y:Int}(g:Gr A)(h:S8 m A shut x y)(hx:x∉shut/\0<=x/\x<(m:Int)):S8 m A shut y x:=by
 induction h with
 | refl=>exact .refl _
 | step r a s z0 z1 ih=>
   have hy:=r.in_ hx
   exact(S8.step (.refl _) (by rw[g.symm];exact a) hy.1 hy.2.1 hy.2.2).trans ih
theorem S8.mono{m:Nat}{A:Nat->Nat->Bool}{shut shut':List Int}{x y:Int}(hs:∀z∈shut',z∈shut)(h:S8 m A shut x y):S8 m A shut' x y:=by
 induction h with
 | refl=>exact .refl _
 | step _ a s z0 z1 ih=>exact .step ih a (fun q=>s (hs _ q)) z0 z1
theorem Og{es:List (Int×V)}{k x:Int}{v:V}:dget (C3 es k v) x=if x=k then some v else dget es x:=by
 unfold dget
 induction es with
 | nil=>
   simp only[C3,List.lookup_cons,List.lookup_nil]
   by_cases h:x=k
   ·subst h;simp
   ·rw[show (x==k)=false from decide_eq_false h,if_neg h]
 | cons e r ih=>
   obtain⟨k',v'⟩:=e
   unfold C3
   by_cases h:k=k'
   ·subst h
    rw[if_pos rfl,List.lookup_cons,List.lookup_cons]
    by_cases h':x=k
    ·subst h';simp
    ·rw[show (x==k)=false from decide_eq_false h',if_neg h']
   ·rw[if_neg h,List.lookup_cons,List.lookup_cons,ih]
    by_cases h':x=k'
    ·subst h'
     simp;exact fun z=>absurd z.symm h
    ·rw[show (x==k')=false from decide_eq_false h']
theorem Ry{es:List (Int×V)}{k:Int}{v:V}:(C3 es k v).length<=es.length+1:=by
 induction es with
 | nil=>simp[C3]
 | cons e r ih=>
   obtain⟨k',v'⟩:=e
   unfold C3
   split
   ·simp
   ·simp;exact ih
set_option linter.all false
variable {G:Ax} {n:Nat} {H H':AH} {Q:Af} {E:EP} {C:CS} {ρ:Aj}
structure Tch(H₂ H':AH)(tt:Nat)(es:List (Int×V))(T:Int->List Int):Prop where
 ext:Ak H₂ H'
 ntt:H₂ tt=none
 at_:H' tt=some (.dict es)
 nodup:(es.map (·.1)).Nodup
 val:∀L v,dget es L=some v->(Hn fun x=>Jy (v = .ref x) (x≠tt) (H₂ x=none) (LI H' x (T L)))
 inj:∀L L' x,dget es L=some (.ref x)->dget es L'=some (.ref x)->L=L'
 non:∀L,dget es L=none->T L = []
theorem Tch.mono{H₂ H'':AH}{tt:Nat}{es:List (Int×V)}{T:Int->List Int}(h:Tch H₂ H' tt es T)(e:Ak H' H''):Tch H₂ H'' tt es T:=
 ⟨h.ext.trans e,h.ntt,e _ _ h.at_,h.nodup,fun L v hv=>by
  obtain⟨x,a,b,c,d⟩:=h.val L v hv
  exact⟨x,a,b,c,d.ext e⟩,h.inj,h.non⟩
theorem Tch.set{H₂:AH}{tt x:Nat}{es:List (Int×V)}{T:Int->List Int}{L:Int}(h:Tch H₂ H' tt es T)(hx:dget es L=some (.ref x))(l:List Int):Tch H₂ (upd H' x (.list (l.map V.int))) tt es (fun K=>if K=L then l else T K):=by
 refine Aa fun nY=>?_
 obtain⟨x',hx',h1,h2,h3⟩:=h.val L _ hx
 cases hx'
 refine nY ?_;clear nY
 refine⟨h.ext.upd' h2,h.ntt,by rw[upd_ne (Ne.symm h1)];exact h.at_,h.nodup,fun K v hv=>?_,h.inj,fun K hK=>?_⟩
 ·refine Aa fun nY=>?_
  obtain⟨y,rfl,a1,a2,a3⟩:=h.val K v hv
  refine nY ?_;clear nY
  refine⟨y,rfl,a1,a2,?_⟩
  refine Aa fun nY=>?_
  by_cases hKL:K=L
  ·subst hKL
   rw[hx]at hv;cases hv
   refine nY ?_;clear nY
   rw[if_pos rfl];exact Ab
  ·refine nY ?_;clear nY
   rw[if_neg hKL]
   exact a3.upd_ne fun z=>hKL (h.inj K L x (by rw[<-z];exact hv) hx)
 ·have:K≠L:=fun z=>by rw[z,hx]at hK;cases hK
  rw[if_neg this];exact h.non K hK
theorem Tch.new{H₂ H'':AH}{tt z:Nat}{es:List (Int×V)}{T:Int->List Int}{L:Int}(h:Tch H₂ H' tt es T)(e:Ak H' H'')(hz:H' z=none)(hv:LI H'' z [])(hn:dget es L=none):Tch H₂ (upd H'' tt (.dict (C3 es L (.ref z)))) tt (C3 es L (.ref z)) T:=by
 have hztt:z≠tt:=fun q=>by rw[q,h.at_]at hz;cases hz
 have h':=h.mono e
 refine⟨h'.ext.upd' h.ntt,h.ntt,Ab,?_,fun K v hK=>?_,fun K K' x h1 h2=>?_,fun K hK=>?_⟩
 ·rw[Iw]
  split
  ·exact h.nodup
  ·rename_i hh
   rw[List.nodup_append]
   exact⟨h.nodup,List.pairwise_singleton _ _,fun a ha b hb e=>hh (by simp at hb;rw[<-hb,<-e];exact ha)⟩
 ·rw[Og]at hK
  split at hK
  ·rename_i hKL
   cases hK
   refine⟨z,rfl,hztt,h.ext.isNone hz,?_⟩
   rw[hKL,h.non L hn]
   exact hv.upd_ne hztt
  ·obtain⟨y,rfl,a1,a2,a3⟩:=h'.val K v hK
   exact⟨y,rfl,a1,a2,a3.upd_ne a1⟩
 ·have key:∀K,dget es K=some (.ref x)->x≠z:=fun K hK q=>by
   obtain⟨y,hy,_,_,a3⟩:=h.val K _ hK
   cases hy
   unfold LI at a3
   rw[q,hz]at a3;cases a3
  rw[Og]at h1 h2
  split at h1<;>split at h2
  ·(first|lia|omega)
  ·cases h1;exact absurd rfl (key K' h2)
  ·cases h2;exact absurd rfl (key K h1)
  ·exact h.inj K K' x h1 h2
 ·rw[Og]at hK
  split at hK
  ·cases hK
  ·exact h.non K hK
set_option linter.all false
variable {G:Ax} {n:Nat} {H H':AH} {Q:Af} {E:EP} {C:CS} {ρ:Aj}
set_option linter.all false
variable {G:Ax} {n:Nat} {H H':AH} {Q:Af} {E:EP} {C:CS} {ρ:Aj}
set_option linter.all false
noncomputable def Up(A:Nat->Nat->Bool)(l:List Int):Prop:=∀a∈l,∀b∈l,a≠b->A a.toNat b.toNat=true
theorem Pz{A:Nat->Nat->Bool}{l:List Int}(g:Gr A)(hn:l.Nodup):fu A l=none↔Up A l:=by
 rw[Adi]
 constructor
 ·intro h a ha b hb hab
  obtain⟨i,hi,rfl⟩:=List.mem_iff_getElem.mp ha
  obtain⟨j,hj,rfl⟩:=List.mem_iff_getElem.mp hb
  rcases Nat.lt_trichotomy i j with q|q|q
  ·exact List.pairwise_iff_getElem.mp h i j hi hj q
  ·subst q;exact absurd rfl hab
  ·rw[g.symm];exact List.pairwise_iff_getElem.mp h j i hj hi q
 ·intro h
  rw[List.pairwise_iff_getElem]
  intro i j hi hj hij
  exact h _ (List.getElem_mem _) _ (List.getElem_mem _) (List.pairwise_iff_getElem.mp hn i j hi hj hij)
noncomputable def Sim(A:Nat->Nat->Bool)(U:List Int)(p:Int):Prop:=∀a∈U,∀b∈U,A p.toNat a.toNat=true->A p.toNat b.toNat=true->a≠b->A a.toNat b.toNat=true
theorem Xl{A:Nat->Nat->Bool}{U:List Int}{p:Int}(g:Gr A)(hn:U.Nodup):Kw A U p=true↔Sim A U p:=by
 unfold Kw O1
 rw[Option.isNone_iff_eq_none,Pz g (hn.filter _)]
 unfold Up Sim
 constructor
 ·intro h a ha b hb h1 h2 hab
  exact h a (List.mem_filter.mpr ⟨ha,h1⟩) b (List.mem_filter.mpr ⟨hb,h2⟩) hab
 ·intro h a ha b hb hab
  have h1:=List.mem_filter.mp ha
  have h2:=List.mem_filter.mp hb
  exact h a h1.1 b h2.1 h1.2 h2.2 hab
inductive CU(A:Nat->Nat->Bool)(U:List Int)(p:Int):Int->Int->Prop where
 | refl (x:Int):CU A U p x x
 | step {x y z:Int}:CU A U p x y->A y.toNat z.toNat=true->z∈U->z≠p->A p.toNat z.toNat=false->CU A U p x z
theorem CU.trans{A:Nat->Nat->Bool}{U:List Int}{p x y z:Int}(h:CU A U p x y)(h':CU A U p y z):CU A U p x z:=by
 induction h' with
 | refl=>exact h
 | step _ a b c d ih=>exact .step ih a b c d
theorem CU.away{A:Nat->Nat->Bool}{U:List Int}{p x y:Int}(h:CU A U p x y)(hx:x∈U/\x≠p/\A p.toNat x.toNat=false):y∈U/\y≠p/\A p.toNat y.toNat=false:=by
 induction h with
 | refl=>exact hx
 | step _ a b c d _=>exact⟨b,c,d⟩
theorem CU.symm{A:Nat->Nat->Bool}{U:List Int}{p x y:Int}(g:Gr A)(h:CU A U p x y)(hx:x∈U/\x≠p/\A p.toNat x.toNat=false):CU A U p y x:=by
 induction h with
 | refl=>exact .refl _
 | step r a b c d ih=>
   have:=r.away hx
   exact(CU.step (.refl _) (by rw[g.symm];exact a) this.1 this.2.1 this.2.2).trans ih
theorem CU.mono{A:Nat->Nat->Bool}{U W:List Int}{p x y:Int}(hs:∀z∈U,z∈W)(h:CU A U p x y):CU A W p x y:=by
 induction h with
 | refl=>exact .refl _
 | step _ a b c d ih=>exact .step ih a (hs _ b) c d
noncomputable def NoR(A:Nat->Nat->Bool)(U:List Int):Prop:=∀p∈U,∀a∈U,∀b∈U,A p.toNat a.toNat=true->A p.toNat b.toNat=true->a≠b->A a.toNat b.toNat=false->∀u∈U,∀v∈U,
 A a.toNat u.toNat=true->A b.toNat v.toNat=true->u≠p->v≠p->A p.toNat u.toNat=false->A p.toNat v.toNat=false->¬CU A U p u v
theorem NoR.mono{A:Nat->Nat->Bool}{U W:List Int}(hs:∀z∈U,z∈W)(h:NoR A W):NoR A U:=
 fun p hp a ha b hb h1 h2 h3 h4 u hu v hv h5 h6 h7 h8 h9 h10 hc=>h p (hs p hp) a (hs a ha) b (hs b hb) h1 h2 h3 h4 u (hs u hu) v (hs v hv) h5 h6 h7 h8 h9 h10 (hc.mono hs)
theorem Q8{A:Nat->Nat->Bool}(g:Gr A):∀(k:Nat) (gn t:List Int),t.Nodup->t.length<=k->(Ho fun g2 t'=>Xq (Cd A k gn t=(gn++g2,t')) ((g2++t').Perm t) (S5 A t'=none) (t'.Nodup) (∀(j:Nat) (p:Int),g2[j]? = some p->Up A (O1 A (g2.drop (j+1)++t') p))):=by
 intro k
 induction k with
 | zero=>
   intro gn t hn hl
   cases List.length_eq_zero_iff.mp (Nat.eq_zero_of_le_zero hl)
   exact⟨[],[],congrArg (·,[]) (List.append_nil gn).symm,.refl _,rfl,hn,fun _ _ h=>absurd h.symm (Option.some_ne_none _)⟩
 | succ k ih=>
   intro gn t hn hl
   cases e:S5 A t with
   | none=>exact⟨[],t,(Et e).trans (congrArg (·,t) (List.append_nil gn).symm),.refl _,e,hn,fun _ _ h=>absurd h.symm (Option.some_ne_none _)⟩
   | some p=>
     have hp:=V5 e
     refine Aa fun nY=>?_
     obtain⟨g2,t',h1,h2,h3,h4,h5⟩:=ih (gn ++ [p]) (t.erase p) (hn.erase p) (Nat.le_trans (Nat.le_of_eq (List.length_erase_of_mem hp)) (Nat.sub_le_sub_right hl 1))
     refine nY ?_;clear nY
     refine⟨p::g2,t',(Es e).trans (h1.trans (congrArg (·,t') (List.append_assoc gn [p] g2))),(h2.cons p).trans (List.perm_cons_erase hp).symm,h3,h4,fun j q hq=>?_⟩
     refine Aa fun nY=>?_
     cases j with
     | succ j=>(refine nY ?_;clear nY;exact h5 j q hq)
     | zero=>
       cases hq
       have hs:Sim A t p:=(Xl g hn).mp (List.find?_some e)
       refine nY ?_;clear nY
       intro a ha b hb hab
       have ha':=List.mem_filter.mp ha
       have hb':=List.mem_filter.mp hb
       exact hs a (List.mem_of_mem_erase (h2.mem_iff.mp ha'.1)) b (List.mem_of_mem_erase (h2.mem_iff.mp hb'.1)) ha'.2 hb'.2 hab
set_option linter.all false
variable {G:Ax} {n:Nat} {H H':AH} {Q:Af} {E:EP} {C:CS} {ρ:Aj}
set_option linter.all false
noncomputable def Jx(A:Nat->Nat->Bool)(s:List Int×List Int):List Int×List Int:=match S5 A s.2 with
 | none=>s
 | some p=>(s.1 ++ [p],s.2.erase p)
theorem Q9{A:Nat->Nat->Bool}:∀ {k:Nat} {g t:List Int},Cd A (k+1) g t=Jx A (Cd A k g t):=by
 have n0:∀s:List Int×List Int,S5 A s.2=none->Jx A s=s:=fun s h=>by delta Jx;rw[h]
 have n1:∀(s:List Int×List Int) (p:Int),S5 A s.2=some p->Jx A s=(s.1 ++ [p],s.2.erase p):=fun s p h=>by delta Jx;rw[h]
 intro k
 induction k with
 | zero=>
   intro g t
   cases h:S5 A t with
   | none=>exact(Et h).trans (n0 (g,t) h).symm
   | some p=>exact(Es h).trans (n1 (g,t) p h).symm
 | succ k ih=>
   intro g t
   cases h:S5 A t with
   | none=>rw[Et h,Et h];exact(n0 (g,t) h).symm
   | some p=>rw[Es h,Es h,ih]
variable {G:Ax} {n:Nat} {H H':AH} {Q:Af} {E:EP} {C:CS} {ρ:Aj}
set_option linter.all false
theorem Uq{m:Nat}{A:Nat->Nat->Bool}{t:List Int}(g:Gr A)(ht:t.Perm (B8 m))(h:(Cd A m [] t).2 = []):B7 m (Cd A m [] t).1/\Peo A (Cd A m [] t).1:=by
 refine Aa fun nY=>?_
 obtain⟨g2,t',h1,h2,h3,h4,h5⟩:=Q8 g m [] t (ht.nodup_iff.mpr Ep) (by rw[ht.length_eq,G9];exact Nat.le_refl _)
 refine nY ?_;clear nY
 rw[h1]at h ⊢
 simp only[List.nil_append]at h h1 ⊢
 subst h
 rw[List.append_nil]at h2
 have h2':=h2.trans ht
 have hord:B7 m g2:=Aa8 (h2'.nodup_iff.mpr Ep) fun x=>by rw[h2'.mem_iff,Dh]
 refine⟨hord,fun p hp=>?_⟩
 obtain⟨j,hj⟩:=List.mem_iff_getElem?.mp hp
 rw[Aa9 hord.nodup hj]
 unfold O1
 rw[Pz g ((hord.nodup.sublist (List.drop_sublist _ _)).filter _)]
 have:=h5 j p hj
 rwa[List.append_nil]at this
variable {G:Ax} {n:Nat} {H H':AH} {Q:Af} {E:EP} {C:CS} {ρ:Aj}
set_option linter.all false
variable {G:Ax} {n:Nat} {H H':AH} {Q:Af} {E:EP} {C:CS} {ρ:Aj}
noncomputable def S9:V->Nat
 | .ref a=>a
 | _=>0
theorem Xm:∀ {xs:List V},(∀x∈xs,∃a,x = .ref a)->(xs.map S9).map V.ref=xs:=by
 intro xs
 induction xs with
 | nil=>exact fun _=>rfl
 | cons x r ih=>
   intro h
   obtain⟨a,rfl⟩:=h x List.mem_cons_self
   exact congrArg _ (ih fun y hy=>h y (List.mem_cons_of_mem _ hy))
theorem Xn{xs:List V}{ks:List Nat}(h:xs.Perm (ks.map V.ref)):∃ks':List Nat,xs=ks'.map V.ref/\ks'.Perm ks:=by
 have h1:=Xm (xs:=xs) fun x hx=>by
  obtain⟨a,_,rfl⟩:=List.mem_map.mp (h.mem_iff.mp hx)
  exact⟨a,rfl⟩
 refine⟨xs.map S9,h1.symm,?_⟩
 have h2:=h.map S9
 rw[List.map_map]at h2
 have:ks.map (S9∘V.ref)=ks:=by
  have e:(S9∘V.ref)=id:=by funext x;rfl
  rw[e,List.map_id]
 rwa[this]at h2
theorem V7{a:Nat}{ks:List Nat}(h:H a=some (.list (ks.map V.ref)))(hp:∀x∈ks,(Ho fun(c i:Int)=>H x=some (.tuple [.int c,.int i])))
 (q:∀ks':List Nat,ks'.Perm ks->An (.list (ks'.map V.ref)) H Q):D3 .sorted [.ref a] H Q:=by
 delta D3;dsimp only;delta Gd;dsimp only[Oj,A2];rw[h];dsimp only
 cases ks with
 | nil=>exact⟨by decide,q [] (.refl _)⟩
 | cons x r=>
   refine⟨?_,fun xs' hx'=>?_⟩
   ·rw[List.all_eq_true]
    intro v hv
    obtain⟨y,hy,rfl⟩:=List.mem_map.mp hv
    obtain⟨c,i,e⟩:=hp y hy
    show (match H y with|some (.tuple [.int _,.int _])=>true|_=>false)=true
    rw[e]
   ·obtain⟨ks',rfl,h2⟩:=Xn hx'
    exact q ks' h2
noncomputable def Oh(H:AH)(x:Nat):Int:=match H x with
 | some (.tuple [_,.int i])=>i
 | _=>0
theorem Ta{x:Nat}{c i:Int}(h:H x=some (.tuple [.int c,.int i])):Oh H x=i:=by unfold Oh;rw[h]
theorem V8(B:Jt G)(hG:G.fn "_law_keyed" = some Fc){ns:List Int}{m:Nat}(hm:m<=60)(q:∀a l H',Ak H H'->H a=none->LI H' a l->l.Perm (B8 m)->Q (.ref a) H') :
 Ad G (n+2) "_law_keyed" [.script ns,.int m] H Q E:=by
 refine Ag hG rfl ?_
 simp only[Fc,List.map,List.replicate,List.cons_append,List.nil_append]
 refine Ahg (fun(k:Nat) (ks:List Nat)=>[some (.script ns),some (.int m),some (.ref k)]) (fun(k:Nat) (ks:List Nat) H₁=>Jy (Ak H H₁) (H₁ k=some (.list (ks.map V.ref))) (ks.length=m) (∀(i x:Nat),ks[i]? = some x->∃c:Int,H₁ x=some (.tuple [.int c,.int (i:Int)]))) (fun N hN=>?_) ?_
 ·refine K4 (grK ?_)
  simp (disch:=first|decide|omega) only[Zg,Zw,Zx,Z4,A9,Av,Aw,Ae,Ai,List.replicate,Ar,Au]
  refine⟨by simp[Cg];exact Q34 hm,?_⟩
  refine Cv (k:=0) (fun j acc H₁=>(Hn fun(ks:List Nat)=>Jy (acc=ks.map V.ref) (Ak H H₁) (ks.length=j) (∀(i x:Nat),ks[i]? = some x->∃c:Int,H₁ x=some (.tuple [.int c,.int (i:Int)])))) ⟨[],rfl,Ak.refl,rfl,fun _ _ h=>absurd h.symm (Option.some_ne_none _)⟩ ?_ ?_
  ·rintro j x acc H₁ K' hx' ⟨ks,rfl,e,hl,hall⟩ hK'
   rw[List.getElem?_map]at hx'
   obtain⟨j',hj,rfl⟩:=Option.map_eq_some_iff.mp hx'
   obtain⟨hlt,he⟩:=List.getElem?_eq_some_iff.mp hj
   simp at hlt he
   subst he
   refine⟨trivial,_,rfl,?_⟩
   simp (disch:=first|decide|omega) only[Ze,Zg,Zl,Zp,Zv,Zw,Zx,Z6,Z8,Ae,Ai,A0,true_and,Ht,Aaq,B.cellAt,B.mixed]
   refine⟨.inl (by decide),?_⟩
   refine De B.cellAt (Int.natCast_nonneg _) ?_
   refine⟨.inl (by decide),?_⟩
   refine Mt B.mixed fun c c0 c1=>?_
   refine Ac fun y H₂ e2 n2 v2=>hK' _ _ ⟨ks ++ [y],by simp,e.trans e2,by simp[hl],fun i z hz=>?_⟩
   rcases Nat.lt_or_ge i ks.length with hlt'|hge
   ·rw[List.getElem?_append_left hlt']at hz
    obtain⟨c',hc'⟩:=hall i z hz
    exact⟨c',e2 _ _ hc'⟩
   ·have hi:=(List.getElem?_eq_some_iff.mp hz).1
    simp at hi
    have hij:i=j:=((Nat.le_antisymm (Nat.le_of_lt_succ hi) hge).trans (hl.trans (Nat.zero_add _)))
    subst hij
    rw[List.getElem?_append_right hge,show i-ks.length=0 by exact Air hl]at hz
    simp at hz
    subst hz
    exact⟨c,v2⟩
  ·rintro acc H₁ ⟨ks,rfl,e,hl,hall⟩
   refine⟨trivial,?_⟩
   refine Ac fun k H₂ e2 n2 v2=>hN k ks _ ⟨e.trans e2,v2,by simpa using hl,fun i x hx=>?_⟩
   obtain⟨c,hc⟩:=hall i x hx
   exact⟨c,e2 _ _ hc⟩
 rintro k ks H₁ ⟨e,hk,hl,hall⟩
 refine Cf (X4 (gvK ?_))
 simp (disch:=first|decide|omega) only[Zg,Zq,Zw,Zx,Z4,Av,Aw,Ae,Ai,List.replicate]
 refine V7 hk (fun x hx=>?_) fun ks' hperm=>?_
 ·obtain⟨i,hi⟩:=List.mem_iff_getElem?.mp hx
  obtain⟨c,hc⟩:=hall i x hi
  exact⟨c,i,hc⟩
 refine Ac fun s H₂ e2 n2 v2=>?_
 (try dsimp only)
 refine B6 v2 ?_
 have hall2:∀(i x:Nat),ks[i]? = some x->∃c:Int,H₂ x=some (.tuple [.int c,.int (i:Int)]):=fun i x hx=>by
  obtain⟨c,hc⟩:=hall i x hx
  exact⟨c,e2 _ _ hc⟩
 refine⟨by simp[Cg,hperm.length_eq,hl];exact Q34 hm,G6 (f:=fun v=>match v with | .ref x=>some (.int (Oh H₂ x))|_=>none) v2 (fun v hv K hK=>?_) ?_⟩
 ·obtain⟨x,hx,rfl⟩:=List.mem_map.mp hv
  obtain⟨i,hi⟩:=List.mem_iff_getElem?.mp (hperm.mem_iff.mp hx)
  obtain⟨c,hc⟩:=hall2 i x hi
  have hK:K (some (.int (Oh H₂ x))) H₂:=hK
  rw[Ta hc]at hK
  simp (disch:=first|decide|omega) only[Ze,Zg,Zs,Ae,Hv,Qr (x:= .int i) (k:=1) hc (by decide) rfl]
  exact hK
 ·have e1:(ks'.map V.ref).filterMap (fun v=>match v with | .ref x=>some (V.int (Oh H₂ x))|_=>none)=(ks'.map (Oh H₂)).map V.int:=by
   rw[List.filterMap_map,List.map_map,<-List.filterMap_eq_map]
   rfl
  rw[e1]
  refine Ac fun a H₃ e3 n3 v3=>q a _ H₃ ((e.trans e2).trans e3) ((e.trans e2).isNone n3) v3 ?_
  have e4:ks.map (Oh H₂)=B8 m:=by
   unfold B8 Lg
   refine List.ext_getElem (by simp[hl]) fun i h1 h2=>?_
   have hi:i<ks.length:=by simpa using h1
   obtain⟨c,hc⟩:=hall2 i ks[i] (List.getElem?_eq_getElem hi)
   simp[Ta hc]
  rw[<-e4]
  exact hperm.map _
theorem Adp(B:Jt G)(hK:G.fn "_law_keyed" = some Fc)(hU:G.fn "_law_untied" = some Cu)(hF:G.fn "_law_free" = some Gn)(hG:G.fn "_law_order" = some Ez){ns:List Int}{a m:Nat}{A:Nat->Nat->Bool}(g:Gr A)(hm:m<=60)(hN:Dw H a m A)
 (q0:∀H',Ak H H'->Q .none H') (q1:∀b o H',Ak H H'->H b=none->LI H' b o->B7 m o->Peo A o->Q (.ref b) H'):Ad G (n+3) "_law_order" [.script ns,.ref a] H Q E:=by
 refine Aa fun nY=>?_
 obtain⟨as,n1,n2,n3⟩:=hN
 have hN:Dw H a m A:=⟨as,n1,n2,n3⟩
 have hlen:(as.map V.ref).length=m:=by rw[List.length_map,n2]
 refine nY ?_;clear nY
 refine Ag hG rfl ?_
 simp only[Ez,List.map,List.replicate,List.cons_append,List.nil_append]
 refine Ahg (fun th t=>[some (.script ns),some (.ref a),some (.ref th),none,none,none]) (fun th t H₁=>Jy (Ak H H₁) (H th=none) (LI H₁ th t) (t.Perm (B8 m))) (fun N hN'=>?_) ?_
 ·simp (disch:=first|decide|omega) only[Zg,Zp,Zq,Zw,Zx,Zy,Ae,Ai,Ar,Au,A0,true_and,hK,Dg n1]
  rw[hlen]
  exact V8 B hK hm fun th t H₁ e1 n1 v1 hp=>hN' th t _ ⟨e1,n1,v1,hp⟩
 rintro th t H₁ hP22
 refine Aa fun nY=>?_
 obtain⟨e1,nt,vt,hperm⟩:=hP22
 refine nY ?_;clear nY
 refine Um (fun od=>[some (.script ns),some (.ref a),some (.ref th),some (.ref od),none,none]) (fun od H₂=>Xq (Ak H H₂) (H od=none) (th≠od) (LI H₂ th t) (LI H₂ od [])) (fun N hN'=>?_) ?_
 ·simp (disch:=first|decide|omega) only[Zu,Zw,Zy,Ar,Au]
  exact Ac fun od H₂ e2 n2 v2=>hN' od _ ⟨e1.trans e2,e1.isNone n2,vt.ne_none n2,vt.ext e2,v2⟩
 rintro od H₂ hP23
 refine Aa fun nY=>?_
 obtain⟨e2,no,hto,vt2,vo2⟩:=hP23
 have htl:t.length=m:=by rw[hperm.length_eq,G9]
 refine nY ?_;clear nY
 refine Cf (frK ?_)
 simp (disch:=first|decide|omega) only[Zg,Zq,Zw,Zx,Z0,Z2,Z3,A9,Ae,Ai,Dg (e2 _ _ n1)]
 (try refine Pp (by(first|lia|omega)) (by rw[hlen];(first|lia|omega)) ?_)
 rw[hlen]
 refine Dk (fun i ρ H₃=>(Ho fun r4 r5=>An7 (ρ = [some (.script ns),some (.ref a),some (.ref th),some (.ref od),r4,r5]) (Ak H H₃) (LI H₃ od (Cd A i [] t).1) (LI H₃ th (Cd A i [] t).2) ((Cd A i [] t).1.length=i) ((Cd A i [] t).1.length+(Cd A i [] t).2.length=m) (∀x∈(Cd A i [] t).2,0<=x/\x<(m:Int)))) ?_ ?_ ?_
 ·exact⟨_,_,rfl,e2,vo2,vt2,rfl,by show 0+t.length=m;exact((Nat.zero_add _).trans htl),fun x hx=>Dh.mp (hperm.mem_iff.mp hx)⟩
 ·rintro i ρ H₃ K hi hP24 hK'
  refine Aa fun nY=>?_
  obtain⟨r4,r5,rfl,e3,ho,ht,hgl,htl',hin⟩:=hP24
  have hi':i<m:=hi
  have hlast:Cd A (i+1) [] t=Jx A (Cd A i [] t):=Q9
  refine nY ?_;clear nY
  generalize Cd A i [] t=st at *
  obtain⟨gn,tt⟩:=st
  simp only at ho ht hgl htl' hin
  simp (disch:=first|decide|omega) only[Zg,Zp,Zw,Zx,Zy,Zz,Z2,Z3,Ae,Ai,Ar,Au,A0,true_and,Fd,hF]
  refine Xi hU hF (hN.ext e3) ht hin (Nat.le_trans (Nat.le_add_left _ _) (Nat.le_trans (Nat.le_of_eq htl') hm)) fun H₄ e4=>?_
  have ho4:=ho.ext e4
  have ht4:=ht.ext e4
  (try dsimp only)
  unfold Jx at hlast
  cases hl:S5 A tt with
  | none=>
    refine Fm ?_
    simp (disch:=first|decide|omega) only[Zb,Ze,Zg,Zm,Z0,Z2,Z3,Bb,Az,Ae,Ai,Option.getD_none]
    simp only[show decide ((-1:Int)<0)=true by decide,if_true]
    exact q0 _ (e3.trans e4)
  | some p=>
    simp only[hl]at hlast
    have hpm:=V5 hl
    have hpr:=hin p hpm
    have hel:=List.length_erase_of_mem hpm
    have hpos:=List.length_pos_of_mem hpm
    refine Fm ?_
    simp (disch:=first|decide|omega) only[Zb,Ze,Zg,Zm,Z0,Z2,Z3,Bb,Az,Ae,Ai,Option.getD_some]
    simp only[show decide (p<(0:Int))=false by simp;exact hpr.1,Bool.false_eq_true,if_false]
    have hbl:(gn.map V.int).length<1048576:=by rw[List.length_map];exact Nat.lt_of_le_of_lt (Nat.le_trans (Nat.le_add_right _ _) (Nat.le_trans (Nat.le_of_eq htl') hm)) (by decide)
    have ht5:LI (upd H₄ od (.list (gn.map V.int ++ [.int p]))) th tt:=ht4.upd_ne hto
    simp (disch:=first|decide|omega) only[Zg,Zw,Zx,Ae,Ai,true_and,Cq,Cp ho4,C0 ho4 hbl,Cp ht5,Aa6 ht5 hpm]
    refine hK' _ _ ?_
    rw[hlast]
    exact⟨_,_,rfl,((e3.trans e4).upd' no).upd' nt,LI.upd_ne (by unfold LI;rw[Ab];simp) (Ne.symm hto),Ab,by simp[hgl],by simp;exact Ais htl' hel hpos,fun x hx=>hin x (List.mem_of_mem_erase hx)⟩
 ·rintro ρ H₃ hP25
  refine Aa fun nY=>?_
  obtain⟨r4,r5,rfl,e3,ho,ht,hgl,htl',hin⟩:=hP25
  rw[Int.toNat_natCast]at ho ht hgl htl'
  obtain⟨h1,h2⟩:=Uq g hperm (List.length_eq_zero_iff.mp (Ait hgl htl'))
  refine nY ?_;clear nY
  try simp (disch:=first|decide|omega) only[Ae,Ai]
  exact q1 od _ H₃ e3 no ho h1 h2
set_option linter.all false
variable {G:Ax} {n:Nat} {H H':AH} {Q:Af} {E:EP} {C:CS} {ρ:Aj}
noncomputable def Kx(A:Nat->Nat->Bool)(l:List Int)(x:Int):List Int:=if l.any (fun y=>A x.toNat y.toNat)then l else l ++ [x]
noncomputable def Il(A:Nat->Nat->Bool)(o:List Int):List Int:=o.foldl (Kx A) []
theorem Ur{A:Nat->Nat->Bool}{o:List Int}{i:Nat}{x:Int}(h:o[i]? = some x):Il A (o.take (i+1))=Kx A (Il A (o.take i)) x:=by
 unfold Il
 rw[List.take_add_one,h,Option.toList_some,List.foldl_append];rfl
theorem P1{A:Nat->Nat->Bool}:∀(o l:List Int) {x:Int},x∈o.foldl (Kx A) l->x∈l\/x∈o
 | [],l,x,h=> .inl h
 | y::r,l,x,h=>by
   rw[List.foldl_cons]at h
   rcases P1 r _ h with h|h
   ·unfold Kx at h
    split at h
    ·exact .inl h
    ·rcases List.mem_append.mp h with h|h
     ·exact .inl h
     ·simp at h;exact .inr (by rw[h];exact .head _)
   ·exact .inr (.tail _ h)
theorem P3{A:Nat->Nat->Bool}:∀(o l:List Int),(o.foldl (Kx A) l).length<=l.length+o.length
 | [],l=>by simp
 | y::r,l=>by
   rw[List.foldl_cons]
   have:=P3 (A:=A) r (Kx A l y)
   have h2:(Kx A l y).length<=l.length+1:=by
    unfold Kx
    split<;>simp
   rw[List.length_cons];(first|lia|omega)
theorem Ix.updO{a p:Nat}{as:List Nat}{rows:List (List Int)}{o:O}(b:Ix H H' a as rows)(hp:H p=none)(ha:a≠p)(has:∀x∈as,x≠p):Ix H (upd H' p o) a as rows:=
 ⟨b.ext.upd' hp,b.new,by rw[upd_ne ha];exact b.at_,b.lists.upd has,b.fr⟩
theorem Adq(F:Fw G)(hG:G.fn "apart" = some J8){w m r:Nat}{A:Nat->Nat->Bool}{o:List Int}(hm:m<=60)(hW:Da H w m A)(hL:LI H r o)(ho:B7 m o)(hp:Peo A o)
 (q:∀t p c as H',Ix H H' c as ((Il A o).map (crowd A o))->H p=none->p≠c->(∀x∈as,x≠p)->LI H' p (Il A o)->H t=none->H' t=some (.tuple [.ref p,.ref c])->Q (.ref t) H'):Ad G (n+6) "apart" [.ref w,.ref r] H Q E:=by
 have B:=F.fns.base
 refine Ag hG rfl ?_
 simp only[J8,List.map,List.replicate,List.cons_append,List.nil_append]
 refine Aa4 ([some (.ref w),some (.ref r),none,none,none]) (fun H₁=>Ak H H₁) (fun N hN=>?_) ?_
 ·simp (disch:=first|decide|omega) only[Zg,Zp,Zw,Zx,Zz,Ae,Ai,A0,true_and,F.needWhole]
  exact Ik F hm hW hL ho hp fun H₁ e1=>hN _ e1
 rintro H₀ e0
 refine Um (fun p=>[some (.ref w),some (.ref r),some (.ref p),none,none]) (fun p H₁=>Fx (Ak H H₁) (H p=none) (LI H₁ p [])) (fun N hN=>?_) ?_
 ·simp (disch:=first|decide|omega) only[Zu,Zw,Zy,Ar,Au]
  exact Ac fun a H₁ e1 n1 v1=>hN a _ ⟨e0.trans e1,e0.isNone n1,v1⟩
 rintro p H₁ ⟨e1,np,vp⟩
 refine Um (fun c=>[some (.ref w),some (.ref r),some (.ref p),some (.ref c),none]) (fun c H₂=>Fx (Ix H H₂ c [] []) (p≠c) (LI H₂ p [])) (fun N hN=>?_) ?_
 ·simp (disch:=first|decide|omega) only[Zu,Zw,Zy,Ar,Au]
  exact Ac fun a H₂ e2 n2 v2=>hN a _ ⟨⟨e1.trans e2,e1.isNone n2,v2,⟨rfl,by simp⟩,by simp⟩,vp.ne_none n2,vp.ext e2⟩
 rintro c H₂ ⟨b,hpc,vp2⟩
 refine Cf (X7 ?_)
 simp (disch:=first|decide|omega) only[Zg,Zv,Zw,Zx,Z0,Z2,Z3,Ae,Ai]
 refine B6 (hL.ext b.ext) ?_
 refine L8 (fun i r4 as=>[some (.ref w),some (.ref r),some (.ref p),some (.ref c),r4]) (fun i r4 as H₃=>Fx (Ix H H₃ c as ((Il A (o.take i)).map (crowd A o))) (LI H₃ p (Il A (o.take i))) (∀x∈as,x≠p)) _ [] rfl ⟨by rw[List.take_zero];exact b,by rw[List.take_zero];exact vp2,by simp⟩ ?_ ?_ ?_
 ·rintro i r4 as H₃ ⟨b,_⟩;exact hL.ext b.ext
 ·rintro i v r4 as H₃ K hv ⟨b,vp3,has⟩ hK
  obtain⟨x,hx,rfl⟩:=LI.at_ (a:=r) hv
  have hxo:=List.mem_of_getElem? hx
  have hxr:=ho.mem.mp hxo
  have hi:=(List.getElem?_eq_some_iff.mp hx).1
  rw[ho.len]at hi
  have hsn:=Ur (A:=A) hx
  have hpl:(Il A (o.take i)).length<=60:=by
   have:=P3 (A:=A) (o.take i) []
   rw[List.length_take,List.length_nil]at this
   unfold Il
   (first|lia|omega)
  have hin:∀y∈Il A (o.take i),0<=y/\y<(m:Int):=fun y hy=>by
   rcases P1 _ _ hy with h|h
   ·cases h
   ·exact ho.mem.mp (List.mem_of_mem_take h)
  generalize Il A (o.take i)=pk at *
  obtain⟨d,rs,w1,w2,w3⟩:=hW.ext b.ext
  simp only[Na,Z3,Z2,List.set_cons_succ,List.set_cons_zero]
  refine Fm (Aef ?_)
  refine Agp ?_
  refine J3 (gvK ?_)
  simp (disch:=first|decide|omega) only[Zg,Zw,Zz,Z2,Z3,Z4,Az,Av,Aw,Ae,Ai,List.replicate]
  refine B6 vp3 ?_
  refine⟨by simp[Cg];(first|lia|omega),G8 (h:=fun y=>V.bool (A x.toNat y.toNat)) vp3 (fun y hy K' hK'=>?_) ?_⟩
  ·have hyr:=hin y hy
   simp (disch:=first|decide|omega) only[Zg,Zw,Zx,Ae,Ai,A0,true_and,M9,A6,Hq,Hr,Lo,w1,w2,B.tied]
   exact Qv B ⟨d,rs,w1,w2,w3⟩ hxr.1 hxr.2 hyr.1 hyr.2 hK'
  refine Ac fun s H₄ e4 _ v4=>?_
  (try dsimp only)
  refine Afk (l:=pk.map fun y=>A x.toNat y.toNat) (by rw[v4,List.map_map];rfl) ?_
  (try dsimp only);(try simp (disch:=first|decide|omega) only[Az])
  have hal:(pk.map fun y=>A x.toNat y.toNat).any id=pk.any fun y=>A x.toNat y.toNat:=by rw[List.any_map];rfl
  rw[hal]
  unfold Kx at hsn
  by_cases hany:(pk.any fun y=>A x.toNat y.toNat)=true
  ·rw[hany]
   rw[if_pos hany]at hsn
   simp only[Bool.not_true,Bool.false_eq_true,if_false]
   exact hK _ as _ ⟨by rw[hsn];exact b.mono e4,by rw[hsn];exact vp3.ext e4,has⟩
  ·rw[if_neg hany]at hsn
   rw[Bool.not_eq_true]at hany
   rw[hany]
   simp only[Bool.not_false,if_true]
   have vp4:=vp3.ext e4
   have b4:=b.mono e4
   have hal4:(as.map V.ref).length<1048576:=by rw[List.length_map,b.lists.1,List.length_map];(first|lia|omega)
   have b5:Ix H (upd H₄ p (.list (pk.map V.int ++ [.int x]))) c as (pk.map (crowd A o)):=b4.updO np (Ne.symm hpc) has
   have vp5:LI (upd H₄ p (.list (pk.map V.int ++ [.int x]))) p (pk ++ [x]):=by unfold LI;rw[Ab];simp
   simp (disch:=first|decide|omega) only[Zg,Zp,Zw,Zx,Ae,Ai,A0,true_and,Cq,Cp vp4,C0 vp4 (show (pk.map V.int).length<1048576 by rw[List.length_map];(first|lia|omega)),Cp b5.at_,F.crowdAt]
   generalize upd H₄ p (.list (pk.map V.int ++ [.int x]))=H₅ at *
   refine Px F hm (hW.ext b5.ext) (hL.ext b5.ext) ho hxo fun y H₆ e6 n6 v6=>?_
   (try dsimp only)
   refine Xf (e6 _ _ b5.at_) hal4 ?_
   have hyp:y≠p:=Ne.symm (vp5.ne_none n6)
   refine hK _ (as ++ [y]) _ ⟨?_,?_,fun z hz=>?_⟩
   ·rw[hsn,List.map_append]
    exact b5.snoc e6 n6 v6
   ·rw[hsn]
    exact(vp5.ext e6).upd_ne hpc
   ·rcases List.mem_append.mp hz with hz|hz
    ·exact has z hz
    ·simp at hz;rw[hz];exact hyp
 ·rintro r4 as H₃ ⟨b,vp3,has⟩
  rw[List.length_map,List.take_of_length_le (Nat.le_refl _)]at b vp3
  try simp (disch:=first|decide|omega) only[Ae,Ai]
  exact Ac fun t H₄ e4 n4 v4=>q t p c as H₄ (b.mono e4) np hpc has (vp3.ext e4) (b.ext.isNone n4) v4
set_option linter.all false
variable {G:Ax} {n:Nat} {H H':AH} {Q:Af} {E:EP} {C:CS} {ρ:Aj}
theorem Tb(hG:G.fn "_law_behind" = some Dp){a m r i:Nat}{A:Nat->Nat->Bool}{o:List Int}{p:Int}(hm:m<=60)(hN:Dw H a m A)(hL:LI H r o)(ho:B7 m o)(hi:o[i]? = some p)
 (q:∀s H',Ak H H'->H s=none->LI H' s (bh A o p)->Q (.ref s) H'):Ad G (n+1) "_law_behind" [.ref a,.ref r,.int (i:Int)] H Q E:=by
 refine Ag hG rfl ?_
 have hpr:=ho.mem.mp (List.mem_of_getElem? hi)
 simp only[Dp,List.map,List.cons_append,List.nil_append]
 refine Cf (X4 (hvK ?_))
 simp (disch:=first|decide|omega) only[Zc,Ze,Zg,Zl,Zt,Z4,Z8,Av,Aw,Ae,Ai,List.replicate]
 (refine E3 hL Hj Fv ?_;rw[Ju Abt])
 refine Ac fun s H₁ e1 _ v1=>?_
 rw[show ((i:Int)+1).toNat=i+1 by exact Abu,<-List.map_drop]at v1
 refine B6 v1 ?_
 have hL1:=hL.ext e1
 refine Aa fun nY=>?_
 obtain⟨as,z,a1,a2,a3,a4⟩:=(hN.ext e1).row hpr.1 hpr.2
 refine nY ?_;clear nY
 refine⟨by simp[Cg,ho.len];exact Agi hm,Ij (p:=fun y=>A p.toNat y.toNat) v1 (fun y hy K' hK'=>?_) ?_⟩
 ·have hyr:=ho.mem.mp (List.mem_of_mem_drop hy)
  simp (disch:=first|decide|omega) only[Zg,Zm,Zs,Az,Ae,Ai,Hf,Bz hL1 (Int.natCast_nonneg i) (LI.sub (a:=r) hi),Bz a1 hpr.1 a3,Adf a4,Mw hyr.1 hyr.2]
  split
  ·rename_i h;rw[if_pos h]at hK';exact hK'
  ·rename_i h;rw[if_neg h]at hK';exact hK'
 refine Ac fun s2 H₂ e2 n2 v2=>q s2 H₂ (e1.trans e2) (e1.isNone n2) ?_
 rw[Aa9 ho.nodup hi]
 exact v2
set_option linter.all false
variable {G:Ax} {n:Nat} {H H':AH} {Q:Af} {E:EP} {C:CS} {ρ:Aj} {w m r:Nat} {A:Nat->Nat->Bool} {o:List Int} {c:Dc}
/-! refusals:an order that is none,an order with a gap -/
structure Xs(G:Ax):Prop where
 bad:G.exc .badOrder=true
 gap:G.exc .hasGap=true
 web:G.exc .webError=true
 badWeb:G.exc .badWeb=true
 text:G.exc .badText=true
 point:G.exc .noPoint=true
inductive Rf(m:Nat)(A:Nat->Nat->Bool)(o:List Int):Dc->Prop where
 | bad:¬B7 m o->Rf m A o .badOrder
 | gap:B7 m o->gp A o≠none->Rf m A o .hasGap
theorem Ky(F:Fw G)(X:Xs G)(hm:m<=60)(hW:Da H w m A)(hL:LI H r o)(hl:o.length<64)(hb:¬B7 m o)
 (q:∀H' a,Ak H H'->H' a=none->E (.ref a) (upd H' a (.exc .badOrder))):Ad G (n+2) "need_order" [.ref w,.ref r] H Q E:=by
 refine Ag F.needOrder rfl ?_
 simp only[Gk,List.map,List.replicate,List.cons_append,List.nil_append]
 rw[Z3,Za]
 simp (disch:=first|decide|omega) only[Zb,Zc,Zd,Ze,Zf,Zg,Zh,Zi,Zj,Zk,Zl,Zm,Zn,Zo,Zp,Zq,Zr,Zs,Zt,Zu,Zv,Zw,Zx,Zy,Zz,Z0,Z1,Z2,Z3,Z4,Z5,Z6,Z7,Z8,Z9,Bb,Bf,Bc,Bl,Ba,Bm,Bt,Bu,Bn,Bo,Bi,Bp,Az,Bj,Br,Bq,A9,Bv,Bg,Bk,List.map,Av,Aw,Ae,Ai,List.replicate,Ar,Au,A0,true_and,F.isOrder]
 refine Pw F hm hW hL hl fun H₁ e1=>?_
 rw[decide_eq_false (show ¬B9 o=B8 m from hb)]
 (try dsimp only);(try simp (disch:=first|decide|omega) only[Zb,Zc,Zd,Ze,Zf,Zg,Zh,Zi,Zj,Zk,Zl,Zm,Zn,Zo,Zp,Zq,Zr,Zs,Zt,Zu,Zv,Zw,Zx,Zy,Zz,Z0,Z1,Z2,Z3,Z4,Z5,Z6,Z7,Z8,Z9,Bb,Bf,Bc,Bl,Ba,Bm,Bt,Bu,Bn,Bo,Bi,Bp,Az,Bj,Br,Bq,A9,Bv,Bg,Bk,List.map,Av,Aw,Ae,Ai,List.replicate,Ar,Au,A0,true_and])
 simp only[Bool.not_false,if_true,Z3,C8]
 exact⟨X.bad,fun a ha=>q H₁ a e1 ha⟩
theorem Afp(F:Fw G)(X:Xs G)(hm:m<=60)(hW:Da H w m A)(hL:LI H r o)(hl:o.length<64)(hb:¬B7 m o)
 (q:∀H' a,Ak H H'->H' a=none->E (.ref a) (upd H' a (.exc .badOrder))):Ad G (n+3) "gap" [.ref w,.ref r] H Q E:=by
 refine Ag F.gap rfl ?_
 simp only[X8,List.map,List.replicate,List.cons_append,List.nil_append]
 rw[Z3]
 simp (disch:=first|decide|omega) only[Zb,Zc,Zd,Ze,Zf,Zg,Zh,Zi,Zj,Zk,Zl,Zm,Zn,Zo,Zp,Zq,Zr,Zs,Zt,Zu,Zv,Zw,Zx,Zy,Zz,Z0,Z1,Z2,Z3,Z4,Z5,Z6,Z7,Z8,Z9,Bb,Bf,Bc,Bl,Ba,Bm,Bt,Bu,Bn,Bo,Bi,Bp,Az,Bj,Br,Bq,A9,Bv,Bg,Bk,List.map,Av,Aw,Ae,Ai,List.replicate,Ar,Au,A0,true_and,F.needOrder]
 exact Ky F X hm hW hL hl hb q
theorem Ha(F:Fw G)(X:Xs G)(hm:m<=60)(hW:Da H w m A)(hL:LI H r o)(hl:o.length<64)(hr:Rf m A o c)
 (q:∀H' a,Ak H H'->H' a=none->E (.ref a) (upd H' a (.exc c))):Ad G (n+5) "need_whole" [.ref w,.ref r] H Q E:=by
 refine Ag F.needWhole rfl ?_
 simp only[Gl,List.map,List.replicate,List.cons_append,List.nil_append]
 rw[Z3,Za]
 simp (disch:=first|decide|omega) only[Zb,Zc,Zd,Ze,Zf,Zg,Zh,Zi,Zj,Zk,Zl,Zm,Zn,Zo,Zp,Zq,Zr,Zs,Zt,Zu,Zv,Zw,Zx,Zy,Zz,Z0,Z1,Z2,Z3,Z4,Z5,Z6,Z7,Z8,Z9,Bb,Bf,Bc,Bl,Ba,Bm,Bt,Bu,Bn,Bo,Bi,Bp,Az,Bj,Br,Bq,A9,Bv,Bg,Bk,List.map,Av,Aw,Ae,Ai,List.replicate,Ar,Au,A0,true_and,F.gap]
 cases hr with
 | bad hb=>exact Afp F X hm hW hL hl hb q
 | gap ho hg=>
   refine Ad7 F hm hW hL ho fun H₁ e1=>?_
   cases e:gp A o with
   | none=>exact absurd e hg
   | some t=>
     obtain⟨p,x,y⟩:=t
     intro b hb
     (try dsimp only);(try simp (disch:=first|decide|omega) only[Zb,Zc,Zd,Ze,Zf,Zg,Zh,Zi,Zj,Zk,Zl,Zm,Zn,Zo,Zp,Zq,Zr,Zs,Zt,Zu,Zv,Zw,Zx,Zy,Zz,Z0,Z1,Z2,Z3,Z4,Z5,Z6,Z7,Z8,Z9,Bb,Bf,Bc,Bl,Ba,Bm,Bt,Bu,Bn,Bo,Bi,Bp,Az,Bj,Br,Bq,A9,Bv,Bg,Bk,List.map,Av,Aw,Ae,Ai,List.replicate,Ar,Au,A0,true_and])
     simp only[if_true,Z3,C8]
     exact⟨X.gap,fun a ha=>q _ a (e1.trans (Ak.upd hb)) ha⟩
theorem Adr(F:Fw G)(X:Xs G)(hm:m<=60)(hW:Da H w m A)(hL:LI H r o)(hl:o.length<64)(hr:Rf m A o c)
 (q:∀H' a,Ak H H'->H' a=none->E (.ref a) (upd H' a (.exc c))):Ad G (n+6) "full_crowds" [.ref w,.ref r] H Q E:=by
 refine Ag F.fullCrowds rfl ?_
 simp only[Fq,List.map,List.replicate,List.cons_append,List.nil_append]
 rw[Z3]
 simp (disch:=first|decide|omega) only[Zb,Zc,Zd,Ze,Zf,Zg,Zh,Zi,Zj,Zk,Zl,Zm,Zn,Zo,Zp,Zq,Zr,Zs,Zt,Zu,Zv,Zw,Zx,Zy,Zz,Z0,Z1,Z2,Z3,Z4,Z5,Z6,Z7,Z8,Z9,Bb,Bf,Bc,Bl,Ba,Bm,Bt,Bu,Bn,Bo,Bi,Bp,Az,Bj,Br,Bq,A9,Bv,Bg,Bk,List.map,Av,Aw,Ae,Ai,List.replicate,Ar,Au,A0,true_and,F.needWhole]
 exact Ha F X hm hW hL hl hr q
theorem Afq(F:Fw G)(X:Xs G)(hm:m<=60)(hW:Da H w m A)(hL:LI H r o)(hl:o.length<64)(hr:Rf m A o c)
 (q:∀H' a,Ak H H'->H' a=none->E (.ref a) (upd H' a (.exc c))):Ad G (n+6) "coloured" [.ref w,.ref r] H Q E:=by
 refine Ag F.coloured rfl ?_
 simp only[Jf,List.map,List.replicate,List.cons_append,List.nil_append]
 rw[Z3]
 simp (disch:=first|decide|omega) only[Zb,Zc,Zd,Ze,Zf,Zg,Zh,Zi,Zj,Zk,Zl,Zm,Zn,Zo,Zp,Zq,Zr,Zs,Zt,Zu,Zv,Zw,Zx,Zy,Zz,Z0,Z1,Z2,Z3,Z4,Z5,Z6,Z7,Z8,Z9,Bb,Bf,Bc,Bl,Ba,Bm,Bt,Bu,Bn,Bo,Bi,Bp,Az,Bj,Br,Bq,A9,Bv,Bg,Bk,List.map,Av,Aw,Ae,Ai,List.replicate,Ar,Au,A0,true_and,F.needWhole]
 exact Ha F X hm hW hL hl hr q
theorem Abh(F:Fw G)(X:Xs G)(hG:G.fn "apart" = some J8)(hm:m<=60)(hW:Da H w m A)(hL:LI H r o)(hl:o.length<64)(hr:Rf m A o c)
 (q:∀H' a,Ak H H'->H' a=none->E (.ref a) (upd H' a (.exc c))):Ad G (n+6) "apart" [.ref w,.ref r] H Q E:=by
 refine Ag hG rfl ?_
 simp only[J8,List.map,List.replicate,List.cons_append,List.nil_append]
 rw[Z3]
 simp (disch:=first|decide|omega) only[Zb,Zc,Zd,Ze,Zf,Zg,Zh,Zi,Zj,Zk,Zl,Zm,Zn,Zo,Zp,Zq,Zr,Zs,Zt,Zu,Zv,Zw,Zx,Zy,Zz,Z0,Z1,Z2,Z3,Z4,Z5,Z6,Z7,Z8,Z9,Bb,Bf,Bc,Bl,Ba,Bm,Bt,Bu,Bn,Bo,Bi,Bp,Az,Bj,Br,Bq,A9,Bv,Bg,Bk,List.map,Av,Aw,Ae,Ai,List.replicate,Ar,Au,A0,true_and,F.needWhole]
 exact Ha F X hm hW hL hl hr q
theorem Xo(F:Fw G)(X:Xs G)(hG:G.fn "filled" = some Hw)(hm:m<=60)(hW:Da H w m A)(hL:LI H r o)(hl:o.length<64)(hb:¬B7 m o)
 (q:∀H' a,Ak H H'->H' a=none->E (.ref a) (upd H' a (.exc .badOrder))):Ad G (n+3) "filled" [.ref w,.ref r] H Q E:=by
 refine Ag hG rfl ?_
 simp only[Hw,List.map,List.replicate,List.cons_append,List.nil_append]
 rw[Z3]
 simp (disch:=first|decide|omega) only[Zb,Zc,Zd,Ze,Zf,Zg,Zh,Zi,Zj,Zk,Zl,Zm,Zn,Zo,Zp,Zq,Zr,Zs,Zt,Zu,Zv,Zw,Zx,Zy,Zz,Z0,Z1,Z2,Z3,Z4,Z5,Z6,Z7,Z8,Z9,Bb,Bf,Bc,Bl,Ba,Bm,Bt,Bu,Bn,Bo,Bi,Bp,Az,Bj,Br,Bq,A9,Bv,Bg,Bk,List.map,Av,Aw,Ae,Ai,List.replicate,Ar,Au,A0,true_and,F.needOrder]
 exact Ky F X hm hW hL hl hb q
set_option linter.all false
variable {G:Ax} {n:Nat} {H H' H₁ H₂:AH} {Q:Af} {E:EP} {C:CS} {ρ:Aj} {w m r nr pt N d:Nat} {A:Nat->Nat->Bool} {o:List Int} {es:List (Int×V)} {ds:List Nat} {k:Int} {v:V}
/-! filled:the web's rows as dicts,and what is put -/
structure Xp(m:Nat)(es:List (Int×V)):Prop where
 nodup:(es.map (·.1)).Nodup
 in_:∀x∈es.map (·.1),0<=x/\x<(m:Int)
theorem Xp.len(h:Xp m es):es.length<=m:=by
 have:=Ob h.nodup h.in_
 rwa[List.length_map]at this
theorem Xp.put(h:Xp m es)(h0:0<=k/\k<(m:Int)):Xp m (C3 es k v):=by
 refine⟨?_,?_⟩<;>rw[Iw]
 ·split
  ·exact h.nodup
  ·rename_i hk
   refine List.nodup_append.mpr ⟨h.nodup,List.pairwise_singleton _ _,fun a ha b hb z=>hk ?_⟩
   rw[List.mem_singleton.mp hb]at z
   exact z▸ha
 ·split
  ·exact h.in_
  ·intro x hx
   rcases List.mem_append.mp hx with hx|hx
   ·exact h.in_ x hx
   ·rw[List.mem_singleton.mp hx];exact h0
theorem Im{x y:Nat}{a b:O}(h:H x=some a)(h':H y=some b)(hab:a≠b):x≠y:=fun z=>hab (by rw[z,h']at h;exact(Option.some.inj h).symm)
structure NI(H H₁:AH)(m nr:Nat)(ds:List Nat):Prop where
 ext:Ak H H₁
 nn:H nr=none
 near:H₁ nr=some (.list (ds.map V.ref))
 dict:∀d∈ds,H d=none
 ok:∀d∈ds,∃es,H₁ d=some (.dict es)/\Xp m es
theorem NI.grow(h:NI H H₁ m nr ds)(e:Ak H₁ H₂):NI H H₂ m nr ds:=⟨h.ext.trans e,h.nn,e _ _ h.near,h.dict,fun d hd=>let ⟨es,h1,h2⟩:=h.ok d hd;⟨es,e _ _ h1,h2⟩⟩
structure FI(H H₁:AH)(m nr pt:Nat)(ds:List Nat)(N:Nat):Prop where
 ni:NI H H₁ m nr ds
 np:H pt=none
 put:(Hn fun(ps:List Nat)=>Fx (H₁ pt=some (.list (ps.map V.ref))) (ps.length<=N) (∀x∈ps,(Ho fun(c i:Int)=>H₁ x=some (.tuple [.int c,.int i]))))
theorem FI.grow(h:FI H H₁ m nr pt ds N)(e:Ak H₁ H₂):FI H H₂ m nr pt ds N:=⟨h.ni.grow e,h.np,by
 obtain⟨ps,h1,h2,h3⟩:=h.put
 exact⟨ps,e _ _ h1,h2,fun x hx=>by
  obtain⟨c,i,z⟩:=h3 x hx
  exact⟨c,i,e _ _ z⟩⟩⟩
theorem FI.more{N':Nat}(h:FI H H₁ m nr pt ds N)(hN:N<=N'):FI H H₁ m nr pt ds N':=⟨h.ni,h.np,by
 obtain⟨ps,h1,h2,h3⟩:=h.put
 exact⟨ps,h1,Nat.le_trans h2 hN,h3⟩⟩
theorem NI.putD(h:NI H H₁ m nr ds)(hd:d∈ds)(he:H₁ d=some (.dict es))(ok:Xp m es)(h0:0<=k/\k<(m:Int)):NI H (upd H₁ d (.dict (C3 es k v))) m nr ds:=by
 refine⟨h.ext.upd' (h.dict d hd),h.nn,?_,h.dict,fun d' hd'=>?_⟩
 ·rw[upd_ne (Im h.near he (by simp))]
  exact h.near
 ·refine Aa fun nY=>?_
  by_cases z:d'=d
  ·subst z
   refine nY ?_;clear nY
   exact⟨_,Ab,ok.put h0⟩
  ·obtain⟨es',h1,h2⟩:=h.ok d' hd'
   refine nY ?_;clear nY
   exact⟨es',by rw[upd_ne z];exact h1,h2⟩
theorem FI.putD(h:FI H H₁ m nr pt ds N)(hd:d∈ds)(he:H₁ d=some (.dict es))(ok:Xp m es)(h0:0<=k/\k<(m:Int)):FI H (upd H₁ d (.dict (C3 es k v))) m nr pt ds N:=by
 refine⟨h.ni.putD hd he ok h0,h.np,?_⟩
 refine Aa fun nY=>?_
 obtain⟨ps,h1,h2,h3⟩:=h.put
 refine nY ?_;clear nY
 refine⟨ps,by rw[upd_ne (Im h1 he (by simp))];exact h1,h2,fun x hx=>?_⟩
 refine Aa fun nY=>?_
 obtain⟨c,i,z⟩:=h3 x hx
 refine nY ?_;clear nY
 exact⟨c,i,by rw[upd_ne (Im z he (by simp))];exact z⟩
theorem FI.app{t:Nat}{c i:Int}{ps:List Nat}(h:FI H H₁ m nr pt ds N)(hne:nr≠pt)(ht:H₁ t=some (.tuple [.int c,.int i]))(hp:H₁ pt=some (.list (ps.map V.ref)))(hl:ps.length<=N)(hall:∀x∈ps,(Ho fun(c i:Int)=>H₁ x=some (.tuple [.int c,.int i]))) :
 FI H (upd H₁ pt (.list (ps.map V.ref ++ [.ref t]))) m nr pt ds (N+1):=by
 refine⟨⟨h.ni.ext.upd' h.np,h.ni.nn,by rw[upd_ne hne];exact h.ni.near,h.ni.dict,fun d hd=>?_⟩,h.np,ps ++ [t],by rw[Ab];simp,by simp;omega,fun x hx=>?_⟩
 ·obtain⟨es,h1,h2⟩:=h.ni.ok d hd
  exact⟨es,by rw[upd_ne (Im h1 hp (by simp))];exact h1,h2⟩
 ·have:(Ho fun(c i:Int)=>H₁ x=some (.tuple [.int c,.int i])):=by
   rcases List.mem_append.mp hx with hx|hx
   ·exact hall x hx
   ·rw[List.mem_singleton.mp hx];exact⟨c,i,ht⟩
  obtain⟨c,i,z⟩:=this
  exact⟨c,i,by rw[upd_ne (Im z hp (by simp))];exact z⟩
theorem NI.other{x:Nat}{a:O}(h:NI H H₁ m nr ds)(hx:H x=none)(hn:x≠nr)(hd:x∉ds):NI H (upd H₁ x a) m nr ds:=
 ⟨h.ext.upd' hx,h.nn,by rw[upd_ne (Ne.symm hn)];exact h.near,h.dict,fun d' hd'=>by
  obtain⟨es',h1,h2⟩:=h.ok d' hd'
  exact⟨es',by rw[upd_ne (fun(z:d'=x)=>hd (z▸hd'))];exact h1,h2⟩⟩
theorem NI.snoc(h:NI H H₁ m nr ds)(hx:H d=none)(hn:d≠nr)(he:H₁ d=some (.dict es))(ok:Xp m es):NI H (upd H₁ nr (.list (ds.map V.ref ++ [.ref d]))) m nr (ds ++ [d]):=by
 refine⟨h.ext.upd' h.nn,h.nn,by rw[Ab];simp,fun d' hd'=>?_,fun d' hd'=>?_⟩
 ·rcases List.mem_append.mp hd' with hd'|hd'
  ·exact h.dict d' hd'
  ·rw[List.mem_singleton.mp hd'];exact hx
 ·have:∃es,H₁ d'=some (.dict es)/\Xp m es:=by
   rcases List.mem_append.mp hd' with hd'|hd'
   ·exact h.ok d' hd'
   ·rw[List.mem_singleton.mp hd'];exact⟨es,he,ok⟩
  obtain⟨es',h1,h2⟩:=this
  exact⟨es',by rw[upd_ne (Im h1 h.near (by simp))];exact h1,h2⟩
theorem Us{g:AH->Prop}{src:List Int}{elt:Aj->AH->(Option V->AH->Prop)->Prop}{Q:List V->AH->Prop}{y:Option V}(hg:g H)
 (step:∀x∈src,∀K:Option V->AH->Prop,K (some (.int x)) H->K none H->elt (some (.int x)::ρ) H K) (fin:∀l:List Int,l.length<=src.length->(∀x∈l,x∈src)->Q (l.map V.int) H):Ce g (.one 0) elt Q ((src.map V.int).map .v) [] (y::ρ) H:=by
 refine Cv (k:=0) (fun i acc H'=>(Hn fun(l:List Int)=>Jy (acc=l.map V.int) (H'=H) (l.length<=i) (∀x∈l,x∈src))) ⟨[],rfl,rfl,Nat.le_refl _,fun _ h=>absurd h List.not_mem_nil⟩ ?_ ?_
 ·rintro i x acc H' K hx ⟨l,rfl,rfl,hl,hin⟩ hK
  rw[List.getElem?_map,List.getElem?_map]at hx
  obtain⟨v,hv,rfl⟩:=Option.map_eq_some_iff.mp hx
  obtain⟨z,hz,rfl⟩:=Option.map_eq_some_iff.mp hv
  have hz':=List.mem_of_getElem? hz
  refine⟨hg,_,rfl,step z hz' K (hK _ _ ⟨l ++ [z],by simp,rfl,by simp;omega,fun x hx=>?_⟩) (hK _ _ ⟨l,rfl,rfl,by omega,hin⟩)⟩
  rcases List.mem_append.mp hx with hx|hx
  ·exact hin x hx
  ·rw[List.mem_singleton.mp hx];exact hz'
 ·rintro acc H' ⟨l,rfl,rfl,hl,hin⟩
  exact⟨hg,fin l (by simpa using hl) hin⟩
set_option linter.all false
variable {G:Ax} {n:Nat} {H H' H₁ H₂:AH} {Q:Af} {E:EP} {C:CS} {ρ:Aj} {w m r nr pt N d:Nat} {A:Nat->Nat->Bool} {o:List Int} {es:List (Int×V)} {ds:List Nat} {k:Int} {v:V}
theorem NI.at_(h:NI H H₁ m nr ds)(hl:ds.length=m)(hk:0<=k/\k<(m:Int)):(Ho fun d es=>Jy ((ds.map V.ref)[k.toNat]? = some (.ref d)) (d∈ds) (H₁ d=some (.dict es)) (Xp m es)):=by
 have hlt:k.toNat<ds.length:=by omega
 have e:=List.getElem?_eq_getElem hlt
 have hm:=List.mem_of_getElem? e
 refine Aa fun nY=>?_
 obtain⟨es,h1,h2⟩:=h.ok _ hm
 refine nY ?_;clear nY
 exact⟨_,es,by rw[List.getElem?_map,e];rfl,hm,h1,h2⟩
theorem Abi(F:Fw G)(hG:G.fn "filled" = some Hw)(hm:m<=60)(hW:Da H w m A)(hL:LI H r o)(ho:B7 m o)
 (q:∀a H',Ak H H'->Q (.ref a) H'):Ad G (n+3) "filled" [.ref w,.ref r] H Q E:=by
 refine Ag hG rfl ?_
 simp only[Hw,List.map,List.replicate,List.cons_append,List.nil_append]
 refine seq (fun ρ H₁=>ρ = [some (.ref w),some (.ref r),none,none,none,none,none,none,none,none,none]/\Ak H H₁) (fun N hN=>?_) ?_
 ·simp (disch:=first|decide|omega) only[Zb,Zc,Zd,Ze,Zf,Zg,Zh,Zi,Zj,Zk,Zl,Zm,Zn,Zo,Zp,Zq,Zr,Zs,Zt,Zu,Zv,Zw,Zx,Zy,Zz,Z0,Z1,Z2,Z3,Z4,Z5,Z6,Z7,Z8,Z9,Bb,Bf,Bc,Bl,Ba,Bm,Bt,Bu,Bn,Bo,Bi,Bp,Az,Bj,Br,Bq,A9,Bv,Bg,Bk,List.map,Av,Aw,Ae,Ai,List.replicate,Ar,Au,A0,true_and,F.needOrder]
  exact Mb F hm hW hL ho fun H₁ e1=>hN _ _ ⟨rfl,e1⟩
 rintro _ H₀ ⟨rfl,e0⟩
 refine seq (fun ρ H₁=>∃nr,ρ = [some (.ref w),some (.ref r),some (.ref nr),none,none,none,none,none,none,none,none]/\NI H H₁ m nr []) (fun N hN=>?_) ?_
 ·simp (disch:=first|decide|omega) only[Zb,Zc,Zd,Ze,Zf,Zg,Zh,Zi,Zj,Zk,Zl,Zm,Zn,Zo,Zp,Zq,Zr,Zs,Zt,Zu,Zv,Zw,Zx,Zy,Zz,Z0,Z1,Z2,Z3,Z4,Z5,Z6,Z7,Z8,Z9,Bb,Bf,Bc,Bl,Ba,Bm,Bt,Bu,Bn,Bo,Bi,Bp,Az,Bj,Br,Bq,A9,Bv,Bg,Bk,List.map,Av,Aw,Ae,Ai,List.replicate,Ar,Au,A0,true_and]
  exact Ac fun a H₁ e1 n1 v1=>hN _ _ ⟨a,rfl,e0.trans e1,e0.isNone n1,v1,fun _ h=>absurd h List.not_mem_nil,fun _ h=>absurd h List.not_mem_nil⟩
 rintro _ H₁ hP26
 refine Aa fun nY=>?_
 obtain⟨nr,rfl,h1⟩:=hP26
 refine nY ?_;clear nY
 refine seq (fun ρ H₂=>(Ex4 fun(ds:List Nat) (r3 r4 r5:Option V)=>Fx (ρ = [some (.ref w),some (.ref r),some (.ref nr),r3,r4,r5,none,none,none,none,none]) (NI H H₂ m nr ds) (ds.length=m))) (fun N hN=>?_) ?_
 ·rw[D1,Gg]
  refine Aa fun nY=>?_
  obtain⟨d,rs,w1,w2,w3⟩:=hW.ext h1.ext
  refine nY ?_;clear nY
  simp (disch:=first|decide|omega) only[Zb,Zc,Zd,Ze,Zf,Zg,Zh,Zi,Zj,Zk,Zl,Zm,Zn,Zo,Zp,Zq,Zr,Zs,Zt,Zu,Zv,Zw,Zx,Zy,Zz,Z0,Z1,Z2,Z3,Z4,Z5,Z6,Z7,Z8,Z9,Bb,Bf,Bc,Bl,Ba,Bm,Bt,Bu,Bn,Bo,Bi,Bp,Az,Bj,Br,Bq,A9,Bv,Bg,Bk,List.map,Av,Aw,Ae,Ai,List.replicate,Ar,Au,A0,true_and,Li w1 w2 (show Md [(Ee.many,V.int m),(Ee.rows,V.ref rs)] .many=some (.int m)from rfl)]
  refine Dk (fun i ρ H₂=>(Ex4 fun(ds:List Nat) (r3 r4 r5:Option V)=>Fx (ρ = [some (.ref w),some (.ref r),some (.ref nr),r3,r4,r5,none,none,none,none,none]) (NI H H₂ m nr ds) (ds.length=i))) ⟨[],_,_,_,rfl,h1,rfl⟩ ?_ ?_
  ·rintro i ρ H₂ K hi hP27 hK
   refine Aa fun nY=>?_
   obtain⟨ds,r3,r4,r5,rfl,h2,hl⟩:=hP27
   have hi':i<m:=by simpa using hi
   refine nY ?_;clear nY
   simp only[Lv,List.set_cons_succ,List.set_cons_zero]
   refine seq (fun ρ H₃=>(Hn fun dd=>Jy (ρ = [some (.ref w),some (.ref r),some (.ref nr),some (.int i),some (.ref dd),r5,none,none,none,none,none]) (Ak H₂ H₃) (H₂ dd=none) (H₃ dd=some (.dict [])))) (fun N hN=>?_) ?_
   ·rw[Zy,U1]
    exact Ac fun c H₁ e1 n1 v1=>hN _ _ ⟨c,rfl,e1,n1,v1⟩
   rintro _ H₃ hP28
   refine Aa fun nY=>?_
   obtain⟨dd,rfl,e3,n3,v3⟩:=hP28
   have ndd:H dd=none:=h2.ext.isNone n3
   have hdn:dd≠nr:=fun z=>by rw[z,h2.near]at n3;cases n3
   have hdd:dd∉ds:=fun z=>by
    refine Aa fun nY=>?_
    obtain⟨es,z1,_⟩:=h2.ok dd z
    rw[z1]at n3;cases n3
   refine nY ?_;clear nY
   refine seq (fun ρ H₄=>(Ho fun(es:List (Int×V)) (r5:Option V)=>Jy (ρ = [some (.ref w),some (.ref r),some (.ref nr),some (.int i),some (.ref dd),r5,none,none,none,none,none]) (NI H H₄ m nr ds) (H₄ dd=some (.dict es)) (Xp m es))) (fun N hN=>?_) ?_
   ·rw[D1,J1]
    refine Aa fun nY=>?_
    obtain⟨d,rs,w1,w2,w3⟩:=hW.ext (h2.ext.trans e3)
    refine nY ?_;clear nY
    simp (disch:=first|decide|omega) only[Zb,Zc,Zd,Ze,Zf,Zg,Zh,Zi,Zj,Zk,Zl,Zm,Zn,Zo,Zp,Zq,Zr,Zs,Zt,Zu,Zv,Zw,Zx,Zy,Zz,Z0,Z1,Z2,Z3,Z4,Z5,Z6,Z7,Z8,Z9,Bb,Bf,Bc,Bl,Ba,Bm,Bt,Bu,Bn,Bo,Bi,Bp,Az,Bj,Br,Bq,A9,Bv,Bg,Bk,List.map,Av,Aw,Ae,Ai,List.replicate,Ar,Au,A0,true_and,A6,Hq,Hr,Lo,w1,w2,F.fns.beside]
    refine Aa7 F.fns.base F.fns.beside ⟨d,rs,w1,w2,w3⟩ (Int.natCast_nonneg i) (by omega) fun b H₄ e4 nb hb=>?_
    rw[Lf hb]
    refine Gb (fun j ρ H₅=>(Ho fun(es:List (Int×V)) (r5:Option V)=>Xq (ρ = [some (.ref w),some (.ref r),some (.ref nr),some (.int i),some (.ref dd),r5,none,none,none,none,none]) (NI H H₅ m nr ds) (H₅ dd=some (.dict es)) (Xp m es) (LI H₅ b (D9 m A (i:Int).toNat)))) ⟨[],_,rfl,(h2.grow e3).grow e4,e4 _ _ v3,⟨List.Pairwise.nil,fun _ h=>absurd h List.not_mem_nil⟩,hb⟩ ?_ ?_ ?_
    ·rintro j ρ H₅ ⟨es,r5,_,_,_,_,hb5⟩;exact hb5
    ·rintro j v ρ H₅ K' hv hP29 hK'
     refine Aa fun nY=>?_
     obtain⟨es,r5,rfl,n5,v5,ok5,hb5⟩:=hP29
     obtain⟨z,hz,rfl⟩:=LI.at_ (a:=b) hv
     have hzm:=G7.mp (List.mem_of_getElem? hz)
     have hel:=ok5.len
     refine nY ?_;clear nY
     simp only[Lu,Z3,Z2,List.set_cons_succ,List.set_cons_zero]
     rw[Bs]
     simp (disch:=first|decide|omega) only[Zb,Zc,Zd,Ze,Zf,Zg,Zh,Zi,Zj,Zk,Zl,Zm,Zn,Zo,Zp,Zq,Zr,Zs,Zt,Zu,Zv,Zw,Zx,Zy,Zz,Z0,Z1,Z2,Z3,Z4,Z5,Z6,Z7,Z8,Z9,Bb,Bf,Bc,Bl,Ba,Bm,Bt,Bu,Bn,Bo,Bi,Bp,Az,Bj,Br,Bq,A9,Bv,Bg,Bk,List.map,Av,Aw,Ae,Ai,List.replicate,Ar,Au,A0,true_and,Oa v5 (show es.length<1048576 by omega)]
     exact hK' _ _ ⟨_,_,rfl,n5.other ndd hdn hdd,Ab,ok5.put ⟨hzm.1,hzm.2.1⟩,by unfold LI;rw[upd_ne (Im hb5 v5 (by simp))];exact hb5⟩
    ·rintro ρ H₅ hP30
     refine Aa fun nY=>?_
     obtain⟨es,r5,rfl,n5,v5,ok5,_⟩:=hP30
     refine nY ?_;clear nY
     exact hN _ _ ⟨es,_,rfl,n5,v5,ok5⟩
   rintro _ H₄ hP31
   refine Aa fun nY=>?_
   obtain⟨es,r5',rfl,n4,v4,ok4⟩:=hP31
   refine nY ?_;clear nY
   have hll:(ds.map V.ref).length<1048576:=by rw[List.length_map];omega
   rw[Z3]
   simp (disch:=first|decide|omega) only[Zb,Zc,Zd,Ze,Zf,Zg,Zh,Zi,Zj,Zk,Zl,Zm,Zn,Zo,Zp,Zq,Zr,Zs,Zt,Zu,Zv,Zw,Zx,Zy,Zz,Z0,Z1,Z2,Z3,Z4,Z5,Z6,Z7,Z8,Z9,Bb,Bf,Bc,Bl,Ba,Bm,Bt,Bu,Bn,Bo,Bi,Bp,Az,Bj,Br,Bq,A9,Bv,Bg,Bk,List.map,Av,Aw,Ae,Ai,List.replicate,Ar,Au,A0,true_and,Cq,Cp n4.near,C0 n4.near hll]
   exact hK _ _ ⟨ds ++ [dd],_,_,_,rfl,n4.snoc ndd hdn v4 ok4,by simp[hl]⟩
  ·rintro ρ H₂ hP32
   refine Aa fun nY=>?_
   obtain⟨ds,r3,r4,r5,rfl,h2,hl⟩:=hP32
   refine nY ?_;clear nY
   exact hN _ _ ⟨ds,_,_,_,rfl,h2,by simpa using hl⟩
 rintro _ H₂ hP33
 refine Aa fun nY=>?_
 obtain⟨ds,r3,r4,r5,rfl,h2,hdl⟩:=hP33
 refine nY ?_;clear nY
 refine seq (fun ρ H₃=>(Hn fun pt=>Fx (ρ = [some (.ref w),some (.ref r),some (.ref nr),r3,r4,r5,some (.ref pt),none,none,none,none]) (FI H H₃ m nr pt ds 0) (nr≠pt))) (fun N hN=>?_) ?_
 ·simp (disch:=first|decide|omega) only[Zb,Zc,Zd,Ze,Zf,Zg,Zh,Zi,Zj,Zk,Zl,Zm,Zn,Zo,Zp,Zq,Zr,Zs,Zt,Zu,Zv,Zw,Zx,Zy,Zz,Z0,Z1,Z2,Z3,Z4,Z5,Z6,Z7,Z8,Z9,Bb,Bf,Bc,Bl,Ba,Bm,Bt,Bu,Bn,Bo,Bi,Bp,Az,Bj,Br,Bq,A9,Bv,Bg,Bk,List.map,Av,Aw,Ae,Ai,List.replicate,Ar,Au,A0,true_and]
  exact Ac fun a H₃ e3 n3 v3=>hN _ _ ⟨a,rfl,⟨h2.grow e3,h2.ext.isNone n3,[],v3,Nat.le_refl _,fun _ h=>absurd h List.not_mem_nil⟩,fun z=>by rw[<-z,h2.near]at n3;cases n3⟩
 rintro _ H₃ hP34
 refine Aa fun nY=>?_
 obtain⟨pt,rfl,h3,hne⟩:=hP34
 clear h2 h1
 refine nY ?_;clear nY
 refine seq (fun ρ H₄=>(Ex7 fun(r3 r4 r5 r7 r8 r9 r10:Option V)=>ρ = [some (.ref w),some (.ref r),some (.ref nr),r3,r4,r5,some (.ref pt),r7,r8,r9,r10]/\FI H H₄ m nr pt ds (3600*60))) (fun N hN=>?_) ?_
 rotate_left
 ·rintro _ H₄ hP35
  refine Aa fun nY=>?_
  obtain⟨r3,r4,r5,r7,r8,r9,r10,rfl,h4⟩:=hP35
  obtain⟨ps,p1,p2,p3⟩:=h4.put
  refine nY ?_;clear nY
  rw[Z3,Z0]
  simp (disch:=first|decide|omega) only[Zb,Zc,Zd,Ze,Zf,Zg,Zh,Zi,Zj,Zk,Zl,Zm,Zn,Zo,Zp,Zq,Zr,Zs,Zt,Zu,Zv,Zw,Zx,Zy,Zz,Z0,Z1,Z2,Z3,Z4,Z5,Z6,Z7,Z8,Z9,Bb,Bf,Bc,Bl,Ba,Bm,Bt,Bu,Bn,Bo,Bi,Bp,Az,Bj,Br,Bq,A9,Bv,Bg,Bk,List.map,Av,Aw,Ae,Ai,List.replicate,Ar,Au,A0,true_and]
  refine V7 p1 p3 fun ks' _=>?_
  exact Ac fun a H₅ e5 _ _=>q a H₅ (h4.ni.ext.trans e5)
 rw[D1,K3]
 simp (disch:=first|decide|omega) only[Zb,Zc,Zd,Ze,Zf,Zg,Zh,Zi,Zj,Zk,Zl,Zm,Zn,Zo,Zp,Zq,Zr,Zs,Zt,Zu,Zv,Zw,Zx,Zy,Zz,Z0,Z1,Z2,Z3,Z4,Z5,Z6,Z7,Z8,Z9,Bb,Bf,Bc,Bl,Ba,Bm,Bt,Bu,Bn,Bo,Bi,Bp,Az,Bj,Br,Bq,A9,Bv,Bg,Bk,List.map,Av,Aw,Ae,Ai,List.replicate,Ar,Au,A0,true_and]
 rw[Qs (hL.ext h3.ni.ext)]
 have hol:o.length=m:=ho.len
 refine Lj (fun i ρ H₄=>(Ex7 fun(r3 r4 r5 r7 r8 r9 r10:Option V)=>ρ = [some (.ref w),some (.ref r),some (.ref nr),r3,r4,r5,some (.ref pt),r7,r8,r9,r10]/\FI H H₄ m nr pt ds (3600*i))) ⟨_,_,_,_,_,_,_,rfl,h3⟩ ?_ ?_ ?_
 ·rintro i ρ H₄ ⟨r3,r4,r5,r7,r8,r9,r10,_,h4⟩;exact hL.ext h4.ni.ext
 rotate_left
 ·rintro ρ H₄ hP36
  refine Aa fun nY=>?_
  obtain⟨r3,r4,r5,r7,r8,r9,r10,rfl,h4⟩:=hP36
  rw[List.length_map]at h4
  refine nY ?_;clear nY
  exact hN _ _ ⟨_,_,_,_,_,_,_,rfl,h4.more (by omega)⟩
 rintro i v ρ H₄ K hv hP37 hK
 refine Aa fun nY=>?_
 obtain⟨r3,r4,r5,r7,r8,r9,r10,rfl,h4⟩:=hP37
 obtain⟨x,hx,rfl⟩:=LI.at_ (a:=r) hv
 have hil:=(List.getElem?_eq_some_iff.mp hx).1
 have hxr:=ho.mem.mp (List.mem_of_getElem? hx)
 refine nY ?_;clear nY
 simp only[Lz,List.set_cons_succ,List.set_cons_zero]
 refine seq (fun ρ H₅=>(Ho fun(lt:Nat) (l:List Int)=>An6 (ρ = [some (.ref w),some (.ref r),some (.ref nr),some (.int x),r4,r5,some (.ref pt),some (.int i),some (.ref lt),r9,r10]) (FI H H₅ m nr pt ds (3600*i)) (LI H₅ lt l) (l.length<=60) ((∀y∈l,0<=y/\y<(m:Int))) (lt≠pt))) (fun N hN=>?_) ?_
 ·rw[Zy,Ao,J1]
  simp (disch:=first|decide|omega) only[Zb,Zc,Zd,Ze,Zf,Zg,Zh,Zi,Zj,Zk,Zl,Zm,Zn,Zo,Zp,Zq,Zr,Zs,Zt,Zu,Zv,Zw,Zx,Zy,Zz,Z0,Z1,Z2,Z3,Z4,Z5,Z6,Z7,Z8,Z9,Bb,Bf,Bc,Bl,Ba,Bm,Bt,Bu,Bn,Bo,Bi,Bp,Az,Bj,Br,Bq,A9,Bv,Bg,Bk,List.map,Av,Aw,Ae,Ai,List.replicate,Ar,Au,A0,true_and]
  rw[Ks (hL.ext h4.ni.ext) Hj Fv,Ju (by omega)]
  refine Ac fun s H₅ e5 n5 v5=>?_
  rw[show ((i:Int)+1).toNat=i+1 by omega,<-List.map_drop]at v5
  rw[Lf v5]
  refine⟨by simp[Cg];omega,?_⟩
  have h5:=h4.grow e5
  refine Aa fun nY=>?_
  obtain⟨dx,es,q1,q2,q3,q4⟩:=h5.ni.at_ hdl hxr
  refine nY ?_;clear nY
  refine Us v5 (fun y hy K' k1 k2=>?_) fun l hl hin=>?_
  ·simp (disch:=first|decide|omega) only[Zb,Zc,Zd,Ze,Zf,Zg,Zh,Zi,Zj,Zk,Zl,Zm,Zn,Zo,Zp,Zq,Zr,Zs,Zt,Zu,Zv,Zw,Zx,Zy,Zz,Z0,Z1,Z2,Z3,Z4,Z5,Z6,Z7,Z8,Z9,Bb,Bf,Bc,Bl,Ba,Bm,Bt,Bu,Bn,Bo,Bi,Bp,Az,Bj,Br,Bq,A9,Bv,Bg,Bk,List.map,Av,Aw,Ae,Ai,List.replicate,Ar,Au,A0,true_and,Lw,Bz h5.ni.near hxr.1 q1,Ahi q3]
   split
   ·exact k1
   ·exact k2
  ·refine Ac fun lt H₆ e6 n6 v6=>hN _ _ ⟨lt,l,rfl,h5.grow e6,v6,?_,fun y hy=>ho.mem.mp (List.mem_of_mem_drop (hin y hy)),fun z=>?_⟩
   ·rw[List.length_drop]at hl;omega
   ·refine Aa fun nY=>?_
    obtain⟨ps,p1,_,_⟩:=h5.put
    rw[z,p1]at n6;cases n6
 rintro _ H₅ hP38
 refine Aa fun nY=>?_
 obtain⟨lt,l,rfl,h5,hl5,hll,hlin,hlp⟩:=hP38
 refine nY ?_;clear nY
 rw[Z3,D1,K3]
 simp (disch:=first|decide|omega) only[Zb,Zc,Zd,Ze,Zf,Zg,Zh,Zi,Zj,Zk,Zl,Zm,Zn,Zo,Zp,Zq,Zr,Zs,Zt,Zu,Zv,Zw,Zx,Zy,Zz,Z0,Z1,Z2,Z3,Z4,Z5,Z6,Z7,Z8,Z9,Bb,Bf,Bc,Bl,Ba,Bm,Bt,Bu,Bn,Bo,Bi,Bp,Az,Bj,Br,Bq,A9,Bv,Bg,Bk,List.map,Av,Aw,Ae,Ai,List.replicate,Ar,Au,A0,true_and]
 rw[Qs hl5]
 refine Lj (fun j ρ H₆=>(Tg fun(r5 r9 r10:Option V)=>Fx (ρ = [some (.ref w),some (.ref r),some (.ref nr),some (.int x),r4,r5,some (.ref pt),some (.int i),some (.ref lt),r9,r10]) (FI H H₆ m nr pt ds (3600*i+60*j)) (LI H₆ lt l))) ⟨_,_,_,rfl,h5,hl5⟩ ?_ ?_ ?_
 ·rintro j ρ H₆ ⟨r5,r9,r10,_,_,h6⟩;exact h6
 rotate_left
 ·rintro ρ H₆ hP39
  refine Aa fun nY=>?_
  obtain⟨r5,r9,r10,rfl,h6,_⟩:=hP39
  rw[List.length_map]at h6
  refine nY ?_;clear nY
  exact hK _ _ ⟨_,_,_,_,_,_,_,rfl,h6.more (by omega)⟩
 rintro j v ρ H₆ K' hv hP40 hK'
 refine Aa fun nY=>?_
 obtain⟨r5,r9,r10,rfl,h6,hl6⟩:=hP40
 obtain⟨y,hy,rfl⟩:=LI.at_ (a:=lt) hv
 have hyr:=hlin y (List.mem_of_getElem? hy)
 refine nY ?_;clear nY
 simp only[Ly,List.set_cons_succ,List.set_cons_zero]
 rw[Z3,D1,J1]
 simp (disch:=first|decide|omega) only[Zb,Zc,Zd,Ze,Zf,Zg,Zh,Zi,Zj,Zk,Zl,Zm,Zn,Zo,Zp,Zq,Zr,Zs,Zt,Zu,Zv,Zw,Zx,Zy,Zz,Z0,Z1,Z2,Z3,Z4,Z5,Z6,Z7,Z8,Z9,Bb,Bf,Bc,Bl,Ba,Bm,Bt,Bu,Bn,Bo,Bi,Bp,Az,Bj,Br,Bq,A9,Bv,Bg,Bk,List.map,Av,Aw,Ae,Ai,List.replicate,Ar,Au,A0,true_and]
 rw[Ks hl6 Hj Fv,Ju (by omega)]
 refine Ac fun s H₇ e7 n7 v7=>?_
 rw[show ((j:Int)+1).toNat=j+1 by omega,<-List.map_drop]at v7
 rw[Lf v7]
 have hsp:s≠pt:=fun z=>by
  refine Aa fun nY=>?_
  obtain⟨ps,p1,_,_⟩:=h6.put
  rw[z,p1]at n7;cases n7
 refine Gb (fun u ρ H₈=>(Hn fun(r5:Option V)=>Jy (ρ = [some (.ref w),some (.ref r),some (.ref nr),some (.int x),r4,r5,some (.ref pt),some (.int i),some (.ref lt),some (.int j),some (.int y)]) (FI H H₈ m nr pt ds (3600*i+60*j+u)) (LI H₈ lt l) (LI H₈ s (l.drop (j+1))))) ⟨_,rfl,h6.grow e7,hl6.ext e7,v7⟩ ?_ ?_ ?_
 ·rintro u ρ H₈ ⟨r5,_,_,_,h8⟩;exact h8
 rotate_left
 ·rintro ρ H₈ hP41
  refine Aa fun nY=>?_
  obtain⟨r5,rfl,h8,hl8,_⟩:=hP41
  rw[List.length_map,List.length_drop]at h8
  refine nY ?_;clear nY
  exact hK' _ _ ⟨_,_,_,rfl,h8.more (by omega),hl8⟩
 rintro u v ρ H₈ K'' hv hP42 hK''
 refine Aa fun nY=>?_
 obtain⟨r5,rfl,h8,hl8,hs8⟩:=hP42
 obtain⟨z,hz,rfl⟩:=LI.at_ (a:=s) hv
 have hul:=(List.getElem?_eq_some_iff.mp hz).1
 rw[List.length_drop]at hul
 have hzr:=hlin z (List.mem_of_mem_drop (List.mem_of_getElem? hz))
 obtain⟨dy,ey,q1,q2,q3,q4⟩:=h8.ni.at_ hdl hyr
 refine nY ?_;clear nY
 simp only[Lx,List.set_cons_succ,List.set_cons_zero]
 rw[Z3,Za]
 simp (disch:=first|decide|omega) only[Zb,Zc,Zd,Ze,Zf,Zg,Zh,Zi,Zj,Zk,Zl,Zm,Zn,Zo,Zp,Zq,Zr,Zs,Zt,Zu,Zv,Zw,Zx,Zy,Zz,Z0,Z1,Z2,Z3,Z4,Z5,Z6,Z7,Z8,Z9,Bb,Bf,Bc,Bl,Ba,Bm,Bt,Bu,Bn,Bo,Bi,Bp,Az,Bj,Br,Bq,A9,Bv,Bg,Bk,List.map,Av,Aw,Ae,Ai,List.replicate,Ar,Au,A0,true_and,Bz h8.ni.near hyr.1 q1,Abg q3]
 refine Aa fun nY=>?_
 by_cases hk:z∈ey.map (·.1)
 ·refine nY ?_;clear nY
  rw[decide_eq_true hk]
  simp only[Bool.not_true,Bool.false_eq_true,if_false,Z2]
  exact hK'' _ _ ⟨_,rfl,h8.more (by omega),hl8,hs8⟩
 refine nY ?_;clear nY
 rw[decide_eq_false hk]
 simp only[Bool.not_false,if_true]
 have hel:=q4.len
 have h9:FI H (upd H₈ dy (.dict (C3 ey z (.bool true)))) m nr pt ds (3600*i+60*j+u):=h8.putD q2 q3 q4 hzr
 have hl9:LI (upd H₈ dy (.dict (C3 ey z (.bool true)))) lt l:=by unfold LI;rw[upd_ne (Im hl8 q3 (by simp))];exact hl8
 have hs9:LI (upd H₈ dy (.dict (C3 ey z (.bool true)))) s (l.drop (j+1)):=by unfold LI;rw[upd_ne (Im hs8 q3 (by simp))];exact hs8
 rw[Bs]
 simp (disch:=first|decide|omega) only[Zb,Zc,Zd,Ze,Zf,Zg,Zh,Zi,Zj,Zk,Zl,Zm,Zn,Zo,Zp,Zq,Zr,Zs,Zt,Zu,Zv,Zw,Zx,Zy,Zz,Z0,Z1,Z2,Z3,Z4,Z5,Z6,Z7,Z8,Z9,Bb,Bf,Bc,Bl,Ba,Bm,Bt,Bu,Bn,Bo,Bi,Bp,Az,Bj,Br,Bq,A9,Bv,Bg,Bk,List.map,Av,Aw,Ae,Ai,List.replicate,Ar,Au,A0,true_and,Bz h8.ni.near hyr.1 q1,Oa q3 (show ey.length<1048576 by omega)]
 generalize upd H₈ dy (.dict (C3 ey z (.bool true)))=H₉ at *
 refine Aa fun nY=>?_
 obtain⟨dz,ez,u1,u2,u3,u4⟩:=h9.ni.at_ hdl hzr
 have hez:=u4.len
 have h10:FI H (upd H₉ dz (.dict (C3 ez y (.bool true)))) m nr pt ds (3600*i+60*j+u):=h9.putD u2 u3 u4 hyr
 refine nY ?_;clear nY
 have hl10:LI (upd H₉ dz (.dict (C3 ez y (.bool true)))) lt l:=by unfold LI;rw[upd_ne (Im hl9 u3 (by simp))];exact hl9
 have hs10:LI (upd H₉ dz (.dict (C3 ez y (.bool true)))) s (l.drop (j+1)):=by unfold LI;rw[upd_ne (Im hs9 u3 (by simp))];exact hs9
 rw[Bs]
 simp (disch:=first|decide|omega) only[Zb,Zc,Zd,Ze,Zf,Zg,Zh,Zi,Zj,Zk,Zl,Zm,Zn,Zo,Zp,Zq,Zr,Zs,Zt,Zu,Zv,Zw,Zx,Zy,Zz,Z0,Z1,Z2,Z3,Z4,Z5,Z6,Z7,Z8,Z9,Bb,Bf,Bc,Bl,Ba,Bm,Bt,Bu,Bn,Bo,Bi,Bp,Az,Bj,Br,Bq,A9,Bv,Bg,Bk,List.map,Av,Aw,Ae,Ai,List.replicate,Ar,Au,A0,true_and,Bz h9.ni.near hzr.1 u1,Oa u3 (show ez.length<1048576 by omega)]
 generalize upd H₉ dz (.dict (C3 ez y (.bool true)))=H₁₀ at *
 refine Aa fun nY=>?_
 obtain⟨ps,p1,p2,p3⟩:=h10.put
 refine nY ?_;clear nY
 have hpl:(ps.map V.ref).length<1048576:=by rw[List.length_map];omega
 simp (disch:=first|decide|omega) only[Zb,Zc,Zd,Ze,Zf,Zg,Zh,Zi,Zj,Zk,Zl,Zm,Zn,Zo,Zp,Zq,Zr,Zs,Zt,Zu,Zv,Zw,Zx,Zy,Zz,Z0,Z1,Z2,Z3,Z4,Z5,Z6,Z7,Z8,Z9,Bb,Bf,Bc,Bl,Ba,Bm,Bt,Bu,Bn,Bo,Bi,Bp,Az,Bj,Br,Bq,A9,Bv,Bg,Bk,List.map,Av,Aw,Ae,Ai,List.replicate,Ar,Au,A0,true_and,Cq,Cp p1]
 refine Ac fun t H₁₁ e11 n11 v11=>?_
 (try dsimp only);(try simp (disch:=first|decide|omega) only[Zb,Zc,Zd,Ze,Zf,Zg,Zh,Zi,Zj,Zk,Zl,Zm,Zn,Zo,Zp,Zq,Zr,Zs,Zt,Zu,Zv,Zw,Zx,Zy,Zz,Z0,Z1,Z2,Z3,Z4,Z5,Z6,Z7,Z8,Z9,Bb,Bf,Bc,Bl,Ba,Bm,Bt,Bu,Bn,Bo,Bi,Bp,Az,Bj,Br,Bq,A9,Bv,Bg,Bk,List.map,Av,Aw,Ae,Ai,List.replicate,Ar,Au,A0,true_and])
 rw[C0 (e11 _ _ p1) hpl]
 refine hK'' _ _ ⟨_,rfl,(h10.grow e11).app hne v11 (e11 _ _ p1) p2 (fun x hx=>?_),?_,?_⟩
 ·refine Aa fun nY=>?_
  obtain⟨c,i,z⟩:=p3 x hx
  refine nY ?_;clear nY
  exact⟨c,i,e11 _ _ z⟩
 ·unfold LI;rw[upd_ne hlp];exact e11 _ _ hl10
 ·unfold LI;rw[upd_ne hsp];exact e11 _ _ hs10
set_option linter.all false
variable {G:Ax} {n:Nat} {H H' H₁ H₂:AH} {Q:Af} {E:EP} {C:CS} {ρ:Aj} {w m r nr:Nat} {A:Nat->Nat->Bool} {o:List Int} {k:Int} {c:Dc}
noncomputable def wd(m:Nat)(A:Nat->Nat->Bool)(o:List Int)(k:Int):Int:=if B9 o=B8 m then(if (gp A o).isNone||decide (k=3)then 0 else 2)else 1
theorem Oi(m:Nat)(A:Nat->Nat->Bool)(o:List Int)(k:Int):(wd m A o k=0/\B7 m o/\(gp A o=none\/k=3))\/(wd m A o k=1/\¬B7 m o)\/(wd m A o k=2/\B7 m o/\gp A o≠none/\k≠3):=by
 unfold wd
 by_cases ho:B9 o=B8 m
 ·rw[if_pos ho]
  by_cases hg:gp A o=none
  ·refine .inl ⟨?_,ho,.inl hg⟩
   rw[hg];rfl
  ·by_cases hk:k=3
   ·refine .inl ⟨?_,ho,.inr hk⟩
    rw[decide_eq_true hk,Bool.or_true];rfl
   ·refine .inr (.inr ⟨?_,ho,hg,hk⟩)
    rw[decide_eq_false hk,Bool.or_false,if_neg]
    cases e:gp A o with
    | none=>exact absurd e hg
    | some _=>exact Bool.false_ne_true
 ·exact .inr (.inl ⟨if_neg ho,ho⟩)
structure FD(G:Ax):Prop where
 f2:Fw G
 xs:Xs G
 apart:G.fn "apart" = some J8
 filled:G.fn "filled" = some Hw
 do_:G.fn "_law_do" = some Rh
 word:G.fn "_law_word" = some Nb
 byBase:G.fn "_law_by_base" = some F4
theorem Ad8(D:FD G)(hk:0<=k/\k<4)(h0:k=0->Ad G n "full_crowds" [.ref w,.ref r] H (fun _ H=>Q .none H) E)(h1:k=1->Ad G n "coloured" [.ref w,.ref r] H (fun _ H=>Q .none H) E)
 (h2:k=2->Ad G n "apart" [.ref w,.ref r] H (fun _ H=>Q .none H) E) (h3:k=3->Ad G n "filled" [.ref w,.ref r] H (fun _ H=>Q .none H) E):Ad G (n+1) "_law_do" [.ref w,.ref r,.int k] H Q E:=by
 refine Ag D.do_ rfl ?_
 simp only[Rh,List.map,List.replicate,List.cons_append,List.nil_append]
 rw[Z3]
 refine Ci (decide (k=0)) (fun Q' h'=>?_) ?_
 ·simp (disch:=first|decide|omega) only[Zb,Zc,Zd,Ze,Zf,Zg,Zh,Zi,Zj,Zk,Zl,Zm,Zn,Zo,Zp,Zq,Zr,Zs,Zt,Zu,Zv,Zw,Zx,Zy,Zz,Z0,Z1,Z2,Z3,Z4,Z5,Z6,Z7,Z8,Z9,Bb,Bf,Bc,Bl,Ba,Bm,Bt,Bu,Bn,Bo,Bi,Bp,Az,Bj,Br,Bq,A9,Bv,Bg,Bk,List.map,Av,Aw,Ae,Ai,List.replicate,Ar,Au,A0,true_and];exact h'
 by_cases e0:k=0
 ·rw[decide_eq_true e0,if_pos rfl,Z3]
  simp (disch:=first|decide|omega) only[Zb,Zc,Zd,Ze,Zf,Zg,Zh,Zi,Zj,Zk,Zl,Zm,Zn,Zo,Zp,Zq,Zr,Zs,Zt,Zu,Zv,Zw,Zx,Zy,Zz,Z0,Z1,Z2,Z3,Z4,Z5,Z6,Z7,Z8,Z9,Bb,Bf,Bc,Bl,Ba,Bm,Bt,Bu,Bn,Bo,Bi,Bp,Az,Bj,Br,Bq,A9,Bv,Bg,Bk,List.map,Av,Aw,Ae,Ai,List.replicate,Ar,Au,A0,true_and,D.f2.fullCrowds]
  exact h0 e0
 rw[decide_eq_false e0,if_neg Bool.false_ne_true,Z3]
 refine Ci (decide (k=1)) (fun Q' h'=>?_) ?_
 ·simp (disch:=first|decide|omega) only[Zb,Zc,Zd,Ze,Zf,Zg,Zh,Zi,Zj,Zk,Zl,Zm,Zn,Zo,Zp,Zq,Zr,Zs,Zt,Zu,Zv,Zw,Zx,Zy,Zz,Z0,Z1,Z2,Z3,Z4,Z5,Z6,Z7,Z8,Z9,Bb,Bf,Bc,Bl,Ba,Bm,Bt,Bu,Bn,Bo,Bi,Bp,Az,Bj,Br,Bq,A9,Bv,Bg,Bk,List.map,Av,Aw,Ae,Ai,List.replicate,Ar,Au,A0,true_and];exact h'
 by_cases e1:k=1
 ·rw[decide_eq_true e1,if_pos rfl,Z3]
  simp (disch:=first|decide|omega) only[Zb,Zc,Zd,Ze,Zf,Zg,Zh,Zi,Zj,Zk,Zl,Zm,Zn,Zo,Zp,Zq,Zr,Zs,Zt,Zu,Zv,Zw,Zx,Zy,Zz,Z0,Z1,Z2,Z3,Z4,Z5,Z6,Z7,Z8,Z9,Bb,Bf,Bc,Bl,Ba,Bm,Bt,Bu,Bn,Bo,Bi,Bp,Az,Bj,Br,Bq,A9,Bv,Bg,Bk,List.map,Av,Aw,Ae,Ai,List.replicate,Ar,Au,A0,true_and,D.f2.coloured]
  exact h1 e1
 rw[decide_eq_false e1,if_neg Bool.false_ne_true,Z3]
 refine Ci (decide (k=2)) (fun Q' h'=>?_) ?_
 ·simp (disch:=first|decide|omega) only[Zb,Zc,Zd,Ze,Zf,Zg,Zh,Zi,Zj,Zk,Zl,Zm,Zn,Zo,Zp,Zq,Zr,Zs,Zt,Zu,Zv,Zw,Zx,Zy,Zz,Z0,Z1,Z2,Z3,Z4,Z5,Z6,Z7,Z8,Z9,Bb,Bf,Bc,Bl,Ba,Bm,Bt,Bu,Bn,Bo,Bi,Bp,Az,Bj,Br,Bq,A9,Bv,Bg,Bk,List.map,Av,Aw,Ae,Ai,List.replicate,Ar,Au,A0,true_and];exact h'
 by_cases e2:k=2
 ·rw[decide_eq_true e2,if_pos rfl,Z3]
  simp (disch:=first|decide|omega) only[Zb,Zc,Zd,Ze,Zf,Zg,Zh,Zi,Zj,Zk,Zl,Zm,Zn,Zo,Zp,Zq,Zr,Zs,Zt,Zu,Zv,Zw,Zx,Zy,Zz,Z0,Z1,Z2,Z3,Z4,Z5,Z6,Z7,Z8,Z9,Bb,Bf,Bc,Bl,Ba,Bm,Bt,Bu,Bn,Bo,Bi,Bp,Az,Bj,Br,Bq,A9,Bv,Bg,Bk,List.map,Av,Aw,Ae,Ai,List.replicate,Ar,Au,A0,true_and,D.apart]
  exact h2 e2
 rw[decide_eq_false e2,if_neg Bool.false_ne_true,Z3]
 simp (disch:=first|decide|omega) only[Zb,Zc,Zd,Ze,Zf,Zg,Zh,Zi,Zj,Zk,Zl,Zm,Zn,Zo,Zp,Zq,Zr,Zs,Zt,Zu,Zv,Zw,Zx,Zy,Zz,Z0,Z1,Z2,Z3,Z4,Z5,Z6,Z7,Z8,Z9,Bb,Bf,Bc,Bl,Ba,Bm,Bt,Bu,Bn,Bo,Bi,Bp,Az,Bj,Br,Bq,A9,Bv,Bg,Bk,List.map,Av,Aw,Ae,Ai,List.replicate,Ar,Au,A0,true_and,D.filled]
 exact h3 (by omega)
theorem Afr(D:FD G)(hm:m<=60)(hW:Da H w m A)(hL:LI H r o)(hk:0<=k/\k<4)(ho:B7 m o)(hg:gp A o=none\/k=3)(q:∀H',Ak H H'->Q .none H'):Ad G (n+7) "_law_do" [.ref w,.ref r,.int k] H Q E:=by
 refine Ad8 D hk (fun e=>?_) (fun e=>?_) (fun e=>?_) fun e=>?_
 ·exact Q1 D.f2 hm hW hL ho (Mx.mp (hg.resolve_right (by omega))) fun a as H' M=>q H' M.ext
 ·exact Un D.f2 hm hW hL ho (Mx.mp (hg.resolve_right (by omega))) fun a cols H' e _ _ _=>q H' e
 ·exact Adq D.f2 D.apart hm hW hL ho (Mx.mp (hg.resolve_right (by omega))) fun t p c as H' M _ _ _ _ _ _=>q H' M.ext
 ·exact Abi D.f2 D.filled hm hW hL ho fun a H' e=>q H' e
theorem V9(D:FD G)(hm:m<=60)(hW:Da H w m A)(hL:LI H r o)(hl:o.length<64)(hk:0<=k/\k<4)(hr:Rf m A o c)(h3:k=3->c = .badOrder)(q:∀H' a,Ak H H'->H' a=none->E (.ref a) (upd H' a (.exc c))):Ad G (n+7) "_law_do" [.ref w,.ref r,.int k] H Q E:=by
 refine Ad8 D hk (fun e=>?_) (fun e=>?_) (fun e=>?_) fun e=>?_
 ·exact Adr D.f2 D.xs hm hW hL hl hr q
 ·exact Afq D.f2 D.xs hm hW hL hl hr q
 ·exact Abh D.f2 D.xs D.apart hm hW hL hl hr q
 ·refine Aa fun nY=>?_
  cases hr with
  | bad hb=>(refine nY ?_;clear nY;exact Xo D.f2 D.xs D.filled hm hW hL hl hb q)
  | gap _ _=>(refine nY ?_;clear nY;cases h3 e)
theorem Io{c c':Dc}{a:Nat}:Dl c (.ref a) (upd H a (.exc c'))=some (c'==c||c == .webError):=M1 Ab
theorem Afs(D:FD G)(hm:m<=60)(hW:Da H w m A)(hL:LI H r o)(hl:o.length<64)(hk:0<=k/\k<4)(q:∀H',Ak H H'->Q (.int (wd m A o k)) H'):Ad G (n+8) "_law_word" [.ref w,.ref r,.int k] H Q E:=by
 refine Ag D.word rfl ?_
 simp only[Nb,List.map,List.replicate,List.cons_append,List.nil_append]
 rw[Z3,X2]
 refine⟨D.xs.bad,D.xs.gap,?_⟩
 simp (disch:=first|decide|omega) only[Zb,Zc,Zd,Ze,Zf,Zg,Zh,Zi,Zj,Zk,Zl,Zm,Zn,Zo,Zp,Zq,Zr,Zs,Zt,Zu,Zv,Zw,Zx,Zy,Zz,Z0,Z1,Z2,Z3,Z4,Z5,Z6,Z7,Z8,Z9,Bb,Bf,Bc,Bl,Ba,Bm,Bt,Bu,Bn,Bo,Bi,Bp,Az,Bj,Br,Bq,A9,Bv,Bg,Bk,List.map,Av,Aw,Ae,Ai,List.replicate,Ar,Au,A0,true_and,D.do_]
 refine Aa fun nY=>?_
 rcases Oi m A o k with⟨e,ho,hg⟩ | ⟨e,hb⟩ | ⟨e,ho,hg,h3⟩
 ·refine nY ?_;clear nY
  refine Afr D hm hW hL hk ho hg fun H' e'=>?_
  have:=q H' e'
  rw[e]at this
  try simp (disch:=first|decide|omega) only[Zb,Zc,Zd,Ze,Zf,Zg,Zh,Zi,Zj,Zk,Zl,Zm,Zn,Zo,Zp,Zq,Zr,Zs,Zt,Zu,Zv,Zw,Zx,Zy,Zz,Z0,Z1,Z2,Z3,Z4,Z5,Z6,Z7,Z8,Z9,Bb,Bf,Bc,Bl,Ba,Bm,Bt,Bu,Bn,Bo,Bi,Bp,Az,Bj,Br,Bq,A9,Bv,Bg,Bk,List.map,Av,Aw,Ae,Ai,List.replicate,Ar,Au,A0,true_and]
  exact this
 ·refine nY ?_;clear nY
  refine V9 D hm hW hL hl hk (.bad hb) (fun _=>rfl) fun H' a e' ha=>?_
  rw[Io]
  have:=q _ (e'.trans (Ak.upd (o:= .exc .badOrder) ha))
  rw[e]at this
  exact this
 ·refine nY ?_;clear nY
  refine V9 D hm hW hL hl hk (.gap ho hg) (fun z=>absurd z h3) fun H' a e' ha=>?_
  rw[Io]
  have:=q _ (e'.trans (Ak.upd (o:= .exc .hasGap) ha))
  rw[e]at this
  show (match Dl .hasGap (.ref a) (upd H' a (.exc .hasGap))with
   | some true=>_
   | _=>False)
  rw[Io]
  exact this
theorem Aft{a b:Bool}:Ca .NotEq (.bool a) (.bool b) H Q=Q (.bool (a != b)) H:=by cases a<;>cases b<;>rfl
theorem Ut(D:FD G)(hm:m<=60)(hW:Da H w m A)(hL:LI H r o)(hl:o.length<64)(hk:0<=k/\k<4)(hu:0<wd m A o k)(q:∀H',Ak H H'->Q (.bool true) H'):Ad G (n+8) "_law_by_base" [.ref w,.ref r,.int k,.int (wd m A o k)] H Q E:=by
 refine Ag D.byBase rfl ?_
 simp only[F4,List.map,List.replicate,List.cons_append,List.nil_append]
 rw[Z3,X1]
 refine⟨D.xs.web,?_⟩
 simp (disch:=first|decide|omega) only[Zb,Zc,Zd,Ze,Zf,Zg,Zh,Zi,Zj,Zk,Zl,Zm,Zn,Zo,Zp,Zq,Zr,Zs,Zt,Zu,Zv,Zw,Zx,Zy,Zz,Z0,Z1,Z2,Z3,Z4,Z5,Z6,Z7,Z8,Z9,Bb,Bf,Bc,Bl,Ba,Bm,Bt,Bu,Bn,Bo,Bi,Bp,Az,Bj,Br,Bq,A9,Bv,Bg,Bk,List.map,Av,Aw,Ae,Ai,List.replicate,Ar,Au,A0,true_and,D.do_]
 have key:∀(c:Dc) (u:Int) (H':AH) (a:Nat),Ak H H'->H' a=none->wd m A o k=u->((c = .badOrder/\u=1)\/(c = .hasGap/\u=2))->
  B0 G (Ad G (n+7)) [.ite (.or (.isown .badWeb (.var 4)) (.or (.isown .badText (.var 4)) (.isown .noPoint (.var 4)))) [.ret (.cbool false)] [],.ite (.or (.cmp .NotEq (.isown .badOrder (.var 4)) (.cmp .Eq (.var 3) (.cint 1))) (.cmp .NotEq (.isown .hasGap (.var 4)) (.cmp .Eq (.var 3) (.cint 2)))) [.ret (.cbool false)] [],.ret (.isVE (.var 4))]
   [some (.ref w),some (.ref r),some (.int k),some (.int (wd m A o k)),some (.ref a)] (upd H' a (.exc c)) (fun ρ H=>B0 G (Ad G (n+7)) [.ret (.cbool false)] (Wh (some 4) ρ) H (fun _ H=>Q .none H) Q E) Q EF:=by
  intro c u H' a e ha hu hc
  have hq:=q _ (e.trans (Ak.upd (o:= .exc c) ha))
  rw[hu]
  rcases hc with⟨rfl,rfl⟩ | ⟨rfl,rfl⟩
  all_goals
   rw[Z3]
   refine Ci false (fun Q' h'=>?_) ?_
   ·simp (disch:=first|decide|omega) only[Zb,Zc,Zd,Ze,Zf,Zg,Zh,Zi,Zj,Zk,Zl,Zm,Zn,Zo,Zp,Zq,Zr,Zs,Zt,Zu,Zv,Zw,Zx,Zy,Zz,Z0,Z1,Z2,Z3,Z4,Z5,Z6,Z7,Z8,Z9,Bb,Bf,Bc,Bl,Ba,Bm,Bt,Bu,Bn,Bo,Bi,Bp,Az,Bj,Br,Bq,A9,Bv,Bg,Bk,List.map,Av,Aw,Ae,Ai,List.replicate,Ar,Au,A0,true_and,P8,D.xs.badWeb,D.xs.text,D.xs.point,Io]
    exact h'
   rw[if_neg Bool.false_ne_true,Z2,Z3]
   refine Ci false (fun Q' h'=>?_) ?_
   ·simp (disch:=first|decide|omega) only[Zb,Zc,Zd,Ze,Zf,Zg,Zh,Zi,Zj,Zk,Zl,Zm,Zn,Zo,Zp,Zq,Zr,Zs,Zt,Zu,Zv,Zw,Zx,Zy,Zz,Z0,Z1,Z2,Z3,Z4,Z5,Z6,Z7,Z8,Z9,Bb,Bf,Bc,Bl,Ba,Bm,Bt,Bu,Bn,Bo,Bi,Bp,Az,Bj,Br,Bq,A9,Bv,Bg,Bk,List.map,Av,Aw,Ae,Ai,List.replicate,Ar,Au,A0,true_and,P8,D.xs.bad,D.xs.gap,Io,Aft]
    exact h'
   rw[if_neg Bool.false_ne_true,Z2,Z3]
   simp (disch:=first|decide|omega) only[Zb,Zc,Zd,Ze,Zf,Zg,Zh,Zi,Zj,Zk,Zl,Zm,Zn,Zo,Zp,Zq,Zr,Zs,Zt,Zu,Zv,Zw,Zx,Zy,Zz,Z0,Z1,Z2,Z3,Z4,Z5,Z6,Z7,Z8,Z9,Bb,Bf,Bc,Bl,Ba,Bm,Bt,Bu,Bn,Bo,Bi,Bp,Az,Bj,Br,Bq,A9,Bv,Bg,Bk,List.map,Av,Aw,Ae,Ai,List.replicate,Ar,Au,A0,true_and,X3,Io]
   exact hq
 rcases Oi m A o k with⟨e,ho,hg⟩ | ⟨e,hb⟩ | ⟨e,ho,hg,h3⟩
 ·omega
 ·refine V9 D hm hW hL hl hk (.bad hb) (fun _=>rfl) fun H' a e' ha=>?_
  rw[Io]
  exact key .badOrder 1 H' a e' ha e (.inl ⟨rfl,rfl⟩)
 ·refine V9 D hm hW hL hl hk (.gap ho hg) (fun z=>absurd z h3) fun H' a e' ha=>?_
  rw[Io]
  exact key .hasGap 2 H' a e' ha e (.inr ⟨rfl,rfl⟩)
set_option linter.all false
variable {G:Ax} {n:Nat} {H H' H₁ H₂:AH} {Q:Af} {E:EP} {C:CS} {ρ:Aj} {w m r nr:Nat} {A:Nat->Nat->Bool} {o:List Int} {k:Int} {c:Dc}
theorem Abj(hB:G.fn "_law_behind" = some Dp)(hU:G.fn "_law_untied" = some Cu)(hG:G.fn "_law_has_gap" = some Eb)(hm:m<=60)(hN:Dw H nr m A)(hL:LI H r o)(ho:B7 m o)
 (q:∀H',Ak H H'->Q (.bool (gp A o).isSome) H'):Ad G (n+2) "_law_has_gap" [.ref nr,.ref r] H Q E:=by
 have hol:=ho.len
 refine Ag hG rfl ?_
 simp (disch:=first|decide|omega) only[Zb,Zc,Zd,Ze,Zf,Zg,Zh,Zi,Zj,Zk,Zl,Zm,Zn,Zo,Zp,Zq,Zr,Zs,Zt,Zu,Zv,Zw,Zx,Zy,Zz,Z0,Z1,Z2,Z3,Z4,Z5,Z6,Z7,Z8,Z9,Bb,Bf,Bc,Bl,Ba,Bm,Bt,Bu,Bn,Bo,Bi,Bp,Az,Bj,Br,Bq,A9,Bv,Bg,Bk,List.map,Av,Aw,Ae,Ai,List.replicate,Ar,Au,A0,true_and,Eb]
 rw[D1,Gg]
 simp (disch:=first|decide|omega) only[Zb,Zc,Zd,Ze,Zf,Zg,Zh,Zi,Zj,Zk,Zl,Zm,Zn,Zo,Zp,Zq,Zr,Zs,Zt,Zu,Zv,Zw,Zx,Zy,Zz,Z0,Z1,Z2,Z3,Z4,Z5,Z6,Z7,Z8,Z9,Bb,Bf,Bc,Bl,Ba,Bm,Bt,Bu,Bn,Bo,Bi,Bp,Az,Bj,Br,Bq,A9,Bv,Bg,Bk,List.map,Av,Aw,Ae,Ai,List.replicate,Ar,Au,A0,true_and,Dg hL]
 rw[A9 (by omega) (by rw[List.length_map];omega)]
 refine Dk (fun i ρ H₁=>∃r2,ρ = [some (.ref nr),some (.ref r),r2]/\Ak H H₁/\gp A o=(o.drop i).findSome? fun p=>(fu A (bh A o p)).map fun q=>(p,q.1,q.2)) ⟨_,rfl,Ak.refl,by rw[List.drop_zero];rfl⟩ ?_ ?_
 ·rintro i ρ H₁ K hi hP43 hK
  refine Aa fun nY=>?_
  obtain⟨r2,rfl,e,hf⟩:=hP43
  have hi':i<o.length:=by simpa using hi
  have hx:=List.getElem?_eq_getElem hi'
  refine nY ?_;clear nY
  generalize o[i]=x at hx
  rw[C2 hx,List.findSome?_cons]at hf
  simp only[F3,List.set_cons_succ,List.set_cons_zero]
  rw[Z3,Za]
  simp (disch:=first|decide|omega) only[Zb,Zc,Zd,Ze,Zf,Zg,Zh,Zi,Zj,Zk,Zl,Zm,Zn,Zo,Zp,Zq,Zr,Zs,Zt,Zu,Zv,Zw,Zx,Zy,Zz,Z0,Z1,Z2,Z3,Z4,Z5,Z6,Z7,Z8,Z9,Bb,Bf,Bc,Bl,Ba,Bm,Bt,Bu,Bn,Bo,Bi,Bp,Az,Bj,Br,Bq,A9,Bv,Bg,Bk,List.map,Av,Aw,Ae,Ai,List.replicate,Ar,Au,A0,true_and,hU,hB]
  refine Tb hB hm (hN.ext e) (hL.ext e) ho hx fun s H₂ e2 _ hL2=>?_
  have hbl:(bh A o x).length<=o.length-1:=Qz
  refine Ma hU (hN.ext (e.trans e2)) hL2 (by omega) (fun y hy=>ho.mem.mp (Oe hy)) fun H₃ e3=>?_
  have e':=(e.trans e2).trans e3
  cases hfu:fu A (bh A o x)with
  | none=>
    rw[hfu]at hf
    (try dsimp only);(try simp (disch:=first|decide|omega) only[Zb,Zc,Zd,Ze,Zf,Zg,Zh,Zi,Zj,Zk,Zl,Zm,Zn,Zo,Zp,Zq,Zr,Zs,Zt,Zu,Zv,Zw,Zx,Zy,Zz,Z0,Z1,Z2,Z3,Z4,Z5,Z6,Z7,Z8,Z9,Bb,Bf,Bc,Bl,Ba,Bm,Bt,Bu,Bn,Bo,Bi,Bp,Az,Bj,Br,Bq,A9,Bv,Bg,Bk,List.map,Av,Aw,Ae,Ai,List.replicate,Ar,Au,A0,true_and])
    simp only[Bool.false_eq_true,if_false]
    exact hK _ _ ⟨_,rfl,e',hf⟩
  | some pr=>
    obtain⟨y,z⟩:=pr
    rw[hfu]at hf
    intro t ht
    have hq:=q _ (e'.trans (Ak.upd (o:= .tuple [.int y,.int z]) ht))
    rw[hf]at hq
    (try dsimp only);(try simp (disch:=first|decide|omega) only[Zb,Zc,Zd,Ze,Zf,Zg,Zh,Zi,Zj,Zk,Zl,Zm,Zn,Zo,Zp,Zq,Zr,Zs,Zt,Zu,Zv,Zw,Zx,Zy,Zz,Z0,Z1,Z2,Z3,Z4,Z5,Z6,Z7,Z8,Z9,Bb,Bf,Bc,Bl,Ba,Bm,Bt,Bu,Bn,Bo,Bi,Bp,Az,Bj,Br,Bq,A9,Bv,Bg,Bk,List.map,Av,Aw,Ae,Ai,List.replicate,Ar,Au,A0,true_and])
    simp only[if_true]
    try simp (disch:=first|decide|omega) only[Zb,Zc,Zd,Ze,Zf,Zg,Zh,Zi,Zj,Zk,Zl,Zm,Zn,Zo,Zp,Zq,Zr,Zs,Zt,Zu,Zv,Zw,Zx,Zy,Zz,Z0,Z1,Z2,Z3,Z4,Z5,Z6,Z7,Z8,Z9,Bb,Bf,Bc,Bl,Ba,Bm,Bt,Bu,Bn,Bo,Bi,Bp,Az,Bj,Br,Bq,A9,Bv,Bg,Bk,List.map,Av,Aw,Ae,Ai,List.replicate,Ar,Au,A0,true_and]
    exact hq
 ·rintro ρ H₁ hP44
  refine Aa fun nY=>?_
  obtain⟨r2,rfl,e,hf⟩:=hP44
  have hd:(o.drop ((↑(o.map V.int).length:Int).toNat)) = []:=List.drop_of_length_le (by simp)
  rw[hd,List.findSome?_nil]at hf
  have hq:=q H₁ e
  rw[hf]at hq
  refine nY ?_;clear nY
  try simp (disch:=first|decide|omega) only[Zb,Zc,Zd,Ze,Zf,Zg,Zh,Zi,Zj,Zk,Zl,Zm,Zn,Zo,Zp,Zq,Zr,Zs,Zt,Zu,Zv,Zw,Zx,Zy,Zz,Z0,Z1,Z2,Z3,Z4,Z5,Z6,Z7,Z8,Z9,Bb,Bf,Bc,Bl,Ba,Bm,Bt,Bu,Bn,Bo,Bi,Bp,Az,Bj,Br,Bq,A9,Bv,Bg,Bk,List.map,Av,Aw,Ae,Ai,List.replicate,Ar,Au,A0,true_and]
  exact hq
theorem Ra(h:¬B7 m o):wd m A o k=1:=if_neg h
theorem Wa(h:B7 m o)(hg:gp A o=none):wd m A o k=0:=by
 unfold wd
 rw[if_pos (show B9 o=B8 m from h),hg];rfl
theorem Abk(h:B7 m o):wd m A o 3=0:=by
 unfold wd
 rw[if_pos (show B9 o=B8 m from h),decide_eq_true rfl,Bool.or_true];rfl
theorem Uu(h:B7 m o)(hg:gp A o≠none)(h3:k≠3):wd m A o k=2:=by
 refine Aa fun nY=>?_
 rcases Oi m A o k with⟨_,_,z⟩ | ⟨_,z⟩ | ⟨z,_⟩
 ·exact(z.elim hg h3).elim
 ·exact absurd h z
 ·refine nY ?_;clear nY
  exact z
theorem Afu(hB:G.fn "_law_behind" = some Dp)(hU:G.fn "_law_untied" = some Cu)(hH:G.fn "_law_has_gap" = some Eb)(hG:G.fn "_law_dues" = some Jg)(hm:m<=60)(hN:Dw H nr m A)(hL:LI H r o)(hl:o.length<64)
 (q:∀a H',Ak H H'->H a=none->LI H' a [wd m A o 0,wd m A o 1,wd m A o 2,wd m A o 3]->Q (.ref a) H'):Ad G (n+3) "_law_dues" [.ref nr,.ref r] H Q E:=by
 obtain⟨as,a1,a2,a3⟩:=hN
 have hN:Dw H nr m A:=⟨as,a1,a2,a3⟩
 refine Ag hG rfl ?_
 simp only[Jg,List.map,List.replicate,List.cons_append,List.nil_append]
 rw[Z3,Za]
 simp (disch:=first|decide|omega) only[Zb,Zc,Zd,Ze,Zf,Zg,Zh,Zi,Zj,Zk,Zl,Zm,Zn,Zo,Zp,Zq,Zr,Zs,Zt,Zu,Zv,Zw,Zx,Zy,Zz,Z0,Z1,Z2,Z3,Z4,Z5,Z6,Z7,Z8,Z9,Bb,Bf,Bc,Bl,Ba,Bm,Bt,Bu,Bn,Bo,Bi,Bp,Az,Bj,Br,Bq,A9,Bv,Bg,Bk,List.map,Av,Aw,Ae,Ai,List.replicate,Ar,Au,A0,true_and,Mv hL hl]
 refine Ac fun s H₁ e1 _ v1=>?_
 (try dsimp only)
 have b1:=e1 _ _ a1
 have hln:(as.map V.ref).length=m:=by rw[List.length_map];exact a2
 simp (disch:=omega) only[Dg b1,hln,Bg]
 refine Ac fun s2 H₂ e2 _ v2=>?_
 rw[Int.toNat_natCast,Od]at v2
 (try dsimp only)
 rw[Ad4 (l:=B9 o) (l':=B8 m) (e2 _ _ v1) v2]
 have e12:=e1.trans e2
 by_cases ho:B9 o=B8 m
 rotate_left
 ·rw[decide_eq_false ho]
  (try dsimp only);(try simp (disch:=first|decide|omega) only[Zb,Zc,Zd,Ze,Zf,Zg,Zh,Zi,Zj,Zk,Zl,Zm,Zn,Zo,Zp,Zq,Zr,Zs,Zt,Zu,Zv,Zw,Zx,Zy,Zz,Z0,Z1,Z2,Z3,Z4,Z5,Z6,Z7,Z8,Z9,Bb,Bf,Bc,Bl,Ba,Bm,Bt,Bu,Bn,Bo,Bi,Bp,Az,Bj,Br,Bq,A9,Bv,Bg,Bk,List.map,Av,Aw,Ae,Ai,List.replicate,Ar,Au,A0,true_and])
  simp only[Bool.not_false,if_true]
  try simp (disch:=first|decide|omega) only[Zb,Zc,Zd,Ze,Zf,Zg,Zh,Zi,Zj,Zk,Zl,Zm,Zn,Zo,Zp,Zq,Zr,Zs,Zt,Zu,Zv,Zw,Zx,Zy,Zz,Z0,Z1,Z2,Z3,Z4,Z5,Z6,Z7,Z8,Z9,Bb,Bf,Bc,Bl,Ba,Bm,Bt,Bu,Bn,Bo,Bi,Bp,Az,Bj,Br,Bq,A9,Bv,Bg,Bk,List.map,Av,Aw,Ae,Ai,List.replicate,Ar,Au,A0,true_and]
  refine Ac fun a H₃ e3 n3 v3=>q a H₃ (e12.trans e3) (e12.isNone n3) ?_
  rw[Ra ho,Ra ho,Ra ho,Ra ho]
  exact v3
 rw[decide_eq_true ho]
 (try dsimp only);(try simp (disch:=first|decide|omega) only[Zb,Zc,Zd,Ze,Zf,Zg,Zh,Zi,Zj,Zk,Zl,Zm,Zn,Zo,Zp,Zq,Zr,Zs,Zt,Zu,Zv,Zw,Zx,Zy,Zz,Z0,Z1,Z2,Z3,Z4,Z5,Z6,Z7,Z8,Z9,Bb,Bf,Bc,Bl,Ba,Bm,Bt,Bu,Bn,Bo,Bi,Bp,Az,Bj,Br,Bq,A9,Bv,Bg,Bk,List.map,Av,Aw,Ae,Ai,List.replicate,Ar,Au,A0,true_and])
 simp only[Bool.not_true,Bool.false_eq_true,if_false]
 rw[Za]
 simp (disch:=first|decide|omega) only[Zb,Zc,Zd,Ze,Zf,Zg,Zh,Zi,Zj,Zk,Zl,Zm,Zn,Zo,Zp,Zq,Zr,Zs,Zt,Zu,Zv,Zw,Zx,Zy,Zz,Z0,Z1,Z2,Z3,Z4,Z5,Z6,Z7,Z8,Z9,Bb,Bf,Bc,Bl,Ba,Bm,Bt,Bu,Bn,Bo,Bi,Bp,Az,Bj,Br,Bq,A9,Bv,Bg,Bk,List.map,Av,Aw,Ae,Ai,List.replicate,Ar,Au,A0,true_and,hH]
 refine Abj hB hU hH hm (hN.ext e12) (hL.ext e12) ho fun H₃ e3=>?_
 have e13:=e12.trans e3
 cases hg:gp A o with
 | none=>
   (try dsimp only);(try simp (disch:=first|decide|omega) only[Zb,Zc,Zd,Ze,Zf,Zg,Zh,Zi,Zj,Zk,Zl,Zm,Zn,Zo,Zp,Zq,Zr,Zs,Zt,Zu,Zv,Zw,Zx,Zy,Zz,Z0,Z1,Z2,Z3,Z4,Z5,Z6,Z7,Z8,Z9,Bb,Bf,Bc,Bl,Ba,Bm,Bt,Bu,Bn,Bo,Bi,Bp,Az,Bj,Br,Bq,A9,Bv,Bg,Bk,List.map,Av,Aw,Ae,Ai,List.replicate,Ar,Au,A0,true_and])
   simp only[Option.isSome_none,Bool.false_eq_true,if_false]
   try simp (disch:=first|decide|omega) only[Zb,Zc,Zd,Ze,Zf,Zg,Zh,Zi,Zj,Zk,Zl,Zm,Zn,Zo,Zp,Zq,Zr,Zs,Zt,Zu,Zv,Zw,Zx,Zy,Zz,Z0,Z1,Z2,Z3,Z4,Z5,Z6,Z7,Z8,Z9,Bb,Bf,Bc,Bl,Ba,Bm,Bt,Bu,Bn,Bo,Bi,Bp,Az,Bj,Br,Bq,A9,Bv,Bg,Bk,List.map,Av,Aw,Ae,Ai,List.replicate,Ar,Au,A0,true_and]
   refine Ac fun a H₄ e4 n4 v4=>q a H₄ (e13.trans e4) (e13.isNone n4) ?_
   rw[Wa ho hg,Wa ho hg,Wa ho hg,Wa ho hg]
   exact v4
 | some t=>
   have hg':gp A o≠none:=by rw[hg];exact Option.some_ne_none _
   (try dsimp only);(try simp (disch:=first|decide|omega) only[Zb,Zc,Zd,Ze,Zf,Zg,Zh,Zi,Zj,Zk,Zl,Zm,Zn,Zo,Zp,Zq,Zr,Zs,Zt,Zu,Zv,Zw,Zx,Zy,Zz,Z0,Z1,Z2,Z3,Z4,Z5,Z6,Z7,Z8,Z9,Bb,Bf,Bc,Bl,Ba,Bm,Bt,Bu,Bn,Bo,Bi,Bp,Az,Bj,Br,Bq,A9,Bv,Bg,Bk,List.map,Av,Aw,Ae,Ai,List.replicate,Ar,Au,A0,true_and])
   simp only[Option.isSome_some,if_true]
   try simp (disch:=first|decide|omega) only[Zb,Zc,Zd,Ze,Zf,Zg,Zh,Zi,Zj,Zk,Zl,Zm,Zn,Zo,Zp,Zq,Zr,Zs,Zt,Zu,Zv,Zw,Zx,Zy,Zz,Z0,Z1,Z2,Z3,Z4,Z5,Z6,Z7,Z8,Z9,Bb,Bf,Bc,Bl,Ba,Bm,Bt,Bu,Bn,Bo,Bi,Bp,Az,Bj,Br,Bq,A9,Bv,Bg,Bk,List.map,Av,Aw,Ae,Ai,List.replicate,Ar,Au,A0,true_and]
   refine Ac fun a H₄ e4 n4 v4=>q a H₄ (e13.trans e4) (e13.isNone n4) ?_
   rw[Uu ho hg' (by decide),Uu ho hg' (by decide),Uu ho hg' (by decide),Abk ho]
   exact v4
theorem Abl(hG:G.fn "_law_within" = some Gm)(hL:LI H r o)(hl:o.length<=60)
 (q:∀a l H',Ak H H'->H a=none->LI H' a l->l.length<=61->Q (.ref a) H'):Ad G (n+1) "_law_within" [.ref r,.int k] H Q E:=by
 refine Ag hG rfl ?_
 simp only[Gm,List.map,List.replicate,List.cons_append,List.nil_append]
 rw[Z3]
 refine Ci (decide (k%2=0)||decide ((o.length:Int)<4)) (fun Q' h'=>?_) ?_
 ·simp (disch:=first|decide|omega) only[Zb,Zc,Zd,Ze,Zf,Zg,Zh,Zi,Zj,Zk,Zl,Zm,Zn,Zo,Zp,Zq,Zr,Zs,Zt,Zu,Zv,Zw,Zx,Zy,Zz,Z0,Z1,Z2,Z3,Z4,Z5,Z6,Z7,Z8,Z9,Bb,Bf,Bc,Bl,Ba,Bm,Bt,Bu,Bn,Bo,Bi,Bp,Az,Bj,Br,Bq,A9,Bv,Bg,Bk,List.map,Av,Aw,Ae,Ai,List.replicate,Ar,Au,A0,true_and,Dg hL]
  rw[List.length_map]
  split
  ·rename_i h;rw[h,Bool.true_or]at h';exact h'
  ·rename_i h;rw[Bool.not_eq_true]at h;rw[h,Bool.false_or]at h';exact h'
 by_cases hh:(decide (k%2=0)||decide ((o.length:Int)<4))=true
 ·rw[if_pos hh,Z3]
  simp (disch:=first|decide|omega) only[Zb,Zc,Zd,Ze,Zf,Zg,Zh,Zi,Zj,Zk,Zl,Zm,Zn,Zo,Zp,Zq,Zr,Zs,Zt,Zu,Zv,Zw,Zx,Zy,Zz,Z0,Z1,Z2,Z3,Z4,Z5,Z6,Z7,Z8,Z9,Bb,Bf,Bc,Bl,Ba,Bm,Bt,Bu,Bn,Bo,Bi,Bp,Az,Bj,Br,Bq,A9,Bv,Bg,Bk,List.map,Av,Aw,Ae,Ai,List.replicate,Ar,Au,A0,true_and]
  rw[Ad5 hL]
  refine Ac fun a H₁ e1 n1 v1=>q a o.reverse H₁ e1 n1 (by unfold LI;rw[v1,List.map_reverse]) (by rw[List.length_reverse];omega)
 rw[if_neg hh,Z2]
 have hlen:4<=o.length:=by
  have:=hh
  simp at this
  omega
 refine seq (fun ρ H₁=>(Hn fun f=>Jy (ρ = [some (.ref r),some (.int k),some (.ref f),none,none]) (Ak H H₁) (H f=none) (LI H₁ f o))) (fun N hN=>?_) ?_
 ·simp (disch:=first|decide|omega) only[Zb,Zc,Zd,Ze,Zf,Zg,Zh,Zi,Zj,Zk,Zl,Zm,Zn,Zo,Zp,Zq,Zr,Zs,Zt,Zu,Zv,Zw,Zx,Zy,Zz,Z0,Z1,Z2,Z3,Z4,Z5,Z6,Z7,Z8,Z9,Bb,Bf,Bc,Bl,Ba,Bm,Bt,Bu,Bn,Bo,Bi,Bp,Az,Bj,Br,Bq,A9,Bv,Bg,Bk,List.map,Av,Aw,Ae,Ai,List.replicate,Ar,Au,A0,true_and,Qx hL]
  exact Ac fun a H₁ e1 n1 v1=>hN _ _ ⟨a,rfl,e1,n1,v1⟩
 rintro _ H₁ ⟨f,rfl,e1,nf,hf⟩
 have hL1:=hL.ext e1
 have hrf:r≠f:=fun z=>by unfold LI at hL;rw[z,nf]at hL;cases hL
 have hmod:∀x:Int,0<=x%((o.length:Int)-2)/\x%((o.length:Int)-2)<(o.length:Int)-2:=fun x=>⟨Int.emod_nonneg _ (by omega),Int.emod_lt_of_pos _ (by omega)⟩
 refine seq (fun ρ H₂=>(Hn fun(x:Int)=>Jy (ρ = [some (.ref r),some (.int k),some (.ref f),some (.int x),none]) (H₁=H₂) (0<=x) (x<(o.length:Int)))) (fun N hN=>?_) ?_
 ·simp (disch:=first|decide|omega) only[Zb,Zc,Zd,Ze,Zf,Zg,Zh,Zi,Zj,Zk,Zl,Zm,Zn,Zo,Zp,Zq,Zr,Zs,Zt,Zu,Zv,Zw,Zx,Zy,Zz,Z0,Z1,Z2,Z3,Z4,Z5,Z6,Z7,Z8,Z9,Bb,Bf,Bc,Bl,Ba,Bm,Bt,Bu,Bn,Bo,Bi,Bp,Az,Bj,Br,Bq,A9,Bv,Bg,Bk,List.map,Av,Aw,Ae,Ai,List.replicate,Ar,Au,A0,true_and,Dg hL1]
  rw[List.length_map]
  simp (disch:=first|decide|omega) only[Zb,Zc,Zd,Ze,Zf,Zg,Zh,Zi,Zj,Zk,Zl,Zm,Zn,Zo,Zp,Zq,Zr,Zs,Zt,Zu,Zv,Zw,Zx,Zy,Zz,Z0,Z1,Z2,Z3,Z4,Z5,Z6,Z7,Z8,Z9,Bb,Bf,Bc,Bl,Ba,Bm,Bt,Bu,Bn,Bo,Bi,Bp,Az,Bj,Br,Bq,A9,Bv,Bg,Bk,List.map,Av,Aw,Ae,Ai,List.replicate,Ar,Au,A0,true_and]
  exact hN _ _ ⟨_,rfl,rfl,by have:=hmod (k/2);omega,by have:=hmod (k/2);omega⟩
 rintro _ _ ⟨x,rfl,rfl,x0,x1⟩
 refine seq (fun ρ H₂=>(Hn fun(y:Int)=>Jy (ρ = [some (.ref r),some (.int k),some (.ref f),some (.int x),some (.int y)]) (H₁=H₂) (0<=y) (y<(o.length:Int)))) (fun N hN=>?_) ?_
 ·simp (disch:=first|decide|omega) only[Zb,Zc,Zd,Ze,Zf,Zg,Zh,Zi,Zj,Zk,Zl,Zm,Zn,Zo,Zp,Zq,Zr,Zs,Zt,Zu,Zv,Zw,Zx,Zy,Zz,Z0,Z1,Z2,Z3,Z4,Z5,Z6,Z7,Z8,Z9,Bb,Bf,Bc,Bl,Ba,Bm,Bt,Bu,Bn,Bo,Bi,Bp,Az,Bj,Br,Bq,A9,Bv,Bg,Bk,List.map,Av,Aw,Ae,Ai,List.replicate,Ar,Au,A0,true_and,Dg hL1]
  rw[List.length_map]
  simp (disch:=first|decide|omega) only[Zb,Zc,Zd,Ze,Zf,Zg,Zh,Zi,Zj,Zk,Zl,Zm,Zn,Zo,Zp,Zq,Zr,Zs,Zt,Zu,Zv,Zw,Zx,Zy,Zz,Z0,Z1,Z2,Z3,Z4,Z5,Z6,Z7,Z8,Z9,Bb,Bf,Bc,Bl,Ba,Bm,Bt,Bu,Bn,Bo,Bi,Bp,Az,Bj,Br,Bq,A9,Bv,Bg,Bk,List.map,Av,Aw,Ae,Ai,List.replicate,Ar,Au,A0,true_and]
  exact hN _ _ ⟨_,rfl,rfl,by have:=hmod (k/122);omega,by have:=hmod (k/122);omega⟩
 rintro _ _ ⟨y,rfl,rfl,y0,y1⟩
 have hx:=List.getElem?_eq_getElem (show x.toNat<o.length by omega)
 have hy:=List.getElem?_eq_getElem (show y.toNat<o.length by omega)
 generalize o[x.toNat]=ox at hx
 generalize o[y.toNat]=oy at hy
 have hx':(o.map V.int)[x.toNat]? = some (.int ox):=by rw[List.getElem?_map,hx];rfl
 have hy':(o.map V.int)[y.toNat]? = some (.int oy):=by rw[List.getElem?_map,hy];rfl
 rw[Z3,Bs]
 simp (disch:=first|decide|omega) only[Zb,Zc,Zd,Ze,Zf,Zg,Zh,Zi,Zj,Zk,Zl,Zm,Zn,Zo,Zp,Zq,Zr,Zs,Zt,Zu,Zv,Zw,Zx,Zy,Zz,Z0,Z1,Z2,Z3,Z4,Z5,Z6,Z7,Z8,Z9,Bb,Bf,Bc,Bl,Ba,Bm,Bt,Bu,Bn,Bo,Bi,Bp,Az,Bj,Br,Bq,A9,Bv,Bg,Bk,List.map,Av,Aw,Ae,Ai,List.replicate,Ar,Au,A0,true_and,Bz hL1 y0 hy',Qy hf x0 x1]
 have hL2:LI (upd H₁ f (.list ((o.set x.toNat oy).map V.int))) r o:=by unfold LI;rw[upd_ne hrf];exact hL1
 have hf2:LI (upd H₁ f (.list ((o.set x.toNat oy).map V.int))) f (o.set x.toNat oy):=Ab
 rw[Bs]
 simp (disch:=first|decide|omega) only[Zb,Zc,Zd,Ze,Zf,Zg,Zh,Zi,Zj,Zk,Zl,Zm,Zn,Zo,Zp,Zq,Zr,Zs,Zt,Zu,Zv,Zw,Zx,Zy,Zz,Z0,Z1,Z2,Z3,Z4,Z5,Z6,Z7,Z8,Z9,Bb,Bf,Bc,Bl,Ba,Bm,Bt,Bu,Bn,Bo,Bi,Bp,Az,Bj,Br,Bq,A9,Bv,Bg,Bk,List.map,Av,Aw,Ae,Ai,List.replicate,Ar,Au,A0,true_and,Bz hL2 x0 hx',Qy hf2 y0 (show y<((o.set x.toNat oy).length:Int) by rw[List.length_set];exact y1)]
 exact q f _ _ ((e1.upd' nf).upd' nf) nf Ab (by rw[List.length_set,List.length_set];omega)
set_option linter.all false
variable {G:Ax} {n:Nat} {H H' H₁ H₂:AH} {Q:Af} {E:EP} {C:CS} {ρ:Aj} {w m r nr a b:Nat} {A:Nat->Nat->Bool} {o l l':List Int} {k far:Int} {c:Dc}
theorem Wb{p:Int}(hL:LI H r o)(hp:0<=p)(q:∀a H',Ak H H'->H a=none->LI H' a (o.take p.toNat)->Q (.ref a) H'):C7 (.ref r) .none (.int p) .none H Q:=by
 rw[Ks hL Fv Hj,Ui hp,<-List.map_take]
 exact Ac fun a H₁ e1 n1 v1=>q a H₁ e1 n1 v1
theorem Abm{p:Int}(hL:LI H r o)(hp:0<=p)(q:∀a H',Ak H H'->H a=none->LI H' a (o.drop p.toNat)->Q (.ref a) H'):C7 (.ref r) (.int p) .none .none H Q:=by
 rw[Ks hL Hj Fv,Ju hp,<-List.map_drop]
 exact Ac fun a H₁ e1 n1 v1=>q a H₁ e1 n1 v1
theorem P4(h:LI H a l)(h':LI H b l')(hl:l.length+l'.length<=1000)(q:∀c H',Ak H H'->H c=none->LI H' c (l++l')->Q (.ref c) H'):Dz .Add (.ref a) (.ref b) H Q:=by
 rw[Aax h h' (by rw[List.length_map,List.length_map];omega)]
 refine Ac fun c H₁ e1 n1 v1=>q c H₁ e1 n1 ?_
 unfold LI
 rw[v1,List.map_append]
theorem Ahj{v:V}{xs:List V}{t:Bool}(h:H a=some (.tuple xs))(hm:Wg v xs=some t):Ca .In v (.ref a) H Q=Q (.bool t) H:=by
 delta Ca;dsimp only;delta P6;dsimp only[A2];rw[h];dsimp only;rw[hm];rfl
theorem Afv{t:Bool}:D3 .int [.bool t] H Q=Q (.int (if t then 1 else 0)) H:=rfl
theorem Ahk{p p2 z:Int}(hL:LI H r o)(hl:o.length<=60)(hp:0<=p)(hpp:p<=p2)(q:∀a l H',Ak H H'->H a=none->LI H' a l->l.length<=61->Q (.ref a) H') :
 C7 (.ref r) .none (.int p) .none H (fun a H=>An (.list [.int z]) H fun b H=>Dz .Add a b H fun a H=>C7 (.ref r) (.int p2) .none .none H fun b H=>Dz .Add a b H Q):=by
 refine Wb hL hp fun a1 H₁ e1 n1 v1=>?_
 refine Ac fun b1 H₂ e2 n2 v2=>?_
 refine P4 (l':=[z]) (v1.ext e2) v2 (by simp;omega) fun a2 H₃ e3 n3 v3=>?_
 have e13:=(e1.trans e2).trans e3
 refine Abm (hL.ext e13) (Int.le_trans hp hpp) fun b2 H₄ e4 n4 v4=>?_
 have hl3:(o.take p.toNat ++ [z]).length+(o.drop p2.toNat).length<=61:=by
  rw[List.length_append,List.length_take,List.length_drop]
  simp
  omega
 refine P4 (v3.ext e4) v4 (by omega) fun a3 H₅ e5 n5 v5=>q a3 _ H₅ ((e13.trans e4).trans e5) ((e13.trans e4).isNone n5) v5 ?_
 rw[List.length_append];exact hl3
theorem Uv(hG:G.fn "_law_spoilt" = some Eh)(hL:LI H r o)(hl:o.length<=60)
 (q:∀a l H',Ak H H'->H a=none->LI H' a l->l.length<=61->Q (.ref a) H'):Ad G (n+1) "_law_spoilt" [.ref r,.int k,.int far] H Q E:=by
 refine Ag hG rfl ?_
 simp only[Eh,List.map,List.replicate,List.cons_append,List.nil_append]
 refine seq (fun ρ H₁=>(Hn fun(p:Int)=>Jy (ρ = [some (.ref r),some (.int k),some (.int far),some (.int p),none,none]) (H=H₁) (0<=p) (p<=(o.length:Int)))) (fun N hN=>?_) ?_
 ·simp (disch:=first|decide|omega) only[Zb,Zc,Zd,Ze,Zf,Zg,Zh,Zi,Zj,Zk,Zl,Zm,Zn,Zo,Zp,Zq,Zr,Zs,Zt,Zu,Zv,Zw,Zx,Zy,Zz,Z0,Z1,Z2,Z3,Z4,Z5,Z6,Z7,Z8,Z9,Bb,Bf,Bc,Bl,Ba,Bm,Bt,Bu,Bn,Bo,Bi,Bp,Az,Bj,Br,Bq,A9,Bv,Bg,Bk,List.map,Av,Aw,Ae,Ai,List.replicate,Ar,Au,A0,true_and,Dg hL]
  rw[List.length_map]
  simp (disch:=first|decide|omega) only[Zb,Zc,Zd,Ze,Zf,Zg,Zh,Zi,Zj,Zk,Zl,Zm,Zn,Zo,Zp,Zq,Zr,Zs,Zt,Zu,Zv,Zw,Zx,Zy,Zz,Z0,Z1,Z2,Z3,Z4,Z5,Z6,Z7,Z8,Z9,Bb,Bf,Bc,Bl,Ba,Bm,Bt,Bu,Bn,Bo,Bi,Bp,Az,Bj,Br,Bq,A9,Bv,Bg,Bk,List.map,Av,Aw,Ae,Ai,List.replicate,Ar,Au,A0,true_and]
  have h1:0<=k%((o.length:Int)+1):=Int.emod_nonneg _ (by omega)
  have h2:k%((o.length:Int)+1)<(o.length:Int)+1:=Int.emod_lt_of_pos _ (by omega)
  exact hN _ _ ⟨_,rfl,rfl,h1,by omega⟩
 rintro _ _ ⟨p,rfl,rfl,p0,p1⟩
 refine seq (fun ρ H₁=>∃d:Int,ρ = [some (.ref r),some (.int k),some (.int far),some (.int p),some (.int d),none]/\H=H₁) (fun N hN=>?_) ?_
 ·simp (disch:=first|decide|omega) only[Zb,Zc,Zd,Ze,Zf,Zg,Zh,Zi,Zj,Zk,Zl,Zm,Zn,Zo,Zp,Zq,Zr,Zs,Zt,Zu,Zv,Zw,Zx,Zy,Zz,Z0,Z1,Z2,Z3,Z4,Z5,Z6,Z7,Z8,Z9,Bb,Bf,Bc,Bl,Ba,Bm,Bt,Bu,Bn,Bo,Bi,Bp,Az,Bj,Br,Bq,A9,Bv,Bg,Bk,List.map,Av,Aw,Ae,Ai,List.replicate,Ar,Au,A0,true_and]
  exact hN _ _ ⟨_,rfl,rfl⟩
 rintro _ _ ⟨d,rfl,rfl⟩
 refine seq (fun ρ H₁=>∃z:Int,ρ = [some (.ref r),some (.int k),some (.int far),some (.int p),some (.int d),some (.int z)]/\Ak H H₁) (fun N hN=>?_) ?_
 ·simp (disch:=first|decide|omega) only[Zb,Zc,Zd,Ze,Zf,Zg,Zh,Zi,Zj,Zk,Zl,Zm,Zn,Zo,Zp,Zq,Zr,Zs,Zt,Zu,Zv,Zw,Zx,Zy,Zz,Z0,Z1,Z2,Z3,Z4,Z5,Z6,Z7,Z8,Z9,Bb,Bf,Bc,Bl,Ba,Bm,Bt,Bu,Bn,Bo,Bi,Bp,Az,Bj,Br,Bq,A9,Bv,Bg,Bk,List.map,Av,Aw,Ae,Ai,List.replicate,Ar,Au,A0,true_and,Dg hL]
  refine Ac fun a H₁ e1 n1 v1=>?_
  (try dsimp only);(try simp (disch:=first|decide|omega) only[Zb,Zc,Zd,Ze,Zf,Zg,Zh,Zi,Zj,Zk,Zl,Zm,Zn,Zo,Zp,Zq,Zr,Zs,Zt,Zu,Zv,Zw,Zx,Zy,Zz,Z0,Z1,Z2,Z3,Z4,Z5,Z6,Z7,Z8,Z9,Bb,Bf,Bc,Bl,Ba,Bm,Bt,Bu,Bn,Bo,Bi,Bp,Az,Bj,Br,Bq,A9,Bv,Bg,Bk,List.map,Av,Aw,Ae,Ai,List.replicate,Ar,Au,A0,true_and])
  have h1:0<=k/305%4:=Int.emod_nonneg _ (by omega)
  have h2:k/305%4<4:=Int.emod_lt_of_pos _ (by omega)
  have h3:LI H₁ a [-1,((o.map V.int).length:Int),far,-far]:=v1
  have hlt:(k/305%4).toNat < [-1,((o.map V.int).length:Int),far,-far].length:=by
   show _<4
   omega
  have hz:=List.getElem?_eq_getElem hlt
  generalize [-1,((o.map V.int).length:Int),far,-far][(k/305%4).toNat]=z at hz
  try simp (disch:=first|decide|omega) only[Z7,Z6]
  rw[Bz h3 h1 (show ([-1,((o.map V.int).length:Int),far,-far].map V.int)[(k/305%4).toNat]? = some (.int z) by rw[List.getElem?_map,hz];rfl)]
  exact hN _ _ ⟨z,rfl,e1⟩
 rintro _ H₁ ⟨z,rfl,e1⟩
 have hL1:=hL.ext e1
 have q1:∀a l H',Ak H₁ H'->H₁ a=none->LI H' a l->l.length<=61->Q (.ref a) H':=fun a l H' e n v hl=>q a l H' (e1.trans e) (e1.isNone n) v hl
 rw[Z3]
 refine Ci (decide (d=0)&&decide (p<(o.length:Int))) (fun Q' h'=>?_) ?_
 ·simp (disch:=first|decide|omega) only[Zb,Zc,Zd,Ze,Zf,Zg,Zh,Zi,Zj,Zk,Zl,Zm,Zn,Zo,Zp,Zq,Zr,Zs,Zt,Zu,Zv,Zw,Zx,Zy,Zz,Z0,Z1,Z2,Z3,Z4,Z5,Z6,Z7,Z8,Z9,Bb,Bf,Bc,Bl,Ba,Bm,Bt,Bu,Bn,Bo,Bi,Bp,Az,Bj,Br,Bq,A9,Bv,Bg,Bk,List.map,Av,Aw,Ae,Ai,List.replicate,Ar,Au,A0,true_and,Dg hL1]
  rw[List.length_map]
  split
  ·rename_i h;rw[h,Bool.true_and]at h';exact h'
  ·rename_i h;rw[Bool.not_eq_true]at h;rw[h,Bool.false_and]at h';exact h'
 split
 ·rw[Z3]
  simp (disch:=first|decide|omega) only[Zb,Zc,Zd,Ze,Zf,Zg,Zh,Zi,Zj,Zk,Zl,Zm,Zn,Zo,Zp,Zq,Zr,Zs,Zt,Zu,Zv,Zw,Zx,Zy,Zz,Z0,Z1,Z2,Z3,Z4,Z5,Z6,Z7,Z8,Z9,Bb,Bf,Bc,Bl,Ba,Bm,Bt,Bu,Bn,Bo,Bi,Bp,Az,Bj,Br,Bq,A9,Bv,Bg,Bk,List.map,Av,Aw,Ae,Ai,List.replicate,Ar,Au,A0,true_and]
  refine Wb hL1 p0 fun a1 H₂ e2 n2 v2=>?_
  (try dsimp only);(try simp (disch:=first|decide|omega) only[Zb,Zc,Zd,Ze,Zf,Zg,Zh,Zi,Zj,Zk,Zl,Zm,Zn,Zo,Zp,Zq,Zr,Zs,Zt,Zu,Zv,Zw,Zx,Zy,Zz,Z0,Z1,Z2,Z3,Z4,Z5,Z6,Z7,Z8,Z9,Bb,Bf,Bc,Bl,Ba,Bm,Bt,Bu,Bn,Bo,Bi,Bp,Az,Bj,Br,Bq,A9,Bv,Bg,Bk,List.map,Av,Aw,Ae,Ai,List.replicate,Ar,Au,A0,true_and])
  try simp (disch:=first|decide|omega) only[Z8]
  refine Abm (hL1.ext e2) (show 0<=p+1 by omega) fun a2 H₃ e3 n3 v3=>?_
  have hll:(o.take p.toNat).length+(o.drop (p+1).toNat).length<=61:=by rw[List.length_take,List.length_drop];omega
  refine P4 (v2.ext e3) v3 (by omega) fun a3 H₄ e4 n4 v4=>q1 a3 _ H₄ ((e2.trans e3).trans e4) ((e2.trans e3).isNone n4) v4 ?_
  rw[List.length_append];exact hll
 rw[Z2,Z3]
 refine Ci (decide (d=1)&&(decide (0<p)&&decide (p<(o.length:Int)))) (fun Q' h'=>?_) ?_
 ·simp (disch:=first|decide|omega) only[Zb,Zc,Zd,Ze,Zf,Zg,Zh,Zi,Zj,Zk,Zl,Zm,Zn,Zo,Zp,Zq,Zr,Zs,Zt,Zu,Zv,Zw,Zx,Zy,Zz,Z0,Z1,Z2,Z3,Z4,Z5,Z6,Z7,Z8,Z9,Bb,Bf,Bc,Bl,Ba,Bm,Bt,Bu,Bn,Bo,Bi,Bp,Az,Bj,Br,Bq,A9,Bv,Bg,Bk,List.map,Av,Aw,Ae,Ai,List.replicate,Ar,Au,A0,true_and,Dg hL1]
  rw[List.length_map]
  split
  ·rename_i h
   rw[h,Bool.true_and]at h'
   split
   ·rename_i h2;rw[h2,Bool.true_and]at h';exact h'
   ·rename_i h2;rw[Bool.not_eq_true]at h2;rw[h2,Bool.false_and]at h';exact h'
  ·rename_i h;rw[Bool.not_eq_true]at h;rw[h,Bool.false_and]at h';exact h'
 split
 ·rename_i hh
  simp only[Bool.and_eq_true,decide_eq_true_eq]at hh
  have hp1:=List.getElem?_eq_getElem (show (p-1).toNat<o.length by omega)
  generalize o[(p-1).toNat]=y at hp1
  have hp2:(o.map V.int)[(p-1).toNat]? = some (.int y):=by rw[List.getElem?_map,hp1];rfl
  rw[Z3]
  simp (disch:=first|decide|omega) only[Zb,Zc,Zd,Ze,Zf,Zg,Zh,Zi,Zj,Zk,Zl,Zm,Zn,Zo,Zp,Zq,Zr,Zs,Zt,Zu,Zv,Zw,Zx,Zy,Zz,Z0,Z1,Z2,Z3,Z4,Z5,Z6,Z7,Z8,Z9,Bb,Bf,Bc,Bl,Ba,Bm,Bt,Bu,Bn,Bo,Bi,Bp,Az,Bj,Br,Bq,A9,Bv,Bg,Bk,List.map,Av,Aw,Ae,Ai,List.replicate,Ar,Au,A0,true_and]
  refine Wb hL1 p0 fun a1 H₂ e2 n2 v2=>?_
  (try dsimp only);(try simp (disch:=first|decide|omega) only[Zb,Zc,Zd,Ze,Zf,Zg,Zh,Zi,Zj,Zk,Zl,Zm,Zn,Zo,Zp,Zq,Zr,Zs,Zt,Zu,Zv,Zw,Zx,Zy,Zz,Z0,Z1,Z2,Z3,Z4,Z5,Z6,Z7,Z8,Z9,Bb,Bf,Bc,Bl,Ba,Bm,Bt,Bu,Bn,Bo,Bi,Bp,Az,Bj,Br,Bq,A9,Bv,Bg,Bk,List.map,Av,Aw,Ae,Ai,List.replicate,Ar,Au,A0,true_and])
  try simp (disch:=first|decide|omega) only[Z9]
  rw[Bz (hL1.ext e2) (show 0<=p-1 by omega) hp2]
  refine Ac fun b1 H₃ e3 n3 v3=>?_
  (try dsimp only);(try simp (disch:=first|decide|omega) only[Zb,Zc,Zd,Ze,Zf,Zg,Zh,Zi,Zj,Zk,Zl,Zm,Zn,Zo,Zp,Zq,Zr,Zs,Zt,Zu,Zv,Zw,Zx,Zy,Zz,Z0,Z1,Z2,Z3,Z4,Z5,Z6,Z7,Z8,Z9,Bb,Bf,Bc,Bl,Ba,Bm,Bt,Bu,Bn,Bo,Bi,Bp,Az,Bj,Br,Bq,A9,Bv,Bg,Bk,List.map,Av,Aw,Ae,Ai,List.replicate,Ar,Au,A0,true_and])
  refine P4 (l':=[y]) (v2.ext e3) v3 (by simp;omega) fun a2 H₄ e4 n4 v4=>?_
  (try dsimp only);(try simp (disch:=first|decide|omega) only[Zb,Zc,Zd,Ze,Zf,Zg,Zh,Zi,Zj,Zk,Zl,Zm,Zn,Zo,Zp,Zq,Zr,Zs,Zt,Zu,Zv,Zw,Zx,Zy,Zz,Z0,Z1,Z2,Z3,Z4,Z5,Z6,Z7,Z8,Z9,Bb,Bf,Bc,Bl,Ba,Bm,Bt,Bu,Bn,Bo,Bi,Bp,Az,Bj,Br,Bq,A9,Bv,Bg,Bk,List.map,Av,Aw,Ae,Ai,List.replicate,Ar,Au,A0,true_and])
  try simp (disch:=first|decide|omega) only[Z8]
  have e14:=(e2.trans e3).trans e4
  refine Abm (hL1.ext e14) (show 0<=p+1 by omega) fun a3 H₅ e5 n5 v5=>?_
  have hll:(o.take p.toNat ++ [y]).length+(o.drop (p+1).toNat).length<=61:=by
   rw[List.length_append,List.length_take,List.length_drop];simp;omega
  refine P4 (v4.ext e5) v5 (by omega) fun a4 H₆ e6 n6 v6=>q1 a4 _ H₆ ((e14.trans e5).trans e6) ((e14.trans e5).isNone n6) v6 ?_
  rw[List.length_append];exact hll
 rw[Z2,Z3]
 refine Ci (decide (d=2)&&decide (p<(o.length:Int))) (fun Q' h'=>?_) ?_
 ·simp (disch:=first|decide|omega) only[Zb,Zc,Zd,Ze,Zf,Zg,Zh,Zi,Zj,Zk,Zl,Zm,Zn,Zo,Zp,Zq,Zr,Zs,Zt,Zu,Zv,Zw,Zx,Zy,Zz,Z0,Z1,Z2,Z3,Z4,Z5,Z6,Z7,Z8,Z9,Bb,Bf,Bc,Bl,Ba,Bm,Bt,Bu,Bn,Bo,Bi,Bp,Az,Bj,Br,Bq,A9,Bv,Bg,Bk,List.map,Av,Aw,Ae,Ai,List.replicate,Ar,Au,A0,true_and,Dg hL1]
  rw[List.length_map]
  split
  ·rename_i h;rw[h,Bool.true_and]at h';exact h'
  ·rename_i h;rw[Bool.not_eq_true]at h;rw[h,Bool.false_and]at h';exact h'
 split
 ·rw[Z3]
  simp (disch:=first|decide|omega) only[Zb,Zc,Zd,Ze,Zf,Zg,Zh,Zi,Zj,Zk,Zl,Zm,Zn,Zo,Zp,Zq,Zr,Zs,Zt,Zu,Zv,Zw,Zx,Zy,Zz,Z0,Z1,Z2,Z3,Z4,Z5,Z6,Z7,Z8,Z9,Bb,Bf,Bc,Bl,Ba,Bm,Bt,Bu,Bn,Bo,Bi,Bp,Az,Bj,Br,Bq,A9,Bv,Bg,Bk,List.map,Av,Aw,Ae,Ai,List.replicate,Ar,Au,A0,true_and]
  exact Ahk hL1 hl p0 (by omega) q1
 rw[Z2,Z3]
 refine Ci (decide (d=3)&&decide ((o.length:Int)>2)) (fun Q' h'=>?_) ?_
 ·simp (disch:=first|decide|omega) only[Zb,Zc,Zd,Ze,Zf,Zg,Zh,Zi,Zj,Zk,Zl,Zm,Zn,Zo,Zp,Zq,Zr,Zs,Zt,Zu,Zv,Zw,Zx,Zy,Zz,Z0,Z1,Z2,Z3,Z4,Z5,Z6,Z7,Z8,Z9,Bb,Bf,Bc,Bl,Ba,Bm,Bt,Bu,Bn,Bo,Bi,Bp,Az,Bj,Br,Bq,A9,Bv,Bg,Bk,List.map,Av,Aw,Ae,Ai,List.replicate,Ar,Au,A0,true_and,Dg hL1]
  rw[List.length_map]
  split
  ·rename_i h;rw[h,Bool.true_and]at h';exact h'
  ·rename_i h;rw[Bool.not_eq_true]at h;rw[h,Bool.false_and]at h';exact h'
 split
 ·rw[Z3,Z0,Bx,J1]
  simp (disch:=first|decide|omega) only[Zb,Zc,Zd,Ze,Zf,Zg,Zh,Zi,Zj,Zk,Zl,Zm,Zn,Zo,Zp,Zq,Zr,Zs,Zt,Zu,Zv,Zw,Zx,Zy,Zz,Z0,Z1,Z2,Z3,Z4,Z5,Z6,Z7,Z8,Z9,Bb,Bf,Bc,Bl,Ba,Bm,Bt,Bu,Bn,Bo,Bi,Bp,Az,Bj,Br,Bq,A9,Bv,Bg,Bk,List.map,Av,Aw,Ae,Ai,List.replicate,Ar,Au,A0,true_and]
  rw[Lf hL1]
  refine⟨by simp[Cg];omega,?_⟩
  refine Cv (k:=0) (fun i acc H'=>(Hn fun(l:List Int)=>Fx (acc=l.map V.int) (Ak H₁ H') (l.length=i))) ⟨[],rfl,Ak.refl,rfl⟩ ?_ ?_
  ·rintro i x acc H' K hx ⟨l,rfl,e,hli⟩ hK
   rw[List.getElem?_map,List.getElem?_map]at hx
   obtain⟨v,hv,rfl⟩:=Option.map_eq_some_iff.mp hx
   obtain⟨y,hy,rfl⟩:=Option.map_eq_some_iff.mp hv
   refine⟨hL1.ext e,_,rfl,?_⟩
   simp (disch:=first|decide|omega) only[Zb,Zc,Zd,Ze,Zf,Zg,Zh,Zi,Zj,Zk,Zl,Zm,Zn,Zo,Zp,Zq,Zr,Zs,Zt,Zu,Zv,Zw,Zx,Zy,Zz,Z0,Z1,Z2,Z3,Z4,Z5,Z6,Z7,Z8,Z9,Bb,Bf,Bc,Bl,Ba,Bm,Bt,Bu,Bn,Bo,Bi,Bp,Az,Bj,Br,Bq,A9,Bv,Bg,Bk,List.map,Av,Aw,Ae,Ai,List.replicate,Ar,Au,A0,true_and,Ey]
   refine Ac fun b1 H₂ e2 n2 v2=>?_
   (try dsimp only);(try simp (disch:=first|decide|omega) only[Zb,Zc,Zd,Ze,Zf,Zg,Zh,Zi,Zj,Zk,Zl,Zm,Zn,Zo,Zp,Zq,Zr,Zs,Zt,Zu,Zv,Zw,Zx,Zy,Zz,Z0,Z1,Z2,Z3,Z4,Z5,Z6,Z7,Z8,Z9,Bb,Bf,Bc,Bl,Ba,Bm,Bt,Bu,Bn,Bo,Bi,Bp,Az,Bj,Br,Bq,A9,Bv,Bg,Bk,List.map,Av,Aw,Ae,Ai,List.replicate,Ar,Au,A0,true_and])
   refine Ac fun b2 H₃ e3 n3 v3=>?_
   (try dsimp only);(try simp (disch:=first|decide|omega) only[Zb,Zc,Zd,Ze,Zf,Zg,Zh,Zi,Zj,Zk,Zl,Zm,Zn,Zo,Zp,Zq,Zr,Zs,Zt,Zu,Zv,Zw,Zx,Zy,Zz,Z0,Z1,Z2,Z3,Z4,Z5,Z6,Z7,Z8,Z9,Bb,Bf,Bc,Bl,Ba,Bm,Bt,Bu,Bn,Bo,Bi,Bp,Az,Bj,Br,Bq,A9,Bv,Bg,Bk,List.map,Av,Aw,Ae,Ai,List.replicate,Ar,Au,A0,true_and])
   rw[Ahj v3 rfl]
   (try dsimp only);(try simp (disch:=first|decide|omega) only[Zb,Zc,Zd,Ze,Zf,Zg,Zh,Zi,Zj,Zk,Zl,Zm,Zn,Zo,Zp,Zq,Zr,Zs,Zt,Zu,Zv,Zw,Zx,Zy,Zz,Z0,Z1,Z2,Z3,Z4,Z5,Z6,Z7,Z8,Z9,Bb,Bf,Bc,Bl,Ba,Bm,Bt,Bu,Bn,Bo,Bi,Bp,Az,Bj,Br,Bq,A9,Bv,Bg,Bk,List.map,Av,Aw,Ae,Ai,List.replicate,Ar,Au,A0,true_and])
   rw[Afv]
   have hb:LI H₃ b1 [y,1]:=e3 _ _ v2
   have fin:∀u:Int,K (some (.int u)) H₃:=fun u=>hK _ _ ⟨l ++ [u],by simp,(e.trans e2).trans e3,by simp;omega⟩
   generalize ((_:Bool)||_)=t
   cases t with
   | true=>
     rw[Bz (x:= .int 1) hb (by decide) rfl]
     exact fin 1
   | false=>
     rw[Bz (x:= .int y) hb (by decide) rfl]
     exact fin y
  ·rintro acc H' ⟨l,rfl,e,hli⟩
   refine⟨hL1.ext e,?_⟩
   exact Ac fun a H₂ e2 n2 v2=>q1 a l H₂ (e.trans e2) (e.isNone n2) v2 (by rw[hli];simp;omega)
 rw[Z2,Z3]
 simp (disch:=first|decide|omega) only[Zb,Zc,Zd,Ze,Zf,Zg,Zh,Zi,Zj,Zk,Zl,Zm,Zn,Zo,Zp,Zq,Zr,Zs,Zt,Zu,Zv,Zw,Zx,Zy,Zz,Z0,Z1,Z2,Z3,Z4,Z5,Z6,Z7,Z8,Z9,Bb,Bf,Bc,Bl,Ba,Bm,Bt,Bu,Bn,Bo,Bi,Bp,Az,Bj,Br,Bq,A9,Bv,Bg,Bk,List.map,Av,Aw,Ae,Ai,List.replicate,Ar,Au,A0,true_and]
 exact Ahk hL1 hl p0 (Int.le_refl _) q1
set_option linter.all false
variable {G:Ax} {n:Nat} {H H' H₁ H₂:AH} {Q:Af} {E:EP} {C:CS} {ρ:Aj} {w m r nr a b:Nat} {A:Nat->Nat->Bool} {o l l':List Int} {k far:Int} {c:Dc}
theorem Afw{xs:List V}(h:H a=some (.list xs)):C7 (.ref a) .none (.int 0) (.int (-1)) H Q=An (.list (xs.drop 1).reverse) H Q:=by
 show Hm (H a) (fun xs=>none=(none:Option Int)/\(-1:Int) = -1/\(0:Int)=0/\An (.list (xs.drop 1).reverse) H Q)=_
 rw[h];exact propext ⟨fun q=>q.2.2.2,fun q=>⟨rfl,rfl,rfl,q⟩⟩
structure F07(G:Ax):Prop where
 fd:FD G
 many:G.fn "_law_many" = some Fp
 keyed:G.fn "_law_keyed" = some Fc
 untied:G.fn "_law_untied" = some Cu
 free:G.fn "_law_free" = some Gn
 order:G.fn "_law_order" = some Ez
 behind:G.fn "_law_behind" = some Dp
 hasGap:G.fn "_law_has_gap" = some Eb
 dues:G.fn "_law_dues" = some Jg
 within:G.fn "_law_within" = some Gm
 spoilt:G.fn "_law_spoilt" = some Eh
 law:G.fn "law" = some Ri
noncomputable def P5(H:AH)(rs:List Nat):Prop:=∀x∈rs,∃l:List Int,LI H x l/\l.length<=61
theorem P5.ext{rs:List Nat}(h:P5 H rs)(e:Ak H H'):P5 H' rs:=fun x hx=>by
 obtain⟨l,h1,h2⟩:=h x hx
 exact⟨l,h1.ext e,h2⟩
theorem Ahl{x:Nat}{p:Nat->Prop}{x1 x2 x3 x4:Nat}(h1:p x1)(h2:p x2)(h3:p x3)(h4:p x4)(hx:x∈[x1,x2,x3,x4]):p x:=by
 refine Aa fun nY=>?_
 rcases List.mem_cons.mp hx with rfl|hx
 ·refine nY ?_;clear nY
  exact h1
 rcases List.mem_cons.mp hx with rfl|hx
 ·refine nY ?_;clear nY
  exact h2
 rcases List.mem_cons.mp hx with rfl|hx
 ·refine nY ?_;clear nY
  exact h3
 refine nY ?_;clear nY
 rw[List.mem_singleton.mp hx];exact h4
theorem Afx(F:F07 G){D:AH}{hd lr:Nat}{rs:List Nat}{cl:Int}{r0 r1 r2 r6 r8:Option V}{N:Aj->AH->Prop}{xs:List V}{R:Af}(hm:m<=60)(hN:Dw D nr m A)(hW:Da D w m A)(hr:D lr=some (.list (rs.map V.ref)))(hok:P5 D rs)(hn:D hd=none)
 (e:Ak D H) (hh:H hd=some (.list xs)) (q:∀H',R (.bool true) H') :
 B0 G (Ad G (n+8)) [.for (.one 10) (.val (.var 7)) Hx,.ret (.cbool true)] [r0,r1,r2,some (.ref nr),some (.ref w),some (.int cl),r6,some (.ref lr),r8,some (.ref hd),none,none,none,none] H N R E:=by
 rw[Z3,D1,J1]
 simp (disch:=first|decide|omega) only[Zb,Zc,Zd,Ze,Zf,Zg,Zh,Zi,Zj,Zk,Zl,Zm,Zn,Zo,Zp,Zq,Zr,Zs,Zt,Zu,Zv,Zw,Zx,Zy,Zz,Z0,Z1,Z2,Z3,Z4,Z5,Z6,Z7,Z8,Z9,Bb,Bf,Bc,Bl,Ba,Bm,Bt,Bu,Bn,Bo,Bi,Bp,Az,Bj,Br,Bq,A9,Bv,Bg,Bk,List.map,Av,Aw,Ae,Ai,List.replicate,Ar,Au,A0,true_and]
 rw[Lf (e _ _ hr)]
 refine Gb (fun i ρ H₁=>(Ex5 fun(xs:List V) (r10 r11 r12 r13:Option V)=>Fx (ρ = [r0,r1,r2,some (.ref nr),some (.ref w),some (.int cl),r6,some (.ref lr),r8,some (.ref hd),r10,r11,r12,r13]) (Ak D H₁) (H₁ hd=some (.list xs)))) ⟨_,_,_,_,_,rfl,e,hh⟩ ?_ ?_ ?_
 ·rintro i ρ H₁ ⟨xs,r10,r11,r12,r13,_,e1,_⟩;exact e1 _ _ hr
 rotate_left
 ·rintro ρ H₁ hP45
  refine Aa fun nY=>?_
  obtain⟨xs,r10,r11,r12,r13,rfl,e1,_⟩:=hP45
  refine nY ?_;clear nY
  try simp (disch:=first|decide|omega) only[Zb,Zc,Zd,Ze,Zf,Zg,Zh,Zi,Zj,Zk,Zl,Zm,Zn,Zo,Zp,Zq,Zr,Zs,Zt,Zu,Zv,Zw,Zx,Zy,Zz,Z0,Z1,Z2,Z3,Z4,Z5,Z6,Z7,Z8,Z9,Bb,Bf,Bc,Bl,Ba,Bm,Bt,Bu,Bn,Bo,Bi,Bp,Az,Bj,Br,Bq,A9,Bv,Bg,Bk,List.map,Av,Aw,Ae,Ai,List.replicate,Ar,Au,A0,true_and]
  exact q _
 rintro i v ρ H₁ K hv hP46 hK
 refine Aa fun nY=>?_
 obtain⟨xs,r10,r11,r12,r13,rfl,e1,h1⟩:=hP46
 rw[List.getElem?_map]at hv
 obtain⟨y,hy,rfl⟩:=Option.map_eq_some_iff.mp hv
 obtain⟨l,hl,hll⟩:=hok y (List.mem_of_getElem? hy)
 have hdy:hd≠y:=fun z=>by unfold LI at hl;rw[<-z,hn]at hl;cases hl
 refine nY ?_;clear nY
 simp only[Hx,List.set_cons_succ,List.set_cons_zero]
 refine seq (fun ρ H₂=>(Hn fun du=>Xq (ρ = [r0,r1,r2,some (.ref nr),some (.ref w),some (.int cl),r6,some (.ref lr),r8,some (.ref hd),some (.ref y),some (.ref du),r12,r13]) (Ak D H₂) (H₂ hd=some (.list xs)) (du≠hd) (LI H₂ du [wd m A l 0,wd m A l 1,wd m A l 2,wd m A l 3]))) (fun N hN'=>?_) ?_
 ·simp (disch:=first|decide|omega) only[Zb,Zc,Zd,Ze,Zf,Zg,Zh,Zi,Zj,Zk,Zl,Zm,Zn,Zo,Zp,Zq,Zr,Zs,Zt,Zu,Zv,Zw,Zx,Zy,Zz,Z0,Z1,Z2,Z3,Z4,Z5,Z6,Z7,Z8,Z9,Bb,Bf,Bc,Bl,Ba,Bm,Bt,Bu,Bn,Bo,Bi,Bp,Az,Bj,Br,Bq,A9,Bv,Bg,Bk,List.map,Av,Aw,Ae,Ai,List.replicate,Ar,Au,A0,true_and,F.dues]
  refine Afu F.behind F.untied F.hasGap F.dues hm (hN.ext e1) (hl.ext e1) (by omega) fun du H₂ e2 n2 v2=>hN' _ _ ⟨du,rfl,e1.trans e2,e2 _ _ h1,fun z=>?_,v2⟩
  rw[z,h1]at n2;cases n2
 rintro _ H₂ hP47
 refine Aa fun nY=>?_
 obtain⟨du,rfl,e2,h2,hdu,v2⟩:=hP47
 refine nY ?_;clear nY
 rw[Z3,D1,Gg]
 simp (disch:=first|decide|omega) only[Zb,Zc,Zd,Ze,Zf,Zg,Zh,Zi,Zj,Zk,Zl,Zm,Zn,Zo,Zp,Zq,Zr,Zs,Zt,Zu,Zv,Zw,Zx,Zy,Zz,Z0,Z1,Z2,Z3,Z4,Z5,Z6,Z7,Z8,Z9,Bb,Bf,Bc,Bl,Ba,Bm,Bt,Bu,Bn,Bo,Bi,Bp,Az,Bj,Br,Bq,A9,Bv,Bg,Bk,List.map,Av,Aw,Ae,Ai,List.replicate,Ar,Au,A0,true_and]
 try rw[A9 (by omega) (by omega)]
 refine Dk (fun j ρ H₃=>(Tg fun(xs:List V) (r12 r13:Option V)=>Jy (ρ = [r0,r1,r2,some (.ref nr),some (.ref w),some (.int cl),r6,some (.ref lr),r8,some (.ref hd),some (.ref y),some (.ref du),r12,r13]) (Ak D H₃) (H₃ hd=some (.list xs)) (LI H₃ du [wd m A l 0,wd m A l 1,wd m A l 2,wd m A l 3]))) ⟨_,_,_,rfl,e2,h2,v2⟩ ?_ ?_
 rotate_left
 ·rintro ρ H₃ hP48
  refine Aa fun nY=>?_
  obtain⟨xs,r12,r13,rfl,e3,h3,_⟩:=hP48
  refine nY ?_;clear nY
  exact hK _ _ ⟨_,_,_,_,_,rfl,e3,h3⟩
 rintro j ρ H₃ K' hj hP49 hK'
 refine Aa fun nY=>?_
 obtain⟨xs,r12,r13,rfl,e3,h3,v3⟩:=hP49
 refine nY ?_;clear nY
 simp only[L0,List.set_cons_succ,List.set_cons_zero]
 refine seq (fun ρ H₄=>(Hn fun(kk:Int)=>Jy (ρ = [r0,r1,r2,some (.ref nr),some (.ref w),some (.int cl),r6,some (.ref lr),r8,some (.ref hd),some (.ref y),some (.ref du),some (.int j),some (.int kk)]) (H₃=H₄) (0<=kk) (kk<4))) (fun N hN'=>?_) ?_
 ·simp (disch:=first|decide|omega) only[Zb,Zc,Zd,Ze,Zf,Zg,Zh,Zi,Zj,Zk,Zl,Zm,Zn,Zo,Zp,Zq,Zr,Zs,Zt,Zu,Zv,Zw,Zx,Zy,Zz,Z0,Z1,Z2,Z3,Z4,Z5,Z6,Z7,Z8,Z9,Bb,Bf,Bc,Bl,Ba,Bm,Bt,Bu,Bn,Bo,Bi,Bp,Az,Bj,Br,Bq,A9,Bv,Bg,Bk,List.map,Av,Aw,Ae,Ai,List.replicate,Ar,Au,A0,true_and]
  exact hN' _ _ ⟨_,rfl,rfl,Int.emod_nonneg _ (by decide),Int.emod_lt_of_pos _ (by decide)⟩
 rintro _ _ hP50
 refine Aa fun nY=>?_
 obtain⟨kk,rfl,rfl,k0,k4⟩:=hP50
 refine nY ?_;clear nY
 rw[Z3]
 simp (disch:=first|decide|omega) only[Zb,Zc,Zd,Ze,Zf,Zg,Zh,Zi,Zj,Zk,Zl,Zm,Zn,Zo,Zp,Zq,Zr,Zs,Zt,Zu,Zv,Zw,Zx,Zy,Zz,Z0,Z1,Z2,Z3,Z4,Z5,Z6,Z7,Z8,Z9,Bb,Bf,Bc,Bl,Ba,Bm,Bt,Bu,Bn,Bo,Bi,Bp,Az,Bj,Br,Bq,A9,Bv,Bg,Bk,List.map,Av,Aw,Ae,Ai,List.replicate,Ar,Au,A0,true_and,Cq,Cp h3,Adl h3]
 have hc4:upd H₃ hd (.list []) hd=some (.list []):=Ab
 have e4:Ak D (upd H₃ hd (.list [])):=e3.upd' hn
 have v4:LI (upd H₃ hd (.list [])) du [wd m A l 0,wd m A l 1,wd m A l 2,wd m A l 3]:=by unfold LI;rw[upd_ne hdu];exact v3
 generalize upd H₃ hd (.list [])=H₄ at *
 have hl4:=hl.ext e4
 simp (disch:=first|decide|omega) only[Zb,Zc,Zd,Ze,Zf,Zg,Zh,Zi,Zj,Zk,Zl,Zm,Zn,Zo,Zp,Zq,Zr,Zs,Zt,Zu,Zv,Zw,Zx,Zy,Zz,Z0,Z1,Z2,Z3,Z4,Z5,Z6,Z7,Z8,Z9,Bb,Bf,Bc,Bl,Ba,Bm,Bt,Bu,Bn,Bo,Bi,Bp,Az,Bj,Br,Bq,A9,Bv,Bg,Bk,List.map,Av,Aw,Ae,Ai,List.replicate,Ar,Au,A0,true_and,Cq,Cp hc4,Aa3 hc4 hl4 hdy (show ([]:List V).length+(l.map V.int).length<=1048576 by simp;omega)]
 have hc5:LI (upd H₄ hd (.list ([]++l.map V.int))) hd l:=Ab
 have e5:Ak D (upd H₄ hd (.list ([]++l.map V.int))):=e4.upd' hn
 have v5:LI (upd H₄ hd (.list ([]++l.map V.int))) du [wd m A l 0,wd m A l 1,wd m A l 2,wd m A l 3]:=by unfold LI;rw[upd_ne hdu];exact v4
 try simp only[List.nil_append]at *
 generalize upd H₄ hd (.list (l.map V.int))=H₅ at *
 have hat:([wd m A l 0,wd m A l 1,wd m A l 2,wd m A l 3].map V.int)[kk.toNat]? = some (.int (wd m A l kk)):=by
  have:kk=0\/kk=1\/kk=2\/kk=3:=by omega
  rcases this with rfl|rfl|rfl|rfl<;>rfl
 rw[Za]
 simp (disch:=first|decide|omega) only[Zb,Zc,Zd,Ze,Zf,Zg,Zh,Zi,Zj,Zk,Zl,Zm,Zn,Zo,Zp,Zq,Zr,Zs,Zt,Zu,Zv,Zw,Zx,Zy,Zz,Z0,Z1,Z2,Z3,Z4,Z5,Z6,Z7,Z8,Z9,Bb,Bf,Bc,Bl,Ba,Bm,Bt,Bu,Bn,Bo,Bi,Bp,Az,Bj,Br,Bq,A9,Bv,Bg,Bk,List.map,Av,Aw,Ae,Ai,List.replicate,Ar,Au,A0,true_and,F.fd.word]
 refine Afs F.fd hm (hW.ext e5) hc5 (by omega) ⟨k0,k4⟩ fun H₆ e6=>?_
 have e56:=e5.trans e6
 have v6:=v5.ext e6
 have c6:=hc5.ext e6
 clear v2 v3 v4 v5 e2 e3 e4 e5 e6 h2 h3 hc4 hc5 hl4 e1 h1
 (try dsimp only);(try simp (disch:=first|decide|omega) only[Zb,Zc,Zd,Ze,Zf,Zg,Zh,Zi,Zj,Zk,Zl,Zm,Zn,Zo,Zp,Zq,Zr,Zs,Zt,Zu,Zv,Zw,Zx,Zy,Zz,Z0,Z1,Z2,Z3,Z4,Z5,Z6,Z7,Z8,Z9,Bb,Bf,Bc,Bl,Ba,Bm,Bt,Bu,Bn,Bo,Bi,Bp,Az,Bj,Br,Bq,A9,Bv,Bg,Bk,List.map,Av,Aw,Ae,Ai,List.replicate,Ar,Au,A0,true_and])
 rw[Bz v6 k0 hat]
 (try dsimp only);(try simp (disch:=first|decide|omega) only[Zb,Zc,Zd,Ze,Zf,Zg,Zh,Zi,Zj,Zk,Zl,Zm,Zn,Zo,Zp,Zq,Zr,Zs,Zt,Zu,Zv,Zw,Zx,Zy,Zz,Z0,Z1,Z2,Z3,Z4,Z5,Z6,Z7,Z8,Z9,Bb,Bf,Bc,Bl,Ba,Bm,Bt,Bu,Bn,Bo,Bi,Bp,Az,Bj,Br,Bq,A9,Bv,Bg,Bk,List.map,Av,Aw,Ae,Ai,List.replicate,Ar,Au,A0,true_and])
 simp only[decide_true,Bool.not_true,Bool.false_eq_true,if_false]
 rw[Ad4 c6 (hl.ext e56),decide_eq_true rfl]
 (try dsimp only);(try simp (disch:=first|decide|omega) only[Zb,Zc,Zd,Ze,Zf,Zg,Zh,Zi,Zj,Zk,Zl,Zm,Zn,Zo,Zp,Zq,Zr,Zs,Zt,Zu,Zv,Zw,Zx,Zy,Zz,Z0,Z1,Z2,Z3,Z4,Z5,Z6,Z7,Z8,Z9,Bb,Bf,Bc,Bl,Ba,Bm,Bt,Bu,Bn,Bo,Bi,Bp,Az,Bj,Br,Bq,A9,Bv,Bg,Bk,List.map,Av,Aw,Ae,Ai,List.replicate,Ar,Au,A0,true_and])
 simp only[Bool.not_true,Bool.false_eq_true,if_false]
 try rw[Za]
 simp (disch:=first|decide|omega) only[Zb,Zc,Zd,Ze,Zf,Zg,Zh,Zi,Zj,Zk,Zl,Zm,Zn,Zo,Zp,Zq,Zr,Zs,Zt,Zu,Zv,Zw,Zx,Zy,Zz,Z0,Z1,Z2,Z3,Z4,Z5,Z6,Z7,Z8,Z9,Bb,Bf,Bc,Bl,Ba,Bm,Bt,Bu,Bn,Bo,Bi,Bp,Az,Bj,Br,Bq,A9,Bv,Bg,Bk,List.map,Av,Aw,Ae,Ai,List.replicate,Ar,Au,A0,true_and,Bz v6 k0 hat]
 refine Aa fun nY=>?_
 by_cases hw:wd m A l kk>0
 ·refine nY ?_;clear nY
  rw[decide_eq_true hw]
  simp only[if_true]
  simp (disch:=first|decide|omega) only[Zb,Zc,Zd,Ze,Zf,Zg,Zh,Zi,Zj,Zk,Zl,Zm,Zn,Zo,Zp,Zq,Zr,Zs,Zt,Zu,Zv,Zw,Zx,Zy,Zz,Z0,Z1,Z2,Z3,Z4,Z5,Z6,Z7,Z8,Z9,Bb,Bf,Bc,Bl,Ba,Bm,Bt,Bu,Bn,Bo,Bi,Bp,Az,Bj,Br,Bq,A9,Bv,Bg,Bk,List.map,Av,Aw,Ae,Ai,List.replicate,Ar,Au,A0,true_and,F.fd.byBase,Bz v6 k0 hat]
  refine Ut F.fd hm (hW.ext e56) c6 (by omega) ⟨k0,k4⟩ hw fun H₇ e7=>?_
  (try dsimp only);(try simp (disch:=first|decide|omega) only[Zb,Zc,Zd,Ze,Zf,Zg,Zh,Zi,Zj,Zk,Zl,Zm,Zn,Zo,Zp,Zq,Zr,Zs,Zt,Zu,Zv,Zw,Zx,Zy,Zz,Z0,Z1,Z2,Z3,Z4,Z5,Z6,Z7,Z8,Z9,Bb,Bf,Bc,Bl,Ba,Bm,Bt,Bu,Bn,Bo,Bi,Bp,Az,Bj,Br,Bq,A9,Bv,Bg,Bk,List.map,Av,Aw,Ae,Ai,List.replicate,Ar,Au,A0,true_and])
  simp only[Bool.not_true,Bool.false_eq_true,if_false]
  try simp (disch:=first|decide|omega) only[Zb,Zc,Zd,Ze,Zf,Zg,Zh,Zi,Zj,Zk,Zl,Zm,Zn,Zo,Zp,Zq,Zr,Zs,Zt,Zu,Zv,Zw,Zx,Zy,Zz,Z0,Z1,Z2,Z3,Z4,Z5,Z6,Z7,Z8,Z9,Bb,Bf,Bc,Bl,Ba,Bm,Bt,Bu,Bn,Bo,Bi,Bp,Az,Bj,Br,Bq,A9,Bv,Bg,Bk,List.map,Av,Aw,Ae,Ai,List.replicate,Ar,Au,A0,true_and]
  exact hK' _ _ ⟨_,_,_,rfl,e56.trans e7,e7 _ _ c6,v6.ext e7⟩
 ·refine nY ?_;clear nY
  rw[decide_eq_false hw]
  simp only[Bool.false_eq_true,if_false]
  try simp (disch:=first|decide|omega) only[Zb,Zc,Zd,Ze,Zf,Zg,Zh,Zi,Zj,Zk,Zl,Zm,Zn,Zo,Zp,Zq,Zr,Zs,Zt,Zu,Zv,Zw,Zx,Zy,Zz,Z0,Z1,Z2,Z3,Z4,Z5,Z6,Z7,Z8,Z9,Bb,Bf,Bc,Bl,Ba,Bm,Bt,Bu,Bn,Bo,Bi,Bp,Az,Bj,Br,Bq,A9,Bv,Bg,Bk,List.map,Av,Aw,Ae,Ai,List.replicate,Ar,Au,A0,true_and]
  exact hK' _ _ ⟨_,_,_,rfl,e56,c6,v6⟩
set_option linter.all false
variable {G:Ax} {n:Nat} {H H' H₁ H₂:AH} {Q:Af} {E:EP} {C:CS} {ρ:Aj} {w m r nr a b:Nat} {A:Nat->Nat->Bool} {o l l':List Int} {k far:Int} {c:Dc}
theorem Afy(F:F07 G){ns:List Int}(H:AH):Ad G (n+9) "law" [.script ns] H (fun v _=>v = .bool true) E:=by
 have F1:=F.fd.f2.fns
 have B:=F1.base
 refine Ag F.law rfl ?_
 simp only[Ri,List.map,List.replicate,List.cons_append,List.nil_append]
 refine seq (fun ρ H₁=>(Hn fun(m:Nat)=>Fx (m<=60) (ρ = [some (.script ns),some (.int m),none,none,none,none,none,none,none,none,none,none,none,none]) (H=H₁))) (fun N hN=>?_) ?_
 ·simp (disch:=first|decide|omega) only[Zb,Zc,Zd,Ze,Zf,Zg,Zh,Zi,Zj,Zk,Zl,Zm,Zn,Zo,Zp,Zq,Zr,Zs,Zt,Zu,Zv,Zw,Zx,Zy,Zz,Z0,Z1,Z2,Z3,Z4,Z5,Z6,Z7,Z8,Z9,Bb,Bf,Bc,Bl,Ba,Bm,Bt,Bu,Bn,Bo,Bi,Bp,Az,Bj,Br,Bq,A9,Bv,Bg,Bk,List.map,Av,Aw,Ae,Ai,List.replicate,Ar,Au,A0,true_and,F.many]
  exact Afd B.cellAt F.many fun m hm=>hN _ _ ⟨m,hm,rfl,rfl⟩
 rintro _ _ ⟨m,hm,rfl,rfl⟩
 refine seq (fun ρ H₂=>(Tg fun(t:Nat) (ts:List Nat) (ps:List (Int×Int))=>Jy (ρ = [some (.script ns),some (.int m),some (.ref t),none,none,none,none,none,none,none,none,none,none,none]) (H₂ t=some (.list (ts.map V.ref))) (Ay H₂ ts ps) (Eo m ps))) (fun N hN=>?_) ?_
 ·simp (disch:=first|decide|omega) only[Zb,Zc,Zd,Ze,Zf,Zg,Zh,Zi,Zj,Zk,Zl,Zm,Zn,Zo,Zp,Zq,Zr,Zs,Zt,Zu,Zv,Zw,Zx,Zy,Zz,Z0,Z1,Z2,Z3,Z4,Z5,Z6,Z7,Z8,Z9,Bb,Bf,Bc,Bl,Ba,Bm,Bt,Bu,Bn,Bo,Bi,Bp,Az,Bj,Br,Bq,A9,Bv,Bg,Bk,List.map,Av,Aw,Ae,Ai,List.replicate,Ar,Au,A0,true_and,B.ties,B.rows]
  refine Afe B hm fun a as rows H₁ e _ h1 h2 h3=>?_
  exact Afg B hm h1 h2 h3 fun t ts ps H₂ e _ h1 h2 h4 _=>hN _ _ ⟨t,ts,ps,rfl,h1,h2,Adm h3 h4⟩
 rintro _ H₂ ⟨t,ts,ps,rfl,hT,hP,hgood⟩
 have g:=Ahh hgood
 refine seq (fun ρ H₃=>(Hn fun(nr:Nat)=>Fx (ρ = [some (.script ns),some (.int m),some (.ref t),some (.ref nr),none,none,none,none,none,none,none,none,none,none]) (Ak H₂ H₃) (Dw H₃ nr m (Jw ps)))) (fun N hN=>?_) ?_
 ·simp (disch:=first|decide|omega) only[Zb,Zc,Zd,Ze,Zf,Zg,Zh,Zi,Zj,Zk,Zl,Zm,Zn,Zo,Zp,Zq,Zr,Zs,Zt,Zu,Zv,Zw,Zx,Zy,Zz,Z0,Z1,Z2,Z3,Z4,Z5,Z6,Z7,Z8,Z9,Bb,Bf,Bc,Bl,Ba,Bm,Bt,Bu,Bn,Bo,Bi,Bp,Az,Bj,Br,Bq,A9,Bv,Bg,Bk,List.map,Av,Aw,Ae,Ai,List.replicate,Ar,Au,A0,true_and,B.near]
  exact Afi B hm hT hP hgood fun x H₃ e _ h=>hN _ _ ⟨x,rfl,e,h⟩
 rintro _ H₃ ⟨nr,rfl,e3,hNear⟩
 refine seq (fun ρ H₄=>(Hn fun(w:Nat)=>Fx (ρ = [some (.script ns),some (.int m),some (.ref t),some (.ref nr),some (.ref w),none,none,none,none,none,none,none,none,none]) (Dw H₄ nr m (Jw ps)) (Da H₄ w m (Jw ps)))) (fun N hN=>?_) ?_
 ·simp (disch:=first|decide|omega) only[Zb,Zc,Zd,Ze,Zf,Zg,Zh,Zi,Zj,Zk,Zl,Zm,Zn,Zo,Zp,Zq,Zr,Zs,Zt,Zu,Zv,Zw,Zx,Zy,Zz,Z0,Z1,Z2,Z3,Z4,Z5,Z6,Z7,Z8,Z9,Bb,Bf,Bc,Bl,Ba,Bm,Bt,Bu,Bn,Bo,Bi,Bp,Az,Bj,Br,Bq,A9,Bv,Bg,Bk,List.map,Av,Aw,Ae,Ai,List.replicate,Ar,Au,A0,true_and,B.webOf,Qx (e3 _ _ hT)]
  refine Ac fun t' H₄ e4 _ v4=>?_
  exact Adh B hm v4 (hP.ext (e3.trans e4)) hgood fun w H₅ e5 _ h=>hN _ _ ⟨w,rfl,hNear.ext (e4.trans e5),h⟩
 rintro _ H₄ ⟨w,rfl,hN4,hW4⟩
 clear hNear hT hP e3
 generalize Jw ps=A at *
 refine seq (fun ρ H₅=>∃cl:Int,ρ = [some (.script ns),some (.int m),some (.ref t),some (.ref nr),some (.ref w),some (.int cl),none,none,none,none,none,none,none,none]/\H₄=H₅) (fun N hN=>?_) ?_
 ·simp (disch:=first|decide|omega) only[Zb,Zc,Zd,Ze,Zf,Zg,Zh,Zi,Zj,Zk,Zl,Zm,Zn,Zo,Zp,Zq,Zr,Zs,Zt,Zu,Zv,Zw,Zx,Zy,Zz,Z0,Z1,Z2,Z3,Z4,Z5,Z6,Z7,Z8,Z9,Bb,Bf,Bc,Bl,Ba,Bm,Bt,Bu,Bn,Bo,Bi,Bp,Az,Bj,Br,Bq,A9,Bv,Bg,Bk,List.map,Av,Aw,Ae,Ai,List.replicate,Ar,Au,A0,true_and,B.mixed,B.cellAt]
  refine De B.cellAt (by decide) ?_
  exact Mt B.mixed fun c _ _=>hN _ _ ⟨c,rfl,rfl⟩
 rintro _ _ ⟨cl,rfl,rfl⟩
 refine seq (fun ρ H₅=>(Hn fun v6=>Fx (ρ = [some (.script ns),some (.int m),some (.ref t),some (.ref nr),some (.ref w),some (.int cl),some v6,none,none,none,none,none,none,none]) (Ak H₄ H₅) ((v6 = .none\/(Ho fun(od:Nat) (o:List Int)=>Fx (v6 = .ref od) (LI H₅ od o) (o.length<=60)))))) (fun N hN=>?_) ?_
 ·simp (disch:=first|decide|omega) only[Zb,Zc,Zd,Ze,Zf,Zg,Zh,Zi,Zj,Zk,Zl,Zm,Zn,Zo,Zp,Zq,Zr,Zs,Zt,Zu,Zv,Zw,Zx,Zy,Zz,Z0,Z1,Z2,Z3,Z4,Z5,Z6,Z7,Z8,Z9,Bb,Bf,Bc,Bl,Ba,Bm,Bt,Bu,Bn,Bo,Bi,Bp,Az,Bj,Br,Bq,A9,Bv,Bg,Bk,List.map,Av,Aw,Ae,Ai,List.replicate,Ar,Au,A0,true_and,F.order]
  exact Adp B F.keyed F.untied F.free F.order g hm hN4 (fun H₅ e5=>hN _ _ ⟨_,rfl,e5,.inl rfl⟩) fun b o H₅ e5 _ v5 h1 _=>hN _ _ ⟨_,rfl,e5,.inr ⟨b,o,rfl,v5,by rw[h1.len];exact hm⟩⟩
 rintro _ H₅ ⟨v6,rfl,e5,h6⟩
 have kd:∀ {N:Aj->AH->Prop} {R:Af},(∀od o H',Ak H₅ H'->LI H' od o->o.length<=60->N [some (.script ns),some (.int m),some (.ref t),some (.ref nr),some (.ref w),some (.int cl),some (.ref od),none,none,none,none,none,none,none] H')->
  B0 G (Ad G (n+8)) [.assign 6 (.call "_law_keyed" [(.var 0),(.var 1)])] [some (.script ns),some (.int m),some (.ref t),some (.ref nr),some (.ref w),some (.int cl),some v6,none,none,none,none,none,none,none] H₅ N R E:=fun k=>by
  rw[Z3]
  simp (disch:=first|decide|omega) only[Zb,Zc,Zd,Ze,Zf,Zg,Zh,Zi,Zj,Zk,Zl,Zm,Zn,Zo,Zp,Zq,Zr,Zs,Zt,Zu,Zv,Zw,Zx,Zy,Zz,Z0,Z1,Z2,Z3,Z4,Z5,Z6,Z7,Z8,Z9,Bb,Bf,Bc,Bl,Ba,Bm,Bt,Bu,Bn,Bo,Bi,Bp,Az,Bj,Br,Bq,A9,Bv,Bg,Bk,List.map,Av,Aw,Ae,Ai,List.replicate,Ar,Au,A0,true_and,F.keyed]
  exact V8 B F.keyed hm fun a l H' e _ v hp=>k a l H' e v (by rw[hp.length_eq];unfold B8 Lg;simp;exact hm)
 refine seq (fun ρ H₆=>(Ho fun(od:Nat) (o:List Int)=>Jy (ρ = [some (.script ns),some (.int m),some (.ref t),some (.ref nr),some (.ref w),some (.int cl),some (.ref od),none,none,none,none,none,none,none]) (Ak H₅ H₆) (LI H₆ od o) (o.length<=60))) (fun N hN=>?_) ?_
 ·rcases h6 with rfl | ⟨od,o,rfl,vo,hol⟩
  ·refine Ci true (fun Q' h'=>?_) ?_
   ·simp (disch:=first|decide|omega) only[Zb,Zc,Zd,Ze,Zf,Zg,Zh,Zi,Zj,Zk,Zl,Zm,Zn,Zo,Zp,Zq,Zr,Zs,Zt,Zu,Zv,Zw,Zx,Zy,Zz,Z0,Z1,Z2,Z3,Z4,Z5,Z6,Z7,Z8,Z9,Bb,Bf,Bc,Bl,Ba,Bm,Bt,Bu,Bn,Bo,Bi,Bp,Az,Bj,Br,Bq,A9,Bv,Bg,Bk,List.map,Av,Aw,Ae,Ai,List.replicate,Ar,Au,A0,true_and]
    try simp only[if_true]
    exact h'
   rw[if_pos rfl]
   exact kd (R:=fun v _=>v = .bool true) fun od o H' e v hl=>hN _ _ ⟨od,o,rfl,e,v,hl⟩
  ·refine Ci (decide (cl%2=1)) (fun Q' h'=>?_) ?_
   ·simp (disch:=first|decide|omega) only[Zb,Zc,Zd,Ze,Zf,Zg,Zh,Zi,Zj,Zk,Zl,Zm,Zn,Zo,Zp,Zq,Zr,Zs,Zt,Zu,Zv,Zw,Zx,Zy,Zz,Z0,Z1,Z2,Z3,Z4,Z5,Z6,Z7,Z8,Z9,Bb,Bf,Bc,Bl,Ba,Bm,Bt,Bu,Bn,Bo,Bi,Bp,Az,Bj,Br,Bq,A9,Bv,Bg,Bk,List.map,Av,Aw,Ae,Ai,List.replicate,Ar,Au,A0,true_and]
    try simp only[Bool.false_eq_true,if_false]
    try simp (disch:=first|decide|omega) only[Zb,Zc,Zd,Ze,Zf,Zg,Zh,Zi,Zj,Zk,Zl,Zm,Zn,Zo,Zp,Zq,Zr,Zs,Zt,Zu,Zv,Zw,Zx,Zy,Zz,Z0,Z1,Z2,Z3,Z4,Z5,Z6,Z7,Z8,Z9,Bb,Bf,Bc,Bl,Ba,Bm,Bt,Bu,Bn,Bo,Bi,Bp,Az,Bj,Br,Bq,A9,Bv,Bg,Bk,List.map,Av,Aw,Ae,Ai,List.replicate,Ar,Au,A0,true_and]
    exact h'
   split
   ·exact kd (R:=fun v _=>v = .bool true) fun od o H' e v hl=>hN _ _ ⟨od,o,rfl,e,v,hl⟩
   ·rw[Z2]
    exact hN _ _ ⟨od,o,rfl,Ak.refl,vo,hol⟩
 rintro _ H₆ ⟨od,o,rfl,e6,vo,hol⟩
 clear kd h6
 have e46:=e5.trans e6
 refine seq (fun ρ H₇=>(Ho fun(lr:Nat) (rs:List Nat)=>Jy (ρ = [some (.script ns),some (.int m),some (.ref t),some (.ref nr),some (.ref w),some (.int cl),some (.ref od),some (.ref lr),none,none,none,none,none,none]) (Ak H₆ H₇) (H₇ lr=some (.list (rs.map V.ref))) (P5 H₇ rs))) (fun N hN=>?_) ?_
 ·simp (disch:=first|decide|omega) only[Zb,Zc,Zd,Ze,Zf,Zg,Zh,Zi,Zj,Zk,Zl,Zm,Zn,Zo,Zp,Zq,Zr,Zs,Zt,Zu,Zv,Zw,Zx,Zy,Zz,Z0,Z1,Z2,Z3,Z4,Z5,Z6,Z7,Z8,Z9,Bb,Bf,Bc,Bl,Ba,Bm,Bt,Bu,Bn,Bo,Bi,Bp,Az,Bj,Br,Bq,A9,Bv,Bg,Bk,List.map,Av,Aw,Ae,Ai,List.replicate,Ar,Au,A0,true_and,F.within]
  refine Abl F.within vo hol fun wi lw H₇ e7 n7 v7 hlw=>?_
  (try dsimp only);(try simp (disch:=first|decide|omega) only[Zb,Zc,Zd,Ze,Zf,Zg,Zh,Zi,Zj,Zk,Zl,Zm,Zn,Zo,Zp,Zq,Zr,Zs,Zt,Zu,Zv,Zw,Zx,Zy,Zz,Z0,Z1,Z2,Z3,Z4,Z5,Z6,Z7,Z8,Z9,Bb,Bf,Bc,Bl,Ba,Bm,Bt,Bu,Bn,Bo,Bi,Bp,Az,Bj,Br,Bq,A9,Bv,Bg,Bk,List.map,Av,Aw,Ae,Ai,List.replicate,Ar,Au,A0,true_and])
  refine Wb (vo.ext e7) (by decide) fun a1 H₈ e8 n8 v8=>?_
  (try dsimp only);(try simp (disch:=first|decide|omega) only[Zb,Zc,Zd,Ze,Zf,Zg,Zh,Zi,Zj,Zk,Zl,Zm,Zn,Zo,Zp,Zq,Zr,Zs,Zt,Zu,Zv,Zw,Zx,Zy,Zz,Z0,Z1,Z2,Z3,Z4,Z5,Z6,Z7,Z8,Z9,Bb,Bf,Bc,Bl,Ba,Bm,Bt,Bu,Bn,Bo,Bi,Bp,Az,Bj,Br,Bq,A9,Bv,Bg,Bk,List.map,Av,Aw,Ae,Ai,List.replicate,Ar,Au,A0,true_and])
  rw[Afw ((vo.ext e7).ext e8)]
  refine Ac fun a2 H₉ e9 n9 v9=>?_
  (try dsimp only);(try simp (disch:=first|decide|omega) only[Zb,Zc,Zd,Ze,Zf,Zg,Zh,Zi,Zj,Zk,Zl,Zm,Zn,Zo,Zp,Zq,Zr,Zs,Zt,Zu,Zv,Zw,Zx,Zy,Zz,Z0,Z1,Z2,Z3,Z4,Z5,Z6,Z7,Z8,Z9,Bb,Bf,Bc,Bl,Ba,Bm,Bt,Bu,Bn,Bo,Bi,Bp,Az,Bj,Br,Bq,A9,Bv,Bg,Bk,List.map,Av,Aw,Ae,Ai,List.replicate,Ar,Au,A0,true_and])
  have v9':LI H₉ a2 (o.drop 1).reverse:=by unfold LI;rw[v9,<-List.map_drop,List.map_reverse]
  have hla:(o.take (1:Int).toNat).length+(o.drop 1).reverse.length<=61:=by
   rw[List.length_take,List.length_reverse,List.length_drop];omega
  refine P4 (v8.ext e9) v9' (by omega) fun a3 H₁₀ e10 n10 v10=>?_
  (try dsimp only);(try simp (disch:=first|decide|omega) only[Zb,Zc,Zd,Ze,Zf,Zg,Zh,Zi,Zj,Zk,Zl,Zm,Zn,Zo,Zp,Zq,Zr,Zs,Zt,Zu,Zv,Zw,Zx,Zy,Zz,Z0,Z1,Z2,Z3,Z4,Z5,Z6,Z7,Z8,Z9,Bb,Bf,Bc,Bl,Ba,Bm,Bt,Bu,Bn,Bo,Bi,Bp,Az,Bj,Br,Bq,A9,Bv,Bg,Bk,List.map,Av,Aw,Ae,Ai,List.replicate,Ar,Au,A0,true_and])
  have e69:=((e7.trans e8).trans e9).trans e10
  refine Ac fun lr H₁₁ e11 n11 v11=>hN _ _ ⟨lr,[od,wi,a3,od],rfl,e69.trans e11,v11,fun x hx=>?_⟩
  have e611:=e69.trans e11
  refine Ahl (p:=fun x=>∃l:List Int,LI H₁₁ x l/\l.length<=61) ⟨o,vo.ext e611,by omega⟩ ⟨lw,v7.ext (((e8.trans e9).trans e10).trans e11),hlw⟩ ⟨_,v10.ext e11,by rw[List.length_append];exact hla⟩ ⟨o,vo.ext e611,by omega⟩ hx
 rintro _ H₇ ⟨lr,rs,rfl,e7,hlr,hrs⟩
 refine seq (fun ρ H₈=>(Tg fun(lr:Nat) (rs:List Nat) (r8:Option V)=>Jy (ρ = [some (.script ns),some (.int m),some (.ref t),some (.ref nr),some (.ref w),some (.int cl),some (.ref od),some (.ref lr),r8,none,none,none,none,none]) (Ak H₇ H₈) (H₈ lr=some (.list (rs.map V.ref))) (P5 H₈ rs))) (fun N hN=>?_) ?_
 ·refine Ci (decide (cl/2%6=1)) (fun Q' h'=>?_) ?_
  ·simp (disch:=first|decide|omega) only[Zb,Zc,Zd,Ze,Zf,Zg,Zh,Zi,Zj,Zk,Zl,Zm,Zn,Zo,Zp,Zq,Zr,Zs,Zt,Zu,Zv,Zw,Zx,Zy,Zz,Z0,Z1,Z2,Z3,Z4,Z5,Z6,Z7,Z8,Z9,Bb,Bf,Bc,Bl,Ba,Bm,Bt,Bu,Bn,Bo,Bi,Bp,Az,Bj,Br,Bq,A9,Bv,Bg,Bk,List.map,Av,Aw,Ae,Ai,List.replicate,Ar,Au,A0,true_and]
   exact h'
  split
  rotate_left
  ·rw[Z2]
   exact hN _ _ ⟨lr,rs,_,rfl,Ak.refl,hlr,hrs⟩
  refine seq (fun ρ H₈=>(Ho fun(sp:Nat) (ls:List Int)=>Jy (ρ = [some (.script ns),some (.int m),some (.ref t),some (.ref nr),some (.ref w),some (.int cl),some (.ref od),some (.ref lr),some (.ref sp),none,none,none,none,none]) (Ak H₇ H₈) (LI H₈ sp ls) (ls.length<=61))) (fun N hN=>?_) ?_
  ·simp (disch:=first|decide|omega) only[Zb,Zc,Zd,Ze,Zf,Zg,Zh,Zi,Zj,Zk,Zl,Zm,Zn,Zo,Zp,Zq,Zr,Zs,Zt,Zu,Zv,Zw,Zx,Zy,Zz,Z0,Z1,Z2,Z3,Z4,Z5,Z6,Z7,Z8,Z9,Bb,Bf,Bc,Bl,Ba,Bm,Bt,Bu,Bn,Bo,Bi,Bp,Az,Bj,Br,Bq,A9,Bv,Bg,Bk,List.map,Av,Aw,Ae,Ai,List.replicate,Ar,Au,A0,true_and,F.spoilt,B.cellAt]
   refine De B.cellAt (by decide) ?_
   simp only[Zl,Ze,Ahc]
   refine⟨by decide,?_⟩
   rw[show (10:Int) ^ (20:Int).toNat=100000000000000000000 from rfl]
   (try dsimp only);(try simp (disch:=first|decide|omega) only[Zb,Zc,Zd,Ze,Zf,Zg,Zh,Zi,Zj,Zk,Zl,Zm,Zn,Zo,Zp,Zq,Zr,Zs,Zt,Zu,Zv,Zw,Zx,Zy,Zz,Z0,Z1,Z2,Z3,Z4,Z5,Z6,Z7,Z8,Z9,Bb,Bf,Bc,Bl,Ba,Bm,Bt,Bu,Bn,Bo,Bi,Bp,Az,Bj,Br,Bq,A9,Bv,Bg,Bk,List.map,Av,Aw,Ae,Ai,List.replicate,Ar,Au,A0,true_and])
   exact Uv F.spoilt (vo.ext e7) hol fun sp ls H₈ e8 _ v8 hls=>hN _ _ ⟨sp,ls,rfl,e8,v8,hls⟩
  rintro _ H₈ ⟨sp,ls,rfl,e8,vs,hls⟩
  rw[Z3]
  simp (disch:=first|decide|omega) only[Zb,Zc,Zd,Ze,Zf,Zg,Zh,Zi,Zj,Zk,Zl,Zm,Zn,Zo,Zp,Zq,Zr,Zs,Zt,Zu,Zv,Zw,Zx,Zy,Zz,Z0,Z1,Z2,Z3,Z4,Z5,Z6,Z7,Z8,Z9,Bb,Bf,Bc,Bl,Ba,Bm,Bt,Bu,Bn,Bo,Bi,Bp,Az,Bj,Br,Bq,A9,Bv,Bg,Bk,List.map,Av,Aw,Ae,Ai,List.replicate,Ar,Au,A0,true_and]
  rw[Ad5 vs]
  refine Ac fun rv H₉ e9 n9 v9=>?_
  (try dsimp only);(try simp (disch:=first|decide|omega) only[Zb,Zc,Zd,Ze,Zf,Zg,Zh,Zi,Zj,Zk,Zl,Zm,Zn,Zo,Zp,Zq,Zr,Zs,Zt,Zu,Zv,Zw,Zx,Zy,Zz,Z0,Z1,Z2,Z3,Z4,Z5,Z6,Z7,Z8,Z9,Bb,Bf,Bc,Bl,Ba,Bm,Bt,Bu,Bn,Bo,Bi,Bp,Az,Bj,Br,Bq,A9,Bv,Bg,Bk,List.map,Av,Aw,Ae,Ai,List.replicate,Ar,Au,A0,true_and])
  have v9':LI H₉ rv ls.reverse:=by unfold LI;rw[v9,List.map_reverse]
  refine Ac fun lr' H₁₀ e10 n10 v10=>?_
  try simp (disch:=first|decide|omega) only[Zb,Zc,Zd,Ze,Zf,Zg,Zh,Zi,Zj,Zk,Zl,Zm,Zn,Zo,Zp,Zq,Zr,Zs,Zt,Zu,Zv,Zw,Zx,Zy,Zz,Z0,Z1,Z2,Z3,Z4,Z5,Z6,Z7,Z8,Z9,Bb,Bf,Bc,Bl,Ba,Bm,Bt,Bu,Bn,Bo,Bi,Bp,Az,Bj,Br,Bq,A9,Bv,Bg,Bk,List.map,Av,Aw,Ae,Ai,List.replicate,Ar,Au,A0,true_and]
  refine hN _ _ ⟨lr',[sp,rv,od,sp],_,rfl,(e8.trans e9).trans e10,v10,fun x hx=>?_⟩
  refine Ahl (p:=fun x=>∃l:List Int,LI H₁₀ x l/\l.length<=61) ⟨ls,vs.ext (e9.trans e10),hls⟩ ⟨_,v9'.ext e10,by rw[List.length_reverse];exact hls⟩ ⟨o,vo.ext (((e7.trans e8).trans e9).trans e10),by omega⟩ ⟨ls,vs.ext (e9.trans e10),hls⟩ hx
 rintro _ H₈ ⟨lr,rs,r8,rfl,e8,hlr,hrs⟩
 have e48:=(e46.trans e7).trans e8
 refine seq (fun ρ H₉=>(Hn fun hd=>Jy (ρ = [some (.script ns),some (.int m),some (.ref t),some (.ref nr),some (.ref w),some (.int cl),some (.ref od),some (.ref lr),r8,some (.ref hd),none,none,none,none]) (Ak H₈ H₉) (H₈ hd=none) (H₉ hd=some (.list [])))) (fun N hN=>?_) ?_
 ·simp (disch:=first|decide|omega) only[Zb,Zc,Zd,Ze,Zf,Zg,Zh,Zi,Zj,Zk,Zl,Zm,Zn,Zo,Zp,Zq,Zr,Zs,Zt,Zu,Zv,Zw,Zx,Zy,Zz,Z0,Z1,Z2,Z3,Z4,Z5,Z6,Z7,Z8,Z9,Bb,Bf,Bc,Bl,Ba,Bm,Bt,Bu,Bn,Bo,Bi,Bp,Az,Bj,Br,Bq,A9,Bv,Bg,Bk,List.map,Av,Aw,Ae,Ai,List.replicate,Ar,Au,A0,true_and]
  exact Ac fun hd H₉ e9 n9 v9=>hN _ _ ⟨hd,rfl,e9,n9,v9⟩
 rintro _ H₉ ⟨hd,rfl,e9,n9,v9⟩
 exact Afx F hm (hN4.ext e48) (hW4.ext e48) hlr hrs n9 e9 v9 fun _=>rfl
end Mine.Internal.Cl
namespace Mine.Internal.Cl
open PySem PySem.W PyProof.Rows
set_option maxRecDepth 100000
set_option maxHeartbeats 8000000
theorem grd(P:Params):Kp (kk P)=true:=by kernel_rfl
theorem Ahm(P:Params):(Ko (kk P) (Hl (kk P)) "law").isSome=true:=by kernel_rfl
theorem bas(P:Params):Jt (Ou (kk P)):=by
 constructor<;>kernel_rfl
theorem fn1(P:Params):Fns (Ou (kk P)):=by
 refine⟨bas P,?_,?_⟩<;>kernel_rfl
theorem fn2(P:Params):Fw (Ou (kk P)):=by
 refine⟨fn1 P,?_,?_,?_,?_,?_,?_,?_,?_,?_,?_⟩<;>kernel_rfl
theorem fxs(P:Params):Xs (Ou (kk P)):=by
 constructor<;>kernel_rfl
theorem fdd(P:Params):FD (Ou (kk P)):=by
 refine⟨fn2 P,fxs P,?_,?_,?_,?_,?_⟩<;>kernel_rfl
theorem fns(P:Params):F07 (Ou (kk P)):=by
 refine⟨fdd P,?_,?_,?_,?_,?_,?_,?_,?_,?_,?_,?_⟩<;>kernel_rfl
theorem main{G:Ax}(F:F07 G)(H:AH){ns:List Int}:Ad G 40 "law" [.script ns] H (fun v _=>v = .bool true) EF:=Afy (n:=31) F H
theorem Ajp:PySem.Challenge.rw_uf020033_07.wellSaid=true:=by
 delta OpenLaw.wellSaid
 iterate 18 (refine look_both ?_ (by decide +kernel))
 decide +kernel
noncomputable def O3:DefRec×List (Str×Expr):=(defOf kq PySem.Challenge.rw_uf020033_07.row.name).get (by kernel_rfl)
theorem hD1:defOf kq PySem.Challenge.rw_uf020033_07.row.name=some (O3.1,O3.2):=by kernel_rfl
theorem hD2:PySem.Challenge.pw_uf020033_07.theDef PySem.Challenge.rw_uf020033_07.row.name=some (O3.1.params,O3.1.body,O3.1.scope):=by kernel_rfl
theorem hD3:kwWritten? O3.1.params.kwonlyargs O3.1.params.kw_defaults=some O3.2:=by kernel_rfl
theorem Ahn:PySem.Challenge.rw_uf020033_07.row.prog.bare:=⟨rfl,rfl,rfl,rfl,rfl,by decide +kernel⟩
theorem fin:PySem.Challenge.rw_uf020033_07.Holds:=by
 w_on
 refine holds_law Ajp fun said=>?_
 refine holds_open (q:=kq) (loose:=[]) (Xt:=fun s=>xlAt kq [] s&&recOk (RowW.records PySem.Challenge.rw_uf020033_07.row.toRowW) s) (XP:=XL kq []) (Yf:=Hook.obs kH) (Ya:=Hook.val kH) (YP:=Hook.says kH) (d:=O3.1) (kwd:=O3.2) (N:=5754) Ev (Hook.of kH) (Hook.keeps kH) (fun s e=>xl_of s (Bool.and_eq_true_iff.mp e).1) XL.keeps hD1 hD2 hD3 (fun s e=>recFacts_of (Bool.and_eq_true_iff.mp e).2) (by rfl) (by first|assumption|decide +kernel) (by decide +kernel) Ahn ?hw ?hc
 case hw=>w_witness2
 case hc=>
  intro w s₀ s₁ mg mb G Y fa o pm cd doc dV kV ho hd hcd hD hmg hg args vals as hpre hlay hrd hwl hlo
  have KX:(kk w.params).In s₁.heap:=kIn_of Y
  refine Ground.open G ?_
  intro T B D TE TW
  wrow_args hpre hlay hrd hwl hlo
  clear hcd hd hD ho Y G B TE TW D
  rename_i nsL _ _ _ _ _ _ _ la items _ hL _ _ _ hI _ hlen _
  exact Ac9 KX (topRead_of T) (grd _) (Ahm _) hmg hg hL hI (by omega) (main (fns _) _) (fun _=>rfl) (by first|kernel_rfl|decide +kernel|exact postW_of (X:=true) (by kernel_rfl) (by kernel_rfl) rfl)
end Mine.Internal.Cl
theorem PySem.Challenge.cw_uf020033_07_holds : PySem.Challenge.rw_uf020033_07.Holds :=
 Mine.Internal.Cl.fin
